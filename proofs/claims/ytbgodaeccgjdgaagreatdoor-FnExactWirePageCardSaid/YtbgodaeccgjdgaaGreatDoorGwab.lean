/- The walks: functions of the program return what their pure functions say. Printed by a program (gen.py). -/
import Derived.Test.YtbgodaeccgjdgaaGreatDoorGp
import Derived.Test.YtbgodaeccgjdgaaGreatDoorGt
import Derived.Test.YtbgodaeccgjdgaaGreatDoorMan
import Derived.Test.YtbgodaeccgjdgaaGreatDoorMap
import Derived.Test.YtbgodaeccgjdgaaGreatDoorGwaa
set_option linter.unusedSimpArgs false
set_option linter.unusedVariables false
set_option linter.unusedSectionVars false
namespace Go.Proofs.YtbgodaeccgjdgaaGreatDoor
open Go.RowKit
set_option maxHeartbeats 4000000 in
set_option maxRecDepth 20000 in
theorem c_s_l6Line (fl : Nat) (w : World) (a0 : Mc) (p0_0 : Option Addr) (n0_0 c0_0 : Nat) (p0_1 : Option Addr) (n0_1 c0_1 : Nat) (p0_2 : Option Addr) (n0_2 c0_2 : Nat) (p0_3 : Option Addr) (n0_3 c0_3 : Nat) (a1 : Ln) (hn0_0 : n0_0 = (a0.t.b).length) (hr0_0 : RO w (hkeys []) (RdL p0_0 c0_0 a0.t.b)) (hn0_1 : n0_1 = (a0.t.f).length) (hr0_1 : RO w (hkeys []) (RdL p0_1 c0_1 a0.t.f)) (hn0_2 : n0_2 = (a0.c.l).length) (hr0_2 : RO w (hkeys []) (RdL p0_2 c0_2 a0.c.l)) (hn0_3 : n0_3 = (a0.g.o).length) (hr0_3 : RO w (hkeys []) (RdL p0_3 c0_3 a0.g.o)) (r : Bool) (H0 : s_l6Line fl a0 a1 = some r) :
    Ct Tryz.prog 128 [.agg #[.slice p0_0 n0_0 c0_0, .slice p0_1 n0_1 c0_1, .slice p0_2 n0_2 c0_2, .int .i64 a0.c.h, .int .i64 a0.g.c, .int .i64 a0.g.n, .int .i64 a0.g.r, .slice p0_3 n0_3 c0_3, .int .i64 a0.s], .agg #[.bool a1.va, .int .i64 a1.tg, .int .i64 a1.pg, .int .i64 a1.fr, .int .i64 a1.ri, .bool a1.wi]] w [] (fun rv h' => rv = .bool r ∧ h' = []) := by
  obtain rfl := hn0_0
  obtain rfl := hn0_1
  obtain rfl := hn0_2
  obtain rfl := hn0_3
  unfold s_l6Line at H0
  refine ct_of_cw Tryz.func128 rfl Tryz.ntmps128 rfl (Sat.refl _ _) ?_
  refine sr (oE (stpU_box 0 rfl rfl) rfl ?_)
  rintro _ _ ⟨b1, rfl, rfl⟩
  refine oE (stpU_box 1 rfl rfl) rfl ?_
  rintro _ _ ⟨b2, rfl, rfl⟩
  refine oD (sg rfl) rfl (nn (sr (oD (sg rfl) rfl (nn (cw_seq (sr (oD (fA 1 Tryz.underlying112 rfl ts3 rfl rfl rfl) rfl (oD (lB 1 ts3 rfl rfl rfl) rfl (oD (stp_eql rfl rfl) rfl (oD (fA 2 Tryz.underlying112 rfl ts3 rfl rfl rfl) rfl (oD (lB 1 ts3 rfl rfl rfl) rfl (oD (stp_geq rfl rfl) rfl (oD (stp_neqB Tryz.underlying4 rfl rfl) rfl ?_)))))))))))))
  refine nn (cw_cond rfl (fun h3 => ?_) (fun h3 => ?_))
  · have H0 := cond_t H0 h3
    refine sr (oD (sg rfl) rfl (nn (cw_ret (kw_nx_ret ?_))))
    have q0 := Option.some.inj H0
    subst q0
    exact kw_ret Tryz.results128 (.cons (.tmp rfl) .nil) [] [] trivial (by decide) ⟨rfl, rfl⟩
  · have H0 := cond_f H0 h3
    refine cw_skip (kw_nx (cw_seq (sr (oD (fA 1 Tryz.underlying112 rfl ts3 rfl rfl rfl) rfl (oD (lB 1 ts3 rfl rfl rfl) rfl (oD (stp_neq rfl rfl) rfl (nn (cw_cond rfl (fun h4 => ?_) (fun h4 => ?_)))))))))
    · have H0 := cond_t H0 h4
      obtain ⟨x5, e5, H0⟩ := bind_some H0
      refine sr (oD (fA 4 Tryz.underlying47 rfl ts45 rfl rfl rfl) rfl (oD (stp_loadN (us := [_, _, _, _]) ts45 rfl (Cells.box (id := 0) rfl 4 rfl)) rfl (oD (fA 1 Tryz.underlying112 rfl ts3 rfl rfl rfl) rfl (oD (lB 1 ts3 rfl rfl rfl) rfl (oE (stpU_call (fun i => 2 + i) cf191 (fun w hw => c_s_SpaceOf fl w a0.g p0_3 ((a0.g.o).length) c0_3 a1.tg rfl (RO.pass hr0_3 hw) x5 e5) (sevs_cons rfl (sevs_cons rfl sevs_nil))) rfl ?_)))))
      rintro _ _ ⟨_, ⟨rfl, rfl⟩, rfl⟩
      refine oD (mv rfl) rfl (oD (stp_extract rfl rfl) rfl (oD (stp_extract rfl rfl) rfl (oD (sg rfl) rfl (oD (sg rfl) rfl (nn (cw_seq (sr (oD (mv rfl) rfl (oD (stp_not rfl) rfl (nn (cw_cond rfl (fun h6 => ?_) (fun h6 => ?_))))))))))))
      · have H0 := cond_t H0 h6
        refine sr (oD (sg rfl) rfl (nn (cw_ret (kw_nx_ret (kw_nx_ret ?_)))))
        have q0 := Option.some.inj H0
        subst q0
        exact kw_ret Tryz.results128 (.cons (.tmp rfl) .nil) [] [] trivial (by decide) ⟨rfl, rfl⟩
      · have H0 := cond_f H0 h6
        obtain ⟨x7, e7, H0⟩ := bind_some H0
        obtain ⟨x8, e8, H0⟩ := bind_some H0
        refine cw_skip (kw_nx (cw_region (oD (mv rfl) rfl (oD (sg rfl) rfl (nn (cw_seq (rdr g_mixed [2, 3, 5] [0, 1] { dst := dS [33, 34, 35, 36, 37, 38, 39, 32, 40, 41, 9, 10], pre := gA [] [[], [0], [], [], [3], [2, 3, 4], rn 0 6, rn 0 7, rn 0 8, rn 0 8, rn 0 9, rn 0 11], ids := fun _ => [], rs := rL [[(2, 0)], [(32, 1)], [(5, 0)], [(3, 0)], [(35, 4)], [(34, 3), (36, 5)], [(33, 2), (37, 6)], [(38, 7)], [(31, 8)], [(31, 8)], [(39, 9)], [(40, 10)]], rh := rL [[], [(0, 0)], [], [], [(1, 0)]], V := fun i g => gA undef [.pointer (some ⟨b1, 0, none⟩), .agg #[.slice p0_0 ((a0.t.b).length) c0_0, .slice p0_1 ((a0.t.f).length) c0_1], .int .i64 x5.1, .pointer (some ⟨b2, 2, none⟩), .int .i64 a1.pg, .agg #[.int .i64 x7.s, .int .i64 x7.p], .tuple #[.int .i64 x8.1, .int .i64 x8.2], .tuple #[.int .i64 x8.1, .int .i64 x8.2], .int .i64 x8.1, .int .i64 x8.2, .int .i64 x8.1, .int .i64 x8.2] i, U := fun _ _ => [], Φ := fun _ _ => True } ?_ ?_)))))))
        · refine ⟨⟨⟨⟨⟨⟨⟨⟨⟨⟨⟨⟨trivial, lc rfl rfl fun hs hh => stp_fieldAddr (j := 0) Tryz.underlying47 rfl ts39 rfl (sv hs 2 rfl) rfl⟩, lc rfl rfl fun hs hh => stp_loadN (us := [_, _]) ts39 (sv hs 32 rfl) (Cells.box (id := 0) (hh.get 0 _ rfl) 2 rfl)⟩, lc rfl rfl fun hs hh => stp_move (sv hs 5 rfl)⟩, lc rfl rfl fun hs hh => stp_fieldAddr (j := 2) Tryz.underlying112 rfl ts3 rfl (sv hs 3 rfl) rfl⟩, lc rfl rfl fun hs hh => stp_load1 ts3 (sv hs 35 rfl) (Cells.box (id := 1) (hh.get 1 _ rfl) 1 rfl)⟩, ?_⟩, ?_⟩, lc rfl rfl fun hs hh => stp_move (sv hs 38 rfl)⟩, lc rfl rfl fun hs hh => stp_extract (sv hs 31 rfl) rfl⟩, lc rfl rfl fun hs hh => stp_extract (sv hs 31 rfl) rfl⟩, lc rfl rfl fun hs hh => stp_assign (sv hs 39 rfl)⟩, lc rfl rfl fun hs hh => stp_assign (sv hs 40 rfl)⟩
          · refine le rfl rfl (fun g hΦ s h hs hh => (stpU_call (fun i => 2 + i) cf87 (fun w hw => c_s_KeyFor fl w x5.1 a1.pg x7 e7) (sevs_cons (sv hs 34 rfl) (sevs_cons (sv hs 36 rfl) sevs_nil)))) ?_
            rintro g _ _ ⟨_, ⟨rfl, rfl⟩, rfl⟩
            exact ⟨⟨[], [], []⟩, trivial, .inr rfl, rfl⟩
          · refine le rfl rfl (fun g hΦ s h hs hh => (stpU_call (fun i => 2 + i) cf86 (fun w hw => c_s_l3Find fl w a0.t p0_0 ((a0.t.b).length) c0_0 p0_1 ((a0.t.f).length) c0_1 x7 rfl (RO.pass hr0_0 hw) rfl (RO.pass hr0_1 hw) x8 e8) (sevs_cons (sv hs 33 rfl) (sevs_cons (sv hs 37 rfl) sevs_nil)))) ?_
            rintro g _ _ ⟨_, ⟨rfl, rfl⟩, rfl⟩
            exact ⟨⟨[], [], []⟩, trivial, .inr rfl, rfl⟩
        · intro g hΦ
          refine KW.sub (s' := [(2, .pointer (some ⟨b1, 0, none⟩)), (3, .pointer (some ⟨b2, 0, none⟩)), (8, .int .i64 x8.1)]) (h' := [(0, [(b1, .cells #[.slice p0_0 ((a0.t.b).length) c0_0, .slice p0_1 ((a0.t.f).length) c0_1, .slice p0_2 ((a0.c.l).length) c0_2, .int .i64 a0.c.h, .int .i64 a0.g.c, .int .i64 a0.g.n, .int .i64 a0.g.r, .slice p0_3 ((a0.g.o).length) c0_3, .int .i64 a0.s] 47 (0, 0))]), (1, [(b2, .cells #[.bool a1.va, .int .i64 a1.tg, .int .i64 a1.pg, .int .i64 a1.fr, .int .i64 a1.ri, .bool a1.wi] 112 (0, 0))])]) ?_ ⟨rfl, rfl, rfl, trivial⟩ ⟨rfl, rfl, trivial⟩
          obtain ⟨y9, ey9, H0⟩ := bind_some H0
          obtain ⟨y10, ey10, H0⟩ := bind_some H0
          obtain ⟨y12, ey12, H0⟩ := bind_some H0
          refine kw_nx (cw_seq (cw_join (ι := Unit) (fun | _ => True) (fun | _ => [(4, .bool y12)]) (fun | _ => []) ?_ ?_))
          · rcases Bool.eq_false_or_eq_true (decide (0 ≤ x8.1)) with hy9 | hy9
            · have ey9 := cond_t ey9 hy9
              have qy9 := Option.some.inj ey9
              rcases Bool.eq_false_or_eq_true y9 with hy10 | hy10
              · have ey10 := cond_t ey10 hy10
                obtain ⟨x11, e11, ey10⟩ := bind_some ey10
                have qy10 := Option.some.inj ey10
                rcases Bool.eq_false_or_eq_true y10 with hy12 | hy12
                · have ey12 := cond_t ey12 hy12
                  obtain ⟨y13, ey13, ey12⟩ := bind_some ey12
                  rcases Bool.eq_false_or_eq_true (!a1.wi) with hy13 | hy13
                  · have ey13 := cond_t ey13 hy13
                    have qy13 := Option.some.inj ey13
                    have qy12 := Option.some.inj ey12
                    refine rdr g_mixed [2, 3, 8] [0, 1] { dst := dS [42, 43, 44, 45, 46, 47, 48, 49, 50, 51, 52, 53, 54, 55, 56, 57, 58, 59, 60, 61, 62, 63, 64, 65, 66, 67, 68, 69, 70, 71, 5], pre := gA [] [[], [0], [0, 1], [0, 1, 2], [0, 1, 2], [0, 1, 2, 4], rn 0 6, rn 0 7, rn 0 8, rn 0 9, rn 0 10, rn 0 11, rn 0 9, rn 0 13, rn 0 14, rn 0 15, rn 0 9, [0, 1, 2, 3, 4, 5, 6, 7, 8, 16], rn 0 18, rn 0 19, rn 0 20, rn 0 21, rn 0 22, rn 0 23, rn 0 24, rn 0 25, rn 0 26, rn 0 27, rn 0 28, rn 0 29, rn 0 30], ids := fun _ => [], rs := rL [[(8, 0)], [(41, 1)], [(42, 2)], [(8, 0), (43, 3)], [(3, 0), (43, 3)], [(45, 5), (43, 3)], [(44, 4), (46, 6), (43, 3)], [(43, 3), (47, 7)], [(48, 8)], [(2, 0), (49, 9)], [(50, 10), (49, 9)], [(51, 11), (49, 9)], [(8, 0), (49, 9)], [(52, 12), (53, 13), (49, 9)], [(54, 14), (49, 9)], [(55, 15), (49, 9)], [(3, 0), (49, 9)], [(57, 17), (49, 9)], [(56, 16), (58, 18), (49, 9)], [(49, 9), (59, 19)], [(60, 20)], [(3, 0), (61, 21)], [(62, 22), (61, 21)], [(63, 23), (61, 21)], [(64, 24), (61, 21)], [(65, 25)], [(65, 25)], [(65, 25)], [(65, 25), (68, 28), (61, 21)], [(61, 21), (69, 29)], [(70, 30)]], rh := rL [[], [], [], [], [], [(1, 0)], [], [], [], [], [], [(0, 0)], [], [], [], [], [], [(1, 0)], [], [], [], [], [(1, 0)]], V := fun i g => gA undef [.int .i64 x8.1, .bool (decide (0 ≤ x8.1)), .bool (decide (0 ≤ x8.1)), .int .i64 x8.1, .pointer (some ⟨b2, 3, none⟩), .int .i64 a1.fr, .bool (x8.1 == a1.fr), .bool y9, .bool y9, .pointer (some ⟨b1, 0, none⟩), .pointer (some ⟨b1, 1, none⟩), .slice p0_1 ((a0.t.f).length) c0_1, .int .i64 x8.1, .pointer (some ⟨eB p0_1, eO p0_1 + Int.toNat x8.1 * Enc.sz F + 0, none⟩), .pointer (some ⟨eB p0_1, eO p0_1 + Int.toNat x8.1 * Enc.sz F + 3, none⟩), .int .i64 x11.r, .pointer (some ⟨b2, 4, none⟩), .int .i64 a1.ri, .bool (x11.r == a1.ri), .bool y10, .bool y10, .pointer (some ⟨b2, 5, none⟩), .bool a1.wi, .bool (!a1.wi), .bool (!a1.wi), undef, undef, undef, .bool y13, .bool y12, .bool y12] i, U := fun _ _ => [], Φ := fun _ _ => True } ?_ ?_
                    · exact ⟨⟨⟨⟨⟨⟨⟨⟨⟨⟨⟨⟨⟨⟨⟨⟨⟨⟨⟨⟨⟨⟨⟨⟨⟨⟨⟨⟨⟨⟨⟨trivial, lc rfl rfl fun hs hh => stp_move (sv hs 8 rfl)⟩, lc rfl rfl fun hs hh => stp_geq (sv hs 41 rfl) rfl⟩, lc rfl rfl fun hs hh => stp_move (sv hs 42 rfl)⟩, lg rfl rfl 43 hy9 fun hs hh => stp_move (sv hs 8 rfl)⟩, lg rfl rfl 43 hy9 fun hs hh => stp_fieldAddr (j := 3) Tryz.underlying112 rfl ts3 rfl (sv hs 3 rfl) rfl⟩, lg rfl rfl 43 hy9 fun hs hh => stp_load1 ts3 (sv hs 45 rfl) (Cells.box (id := 1) (hh.get 1 _ rfl) 1 rfl)⟩, lg rfl rfl 43 hy9 fun hs hh => stp_eql (sv hs 44 rfl) (sv hs 46 rfl)⟩, lc rfl rfl fun hs hh => stp_pick_tB (sv hs 43 rfl) hy9 (sv hs 47 rfl) qy9⟩, lc rfl rfl fun hs hh => stp_move (sv hs 48 rfl)⟩, lg rfl rfl 49 hy10 fun hs hh => stp_fieldAddr (j := 0) Tryz.underlying47 rfl ts39 rfl (sv hs 2 rfl) rfl⟩, lg rfl rfl 49 hy10 fun hs hh => stp_fieldAddr (j := 1) Tryz.underlying39 rfl ts37 rfl (sv hs 50 rfl) rfl⟩, lg rfl rfl 49 hy10 fun hs hh => stp_load1 ts37 (sv hs 51 rfl) (Cells.box (id := 0) (hh.get 0 _ rfl) 1 rfl)⟩, lg rfl rfl 49 hy10 fun hs hh => stp_move (sv hs 8 rfl)⟩, lg rfl rfl 49 hy10 fun hs hh => stp_indexAddr Tryz.underlying37 ts127 (by decide) (sv hs 52 rfl) rfl (sv hs 53 rfl) (Rdb.ro hr0_1) e11⟩, lg rfl rfl 49 hy10 fun hs hh => stp_fieldAddr (j := 3) Tryz.underlying127 rfl ts3 rfl (sv hs 54 rfl) rfl⟩, lg rfl rfl 49 hy10 fun hs hh => stp_load1 ts3 (sv hs 55 rfl) (Cells.el (Rdb.ro hr0_1) (by decide) e11 3 1 rfl)⟩, lg rfl rfl 49 hy10 fun hs hh => stp_fieldAddr (j := 4) Tryz.underlying112 rfl ts3 rfl (sv hs 3 rfl) rfl⟩, lg rfl rfl 49 hy10 fun hs hh => stp_load1 ts3 (sv hs 57 rfl) (Cells.box (id := 1) (hh.get 1 _ rfl) 1 rfl)⟩, lg rfl rfl 49 hy10 fun hs hh => stp_eql (sv hs 56 rfl) (sv hs 58 rfl)⟩, lc rfl rfl fun hs hh => stp_pick_tB (sv hs 49 rfl) hy10 (sv hs 59 rfl) qy10⟩, lc rfl rfl fun hs hh => stp_move (sv hs 60 rfl)⟩, lg rfl rfl 61 hy12 fun hs hh => stp_fieldAddr (j := 5) Tryz.underlying112 rfl ts4 rfl (sv hs 3 rfl) rfl⟩, lg rfl rfl 61 hy12 fun hs hh => stp_load1 ts4 (sv hs 62 rfl) (Cells.box (id := 1) (hh.get 1 _ rfl) 1 rfl)⟩, lg rfl rfl 61 hy12 fun hs hh => stp_not (sv hs 63 rfl)⟩, lg rfl rfl 61 hy12 fun hs hh => stp_move (sv hs 64 rfl)⟩, lo rfl rfl 65 hy13⟩, lo rfl rfl 65 hy13⟩, lo rfl rfl 65 hy13⟩, lg rfl rfl 61 hy12 fun hs hh => stp_pick_tB (sv hs 65 rfl) hy13 rfl qy13⟩, lc rfl rfl fun hs hh => stp_pick_tB (sv hs 61 rfl) hy12 (sv hs 69 rfl) qy12⟩, lc rfl rfl fun hs hh => stp_assign (sv hs 70 rfl)⟩
                    · intro g hΦ
                      exact kw_join () trivial ⟨rfl, trivial⟩ trivial
                  · have ey13 := cond_f ey13 hy13
                    have qy13 := Option.some.inj ey13
                    have qy12 := Option.some.inj ey12
                    refine rdr g_mixed [2, 3, 8] [0, 1] { dst := dS [42, 43, 44, 45, 46, 47, 48, 49, 50, 51, 52, 53, 54, 55, 56, 57, 58, 59, 60, 61, 62, 63, 64, 65, 66, 67, 68, 69, 70, 71, 5], pre := gA [] [[], [0], [0, 1], [0, 1, 2], [0, 1, 2], [0, 1, 2, 4], rn 0 6, rn 0 7, rn 0 8, rn 0 9, rn 0 10, rn 0 11, rn 0 9, rn 0 13, rn 0 14, rn 0 15, rn 0 9, [0, 1, 2, 3, 4, 5, 6, 7, 8, 16], rn 0 18, rn 0 19, rn 0 20, rn 0 21, rn 0 22, rn 0 23, rn 0 24, rn 0 25, rn 0 26, rn 0 27, rn 0 28, rn 0 29, rn 0 30], ids := fun _ => [], rs := rL [[(8, 0)], [(41, 1)], [(42, 2)], [(8, 0), (43, 3)], [(3, 0), (43, 3)], [(45, 5), (43, 3)], [(44, 4), (46, 6), (43, 3)], [(43, 3), (47, 7)], [(48, 8)], [(2, 0), (49, 9)], [(50, 10), (49, 9)], [(51, 11), (49, 9)], [(8, 0), (49, 9)], [(52, 12), (53, 13), (49, 9)], [(54, 14), (49, 9)], [(55, 15), (49, 9)], [(3, 0), (49, 9)], [(57, 17), (49, 9)], [(56, 16), (58, 18), (49, 9)], [(49, 9), (59, 19)], [(60, 20)], [(3, 0), (61, 21)], [(62, 22), (61, 21)], [(63, 23), (61, 21)], [(64, 24), (61, 21)], [(3, 0), (65, 25)], [(66, 26), (65, 25)], [(67, 27), (65, 25)], [(65, 25), (68, 28), (61, 21)], [(61, 21), (69, 29)], [(70, 30)]], rh := rL [[], [], [], [], [], [(1, 0)], [], [], [], [], [], [(0, 0)], [], [], [], [], [], [(1, 0)], [], [], [], [], [(1, 0)], [], [], [], [(1, 0)]], V := fun i g => gA undef [.int .i64 x8.1, .bool (decide (0 ≤ x8.1)), .bool (decide (0 ≤ x8.1)), .int .i64 x8.1, .pointer (some ⟨b2, 3, none⟩), .int .i64 a1.fr, .bool (x8.1 == a1.fr), .bool y9, .bool y9, .pointer (some ⟨b1, 0, none⟩), .pointer (some ⟨b1, 1, none⟩), .slice p0_1 ((a0.t.f).length) c0_1, .int .i64 x8.1, .pointer (some ⟨eB p0_1, eO p0_1 + Int.toNat x8.1 * Enc.sz F + 0, none⟩), .pointer (some ⟨eB p0_1, eO p0_1 + Int.toNat x8.1 * Enc.sz F + 3, none⟩), .int .i64 x11.r, .pointer (some ⟨b2, 4, none⟩), .int .i64 a1.ri, .bool (x11.r == a1.ri), .bool y10, .bool y10, .pointer (some ⟨b2, 5, none⟩), .bool a1.wi, .bool (!a1.wi), .bool (!a1.wi), .pointer (some ⟨b2, 1, none⟩), .int .i64 a1.tg, .bool (a1.tg == (-1)), .bool y13, .bool y12, .bool y12] i, U := fun _ _ => [], Φ := fun _ _ => True } ?_ ?_
                    · exact ⟨⟨⟨⟨⟨⟨⟨⟨⟨⟨⟨⟨⟨⟨⟨⟨⟨⟨⟨⟨⟨⟨⟨⟨⟨⟨⟨⟨⟨⟨⟨trivial, lc rfl rfl fun hs hh => stp_move (sv hs 8 rfl)⟩, lc rfl rfl fun hs hh => stp_geq (sv hs 41 rfl) rfl⟩, lc rfl rfl fun hs hh => stp_move (sv hs 42 rfl)⟩, lg rfl rfl 43 hy9 fun hs hh => stp_move (sv hs 8 rfl)⟩, lg rfl rfl 43 hy9 fun hs hh => stp_fieldAddr (j := 3) Tryz.underlying112 rfl ts3 rfl (sv hs 3 rfl) rfl⟩, lg rfl rfl 43 hy9 fun hs hh => stp_load1 ts3 (sv hs 45 rfl) (Cells.box (id := 1) (hh.get 1 _ rfl) 1 rfl)⟩, lg rfl rfl 43 hy9 fun hs hh => stp_eql (sv hs 44 rfl) (sv hs 46 rfl)⟩, lc rfl rfl fun hs hh => stp_pick_tB (sv hs 43 rfl) hy9 (sv hs 47 rfl) qy9⟩, lc rfl rfl fun hs hh => stp_move (sv hs 48 rfl)⟩, lg rfl rfl 49 hy10 fun hs hh => stp_fieldAddr (j := 0) Tryz.underlying47 rfl ts39 rfl (sv hs 2 rfl) rfl⟩, lg rfl rfl 49 hy10 fun hs hh => stp_fieldAddr (j := 1) Tryz.underlying39 rfl ts37 rfl (sv hs 50 rfl) rfl⟩, lg rfl rfl 49 hy10 fun hs hh => stp_load1 ts37 (sv hs 51 rfl) (Cells.box (id := 0) (hh.get 0 _ rfl) 1 rfl)⟩, lg rfl rfl 49 hy10 fun hs hh => stp_move (sv hs 8 rfl)⟩, lg rfl rfl 49 hy10 fun hs hh => stp_indexAddr Tryz.underlying37 ts127 (by decide) (sv hs 52 rfl) rfl (sv hs 53 rfl) (Rdb.ro hr0_1) e11⟩, lg rfl rfl 49 hy10 fun hs hh => stp_fieldAddr (j := 3) Tryz.underlying127 rfl ts3 rfl (sv hs 54 rfl) rfl⟩, lg rfl rfl 49 hy10 fun hs hh => stp_load1 ts3 (sv hs 55 rfl) (Cells.el (Rdb.ro hr0_1) (by decide) e11 3 1 rfl)⟩, lg rfl rfl 49 hy10 fun hs hh => stp_fieldAddr (j := 4) Tryz.underlying112 rfl ts3 rfl (sv hs 3 rfl) rfl⟩, lg rfl rfl 49 hy10 fun hs hh => stp_load1 ts3 (sv hs 57 rfl) (Cells.box (id := 1) (hh.get 1 _ rfl) 1 rfl)⟩, lg rfl rfl 49 hy10 fun hs hh => stp_eql (sv hs 56 rfl) (sv hs 58 rfl)⟩, lc rfl rfl fun hs hh => stp_pick_tB (sv hs 49 rfl) hy10 (sv hs 59 rfl) qy10⟩, lc rfl rfl fun hs hh => stp_move (sv hs 60 rfl)⟩, lg rfl rfl 61 hy12 fun hs hh => stp_fieldAddr (j := 5) Tryz.underlying112 rfl ts4 rfl (sv hs 3 rfl) rfl⟩, lg rfl rfl 61 hy12 fun hs hh => stp_load1 ts4 (sv hs 62 rfl) (Cells.box (id := 1) (hh.get 1 _ rfl) 1 rfl)⟩, lg rfl rfl 61 hy12 fun hs hh => stp_not (sv hs 63 rfl)⟩, lg rfl rfl 61 hy12 fun hs hh => stp_move (sv hs 64 rfl)⟩, lg rfl rfl 65 hy13 fun hs hh => stp_fieldAddr (j := 1) Tryz.underlying112 rfl ts3 rfl (sv hs 3 rfl) rfl⟩, lg rfl rfl 65 hy13 fun hs hh => stp_load1 ts3 (sv hs 66 rfl) (Cells.box (id := 1) (hh.get 1 _ rfl) 1 rfl)⟩, lg rfl rfl 65 hy13 fun hs hh => stp_eql (sv hs 67 rfl) rfl⟩, lg rfl rfl 61 hy12 fun hs hh => stp_pick_fB (sv hs 65 rfl) hy13 (sv hs 68 rfl) qy13⟩, lc rfl rfl fun hs hh => stp_pick_tB (sv hs 61 rfl) hy12 (sv hs 69 rfl) qy12⟩, lc rfl rfl fun hs hh => stp_assign (sv hs 70 rfl)⟩
                    · intro g hΦ
                      exact kw_join () trivial ⟨rfl, trivial⟩ trivial
                · have ey12 := cond_f ey12 hy12
                  have qy12 := Option.some.inj ey12
                  refine rdr g_mixed [2, 3, 8] [0, 1] { dst := dS [42, 43, 44, 45, 46, 47, 48, 49, 50, 51, 52, 53, 54, 55, 56, 57, 58, 59, 60, 61, 62, 63, 64, 65, 66, 67, 68, 69, 70, 71, 5], pre := gA [] [[], [0], [0, 1], [0, 1, 2], [0, 1, 2], [0, 1, 2, 4], rn 0 6, rn 0 7, rn 0 8, rn 0 9, rn 0 10, rn 0 11, rn 0 9, rn 0 13, rn 0 14, rn 0 15, rn 0 9, [0, 1, 2, 3, 4, 5, 6, 7, 8, 16], rn 0 18, rn 0 19, rn 0 20, rn 0 21, rn 0 22, rn 0 23, rn 0 24, rn 0 25, rn 0 26, rn 0 27, rn 0 28, rn 0 29, rn 0 30], ids := fun _ => [], rs := rL [[(8, 0)], [(41, 1)], [(42, 2)], [(8, 0), (43, 3)], [(3, 0), (43, 3)], [(45, 5), (43, 3)], [(44, 4), (46, 6), (43, 3)], [(43, 3), (47, 7)], [(48, 8)], [(2, 0), (49, 9)], [(50, 10), (49, 9)], [(51, 11), (49, 9)], [(8, 0), (49, 9)], [(52, 12), (53, 13), (49, 9)], [(54, 14), (49, 9)], [(55, 15), (49, 9)], [(3, 0), (49, 9)], [(57, 17), (49, 9)], [(56, 16), (58, 18), (49, 9)], [(49, 9), (59, 19)], [(60, 20)], [(61, 21)], [(61, 21)], [(61, 21)], [(61, 21)], [(65, 25)], [(65, 25)], [(65, 25)], [(61, 21)], [(61, 21), (69, 29)], [(70, 30)]], rh := rL [[], [], [], [], [], [(1, 0)], [], [], [], [], [], [(0, 0)], [], [], [], [], [], [(1, 0)]], V := fun i g => gA undef [.int .i64 x8.1, .bool (decide (0 ≤ x8.1)), .bool (decide (0 ≤ x8.1)), .int .i64 x8.1, .pointer (some ⟨b2, 3, none⟩), .int .i64 a1.fr, .bool (x8.1 == a1.fr), .bool y9, .bool y9, .pointer (some ⟨b1, 0, none⟩), .pointer (some ⟨b1, 1, none⟩), .slice p0_1 ((a0.t.f).length) c0_1, .int .i64 x8.1, .pointer (some ⟨eB p0_1, eO p0_1 + Int.toNat x8.1 * Enc.sz F + 0, none⟩), .pointer (some ⟨eB p0_1, eO p0_1 + Int.toNat x8.1 * Enc.sz F + 3, none⟩), .int .i64 x11.r, .pointer (some ⟨b2, 4, none⟩), .int .i64 a1.ri, .bool (x11.r == a1.ri), .bool y10, .bool y10, undef, undef, undef, undef, undef, undef, undef, undef, .bool y12, .bool y12] i, U := fun _ _ => [], Φ := fun _ _ => True } ?_ ?_
                  · exact ⟨⟨⟨⟨⟨⟨⟨⟨⟨⟨⟨⟨⟨⟨⟨⟨⟨⟨⟨⟨⟨⟨⟨⟨⟨⟨⟨⟨⟨⟨⟨trivial, lc rfl rfl fun hs hh => stp_move (sv hs 8 rfl)⟩, lc rfl rfl fun hs hh => stp_geq (sv hs 41 rfl) rfl⟩, lc rfl rfl fun hs hh => stp_move (sv hs 42 rfl)⟩, lg rfl rfl 43 hy9 fun hs hh => stp_move (sv hs 8 rfl)⟩, lg rfl rfl 43 hy9 fun hs hh => stp_fieldAddr (j := 3) Tryz.underlying112 rfl ts3 rfl (sv hs 3 rfl) rfl⟩, lg rfl rfl 43 hy9 fun hs hh => stp_load1 ts3 (sv hs 45 rfl) (Cells.box (id := 1) (hh.get 1 _ rfl) 1 rfl)⟩, lg rfl rfl 43 hy9 fun hs hh => stp_eql (sv hs 44 rfl) (sv hs 46 rfl)⟩, lc rfl rfl fun hs hh => stp_pick_tB (sv hs 43 rfl) hy9 (sv hs 47 rfl) qy9⟩, lc rfl rfl fun hs hh => stp_move (sv hs 48 rfl)⟩, lg rfl rfl 49 hy10 fun hs hh => stp_fieldAddr (j := 0) Tryz.underlying47 rfl ts39 rfl (sv hs 2 rfl) rfl⟩, lg rfl rfl 49 hy10 fun hs hh => stp_fieldAddr (j := 1) Tryz.underlying39 rfl ts37 rfl (sv hs 50 rfl) rfl⟩, lg rfl rfl 49 hy10 fun hs hh => stp_load1 ts37 (sv hs 51 rfl) (Cells.box (id := 0) (hh.get 0 _ rfl) 1 rfl)⟩, lg rfl rfl 49 hy10 fun hs hh => stp_move (sv hs 8 rfl)⟩, lg rfl rfl 49 hy10 fun hs hh => stp_indexAddr Tryz.underlying37 ts127 (by decide) (sv hs 52 rfl) rfl (sv hs 53 rfl) (Rdb.ro hr0_1) e11⟩, lg rfl rfl 49 hy10 fun hs hh => stp_fieldAddr (j := 3) Tryz.underlying127 rfl ts3 rfl (sv hs 54 rfl) rfl⟩, lg rfl rfl 49 hy10 fun hs hh => stp_load1 ts3 (sv hs 55 rfl) (Cells.el (Rdb.ro hr0_1) (by decide) e11 3 1 rfl)⟩, lg rfl rfl 49 hy10 fun hs hh => stp_fieldAddr (j := 4) Tryz.underlying112 rfl ts3 rfl (sv hs 3 rfl) rfl⟩, lg rfl rfl 49 hy10 fun hs hh => stp_load1 ts3 (sv hs 57 rfl) (Cells.box (id := 1) (hh.get 1 _ rfl) 1 rfl)⟩, lg rfl rfl 49 hy10 fun hs hh => stp_eql (sv hs 56 rfl) (sv hs 58 rfl)⟩, lc rfl rfl fun hs hh => stp_pick_tB (sv hs 49 rfl) hy10 (sv hs 59 rfl) qy10⟩, lc rfl rfl fun hs hh => stp_move (sv hs 60 rfl)⟩, lo rfl rfl 61 hy12⟩, lo rfl rfl 61 hy12⟩, lo rfl rfl 61 hy12⟩, lo rfl rfl 61 hy12⟩, lx rfl rfl 65⟩, lx rfl rfl 65⟩, lx rfl rfl 65⟩, lo rfl rfl 61 hy12⟩, lc rfl rfl fun hs hh => stp_pick_fB (sv hs 61 rfl) hy12 rfl qy12⟩, lc rfl rfl fun hs hh => stp_assign (sv hs 70 rfl)⟩
                  · intro g hΦ
                    exact kw_join () trivial ⟨rfl, trivial⟩ trivial
              · have ey10 := cond_f ey10 hy10
                have qy10 := Option.some.inj ey10
                have hy12 : y10 = false := by rw [← qy10]
                have ey12 := cond_f ey12 hy12
                have qy12 := Option.some.inj ey12
                refine rdr g_mixed [3, 8] [1] { dst := dS [42, 43, 44, 45, 46, 47, 48, 49, 50, 51, 52, 53, 54, 55, 56, 57, 58, 59, 60, 61, 62, 63, 64, 65, 66, 67, 68, 69, 70, 71, 5], pre := gA [] [[], [0], [0, 1], [0, 1, 2], [0, 1, 2], [0, 1, 2, 4], rn 0 6, rn 0 7, rn 0 8, rn 0 9, rn 0 10, rn 0 11, rn 0 9, rn 0 13, rn 0 14, rn 0 15, rn 0 9, [0, 1, 2, 3, 4, 5, 6, 7, 8, 16], rn 0 18, rn 0 19, rn 0 20, rn 0 21, rn 0 22, rn 0 23, rn 0 24, rn 0 25, rn 0 26, rn 0 27, rn 0 28, rn 0 29, rn 0 30], ids := fun _ => [], rs := rL [[(8, 0)], [(41, 1)], [(42, 2)], [(8, 0), (43, 3)], [(3, 0), (43, 3)], [(45, 5), (43, 3)], [(44, 4), (46, 6), (43, 3)], [(43, 3), (47, 7)], [(48, 8)], [(49, 9)], [(49, 9)], [(49, 9)], [(49, 9)], [(49, 9)], [(49, 9)], [(49, 9)], [(49, 9)], [(49, 9)], [(49, 9)], [(49, 9), (59, 19)], [(60, 20)], [(61, 21)], [(61, 21)], [(61, 21)], [(61, 21)], [(65, 25)], [(65, 25)], [(65, 25)], [(61, 21)], [(61, 21), (69, 29)], [(70, 30)]], rh := rL [[], [], [], [], [], [(1, 0)]], V := fun i g => gA undef [.int .i64 x8.1, .bool (decide (0 ≤ x8.1)), .bool (decide (0 ≤ x8.1)), .int .i64 x8.1, .pointer (some ⟨b2, 3, none⟩), .int .i64 a1.fr, .bool (x8.1 == a1.fr), .bool y9, .bool y9, undef, undef, undef, undef, undef, undef, undef, undef, undef, undef, .bool y10, .bool y10, undef, undef, undef, undef, undef, undef, undef, undef, .bool y12, .bool y12] i, U := fun _ _ => [], Φ := fun _ _ => True } ?_ ?_
                · exact ⟨⟨⟨⟨⟨⟨⟨⟨⟨⟨⟨⟨⟨⟨⟨⟨⟨⟨⟨⟨⟨⟨⟨⟨⟨⟨⟨⟨⟨⟨⟨trivial, lc rfl rfl fun hs hh => stp_move (sv hs 8 rfl)⟩, lc rfl rfl fun hs hh => stp_geq (sv hs 41 rfl) rfl⟩, lc rfl rfl fun hs hh => stp_move (sv hs 42 rfl)⟩, lg rfl rfl 43 hy9 fun hs hh => stp_move (sv hs 8 rfl)⟩, lg rfl rfl 43 hy9 fun hs hh => stp_fieldAddr (j := 3) Tryz.underlying112 rfl ts3 rfl (sv hs 3 rfl) rfl⟩, lg rfl rfl 43 hy9 fun hs hh => stp_load1 ts3 (sv hs 45 rfl) (Cells.box (id := 1) (hh.get 1 _ rfl) 1 rfl)⟩, lg rfl rfl 43 hy9 fun hs hh => stp_eql (sv hs 44 rfl) (sv hs 46 rfl)⟩, lc rfl rfl fun hs hh => stp_pick_tB (sv hs 43 rfl) hy9 (sv hs 47 rfl) qy9⟩, lc rfl rfl fun hs hh => stp_move (sv hs 48 rfl)⟩, lo rfl rfl 49 hy10⟩, lo rfl rfl 49 hy10⟩, lo rfl rfl 49 hy10⟩, lo rfl rfl 49 hy10⟩, lo rfl rfl 49 hy10⟩, lo rfl rfl 49 hy10⟩, lo rfl rfl 49 hy10⟩, lo rfl rfl 49 hy10⟩, lo rfl rfl 49 hy10⟩, lo rfl rfl 49 hy10⟩, lc rfl rfl fun hs hh => stp_pick_fB (sv hs 49 rfl) hy10 rfl qy10⟩, lc rfl rfl fun hs hh => stp_move (sv hs 60 rfl)⟩, lo rfl rfl 61 hy12⟩, lo rfl rfl 61 hy12⟩, lo rfl rfl 61 hy12⟩, lo rfl rfl 61 hy12⟩, lx rfl rfl 65⟩, lx rfl rfl 65⟩, lx rfl rfl 65⟩, lo rfl rfl 61 hy12⟩, lc rfl rfl fun hs hh => stp_pick_fB (sv hs 61 rfl) hy12 rfl qy12⟩, lc rfl rfl fun hs hh => stp_assign (sv hs 70 rfl)⟩
                · intro g hΦ
                  exact kw_join () trivial ⟨rfl, trivial⟩ trivial
            · have ey9 := cond_f ey9 hy9
              have qy9 := Option.some.inj ey9
              have hy10 : y9 = false := by rw [← qy9]
              have ey10 := cond_f ey10 hy10
              have qy10 := Option.some.inj ey10
              have hy12 : y10 = false := by rw [← qy10]
              have ey12 := cond_f ey12 hy12
              have qy12 := Option.some.inj ey12
              refine rdr g_mixed [8] [] { dst := dS [42, 43, 44, 45, 46, 47, 48, 49, 50, 51, 52, 53, 54, 55, 56, 57, 58, 59, 60, 61, 62, 63, 64, 65, 66, 67, 68, 69, 70, 71, 5], pre := gA [] [[], [0], [0, 1], [0, 1, 2], [0, 1, 2], [0, 1, 2, 4], rn 0 6, rn 0 7, rn 0 8, rn 0 9, rn 0 10, rn 0 11, rn 0 9, rn 0 13, rn 0 14, rn 0 15, rn 0 9, [0, 1, 2, 3, 4, 5, 6, 7, 8, 16], rn 0 18, rn 0 19, rn 0 20, rn 0 21, rn 0 22, rn 0 23, rn 0 24, rn 0 25, rn 0 26, rn 0 27, rn 0 28, rn 0 29, rn 0 30], ids := fun _ => [], rs := rL [[(8, 0)], [(41, 1)], [(42, 2)], [(43, 3)], [(43, 3)], [(43, 3)], [(43, 3)], [(43, 3), (47, 7)], [(48, 8)], [(49, 9)], [(49, 9)], [(49, 9)], [(49, 9)], [(49, 9)], [(49, 9)], [(49, 9)], [(49, 9)], [(49, 9)], [(49, 9)], [(49, 9), (59, 19)], [(60, 20)], [(61, 21)], [(61, 21)], [(61, 21)], [(61, 21)], [(65, 25)], [(65, 25)], [(65, 25)], [(61, 21)], [(61, 21), (69, 29)], [(70, 30)]], rh := fun _ => [], V := fun i g => gA undef [.int .i64 x8.1, .bool (decide (0 ≤ x8.1)), .bool (decide (0 ≤ x8.1)), undef, undef, undef, undef, .bool y9, .bool y9, undef, undef, undef, undef, undef, undef, undef, undef, undef, undef, .bool y10, .bool y10, undef, undef, undef, undef, undef, undef, undef, undef, .bool y12, .bool y12] i, U := fun _ _ => [], Φ := fun _ _ => True } ?_ ?_
              · exact ⟨⟨⟨⟨⟨⟨⟨⟨⟨⟨⟨⟨⟨⟨⟨⟨⟨⟨⟨⟨⟨⟨⟨⟨⟨⟨⟨⟨⟨⟨⟨trivial, lc rfl rfl fun hs hh => stp_move (sv hs 8 rfl)⟩, lc rfl rfl fun hs hh => stp_geq (sv hs 41 rfl) rfl⟩, lc rfl rfl fun hs hh => stp_move (sv hs 42 rfl)⟩, lo rfl rfl 43 hy9⟩, lo rfl rfl 43 hy9⟩, lo rfl rfl 43 hy9⟩, lo rfl rfl 43 hy9⟩, lc rfl rfl fun hs hh => stp_pick_fB (sv hs 43 rfl) hy9 rfl qy9⟩, lc rfl rfl fun hs hh => stp_move (sv hs 48 rfl)⟩, lo rfl rfl 49 hy10⟩, lo rfl rfl 49 hy10⟩, lo rfl rfl 49 hy10⟩, lo rfl rfl 49 hy10⟩, lo rfl rfl 49 hy10⟩, lo rfl rfl 49 hy10⟩, lo rfl rfl 49 hy10⟩, lo rfl rfl 49 hy10⟩, lo rfl rfl 49 hy10⟩, lo rfl rfl 49 hy10⟩, lc rfl rfl fun hs hh => stp_pick_fB (sv hs 49 rfl) hy10 rfl qy10⟩, lc rfl rfl fun hs hh => stp_move (sv hs 60 rfl)⟩, lo rfl rfl 61 hy12⟩, lo rfl rfl 61 hy12⟩, lo rfl rfl 61 hy12⟩, lo rfl rfl 61 hy12⟩, lx rfl rfl 65⟩, lx rfl rfl 65⟩, lx rfl rfl 65⟩, lo rfl rfl 61 hy12⟩, lc rfl rfl fun hs hh => stp_pick_fB (sv hs 61 rfl) hy12 rfl qy12⟩, lc rfl rfl fun hs hh => stp_assign (sv hs 70 rfl)⟩
              · intro g hΦ
                exact kw_join () trivial ⟨rfl, trivial⟩ trivial
          · rintro _ -
            refine KW.sub (s' := [(4, .bool y12)]) (h' := []) ?_ ⟨rfl, trivial⟩ trivial
            refine kw_nx (cw_ret ?_)
            have q0 := Option.some.inj H0
            subst q0
            exact kw_ret Tryz.results128 (.cons (.tmp rfl) .nil) [] [] trivial (by decide) ⟨rfl, rfl⟩
    · have H0 := cond_f H0 h4
      obtain ⟨x14, e14, H0⟩ := bind_some H0
      obtain ⟨x15, e15, H0⟩ := bind_some H0
      refine cw_skip (kw_nx (cw_seq (rdr g_mixed [2, 3, 5] [0, 1] { dst := dS [33, 34, 35, 36, 37, 38, 39, 32, 40, 41, 9, 10], pre := gA [] [[], [0], [], [], [3], [2, 3, 4], rn 0 6, rn 0 7, rn 0 8, rn 0 8, rn 0 9, rn 0 11], ids := fun _ => [], rs := rL [[(2, 0)], [(32, 1)], [(5, 0)], [(3, 0)], [(35, 4)], [(34, 3), (36, 5)], [(33, 2), (37, 6)], [(38, 7)], [(31, 8)], [(31, 8)], [(39, 9)], [(40, 10)]], rh := rL [[], [(0, 0)], [], [], [(1, 0)]], V := fun i g => gA undef [.pointer (some ⟨b1, 0, none⟩), .agg #[.slice p0_0 ((a0.t.b).length) c0_0, .slice p0_1 ((a0.t.f).length) c0_1], .int .i64 0, .pointer (some ⟨b2, 2, none⟩), .int .i64 a1.pg, .agg #[.int .i64 x14.s, .int .i64 x14.p], .tuple #[.int .i64 x15.1, .int .i64 x15.2], .tuple #[.int .i64 x15.1, .int .i64 x15.2], .int .i64 x15.1, .int .i64 x15.2, .int .i64 x15.1, .int .i64 x15.2] i, U := fun _ _ => [], Φ := fun _ _ => True } ?_ ?_)))
      · refine ⟨⟨⟨⟨⟨⟨⟨⟨⟨⟨⟨⟨trivial, lc rfl rfl fun hs hh => stp_fieldAddr (j := 0) Tryz.underlying47 rfl ts39 rfl (sv hs 2 rfl) rfl⟩, lc rfl rfl fun hs hh => stp_loadN (us := [_, _]) ts39 (sv hs 32 rfl) (Cells.box (id := 0) (hh.get 0 _ rfl) 2 rfl)⟩, lc rfl rfl fun hs hh => stp_move (sv hs 5 rfl)⟩, lc rfl rfl fun hs hh => stp_fieldAddr (j := 2) Tryz.underlying112 rfl ts3 rfl (sv hs 3 rfl) rfl⟩, lc rfl rfl fun hs hh => stp_load1 ts3 (sv hs 35 rfl) (Cells.box (id := 1) (hh.get 1 _ rfl) 1 rfl)⟩, ?_⟩, ?_⟩, lc rfl rfl fun hs hh => stp_move (sv hs 38 rfl)⟩, lc rfl rfl fun hs hh => stp_extract (sv hs 31 rfl) rfl⟩, lc rfl rfl fun hs hh => stp_extract (sv hs 31 rfl) rfl⟩, lc rfl rfl fun hs hh => stp_assign (sv hs 39 rfl)⟩, lc rfl rfl fun hs hh => stp_assign (sv hs 40 rfl)⟩
        · refine le rfl rfl (fun g hΦ s h hs hh => (stpU_call (fun i => 2 + i) cf87 (fun w hw => c_s_KeyFor fl w 0 a1.pg x14 e14) (sevs_cons (sv hs 34 rfl) (sevs_cons (sv hs 36 rfl) sevs_nil)))) ?_
          rintro g _ _ ⟨_, ⟨rfl, rfl⟩, rfl⟩
          exact ⟨⟨[], [], []⟩, trivial, .inr rfl, rfl⟩
        · refine le rfl rfl (fun g hΦ s h hs hh => (stpU_call (fun i => 2 + i) cf86 (fun w hw => c_s_l3Find fl w a0.t p0_0 ((a0.t.b).length) c0_0 p0_1 ((a0.t.f).length) c0_1 x14 rfl (RO.pass hr0_0 hw) rfl (RO.pass hr0_1 hw) x15 e15) (sevs_cons (sv hs 33 rfl) (sevs_cons (sv hs 37 rfl) sevs_nil)))) ?_
          rintro g _ _ ⟨_, ⟨rfl, rfl⟩, rfl⟩
          exact ⟨⟨[], [], []⟩, trivial, .inr rfl, rfl⟩
      · intro g hΦ
        refine KW.sub (s' := [(2, .pointer (some ⟨b1, 0, none⟩)), (3, .pointer (some ⟨b2, 0, none⟩)), (8, .int .i64 x15.1)]) (h' := [(0, [(b1, .cells #[.slice p0_0 ((a0.t.b).length) c0_0, .slice p0_1 ((a0.t.f).length) c0_1, .slice p0_2 ((a0.c.l).length) c0_2, .int .i64 a0.c.h, .int .i64 a0.g.c, .int .i64 a0.g.n, .int .i64 a0.g.r, .slice p0_3 ((a0.g.o).length) c0_3, .int .i64 a0.s] 47 (0, 0))]), (1, [(b2, .cells #[.bool a1.va, .int .i64 a1.tg, .int .i64 a1.pg, .int .i64 a1.fr, .int .i64 a1.ri, .bool a1.wi] 112 (0, 0))])]) ?_ ⟨rfl, rfl, rfl, trivial⟩ ⟨rfl, rfl, trivial⟩
        obtain ⟨y16, ey16, H0⟩ := bind_some H0
        obtain ⟨y17, ey17, H0⟩ := bind_some H0
        obtain ⟨y19, ey19, H0⟩ := bind_some H0
        refine kw_nx (cw_seq (cw_join (ι := Unit) (fun | _ => True) (fun | _ => [(4, .bool y19)]) (fun | _ => []) ?_ ?_))
        · rcases Bool.eq_false_or_eq_true (decide (0 ≤ x15.1)) with hy16 | hy16
          · have ey16 := cond_t ey16 hy16
            have qy16 := Option.some.inj ey16
            rcases Bool.eq_false_or_eq_true y16 with hy17 | hy17
            · have ey17 := cond_t ey17 hy17
              obtain ⟨x18, e18, ey17⟩ := bind_some ey17
              have qy17 := Option.some.inj ey17
              rcases Bool.eq_false_or_eq_true y17 with hy19 | hy19
              · have ey19 := cond_t ey19 hy19
                obtain ⟨y20, ey20, ey19⟩ := bind_some ey19
                rcases Bool.eq_false_or_eq_true (!a1.wi) with hy20 | hy20
                · have ey20 := cond_t ey20 hy20
                  have qy20 := Option.some.inj ey20
                  have qy19 := Option.some.inj ey19
                  refine rdr g_mixed [2, 3, 8] [0, 1] { dst := dS [42, 43, 44, 45, 46, 47, 48, 49, 50, 51, 52, 53, 54, 55, 56, 57, 58, 59, 60, 61, 62, 63, 64, 65, 66, 67, 68, 69, 70, 71, 5], pre := gA [] [[], [0], [0, 1], [0, 1, 2], [0, 1, 2], [0, 1, 2, 4], rn 0 6, rn 0 7, rn 0 8, rn 0 9, rn 0 10, rn 0 11, rn 0 9, rn 0 13, rn 0 14, rn 0 15, rn 0 9, [0, 1, 2, 3, 4, 5, 6, 7, 8, 16], rn 0 18, rn 0 19, rn 0 20, rn 0 21, rn 0 22, rn 0 23, rn 0 24, rn 0 25, rn 0 26, rn 0 27, rn 0 28, rn 0 29, rn 0 30], ids := fun _ => [], rs := rL [[(8, 0)], [(41, 1)], [(42, 2)], [(8, 0), (43, 3)], [(3, 0), (43, 3)], [(45, 5), (43, 3)], [(44, 4), (46, 6), (43, 3)], [(43, 3), (47, 7)], [(48, 8)], [(2, 0), (49, 9)], [(50, 10), (49, 9)], [(51, 11), (49, 9)], [(8, 0), (49, 9)], [(52, 12), (53, 13), (49, 9)], [(54, 14), (49, 9)], [(55, 15), (49, 9)], [(3, 0), (49, 9)], [(57, 17), (49, 9)], [(56, 16), (58, 18), (49, 9)], [(49, 9), (59, 19)], [(60, 20)], [(3, 0), (61, 21)], [(62, 22), (61, 21)], [(63, 23), (61, 21)], [(64, 24), (61, 21)], [(65, 25)], [(65, 25)], [(65, 25)], [(65, 25), (68, 28), (61, 21)], [(61, 21), (69, 29)], [(70, 30)]], rh := rL [[], [], [], [], [], [(1, 0)], [], [], [], [], [], [(0, 0)], [], [], [], [], [], [(1, 0)], [], [], [], [], [(1, 0)]], V := fun i g => gA undef [.int .i64 x15.1, .bool (decide (0 ≤ x15.1)), .bool (decide (0 ≤ x15.1)), .int .i64 x15.1, .pointer (some ⟨b2, 3, none⟩), .int .i64 a1.fr, .bool (x15.1 == a1.fr), .bool y16, .bool y16, .pointer (some ⟨b1, 0, none⟩), .pointer (some ⟨b1, 1, none⟩), .slice p0_1 ((a0.t.f).length) c0_1, .int .i64 x15.1, .pointer (some ⟨eB p0_1, eO p0_1 + Int.toNat x15.1 * Enc.sz F + 0, none⟩), .pointer (some ⟨eB p0_1, eO p0_1 + Int.toNat x15.1 * Enc.sz F + 3, none⟩), .int .i64 x18.r, .pointer (some ⟨b2, 4, none⟩), .int .i64 a1.ri, .bool (x18.r == a1.ri), .bool y17, .bool y17, .pointer (some ⟨b2, 5, none⟩), .bool a1.wi, .bool (!a1.wi), .bool (!a1.wi), undef, undef, undef, .bool y20, .bool y19, .bool y19] i, U := fun _ _ => [], Φ := fun _ _ => True } ?_ ?_
                  · exact ⟨⟨⟨⟨⟨⟨⟨⟨⟨⟨⟨⟨⟨⟨⟨⟨⟨⟨⟨⟨⟨⟨⟨⟨⟨⟨⟨⟨⟨⟨⟨trivial, lc rfl rfl fun hs hh => stp_move (sv hs 8 rfl)⟩, lc rfl rfl fun hs hh => stp_geq (sv hs 41 rfl) rfl⟩, lc rfl rfl fun hs hh => stp_move (sv hs 42 rfl)⟩, lg rfl rfl 43 hy16 fun hs hh => stp_move (sv hs 8 rfl)⟩, lg rfl rfl 43 hy16 fun hs hh => stp_fieldAddr (j := 3) Tryz.underlying112 rfl ts3 rfl (sv hs 3 rfl) rfl⟩, lg rfl rfl 43 hy16 fun hs hh => stp_load1 ts3 (sv hs 45 rfl) (Cells.box (id := 1) (hh.get 1 _ rfl) 1 rfl)⟩, lg rfl rfl 43 hy16 fun hs hh => stp_eql (sv hs 44 rfl) (sv hs 46 rfl)⟩, lc rfl rfl fun hs hh => stp_pick_tB (sv hs 43 rfl) hy16 (sv hs 47 rfl) qy16⟩, lc rfl rfl fun hs hh => stp_move (sv hs 48 rfl)⟩, lg rfl rfl 49 hy17 fun hs hh => stp_fieldAddr (j := 0) Tryz.underlying47 rfl ts39 rfl (sv hs 2 rfl) rfl⟩, lg rfl rfl 49 hy17 fun hs hh => stp_fieldAddr (j := 1) Tryz.underlying39 rfl ts37 rfl (sv hs 50 rfl) rfl⟩, lg rfl rfl 49 hy17 fun hs hh => stp_load1 ts37 (sv hs 51 rfl) (Cells.box (id := 0) (hh.get 0 _ rfl) 1 rfl)⟩, lg rfl rfl 49 hy17 fun hs hh => stp_move (sv hs 8 rfl)⟩, lg rfl rfl 49 hy17 fun hs hh => stp_indexAddr Tryz.underlying37 ts127 (by decide) (sv hs 52 rfl) rfl (sv hs 53 rfl) (Rdb.ro hr0_1) e18⟩, lg rfl rfl 49 hy17 fun hs hh => stp_fieldAddr (j := 3) Tryz.underlying127 rfl ts3 rfl (sv hs 54 rfl) rfl⟩, lg rfl rfl 49 hy17 fun hs hh => stp_load1 ts3 (sv hs 55 rfl) (Cells.el (Rdb.ro hr0_1) (by decide) e18 3 1 rfl)⟩, lg rfl rfl 49 hy17 fun hs hh => stp_fieldAddr (j := 4) Tryz.underlying112 rfl ts3 rfl (sv hs 3 rfl) rfl⟩, lg rfl rfl 49 hy17 fun hs hh => stp_load1 ts3 (sv hs 57 rfl) (Cells.box (id := 1) (hh.get 1 _ rfl) 1 rfl)⟩, lg rfl rfl 49 hy17 fun hs hh => stp_eql (sv hs 56 rfl) (sv hs 58 rfl)⟩, lc rfl rfl fun hs hh => stp_pick_tB (sv hs 49 rfl) hy17 (sv hs 59 rfl) qy17⟩, lc rfl rfl fun hs hh => stp_move (sv hs 60 rfl)⟩, lg rfl rfl 61 hy19 fun hs hh => stp_fieldAddr (j := 5) Tryz.underlying112 rfl ts4 rfl (sv hs 3 rfl) rfl⟩, lg rfl rfl 61 hy19 fun hs hh => stp_load1 ts4 (sv hs 62 rfl) (Cells.box (id := 1) (hh.get 1 _ rfl) 1 rfl)⟩, lg rfl rfl 61 hy19 fun hs hh => stp_not (sv hs 63 rfl)⟩, lg rfl rfl 61 hy19 fun hs hh => stp_move (sv hs 64 rfl)⟩, lo rfl rfl 65 hy20⟩, lo rfl rfl 65 hy20⟩, lo rfl rfl 65 hy20⟩, lg rfl rfl 61 hy19 fun hs hh => stp_pick_tB (sv hs 65 rfl) hy20 rfl qy20⟩, lc rfl rfl fun hs hh => stp_pick_tB (sv hs 61 rfl) hy19 (sv hs 69 rfl) qy19⟩, lc rfl rfl fun hs hh => stp_assign (sv hs 70 rfl)⟩
                  · intro g hΦ
                    exact kw_join () trivial ⟨rfl, trivial⟩ trivial
                · have ey20 := cond_f ey20 hy20
                  have qy20 := Option.some.inj ey20
                  have qy19 := Option.some.inj ey19
                  refine rdr g_mixed [2, 3, 8] [0, 1] { dst := dS [42, 43, 44, 45, 46, 47, 48, 49, 50, 51, 52, 53, 54, 55, 56, 57, 58, 59, 60, 61, 62, 63, 64, 65, 66, 67, 68, 69, 70, 71, 5], pre := gA [] [[], [0], [0, 1], [0, 1, 2], [0, 1, 2], [0, 1, 2, 4], rn 0 6, rn 0 7, rn 0 8, rn 0 9, rn 0 10, rn 0 11, rn 0 9, rn 0 13, rn 0 14, rn 0 15, rn 0 9, [0, 1, 2, 3, 4, 5, 6, 7, 8, 16], rn 0 18, rn 0 19, rn 0 20, rn 0 21, rn 0 22, rn 0 23, rn 0 24, rn 0 25, rn 0 26, rn 0 27, rn 0 28, rn 0 29, rn 0 30], ids := fun _ => [], rs := rL [[(8, 0)], [(41, 1)], [(42, 2)], [(8, 0), (43, 3)], [(3, 0), (43, 3)], [(45, 5), (43, 3)], [(44, 4), (46, 6), (43, 3)], [(43, 3), (47, 7)], [(48, 8)], [(2, 0), (49, 9)], [(50, 10), (49, 9)], [(51, 11), (49, 9)], [(8, 0), (49, 9)], [(52, 12), (53, 13), (49, 9)], [(54, 14), (49, 9)], [(55, 15), (49, 9)], [(3, 0), (49, 9)], [(57, 17), (49, 9)], [(56, 16), (58, 18), (49, 9)], [(49, 9), (59, 19)], [(60, 20)], [(3, 0), (61, 21)], [(62, 22), (61, 21)], [(63, 23), (61, 21)], [(64, 24), (61, 21)], [(3, 0), (65, 25)], [(66, 26), (65, 25)], [(67, 27), (65, 25)], [(65, 25), (68, 28), (61, 21)], [(61, 21), (69, 29)], [(70, 30)]], rh := rL [[], [], [], [], [], [(1, 0)], [], [], [], [], [], [(0, 0)], [], [], [], [], [], [(1, 0)], [], [], [], [], [(1, 0)], [], [], [], [(1, 0)]], V := fun i g => gA undef [.int .i64 x15.1, .bool (decide (0 ≤ x15.1)), .bool (decide (0 ≤ x15.1)), .int .i64 x15.1, .pointer (some ⟨b2, 3, none⟩), .int .i64 a1.fr, .bool (x15.1 == a1.fr), .bool y16, .bool y16, .pointer (some ⟨b1, 0, none⟩), .pointer (some ⟨b1, 1, none⟩), .slice p0_1 ((a0.t.f).length) c0_1, .int .i64 x15.1, .pointer (some ⟨eB p0_1, eO p0_1 + Int.toNat x15.1 * Enc.sz F + 0, none⟩), .pointer (some ⟨eB p0_1, eO p0_1 + Int.toNat x15.1 * Enc.sz F + 3, none⟩), .int .i64 x18.r, .pointer (some ⟨b2, 4, none⟩), .int .i64 a1.ri, .bool (x18.r == a1.ri), .bool y17, .bool y17, .pointer (some ⟨b2, 5, none⟩), .bool a1.wi, .bool (!a1.wi), .bool (!a1.wi), .pointer (some ⟨b2, 1, none⟩), .int .i64 a1.tg, .bool (a1.tg == (-1)), .bool y20, .bool y19, .bool y19] i, U := fun _ _ => [], Φ := fun _ _ => True } ?_ ?_
                  · exact ⟨⟨⟨⟨⟨⟨⟨⟨⟨⟨⟨⟨⟨⟨⟨⟨⟨⟨⟨⟨⟨⟨⟨⟨⟨⟨⟨⟨⟨⟨⟨trivial, lc rfl rfl fun hs hh => stp_move (sv hs 8 rfl)⟩, lc rfl rfl fun hs hh => stp_geq (sv hs 41 rfl) rfl⟩, lc rfl rfl fun hs hh => stp_move (sv hs 42 rfl)⟩, lg rfl rfl 43 hy16 fun hs hh => stp_move (sv hs 8 rfl)⟩, lg rfl rfl 43 hy16 fun hs hh => stp_fieldAddr (j := 3) Tryz.underlying112 rfl ts3 rfl (sv hs 3 rfl) rfl⟩, lg rfl rfl 43 hy16 fun hs hh => stp_load1 ts3 (sv hs 45 rfl) (Cells.box (id := 1) (hh.get 1 _ rfl) 1 rfl)⟩, lg rfl rfl 43 hy16 fun hs hh => stp_eql (sv hs 44 rfl) (sv hs 46 rfl)⟩, lc rfl rfl fun hs hh => stp_pick_tB (sv hs 43 rfl) hy16 (sv hs 47 rfl) qy16⟩, lc rfl rfl fun hs hh => stp_move (sv hs 48 rfl)⟩, lg rfl rfl 49 hy17 fun hs hh => stp_fieldAddr (j := 0) Tryz.underlying47 rfl ts39 rfl (sv hs 2 rfl) rfl⟩, lg rfl rfl 49 hy17 fun hs hh => stp_fieldAddr (j := 1) Tryz.underlying39 rfl ts37 rfl (sv hs 50 rfl) rfl⟩, lg rfl rfl 49 hy17 fun hs hh => stp_load1 ts37 (sv hs 51 rfl) (Cells.box (id := 0) (hh.get 0 _ rfl) 1 rfl)⟩, lg rfl rfl 49 hy17 fun hs hh => stp_move (sv hs 8 rfl)⟩, lg rfl rfl 49 hy17 fun hs hh => stp_indexAddr Tryz.underlying37 ts127 (by decide) (sv hs 52 rfl) rfl (sv hs 53 rfl) (Rdb.ro hr0_1) e18⟩, lg rfl rfl 49 hy17 fun hs hh => stp_fieldAddr (j := 3) Tryz.underlying127 rfl ts3 rfl (sv hs 54 rfl) rfl⟩, lg rfl rfl 49 hy17 fun hs hh => stp_load1 ts3 (sv hs 55 rfl) (Cells.el (Rdb.ro hr0_1) (by decide) e18 3 1 rfl)⟩, lg rfl rfl 49 hy17 fun hs hh => stp_fieldAddr (j := 4) Tryz.underlying112 rfl ts3 rfl (sv hs 3 rfl) rfl⟩, lg rfl rfl 49 hy17 fun hs hh => stp_load1 ts3 (sv hs 57 rfl) (Cells.box (id := 1) (hh.get 1 _ rfl) 1 rfl)⟩, lg rfl rfl 49 hy17 fun hs hh => stp_eql (sv hs 56 rfl) (sv hs 58 rfl)⟩, lc rfl rfl fun hs hh => stp_pick_tB (sv hs 49 rfl) hy17 (sv hs 59 rfl) qy17⟩, lc rfl rfl fun hs hh => stp_move (sv hs 60 rfl)⟩, lg rfl rfl 61 hy19 fun hs hh => stp_fieldAddr (j := 5) Tryz.underlying112 rfl ts4 rfl (sv hs 3 rfl) rfl⟩, lg rfl rfl 61 hy19 fun hs hh => stp_load1 ts4 (sv hs 62 rfl) (Cells.box (id := 1) (hh.get 1 _ rfl) 1 rfl)⟩, lg rfl rfl 61 hy19 fun hs hh => stp_not (sv hs 63 rfl)⟩, lg rfl rfl 61 hy19 fun hs hh => stp_move (sv hs 64 rfl)⟩, lg rfl rfl 65 hy20 fun hs hh => stp_fieldAddr (j := 1) Tryz.underlying112 rfl ts3 rfl (sv hs 3 rfl) rfl⟩, lg rfl rfl 65 hy20 fun hs hh => stp_load1 ts3 (sv hs 66 rfl) (Cells.box (id := 1) (hh.get 1 _ rfl) 1 rfl)⟩, lg rfl rfl 65 hy20 fun hs hh => stp_eql (sv hs 67 rfl) rfl⟩, lg rfl rfl 61 hy19 fun hs hh => stp_pick_fB (sv hs 65 rfl) hy20 (sv hs 68 rfl) qy20⟩, lc rfl rfl fun hs hh => stp_pick_tB (sv hs 61 rfl) hy19 (sv hs 69 rfl) qy19⟩, lc rfl rfl fun hs hh => stp_assign (sv hs 70 rfl)⟩
                  · intro g hΦ
                    exact kw_join () trivial ⟨rfl, trivial⟩ trivial
              · have ey19 := cond_f ey19 hy19
                have qy19 := Option.some.inj ey19
                refine rdr g_mixed [2, 3, 8] [0, 1] { dst := dS [42, 43, 44, 45, 46, 47, 48, 49, 50, 51, 52, 53, 54, 55, 56, 57, 58, 59, 60, 61, 62, 63, 64, 65, 66, 67, 68, 69, 70, 71, 5], pre := gA [] [[], [0], [0, 1], [0, 1, 2], [0, 1, 2], [0, 1, 2, 4], rn 0 6, rn 0 7, rn 0 8, rn 0 9, rn 0 10, rn 0 11, rn 0 9, rn 0 13, rn 0 14, rn 0 15, rn 0 9, [0, 1, 2, 3, 4, 5, 6, 7, 8, 16], rn 0 18, rn 0 19, rn 0 20, rn 0 21, rn 0 22, rn 0 23, rn 0 24, rn 0 25, rn 0 26, rn 0 27, rn 0 28, rn 0 29, rn 0 30], ids := fun _ => [], rs := rL [[(8, 0)], [(41, 1)], [(42, 2)], [(8, 0), (43, 3)], [(3, 0), (43, 3)], [(45, 5), (43, 3)], [(44, 4), (46, 6), (43, 3)], [(43, 3), (47, 7)], [(48, 8)], [(2, 0), (49, 9)], [(50, 10), (49, 9)], [(51, 11), (49, 9)], [(8, 0), (49, 9)], [(52, 12), (53, 13), (49, 9)], [(54, 14), (49, 9)], [(55, 15), (49, 9)], [(3, 0), (49, 9)], [(57, 17), (49, 9)], [(56, 16), (58, 18), (49, 9)], [(49, 9), (59, 19)], [(60, 20)], [(61, 21)], [(61, 21)], [(61, 21)], [(61, 21)], [(65, 25)], [(65, 25)], [(65, 25)], [(61, 21)], [(61, 21), (69, 29)], [(70, 30)]], rh := rL [[], [], [], [], [], [(1, 0)], [], [], [], [], [], [(0, 0)], [], [], [], [], [], [(1, 0)]], V := fun i g => gA undef [.int .i64 x15.1, .bool (decide (0 ≤ x15.1)), .bool (decide (0 ≤ x15.1)), .int .i64 x15.1, .pointer (some ⟨b2, 3, none⟩), .int .i64 a1.fr, .bool (x15.1 == a1.fr), .bool y16, .bool y16, .pointer (some ⟨b1, 0, none⟩), .pointer (some ⟨b1, 1, none⟩), .slice p0_1 ((a0.t.f).length) c0_1, .int .i64 x15.1, .pointer (some ⟨eB p0_1, eO p0_1 + Int.toNat x15.1 * Enc.sz F + 0, none⟩), .pointer (some ⟨eB p0_1, eO p0_1 + Int.toNat x15.1 * Enc.sz F + 3, none⟩), .int .i64 x18.r, .pointer (some ⟨b2, 4, none⟩), .int .i64 a1.ri, .bool (x18.r == a1.ri), .bool y17, .bool y17, undef, undef, undef, undef, undef, undef, undef, undef, .bool y19, .bool y19] i, U := fun _ _ => [], Φ := fun _ _ => True } ?_ ?_
                · exact ⟨⟨⟨⟨⟨⟨⟨⟨⟨⟨⟨⟨⟨⟨⟨⟨⟨⟨⟨⟨⟨⟨⟨⟨⟨⟨⟨⟨⟨⟨⟨trivial, lc rfl rfl fun hs hh => stp_move (sv hs 8 rfl)⟩, lc rfl rfl fun hs hh => stp_geq (sv hs 41 rfl) rfl⟩, lc rfl rfl fun hs hh => stp_move (sv hs 42 rfl)⟩, lg rfl rfl 43 hy16 fun hs hh => stp_move (sv hs 8 rfl)⟩, lg rfl rfl 43 hy16 fun hs hh => stp_fieldAddr (j := 3) Tryz.underlying112 rfl ts3 rfl (sv hs 3 rfl) rfl⟩, lg rfl rfl 43 hy16 fun hs hh => stp_load1 ts3 (sv hs 45 rfl) (Cells.box (id := 1) (hh.get 1 _ rfl) 1 rfl)⟩, lg rfl rfl 43 hy16 fun hs hh => stp_eql (sv hs 44 rfl) (sv hs 46 rfl)⟩, lc rfl rfl fun hs hh => stp_pick_tB (sv hs 43 rfl) hy16 (sv hs 47 rfl) qy16⟩, lc rfl rfl fun hs hh => stp_move (sv hs 48 rfl)⟩, lg rfl rfl 49 hy17 fun hs hh => stp_fieldAddr (j := 0) Tryz.underlying47 rfl ts39 rfl (sv hs 2 rfl) rfl⟩, lg rfl rfl 49 hy17 fun hs hh => stp_fieldAddr (j := 1) Tryz.underlying39 rfl ts37 rfl (sv hs 50 rfl) rfl⟩, lg rfl rfl 49 hy17 fun hs hh => stp_load1 ts37 (sv hs 51 rfl) (Cells.box (id := 0) (hh.get 0 _ rfl) 1 rfl)⟩, lg rfl rfl 49 hy17 fun hs hh => stp_move (sv hs 8 rfl)⟩, lg rfl rfl 49 hy17 fun hs hh => stp_indexAddr Tryz.underlying37 ts127 (by decide) (sv hs 52 rfl) rfl (sv hs 53 rfl) (Rdb.ro hr0_1) e18⟩, lg rfl rfl 49 hy17 fun hs hh => stp_fieldAddr (j := 3) Tryz.underlying127 rfl ts3 rfl (sv hs 54 rfl) rfl⟩, lg rfl rfl 49 hy17 fun hs hh => stp_load1 ts3 (sv hs 55 rfl) (Cells.el (Rdb.ro hr0_1) (by decide) e18 3 1 rfl)⟩, lg rfl rfl 49 hy17 fun hs hh => stp_fieldAddr (j := 4) Tryz.underlying112 rfl ts3 rfl (sv hs 3 rfl) rfl⟩, lg rfl rfl 49 hy17 fun hs hh => stp_load1 ts3 (sv hs 57 rfl) (Cells.box (id := 1) (hh.get 1 _ rfl) 1 rfl)⟩, lg rfl rfl 49 hy17 fun hs hh => stp_eql (sv hs 56 rfl) (sv hs 58 rfl)⟩, lc rfl rfl fun hs hh => stp_pick_tB (sv hs 49 rfl) hy17 (sv hs 59 rfl) qy17⟩, lc rfl rfl fun hs hh => stp_move (sv hs 60 rfl)⟩, lo rfl rfl 61 hy19⟩, lo rfl rfl 61 hy19⟩, lo rfl rfl 61 hy19⟩, lo rfl rfl 61 hy19⟩, lx rfl rfl 65⟩, lx rfl rfl 65⟩, lx rfl rfl 65⟩, lo rfl rfl 61 hy19⟩, lc rfl rfl fun hs hh => stp_pick_fB (sv hs 61 rfl) hy19 rfl qy19⟩, lc rfl rfl fun hs hh => stp_assign (sv hs 70 rfl)⟩
                · intro g hΦ
                  exact kw_join () trivial ⟨rfl, trivial⟩ trivial
            · have ey17 := cond_f ey17 hy17
              have qy17 := Option.some.inj ey17
              have hy19 : y17 = false := by rw [← qy17]
              have ey19 := cond_f ey19 hy19
              have qy19 := Option.some.inj ey19
              refine rdr g_mixed [3, 8] [1] { dst := dS [42, 43, 44, 45, 46, 47, 48, 49, 50, 51, 52, 53, 54, 55, 56, 57, 58, 59, 60, 61, 62, 63, 64, 65, 66, 67, 68, 69, 70, 71, 5], pre := gA [] [[], [0], [0, 1], [0, 1, 2], [0, 1, 2], [0, 1, 2, 4], rn 0 6, rn 0 7, rn 0 8, rn 0 9, rn 0 10, rn 0 11, rn 0 9, rn 0 13, rn 0 14, rn 0 15, rn 0 9, [0, 1, 2, 3, 4, 5, 6, 7, 8, 16], rn 0 18, rn 0 19, rn 0 20, rn 0 21, rn 0 22, rn 0 23, rn 0 24, rn 0 25, rn 0 26, rn 0 27, rn 0 28, rn 0 29, rn 0 30], ids := fun _ => [], rs := rL [[(8, 0)], [(41, 1)], [(42, 2)], [(8, 0), (43, 3)], [(3, 0), (43, 3)], [(45, 5), (43, 3)], [(44, 4), (46, 6), (43, 3)], [(43, 3), (47, 7)], [(48, 8)], [(49, 9)], [(49, 9)], [(49, 9)], [(49, 9)], [(49, 9)], [(49, 9)], [(49, 9)], [(49, 9)], [(49, 9)], [(49, 9)], [(49, 9), (59, 19)], [(60, 20)], [(61, 21)], [(61, 21)], [(61, 21)], [(61, 21)], [(65, 25)], [(65, 25)], [(65, 25)], [(61, 21)], [(61, 21), (69, 29)], [(70, 30)]], rh := rL [[], [], [], [], [], [(1, 0)]], V := fun i g => gA undef [.int .i64 x15.1, .bool (decide (0 ≤ x15.1)), .bool (decide (0 ≤ x15.1)), .int .i64 x15.1, .pointer (some ⟨b2, 3, none⟩), .int .i64 a1.fr, .bool (x15.1 == a1.fr), .bool y16, .bool y16, undef, undef, undef, undef, undef, undef, undef, undef, undef, undef, .bool y17, .bool y17, undef, undef, undef, undef, undef, undef, undef, undef, .bool y19, .bool y19] i, U := fun _ _ => [], Φ := fun _ _ => True } ?_ ?_
              · exact ⟨⟨⟨⟨⟨⟨⟨⟨⟨⟨⟨⟨⟨⟨⟨⟨⟨⟨⟨⟨⟨⟨⟨⟨⟨⟨⟨⟨⟨⟨⟨trivial, lc rfl rfl fun hs hh => stp_move (sv hs 8 rfl)⟩, lc rfl rfl fun hs hh => stp_geq (sv hs 41 rfl) rfl⟩, lc rfl rfl fun hs hh => stp_move (sv hs 42 rfl)⟩, lg rfl rfl 43 hy16 fun hs hh => stp_move (sv hs 8 rfl)⟩, lg rfl rfl 43 hy16 fun hs hh => stp_fieldAddr (j := 3) Tryz.underlying112 rfl ts3 rfl (sv hs 3 rfl) rfl⟩, lg rfl rfl 43 hy16 fun hs hh => stp_load1 ts3 (sv hs 45 rfl) (Cells.box (id := 1) (hh.get 1 _ rfl) 1 rfl)⟩, lg rfl rfl 43 hy16 fun hs hh => stp_eql (sv hs 44 rfl) (sv hs 46 rfl)⟩, lc rfl rfl fun hs hh => stp_pick_tB (sv hs 43 rfl) hy16 (sv hs 47 rfl) qy16⟩, lc rfl rfl fun hs hh => stp_move (sv hs 48 rfl)⟩, lo rfl rfl 49 hy17⟩, lo rfl rfl 49 hy17⟩, lo rfl rfl 49 hy17⟩, lo rfl rfl 49 hy17⟩, lo rfl rfl 49 hy17⟩, lo rfl rfl 49 hy17⟩, lo rfl rfl 49 hy17⟩, lo rfl rfl 49 hy17⟩, lo rfl rfl 49 hy17⟩, lo rfl rfl 49 hy17⟩, lc rfl rfl fun hs hh => stp_pick_fB (sv hs 49 rfl) hy17 rfl qy17⟩, lc rfl rfl fun hs hh => stp_move (sv hs 60 rfl)⟩, lo rfl rfl 61 hy19⟩, lo rfl rfl 61 hy19⟩, lo rfl rfl 61 hy19⟩, lo rfl rfl 61 hy19⟩, lx rfl rfl 65⟩, lx rfl rfl 65⟩, lx rfl rfl 65⟩, lo rfl rfl 61 hy19⟩, lc rfl rfl fun hs hh => stp_pick_fB (sv hs 61 rfl) hy19 rfl qy19⟩, lc rfl rfl fun hs hh => stp_assign (sv hs 70 rfl)⟩
              · intro g hΦ
                exact kw_join () trivial ⟨rfl, trivial⟩ trivial
          · have ey16 := cond_f ey16 hy16
            have qy16 := Option.some.inj ey16
            have hy17 : y16 = false := by rw [← qy16]
            have ey17 := cond_f ey17 hy17
            have qy17 := Option.some.inj ey17
            have hy19 : y17 = false := by rw [← qy17]
            have ey19 := cond_f ey19 hy19
            have qy19 := Option.some.inj ey19
            refine rdr g_mixed [8] [] { dst := dS [42, 43, 44, 45, 46, 47, 48, 49, 50, 51, 52, 53, 54, 55, 56, 57, 58, 59, 60, 61, 62, 63, 64, 65, 66, 67, 68, 69, 70, 71, 5], pre := gA [] [[], [0], [0, 1], [0, 1, 2], [0, 1, 2], [0, 1, 2, 4], rn 0 6, rn 0 7, rn 0 8, rn 0 9, rn 0 10, rn 0 11, rn 0 9, rn 0 13, rn 0 14, rn 0 15, rn 0 9, [0, 1, 2, 3, 4, 5, 6, 7, 8, 16], rn 0 18, rn 0 19, rn 0 20, rn 0 21, rn 0 22, rn 0 23, rn 0 24, rn 0 25, rn 0 26, rn 0 27, rn 0 28, rn 0 29, rn 0 30], ids := fun _ => [], rs := rL [[(8, 0)], [(41, 1)], [(42, 2)], [(43, 3)], [(43, 3)], [(43, 3)], [(43, 3)], [(43, 3), (47, 7)], [(48, 8)], [(49, 9)], [(49, 9)], [(49, 9)], [(49, 9)], [(49, 9)], [(49, 9)], [(49, 9)], [(49, 9)], [(49, 9)], [(49, 9)], [(49, 9), (59, 19)], [(60, 20)], [(61, 21)], [(61, 21)], [(61, 21)], [(61, 21)], [(65, 25)], [(65, 25)], [(65, 25)], [(61, 21)], [(61, 21), (69, 29)], [(70, 30)]], rh := fun _ => [], V := fun i g => gA undef [.int .i64 x15.1, .bool (decide (0 ≤ x15.1)), .bool (decide (0 ≤ x15.1)), undef, undef, undef, undef, .bool y16, .bool y16, undef, undef, undef, undef, undef, undef, undef, undef, undef, undef, .bool y17, .bool y17, undef, undef, undef, undef, undef, undef, undef, undef, .bool y19, .bool y19] i, U := fun _ _ => [], Φ := fun _ _ => True } ?_ ?_
            · exact ⟨⟨⟨⟨⟨⟨⟨⟨⟨⟨⟨⟨⟨⟨⟨⟨⟨⟨⟨⟨⟨⟨⟨⟨⟨⟨⟨⟨⟨⟨⟨trivial, lc rfl rfl fun hs hh => stp_move (sv hs 8 rfl)⟩, lc rfl rfl fun hs hh => stp_geq (sv hs 41 rfl) rfl⟩, lc rfl rfl fun hs hh => stp_move (sv hs 42 rfl)⟩, lo rfl rfl 43 hy16⟩, lo rfl rfl 43 hy16⟩, lo rfl rfl 43 hy16⟩, lo rfl rfl 43 hy16⟩, lc rfl rfl fun hs hh => stp_pick_fB (sv hs 43 rfl) hy16 rfl qy16⟩, lc rfl rfl fun hs hh => stp_move (sv hs 48 rfl)⟩, lo rfl rfl 49 hy17⟩, lo rfl rfl 49 hy17⟩, lo rfl rfl 49 hy17⟩, lo rfl rfl 49 hy17⟩, lo rfl rfl 49 hy17⟩, lo rfl rfl 49 hy17⟩, lo rfl rfl 49 hy17⟩, lo rfl rfl 49 hy17⟩, lo rfl rfl 49 hy17⟩, lo rfl rfl 49 hy17⟩, lc rfl rfl fun hs hh => stp_pick_fB (sv hs 49 rfl) hy17 rfl qy17⟩, lc rfl rfl fun hs hh => stp_move (sv hs 60 rfl)⟩, lo rfl rfl 61 hy19⟩, lo rfl rfl 61 hy19⟩, lo rfl rfl 61 hy19⟩, lo rfl rfl 61 hy19⟩, lx rfl rfl 65⟩, lx rfl rfl 65⟩, lx rfl rfl 65⟩, lo rfl rfl 61 hy19⟩, lc rfl rfl fun hs hh => stp_pick_fB (sv hs 61 rfl) hy19 rfl qy19⟩, lc rfl rfl fun hs hh => stp_assign (sv hs 70 rfl)⟩
            · intro g hΦ
              exact kw_join () trivial ⟨rfl, trivial⟩ trivial
        · rintro _ -
          refine KW.sub (s' := [(4, .bool y19)]) (h' := []) ?_ ⟨rfl, trivial⟩ trivial
          refine kw_nx (cw_ret ?_)
          have q0 := Option.some.inj H0
          subst q0
          exact kw_ret Tryz.results128 (.cons (.tmp rfl) .nil) [] [] trivial (by decide) ⟨rfl, rfl⟩

set_option maxHeartbeats 4000000 in
set_option maxRecDepth 20000 in
theorem c_s_MachineValid (fl : Nat) (w : World) (a0 : Mc) (p0_0 : Option Addr) (n0_0 c0_0 : Nat) (p0_1 : Option Addr) (n0_1 c0_1 : Nat) (p0_2 : Option Addr) (n0_2 c0_2 : Nat) (p0_3 : Option Addr) (n0_3 c0_3 : Nat) (hn0_0 : n0_0 = (a0.t.b).length) (hr0_0 : RO w (hkeys []) (RdL p0_0 c0_0 a0.t.b)) (hn0_1 : n0_1 = (a0.t.f).length) (hr0_1 : RO w (hkeys []) (RdL p0_1 c0_1 a0.t.f)) (hn0_2 : n0_2 = (a0.c.l).length) (hr0_2 : RO w (hkeys []) (RdL p0_2 c0_2 a0.c.l)) (hn0_3 : n0_3 = (a0.g.o).length) (hr0_3 : RO w (hkeys []) (RdL p0_3 c0_3 a0.g.o)) (r : Bool) (H0 : s_MachineValid fl a0 = some r) :
    Ct Tryz.prog 53 [.agg #[.slice p0_0 n0_0 c0_0, .slice p0_1 n0_1 c0_1, .slice p0_2 n0_2 c0_2, .int .i64 a0.c.h, .int .i64 a0.g.c, .int .i64 a0.g.n, .int .i64 a0.g.r, .slice p0_3 n0_3 c0_3, .int .i64 a0.s]] w [] (fun rv h' => rv = .bool r ∧ h' = []) := by
  obtain rfl := hn0_0
  obtain rfl := hn0_1
  obtain rfl := hn0_2
  obtain rfl := hn0_3
  unfold s_MachineValid at H0
  refine ct_of_cw Tryz.func53 rfl Tryz.ntmps53 rfl (Sat.refl _ _) ?_
  refine sr (oE (stpU_box 0 rfl rfl) rfl ?_)
  rintro _ _ ⟨b1, rfl, rfl⟩
  obtain ⟨x2, e2, H0⟩ := bind_some H0
  refine oD (sg rfl) rfl (nn (cw_seq (sr (oD (fA 0 Tryz.underlying47 rfl ts39 rfl rfl rfl) rfl (oD (stp_loadN (us := [_, _]) ts39 rfl (Cells.box (id := 0) rfl 2 rfl)) rfl (oE (stpU_call (fun i => 1 + i) cf124 (fun w hw => c_s_TableValid fl w a0.t p0_0 ((a0.t.b).length) c0_0 p0_1 ((a0.t.f).length) c0_1 rfl (RO.pass hr0_0 hw) rfl (RO.pass hr0_1 hw) x2 e2) (sevs_cons rfl sevs_nil)) rfl ?_))))))
  rintro _ _ ⟨_, ⟨rfl, rfl⟩, rfl⟩
  obtain ⟨y3, ey3, H0⟩ := bind_some H0
  refine oD (stp_not rfl) rfl (oD (mv rfl) rfl (ow_cutY 5 15 y3 ?_ ?_))
  · rcases Bool.eq_false_or_eq_true (!x2) with hy3 | hy3
    · have ey3 := cond_t ey3 hy3
      refine oO rfl hy3 rfl (oO rfl hy3 rfl (oO rfl hy3 rfl (oO rfl hy3 rfl (oD (stp_pick_t rfl hy3 rfl) rfl ?_))))
      obtain rfl := Option.some.inj ey3
      exact ow_nil (jy 5 0)
    · have ey3 := cond_f ey3 hy3
      obtain ⟨x4, e4, ey3⟩ := bind_some ey3
      refine oG rfl hy3 (fA 2 Tryz.underlying47 rfl ts42 rfl rfl rfl) rfl (oG rfl hy3 (stp_loadN (us := [_, _]) ts42 rfl (Cells.box (id := 0) rfl 2 rfl)) rfl (ow_eff (.some rfl hy3) (stpU_call (fun i => 1 + i) cf125 (fun w hw => c_s_CacheValid fl w a0.c p0_2 ((a0.c.l).length) c0_2 rfl (RO.pass hr0_2 hw) x4 e4) (sevs_cons rfl sevs_nil)) rfl ?_))
      rintro _ _ ⟨_, ⟨rfl, rfl⟩, rfl⟩
      refine oG rfl hy3 (stp_not rfl) rfl (oD (stp_pick_f rfl hy3 rfl) rfl ?_)
      obtain rfl := Option.some.inj ey3
      exact ow_nil (jy 5 0)
  · obtain ⟨y5, ey5, H0⟩ := bind_some H0
    refine oD (mv rfl) rfl (ow_cutY 5 21 y5 ?_ ?_)
    · rcases Bool.eq_false_or_eq_true y3 with hy5 | hy5
      · have ey5 := cond_t ey5 hy5
        refine oO rfl hy5 rfl (oO rfl hy5 rfl (oO rfl hy5 rfl (oO rfl hy5 rfl (oD (stp_pick_t rfl hy5 rfl) rfl ?_))))
        obtain rfl := Option.some.inj ey5
        exact ow_nil (jy 5 0)
      · have ey5 := cond_f ey5 hy5
        obtain ⟨x6, e6, ey5⟩ := bind_some ey5
        refine oG rfl hy5 (fA 4 Tryz.underlying47 rfl ts45 rfl rfl rfl) rfl (oG rfl hy5 (stp_loadN (us := [_, _, _, _]) ts45 rfl (Cells.box (id := 0) rfl 4 rfl)) rfl (ow_eff (.some rfl hy5) (stpU_call (fun i => 1 + i) cf126 (fun w hw => c_s_TagsValid fl w a0.g p0_3 ((a0.g.o).length) c0_3 rfl (RO.pass hr0_3 hw) x6 e6) (sevs_cons rfl sevs_nil)) rfl ?_))
        rintro _ _ ⟨_, ⟨rfl, rfl⟩, rfl⟩
        refine oG rfl hy5 (stp_not rfl) rfl (oD (stp_pick_f rfl hy5 rfl) rfl ?_)
        obtain rfl := Option.some.inj ey5
        exact ow_nil (jy 5 0)
    · obtain ⟨y7, ey7, H0⟩ := bind_some H0
      refine oD (mv rfl) rfl (ow_cutY 7 29 y7 ?_ ?_)
      · rcases Bool.eq_false_or_eq_true y5 with hy7 | hy7
        · have ey7 := cond_t ey7 hy7
          refine oO rfl hy7 rfl (oO rfl hy7 rfl (oO rfl hy7 rfl (oO rfl hy7 rfl (oO rfl hy7 rfl (oO rfl hy7 rfl (oD (stp_pick_t rfl hy7 rfl) rfl ?_))))))
          obtain rfl := Option.some.inj ey7
          exact ow_nil (jy 7 0)
        · have ey7 := cond_f ey7 hy7
          obtain ⟨x8, e8, ey7⟩ := bind_some ey7
          refine oG rfl hy7 (fA 4 Tryz.underlying47 rfl ts45 rfl rfl rfl) rfl (oG rfl hy7 (stp_loadN (us := [_, _, _, _]) ts45 rfl (Cells.box (id := 0) rfl 4 rfl)) rfl (oG rfl hy7 (fA 8 Tryz.underlying47 rfl ts3 rfl rfl rfl) rfl (oG rfl hy7 (lB 0 ts3 rfl rfl rfl) rfl (ow_eff (.some rfl hy7) (stpU_call (fun i => 1 + i) cf127 (fun w hw => c_s_l5Find fl w a0.g p0_3 ((a0.g.o).length) c0_3 a0.s rfl (RO.pass hr0_3 hw) x8 e8) (sevs_cons rfl (sevs_cons rfl sevs_nil))) rfl ?_))))
          rintro _ _ ⟨_, ⟨rfl, rfl⟩, rfl⟩
          refine oG rfl hy7 (stp_lss rfl rfl) rfl (oD (stp_pick_f rfl hy7 rfl) rfl ?_)
          obtain rfl := Option.some.inj ey7
          exact ow_nil (jy 7 0)
      · refine ow_nil (kw_nx (cw_cond rfl (fun h9 => ?_) (fun h9 => ?_)))
        · have H0 := cond_t H0 h9
          refine sr (oD (sg rfl) rfl (nn (cw_ret (kw_nx_ret ?_))))
          have q0 := Option.some.inj H0
          subst q0
          exact kw_ret Tryz.results53 (.cons (.tmp rfl) .nil) [] [] trivial (by decide) ⟨rfl, rfl⟩
        · have H0 := cond_f H0 h9
          obtain ⟨o0_0, eo0_0, H0⟩ := bind_some H0
          refine cw_skip (kw_nx (cw_seq (sr (oD (sg rfl) rfl (nn (cw_join (ι := Int) (fun | v10 => o0_0 = .out v10) (fun | v10 => [(1, .pointer (some ⟨b1, 0, none⟩)), (3, .int .i64 v10)]) (fun | v10 => [(0, [(b1, .cells #[.slice p0_0 ((a0.t.b).length) c0_0, .slice p0_1 ((a0.t.f).length) c0_1, .slice p0_2 ((a0.c.l).length) c0_2, .int .i64 a0.c.h, .int .i64 a0.g.c, .int .i64 a0.g.n, .int .i64 a0.g.r, .slice p0_3 ((a0.g.o).length) c0_3, .int .i64 a0.s] 47 (0, 0))])]) ?_ ?_))))))
          · refine cw_block (cw_loopS (ι := Nat × Int) (js := [0]) (fun x => x.1) (fun | (fuel, v10) => s_MachineValid_L0 fl a0 fuel v10 = some o0_0) (fun | (_, v10) => [(1, .pointer (some ⟨b1, 0, none⟩)), (3, .int .i64 v10)]) (fun | (_, v10) => [(0, [(b1, .cells #[.slice p0_0 ((a0.t.b).length) c0_0, .slice p0_1 ((a0.t.f).length) c0_1, .slice p0_2 ((a0.c.l).length) c0_2, .int .i64 a0.c.h, .int .i64 a0.g.c, .int .i64 a0.g.n, .int .i64 a0.g.r, .slice p0_3 ((a0.g.o).length) c0_3, .int .i64 a0.s] 47 (0, 0))])]) (fl, 0) eo0_0 ⟨rfl, rfl, trivial⟩ ⟨0, [], rfl, rfl, trivial⟩ (by decide) ?_)
            rintro ⟨fuel, v10⟩ H1
            have H1 : s_MachineValid_L0 fl a0 fuel v10 = some o0_0 := H1
            rcases fuel with _ | fuel
            · rw [s_MachineValid_L0.eq_1] at H1; cases H1
            rw [s_MachineValid_L0.eq_2] at H1
            refine CW.sub (s' := [(1, .pointer (some ⟨b1, 0, none⟩)), (3, .int .i64 v10)]) (h' := [(0, [(b1, .cells #[.slice p0_0 ((a0.t.b).length) c0_0, .slice p0_1 ((a0.t.f).length) c0_1, .slice p0_2 ((a0.c.l).length) c0_2, .int .i64 a0.c.h, .int .i64 a0.g.c, .int .i64 a0.g.n, .int .i64 a0.g.r, .slice p0_3 ((a0.g.o).length) c0_3, .int .i64 a0.s] 47 (0, 0))])]) ?_ ⟨rfl, rfl, trivial⟩ ⟨rfl, trivial⟩
            refine cw_seq (sr (oD (mv rfl) rfl (oD (fA 0 Tryz.underlying47 rfl ts39 rfl rfl rfl) rfl (oD (fA 1 Tryz.underlying39 rfl ts37 rfl rfl rfl) rfl (oD (lB 0 ts37 rfl rfl rfl) rfl (oD (stp_len Tryz.underlying37 rfl) rfl (oD (stp_lss rfl rfl) rfl (nn (cw_cond rfl (fun h11 => ?_) (fun h11 => ?_))))))))))
            · have H1 := cond_t H1 h11
              obtain ⟨x12, e12, H1⟩ := bind_some H1
              refine cw_skip (kw_nx (cw_seq (cw_block (sr (oD (fA 0 Tryz.underlying47 rfl ts39 rfl rfl rfl) rfl (oD (fA 1 Tryz.underlying39 rfl ts37 rfl rfl rfl) rfl (oD (lB 0 ts37 rfl rfl rfl) rfl (oD (mv rfl) rfl (oD (stp_indexAddr Tryz.underlying37 ts127 (by decide) rfl rfl rfl (Rdb.ro hr0_1) e12) rfl (oD (stp_loadN (us := [_, _, _, _, _]) ts127 rfl (Cells.el (Rdb.ro hr0_1) (by decide) e12 0 5 rfl)) rfl (oE (stpU_alloc 1 tz127 rfl) rfl ?_)))))))))))
              rintro _ _ ⟨b13, rfl, rfl⟩
              refine oF (stpU_store (id := 1) (cs' := [.bool x12.u, .int .i64 x12.k.s, .int .i64 x12.k.p, .int .i64 x12.r, .int .i64 x12.nx]) ts127 rfl rfl rfl rfl rfl rfl rfl) ?_
              rintro _ _ rfl
              obtain ⟨y14, ey14, H1⟩ := bind_some H1
              refine nn (sr (oD (fA 0 Tryz.underlying127 rfl ts4 rfl rfl rfl) rfl (oD (lB 1 ts4 rfl rfl rfl) rfl (oD (mv rfl) rfl (ow_cutY 5 51 y14 ?_ ?_)))))
              · rcases Bool.eq_false_or_eq_true x12.u with hy14 | hy14
                · have ey14 := cond_t ey14 hy14
                  refine oG rfl hy14 (fA 1 Tryz.underlying127 rfl ts51 rfl rfl rfl) rfl (oG rfl hy14 (fA 1 Tryz.underlying51 rfl ts3 rfl rfl rfl) rfl (oG rfl hy14 (lB 1 ts3 rfl rfl rfl) rfl (oG rfl hy14 (stp_geq rfl rfl) rfl (oD (stp_pick_t rfl hy14 rfl) rfl ?_))))
                  obtain rfl := Option.some.inj ey14
                  exact ow_nil (jy 5 0)
                · have ey14 := cond_f ey14 hy14
                  refine oO rfl hy14 rfl (oO rfl hy14 rfl (oO rfl hy14 rfl (oO rfl hy14 rfl (oD (stp_pick_f rfl hy14 rfl) rfl ?_))))
                  obtain rfl := Option.some.inj ey14
                  exact ow_nil (jy 5 0)
              · obtain ⟨y15, ey15, H1⟩ := bind_some H1
                refine oD (mv rfl) rfl (ow_cutY 5 57 y15 ?_ ?_)
                · rcases Bool.eq_false_or_eq_true y14 with hy15 | hy15
                  · have ey15 := cond_t ey15 hy15
                    refine oG rfl hy15 (fA 1 Tryz.underlying127 rfl ts51 rfl rfl rfl) rfl (oG rfl hy15 (fA 0 Tryz.underlying51 rfl ts3 rfl rfl rfl) rfl (oG rfl hy15 (lB 1 ts3 rfl rfl rfl) rfl (oG rfl hy15 (stp_neq rfl rfl) rfl (oD (stp_pick_t rfl hy15 rfl) rfl ?_))))
                    obtain rfl := Option.some.inj ey15
                    exact ow_nil (jy 5 0)
                  · have ey15 := cond_f ey15 hy15
                    refine oO rfl hy15 rfl (oO rfl hy15 rfl (oO rfl hy15 rfl (oO rfl hy15 rfl (oD (stp_pick_f rfl hy15 rfl) rfl ?_))))
                    obtain rfl := Option.some.inj ey15
                    exact ow_nil (jy 5 0)
                · refine ow_nil (kw_nx (cw_cond rfl (fun h16 => ?_) (fun h16 => ?_)))
                  · have H1 := cond_t H1 h16
                    refine sr (oD (sg rfl) rfl (nn (cw_ret (kw_bl_ret (kw_nx_ret (kw_lq_ret (kw_bl_ret (kw_join_ret (kw_nx_ret ?_)))))))))
                    have q1 := Option.some.inj H1
                    subst q1
                    have q0 := Option.some.inj H0
                    subst q0
                    exact kw_ret Tryz.results53 (.cons (.tmp rfl) .nil) [] [] trivial (by decide) ⟨rfl, rfl⟩
                  · have H1 := cond_f H1 h16
                    obtain ⟨x17, e17, H1⟩ := bind_some H1
                    exact cw_skip (kw_bl_normal (kw_nx (cw_region (oD (mv rfl) rfl (oD (stp_add rfl rfl e17) rfl (oD (sg rfl) rfl (ow_nil (kw_lqS (js := [0]) (fuel, x17) H1 (Nat.lt_succ_self _) ⟨rfl, rfl, trivial⟩ ⟨0, [], rfl, rfl, trivial⟩ (by decide)))))))))
            · have H1 := cond_f H1 h11
              refine cw_exit (kw_nx_exit (kw_lq_exit (kw_bl ?_)))
              have q1 := Option.some.inj H1
              subst q1
              exact kw_joinS (js := [0]) v10 rfl ⟨rfl, rfl, trivial⟩ ⟨0, [], rfl, rfl, trivial⟩ (by decide)
          · rintro v10 rfl
            refine KW.sub (s' := [(1, .pointer (some ⟨b1, 0, none⟩)), (3, .int .i64 v10)]) (h' := [(0, [(b1, .cells #[.slice p0_0 ((a0.t.b).length) c0_0, .slice p0_1 ((a0.t.f).length) c0_1, .slice p0_2 ((a0.c.l).length) c0_2, .int .i64 a0.c.h, .int .i64 a0.g.c, .int .i64 a0.g.n, .int .i64 a0.g.r, .slice p0_3 ((a0.g.o).length) c0_3, .int .i64 a0.s] 47 (0, 0))])]) ?_ ⟨rfl, rfl, trivial⟩ ⟨rfl, trivial⟩
            obtain ⟨o0_1, eo0_1, H0⟩ := bind_some H0
            refine kw_nx (cw_seq (sr (oD (sg rfl) rfl (nn (cw_join (ι := Int) (fun | v18 => o0_1 = .out v18) (fun | v18 => [(1, .pointer (some ⟨b1, 0, none⟩)), (5, .int .i64 v18)]) (fun | v18 => [(0, [(b1, .cells #[.slice p0_0 ((a0.t.b).length) c0_0, .slice p0_1 ((a0.t.f).length) c0_1, .slice p0_2 ((a0.c.l).length) c0_2, .int .i64 a0.c.h, .int .i64 a0.g.c, .int .i64 a0.g.n, .int .i64 a0.g.r, .slice p0_3 ((a0.g.o).length) c0_3, .int .i64 a0.s] 47 (0, 0))])]) ?_ ?_)))))
            · refine cw_block (cw_loopS (ι := Nat × Int) (js := [0]) (fun x => x.1) (fun | (fuel, v18) => s_MachineValid_L1 fl a0 fuel v18 = some o0_1) (fun | (_, v18) => [(1, .pointer (some ⟨b1, 0, none⟩)), (5, .int .i64 v18)]) (fun | (_, v18) => [(0, [(b1, .cells #[.slice p0_0 ((a0.t.b).length) c0_0, .slice p0_1 ((a0.t.f).length) c0_1, .slice p0_2 ((a0.c.l).length) c0_2, .int .i64 a0.c.h, .int .i64 a0.g.c, .int .i64 a0.g.n, .int .i64 a0.g.r, .slice p0_3 ((a0.g.o).length) c0_3, .int .i64 a0.s] 47 (0, 0))])]) (fl, 0) eo0_1 ⟨rfl, rfl, trivial⟩ ⟨0, [], rfl, rfl, trivial⟩ (by decide) ?_)
              rintro ⟨fuel, v18⟩ H1
              have H1 : s_MachineValid_L1 fl a0 fuel v18 = some o0_1 := H1
              rcases fuel with _ | fuel
              · rw [s_MachineValid_L1.eq_1] at H1; cases H1
              rw [s_MachineValid_L1.eq_2] at H1
              refine CW.sub (s' := [(1, .pointer (some ⟨b1, 0, none⟩)), (5, .int .i64 v18)]) (h' := [(0, [(b1, .cells #[.slice p0_0 ((a0.t.b).length) c0_0, .slice p0_1 ((a0.t.f).length) c0_1, .slice p0_2 ((a0.c.l).length) c0_2, .int .i64 a0.c.h, .int .i64 a0.g.c, .int .i64 a0.g.n, .int .i64 a0.g.r, .slice p0_3 ((a0.g.o).length) c0_3, .int .i64 a0.s] 47 (0, 0))])]) ?_ ⟨rfl, rfl, trivial⟩ ⟨rfl, trivial⟩
              refine cw_seq (sr (oD (mv rfl) rfl (oD (fA 2 Tryz.underlying47 rfl ts42 rfl rfl rfl) rfl (oD (fA 0 Tryz.underlying42 rfl ts40 rfl rfl rfl) rfl (oD (lB 0 ts40 rfl rfl rfl) rfl (oD (stp_len Tryz.underlying40 rfl) rfl (oD (stp_lss rfl rfl) rfl (nn (cw_cond rfl (fun h19 => ?_) (fun h19 => ?_))))))))))
              · have H1 := cond_t H1 h19
                obtain ⟨x20, e20, H1⟩ := bind_some H1
                obtain ⟨y21, ey21, H1⟩ := bind_some H1
                refine cw_skip (kw_nx (cw_seq (cw_block (cw_seq (cw_join (ι := Unit) (fun | _ => True) (fun | _ => [(1, .pointer (some ⟨b1, 0, none⟩)), (5, .int .i64 v18), (83, .bool y21)]) (fun | _ => [(0, [(b1, .cells #[.slice p0_0 ((a0.t.b).length) c0_0, .slice p0_1 ((a0.t.f).length) c0_1, .slice p0_2 ((a0.c.l).length) c0_2, .int .i64 a0.c.h, .int .i64 a0.g.c, .int .i64 a0.g.n, .int .i64 a0.g.r, .slice p0_3 ((a0.g.o).length) c0_3, .int .i64 a0.s] 47 (0, 0))])]) ?_ ?_)))))
                · rcases Bool.eq_false_or_eq_true x20.va with hy21 | hy21
                  · have ey21 := cond_t ey21 hy21
                    obtain ⟨x22, e22, ey21⟩ := bind_some ey21
                    have qy21 := Option.some.inj ey21
                    refine rdr g_mixed [1, 5] [0] { dst := dS [67, 68, 69, 70, 71, 72, 73, 74, 75, 76, 77, 78, 79, 80, 81, 82, 83, 84], pre := gA [] [[], [0], [0, 1], [], rn 0 4, rn 0 5, rn 0 6, rn 0 7, rn 0 8, rn 0 8, [0, 1, 2, 3, 4, 5, 6, 7, 9], [0, 1, 2, 3, 4, 5, 6, 7, 9, 10], rn 0 8, [0, 1, 2, 3, 4, 5, 6, 7, 9, 10, 11, 12], [0, 1, 2, 3, 4, 5, 6, 7, 9, 10, 11, 12, 13], rn 0 15, rn 0 16, rn 0 17], ids := fun _ => [], rs := rL [[(1, 0)], [(66, 1)], [(67, 2)], [(5, 0)], [(68, 3), (69, 4)], [(70, 5)], [(71, 6)], [(72, 7)], [(1, 0), (73, 8)], [(1, 0), (73, 8)], [(75, 10), (73, 8)], [(76, 11), (73, 8)], [(5, 0), (73, 8)], [(77, 12), (78, 13), (73, 8)], [(79, 14), (73, 8)], [(74, 9), (80, 15), (73, 8)], [(81, 16), (73, 8)], [(73, 8), (82, 17)]], rh := rL [[], [], [(0, 0)], [], [], [], [], [], [(0, 0)], [], [], [(0, 0)]], V := fun i g => gA undef [.pointer (some ⟨b1, 2, none⟩), .pointer (some ⟨b1, 2, none⟩), .slice p0_2 ((a0.c.l).length) c0_2, .int .i64 v18, .pointer (some ⟨eB p0_2, eO p0_2 + Int.toNat v18 * Enc.sz Ln + 0, none⟩), .pointer (some ⟨eB p0_2, eO p0_2 + Int.toNat v18 * Enc.sz Ln + 0, none⟩), .bool x20.va, .bool x20.va, .agg #[.slice p0_0 ((a0.t.b).length) c0_0, .slice p0_1 ((a0.t.f).length) c0_1, .slice p0_2 ((a0.c.l).length) c0_2, .int .i64 a0.c.h, .int .i64 a0.g.c, .int .i64 a0.g.n, .int .i64 a0.g.r, .slice p0_3 ((a0.g.o).length) c0_3, .int .i64 a0.s], .pointer (some ⟨b1, 2, none⟩), .pointer (some ⟨b1, 2, none⟩), .slice p0_2 ((a0.c.l).length) c0_2, .int .i64 v18, .pointer (some ⟨eB p0_2, eO p0_2 + Int.toNat v18 * Enc.sz Ln + 0, none⟩), .agg #[.bool x20.va, .int .i64 x20.tg, .int .i64 x20.pg, .int .i64 x20.fr, .int .i64 x20.ri, .bool x20.wi], .bool x22, .bool (!x22), .bool y21] i, U := fun _ _ => [], Φ := fun _ _ => True } ?_ ?_
                    · refine ⟨⟨⟨⟨⟨⟨⟨⟨⟨⟨⟨⟨⟨⟨⟨⟨⟨⟨trivial, lc rfl rfl fun hs hh => stp_fieldAddr (j := 2) Tryz.underlying47 rfl ts42 rfl (sv hs 1 rfl) rfl⟩, lc rfl rfl fun hs hh => stp_fieldAddr (j := 0) Tryz.underlying42 rfl ts40 rfl (sv hs 66 rfl) rfl⟩, lc rfl rfl fun hs hh => stp_load1 ts40 (sv hs 67 rfl) (Cells.box (id := 0) (hh.get 0 _ rfl) 1 rfl)⟩, lc rfl rfl fun hs hh => stp_move (sv hs 5 rfl)⟩, lc rfl rfl fun hs hh => stp_indexAddr Tryz.underlying40 ts112 (by decide) (sv hs 68 rfl) rfl (sv hs 69 rfl) (Rdb.ro hr0_2) e20⟩, lc rfl rfl fun hs hh => stp_fieldAddr (j := 0) Tryz.underlying112 rfl ts4 rfl (sv hs 70 rfl) rfl⟩, lc rfl rfl fun hs hh => stp_load1 ts4 (sv hs 71 rfl) (Cells.el (Rdb.ro hr0_2) (by decide) e20 0 1 rfl)⟩, lc rfl rfl fun hs hh => stp_move (sv hs 72 rfl)⟩, lg rfl rfl 73 hy21 fun hs hh => stp_loadN (us := [_, _, _, _, _, _, _, _, _]) ts47 (sv hs 1 rfl) (Cells.box (id := 0) (hh.get 0 _ rfl) 9 rfl)⟩, lg rfl rfl 73 hy21 fun hs hh => stp_fieldAddr (j := 2) Tryz.underlying47 rfl ts42 rfl (sv hs 1 rfl) rfl⟩, lg rfl rfl 73 hy21 fun hs hh => stp_fieldAddr (j := 0) Tryz.underlying42 rfl ts40 rfl (sv hs 75 rfl) rfl⟩, lg rfl rfl 73 hy21 fun hs hh => stp_load1 ts40 (sv hs 76 rfl) (Cells.box (id := 0) (hh.get 0 _ rfl) 1 rfl)⟩, lg rfl rfl 73 hy21 fun hs hh => stp_move (sv hs 5 rfl)⟩, lg rfl rfl 73 hy21 fun hs hh => stp_indexAddr Tryz.underlying40 ts112 (by decide) (sv hs 77 rfl) rfl (sv hs 78 rfl) (Rdb.ro hr0_2) e20⟩, lg rfl rfl 73 hy21 fun hs hh => stp_loadN (us := [_, _, _, _, _, _]) ts112 (sv hs 79 rfl) (Cells.el (Rdb.ro hr0_2) (by decide) e20 0 6 rfl)⟩, ?_⟩, lg rfl rfl 73 hy21 fun hs hh => stp_not (sv hs 81 rfl)⟩, lc rfl rfl fun hs hh => stp_pick_tB (sv hs 73 rfl) hy21 (sv hs 82 rfl) qy21⟩
                      · refine loc_eff rfl rfl (fun g hΦ s h hs hh => ⟨(.some (gval_of rfl (sv hs 73 rfl)) hy21), (stpU_call (fun i => 2 + i) cf128 (fun w hw => c_s_l6Line fl w a0 p0_0 ((a0.t.b).length) c0_0 p0_1 ((a0.t.f).length) c0_1 p0_2 ((a0.c.l).length) c0_2 p0_3 ((a0.g.o).length) c0_3 x20 rfl (RO.pass hr0_0 hw) rfl (RO.pass hr0_1 hw) rfl (RO.pass hr0_2 hw) rfl (RO.pass hr0_3 hw) x22 e22) (sevs_cons (sv hs 74 rfl) (sevs_cons (sv hs 80 rfl) sevs_nil)))⟩) ?_
                        rintro g _ _ ⟨_, ⟨rfl, rfl⟩, rfl⟩
                        exact ⟨⟨[], [], []⟩, trivial, .inr rfl, rfl⟩
                    · intro g hΦ
                      exact kw_join () trivial ⟨rfl, rfl, rfl, trivial⟩ ⟨rfl, trivial⟩
                  · have ey21 := cond_f ey21 hy21
                    have qy21 := Option.some.inj ey21
                    refine rdr g_mixed [1, 5] [0] { dst := dS [67, 68, 69, 70, 71, 72, 73, 74, 75, 76, 77, 78, 79, 80, 81, 82, 83, 84], pre := gA [] [[], [0], [0, 1], [], rn 0 4, rn 0 5, rn 0 6, rn 0 7, rn 0 8, rn 0 8, [0, 1, 2, 3, 4, 5, 6, 7, 9], [0, 1, 2, 3, 4, 5, 6, 7, 9, 10], rn 0 8, [0, 1, 2, 3, 4, 5, 6, 7, 9, 10, 11, 12], [0, 1, 2, 3, 4, 5, 6, 7, 9, 10, 11, 12, 13], rn 0 15, rn 0 16, rn 0 17], ids := fun _ => [], rs := rL [[(1, 0)], [(66, 1)], [(67, 2)], [(5, 0)], [(68, 3), (69, 4)], [(70, 5)], [(71, 6)], [(72, 7)], [(73, 8)], [(73, 8)], [(73, 8)], [(73, 8)], [(73, 8)], [(73, 8)], [(73, 8)], [(73, 8)], [(73, 8)], [(73, 8), (82, 17)]], rh := rL [[], [], [(0, 0)]], V := fun i g => gA undef [.pointer (some ⟨b1, 2, none⟩), .pointer (some ⟨b1, 2, none⟩), .slice p0_2 ((a0.c.l).length) c0_2, .int .i64 v18, .pointer (some ⟨eB p0_2, eO p0_2 + Int.toNat v18 * Enc.sz Ln + 0, none⟩), .pointer (some ⟨eB p0_2, eO p0_2 + Int.toNat v18 * Enc.sz Ln + 0, none⟩), .bool x20.va, .bool x20.va, undef, undef, undef, undef, undef, undef, undef, undef, undef, .bool y21] i, U := fun _ _ => [], Φ := fun _ _ => True } ?_ ?_
                    · exact ⟨⟨⟨⟨⟨⟨⟨⟨⟨⟨⟨⟨⟨⟨⟨⟨⟨⟨trivial, lc rfl rfl fun hs hh => stp_fieldAddr (j := 2) Tryz.underlying47 rfl ts42 rfl (sv hs 1 rfl) rfl⟩, lc rfl rfl fun hs hh => stp_fieldAddr (j := 0) Tryz.underlying42 rfl ts40 rfl (sv hs 66 rfl) rfl⟩, lc rfl rfl fun hs hh => stp_load1 ts40 (sv hs 67 rfl) (Cells.box (id := 0) (hh.get 0 _ rfl) 1 rfl)⟩, lc rfl rfl fun hs hh => stp_move (sv hs 5 rfl)⟩, lc rfl rfl fun hs hh => stp_indexAddr Tryz.underlying40 ts112 (by decide) (sv hs 68 rfl) rfl (sv hs 69 rfl) (Rdb.ro hr0_2) e20⟩, lc rfl rfl fun hs hh => stp_fieldAddr (j := 0) Tryz.underlying112 rfl ts4 rfl (sv hs 70 rfl) rfl⟩, lc rfl rfl fun hs hh => stp_load1 ts4 (sv hs 71 rfl) (Cells.el (Rdb.ro hr0_2) (by decide) e20 0 1 rfl)⟩, lc rfl rfl fun hs hh => stp_move (sv hs 72 rfl)⟩, lo rfl rfl 73 hy21⟩, lo rfl rfl 73 hy21⟩, lo rfl rfl 73 hy21⟩, lo rfl rfl 73 hy21⟩, lo rfl rfl 73 hy21⟩, lo rfl rfl 73 hy21⟩, lo rfl rfl 73 hy21⟩, lo rfl rfl 73 hy21⟩, lo rfl rfl 73 hy21⟩, lc rfl rfl fun hs hh => stp_pick_fB (sv hs 73 rfl) hy21 rfl qy21⟩
                    · intro g hΦ
                      exact kw_join () trivial ⟨rfl, rfl, rfl, trivial⟩ ⟨rfl, trivial⟩
                · rintro _ -
                  refine KW.sub (s' := [(1, .pointer (some ⟨b1, 0, none⟩)), (5, .int .i64 v18), (83, .bool y21)]) (h' := [(0, [(b1, .cells #[.slice p0_0 ((a0.t.b).length) c0_0, .slice p0_1 ((a0.t.f).length) c0_1, .slice p0_2 ((a0.c.l).length) c0_2, .int .i64 a0.c.h, .int .i64 a0.g.c, .int .i64 a0.g.n, .int .i64 a0.g.r, .slice p0_3 ((a0.g.o).length) c0_3, .int .i64 a0.s] 47 (0, 0))])]) ?_ ⟨rfl, rfl, rfl, trivial⟩ ⟨rfl, trivial⟩
                  refine kw_nx (cw_cond rfl (fun h23 => ?_) (fun h23 => ?_))
                  · have H1 := cond_t H1 h23
                    refine sr (oD (sg rfl) rfl (nn (cw_ret (kw_bl_ret (kw_nx_ret (kw_lq_ret (kw_bl_ret (kw_join_ret (kw_nx_ret ?_)))))))))
                    have q1 := Option.some.inj H1
                    subst q1
                    have q0 := Option.some.inj H0
                    subst q0
                    exact kw_ret Tryz.results53 (.cons (.tmp rfl) .nil) [] [] trivial (by decide) ⟨rfl, rfl⟩
                  · have H1 := cond_f H1 h23
                    obtain ⟨x24, e24, H1⟩ := bind_some H1
                    exact cw_skip (kw_bl_normal (kw_nx (cw_region (oD (mv rfl) rfl (oD (stp_add rfl rfl e24) rfl (oD (sg rfl) rfl (ow_nil (kw_lqS (js := [0]) (fuel, x24) H1 (Nat.lt_succ_self _) ⟨rfl, rfl, trivial⟩ ⟨0, [], rfl, rfl, trivial⟩ (by decide)))))))))
              · have H1 := cond_f H1 h19
                refine cw_exit (kw_nx_exit (kw_lq_exit (kw_bl ?_)))
                have q1 := Option.some.inj H1
                subst q1
                exact kw_joinS (js := [0]) v18 rfl ⟨rfl, rfl, trivial⟩ ⟨0, [], rfl, rfl, trivial⟩ (by decide)
            · rintro v18 rfl
              refine KW.sub (s' := [(1, .pointer (some ⟨b1, 0, none⟩)), (5, .int .i64 v18)]) (h' := [(0, [(b1, .cells #[.slice p0_0 ((a0.t.b).length) c0_0, .slice p0_1 ((a0.t.f).length) c0_1, .slice p0_2 ((a0.c.l).length) c0_2, .int .i64 a0.c.h, .int .i64 a0.g.c, .int .i64 a0.g.n, .int .i64 a0.g.r, .slice p0_3 ((a0.g.o).length) c0_3, .int .i64 a0.s] 47 (0, 0))])]) ?_ ⟨rfl, rfl, trivial⟩ ⟨rfl, trivial⟩
              refine kw_nx (sr (oD (sg rfl) rfl (nn (cw_ret ?_))))
              have q0 := Option.some.inj H0
              subst q0
              exact kw_ret Tryz.results53 (.cons (.tmp rfl) .nil) [] [] trivial (by decide) ⟨rfl, rfl⟩

set_option maxHeartbeats 4000000 in
set_option maxRecDepth 20000 in
theorem c_s_l3Copy (fl : Nat) (w : World) (a0 : T) (p0_0 : Option Addr) (n0_0 c0_0 : Nat) (p0_1 : Option Addr) (n0_1 c0_1 : Nat) (hn0_0 : n0_0 = (a0.b).length) (hr0_0 : RO w (hkeys []) (RdL p0_0 c0_0 a0.b)) (hn0_1 : n0_1 = (a0.f).length) (hr0_1 : RO w (hkeys []) (RdL p0_1 c0_1 a0.f)) (r : T) (H0 : s_l3Copy fl a0 = some r) :
    Ct Tryz.prog 131 [.agg #[.slice p0_0 n0_0 c0_0, .slice p0_1 n0_1 c0_1]] w [] (fun rv h' => ∃ (x0 : Option Addr) (y0 z0 : Nat) (C0 : Res) (x1 : Option Addr) (y1 z1 : Nat) (C1 : Res), rv = .agg #[.slice x0 y0 z0, .slice x1 y1 z1] ∧ h' = [(0, C0), (1, C1)] ∧ y0 = (r.b).length ∧ OwnC 3 x0 z0 r.b C0 ∧ y1 = (r.f).length ∧ OwnC 127 x1 z1 r.f C1) := by
  obtain rfl := hn0_0
  obtain rfl := hn0_1
  unfold s_l3Copy at H0
  refine ct_of_cw Tryz.func131 rfl Tryz.ntmps131 rfl (Sat.refl _ _) ?_
  refine sr (oE (stpU_box 0 rfl rfl) rfl ?_)
  rintro _ _ ⟨b1, rfl, rfl⟩
  refine oE (stpU_alloc 1 tz39 rfl) rfl ?_
  rintro _ _ ⟨b2, rfl, rfl⟩
  obtain ⟨x5, e5, H0⟩ := bind_some H0
  obtain ⟨x11, e11, H0⟩ := bind_some H0
  refine nn (cw_seq (rdr g_mixed [1, 2] [0, 1] { dst := dS [4, 5, 6, 7, 8, 9, 10, 11, 12, 0], pre := gA [] [[], [], [1], [0, 1, 2], [], [], [5], rn 0 7, rn 0 8, rn 0 9], ids := gA [] [[2], [], [], [2], [3], [], [], [3], [], [1]], rs := rL [[], [(1, 0)], [(4, 2)], [(3, 1), (5, 3)], [], [(1, 0)], [(8, 6)], [(7, 5), (9, 7)], [(6, 4), (10, 8)], [(2, 0), (11, 9)]], rh := rL [[], [], [(0, 0)], [(2, 1)], [], [], [(0, 0)], [(3, 5)], [], [(1, 0)]], V := fun i g => gA undef [.slice ((g 0).A 0) 0 0, .pointer (some ⟨b1, 0, none⟩), .slice p0_0 ((a0.b).length) c0_0, .slice ((g 3).A 0) ((x5).length) ((g 3).C 0), .slice ((g 4).A 0) 0 0, .pointer (some ⟨b1, 1, none⟩), .slice p0_1 ((a0.f).length) c0_1, .slice ((g 7).A 0) ((x11).length) ((g 7).C 0), .agg #[.slice ((g 3).A 0) ((x5).length) ((g 3).C 0), .slice ((g 7).A 0) ((x11).length) ((g 7).C 0)]] i, U := fun i g => gA [] [[(2, ((g 0).R 0))], [], [], [(2, ((g 3).R 0))], [(3, ((g 4).R 0))], [], [], [(3, ((g 7).R 0))], [], [(1, [(b2, .cells #[.slice ((g 3).A 0) ((x5).length) ((g 3).C 0), .slice ((g 7).A 0) ((x11).length) ((g 7).C 0)] 39 (0, 0))])]] i, Φ := fun i x => gA True [OwnC (α := Int) 3 (x.A 0) 0 ([] : List Int) (x.R 0), True, True, OwnC (α := Int) 3 (x.A 0) (x.C 0) x5 (x.R 0), OwnC (α := F) 127 (x.A 0) 0 ([] : List F) (x.R 0), True, True, OwnC (α := F) 127 (x.A 0) (x.C 0) x11 (x.R 0)] i } ?_ ?_))
  · refine ⟨⟨⟨⟨⟨⟨⟨⟨⟨⟨trivial, ?_⟩, lc rfl rfl fun hs hh => stp_fieldAddr (j := 0) Tryz.underlying39 rfl ts22 rfl (sv hs 1 rfl) rfl⟩, lc rfl rfl fun hs hh => stp_load1 ts22 (sv hs 4 rfl) (Cells.box (id := 0) (hh.get 0 _ rfl) 1 rfl)⟩, ?_⟩, ?_⟩, lc rfl rfl fun hs hh => stp_fieldAddr (j := 1) Tryz.underlying39 rfl ts37 rfl (sv hs 1 rfl) rfl⟩, lc rfl rfl fun hs hh => stp_load1 ts37 (sv hs 8 rfl) (Cells.box (id := 0) (hh.get 0 _ rfl) 1 rfl)⟩, ?_⟩, ld rfl rfl fun g hΦ s h hs hh => stp_build (cs := #[.slice ((g 3).A 0) ((x5).length) ((g 3).C 0), .slice ((g 7).A 0) ((x11).length) ((g 7).C 0)]) (sevp_cons (sv hs 6 rfl) (sevp_cons (sv hs 10 rfl) sevp_nil)) bt39_5⟩, ?_⟩
    · refine le rfl rfl (fun g hΦ s h hs hh => (stpU_lit0 sl22 2)) ?_
      rintro g _ _ ⟨p3, C4, rfl, rfl, o4⟩
      exact ⟨⟨[p3], [], [C4]⟩, o4, .inr rfl, rfl⟩
    · refine le rfl rfl (fun g hΦ s h hs hh => (stpU_append sl22 rfl (id := 2) (sv hs 3 rfl) (by simp) (sv hs 5 rfl) rfl (hh.get 2 _ rfl) (hΦ 0 rfl) (Rdb.ro hr0_0) e5)) ?_
      rintro g _ _ ⟨p6, c7, C8, rfl, rfl, o8⟩
      exact ⟨⟨[p6], [c7], [C8]⟩, o8, .inr rfl, rfl⟩
    · refine le rfl rfl (fun g hΦ s h hs hh => (stpU_lit0 sl37 3)) ?_
      rintro g _ _ ⟨p9, C10, rfl, rfl, o10⟩
      exact ⟨⟨[p9], [], [C10]⟩, o10, .inr rfl, rfl⟩
    · refine le rfl rfl (fun g hΦ s h hs hh => (stpU_append sl37 rfl (id := 3) (sv hs 7 rfl) (by simp) (sv hs 9 rfl) rfl (hh.get 3 _ rfl) (hΦ 4 rfl) (Rdb.ro hr0_1) e11)) ?_
      rintro g _ _ ⟨p12, c13, C14, rfl, rfl, o14⟩
      exact ⟨⟨[p12], [c13], [C14]⟩, o14, .inr rfl, rfl⟩
    · refine le rfl rfl (fun g hΦ s h hs hh => (stpU_store (id := 1) (cs' := [.slice ((g 3).A 0) ((x5).length) ((g 3).C 0), .slice ((g 7).A 0) ((x11).length) ((g 7).C 0)]) ts39 (sv hs 2 rfl) (sv hs 11 rfl) (hh.get 1 _ rfl) rfl rfl rfl rfl)) ?_
      rintro g _ _ rfl
      exact ⟨⟨[], [], []⟩, trivial, .inl rfl, rfl⟩
  · intro g hΦ
    refine kw_gen (ι := Option Addr × Res × Option Addr × Nat × Res × Option Addr × Res × Option Addr × Nat × Res) (((g 0).A 0), ((g 0).R 0), ((g 3).A 0), ((g 3).C 0), ((g 3).R 0), ((g 4).A 0), ((g 4).R 0), ((g 7).A 0), ((g 7).C 0), ((g 7).R 0)) (fun | (p3, C4, p6, c7, C8, p9, C10, p12, c13, C14) => OwnC (α := Int) 3 p3 0 ([] : List Int) C4 ∧ OwnC (α := Int) 3 p6 c7 x5 C8 ∧ OwnC (α := F) 127 p9 0 ([] : List F) C10 ∧ OwnC (α := F) 127 p12 c13 x11 C14) (fun | (p3, C4, p6, c7, C8, p9, C10, p12, c13, C14) => [(2, .pointer (some ⟨b2, 0, none⟩))]) (fun | (p3, C4, p6, c7, C8, p9, C10, p12, c13, C14) => [(1, [(b2, .cells #[.slice p6 ((x5).length) c7, .slice p12 ((x11).length) c13] 39 (0, 0))]), (2, C8), (3, C14)]) ⟨(hΦ 0 (by decide)), (hΦ 3 (by decide)), (hΦ 4 (by decide)), (hΦ 7 (by decide))⟩ ⟨rfl, trivial⟩ ⟨rfl, rfl, rfl, trivial⟩ ?_
    rintro ⟨p3, C4, p6, c7, C8, p9, C10, p12, c13, C14⟩ ⟨o4, o8, o10, o14⟩
    refine KW.sub (s' := [(2, .pointer (some ⟨b2, 0, none⟩))]) (h' := [(1, [(b2, .cells #[.slice p6 ((x5).length) c7, .slice p12 ((x11).length) c13] 39 (0, 0))]), (2, C8), (3, C14)]) ?_ ⟨rfl, trivial⟩ ⟨rfl, rfl, rfl, trivial⟩
    refine kw_nx (cw_ret ?_)
    have q0 := Option.some.inj H0
    subst q0
    exact kw_ret Tryz.results131 (.cons (.cellN (us := [_, _]) ts39 rfl (Cells.box (id := 1) rfl 2 rfl)) .nil) [(0, C8), (1, C14)] [2, 3] ⟨2, [3], rfl, rfl, 3, [], rfl, rfl, trivial⟩ (by decide) ⟨p6, ((x5).length), c7, C8, p12, ((x11).length), c13, C14, rfl, rfl, rfl, o8, rfl, o14⟩

set_option maxHeartbeats 4000000 in
set_option maxRecDepth 20000 in
theorem c_s_l4Copy (fl : Nat) (w : World) (a0 : Ca) (p0_0 : Option Addr) (n0_0 c0_0 : Nat) (hn0_0 : n0_0 = (a0.l).length) (hr0_0 : RO w (hkeys []) (RdL p0_0 c0_0 a0.l)) (r : Ca) (H0 : s_l4Copy fl a0 = some r) :
    Ct Tryz.prog 132 [.agg #[.slice p0_0 n0_0 c0_0, .int .i64 a0.h]] w [] (fun rv h' => ∃ (x0 : Option Addr) (y0 z0 : Nat) (C0 : Res), rv = .agg #[.slice x0 y0 z0, .int .i64 r.h] ∧ h' = [(0, C0)] ∧ y0 = (r.l).length ∧ OwnC 112 x0 z0 r.l C0) := by
  obtain rfl := hn0_0
  unfold s_l4Copy at H0
  refine ct_of_cw Tryz.func132 rfl Tryz.ntmps132 rfl (Sat.refl _ _) ?_
  refine sr (oE (stpU_box 0 rfl rfl) rfl ?_)
  rintro _ _ ⟨b1, rfl, rfl⟩
  refine oE (stpU_alloc 1 tz42 rfl) rfl ?_
  rintro _ _ ⟨b2, rfl, rfl⟩
  obtain ⟨x5, e5, H0⟩ := bind_some H0
  refine nn (cw_seq (rdr g_mixed [1, 2] [0, 1] { dst := dS [4, 5, 6, 7, 8, 9, 10, 0], pre := gA [] [[], [], [1], [0, 1, 2], [], [4], rn 0 6, rn 0 7], ids := gA [] [[2], [], [], [2], [], [], [], [1]], rs := rL [[], [(1, 0)], [(4, 2)], [(3, 1), (5, 3)], [(1, 0)], [(7, 5)], [(6, 4), (8, 6)], [(2, 0), (9, 7)]], rh := rL [[], [], [(0, 0)], [(2, 1)], [], [(0, 0)], [], [(1, 0)]], V := fun i g => gA undef [.slice ((g 0).A 0) 0 0, .pointer (some ⟨b1, 0, none⟩), .slice p0_0 ((a0.l).length) c0_0, .slice ((g 3).A 0) ((x5).length) ((g 3).C 0), .pointer (some ⟨b1, 1, none⟩), .int .i64 a0.h, .agg #[.slice ((g 3).A 0) ((x5).length) ((g 3).C 0), .int .i64 a0.h]] i, U := fun i g => gA [] [[(2, ((g 0).R 0))], [], [], [(2, ((g 3).R 0))], [], [], [], [(1, [(b2, .cells #[.slice ((g 3).A 0) ((x5).length) ((g 3).C 0), .int .i64 a0.h] 42 (0, 0))])]] i, Φ := fun i x => gA True [OwnC (α := Ln) 112 (x.A 0) 0 ([] : List Ln) (x.R 0), True, True, OwnC (α := Ln) 112 (x.A 0) (x.C 0) x5 (x.R 0)] i } ?_ ?_))
  · refine ⟨⟨⟨⟨⟨⟨⟨⟨trivial, ?_⟩, lc rfl rfl fun hs hh => stp_fieldAddr (j := 0) Tryz.underlying42 rfl ts40 rfl (sv hs 1 rfl) rfl⟩, lc rfl rfl fun hs hh => stp_load1 ts40 (sv hs 4 rfl) (Cells.box (id := 0) (hh.get 0 _ rfl) 1 rfl)⟩, ?_⟩, lc rfl rfl fun hs hh => stp_fieldAddr (j := 1) Tryz.underlying42 rfl ts3 rfl (sv hs 1 rfl) rfl⟩, lc rfl rfl fun hs hh => stp_load1 ts3 (sv hs 7 rfl) (Cells.box (id := 0) (hh.get 0 _ rfl) 1 rfl)⟩, ld rfl rfl fun g hΦ s h hs hh => stp_build (cs := #[.slice ((g 3).A 0) ((x5).length) ((g 3).C 0), .int .i64 a0.h]) (sevp_cons (sv hs 6 rfl) (sevp_cons (sv hs 8 rfl) sevp_nil)) bt42_7⟩, ?_⟩
    · refine le rfl rfl (fun g hΦ s h hs hh => (stpU_lit0 sl40 2)) ?_
      rintro g _ _ ⟨p3, C4, rfl, rfl, o4⟩
      exact ⟨⟨[p3], [], [C4]⟩, o4, .inr rfl, rfl⟩
    · refine le rfl rfl (fun g hΦ s h hs hh => (stpU_append sl40 rfl (id := 2) (sv hs 3 rfl) (by simp) (sv hs 5 rfl) rfl (hh.get 2 _ rfl) (hΦ 0 rfl) (Rdb.ro hr0_0) e5)) ?_
      rintro g _ _ ⟨p6, c7, C8, rfl, rfl, o8⟩
      exact ⟨⟨[p6], [c7], [C8]⟩, o8, .inr rfl, rfl⟩
    · refine le rfl rfl (fun g hΦ s h hs hh => (stpU_store (id := 1) (cs' := [.slice ((g 3).A 0) ((x5).length) ((g 3).C 0), .int .i64 a0.h]) ts42 (sv hs 2 rfl) (sv hs 9 rfl) (hh.get 1 _ rfl) rfl rfl rfl rfl)) ?_
      rintro g _ _ rfl
      exact ⟨⟨[], [], []⟩, trivial, .inl rfl, rfl⟩
  · intro g hΦ
    refine kw_gen (ι := Option Addr × Res × Option Addr × Nat × Res) (((g 0).A 0), ((g 0).R 0), ((g 3).A 0), ((g 3).C 0), ((g 3).R 0)) (fun | (p3, C4, p6, c7, C8) => OwnC (α := Ln) 112 p3 0 ([] : List Ln) C4 ∧ OwnC (α := Ln) 112 p6 c7 x5 C8) (fun | (p3, C4, p6, c7, C8) => [(2, .pointer (some ⟨b2, 0, none⟩))]) (fun | (p3, C4, p6, c7, C8) => [(1, [(b2, .cells #[.slice p6 ((x5).length) c7, .int .i64 a0.h] 42 (0, 0))]), (2, C8)]) ⟨(hΦ 0 (by decide)), (hΦ 3 (by decide))⟩ ⟨rfl, trivial⟩ ⟨rfl, rfl, trivial⟩ ?_
    rintro ⟨p3, C4, p6, c7, C8⟩ ⟨o4, o8⟩
    refine KW.sub (s' := [(2, .pointer (some ⟨b2, 0, none⟩))]) (h' := [(1, [(b2, .cells #[.slice p6 ((x5).length) c7, .int .i64 a0.h] 42 (0, 0))]), (2, C8)]) ?_ ⟨rfl, trivial⟩ ⟨rfl, rfl, trivial⟩
    refine kw_nx (cw_ret ?_)
    have q0 := Option.some.inj H0
    subst q0
    exact kw_ret Tryz.results132 (.cons (.cellN (us := [_, _]) ts42 rfl (Cells.box (id := 1) rfl 2 rfl)) .nil) [(0, C8)] [2] ⟨2, [], rfl, rfl, trivial⟩ (by decide) ⟨p6, ((x5).length), c7, C8, rfl, rfl, rfl, o8⟩

set_option maxHeartbeats 4000000 in
set_option maxRecDepth 20000 in
theorem c_s_l5Copy (fl : Nat) (w : World) (a0 : Tg) (p0_0 : Option Addr) (n0_0 c0_0 : Nat) (hn0_0 : n0_0 = (a0.o).length) (hr0_0 : RO w (hkeys []) (RdL p0_0 c0_0 a0.o)) (r : Tg) (H0 : s_l5Copy fl a0 = some r) :
    Ct Tryz.prog 133 [.agg #[.int .i64 a0.c, .int .i64 a0.n, .int .i64 a0.r, .slice p0_0 n0_0 c0_0]] w [] (fun rv h' => ∃ (x0 : Option Addr) (y0 z0 : Nat) (C0 : Res), rv = .agg #[.int .i64 r.c, .int .i64 r.n, .int .i64 r.r, .slice x0 y0 z0] ∧ h' = [(0, C0)] ∧ y0 = (r.o).length ∧ OwnC 148 x0 z0 r.o C0) := by
  obtain rfl := hn0_0
  unfold s_l5Copy at H0
  refine ct_of_cw Tryz.func133 rfl Tryz.ntmps133 rfl (Sat.refl _ _) ?_
  refine sr (oE (stpU_box 0 rfl rfl) rfl ?_)
  rintro _ _ ⟨b1, rfl, rfl⟩
  refine oE (stpU_alloc 1 tz45 rfl) rfl ?_
  rintro _ _ ⟨b2, rfl, rfl⟩
  obtain ⟨x5, e5, H0⟩ := bind_some H0
  refine nn (cw_seq (rdr g_mixed [1, 2] [0, 1] { dst := dS [4, 5, 6, 7, 8, 9, 10, 11, 12, 13, 14, 0], pre := gA [] [[], [0], [], [2], [], [4], [], [], [7], [6, 7, 8], rn 0 10, rn 0 11], ids := gA [] [[], [], [], [], [], [], [2], [], [], [2], [], [1]], rs := rL [[(1, 0)], [(3, 1)], [(1, 0)], [(5, 3)], [(1, 0)], [(7, 5)], [], [(1, 0)], [(10, 8)], [(9, 7), (11, 9)], [(4, 2), (6, 4), (8, 6), (12, 10)], [(2, 0), (13, 11)]], rh := rL [[], [(0, 0)], [], [(0, 0)], [], [(0, 0)], [], [], [(0, 0)], [(2, 7)], [], [(1, 0)]], V := fun i g => gA undef [.pointer (some ⟨b1, 0, none⟩), .int .i64 a0.c, .pointer (some ⟨b1, 1, none⟩), .int .i64 a0.n, .pointer (some ⟨b1, 2, none⟩), .int .i64 a0.r, .slice ((g 6).A 0) 0 0, .pointer (some ⟨b1, 3, none⟩), .slice p0_0 ((a0.o).length) c0_0, .slice ((g 9).A 0) ((x5).length) ((g 9).C 0), .agg #[.int .i64 a0.c, .int .i64 a0.n, .int .i64 a0.r, .slice ((g 9).A 0) ((x5).length) ((g 9).C 0)]] i, U := fun i g => match i with | 6 => [(2, ((g 6).R 0))] | 9 => [(2, ((g 9).R 0))] | 11 => [(1, [(b2, .cells #[.int .i64 a0.c, .int .i64 a0.n, .int .i64 a0.r, .slice ((g 9).A 0) ((x5).length) ((g 9).C 0)] 45 (0, 0))])] | _ => [], Φ := fun i x => match i with | 6 => OwnC (α := Ow) 148 (x.A 0) 0 ([] : List Ow) (x.R 0) | 9 => OwnC (α := Ow) 148 (x.A 0) (x.C 0) x5 (x.R 0) | _ => True } ?_ ?_))
  · refine ⟨⟨⟨⟨⟨⟨⟨⟨⟨⟨⟨⟨trivial, lc rfl rfl fun hs hh => stp_fieldAddr (j := 0) Tryz.underlying45 rfl ts3 rfl (sv hs 1 rfl) rfl⟩, lc rfl rfl fun hs hh => stp_load1 ts3 (sv hs 3 rfl) (Cells.box (id := 0) (hh.get 0 _ rfl) 1 rfl)⟩, lc rfl rfl fun hs hh => stp_fieldAddr (j := 1) Tryz.underlying45 rfl ts3 rfl (sv hs 1 rfl) rfl⟩, lc rfl rfl fun hs hh => stp_load1 ts3 (sv hs 5 rfl) (Cells.box (id := 0) (hh.get 0 _ rfl) 1 rfl)⟩, lc rfl rfl fun hs hh => stp_fieldAddr (j := 2) Tryz.underlying45 rfl ts3 rfl (sv hs 1 rfl) rfl⟩, lc rfl rfl fun hs hh => stp_load1 ts3 (sv hs 7 rfl) (Cells.box (id := 0) (hh.get 0 _ rfl) 1 rfl)⟩, ?_⟩, lc rfl rfl fun hs hh => stp_fieldAddr (j := 3) Tryz.underlying45 rfl ts43 rfl (sv hs 1 rfl) rfl⟩, lc rfl rfl fun hs hh => stp_load1 ts43 (sv hs 10 rfl) (Cells.box (id := 0) (hh.get 0 _ rfl) 1 rfl)⟩, ?_⟩, ld rfl rfl fun g hΦ s h hs hh => stp_build (cs := #[.int .i64 a0.c, .int .i64 a0.n, .int .i64 a0.r, .slice ((g 9).A 0) ((x5).length) ((g 9).C 0)]) (sevp_cons (sv hs 4 rfl) (sevp_cons (sv hs 6 rfl) (sevp_cons (sv hs 8 rfl) (sevp_cons (sv hs 12 rfl) sevp_nil)))) bt45_8⟩, ?_⟩
    · refine le rfl rfl (fun g hΦ s h hs hh => (stpU_lit0 sl43 2)) ?_
      rintro g _ _ ⟨p3, C4, rfl, rfl, o4⟩
      exact ⟨⟨[p3], [], [C4]⟩, o4, .inr rfl, rfl⟩
    · refine le rfl rfl (fun g hΦ s h hs hh => (stpU_append sl43 rfl (id := 2) (sv hs 9 rfl) (by simp) (sv hs 11 rfl) rfl (hh.get 2 _ rfl) (hΦ 6 rfl) (Rdb.ro hr0_0) e5)) ?_
      rintro g _ _ ⟨p6, c7, C8, rfl, rfl, o8⟩
      exact ⟨⟨[p6], [c7], [C8]⟩, o8, .inr rfl, rfl⟩
    · refine le rfl rfl (fun g hΦ s h hs hh => (stpU_store (id := 1) (cs' := [.int .i64 a0.c, .int .i64 a0.n, .int .i64 a0.r, .slice ((g 9).A 0) ((x5).length) ((g 9).C 0)]) ts45 (sv hs 2 rfl) (sv hs 13 rfl) (hh.get 1 _ rfl) rfl rfl rfl rfl)) ?_
      rintro g _ _ rfl
      exact ⟨⟨[], [], []⟩, trivial, .inl rfl, rfl⟩
  · intro g hΦ
    refine kw_gen (ι := Option Addr × Res × Option Addr × Nat × Res) (((g 6).A 0), ((g 6).R 0), ((g 9).A 0), ((g 9).C 0), ((g 9).R 0)) (fun | (p3, C4, p6, c7, C8) => OwnC (α := Ow) 148 p3 0 ([] : List Ow) C4 ∧ OwnC (α := Ow) 148 p6 c7 x5 C8) (fun | (p3, C4, p6, c7, C8) => [(2, .pointer (some ⟨b2, 0, none⟩))]) (fun | (p3, C4, p6, c7, C8) => [(1, [(b2, .cells #[.int .i64 a0.c, .int .i64 a0.n, .int .i64 a0.r, .slice p6 ((x5).length) c7] 45 (0, 0))]), (2, C8)]) ⟨(hΦ 6 (by decide)), (hΦ 9 (by decide))⟩ ⟨rfl, trivial⟩ ⟨rfl, rfl, trivial⟩ ?_
    rintro ⟨p3, C4, p6, c7, C8⟩ ⟨o4, o8⟩
    refine KW.sub (s' := [(2, .pointer (some ⟨b2, 0, none⟩))]) (h' := [(1, [(b2, .cells #[.int .i64 a0.c, .int .i64 a0.n, .int .i64 a0.r, .slice p6 ((x5).length) c7] 45 (0, 0))]), (2, C8)]) ?_ ⟨rfl, trivial⟩ ⟨rfl, rfl, trivial⟩
    refine kw_nx (cw_ret ?_)
    have q0 := Option.some.inj H0
    subst q0
    exact kw_ret Tryz.results133 (.cons (.cellN (us := [_, _, _, _]) ts45 rfl (Cells.box (id := 1) rfl 4 rfl)) .nil) [(0, C8)] [2] ⟨2, [], rfl, rfl, trivial⟩ (by decide) ⟨p6, ((x5).length), c7, C8, rfl, rfl, rfl, o8⟩

set_option maxHeartbeats 4000000 in
set_option maxRecDepth 20000 in
theorem c_s_l6Copy (fl : Nat) (w : World) (a0 : Mc) (p0_0 : Option Addr) (n0_0 c0_0 : Nat) (p0_1 : Option Addr) (n0_1 c0_1 : Nat) (p0_2 : Option Addr) (n0_2 c0_2 : Nat) (p0_3 : Option Addr) (n0_3 c0_3 : Nat) (hn0_0 : n0_0 = (a0.t.b).length) (hr0_0 : RO w (hkeys []) (RdL p0_0 c0_0 a0.t.b)) (hn0_1 : n0_1 = (a0.t.f).length) (hr0_1 : RO w (hkeys []) (RdL p0_1 c0_1 a0.t.f)) (hn0_2 : n0_2 = (a0.c.l).length) (hr0_2 : RO w (hkeys []) (RdL p0_2 c0_2 a0.c.l)) (hn0_3 : n0_3 = (a0.g.o).length) (hr0_3 : RO w (hkeys []) (RdL p0_3 c0_3 a0.g.o)) (r : Mc) (H0 : s_l6Copy fl a0 = some r) :
    Ct Tryz.prog 56 [.agg #[.slice p0_0 n0_0 c0_0, .slice p0_1 n0_1 c0_1, .slice p0_2 n0_2 c0_2, .int .i64 a0.c.h, .int .i64 a0.g.c, .int .i64 a0.g.n, .int .i64 a0.g.r, .slice p0_3 n0_3 c0_3, .int .i64 a0.s]] w [] (fun rv h' => ∃ (x0 : Option Addr) (y0 z0 : Nat) (C0 : Res) (x1 : Option Addr) (y1 z1 : Nat) (C1 : Res) (x2 : Option Addr) (y2 z2 : Nat) (C2 : Res) (x3 : Option Addr) (y3 z3 : Nat) (C3 : Res), rv = .agg #[.slice x0 y0 z0, .slice x1 y1 z1, .slice x2 y2 z2, .int .i64 r.c.h, .int .i64 r.g.c, .int .i64 r.g.n, .int .i64 r.g.r, .slice x3 y3 z3, .int .i64 r.s] ∧ h' = [(0, C0), (1, C1), (2, C2), (3, C3)] ∧ y0 = (r.t.b).length ∧ OwnC 3 x0 z0 r.t.b C0 ∧ y1 = (r.t.f).length ∧ OwnC 127 x1 z1 r.t.f C1 ∧ y2 = (r.c.l).length ∧ OwnC 112 x2 z2 r.c.l C2 ∧ y3 = (r.g.o).length ∧ OwnC 148 x3 z3 r.g.o C3) := by
  obtain rfl := hn0_0
  obtain rfl := hn0_1
  obtain rfl := hn0_2
  obtain rfl := hn0_3
  unfold s_l6Copy at H0
  refine ct_of_cw Tryz.func56 rfl Tryz.ntmps56 rfl (Sat.refl _ _) ?_
  refine sr (oE (stpU_box 0 rfl rfl) rfl ?_)
  rintro _ _ ⟨b1, rfl, rfl⟩
  refine oE (stpU_alloc 1 tz47 rfl) rfl ?_
  rintro _ _ ⟨b2, rfl, rfl⟩
  obtain ⟨x3, e3, H0⟩ := bind_some H0
  obtain ⟨x12, e12, H0⟩ := bind_some H0
  obtain ⟨x17, e17, H0⟩ := bind_some H0
  refine nn (cw_seq (rdr g_mixed [1, 2] [0, 1] { dst := dS [4, 5, 6, 7, 8, 9, 10, 11, 12, 13, 14, 15, 0], pre := gA [] [[], [0], [0, 1], [], [3], rn 0 5, [], [6], rn 0 8, [], [9], rn 0 11, rn 0 12], ids := gA [] [[], [], [2, 3], [], [], [4], [], [], [5], [], [], [], [1]], rs := rL [[(1, 0)], [(3, 1)], [(4, 2)], [(1, 0)], [(6, 4)], [(7, 5)], [(1, 0)], [(9, 7)], [(10, 8)], [(1, 0)], [(12, 10)], [(5, 3), (8, 6), (11, 9), (13, 11)], [(2, 0), (14, 12)]], rh := rL [[], [(0, 0)], [], [], [(0, 0)], [], [], [(0, 0)], [], [], [(0, 0)], [], [(1, 0)]], V := fun i g => gA undef [.pointer (some ⟨b1, 0, none⟩), .agg #[.slice p0_0 ((a0.t.b).length) c0_0, .slice p0_1 ((a0.t.f).length) c0_1], .agg #[.slice ((g 2).A 0) ((x3.b).length) ((g 2).C 0), .slice ((g 2).A 1) ((x3.f).length) ((g 2).C 1)], .pointer (some ⟨b1, 2, none⟩), .agg #[.slice p0_2 ((a0.c.l).length) c0_2, .int .i64 a0.c.h], .agg #[.slice ((g 5).A 0) ((x12.l).length) ((g 5).C 0), .int .i64 x12.h], .pointer (some ⟨b1, 4, none⟩), .agg #[.int .i64 a0.g.c, .int .i64 a0.g.n, .int .i64 a0.g.r, .slice p0_3 ((a0.g.o).length) c0_3], .agg #[.int .i64 x17.c, .int .i64 x17.n, .int .i64 x17.r, .slice ((g 8).A 0) ((x17.o).length) ((g 8).C 0)], .pointer (some ⟨b1, 8, none⟩), .int .i64 a0.s, .agg #[.slice ((g 2).A 0) ((x3.b).length) ((g 2).C 0), .slice ((g 2).A 1) ((x3.f).length) ((g 2).C 1), .slice ((g 5).A 0) ((x12.l).length) ((g 5).C 0), .int .i64 x12.h, .int .i64 x17.c, .int .i64 x17.n, .int .i64 x17.r, .slice ((g 8).A 0) ((x17.o).length) ((g 8).C 0), .int .i64 a0.s]] i, U := fun i g => gA [] [[], [], [(2, ((g 2).R 0)), (3, ((g 2).R 1))], [], [], [(4, ((g 5).R 0))], [], [], [(5, ((g 8).R 0))], [], [], [], [(1, [(b2, .cells #[.slice ((g 2).A 0) ((x3.b).length) ((g 2).C 0), .slice ((g 2).A 1) ((x3.f).length) ((g 2).C 1), .slice ((g 5).A 0) ((x12.l).length) ((g 5).C 0), .int .i64 x12.h, .int .i64 x17.c, .int .i64 x17.n, .int .i64 x17.r, .slice ((g 8).A 0) ((x17.o).length) ((g 8).C 0), .int .i64 a0.s] 47 (0, 0))])]] i, Φ := fun i x => match i with | 2 => OwnC (α := Int) 3 (x.A 0) (x.C 0) x3.b (x.R 0) ∧ OwnC (α := F) 127 (x.A 1) (x.C 1) x3.f (x.R 1) | 5 => OwnC (α := Ln) 112 (x.A 0) (x.C 0) x12.l (x.R 0) | 8 => OwnC (α := Ow) 148 (x.A 0) (x.C 0) x17.o (x.R 0) | _ => True } ?_ ?_))
  · refine ⟨⟨⟨⟨⟨⟨⟨⟨⟨⟨⟨⟨⟨trivial, lc rfl rfl fun hs hh => stp_fieldAddr (j := 0) Tryz.underlying47 rfl ts39 rfl (sv hs 1 rfl) rfl⟩, lc rfl rfl fun hs hh => stp_loadN (us := [_, _]) ts39 (sv hs 3 rfl) (Cells.box (id := 0) (hh.get 0 _ rfl) 2 rfl)⟩, ?_⟩, lc rfl rfl fun hs hh => stp_fieldAddr (j := 2) Tryz.underlying47 rfl ts42 rfl (sv hs 1 rfl) rfl⟩, lc rfl rfl fun hs hh => stp_loadN (us := [_, _]) ts42 (sv hs 6 rfl) (Cells.box (id := 0) (hh.get 0 _ rfl) 2 rfl)⟩, ?_⟩, lc rfl rfl fun hs hh => stp_fieldAddr (j := 4) Tryz.underlying47 rfl ts45 rfl (sv hs 1 rfl) rfl⟩, lc rfl rfl fun hs hh => stp_loadN (us := [_, _, _, _]) ts45 (sv hs 9 rfl) (Cells.box (id := 0) (hh.get 0 _ rfl) 4 rfl)⟩, ?_⟩, lc rfl rfl fun hs hh => stp_fieldAddr (j := 8) Tryz.underlying47 rfl ts3 rfl (sv hs 1 rfl) rfl⟩, lc rfl rfl fun hs hh => stp_load1 ts3 (sv hs 12 rfl) (Cells.box (id := 0) (hh.get 0 _ rfl) 1 rfl)⟩, ld rfl rfl fun g hΦ s h hs hh => stp_build (cs := #[.slice ((g 2).A 0) ((x3.b).length) ((g 2).C 0), .slice ((g 2).A 1) ((x3.f).length) ((g 2).C 1), .slice ((g 5).A 0) ((x12.l).length) ((g 5).C 0), .int .i64 x12.h, .int .i64 x17.c, .int .i64 x17.n, .int .i64 x17.r, .slice ((g 8).A 0) ((x17.o).length) ((g 8).C 0), .int .i64 a0.s]) (sevp_cons (sv hs 5 rfl) (sevp_cons (sv hs 8 rfl) (sevp_cons (sv hs 11 rfl) (sevp_cons (sv hs 13 rfl) sevp_nil)))) bt47_9⟩, ?_⟩
    · refine le rfl rfl (fun g hΦ s h hs hh => (stpU_call (fun i => 2 + i) cf131 (fun w hw => c_s_l3Copy fl w a0.t p0_0 ((a0.t.b).length) c0_0 p0_1 ((a0.t.f).length) c0_1 rfl (RO.pass hr0_0 hw) rfl (RO.pass hr0_1 hw) x3 e3) (sevs_cons (sv hs 4 rfl) sevs_nil))) ?_
      rintro g _ _ ⟨_, ⟨p4, n5, c6, C7, p8, n9, c10, C11, rfl, rfl, hnn5, o7, hnn9, o11⟩, rfl⟩
      obtain rfl := hnn5
      obtain rfl := hnn9
      exact ⟨⟨[p4, p8], [c6, c10], [C7, C11]⟩, ⟨o7, o11⟩, .inr rfl, rfl⟩
    · refine le rfl rfl (fun g hΦ s h hs hh => (stpU_call (fun i => 4 + i) cf132 (fun w hw => c_s_l4Copy fl w a0.c p0_2 ((a0.c.l).length) c0_2 rfl (RO.pass hr0_2 hw) x12 e12) (sevs_cons (sv hs 7 rfl) sevs_nil))) ?_
      rintro g _ _ ⟨_, ⟨p13, n14, c15, C16, rfl, rfl, hnn14, o16⟩, rfl⟩
      obtain rfl := hnn14
      exact ⟨⟨[p13], [c15], [C16]⟩, o16, .inr rfl, rfl⟩
    · refine le rfl rfl (fun g hΦ s h hs hh => (stpU_call (fun i => 5 + i) cf133 (fun w hw => c_s_l5Copy fl w a0.g p0_3 ((a0.g.o).length) c0_3 rfl (RO.pass hr0_3 hw) x17 e17) (sevs_cons (sv hs 10 rfl) sevs_nil))) ?_
      rintro g _ _ ⟨_, ⟨p18, n19, c20, C21, rfl, rfl, hnn19, o21⟩, rfl⟩
      obtain rfl := hnn19
      exact ⟨⟨[p18], [c20], [C21]⟩, o21, .inr rfl, rfl⟩
    · refine le rfl rfl (fun g hΦ s h hs hh => (stpU_store (id := 1) (cs' := [.slice ((g 2).A 0) ((x3.b).length) ((g 2).C 0), .slice ((g 2).A 1) ((x3.f).length) ((g 2).C 1), .slice ((g 5).A 0) ((x12.l).length) ((g 5).C 0), .int .i64 x12.h, .int .i64 x17.c, .int .i64 x17.n, .int .i64 x17.r, .slice ((g 8).A 0) ((x17.o).length) ((g 8).C 0), .int .i64 a0.s]) ts47 (sv hs 2 rfl) (sv hs 14 rfl) (hh.get 1 _ rfl) rfl rfl rfl rfl)) ?_
      rintro g _ _ rfl
      exact ⟨⟨[], [], []⟩, trivial, .inl rfl, rfl⟩
  · intro g hΦ
    refine kw_gen (ι := Option Addr × Option Addr × Nat × Nat × Res × Res × Option Addr × Nat × Res × Option Addr × Nat × Res) (((g 2).A 0), ((g 2).A 1), ((g 2).C 0), ((g 2).C 1), ((g 2).R 0), ((g 2).R 1), ((g 5).A 0), ((g 5).C 0), ((g 5).R 0), ((g 8).A 0), ((g 8).C 0), ((g 8).R 0)) (fun | (p4, p8, c6, c10, C7, C11, p13, c15, C16, p18, c20, C21) => OwnC (α := Int) 3 p4 c6 x3.b C7 ∧ OwnC (α := F) 127 p8 c10 x3.f C11 ∧ OwnC (α := Ln) 112 p13 c15 x12.l C16 ∧ OwnC (α := Ow) 148 p18 c20 x17.o C21) (fun | (p4, p8, c6, c10, C7, C11, p13, c15, C16, p18, c20, C21) => [(2, .pointer (some ⟨b2, 0, none⟩))]) (fun | (p4, p8, c6, c10, C7, C11, p13, c15, C16, p18, c20, C21) => [(1, [(b2, .cells #[.slice p4 ((x3.b).length) c6, .slice p8 ((x3.f).length) c10, .slice p13 ((x12.l).length) c15, .int .i64 x12.h, .int .i64 x17.c, .int .i64 x17.n, .int .i64 x17.r, .slice p18 ((x17.o).length) c20, .int .i64 a0.s] 47 (0, 0))]), (2, C7), (3, C11), (4, C16), (5, C21)]) ⟨(hΦ 2 (by decide)).1, (hΦ 2 (by decide)).2, (hΦ 5 (by decide)), (hΦ 8 (by decide))⟩ ⟨rfl, trivial⟩ ⟨rfl, rfl, rfl, rfl, rfl, trivial⟩ ?_
    rintro ⟨p4, p8, c6, c10, C7, C11, p13, c15, C16, p18, c20, C21⟩ ⟨o7, o11, o16, o21⟩
    refine KW.sub (s' := [(2, .pointer (some ⟨b2, 0, none⟩))]) (h' := [(1, [(b2, .cells #[.slice p4 ((x3.b).length) c6, .slice p8 ((x3.f).length) c10, .slice p13 ((x12.l).length) c15, .int .i64 x12.h, .int .i64 x17.c, .int .i64 x17.n, .int .i64 x17.r, .slice p18 ((x17.o).length) c20, .int .i64 a0.s] 47 (0, 0))]), (2, C7), (3, C11), (4, C16), (5, C21)]) ?_ ⟨rfl, trivial⟩ ⟨rfl, rfl, rfl, rfl, rfl, trivial⟩
    refine kw_nx (cw_ret ?_)
    have q0 := Option.some.inj H0
    subst q0
    exact kw_ret Tryz.results56 (.cons (.cellN (us := [_, _, _, _, _, _, _, _, _]) ts47 rfl (Cells.box (id := 1) rfl 9 rfl)) .nil) [(0, C7), (1, C11), (2, C16), (3, C21)] [2, 3, 4, 5] ⟨2, [3, 4, 5], rfl, rfl, 3, [4, 5], rfl, rfl, 4, [5], rfl, rfl, 5, [], rfl, rfl, trivial⟩ (by decide) ⟨p4, ((x3.b).length), c6, C7, p8, ((x3.f).length), c10, C11, p13, ((x12.l).length), c15, C16, p18, ((x17.o).length), c20, C21, rfl, rfl, rfl, o7, rfl, o11, rfl, o16, rfl, o21⟩

theorem c_i_TableValid (fl : Nat) (w : World) (a0 : T) (p0_0 : Option Addr) (n0_0 c0_0 : Nat) (p0_1 : Option Addr) (n0_1 c0_1 : Nat) (hn0_0 : n0_0 = (a0.b).length) (hr0_0 : RO w (hkeys []) (RdL p0_0 c0_0 a0.b)) (hn0_1 : n0_1 = (a0.f).length) (hr0_1 : RO w (hkeys []) (RdL p0_1 c0_1 a0.f)) (hg : RO w (hkeys []) (fun w' => w'.rangeAt 0 0 [.bool false, .int .i64 0, .int .i64 0, .int .i64 0, .int .i64 (-1)])) (r : Bool) (H0 : i_TableValid fl a0 = some r) :
    Ct Tryz.prog 138 [.agg #[.slice p0_0 n0_0 c0_0, .slice p0_1 n0_1 c0_1]] w [] (fun rv h' => rv = .bool r ∧ h' = []) := by
  obtain rfl := hn0_0
  obtain rfl := hn0_1
  unfold i_TableValid at H0
  obtain rfl := Option.some.inj H0
  exact ct_of_calls (tableValid_c _ a0 w ⟨_, _, rfl, (hr0_0 w (Fr.refl _ _)).rd, (hr0_1 w (Fr.refl _ _)).rd⟩ (freeG_of (hg w (Fr.refl _ _))))

set_option maxHeartbeats 4000000 in
set_option maxRecDepth 20000 in
theorem c_i_within (fl : Nat) (w : World) (a0 : Int) (a1 : Int) (r : Bool) (H0 : i_within fl a0 a1 = some r) :
    Ct Tryz.prog 90 [.int .i64 a0, .int .i64 a1] w [] (fun rv h' => rv = .bool r ∧ h' = []) := by
  unfold i_within at H0
  refine ct_of_cw Tryz.func90 rfl Tryz.ntmps90 rfl (Sat.refl _ _) ?_
  obtain ⟨y1, ey1, H0⟩ := bind_some H0
  refine sr (oD (sg rfl) rfl (nn (sr (oD (mv rfl) rfl (oD (stp_geq rfl rfl) rfl (oD (mv rfl) rfl (ow_cutY 4 11 y1 ?_ ?_)))))))
  · rcases Bool.eq_false_or_eq_true (decide (0 ≤ a0)) with hy1 | hy1
    · have ey1 := cond_t ey1 hy1
      refine oG rfl hy1 (mv rfl) rfl (oG rfl hy1 (mv rfl) rfl (oG rfl hy1 (stp_lss rfl rfl) rfl (oD (stp_pick_t rfl hy1 rfl) rfl ?_)))
      obtain rfl := Option.some.inj ey1
      exact ow_nil (jy 4 0)
    · have ey1 := cond_f ey1 hy1
      refine oO rfl hy1 rfl (oO rfl hy1 rfl (oO rfl hy1 rfl (oD (stp_pick_f rfl hy1 rfl) rfl ?_)))
      obtain rfl := Option.some.inj ey1
      exact ow_nil (jy 4 0)
  · refine oD (sg rfl) rfl (nn (cw_ret ?_))
    have q0 := Option.some.inj H0
    subst q0
    exact kw_ret Tryz.results90 (.cons (.tmp rfl) .nil) [] [] trivial (by decide) ⟨rfl, rfl⟩

set_option maxHeartbeats 4000000 in
set_option maxRecDepth 20000 in
theorem c_i_tagValid (fl : Nat) (w : World) (a0 : Int) (r : Bool) (H0 : i_tagValid fl a0 = some r) :
    Ct Tryz.prog 208 [.int .i64 a0] w [] (fun rv h' => rv = .bool r ∧ h' = []) := by
  unfold i_tagValid at H0
  refine ct_of_cw Tryz.func208 rfl Tryz.ntmps208 rfl (Sat.refl _ _) ?_
  obtain ⟨y1, ey1, H0⟩ := bind_some H0
  refine sr (oD (sg rfl) rfl (nn (sr (oD (mv rfl) rfl (oD (stp_geq rfl rfl) rfl (oD (mv rfl) rfl (ow_cutY 3 8 y1 ?_ ?_)))))))
  · rcases Bool.eq_false_or_eq_true (decide ((-1) ≤ a0)) with hy1 | hy1
    · have ey1 := cond_t ey1 hy1
      refine oG rfl hy1 (mv rfl) rfl (oG rfl hy1 (stp_lss rfl rfl) rfl (oD (stp_pick_t rfl hy1 rfl) rfl ?_))
      obtain rfl := Option.some.inj ey1
      exact ow_nil (jy 3 0)
    · have ey1 := cond_f ey1 hy1
      refine oO rfl hy1 rfl (oO rfl hy1 rfl (oD (stp_pick_f rfl hy1 rfl) rfl ?_))
      obtain rfl := Option.some.inj ey1
      exact ow_nil (jy 3 0)
  · refine oD (sg rfl) rfl (nn (cw_ret ?_))
    have q0 := Option.some.inj H0
    subst q0
    exact kw_ret Tryz.results208 (.cons (.tmp rfl) .nil) [] [] trivial (by decide) ⟨rfl, rfl⟩

set_option maxHeartbeats 4000000 in
set_option maxRecDepth 20000 in
theorem c_i_RightsValid (fl : Nat) (w : World) (a0 : Int) (r : Bool) (H0 : i_RightsValid fl a0 = some r) :
    Ct Tryz.prog 91 [.int .i64 a0] w [] (fun rv h' => rv = .bool r ∧ h' = []) := by
  unfold i_RightsValid at H0
  refine ct_of_cw Tryz.func91 rfl Tryz.ntmps91 rfl (Sat.refl _ _) ?_
  obtain ⟨x1, e1, H0⟩ := bind_some H0
  refine sr (oD (sg rfl) rfl (nn (sr (oD (mv rfl) rfl (oE (stpU_call (fun i => 0 + i) cf90 (fun w hw => c_i_within fl w a0 8 x1 e1) (sevs_cons rfl (sevs_cons rfl sevs_nil))) rfl ?_)))))
  rintro _ _ ⟨_, ⟨rfl, rfl⟩, rfl⟩
  refine oD (sg rfl) rfl (nn (cw_ret ?_))
  have q0 := Option.some.inj H0
  subst q0
  exact kw_ret Tryz.results91 (.cons (.tmp rfl) .nil) [] [] trivial (by decide) ⟨rfl, rfl⟩

set_option maxHeartbeats 4000000 in
set_option maxRecDepth 20000 in
theorem c_i_lineValid (fl : Nat) (w : World) (a0 : Ln) (r : Bool) (H0 : i_lineValid fl a0 = some r) :
    Ct Tryz.prog 177 [.agg #[.bool a0.va, .int .i64 a0.tg, .int .i64 a0.pg, .int .i64 a0.fr, .int .i64 a0.ri, .bool a0.wi]] w [] (fun rv h' => rv = .bool r ∧ h' = []) := by
  unfold i_lineValid at H0
  refine ct_of_cw Tryz.func177 rfl Tryz.ntmps177 rfl (Sat.refl _ _) ?_
  refine sr (oE (stpU_box 0 rfl rfl) rfl ?_)
  rintro _ _ ⟨b1, rfl, rfl⟩
  refine oD (sg rfl) rfl (nn (cw_seq (sr (oD (fA 0 Tryz.underlying112 rfl ts4 rfl rfl rfl) rfl (oD (lB 0 ts4 rfl rfl rfl) rfl (oD (stp_not rfl) rfl (nn (cw_cond rfl (fun h2 => ?_) (fun h2 => ?_)))))))))
  · have H0 := cond_t H0 h2
    refine sr (oD (stp_loadN (us := [_, _, _, _, _, _]) ts112 rfl (Cells.box (id := 0) rfl 6 rfl)) rfl (oD (stp_build (cs := #[.bool false, .int .i64 0, .int .i64 0, .int .i64 0, .int .i64 0, .bool false]) sevp_nil bt112_0) rfl (oD (stp_eqlS te112 a0 (⟨false, 0, 0, 0, 0, false⟩ : Ln) rfl rfl) rfl (oD (sg rfl) rfl (nn (cw_ret (kw_nx_ret ?_)))))))
    have q0 := Option.some.inj H0
    subst q0
    exact kw_ret Tryz.results177 (.cons (.tmp rfl) .nil) [] [] trivial (by decide) ⟨rfl, rfl⟩
  · have H0 := cond_f H0 h2
    obtain ⟨x3, e3, H0⟩ := bind_some H0
    refine cw_skip (kw_nx (sr (oD (fA 1 Tryz.underlying112 rfl ts3 rfl rfl rfl) rfl (oD (lB 0 ts3 rfl rfl rfl) rfl (oE (stpU_call (fun i => 1 + i) cf208 (fun w hw => c_i_tagValid fl w a0.tg x3 e3) (sevs_cons rfl sevs_nil)) rfl ?_)))))
    rintro _ _ ⟨_, ⟨rfl, rfl⟩, rfl⟩
    obtain ⟨y4, ey4, H0⟩ := bind_some H0
    refine oD (mv rfl) rfl (ow_cutY 4 16 y4 ?_ ?_)
    · rcases Bool.eq_false_or_eq_true x3 with hy4 | hy4
      · have ey4 := cond_t ey4 hy4
        obtain ⟨x5, e5, ey4⟩ := bind_some ey4
        refine oG rfl hy4 (fA 2 Tryz.underlying112 rfl ts3 rfl rfl rfl) rfl (oG rfl hy4 (lB 0 ts3 rfl rfl rfl) rfl (ow_eff (.some rfl hy4) (stpU_call (fun i => 1 + i) cf90 (fun w hw => c_i_within fl w a0.pg 256 x5 e5) (sevs_cons rfl (sevs_cons rfl sevs_nil))) rfl ?_))
        rintro _ _ ⟨_, ⟨rfl, rfl⟩, rfl⟩
        refine oD (stp_pick_t rfl hy4 rfl) rfl ?_
        obtain rfl := Option.some.inj ey4
        exact ow_nil (jy 4 0)
      · have ey4 := cond_f ey4 hy4
        refine oO rfl hy4 rfl (oO rfl hy4 rfl (oO rfl hy4 rfl (oD (stp_pick_f rfl hy4 rfl) rfl ?_)))
        obtain rfl := Option.some.inj ey4
        exact ow_nil (jy 4 0)
    · obtain ⟨y6, ey6, H0⟩ := bind_some H0
      refine oD (mv rfl) rfl (ow_cutY 4 21 y6 ?_ ?_)
      · rcases Bool.eq_false_or_eq_true y4 with hy6 | hy6
        · have ey6 := cond_t ey6 hy6
          obtain ⟨x7, e7, ey6⟩ := bind_some ey6
          refine oG rfl hy6 (fA 3 Tryz.underlying112 rfl ts3 rfl rfl rfl) rfl (oG rfl hy6 (lB 0 ts3 rfl rfl rfl) rfl (ow_eff (.some rfl hy6) (stpU_call (fun i => 1 + i) cf90 (fun w hw => c_i_within fl w a0.fr 16 x7 e7) (sevs_cons rfl (sevs_cons rfl sevs_nil))) rfl ?_))
          rintro _ _ ⟨_, ⟨rfl, rfl⟩, rfl⟩
          refine oD (stp_pick_t rfl hy6 rfl) rfl ?_
          obtain rfl := Option.some.inj ey6
          exact ow_nil (jy 4 0)
        · have ey6 := cond_f ey6 hy6
          refine oO rfl hy6 rfl (oO rfl hy6 rfl (oO rfl hy6 rfl (oD (stp_pick_f rfl hy6 rfl) rfl ?_)))
          obtain rfl := Option.some.inj ey6
          exact ow_nil (jy 4 0)
      · obtain ⟨y8, ey8, H0⟩ := bind_some H0
        refine oD (mv rfl) rfl (ow_cutY 4 26 y8 ?_ ?_)
        · rcases Bool.eq_false_or_eq_true y6 with hy8 | hy8
          · have ey8 := cond_t ey8 hy8
            obtain ⟨x9, e9, ey8⟩ := bind_some ey8
            refine oG rfl hy8 (fA 4 Tryz.underlying112 rfl ts3 rfl rfl rfl) rfl (oG rfl hy8 (lB 0 ts3 rfl rfl rfl) rfl (ow_eff (.some rfl hy8) (stpU_call (fun i => 1 + i) cf91 (fun w hw => c_i_RightsValid fl w a0.ri x9 e9) (sevs_cons rfl sevs_nil)) rfl ?_))
            rintro _ _ ⟨_, ⟨rfl, rfl⟩, rfl⟩
            refine oD (stp_pick_t rfl hy8 rfl) rfl ?_
            obtain rfl := Option.some.inj ey8
            exact ow_nil (jy 4 0)
          · have ey8 := cond_f ey8 hy8
            refine oO rfl hy8 rfl (oO rfl hy8 rfl (oO rfl hy8 rfl (oD (stp_pick_f rfl hy8 rfl) rfl ?_)))
            obtain rfl := Option.some.inj ey8
            exact ow_nil (jy 4 0)
        · refine oD (sg rfl) rfl (nn (cw_ret ?_))
          have q0 := Option.some.inj H0
          subst q0
          exact kw_ret Tryz.results177 (.cons (.tmp rfl) .nil) [] [] trivial (by decide) ⟨rfl, rfl⟩

set_option maxHeartbeats 4000000 in
set_option maxRecDepth 20000 in
theorem c_i_clash (fl : Nat) (w : World) (a0 : Ln) (a1 : Ln) (r : Bool) (H0 : i_clash fl a0 a1 = some r) :
    Ct Tryz.prog 196 [.agg #[.bool a0.va, .int .i64 a0.tg, .int .i64 a0.pg, .int .i64 a0.fr, .int .i64 a0.ri, .bool a0.wi], .agg #[.bool a1.va, .int .i64 a1.tg, .int .i64 a1.pg, .int .i64 a1.fr, .int .i64 a1.ri, .bool a1.wi]] w [] (fun rv h' => rv = .bool r ∧ h' = []) := by
  unfold i_clash at H0
  refine ct_of_cw Tryz.func196 rfl Tryz.ntmps196 rfl (Sat.refl _ _) ?_
  refine sr (oE (stpU_box 0 rfl rfl) rfl ?_)
  rintro _ _ ⟨b1, rfl, rfl⟩
  refine oE (stpU_box 1 rfl rfl) rfl ?_
  rintro _ _ ⟨b2, rfl, rfl⟩
  obtain ⟨y3, ey3, H0⟩ := bind_some H0
  refine oD (sg rfl) rfl (nn (sr (oD (fA 0 Tryz.underlying112 rfl ts4 rfl rfl rfl) rfl (oD (lB 0 ts4 rfl rfl rfl) rfl (oD (mv rfl) rfl (ow_cutY 3 10 y3 ?_ ?_))))))
  · rcases Bool.eq_false_or_eq_true a0.va with hy3 | hy3
    · have ey3 := cond_t ey3 hy3
      refine oG rfl hy3 (fA 0 Tryz.underlying112 rfl ts4 rfl rfl rfl) rfl (oG rfl hy3 (lB 1 ts4 rfl rfl rfl) rfl (oD (stp_pick_t rfl hy3 rfl) rfl ?_))
      obtain rfl := Option.some.inj ey3
      exact ow_nil (jy 3 0)
    · have ey3 := cond_f ey3 hy3
      refine oO rfl hy3 rfl (oO rfl hy3 rfl (oD (stp_pick_f rfl hy3 rfl) rfl ?_))
      obtain rfl := Option.some.inj ey3
      exact ow_nil (jy 3 0)
  · obtain ⟨y4, ey4, H0⟩ := bind_some H0
    refine oD (mv rfl) rfl (ow_cutY 6 17 y4 ?_ ?_)
    · rcases Bool.eq_false_or_eq_true y3 with hy4 | hy4
      · have ey4 := cond_t ey4 hy4
        refine oG rfl hy4 (fA 2 Tryz.underlying112 rfl ts3 rfl rfl rfl) rfl (oG rfl hy4 (lB 0 ts3 rfl rfl rfl) rfl (oG rfl hy4 (fA 2 Tryz.underlying112 rfl ts3 rfl rfl rfl) rfl (oG rfl hy4 (lB 1 ts3 rfl rfl rfl) rfl (oG rfl hy4 (stp_eql rfl rfl) rfl (oD (stp_pick_t rfl hy4 rfl) rfl ?_)))))
        obtain rfl := Option.some.inj ey4
        exact ow_nil (jy 6 0)
      · have ey4 := cond_f ey4 hy4
        refine oO rfl hy4 rfl (oO rfl hy4 rfl (oO rfl hy4 rfl (oO rfl hy4 rfl (oO rfl hy4 rfl (oD (stp_pick_f rfl hy4 rfl) rfl ?_)))))
        obtain rfl := Option.some.inj ey4
        exact ow_nil (jy 6 0)
    · obtain ⟨y5, ey5, H0⟩ := bind_some H0
      refine oD (mv rfl) rfl (ow_cutY 16 34 y5 ?_ ?_)
      · rcases Bool.eq_false_or_eq_true y4 with hy5 | hy5
        · have ey5 := cond_t ey5 hy5
          obtain ⟨y6, ey6, ey5⟩ := bind_some ey5
          refine oG rfl hy5 (fA 1 Tryz.underlying112 rfl ts3 rfl rfl rfl) rfl (oG rfl hy5 (lB 0 ts3 rfl rfl rfl) rfl (oG rfl hy5 (fA 1 Tryz.underlying112 rfl ts3 rfl rfl rfl) rfl (oG rfl hy5 (lB 1 ts3 rfl rfl rfl) rfl (oG rfl hy5 (stp_eql rfl rfl) rfl (oG rfl hy5 (mv rfl) rfl (ow_cutY 4 28 y6 ?_ ?_))))))
          · rcases Bool.eq_false_or_eq_true (a0.tg == a1.tg) with hy6 | hy6
            · have ey6 := cond_t ey6 hy6
              refine oO rfl hy6 rfl (oO rfl hy6 rfl (oO rfl hy6 rfl (oG rfl hy5 (stp_pick_t rfl hy6 rfl) rfl ?_)))
              obtain rfl := Option.some.inj ey6
              exact ow_nil (jy 4 0)
            · have ey6 := cond_f ey6 hy6
              refine oG rfl hy6 (fA 1 Tryz.underlying112 rfl ts3 rfl rfl rfl) rfl (oG rfl hy6 (lB 0 ts3 rfl rfl rfl) rfl (oG rfl hy6 (stp_eql rfl rfl) rfl (oG rfl hy5 (stp_pick_f rfl hy6 rfl) rfl ?_)))
              obtain rfl := Option.some.inj ey6
              exact ow_nil (jy 4 0)
          · obtain ⟨y7, ey7, ey5⟩ := bind_some ey5
            refine oG rfl hy5 (mv rfl) rfl (ow_cutY 4 33 y7 ?_ ?_)
            · rcases Bool.eq_false_or_eq_true y6 with hy7 | hy7
              · have ey7 := cond_t ey7 hy7
                refine oO rfl hy7 rfl (oO rfl hy7 rfl (oO rfl hy7 rfl (oG rfl hy5 (stp_pick_t rfl hy7 rfl) rfl ?_)))
                obtain rfl := Option.some.inj ey7
                exact ow_nil (jy 4 0)
              · have ey7 := cond_f ey7 hy7
                refine oG rfl hy7 (fA 1 Tryz.underlying112 rfl ts3 rfl rfl rfl) rfl (oG rfl hy7 (lB 1 ts3 rfl rfl rfl) rfl (oG rfl hy7 (stp_eql rfl rfl) rfl (oG rfl hy5 (stp_pick_f rfl hy7 rfl) rfl ?_)))
                obtain rfl := Option.some.inj ey7
                exact ow_nil (jy 4 0)
            · refine oD (stp_pick_t rfl hy5 rfl) rfl ?_
              obtain rfl := Option.some.inj ey5
              exact ow_nil (jy 10 0)
        · have ey5 := cond_f ey5 hy5
          refine oO rfl hy5 rfl (oO rfl hy5 rfl (oO rfl hy5 rfl (oO rfl hy5 rfl (oO rfl hy5 rfl (oO rfl hy5 rfl (oX rfl rfl rfl (oX rfl rfl rfl (oX rfl rfl rfl (oO rfl hy5 rfl (oO rfl hy5 rfl (oX rfl rfl rfl (oX rfl rfl rfl (oX rfl rfl rfl ?_)))))))))))))
          refine oO rfl hy5 rfl (oD (stp_pick_f rfl hy5 rfl) rfl ?_)
          obtain rfl := Option.some.inj ey5
          exact ow_nil (jy 16 0)
      · refine oD (sg rfl) rfl (nn (cw_ret ?_))
        have q0 := Option.some.inj H0
        subst q0
        exact kw_ret Tryz.results196 (.cons (.tmp rfl) .nil) [] [] trivial (by decide) ⟨rfl, rfl⟩

set_option maxHeartbeats 4000000 in
set_option maxRecDepth 20000 in
theorem c_i_CacheValid (fl : Nat) (w : World) (a0 : Ca) (p0_0 : Option Addr) (n0_0 c0_0 : Nat) (hn0_0 : n0_0 = (a0.l).length) (hr0_0 : RO w (hkeys []) (RdL p0_0 c0_0 a0.l)) (r : Bool) (H0 : i_CacheValid fl a0 = some r) :
    Ct Tryz.prog 139 [.agg #[.slice p0_0 n0_0 c0_0, .int .i64 a0.h]] w [] (fun rv h' => rv = .bool r ∧ h' = []) := by
  obtain rfl := hn0_0
  unfold i_CacheValid at H0
  refine ct_of_cw Tryz.func139 rfl Tryz.ntmps139 rfl (Sat.refl _ _) ?_
  refine sr (oE (stpU_box 0 rfl rfl) rfl ?_)
  rintro _ _ ⟨b1, rfl, rfl⟩
  obtain ⟨y2, ey2, H0⟩ := bind_some H0
  refine oD (sg rfl) rfl (nn (sr (oD (fA 0 Tryz.underlying42 rfl ts40 rfl rfl rfl) rfl (oD (lB 0 ts40 rfl rfl rfl) rfl (oD (stp_len Tryz.underlying40 rfl) rfl (oD (sg rfl) rfl (nn (cw_seq (sr (oD (mv rfl) rfl (oD (stp_lss rfl rfl) rfl (oD (mv rfl) rfl (ow_cutY 3 17 y2 ?_ ?_)))))))))))))
  · rcases Bool.eq_false_or_eq_true (decide (((a0.l).length : Int) < 1)) with hy2 | hy2
    · have ey2 := cond_t ey2 hy2
      refine oO rfl hy2 rfl (oO rfl hy2 rfl (oD (stp_pick_t rfl hy2 rfl) rfl ?_))
      obtain rfl := Option.some.inj ey2
      exact ow_nil (jy 3 0)
    · have ey2 := cond_f ey2 hy2
      refine oG rfl hy2 (mv rfl) rfl (oG rfl hy2 (stp_gtr rfl rfl) rfl (oD (stp_pick_f rfl hy2 rfl) rfl ?_))
      obtain rfl := Option.some.inj ey2
      exact ow_nil (jy 3 0)
  · obtain ⟨y3, ey3, H0⟩ := bind_some H0
    refine oD (mv rfl) rfl (ow_cutY 6 24 y3 ?_ ?_)
    · rcases Bool.eq_false_or_eq_true y2 with hy3 | hy3
      · have ey3 := cond_t ey3 hy3
        refine oO rfl hy3 rfl (oO rfl hy3 rfl (oO rfl hy3 rfl (oO rfl hy3 rfl (oO rfl hy3 rfl (oD (stp_pick_t rfl hy3 rfl) rfl ?_)))))
        obtain rfl := Option.some.inj ey3
        exact ow_nil (jy 6 0)
      · have ey3 := cond_f ey3 hy3
        obtain ⟨x4, e4, ey3⟩ := bind_some ey3
        refine oG rfl hy3 (fA 1 Tryz.underlying42 rfl ts3 rfl rfl rfl) rfl (oG rfl hy3 (lB 0 ts3 rfl rfl rfl) rfl (oG rfl hy3 (mv rfl) rfl (ow_eff (.some rfl hy3) (stpU_call (fun i => 1 + i) cf90 (fun w hw => c_i_within fl w a0.h ((a0.l).length : Int) x4 e4) (sevs_cons rfl (sevs_cons rfl sevs_nil))) rfl ?_)))
        rintro _ _ ⟨_, ⟨rfl, rfl⟩, rfl⟩
        refine oG rfl hy3 (stp_not rfl) rfl (oD (stp_pick_f rfl hy3 rfl) rfl ?_)
        obtain rfl := Option.some.inj ey3
        exact ow_nil (jy 6 0)
    · refine ow_nil (kw_nx (cw_cond rfl (fun h5 => ?_) (fun h5 => ?_)))
      · have H0 := cond_t H0 h5
        refine sr (oD (sg rfl) rfl (nn (cw_ret (kw_nx_ret ?_))))
        have q0 := Option.some.inj H0
        subst q0
        exact kw_ret Tryz.results139 (.cons (.tmp rfl) .nil) [] [] trivial (by decide) ⟨rfl, rfl⟩
      · have H0 := cond_f H0 h5
        obtain ⟨o0_0, eo0_0, H0⟩ := bind_some H0
        refine cw_skip (kw_nx (sr (oD (sg rfl) rfl (nn (cw_seq (sr (oD (fA 0 Tryz.underlying42 rfl ts40 rfl rfl rfl) rfl (oD (lB 0 ts40 rfl rfl rfl) rfl (oD (stp_len Tryz.underlying40 rfl) rfl (oD (mv rfl) rfl (nn (cw_join (ι := Int × Bool) (fun | (v6, v7) => o0_0 = .out (v6, v7)) (fun | (v6, v7) => [(1, .pointer (some ⟨b1, 0, none⟩)), (4, .bool v7), (26, .slice p0_0 ((a0.l).length) c0_0), (27, .int .i64 ((a0.l).length : Int)), (28, .int .i64 v6)]) (fun | (v6, v7) => [(0, [(b1, .cells #[.slice p0_0 ((a0.l).length) c0_0, .int .i64 a0.h] 42 (0, 0))])]) ?_ ?_))))))))))))
        · refine cw_block (cw_loopS (ι := Nat × Int × Bool) (js := [0]) (fun x => x.1) (fun | (fuel, v6, v7) => i_CacheValid_L0 fl a0 fuel v6 v7 = some o0_0) (fun | (_, v6, v7) => [(1, .pointer (some ⟨b1, 0, none⟩)), (4, .bool v7), (26, .slice p0_0 ((a0.l).length) c0_0), (27, .int .i64 ((a0.l).length : Int)), (28, .int .i64 v6)]) (fun | (_, v6, v7) => [(0, [(b1, .cells #[.slice p0_0 ((a0.l).length) c0_0, .int .i64 a0.h] 42 (0, 0))])]) (fl, 0, false) eo0_0 ⟨rfl, rfl, rfl, rfl, rfl, trivial⟩ ⟨0, [], rfl, rfl, trivial⟩ (by decide) ?_)
          rintro ⟨fuel, v6, v7⟩ H1
          have H1 : i_CacheValid_L0 fl a0 fuel v6 v7 = some o0_0 := H1
          rcases fuel with _ | fuel
          · rw [i_CacheValid_L0.eq_1] at H1; cases H1
          rw [i_CacheValid_L0.eq_2] at H1
          refine CW.sub (s' := [(1, .pointer (some ⟨b1, 0, none⟩)), (4, .bool v7), (26, .slice p0_0 ((a0.l).length) c0_0), (27, .int .i64 ((a0.l).length : Int)), (28, .int .i64 v6)]) (h' := [(0, [(b1, .cells #[.slice p0_0 ((a0.l).length) c0_0, .int .i64 a0.h] 42 (0, 0))])]) ?_ ⟨rfl, rfl, rfl, rfl, rfl, trivial⟩ ⟨rfl, trivial⟩
          refine sr (oD (stp_lss rfl rfl) rfl (nn (cw_seq (cw_cond rfl (fun h8 => ?_) (fun h8 => ?_)))))
          · have H1 := cond_t H1 h8
            obtain ⟨x9, e9, H1⟩ := bind_some H1
            refine cw_skip (kw_nx (cw_seq (cw_block (sr (oD (mv rfl) rfl (oD (stp_indexAddr Tryz.underlying40 ts112 (by decide) rfl rfl rfl (Rdb.ro hr0_0) e9) rfl (oD (stp_loadN (us := [_, _, _, _, _, _]) ts112 rfl (Cells.el (Rdb.ro hr0_0) (by decide) e9 0 6 rfl)) rfl (oE (stpU_alloc 1 tz112 rfl) rfl ?_))))))))
            rintro _ _ ⟨b10, rfl, rfl⟩
            refine oD (sg rfl) rfl (oF (stpU_store (id := 1) (cs' := [.bool x9.va, .int .i64 x9.tg, .int .i64 x9.pg, .int .i64 x9.fr, .int .i64 x9.ri, .bool x9.wi]) ts112 rfl rfl rfl rfl rfl rfl rfl) ?_)
            rintro _ _ rfl
            obtain ⟨x11, e11, H1⟩ := bind_some H1
            refine nn (cw_seq (sr (oD (stp_loadN (us := [_, _, _, _, _, _]) ts112 rfl (Cells.box (id := 1) rfl 6 rfl)) rfl (oE (stpU_call (fun i => 2 + i) cf177 (fun w hw => c_i_lineValid fl w x9 x11 e11) (sevs_cons rfl sevs_nil)) rfl ?_))))
            rintro _ _ ⟨_, ⟨rfl, rfl⟩, rfl⟩
            refine oD (stp_not rfl) rfl (nn (cw_cond rfl (fun h12 => ?_) (fun h12 => ?_)))
            · have H1 := cond_t H1 h12
              refine sr (oD (sg rfl) rfl (nn (cw_ret (kw_nx_ret (kw_bl_ret (kw_nx_ret (kw_lq_ret (kw_bl_ret (kw_join_ret (kw_nx_ret ?_))))))))))
              have q1 := Option.some.inj H1
              subst q1
              have q0 := Option.some.inj H0
              subst q0
              exact kw_ret Tryz.results139 (.cons (.tmp rfl) .nil) [] [] trivial (by decide) ⟨rfl, rfl⟩
            · have H1 := cond_f H1 h12
              obtain ⟨x13, e13, H1⟩ := bind_some H1
              obtain ⟨o1_1, eo1_1, H1⟩ := bind_some H1
              refine cw_skip (kw_nx (cw_seq (sr (oD (fA 0 Tryz.underlying42 rfl ts40 rfl rfl rfl) rfl (oD (lB 0 ts40 rfl rfl rfl) rfl (oD (mv rfl) rfl (oD (stp_take Tryz.underlying40 ts112 rfl rfl rfl (Rdb.ro hr0_0) e13) rfl (oD (stp_len Tryz.underlying40 rfl) rfl (oD (mv rfl) rfl (nn (cw_join (ι := Int) (fun | v14 => o1_1 = .out v14) (fun | v14 => [(1, .pointer (some ⟨b1, 0, none⟩)), (4, .bool v7), (6, .pointer (some ⟨b10, 0, none⟩)), (26, .slice p0_0 ((a0.l).length) c0_0), (27, .int .i64 ((a0.l).length : Int)), (28, .int .i64 v6), (39, .slice p0_0 ((x13).length) c0_0), (40, .int .i64 ((x13).length : Int)), (41, .int .i64 v14)]) (fun | v14 => [(0, [(b1, .cells #[.slice p0_0 ((a0.l).length) c0_0, .int .i64 a0.h] 42 (0, 0))]), (1, [(b10, .cells #[.bool x9.va, .int .i64 x9.tg, .int .i64 x9.pg, .int .i64 x9.fr, .int .i64 x9.ri, .bool x9.wi] 112 (0, 0))])]) ?_ ?_)))))))))))
              · refine cw_block (cw_loopS (ι := Nat × Int) (js := [0, 1]) (fun x => x.1) (fun | (fuel, v14) => i_CacheValid_L1 fl x9 x13 fuel v14 = some o1_1) (fun | (_, v14) => [(1, .pointer (some ⟨b1, 0, none⟩)), (4, .bool v7), (6, .pointer (some ⟨b10, 0, none⟩)), (26, .slice p0_0 ((a0.l).length) c0_0), (27, .int .i64 ((a0.l).length : Int)), (28, .int .i64 v6), (39, .slice p0_0 ((x13).length) c0_0), (40, .int .i64 ((x13).length : Int)), (41, .int .i64 v14)]) (fun | (_, v14) => [(0, [(b1, .cells #[.slice p0_0 ((a0.l).length) c0_0, .int .i64 a0.h] 42 (0, 0))]), (1, [(b10, .cells #[.bool x9.va, .int .i64 x9.tg, .int .i64 x9.pg, .int .i64 x9.fr, .int .i64 x9.ri, .bool x9.wi] 112 (0, 0))])]) (fl, 0) eo1_1 ⟨rfl, rfl, rfl, rfl, rfl, rfl, rfl, rfl, rfl, trivial⟩ ⟨0, [1], rfl, rfl, 1, [], rfl, rfl, trivial⟩ (by decide) ?_)
                rintro ⟨fuel, v14⟩ H2
                have H2 : i_CacheValid_L1 fl x9 x13 fuel v14 = some o1_1 := H2
                rcases fuel with _ | fuel
                · rw [i_CacheValid_L1.eq_1] at H2; cases H2
                rw [i_CacheValid_L1.eq_2] at H2
                refine CW.sub (s' := [(1, .pointer (some ⟨b1, 0, none⟩)), (4, .bool v7), (6, .pointer (some ⟨b10, 0, none⟩)), (26, .slice p0_0 ((a0.l).length) c0_0), (27, .int .i64 ((a0.l).length : Int)), (28, .int .i64 v6), (39, .slice p0_0 ((x13).length) c0_0), (40, .int .i64 ((x13).length : Int)), (41, .int .i64 v14)]) (h' := [(0, [(b1, .cells #[.slice p0_0 ((a0.l).length) c0_0, .int .i64 a0.h] 42 (0, 0))]), (1, [(b10, .cells #[.bool x9.va, .int .i64 x9.tg, .int .i64 x9.pg, .int .i64 x9.fr, .int .i64 x9.ri, .bool x9.wi] 112 (0, 0))])]) ?_ ⟨rfl, rfl, rfl, rfl, rfl, rfl, rfl, rfl, rfl, trivial⟩ ⟨rfl, rfl, trivial⟩
                refine sr (oD (stp_lss rfl rfl) rfl (nn (cw_seq (cw_cond rfl (fun h15 => ?_) (fun h15 => ?_)))))
                · have H2 := cond_t H2 h15
                  obtain ⟨x16, e16, H2⟩ := bind_some H2
                  refine cw_skip (kw_nx (cw_seq (cw_block (sr (oD (stp_indexAddr Tryz.underlying40 ts112 (by decide) rfl rfl rfl (Rdb.ro (RO.take hr0_0 e13)) e16) rfl (oD (stp_loadN (us := [_, _, _, _, _, _]) ts112 rfl (Cells.el (Rdb.ro (RO.take hr0_0 e13)) (by decide) e16 0 6 rfl)) rfl (oE (stpU_alloc 2 tz112 rfl) rfl ?_)))))))
                  rintro _ _ ⟨b17, rfl, rfl⟩
                  refine oF (stpU_store (id := 2) (cs' := [.bool x16.va, .int .i64 x16.tg, .int .i64 x16.pg, .int .i64 x16.fr, .int .i64 x16.ri, .bool x16.wi]) ts112 rfl rfl rfl rfl rfl rfl rfl) ?_
                  rintro _ _ rfl
                  obtain ⟨x18, e18, H2⟩ := bind_some H2
                  refine nn (sr (oD (stp_loadN (us := [_, _, _, _, _, _]) ts112 rfl (Cells.box (id := 1) rfl 6 rfl)) rfl (oD (stp_loadN (us := [_, _, _, _, _, _]) ts112 rfl (Cells.box (id := 2) rfl 6 rfl)) rfl (oE (stpU_call (fun i => 3 + i) cf196 (fun w hw => c_i_clash fl w x9 x16 x18 e18) (sevs_cons rfl (sevs_cons rfl sevs_nil))) rfl ?_))))
                  rintro _ _ ⟨_, ⟨rfl, rfl⟩, rfl⟩
                  refine nn (cw_cond rfl (fun h19 => ?_) (fun h19 => ?_))
                  · have H2 := cond_t H2 h19
                    refine sr (oD (sg rfl) rfl (nn (cw_ret (kw_bl_ret (kw_nx_ret (kw_lq_ret (kw_bl_ret (kw_join_ret (kw_nx_ret (kw_bl_ret (kw_nx_ret (kw_lq_ret (kw_bl_ret ?_)))))))))))))
                    refine kw_join_ret (kw_nx_ret ?_)
                    have q2 := Option.some.inj H2
                    subst q2
                    have q1 := Option.some.inj H1
                    subst q1
                    have q0 := Option.some.inj H0
                    subst q0
                    exact kw_ret Tryz.results139 (.cons (.tmp rfl) .nil) [] [] trivial (by decide) ⟨rfl, rfl⟩
                  · have H2 := cond_f H2 h19
                    obtain ⟨x20, e20, H2⟩ := bind_some H2
                    exact cw_skip (kw_bl_normal (kw_nx (cw_region (oD (stp_add rfl rfl e20) rfl (oD (mv rfl) rfl (ow_nil (kw_lqS (js := [0, 1]) (fuel, x20) H2 (Nat.lt_succ_self _) ⟨rfl, rfl, rfl, rfl, rfl, rfl, rfl, rfl, rfl, trivial⟩ ⟨0, [1], rfl, rfl, 1, [], rfl, rfl, trivial⟩ (by decide))))))))
                · have H2 := cond_f H2 h15
                  refine cw_exit (kw_nx_exit (kw_lq_exit (kw_bl ?_)))
                  have q2 := Option.some.inj H2
                  subst q2
                  exact kw_joinS (js := [0, 1]) v14 rfl ⟨rfl, rfl, rfl, rfl, rfl, rfl, rfl, rfl, rfl, trivial⟩ ⟨0, [1], rfl, rfl, 1, [], rfl, rfl, trivial⟩ (by decide)
              · rintro v14 rfl
                refine KW.sub (s' := [(1, .pointer (some ⟨b1, 0, none⟩)), (4, .bool v7), (6, .pointer (some ⟨b10, 0, none⟩)), (26, .slice p0_0 ((a0.l).length) c0_0), (27, .int .i64 ((a0.l).length : Int)), (28, .int .i64 v6), (39, .slice p0_0 ((x13).length) c0_0), (40, .int .i64 ((x13).length : Int)), (41, .int .i64 v14)]) (h' := [(0, [(b1, .cells #[.slice p0_0 ((a0.l).length) c0_0, .int .i64 a0.h] 42 (0, 0))]), (1, [(b10, .cells #[.bool x9.va, .int .i64 x9.tg, .int .i64 x9.pg, .int .i64 x9.fr, .int .i64 x9.ri, .bool x9.wi] 112 (0, 0))])]) ?_ ⟨rfl, rfl, rfl, rfl, rfl, rfl, rfl, rfl, rfl, trivial⟩ ⟨rfl, rfl, trivial⟩
                obtain ⟨y21, ey21, H1⟩ := bind_some H1
                refine kw_nx (cw_region (oD (mv rfl) rfl (oD (mv rfl) rfl (ow_cutY 4 54 y21 ?_ ?_))))
                · rcases Bool.eq_false_or_eq_true v7 with hy21 | hy21
                  · have ey21 := cond_t ey21 hy21
                    refine oO rfl hy21 rfl (oO rfl hy21 rfl (oO rfl hy21 rfl (oD (stp_pick_t rfl hy21 rfl) rfl ?_)))
                    obtain rfl := Option.some.inj ey21
                    exact ow_nil (jy 4 0)
                  · have ey21 := cond_f ey21 hy21
                    refine oG rfl hy21 (fA 5 Tryz.underlying112 rfl ts4 rfl rfl rfl) rfl (oG rfl hy21 (lB 1 ts4 rfl rfl rfl) rfl (oG rfl hy21 (stp_not rfl) rfl (oD (stp_pick_f rfl hy21 rfl) rfl ?_)))
                    obtain rfl := Option.some.inj ey21
                    exact ow_nil (jy 4 0)
                · obtain ⟨x22, e22, H1⟩ := bind_some H1
                  exact oD (sg rfl) rfl (ow_nil (kw_bl_normal (kw_nx (cw_region (oD (stp_add rfl rfl e22) rfl (oD (mv rfl) rfl (ow_nil (kw_lqS (js := [0]) (fuel, x22, y21) H1 (Nat.lt_succ_self _) ⟨rfl, rfl, rfl, rfl, rfl, trivial⟩ ⟨0, [], rfl, rfl, trivial⟩ (by decide)))))))))
          · have H1 := cond_f H1 h8
            refine cw_exit (kw_nx_exit (kw_lq_exit (kw_bl ?_)))
            have q1 := Option.some.inj H1
            subst q1
            exact kw_joinS (js := [0]) (v6, v7) rfl ⟨rfl, rfl, rfl, rfl, rfl, trivial⟩ ⟨0, [], rfl, rfl, trivial⟩ (by decide)
        · rintro ⟨v6, v7⟩ rfl
          refine KW.sub (s' := [(1, .pointer (some ⟨b1, 0, none⟩)), (4, .bool v7), (26, .slice p0_0 ((a0.l).length) c0_0), (27, .int .i64 ((a0.l).length : Int)), (28, .int .i64 v6)]) (h' := [(0, [(b1, .cells #[.slice p0_0 ((a0.l).length) c0_0, .int .i64 a0.h] 42 (0, 0))])]) ?_ ⟨rfl, rfl, rfl, rfl, rfl, trivial⟩ ⟨rfl, trivial⟩
          refine kw_nx (sr (oD (mv rfl) rfl (oD (sg rfl) rfl (nn (cw_ret ?_)))))
          have q0 := Option.some.inj H0
          subst q0
          exact kw_ret Tryz.results139 (.cons (.tmp rfl) .nil) [] [] trivial (by decide) ⟨rfl, rfl⟩

set_option maxHeartbeats 4000000 in
set_option maxRecDepth 20000 in
theorem c_i_TagsValid (fl : Nat) (w : World) (a0 : Tg) (p0_0 : Option Addr) (n0_0 c0_0 : Nat) (hn0_0 : n0_0 = (a0.o).length) (hr0_0 : RO w (hkeys []) (RdL p0_0 c0_0 a0.o)) (r : Bool) (H0 : i_TagsValid fl a0 = some r) :
    Ct Tryz.prog 140 [.agg #[.int .i64 a0.c, .int .i64 a0.n, .int .i64 a0.r, .slice p0_0 n0_0 c0_0]] w [] (fun rv h' => rv = .bool r ∧ h' = []) := by
  obtain rfl := hn0_0
  unfold i_TagsValid at H0
  refine ct_of_cw Tryz.func140 rfl Tryz.ntmps140 rfl (Sat.refl _ _) ?_
  refine sr (oE (stpU_box 0 rfl rfl) rfl ?_)
  rintro _ _ ⟨b1, rfl, rfl⟩
  obtain ⟨y2, ey2, H0⟩ := bind_some H0
  refine oD (sg rfl) rfl (nn (cw_seq (sr (oD (fA 0 Tryz.underlying45 rfl ts3 rfl rfl rfl) rfl (oD (lB 0 ts3 rfl rfl rfl) rfl (oD (stp_lss rfl rfl) rfl (oD (mv rfl) rfl (ow_cutY 4 14 y2 ?_ ?_))))))))
  · rcases Bool.eq_false_or_eq_true (decide (a0.c < 1)) with hy2 | hy2
    · have ey2 := cond_t ey2 hy2
      refine oO rfl hy2 rfl (oO rfl hy2 rfl (oO rfl hy2 rfl (oD (stp_pick_t rfl hy2 rfl) rfl ?_)))
      obtain rfl := Option.some.inj ey2
      exact ow_nil (jy 4 0)
    · have ey2 := cond_f ey2 hy2
      refine oG rfl hy2 (fA 0 Tryz.underlying45 rfl ts3 rfl rfl rfl) rfl (oG rfl hy2 (lB 0 ts3 rfl rfl rfl) rfl (oG rfl hy2 (stp_gtr rfl rfl) rfl (oD (stp_pick_f rfl hy2 rfl) rfl ?_)))
      obtain rfl := Option.some.inj ey2
      exact ow_nil (jy 4 0)
  · obtain ⟨y3, ey3, H0⟩ := bind_some H0
    refine oD (mv rfl) rfl (ow_cutY 4 19 y3 ?_ ?_)
    · rcases Bool.eq_false_or_eq_true y2 with hy3 | hy3
      · have ey3 := cond_t ey3 hy3
        refine oO rfl hy3 rfl (oO rfl hy3 rfl (oO rfl hy3 rfl (oD (stp_pick_t rfl hy3 rfl) rfl ?_)))
        obtain rfl := Option.some.inj ey3
        exact ow_nil (jy 4 0)
      · have ey3 := cond_f ey3 hy3
        refine oG rfl hy3 (fA 1 Tryz.underlying45 rfl ts3 rfl rfl rfl) rfl (oG rfl hy3 (lB 0 ts3 rfl rfl rfl) rfl (oG rfl hy3 (stp_lss rfl rfl) rfl (oD (stp_pick_f rfl hy3 rfl) rfl ?_)))
        obtain rfl := Option.some.inj ey3
        exact ow_nil (jy 4 0)
    · obtain ⟨y4, ey4, H0⟩ := bind_some H0
      refine oD (mv rfl) rfl (ow_cutY 6 26 y4 ?_ ?_)
      · rcases Bool.eq_false_or_eq_true y3 with hy4 | hy4
        · have ey4 := cond_t ey4 hy4
          refine oO rfl hy4 rfl (oO rfl hy4 rfl (oO rfl hy4 rfl (oO rfl hy4 rfl (oO rfl hy4 rfl (oD (stp_pick_t rfl hy4 rfl) rfl ?_)))))
          obtain rfl := Option.some.inj ey4
          exact ow_nil (jy 6 0)
        · have ey4 := cond_f ey4 hy4
          refine oG rfl hy4 (fA 1 Tryz.underlying45 rfl ts3 rfl rfl rfl) rfl (oG rfl hy4 (lB 0 ts3 rfl rfl rfl) rfl (oG rfl hy4 (fA 0 Tryz.underlying45 rfl ts3 rfl rfl rfl) rfl (oG rfl hy4 (lB 0 ts3 rfl rfl rfl) rfl (oG rfl hy4 (stp_gtr rfl rfl) rfl (oD (stp_pick_f rfl hy4 rfl) rfl ?_)))))
          obtain rfl := Option.some.inj ey4
          exact ow_nil (jy 6 0)
      · obtain ⟨y5, ey5, H0⟩ := bind_some H0
        refine oD (mv rfl) rfl (ow_cutY 4 31 y5 ?_ ?_)
        · rcases Bool.eq_false_or_eq_true y4 with hy5 | hy5
          · have ey5 := cond_t ey5 hy5
            refine oO rfl hy5 rfl (oO rfl hy5 rfl (oO rfl hy5 rfl (oD (stp_pick_t rfl hy5 rfl) rfl ?_)))
            obtain rfl := Option.some.inj ey5
            exact ow_nil (jy 4 0)
          · have ey5 := cond_f ey5 hy5
            refine oG rfl hy5 (fA 2 Tryz.underlying45 rfl ts3 rfl rfl rfl) rfl (oG rfl hy5 (lB 0 ts3 rfl rfl rfl) rfl (oG rfl hy5 (stp_lss rfl rfl) rfl (oD (stp_pick_f rfl hy5 rfl) rfl ?_)))
            obtain rfl := Option.some.inj ey5
            exact ow_nil (jy 4 0)
        · obtain ⟨y6, ey6, H0⟩ := bind_some H0
          refine oD (mv rfl) rfl (ow_cutY 4 36 y6 ?_ ?_)
          · rcases Bool.eq_false_or_eq_true y5 with hy6 | hy6
            · have ey6 := cond_t ey6 hy6
              refine oO rfl hy6 rfl (oO rfl hy6 rfl (oO rfl hy6 rfl (oD (stp_pick_t rfl hy6 rfl) rfl ?_)))
              obtain rfl := Option.some.inj ey6
              exact ow_nil (jy 4 0)
            · have ey6 := cond_f ey6 hy6
              refine oG rfl hy6 (fA 2 Tryz.underlying45 rfl ts3 rfl rfl rfl) rfl (oG rfl hy6 (lB 0 ts3 rfl rfl rfl) rfl (oG rfl hy6 (stp_gtr rfl rfl) rfl (oD (stp_pick_f rfl hy6 rfl) rfl ?_)))
              obtain rfl := Option.some.inj ey6
              exact ow_nil (jy 4 0)
          · refine ow_nil (kw_nx (cw_cond rfl (fun h7 => ?_) (fun h7 => ?_)))
            · have H0 := cond_t H0 h7
              refine sr (oD (sg rfl) rfl (nn (cw_ret (kw_nx_ret ?_))))
              have q0 := Option.some.inj H0
              subst q0
              exact kw_ret Tryz.results140 (.cons (.tmp rfl) .nil) [] [] trivial (by decide) ⟨rfl, rfl⟩
            · have H0 := cond_f H0 h7
              refine cw_skip (kw_nx (sr (oE (stpU_makeMap 1 3) rfl ?_)))
              rintro _ _ ⟨b8, C9, rfl, rfl, o9⟩
              obtain ⟨o0_0, eo0_0, H0⟩ := bind_some H0
              refine oD (sg rfl) rfl (nn (sr (oD (sg rfl) rfl (nn (cw_seq (sr (oD (fA 3 Tryz.underlying45 rfl ts43 rfl rfl rfl) rfl (oD (lB 0 ts43 rfl rfl rfl) rfl (oD (stp_len Tryz.underlying43 rfl) rfl (oD (mv rfl) rfl (nn (cw_join (ι := (List Int) × Int × Int × Res) (fun | (v10, v12, v13, C11) => o0_0 = .out (v10, v12, v13) ∧ True ∧ OwnM Tryz.prog 3 b8 v10 C11) (fun | (v10, v12, v13, C11) => [(1, .pointer (some ⟨b1, 0, none⟩)), (3, .map (some b8)), (4, .int .i64 v12), (39, .slice p0_0 ((a0.o).length) c0_0), (40, .int .i64 ((a0.o).length : Int)), (41, .int .i64 v13)]) (fun | (v10, v12, v13, C11) => [(0, [(b1, .cells #[.int .i64 a0.c, .int .i64 a0.n, .int .i64 a0.r, .slice p0_0 ((a0.o).length) c0_0] 45 (0, 0))]), (1, C11)]) ?_ ?_))))))))))))
              · refine cw_block (cw_loopS (ι := Nat × (List Int) × Int × Int × Res) (js := [0, 1]) (fun x => x.1) (fun | (fuel, v10, v12, v13, C11) => i_TagsValid_L0 fl a0 fuel v10 v12 v13 = some o0_0 ∧ True ∧ OwnM Tryz.prog 3 b8 v10 C11) (fun | (_, v10, v12, v13, C11) => [(1, .pointer (some ⟨b1, 0, none⟩)), (3, .map (some b8)), (4, .int .i64 v12), (39, .slice p0_0 ((a0.o).length) c0_0), (40, .int .i64 ((a0.o).length : Int)), (41, .int .i64 v13)]) (fun | (_, v10, v12, v13, C11) => [(0, [(b1, .cells #[.int .i64 a0.c, .int .i64 a0.n, .int .i64 a0.r, .slice p0_0 ((a0.o).length) c0_0] 45 (0, 0))]), (1, C11)]) (fl, ([] : List Int), (-1), 0, C9) ⟨eo0_0, trivial, o9⟩ ⟨rfl, rfl, rfl, rfl, rfl, rfl, trivial⟩ ⟨0, [1], rfl, rfl, 1, [], rfl, rfl, trivial⟩ (by decide) ?_)
                rintro ⟨fuel, v10, v12, v13, C11⟩ ⟨H1, hl11, o11⟩
                have H1 : i_TagsValid_L0 fl a0 fuel v10 v12 v13 = some o0_0 := H1
                rcases fuel with _ | fuel
                · rw [i_TagsValid_L0.eq_1] at H1; cases H1
                rw [i_TagsValid_L0.eq_2] at H1
                refine CW.sub (s' := [(1, .pointer (some ⟨b1, 0, none⟩)), (3, .map (some b8)), (4, .int .i64 v12), (39, .slice p0_0 ((a0.o).length) c0_0), (40, .int .i64 ((a0.o).length : Int)), (41, .int .i64 v13)]) (h' := [(0, [(b1, .cells #[.int .i64 a0.c, .int .i64 a0.n, .int .i64 a0.r, .slice p0_0 ((a0.o).length) c0_0] 45 (0, 0))]), (1, C11)]) ?_ ⟨rfl, rfl, rfl, rfl, rfl, rfl, trivial⟩ ⟨rfl, rfl, trivial⟩
                refine sr (oD (stp_lss rfl rfl) rfl (nn (cw_seq (cw_cond rfl (fun h14 => ?_) (fun h14 => ?_)))))
                · have H1 := cond_t H1 h14
                  obtain ⟨x15, e15, H1⟩ := bind_some H1
                  refine cw_skip (kw_nx (cw_seq (cw_block (sr (oD (stp_indexAddr Tryz.underlying43 ts148 (by decide) rfl rfl rfl (Rdb.ro hr0_0) e15) rfl (oD (stp_loadN (us := [_, _]) ts148 rfl (Cells.el (Rdb.ro hr0_0) (by decide) e15 0 2 rfl)) rfl (oE (stpU_alloc 2 tz148 rfl) rfl ?_)))))))
                  rintro _ _ ⟨b16, rfl, rfl⟩
                  refine oF (stpU_store (id := 2) (cs' := [.int .i64 x15.sp, .int .i64 x15.tg]) ts148 rfl rfl rfl rfl rfl rfl rfl) ?_
                  rintro _ _ rfl
                  obtain ⟨y17, ey17, H1⟩ := bind_some H1
                  refine nn (cw_seq (sr (oD (fA 1 Tryz.underlying148 rfl ts3 rfl rfl rfl) rfl (oD (lB 2 ts3 rfl rfl rfl) rfl (oD (mv rfl) rfl (oD (stp_leq rfl rfl) rfl (oD (mv rfl) rfl (ow_cutY 6 55 y17 ?_ ?_))))))))
                  · rcases Bool.eq_false_or_eq_true (decide (x15.tg ≤ v12)) with hy17 | hy17
                    · have ey17 := cond_t ey17 hy17
                      refine oO rfl hy17 rfl (oO rfl hy17 rfl (oO rfl hy17 rfl (oO rfl hy17 rfl (oO rfl hy17 rfl (oD (stp_pick_t rfl hy17 rfl) rfl ?_)))))
                      obtain rfl := Option.some.inj ey17
                      exact ow_nil (jy 6 0)
                    · have ey17 := cond_f ey17 hy17
                      refine oG rfl hy17 (fA 1 Tryz.underlying148 rfl ts3 rfl rfl rfl) rfl (oG rfl hy17 (lB 2 ts3 rfl rfl rfl) rfl (oG rfl hy17 (fA 1 Tryz.underlying45 rfl ts3 rfl rfl rfl) rfl (oG rfl hy17 (lB 0 ts3 rfl rfl rfl) rfl (oG rfl hy17 (stp_geq rfl rfl) rfl (oD (stp_pick_f rfl hy17 rfl) rfl ?_)))))
                      obtain rfl := Option.some.inj ey17
                      exact ow_nil (jy 6 0)
                  · obtain ⟨y18, ey18, H1⟩ := bind_some H1
                    refine oD (mv rfl) rfl (ow_cutY 5 61 y18 ?_ ?_)
                    · rcases Bool.eq_false_or_eq_true y17 with hy18 | hy18
                      · have ey18 := cond_t ey18 hy18
                        refine oO rfl hy18 rfl (oO rfl hy18 rfl (oO rfl hy18 rfl (oO rfl hy18 rfl (oD (stp_pick_t rfl hy18 rfl) rfl ?_))))
                        obtain rfl := Option.some.inj ey18
                        exact ow_nil (jy 5 0)
                      · have ey18 := cond_f ey18 hy18
                        obtain ⟨x19, e19, ey18⟩ := bind_some ey18
                        refine oG rfl hy18 (fA 0 Tryz.underlying148 rfl ts3 rfl rfl rfl) rfl (oG rfl hy18 (lB 2 ts3 rfl rfl rfl) rfl (ow_eff (.some rfl hy18) (stpU_call (fun i => 3 + i) cf90 (fun w hw => c_i_within fl w x15.sp 16 x19 e19) (sevs_cons rfl (sevs_cons rfl sevs_nil))) rfl ?_))
                        rintro _ _ ⟨_, ⟨rfl, rfl⟩, rfl⟩
                        refine oG rfl hy18 (stp_not rfl) rfl (oD (stp_pick_f rfl hy18 rfl) rfl ?_)
                        obtain rfl := Option.some.inj ey18
                        exact ow_nil (jy 5 0)
                    · obtain ⟨y20, ey20, H1⟩ := bind_some H1
                      refine oD (mv rfl) rfl (ow_cutY 5 67 y20 ?_ ?_)
                      · rcases Bool.eq_false_or_eq_true y18 with hy20 | hy20
                        · have ey20 := cond_t ey20 hy20
                          refine oO rfl hy20 rfl (oO rfl hy20 rfl (oO rfl hy20 rfl (oO rfl hy20 rfl (oD (stp_pick_t rfl hy20 rfl) rfl ?_))))
                          obtain rfl := Option.some.inj ey20
                          exact ow_nil (jy 5 0)
                        · have ey20 := cond_f ey20 hy20
                          obtain ⟨x21, e21, ey20⟩ := bind_some ey20
                          refine oG rfl hy20 (mv rfl) rfl (oG rfl hy20 (fA 0 Tryz.underlying148 rfl ts3 rfl rfl rfl) rfl (oG rfl hy20 (lB 2 ts3 rfl rfl rfl) rfl (oG rfl hy20 (stp_has (id := 1) keyInt isKeyInt Tryz.underlying208 tz4 rfl rfl rfl o11 e21) rfl (oD (stp_pick_f rfl hy20 rfl) rfl ?_))))
                          obtain rfl := Option.some.inj ey20
                          exact ow_nil (jy 5 0)
                      · refine ow_nil (kw_nx (cw_cond rfl (fun h22 => ?_) (fun h22 => ?_)))
                        · have H1 := cond_t H1 h22
                          refine sr (oD (sg rfl) rfl (nn (cw_ret (kw_nx_ret (kw_bl_ret (kw_nx_ret (kw_lq_ret (kw_bl_ret (kw_join_ret (kw_nx_ret ?_))))))))))
                          have q1 := Option.some.inj H1
                          subst q1
                          have q0 := Option.some.inj H0
                          subst q0
                          exact kw_ret Tryz.results140 (.cons (.tmp rfl) .nil) [] [] trivial (by decide) ⟨rfl, rfl⟩
                        · have H1 := cond_f H1 h22
                          obtain ⟨x23, e23, H1⟩ := bind_some H1
                          refine cw_skip (kw_nx (sr (oD (fA 1 Tryz.underlying148 rfl ts3 rfl rfl rfl) rfl (oD (lB 2 ts3 rfl rfl rfl) rfl (oD (sg rfl) rfl (nn (cw_region (oD (mv rfl) rfl (oD (fA 0 Tryz.underlying148 rfl ts3 rfl rfl rfl) rfl (oD (lB 2 ts3 rfl rfl rfl) rfl (oF (stpU_add (id := 1) keyInt isKeyInt Tryz.underlying208 rfl rfl rfl rfl o11 e23) ?_)))))))))))
                          rintro _ _ ⟨C24, rfl, o24⟩
                          obtain ⟨x25, e25, H1⟩ := bind_some H1
                          exact ow_nil (kw_bl_normal (kw_nx (cw_region (oD (stp_add rfl rfl e25) rfl (oD (mv rfl) rfl (ow_nil (kw_lqS (js := [0, 1]) (fuel, x23, x15.tg, x25, C24) ⟨H1, trivial, o24⟩ (Nat.lt_succ_self _) ⟨rfl, rfl, rfl, rfl, rfl, rfl, trivial⟩ ⟨0, [1], rfl, rfl, 1, [], rfl, rfl, trivial⟩ (by decide))))))))
                · have H1 := cond_f H1 h14
                  refine cw_exit (kw_nx_exit (kw_lq_exit (kw_bl ?_)))
                  have q1 := Option.some.inj H1
                  subst q1
                  exact kw_joinS (js := [0, 1]) (v10, v12, v13, C11) ⟨rfl, trivial, o11⟩ ⟨rfl, rfl, rfl, rfl, rfl, rfl, trivial⟩ ⟨0, [1], rfl, rfl, 1, [], rfl, rfl, trivial⟩ (by decide)
              · rintro ⟨v10, v12, v13, C11⟩ ⟨rfl, hl11, o11⟩
                refine KW.sub (s' := [(1, .pointer (some ⟨b1, 0, none⟩)), (3, .map (some b8)), (4, .int .i64 v12), (39, .slice p0_0 ((a0.o).length) c0_0), (40, .int .i64 ((a0.o).length : Int)), (41, .int .i64 v13)]) (h' := [(0, [(b1, .cells #[.int .i64 a0.c, .int .i64 a0.n, .int .i64 a0.r, .slice p0_0 ((a0.o).length) c0_0] 45 (0, 0))]), (1, C11)]) ?_ ⟨rfl, rfl, rfl, rfl, rfl, rfl, trivial⟩ ⟨rfl, rfl, trivial⟩
                refine kw_nx (sr (oD (sg rfl) rfl (nn (cw_ret ?_))))
                have q0 := Option.some.inj H0
                subst q0
                exact kw_ret Tryz.results140 (.cons (.tmp rfl) .nil) [] [] trivial (by decide) ⟨rfl, rfl⟩

set_option maxHeartbeats 4000000 in
set_option maxRecDepth 20000 in
theorem c_i_Tags_own_1 (fl : Nat) (w : World) (a0 : Ow) (qc0 : Nat) (ac0 : Int) (hbac0 : RO w (hkeys []) (fun w' => w'.rangeAt qc0 0 [.int .i64 ac0])) (r : Bool) (H0 : i_Tags_own_1 fl a0 ac0 = some r) :
    Ct Tryz.prog 198 [.agg #[.int .i64 a0.sp, .int .i64 a0.tg], .pointer (some ⟨qc0, 0, none⟩)] w [] (fun rv h' => rv = .bool r ∧ h' = []) := by
  unfold i_Tags_own_1 at H0
  refine ct_of_cw Tryz.func198 rfl Tryz.ntmps198 rfl (Sat.refl _ _) ?_
  refine sr (oE (stpU_box 0 rfl rfl) rfl ?_)
  rintro _ _ ⟨b1, rfl, rfl⟩
  refine oD (sg rfl) rfl (nn (sr (oD (fA 0 Tryz.underlying148 rfl ts3 rfl rfl rfl) rfl (oD (lB 0 ts3 rfl rfl rfl) rfl (oD (stp_load1 ts3 rfl (Cells.ofRO hbac0 1 rfl)) rfl (oD (stp_eql rfl rfl) rfl (oD (sg rfl) rfl (nn (cw_ret ?_)))))))))
  have q0 := Option.some.inj H0
  subst q0
  exact kw_ret Tryz.results198 (.cons (.tmp rfl) .nil) [] [] trivial (by decide) ⟨rfl, rfl⟩

set_option maxHeartbeats 4000000 in
set_option maxRecDepth 20000 in
theorem c_slices_IndexFunc_Own_of_i_Tags_own_1 (fl : Nat) (w : World) (a0 : (List Ow)) (p0_0 : Option Addr) (n0_0 c0_0 : Nat) (q1_0 : Nat) (a1_0 : Int) (hn0_0 : n0_0 = (a0).length) (hr0_0 : RO w (hkeys []) (RdL p0_0 c0_0 a0)) (hba1_0 : RO w (hkeys []) (fun w' => w'.rangeAt q1_0 0 [.int .i64 a1_0])) (r : Int) (H0 : slices_IndexFunc_Own_of_i_Tags_own_1 fl a0 a1_0 = some r) :
    Ct Tryz.prog 197 [.slice p0_0 n0_0 c0_0, .func (.func 198) #[] #[.pointer (some ⟨q1_0, 0, none⟩)]] w [] (fun rv h' => rv = .int .i64 r ∧ h' = []) := by
  obtain rfl := hn0_0
  unfold slices_IndexFunc_Own_of_i_Tags_own_1 at H0
  refine ct_of_cw Tryz.func197 rfl Tryz.ntmps197 rfl (Sat.refl _ _) ?_
  obtain ⟨o0_0, eo0_0, H0⟩ := bind_some H0
  refine sr (oD (sg rfl) rfl (nn (cw_seq (sr (oD (mv rfl) rfl (oD (stp_len Tryz.underlying43 rfl) rfl (oD (mv rfl) rfl (nn (cw_join (ι := Int) (fun | v1 => o0_0 = .out v1) (fun | v1 => [(0, .slice p0_0 ((a0).length) c0_0), (1, .func (.func 198) #[] #[.pointer (some ⟨q1_0, 0, none⟩)]), (7, .int .i64 ((a0).length : Int)), (8, .int .i64 v1)]) (fun | v1 => []) ?_ ?_)))))))))
  · refine cw_block (cw_loopS (ι := Nat × Int) (js := []) (fun x => x.1) (fun | (fuel, v1) => slices_IndexFunc_Own_of_i_Tags_own_1_L0 fl a0 a1_0 fuel v1 = some o0_0) (fun | (_, v1) => [(0, .slice p0_0 ((a0).length) c0_0), (1, .func (.func 198) #[] #[.pointer (some ⟨q1_0, 0, none⟩)]), (7, .int .i64 ((a0).length : Int)), (8, .int .i64 v1)]) (fun | (_, v1) => []) (fl, 0) eo0_0 ⟨rfl, rfl, rfl, rfl, trivial⟩ trivial (by decide) ?_)
    rintro ⟨fuel, v1⟩ H1
    have H1 : slices_IndexFunc_Own_of_i_Tags_own_1_L0 fl a0 a1_0 fuel v1 = some o0_0 := H1
    rcases fuel with _ | fuel
    · rw [slices_IndexFunc_Own_of_i_Tags_own_1_L0.eq_1] at H1; cases H1
    rw [slices_IndexFunc_Own_of_i_Tags_own_1_L0.eq_2] at H1
    refine CW.sub (s' := [(0, .slice p0_0 ((a0).length) c0_0), (1, .func (.func 198) #[] #[.pointer (some ⟨q1_0, 0, none⟩)]), (7, .int .i64 ((a0).length : Int)), (8, .int .i64 v1)]) (h' := []) ?_ ⟨rfl, rfl, rfl, rfl, trivial⟩ trivial
    refine sr (oD (stp_lss rfl rfl) rfl (nn (cw_seq (cw_cond rfl (fun h2 => ?_) (fun h2 => ?_)))))
    · have H1 := cond_t H1 h2
      obtain ⟨x3, e3, H1⟩ := bind_some H1
      refine cw_skip (kw_nx (cw_seq (cw_block (sr (oD (mv rfl) rfl (oD (sg rfl) rfl (nn (sr (oD (mv rfl) rfl (oD (mv rfl) rfl (oD (mv rfl) rfl (oD (stp_indexAddr Tryz.underlying43 ts148 (by decide) rfl rfl rfl (Rdb.ro hr0_0) e3) rfl (oD (stp_loadN (us := [_, _]) ts148 rfl (Cells.el (Rdb.ro hr0_0) (by decide) e3 0 2 rfl)) rfl ?_)))))))))))))
      obtain ⟨x4, e4, H1⟩ := bind_some H1
      refine oE (stpU_callF (vals := [_]) (ca := [_]) (fun i => 0 + i) cf198 (fun w hw => c_i_Tags_own_1 fl w x3 q1_0 a1_0 (RO.pass hba1_0 hw) x4 e4) rfl (sevs_cons rfl sevs_nil)) rfl ?_
      rintro _ _ ⟨_, ⟨rfl, rfl⟩, rfl⟩
      refine nn (cw_cond rfl (fun h5 => ?_) (fun h5 => ?_))
      · have H1 := cond_t H1 h5
        refine sr (oD (mv rfl) rfl (oD (sg rfl) rfl (nn (cw_ret (kw_bl_ret (kw_nx_ret (kw_lq_ret (kw_bl_ret (kw_join_ret (kw_nx_ret ?_))))))))))
        have q1 := Option.some.inj H1
        subst q1
        have q0 := Option.some.inj H0
        subst q0
        exact kw_ret Tryz.results197 (.cons (.tmp rfl) .nil) [] [] trivial (by decide) ⟨rfl, rfl⟩
      · have H1 := cond_f H1 h5
        obtain ⟨x6, e6, H1⟩ := bind_some H1
        exact cw_skip (kw_bl_normal (kw_nx (cw_region (oD (stp_add rfl rfl e6) rfl (oD (mv rfl) rfl (ow_nil (kw_lqS (js := []) (fuel, x6) H1 (Nat.lt_succ_self _) ⟨rfl, rfl, rfl, rfl, trivial⟩ trivial (by decide))))))))
    · have H1 := cond_f H1 h2
      refine cw_exit (kw_nx_exit (kw_lq_exit (kw_bl ?_)))
      have q1 := Option.some.inj H1
      subst q1
      exact kw_joinS (js := []) v1 rfl ⟨rfl, rfl, rfl, rfl, trivial⟩ trivial (by decide)
  · rintro v1 rfl
    refine KW.sub (s' := [(0, .slice p0_0 ((a0).length) c0_0), (1, .func (.func 198) #[] #[.pointer (some ⟨q1_0, 0, none⟩)]), (7, .int .i64 ((a0).length : Int)), (8, .int .i64 v1)]) (h' := []) ?_ ⟨rfl, rfl, rfl, rfl, trivial⟩ trivial
    refine kw_nx (sr (oD (sg rfl) rfl (nn (cw_ret ?_))))
    have q0 := Option.some.inj H0
    subst q0
    exact kw_ret Tryz.results197 (.cons (.tmp rfl) .nil) [] [] trivial (by decide) ⟨rfl, rfl⟩

set_option maxHeartbeats 4000000 in
set_option maxRecDepth 20000 in
theorem c_i_Tags_own (fl : Nat) (w : World) (a0 : Tg) (p0_0 : Option Addr) (n0_0 c0_0 : Nat) (a1 : Int) (hn0_0 : n0_0 = (a0.o).length) (hr0_0 : RO w (hkeys []) (RdL p0_0 c0_0 a0.o)) (r : Int) (H0 : i_Tags_own fl a0 a1 = some r) :
    Ct Tryz.prog 141 [.agg #[.int .i64 a0.c, .int .i64 a0.n, .int .i64 a0.r, .slice p0_0 n0_0 c0_0], .int .i64 a1] w [] (fun rv h' => rv = .int .i64 r ∧ h' = []) := by
  obtain rfl := hn0_0
  unfold i_Tags_own at H0
  refine ct_of_cw Tryz.func141 rfl Tryz.ntmps141 rfl (Sat.refl _ _) ?_
  refine sr (oE (stpU_box 0 rfl rfl) rfl ?_)
  rintro _ _ ⟨b1, rfl, rfl⟩
  refine oE (stpU_box 1 rfl rfl) rfl ?_
  rintro _ _ ⟨b2, rfl, rfl⟩
  obtain ⟨x3, e3, H0⟩ := bind_some H0
  refine oD (sg rfl) rfl (nn (sr (oD (fA 3 Tryz.underlying45 rfl ts43 rfl rfl rfl) rfl (oD (lB 0 ts43 rfl rfl rfl) rfl (oD (stp_makeFunc (sevs_cons rfl sevs_nil)) rfl (oE (stpU_call (fun i => 2 + i) cf197 (fun w hw => c_slices_IndexFunc_Own_of_i_Tags_own_1 fl w a0.o p0_0 ((a0.o).length) c0_0 b2 a1 rfl (RO.pass hr0_0 hw) (box_pass (id := 1) rfl hw) x3 e3) (sevs_cons rfl (sevs_cons rfl sevs_nil))) rfl ?_))))))
  rintro _ _ ⟨_, ⟨rfl, rfl⟩, rfl⟩
  refine oD (sg rfl) rfl (nn (cw_ret ?_))
  have q0 := Option.some.inj H0
  subst q0
  exact kw_ret Tryz.results141 (.cons (.tmp rfl) .nil) [] [] trivial (by decide) ⟨rfl, rfl⟩

set_option maxHeartbeats 4000000 in
set_option maxRecDepth 20000 in
theorem c_i_SpaceOf (fl : Nat) (w : World) (a0 : Tg) (p0_0 : Option Addr) (n0_0 c0_0 : Nat) (a1 : Int) (hn0_0 : n0_0 = (a0.o).length) (hr0_0 : RO w (hkeys []) (RdL p0_0 c0_0 a0.o)) (r : Int × Bool) (H0 : i_SpaceOf fl a0 a1 = some r) :
    Ct Tryz.prog 142 [.agg #[.int .i64 a0.c, .int .i64 a0.n, .int .i64 a0.r, .slice p0_0 n0_0 c0_0], .int .i64 a1] w [] (fun rv h' => rv = .tuple #[.int .i64 r.1, .bool r.2] ∧ h' = []) := by
  obtain rfl := hn0_0
  unfold i_SpaceOf at H0
  refine ct_of_cw Tryz.func142 rfl Tryz.ntmps142 rfl (Sat.refl _ _) ?_
  refine sr (oE (stpU_box 0 rfl rfl) rfl ?_)
  rintro _ _ ⟨b1, rfl, rfl⟩
  obtain ⟨x2, e2, H0⟩ := bind_some H0
  refine oD (sg rfl) rfl (oD (sg rfl) rfl (nn (cw_seq (sr (oD (stp_loadN (us := [_, _, _, _]) ts45 rfl (Cells.box (id := 0) rfl 4 rfl)) rfl (oE (stpU_call (fun i => 1 + i) cf140 (fun w hw => c_i_TagsValid fl w a0 p0_0 ((a0.o).length) c0_0 rfl (RO.pass hr0_0 hw) x2 e2) (sevs_cons rfl sevs_nil)) rfl ?_))))))
  rintro _ _ ⟨_, ⟨rfl, rfl⟩, rfl⟩
  refine oD (stp_not rfl) rfl (nn (cw_cond rfl (fun h3 => ?_) (fun h3 => ?_)))
  · have H0 := cond_t H0 h3
    refine sr (oD (sg rfl) rfl (oD (sg rfl) rfl (nn (cw_ret (kw_nx_ret ?_)))))
    have q0 := Option.some.inj H0
    subst q0
    exact kw_ret Tryz.results142 (.cons (.tmp rfl) (.cons (.tmp rfl) .nil)) [] [] trivial (by decide) ⟨rfl, rfl⟩
  · have H0 := cond_f H0 h3
    obtain ⟨o0_0, eo0_0, H0⟩ := bind_some H0
    refine cw_skip (kw_nx (cw_seq (sr (oD (fA 3 Tryz.underlying45 rfl ts43 rfl rfl rfl) rfl (oD (lB 0 ts43 rfl rfl rfl) rfl (oD (stp_len Tryz.underlying43 rfl) rfl (oD (mv rfl) rfl (nn (cw_join (ι := Int) (fun | v4 => o0_0 = .out v4) (fun | v4 => [(1, .int .i64 a1), (12, .slice p0_0 ((a0.o).length) c0_0), (13, .int .i64 ((a0.o).length : Int)), (14, .int .i64 v4)]) (fun | v4 => []) ?_ ?_)))))))))
    · refine cw_block (cw_loopS (ι := Nat × Int) (js := []) (fun x => x.1) (fun | (fuel, v4) => i_SpaceOf_L0 fl a0 a1 fuel v4 = some o0_0) (fun | (_, v4) => [(1, .int .i64 a1), (12, .slice p0_0 ((a0.o).length) c0_0), (13, .int .i64 ((a0.o).length : Int)), (14, .int .i64 v4)]) (fun | (_, v4) => []) (fl, 0) eo0_0 ⟨rfl, rfl, rfl, rfl, trivial⟩ trivial (by decide) ?_)
      rintro ⟨fuel, v4⟩ H1
      have H1 : i_SpaceOf_L0 fl a0 a1 fuel v4 = some o0_0 := H1
      rcases fuel with _ | fuel
      · rw [i_SpaceOf_L0.eq_1] at H1; cases H1
      rw [i_SpaceOf_L0.eq_2] at H1
      refine CW.sub (s' := [(1, .int .i64 a1), (12, .slice p0_0 ((a0.o).length) c0_0), (13, .int .i64 ((a0.o).length : Int)), (14, .int .i64 v4)]) (h' := []) ?_ ⟨rfl, rfl, rfl, rfl, trivial⟩ trivial
      refine sr (oD (stp_lss rfl rfl) rfl (nn (cw_seq (cw_cond rfl (fun h5 => ?_) (fun h5 => ?_)))))
      · have H1 := cond_t H1 h5
        obtain ⟨x6, e6, H1⟩ := bind_some H1
        refine cw_skip (kw_nx (cw_seq (cw_block (sr (oD (stp_indexAddr Tryz.underlying43 ts148 (by decide) rfl rfl rfl (Rdb.ro hr0_0) e6) rfl (oD (stp_loadN (us := [_, _]) ts148 rfl (Cells.el (Rdb.ro hr0_0) (by decide) e6 0 2 rfl)) rfl (oE (stpU_alloc 1 tz148 rfl) rfl ?_)))))))
        rintro _ _ ⟨b7, rfl, rfl⟩
        refine oF (stpU_store (id := 1) (cs' := [.int .i64 x6.sp, .int .i64 x6.tg]) ts148 rfl rfl rfl rfl rfl rfl rfl) ?_
        rintro _ _ rfl
        refine nn (sr (oD (fA 1 Tryz.underlying148 rfl ts3 rfl rfl rfl) rfl (oD (lB 1 ts3 rfl rfl rfl) rfl (oD (mv rfl) rfl (oD (stp_eql rfl rfl) rfl (nn (cw_cond rfl (fun h8 => ?_) (fun h8 => ?_))))))))
        · have H1 := cond_t H1 h8
          refine sr (oD (fA 0 Tryz.underlying148 rfl ts3 rfl rfl rfl) rfl (oD (lB 1 ts3 rfl rfl rfl) rfl (oD (sg rfl) rfl (oD (sg rfl) rfl (nn (cw_ret (kw_bl_ret (kw_nx_ret (kw_lq_ret (kw_bl_ret (kw_join_ret (kw_nx_ret ?_))))))))))))
          have q1 := Option.some.inj H1
          subst q1
          have q0 := Option.some.inj H0
          subst q0
          exact kw_ret Tryz.results142 (.cons (.tmp rfl) (.cons (.tmp rfl) .nil)) [] [] trivial (by decide) ⟨rfl, rfl⟩
        · have H1 := cond_f H1 h8
          obtain ⟨x9, e9, H1⟩ := bind_some H1
          exact cw_skip (kw_bl_normal (kw_nx (cw_region (oD (stp_add rfl rfl e9) rfl (oD (mv rfl) rfl (ow_nil (kw_lqS (js := []) (fuel, x9) H1 (Nat.lt_succ_self _) ⟨rfl, rfl, rfl, rfl, trivial⟩ trivial (by decide))))))))
      · have H1 := cond_f H1 h5
        refine cw_exit (kw_nx_exit (kw_lq_exit (kw_bl ?_)))
        have q1 := Option.some.inj H1
        subst q1
        exact kw_joinS (js := []) v4 rfl ⟨rfl, rfl, rfl, rfl, trivial⟩ trivial (by decide)
    · rintro v4 rfl
      refine KW.sub (s' := [(1, .int .i64 a1), (12, .slice p0_0 ((a0.o).length) c0_0), (13, .int .i64 ((a0.o).length : Int)), (14, .int .i64 v4)]) (h' := []) ?_ ⟨rfl, rfl, rfl, rfl, trivial⟩ trivial
      refine kw_nx (sr (oD (sg rfl) rfl (oD (sg rfl) rfl (nn (cw_ret ?_)))))
      have q0 := Option.some.inj H0
      subst q0
      exact kw_ret Tryz.results142 (.cons (.tmp rfl) (.cons (.tmp rfl) .nil)) [] [] trivial (by decide) ⟨rfl, rfl⟩

set_option maxHeartbeats 4000000 in
set_option maxRecDepth 20000 in
theorem c_i_KeyFor (fl : Nat) (w : World) (a0 : Int) (a1 : Int) (r : K) (H0 : i_KeyFor fl a0 a1 = some r) :
    Ct Tryz.prog 61 [.int .i64 a0, .int .i64 a1] w [] (fun rv h' => rv = .agg #[.int .i64 r.s, .int .i64 r.p] ∧ h' = []) := by
  unfold i_KeyFor at H0
  refine ct_of_cw Tryz.func61 rfl Tryz.ntmps61 rfl (Sat.refl _ _) ?_
  refine sr (oE (stpU_alloc 0 tz51 rfl) rfl ?_)
  rintro _ _ ⟨b1, rfl, rfl⟩
  refine nn (cw_seq (sr (oD (mv rfl) rfl (oD (stp_geq rfl rfl) rfl (nn (cw_cond rfl (fun h2 => ?_) (fun h2 => ?_)))))))
  · have H0 := cond_t H0 h2
    refine cw_region (oD (sg rfl) rfl (nn (sr (oD (mv rfl) rfl (oD (mv rfl) rfl (oD (stp_build (cs := #[.int .i64 0, .int .i64 a1]) (sevp_cons rfl (sevp_cons rfl sevp_nil)) bt51_2) rfl (oF (stpU_store (id := 0) (cs' := [.int .i64 0, .int .i64 a1]) ts51 rfl rfl rfl rfl rfl rfl rfl) ?_)))))))
    rintro _ _ rfl
    refine nn (cw_ret ?_)
    have q0 := Option.some.inj H0
    subst q0
    exact kw_ret Tryz.results61 (.cons (.cellN (us := [_, _]) ts51 rfl (Cells.box (id := 0) rfl 2 rfl)) .nil) [] [] trivial (by decide) ⟨rfl, rfl⟩
  · have H0 := cond_f H0 h2
    refine cw_skip (kw_nx (sr (oD (mv rfl) rfl (oD (mv rfl) rfl (oD (stp_build (cs := #[.int .i64 a0, .int .i64 a1]) (sevp_cons rfl (sevp_cons rfl sevp_nil)) bt51_2) rfl (oF (stpU_store (id := 0) (cs' := [.int .i64 a0, .int .i64 a1]) ts51 rfl rfl rfl rfl rfl rfl rfl) ?_))))))
    rintro _ _ rfl
    refine nn (cw_ret ?_)
    have q0 := Option.some.inj H0
    subst q0
    exact kw_ret Tryz.results61 (.cons (.cellN (us := [_, _]) ts51 rfl (Cells.box (id := 0) rfl 2 rfl)) .nil) [] [] trivial (by decide) ⟨rfl, rfl⟩

set_option maxHeartbeats 4000000 in
set_option maxRecDepth 20000 in
theorem c_i_Table_find_1 (fl : Nat) (w : World) (a0 : F) (qc0 : Nat) (ac0 : K) (hbac0 : RO w (hkeys []) (fun w' => w'.rangeAt qc0 0 [.int .i64 ac0.s, .int .i64 ac0.p])) (r : Bool) (H0 : i_Table_find_1 fl a0 ac0 = some r) :
    Ct Tryz.prog 175 [.agg #[.bool a0.u, .int .i64 a0.k.s, .int .i64 a0.k.p, .int .i64 a0.r, .int .i64 a0.nx], .pointer (some ⟨qc0, 0, none⟩)] w [] (fun rv h' => rv = .bool r ∧ h' = []) := by
  unfold i_Table_find_1 at H0
  refine ct_of_cw Tryz.func175 rfl Tryz.ntmps175 rfl (Sat.refl _ _) ?_
  refine sr (oE (stpU_box 0 rfl rfl) rfl ?_)
  rintro _ _ ⟨b1, rfl, rfl⟩
  obtain ⟨y2, ey2, H0⟩ := bind_some H0
  refine oD (sg rfl) rfl (nn (sr (oD (fA 0 Tryz.underlying127 rfl ts4 rfl rfl rfl) rfl (oD (lB 0 ts4 rfl rfl rfl) rfl (oD (mv rfl) rfl (ow_cutY 5 11 y2 ?_ ?_))))))
  · rcases Bool.eq_false_or_eq_true a0.u with hy2 | hy2
    · have ey2 := cond_t ey2 hy2
      refine oG rfl hy2 (fA 1 Tryz.underlying127 rfl ts51 rfl rfl rfl) rfl (oG rfl hy2 (stp_loadN (us := [_, _]) ts51 rfl (Cells.box (id := 0) rfl 2 rfl)) rfl (oG rfl hy2 (stp_loadN (us := [_, _]) ts51 rfl (Cells.ofRO hbac0 2 rfl)) rfl (oG rfl hy2 (stp_eqlS te51 a0.k ac0 rfl rfl) rfl (oD (stp_pick_t rfl hy2 rfl) rfl ?_))))
      obtain rfl := Option.some.inj ey2
      exact ow_nil (jy 5 0)
    · have ey2 := cond_f ey2 hy2
      refine oO rfl hy2 rfl (oO rfl hy2 rfl (oO rfl hy2 rfl (oO rfl hy2 rfl (oD (stp_pick_f rfl hy2 rfl) rfl ?_))))
      obtain rfl := Option.some.inj ey2
      exact ow_nil (jy 5 0)
  · refine oD (sg rfl) rfl (nn (cw_ret ?_))
    have q0 := Option.some.inj H0
    subst q0
    exact kw_ret Tryz.results175 (.cons (.tmp rfl) .nil) [] [] trivial (by decide) ⟨rfl, rfl⟩

set_option maxHeartbeats 4000000 in
set_option maxRecDepth 20000 in
theorem c_slices_IndexFunc_Frame_of_i_Table_find_1 (fl : Nat) (w : World) (a0 : (List F)) (p0_0 : Option Addr) (n0_0 c0_0 : Nat) (q1_0 : Nat) (a1_0 : K) (hn0_0 : n0_0 = (a0).length) (hr0_0 : RO w (hkeys []) (RdL p0_0 c0_0 a0)) (hba1_0 : RO w (hkeys []) (fun w' => w'.rangeAt q1_0 0 [.int .i64 a1_0.s, .int .i64 a1_0.p])) (r : Int) (H0 : slices_IndexFunc_Frame_of_i_Table_find_1 fl a0 a1_0 = some r) :
    Ct Tryz.prog 174 [.slice p0_0 n0_0 c0_0, .func (.func 175) #[] #[.pointer (some ⟨q1_0, 0, none⟩)]] w [] (fun rv h' => rv = .int .i64 r ∧ h' = []) := by
  obtain rfl := hn0_0
  unfold slices_IndexFunc_Frame_of_i_Table_find_1 at H0
  refine ct_of_cw Tryz.func174 rfl Tryz.ntmps174 rfl (Sat.refl _ _) ?_
  obtain ⟨o0_0, eo0_0, H0⟩ := bind_some H0
  refine sr (oD (sg rfl) rfl (nn (cw_seq (sr (oD (mv rfl) rfl (oD (stp_len Tryz.underlying37 rfl) rfl (oD (mv rfl) rfl (nn (cw_join (ι := Int) (fun | v1 => o0_0 = .out v1) (fun | v1 => [(0, .slice p0_0 ((a0).length) c0_0), (1, .func (.func 175) #[] #[.pointer (some ⟨q1_0, 0, none⟩)]), (7, .int .i64 ((a0).length : Int)), (8, .int .i64 v1)]) (fun | v1 => []) ?_ ?_)))))))))
  · refine cw_block (cw_loopS (ι := Nat × Int) (js := []) (fun x => x.1) (fun | (fuel, v1) => slices_IndexFunc_Frame_of_i_Table_find_1_L0 fl a0 a1_0 fuel v1 = some o0_0) (fun | (_, v1) => [(0, .slice p0_0 ((a0).length) c0_0), (1, .func (.func 175) #[] #[.pointer (some ⟨q1_0, 0, none⟩)]), (7, .int .i64 ((a0).length : Int)), (8, .int .i64 v1)]) (fun | (_, v1) => []) (fl, 0) eo0_0 ⟨rfl, rfl, rfl, rfl, trivial⟩ trivial (by decide) ?_)
    rintro ⟨fuel, v1⟩ H1
    have H1 : slices_IndexFunc_Frame_of_i_Table_find_1_L0 fl a0 a1_0 fuel v1 = some o0_0 := H1
    rcases fuel with _ | fuel
    · rw [slices_IndexFunc_Frame_of_i_Table_find_1_L0.eq_1] at H1; cases H1
    rw [slices_IndexFunc_Frame_of_i_Table_find_1_L0.eq_2] at H1
    refine CW.sub (s' := [(0, .slice p0_0 ((a0).length) c0_0), (1, .func (.func 175) #[] #[.pointer (some ⟨q1_0, 0, none⟩)]), (7, .int .i64 ((a0).length : Int)), (8, .int .i64 v1)]) (h' := []) ?_ ⟨rfl, rfl, rfl, rfl, trivial⟩ trivial
    refine sr (oD (stp_lss rfl rfl) rfl (nn (cw_seq (cw_cond rfl (fun h2 => ?_) (fun h2 => ?_)))))
    · have H1 := cond_t H1 h2
      obtain ⟨x3, e3, H1⟩ := bind_some H1
      refine cw_skip (kw_nx (cw_seq (cw_block (sr (oD (mv rfl) rfl (oD (sg rfl) rfl (nn (sr (oD (mv rfl) rfl (oD (mv rfl) rfl (oD (mv rfl) rfl (oD (stp_indexAddr Tryz.underlying37 ts127 (by decide) rfl rfl rfl (Rdb.ro hr0_0) e3) rfl (oD (stp_loadN (us := [_, _, _, _, _]) ts127 rfl (Cells.el (Rdb.ro hr0_0) (by decide) e3 0 5 rfl)) rfl ?_)))))))))))))
      obtain ⟨x4, e4, H1⟩ := bind_some H1
      refine oE (stpU_callF (vals := [_]) (ca := [_]) (fun i => 0 + i) cf175 (fun w hw => c_i_Table_find_1 fl w x3 q1_0 a1_0 (RO.pass hba1_0 hw) x4 e4) rfl (sevs_cons rfl sevs_nil)) rfl ?_
      rintro _ _ ⟨_, ⟨rfl, rfl⟩, rfl⟩
      refine nn (cw_cond rfl (fun h5 => ?_) (fun h5 => ?_))
      · have H1 := cond_t H1 h5
        refine sr (oD (mv rfl) rfl (oD (sg rfl) rfl (nn (cw_ret (kw_bl_ret (kw_nx_ret (kw_lq_ret (kw_bl_ret (kw_join_ret (kw_nx_ret ?_))))))))))
        have q1 := Option.some.inj H1
        subst q1
        have q0 := Option.some.inj H0
        subst q0
        exact kw_ret Tryz.results174 (.cons (.tmp rfl) .nil) [] [] trivial (by decide) ⟨rfl, rfl⟩
      · have H1 := cond_f H1 h5
        obtain ⟨x6, e6, H1⟩ := bind_some H1
        exact cw_skip (kw_bl_normal (kw_nx (cw_region (oD (stp_add rfl rfl e6) rfl (oD (mv rfl) rfl (ow_nil (kw_lqS (js := []) (fuel, x6) H1 (Nat.lt_succ_self _) ⟨rfl, rfl, rfl, rfl, trivial⟩ trivial (by decide))))))))
    · have H1 := cond_f H1 h2
      refine cw_exit (kw_nx_exit (kw_lq_exit (kw_bl ?_)))
      have q1 := Option.some.inj H1
      subst q1
      exact kw_joinS (js := []) v1 rfl ⟨rfl, rfl, rfl, rfl, trivial⟩ trivial (by decide)
  · rintro v1 rfl
    refine KW.sub (s' := [(0, .slice p0_0 ((a0).length) c0_0), (1, .func (.func 175) #[] #[.pointer (some ⟨q1_0, 0, none⟩)]), (7, .int .i64 ((a0).length : Int)), (8, .int .i64 v1)]) (h' := []) ?_ ⟨rfl, rfl, rfl, rfl, trivial⟩ trivial
    refine kw_nx (sr (oD (sg rfl) rfl (nn (cw_ret ?_))))
    have q0 := Option.some.inj H0
    subst q0
    exact kw_ret Tryz.results174 (.cons (.tmp rfl) .nil) [] [] trivial (by decide) ⟨rfl, rfl⟩

set_option maxHeartbeats 4000000 in
set_option maxRecDepth 20000 in
theorem c_i_Table_find (fl : Nat) (w : World) (a0 : T) (p0_0 : Option Addr) (n0_0 c0_0 : Nat) (p0_1 : Option Addr) (n0_1 c0_1 : Nat) (a1 : K) (hn0_0 : n0_0 = (a0.b).length) (hr0_0 : RO w (hkeys []) (RdL p0_0 c0_0 a0.b)) (hn0_1 : n0_1 = (a0.f).length) (hr0_1 : RO w (hkeys []) (RdL p0_1 c0_1 a0.f)) (r : Int) (H0 : i_Table_find fl a0 a1 = some r) :
    Ct Tryz.prog 94 [.agg #[.slice p0_0 n0_0 c0_0, .slice p0_1 n0_1 c0_1], .agg #[.int .i64 a1.s, .int .i64 a1.p]] w [] (fun rv h' => rv = .int .i64 r ∧ h' = []) := by
  obtain rfl := hn0_0
  obtain rfl := hn0_1
  unfold i_Table_find at H0
  refine ct_of_cw Tryz.func94 rfl Tryz.ntmps94 rfl (Sat.refl _ _) ?_
  refine sr (oE (stpU_box 0 rfl rfl) rfl ?_)
  rintro _ _ ⟨b1, rfl, rfl⟩
  refine oE (stpU_box 1 rfl rfl) rfl ?_
  rintro _ _ ⟨b2, rfl, rfl⟩
  obtain ⟨x3, e3, H0⟩ := bind_some H0
  refine oD (sg rfl) rfl (nn (sr (oD (fA 1 Tryz.underlying39 rfl ts37 rfl rfl rfl) rfl (oD (lB 0 ts37 rfl rfl rfl) rfl (oD (stp_makeFunc (sevs_cons rfl sevs_nil)) rfl (oE (stpU_call (fun i => 2 + i) cf174 (fun w hw => c_slices_IndexFunc_Frame_of_i_Table_find_1 fl w a0.f p0_1 ((a0.f).length) c0_1 b2 a1 rfl (RO.pass hr0_1 hw) (box_pass (id := 1) rfl hw) x3 e3) (sevs_cons rfl (sevs_cons rfl sevs_nil))) rfl ?_))))))
  rintro _ _ ⟨_, ⟨rfl, rfl⟩, rfl⟩
  refine oD (sg rfl) rfl (nn (cw_ret ?_))
  have q0 := Option.some.inj H0
  subst q0
  exact kw_ret Tryz.results94 (.cons (.tmp rfl) .nil) [] [] trivial (by decide) ⟨rfl, rfl⟩
end Go.Proofs.YtbgodaeccgjdgaaGreatDoor
