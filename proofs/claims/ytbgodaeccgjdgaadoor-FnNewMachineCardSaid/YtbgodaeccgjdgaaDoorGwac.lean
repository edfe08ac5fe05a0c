/- The walks: functions of the program return what their pure functions say. Printed by a program (gen.py). -/
import Derived.Test.YtbgodaeccgjdgaaDoorGp
import Derived.Test.YtbgodaeccgjdgaaDoorGt
import Derived.Test.YtbgodaeccgjdgaaDoorMan
import Derived.Test.YtbgodaeccgjdgaaDoorMap
import Derived.Test.YtbgodaeccgjdgaaDoorCpy
import Derived.Test.YtbgodaeccgjdgaaDoorGwaa
import Derived.Test.YtbgodaeccgjdgaaDoorGwab
set_option linter.unusedSimpArgs false
set_option linter.unusedVariables false
set_option linter.unusedSectionVars false
namespace Go.Proofs.YtbgodaeccgjdgaaDoor
open Go.RowKit
set_option maxHeartbeats 4000000 in
set_option maxRecDepth 20000 in
theorem c_i_TouchPage (fl : Nat) (w : World) (a0 : Mc) (p0_0 : Option Addr) (n0_0 c0_0 : Nat) (p0_1 : Option Addr) (n0_1 c0_1 : Nat) (p0_2 : Option Addr) (n0_2 c0_2 : Nat) (p0_3 : Option Addr) (n0_3 c0_3 : Nat) (a1 : Int) (a2 : Int) (hn0_0 : n0_0 = (a0.t.b).length) (hr0_0 : RO w (hkeys []) (RdL p0_0 c0_0 a0.t.b)) (hn0_1 : n0_1 = (a0.t.f).length) (hr0_1 : RO w (hkeys []) (RdL p0_1 c0_1 a0.t.f)) (hn0_2 : n0_2 = (a0.c.l).length) (hr0_2 : RO w (hkeys []) (RdL p0_2 c0_2 a0.c.l)) (hn0_3 : n0_3 = (a0.g.o).length) (hr0_3 : RO w (hkeys []) (RdL p0_3 c0_3 a0.g.o)) (hg : RO w (hkeys []) (fun w' => w'.rangeAt 0 0 [.bool false, .int .i64 0, .int .i64 0, .int .i64 0, .int .i64 (-1)])) (r : Mc × Int × Int × Bool) (H0 : i_TouchPage fl a0 a1 a2 = some r) :
    Ct Tryd.prog 8 [.agg #[.slice p0_0 n0_0 c0_0, .slice p0_1 n0_1 c0_1, .slice p0_2 n0_2 c0_2, .int .i64 a0.c.h, .int .i64 a0.g.c, .int .i64 a0.g.n, .int .i64 a0.g.r, .slice p0_3 n0_3 c0_3, .int .i64 a0.s], .int .i64 a1, .int .i64 a2] w [] (fun rv h' => ∃ (x0 : Option Addr) (y0 z0 : Nat) (C0 : Res) (x1 : Option Addr) (y1 z1 : Nat) (C1 : Res) (x2 : Option Addr) (y2 z2 : Nat) (C2 : Res) (x3 : Option Addr) (y3 z3 : Nat) (C3 : Res), rv = .tuple #[.agg #[.slice x0 y0 z0, .slice x1 y1 z1, .slice x2 y2 z2, .int .i64 r.1.c.h, .int .i64 r.1.g.c, .int .i64 r.1.g.n, .int .i64 r.1.g.r, .slice x3 y3 z3, .int .i64 r.1.s], .int .i64 r.2.1, .int .i64 r.2.2.1, .bool r.2.2.2] ∧ h' = [(0, C0), (1, C1), (2, C2), (3, C3)] ∧ y0 = (r.1.t.b).length ∧ OwnC 3 x0 z0 r.1.t.b C0 ∧ y1 = (r.1.t.f).length ∧ OwnC 71 x1 z1 r.1.t.f C1 ∧ y2 = (r.1.c.l).length ∧ OwnC 65 x2 z2 r.1.c.l C2 ∧ y3 = (r.1.g.o).length ∧ OwnC 85 x3 z3 r.1.g.o C3) := by
  obtain rfl := hn0_0
  obtain rfl := hn0_1
  obtain rfl := hn0_2
  obtain rfl := hn0_3
  unfold i_TouchPage at H0
  refine ct_of_cw Tryd.func8 rfl Tryd.ntmps8 rfl (Sat.refl _ _) ?_
  refine sr (oE (stpU_box 0 rfl rfl) rfl ?_)
  rintro _ _ ⟨b1, rfl, rfl⟩
  refine oE (stpU_alloc 1 tz36 rfl) rfl ?_
  rintro _ _ ⟨b2, rfl, rfl⟩
  obtain ⟨x3, e3, H0⟩ := bind_some H0
  refine oD (sg rfl) rfl (oD (sg rfl) rfl (oD (sg rfl) rfl (nn (cw_seq (sr (oD (stp_loadN (us := [_, _, _, _, _, _, _, _, _]) ts36 rfl (Cells.box (id := 0) rfl 9 rfl)) rfl (oE (stpU_call (fun i => 2 + i) cf9 (fun w hw => c_i_MachineValid fl w a0 p0_0 ((a0.t.b).length) c0_0 p0_1 ((a0.t.f).length) c0_1 p0_2 ((a0.c.l).length) c0_2 p0_3 ((a0.g.o).length) c0_3 rfl (RO.pass hr0_0 hw) rfl (RO.pass hr0_1 hw) rfl (RO.pass hr0_2 hw) rfl (RO.pass hr0_3 hw) (RO.pass hg hw) x3 e3) (sevs_cons rfl sevs_nil)) rfl ?_)))))))
  rintro _ _ ⟨_, ⟨rfl, rfl⟩, rfl⟩
  obtain ⟨y4, ey4, H0⟩ := bind_some H0
  refine oD (stp_not rfl) rfl (oD (mv rfl) rfl (ow_cutY 4 27 y4 ?_ ?_))
  · rcases Bool.eq_false_or_eq_true (!x3) with hy4 | hy4
    · have ey4 := cond_t ey4 hy4
      refine oO rfl hy4 rfl (oO rfl hy4 rfl (oO rfl hy4 rfl (oD (stp_pick_t rfl hy4 rfl) rfl ?_)))
      obtain rfl := Option.some.inj ey4
      exact ow_nil (jy 4 0)
    · have ey4 := cond_f ey4 hy4
      obtain ⟨x5, e5, ey4⟩ := bind_some ey4
      refine oG rfl hy4 (mv rfl) rfl (ow_eff (.some rfl hy4) (stpU_call (fun i => 2 + i) cf23 (fun w hw => c_i_within fl w a1 256 x5 e5) (sevs_cons rfl (sevs_cons rfl sevs_nil))) rfl ?_)
      rintro _ _ ⟨_, ⟨rfl, rfl⟩, rfl⟩
      refine oG rfl hy4 (stp_not rfl) rfl (oD (stp_pick_f rfl hy4 rfl) rfl ?_)
      obtain rfl := Option.some.inj ey4
      exact ow_nil (jy 4 0)
  · obtain ⟨y6, ey6, H0⟩ := bind_some H0
    refine oD (mv rfl) rfl (ow_cutY 4 32 y6 ?_ ?_)
    · rcases Bool.eq_false_or_eq_true y4 with hy6 | hy6
      · have ey6 := cond_t ey6 hy6
        refine oO rfl hy6 rfl (oO rfl hy6 rfl (oO rfl hy6 rfl (oD (stp_pick_t rfl hy6 rfl) rfl ?_)))
        obtain rfl := Option.some.inj ey6
        exact ow_nil (jy 4 0)
      · have ey6 := cond_f ey6 hy6
        obtain ⟨x7, e7, ey6⟩ := bind_some ey6
        refine oG rfl hy6 (mv rfl) rfl (ow_eff (.some rfl hy6) (stpU_call (fun i => 2 + i) cf24 (fun w hw => c_i_RightsValid fl w a2 x7 e7) (sevs_cons rfl sevs_nil)) rfl ?_)
        rintro _ _ ⟨_, ⟨rfl, rfl⟩, rfl⟩
        refine oG rfl hy6 (stp_not rfl) rfl (oD (stp_pick_f rfl hy6 rfl) rfl ?_)
        obtain rfl := Option.some.inj ey6
        exact ow_nil (jy 4 0)
    · refine ow_nil (kw_nx (cw_cond rfl (fun h8 => ?_) (fun h8 => ?_)))
      · have H0 := cond_t H0 h8
        refine sr (oD (stp_build (cs := #[.slice none 0 0, .slice none 0 0, .slice none 0 0, .int .i64 0, .int .i64 0, .int .i64 0, .int .i64 0, .slice none 0 0, .int .i64 0]) sevp_nil bt36_6) rfl (oF (stpU_store (id := 1) (cs' := [.slice none 0 0, .slice none 0 0, .slice none 0 0, .int .i64 0, .int .i64 0, .int .i64 0, .int .i64 0, .slice none 0 0, .int .i64 0]) ts36 rfl rfl rfl rfl rfl rfl rfl) ?_))
        rintro _ _ rfl
        refine oD (sg rfl) rfl (oD (sg rfl) rfl (oD (sg rfl) rfl (nn (cw_ret (kw_nx_ret (kw_addNil 2 (kw_addNil 3 (kw_addNil 4 (kw_addNil 5 ?_)))))))))
        have q0 := Option.some.inj H0
        subst q0
        exact kw_ret Tryd.results8 (.cons (.cellN (us := [_, _, _, _, _, _, _, _, _]) ts36 rfl (Cells.box (id := 1) rfl 9 rfl)) (.cons (.tmp rfl) (.cons (.tmp rfl) (.cons (.tmp rfl) .nil)))) [(0, []), (1, []), (2, []), (3, [])] [2, 3, 4, 5] ⟨2, [3, 4, 5], rfl, rfl, 3, [4, 5], rfl, rfl, 4, [5], rfl, rfl, 5, [], rfl, rfl, trivial⟩ (by decide) ⟨none, 0, 0, [], none, 0, 0, [], none, 0, 0, [], none, 0, 0, [], rfl, rfl, rfl, (OwnC.nil _ _), rfl, (OwnC.nil _ _), rfl, (OwnC.nil _ _), rfl, (OwnC.nil _ _)⟩
      · have H0 := cond_f H0 h8
        obtain ⟨x9, e9, H0⟩ := bind_some H0
        refine cw_skip (kw_nx (sr (oD (stp_loadN (us := [_, _, _, _, _, _, _, _, _]) ts36 rfl (Cells.box (id := 0) rfl 9 rfl)) rfl (oE (stpU_call (fun i => 6 + i) cf25 (fun w hw => c_i_Machine_clone fl w a0 p0_0 ((a0.t.b).length) c0_0 p0_1 ((a0.t.f).length) c0_1 p0_2 ((a0.c.l).length) c0_2 p0_3 ((a0.g.o).length) c0_3 rfl (RO.pass hr0_0 hw) rfl (RO.pass hr0_1 hw) rfl (RO.pass hr0_2 hw) rfl (RO.pass hr0_3 hw) x9 e9) (sevs_cons rfl sevs_nil)) rfl ?_))))
        rintro _ _ ⟨_, ⟨p10, n11, c12, C13, p14, n15, c16, C17, p18, n19, c20, C21, p22, n23, c24, C25, rfl, rfl, hnn11, o13, hnn15, o17, hnn19, o21, hnn23, o25⟩, rfl⟩
        obtain rfl := hnn11
        obtain rfl := hnn15
        obtain rfl := hnn19
        obtain rfl := hnn23
        refine oE (stpU_alloc 10 tz36 rfl) rfl ?_
        rintro _ _ ⟨b26, rfl, rfl⟩
        refine oF (stpU_store (id := 10) (cs' := [.slice p10 ((x9.t.b).length) c12, .slice p14 ((x9.t.f).length) c16, .slice p18 ((x9.c.l).length) c20, .int .i64 x9.c.h, .int .i64 x9.g.c, .int .i64 x9.g.n, .int .i64 x9.g.r, .slice p22 ((x9.g.o).length) c24, .int .i64 x9.s]) ts36 rfl rfl rfl rfl rfl rfl rfl) ?_
        rintro _ _ rfl
        obtain ⟨x27, e27, H0⟩ := bind_some H0
        refine nn (sr (oD (stp_loadN (us := [_, _, _, _, _, _, _, _, _]) ts36 rfl (Cells.box (id := 0) rfl 9 rfl)) rfl (oD (fA 8 Tryd.underlying36 rfl ts3 rfl rfl rfl) rfl (oD (lB 0 ts3 rfl rfl rfl) rfl (oD (mv rfl) rfl (oE (stpU_call (fun i => 11 + i) cf26 (fun w hw => c_i_Machine_tagFor fl w a0 p0_0 ((a0.t.b).length) c0_0 p0_1 ((a0.t.f).length) c0_1 p0_2 ((a0.c.l).length) c0_2 p0_3 ((a0.g.o).length) c0_3 a0.s a1 rfl (RO.pass hr0_0 hw) rfl (RO.pass hr0_1 hw) rfl (RO.pass hr0_2 hw) rfl (RO.pass hr0_3 hw) x27 e27) (sevs_cons rfl (sevs_cons rfl (sevs_cons rfl sevs_nil)))) rfl ?_))))))
        rintro _ _ ⟨_, ⟨rfl, rfl⟩, rfl⟩
        refine oD (mv rfl) rfl (oD (stp_extract rfl rfl) rfl (oD (stp_extract rfl rfl) rfl (oD (sg rfl) rfl (oD (sg rfl) rfl (nn (sr (oD (sg rfl) rfl (oD (sg rfl) rfl (oD (sg rfl) rfl (nn (cw_seq (sr (oD (fA 2 Tryd.underlying36 rfl ts31 rfl rfl rfl) rfl ?_)))))))))))))
        obtain ⟨x28, e28, H0⟩ := bind_some H0
        refine oD (stp_loadN (us := [_, _]) ts31 rfl (Cells.box (id := 0) rfl 2 rfl)) rfl (oD (mv rfl) rfl (oD (mv rfl) rfl (oE (stpU_call (fun i => 11 + i) cf27 (fun w hw => c_i_Cache_place fl w a0.c p0_2 ((a0.c.l).length) c0_2 x27.1 a1 rfl (RO.pass hr0_2 hw) x28 e28) (sevs_cons rfl (sevs_cons rfl (sevs_cons rfl sevs_nil)))) rfl ?_)))
        rintro _ _ ⟨_, ⟨rfl, rfl⟩, rfl⟩
        refine oD (sg rfl) rfl (nn (sr (oD (mv rfl) rfl (oD (stp_geq rfl rfl) rfl (nn (cw_cond rfl (fun h29 => ?_) (fun h29 => ?_)))))))
        · have H0 := cond_t H0 h29
          obtain ⟨x30, e30, H0⟩ := bind_some H0
          refine rdr g_mixed [3, 16] [0] { dst := dS [52, 53, 54, 55, 56, 57, 58, 59, 60, 61, 62, 63, 64, 65, 15, 16], pre := gA [] [[], [0], [0, 1], [], rn 0 4, rn 0 5, rn 0 6, [], [7], [7, 8], [], rn 7 4, rn 7 5, rn 7 6, rn 0 7, rn 0 15], ids := fun _ => [], rs := rL [[(3, 0)], [(51, 1)], [(52, 2)], [(16, 0)], [(53, 3), (54, 4)], [(55, 5)], [(56, 6)], [(3, 0)], [(58, 8)], [(59, 9)], [(16, 0)], [(60, 10), (61, 11)], [(62, 12)], [(63, 13)], [(57, 7)], [(64, 14)]], rh := rL [[], [], [(0, 0)], [], [], [], [], [], [], [(0, 0)]], V := fun i g => gA undef [.pointer (some ⟨b1, 2, none⟩), .pointer (some ⟨b1, 2, none⟩), .slice p0_2 ((a0.c.l).length) c0_2, .int .i64 x28, .pointer (some ⟨eB p0_2, eO p0_2 + Int.toNat x28 * Enc.sz Ln + 0, none⟩), .pointer (some ⟨eB p0_2, eO p0_2 + Int.toNat x28 * Enc.sz Ln + 3, none⟩), .int .i64 x30.fr, .pointer (some ⟨b1, 2, none⟩), .pointer (some ⟨b1, 2, none⟩), .slice p0_2 ((a0.c.l).length) c0_2, .int .i64 x28, .pointer (some ⟨eB p0_2, eO p0_2 + Int.toNat x28 * Enc.sz Ln + 0, none⟩), .pointer (some ⟨eB p0_2, eO p0_2 + Int.toNat x28 * Enc.sz Ln + 4, none⟩), .int .i64 x30.ri, .int .i64 x30.fr, .int .i64 x30.ri] i, U := fun _ _ => [], Φ := fun _ _ => True } ?_ ?_
          · exact ⟨⟨⟨⟨⟨⟨⟨⟨⟨⟨⟨⟨⟨⟨⟨⟨trivial, lc rfl rfl fun hs hh => stp_fieldAddr (j := 2) Tryd.underlying36 rfl ts31 rfl (sv hs 3 rfl) rfl⟩, lc rfl rfl fun hs hh => stp_fieldAddr (j := 0) Tryd.underlying31 rfl ts29 rfl (sv hs 51 rfl) rfl⟩, lc rfl rfl fun hs hh => stp_load1 ts29 (sv hs 52 rfl) (Cells.box (id := 0) (hh.get 0 _ rfl) 1 rfl)⟩, lc rfl rfl fun hs hh => stp_move (sv hs 16 rfl)⟩, lc rfl rfl fun hs hh => stp_indexAddr Tryd.underlying29 ts65 (by decide) (sv hs 53 rfl) rfl (sv hs 54 rfl) (Rdb.ro hr0_2) e30⟩, lc rfl rfl fun hs hh => stp_fieldAddr (j := 3) Tryd.underlying65 rfl ts3 rfl (sv hs 55 rfl) rfl⟩, lc rfl rfl fun hs hh => stp_load1 ts3 (sv hs 56 rfl) (Cells.el (Rdb.ro hr0_2) (by decide) e30 3 1 rfl)⟩, lc rfl rfl fun hs hh => stp_fieldAddr (j := 2) Tryd.underlying36 rfl ts31 rfl (sv hs 3 rfl) rfl⟩, lc rfl rfl fun hs hh => stp_fieldAddr (j := 0) Tryd.underlying31 rfl ts29 rfl (sv hs 58 rfl) rfl⟩, lc rfl rfl fun hs hh => stp_load1 ts29 (sv hs 59 rfl) (Cells.box (id := 0) (hh.get 0 _ rfl) 1 rfl)⟩, lc rfl rfl fun hs hh => stp_move (sv hs 16 rfl)⟩, lc rfl rfl fun hs hh => stp_indexAddr Tryd.underlying29 ts65 (by decide) (sv hs 60 rfl) rfl (sv hs 61 rfl) (Rdb.ro hr0_2) e30⟩, lc rfl rfl fun hs hh => stp_fieldAddr (j := 4) Tryd.underlying65 rfl ts3 rfl (sv hs 62 rfl) rfl⟩, lc rfl rfl fun hs hh => stp_load1 ts3 (sv hs 63 rfl) (Cells.el (Rdb.ro hr0_2) (by decide) e30 4 1 rfl)⟩, lc rfl rfl fun hs hh => stp_assign (sv hs 57 rfl)⟩, lc rfl rfl fun hs hh => stp_assign (sv hs 64 rfl)⟩
          · intro g hΦ
            refine KW.sub (s' := [(2, .int .i64 a2), (6, .pointer (some ⟨b2, 0, none⟩)), (10, .pointer (some ⟨b26, 0, none⟩)), (13, .int .i64 1), (14, .int .i64 x30.fr), (15, .int .i64 x30.ri)]) (h' := [(1, [(b2, .cells #[.slice none 0 0, .slice none 0 0, .slice none 0 0, .int .i64 0, .int .i64 0, .int .i64 0, .int .i64 0, .slice none 0 0, .int .i64 0] 36 (0, 0))]), (6, C13), (7, C17), (8, C21), (9, C25), (10, [(b26, .cells #[.slice p10 ((x9.t.b).length) c12, .slice p14 ((x9.t.f).length) c16, .slice p18 ((x9.c.l).length) c20, .int .i64 x9.c.h, .int .i64 x9.g.c, .int .i64 x9.g.n, .int .i64 x9.g.r, .slice p22 ((x9.g.o).length) c24, .int .i64 x9.s] 36 (0, 0))])]) ?_ ⟨rfl, rfl, rfl, rfl, rfl, rfl, trivial⟩ ⟨rfl, rfl, rfl, rfl, rfl, rfl, trivial⟩
            obtain ⟨x31, e31, H0⟩ := bind_some H0
            refine kw_nx (cw_seq (sr (oD (mv rfl) rfl (oD (mv rfl) rfl (oE (stpU_call (fun i => 11 + i) cf31 (fun w hw => c_i_Allows fl w x30.ri a2 x31 e31) (sevs_cons rfl (sevs_cons rfl sevs_nil))) rfl ?_)))))
            rintro _ _ ⟨_, ⟨rfl, rfl⟩, rfl⟩
            refine oD (stp_not rfl) rfl (nn (cw_cond rfl (fun h32 => ?_) (fun h32 => ?_)))
            · have H0 := cond_t H0 h32
              refine cw_region (oD (sg rfl) rfl (nn (sr (oD (stp_loadN (us := [_, _, _, _, _, _, _, _, _]) ts36 rfl (Cells.box (id := 10) rfl 9 rfl)) rfl (oD (mv rfl) rfl (oD (mv rfl) rfl (oF (stpU_store (id := 1) (cs' := [.slice p10 ((x9.t.b).length) c12, .slice p14 ((x9.t.f).length) c16, .slice p18 ((x9.c.l).length) c20, .int .i64 x9.c.h, .int .i64 x9.g.c, .int .i64 x9.g.n, .int .i64 x9.g.r, .slice p22 ((x9.g.o).length) c24, .int .i64 x9.s]) ts36 rfl rfl rfl rfl rfl rfl rfl) ?_)))))))
              rintro _ _ rfl
              refine oD (sg rfl) rfl (oD (sg rfl) rfl (oD (sg rfl) rfl (nn (cw_ret ?_))))
              have q0 := Option.some.inj H0
              subst q0
              exact kw_ret Tryd.results8 (.cons (.cellN (us := [_, _, _, _, _, _, _, _, _]) ts36 rfl (Cells.box (id := 1) rfl 9 rfl)) (.cons (.tmp rfl) (.cons (.tmp rfl) (.cons (.tmp rfl) .nil)))) [(0, C13), (1, C17), (2, C21), (3, C25)] [6, 7, 8, 9] ⟨6, [7, 8, 9], rfl, rfl, 7, [8, 9], rfl, rfl, 8, [9], rfl, rfl, 9, [], rfl, rfl, trivial⟩ (by decide) ⟨p10, ((x9.t.b).length), c12, C13, p14, ((x9.t.f).length), c16, C17, p18, ((x9.c.l).length), c20, C21, p22, ((x9.g.o).length), c24, C25, rfl, rfl, rfl, o13, rfl, o17, rfl, o21, rfl, o25⟩
            · have H0 := cond_f H0 h32
              refine cw_skip (kw_nx (sr (oD (stp_loadN (us := [_, _, _, _, _, _, _, _, _]) ts36 rfl (Cells.box (id := 10) rfl 9 rfl)) rfl (oD (mv rfl) rfl (oD (mv rfl) rfl (oF (stpU_store (id := 1) (cs' := [.slice p10 ((x9.t.b).length) c12, .slice p14 ((x9.t.f).length) c16, .slice p18 ((x9.c.l).length) c20, .int .i64 x9.c.h, .int .i64 x9.g.c, .int .i64 x9.g.n, .int .i64 x9.g.r, .slice p22 ((x9.g.o).length) c24, .int .i64 x9.s]) ts36 rfl rfl rfl rfl rfl rfl rfl) ?_))))))
              rintro _ _ rfl
              refine oD (sg rfl) rfl (oD (sg rfl) rfl (oD (sg rfl) rfl (nn (cw_ret ?_))))
              have q0 := Option.some.inj H0
              subst q0
              exact kw_ret Tryd.results8 (.cons (.cellN (us := [_, _, _, _, _, _, _, _, _]) ts36 rfl (Cells.box (id := 1) rfl 9 rfl)) (.cons (.tmp rfl) (.cons (.tmp rfl) (.cons (.tmp rfl) .nil)))) [(0, C13), (1, C17), (2, C21), (3, C25)] [6, 7, 8, 9] ⟨6, [7, 8, 9], rfl, rfl, 7, [8, 9], rfl, rfl, 8, [9], rfl, rfl, 9, [], rfl, rfl, trivial⟩ (by decide) ⟨p10, ((x9.t.b).length), c12, C13, p14, ((x9.t.f).length), c16, C17, p18, ((x9.c.l).length), c20, C21, p22, ((x9.g.o).length), c24, C25, rfl, rfl, rfl, o13, rfl, o17, rfl, o21, rfl, o25⟩
        · have H0 := cond_f H0 h29
          obtain ⟨x33, e33, H0⟩ := bind_some H0
          obtain ⟨x34, e34, H0⟩ := bind_some H0
          refine cw_seq (rdr g_mixed [1, 3] [0] { dst := dS [66, 67, 68, 69, 70, 71, 72, 15], pre := gA [] [[], [0], [], [2], [], [2, 3, 4], rn 0 6, rn 0 7], ids := fun _ => [], rs := rL [[(3, 0)], [(65, 1)], [(3, 0)], [(67, 3)], [(1, 0)], [(68, 4), (69, 5)], [(66, 2), (70, 6)], [(71, 7)]], rh := rL [[], [(0, 0)], [], [(0, 0)]], V := fun i g => gA undef [.pointer (some ⟨b1, 0, none⟩), .agg #[.slice p0_0 ((a0.t.b).length) c0_0, .slice p0_1 ((a0.t.f).length) c0_1], .pointer (some ⟨b1, 8, none⟩), .int .i64 a0.s, .int .i64 a1, .agg #[.int .i64 x33.s, .int .i64 x33.p], .int .i64 x34, .int .i64 x34] i, U := fun _ _ => [], Φ := fun _ _ => True } ?_ ?_)
          · refine ⟨⟨⟨⟨⟨⟨⟨⟨trivial, lc rfl rfl fun hs hh => stp_fieldAddr (j := 0) Tryd.underlying36 rfl ts28 rfl (sv hs 3 rfl) rfl⟩, lc rfl rfl fun hs hh => stp_loadN (us := [_, _]) ts28 (sv hs 65 rfl) (Cells.box (id := 0) (hh.get 0 _ rfl) 2 rfl)⟩, lc rfl rfl fun hs hh => stp_fieldAddr (j := 8) Tryd.underlying36 rfl ts3 rfl (sv hs 3 rfl) rfl⟩, lc rfl rfl fun hs hh => stp_load1 ts3 (sv hs 67 rfl) (Cells.box (id := 0) (hh.get 0 _ rfl) 1 rfl)⟩, lc rfl rfl fun hs hh => stp_move (sv hs 1 rfl)⟩, ?_⟩, ?_⟩, lc rfl rfl fun hs hh => stp_assign (sv hs 71 rfl)⟩
            · refine le rfl rfl (fun g hΦ s h hs hh => (stpU_call (fun i => 11 + i) cf29 (fun w hw => c_i_KeyFor fl w a0.s a1 x33 e33) (sevs_cons (sv hs 68 rfl) (sevs_cons (sv hs 69 rfl) sevs_nil)))) ?_
              rintro g _ _ ⟨_, ⟨rfl, rfl⟩, rfl⟩
              exact ⟨⟨[], [], []⟩, trivial, .inr rfl, rfl⟩
            · refine le rfl rfl (fun g hΦ s h hs hh => (stpU_call (fun i => 11 + i) cf28 (fun w hw => c_i_Table_find fl w a0.t p0_0 ((a0.t.b).length) c0_0 p0_1 ((a0.t.f).length) c0_1 x33 rfl (RO.pass hr0_0 hw) rfl (RO.pass hr0_1 hw) x34 e34) (sevs_cons (sv hs 66 rfl) (sevs_cons (sv hs 70 rfl) sevs_nil)))) ?_
              rintro g _ _ ⟨_, ⟨rfl, rfl⟩, rfl⟩
              exact ⟨⟨[], [], []⟩, trivial, .inr rfl, rfl⟩
          · intro g hΦ
            refine KW.sub (s' := [(1, .int .i64 a1), (2, .int .i64 a2), (3, .pointer (some ⟨b1, 0, none⟩)), (6, .pointer (some ⟨b2, 0, none⟩)), (10, .pointer (some ⟨b26, 0, none⟩)), (11, .int .i64 x27.1), (14, .int .i64 x34)]) (h' := [(0, [(b1, .cells #[.slice p0_0 ((a0.t.b).length) c0_0, .slice p0_1 ((a0.t.f).length) c0_1, .slice p0_2 ((a0.c.l).length) c0_2, .int .i64 a0.c.h, .int .i64 a0.g.c, .int .i64 a0.g.n, .int .i64 a0.g.r, .slice p0_3 ((a0.g.o).length) c0_3, .int .i64 a0.s] 36 (0, 0))]), (1, [(b2, .cells #[.slice none 0 0, .slice none 0 0, .slice none 0 0, .int .i64 0, .int .i64 0, .int .i64 0, .int .i64 0, .slice none 0 0, .int .i64 0] 36 (0, 0))]), (6, C13), (7, C17), (8, C21), (9, C25), (10, [(b26, .cells #[.slice p10 ((x9.t.b).length) c12, .slice p14 ((x9.t.f).length) c16, .slice p18 ((x9.c.l).length) c20, .int .i64 x9.c.h, .int .i64 x9.g.c, .int .i64 x9.g.n, .int .i64 x9.g.r, .slice p22 ((x9.g.o).length) c24, .int .i64 x9.s] 36 (0, 0))])]) ?_ ⟨rfl, rfl, rfl, rfl, rfl, rfl, rfl, trivial⟩ ⟨rfl, rfl, rfl, rfl, rfl, rfl, rfl, trivial⟩
            refine kw_nx (cw_seq (sr (oD (mv rfl) rfl (oD (stp_lss rfl rfl) rfl (nn (cw_cond rfl (fun h35 => ?_) (fun h35 => ?_)))))))
            · have H0 := cond_t H0 h35
              refine sr (oD (stp_loadN (us := [_, _, _, _, _, _, _, _, _]) ts36 rfl (Cells.box (id := 10) rfl 9 rfl)) rfl (oF (stpU_store (id := 1) (cs' := [.slice p10 ((x9.t.b).length) c12, .slice p14 ((x9.t.f).length) c16, .slice p18 ((x9.c.l).length) c20, .int .i64 x9.c.h, .int .i64 x9.g.c, .int .i64 x9.g.n, .int .i64 x9.g.r, .slice p22 ((x9.g.o).length) c24, .int .i64 x9.s]) ts36 rfl rfl rfl rfl rfl rfl rfl) ?_))
              rintro _ _ rfl
              refine oD (sg rfl) rfl (oD (sg rfl) rfl (oD (sg rfl) rfl (nn (cw_ret (kw_nx_ret (kw_nx_ret ?_))))))
              have q0 := Option.some.inj H0
              subst q0
              exact kw_ret Tryd.results8 (.cons (.cellN (us := [_, _, _, _, _, _, _, _, _]) ts36 rfl (Cells.box (id := 1) rfl 9 rfl)) (.cons (.tmp rfl) (.cons (.tmp rfl) (.cons (.tmp rfl) .nil)))) [(0, C13), (1, C17), (2, C21), (3, C25)] [6, 7, 8, 9] ⟨6, [7, 8, 9], rfl, rfl, 7, [8, 9], rfl, rfl, 8, [9], rfl, rfl, 9, [], rfl, rfl, trivial⟩ (by decide) ⟨p10, ((x9.t.b).length), c12, C13, p14, ((x9.t.f).length), c16, C17, p18, ((x9.c.l).length), c20, C21, p22, ((x9.g.o).length), c24, C25, rfl, rfl, rfl, o13, rfl, o17, rfl, o21, rfl, o25⟩
            · have H0 := cond_f H0 h35
              obtain ⟨x36, e36, H0⟩ := bind_some H0
              refine cw_skip (kw_nx (cw_seq (rdr g_mixed [3, 14] [0] { dst := dS [76, 77, 78, 79, 80, 81, 82, 14, 16], pre := gA [] [[], [0], [0, 1], [], rn 0 4, rn 0 5, rn 0 6, [], rn 0 8], ids := fun _ => [], rs := rL [[(3, 0)], [(75, 1)], [(76, 2)], [(14, 0)], [(77, 3), (78, 4)], [(79, 5)], [(80, 6)], [], [(81, 7)]], rh := rL [[], [], [(0, 0)]], V := fun i g => gA undef [.pointer (some ⟨b1, 0, none⟩), .pointer (some ⟨b1, 1, none⟩), .slice p0_1 ((a0.t.f).length) c0_1, .int .i64 x34, .pointer (some ⟨eB p0_1, eO p0_1 + Int.toNat x34 * Enc.sz F + 0, none⟩), .pointer (some ⟨eB p0_1, eO p0_1 + Int.toNat x34 * Enc.sz F + 3, none⟩), .int .i64 x36.r, .int .i64 2, .int .i64 x36.r] i, U := fun _ _ => [], Φ := fun _ _ => True } ?_ ?_)))
              · exact ⟨⟨⟨⟨⟨⟨⟨⟨⟨trivial, lc rfl rfl fun hs hh => stp_fieldAddr (j := 0) Tryd.underlying36 rfl ts28 rfl (sv hs 3 rfl) rfl⟩, lc rfl rfl fun hs hh => stp_fieldAddr (j := 1) Tryd.underlying28 rfl ts26 rfl (sv hs 75 rfl) rfl⟩, lc rfl rfl fun hs hh => stp_load1 ts26 (sv hs 76 rfl) (Cells.box (id := 0) (hh.get 0 _ rfl) 1 rfl)⟩, lc rfl rfl fun hs hh => stp_move (sv hs 14 rfl)⟩, lc rfl rfl fun hs hh => stp_indexAddr Tryd.underlying26 ts71 (by decide) (sv hs 77 rfl) rfl (sv hs 78 rfl) (Rdb.ro hr0_1) e36⟩, lc rfl rfl fun hs hh => stp_fieldAddr (j := 3) Tryd.underlying71 rfl ts3 rfl (sv hs 79 rfl) rfl⟩, lc rfl rfl fun hs hh => stp_load1 ts3 (sv hs 80 rfl) (Cells.el (Rdb.ro hr0_1) (by decide) e36 3 1 rfl)⟩, lc rfl rfl fun hs hh => stp_assign rfl⟩, lc rfl rfl fun hs hh => stp_assign (sv hs 81 rfl)⟩
              · intro g hΦ
                refine KW.sub (s' := [(1, .int .i64 a1), (2, .int .i64 a2), (6, .pointer (some ⟨b2, 0, none⟩)), (10, .pointer (some ⟨b26, 0, none⟩)), (11, .int .i64 x27.1), (13, .int .i64 2), (14, .int .i64 x34), (15, .int .i64 x36.r)]) (h' := [(1, [(b2, .cells #[.slice none 0 0, .slice none 0 0, .slice none 0 0, .int .i64 0, .int .i64 0, .int .i64 0, .int .i64 0, .slice none 0 0, .int .i64 0] 36 (0, 0))]), (6, C13), (7, C17), (8, C21), (9, C25), (10, [(b26, .cells #[.slice p10 ((x9.t.b).length) c12, .slice p14 ((x9.t.f).length) c16, .slice p18 ((x9.c.l).length) c20, .int .i64 x9.c.h, .int .i64 x9.g.c, .int .i64 x9.g.n, .int .i64 x9.g.r, .slice p22 ((x9.g.o).length) c24, .int .i64 x9.s] 36 (0, 0))])]) ?_ ⟨rfl, rfl, rfl, rfl, rfl, rfl, rfl, rfl, trivial⟩ ⟨rfl, rfl, rfl, rfl, rfl, rfl, trivial⟩
                obtain ⟨x37, e37, H0⟩ := bind_some H0
                refine kw_nx (sr (oD (fA 2 Tryd.underlying36 rfl ts31 rfl rfl rfl) rfl (oD (stp_loadN (us := [_, _]) ts31 rfl (Cells.box (id := 10) rfl 2 rfl)) rfl (oD (mv rfl) rfl (oD (mv rfl) rfl (oD (mv rfl) rfl (oD (mv rfl) rfl (oD (stp_build (cs := #[.bool true, .int .i64 x27.1, .int .i64 a1, .int .i64 x34, .int .i64 x36.r, .bool false]) (sevp_cons rfl (sevp_cons rfl (sevp_cons rfl (sevp_cons rfl (sevp_cons rfl (sevp_cons rfl sevp_nil)))))) bt65_17) rfl (oE (stpU_call (fun i => 11 + i) cf30 (fun w hw => c_i_FillLine fl w x9.c p18 ((x9.c.l).length) c20 (⟨true, x27.1, a1, x34, x36.r, false⟩ : Ln) rfl (OwnC.pass (id := 8) rfl o21 hw) x37 e37) (sevs_cons rfl (sevs_cons rfl sevs_nil))) rfl ?_)))))))))
                rintro _ _ ⟨_, ⟨p38, n39, c40, C41, rfl, rfl, hnn39, o41⟩, rfl⟩
                obtain rfl := hnn39
                refine oD (mv rfl) rfl (oD (stp_extract rfl rfl) rfl (oD (stp_extract rfl rfl) rfl (oD (stp_extract rfl rfl) rfl (oE (stpU_alloc 12 tz31 rfl) rfl ?_))))
                rintro _ _ ⟨b42, rfl, rfl⟩
                refine oF (stpU_store (id := 12) (cs' := [.slice p38 ((x37.1.l).length) c40, .int .i64 x37.1.h]) ts31 rfl rfl rfl rfl rfl rfl rfl) ?_
                rintro _ _ rfl
                refine oD (sg rfl) rfl (oD (sg rfl) rfl (nn (cw_seq (sr (oD (mv rfl) rfl (oD (stp_not rfl) rfl (nn (cw_cond rfl (fun h43 => ?_) (fun h43 => ?_)))))))))
                · have H0 := cond_t H0 h43
                  refine sr (oD (stp_build (cs := #[.slice none 0 0, .slice none 0 0, .slice none 0 0, .int .i64 0, .int .i64 0, .int .i64 0, .int .i64 0, .slice none 0 0, .int .i64 0]) sevp_nil bt36_6) rfl (oF (stpU_store (id := 1) (cs' := [.slice none 0 0, .slice none 0 0, .slice none 0 0, .int .i64 0, .int .i64 0, .int .i64 0, .int .i64 0, .slice none 0 0, .int .i64 0]) ts36 rfl rfl rfl rfl rfl rfl rfl) ?_))
                  rintro _ _ rfl
                  refine oD (sg rfl) rfl (oD (sg rfl) rfl (oD (sg rfl) rfl (nn (cw_ret (kw_nx_ret (kw_nx_ret (kw_addNil 13 (kw_addNil 14 (kw_addNil 15 (kw_addNil 16 ?_))))))))))
                  have q0 := Option.some.inj H0
                  subst q0
                  exact kw_ret Tryd.results8 (.cons (.cellN (us := [_, _, _, _, _, _, _, _, _]) ts36 rfl (Cells.box (id := 1) rfl 9 rfl)) (.cons (.tmp rfl) (.cons (.tmp rfl) (.cons (.tmp rfl) .nil)))) [(0, []), (1, []), (2, []), (3, [])] [13, 14, 15, 16] ⟨13, [14, 15, 16], rfl, rfl, 14, [15, 16], rfl, rfl, 15, [16], rfl, rfl, 16, [], rfl, rfl, trivial⟩ (by decide) ⟨none, 0, 0, [], none, 0, 0, [], none, 0, 0, [], none, 0, 0, [], rfl, rfl, rfl, (OwnC.nil _ _), rfl, (OwnC.nil _ _), rfl, (OwnC.nil _ _), rfl, (OwnC.nil _ _)⟩
                · have H0 := cond_f H0 h43
                  refine cw_skip (kw_nx (cw_region (oD (stp_loadN (us := [_, _]) ts31 rfl (Cells.box (id := 12) rfl 2 rfl)) rfl (oD (fA 2 Tryd.underlying36 rfl ts31 rfl rfl rfl) rfl (oF (stpU_store (id := 10) (cs' := [.slice p10 ((x9.t.b).length) c12, .slice p14 ((x9.t.f).length) c16, .slice p38 ((x37.1.l).length) c40, .int .i64 x37.1.h, .int .i64 x9.g.c, .int .i64 x9.g.n, .int .i64 x9.g.r, .slice p22 ((x9.g.o).length) c24, .int .i64 x9.s]) ts31 rfl rfl rfl rfl rfl rfl rfl) ?_)))))
                  rintro _ _ rfl
                  obtain ⟨x44, e44, H0⟩ := bind_some H0
                  refine nn (cw_seq (sr (oD (mv rfl) rfl (oD (mv rfl) rfl (oE (stpU_call (fun i => 17 + i) cf31 (fun w hw => c_i_Allows fl w x36.r a2 x44 e44) (sevs_cons rfl (sevs_cons rfl sevs_nil))) rfl ?_)))))
                  rintro _ _ ⟨_, ⟨rfl, rfl⟩, rfl⟩
                  refine oD (stp_not rfl) rfl (nn (cw_cond rfl (fun h45 => ?_) (fun h45 => ?_)))
                  · have H0 := cond_t H0 h45
                    refine cw_region (oD (sg rfl) rfl (nn (sr (oD (stp_loadN (us := [_, _, _, _, _, _, _, _, _]) ts36 rfl (Cells.box (id := 10) rfl 9 rfl)) rfl (oD (mv rfl) rfl (oD (mv rfl) rfl (oF (stpU_store (id := 1) (cs' := [.slice p10 ((x9.t.b).length) c12, .slice p14 ((x9.t.f).length) c16, .slice p38 ((x37.1.l).length) c40, .int .i64 x37.1.h, .int .i64 x9.g.c, .int .i64 x9.g.n, .int .i64 x9.g.r, .slice p22 ((x9.g.o).length) c24, .int .i64 x9.s]) ts36 rfl rfl rfl rfl rfl rfl rfl) ?_)))))))
                    rintro _ _ rfl
                    refine oD (sg rfl) rfl (oD (sg rfl) rfl (oD (sg rfl) rfl (nn (cw_ret ?_))))
                    have q0 := Option.some.inj H0
                    subst q0
                    exact kw_ret Tryd.results8 (.cons (.cellN (us := [_, _, _, _, _, _, _, _, _]) ts36 rfl (Cells.box (id := 1) rfl 9 rfl)) (.cons (.tmp rfl) (.cons (.tmp rfl) (.cons (.tmp rfl) .nil)))) [(0, C13), (1, C17), (2, C41), (3, C25)] [6, 7, 11, 9] ⟨6, [7, 11, 9], rfl, rfl, 7, [11, 9], rfl, rfl, 11, [9], rfl, rfl, 9, [], rfl, rfl, trivial⟩ (by decide) ⟨p10, ((x9.t.b).length), c12, C13, p14, ((x9.t.f).length), c16, C17, p38, ((x37.1.l).length), c40, C41, p22, ((x9.g.o).length), c24, C25, rfl, rfl, rfl, o13, rfl, o17, rfl, o41, rfl, o25⟩
                  · have H0 := cond_f H0 h45
                    refine cw_skip (kw_nx (sr (oD (stp_loadN (us := [_, _, _, _, _, _, _, _, _]) ts36 rfl (Cells.box (id := 10) rfl 9 rfl)) rfl (oD (mv rfl) rfl (oD (mv rfl) rfl (oF (stpU_store (id := 1) (cs' := [.slice p10 ((x9.t.b).length) c12, .slice p14 ((x9.t.f).length) c16, .slice p38 ((x37.1.l).length) c40, .int .i64 x37.1.h, .int .i64 x9.g.c, .int .i64 x9.g.n, .int .i64 x9.g.r, .slice p22 ((x9.g.o).length) c24, .int .i64 x9.s]) ts36 rfl rfl rfl rfl rfl rfl rfl) ?_))))))
                    rintro _ _ rfl
                    refine oD (sg rfl) rfl (oD (sg rfl) rfl (oD (sg rfl) rfl (nn (cw_ret ?_))))
                    have q0 := Option.some.inj H0
                    subst q0
                    exact kw_ret Tryd.results8 (.cons (.cellN (us := [_, _, _, _, _, _, _, _, _]) ts36 rfl (Cells.box (id := 1) rfl 9 rfl)) (.cons (.tmp rfl) (.cons (.tmp rfl) (.cons (.tmp rfl) .nil)))) [(0, C13), (1, C17), (2, C41), (3, C25)] [6, 7, 11, 9] ⟨6, [7, 11, 9], rfl, rfl, 7, [11, 9], rfl, rfl, 11, [9], rfl, rfl, 9, [], rfl, rfl, trivial⟩ (by decide) ⟨p10, ((x9.t.b).length), c12, C13, p14, ((x9.t.f).length), c16, C17, p38, ((x37.1.l).length), c40, C41, p22, ((x9.g.o).length), c24, C25, rfl, rfl, rfl, o13, rfl, o17, rfl, o41, rfl, o25⟩

set_option maxHeartbeats 4000000 in
set_option maxRecDepth 20000 in
theorem c_l_FnNewMachine (fl : Nat) (w : World) (a0 : (List UInt8)) (p0_0 : Option Addr) (n0_0 c0_0 : Nat) (hn0_0 : n0_0 = (a0).length) (hr0_0 : RO w (hkeys []) (RdL p0_0 c0_0 a0)) (hg : RO w (hkeys []) (fun w' => w'.rangeAt 0 0 [.bool false, .int .i64 0, .int .i64 0, .int .i64 0, .int .i64 (-1)])) (r : Bool) (H0 : l_FnNewMachine fl a0 = some r) :
    Ct Tryd.prog 3 [.slice p0_0 n0_0 c0_0] w [] (fun rv h' => rv = .bool r ∧ h' = []) := by
  obtain rfl := hn0_0
  unfold l_FnNewMachine at H0
  refine ct_of_cw Tryd.func3 rfl Tryd.ntmps3 rfl (Sat.refl _ _) ?_
  refine sr (oD (sg rfl) rfl (nn (cw_seq (sr (oD (mv rfl) rfl (oD (stp_len Tryd.underlying22 rfl) rfl (oD (stp_gtr rfl rfl) rfl (nn (cw_cond rfl (fun h1 => ?_) (fun h1 => ?_))))))))))
  · have H0 := cond_t H0 h1
    refine sr (oD (sg rfl) rfl (nn (cw_ret (kw_nx_ret ?_))))
    have q0 := Option.some.inj H0
    subst q0
    exact kw_ret Tryd.results3 (.cons (.tmp rfl) .nil) [] [] trivial (by decide) ⟨rfl, rfl⟩
  · have H0 := cond_f H0 h1
    obtain ⟨x2, e2, H0⟩ := bind_some H0
    refine cw_skip (kw_nx (sr (oD (mv rfl) rfl (oE (stpU_call (fun i => 0 + i) cf4 (fun w hw => c_s_DrawNewMachine fl w a0 p0_0 ((a0).length) c0_0 rfl (RO.pass hr0_0 hw) x2 e2) (sevs_cons rfl sevs_nil)) rfl ?_))))
    rintro _ _ ⟨_, ⟨rfl, rfl⟩, rfl⟩
    refine oD (mv rfl) rfl (oD (stp_extract rfl rfl) rfl (oD (stp_extract rfl rfl) rfl (oD (stp_extract rfl rfl) rfl (oD (stp_extract rfl rfl) rfl (oD (sg rfl) rfl (oD (sg rfl) rfl (oD (sg rfl) rfl (oD (sg rfl) rfl (nn (sr (oD (mv rfl) rfl (oD (mv rfl) rfl (oD (mv rfl) rfl ?_)))))))))))))
    obtain ⟨x3, e3, H0⟩ := bind_some H0
    refine oD (mv rfl) rfl (oE (stpU_call (fun i => 0 + i) cf5 (fun w hw => c_i_NewMachine fl w x2.1 x2.2.1 x2.2.2.1 x2.2.2.2 (RO.pass hg hw) x3 e3) (sevs_cons rfl (sevs_cons rfl (sevs_cons rfl (sevs_cons rfl sevs_nil))))) rfl ?_)
    rintro _ _ ⟨_, ⟨p4, n5, c6, C7, p8, n9, c10, C11, p12, n13, c14, C15, p16, n17, c18, C19, rfl, rfl, hnn5, o7, hnn9, o11, hnn13, o15, hnn17, o19⟩, rfl⟩
    obtain rfl := hnn5
    obtain rfl := hnn9
    obtain rfl := hnn13
    obtain rfl := hnn17
    refine oD (mv rfl) rfl (oD (stp_extract rfl rfl) rfl (oD (stp_extract rfl rfl) rfl (oE (stpU_alloc 4 tz36 rfl) rfl ?_)))
    rintro _ _ ⟨b20, rfl, rfl⟩
    refine oF (stpU_store (id := 4) (cs' := [.slice p4 ((x3.1.t.b).length) c6, .slice p8 ((x3.1.t.f).length) c10, .slice p12 ((x3.1.c.l).length) c14, .int .i64 x3.1.c.h, .int .i64 x3.1.g.c, .int .i64 x3.1.g.n, .int .i64 x3.1.g.r, .slice p16 ((x3.1.g.o).length) c18, .int .i64 x3.1.s]) ts36 rfl rfl rfl rfl rfl rfl rfl) ?_
    rintro _ _ rfl
    obtain ⟨x21, e21, H0⟩ := bind_some H0
    refine oD (sg rfl) rfl (nn (sr (oD (mv rfl) rfl (oD (mv rfl) rfl (oD (mv rfl) rfl (oD (mv rfl) rfl (oE (stpU_call (fun i => 5 + i) cf6 (fun w hw => c_s_NewMachine fl w x2.1 x2.2.1 x2.2.2.1 x2.2.2.2 x21 e21) (sevs_cons rfl (sevs_cons rfl (sevs_cons rfl (sevs_cons rfl sevs_nil))))) rfl ?_)))))))
    rintro _ _ ⟨_, ⟨p22, n23, c24, C25, p26, n27, c28, C29, p30, n31, c32, C33, p34, n35, c36, C37, rfl, rfl, hnn23, o25, hnn27, o29, hnn31, o33, hnn35, o37⟩, rfl⟩
    obtain rfl := hnn23
    obtain rfl := hnn27
    obtain rfl := hnn31
    obtain rfl := hnn35
    refine oD (mv rfl) rfl (oD (stp_extract rfl rfl) rfl (oD (stp_extract rfl rfl) rfl (oE (stpU_alloc 9 tz36 rfl) rfl ?_)))
    rintro _ _ ⟨b38, rfl, rfl⟩
    refine oF (stpU_store (id := 9) (cs' := [.slice p22 ((x21.1.t.b).length) c24, .slice p26 ((x21.1.t.f).length) c28, .slice p30 ((x21.1.c.l).length) c32, .int .i64 x21.1.c.h, .int .i64 x21.1.g.c, .int .i64 x21.1.g.n, .int .i64 x21.1.g.r, .slice p34 ((x21.1.g.o).length) c36, .int .i64 x21.1.s]) ts36 rfl rfl rfl rfl rfl rfl rfl) ?_
    rintro _ _ rfl
    obtain ⟨x39, e39, H0⟩ := bind_some H0
    refine oD (sg rfl) rfl (nn (cw_seq (sr (oD (stp_loadN (us := [_, _, _, _, _, _, _, _, _]) ts36 rfl (Cells.box (id := 4) rfl 9 rfl)) rfl (oD (stp_loadN (us := [_, _, _, _, _, _, _, _, _]) ts36 rfl (Cells.box (id := 9) rfl 9 rfl)) rfl (oE (stpU_call (fun i => 10 + i) cf7 (fun w hw => c_i_MachineSame fl w x3.1 p4 ((x3.1.t.b).length) c6 p8 ((x3.1.t.f).length) c10 p12 ((x3.1.c.l).length) c14 p16 ((x3.1.g.o).length) c18 x21.1 p22 ((x21.1.t.b).length) c24 p26 ((x21.1.t.f).length) c28 p30 ((x21.1.c.l).length) c32 p34 ((x21.1.g.o).length) c36 rfl (OwnC.pass (id := 0) rfl o7 hw) rfl (OwnC.pass (id := 1) rfl o11 hw) rfl (OwnC.pass (id := 2) rfl o15 hw) rfl (OwnC.pass (id := 3) rfl o19 hw) rfl (OwnC.pass (id := 5) rfl o25 hw) rfl (OwnC.pass (id := 6) rfl o29 hw) rfl (OwnC.pass (id := 7) rfl o33 hw) rfl (OwnC.pass (id := 8) rfl o37 hw) x39 e39) (sevs_cons rfl (sevs_cons rfl sevs_nil))) rfl ?_))))))
    rintro _ _ ⟨_, ⟨rfl, rfl⟩, rfl⟩
    obtain ⟨y40, ey40, H0⟩ := bind_some H0
    refine oD (stp_not rfl) rfl (oD (mv rfl) rfl (ow_cutY 4 53 y40 ?_ ?_))
    · rcases Bool.eq_false_or_eq_true (!x39) with hy40 | hy40
      · have ey40 := cond_t ey40 hy40
        refine oO rfl hy40 rfl (oO rfl hy40 rfl (oO rfl hy40 rfl (oD (stp_pick_t rfl hy40 rfl) rfl ?_)))
        obtain rfl := Option.some.inj ey40
        exact ow_nil (jy 4 0)
      · have ey40 := cond_f ey40 hy40
        refine oG rfl hy40 (mv rfl) rfl (oG rfl hy40 (mv rfl) rfl (oG rfl hy40 (stp_neqB Tryd.underlying4 rfl rfl) rfl (oD (stp_pick_f rfl hy40 rfl) rfl ?_)))
        obtain rfl := Option.some.inj ey40
        exact ow_nil (jy 4 0)
    · obtain ⟨y41, ey41, H0⟩ := bind_some H0
      refine oD (mv rfl) rfl (ow_cutY 3 57 y41 ?_ ?_)
      · rcases Bool.eq_false_or_eq_true y40 with hy41 | hy41
        · have ey41 := cond_t ey41 hy41
          refine oO rfl hy41 rfl (oO rfl hy41 rfl (oD (stp_pick_t rfl hy41 rfl) rfl ?_))
          obtain rfl := Option.some.inj ey41
          exact ow_nil (jy 3 0)
        · have ey41 := cond_f ey41 hy41
          refine oG rfl hy41 (mv rfl) rfl (oG rfl hy41 (stp_not rfl) rfl (oD (stp_pick_f rfl hy41 rfl) rfl ?_))
          obtain rfl := Option.some.inj ey41
          exact ow_nil (jy 3 0)
      · refine ow_nil (kw_nx (cw_cond rfl (fun h42 => ?_) (fun h42 => ?_)))
        · have H0 := cond_t H0 h42
          refine sr (oD (stp_loadN (us := [_, _, _, _, _, _, _, _, _]) ts36 rfl (Cells.box (id := 4) rfl 9 rfl)) rfl (oD (stp_loadN (us := [_, _, _, _, _, _, _, _, _]) ts36 rfl (Cells.box (id := 9) rfl 9 rfl)) rfl (oE (stpU_call (fun i => 10 + i) cf7 (fun w hw => c_i_MachineSame fl w x3.1 p4 ((x3.1.t.b).length) c6 p8 ((x3.1.t.f).length) c10 p12 ((x3.1.c.l).length) c14 p16 ((x3.1.g.o).length) c18 x21.1 p22 ((x21.1.t.b).length) c24 p26 ((x21.1.t.f).length) c28 p30 ((x21.1.c.l).length) c32 p34 ((x21.1.g.o).length) c36 rfl (OwnC.pass (id := 0) rfl o7 hw) rfl (OwnC.pass (id := 1) rfl o11 hw) rfl (OwnC.pass (id := 2) rfl o15 hw) rfl (OwnC.pass (id := 3) rfl o19 hw) rfl (OwnC.pass (id := 5) rfl o25 hw) rfl (OwnC.pass (id := 6) rfl o29 hw) rfl (OwnC.pass (id := 7) rfl o33 hw) rfl (OwnC.pass (id := 8) rfl o37 hw) x39 e39) (sevs_cons rfl (sevs_cons rfl sevs_nil))) rfl ?_)))
          rintro _ _ ⟨_, ⟨rfl, rfl⟩, rfl⟩
          obtain ⟨y43, ey43, H0⟩ := bind_some H0
          refine oD (mv rfl) rfl (ow_cutY 4 65 y43 ?_ ?_)
          · rcases Bool.eq_false_or_eq_true x39 with hy43 | hy43
            · have ey43 := cond_t ey43 hy43
              refine oG rfl hy43 (mv rfl) rfl (oG rfl hy43 (mv rfl) rfl (oG rfl hy43 (stp_eqlB Tryd.underlying4 rfl rfl) rfl (oD (stp_pick_t rfl hy43 rfl) rfl ?_)))
              obtain rfl := Option.some.inj ey43
              exact ow_nil (jy 4 0)
            · have ey43 := cond_f ey43 hy43
              refine oO rfl hy43 rfl (oO rfl hy43 rfl (oO rfl hy43 rfl (oD (stp_pick_f rfl hy43 rfl) rfl ?_)))
              obtain rfl := Option.some.inj ey43
              exact ow_nil (jy 4 0)
          · refine oD (sg rfl) rfl (nn (cw_ret (kw_nx_ret ?_)))
            have q0 := Option.some.inj H0
            subst q0
            exact kw_ret Tryd.results3 (.cons (.tmp rfl) .nil) [] [] trivial (by decide) ⟨rfl, rfl⟩
        · have H0 := cond_f H0 h42
          obtain ⟨x44, e44, H0⟩ := bind_some H0
          refine cw_skip (kw_nx (sr (oD (stp_loadN (us := [_, _, _, _, _, _, _, _, _]) ts36 rfl (Cells.box (id := 4) rfl 9 rfl)) rfl (oE (stpU_call (fun i => 10 + i) cf8 (fun w hw => c_i_TouchPage fl w x3.1 p4 ((x3.1.t.b).length) c6 p8 ((x3.1.t.f).length) c10 p12 ((x3.1.c.l).length) c14 p16 ((x3.1.g.o).length) c18 0 0 rfl (OwnC.pass (id := 0) rfl o7 hw) rfl (OwnC.pass (id := 1) rfl o11 hw) rfl (OwnC.pass (id := 2) rfl o15 hw) rfl (OwnC.pass (id := 3) rfl o19 hw) (RO.pass hg hw) x44 e44) (sevs_cons rfl (sevs_cons rfl (sevs_cons rfl sevs_nil)))) rfl ?_))))
          rintro _ _ ⟨_, ⟨p45, n46, c47, C48, p49, n50, c51, C52, p53, n54, c55, C56, p57, n58, c59, C60, rfl, rfl, hnn46, o48, hnn50, o52, hnn54, o56, hnn58, o60⟩, rfl⟩
          obtain rfl := hnn46
          obtain rfl := hnn50
          obtain rfl := hnn54
          obtain rfl := hnn58
          refine oD (mv rfl) rfl (oD (stp_extract rfl rfl) rfl (oD (stp_extract rfl rfl) rfl (oD (stp_extract rfl rfl) rfl (oD (stp_extract rfl rfl) rfl (oE (stpU_alloc 14 tz36 rfl) rfl ?_)))))
          rintro _ _ ⟨b61, rfl, rfl⟩
          refine oF (stpU_store (id := 14) (cs' := [.slice p45 ((x44.1.t.b).length) c47, .slice p49 ((x44.1.t.f).length) c51, .slice p53 ((x44.1.c.l).length) c55, .int .i64 x44.1.c.h, .int .i64 x44.1.g.c, .int .i64 x44.1.g.n, .int .i64 x44.1.g.r, .slice p57 ((x44.1.g.o).length) c59, .int .i64 x44.1.s]) ts36 rfl rfl rfl rfl rfl rfl rfl) ?_
          rintro _ _ rfl
          obtain ⟨x62, e62, H0⟩ := bind_some H0
          refine oD (sg rfl) rfl (oD (sg rfl) rfl (oD (sg rfl) rfl (nn (sr (oD (stp_loadN (us := [_, _, _, _, _, _, _, _, _]) ts36 rfl (Cells.box (id := 4) rfl 9 rfl)) rfl (oE (stpU_call (fun i => 15 + i) cf8 (fun w hw => c_i_TouchPage fl w x3.1 p4 ((x3.1.t.b).length) c6 p8 ((x3.1.t.f).length) c10 p12 ((x3.1.c.l).length) c14 p16 ((x3.1.g.o).length) c18 255 0 rfl (OwnC.pass (id := 0) rfl o7 hw) rfl (OwnC.pass (id := 1) rfl o11 hw) rfl (OwnC.pass (id := 2) rfl o15 hw) rfl (OwnC.pass (id := 3) rfl o19 hw) (RO.pass hg hw) x62 e62) (sevs_cons rfl (sevs_cons rfl (sevs_cons rfl sevs_nil)))) rfl ?_))))))
          rintro _ _ ⟨_, ⟨p63, n64, c65, C66, p67, n68, c69, C70, p71, n72, c73, C74, p75, n76, c77, C78, rfl, rfl, hnn64, o66, hnn68, o70, hnn72, o74, hnn76, o78⟩, rfl⟩
          obtain rfl := hnn64
          obtain rfl := hnn68
          obtain rfl := hnn72
          obtain rfl := hnn76
          refine oD (mv rfl) rfl (oD (stp_extract rfl rfl) rfl (oD (stp_extract rfl rfl) rfl (oD (stp_extract rfl rfl) rfl (oD (stp_extract rfl rfl) rfl (oE (stpU_alloc 19 tz36 rfl) rfl ?_)))))
          rintro _ _ ⟨b79, rfl, rfl⟩
          refine oF (stpU_store (id := 19) (cs' := [.slice p63 ((x62.1.t.b).length) c65, .slice p67 ((x62.1.t.f).length) c69, .slice p71 ((x62.1.c.l).length) c73, .int .i64 x62.1.c.h, .int .i64 x62.1.g.c, .int .i64 x62.1.g.n, .int .i64 x62.1.g.r, .slice p75 ((x62.1.g.o).length) c77, .int .i64 x62.1.s]) ts36 rfl rfl rfl rfl rfl rfl rfl) ?_
          rintro _ _ rfl
          obtain ⟨x80, e80, H0⟩ := bind_some H0
          refine oD (sg rfl) rfl (oD (sg rfl) rfl (oD (sg rfl) rfl (nn (sr (oD (stp_loadN (us := [_, _, _, _, _, _, _, _, _]) ts36 rfl (Cells.box (id := 4) rfl 9 rfl)) rfl (oE (stpU_call (fun i => 20 + i) cf9 (fun w hw => c_i_MachineValid fl w x3.1 p4 ((x3.1.t.b).length) c6 p8 ((x3.1.t.f).length) c10 p12 ((x3.1.c.l).length) c14 p16 ((x3.1.g.o).length) c18 rfl (OwnC.pass (id := 0) rfl o7 hw) rfl (OwnC.pass (id := 1) rfl o11 hw) rfl (OwnC.pass (id := 2) rfl o15 hw) rfl (OwnC.pass (id := 3) rfl o19 hw) (RO.pass hg hw) x80 e80) (sevs_cons rfl sevs_nil)) rfl ?_))))))
          rintro _ _ ⟨_, ⟨rfl, rfl⟩, rfl⟩
          obtain ⟨y81, ey81, H0⟩ := bind_some H0
          refine oD (mv rfl) rfl (ow_cutY 4 86 y81 ?_ ?_)
          · rcases Bool.eq_false_or_eq_true x80 with hy81 | hy81
            · have ey81 := cond_t ey81 hy81
              refine oG rfl hy81 (fA 8 Tryd.underlying36 rfl ts3 rfl rfl rfl) rfl (oG rfl hy81 (lB 4 ts3 rfl rfl rfl) rfl (oG rfl hy81 (stp_eql rfl rfl) rfl (oD (stp_pick_t rfl hy81 rfl) rfl ?_)))
              obtain rfl := Option.some.inj ey81
              exact ow_nil (jy 4 0)
            · have ey81 := cond_f ey81 hy81
              refine oO rfl hy81 rfl (oO rfl hy81 rfl (oO rfl hy81 rfl (oD (stp_pick_f rfl hy81 rfl) rfl ?_)))
              obtain rfl := Option.some.inj ey81
              exact ow_nil (jy 4 0)
          · obtain ⟨y82, ey82, H0⟩ := bind_some H0
            refine oD (mv rfl) rfl (ow_cutY 2 89 y82 ?_ ?_)
            · rcases Bool.eq_false_or_eq_true y81 with hy82 | hy82
              · have ey82 := cond_t ey82 hy82
                refine oG rfl hy82 (mv rfl) rfl (oD (stp_pick_t rfl hy82 rfl) rfl ?_)
                obtain rfl := Option.some.inj ey82
                exact ow_nil (jy 2 0)
              · have ey82 := cond_f ey82 hy82
                refine oO rfl hy82 rfl (oD (stp_pick_f rfl hy82 rfl) rfl ?_)
                obtain rfl := Option.some.inj ey82
                exact ow_nil (jy 2 0)
            · obtain ⟨y83, ey83, H0⟩ := bind_some H0
              refine oD (mv rfl) rfl (ow_cutY 2 92 y83 ?_ ?_)
              · rcases Bool.eq_false_or_eq_true y82 with hy83 | hy83
                · have ey83 := cond_t ey83 hy83
                  refine oG rfl hy83 (mv rfl) rfl (oD (stp_pick_t rfl hy83 rfl) rfl ?_)
                  obtain rfl := Option.some.inj ey83
                  exact ow_nil (jy 2 0)
                · have ey83 := cond_f ey83 hy83
                  refine oO rfl hy83 rfl (oD (stp_pick_f rfl hy83 rfl) rfl ?_)
                  obtain rfl := Option.some.inj ey83
                  exact ow_nil (jy 2 0)
              · obtain ⟨y84, ey84, H0⟩ := bind_some H0
                refine oD (mv rfl) rfl (ow_cutY 3 96 y84 ?_ ?_)
                · rcases Bool.eq_false_or_eq_true y83 with hy84 | hy84
                  · have ey84 := cond_t ey84 hy84
                    refine oG rfl hy84 (mv rfl) rfl (oG rfl hy84 (stp_eql rfl rfl) rfl (oD (stp_pick_t rfl hy84 rfl) rfl ?_))
                    obtain rfl := Option.some.inj ey84
                    exact ow_nil (jy 3 0)
                  · have ey84 := cond_f ey84 hy84
                    refine oO rfl hy84 rfl (oO rfl hy84 rfl (oD (stp_pick_f rfl hy84 rfl) rfl ?_))
                    obtain rfl := Option.some.inj ey84
                    exact ow_nil (jy 3 0)
                · obtain ⟨y85, ey85, H0⟩ := bind_some H0
                  refine oD (mv rfl) rfl (ow_cutY 3 100 y85 ?_ ?_)
                  · rcases Bool.eq_false_or_eq_true y84 with hy85 | hy85
                    · have ey85 := cond_t ey85 hy85
                      refine oG rfl hy85 (mv rfl) rfl (oG rfl hy85 (stp_eql rfl rfl) rfl (oD (stp_pick_t rfl hy85 rfl) rfl ?_))
                      obtain rfl := Option.some.inj ey85
                      exact ow_nil (jy 3 0)
                    · have ey85 := cond_f ey85 hy85
                      refine oO rfl hy85 rfl (oO rfl hy85 rfl (oD (stp_pick_f rfl hy85 rfl) rfl ?_))
                      obtain rfl := Option.some.inj ey85
                      exact ow_nil (jy 3 0)
                  · refine oD (sg rfl) rfl (nn (cw_ret ?_))
                    have q0 := Option.some.inj H0
                    subst q0
                    exact kw_ret Tryd.results3 (.cons (.tmp rfl) .nil) [] [] trivial (by decide) ⟨rfl, rfl⟩
end Go.Proofs.YtbgodaeccgjdgaaDoor
