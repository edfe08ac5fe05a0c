/- The walks: functions of the program return what their pure functions say. Printed by a program (gen.py). -/
import Derived.Test.YtbgodaeccgjdgaaGreatDoorGp
import Derived.Test.YtbgodaeccgjdgaaGreatDoorGt
import Derived.Test.YtbgodaeccgjdgaaGreatDoorMan
import Derived.Test.YtbgodaeccgjdgaaGreatDoorMap
import Derived.Test.YtbgodaeccgjdgaaGreatDoorGwaa
import Derived.Test.YtbgodaeccgjdgaaGreatDoorGwab
import Derived.Test.YtbgodaeccgjdgaaGreatDoorGwac
import Derived.Test.YtbgodaeccgjdgaaGreatDoorGwad
import Derived.Test.YtbgodaeccgjdgaaGreatDoorGwaf
set_option linter.unusedSimpArgs false
set_option linter.unusedVariables false
set_option linter.unusedSectionVars false
namespace Go.Proofs.YtbgodaeccgjdgaaGreatDoor
open Go.RowKit
set_option maxHeartbeats 4000000 in
set_option maxRecDepth 20000 in
theorem c_s_l6Shared (fl : Nat) (w : World) (a0 : K) (r : Bool) (H0 : s_l6Shared fl a0 = some r) :
    Ct Tryz.prog 54 [.agg #[.int .i64 a0.s, .int .i64 a0.p]] w [] (fun rv h' => rv = .bool r ∧ h' = []) := by
  unfold s_l6Shared at H0
  refine ct_of_cw Tryz.func54 rfl Tryz.ntmps54 rfl (Sat.refl _ _) ?_
  refine sr (oE (stpU_box 0 rfl rfl) rfl ?_)
  rintro _ _ ⟨b1, rfl, rfl⟩
  obtain ⟨x2, e2, H0⟩ := bind_some H0
  obtain ⟨y3, ey3, H0⟩ := bind_some H0
  refine oD (sg rfl) rfl (nn (cw_seq (cw_join (ι := Unit) (fun | _ => True) (fun | _ => [(2, .bool y3)]) (fun | _ => []) ?_ ?_)))
  · rcases Bool.eq_false_or_eq_true x2 with hy3 | hy3
    · have ey3 := cond_t ey3 hy3
      obtain ⟨x4, e4, ey3⟩ := bind_some ey3
      have qy3 := Option.some.inj ey3
      refine rdr g_mixed [1] [0] { dst := dS [4, 5, 6, 7, 8, 9, 10, 11, 12, 13, 14, 3], pre := gA [] [[], [0], [0, 1], [0, 1, 2], rn 0 4, [0, 1, 2], [0, 1, 2, 5], rn 0 7, [0, 1, 2], rn 0 9, rn 0 10, rn 0 11], ids := fun _ => [], rs := rL [[(1, 0)], [(3, 1)], [(4, 2)], [(1, 0), (5, 3)], [(6, 4), (5, 3)], [(1, 0), (5, 3)], [(8, 6), (5, 3)], [(7, 5), (9, 7), (5, 3)], [(1, 0), (5, 3)], [(10, 8), (11, 9), (5, 3)], [(5, 3), (12, 10)], [(13, 11)]], rh := rL [[(0, 0)], [], [], [], [(0, 0)], [], [(0, 0)], [], [(0, 0)]], V := fun i g => gA undef [.agg #[.int .i64 a0.s, .int .i64 a0.p], .bool x2, .bool x2, .pointer (some ⟨b1, 0, none⟩), .int .i64 a0.s, .pointer (some ⟨b1, 1, none⟩), .int .i64 a0.p, .agg #[.int .i64 x4.s, .int .i64 x4.p], .agg #[.int .i64 a0.s, .int .i64 a0.p], .bool (x4 == a0), .bool y3, .bool y3] i, U := fun _ _ => [], Φ := fun _ _ => True } ?_ ?_
      · refine ⟨⟨⟨⟨⟨⟨⟨⟨⟨⟨⟨⟨trivial, lc rfl rfl fun hs hh => stp_loadN (us := [_, _]) ts51 (sv hs 1 rfl) (Cells.box (id := 0) (hh.get 0 _ rfl) 2 rfl)⟩, ?_⟩, lc rfl rfl fun hs hh => stp_move (sv hs 4 rfl)⟩, lg rfl rfl 5 hy3 fun hs hh => stp_fieldAddr (j := 0) Tryz.underlying51 rfl ts3 rfl (sv hs 1 rfl) rfl⟩, lg rfl rfl 5 hy3 fun hs hh => stp_load1 ts3 (sv hs 6 rfl) (Cells.box (id := 0) (hh.get 0 _ rfl) 1 rfl)⟩, lg rfl rfl 5 hy3 fun hs hh => stp_fieldAddr (j := 1) Tryz.underlying51 rfl ts3 rfl (sv hs 1 rfl) rfl⟩, lg rfl rfl 5 hy3 fun hs hh => stp_load1 ts3 (sv hs 8 rfl) (Cells.box (id := 0) (hh.get 0 _ rfl) 1 rfl)⟩, ?_⟩, lg rfl rfl 5 hy3 fun hs hh => stp_loadN (us := [_, _]) ts51 (sv hs 1 rfl) (Cells.box (id := 0) (hh.get 0 _ rfl) 2 rfl)⟩, lg rfl rfl 5 hy3 fun hs hh => stp_eqlS te51 x4 a0 (sv hs 10 rfl) (sv hs 11 rfl)⟩, lc rfl rfl fun hs hh => stp_pick_tB (sv hs 5 rfl) hy3 (sv hs 12 rfl) qy3⟩, lc rfl rfl fun hs hh => stp_assign (sv hs 13 rfl)⟩
        · refine le rfl rfl (fun g hΦ s h hs hh => (stpU_call (fun i => 1 + i) cf129 (fun w hw => c_s_KeyValid fl w a0 x2 e2) (sevs_cons (sv hs 3 rfl) sevs_nil))) ?_
          rintro g _ _ ⟨_, ⟨rfl, rfl⟩, rfl⟩
          exact ⟨⟨[], [], []⟩, trivial, .inr rfl, rfl⟩
        · refine loc_eff rfl rfl (fun g hΦ s h hs hh => ⟨(.some (gval_of rfl (sv hs 5 rfl)) hy3), (stpU_call (fun i => 1 + i) cf87 (fun w hw => c_s_KeyFor fl w a0.s a0.p x4 e4) (sevs_cons (sv hs 7 rfl) (sevs_cons (sv hs 9 rfl) sevs_nil)))⟩) ?_
          rintro g _ _ ⟨_, ⟨rfl, rfl⟩, rfl⟩
          exact ⟨⟨[], [], []⟩, trivial, .inr rfl, rfl⟩
      · intro g hΦ
        exact kw_join () trivial ⟨rfl, trivial⟩ trivial
    · have ey3 := cond_f ey3 hy3
      have qy3 := Option.some.inj ey3
      refine rdr g_mixed [1] [0] { dst := dS [4, 5, 6, 7, 8, 9, 10, 11, 12, 13, 14, 3], pre := gA [] [[], [0], [0, 1], [0, 1, 2], rn 0 4, [0, 1, 2], [0, 1, 2, 5], rn 0 7, [0, 1, 2], rn 0 9, rn 0 10, rn 0 11], ids := fun _ => [], rs := rL [[(1, 0)], [(3, 1)], [(4, 2)], [(5, 3)], [(5, 3)], [(5, 3)], [(5, 3)], [(5, 3)], [(5, 3)], [(5, 3)], [(5, 3), (12, 10)], [(13, 11)]], rh := rL [[(0, 0)]], V := fun i g => gA undef [.agg #[.int .i64 a0.s, .int .i64 a0.p], .bool x2, .bool x2, undef, undef, undef, undef, undef, undef, undef, .bool y3, .bool y3] i, U := fun _ _ => [], Φ := fun _ _ => True } ?_ ?_
      · refine ⟨⟨⟨⟨⟨⟨⟨⟨⟨⟨⟨⟨trivial, lc rfl rfl fun hs hh => stp_loadN (us := [_, _]) ts51 (sv hs 1 rfl) (Cells.box (id := 0) (hh.get 0 _ rfl) 2 rfl)⟩, ?_⟩, lc rfl rfl fun hs hh => stp_move (sv hs 4 rfl)⟩, lo rfl rfl 5 hy3⟩, lo rfl rfl 5 hy3⟩, lo rfl rfl 5 hy3⟩, lo rfl rfl 5 hy3⟩, lo rfl rfl 5 hy3⟩, lo rfl rfl 5 hy3⟩, lo rfl rfl 5 hy3⟩, lc rfl rfl fun hs hh => stp_pick_fB (sv hs 5 rfl) hy3 rfl qy3⟩, lc rfl rfl fun hs hh => stp_assign (sv hs 13 rfl)⟩
        · refine le rfl rfl (fun g hΦ s h hs hh => (stpU_call (fun i => 1 + i) cf129 (fun w hw => c_s_KeyValid fl w a0 x2 e2) (sevs_cons (sv hs 3 rfl) sevs_nil))) ?_
          rintro g _ _ ⟨_, ⟨rfl, rfl⟩, rfl⟩
          exact ⟨⟨[], [], []⟩, trivial, .inr rfl, rfl⟩
      · intro g hΦ
        exact kw_join () trivial ⟨rfl, trivial⟩ trivial
  · rintro _ -
    refine KW.sub (s' := [(2, .bool y3)]) (h' := []) ?_ ⟨rfl, trivial⟩ trivial
    refine kw_nx (cw_ret ?_)
    have q0 := Option.some.inj H0
    subst q0
    exact kw_ret Tryz.results54 (.cons (.tmp rfl) .nil) [] [] trivial (by decide) ⟨rfl, rfl⟩

set_option maxHeartbeats 4000000 in
set_option maxRecDepth 20000 in
theorem c_s_l3Map (fl : Nat) (w : World) (a0 : T) (p0_0 : Option Addr) (n0_0 c0_0 : Nat) (p0_1 : Option Addr) (n0_1 c0_1 : Nat) (a1 : K) (a2 : Int) (a3 : Int) (hn0_0 : n0_0 = (a0.b).length) (hr0_0 : RO w (hkeys []) (RdL p0_0 c0_0 a0.b)) (hn0_1 : n0_1 = (a0.f).length) (hr0_1 : RO w (hkeys []) (RdL p0_1 c0_1 a0.f)) (r : T) (H0 : s_l3Map fl a0 a1 a2 a3 = some r) :
    Ct Tryz.prog 130 [.agg #[.slice p0_0 n0_0 c0_0, .slice p0_1 n0_1 c0_1], .agg #[.int .i64 a1.s, .int .i64 a1.p], .int .i64 a2, .int .i64 a3] w [] (fun rv h' => ∃ (x0 : Option Addr) (y0 z0 : Nat) (C0 : Res) (x1 : Option Addr) (y1 z1 : Nat) (C1 : Res), rv = .agg #[.slice x0 y0 z0, .slice x1 y1 z1] ∧ h' = [(0, C0), (1, C1)] ∧ y0 = (r.b).length ∧ OwnC 3 x0 z0 r.b C0 ∧ y1 = (r.f).length ∧ OwnC 127 x1 z1 r.f C1) := by
  obtain rfl := hn0_0
  obtain rfl := hn0_1
  unfold s_l3Map at H0
  refine ct_of_cw Tryz.func130 rfl Tryz.ntmps130 rfl (Sat.refl _ _) ?_
  refine sr (oE (stpU_box 0 rfl rfl) rfl ?_)
  rintro _ _ ⟨b1, rfl, rfl⟩
  refine oE (stpU_box 1 rfl rfl) rfl ?_
  rintro _ _ ⟨b2, rfl, rfl⟩
  refine oE (stpU_alloc 2 tz39 rfl) rfl ?_
  rintro _ _ ⟨b3, rfl, rfl⟩
  obtain ⟨x4, e4, H0⟩ := bind_some H0
  refine nn (sr (oD (stp_loadN (us := [_, _]) ts39 rfl (Cells.box (id := 0) rfl 2 rfl)) rfl (oE (stpU_call (fun i => 3 + i) cf131 (fun w hw => c_s_l3Copy fl w a0 p0_0 ((a0.b).length) c0_0 p0_1 ((a0.f).length) c0_1 rfl (RO.pass hr0_0 hw) rfl (RO.pass hr0_1 hw) x4 e4) (sevs_cons rfl sevs_nil)) rfl ?_)))
  rintro _ _ ⟨_, ⟨p5, n6, c7, C8, p9, n10, c11, C12, rfl, rfl, hnn6, o8, hnn10, o12⟩, rfl⟩
  obtain rfl := hnn6
  obtain rfl := hnn10
  refine oE (stpU_alloc 5 tz39 rfl) rfl ?_
  rintro _ _ ⟨b13, rfl, rfl⟩
  refine oF (stpU_store (id := 5) (cs' := [.slice p5 ((x4.b).length) c7, .slice p9 ((x4.f).length) c11]) ts39 rfl rfl rfl rfl rfl rfl rfl) ?_
  rintro _ _ rfl
  obtain ⟨x14, e14, H0⟩ := bind_some H0
  refine nn (sr (oD (stp_loadN (us := [_, _]) ts51 rfl (Cells.box (id := 1) rfl 2 rfl)) rfl (oD (fA 0 Tryz.underlying39 rfl ts22 rfl rfl rfl) rfl (oD (lB 0 ts22 rfl rfl rfl) rfl (oD (stp_len Tryz.underlying22 rfl) rfl (oE (stpU_call (fun i => 6 + i) cf169 (fun w hw => c_s_l2Hash fl w a1 ((a0.b).length : Int) x14 e14) (sevs_cons rfl (sevs_cons rfl sevs_nil))) rfl ?_))))))
  rintro _ _ ⟨_, ⟨rfl, rfl⟩, rfl⟩
  obtain ⟨x15, e15, H0⟩ := bind_some H0
  obtain ⟨x16, e16, H0⟩ := bind_some H0
  refine oD (sg rfl) rfl (nn (cw_seq (rdr g_mixed [2, 3, 5, 9, 10] [1, 3, 4, 5] { dst := dS [19, 20, 21, 22, 23, 24, 25, 26, 27, 28, 29, 30, 0], pre := gA [] [[], [0], [], [], [], [], [5], [], [5, 6, 7], rn 5 4, rn 3 7, rn 0 11, rn 0 12], ids := fun i => match i with | 12 => [4] | _ => [], rs := rL [[(9, 0)], [(18, 1)], [(2, 0)], [(5, 0)], [(3, 0)], [(9, 0)], [(23, 6)], [(10, 0)], [(24, 7), (25, 8)], [(26, 9)], [(21, 4), (22, 5), (27, 10)], [(19, 2), (20, 3)], [(29, 12), (28, 11)]], rh := rL [[], [(5, 0)], [], [(1, 0)], [], [], [(5, 0)], [], [(3, 0)], [(3, 0)], [], [(4, 0)], [(4, 0)]], V := fun i g => gA undef [.pointer (some ⟨b13, 1, none⟩), .slice p9 ((x4.f).length) c11, .int .i64 a2, .agg #[.int .i64 a1.s, .int .i64 a1.p], .int .i64 a3, .pointer (some ⟨b13, 0, none⟩), .slice p5 ((x4.b).length) c7, .int .i64 x14, .pointer (some ⟨eB p5, eO p5 + Int.toNat x14 * Enc.sz Int + 0, none⟩), .int .i64 x15, .agg #[.bool true, .int .i64 a1.s, .int .i64 a1.p, .int .i64 a3, .int .i64 x15], .pointer (some ⟨eB p9, eO p9 + Int.toNat a2 * Enc.sz F + 0, none⟩)] i, U := fun i g => match i with | 12 => [(4, ((g 12).R 0))] | _ => [], Φ := fun i x => match i with | 12 => OwnC (α := F) 127 p9 c11 (x4.f.set (Int.toNat a2) (⟨true, a1, a3, x15⟩ : F)) (x.R 0) | _ => True } ?_ ?_)))
  · refine ⟨⟨⟨⟨⟨⟨⟨⟨⟨⟨⟨⟨⟨trivial, lc rfl rfl fun hs hh => stp_fieldAddr (j := 1) Tryz.underlying39 rfl ts37 rfl (sv hs 9 rfl) rfl⟩, lc rfl rfl fun hs hh => stp_load1 ts37 (sv hs 18 rfl) (Cells.box (id := 5) (hh.get 5 _ rfl) 1 rfl)⟩, lc rfl rfl fun hs hh => stp_move (sv hs 2 rfl)⟩, lc rfl rfl fun hs hh => stp_loadN (us := [_, _]) ts51 (sv hs 5 rfl) (Cells.box (id := 1) (hh.get 1 _ rfl) 2 rfl)⟩, lc rfl rfl fun hs hh => stp_move (sv hs 3 rfl)⟩, lc rfl rfl fun hs hh => stp_fieldAddr (j := 0) Tryz.underlying39 rfl ts22 rfl (sv hs 9 rfl) rfl⟩, lc rfl rfl fun hs hh => stp_load1 ts22 (sv hs 23 rfl) (Cells.box (id := 5) (hh.get 5 _ rfl) 1 rfl)⟩, lc rfl rfl fun hs hh => stp_move (sv hs 10 rfl)⟩, lc rfl rfl fun hs hh => stp_indexAddr Tryz.underlying22 ts3 (by decide) (sv hs 24 rfl) rfl (sv hs 25 rfl) (Rdb.own (id := 3) (hh.get 3 _ rfl) o8) e15⟩, lc rfl rfl fun hs hh => stp_load1 ts3 (sv hs 26 rfl) (Cells.el (Rdb.own (id := 3) (hh.get 3 _ rfl) o8) (by decide) e15 0 1 rfl)⟩, lc rfl rfl fun hs hh => stp_build (cs := #[.bool true, .int .i64 a1.s, .int .i64 a1.p, .int .i64 a3, .int .i64 x15]) (sevp_cons rfl (sevp_cons (sv hs 21 rfl) (sevp_cons (sv hs 22 rfl) (sevp_cons (sv hs 27 rfl) sevp_nil)))) bt127_6⟩, lc rfl rfl fun hs hh => stp_indexAddr Tryz.underlying37 ts127 (by decide) (sv hs 19 rfl) rfl (sv hs 20 rfl) (Rdb.own (id := 4) (hh.get 4 _ rfl) o12) e16⟩, ?_⟩
    · refine le rfl rfl (fun g hΦ s h hs hh => (stpU_storeEl (id := 4) (i := 0) (⟨true, a1, a3, x15⟩ : F) (by decide) ts127 (sv hs 29 rfl) (sv hs 28 rfl) (hh.get 4 _ rfl) o12 e16 rfl rfl rfl rfl)) ?_
      rintro g _ _ ⟨C17, rfl, o17⟩
      exact ⟨⟨[], [], [C17]⟩, o17, .inl rfl, rfl⟩
  · intro g hΦ
    refine kw_gen (ι := Res) ((g 12).R 0) (fun | C17 => OwnC (α := F) 127 p9 c11 (x4.f.set (Int.toNat a2) (⟨true, a1, a3, x15⟩ : F)) C17) (fun | C17 => [(2, .int .i64 a2), (8, .pointer (some ⟨b3, 0, none⟩)), (9, .pointer (some ⟨b13, 0, none⟩)), (10, .int .i64 x14)]) (fun | C17 => [(2, [(b3, .cells #[.slice none 0 0, .slice none 0 0] 39 (0, 0))]), (3, C8), (4, C17), (5, [(b13, .cells #[.slice p5 ((x4.b).length) c7, .slice p9 ((x4.f).length) c11] 39 (0, 0))])]) (hΦ 12 (by decide)) ⟨rfl, rfl, rfl, rfl, trivial⟩ ⟨rfl, rfl, rfl, rfl, trivial⟩ ?_
    rintro C17 o17
    have o17 : OwnC (α := F) 127 p9 c11 (x4.f.set (Int.toNat a2) (⟨true, a1, a3, x15⟩ : F)) C17 := o17
    refine KW.sub (s' := [(2, .int .i64 a2), (8, .pointer (some ⟨b3, 0, none⟩)), (9, .pointer (some ⟨b13, 0, none⟩)), (10, .int .i64 x14)]) (h' := [(2, [(b3, .cells #[.slice none 0 0, .slice none 0 0] 39 (0, 0))]), (3, C8), (4, C17), (5, [(b13, .cells #[.slice p5 ((x4.b).length) c7, .slice p9 ((x4.f).length) c11] 39 (0, 0))])]) ?_ ⟨rfl, rfl, rfl, rfl, trivial⟩ ⟨rfl, rfl, rfl, rfl, trivial⟩
    refine kw_nx (sr (oD (fA 0 Tryz.underlying39 rfl ts22 rfl rfl rfl) rfl (oD (lB 5 ts22 rfl rfl rfl) rfl (oD (mv rfl) rfl (oD (mv rfl) rfl (oD (stp_indexAddr Tryz.underlying22 ts3 (by decide) rfl rfl rfl (Rdb.own (id := 3) rfl o8) e15) rfl (oF (stpU_storeEl (id := 3) (i := 0) a2 (by decide) ts3 rfl rfl rfl o8 e15 rfl rfl rfl rfl) ?_)))))))
    rintro _ _ ⟨C18, rfl, o18⟩
    refine nn (sr (oD (stp_loadN (us := [_, _]) ts39 rfl (Cells.box (id := 5) rfl 2 rfl)) rfl (oF (stpU_store (id := 2) (cs' := [.slice p5 ((x4.b).length) c7, .slice p9 ((x4.f).length) c11]) ts39 rfl rfl rfl rfl rfl rfl rfl) ?_)))
    rintro _ _ rfl
    refine nn (cw_ret ?_)
    have q0 := Option.some.inj H0
    subst q0
    exact kw_ret Tryz.results130 (.cons (.cellN (us := [_, _]) ts39 rfl (Cells.box (id := 2) rfl 2 rfl)) .nil) [(0, C18), (1, C17)] [3, 4] ⟨3, [4], rfl, rfl, 4, [], rfl, rfl, trivial⟩ (by decide) ⟨p5, ((x4.b).length), c7, C18, p9, ((x4.f).length), c11, C17, rfl, rfl, (by simp), o18, (by simp), o17⟩

set_option maxHeartbeats 4000000 in
set_option maxRecDepth 20000 in
theorem c_s_MapPage (fl : Nat) (w : World) (a0 : T) (p0_0 : Option Addr) (n0_0 c0_0 : Nat) (p0_1 : Option Addr) (n0_1 c0_1 : Nat) (a1 : K) (a2 : Int) (a3 : Int) (hn0_0 : n0_0 = (a0.b).length) (hr0_0 : RO w (hkeys []) (RdL p0_0 c0_0 a0.b)) (hn0_1 : n0_1 = (a0.f).length) (hr0_1 : RO w (hkeys []) (RdL p0_1 c0_1 a0.f)) (r : T × Bool) (H0 : s_MapPage fl a0 a1 a2 a3 = some r) :
    Ct Tryz.prog 55 [.agg #[.slice p0_0 n0_0 c0_0, .slice p0_1 n0_1 c0_1], .agg #[.int .i64 a1.s, .int .i64 a1.p], .int .i64 a2, .int .i64 a3] w [] (fun rv h' => ∃ (x0 : Option Addr) (y0 z0 : Nat) (C0 : Res) (x1 : Option Addr) (y1 z1 : Nat) (C1 : Res), rv = .tuple #[.agg #[.slice x0 y0 z0, .slice x1 y1 z1], .bool r.2] ∧ h' = [(0, C0), (1, C1)] ∧ y0 = (r.1.b).length ∧ OwnC 3 x0 z0 r.1.b C0 ∧ y1 = (r.1.f).length ∧ OwnC 127 x1 z1 r.1.f C1) := by
  obtain rfl := hn0_0
  obtain rfl := hn0_1
  unfold s_MapPage at H0
  refine ct_of_cw Tryz.func55 rfl Tryz.ntmps55 rfl (Sat.refl _ _) ?_
  refine sr (oE (stpU_box 0 rfl rfl) rfl ?_)
  rintro _ _ ⟨b1, rfl, rfl⟩
  refine oE (stpU_box 1 rfl rfl) rfl ?_
  rintro _ _ ⟨b2, rfl, rfl⟩
  refine oE (stpU_alloc 2 tz39 rfl) rfl ?_
  rintro _ _ ⟨b3, rfl, rfl⟩
  obtain ⟨x4, e4, H0⟩ := bind_some H0
  refine oD (sg rfl) rfl (nn (cw_seq (sr (oD (stp_loadN (us := [_, _]) ts39 rfl (Cells.box (id := 0) rfl 2 rfl)) rfl (oE (stpU_call (fun i => 3 + i) cf124 (fun w hw => c_s_TableValid fl w a0 p0_0 ((a0.b).length) c0_0 p0_1 ((a0.f).length) c0_1 rfl (RO.pass hr0_0 hw) rfl (RO.pass hr0_1 hw) x4 e4) (sevs_cons rfl sevs_nil)) rfl ?_)))))
  rintro _ _ ⟨_, ⟨rfl, rfl⟩, rfl⟩
  obtain ⟨y5, ey5, H0⟩ := bind_some H0
  refine oD (stp_not rfl) rfl (oD (mv rfl) rfl (ow_cutY 4 19 y5 ?_ ?_))
  · rcases Bool.eq_false_or_eq_true (!x4) with hy5 | hy5
    · have ey5 := cond_t ey5 hy5
      refine oO rfl hy5 rfl (oO rfl hy5 rfl (oO rfl hy5 rfl (oD (stp_pick_t rfl hy5 rfl) rfl ?_)))
      obtain rfl := Option.some.inj ey5
      exact ow_nil (jy 4 0)
    · have ey5 := cond_f ey5 hy5
      obtain ⟨x6, e6, ey5⟩ := bind_some ey5
      refine oG rfl hy5 (stp_loadN (us := [_, _]) ts51 rfl (Cells.box (id := 1) rfl 2 rfl)) rfl (ow_eff (.some rfl hy5) (stpU_call (fun i => 3 + i) cf129 (fun w hw => c_s_KeyValid fl w a1 x6 e6) (sevs_cons rfl sevs_nil)) rfl ?_)
      rintro _ _ ⟨_, ⟨rfl, rfl⟩, rfl⟩
      refine oG rfl hy5 (stp_not rfl) rfl (oD (stp_pick_f rfl hy5 rfl) rfl ?_)
      obtain rfl := Option.some.inj ey5
      exact ow_nil (jy 4 0)
  · obtain ⟨y7, ey7, H0⟩ := bind_some H0
    refine oD (mv rfl) rfl (ow_cutY 4 24 y7 ?_ ?_)
    · rcases Bool.eq_false_or_eq_true y5 with hy7 | hy7
      · have ey7 := cond_t ey7 hy7
        refine oO rfl hy7 rfl (oO rfl hy7 rfl (oO rfl hy7 rfl (oD (stp_pick_t rfl hy7 rfl) rfl ?_)))
        obtain rfl := Option.some.inj ey7
        exact ow_nil (jy 4 0)
      · have ey7 := cond_f ey7 hy7
        obtain ⟨x8, e8, ey7⟩ := bind_some ey7
        refine oG rfl hy7 (mv rfl) rfl (ow_eff (.some rfl hy7) (stpU_call (fun i => 3 + i) cf83 (fun w hw => c_s_RightsValid fl w a3 x8 e8) (sevs_cons rfl sevs_nil)) rfl ?_)
        rintro _ _ ⟨_, ⟨rfl, rfl⟩, rfl⟩
        refine oG rfl hy7 (stp_not rfl) rfl (oD (stp_pick_f rfl hy7 rfl) rfl ?_)
        obtain rfl := Option.some.inj ey7
        exact ow_nil (jy 4 0)
    · obtain ⟨y9, ey9, H0⟩ := bind_some H0
      refine oD (mv rfl) rfl (ow_cutY 3 28 y9 ?_ ?_)
      · rcases Bool.eq_false_or_eq_true y7 with hy9 | hy9
        · have ey9 := cond_t ey9 hy9
          refine oO rfl hy9 rfl (oO rfl hy9 rfl (oD (stp_pick_t rfl hy9 rfl) rfl ?_))
          obtain rfl := Option.some.inj ey9
          exact ow_nil (jy 3 0)
        · have ey9 := cond_f ey9 hy9
          refine oG rfl hy9 (mv rfl) rfl (oG rfl hy9 (stp_lss rfl rfl) rfl (oD (stp_pick_f rfl hy9 rfl) rfl ?_))
          obtain rfl := Option.some.inj ey9
          exact ow_nil (jy 3 0)
      · obtain ⟨y10, ey10, H0⟩ := bind_some H0
        refine oD (mv rfl) rfl (ow_cutY 6 35 y10 ?_ ?_)
        · rcases Bool.eq_false_or_eq_true y9 with hy10 | hy10
          · have ey10 := cond_t ey10 hy10
            refine oO rfl hy10 rfl (oO rfl hy10 rfl (oO rfl hy10 rfl (oO rfl hy10 rfl (oO rfl hy10 rfl (oD (stp_pick_t rfl hy10 rfl) rfl ?_)))))
            obtain rfl := Option.some.inj ey10
            exact ow_nil (jy 6 0)
          · have ey10 := cond_f ey10 hy10
            refine oG rfl hy10 (mv rfl) rfl (oG rfl hy10 (fA 1 Tryz.underlying39 rfl ts37 rfl rfl rfl) rfl (oG rfl hy10 (lB 0 ts37 rfl rfl rfl) rfl (oG rfl hy10 (stp_len Tryz.underlying37 rfl) rfl (oG rfl hy10 (stp_geq rfl rfl) rfl (oD (stp_pick_f rfl hy10 rfl) rfl ?_)))))
            obtain rfl := Option.some.inj ey10
            exact ow_nil (jy 6 0)
        · obtain ⟨y11, ey11, H0⟩ := bind_some H0
          refine oD (mv rfl) rfl (ow_cutY 7 43 y11 ?_ ?_)
          · rcases Bool.eq_false_or_eq_true y10 with hy11 | hy11
            · have ey11 := cond_t ey11 hy11
              refine oO rfl hy11 rfl (oO rfl hy11 rfl (oO rfl hy11 rfl (oO rfl hy11 rfl (oO rfl hy11 rfl (oO rfl hy11 rfl (oD (stp_pick_t rfl hy11 rfl) rfl ?_))))))
              obtain rfl := Option.some.inj ey11
              exact ow_nil (jy 7 0)
            · have ey11 := cond_f ey11 hy11
              obtain ⟨x12, e12, ey11⟩ := bind_some ey11
              refine oG rfl hy11 (fA 1 Tryz.underlying39 rfl ts37 rfl rfl rfl) rfl (oG rfl hy11 (lB 0 ts37 rfl rfl rfl) rfl (oG rfl hy11 (mv rfl) rfl (oG rfl hy11 (stp_indexAddr Tryz.underlying37 ts127 (by decide) rfl rfl rfl (Rdb.ro hr0_1) e12) rfl (oG rfl hy11 (fA 0 Tryz.underlying127 rfl ts4 rfl rfl rfl) rfl (oG rfl hy11 (stp_load1 ts4 rfl (Cells.el (Rdb.ro hr0_1) (by decide) e12 0 1 rfl)) rfl (oD (stp_pick_f rfl hy11 rfl) rfl ?_))))))
              obtain rfl := Option.some.inj ey11
              exact ow_nil (jy 7 0)
          · refine ow_nil (kw_nx (cw_cond rfl (fun h13 => ?_) (fun h13 => ?_)))
            · have H0 := cond_t H0 h13
              refine sr (oD (stp_build (cs := #[.slice none 0 0, .slice none 0 0]) sevp_nil bt39_4) rfl (oF (stpU_store (id := 2) (cs' := [.slice none 0 0, .slice none 0 0]) ts39 rfl rfl rfl rfl rfl rfl rfl) ?_))
              rintro _ _ rfl
              refine oD (sg rfl) rfl (nn (cw_ret (kw_nx_ret (kw_addNil 3 (kw_addNil 4 ?_)))))
              have q0 := Option.some.inj H0
              subst q0
              exact kw_ret Tryz.results55 (.cons (.cellN (us := [_, _]) ts39 rfl (Cells.box (id := 2) rfl 2 rfl)) (.cons (.tmp rfl) .nil)) [(0, []), (1, [])] [3, 4] ⟨3, [4], rfl, rfl, 4, [], rfl, rfl, trivial⟩ (by decide) ⟨none, 0, 0, [], none, 0, 0, [], rfl, rfl, rfl, (OwnC.nil _ _), rfl, (OwnC.nil _ _)⟩
            · have H0 := cond_f H0 h13
              obtain ⟨x14, e14, H0⟩ := bind_some H0
              refine cw_skip (kw_nx (sr (oD (stp_loadN (us := [_, _]) ts39 rfl (Cells.box (id := 0) rfl 2 rfl)) rfl (oD (stp_loadN (us := [_, _]) ts51 rfl (Cells.box (id := 1) rfl 2 rfl)) rfl (oE (stpU_call (fun i => 5 + i) cf86 (fun w hw => c_s_l3Find fl w a0 p0_0 ((a0.b).length) c0_0 p0_1 ((a0.f).length) c0_1 a1 rfl (RO.pass hr0_0 hw) rfl (RO.pass hr0_1 hw) x14 e14) (sevs_cons rfl (sevs_cons rfl sevs_nil))) rfl ?_)))))
              rintro _ _ ⟨_, ⟨rfl, rfl⟩, rfl⟩
              refine oD (mv rfl) rfl (oD (stp_extract rfl rfl) rfl (oD (stp_extract rfl rfl) rfl (oD (sg rfl) rfl (oD (sg rfl) rfl (nn (cw_seq (sr (oD (mv rfl) rfl (oD (stp_geq rfl rfl) rfl (nn (cw_cond rfl (fun h15 => ?_) (fun h15 => ?_))))))))))))
              · have H0 := cond_t H0 h15
                refine sr (oD (stp_build (cs := #[.slice none 0 0, .slice none 0 0]) sevp_nil bt39_4) rfl (oF (stpU_store (id := 2) (cs' := [.slice none 0 0, .slice none 0 0]) ts39 rfl rfl rfl rfl rfl rfl rfl) ?_))
                rintro _ _ rfl
                refine oD (sg rfl) rfl (nn (cw_ret (kw_nx_ret (kw_addNil 5 (kw_addNil 6 ?_)))))
                have q0 := Option.some.inj H0
                subst q0
                exact kw_ret Tryz.results55 (.cons (.cellN (us := [_, _]) ts39 rfl (Cells.box (id := 2) rfl 2 rfl)) (.cons (.tmp rfl) .nil)) [(0, []), (1, [])] [5, 6] ⟨5, [6], rfl, rfl, 6, [], rfl, rfl, trivial⟩ (by decide) ⟨none, 0, 0, [], none, 0, 0, [], rfl, rfl, rfl, (OwnC.nil _ _), rfl, (OwnC.nil _ _)⟩
              · have H0 := cond_f H0 h15
                obtain ⟨x16, e16, H0⟩ := bind_some H0
                refine cw_skip (kw_nx (sr (oD (stp_loadN (us := [_, _]) ts39 rfl (Cells.box (id := 0) rfl 2 rfl)) rfl (oD (stp_loadN (us := [_, _]) ts51 rfl (Cells.box (id := 1) rfl 2 rfl)) rfl (oD (mv rfl) rfl (oD (mv rfl) rfl (oE (stpU_call (fun i => 7 + i) cf130 (fun w hw => c_s_l3Map fl w a0 p0_0 ((a0.b).length) c0_0 p0_1 ((a0.f).length) c0_1 a1 a2 a3 rfl (RO.pass hr0_0 hw) rfl (RO.pass hr0_1 hw) x16 e16) (sevs_cons rfl (sevs_cons rfl (sevs_cons rfl (sevs_cons rfl sevs_nil))))) rfl ?_)))))))
                rintro _ _ ⟨_, ⟨p17, n18, c19, C20, p21, n22, c23, C24, rfl, rfl, hnn18, o20, hnn22, o24⟩, rfl⟩
                obtain rfl := hnn18
                obtain rfl := hnn22
                refine oF (stpU_store (id := 2) (cs' := [.slice p17 ((x16.b).length) c19, .slice p21 ((x16.f).length) c23]) ts39 rfl rfl rfl rfl rfl rfl rfl) ?_
                rintro _ _ rfl
                refine oD (sg rfl) rfl (nn (cw_ret ?_))
                have q0 := Option.some.inj H0
                subst q0
                exact kw_ret Tryz.results55 (.cons (.cellN (us := [_, _]) ts39 rfl (Cells.box (id := 2) rfl 2 rfl)) (.cons (.tmp rfl) .nil)) [(0, C20), (1, C24)] [7, 8] ⟨7, [8], rfl, rfl, 8, [], rfl, rfl, trivial⟩ (by decide) ⟨p17, ((x16.b).length), c19, C20, p21, ((x16.f).length), c23, C24, rfl, rfl, rfl, o20, rfl, o24⟩

set_option maxHeartbeats 4000000 in
set_option maxRecDepth 20000 in
theorem c_s_PutPage (fl : Nat) (w : World) (a0 : Mc) (p0_0 : Option Addr) (n0_0 c0_0 : Nat) (p0_1 : Option Addr) (n0_1 c0_1 : Nat) (p0_2 : Option Addr) (n0_2 c0_2 : Nat) (p0_3 : Option Addr) (n0_3 c0_3 : Nat) (a1 : K) (a2 : Int) (a3 : Int) (hn0_0 : n0_0 = (a0.t.b).length) (hr0_0 : RO w (hkeys []) (RdL p0_0 c0_0 a0.t.b)) (hn0_1 : n0_1 = (a0.t.f).length) (hr0_1 : RO w (hkeys []) (RdL p0_1 c0_1 a0.t.f)) (hn0_2 : n0_2 = (a0.c.l).length) (hr0_2 : RO w (hkeys []) (RdL p0_2 c0_2 a0.c.l)) (hn0_3 : n0_3 = (a0.g.o).length) (hr0_3 : RO w (hkeys []) (RdL p0_3 c0_3 a0.g.o)) (r : Mc × Bool) (H0 : s_PutPage fl a0 a1 a2 a3 = some r) :
    Ct Tryz.prog 15 [.agg #[.slice p0_0 n0_0 c0_0, .slice p0_1 n0_1 c0_1, .slice p0_2 n0_2 c0_2, .int .i64 a0.c.h, .int .i64 a0.g.c, .int .i64 a0.g.n, .int .i64 a0.g.r, .slice p0_3 n0_3 c0_3, .int .i64 a0.s], .agg #[.int .i64 a1.s, .int .i64 a1.p], .int .i64 a2, .int .i64 a3] w [] (fun rv h' => ∃ (x0 : Option Addr) (y0 z0 : Nat) (C0 : Res) (x1 : Option Addr) (y1 z1 : Nat) (C1 : Res) (x2 : Option Addr) (y2 z2 : Nat) (C2 : Res) (x3 : Option Addr) (y3 z3 : Nat) (C3 : Res), rv = .tuple #[.agg #[.slice x0 y0 z0, .slice x1 y1 z1, .slice x2 y2 z2, .int .i64 r.1.c.h, .int .i64 r.1.g.c, .int .i64 r.1.g.n, .int .i64 r.1.g.r, .slice x3 y3 z3, .int .i64 r.1.s], .bool r.2] ∧ h' = [(0, C0), (1, C1), (2, C2), (3, C3)] ∧ y0 = (r.1.t.b).length ∧ OwnC 3 x0 z0 r.1.t.b C0 ∧ y1 = (r.1.t.f).length ∧ OwnC 127 x1 z1 r.1.t.f C1 ∧ y2 = (r.1.c.l).length ∧ OwnC 112 x2 z2 r.1.c.l C2 ∧ y3 = (r.1.g.o).length ∧ OwnC 148 x3 z3 r.1.g.o C3) := by
  obtain rfl := hn0_0
  obtain rfl := hn0_1
  obtain rfl := hn0_2
  obtain rfl := hn0_3
  unfold s_PutPage at H0
  refine ct_of_cw Tryz.func15 rfl Tryz.ntmps15 rfl (Sat.refl _ _) ?_
  refine sr (oE (stpU_box 0 rfl rfl) rfl ?_)
  rintro _ _ ⟨b1, rfl, rfl⟩
  refine oE (stpU_box 1 rfl rfl) rfl ?_
  rintro _ _ ⟨b2, rfl, rfl⟩
  refine oE (stpU_alloc 2 tz47 rfl) rfl ?_
  rintro _ _ ⟨b3, rfl, rfl⟩
  obtain ⟨x4, e4, H0⟩ := bind_some H0
  refine oD (sg rfl) rfl (nn (cw_seq (sr (oD (stp_loadN (us := [_, _, _, _, _, _, _, _, _]) ts47 rfl (Cells.box (id := 0) rfl 9 rfl)) rfl (oE (stpU_call (fun i => 3 + i) cf53 (fun w hw => c_s_MachineValid fl w a0 p0_0 ((a0.t.b).length) c0_0 p0_1 ((a0.t.f).length) c0_1 p0_2 ((a0.c.l).length) c0_2 p0_3 ((a0.g.o).length) c0_3 rfl (RO.pass hr0_0 hw) rfl (RO.pass hr0_1 hw) rfl (RO.pass hr0_2 hw) rfl (RO.pass hr0_3 hw) x4 e4) (sevs_cons rfl sevs_nil)) rfl ?_)))))
  rintro _ _ ⟨_, ⟨rfl, rfl⟩, rfl⟩
  obtain ⟨y5, ey5, H0⟩ := bind_some H0
  refine oD (stp_not rfl) rfl (oD (mv rfl) rfl (ow_cutY 4 20 y5 ?_ ?_))
  · rcases Bool.eq_false_or_eq_true (!x4) with hy5 | hy5
    · have ey5 := cond_t ey5 hy5
      refine oO rfl hy5 rfl (oO rfl hy5 rfl (oO rfl hy5 rfl (oD (stp_pick_t rfl hy5 rfl) rfl ?_)))
      obtain rfl := Option.some.inj ey5
      exact ow_nil (jy 4 0)
    · have ey5 := cond_f ey5 hy5
      obtain ⟨x6, e6, ey5⟩ := bind_some ey5
      refine oG rfl hy5 (stp_loadN (us := [_, _]) ts51 rfl (Cells.box (id := 1) rfl 2 rfl)) rfl (ow_eff (.some rfl hy5) (stpU_call (fun i => 3 + i) cf54 (fun w hw => c_s_l6Shared fl w a1 x6 e6) (sevs_cons rfl sevs_nil)) rfl ?_)
      rintro _ _ ⟨_, ⟨rfl, rfl⟩, rfl⟩
      refine oG rfl hy5 (stp_not rfl) rfl (oD (stp_pick_f rfl hy5 rfl) rfl ?_)
      obtain rfl := Option.some.inj ey5
      exact ow_nil (jy 4 0)
  · refine ow_nil (kw_nx (cw_cond rfl (fun h7 => ?_) (fun h7 => ?_)))
    · have H0 := cond_t H0 h7
      refine sr (oD (stp_build (cs := #[.slice none 0 0, .slice none 0 0, .slice none 0 0, .int .i64 0, .int .i64 0, .int .i64 0, .int .i64 0, .slice none 0 0, .int .i64 0]) sevp_nil bt47_3) rfl (oF (stpU_store (id := 2) (cs' := [.slice none 0 0, .slice none 0 0, .slice none 0 0, .int .i64 0, .int .i64 0, .int .i64 0, .int .i64 0, .slice none 0 0, .int .i64 0]) ts47 rfl rfl rfl rfl rfl rfl rfl) ?_))
      rintro _ _ rfl
      refine oD (sg rfl) rfl (nn (cw_ret (kw_nx_ret (kw_addNil 3 (kw_addNil 4 (kw_addNil 5 (kw_addNil 6 ?_)))))))
      have q0 := Option.some.inj H0
      subst q0
      exact kw_ret Tryz.results15 (.cons (.cellN (us := [_, _, _, _, _, _, _, _, _]) ts47 rfl (Cells.box (id := 2) rfl 9 rfl)) (.cons (.tmp rfl) .nil)) [(0, []), (1, []), (2, []), (3, [])] [3, 4, 5, 6] ⟨3, [4, 5, 6], rfl, rfl, 4, [5, 6], rfl, rfl, 5, [6], rfl, rfl, 6, [], rfl, rfl, trivial⟩ (by decide) ⟨none, 0, 0, [], none, 0, 0, [], none, 0, 0, [], none, 0, 0, [], rfl, rfl, rfl, (OwnC.nil _ _), rfl, (OwnC.nil _ _), rfl, (OwnC.nil _ _), rfl, (OwnC.nil _ _)⟩
    · have H0 := cond_f H0 h7
      obtain ⟨x8, e8, H0⟩ := bind_some H0
      refine cw_skip (kw_nx (sr (oD (fA 0 Tryz.underlying47 rfl ts39 rfl rfl rfl) rfl (oD (stp_loadN (us := [_, _]) ts39 rfl (Cells.box (id := 0) rfl 2 rfl)) rfl (oD (stp_loadN (us := [_, _]) ts51 rfl (Cells.box (id := 1) rfl 2 rfl)) rfl (oD (mv rfl) rfl (oD (mv rfl) rfl (oE (stpU_call (fun i => 7 + i) cf55 (fun w hw => c_s_MapPage fl w a0.t p0_0 ((a0.t.b).length) c0_0 p0_1 ((a0.t.f).length) c0_1 a1 a2 a3 rfl (RO.pass hr0_0 hw) rfl (RO.pass hr0_1 hw) x8 e8) (sevs_cons rfl (sevs_cons rfl (sevs_cons rfl (sevs_cons rfl sevs_nil))))) rfl ?_))))))))
      rintro _ _ ⟨_, ⟨p9, n10, c11, C12, p13, n14, c15, C16, rfl, rfl, hnn10, o12, hnn14, o16⟩, rfl⟩
      obtain rfl := hnn10
      obtain rfl := hnn14
      refine oD (mv rfl) rfl (oD (stp_extract rfl rfl) rfl (oD (stp_extract rfl rfl) rfl (oE (stpU_alloc 9 tz39 rfl) rfl ?_)))
      rintro _ _ ⟨b17, rfl, rfl⟩
      refine oF (stpU_store (id := 9) (cs' := [.slice p9 ((x8.1.b).length) c11, .slice p13 ((x8.1.f).length) c15]) ts39 rfl rfl rfl rfl rfl rfl rfl) ?_
      rintro _ _ rfl
      refine oD (sg rfl) rfl (nn (cw_seq (sr (oD (mv rfl) rfl (oD (stp_not rfl) rfl (nn (cw_cond rfl (fun h18 => ?_) (fun h18 => ?_))))))))
      · have H0 := cond_t H0 h18
        refine sr (oD (stp_build (cs := #[.slice none 0 0, .slice none 0 0, .slice none 0 0, .int .i64 0, .int .i64 0, .int .i64 0, .int .i64 0, .slice none 0 0, .int .i64 0]) sevp_nil bt47_3) rfl (oF (stpU_store (id := 2) (cs' := [.slice none 0 0, .slice none 0 0, .slice none 0 0, .int .i64 0, .int .i64 0, .int .i64 0, .int .i64 0, .slice none 0 0, .int .i64 0]) ts47 rfl rfl rfl rfl rfl rfl rfl) ?_))
        rintro _ _ rfl
        refine oD (sg rfl) rfl (nn (cw_ret (kw_nx_ret (kw_addNil 10 (kw_addNil 11 (kw_addNil 12 (kw_addNil 13 ?_)))))))
        have q0 := Option.some.inj H0
        subst q0
        exact kw_ret Tryz.results15 (.cons (.cellN (us := [_, _, _, _, _, _, _, _, _]) ts47 rfl (Cells.box (id := 2) rfl 9 rfl)) (.cons (.tmp rfl) .nil)) [(0, []), (1, []), (2, []), (3, [])] [10, 11, 12, 13] ⟨10, [11, 12, 13], rfl, rfl, 11, [12, 13], rfl, rfl, 12, [13], rfl, rfl, 13, [], rfl, rfl, trivial⟩ (by decide) ⟨none, 0, 0, [], none, 0, 0, [], none, 0, 0, [], none, 0, 0, [], rfl, rfl, rfl, (OwnC.nil _ _), rfl, (OwnC.nil _ _), rfl, (OwnC.nil _ _), rfl, (OwnC.nil _ _)⟩
      · have H0 := cond_f H0 h18
        obtain ⟨x19, e19, H0⟩ := bind_some H0
        refine cw_skip (kw_nx (sr (oD (stp_loadN (us := [_, _, _, _, _, _, _, _, _]) ts47 rfl (Cells.box (id := 0) rfl 9 rfl)) rfl (oE (stpU_call (fun i => 14 + i) cf56 (fun w hw => c_s_l6Copy fl w a0 p0_0 ((a0.t.b).length) c0_0 p0_1 ((a0.t.f).length) c0_1 p0_2 ((a0.c.l).length) c0_2 p0_3 ((a0.g.o).length) c0_3 rfl (RO.pass hr0_0 hw) rfl (RO.pass hr0_1 hw) rfl (RO.pass hr0_2 hw) rfl (RO.pass hr0_3 hw) x19 e19) (sevs_cons rfl sevs_nil)) rfl ?_))))
        rintro _ _ ⟨_, ⟨p20, n21, c22, C23, p24, n25, c26, C27, p28, n29, c30, C31, p32, n33, c34, C35, rfl, rfl, hnn21, o23, hnn25, o27, hnn29, o31, hnn33, o35⟩, rfl⟩
        obtain rfl := hnn21
        obtain rfl := hnn25
        obtain rfl := hnn29
        obtain rfl := hnn33
        refine oE (stpU_alloc 18 tz47 rfl) rfl ?_
        rintro _ _ ⟨b36, rfl, rfl⟩
        refine oF (stpU_store (id := 18) (cs' := [.slice p20 ((x19.t.b).length) c22, .slice p24 ((x19.t.f).length) c26, .slice p28 ((x19.c.l).length) c30, .int .i64 x19.c.h, .int .i64 x19.g.c, .int .i64 x19.g.n, .int .i64 x19.g.r, .slice p32 ((x19.g.o).length) c34, .int .i64 x19.s]) ts47 rfl rfl rfl rfl rfl rfl rfl) ?_
        rintro _ _ rfl
        refine nn (sr (oD (stp_loadN (us := [_, _]) ts39 rfl (Cells.box (id := 9) rfl 2 rfl)) rfl (oD (fA 0 Tryz.underlying47 rfl ts39 rfl rfl rfl) rfl (oF (stpU_store (id := 18) (cs' := [.slice p9 ((x8.1.b).length) c11, .slice p13 ((x8.1.f).length) c15, .slice p28 ((x19.c.l).length) c30, .int .i64 x19.c.h, .int .i64 x19.g.c, .int .i64 x19.g.n, .int .i64 x19.g.r, .slice p32 ((x19.g.o).length) c34, .int .i64 x19.s]) ts39 rfl rfl rfl rfl rfl rfl rfl) ?_))))
        rintro _ _ rfl
        refine nn (sr (oD (stp_loadN (us := [_, _, _, _, _, _, _, _, _]) ts47 rfl (Cells.box (id := 18) rfl 9 rfl)) rfl (oF (stpU_store (id := 2) (cs' := [.slice p9 ((x8.1.b).length) c11, .slice p13 ((x8.1.f).length) c15, .slice p28 ((x19.c.l).length) c30, .int .i64 x19.c.h, .int .i64 x19.g.c, .int .i64 x19.g.n, .int .i64 x19.g.r, .slice p32 ((x19.g.o).length) c34, .int .i64 x19.s]) ts47 rfl rfl rfl rfl rfl rfl rfl) ?_)))
        rintro _ _ rfl
        refine oD (sg rfl) rfl (nn (cw_ret ?_))
        have q0 := Option.some.inj H0
        subst q0
        exact kw_ret Tryz.results15 (.cons (.cellN (us := [_, _, _, _, _, _, _, _, _]) ts47 rfl (Cells.box (id := 2) rfl 9 rfl)) (.cons (.tmp rfl) .nil)) [(0, C12), (1, C16), (2, C31), (3, C35)] [7, 8, 16, 17] ⟨7, [8, 16, 17], rfl, rfl, 8, [16, 17], rfl, rfl, 16, [17], rfl, rfl, 17, [], rfl, rfl, trivial⟩ (by decide) ⟨p9, ((x8.1.b).length), c11, C12, p13, ((x8.1.f).length), c15, C16, p28, ((x19.c.l).length), c30, C31, p32, ((x19.g.o).length), c34, C35, rfl, rfl, rfl, o12, rfl, o16, rfl, o31, rfl, o35⟩

set_option maxHeartbeats 4000000 in
set_option maxRecDepth 20000 in
theorem c_i_Table_link (fl : Nat) (w : World) (a0 : T) (p0_0 : Option Addr) (n0_0 c0_0 : Nat) (C0_0 : Res) (p0_1 : Option Addr) (n0_1 c0_1 : Nat) (C0_1 : Res) (a1 : K) (a2 : Int) (a3 : Int) (hn0_0 : n0_0 = (a0.b).length) (ho0_0 : OwnC (α := Int) 3 p0_0 c0_0 a0.b C0_0) (hn0_1 : n0_1 = (a0.f).length) (ho0_1 : OwnC (α := F) 127 p0_1 c0_1 a0.f C0_1) (hM : Sat w (hkeys [(0, C0_0), (1, C0_1)]) w [(0, C0_0), (1, C0_1)]) (r : (List Int) × (List F)) (H0 : i_Table_link fl a0 a1 a2 a3 = some r) :
    Ct Tryz.prog 145 [.agg #[.slice p0_0 n0_0 c0_0, .slice p0_1 n0_1 c0_1], .agg #[.int .i64 a1.s, .int .i64 a1.p], .int .i64 a2, .int .i64 a3] w [(0, C0_0), (1, C0_1)] (fun rv h' => ∃ (D0 : Res) (D1 : Res), rv = .tuple #[] ∧ h' = [(0, D0), (1, D1)] ∧ n0_0 = (r.1).length ∧ OwnC (α := Int) 3 p0_0 c0_0 r.1 D0 ∧ n0_1 = (r.2).length ∧ OwnC (α := F) 127 p0_1 c0_1 r.2 D1) := by
  obtain rfl := hn0_0
  obtain rfl := hn0_1
  unfold i_Table_link at H0
  refine ct_of_cw Tryz.func145 rfl Tryz.ntmps145 rfl hM ?_
  refine sr (oE (stpU_box 2 rfl rfl) rfl ?_)
  rintro _ _ ⟨b1, rfl, rfl⟩
  refine oE (stpU_box 3 rfl rfl) rfl ?_
  rintro _ _ ⟨b2, rfl, rfl⟩
  obtain ⟨x3, e3, H0⟩ := bind_some H0
  refine nn (sr (oD (stp_loadN (us := [_, _]) ts51 rfl (Cells.box (id := 3) rfl 2 rfl)) rfl (oD (fA 0 Tryz.underlying39 rfl ts22 rfl rfl rfl) rfl (oD (lB 2 ts22 rfl rfl rfl) rfl (oD (stp_len Tryz.underlying22 rfl) rfl (oE (stpU_call (fun i => 4 + i) cf166 (fun w hw => c_i_hash fl w a1 ((a0.b).length : Int) x3 e3) (sevs_cons rfl (sevs_cons rfl sevs_nil))) rfl ?_))))))
  rintro _ _ ⟨_, ⟨rfl, rfl⟩, rfl⟩
  obtain ⟨x4, e4, H0⟩ := bind_some H0
  obtain ⟨x5, e5, H0⟩ := bind_some H0
  refine oD (sg rfl) rfl (nn (cw_seq (rdr g_mixed [2, 3, 4, 5, 8] [0, 1, 2, 3] { dst := dS [15, 16, 17, 18, 19, 20, 21, 22, 23, 24, 25, 26, 0], pre := gA [] [[], [0], [], [], [], [], [5], [], [5, 6, 7], rn 5 4, rn 3 7, rn 0 11, rn 0 12], ids := fun i => match i with | 12 => [1] | _ => [], rs := rL [[(4, 0)], [(14, 1)], [(2, 0)], [(5, 0)], [(3, 0)], [(4, 0)], [(19, 6)], [(8, 0)], [(20, 7), (21, 8)], [(22, 9)], [(17, 4), (18, 5), (23, 10)], [(15, 2), (16, 3)], [(25, 12), (24, 11)]], rh := rL [[], [(2, 0)], [], [(3, 0)], [], [], [(2, 0)], [], [(0, 0)], [(0, 0)], [], [(1, 0)], [(1, 0)]], V := fun i g => gA undef [.pointer (some ⟨b1, 1, none⟩), .slice p0_1 ((a0.f).length) c0_1, .int .i64 a2, .agg #[.int .i64 a1.s, .int .i64 a1.p], .int .i64 a3, .pointer (some ⟨b1, 0, none⟩), .slice p0_0 ((a0.b).length) c0_0, .int .i64 x3, .pointer (some ⟨eB p0_0, eO p0_0 + Int.toNat x3 * Enc.sz Int + 0, none⟩), .int .i64 x4, .agg #[.bool true, .int .i64 a1.s, .int .i64 a1.p, .int .i64 a3, .int .i64 x4], .pointer (some ⟨eB p0_1, eO p0_1 + Int.toNat a2 * Enc.sz F + 0, none⟩)] i, U := fun i g => match i with | 12 => [(1, ((g 12).R 0))] | _ => [], Φ := fun i x => match i with | 12 => OwnC (α := F) 127 p0_1 c0_1 (a0.f.set (Int.toNat a2) (⟨true, a1, a3, x4⟩ : F)) (x.R 0) | _ => True } ?_ ?_)))
  · refine ⟨⟨⟨⟨⟨⟨⟨⟨⟨⟨⟨⟨⟨trivial, lc rfl rfl fun hs hh => stp_fieldAddr (j := 1) Tryz.underlying39 rfl ts37 rfl (sv hs 4 rfl) rfl⟩, lc rfl rfl fun hs hh => stp_load1 ts37 (sv hs 14 rfl) (Cells.box (id := 2) (hh.get 2 _ rfl) 1 rfl)⟩, lc rfl rfl fun hs hh => stp_move (sv hs 2 rfl)⟩, lc rfl rfl fun hs hh => stp_loadN (us := [_, _]) ts51 (sv hs 5 rfl) (Cells.box (id := 3) (hh.get 3 _ rfl) 2 rfl)⟩, lc rfl rfl fun hs hh => stp_move (sv hs 3 rfl)⟩, lc rfl rfl fun hs hh => stp_fieldAddr (j := 0) Tryz.underlying39 rfl ts22 rfl (sv hs 4 rfl) rfl⟩, lc rfl rfl fun hs hh => stp_load1 ts22 (sv hs 19 rfl) (Cells.box (id := 2) (hh.get 2 _ rfl) 1 rfl)⟩, lc rfl rfl fun hs hh => stp_move (sv hs 8 rfl)⟩, lc rfl rfl fun hs hh => stp_indexAddr Tryz.underlying22 ts3 (by decide) (sv hs 20 rfl) rfl (sv hs 21 rfl) (Rdb.own (id := 0) (hh.get 0 _ rfl) ho0_0) e4⟩, lc rfl rfl fun hs hh => stp_load1 ts3 (sv hs 22 rfl) (Cells.el (Rdb.own (id := 0) (hh.get 0 _ rfl) ho0_0) (by decide) e4 0 1 rfl)⟩, lc rfl rfl fun hs hh => stp_build (cs := #[.bool true, .int .i64 a1.s, .int .i64 a1.p, .int .i64 a3, .int .i64 x4]) (sevp_cons rfl (sevp_cons (sv hs 17 rfl) (sevp_cons (sv hs 18 rfl) (sevp_cons (sv hs 23 rfl) sevp_nil)))) bt127_6⟩, lc rfl rfl fun hs hh => stp_indexAddr Tryz.underlying37 ts127 (by decide) (sv hs 15 rfl) rfl (sv hs 16 rfl) (Rdb.own (id := 1) (hh.get 1 _ rfl) ho0_1) e5⟩, ?_⟩
    · refine le rfl rfl (fun g hΦ s h hs hh => (stpU_storeEl (id := 1) (i := 0) (⟨true, a1, a3, x4⟩ : F) (by decide) ts127 (sv hs 25 rfl) (sv hs 24 rfl) (hh.get 1 _ rfl) ho0_1 e5 rfl rfl rfl rfl)) ?_
      rintro g _ _ ⟨C6, rfl, o6⟩
      exact ⟨⟨[], [], [C6]⟩, o6, .inl rfl, rfl⟩
  · intro g hΦ
    refine kw_gen (ι := Res) ((g 12).R 0) (fun | C6 => OwnC (α := F) 127 p0_1 c0_1 (a0.f.set (Int.toNat a2) (⟨true, a1, a3, x4⟩ : F)) C6) (fun | C6 => [(2, .int .i64 a2), (4, .pointer (some ⟨b1, 0, none⟩)), (8, .int .i64 x3)]) (fun | C6 => [(0, C0_0), (1, C6), (2, [(b1, .cells #[.slice p0_0 ((a0.b).length) c0_0, .slice p0_1 ((a0.f).length) c0_1] 39 (0, 0))])]) (hΦ 12 (by decide)) ⟨rfl, rfl, rfl, trivial⟩ ⟨rfl, rfl, rfl, trivial⟩ ?_
    rintro C6 o6
    have o6 : OwnC (α := F) 127 p0_1 c0_1 (a0.f.set (Int.toNat a2) (⟨true, a1, a3, x4⟩ : F)) C6 := o6
    refine KW.sub (s' := [(2, .int .i64 a2), (4, .pointer (some ⟨b1, 0, none⟩)), (8, .int .i64 x3)]) (h' := [(0, C0_0), (1, C6), (2, [(b1, .cells #[.slice p0_0 ((a0.b).length) c0_0, .slice p0_1 ((a0.f).length) c0_1] 39 (0, 0))])]) ?_ ⟨rfl, rfl, rfl, trivial⟩ ⟨rfl, rfl, rfl, trivial⟩
    refine kw_nx (cw_region (oD (fA 0 Tryz.underlying39 rfl ts22 rfl rfl rfl) rfl (oD (lB 2 ts22 rfl rfl rfl) rfl (oD (mv rfl) rfl (oD (mv rfl) rfl (oD (stp_indexAddr Tryz.underlying22 ts3 (by decide) rfl rfl rfl (Rdb.own (id := 0) rfl ho0_0) e4) rfl (oF (stpU_storeEl (id := 0) (i := 0) a2 (by decide) ts3 rfl rfl rfl ho0_0 e4 rfl rfl rfl rfl) ?_)))))))
    rintro _ _ ⟨C7, rfl, o7⟩
    refine ow_nil ?_
    have q0 := Option.some.inj H0
    subst q0
    exact kw_end Tryz.results145 .nil [(0, C7), (1, C6)] [0, 1] ⟨0, [1], rfl, rfl, 1, [], rfl, rfl, trivial⟩ (by decide) ⟨C7, C6, rfl, rfl, (by simp), o7, (by simp), o6⟩

set_option maxHeartbeats 4000000 in
set_option maxRecDepth 20000 in
theorem c_i_MapPage (fl : Nat) (w : World) (a0 : T) (p0_0 : Option Addr) (n0_0 c0_0 : Nat) (p0_1 : Option Addr) (n0_1 c0_1 : Nat) (a1 : K) (a2 : Int) (a3 : Int) (hn0_0 : n0_0 = (a0.b).length) (hr0_0 : RO w (hkeys []) (RdL p0_0 c0_0 a0.b)) (hn0_1 : n0_1 = (a0.f).length) (hr0_1 : RO w (hkeys []) (RdL p0_1 c0_1 a0.f)) (hg : RO w (hkeys []) (fun w' => w'.rangeAt 0 0 [.bool false, .int .i64 0, .int .i64 0, .int .i64 0, .int .i64 (-1)])) (r : T × Bool) (H0 : i_MapPage fl a0 a1 a2 a3 = some r) :
    Ct Tryz.prog 62 [.agg #[.slice p0_0 n0_0 c0_0, .slice p0_1 n0_1 c0_1], .agg #[.int .i64 a1.s, .int .i64 a1.p], .int .i64 a2, .int .i64 a3] w [] (fun rv h' => ∃ (x0 : Option Addr) (y0 z0 : Nat) (C0 : Res) (x1 : Option Addr) (y1 z1 : Nat) (C1 : Res), rv = .tuple #[.agg #[.slice x0 y0 z0, .slice x1 y1 z1], .bool r.2] ∧ h' = [(0, C0), (1, C1)] ∧ y0 = (r.1.b).length ∧ OwnC 3 x0 z0 r.1.b C0 ∧ y1 = (r.1.f).length ∧ OwnC 127 x1 z1 r.1.f C1) := by
  obtain rfl := hn0_0
  obtain rfl := hn0_1
  unfold i_MapPage at H0
  refine ct_of_cw Tryz.func62 rfl Tryz.ntmps62 rfl (Sat.refl _ _) ?_
  refine sr (oE (stpU_box 0 rfl rfl) rfl ?_)
  rintro _ _ ⟨b1, rfl, rfl⟩
  refine oE (stpU_box 1 rfl rfl) rfl ?_
  rintro _ _ ⟨b2, rfl, rfl⟩
  refine oE (stpU_alloc 2 tz39 rfl) rfl ?_
  rintro _ _ ⟨b3, rfl, rfl⟩
  obtain ⟨x4, e4, H0⟩ := bind_some H0
  refine oD (sg rfl) rfl (nn (cw_seq (sr (oD (stp_loadN (us := [_, _]) ts39 rfl (Cells.box (id := 0) rfl 2 rfl)) rfl (oE (stpU_call (fun i => 3 + i) cf138 (fun w hw => c_i_TableValid fl w a0 p0_0 ((a0.b).length) c0_0 p0_1 ((a0.f).length) c0_1 rfl (RO.pass hr0_0 hw) rfl (RO.pass hr0_1 hw) (RO.pass hg hw) x4 e4) (sevs_cons rfl sevs_nil)) rfl ?_)))))
  rintro _ _ ⟨_, ⟨rfl, rfl⟩, rfl⟩
  obtain ⟨y5, ey5, H0⟩ := bind_some H0
  refine oD (stp_not rfl) rfl (oD (mv rfl) rfl (ow_cutY 4 18 y5 ?_ ?_))
  · rcases Bool.eq_false_or_eq_true (!x4) with hy5 | hy5
    · have ey5 := cond_t ey5 hy5
      refine oO rfl hy5 rfl (oO rfl hy5 rfl (oO rfl hy5 rfl (oD (stp_pick_t rfl hy5 rfl) rfl ?_)))
      obtain rfl := Option.some.inj ey5
      exact ow_nil (jy 4 0)
    · have ey5 := cond_f ey5 hy5
      obtain ⟨x6, e6, ey5⟩ := bind_some ey5
      refine oG rfl hy5 (stp_loadN (us := [_, _]) ts51 rfl (Cells.box (id := 1) rfl 2 rfl)) rfl (ow_eff (.some rfl hy5) (stpU_call (fun i => 3 + i) cf143 (fun w hw => c_i_KeyValid fl w a1 x6 e6) (sevs_cons rfl sevs_nil)) rfl ?_)
      rintro _ _ ⟨_, ⟨rfl, rfl⟩, rfl⟩
      refine oG rfl hy5 (stp_not rfl) rfl (oD (stp_pick_f rfl hy5 rfl) rfl ?_)
      obtain rfl := Option.some.inj ey5
      exact ow_nil (jy 4 0)
  · obtain ⟨y7, ey7, H0⟩ := bind_some H0
    refine oD (mv rfl) rfl (ow_cutY 5 24 y7 ?_ ?_)
    · rcases Bool.eq_false_or_eq_true y5 with hy7 | hy7
      · have ey7 := cond_t ey7 hy7
        refine oO rfl hy7 rfl (oO rfl hy7 rfl (oO rfl hy7 rfl (oO rfl hy7 rfl (oD (stp_pick_t rfl hy7 rfl) rfl ?_))))
        obtain rfl := Option.some.inj ey7
        exact ow_nil (jy 5 0)
      · have ey7 := cond_f ey7 hy7
        obtain ⟨x8, e8, ey7⟩ := bind_some ey7
        refine oG rfl hy7 (stp_loadN (us := [_, _]) ts39 rfl (Cells.box (id := 0) rfl 2 rfl)) rfl (oG rfl hy7 (stp_loadN (us := [_, _]) ts51 rfl (Cells.box (id := 1) rfl 2 rfl)) rfl (ow_eff (.some rfl hy7) (stpU_call (fun i => 3 + i) cf94 (fun w hw => c_i_Table_find fl w a0 p0_0 ((a0.b).length) c0_0 p0_1 ((a0.f).length) c0_1 a1 rfl (RO.pass hr0_0 hw) rfl (RO.pass hr0_1 hw) x8 e8) (sevs_cons rfl (sevs_cons rfl sevs_nil))) rfl ?_))
        rintro _ _ ⟨_, ⟨rfl, rfl⟩, rfl⟩
        refine oG rfl hy7 (stp_geq rfl rfl) rfl (oD (stp_pick_f rfl hy7 rfl) rfl ?_)
        obtain rfl := Option.some.inj ey7
        exact ow_nil (jy 5 0)
    · obtain ⟨y9, ey9, H0⟩ := bind_some H0
      refine oD (mv rfl) rfl (ow_cutY 7 32 y9 ?_ ?_)
      · rcases Bool.eq_false_or_eq_true y7 with hy9 | hy9
        · have ey9 := cond_t ey9 hy9
          refine oO rfl hy9 rfl (oO rfl hy9 rfl (oO rfl hy9 rfl (oO rfl hy9 rfl (oO rfl hy9 rfl (oO rfl hy9 rfl (oD (stp_pick_t rfl hy9 rfl) rfl ?_))))))
          obtain rfl := Option.some.inj ey9
          exact ow_nil (jy 7 0)
        · have ey9 := cond_f ey9 hy9
          obtain ⟨x10, e10, ey9⟩ := bind_some ey9
          refine oG rfl hy9 (mv rfl) rfl (oG rfl hy9 (fA 1 Tryz.underlying39 rfl ts37 rfl rfl rfl) rfl (oG rfl hy9 (lB 0 ts37 rfl rfl rfl) rfl (oG rfl hy9 (stp_len Tryz.underlying37 rfl) rfl (ow_eff (.some rfl hy9) (stpU_call (fun i => 3 + i) cf90 (fun w hw => c_i_within fl w a2 ((a0.f).length : Int) x10 e10) (sevs_cons rfl (sevs_cons rfl sevs_nil))) rfl ?_))))
          rintro _ _ ⟨_, ⟨rfl, rfl⟩, rfl⟩
          refine oG rfl hy9 (stp_not rfl) rfl (oD (stp_pick_f rfl hy9 rfl) rfl ?_)
          obtain rfl := Option.some.inj ey9
          exact ow_nil (jy 7 0)
      · obtain ⟨y11, ey11, H0⟩ := bind_some H0
        refine oD (mv rfl) rfl (ow_cutY 7 40 y11 ?_ ?_)
        · rcases Bool.eq_false_or_eq_true y9 with hy11 | hy11
          · have ey11 := cond_t ey11 hy11
            refine oO rfl hy11 rfl (oO rfl hy11 rfl (oO rfl hy11 rfl (oO rfl hy11 rfl (oO rfl hy11 rfl (oO rfl hy11 rfl (oD (stp_pick_t rfl hy11 rfl) rfl ?_))))))
            obtain rfl := Option.some.inj ey11
            exact ow_nil (jy 7 0)
          · have ey11 := cond_f ey11 hy11
            obtain ⟨x12, e12, ey11⟩ := bind_some ey11
            refine oG rfl hy11 (fA 1 Tryz.underlying39 rfl ts37 rfl rfl rfl) rfl (oG rfl hy11 (lB 0 ts37 rfl rfl rfl) rfl (oG rfl hy11 (mv rfl) rfl (oG rfl hy11 (stp_indexAddr Tryz.underlying37 ts127 (by decide) rfl rfl rfl (Rdb.ro hr0_1) e12) rfl (oG rfl hy11 (fA 0 Tryz.underlying127 rfl ts4 rfl rfl rfl) rfl (oG rfl hy11 (stp_load1 ts4 rfl (Cells.el (Rdb.ro hr0_1) (by decide) e12 0 1 rfl)) rfl (oD (stp_pick_f rfl hy11 rfl) rfl ?_))))))
            obtain rfl := Option.some.inj ey11
            exact ow_nil (jy 7 0)
        · obtain ⟨y13, ey13, H0⟩ := bind_some H0
          refine oD (mv rfl) rfl (ow_cutY 4 45 y13 ?_ ?_)
          · rcases Bool.eq_false_or_eq_true y11 with hy13 | hy13
            · have ey13 := cond_t ey13 hy13
              refine oO rfl hy13 rfl (oO rfl hy13 rfl (oO rfl hy13 rfl (oD (stp_pick_t rfl hy13 rfl) rfl ?_)))
              obtain rfl := Option.some.inj ey13
              exact ow_nil (jy 4 0)
            · have ey13 := cond_f ey13 hy13
              obtain ⟨x14, e14, ey13⟩ := bind_some ey13
              refine oG rfl hy13 (mv rfl) rfl (ow_eff (.some rfl hy13) (stpU_call (fun i => 3 + i) cf91 (fun w hw => c_i_RightsValid fl w a3 x14 e14) (sevs_cons rfl sevs_nil)) rfl ?_)
              rintro _ _ ⟨_, ⟨rfl, rfl⟩, rfl⟩
              refine oG rfl hy13 (stp_not rfl) rfl (oD (stp_pick_f rfl hy13 rfl) rfl ?_)
              obtain rfl := Option.some.inj ey13
              exact ow_nil (jy 4 0)
          · refine ow_nil (kw_nx (cw_cond rfl (fun h15 => ?_) (fun h15 => ?_)))
            · have H0 := cond_t H0 h15
              refine sr (oD (stp_build (cs := #[.slice none 0 0, .slice none 0 0]) sevp_nil bt39_4) rfl (oF (stpU_store (id := 2) (cs' := [.slice none 0 0, .slice none 0 0]) ts39 rfl rfl rfl rfl rfl rfl rfl) ?_))
              rintro _ _ rfl
              refine oD (sg rfl) rfl (nn (cw_ret (kw_nx_ret (kw_addNil 3 (kw_addNil 4 ?_)))))
              have q0 := Option.some.inj H0
              subst q0
              exact kw_ret Tryz.results62 (.cons (.cellN (us := [_, _]) ts39 rfl (Cells.box (id := 2) rfl 2 rfl)) (.cons (.tmp rfl) .nil)) [(0, []), (1, [])] [3, 4] ⟨3, [4], rfl, rfl, 4, [], rfl, rfl, trivial⟩ (by decide) ⟨none, 0, 0, [], none, 0, 0, [], rfl, rfl, rfl, (OwnC.nil _ _), rfl, (OwnC.nil _ _)⟩
            · have H0 := cond_f H0 h15
              obtain ⟨x16, e16, H0⟩ := bind_some H0
              refine cw_skip (kw_nx (sr (oD (stp_loadN (us := [_, _]) ts39 rfl (Cells.box (id := 0) rfl 2 rfl)) rfl (oE (stpU_call (fun i => 5 + i) cf144 (fun w hw => c_i_Table_clone fl w a0 p0_0 ((a0.b).length) c0_0 p0_1 ((a0.f).length) c0_1 rfl (RO.pass hr0_0 hw) rfl (RO.pass hr0_1 hw) x16 e16) (sevs_cons rfl sevs_nil)) rfl ?_))))
              rintro _ _ ⟨_, ⟨p17, n18, c19, C20, p21, n22, c23, C24, rfl, rfl, hnn18, o20, hnn22, o24⟩, rfl⟩
              obtain rfl := hnn18
              obtain rfl := hnn22
              refine oE (stpU_alloc 7 tz39 rfl) rfl ?_
              rintro _ _ ⟨b25, rfl, rfl⟩
              refine oF (stpU_store (id := 7) (cs' := [.slice p17 ((x16.b).length) c19, .slice p21 ((x16.f).length) c23]) ts39 rfl rfl rfl rfl rfl rfl rfl) ?_
              rintro _ _ rfl
              obtain ⟨x26, e26, H0⟩ := bind_some H0
              refine nn (sr (oD (stp_loadN (us := [_, _]) ts39 rfl (Cells.box (id := 7) rfl 2 rfl)) rfl (oD (stp_loadN (us := [_, _]) ts51 rfl (Cells.box (id := 1) rfl 2 rfl)) rfl (oD (mv rfl) rfl (oD (mv rfl) rfl (oE (stpU_callM (fun i => bif Nat.beq i 0 then 5 else bif Nat.beq i 1 then 6 else 8 + i) cf145 (fun w hw hb => c_i_Table_link fl w x16 p17 ((x16.b).length) c19 C20 p21 ((x16.f).length) c23 C24 a1 a2 a3 rfl o20 rfl o24 (hw.pass (js := [5, 6]) ⟨5, [6], rfl, rfl, 6, [], rfl, rfl, trivial⟩ (by decide)) x26 e26) (sevs_cons rfl (sevs_cons rfl (sevs_cons rfl (sevs_cons rfl sevs_nil)))) ⟨rfl, (fun _ _ hp => by obtain ⟨_, _, _, rfl, _⟩ := hp; exact ⟨_, rfl⟩), rfl, (fun _ _ hp => by obtain ⟨_, _, _, rfl, _⟩ := hp; exact ⟨_, rfl⟩), trivial⟩) rfl ?_))))))
              rintro _ _ ⟨_, ⟨C27, C28, rfl, rfl, hl27, o27, hl28, o28⟩, rfl⟩
              refine nn (sr (oD (stp_loadN (us := [_, _]) ts39 rfl (Cells.box (id := 7) rfl 2 rfl)) rfl (oF (stpU_store (id := 2) (cs' := [.slice p17 ((x16.b).length) c19, .slice p21 ((x16.f).length) c23]) ts39 rfl rfl rfl rfl rfl rfl rfl) ?_)))
              rintro _ _ rfl
              refine oD (sg rfl) rfl (nn (cw_ret ?_))
              have q0 := Option.some.inj H0
              subst q0
              exact kw_ret Tryz.results62 (.cons (.cellN (us := [_, _]) ts39 rfl (Cells.box (id := 2) rfl 2 rfl)) (.cons (.tmp rfl) .nil)) [(0, C27), (1, C28)] [5, 6] ⟨5, [6], rfl, rfl, 6, [], rfl, rfl, trivial⟩ (by decide) ⟨p17, ((x16.b).length), c19, C27, p21, ((x16.f).length), c23, C28, rfl, rfl, (by simp [hl27]), o27, (by simp [hl28]), o28⟩

set_option maxHeartbeats 4000000 in
set_option maxRecDepth 20000 in
theorem c_i_PutPage (fl : Nat) (w : World) (a0 : Mc) (p0_0 : Option Addr) (n0_0 c0_0 : Nat) (p0_1 : Option Addr) (n0_1 c0_1 : Nat) (p0_2 : Option Addr) (n0_2 c0_2 : Nat) (p0_3 : Option Addr) (n0_3 c0_3 : Nat) (a1 : K) (a2 : Int) (a3 : Int) (hn0_0 : n0_0 = (a0.t.b).length) (hr0_0 : RO w (hkeys []) (RdL p0_0 c0_0 a0.t.b)) (hn0_1 : n0_1 = (a0.t.f).length) (hr0_1 : RO w (hkeys []) (RdL p0_1 c0_1 a0.t.f)) (hn0_2 : n0_2 = (a0.c.l).length) (hr0_2 : RO w (hkeys []) (RdL p0_2 c0_2 a0.c.l)) (hn0_3 : n0_3 = (a0.g.o).length) (hr0_3 : RO w (hkeys []) (RdL p0_3 c0_3 a0.g.o)) (hg : RO w (hkeys []) (fun w' => w'.rangeAt 0 0 [.bool false, .int .i64 0, .int .i64 0, .int .i64 0, .int .i64 (-1)])) (r : Mc × Bool) (H0 : i_PutPage fl a0 a1 a2 a3 = some r) :
    Ct Tryz.prog 18 [.agg #[.slice p0_0 n0_0 c0_0, .slice p0_1 n0_1 c0_1, .slice p0_2 n0_2 c0_2, .int .i64 a0.c.h, .int .i64 a0.g.c, .int .i64 a0.g.n, .int .i64 a0.g.r, .slice p0_3 n0_3 c0_3, .int .i64 a0.s], .agg #[.int .i64 a1.s, .int .i64 a1.p], .int .i64 a2, .int .i64 a3] w [] (fun rv h' => ∃ (x0 : Option Addr) (y0 z0 : Nat) (C0 : Res) (x1 : Option Addr) (y1 z1 : Nat) (C1 : Res) (x2 : Option Addr) (y2 z2 : Nat) (C2 : Res) (x3 : Option Addr) (y3 z3 : Nat) (C3 : Res), rv = .tuple #[.agg #[.slice x0 y0 z0, .slice x1 y1 z1, .slice x2 y2 z2, .int .i64 r.1.c.h, .int .i64 r.1.g.c, .int .i64 r.1.g.n, .int .i64 r.1.g.r, .slice x3 y3 z3, .int .i64 r.1.s], .bool r.2] ∧ h' = [(0, C0), (1, C1), (2, C2), (3, C3)] ∧ y0 = (r.1.t.b).length ∧ OwnC 3 x0 z0 r.1.t.b C0 ∧ y1 = (r.1.t.f).length ∧ OwnC 127 x1 z1 r.1.t.f C1 ∧ y2 = (r.1.c.l).length ∧ OwnC 112 x2 z2 r.1.c.l C2 ∧ y3 = (r.1.g.o).length ∧ OwnC 148 x3 z3 r.1.g.o C3) := by
  obtain rfl := hn0_0
  obtain rfl := hn0_1
  obtain rfl := hn0_2
  obtain rfl := hn0_3
  unfold i_PutPage at H0
  refine ct_of_cw Tryz.func18 rfl Tryz.ntmps18 rfl (Sat.refl _ _) ?_
  refine sr (oE (stpU_box 0 rfl rfl) rfl ?_)
  rintro _ _ ⟨b1, rfl, rfl⟩
  refine oE (stpU_box 1 rfl rfl) rfl ?_
  rintro _ _ ⟨b2, rfl, rfl⟩
  refine oE (stpU_alloc 2 tz47 rfl) rfl ?_
  rintro _ _ ⟨b3, rfl, rfl⟩
  obtain ⟨x4, e4, H0⟩ := bind_some H0
  obtain ⟨y5, ey5, H0⟩ := bind_some H0
  refine oD (sg rfl) rfl (nn (cw_seq (cw_seq (cw_join (ι := Unit) (fun | _ => True) (fun | _ => [(2, .int .i64 a2), (3, .int .i64 a3), (4, .pointer (some ⟨b1, 0, none⟩)), (5, .pointer (some ⟨b2, 0, none⟩)), (8, .pointer (some ⟨b3, 0, none⟩)), (24, .bool y5)]) (fun | _ => [(0, [(b1, .cells #[.slice p0_0 ((a0.t.b).length) c0_0, .slice p0_1 ((a0.t.f).length) c0_1, .slice p0_2 ((a0.c.l).length) c0_2, .int .i64 a0.c.h, .int .i64 a0.g.c, .int .i64 a0.g.n, .int .i64 a0.g.r, .slice p0_3 ((a0.g.o).length) c0_3, .int .i64 a0.s] 47 (0, 0))]), (1, [(b2, .cells #[.int .i64 a1.s, .int .i64 a1.p] 51 (0, 0))]), (2, [(b3, .cells #[.slice none 0 0, .slice none 0 0, .slice none 0 0, .int .i64 0, .int .i64 0, .int .i64 0, .int .i64 0, .slice none 0 0, .int .i64 0] 47 (0, 0))])]) ?_ ?_))))
  · rcases Bool.eq_false_or_eq_true (!x4) with hy5 | hy5
    · have ey5 := cond_t ey5 hy5
      have qy5 := Option.some.inj ey5
      refine rdr g_mixed [4] [0] { dst := dS [14, 15, 16, 17, 18, 19, 20, 21, 22, 23, 24, 25], pre := gA [] [[], [0], [0, 1], [0, 1, 2], rn 0 4, rn 0 4, [0, 1, 2, 3, 5], rn 0 4, [0, 1, 2, 3, 7], [0, 1, 2, 3, 5, 6, 7, 8], rn 0 10, rn 0 11], ids := fun _ => [], rs := rL [[(4, 0)], [(13, 1)], [(14, 2)], [(15, 3)], [(16, 4)], [(16, 4)], [(16, 4)], [(16, 4)], [(16, 4)], [(16, 4)], [(16, 4)], [(16, 4), (23, 11)]], rh := rL [[(0, 0)]], V := fun i g => gA undef [.agg #[.slice p0_0 ((a0.t.b).length) c0_0, .slice p0_1 ((a0.t.f).length) c0_1, .slice p0_2 ((a0.c.l).length) c0_2, .int .i64 a0.c.h, .int .i64 a0.g.c, .int .i64 a0.g.n, .int .i64 a0.g.r, .slice p0_3 ((a0.g.o).length) c0_3, .int .i64 a0.s], .bool x4, .bool (!x4), .bool (!x4), undef, undef, undef, undef, undef, undef, undef, .bool y5] i, U := fun _ _ => [], Φ := fun _ _ => True } ?_ ?_
      · refine ⟨⟨⟨⟨⟨⟨⟨⟨⟨⟨⟨⟨trivial, lc rfl rfl fun hs hh => stp_loadN (us := [_, _, _, _, _, _, _, _, _]) ts47 (sv hs 4 rfl) (Cells.box (id := 0) (hh.get 0 _ rfl) 9 rfl)⟩, ?_⟩, lc rfl rfl fun hs hh => stp_not (sv hs 14 rfl)⟩, lc rfl rfl fun hs hh => stp_move (sv hs 15 rfl)⟩, lo rfl rfl 16 hy5⟩, lo rfl rfl 16 hy5⟩, lo rfl rfl 16 hy5⟩, lo rfl rfl 16 hy5⟩, lo rfl rfl 16 hy5⟩, lo rfl rfl 16 hy5⟩, lo rfl rfl 16 hy5⟩, lc rfl rfl fun hs hh => stp_pick_tB (sv hs 16 rfl) hy5 rfl qy5⟩
        · refine le rfl rfl (fun g hΦ s h hs hh => (stpU_call (fun i => 3 + i) cf60 (fun w hw => c_i_MachineValid fl w a0 p0_0 ((a0.t.b).length) c0_0 p0_1 ((a0.t.f).length) c0_1 p0_2 ((a0.c.l).length) c0_2 p0_3 ((a0.g.o).length) c0_3 rfl (RO.pass hr0_0 hw) rfl (RO.pass hr0_1 hw) rfl (RO.pass hr0_2 hw) rfl (RO.pass hr0_3 hw) (RO.pass hg hw) x4 e4) (sevs_cons (sv hs 13 rfl) sevs_nil))) ?_
          rintro g _ _ ⟨_, ⟨rfl, rfl⟩, rfl⟩
          exact ⟨⟨[], [], []⟩, trivial, .inr rfl, rfl⟩
      · intro g hΦ
        exact kw_join () trivial ⟨rfl, rfl, rfl, rfl, rfl, rfl, trivial⟩ ⟨rfl, rfl, rfl, trivial⟩
    · have ey5 := cond_f ey5 hy5
      obtain ⟨x6, e6, ey5⟩ := bind_some ey5
      have qy5 := Option.some.inj ey5
      refine rdr g_mixed [4, 5] [0, 1] { dst := dS [14, 15, 16, 17, 18, 19, 20, 21, 22, 23, 24, 25], pre := gA [] [[], [0], [0, 1], [0, 1, 2], rn 0 4, rn 0 4, [0, 1, 2, 3, 5], rn 0 4, [0, 1, 2, 3, 7], [0, 1, 2, 3, 5, 6, 7, 8], rn 0 10, rn 0 11], ids := fun _ => [], rs := rL [[(4, 0)], [(13, 1)], [(14, 2)], [(15, 3)], [(5, 0), (16, 4)], [(5, 0), (16, 4)], [(18, 6), (16, 4)], [(5, 0), (16, 4)], [(20, 8), (16, 4)], [(19, 7), (21, 9), (16, 4)], [(17, 5), (22, 10), (16, 4)], [(16, 4), (23, 11)]], rh := rL [[(0, 0)], [], [], [], [(1, 0)], [], [(1, 0)], [], [(1, 0)]], V := fun i g => gA undef [.agg #[.slice p0_0 ((a0.t.b).length) c0_0, .slice p0_1 ((a0.t.f).length) c0_1, .slice p0_2 ((a0.c.l).length) c0_2, .int .i64 a0.c.h, .int .i64 a0.g.c, .int .i64 a0.g.n, .int .i64 a0.g.r, .slice p0_3 ((a0.g.o).length) c0_3, .int .i64 a0.s], .bool x4, .bool (!x4), .bool (!x4), .agg #[.int .i64 a1.s, .int .i64 a1.p], .pointer (some ⟨b2, 0, none⟩), .int .i64 a1.s, .pointer (some ⟨b2, 1, none⟩), .int .i64 a1.p, .agg #[.int .i64 x6.s, .int .i64 x6.p], .bool (a1 != x6), .bool y5] i, U := fun _ _ => [], Φ := fun _ _ => True } ?_ ?_
      · refine ⟨⟨⟨⟨⟨⟨⟨⟨⟨⟨⟨⟨trivial, lc rfl rfl fun hs hh => stp_loadN (us := [_, _, _, _, _, _, _, _, _]) ts47 (sv hs 4 rfl) (Cells.box (id := 0) (hh.get 0 _ rfl) 9 rfl)⟩, ?_⟩, lc rfl rfl fun hs hh => stp_not (sv hs 14 rfl)⟩, lc rfl rfl fun hs hh => stp_move (sv hs 15 rfl)⟩, lg rfl rfl 16 hy5 fun hs hh => stp_loadN (us := [_, _]) ts51 (sv hs 5 rfl) (Cells.box (id := 1) (hh.get 1 _ rfl) 2 rfl)⟩, lg rfl rfl 16 hy5 fun hs hh => stp_fieldAddr (j := 0) Tryz.underlying51 rfl ts3 rfl (sv hs 5 rfl) rfl⟩, lg rfl rfl 16 hy5 fun hs hh => stp_load1 ts3 (sv hs 18 rfl) (Cells.box (id := 1) (hh.get 1 _ rfl) 1 rfl)⟩, lg rfl rfl 16 hy5 fun hs hh => stp_fieldAddr (j := 1) Tryz.underlying51 rfl ts3 rfl (sv hs 5 rfl) rfl⟩, lg rfl rfl 16 hy5 fun hs hh => stp_load1 ts3 (sv hs 20 rfl) (Cells.box (id := 1) (hh.get 1 _ rfl) 1 rfl)⟩, ?_⟩, lg rfl rfl 16 hy5 fun hs hh => stp_neqS te51 a1 x6 (sv hs 17 rfl) (sv hs 22 rfl)⟩, lc rfl rfl fun hs hh => stp_pick_fB (sv hs 16 rfl) hy5 (sv hs 23 rfl) qy5⟩
        · refine le rfl rfl (fun g hΦ s h hs hh => (stpU_call (fun i => 3 + i) cf60 (fun w hw => c_i_MachineValid fl w a0 p0_0 ((a0.t.b).length) c0_0 p0_1 ((a0.t.f).length) c0_1 p0_2 ((a0.c.l).length) c0_2 p0_3 ((a0.g.o).length) c0_3 rfl (RO.pass hr0_0 hw) rfl (RO.pass hr0_1 hw) rfl (RO.pass hr0_2 hw) rfl (RO.pass hr0_3 hw) (RO.pass hg hw) x4 e4) (sevs_cons (sv hs 13 rfl) sevs_nil))) ?_
          rintro g _ _ ⟨_, ⟨rfl, rfl⟩, rfl⟩
          exact ⟨⟨[], [], []⟩, trivial, .inr rfl, rfl⟩
        · refine loc_eff rfl rfl (fun g hΦ s h hs hh => ⟨(.some (gval_of rfl (sv hs 16 rfl)) hy5), (stpU_call (fun i => 3 + i) cf61 (fun w hw => c_i_KeyFor fl w a1.s a1.p x6 e6) (sevs_cons (sv hs 19 rfl) (sevs_cons (sv hs 21 rfl) sevs_nil)))⟩) ?_
          rintro g _ _ ⟨_, ⟨rfl, rfl⟩, rfl⟩
          exact ⟨⟨[], [], []⟩, trivial, .inr rfl, rfl⟩
      · intro g hΦ
        exact kw_join () trivial ⟨rfl, rfl, rfl, rfl, rfl, rfl, trivial⟩ ⟨rfl, rfl, rfl, trivial⟩
  · rintro _ -
    refine KW.sub (s' := [(2, .int .i64 a2), (3, .int .i64 a3), (4, .pointer (some ⟨b1, 0, none⟩)), (5, .pointer (some ⟨b2, 0, none⟩)), (8, .pointer (some ⟨b3, 0, none⟩)), (24, .bool y5)]) (h' := [(0, [(b1, .cells #[.slice p0_0 ((a0.t.b).length) c0_0, .slice p0_1 ((a0.t.f).length) c0_1, .slice p0_2 ((a0.c.l).length) c0_2, .int .i64 a0.c.h, .int .i64 a0.g.c, .int .i64 a0.g.n, .int .i64 a0.g.r, .slice p0_3 ((a0.g.o).length) c0_3, .int .i64 a0.s] 47 (0, 0))]), (1, [(b2, .cells #[.int .i64 a1.s, .int .i64 a1.p] 51 (0, 0))]), (2, [(b3, .cells #[.slice none 0 0, .slice none 0 0, .slice none 0 0, .int .i64 0, .int .i64 0, .int .i64 0, .int .i64 0, .slice none 0 0, .int .i64 0] 47 (0, 0))])]) ?_ ⟨rfl, rfl, rfl, rfl, rfl, rfl, trivial⟩ ⟨rfl, rfl, rfl, trivial⟩
    refine kw_nx (cw_cond rfl (fun h7 => ?_) (fun h7 => ?_))
    · have H0 := cond_t H0 h7
      refine sr (oD (stp_build (cs := #[.slice none 0 0, .slice none 0 0, .slice none 0 0, .int .i64 0, .int .i64 0, .int .i64 0, .int .i64 0, .slice none 0 0, .int .i64 0]) sevp_nil bt47_3) rfl (oF (stpU_store (id := 2) (cs' := [.slice none 0 0, .slice none 0 0, .slice none 0 0, .int .i64 0, .int .i64 0, .int .i64 0, .int .i64 0, .slice none 0 0, .int .i64 0]) ts47 rfl rfl rfl rfl rfl rfl rfl) ?_))
      rintro _ _ rfl
      refine oD (sg rfl) rfl (nn (cw_ret (kw_nx_ret (kw_addNil 3 (kw_addNil 4 (kw_addNil 5 (kw_addNil 6 ?_)))))))
      have q0 := Option.some.inj H0
      subst q0
      exact kw_ret Tryz.results18 (.cons (.cellN (us := [_, _, _, _, _, _, _, _, _]) ts47 rfl (Cells.box (id := 2) rfl 9 rfl)) (.cons (.tmp rfl) .nil)) [(0, []), (1, []), (2, []), (3, [])] [3, 4, 5, 6] ⟨3, [4, 5, 6], rfl, rfl, 4, [5, 6], rfl, rfl, 5, [6], rfl, rfl, 6, [], rfl, rfl, trivial⟩ (by decide) ⟨none, 0, 0, [], none, 0, 0, [], none, 0, 0, [], none, 0, 0, [], rfl, rfl, rfl, (OwnC.nil _ _), rfl, (OwnC.nil _ _), rfl, (OwnC.nil _ _), rfl, (OwnC.nil _ _)⟩
    · have H0 := cond_f H0 h7
      obtain ⟨x8, e8, H0⟩ := bind_some H0
      refine cw_skip (kw_nx (sr (oD (fA 0 Tryz.underlying47 rfl ts39 rfl rfl rfl) rfl (oD (stp_loadN (us := [_, _]) ts39 rfl (Cells.box (id := 0) rfl 2 rfl)) rfl (oD (stp_loadN (us := [_, _]) ts51 rfl (Cells.box (id := 1) rfl 2 rfl)) rfl (oD (mv rfl) rfl (oD (mv rfl) rfl (oE (stpU_call (fun i => 7 + i) cf62 (fun w hw => c_i_MapPage fl w a0.t p0_0 ((a0.t.b).length) c0_0 p0_1 ((a0.t.f).length) c0_1 a1 a2 a3 rfl (RO.pass hr0_0 hw) rfl (RO.pass hr0_1 hw) (RO.pass hg hw) x8 e8) (sevs_cons rfl (sevs_cons rfl (sevs_cons rfl (sevs_cons rfl sevs_nil))))) rfl ?_))))))))
      rintro _ _ ⟨_, ⟨p9, n10, c11, C12, p13, n14, c15, C16, rfl, rfl, hnn10, o12, hnn14, o16⟩, rfl⟩
      obtain rfl := hnn10
      obtain rfl := hnn14
      refine oD (mv rfl) rfl (oD (stp_extract rfl rfl) rfl (oD (stp_extract rfl rfl) rfl (oE (stpU_alloc 9 tz39 rfl) rfl ?_)))
      rintro _ _ ⟨b17, rfl, rfl⟩
      refine oF (stpU_store (id := 9) (cs' := [.slice p9 ((x8.1.b).length) c11, .slice p13 ((x8.1.f).length) c15]) ts39 rfl rfl rfl rfl rfl rfl rfl) ?_
      rintro _ _ rfl
      refine oD (sg rfl) rfl (nn (cw_seq (sr (oD (mv rfl) rfl (oD (stp_not rfl) rfl (nn (cw_cond rfl (fun h18 => ?_) (fun h18 => ?_))))))))
      · have H0 := cond_t H0 h18
        refine sr (oD (stp_build (cs := #[.slice none 0 0, .slice none 0 0, .slice none 0 0, .int .i64 0, .int .i64 0, .int .i64 0, .int .i64 0, .slice none 0 0, .int .i64 0]) sevp_nil bt47_3) rfl (oF (stpU_store (id := 2) (cs' := [.slice none 0 0, .slice none 0 0, .slice none 0 0, .int .i64 0, .int .i64 0, .int .i64 0, .int .i64 0, .slice none 0 0, .int .i64 0]) ts47 rfl rfl rfl rfl rfl rfl rfl) ?_))
        rintro _ _ rfl
        refine oD (sg rfl) rfl (nn (cw_ret (kw_nx_ret (kw_addNil 10 (kw_addNil 11 (kw_addNil 12 (kw_addNil 13 ?_)))))))
        have q0 := Option.some.inj H0
        subst q0
        exact kw_ret Tryz.results18 (.cons (.cellN (us := [_, _, _, _, _, _, _, _, _]) ts47 rfl (Cells.box (id := 2) rfl 9 rfl)) (.cons (.tmp rfl) .nil)) [(0, []), (1, []), (2, []), (3, [])] [10, 11, 12, 13] ⟨10, [11, 12, 13], rfl, rfl, 11, [12, 13], rfl, rfl, 12, [13], rfl, rfl, 13, [], rfl, rfl, trivial⟩ (by decide) ⟨none, 0, 0, [], none, 0, 0, [], none, 0, 0, [], none, 0, 0, [], rfl, rfl, rfl, (OwnC.nil _ _), rfl, (OwnC.nil _ _), rfl, (OwnC.nil _ _), rfl, (OwnC.nil _ _)⟩
      · have H0 := cond_f H0 h18
        obtain ⟨x19, e19, H0⟩ := bind_some H0
        refine cw_skip (kw_nx (sr (oD (stp_loadN (us := [_, _, _, _, _, _, _, _, _]) ts47 rfl (Cells.box (id := 0) rfl 9 rfl)) rfl (oE (stpU_call (fun i => 14 + i) cf63 (fun w hw => c_i_Machine_clone fl w a0 p0_0 ((a0.t.b).length) c0_0 p0_1 ((a0.t.f).length) c0_1 p0_2 ((a0.c.l).length) c0_2 p0_3 ((a0.g.o).length) c0_3 rfl (RO.pass hr0_0 hw) rfl (RO.pass hr0_1 hw) rfl (RO.pass hr0_2 hw) rfl (RO.pass hr0_3 hw) x19 e19) (sevs_cons rfl sevs_nil)) rfl ?_))))
        rintro _ _ ⟨_, ⟨p20, n21, c22, C23, p24, n25, c26, C27, p28, n29, c30, C31, p32, n33, c34, C35, rfl, rfl, hnn21, o23, hnn25, o27, hnn29, o31, hnn33, o35⟩, rfl⟩
        obtain rfl := hnn21
        obtain rfl := hnn25
        obtain rfl := hnn29
        obtain rfl := hnn33
        refine oE (stpU_alloc 18 tz47 rfl) rfl ?_
        rintro _ _ ⟨b36, rfl, rfl⟩
        refine oF (stpU_store (id := 18) (cs' := [.slice p20 ((x19.t.b).length) c22, .slice p24 ((x19.t.f).length) c26, .slice p28 ((x19.c.l).length) c30, .int .i64 x19.c.h, .int .i64 x19.g.c, .int .i64 x19.g.n, .int .i64 x19.g.r, .slice p32 ((x19.g.o).length) c34, .int .i64 x19.s]) ts47 rfl rfl rfl rfl rfl rfl rfl) ?_
        rintro _ _ rfl
        refine nn (sr (oD (stp_loadN (us := [_, _]) ts39 rfl (Cells.box (id := 9) rfl 2 rfl)) rfl (oD (fA 0 Tryz.underlying47 rfl ts39 rfl rfl rfl) rfl (oF (stpU_store (id := 18) (cs' := [.slice p9 ((x8.1.b).length) c11, .slice p13 ((x8.1.f).length) c15, .slice p28 ((x19.c.l).length) c30, .int .i64 x19.c.h, .int .i64 x19.g.c, .int .i64 x19.g.n, .int .i64 x19.g.r, .slice p32 ((x19.g.o).length) c34, .int .i64 x19.s]) ts39 rfl rfl rfl rfl rfl rfl rfl) ?_))))
        rintro _ _ rfl
        refine nn (sr (oD (stp_loadN (us := [_, _, _, _, _, _, _, _, _]) ts47 rfl (Cells.box (id := 18) rfl 9 rfl)) rfl (oF (stpU_store (id := 2) (cs' := [.slice p9 ((x8.1.b).length) c11, .slice p13 ((x8.1.f).length) c15, .slice p28 ((x19.c.l).length) c30, .int .i64 x19.c.h, .int .i64 x19.g.c, .int .i64 x19.g.n, .int .i64 x19.g.r, .slice p32 ((x19.g.o).length) c34, .int .i64 x19.s]) ts47 rfl rfl rfl rfl rfl rfl rfl) ?_)))
        rintro _ _ rfl
        refine oD (sg rfl) rfl (nn (cw_ret ?_))
        have q0 := Option.some.inj H0
        subst q0
        exact kw_ret Tryz.results18 (.cons (.cellN (us := [_, _, _, _, _, _, _, _, _]) ts47 rfl (Cells.box (id := 2) rfl 9 rfl)) (.cons (.tmp rfl) .nil)) [(0, C12), (1, C16), (2, C31), (3, C35)] [7, 8, 16, 17] ⟨7, [8, 16, 17], rfl, rfl, 8, [16, 17], rfl, rfl, 16, [17], rfl, rfl, 17, [], rfl, rfl, trivial⟩ (by decide) ⟨p9, ((x8.1.b).length), c11, C12, p13, ((x8.1.f).length), c15, C16, p28, ((x19.c.l).length), c30, C31, p32, ((x19.g.o).length), c34, C35, rfl, rfl, rfl, o12, rfl, o16, rfl, o31, rfl, o35⟩

set_option maxHeartbeats 4000000 in
set_option maxRecDepth 20000 in
theorem c_l_FnExactPutPage (fl : Nat) (w : World) (a0 : Mc) (p0_0 : Option Addr) (n0_0 c0_0 : Nat) (p0_1 : Option Addr) (n0_1 c0_1 : Nat) (p0_2 : Option Addr) (n0_2 c0_2 : Nat) (p0_3 : Option Addr) (n0_3 c0_3 : Nat) (a1 : K) (a2 : Int) (a3 : Int) (hn0_0 : n0_0 = (a0.t.b).length) (hr0_0 : RO w (hkeys []) (RdL p0_0 c0_0 a0.t.b)) (hn0_1 : n0_1 = (a0.t.f).length) (hr0_1 : RO w (hkeys []) (RdL p0_1 c0_1 a0.t.f)) (hn0_2 : n0_2 = (a0.c.l).length) (hr0_2 : RO w (hkeys []) (RdL p0_2 c0_2 a0.c.l)) (hn0_3 : n0_3 = (a0.g.o).length) (hr0_3 : RO w (hkeys []) (RdL p0_3 c0_3 a0.g.o)) (hg : RO w (hkeys []) (fun w' => w'.rangeAt 0 0 [.bool false, .int .i64 0, .int .i64 0, .int .i64 0, .int .i64 (-1)])) (r : Bool) (H0 : l_FnExactPutPage fl a0 a1 a2 a3 = some r) :
    Ct Tryz.prog 3 [.agg #[.slice p0_0 n0_0 c0_0, .slice p0_1 n0_1 c0_1, .slice p0_2 n0_2 c0_2, .int .i64 a0.c.h, .int .i64 a0.g.c, .int .i64 a0.g.n, .int .i64 a0.g.r, .slice p0_3 n0_3 c0_3, .int .i64 a0.s], .agg #[.int .i64 a1.s, .int .i64 a1.p], .int .i64 a2, .int .i64 a3] w [] (fun rv h' => rv = .bool r ∧ h' = []) := by
  obtain rfl := hn0_0
  obtain rfl := hn0_1
  obtain rfl := hn0_2
  obtain rfl := hn0_3
  unfold l_FnExactPutPage at H0
  refine ct_of_cw Tryz.func3 rfl Tryz.ntmps3 rfl (Sat.refl _ _) ?_
  refine sr (oE (stpU_box 0 rfl rfl) rfl ?_)
  rintro _ _ ⟨b1, rfl, rfl⟩
  refine oE (stpU_box 1 rfl rfl) rfl ?_
  rintro _ _ ⟨b2, rfl, rfl⟩
  obtain ⟨x3, e3, H0⟩ := bind_some H0
  refine oD (sg rfl) rfl (nn (sr (oD (sg rfl) rfl (nn (sr (oD (stp_loadN (us := [_, _, _, _, _, _, _, _, _]) ts33 rfl (Cells.box (id := 0) rfl 9 rfl)) rfl (oD (mv rfl) rfl (oE (stpU_call (fun i => 2 + i) cf14 (fun w hw => c_l_szMachine fl w a0 p0_0 ((a0.t.b).length) c0_0 p0_1 ((a0.t.f).length) c0_1 p0_2 ((a0.c.l).length) c0_2 p0_3 ((a0.g.o).length) c0_3 1048576 rfl (RO.pass hr0_0 hw) rfl (RO.pass hr0_1 hw) rfl (RO.pass hr0_2 hw) rfl (RO.pass hr0_3 hw) x3 e3) (sevs_cons rfl (sevs_cons rfl sevs_nil))) rfl ?_))))))))
  rintro _ _ ⟨_, ⟨rfl, rfl⟩, rfl⟩
  refine oD (sg rfl) rfl (nn (cw_seq (sr (oD (mv rfl) rfl (oD (stp_lss rfl rfl) rfl (nn (cw_cond rfl (fun h4 => ?_) (fun h4 => ?_))))))))
  · have H0 := cond_t H0 h4
    refine sr (oD (sg rfl) rfl (nn (cw_ret (kw_nx_ret ?_))))
    have q0 := Option.some.inj H0
    subst q0
    exact kw_ret Tryz.results3 (.cons (.tmp rfl) .nil) [] [] trivial (by decide) ⟨rfl, rfl⟩
  · have H0 := cond_f H0 h4
    obtain ⟨x5, e5, H0⟩ := bind_some H0
    obtain ⟨x22, e22, H0⟩ := bind_some H0
    obtain ⟨x23, e23, H0⟩ := bind_some H0
    refine cw_skip (kw_nx (cw_seq (rdr g_mixed [2, 3, 4, 5] [0, 1] { dst := dS [27, 28, 29, 30, 31, 32, 33, 26, 34, 35, 11, 0, 12], pre := gA [] [[], [0], [], [0, 1, 2], [], [], rn 0 6, rn 0 7, rn 0 8, rn 0 8, [], [0, 1, 2, 3, 4, 5, 6, 7, 8, 10], rn 0 12], ids := gA [] [[], [2, 3, 4, 5], [], [], [], [], [6, 7, 8, 9], [], [], [], [10], [10]], rs := rL [[(4, 0)], [(26, 1)], [(5, 0)], [(28, 3)], [(2, 0)], [(3, 0)], [(27, 2), (29, 4), (30, 5), (31, 6)], [(32, 7)], [(25, 8)], [(25, 8)], [], [(10, 11), (33, 9)], [(34, 10)]], rh := rL [[(0, 0)], [], [(1, 0)], [], [], [], [(2, 2), (3, 2), (4, 2), (5, 2)], [], [], [], [], [(10, 11)]], V := fun i g => gA undef [.agg #[.slice p0_0 ((a0.t.b).length) c0_0, .slice p0_1 ((a0.t.f).length) c0_1, .slice p0_2 ((a0.c.l).length) c0_2, .int .i64 a0.c.h, .int .i64 a0.g.c, .int .i64 a0.g.n, .int .i64 a0.g.r, .slice p0_3 ((a0.g.o).length) c0_3, .int .i64 a0.s], .agg #[.slice ((g 1).A 0) ((x5.t.b).length) ((g 1).C 0), .slice ((g 1).A 1) ((x5.t.f).length) ((g 1).C 1), .slice ((g 1).A 2) ((x5.c.l).length) ((g 1).C 2), .int .i64 x5.c.h, .int .i64 x5.g.c, .int .i64 x5.g.n, .int .i64 x5.g.r, .slice ((g 1).A 3) ((x5.g.o).length) ((g 1).C 3), .int .i64 x5.s], .agg #[.int .i64 a1.s, .int .i64 a1.p], .agg #[.int .i64 x22.s, .int .i64 x22.p], .int .i64 a2, .int .i64 a3, .tuple #[.agg #[.slice ((g 6).A 0) ((x23.1.t.b).length) ((g 6).C 0), .slice ((g 6).A 1) ((x23.1.t.f).length) ((g 6).C 1), .slice ((g 6).A 2) ((x23.1.c.l).length) ((g 6).C 2), .int .i64 x23.1.c.h, .int .i64 x23.1.g.c, .int .i64 x23.1.g.n, .int .i64 x23.1.g.r, .slice ((g 6).A 3) ((x23.1.g.o).length) ((g 6).C 3), .int .i64 x23.1.s], .bool x23.2], .tuple #[.agg #[.slice ((g 6).A 0) ((x23.1.t.b).length) ((g 6).C 0), .slice ((g 6).A 1) ((x23.1.t.f).length) ((g 6).C 1), .slice ((g 6).A 2) ((x23.1.c.l).length) ((g 6).C 2), .int .i64 x23.1.c.h, .int .i64 x23.1.g.c, .int .i64 x23.1.g.n, .int .i64 x23.1.g.r, .slice ((g 6).A 3) ((x23.1.g.o).length) ((g 6).C 3), .int .i64 x23.1.s], .bool x23.2], .agg #[.slice ((g 6).A 0) ((x23.1.t.b).length) ((g 6).C 0), .slice ((g 6).A 1) ((x23.1.t.f).length) ((g 6).C 1), .slice ((g 6).A 2) ((x23.1.c.l).length) ((g 6).C 2), .int .i64 x23.1.c.h, .int .i64 x23.1.g.c, .int .i64 x23.1.g.n, .int .i64 x23.1.g.r, .slice ((g 6).A 3) ((x23.1.g.o).length) ((g 6).C 3), .int .i64 x23.1.s], .bool x23.2, .pointer (some ⟨((g 10).C 0), 0, none⟩), undef, .bool x23.2] i, U := fun i g => gA [] [[], [(2, ((g 1).R 0)), (3, ((g 1).R 1)), (4, ((g 1).R 2)), (5, ((g 1).R 3))], [], [], [], [], [(6, ((g 6).R 0)), (7, ((g 6).R 1)), (8, ((g 6).R 2)), (9, ((g 6).R 3))], [], [], [], [(10, [(((g 10).C 0), .cells #[.slice none 0 0, .slice none 0 0, .slice none 0 0, .int .i64 0, .int .i64 0, .int .i64 0, .int .i64 0, .slice none 0 0, .int .i64 0] 47 (0, 0))])], [(10, [(((g 10).C 0), .cells #[.slice ((g 6).A 0) ((x23.1.t.b).length) ((g 6).C 0), .slice ((g 6).A 1) ((x23.1.t.f).length) ((g 6).C 1), .slice ((g 6).A 2) ((x23.1.c.l).length) ((g 6).C 2), .int .i64 x23.1.c.h, .int .i64 x23.1.g.c, .int .i64 x23.1.g.n, .int .i64 x23.1.g.r, .slice ((g 6).A 3) ((x23.1.g.o).length) ((g 6).C 3), .int .i64 x23.1.s] 47 (0, 0))])]] i, Φ := fun i x => match i with | 1 => OwnC (α := Int) 3 (x.A 0) (x.C 0) x5.t.b (x.R 0) ∧ OwnC (α := F) 127 (x.A 1) (x.C 1) x5.t.f (x.R 1) ∧ OwnC (α := Ln) 112 (x.A 2) (x.C 2) x5.c.l (x.R 2) ∧ OwnC (α := Ow) 148 (x.A 3) (x.C 3) x5.g.o (x.R 3) | 6 => OwnC (α := Int) 3 (x.A 0) (x.C 0) x23.1.t.b (x.R 0) ∧ OwnC (α := F) 127 (x.A 1) (x.C 1) x23.1.t.f (x.R 1) ∧ OwnC (α := Ln) 112 (x.A 2) (x.C 2) x23.1.c.l (x.R 2) ∧ OwnC (α := Ow) 148 (x.A 3) (x.C 3) x23.1.g.o (x.R 3) | _ => True } ?_ ?_)))
    · refine ⟨⟨⟨⟨⟨⟨⟨⟨⟨⟨⟨⟨⟨trivial, lc rfl rfl fun hs hh => stp_loadN (us := [_, _, _, _, _, _, _, _, _]) ts33 (sv hs 4 rfl) (Cells.box (id := 0) (hh.get 0 _ rfl) 9 rfl)⟩, ?_⟩, lc rfl rfl fun hs hh => stp_loadN (us := [_, _]) ts35 (sv hs 5 rfl) (Cells.box (id := 1) (hh.get 1 _ rfl) 2 rfl)⟩, ?_⟩, lc rfl rfl fun hs hh => stp_move (sv hs 2 rfl)⟩, lc rfl rfl fun hs hh => stp_move (sv hs 3 rfl)⟩, ?_⟩, lc rfl rfl fun hs hh => stp_move (sv hs 32 rfl)⟩, lc rfl rfl fun hs hh => stp_extract (sv hs 25 rfl) rfl⟩, lc rfl rfl fun hs hh => stp_extract (sv hs 25 rfl) rfl⟩, ?_⟩, ?_⟩, lc rfl rfl fun hs hh => stp_assign (sv hs 34 rfl)⟩
      · refine le rfl rfl (fun g hΦ s h hs hh => (stpU_call (fun i => 2 + i) cf16 (fun w hw => c_l_toMachine fl w a0 p0_0 ((a0.t.b).length) c0_0 p0_1 ((a0.t.f).length) c0_1 p0_2 ((a0.c.l).length) c0_2 p0_3 ((a0.g.o).length) c0_3 rfl (RO.pass hr0_0 hw) rfl (RO.pass hr0_1 hw) rfl (RO.pass hr0_2 hw) rfl (RO.pass hr0_3 hw) x5 e5) (sevs_cons (sv hs 26 rfl) sevs_nil))) ?_
        rintro g _ _ ⟨_, ⟨p6, n7, c8, C9, p10, n11, c12, C13, p14, n15, c16, C17, p18, n19, c20, C21, rfl, rfl, hnn7, o9, hnn11, o13, hnn15, o17, hnn19, o21⟩, rfl⟩
        obtain rfl := hnn7
        obtain rfl := hnn11
        obtain rfl := hnn15
        obtain rfl := hnn19
        exact ⟨⟨[p6, p10, p14, p18], [c8, c12, c16, c20], [C9, C13, C17, C21]⟩, ⟨o9, o13, o17, o21⟩, .inr rfl, rfl⟩
      · refine le rfl rfl (fun g hΦ s h hs hh => (stpU_call (fun i => 6 + i) cf17 (fun w hw => c_l_toKey fl w a1 x22 e22) (sevs_cons (sv hs 28 rfl) sevs_nil))) ?_
        rintro g _ _ ⟨_, ⟨rfl, rfl⟩, rfl⟩
        exact ⟨⟨[], [], []⟩, trivial, .inr rfl, rfl⟩
      · refine le rfl rfl (fun g hΦ s h hs hh => (stpU_call (fun i => 6 + i) cf15 (fun w hw => c_s_PutPage fl w x5 ((g 1).A 0) ((x5.t.b).length) ((g 1).C 0) ((g 1).A 1) ((x5.t.f).length) ((g 1).C 1) ((g 1).A 2) ((x5.c.l).length) ((g 1).C 2) ((g 1).A 3) ((x5.g.o).length) ((g 1).C 3) x22 a2 a3 rfl (OwnC.pass (id := 2) (hh.get 2 _ rfl) (hΦ 1 rfl).1 hw) rfl (OwnC.pass (id := 3) (hh.get 3 _ rfl) (hΦ 1 rfl).2.1 hw) rfl (OwnC.pass (id := 4) (hh.get 4 _ rfl) (hΦ 1 rfl).2.2.1 hw) rfl (OwnC.pass (id := 5) (hh.get 5 _ rfl) (hΦ 1 rfl).2.2.2 hw) x23 e23) (sevs_cons (sv hs 27 rfl) (sevs_cons (sv hs 29 rfl) (sevs_cons (sv hs 30 rfl) (sevs_cons (sv hs 31 rfl) sevs_nil)))))) ?_
        rintro g _ _ ⟨_, ⟨p24, n25, c26, C27, p28, n29, c30, C31, p32, n33, c34, C35, p36, n37, c38, C39, rfl, rfl, hnn25, o27, hnn29, o31, hnn33, o35, hnn37, o39⟩, rfl⟩
        obtain rfl := hnn25
        obtain rfl := hnn29
        obtain rfl := hnn33
        obtain rfl := hnn37
        exact ⟨⟨[p24, p28, p32, p36], [c26, c30, c34, c38], [C27, C31, C35, C39]⟩, ⟨o27, o31, o35, o39⟩, .inr rfl, rfl⟩
      · refine le rfl rfl (fun g hΦ s h hs hh => (stpU_alloc 10 tz47 rfl)) ?_
        rintro g _ _ ⟨b40, rfl, rfl⟩
        exact ⟨⟨[], [b40], []⟩, trivial, .inr rfl, rfl⟩
      · refine le rfl rfl (fun g hΦ s h hs hh => (stpU_store (id := 10) (cs' := [.slice ((g 6).A 0) ((x23.1.t.b).length) ((g 6).C 0), .slice ((g 6).A 1) ((x23.1.t.f).length) ((g 6).C 1), .slice ((g 6).A 2) ((x23.1.c.l).length) ((g 6).C 2), .int .i64 x23.1.c.h, .int .i64 x23.1.g.c, .int .i64 x23.1.g.n, .int .i64 x23.1.g.r, .slice ((g 6).A 3) ((x23.1.g.o).length) ((g 6).C 3), .int .i64 x23.1.s]) ts47 (sv hs 10 rfl) (sv hs 33 rfl) (hh.get 10 _ rfl) rfl rfl rfl rfl)) ?_
        rintro g _ _ rfl
        exact ⟨⟨[], [], []⟩, trivial, .inl rfl, rfl⟩
    · intro g hΦ
      refine kw_gen (ι := Option Addr × Option Addr × Option Addr × Option Addr × Nat × Nat × Nat × Nat × Res × Res × Res × Res × Option Addr × Option Addr × Option Addr × Option Addr × Nat × Nat × Nat × Nat × Res × Res × Res × Res × Nat) (((g 1).A 0), ((g 1).A 1), ((g 1).A 2), ((g 1).A 3), ((g 1).C 0), ((g 1).C 1), ((g 1).C 2), ((g 1).C 3), ((g 1).R 0), ((g 1).R 1), ((g 1).R 2), ((g 1).R 3), ((g 6).A 0), ((g 6).A 1), ((g 6).A 2), ((g 6).A 3), ((g 6).C 0), ((g 6).C 1), ((g 6).C 2), ((g 6).C 3), ((g 6).R 0), ((g 6).R 1), ((g 6).R 2), ((g 6).R 3), ((g 10).C 0)) (fun | (p6, p10, p14, p18, c8, c12, c16, c20, C9, C13, C17, C21, p24, p28, p32, p36, c26, c30, c34, c38, C27, C31, C35, C39, b40) => OwnC (α := Int) 3 p6 c8 x5.t.b C9 ∧ OwnC (α := F) 127 p10 c12 x5.t.f C13 ∧ OwnC (α := Ln) 112 p14 c16 x5.c.l C17 ∧ OwnC (α := Ow) 148 p18 c20 x5.g.o C21 ∧ OwnC (α := Int) 3 p24 c26 x23.1.t.b C27 ∧ OwnC (α := F) 127 p28 c30 x23.1.t.f C31 ∧ OwnC (α := Ln) 112 p32 c34 x23.1.c.l C35 ∧ OwnC (α := Ow) 148 p36 c38 x23.1.g.o C39) (fun | (p6, p10, p14, p18, c8, c12, c16, c20, C9, C13, C17, C21, p24, p28, p32, p36, c26, c30, c34, c38, C27, C31, C35, C39, b40) => [(2, .int .i64 a2), (3, .int .i64 a3), (4, .pointer (some ⟨b1, 0, none⟩)), (5, .pointer (some ⟨b2, 0, none⟩)), (10, .pointer (some ⟨b40, 0, none⟩)), (11, .bool x23.2)]) (fun | (p6, p10, p14, p18, c8, c12, c16, c20, C9, C13, C17, C21, p24, p28, p32, p36, c26, c30, c34, c38, C27, C31, C35, C39, b40) => [(0, [(b1, .cells #[.slice p0_0 ((a0.t.b).length) c0_0, .slice p0_1 ((a0.t.f).length) c0_1, .slice p0_2 ((a0.c.l).length) c0_2, .int .i64 a0.c.h, .int .i64 a0.g.c, .int .i64 a0.g.n, .int .i64 a0.g.r, .slice p0_3 ((a0.g.o).length) c0_3, .int .i64 a0.s] 33 (0, 0))]), (1, [(b2, .cells #[.int .i64 a1.s, .int .i64 a1.p] 35 (0, 0))]), (6, C27), (7, C31), (8, C35), (9, C39), (10, [(b40, .cells #[.slice p24 ((x23.1.t.b).length) c26, .slice p28 ((x23.1.t.f).length) c30, .slice p32 ((x23.1.c.l).length) c34, .int .i64 x23.1.c.h, .int .i64 x23.1.g.c, .int .i64 x23.1.g.n, .int .i64 x23.1.g.r, .slice p36 ((x23.1.g.o).length) c38, .int .i64 x23.1.s] 47 (0, 0))])]) ⟨(hΦ 1 (by decide)).1, (hΦ 1 (by decide)).2.1, (hΦ 1 (by decide)).2.2.1, (hΦ 1 (by decide)).2.2.2, (hΦ 6 (by decide)).1, (hΦ 6 (by decide)).2.1, (hΦ 6 (by decide)).2.2.1, (hΦ 6 (by decide)).2.2.2⟩ ⟨rfl, rfl, rfl, rfl, rfl, rfl, trivial⟩ ⟨rfl, rfl, rfl, rfl, rfl, rfl, rfl, trivial⟩ ?_
      rintro ⟨p6, p10, p14, p18, c8, c12, c16, c20, C9, C13, C17, C21, p24, p28, p32, p36, c26, c30, c34, c38, C27, C31, C35, C39, b40⟩ ⟨o9, o13, o17, o21, o27, o31, o35, o39⟩
      refine KW.sub (s' := [(2, .int .i64 a2), (3, .int .i64 a3), (4, .pointer (some ⟨b1, 0, none⟩)), (5, .pointer (some ⟨b2, 0, none⟩)), (10, .pointer (some ⟨b40, 0, none⟩)), (11, .bool x23.2)]) (h' := [(0, [(b1, .cells #[.slice p0_0 ((a0.t.b).length) c0_0, .slice p0_1 ((a0.t.f).length) c0_1, .slice p0_2 ((a0.c.l).length) c0_2, .int .i64 a0.c.h, .int .i64 a0.g.c, .int .i64 a0.g.n, .int .i64 a0.g.r, .slice p0_3 ((a0.g.o).length) c0_3, .int .i64 a0.s] 33 (0, 0))]), (1, [(b2, .cells #[.int .i64 a1.s, .int .i64 a1.p] 35 (0, 0))]), (6, C27), (7, C31), (8, C35), (9, C39), (10, [(b40, .cells #[.slice p24 ((x23.1.t.b).length) c26, .slice p28 ((x23.1.t.f).length) c30, .slice p32 ((x23.1.c.l).length) c34, .int .i64 x23.1.c.h, .int .i64 x23.1.g.c, .int .i64 x23.1.g.n, .int .i64 x23.1.g.r, .slice p36 ((x23.1.g.o).length) c38, .int .i64 x23.1.s] 47 (0, 0))])]) ?_ ⟨rfl, rfl, rfl, rfl, rfl, rfl, trivial⟩ ⟨rfl, rfl, rfl, rfl, rfl, rfl, rfl, trivial⟩
      obtain ⟨x41, e41, H0⟩ := bind_some H0
      refine kw_nx (sr (oD (stp_loadN (us := [_, _, _, _, _, _, _, _, _]) ts33 rfl (Cells.box (id := 0) rfl 9 rfl)) rfl (oE (stpU_call (fun i => 11 + i) cf16 (fun w hw => c_l_toMachine fl w a0 p0_0 ((a0.t.b).length) c0_0 p0_1 ((a0.t.f).length) c0_1 p0_2 ((a0.c.l).length) c0_2 p0_3 ((a0.g.o).length) c0_3 rfl (RO.pass hr0_0 hw) rfl (RO.pass hr0_1 hw) rfl (RO.pass hr0_2 hw) rfl (RO.pass hr0_3 hw) x41 e41) (sevs_cons rfl sevs_nil)) rfl ?_)))
      rintro _ _ ⟨_, ⟨p42, n43, c44, C45, p46, n47, c48, C49, p50, n51, c52, C53, p54, n55, c56, C57, rfl, rfl, hnn43, o45, hnn47, o49, hnn51, o53, hnn55, o57⟩, rfl⟩
      obtain rfl := hnn43
      obtain rfl := hnn47
      obtain rfl := hnn51
      obtain rfl := hnn55
      refine oE (stpU_alloc 15 tz47 rfl) rfl ?_
      rintro _ _ ⟨b58, rfl, rfl⟩
      refine oF (stpU_store (id := 15) (cs' := [.slice p42 ((x41.t.b).length) c44, .slice p46 ((x41.t.f).length) c48, .slice p50 ((x41.c.l).length) c52, .int .i64 x41.c.h, .int .i64 x41.g.c, .int .i64 x41.g.n, .int .i64 x41.g.r, .slice p54 ((x41.g.o).length) c56, .int .i64 x41.s]) ts47 rfl rfl rfl rfl rfl rfl rfl) ?_
      rintro _ _ rfl
      obtain ⟨x59, e59, H0⟩ := bind_some H0
      refine nn (cw_seq (rdr g_mixed [2, 3, 5, 12] [1, 11, 12, 13, 14, 15] { dst := dS [39, 40, 41, 42, 43, 44, 38, 45, 46, 14, 0, 15], pre := gA [] [[], [], [1], [], [], rn 0 5, rn 0 6, rn 0 7, rn 0 7, [], [0, 1, 2, 3, 4, 5, 6, 7, 9], rn 0 11], ids := gA [] [[], [], [], [], [], [16, 17, 18, 19], [], [], [], [20], [20]], rs := rL [[(12, 0)], [(5, 0)], [(39, 2)], [(2, 0)], [(3, 0)], [(38, 1), (40, 3), (41, 4), (42, 5)], [(43, 6)], [(37, 7)], [(37, 7)], [], [(13, 10), (44, 8)], [(45, 9)]], rh := rL [[(15, 0)], [(1, 0)], [], [], [], [(11, 0), (12, 0), (13, 0), (14, 0)], [], [], [], [], [(20, 10)]], V := fun i g => gA undef [.agg #[.slice p42 ((x41.t.b).length) c44, .slice p46 ((x41.t.f).length) c48, .slice p50 ((x41.c.l).length) c52, .int .i64 x41.c.h, .int .i64 x41.g.c, .int .i64 x41.g.n, .int .i64 x41.g.r, .slice p54 ((x41.g.o).length) c56, .int .i64 x41.s], .agg #[.int .i64 a1.s, .int .i64 a1.p], .agg #[.int .i64 x22.s, .int .i64 x22.p], .int .i64 a2, .int .i64 a3, .tuple #[.agg #[.slice ((g 5).A 0) ((x59.1.t.b).length) ((g 5).C 0), .slice ((g 5).A 1) ((x59.1.t.f).length) ((g 5).C 1), .slice ((g 5).A 2) ((x59.1.c.l).length) ((g 5).C 2), .int .i64 x59.1.c.h, .int .i64 x59.1.g.c, .int .i64 x59.1.g.n, .int .i64 x59.1.g.r, .slice ((g 5).A 3) ((x59.1.g.o).length) ((g 5).C 3), .int .i64 x59.1.s], .bool x59.2], .tuple #[.agg #[.slice ((g 5).A 0) ((x59.1.t.b).length) ((g 5).C 0), .slice ((g 5).A 1) ((x59.1.t.f).length) ((g 5).C 1), .slice ((g 5).A 2) ((x59.1.c.l).length) ((g 5).C 2), .int .i64 x59.1.c.h, .int .i64 x59.1.g.c, .int .i64 x59.1.g.n, .int .i64 x59.1.g.r, .slice ((g 5).A 3) ((x59.1.g.o).length) ((g 5).C 3), .int .i64 x59.1.s], .bool x59.2], .agg #[.slice ((g 5).A 0) ((x59.1.t.b).length) ((g 5).C 0), .slice ((g 5).A 1) ((x59.1.t.f).length) ((g 5).C 1), .slice ((g 5).A 2) ((x59.1.c.l).length) ((g 5).C 2), .int .i64 x59.1.c.h, .int .i64 x59.1.g.c, .int .i64 x59.1.g.n, .int .i64 x59.1.g.r, .slice ((g 5).A 3) ((x59.1.g.o).length) ((g 5).C 3), .int .i64 x59.1.s], .bool x59.2, .pointer (some ⟨((g 9).C 0), 0, none⟩), undef, .bool x59.2] i, U := fun i g => gA [] [[], [], [], [], [], [(16, ((g 5).R 0)), (17, ((g 5).R 1)), (18, ((g 5).R 2)), (19, ((g 5).R 3))], [], [], [], [(20, [(((g 9).C 0), .cells #[.slice none 0 0, .slice none 0 0, .slice none 0 0, .int .i64 0, .int .i64 0, .int .i64 0, .int .i64 0, .slice none 0 0, .int .i64 0] 47 (0, 0))])], [(20, [(((g 9).C 0), .cells #[.slice ((g 5).A 0) ((x59.1.t.b).length) ((g 5).C 0), .slice ((g 5).A 1) ((x59.1.t.f).length) ((g 5).C 1), .slice ((g 5).A 2) ((x59.1.c.l).length) ((g 5).C 2), .int .i64 x59.1.c.h, .int .i64 x59.1.g.c, .int .i64 x59.1.g.n, .int .i64 x59.1.g.r, .slice ((g 5).A 3) ((x59.1.g.o).length) ((g 5).C 3), .int .i64 x59.1.s] 47 (0, 0))])]] i, Φ := fun i x => match i with | 5 => OwnC (α := Int) 3 (x.A 0) (x.C 0) x59.1.t.b (x.R 0) ∧ OwnC (α := F) 127 (x.A 1) (x.C 1) x59.1.t.f (x.R 1) ∧ OwnC (α := Ln) 112 (x.A 2) (x.C 2) x59.1.c.l (x.R 2) ∧ OwnC (α := Ow) 148 (x.A 3) (x.C 3) x59.1.g.o (x.R 3) | _ => True } ?_ ?_))
      · refine ⟨⟨⟨⟨⟨⟨⟨⟨⟨⟨⟨⟨trivial, lc rfl rfl fun hs hh => stp_loadN (us := [_, _, _, _, _, _, _, _, _]) ts47 (sv hs 12 rfl) (Cells.box (id := 15) (hh.get 15 _ rfl) 9 rfl)⟩, lc rfl rfl fun hs hh => stp_loadN (us := [_, _]) ts35 (sv hs 5 rfl) (Cells.box (id := 1) (hh.get 1 _ rfl) 2 rfl)⟩, ?_⟩, lc rfl rfl fun hs hh => stp_move (sv hs 2 rfl)⟩, lc rfl rfl fun hs hh => stp_move (sv hs 3 rfl)⟩, ?_⟩, lc rfl rfl fun hs hh => stp_move (sv hs 43 rfl)⟩, lc rfl rfl fun hs hh => stp_extract (sv hs 37 rfl) rfl⟩, lc rfl rfl fun hs hh => stp_extract (sv hs 37 rfl) rfl⟩, ?_⟩, ?_⟩, lc rfl rfl fun hs hh => stp_assign (sv hs 45 rfl)⟩
        · refine le rfl rfl (fun g hΦ s h hs hh => (stpU_call (fun i => 16 + i) cf17 (fun w hw => c_l_toKey fl w a1 x22 e22) (sevs_cons (sv hs 39 rfl) sevs_nil))) ?_
          rintro g _ _ ⟨_, ⟨rfl, rfl⟩, rfl⟩
          exact ⟨⟨[], [], []⟩, trivial, .inr rfl, rfl⟩
        · refine le rfl rfl (fun g hΦ s h hs hh => (stpU_call (fun i => 16 + i) cf18 (fun w hw => c_i_PutPage fl w x41 p42 ((x41.t.b).length) c44 p46 ((x41.t.f).length) c48 p50 ((x41.c.l).length) c52 p54 ((x41.g.o).length) c56 x22 a2 a3 rfl (OwnC.pass (id := 11) (hh.get 11 _ rfl) o45 hw) rfl (OwnC.pass (id := 12) (hh.get 12 _ rfl) o49 hw) rfl (OwnC.pass (id := 13) (hh.get 13 _ rfl) o53 hw) rfl (OwnC.pass (id := 14) (hh.get 14 _ rfl) o57 hw) (RO.pass hg hw) x59 e59) (sevs_cons (sv hs 38 rfl) (sevs_cons (sv hs 40 rfl) (sevs_cons (sv hs 41 rfl) (sevs_cons (sv hs 42 rfl) sevs_nil)))))) ?_
          rintro g _ _ ⟨_, ⟨p60, n61, c62, C63, p64, n65, c66, C67, p68, n69, c70, C71, p72, n73, c74, C75, rfl, rfl, hnn61, o63, hnn65, o67, hnn69, o71, hnn73, o75⟩, rfl⟩
          obtain rfl := hnn61
          obtain rfl := hnn65
          obtain rfl := hnn69
          obtain rfl := hnn73
          exact ⟨⟨[p60, p64, p68, p72], [c62, c66, c70, c74], [C63, C67, C71, C75]⟩, ⟨o63, o67, o71, o75⟩, .inr rfl, rfl⟩
        · refine le rfl rfl (fun g hΦ s h hs hh => (stpU_alloc 20 tz47 rfl)) ?_
          rintro g _ _ ⟨b76, rfl, rfl⟩
          exact ⟨⟨[], [b76], []⟩, trivial, .inr rfl, rfl⟩
        · refine le rfl rfl (fun g hΦ s h hs hh => (stpU_store (id := 20) (cs' := [.slice ((g 5).A 0) ((x59.1.t.b).length) ((g 5).C 0), .slice ((g 5).A 1) ((x59.1.t.f).length) ((g 5).C 1), .slice ((g 5).A 2) ((x59.1.c.l).length) ((g 5).C 2), .int .i64 x59.1.c.h, .int .i64 x59.1.g.c, .int .i64 x59.1.g.n, .int .i64 x59.1.g.r, .slice ((g 5).A 3) ((x59.1.g.o).length) ((g 5).C 3), .int .i64 x59.1.s]) ts47 (sv hs 13 rfl) (sv hs 44 rfl) (hh.get 20 _ rfl) rfl rfl rfl rfl)) ?_
          rintro g _ _ rfl
          exact ⟨⟨[], [], []⟩, trivial, .inl rfl, rfl⟩
      · intro g hΦ
        refine kw_gen (ι := Option Addr × Option Addr × Option Addr × Option Addr × Nat × Nat × Nat × Nat × Res × Res × Res × Res × Nat) (((g 5).A 0), ((g 5).A 1), ((g 5).A 2), ((g 5).A 3), ((g 5).C 0), ((g 5).C 1), ((g 5).C 2), ((g 5).C 3), ((g 5).R 0), ((g 5).R 1), ((g 5).R 2), ((g 5).R 3), ((g 9).C 0)) (fun | (p60, p64, p68, p72, c62, c66, c70, c74, C63, C67, C71, C75, b76) => OwnC (α := Int) 3 p60 c62 x59.1.t.b C63 ∧ OwnC (α := F) 127 p64 c66 x59.1.t.f C67 ∧ OwnC (α := Ln) 112 p68 c70 x59.1.c.l C71 ∧ OwnC (α := Ow) 148 p72 c74 x59.1.g.o C75) (fun | (p60, p64, p68, p72, c62, c66, c70, c74, C63, C67, C71, C75, b76) => [(2, .int .i64 a2), (3, .int .i64 a3), (4, .pointer (some ⟨b1, 0, none⟩)), (5, .pointer (some ⟨b2, 0, none⟩)), (10, .pointer (some ⟨b40, 0, none⟩)), (11, .bool x23.2), (12, .pointer (some ⟨b58, 0, none⟩)), (13, .pointer (some ⟨b76, 0, none⟩)), (14, .bool x59.2)]) (fun | (p60, p64, p68, p72, c62, c66, c70, c74, C63, C67, C71, C75, b76) => [(0, [(b1, .cells #[.slice p0_0 ((a0.t.b).length) c0_0, .slice p0_1 ((a0.t.f).length) c0_1, .slice p0_2 ((a0.c.l).length) c0_2, .int .i64 a0.c.h, .int .i64 a0.g.c, .int .i64 a0.g.n, .int .i64 a0.g.r, .slice p0_3 ((a0.g.o).length) c0_3, .int .i64 a0.s] 33 (0, 0))]), (1, [(b2, .cells #[.int .i64 a1.s, .int .i64 a1.p] 35 (0, 0))]), (6, C27), (7, C31), (8, C35), (9, C39), (10, [(b40, .cells #[.slice p24 ((x23.1.t.b).length) c26, .slice p28 ((x23.1.t.f).length) c30, .slice p32 ((x23.1.c.l).length) c34, .int .i64 x23.1.c.h, .int .i64 x23.1.g.c, .int .i64 x23.1.g.n, .int .i64 x23.1.g.r, .slice p36 ((x23.1.g.o).length) c38, .int .i64 x23.1.s] 47 (0, 0))]), (11, C45), (12, C49), (13, C53), (14, C57), (15, [(b58, .cells #[.slice p42 ((x41.t.b).length) c44, .slice p46 ((x41.t.f).length) c48, .slice p50 ((x41.c.l).length) c52, .int .i64 x41.c.h, .int .i64 x41.g.c, .int .i64 x41.g.n, .int .i64 x41.g.r, .slice p54 ((x41.g.o).length) c56, .int .i64 x41.s] 47 (0, 0))]), (16, C63), (17, C67), (18, C71), (19, C75), (20, [(b76, .cells #[.slice p60 ((x59.1.t.b).length) c62, .slice p64 ((x59.1.t.f).length) c66, .slice p68 ((x59.1.c.l).length) c70, .int .i64 x59.1.c.h, .int .i64 x59.1.g.c, .int .i64 x59.1.g.n, .int .i64 x59.1.g.r, .slice p72 ((x59.1.g.o).length) c74, .int .i64 x59.1.s] 47 (0, 0))])]) ⟨(hΦ 5 (by decide)).1, (hΦ 5 (by decide)).2.1, (hΦ 5 (by decide)).2.2.1, (hΦ 5 (by decide)).2.2.2⟩ ⟨rfl, rfl, rfl, rfl, rfl, rfl, rfl, rfl, rfl, trivial⟩ ⟨rfl, rfl, rfl, rfl, rfl, rfl, rfl, rfl, rfl, rfl, rfl, rfl, rfl, rfl, rfl, rfl, rfl, trivial⟩ ?_
        rintro ⟨p60, p64, p68, p72, c62, c66, c70, c74, C63, C67, C71, C75, b76⟩ ⟨o63, o67, o71, o75⟩
        refine KW.sub (s' := [(2, .int .i64 a2), (3, .int .i64 a3), (4, .pointer (some ⟨b1, 0, none⟩)), (5, .pointer (some ⟨b2, 0, none⟩)), (10, .pointer (some ⟨b40, 0, none⟩)), (11, .bool x23.2), (12, .pointer (some ⟨b58, 0, none⟩)), (13, .pointer (some ⟨b76, 0, none⟩)), (14, .bool x59.2)]) (h' := [(0, [(b1, .cells #[.slice p0_0 ((a0.t.b).length) c0_0, .slice p0_1 ((a0.t.f).length) c0_1, .slice p0_2 ((a0.c.l).length) c0_2, .int .i64 a0.c.h, .int .i64 a0.g.c, .int .i64 a0.g.n, .int .i64 a0.g.r, .slice p0_3 ((a0.g.o).length) c0_3, .int .i64 a0.s] 33 (0, 0))]), (1, [(b2, .cells #[.int .i64 a1.s, .int .i64 a1.p] 35 (0, 0))]), (6, C27), (7, C31), (8, C35), (9, C39), (10, [(b40, .cells #[.slice p24 ((x23.1.t.b).length) c26, .slice p28 ((x23.1.t.f).length) c30, .slice p32 ((x23.1.c.l).length) c34, .int .i64 x23.1.c.h, .int .i64 x23.1.g.c, .int .i64 x23.1.g.n, .int .i64 x23.1.g.r, .slice p36 ((x23.1.g.o).length) c38, .int .i64 x23.1.s] 47 (0, 0))]), (11, C45), (12, C49), (13, C53), (14, C57), (15, [(b58, .cells #[.slice p42 ((x41.t.b).length) c44, .slice p46 ((x41.t.f).length) c48, .slice p50 ((x41.c.l).length) c52, .int .i64 x41.c.h, .int .i64 x41.g.c, .int .i64 x41.g.n, .int .i64 x41.g.r, .slice p54 ((x41.g.o).length) c56, .int .i64 x41.s] 47 (0, 0))]), (16, C63), (17, C67), (18, C71), (19, C75), (20, [(b76, .cells #[.slice p60 ((x59.1.t.b).length) c62, .slice p64 ((x59.1.t.f).length) c66, .slice p68 ((x59.1.c.l).length) c70, .int .i64 x59.1.c.h, .int .i64 x59.1.g.c, .int .i64 x59.1.g.n, .int .i64 x59.1.g.r, .slice p72 ((x59.1.g.o).length) c74, .int .i64 x59.1.s] 47 (0, 0))])]) ?_ ⟨rfl, rfl, rfl, rfl, rfl, rfl, rfl, rfl, rfl, trivial⟩ ⟨rfl, rfl, rfl, rfl, rfl, rfl, rfl, rfl, rfl, rfl, rfl, rfl, rfl, rfl, rfl, rfl, rfl, trivial⟩
        obtain ⟨x77, e77, H0⟩ := bind_some H0
        refine kw_nx (cw_seq (sr (oD (stp_loadN (us := [_, _, _, _, _, _, _, _, _]) ts47 rfl (Cells.box (id := 20) rfl 9 rfl)) rfl (oD (stp_loadN (us := [_, _, _, _, _, _, _, _, _]) ts47 rfl (Cells.box (id := 10) rfl 9 rfl)) rfl (oE (stpU_call (fun i => 21 + i) cf19 (fun w hw => c_l_eqMachine fl w x59.1 p60 ((x59.1.t.b).length) c62 p64 ((x59.1.t.f).length) c66 p68 ((x59.1.c.l).length) c70 p72 ((x59.1.g.o).length) c74 x23.1 p24 ((x23.1.t.b).length) c26 p28 ((x23.1.t.f).length) c30 p32 ((x23.1.c.l).length) c34 p36 ((x23.1.g.o).length) c38 rfl (OwnC.pass (id := 16) rfl o63 hw) rfl (OwnC.pass (id := 17) rfl o67 hw) rfl (OwnC.pass (id := 18) rfl o71 hw) rfl (OwnC.pass (id := 19) rfl o75 hw) rfl (OwnC.pass (id := 6) rfl o27 hw) rfl (OwnC.pass (id := 7) rfl o31 hw) rfl (OwnC.pass (id := 8) rfl o35 hw) rfl (OwnC.pass (id := 9) rfl o39 hw) x77 e77) (sevs_cons rfl (sevs_cons rfl sevs_nil))) rfl ?_)))))
        rintro _ _ ⟨_, ⟨rfl, rfl⟩, rfl⟩
        obtain ⟨y78, ey78, H0⟩ := bind_some H0
        refine oD (stp_not rfl) rfl (oD (mv rfl) rfl (ow_cutY 4 54 y78 ?_ ?_))
        · rcases Bool.eq_false_or_eq_true (!x77) with hy78 | hy78
          · have ey78 := cond_t ey78 hy78
            refine oO rfl hy78 rfl (oO rfl hy78 rfl (oO rfl hy78 rfl (oD (stp_pick_t rfl hy78 rfl) rfl ?_)))
            obtain rfl := Option.some.inj ey78
            exact ow_nil (jy 4 0)
          · have ey78 := cond_f ey78 hy78
            refine oG rfl hy78 (mv rfl) rfl (oG rfl hy78 (mv rfl) rfl (oG rfl hy78 (stp_neqB Tryz.underlying4 rfl rfl) rfl (oD (stp_pick_f rfl hy78 rfl) rfl ?_)))
            obtain rfl := Option.some.inj ey78
            exact ow_nil (jy 4 0)
        · refine ow_nil (kw_nx (cw_cond rfl (fun h79 => ?_) (fun h79 => ?_)))
          · have H0 := cond_t H0 h79
            refine sr (oD (sg rfl) rfl (nn (cw_ret (kw_nx_ret ?_))))
            have q0 := Option.some.inj H0
            subst q0
            exact kw_ret Tryz.results3 (.cons (.tmp rfl) .nil) [] [] trivial (by decide) ⟨rfl, rfl⟩
          · have H0 := cond_f H0 h79
            obtain ⟨x80, e80, H0⟩ := bind_some H0
            obtain ⟨x97, e97, H0⟩ := bind_some H0
            refine cw_skip (kw_nx (cw_seq (cw_seq (rdr g_mixed [4, 12] [0, 11, 12, 13, 14, 15] { dst := dS [56, 57, 58, 59, 60], pre := gA [] [[], [], [1], [0, 1, 2], rn 0 4], ids := gA [] [[], [], [21, 22, 23, 24]], rs := rL [[(12, 0)], [(4, 0)], [(56, 2)], [(55, 1), (57, 3)], [(58, 4)]], rh := rL [[(15, 0)], [(0, 0)], [], [(11, 0), (12, 0), (13, 0), (14, 0), (21, 3), (22, 3), (23, 3), (24, 3)]], V := fun i g => gA undef [.agg #[.slice p42 ((x41.t.b).length) c44, .slice p46 ((x41.t.f).length) c48, .slice p50 ((x41.c.l).length) c52, .int .i64 x41.c.h, .int .i64 x41.g.c, .int .i64 x41.g.n, .int .i64 x41.g.r, .slice p54 ((x41.g.o).length) c56, .int .i64 x41.s], .agg #[.slice p0_0 ((a0.t.b).length) c0_0, .slice p0_1 ((a0.t.f).length) c0_1, .slice p0_2 ((a0.c.l).length) c0_2, .int .i64 a0.c.h, .int .i64 a0.g.c, .int .i64 a0.g.n, .int .i64 a0.g.r, .slice p0_3 ((a0.g.o).length) c0_3, .int .i64 a0.s], .agg #[.slice ((g 2).A 0) ((x80.t.b).length) ((g 2).C 0), .slice ((g 2).A 1) ((x80.t.f).length) ((g 2).C 1), .slice ((g 2).A 2) ((x80.c.l).length) ((g 2).C 2), .int .i64 x80.c.h, .int .i64 x80.g.c, .int .i64 x80.g.n, .int .i64 x80.g.r, .slice ((g 2).A 3) ((x80.g.o).length) ((g 2).C 3), .int .i64 x80.s], .bool x97, .bool (!x97)] i, U := fun i g => gA [] [[], [], [(21, ((g 2).R 0)), (22, ((g 2).R 1)), (23, ((g 2).R 2)), (24, ((g 2).R 3))]] i, Φ := fun i x => gA True [True, True, OwnC (α := Int) 3 (x.A 0) (x.C 0) x80.t.b (x.R 0) ∧ OwnC (α := F) 127 (x.A 1) (x.C 1) x80.t.f (x.R 1) ∧ OwnC (α := Ln) 112 (x.A 2) (x.C 2) x80.c.l (x.R 2) ∧ OwnC (α := Ow) 148 (x.A 3) (x.C 3) x80.g.o (x.R 3)] i } ?_ ?_))))
            · refine ⟨⟨⟨⟨⟨trivial, lc rfl rfl fun hs hh => stp_loadN (us := [_, _, _, _, _, _, _, _, _]) ts47 (sv hs 12 rfl) (Cells.box (id := 15) (hh.get 15 _ rfl) 9 rfl)⟩, lc rfl rfl fun hs hh => stp_loadN (us := [_, _, _, _, _, _, _, _, _]) ts33 (sv hs 4 rfl) (Cells.box (id := 0) (hh.get 0 _ rfl) 9 rfl)⟩, ?_⟩, ?_⟩, lc rfl rfl fun hs hh => stp_not (sv hs 58 rfl)⟩
              · refine le rfl rfl (fun g hΦ s h hs hh => (stpU_call (fun i => 21 + i) cf16 (fun w hw => c_l_toMachine fl w a0 p0_0 ((a0.t.b).length) c0_0 p0_1 ((a0.t.f).length) c0_1 p0_2 ((a0.c.l).length) c0_2 p0_3 ((a0.g.o).length) c0_3 rfl (RO.pass hr0_0 hw) rfl (RO.pass hr0_1 hw) rfl (RO.pass hr0_2 hw) rfl (RO.pass hr0_3 hw) x80 e80) (sevs_cons (sv hs 56 rfl) sevs_nil))) ?_
                rintro g _ _ ⟨_, ⟨p81, n82, c83, C84, p85, n86, c87, C88, p89, n90, c91, C92, p93, n94, c95, C96, rfl, rfl, hnn82, o84, hnn86, o88, hnn90, o92, hnn94, o96⟩, rfl⟩
                obtain rfl := hnn82
                obtain rfl := hnn86
                obtain rfl := hnn90
                obtain rfl := hnn94
                exact ⟨⟨[p81, p85, p89, p93], [c83, c87, c91, c95], [C84, C88, C92, C96]⟩, ⟨o84, o88, o92, o96⟩, .inr rfl, rfl⟩
              · refine le rfl rfl (fun g hΦ s h hs hh => (stpU_call (fun i => 25 + i) cf19 (fun w hw => c_l_eqMachine fl w x41 p42 ((x41.t.b).length) c44 p46 ((x41.t.f).length) c48 p50 ((x41.c.l).length) c52 p54 ((x41.g.o).length) c56 x80 ((g 2).A 0) ((x80.t.b).length) ((g 2).C 0) ((g 2).A 1) ((x80.t.f).length) ((g 2).C 1) ((g 2).A 2) ((x80.c.l).length) ((g 2).C 2) ((g 2).A 3) ((x80.g.o).length) ((g 2).C 3) rfl (OwnC.pass (id := 11) (hh.get 11 _ rfl) o45 hw) rfl (OwnC.pass (id := 12) (hh.get 12 _ rfl) o49 hw) rfl (OwnC.pass (id := 13) (hh.get 13 _ rfl) o53 hw) rfl (OwnC.pass (id := 14) (hh.get 14 _ rfl) o57 hw) rfl (OwnC.pass (id := 21) (hh.get 21 _ rfl) (hΦ 2 rfl).1 hw) rfl (OwnC.pass (id := 22) (hh.get 22 _ rfl) (hΦ 2 rfl).2.1 hw) rfl (OwnC.pass (id := 23) (hh.get 23 _ rfl) (hΦ 2 rfl).2.2.1 hw) rfl (OwnC.pass (id := 24) (hh.get 24 _ rfl) (hΦ 2 rfl).2.2.2 hw) x97 e97) (sevs_cons (sv hs 55 rfl) (sevs_cons (sv hs 57 rfl) sevs_nil)))) ?_
                rintro g _ _ ⟨_, ⟨rfl, rfl⟩, rfl⟩
                exact ⟨⟨[], [], []⟩, trivial, .inr rfl, rfl⟩
            · intro g hΦ
              refine kw_gen (ι := Option Addr × Option Addr × Option Addr × Option Addr × Nat × Nat × Nat × Nat × Res × Res × Res × Res) (((g 2).A 0), ((g 2).A 1), ((g 2).A 2), ((g 2).A 3), ((g 2).C 0), ((g 2).C 1), ((g 2).C 2), ((g 2).C 3), ((g 2).R 0), ((g 2).R 1), ((g 2).R 2), ((g 2).R 3)) (fun | (p81, p85, p89, p93, c83, c87, c91, c95, C84, C88, C92, C96) => OwnC (α := Int) 3 p81 c83 x80.t.b C84 ∧ OwnC (α := F) 127 p85 c87 x80.t.f C88 ∧ OwnC (α := Ln) 112 p89 c91 x80.c.l C92 ∧ OwnC (α := Ow) 148 p93 c95 x80.g.o C96) (fun | (p81, p85, p89, p93, c83, c87, c91, c95, C84, C88, C92, C96) => [(2, .int .i64 a2), (3, .int .i64 a3), (4, .pointer (some ⟨b1, 0, none⟩)), (5, .pointer (some ⟨b2, 0, none⟩)), (10, .pointer (some ⟨b40, 0, none⟩)), (11, .bool x23.2), (12, .pointer (some ⟨b58, 0, none⟩)), (13, .pointer (some ⟨b76, 0, none⟩)), (14, .bool x59.2), (59, .bool (!x97))]) (fun | (p81, p85, p89, p93, c83, c87, c91, c95, C84, C88, C92, C96) => [(0, [(b1, .cells #[.slice p0_0 ((a0.t.b).length) c0_0, .slice p0_1 ((a0.t.f).length) c0_1, .slice p0_2 ((a0.c.l).length) c0_2, .int .i64 a0.c.h, .int .i64 a0.g.c, .int .i64 a0.g.n, .int .i64 a0.g.r, .slice p0_3 ((a0.g.o).length) c0_3, .int .i64 a0.s] 33 (0, 0))]), (1, [(b2, .cells #[.int .i64 a1.s, .int .i64 a1.p] 35 (0, 0))]), (6, C27), (7, C31), (8, C35), (9, C39), (10, [(b40, .cells #[.slice p24 ((x23.1.t.b).length) c26, .slice p28 ((x23.1.t.f).length) c30, .slice p32 ((x23.1.c.l).length) c34, .int .i64 x23.1.c.h, .int .i64 x23.1.g.c, .int .i64 x23.1.g.n, .int .i64 x23.1.g.r, .slice p36 ((x23.1.g.o).length) c38, .int .i64 x23.1.s] 47 (0, 0))]), (11, C45), (12, C49), (13, C53), (14, C57), (15, [(b58, .cells #[.slice p42 ((x41.t.b).length) c44, .slice p46 ((x41.t.f).length) c48, .slice p50 ((x41.c.l).length) c52, .int .i64 x41.c.h, .int .i64 x41.g.c, .int .i64 x41.g.n, .int .i64 x41.g.r, .slice p54 ((x41.g.o).length) c56, .int .i64 x41.s] 47 (0, 0))]), (16, C63), (17, C67), (18, C71), (19, C75), (20, [(b76, .cells #[.slice p60 ((x59.1.t.b).length) c62, .slice p64 ((x59.1.t.f).length) c66, .slice p68 ((x59.1.c.l).length) c70, .int .i64 x59.1.c.h, .int .i64 x59.1.g.c, .int .i64 x59.1.g.n, .int .i64 x59.1.g.r, .slice p72 ((x59.1.g.o).length) c74, .int .i64 x59.1.s] 47 (0, 0))])]) ⟨(hΦ 2 (by decide)).1, (hΦ 2 (by decide)).2.1, (hΦ 2 (by decide)).2.2.1, (hΦ 2 (by decide)).2.2.2⟩ ⟨rfl, rfl, rfl, rfl, rfl, rfl, rfl, rfl, rfl, rfl, trivial⟩ ⟨rfl, rfl, rfl, rfl, rfl, rfl, rfl, rfl, rfl, rfl, rfl, rfl, rfl, rfl, rfl, rfl, rfl, trivial⟩ ?_
              rintro ⟨p81, p85, p89, p93, c83, c87, c91, c95, C84, C88, C92, C96⟩ ⟨o84, o88, o92, o96⟩
              refine KW.sub (s' := [(2, .int .i64 a2), (3, .int .i64 a3), (4, .pointer (some ⟨b1, 0, none⟩)), (5, .pointer (some ⟨b2, 0, none⟩)), (10, .pointer (some ⟨b40, 0, none⟩)), (11, .bool x23.2), (12, .pointer (some ⟨b58, 0, none⟩)), (13, .pointer (some ⟨b76, 0, none⟩)), (14, .bool x59.2), (59, .bool (!x97))]) (h' := [(0, [(b1, .cells #[.slice p0_0 ((a0.t.b).length) c0_0, .slice p0_1 ((a0.t.f).length) c0_1, .slice p0_2 ((a0.c.l).length) c0_2, .int .i64 a0.c.h, .int .i64 a0.g.c, .int .i64 a0.g.n, .int .i64 a0.g.r, .slice p0_3 ((a0.g.o).length) c0_3, .int .i64 a0.s] 33 (0, 0))]), (1, [(b2, .cells #[.int .i64 a1.s, .int .i64 a1.p] 35 (0, 0))]), (6, C27), (7, C31), (8, C35), (9, C39), (10, [(b40, .cells #[.slice p24 ((x23.1.t.b).length) c26, .slice p28 ((x23.1.t.f).length) c30, .slice p32 ((x23.1.c.l).length) c34, .int .i64 x23.1.c.h, .int .i64 x23.1.g.c, .int .i64 x23.1.g.n, .int .i64 x23.1.g.r, .slice p36 ((x23.1.g.o).length) c38, .int .i64 x23.1.s] 47 (0, 0))]), (11, C45), (12, C49), (13, C53), (14, C57), (15, [(b58, .cells #[.slice p42 ((x41.t.b).length) c44, .slice p46 ((x41.t.f).length) c48, .slice p50 ((x41.c.l).length) c52, .int .i64 x41.c.h, .int .i64 x41.g.c, .int .i64 x41.g.n, .int .i64 x41.g.r, .slice p54 ((x41.g.o).length) c56, .int .i64 x41.s] 47 (0, 0))]), (16, C63), (17, C67), (18, C71), (19, C75), (20, [(b76, .cells #[.slice p60 ((x59.1.t.b).length) c62, .slice p64 ((x59.1.t.f).length) c66, .slice p68 ((x59.1.c.l).length) c70, .int .i64 x59.1.c.h, .int .i64 x59.1.g.c, .int .i64 x59.1.g.n, .int .i64 x59.1.g.r, .slice p72 ((x59.1.g.o).length) c74, .int .i64 x59.1.s] 47 (0, 0))])]) ?_ ⟨rfl, rfl, rfl, rfl, rfl, rfl, rfl, rfl, rfl, rfl, trivial⟩ ⟨rfl, rfl, rfl, rfl, rfl, rfl, rfl, rfl, rfl, rfl, rfl, rfl, rfl, rfl, rfl, rfl, rfl, trivial⟩
              refine kw_nx (cw_cond rfl (fun h98 => ?_) (fun h98 => ?_))
              · have H0 := cond_t H0 h98
                refine sr (oD (sg rfl) rfl (nn (cw_ret (kw_nx_ret ?_))))
                have q0 := Option.some.inj H0
                subst q0
                exact kw_ret Tryz.results3 (.cons (.tmp rfl) .nil) [] [] trivial (by decide) ⟨rfl, rfl⟩
              · have H0 := cond_f H0 h98
                obtain ⟨x99, e99, H0⟩ := bind_some H0
                refine cw_skip (kw_nx (sr (oD (sg rfl) rfl (nn (sr (oD (stp_loadN (us := [_, _, _, _, _, _, _, _, _]) ts47 rfl (Cells.box (id := 15) rfl 9 rfl)) rfl (oD (mv rfl) rfl (oE (stpU_callM (fun i => bif Nat.beq i 0 then 11 else bif Nat.beq i 1 then 12 else bif Nat.beq i 2 then 13 else bif Nat.beq i 3 then 14 else 25 + i) cf20 (fun w hw hb => c_l_markMachine fl w x41 p42 ((x41.t.b).length) c44 C45 p46 ((x41.t.f).length) c48 C49 p50 ((x41.c.l).length) c52 C53 p54 ((x41.g.o).length) c56 C57 1 rfl o45 rfl o49 rfl o53 rfl o57 (hw.pass (js := [11, 12, 13, 14]) ⟨11, [12, 13, 14], rfl, rfl, 12, [13, 14], rfl, rfl, 13, [14], rfl, rfl, 14, [], rfl, rfl, trivial⟩ (by decide)) x99 e99) (sevs_cons rfl (sevs_cons rfl sevs_nil)) ⟨rfl, (fun _ _ hp => by obtain ⟨_, _, _, _, _, rfl, _⟩ := hp; exact ⟨_, rfl⟩), rfl, (fun _ _ hp => by obtain ⟨_, _, _, _, _, rfl, _⟩ := hp; exact ⟨_, rfl⟩), rfl, (fun _ _ hp => by obtain ⟨_, _, _, _, _, rfl, _⟩ := hp; exact ⟨_, rfl⟩), rfl, (fun _ _ hp => by obtain ⟨_, _, _, _, _, rfl, _⟩ := hp; exact ⟨_, rfl⟩), trivial⟩) rfl ?_))))))))
                rintro _ _ ⟨_, ⟨C100, C101, C102, C103, rfl, rfl, hl100, o100, hl101, o101, hl102, o102, hl103, o103⟩, rfl⟩
                obtain ⟨y104, ey104, H0⟩ := bind_some H0
                refine oD (sg rfl) rfl (nn (cw_seq (sr (oD (mv rfl) rfl (oD (stp_lss rfl rfl) rfl (oD (mv rfl) rfl (ow_cutY 5 70 y104 ?_ ?_)))))))
                · rcases Bool.eq_false_or_eq_true (decide (x99.1 < 0)) with hy104 | hy104
                  · have ey104 := cond_t ey104 hy104
                    refine oO rfl hy104 rfl (oO rfl hy104 rfl (oO rfl hy104 rfl (oO rfl hy104 rfl (oD (stp_pick_t rfl hy104 rfl) rfl ?_))))
                    obtain rfl := Option.some.inj ey104
                    exact ow_nil (jy 5 0)
                  · have ey104 := cond_f ey104 hy104
                    refine oG rfl hy104 (stp_loadN (us := [_, _, _, _, _, _, _, _, _]) ts47 rfl (Cells.box (id := 20) rfl 9 rfl)) rfl (oG rfl hy104 (stp_loadN (us := [_, _, _, _, _, _, _, _, _]) ts47 rfl (Cells.box (id := 10) rfl 9 rfl)) rfl (ow_eff (.some rfl hy104) (stpU_call (fun i => 29 + i) cf19 (fun w hw => c_l_eqMachine fl w x59.1 p60 ((x59.1.t.b).length) c62 p64 ((x59.1.t.f).length) c66 p68 ((x59.1.c.l).length) c70 p72 ((x59.1.g.o).length) c74 x23.1 p24 ((x23.1.t.b).length) c26 p28 ((x23.1.t.f).length) c30 p32 ((x23.1.c.l).length) c34 p36 ((x23.1.g.o).length) c38 rfl (OwnC.pass (id := 16) rfl o63 hw) rfl (OwnC.pass (id := 17) rfl o67 hw) rfl (OwnC.pass (id := 18) rfl o71 hw) rfl (OwnC.pass (id := 19) rfl o75 hw) rfl (OwnC.pass (id := 6) rfl o27 hw) rfl (OwnC.pass (id := 7) rfl o31 hw) rfl (OwnC.pass (id := 8) rfl o35 hw) rfl (OwnC.pass (id := 9) rfl o39 hw) x77 e77) (sevs_cons rfl (sevs_cons rfl sevs_nil))) rfl ?_))
                    rintro _ _ ⟨_, ⟨rfl, rfl⟩, rfl⟩
                    refine oG rfl hy104 (stp_not rfl) rfl (oD (stp_pick_f rfl hy104 rfl) rfl ?_)
                    obtain rfl := Option.some.inj ey104
                    exact ow_nil (jy 5 0)
                · obtain ⟨y105, ey105, H0⟩ := bind_some H0
                  refine oD (mv rfl) rfl (ow_cutY 4 75 y105 ?_ ?_)
                  · rcases Bool.eq_false_or_eq_true y104 with hy105 | hy105
                    · have ey105 := cond_t ey105 hy105
                      refine oO rfl hy105 rfl (oO rfl hy105 rfl (oO rfl hy105 rfl (oD (stp_pick_t rfl hy105 rfl) rfl ?_)))
                      obtain rfl := Option.some.inj ey105
                      exact ow_nil (jy 4 0)
                    · have ey105 := cond_f ey105 hy105
                      refine oG rfl hy105 (mv rfl) rfl (oG rfl hy105 (mv rfl) rfl (oG rfl hy105 (stp_neqB Tryz.underlying4 rfl rfl) rfl (oD (stp_pick_f rfl hy105 rfl) rfl ?_)))
                      obtain rfl := Option.some.inj ey105
                      exact ow_nil (jy 4 0)
                  · refine ow_nil (kw_nx (cw_cond rfl (fun h106 => ?_) (fun h106 => ?_)))
                    · have H0 := cond_t H0 h106
                      refine sr (oD (sg rfl) rfl (nn (cw_ret (kw_nx_ret ?_))))
                      have q0 := Option.some.inj H0
                      subst q0
                      exact kw_ret Tryz.results3 (.cons (.tmp rfl) .nil) [] [] trivial (by decide) ⟨rfl, rfl⟩
                    · have H0 := cond_f H0 h106
                      obtain ⟨x107, e107, H0⟩ := bind_some H0
                      refine cw_skip (kw_nx (sr (oD (sg rfl) rfl (nn (sr (oD (stp_loadN (us := [_, _, _, _, _, _, _, _, _]) ts47 rfl (Cells.box (id := 20) rfl 9 rfl)) rfl (oD (mv rfl) rfl (oE (stpU_callM (fun i => bif Nat.beq i 0 then 16 else bif Nat.beq i 1 then 17 else bif Nat.beq i 2 then 18 else bif Nat.beq i 3 then 19 else 29 + i) cf20 (fun w hw hb => c_l_markMachine fl w x59.1 p60 ((x59.1.t.b).length) c62 C63 p64 ((x59.1.t.f).length) c66 C67 p68 ((x59.1.c.l).length) c70 C71 p72 ((x59.1.g.o).length) c74 C75 1 rfl o63 rfl o67 rfl o71 rfl o75 (hw.pass (js := [16, 17, 18, 19]) ⟨16, [17, 18, 19], rfl, rfl, 17, [18, 19], rfl, rfl, 18, [19], rfl, rfl, 19, [], rfl, rfl, trivial⟩ (by decide)) x107 e107) (sevs_cons rfl (sevs_cons rfl sevs_nil)) ⟨rfl, (fun _ _ hp => by obtain ⟨_, _, _, _, _, rfl, _⟩ := hp; exact ⟨_, rfl⟩), rfl, (fun _ _ hp => by obtain ⟨_, _, _, _, _, rfl, _⟩ := hp; exact ⟨_, rfl⟩), rfl, (fun _ _ hp => by obtain ⟨_, _, _, _, _, rfl, _⟩ := hp; exact ⟨_, rfl⟩), rfl, (fun _ _ hp => by obtain ⟨_, _, _, _, _, rfl, _⟩ := hp; exact ⟨_, rfl⟩), trivial⟩) rfl ?_))))))))
                      rintro _ _ ⟨_, ⟨C108, C109, C110, C111, rfl, rfl, hl108, o108, hl109, o109, hl110, o110, hl111, o111⟩, rfl⟩
                      obtain ⟨x112, e112, H0⟩ := bind_some H0
                      refine oD (sg rfl) rfl (nn (sr (oD (sg rfl) rfl (nn (sr (oD (stp_loadN (us := [_, _, _, _, _, _, _, _, _]) ts47 rfl (Cells.box (id := 20) rfl 9 rfl)) rfl (oD (mv rfl) rfl (oE (stpU_call (fun i => 33 + i) cf21 (fun w hw => c_l_heldMachine fl w (⟨(⟨x107.2.1, x107.2.2.1⟩ : T), (⟨x107.2.2.2.1, x59.1.c.h⟩ : Ca), (⟨x59.1.g.c, x59.1.g.n, x59.1.g.r, x107.2.2.2.2⟩ : Tg), x59.1.s⟩ : Mc) p60 ((x59.1.t.b).length) c62 p64 ((x59.1.t.f).length) c66 p68 ((x59.1.c.l).length) c70 p72 ((x59.1.g.o).length) c74 1 (by simp [hl108]) (OwnC.pass (id := 16) rfl o108 hw) (by simp [hl109]) (OwnC.pass (id := 17) rfl o109 hw) (by simp [hl110]) (OwnC.pass (id := 18) rfl o110 hw) (by simp [hl111]) (OwnC.pass (id := 19) rfl o111 hw) x112 e112) (sevs_cons rfl (sevs_cons rfl sevs_nil))) rfl ?_))))))))
                      rintro _ _ ⟨_, ⟨rfl, rfl⟩, rfl⟩
                      refine oD (sg rfl) rfl (nn (cw_seq (sr (oD (mv rfl) rfl (oD (stp_lss rfl rfl) rfl (nn (cw_cond rfl (fun h113 => ?_) (fun h113 => ?_))))))))
                      · have H0 := cond_t H0 h113
                        refine sr (oD (sg rfl) rfl (nn (cw_ret (kw_nx_ret ?_))))
                        have q0 := Option.some.inj H0
                        subst q0
                        exact kw_ret Tryz.results3 (.cons (.tmp rfl) .nil) [] [] trivial (by decide) ⟨rfl, rfl⟩
                      · have H0 := cond_f H0 h113
                        refine cw_skip (kw_nx (cw_seq (sr (oD (mv rfl) rfl (oD (mv rfl) rfl (oD (stp_neq rfl rfl) rfl (nn (cw_cond rfl (fun h114 => ?_) (fun h114 => ?_)))))))))
                        · have H0 := cond_t H0 h114
                          refine sr (oD (sg rfl) rfl (nn (cw_ret (kw_nx_ret ?_))))
                          have q0 := Option.some.inj H0
                          subst q0
                          exact kw_ret Tryz.results3 (.cons (.tmp rfl) .nil) [] [] trivial (by decide) ⟨rfl, rfl⟩
                        · have H0 := cond_f H0 h114
                          obtain ⟨x115, e115, H0⟩ := bind_some H0
                          obtain ⟨x132, e132, H0⟩ := bind_some H0
                          refine cw_skip (kw_nx (cw_seq (rdr g_mixed [2, 3, 4, 5] [0, 1] { dst := dS [89, 90, 91, 92, 93, 94, 95, 88, 96, 97, 19, 0, 20], pre := gA [] [[], [0], [], [0, 1, 2], [], [], rn 0 6, rn 0 7, rn 0 8, rn 0 8, [], [0, 1, 2, 3, 4, 5, 6, 7, 8, 10], rn 0 12], ids := gA [] [[], [33, 34, 35, 36], [], [], [], [], [37, 38, 39, 40], [], [], [], [41], [41]], rs := rL [[(4, 0)], [(88, 1)], [(5, 0)], [(90, 3)], [(2, 0)], [(3, 0)], [(89, 2), (91, 4), (92, 5), (93, 6)], [(94, 7)], [(87, 8)], [(87, 8)], [], [(18, 11), (95, 9)], [(96, 10)]], rh := rL [[(0, 0)], [], [(1, 0)], [], [], [], [(33, 2), (34, 2), (35, 2), (36, 2)], [], [], [], [], [(41, 11)]], V := fun i g => gA undef [.agg #[.slice p0_0 ((a0.t.b).length) c0_0, .slice p0_1 ((a0.t.f).length) c0_1, .slice p0_2 ((a0.c.l).length) c0_2, .int .i64 a0.c.h, .int .i64 a0.g.c, .int .i64 a0.g.n, .int .i64 a0.g.r, .slice p0_3 ((a0.g.o).length) c0_3, .int .i64 a0.s], .agg #[.slice ((g 1).A 0) ((x115.t.b).length) ((g 1).C 0), .slice ((g 1).A 1) ((x115.t.f).length) ((g 1).C 1), .slice ((g 1).A 2) ((x115.c.l).length) ((g 1).C 2), .int .i64 x115.c.h, .int .i64 x115.g.c, .int .i64 x115.g.n, .int .i64 x115.g.r, .slice ((g 1).A 3) ((x115.g.o).length) ((g 1).C 3), .int .i64 x115.s], .agg #[.int .i64 a1.s, .int .i64 a1.p], .agg #[.int .i64 x22.s, .int .i64 x22.p], .int .i64 a2, .int .i64 a3, .tuple #[.agg #[.slice ((g 6).A 0) ((x132.1.t.b).length) ((g 6).C 0), .slice ((g 6).A 1) ((x132.1.t.f).length) ((g 6).C 1), .slice ((g 6).A 2) ((x132.1.c.l).length) ((g 6).C 2), .int .i64 x132.1.c.h, .int .i64 x132.1.g.c, .int .i64 x132.1.g.n, .int .i64 x132.1.g.r, .slice ((g 6).A 3) ((x132.1.g.o).length) ((g 6).C 3), .int .i64 x132.1.s], .bool x132.2], .tuple #[.agg #[.slice ((g 6).A 0) ((x132.1.t.b).length) ((g 6).C 0), .slice ((g 6).A 1) ((x132.1.t.f).length) ((g 6).C 1), .slice ((g 6).A 2) ((x132.1.c.l).length) ((g 6).C 2), .int .i64 x132.1.c.h, .int .i64 x132.1.g.c, .int .i64 x132.1.g.n, .int .i64 x132.1.g.r, .slice ((g 6).A 3) ((x132.1.g.o).length) ((g 6).C 3), .int .i64 x132.1.s], .bool x132.2], .agg #[.slice ((g 6).A 0) ((x132.1.t.b).length) ((g 6).C 0), .slice ((g 6).A 1) ((x132.1.t.f).length) ((g 6).C 1), .slice ((g 6).A 2) ((x132.1.c.l).length) ((g 6).C 2), .int .i64 x132.1.c.h, .int .i64 x132.1.g.c, .int .i64 x132.1.g.n, .int .i64 x132.1.g.r, .slice ((g 6).A 3) ((x132.1.g.o).length) ((g 6).C 3), .int .i64 x132.1.s], .bool x132.2, .pointer (some ⟨((g 10).C 0), 0, none⟩), undef, .bool x132.2] i, U := fun i g => gA [] [[], [(33, ((g 1).R 0)), (34, ((g 1).R 1)), (35, ((g 1).R 2)), (36, ((g 1).R 3))], [], [], [], [], [(37, ((g 6).R 0)), (38, ((g 6).R 1)), (39, ((g 6).R 2)), (40, ((g 6).R 3))], [], [], [], [(41, [(((g 10).C 0), .cells #[.slice none 0 0, .slice none 0 0, .slice none 0 0, .int .i64 0, .int .i64 0, .int .i64 0, .int .i64 0, .slice none 0 0, .int .i64 0] 47 (0, 0))])], [(41, [(((g 10).C 0), .cells #[.slice ((g 6).A 0) ((x132.1.t.b).length) ((g 6).C 0), .slice ((g 6).A 1) ((x132.1.t.f).length) ((g 6).C 1), .slice ((g 6).A 2) ((x132.1.c.l).length) ((g 6).C 2), .int .i64 x132.1.c.h, .int .i64 x132.1.g.c, .int .i64 x132.1.g.n, .int .i64 x132.1.g.r, .slice ((g 6).A 3) ((x132.1.g.o).length) ((g 6).C 3), .int .i64 x132.1.s] 47 (0, 0))])]] i, Φ := fun i x => match i with | 1 => OwnC (α := Int) 3 (x.A 0) (x.C 0) x115.t.b (x.R 0) ∧ OwnC (α := F) 127 (x.A 1) (x.C 1) x115.t.f (x.R 1) ∧ OwnC (α := Ln) 112 (x.A 2) (x.C 2) x115.c.l (x.R 2) ∧ OwnC (α := Ow) 148 (x.A 3) (x.C 3) x115.g.o (x.R 3) | 6 => OwnC (α := Int) 3 (x.A 0) (x.C 0) x132.1.t.b (x.R 0) ∧ OwnC (α := F) 127 (x.A 1) (x.C 1) x132.1.t.f (x.R 1) ∧ OwnC (α := Ln) 112 (x.A 2) (x.C 2) x132.1.c.l (x.R 2) ∧ OwnC (α := Ow) 148 (x.A 3) (x.C 3) x132.1.g.o (x.R 3) | _ => True } ?_ ?_)))
                          · refine ⟨⟨⟨⟨⟨⟨⟨⟨⟨⟨⟨⟨⟨trivial, lc rfl rfl fun hs hh => stp_loadN (us := [_, _, _, _, _, _, _, _, _]) ts33 (sv hs 4 rfl) (Cells.box (id := 0) (hh.get 0 _ rfl) 9 rfl)⟩, ?_⟩, lc rfl rfl fun hs hh => stp_loadN (us := [_, _]) ts35 (sv hs 5 rfl) (Cells.box (id := 1) (hh.get 1 _ rfl) 2 rfl)⟩, ?_⟩, lc rfl rfl fun hs hh => stp_move (sv hs 2 rfl)⟩, lc rfl rfl fun hs hh => stp_move (sv hs 3 rfl)⟩, ?_⟩, lc rfl rfl fun hs hh => stp_move (sv hs 94 rfl)⟩, lc rfl rfl fun hs hh => stp_extract (sv hs 87 rfl) rfl⟩, lc rfl rfl fun hs hh => stp_extract (sv hs 87 rfl) rfl⟩, ?_⟩, ?_⟩, lc rfl rfl fun hs hh => stp_assign (sv hs 96 rfl)⟩
                            · refine le rfl rfl (fun g hΦ s h hs hh => (stpU_call (fun i => 33 + i) cf16 (fun w hw => c_l_toMachine fl w a0 p0_0 ((a0.t.b).length) c0_0 p0_1 ((a0.t.f).length) c0_1 p0_2 ((a0.c.l).length) c0_2 p0_3 ((a0.g.o).length) c0_3 rfl (RO.pass hr0_0 hw) rfl (RO.pass hr0_1 hw) rfl (RO.pass hr0_2 hw) rfl (RO.pass hr0_3 hw) x115 e115) (sevs_cons (sv hs 88 rfl) sevs_nil))) ?_
                              rintro g _ _ ⟨_, ⟨p116, n117, c118, C119, p120, n121, c122, C123, p124, n125, c126, C127, p128, n129, c130, C131, rfl, rfl, hnn117, o119, hnn121, o123, hnn125, o127, hnn129, o131⟩, rfl⟩
                              obtain rfl := hnn117
                              obtain rfl := hnn121
                              obtain rfl := hnn125
                              obtain rfl := hnn129
                              exact ⟨⟨[p116, p120, p124, p128], [c118, c122, c126, c130], [C119, C123, C127, C131]⟩, ⟨o119, o123, o127, o131⟩, .inr rfl, rfl⟩
                            · refine le rfl rfl (fun g hΦ s h hs hh => (stpU_call (fun i => 37 + i) cf17 (fun w hw => c_l_toKey fl w a1 x22 e22) (sevs_cons (sv hs 90 rfl) sevs_nil))) ?_
                              rintro g _ _ ⟨_, ⟨rfl, rfl⟩, rfl⟩
                              exact ⟨⟨[], [], []⟩, trivial, .inr rfl, rfl⟩
                            · refine le rfl rfl (fun g hΦ s h hs hh => (stpU_call (fun i => 37 + i) cf18 (fun w hw => c_i_PutPage fl w x115 ((g 1).A 0) ((x115.t.b).length) ((g 1).C 0) ((g 1).A 1) ((x115.t.f).length) ((g 1).C 1) ((g 1).A 2) ((x115.c.l).length) ((g 1).C 2) ((g 1).A 3) ((x115.g.o).length) ((g 1).C 3) x22 a2 a3 rfl (OwnC.pass (id := 33) (hh.get 33 _ rfl) (hΦ 1 rfl).1 hw) rfl (OwnC.pass (id := 34) (hh.get 34 _ rfl) (hΦ 1 rfl).2.1 hw) rfl (OwnC.pass (id := 35) (hh.get 35 _ rfl) (hΦ 1 rfl).2.2.1 hw) rfl (OwnC.pass (id := 36) (hh.get 36 _ rfl) (hΦ 1 rfl).2.2.2 hw) (RO.pass hg hw) x132 e132) (sevs_cons (sv hs 89 rfl) (sevs_cons (sv hs 91 rfl) (sevs_cons (sv hs 92 rfl) (sevs_cons (sv hs 93 rfl) sevs_nil)))))) ?_
                              rintro g _ _ ⟨_, ⟨p133, n134, c135, C136, p137, n138, c139, C140, p141, n142, c143, C144, p145, n146, c147, C148, rfl, rfl, hnn134, o136, hnn138, o140, hnn142, o144, hnn146, o148⟩, rfl⟩
                              obtain rfl := hnn134
                              obtain rfl := hnn138
                              obtain rfl := hnn142
                              obtain rfl := hnn146
                              exact ⟨⟨[p133, p137, p141, p145], [c135, c139, c143, c147], [C136, C140, C144, C148]⟩, ⟨o136, o140, o144, o148⟩, .inr rfl, rfl⟩
                            · refine le rfl rfl (fun g hΦ s h hs hh => (stpU_alloc 41 tz47 rfl)) ?_
                              rintro g _ _ ⟨b149, rfl, rfl⟩
                              exact ⟨⟨[], [b149], []⟩, trivial, .inr rfl, rfl⟩
                            · refine le rfl rfl (fun g hΦ s h hs hh => (stpU_store (id := 41) (cs' := [.slice ((g 6).A 0) ((x132.1.t.b).length) ((g 6).C 0), .slice ((g 6).A 1) ((x132.1.t.f).length) ((g 6).C 1), .slice ((g 6).A 2) ((x132.1.c.l).length) ((g 6).C 2), .int .i64 x132.1.c.h, .int .i64 x132.1.g.c, .int .i64 x132.1.g.n, .int .i64 x132.1.g.r, .slice ((g 6).A 3) ((x132.1.g.o).length) ((g 6).C 3), .int .i64 x132.1.s]) ts47 (sv hs 18 rfl) (sv hs 95 rfl) (hh.get 41 _ rfl) rfl rfl rfl rfl)) ?_
                              rintro g _ _ rfl
                              exact ⟨⟨[], [], []⟩, trivial, .inl rfl, rfl⟩
                          · intro g hΦ
                            refine kw_gen (ι := Option Addr × Option Addr × Option Addr × Option Addr × Nat × Nat × Nat × Nat × Res × Res × Res × Res × Option Addr × Option Addr × Option Addr × Option Addr × Nat × Nat × Nat × Nat × Res × Res × Res × Res × Nat) (((g 1).A 0), ((g 1).A 1), ((g 1).A 2), ((g 1).A 3), ((g 1).C 0), ((g 1).C 1), ((g 1).C 2), ((g 1).C 3), ((g 1).R 0), ((g 1).R 1), ((g 1).R 2), ((g 1).R 3), ((g 6).A 0), ((g 6).A 1), ((g 6).A 2), ((g 6).A 3), ((g 6).C 0), ((g 6).C 1), ((g 6).C 2), ((g 6).C 3), ((g 6).R 0), ((g 6).R 1), ((g 6).R 2), ((g 6).R 3), ((g 10).C 0)) (fun | (p116, p120, p124, p128, c118, c122, c126, c130, C119, C123, C127, C131, p133, p137, p141, p145, c135, c139, c143, c147, C136, C140, C144, C148, b149) => OwnC (α := Int) 3 p116 c118 x115.t.b C119 ∧ OwnC (α := F) 127 p120 c122 x115.t.f C123 ∧ OwnC (α := Ln) 112 p124 c126 x115.c.l C127 ∧ OwnC (α := Ow) 148 p128 c130 x115.g.o C131 ∧ OwnC (α := Int) 3 p133 c135 x132.1.t.b C136 ∧ OwnC (α := F) 127 p137 c139 x132.1.t.f C140 ∧ OwnC (α := Ln) 112 p141 c143 x132.1.c.l C144 ∧ OwnC (α := Ow) 148 p145 c147 x132.1.g.o C148) (fun | (p116, p120, p124, p128, c118, c122, c126, c130, C119, C123, C127, C131, p133, p137, p141, p145, c135, c139, c143, c147, C136, C140, C144, C148, b149) => [(10, .pointer (some ⟨b40, 0, none⟩)), (11, .bool x23.2), (13, .pointer (some ⟨b76, 0, none⟩)), (16, .int .i64 x107.1), (18, .pointer (some ⟨b149, 0, none⟩)), (19, .bool x132.2)]) (fun | (p116, p120, p124, p128, c118, c122, c126, c130, C119, C123, C127, C131, p133, p137, p141, p145, c135, c139, c143, c147, C136, C140, C144, C148, b149) => [(6, C27), (7, C31), (8, C35), (9, C39), (10, [(b40, .cells #[.slice p24 ((x23.1.t.b).length) c26, .slice p28 ((x23.1.t.f).length) c30, .slice p32 ((x23.1.c.l).length) c34, .int .i64 x23.1.c.h, .int .i64 x23.1.g.c, .int .i64 x23.1.g.n, .int .i64 x23.1.g.r, .slice p36 ((x23.1.g.o).length) c38, .int .i64 x23.1.s] 47 (0, 0))]), (16, C108), (17, C109), (18, C110), (19, C111), (20, [(b76, .cells #[.slice p60 ((x59.1.t.b).length) c62, .slice p64 ((x59.1.t.f).length) c66, .slice p68 ((x59.1.c.l).length) c70, .int .i64 x59.1.c.h, .int .i64 x59.1.g.c, .int .i64 x59.1.g.n, .int .i64 x59.1.g.r, .slice p72 ((x59.1.g.o).length) c74, .int .i64 x59.1.s] 47 (0, 0))]), (37, C136), (38, C140), (39, C144), (40, C148), (41, [(b149, .cells #[.slice p133 ((x132.1.t.b).length) c135, .slice p137 ((x132.1.t.f).length) c139, .slice p141 ((x132.1.c.l).length) c143, .int .i64 x132.1.c.h, .int .i64 x132.1.g.c, .int .i64 x132.1.g.n, .int .i64 x132.1.g.r, .slice p145 ((x132.1.g.o).length) c147, .int .i64 x132.1.s] 47 (0, 0))])]) ⟨(hΦ 1 (by decide)).1, (hΦ 1 (by decide)).2.1, (hΦ 1 (by decide)).2.2.1, (hΦ 1 (by decide)).2.2.2, (hΦ 6 (by decide)).1, (hΦ 6 (by decide)).2.1, (hΦ 6 (by decide)).2.2.1, (hΦ 6 (by decide)).2.2.2⟩ ⟨rfl, rfl, rfl, rfl, rfl, rfl, trivial⟩ ⟨rfl, rfl, rfl, rfl, rfl, rfl, rfl, rfl, rfl, rfl, rfl, rfl, rfl, rfl, rfl, trivial⟩ ?_
                            rintro ⟨p116, p120, p124, p128, c118, c122, c126, c130, C119, C123, C127, C131, p133, p137, p141, p145, c135, c139, c143, c147, C136, C140, C144, C148, b149⟩ ⟨o119, o123, o127, o131, o136, o140, o144, o148⟩
                            refine KW.sub (s' := [(10, .pointer (some ⟨b40, 0, none⟩)), (11, .bool x23.2), (13, .pointer (some ⟨b76, 0, none⟩)), (16, .int .i64 x107.1), (18, .pointer (some ⟨b149, 0, none⟩)), (19, .bool x132.2)]) (h' := [(6, C27), (7, C31), (8, C35), (9, C39), (10, [(b40, .cells #[.slice p24 ((x23.1.t.b).length) c26, .slice p28 ((x23.1.t.f).length) c30, .slice p32 ((x23.1.c.l).length) c34, .int .i64 x23.1.c.h, .int .i64 x23.1.g.c, .int .i64 x23.1.g.n, .int .i64 x23.1.g.r, .slice p36 ((x23.1.g.o).length) c38, .int .i64 x23.1.s] 47 (0, 0))]), (16, C108), (17, C109), (18, C110), (19, C111), (20, [(b76, .cells #[.slice p60 ((x59.1.t.b).length) c62, .slice p64 ((x59.1.t.f).length) c66, .slice p68 ((x59.1.c.l).length) c70, .int .i64 x59.1.c.h, .int .i64 x59.1.g.c, .int .i64 x59.1.g.n, .int .i64 x59.1.g.r, .slice p72 ((x59.1.g.o).length) c74, .int .i64 x59.1.s] 47 (0, 0))]), (37, C136), (38, C140), (39, C144), (40, C148), (41, [(b149, .cells #[.slice p133 ((x132.1.t.b).length) c135, .slice p137 ((x132.1.t.f).length) c139, .slice p141 ((x132.1.c.l).length) c143, .int .i64 x132.1.c.h, .int .i64 x132.1.g.c, .int .i64 x132.1.g.n, .int .i64 x132.1.g.r, .slice p145 ((x132.1.g.o).length) c147, .int .i64 x132.1.s] 47 (0, 0))])]) ?_ ⟨rfl, rfl, rfl, rfl, rfl, rfl, trivial⟩ ⟨rfl, rfl, rfl, rfl, rfl, rfl, rfl, rfl, rfl, rfl, rfl, rfl, rfl, rfl, rfl, trivial⟩
                            obtain ⟨x150, e150, H0⟩ := bind_some H0
                            refine kw_nx (cw_seq (sr (oD (stp_loadN (us := [_, _, _, _, _, _, _, _, _]) ts47 rfl (Cells.box (id := 41) rfl 9 rfl)) rfl (oD (stp_loadN (us := [_, _, _, _, _, _, _, _, _]) ts47 rfl (Cells.box (id := 10) rfl 9 rfl)) rfl (oE (stpU_call (fun i => 42 + i) cf19 (fun w hw => c_l_eqMachine fl w x132.1 p133 ((x132.1.t.b).length) c135 p137 ((x132.1.t.f).length) c139 p141 ((x132.1.c.l).length) c143 p145 ((x132.1.g.o).length) c147 x23.1 p24 ((x23.1.t.b).length) c26 p28 ((x23.1.t.f).length) c30 p32 ((x23.1.c.l).length) c34 p36 ((x23.1.g.o).length) c38 rfl (OwnC.pass (id := 37) rfl o136 hw) rfl (OwnC.pass (id := 38) rfl o140 hw) rfl (OwnC.pass (id := 39) rfl o144 hw) rfl (OwnC.pass (id := 40) rfl o148 hw) rfl (OwnC.pass (id := 6) rfl o27 hw) rfl (OwnC.pass (id := 7) rfl o31 hw) rfl (OwnC.pass (id := 8) rfl o35 hw) rfl (OwnC.pass (id := 9) rfl o39 hw) x150 e150) (sevs_cons rfl (sevs_cons rfl sevs_nil))) rfl ?_)))))
                            rintro _ _ ⟨_, ⟨rfl, rfl⟩, rfl⟩
                            obtain ⟨y151, ey151, H0⟩ := bind_some H0
                            refine oD (stp_not rfl) rfl (oD (mv rfl) rfl (ow_cutY 4 105 y151 ?_ ?_))
                            · rcases Bool.eq_false_or_eq_true (!x150) with hy151 | hy151
                              · have ey151 := cond_t ey151 hy151
                                refine oO rfl hy151 rfl (oO rfl hy151 rfl (oO rfl hy151 rfl (oD (stp_pick_t rfl hy151 rfl) rfl ?_)))
                                obtain rfl := Option.some.inj ey151
                                exact ow_nil (jy 4 0)
                              · have ey151 := cond_f ey151 hy151
                                refine oG rfl hy151 (mv rfl) rfl (oG rfl hy151 (mv rfl) rfl (oG rfl hy151 (stp_neqB Tryz.underlying4 rfl rfl) rfl (oD (stp_pick_f rfl hy151 rfl) rfl ?_)))
                                obtain rfl := Option.some.inj ey151
                                exact ow_nil (jy 4 0)
                            · refine ow_nil (kw_nx (cw_cond rfl (fun h152 => ?_) (fun h152 => ?_)))
                              · have H0 := cond_t H0 h152
                                refine sr (oD (sg rfl) rfl (nn (cw_ret (kw_nx_ret ?_))))
                                have q0 := Option.some.inj H0
                                subst q0
                                exact kw_ret Tryz.results3 (.cons (.tmp rfl) .nil) [] [] trivial (by decide) ⟨rfl, rfl⟩
                              · have H0 := cond_f H0 h152
                                refine cw_skip (kw_nx (sr (oD (sg rfl) rfl (nn (sr (oD (stp_loadN (us := [_, _, _, _, _, _, _, _, _]) ts47 rfl (Cells.box (id := 20) rfl 9 rfl)) rfl (oD (mv rfl) rfl (oE (stpU_call (fun i => 42 + i) cf21 (fun w hw => c_l_heldMachine fl w (⟨(⟨x107.2.1, x107.2.2.1⟩ : T), (⟨x107.2.2.2.1, x59.1.c.h⟩ : Ca), (⟨x59.1.g.c, x59.1.g.n, x59.1.g.r, x107.2.2.2.2⟩ : Tg), x59.1.s⟩ : Mc) p60 ((x59.1.t.b).length) c62 p64 ((x59.1.t.f).length) c66 p68 ((x59.1.c.l).length) c70 p72 ((x59.1.g.o).length) c74 1 (by simp [hl108]) (OwnC.pass (id := 16) rfl o108 hw) (by simp [hl109]) (OwnC.pass (id := 17) rfl o109 hw) (by simp [hl110]) (OwnC.pass (id := 18) rfl o110 hw) (by simp [hl111]) (OwnC.pass (id := 19) rfl o111 hw) x112 e112) (sevs_cons rfl (sevs_cons rfl sevs_nil))) rfl ?_))))))))
                                rintro _ _ ⟨_, ⟨rfl, rfl⟩, rfl⟩
                                refine oD (sg rfl) rfl (nn (cw_seq (sr (oD (mv rfl) rfl (oD (stp_lss rfl rfl) rfl (nn (cw_cond rfl (fun h153 => ?_) (fun h153 => ?_))))))))
                                · have H0 := cond_t H0 h153
                                  refine sr (oD (sg rfl) rfl (nn (cw_ret (kw_nx_ret ?_))))
                                  have q0 := Option.some.inj H0
                                  subst q0
                                  exact kw_ret Tryz.results3 (.cons (.tmp rfl) .nil) [] [] trivial (by decide) ⟨rfl, rfl⟩
                                · have H0 := cond_f H0 h153
                                  refine cw_skip (kw_nx (cw_seq (sr (oD (mv rfl) rfl (oD (mv rfl) rfl (oD (stp_neq rfl rfl) rfl (nn (cw_cond rfl (fun h154 => ?_) (fun h154 => ?_)))))))))
                                  · have H0 := cond_t H0 h154
                                    refine sr (oD (sg rfl) rfl (nn (cw_ret (kw_nx_ret ?_))))
                                    have q0 := Option.some.inj H0
                                    subst q0
                                    exact kw_ret Tryz.results3 (.cons (.tmp rfl) .nil) [] [] trivial (by decide) ⟨rfl, rfl⟩
                                  · have H0 := cond_f H0 h154
                                    refine cw_skip (kw_nx (sr (oD (sg rfl) rfl (nn (cw_ret ?_)))))
                                    have q0 := Option.some.inj H0
                                    subst q0
                                    exact kw_ret Tryz.results3 (.cons (.tmp rfl) .nil) [] [] trivial (by decide) ⟨rfl, rfl⟩
end Go.Proofs.YtbgodaeccgjdgaaGreatDoor
