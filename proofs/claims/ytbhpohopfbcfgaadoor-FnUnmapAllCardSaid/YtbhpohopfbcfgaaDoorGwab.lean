/- The walks: functions of the program return what their pure functions say. Printed by a program (gen.py). -/
import Derived.Test.YtbhpohopfbcfgaaDoorGp
import Derived.Test.YtbhpohopfbcfgaaDoorGt
import Derived.Test.YtbhpohopfbcfgaaDoorMan
import Derived.Test.YtbhpohopfbcfgaaDoorMap
import Derived.Test.YtbhpohopfbcfgaaDoorCpy
import Derived.Test.YtbhpohopfbcfgaaDoorBits
import Derived.Test.YtbhpohopfbcfgaaDoorGwaa
import Derived.Test.YtbhpohopfbcfgaaDoorGws
set_option linter.unusedSimpArgs false
set_option linter.unusedVariables false
set_option linter.unusedSectionVars false
namespace Go.Proofs.YtbhpohopfbcfgaaDoor
open Go.RowKit
set_option maxHeartbeats 4000000 in
set_option maxRecDepth 20000 in
theorem c_i_Table_clone (fl : Nat) (w : World) (a0 : T) (p0_0 : Option Addr) (n0_0 c0_0 : Nat) (p0_1 : Option Addr) (n0_1 c0_1 : Nat) (hn0_0 : n0_0 = (a0.b).length) (hr0_0 : RO w (hkeys []) (RdL p0_0 c0_0 a0.b)) (hn0_1 : n0_1 = (a0.f).length) (hr0_1 : RO w (hkeys []) (RdL p0_1 c0_1 a0.f)) (r : T) (H0 : i_Table_clone fl a0 = some r) :
    Ct Tryd.prog 31 [.agg #[.slice p0_0 n0_0 c0_0, .slice p0_1 n0_1 c0_1]] w [] (fun rv h' => ∃ (x0 : Option Addr) (y0 z0 : Nat) (C0 : Res) (x1 : Option Addr) (y1 z1 : Nat) (C1 : Res), rv = .agg #[.slice x0 y0 z0, .slice x1 y1 z1] ∧ h' = [(0, C0), (1, C1)] ∧ y0 = (r.b).length ∧ OwnC 3 x0 z0 r.b C0 ∧ y1 = (r.f).length ∧ OwnC 58 x1 z1 r.f C1) := by
  obtain rfl := hn0_0
  obtain rfl := hn0_1
  unfold i_Table_clone at H0
  refine ct_of_cw Tryd.func31 rfl Tryd.ntmps31 rfl (Sat.refl _ _) ?_
  refine sr (oE (stpU_box 0 rfl rfl) rfl ?_)
  rintro _ _ ⟨b1, rfl, rfl⟩
  refine oE (stpU_alloc 1 tz26 rfl) rfl ?_
  rintro _ _ ⟨b2, rfl, rfl⟩
  obtain ⟨x3, e3, H0⟩ := bind_some H0
  obtain ⟨x8, e8, H0⟩ := bind_some H0
  refine nn (cw_seq (rdr g_mixed [1, 2] [0, 1] { dst := dS [4, 5, 6, 7, 8, 9, 10, 11, 12, 0], pre := gA [] [[], [0], [0, 1], [0, 1, 2], [], [4], rn 0 6, rn 0 7, rn 0 8, rn 0 9], ids := gA [] [[], [], [2], [], [], [], [3], [], [], [1]], rs := rL [[(1, 0)], [(3, 1)], [(4, 2)], [(5, 3)], [(1, 0)], [(7, 5)], [(8, 6)], [(9, 7)], [(6, 4), (10, 8)], [(2, 0), (11, 9)]], rh := rL [[], [(0, 0)], [], [], [], [(0, 0)], [], [], [], [(1, 0)]], V := fun i g => gA undef [.pointer (some ⟨b1, 0, none⟩), .slice p0_0 ((a0.b).length) c0_0, .slice ((g 2).A 0) ((x3).length) ((g 2).C 0), .slice ((g 2).A 0) ((x3).length) ((x3).length), .pointer (some ⟨b1, 1, none⟩), .slice p0_1 ((a0.f).length) c0_1, .slice ((g 6).A 0) ((x8).length) ((g 6).C 0), .slice ((g 6).A 0) ((x8).length) ((x8).length), .agg #[.slice ((g 2).A 0) ((x3).length) ((x3).length), .slice ((g 6).A 0) ((x8).length) ((x8).length)]] i, U := fun i g => gA [] [[], [], [(2, ((g 2).R 0))], [], [], [], [(3, ((g 6).R 0))], [], [], [(1, [(b2, .cells #[.slice ((g 2).A 0) ((x3).length) ((x3).length), .slice ((g 6).A 0) ((x8).length) ((x8).length)] 26 (0, 0))])]] i, Φ := fun i x => match i with | 2 => OwnC (α := Int) 3 (x.A 0) (x.C 0) x3 (x.R 0) | 6 => OwnC (α := F) 58 (x.A 0) (x.C 0) x8 (x.R 0) | _ => True } ?_ ?_))
  · refine ⟨⟨⟨⟨⟨⟨⟨⟨⟨⟨trivial, lc rfl rfl fun hs hh => stp_fieldAddr (j := 0) Tryd.underlying26 rfl ts23 rfl (sv hs 1 rfl) rfl⟩, lc rfl rfl fun hs hh => stp_load1 ts23 (sv hs 3 rfl) (Cells.box (id := 0) (hh.get 0 _ rfl) 1 rfl)⟩, ?_⟩, ?_⟩, lc rfl rfl fun hs hh => stp_fieldAddr (j := 1) Tryd.underlying26 rfl ts24 rfl (sv hs 1 rfl) rfl⟩, lc rfl rfl fun hs hh => stp_load1 ts24 (sv hs 7 rfl) (Cells.box (id := 0) (hh.get 0 _ rfl) 1 rfl)⟩, ?_⟩, ?_⟩, ld rfl rfl fun g hΦ s h hs hh => stp_build (cs := #[.slice ((g 2).A 0) ((x3).length) ((x3).length), .slice ((g 6).A 0) ((x8).length) ((x8).length)]) (sevp_cons (sv hs 6 rfl) (sevp_cons (sv hs 10 rfl) sevp_nil)) bt26_3⟩, ?_⟩
    · refine le rfl rfl (fun g hΦ s h hs hh => (stpU_call (fun i => 2 + i) cf59 (fun w hw => c_slices_Clone_Int fl w a0.b p0_0 ((a0.b).length) c0_0 rfl (RO.pass hr0_0 hw) x3 e3) (sevs_cons (sv hs 4 rfl) sevs_nil))) ?_
      rintro g _ _ ⟨_, ⟨p4, n5, c6, C7, rfl, rfl, hnn5, o7⟩, rfl⟩
      obtain rfl := hnn5
      exact ⟨⟨[p4], [c6], [C7]⟩, o7, .inr rfl, rfl⟩
    · refine le rfl rfl (fun g hΦ s h hs hh => (stpU_call (fun i => i) cf58 (fun w hw => c_clip58 w ((g 2).A 0) ((x3).length) ((g 2).C 0) (OwnC.len (hΦ 2 rfl)).1) (sevs_cons (sv hs 5 rfl) sevs_nil))) ?_
      rintro g _ _ ⟨_, ⟨rfl, rfl⟩, rfl⟩
      exact ⟨⟨[], [], []⟩, trivial, .inr rfl, rfl⟩
    · refine le rfl rfl (fun g hΦ s h hs hh => (stpU_call (fun i => 3 + i) cf61 (fun w hw => c_slices_Clone_Frame fl w a0.f p0_1 ((a0.f).length) c0_1 rfl (RO.pass hr0_1 hw) x8 e8) (sevs_cons (sv hs 8 rfl) sevs_nil))) ?_
      rintro g _ _ ⟨_, ⟨p9, n10, c11, C12, rfl, rfl, hnn10, o12⟩, rfl⟩
      obtain rfl := hnn10
      exact ⟨⟨[p9], [c11], [C12]⟩, o12, .inr rfl, rfl⟩
    · refine le rfl rfl (fun g hΦ s h hs hh => (stpU_call (fun i => i) cf60 (fun w hw => c_clip60 w ((g 6).A 0) ((x8).length) ((g 6).C 0) (OwnC.len (hΦ 6 rfl)).1) (sevs_cons (sv hs 9 rfl) sevs_nil))) ?_
      rintro g _ _ ⟨_, ⟨rfl, rfl⟩, rfl⟩
      exact ⟨⟨[], [], []⟩, trivial, .inr rfl, rfl⟩
    · refine le rfl rfl (fun g hΦ s h hs hh => (stpU_store (id := 1) (cs' := [.slice ((g 2).A 0) ((x3).length) ((x3).length), .slice ((g 6).A 0) ((x8).length) ((x8).length)]) ts26 (sv hs 2 rfl) (sv hs 11 rfl) (hh.get 1 _ rfl) rfl rfl rfl rfl)) ?_
      rintro g _ _ rfl
      exact ⟨⟨[], [], []⟩, trivial, .inl rfl, rfl⟩
  · intro g hΦ
    refine kw_gen (ι := Option Addr × Nat × Res × Option Addr × Nat × Res) (((g 2).A 0), ((g 2).C 0), ((g 2).R 0), ((g 6).A 0), ((g 6).C 0), ((g 6).R 0)) (fun | (p4, c6, C7, p9, c11, C12) => OwnC (α := Int) 3 p4 c6 x3 C7 ∧ OwnC (α := F) 58 p9 c11 x8 C12) (fun | (p4, c6, C7, p9, c11, C12) => [(2, .pointer (some ⟨b2, 0, none⟩))]) (fun | (p4, c6, C7, p9, c11, C12) => [(1, [(b2, .cells #[.slice p4 ((x3).length) ((x3).length), .slice p9 ((x8).length) ((x8).length)] 26 (0, 0))]), (2, C7), (3, C12)]) ⟨(hΦ 2 (by decide)), (hΦ 6 (by decide))⟩ ⟨rfl, trivial⟩ ⟨rfl, rfl, rfl, trivial⟩ ?_
    rintro ⟨p4, c6, C7, p9, c11, C12⟩ ⟨o7, o12⟩
    refine KW.sub (s' := [(2, .pointer (some ⟨b2, 0, none⟩))]) (h' := [(1, [(b2, .cells #[.slice p4 ((x3).length) ((x3).length), .slice p9 ((x8).length) ((x8).length)] 26 (0, 0))]), (2, C7), (3, C12)]) ?_ ⟨rfl, trivial⟩ ⟨rfl, rfl, rfl, trivial⟩
    refine kw_nx (cw_ret ?_)
    have q0 := Option.some.inj H0
    subst q0
    exact kw_ret Tryd.results31 (.cons (.cellN (us := [_, _]) ts26 rfl (Cells.box (id := 1) rfl 2 rfl)) .nil) [(0, C7), (1, C12)] [2, 3] ⟨2, [3], rfl, rfl, 3, [], rfl, rfl, trivial⟩ (by decide) ⟨p4, ((x3).length), ((x3).length), C7, p9, ((x8).length), ((x8).length), C12, rfl, rfl, rfl, (OwnC.clip o7), rfl, (OwnC.clip o12)⟩

set_option maxHeartbeats 4000000 in
set_option maxRecDepth 20000 in
theorem c_slices_Equal_Int (fl : Nat) (w : World) (a0 : (List Int)) (p0_0 : Option Addr) (n0_0 c0_0 : Nat) (a1 : (List Int)) (p1_0 : Option Addr) (n1_0 c1_0 : Nat) (hn0_0 : n0_0 = (a0).length) (hr0_0 : RO w (hkeys []) (RdL p0_0 c0_0 a0)) (hn1_0 : n1_0 = (a1).length) (hr1_0 : RO w (hkeys []) (RdL p1_0 c1_0 a1)) (r : Bool) (H0 : slices_Equal_Int fl a0 a1 = some r) :
    Ct Tryd.prog 38 [.slice p0_0 n0_0 c0_0, .slice p1_0 n1_0 c1_0] w [] (fun rv h' => rv = .bool r ∧ h' = []) := by
  obtain rfl := hn0_0
  obtain rfl := hn1_0
  unfold slices_Equal_Int at H0
  refine ct_of_cw Tryd.func38 rfl Tryd.ntmps38 rfl (Sat.refl _ _) ?_
  refine sr (oD (sg rfl) rfl (nn (cw_seq (sr (oD (mv rfl) rfl (oD (stp_len Tryd.underlying23 rfl) rfl (oD (mv rfl) rfl (oD (stp_len Tryd.underlying23 rfl) rfl (oD (stp_neq rfl rfl) rfl (nn (cw_cond rfl (fun h1 => ?_) (fun h1 => ?_))))))))))))
  · have H0 := cond_t H0 h1
    refine sr (oD (sg rfl) rfl (nn (cw_ret (kw_nx_ret ?_))))
    have q0 := Option.some.inj H0
    subst q0
    exact kw_ret Tryd.results38 (.cons (.tmp rfl) .nil) [] [] trivial (by decide) ⟨rfl, rfl⟩
  · have H0 := cond_f H0 h1
    obtain ⟨o0_0, eo0_0, H0⟩ := bind_some H0
    refine cw_skip (kw_nx (cw_seq (sr (oD (mv rfl) rfl (oD (stp_len Tryd.underlying23 rfl) rfl (oD (mv rfl) rfl (nn (cw_join (ι := Int) (fun | v2 => o0_0 = .out v2) (fun | v2 => [(0, .slice p0_0 ((a0).length) c0_0), (1, .slice p1_0 ((a1).length) c1_0), (12, .int .i64 ((a0).length : Int)), (13, .int .i64 v2)]) (fun | v2 => []) ?_ ?_))))))))
    · refine cw_block (cw_loopS (ι := Nat × Int) (js := []) (fun x => x.1) (fun | (fuel, v2) => slices_Equal_Int_L0 fl a0 a1 fuel v2 = some o0_0) (fun | (_, v2) => [(0, .slice p0_0 ((a0).length) c0_0), (1, .slice p1_0 ((a1).length) c1_0), (12, .int .i64 ((a0).length : Int)), (13, .int .i64 v2)]) (fun | (_, v2) => []) (fl, 0) eo0_0 ⟨rfl, rfl, rfl, rfl, trivial⟩ trivial (by decide) ?_)
      rintro ⟨fuel, v2⟩ H1
      have H1 : slices_Equal_Int_L0 fl a0 a1 fuel v2 = some o0_0 := H1
      rcases fuel with _ | fuel
      · rw [slices_Equal_Int_L0.eq_1] at H1; cases H1
      rw [slices_Equal_Int_L0.eq_2] at H1
      refine CW.sub (s' := [(0, .slice p0_0 ((a0).length) c0_0), (1, .slice p1_0 ((a1).length) c1_0), (12, .int .i64 ((a0).length : Int)), (13, .int .i64 v2)]) (h' := []) ?_ ⟨rfl, rfl, rfl, rfl, trivial⟩ trivial
      refine sr (oD (stp_lss rfl rfl) rfl (nn (cw_seq (cw_cond rfl (fun h3 => ?_) (fun h3 => ?_)))))
      · have H1 := cond_t H1 h3
        obtain ⟨x4, e4, H1⟩ := bind_some H1
        obtain ⟨x5, e5, H1⟩ := bind_some H1
        refine cw_skip (kw_nx (cw_seq (cw_block (sr (oD (mv rfl) rfl (oD (sg rfl) rfl (nn (cw_seq (rdr g_mixed [0, 1, 5] [] { dst := dS [17, 18, 19, 20, 21, 22, 23, 24, 25], pre := gA [] [[], [], [0, 1], [0, 1, 2], [], [], [4, 5], [4, 5, 6], rn 0 8], ids := fun _ => [], rs := rL [[(0, 0)], [(5, 0)], [(16, 1), (17, 2)], [(18, 3)], [(1, 0)], [(5, 0)], [(20, 5), (21, 6)], [(22, 7)], [(19, 4), (23, 8)]], rh := fun _ => [], V := fun i g => gA undef [.slice p0_0 ((a0).length) c0_0, .int .i64 v2, .pointer (some ⟨eB p0_0, eO p0_0 + Int.toNat v2 * Enc.sz Int + 0, none⟩), .int .i64 x4, .slice p1_0 ((a1).length) c1_0, .int .i64 v2, .pointer (some ⟨eB p1_0, eO p1_0 + Int.toNat v2 * Enc.sz Int + 0, none⟩), .int .i64 x5, .bool (x4 != x5)] i, U := fun _ _ => [], Φ := fun _ _ => True } ?_ ?_)))))))))
        · exact ⟨⟨⟨⟨⟨⟨⟨⟨⟨trivial, lc rfl rfl fun hs hh => stp_move (sv hs 0 rfl)⟩, lc rfl rfl fun hs hh => stp_move (sv hs 5 rfl)⟩, lc rfl rfl fun hs hh => stp_indexAddr Tryd.underlying23 ts3 (by decide) (sv hs 16 rfl) rfl (sv hs 17 rfl) (Rdb.ro hr0_0) e4⟩, lc rfl rfl fun hs hh => stp_load1 ts3 (sv hs 18 rfl) (Cells.el (Rdb.ro hr0_0) (by decide) e4 0 1 rfl)⟩, lc rfl rfl fun hs hh => stp_move (sv hs 1 rfl)⟩, lc rfl rfl fun hs hh => stp_move (sv hs 5 rfl)⟩, lc rfl rfl fun hs hh => stp_indexAddr Tryd.underlying23 ts3 (by decide) (sv hs 20 rfl) rfl (sv hs 21 rfl) (Rdb.ro hr1_0) e5⟩, lc rfl rfl fun hs hh => stp_load1 ts3 (sv hs 22 rfl) (Cells.el (Rdb.ro hr1_0) (by decide) e5 0 1 rfl)⟩, lc rfl rfl fun hs hh => stp_neq (sv hs 19 rfl) (sv hs 23 rfl)⟩
        · intro g hΦ
          refine KW.sub (s' := [(0, .slice p0_0 ((a0).length) c0_0), (1, .slice p1_0 ((a1).length) c1_0), (12, .int .i64 ((a0).length : Int)), (13, .int .i64 v2), (24, .bool (x4 != x5))]) (h' := []) ?_ ⟨rfl, rfl, rfl, rfl, rfl, trivial⟩ trivial
          refine kw_nx (cw_cond rfl (fun h6 => ?_) (fun h6 => ?_))
          · have H1 := cond_t H1 h6
            refine sr (oD (sg rfl) rfl (nn (cw_ret (kw_bl_ret (kw_nx_ret (kw_lq_ret (kw_bl_ret (kw_join_ret (kw_nx_ret ?_)))))))))
            have q1 := Option.some.inj H1
            subst q1
            have q0 := Option.some.inj H0
            subst q0
            exact kw_ret Tryd.results38 (.cons (.tmp rfl) .nil) [] [] trivial (by decide) ⟨rfl, rfl⟩
          · have H1 := cond_f H1 h6
            obtain ⟨x7, e7, H1⟩ := bind_some H1
            exact cw_skip (kw_bl_normal (kw_nx (cw_region (oD (stp_add rfl rfl e7) rfl (oD (mv rfl) rfl (ow_nil (kw_lqS (js := []) (fuel, x7) H1 (Nat.lt_succ_self _) ⟨rfl, rfl, rfl, rfl, trivial⟩ trivial (by decide))))))))
      · have H1 := cond_f H1 h3
        refine cw_exit (kw_nx_exit (kw_lq_exit (kw_bl ?_)))
        have q1 := Option.some.inj H1
        subst q1
        exact kw_joinS (js := []) v2 rfl ⟨rfl, rfl, rfl, rfl, trivial⟩ trivial (by decide)
    · rintro v2 rfl
      refine KW.sub (s' := [(0, .slice p0_0 ((a0).length) c0_0), (1, .slice p1_0 ((a1).length) c1_0), (12, .int .i64 ((a0).length : Int)), (13, .int .i64 v2)]) (h' := []) ?_ ⟨rfl, rfl, rfl, rfl, trivial⟩ trivial
      refine kw_nx (sr (oD (sg rfl) rfl (nn (cw_ret ?_))))
      have q0 := Option.some.inj H0
      subst q0
      exact kw_ret Tryd.results38 (.cons (.tmp rfl) .nil) [] [] trivial (by decide) ⟨rfl, rfl⟩

set_option maxHeartbeats 4000000 in
set_option maxRecDepth 20000 in
theorem c_slices_Equal_Frame (fl : Nat) (w : World) (a0 : (List F)) (p0_0 : Option Addr) (n0_0 c0_0 : Nat) (a1 : (List F)) (p1_0 : Option Addr) (n1_0 c1_0 : Nat) (hn0_0 : n0_0 = (a0).length) (hr0_0 : RO w (hkeys []) (RdL p0_0 c0_0 a0)) (hn1_0 : n1_0 = (a1).length) (hr1_0 : RO w (hkeys []) (RdL p1_0 c1_0 a1)) (r : Bool) (H0 : slices_Equal_Frame fl a0 a1 = some r) :
    Ct Tryd.prog 39 [.slice p0_0 n0_0 c0_0, .slice p1_0 n1_0 c1_0] w [] (fun rv h' => rv = .bool r ∧ h' = []) := by
  obtain rfl := hn0_0
  obtain rfl := hn1_0
  unfold slices_Equal_Frame at H0
  refine ct_of_cw Tryd.func39 rfl Tryd.ntmps39 rfl (Sat.refl _ _) ?_
  refine sr (oD (sg rfl) rfl (nn (cw_seq (sr (oD (mv rfl) rfl (oD (stp_len Tryd.underlying24 rfl) rfl (oD (mv rfl) rfl (oD (stp_len Tryd.underlying24 rfl) rfl (oD (stp_neq rfl rfl) rfl (nn (cw_cond rfl (fun h1 => ?_) (fun h1 => ?_))))))))))))
  · have H0 := cond_t H0 h1
    refine sr (oD (sg rfl) rfl (nn (cw_ret (kw_nx_ret ?_))))
    have q0 := Option.some.inj H0
    subst q0
    exact kw_ret Tryd.results39 (.cons (.tmp rfl) .nil) [] [] trivial (by decide) ⟨rfl, rfl⟩
  · have H0 := cond_f H0 h1
    obtain ⟨o0_0, eo0_0, H0⟩ := bind_some H0
    refine cw_skip (kw_nx (cw_seq (sr (oD (mv rfl) rfl (oD (stp_len Tryd.underlying24 rfl) rfl (oD (mv rfl) rfl (nn (cw_join (ι := Int) (fun | v2 => o0_0 = .out v2) (fun | v2 => [(0, .slice p0_0 ((a0).length) c0_0), (1, .slice p1_0 ((a1).length) c1_0), (12, .int .i64 ((a0).length : Int)), (13, .int .i64 v2)]) (fun | v2 => []) ?_ ?_))))))))
    · refine cw_block (cw_loopS (ι := Nat × Int) (js := []) (fun x => x.1) (fun | (fuel, v2) => slices_Equal_Frame_L0 fl a0 a1 fuel v2 = some o0_0) (fun | (_, v2) => [(0, .slice p0_0 ((a0).length) c0_0), (1, .slice p1_0 ((a1).length) c1_0), (12, .int .i64 ((a0).length : Int)), (13, .int .i64 v2)]) (fun | (_, v2) => []) (fl, 0) eo0_0 ⟨rfl, rfl, rfl, rfl, trivial⟩ trivial (by decide) ?_)
      rintro ⟨fuel, v2⟩ H1
      have H1 : slices_Equal_Frame_L0 fl a0 a1 fuel v2 = some o0_0 := H1
      rcases fuel with _ | fuel
      · rw [slices_Equal_Frame_L0.eq_1] at H1; cases H1
      rw [slices_Equal_Frame_L0.eq_2] at H1
      refine CW.sub (s' := [(0, .slice p0_0 ((a0).length) c0_0), (1, .slice p1_0 ((a1).length) c1_0), (12, .int .i64 ((a0).length : Int)), (13, .int .i64 v2)]) (h' := []) ?_ ⟨rfl, rfl, rfl, rfl, trivial⟩ trivial
      refine sr (oD (stp_lss rfl rfl) rfl (nn (cw_seq (cw_cond rfl (fun h3 => ?_) (fun h3 => ?_)))))
      · have H1 := cond_t H1 h3
        obtain ⟨x4, e4, H1⟩ := bind_some H1
        obtain ⟨x5, e5, H1⟩ := bind_some H1
        refine cw_skip (kw_nx (cw_seq (cw_block (sr (oD (mv rfl) rfl (oD (sg rfl) rfl (nn (cw_seq (rdr g_mixed [0, 1, 5] [] { dst := dS [17, 18, 19, 20, 21, 22, 23, 24, 25], pre := gA [] [[], [], [0, 1], [0, 1, 2], [], [], [4, 5], [4, 5, 6], rn 0 8], ids := fun _ => [], rs := rL [[(0, 0)], [(5, 0)], [(16, 1), (17, 2)], [(18, 3)], [(1, 0)], [(5, 0)], [(20, 5), (21, 6)], [(22, 7)], [(19, 4), (23, 8)]], rh := fun _ => [], V := fun i g => gA undef [.slice p0_0 ((a0).length) c0_0, .int .i64 v2, .pointer (some ⟨eB p0_0, eO p0_0 + Int.toNat v2 * Enc.sz F + 0, none⟩), .agg #[.bool x4.u, .int .i64 x4.k.s, .int .i64 x4.k.p, .int .i64 x4.r, .int .i64 x4.nx], .slice p1_0 ((a1).length) c1_0, .int .i64 v2, .pointer (some ⟨eB p1_0, eO p1_0 + Int.toNat v2 * Enc.sz F + 0, none⟩), .agg #[.bool x5.u, .int .i64 x5.k.s, .int .i64 x5.k.p, .int .i64 x5.r, .int .i64 x5.nx], .bool (x4 != x5)] i, U := fun _ _ => [], Φ := fun _ _ => True } ?_ ?_)))))))))
        · exact ⟨⟨⟨⟨⟨⟨⟨⟨⟨trivial, lc rfl rfl fun hs hh => stp_move (sv hs 0 rfl)⟩, lc rfl rfl fun hs hh => stp_move (sv hs 5 rfl)⟩, lc rfl rfl fun hs hh => stp_indexAddr Tryd.underlying24 ts58 (by decide) (sv hs 16 rfl) rfl (sv hs 17 rfl) (Rdb.ro hr0_0) e4⟩, lc rfl rfl fun hs hh => stp_loadN (us := [_, _, _, _, _]) ts58 (sv hs 18 rfl) (Cells.el (Rdb.ro hr0_0) (by decide) e4 0 5 rfl)⟩, lc rfl rfl fun hs hh => stp_move (sv hs 1 rfl)⟩, lc rfl rfl fun hs hh => stp_move (sv hs 5 rfl)⟩, lc rfl rfl fun hs hh => stp_indexAddr Tryd.underlying24 ts58 (by decide) (sv hs 20 rfl) rfl (sv hs 21 rfl) (Rdb.ro hr1_0) e5⟩, lc rfl rfl fun hs hh => stp_loadN (us := [_, _, _, _, _]) ts58 (sv hs 22 rfl) (Cells.el (Rdb.ro hr1_0) (by decide) e5 0 5 rfl)⟩, lc rfl rfl fun hs hh => stp_neqS te58 x4 x5 (sv hs 19 rfl) (sv hs 23 rfl)⟩
        · intro g hΦ
          refine KW.sub (s' := [(0, .slice p0_0 ((a0).length) c0_0), (1, .slice p1_0 ((a1).length) c1_0), (12, .int .i64 ((a0).length : Int)), (13, .int .i64 v2), (24, .bool (x4 != x5))]) (h' := []) ?_ ⟨rfl, rfl, rfl, rfl, rfl, trivial⟩ trivial
          refine kw_nx (cw_cond rfl (fun h6 => ?_) (fun h6 => ?_))
          · have H1 := cond_t H1 h6
            refine sr (oD (sg rfl) rfl (nn (cw_ret (kw_bl_ret (kw_nx_ret (kw_lq_ret (kw_bl_ret (kw_join_ret (kw_nx_ret ?_)))))))))
            have q1 := Option.some.inj H1
            subst q1
            have q0 := Option.some.inj H0
            subst q0
            exact kw_ret Tryd.results39 (.cons (.tmp rfl) .nil) [] [] trivial (by decide) ⟨rfl, rfl⟩
          · have H1 := cond_f H1 h6
            obtain ⟨x7, e7, H1⟩ := bind_some H1
            exact cw_skip (kw_bl_normal (kw_nx (cw_region (oD (stp_add rfl rfl e7) rfl (oD (mv rfl) rfl (ow_nil (kw_lqS (js := []) (fuel, x7) H1 (Nat.lt_succ_self _) ⟨rfl, rfl, rfl, rfl, trivial⟩ trivial (by decide))))))))
      · have H1 := cond_f H1 h3
        refine cw_exit (kw_nx_exit (kw_lq_exit (kw_bl ?_)))
        have q1 := Option.some.inj H1
        subst q1
        exact kw_joinS (js := []) v2 rfl ⟨rfl, rfl, rfl, rfl, trivial⟩ trivial (by decide)
    · rintro v2 rfl
      refine KW.sub (s' := [(0, .slice p0_0 ((a0).length) c0_0), (1, .slice p1_0 ((a1).length) c1_0), (12, .int .i64 ((a0).length : Int)), (13, .int .i64 v2)]) (h' := []) ?_ ⟨rfl, rfl, rfl, rfl, trivial⟩ trivial
      refine kw_nx (sr (oD (sg rfl) rfl (nn (cw_ret ?_))))
      have q0 := Option.some.inj H0
      subst q0
      exact kw_ret Tryd.results39 (.cons (.tmp rfl) .nil) [] [] trivial (by decide) ⟨rfl, rfl⟩

set_option maxHeartbeats 4000000 in
set_option maxRecDepth 20000 in
theorem c_i_TableSame (fl : Nat) (w : World) (a0 : T) (p0_0 : Option Addr) (n0_0 c0_0 : Nat) (p0_1 : Option Addr) (n0_1 c0_1 : Nat) (a1 : T) (p1_0 : Option Addr) (n1_0 c1_0 : Nat) (p1_1 : Option Addr) (n1_1 c1_1 : Nat) (hn0_0 : n0_0 = (a0.b).length) (hr0_0 : RO w (hkeys []) (RdL p0_0 c0_0 a0.b)) (hn0_1 : n0_1 = (a0.f).length) (hr0_1 : RO w (hkeys []) (RdL p0_1 c0_1 a0.f)) (hn1_0 : n1_0 = (a1.b).length) (hr1_0 : RO w (hkeys []) (RdL p1_0 c1_0 a1.b)) (hn1_1 : n1_1 = (a1.f).length) (hr1_1 : RO w (hkeys []) (RdL p1_1 c1_1 a1.f)) (r : Bool) (H0 : i_TableSame fl a0 a1 = some r) :
    Ct Tryd.prog 10 [.agg #[.slice p0_0 n0_0 c0_0, .slice p0_1 n0_1 c0_1], .agg #[.slice p1_0 n1_0 c1_0, .slice p1_1 n1_1 c1_1]] w [] (fun rv h' => rv = .bool r ∧ h' = []) := by
  obtain rfl := hn0_0
  obtain rfl := hn0_1
  obtain rfl := hn1_0
  obtain rfl := hn1_1
  unfold i_TableSame at H0
  refine ct_of_cw Tryd.func10 rfl Tryd.ntmps10 rfl (Sat.refl _ _) ?_
  refine sr (oE (stpU_box 0 rfl rfl) rfl ?_)
  rintro _ _ ⟨b1, rfl, rfl⟩
  refine oE (stpU_box 1 rfl rfl) rfl ?_
  rintro _ _ ⟨b2, rfl, rfl⟩
  obtain ⟨x3, e3, H0⟩ := bind_some H0
  refine oD (sg rfl) rfl (nn (sr (oD (fA 0 Tryd.underlying26 rfl ts23 rfl rfl rfl) rfl (oD (lB 0 ts23 rfl rfl rfl) rfl (oD (fA 0 Tryd.underlying26 rfl ts23 rfl rfl rfl) rfl (oD (lB 1 ts23 rfl rfl rfl) rfl (oE (stpU_call (fun i => 2 + i) cf38 (fun w hw => c_slices_Equal_Int fl w a0.b p0_0 ((a0.b).length) c0_0 a1.b p1_0 ((a1.b).length) c1_0 rfl (RO.pass hr0_0 hw) rfl (RO.pass hr1_0 hw) x3 e3) (sevs_cons rfl (sevs_cons rfl sevs_nil))) rfl ?_)))))))
  rintro _ _ ⟨_, ⟨rfl, rfl⟩, rfl⟩
  obtain ⟨y4, ey4, H0⟩ := bind_some H0
  refine oD (mv rfl) rfl (ow_cutY 6 16 y4 ?_ ?_)
  · rcases Bool.eq_false_or_eq_true x3 with hy4 | hy4
    · have ey4 := cond_t ey4 hy4
      obtain ⟨x5, e5, ey4⟩ := bind_some ey4
      refine oG rfl hy4 (fA 1 Tryd.underlying26 rfl ts24 rfl rfl rfl) rfl (oG rfl hy4 (lB 0 ts24 rfl rfl rfl) rfl (oG rfl hy4 (fA 1 Tryd.underlying26 rfl ts24 rfl rfl rfl) rfl (oG rfl hy4 (lB 1 ts24 rfl rfl rfl) rfl (ow_eff (.some rfl hy4) (stpU_call (fun i => 2 + i) cf39 (fun w hw => c_slices_Equal_Frame fl w a0.f p0_1 ((a0.f).length) c0_1 a1.f p1_1 ((a1.f).length) c1_1 rfl (RO.pass hr0_1 hw) rfl (RO.pass hr1_1 hw) x5 e5) (sevs_cons rfl (sevs_cons rfl sevs_nil))) rfl ?_))))
      rintro _ _ ⟨_, ⟨rfl, rfl⟩, rfl⟩
      refine oD (stp_pick_t rfl hy4 rfl) rfl ?_
      obtain rfl := Option.some.inj ey4
      exact ow_nil (jy 6 0)
    · have ey4 := cond_f ey4 hy4
      refine oO rfl hy4 rfl (oO rfl hy4 rfl (oO rfl hy4 rfl (oO rfl hy4 rfl (oO rfl hy4 rfl (oD (stp_pick_f rfl hy4 rfl) rfl ?_)))))
      obtain rfl := Option.some.inj ey4
      exact ow_nil (jy 6 0)
  · refine oD (sg rfl) rfl (nn (cw_ret ?_))
    have q0 := Option.some.inj H0
    subst q0
    exact kw_ret Tryd.results10 (.cons (.tmp rfl) .nil) [] [] trivial (by decide) ⟨rfl, rfl⟩

theorem c_math_bits_Len (fl : Nat) (w : World) (a0 : Int) (r : Int) (H0 : math_bits_Len fl a0 = some r) :
    Ct Tryd.prog 69 [.int .u64 a0] w [] (fun rv h' => rv = .int .i64 r ∧ h' = []) := by
  unfold math_bits_Len at H0
  split at H0
  · rename_i hb; obtain rfl := Option.some.inj H0
    exact ct_of_calls (Calls.mono (bitsLen_c a0 w hb.1 hb.2) fun _ _ ⟨he, hw⟩ => ⟨he, by subst hw; exact Below.refl _ _⟩)
  · cases H0

set_option maxHeartbeats 4000000 in
set_option maxRecDepth 20000 in
theorem c_i_KeyBefore (fl : Nat) (w : World) (a0 : K) (a1 : K) (r : Bool) (H0 : i_KeyBefore fl a0 a1 = some r) :
    Ct Tryd.prog 44 [.agg #[.int .i64 a0.s, .int .i64 a0.p], .agg #[.int .i64 a1.s, .int .i64 a1.p]] w [] (fun rv h' => rv = .bool r ∧ h' = []) := by
  unfold i_KeyBefore at H0
  refine ct_of_cw Tryd.func44 rfl Tryd.ntmps44 rfl (Sat.refl _ _) ?_
  refine sr (oE (stpU_box 0 rfl rfl) rfl ?_)
  rintro _ _ ⟨b1, rfl, rfl⟩
  refine oE (stpU_box 1 rfl rfl) rfl ?_
  rintro _ _ ⟨b2, rfl, rfl⟩
  obtain ⟨y3, ey3, H0⟩ := bind_some H0
  refine oD (sg rfl) rfl (nn (sr (oD (fA 0 Tryd.underlying28 rfl ts3 rfl rfl rfl) rfl (oD (lB 0 ts3 rfl rfl rfl) rfl (oD (fA 0 Tryd.underlying28 rfl ts3 rfl rfl rfl) rfl (oD (lB 1 ts3 rfl rfl rfl) rfl (oD (stp_lss rfl rfl) rfl (oD (mv rfl) rfl (ow_cutY 13 23 y3 ?_ ?_)))))))))
  · rcases Bool.eq_false_or_eq_true (decide (a0.s < a1.s)) with hy3 | hy3
    · have ey3 := cond_t ey3 hy3
      refine oO rfl hy3 rfl (oO rfl hy3 rfl (oO rfl hy3 rfl (oO rfl hy3 rfl (oO rfl hy3 rfl (oO rfl hy3 rfl (oX rfl rfl rfl (oX rfl rfl rfl (oX rfl rfl rfl (oX rfl rfl rfl (oX rfl rfl rfl (oO rfl hy3 rfl (oD (stp_pick_t rfl hy3 rfl) rfl ?_))))))))))))
      obtain rfl := Option.some.inj ey3
      exact ow_nil (jy 13 0)
    · have ey3 := cond_f ey3 hy3
      obtain ⟨y4, ey4, ey3⟩ := bind_some ey3
      refine oG rfl hy3 (fA 0 Tryd.underlying28 rfl ts3 rfl rfl rfl) rfl (oG rfl hy3 (lB 0 ts3 rfl rfl rfl) rfl (oG rfl hy3 (fA 0 Tryd.underlying28 rfl ts3 rfl rfl rfl) rfl (oG rfl hy3 (lB 1 ts3 rfl rfl rfl) rfl (oG rfl hy3 (stp_eql rfl rfl) rfl (oG rfl hy3 (mv rfl) rfl (ow_cutY 6 22 y4 ?_ ?_))))))
      · rcases Bool.eq_false_or_eq_true (a0.s == a1.s) with hy4 | hy4
        · have ey4 := cond_t ey4 hy4
          refine oG rfl hy4 (fA 1 Tryd.underlying28 rfl ts3 rfl rfl rfl) rfl (oG rfl hy4 (lB 0 ts3 rfl rfl rfl) rfl (oG rfl hy4 (fA 1 Tryd.underlying28 rfl ts3 rfl rfl rfl) rfl (oG rfl hy4 (lB 1 ts3 rfl rfl rfl) rfl (oG rfl hy4 (stp_lss rfl rfl) rfl (oG rfl hy3 (stp_pick_t rfl hy4 rfl) rfl ?_)))))
          obtain rfl := Option.some.inj ey4
          exact ow_nil (jy 6 0)
        · have ey4 := cond_f ey4 hy4
          refine oO rfl hy4 rfl (oO rfl hy4 rfl (oO rfl hy4 rfl (oO rfl hy4 rfl (oO rfl hy4 rfl (oG rfl hy3 (stp_pick_f rfl hy4 rfl) rfl ?_)))))
          obtain rfl := Option.some.inj ey4
          exact ow_nil (jy 6 0)
      · refine oD (stp_pick_f rfl hy3 rfl) rfl ?_
        obtain rfl := Option.some.inj ey3
        exact ow_nil (jy 8 0)
  · refine oD (sg rfl) rfl (nn (cw_ret ?_))
    have q0 := Option.some.inj H0
    subst q0
    exact kw_ret Tryd.results44 (.cons (.tmp rfl) .nil) [] [] trivial (by decide) ⟨rfl, rfl⟩

set_option maxHeartbeats 4000000 in
set_option maxRecDepth 20000 in
theorem c_i_KeysOf_1 (fl : Nat) (w : World) (a0 : K) (a1 : K) (r : Int) (H0 : i_KeysOf_1 fl a0 a1 = some r) :
    Ct Tryd.prog 43 [.agg #[.int .i64 a0.s, .int .i64 a0.p], .agg #[.int .i64 a1.s, .int .i64 a1.p]] w [] (fun rv h' => rv = .int .i64 r ∧ h' = []) := by
  unfold i_KeysOf_1 at H0
  refine ct_of_cw Tryd.func43 rfl Tryd.ntmps43 rfl (Sat.refl _ _) ?_
  refine sr (oE (stpU_box 0 rfl rfl) rfl ?_)
  rintro _ _ ⟨b1, rfl, rfl⟩
  refine oE (stpU_box 1 rfl rfl) rfl ?_
  rintro _ _ ⟨b2, rfl, rfl⟩
  obtain ⟨x3, e3, H0⟩ := bind_some H0
  refine oD (sg rfl) rfl (nn (cw_seq (sr (oD (stp_loadN (us := [_, _]) ts28 rfl (Cells.box (id := 0) rfl 2 rfl)) rfl (oD (stp_loadN (us := [_, _]) ts28 rfl (Cells.box (id := 1) rfl 2 rfl)) rfl (oE (stpU_call (fun i => 2 + i) cf44 (fun w hw => c_i_KeyBefore fl w a0 a1 x3 e3) (sevs_cons rfl (sevs_cons rfl sevs_nil))) rfl ?_))))))
  rintro _ _ ⟨_, ⟨rfl, rfl⟩, rfl⟩
  refine nn (cw_cond rfl (fun h4 => ?_) (fun h4 => ?_))
  · have H0 := cond_t H0 h4
    refine sr (oD (sg rfl) rfl (nn (cw_ret (kw_nx_ret ?_))))
    have q0 := Option.some.inj H0
    subst q0
    exact kw_ret Tryd.results43 (.cons (.tmp rfl) .nil) [] [] trivial (by decide) ⟨rfl, rfl⟩
  · have H0 := cond_f H0 h4
    refine cw_skip (kw_nx (sr (oD (sg rfl) rfl (nn (cw_ret ?_)))))
    have q0 := Option.some.inj H0
    subst q0
    exact kw_ret Tryd.results43 (.cons (.tmp rfl) .nil) [] [] trivial (by decide) ⟨rfl, rfl⟩

set_option maxHeartbeats 4000000 in
set_option maxRecDepth 20000 in
theorem c_slices_insertionSortCmpFunc_Key_of_i_KeysOf_1 (fl : Nat) (w : World) (a0 : (List K)) (p0_0 : Option Addr) (n0_0 c0_0 : Nat) (C0_0 : Res) (a1 : Int) (a2 : Int) (hn0_0 : n0_0 = (a0).length) (ho0_0 : OwnC (α := K) 28 p0_0 c0_0 a0 C0_0) (hM : Sat w (hkeys [(0, C0_0)]) w [(0, C0_0)]) (r : (List K)) (H0 : slices_insertionSortCmpFunc_Key_of_i_KeysOf_1 fl a0 a1 a2 = some r) :
    Ct Tryd.prog 72 [.slice p0_0 n0_0 c0_0, .int .i64 a1, .int .i64 a2, .func (.func 43) #[] #[]] w [(0, C0_0)] (fun rv h' => ∃ (D0 : Res), rv = .tuple #[] ∧ h' = [(0, D0)] ∧ n0_0 = (r).length ∧ OwnC (α := K) 28 p0_0 c0_0 r D0) := by
  obtain rfl := hn0_0
  unfold slices_insertionSortCmpFunc_Key_of_i_KeysOf_1 at H0
  refine ct_of_cw Tryd.func72 rfl Tryd.ntmps72 rfl hM ?_
  obtain ⟨x1, e1, H0⟩ := bind_some H0
  obtain ⟨o0_0, eo0_0, H0⟩ := bind_some H0
  refine sr (oD (mv rfl) rfl (oD (stp_add rfl rfl e1) rfl (oD (sg rfl) rfl (nn (cw_join (ι := (List K) × Int × Res) (fun | (v2, v4, C3) => o0_0 = .out (v2, v4) ∧ (a0).length = (v2).length ∧ OwnC (α := K) 28 p0_0 c0_0 v2 C3) (fun | (v2, v4, C3) => [(0, .slice p0_0 ((a0).length) c0_0), (1, .int .i64 a1), (2, .int .i64 a2), (3, .func (.func 43) #[] #[]), (8, .int .i64 v4)]) (fun | (v2, v4, C3) => [(0, C3)]) ?_ ?_)))))
  · refine cw_block (cw_loopS (ι := Nat × (List K) × Int × Res) (js := [0]) (fun x => x.1) (fun | (fuel, v2, v4, C3) => slices_insertionSortCmpFunc_Key_of_i_KeysOf_1_L0 fl a1 a2 fuel v2 v4 = some o0_0 ∧ (a0).length = (v2).length ∧ OwnC (α := K) 28 p0_0 c0_0 v2 C3) (fun | (_, v2, v4, C3) => [(0, .slice p0_0 ((a0).length) c0_0), (1, .int .i64 a1), (2, .int .i64 a2), (3, .func (.func 43) #[] #[]), (8, .int .i64 v4)]) (fun | (_, v2, v4, C3) => [(0, C3)]) (fl, a0, x1, C0_0) ⟨eo0_0, rfl, ho0_0⟩ ⟨rfl, rfl, rfl, rfl, rfl, trivial⟩ ⟨0, [], rfl, rfl, trivial⟩ (by decide) ?_)
    rintro ⟨fuel, v2, v4, C3⟩ ⟨H1, hl3, o3⟩
    have H1 : slices_insertionSortCmpFunc_Key_of_i_KeysOf_1_L0 fl a1 a2 fuel v2 v4 = some o0_0 := H1
    rcases fuel with _ | fuel
    · rw [slices_insertionSortCmpFunc_Key_of_i_KeysOf_1_L0.eq_1] at H1; cases H1
    rw [slices_insertionSortCmpFunc_Key_of_i_KeysOf_1_L0.eq_2] at H1
    refine CW.sub (s' := [(0, .slice p0_0 ((a0).length) c0_0), (1, .int .i64 a1), (2, .int .i64 a2), (3, .func (.func 43) #[] #[]), (8, .int .i64 v4)]) (h' := [(0, C3)]) ?_ ⟨rfl, rfl, rfl, rfl, rfl, trivial⟩ ⟨rfl, trivial⟩
    refine cw_seq (sr (oD (mv rfl) rfl (oD (mv rfl) rfl (oD (stp_lss rfl rfl) rfl (nn (cw_cond rfl (fun h5 => ?_) (fun h5 => ?_)))))))
    · have H1 := cond_t H1 h5
      obtain ⟨o1_1, eo1_1, H1⟩ := bind_some H1
      refine cw_skip (kw_nx (cw_seq (cw_block (sr (oD (mv rfl) rfl (oD (sg rfl) rfl (nn (cw_join (ι := (List K) × Int × Res) (fun | (v6, v8, C7) => o1_1 = .out (v6, v8) ∧ (a0).length = (v6).length ∧ OwnC (α := K) 28 p0_0 c0_0 v6 C7) (fun | (v6, v8, C7) => [(0, .slice p0_0 ((a0).length) c0_0), (1, .int .i64 a1), (2, .int .i64 a2), (3, .func (.func 43) #[] #[]), (8, .int .i64 v4), (9, .int .i64 v8)]) (fun | (v6, v8, C7) => [(0, C7)]) ?_ ?_))))))))
      · refine cw_block (cw_loopS (ι := Nat × (List K) × Int × Res) (js := [0]) (fun x => x.1) (fun | (fuel, v6, v8, C7) => slices_insertionSortCmpFunc_Key_of_i_KeysOf_1_L1 fl a1 fuel v6 v8 = some o1_1 ∧ (a0).length = (v6).length ∧ OwnC (α := K) 28 p0_0 c0_0 v6 C7) (fun | (_, v6, v8, C7) => [(0, .slice p0_0 ((a0).length) c0_0), (1, .int .i64 a1), (2, .int .i64 a2), (3, .func (.func 43) #[] #[]), (8, .int .i64 v4), (9, .int .i64 v8)]) (fun | (_, v6, v8, C7) => [(0, C7)]) (fl, v2, v4, C3) ⟨eo1_1, (by simp [hl3]), o3⟩ ⟨rfl, rfl, rfl, rfl, rfl, rfl, trivial⟩ ⟨0, [], rfl, rfl, trivial⟩ (by decide) ?_)
        rintro ⟨fuel, v6, v8, C7⟩ ⟨H2, hl7, o7⟩
        have H2 : slices_insertionSortCmpFunc_Key_of_i_KeysOf_1_L1 fl a1 fuel v6 v8 = some o1_1 := H2
        rcases fuel with _ | fuel
        · rw [slices_insertionSortCmpFunc_Key_of_i_KeysOf_1_L1.eq_1] at H2; cases H2
        rw [slices_insertionSortCmpFunc_Key_of_i_KeysOf_1_L1.eq_2] at H2
        refine CW.sub (s' := [(0, .slice p0_0 ((a0).length) c0_0), (1, .int .i64 a1), (2, .int .i64 a2), (3, .func (.func 43) #[] #[]), (8, .int .i64 v4), (9, .int .i64 v8)]) (h' := [(0, C7)]) ?_ ⟨rfl, rfl, rfl, rfl, rfl, rfl, trivial⟩ ⟨rfl, trivial⟩
        obtain ⟨y9, ey9, H2⟩ := bind_some H2
        refine cw_seq (cw_seq (cw_join (ι := Unit) (fun | _ => True) (fun | _ => [(0, .slice p0_0 ((a0).length) c0_0), (1, .int .i64 a1), (2, .int .i64 a2), (3, .func (.func 43) #[] #[]), (8, .int .i64 v4), (9, .int .i64 v8), (34, .bool y9)]) (fun | _ => [(0, C7)]) ?_ ?_))
        · rcases Bool.eq_false_or_eq_true (decide (a1 < v8)) with hy9 | hy9
          · have ey9 := cond_t ey9 hy9
            obtain ⟨x10, e10, ey9⟩ := bind_some ey9
            obtain ⟨x11, e11, ey9⟩ := bind_some ey9
            obtain ⟨x12, e12, ey9⟩ := bind_some ey9
            obtain ⟨x13, e13, ey9⟩ := bind_some ey9
            have qy9 := Option.some.inj ey9
            refine rdr g_mixed [0, 1, 3, 9] [0] { dst := dS [19, 20, 21, 22, 23, 24, 25, 26, 27, 28, 29, 30, 31, 32, 33, 34, 35], pre := gA [] [[], [], [0, 1], [0, 1, 2], rn 0 4, rn 0 4, rn 0 4, [0, 1, 2, 3, 5, 6], [0, 1, 2, 3, 5, 6, 7], rn 0 4, rn 0 4, [0, 1, 2, 3, 10], [0, 1, 2, 3, 9, 10, 11], [0, 1, 2, 3, 9, 10, 11, 12], rn 0 14, rn 0 15, rn 0 16], ids := fun _ => [], rs := rL [[(9, 0)], [(1, 0)], [(18, 1), (19, 2)], [(20, 3)], [(3, 0), (21, 4)], [(0, 0), (21, 4)], [(9, 0), (21, 4)], [(23, 6), (24, 7), (21, 4)], [(25, 8), (21, 4)], [(0, 0), (21, 4)], [(9, 0), (21, 4)], [(28, 11), (21, 4)], [(27, 10), (29, 12), (21, 4)], [(30, 13), (21, 4)], [(22, 5), (26, 9), (31, 14), (21, 4)], [(32, 15), (21, 4)], [(21, 4), (33, 16)]], rh := rL [[], [], [], [], [], [], [], [(0, 0)], [(0, 0)], [], [], [], [(0, 0)], [(0, 0)]], V := fun i g => gA undef [.int .i64 v8, .int .i64 a1, .bool (decide (a1 < v8)), .bool (decide (a1 < v8)), .func (.func 43) #[] #[], .slice p0_0 ((a0).length) c0_0, .int .i64 v8, .pointer (some ⟨eB p0_0, eO p0_0 + Int.toNat v8 * Enc.sz K + 0, none⟩), .agg #[.int .i64 x10.s, .int .i64 x10.p], .slice p0_0 ((a0).length) c0_0, .int .i64 v8, .int .i64 x11, .pointer (some ⟨eB p0_0, eO p0_0 + Int.toNat x11 * Enc.sz K + 0, none⟩), .agg #[.int .i64 x12.s, .int .i64 x12.p], .int .i64 x13, .bool (decide (x13 < 0)), .bool y9] i, U := fun _ _ => [], Φ := fun _ _ => True } ?_ ?_
            · refine ⟨⟨⟨⟨⟨⟨⟨⟨⟨⟨⟨⟨⟨⟨⟨⟨⟨trivial, lc rfl rfl fun hs hh => stp_move (sv hs 9 rfl)⟩, lc rfl rfl fun hs hh => stp_move (sv hs 1 rfl)⟩, lc rfl rfl fun hs hh => stp_gtr (sv hs 18 rfl) (sv hs 19 rfl)⟩, lc rfl rfl fun hs hh => stp_move (sv hs 20 rfl)⟩, lg rfl rfl 21 hy9 fun hs hh => stp_move (sv hs 3 rfl)⟩, lg rfl rfl 21 hy9 fun hs hh => stp_move (sv hs 0 rfl)⟩, lg rfl rfl 21 hy9 fun hs hh => stp_move (sv hs 9 rfl)⟩, lg rfl rfl 21 hy9 fun hs hh => stp_indexAddr Tryd.underlying37 ts28 (by decide) (sv hs 23 rfl) (by simp [hl7]) (sv hs 24 rfl) (Rdb.own (id := 0) (hh.get 0 _ rfl) o7) e10⟩, lg rfl rfl 21 hy9 fun hs hh => stp_loadN (us := [_, _]) ts28 (sv hs 25 rfl) (Cells.el (Rdb.own (id := 0) (hh.get 0 _ rfl) o7) (by decide) e10 0 2 rfl)⟩, lg rfl rfl 21 hy9 fun hs hh => stp_move (sv hs 0 rfl)⟩, lg rfl rfl 21 hy9 fun hs hh => stp_move (sv hs 9 rfl)⟩, lg rfl rfl 21 hy9 fun hs hh => stp_sub (sv hs 28 rfl) rfl e11⟩, lg rfl rfl 21 hy9 fun hs hh => stp_indexAddr Tryd.underlying37 ts28 (by decide) (sv hs 27 rfl) (by simp [hl7]) (sv hs 29 rfl) (Rdb.own (id := 0) (hh.get 0 _ rfl) o7) e12⟩, lg rfl rfl 21 hy9 fun hs hh => stp_loadN (us := [_, _]) ts28 (sv hs 30 rfl) (Cells.el (Rdb.own (id := 0) (hh.get 0 _ rfl) o7) (by decide) e12 0 2 rfl)⟩, ?_⟩, lg rfl rfl 21 hy9 fun hs hh => stp_lss (sv hs 32 rfl) rfl⟩, lc rfl rfl fun hs hh => stp_pick_tB (sv hs 21 rfl) hy9 (sv hs 33 rfl) qy9⟩
              · refine loc_eff rfl rfl (fun g hΦ s h hs hh => ⟨(.some (gval_of rfl (sv hs 21 rfl)) hy9), (stpU_callF (vals := [_, _]) (ca := []) (fun i => 1 + i) cf43 (fun w hw => c_i_KeysOf_1 fl w x10 x12 x13 e13) (sv hs 22 rfl) (sevs_cons (sv hs 26 rfl) (sevs_cons (sv hs 31 rfl) sevs_nil)))⟩) ?_
                rintro g _ _ ⟨_, ⟨rfl, rfl⟩, rfl⟩
                exact ⟨⟨[], [], []⟩, trivial, .inr rfl, rfl⟩
            · intro g hΦ
              exact kw_join () trivial ⟨rfl, rfl, rfl, rfl, rfl, rfl, rfl, trivial⟩ ⟨rfl, trivial⟩
          · have ey9 := cond_f ey9 hy9
            have qy9 := Option.some.inj ey9
            refine rdr g_mixed [1, 9] [] { dst := dS [19, 20, 21, 22, 23, 24, 25, 26, 27, 28, 29, 30, 31, 32, 33, 34, 35], pre := gA [] [[], [], [0, 1], [0, 1, 2], rn 0 4, rn 0 4, rn 0 4, [0, 1, 2, 3, 5, 6], [0, 1, 2, 3, 5, 6, 7], rn 0 4, rn 0 4, [0, 1, 2, 3, 10], [0, 1, 2, 3, 9, 10, 11], [0, 1, 2, 3, 9, 10, 11, 12], rn 0 14, rn 0 15, rn 0 16], ids := fun _ => [], rs := rL [[(9, 0)], [(1, 0)], [(18, 1), (19, 2)], [(20, 3)], [(21, 4)], [(21, 4)], [(21, 4)], [(21, 4)], [(21, 4)], [(21, 4)], [(21, 4)], [(21, 4)], [(21, 4)], [(21, 4)], [(21, 4)], [(21, 4)], [(21, 4), (33, 16)]], rh := fun _ => [], V := fun i g => gA undef [.int .i64 v8, .int .i64 a1, .bool (decide (a1 < v8)), .bool (decide (a1 < v8)), undef, undef, undef, undef, undef, undef, undef, undef, undef, undef, undef, undef, .bool y9] i, U := fun _ _ => [], Φ := fun _ _ => True } ?_ ?_
            · exact ⟨⟨⟨⟨⟨⟨⟨⟨⟨⟨⟨⟨⟨⟨⟨⟨⟨trivial, lc rfl rfl fun hs hh => stp_move (sv hs 9 rfl)⟩, lc rfl rfl fun hs hh => stp_move (sv hs 1 rfl)⟩, lc rfl rfl fun hs hh => stp_gtr (sv hs 18 rfl) (sv hs 19 rfl)⟩, lc rfl rfl fun hs hh => stp_move (sv hs 20 rfl)⟩, lo rfl rfl 21 hy9⟩, lo rfl rfl 21 hy9⟩, lo rfl rfl 21 hy9⟩, lo rfl rfl 21 hy9⟩, lo rfl rfl 21 hy9⟩, lo rfl rfl 21 hy9⟩, lo rfl rfl 21 hy9⟩, lo rfl rfl 21 hy9⟩, lo rfl rfl 21 hy9⟩, lo rfl rfl 21 hy9⟩, lo rfl rfl 21 hy9⟩, lo rfl rfl 21 hy9⟩, lc rfl rfl fun hs hh => stp_pick_fB (sv hs 21 rfl) hy9 rfl qy9⟩
            · intro g hΦ
              exact kw_join () trivial ⟨rfl, rfl, rfl, rfl, rfl, rfl, rfl, trivial⟩ ⟨rfl, trivial⟩
        · rintro _ -
          refine KW.sub (s' := [(0, .slice p0_0 ((a0).length) c0_0), (1, .int .i64 a1), (2, .int .i64 a2), (3, .func (.func 43) #[] #[]), (8, .int .i64 v4), (9, .int .i64 v8), (34, .bool y9)]) (h' := [(0, C7)]) ?_ ⟨rfl, rfl, rfl, rfl, rfl, rfl, rfl, trivial⟩ ⟨rfl, trivial⟩
          refine kw_nx (cw_cond rfl (fun h14 => ?_) (fun h14 => ?_))
          · have H2 := cond_t H2 h14
            obtain ⟨x15, e15, H2⟩ := bind_some H2
            obtain ⟨x16, e16, H2⟩ := bind_some H2
            obtain ⟨x17, e17, H2⟩ := bind_some H2
            obtain ⟨x19, e19, H2⟩ := bind_some H2
            refine cw_skip (kw_nx (cw_seq (cw_block (rdr g_mixed [0, 9] [0] { dst := dS [38, 39, 40, 41, 42, 43, 44, 45, 46, 47, 48, 49, 50, 51, 52, 0, 53, 0], pre := gA [] [[], [], [], [], [3], [], [], [6], [5, 6, 7], rn 5 4, [], [], [10, 11], [10, 11, 12], [0, 1, 5, 6, 7, 8, 9, 10, 11, 12, 13], [0, 1, 5, 6, 7, 8, 9, 10, 11, 12, 13, 14], rn 0 16, rn 0 17], ids := fun i => match i with | 15 => [0] | 17 => [0] | _ => [], rs := rL [[(0, 0)], [(9, 0)], [(0, 0)], [(9, 0)], [(40, 4)], [(0, 0)], [(9, 0)], [(43, 7)], [(42, 6), (44, 8)], [(45, 9)], [(0, 0)], [(9, 0)], [(47, 11), (48, 12)], [(49, 13)], [(37, 1), (38, 2)], [(51, 15), (46, 10)], [(39, 3), (41, 5)], [(52, 17), (50, 14)]], rh := rL [[], [], [], [], [], [], [], [], [(0, 0)], [(0, 0)], [], [], [(0, 0)], [(0, 0)], [(0, 0)], [(0, 0)], [(0, 16)], [(0, 16)]], V := fun i g => gA undef [.slice p0_0 ((a0).length) c0_0, .int .i64 v8, .slice p0_0 ((a0).length) c0_0, .int .i64 v8, .int .i64 x15, .slice p0_0 ((a0).length) c0_0, .int .i64 v8, .int .i64 x15, .pointer (some ⟨eB p0_0, eO p0_0 + Int.toNat x15 * Enc.sz K + 0, none⟩), .agg #[.int .i64 x16.s, .int .i64 x16.p], .slice p0_0 ((a0).length) c0_0, .int .i64 v8, .pointer (some ⟨eB p0_0, eO p0_0 + Int.toNat v8 * Enc.sz K + 0, none⟩), .agg #[.int .i64 x17.s, .int .i64 x17.p], .pointer (some ⟨eB p0_0, eO p0_0 + Int.toNat v8 * Enc.sz K + 0, none⟩), undef, .pointer (some ⟨eB p0_0, eO p0_0 + Int.toNat x15 * Enc.sz K + 0, none⟩)] i, U := fun i g => match i with | 15 => [(0, ((g 15).R 0))] | 17 => [(0, ((g 17).R 0))] | _ => [], Φ := fun i x => match i with | 15 => OwnC (α := K) 28 p0_0 c0_0 (v6.set (Int.toNat v8) x16) (x.R 0) | 17 => OwnC (α := K) 28 p0_0 c0_0 ((v6.set (Int.toNat v8) x16).set (Int.toNat x15) x17) (x.R 0) | _ => True } ?_ ?_))))
            · refine ⟨⟨⟨⟨⟨⟨⟨⟨⟨⟨⟨⟨⟨⟨⟨⟨⟨⟨trivial, lc rfl rfl fun hs hh => stp_move (sv hs 0 rfl)⟩, lc rfl rfl fun hs hh => stp_move (sv hs 9 rfl)⟩, lc rfl rfl fun hs hh => stp_move (sv hs 0 rfl)⟩, lc rfl rfl fun hs hh => stp_move (sv hs 9 rfl)⟩, lc rfl rfl fun hs hh => stp_sub (sv hs 40 rfl) rfl e15⟩, lc rfl rfl fun hs hh => stp_move (sv hs 0 rfl)⟩, lc rfl rfl fun hs hh => stp_move (sv hs 9 rfl)⟩, lc rfl rfl fun hs hh => stp_sub (sv hs 43 rfl) rfl e15⟩, lc rfl rfl fun hs hh => stp_indexAddr Tryd.underlying37 ts28 (by decide) (sv hs 42 rfl) (by simp [hl7]) (sv hs 44 rfl) (Rdb.own (id := 0) (hh.get 0 _ rfl) o7) e16⟩, lc rfl rfl fun hs hh => stp_loadN (us := [_, _]) ts28 (sv hs 45 rfl) (Cells.el (Rdb.own (id := 0) (hh.get 0 _ rfl) o7) (by decide) e16 0 2 rfl)⟩, lc rfl rfl fun hs hh => stp_move (sv hs 0 rfl)⟩, lc rfl rfl fun hs hh => stp_move (sv hs 9 rfl)⟩, lc rfl rfl fun hs hh => stp_indexAddr Tryd.underlying37 ts28 (by decide) (sv hs 47 rfl) (by simp [hl7]) (sv hs 48 rfl) (Rdb.own (id := 0) (hh.get 0 _ rfl) o7) e17⟩, lc rfl rfl fun hs hh => stp_loadN (us := [_, _]) ts28 (sv hs 49 rfl) (Cells.el (Rdb.own (id := 0) (hh.get 0 _ rfl) o7) (by decide) e17 0 2 rfl)⟩, lc rfl rfl fun hs hh => stp_indexAddr Tryd.underlying37 ts28 (by decide) (sv hs 37 rfl) (by simp [hl7]) (sv hs 38 rfl) (Rdb.own (id := 0) (hh.get 0 _ rfl) o7) e17⟩, ?_⟩, ld rfl rfl fun g hΦ s h hs hh => stp_indexAddr Tryd.underlying37 ts28 (by decide) (sv hs 39 rfl) (by simp [hl7]) (sv hs 41 rfl) (Rdb.own (id := 0) (hh.get 0 _ rfl) (hΦ 15 rfl)) e19⟩, ?_⟩
              · refine le rfl rfl (fun g hΦ s h hs hh => (stpU_storeEl (id := 0) (i := 0) x16 (by decide) ts28 (sv hs 51 rfl) (sv hs 46 rfl) (hh.get 0 _ rfl) o7 e17 rfl rfl rfl rfl)) ?_
                rintro g _ _ ⟨C18, rfl, o18⟩
                exact ⟨⟨[], [], [C18]⟩, o18, .inl rfl, rfl⟩
              · refine le rfl rfl (fun g hΦ s h hs hh => (stpU_storeEl (id := 0) (i := 0) x17 (by decide) ts28 (sv hs 52 rfl) (sv hs 50 rfl) (hh.get 0 _ rfl) (hΦ 15 rfl) e19 rfl rfl rfl rfl)) ?_
                rintro g _ _ ⟨C20, rfl, o20⟩
                exact ⟨⟨[], [], [C20]⟩, o20, .inl rfl, rfl⟩
            · intro g hΦ
              refine kw_gen (ι := Res × Res) (((g 15).R 0), ((g 17).R 0)) (fun | (C18, C20) => OwnC (α := K) 28 p0_0 c0_0 (v6.set (Int.toNat v8) x16) C18 ∧ OwnC (α := K) 28 p0_0 c0_0 ((v6.set (Int.toNat v8) x16).set (Int.toNat x15) x17) C20) (fun | (C18, C20) => [(0, .slice p0_0 ((a0).length) c0_0), (1, .int .i64 a1), (2, .int .i64 a2), (3, .func (.func 43) #[] #[]), (8, .int .i64 v4), (9, .int .i64 v8)]) (fun | (C18, C20) => [(0, C20)]) ⟨(hΦ 15 (by decide)), (hΦ 17 (by decide))⟩ ⟨rfl, rfl, rfl, rfl, rfl, rfl, trivial⟩ ⟨rfl, trivial⟩ ?_
              rintro ⟨C18, C20⟩ ⟨o18, o20⟩
              refine KW.sub (s' := [(0, .slice p0_0 ((a0).length) c0_0), (1, .int .i64 a1), (2, .int .i64 a2), (3, .func (.func 43) #[] #[]), (8, .int .i64 v4), (9, .int .i64 v8)]) (h' := [(0, C20)]) ?_ ⟨rfl, rfl, rfl, rfl, rfl, rfl, trivial⟩ ⟨rfl, trivial⟩
              exact kw_bl_normal (kw_nx (cw_region (oD (mv rfl) rfl (oD (stp_sub rfl rfl e15) rfl (oD (sg rfl) rfl (ow_nil (kw_lqS (js := [0]) (fuel, ((v6.set (Int.toNat v8) x16).set (Int.toNat x15) x17), x15, C20) ⟨H2, (by simp [hl7]), o20⟩ (Nat.lt_succ_self _) ⟨rfl, rfl, rfl, rfl, rfl, rfl, trivial⟩ ⟨0, [], rfl, rfl, trivial⟩ (by decide))))))))
          · have H2 := cond_f H2 h14
            refine cw_exit (kw_nx_exit (kw_lq_exit (kw_bl ?_)))
            have q2 := Option.some.inj H2
            subst q2
            exact kw_joinS (js := [0]) (v6, v8, C7) ⟨rfl, (by simp [hl7]), o7⟩ ⟨rfl, rfl, rfl, rfl, rfl, rfl, trivial⟩ ⟨0, [], rfl, rfl, trivial⟩ (by decide)
      · rintro ⟨v6, v8, C7⟩ ⟨rfl, hl7, o7⟩
        refine KW.sub (s' := [(0, .slice p0_0 ((a0).length) c0_0), (1, .int .i64 a1), (2, .int .i64 a2), (3, .func (.func 43) #[] #[]), (8, .int .i64 v4), (9, .int .i64 v8)]) (h' := [(0, C7)]) ?_ ⟨rfl, rfl, rfl, rfl, rfl, rfl, trivial⟩ ⟨rfl, trivial⟩
        obtain ⟨x21, e21, H1⟩ := bind_some H1
        exact kw_bl_normal (kw_nx (cw_region (oD (mv rfl) rfl (oD (stp_add rfl rfl e21) rfl (oD (sg rfl) rfl (ow_nil (kw_lqS (js := [0]) (fuel, v6, x21, C7) ⟨H1, (by simp [hl7]), o7⟩ (Nat.lt_succ_self _) ⟨rfl, rfl, rfl, rfl, rfl, trivial⟩ ⟨0, [], rfl, rfl, trivial⟩ (by decide))))))))
    · have H1 := cond_f H1 h5
      refine cw_exit (kw_nx_exit (kw_lq_exit (kw_bl ?_)))
      have q1 := Option.some.inj H1
      subst q1
      exact kw_joinS (js := [0]) (v2, v4, C3) ⟨rfl, (by simp [hl3]), o3⟩ ⟨rfl, rfl, rfl, rfl, rfl, trivial⟩ ⟨0, [], rfl, rfl, trivial⟩ (by decide)
  · rintro ⟨v2, v4, C3⟩ ⟨rfl, hl3, o3⟩
    refine KW.sub (s' := [(0, .slice p0_0 ((a0).length) c0_0), (1, .int .i64 a1), (2, .int .i64 a2), (3, .func (.func 43) #[] #[]), (8, .int .i64 v4)]) (h' := [(0, C3)]) ?_ ⟨rfl, rfl, rfl, rfl, rfl, trivial⟩ ⟨rfl, trivial⟩
    have q0 := Option.some.inj H0
    subst q0
    exact kw_end Tryd.results72 .nil [(0, C3)] [0] ⟨0, [], rfl, rfl, trivial⟩ (by decide) ⟨C3, rfl, rfl, (by simp [hl3]), o3⟩

set_option maxHeartbeats 4000000 in
set_option maxRecDepth 20000 in
theorem c_slices_pdqsortCmpFunc_Key_of_i_KeysOf_1 (fl : Nat) (w : World) (a0 : (List K)) (p0_0 : Option Addr) (n0_0 c0_0 : Nat) (C0_0 : Res) (a1 : Int) (a2 : Int) (a3 : Int) (hn0_0 : n0_0 = (a0).length) (ho0_0 : OwnC (α := K) 28 p0_0 c0_0 a0 C0_0) (hM : Sat w (hkeys [(0, C0_0)]) w [(0, C0_0)]) (r : (List K)) (H0 : slices_pdqsortCmpFunc_Key_of_i_KeysOf_1 fl a0 a1 a2 a3 = some r) :
    Ct Tryd.prog 68 [.slice p0_0 n0_0 c0_0, .int .i64 a1, .int .i64 a2, .int .i64 a3, .func (.func 43) #[] #[]] w [(0, C0_0)] (fun rv h' => ∃ (D0 : Res), rv = .tuple #[] ∧ h' = [(0, D0)] ∧ n0_0 = (r).length ∧ OwnC (α := K) 28 p0_0 c0_0 r D0) := by
  obtain rfl := hn0_0
  unfold slices_pdqsortCmpFunc_Key_of_i_KeysOf_1 at H0
  refine ct_of_cw Tryd.func68 rfl Tryd.ntmps68 rfl hM ?_
  obtain ⟨o0_0, eo0_0, H0⟩ := bind_some H0
  refine sr (oD (sg rfl) rfl (nn (sr (oD (sg rfl) rfl (nn (cw_join (ι := Unit) (fun | _ => o0_0 = .out ()) (fun | _ => [(0, .slice p0_0 ((a0).length) c0_0), (1, .int .i64 a1), (2, .int .i64 a2), (3, .int .i64 a3), (4, .func (.func 43) #[] #[]), (10, .bool true), (11, .bool true)]) (fun | _ => [(0, C0_0)]) ?_ ?_))))))
  · refine cw_block (cw_loopS (ι := Nat) (js := [0]) (fun x => x) (fun | fuel => slices_pdqsortCmpFunc_Key_of_i_KeysOf_1_L0 fl a0 a1 a2 fuel = some o0_0) (fun | _ => [(0, .slice p0_0 ((a0).length) c0_0), (1, .int .i64 a1), (2, .int .i64 a2), (3, .int .i64 a3), (4, .func (.func 43) #[] #[]), (10, .bool true), (11, .bool true)]) (fun | _ => [(0, C0_0)]) fl eo0_0 ⟨rfl, rfl, rfl, rfl, rfl, rfl, rfl, trivial⟩ ⟨0, [], rfl, rfl, trivial⟩ (by decide) ?_)
    rintro fuel H1
    have H1 : slices_pdqsortCmpFunc_Key_of_i_KeysOf_1_L0 fl a0 a1 a2 fuel = some o0_0 := H1
    rcases fuel with _ | fuel
    · rw [slices_pdqsortCmpFunc_Key_of_i_KeysOf_1_L0.eq_1] at H1; cases H1
    rw [slices_pdqsortCmpFunc_Key_of_i_KeysOf_1_L0.eq_2] at H1
    refine CW.sub (s' := [(0, .slice p0_0 ((a0).length) c0_0), (1, .int .i64 a1), (2, .int .i64 a2), (3, .int .i64 a3), (4, .func (.func 43) #[] #[]), (10, .bool true), (11, .bool true)]) (h' := [(0, C0_0)]) ?_ ⟨rfl, rfl, rfl, rfl, rfl, rfl, rfl, trivial⟩ ⟨rfl, trivial⟩
    obtain ⟨x1, e1, H1⟩ := bind_some H1
    refine cw_block (sr (oD (mv rfl) rfl (oD (mv rfl) rfl (oD (stp_sub rfl rfl e1) rfl (oD (sg rfl) rfl (nn (cw_seq (sr (oD (mv rfl) rfl (oD (stp_leq rfl rfl) rfl (nn (cw_cond rfl (fun h2 => ?_) (fun h2 => ?_)))))))))))))
    · have H1 := cond_t H1 h2
      obtain ⟨x3, e3, H1⟩ := bind_some H1
      refine sr (oD (mv rfl) rfl (oD (mv rfl) rfl (oD (mv rfl) rfl (oD (mv rfl) rfl (oE (stpU_callM (fun i => bif Nat.beq i 0 then 0 else 1 + i) cf72 (fun w hw hb => c_slices_insertionSortCmpFunc_Key_of_i_KeysOf_1 fl w a0 p0_0 ((a0).length) c0_0 C0_0 a1 a2 rfl ho0_0 (hw.pass (js := [0]) ⟨0, [], rfl, rfl, trivial⟩ (by decide)) x3 e3) (sevs_cons rfl (sevs_cons rfl (sevs_cons rfl (sevs_cons rfl sevs_nil)))) ⟨rfl, (fun _ _ hp => by obtain ⟨_, _, rfl, _⟩ := hp; exact ⟨_, rfl⟩), trivial⟩) rfl ?_)))))
      rintro _ _ ⟨_, ⟨C4, rfl, rfl, hl4, o4⟩, rfl⟩
      refine nn (cw_ret (kw_nx_ret (kw_bl_ret (kw_lq_ret (kw_bl_ret (kw_join_ret ?_))))))
      have q1 := Option.some.inj H1
      subst q1
      have q0 := Option.some.inj H0
      subst q0
      exact kw_ret Tryd.results68 .nil [(0, C4)] [0] ⟨0, [], rfl, rfl, trivial⟩ (by decide) ⟨C4, rfl, rfl, (by simp [hl4]), o4⟩
    · have H1 := cond_f H1 h2; cases H1
  · rintro _ rfl
    refine KW.sub (s' := [(0, .slice p0_0 ((a0).length) c0_0), (1, .int .i64 a1), (2, .int .i64 a2), (3, .int .i64 a3), (4, .func (.func 43) #[] #[]), (10, .bool true), (11, .bool true)]) (h' := [(0, C0_0)]) ?_ ⟨rfl, rfl, rfl, rfl, rfl, rfl, rfl, trivial⟩ ⟨rfl, trivial⟩
    have q0 := Option.some.inj H0
    subst q0
    exact kw_end Tryd.results68 .nil [(0, C0_0)] [0] ⟨0, [], rfl, rfl, trivial⟩ (by decide) ⟨C0_0, rfl, rfl, rfl, ho0_0⟩

set_option maxHeartbeats 4000000 in
set_option maxRecDepth 20000 in
theorem c_slices_SortFunc_Key_of_i_KeysOf_1 (fl : Nat) (w : World) (a0 : (List K)) (p0_0 : Option Addr) (n0_0 c0_0 : Nat) (C0_0 : Res) (hn0_0 : n0_0 = (a0).length) (ho0_0 : OwnC (α := K) 28 p0_0 c0_0 a0 C0_0) (hM : Sat w (hkeys [(0, C0_0)]) w [(0, C0_0)]) (r : (List K)) (H0 : slices_SortFunc_Key_of_i_KeysOf_1 fl a0 = some r) :
    Ct Tryd.prog 42 [.slice p0_0 n0_0 c0_0, .func (.func 43) #[] #[]] w [(0, C0_0)] (fun rv h' => ∃ (D0 : Res), rv = .tuple #[] ∧ h' = [(0, D0)] ∧ n0_0 = (r).length ∧ OwnC (α := K) 28 p0_0 c0_0 r D0) := by
  obtain rfl := hn0_0
  unfold slices_SortFunc_Key_of_i_KeysOf_1 at H0
  refine ct_of_cw Tryd.func42 rfl Tryd.ntmps42 rfl hM ?_
  obtain ⟨x1, e1, H0⟩ := bind_some H0
  obtain ⟨x2, e2, H0⟩ := bind_some H0
  refine sr (oD (mv rfl) rfl (oD (stp_len Tryd.underlying37 rfl) rfl (oD (sg rfl) rfl (nn (cw_region (oD (mv rfl) rfl (oD (mv rfl) rfl (oD (mv rfl) rfl (oD (stp_convU Tryd.underlying3 Tryd.underlying90 rfl e1) rfl (oE (stpU_call (fun i => 1 + i) cf69 (fun w hw => c_math_bits_Len fl w x1 x2 e2) (sevs_cons rfl sevs_nil)) rfl ?_))))))))))
  rintro _ _ ⟨_, ⟨rfl, rfl⟩, rfl⟩
  obtain ⟨x3, e3, H0⟩ := bind_some H0
  refine oD (mv rfl) rfl (oE (stpU_callM (fun i => bif Nat.beq i 0 then 0 else 1 + i) cf68 (fun w hw hb => c_slices_pdqsortCmpFunc_Key_of_i_KeysOf_1 fl w a0 p0_0 ((a0).length) c0_0 C0_0 0 ((a0).length : Int) x2 rfl ho0_0 (hw.pass (js := [0]) ⟨0, [], rfl, rfl, trivial⟩ (by decide)) x3 e3) (sevs_cons rfl (sevs_cons rfl (sevs_cons rfl (sevs_cons rfl (sevs_cons rfl sevs_nil))))) ⟨rfl, (fun _ _ hp => by obtain ⟨_, _, rfl, _⟩ := hp; exact ⟨_, rfl⟩), trivial⟩) rfl ?_)
  rintro _ _ ⟨_, ⟨C4, rfl, rfl, hl4, o4⟩, rfl⟩
  refine ow_nil ?_
  have q0 := Option.some.inj H0
  subst q0
  exact kw_end Tryd.results42 .nil [(0, C4)] [0] ⟨0, [], rfl, rfl, trivial⟩ (by decide) ⟨C4, rfl, rfl, (by simp [hl4]), o4⟩

set_option maxHeartbeats 4000000 in
set_option maxRecDepth 20000 in
theorem c_i_KeysOf (fl : Nat) (w : World) (a0 : T) (p0_0 : Option Addr) (n0_0 c0_0 : Nat) (p0_1 : Option Addr) (n0_1 c0_1 : Nat) (hn0_0 : n0_0 = (a0.b).length) (hr0_0 : RO w (hkeys []) (RdL p0_0 c0_0 a0.b)) (hn0_1 : n0_1 = (a0.f).length) (hr0_1 : RO w (hkeys []) (RdL p0_1 c0_1 a0.f)) (hg : RO w (hkeys []) (fun w' => w'.rangeAt 0 0 [.bool false, .int .i64 0, .int .i64 0, .int .i64 0, .int .i64 (-1)])) (r : (List K)) (H0 : i_KeysOf fl a0 = some r) :
    Ct Tryd.prog 13 [.agg #[.slice p0_0 n0_0 c0_0, .slice p0_1 n0_1 c0_1]] w [] (fun rv h' => ∃ (x0 : Option Addr) (y0 z0 : Nat) (C0 : Res), rv = .slice x0 y0 z0 ∧ h' = [(0, C0)] ∧ y0 = (r).length ∧ OwnC 28 x0 z0 r C0) := by
  obtain rfl := hn0_0
  obtain rfl := hn0_1
  unfold i_KeysOf at H0
  refine ct_of_cw Tryd.func13 rfl Tryd.ntmps13 rfl (Sat.refl _ _) ?_
  refine sr (oE (stpU_box 0 rfl rfl) rfl ?_)
  rintro _ _ ⟨b1, rfl, rfl⟩
  obtain ⟨x2, e2, H0⟩ := bind_some H0
  refine oD (sg rfl) rfl (nn (cw_seq (sr (oD (stp_loadN (us := [_, _]) ts26 rfl (Cells.box (id := 0) rfl 2 rfl)) rfl (oE (stpU_call (fun i => 1 + i) cf20 (fun w hw => c_i_TableValid fl w a0 p0_0 ((a0.b).length) c0_0 p0_1 ((a0.f).length) c0_1 rfl (RO.pass hr0_0 hw) rfl (RO.pass hr0_1 hw) (RO.pass hg hw) x2 e2) (sevs_cons rfl sevs_nil)) rfl ?_)))))
  rintro _ _ ⟨_, ⟨rfl, rfl⟩, rfl⟩
  refine oD (stp_not rfl) rfl (nn (cw_cond rfl (fun h3 => ?_) (fun h3 => ?_)))
  · have H0 := cond_t H0 h3
    refine sr (oD (sg rfl) rfl (nn (cw_ret (kw_nx_ret (kw_addNil 1 ?_)))))
    have q0 := Option.some.inj H0
    subst q0
    exact kw_ret Tryd.results13 (.cons (.tmp rfl) .nil) [(0, [])] [1] ⟨1, [], rfl, rfl, trivial⟩ (by decide) ⟨none, 0, 0, [], rfl, rfl, rfl, (OwnC.nil _ _)⟩
  · have H0 := cond_f H0 h3
    obtain ⟨o0_0, eo0_0, H0⟩ := bind_some H0
    refine cw_skip (kw_nx (sr (oD (sg rfl) rfl (nn (cw_seq (sr (oD (fA 1 Tryd.underlying26 rfl ts24 rfl rfl rfl) rfl (oD (lB 0 ts24 rfl rfl rfl) rfl (oD (stp_len Tryd.underlying24 rfl) rfl (oD (mv rfl) rfl (nn (cw_addNil 2 (cw_join (ι := Int × (List K) × Option Addr × Nat × Nat × Res) (fun | (v4, v5, p6, n7, c8, C9) => o0_0 = .out (v4, v5) ∧ n7 = (v5).length ∧ OwnC (α := K) 28 p6 c8 v5 C9) (fun | (v4, v5, p6, n7, c8, C9) => [(3, .slice p6 n7 c8), (10, .slice p0_1 ((a0.f).length) c0_1), (11, .int .i64 ((a0.f).length : Int)), (12, .int .i64 v4)]) (fun | (v4, v5, p6, n7, c8, C9) => [(1001, C9)]) ?_ ?_)))))))))))))
    · refine cw_block (cw_loopS (ι := Nat × Int × (List K) × Option Addr × Nat × Nat × Res) (js := [2]) (fun x => x.1) (fun | (fuel, v4, v5, p6, n7, c8, C9) => i_KeysOf_L0 fl a0 fuel v4 v5 = some o0_0 ∧ n7 = (v5).length ∧ OwnC (α := K) 28 p6 c8 v5 C9) (fun | (_, v4, v5, p6, n7, c8, C9) => [(3, .slice p6 n7 c8), (10, .slice p0_1 ((a0.f).length) c0_1), (11, .int .i64 ((a0.f).length : Int)), (12, .int .i64 v4)]) (fun | (_, v4, v5, p6, n7, c8, C9) => [(1001, C9)]) (fl, 0, [], none, 0, 0, []) ⟨eo0_0, rfl, (OwnC.nil _ _)⟩ ⟨rfl, rfl, rfl, rfl, trivial⟩ ⟨2, [], rfl, rfl, trivial⟩ (by decide) ?_)
      rintro ⟨fuel, v4, v5, p6, n7, c8, C9⟩ ⟨H1, hnn7, o9⟩
      obtain rfl := hnn7
      have H1 : i_KeysOf_L0 fl a0 fuel v4 v5 = some o0_0 := H1
      rcases fuel with _ | fuel
      · rw [i_KeysOf_L0.eq_1] at H1; cases H1
      rw [i_KeysOf_L0.eq_2] at H1
      refine CW.sub (s' := [(3, .slice p6 ((v5).length) c8), (10, .slice p0_1 ((a0.f).length) c0_1), (11, .int .i64 ((a0.f).length : Int)), (12, .int .i64 v4)]) (h' := [(1001, C9)]) ?_ ⟨rfl, rfl, rfl, rfl, trivial⟩ ⟨rfl, trivial⟩
      refine sr (oD (stp_lss rfl rfl) rfl (nn (cw_seq (cw_cond rfl (fun h10 => ?_) (fun h10 => ?_)))))
      · have H1 := cond_t H1 h10
        obtain ⟨x11, e11, H1⟩ := bind_some H1
        refine cw_skip (kw_nx (cw_seq (cw_block (sr (oD (stp_indexAddr Tryd.underlying24 ts58 (by decide) rfl rfl rfl (Rdb.ro hr0_1) e11) rfl (oD (stp_loadN (us := [_, _, _, _, _]) ts58 rfl (Cells.el (Rdb.ro hr0_1) (by decide) e11 0 5 rfl)) rfl (oE (stpU_alloc 3 tz58 rfl) rfl ?_)))))))
        rintro _ _ ⟨b12, rfl, rfl⟩
        refine oF (stpU_store (id := 3) (cs' := [.bool x11.u, .int .i64 x11.k.s, .int .i64 x11.k.p, .int .i64 x11.r, .int .i64 x11.nx]) ts58 rfl rfl rfl rfl rfl rfl rfl) ?_
        rintro _ _ rfl
        refine nn (sr (oD (fA 0 Tryd.underlying58 rfl ts4 rfl rfl rfl) rfl (oD (lB 3 ts4 rfl rfl rfl) rfl (nn (cw_cond rfl (fun h13 => ?_) (fun h13 => ?_))))))
        · have H1 := cond_t H1 h13
          refine cw_region (oD (mv rfl) rfl (oD (fA 1 Tryd.underlying58 rfl ts28 rfl rfl rfl) rfl (oD (stp_loadN (us := [_, _]) ts28 rfl (Cells.box (id := 3) rfl 2 rfl)) rfl (oE (stpU_lit (sz := 2) (l := [x11.k]) [.agg #[.int .i64 x11.k.s, .int .i64 x11.k.p]] sl37 4 (sevp_cons rfl sevp_nil) rfl rfl rfl rfl rfl rfl rfl rfl rfl) rfl ?_))))
          rintro _ _ ⟨p14, C15, rfl, rfl, o15⟩
          obtain ⟨x16, e16, H1⟩ := bind_some H1
          refine oE (stpU_append sl37 rfl (id := 1001) rfl rfl rfl (by simp) rfl o9 (Rdb.own (id := 4) rfl o15) e16) rfl ?_
          rintro _ _ ⟨p17, c18, C19, rfl, rfl, o19⟩
          obtain ⟨x20, e20, H1⟩ := bind_some H1
          exact oD (sg rfl) rfl (ow_nil (kw_bl_normal (kw_nx (cw_region (oD (stp_add rfl rfl e20) rfl (oD (mv rfl) rfl (ow_nil (kw_lqS (js := [1001]) (fuel, x20, x16, p17, ((x16).length), c18, C19) ⟨H1, rfl, o19⟩ (Nat.lt_succ_self _) ⟨rfl, rfl, rfl, rfl, trivial⟩ ⟨1001, [], rfl, rfl, trivial⟩ (by decide)))))))))
        · have H1 := cond_f H1 h13
          obtain ⟨x21, e21, H1⟩ := bind_some H1
          exact cw_skip (kw_bl_normal (kw_nx (cw_region (oD (stp_add rfl rfl e21) rfl (oD (mv rfl) rfl (ow_nil (kw_lqS (js := [1001]) (fuel, x21, v5, p6, ((v5).length), c8, C9) ⟨H1, rfl, o9⟩ (Nat.lt_succ_self _) ⟨rfl, rfl, rfl, rfl, trivial⟩ ⟨1001, [], rfl, rfl, trivial⟩ (by decide))))))))
      · have H1 := cond_f H1 h10
        refine cw_exit (kw_nx_exit (kw_lq_exit (kw_bl ?_)))
        have q1 := Option.some.inj H1
        subst q1
        exact kw_joinS (js := [1001]) (v4, v5, p6, ((v5).length), c8, C9) ⟨rfl, rfl, o9⟩ ⟨rfl, rfl, rfl, rfl, trivial⟩ ⟨1001, [], rfl, rfl, trivial⟩ (by decide)
    · rintro ⟨v4, v5, p6, n7, c8, C9⟩ ⟨rfl, hnn7, o9⟩
      obtain rfl := hnn7
      refine KW.sub (s' := [(3, .slice p6 ((v5).length) c8), (10, .slice p0_1 ((a0.f).length) c0_1), (11, .int .i64 ((a0.f).length : Int)), (12, .int .i64 v4)]) (h' := [(1001, C9)]) ?_ ⟨rfl, rfl, rfl, rfl, trivial⟩ ⟨rfl, trivial⟩
      obtain ⟨x22, e22, H0⟩ := bind_some H0
      refine kw_nx (sr (oD (mv rfl) rfl (oE (stpU_callM (fun i => bif Nat.beq i 0 then 1001 else 5 + i) cf42 (fun w hw hb => c_slices_SortFunc_Key_of_i_KeysOf_1 fl w v5 p6 ((v5).length) c8 C9 rfl o9 (hw.pass (js := [1001]) ⟨1001, [], rfl, rfl, trivial⟩ (by decide)) x22 e22) (sevs_cons rfl (sevs_cons rfl sevs_nil)) ⟨rfl, (fun _ _ hp => by obtain ⟨_, _, rfl, _⟩ := hp; exact ⟨_, rfl⟩), trivial⟩) rfl ?_)))
      rintro _ _ ⟨_, ⟨C23, rfl, rfl, hl23, o23⟩, rfl⟩
      refine nn (sr (oD (mv rfl) rfl (oE (stpU_call (fun i => i) cf45 (fun w hw => c_clip45 w p6 ((v5).length) c8 (OwnC.lenL o23 (by simp [hl23]))) (sevs_cons rfl sevs_nil)) rfl ?_)))
      rintro _ _ ⟨_, ⟨rfl, rfl⟩, rfl⟩
      refine oD (sg rfl) rfl (nn (cw_ret ?_))
      have q0 := Option.some.inj H0
      subst q0
      exact kw_ret Tryd.results13 (.cons (.tmp rfl) .nil) [(0, C23)] [1001] ⟨1001, [], rfl, rfl, trivial⟩ (by decide) ⟨p6, ((v5).length), ((v5).length), C23, rfl, rfl, (by simp [hl23]), (OwnC.clipL o23 (by simp [hl23]))⟩
end Go.Proofs.YtbhpohopfbcfgaaDoor
