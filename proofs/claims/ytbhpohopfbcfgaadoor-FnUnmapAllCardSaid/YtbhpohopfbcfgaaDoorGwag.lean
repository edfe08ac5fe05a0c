/- The walks: functions of the program return what their pure functions say. Printed by a program (gen.py). -/
import Derived.Test.YtbhpohopfbcfgaaDoorGp
import Derived.Test.YtbhpohopfbcfgaaDoorGt
import Derived.Test.YtbhpohopfbcfgaaDoorMan
import Derived.Test.YtbhpohopfbcfgaaDoorMap
import Derived.Test.YtbhpohopfbcfgaaDoorCpy
import Derived.Test.YtbhpohopfbcfgaaDoorBits
import Derived.Test.YtbhpohopfbcfgaaDoorGwaa
set_option linter.unusedSimpArgs false
set_option linter.unusedVariables false
set_option linter.unusedSectionVars false
namespace Go.Proofs.YtbhpohopfbcfgaaDoor
open Go.RowKit
set_option maxHeartbeats 4000000 in
set_option maxRecDepth 20000 in
theorem c_s_KeyBefore (fl : Nat) (w : World) (a0 : K) (a1 : K) (r : Bool) (H0 : s_KeyBefore fl a0 a1 = some r) :
    Ct Tryd.prog 82 [.agg #[.int .i64 a0.s, .int .i64 a0.p], .agg #[.int .i64 a1.s, .int .i64 a1.p]] w [] (fun rv h' => rv = .bool r ∧ h' = []) := by
  unfold s_KeyBefore at H0
  refine ct_of_cw Tryd.func82 rfl Tryd.ntmps82 rfl (Sat.refl _ _) ?_
  refine sr (oE (stpU_box 0 rfl rfl) rfl ?_)
  rintro _ _ ⟨b1, rfl, rfl⟩
  refine oE (stpU_box 1 rfl rfl) rfl ?_
  rintro _ _ ⟨b2, rfl, rfl⟩
  obtain ⟨y3, ey3, H0⟩ := bind_some H0
  refine oD (sg rfl) rfl (nn (sr (oD (fA 0 Tryd.underlying28 rfl ts3 rfl rfl rfl) rfl (oD (lB 0 ts3 rfl rfl rfl) rfl (oD (fA 0 Tryd.underlying28 rfl ts3 rfl rfl rfl) rfl (oD (lB 1 ts3 rfl rfl rfl) rfl (oD (stp_lss rfl rfl) rfl (oD (mv rfl) rfl (ow_cutY 13 23 y3 ?_ ?_)))))))))
  · rcases Bool.eq_false_or_eq_true (decide (a0.s < a1.s)) with hy3 | hy3
    · have ey3 := cond_t ey3 hy3
      refine oO rfl hy3 rfl (oO rfl hy3 rfl (oO rfl hy3 rfl (oO rfl hy3 rfl (oO rfl hy3 rfl (oO rfl hy3 rfl (oX rfl rfl rfl (oX rfl rfl rfl (oX rfl rfl rfl (oX rfl rfl rfl (oX rfl rfl rfl (oO rfl hy3 rfl (oD (stp_pick_t rfl hy3 rfl) rfl ?_))))))))))))
      obtain rfl := Option.some.inj ey3
      exact ow_nil (jy 13 0)
    · have ey3 := cond_f ey3 hy3
      obtain ⟨y4, ey4, ey3⟩ := bind_some ey3
      refine oG rfl hy3 (fA 0 Tryd.underlying28 rfl ts3 rfl rfl rfl) rfl (oG rfl hy3 (lB 0 ts3 rfl rfl rfl) rfl (oG rfl hy3 (fA 0 Tryd.underlying28 rfl ts3 rfl rfl rfl) rfl (oG rfl hy3 (lB 1 ts3 rfl rfl rfl) rfl (oG rfl hy3 (stp_eql rfl rfl) rfl (oG rfl hy3 (mv rfl) rfl (ow_cutY 6 22 y4 ?_ ?_))))))
      · rcases Bool.eq_false_or_eq_true (a0.s == a1.s) with hy4 | hy4
        · have ey4 := cond_t ey4 hy4
          refine oG rfl hy4 (fA 1 Tryd.underlying28 rfl ts3 rfl rfl rfl) rfl (oG rfl hy4 (lB 0 ts3 rfl rfl rfl) rfl (oG rfl hy4 (fA 1 Tryd.underlying28 rfl ts3 rfl rfl rfl) rfl (oG rfl hy4 (lB 1 ts3 rfl rfl rfl) rfl (oG rfl hy4 (stp_lss rfl rfl) rfl (oG rfl hy3 (stp_pick_t rfl hy4 rfl) rfl ?_)))))
          obtain rfl := Option.some.inj ey4
          exact ow_nil (jy 6 0)
        · have ey4 := cond_f ey4 hy4
          refine oO rfl hy4 rfl (oO rfl hy4 rfl (oO rfl hy4 rfl (oO rfl hy4 rfl (oO rfl hy4 rfl (oG rfl hy3 (stp_pick_f rfl hy4 rfl) rfl ?_)))))
          obtain rfl := Option.some.inj ey4
          exact ow_nil (jy 6 0)
      · refine oD (stp_pick_f rfl hy3 rfl) rfl ?_
        obtain rfl := Option.some.inj ey3
        exact ow_nil (jy 8 0)
  · refine oD (sg rfl) rfl (nn (cw_ret ?_))
    have q0 := Option.some.inj H0
    subst q0
    exact kw_ret Tryd.results82 (.cons (.tmp rfl) .nil) [] [] trivial (by decide) ⟨rfl, rfl⟩

set_option maxHeartbeats 4000000 in
set_option maxRecDepth 20000 in
theorem c_s_KeysOf (fl : Nat) (w : World) (a0 : T) (p0_0 : Option Addr) (n0_0 c0_0 : Nat) (p0_1 : Option Addr) (n0_1 c0_1 : Nat) (hn0_0 : n0_0 = (a0.b).length) (hr0_0 : RO w (hkeys []) (RdL p0_0 c0_0 a0.b)) (hn0_1 : n0_1 = (a0.f).length) (hr0_1 : RO w (hkeys []) (RdL p0_1 c0_1 a0.f)) (r : (List K)) (H0 : s_KeysOf fl a0 = some r) :
    Ct Tryd.prog 70 [.agg #[.slice p0_0 n0_0 c0_0, .slice p0_1 n0_1 c0_1]] w [] (fun rv h' => ∃ (x0 : Option Addr) (y0 z0 : Nat) (C0 : Res), rv = .slice x0 y0 z0 ∧ h' = [(0, C0)] ∧ y0 = (r).length ∧ OwnC 28 x0 z0 r C0) := by
  obtain rfl := hn0_0
  obtain rfl := hn0_1
  unfold s_KeysOf at H0
  refine ct_of_cw Tryd.func70 rfl Tryd.ntmps70 rfl (Sat.refl _ _) ?_
  refine sr (oE (stpU_box 0 rfl rfl) rfl ?_)
  rintro _ _ ⟨b1, rfl, rfl⟩
  refine oD (sg rfl) rfl (nn (sr (oE (stpU_lit0 sl37 1) rfl ?_)))
  rintro _ _ ⟨p2, C3, rfl, rfl, o3⟩
  obtain ⟨o0_0, eo0_0, H0⟩ := bind_some H0
  refine oD (sg rfl) rfl (nn (cw_seq (sr (oD (sg rfl) rfl (nn (cw_join (ι := (List K) × Int × Option Addr × Nat × Nat × Res) (fun | (v4, v9, p5, n6, c7, C8) => o0_0 = .out (v4, v9) ∧ n6 = (v4).length ∧ OwnC (α := K) 28 p5 c7 v4 C8) (fun | (v4, v9, p5, n6, c7, C8) => [(1, .pointer (some ⟨b1, 0, none⟩)), (3, .slice p5 n6 c7), (4, .int .i64 v9)]) (fun | (v4, v9, p5, n6, c7, C8) => [(0, [(b1, .cells #[.slice p0_0 ((a0.b).length) c0_0, .slice p0_1 ((a0.f).length) c0_1] 26 (0, 0))]), (1, C8)]) ?_ ?_))))))
  · refine cw_block (cw_loopS (ι := Nat × (List K) × Int × Option Addr × Nat × Nat × Res) (js := [0, 1]) (fun x => x.1) (fun | (fuel, v4, v9, p5, n6, c7, C8) => s_KeysOf_L0 fl a0 fuel v4 v9 = some o0_0 ∧ n6 = (v4).length ∧ OwnC (α := K) 28 p5 c7 v4 C8) (fun | (_, v4, v9, p5, n6, c7, C8) => [(1, .pointer (some ⟨b1, 0, none⟩)), (3, .slice p5 n6 c7), (4, .int .i64 v9)]) (fun | (_, v4, v9, p5, n6, c7, C8) => [(0, [(b1, .cells #[.slice p0_0 ((a0.b).length) c0_0, .slice p0_1 ((a0.f).length) c0_1] 26 (0, 0))]), (1, C8)]) (fl, ([] : List K), 0, p2, 0, 0, C3) ⟨eo0_0, (by simp), o3⟩ ⟨rfl, rfl, rfl, trivial⟩ ⟨0, [1], rfl, rfl, 1, [], rfl, rfl, trivial⟩ (by decide) ?_)
    rintro ⟨fuel, v4, v9, p5, n6, c7, C8⟩ ⟨H1, hnn6, o8⟩
    obtain rfl := hnn6
    have H1 : s_KeysOf_L0 fl a0 fuel v4 v9 = some o0_0 := H1
    rcases fuel with _ | fuel
    · rw [s_KeysOf_L0.eq_1] at H1; cases H1
    rw [s_KeysOf_L0.eq_2] at H1
    refine CW.sub (s' := [(1, .pointer (some ⟨b1, 0, none⟩)), (3, .slice p5 ((v4).length) c7), (4, .int .i64 v9)]) (h' := [(0, [(b1, .cells #[.slice p0_0 ((a0.b).length) c0_0, .slice p0_1 ((a0.f).length) c0_1] 26 (0, 0))]), (1, C8)]) ?_ ⟨rfl, rfl, rfl, trivial⟩ ⟨rfl, rfl, trivial⟩
    obtain ⟨y10, ey10, H1⟩ := bind_some H1
    refine cw_seq (sr (oD (mv rfl) rfl (oD (fA 1 Tryd.underlying26 rfl ts24 rfl rfl rfl) rfl (oD (lB 0 ts24 rfl rfl rfl) rfl (oD (stp_len Tryd.underlying24 rfl) rfl (oD (stp_lss rfl rfl) rfl (oD (mv rfl) rfl (ow_cutY 3 16 y10 ?_ ?_))))))))
    · rcases Bool.eq_false_or_eq_true (decide (v9 < ((a0.f).length : Int))) with hy10 | hy10
      · have ey10 := cond_t ey10 hy10
        obtain ⟨x11, e11, ey10⟩ := bind_some ey10
        refine oG rfl hy10 (stp_loadN (us := [_, _]) ts26 rfl (Cells.box (id := 0) rfl 2 rfl)) rfl (ow_eff (.some rfl hy10) (stpU_call (fun i => 2 + i) cf33 (fun w hw => c_s_TableValid fl w a0 p0_0 ((a0.b).length) c0_0 p0_1 ((a0.f).length) c0_1 rfl (RO.pass hr0_0 hw) rfl (RO.pass hr0_1 hw) x11 e11) (sevs_cons rfl sevs_nil)) rfl ?_)
        rintro _ _ ⟨_, ⟨rfl, rfl⟩, rfl⟩
        refine oD (stp_pick_t rfl hy10 rfl) rfl ?_
        obtain rfl := Option.some.inj ey10
        exact ow_nil (jy 3 0)
      · have ey10 := cond_f ey10 hy10
        refine oO rfl hy10 rfl (oO rfl hy10 rfl (oD (stp_pick_f rfl hy10 rfl) rfl ?_))
        obtain rfl := Option.some.inj ey10
        exact ow_nil (jy 3 0)
    · refine ow_nil (kw_nx (cw_cond rfl (fun h12 => ?_) (fun h12 => ?_)))
      · have H1 := cond_t H1 h12
        obtain ⟨x13, e13, H1⟩ := bind_some H1
        refine cw_skip (kw_nx (cw_seq (cw_block (cw_seq (sr (oD (fA 1 Tryd.underlying26 rfl ts24 rfl rfl rfl) rfl (oD (lB 0 ts24 rfl rfl rfl) rfl (oD (mv rfl) rfl (oD (stp_indexAddr Tryd.underlying24 ts58 (by decide) rfl rfl rfl (Rdb.ro hr0_1) e13) rfl (oD (fA 0 Tryd.underlying58 rfl ts4 rfl rfl rfl) rfl (oD (stp_load1 ts4 rfl (Cells.el (Rdb.ro hr0_1) (by decide) e13 0 1 rfl)) rfl (oD (stp_not rfl) rfl (nn ?_)))))))))))))
        refine cw_cond rfl (fun h14 => ?_) (fun h14 => ?_)
        · have H1 := cond_t H1 h14
          obtain ⟨x15, e15, H1⟩ := bind_some H1
          exact cw_exit (kw_nx_exit (kw_bl (kw_nx (cw_region (oD (mv rfl) rfl (oD (stp_add rfl rfl e15) rfl (oD (sg rfl) rfl (ow_nil (kw_lqS (js := [0, 1]) (fuel, v4, x15, p5, ((v4).length), c7, C8) ⟨H1, rfl, o8⟩ (Nat.lt_succ_self _) ⟨rfl, rfl, rfl, trivial⟩ ⟨0, [1], rfl, rfl, 1, [], rfl, rfl, trivial⟩ (by decide))))))))))
        · have H1 := cond_f H1 h14
          refine cw_skip (kw_nx (sr (oD (mv rfl) rfl (oD (fA 1 Tryd.underlying26 rfl ts24 rfl rfl rfl) rfl (oD (lB 0 ts24 rfl rfl rfl) rfl (oD (mv rfl) rfl (oD (stp_indexAddr Tryd.underlying24 ts58 (by decide) rfl rfl rfl (Rdb.ro hr0_1) e13) rfl (oD (fA 1 Tryd.underlying58 rfl ts28 rfl rfl rfl) rfl (oD (stp_loadN (us := [_, _]) ts28 rfl (Cells.el (Rdb.ro hr0_1) (by decide) e13 1 2 rfl)) rfl (oE (stpU_lit (sz := 2) (l := [x13.k]) [.agg #[.int .i64 x13.k.s, .int .i64 x13.k.p]] sl37 2 (sevp_cons rfl sevp_nil) rfl rfl rfl rfl rfl rfl rfl rfl rfl) rfl ?_))))))))))
          rintro _ _ ⟨p16, C17, rfl, rfl, o17⟩
          obtain ⟨x18, e18, H1⟩ := bind_some H1
          refine oE (stpU_append sl37 rfl (id := 1) rfl rfl rfl (by simp) rfl o8 (Rdb.own (id := 2) rfl o17) e18) rfl ?_
          rintro _ _ ⟨p19, c20, C21, rfl, rfl, o21⟩
          obtain ⟨x22, e22, H1⟩ := bind_some H1
          obtain ⟨o1_1, eo1_1, H1⟩ := bind_some H1
          refine oD (sg rfl) rfl (nn (sr (oD (mv rfl) rfl (oD (stp_len Tryd.underlying37 rfl) rfl (oD (stp_sub rfl rfl e22) rfl (oD (sg rfl) rfl (nn (cw_join (ι := (List K) × Int × Res) (fun | (v23, v25, C24) => o1_1 = .out (v23, v25) ∧ (x18).length = (v23).length ∧ OwnC (α := K) 28 p19 c20 v23 C24) (fun | (v23, v25, C24) => [(1, .pointer (some ⟨b1, 0, none⟩)), (3, .slice p19 ((x18).length) c20), (4, .int .i64 v9), (5, .int .i64 v25)]) (fun | (v23, v25, C24) => [(0, [(b1, .cells #[.slice p0_0 ((a0.b).length) c0_0, .slice p0_1 ((a0.f).length) c0_1] 26 (0, 0))]), (1, C24)]) ?_ ?_))))))))
          · refine cw_block (cw_loopS (ι := Nat × (List K) × Int × Res) (js := [0, 1]) (fun x => x.1) (fun | (fuel, v23, v25, C24) => s_KeysOf_L1 fl fuel v23 v25 = some o1_1 ∧ (x18).length = (v23).length ∧ OwnC (α := K) 28 p19 c20 v23 C24) (fun | (_, v23, v25, C24) => [(1, .pointer (some ⟨b1, 0, none⟩)), (3, .slice p19 ((x18).length) c20), (4, .int .i64 v9), (5, .int .i64 v25)]) (fun | (_, v23, v25, C24) => [(0, [(b1, .cells #[.slice p0_0 ((a0.b).length) c0_0, .slice p0_1 ((a0.f).length) c0_1] 26 (0, 0))]), (1, C24)]) (fl, x18, x22, C21) ⟨eo1_1, rfl, o21⟩ ⟨rfl, rfl, rfl, rfl, trivial⟩ ⟨0, [1], rfl, rfl, 1, [], rfl, rfl, trivial⟩ (by decide) ?_)
            rintro ⟨fuel, v23, v25, C24⟩ ⟨H2, hl24, o24⟩
            have H2 : s_KeysOf_L1 fl fuel v23 v25 = some o1_1 := H2
            rcases fuel with _ | fuel
            · rw [s_KeysOf_L1.eq_1] at H2; cases H2
            rw [s_KeysOf_L1.eq_2] at H2
            refine CW.sub (s' := [(1, .pointer (some ⟨b1, 0, none⟩)), (3, .slice p19 ((x18).length) c20), (4, .int .i64 v9), (5, .int .i64 v25)]) (h' := [(0, [(b1, .cells #[.slice p0_0 ((a0.b).length) c0_0, .slice p0_1 ((a0.f).length) c0_1] 26 (0, 0))]), (1, C24)]) ?_ ⟨rfl, rfl, rfl, rfl, trivial⟩ ⟨rfl, rfl, trivial⟩
            obtain ⟨y26, ey26, H2⟩ := bind_some H2
            refine cw_seq (cw_seq (cw_join (ι := Unit) (fun | _ => True) (fun | _ => [(1, .pointer (some ⟨b1, 0, none⟩)), (3, .slice p19 ((x18).length) c20), (4, .int .i64 v9), (5, .int .i64 v25), (51, .bool y26)]) (fun | _ => [(0, [(b1, .cells #[.slice p0_0 ((a0.b).length) c0_0, .slice p0_1 ((a0.f).length) c0_1] 26 (0, 0))]), (1, C24)]) ?_ ?_))
            · rcases Bool.eq_false_or_eq_true (decide (0 < v25)) with hy26 | hy26
              · have ey26 := cond_t ey26 hy26
                obtain ⟨x27, e27, ey26⟩ := bind_some ey26
                obtain ⟨x28, e28, ey26⟩ := bind_some ey26
                obtain ⟨x29, e29, ey26⟩ := bind_some ey26
                obtain ⟨x30, e30, ey26⟩ := bind_some ey26
                have qy26 := Option.some.inj ey26
                refine rdr g_mixed [3, 5] [1] { dst := dS [39, 40, 41, 42, 43, 44, 45, 46, 47, 48, 49, 50, 51, 52], pre := gA [] [[], [0], [0, 1], [0, 1, 2], [0, 1, 2], rn 0 5, rn 0 6, [0, 1, 2], [0, 1, 2], [0, 1, 2, 8], [0, 1, 2, 7, 8, 9], [0, 1, 2, 7, 8, 9, 10], rn 0 12, rn 0 13], ids := fun _ => [], rs := rL [[(5, 0)], [(38, 1)], [(39, 2)], [(3, 0), (40, 3)], [(5, 0), (40, 3)], [(41, 4), (42, 5), (40, 3)], [(43, 6), (40, 3)], [(3, 0), (40, 3)], [(5, 0), (40, 3)], [(46, 9), (40, 3)], [(45, 8), (47, 10), (40, 3)], [(48, 11), (40, 3)], [(44, 7), (49, 12), (40, 3)], [(40, 3), (50, 13)]], rh := rL [[], [], [], [], [], [(1, 0)], [(1, 0)], [], [], [], [(1, 0)], [(1, 0)]], V := fun i g => gA undef [.int .i64 v25, .bool (decide (0 < v25)), .bool (decide (0 < v25)), .slice p19 ((x18).length) c20, .int .i64 v25, .pointer (some ⟨eB p19, eO p19 + Int.toNat v25 * Enc.sz K + 0, none⟩), .agg #[.int .i64 x27.s, .int .i64 x27.p], .slice p19 ((x18).length) c20, .int .i64 v25, .int .i64 x28, .pointer (some ⟨eB p19, eO p19 + Int.toNat x28 * Enc.sz K + 0, none⟩), .agg #[.int .i64 x29.s, .int .i64 x29.p], .bool x30, .bool y26] i, U := fun _ _ => [], Φ := fun _ _ => True } ?_ ?_
                · refine ⟨⟨⟨⟨⟨⟨⟨⟨⟨⟨⟨⟨⟨⟨trivial, lc rfl rfl fun hs hh => stp_move (sv hs 5 rfl)⟩, lc rfl rfl fun hs hh => stp_gtr (sv hs 38 rfl) rfl⟩, lc rfl rfl fun hs hh => stp_move (sv hs 39 rfl)⟩, lg rfl rfl 40 hy26 fun hs hh => stp_move (sv hs 3 rfl)⟩, lg rfl rfl 40 hy26 fun hs hh => stp_move (sv hs 5 rfl)⟩, lg rfl rfl 40 hy26 fun hs hh => stp_indexAddr Tryd.underlying37 ts28 (by decide) (sv hs 41 rfl) (by simp [hl24]) (sv hs 42 rfl) (Rdb.own (id := 1) (hh.get 1 _ rfl) o24) e27⟩, lg rfl rfl 40 hy26 fun hs hh => stp_loadN (us := [_, _]) ts28 (sv hs 43 rfl) (Cells.el (Rdb.own (id := 1) (hh.get 1 _ rfl) o24) (by decide) e27 0 2 rfl)⟩, lg rfl rfl 40 hy26 fun hs hh => stp_move (sv hs 3 rfl)⟩, lg rfl rfl 40 hy26 fun hs hh => stp_move (sv hs 5 rfl)⟩, lg rfl rfl 40 hy26 fun hs hh => stp_sub (sv hs 46 rfl) rfl e28⟩, lg rfl rfl 40 hy26 fun hs hh => stp_indexAddr Tryd.underlying37 ts28 (by decide) (sv hs 45 rfl) (by simp [hl24]) (sv hs 47 rfl) (Rdb.own (id := 1) (hh.get 1 _ rfl) o24) e29⟩, lg rfl rfl 40 hy26 fun hs hh => stp_loadN (us := [_, _]) ts28 (sv hs 48 rfl) (Cells.el (Rdb.own (id := 1) (hh.get 1 _ rfl) o24) (by decide) e29 0 2 rfl)⟩, ?_⟩, lc rfl rfl fun hs hh => stp_pick_tB (sv hs 40 rfl) hy26 (sv hs 50 rfl) qy26⟩
                  · refine loc_eff rfl rfl (fun g hΦ s h hs hh => ⟨(.some (gval_of rfl (sv hs 40 rfl)) hy26), (stpU_call (fun i => 3 + i) cf82 (fun w hw => c_s_KeyBefore fl w x27 x29 x30 e30) (sevs_cons (sv hs 44 rfl) (sevs_cons (sv hs 49 rfl) sevs_nil)))⟩) ?_
                    rintro g _ _ ⟨_, ⟨rfl, rfl⟩, rfl⟩
                    exact ⟨⟨[], [], []⟩, trivial, .inr rfl, rfl⟩
                · intro g hΦ
                  exact kw_join () trivial ⟨rfl, rfl, rfl, rfl, rfl, trivial⟩ ⟨rfl, rfl, trivial⟩
              · have ey26 := cond_f ey26 hy26
                have qy26 := Option.some.inj ey26
                refine rdr g_mixed [5] [] { dst := dS [39, 40, 41, 42, 43, 44, 45, 46, 47, 48, 49, 50, 51, 52], pre := gA [] [[], [0], [0, 1], [0, 1, 2], [0, 1, 2], rn 0 5, rn 0 6, [0, 1, 2], [0, 1, 2], [0, 1, 2, 8], [0, 1, 2, 7, 8, 9], [0, 1, 2, 7, 8, 9, 10], rn 0 12, rn 0 13], ids := fun _ => [], rs := rL [[(5, 0)], [(38, 1)], [(39, 2)], [(40, 3)], [(40, 3)], [(40, 3)], [(40, 3)], [(40, 3)], [(40, 3)], [(40, 3)], [(40, 3)], [(40, 3)], [(40, 3)], [(40, 3), (50, 13)]], rh := fun _ => [], V := fun i g => gA undef [.int .i64 v25, .bool (decide (0 < v25)), .bool (decide (0 < v25)), undef, undef, undef, undef, undef, undef, undef, undef, undef, undef, .bool y26] i, U := fun _ _ => [], Φ := fun _ _ => True } ?_ ?_
                · exact ⟨⟨⟨⟨⟨⟨⟨⟨⟨⟨⟨⟨⟨⟨trivial, lc rfl rfl fun hs hh => stp_move (sv hs 5 rfl)⟩, lc rfl rfl fun hs hh => stp_gtr (sv hs 38 rfl) rfl⟩, lc rfl rfl fun hs hh => stp_move (sv hs 39 rfl)⟩, lo rfl rfl 40 hy26⟩, lo rfl rfl 40 hy26⟩, lo rfl rfl 40 hy26⟩, lo rfl rfl 40 hy26⟩, lo rfl rfl 40 hy26⟩, lo rfl rfl 40 hy26⟩, lo rfl rfl 40 hy26⟩, lo rfl rfl 40 hy26⟩, lo rfl rfl 40 hy26⟩, lo rfl rfl 40 hy26⟩, lc rfl rfl fun hs hh => stp_pick_fB (sv hs 40 rfl) hy26 rfl qy26⟩
                · intro g hΦ
                  exact kw_join () trivial ⟨rfl, rfl, rfl, rfl, rfl, trivial⟩ ⟨rfl, rfl, trivial⟩
            · rintro _ -
              refine KW.sub (s' := [(1, .pointer (some ⟨b1, 0, none⟩)), (3, .slice p19 ((x18).length) c20), (4, .int .i64 v9), (5, .int .i64 v25), (51, .bool y26)]) (h' := [(0, [(b1, .cells #[.slice p0_0 ((a0.b).length) c0_0, .slice p0_1 ((a0.f).length) c0_1] 26 (0, 0))]), (1, C24)]) ?_ ⟨rfl, rfl, rfl, rfl, rfl, trivial⟩ ⟨rfl, rfl, trivial⟩
              refine kw_nx (cw_cond rfl (fun h31 => ?_) (fun h31 => ?_))
              · have H2 := cond_t H2 h31
                obtain ⟨x32, e32, H2⟩ := bind_some H2
                refine cw_skip (kw_nx (cw_seq (cw_block (sr (oD (mv rfl) rfl (oD (mv rfl) rfl (oD (stp_indexAddr Tryd.underlying37 ts28 (by decide) rfl (by simp [hl24]) rfl (Rdb.own (id := 1) rfl o24) e32) rfl (oD (stp_loadN (us := [_, _]) ts28 rfl (Cells.el (Rdb.own (id := 1) rfl o24) (by decide) e32 0 2 rfl)) rfl (oE (stpU_alloc 3 tz28 rfl) rfl ?_)))))))))
                rintro _ _ ⟨b33, rfl, rfl⟩
                refine oF (stpU_store (id := 3) (cs' := [.int .i64 x32.s, .int .i64 x32.p]) ts28 rfl rfl rfl rfl rfl rfl rfl) ?_
                rintro _ _ rfl
                obtain ⟨x34, e34, H2⟩ := bind_some H2
                obtain ⟨x35, e35, H2⟩ := bind_some H2
                refine nn (sr (oD (mv rfl) rfl (oD (mv rfl) rfl (oD (mv rfl) rfl (oD (mv rfl) rfl (oD (stp_sub rfl rfl e34) rfl (oD (stp_indexAddr Tryd.underlying37 ts28 (by decide) rfl (by simp [hl24]) rfl (Rdb.own (id := 1) rfl o24) e35) rfl (oD (stp_loadN (us := [_, _]) ts28 rfl (Cells.el (Rdb.own (id := 1) rfl o24) (by decide) e35 0 2 rfl)) rfl (oD (stp_indexAddr Tryd.underlying37 ts28 (by decide) rfl (by simp [hl24]) rfl (Rdb.own (id := 1) rfl o24) e32) rfl (oF (stpU_storeEl (id := 1) (i := 0) x35 (by decide) ts28 rfl rfl rfl o24 e32 rfl rfl rfl rfl) ?_))))))))))
                rintro _ _ ⟨C36, rfl, o36⟩
                obtain ⟨x37, e37, H2⟩ := bind_some H2
                refine nn (cw_region (oD (mv rfl) rfl (oD (mv rfl) rfl (oD (stp_sub rfl rfl e34) rfl (oD (stp_loadN (us := [_, _]) ts28 rfl (Cells.box (id := 3) rfl 2 rfl)) rfl (oD (stp_indexAddr Tryd.underlying37 ts28 (by decide) rfl (by simp [hl24]) rfl (Rdb.own (id := 1) rfl o36) e37) rfl (oF (stpU_storeEl (id := 1) (i := 0) x32 (by decide) ts28 rfl rfl rfl o36 e37 rfl rfl rfl rfl) ?_)))))))
                rintro _ _ ⟨C38, rfl, o38⟩
                exact ow_nil (kw_bl_normal (kw_nx (cw_region (oD (mv rfl) rfl (oD (stp_sub rfl rfl e34) rfl (oD (sg rfl) rfl (ow_nil (kw_lqS (js := [0, 1]) (fuel, ((v23.set (Int.toNat v25) x35).set (Int.toNat x34) x32), x34, C38) ⟨H2, (by simp [hl24]), o38⟩ (Nat.lt_succ_self _) ⟨rfl, rfl, rfl, rfl, trivial⟩ ⟨0, [1], rfl, rfl, 1, [], rfl, rfl, trivial⟩ (by decide)))))))))
              · have H2 := cond_f H2 h31
                refine cw_exit (kw_nx_exit (kw_lq_exit (kw_bl ?_)))
                have q2 := Option.some.inj H2
                subst q2
                exact kw_joinS (js := [0, 1]) (v23, v25, C24) ⟨rfl, (by simp [hl24]), o24⟩ ⟨rfl, rfl, rfl, rfl, trivial⟩ ⟨0, [1], rfl, rfl, 1, [], rfl, rfl, trivial⟩ (by decide)
          · rintro ⟨v23, v25, C24⟩ ⟨rfl, hl24, o24⟩
            refine KW.sub (s' := [(1, .pointer (some ⟨b1, 0, none⟩)), (3, .slice p19 ((x18).length) c20), (4, .int .i64 v9), (5, .int .i64 v25)]) (h' := [(0, [(b1, .cells #[.slice p0_0 ((a0.b).length) c0_0, .slice p0_1 ((a0.f).length) c0_1] 26 (0, 0))]), (1, C24)]) ?_ ⟨rfl, rfl, rfl, rfl, trivial⟩ ⟨rfl, rfl, trivial⟩
            obtain ⟨x39, e39, H1⟩ := bind_some H1
            exact kw_bl_normal (kw_nx (cw_region (oD (mv rfl) rfl (oD (stp_add rfl rfl e39) rfl (oD (sg rfl) rfl (ow_nil (kw_lqS (js := [0, 1]) (fuel, v23, x39, p19, ((x18).length), c20, C24) ⟨H1, (by simp [hl24]), o24⟩ (Nat.lt_succ_self _) ⟨rfl, rfl, rfl, trivial⟩ ⟨0, [1], rfl, rfl, 1, [], rfl, rfl, trivial⟩ (by decide))))))))
      · have H1 := cond_f H1 h12
        refine cw_exit (kw_nx_exit (kw_lq_exit (kw_bl ?_)))
        have q1 := Option.some.inj H1
        subst q1
        exact kw_joinS (js := [0, 1]) (v4, v9, p5, ((v4).length), c7, C8) ⟨rfl, rfl, o8⟩ ⟨rfl, rfl, rfl, trivial⟩ ⟨0, [1], rfl, rfl, 1, [], rfl, rfl, trivial⟩ (by decide)
  · rintro ⟨v4, v9, p5, n6, c7, C8⟩ ⟨rfl, hnn6, o8⟩
    obtain rfl := hnn6
    refine KW.sub (s' := [(1, .pointer (some ⟨b1, 0, none⟩)), (3, .slice p5 ((v4).length) c7), (4, .int .i64 v9)]) (h' := [(0, [(b1, .cells #[.slice p0_0 ((a0.b).length) c0_0, .slice p0_1 ((a0.f).length) c0_1] 26 (0, 0))]), (1, C8)]) ?_ ⟨rfl, rfl, rfl, trivial⟩ ⟨rfl, rfl, trivial⟩
    refine kw_nx (sr (oD (mv rfl) rfl (oD (sg rfl) rfl (nn (cw_ret ?_)))))
    have q0 := Option.some.inj H0
    subst q0
    exact kw_ret Tryd.results70 (.cons (.tmp rfl) .nil) [(0, C8)] [1] ⟨1, [], rfl, rfl, trivial⟩ (by decide) ⟨p5, ((v4).length), c7, C8, rfl, rfl, rfl, o8⟩

set_option maxHeartbeats 4000000 in
set_option maxRecDepth 20000 in
theorem c_s_l3At (fl : Nat) (w : World) (m0 : Nat) (a0_0 : (List UInt8)) (p0_0_0 : Option Addr) (n0_0_0 c0_0_0 : Nat) (a0_1 : Int) (hn0_0_0 : n0_0_0 = (a0_0).length) (hr0_0_0 : RO w (hkeys [(0, [(m0, .cells #[.slice p0_0_0 n0_0_0 c0_0_0, .int .i64 a0_1] 81 (0, 0))])]) (RdL p0_0_0 c0_0_0 a0_0)) (hM : Sat w (hkeys [(0, [(m0, .cells #[.slice p0_0_0 n0_0_0 c0_0_0, .int .i64 a0_1] 81 (0, 0))])]) w [(0, [(m0, .cells #[.slice p0_0_0 n0_0_0 c0_0_0, .int .i64 a0_1] 81 (0, 0))])]) (r : T × K × Int) (H0 : s_l3At fl a0_0 a0_1 = some r) :
    Ct Tryd.prog 46 [.pointer (some ⟨m0, 0, none⟩)] w [(0, [(m0, .cells #[.slice p0_0_0 n0_0_0 c0_0_0, .int .i64 a0_1] 81 (0, 0))])] (fun rv h' => ∃ (x1 : Option Addr) (y1 z1 : Nat) (C1 : Res) (x2 : Option Addr) (y2 z2 : Nat) (C2 : Res), rv = .tuple #[.agg #[.slice x1 y1 z1, .slice x2 y2 z2], .agg #[.int .i64 r.2.1.s, .int .i64 r.2.1.p]] ∧ h' = [(0, [(m0, .cells #[.slice p0_0_0 n0_0_0 c0_0_0, .int .i64 r.2.2] 81 (0, 0))]), (1, C1), (2, C2)] ∧ y1 = (r.1.b).length ∧ OwnC 3 x1 z1 r.1.b C1 ∧ y2 = (r.1.f).length ∧ OwnC 58 x2 z2 r.1.f C2) := by
  obtain rfl := hn0_0_0
  unfold s_l3At at H0
  refine ct_of_cw Tryd.func46 rfl Tryd.ntmps46 rfl hM ?_
  refine sr (oE (stpU_alloc 1 tz26 rfl) rfl ?_)
  rintro _ _ ⟨b1, rfl, rfl⟩
  refine oE (stpU_alloc 2 tz28 rfl) rfl ?_
  rintro _ _ ⟨b2, rfl, rfl⟩
  obtain ⟨x3, e3, H0⟩ := bind_some H0
  refine nn (sr (oD (mv rfl) rfl (oE (stpU_callM (fun i => bif Nat.beq i 0 then 0 else 3 + i) cf24 (fun w hw hb => c_s_l3Draw fl w m0 a0_0 p0_0_0 ((a0_0).length) c0_0_0 a0_1 rfl (RO.passM hr0_0_0 hw hb) (hw.pass (js := [0]) ⟨0, [], rfl, rfl, trivial⟩ (by decide)) x3 e3) (sevs_cons rfl sevs_nil) ⟨rfl, (fun _ _ hp => by obtain ⟨_, _, _, _, _, _, _, _, _, rfl, _⟩ := hp; exact ⟨_, rfl⟩), trivial⟩) rfl ?_)))
  rintro _ _ ⟨_, ⟨p4, n5, c6, C7, p8, n9, c10, C11, rfl, rfl, hnn5, o7, hnn9, o11⟩, rfl⟩
  obtain rfl := hnn5
  obtain rfl := hnn9
  refine oE (stpU_alloc 6 tz26 rfl) rfl ?_
  rintro _ _ ⟨b12, rfl, rfl⟩
  refine oF (stpU_store (id := 6) (cs' := [.slice p4 ((x3.1.b).length) c6, .slice p8 ((x3.1.f).length) c10]) ts26 rfl rfl rfl rfl rfl rfl rfl) ?_
  rintro _ _ rfl
  obtain ⟨x13, e13, H0⟩ := bind_some H0
  refine nn (sr (oD (stp_loadN (us := [_, _]) ts26 rfl (Cells.box (id := 6) rfl 2 rfl)) rfl (oE (stpU_call (fun i => 7 + i) cf70 (fun w hw => c_s_KeysOf fl w x3.1 p4 ((x3.1.b).length) c6 p8 ((x3.1.f).length) c10 rfl (OwnC.pass (id := 4) rfl o7 hw) rfl (OwnC.pass (id := 5) rfl o11 hw) x13 e13) (sevs_cons rfl sevs_nil)) rfl ?_)))
  rintro _ _ ⟨_, ⟨p14, n15, c16, C17, rfl, rfl, hnn15, o17⟩, rfl⟩
  obtain rfl := hnn15
  obtain ⟨x18, e18, H0⟩ := bind_some H0
  refine oD (sg rfl) rfl (nn (sr (oD (mv rfl) rfl (oE (stpU_callM (fun i => bif Nat.beq i 0 then 0 else 8 + i) cf25 (fun w hw hb => c_s_l2Case fl w m0 a0_0 p0_0_0 ((a0_0).length) c0_0_0 x3.2 rfl (RO.passM hr0_0_0 hw hb) (hw.pass (js := [0]) ⟨0, [], rfl, rfl, trivial⟩ (by decide)) x18 e18) (sevs_cons rfl sevs_nil) ⟨rfl, (fun _ _ hp => by obtain ⟨_, rfl⟩ := hp; exact ⟨_, rfl⟩), trivial⟩) rfl ?_))))
  rintro _ _ ⟨_, ⟨rfl, rfl⟩, rfl⟩
  refine oE (stpU_alloc 9 tz28 rfl) rfl ?_
  rintro _ _ ⟨b19, rfl, rfl⟩
  refine oF (stpU_store (id := 9) (cs' := [.int .i64 x18.1.s, .int .i64 x18.1.p]) ts28 rfl rfl rfl rfl rfl rfl rfl) ?_
  rintro _ _ rfl
  obtain ⟨y20, ey20, H0⟩ := bind_some H0
  refine nn (cw_seq (sr (oD (mv rfl) rfl (oD (stp_len Tryd.underlying37 rfl) rfl (oD (stp_gtr rfl rfl) rfl (oD (mv rfl) rfl (ow_cut (ι := Unit) 4 (fun _ => True) (fun _ => [(0, .pointer (some ⟨m0, 0, none⟩)), (2, .pointer (some ⟨b1, 0, none⟩)), (3, .pointer (some ⟨b2, 0, none⟩)), (4, .pointer (some ⟨b12, 0, none⟩)), (5, .slice p14 ((x13).length) c16), (6, .pointer (some ⟨b19, 0, none⟩)), (7, .pointer (some ⟨m0, 0, none⟩)), (8, .agg #[.slice p4 ((x3.1.b).length) c6, .slice p8 ((x3.1.f).length) c10]), (9, .agg #[.slice p4 ((x3.1.b).length) c6, .slice p8 ((x3.1.f).length) c10]), (10, .slice p14 ((x13).length) c16), (11, .pointer (some ⟨m0, 0, none⟩)), (12, .agg #[.int .i64 x18.1.s, .int .i64 x18.1.p]), (13, .slice p14 ((x13).length) c16), (14, .int .i64 ((x13).length : Int)), (15, .bool (decide (0 < ((x13).length : Int)))), (16, .bool (decide (0 < ((x13).length : Int)))), (20, .bool y20.1)]) (fun _ => [(0, [(m0, .cells #[.slice p0_0_0 ((a0_0).length) c0_0_0, .int .i64 y20.2] 81 (0, 0))]), (1, [(b1, .cells #[.slice none 0 0, .slice none 0 0] 26 (0, 0))]), (2, [(b2, .cells #[.int .i64 0, .int .i64 0] 28 (0, 0))]), (4, C7), (5, C11), (6, [(b12, .cells #[.slice p4 ((x3.1.b).length) c6, .slice p8 ((x3.1.f).length) c10] 26 (0, 0))]), (7, C17), (9, [(b19, .cells #[.int .i64 x18.1.s, .int .i64 x18.1.p] 28 (0, 0))])]) ?_ (fun _ _ => ?_))))))))
  · rcases Bool.eq_false_or_eq_true (decide (0 < ((x13).length : Int))) with hy20 | hy20
    · have ey20 := cond_t ey20 hy20
      obtain ⟨x21, e21, ey20⟩ := bind_some ey20
      refine oG rfl hy20 (mv rfl) rfl (ow_eff (.some rfl hy20) (stpU_callM (fun i => bif Nat.beq i 0 then 0 else 10 + i) cf53 (fun w hw hb => c_s_l12Rd_pick fl w m0 a0_0 p0_0_0 ((a0_0).length) c0_0_0 x18.2 3 rfl (RO.passM hr0_0_0 hw hb) (hw.pass (js := [0]) ⟨0, [], rfl, rfl, trivial⟩ (by decide)) x21 e21) (sevs_cons rfl (sevs_cons rfl sevs_nil)) ⟨rfl, (fun _ _ hp => by obtain ⟨_, rfl⟩ := hp; exact ⟨_, rfl⟩), trivial⟩) rfl ?_)
      rintro _ _ ⟨_, ⟨rfl, rfl⟩, rfl⟩
      refine oG rfl hy20 (stp_gtr rfl rfl) rfl (oD (stp_pick_t rfl hy20 rfl) rfl ?_)
      obtain rfl := Option.some.inj ey20
      exact ow_nil (kw_join () trivial ⟨rfl, rfl, rfl, rfl, rfl, rfl, rfl, rfl, rfl, rfl, rfl, rfl, rfl, rfl, rfl, rfl, rfl, trivial⟩ ⟨rfl, rfl, rfl, rfl, rfl, rfl, rfl, rfl, trivial⟩)
    · have ey20 := cond_f ey20 hy20
      refine oO rfl hy20 rfl (oO rfl hy20 rfl (oO rfl hy20 rfl (oD (stp_pick_f rfl hy20 rfl) rfl ?_)))
      obtain rfl := Option.some.inj ey20
      exact ow_nil (kw_join () trivial ⟨rfl, rfl, rfl, rfl, rfl, rfl, rfl, rfl, rfl, rfl, rfl, rfl, rfl, rfl, rfl, rfl, rfl, trivial⟩ ⟨rfl, rfl, rfl, rfl, rfl, rfl, rfl, rfl, trivial⟩)
  · refine ow_nil (kw_nx (cw_cond rfl (fun h22 => ?_) (fun h22 => ?_)))
    · have H0 := cond_t H0 h22
      obtain ⟨x23, e23, H0⟩ := bind_some H0
      refine cw_region (oD (mv rfl) rfl (oD (mv rfl) rfl (oD (mv rfl) rfl (oD (stp_len Tryd.underlying37 rfl) rfl (oE (stpU_callM (fun i => bif Nat.beq i 0 then 0 else 11 + i) cf53 (fun w hw hb => c_s_l12Rd_pick fl w m0 a0_0 p0_0_0 ((a0_0).length) c0_0_0 y20.2 ((x13).length : Int) rfl (RO.passM hr0_0_0 hw hb) (hw.pass (js := [0]) ⟨0, [], rfl, rfl, trivial⟩ (by decide)) x23 e23) (sevs_cons rfl (sevs_cons rfl sevs_nil)) ⟨rfl, (fun _ _ hp => by obtain ⟨_, rfl⟩ := hp; exact ⟨_, rfl⟩), trivial⟩) rfl ?_)))))
      rintro _ _ ⟨_, ⟨rfl, rfl⟩, rfl⟩
      obtain ⟨x24, e24, H0⟩ := bind_some H0
      refine oD (stp_indexAddr Tryd.underlying37 ts28 (by decide) rfl rfl rfl (Rdb.own (id := 7) rfl o17) e24) rfl (oD (stp_loadN (us := [_, _]) ts28 rfl (Cells.el (Rdb.own (id := 7) rfl o17) (by decide) e24 0 2 rfl)) rfl (oF (stpU_store (id := 9) (cs' := [.int .i64 x24.s, .int .i64 x24.p]) ts28 rfl rfl rfl rfl rfl rfl rfl) ?_))
      rintro _ _ rfl
      obtain ⟨x25, e25, H0⟩ := bind_some H0
      refine nn (cw_seq (rdr g_mixed [0, 2, 3, 4, 6] [0, 1, 2, 4, 5, 6, 9] { dst := dS [29, 30, 31, 32, 0, 0], pre := gA [] [[], [], [0, 1], [], [0, 1, 2], rn 0 5], ids := gA [] [[], [], [0, 13, 14], [], [1], [2]], rs := rL [[(0, 0)], [(4, 0)], [(28, 1), (29, 2)], [(6, 0)], [(2, 0), (30, 3)], [(3, 0), (31, 4)]], rh := rL [[], [(6, 0)], [(0, 0), (4, 0), (5, 0)], [(9, 0)], [(1, 0)], [(2, 0)]], V := fun i g => gA undef [.pointer (some ⟨m0, 0, none⟩), .agg #[.slice p4 ((x3.1.b).length) c6, .slice p8 ((x3.1.f).length) c10], .agg #[.slice ((g 2).A 0) ((x25.1.b).length) ((g 2).C 0), .slice ((g 2).A 1) ((x25.1.f).length) ((g 2).C 1)], .agg #[.int .i64 x24.s, .int .i64 x24.p]] i, U := fun i g => gA [] [[], [], [(0, [(m0, .cells #[.slice p0_0_0 ((a0_0).length) c0_0_0, .int .i64 x25.2] 81 (0, 0))]), (13, ((g 2).R 0)), (14, ((g 2).R 1))], [], [(1, [(b1, .cells #[.slice ((g 2).A 0) ((x25.1.b).length) ((g 2).C 0), .slice ((g 2).A 1) ((x25.1.f).length) ((g 2).C 1)] 26 (0, 0))])], [(2, [(b2, .cells #[.int .i64 x24.s, .int .i64 x24.p] 28 (0, 0))])]] i, Φ := fun i x => gA True [True, True, OwnC (α := Int) 3 (x.A 0) (x.C 0) x25.1.b (x.R 0) ∧ OwnC (α := F) 58 (x.A 1) (x.C 1) x25.1.f (x.R 1)] i } ?_ ?_))
      · refine ⟨⟨⟨⟨⟨⟨trivial, lc rfl rfl fun hs hh => stp_move (sv hs 0 rfl)⟩, lc rfl rfl fun hs hh => stp_loadN (us := [_, _]) ts26 (sv hs 4 rfl) (Cells.box (id := 6) (hh.get 6 _ rfl) 2 rfl)⟩, ?_⟩, lc rfl rfl fun hs hh => stp_loadN (us := [_, _]) ts28 (sv hs 6 rfl) (Cells.box (id := 9) (hh.get 9 _ rfl) 2 rfl)⟩, ?_⟩, ?_⟩
        · refine le rfl rfl (fun g hΦ s h hs hh => (stpU_callM (fun i => bif Nat.beq i 0 then 0 else 12 + i) cf23 (fun w hw hb => c_s_l3Wrong fl w m0 a0_0 p0_0_0 ((a0_0).length) c0_0_0 x23.2 x3.1 p4 ((x3.1.b).length) c6 p8 ((x3.1.f).length) c10 rfl (RO.passM hr0_0_0 hw hb) rfl (OwnC.passM (id := 4) (hh.get 4 _ rfl) o7 hw hb ⟨rfl, trivial⟩) rfl (OwnC.passM (id := 5) (hh.get 5 _ rfl) o11 hw hb ⟨rfl, trivial⟩) (hw.pass (js := [0]) ⟨0, [], rfl, (hh.get 0 _ rfl), trivial⟩ (by decide)) x25 e25) (sevs_cons (sv hs 28 rfl) (sevs_cons (sv hs 29 rfl) sevs_nil)) ⟨(hh.get 0 _ rfl), (fun _ _ hp => by obtain ⟨_, _, _, _, _, _, _, _, _, rfl, _⟩ := hp; exact ⟨_, rfl⟩), trivial⟩)) ?_
          rintro g _ _ ⟨_, ⟨p26, n27, c28, C29, p30, n31, c32, C33, rfl, rfl, hnn27, o29, hnn31, o33⟩, rfl⟩
          obtain rfl := hnn27
          obtain rfl := hnn31
          exact ⟨⟨[p26, p30], [c28, c32], [C29, C33]⟩, ⟨o29, o33⟩, .inr rfl, rfl⟩
        · refine le rfl rfl (fun g hΦ s h hs hh => (stpU_store (id := 1) (cs' := [.slice ((g 2).A 0) ((x25.1.b).length) ((g 2).C 0), .slice ((g 2).A 1) ((x25.1.f).length) ((g 2).C 1)]) ts26 (sv hs 2 rfl) (sv hs 30 rfl) (hh.get 1 _ rfl) rfl rfl rfl rfl)) ?_
          rintro g _ _ rfl
          exact ⟨⟨[], [], []⟩, trivial, .inl rfl, rfl⟩
        · refine le rfl rfl (fun g hΦ s h hs hh => (stpU_store (id := 2) (cs' := [.int .i64 x24.s, .int .i64 x24.p]) ts28 (sv hs 3 rfl) (sv hs 31 rfl) (hh.get 2 _ rfl) rfl rfl rfl rfl)) ?_
          rintro g _ _ rfl
          exact ⟨⟨[], [], []⟩, trivial, .inl rfl, rfl⟩
      · intro g hΦ
        refine kw_gen (ι := Option Addr × Option Addr × Nat × Nat × Res × Res) (((g 2).A 0), ((g 2).A 1), ((g 2).C 0), ((g 2).C 1), ((g 2).R 0), ((g 2).R 1)) (fun | (p26, p30, c28, c32, C29, C33) => OwnC (α := Int) 3 p26 c28 x25.1.b C29 ∧ OwnC (α := F) 58 p30 c32 x25.1.f C33) (fun | (p26, p30, c28, c32, C29, C33) => [(2, .pointer (some ⟨b1, 0, none⟩)), (3, .pointer (some ⟨b2, 0, none⟩))]) (fun | (p26, p30, c28, c32, C29, C33) => [(0, [(m0, .cells #[.slice p0_0_0 ((a0_0).length) c0_0_0, .int .i64 x25.2] 81 (0, 0))]), (1, [(b1, .cells #[.slice p26 ((x25.1.b).length) c28, .slice p30 ((x25.1.f).length) c32] 26 (0, 0))]), (2, [(b2, .cells #[.int .i64 x24.s, .int .i64 x24.p] 28 (0, 0))]), (13, C29), (14, C33)]) ⟨(hΦ 2 (by decide)).1, (hΦ 2 (by decide)).2⟩ ⟨rfl, rfl, trivial⟩ ⟨rfl, rfl, rfl, rfl, rfl, trivial⟩ ?_
        rintro ⟨p26, p30, c28, c32, C29, C33⟩ ⟨o29, o33⟩
        refine KW.sub (s' := [(2, .pointer (some ⟨b1, 0, none⟩)), (3, .pointer (some ⟨b2, 0, none⟩))]) (h' := [(0, [(m0, .cells #[.slice p0_0_0 ((a0_0).length) c0_0_0, .int .i64 x25.2] 81 (0, 0))]), (1, [(b1, .cells #[.slice p26 ((x25.1.b).length) c28, .slice p30 ((x25.1.f).length) c32] 26 (0, 0))]), (2, [(b2, .cells #[.int .i64 x24.s, .int .i64 x24.p] 28 (0, 0))]), (13, C29), (14, C33)]) ?_ ⟨rfl, rfl, trivial⟩ ⟨rfl, rfl, rfl, rfl, rfl, trivial⟩
        refine kw_nx (cw_ret ?_)
        have q0 := Option.some.inj H0
        subst q0
        exact kw_ret Tryd.results46 (.cons (.cellN (us := [_, _]) ts26 rfl (Cells.box (id := 1) rfl 2 rfl)) (.cons (.cellN (us := [_, _]) ts28 rfl (Cells.box (id := 2) rfl 2 rfl)) .nil)) [(0, [(m0, .cells #[.slice p0_0_0 ((a0_0).length) c0_0_0, .int .i64 x25.2] 81 (0, 0))]), (1, C29), (2, C33)] [0, 13, 14] ⟨0, [13, 14], rfl, rfl, 13, [14], rfl, rfl, 14, [], rfl, rfl, trivial⟩ (by decide) ⟨p26, ((x25.1.b).length), c28, C29, p30, ((x25.1.f).length), c32, C33, rfl, rfl, rfl, o29, rfl, o33⟩
    · have H0 := cond_f H0 h22
      obtain ⟨x34, e34, H0⟩ := bind_some H0
      refine cw_skip (kw_nx (cw_seq (rdr g_mixed [0, 2, 3, 4, 6] [0, 1, 2, 4, 5, 6, 9] { dst := dS [29, 30, 31, 32, 0, 0], pre := gA [] [[], [], [0, 1], [], [0, 1, 2], rn 0 5], ids := gA [] [[], [], [0, 16, 17], [], [1], [2]], rs := rL [[(0, 0)], [(4, 0)], [(28, 1), (29, 2)], [(6, 0)], [(2, 0), (30, 3)], [(3, 0), (31, 4)]], rh := rL [[], [(6, 0)], [(0, 0), (4, 0), (5, 0)], [(9, 0)], [(1, 0)], [(2, 0)]], V := fun i g => gA undef [.pointer (some ⟨m0, 0, none⟩), .agg #[.slice p4 ((x3.1.b).length) c6, .slice p8 ((x3.1.f).length) c10], .agg #[.slice ((g 2).A 0) ((x34.1.b).length) ((g 2).C 0), .slice ((g 2).A 1) ((x34.1.f).length) ((g 2).C 1)], .agg #[.int .i64 x18.1.s, .int .i64 x18.1.p]] i, U := fun i g => gA [] [[], [], [(0, [(m0, .cells #[.slice p0_0_0 ((a0_0).length) c0_0_0, .int .i64 x34.2] 81 (0, 0))]), (16, ((g 2).R 0)), (17, ((g 2).R 1))], [], [(1, [(b1, .cells #[.slice ((g 2).A 0) ((x34.1.b).length) ((g 2).C 0), .slice ((g 2).A 1) ((x34.1.f).length) ((g 2).C 1)] 26 (0, 0))])], [(2, [(b2, .cells #[.int .i64 x18.1.s, .int .i64 x18.1.p] 28 (0, 0))])]] i, Φ := fun i x => gA True [True, True, OwnC (α := Int) 3 (x.A 0) (x.C 0) x34.1.b (x.R 0) ∧ OwnC (α := F) 58 (x.A 1) (x.C 1) x34.1.f (x.R 1)] i } ?_ ?_)))
      · refine ⟨⟨⟨⟨⟨⟨trivial, lc rfl rfl fun hs hh => stp_move (sv hs 0 rfl)⟩, lc rfl rfl fun hs hh => stp_loadN (us := [_, _]) ts26 (sv hs 4 rfl) (Cells.box (id := 6) (hh.get 6 _ rfl) 2 rfl)⟩, ?_⟩, lc rfl rfl fun hs hh => stp_loadN (us := [_, _]) ts28 (sv hs 6 rfl) (Cells.box (id := 9) (hh.get 9 _ rfl) 2 rfl)⟩, ?_⟩, ?_⟩
        · refine le rfl rfl (fun g hΦ s h hs hh => (stpU_callM (fun i => bif Nat.beq i 0 then 0 else 15 + i) cf23 (fun w hw hb => c_s_l3Wrong fl w m0 a0_0 p0_0_0 ((a0_0).length) c0_0_0 y20.2 x3.1 p4 ((x3.1.b).length) c6 p8 ((x3.1.f).length) c10 rfl (RO.passM hr0_0_0 hw hb) rfl (OwnC.passM (id := 4) (hh.get 4 _ rfl) o7 hw hb ⟨rfl, trivial⟩) rfl (OwnC.passM (id := 5) (hh.get 5 _ rfl) o11 hw hb ⟨rfl, trivial⟩) (hw.pass (js := [0]) ⟨0, [], rfl, (hh.get 0 _ rfl), trivial⟩ (by decide)) x34 e34) (sevs_cons (sv hs 28 rfl) (sevs_cons (sv hs 29 rfl) sevs_nil)) ⟨(hh.get 0 _ rfl), (fun _ _ hp => by obtain ⟨_, _, _, _, _, _, _, _, _, rfl, _⟩ := hp; exact ⟨_, rfl⟩), trivial⟩)) ?_
          rintro g _ _ ⟨_, ⟨p35, n36, c37, C38, p39, n40, c41, C42, rfl, rfl, hnn36, o38, hnn40, o42⟩, rfl⟩
          obtain rfl := hnn36
          obtain rfl := hnn40
          exact ⟨⟨[p35, p39], [c37, c41], [C38, C42]⟩, ⟨o38, o42⟩, .inr rfl, rfl⟩
        · refine le rfl rfl (fun g hΦ s h hs hh => (stpU_store (id := 1) (cs' := [.slice ((g 2).A 0) ((x34.1.b).length) ((g 2).C 0), .slice ((g 2).A 1) ((x34.1.f).length) ((g 2).C 1)]) ts26 (sv hs 2 rfl) (sv hs 30 rfl) (hh.get 1 _ rfl) rfl rfl rfl rfl)) ?_
          rintro g _ _ rfl
          exact ⟨⟨[], [], []⟩, trivial, .inl rfl, rfl⟩
        · refine le rfl rfl (fun g hΦ s h hs hh => (stpU_store (id := 2) (cs' := [.int .i64 x18.1.s, .int .i64 x18.1.p]) ts28 (sv hs 3 rfl) (sv hs 31 rfl) (hh.get 2 _ rfl) rfl rfl rfl rfl)) ?_
          rintro g _ _ rfl
          exact ⟨⟨[], [], []⟩, trivial, .inl rfl, rfl⟩
      · intro g hΦ
        refine kw_gen (ι := Option Addr × Option Addr × Nat × Nat × Res × Res) (((g 2).A 0), ((g 2).A 1), ((g 2).C 0), ((g 2).C 1), ((g 2).R 0), ((g 2).R 1)) (fun | (p35, p39, c37, c41, C38, C42) => OwnC (α := Int) 3 p35 c37 x34.1.b C38 ∧ OwnC (α := F) 58 p39 c41 x34.1.f C42) (fun | (p35, p39, c37, c41, C38, C42) => [(2, .pointer (some ⟨b1, 0, none⟩)), (3, .pointer (some ⟨b2, 0, none⟩))]) (fun | (p35, p39, c37, c41, C38, C42) => [(0, [(m0, .cells #[.slice p0_0_0 ((a0_0).length) c0_0_0, .int .i64 x34.2] 81 (0, 0))]), (1, [(b1, .cells #[.slice p35 ((x34.1.b).length) c37, .slice p39 ((x34.1.f).length) c41] 26 (0, 0))]), (2, [(b2, .cells #[.int .i64 x18.1.s, .int .i64 x18.1.p] 28 (0, 0))]), (16, C38), (17, C42)]) ⟨(hΦ 2 (by decide)).1, (hΦ 2 (by decide)).2⟩ ⟨rfl, rfl, trivial⟩ ⟨rfl, rfl, rfl, rfl, rfl, trivial⟩ ?_
        rintro ⟨p35, p39, c37, c41, C38, C42⟩ ⟨o38, o42⟩
        refine KW.sub (s' := [(2, .pointer (some ⟨b1, 0, none⟩)), (3, .pointer (some ⟨b2, 0, none⟩))]) (h' := [(0, [(m0, .cells #[.slice p0_0_0 ((a0_0).length) c0_0_0, .int .i64 x34.2] 81 (0, 0))]), (1, [(b1, .cells #[.slice p35 ((x34.1.b).length) c37, .slice p39 ((x34.1.f).length) c41] 26 (0, 0))]), (2, [(b2, .cells #[.int .i64 x18.1.s, .int .i64 x18.1.p] 28 (0, 0))]), (16, C38), (17, C42)]) ?_ ⟨rfl, rfl, trivial⟩ ⟨rfl, rfl, rfl, rfl, rfl, trivial⟩
        refine kw_nx (cw_ret ?_)
        have q0 := Option.some.inj H0
        subst q0
        exact kw_ret Tryd.results46 (.cons (.cellN (us := [_, _]) ts26 rfl (Cells.box (id := 1) rfl 2 rfl)) (.cons (.cellN (us := [_, _]) ts28 rfl (Cells.box (id := 2) rfl 2 rfl)) .nil)) [(0, [(m0, .cells #[.slice p0_0_0 ((a0_0).length) c0_0_0, .int .i64 x34.2] 81 (0, 0))]), (1, C38), (2, C42)] [0, 16, 17] ⟨0, [16, 17], rfl, rfl, 16, [17], rfl, rfl, 17, [], rfl, rfl, trivial⟩ (by decide) ⟨p35, ((x34.1.b).length), c37, C38, p39, ((x34.1.f).length), c41, C42, rfl, rfl, rfl, o38, rfl, o42⟩
end Go.Proofs.YtbhpohopfbcfgaaDoor
