/- The walks: functions of the program return what their pure functions say. Printed by a program (gen.py). -/
import Derived.Test.YtbgodaeccgjdgaaGreatDoorGp
import Derived.Test.YtbgodaeccgjdgaaGreatDoorGt
import Derived.Test.YtbgodaeccgjdgaaGreatDoorMan
import Derived.Test.YtbgodaeccgjdgaaGreatDoorMap
import Derived.Test.YtbgodaeccgjdgaaGreatDoorGwaa
import Derived.Test.YtbgodaeccgjdgaaGreatDoorGwab
import Derived.Test.YtbgodaeccgjdgaaGreatDoorGwac
import Derived.Test.YtbgodaeccgjdgaaGreatDoorGws
set_option linter.unusedSimpArgs false
set_option linter.unusedVariables false
set_option linter.unusedSectionVars false
namespace Go.Proofs.YtbgodaeccgjdgaaGreatDoor
open Go.RowKit
set_option maxHeartbeats 4000000 in
set_option maxRecDepth 20000 in
theorem c_s_TakeTag (fl : Nat) (w : World) (a0 : Tg) (p0_0 : Option Addr) (n0_0 c0_0 : Nat) (a1 : Int) (hn0_0 : n0_0 = (a0.o).length) (hr0_0 : RO w (hkeys []) (RdL p0_0 c0_0 a0.o)) (r : Tg × Int × Bool × Bool) (H0 : s_TakeTag fl a0 a1 = some r) :
    Ct Tryz.prog 73 [.agg #[.int .i64 a0.c, .int .i64 a0.n, .int .i64 a0.r, .slice p0_0 n0_0 c0_0], .int .i64 a1] w [] (fun rv h' => ∃ (x0 : Option Addr) (y0 z0 : Nat) (C0 : Res), rv = .tuple #[.agg #[.int .i64 r.1.c, .int .i64 r.1.n, .int .i64 r.1.r, .slice x0 y0 z0], .int .i64 r.2.1, .bool r.2.2.1, .bool r.2.2.2] ∧ h' = [(0, C0)] ∧ y0 = (r.1.o).length ∧ OwnC 148 x0 z0 r.1.o C0) := by
  obtain rfl := hn0_0
  unfold s_TakeTag at H0
  refine ct_of_cw Tryz.func73 rfl Tryz.ntmps73 rfl (Sat.refl _ _) ?_
  refine sr (oE (stpU_box 0 rfl rfl) rfl ?_)
  rintro _ _ ⟨b1, rfl, rfl⟩
  refine oE (stpU_alloc 1 tz45 rfl) rfl ?_
  rintro _ _ ⟨b2, rfl, rfl⟩
  obtain ⟨x3, e3, H0⟩ := bind_some H0
  refine oD (sg rfl) rfl (oD (sg rfl) rfl (oD (sg rfl) rfl (nn (cw_seq (sr (oD (stp_loadN (us := [_, _, _, _]) ts45 rfl (Cells.box (id := 0) rfl 4 rfl)) rfl (oE (stpU_call (fun i => 2 + i) cf126 (fun w hw => c_s_TagsValid fl w a0 p0_0 ((a0.o).length) c0_0 rfl (RO.pass hr0_0 hw) x3 e3) (sevs_cons rfl sevs_nil)) rfl ?_)))))))
  rintro _ _ ⟨_, ⟨rfl, rfl⟩, rfl⟩
  obtain ⟨y4, ey4, H0⟩ := bind_some H0
  refine oD (stp_not rfl) rfl (oD (mv rfl) rfl (ow_cutY 4 19 y4 ?_ ?_))
  · rcases Bool.eq_false_or_eq_true (!x3) with hy4 | hy4
    · have ey4 := cond_t ey4 hy4
      refine oO rfl hy4 rfl (oO rfl hy4 rfl (oO rfl hy4 rfl (oD (stp_pick_t rfl hy4 rfl) rfl ?_)))
      obtain rfl := Option.some.inj ey4
      exact ow_nil (jy 4 0)
    · have ey4 := cond_f ey4 hy4
      obtain ⟨x5, e5, ey4⟩ := bind_some ey4
      refine oG rfl hy4 (mv rfl) rfl (ow_eff (.some rfl hy4) (stpU_call (fun i => 2 + i) cf162 (fun w hw => c_s_l1Space fl w a1 x5 e5) (sevs_cons rfl sevs_nil)) rfl ?_)
      rintro _ _ ⟨_, ⟨rfl, rfl⟩, rfl⟩
      refine oG rfl hy4 (stp_not rfl) rfl (oD (stp_pick_f rfl hy4 rfl) rfl ?_)
      obtain rfl := Option.some.inj ey4
      exact ow_nil (jy 4 0)
  · refine ow_nil (kw_nx (cw_cond rfl (fun h6 => ?_) (fun h6 => ?_)))
    · have H0 := cond_t H0 h6
      refine sr (oD (stp_build (cs := #[.int .i64 0, .int .i64 0, .int .i64 0, .slice none 0 0]) sevp_nil bt45_10) rfl (oF (stpU_store (id := 1) (cs' := [.int .i64 0, .int .i64 0, .int .i64 0, .slice none 0 0]) ts45 rfl rfl rfl rfl rfl rfl rfl) ?_))
      rintro _ _ rfl
      refine oD (sg rfl) rfl (oD (sg rfl) rfl (oD (sg rfl) rfl (nn (cw_ret (kw_nx_ret (kw_addNil 2 ?_))))))
      have q0 := Option.some.inj H0
      subst q0
      exact kw_ret Tryz.results73 (.cons (.cellN (us := [_, _, _, _]) ts45 rfl (Cells.box (id := 1) rfl 4 rfl)) (.cons (.tmp rfl) (.cons (.tmp rfl) (.cons (.tmp rfl) .nil)))) [(0, [])] [2] ⟨2, [], rfl, rfl, trivial⟩ (by decide) ⟨none, 0, 0, [], rfl, rfl, rfl, (OwnC.nil _ _)⟩
    · have H0 := cond_f H0 h6
      obtain ⟨x7, e7, H0⟩ := bind_some H0
      refine cw_skip (kw_nx (sr (oD (stp_loadN (us := [_, _, _, _]) ts45 rfl (Cells.box (id := 0) rfl 4 rfl)) rfl (oE (stpU_call (fun i => 3 + i) cf133 (fun w hw => c_s_l5Copy fl w a0 p0_0 ((a0.o).length) c0_0 rfl (RO.pass hr0_0 hw) x7 e7) (sevs_cons rfl sevs_nil)) rfl ?_))))
      rintro _ _ ⟨_, ⟨p8, n9, c10, C11, rfl, rfl, hnn9, o11⟩, rfl⟩
      obtain rfl := hnn9
      refine oE (stpU_alloc 4 tz45 rfl) rfl ?_
      rintro _ _ ⟨b12, rfl, rfl⟩
      refine oF (stpU_store (id := 4) (cs' := [.int .i64 x7.c, .int .i64 x7.n, .int .i64 x7.r, .slice p8 ((x7.o).length) c10]) ts45 rfl rfl rfl rfl rfl rfl rfl) ?_
      rintro _ _ rfl
      obtain ⟨x13, e13, H0⟩ := bind_some H0
      refine nn (sr (oD (stp_loadN (us := [_, _, _, _]) ts45 rfl (Cells.box (id := 0) rfl 4 rfl)) rfl (oD (mv rfl) rfl (oE (stpU_call (fun i => 5 + i) cf127 (fun w hw => c_s_l5Find fl w a0 p0_0 ((a0.o).length) c0_0 a1 rfl (RO.pass hr0_0 hw) x13 e13) (sevs_cons rfl (sevs_cons rfl sevs_nil))) rfl ?_))))
      rintro _ _ ⟨_, ⟨rfl, rfl⟩, rfl⟩
      refine oD (sg rfl) rfl (nn (cw_seq (sr (oD (mv rfl) rfl (oD (stp_geq rfl rfl) rfl (nn (cw_cond rfl (fun h14 => ?_) (fun h14 => ?_))))))))
      · have H0 := cond_t H0 h14
        obtain ⟨x15, e15, H0⟩ := bind_some H0
        refine cw_seq (rdr g_mixed [2, 4, 8, 9] [0, 1, 4] { dst := dS [29, 30, 31, 32, 33, 34, 35, 0, 6, 7, 8], pre := gA [] [[], [], [1], [], [1, 2, 3], rn 1 4, rn 1 5, [0], rn 0 8, rn 0 9, rn 0 10], ids := gA [] [[], [], [], [], [], [], [], [1]], rs := rL [[(8, 0)], [(2, 0)], [(29, 2)], [(9, 0)], [(30, 3), (31, 4)], [(32, 5)], [(33, 6)], [(4, 0), (28, 1)], [(34, 7)], [], []], rh := rL [[(4, 0)], [], [(0, 0)], [], [], [], [], [(1, 0)]], V := fun i g => gA undef [.agg #[.int .i64 x7.c, .int .i64 x7.n, .int .i64 x7.r, .slice p8 ((x7.o).length) c10], .pointer (some ⟨b1, 3, none⟩), .slice p0_0 ((a0.o).length) c0_0, .int .i64 x13, .pointer (some ⟨eB p0_0, eO p0_0 + Int.toNat x13 * Enc.sz Ow + 0, none⟩), .pointer (some ⟨eB p0_0, eO p0_0 + Int.toNat x13 * Enc.sz Ow + 1, none⟩), .int .i64 x15.tg, undef, .int .i64 x15.tg, .bool false, .bool true] i, U := fun i g => match i with | 7 => [(1, [(b2, .cells #[.int .i64 x7.c, .int .i64 x7.n, .int .i64 x7.r, .slice p8 ((x7.o).length) c10] 45 (0, 0))])] | _ => [], Φ := fun _ _ => True } ?_ ?_)
        · refine ⟨⟨⟨⟨⟨⟨⟨⟨⟨⟨⟨trivial, lc rfl rfl fun hs hh => stp_loadN (us := [_, _, _, _]) ts45 (sv hs 8 rfl) (Cells.box (id := 4) (hh.get 4 _ rfl) 4 rfl)⟩, lc rfl rfl fun hs hh => stp_fieldAddr (j := 3) Tryz.underlying45 rfl ts43 rfl (sv hs 2 rfl) rfl⟩, lc rfl rfl fun hs hh => stp_load1 ts43 (sv hs 29 rfl) (Cells.box (id := 0) (hh.get 0 _ rfl) 1 rfl)⟩, lc rfl rfl fun hs hh => stp_move (sv hs 9 rfl)⟩, lc rfl rfl fun hs hh => stp_indexAddr Tryz.underlying43 ts148 (by decide) (sv hs 30 rfl) rfl (sv hs 31 rfl) (Rdb.ro hr0_0) e15⟩, lc rfl rfl fun hs hh => stp_fieldAddr (j := 1) Tryz.underlying148 rfl ts3 rfl (sv hs 32 rfl) rfl⟩, lc rfl rfl fun hs hh => stp_load1 ts3 (sv hs 33 rfl) (Cells.el (Rdb.ro hr0_0) (by decide) e15 1 1 rfl)⟩, ?_⟩, lc rfl rfl fun hs hh => stp_assign (sv hs 34 rfl)⟩, lc rfl rfl fun hs hh => stp_assign rfl⟩, lc rfl rfl fun hs hh => stp_assign rfl⟩
          · refine le rfl rfl (fun g hΦ s h hs hh => (stpU_store (id := 1) (cs' := [.int .i64 x7.c, .int .i64 x7.n, .int .i64 x7.r, .slice p8 ((x7.o).length) c10]) ts45 (sv hs 4 rfl) (sv hs 28 rfl) (hh.get 1 _ rfl) rfl rfl rfl rfl)) ?_
            rintro g _ _ rfl
            exact ⟨⟨[], [], []⟩, trivial, .inl rfl, rfl⟩
        · intro g hΦ
          refine KW.sub (s' := [(4, .pointer (some ⟨b2, 0, none⟩)), (5, .int .i64 x15.tg), (6, .bool false), (7, .bool true)]) (h' := [(1, [(b2, .cells #[.int .i64 x7.c, .int .i64 x7.n, .int .i64 x7.r, .slice p8 ((x7.o).length) c10] 45 (0, 0))]), (3, C11)]) ?_ ⟨rfl, rfl, rfl, rfl, trivial⟩ ⟨rfl, rfl, trivial⟩
          refine kw_nx (cw_ret (kw_nx_ret ?_))
          have q0 := Option.some.inj H0
          subst q0
          exact kw_ret Tryz.results73 (.cons (.cellN (us := [_, _, _, _]) ts45 rfl (Cells.box (id := 1) rfl 4 rfl)) (.cons (.tmp rfl) (.cons (.tmp rfl) (.cons (.tmp rfl) .nil)))) [(0, C11)] [3] ⟨3, [], rfl, rfl, trivial⟩ (by decide) ⟨p8, ((x7.o).length), c10, C11, rfl, rfl, rfl, o11⟩
      · have H0 := cond_f H0 h14
        refine cw_skip (kw_nx (sr (oD (fA 1 Tryz.underlying45 rfl ts3 rfl rfl rfl) rfl (oD (lB 0 ts3 rfl rfl rfl) rfl (oD (fA 0 Tryz.underlying45 rfl ts3 rfl rfl rfl) rfl (oD (lB 0 ts3 rfl rfl rfl) rfl (oD (stp_eql rfl rfl) rfl (oD (sg rfl) rfl (nn (cw_seq (sr (oD (mv rfl) rfl (nn ?_)))))))))))))
        refine cw_cond rfl (fun h16 => ?_) (fun h16 => ?_)
        · have H0 := cond_t H0 h16
          obtain ⟨x17, e17, H0⟩ := bind_some H0
          refine cw_region (oD (fA 0 Tryz.underlying45 rfl ts3 rfl rfl rfl) rfl (oD (lB 0 ts3 rfl rfl rfl) rfl (oD (fA 2 Tryz.underlying45 rfl ts3 rfl rfl rfl) rfl (oD (lB 0 ts3 rfl rfl rfl) rfl (oD (stp_add rfl rfl e17) rfl (oE (stpU_lit0 sl43 5) rfl ?_))))))
          rintro _ _ ⟨p18, C19, rfl, rfl, o19⟩
          refine oD (stp_build (cs := #[.int .i64 a0.c, .int .i64 0, .int .i64 x17, .slice p18 0 0]) (sevp_cons rfl (sevp_cons rfl (sevp_cons rfl sevp_nil))) bt45_11) rfl (oF (stpU_store (id := 4) (cs' := [.int .i64 a0.c, .int .i64 0, .int .i64 x17, .slice p18 0 0]) ts45 rfl rfl rfl rfl rfl rfl rfl) ?_)
          rintro _ _ rfl
          refine nn (cw_seq (sr (oD (fA 2 Tryz.underlying45 rfl ts3 rfl rfl rfl) rfl (oD (lB 4 ts3 rfl rfl rfl) rfl (oD (stp_gtr rfl rfl) rfl (nn (cw_cond rfl (fun h20 => ?_) (fun h20 => ?_))))))))
          · have H0 := cond_t H0 h20
            refine sr (oD (stp_build (cs := #[.int .i64 0, .int .i64 0, .int .i64 0, .slice none 0 0]) sevp_nil bt45_10) rfl (oF (stpU_store (id := 1) (cs' := [.int .i64 0, .int .i64 0, .int .i64 0, .slice none 0 0]) ts45 rfl rfl rfl rfl rfl rfl rfl) ?_))
            rintro _ _ rfl
            refine oD (sg rfl) rfl (oD (sg rfl) rfl (oD (sg rfl) rfl (nn (cw_ret (kw_nx_ret (kw_addNil 6 ?_))))))
            have q0 := Option.some.inj H0
            subst q0
            exact kw_ret Tryz.results73 (.cons (.cellN (us := [_, _, _, _]) ts45 rfl (Cells.box (id := 1) rfl 4 rfl)) (.cons (.tmp rfl) (.cons (.tmp rfl) (.cons (.tmp rfl) .nil)))) [(0, [])] [6] ⟨6, [], rfl, rfl, trivial⟩ (by decide) ⟨none, 0, 0, [], rfl, rfl, rfl, (OwnC.nil _ _)⟩
          · have H0 := cond_f H0 h20
            refine cw_skip (kw_nx (sr (oD (fA 1 Tryz.underlying45 rfl ts3 rfl rfl rfl) rfl (oD (lB 4 ts3 rfl rfl rfl) rfl (oD (sg rfl) rfl (nn (sr (oD (fA 3 Tryz.underlying45 rfl ts43 rfl rfl rfl) rfl (oD (lB 4 ts43 rfl rfl rfl) rfl (oD (mv rfl) rfl (oD (mv rfl) rfl (oD (stp_build (cs := #[.int .i64 a1, .int .i64 0]) (sevp_cons rfl (sevp_cons rfl sevp_nil)) bt148_12) rfl (oE (stpU_lit (sz := 2) (l := [(⟨a1, 0⟩ : Ow)]) [.agg #[.int .i64 a1, .int .i64 0]] sl43 7 (sevp_cons rfl sevp_nil) rfl rfl rfl rfl rfl rfl rfl rfl rfl) rfl ?_)))))))))))))
            rintro _ _ ⟨p21, C22, rfl, rfl, o22⟩
            obtain ⟨x23, e23, H0⟩ := bind_some H0
            refine oE (stpU_append sl43 rfl (id := 5) rfl (by simp) rfl (by simp) rfl o19 (Rdb.own (id := 7) rfl o22) e23) rfl ?_
            rintro _ _ ⟨p24, c25, C26, rfl, rfl, o26⟩
            refine oD (fA 3 Tryz.underlying45 rfl ts43 rfl rfl rfl) rfl (oF (stpU_store (id := 4) (cs' := [.int .i64 a0.c, .int .i64 0, .int .i64 x17, .slice p24 ((x23).length) c25]) ts43 rfl rfl rfl rfl rfl rfl rfl) ?_)
            rintro _ _ rfl
            obtain ⟨x27, e27, H0⟩ := bind_some H0
            refine nn (sr (oD (mv rfl) rfl (oD (stp_add rfl rfl e27) rfl (oD (fA 1 Tryz.underlying45 rfl ts3 rfl rfl rfl) rfl (oF (stpU_store (id := 4) (cs' := [.int .i64 a0.c, .int .i64 x27, .int .i64 x17, .slice p24 ((x23).length) c25]) ts3 rfl rfl rfl rfl rfl rfl rfl) ?_)))))
            rintro _ _ rfl
            refine nn (sr (oD (stp_loadN (us := [_, _, _, _]) ts45 rfl (Cells.box (id := 4) rfl 4 rfl)) rfl (oD (mv rfl) rfl (oD (mv rfl) rfl (oF (stpU_store (id := 1) (cs' := [.int .i64 a0.c, .int .i64 x27, .int .i64 x17, .slice p24 ((x23).length) c25]) ts45 rfl rfl rfl rfl rfl rfl rfl) ?_)))))
            rintro _ _ rfl
            refine oD (sg rfl) rfl (oD (sg rfl) rfl (oD (sg rfl) rfl (nn (cw_ret ?_))))
            have q0 := Option.some.inj H0
            subst q0
            exact kw_ret Tryz.results73 (.cons (.cellN (us := [_, _, _, _]) ts45 rfl (Cells.box (id := 1) rfl 4 rfl)) (.cons (.tmp rfl) (.cons (.tmp rfl) (.cons (.tmp rfl) .nil)))) [(0, C26)] [5] ⟨5, [], rfl, rfl, trivial⟩ (by decide) ⟨p24, ((x23).length), c25, C26, rfl, rfl, rfl, o26⟩
        · have H0 := cond_f H0 h16
          refine cw_skip (kw_nx (cw_seq (sr (oD (fA 2 Tryz.underlying45 rfl ts3 rfl rfl rfl) rfl (oD (lB 4 ts3 rfl rfl rfl) rfl (oD (stp_gtr rfl rfl) rfl (nn (cw_cond rfl (fun h28 => ?_) (fun h28 => ?_)))))))))
          · have H0 := cond_t H0 h28
            refine sr (oD (stp_build (cs := #[.int .i64 0, .int .i64 0, .int .i64 0, .slice none 0 0]) sevp_nil bt45_10) rfl (oF (stpU_store (id := 1) (cs' := [.int .i64 0, .int .i64 0, .int .i64 0, .slice none 0 0]) ts45 rfl rfl rfl rfl rfl rfl rfl) ?_))
            rintro _ _ rfl
            refine oD (sg rfl) rfl (oD (sg rfl) rfl (oD (sg rfl) rfl (nn (cw_ret (kw_nx_ret (kw_addNil 8 ?_))))))
            have q0 := Option.some.inj H0
            subst q0
            exact kw_ret Tryz.results73 (.cons (.cellN (us := [_, _, _, _]) ts45 rfl (Cells.box (id := 1) rfl 4 rfl)) (.cons (.tmp rfl) (.cons (.tmp rfl) (.cons (.tmp rfl) .nil)))) [(0, [])] [8] ⟨8, [], rfl, rfl, trivial⟩ (by decide) ⟨none, 0, 0, [], rfl, rfl, rfl, (OwnC.nil _ _)⟩
          · have H0 := cond_f H0 h28
            refine cw_skip (kw_nx (sr (oD (fA 1 Tryz.underlying45 rfl ts3 rfl rfl rfl) rfl (oD (lB 4 ts3 rfl rfl rfl) rfl (oD (sg rfl) rfl (nn (sr (oD (fA 3 Tryz.underlying45 rfl ts43 rfl rfl rfl) rfl (oD (lB 4 ts43 rfl rfl rfl) rfl (oD (mv rfl) rfl (oD (mv rfl) rfl (oD (stp_build (cs := #[.int .i64 a1, .int .i64 x7.n]) (sevp_cons rfl (sevp_cons rfl sevp_nil)) bt148_12) rfl (oE (stpU_lit (sz := 2) (l := [(⟨a1, x7.n⟩ : Ow)]) [.agg #[.int .i64 a1, .int .i64 x7.n]] sl43 9 (sevp_cons rfl sevp_nil) rfl rfl rfl rfl rfl rfl rfl rfl rfl) rfl ?_)))))))))))))
            rintro _ _ ⟨p29, C30, rfl, rfl, o30⟩
            obtain ⟨x31, e31, H0⟩ := bind_some H0
            refine oE (stpU_append sl43 rfl (id := 3) rfl rfl rfl (by simp) rfl o11 (Rdb.own (id := 9) rfl o30) e31) rfl ?_
            rintro _ _ ⟨p32, c33, C34, rfl, rfl, o34⟩
            refine oD (fA 3 Tryz.underlying45 rfl ts43 rfl rfl rfl) rfl (oF (stpU_store (id := 4) (cs' := [.int .i64 x7.c, .int .i64 x7.n, .int .i64 x7.r, .slice p32 ((x31).length) c33]) ts43 rfl rfl rfl rfl rfl rfl rfl) ?_)
            rintro _ _ rfl
            obtain ⟨x35, e35, H0⟩ := bind_some H0
            refine nn (sr (oD (mv rfl) rfl (oD (stp_add rfl rfl e35) rfl (oD (fA 1 Tryz.underlying45 rfl ts3 rfl rfl rfl) rfl (oF (stpU_store (id := 4) (cs' := [.int .i64 x7.c, .int .i64 x35, .int .i64 x7.r, .slice p32 ((x31).length) c33]) ts3 rfl rfl rfl rfl rfl rfl rfl) ?_)))))
            rintro _ _ rfl
            refine nn (sr (oD (stp_loadN (us := [_, _, _, _]) ts45 rfl (Cells.box (id := 4) rfl 4 rfl)) rfl (oD (mv rfl) rfl (oD (mv rfl) rfl (oF (stpU_store (id := 1) (cs' := [.int .i64 x7.c, .int .i64 x35, .int .i64 x7.r, .slice p32 ((x31).length) c33]) ts45 rfl rfl rfl rfl rfl rfl rfl) ?_)))))
            rintro _ _ rfl
            refine oD (sg rfl) rfl (oD (sg rfl) rfl (oD (sg rfl) rfl (nn (cw_ret ?_))))
            have q0 := Option.some.inj H0
            subst q0
            exact kw_ret Tryz.results73 (.cons (.cellN (us := [_, _, _, _]) ts45 rfl (Cells.box (id := 1) rfl 4 rfl)) (.cons (.tmp rfl) (.cons (.tmp rfl) (.cons (.tmp rfl) .nil)))) [(0, C34)] [3] ⟨3, [], rfl, rfl, trivial⟩ (by decide) ⟨p32, ((x31).length), c33, C34, rfl, rfl, rfl, o34⟩

set_option maxHeartbeats 4000000 in
set_option maxRecDepth 20000 in
theorem c_s_l6Fresh (fl : Nat) (w : World) (a0 : Ca) (p0_0 : Option Addr) (n0_0 c0_0 : Nat) (hn0_0 : n0_0 = (a0.l).length) (hr0_0 : RO w (hkeys []) (RdL p0_0 c0_0 a0.l)) (r : Ca) (H0 : s_l6Fresh fl a0 = some r) :
    Ct Tryz.prog 74 [.agg #[.slice p0_0 n0_0 c0_0, .int .i64 a0.h]] w [] (fun rv h' => ∃ (x0 : Option Addr) (y0 z0 : Nat) (C0 : Res), rv = .agg #[.slice x0 y0 z0, .int .i64 r.h] ∧ h' = [(0, C0)] ∧ y0 = (r.l).length ∧ OwnC 112 x0 z0 r.l C0) := by
  obtain rfl := hn0_0
  unfold s_l6Fresh at H0
  refine ct_of_cw Tryz.func74 rfl Tryz.ntmps74 rfl (Sat.refl _ _) ?_
  refine sr (oE (stpU_box 0 rfl rfl) rfl ?_)
  rintro _ _ ⟨b1, rfl, rfl⟩
  refine oE (stpU_alloc 1 tz42 rfl) rfl ?_
  rintro _ _ ⟨b2, rfl, rfl⟩
  obtain ⟨x3, e3, H0⟩ := bind_some H0
  refine nn (sr (oD (stp_loadN (us := [_, _]) ts42 rfl (Cells.box (id := 0) rfl 2 rfl)) rfl (oE (stpU_call (fun i => 2 + i) cf132 (fun w hw => c_s_l4Copy fl w a0 p0_0 ((a0.l).length) c0_0 rfl (RO.pass hr0_0 hw) x3 e3) (sevs_cons rfl sevs_nil)) rfl ?_)))
  rintro _ _ ⟨_, ⟨p4, n5, c6, C7, rfl, rfl, hnn5, o7⟩, rfl⟩
  obtain rfl := hnn5
  refine oE (stpU_alloc 3 tz42 rfl) rfl ?_
  rintro _ _ ⟨b8, rfl, rfl⟩
  refine oF (stpU_store (id := 3) (cs' := [.slice p4 ((x3.l).length) c6, .int .i64 x3.h]) ts42 rfl rfl rfl rfl rfl rfl rfl) ?_
  rintro _ _ rfl
  obtain ⟨o0_0, eo0_0, H0⟩ := bind_some H0
  refine nn (cw_seq (sr (oD (sg rfl) rfl (nn (cw_join (ι := (List Ln) × Int × Res) (fun | (v9, v11, C10) => o0_0 = .out (v9, v11) ∧ (x3.l).length = (v9).length ∧ OwnC (α := Ln) 112 p4 c6 v9 C10) (fun | (v9, v11, C10) => [(2, .pointer (some ⟨b2, 0, none⟩)), (3, .pointer (some ⟨b8, 0, none⟩)), (4, .int .i64 v11)]) (fun | (v9, v11, C10) => [(1, [(b2, .cells #[.slice none 0 0, .int .i64 0] 42 (0, 0))]), (2, C10), (3, [(b8, .cells #[.slice p4 ((x3.l).length) c6, .int .i64 x3.h] 42 (0, 0))])]) ?_ ?_)))))
  · refine cw_block (cw_loopS (ι := Nat × (List Ln) × Int × Res) (js := [1, 2, 3]) (fun x => x.1) (fun | (fuel, v9, v11, C10) => s_l6Fresh_L0 fl x3 fuel v9 v11 = some o0_0 ∧ (x3.l).length = (v9).length ∧ OwnC (α := Ln) 112 p4 c6 v9 C10) (fun | (_, v9, v11, C10) => [(2, .pointer (some ⟨b2, 0, none⟩)), (3, .pointer (some ⟨b8, 0, none⟩)), (4, .int .i64 v11)]) (fun | (_, v9, v11, C10) => [(1, [(b2, .cells #[.slice none 0 0, .int .i64 0] 42 (0, 0))]), (2, C10), (3, [(b8, .cells #[.slice p4 ((x3.l).length) c6, .int .i64 x3.h] 42 (0, 0))])]) (fl, x3.l, 0, C7) ⟨eo0_0, rfl, o7⟩ ⟨rfl, rfl, rfl, trivial⟩ ⟨1, [2, 3], rfl, rfl, 2, [3], rfl, rfl, 3, [], rfl, rfl, trivial⟩ (by decide) ?_)
    rintro ⟨fuel, v9, v11, C10⟩ ⟨H1, hl10, o10⟩
    have H1 : s_l6Fresh_L0 fl x3 fuel v9 v11 = some o0_0 := H1
    rcases fuel with _ | fuel
    · rw [s_l6Fresh_L0.eq_1] at H1; cases H1
    rw [s_l6Fresh_L0.eq_2] at H1
    refine CW.sub (s' := [(2, .pointer (some ⟨b2, 0, none⟩)), (3, .pointer (some ⟨b8, 0, none⟩)), (4, .int .i64 v11)]) (h' := [(1, [(b2, .cells #[.slice none 0 0, .int .i64 0] 42 (0, 0))]), (2, C10), (3, [(b8, .cells #[.slice p4 ((x3.l).length) c6, .int .i64 x3.h] 42 (0, 0))])]) ?_ ⟨rfl, rfl, rfl, trivial⟩ ⟨rfl, rfl, rfl, trivial⟩
    refine cw_seq (sr (oD (mv rfl) rfl (oD (fA 0 Tryz.underlying42 rfl ts40 rfl rfl rfl) rfl (oD (lB 3 ts40 rfl rfl rfl) rfl (oD (stp_len Tryz.underlying40 rfl) rfl (oD (stp_lss rfl rfl) rfl (nn (cw_cond rfl (fun h12 => ?_) (fun h12 => ?_)))))))))
    · have H1 := cond_t H1 h12
      obtain ⟨x13, e13, H1⟩ := bind_some H1
      refine cw_skip (kw_nx (cw_seq (cw_block (sr (oD (fA 0 Tryz.underlying42 rfl ts40 rfl rfl rfl) rfl (oD (lB 3 ts40 rfl rfl rfl) rfl (oD (mv rfl) rfl (oD (stp_indexAddr Tryz.underlying40 ts112 (by decide) rfl (by simp [hl10]) rfl (Rdb.own (id := 2) rfl o10) e13) rfl (oD (fA 1 Tryz.underlying112 rfl ts3 rfl rfl rfl) rfl (oD (stp_load1 ts3 rfl (Cells.el (Rdb.own (id := 2) rfl o10) (by decide) e13 1 1 rfl)) rfl (oD (stp_neq rfl rfl) rfl (nn (cw_cond rfl (fun h14 => ?_) (fun h14 => ?_))))))))))))))
      · have H1 := cond_t H1 h14
        refine cw_region (oD (fA 0 Tryz.underlying42 rfl ts40 rfl rfl rfl) rfl (oD (lB 3 ts40 rfl rfl rfl) rfl (oD (mv rfl) rfl (oD (stp_build (cs := #[.bool false, .int .i64 0, .int .i64 0, .int .i64 0, .int .i64 0, .bool false]) sevp_nil bt112_0) rfl (oD (stp_indexAddr Tryz.underlying40 ts112 (by decide) rfl (by simp [hl10]) rfl (Rdb.own (id := 2) rfl o10) e13) rfl (oF (stpU_storeEl (id := 2) (i := 0) (⟨false, 0, 0, 0, 0, false⟩ : Ln) (by decide) ts112 rfl rfl rfl o10 e13 rfl rfl rfl rfl) ?_))))))
        rintro _ _ ⟨C15, rfl, o15⟩
        obtain ⟨x16, e16, H1⟩ := bind_some H1
        exact ow_nil (kw_bl_normal (kw_nx (cw_region (oD (mv rfl) rfl (oD (stp_add rfl rfl e16) rfl (oD (sg rfl) rfl (ow_nil (kw_lqS (js := [1, 2, 3]) (fuel, (v9.set (Int.toNat v11) (⟨false, 0, 0, 0, 0, false⟩ : Ln)), x16, C15) ⟨H1, (by simp [hl10]), o15⟩ (Nat.lt_succ_self _) ⟨rfl, rfl, rfl, trivial⟩ ⟨1, [2, 3], rfl, rfl, 2, [3], rfl, rfl, 3, [], rfl, rfl, trivial⟩ (by decide)))))))))
      · have H1 := cond_f H1 h14
        obtain ⟨x17, e17, H1⟩ := bind_some H1
        exact cw_skip (kw_bl_normal (kw_nx (cw_region (oD (mv rfl) rfl (oD (stp_add rfl rfl e17) rfl (oD (sg rfl) rfl (ow_nil (kw_lqS (js := [1, 2, 3]) (fuel, v9, x17, C10) ⟨H1, (by simp [hl10]), o10⟩ (Nat.lt_succ_self _) ⟨rfl, rfl, rfl, trivial⟩ ⟨1, [2, 3], rfl, rfl, 2, [3], rfl, rfl, 3, [], rfl, rfl, trivial⟩ (by decide)))))))))
    · have H1 := cond_f H1 h12
      refine cw_exit (kw_nx_exit (kw_lq_exit (kw_bl ?_)))
      have q1 := Option.some.inj H1
      subst q1
      exact kw_joinS (js := [1, 2, 3]) (v9, v11, C10) ⟨rfl, (by simp [hl10]), o10⟩ ⟨rfl, rfl, rfl, trivial⟩ ⟨1, [2, 3], rfl, rfl, 2, [3], rfl, rfl, 3, [], rfl, rfl, trivial⟩ (by decide)
  · rintro ⟨v9, v11, C10⟩ ⟨rfl, hl10, o10⟩
    refine KW.sub (s' := [(2, .pointer (some ⟨b2, 0, none⟩)), (3, .pointer (some ⟨b8, 0, none⟩)), (4, .int .i64 v11)]) (h' := [(1, [(b2, .cells #[.slice none 0 0, .int .i64 0] 42 (0, 0))]), (2, C10), (3, [(b8, .cells #[.slice p4 ((x3.l).length) c6, .int .i64 x3.h] 42 (0, 0))])]) ?_ ⟨rfl, rfl, rfl, trivial⟩ ⟨rfl, rfl, rfl, trivial⟩
    refine kw_nx (sr (oD (stp_loadN (us := [_, _]) ts42 rfl (Cells.box (id := 3) rfl 2 rfl)) rfl (oF (stpU_store (id := 1) (cs' := [.slice p4 ((x3.l).length) c6, .int .i64 x3.h]) ts42 rfl rfl rfl rfl rfl rfl rfl) ?_)))
    rintro _ _ rfl
    refine nn (cw_ret ?_)
    have q0 := Option.some.inj H0
    subst q0
    exact kw_ret Tryz.results74 (.cons (.cellN (us := [_, _]) ts42 rfl (Cells.box (id := 1) rfl 2 rfl)) .nil) [(0, C10)] [2] ⟨2, [], rfl, rfl, trivial⟩ (by decide) ⟨p4, ((x3.l).length), c6, C10, rfl, rfl, (by simp [hl10]), o10⟩

set_option maxHeartbeats 4000000 in
set_option maxRecDepth 20000 in
theorem c_s_EnterSpace (fl : Nat) (w : World) (a0 : Mc) (p0_0 : Option Addr) (n0_0 c0_0 : Nat) (p0_1 : Option Addr) (n0_1 c0_1 : Nat) (p0_2 : Option Addr) (n0_2 c0_2 : Nat) (p0_3 : Option Addr) (n0_3 c0_3 : Nat) (a1 : Int) (hn0_0 : n0_0 = (a0.t.b).length) (hr0_0 : RO w (hkeys []) (RdL p0_0 c0_0 a0.t.b)) (hn0_1 : n0_1 = (a0.t.f).length) (hr0_1 : RO w (hkeys []) (RdL p0_1 c0_1 a0.t.f)) (hn0_2 : n0_2 = (a0.c.l).length) (hr0_2 : RO w (hkeys []) (RdL p0_2 c0_2 a0.c.l)) (hn0_3 : n0_3 = (a0.g.o).length) (hr0_3 : RO w (hkeys []) (RdL p0_3 c0_3 a0.g.o)) (r : Mc × Bool) (H0 : s_EnterSpace fl a0 a1 = some r) :
    Ct Tryz.prog 22 [.agg #[.slice p0_0 n0_0 c0_0, .slice p0_1 n0_1 c0_1, .slice p0_2 n0_2 c0_2, .int .i64 a0.c.h, .int .i64 a0.g.c, .int .i64 a0.g.n, .int .i64 a0.g.r, .slice p0_3 n0_3 c0_3, .int .i64 a0.s], .int .i64 a1] w [] (fun rv h' => ∃ (x0 : Option Addr) (y0 z0 : Nat) (C0 : Res) (x1 : Option Addr) (y1 z1 : Nat) (C1 : Res) (x2 : Option Addr) (y2 z2 : Nat) (C2 : Res) (x3 : Option Addr) (y3 z3 : Nat) (C3 : Res), rv = .tuple #[.agg #[.slice x0 y0 z0, .slice x1 y1 z1, .slice x2 y2 z2, .int .i64 r.1.c.h, .int .i64 r.1.g.c, .int .i64 r.1.g.n, .int .i64 r.1.g.r, .slice x3 y3 z3, .int .i64 r.1.s], .bool r.2] ∧ h' = [(0, C0), (1, C1), (2, C2), (3, C3)] ∧ y0 = (r.1.t.b).length ∧ OwnC 3 x0 z0 r.1.t.b C0 ∧ y1 = (r.1.t.f).length ∧ OwnC 127 x1 z1 r.1.t.f C1 ∧ y2 = (r.1.c.l).length ∧ OwnC 112 x2 z2 r.1.c.l C2 ∧ y3 = (r.1.g.o).length ∧ OwnC 148 x3 z3 r.1.g.o C3) := by
  obtain rfl := hn0_0
  obtain rfl := hn0_1
  obtain rfl := hn0_2
  obtain rfl := hn0_3
  unfold s_EnterSpace at H0
  refine ct_of_cw Tryz.func22 rfl Tryz.ntmps22 rfl (Sat.refl _ _) ?_
  refine sr (oE (stpU_box 0 rfl rfl) rfl ?_)
  rintro _ _ ⟨b1, rfl, rfl⟩
  refine oE (stpU_alloc 1 tz47 rfl) rfl ?_
  rintro _ _ ⟨b2, rfl, rfl⟩
  obtain ⟨x3, e3, H0⟩ := bind_some H0
  refine oD (sg rfl) rfl (nn (sr (oD (fA 4 Tryz.underlying47 rfl ts45 rfl rfl rfl) rfl (oD (stp_loadN (us := [_, _, _, _]) ts45 rfl (Cells.box (id := 0) rfl 4 rfl)) rfl (oD (mv rfl) rfl (oE (stpU_call (fun i => 2 + i) cf73 (fun w hw => c_s_TakeTag fl w a0.g p0_3 ((a0.g.o).length) c0_3 a1 rfl (RO.pass hr0_3 hw) x3 e3) (sevs_cons rfl (sevs_cons rfl sevs_nil))) rfl ?_))))))
  rintro _ _ ⟨_, ⟨p4, n5, c6, C7, rfl, rfl, hnn5, o7⟩, rfl⟩
  obtain rfl := hnn5
  refine oD (mv rfl) rfl (oD (stp_extract rfl rfl) rfl (oD (stp_extract rfl rfl) rfl (oD (stp_extract rfl rfl) rfl (oD (stp_extract rfl rfl) rfl (oE (stpU_alloc 3 tz45 rfl) rfl ?_)))))
  rintro _ _ ⟨b8, rfl, rfl⟩
  refine oF (stpU_store (id := 3) (cs' := [.int .i64 x3.1.c, .int .i64 x3.1.n, .int .i64 x3.1.r, .slice p4 ((x3.1.o).length) c6]) ts45 rfl rfl rfl rfl rfl rfl rfl) ?_
  rintro _ _ rfl
  obtain ⟨x9, e9, H0⟩ := bind_some H0
  refine oD (sg rfl) rfl (oD (sg rfl) rfl (oD (sg rfl) rfl (nn (cw_seq (sr (oD (stp_loadN (us := [_, _, _, _, _, _, _, _, _]) ts47 rfl (Cells.box (id := 0) rfl 9 rfl)) rfl (oE (stpU_call (fun i => 4 + i) cf53 (fun w hw => c_s_MachineValid fl w a0 p0_0 ((a0.t.b).length) c0_0 p0_1 ((a0.t.f).length) c0_1 p0_2 ((a0.c.l).length) c0_2 p0_3 ((a0.g.o).length) c0_3 rfl (RO.pass hr0_0 hw) rfl (RO.pass hr0_1 hw) rfl (RO.pass hr0_2 hw) rfl (RO.pass hr0_3 hw) x9 e9) (sevs_cons rfl sevs_nil)) rfl ?_)))))))
  rintro _ _ ⟨_, ⟨rfl, rfl⟩, rfl⟩
  obtain ⟨y10, ey10, H0⟩ := bind_some H0
  refine oD (stp_not rfl) rfl (oD (mv rfl) rfl (ow_cutY 3 26 y10 ?_ ?_))
  · rcases Bool.eq_false_or_eq_true (!x9) with hy10 | hy10
    · have ey10 := cond_t ey10 hy10
      refine oO rfl hy10 rfl (oO rfl hy10 rfl (oD (stp_pick_t rfl hy10 rfl) rfl ?_))
      obtain rfl := Option.some.inj ey10
      exact ow_nil (jy 3 0)
    · have ey10 := cond_f ey10 hy10
      refine oG rfl hy10 (mv rfl) rfl (oG rfl hy10 (stp_not rfl) rfl (oD (stp_pick_f rfl hy10 rfl) rfl ?_))
      obtain rfl := Option.some.inj ey10
      exact ow_nil (jy 3 0)
  · refine ow_nil (kw_nx (cw_cond rfl (fun h11 => ?_) (fun h11 => ?_)))
    · have H0 := cond_t H0 h11
      refine sr (oD (stp_build (cs := #[.slice none 0 0, .slice none 0 0, .slice none 0 0, .int .i64 0, .int .i64 0, .int .i64 0, .int .i64 0, .slice none 0 0, .int .i64 0]) sevp_nil bt47_3) rfl (oF (stpU_store (id := 1) (cs' := [.slice none 0 0, .slice none 0 0, .slice none 0 0, .int .i64 0, .int .i64 0, .int .i64 0, .int .i64 0, .slice none 0 0, .int .i64 0]) ts47 rfl rfl rfl rfl rfl rfl rfl) ?_))
      rintro _ _ rfl
      refine oD (sg rfl) rfl (nn (cw_ret (kw_nx_ret (kw_addNil 4 (kw_addNil 5 (kw_addNil 6 (kw_addNil 7 ?_)))))))
      have q0 := Option.some.inj H0
      subst q0
      exact kw_ret Tryz.results22 (.cons (.cellN (us := [_, _, _, _, _, _, _, _, _]) ts47 rfl (Cells.box (id := 1) rfl 9 rfl)) (.cons (.tmp rfl) .nil)) [(0, []), (1, []), (2, []), (3, [])] [4, 5, 6, 7] ⟨4, [5, 6, 7], rfl, rfl, 5, [6, 7], rfl, rfl, 6, [7], rfl, rfl, 7, [], rfl, rfl, trivial⟩ (by decide) ⟨none, 0, 0, [], none, 0, 0, [], none, 0, 0, [], none, 0, 0, [], rfl, rfl, rfl, (OwnC.nil _ _), rfl, (OwnC.nil _ _), rfl, (OwnC.nil _ _), rfl, (OwnC.nil _ _)⟩
    · have H0 := cond_f H0 h11
      obtain ⟨x12, e12, H0⟩ := bind_some H0
      refine cw_skip (kw_nx (sr (oD (stp_loadN (us := [_, _, _, _, _, _, _, _, _]) ts47 rfl (Cells.box (id := 0) rfl 9 rfl)) rfl (oE (stpU_call (fun i => 8 + i) cf56 (fun w hw => c_s_l6Copy fl w a0 p0_0 ((a0.t.b).length) c0_0 p0_1 ((a0.t.f).length) c0_1 p0_2 ((a0.c.l).length) c0_2 p0_3 ((a0.g.o).length) c0_3 rfl (RO.pass hr0_0 hw) rfl (RO.pass hr0_1 hw) rfl (RO.pass hr0_2 hw) rfl (RO.pass hr0_3 hw) x12 e12) (sevs_cons rfl sevs_nil)) rfl ?_))))
      rintro _ _ ⟨_, ⟨p13, n14, c15, C16, p17, n18, c19, C20, p21, n22, c23, C24, p25, n26, c27, C28, rfl, rfl, hnn14, o16, hnn18, o20, hnn22, o24, hnn26, o28⟩, rfl⟩
      obtain rfl := hnn14
      obtain rfl := hnn18
      obtain rfl := hnn22
      obtain rfl := hnn26
      refine oE (stpU_alloc 12 tz47 rfl) rfl ?_
      rintro _ _ ⟨b29, rfl, rfl⟩
      refine oF (stpU_store (id := 12) (cs' := [.slice p13 ((x12.t.b).length) c15, .slice p17 ((x12.t.f).length) c19, .slice p21 ((x12.c.l).length) c23, .int .i64 x12.c.h, .int .i64 x12.g.c, .int .i64 x12.g.n, .int .i64 x12.g.r, .slice p25 ((x12.g.o).length) c27, .int .i64 x12.s]) ts47 rfl rfl rfl rfl rfl rfl rfl) ?_
      rintro _ _ rfl
      refine nn (sr (oD (stp_loadN (us := [_, _, _, _]) ts45 rfl (Cells.box (id := 3) rfl 4 rfl)) rfl (oD (fA 4 Tryz.underlying47 rfl ts45 rfl rfl rfl) rfl (oF (stpU_store (id := 12) (cs' := [.slice p13 ((x12.t.b).length) c15, .slice p17 ((x12.t.f).length) c19, .slice p21 ((x12.c.l).length) c23, .int .i64 x12.c.h, .int .i64 x3.1.c, .int .i64 x3.1.n, .int .i64 x3.1.r, .slice p4 ((x3.1.o).length) c6, .int .i64 x12.s]) ts45 rfl rfl rfl rfl rfl rfl rfl) ?_))))
      rintro _ _ rfl
      refine nn (sr (oD (mv rfl) rfl (oD (fA 8 Tryz.underlying47 rfl ts3 rfl rfl rfl) rfl (oF (stpU_store (id := 12) (cs' := [.slice p13 ((x12.t.b).length) c15, .slice p17 ((x12.t.f).length) c19, .slice p21 ((x12.c.l).length) c23, .int .i64 x12.c.h, .int .i64 x3.1.c, .int .i64 x3.1.n, .int .i64 x3.1.r, .slice p4 ((x3.1.o).length) c6, .int .i64 a1]) ts3 rfl rfl rfl rfl rfl rfl rfl) ?_))))
      rintro _ _ rfl
      refine nn (cw_seq (sr (oD (mv rfl) rfl (nn (cw_cond rfl (fun h30 => ?_) (fun h30 => ?_))))))
      · have H0 := cond_t H0 h30
        obtain ⟨x31, e31, H0⟩ := bind_some H0
        refine cw_region (oD (fA 2 Tryz.underlying47 rfl ts42 rfl rfl rfl) rfl (oD (stp_loadN (us := [_, _]) ts42 rfl (Cells.box (id := 0) rfl 2 rfl)) rfl (oE (stpU_call (fun i => 13 + i) cf74 (fun w hw => c_s_l6Fresh fl w a0.c p0_2 ((a0.c.l).length) c0_2 rfl (RO.pass hr0_2 hw) x31 e31) (sevs_cons rfl sevs_nil)) rfl ?_)))
        rintro _ _ ⟨_, ⟨p32, n33, c34, C35, rfl, rfl, hnn33, o35⟩, rfl⟩
        obtain rfl := hnn33
        refine oD (fA 2 Tryz.underlying47 rfl ts42 rfl rfl rfl) rfl (oF (stpU_store (id := 12) (cs' := [.slice p13 ((x12.t.b).length) c15, .slice p17 ((x12.t.f).length) c19, .slice p32 ((x31.l).length) c34, .int .i64 x31.h, .int .i64 x3.1.c, .int .i64 x3.1.n, .int .i64 x3.1.r, .slice p4 ((x3.1.o).length) c6, .int .i64 a1]) ts42 rfl rfl rfl rfl rfl rfl rfl) ?_)
        rintro _ _ rfl
        refine nn (sr (oD (stp_loadN (us := [_, _, _, _, _, _, _, _, _]) ts47 rfl (Cells.box (id := 12) rfl 9 rfl)) rfl (oF (stpU_store (id := 1) (cs' := [.slice p13 ((x12.t.b).length) c15, .slice p17 ((x12.t.f).length) c19, .slice p32 ((x31.l).length) c34, .int .i64 x31.h, .int .i64 x3.1.c, .int .i64 x3.1.n, .int .i64 x3.1.r, .slice p4 ((x3.1.o).length) c6, .int .i64 a1]) ts47 rfl rfl rfl rfl rfl rfl rfl) ?_)))
        rintro _ _ rfl
        refine oD (sg rfl) rfl (nn (cw_ret ?_))
        have q0 := Option.some.inj H0
        subst q0
        exact kw_ret Tryz.results22 (.cons (.cellN (us := [_, _, _, _, _, _, _, _, _]) ts47 rfl (Cells.box (id := 1) rfl 9 rfl)) (.cons (.tmp rfl) .nil)) [(0, C16), (1, C20), (2, C35), (3, C7)] [8, 9, 13, 2] ⟨8, [9, 13, 2], rfl, rfl, 9, [13, 2], rfl, rfl, 13, [2], rfl, rfl, 2, [], rfl, rfl, trivial⟩ (by decide) ⟨p13, ((x12.t.b).length), c15, C16, p17, ((x12.t.f).length), c19, C20, p32, ((x31.l).length), c34, C35, p4, ((x3.1.o).length), c6, C7, rfl, rfl, rfl, o16, rfl, o20, rfl, o35, rfl, o7⟩
      · have H0 := cond_f H0 h30
        refine cw_skip (kw_nx (sr (oD (stp_loadN (us := [_, _, _, _, _, _, _, _, _]) ts47 rfl (Cells.box (id := 12) rfl 9 rfl)) rfl (oF (stpU_store (id := 1) (cs' := [.slice p13 ((x12.t.b).length) c15, .slice p17 ((x12.t.f).length) c19, .slice p21 ((x12.c.l).length) c23, .int .i64 x12.c.h, .int .i64 x3.1.c, .int .i64 x3.1.n, .int .i64 x3.1.r, .slice p4 ((x3.1.o).length) c6, .int .i64 a1]) ts47 rfl rfl rfl rfl rfl rfl rfl) ?_))))
        rintro _ _ rfl
        refine oD (sg rfl) rfl (nn (cw_ret ?_))
        have q0 := Option.some.inj H0
        subst q0
        exact kw_ret Tryz.results22 (.cons (.cellN (us := [_, _, _, _, _, _, _, _, _]) ts47 rfl (Cells.box (id := 1) rfl 9 rfl)) (.cons (.tmp rfl) .nil)) [(0, C16), (1, C20), (2, C24), (3, C7)] [8, 9, 10, 2] ⟨8, [9, 10, 2], rfl, rfl, 9, [10, 2], rfl, rfl, 10, [2], rfl, rfl, 2, [], rfl, rfl, trivial⟩ (by decide) ⟨p13, ((x12.t.b).length), c15, C16, p17, ((x12.t.f).length), c19, C20, p21, ((x12.c.l).length), c23, C24, p4, ((x3.1.o).length), c6, C7, rfl, rfl, rfl, o16, rfl, o20, rfl, o24, rfl, o7⟩

set_option maxHeartbeats 4000000 in
set_option maxRecDepth 20000 in
theorem c_i_TakeTag (fl : Nat) (w : World) (a0 : Tg) (p0_0 : Option Addr) (n0_0 c0_0 : Nat) (a1 : Int) (hn0_0 : n0_0 = (a0.o).length) (hr0_0 : RO w (hkeys []) (RdL p0_0 c0_0 a0.o)) (r : Tg × Int × Bool × Bool) (H0 : i_TakeTag fl a0 a1 = some r) :
    Ct Tryz.prog 75 [.agg #[.int .i64 a0.c, .int .i64 a0.n, .int .i64 a0.r, .slice p0_0 n0_0 c0_0], .int .i64 a1] w [] (fun rv h' => ∃ (x0 : Option Addr) (y0 z0 : Nat) (C0 : Res), rv = .tuple #[.agg #[.int .i64 r.1.c, .int .i64 r.1.n, .int .i64 r.1.r, .slice x0 y0 z0], .int .i64 r.2.1, .bool r.2.2.1, .bool r.2.2.2] ∧ h' = [(0, C0)] ∧ y0 = (r.1.o).length ∧ OwnC 148 x0 z0 r.1.o C0) := by
  obtain rfl := hn0_0
  unfold i_TakeTag at H0
  refine ct_of_cw Tryz.func75 rfl Tryz.ntmps75 rfl (Sat.refl _ _) ?_
  refine sr (oE (stpU_box 0 rfl rfl) rfl ?_)
  rintro _ _ ⟨b1, rfl, rfl⟩
  refine oE (stpU_alloc 1 tz45 rfl) rfl ?_
  rintro _ _ ⟨b2, rfl, rfl⟩
  obtain ⟨x3, e3, H0⟩ := bind_some H0
  refine oD (sg rfl) rfl (oD (sg rfl) rfl (oD (sg rfl) rfl (nn (cw_seq (sr (oD (stp_loadN (us := [_, _, _, _]) ts45 rfl (Cells.box (id := 0) rfl 4 rfl)) rfl (oE (stpU_call (fun i => 2 + i) cf140 (fun w hw => c_i_TagsValid fl w a0 p0_0 ((a0.o).length) c0_0 rfl (RO.pass hr0_0 hw) x3 e3) (sevs_cons rfl sevs_nil)) rfl ?_)))))))
  rintro _ _ ⟨_, ⟨rfl, rfl⟩, rfl⟩
  obtain ⟨y4, ey4, H0⟩ := bind_some H0
  refine oD (stp_not rfl) rfl (oD (mv rfl) rfl (ow_cutY 4 19 y4 ?_ ?_))
  · rcases Bool.eq_false_or_eq_true (!x3) with hy4 | hy4
    · have ey4 := cond_t ey4 hy4
      refine oO rfl hy4 rfl (oO rfl hy4 rfl (oO rfl hy4 rfl (oD (stp_pick_t rfl hy4 rfl) rfl ?_)))
      obtain rfl := Option.some.inj ey4
      exact ow_nil (jy 4 0)
    · have ey4 := cond_f ey4 hy4
      obtain ⟨x5, e5, ey4⟩ := bind_some ey4
      refine oG rfl hy4 (mv rfl) rfl (ow_eff (.some rfl hy4) (stpU_call (fun i => 2 + i) cf90 (fun w hw => c_i_within fl w a1 16 x5 e5) (sevs_cons rfl (sevs_cons rfl sevs_nil))) rfl ?_)
      rintro _ _ ⟨_, ⟨rfl, rfl⟩, rfl⟩
      refine oG rfl hy4 (stp_not rfl) rfl (oD (stp_pick_f rfl hy4 rfl) rfl ?_)
      obtain rfl := Option.some.inj ey4
      exact ow_nil (jy 4 0)
  · refine ow_nil (kw_nx (cw_cond rfl (fun h6 => ?_) (fun h6 => ?_)))
    · have H0 := cond_t H0 h6
      refine sr (oD (stp_build (cs := #[.int .i64 0, .int .i64 0, .int .i64 0, .slice none 0 0]) sevp_nil bt45_10) rfl (oF (stpU_store (id := 1) (cs' := [.int .i64 0, .int .i64 0, .int .i64 0, .slice none 0 0]) ts45 rfl rfl rfl rfl rfl rfl rfl) ?_))
      rintro _ _ rfl
      refine oD (sg rfl) rfl (oD (sg rfl) rfl (oD (sg rfl) rfl (nn (cw_ret (kw_nx_ret (kw_addNil 2 ?_))))))
      have q0 := Option.some.inj H0
      subst q0
      exact kw_ret Tryz.results75 (.cons (.cellN (us := [_, _, _, _]) ts45 rfl (Cells.box (id := 1) rfl 4 rfl)) (.cons (.tmp rfl) (.cons (.tmp rfl) (.cons (.tmp rfl) .nil)))) [(0, [])] [2] ⟨2, [], rfl, rfl, trivial⟩ (by decide) ⟨none, 0, 0, [], rfl, rfl, rfl, (OwnC.nil _ _)⟩
    · have H0 := cond_f H0 h6
      refine cw_skip (kw_nx (sr (oD (stp_loadN (us := [_, _, _, _]) ts45 rfl (Cells.box (id := 0) rfl 4 rfl)) rfl (oE (stpU_alloc 3 tz45 rfl) rfl ?_))))
      rintro _ _ ⟨b7, rfl, rfl⟩
      refine oF (stpU_store (id := 3) (cs' := [.int .i64 a0.c, .int .i64 a0.n, .int .i64 a0.r, .slice p0_0 ((a0.o).length) c0_0]) ts45 rfl rfl rfl rfl rfl rfl rfl) ?_
      rintro _ _ rfl
      obtain ⟨x8, e8, H0⟩ := bind_some H0
      refine nn (sr (oD (fA 3 Tryz.underlying45 rfl ts43 rfl rfl rfl) rfl (oD (lB 0 ts43 rfl rfl rfl) rfl (oE (stpU_call (fun i => 4 + i) cf149 (fun w hw => c_slices_Clone_Own fl w a0.o p0_0 ((a0.o).length) c0_0 rfl (RO.pass hr0_0 hw) x8 e8) (sevs_cons rfl sevs_nil)) rfl ?_))))
      rintro _ _ ⟨_, ⟨p9, n10, c11, C12, rfl, rfl, hnn10, o12⟩, rfl⟩
      obtain rfl := hnn10
      refine oE (stpU_call (fun i => i) cf148 (fun w hw => c_clip148 w p9 ((x8).length) c11 (OwnC.len o12).1) (sevs_cons rfl sevs_nil)) rfl ?_
      rintro _ _ ⟨_, ⟨rfl, rfl⟩, rfl⟩
      refine oD (fA 3 Tryz.underlying45 rfl ts43 rfl rfl rfl) rfl (oF (stpU_store (id := 3) (cs' := [.int .i64 a0.c, .int .i64 a0.n, .int .i64 a0.r, .slice p9 ((x8).length) ((x8).length)]) ts43 rfl rfl rfl rfl rfl rfl rfl) ?_)
      rintro _ _ rfl
      obtain ⟨x13, e13, H0⟩ := bind_some H0
      refine nn (cw_seq (sr (oD (stp_loadN (us := [_, _, _, _]) ts45 rfl (Cells.box (id := 0) rfl 4 rfl)) rfl (oD (mv rfl) rfl (oE (stpU_call (fun i => 5 + i) cf141 (fun w hw => c_i_Tags_own fl w a0 p0_0 ((a0.o).length) c0_0 a1 rfl (RO.pass hr0_0 hw) x13 e13) (sevs_cons rfl (sevs_cons rfl sevs_nil))) rfl ?_)))))
      rintro _ _ ⟨_, ⟨rfl, rfl⟩, rfl⟩
      refine oD (sg rfl) rfl (nn (sr (oD (mv rfl) rfl (oD (stp_geq rfl rfl) rfl (nn (cw_cond rfl (fun h14 => ?_) (fun h14 => ?_)))))))
      · have H0 := cond_t H0 h14
        obtain ⟨x15, e15, H0⟩ := bind_some H0
        refine cw_seq (rdr g_mixed [2, 4, 8, 9] [0, 1, 3] { dst := dS [33, 34, 35, 36, 37, 38, 39, 0, 6, 7, 8], pre := gA [] [[], [], [1], [], [1, 2, 3], rn 1 4, rn 1 5, [0], rn 0 8, rn 0 9, rn 0 10], ids := gA [] [[], [], [], [], [], [], [], [1]], rs := rL [[(8, 0)], [(2, 0)], [(33, 2)], [(9, 0)], [(34, 3), (35, 4)], [(36, 5)], [(37, 6)], [(4, 0), (32, 1)], [(38, 7)], [], []], rh := rL [[(3, 0)], [], [(0, 0)], [], [], [], [], [(1, 0)]], V := fun i g => gA undef [.agg #[.int .i64 a0.c, .int .i64 a0.n, .int .i64 a0.r, .slice p9 ((x8).length) ((x8).length)], .pointer (some ⟨b1, 3, none⟩), .slice p0_0 ((a0.o).length) c0_0, .int .i64 x13, .pointer (some ⟨eB p0_0, eO p0_0 + Int.toNat x13 * Enc.sz Ow + 0, none⟩), .pointer (some ⟨eB p0_0, eO p0_0 + Int.toNat x13 * Enc.sz Ow + 1, none⟩), .int .i64 x15.tg, undef, .int .i64 x15.tg, .bool false, .bool true] i, U := fun i g => match i with | 7 => [(1, [(b2, .cells #[.int .i64 a0.c, .int .i64 a0.n, .int .i64 a0.r, .slice p9 ((x8).length) ((x8).length)] 45 (0, 0))])] | _ => [], Φ := fun _ _ => True } ?_ ?_)
        · refine ⟨⟨⟨⟨⟨⟨⟨⟨⟨⟨⟨trivial, lc rfl rfl fun hs hh => stp_loadN (us := [_, _, _, _]) ts45 (sv hs 8 rfl) (Cells.box (id := 3) (hh.get 3 _ rfl) 4 rfl)⟩, lc rfl rfl fun hs hh => stp_fieldAddr (j := 3) Tryz.underlying45 rfl ts43 rfl (sv hs 2 rfl) rfl⟩, lc rfl rfl fun hs hh => stp_load1 ts43 (sv hs 33 rfl) (Cells.box (id := 0) (hh.get 0 _ rfl) 1 rfl)⟩, lc rfl rfl fun hs hh => stp_move (sv hs 9 rfl)⟩, lc rfl rfl fun hs hh => stp_indexAddr Tryz.underlying43 ts148 (by decide) (sv hs 34 rfl) rfl (sv hs 35 rfl) (Rdb.ro hr0_0) e15⟩, lc rfl rfl fun hs hh => stp_fieldAddr (j := 1) Tryz.underlying148 rfl ts3 rfl (sv hs 36 rfl) rfl⟩, lc rfl rfl fun hs hh => stp_load1 ts3 (sv hs 37 rfl) (Cells.el (Rdb.ro hr0_0) (by decide) e15 1 1 rfl)⟩, ?_⟩, lc rfl rfl fun hs hh => stp_assign (sv hs 38 rfl)⟩, lc rfl rfl fun hs hh => stp_assign rfl⟩, lc rfl rfl fun hs hh => stp_assign rfl⟩
          · refine le rfl rfl (fun g hΦ s h hs hh => (stpU_store (id := 1) (cs' := [.int .i64 a0.c, .int .i64 a0.n, .int .i64 a0.r, .slice p9 ((x8).length) ((x8).length)]) ts45 (sv hs 4 rfl) (sv hs 32 rfl) (hh.get 1 _ rfl) rfl rfl rfl rfl)) ?_
            rintro g _ _ rfl
            exact ⟨⟨[], [], []⟩, trivial, .inl rfl, rfl⟩
        · intro g hΦ
          refine KW.sub (s' := [(4, .pointer (some ⟨b2, 0, none⟩)), (5, .int .i64 x15.tg), (6, .bool false), (7, .bool true)]) (h' := [(1, [(b2, .cells #[.int .i64 a0.c, .int .i64 a0.n, .int .i64 a0.r, .slice p9 ((x8).length) ((x8).length)] 45 (0, 0))]), (4, C12)]) ?_ ⟨rfl, rfl, rfl, rfl, trivial⟩ ⟨rfl, rfl, trivial⟩
          refine kw_nx (cw_ret (kw_nx_ret ?_))
          have q0 := Option.some.inj H0
          subst q0
          exact kw_ret Tryz.results75 (.cons (.cellN (us := [_, _, _, _]) ts45 rfl (Cells.box (id := 1) rfl 4 rfl)) (.cons (.tmp rfl) (.cons (.tmp rfl) (.cons (.tmp rfl) .nil)))) [(0, C12)] [4] ⟨4, [], rfl, rfl, trivial⟩ (by decide) ⟨p9, ((x8).length), ((x8).length), C12, rfl, rfl, rfl, (OwnC.clip o12)⟩
      · have H0 := cond_f H0 h14
        refine cw_skip (kw_nx (sr (oD (fA 1 Tryz.underlying45 rfl ts3 rfl rfl rfl) rfl (oD (lB 0 ts3 rfl rfl rfl) rfl (oD (fA 0 Tryz.underlying45 rfl ts3 rfl rfl rfl) rfl (oD (lB 0 ts3 rfl rfl rfl) rfl (oD (stp_eql rfl rfl) rfl (oD (sg rfl) rfl (nn (cw_seq (sr (oD (mv rfl) rfl (nn ?_)))))))))))))
        refine cw_cond rfl (fun h16 => ?_) (fun h16 => ?_)
        · have H0 := cond_t H0 h16
          refine cw_seq (sr (oD (fA 2 Tryz.underlying45 rfl ts3 rfl rfl rfl) rfl (oD (lB 0 ts3 rfl rfl rfl) rfl (oD (stp_eql rfl rfl) rfl (nn (cw_cond rfl (fun h17 => ?_) (fun h17 => ?_)))))))
          · have H0 := cond_t H0 h17
            refine sr (oD (stp_build (cs := #[.int .i64 0, .int .i64 0, .int .i64 0, .slice none 0 0]) sevp_nil bt45_10) rfl (oF (stpU_store (id := 1) (cs' := [.int .i64 0, .int .i64 0, .int .i64 0, .slice none 0 0]) ts45 rfl rfl rfl rfl rfl rfl rfl) ?_))
            rintro _ _ rfl
            refine oD (sg rfl) rfl (oD (sg rfl) rfl (oD (sg rfl) rfl (nn (cw_ret (kw_nx_ret (kw_nx_ret (kw_addNil 5 ?_)))))))
            have q0 := Option.some.inj H0
            subst q0
            exact kw_ret Tryz.results75 (.cons (.cellN (us := [_, _, _, _]) ts45 rfl (Cells.box (id := 1) rfl 4 rfl)) (.cons (.tmp rfl) (.cons (.tmp rfl) (.cons (.tmp rfl) .nil)))) [(0, [])] [5] ⟨5, [], rfl, rfl, trivial⟩ (by decide) ⟨none, 0, 0, [], rfl, rfl, rfl, (OwnC.nil _ _)⟩
          · have H0 := cond_f H0 h17
            obtain ⟨x18, e18, H0⟩ := bind_some H0
            refine cw_skip (kw_nx (cw_region (oD (fA 0 Tryz.underlying45 rfl ts3 rfl rfl rfl) rfl (oD (lB 0 ts3 rfl rfl rfl) rfl (oD (fA 2 Tryz.underlying45 rfl ts3 rfl rfl rfl) rfl (oD (lB 0 ts3 rfl rfl rfl) rfl (oD (stp_add rfl rfl e18) rfl (oD (stp_build (cs := #[.int .i64 a0.c, .int .i64 0, .int .i64 x18, .slice none 0 0]) (sevp_cons rfl (sevp_cons rfl sevp_nil)) bt45_13) rfl (oF (stpU_store (id := 3) (cs' := [.int .i64 a0.c, .int .i64 0, .int .i64 x18, .slice none 0 0]) ts45 rfl rfl rfl rfl rfl rfl rfl) ?_)))))))))
            rintro _ _ rfl
            refine nn (sr (oD (fA 1 Tryz.underlying45 rfl ts3 rfl rfl rfl) rfl (oD (lB 3 ts3 rfl rfl rfl) rfl (oD (sg rfl) rfl (nn (sr (oD (fA 3 Tryz.underlying45 rfl ts43 rfl rfl rfl) rfl (oD (lB 3 ts43 rfl rfl rfl) rfl (oD (mv rfl) rfl (oD (mv rfl) rfl (oD (stp_build (cs := #[.int .i64 a1, .int .i64 0]) (sevp_cons rfl (sevp_cons rfl sevp_nil)) bt148_12) rfl (oE (stpU_lit (sz := 2) (l := [(⟨a1, 0⟩ : Ow)]) [.agg #[.int .i64 a1, .int .i64 0]] sl43 6 (sevp_cons rfl sevp_nil) rfl rfl rfl rfl rfl rfl rfl rfl rfl) rfl ?_))))))))))))
            rintro _ _ ⟨p19, C20, rfl, rfl, o20⟩
            obtain ⟨x21, e21, H0⟩ := bind_some H0
            refine ow_addNil 7 (oE (stpU_append sl43 rfl (id := 7) rfl rfl rfl (by simp) rfl (OwnC.nil 148 none) (Rdb.own (id := 6) rfl o20) e21) rfl ?_)
            rintro _ _ ⟨p22, c23, C24, rfl, rfl, o24⟩
            refine oE (stpU_call (fun i => i) cf148 (fun w hw => c_clip148 w p22 ((x21).length) c23 (OwnC.len o24).1) (sevs_cons rfl sevs_nil)) rfl ?_
            rintro _ _ ⟨_, ⟨rfl, rfl⟩, rfl⟩
            refine oD (fA 3 Tryz.underlying45 rfl ts43 rfl rfl rfl) rfl (oF (stpU_store (id := 3) (cs' := [.int .i64 a0.c, .int .i64 0, .int .i64 x18, .slice p22 ((x21).length) ((x21).length)]) ts43 rfl rfl rfl rfl rfl rfl rfl) ?_)
            rintro _ _ rfl
            obtain ⟨x25, e25, H0⟩ := bind_some H0
            refine nn (sr (oD (fA 1 Tryz.underlying45 rfl ts3 rfl rfl rfl) rfl (oD (lB 3 ts3 rfl rfl rfl) rfl (oD (stp_add rfl rfl e25) rfl (oD (fA 1 Tryz.underlying45 rfl ts3 rfl rfl rfl) rfl (oF (stpU_store (id := 3) (cs' := [.int .i64 a0.c, .int .i64 x25, .int .i64 x18, .slice p22 ((x21).length) ((x21).length)]) ts3 rfl rfl rfl rfl rfl rfl rfl) ?_))))))
            rintro _ _ rfl
            refine nn (sr (oD (stp_loadN (us := [_, _, _, _]) ts45 rfl (Cells.box (id := 3) rfl 4 rfl)) rfl (oD (mv rfl) rfl (oD (mv rfl) rfl (oF (stpU_store (id := 1) (cs' := [.int .i64 a0.c, .int .i64 x25, .int .i64 x18, .slice p22 ((x21).length) ((x21).length)]) ts45 rfl rfl rfl rfl rfl rfl rfl) ?_)))))
            rintro _ _ rfl
            refine oD (sg rfl) rfl (oD (sg rfl) rfl (oD (sg rfl) rfl (nn (cw_ret ?_))))
            have q0 := Option.some.inj H0
            subst q0
            exact kw_ret Tryz.results75 (.cons (.cellN (us := [_, _, _, _]) ts45 rfl (Cells.box (id := 1) rfl 4 rfl)) (.cons (.tmp rfl) (.cons (.tmp rfl) (.cons (.tmp rfl) .nil)))) [(0, C24)] [7] ⟨7, [], rfl, rfl, trivial⟩ (by decide) ⟨p22, ((x21).length), ((x21).length), C24, rfl, rfl, rfl, (OwnC.clip o24)⟩
        · have H0 := cond_f H0 h16
          refine cw_skip (kw_nx (sr (oD (fA 1 Tryz.underlying45 rfl ts3 rfl rfl rfl) rfl (oD (lB 3 ts3 rfl rfl rfl) rfl (oD (sg rfl) rfl (nn (sr (oD (fA 3 Tryz.underlying45 rfl ts43 rfl rfl rfl) rfl (oD (lB 3 ts43 rfl rfl rfl) rfl (oD (mv rfl) rfl (oD (mv rfl) rfl (oD (stp_build (cs := #[.int .i64 a1, .int .i64 a0.n]) (sevp_cons rfl (sevp_cons rfl sevp_nil)) bt148_12) rfl (oE (stpU_lit (sz := 2) (l := [(⟨a1, a0.n⟩ : Ow)]) [.agg #[.int .i64 a1, .int .i64 a0.n]] sl43 8 (sevp_cons rfl sevp_nil) rfl rfl rfl rfl rfl rfl rfl rfl rfl) rfl ?_)))))))))))))
          rintro _ _ ⟨p26, C27, rfl, rfl, o27⟩
          obtain ⟨x28, e28, H0⟩ := bind_some H0
          refine oE (stpU_append sl43 rfl (id := 4) rfl rfl rfl (by simp) rfl (OwnC.clip o12) (Rdb.own (id := 8) rfl o27) e28) rfl ?_
          rintro _ _ ⟨p29, c30, C31, rfl, rfl, o31⟩
          refine oE (stpU_call (fun i => i) cf148 (fun w hw => c_clip148 w p29 ((x28).length) c30 (OwnC.len o31).1) (sevs_cons rfl sevs_nil)) rfl ?_
          rintro _ _ ⟨_, ⟨rfl, rfl⟩, rfl⟩
          refine oD (fA 3 Tryz.underlying45 rfl ts43 rfl rfl rfl) rfl (oF (stpU_store (id := 3) (cs' := [.int .i64 a0.c, .int .i64 a0.n, .int .i64 a0.r, .slice p29 ((x28).length) ((x28).length)]) ts43 rfl rfl rfl rfl rfl rfl rfl) ?_)
          rintro _ _ rfl
          obtain ⟨x32, e32, H0⟩ := bind_some H0
          refine nn (sr (oD (fA 1 Tryz.underlying45 rfl ts3 rfl rfl rfl) rfl (oD (lB 3 ts3 rfl rfl rfl) rfl (oD (stp_add rfl rfl e32) rfl (oD (fA 1 Tryz.underlying45 rfl ts3 rfl rfl rfl) rfl (oF (stpU_store (id := 3) (cs' := [.int .i64 a0.c, .int .i64 x32, .int .i64 a0.r, .slice p29 ((x28).length) ((x28).length)]) ts3 rfl rfl rfl rfl rfl rfl rfl) ?_))))))
          rintro _ _ rfl
          refine nn (sr (oD (stp_loadN (us := [_, _, _, _]) ts45 rfl (Cells.box (id := 3) rfl 4 rfl)) rfl (oD (mv rfl) rfl (oD (mv rfl) rfl (oF (stpU_store (id := 1) (cs' := [.int .i64 a0.c, .int .i64 x32, .int .i64 a0.r, .slice p29 ((x28).length) ((x28).length)]) ts45 rfl rfl rfl rfl rfl rfl rfl) ?_)))))
          rintro _ _ rfl
          refine oD (sg rfl) rfl (oD (sg rfl) rfl (oD (sg rfl) rfl (nn (cw_ret ?_))))
          have q0 := Option.some.inj H0
          subst q0
          exact kw_ret Tryz.results75 (.cons (.cellN (us := [_, _, _, _]) ts45 rfl (Cells.box (id := 1) rfl 4 rfl)) (.cons (.tmp rfl) (.cons (.tmp rfl) (.cons (.tmp rfl) .nil)))) [(0, C31)] [4] ⟨4, [], rfl, rfl, trivial⟩ (by decide) ⟨p29, ((x28).length), ((x28).length), C31, rfl, rfl, rfl, (OwnC.clip o31)⟩

set_option maxHeartbeats 4000000 in
set_option maxRecDepth 20000 in
theorem c_i_EnterSpace (fl : Nat) (w : World) (a0 : Mc) (p0_0 : Option Addr) (n0_0 c0_0 : Nat) (p0_1 : Option Addr) (n0_1 c0_1 : Nat) (p0_2 : Option Addr) (n0_2 c0_2 : Nat) (p0_3 : Option Addr) (n0_3 c0_3 : Nat) (a1 : Int) (hn0_0 : n0_0 = (a0.t.b).length) (hr0_0 : RO w (hkeys []) (RdL p0_0 c0_0 a0.t.b)) (hn0_1 : n0_1 = (a0.t.f).length) (hr0_1 : RO w (hkeys []) (RdL p0_1 c0_1 a0.t.f)) (hn0_2 : n0_2 = (a0.c.l).length) (hr0_2 : RO w (hkeys []) (RdL p0_2 c0_2 a0.c.l)) (hn0_3 : n0_3 = (a0.g.o).length) (hr0_3 : RO w (hkeys []) (RdL p0_3 c0_3 a0.g.o)) (hg : RO w (hkeys []) (fun w' => w'.rangeAt 0 0 [.bool false, .int .i64 0, .int .i64 0, .int .i64 0, .int .i64 (-1)])) (r : Mc × Bool) (H0 : i_EnterSpace fl a0 a1 = some r) :
    Ct Tryz.prog 23 [.agg #[.slice p0_0 n0_0 c0_0, .slice p0_1 n0_1 c0_1, .slice p0_2 n0_2 c0_2, .int .i64 a0.c.h, .int .i64 a0.g.c, .int .i64 a0.g.n, .int .i64 a0.g.r, .slice p0_3 n0_3 c0_3, .int .i64 a0.s], .int .i64 a1] w [] (fun rv h' => ∃ (x0 : Option Addr) (y0 z0 : Nat) (C0 : Res) (x1 : Option Addr) (y1 z1 : Nat) (C1 : Res) (x2 : Option Addr) (y2 z2 : Nat) (C2 : Res) (x3 : Option Addr) (y3 z3 : Nat) (C3 : Res), rv = .tuple #[.agg #[.slice x0 y0 z0, .slice x1 y1 z1, .slice x2 y2 z2, .int .i64 r.1.c.h, .int .i64 r.1.g.c, .int .i64 r.1.g.n, .int .i64 r.1.g.r, .slice x3 y3 z3, .int .i64 r.1.s], .bool r.2] ∧ h' = [(0, C0), (1, C1), (2, C2), (3, C3)] ∧ y0 = (r.1.t.b).length ∧ OwnC 3 x0 z0 r.1.t.b C0 ∧ y1 = (r.1.t.f).length ∧ OwnC 127 x1 z1 r.1.t.f C1 ∧ y2 = (r.1.c.l).length ∧ OwnC 112 x2 z2 r.1.c.l C2 ∧ y3 = (r.1.g.o).length ∧ OwnC 148 x3 z3 r.1.g.o C3) := by
  obtain rfl := hn0_0
  obtain rfl := hn0_1
  obtain rfl := hn0_2
  obtain rfl := hn0_3
  unfold i_EnterSpace at H0
  refine ct_of_cw Tryz.func23 rfl Tryz.ntmps23 rfl (Sat.refl _ _) ?_
  refine sr (oE (stpU_box 0 rfl rfl) rfl ?_)
  rintro _ _ ⟨b1, rfl, rfl⟩
  refine oE (stpU_alloc 1 tz47 rfl) rfl ?_
  rintro _ _ ⟨b2, rfl, rfl⟩
  obtain ⟨x3, e3, H0⟩ := bind_some H0
  refine oD (sg rfl) rfl (nn (cw_seq (sr (oD (stp_loadN (us := [_, _, _, _, _, _, _, _, _]) ts47 rfl (Cells.box (id := 0) rfl 9 rfl)) rfl (oE (stpU_call (fun i => 2 + i) cf60 (fun w hw => c_i_MachineValid fl w a0 p0_0 ((a0.t.b).length) c0_0 p0_1 ((a0.t.f).length) c0_1 p0_2 ((a0.c.l).length) c0_2 p0_3 ((a0.g.o).length) c0_3 rfl (RO.pass hr0_0 hw) rfl (RO.pass hr0_1 hw) rfl (RO.pass hr0_2 hw) rfl (RO.pass hr0_3 hw) (RO.pass hg hw) x3 e3) (sevs_cons rfl sevs_nil)) rfl ?_)))))
  rintro _ _ ⟨_, ⟨rfl, rfl⟩, rfl⟩
  refine oD (stp_not rfl) rfl (nn (cw_cond rfl (fun h4 => ?_) (fun h4 => ?_)))
  · have H0 := cond_t H0 h4
    refine sr (oD (stp_build (cs := #[.slice none 0 0, .slice none 0 0, .slice none 0 0, .int .i64 0, .int .i64 0, .int .i64 0, .int .i64 0, .slice none 0 0, .int .i64 0]) sevp_nil bt47_3) rfl (oF (stpU_store (id := 1) (cs' := [.slice none 0 0, .slice none 0 0, .slice none 0 0, .int .i64 0, .int .i64 0, .int .i64 0, .int .i64 0, .slice none 0 0, .int .i64 0]) ts47 rfl rfl rfl rfl rfl rfl rfl) ?_))
    rintro _ _ rfl
    refine oD (sg rfl) rfl (nn (cw_ret (kw_nx_ret (kw_addNil 2 (kw_addNil 3 (kw_addNil 4 (kw_addNil 5 ?_)))))))
    have q0 := Option.some.inj H0
    subst q0
    exact kw_ret Tryz.results23 (.cons (.cellN (us := [_, _, _, _, _, _, _, _, _]) ts47 rfl (Cells.box (id := 1) rfl 9 rfl)) (.cons (.tmp rfl) .nil)) [(0, []), (1, []), (2, []), (3, [])] [2, 3, 4, 5] ⟨2, [3, 4, 5], rfl, rfl, 3, [4, 5], rfl, rfl, 4, [5], rfl, rfl, 5, [], rfl, rfl, trivial⟩ (by decide) ⟨none, 0, 0, [], none, 0, 0, [], none, 0, 0, [], none, 0, 0, [], rfl, rfl, rfl, (OwnC.nil _ _), rfl, (OwnC.nil _ _), rfl, (OwnC.nil _ _), rfl, (OwnC.nil _ _)⟩
  · have H0 := cond_f H0 h4
    obtain ⟨x5, e5, H0⟩ := bind_some H0
    refine cw_skip (kw_nx (sr (oD (fA 4 Tryz.underlying47 rfl ts45 rfl rfl rfl) rfl (oD (stp_loadN (us := [_, _, _, _]) ts45 rfl (Cells.box (id := 0) rfl 4 rfl)) rfl (oD (mv rfl) rfl (oE (stpU_call (fun i => 6 + i) cf75 (fun w hw => c_i_TakeTag fl w a0.g p0_3 ((a0.g.o).length) c0_3 a1 rfl (RO.pass hr0_3 hw) x5 e5) (sevs_cons rfl (sevs_cons rfl sevs_nil))) rfl ?_))))))
    rintro _ _ ⟨_, ⟨p6, n7, c8, C9, rfl, rfl, hnn7, o9⟩, rfl⟩
    obtain rfl := hnn7
    refine oD (mv rfl) rfl (oD (stp_extract rfl rfl) rfl (oD (stp_extract rfl rfl) rfl (oD (stp_extract rfl rfl) rfl (oD (stp_extract rfl rfl) rfl (oE (stpU_alloc 7 tz45 rfl) rfl ?_)))))
    rintro _ _ ⟨b10, rfl, rfl⟩
    refine oF (stpU_store (id := 7) (cs' := [.int .i64 x5.1.c, .int .i64 x5.1.n, .int .i64 x5.1.r, .slice p6 ((x5.1.o).length) c8]) ts45 rfl rfl rfl rfl rfl rfl rfl) ?_
    rintro _ _ rfl
    refine oD (sg rfl) rfl (oD (sg rfl) rfl (oD (sg rfl) rfl (nn (cw_seq (sr (oD (mv rfl) rfl (oD (stp_not rfl) rfl (nn (cw_cond rfl (fun h11 => ?_) (fun h11 => ?_))))))))))
    · have H0 := cond_t H0 h11
      refine sr (oD (stp_build (cs := #[.slice none 0 0, .slice none 0 0, .slice none 0 0, .int .i64 0, .int .i64 0, .int .i64 0, .int .i64 0, .slice none 0 0, .int .i64 0]) sevp_nil bt47_3) rfl (oF (stpU_store (id := 1) (cs' := [.slice none 0 0, .slice none 0 0, .slice none 0 0, .int .i64 0, .int .i64 0, .int .i64 0, .int .i64 0, .slice none 0 0, .int .i64 0]) ts47 rfl rfl rfl rfl rfl rfl rfl) ?_))
      rintro _ _ rfl
      refine oD (sg rfl) rfl (nn (cw_ret (kw_nx_ret (kw_addNil 8 (kw_addNil 9 (kw_addNil 10 (kw_addNil 11 ?_)))))))
      have q0 := Option.some.inj H0
      subst q0
      exact kw_ret Tryz.results23 (.cons (.cellN (us := [_, _, _, _, _, _, _, _, _]) ts47 rfl (Cells.box (id := 1) rfl 9 rfl)) (.cons (.tmp rfl) .nil)) [(0, []), (1, []), (2, []), (3, [])] [8, 9, 10, 11] ⟨8, [9, 10, 11], rfl, rfl, 9, [10, 11], rfl, rfl, 10, [11], rfl, rfl, 11, [], rfl, rfl, trivial⟩ (by decide) ⟨none, 0, 0, [], none, 0, 0, [], none, 0, 0, [], none, 0, 0, [], rfl, rfl, rfl, (OwnC.nil _ _), rfl, (OwnC.nil _ _), rfl, (OwnC.nil _ _), rfl, (OwnC.nil _ _)⟩
    · have H0 := cond_f H0 h11
      obtain ⟨x12, e12, H0⟩ := bind_some H0
      refine cw_skip (kw_nx (sr (oD (stp_loadN (us := [_, _, _, _, _, _, _, _, _]) ts47 rfl (Cells.box (id := 0) rfl 9 rfl)) rfl (oE (stpU_call (fun i => 12 + i) cf63 (fun w hw => c_i_Machine_clone fl w a0 p0_0 ((a0.t.b).length) c0_0 p0_1 ((a0.t.f).length) c0_1 p0_2 ((a0.c.l).length) c0_2 p0_3 ((a0.g.o).length) c0_3 rfl (RO.pass hr0_0 hw) rfl (RO.pass hr0_1 hw) rfl (RO.pass hr0_2 hw) rfl (RO.pass hr0_3 hw) x12 e12) (sevs_cons rfl sevs_nil)) rfl ?_))))
      rintro _ _ ⟨_, ⟨p13, n14, c15, C16, p17, n18, c19, C20, p21, n22, c23, C24, p25, n26, c27, C28, rfl, rfl, hnn14, o16, hnn18, o20, hnn22, o24, hnn26, o28⟩, rfl⟩
      obtain rfl := hnn14
      obtain rfl := hnn18
      obtain rfl := hnn22
      obtain rfl := hnn26
      refine oE (stpU_alloc 16 tz47 rfl) rfl ?_
      rintro _ _ ⟨b29, rfl, rfl⟩
      refine oF (stpU_store (id := 16) (cs' := [.slice p13 ((x12.t.b).length) c15, .slice p17 ((x12.t.f).length) c19, .slice p21 ((x12.c.l).length) c23, .int .i64 x12.c.h, .int .i64 x12.g.c, .int .i64 x12.g.n, .int .i64 x12.g.r, .slice p25 ((x12.g.o).length) c27, .int .i64 x12.s]) ts47 rfl rfl rfl rfl rfl rfl rfl) ?_
      rintro _ _ rfl
      refine nn (sr (oD (stp_loadN (us := [_, _, _, _]) ts45 rfl (Cells.box (id := 7) rfl 4 rfl)) rfl (oD (mv rfl) rfl (oD (fA 4 Tryz.underlying47 rfl ts45 rfl rfl rfl) rfl (oF (stpU_store (id := 16) (cs' := [.slice p13 ((x12.t.b).length) c15, .slice p17 ((x12.t.f).length) c19, .slice p21 ((x12.c.l).length) c23, .int .i64 x12.c.h, .int .i64 x5.1.c, .int .i64 x5.1.n, .int .i64 x5.1.r, .slice p6 ((x5.1.o).length) c8, .int .i64 x12.s]) ts45 rfl rfl rfl rfl rfl rfl rfl) ?_)))))
      rintro _ _ rfl
      refine oD (fA 8 Tryz.underlying47 rfl ts3 rfl rfl rfl) rfl (oF (stpU_store (id := 16) (cs' := [.slice p13 ((x12.t.b).length) c15, .slice p17 ((x12.t.f).length) c19, .slice p21 ((x12.c.l).length) c23, .int .i64 x12.c.h, .int .i64 x5.1.c, .int .i64 x5.1.n, .int .i64 x5.1.r, .slice p6 ((x5.1.o).length) c8, .int .i64 a1]) ts3 rfl rfl rfl rfl rfl rfl rfl) ?_)
      rintro _ _ rfl
      obtain ⟨o0_0, eo0_0, H0⟩ := bind_some H0
      refine nn (cw_seq (sr (oD (fA 2 Tryz.underlying47 rfl ts42 rfl rfl rfl) rfl (oD (fA 0 Tryz.underlying42 rfl ts40 rfl rfl rfl) rfl (oD (lB 16 ts40 rfl rfl rfl) rfl (oD (stp_len Tryz.underlying40 rfl) rfl (oD (mv rfl) rfl (nn (cw_join (ι := (List Ln) × Int × Res) (fun | (v30, v32, C31) => o0_0 = .out (v30, v32) ∧ (x12.c.l).length = (v30).length ∧ OwnC (α := Ln) 112 p21 c23 v30 C31) (fun | (v30, v32, C31) => [(4, .pointer (some ⟨b2, 0, none⟩)), (8, .bool x5.2.2.1), (10, .pointer (some ⟨b29, 0, none⟩)), (37, .slice p21 ((x12.c.l).length) c23), (38, .int .i64 ((x12.c.l).length : Int)), (39, .int .i64 v32)]) (fun | (v30, v32, C31) => [(1, [(b2, .cells #[.slice none 0 0, .slice none 0 0, .slice none 0 0, .int .i64 0, .int .i64 0, .int .i64 0, .int .i64 0, .slice none 0 0, .int .i64 0] 47 (0, 0))]), (6, C9), (12, C16), (13, C20), (14, C31), (16, [(b29, .cells #[.slice p13 ((x12.t.b).length) c15, .slice p17 ((x12.t.f).length) c19, .slice p21 ((x12.c.l).length) c23, .int .i64 x12.c.h, .int .i64 x5.1.c, .int .i64 x5.1.n, .int .i64 x5.1.r, .slice p6 ((x5.1.o).length) c8, .int .i64 a1] 47 (0, 0))])]) ?_ ?_)))))))))
      · refine cw_block (cw_loopS (ι := Nat × (List Ln) × Int × Res) (js := [1, 6, 12, 13, 14, 16]) (fun x => x.1) (fun | (fuel, v30, v32, C31) => i_EnterSpace_L0 fl x5 x12 fuel v30 v32 = some o0_0 ∧ (x12.c.l).length = (v30).length ∧ OwnC (α := Ln) 112 p21 c23 v30 C31) (fun | (_, v30, v32, C31) => [(4, .pointer (some ⟨b2, 0, none⟩)), (8, .bool x5.2.2.1), (10, .pointer (some ⟨b29, 0, none⟩)), (37, .slice p21 ((x12.c.l).length) c23), (38, .int .i64 ((x12.c.l).length : Int)), (39, .int .i64 v32)]) (fun | (_, v30, v32, C31) => [(1, [(b2, .cells #[.slice none 0 0, .slice none 0 0, .slice none 0 0, .int .i64 0, .int .i64 0, .int .i64 0, .int .i64 0, .slice none 0 0, .int .i64 0] 47 (0, 0))]), (6, C9), (12, C16), (13, C20), (14, C31), (16, [(b29, .cells #[.slice p13 ((x12.t.b).length) c15, .slice p17 ((x12.t.f).length) c19, .slice p21 ((x12.c.l).length) c23, .int .i64 x12.c.h, .int .i64 x5.1.c, .int .i64 x5.1.n, .int .i64 x5.1.r, .slice p6 ((x5.1.o).length) c8, .int .i64 a1] 47 (0, 0))])]) (fl, x12.c.l, 0, C24) ⟨eo0_0, rfl, o24⟩ ⟨rfl, rfl, rfl, rfl, rfl, rfl, trivial⟩ ⟨1, [6, 12, 13, 14, 16], rfl, rfl, 6, [12, 13, 14, 16], rfl, rfl, 12, [13, 14, 16], rfl, rfl, 13, [14, 16], rfl, rfl, 14, [16], rfl, rfl, 16, [], rfl, rfl, trivial⟩ (by decide) ?_)
        rintro ⟨fuel, v30, v32, C31⟩ ⟨H1, hl31, o31⟩
        have H1 : i_EnterSpace_L0 fl x5 x12 fuel v30 v32 = some o0_0 := H1
        rcases fuel with _ | fuel
        · rw [i_EnterSpace_L0.eq_1] at H1; cases H1
        rw [i_EnterSpace_L0.eq_2] at H1
        refine CW.sub (s' := [(4, .pointer (some ⟨b2, 0, none⟩)), (8, .bool x5.2.2.1), (10, .pointer (some ⟨b29, 0, none⟩)), (37, .slice p21 ((x12.c.l).length) c23), (38, .int .i64 ((x12.c.l).length : Int)), (39, .int .i64 v32)]) (h' := [(1, [(b2, .cells #[.slice none 0 0, .slice none 0 0, .slice none 0 0, .int .i64 0, .int .i64 0, .int .i64 0, .int .i64 0, .slice none 0 0, .int .i64 0] 47 (0, 0))]), (6, C9), (12, C16), (13, C20), (14, C31), (16, [(b29, .cells #[.slice p13 ((x12.t.b).length) c15, .slice p17 ((x12.t.f).length) c19, .slice p21 ((x12.c.l).length) c23, .int .i64 x12.c.h, .int .i64 x5.1.c, .int .i64 x5.1.n, .int .i64 x5.1.r, .slice p6 ((x5.1.o).length) c8, .int .i64 a1] 47 (0, 0))])]) ?_ ⟨rfl, rfl, rfl, rfl, rfl, rfl, trivial⟩ ⟨rfl, rfl, rfl, rfl, rfl, rfl, trivial⟩
        refine sr (oD (stp_lss rfl rfl) rfl (nn (cw_seq (cw_cond rfl (fun h33 => ?_) (fun h33 => ?_)))))
        · have H1 := cond_t H1 h33
          obtain ⟨x34, e34, H1⟩ := bind_some H1
          refine cw_skip (kw_nx (cw_seq (cw_block (sr (oD (mv rfl) rfl (oD (stp_indexAddr Tryz.underlying40 ts112 (by decide) rfl (by simp [hl31]) rfl (Rdb.own (id := 14) rfl o31) e34) rfl (oD (stp_loadN (us := [_, _, _, _, _, _]) ts112 rfl (Cells.el (Rdb.own (id := 14) rfl o31) (by decide) e34 0 6 rfl)) rfl (oE (stpU_alloc 17 tz112 rfl) rfl ?_))))))))
          rintro _ _ ⟨b35, rfl, rfl⟩
          refine oD (sg rfl) rfl (oF (stpU_store (id := 17) (cs' := [.bool x34.va, .int .i64 x34.tg, .int .i64 x34.pg, .int .i64 x34.fr, .int .i64 x34.ri, .bool x34.wi]) ts112 rfl rfl rfl rfl rfl rfl rfl) ?_)
          rintro _ _ rfl
          obtain ⟨y36, ey36, H1⟩ := bind_some H1
          refine nn (sr (oD (mv rfl) rfl (oD (mv rfl) rfl (ow_cutY 4 49 y36 ?_ ?_))))
          · rcases Bool.eq_false_or_eq_true x5.2.2.1 with hy36 | hy36
            · have ey36 := cond_t ey36 hy36
              refine oG rfl hy36 (fA 1 Tryz.underlying112 rfl ts3 rfl rfl rfl) rfl (oG rfl hy36 (lB 17 ts3 rfl rfl rfl) rfl (oG rfl hy36 (stp_neq rfl rfl) rfl (oD (stp_pick_t rfl hy36 rfl) rfl ?_)))
              obtain rfl := Option.some.inj ey36
              exact ow_nil (jy 4 0)
            · have ey36 := cond_f ey36 hy36
              refine oO rfl hy36 rfl (oO rfl hy36 rfl (oO rfl hy36 rfl (oD (stp_pick_f rfl hy36 rfl) rfl ?_)))
              obtain rfl := Option.some.inj ey36
              exact ow_nil (jy 4 0)
          · refine ow_nil (kw_nx (cw_cond rfl (fun h37 => ?_) (fun h37 => ?_)))
            · have H1 := cond_t H1 h37
              refine cw_region (oD (fA 2 Tryz.underlying47 rfl ts42 rfl rfl rfl) rfl (oD (fA 0 Tryz.underlying42 rfl ts40 rfl rfl rfl) rfl (oD (lB 16 ts40 rfl rfl rfl) rfl (oD (mv rfl) rfl (oD (stp_build (cs := #[.bool false, .int .i64 0, .int .i64 0, .int .i64 0, .int .i64 0, .bool false]) sevp_nil bt112_0) rfl (oD (stp_indexAddr Tryz.underlying40 ts112 (by decide) rfl (by simp [hl31]) rfl (Rdb.own (id := 14) rfl o31) e34) rfl (oF (stpU_storeEl (id := 14) (i := 0) (⟨false, 0, 0, 0, 0, false⟩ : Ln) (by decide) ts112 rfl rfl rfl o31 e34 rfl rfl rfl rfl) ?_)))))))
              rintro _ _ ⟨C38, rfl, o38⟩
              obtain ⟨x39, e39, H1⟩ := bind_some H1
              exact ow_nil (kw_bl_normal (kw_nx (cw_region (oD (stp_add rfl rfl e39) rfl (oD (mv rfl) rfl (ow_nil (kw_lqS (js := [1, 6, 12, 13, 14, 16]) (fuel, (v30.set (Int.toNat v32) (⟨false, 0, 0, 0, 0, false⟩ : Ln)), x39, C38) ⟨H1, (by simp [hl31]), o38⟩ (Nat.lt_succ_self _) ⟨rfl, rfl, rfl, rfl, rfl, rfl, trivial⟩ ⟨1, [6, 12, 13, 14, 16], rfl, rfl, 6, [12, 13, 14, 16], rfl, rfl, 12, [13, 14, 16], rfl, rfl, 13, [14, 16], rfl, rfl, 14, [16], rfl, rfl, 16, [], rfl, rfl, trivial⟩ (by decide))))))))
            · have H1 := cond_f H1 h37
              obtain ⟨x40, e40, H1⟩ := bind_some H1
              exact cw_skip (kw_bl_normal (kw_nx (cw_region (oD (stp_add rfl rfl e40) rfl (oD (mv rfl) rfl (ow_nil (kw_lqS (js := [1, 6, 12, 13, 14, 16]) (fuel, v30, x40, C31) ⟨H1, (by simp [hl31]), o31⟩ (Nat.lt_succ_self _) ⟨rfl, rfl, rfl, rfl, rfl, rfl, trivial⟩ ⟨1, [6, 12, 13, 14, 16], rfl, rfl, 6, [12, 13, 14, 16], rfl, rfl, 12, [13, 14, 16], rfl, rfl, 13, [14, 16], rfl, rfl, 14, [16], rfl, rfl, 16, [], rfl, rfl, trivial⟩ (by decide))))))))
        · have H1 := cond_f H1 h33
          refine cw_exit (kw_nx_exit (kw_lq_exit (kw_bl ?_)))
          have q1 := Option.some.inj H1
          subst q1
          exact kw_joinS (js := [1, 6, 12, 13, 14, 16]) (v30, v32, C31) ⟨rfl, (by simp [hl31]), o31⟩ ⟨rfl, rfl, rfl, rfl, rfl, rfl, trivial⟩ ⟨1, [6, 12, 13, 14, 16], rfl, rfl, 6, [12, 13, 14, 16], rfl, rfl, 12, [13, 14, 16], rfl, rfl, 13, [14, 16], rfl, rfl, 14, [16], rfl, rfl, 16, [], rfl, rfl, trivial⟩ (by decide)
      · rintro ⟨v30, v32, C31⟩ ⟨rfl, hl31, o31⟩
        refine KW.sub (s' := [(4, .pointer (some ⟨b2, 0, none⟩)), (8, .bool x5.2.2.1), (10, .pointer (some ⟨b29, 0, none⟩)), (37, .slice p21 ((x12.c.l).length) c23), (38, .int .i64 ((x12.c.l).length : Int)), (39, .int .i64 v32)]) (h' := [(1, [(b2, .cells #[.slice none 0 0, .slice none 0 0, .slice none 0 0, .int .i64 0, .int .i64 0, .int .i64 0, .int .i64 0, .slice none 0 0, .int .i64 0] 47 (0, 0))]), (6, C9), (12, C16), (13, C20), (14, C31), (16, [(b29, .cells #[.slice p13 ((x12.t.b).length) c15, .slice p17 ((x12.t.f).length) c19, .slice p21 ((x12.c.l).length) c23, .int .i64 x12.c.h, .int .i64 x5.1.c, .int .i64 x5.1.n, .int .i64 x5.1.r, .slice p6 ((x5.1.o).length) c8, .int .i64 a1] 47 (0, 0))])]) ?_ ⟨rfl, rfl, rfl, rfl, rfl, rfl, trivial⟩ ⟨rfl, rfl, rfl, rfl, rfl, rfl, trivial⟩
        refine kw_nx (sr (oD (stp_loadN (us := [_, _, _, _, _, _, _, _, _]) ts47 rfl (Cells.box (id := 16) rfl 9 rfl)) rfl (oF (stpU_store (id := 1) (cs' := [.slice p13 ((x12.t.b).length) c15, .slice p17 ((x12.t.f).length) c19, .slice p21 ((x12.c.l).length) c23, .int .i64 x12.c.h, .int .i64 x5.1.c, .int .i64 x5.1.n, .int .i64 x5.1.r, .slice p6 ((x5.1.o).length) c8, .int .i64 a1]) ts47 rfl rfl rfl rfl rfl rfl rfl) ?_)))
        rintro _ _ rfl
        refine oD (sg rfl) rfl (nn (cw_ret ?_))
        have q0 := Option.some.inj H0
        subst q0
        exact kw_ret Tryz.results23 (.cons (.cellN (us := [_, _, _, _, _, _, _, _, _]) ts47 rfl (Cells.box (id := 1) rfl 9 rfl)) (.cons (.tmp rfl) .nil)) [(0, C16), (1, C20), (2, C31), (3, C9)] [12, 13, 14, 6] ⟨12, [13, 14, 6], rfl, rfl, 13, [14, 6], rfl, rfl, 14, [6], rfl, rfl, 6, [], rfl, rfl, trivial⟩ (by decide) ⟨p13, ((x12.t.b).length), c15, C16, p17, ((x12.t.f).length), c19, C20, p21, ((x12.c.l).length), c23, C31, p6, ((x5.1.o).length), c8, C9, rfl, rfl, rfl, o16, rfl, o20, (by simp [hl31]), o31, rfl, o9⟩

set_option maxHeartbeats 4000000 in
set_option maxRecDepth 20000 in
theorem c_l_FnExactEnterSpace (fl : Nat) (w : World) (a0 : Mc) (p0_0 : Option Addr) (n0_0 c0_0 : Nat) (p0_1 : Option Addr) (n0_1 c0_1 : Nat) (p0_2 : Option Addr) (n0_2 c0_2 : Nat) (p0_3 : Option Addr) (n0_3 c0_3 : Nat) (a1 : Int) (hn0_0 : n0_0 = (a0.t.b).length) (hr0_0 : RO w (hkeys []) (RdL p0_0 c0_0 a0.t.b)) (hn0_1 : n0_1 = (a0.t.f).length) (hr0_1 : RO w (hkeys []) (RdL p0_1 c0_1 a0.t.f)) (hn0_2 : n0_2 = (a0.c.l).length) (hr0_2 : RO w (hkeys []) (RdL p0_2 c0_2 a0.c.l)) (hn0_3 : n0_3 = (a0.g.o).length) (hr0_3 : RO w (hkeys []) (RdL p0_3 c0_3 a0.g.o)) (hg : RO w (hkeys []) (fun w' => w'.rangeAt 0 0 [.bool false, .int .i64 0, .int .i64 0, .int .i64 0, .int .i64 (-1)])) (r : Bool) (H0 : l_FnExactEnterSpace fl a0 a1 = some r) :
    Ct Tryz.prog 4 [.agg #[.slice p0_0 n0_0 c0_0, .slice p0_1 n0_1 c0_1, .slice p0_2 n0_2 c0_2, .int .i64 a0.c.h, .int .i64 a0.g.c, .int .i64 a0.g.n, .int .i64 a0.g.r, .slice p0_3 n0_3 c0_3, .int .i64 a0.s], .int .i64 a1] w [] (fun rv h' => rv = .bool r ∧ h' = []) := by
  obtain rfl := hn0_0
  obtain rfl := hn0_1
  obtain rfl := hn0_2
  obtain rfl := hn0_3
  unfold l_FnExactEnterSpace at H0
  refine ct_of_cw Tryz.func4 rfl Tryz.ntmps4 rfl (Sat.refl _ _) ?_
  refine sr (oE (stpU_box 0 rfl rfl) rfl ?_)
  rintro _ _ ⟨b1, rfl, rfl⟩
  obtain ⟨x2, e2, H0⟩ := bind_some H0
  refine oD (sg rfl) rfl (nn (sr (oD (sg rfl) rfl (nn (sr (oD (stp_loadN (us := [_, _, _, _, _, _, _, _, _]) ts33 rfl (Cells.box (id := 0) rfl 9 rfl)) rfl (oD (mv rfl) rfl (oE (stpU_call (fun i => 1 + i) cf14 (fun w hw => c_l_szMachine fl w a0 p0_0 ((a0.t.b).length) c0_0 p0_1 ((a0.t.f).length) c0_1 p0_2 ((a0.c.l).length) c0_2 p0_3 ((a0.g.o).length) c0_3 1048576 rfl (RO.pass hr0_0 hw) rfl (RO.pass hr0_1 hw) rfl (RO.pass hr0_2 hw) rfl (RO.pass hr0_3 hw) x2 e2) (sevs_cons rfl (sevs_cons rfl sevs_nil))) rfl ?_))))))))
  rintro _ _ ⟨_, ⟨rfl, rfl⟩, rfl⟩
  refine oD (sg rfl) rfl (nn (cw_seq (sr (oD (mv rfl) rfl (oD (stp_lss rfl rfl) rfl (nn (cw_cond rfl (fun h3 => ?_) (fun h3 => ?_))))))))
  · have H0 := cond_t H0 h3
    refine sr (oD (sg rfl) rfl (nn (cw_ret (kw_nx_ret ?_))))
    have q0 := Option.some.inj H0
    subst q0
    exact kw_ret Tryz.results4 (.cons (.tmp rfl) .nil) [] [] trivial (by decide) ⟨rfl, rfl⟩
  · have H0 := cond_f H0 h3
    obtain ⟨x4, e4, H0⟩ := bind_some H0
    refine cw_skip (kw_nx (sr (oD (stp_loadN (us := [_, _, _, _, _, _, _, _, _]) ts33 rfl (Cells.box (id := 0) rfl 9 rfl)) rfl (oE (stpU_call (fun i => 1 + i) cf16 (fun w hw => c_l_toMachine fl w a0 p0_0 ((a0.t.b).length) c0_0 p0_1 ((a0.t.f).length) c0_1 p0_2 ((a0.c.l).length) c0_2 p0_3 ((a0.g.o).length) c0_3 rfl (RO.pass hr0_0 hw) rfl (RO.pass hr0_1 hw) rfl (RO.pass hr0_2 hw) rfl (RO.pass hr0_3 hw) x4 e4) (sevs_cons rfl sevs_nil)) rfl ?_))))
    rintro _ _ ⟨_, ⟨p5, n6, c7, C8, p9, n10, c11, C12, p13, n14, c15, C16, p17, n18, c19, C20, rfl, rfl, hnn6, o8, hnn10, o12, hnn14, o16, hnn18, o20⟩, rfl⟩
    obtain rfl := hnn6
    obtain rfl := hnn10
    obtain rfl := hnn14
    obtain rfl := hnn18
    obtain ⟨x21, e21, H0⟩ := bind_some H0
    refine oD (mv rfl) rfl (oE (stpU_call (fun i => 5 + i) cf22 (fun w hw => c_s_EnterSpace fl w x4 p5 ((x4.t.b).length) c7 p9 ((x4.t.f).length) c11 p13 ((x4.c.l).length) c15 p17 ((x4.g.o).length) c19 a1 rfl (OwnC.pass (id := 1) rfl o8 hw) rfl (OwnC.pass (id := 2) rfl o12 hw) rfl (OwnC.pass (id := 3) rfl o16 hw) rfl (OwnC.pass (id := 4) rfl o20 hw) x21 e21) (sevs_cons rfl (sevs_cons rfl sevs_nil))) rfl ?_)
    rintro _ _ ⟨_, ⟨p22, n23, c24, C25, p26, n27, c28, C29, p30, n31, c32, C33, p34, n35, c36, C37, rfl, rfl, hnn23, o25, hnn27, o29, hnn31, o33, hnn35, o37⟩, rfl⟩
    obtain rfl := hnn23
    obtain rfl := hnn27
    obtain rfl := hnn31
    obtain rfl := hnn35
    refine oD (mv rfl) rfl (oD (stp_extract rfl rfl) rfl (oD (stp_extract rfl rfl) rfl (oE (stpU_alloc 9 tz47 rfl) rfl ?_)))
    rintro _ _ ⟨b38, rfl, rfl⟩
    refine oF (stpU_store (id := 9) (cs' := [.slice p22 ((x21.1.t.b).length) c24, .slice p26 ((x21.1.t.f).length) c28, .slice p30 ((x21.1.c.l).length) c32, .int .i64 x21.1.c.h, .int .i64 x21.1.g.c, .int .i64 x21.1.g.n, .int .i64 x21.1.g.r, .slice p34 ((x21.1.g.o).length) c36, .int .i64 x21.1.s]) ts47 rfl rfl rfl rfl rfl rfl rfl) ?_
    rintro _ _ rfl
    obtain ⟨x39, e39, H0⟩ := bind_some H0
    refine oD (sg rfl) rfl (nn (sr (oD (stp_loadN (us := [_, _, _, _, _, _, _, _, _]) ts33 rfl (Cells.box (id := 0) rfl 9 rfl)) rfl (oE (stpU_call (fun i => 10 + i) cf16 (fun w hw => c_l_toMachine fl w a0 p0_0 ((a0.t.b).length) c0_0 p0_1 ((a0.t.f).length) c0_1 p0_2 ((a0.c.l).length) c0_2 p0_3 ((a0.g.o).length) c0_3 rfl (RO.pass hr0_0 hw) rfl (RO.pass hr0_1 hw) rfl (RO.pass hr0_2 hw) rfl (RO.pass hr0_3 hw) x39 e39) (sevs_cons rfl sevs_nil)) rfl ?_))))
    rintro _ _ ⟨_, ⟨p40, n41, c42, C43, p44, n45, c46, C47, p48, n49, c50, C51, p52, n53, c54, C55, rfl, rfl, hnn41, o43, hnn45, o47, hnn49, o51, hnn53, o55⟩, rfl⟩
    obtain rfl := hnn41
    obtain rfl := hnn45
    obtain rfl := hnn49
    obtain rfl := hnn53
    refine oE (stpU_alloc 14 tz47 rfl) rfl ?_
    rintro _ _ ⟨b56, rfl, rfl⟩
    refine oF (stpU_store (id := 14) (cs' := [.slice p40 ((x39.t.b).length) c42, .slice p44 ((x39.t.f).length) c46, .slice p48 ((x39.c.l).length) c50, .int .i64 x39.c.h, .int .i64 x39.g.c, .int .i64 x39.g.n, .int .i64 x39.g.r, .slice p52 ((x39.g.o).length) c54, .int .i64 x39.s]) ts47 rfl rfl rfl rfl rfl rfl rfl) ?_
    rintro _ _ rfl
    obtain ⟨x57, e57, H0⟩ := bind_some H0
    refine nn (sr (oD (stp_loadN (us := [_, _, _, _, _, _, _, _, _]) ts47 rfl (Cells.box (id := 14) rfl 9 rfl)) rfl (oD (mv rfl) rfl (oE (stpU_call (fun i => 15 + i) cf23 (fun w hw => c_i_EnterSpace fl w x39 p40 ((x39.t.b).length) c42 p44 ((x39.t.f).length) c46 p48 ((x39.c.l).length) c50 p52 ((x39.g.o).length) c54 a1 rfl (OwnC.pass (id := 10) rfl o43 hw) rfl (OwnC.pass (id := 11) rfl o47 hw) rfl (OwnC.pass (id := 12) rfl o51 hw) rfl (OwnC.pass (id := 13) rfl o55 hw) (RO.pass hg hw) x57 e57) (sevs_cons rfl (sevs_cons rfl sevs_nil))) rfl ?_))))
    rintro _ _ ⟨_, ⟨p58, n59, c60, C61, p62, n63, c64, C65, p66, n67, c68, C69, p70, n71, c72, C73, rfl, rfl, hnn59, o61, hnn63, o65, hnn67, o69, hnn71, o73⟩, rfl⟩
    obtain rfl := hnn59
    obtain rfl := hnn63
    obtain rfl := hnn67
    obtain rfl := hnn71
    refine oD (mv rfl) rfl (oD (stp_extract rfl rfl) rfl (oD (stp_extract rfl rfl) rfl (oE (stpU_alloc 19 tz47 rfl) rfl ?_)))
    rintro _ _ ⟨b74, rfl, rfl⟩
    refine oF (stpU_store (id := 19) (cs' := [.slice p58 ((x57.1.t.b).length) c60, .slice p62 ((x57.1.t.f).length) c64, .slice p66 ((x57.1.c.l).length) c68, .int .i64 x57.1.c.h, .int .i64 x57.1.g.c, .int .i64 x57.1.g.n, .int .i64 x57.1.g.r, .slice p70 ((x57.1.g.o).length) c72, .int .i64 x57.1.s]) ts47 rfl rfl rfl rfl rfl rfl rfl) ?_
    rintro _ _ rfl
    obtain ⟨x75, e75, H0⟩ := bind_some H0
    refine oD (sg rfl) rfl (nn (cw_seq (sr (oD (stp_loadN (us := [_, _, _, _, _, _, _, _, _]) ts47 rfl (Cells.box (id := 19) rfl 9 rfl)) rfl (oD (stp_loadN (us := [_, _, _, _, _, _, _, _, _]) ts47 rfl (Cells.box (id := 9) rfl 9 rfl)) rfl (oE (stpU_call (fun i => 20 + i) cf19 (fun w hw => c_l_eqMachine fl w x57.1 p58 ((x57.1.t.b).length) c60 p62 ((x57.1.t.f).length) c64 p66 ((x57.1.c.l).length) c68 p70 ((x57.1.g.o).length) c72 x21.1 p22 ((x21.1.t.b).length) c24 p26 ((x21.1.t.f).length) c28 p30 ((x21.1.c.l).length) c32 p34 ((x21.1.g.o).length) c36 rfl (OwnC.pass (id := 15) rfl o61 hw) rfl (OwnC.pass (id := 16) rfl o65 hw) rfl (OwnC.pass (id := 17) rfl o69 hw) rfl (OwnC.pass (id := 18) rfl o73 hw) rfl (OwnC.pass (id := 5) rfl o25 hw) rfl (OwnC.pass (id := 6) rfl o29 hw) rfl (OwnC.pass (id := 7) rfl o33 hw) rfl (OwnC.pass (id := 8) rfl o37 hw) x75 e75) (sevs_cons rfl (sevs_cons rfl sevs_nil))) rfl ?_))))))
    rintro _ _ ⟨_, ⟨rfl, rfl⟩, rfl⟩
    obtain ⟨y76, ey76, H0⟩ := bind_some H0
    refine oD (stp_not rfl) rfl (oD (mv rfl) rfl (ow_cutY 4 44 y76 ?_ ?_))
    · rcases Bool.eq_false_or_eq_true (!x75) with hy76 | hy76
      · have ey76 := cond_t ey76 hy76
        refine oO rfl hy76 rfl (oO rfl hy76 rfl (oO rfl hy76 rfl (oD (stp_pick_t rfl hy76 rfl) rfl ?_)))
        obtain rfl := Option.some.inj ey76
        exact ow_nil (jy 4 0)
      · have ey76 := cond_f ey76 hy76
        refine oG rfl hy76 (mv rfl) rfl (oG rfl hy76 (mv rfl) rfl (oG rfl hy76 (stp_neqB Tryz.underlying4 rfl rfl) rfl (oD (stp_pick_f rfl hy76 rfl) rfl ?_)))
        obtain rfl := Option.some.inj ey76
        exact ow_nil (jy 4 0)
    · refine ow_nil (kw_nx (cw_cond rfl (fun h77 => ?_) (fun h77 => ?_)))
      · have H0 := cond_t H0 h77
        refine sr (oD (sg rfl) rfl (nn (cw_ret (kw_nx_ret ?_))))
        have q0 := Option.some.inj H0
        subst q0
        exact kw_ret Tryz.results4 (.cons (.tmp rfl) .nil) [] [] trivial (by decide) ⟨rfl, rfl⟩
      · have H0 := cond_f H0 h77
        obtain ⟨x78, e78, H0⟩ := bind_some H0
        obtain ⟨x95, e95, H0⟩ := bind_some H0
        refine cw_skip (kw_nx (cw_seq (cw_seq (rdr g_mixed [2, 8] [0, 10, 11, 12, 13, 14] { dst := dS [46, 47, 48, 49, 50], pre := gA [] [[], [], [1], [0, 1, 2], rn 0 4], ids := gA [] [[], [], [20, 21, 22, 23]], rs := rL [[(8, 0)], [(2, 0)], [(46, 2)], [(45, 1), (47, 3)], [(48, 4)]], rh := rL [[(14, 0)], [(0, 0)], [], [(10, 0), (11, 0), (12, 0), (13, 0), (20, 3), (21, 3), (22, 3), (23, 3)]], V := fun i g => gA undef [.agg #[.slice p40 ((x39.t.b).length) c42, .slice p44 ((x39.t.f).length) c46, .slice p48 ((x39.c.l).length) c50, .int .i64 x39.c.h, .int .i64 x39.g.c, .int .i64 x39.g.n, .int .i64 x39.g.r, .slice p52 ((x39.g.o).length) c54, .int .i64 x39.s], .agg #[.slice p0_0 ((a0.t.b).length) c0_0, .slice p0_1 ((a0.t.f).length) c0_1, .slice p0_2 ((a0.c.l).length) c0_2, .int .i64 a0.c.h, .int .i64 a0.g.c, .int .i64 a0.g.n, .int .i64 a0.g.r, .slice p0_3 ((a0.g.o).length) c0_3, .int .i64 a0.s], .agg #[.slice ((g 2).A 0) ((x78.t.b).length) ((g 2).C 0), .slice ((g 2).A 1) ((x78.t.f).length) ((g 2).C 1), .slice ((g 2).A 2) ((x78.c.l).length) ((g 2).C 2), .int .i64 x78.c.h, .int .i64 x78.g.c, .int .i64 x78.g.n, .int .i64 x78.g.r, .slice ((g 2).A 3) ((x78.g.o).length) ((g 2).C 3), .int .i64 x78.s], .bool x95, .bool (!x95)] i, U := fun i g => gA [] [[], [], [(20, ((g 2).R 0)), (21, ((g 2).R 1)), (22, ((g 2).R 2)), (23, ((g 2).R 3))]] i, Φ := fun i x => gA True [True, True, OwnC (α := Int) 3 (x.A 0) (x.C 0) x78.t.b (x.R 0) ∧ OwnC (α := F) 127 (x.A 1) (x.C 1) x78.t.f (x.R 1) ∧ OwnC (α := Ln) 112 (x.A 2) (x.C 2) x78.c.l (x.R 2) ∧ OwnC (α := Ow) 148 (x.A 3) (x.C 3) x78.g.o (x.R 3)] i } ?_ ?_))))
        · refine ⟨⟨⟨⟨⟨trivial, lc rfl rfl fun hs hh => stp_loadN (us := [_, _, _, _, _, _, _, _, _]) ts47 (sv hs 8 rfl) (Cells.box (id := 14) (hh.get 14 _ rfl) 9 rfl)⟩, lc rfl rfl fun hs hh => stp_loadN (us := [_, _, _, _, _, _, _, _, _]) ts33 (sv hs 2 rfl) (Cells.box (id := 0) (hh.get 0 _ rfl) 9 rfl)⟩, ?_⟩, ?_⟩, lc rfl rfl fun hs hh => stp_not (sv hs 48 rfl)⟩
          · refine le rfl rfl (fun g hΦ s h hs hh => (stpU_call (fun i => 20 + i) cf16 (fun w hw => c_l_toMachine fl w a0 p0_0 ((a0.t.b).length) c0_0 p0_1 ((a0.t.f).length) c0_1 p0_2 ((a0.c.l).length) c0_2 p0_3 ((a0.g.o).length) c0_3 rfl (RO.pass hr0_0 hw) rfl (RO.pass hr0_1 hw) rfl (RO.pass hr0_2 hw) rfl (RO.pass hr0_3 hw) x78 e78) (sevs_cons (sv hs 46 rfl) sevs_nil))) ?_
            rintro g _ _ ⟨_, ⟨p79, n80, c81, C82, p83, n84, c85, C86, p87, n88, c89, C90, p91, n92, c93, C94, rfl, rfl, hnn80, o82, hnn84, o86, hnn88, o90, hnn92, o94⟩, rfl⟩
            obtain rfl := hnn80
            obtain rfl := hnn84
            obtain rfl := hnn88
            obtain rfl := hnn92
            exact ⟨⟨[p79, p83, p87, p91], [c81, c85, c89, c93], [C82, C86, C90, C94]⟩, ⟨o82, o86, o90, o94⟩, .inr rfl, rfl⟩
          · refine le rfl rfl (fun g hΦ s h hs hh => (stpU_call (fun i => 24 + i) cf19 (fun w hw => c_l_eqMachine fl w x39 p40 ((x39.t.b).length) c42 p44 ((x39.t.f).length) c46 p48 ((x39.c.l).length) c50 p52 ((x39.g.o).length) c54 x78 ((g 2).A 0) ((x78.t.b).length) ((g 2).C 0) ((g 2).A 1) ((x78.t.f).length) ((g 2).C 1) ((g 2).A 2) ((x78.c.l).length) ((g 2).C 2) ((g 2).A 3) ((x78.g.o).length) ((g 2).C 3) rfl (OwnC.pass (id := 10) (hh.get 10 _ rfl) o43 hw) rfl (OwnC.pass (id := 11) (hh.get 11 _ rfl) o47 hw) rfl (OwnC.pass (id := 12) (hh.get 12 _ rfl) o51 hw) rfl (OwnC.pass (id := 13) (hh.get 13 _ rfl) o55 hw) rfl (OwnC.pass (id := 20) (hh.get 20 _ rfl) (hΦ 2 rfl).1 hw) rfl (OwnC.pass (id := 21) (hh.get 21 _ rfl) (hΦ 2 rfl).2.1 hw) rfl (OwnC.pass (id := 22) (hh.get 22 _ rfl) (hΦ 2 rfl).2.2.1 hw) rfl (OwnC.pass (id := 23) (hh.get 23 _ rfl) (hΦ 2 rfl).2.2.2 hw) x95 e95) (sevs_cons (sv hs 45 rfl) (sevs_cons (sv hs 47 rfl) sevs_nil)))) ?_
            rintro g _ _ ⟨_, ⟨rfl, rfl⟩, rfl⟩
            exact ⟨⟨[], [], []⟩, trivial, .inr rfl, rfl⟩
        · intro g hΦ
          refine kw_gen (ι := Option Addr × Option Addr × Option Addr × Option Addr × Nat × Nat × Nat × Nat × Res × Res × Res × Res) (((g 2).A 0), ((g 2).A 1), ((g 2).A 2), ((g 2).A 3), ((g 2).C 0), ((g 2).C 1), ((g 2).C 2), ((g 2).C 3), ((g 2).R 0), ((g 2).R 1), ((g 2).R 2), ((g 2).R 3)) (fun | (p79, p83, p87, p91, c81, c85, c89, c93, C82, C86, C90, C94) => OwnC (α := Int) 3 p79 c81 x78.t.b C82 ∧ OwnC (α := F) 127 p83 c85 x78.t.f C86 ∧ OwnC (α := Ln) 112 p87 c89 x78.c.l C90 ∧ OwnC (α := Ow) 148 p91 c93 x78.g.o C94) (fun | (p79, p83, p87, p91, c81, c85, c89, c93, C82, C86, C90, C94) => [(1, .int .i64 a1), (2, .pointer (some ⟨b1, 0, none⟩)), (6, .pointer (some ⟨b38, 0, none⟩)), (7, .bool x21.2), (8, .pointer (some ⟨b56, 0, none⟩)), (9, .pointer (some ⟨b74, 0, none⟩)), (10, .bool x57.2), (49, .bool (!x95))]) (fun | (p79, p83, p87, p91, c81, c85, c89, c93, C82, C86, C90, C94) => [(0, [(b1, .cells #[.slice p0_0 ((a0.t.b).length) c0_0, .slice p0_1 ((a0.t.f).length) c0_1, .slice p0_2 ((a0.c.l).length) c0_2, .int .i64 a0.c.h, .int .i64 a0.g.c, .int .i64 a0.g.n, .int .i64 a0.g.r, .slice p0_3 ((a0.g.o).length) c0_3, .int .i64 a0.s] 33 (0, 0))]), (5, C25), (6, C29), (7, C33), (8, C37), (9, [(b38, .cells #[.slice p22 ((x21.1.t.b).length) c24, .slice p26 ((x21.1.t.f).length) c28, .slice p30 ((x21.1.c.l).length) c32, .int .i64 x21.1.c.h, .int .i64 x21.1.g.c, .int .i64 x21.1.g.n, .int .i64 x21.1.g.r, .slice p34 ((x21.1.g.o).length) c36, .int .i64 x21.1.s] 47 (0, 0))]), (10, C43), (11, C47), (12, C51), (13, C55), (14, [(b56, .cells #[.slice p40 ((x39.t.b).length) c42, .slice p44 ((x39.t.f).length) c46, .slice p48 ((x39.c.l).length) c50, .int .i64 x39.c.h, .int .i64 x39.g.c, .int .i64 x39.g.n, .int .i64 x39.g.r, .slice p52 ((x39.g.o).length) c54, .int .i64 x39.s] 47 (0, 0))]), (15, C61), (16, C65), (17, C69), (18, C73), (19, [(b74, .cells #[.slice p58 ((x57.1.t.b).length) c60, .slice p62 ((x57.1.t.f).length) c64, .slice p66 ((x57.1.c.l).length) c68, .int .i64 x57.1.c.h, .int .i64 x57.1.g.c, .int .i64 x57.1.g.n, .int .i64 x57.1.g.r, .slice p70 ((x57.1.g.o).length) c72, .int .i64 x57.1.s] 47 (0, 0))])]) ⟨(hΦ 2 (by decide)).1, (hΦ 2 (by decide)).2.1, (hΦ 2 (by decide)).2.2.1, (hΦ 2 (by decide)).2.2.2⟩ ⟨rfl, rfl, rfl, rfl, rfl, rfl, rfl, rfl, trivial⟩ ⟨rfl, rfl, rfl, rfl, rfl, rfl, rfl, rfl, rfl, rfl, rfl, rfl, rfl, rfl, rfl, rfl, trivial⟩ ?_
          rintro ⟨p79, p83, p87, p91, c81, c85, c89, c93, C82, C86, C90, C94⟩ ⟨o82, o86, o90, o94⟩
          refine KW.sub (s' := [(1, .int .i64 a1), (2, .pointer (some ⟨b1, 0, none⟩)), (6, .pointer (some ⟨b38, 0, none⟩)), (7, .bool x21.2), (8, .pointer (some ⟨b56, 0, none⟩)), (9, .pointer (some ⟨b74, 0, none⟩)), (10, .bool x57.2), (49, .bool (!x95))]) (h' := [(0, [(b1, .cells #[.slice p0_0 ((a0.t.b).length) c0_0, .slice p0_1 ((a0.t.f).length) c0_1, .slice p0_2 ((a0.c.l).length) c0_2, .int .i64 a0.c.h, .int .i64 a0.g.c, .int .i64 a0.g.n, .int .i64 a0.g.r, .slice p0_3 ((a0.g.o).length) c0_3, .int .i64 a0.s] 33 (0, 0))]), (5, C25), (6, C29), (7, C33), (8, C37), (9, [(b38, .cells #[.slice p22 ((x21.1.t.b).length) c24, .slice p26 ((x21.1.t.f).length) c28, .slice p30 ((x21.1.c.l).length) c32, .int .i64 x21.1.c.h, .int .i64 x21.1.g.c, .int .i64 x21.1.g.n, .int .i64 x21.1.g.r, .slice p34 ((x21.1.g.o).length) c36, .int .i64 x21.1.s] 47 (0, 0))]), (10, C43), (11, C47), (12, C51), (13, C55), (14, [(b56, .cells #[.slice p40 ((x39.t.b).length) c42, .slice p44 ((x39.t.f).length) c46, .slice p48 ((x39.c.l).length) c50, .int .i64 x39.c.h, .int .i64 x39.g.c, .int .i64 x39.g.n, .int .i64 x39.g.r, .slice p52 ((x39.g.o).length) c54, .int .i64 x39.s] 47 (0, 0))]), (15, C61), (16, C65), (17, C69), (18, C73), (19, [(b74, .cells #[.slice p58 ((x57.1.t.b).length) c60, .slice p62 ((x57.1.t.f).length) c64, .slice p66 ((x57.1.c.l).length) c68, .int .i64 x57.1.c.h, .int .i64 x57.1.g.c, .int .i64 x57.1.g.n, .int .i64 x57.1.g.r, .slice p70 ((x57.1.g.o).length) c72, .int .i64 x57.1.s] 47 (0, 0))])]) ?_ ⟨rfl, rfl, rfl, rfl, rfl, rfl, rfl, rfl, trivial⟩ ⟨rfl, rfl, rfl, rfl, rfl, rfl, rfl, rfl, rfl, rfl, rfl, rfl, rfl, rfl, rfl, rfl, trivial⟩
          refine kw_nx (cw_cond rfl (fun h96 => ?_) (fun h96 => ?_))
          · have H0 := cond_t H0 h96
            refine sr (oD (sg rfl) rfl (nn (cw_ret (kw_nx_ret ?_))))
            have q0 := Option.some.inj H0
            subst q0
            exact kw_ret Tryz.results4 (.cons (.tmp rfl) .nil) [] [] trivial (by decide) ⟨rfl, rfl⟩
          · have H0 := cond_f H0 h96
            obtain ⟨x97, e97, H0⟩ := bind_some H0
            refine cw_skip (kw_nx (sr (oD (sg rfl) rfl (nn (sr (oD (stp_loadN (us := [_, _, _, _, _, _, _, _, _]) ts47 rfl (Cells.box (id := 14) rfl 9 rfl)) rfl (oD (mv rfl) rfl (oE (stpU_callM (fun i => bif Nat.beq i 0 then 10 else bif Nat.beq i 1 then 11 else bif Nat.beq i 2 then 12 else bif Nat.beq i 3 then 13 else 24 + i) cf20 (fun w hw hb => c_l_markMachine fl w x39 p40 ((x39.t.b).length) c42 C43 p44 ((x39.t.f).length) c46 C47 p48 ((x39.c.l).length) c50 C51 p52 ((x39.g.o).length) c54 C55 1 rfl o43 rfl o47 rfl o51 rfl o55 (hw.pass (js := [10, 11, 12, 13]) ⟨10, [11, 12, 13], rfl, rfl, 11, [12, 13], rfl, rfl, 12, [13], rfl, rfl, 13, [], rfl, rfl, trivial⟩ (by decide)) x97 e97) (sevs_cons rfl (sevs_cons rfl sevs_nil)) ⟨rfl, (fun _ _ hp => by obtain ⟨_, _, _, _, _, rfl, _⟩ := hp; exact ⟨_, rfl⟩), rfl, (fun _ _ hp => by obtain ⟨_, _, _, _, _, rfl, _⟩ := hp; exact ⟨_, rfl⟩), rfl, (fun _ _ hp => by obtain ⟨_, _, _, _, _, rfl, _⟩ := hp; exact ⟨_, rfl⟩), rfl, (fun _ _ hp => by obtain ⟨_, _, _, _, _, rfl, _⟩ := hp; exact ⟨_, rfl⟩), trivial⟩) rfl ?_))))))))
            rintro _ _ ⟨_, ⟨C98, C99, C100, C101, rfl, rfl, hl98, o98, hl99, o99, hl100, o100, hl101, o101⟩, rfl⟩
            obtain ⟨y102, ey102, H0⟩ := bind_some H0
            refine oD (sg rfl) rfl (nn (cw_seq (sr (oD (mv rfl) rfl (oD (stp_lss rfl rfl) rfl (oD (mv rfl) rfl (ow_cutY 5 60 y102 ?_ ?_)))))))
            · rcases Bool.eq_false_or_eq_true (decide (x97.1 < 0)) with hy102 | hy102
              · have ey102 := cond_t ey102 hy102
                refine oO rfl hy102 rfl (oO rfl hy102 rfl (oO rfl hy102 rfl (oO rfl hy102 rfl (oD (stp_pick_t rfl hy102 rfl) rfl ?_))))
                obtain rfl := Option.some.inj ey102
                exact ow_nil (jy 5 0)
              · have ey102 := cond_f ey102 hy102
                refine oG rfl hy102 (stp_loadN (us := [_, _, _, _, _, _, _, _, _]) ts47 rfl (Cells.box (id := 19) rfl 9 rfl)) rfl (oG rfl hy102 (stp_loadN (us := [_, _, _, _, _, _, _, _, _]) ts47 rfl (Cells.box (id := 9) rfl 9 rfl)) rfl (ow_eff (.some rfl hy102) (stpU_call (fun i => 28 + i) cf19 (fun w hw => c_l_eqMachine fl w x57.1 p58 ((x57.1.t.b).length) c60 p62 ((x57.1.t.f).length) c64 p66 ((x57.1.c.l).length) c68 p70 ((x57.1.g.o).length) c72 x21.1 p22 ((x21.1.t.b).length) c24 p26 ((x21.1.t.f).length) c28 p30 ((x21.1.c.l).length) c32 p34 ((x21.1.g.o).length) c36 rfl (OwnC.pass (id := 15) rfl o61 hw) rfl (OwnC.pass (id := 16) rfl o65 hw) rfl (OwnC.pass (id := 17) rfl o69 hw) rfl (OwnC.pass (id := 18) rfl o73 hw) rfl (OwnC.pass (id := 5) rfl o25 hw) rfl (OwnC.pass (id := 6) rfl o29 hw) rfl (OwnC.pass (id := 7) rfl o33 hw) rfl (OwnC.pass (id := 8) rfl o37 hw) x75 e75) (sevs_cons rfl (sevs_cons rfl sevs_nil))) rfl ?_))
                rintro _ _ ⟨_, ⟨rfl, rfl⟩, rfl⟩
                refine oG rfl hy102 (stp_not rfl) rfl (oD (stp_pick_f rfl hy102 rfl) rfl ?_)
                obtain rfl := Option.some.inj ey102
                exact ow_nil (jy 5 0)
            · obtain ⟨y103, ey103, H0⟩ := bind_some H0
              refine oD (mv rfl) rfl (ow_cutY 4 65 y103 ?_ ?_)
              · rcases Bool.eq_false_or_eq_true y102 with hy103 | hy103
                · have ey103 := cond_t ey103 hy103
                  refine oO rfl hy103 rfl (oO rfl hy103 rfl (oO rfl hy103 rfl (oD (stp_pick_t rfl hy103 rfl) rfl ?_)))
                  obtain rfl := Option.some.inj ey103
                  exact ow_nil (jy 4 0)
                · have ey103 := cond_f ey103 hy103
                  refine oG rfl hy103 (mv rfl) rfl (oG rfl hy103 (mv rfl) rfl (oG rfl hy103 (stp_neqB Tryz.underlying4 rfl rfl) rfl (oD (stp_pick_f rfl hy103 rfl) rfl ?_)))
                  obtain rfl := Option.some.inj ey103
                  exact ow_nil (jy 4 0)
              · refine ow_nil (kw_nx (cw_cond rfl (fun h104 => ?_) (fun h104 => ?_)))
                · have H0 := cond_t H0 h104
                  refine sr (oD (sg rfl) rfl (nn (cw_ret (kw_nx_ret ?_))))
                  have q0 := Option.some.inj H0
                  subst q0
                  exact kw_ret Tryz.results4 (.cons (.tmp rfl) .nil) [] [] trivial (by decide) ⟨rfl, rfl⟩
                · have H0 := cond_f H0 h104
                  obtain ⟨x105, e105, H0⟩ := bind_some H0
                  refine cw_skip (kw_nx (sr (oD (sg rfl) rfl (nn (sr (oD (stp_loadN (us := [_, _, _, _, _, _, _, _, _]) ts47 rfl (Cells.box (id := 19) rfl 9 rfl)) rfl (oD (mv rfl) rfl (oE (stpU_callM (fun i => bif Nat.beq i 0 then 15 else bif Nat.beq i 1 then 16 else bif Nat.beq i 2 then 17 else bif Nat.beq i 3 then 18 else 28 + i) cf20 (fun w hw hb => c_l_markMachine fl w x57.1 p58 ((x57.1.t.b).length) c60 C61 p62 ((x57.1.t.f).length) c64 C65 p66 ((x57.1.c.l).length) c68 C69 p70 ((x57.1.g.o).length) c72 C73 1 rfl o61 rfl o65 rfl o69 rfl o73 (hw.pass (js := [15, 16, 17, 18]) ⟨15, [16, 17, 18], rfl, rfl, 16, [17, 18], rfl, rfl, 17, [18], rfl, rfl, 18, [], rfl, rfl, trivial⟩ (by decide)) x105 e105) (sevs_cons rfl (sevs_cons rfl sevs_nil)) ⟨rfl, (fun _ _ hp => by obtain ⟨_, _, _, _, _, rfl, _⟩ := hp; exact ⟨_, rfl⟩), rfl, (fun _ _ hp => by obtain ⟨_, _, _, _, _, rfl, _⟩ := hp; exact ⟨_, rfl⟩), rfl, (fun _ _ hp => by obtain ⟨_, _, _, _, _, rfl, _⟩ := hp; exact ⟨_, rfl⟩), rfl, (fun _ _ hp => by obtain ⟨_, _, _, _, _, rfl, _⟩ := hp; exact ⟨_, rfl⟩), trivial⟩) rfl ?_))))))))
                  rintro _ _ ⟨_, ⟨C106, C107, C108, C109, rfl, rfl, hl106, o106, hl107, o107, hl108, o108, hl109, o109⟩, rfl⟩
                  obtain ⟨x110, e110, H0⟩ := bind_some H0
                  refine oD (sg rfl) rfl (nn (sr (oD (sg rfl) rfl (nn (sr (oD (stp_loadN (us := [_, _, _, _, _, _, _, _, _]) ts47 rfl (Cells.box (id := 19) rfl 9 rfl)) rfl (oD (mv rfl) rfl (oE (stpU_call (fun i => 32 + i) cf21 (fun w hw => c_l_heldMachine fl w (⟨(⟨x105.2.1, x105.2.2.1⟩ : T), (⟨x105.2.2.2.1, x57.1.c.h⟩ : Ca), (⟨x57.1.g.c, x57.1.g.n, x57.1.g.r, x105.2.2.2.2⟩ : Tg), x57.1.s⟩ : Mc) p58 ((x57.1.t.b).length) c60 p62 ((x57.1.t.f).length) c64 p66 ((x57.1.c.l).length) c68 p70 ((x57.1.g.o).length) c72 1 (by simp [hl106]) (OwnC.pass (id := 15) rfl o106 hw) (by simp [hl107]) (OwnC.pass (id := 16) rfl o107 hw) (by simp [hl108]) (OwnC.pass (id := 17) rfl o108 hw) (by simp [hl109]) (OwnC.pass (id := 18) rfl o109 hw) x110 e110) (sevs_cons rfl (sevs_cons rfl sevs_nil))) rfl ?_))))))))
                  rintro _ _ ⟨_, ⟨rfl, rfl⟩, rfl⟩
                  refine oD (sg rfl) rfl (nn (cw_seq (sr (oD (mv rfl) rfl (oD (stp_lss rfl rfl) rfl (nn (cw_cond rfl (fun h111 => ?_) (fun h111 => ?_))))))))
                  · have H0 := cond_t H0 h111
                    refine sr (oD (sg rfl) rfl (nn (cw_ret (kw_nx_ret ?_))))
                    have q0 := Option.some.inj H0
                    subst q0
                    exact kw_ret Tryz.results4 (.cons (.tmp rfl) .nil) [] [] trivial (by decide) ⟨rfl, rfl⟩
                  · have H0 := cond_f H0 h111
                    refine cw_skip (kw_nx (cw_seq (sr (oD (mv rfl) rfl (oD (mv rfl) rfl (oD (stp_neq rfl rfl) rfl (nn (cw_cond rfl (fun h112 => ?_) (fun h112 => ?_)))))))))
                    · have H0 := cond_t H0 h112
                      refine sr (oD (sg rfl) rfl (nn (cw_ret (kw_nx_ret ?_))))
                      have q0 := Option.some.inj H0
                      subst q0
                      exact kw_ret Tryz.results4 (.cons (.tmp rfl) .nil) [] [] trivial (by decide) ⟨rfl, rfl⟩
                    · have H0 := cond_f H0 h112
                      obtain ⟨x113, e113, H0⟩ := bind_some H0
                      refine cw_skip (kw_nx (sr (oD (stp_loadN (us := [_, _, _, _, _, _, _, _, _]) ts33 rfl (Cells.box (id := 0) rfl 9 rfl)) rfl (oE (stpU_call (fun i => 32 + i) cf16 (fun w hw => c_l_toMachine fl w a0 p0_0 ((a0.t.b).length) c0_0 p0_1 ((a0.t.f).length) c0_1 p0_2 ((a0.c.l).length) c0_2 p0_3 ((a0.g.o).length) c0_3 rfl (RO.pass hr0_0 hw) rfl (RO.pass hr0_1 hw) rfl (RO.pass hr0_2 hw) rfl (RO.pass hr0_3 hw) x113 e113) (sevs_cons rfl sevs_nil)) rfl ?_))))
                      rintro _ _ ⟨_, ⟨p114, n115, c116, C117, p118, n119, c120, C121, p122, n123, c124, C125, p126, n127, c128, C129, rfl, rfl, hnn115, o117, hnn119, o121, hnn123, o125, hnn127, o129⟩, rfl⟩
                      obtain rfl := hnn115
                      obtain rfl := hnn119
                      obtain rfl := hnn123
                      obtain rfl := hnn127
                      obtain ⟨x130, e130, H0⟩ := bind_some H0
                      refine oD (mv rfl) rfl (oE (stpU_call (fun i => 36 + i) cf23 (fun w hw => c_i_EnterSpace fl w x113 p114 ((x113.t.b).length) c116 p118 ((x113.t.f).length) c120 p122 ((x113.c.l).length) c124 p126 ((x113.g.o).length) c128 a1 rfl (OwnC.pass (id := 32) rfl o117 hw) rfl (OwnC.pass (id := 33) rfl o121 hw) rfl (OwnC.pass (id := 34) rfl o125 hw) rfl (OwnC.pass (id := 35) rfl o129 hw) (RO.pass hg hw) x130 e130) (sevs_cons rfl (sevs_cons rfl sevs_nil))) rfl ?_)
                      rintro _ _ ⟨_, ⟨p131, n132, c133, C134, p135, n136, c137, C138, p139, n140, c141, C142, p143, n144, c145, C146, rfl, rfl, hnn132, o134, hnn136, o138, hnn140, o142, hnn144, o146⟩, rfl⟩
                      obtain rfl := hnn132
                      obtain rfl := hnn136
                      obtain rfl := hnn140
                      obtain rfl := hnn144
                      refine oD (mv rfl) rfl (oD (stp_extract rfl rfl) rfl (oD (stp_extract rfl rfl) rfl (oE (stpU_alloc 40 tz47 rfl) rfl ?_)))
                      rintro _ _ ⟨b147, rfl, rfl⟩
                      refine oF (stpU_store (id := 40) (cs' := [.slice p131 ((x130.1.t.b).length) c133, .slice p135 ((x130.1.t.f).length) c137, .slice p139 ((x130.1.c.l).length) c141, .int .i64 x130.1.c.h, .int .i64 x130.1.g.c, .int .i64 x130.1.g.n, .int .i64 x130.1.g.r, .slice p143 ((x130.1.g.o).length) c145, .int .i64 x130.1.s]) ts47 rfl rfl rfl rfl rfl rfl rfl) ?_
                      rintro _ _ rfl
                      obtain ⟨x148, e148, H0⟩ := bind_some H0
                      refine oD (sg rfl) rfl (nn (cw_seq (sr (oD (stp_loadN (us := [_, _, _, _, _, _, _, _, _]) ts47 rfl (Cells.box (id := 40) rfl 9 rfl)) rfl (oD (stp_loadN (us := [_, _, _, _, _, _, _, _, _]) ts47 rfl (Cells.box (id := 9) rfl 9 rfl)) rfl (oE (stpU_call (fun i => 41 + i) cf19 (fun w hw => c_l_eqMachine fl w x130.1 p131 ((x130.1.t.b).length) c133 p135 ((x130.1.t.f).length) c137 p139 ((x130.1.c.l).length) c141 p143 ((x130.1.g.o).length) c145 x21.1 p22 ((x21.1.t.b).length) c24 p26 ((x21.1.t.f).length) c28 p30 ((x21.1.c.l).length) c32 p34 ((x21.1.g.o).length) c36 rfl (OwnC.pass (id := 36) rfl o134 hw) rfl (OwnC.pass (id := 37) rfl o138 hw) rfl (OwnC.pass (id := 38) rfl o142 hw) rfl (OwnC.pass (id := 39) rfl o146 hw) rfl (OwnC.pass (id := 5) rfl o25 hw) rfl (OwnC.pass (id := 6) rfl o29 hw) rfl (OwnC.pass (id := 7) rfl o33 hw) rfl (OwnC.pass (id := 8) rfl o37 hw) x148 e148) (sevs_cons rfl (sevs_cons rfl sevs_nil))) rfl ?_))))))
                      rintro _ _ ⟨_, ⟨rfl, rfl⟩, rfl⟩
                      obtain ⟨y149, ey149, H0⟩ := bind_some H0
                      refine oD (stp_not rfl) rfl (oD (mv rfl) rfl (ow_cutY 4 92 y149 ?_ ?_))
                      · rcases Bool.eq_false_or_eq_true (!x148) with hy149 | hy149
                        · have ey149 := cond_t ey149 hy149
                          refine oO rfl hy149 rfl (oO rfl hy149 rfl (oO rfl hy149 rfl (oD (stp_pick_t rfl hy149 rfl) rfl ?_)))
                          obtain rfl := Option.some.inj ey149
                          exact ow_nil (jy 4 0)
                        · have ey149 := cond_f ey149 hy149
                          refine oG rfl hy149 (mv rfl) rfl (oG rfl hy149 (mv rfl) rfl (oG rfl hy149 (stp_neqB Tryz.underlying4 rfl rfl) rfl (oD (stp_pick_f rfl hy149 rfl) rfl ?_)))
                          obtain rfl := Option.some.inj ey149
                          exact ow_nil (jy 4 0)
                      · refine ow_nil (kw_nx (cw_cond rfl (fun h150 => ?_) (fun h150 => ?_)))
                        · have H0 := cond_t H0 h150
                          refine sr (oD (sg rfl) rfl (nn (cw_ret (kw_nx_ret ?_))))
                          have q0 := Option.some.inj H0
                          subst q0
                          exact kw_ret Tryz.results4 (.cons (.tmp rfl) .nil) [] [] trivial (by decide) ⟨rfl, rfl⟩
                        · have H0 := cond_f H0 h150
                          refine cw_skip (kw_nx (sr (oD (sg rfl) rfl (nn (sr (oD (stp_loadN (us := [_, _, _, _, _, _, _, _, _]) ts47 rfl (Cells.box (id := 19) rfl 9 rfl)) rfl (oD (mv rfl) rfl (oE (stpU_call (fun i => 41 + i) cf21 (fun w hw => c_l_heldMachine fl w (⟨(⟨x105.2.1, x105.2.2.1⟩ : T), (⟨x105.2.2.2.1, x57.1.c.h⟩ : Ca), (⟨x57.1.g.c, x57.1.g.n, x57.1.g.r, x105.2.2.2.2⟩ : Tg), x57.1.s⟩ : Mc) p58 ((x57.1.t.b).length) c60 p62 ((x57.1.t.f).length) c64 p66 ((x57.1.c.l).length) c68 p70 ((x57.1.g.o).length) c72 1 (by simp [hl106]) (OwnC.pass (id := 15) rfl o106 hw) (by simp [hl107]) (OwnC.pass (id := 16) rfl o107 hw) (by simp [hl108]) (OwnC.pass (id := 17) rfl o108 hw) (by simp [hl109]) (OwnC.pass (id := 18) rfl o109 hw) x110 e110) (sevs_cons rfl (sevs_cons rfl sevs_nil))) rfl ?_))))))))
                          rintro _ _ ⟨_, ⟨rfl, rfl⟩, rfl⟩
                          refine oD (sg rfl) rfl (nn (cw_seq (sr (oD (mv rfl) rfl (oD (stp_lss rfl rfl) rfl (nn (cw_cond rfl (fun h151 => ?_) (fun h151 => ?_))))))))
                          · have H0 := cond_t H0 h151
                            refine sr (oD (sg rfl) rfl (nn (cw_ret (kw_nx_ret ?_))))
                            have q0 := Option.some.inj H0
                            subst q0
                            exact kw_ret Tryz.results4 (.cons (.tmp rfl) .nil) [] [] trivial (by decide) ⟨rfl, rfl⟩
                          · have H0 := cond_f H0 h151
                            refine cw_skip (kw_nx (cw_seq (sr (oD (mv rfl) rfl (oD (mv rfl) rfl (oD (stp_neq rfl rfl) rfl (nn (cw_cond rfl (fun h152 => ?_) (fun h152 => ?_)))))))))
                            · have H0 := cond_t H0 h152
                              refine sr (oD (sg rfl) rfl (nn (cw_ret (kw_nx_ret ?_))))
                              have q0 := Option.some.inj H0
                              subst q0
                              exact kw_ret Tryz.results4 (.cons (.tmp rfl) .nil) [] [] trivial (by decide) ⟨rfl, rfl⟩
                            · have H0 := cond_f H0 h152
                              refine cw_skip (kw_nx (sr (oD (sg rfl) rfl (nn (cw_ret ?_)))))
                              have q0 := Option.some.inj H0
                              subst q0
                              exact kw_ret Tryz.results4 (.cons (.tmp rfl) .nil) [] [] trivial (by decide) ⟨rfl, rfl⟩
end Go.Proofs.YtbgodaeccgjdgaaGreatDoor
