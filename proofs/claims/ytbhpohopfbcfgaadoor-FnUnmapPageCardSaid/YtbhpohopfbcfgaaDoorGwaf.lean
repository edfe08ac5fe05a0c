/- The walks: functions of the program return what their pure functions say. Printed by a program (gen.py). -/
import Derived.Test.YtbhpohopfbcfgaaDoorGp
import Derived.Test.YtbhpohopfbcfgaaDoorGt
import Derived.Test.YtbhpohopfbcfgaaDoorMan
import Derived.Test.YtbhpohopfbcfgaaDoorMap
import Derived.Test.YtbhpohopfbcfgaaDoorCpy
import Derived.Test.YtbhpohopfbcfgaaDoorBits
import Derived.Test.YtbhpohopfbcfgaaDoorGwaa
import Derived.Test.YtbhpohopfbcfgaaDoorGwae
import Derived.Test.YtbhpohopfbcfgaaDoorGws
set_option linter.unusedSimpArgs false
set_option linter.unusedVariables false
set_option linter.unusedSectionVars false
namespace Go.Proofs.YtbhpohopfbcfgaaDoor
open Go.RowKit
set_option maxHeartbeats 4000000 in
set_option maxRecDepth 20000 in
theorem c_i_Table_chain (fl : Nat) (w : World) (a0 : T) (p0_0 : Option Addr) (n0_0 c0_0 : Nat) (p0_1 : Option Addr) (n0_1 c0_1 : Nat) (a1 : Int) (hn0_0 : n0_0 = (a0.b).length) (hr0_0 : RO w (hkeys []) (RdL p0_0 c0_0 a0.b)) (hn0_1 : n0_1 = (a0.f).length) (hr0_1 : RO w (hkeys []) (RdL p0_1 c0_1 a0.f)) (r : (List Int)) (H0 : i_Table_chain fl a0 a1 = some r) :
    Ct Tryd.prog 40 [.agg #[.slice p0_0 n0_0 c0_0, .slice p0_1 n0_1 c0_1], .int .i64 a1] w [] (fun rv h' => ∃ (x0 : Option Addr) (y0 z0 : Nat) (C0 : Res), rv = .slice x0 y0 z0 ∧ h' = [(0, C0)] ∧ y0 = (r).length ∧ OwnC 3 x0 z0 r C0) := by
  obtain rfl := hn0_0
  obtain rfl := hn0_1
  unfold i_Table_chain at H0
  refine ct_of_cw Tryd.func40 rfl Tryd.ntmps40 rfl (Sat.refl _ _) ?_
  refine sr (oE (stpU_box 0 rfl rfl) rfl ?_)
  rintro _ _ ⟨b1, rfl, rfl⟩
  obtain ⟨x2, e2, H0⟩ := bind_some H0
  refine oD (sg rfl) rfl (nn (sr (oD (sg rfl) rfl (nn (cw_seq (sr (oD (fA 0 Tryd.underlying26 rfl ts23 rfl rfl rfl) rfl (oD (lB 0 ts23 rfl rfl rfl) rfl (oD (mv rfl) rfl (oD (stp_indexAddr Tryd.underlying23 ts3 (by decide) rfl rfl rfl (Rdb.ro hr0_0) e2) rfl (oD (stp_load1 ts3 rfl (Cells.el (Rdb.ro hr0_0) (by decide) e2 0 1 rfl)) rfl (oD (sg rfl) rfl (nn ?_)))))))))))))
  obtain ⟨o0_0, eo0_0, H0⟩ := bind_some H0
  refine cw_addNil 1 (cw_join (ι := (List Int) × Int × Option Addr × Nat × Nat × Res) (fun | (v3, v8, p4, n5, c6, C7) => o0_0 = .out (v3, v8) ∧ n5 = (v3).length ∧ OwnC (α := Int) 3 p4 c6 v3 C7) (fun | (v3, v8, p4, n5, c6, C7) => [(2, .pointer (some ⟨b1, 0, none⟩)), (5, .slice p4 n5 c6), (6, .int .i64 v8)]) (fun | (v3, v8, p4, n5, c6, C7) => [(0, [(b1, .cells #[.slice p0_0 ((a0.b).length) c0_0, .slice p0_1 ((a0.f).length) c0_1] 26 (0, 0))]), (1001, C7)]) ?_ ?_)
  · refine cw_block (cw_loopS (ι := Nat × (List Int) × Int × Option Addr × Nat × Nat × Res) (js := [0, 1]) (fun x => x.1) (fun | (fuel, v3, v8, p4, n5, c6, C7) => i_Table_chain_L0 fl a0 fuel v3 v8 = some o0_0 ∧ n5 = (v3).length ∧ OwnC (α := Int) 3 p4 c6 v3 C7) (fun | (_, v3, v8, p4, n5, c6, C7) => [(2, .pointer (some ⟨b1, 0, none⟩)), (5, .slice p4 n5 c6), (6, .int .i64 v8)]) (fun | (_, v3, v8, p4, n5, c6, C7) => [(0, [(b1, .cells #[.slice p0_0 ((a0.b).length) c0_0, .slice p0_1 ((a0.f).length) c0_1] 26 (0, 0))]), (1001, C7)]) (fl, [], x2, none, 0, 0, []) ⟨eo0_0, rfl, (OwnC.nil _ _)⟩ ⟨rfl, rfl, rfl, trivial⟩ ⟨0, [1], rfl, rfl, 1, [], rfl, rfl, trivial⟩ (by decide) ?_)
    rintro ⟨fuel, v3, v8, p4, n5, c6, C7⟩ ⟨H1, hnn5, o7⟩
    obtain rfl := hnn5
    have H1 : i_Table_chain_L0 fl a0 fuel v3 v8 = some o0_0 := H1
    rcases fuel with _ | fuel
    · rw [i_Table_chain_L0.eq_1] at H1; cases H1
    rw [i_Table_chain_L0.eq_2] at H1
    refine CW.sub (s' := [(2, .pointer (some ⟨b1, 0, none⟩)), (5, .slice p4 ((v3).length) c6), (6, .int .i64 v8)]) (h' := [(0, [(b1, .cells #[.slice p0_0 ((a0.b).length) c0_0, .slice p0_1 ((a0.f).length) c0_1] 26 (0, 0))]), (1001, C7)]) ?_ ⟨rfl, rfl, rfl, trivial⟩ ⟨rfl, rfl, trivial⟩
    refine cw_seq (sr (oD (mv rfl) rfl (oD (stp_neq rfl rfl) rfl (nn (cw_cond rfl (fun h9 => ?_) (fun h9 => ?_))))))
    · have H1 := cond_t H1 h9
      refine cw_skip (kw_nx (cw_seq (cw_block (cw_region (oD (mv rfl) rfl (oD (mv rfl) rfl (oE (stpU_lit (sz := 1) (l := [v8]) [.int .i64 v8] sl23 2 (sevp_cons rfl sevp_nil) rfl rfl rfl rfl rfl rfl rfl rfl rfl) rfl ?_)))))))
      rintro _ _ ⟨p10, C11, rfl, rfl, o11⟩
      obtain ⟨x12, e12, H1⟩ := bind_some H1
      refine oE (stpU_append sl23 rfl (id := 1001) rfl rfl rfl (by simp) rfl o7 (Rdb.own (id := 2) rfl o11) e12) rfl ?_
      rintro _ _ ⟨p13, c14, C15, rfl, rfl, o15⟩
      obtain ⟨x16, e16, H1⟩ := bind_some H1
      exact oD (sg rfl) rfl (ow_nil (kw_bl_normal (kw_nx (cw_region (oD (fA 1 Tryd.underlying26 rfl ts24 rfl rfl rfl) rfl (oD (lB 0 ts24 rfl rfl rfl) rfl (oD (mv rfl) rfl (oD (stp_indexAddr Tryd.underlying24 ts58 (by decide) rfl rfl rfl (Rdb.ro hr0_1) e16) rfl (oD (fA 4 Tryd.underlying58 rfl ts3 rfl rfl rfl) rfl (oD (stp_load1 ts3 rfl (Cells.el (Rdb.ro hr0_1) (by decide) e16 4 1 rfl)) rfl (oD (sg rfl) rfl (ow_nil (kw_lqS (js := [0, 1001]) (fuel, x12, x16.nx, p13, ((x12).length), c14, C15) ⟨H1, rfl, o15⟩ (Nat.lt_succ_self _) ⟨rfl, rfl, rfl, trivial⟩ ⟨0, [1001], rfl, rfl, 1001, [], rfl, rfl, trivial⟩ (by decide))))))))))))))
    · have H1 := cond_f H1 h9
      refine cw_exit (kw_nx_exit (kw_lq_exit (kw_bl ?_)))
      have q1 := Option.some.inj H1
      subst q1
      exact kw_joinS (js := [0, 1001]) (v3, v8, p4, ((v3).length), c6, C7) ⟨rfl, rfl, o7⟩ ⟨rfl, rfl, rfl, trivial⟩ ⟨0, [1001], rfl, rfl, 1001, [], rfl, rfl, trivial⟩ (by decide)
  · rintro ⟨v3, v8, p4, n5, c6, C7⟩ ⟨rfl, hnn5, o7⟩
    obtain rfl := hnn5
    refine KW.sub (s' := [(2, .pointer (some ⟨b1, 0, none⟩)), (5, .slice p4 ((v3).length) c6), (6, .int .i64 v8)]) (h' := [(0, [(b1, .cells #[.slice p0_0 ((a0.b).length) c0_0, .slice p0_1 ((a0.f).length) c0_1] 26 (0, 0))]), (1001, C7)]) ?_ ⟨rfl, rfl, rfl, trivial⟩ ⟨rfl, rfl, trivial⟩
    refine kw_nx (sr (oD (mv rfl) rfl (oE (stpU_call (fun i => i) cf58 (fun w hw => c_clip58 w p4 ((v3).length) c6 (OwnC.len o7).1) (sevs_cons rfl sevs_nil)) rfl ?_)))
    rintro _ _ ⟨_, ⟨rfl, rfl⟩, rfl⟩
    refine oD (sg rfl) rfl (nn (cw_ret ?_))
    have q0 := Option.some.inj H0
    subst q0
    exact kw_ret Tryd.results40 (.cons (.tmp rfl) .nil) [(0, C7)] [1001] ⟨1001, [], rfl, rfl, trivial⟩ (by decide) ⟨p4, ((v3).length), ((v3).length), C7, rfl, rfl, rfl, (OwnC.clip o7)⟩

set_option maxHeartbeats 4000000 in
set_option maxRecDepth 20000 in
theorem c_i_FindPage (fl : Nat) (w : World) (a0 : T) (p0_0 : Option Addr) (n0_0 c0_0 : Nat) (p0_1 : Option Addr) (n0_1 c0_1 : Nat) (a1 : K) (hn0_0 : n0_0 = (a0.b).length) (hr0_0 : RO w (hkeys []) (RdL p0_0 c0_0 a0.b)) (hn0_1 : n0_1 = (a0.f).length) (hr0_1 : RO w (hkeys []) (RdL p0_1 c0_1 a0.f)) (hg : RO w (hkeys []) (fun w' => w'.rangeAt 0 0 [.bool false, .int .i64 0, .int .i64 0, .int .i64 0, .int .i64 (-1)])) (r : Int × Int × Bool) (H0 : i_FindPage fl a0 a1 = some r) :
    Ct Tryd.prog 11 [.agg #[.slice p0_0 n0_0 c0_0, .slice p0_1 n0_1 c0_1], .agg #[.int .i64 a1.s, .int .i64 a1.p]] w [] (fun rv h' => rv = .tuple #[.int .i64 r.1, .int .i64 r.2.1, .bool r.2.2] ∧ h' = []) := by
  obtain rfl := hn0_0
  obtain rfl := hn0_1
  unfold i_FindPage at H0
  refine ct_of_cw Tryd.func11 rfl Tryd.ntmps11 rfl (Sat.refl _ _) ?_
  refine sr (oE (stpU_box 0 rfl rfl) rfl ?_)
  rintro _ _ ⟨b1, rfl, rfl⟩
  refine oE (stpU_box 1 rfl rfl) rfl ?_
  rintro _ _ ⟨b2, rfl, rfl⟩
  obtain ⟨x3, e3, H0⟩ := bind_some H0
  refine oD (sg rfl) rfl (oD (sg rfl) rfl (oD (sg rfl) rfl (nn (cw_seq (sr (oD (stp_loadN (us := [_, _]) ts26 rfl (Cells.box (id := 0) rfl 2 rfl)) rfl (oE (stpU_call (fun i => 2 + i) cf20 (fun w hw => c_i_TableValid fl w a0 p0_0 ((a0.b).length) c0_0 p0_1 ((a0.f).length) c0_1 rfl (RO.pass hr0_0 hw) rfl (RO.pass hr0_1 hw) (RO.pass hg hw) x3 e3) (sevs_cons rfl sevs_nil)) rfl ?_)))))))
  rintro _ _ ⟨_, ⟨rfl, rfl⟩, rfl⟩
  obtain ⟨y4, ey4, H0⟩ := bind_some H0
  refine oD (stp_not rfl) rfl (oD (mv rfl) rfl (ow_cutY 4 17 y4 ?_ ?_))
  · rcases Bool.eq_false_or_eq_true (!x3) with hy4 | hy4
    · have ey4 := cond_t ey4 hy4
      refine oO rfl hy4 rfl (oO rfl hy4 rfl (oO rfl hy4 rfl (oD (stp_pick_t rfl hy4 rfl) rfl ?_)))
      obtain rfl := Option.some.inj ey4
      exact ow_nil (jy 4 0)
    · have ey4 := cond_f ey4 hy4
      obtain ⟨x5, e5, ey4⟩ := bind_some ey4
      refine oG rfl hy4 (stp_loadN (us := [_, _]) ts28 rfl (Cells.box (id := 1) rfl 2 rfl)) rfl (ow_eff (.some rfl hy4) (stpU_call (fun i => 2 + i) cf27 (fun w hw => c_i_KeyValid fl w a1 x5 e5) (sevs_cons rfl sevs_nil)) rfl ?_)
      rintro _ _ ⟨_, ⟨rfl, rfl⟩, rfl⟩
      refine oG rfl hy4 (stp_not rfl) rfl (oD (stp_pick_f rfl hy4 rfl) rfl ?_)
      obtain rfl := Option.some.inj ey4
      exact ow_nil (jy 4 0)
  · refine ow_nil (kw_nx (cw_cond rfl (fun h6 => ?_) (fun h6 => ?_)))
    · have H0 := cond_t H0 h6
      refine sr (oD (sg rfl) rfl (oD (sg rfl) rfl (oD (sg rfl) rfl (nn (cw_ret (kw_nx_ret ?_))))))
      have q0 := Option.some.inj H0
      subst q0
      exact kw_ret Tryd.results11 (.cons (.tmp rfl) (.cons (.tmp rfl) (.cons (.tmp rfl) .nil))) [] [] trivial (by decide) ⟨rfl, rfl⟩
    · have H0 := cond_f H0 h6
      obtain ⟨x7, e7, H0⟩ := bind_some H0
      obtain ⟨x8, e8, H0⟩ := bind_some H0
      refine cw_skip (kw_nx (cw_seq (rdr g_mixed [2, 3] [0, 1] { dst := dS [19, 20, 21, 22, 23, 24, 25, 8], pre := gA [] [[], [], [], [2], [2, 3], rn 1 4, rn 0 6, rn 0 7], ids := gA [] [[], [], [], [], [], [], [2]], rs := rL [[(2, 0)], [(3, 0)], [(2, 0)], [(20, 3)], [(21, 4)], [(19, 2), (22, 5)], [(18, 1), (23, 6)], [(24, 7)]], rh := rL [[(0, 0)], [(1, 0)], [], [(0, 0)]], V := fun i g => gA undef [.agg #[.slice p0_0 ((a0.b).length) c0_0, .slice p0_1 ((a0.f).length) c0_1], .agg #[.int .i64 a1.s, .int .i64 a1.p], .pointer (some ⟨b1, 0, none⟩), .slice p0_0 ((a0.b).length) c0_0, .int .i64 ((a0.b).length : Int), .int .i64 x7, .slice ((g 6).A 0) ((x8).length) ((g 6).C 0), .slice ((g 6).A 0) ((x8).length) ((g 6).C 0)] i, U := fun i g => match i with | 6 => [(2, ((g 6).R 0))] | _ => [], Φ := fun i x => match i with | 6 => OwnC (α := Int) 3 (x.A 0) (x.C 0) x8 (x.R 0) | _ => True } ?_ ?_)))
      · refine ⟨⟨⟨⟨⟨⟨⟨⟨trivial, lc rfl rfl fun hs hh => stp_loadN (us := [_, _]) ts26 (sv hs 2 rfl) (Cells.box (id := 0) (hh.get 0 _ rfl) 2 rfl)⟩, lc rfl rfl fun hs hh => stp_loadN (us := [_, _]) ts28 (sv hs 3 rfl) (Cells.box (id := 1) (hh.get 1 _ rfl) 2 rfl)⟩, lc rfl rfl fun hs hh => stp_fieldAddr (j := 0) Tryd.underlying26 rfl ts23 rfl (sv hs 2 rfl) rfl⟩, lc rfl rfl fun hs hh => stp_load1 ts23 (sv hs 20 rfl) (Cells.box (id := 0) (hh.get 0 _ rfl) 1 rfl)⟩, lc rfl rfl fun hs hh => stp_len Tryd.underlying23 (sv hs 21 rfl)⟩, ?_⟩, ?_⟩, lc rfl rfl fun hs hh => stp_assign (sv hs 24 rfl)⟩
        · refine le rfl rfl (fun g hΦ s h hs hh => (stpU_call (fun i => 2 + i) cf41 (fun w hw => c_i_hash fl w a1 ((a0.b).length : Int) x7 e7) (sevs_cons (sv hs 19 rfl) (sevs_cons (sv hs 22 rfl) sevs_nil)))) ?_
          rintro g _ _ ⟨_, ⟨rfl, rfl⟩, rfl⟩
          exact ⟨⟨[], [], []⟩, trivial, .inr rfl, rfl⟩
        · refine le rfl rfl (fun g hΦ s h hs hh => (stpU_call (fun i => 2 + i) cf40 (fun w hw => c_i_Table_chain fl w a0 p0_0 ((a0.b).length) c0_0 p0_1 ((a0.f).length) c0_1 x7 rfl (RO.pass hr0_0 hw) rfl (RO.pass hr0_1 hw) x8 e8) (sevs_cons (sv hs 18 rfl) (sevs_cons (sv hs 23 rfl) sevs_nil)))) ?_
          rintro g _ _ ⟨_, ⟨p9, n10, c11, C12, rfl, rfl, hnn10, o12⟩, rfl⟩
          obtain rfl := hnn10
          exact ⟨⟨[p9], [c11], [C12]⟩, o12, .inr rfl, rfl⟩
      · intro g hΦ
        refine kw_gen (ι := Option Addr × Nat × Res) (((g 6).A 0), ((g 6).C 0), ((g 6).R 0)) (fun | (p9, c11, C12) => OwnC (α := Int) 3 p9 c11 x8 C12) (fun | (p9, c11, C12) => [(2, .pointer (some ⟨b1, 0, none⟩)), (3, .pointer (some ⟨b2, 0, none⟩)), (7, .slice p9 ((x8).length) c11)]) (fun | (p9, c11, C12) => [(0, [(b1, .cells #[.slice p0_0 ((a0.b).length) c0_0, .slice p0_1 ((a0.f).length) c0_1] 26 (0, 0))]), (1, [(b2, .cells #[.int .i64 a1.s, .int .i64 a1.p] 28 (0, 0))]), (2, C12)]) (hΦ 6 (by decide)) ⟨rfl, rfl, rfl, trivial⟩ ⟨rfl, rfl, rfl, trivial⟩ ?_
        rintro ⟨p9, c11, C12⟩ o12
        have o12 : OwnC (α := Int) 3 p9 c11 x8 C12 := o12
        refine KW.sub (s' := [(2, .pointer (some ⟨b1, 0, none⟩)), (3, .pointer (some ⟨b2, 0, none⟩)), (7, .slice p9 ((x8).length) c11)]) (h' := [(0, [(b1, .cells #[.slice p0_0 ((a0.b).length) c0_0, .slice p0_1 ((a0.f).length) c0_1] 26 (0, 0))]), (1, [(b2, .cells #[.int .i64 a1.s, .int .i64 a1.p] 28 (0, 0))]), (2, C12)]) ?_ ⟨rfl, rfl, rfl, trivial⟩ ⟨rfl, rfl, rfl, trivial⟩
        obtain ⟨o0_0, eo0_0, H0⟩ := bind_some H0
        refine kw_nx (cw_seq (sr (oD (mv rfl) rfl (oD (stp_len Tryd.underlying23 rfl) rfl (oD (mv rfl) rfl (nn (cw_join (ι := Int) (fun | v13 => o0_0 = .out v13) (fun | v13 => [(2, .pointer (some ⟨b1, 0, none⟩)), (3, .pointer (some ⟨b2, 0, none⟩)), (7, .slice p9 ((x8).length) c11), (25, .slice p9 ((x8).length) c11), (26, .int .i64 ((x8).length : Int)), (27, .int .i64 v13)]) (fun | v13 => [(0, [(b1, .cells #[.slice p0_0 ((a0.b).length) c0_0, .slice p0_1 ((a0.f).length) c0_1] 26 (0, 0))]), (1, [(b2, .cells #[.int .i64 a1.s, .int .i64 a1.p] 28 (0, 0))]), (2, C12)]) ?_ ?_)))))))
        · refine cw_block (cw_loopS (ι := Nat × Int) (js := [0, 1, 2]) (fun x => x.1) (fun | (fuel, v13) => i_FindPage_L0 fl a0 a1 x8 fuel v13 = some o0_0) (fun | (_, v13) => [(2, .pointer (some ⟨b1, 0, none⟩)), (3, .pointer (some ⟨b2, 0, none⟩)), (7, .slice p9 ((x8).length) c11), (25, .slice p9 ((x8).length) c11), (26, .int .i64 ((x8).length : Int)), (27, .int .i64 v13)]) (fun | (_, v13) => [(0, [(b1, .cells #[.slice p0_0 ((a0.b).length) c0_0, .slice p0_1 ((a0.f).length) c0_1] 26 (0, 0))]), (1, [(b2, .cells #[.int .i64 a1.s, .int .i64 a1.p] 28 (0, 0))]), (2, C12)]) (fl, 0) eo0_0 ⟨rfl, rfl, rfl, rfl, rfl, rfl, trivial⟩ ⟨0, [1, 2], rfl, rfl, 1, [2], rfl, rfl, 2, [], rfl, rfl, trivial⟩ (by decide) ?_)
          rintro ⟨fuel, v13⟩ H1
          have H1 : i_FindPage_L0 fl a0 a1 x8 fuel v13 = some o0_0 := H1
          rcases fuel with _ | fuel
          · rw [i_FindPage_L0.eq_1] at H1; cases H1
          rw [i_FindPage_L0.eq_2] at H1
          refine CW.sub (s' := [(2, .pointer (some ⟨b1, 0, none⟩)), (3, .pointer (some ⟨b2, 0, none⟩)), (7, .slice p9 ((x8).length) c11), (25, .slice p9 ((x8).length) c11), (26, .int .i64 ((x8).length : Int)), (27, .int .i64 v13)]) (h' := [(0, [(b1, .cells #[.slice p0_0 ((a0.b).length) c0_0, .slice p0_1 ((a0.f).length) c0_1] 26 (0, 0))]), (1, [(b2, .cells #[.int .i64 a1.s, .int .i64 a1.p] 28 (0, 0))]), (2, C12)]) ?_ ⟨rfl, rfl, rfl, rfl, rfl, rfl, trivial⟩ ⟨rfl, rfl, rfl, trivial⟩
          refine sr (oD (stp_lss rfl rfl) rfl (nn (cw_seq (cw_cond rfl (fun h14 => ?_) (fun h14 => ?_)))))
          · have H1 := cond_t H1 h14
            obtain ⟨x15, e15, H1⟩ := bind_some H1
            obtain ⟨x16, e16, H1⟩ := bind_some H1
            refine cw_skip (kw_nx (cw_seq (cw_block (sr (oD (mv rfl) rfl (oD (stp_indexAddr Tryd.underlying23 ts3 (by decide) rfl rfl rfl (Rdb.own (id := 2) rfl o12) e15) rfl (oD (stp_load1 ts3 rfl (Cells.el (Rdb.own (id := 2) rfl o12) (by decide) e15 0 1 rfl)) rfl (oD (sg rfl) rfl (oD (sg rfl) rfl (nn (cw_seq (rdr g_mixed [2, 3, 9] [0, 1] { dst := dS [33, 34, 35, 36, 37, 38, 39, 40], pre := gA [] [[], [0], [], [0, 1, 2], rn 0 4, rn 0 5, [], rn 0 7], ids := fun _ => [], rs := rL [[(2, 0)], [(32, 1)], [(9, 0)], [(33, 2), (34, 3)], [(35, 4)], [(36, 5)], [(3, 0)], [(37, 6), (38, 7)]], rh := rL [[], [(0, 0)], [], [], [], [], [(1, 0)]], V := fun i g => gA undef [.pointer (some ⟨b1, 1, none⟩), .slice p0_1 ((a0.f).length) c0_1, .int .i64 x15, .pointer (some ⟨eB p0_1, eO p0_1 + Int.toNat x15 * Enc.sz F + 0, none⟩), .pointer (some ⟨eB p0_1, eO p0_1 + Int.toNat x15 * Enc.sz F + 1, none⟩), .agg #[.int .i64 x16.k.s, .int .i64 x16.k.p], .agg #[.int .i64 a1.s, .int .i64 a1.p], .bool (x16.k == a1)] i, U := fun _ _ => [], Φ := fun _ _ => True } ?_ ?_))))))))))))
            · exact ⟨⟨⟨⟨⟨⟨⟨⟨trivial, lc rfl rfl fun hs hh => stp_fieldAddr (j := 1) Tryd.underlying26 rfl ts24 rfl (sv hs 2 rfl) rfl⟩, lc rfl rfl fun hs hh => stp_load1 ts24 (sv hs 32 rfl) (Cells.box (id := 0) (hh.get 0 _ rfl) 1 rfl)⟩, lc rfl rfl fun hs hh => stp_move (sv hs 9 rfl)⟩, lc rfl rfl fun hs hh => stp_indexAddr Tryd.underlying24 ts58 (by decide) (sv hs 33 rfl) rfl (sv hs 34 rfl) (Rdb.ro hr0_1) e16⟩, lc rfl rfl fun hs hh => stp_fieldAddr (j := 1) Tryd.underlying58 rfl ts28 rfl (sv hs 35 rfl) rfl⟩, lc rfl rfl fun hs hh => stp_loadN (us := [_, _]) ts28 (sv hs 36 rfl) (Cells.el (Rdb.ro hr0_1) (by decide) e16 1 2 rfl)⟩, lc rfl rfl fun hs hh => stp_loadN (us := [_, _]) ts28 (sv hs 3 rfl) (Cells.box (id := 1) (hh.get 1 _ rfl) 2 rfl)⟩, lc rfl rfl fun hs hh => stp_eqlS te28 x16.k a1 (sv hs 37 rfl) (sv hs 38 rfl)⟩
            · intro g hΦ
              refine KW.sub (s' := [(2, .pointer (some ⟨b1, 0, none⟩)), (3, .pointer (some ⟨b2, 0, none⟩)), (7, .slice p9 ((x8).length) c11), (8, .int .i64 v13), (9, .int .i64 x15), (25, .slice p9 ((x8).length) c11), (26, .int .i64 ((x8).length : Int)), (27, .int .i64 v13), (39, .bool (x16.k == a1))]) (h' := [(0, [(b1, .cells #[.slice p0_0 ((a0.b).length) c0_0, .slice p0_1 ((a0.f).length) c0_1] 26 (0, 0))]), (1, [(b2, .cells #[.int .i64 a1.s, .int .i64 a1.p] 28 (0, 0))]), (2, C12)]) ?_ ⟨rfl, rfl, rfl, rfl, rfl, rfl, rfl, rfl, rfl, trivial⟩ ⟨rfl, rfl, rfl, trivial⟩
              refine kw_nx (cw_cond rfl (fun h17 => ?_) (fun h17 => ?_))
              · have H1 := cond_t H1 h17
                obtain ⟨x18, e18, H1⟩ := bind_some H1
                refine sr (oD (mv rfl) rfl (oD (mv rfl) rfl (oD (stp_add rfl rfl e18) rfl (oD (sg rfl) rfl (oD (sg rfl) rfl (oD (sg rfl) rfl (nn (cw_ret (kw_bl_ret (kw_nx_ret (kw_lq_ret (kw_bl_ret (kw_join_ret ?_)))))))))))))
                refine kw_nx_ret ?_
                have q1 := Option.some.inj H1
                subst q1
                have q0 := Option.some.inj H0
                subst q0
                exact kw_ret Tryd.results11 (.cons (.tmp rfl) (.cons (.tmp rfl) (.cons (.tmp rfl) .nil))) [] [] trivial (by decide) ⟨rfl, rfl⟩
              · have H1 := cond_f H1 h17
                obtain ⟨x19, e19, H1⟩ := bind_some H1
                exact cw_skip (kw_bl_normal (kw_nx (cw_region (oD (stp_add rfl rfl e19) rfl (oD (mv rfl) rfl (ow_nil (kw_lqS (js := [0, 1, 2]) (fuel, x19) H1 (Nat.lt_succ_self _) ⟨rfl, rfl, rfl, rfl, rfl, rfl, trivial⟩ ⟨0, [1, 2], rfl, rfl, 1, [2], rfl, rfl, 2, [], rfl, rfl, trivial⟩ (by decide))))))))
          · have H1 := cond_f H1 h14
            refine cw_exit (kw_nx_exit (kw_lq_exit (kw_bl ?_)))
            have q1 := Option.some.inj H1
            subst q1
            exact kw_joinS (js := [0, 1, 2]) v13 rfl ⟨rfl, rfl, rfl, rfl, rfl, rfl, trivial⟩ ⟨0, [1, 2], rfl, rfl, 1, [2], rfl, rfl, 2, [], rfl, rfl, trivial⟩ (by decide)
        · rintro v13 rfl
          refine KW.sub (s' := [(2, .pointer (some ⟨b1, 0, none⟩)), (3, .pointer (some ⟨b2, 0, none⟩)), (7, .slice p9 ((x8).length) c11), (25, .slice p9 ((x8).length) c11), (26, .int .i64 ((x8).length : Int)), (27, .int .i64 v13)]) (h' := [(0, [(b1, .cells #[.slice p0_0 ((a0.b).length) c0_0, .slice p0_1 ((a0.f).length) c0_1] 26 (0, 0))]), (1, [(b2, .cells #[.int .i64 a1.s, .int .i64 a1.p] 28 (0, 0))]), (2, C12)]) ?_ ⟨rfl, rfl, rfl, rfl, rfl, rfl, trivial⟩ ⟨rfl, rfl, rfl, trivial⟩
          refine kw_nx (sr (oD (mv rfl) rfl (oD (stp_len Tryd.underlying23 rfl) rfl (oD (sg rfl) rfl (oD (sg rfl) rfl (oD (sg rfl) rfl (nn (cw_ret ?_))))))))
          have q0 := Option.some.inj H0
          subst q0
          exact kw_ret Tryd.results11 (.cons (.tmp rfl) (.cons (.tmp rfl) (.cons (.tmp rfl) .nil))) [] [] trivial (by decide) ⟨rfl, rfl⟩
end Go.Proofs.YtbhpohopfbcfgaaDoor
