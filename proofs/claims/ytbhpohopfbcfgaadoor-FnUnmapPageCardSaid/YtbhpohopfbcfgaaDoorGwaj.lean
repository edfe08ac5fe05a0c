/- The walks: functions of the program return what their pure functions say. Printed by a program (gen.py). -/
import Derived.Test.YtbhpohopfbcfgaaDoorGp
import Derived.Test.YtbhpohopfbcfgaaDoorGt
import Derived.Test.YtbhpohopfbcfgaaDoorMan
import Derived.Test.YtbhpohopfbcfgaaDoorMap
import Derived.Test.YtbhpohopfbcfgaaDoorCpy
import Derived.Test.YtbhpohopfbcfgaaDoorBits
import Derived.Test.YtbhpohopfbcfgaaDoorGwaa
import Derived.Test.YtbhpohopfbcfgaaDoorGwab
import Derived.Test.YtbhpohopfbcfgaaDoorGwaf
import Derived.Test.YtbhpohopfbcfgaaDoorGwai
set_option linter.unusedSimpArgs false
set_option linter.unusedVariables false
set_option linter.unusedSectionVars false
namespace Go.Proofs.YtbhpohopfbcfgaaDoor
open Go.RowKit
set_option maxHeartbeats 4000000 in
set_option maxRecDepth 20000 in
theorem c_l_FnUnmapPage (fl : Nat) (w : World) (a0 : (List UInt8)) (p0_0 : Option Addr) (n0_0 c0_0 : Nat) (hn0_0 : n0_0 = (a0).length) (hr0_0 : RO w (hkeys []) (RdL p0_0 c0_0 a0)) (hg : RO w (hkeys []) (fun w' => w'.rangeAt 0 0 [.bool false, .int .i64 0, .int .i64 0, .int .i64 0, .int .i64 (-1)])) (r : Bool) (H0 : l_FnUnmapPage fl a0 = some r) :
    Ct Tryd.prog 5 [.slice p0_0 n0_0 c0_0] w [] (fun rv h' => rv = .bool r ∧ h' = []) := by
  obtain rfl := hn0_0
  unfold l_FnUnmapPage at H0
  refine ct_of_cw Tryd.func5 rfl Tryd.ntmps5 rfl (Sat.refl _ _) ?_
  refine sr (oD (sg rfl) rfl (nn (cw_seq (sr (oD (mv rfl) rfl (oD (stp_len Tryd.underlying22 rfl) rfl (oD (stp_gtr rfl rfl) rfl (nn (cw_cond rfl (fun h1 => ?_) (fun h1 => ?_))))))))))
  · have H0 := cond_t H0 h1
    refine sr (oD (sg rfl) rfl (nn (cw_ret (kw_nx_ret ?_))))
    have q0 := Option.some.inj H0
    subst q0
    exact kw_ret Tryd.results5 (.cons (.tmp rfl) .nil) [] [] trivial (by decide) ⟨rfl, rfl⟩
  · have H0 := cond_f H0 h1
    obtain ⟨x2, e2, H0⟩ := bind_some H0
    refine cw_skip (kw_nx (sr (oD (mv rfl) rfl (oE (stpU_call (fun i => 0 + i) cf17 (fun w hw => c_s_DrawUnmapPage fl w a0 p0_0 ((a0).length) c0_0 rfl (RO.pass hr0_0 hw) x2 e2) (sevs_cons rfl sevs_nil)) rfl ?_))))
    rintro _ _ ⟨_, ⟨p3, n4, c5, C6, p7, n8, c9, C10, rfl, rfl, hnn4, o6, hnn8, o10⟩, rfl⟩
    obtain rfl := hnn4
    obtain rfl := hnn8
    refine oD (mv rfl) rfl (oD (stp_extract rfl rfl) rfl (oD (stp_extract rfl rfl) rfl (oE (stpU_alloc 2 tz26 rfl) rfl ?_)))
    rintro _ _ ⟨b11, rfl, rfl⟩
    refine oE (stpU_alloc 3 tz28 rfl) rfl ?_
    rintro _ _ ⟨b12, rfl, rfl⟩
    refine oF (stpU_store (id := 2) (cs' := [.slice p3 ((x2.1.b).length) c5, .slice p7 ((x2.1.f).length) c9]) ts26 rfl rfl rfl rfl rfl rfl rfl) ?_
    rintro _ _ rfl
    refine oF (stpU_store (id := 3) (cs' := [.int .i64 x2.2.s, .int .i64 x2.2.p]) ts28 rfl rfl rfl rfl rfl rfl rfl) ?_
    rintro _ _ rfl
    obtain ⟨x13, e13, H0⟩ := bind_some H0
    refine nn (sr (oD (stp_loadN (us := [_, _]) ts26 rfl (Cells.box (id := 2) rfl 2 rfl)) rfl (oD (stp_loadN (us := [_, _]) ts28 rfl (Cells.box (id := 3) rfl 2 rfl)) rfl (oE (stpU_call (fun i => 4 + i) cf18 (fun w hw => c_i_UnmapPage fl w x2.1 p3 ((x2.1.b).length) c5 p7 ((x2.1.f).length) c9 x2.2 rfl (OwnC.pass (id := 0) rfl o6 hw) rfl (OwnC.pass (id := 1) rfl o10 hw) (RO.pass hg hw) x13 e13) (sevs_cons rfl (sevs_cons rfl sevs_nil))) rfl ?_))))
    rintro _ _ ⟨_, ⟨p14, n15, c16, C17, p18, n19, c20, C21, rfl, rfl, hnn15, o17, hnn19, o21⟩, rfl⟩
    obtain rfl := hnn15
    obtain rfl := hnn19
    refine oD (mv rfl) rfl (oD (stp_extract rfl rfl) rfl (oD (stp_extract rfl rfl) rfl (oE (stpU_alloc 6 tz26 rfl) rfl ?_)))
    rintro _ _ ⟨b22, rfl, rfl⟩
    refine oF (stpU_store (id := 6) (cs' := [.slice p14 ((x13.1.b).length) c16, .slice p18 ((x13.1.f).length) c20]) ts26 rfl rfl rfl rfl rfl rfl rfl) ?_
    rintro _ _ rfl
    obtain ⟨x23, e23, H0⟩ := bind_some H0
    refine oD (sg rfl) rfl (nn (sr (oD (stp_loadN (us := [_, _]) ts26 rfl (Cells.box (id := 2) rfl 2 rfl)) rfl (oD (stp_loadN (us := [_, _]) ts28 rfl (Cells.box (id := 3) rfl 2 rfl)) rfl (oE (stpU_call (fun i => 7 + i) cf19 (fun w hw => c_s_UnmapPage fl w x2.1 p3 ((x2.1.b).length) c5 p7 ((x2.1.f).length) c9 x2.2 rfl (OwnC.pass (id := 0) rfl o6 hw) rfl (OwnC.pass (id := 1) rfl o10 hw) x23 e23) (sevs_cons rfl (sevs_cons rfl sevs_nil))) rfl ?_)))))
    rintro _ _ ⟨_, ⟨p24, n25, c26, C27, p28, n29, c30, C31, rfl, rfl, hnn25, o27, hnn29, o31⟩, rfl⟩
    obtain rfl := hnn25
    obtain rfl := hnn29
    refine oD (mv rfl) rfl (oD (stp_extract rfl rfl) rfl (oD (stp_extract rfl rfl) rfl (oE (stpU_alloc 9 tz26 rfl) rfl ?_)))
    rintro _ _ ⟨b32, rfl, rfl⟩
    refine oF (stpU_store (id := 9) (cs' := [.slice p24 ((x23.1.b).length) c26, .slice p28 ((x23.1.f).length) c30]) ts26 rfl rfl rfl rfl rfl rfl rfl) ?_
    rintro _ _ rfl
    obtain ⟨x33, e33, H0⟩ := bind_some H0
    refine oD (sg rfl) rfl (nn (cw_seq (sr (oD (stp_loadN (us := [_, _]) ts26 rfl (Cells.box (id := 6) rfl 2 rfl)) rfl (oD (stp_loadN (us := [_, _]) ts26 rfl (Cells.box (id := 9) rfl 2 rfl)) rfl (oE (stpU_call (fun i => 10 + i) cf10 (fun w hw => c_i_TableSame fl w x13.1 p14 ((x13.1.b).length) c16 p18 ((x13.1.f).length) c20 x23.1 p24 ((x23.1.b).length) c26 p28 ((x23.1.f).length) c30 rfl (OwnC.pass (id := 4) rfl o17 hw) rfl (OwnC.pass (id := 5) rfl o21 hw) rfl (OwnC.pass (id := 7) rfl o27 hw) rfl (OwnC.pass (id := 8) rfl o31 hw) x33 e33) (sevs_cons rfl (sevs_cons rfl sevs_nil))) rfl ?_))))))
    rintro _ _ ⟨_, ⟨rfl, rfl⟩, rfl⟩
    obtain ⟨y34, ey34, H0⟩ := bind_some H0
    refine oD (stp_not rfl) rfl (oD (mv rfl) rfl (ow_cutY 4 48 y34 ?_ ?_))
    · rcases Bool.eq_false_or_eq_true (!x33) with hy34 | hy34
      · have ey34 := cond_t ey34 hy34
        refine oO rfl hy34 rfl (oO rfl hy34 rfl (oO rfl hy34 rfl (oD (stp_pick_t rfl hy34 rfl) rfl ?_)))
        obtain rfl := Option.some.inj ey34
        exact ow_nil (jy 4 0)
      · have ey34 := cond_f ey34 hy34
        refine oG rfl hy34 (mv rfl) rfl (oG rfl hy34 (mv rfl) rfl (oG rfl hy34 (stp_neqB Tryd.underlying4 rfl rfl) rfl (oD (stp_pick_f rfl hy34 rfl) rfl ?_)))
        obtain rfl := Option.some.inj ey34
        exact ow_nil (jy 4 0)
    · obtain ⟨y35, ey35, H0⟩ := bind_some H0
      refine oD (mv rfl) rfl (ow_cutY 3 52 y35 ?_ ?_)
      · rcases Bool.eq_false_or_eq_true y34 with hy35 | hy35
        · have ey35 := cond_t ey35 hy35
          refine oO rfl hy35 rfl (oO rfl hy35 rfl (oD (stp_pick_t rfl hy35 rfl) rfl ?_))
          obtain rfl := Option.some.inj ey35
          exact ow_nil (jy 3 0)
        · have ey35 := cond_f ey35 hy35
          refine oG rfl hy35 (mv rfl) rfl (oG rfl hy35 (stp_not rfl) rfl (oD (stp_pick_f rfl hy35 rfl) rfl ?_))
          obtain rfl := Option.some.inj ey35
          exact ow_nil (jy 3 0)
      · refine ow_nil (kw_nx (cw_cond rfl (fun h36 => ?_) (fun h36 => ?_)))
        · have H0 := cond_t H0 h36
          refine sr (oD (stp_loadN (us := [_, _]) ts26 rfl (Cells.box (id := 6) rfl 2 rfl)) rfl (oD (stp_loadN (us := [_, _]) ts26 rfl (Cells.box (id := 9) rfl 2 rfl)) rfl (oE (stpU_call (fun i => 10 + i) cf10 (fun w hw => c_i_TableSame fl w x13.1 p14 ((x13.1.b).length) c16 p18 ((x13.1.f).length) c20 x23.1 p24 ((x23.1.b).length) c26 p28 ((x23.1.f).length) c30 rfl (OwnC.pass (id := 4) rfl o17 hw) rfl (OwnC.pass (id := 5) rfl o21 hw) rfl (OwnC.pass (id := 7) rfl o27 hw) rfl (OwnC.pass (id := 8) rfl o31 hw) x33 e33) (sevs_cons rfl (sevs_cons rfl sevs_nil))) rfl ?_)))
          rintro _ _ ⟨_, ⟨rfl, rfl⟩, rfl⟩
          obtain ⟨y37, ey37, H0⟩ := bind_some H0
          refine oD (mv rfl) rfl (ow_cutY 4 60 y37 ?_ ?_)
          · rcases Bool.eq_false_or_eq_true x33 with hy37 | hy37
            · have ey37 := cond_t ey37 hy37
              refine oG rfl hy37 (mv rfl) rfl (oG rfl hy37 (mv rfl) rfl (oG rfl hy37 (stp_eqlB Tryd.underlying4 rfl rfl) rfl (oD (stp_pick_t rfl hy37 rfl) rfl ?_)))
              obtain rfl := Option.some.inj ey37
              exact ow_nil (jy 4 0)
            · have ey37 := cond_f ey37 hy37
              refine oO rfl hy37 rfl (oO rfl hy37 rfl (oO rfl hy37 rfl (oD (stp_pick_f rfl hy37 rfl) rfl ?_)))
              obtain rfl := Option.some.inj ey37
              exact ow_nil (jy 4 0)
          · refine oD (sg rfl) rfl (nn (cw_ret (kw_nx_ret ?_)))
            have q0 := Option.some.inj H0
            subst q0
            exact kw_ret Tryd.results5 (.cons (.tmp rfl) .nil) [] [] trivial (by decide) ⟨rfl, rfl⟩
        · have H0 := cond_f H0 h36
          obtain ⟨x38, e38, H0⟩ := bind_some H0
          refine cw_skip (kw_nx (sr (oD (stp_loadN (us := [_, _]) ts26 rfl (Cells.box (id := 6) rfl 2 rfl)) rfl (oD (stp_loadN (us := [_, _]) ts28 rfl (Cells.box (id := 3) rfl 2 rfl)) rfl (oE (stpU_call (fun i => 10 + i) cf11 (fun w hw => c_i_FindPage fl w x13.1 p14 ((x13.1.b).length) c16 p18 ((x13.1.f).length) c20 x2.2 rfl (OwnC.pass (id := 4) rfl o17 hw) rfl (OwnC.pass (id := 5) rfl o21 hw) (RO.pass hg hw) x38 e38) (sevs_cons rfl (sevs_cons rfl sevs_nil))) rfl ?_)))))
          rintro _ _ ⟨_, ⟨rfl, rfl⟩, rfl⟩
          obtain ⟨x39, e39, H0⟩ := bind_some H0
          refine oD (mv rfl) rfl (oD (stp_extract rfl rfl) rfl (oD (stp_extract rfl rfl) rfl (oD (stp_extract rfl rfl) rfl (oD (sg rfl) rfl (oD (sg rfl) rfl (oD (sg rfl) rfl (nn (sr (oD (stp_loadN (us := [_, _]) ts26 rfl (Cells.box (id := 6) rfl 2 rfl)) rfl (oE (stpU_call (fun i => 10 + i) cf13 (fun w hw => c_i_KeysOf fl w x13.1 p14 ((x13.1.b).length) c16 p18 ((x13.1.f).length) c20 rfl (OwnC.pass (id := 4) rfl o17 hw) rfl (OwnC.pass (id := 5) rfl o21 hw) (RO.pass hg hw) x39 e39) (sevs_cons rfl sevs_nil)) rfl ?_))))))))))
          rintro _ _ ⟨_, ⟨p40, n41, c42, C43, rfl, rfl, hnn41, o43⟩, rfl⟩
          obtain rfl := hnn41
          obtain ⟨o0_0, eo0_0, H0⟩ := bind_some H0
          refine oD (sg rfl) rfl (nn (cw_seq (sr (oD (sg rfl) rfl (nn (cw_join (ι := Int) (fun | v44 => o0_0 = .out v44) (fun | v44 => [(3, .pointer (some ⟨b11, 0, none⟩)), (5, .pointer (some ⟨b22, 0, none⟩)), (11, .bool x38.2.2), (12, .slice p40 ((x39).length) c42), (13, .int .i64 v44)]) (fun | v44 => [(0, C6), (1, C10), (2, [(b11, .cells #[.slice p3 ((x2.1.b).length) c5, .slice p7 ((x2.1.f).length) c9] 26 (0, 0))]), (4, C17), (5, C21), (6, [(b22, .cells #[.slice p14 ((x13.1.b).length) c16, .slice p18 ((x13.1.f).length) c20] 26 (0, 0))]), (10, C43)]) ?_ ?_))))))
          · refine cw_block (cw_loopS (ι := Nat × Int) (js := [0, 1, 2, 4, 5, 6, 10]) (fun x => x.1) (fun | (fuel, v44) => l_FnUnmapPage_L0 fl x2 x13 x39 fuel v44 = some o0_0) (fun | (_, v44) => [(3, .pointer (some ⟨b11, 0, none⟩)), (5, .pointer (some ⟨b22, 0, none⟩)), (11, .bool x38.2.2), (12, .slice p40 ((x39).length) c42), (13, .int .i64 v44)]) (fun | (_, v44) => [(0, C6), (1, C10), (2, [(b11, .cells #[.slice p3 ((x2.1.b).length) c5, .slice p7 ((x2.1.f).length) c9] 26 (0, 0))]), (4, C17), (5, C21), (6, [(b22, .cells #[.slice p14 ((x13.1.b).length) c16, .slice p18 ((x13.1.f).length) c20] 26 (0, 0))]), (10, C43)]) (fl, 0) eo0_0 ⟨rfl, rfl, rfl, rfl, rfl, trivial⟩ ⟨0, [1, 2, 4, 5, 6, 10], rfl, rfl, 1, [2, 4, 5, 6, 10], rfl, rfl, 2, [4, 5, 6, 10], rfl, rfl, 4, [5, 6, 10], rfl, rfl, 5, [6, 10], rfl, rfl, 6, [10], rfl, rfl, 10, [], rfl, rfl, trivial⟩ (by decide) ?_)
            rintro ⟨fuel, v44⟩ H1
            have H1 : l_FnUnmapPage_L0 fl x2 x13 x39 fuel v44 = some o0_0 := H1
            rcases fuel with _ | fuel
            · rw [l_FnUnmapPage_L0.eq_1] at H1; cases H1
            rw [l_FnUnmapPage_L0.eq_2] at H1
            refine CW.sub (s' := [(3, .pointer (some ⟨b11, 0, none⟩)), (5, .pointer (some ⟨b22, 0, none⟩)), (11, .bool x38.2.2), (12, .slice p40 ((x39).length) c42), (13, .int .i64 v44)]) (h' := [(0, C6), (1, C10), (2, [(b11, .cells #[.slice p3 ((x2.1.b).length) c5, .slice p7 ((x2.1.f).length) c9] 26 (0, 0))]), (4, C17), (5, C21), (6, [(b22, .cells #[.slice p14 ((x13.1.b).length) c16, .slice p18 ((x13.1.f).length) c20] 26 (0, 0))]), (10, C43)]) ?_ ⟨rfl, rfl, rfl, rfl, rfl, trivial⟩ ⟨rfl, rfl, rfl, rfl, rfl, rfl, rfl, trivial⟩
            refine cw_seq (sr (oD (mv rfl) rfl (oD (mv rfl) rfl (oD (stp_len Tryd.underlying37 rfl) rfl (oD (stp_lss rfl rfl) rfl (nn (cw_cond rfl (fun h45 => ?_) (fun h45 => ?_))))))))
            · have H1 := cond_t H1 h45
              obtain ⟨x46, e46, H1⟩ := bind_some H1
              obtain ⟨x47, e47, H1⟩ := bind_some H1
              refine cw_skip (kw_nx (cw_seq (cw_block (cw_seq (rdr g_mixed [3, 12, 13] [0, 1, 2, 10] { dst := dS [78, 79, 80, 81, 82, 83, 77, 84, 85, 86, 15, 16, 17], pre := gA [] [[], [], [], [1, 2], [1, 2, 3], rn 0 5, rn 0 6, rn 0 7, rn 0 7, rn 0 7, rn 0 8, [0, 1, 2, 3, 4, 5, 6, 7, 8, 10], rn 0 12], ids := fun _ => [], rs := rL [[(3, 0)], [(12, 0)], [(13, 0)], [(78, 2), (79, 3)], [(80, 4)], [(77, 1), (81, 5)], [(82, 6)], [(76, 7)], [(76, 7)], [(76, 7)], [(83, 8)], [(84, 9)], [(85, 10)]], rh := rL [[(2, 0)], [], [], [(10, 0)], [(10, 0)], [(0, 0), (1, 0)]], V := fun i g => gA undef [.agg #[.slice p3 ((x2.1.b).length) c5, .slice p7 ((x2.1.f).length) c9], .slice p40 ((x39).length) c42, .int .i64 v44, .pointer (some ⟨eB p40, eO p40 + Int.toNat v44 * Enc.sz K + 0, none⟩), .agg #[.int .i64 x46.s, .int .i64 x46.p], .tuple #[.int .i64 x47.1, .int .i64 x47.2.1, .bool x47.2.2], .tuple #[.int .i64 x47.1, .int .i64 x47.2.1, .bool x47.2.2], .int .i64 x47.1, .int .i64 x47.2.1, .bool x47.2.2, .int .i64 x47.1, .int .i64 x47.2.1, .bool x47.2.2] i, U := fun _ _ => [], Φ := fun _ _ => True } ?_ ?_)))))
              · refine ⟨⟨⟨⟨⟨⟨⟨⟨⟨⟨⟨⟨⟨trivial, lc rfl rfl fun hs hh => stp_loadN (us := [_, _]) ts26 (sv hs 3 rfl) (Cells.box (id := 2) (hh.get 2 _ rfl) 2 rfl)⟩, lc rfl rfl fun hs hh => stp_move (sv hs 12 rfl)⟩, lc rfl rfl fun hs hh => stp_move (sv hs 13 rfl)⟩, lc rfl rfl fun hs hh => stp_indexAddr Tryd.underlying37 ts28 (by decide) (sv hs 78 rfl) rfl (sv hs 79 rfl) (Rdb.own (id := 10) (hh.get 10 _ rfl) o43) e46⟩, lc rfl rfl fun hs hh => stp_loadN (us := [_, _]) ts28 (sv hs 80 rfl) (Cells.el (Rdb.own (id := 10) (hh.get 10 _ rfl) o43) (by decide) e46 0 2 rfl)⟩, ?_⟩, lc rfl rfl fun hs hh => stp_move (sv hs 82 rfl)⟩, lc rfl rfl fun hs hh => stp_extract (sv hs 76 rfl) rfl⟩, lc rfl rfl fun hs hh => stp_extract (sv hs 76 rfl) rfl⟩, lc rfl rfl fun hs hh => stp_extract (sv hs 76 rfl) rfl⟩, lc rfl rfl fun hs hh => stp_assign (sv hs 83 rfl)⟩, lc rfl rfl fun hs hh => stp_assign (sv hs 84 rfl)⟩, lc rfl rfl fun hs hh => stp_assign (sv hs 85 rfl)⟩
                · refine le rfl rfl (fun g hΦ s h hs hh => (stpU_call (fun i => 11 + i) cf11 (fun w hw => c_i_FindPage fl w x2.1 p3 ((x2.1.b).length) c5 p7 ((x2.1.f).length) c9 x46 rfl (OwnC.pass (id := 0) (hh.get 0 _ rfl) o6 hw) rfl (OwnC.pass (id := 1) (hh.get 1 _ rfl) o10 hw) (RO.pass hg hw) x47 e47) (sevs_cons (sv hs 77 rfl) (sevs_cons (sv hs 81 rfl) sevs_nil)))) ?_
                  rintro g _ _ ⟨_, ⟨rfl, rfl⟩, rfl⟩
                  exact ⟨⟨[], [], []⟩, trivial, .inr rfl, rfl⟩
              · intro g hΦ
                refine KW.sub (s' := [(3, .pointer (some ⟨b11, 0, none⟩)), (5, .pointer (some ⟨b22, 0, none⟩)), (11, .bool x38.2.2), (12, .slice p40 ((x39).length) c42), (13, .int .i64 v44), (14, .int .i64 x47.1), (16, .bool x47.2.2)]) (h' := [(0, C6), (1, C10), (2, [(b11, .cells #[.slice p3 ((x2.1.b).length) c5, .slice p7 ((x2.1.f).length) c9] 26 (0, 0))]), (4, C17), (5, C21), (6, [(b22, .cells #[.slice p14 ((x13.1.b).length) c16, .slice p18 ((x13.1.f).length) c20] 26 (0, 0))]), (10, C43)]) ?_ ⟨rfl, rfl, rfl, rfl, rfl, rfl, rfl, trivial⟩ ⟨rfl, rfl, rfl, rfl, rfl, rfl, rfl, trivial⟩
                obtain ⟨x48, e48, H1⟩ := bind_some H1
                refine kw_nx (cw_seq (rdr g_mixed [5, 12, 13] [4, 5, 6, 10] { dst := dS [88, 89, 90, 91, 92, 93, 87, 94, 95, 96, 18, 19, 20], pre := gA [] [[], [], [], [1, 2], [1, 2, 3], rn 0 5, rn 0 6, rn 0 7, rn 0 7, rn 0 7, rn 0 8, [0, 1, 2, 3, 4, 5, 6, 7, 8, 10], rn 0 12], ids := fun _ => [], rs := rL [[(5, 0)], [(12, 0)], [(13, 0)], [(88, 2), (89, 3)], [(90, 4)], [(87, 1), (91, 5)], [(92, 6)], [(86, 7)], [(86, 7)], [(86, 7)], [(93, 8)], [(94, 9)], [(95, 10)]], rh := rL [[(6, 0)], [], [], [(10, 0)], [(10, 0)], [(4, 0), (5, 0)]], V := fun i g => gA undef [.agg #[.slice p14 ((x13.1.b).length) c16, .slice p18 ((x13.1.f).length) c20], .slice p40 ((x39).length) c42, .int .i64 v44, .pointer (some ⟨eB p40, eO p40 + Int.toNat v44 * Enc.sz K + 0, none⟩), .agg #[.int .i64 x46.s, .int .i64 x46.p], .tuple #[.int .i64 x48.1, .int .i64 x48.2.1, .bool x48.2.2], .tuple #[.int .i64 x48.1, .int .i64 x48.2.1, .bool x48.2.2], .int .i64 x48.1, .int .i64 x48.2.1, .bool x48.2.2, .int .i64 x48.1, .int .i64 x48.2.1, .bool x48.2.2] i, U := fun _ _ => [], Φ := fun _ _ => True } ?_ ?_))
                · refine ⟨⟨⟨⟨⟨⟨⟨⟨⟨⟨⟨⟨⟨trivial, lc rfl rfl fun hs hh => stp_loadN (us := [_, _]) ts26 (sv hs 5 rfl) (Cells.box (id := 6) (hh.get 6 _ rfl) 2 rfl)⟩, lc rfl rfl fun hs hh => stp_move (sv hs 12 rfl)⟩, lc rfl rfl fun hs hh => stp_move (sv hs 13 rfl)⟩, lc rfl rfl fun hs hh => stp_indexAddr Tryd.underlying37 ts28 (by decide) (sv hs 88 rfl) rfl (sv hs 89 rfl) (Rdb.own (id := 10) (hh.get 10 _ rfl) o43) e46⟩, lc rfl rfl fun hs hh => stp_loadN (us := [_, _]) ts28 (sv hs 90 rfl) (Cells.el (Rdb.own (id := 10) (hh.get 10 _ rfl) o43) (by decide) e46 0 2 rfl)⟩, ?_⟩, lc rfl rfl fun hs hh => stp_move (sv hs 92 rfl)⟩, lc rfl rfl fun hs hh => stp_extract (sv hs 86 rfl) rfl⟩, lc rfl rfl fun hs hh => stp_extract (sv hs 86 rfl) rfl⟩, lc rfl rfl fun hs hh => stp_extract (sv hs 86 rfl) rfl⟩, lc rfl rfl fun hs hh => stp_assign (sv hs 93 rfl)⟩, lc rfl rfl fun hs hh => stp_assign (sv hs 94 rfl)⟩, lc rfl rfl fun hs hh => stp_assign (sv hs 95 rfl)⟩
                  · refine le rfl rfl (fun g hΦ s h hs hh => (stpU_call (fun i => 11 + i) cf11 (fun w hw => c_i_FindPage fl w x13.1 p14 ((x13.1.b).length) c16 p18 ((x13.1.f).length) c20 x46 rfl (OwnC.pass (id := 4) (hh.get 4 _ rfl) o17 hw) rfl (OwnC.pass (id := 5) (hh.get 5 _ rfl) o21 hw) (RO.pass hg hw) x48 e48) (sevs_cons (sv hs 87 rfl) (sevs_cons (sv hs 91 rfl) sevs_nil)))) ?_
                    rintro g _ _ ⟨_, ⟨rfl, rfl⟩, rfl⟩
                    exact ⟨⟨[], [], []⟩, trivial, .inr rfl, rfl⟩
                · intro g hΦ
                  refine KW.sub (s' := [(3, .pointer (some ⟨b11, 0, none⟩)), (5, .pointer (some ⟨b22, 0, none⟩)), (11, .bool x38.2.2), (12, .slice p40 ((x39).length) c42), (13, .int .i64 v44), (14, .int .i64 x47.1), (16, .bool x47.2.2), (17, .int .i64 x48.1), (19, .bool x48.2.2)]) (h' := [(0, C6), (1, C10), (2, [(b11, .cells #[.slice p3 ((x2.1.b).length) c5, .slice p7 ((x2.1.f).length) c9] 26 (0, 0))]), (4, C17), (5, C21), (6, [(b22, .cells #[.slice p14 ((x13.1.b).length) c16, .slice p18 ((x13.1.f).length) c20] 26 (0, 0))]), (10, C43)]) ?_ ⟨rfl, rfl, rfl, rfl, rfl, rfl, rfl, rfl, rfl, trivial⟩ ⟨rfl, rfl, rfl, rfl, rfl, rfl, rfl, trivial⟩
                  obtain ⟨y49, ey49, H1⟩ := bind_some H1
                  refine kw_nx (sr (oD (mv rfl) rfl (oD (stp_not rfl) rfl (oD (mv rfl) rfl (ow_cutY 3 101 y49 ?_ ?_)))))
                  · rcases Bool.eq_false_or_eq_true (!x47.2.2) with hy49 | hy49
                    · have ey49 := cond_t ey49 hy49
                      refine oO rfl hy49 rfl (oO rfl hy49 rfl (oD (stp_pick_t rfl hy49 rfl) rfl ?_))
                      obtain rfl := Option.some.inj ey49
                      exact ow_nil (jy 3 0)
                    · have ey49 := cond_f ey49 hy49
                      refine oG rfl hy49 (mv rfl) rfl (oG rfl hy49 (stp_not rfl) rfl (oD (stp_pick_f rfl hy49 rfl) rfl ?_))
                      obtain rfl := Option.some.inj ey49
                      exact ow_nil (jy 3 0)
                  · obtain ⟨y50, ey50, H1⟩ := bind_some H1
                    refine oD (mv rfl) rfl (ow_cutY 4 106 y50 ?_ ?_)
                    · rcases Bool.eq_false_or_eq_true y49 with hy50 | hy50
                      · have ey50 := cond_t ey50 hy50
                        refine oO rfl hy50 rfl (oO rfl hy50 rfl (oO rfl hy50 rfl (oD (stp_pick_t rfl hy50 rfl) rfl ?_)))
                        obtain rfl := Option.some.inj ey50
                        exact ow_nil (jy 4 0)
                      · have ey50 := cond_f ey50 hy50
                        refine oG rfl hy50 (mv rfl) rfl (oG rfl hy50 (mv rfl) rfl (oG rfl hy50 (stp_neq rfl rfl) rfl (oD (stp_pick_f rfl hy50 rfl) rfl ?_)))
                        obtain rfl := Option.some.inj ey50
                        exact ow_nil (jy 4 0)
                    · refine ow_nil (kw_nx (cw_cond rfl (fun h51 => ?_) (fun h51 => ?_)))
                      · have H1 := cond_t H1 h51
                        refine sr (oD (sg rfl) rfl (nn (cw_ret (kw_bl_ret (kw_nx_ret (kw_lq_ret (kw_bl_ret (kw_join_ret (kw_nx_ret ?_)))))))))
                        have q1 := Option.some.inj H1
                        subst q1
                        have q0 := Option.some.inj H0
                        subst q0
                        exact kw_ret Tryd.results5 (.cons (.tmp rfl) .nil) [] [] trivial (by decide) ⟨rfl, rfl⟩
                      · have H1 := cond_f H1 h51
                        obtain ⟨x52, e52, H1⟩ := bind_some H1
                        exact cw_skip (kw_bl_normal (kw_nx (cw_region (oD (mv rfl) rfl (oD (stp_add rfl rfl e52) rfl (oD (sg rfl) rfl (ow_nil (kw_lqS (js := [0, 1, 2, 4, 5, 6, 10]) (fuel, x52) H1 (Nat.lt_succ_self _) ⟨rfl, rfl, rfl, rfl, rfl, trivial⟩ ⟨0, [1, 2, 4, 5, 6, 10], rfl, rfl, 1, [2, 4, 5, 6, 10], rfl, rfl, 2, [4, 5, 6, 10], rfl, rfl, 4, [5, 6, 10], rfl, rfl, 5, [6, 10], rfl, rfl, 6, [10], rfl, rfl, 10, [], rfl, rfl, trivial⟩ (by decide)))))))))
            · have H1 := cond_f H1 h45
              refine cw_exit (kw_nx_exit (kw_lq_exit (kw_bl ?_)))
              have q1 := Option.some.inj H1
              subst q1
              exact kw_joinS (js := [0, 1, 2, 4, 5, 6, 10]) v44 rfl ⟨rfl, rfl, rfl, rfl, rfl, trivial⟩ ⟨0, [1, 2, 4, 5, 6, 10], rfl, rfl, 1, [2, 4, 5, 6, 10], rfl, rfl, 2, [4, 5, 6, 10], rfl, rfl, 4, [5, 6, 10], rfl, rfl, 5, [6, 10], rfl, rfl, 6, [10], rfl, rfl, 10, [], rfl, rfl, trivial⟩ (by decide)
          · rintro v44 rfl
            refine KW.sub (s' := [(3, .pointer (some ⟨b11, 0, none⟩)), (5, .pointer (some ⟨b22, 0, none⟩)), (11, .bool x38.2.2), (12, .slice p40 ((x39).length) c42), (13, .int .i64 v44)]) (h' := [(0, C6), (1, C10), (2, [(b11, .cells #[.slice p3 ((x2.1.b).length) c5, .slice p7 ((x2.1.f).length) c9] 26 (0, 0))]), (4, C17), (5, C21), (6, [(b22, .cells #[.slice p14 ((x13.1.b).length) c16, .slice p18 ((x13.1.f).length) c20] 26 (0, 0))]), (10, C43)]) ?_ ⟨rfl, rfl, rfl, rfl, rfl, trivial⟩ ⟨rfl, rfl, rfl, rfl, rfl, rfl, rfl, trivial⟩
            obtain ⟨x53, e53, H0⟩ := bind_some H0
            refine kw_nx (sr (oD (stp_loadN (us := [_, _]) ts26 rfl (Cells.box (id := 6) rfl 2 rfl)) rfl (oE (stpU_call (fun i => 11 + i) cf20 (fun w hw => c_i_TableValid fl w x13.1 p14 ((x13.1.b).length) c16 p18 ((x13.1.f).length) c20 rfl (OwnC.pass (id := 4) rfl o17 hw) rfl (OwnC.pass (id := 5) rfl o21 hw) (RO.pass hg hw) x53 e53) (sevs_cons rfl sevs_nil)) rfl ?_)))
            rintro _ _ ⟨_, ⟨rfl, rfl⟩, rfl⟩
            obtain ⟨y54, ey54, H0⟩ := bind_some H0
            refine oD (mv rfl) rfl (ow_cutY 3 112 y54 ?_ ?_)
            · rcases Bool.eq_false_or_eq_true x53 with hy54 | hy54
              · have ey54 := cond_t ey54 hy54
                refine oG rfl hy54 (mv rfl) rfl (oG rfl hy54 (stp_not rfl) rfl (oD (stp_pick_t rfl hy54 rfl) rfl ?_))
                obtain rfl := Option.some.inj ey54
                exact ow_nil (jy 3 0)
              · have ey54 := cond_f ey54 hy54
                refine oO rfl hy54 rfl (oO rfl hy54 rfl (oD (stp_pick_f rfl hy54 rfl) rfl ?_))
                obtain rfl := Option.some.inj ey54
                exact ow_nil (jy 3 0)
            · obtain ⟨y55, ey55, H0⟩ := bind_some H0
              refine oD (mv rfl) rfl (ow_cutY 8 121 y55 ?_ ?_)
              · rcases Bool.eq_false_or_eq_true y54 with hy55 | hy55
                · have ey55 := cond_t ey55 hy55
                  obtain ⟨x56, e56, ey55⟩ := bind_some ey55
                  refine oG rfl hy55 (mv rfl) rfl (oG rfl hy55 (stp_len Tryd.underlying37 rfl) rfl (oG rfl hy55 (stp_loadN (us := [_, _]) ts26 rfl (Cells.box (id := 2) rfl 2 rfl)) rfl (ow_eff (.some rfl hy55) (stpU_call (fun i => 11 + i) cf13 (fun w hw => c_i_KeysOf fl w x2.1 p3 ((x2.1.b).length) c5 p7 ((x2.1.f).length) c9 rfl (OwnC.pass (id := 0) rfl o6 hw) rfl (OwnC.pass (id := 1) rfl o10 hw) (RO.pass hg hw) x56 e56) (sevs_cons rfl sevs_nil)) rfl ?_)))
                  rintro _ _ ⟨_, ⟨p57, n58, c59, C60, rfl, rfl, hnn58, o60⟩, rfl⟩
                  obtain rfl := hnn58
                  obtain ⟨x61, e61, ey55⟩ := bind_some ey55
                  refine oG rfl hy55 (stp_len Tryd.underlying37 rfl) rfl (oG rfl hy55 (stp_sub rfl rfl e61) rfl (oG rfl hy55 (stp_eql rfl rfl) rfl (oD (stp_pick_t rfl hy55 rfl) rfl ?_)))
                  obtain rfl := Option.some.inj ey55
                  exact ow_nil (jy 8 1)
                · have ey55 := cond_f ey55 hy55
                  refine oO rfl hy55 rfl (oO rfl hy55 rfl (oO rfl hy55 rfl (oO rfl hy55 rfl (oO rfl hy55 rfl (oO rfl hy55 rfl (oO rfl hy55 rfl (oD (stp_pick_f rfl hy55 rfl) rfl ?_)))))))
                  obtain rfl := Option.some.inj ey55
                  exact ow_nil (jy 8 0)
              · refine oD (sg rfl) rfl (nn (cw_ret ?_))
                have q0 := Option.some.inj H0
                subst q0
                exact kw_ret Tryd.results5 (.cons (.tmp rfl) .nil) [] [] trivial (by decide) ⟨rfl, rfl⟩
end Go.Proofs.YtbhpohopfbcfgaaDoor
