/- The walks: functions of the program return what their pure functions say. Printed by a program (gen.py). -/
import Derived.Test.YtbhpohopfbcfgaaDoorGp
import Derived.Test.YtbhpohopfbcfgaaDoorGt
import Derived.Test.YtbhpohopfbcfgaaDoorMan
import Derived.Test.YtbhpohopfbcfgaaDoorMap
import Derived.Test.YtbhpohopfbcfgaaDoorCpy
import Derived.Test.YtbhpohopfbcfgaaDoorBits
import Derived.Test.YtbhpohopfbcfgaaDoorGwaa
set_option linter.unusedSimpArgs false
set_option linter.unusedVariables false
set_option linter.unusedSectionVars false
namespace Go.Proofs.YtbhpohopfbcfgaaDoor
open Go.RowKit
set_option maxHeartbeats 4000000 in
set_option maxRecDepth 20000 in
theorem c_i_RightsValid (fl : Nat) (w : World) (a0 : Int) (r : Bool) (H0 : i_RightsValid fl a0 = some r) :
    Ct Tryd.prog 30 [.int .i64 a0] w [] (fun rv h' => rv = .bool r ∧ h' = []) := by
  unfold i_RightsValid at H0
  refine ct_of_cw Tryd.func30 rfl Tryd.ntmps30 rfl (Sat.refl _ _) ?_
  obtain ⟨x1, e1, H0⟩ := bind_some H0
  refine sr (oD (sg rfl) rfl (nn (sr (oD (mv rfl) rfl (oE (stpU_call (fun i => 0 + i) cf29 (fun w hw => c_i_within fl w a0 8 x1 e1) (sevs_cons rfl (sevs_cons rfl sevs_nil))) rfl ?_)))))
  rintro _ _ ⟨_, ⟨rfl, rfl⟩, rfl⟩
  refine oD (sg rfl) rfl (nn (cw_ret ?_))
  have q0 := Option.some.inj H0
  subst q0
  exact kw_ret Tryd.results30 (.cons (.tmp rfl) .nil) [] [] trivial (by decide) ⟨rfl, rfl⟩

set_option maxHeartbeats 4000000 in
set_option maxRecDepth 20000 in
theorem c_l_ipKeys (fl : Nat) (w : World) (a0 : (List K)) (p0_0 : Option Addr) (n0_0 c0_0 : Nat) (a1 : (List K)) (p1_0 : Option Addr) (n1_0 c1_0 : Nat) (hn0_0 : n0_0 = (a0).length) (hr0_0 : RO w (hkeys []) (RdL p0_0 c0_0 a0)) (hn1_0 : n1_0 = (a1).length) (hr1_0 : RO w (hkeys []) (RdL p1_0 c1_0 a1)) (r : Bool) (H0 : l_ipKeys fl a0 a1 = some r) :
    Ct Tryd.prog 12 [.slice p0_0 n0_0 c0_0, .slice p1_0 n1_0 c1_0] w [] (fun rv h' => rv = .bool r ∧ h' = []) := by
  obtain rfl := hn0_0
  obtain rfl := hn1_0
  unfold l_ipKeys at H0
  refine ct_of_cw Tryd.func12 rfl Tryd.ntmps12 rfl (Sat.refl _ _) ?_
  refine sr (oD (sg rfl) rfl (nn (cw_seq (sr (oD (mv rfl) rfl (oD (stp_len Tryd.underlying37 rfl) rfl (oD (mv rfl) rfl (oD (stp_len Tryd.underlying37 rfl) rfl (oD (stp_neq rfl rfl) rfl (nn (cw_cond rfl (fun h1 => ?_) (fun h1 => ?_))))))))))))
  · have H0 := cond_t H0 h1
    refine sr (oD (sg rfl) rfl (nn (cw_ret (kw_nx_ret ?_))))
    have q0 := Option.some.inj H0
    subst q0
    exact kw_ret Tryd.results12 (.cons (.tmp rfl) .nil) [] [] trivial (by decide) ⟨rfl, rfl⟩
  · have H0 := cond_f H0 h1
    obtain ⟨o0_0, eo0_0, H0⟩ := bind_some H0
    refine cw_skip (kw_nx (cw_seq (sr (oD (sg rfl) rfl (nn (cw_join (ι := Int) (fun | v2 => o0_0 = .out v2) (fun | v2 => [(0, .slice p0_0 ((a0).length) c0_0), (1, .slice p1_0 ((a1).length) c1_0), (5, .int .i64 v2)]) (fun | v2 => []) ?_ ?_))))))
    · refine cw_block (cw_loopS (ι := Nat × Int) (js := []) (fun x => x.1) (fun | (fuel, v2) => l_ipKeys_L0 fl a0 a1 fuel v2 = some o0_0) (fun | (_, v2) => [(0, .slice p0_0 ((a0).length) c0_0), (1, .slice p1_0 ((a1).length) c1_0), (5, .int .i64 v2)]) (fun | (_, v2) => []) (fl, 0) eo0_0 ⟨rfl, rfl, rfl, trivial⟩ trivial (by decide) ?_)
      rintro ⟨fuel, v2⟩ H1
      have H1 : l_ipKeys_L0 fl a0 a1 fuel v2 = some o0_0 := H1
      rcases fuel with _ | fuel
      · rw [l_ipKeys_L0.eq_1] at H1; cases H1
      rw [l_ipKeys_L0.eq_2] at H1
      refine CW.sub (s' := [(0, .slice p0_0 ((a0).length) c0_0), (1, .slice p1_0 ((a1).length) c1_0), (5, .int .i64 v2)]) (h' := []) ?_ ⟨rfl, rfl, rfl, trivial⟩ trivial
      refine cw_seq (sr (oD (mv rfl) rfl (oD (mv rfl) rfl (oD (stp_len Tryd.underlying37 rfl) rfl (oD (stp_lss rfl rfl) rfl (nn (cw_cond rfl (fun h3 => ?_) (fun h3 => ?_))))))))
      · have H1 := cond_t H1 h3
        obtain ⟨x4, e4, H1⟩ := bind_some H1
        obtain ⟨x5, e5, H1⟩ := bind_some H1
        refine cw_skip (kw_nx (cw_seq (cw_block (cw_seq (rdr g_mixed [0, 1, 5] [] { dst := dS [18, 19, 20, 21, 22, 23, 24, 25, 26], pre := gA [] [[], [], [0, 1], [0, 1, 2], [], [], [4, 5], [4, 5, 6], rn 0 8], ids := fun _ => [], rs := rL [[(0, 0)], [(5, 0)], [(17, 1), (18, 2)], [(19, 3)], [(1, 0)], [(5, 0)], [(21, 5), (22, 6)], [(23, 7)], [(20, 4), (24, 8)]], rh := fun _ => [], V := fun i g => gA undef [.slice p0_0 ((a0).length) c0_0, .int .i64 v2, .pointer (some ⟨eB p0_0, eO p0_0 + Int.toNat v2 * Enc.sz K + 0, none⟩), .agg #[.int .i64 x4.s, .int .i64 x4.p], .slice p1_0 ((a1).length) c1_0, .int .i64 v2, .pointer (some ⟨eB p1_0, eO p1_0 + Int.toNat v2 * Enc.sz K + 0, none⟩), .agg #[.int .i64 x5.s, .int .i64 x5.p], .bool (x4 != x5)] i, U := fun _ _ => [], Φ := fun _ _ => True } ?_ ?_)))))
        · exact ⟨⟨⟨⟨⟨⟨⟨⟨⟨trivial, lc rfl rfl fun hs hh => stp_move (sv hs 0 rfl)⟩, lc rfl rfl fun hs hh => stp_move (sv hs 5 rfl)⟩, lc rfl rfl fun hs hh => stp_indexAddr Tryd.underlying37 ts28 (by decide) (sv hs 17 rfl) rfl (sv hs 18 rfl) (Rdb.ro hr0_0) e4⟩, lc rfl rfl fun hs hh => stp_loadN (us := [_, _]) ts28 (sv hs 19 rfl) (Cells.el (Rdb.ro hr0_0) (by decide) e4 0 2 rfl)⟩, lc rfl rfl fun hs hh => stp_move (sv hs 1 rfl)⟩, lc rfl rfl fun hs hh => stp_move (sv hs 5 rfl)⟩, lc rfl rfl fun hs hh => stp_indexAddr Tryd.underlying37 ts28 (by decide) (sv hs 21 rfl) rfl (sv hs 22 rfl) (Rdb.ro hr1_0) e5⟩, lc rfl rfl fun hs hh => stp_loadN (us := [_, _]) ts28 (sv hs 23 rfl) (Cells.el (Rdb.ro hr1_0) (by decide) e5 0 2 rfl)⟩, lc rfl rfl fun hs hh => stp_neqS te28 x4 x5 (sv hs 20 rfl) (sv hs 24 rfl)⟩
        · intro g hΦ
          refine KW.sub (s' := [(0, .slice p0_0 ((a0).length) c0_0), (1, .slice p1_0 ((a1).length) c1_0), (5, .int .i64 v2), (25, .bool (x4 != x5))]) (h' := []) ?_ ⟨rfl, rfl, rfl, rfl, trivial⟩ trivial
          refine kw_nx (cw_cond rfl (fun h6 => ?_) (fun h6 => ?_))
          · have H1 := cond_t H1 h6
            refine sr (oD (sg rfl) rfl (nn (cw_ret (kw_bl_ret (kw_nx_ret (kw_lq_ret (kw_bl_ret (kw_join_ret (kw_nx_ret ?_)))))))))
            have q1 := Option.some.inj H1
            subst q1
            have q0 := Option.some.inj H0
            subst q0
            exact kw_ret Tryd.results12 (.cons (.tmp rfl) .nil) [] [] trivial (by decide) ⟨rfl, rfl⟩
          · have H1 := cond_f H1 h6
            obtain ⟨x7, e7, H1⟩ := bind_some H1
            exact cw_skip (kw_bl_normal (kw_nx (cw_region (oD (mv rfl) rfl (oD (stp_add rfl rfl e7) rfl (oD (sg rfl) rfl (ow_nil (kw_lqS (js := []) (fuel, x7) H1 (Nat.lt_succ_self _) ⟨rfl, rfl, rfl, trivial⟩ trivial (by decide)))))))))
      · have H1 := cond_f H1 h3
        refine cw_exit (kw_nx_exit (kw_lq_exit (kw_bl ?_)))
        have q1 := Option.some.inj H1
        subst q1
        exact kw_joinS (js := []) v2 rfl ⟨rfl, rfl, rfl, trivial⟩ trivial (by decide)
    · rintro v2 rfl
      refine KW.sub (s' := [(0, .slice p0_0 ((a0).length) c0_0), (1, .slice p1_0 ((a1).length) c1_0), (5, .int .i64 v2)]) (h' := []) ?_ ⟨rfl, rfl, rfl, trivial⟩ trivial
      refine kw_nx (sr (oD (sg rfl) rfl (nn (cw_ret ?_))))
      have q0 := Option.some.inj H0
      subst q0
      exact kw_ret Tryd.results12 (.cons (.tmp rfl) .nil) [] [] trivial (by decide) ⟨rfl, rfl⟩
end Go.Proofs.YtbhpohopfbcfgaaDoor
