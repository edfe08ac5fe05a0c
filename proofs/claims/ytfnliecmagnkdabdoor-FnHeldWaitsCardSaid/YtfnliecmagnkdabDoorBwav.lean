/- The walks: functions of the program return what their pure functions say. Printed by a program (gen.py). -/
import Derived.Test.YtfnliecmagnkdabDoorBp
import Derived.Test.YtfnliecmagnkdabDoorBt
import Derived.Test.YtfnliecmagnkdabDoorMan
import Derived.Test.YtfnliecmagnkdabDoorMap
import Derived.Test.YtfnliecmagnkdabDoorCpy
import Derived.Test.YtfnliecmagnkdabDoorClr
import Derived.Test.YtfnliecmagnkdabDoorDp
import Derived.Test.YtfnliecmagnkdabDoorSrt
import Derived.Test.YtfnliecmagnkdabDoorE8
import Derived.Test.YtfnliecmagnkdabDoorBwaj
set_option linter.unusedSimpArgs false
set_option linter.unusedVariables false
set_option linter.unusedSectionVars false
namespace Go.Proofs.YtfnliecmagnkdabDoor
open Go.RowKit
set_option maxHeartbeats 4000000
set_option maxRecDepth 20000
variable {p0_0 p1_0 : Option Addr} {n0_0 n1_0 : Nat} {c0_0 c1_0 : Nat}
theorem c_s_DrawHeldFrames (fl : Nat) (w : World) (a0 : (List UInt8)) (hn0_0 : n0_0 = (a0).length) (hr0_0 : RO w (hkeys []) (RdL p0_0 c0_0 a0)) (r : Sy) (H0 : s_DrawHeldFrames fl a0 = some r) :
  Ct Tryd.prog 33 [.slice p0_0 n0_0 c0_0] w [] (fun rv h' => ∃ (x0 : Option Addr) (y0 z0 : Nat) (C0 : Res) (x1 : Option Addr) (y1 z1 : Nat) (C1 : Res) (x2 : Option Addr) (y2 z2 : Nat) (C2 : Res), rv = .agg #[.slice x0 y0 z0, .slice x1 y1 z1, .slice x2 y2 z2] ∧ h' = [(0, C0), (1, C1), (2, C2)] ∧ y0 = (r.t.b).length ∧ OwnC 3 x0 z0 r.t.b C0 ∧ y1 = (r.t.f).length ∧ OwnC 71 x1 z1 r.t.f C1 ∧ y2 = (r.c).length ∧ OwnD 53 55 x2 z2 r.c C2) := by
 subst hn0_0
 unfold s_DrawHeldFrames at H0
 refine ct_of_cw Tryd.func33 rfl Tryd.ntmps33 rfl (Sat.refl _ _) ?_
 refine sr (oE (stpU_alloc 0 tz37 rfl) rfl ?_)
 rintro _ _ ⟨b1, rfl, rfl⟩
 obtain ⟨x2, e2, H0⟩ := bS H0
 refine nn (sr (oM rfl (oE (stpU_call (fun i => 1 + i) cf58 (fun w hw => c_s_l8At fl w a0 rfl (RO.pass hr0_0 hw) x2 e2) (yA rfl)) rfl ?_)))
 rintro _ _ ⟨_, ⟨p3, _, c5, C6, p7, _, c9, C10, p11, _, c13, C14, rfl, rfl, rfl, o6, rfl, o10, rfl, o14⟩, rfl⟩
 refine oM rfl (oT rfl (oT rfl (oT rfl (oE (stpU_alloc 4 tz37 rfl) rfl ?_))))
 rintro _ _ ⟨b15, rfl, rfl⟩
 refine oE (stpU_alloc 5 tz41 rfl) rfl ?_
 rintro _ _ ⟨b16, rfl, rfl⟩
 refine oC3 4 ts37 rfl rfl (oS rfl (oC2 5 ts41 rfl rfl (nn (sr (oB3 4 ts37 rfl (oC3 0 ts37 rfl rfl (nn (cw_ret ?_))))))))
 obtain rfl := sI H0
 exact kr Tryd.results33 (rC3 0 ts37 rfl rfl) [1, 2, 3] ⟨_, _, _, _, _, _, _, _, _, _, _, _, rfl, rfl, rfl, o6, rfl, o10, rfl, o14⟩

theorem c_l_ipInts (fl : Nat) (w : World) (a0 : (List Int)) (a1 : (List Int)) (hn0_0 : n0_0 = (a0).length) (hr0_0 : RO w (hkeys []) (RdL p0_0 c0_0 a0)) (hn1_0 : n1_0 = (a1).length) (hr1_0 : RO w (hkeys []) (RdL p1_0 c1_0 a1)) (r : Bool) (H0 : l_ipInts fl a0 a1 = some r) :
  Ct Tryd.prog 34 [.slice p0_0 n0_0 c0_0, .slice p1_0 n1_0 c1_0] w [] (fun rv h' => rv = .bool r ∧ h' = []) := by
 subst hn0_0 hn1_0
 unfold l_ipInts at H0
 refine ct_of_cw Tryd.func34 rfl Tryd.ntmps34 rfl (Sat.refl _ _) ?_
 refine sr (oS rfl (nn (cw_seq (sr (oM rfl (oD (stp_len Tryd.underlying22 rfl) rfl (oM rfl (oD (stp_len Tryd.underlying22 rfl) rfl (oU rfl (nn (cw_cond rfl (fun h1 => ?_) (fun h1 => ?_))))))))))))
 ·have H0 := cond_t H0 h1
  refine sr (oS rfl (nn (cw_ret (kw_nx_ret ?_))))
  obtain rfl := sI H0
  exact kr Tryd.results34 (rT rfl) [] ⟨rfl, rfl⟩
 have H0 := cond_f H0 h1
 obtain ⟨o0_0, eo0_0, H0⟩ := bS H0
 refine cw_skip (kw_nx (cw_seq (sr (oS rfl (nn (cw_join (ι := Int) (fun | v2 => o0_0 = .out v2) (fun | v2 => [(0, .slice p0_0 ((a0).length) c0_0), (1, .slice p1_0 ((a1).length) c1_0), (5, .int .i64 v2)]) (fun | v2 => []) ?_ ?_))))))
 ·refine cw_block (cw_loopS (ι := Nat × Int) (js := []) (fun x => x.1) (fun | (fuel, v2) => l_ipInts_L0 fl a0 a1 fuel v2 = some o0_0) (fun | (_, v2) => [(0, .slice p0_0 ((a0).length) c0_0), (1, .slice p1_0 ((a1).length) c1_0), (5, .int .i64 v2)]) (fun | (_, v2) => []) (fl, 0) eo0_0 ⟨rfl, rfl, rfl, trivial⟩ trivial (by decide) ?_)
  rintro ⟨fuel, v2⟩ H1
  have H1 : l_ipInts_L0 fl a0 a1 fuel v2 = some o0_0 := H1
  rcases fuel with _ | fuel
  ·rw [l_ipInts_L0.eq_1] at H1; cases H1
  rw [l_ipInts_L0.eq_2] at H1
  dsimp only
  refine cw_seq (sr (oM rfl (oM rfl (oD (stp_len Tryd.underlying22 rfl) rfl (oW rfl (nn (cw_cond rfl (fun h3 => ?_) (fun h3 => ?_))))))))
  ·have H1 := cond_t H1 h3
   obtain ⟨x4, e4, H1⟩ := bS H1
   obtain ⟨x5, e5, H1⟩ := bS H1
   refine cw_skip (kw_nx (cw_seq (cw_block (cw_seq (rdq g_mixed [0, 1, 5] [] { dst := dS [18, 19, 20, 21, 22, 23, 24, 25, 26], pre := gA [] [[], [], [0, 1], [0, 1, 2], [], [], [4, 5], [4, 5, 6], rn 0 8], ids := fun _ => [], rs := rL [[(0, 0)], [(5, 0)], [(17, 1), (18, 2)], [(19, 3)], [(1, 0)], [(5, 0)], [(21, 5), (22, 6)], [(23, 7)], [(20, 4), (24, 8)]], rh := fun _ => [], V := fun i g => gA undef [.slice p0_0 ((a0).length) c0_0, .int .i64 v2, .pointer (some ⟨eB p0_0, eO p0_0 + Int.toNat v2 * Enc.sz Int + 0, none⟩), .int .i64 x4, .slice p1_0 ((a1).length) c1_0, .int .i64 v2, .pointer (some ⟨eB p1_0, eO p1_0 + Int.toNat v2 * Enc.sz Int + 0, none⟩), .int .i64 x5, .bool (x4 != x5)] i, U := fun _ _ => [], Φ := fun _ _ => True } ?_ ?_)))))
   ·exact ⟨lM, lM, lc rfl rfl fun hs hh => stp_indexAddr Tryd.underlying22 ts3 (by decide) (sv hs 17 rfl) rfl (sv hs 18 rfl) (Rdb.ro hr0_0) e4, lc rfl rfl fun hs hh => stp_load1 ts3 (sv hs 19 rfl) (Cells.el (Rdb.ro hr0_0) (by decide) e4 0 1 rfl), lM, lM, lc rfl rfl fun hs hh => stp_indexAddr Tryd.underlying22 ts3 (by decide) (sv hs 21 rfl) rfl (sv hs 22 rfl) (Rdb.ro hr1_0) e5, lc rfl rfl fun hs hh => stp_load1 ts3 (sv hs 23 rfl) (Cells.el (Rdb.ro hr1_0) (by decide) e5 0 1 rfl), lc rfl rfl fun hs hh => stp_neq (sv hs 20 rfl) (sv hs 24 rfl), trivial⟩
   intro g hΦ
   refine KW.sub (s' := [(0, .slice p0_0 ((a0).length) c0_0), (1, .slice p1_0 ((a1).length) c1_0), (5, .int .i64 v2), (25, .bool (x4 != x5))]) (h' := []) ?_ ⟨rfl, rfl, rfl, rfl, trivial⟩ trivial
   refine kw_nx (cw_cond rfl (fun h6 => ?_) (fun h6 => ?_))
   ·have H1 := cond_t H1 h6
    refine sr (oS rfl (nn (cw_ret (kw_bl_ret (kw_nx_ret (kw_lq_ret (kw_bl_ret (kw_join_ret (kw_nx_ret ?_)))))))))
    obtain rfl := sI H1
    obtain rfl := sI H0
    exact kr Tryd.results34 (rT rfl) [] ⟨rfl, rfl⟩
   have H1 := cond_f H1 h6
   obtain ⟨x7, e7, H1⟩ := bS H1
   exact cw_skip (kw_bl_normal (kw_nx (cw_region (oM rfl (oP e7 rfl (oS rfl (ow_nil (kw_lqS (js := []) (fuel, x7) H1 (Nat.lt_succ_self _) ⟨rfl, rfl, rfl, trivial⟩ trivial (by decide)))))))))
  have H1 := cond_f H1 h3
  refine cw_exit (kw_nx_exit (kw_lq_exit (kw_bl ?_)))
  obtain rfl := sI H1
  exact kw_joinS (js := []) v2 rfl ⟨rfl, rfl, rfl, trivial⟩ trivial (by decide)
 rintro v2 rfl
 dsimp only
 refine kw_nx (sr (oS rfl (nn (cw_ret ?_))))
 obtain rfl := sI H0
 exact kr Tryd.results34 (rT rfl) [] ⟨rfl, rfl⟩
end Go.Proofs.YtfnliecmagnkdabDoor
