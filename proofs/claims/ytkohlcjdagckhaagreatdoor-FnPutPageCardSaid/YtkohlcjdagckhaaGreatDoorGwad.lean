/- The walks: functions of the program return what their pure functions say. Printed by a program (gen.py). -/
import Derived.Test.YtkohlcjdagckhaaGreatDoorGp
import Derived.Test.YtkohlcjdagckhaaGreatDoorGt
import Derived.Test.YtkohlcjdagckhaaGreatDoorMan
import Derived.Test.YtkohlcjdagckhaaGreatDoorMap
import Derived.Test.YtkohlcjdagckhaaGreatDoorCpy
import Derived.Test.YtkohlcjdagckhaaGreatDoorE8
import Derived.Test.YtkohlcjdagckhaaGreatDoorGwac
set_option linter.unusedSimpArgs false
set_option linter.unusedVariables false
set_option linter.unusedSectionVars false
namespace Go.Proofs.YtkohlcjdagckhaaGreatDoor
open Go.RowKit
set_option maxHeartbeats 4000000
set_option maxRecDepth 20000
variable {p0_0 p0_1 p0_2 p0_3 p1_0 p1_1 p1_2 p1_3 : Option Addr} {n0_0 n0_1 n0_2 n0_3 n1_0 n1_1 n1_2 n1_3 : Nat} {c0_0 c0_1 c0_2 c0_3 c1_0 c1_1 c1_2 c1_3 : Nat}
theorem c_i_MachineSame (fl : Nat) (w : World) (a0 : Mc) (a1 : Mc) (hn0_0 : n0_0 = (a0.t.b).length) (hr0_0 : RO w (hkeys []) (RdL p0_0 c0_0 a0.t.b)) (hn0_1 : n0_1 = (a0.t.f).length) (hr0_1 : RO w (hkeys []) (RdL p0_1 c0_1 a0.t.f)) (hn0_2 : n0_2 = (a0.c.l).length) (hr0_2 : RO w (hkeys []) (RdL p0_2 c0_2 a0.c.l)) (hn0_3 : n0_3 = (a0.g.o).length) (hr0_3 : RO w (hkeys []) (RdL p0_3 c0_3 a0.g.o)) (hn1_0 : n1_0 = (a1.t.b).length) (hr1_0 : RO w (hkeys []) (RdL p1_0 c1_0 a1.t.b)) (hn1_1 : n1_1 = (a1.t.f).length) (hr1_1 : RO w (hkeys []) (RdL p1_1 c1_1 a1.t.f)) (hn1_2 : n1_2 = (a1.c.l).length) (hr1_2 : RO w (hkeys []) (RdL p1_2 c1_2 a1.c.l)) (hn1_3 : n1_3 = (a1.g.o).length) (hr1_3 : RO w (hkeys []) (RdL p1_3 c1_3 a1.g.o)) (r : Bool) (H0 : i_MachineSame fl a0 a1 = some r) :
  Ct Tryz.prog 18 [.agg #[.slice p0_0 n0_0 c0_0, .slice p0_1 n0_1 c0_1, .slice p0_2 n0_2 c0_2, .int .i64 a0.c.h, .int .i64 a0.g.c, .int .i64 a0.g.n, .int .i64 a0.g.r, .slice p0_3 n0_3 c0_3, .int .i64 a0.s], .agg #[.slice p1_0 n1_0 c1_0, .slice p1_1 n1_1 c1_1, .slice p1_2 n1_2 c1_2, .int .i64 a1.c.h, .int .i64 a1.g.c, .int .i64 a1.g.n, .int .i64 a1.g.r, .slice p1_3 n1_3 c1_3, .int .i64 a1.s]] w [] (fun rv h' => rv = .bool r ∧ h' = []) := by
 subst hn0_0 hn0_1 hn0_2 hn0_3 hn1_0 hn1_1 hn1_2 hn1_3
 unfold i_MachineSame at H0
 refine ct_of_cw Tryz.func18 rfl Tryz.ntmps18 rfl (Sat.refl _ _) ?_
 refine sr (oE (stpU_box 0 rfl rfl) rfl ?_)
 rintro _ _ ⟨b1, rfl, rfl⟩
 refine oE (stpU_box 1 rfl rfl) rfl ?_
 rintro _ _ ⟨b2, rfl, rfl⟩
 obtain ⟨x3, e3, H0⟩ := bS H0
 refine oS rfl (nn (sr (oA 0 Tryz.underlying34 rfl ts26 rfl (oB2 0 ts26 rfl (oA 0 Tryz.underlying34 rfl ts26 rfl (oB2 1 ts26 rfl (oE (stpU_call (fun i => 2 + i) cf20 (fun w hw => c_i_TableSame fl w a0.t a1.t rfl (RO.pass hr0_0 hw) rfl (RO.pass hr0_1 hw) rfl (RO.pass hr1_0 hw) rfl (RO.pass hr1_1 hw) x3 e3) (yB rfl rfl)) rfl ?_)))))))
 rintro _ _ ⟨_, ⟨rfl, rfl⟩, rfl⟩
 obtain ⟨y4, ey4, H0⟩ := bS H0
 refine oM rfl (ow_cutY 6 16 y4 ?_ ?_)
 ·rcases Bool.eq_false_or_eq_true x3 with hy4 | hy4
  ·have ey4 := cond_t ey4 hy4
   obtain ⟨x5, e5, ey4⟩ := bS ey4
   refine oG rfl hy4 (fA 2 Tryz.underlying34 rfl ts29 rfl rfl rfl) rfl (oG rfl hy4 (stp_loadN (us := [_, _]) ts29 rfl (Cells.box (id := 0) rfl 2 rfl)) rfl (oG rfl hy4 (fA 2 Tryz.underlying34 rfl ts29 rfl rfl rfl) rfl (oG rfl hy4 (stp_loadN (us := [_, _]) ts29 rfl (Cells.box (id := 1) rfl 2 rfl)) rfl (ow_eff (.some rfl hy4) (stpU_call (fun i => 2 + i) cf21 (fun w hw => c_i_CacheSame fl w a0.c a1.c rfl (RO.pass hr0_2 hw) rfl (RO.pass hr1_2 hw) x5 e5) (yB rfl rfl)) rfl ?_))))
   rintro _ _ ⟨_, ⟨rfl, rfl⟩, rfl⟩
   refine oD (stp_pick_t rfl hy4 rfl) rfl ?_
   obtain rfl := sI ey4
   exact ow_nil (jy 6 0)
  have ey4 := cond_f ey4 hy4
  refine oO rfl hy4 rfl (oO rfl hy4 rfl (oO rfl hy4 rfl (oO rfl hy4 rfl (oO rfl hy4 rfl (oD (stp_pick_f rfl hy4 rfl) rfl ?_)))))
  obtain rfl := sI ey4
  exact ow_nil (jy 6 0)
 obtain ⟨y6, ey6, H0⟩ := bS H0
 refine oM rfl (ow_cutY 6 23 y6 ?_ ?_)
 ·rcases Bool.eq_false_or_eq_true y4 with hy6 | hy6
  ·have ey6 := cond_t ey6 hy6
   obtain ⟨x7, e7, ey6⟩ := bS ey6
   refine oG rfl hy6 (fA 4 Tryz.underlying34 rfl ts32 rfl rfl rfl) rfl (oG rfl hy6 (stp_loadN (us := [_, _, _, _]) ts32 rfl (Cells.box (id := 0) rfl 4 rfl)) rfl (oG rfl hy6 (fA 4 Tryz.underlying34 rfl ts32 rfl rfl rfl) rfl (oG rfl hy6 (stp_loadN (us := [_, _, _, _]) ts32 rfl (Cells.box (id := 1) rfl 4 rfl)) rfl (ow_eff (.some rfl hy6) (stpU_call (fun i => 2 + i) cf33 (fun w hw => c_i_TagsSame fl w a0.g a1.g rfl (RO.pass hr0_3 hw) rfl (RO.pass hr1_3 hw) x7 e7) (yB rfl rfl)) rfl ?_))))
   rintro _ _ ⟨_, ⟨rfl, rfl⟩, rfl⟩
   refine oD (stp_pick_t rfl hy6 rfl) rfl ?_
   obtain rfl := sI ey6
   exact ow_nil (jy 6 0)
  have ey6 := cond_f ey6 hy6
  refine oO rfl hy6 rfl (oO rfl hy6 rfl (oO rfl hy6 rfl (oO rfl hy6 rfl (oO rfl hy6 rfl (oD (stp_pick_f rfl hy6 rfl) rfl ?_)))))
  obtain rfl := sI ey6
  exact ow_nil (jy 6 0)
 obtain ⟨y8, ey8, H0⟩ := bS H0
 refine oM rfl (ow_cutY 6 30 y8 ?_ ?_)
 ·rcases Bool.eq_false_or_eq_true y6 with hy8 | hy8
  ·have ey8 := cond_t ey8 hy8
   refine oG rfl hy8 (fA 8 Tryz.underlying34 rfl ts3 rfl rfl rfl) rfl (oG rfl hy8 (lB 0 ts3 rfl rfl rfl) rfl (oG rfl hy8 (fA 8 Tryz.underlying34 rfl ts3 rfl rfl rfl) rfl (oG rfl hy8 (lB 1 ts3 rfl rfl rfl) rfl (oG rfl hy8 (stp_eql rfl rfl) rfl (oD (stp_pick_t rfl hy8 rfl) rfl ?_)))))
   obtain rfl := sI ey8
   exact ow_nil (jy 6 0)
  have ey8 := cond_f ey8 hy8
  refine oO rfl hy8 rfl (oO rfl hy8 rfl (oO rfl hy8 rfl (oO rfl hy8 rfl (oO rfl hy8 rfl (oD (stp_pick_f rfl hy8 rfl) rfl ?_)))))
  obtain rfl := sI ey8
  exact ow_nil (jy 6 0)
 refine oS rfl (nn (cw_ret ?_))
 obtain rfl := sI H0
 exact kr Tryz.results18 (rT rfl) [] ⟨rfl, rfl⟩
end Go.Proofs.YtkohlcjdagckhaaGreatDoor
