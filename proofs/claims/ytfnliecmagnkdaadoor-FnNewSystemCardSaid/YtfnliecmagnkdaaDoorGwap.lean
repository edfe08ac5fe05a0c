/- The walks: functions of the program return what their pure functions say. Printed by a program (gen.py). -/
import Derived.Test.YtfnliecmagnkdaaDoorGp
import Derived.Test.YtfnliecmagnkdaaDoorGt
import Derived.Test.YtfnliecmagnkdaaDoorMan
import Derived.Test.YtfnliecmagnkdaaDoorMap
import Derived.Test.YtfnliecmagnkdaaDoorCpy
import Derived.Test.YtfnliecmagnkdaaDoorClr
import Derived.Test.YtfnliecmagnkdaaDoorDp
import Derived.Test.YtfnliecmagnkdaaDoorSrt
import Derived.Test.YtfnliecmagnkdaaDoorE8
import Derived.Test.YtfnliecmagnkdaaDoorGwac
set_option linter.unusedSimpArgs false
set_option linter.unusedVariables false
set_option linter.unusedSectionVars false
namespace Go.Proofs.YtfnliecmagnkdaaDoor
open Go.RowKit
set_option maxHeartbeats 4000000
set_option maxRecDepth 20000
variable {p0_0 p0_1 p0_2 : Option Addr} {n0_0 n0_1 n0_2 : Nat} {c0_0 c0_1 c0_2 : Nat}
theorem c_i_cpuOf (fl : Nat) (w : World) (a0 : Sy) (a1 : Int) (hn0_0 : n0_0 = (a0.t.b).length) (hr0_0 : RO w (hkeys []) (RdL p0_0 c0_0 a0.t.b)) (hn0_1 : n0_1 = (a0.t.f).length) (hr0_1 : RO w (hkeys []) (RdL p0_1 c0_1 a0.t.f)) (hn0_2 : n0_2 = (a0.c).length) (hr0_2 : ROD w (hkeys []) p0_2 c0_2 a0.c) (hg : RO w (hkeys []) (fun w' => w'.rangeAt 0 0 [.bool false, .int .i64 0, .int .i64 0, .int .i64 0, .int .i64 (-1)])) (r : Bool) (H0 : i_cpuOf fl a0 a1 = some r) :
  Ct Tryd.prog 71 [.agg #[.slice p0_0 n0_0 c0_0, .slice p0_1 n0_1 c0_1, .slice p0_2 n0_2 c0_2], .int .i64 a1] w [] (fun rv h' => rv = .bool r ∧ h' = []) := by
 subst hn0_0 hn0_1 hn0_2
 unfold i_cpuOf at H0
 refine ct_of_cw Tryd.func71 rfl Tryd.ntmps71 rfl (Sat.refl _ _) ?_
 refine sr (oE (stpU_box 0 rfl rfl) rfl ?_)
 rintro _ _ ⟨b1, rfl, rfl⟩
 obtain ⟨x2, e2, H0⟩ := bS H0
 refine oS rfl (nn (sr (oB3 0 ts36 rfl (oE (stpU_call (fun i => 1 + i) cf18 (fun w hw => c_i_SystemValid fl w a0 rfl (RO.pass hr0_0 hw) rfl (RO.pass hr0_1 hw) rfl (ROD.pass hr0_2 hw) (RO.pass hg hw) x2 e2) (yA rfl)) rfl ?_))))
 rintro _ _ ⟨_, ⟨rfl, rfl⟩, rfl⟩
 obtain ⟨y3, ey3, H0⟩ := bS H0
 refine oM rfl (ow_cutY 6 13 y3 ?_ ?_)
 ·rcases Bool.eq_false_or_eq_true x2 with hy3 | hy3
  ·have ey3 := cond_t ey3 hy3
   obtain ⟨x4, e4, ey3⟩ := bS ey3
   refine oG rfl hy3 (mv rfl) rfl (oG rfl hy3 (fA 2 Tryd.underlying36 rfl ts34 rfl rfl rfl) rfl (oG rfl hy3 (lB 0 ts34 rfl rfl rfl) rfl (oG rfl hy3 (stp_len Tryd.underlying34 rfl) rfl (ow_eff (.some rfl hy3) (stpU_call (fun i => 1 + i) cf53 (fun w hw => c_i_within fl w a1 ((a0.c).length : Int) x4 e4) (yB rfl rfl)) rfl ?_))))
   rintro _ _ ⟨_, ⟨rfl, rfl⟩, rfl⟩
   refine oD (stp_pick_t rfl hy3 rfl) rfl ?_
   obtain rfl := sI ey3
   exact ow_nil (jy 6 0)
  have ey3 := cond_f ey3 hy3
  refine oO rfl hy3 rfl (oO rfl hy3 rfl (oO rfl hy3 rfl (oO rfl hy3 rfl (oO rfl hy3 rfl (oD (stp_pick_f rfl hy3 rfl) rfl ?_)))))
  obtain rfl := sI ey3
  exact ow_nil (jy 6 0)
 refine oS rfl (nn (cw_ret ?_))
 obtain rfl := sI H0
 exact kr Tryd.results71 (rT rfl) [] ⟨rfl, rfl⟩
end Go.Proofs.YtfnliecmagnkdaaDoor
