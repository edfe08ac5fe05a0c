/- The walks: functions of the program return what their pure functions say. Printed by a program (gen.py). -/
import Derived.Test.YtbgodaeccgjdgaaGreatDoorGp
import Derived.Test.YtbgodaeccgjdgaaGreatDoorGt
import Derived.Test.YtbgodaeccgjdgaaGreatDoorMan
import Derived.Test.YtbgodaeccgjdgaaGreatDoorMap
import Derived.Test.YtbgodaeccgjdgaaGreatDoorGwaa
import Derived.Test.YtbgodaeccgjdgaaGreatDoorGwab
set_option linter.unusedSimpArgs false
set_option linter.unusedVariables false
set_option linter.unusedSectionVars false
namespace Go.Proofs.YtbgodaeccgjdgaaGreatDoor
open Go.RowKit
set_option maxHeartbeats 4000000 in
set_option maxRecDepth 20000 in
theorem c_s_KeyValid (fl : Nat) (w : World) (a0 : K) (r : Bool) (H0 : s_KeyValid fl a0 = some r) :
    Ct Tryz.prog 129 [.agg #[.int .i64 a0.s, .int .i64 a0.p]] w [] (fun rv h' => rv = .bool r ∧ h' = []) := by
  unfold s_KeyValid at H0
  refine ct_of_cw Tryz.func129 rfl Tryz.ntmps129 rfl (Sat.refl _ _) ?_
  refine sr (oE (stpU_box 0 rfl rfl) rfl ?_)
  rintro _ _ ⟨b1, rfl, rfl⟩
  obtain ⟨x2, e2, H0⟩ := bind_some H0
  refine oD (sg rfl) rfl (nn (sr (oD (fA 0 Tryz.underlying51 rfl ts3 rfl rfl rfl) rfl (oD (lB 0 ts3 rfl rfl rfl) rfl (oE (stpU_call (fun i => 1 + i) cf162 (fun w hw => c_s_l1Space fl w a0.s x2 e2) (sevs_cons rfl sevs_nil)) rfl ?_)))))
  rintro _ _ ⟨_, ⟨rfl, rfl⟩, rfl⟩
  obtain ⟨y3, ey3, H0⟩ := bind_some H0
  refine oD (mv rfl) rfl (ow_cutY 4 10 y3 ?_ ?_)
  · rcases Bool.eq_false_or_eq_true x2 with hy3 | hy3
    · have ey3 := cond_t ey3 hy3
      obtain ⟨x4, e4, ey3⟩ := bind_some ey3
      refine oG rfl hy3 (fA 1 Tryz.underlying51 rfl ts3 rfl rfl rfl) rfl (oG rfl hy3 (lB 0 ts3 rfl rfl rfl) rfl (ow_eff (.some rfl hy3) (stpU_call (fun i => 1 + i) cf82 (fun w hw => c_s_l1Page fl w a0.p x4 e4) (sevs_cons rfl sevs_nil)) rfl ?_))
      rintro _ _ ⟨_, ⟨rfl, rfl⟩, rfl⟩
      refine oD (stp_pick_t rfl hy3 rfl) rfl ?_
      obtain rfl := Option.some.inj ey3
      exact ow_nil (jy 4 0)
    · have ey3 := cond_f ey3 hy3
      refine oO rfl hy3 rfl (oO rfl hy3 rfl (oO rfl hy3 rfl (oD (stp_pick_f rfl hy3 rfl) rfl ?_)))
      obtain rfl := Option.some.inj ey3
      exact ow_nil (jy 4 0)
  · refine oD (sg rfl) rfl (nn (cw_ret ?_))
    have q0 := Option.some.inj H0
    subst q0
    exact kw_ret Tryz.results129 (.cons (.tmp rfl) .nil) [] [] trivial (by decide) ⟨rfl, rfl⟩

set_option maxHeartbeats 4000000 in
set_option maxRecDepth 20000 in
theorem c_i_KeyValid (fl : Nat) (w : World) (a0 : K) (r : Bool) (H0 : i_KeyValid fl a0 = some r) :
    Ct Tryz.prog 143 [.agg #[.int .i64 a0.s, .int .i64 a0.p]] w [] (fun rv h' => rv = .bool r ∧ h' = []) := by
  unfold i_KeyValid at H0
  refine ct_of_cw Tryz.func143 rfl Tryz.ntmps143 rfl (Sat.refl _ _) ?_
  refine sr (oE (stpU_box 0 rfl rfl) rfl ?_)
  rintro _ _ ⟨b1, rfl, rfl⟩
  obtain ⟨x2, e2, H0⟩ := bind_some H0
  refine oD (sg rfl) rfl (nn (sr (oD (fA 0 Tryz.underlying51 rfl ts3 rfl rfl rfl) rfl (oD (lB 0 ts3 rfl rfl rfl) rfl (oE (stpU_call (fun i => 1 + i) cf90 (fun w hw => c_i_within fl w a0.s 16 x2 e2) (sevs_cons rfl (sevs_cons rfl sevs_nil))) rfl ?_)))))
  rintro _ _ ⟨_, ⟨rfl, rfl⟩, rfl⟩
  obtain ⟨y3, ey3, H0⟩ := bind_some H0
  refine oD (mv rfl) rfl (ow_cutY 4 10 y3 ?_ ?_)
  · rcases Bool.eq_false_or_eq_true x2 with hy3 | hy3
    · have ey3 := cond_t ey3 hy3
      obtain ⟨x4, e4, ey3⟩ := bind_some ey3
      refine oG rfl hy3 (fA 1 Tryz.underlying51 rfl ts3 rfl rfl rfl) rfl (oG rfl hy3 (lB 0 ts3 rfl rfl rfl) rfl (ow_eff (.some rfl hy3) (stpU_call (fun i => 1 + i) cf90 (fun w hw => c_i_within fl w a0.p 256 x4 e4) (sevs_cons rfl (sevs_cons rfl sevs_nil))) rfl ?_))
      rintro _ _ ⟨_, ⟨rfl, rfl⟩, rfl⟩
      refine oD (stp_pick_t rfl hy3 rfl) rfl ?_
      obtain rfl := Option.some.inj ey3
      exact ow_nil (jy 4 0)
    · have ey3 := cond_f ey3 hy3
      refine oO rfl hy3 rfl (oO rfl hy3 rfl (oO rfl hy3 rfl (oD (stp_pick_f rfl hy3 rfl) rfl ?_)))
      obtain rfl := Option.some.inj ey3
      exact ow_nil (jy 4 0)
  · refine oD (sg rfl) rfl (nn (cw_ret ?_))
    have q0 := Option.some.inj H0
    subst q0
    exact kw_ret Tryz.results143 (.cons (.tmp rfl) .nil) [] [] trivial (by decide) ⟨rfl, rfl⟩
end Go.Proofs.YtbgodaeccgjdgaaGreatDoor
