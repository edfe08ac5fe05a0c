/- The walks: functions of the program return what their pure functions say. Printed by a program (gen.py). -/
import Derived.Test.YtkocamaoeojfhaaDoorGp
import Derived.Test.YtkocamaoeojfhaaDoorGt
import Derived.Test.YtkocamaoeojfhaaDoorMan
import Derived.Test.YtkocamaoeojfhaaDoorGwab
set_option linter.unusedSimpArgs false
set_option linter.unusedVariables false
set_option linter.unusedSectionVars false
namespace Go.Proofs.YtkocamaoeojfhaaDoor
open Go.RowKit
set_option maxHeartbeats 4000000 in
set_option maxRecDepth 20000 in
theorem c_s_RightsValid (fl : Nat) (w : World) (a0 : Int) (r : Bool) (H0 : s_RightsValid fl a0 = some r) :
    Ct Tryd.prog 46 [.int .i64 a0] w [] (fun rv h' => rv = .bool r ∧ h' = []) := by
  unfold s_RightsValid at H0
  refine ct_of_cw Tryd.func46 rfl Tryd.ntmps46 rfl (Sat.refl _ _) ?_
  refine cw_seq ?_
  refine cw_region ?_
  refine ow_det .none (stp_assign rfl) rfl ?_
  refine ow_nil ?_
  refine kw_nx ?_
  refine cw_seq ?_
  refine cw_region ?_
  refine ow_det .none (stp_move rfl) rfl ?_
  refine ow_det .none (stp_geq rfl rfl) rfl ?_
  refine ow_det .none (stp_move rfl) rfl ?_
  obtain ⟨y1, ey1, H0⟩ := bind_some H0
  refine ow_cutY 3 8 y1 ?_ ?_
  · rcases Bool.eq_false_or_eq_true (decide (0 ≤ a0)) with hy1 | hy1
    · have ey1 := cond_t ey1 hy1
      refine ow_det (.some rfl hy1) (stp_move rfl) rfl ?_
      refine ow_det (.some rfl hy1) (stp_leq rfl rfl) rfl ?_
      refine ow_det .none (stp_pick_t rfl hy1 rfl) rfl ?_
      obtain rfl := Option.some.inj ey1
      exact ow_nil (kw_jy (.top rfl (.cons rfl (.cons rfl (.cons rfl (.refl _))))) (.refl _))
    · have ey1 := cond_f ey1 hy1
      refine ow_off (.some rfl hy1) rfl ?_
      refine ow_off (.some rfl hy1) rfl ?_
      refine ow_det .none (stp_pick_f rfl hy1 rfl) rfl ?_
      obtain rfl := Option.some.inj ey1
      exact ow_nil (kw_jy (.top rfl (.cons rfl (.cons rfl (.cons rfl (.refl _))))) (.refl _))
  · refine ow_det .none (stp_assign rfl) rfl ?_
    refine ow_nil ?_
    refine kw_nx ?_
    refine cw_ret ?_
    have q0 := Option.some.inj H0
    subst q0
    exact kw_ret Tryd.results46 (.cons (.tmp rfl) .nil) [] [] trivial (by decide) ⟨rfl, rfl⟩

set_option maxHeartbeats 4000000 in
set_option maxRecDepth 20000 in
theorem c_i_RightsValid (fl : Nat) (w : World) (a0 : Int) (r : Bool) (H0 : i_RightsValid fl a0 = some r) :
    Ct Tryd.prog 41 [.int .i64 a0] w [] (fun rv h' => rv = .bool r ∧ h' = []) := by
  unfold i_RightsValid at H0
  refine ct_of_cw Tryd.func41 rfl Tryd.ntmps41 rfl (Sat.refl _ _) ?_
  refine cw_seq ?_
  refine cw_region ?_
  refine ow_det .none (stp_assign rfl) rfl ?_
  refine ow_nil ?_
  refine kw_nx ?_
  refine cw_seq ?_
  refine cw_region ?_
  refine ow_det .none (stp_move rfl) rfl ?_
  obtain ⟨x1, e1, H0⟩ := bind_some H0
  refine ow_eff .none (stpU_call (fun i => 0 + i) cf40 (fun w hw => c_i_within fl w a0 8 x1 e1) (sevs_cons rfl (sevs_cons rfl sevs_nil))) rfl ?_
  rintro _ _ ⟨_, ⟨rfl, rfl⟩, rfl⟩
  refine ow_det .none (stp_assign rfl) rfl ?_
  refine ow_nil ?_
  refine kw_nx ?_
  refine cw_ret ?_
  have q0 := Option.some.inj H0
  subst q0
  exact kw_ret Tryd.results41 (.cons (.tmp rfl) .nil) [] [] trivial (by decide) ⟨rfl, rfl⟩
end Go.Proofs.YtkocamaoeojfhaaDoor
