/- The walks: functions of the program return what their pure functions say. Printed by a program (gen.py). -/
import Derived.Test.YtkocamaoeojfhaaDoorGp
import Derived.Test.YtkocamaoeojfhaaDoorGt
import Derived.Test.YtkocamaoeojfhaaDoorMan
set_option linter.unusedSimpArgs false
set_option linter.unusedVariables false
set_option linter.unusedSectionVars false
namespace Go.Proofs.YtkocamaoeojfhaaDoor
open Go.RowKit
set_option maxHeartbeats 4000000 in
set_option maxRecDepth 20000 in
theorem c_i_hash (fl : Nat) (w : World) (a0 : K) (a1 : Int) (r : Int) (H0 : i_hash fl a0 a1 = some r) :
    Ct Tryd.prog 52 [.agg #[.int .i64 a0.s, .int .i64 a0.p], .int .i64 a1] w [] (fun rv h' => rv = .int .i64 r ∧ h' = []) := by
  unfold i_hash at H0
  refine ct_of_cw Tryd.func52 rfl Tryd.ntmps52 rfl (Sat.refl _ _) ?_
  refine cw_seq ?_
  refine cw_region ?_
  refine ow_eff .none (stpU_box 0 rfl rfl) rfl ?_
  rintro _ _ ⟨b1, rfl, rfl⟩
  refine ow_det .none (stp_assign rfl) rfl ?_
  refine ow_nil ?_
  refine kw_nx ?_
  refine cw_seq ?_
  refine cw_region ?_
  refine ow_det .none (stp_fieldAddr (j := 0) Tryd.underlying28 rfl ts3 rfl rfl rfl) rfl ?_
  refine ow_det .none (stp_load1 ts3 rfl (Cells.box (id := 0) rfl 1 rfl)) rfl ?_
  obtain ⟨x2, e2, H0⟩ := bind_some H0
  refine ow_det .none (stp_mul rfl rfl e2) rfl ?_
  refine ow_det .none (stp_fieldAddr (j := 1) Tryd.underlying28 rfl ts3 rfl rfl rfl) rfl ?_
  refine ow_det .none (stp_load1 ts3 rfl (Cells.box (id := 0) rfl 1 rfl)) rfl ?_
  obtain ⟨x3, e3, H0⟩ := bind_some H0
  refine ow_det .none (stp_add rfl rfl e3) rfl ?_
  obtain ⟨x4, e4, H0⟩ := bind_some H0
  refine ow_det .none (stp_convU Tryd.underlying3 Tryd.underlying104 rfl e4) rfl ?_
  refine ow_det .none (stp_assign rfl) rfl ?_
  refine ow_nil ?_
  refine kw_nx ?_
  refine cw_seq ?_
  refine cw_region ?_
  refine ow_det .none (stp_move rfl) rfl ?_
  obtain ⟨x5, e5, H0⟩ := bind_some H0
  refine ow_det .none (stp_mulU rfl rfl e5) rfl ?_
  obtain ⟨x6, e6, H0⟩ := bind_some H0
  refine ow_det .none (stp_rem rfl rfl e6) rfl ?_
  refine ow_det .none (stp_assign rfl) rfl ?_
  refine ow_nil ?_
  refine kw_nx ?_
  refine cw_seq ?_
  refine cw_region ?_
  refine ow_det .none (stp_move rfl) rfl ?_
  refine ow_det .none (stp_move rfl) rfl ?_
  obtain ⟨x7, e7, H0⟩ := bind_some H0
  refine ow_det .none (stp_convU Tryd.underlying3 Tryd.underlying104 rfl e7) rfl ?_
  obtain ⟨x8, e8, H0⟩ := bind_some H0
  refine ow_det .none (stp_mulU rfl rfl e8) rfl ?_
  refine ow_det .none (stp_shr (d := 4294967296) (by decide) rfl rfl) rfl ?_
  obtain ⟨x9, e9, H0⟩ := bind_some H0
  refine ow_det .none (stp_convI Tryd.underlying104 Tryd.underlying3 rfl e9) rfl ?_
  refine ow_det .none (stp_assign rfl) rfl ?_
  refine ow_nil ?_
  refine kw_nx ?_
  refine cw_ret ?_
  have q0 := Option.some.inj H0
  subst q0
  exact kw_ret Tryd.results52 (.cons (.tmp rfl) .nil) [] [] trivial (by decide) ⟨rfl, rfl⟩
end Go.Proofs.YtkocamaoeojfhaaDoor
