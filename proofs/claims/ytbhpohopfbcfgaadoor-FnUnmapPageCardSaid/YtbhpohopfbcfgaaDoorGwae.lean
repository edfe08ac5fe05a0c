/- The walks: functions of the program return what their pure functions say. Printed by a program (gen.py). -/
import Derived.Test.YtbhpohopfbcfgaaDoorGp
import Derived.Test.YtbhpohopfbcfgaaDoorGt
import Derived.Test.YtbhpohopfbcfgaaDoorMan
import Derived.Test.YtbhpohopfbcfgaaDoorMap
import Derived.Test.YtbhpohopfbcfgaaDoorCpy
import Derived.Test.YtbhpohopfbcfgaaDoorBits
set_option linter.unusedSimpArgs false
set_option linter.unusedVariables false
set_option linter.unusedSectionVars false
namespace Go.Proofs.YtbhpohopfbcfgaaDoor
open Go.RowKit
set_option maxHeartbeats 4000000 in
set_option maxRecDepth 20000 in
theorem c_i_hash (fl : Nat) (w : World) (a0 : K) (a1 : Int) (r : Int) (H0 : i_hash fl a0 a1 = some r) :
    Ct Tryd.prog 41 [.agg #[.int .i64 a0.s, .int .i64 a0.p], .int .i64 a1] w [] (fun rv h' => rv = .int .i64 r ∧ h' = []) := by
  unfold i_hash at H0
  refine ct_of_cw Tryd.func41 rfl Tryd.ntmps41 rfl (Sat.refl _ _) ?_
  refine sr (oE (stpU_box 0 rfl rfl) rfl ?_)
  rintro _ _ ⟨b1, rfl, rfl⟩
  obtain ⟨x2, e2, H0⟩ := bind_some H0
  obtain ⟨x3, e3, H0⟩ := bind_some H0
  obtain ⟨x4, e4, H0⟩ := bind_some H0
  refine oD (sg rfl) rfl (nn (sr (oD (fA 0 Tryd.underlying28 rfl ts3 rfl rfl rfl) rfl (oD (lB 0 ts3 rfl rfl rfl) rfl (oD (stp_mul rfl rfl e2) rfl (oD (fA 1 Tryd.underlying28 rfl ts3 rfl rfl rfl) rfl (oD (lB 0 ts3 rfl rfl rfl) rfl (oD (stp_add rfl rfl e3) rfl (oD (stp_convU Tryd.underlying3 Tryd.underlying89 rfl e4) rfl (oD (sg rfl) rfl (nn (sr (oD (mv rfl) rfl ?_)))))))))))))
  obtain ⟨x5, e5, H0⟩ := bind_some H0
  obtain ⟨x6, e6, H0⟩ := bind_some H0
  obtain ⟨x7, e7, H0⟩ := bind_some H0
  obtain ⟨x8, e8, H0⟩ := bind_some H0
  obtain ⟨x9, e9, H0⟩ := bind_some H0
  refine oD (stp_mulU rfl rfl e5) rfl (oD (stp_rem rfl rfl e6) rfl (oD (sg rfl) rfl (nn (sr (oD (mv rfl) rfl (oD (mv rfl) rfl (oD (stp_convU Tryd.underlying3 Tryd.underlying89 rfl e7) rfl (oD (stp_mulU rfl rfl e8) rfl (oD (stp_shr (d := 4294967296) (by decide) rfl rfl) rfl (oD (stp_convI Tryd.underlying89 Tryd.underlying3 rfl e9) rfl (oD (sg rfl) rfl (nn (cw_ret ?_)))))))))))))
  have q0 := Option.some.inj H0
  subst q0
  exact kw_ret Tryd.results41 (.cons (.tmp rfl) .nil) [] [] trivial (by decide) ⟨rfl, rfl⟩
end Go.Proofs.YtbhpohopfbcfgaaDoor
