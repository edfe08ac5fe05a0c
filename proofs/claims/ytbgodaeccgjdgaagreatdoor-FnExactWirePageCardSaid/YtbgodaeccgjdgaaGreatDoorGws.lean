/- The walks: functions of the program return what their pure functions say. Printed by a program (gen.py). -/
import Derived.Test.YtbgodaeccgjdgaaGreatDoorGp
import Derived.Test.YtbgodaeccgjdgaaGreatDoorGt
import Derived.Test.YtbgodaeccgjdgaaGreatDoorMan
import Derived.Test.YtbgodaeccgjdgaaGreatDoorMap
set_option linter.unusedSimpArgs false
set_option linter.unusedVariables false
set_option linter.unusedSectionVars false
namespace Go.Proofs.YtbgodaeccgjdgaaGreatDoor
open Go.RowKit
set_option maxHeartbeats 4000000 in
set_option maxRecDepth 20000 in
theorem c_clip146 (w : World) (ao : Option Addr) (n cap : Nat) (hle : n ≤ cap) :
    Ct Tryz.prog 146 [.slice ao n cap] w [] (fun rv h' => rv = .slice ao n n ∧ h' = []) := by
  refine ct_of_cw Tryz.func146 rfl Tryz.ntmps146 rfl (Sat.refl _ _) ?_
  exact sr (oD (sg rfl) rfl (nn (sr (oD (mv rfl) rfl (oD (mv rfl) rfl (oD (stp_len Tryz.underlying40 rfl) rfl (oD (mv rfl) rfl (oD (stp_len Tryz.underlying40 rfl) rfl (oD (stp_clip Tryz.underlying40 ts112 hle rfl rfl rfl rfl rfl) rfl (oD (sg rfl) rfl (nn (cw_ret (kw_ret Tryz.results146 (.cons (.tmp rfl) .nil) [] [] trivial (by decide) ⟨rfl, rfl⟩)))))))))))))

set_option maxHeartbeats 4000000 in
set_option maxRecDepth 20000 in
theorem c_clip148 (w : World) (ao : Option Addr) (n cap : Nat) (hle : n ≤ cap) :
    Ct Tryz.prog 148 [.slice ao n cap] w [] (fun rv h' => rv = .slice ao n n ∧ h' = []) := by
  refine ct_of_cw Tryz.func148 rfl Tryz.ntmps148 rfl (Sat.refl _ _) ?_
  exact sr (oD (sg rfl) rfl (nn (sr (oD (mv rfl) rfl (oD (mv rfl) rfl (oD (stp_len Tryz.underlying43 rfl) rfl (oD (mv rfl) rfl (oD (stp_len Tryz.underlying43 rfl) rfl (oD (stp_clip Tryz.underlying43 ts148 hle rfl rfl rfl rfl rfl) rfl (oD (sg rfl) rfl (nn (cw_ret (kw_ret Tryz.results148 (.cons (.tmp rfl) .nil) [] [] trivial (by decide) ⟨rfl, rfl⟩)))))))))))))

set_option maxHeartbeats 4000000 in
set_option maxRecDepth 20000 in
theorem c_clip181 (w : World) (ao : Option Addr) (n cap : Nat) (hle : n ≤ cap) :
    Ct Tryz.prog 181 [.slice ao n cap] w [] (fun rv h' => rv = .slice ao n n ∧ h' = []) := by
  refine ct_of_cw Tryz.func181 rfl Tryz.ntmps181 rfl (Sat.refl _ _) ?_
  exact sr (oD (sg rfl) rfl (nn (sr (oD (mv rfl) rfl (oD (mv rfl) rfl (oD (stp_len Tryz.underlying66 rfl) rfl (oD (mv rfl) rfl (oD (stp_len Tryz.underlying66 rfl) rfl (oD (stp_clip Tryz.underlying66 ts4 hle rfl rfl rfl rfl rfl) rfl (oD (sg rfl) rfl (nn (cw_ret (kw_ret Tryz.results181 (.cons (.tmp rfl) .nil) [] [] trivial (by decide) ⟨rfl, rfl⟩)))))))))))))

set_option maxHeartbeats 4000000 in
set_option maxRecDepth 20000 in
theorem c_clip199 (w : World) (ao : Option Addr) (n cap : Nat) (hle : n ≤ cap) :
    Ct Tryz.prog 199 [.slice ao n cap] w [] (fun rv h' => rv = .slice ao n n ∧ h' = []) := by
  refine ct_of_cw Tryz.func199 rfl Tryz.ntmps199 rfl (Sat.refl _ _) ?_
  exact sr (oD (sg rfl) rfl (nn (sr (oD (mv rfl) rfl (oD (mv rfl) rfl (oD (stp_len Tryz.underlying22 rfl) rfl (oD (mv rfl) rfl (oD (stp_len Tryz.underlying22 rfl) rfl (oD (stp_clip Tryz.underlying22 ts3 hle rfl rfl rfl rfl rfl) rfl (oD (sg rfl) rfl (nn (cw_ret (kw_ret Tryz.results199 (.cons (.tmp rfl) .nil) [] [] trivial (by decide) ⟨rfl, rfl⟩)))))))))))))

set_option maxHeartbeats 4000000 in
set_option maxRecDepth 20000 in
theorem c_clip201 (w : World) (ao : Option Addr) (n cap : Nat) (hle : n ≤ cap) :
    Ct Tryz.prog 201 [.slice ao n cap] w [] (fun rv h' => rv = .slice ao n n ∧ h' = []) := by
  refine ct_of_cw Tryz.func201 rfl Tryz.ntmps201 rfl (Sat.refl _ _) ?_
  exact sr (oD (sg rfl) rfl (nn (sr (oD (mv rfl) rfl (oD (mv rfl) rfl (oD (stp_len Tryz.underlying37 rfl) rfl (oD (mv rfl) rfl (oD (stp_len Tryz.underlying37 rfl) rfl (oD (stp_clip Tryz.underlying37 ts127 hle rfl rfl rfl rfl rfl) rfl (oD (sg rfl) rfl (nn (cw_ret (kw_ret Tryz.results201 (.cons (.tmp rfl) .nil) [] [] trivial (by decide) ⟨rfl, rfl⟩)))))))))))))
end Go.Proofs.YtbgodaeccgjdgaaGreatDoor
