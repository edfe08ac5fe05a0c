/- The walks: functions of the program return what their pure functions say. Printed by a program (gen.py). -/
import Derived.Test.YtbgodaeccgjdgaaDoorGp
import Derived.Test.YtbgodaeccgjdgaaDoorGt
import Derived.Test.YtbgodaeccgjdgaaDoorMan
import Derived.Test.YtbgodaeccgjdgaaDoorMap
import Derived.Test.YtbgodaeccgjdgaaDoorCpy
set_option linter.unusedSimpArgs false
set_option linter.unusedVariables false
set_option linter.unusedSectionVars false
namespace Go.Proofs.YtbgodaeccgjdgaaDoor
open Go.RowKit
set_option maxHeartbeats 4000000 in
set_option maxRecDepth 20000 in
theorem c_clip41 (w : World) (ao : Option Addr) (n cap : Nat) (hle : n ≤ cap) :
    Ct Tryd.prog 41 [.slice ao n cap] w [] (fun rv h' => rv = .slice ao n n ∧ h' = []) := by
  refine ct_of_cw Tryd.func41 rfl Tryd.ntmps41 rfl (Sat.refl _ _) ?_
  exact sr (oD (sg rfl) rfl (nn (sr (oD (mv rfl) rfl (oD (mv rfl) rfl (oD (stp_len Tryd.underlying32 rfl) rfl (oD (mv rfl) rfl (oD (stp_len Tryd.underlying32 rfl) rfl (oD (stp_clip Tryd.underlying32 ts85 hle rfl rfl rfl rfl rfl) rfl (oD (sg rfl) rfl (nn (cw_ret (kw_ret Tryd.results41 (.cons (.tmp rfl) .nil) [] [] trivial (by decide) ⟨rfl, rfl⟩)))))))))))))

set_option maxHeartbeats 4000000 in
set_option maxRecDepth 20000 in
theorem c_clip53 (w : World) (ao : Option Addr) (n cap : Nat) (hle : n ≤ cap) :
    Ct Tryd.prog 53 [.slice ao n cap] w [] (fun rv h' => rv = .slice ao n n ∧ h' = []) := by
  refine ct_of_cw Tryd.func53 rfl Tryd.ntmps53 rfl (Sat.refl _ _) ?_
  exact sr (oD (sg rfl) rfl (nn (sr (oD (mv rfl) rfl (oD (mv rfl) rfl (oD (stp_len Tryd.underlying29 rfl) rfl (oD (mv rfl) rfl (oD (stp_len Tryd.underlying29 rfl) rfl (oD (stp_clip Tryd.underlying29 ts65 hle rfl rfl rfl rfl rfl) rfl (oD (sg rfl) rfl (nn (cw_ret (kw_ret Tryd.results53 (.cons (.tmp rfl) .nil) [] [] trivial (by decide) ⟨rfl, rfl⟩)))))))))))))

set_option maxHeartbeats 4000000 in
set_option maxRecDepth 20000 in
theorem c_clip69 (w : World) (ao : Option Addr) (n cap : Nat) (hle : n ≤ cap) :
    Ct Tryd.prog 69 [.slice ao n cap] w [] (fun rv h' => rv = .slice ao n n ∧ h' = []) := by
  refine ct_of_cw Tryd.func69 rfl Tryd.ntmps69 rfl (Sat.refl _ _) ?_
  exact sr (oD (sg rfl) rfl (nn (sr (oD (mv rfl) rfl (oD (mv rfl) rfl (oD (stp_len Tryd.underlying25 rfl) rfl (oD (mv rfl) rfl (oD (stp_len Tryd.underlying25 rfl) rfl (oD (stp_clip Tryd.underlying25 ts3 hle rfl rfl rfl rfl rfl) rfl (oD (sg rfl) rfl (nn (cw_ret (kw_ret Tryd.results69 (.cons (.tmp rfl) .nil) [] [] trivial (by decide) ⟨rfl, rfl⟩)))))))))))))

set_option maxHeartbeats 4000000 in
set_option maxRecDepth 20000 in
theorem c_clip71 (w : World) (ao : Option Addr) (n cap : Nat) (hle : n ≤ cap) :
    Ct Tryd.prog 71 [.slice ao n cap] w [] (fun rv h' => rv = .slice ao n n ∧ h' = []) := by
  refine ct_of_cw Tryd.func71 rfl Tryd.ntmps71 rfl (Sat.refl _ _) ?_
  exact sr (oD (sg rfl) rfl (nn (sr (oD (mv rfl) rfl (oD (mv rfl) rfl (oD (stp_len Tryd.underlying26 rfl) rfl (oD (mv rfl) rfl (oD (stp_len Tryd.underlying26 rfl) rfl (oD (stp_clip Tryd.underlying26 ts71 hle rfl rfl rfl rfl rfl) rfl (oD (sg rfl) rfl (nn (cw_ret (kw_ret Tryd.results71 (.cons (.tmp rfl) .nil) [] [] trivial (by decide) ⟨rfl, rfl⟩)))))))))))))

set_option maxHeartbeats 4000000 in
set_option maxRecDepth 20000 in
theorem c_open10 (w : World) (l : List UInt8) (ao : Option Addr) (n cap : Nat) (hl : n = l.length) (hle : l.length ≤ cap) :
    Ct Tryd.prog 10 [.slice ao n cap] w [] (fun rv h' => ∃ b, rv = .pointer (some ⟨b, 0, none⟩) ∧ h' = [(0, [(b, .cells #[.slice ao ((l.take 2000).length) cap, .int .i64 0] 80 (0, 0))])]) := by
  refine ct_of_cw Tryd.func10 rfl Tryd.ntmps10 rfl (Sat.refl _ _) ?_
  refine sr (oD (sg rfl) rfl (nn (cw_seq (sr (oD (mv rfl) rfl (oD (stp_len Tryd.underlying22 rfl) rfl (oD (stp_gtr rfl rfl) rfl (nn (cw_cond rfl (fun h1 => ?_) (fun h1 => ?_))))))))))
  · have := True.intro
    have e : (l.take 2000).length = 2000 := by have := of_decide_eq_true h1; rw [List.length_take]; omega
    refine cw_region (oD (mv rfl) rfl (oD (stp_takeRaw (m := 2000) Tryd.underlying22 ts5 rfl rfl rfl (by have := of_decide_eq_true h1; omega)) rfl (oD (sg rfl) rfl (nn (sr (oD (mv rfl) rfl (oD (stp_build (cs := #[.slice ao 2000 cap, .int .i64 0]) (sevp_cons rfl sevp_nil) bt80_19) rfl (oE (stpU_box 0 rfl rfl) rfl ?_))))))))
    rintro _ _ ⟨b2, rfl, rfl⟩
    refine oD (sg rfl) rfl (nn (cw_ret ?_))
    rw [e]
    exact kw_ret Tryd.results10 (.cons (.tmp rfl) .nil) [(0, [(b2, .cells #[.slice ao 2000 cap, .int .i64 0] 80 (0, 0))])] [0] ⟨0, [], rfl, rfl, trivial⟩ (by decide) ⟨_, rfl, rfl⟩
  · have := True.intro
    have e : (l.take 2000).length = n := by have := of_decide_eq_false h1; rw [List.length_take]; omega
    refine cw_skip (kw_nx (sr (oD (mv rfl) rfl (oD (stp_build (cs := #[.slice ao n cap, .int .i64 0]) (sevp_cons rfl sevp_nil) bt80_19) rfl (oE (stpU_box 1 rfl rfl) rfl ?_)))))
    rintro _ _ ⟨b3, rfl, rfl⟩
    refine oD (sg rfl) rfl (nn (cw_ret ?_))
    rw [e]
    exact kw_ret Tryd.results10 (.cons (.tmp rfl) .nil) [(0, [(b3, .cells #[.slice ao n cap, .int .i64 0] 80 (0, 0))])] [1] ⟨1, [], rfl, rfl, trivial⟩ (by decide) ⟨_, rfl, rfl⟩
end Go.Proofs.YtbgodaeccgjdgaaDoor
