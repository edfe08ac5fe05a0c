/- The walks: functions of the program return what their pure functions say. Printed by a program (gen.py). -/
import Derived.Test.YtbhpohopfbcfgaaDoorGp
import Derived.Test.YtbhpohopfbcfgaaDoorGt
import Derived.Test.YtbhpohopfbcfgaaDoorMan
import Derived.Test.YtbhpohopfbcfgaaDoorMap
import Derived.Test.YtbhpohopfbcfgaaDoorCpy
import Derived.Test.YtbhpohopfbcfgaaDoorBits
set_option linter.unusedSimpArgs false
set_option linter.unusedVariables false
set_option linter.unusedSectionVars false
namespace Go.Proofs.YtbhpohopfbcfgaaDoor
open Go.RowKit
set_option maxHeartbeats 4000000 in
set_option maxRecDepth 20000 in
theorem c_clip45 (w : World) (ao : Option Addr) (n cap : Nat) (hle : n ≤ cap) :
    Ct Tryd.prog 45 [.slice ao n cap] w [] (fun rv h' => rv = .slice ao n n ∧ h' = []) := by
  refine ct_of_cw Tryd.func45 rfl Tryd.ntmps45 rfl (Sat.refl _ _) ?_
  exact sr (oD (sg rfl) rfl (nn (sr (oD (mv rfl) rfl (oD (mv rfl) rfl (oD (stp_len Tryd.underlying37 rfl) rfl (oD (mv rfl) rfl (oD (stp_len Tryd.underlying37 rfl) rfl (oD (stp_clip Tryd.underlying37 ts28 hle rfl rfl rfl rfl rfl) rfl (oD (sg rfl) rfl (nn (cw_ret (kw_ret Tryd.results45 (.cons (.tmp rfl) .nil) [] [] trivial (by decide) ⟨rfl, rfl⟩)))))))))))))

set_option maxHeartbeats 4000000 in
set_option maxRecDepth 20000 in
theorem c_clip58 (w : World) (ao : Option Addr) (n cap : Nat) (hle : n ≤ cap) :
    Ct Tryd.prog 58 [.slice ao n cap] w [] (fun rv h' => rv = .slice ao n n ∧ h' = []) := by
  refine ct_of_cw Tryd.func58 rfl Tryd.ntmps58 rfl (Sat.refl _ _) ?_
  exact sr (oD (sg rfl) rfl (nn (sr (oD (mv rfl) rfl (oD (mv rfl) rfl (oD (stp_len Tryd.underlying23 rfl) rfl (oD (mv rfl) rfl (oD (stp_len Tryd.underlying23 rfl) rfl (oD (stp_clip Tryd.underlying23 ts3 hle rfl rfl rfl rfl rfl) rfl (oD (sg rfl) rfl (nn (cw_ret (kw_ret Tryd.results58 (.cons (.tmp rfl) .nil) [] [] trivial (by decide) ⟨rfl, rfl⟩)))))))))))))

set_option maxHeartbeats 4000000 in
set_option maxRecDepth 20000 in
theorem c_clip60 (w : World) (ao : Option Addr) (n cap : Nat) (hle : n ≤ cap) :
    Ct Tryd.prog 60 [.slice ao n cap] w [] (fun rv h' => rv = .slice ao n n ∧ h' = []) := by
  refine ct_of_cw Tryd.func60 rfl Tryd.ntmps60 rfl (Sat.refl _ _) ?_
  exact sr (oD (sg rfl) rfl (nn (sr (oD (mv rfl) rfl (oD (mv rfl) rfl (oD (stp_len Tryd.underlying24 rfl) rfl (oD (mv rfl) rfl (oD (stp_len Tryd.underlying24 rfl) rfl (oD (stp_clip Tryd.underlying24 ts58 hle rfl rfl rfl rfl rfl) rfl (oD (sg rfl) rfl (nn (cw_ret (kw_ret Tryd.results60 (.cons (.tmp rfl) .nil) [] [] trivial (by decide) ⟨rfl, rfl⟩)))))))))))))

set_option maxHeartbeats 4000000 in
set_option maxRecDepth 20000 in
theorem c_open22 (w : World) (l : List UInt8) (ao : Option Addr) (n cap : Nat) (hl : n = l.length) (hle : l.length ≤ cap) :
    Ct Tryd.prog 22 [.slice ao n cap] w [] (fun rv h' => ∃ b, rv = .pointer (some ⟨b, 0, none⟩) ∧ h' = [(0, [(b, .cells #[.slice ao ((l.take 2000).length) cap, .int .i64 0] 81 (0, 0))])]) := by
  refine ct_of_cw Tryd.func22 rfl Tryd.ntmps22 rfl (Sat.refl _ _) ?_
  refine sr (oD (sg rfl) rfl (nn (cw_seq (sr (oD (mv rfl) rfl (oD (stp_len Tryd.underlying22 rfl) rfl (oD (stp_gtr rfl rfl) rfl (nn (cw_cond rfl (fun h1 => ?_) (fun h1 => ?_))))))))))
  · have := True.intro
    have e : (l.take 2000).length = 2000 := by have := of_decide_eq_true h1; rw [List.length_take]; omega
    refine cw_region (oD (mv rfl) rfl (oD (stp_takeRaw (m := 2000) Tryd.underlying22 ts5 rfl rfl rfl (by have := of_decide_eq_true h1; omega)) rfl (oD (sg rfl) rfl (nn (sr (oD (mv rfl) rfl (oD (stp_build (cs := #[.slice ao 2000 cap, .int .i64 0]) (sevp_cons rfl sevp_nil) bt81_5) rfl (oE (stpU_box 0 rfl rfl) rfl ?_))))))))
    rintro _ _ ⟨b2, rfl, rfl⟩
    refine oD (sg rfl) rfl (nn (cw_ret ?_))
    rw [e]
    exact kw_ret Tryd.results22 (.cons (.tmp rfl) .nil) [(0, [(b2, .cells #[.slice ao 2000 cap, .int .i64 0] 81 (0, 0))])] [0] ⟨0, [], rfl, rfl, trivial⟩ (by decide) ⟨_, rfl, rfl⟩
  · have := True.intro
    have e : (l.take 2000).length = n := by have := of_decide_eq_false h1; rw [List.length_take]; omega
    refine cw_skip (kw_nx (sr (oD (mv rfl) rfl (oD (stp_build (cs := #[.slice ao n cap, .int .i64 0]) (sevp_cons rfl sevp_nil) bt81_5) rfl (oE (stpU_box 1 rfl rfl) rfl ?_)))))
    rintro _ _ ⟨b3, rfl, rfl⟩
    refine oD (sg rfl) rfl (nn (cw_ret ?_))
    rw [e]
    exact kw_ret Tryd.results22 (.cons (.tmp rfl) .nil) [(0, [(b3, .cells #[.slice ao n cap, .int .i64 0] 81 (0, 0))])] [1] ⟨1, [], rfl, rfl, trivial⟩ (by decide) ⟨_, rfl, rfl⟩
end Go.Proofs.YtbhpohopfbcfgaaDoor
