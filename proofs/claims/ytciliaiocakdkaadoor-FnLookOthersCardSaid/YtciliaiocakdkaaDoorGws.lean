/- The walks: functions of the program return what their pure functions say. Printed by a program (gen.py). -/
import Derived.Test.YtciliaiocakdkaaDoorGp
import Derived.Test.YtciliaiocakdkaaDoorGt
import Derived.Test.YtciliaiocakdkaaDoorMan
import Derived.Test.YtciliaiocakdkaaDoorMap
import Derived.Test.YtciliaiocakdkaaDoorCpy
import Derived.Test.YtciliaiocakdkaaDoorClr
import Derived.Test.YtciliaiocakdkaaDoorDp
import Derived.Test.YtciliaiocakdkaaDoorSd
import Derived.Test.YtciliaiocakdkaaDoorGe
set_option linter.unusedSimpArgs false
set_option linter.unusedVariables false
set_option linter.unusedSectionVars false
namespace Go.Proofs.YtciliaiocakdkaaDoor
open Go.RowKit
theorem c_clip33 (w : World) (ao : Option Addr) (n cap : Nat) (hle : n ≤ cap) :
    Ct Tryd.prog 33 [.slice ao n cap] w [] (fun rv h' => rv = .slice ao n n ∧ h' = []) := by
  refine ct_of_cw Tryd.func33 rfl Tryd.ntmps33 rfl (Sat.refl _ _) ?_
  exact sr (oS rfl (nn (sr (oM rfl (oM rfl (oD (stp_len Tryd.underlying41 rfl) rfl (oM rfl (oD (stp_len Tryd.underlying41 rfl) rfl (oD (stp_clip Tryd.underlying41 ts53 hle rfl rfl rfl rfl rfl) rfl (oS rfl (nn (cw_ret (kw_ret Tryd.results33 (rT rfl) [] [] trivial (by decide) ⟨rfl, rfl⟩)))))))))))))

theorem c_clip75 (w : World) (ao : Option Addr) (n cap : Nat) (hle : n ≤ cap) :
    Ct Tryd.prog 75 [.slice ao n cap] w [] (fun rv h' => rv = .slice ao n n ∧ h' = []) := by
  refine ct_of_cw Tryd.func75 rfl Tryd.ntmps75 rfl (Sat.refl _ _) ?_
  exact sr (oS rfl (nn (sr (oM rfl (oM rfl (oD (stp_len Tryd.underlying23 rfl) rfl (oM rfl (oD (stp_len Tryd.underlying23 rfl) rfl (oD (stp_clip Tryd.underlying23 ts3 hle rfl rfl rfl rfl rfl) rfl (oS rfl (nn (cw_ret (kw_ret Tryd.results75 (rT rfl) [] [] trivial (by decide) ⟨rfl, rfl⟩)))))))))))))

theorem c_clip77 (w : World) (ao : Option Addr) (n cap : Nat) (hle : n ≤ cap) :
    Ct Tryd.prog 77 [.slice ao n cap] w [] (fun rv h' => rv = .slice ao n n ∧ h' = []) := by
  refine ct_of_cw Tryd.func77 rfl Tryd.ntmps77 rfl (Sat.refl _ _) ?_
  exact sr (oS rfl (nn (sr (oM rfl (oM rfl (oD (stp_len Tryd.underlying24 rfl) rfl (oM rfl (oD (stp_len Tryd.underlying24 rfl) rfl (oD (stp_clip Tryd.underlying24 ts61 hle rfl rfl rfl rfl rfl) rfl (oS rfl (nn (cw_ret (kw_ret Tryd.results77 (rT rfl) [] [] trivial (by decide) ⟨rfl, rfl⟩)))))))))))))

theorem c_open12 (w : World) (l : List UInt8) (ao : Option Addr) (n cap : Nat) (hl : n = l.length) (hle : l.length ≤ cap) :
    Ct Tryd.prog 12 [.slice ao n cap] w [] (fun rv h' => ∃ b, rv = .pointer (some ⟨b, 0, none⟩) ∧ h' = [(0, [(b, .cells #[.slice ao ((l.take 2000).length) cap, .int .i64 0] 72 (0, 0))])]) := by
  refine ct_of_cw Tryd.func12 rfl Tryd.ntmps12 rfl (Sat.refl _ _) ?_
  refine sr (oS rfl (nn (cw_seq (sr (oM rfl (oD (stp_len Tryd.underlying22 rfl) rfl (oJ rfl (nn (cw_cond rfl (fun h1 => ?_) (fun h1 => ?_))))))))))
  · have := True.intro
    have e : (l.take 2000).length = 2000 := by have := of_decide_eq_true h1; rw [List.length_take]; omega
    refine cw_region (oM rfl (oD (stp_takeRaw (m := 2000) Tryd.underlying22 ts5 rfl rfl rfl (by have := of_decide_eq_true h1; omega)) rfl (oS rfl (nn (sr (oM rfl (oD (stp_build (cs := #[.slice ao 2000 cap, .int .i64 0]) (sevp_cons rfl sevp_nil) bt72_11) rfl (oE (stpU_box 0 rfl rfl) rfl ?_))))))))
    rintro _ _ ⟨b2, rfl, rfl⟩
    refine oS rfl (nn (cw_ret ?_))
    rw [e]
    exact kr Tryd.results12 (rT rfl) [0] ⟨_, rfl, rfl⟩
  have := True.intro
  have e : (l.take 2000).length = n := by have := of_decide_eq_false h1; rw [List.length_take]; omega
  refine cw_skip (kw_nx (sr (oM rfl (oD (stp_build (cs := #[.slice ao n cap, .int .i64 0]) (sevp_cons rfl sevp_nil) bt72_11) rfl (oE (stpU_box 1 rfl rfl) rfl ?_)))))
  rintro _ _ ⟨b3, rfl, rfl⟩
  refine oS rfl (nn (cw_ret ?_))
  rw [e]
  exact kr Tryd.results12 (rT rfl) [1] ⟨_, rfl, rfl⟩
end Go.Proofs.YtciliaiocakdkaaDoor
