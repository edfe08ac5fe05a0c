/- The walks: functions of the program return what their pure functions say. Printed by a program (gen.py). -/
import Derived.Test.YtciliaiocakdkaaGreatDoorGp
import Derived.Test.YtciliaiocakdkaaGreatDoorGt
import Derived.Test.YtciliaiocakdkaaGreatDoorMan
import Derived.Test.YtciliaiocakdkaaGreatDoorMap
import Derived.Test.YtciliaiocakdkaaGreatDoorCpy
import Derived.Test.YtciliaiocakdkaaGreatDoorClr
import Derived.Test.YtciliaiocakdkaaGreatDoorDp
import Derived.Test.YtciliaiocakdkaaGreatDoorSd
import Derived.Test.YtciliaiocakdkaaGreatDoorSrt
import Derived.Test.YtciliaiocakdkaaGreatDoorGe
set_option linter.unusedSimpArgs false
set_option linter.unusedVariables false
set_option linter.unusedSectionVars false
namespace Go.Proofs.YtciliaiocakdkaaGreatDoor
open Go.RowKit
theorem c_clip22 (w : World) (ao : Option Addr) (n cap : Nat) (hle : n ≤ cap) :
    Ct Tryz.prog 22 [.slice ao n cap] w [] (fun rv h' => rv = .slice ao n n ∧ h' = []) := by
  refine ct_of_cw Tryz.func22 rfl Tryz.ntmps22 rfl (Sat.refl _ _) ?_
  exact sr (oS rfl (nn (sr (oM rfl (oM rfl (oD (stp_len Tryz.underlying23 rfl) rfl (oM rfl (oD (stp_len Tryz.underlying23 rfl) rfl (oD (stp_clip Tryz.underlying23 ts3 hle rfl rfl rfl rfl rfl) rfl (oS rfl (nn (cw_ret (kw_ret Tryz.results22 (rT rfl) [] [] trivial (by decide) ⟨rfl, rfl⟩)))))))))))))

theorem c_clip33 (w : World) (ao : Option Addr) (n cap : Nat) (hle : n ≤ cap) :
    Ct Tryz.prog 33 [.slice ao n cap] w [] (fun rv h' => rv = .slice ao n n ∧ h' = []) := by
  refine ct_of_cw Tryz.func33 rfl Tryz.ntmps33 rfl (Sat.refl _ _) ?_
  exact sr (oS rfl (nn (sr (oM rfl (oM rfl (oD (stp_len Tryz.underlying35 rfl) rfl (oM rfl (oD (stp_len Tryz.underlying35 rfl) rfl (oD (stp_clip Tryz.underlying35 ts52 hle rfl rfl rfl rfl rfl) rfl (oS rfl (nn (cw_ret (kw_ret Tryz.results33 (rT rfl) [] [] trivial (by decide) ⟨rfl, rfl⟩)))))))))))))

theorem c_clip54 (w : World) (ao : Option Addr) (n cap : Nat) (hle : n ≤ cap) :
    Ct Tryz.prog 54 [.slice ao n cap] w [] (fun rv h' => rv = .slice ao n n ∧ h' = []) := by
  refine ct_of_cw Tryz.func54 rfl Tryz.ntmps54 rfl (Sat.refl _ _) ?_
  exact sr (oS rfl (nn (sr (oM rfl (oM rfl (oD (stp_len Tryz.underlying24 rfl) rfl (oM rfl (oD (stp_len Tryz.underlying24 rfl) rfl (oD (stp_clip Tryz.underlying24 ts76 hle rfl rfl rfl rfl rfl) rfl (oS rfl (nn (cw_ret (kw_ret Tryz.results54 (rT rfl) [] [] trivial (by decide) ⟨rfl, rfl⟩)))))))))))))

theorem c_open24 (w : World) (l : List UInt8) (ao : Option Addr) (n cap : Nat) (hl : n = l.length) (hle : l.length ≤ cap) :
    Ct Tryz.prog 24 [.slice ao n cap] w [] (fun rv h' => ∃ b, rv = .pointer (some ⟨b, 0, none⟩) ∧ h' = [(0, [(b, .cells #[.slice ao ((l.take 2000).length) cap, .int .i64 0] 84 (0, 0))])]) := by
  refine ct_of_cw Tryz.func24 rfl Tryz.ntmps24 rfl (Sat.refl _ _) ?_
  refine sr (oS rfl (nn (cw_seq (sr (oM rfl (oD (stp_len Tryz.underlying22 rfl) rfl (oJ rfl (nn (cw_cond rfl (fun h1 => ?_) (fun h1 => ?_))))))))))
  · have := True.intro
    have e : (l.take 2000).length = 2000 := by have := of_decide_eq_true h1; rw [List.length_take]; omega
    refine cw_region (oM rfl (oD (stp_takeRaw (m := 2000) Tryz.underlying22 ts5 rfl rfl rfl (by have := of_decide_eq_true h1; omega)) rfl (oS rfl (nn (sr (oM rfl (oD (stp_build (cs := #[.slice ao 2000 cap, .int .i64 0]) (sevp_cons rfl sevp_nil) bt84_11) rfl (oE (stpU_box 0 rfl rfl) rfl ?_))))))))
    rintro _ _ ⟨b2, rfl, rfl⟩
    refine oS rfl (nn (cw_ret ?_))
    rw [e]
    exact kr Tryz.results24 (rT rfl) [0] ⟨_, rfl, rfl⟩
  have := True.intro
  have e : (l.take 2000).length = n := by have := of_decide_eq_false h1; rw [List.length_take]; omega
  refine cw_skip (kw_nx (sr (oM rfl (oD (stp_build (cs := #[.slice ao n cap, .int .i64 0]) (sevp_cons rfl sevp_nil) bt84_11) rfl (oE (stpU_box 1 rfl rfl) rfl ?_)))))
  rintro _ _ ⟨b3, rfl, rfl⟩
  refine oS rfl (nn (cw_ret ?_))
  rw [e]
  exact kr Tryz.results24 (rT rfl) [1] ⟨_, rfl, rfl⟩
end Go.Proofs.YtciliaiocakdkaaGreatDoor
