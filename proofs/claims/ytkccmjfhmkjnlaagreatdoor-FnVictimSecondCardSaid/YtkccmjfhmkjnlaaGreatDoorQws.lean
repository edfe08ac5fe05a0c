/- The walks: functions of the program return what their pure functions say. Printed by a program (gen.py). -/
import Derived.Test.YtkccmjfhmkjnlaaGreatDoorQp
import Derived.Test.YtkccmjfhmkjnlaaGreatDoorQt
import Derived.Test.YtkccmjfhmkjnlaaGreatDoorMan
import Derived.Test.YtkccmjfhmkjnlaaGreatDoorMap
import Derived.Test.YtkccmjfhmkjnlaaGreatDoorCpy
import Derived.Test.YtkccmjfhmkjnlaaGreatDoorQe
set_option linter.unusedSimpArgs false
set_option linter.unusedVariables false
set_option linter.unusedSectionVars false
namespace Go.Proofs.YtkccmjfhmkjnlaaGreatDoor
open Go.RowKit
theorem c_clip33 (w : World) (ao : Option Addr) (n cap : Nat) (hle : n ≤ cap) :
    Ct Tryz.prog 33 [.slice ao n cap] w [] (fun rv h' => rv = .slice ao n n ∧ h' = []) := by
  refine ct_of_cw Tryz.func33 rfl Tryz.ntmps33 rfl (Sat.refl _ _) ?_
  exact sr (oS rfl (nn (sr (oM rfl (oM rfl (oD (stp_len Tryz.underlying35 rfl) rfl (oM rfl (oD (stp_len Tryz.underlying35 rfl) rfl (oD (stp_clip Tryz.underlying35 ts4 hle rfl rfl rfl rfl rfl) rfl (oS rfl (nn (cw_ret (kw_ret Tryz.results33 (rT rfl) [] [] trivial (by decide) ⟨rfl, rfl⟩)))))))))))))

theorem c_clip62 (w : World) (ao : Option Addr) (n cap : Nat) (hle : n ≤ cap) :
    Ct Tryz.prog 62 [.slice ao n cap] w [] (fun rv h' => rv = .slice ao n n ∧ h' = []) := by
  refine ct_of_cw Tryz.func62 rfl Tryz.ntmps62 rfl (Sat.refl _ _) ?_
  exact sr (oS rfl (nn (sr (oM rfl (oM rfl (oD (stp_len Tryz.underlying27 rfl) rfl (oM rfl (oD (stp_len Tryz.underlying27 rfl) rfl (oD (stp_clip Tryz.underlying27 ts47 hle rfl rfl rfl rfl rfl) rfl (oS rfl (nn (cw_ret (kw_ret Tryz.results62 (rT rfl) [] [] trivial (by decide) ⟨rfl, rfl⟩)))))))))))))

theorem c_clip64 (w : World) (ao : Option Addr) (n cap : Nat) (hle : n ≤ cap) :
    Ct Tryz.prog 64 [.slice ao n cap] w [] (fun rv h' => rv = .slice ao n n ∧ h' = []) := by
  refine ct_of_cw Tryz.func64 rfl Tryz.ntmps64 rfl (Sat.refl _ _) ?_
  exact sr (oS rfl (nn (sr (oM rfl (oM rfl (oD (stp_len Tryz.underlying30 rfl) rfl (oM rfl (oD (stp_len Tryz.underlying30 rfl) rfl (oD (stp_clip Tryz.underlying30 ts89 hle rfl rfl rfl rfl rfl) rfl (oS rfl (nn (cw_ret (kw_ret Tryz.results64 (rT rfl) [] [] trivial (by decide) ⟨rfl, rfl⟩)))))))))))))

theorem c_clip94 (w : World) (ao : Option Addr) (n cap : Nat) (hle : n ≤ cap) :
    Ct Tryz.prog 94 [.slice ao n cap] w [] (fun rv h' => rv = .slice ao n n ∧ h' = []) := by
  refine ct_of_cw Tryz.func94 rfl Tryz.ntmps94 rfl (Sat.refl _ _) ?_
  exact sr (oS rfl (nn (sr (oM rfl (oM rfl (oD (stp_len Tryz.underlying23 rfl) rfl (oM rfl (oD (stp_len Tryz.underlying23 rfl) rfl (oD (stp_clip Tryz.underlying23 ts3 hle rfl rfl rfl rfl rfl) rfl (oS rfl (nn (cw_ret (kw_ret Tryz.results94 (rT rfl) [] [] trivial (by decide) ⟨rfl, rfl⟩)))))))))))))

theorem c_clip96 (w : World) (ao : Option Addr) (n cap : Nat) (hle : n ≤ cap) :
    Ct Tryz.prog 96 [.slice ao n cap] w [] (fun rv h' => rv = .slice ao n n ∧ h' = []) := by
  refine ct_of_cw Tryz.func96 rfl Tryz.ntmps96 rfl (Sat.refl _ _) ?_
  exact sr (oS rfl (nn (sr (oM rfl (oM rfl (oD (stp_len Tryz.underlying24 rfl) rfl (oM rfl (oD (stp_len Tryz.underlying24 rfl) rfl (oD (stp_clip Tryz.underlying24 ts51 hle rfl rfl rfl rfl rfl) rfl (oS rfl (nn (cw_ret (kw_ret Tryz.results96 (rT rfl) [] [] trivial (by decide) ⟨rfl, rfl⟩)))))))))))))

theorem c_open29 (w : World) (l : List UInt8) (ao : Option Addr) (n cap : Nat) (hl : n = l.length) (hle : l.length ≤ cap) :
    Ct Tryz.prog 29 [.slice ao n cap] w [] (fun rv h' => ∃ b, rv = .pointer (some ⟨b, 0, none⟩) ∧ h' = [(0, [(b, .cells #[.slice ao ((l.take 2000).length) cap, .int .i64 0] 91 (0, 0))])]) := by
  refine ct_of_cw Tryz.func29 rfl Tryz.ntmps29 rfl (Sat.refl _ _) ?_
  refine sr (oS rfl (nn (cw_seq (sr (oM rfl (oD (stp_len Tryz.underlying22 rfl) rfl (oJ rfl (nn (cw_cond rfl (fun h1 => ?_) (fun h1 => ?_))))))))))
  · have := True.intro
    have e : (l.take 2000).length = 2000 := by have := of_decide_eq_true h1; rw [List.length_take]; omega
    refine cw_region (oM rfl (oD (stp_takeRaw (m := 2000) Tryz.underlying22 ts5 rfl rfl rfl (by have := of_decide_eq_true h1; omega)) rfl (oS rfl (nn (sr (oM rfl (oD (stp_build (cs := #[.slice ao 2000 cap, .int .i64 0]) (sevp_cons rfl sevp_nil) bt91_22) rfl (oE (stpU_box 0 rfl rfl) rfl ?_))))))))
    rintro _ _ ⟨b2, rfl, rfl⟩
    refine oS rfl (nn (cw_ret ?_))
    rw [e]
    exact kr Tryz.results29 (rT rfl) [0] ⟨_, rfl, rfl⟩
  have := True.intro
  have e : (l.take 2000).length = n := by have := of_decide_eq_false h1; rw [List.length_take]; omega
  refine cw_skip (kw_nx (sr (oM rfl (oD (stp_build (cs := #[.slice ao n cap, .int .i64 0]) (sevp_cons rfl sevp_nil) bt91_22) rfl (oE (stpU_box 1 rfl rfl) rfl ?_)))))
  rintro _ _ ⟨b3, rfl, rfl⟩
  refine oS rfl (nn (cw_ret ?_))
  rw [e]
  exact kr Tryz.results29 (rT rfl) [1] ⟨_, rfl, rfl⟩
end Go.Proofs.YtkccmjfhmkjnlaaGreatDoor
