/- The walks: functions of the program return what their pure functions say. Printed by a program (gen.py). -/
import Derived.Test.YtfnliecmagnkdabGreatDoorCp
import Derived.Test.YtfnliecmagnkdabGreatDoorCt
import Derived.Test.YtfnliecmagnkdabGreatDoorMan
import Derived.Test.YtfnliecmagnkdabGreatDoorMap
import Derived.Test.YtfnliecmagnkdabGreatDoorCpy
import Derived.Test.YtfnliecmagnkdabGreatDoorClr
import Derived.Test.YtfnliecmagnkdabGreatDoorDp
import Derived.Test.YtfnliecmagnkdabGreatDoorSrt
import Derived.Test.YtfnliecmagnkdabGreatDoorE8
set_option linter.unusedSimpArgs false
set_option linter.unusedVariables false
set_option linter.unusedSectionVars false
namespace Go.Proofs.YtfnliecmagnkdabGreatDoor
open Go.RowKit
theorem c_clip34 (w : World) (ao : Option Addr) (n cap : Nat) (hle : n ≤ cap) :
    Ct Tryz.prog 34 [.slice ao n cap] w [] (fun rv h' => rv = .slice ao n n ∧ h' = []) := by
  refine ct_of_cw Tryz.func34 rfl Tryz.ntmps34 rfl (Sat.refl _ _) ?_
  exact sr (oS rfl (nn (sr (oM rfl (oM rfl (oD (stp_len Tryz.underlying23 rfl) rfl (oM rfl (oD (stp_len Tryz.underlying23 rfl) rfl (oD (stp_clip Tryz.underlying23 ts3 hle rfl rfl rfl rfl rfl) rfl (oS rfl (nn (cw_ret (kw_ret Tryz.results34 (rT rfl) [] [] trivial (by decide) ⟨rfl, rfl⟩)))))))))))))

theorem c_clip45 (w : World) (ao : Option Addr) (n cap : Nat) (hle : n ≤ cap) :
    Ct Tryz.prog 45 [.slice ao n cap] w [] (fun rv h' => rv = .slice ao n n ∧ h' = []) := by
  refine ct_of_cw Tryz.func45 rfl Tryz.ntmps45 rfl (Sat.refl _ _) ?_
  exact sr (oS rfl (nn (sr (oM rfl (oM rfl (oD (stp_len Tryz.underlying35 rfl) rfl (oM rfl (oD (stp_len Tryz.underlying35 rfl) rfl (oD (stp_clip Tryz.underlying35 ts51 hle rfl rfl rfl rfl rfl) rfl (oS rfl (nn (cw_ret (kw_ret Tryz.results45 (rT rfl) [] [] trivial (by decide) ⟨rfl, rfl⟩)))))))))))))

theorem c_clip84 (w : World) (ao : Option Addr) (n cap : Nat) (hle : n ≤ cap) :
    Ct Tryz.prog 84 [.slice ao n cap] w [] (fun rv h' => rv = .slice ao n n ∧ h' = []) := by
  refine ct_of_cw Tryz.func84 rfl Tryz.ntmps84 rfl (Sat.refl _ _) ?_
  exact sr (oS rfl (nn (sr (oM rfl (oM rfl (oD (stp_len Tryz.underlying24 rfl) rfl (oM rfl (oD (stp_len Tryz.underlying24 rfl) rfl (oD (stp_clip Tryz.underlying24 ts72 hle rfl rfl rfl rfl rfl) rfl (oS rfl (nn (cw_ret (kw_ret Tryz.results84 (rT rfl) [] [] trivial (by decide) ⟨rfl, rfl⟩)))))))))))))

theorem c_open52 (w : World) (l : List UInt8) (ao : Option Addr) (n cap : Nat) (hl : n = l.length) (hle : l.length ≤ cap) :
    Ct Tryz.prog 52 [.slice ao n cap] w [] (fun rv h' => ∃ b, rv = .pointer (some ⟨b, 0, none⟩) ∧ h' = [(0, [(b, .cells #[.slice ao ((l.take 2000).length) cap, .int .i64 0] 108 (0, 0))])]) := by
  refine ct_of_cw Tryz.func52 rfl Tryz.ntmps52 rfl (Sat.refl _ _) ?_
  refine sr (oS rfl (nn (cw_seq (sr (oM rfl (oD (stp_len Tryz.underlying22 rfl) rfl (oJ rfl (nn (cw_cond rfl (fun h1 => ?_) (fun h1 => ?_))))))))))
  · have := True.intro
    have e : (l.take 2000).length = 2000 := by have := of_decide_eq_true h1; rw [List.length_take]; omega
    refine cw_region (oM rfl (oD (stp_takeRaw (m := 2000) Tryz.underlying22 ts5 rfl rfl rfl (by have := of_decide_eq_true h1; omega)) rfl (oS rfl (nn (sr (oM rfl (oD (stp_build (cs := #[.slice ao 2000 cap, .int .i64 0]) (sevp_cons rfl sevp_nil) bt108_11) rfl (oE (stpU_box 0 rfl rfl) rfl ?_))))))))
    rintro _ _ ⟨b2, rfl, rfl⟩
    refine oS rfl (nn (cw_ret ?_))
    rw [e]
    exact kr Tryz.results52 (rT rfl) [0] ⟨_, rfl, rfl⟩
  have := True.intro
  have e : (l.take 2000).length = n := by have := of_decide_eq_false h1; rw [List.length_take]; omega
  refine cw_skip (kw_nx (sr (oM rfl (oD (stp_build (cs := #[.slice ao n cap, .int .i64 0]) (sevp_cons rfl sevp_nil) bt108_11) rfl (oE (stpU_box 1 rfl rfl) rfl ?_)))))
  rintro _ _ ⟨b3, rfl, rfl⟩
  refine oS rfl (nn (cw_ret ?_))
  rw [e]
  exact kr Tryz.results52 (rT rfl) [1] ⟨_, rfl, rfl⟩
end Go.Proofs.YtfnliecmagnkdabGreatDoor
