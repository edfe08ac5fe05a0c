/- The walks: functions of the program return what their pure functions say. Printed by a program (gen.py). -/
import Derived.Test.YtbfbfkpcabkchaaGreatDoorVp
import Derived.Test.YtbfbfkpcabkchaaGreatDoorVt
import Derived.Test.YtbfbfkpcabkchaaGreatDoorMan
import Derived.Test.YtbfbfkpcabkchaaGreatDoorMap
import Derived.Test.YtbfbfkpcabkchaaGreatDoorCpy
import Derived.Test.YtbfbfkpcabkchaaGreatDoorVe
set_option linter.unusedSimpArgs false
set_option linter.unusedVariables false
set_option linter.unusedSectionVars false
namespace Go.Proofs.YtbfbfkpcabkchaaGreatDoor
open Go.RowKit
theorem c_clip53 (w : World) (ao : Option Addr) (n cap : Nat) (hle : n ≤ cap) :
    Ct Tryz.prog 53 [.slice ao n cap] w [] (fun rv h' => rv = .slice ao n n ∧ h' = []) := by
  refine ct_of_cw Tryz.func53 rfl Tryz.ntmps53 rfl (Sat.refl _ _) ?_
  exact sr (oS rfl (nn (sr (oM rfl (oM rfl (oD (stp_len Tryz.underlying35 rfl) rfl (oM rfl (oD (stp_len Tryz.underlying35 rfl) rfl (oD (stp_clip Tryz.underlying35 ts4 hle rfl rfl rfl rfl rfl) rfl (oS rfl (nn (cw_ret (kw_ret Tryz.results53 (rT rfl) [] [] trivial (by decide) ⟨rfl, rfl⟩)))))))))))))

theorem c_clip64 (w : World) (ao : Option Addr) (n cap : Nat) (hle : n ≤ cap) :
    Ct Tryz.prog 64 [.slice ao n cap] w [] (fun rv h' => rv = .slice ao n n ∧ h' = []) := by
  refine ct_of_cw Tryz.func64 rfl Tryz.ntmps64 rfl (Sat.refl _ _) ?_
  exact sr (oS rfl (nn (sr (oM rfl (oM rfl (oD (stp_len Tryz.underlying23 rfl) rfl (oM rfl (oD (stp_len Tryz.underlying23 rfl) rfl (oD (stp_clip Tryz.underlying23 ts3 hle rfl rfl rfl rfl rfl) rfl (oS rfl (nn (cw_ret (kw_ret Tryz.results64 (rT rfl) [] [] trivial (by decide) ⟨rfl, rfl⟩)))))))))))))

theorem c_clip91 (w : World) (ao : Option Addr) (n cap : Nat) (hle : n ≤ cap) :
    Ct Tryz.prog 91 [.slice ao n cap] w [] (fun rv h' => rv = .slice ao n n ∧ h' = []) := by
  refine ct_of_cw Tryz.func91 rfl Tryz.ntmps91 rfl (Sat.refl _ _) ?_
  exact sr (oS rfl (nn (sr (oM rfl (oM rfl (oD (stp_len Tryz.underlying27 rfl) rfl (oM rfl (oD (stp_len Tryz.underlying27 rfl) rfl (oD (stp_clip Tryz.underlying27 ts104 hle rfl rfl rfl rfl rfl) rfl (oS rfl (nn (cw_ret (kw_ret Tryz.results91 (rT rfl) [] [] trivial (by decide) ⟨rfl, rfl⟩)))))))))))))

theorem c_clip93 (w : World) (ao : Option Addr) (n cap : Nat) (hle : n ≤ cap) :
    Ct Tryz.prog 93 [.slice ao n cap] w [] (fun rv h' => rv = .slice ao n n ∧ h' = []) := by
  refine ct_of_cw Tryz.func93 rfl Tryz.ntmps93 rfl (Sat.refl _ _) ?_
  exact sr (oS rfl (nn (sr (oM rfl (oM rfl (oD (stp_len Tryz.underlying30 rfl) rfl (oM rfl (oD (stp_len Tryz.underlying30 rfl) rfl (oD (stp_clip Tryz.underlying30 ts70 hle rfl rfl rfl rfl rfl) rfl (oS rfl (nn (cw_ret (kw_ret Tryz.results93 (rT rfl) [] [] trivial (by decide) ⟨rfl, rfl⟩)))))))))))))

theorem c_clip129 (w : World) (ao : Option Addr) (n cap : Nat) (hle : n ≤ cap) :
    Ct Tryz.prog 129 [.slice ao n cap] w [] (fun rv h' => rv = .slice ao n n ∧ h' = []) := by
  refine ct_of_cw Tryz.func129 rfl Tryz.ntmps129 rfl (Sat.refl _ _) ?_
  exact sr (oS rfl (nn (sr (oM rfl (oM rfl (oD (stp_len Tryz.underlying24 rfl) rfl (oM rfl (oD (stp_len Tryz.underlying24 rfl) rfl (oD (stp_clip Tryz.underlying24 ts57 hle rfl rfl rfl rfl rfl) rfl (oS rfl (nn (cw_ret (kw_ret Tryz.results129 (rT rfl) [] [] trivial (by decide) ⟨rfl, rfl⟩)))))))))))))

theorem c_open21 (w : World) (l : List UInt8) (ao : Option Addr) (n cap : Nat) (hl : n = l.length) (hle : l.length ≤ cap) :
    Ct Tryz.prog 21 [.slice ao n cap] w [] (fun rv h' => ∃ b, rv = .pointer (some ⟨b, 0, none⟩) ∧ h' = [(0, [(b, .cells #[.slice ao ((l.take 2000).length) cap, .int .i64 0] 95 (0, 0))])]) := by
  refine ct_of_cw Tryz.func21 rfl Tryz.ntmps21 rfl (Sat.refl _ _) ?_
  refine sr (oS rfl (nn (cw_seq (sr (oM rfl (oD (stp_len Tryz.underlying22 rfl) rfl (oJ rfl (nn (cw_cond rfl (fun h1 => ?_) (fun h1 => ?_))))))))))
  · have := True.intro
    have e : (l.take 2000).length = 2000 := by have := of_decide_eq_true h1; rw [List.length_take]; omega
    refine cw_region (oM rfl (oD (stp_takeRaw (m := 2000) Tryz.underlying22 ts5 rfl rfl rfl (by have := of_decide_eq_true h1; omega)) rfl (oS rfl (nn (sr (oM rfl (oD (stp_build (cs := #[.slice ao 2000 cap, .int .i64 0]) (sevp_cons rfl sevp_nil) bt95_23) rfl (oE (stpU_box 0 rfl rfl) rfl ?_))))))))
    rintro _ _ ⟨b2, rfl, rfl⟩
    refine oS rfl (nn (cw_ret ?_))
    rw [e]
    exact kr Tryz.results21 (rT rfl) [0] ⟨_, rfl, rfl⟩
  have := True.intro
  have e : (l.take 2000).length = n := by have := of_decide_eq_false h1; rw [List.length_take]; omega
  refine cw_skip (kw_nx (sr (oM rfl (oD (stp_build (cs := #[.slice ao n cap, .int .i64 0]) (sevp_cons rfl sevp_nil) bt95_23) rfl (oE (stpU_box 1 rfl rfl) rfl ?_)))))
  rintro _ _ ⟨b3, rfl, rfl⟩
  refine oS rfl (nn (cw_ret ?_))
  rw [e]
  exact kr Tryz.results21 (rT rfl) [1] ⟨_, rfl, rfl⟩
end Go.Proofs.YtbfbfkpcabkchaaGreatDoor
