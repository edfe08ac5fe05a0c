/- The walks: functions of the program return what their pure functions say. Printed by a program (gen.py). -/
import Derived.Test.YtkocamaoeojfhaaDoorGp
import Derived.Test.YtkocamaoeojfhaaDoorGt
import Derived.Test.YtkocamaoeojfhaaDoorMan
import Derived.Test.YtkocamaoeojfhaaDoorGwab
set_option linter.unusedSimpArgs false
set_option linter.unusedVariables false
set_option linter.unusedSectionVars false
namespace Go.Proofs.YtkocamaoeojfhaaDoor
open Go.RowKit
set_option maxHeartbeats 4000000 in
set_option maxRecDepth 20000 in
theorem c_s_FindPage (fl : Nat) (w : World) (a0 : T) (p0_0 : Option Addr) (n0_0 c0_0 : Nat) (p0_1 : Option Addr) (n0_1 c0_1 : Nat) (a1 : K) (hn0_0 : n0_0 = (a0.b).length) (hr0_0 : RO w (hkeys []) (RdL p0_0 c0_0 a0.b)) (hn0_1 : n0_1 = (a0.f).length) (hr0_1 : RO w (hkeys []) (RdL p0_1 c0_1 a0.f)) (r : Int × Int × Bool) (H0 : s_FindPage fl a0 a1 = some r) :
    Ct Tryd.prog 56 [.agg #[.slice p0_0 n0_0 c0_0, .slice p0_1 n0_1 c0_1], .agg #[.int .i64 a1.s, .int .i64 a1.p]] w [] (fun rv h' => rv = .tuple #[.int .i64 r.1, .int .i64 r.2.1, .bool r.2.2] ∧ h' = []) := by
  obtain rfl := hn0_0
  obtain rfl := hn0_1
  unfold s_FindPage at H0
  refine ct_of_cw Tryd.func56 rfl Tryd.ntmps56 rfl (Sat.refl _ _) ?_
  refine cw_seq ?_
  refine cw_region ?_
  refine ow_eff .none (stpU_box 0 rfl rfl) rfl ?_
  rintro _ _ ⟨b1, rfl, rfl⟩
  refine ow_eff .none (stpU_box 1 rfl rfl) rfl ?_
  rintro _ _ ⟨b2, rfl, rfl⟩
  refine ow_det .none (stp_assign rfl) rfl ?_
  refine ow_det .none (stp_assign rfl) rfl ?_
  refine ow_det .none (stp_assign rfl) rfl ?_
  refine ow_nil ?_
  refine kw_nx ?_
  refine cw_seq ?_
  refine cw_seq ?_
  refine cw_region ?_
  refine ow_det .none (stp_loadN (us := [_, _]) ts26 rfl (Cells.box (id := 0) rfl 2 rfl)) rfl ?_
  obtain ⟨x3, e3, H0⟩ := bind_some H0
  refine ow_eff .none (stpU_call (fun i => 2 + i) cf44 (fun w hw => c_s_TableValid fl w a0 p0_0 ((a0.b).length) c0_0 p0_1 ((a0.f).length) c0_1 rfl (RO.pass hr0_0 hw) rfl (RO.pass hr0_1 hw) x3 e3) (sevs_cons rfl sevs_nil)) rfl ?_
  rintro _ _ ⟨_, ⟨rfl, rfl⟩, rfl⟩
  refine ow_det .none (stp_not rfl) rfl ?_
  refine ow_det .none (stp_move rfl) rfl ?_
  obtain ⟨y4, ey4, H0⟩ := bind_some H0
  refine ow_cutY 4 16 y4 ?_ ?_
  · rcases Bool.eq_false_or_eq_true (!x3) with hy4 | hy4
    · have ey4 := cond_t ey4 hy4
      refine ow_off (.some rfl hy4) rfl ?_
      refine ow_off (.some rfl hy4) rfl ?_
      refine ow_off (.some rfl hy4) rfl ?_
      refine ow_det .none (stp_pick_t rfl hy4 rfl) rfl ?_
      obtain rfl := Option.some.inj ey4
      exact ow_nil (kw_jy (.top rfl (.cons rfl (.cons rfl (.cons rfl (.cons rfl (.refl _)))))) (.refl _))
    · have ey4 := cond_f ey4 hy4
      refine ow_det (.some rfl hy4) (stp_loadN (us := [_, _]) ts28 rfl (Cells.box (id := 1) rfl 2 rfl)) rfl ?_
      obtain ⟨x5, e5, ey4⟩ := bind_some ey4
      refine ow_eff (.some rfl hy4) (stpU_call (fun i => 2 + i) cf45 (fun w hw => c_s_KeyValid fl w a1 x5 e5) (sevs_cons rfl sevs_nil)) rfl ?_
      rintro _ _ ⟨_, ⟨rfl, rfl⟩, rfl⟩
      refine ow_det (.some rfl hy4) (stp_not rfl) rfl ?_
      refine ow_det .none (stp_pick_f rfl hy4 rfl) rfl ?_
      obtain rfl := Option.some.inj ey4
      exact ow_nil (kw_jy (.top rfl (.cons rfl (.cons rfl (.cons rfl (.cons rfl (.refl _)))))) (.refl _))
  · refine ow_nil ?_
    refine kw_nx ?_
    refine cw_cond rfl (fun h6 => ?_) (fun h6 => ?_)
    · have H0 := cond_t H0 h6
      refine cw_seq ?_
      refine cw_region ?_
      refine ow_det .none (stp_assign rfl) rfl ?_
      refine ow_det .none (stp_assign rfl) rfl ?_
      refine ow_det .none (stp_assign rfl) rfl ?_
      refine ow_nil ?_
      refine kw_nx ?_
      refine cw_ret ?_
      refine kw_nx_ret ?_
      have q0 := Option.some.inj H0
      subst q0
      exact kw_ret Tryd.results56 (.cons (.tmp rfl) (.cons (.tmp rfl) (.cons (.tmp rfl) .nil))) [] [] trivial (by decide) ⟨rfl, rfl⟩
    · have H0 := cond_f H0 h6
      refine cw_skip ?_
      refine kw_nx ?_
      refine cw_seq ?_
      refine cw_region ?_
      refine ow_det .none (stp_loadN (us := [_, _]) ts26 rfl (Cells.box (id := 0) rfl 2 rfl)) rfl ?_
      refine ow_det .none (stp_loadN (us := [_, _]) ts28 rfl (Cells.box (id := 1) rfl 2 rfl)) rfl ?_
      obtain ⟨x7, e7, H0⟩ := bind_some H0
      refine ow_eff .none (stpU_call (fun i => 2 + i) cf47 (fun w hw => c_s_l3Find fl w a0 p0_0 ((a0.b).length) c0_0 p0_1 ((a0.f).length) c0_1 a1 rfl (RO.pass hr0_0 hw) rfl (RO.pass hr0_1 hw) x7 e7) (sevs_cons rfl (sevs_cons rfl sevs_nil))) rfl ?_
      rintro _ _ ⟨_, ⟨rfl, rfl⟩, rfl⟩
      refine ow_det .none (stp_move rfl) rfl ?_
      refine ow_det .none (stp_extract rfl rfl) rfl ?_
      refine ow_det .none (stp_extract rfl rfl) rfl ?_
      refine ow_det .none (stp_assign rfl) rfl ?_
      refine ow_det .none (stp_assign rfl) rfl ?_
      refine ow_nil ?_
      refine kw_nx ?_
      refine cw_seq ?_
      refine cw_seq ?_
      refine cw_region ?_
      refine ow_det .none (stp_move rfl) rfl ?_
      refine ow_det .none (stp_lss rfl rfl) rfl ?_
      refine ow_nil ?_
      refine kw_nx ?_
      refine cw_cond rfl (fun h8 => ?_) (fun h8 => ?_)
      · have H0 := cond_t H0 h8
        refine cw_seq ?_
        refine cw_region ?_
        refine ow_det .none (stp_move rfl) rfl ?_
        refine ow_det .none (stp_assign rfl) rfl ?_
        refine ow_det .none (stp_assign rfl) rfl ?_
        refine ow_det .none (stp_assign rfl) rfl ?_
        refine ow_nil ?_
        refine kw_nx ?_
        refine cw_ret ?_
        refine kw_nx_ret ?_
        have q0 := Option.some.inj H0
        subst q0
        exact kw_ret Tryd.results56 (.cons (.tmp rfl) (.cons (.tmp rfl) (.cons (.tmp rfl) .nil))) [] [] trivial (by decide) ⟨rfl, rfl⟩
      · have H0 := cond_f H0 h8
        refine cw_skip ?_
        refine kw_nx ?_
        refine cw_seq ?_
        refine cw_region ?_
        refine ow_det .none (stp_move rfl) rfl ?_
        refine ow_det .none (stp_move rfl) rfl ?_
        refine ow_det .none (stp_assign rfl) rfl ?_
        refine ow_det .none (stp_assign rfl) rfl ?_
        refine ow_det .none (stp_assign rfl) rfl ?_
        refine ow_nil ?_
        refine kw_nx ?_
        refine cw_ret ?_
        have q0 := Option.some.inj H0
        subst q0
        exact kw_ret Tryd.results56 (.cons (.tmp rfl) (.cons (.tmp rfl) (.cons (.tmp rfl) .nil))) [] [] trivial (by decide) ⟨rfl, rfl⟩
end Go.Proofs.YtkocamaoeojfhaaDoor
