/- The walks: each function of the program returns what its pure function says. Printed by a program (gen.py). -/
import Derived.Test.YtkocamaoeojfhaaDoorGp
import Derived.Test.YtkocamaoeojfhaaDoorGt
import Derived.Test.YtkocamaoeojfhaaDoorMan
set_option linter.unusedSimpArgs false
set_option linter.unusedVariables false
set_option linter.unusedSectionVars false
namespace Go.Proofs.YtkocamaoeojfhaaDoor
open Go.RowKit
set_option maxHeartbeats 4000000 in
set_option maxRecDepth 20000 in
theorem c_clip79 (w : World) (ao : Option Addr) (n cap : Nat) (hle : n ≤ cap) :
    Ct Tryd.prog 79 [.slice ao n cap] w [] (fun rv h' => rv = .slice ao n n ∧ h' = []) := by
  refine ct_of_cw Tryd.func79 rfl Tryd.ntmps79 rfl (Sat.refl _ _) ?_
  refine cw_seq ?_
  refine cw_region ?_
  refine ow_det .none (stp_assign rfl) rfl ?_
  refine ow_nil ?_
  refine kw_nx ?_
  refine cw_seq ?_
  refine cw_region ?_
  refine ow_det .none (stp_move rfl) rfl ?_
  refine ow_det .none (stp_move rfl) rfl ?_
  refine ow_det .none (stp_len Tryd.underlying23 rfl) rfl ?_
  refine ow_det .none (stp_move rfl) rfl ?_
  refine ow_det .none (stp_len Tryd.underlying23 rfl) rfl ?_
  refine ow_det .none (stp_clip Tryd.underlying23 ts3 hle rfl rfl rfl rfl rfl) rfl ?_
  refine ow_det .none (stp_assign rfl) rfl ?_
  refine ow_nil ?_
  refine kw_nx ?_
  refine cw_ret ?_
  exact kw_ret Tryd.results79 (.cons (.tmp rfl) .nil) [] [] trivial (by decide) ⟨rfl, rfl⟩

set_option maxHeartbeats 4000000 in
set_option maxRecDepth 20000 in
theorem c_clip81 (w : World) (ao : Option Addr) (n cap : Nat) (hle : n ≤ cap) :
    Ct Tryd.prog 81 [.slice ao n cap] w [] (fun rv h' => rv = .slice ao n n ∧ h' = []) := by
  refine ct_of_cw Tryd.func81 rfl Tryd.ntmps81 rfl (Sat.refl _ _) ?_
  refine cw_seq ?_
  refine cw_region ?_
  refine ow_det .none (stp_assign rfl) rfl ?_
  refine ow_nil ?_
  refine kw_nx ?_
  refine cw_seq ?_
  refine cw_region ?_
  refine ow_det .none (stp_move rfl) rfl ?_
  refine ow_det .none (stp_move rfl) rfl ?_
  refine ow_det .none (stp_len Tryd.underlying24 rfl) rfl ?_
  refine ow_det .none (stp_move rfl) rfl ?_
  refine ow_det .none (stp_len Tryd.underlying24 rfl) rfl ?_
  refine ow_det .none (stp_clip Tryd.underlying24 ts53 hle rfl rfl rfl rfl rfl) rfl ?_
  refine ow_det .none (stp_assign rfl) rfl ?_
  refine ow_nil ?_
  refine kw_nx ?_
  refine cw_ret ?_
  exact kw_ret Tryd.results81 (.cons (.tmp rfl) .nil) [] [] trivial (by decide) ⟨rfl, rfl⟩

set_option maxHeartbeats 4000000 in
set_option maxRecDepth 20000 in
theorem c_l_szIntS (fl : Nat) (w : World) (a0 : (List Int)) (p0_0 : Option Addr) (n0_0 c0_0 : Nat) (a1 : Int) (hn0_0 : n0_0 = (a0).length) (hr0_0 : RO w (hkeys []) (RdL p0_0 c0_0 a0)) (r : Int) (H0 : l_szIntS fl a0 a1 = some r) :
    Ct Tryd.prog 54 [.slice p0_0 n0_0 c0_0, .int .i64 a1] w [] (fun rv h' => rv = .int .i64 r ∧ h' = []) := by
  obtain rfl := hn0_0
  unfold l_szIntS at H0
  refine ct_of_cw Tryd.func54 rfl Tryd.ntmps54 rfl (Sat.refl _ _) ?_
  refine cw_seq ?_
  refine cw_region ?_
  refine ow_det .none (stp_assign rfl) rfl ?_
  refine ow_nil ?_
  refine kw_nx ?_
  refine cw_seq ?_
  refine cw_region ?_
  refine ow_det .none (stp_move rfl) rfl ?_
  refine ow_det .none (stp_move rfl) rfl ?_
  refine ow_det .none (stp_len Tryd.underlying23 rfl) rfl ?_
  obtain ⟨x1, e1, H0⟩ := bind_some H0
  refine ow_det .none (stp_sub rfl rfl e1) rfl ?_
  refine ow_det .none (stp_assign rfl) rfl ?_
  refine ow_nil ?_
  refine kw_nx ?_
  refine cw_seq ?_
  refine cw_seq ?_
  refine cw_region ?_
  refine ow_det .none (stp_move rfl) rfl ?_
  refine ow_det .none (stp_lss rfl rfl) rfl ?_
  refine ow_nil ?_
  refine kw_nx ?_
  refine cw_cond rfl (fun h2 => ?_) (fun h2 => ?_)
  · have H0 := cond_t H0 h2
    refine cw_seq ?_
    refine cw_region ?_
    refine ow_det .none (stp_assign rfl) rfl ?_
    refine ow_nil ?_
    refine kw_nx ?_
    refine cw_ret ?_
    refine kw_nx_ret ?_
    have q0 := Option.some.inj H0
    subst q0
    exact kw_ret Tryd.results54 (.cons (.tmp rfl) .nil) [] [] trivial (by decide) ⟨rfl, rfl⟩
  · have H0 := cond_f H0 h2
    refine cw_skip ?_
    refine kw_nx ?_
    refine cw_seq ?_
    refine cw_region ?_
    refine ow_det .none (stp_move rfl) rfl ?_
    refine ow_det .none (stp_assign rfl) rfl ?_
    refine ow_nil ?_
    refine kw_nx ?_
    refine cw_ret ?_
    have q0 := Option.some.inj H0
    subst q0
    exact kw_ret Tryd.results54 (.cons (.tmp rfl) .nil) [] [] trivial (by decide) ⟨rfl, rfl⟩

set_option maxHeartbeats 4000000 in
set_option maxRecDepth 20000 in
theorem c_l_szFrameS (fl : Nat) (w : World) (a0 : (List F)) (p0_0 : Option Addr) (n0_0 c0_0 : Nat) (a1 : Int) (hn0_0 : n0_0 = (a0).length) (hr0_0 : RO w (hkeys []) (RdL p0_0 c0_0 a0)) (r : Int) (H0 : l_szFrameS fl a0 a1 = some r) :
    Ct Tryd.prog 55 [.slice p0_0 n0_0 c0_0, .int .i64 a1] w [] (fun rv h' => rv = .int .i64 r ∧ h' = []) := by
  obtain rfl := hn0_0
  unfold l_szFrameS at H0
  refine ct_of_cw Tryd.func55 rfl Tryd.ntmps55 rfl (Sat.refl _ _) ?_
  refine cw_seq ?_
  refine cw_region ?_
  refine ow_det .none (stp_assign rfl) rfl ?_
  refine ow_nil ?_
  refine kw_nx ?_
  refine cw_seq ?_
  refine cw_region ?_
  refine ow_det .none (stp_move rfl) rfl ?_
  refine ow_det .none (stp_move rfl) rfl ?_
  refine ow_det .none (stp_len Tryd.underlying39 rfl) rfl ?_
  obtain ⟨x1, e1, H0⟩ := bind_some H0
  refine ow_det .none (stp_sub rfl rfl e1) rfl ?_
  refine ow_det .none (stp_assign rfl) rfl ?_
  refine ow_nil ?_
  refine kw_nx ?_
  refine cw_seq ?_
  refine cw_seq ?_
  refine cw_region ?_
  refine ow_det .none (stp_move rfl) rfl ?_
  refine ow_det .none (stp_lss rfl rfl) rfl ?_
  refine ow_nil ?_
  refine kw_nx ?_
  refine cw_cond rfl (fun h2 => ?_) (fun h2 => ?_)
  · have H0 := cond_t H0 h2
    refine cw_seq ?_
    refine cw_region ?_
    refine ow_det .none (stp_assign rfl) rfl ?_
    refine ow_nil ?_
    refine kw_nx ?_
    refine cw_ret ?_
    refine kw_nx_ret ?_
    have q0 := Option.some.inj H0
    subst q0
    exact kw_ret Tryd.results55 (.cons (.tmp rfl) .nil) [] [] trivial (by decide) ⟨rfl, rfl⟩
  · have H0 := cond_f H0 h2
    refine cw_skip ?_
    refine kw_nx ?_
    refine cw_seq ?_
    refine cw_region ?_
    refine ow_det .none (stp_move rfl) rfl ?_
    refine ow_det .none (stp_assign rfl) rfl ?_
    refine ow_nil ?_
    refine kw_nx ?_
    refine cw_ret ?_
    have q0 := Option.some.inj H0
    subst q0
    exact kw_ret Tryd.results55 (.cons (.tmp rfl) .nil) [] [] trivial (by decide) ⟨rfl, rfl⟩

set_option maxHeartbeats 4000000 in
set_option maxRecDepth 20000 in
theorem c_l_szTable (fl : Nat) (w : World) (a0 : T) (p0_0 : Option Addr) (n0_0 c0_0 : Nat) (p0_1 : Option Addr) (n0_1 c0_1 : Nat) (a1 : Int) (hn0_0 : n0_0 = (a0.b).length) (hr0_0 : RO w (hkeys []) (RdL p0_0 c0_0 a0.b)) (hn0_1 : n0_1 = (a0.f).length) (hr0_1 : RO w (hkeys []) (RdL p0_1 c0_1 a0.f)) (r : Int) (H0 : l_szTable fl a0 a1 = some r) :
    Ct Tryd.prog 19 [.agg #[.slice p0_0 n0_0 c0_0, .slice p0_1 n0_1 c0_1], .int .i64 a1] w [] (fun rv h' => rv = .int .i64 r ∧ h' = []) := by
  obtain rfl := hn0_0
  obtain rfl := hn0_1
  unfold l_szTable at H0
  refine ct_of_cw Tryd.func19 rfl Tryd.ntmps19 rfl (Sat.refl _ _) ?_
  refine cw_seq ?_
  refine cw_region ?_
  refine ow_eff .none (stpU_box 0 rfl rfl) rfl ?_
  rintro _ _ ⟨b1, rfl, rfl⟩
  refine ow_det .none (stp_assign rfl) rfl ?_
  refine ow_nil ?_
  refine kw_nx ?_
  refine cw_seq ?_
  refine cw_region ?_
  refine ow_det .none (stp_fieldAddr (j := 0) Tryd.underlying41 rfl ts23 rfl rfl rfl) rfl ?_
  refine ow_det .none (stp_load1 ts23 rfl (Cells.box (id := 0) rfl 1 rfl)) rfl ?_
  refine ow_det .none (stp_move rfl) rfl ?_
  obtain ⟨x2, e2, H0⟩ := bind_some H0
  refine ow_eff .none (stpU_call (fun i => 1 + i) cf54 (fun w hw => c_l_szIntS fl w a0.b p0_0 ((a0.b).length) c0_0 a1 rfl (RO.pass hr0_0 hw) x2 e2) (sevs_cons rfl (sevs_cons rfl sevs_nil))) rfl ?_
  rintro _ _ ⟨_, ⟨rfl, rfl⟩, rfl⟩
  refine ow_det .none (stp_assign rfl) rfl ?_
  refine ow_nil ?_
  refine kw_nx ?_
  refine cw_seq ?_
  refine cw_seq ?_
  refine cw_region ?_
  refine ow_det .none (stp_move rfl) rfl ?_
  refine ow_det .none (stp_lss rfl rfl) rfl ?_
  refine ow_nil ?_
  refine kw_nx ?_
  refine cw_cond rfl (fun h3 => ?_) (fun h3 => ?_)
  · have H0 := cond_t H0 h3
    refine cw_seq ?_
    refine cw_region ?_
    refine ow_det .none (stp_assign rfl) rfl ?_
    refine ow_nil ?_
    refine kw_nx ?_
    refine cw_ret ?_
    refine kw_nx_ret ?_
    have q0 := Option.some.inj H0
    subst q0
    exact kw_ret Tryd.results19 (.cons (.tmp rfl) .nil) [] [] trivial (by decide) ⟨rfl, rfl⟩
  · have H0 := cond_f H0 h3
    refine cw_skip ?_
    refine kw_nx ?_
    refine cw_seq ?_
    refine cw_region ?_
    refine ow_det .none (stp_fieldAddr (j := 1) Tryd.underlying41 rfl ts39 rfl rfl rfl) rfl ?_
    refine ow_det .none (stp_load1 ts39 rfl (Cells.box (id := 0) rfl 1 rfl)) rfl ?_
    refine ow_det .none (stp_move rfl) rfl ?_
    obtain ⟨x4, e4, H0⟩ := bind_some H0
    refine ow_eff .none (stpU_call (fun i => 1 + i) cf55 (fun w hw => c_l_szFrameS fl w a0.f p0_1 ((a0.f).length) c0_1 x2 rfl (RO.pass hr0_1 hw) x4 e4) (sevs_cons rfl (sevs_cons rfl sevs_nil))) rfl ?_
    rintro _ _ ⟨_, ⟨rfl, rfl⟩, rfl⟩
    refine ow_det .none (stp_assign rfl) rfl ?_
    refine ow_nil ?_
    refine kw_nx ?_
    refine cw_seq ?_
    refine cw_seq ?_
    refine cw_region ?_
    refine ow_det .none (stp_move rfl) rfl ?_
    refine ow_det .none (stp_lss rfl rfl) rfl ?_
    refine ow_nil ?_
    refine kw_nx ?_
    refine cw_cond rfl (fun h5 => ?_) (fun h5 => ?_)
    · have H0 := cond_t H0 h5
      refine cw_seq ?_
      refine cw_region ?_
      refine ow_det .none (stp_assign rfl) rfl ?_
      refine ow_nil ?_
      refine kw_nx ?_
      refine cw_ret ?_
      refine kw_nx_ret ?_
      have q0 := Option.some.inj H0
      subst q0
      exact kw_ret Tryd.results19 (.cons (.tmp rfl) .nil) [] [] trivial (by decide) ⟨rfl, rfl⟩
    · have H0 := cond_f H0 h5
      refine cw_skip ?_
      refine kw_nx ?_
      refine cw_seq ?_
      refine cw_region ?_
      refine ow_det .none (stp_move rfl) rfl ?_
      refine ow_det .none (stp_assign rfl) rfl ?_
      refine ow_nil ?_
      refine kw_nx ?_
      refine cw_ret ?_
      have q0 := Option.some.inj H0
      subst q0
      exact kw_ret Tryd.results19 (.cons (.tmp rfl) .nil) [] [] trivial (by decide) ⟨rfl, rfl⟩

set_option maxHeartbeats 4000000 in
set_option maxRecDepth 20000 in
theorem c_l_toIntS (fl : Nat) (w : World) (a0 : (List Int)) (p0_0 : Option Addr) (n0_0 c0_0 : Nat) (hn0_0 : n0_0 = (a0).length) (hr0_0 : RO w (hkeys []) (RdL p0_0 c0_0 a0)) (r : (List Int)) (H0 : l_toIntS fl a0 = some r) :
    Ct Tryd.prog 58 [.slice p0_0 n0_0 c0_0] w [] (fun rv h' => ∃ (x0 : Option Addr) (y0 z0 : Nat) (C0 : Res), rv = .slice x0 y0 z0 ∧ h' = [(0, C0)] ∧ y0 = (r).length ∧ OwnC 3 x0 z0 r C0) := by
  obtain rfl := hn0_0
  unfold l_toIntS at H0
  refine ct_of_cw Tryd.func58 rfl Tryd.ntmps58 rfl (Sat.refl _ _) ?_
  refine cw_seq ?_
  refine cw_region ?_
  refine ow_det .none (stp_assign rfl) rfl ?_
  refine ow_nil ?_
  refine kw_nx ?_
  refine cw_seq ?_
  refine cw_region ?_
  refine ow_det .none (stp_move rfl) rfl ?_
  refine ow_det .none (stp_len Tryd.underlying23 rfl) rfl ?_
  obtain ⟨x1, e1, H0⟩ := bind_some H0
  refine ow_eff .none (stpU_make sl23 rfl 0 rfl rfl e1) rfl ?_
  rintro _ _ ⟨p2, C3, rfl, rfl, o3⟩
  refine ow_det .none (stp_assign rfl) rfl ?_
  refine ow_nil ?_
  refine kw_nx ?_
  refine cw_seq ?_
  refine cw_seq ?_
  refine cw_region ?_
  refine ow_det .none (stp_assign rfl) rfl ?_
  refine ow_nil ?_
  refine kw_nx ?_
  obtain ⟨o0_0, eo0_0, H0⟩ := bind_some H0
  refine cw_join (ι := (List Int) × Int × Res) (fun | (v4, v6, C5) => o0_0 = .out (v4, v6) ∧ x1 = (v4).length ∧ OwnC (α := Int) 3 p2 x1 v4 C5) (fun | (v4, v6, C5) => [(0, .slice p0_0 ((a0).length) c0_0), (3, .slice p2 x1 x1), (4, .int .i64 v6)]) (fun | (v4, v6, C5) => [(0, C5)]) ?_ ?_
  · refine cw_block ?_
    refine cw_loopS (ι := Nat × (List Int) × Int × Res) (js := [0]) (fun x => x.1) (fun | (fuel, v4, v6, C5) => l_toIntS_L0 fl a0 fuel v4 v6 = some o0_0 ∧ x1 = (v4).length ∧ OwnC (α := Int) 3 p2 x1 v4 C5) (fun | (_, v4, v6, C5) => [(0, .slice p0_0 ((a0).length) c0_0), (3, .slice p2 x1 x1), (4, .int .i64 v6)]) (fun | (_, v4, v6, C5) => [(0, C5)]) (fl, (List.replicate x1 (0 : Int)), 0, C3) ⟨eo0_0, (by simp), o3⟩ ⟨rfl, rfl, rfl, trivial⟩ ⟨0, [], rfl, rfl, trivial⟩ (by decide) ?_
    rintro ⟨fuel, v4, v6, C5⟩ ⟨H1, hl5, o5⟩
    have H1 : l_toIntS_L0 fl a0 fuel v4 v6 = some o0_0 := H1
    rcases fuel with _ | fuel
    · rw [l_toIntS_L0.eq_1] at H1; cases H1
    rw [l_toIntS_L0.eq_2] at H1
    refine CW.sub (s' := [(0, .slice p0_0 ((a0).length) c0_0), (3, .slice p2 x1 x1), (4, .int .i64 v6)]) (h' := [(0, C5)]) ?_ ⟨rfl, rfl, rfl, trivial⟩ ⟨rfl, trivial⟩
    refine cw_seq ?_
    refine cw_seq ?_
    refine cw_region ?_
    refine ow_det .none (stp_move rfl) rfl ?_
    refine ow_det .none (stp_move rfl) rfl ?_
    refine ow_det .none (stp_len Tryd.underlying23 rfl) rfl ?_
    refine ow_det .none (stp_lss rfl rfl) rfl ?_
    refine ow_nil ?_
    refine kw_nx ?_
    refine cw_cond rfl (fun h7 => ?_) (fun h7 => ?_)
    · have H1 := cond_t H1 h7
      refine cw_skip ?_
      refine kw_nx ?_
      refine cw_seq ?_
      refine cw_block ?_
      refine cw_region ?_
      refine ow_det .none (stp_move rfl) rfl ?_
      refine ow_det .none (stp_move rfl) rfl ?_
      refine ow_det .none (stp_move rfl) rfl ?_
      refine ow_det .none (stp_move rfl) rfl ?_
      obtain ⟨x8, e8, H1⟩ := bind_some H1
      refine ow_det .none (stp_indexAddr Tryd.underlying23 ts3 (by decide) rfl rfl rfl (Rdb.ro hr0_0) e8) rfl ?_
      refine ow_det .none (stp_load1 ts3 rfl (Cells.el (Rdb.ro hr0_0) (by decide) e8 0 1 rfl)) rfl ?_
      obtain ⟨x9, e9, H1⟩ := bind_some H1
      refine ow_det .none (stp_indexAddr Tryd.underlying23 ts3 (by decide) rfl (by simp [hl5]) rfl (Rdb.own (id := 0) rfl o5) e9) rfl ?_
      refine ow_eff0 .none (stpU_storeEl (id := 0) (i := 0) x8 (by decide) ts3 rfl rfl rfl o5 e9 rfl rfl rfl rfl) ?_
      rintro _ _ ⟨C10, rfl, o10⟩
      refine ow_nil ?_
      refine kw_bl_normal ?_
      refine kw_nx ?_
      refine cw_region ?_
      refine ow_det .none (stp_move rfl) rfl ?_
      obtain ⟨x11, e11, H1⟩ := bind_some H1
      refine ow_det .none (stp_add rfl rfl e11) rfl ?_
      refine ow_det .none (stp_assign rfl) rfl ?_
      refine ow_nil ?_
      exact kw_lqS (js := [0]) (fuel, (v4.set (Int.toNat v6) x8), x11, C10) ⟨H1, (by simp [hl5]), o10⟩ (Nat.lt_succ_self _) ⟨rfl, rfl, rfl, trivial⟩ ⟨0, [], rfl, rfl, trivial⟩ (by decide)
    · have H1 := cond_f H1 h7
      refine cw_exit ?_
      refine kw_nx_exit ?_
      refine kw_lq_exit ?_
      refine kw_bl ?_
      have q1 := Option.some.inj H1
      subst q1
      exact kw_joinS (js := [0]) (v4, v6, C5) ⟨rfl, (by simp [hl5]), o5⟩ ⟨rfl, rfl, rfl, trivial⟩ ⟨0, [], rfl, rfl, trivial⟩ (by decide)
  · rintro ⟨v4, v6, C5⟩ ⟨rfl, hl5, o5⟩
    refine KW.sub (s' := [(0, .slice p0_0 ((a0).length) c0_0), (3, .slice p2 x1 x1), (4, .int .i64 v6)]) (h' := [(0, C5)]) ?_ ⟨rfl, rfl, rfl, trivial⟩ ⟨rfl, trivial⟩
    refine kw_nx ?_
    refine cw_seq ?_
    refine cw_region ?_
    refine ow_det .none (stp_move rfl) rfl ?_
    refine ow_det .none (stp_assign rfl) rfl ?_
    refine ow_nil ?_
    refine kw_nx ?_
    refine cw_ret ?_
    have q0 := Option.some.inj H0
    subst q0
    exact kw_ret Tryd.results58 (.cons (.tmp rfl) .nil) [(0, C5)] [0] ⟨0, [], rfl, rfl, trivial⟩ (by decide) ⟨p2, x1, x1, C5, rfl, rfl, (by simp [hl5]), o5⟩

set_option maxHeartbeats 4000000 in
set_option maxRecDepth 20000 in
theorem c_l_toKey (fl : Nat) (w : World) (a0 : K) (r : K) (H0 : l_toKey fl a0 = some r) :
    Ct Tryd.prog 22 [.agg #[.int .i64 a0.s, .int .i64 a0.p]] w [] (fun rv h' => rv = .agg #[.int .i64 r.s, .int .i64 r.p] ∧ h' = []) := by
  unfold l_toKey at H0
  refine ct_of_cw Tryd.func22 rfl Tryd.ntmps22 rfl (Sat.refl _ _) ?_
  refine cw_seq ?_
  refine cw_region ?_
  refine ow_eff .none (stpU_box 0 rfl rfl) rfl ?_
  rintro _ _ ⟨b1, rfl, rfl⟩
  refine ow_eff .none (stpU_alloc 1 tz28 rfl) rfl ?_
  rintro _ _ ⟨b2, rfl, rfl⟩
  refine ow_nil ?_
  refine kw_nx ?_
  refine cw_seq ?_
  refine cw_region ?_
  refine ow_eff .none (stpU_alloc 2 tz28 rfl) rfl ?_
  rintro _ _ ⟨b3, rfl, rfl⟩
  refine ow_nil ?_
  refine kw_nx ?_
  refine cw_seq ?_
  refine cw_region ?_
  refine ow_det .none (stp_fieldAddr (j := 0) Tryd.underlying42 rfl ts3 rfl rfl rfl) rfl ?_
  refine ow_det .none (stp_load1 ts3 rfl (Cells.box (id := 0) rfl 1 rfl)) rfl ?_
  refine ow_det .none (stp_fieldAddr (j := 0) Tryd.underlying28 rfl ts3 rfl rfl rfl) rfl ?_
  refine ow_eff0 .none (stpU_store (id := 2) (cs' := [.int .i64 a0.s, .int .i64 0]) ts3 rfl rfl rfl rfl rfl rfl rfl) ?_
  rintro _ _ rfl
  refine ow_nil ?_
  refine kw_nx ?_
  refine cw_seq ?_
  refine cw_region ?_
  refine ow_det .none (stp_fieldAddr (j := 1) Tryd.underlying42 rfl ts3 rfl rfl rfl) rfl ?_
  refine ow_det .none (stp_load1 ts3 rfl (Cells.box (id := 0) rfl 1 rfl)) rfl ?_
  refine ow_det .none (stp_fieldAddr (j := 1) Tryd.underlying28 rfl ts3 rfl rfl rfl) rfl ?_
  refine ow_eff0 .none (stpU_store (id := 2) (cs' := [.int .i64 a0.s, .int .i64 a0.p]) ts3 rfl rfl rfl rfl rfl rfl rfl) ?_
  rintro _ _ rfl
  refine ow_nil ?_
  refine kw_nx ?_
  refine cw_seq ?_
  refine cw_region ?_
  refine ow_det .none (stp_loadN (us := [_, _]) ts28 rfl (Cells.box (id := 2) rfl 2 rfl)) rfl ?_
  refine ow_eff0 .none (stpU_store (id := 1) (cs' := [.int .i64 a0.s, .int .i64 a0.p]) ts28 rfl rfl rfl rfl rfl rfl rfl) ?_
  rintro _ _ rfl
  refine ow_nil ?_
  refine kw_nx ?_
  refine cw_ret ?_
  have q0 := Option.some.inj H0
  subst q0
  exact kw_ret Tryd.results22 (.cons (.cellN (us := [_, _]) ts28 rfl (Cells.box (id := 1) rfl 2 rfl)) .nil) [] [] trivial (by decide) ⟨rfl, rfl⟩

set_option maxHeartbeats 4000000 in
set_option maxRecDepth 20000 in
theorem c_l_toFrame (fl : Nat) (w : World) (a0 : F) (r : F) (H0 : l_toFrame fl a0 = some r) :
    Ct Tryd.prog 89 [.agg #[.bool a0.u, .int .i64 a0.k.s, .int .i64 a0.k.p, .int .i64 a0.r, .int .i64 a0.nx]] w [] (fun rv h' => rv = .agg #[.bool r.u, .int .i64 r.k.s, .int .i64 r.k.p, .int .i64 r.r, .int .i64 r.nx] ∧ h' = []) := by
  unfold l_toFrame at H0
  refine ct_of_cw Tryd.func89 rfl Tryd.ntmps89 rfl (Sat.refl _ _) ?_
  refine cw_seq ?_
  refine cw_region ?_
  refine ow_eff .none (stpU_box 0 rfl rfl) rfl ?_
  rintro _ _ ⟨b1, rfl, rfl⟩
  refine ow_eff .none (stpU_alloc 1 tz53 rfl) rfl ?_
  rintro _ _ ⟨b2, rfl, rfl⟩
  refine ow_nil ?_
  refine kw_nx ?_
  refine cw_seq ?_
  refine cw_region ?_
  refine ow_eff .none (stpU_alloc 2 tz53 rfl) rfl ?_
  rintro _ _ ⟨b3, rfl, rfl⟩
  refine ow_nil ?_
  refine kw_nx ?_
  refine cw_seq ?_
  refine cw_region ?_
  refine ow_det .none (stp_fieldAddr (j := 0) Tryd.underlying108 rfl ts4 rfl rfl rfl) rfl ?_
  refine ow_det .none (stp_load1 ts4 rfl (Cells.box (id := 0) rfl 1 rfl)) rfl ?_
  refine ow_det .none (stp_fieldAddr (j := 0) Tryd.underlying53 rfl ts4 rfl rfl rfl) rfl ?_
  refine ow_eff0 .none (stpU_store (id := 2) (cs' := [.bool a0.u, .int .i64 0, .int .i64 0, .int .i64 0, .int .i64 0]) ts4 rfl rfl rfl rfl rfl rfl rfl) ?_
  rintro _ _ rfl
  refine ow_nil ?_
  refine kw_nx ?_
  refine cw_seq ?_
  refine cw_region ?_
  refine ow_det .none (stp_fieldAddr (j := 1) Tryd.underlying108 rfl ts42 rfl rfl rfl) rfl ?_
  refine ow_det .none (stp_loadN (us := [_, _]) ts42 rfl (Cells.box (id := 0) rfl 2 rfl)) rfl ?_
  obtain ⟨x4, e4, H0⟩ := bind_some H0
  refine ow_eff .none (stpU_call (fun i => 3 + i) cf22 (fun w hw => c_l_toKey fl w a0.k x4 e4) (sevs_cons rfl sevs_nil)) rfl ?_
  rintro _ _ ⟨_, ⟨rfl, rfl⟩, rfl⟩
  refine ow_det .none (stp_fieldAddr (j := 1) Tryd.underlying53 rfl ts28 rfl rfl rfl) rfl ?_
  refine ow_eff0 .none (stpU_store (id := 2) (cs' := [.bool a0.u, .int .i64 x4.s, .int .i64 x4.p, .int .i64 0, .int .i64 0]) ts28 rfl rfl rfl rfl rfl rfl rfl) ?_
  rintro _ _ rfl
  refine ow_nil ?_
  refine kw_nx ?_
  refine cw_seq ?_
  refine cw_region ?_
  refine ow_det .none (stp_fieldAddr (j := 3) Tryd.underlying108 rfl ts3 rfl rfl rfl) rfl ?_
  refine ow_det .none (stp_load1 ts3 rfl (Cells.box (id := 0) rfl 1 rfl)) rfl ?_
  refine ow_det .none (stp_fieldAddr (j := 3) Tryd.underlying53 rfl ts3 rfl rfl rfl) rfl ?_
  refine ow_eff0 .none (stpU_store (id := 2) (cs' := [.bool a0.u, .int .i64 x4.s, .int .i64 x4.p, .int .i64 a0.r, .int .i64 0]) ts3 rfl rfl rfl rfl rfl rfl rfl) ?_
  rintro _ _ rfl
  refine ow_nil ?_
  refine kw_nx ?_
  refine cw_seq ?_
  refine cw_region ?_
  refine ow_det .none (stp_fieldAddr (j := 4) Tryd.underlying108 rfl ts3 rfl rfl rfl) rfl ?_
  refine ow_det .none (stp_load1 ts3 rfl (Cells.box (id := 0) rfl 1 rfl)) rfl ?_
  refine ow_det .none (stp_fieldAddr (j := 4) Tryd.underlying53 rfl ts3 rfl rfl rfl) rfl ?_
  refine ow_eff0 .none (stpU_store (id := 2) (cs' := [.bool a0.u, .int .i64 x4.s, .int .i64 x4.p, .int .i64 a0.r, .int .i64 a0.nx]) ts3 rfl rfl rfl rfl rfl rfl rfl) ?_
  rintro _ _ rfl
  refine ow_nil ?_
  refine kw_nx ?_
  refine cw_seq ?_
  refine cw_region ?_
  refine ow_det .none (stp_loadN (us := [_, _, _, _, _]) ts53 rfl (Cells.box (id := 2) rfl 5 rfl)) rfl ?_
  refine ow_eff0 .none (stpU_store (id := 1) (cs' := [.bool a0.u, .int .i64 x4.s, .int .i64 x4.p, .int .i64 a0.r, .int .i64 a0.nx]) ts53 rfl rfl rfl rfl rfl rfl rfl) ?_
  rintro _ _ rfl
  refine ow_nil ?_
  refine kw_nx ?_
  refine cw_ret ?_
  have q0 := Option.some.inj H0
  subst q0
  exact kw_ret Tryd.results89 (.cons (.cellN (us := [_, _, _, _, _]) ts53 rfl (Cells.box (id := 1) rfl 5 rfl)) .nil) [] [] trivial (by decide) ⟨rfl, rfl⟩

set_option maxHeartbeats 4000000 in
set_option maxRecDepth 20000 in
theorem c_l_toFrameS (fl : Nat) (w : World) (a0 : (List F)) (p0_0 : Option Addr) (n0_0 c0_0 : Nat) (hn0_0 : n0_0 = (a0).length) (hr0_0 : RO w (hkeys []) (RdL p0_0 c0_0 a0)) (r : (List F)) (H0 : l_toFrameS fl a0 = some r) :
    Ct Tryd.prog 59 [.slice p0_0 n0_0 c0_0] w [] (fun rv h' => ∃ (x0 : Option Addr) (y0 z0 : Nat) (C0 : Res), rv = .slice x0 y0 z0 ∧ h' = [(0, C0)] ∧ y0 = (r).length ∧ OwnC 53 x0 z0 r C0) := by
  obtain rfl := hn0_0
  unfold l_toFrameS at H0
  refine ct_of_cw Tryd.func59 rfl Tryd.ntmps59 rfl (Sat.refl _ _) ?_
  refine cw_seq ?_
  refine cw_region ?_
  refine ow_det .none (stp_assign rfl) rfl ?_
  refine ow_nil ?_
  refine kw_nx ?_
  refine cw_seq ?_
  refine cw_region ?_
  refine ow_det .none (stp_move rfl) rfl ?_
  refine ow_det .none (stp_len Tryd.underlying39 rfl) rfl ?_
  obtain ⟨x1, e1, H0⟩ := bind_some H0
  refine ow_eff .none (stpU_make sl24 rfl 0 rfl rfl e1) rfl ?_
  rintro _ _ ⟨p2, C3, rfl, rfl, o3⟩
  refine ow_det .none (stp_assign rfl) rfl ?_
  refine ow_nil ?_
  refine kw_nx ?_
  refine cw_seq ?_
  refine cw_seq ?_
  refine cw_region ?_
  refine ow_det .none (stp_assign rfl) rfl ?_
  refine ow_nil ?_
  refine kw_nx ?_
  obtain ⟨o0_0, eo0_0, H0⟩ := bind_some H0
  refine cw_join (ι := (List F) × Int × Res) (fun | (v4, v6, C5) => o0_0 = .out (v4, v6) ∧ x1 = (v4).length ∧ OwnC (α := F) 53 p2 x1 v4 C5) (fun | (v4, v6, C5) => [(0, .slice p0_0 ((a0).length) c0_0), (3, .slice p2 x1 x1), (4, .int .i64 v6)]) (fun | (v4, v6, C5) => [(0, C5)]) ?_ ?_
  · refine cw_block ?_
    refine cw_loopS (ι := Nat × (List F) × Int × Res) (js := [0]) (fun x => x.1) (fun | (fuel, v4, v6, C5) => l_toFrameS_L0 fl a0 fuel v4 v6 = some o0_0 ∧ x1 = (v4).length ∧ OwnC (α := F) 53 p2 x1 v4 C5) (fun | (_, v4, v6, C5) => [(0, .slice p0_0 ((a0).length) c0_0), (3, .slice p2 x1 x1), (4, .int .i64 v6)]) (fun | (_, v4, v6, C5) => [(0, C5)]) (fl, (List.replicate x1 (⟨false, (⟨0, 0⟩ : K), 0, 0⟩ : F)), 0, C3) ⟨eo0_0, (by simp), o3⟩ ⟨rfl, rfl, rfl, trivial⟩ ⟨0, [], rfl, rfl, trivial⟩ (by decide) ?_
    rintro ⟨fuel, v4, v6, C5⟩ ⟨H1, hl5, o5⟩
    have H1 : l_toFrameS_L0 fl a0 fuel v4 v6 = some o0_0 := H1
    rcases fuel with _ | fuel
    · rw [l_toFrameS_L0.eq_1] at H1; cases H1
    rw [l_toFrameS_L0.eq_2] at H1
    refine CW.sub (s' := [(0, .slice p0_0 ((a0).length) c0_0), (3, .slice p2 x1 x1), (4, .int .i64 v6)]) (h' := [(0, C5)]) ?_ ⟨rfl, rfl, rfl, trivial⟩ ⟨rfl, trivial⟩
    refine cw_seq ?_
    refine cw_seq ?_
    refine cw_region ?_
    refine ow_det .none (stp_move rfl) rfl ?_
    refine ow_det .none (stp_move rfl) rfl ?_
    refine ow_det .none (stp_len Tryd.underlying39 rfl) rfl ?_
    refine ow_det .none (stp_lss rfl rfl) rfl ?_
    refine ow_nil ?_
    refine kw_nx ?_
    refine cw_cond rfl (fun h7 => ?_) (fun h7 => ?_)
    · have H1 := cond_t H1 h7
      refine cw_skip ?_
      refine kw_nx ?_
      refine cw_seq ?_
      refine cw_block ?_
      refine cw_region ?_
      refine ow_det .none (stp_move rfl) rfl ?_
      refine ow_det .none (stp_move rfl) rfl ?_
      refine ow_det .none (stp_move rfl) rfl ?_
      refine ow_det .none (stp_move rfl) rfl ?_
      obtain ⟨x8, e8, H1⟩ := bind_some H1
      refine ow_det .none (stp_indexAddr Tryd.underlying39 ts108 (by decide) rfl rfl rfl (Rdb.ro hr0_0) e8) rfl ?_
      refine ow_det .none (stp_loadN (us := [_, _, _, _, _]) ts108 rfl (Cells.el (Rdb.ro hr0_0) (by decide) e8 0 5 rfl)) rfl ?_
      obtain ⟨x9, e9, H1⟩ := bind_some H1
      refine ow_eff .none (stpU_call (fun i => 1 + i) cf89 (fun w hw => c_l_toFrame fl w x8 x9 e9) (sevs_cons rfl sevs_nil)) rfl ?_
      rintro _ _ ⟨_, ⟨rfl, rfl⟩, rfl⟩
      obtain ⟨x10, e10, H1⟩ := bind_some H1
      refine ow_det .none (stp_indexAddr Tryd.underlying24 ts53 (by decide) rfl (by simp [hl5]) rfl (Rdb.own (id := 0) rfl o5) e10) rfl ?_
      refine ow_eff0 .none (stpU_storeEl (id := 0) (i := 0) x9 (by decide) ts53 rfl rfl rfl o5 e10 rfl rfl rfl rfl) ?_
      rintro _ _ ⟨C11, rfl, o11⟩
      refine ow_nil ?_
      refine kw_bl_normal ?_
      refine kw_nx ?_
      refine cw_region ?_
      refine ow_det .none (stp_move rfl) rfl ?_
      obtain ⟨x12, e12, H1⟩ := bind_some H1
      refine ow_det .none (stp_add rfl rfl e12) rfl ?_
      refine ow_det .none (stp_assign rfl) rfl ?_
      refine ow_nil ?_
      exact kw_lqS (js := [0]) (fuel, (v4.set (Int.toNat v6) x9), x12, C11) ⟨H1, (by simp [hl5]), o11⟩ (Nat.lt_succ_self _) ⟨rfl, rfl, rfl, trivial⟩ ⟨0, [], rfl, rfl, trivial⟩ (by decide)
    · have H1 := cond_f H1 h7
      refine cw_exit ?_
      refine kw_nx_exit ?_
      refine kw_lq_exit ?_
      refine kw_bl ?_
      have q1 := Option.some.inj H1
      subst q1
      exact kw_joinS (js := [0]) (v4, v6, C5) ⟨rfl, (by simp [hl5]), o5⟩ ⟨rfl, rfl, rfl, trivial⟩ ⟨0, [], rfl, rfl, trivial⟩ (by decide)
  · rintro ⟨v4, v6, C5⟩ ⟨rfl, hl5, o5⟩
    refine KW.sub (s' := [(0, .slice p0_0 ((a0).length) c0_0), (3, .slice p2 x1 x1), (4, .int .i64 v6)]) (h' := [(0, C5)]) ?_ ⟨rfl, rfl, rfl, trivial⟩ ⟨rfl, trivial⟩
    refine kw_nx ?_
    refine cw_seq ?_
    refine cw_region ?_
    refine ow_det .none (stp_move rfl) rfl ?_
    refine ow_det .none (stp_assign rfl) rfl ?_
    refine ow_nil ?_
    refine kw_nx ?_
    refine cw_ret ?_
    have q0 := Option.some.inj H0
    subst q0
    exact kw_ret Tryd.results59 (.cons (.tmp rfl) .nil) [(0, C5)] [0] ⟨0, [], rfl, rfl, trivial⟩ (by decide) ⟨p2, x1, x1, C5, rfl, rfl, (by simp [hl5]), o5⟩

set_option maxHeartbeats 4000000 in
set_option maxRecDepth 20000 in
theorem c_l_toTable (fl : Nat) (w : World) (a0 : T) (p0_0 : Option Addr) (n0_0 c0_0 : Nat) (p0_1 : Option Addr) (n0_1 c0_1 : Nat) (hn0_0 : n0_0 = (a0.b).length) (hr0_0 : RO w (hkeys []) (RdL p0_0 c0_0 a0.b)) (hn0_1 : n0_1 = (a0.f).length) (hr0_1 : RO w (hkeys []) (RdL p0_1 c0_1 a0.f)) (r : T) (H0 : l_toTable fl a0 = some r) :
    Ct Tryd.prog 21 [.agg #[.slice p0_0 n0_0 c0_0, .slice p0_1 n0_1 c0_1]] w [] (fun rv h' => ∃ (x0 : Option Addr) (y0 z0 : Nat) (C0 : Res) (x1 : Option Addr) (y1 z1 : Nat) (C1 : Res), rv = .agg #[.slice x0 y0 z0, .slice x1 y1 z1] ∧ h' = [(0, C0), (1, C1)] ∧ y0 = (r.b).length ∧ OwnC 3 x0 z0 r.b C0 ∧ y1 = (r.f).length ∧ OwnC 53 x1 z1 r.f C1) := by
  obtain rfl := hn0_0
  obtain rfl := hn0_1
  unfold l_toTable at H0
  refine ct_of_cw Tryd.func21 rfl Tryd.ntmps21 rfl (Sat.refl _ _) ?_
  refine cw_seq ?_
  refine cw_region ?_
  refine ow_eff .none (stpU_box 0 rfl rfl) rfl ?_
  rintro _ _ ⟨b1, rfl, rfl⟩
  refine ow_eff .none (stpU_alloc 1 tz26 rfl) rfl ?_
  rintro _ _ ⟨b2, rfl, rfl⟩
  refine ow_nil ?_
  refine kw_nx ?_
  refine cw_seq ?_
  refine cw_region ?_
  refine ow_eff .none (stpU_alloc 2 tz26 rfl) rfl ?_
  rintro _ _ ⟨b3, rfl, rfl⟩
  refine ow_nil ?_
  refine kw_nx ?_
  refine cw_seq ?_
  refine cw_region ?_
  refine ow_det .none (stp_fieldAddr (j := 0) Tryd.underlying41 rfl ts23 rfl rfl rfl) rfl ?_
  refine ow_det .none (stp_load1 ts23 rfl (Cells.box (id := 0) rfl 1 rfl)) rfl ?_
  obtain ⟨x4, e4, H0⟩ := bind_some H0
  refine ow_eff .none (stpU_call (fun i => 3 + i) cf58 (fun w hw => c_l_toIntS fl w a0.b p0_0 ((a0.b).length) c0_0 rfl (RO.pass hr0_0 hw) x4 e4) (sevs_cons rfl sevs_nil)) rfl ?_
  rintro _ _ ⟨_, ⟨p5, n6, c7, C8, rfl, rfl, hnn6, o8⟩, rfl⟩
  obtain rfl := hnn6
  refine ow_det .none (stp_fieldAddr (j := 0) Tryd.underlying26 rfl ts23 rfl rfl rfl) rfl ?_
  refine ow_eff0 .none (stpU_store (id := 2) (cs' := [.slice p5 ((x4).length) c7, .slice none 0 0]) ts23 rfl rfl rfl rfl rfl rfl rfl) ?_
  rintro _ _ rfl
  refine ow_nil ?_
  refine kw_nx ?_
  refine cw_seq ?_
  refine cw_region ?_
  refine ow_det .none (stp_fieldAddr (j := 1) Tryd.underlying41 rfl ts39 rfl rfl rfl) rfl ?_
  refine ow_det .none (stp_load1 ts39 rfl (Cells.box (id := 0) rfl 1 rfl)) rfl ?_
  obtain ⟨x9, e9, H0⟩ := bind_some H0
  refine ow_eff .none (stpU_call (fun i => 4 + i) cf59 (fun w hw => c_l_toFrameS fl w a0.f p0_1 ((a0.f).length) c0_1 rfl (RO.pass hr0_1 hw) x9 e9) (sevs_cons rfl sevs_nil)) rfl ?_
  rintro _ _ ⟨_, ⟨p10, n11, c12, C13, rfl, rfl, hnn11, o13⟩, rfl⟩
  obtain rfl := hnn11
  refine ow_det .none (stp_fieldAddr (j := 1) Tryd.underlying26 rfl ts24 rfl rfl rfl) rfl ?_
  refine ow_eff0 .none (stpU_store (id := 2) (cs' := [.slice p5 ((x4).length) c7, .slice p10 ((x9).length) c12]) ts24 rfl rfl rfl rfl rfl rfl rfl) ?_
  rintro _ _ rfl
  refine ow_nil ?_
  refine kw_nx ?_
  refine cw_seq ?_
  refine cw_region ?_
  refine ow_det .none (stp_loadN (us := [_, _]) ts26 rfl (Cells.box (id := 2) rfl 2 rfl)) rfl ?_
  refine ow_eff0 .none (stpU_store (id := 1) (cs' := [.slice p5 ((x4).length) c7, .slice p10 ((x9).length) c12]) ts26 rfl rfl rfl rfl rfl rfl rfl) ?_
  rintro _ _ rfl
  refine ow_nil ?_
  refine kw_nx ?_
  refine cw_ret ?_
  have q0 := Option.some.inj H0
  subst q0
  exact kw_ret Tryd.results21 (.cons (.cellN (us := [_, _]) ts26 rfl (Cells.box (id := 1) rfl 2 rfl)) .nil) [(0, C8), (1, C13)] [3, 4] ⟨3, [4], rfl, rfl, 4, [], rfl, rfl, trivial⟩ (by decide) ⟨p5, ((x4).length), c7, C8, p10, ((x9).length), c12, C13, rfl, rfl, rfl, o8, rfl, o13⟩

theorem c_s_TableValid (fl : Nat) (w : World) (a0 : T) (p0_0 : Option Addr) (n0_0 c0_0 : Nat) (p0_1 : Option Addr) (n0_1 c0_1 : Nat) (hn0_0 : n0_0 = (a0.b).length) (hr0_0 : RO w (hkeys []) (RdL p0_0 c0_0 a0.b)) (hn0_1 : n0_1 = (a0.f).length) (hr0_1 : RO w (hkeys []) (RdL p0_1 c0_1 a0.f)) (r : Bool) (H0 : s_TableValid fl a0 = some r) :
    Ct Tryd.prog 44 [.agg #[.slice p0_0 n0_0 c0_0, .slice p0_1 n0_1 c0_1]] w [] (fun rv h' => rv = .bool r ∧ h' = []) := by
  obtain rfl := hn0_0
  obtain rfl := hn0_1
  unfold s_TableValid at H0
  obtain rfl := Option.some.inj H0
  exact ct_of_calls (sTableValid_c _ a0 w ⟨_, _, rfl, (hr0_0 w (Fr.refl _ _)).rd, (hr0_1 w (Fr.refl _ _)).rd⟩)

set_option maxHeartbeats 4000000 in
set_option maxRecDepth 20000 in
theorem c_s_l1Space (fl : Nat) (w : World) (a0 : Int) (r : Bool) (H0 : s_l1Space fl a0 = some r) :
    Ct Tryd.prog 87 [.int .i64 a0] w [] (fun rv h' => rv = .bool r ∧ h' = []) := by
  unfold s_l1Space at H0
  refine ct_of_cw Tryd.func87 rfl Tryd.ntmps87 rfl (Sat.refl _ _) ?_
  refine cw_seq ?_
  refine cw_region ?_
  refine ow_det .none (stp_assign rfl) rfl ?_
  refine ow_nil ?_
  refine kw_nx ?_
  refine cw_seq ?_
  refine cw_region ?_
  refine ow_det .none (stp_move rfl) rfl ?_
  refine ow_det .none (stp_geq rfl rfl) rfl ?_
  refine ow_det .none (stp_move rfl) rfl ?_
  obtain ⟨y1, ey1, H0⟩ := bind_some H0
  refine ow_cutY 3 8 y1 ?_ ?_
  · rcases Bool.eq_false_or_eq_true (decide (0 ≤ a0)) with hy1 | hy1
    · have ey1 := cond_t ey1 hy1
      refine ow_det (.some rfl hy1) (stp_move rfl) rfl ?_
      refine ow_det (.some rfl hy1) (stp_lss rfl rfl) rfl ?_
      refine ow_det .none (stp_pick_t rfl hy1 rfl) rfl ?_
      obtain rfl := Option.some.inj ey1
      exact ow_nil (kw_jy (.top rfl (.cons rfl (.cons rfl (.cons rfl (.refl _))))) (.refl _))
    · have ey1 := cond_f ey1 hy1
      refine ow_off (.some rfl hy1) rfl ?_
      refine ow_off (.some rfl hy1) rfl ?_
      refine ow_det .none (stp_pick_f rfl hy1 rfl) rfl ?_
      obtain rfl := Option.some.inj ey1
      exact ow_nil (kw_jy (.top rfl (.cons rfl (.cons rfl (.cons rfl (.refl _))))) (.refl _))
  · refine ow_det .none (stp_assign rfl) rfl ?_
    refine ow_nil ?_
    refine kw_nx ?_
    refine cw_ret ?_
    have q0 := Option.some.inj H0
    subst q0
    exact kw_ret Tryd.results87 (.cons (.tmp rfl) .nil) [] [] trivial (by decide) ⟨rfl, rfl⟩

set_option maxHeartbeats 4000000 in
set_option maxRecDepth 20000 in
theorem c_s_l1Page (fl : Nat) (w : World) (a0 : Int) (r : Bool) (H0 : s_l1Page fl a0 = some r) :
    Ct Tryd.prog 88 [.int .i64 a0] w [] (fun rv h' => rv = .bool r ∧ h' = []) := by
  unfold s_l1Page at H0
  refine ct_of_cw Tryd.func88 rfl Tryd.ntmps88 rfl (Sat.refl _ _) ?_
  refine cw_seq ?_
  refine cw_region ?_
  refine ow_det .none (stp_assign rfl) rfl ?_
  refine ow_nil ?_
  refine kw_nx ?_
  refine cw_seq ?_
  refine cw_region ?_
  refine ow_det .none (stp_move rfl) rfl ?_
  refine ow_det .none (stp_geq rfl rfl) rfl ?_
  refine ow_det .none (stp_move rfl) rfl ?_
  obtain ⟨y1, ey1, H0⟩ := bind_some H0
  refine ow_cutY 3 8 y1 ?_ ?_
  · rcases Bool.eq_false_or_eq_true (decide (0 ≤ a0)) with hy1 | hy1
    · have ey1 := cond_t ey1 hy1
      refine ow_det (.some rfl hy1) (stp_move rfl) rfl ?_
      refine ow_det (.some rfl hy1) (stp_lss rfl rfl) rfl ?_
      refine ow_det .none (stp_pick_t rfl hy1 rfl) rfl ?_
      obtain rfl := Option.some.inj ey1
      exact ow_nil (kw_jy (.top rfl (.cons rfl (.cons rfl (.cons rfl (.refl _))))) (.refl _))
    · have ey1 := cond_f ey1 hy1
      refine ow_off (.some rfl hy1) rfl ?_
      refine ow_off (.some rfl hy1) rfl ?_
      refine ow_det .none (stp_pick_f rfl hy1 rfl) rfl ?_
      obtain rfl := Option.some.inj ey1
      exact ow_nil (kw_jy (.top rfl (.cons rfl (.cons rfl (.cons rfl (.refl _))))) (.refl _))
  · refine ow_det .none (stp_assign rfl) rfl ?_
    refine ow_nil ?_
    refine kw_nx ?_
    refine cw_ret ?_
    have q0 := Option.some.inj H0
    subst q0
    exact kw_ret Tryd.results88 (.cons (.tmp rfl) .nil) [] [] trivial (by decide) ⟨rfl, rfl⟩

set_option maxHeartbeats 4000000 in
set_option maxRecDepth 20000 in
theorem c_s_KeyValid (fl : Nat) (w : World) (a0 : K) (r : Bool) (H0 : s_KeyValid fl a0 = some r) :
    Ct Tryd.prog 45 [.agg #[.int .i64 a0.s, .int .i64 a0.p]] w [] (fun rv h' => rv = .bool r ∧ h' = []) := by
  unfold s_KeyValid at H0
  refine ct_of_cw Tryd.func45 rfl Tryd.ntmps45 rfl (Sat.refl _ _) ?_
  refine cw_seq ?_
  refine cw_region ?_
  refine ow_eff .none (stpU_box 0 rfl rfl) rfl ?_
  rintro _ _ ⟨b1, rfl, rfl⟩
  refine ow_det .none (stp_assign rfl) rfl ?_
  refine ow_nil ?_
  refine kw_nx ?_
  refine cw_seq ?_
  refine cw_region ?_
  refine ow_det .none (stp_fieldAddr (j := 0) Tryd.underlying28 rfl ts3 rfl rfl rfl) rfl ?_
  refine ow_det .none (stp_load1 ts3 rfl (Cells.box (id := 0) rfl 1 rfl)) rfl ?_
  obtain ⟨x2, e2, H0⟩ := bind_some H0
  refine ow_eff .none (stpU_call (fun i => 1 + i) cf87 (fun w hw => c_s_l1Space fl w a0.s x2 e2) (sevs_cons rfl sevs_nil)) rfl ?_
  rintro _ _ ⟨_, ⟨rfl, rfl⟩, rfl⟩
  refine ow_det .none (stp_move rfl) rfl ?_
  obtain ⟨y3, ey3, H0⟩ := bind_some H0
  refine ow_cutY 4 10 y3 ?_ ?_
  · rcases Bool.eq_false_or_eq_true x2 with hy3 | hy3
    · have ey3 := cond_t ey3 hy3
      refine ow_det (.some rfl hy3) (stp_fieldAddr (j := 1) Tryd.underlying28 rfl ts3 rfl rfl rfl) rfl ?_
      refine ow_det (.some rfl hy3) (stp_load1 ts3 rfl (Cells.box (id := 0) rfl 1 rfl)) rfl ?_
      obtain ⟨x4, e4, ey3⟩ := bind_some ey3
      refine ow_eff (.some rfl hy3) (stpU_call (fun i => 1 + i) cf88 (fun w hw => c_s_l1Page fl w a0.p x4 e4) (sevs_cons rfl sevs_nil)) rfl ?_
      rintro _ _ ⟨_, ⟨rfl, rfl⟩, rfl⟩
      refine ow_det .none (stp_pick_t rfl hy3 rfl) rfl ?_
      obtain rfl := Option.some.inj ey3
      exact ow_nil (kw_jy (.top rfl (.cons rfl (.cons rfl (.cons rfl (.cons rfl (.refl _)))))) (.refl _))
    · have ey3 := cond_f ey3 hy3
      refine ow_off (.some rfl hy3) rfl ?_
      refine ow_off (.some rfl hy3) rfl ?_
      refine ow_off (.some rfl hy3) rfl ?_
      refine ow_det .none (stp_pick_f rfl hy3 rfl) rfl ?_
      obtain rfl := Option.some.inj ey3
      exact ow_nil (kw_jy (.top rfl (.cons rfl (.cons rfl (.cons rfl (.cons rfl (.refl _)))))) (.refl _))
  · refine ow_det .none (stp_assign rfl) rfl ?_
    refine ow_nil ?_
    refine kw_nx ?_
    refine cw_ret ?_
    have q0 := Option.some.inj H0
    subst q0
    exact kw_ret Tryd.results45 (.cons (.tmp rfl) .nil) [] [] trivial (by decide) ⟨rfl, rfl⟩

set_option maxHeartbeats 4000000 in
set_option maxRecDepth 20000 in
theorem c_s_l2Hash (fl : Nat) (w : World) (a0 : K) (a1 : Int) (r : Int) (H0 : s_l2Hash fl a0 a1 = some r) :
    Ct Tryd.prog 86 [.agg #[.int .i64 a0.s, .int .i64 a0.p], .int .i64 a1] w [] (fun rv h' => rv = .int .i64 r ∧ h' = []) := by
  unfold s_l2Hash at H0
  refine ct_of_cw Tryd.func86 rfl Tryd.ntmps86 rfl (Sat.refl _ _) ?_
  refine cw_seq ?_
  refine cw_region ?_
  refine ow_eff .none (stpU_box 0 rfl rfl) rfl ?_
  rintro _ _ ⟨b1, rfl, rfl⟩
  refine ow_det .none (stp_assign rfl) rfl ?_
  refine ow_nil ?_
  refine kw_nx ?_
  refine cw_seq ?_
  refine cw_region ?_
  refine ow_det .none (stp_fieldAddr (j := 0) Tryd.underlying28 rfl ts3 rfl rfl rfl) rfl ?_
  refine ow_det .none (stp_load1 ts3 rfl (Cells.box (id := 0) rfl 1 rfl)) rfl ?_
  obtain ⟨x2, e2, H0⟩ := bind_some H0
  refine ow_det .none (stp_mul rfl rfl e2) rfl ?_
  refine ow_det .none (stp_fieldAddr (j := 1) Tryd.underlying28 rfl ts3 rfl rfl rfl) rfl ?_
  refine ow_det .none (stp_load1 ts3 rfl (Cells.box (id := 0) rfl 1 rfl)) rfl ?_
  obtain ⟨x3, e3, H0⟩ := bind_some H0
  refine ow_det .none (stp_add rfl rfl e3) rfl ?_
  refine ow_det .none (stp_assign rfl) rfl ?_
  refine ow_nil ?_
  refine kw_nx ?_
  refine cw_seq ?_
  refine cw_region ?_
  refine ow_det .none (stp_move rfl) rfl ?_
  obtain ⟨x4, e4, H0⟩ := bind_some H0
  refine ow_det .none (stp_mul rfl rfl e4) rfl ?_
  obtain ⟨x5, e5, H0⟩ := bind_some H0
  refine ow_det .none (stp_rem rfl rfl e5) rfl ?_
  refine ow_det .none (stp_move rfl) rfl ?_
  obtain ⟨x6, e6, H0⟩ := bind_some H0
  refine ow_det .none (stp_mul rfl rfl e6) rfl ?_
  obtain ⟨x7, e7, H0⟩ := bind_some H0
  refine ow_det .none (stp_quo rfl rfl e7) rfl ?_
  refine ow_det .none (stp_assign rfl) rfl ?_
  refine ow_nil ?_
  refine kw_nx ?_
  refine cw_ret ?_
  have q0 := Option.some.inj H0
  subst q0
  exact kw_ret Tryd.results86 (.cons (.tmp rfl) .nil) [] [] trivial (by decide) ⟨rfl, rfl⟩

set_option maxHeartbeats 4000000 in
set_option maxRecDepth 20000 in
theorem c_s_l3Chain (fl : Nat) (w : World) (a0 : T) (p0_0 : Option Addr) (n0_0 c0_0 : Nat) (p0_1 : Option Addr) (n0_1 c0_1 : Nat) (a1 : Int) (hn0_0 : n0_0 = (a0.b).length) (hr0_0 : RO w (hkeys []) (RdL p0_0 c0_0 a0.b)) (hn0_1 : n0_1 = (a0.f).length) (hr0_1 : RO w (hkeys []) (RdL p0_1 c0_1 a0.f)) (r : (List Int) × Bool) (H0 : s_l3Chain fl a0 a1 = some r) :
    Ct Tryd.prog 85 [.agg #[.slice p0_0 n0_0 c0_0, .slice p0_1 n0_1 c0_1], .int .i64 a1] w [] (fun rv h' => ∃ (x0 : Option Addr) (y0 z0 : Nat) (C0 : Res), rv = .tuple #[.slice x0 y0 z0, .bool r.2] ∧ h' = [(0, C0)] ∧ y0 = (r.1).length ∧ OwnC 3 x0 z0 r.1 C0) := by
  obtain rfl := hn0_0
  obtain rfl := hn0_1
  unfold s_l3Chain at H0
  refine ct_of_cw Tryd.func85 rfl Tryd.ntmps85 rfl (Sat.refl _ _) ?_
  refine cw_seq ?_
  refine cw_region ?_
  refine ow_eff .none (stpU_box 0 rfl rfl) rfl ?_
  rintro _ _ ⟨b1, rfl, rfl⟩
  refine ow_det .none (stp_assign rfl) rfl ?_
  refine ow_det .none (stp_assign rfl) rfl ?_
  refine ow_nil ?_
  refine kw_nx ?_
  refine cw_seq ?_
  refine cw_region ?_
  refine ow_eff .none (stpU_lit0 sl23 1) rfl ?_
  rintro _ _ ⟨p2, C3, rfl, rfl, o3⟩
  refine ow_det .none (stp_assign rfl) rfl ?_
  refine ow_nil ?_
  refine kw_nx ?_
  refine cw_seq ?_
  refine cw_region ?_
  refine ow_det .none (stp_fieldAddr (j := 0) Tryd.underlying26 rfl ts23 rfl rfl rfl) rfl ?_
  refine ow_det .none (stp_load1 ts23 rfl (Cells.box (id := 0) rfl 1 rfl)) rfl ?_
  refine ow_det .none (stp_move rfl) rfl ?_
  obtain ⟨x4, e4, H0⟩ := bind_some H0
  refine ow_det .none (stp_indexAddr Tryd.underlying23 ts3 (by decide) rfl rfl rfl (Rdb.ro hr0_0) e4) rfl ?_
  refine ow_det .none (stp_load1 ts3 rfl (Cells.el (Rdb.ro hr0_0) (by decide) e4 0 1 rfl)) rfl ?_
  refine ow_det .none (stp_assign rfl) rfl ?_
  refine ow_nil ?_
  refine kw_nx ?_
  refine cw_seq ?_
  obtain ⟨o0_0, eo0_0, H0⟩ := bind_some H0
  refine cw_join (ι := (List Int) × Int × Option Addr × Nat × Nat × Res) (fun | (v5, v10, p6, n7, c8, C9) => o0_0 = .out (v5, v10) ∧ n7 = (v5).length ∧ OwnC (α := Int) 3 p6 c8 v5 C9) (fun | (v5, v10, p6, n7, c8, C9) => [(2, .pointer (some ⟨b1, 0, none⟩)), (6, .slice p6 n7 c8), (7, .int .i64 v10)]) (fun | (v5, v10, p6, n7, c8, C9) => [(0, [(b1, .cells #[.slice p0_0 ((a0.b).length) c0_0, .slice p0_1 ((a0.f).length) c0_1] 26 (0, 0))]), (1, C9)]) ?_ ?_
  · refine cw_block ?_
    refine cw_loopS (ι := Nat × (List Int) × Int × Option Addr × Nat × Nat × Res) (js := [0, 1]) (fun x => x.1) (fun | (fuel, v5, v10, p6, n7, c8, C9) => s_l3Chain_L0 fl a0 fuel v5 v10 = some o0_0 ∧ n7 = (v5).length ∧ OwnC (α := Int) 3 p6 c8 v5 C9) (fun | (_, v5, v10, p6, n7, c8, C9) => [(2, .pointer (some ⟨b1, 0, none⟩)), (6, .slice p6 n7 c8), (7, .int .i64 v10)]) (fun | (_, v5, v10, p6, n7, c8, C9) => [(0, [(b1, .cells #[.slice p0_0 ((a0.b).length) c0_0, .slice p0_1 ((a0.f).length) c0_1] 26 (0, 0))]), (1, C9)]) (fl, ([] : List Int), x4, p2, 0, 0, C3) ⟨eo0_0, (by simp), o3⟩ ⟨rfl, rfl, rfl, trivial⟩ ⟨0, [1], rfl, rfl, 1, [], rfl, rfl, trivial⟩ (by decide) ?_
    rintro ⟨fuel, v5, v10, p6, n7, c8, C9⟩ ⟨H1, hnn7, o9⟩
    obtain rfl := hnn7
    have H1 : s_l3Chain_L0 fl a0 fuel v5 v10 = some o0_0 := H1
    rcases fuel with _ | fuel
    · rw [s_l3Chain_L0.eq_1] at H1; cases H1
    rw [s_l3Chain_L0.eq_2] at H1
    refine CW.sub (s' := [(2, .pointer (some ⟨b1, 0, none⟩)), (6, .slice p6 ((v5).length) c8), (7, .int .i64 v10)]) (h' := [(0, [(b1, .cells #[.slice p0_0 ((a0.b).length) c0_0, .slice p0_1 ((a0.f).length) c0_1] 26 (0, 0))]), (1, C9)]) ?_ ⟨rfl, rfl, rfl, trivial⟩ ⟨rfl, rfl, trivial⟩
    refine cw_seq ?_
    refine cw_seq ?_
    refine cw_region ?_
    refine ow_det .none (stp_move rfl) rfl ?_
    refine ow_det .none (stp_neq rfl rfl) rfl ?_
    refine ow_nil ?_
    refine kw_nx ?_
    refine cw_cond rfl (fun h11 => ?_) (fun h11 => ?_)
    · have H1 := cond_t H1 h11
      refine cw_skip ?_
      refine kw_nx ?_
      refine cw_block ?_
      refine cw_seq ?_
      refine cw_seq ?_
      refine cw_region ?_
      refine ow_det .none (stp_move rfl) rfl ?_
      refine ow_det .none (stp_lss rfl rfl) rfl ?_
      refine ow_det .none (stp_move rfl) rfl ?_
      obtain ⟨y12, ey12, H1⟩ := bind_some H1
      refine ow_cutY 6 24 y12 ?_ ?_
      · rcases Bool.eq_false_or_eq_true (decide (v10 < 0)) with hy12 | hy12
        · have ey12 := cond_t ey12 hy12
          refine ow_off (.some rfl hy12) rfl ?_
          refine ow_off (.some rfl hy12) rfl ?_
          refine ow_off (.some rfl hy12) rfl ?_
          refine ow_off (.some rfl hy12) rfl ?_
          refine ow_off (.some rfl hy12) rfl ?_
          refine ow_det .none (stp_pick_t rfl hy12 rfl) rfl ?_
          obtain rfl := Option.some.inj ey12
          exact ow_nil (kw_jy (.top rfl (.cons rfl (.cons rfl (.cons rfl (.cons rfl (.cons rfl (.cons rfl (.refl _)))))))) (.refl _))
        · have ey12 := cond_f ey12 hy12
          refine ow_det (.some rfl hy12) (stp_move rfl) rfl ?_
          refine ow_det (.some rfl hy12) (stp_fieldAddr (j := 1) Tryd.underlying26 rfl ts24 rfl rfl rfl) rfl ?_
          refine ow_det (.some rfl hy12) (stp_load1 ts24 rfl (Cells.box (id := 0) rfl 1 rfl)) rfl ?_
          refine ow_det (.some rfl hy12) (stp_len Tryd.underlying24 rfl) rfl ?_
          refine ow_det (.some rfl hy12) (stp_geq rfl rfl) rfl ?_
          refine ow_det .none (stp_pick_f rfl hy12 rfl) rfl ?_
          obtain rfl := Option.some.inj ey12
          exact ow_nil (kw_jy (.top rfl (.cons rfl (.cons rfl (.cons rfl (.cons rfl (.cons rfl (.cons rfl (.refl _)))))))) (.refl _))
      · refine ow_det .none (stp_move rfl) rfl ?_
        obtain ⟨y13, ey13, H1⟩ := bind_some H1
        refine ow_cutY 7 32 y13 ?_ ?_
        · rcases Bool.eq_false_or_eq_true y12 with hy13 | hy13
          · have ey13 := cond_t ey13 hy13
            refine ow_off (.some rfl hy13) rfl ?_
            refine ow_off (.some rfl hy13) rfl ?_
            refine ow_off (.some rfl hy13) rfl ?_
            refine ow_off (.some rfl hy13) rfl ?_
            refine ow_off (.some rfl hy13) rfl ?_
            refine ow_off (.some rfl hy13) rfl ?_
            refine ow_det .none (stp_pick_t rfl hy13 rfl) rfl ?_
            obtain rfl := Option.some.inj ey13
            exact ow_nil (kw_jy (.top rfl (.cons rfl (.cons rfl (.cons rfl (.cons rfl (.cons rfl (.cons rfl (.cons rfl (.refl _))))))))) (.refl _))
          · have ey13 := cond_f ey13 hy13
            refine ow_det (.some rfl hy13) (stp_move rfl) rfl ?_
            refine ow_det (.some rfl hy13) (stp_len Tryd.underlying23 rfl) rfl ?_
            refine ow_det (.some rfl hy13) (stp_fieldAddr (j := 1) Tryd.underlying26 rfl ts24 rfl rfl rfl) rfl ?_
            refine ow_det (.some rfl hy13) (stp_load1 ts24 rfl (Cells.box (id := 0) rfl 1 rfl)) rfl ?_
            refine ow_det (.some rfl hy13) (stp_len Tryd.underlying24 rfl) rfl ?_
            refine ow_det (.some rfl hy13) (stp_geq rfl rfl) rfl ?_
            refine ow_det .none (stp_pick_f rfl hy13 rfl) rfl ?_
            obtain rfl := Option.some.inj ey13
            exact ow_nil (kw_jy (.top rfl (.cons rfl (.cons rfl (.cons rfl (.cons rfl (.cons rfl (.cons rfl (.cons rfl (.refl _))))))))) (.refl _))
        · refine ow_det .none (stp_move rfl) rfl ?_
          obtain ⟨y14, ey14, H1⟩ := bind_some H1
          refine ow_cutY 8 41 y14 ?_ ?_
          · rcases Bool.eq_false_or_eq_true y13 with hy14 | hy14
            · have ey14 := cond_t ey14 hy14
              refine ow_off (.some rfl hy14) rfl ?_
              refine ow_off (.some rfl hy14) rfl ?_
              refine ow_off (.some rfl hy14) rfl ?_
              refine ow_off (.some rfl hy14) rfl ?_
              refine ow_off (.some rfl hy14) rfl ?_
              refine ow_off (.some rfl hy14) rfl ?_
              refine ow_off (.some rfl hy14) rfl ?_
              refine ow_det .none (stp_pick_t rfl hy14 rfl) rfl ?_
              obtain rfl := Option.some.inj ey14
              exact ow_nil (kw_jy (.top rfl (.cons rfl (.cons rfl (.cons rfl (.cons rfl (.cons rfl (.cons rfl (.cons rfl (.cons rfl (.refl _)))))))))) (.refl _))
            · have ey14 := cond_f ey14 hy14
              refine ow_det (.some rfl hy14) (stp_fieldAddr (j := 1) Tryd.underlying26 rfl ts24 rfl rfl rfl) rfl ?_
              refine ow_det (.some rfl hy14) (stp_load1 ts24 rfl (Cells.box (id := 0) rfl 1 rfl)) rfl ?_
              refine ow_det (.some rfl hy14) (stp_move rfl) rfl ?_
              obtain ⟨x15, e15, ey14⟩ := bind_some ey14
              refine ow_det (.some rfl hy14) (stp_indexAddr Tryd.underlying24 ts53 (by decide) rfl rfl rfl (Rdb.ro hr0_1) e15) rfl ?_
              refine ow_det (.some rfl hy14) (stp_fieldAddr (j := 0) Tryd.underlying53 rfl ts4 rfl rfl rfl) rfl ?_
              refine ow_det (.some rfl hy14) (stp_load1 ts4 rfl (Cells.el (Rdb.ro hr0_1) (by decide) e15 0 1 rfl)) rfl ?_
              refine ow_det (.some rfl hy14) (stp_not rfl) rfl ?_
              refine ow_det .none (stp_pick_f rfl hy14 rfl) rfl ?_
              obtain rfl := Option.some.inj ey14
              exact ow_nil (kw_jy (.top rfl (.cons rfl (.cons rfl (.cons rfl (.cons rfl (.cons rfl (.cons rfl (.cons rfl (.cons rfl (.refl _)))))))))) (.refl _))
          · refine ow_nil ?_
            refine kw_nx ?_
            refine cw_cond rfl (fun h16 => ?_) (fun h16 => ?_)
            · have H1 := cond_t H1 h16
              refine cw_seq ?_
              refine cw_region ?_
              refine ow_det .none (stp_move rfl) rfl ?_
              refine ow_det .none (stp_assign rfl) rfl ?_
              refine ow_det .none (stp_assign rfl) rfl ?_
              refine ow_nil ?_
              refine kw_nx ?_
              refine cw_ret ?_
              refine kw_nx_ret ?_
              refine kw_bl_ret ?_
              refine kw_lq_ret ?_
              refine kw_bl_ret ?_
              refine kw_join_ret ?_
              refine kw_nx_ret ?_
              have q1 := Option.some.inj H1
              subst q1
              have q0 := Option.some.inj H0
              subst q0
              exact kw_ret Tryd.results85 (.cons (.tmp rfl) (.cons (.tmp rfl) .nil)) [(0, C9)] [1] ⟨1, [], rfl, rfl, trivial⟩ (by decide) ⟨p6, ((v5).length), c8, C9, rfl, rfl, rfl, o9⟩
            · have H1 := cond_f H1 h16
              refine cw_skip ?_
              refine kw_nx ?_
              refine cw_seq ?_
              refine cw_region ?_
              refine ow_det .none (stp_move rfl) rfl ?_
              refine ow_det .none (stp_move rfl) rfl ?_
              refine ow_eff .none (stpU_lit (sz := 1) (l := [v10]) [.int .i64 v10] sl23 2 (sevp_cons rfl sevp_nil) rfl rfl rfl rfl rfl rfl rfl rfl rfl) rfl ?_
              rintro _ _ ⟨p17, C18, rfl, rfl, o18⟩
              obtain ⟨x19, e19, H1⟩ := bind_some H1
              refine ow_eff .none (stpU_append sl23 rfl (id := 1) rfl rfl rfl (by simp) rfl o9 (Rdb.own (id := 2) rfl o18) e19) rfl ?_
              rintro _ _ ⟨p20, c21, C22, rfl, rfl, o22⟩
              refine ow_det .none (stp_assign rfl) rfl ?_
              refine ow_nil ?_
              refine kw_nx ?_
              refine cw_region ?_
              refine ow_det .none (stp_fieldAddr (j := 1) Tryd.underlying26 rfl ts24 rfl rfl rfl) rfl ?_
              refine ow_det .none (stp_load1 ts24 rfl (Cells.box (id := 0) rfl 1 rfl)) rfl ?_
              refine ow_det .none (stp_move rfl) rfl ?_
              obtain ⟨x23, e23, H1⟩ := bind_some H1
              refine ow_det .none (stp_indexAddr Tryd.underlying24 ts53 (by decide) rfl rfl rfl (Rdb.ro hr0_1) e23) rfl ?_
              refine ow_det .none (stp_fieldAddr (j := 4) Tryd.underlying53 rfl ts3 rfl rfl rfl) rfl ?_
              refine ow_det .none (stp_load1 ts3 rfl (Cells.el (Rdb.ro hr0_1) (by decide) e23 4 1 rfl)) rfl ?_
              refine ow_det .none (stp_assign rfl) rfl ?_
              refine ow_nil ?_
              refine kw_bl_normal ?_
              exact kw_lqS (js := [0, 1]) (fuel, x19, x23.nx, p20, ((x19).length), c21, C22) ⟨H1, rfl, o22⟩ (Nat.lt_succ_self _) ⟨rfl, rfl, rfl, trivial⟩ ⟨0, [1], rfl, rfl, 1, [], rfl, rfl, trivial⟩ (by decide)
    · have H1 := cond_f H1 h11
      refine cw_exit ?_
      refine kw_nx_exit ?_
      refine kw_lq_exit ?_
      refine kw_bl ?_
      have q1 := Option.some.inj H1
      subst q1
      exact kw_joinS (js := [0, 1]) (v5, v10, p6, ((v5).length), c8, C9) ⟨rfl, rfl, o9⟩ ⟨rfl, rfl, rfl, trivial⟩ ⟨0, [1], rfl, rfl, 1, [], rfl, rfl, trivial⟩ (by decide)
  · rintro ⟨v5, v10, p6, n7, c8, C9⟩ ⟨rfl, hnn7, o9⟩
    obtain rfl := hnn7
    refine KW.sub (s' := [(2, .pointer (some ⟨b1, 0, none⟩)), (6, .slice p6 ((v5).length) c8), (7, .int .i64 v10)]) (h' := [(0, [(b1, .cells #[.slice p0_0 ((a0.b).length) c0_0, .slice p0_1 ((a0.f).length) c0_1] 26 (0, 0))]), (1, C9)]) ?_ ⟨rfl, rfl, rfl, trivial⟩ ⟨rfl, rfl, trivial⟩
    refine kw_nx ?_
    refine cw_seq ?_
    refine cw_region ?_
    refine ow_det .none (stp_move rfl) rfl ?_
    refine ow_det .none (stp_assign rfl) rfl ?_
    refine ow_det .none (stp_assign rfl) rfl ?_
    refine ow_nil ?_
    refine kw_nx ?_
    refine cw_ret ?_
    have q0 := Option.some.inj H0
    subst q0
    exact kw_ret Tryd.results85 (.cons (.tmp rfl) (.cons (.tmp rfl) .nil)) [(0, C9)] [1] ⟨1, [], rfl, rfl, trivial⟩ (by decide) ⟨p6, ((v5).length), c8, C9, rfl, rfl, rfl, o9⟩

set_option maxHeartbeats 4000000 in
set_option maxRecDepth 20000 in
theorem c_s_l3Find (fl : Nat) (w : World) (a0 : T) (p0_0 : Option Addr) (n0_0 c0_0 : Nat) (p0_1 : Option Addr) (n0_1 c0_1 : Nat) (a1 : K) (hn0_0 : n0_0 = (a0.b).length) (hr0_0 : RO w (hkeys []) (RdL p0_0 c0_0 a0.b)) (hn0_1 : n0_1 = (a0.f).length) (hr0_1 : RO w (hkeys []) (RdL p0_1 c0_1 a0.f)) (r : Int × Int) (H0 : s_l3Find fl a0 a1 = some r) :
    Ct Tryd.prog 47 [.agg #[.slice p0_0 n0_0 c0_0, .slice p0_1 n0_1 c0_1], .agg #[.int .i64 a1.s, .int .i64 a1.p]] w [] (fun rv h' => rv = .tuple #[.int .i64 r.1, .int .i64 r.2] ∧ h' = []) := by
  obtain rfl := hn0_0
  obtain rfl := hn0_1
  unfold s_l3Find at H0
  refine ct_of_cw Tryd.func47 rfl Tryd.ntmps47 rfl (Sat.refl _ _) ?_
  refine cw_seq ?_
  refine cw_region ?_
  refine ow_eff .none (stpU_box 0 rfl rfl) rfl ?_
  rintro _ _ ⟨b1, rfl, rfl⟩
  refine ow_eff .none (stpU_box 1 rfl rfl) rfl ?_
  rintro _ _ ⟨b2, rfl, rfl⟩
  refine ow_det .none (stp_assign rfl) rfl ?_
  refine ow_det .none (stp_assign rfl) rfl ?_
  refine ow_nil ?_
  refine kw_nx ?_
  refine cw_seq ?_
  obtain ⟨x3, e3, H0⟩ := bind_some H0
  obtain ⟨x4, e4, H0⟩ := bind_some H0
  refine region_drawn { dst := fun i => match i with | 0 => some 10 | 1 => some 11 | 2 => some 12 | 3 => some 13 | 4 => some 14 | 5 => some 15 | 6 => some 16 | 7 => some 9 | 8 => some 17 | 9 => some 18 | 10 => some 6 | 11 => some 7 | _ => none, pre := fun i => match i with | 3 => [2] | 4 => [2, 3] | 5 => [1, 2, 3, 4] | 6 => [0, 1, 2, 3, 4, 5] | 7 => [0, 1, 2, 3, 4, 5, 6] | 8 => [0, 1, 2, 3, 4, 5, 6, 7] | 9 => [0, 1, 2, 3, 4, 5, 6, 7] | 10 => [0, 1, 2, 3, 4, 5, 6, 7, 8] | 11 => [0, 1, 2, 3, 4, 5, 6, 7, 8, 9, 10] | _ => [], ids := fun i => match i with | 6 => [2] | _ => [], rs := fun i => match i with | 0 => [(2, none)] | 1 => [(3, none)] | 2 => [(2, none)] | 3 => [(12, some 2)] | 4 => [(13, some 3)] | 5 => [(11, some 1), (14, some 4)] | 6 => [(10, some 0), (15, some 5)] | 7 => [(16, some 6)] | 8 => [(9, some 7)] | 9 => [(9, some 7)] | 10 => [(17, some 8)] | 11 => [(18, some 9)] | _ => [], rh := fun i => match i with | 0 => [(0, none)] | 1 => [(1, none)] | 3 => [(0, none)] | _ => [], V := fun i g => match i with | 0 => .agg #[.slice p0_0 ((a0.b).length) c0_0, .slice p0_1 ((a0.f).length) c0_1] | 1 => .agg #[.int .i64 a1.s, .int .i64 a1.p] | 2 => .pointer (some ⟨b1, 0, none⟩) | 3 => .slice p0_0 ((a0.b).length) c0_0 | 4 => .int .i64 ((a0.b).length : Int) | 5 => .int .i64 x3 | 6 => .tuple #[.slice ((g 6).A 0) ((x4.1).length) ((g 6).C 0), .bool x4.2] | 7 => .tuple #[.slice ((g 6).A 0) ((x4.1).length) ((g 6).C 0), .bool x4.2] | 8 => .slice ((g 6).A 0) ((x4.1).length) ((g 6).C 0) | 9 => .bool x4.2 | 10 => .slice ((g 6).A 0) ((x4.1).length) ((g 6).C 0) | 11 => .bool x4.2 | _ => undef, U := fun i g => match i with | 6 => [(2, ((g 6).R 0))] | _ => [], Φ := fun i x => match i with | 6 => OwnC (α := Int) 3 (x.A 0) (x.C 0) x4.1 (x.R 0) | _ => True } g_mixed [2, 3] [0, 1] (by kernel_rfl) (by kernel_rfl) (by kernel_rfl) ⟨⟨⟨⟨⟨⟨⟨⟨⟨⟨⟨⟨trivial, fun _ => ⟨rfl, rfl⟩⟩, fun _ => ⟨rfl, rfl⟩⟩, fun _ => ⟨rfl, rfl⟩⟩, fun _ => ⟨rfl, rfl⟩⟩, fun _ => ⟨rfl, rfl⟩⟩, fun _ => ⟨rfl, rfl⟩⟩, fun _ => ⟨rfl, rfl⟩⟩, fun _ => ⟨rfl, rfl⟩⟩, fun _ => ⟨rfl, rfl⟩⟩, fun _ => ⟨rfl, rfl⟩⟩, fun _ => ⟨rfl, rfl⟩⟩, fun _ => ⟨rfl, rfl⟩⟩ ?_ ?_
  · refine ⟨⟨⟨⟨⟨⟨⟨⟨⟨⟨⟨⟨trivial, ?_⟩, ?_⟩, ?_⟩, ?_⟩, ?_⟩, ?_⟩, ?_⟩, ?_⟩, ?_⟩, ?_⟩, ?_⟩, ?_⟩
    · exact loc_det rfl rfl (fun _ => rfl) trivial (fun g hΦ s h hs hh => ⟨.none, (stp_loadN (us := [_, _]) ts26 (sv hs 2 rfl) (Cells.box (id := 0) (hh.get 0 _ rfl) 2 rfl))⟩)
    · exact loc_det rfl rfl (fun _ => rfl) trivial (fun g hΦ s h hs hh => ⟨.none, (stp_loadN (us := [_, _]) ts28 (sv hs 3 rfl) (Cells.box (id := 1) (hh.get 1 _ rfl) 2 rfl))⟩)
    · exact loc_det rfl rfl (fun _ => rfl) trivial (fun g hΦ s h hs hh => ⟨.none, (stp_fieldAddr (j := 0) Tryd.underlying26 rfl ts23 rfl (sv hs 2 rfl) rfl)⟩)
    · exact loc_det rfl rfl (fun _ => rfl) trivial (fun g hΦ s h hs hh => ⟨.none, (stp_load1 ts23 (sv hs 12 rfl) (Cells.box (id := 0) (hh.get 0 _ rfl) 1 rfl))⟩)
    · exact loc_det rfl rfl (fun _ => rfl) trivial (fun g hΦ s h hs hh => ⟨.none, (stp_len Tryd.underlying23 (sv hs 13 rfl))⟩)
    · refine loc_eff rfl rfl (fun g hΦ s h hs hh => ⟨.none, (stpU_call (fun i => 2 + i) cf86 (fun w hw => c_s_l2Hash fl w a1 ((a0.b).length : Int) x3 e3) (sevs_cons (sv hs 11 rfl) (sevs_cons (sv hs 14 rfl) sevs_nil)))⟩) ?_
      rintro g _ _ ⟨_, ⟨rfl, rfl⟩, rfl⟩
      exact ⟨⟨[], [], []⟩, trivial, .inr rfl, rfl⟩
    · refine loc_eff rfl rfl (fun g hΦ s h hs hh => ⟨.none, (stpU_call (fun i => 2 + i) cf85 (fun w hw => c_s_l3Chain fl w a0 p0_0 ((a0.b).length) c0_0 p0_1 ((a0.f).length) c0_1 x3 rfl (RO.pass hr0_0 hw) rfl (RO.pass hr0_1 hw) x4 e4) (sevs_cons (sv hs 10 rfl) (sevs_cons (sv hs 15 rfl) sevs_nil)))⟩) ?_
      rintro g _ _ ⟨_, ⟨p5, n6, c7, C8, rfl, rfl, hnn6, o8⟩, rfl⟩
      obtain rfl := hnn6
      exact ⟨⟨[p5], [c7], [C8]⟩, o8, .inr rfl, rfl⟩
    · exact loc_det rfl rfl (fun _ => rfl) trivial (fun g hΦ s h hs hh => ⟨.none, (stp_move (sv hs 16 rfl))⟩)
    · exact loc_det rfl rfl (fun _ => rfl) trivial (fun g hΦ s h hs hh => ⟨.none, (stp_extract (sv hs 9 rfl) rfl)⟩)
    · exact loc_det rfl rfl (fun _ => rfl) trivial (fun g hΦ s h hs hh => ⟨.none, (stp_extract (sv hs 9 rfl) rfl)⟩)
    · exact loc_det rfl rfl (fun _ => rfl) trivial (fun g hΦ s h hs hh => ⟨.none, (stp_assign (sv hs 17 rfl))⟩)
    · exact loc_det rfl rfl (fun _ => rfl) trivial (fun g hΦ s h hs hh => ⟨.none, (stp_assign (sv hs 18 rfl))⟩)
  · intro g hΦ
    refine kw_gen (ι := Option Addr × Nat × Res) (((g 6).A 0), ((g 6).C 0), ((g 6).R 0)) (fun | (p5, c7, C8) => OwnC (α := Int) 3 p5 c7 x4.1 C8) (fun | (p5, c7, C8) => [(2, .pointer (some ⟨b1, 0, none⟩)), (3, .pointer (some ⟨b2, 0, none⟩)), (6, .slice p5 ((x4.1).length) c7)]) (fun | (p5, c7, C8) => [(0, [(b1, .cells #[.slice p0_0 ((a0.b).length) c0_0, .slice p0_1 ((a0.f).length) c0_1] 26 (0, 0))]), (1, [(b2, .cells #[.int .i64 a1.s, .int .i64 a1.p] 28 (0, 0))]), (2, C8)]) (hΦ 6 (by decide)) ⟨rfl, rfl, rfl, trivial⟩ ⟨rfl, rfl, rfl, trivial⟩ ?_
    rintro ⟨p5, c7, C8⟩ o8
    have o8 : OwnC (α := Int) 3 p5 c7 x4.1 C8 := o8
    refine KW.sub (s' := [(2, .pointer (some ⟨b1, 0, none⟩)), (3, .pointer (some ⟨b2, 0, none⟩)), (6, .slice p5 ((x4.1).length) c7)]) (h' := [(0, [(b1, .cells #[.slice p0_0 ((a0.b).length) c0_0, .slice p0_1 ((a0.f).length) c0_1] 26 (0, 0))]), (1, [(b2, .cells #[.int .i64 a1.s, .int .i64 a1.p] 28 (0, 0))]), (2, C8)]) ?_ ⟨rfl, rfl, rfl, trivial⟩ ⟨rfl, rfl, rfl, trivial⟩
    refine kw_nx ?_
    refine cw_seq ?_
    refine cw_seq ?_
    refine cw_region ?_
    refine ow_det .none (stp_assign rfl) rfl ?_
    refine ow_nil ?_
    refine kw_nx ?_
    obtain ⟨o0_0, eo0_0, H0⟩ := bind_some H0
    refine cw_join (ι := Int) (fun | v9 => o0_0 = .out v9) (fun | v9 => [(2, .pointer (some ⟨b1, 0, none⟩)), (3, .pointer (some ⟨b2, 0, none⟩)), (6, .slice p5 ((x4.1).length) c7), (8, .int .i64 v9)]) (fun | v9 => [(0, [(b1, .cells #[.slice p0_0 ((a0.b).length) c0_0, .slice p0_1 ((a0.f).length) c0_1] 26 (0, 0))]), (1, [(b2, .cells #[.int .i64 a1.s, .int .i64 a1.p] 28 (0, 0))]), (2, C8)]) ?_ ?_
    · refine cw_block ?_
      refine cw_loopS (ι := Nat × Int) (js := [0, 1, 2]) (fun x => x.1) (fun | (fuel, v9) => s_l3Find_L0 fl a0 a1 x4 fuel v9 = some o0_0) (fun | (_, v9) => [(2, .pointer (some ⟨b1, 0, none⟩)), (3, .pointer (some ⟨b2, 0, none⟩)), (6, .slice p5 ((x4.1).length) c7), (8, .int .i64 v9)]) (fun | (_, v9) => [(0, [(b1, .cells #[.slice p0_0 ((a0.b).length) c0_0, .slice p0_1 ((a0.f).length) c0_1] 26 (0, 0))]), (1, [(b2, .cells #[.int .i64 a1.s, .int .i64 a1.p] 28 (0, 0))]), (2, C8)]) (fl, 0) eo0_0 ⟨rfl, rfl, rfl, rfl, trivial⟩ ⟨0, [1, 2], rfl, rfl, 1, [2], rfl, rfl, 2, [], rfl, rfl, trivial⟩ (by decide) ?_
      rintro ⟨fuel, v9⟩ H1
      have H1 : s_l3Find_L0 fl a0 a1 x4 fuel v9 = some o0_0 := H1
      rcases fuel with _ | fuel
      · rw [s_l3Find_L0.eq_1] at H1; cases H1
      rw [s_l3Find_L0.eq_2] at H1
      refine CW.sub (s' := [(2, .pointer (some ⟨b1, 0, none⟩)), (3, .pointer (some ⟨b2, 0, none⟩)), (6, .slice p5 ((x4.1).length) c7), (8, .int .i64 v9)]) (h' := [(0, [(b1, .cells #[.slice p0_0 ((a0.b).length) c0_0, .slice p0_1 ((a0.f).length) c0_1] 26 (0, 0))]), (1, [(b2, .cells #[.int .i64 a1.s, .int .i64 a1.p] 28 (0, 0))]), (2, C8)]) ?_ ⟨rfl, rfl, rfl, rfl, trivial⟩ ⟨rfl, rfl, rfl, trivial⟩
      refine cw_seq ?_
      refine cw_seq ?_
      refine cw_region ?_
      refine ow_det .none (stp_move rfl) rfl ?_
      refine ow_det .none (stp_move rfl) rfl ?_
      refine ow_det .none (stp_len Tryd.underlying23 rfl) rfl ?_
      refine ow_det .none (stp_lss rfl rfl) rfl ?_
      refine ow_nil ?_
      refine kw_nx ?_
      refine cw_cond rfl (fun h10 => ?_) (fun h10 => ?_)
      · have H1 := cond_t H1 h10
        refine cw_skip ?_
        refine kw_nx ?_
        refine cw_seq ?_
        refine cw_block ?_
        refine cw_seq ?_
        obtain ⟨x11, e11, H1⟩ := bind_some H1
        obtain ⟨x12, e12, H1⟩ := bind_some H1
        refine region_drawn { dst := fun i => match i with | 0 => some 25 | 1 => some 26 | 2 => some 27 | 3 => some 28 | 4 => some 29 | 5 => some 30 | 6 => some 31 | 7 => some 32 | 8 => some 33 | 9 => some 34 | 10 => some 35 | _ => none, pre := fun i => match i with | 1 => [0] | 4 => [2, 3] | 5 => [2, 3, 4] | 6 => [0, 1, 2, 3, 4, 5] | 7 => [0, 1, 2, 3, 4, 5, 6] | 8 => [0, 1, 2, 3, 4, 5, 6, 7] | 10 => [0, 1, 2, 3, 4, 5, 6, 7, 8, 9] | _ => [], ids := fun i => match i with | _ => [], rs := fun i => match i with | 0 => [(2, none)] | 1 => [(25, some 0)] | 2 => [(6, none)] | 3 => [(8, none)] | 4 => [(27, some 2), (28, some 3)] | 5 => [(29, some 4)] | 6 => [(26, some 1), (30, some 5)] | 7 => [(31, some 6)] | 8 => [(32, some 7)] | 9 => [(3, none)] | 10 => [(33, some 8), (34, some 9)] | _ => [], rh := fun i => match i with | 1 => [(0, none)] | 4 => [(2, none)] | 5 => [(2, none)] | 9 => [(1, none)] | _ => [], V := fun i g => match i with | 0 => .pointer (some ⟨b1, 1, none⟩) | 1 => .slice p0_1 ((a0.f).length) c0_1 | 2 => .slice p5 ((x4.1).length) c7 | 3 => .int .i64 v9 | 4 => .pointer (some ⟨eB p5, eO p5 + Int.toNat v9 * Enc.sz Int + 0, none⟩) | 5 => .int .i64 x11 | 6 => .pointer (some ⟨eB p0_1, eO p0_1 + Int.toNat x11 * Enc.sz F + 0, none⟩) | 7 => .pointer (some ⟨eB p0_1, eO p0_1 + Int.toNat x11 * Enc.sz F + 1, none⟩) | 8 => .agg #[.int .i64 x12.k.s, .int .i64 x12.k.p] | 9 => .agg #[.int .i64 a1.s, .int .i64 a1.p] | 10 => .bool (x12.k == a1) | _ => undef, U := fun i g => match i with | _ => [], Φ := fun i x => match i with | _ => True } g_mixed [2, 3, 6, 8] [0, 1, 2] (by kernel_rfl) (by kernel_rfl) (by kernel_rfl) ⟨⟨⟨⟨⟨⟨⟨⟨⟨⟨⟨trivial, fun _ => ⟨rfl, rfl⟩⟩, fun _ => ⟨rfl, rfl⟩⟩, fun _ => ⟨rfl, rfl⟩⟩, fun _ => ⟨rfl, rfl⟩⟩, fun _ => ⟨rfl, rfl⟩⟩, fun _ => ⟨rfl, rfl⟩⟩, fun _ => ⟨rfl, rfl⟩⟩, fun _ => ⟨rfl, rfl⟩⟩, fun _ => ⟨rfl, rfl⟩⟩, fun _ => ⟨rfl, rfl⟩⟩, fun _ => ⟨rfl, rfl⟩⟩ ?_ ?_
        · refine ⟨⟨⟨⟨⟨⟨⟨⟨⟨⟨⟨trivial, ?_⟩, ?_⟩, ?_⟩, ?_⟩, ?_⟩, ?_⟩, ?_⟩, ?_⟩, ?_⟩, ?_⟩, ?_⟩
          · exact loc_det rfl rfl (fun _ => rfl) trivial (fun g hΦ s h hs hh => ⟨.none, (stp_fieldAddr (j := 1) Tryd.underlying26 rfl ts24 rfl (sv hs 2 rfl) rfl)⟩)
          · exact loc_det rfl rfl (fun _ => rfl) trivial (fun g hΦ s h hs hh => ⟨.none, (stp_load1 ts24 (sv hs 25 rfl) (Cells.box (id := 0) (hh.get 0 _ rfl) 1 rfl))⟩)
          · exact loc_det rfl rfl (fun _ => rfl) trivial (fun g hΦ s h hs hh => ⟨.none, (stp_move (sv hs 6 rfl))⟩)
          · exact loc_det rfl rfl (fun _ => rfl) trivial (fun g hΦ s h hs hh => ⟨.none, (stp_move (sv hs 8 rfl))⟩)
          · exact loc_det rfl rfl (fun _ => rfl) trivial (fun g hΦ s h hs hh => ⟨.none, (stp_indexAddr Tryd.underlying23 ts3 (by decide) (sv hs 27 rfl) rfl (sv hs 28 rfl) (Rdb.own (id := 2) (hh.get 2 _ rfl) o8) e11)⟩)
          · exact loc_det rfl rfl (fun _ => rfl) trivial (fun g hΦ s h hs hh => ⟨.none, (stp_load1 ts3 (sv hs 29 rfl) (Cells.el (Rdb.own (id := 2) (hh.get 2 _ rfl) o8) (by decide) e11 0 1 rfl))⟩)
          · exact loc_det rfl rfl (fun _ => rfl) trivial (fun g hΦ s h hs hh => ⟨.none, (stp_indexAddr Tryd.underlying24 ts53 (by decide) (sv hs 26 rfl) rfl (sv hs 30 rfl) (Rdb.ro hr0_1) e12)⟩)
          · exact loc_det rfl rfl (fun _ => rfl) trivial (fun g hΦ s h hs hh => ⟨.none, (stp_fieldAddr (j := 1) Tryd.underlying53 rfl ts28 rfl (sv hs 31 rfl) rfl)⟩)
          · exact loc_det rfl rfl (fun _ => rfl) trivial (fun g hΦ s h hs hh => ⟨.none, (stp_loadN (us := [_, _]) ts28 (sv hs 32 rfl) (Cells.el (Rdb.ro hr0_1) (by decide) e12 1 2 rfl))⟩)
          · exact loc_det rfl rfl (fun _ => rfl) trivial (fun g hΦ s h hs hh => ⟨.none, (stp_loadN (us := [_, _]) ts28 (sv hs 3 rfl) (Cells.box (id := 1) (hh.get 1 _ rfl) 2 rfl))⟩)
          · exact loc_det rfl rfl (fun _ => rfl) trivial (fun g hΦ s h hs hh => ⟨.none, (stp_eqlS te28 x12.k a1 (sv hs 33 rfl) (sv hs 34 rfl))⟩)
        · intro g hΦ
          refine KW.sub (s' := [(2, .pointer (some ⟨b1, 0, none⟩)), (3, .pointer (some ⟨b2, 0, none⟩)), (6, .slice p5 ((x4.1).length) c7), (8, .int .i64 v9), (35, .bool (x12.k == a1))]) (h' := [(0, [(b1, .cells #[.slice p0_0 ((a0.b).length) c0_0, .slice p0_1 ((a0.f).length) c0_1] 26 (0, 0))]), (1, [(b2, .cells #[.int .i64 a1.s, .int .i64 a1.p] 28 (0, 0))]), (2, C8)]) ?_ ⟨rfl, rfl, rfl, rfl, rfl, trivial⟩ ⟨rfl, rfl, rfl, trivial⟩
          refine kw_nx ?_
          refine cw_cond rfl (fun h13 => ?_) (fun h13 => ?_)
          · have H1 := cond_t H1 h13
            refine cw_seq ?_
            refine cw_region ?_
            refine ow_det .none (stp_move rfl) rfl ?_
            refine ow_det .none (stp_move rfl) rfl ?_
            refine ow_det .none (stp_indexAddr Tryd.underlying23 ts3 (by decide) rfl rfl rfl (Rdb.own (id := 2) rfl o8) e11) rfl ?_
            refine ow_det .none (stp_load1 ts3 rfl (Cells.el (Rdb.own (id := 2) rfl o8) (by decide) e11 0 1 rfl)) rfl ?_
            refine ow_det .none (stp_move rfl) rfl ?_
            obtain ⟨x14, e14, H1⟩ := bind_some H1
            refine ow_det .none (stp_add rfl rfl e14) rfl ?_
            refine ow_det .none (stp_assign rfl) rfl ?_
            refine ow_det .none (stp_assign rfl) rfl ?_
            refine ow_nil ?_
            refine kw_nx ?_
            refine cw_ret ?_
            refine kw_bl_ret ?_
            refine kw_nx_ret ?_
            refine kw_lq_ret ?_
            refine kw_bl_ret ?_
            refine kw_join_ret ?_
            refine kw_nx_ret ?_
            have q1 := Option.some.inj H1
            subst q1
            have q0 := Option.some.inj H0
            subst q0
            exact kw_ret Tryd.results47 (.cons (.tmp rfl) (.cons (.tmp rfl) .nil)) [] [] trivial (by decide) ⟨rfl, rfl⟩
          · have H1 := cond_f H1 h13
            refine cw_skip ?_
            refine kw_bl_normal ?_
            refine kw_nx ?_
            refine cw_region ?_
            refine ow_det .none (stp_move rfl) rfl ?_
            obtain ⟨x15, e15, H1⟩ := bind_some H1
            refine ow_det .none (stp_add rfl rfl e15) rfl ?_
            refine ow_det .none (stp_assign rfl) rfl ?_
            refine ow_nil ?_
            exact kw_lqS (js := [0, 1, 2]) (fuel, x15) H1 (Nat.lt_succ_self _) ⟨rfl, rfl, rfl, rfl, trivial⟩ ⟨0, [1, 2], rfl, rfl, 1, [2], rfl, rfl, 2, [], rfl, rfl, trivial⟩ (by decide)
      · have H1 := cond_f H1 h10
        refine cw_exit ?_
        refine kw_nx_exit ?_
        refine kw_lq_exit ?_
        refine kw_bl ?_
        have q1 := Option.some.inj H1
        subst q1
        exact kw_joinS (js := [0, 1, 2]) v9 rfl ⟨rfl, rfl, rfl, rfl, trivial⟩ ⟨0, [1, 2], rfl, rfl, 1, [2], rfl, rfl, 2, [], rfl, rfl, trivial⟩ (by decide)
    · rintro v9 rfl
      refine KW.sub (s' := [(2, .pointer (some ⟨b1, 0, none⟩)), (3, .pointer (some ⟨b2, 0, none⟩)), (6, .slice p5 ((x4.1).length) c7), (8, .int .i64 v9)]) (h' := [(0, [(b1, .cells #[.slice p0_0 ((a0.b).length) c0_0, .slice p0_1 ((a0.f).length) c0_1] 26 (0, 0))]), (1, [(b2, .cells #[.int .i64 a1.s, .int .i64 a1.p] 28 (0, 0))]), (2, C8)]) ?_ ⟨rfl, rfl, rfl, rfl, trivial⟩ ⟨rfl, rfl, rfl, trivial⟩
      refine kw_nx ?_
      refine cw_seq ?_
      refine cw_region ?_
      refine ow_det .none (stp_move rfl) rfl ?_
      refine ow_det .none (stp_len Tryd.underlying23 rfl) rfl ?_
      refine ow_det .none (stp_assign rfl) rfl ?_
      refine ow_det .none (stp_assign rfl) rfl ?_
      refine ow_nil ?_
      refine kw_nx ?_
      refine cw_ret ?_
      have q0 := Option.some.inj H0
      subst q0
      exact kw_ret Tryd.results47 (.cons (.tmp rfl) (.cons (.tmp rfl) .nil)) [] [] trivial (by decide) ⟨rfl, rfl⟩

set_option maxHeartbeats 4000000 in
set_option maxRecDepth 20000 in
theorem c_s_FindPage (fl : Nat) (w : World) (a0 : T) (p0_0 : Option Addr) (n0_0 c0_0 : Nat) (p0_1 : Option Addr) (n0_1 c0_1 : Nat) (a1 : K) (hn0_0 : n0_0 = (a0.b).length) (hr0_0 : RO w (hkeys []) (RdL p0_0 c0_0 a0.b)) (hn0_1 : n0_1 = (a0.f).length) (hr0_1 : RO w (hkeys []) (RdL p0_1 c0_1 a0.f)) (r : Int × Int × Bool) (H0 : s_FindPage fl a0 a1 = some r) :
    Ct Tryd.prog 56 [.agg #[.slice p0_0 n0_0 c0_0, .slice p0_1 n0_1 c0_1], .agg #[.int .i64 a1.s, .int .i64 a1.p]] w [] (fun rv h' => rv = .tuple #[.int .i64 r.1, .int .i64 r.2.1, .bool r.2.2] ∧ h' = []) := by
  obtain rfl := hn0_0
  obtain rfl := hn0_1
  unfold s_FindPage at H0
  refine ct_of_cw Tryd.func56 rfl Tryd.ntmps56 rfl (Sat.refl _ _) ?_
  refine cw_seq ?_
  refine cw_region ?_
  refine ow_eff .none (stpU_box 0 rfl rfl) rfl ?_
  rintro _ _ ⟨b1, rfl, rfl⟩
  refine ow_eff .none (stpU_box 1 rfl rfl) rfl ?_
  rintro _ _ ⟨b2, rfl, rfl⟩
  refine ow_det .none (stp_assign rfl) rfl ?_
  refine ow_det .none (stp_assign rfl) rfl ?_
  refine ow_det .none (stp_assign rfl) rfl ?_
  refine ow_nil ?_
  refine kw_nx ?_
  refine cw_seq ?_
  refine cw_seq ?_
  refine cw_region ?_
  refine ow_det .none (stp_loadN (us := [_, _]) ts26 rfl (Cells.box (id := 0) rfl 2 rfl)) rfl ?_
  obtain ⟨x3, e3, H0⟩ := bind_some H0
  refine ow_eff .none (stpU_call (fun i => 2 + i) cf44 (fun w hw => c_s_TableValid fl w a0 p0_0 ((a0.b).length) c0_0 p0_1 ((a0.f).length) c0_1 rfl (RO.pass hr0_0 hw) rfl (RO.pass hr0_1 hw) x3 e3) (sevs_cons rfl sevs_nil)) rfl ?_
  rintro _ _ ⟨_, ⟨rfl, rfl⟩, rfl⟩
  refine ow_det .none (stp_not rfl) rfl ?_
  refine ow_det .none (stp_move rfl) rfl ?_
  obtain ⟨y4, ey4, H0⟩ := bind_some H0
  refine ow_cutY 4 16 y4 ?_ ?_
  · rcases Bool.eq_false_or_eq_true (!x3) with hy4 | hy4
    · have ey4 := cond_t ey4 hy4
      refine ow_off (.some rfl hy4) rfl ?_
      refine ow_off (.some rfl hy4) rfl ?_
      refine ow_off (.some rfl hy4) rfl ?_
      refine ow_det .none (stp_pick_t rfl hy4 rfl) rfl ?_
      obtain rfl := Option.some.inj ey4
      exact ow_nil (kw_jy (.top rfl (.cons rfl (.cons rfl (.cons rfl (.cons rfl (.refl _)))))) (.refl _))
    · have ey4 := cond_f ey4 hy4
      refine ow_det (.some rfl hy4) (stp_loadN (us := [_, _]) ts28 rfl (Cells.box (id := 1) rfl 2 rfl)) rfl ?_
      obtain ⟨x5, e5, ey4⟩ := bind_some ey4
      refine ow_eff (.some rfl hy4) (stpU_call (fun i => 2 + i) cf45 (fun w hw => c_s_KeyValid fl w a1 x5 e5) (sevs_cons rfl sevs_nil)) rfl ?_
      rintro _ _ ⟨_, ⟨rfl, rfl⟩, rfl⟩
      refine ow_det (.some rfl hy4) (stp_not rfl) rfl ?_
      refine ow_det .none (stp_pick_f rfl hy4 rfl) rfl ?_
      obtain rfl := Option.some.inj ey4
      exact ow_nil (kw_jy (.top rfl (.cons rfl (.cons rfl (.cons rfl (.cons rfl (.refl _)))))) (.refl _))
  · refine ow_nil ?_
    refine kw_nx ?_
    refine cw_cond rfl (fun h6 => ?_) (fun h6 => ?_)
    · have H0 := cond_t H0 h6
      refine cw_seq ?_
      refine cw_region ?_
      refine ow_det .none (stp_assign rfl) rfl ?_
      refine ow_det .none (stp_assign rfl) rfl ?_
      refine ow_det .none (stp_assign rfl) rfl ?_
      refine ow_nil ?_
      refine kw_nx ?_
      refine cw_ret ?_
      refine kw_nx_ret ?_
      have q0 := Option.some.inj H0
      subst q0
      exact kw_ret Tryd.results56 (.cons (.tmp rfl) (.cons (.tmp rfl) (.cons (.tmp rfl) .nil))) [] [] trivial (by decide) ⟨rfl, rfl⟩
    · have H0 := cond_f H0 h6
      refine cw_skip ?_
      refine kw_nx ?_
      refine cw_seq ?_
      refine cw_region ?_
      refine ow_det .none (stp_loadN (us := [_, _]) ts26 rfl (Cells.box (id := 0) rfl 2 rfl)) rfl ?_
      refine ow_det .none (stp_loadN (us := [_, _]) ts28 rfl (Cells.box (id := 1) rfl 2 rfl)) rfl ?_
      obtain ⟨x7, e7, H0⟩ := bind_some H0
      refine ow_eff .none (stpU_call (fun i => 2 + i) cf47 (fun w hw => c_s_l3Find fl w a0 p0_0 ((a0.b).length) c0_0 p0_1 ((a0.f).length) c0_1 a1 rfl (RO.pass hr0_0 hw) rfl (RO.pass hr0_1 hw) x7 e7) (sevs_cons rfl (sevs_cons rfl sevs_nil))) rfl ?_
      rintro _ _ ⟨_, ⟨rfl, rfl⟩, rfl⟩
      refine ow_det .none (stp_move rfl) rfl ?_
      refine ow_det .none (stp_extract rfl rfl) rfl ?_
      refine ow_det .none (stp_extract rfl rfl) rfl ?_
      refine ow_det .none (stp_assign rfl) rfl ?_
      refine ow_det .none (stp_assign rfl) rfl ?_
      refine ow_nil ?_
      refine kw_nx ?_
      refine cw_seq ?_
      refine cw_seq ?_
      refine cw_region ?_
      refine ow_det .none (stp_move rfl) rfl ?_
      refine ow_det .none (stp_lss rfl rfl) rfl ?_
      refine ow_nil ?_
      refine kw_nx ?_
      refine cw_cond rfl (fun h8 => ?_) (fun h8 => ?_)
      · have H0 := cond_t H0 h8
        refine cw_seq ?_
        refine cw_region ?_
        refine ow_det .none (stp_move rfl) rfl ?_
        refine ow_det .none (stp_assign rfl) rfl ?_
        refine ow_det .none (stp_assign rfl) rfl ?_
        refine ow_det .none (stp_assign rfl) rfl ?_
        refine ow_nil ?_
        refine kw_nx ?_
        refine cw_ret ?_
        refine kw_nx_ret ?_
        have q0 := Option.some.inj H0
        subst q0
        exact kw_ret Tryd.results56 (.cons (.tmp rfl) (.cons (.tmp rfl) (.cons (.tmp rfl) .nil))) [] [] trivial (by decide) ⟨rfl, rfl⟩
      · have H0 := cond_f H0 h8
        refine cw_skip ?_
        refine kw_nx ?_
        refine cw_seq ?_
        refine cw_region ?_
        refine ow_det .none (stp_move rfl) rfl ?_
        refine ow_det .none (stp_move rfl) rfl ?_
        refine ow_det .none (stp_assign rfl) rfl ?_
        refine ow_det .none (stp_assign rfl) rfl ?_
        refine ow_det .none (stp_assign rfl) rfl ?_
        refine ow_nil ?_
        refine kw_nx ?_
        refine cw_ret ?_
        have q0 := Option.some.inj H0
        subst q0
        exact kw_ret Tryd.results56 (.cons (.tmp rfl) (.cons (.tmp rfl) (.cons (.tmp rfl) .nil))) [] [] trivial (by decide) ⟨rfl, rfl⟩

set_option maxHeartbeats 4000000 in
set_option maxRecDepth 20000 in
theorem c_s_RightsValid (fl : Nat) (w : World) (a0 : Int) (r : Bool) (H0 : s_RightsValid fl a0 = some r) :
    Ct Tryd.prog 46 [.int .i64 a0] w [] (fun rv h' => rv = .bool r ∧ h' = []) := by
  unfold s_RightsValid at H0
  refine ct_of_cw Tryd.func46 rfl Tryd.ntmps46 rfl (Sat.refl _ _) ?_
  refine cw_seq ?_
  refine cw_region ?_
  refine ow_det .none (stp_assign rfl) rfl ?_
  refine ow_nil ?_
  refine kw_nx ?_
  refine cw_seq ?_
  refine cw_region ?_
  refine ow_det .none (stp_move rfl) rfl ?_
  refine ow_det .none (stp_geq rfl rfl) rfl ?_
  refine ow_det .none (stp_move rfl) rfl ?_
  obtain ⟨y1, ey1, H0⟩ := bind_some H0
  refine ow_cutY 3 8 y1 ?_ ?_
  · rcases Bool.eq_false_or_eq_true (decide (0 ≤ a0)) with hy1 | hy1
    · have ey1 := cond_t ey1 hy1
      refine ow_det (.some rfl hy1) (stp_move rfl) rfl ?_
      refine ow_det (.some rfl hy1) (stp_leq rfl rfl) rfl ?_
      refine ow_det .none (stp_pick_t rfl hy1 rfl) rfl ?_
      obtain rfl := Option.some.inj ey1
      exact ow_nil (kw_jy (.top rfl (.cons rfl (.cons rfl (.cons rfl (.refl _))))) (.refl _))
    · have ey1 := cond_f ey1 hy1
      refine ow_off (.some rfl hy1) rfl ?_
      refine ow_off (.some rfl hy1) rfl ?_
      refine ow_det .none (stp_pick_f rfl hy1 rfl) rfl ?_
      obtain rfl := Option.some.inj ey1
      exact ow_nil (kw_jy (.top rfl (.cons rfl (.cons rfl (.cons rfl (.refl _))))) (.refl _))
  · refine ow_det .none (stp_assign rfl) rfl ?_
    refine ow_nil ?_
    refine kw_nx ?_
    refine cw_ret ?_
    have q0 := Option.some.inj H0
    subst q0
    exact kw_ret Tryd.results46 (.cons (.tmp rfl) .nil) [] [] trivial (by decide) ⟨rfl, rfl⟩

set_option maxHeartbeats 4000000 in
set_option maxRecDepth 20000 in
theorem c_s_l3Copy (fl : Nat) (w : World) (a0 : T) (p0_0 : Option Addr) (n0_0 c0_0 : Nat) (p0_1 : Option Addr) (n0_1 c0_1 : Nat) (hn0_0 : n0_0 = (a0.b).length) (hr0_0 : RO w (hkeys []) (RdL p0_0 c0_0 a0.b)) (hn0_1 : n0_1 = (a0.f).length) (hr0_1 : RO w (hkeys []) (RdL p0_1 c0_1 a0.f)) (r : T) (H0 : s_l3Copy fl a0 = some r) :
    Ct Tryd.prog 57 [.agg #[.slice p0_0 n0_0 c0_0, .slice p0_1 n0_1 c0_1]] w [] (fun rv h' => ∃ (x0 : Option Addr) (y0 z0 : Nat) (C0 : Res) (x1 : Option Addr) (y1 z1 : Nat) (C1 : Res), rv = .agg #[.slice x0 y0 z0, .slice x1 y1 z1] ∧ h' = [(0, C0), (1, C1)] ∧ y0 = (r.b).length ∧ OwnC 3 x0 z0 r.b C0 ∧ y1 = (r.f).length ∧ OwnC 53 x1 z1 r.f C1) := by
  obtain rfl := hn0_0
  obtain rfl := hn0_1
  unfold s_l3Copy at H0
  refine ct_of_cw Tryd.func57 rfl Tryd.ntmps57 rfl (Sat.refl _ _) ?_
  refine cw_seq ?_
  refine cw_region ?_
  refine ow_eff .none (stpU_box 0 rfl rfl) rfl ?_
  rintro _ _ ⟨b1, rfl, rfl⟩
  refine ow_eff .none (stpU_alloc 1 tz26 rfl) rfl ?_
  rintro _ _ ⟨b2, rfl, rfl⟩
  refine ow_nil ?_
  refine kw_nx ?_
  refine cw_seq ?_
  obtain ⟨x5, e5, H0⟩ := bind_some H0
  obtain ⟨x11, e11, H0⟩ := bind_some H0
  refine region_drawn { dst := fun i => match i with | 0 => some 3 | 1 => some 4 | 2 => some 5 | 3 => some 6 | 4 => some 7 | 5 => some 8 | 6 => some 9 | 7 => some 10 | 8 => some 11 | _ => none, pre := fun i => match i with | 2 => [1] | 3 => [0, 1, 2] | 6 => [5] | 7 => [0, 1, 2, 3, 4, 5, 6] | 8 => [0, 1, 2, 3, 4, 5, 6, 7] | 9 => [0, 1, 2, 3, 4, 5, 6, 7, 8] | _ => [], ids := fun i => match i with | 0 => [2] | 3 => [2] | 4 => [3] | 7 => [3] | 9 => [1] | _ => [], rs := fun i => match i with | 1 => [(1, none)] | 2 => [(4, some 1)] | 3 => [(3, some 0), (5, some 2)] | 5 => [(1, none)] | 6 => [(8, some 5)] | 7 => [(7, some 4), (9, some 6)] | 8 => [(6, some 3), (10, some 7)] | 9 => [(2, none), (11, some 8)] | _ => [], rh := fun i => match i with | 2 => [(0, none)] | 3 => [(2, some 0)] | 6 => [(0, none)] | 7 => [(3, some 4)] | 9 => [(1, none)] | _ => [], V := fun i g => match i with | 0 => .slice ((g 0).A 0) 0 0 | 1 => .pointer (some ⟨b1, 0, none⟩) | 2 => .slice p0_0 ((a0.b).length) c0_0 | 3 => .slice ((g 3).A 0) ((x5).length) ((g 3).C 0) | 4 => .slice ((g 4).A 0) 0 0 | 5 => .pointer (some ⟨b1, 1, none⟩) | 6 => .slice p0_1 ((a0.f).length) c0_1 | 7 => .slice ((g 7).A 0) ((x11).length) ((g 7).C 0) | 8 => .agg #[.slice ((g 3).A 0) ((x5).length) ((g 3).C 0), .slice ((g 7).A 0) ((x11).length) ((g 7).C 0)] | _ => undef, U := fun i g => match i with | 0 => [(2, ((g 0).R 0))] | 3 => [(2, ((g 3).R 0))] | 4 => [(3, ((g 4).R 0))] | 7 => [(3, ((g 7).R 0))] | 9 => [(1, [(b2, .cells #[.slice ((g 3).A 0) ((x5).length) ((g 3).C 0), .slice ((g 7).A 0) ((x11).length) ((g 7).C 0)] 26 (0, 0))])] | _ => [], Φ := fun i x => match i with | 0 => OwnC (α := Int) 3 (x.A 0) 0 ([] : List Int) (x.R 0) | 3 => OwnC (α := Int) 3 (x.A 0) (x.C 0) x5 (x.R 0) | 4 => OwnC (α := F) 53 (x.A 0) 0 ([] : List F) (x.R 0) | 7 => OwnC (α := F) 53 (x.A 0) (x.C 0) x11 (x.R 0) | _ => True } g_mixed [1, 2] [0, 1] (by kernel_rfl) (by kernel_rfl) (by kernel_rfl) ⟨⟨⟨⟨⟨⟨⟨⟨⟨⟨trivial, fun _ => ⟨rfl, rfl⟩⟩, fun _ => ⟨rfl, rfl⟩⟩, fun _ => ⟨rfl, rfl⟩⟩, fun _ => ⟨rfl, rfl⟩⟩, fun _ => ⟨rfl, rfl⟩⟩, fun _ => ⟨rfl, rfl⟩⟩, fun _ => ⟨rfl, rfl⟩⟩, fun _ => ⟨rfl, rfl⟩⟩, fun _ => ⟨rfl, rfl⟩⟩, fun _ => ⟨rfl, rfl⟩⟩ ?_ ?_
  · refine ⟨⟨⟨⟨⟨⟨⟨⟨⟨⟨trivial, ?_⟩, ?_⟩, ?_⟩, ?_⟩, ?_⟩, ?_⟩, ?_⟩, ?_⟩, ?_⟩, ?_⟩
    · refine loc_eff rfl rfl (fun g hΦ s h hs hh => ⟨.none, (stpU_lit0 sl23 2)⟩) ?_
      rintro g _ _ ⟨p3, C4, rfl, rfl, o4⟩
      exact ⟨⟨[p3], [], [C4]⟩, o4, .inr rfl, rfl⟩
    · exact loc_det rfl rfl (fun _ => rfl) trivial (fun g hΦ s h hs hh => ⟨.none, (stp_fieldAddr (j := 0) Tryd.underlying26 rfl ts23 rfl (sv hs 1 rfl) rfl)⟩)
    · exact loc_det rfl rfl (fun _ => rfl) trivial (fun g hΦ s h hs hh => ⟨.none, (stp_load1 ts23 (sv hs 4 rfl) (Cells.box (id := 0) (hh.get 0 _ rfl) 1 rfl))⟩)
    · refine loc_eff rfl rfl (fun g hΦ s h hs hh => ⟨.none, (stpU_append sl23 rfl (id := 2) (sv hs 3 rfl) (by simp) (sv hs 5 rfl) rfl (hh.get 2 _ rfl) (hΦ 0 rfl) (Rdb.ro hr0_0) e5)⟩) ?_
      rintro g _ _ ⟨p6, c7, C8, rfl, rfl, o8⟩
      exact ⟨⟨[p6], [c7], [C8]⟩, o8, .inr rfl, rfl⟩
    · refine loc_eff rfl rfl (fun g hΦ s h hs hh => ⟨.none, (stpU_lit0 sl24 3)⟩) ?_
      rintro g _ _ ⟨p9, C10, rfl, rfl, o10⟩
      exact ⟨⟨[p9], [], [C10]⟩, o10, .inr rfl, rfl⟩
    · exact loc_det rfl rfl (fun _ => rfl) trivial (fun g hΦ s h hs hh => ⟨.none, (stp_fieldAddr (j := 1) Tryd.underlying26 rfl ts24 rfl (sv hs 1 rfl) rfl)⟩)
    · exact loc_det rfl rfl (fun _ => rfl) trivial (fun g hΦ s h hs hh => ⟨.none, (stp_load1 ts24 (sv hs 8 rfl) (Cells.box (id := 0) (hh.get 0 _ rfl) 1 rfl))⟩)
    · refine loc_eff rfl rfl (fun g hΦ s h hs hh => ⟨.none, (stpU_append sl24 rfl (id := 3) (sv hs 7 rfl) (by simp) (sv hs 9 rfl) rfl (hh.get 3 _ rfl) (hΦ 4 rfl) (Rdb.ro hr0_1) e11)⟩) ?_
      rintro g _ _ ⟨p12, c13, C14, rfl, rfl, o14⟩
      exact ⟨⟨[p12], [c13], [C14]⟩, o14, .inr rfl, rfl⟩
    · exact loc_det rfl rfl (fun _ => rfl) trivial (fun g hΦ s h hs hh => ⟨.none, (stp_build (cs := #[.slice ((g 3).A 0) ((x5).length) ((g 3).C 0), .slice ((g 7).A 0) ((x11).length) ((g 7).C 0)]) (sevp_cons (sv hs 6 rfl) (sevp_cons (sv hs 10 rfl) sevp_nil)) (by rfl))⟩)
    · refine loc_eff rfl rfl (fun g hΦ s h hs hh => ⟨.none, (stpU_store (id := 1) (cs' := [.slice ((g 3).A 0) ((x5).length) ((g 3).C 0), .slice ((g 7).A 0) ((x11).length) ((g 7).C 0)]) ts26 (sv hs 2 rfl) (sv hs 11 rfl) (hh.get 1 _ rfl) rfl rfl rfl rfl)⟩) ?_
      rintro g _ _ rfl
      exact ⟨⟨[], [], []⟩, trivial, .inl rfl, rfl⟩
  · intro g hΦ
    refine kw_gen (ι := Option Addr × Res × Option Addr × Nat × Res × Option Addr × Res × Option Addr × Nat × Res) (((g 0).A 0), ((g 0).R 0), ((g 3).A 0), ((g 3).C 0), ((g 3).R 0), ((g 4).A 0), ((g 4).R 0), ((g 7).A 0), ((g 7).C 0), ((g 7).R 0)) (fun | (p3, C4, p6, c7, C8, p9, C10, p12, c13, C14) => OwnC (α := Int) 3 p3 0 ([] : List Int) C4 ∧ OwnC (α := Int) 3 p6 c7 x5 C8 ∧ OwnC (α := F) 53 p9 0 ([] : List F) C10 ∧ OwnC (α := F) 53 p12 c13 x11 C14) (fun | (p3, C4, p6, c7, C8, p9, C10, p12, c13, C14) => [(2, .pointer (some ⟨b2, 0, none⟩))]) (fun | (p3, C4, p6, c7, C8, p9, C10, p12, c13, C14) => [(1, [(b2, .cells #[.slice p6 ((x5).length) c7, .slice p12 ((x11).length) c13] 26 (0, 0))]), (2, C8), (3, C14)]) ⟨(hΦ 0 (by decide)), (hΦ 3 (by decide)), (hΦ 4 (by decide)), (hΦ 7 (by decide))⟩ ⟨rfl, trivial⟩ ⟨rfl, rfl, rfl, trivial⟩ ?_
    rintro ⟨p3, C4, p6, c7, C8, p9, C10, p12, c13, C14⟩ ⟨o4, o8, o10, o14⟩
    refine KW.sub (s' := [(2, .pointer (some ⟨b2, 0, none⟩))]) (h' := [(1, [(b2, .cells #[.slice p6 ((x5).length) c7, .slice p12 ((x11).length) c13] 26 (0, 0))]), (2, C8), (3, C14)]) ?_ ⟨rfl, trivial⟩ ⟨rfl, rfl, rfl, trivial⟩
    refine kw_nx ?_
    refine cw_ret ?_
    have q0 := Option.some.inj H0
    subst q0
    exact kw_ret Tryd.results57 (.cons (.cellN (us := [_, _]) ts26 rfl (Cells.box (id := 1) rfl 2 rfl)) .nil) [(0, C8), (1, C14)] [2, 3] ⟨2, [3], rfl, rfl, 3, [], rfl, rfl, trivial⟩ (by decide) ⟨p6, ((x5).length), c7, C8, p12, ((x11).length), c13, C14, rfl, rfl, rfl, o8, rfl, o14⟩

set_option maxHeartbeats 4000000 in
set_option maxRecDepth 20000 in
theorem c_s_ProtectPage (fl : Nat) (w : World) (a0 : T) (p0_0 : Option Addr) (n0_0 c0_0 : Nat) (p0_1 : Option Addr) (n0_1 c0_1 : Nat) (a1 : K) (a2 : Int) (hn0_0 : n0_0 = (a0.b).length) (hr0_0 : RO w (hkeys []) (RdL p0_0 c0_0 a0.b)) (hn0_1 : n0_1 = (a0.f).length) (hr0_1 : RO w (hkeys []) (RdL p0_1 c0_1 a0.f)) (r : T × Bool) (H0 : s_ProtectPage fl a0 a1 a2 = some r) :
    Ct Tryd.prog 20 [.agg #[.slice p0_0 n0_0 c0_0, .slice p0_1 n0_1 c0_1], .agg #[.int .i64 a1.s, .int .i64 a1.p], .int .i64 a2] w [] (fun rv h' => ∃ (x0 : Option Addr) (y0 z0 : Nat) (C0 : Res) (x1 : Option Addr) (y1 z1 : Nat) (C1 : Res), rv = .tuple #[.agg #[.slice x0 y0 z0, .slice x1 y1 z1], .bool r.2] ∧ h' = [(0, C0), (1, C1)] ∧ y0 = (r.1.b).length ∧ OwnC 3 x0 z0 r.1.b C0 ∧ y1 = (r.1.f).length ∧ OwnC 53 x1 z1 r.1.f C1) := by
  obtain rfl := hn0_0
  obtain rfl := hn0_1
  unfold s_ProtectPage at H0
  refine ct_of_cw Tryd.func20 rfl Tryd.ntmps20 rfl (Sat.refl _ _) ?_
  refine cw_seq ?_
  refine cw_region ?_
  refine ow_eff .none (stpU_box 0 rfl rfl) rfl ?_
  rintro _ _ ⟨b1, rfl, rfl⟩
  refine ow_eff .none (stpU_box 1 rfl rfl) rfl ?_
  rintro _ _ ⟨b2, rfl, rfl⟩
  refine ow_eff .none (stpU_alloc 2 tz26 rfl) rfl ?_
  rintro _ _ ⟨b3, rfl, rfl⟩
  refine ow_det .none (stp_assign rfl) rfl ?_
  refine ow_nil ?_
  refine kw_nx ?_
  refine cw_seq ?_
  refine cw_region ?_
  refine ow_det .none (stp_loadN (us := [_, _]) ts26 rfl (Cells.box (id := 0) rfl 2 rfl)) rfl ?_
  refine ow_det .none (stp_loadN (us := [_, _]) ts28 rfl (Cells.box (id := 1) rfl 2 rfl)) rfl ?_
  obtain ⟨x4, e4, H0⟩ := bind_some H0
  refine ow_eff .none (stpU_call (fun i => 3 + i) cf56 (fun w hw => c_s_FindPage fl w a0 p0_0 ((a0.b).length) c0_0 p0_1 ((a0.f).length) c0_1 a1 rfl (RO.pass hr0_0 hw) rfl (RO.pass hr0_1 hw) x4 e4) (sevs_cons rfl (sevs_cons rfl sevs_nil))) rfl ?_
  rintro _ _ ⟨_, ⟨rfl, rfl⟩, rfl⟩
  refine ow_det .none (stp_move rfl) rfl ?_
  refine ow_det .none (stp_extract rfl rfl) rfl ?_
  refine ow_det .none (stp_extract rfl rfl) rfl ?_
  refine ow_det .none (stp_extract rfl rfl) rfl ?_
  refine ow_det .none (stp_assign rfl) rfl ?_
  refine ow_det .none (stp_assign rfl) rfl ?_
  refine ow_det .none (stp_assign rfl) rfl ?_
  refine ow_nil ?_
  refine kw_nx ?_
  refine cw_seq ?_
  refine cw_seq ?_
  refine cw_region ?_
  refine ow_det .none (stp_move rfl) rfl ?_
  refine ow_det .none (stp_not rfl) rfl ?_
  refine ow_det .none (stp_move rfl) rfl ?_
  obtain ⟨y5, ey5, H0⟩ := bind_some H0
  refine ow_cutY 4 25 y5 ?_ ?_
  · rcases Bool.eq_false_or_eq_true (!x4.2.2) with hy5 | hy5
    · have ey5 := cond_t ey5 hy5
      refine ow_off (.some rfl hy5) rfl ?_
      refine ow_off (.some rfl hy5) rfl ?_
      refine ow_off (.some rfl hy5) rfl ?_
      refine ow_det .none (stp_pick_t rfl hy5 rfl) rfl ?_
      obtain rfl := Option.some.inj ey5
      exact ow_nil (kw_jy (.top rfl (.cons rfl (.cons rfl (.cons rfl (.cons rfl (.refl _)))))) (.refl _))
    · have ey5 := cond_f ey5 hy5
      refine ow_det (.some rfl hy5) (stp_move rfl) rfl ?_
      obtain ⟨x6, e6, ey5⟩ := bind_some ey5
      refine ow_eff (.some rfl hy5) (stpU_call (fun i => 3 + i) cf46 (fun w hw => c_s_RightsValid fl w a2 x6 e6) (sevs_cons rfl sevs_nil)) rfl ?_
      rintro _ _ ⟨_, ⟨rfl, rfl⟩, rfl⟩
      refine ow_det (.some rfl hy5) (stp_not rfl) rfl ?_
      refine ow_det .none (stp_pick_f rfl hy5 rfl) rfl ?_
      obtain rfl := Option.some.inj ey5
      exact ow_nil (kw_jy (.top rfl (.cons rfl (.cons rfl (.cons rfl (.cons rfl (.refl _)))))) (.refl _))
  · refine ow_nil ?_
    refine kw_nx ?_
    refine cw_cond rfl (fun h7 => ?_) (fun h7 => ?_)
    · have H0 := cond_t H0 h7
      refine cw_seq ?_
      refine cw_region ?_
      refine ow_det .none (stp_build (cs := #[.slice none 0 0, .slice none 0 0]) sevp_nil (by rfl)) rfl ?_
      refine ow_eff0 .none (stpU_store (id := 2) (cs' := [.slice none 0 0, .slice none 0 0]) ts26 rfl rfl rfl rfl rfl rfl rfl) ?_
      rintro _ _ rfl
      refine ow_det .none (stp_assign rfl) rfl ?_
      refine ow_nil ?_
      refine kw_nx ?_
      refine cw_ret ?_
      refine kw_nx_ret ?_
      refine kw_addNil 3 ?_
      refine kw_addNil 4 ?_
      have q0 := Option.some.inj H0
      subst q0
      exact kw_ret Tryd.results20 (.cons (.cellN (us := [_, _]) ts26 rfl (Cells.box (id := 2) rfl 2 rfl)) (.cons (.tmp rfl) .nil)) [(0, []), (1, [])] [3, 4] ⟨3, [4], rfl, rfl, 4, [], rfl, rfl, trivial⟩ (by decide) ⟨none, 0, 0, [], none, 0, 0, [], rfl, rfl, rfl, (OwnC.nil _ _), rfl, (OwnC.nil _ _)⟩
    · have H0 := cond_f H0 h7
      refine cw_skip ?_
      refine kw_nx ?_
      refine cw_seq ?_
      refine cw_region ?_
      refine ow_det .none (stp_loadN (us := [_, _]) ts26 rfl (Cells.box (id := 0) rfl 2 rfl)) rfl ?_
      obtain ⟨x8, e8, H0⟩ := bind_some H0
      refine ow_eff .none (stpU_call (fun i => 5 + i) cf57 (fun w hw => c_s_l3Copy fl w a0 p0_0 ((a0.b).length) c0_0 p0_1 ((a0.f).length) c0_1 rfl (RO.pass hr0_0 hw) rfl (RO.pass hr0_1 hw) x8 e8) (sevs_cons rfl sevs_nil)) rfl ?_
      rintro _ _ ⟨_, ⟨p9, n10, c11, C12, p13, n14, c15, C16, rfl, rfl, hnn10, o12, hnn14, o16⟩, rfl⟩
      obtain rfl := hnn10
      obtain rfl := hnn14
      refine ow_eff .none (stpU_alloc 7 tz26 rfl) rfl ?_
      rintro _ _ ⟨b17, rfl, rfl⟩
      refine ow_eff0 .none (stpU_store (id := 7) (cs' := [.slice p9 ((x8.b).length) c11, .slice p13 ((x8.f).length) c15]) ts26 rfl rfl rfl rfl rfl rfl rfl) ?_
      rintro _ _ rfl
      refine ow_nil ?_
      refine kw_nx ?_
      refine cw_seq ?_
      refine cw_region ?_
      refine ow_det .none (stp_fieldAddr (j := 1) Tryd.underlying26 rfl ts24 rfl rfl rfl) rfl ?_
      refine ow_det .none (stp_load1 ts24 rfl (Cells.box (id := 7) rfl 1 rfl)) rfl ?_
      refine ow_det .none (stp_move rfl) rfl ?_
      refine ow_det .none (stp_move rfl) rfl ?_
      obtain ⟨x18, e18, H0⟩ := bind_some H0
      refine ow_det .none (stp_indexAddr Tryd.underlying24 ts53 (by decide) rfl rfl rfl (Rdb.own (id := 6) rfl o16) e18) rfl ?_
      refine ow_det .none (stp_fieldAddr (j := 3) Tryd.underlying53 rfl ts3 rfl rfl rfl) rfl ?_
      refine ow_eff0 .none (stpU_storeEl (id := 6) (i := 3) (⟨x18.u, x18.k, a2, x18.nx⟩ : F) (by decide) ts3 rfl rfl rfl o16 e18 rfl rfl rfl rfl) ?_
      rintro _ _ ⟨C19, rfl, o19⟩
      refine ow_nil ?_
      refine kw_nx ?_
      refine cw_seq ?_
      refine cw_region ?_
      refine ow_det .none (stp_loadN (us := [_, _]) ts26 rfl (Cells.box (id := 7) rfl 2 rfl)) rfl ?_
      refine ow_eff0 .none (stpU_store (id := 2) (cs' := [.slice p9 ((x8.b).length) c11, .slice p13 ((x8.f).length) c15]) ts26 rfl rfl rfl rfl rfl rfl rfl) ?_
      rintro _ _ rfl
      refine ow_det .none (stp_assign rfl) rfl ?_
      refine ow_nil ?_
      refine kw_nx ?_
      refine cw_ret ?_
      have q0 := Option.some.inj H0
      subst q0
      exact kw_ret Tryd.results20 (.cons (.cellN (us := [_, _]) ts26 rfl (Cells.box (id := 2) rfl 2 rfl)) (.cons (.tmp rfl) .nil)) [(0, C12), (1, C19)] [5, 6] ⟨5, [6], rfl, rfl, 6, [], rfl, rfl, trivial⟩ (by decide) ⟨p9, ((x8.b).length), c11, C12, p13, ((x8.f).length), c15, C19, rfl, rfl, rfl, o12, (by simp), o19⟩

theorem c_i_TableValid (fl : Nat) (w : World) (a0 : T) (p0_0 : Option Addr) (n0_0 c0_0 : Nat) (p0_1 : Option Addr) (n0_1 c0_1 : Nat) (hn0_0 : n0_0 = (a0.b).length) (hr0_0 : RO w (hkeys []) (RdL p0_0 c0_0 a0.b)) (hn0_1 : n0_1 = (a0.f).length) (hr0_1 : RO w (hkeys []) (RdL p0_1 c0_1 a0.f)) (hg : RO w (hkeys []) (fun w' => w'.rangeAt 0 0 [.bool false, .int .i64 0, .int .i64 0, .int .i64 0, .int .i64 (-1)])) (r : Bool) (H0 : i_TableValid fl a0 = some r) :
    Ct Tryd.prog 18 [.agg #[.slice p0_0 n0_0 c0_0, .slice p0_1 n0_1 c0_1]] w [] (fun rv h' => rv = .bool r ∧ h' = []) := by
  obtain rfl := hn0_0
  obtain rfl := hn0_1
  unfold i_TableValid at H0
  obtain rfl := Option.some.inj H0
  exact ct_of_calls (tableValid_c _ a0 w ⟨_, _, rfl, (hr0_0 w (Fr.refl _ _)).rd, (hr0_1 w (Fr.refl _ _)).rd⟩ (freeG_of (hg w (Fr.refl _ _))))

set_option maxHeartbeats 4000000 in
set_option maxRecDepth 20000 in
theorem c_i_within (fl : Nat) (w : World) (a0 : Int) (a1 : Int) (r : Bool) (H0 : i_within fl a0 a1 = some r) :
    Ct Tryd.prog 40 [.int .i64 a0, .int .i64 a1] w [] (fun rv h' => rv = .bool r ∧ h' = []) := by
  unfold i_within at H0
  refine ct_of_cw Tryd.func40 rfl Tryd.ntmps40 rfl (Sat.refl _ _) ?_
  refine cw_seq ?_
  refine cw_region ?_
  refine ow_det .none (stp_assign rfl) rfl ?_
  refine ow_nil ?_
  refine kw_nx ?_
  refine cw_seq ?_
  refine cw_region ?_
  refine ow_det .none (stp_move rfl) rfl ?_
  refine ow_det .none (stp_geq rfl rfl) rfl ?_
  refine ow_det .none (stp_move rfl) rfl ?_
  obtain ⟨y1, ey1, H0⟩ := bind_some H0
  refine ow_cutY 4 11 y1 ?_ ?_
  · rcases Bool.eq_false_or_eq_true (decide (0 ≤ a0)) with hy1 | hy1
    · have ey1 := cond_t ey1 hy1
      refine ow_det (.some rfl hy1) (stp_move rfl) rfl ?_
      refine ow_det (.some rfl hy1) (stp_move rfl) rfl ?_
      refine ow_det (.some rfl hy1) (stp_lss rfl rfl) rfl ?_
      refine ow_det .none (stp_pick_t rfl hy1 rfl) rfl ?_
      obtain rfl := Option.some.inj ey1
      exact ow_nil (kw_jy (.top rfl (.cons rfl (.cons rfl (.cons rfl (.cons rfl (.refl _)))))) (.refl _))
    · have ey1 := cond_f ey1 hy1
      refine ow_off (.some rfl hy1) rfl ?_
      refine ow_off (.some rfl hy1) rfl ?_
      refine ow_off (.some rfl hy1) rfl ?_
      refine ow_det .none (stp_pick_f rfl hy1 rfl) rfl ?_
      obtain rfl := Option.some.inj ey1
      exact ow_nil (kw_jy (.top rfl (.cons rfl (.cons rfl (.cons rfl (.cons rfl (.refl _)))))) (.refl _))
  · refine ow_det .none (stp_assign rfl) rfl ?_
    refine ow_nil ?_
    refine kw_nx ?_
    refine cw_ret ?_
    have q0 := Option.some.inj H0
    subst q0
    exact kw_ret Tryd.results40 (.cons (.tmp rfl) .nil) [] [] trivial (by decide) ⟨rfl, rfl⟩

set_option maxHeartbeats 4000000 in
set_option maxRecDepth 20000 in
theorem c_i_KeyValid (fl : Nat) (w : World) (a0 : K) (r : Bool) (H0 : i_KeyValid fl a0 = some r) :
    Ct Tryd.prog 38 [.agg #[.int .i64 a0.s, .int .i64 a0.p]] w [] (fun rv h' => rv = .bool r ∧ h' = []) := by
  unfold i_KeyValid at H0
  refine ct_of_cw Tryd.func38 rfl Tryd.ntmps38 rfl (Sat.refl _ _) ?_
  refine cw_seq ?_
  refine cw_region ?_
  refine ow_eff .none (stpU_box 0 rfl rfl) rfl ?_
  rintro _ _ ⟨b1, rfl, rfl⟩
  refine ow_det .none (stp_assign rfl) rfl ?_
  refine ow_nil ?_
  refine kw_nx ?_
  refine cw_seq ?_
  refine cw_region ?_
  refine ow_det .none (stp_fieldAddr (j := 0) Tryd.underlying28 rfl ts3 rfl rfl rfl) rfl ?_
  refine ow_det .none (stp_load1 ts3 rfl (Cells.box (id := 0) rfl 1 rfl)) rfl ?_
  obtain ⟨x2, e2, H0⟩ := bind_some H0
  refine ow_eff .none (stpU_call (fun i => 1 + i) cf40 (fun w hw => c_i_within fl w a0.s 16 x2 e2) (sevs_cons rfl (sevs_cons rfl sevs_nil))) rfl ?_
  rintro _ _ ⟨_, ⟨rfl, rfl⟩, rfl⟩
  refine ow_det .none (stp_move rfl) rfl ?_
  obtain ⟨y3, ey3, H0⟩ := bind_some H0
  refine ow_cutY 4 10 y3 ?_ ?_
  · rcases Bool.eq_false_or_eq_true x2 with hy3 | hy3
    · have ey3 := cond_t ey3 hy3
      refine ow_det (.some rfl hy3) (stp_fieldAddr (j := 1) Tryd.underlying28 rfl ts3 rfl rfl rfl) rfl ?_
      refine ow_det (.some rfl hy3) (stp_load1 ts3 rfl (Cells.box (id := 0) rfl 1 rfl)) rfl ?_
      obtain ⟨x4, e4, ey3⟩ := bind_some ey3
      refine ow_eff (.some rfl hy3) (stpU_call (fun i => 1 + i) cf40 (fun w hw => c_i_within fl w a0.p 256 x4 e4) (sevs_cons rfl (sevs_cons rfl sevs_nil))) rfl ?_
      rintro _ _ ⟨_, ⟨rfl, rfl⟩, rfl⟩
      refine ow_det .none (stp_pick_t rfl hy3 rfl) rfl ?_
      obtain rfl := Option.some.inj ey3
      exact ow_nil (kw_jy (.top rfl (.cons rfl (.cons rfl (.cons rfl (.cons rfl (.refl _)))))) (.refl _))
    · have ey3 := cond_f ey3 hy3
      refine ow_off (.some rfl hy3) rfl ?_
      refine ow_off (.some rfl hy3) rfl ?_
      refine ow_off (.some rfl hy3) rfl ?_
      refine ow_det .none (stp_pick_f rfl hy3 rfl) rfl ?_
      obtain rfl := Option.some.inj ey3
      exact ow_nil (kw_jy (.top rfl (.cons rfl (.cons rfl (.cons rfl (.cons rfl (.refl _)))))) (.refl _))
  · refine ow_det .none (stp_assign rfl) rfl ?_
    refine ow_nil ?_
    refine kw_nx ?_
    refine cw_ret ?_
    have q0 := Option.some.inj H0
    subst q0
    exact kw_ret Tryd.results38 (.cons (.tmp rfl) .nil) [] [] trivial (by decide) ⟨rfl, rfl⟩

set_option maxHeartbeats 4000000 in
set_option maxRecDepth 20000 in
theorem c_i_Table_find_1 (fl : Nat) (w : World) (a0 : F) (qc0 : Nat) (ac0 : K) (hbac0 : RO w (hkeys []) (fun w' => w'.rangeAt qc0 0 [.int .i64 ac0.s, .int .i64 ac0.p])) (r : Bool) (H0 : i_Table_find_1 fl a0 ac0 = some r) :
    Ct Tryd.prog 78 [.agg #[.bool a0.u, .int .i64 a0.k.s, .int .i64 a0.k.p, .int .i64 a0.r, .int .i64 a0.nx], .pointer (some ⟨qc0, 0, none⟩)] w [] (fun rv h' => rv = .bool r ∧ h' = []) := by
  unfold i_Table_find_1 at H0
  refine ct_of_cw Tryd.func78 rfl Tryd.ntmps78 rfl (Sat.refl _ _) ?_
  refine cw_seq ?_
  refine cw_region ?_
  refine ow_eff .none (stpU_box 0 rfl rfl) rfl ?_
  rintro _ _ ⟨b1, rfl, rfl⟩
  refine ow_det .none (stp_assign rfl) rfl ?_
  refine ow_nil ?_
  refine kw_nx ?_
  refine cw_seq ?_
  refine cw_region ?_
  refine ow_det .none (stp_fieldAddr (j := 0) Tryd.underlying53 rfl ts4 rfl rfl rfl) rfl ?_
  refine ow_det .none (stp_load1 ts4 rfl (Cells.box (id := 0) rfl 1 rfl)) rfl ?_
  refine ow_det .none (stp_move rfl) rfl ?_
  obtain ⟨y2, ey2, H0⟩ := bind_some H0
  refine ow_cutY 5 11 y2 ?_ ?_
  · rcases Bool.eq_false_or_eq_true a0.u with hy2 | hy2
    · have ey2 := cond_t ey2 hy2
      refine ow_det (.some rfl hy2) (stp_fieldAddr (j := 1) Tryd.underlying53 rfl ts28 rfl rfl rfl) rfl ?_
      refine ow_det (.some rfl hy2) (stp_loadN (us := [_, _]) ts28 rfl (Cells.box (id := 0) rfl 2 rfl)) rfl ?_
      refine ow_det (.some rfl hy2) (stp_loadN (us := [_, _]) ts28 rfl (Cells.ofRO hbac0 2 rfl)) rfl ?_
      refine ow_det (.some rfl hy2) (stp_eqlS te28 a0.k ac0 rfl rfl) rfl ?_
      refine ow_det .none (stp_pick_t rfl hy2 rfl) rfl ?_
      obtain rfl := Option.some.inj ey2
      exact ow_nil (kw_jy (.top rfl (.cons rfl (.cons rfl (.cons rfl (.cons rfl (.cons rfl (.refl _))))))) (.refl _))
    · have ey2 := cond_f ey2 hy2
      refine ow_off (.some rfl hy2) rfl ?_
      refine ow_off (.some rfl hy2) rfl ?_
      refine ow_off (.some rfl hy2) rfl ?_
      refine ow_off (.some rfl hy2) rfl ?_
      refine ow_det .none (stp_pick_f rfl hy2 rfl) rfl ?_
      obtain rfl := Option.some.inj ey2
      exact ow_nil (kw_jy (.top rfl (.cons rfl (.cons rfl (.cons rfl (.cons rfl (.cons rfl (.refl _))))))) (.refl _))
  · refine ow_det .none (stp_assign rfl) rfl ?_
    refine ow_nil ?_
    refine kw_nx ?_
    refine cw_ret ?_
    have q0 := Option.some.inj H0
    subst q0
    exact kw_ret Tryd.results78 (.cons (.tmp rfl) .nil) [] [] trivial (by decide) ⟨rfl, rfl⟩

set_option maxHeartbeats 4000000 in
set_option maxRecDepth 20000 in
theorem c_slices_IndexFunc_Frame_of_i_Table_find_1 (fl : Nat) (w : World) (a0 : (List F)) (p0_0 : Option Addr) (n0_0 c0_0 : Nat) (q1_0 : Nat) (a1_0 : K) (hn0_0 : n0_0 = (a0).length) (hr0_0 : RO w (hkeys []) (RdL p0_0 c0_0 a0)) (hba1_0 : RO w (hkeys []) (fun w' => w'.rangeAt q1_0 0 [.int .i64 a1_0.s, .int .i64 a1_0.p])) (r : Int) (H0 : slices_IndexFunc_Frame_of_i_Table_find_1 fl a0 a1_0 = some r) :
    Ct Tryd.prog 77 [.slice p0_0 n0_0 c0_0, .func (.func 78) #[] #[.pointer (some ⟨q1_0, 0, none⟩)]] w [] (fun rv h' => rv = .int .i64 r ∧ h' = []) := by
  obtain rfl := hn0_0
  unfold slices_IndexFunc_Frame_of_i_Table_find_1 at H0
  refine ct_of_cw Tryd.func77 rfl Tryd.ntmps77 rfl (Sat.refl _ _) ?_
  refine cw_seq ?_
  refine cw_region ?_
  refine ow_det .none (stp_assign rfl) rfl ?_
  refine ow_nil ?_
  refine kw_nx ?_
  refine cw_seq ?_
  refine cw_seq ?_
  refine cw_region ?_
  refine ow_det .none (stp_move rfl) rfl ?_
  refine ow_det .none (stp_len Tryd.underlying24 rfl) rfl ?_
  refine ow_det .none (stp_move rfl) rfl ?_
  refine ow_nil ?_
  refine kw_nx ?_
  obtain ⟨o0_0, eo0_0, H0⟩ := bind_some H0
  refine cw_join (ι := Int) (fun | v1 => o0_0 = .out v1) (fun | v1 => [(0, .slice p0_0 ((a0).length) c0_0), (1, .func (.func 78) #[] #[.pointer (some ⟨q1_0, 0, none⟩)]), (7, .int .i64 ((a0).length : Int)), (8, .int .i64 v1)]) (fun | v1 => []) ?_ ?_
  · refine cw_block ?_
    refine cw_loopS (ι := Nat × Int) (js := []) (fun x => x.1) (fun | (fuel, v1) => slices_IndexFunc_Frame_of_i_Table_find_1_L0 fl a0 a1_0 fuel v1 = some o0_0) (fun | (_, v1) => [(0, .slice p0_0 ((a0).length) c0_0), (1, .func (.func 78) #[] #[.pointer (some ⟨q1_0, 0, none⟩)]), (7, .int .i64 ((a0).length : Int)), (8, .int .i64 v1)]) (fun | (_, v1) => []) (fl, 0) eo0_0 ⟨rfl, rfl, rfl, rfl, trivial⟩ trivial (by decide) ?_
    rintro ⟨fuel, v1⟩ H1
    have H1 : slices_IndexFunc_Frame_of_i_Table_find_1_L0 fl a0 a1_0 fuel v1 = some o0_0 := H1
    rcases fuel with _ | fuel
    · rw [slices_IndexFunc_Frame_of_i_Table_find_1_L0.eq_1] at H1; cases H1
    rw [slices_IndexFunc_Frame_of_i_Table_find_1_L0.eq_2] at H1
    refine CW.sub (s' := [(0, .slice p0_0 ((a0).length) c0_0), (1, .func (.func 78) #[] #[.pointer (some ⟨q1_0, 0, none⟩)]), (7, .int .i64 ((a0).length : Int)), (8, .int .i64 v1)]) (h' := []) ?_ ⟨rfl, rfl, rfl, rfl, trivial⟩ trivial
    refine cw_seq ?_
    refine cw_region ?_
    refine ow_det .none (stp_lss rfl rfl) rfl ?_
    refine ow_nil ?_
    refine kw_nx ?_
    refine cw_seq ?_
    refine cw_cond rfl (fun h2 => ?_) (fun h2 => ?_)
    · have H1 := cond_t H1 h2
      refine cw_skip ?_
      refine kw_nx ?_
      refine cw_seq ?_
      refine cw_block ?_
      refine cw_seq ?_
      refine cw_region ?_
      refine ow_det .none (stp_move rfl) rfl ?_
      refine ow_det .none (stp_assign rfl) rfl ?_
      refine ow_nil ?_
      refine kw_nx ?_
      refine cw_seq ?_
      refine cw_region ?_
      refine ow_det .none (stp_move rfl) rfl ?_
      refine ow_det .none (stp_move rfl) rfl ?_
      refine ow_det .none (stp_move rfl) rfl ?_
      obtain ⟨x3, e3, H1⟩ := bind_some H1
      refine ow_det .none (stp_indexAddr Tryd.underlying24 ts53 (by decide) rfl rfl rfl (Rdb.ro hr0_0) e3) rfl ?_
      refine ow_det .none (stp_loadN (us := [_, _, _, _, _]) ts53 rfl (Cells.el (Rdb.ro hr0_0) (by decide) e3 0 5 rfl)) rfl ?_
      obtain ⟨x4, e4, H1⟩ := bind_some H1
      refine ow_eff .none (stpU_callF (vals := [_]) (ca := [_]) (fun i => 0 + i) cf78 (fun w hw => c_i_Table_find_1 fl w x3 q1_0 a1_0 (RO.pass hba1_0 hw) x4 e4) rfl (sevs_cons rfl sevs_nil)) rfl ?_
      rintro _ _ ⟨_, ⟨rfl, rfl⟩, rfl⟩
      refine ow_nil ?_
      refine kw_nx ?_
      refine cw_cond rfl (fun h5 => ?_) (fun h5 => ?_)
      · have H1 := cond_t H1 h5
        refine cw_seq ?_
        refine cw_region ?_
        refine ow_det .none (stp_move rfl) rfl ?_
        refine ow_det .none (stp_assign rfl) rfl ?_
        refine ow_nil ?_
        refine kw_nx ?_
        refine cw_ret ?_
        refine kw_bl_ret ?_
        refine kw_nx_ret ?_
        refine kw_lq_ret ?_
        refine kw_bl_ret ?_
        refine kw_join_ret ?_
        refine kw_nx_ret ?_
        have q1 := Option.some.inj H1
        subst q1
        have q0 := Option.some.inj H0
        subst q0
        exact kw_ret Tryd.results77 (.cons (.tmp rfl) .nil) [] [] trivial (by decide) ⟨rfl, rfl⟩
      · have H1 := cond_f H1 h5
        refine cw_skip ?_
        refine kw_bl_normal ?_
        refine kw_nx ?_
        refine cw_region ?_
        obtain ⟨x6, e6, H1⟩ := bind_some H1
        refine ow_det .none (stp_add rfl rfl e6) rfl ?_
        refine ow_det .none (stp_move rfl) rfl ?_
        refine ow_nil ?_
        exact kw_lqS (js := []) (fuel, x6) H1 (Nat.lt_succ_self _) ⟨rfl, rfl, rfl, rfl, trivial⟩ trivial (by decide)
    · have H1 := cond_f H1 h2
      refine cw_exit ?_
      refine kw_nx_exit ?_
      refine kw_lq_exit ?_
      refine kw_bl ?_
      have q1 := Option.some.inj H1
      subst q1
      exact kw_joinS (js := []) v1 rfl ⟨rfl, rfl, rfl, rfl, trivial⟩ trivial (by decide)
  · rintro v1 rfl
    refine KW.sub (s' := [(0, .slice p0_0 ((a0).length) c0_0), (1, .func (.func 78) #[] #[.pointer (some ⟨q1_0, 0, none⟩)]), (7, .int .i64 ((a0).length : Int)), (8, .int .i64 v1)]) (h' := []) ?_ ⟨rfl, rfl, rfl, rfl, trivial⟩ trivial
    refine kw_nx ?_
    refine cw_seq ?_
    refine cw_region ?_
    refine ow_det .none (stp_assign rfl) rfl ?_
    refine ow_nil ?_
    refine kw_nx ?_
    refine cw_ret ?_
    have q0 := Option.some.inj H0
    subst q0
    exact kw_ret Tryd.results77 (.cons (.tmp rfl) .nil) [] [] trivial (by decide) ⟨rfl, rfl⟩

set_option maxHeartbeats 4000000 in
set_option maxRecDepth 20000 in
theorem c_i_Table_find (fl : Nat) (w : World) (a0 : T) (p0_0 : Option Addr) (n0_0 c0_0 : Nat) (p0_1 : Option Addr) (n0_1 c0_1 : Nat) (a1 : K) (hn0_0 : n0_0 = (a0.b).length) (hr0_0 : RO w (hkeys []) (RdL p0_0 c0_0 a0.b)) (hn0_1 : n0_1 = (a0.f).length) (hr0_1 : RO w (hkeys []) (RdL p0_1 c0_1 a0.f)) (r : Int) (H0 : i_Table_find fl a0 a1 = some r) :
    Ct Tryd.prog 39 [.agg #[.slice p0_0 n0_0 c0_0, .slice p0_1 n0_1 c0_1], .agg #[.int .i64 a1.s, .int .i64 a1.p]] w [] (fun rv h' => rv = .int .i64 r ∧ h' = []) := by
  obtain rfl := hn0_0
  obtain rfl := hn0_1
  unfold i_Table_find at H0
  refine ct_of_cw Tryd.func39 rfl Tryd.ntmps39 rfl (Sat.refl _ _) ?_
  refine cw_seq ?_
  refine cw_region ?_
  refine ow_eff .none (stpU_box 0 rfl rfl) rfl ?_
  rintro _ _ ⟨b1, rfl, rfl⟩
  refine ow_eff .none (stpU_box 1 rfl rfl) rfl ?_
  rintro _ _ ⟨b2, rfl, rfl⟩
  refine ow_det .none (stp_assign rfl) rfl ?_
  refine ow_nil ?_
  refine kw_nx ?_
  refine cw_seq ?_
  refine cw_region ?_
  refine ow_det .none (stp_fieldAddr (j := 1) Tryd.underlying26 rfl ts24 rfl rfl rfl) rfl ?_
  refine ow_det .none (stp_load1 ts24 rfl (Cells.box (id := 0) rfl 1 rfl)) rfl ?_
  refine ow_det .none (stp_makeFunc (sevs_cons rfl sevs_nil)) rfl ?_
  obtain ⟨x3, e3, H0⟩ := bind_some H0
  refine ow_eff .none (stpU_call (fun i => 2 + i) cf77 (fun w hw => c_slices_IndexFunc_Frame_of_i_Table_find_1 fl w a0.f p0_1 ((a0.f).length) c0_1 b2 a1 rfl (RO.pass hr0_1 hw) (box_pass (id := 1) rfl hw) x3 e3) (sevs_cons rfl (sevs_cons rfl sevs_nil))) rfl ?_
  rintro _ _ ⟨_, ⟨rfl, rfl⟩, rfl⟩
  refine ow_det .none (stp_assign rfl) rfl ?_
  refine ow_nil ?_
  refine kw_nx ?_
  refine cw_ret ?_
  have q0 := Option.some.inj H0
  subst q0
  exact kw_ret Tryd.results39 (.cons (.tmp rfl) .nil) [] [] trivial (by decide) ⟨rfl, rfl⟩

set_option maxHeartbeats 4000000 in
set_option maxRecDepth 20000 in
theorem c_i_RightsValid (fl : Nat) (w : World) (a0 : Int) (r : Bool) (H0 : i_RightsValid fl a0 = some r) :
    Ct Tryd.prog 41 [.int .i64 a0] w [] (fun rv h' => rv = .bool r ∧ h' = []) := by
  unfold i_RightsValid at H0
  refine ct_of_cw Tryd.func41 rfl Tryd.ntmps41 rfl (Sat.refl _ _) ?_
  refine cw_seq ?_
  refine cw_region ?_
  refine ow_det .none (stp_assign rfl) rfl ?_
  refine ow_nil ?_
  refine kw_nx ?_
  refine cw_seq ?_
  refine cw_region ?_
  refine ow_det .none (stp_move rfl) rfl ?_
  obtain ⟨x1, e1, H0⟩ := bind_some H0
  refine ow_eff .none (stpU_call (fun i => 0 + i) cf40 (fun w hw => c_i_within fl w a0 8 x1 e1) (sevs_cons rfl (sevs_cons rfl sevs_nil))) rfl ?_
  rintro _ _ ⟨_, ⟨rfl, rfl⟩, rfl⟩
  refine ow_det .none (stp_assign rfl) rfl ?_
  refine ow_nil ?_
  refine kw_nx ?_
  refine cw_ret ?_
  have q0 := Option.some.inj H0
  subst q0
  exact kw_ret Tryd.results41 (.cons (.tmp rfl) .nil) [] [] trivial (by decide) ⟨rfl, rfl⟩

set_option maxHeartbeats 4000000 in
set_option maxRecDepth 20000 in
theorem c_slices_Clone_Int (fl : Nat) (w : World) (a0 : (List Int)) (p0_0 : Option Addr) (n0_0 c0_0 : Nat) (hn0_0 : n0_0 = (a0).length) (hr0_0 : RO w (hkeys []) (RdL p0_0 c0_0 a0)) (r : (List Int)) (H0 : slices_Clone_Int fl a0 = some r) :
    Ct Tryd.prog 80 [.slice p0_0 n0_0 c0_0] w [] (fun rv h' => ∃ (x0 : Option Addr) (y0 z0 : Nat) (C0 : Res), rv = .slice x0 y0 z0 ∧ h' = [(0, C0)] ∧ y0 = (r).length ∧ OwnC 3 x0 z0 r C0) := by
  obtain rfl := hn0_0
  unfold slices_Clone_Int at H0
  refine ct_of_cw Tryd.func80 rfl Tryd.ntmps80 rfl (Sat.refl _ _) ?_
  refine cw_seq ?_
  refine cw_region ?_
  refine ow_det .none (stp_assign rfl) rfl ?_
  refine ow_nil ?_
  refine kw_nx ?_
  refine cw_seq ?_
  refine cw_seq ?_
  refine cw_region ?_
  refine ow_det .none (stp_move rfl) rfl ?_
  refine ow_det .none (stp_eqlNil Tryd.underlying23 rfl) rfl ?_
  refine ow_nil ?_
  refine kw_nx ?_
  refine cw_cond rfl (fun h1 => ?_) (fun h1 => ?_)
  · have := True.intro
    obtain rfl : p0_0 = none := by simpa using h1
    obtain rfl : a0 = [] := nil_of_none hr0_0
    obtain rfl : r = [] := (cnt_some H0).1
    refine cw_seq ?_
    refine cw_region ?_
    refine ow_det .none (stp_assign rfl) rfl ?_
    refine ow_nil ?_
    refine kw_nx ?_
    refine cw_ret ?_
    refine kw_nx_ret ?_
    refine kw_addNil 0 ?_
    exact kw_ret Tryd.results80 (.cons (.tmp rfl) .nil) [(0, [])] [0] ⟨0, [], rfl, rfl, trivial⟩ (by decide) ⟨none, 0, 0, [], rfl, rfl, rfl, (OwnC.nil _ _)⟩
  · have := True.intro
    refine cw_skip ?_
    refine kw_nx ?_
    refine cw_seq ?_
    refine cw_region ?_
    refine ow_eff .none (stpU_lit0 sl23 1) rfl ?_
    rintro _ _ ⟨p2, C3, rfl, rfl, o3⟩
    refine ow_det .none (stp_move rfl) rfl ?_
    have e4 : cnt (([] : List Int) ++ a0) = some r := H0
    refine ow_eff .none (stpU_append sl23 rfl (id := 1) rfl (by simp) rfl rfl rfl o3 (Rdb.ro hr0_0) e4) rfl ?_
    rintro _ _ ⟨p5, c6, C7, rfl, rfl, o7⟩
    refine ow_det .none (stp_assign rfl) rfl ?_
    refine ow_nil ?_
    refine kw_nx ?_
    refine cw_ret ?_
    exact kw_ret Tryd.results80 (.cons (.tmp rfl) .nil) [(0, C7)] [1] ⟨1, [], rfl, rfl, trivial⟩ (by decide) ⟨p5, ((r).length), c6, C7, rfl, rfl, rfl, o7⟩

set_option maxHeartbeats 4000000 in
set_option maxRecDepth 20000 in
theorem c_slices_Clone_Frame (fl : Nat) (w : World) (a0 : (List F)) (p0_0 : Option Addr) (n0_0 c0_0 : Nat) (hn0_0 : n0_0 = (a0).length) (hr0_0 : RO w (hkeys []) (RdL p0_0 c0_0 a0)) (r : (List F)) (H0 : slices_Clone_Frame fl a0 = some r) :
    Ct Tryd.prog 82 [.slice p0_0 n0_0 c0_0] w [] (fun rv h' => ∃ (x0 : Option Addr) (y0 z0 : Nat) (C0 : Res), rv = .slice x0 y0 z0 ∧ h' = [(0, C0)] ∧ y0 = (r).length ∧ OwnC 53 x0 z0 r C0) := by
  obtain rfl := hn0_0
  unfold slices_Clone_Frame at H0
  refine ct_of_cw Tryd.func82 rfl Tryd.ntmps82 rfl (Sat.refl _ _) ?_
  refine cw_seq ?_
  refine cw_region ?_
  refine ow_det .none (stp_assign rfl) rfl ?_
  refine ow_nil ?_
  refine kw_nx ?_
  refine cw_seq ?_
  refine cw_seq ?_
  refine cw_region ?_
  refine ow_det .none (stp_move rfl) rfl ?_
  refine ow_det .none (stp_eqlNil Tryd.underlying24 rfl) rfl ?_
  refine ow_nil ?_
  refine kw_nx ?_
  refine cw_cond rfl (fun h1 => ?_) (fun h1 => ?_)
  · have := True.intro
    obtain rfl : p0_0 = none := by simpa using h1
    obtain rfl : a0 = [] := nil_of_none hr0_0
    obtain rfl : r = [] := (cnt_some H0).1
    refine cw_seq ?_
    refine cw_region ?_
    refine ow_det .none (stp_assign rfl) rfl ?_
    refine ow_nil ?_
    refine kw_nx ?_
    refine cw_ret ?_
    refine kw_nx_ret ?_
    refine kw_addNil 0 ?_
    exact kw_ret Tryd.results82 (.cons (.tmp rfl) .nil) [(0, [])] [0] ⟨0, [], rfl, rfl, trivial⟩ (by decide) ⟨none, 0, 0, [], rfl, rfl, rfl, (OwnC.nil _ _)⟩
  · have := True.intro
    refine cw_skip ?_
    refine kw_nx ?_
    refine cw_seq ?_
    refine cw_region ?_
    refine ow_eff .none (stpU_lit0 sl24 1) rfl ?_
    rintro _ _ ⟨p2, C3, rfl, rfl, o3⟩
    refine ow_det .none (stp_move rfl) rfl ?_
    have e4 : cnt (([] : List F) ++ a0) = some r := H0
    refine ow_eff .none (stpU_append sl24 rfl (id := 1) rfl (by simp) rfl rfl rfl o3 (Rdb.ro hr0_0) e4) rfl ?_
    rintro _ _ ⟨p5, c6, C7, rfl, rfl, o7⟩
    refine ow_det .none (stp_assign rfl) rfl ?_
    refine ow_nil ?_
    refine kw_nx ?_
    refine cw_ret ?_
    exact kw_ret Tryd.results82 (.cons (.tmp rfl) .nil) [(0, C7)] [1] ⟨1, [], rfl, rfl, trivial⟩ (by decide) ⟨p5, ((r).length), c6, C7, rfl, rfl, rfl, o7⟩

set_option maxHeartbeats 4000000 in
set_option maxRecDepth 20000 in
theorem c_i_Table_clone (fl : Nat) (w : World) (a0 : T) (p0_0 : Option Addr) (n0_0 c0_0 : Nat) (p0_1 : Option Addr) (n0_1 c0_1 : Nat) (hn0_0 : n0_0 = (a0.b).length) (hr0_0 : RO w (hkeys []) (RdL p0_0 c0_0 a0.b)) (hn0_1 : n0_1 = (a0.f).length) (hr0_1 : RO w (hkeys []) (RdL p0_1 c0_1 a0.f)) (r : T) (H0 : i_Table_clone fl a0 = some r) :
    Ct Tryd.prog 42 [.agg #[.slice p0_0 n0_0 c0_0, .slice p0_1 n0_1 c0_1]] w [] (fun rv h' => ∃ (x0 : Option Addr) (y0 z0 : Nat) (C0 : Res) (x1 : Option Addr) (y1 z1 : Nat) (C1 : Res), rv = .agg #[.slice x0 y0 z0, .slice x1 y1 z1] ∧ h' = [(0, C0), (1, C1)] ∧ y0 = (r.b).length ∧ OwnC 3 x0 z0 r.b C0 ∧ y1 = (r.f).length ∧ OwnC 53 x1 z1 r.f C1) := by
  obtain rfl := hn0_0
  obtain rfl := hn0_1
  unfold i_Table_clone at H0
  refine ct_of_cw Tryd.func42 rfl Tryd.ntmps42 rfl (Sat.refl _ _) ?_
  refine cw_seq ?_
  refine cw_region ?_
  refine ow_eff .none (stpU_box 0 rfl rfl) rfl ?_
  rintro _ _ ⟨b1, rfl, rfl⟩
  refine ow_eff .none (stpU_alloc 1 tz26 rfl) rfl ?_
  rintro _ _ ⟨b2, rfl, rfl⟩
  refine ow_nil ?_
  refine kw_nx ?_
  refine cw_seq ?_
  obtain ⟨x3, e3, H0⟩ := bind_some H0
  obtain ⟨x8, e8, H0⟩ := bind_some H0
  refine region_drawn { dst := fun i => match i with | 0 => some 3 | 1 => some 4 | 2 => some 5 | 3 => some 6 | 4 => some 7 | 5 => some 8 | 6 => some 9 | 7 => some 10 | 8 => some 11 | _ => none, pre := fun i => match i with | 1 => [0] | 2 => [0, 1] | 3 => [0, 1, 2] | 5 => [4] | 6 => [0, 1, 2, 3, 4, 5] | 7 => [0, 1, 2, 3, 4, 5, 6] | 8 => [0, 1, 2, 3, 4, 5, 6, 7] | 9 => [0, 1, 2, 3, 4, 5, 6, 7, 8] | _ => [], ids := fun i => match i with | 2 => [2] | 6 => [3] | 9 => [1] | _ => [], rs := fun i => match i with | 0 => [(1, none)] | 1 => [(3, some 0)] | 2 => [(4, some 1)] | 3 => [(5, some 2)] | 4 => [(1, none)] | 5 => [(7, some 4)] | 6 => [(8, some 5)] | 7 => [(9, some 6)] | 8 => [(6, some 3), (10, some 7)] | 9 => [(2, none), (11, some 8)] | _ => [], rh := fun i => match i with | 1 => [(0, none)] | 5 => [(0, none)] | 9 => [(1, none)] | _ => [], V := fun i g => match i with | 0 => .pointer (some ⟨b1, 0, none⟩) | 1 => .slice p0_0 ((a0.b).length) c0_0 | 2 => .slice ((g 2).A 0) ((x3).length) ((g 2).C 0) | 3 => .slice ((g 2).A 0) ((x3).length) ((x3).length) | 4 => .pointer (some ⟨b1, 1, none⟩) | 5 => .slice p0_1 ((a0.f).length) c0_1 | 6 => .slice ((g 6).A 0) ((x8).length) ((g 6).C 0) | 7 => .slice ((g 6).A 0) ((x8).length) ((x8).length) | 8 => .agg #[.slice ((g 2).A 0) ((x3).length) ((x3).length), .slice ((g 6).A 0) ((x8).length) ((x8).length)] | _ => undef, U := fun i g => match i with | 2 => [(2, ((g 2).R 0))] | 6 => [(3, ((g 6).R 0))] | 9 => [(1, [(b2, .cells #[.slice ((g 2).A 0) ((x3).length) ((x3).length), .slice ((g 6).A 0) ((x8).length) ((x8).length)] 26 (0, 0))])] | _ => [], Φ := fun i x => match i with | 2 => OwnC (α := Int) 3 (x.A 0) (x.C 0) x3 (x.R 0) | 6 => OwnC (α := F) 53 (x.A 0) (x.C 0) x8 (x.R 0) | _ => True } g_mixed [1, 2] [0, 1] (by kernel_rfl) (by kernel_rfl) (by kernel_rfl) ⟨⟨⟨⟨⟨⟨⟨⟨⟨⟨trivial, fun _ => ⟨rfl, rfl⟩⟩, fun _ => ⟨rfl, rfl⟩⟩, fun _ => ⟨rfl, rfl⟩⟩, fun _ => ⟨rfl, rfl⟩⟩, fun _ => ⟨rfl, rfl⟩⟩, fun _ => ⟨rfl, rfl⟩⟩, fun _ => ⟨rfl, rfl⟩⟩, fun _ => ⟨rfl, rfl⟩⟩, fun _ => ⟨rfl, rfl⟩⟩, fun _ => ⟨rfl, rfl⟩⟩ ?_ ?_
  · refine ⟨⟨⟨⟨⟨⟨⟨⟨⟨⟨trivial, ?_⟩, ?_⟩, ?_⟩, ?_⟩, ?_⟩, ?_⟩, ?_⟩, ?_⟩, ?_⟩, ?_⟩
    · exact loc_det rfl rfl (fun _ => rfl) trivial (fun g hΦ s h hs hh => ⟨.none, (stp_fieldAddr (j := 0) Tryd.underlying26 rfl ts23 rfl (sv hs 1 rfl) rfl)⟩)
    · exact loc_det rfl rfl (fun _ => rfl) trivial (fun g hΦ s h hs hh => ⟨.none, (stp_load1 ts23 (sv hs 3 rfl) (Cells.box (id := 0) (hh.get 0 _ rfl) 1 rfl))⟩)
    · refine loc_eff rfl rfl (fun g hΦ s h hs hh => ⟨.none, (stpU_call (fun i => 2 + i) cf80 (fun w hw => c_slices_Clone_Int fl w a0.b p0_0 ((a0.b).length) c0_0 rfl (RO.pass hr0_0 hw) x3 e3) (sevs_cons (sv hs 4 rfl) sevs_nil))⟩) ?_
      rintro g _ _ ⟨_, ⟨p4, n5, c6, C7, rfl, rfl, hnn5, o7⟩, rfl⟩
      obtain rfl := hnn5
      exact ⟨⟨[p4], [c6], [C7]⟩, o7, .inr rfl, rfl⟩
    · refine loc_eff rfl rfl (fun g hΦ s h hs hh => ⟨.none, (stpU_call (fun i => i) cf79 (fun w hw => c_clip79 w ((g 2).A 0) ((x3).length) ((g 2).C 0) (OwnC.len (hΦ 2 rfl)).1) (sevs_cons (sv hs 5 rfl) sevs_nil))⟩) ?_
      rintro g _ _ ⟨_, ⟨rfl, rfl⟩, rfl⟩
      exact ⟨⟨[], [], []⟩, trivial, .inr rfl, rfl⟩
    · exact loc_det rfl rfl (fun _ => rfl) trivial (fun g hΦ s h hs hh => ⟨.none, (stp_fieldAddr (j := 1) Tryd.underlying26 rfl ts24 rfl (sv hs 1 rfl) rfl)⟩)
    · exact loc_det rfl rfl (fun _ => rfl) trivial (fun g hΦ s h hs hh => ⟨.none, (stp_load1 ts24 (sv hs 7 rfl) (Cells.box (id := 0) (hh.get 0 _ rfl) 1 rfl))⟩)
    · refine loc_eff rfl rfl (fun g hΦ s h hs hh => ⟨.none, (stpU_call (fun i => 3 + i) cf82 (fun w hw => c_slices_Clone_Frame fl w a0.f p0_1 ((a0.f).length) c0_1 rfl (RO.pass hr0_1 hw) x8 e8) (sevs_cons (sv hs 8 rfl) sevs_nil))⟩) ?_
      rintro g _ _ ⟨_, ⟨p9, n10, c11, C12, rfl, rfl, hnn10, o12⟩, rfl⟩
      obtain rfl := hnn10
      exact ⟨⟨[p9], [c11], [C12]⟩, o12, .inr rfl, rfl⟩
    · refine loc_eff rfl rfl (fun g hΦ s h hs hh => ⟨.none, (stpU_call (fun i => i) cf81 (fun w hw => c_clip81 w ((g 6).A 0) ((x8).length) ((g 6).C 0) (OwnC.len (hΦ 6 rfl)).1) (sevs_cons (sv hs 9 rfl) sevs_nil))⟩) ?_
      rintro g _ _ ⟨_, ⟨rfl, rfl⟩, rfl⟩
      exact ⟨⟨[], [], []⟩, trivial, .inr rfl, rfl⟩
    · exact loc_det rfl rfl (fun _ => rfl) trivial (fun g hΦ s h hs hh => ⟨.none, (stp_build (cs := #[.slice ((g 2).A 0) ((x3).length) ((x3).length), .slice ((g 6).A 0) ((x8).length) ((x8).length)]) (sevp_cons (sv hs 6 rfl) (sevp_cons (sv hs 10 rfl) sevp_nil)) (by rfl))⟩)
    · refine loc_eff rfl rfl (fun g hΦ s h hs hh => ⟨.none, (stpU_store (id := 1) (cs' := [.slice ((g 2).A 0) ((x3).length) ((x3).length), .slice ((g 6).A 0) ((x8).length) ((x8).length)]) ts26 (sv hs 2 rfl) (sv hs 11 rfl) (hh.get 1 _ rfl) rfl rfl rfl rfl)⟩) ?_
      rintro g _ _ rfl
      exact ⟨⟨[], [], []⟩, trivial, .inl rfl, rfl⟩
  · intro g hΦ
    refine kw_gen (ι := Option Addr × Nat × Res × Option Addr × Nat × Res) (((g 2).A 0), ((g 2).C 0), ((g 2).R 0), ((g 6).A 0), ((g 6).C 0), ((g 6).R 0)) (fun | (p4, c6, C7, p9, c11, C12) => OwnC (α := Int) 3 p4 c6 x3 C7 ∧ OwnC (α := F) 53 p9 c11 x8 C12) (fun | (p4, c6, C7, p9, c11, C12) => [(2, .pointer (some ⟨b2, 0, none⟩))]) (fun | (p4, c6, C7, p9, c11, C12) => [(1, [(b2, .cells #[.slice p4 ((x3).length) ((x3).length), .slice p9 ((x8).length) ((x8).length)] 26 (0, 0))]), (2, C7), (3, C12)]) ⟨(hΦ 2 (by decide)), (hΦ 6 (by decide))⟩ ⟨rfl, trivial⟩ ⟨rfl, rfl, rfl, trivial⟩ ?_
    rintro ⟨p4, c6, C7, p9, c11, C12⟩ ⟨o7, o12⟩
    refine KW.sub (s' := [(2, .pointer (some ⟨b2, 0, none⟩))]) (h' := [(1, [(b2, .cells #[.slice p4 ((x3).length) ((x3).length), .slice p9 ((x8).length) ((x8).length)] 26 (0, 0))]), (2, C7), (3, C12)]) ?_ ⟨rfl, trivial⟩ ⟨rfl, rfl, rfl, trivial⟩
    refine kw_nx ?_
    refine cw_ret ?_
    have q0 := Option.some.inj H0
    subst q0
    exact kw_ret Tryd.results42 (.cons (.cellN (us := [_, _]) ts26 rfl (Cells.box (id := 1) rfl 2 rfl)) .nil) [(0, C7), (1, C12)] [2, 3] ⟨2, [3], rfl, rfl, 3, [], rfl, rfl, trivial⟩ (by decide) ⟨p4, ((x3).length), ((x3).length), C7, p9, ((x8).length), ((x8).length), C12, rfl, rfl, rfl, (OwnC.clip o7), rfl, (OwnC.clip o12)⟩

set_option maxHeartbeats 4000000 in
set_option maxRecDepth 20000 in
theorem c_i_ProtectPage (fl : Nat) (w : World) (a0 : T) (p0_0 : Option Addr) (n0_0 c0_0 : Nat) (p0_1 : Option Addr) (n0_1 c0_1 : Nat) (a1 : K) (a2 : Int) (hn0_0 : n0_0 = (a0.b).length) (hr0_0 : RO w (hkeys []) (RdL p0_0 c0_0 a0.b)) (hn0_1 : n0_1 = (a0.f).length) (hr0_1 : RO w (hkeys []) (RdL p0_1 c0_1 a0.f)) (hg : RO w (hkeys []) (fun w' => w'.rangeAt 0 0 [.bool false, .int .i64 0, .int .i64 0, .int .i64 0, .int .i64 (-1)])) (r : T × Bool) (H0 : i_ProtectPage fl a0 a1 a2 = some r) :
    Ct Tryd.prog 23 [.agg #[.slice p0_0 n0_0 c0_0, .slice p0_1 n0_1 c0_1], .agg #[.int .i64 a1.s, .int .i64 a1.p], .int .i64 a2] w [] (fun rv h' => ∃ (x0 : Option Addr) (y0 z0 : Nat) (C0 : Res) (x1 : Option Addr) (y1 z1 : Nat) (C1 : Res), rv = .tuple #[.agg #[.slice x0 y0 z0, .slice x1 y1 z1], .bool r.2] ∧ h' = [(0, C0), (1, C1)] ∧ y0 = (r.1.b).length ∧ OwnC 3 x0 z0 r.1.b C0 ∧ y1 = (r.1.f).length ∧ OwnC 53 x1 z1 r.1.f C1) := by
  obtain rfl := hn0_0
  obtain rfl := hn0_1
  unfold i_ProtectPage at H0
  refine ct_of_cw Tryd.func23 rfl Tryd.ntmps23 rfl (Sat.refl _ _) ?_
  refine cw_seq ?_
  refine cw_region ?_
  refine ow_eff .none (stpU_box 0 rfl rfl) rfl ?_
  rintro _ _ ⟨b1, rfl, rfl⟩
  refine ow_eff .none (stpU_box 1 rfl rfl) rfl ?_
  rintro _ _ ⟨b2, rfl, rfl⟩
  refine ow_eff .none (stpU_alloc 2 tz26 rfl) rfl ?_
  rintro _ _ ⟨b3, rfl, rfl⟩
  refine ow_det .none (stp_assign rfl) rfl ?_
  refine ow_nil ?_
  refine kw_nx ?_
  refine cw_seq ?_
  refine cw_seq ?_
  refine cw_region ?_
  refine ow_det .none (stp_loadN (us := [_, _]) ts26 rfl (Cells.box (id := 0) rfl 2 rfl)) rfl ?_
  obtain ⟨x4, e4, H0⟩ := bind_some H0
  refine ow_eff .none (stpU_call (fun i => 3 + i) cf18 (fun w hw => c_i_TableValid fl w a0 p0_0 ((a0.b).length) c0_0 p0_1 ((a0.f).length) c0_1 rfl (RO.pass hr0_0 hw) rfl (RO.pass hr0_1 hw) (RO.pass hg hw) x4 e4) (sevs_cons rfl sevs_nil)) rfl ?_
  rintro _ _ ⟨_, ⟨rfl, rfl⟩, rfl⟩
  refine ow_det .none (stp_not rfl) rfl ?_
  refine ow_det .none (stp_move rfl) rfl ?_
  obtain ⟨y5, ey5, H0⟩ := bind_some H0
  refine ow_cutY 4 16 y5 ?_ ?_
  · rcases Bool.eq_false_or_eq_true (!x4) with hy5 | hy5
    · have ey5 := cond_t ey5 hy5
      refine ow_off (.some rfl hy5) rfl ?_
      refine ow_off (.some rfl hy5) rfl ?_
      refine ow_off (.some rfl hy5) rfl ?_
      refine ow_det .none (stp_pick_t rfl hy5 rfl) rfl ?_
      obtain rfl := Option.some.inj ey5
      exact ow_nil (kw_jy (.top rfl (.cons rfl (.cons rfl (.cons rfl (.cons rfl (.refl _)))))) (.refl _))
    · have ey5 := cond_f ey5 hy5
      refine ow_det (.some rfl hy5) (stp_loadN (us := [_, _]) ts28 rfl (Cells.box (id := 1) rfl 2 rfl)) rfl ?_
      obtain ⟨x6, e6, ey5⟩ := bind_some ey5
      refine ow_eff (.some rfl hy5) (stpU_call (fun i => 3 + i) cf38 (fun w hw => c_i_KeyValid fl w a1 x6 e6) (sevs_cons rfl sevs_nil)) rfl ?_
      rintro _ _ ⟨_, ⟨rfl, rfl⟩, rfl⟩
      refine ow_det (.some rfl hy5) (stp_not rfl) rfl ?_
      refine ow_det .none (stp_pick_f rfl hy5 rfl) rfl ?_
      obtain rfl := Option.some.inj ey5
      exact ow_nil (kw_jy (.top rfl (.cons rfl (.cons rfl (.cons rfl (.cons rfl (.refl _)))))) (.refl _))
  · refine ow_det .none (stp_move rfl) rfl ?_
    obtain ⟨y7, ey7, H0⟩ := bind_some H0
    refine ow_cutY 5 22 y7 ?_ ?_
    · rcases Bool.eq_false_or_eq_true y5 with hy7 | hy7
      · have ey7 := cond_t ey7 hy7
        refine ow_off (.some rfl hy7) rfl ?_
        refine ow_off (.some rfl hy7) rfl ?_
        refine ow_off (.some rfl hy7) rfl ?_
        refine ow_off (.some rfl hy7) rfl ?_
        refine ow_det .none (stp_pick_t rfl hy7 rfl) rfl ?_
        obtain rfl := Option.some.inj ey7
        exact ow_nil (kw_jy (.top rfl (.cons rfl (.cons rfl (.cons rfl (.cons rfl (.cons rfl (.refl _))))))) (.refl _))
      · have ey7 := cond_f ey7 hy7
        refine ow_det (.some rfl hy7) (stp_loadN (us := [_, _]) ts26 rfl (Cells.box (id := 0) rfl 2 rfl)) rfl ?_
        refine ow_det (.some rfl hy7) (stp_loadN (us := [_, _]) ts28 rfl (Cells.box (id := 1) rfl 2 rfl)) rfl ?_
        obtain ⟨x8, e8, ey7⟩ := bind_some ey7
        refine ow_eff (.some rfl hy7) (stpU_call (fun i => 3 + i) cf39 (fun w hw => c_i_Table_find fl w a0 p0_0 ((a0.b).length) c0_0 p0_1 ((a0.f).length) c0_1 a1 rfl (RO.pass hr0_0 hw) rfl (RO.pass hr0_1 hw) x8 e8) (sevs_cons rfl (sevs_cons rfl sevs_nil))) rfl ?_
        rintro _ _ ⟨_, ⟨rfl, rfl⟩, rfl⟩
        refine ow_det (.some rfl hy7) (stp_lss rfl rfl) rfl ?_
        refine ow_det .none (stp_pick_f rfl hy7 rfl) rfl ?_
        obtain rfl := Option.some.inj ey7
        exact ow_nil (kw_jy (.top rfl (.cons rfl (.cons rfl (.cons rfl (.cons rfl (.cons rfl (.refl _))))))) (.refl _))
    · refine ow_det .none (stp_move rfl) rfl ?_
      obtain ⟨y9, ey9, H0⟩ := bind_some H0
      refine ow_cutY 4 27 y9 ?_ ?_
      · rcases Bool.eq_false_or_eq_true y7 with hy9 | hy9
        · have ey9 := cond_t ey9 hy9
          refine ow_off (.some rfl hy9) rfl ?_
          refine ow_off (.some rfl hy9) rfl ?_
          refine ow_off (.some rfl hy9) rfl ?_
          refine ow_det .none (stp_pick_t rfl hy9 rfl) rfl ?_
          obtain rfl := Option.some.inj ey9
          exact ow_nil (kw_jy (.top rfl (.cons rfl (.cons rfl (.cons rfl (.cons rfl (.refl _)))))) (.refl _))
        · have ey9 := cond_f ey9 hy9
          refine ow_det (.some rfl hy9) (stp_move rfl) rfl ?_
          obtain ⟨x10, e10, ey9⟩ := bind_some ey9
          refine ow_eff (.some rfl hy9) (stpU_call (fun i => 3 + i) cf41 (fun w hw => c_i_RightsValid fl w a2 x10 e10) (sevs_cons rfl sevs_nil)) rfl ?_
          rintro _ _ ⟨_, ⟨rfl, rfl⟩, rfl⟩
          refine ow_det (.some rfl hy9) (stp_not rfl) rfl ?_
          refine ow_det .none (stp_pick_f rfl hy9 rfl) rfl ?_
          obtain rfl := Option.some.inj ey9
          exact ow_nil (kw_jy (.top rfl (.cons rfl (.cons rfl (.cons rfl (.cons rfl (.refl _)))))) (.refl _))
      · refine ow_nil ?_
        refine kw_nx ?_
        refine cw_cond rfl (fun h11 => ?_) (fun h11 => ?_)
        · have H0 := cond_t H0 h11
          refine cw_seq ?_
          refine cw_region ?_
          refine ow_det .none (stp_build (cs := #[.slice none 0 0, .slice none 0 0]) sevp_nil (by rfl)) rfl ?_
          refine ow_eff0 .none (stpU_store (id := 2) (cs' := [.slice none 0 0, .slice none 0 0]) ts26 rfl rfl rfl rfl rfl rfl rfl) ?_
          rintro _ _ rfl
          refine ow_det .none (stp_assign rfl) rfl ?_
          refine ow_nil ?_
          refine kw_nx ?_
          refine cw_ret ?_
          refine kw_nx_ret ?_
          refine kw_addNil 3 ?_
          refine kw_addNil 4 ?_
          have q0 := Option.some.inj H0
          subst q0
          exact kw_ret Tryd.results23 (.cons (.cellN (us := [_, _]) ts26 rfl (Cells.box (id := 2) rfl 2 rfl)) (.cons (.tmp rfl) .nil)) [(0, []), (1, [])] [3, 4] ⟨3, [4], rfl, rfl, 4, [], rfl, rfl, trivial⟩ (by decide) ⟨none, 0, 0, [], none, 0, 0, [], rfl, rfl, rfl, (OwnC.nil _ _), rfl, (OwnC.nil _ _)⟩
        · have H0 := cond_f H0 h11
          refine cw_skip ?_
          refine kw_nx ?_
          refine cw_seq ?_
          refine cw_region ?_
          refine ow_det .none (stp_loadN (us := [_, _]) ts26 rfl (Cells.box (id := 0) rfl 2 rfl)) rfl ?_
          obtain ⟨x12, e12, H0⟩ := bind_some H0
          refine ow_eff .none (stpU_call (fun i => 5 + i) cf42 (fun w hw => c_i_Table_clone fl w a0 p0_0 ((a0.b).length) c0_0 p0_1 ((a0.f).length) c0_1 rfl (RO.pass hr0_0 hw) rfl (RO.pass hr0_1 hw) x12 e12) (sevs_cons rfl sevs_nil)) rfl ?_
          rintro _ _ ⟨_, ⟨p13, n14, c15, C16, p17, n18, c19, C20, rfl, rfl, hnn14, o16, hnn18, o20⟩, rfl⟩
          obtain rfl := hnn14
          obtain rfl := hnn18
          refine ow_eff .none (stpU_alloc 7 tz26 rfl) rfl ?_
          rintro _ _ ⟨b21, rfl, rfl⟩
          refine ow_eff0 .none (stpU_store (id := 7) (cs' := [.slice p13 ((x12.b).length) c15, .slice p17 ((x12.f).length) c19]) ts26 rfl rfl rfl rfl rfl rfl rfl) ?_
          rintro _ _ rfl
          refine ow_nil ?_
          refine kw_nx ?_
          refine cw_seq ?_
          obtain ⟨x22, e22, H0⟩ := bind_some H0
          obtain ⟨x23, e23, H0⟩ := bind_some H0
          refine region_drawn { dst := fun i => match i with | 0 => some 31 | 1 => some 32 | 2 => some 33 | 3 => some 34 | 4 => some 35 | 5 => some 36 | 6 => some 37 | 7 => some 38 | _ => none, pre := fun i => match i with | 1 => [0] | 4 => [2, 3] | 6 => [0, 1, 2, 3, 4, 5] | 7 => [0, 1, 2, 3, 4, 5, 6] | 8 => [0, 1, 2, 3, 4, 5, 6, 7] | _ => [], ids := fun i => match i with | 8 => [6] | _ => [], rs := fun i => match i with | 0 => [(8, none)] | 1 => [(31, some 0)] | 2 => [(3, none)] | 3 => [(4, none)] | 4 => [(33, some 2), (34, some 3)] | 5 => [(2, none)] | 6 => [(32, some 1), (35, some 4)] | 7 => [(37, some 6)] | 8 => [(38, some 7), (36, some 5)] | _ => [], rh := fun i => match i with | 1 => [(7, none)] | 2 => [(0, none)] | 3 => [(1, none)] | 6 => [(6, none)] | 8 => [(6, none)] | _ => [], V := fun i g => match i with | 0 => .pointer (some ⟨b21, 1, none⟩) | 1 => .slice p17 ((x12.f).length) c19 | 2 => .agg #[.slice p0_0 ((a0.b).length) c0_0, .slice p0_1 ((a0.f).length) c0_1] | 3 => .agg #[.int .i64 a1.s, .int .i64 a1.p] | 4 => .int .i64 x22 | 5 => .int .i64 a2 | 6 => .pointer (some ⟨eB p17, eO p17 + Int.toNat x22 * Enc.sz F + 0, none⟩) | 7 => .pointer (some ⟨eB p17, eO p17 + Int.toNat x22 * Enc.sz F + 3, none⟩) | _ => undef, U := fun i g => match i with | 8 => [(6, ((g 8).R 0))] | _ => [], Φ := fun i x => match i with | 8 => OwnC (α := F) 53 p17 c19 (x12.f.set (Int.toNat x22) (⟨x23.u, x23.k, a2, x23.nx⟩ : F)) (x.R 0) | _ => True } g_mixed [2, 3, 4, 8] [0, 1, 6, 7] (by kernel_rfl) (by kernel_rfl) (by kernel_rfl) ⟨⟨⟨⟨⟨⟨⟨⟨⟨trivial, fun _ => ⟨rfl, rfl⟩⟩, fun _ => ⟨rfl, rfl⟩⟩, fun _ => ⟨rfl, rfl⟩⟩, fun _ => ⟨rfl, rfl⟩⟩, fun _ => ⟨rfl, rfl⟩⟩, fun _ => ⟨rfl, rfl⟩⟩, fun _ => ⟨rfl, rfl⟩⟩, fun _ => ⟨rfl, rfl⟩⟩, fun _ => ⟨rfl, rfl⟩⟩ ?_ ?_
          · refine ⟨⟨⟨⟨⟨⟨⟨⟨⟨trivial, ?_⟩, ?_⟩, ?_⟩, ?_⟩, ?_⟩, ?_⟩, ?_⟩, ?_⟩, ?_⟩
            · exact loc_det rfl rfl (fun _ => rfl) trivial (fun g hΦ s h hs hh => ⟨.none, (stp_fieldAddr (j := 1) Tryd.underlying26 rfl ts24 rfl (sv hs 8 rfl) rfl)⟩)
            · exact loc_det rfl rfl (fun _ => rfl) trivial (fun g hΦ s h hs hh => ⟨.none, (stp_load1 ts24 (sv hs 31 rfl) (Cells.box (id := 7) (hh.get 7 _ rfl) 1 rfl))⟩)
            · exact loc_det rfl rfl (fun _ => rfl) trivial (fun g hΦ s h hs hh => ⟨.none, (stp_loadN (us := [_, _]) ts26 (sv hs 3 rfl) (Cells.box (id := 0) (hh.get 0 _ rfl) 2 rfl))⟩)
            · exact loc_det rfl rfl (fun _ => rfl) trivial (fun g hΦ s h hs hh => ⟨.none, (stp_loadN (us := [_, _]) ts28 (sv hs 4 rfl) (Cells.box (id := 1) (hh.get 1 _ rfl) 2 rfl))⟩)
            · refine loc_eff rfl rfl (fun g hΦ s h hs hh => ⟨.none, (stpU_call (fun i => 8 + i) cf39 (fun w hw => c_i_Table_find fl w a0 p0_0 ((a0.b).length) c0_0 p0_1 ((a0.f).length) c0_1 a1 rfl (RO.pass hr0_0 hw) rfl (RO.pass hr0_1 hw) x22 e22) (sevs_cons (sv hs 33 rfl) (sevs_cons (sv hs 34 rfl) sevs_nil)))⟩) ?_
              rintro g _ _ ⟨_, ⟨rfl, rfl⟩, rfl⟩
              exact ⟨⟨[], [], []⟩, trivial, .inr rfl, rfl⟩
            · exact loc_det rfl rfl (fun _ => rfl) trivial (fun g hΦ s h hs hh => ⟨.none, (stp_move (sv hs 2 rfl))⟩)
            · exact loc_det rfl rfl (fun _ => rfl) trivial (fun g hΦ s h hs hh => ⟨.none, (stp_indexAddr Tryd.underlying24 ts53 (by decide) (sv hs 32 rfl) rfl (sv hs 35 rfl) (Rdb.own (id := 6) (hh.get 6 _ rfl) o20) e23)⟩)
            · exact loc_det rfl rfl (fun _ => rfl) trivial (fun g hΦ s h hs hh => ⟨.none, (stp_fieldAddr (j := 3) Tryd.underlying53 rfl ts3 rfl (sv hs 37 rfl) rfl)⟩)
            · refine loc_eff rfl rfl (fun g hΦ s h hs hh => ⟨.none, (stpU_storeEl (id := 6) (i := 3) (⟨x23.u, x23.k, a2, x23.nx⟩ : F) (by decide) ts3 (sv hs 38 rfl) (sv hs 36 rfl) (hh.get 6 _ rfl) o20 e23 rfl rfl rfl rfl)⟩) ?_
              rintro g _ _ ⟨C24, rfl, o24⟩
              exact ⟨⟨[], [], [C24]⟩, o24, .inl rfl, rfl⟩
          · intro g hΦ
            refine kw_gen (ι := Res) ((g 8).R 0) (fun | C24 => OwnC (α := F) 53 p17 c19 (x12.f.set (Int.toNat x22) (⟨x23.u, x23.k, a2, x23.nx⟩ : F)) C24) (fun | C24 => [(6, .pointer (some ⟨b3, 0, none⟩)), (8, .pointer (some ⟨b21, 0, none⟩))]) (fun | C24 => [(2, [(b3, .cells #[.slice none 0 0, .slice none 0 0] 26 (0, 0))]), (5, C16), (6, C24), (7, [(b21, .cells #[.slice p13 ((x12.b).length) c15, .slice p17 ((x12.f).length) c19] 26 (0, 0))])]) (hΦ 8 (by decide)) ⟨rfl, rfl, trivial⟩ ⟨rfl, rfl, rfl, rfl, trivial⟩ ?_
            rintro C24 o24
            have o24 : OwnC (α := F) 53 p17 c19 (x12.f.set (Int.toNat x22) (⟨x23.u, x23.k, a2, x23.nx⟩ : F)) C24 := o24
            refine KW.sub (s' := [(6, .pointer (some ⟨b3, 0, none⟩)), (8, .pointer (some ⟨b21, 0, none⟩))]) (h' := [(2, [(b3, .cells #[.slice none 0 0, .slice none 0 0] 26 (0, 0))]), (5, C16), (6, C24), (7, [(b21, .cells #[.slice p13 ((x12.b).length) c15, .slice p17 ((x12.f).length) c19] 26 (0, 0))])]) ?_ ⟨rfl, rfl, trivial⟩ ⟨rfl, rfl, rfl, rfl, trivial⟩
            refine kw_nx ?_
            refine cw_seq ?_
            refine cw_region ?_
            refine ow_det .none (stp_loadN (us := [_, _]) ts26 rfl (Cells.box (id := 7) rfl 2 rfl)) rfl ?_
            refine ow_eff0 .none (stpU_store (id := 2) (cs' := [.slice p13 ((x12.b).length) c15, .slice p17 ((x12.f).length) c19]) ts26 rfl rfl rfl rfl rfl rfl rfl) ?_
            rintro _ _ rfl
            refine ow_det .none (stp_assign rfl) rfl ?_
            refine ow_nil ?_
            refine kw_nx ?_
            refine cw_ret ?_
            have q0 := Option.some.inj H0
            subst q0
            exact kw_ret Tryd.results23 (.cons (.cellN (us := [_, _]) ts26 rfl (Cells.box (id := 2) rfl 2 rfl)) (.cons (.tmp rfl) .nil)) [(0, C16), (1, C24)] [5, 6] ⟨5, [6], rfl, rfl, 6, [], rfl, rfl, trivial⟩ (by decide) ⟨p13, ((x12.b).length), c15, C16, p17, ((x12.f).length), c19, C24, rfl, rfl, rfl, o16, (by simp), o24⟩

set_option maxHeartbeats 4000000 in
set_option maxRecDepth 20000 in
theorem c_l_eqIntS (fl : Nat) (w : World) (a0 : (List Int)) (p0_0 : Option Addr) (n0_0 c0_0 : Nat) (a1 : (List Int)) (p1_0 : Option Addr) (n1_0 c1_0 : Nat) (hn0_0 : n0_0 = (a0).length) (hr0_0 : RO w (hkeys []) (RdL p0_0 c0_0 a0)) (hn1_0 : n1_0 = (a1).length) (hr1_0 : RO w (hkeys []) (RdL p1_0 c1_0 a1)) (r : Bool) (H0 : l_eqIntS fl a0 a1 = some r) :
    Ct Tryd.prog 60 [.slice p0_0 n0_0 c0_0, .slice p1_0 n1_0 c1_0] w [] (fun rv h' => rv = .bool r ∧ h' = []) := by
  obtain rfl := hn0_0
  obtain rfl := hn1_0
  unfold l_eqIntS at H0
  refine ct_of_cw Tryd.func60 rfl Tryd.ntmps60 rfl (Sat.refl _ _) ?_
  refine cw_seq ?_
  refine cw_region ?_
  refine ow_det .none (stp_assign rfl) rfl ?_
  refine ow_nil ?_
  refine kw_nx ?_
  refine cw_seq ?_
  refine cw_seq ?_
  refine cw_region ?_
  refine ow_det .none (stp_move rfl) rfl ?_
  refine ow_det .none (stp_len Tryd.underlying23 rfl) rfl ?_
  refine ow_det .none (stp_move rfl) rfl ?_
  refine ow_det .none (stp_len Tryd.underlying23 rfl) rfl ?_
  refine ow_det .none (stp_neq rfl rfl) rfl ?_
  refine ow_nil ?_
  refine kw_nx ?_
  refine cw_cond rfl (fun h1 => ?_) (fun h1 => ?_)
  · have H0 := cond_t H0 h1
    refine cw_seq ?_
    refine cw_region ?_
    refine ow_det .none (stp_assign rfl) rfl ?_
    refine ow_nil ?_
    refine kw_nx ?_
    refine cw_ret ?_
    refine kw_nx_ret ?_
    have q0 := Option.some.inj H0
    subst q0
    exact kw_ret Tryd.results60 (.cons (.tmp rfl) .nil) [] [] trivial (by decide) ⟨rfl, rfl⟩
  · have H0 := cond_f H0 h1
    refine cw_skip ?_
    refine kw_nx ?_
    refine cw_seq ?_
    refine cw_seq ?_
    refine cw_region ?_
    refine ow_det .none (stp_assign rfl) rfl ?_
    refine ow_nil ?_
    refine kw_nx ?_
    obtain ⟨o0_0, eo0_0, H0⟩ := bind_some H0
    refine cw_join (ι := Int) (fun | v2 => o0_0 = .out v2) (fun | v2 => [(0, .slice p0_0 ((a0).length) c0_0), (1, .slice p1_0 ((a1).length) c1_0), (5, .int .i64 v2)]) (fun | v2 => []) ?_ ?_
    · refine cw_block ?_
      refine cw_loopS (ι := Nat × Int) (js := []) (fun x => x.1) (fun | (fuel, v2) => l_eqIntS_L0 fl a0 a1 fuel v2 = some o0_0) (fun | (_, v2) => [(0, .slice p0_0 ((a0).length) c0_0), (1, .slice p1_0 ((a1).length) c1_0), (5, .int .i64 v2)]) (fun | (_, v2) => []) (fl, 0) eo0_0 ⟨rfl, rfl, rfl, trivial⟩ trivial (by decide) ?_
      rintro ⟨fuel, v2⟩ H1
      have H1 : l_eqIntS_L0 fl a0 a1 fuel v2 = some o0_0 := H1
      rcases fuel with _ | fuel
      · rw [l_eqIntS_L0.eq_1] at H1; cases H1
      rw [l_eqIntS_L0.eq_2] at H1
      refine CW.sub (s' := [(0, .slice p0_0 ((a0).length) c0_0), (1, .slice p1_0 ((a1).length) c1_0), (5, .int .i64 v2)]) (h' := []) ?_ ⟨rfl, rfl, rfl, trivial⟩ trivial
      refine cw_seq ?_
      refine cw_seq ?_
      refine cw_region ?_
      refine ow_det .none (stp_move rfl) rfl ?_
      refine ow_det .none (stp_move rfl) rfl ?_
      refine ow_det .none (stp_len Tryd.underlying23 rfl) rfl ?_
      refine ow_det .none (stp_lss rfl rfl) rfl ?_
      refine ow_nil ?_
      refine kw_nx ?_
      refine cw_cond rfl (fun h3 => ?_) (fun h3 => ?_)
      · have H1 := cond_t H1 h3
        refine cw_skip ?_
        refine kw_nx ?_
        refine cw_seq ?_
        refine cw_block ?_
        refine cw_seq ?_
        obtain ⟨x4, e4, H1⟩ := bind_some H1
        obtain ⟨x5, e5, H1⟩ := bind_some H1
        refine region_drawn { dst := fun i => match i with | 0 => some 17 | 1 => some 18 | 2 => some 19 | 3 => some 20 | 4 => some 21 | 5 => some 22 | 6 => some 23 | 7 => some 24 | 8 => some 25 | _ => none, pre := fun i => match i with | 2 => [0, 1] | 3 => [0, 1, 2] | 6 => [4, 5] | 7 => [4, 5, 6] | 8 => [0, 1, 2, 3, 4, 5, 6, 7] | _ => [], ids := fun i => match i with | _ => [], rs := fun i => match i with | 0 => [(0, none)] | 1 => [(5, none)] | 2 => [(17, some 0), (18, some 1)] | 3 => [(19, some 2)] | 4 => [(1, none)] | 5 => [(5, none)] | 6 => [(21, some 4), (22, some 5)] | 7 => [(23, some 6)] | 8 => [(20, some 3), (24, some 7)] | _ => [], rh := fun i => match i with | _ => [], V := fun i g => match i with | 0 => .slice p0_0 ((a0).length) c0_0 | 1 => .int .i64 v2 | 2 => .pointer (some ⟨eB p0_0, eO p0_0 + Int.toNat v2 * Enc.sz Int + 0, none⟩) | 3 => .int .i64 x4 | 4 => .slice p1_0 ((a1).length) c1_0 | 5 => .int .i64 v2 | 6 => .pointer (some ⟨eB p1_0, eO p1_0 + Int.toNat v2 * Enc.sz Int + 0, none⟩) | 7 => .int .i64 x5 | 8 => .bool (x4 != x5) | _ => undef, U := fun i g => match i with | _ => [], Φ := fun i x => match i with | _ => True } g_mixed [0, 1, 5] [] (by kernel_rfl) (by kernel_rfl) (by kernel_rfl) ⟨⟨⟨⟨⟨⟨⟨⟨⟨trivial, fun _ => ⟨rfl, rfl⟩⟩, fun _ => ⟨rfl, rfl⟩⟩, fun _ => ⟨rfl, rfl⟩⟩, fun _ => ⟨rfl, rfl⟩⟩, fun _ => ⟨rfl, rfl⟩⟩, fun _ => ⟨rfl, rfl⟩⟩, fun _ => ⟨rfl, rfl⟩⟩, fun _ => ⟨rfl, rfl⟩⟩, fun _ => ⟨rfl, rfl⟩⟩ ?_ ?_
        · refine ⟨⟨⟨⟨⟨⟨⟨⟨⟨trivial, ?_⟩, ?_⟩, ?_⟩, ?_⟩, ?_⟩, ?_⟩, ?_⟩, ?_⟩, ?_⟩
          · exact loc_det rfl rfl (fun _ => rfl) trivial (fun g hΦ s h hs hh => ⟨.none, (stp_move (sv hs 0 rfl))⟩)
          · exact loc_det rfl rfl (fun _ => rfl) trivial (fun g hΦ s h hs hh => ⟨.none, (stp_move (sv hs 5 rfl))⟩)
          · exact loc_det rfl rfl (fun _ => rfl) trivial (fun g hΦ s h hs hh => ⟨.none, (stp_indexAddr Tryd.underlying23 ts3 (by decide) (sv hs 17 rfl) rfl (sv hs 18 rfl) (Rdb.ro hr0_0) e4)⟩)
          · exact loc_det rfl rfl (fun _ => rfl) trivial (fun g hΦ s h hs hh => ⟨.none, (stp_load1 ts3 (sv hs 19 rfl) (Cells.el (Rdb.ro hr0_0) (by decide) e4 0 1 rfl))⟩)
          · exact loc_det rfl rfl (fun _ => rfl) trivial (fun g hΦ s h hs hh => ⟨.none, (stp_move (sv hs 1 rfl))⟩)
          · exact loc_det rfl rfl (fun _ => rfl) trivial (fun g hΦ s h hs hh => ⟨.none, (stp_move (sv hs 5 rfl))⟩)
          · exact loc_det rfl rfl (fun _ => rfl) trivial (fun g hΦ s h hs hh => ⟨.none, (stp_indexAddr Tryd.underlying23 ts3 (by decide) (sv hs 21 rfl) rfl (sv hs 22 rfl) (Rdb.ro hr1_0) e5)⟩)
          · exact loc_det rfl rfl (fun _ => rfl) trivial (fun g hΦ s h hs hh => ⟨.none, (stp_load1 ts3 (sv hs 23 rfl) (Cells.el (Rdb.ro hr1_0) (by decide) e5 0 1 rfl))⟩)
          · exact loc_det rfl rfl (fun _ => rfl) trivial (fun g hΦ s h hs hh => ⟨.none, (stp_neq (sv hs 20 rfl) (sv hs 24 rfl))⟩)
        · intro g hΦ
          refine KW.sub (s' := [(0, .slice p0_0 ((a0).length) c0_0), (1, .slice p1_0 ((a1).length) c1_0), (5, .int .i64 v2), (25, .bool (x4 != x5))]) (h' := []) ?_ ⟨rfl, rfl, rfl, rfl, trivial⟩ trivial
          refine kw_nx ?_
          refine cw_cond rfl (fun h6 => ?_) (fun h6 => ?_)
          · have H1 := cond_t H1 h6
            refine cw_seq ?_
            refine cw_region ?_
            refine ow_det .none (stp_assign rfl) rfl ?_
            refine ow_nil ?_
            refine kw_nx ?_
            refine cw_ret ?_
            refine kw_bl_ret ?_
            refine kw_nx_ret ?_
            refine kw_lq_ret ?_
            refine kw_bl_ret ?_
            refine kw_join_ret ?_
            refine kw_nx_ret ?_
            have q1 := Option.some.inj H1
            subst q1
            have q0 := Option.some.inj H0
            subst q0
            exact kw_ret Tryd.results60 (.cons (.tmp rfl) .nil) [] [] trivial (by decide) ⟨rfl, rfl⟩
          · have H1 := cond_f H1 h6
            refine cw_skip ?_
            refine kw_bl_normal ?_
            refine kw_nx ?_
            refine cw_region ?_
            refine ow_det .none (stp_move rfl) rfl ?_
            obtain ⟨x7, e7, H1⟩ := bind_some H1
            refine ow_det .none (stp_add rfl rfl e7) rfl ?_
            refine ow_det .none (stp_assign rfl) rfl ?_
            refine ow_nil ?_
            exact kw_lqS (js := []) (fuel, x7) H1 (Nat.lt_succ_self _) ⟨rfl, rfl, rfl, trivial⟩ trivial (by decide)
      · have H1 := cond_f H1 h3
        refine cw_exit ?_
        refine kw_nx_exit ?_
        refine kw_lq_exit ?_
        refine kw_bl ?_
        have q1 := Option.some.inj H1
        subst q1
        exact kw_joinS (js := []) v2 rfl ⟨rfl, rfl, rfl, trivial⟩ trivial (by decide)
    · rintro v2 rfl
      refine KW.sub (s' := [(0, .slice p0_0 ((a0).length) c0_0), (1, .slice p1_0 ((a1).length) c1_0), (5, .int .i64 v2)]) (h' := []) ?_ ⟨rfl, rfl, rfl, trivial⟩ trivial
      refine kw_nx ?_
      refine cw_seq ?_
      refine cw_region ?_
      refine ow_det .none (stp_assign rfl) rfl ?_
      refine ow_nil ?_
      refine kw_nx ?_
      refine cw_ret ?_
      have q0 := Option.some.inj H0
      subst q0
      exact kw_ret Tryd.results60 (.cons (.tmp rfl) .nil) [] [] trivial (by decide) ⟨rfl, rfl⟩

set_option maxHeartbeats 4000000 in
set_option maxRecDepth 20000 in
theorem c_l_eqKey (fl : Nat) (w : World) (a0 : K) (a1 : K) (r : Bool) (H0 : l_eqKey fl a0 a1 = some r) :
    Ct Tryd.prog 95 [.agg #[.int .i64 a0.s, .int .i64 a0.p], .agg #[.int .i64 a1.s, .int .i64 a1.p]] w [] (fun rv h' => rv = .bool r ∧ h' = []) := by
  unfold l_eqKey at H0
  refine ct_of_cw Tryd.func95 rfl Tryd.ntmps95 rfl (Sat.refl _ _) ?_
  refine cw_seq ?_
  refine cw_region ?_
  refine ow_eff .none (stpU_box 0 rfl rfl) rfl ?_
  rintro _ _ ⟨b1, rfl, rfl⟩
  refine ow_eff .none (stpU_box 1 rfl rfl) rfl ?_
  rintro _ _ ⟨b2, rfl, rfl⟩
  refine ow_det .none (stp_assign rfl) rfl ?_
  refine ow_nil ?_
  refine kw_nx ?_
  refine cw_seq ?_
  refine cw_seq ?_
  refine cw_region ?_
  refine ow_det .none (stp_fieldAddr (j := 0) Tryd.underlying28 rfl ts3 rfl rfl rfl) rfl ?_
  refine ow_det .none (stp_load1 ts3 rfl (Cells.box (id := 0) rfl 1 rfl)) rfl ?_
  refine ow_det .none (stp_fieldAddr (j := 0) Tryd.underlying28 rfl ts3 rfl rfl rfl) rfl ?_
  refine ow_det .none (stp_load1 ts3 rfl (Cells.box (id := 1) rfl 1 rfl)) rfl ?_
  refine ow_det .none (stp_neq rfl rfl) rfl ?_
  refine ow_nil ?_
  refine kw_nx ?_
  refine cw_cond rfl (fun h3 => ?_) (fun h3 => ?_)
  · have H0 := cond_t H0 h3
    refine cw_seq ?_
    refine cw_region ?_
    refine ow_det .none (stp_assign rfl) rfl ?_
    refine ow_nil ?_
    refine kw_nx ?_
    refine cw_ret ?_
    refine kw_nx_ret ?_
    have q0 := Option.some.inj H0
    subst q0
    exact kw_ret Tryd.results95 (.cons (.tmp rfl) .nil) [] [] trivial (by decide) ⟨rfl, rfl⟩
  · have H0 := cond_f H0 h3
    refine cw_skip ?_
    refine kw_nx ?_
    refine cw_seq ?_
    refine cw_seq ?_
    refine cw_region ?_
    refine ow_det .none (stp_fieldAddr (j := 1) Tryd.underlying28 rfl ts3 rfl rfl rfl) rfl ?_
    refine ow_det .none (stp_load1 ts3 rfl (Cells.box (id := 0) rfl 1 rfl)) rfl ?_
    refine ow_det .none (stp_fieldAddr (j := 1) Tryd.underlying28 rfl ts3 rfl rfl rfl) rfl ?_
    refine ow_det .none (stp_load1 ts3 rfl (Cells.box (id := 1) rfl 1 rfl)) rfl ?_
    refine ow_det .none (stp_neq rfl rfl) rfl ?_
    refine ow_nil ?_
    refine kw_nx ?_
    refine cw_cond rfl (fun h4 => ?_) (fun h4 => ?_)
    · have H0 := cond_t H0 h4
      refine cw_seq ?_
      refine cw_region ?_
      refine ow_det .none (stp_assign rfl) rfl ?_
      refine ow_nil ?_
      refine kw_nx ?_
      refine cw_ret ?_
      refine kw_nx_ret ?_
      have q0 := Option.some.inj H0
      subst q0
      exact kw_ret Tryd.results95 (.cons (.tmp rfl) .nil) [] [] trivial (by decide) ⟨rfl, rfl⟩
    · have H0 := cond_f H0 h4
      refine cw_skip ?_
      refine kw_nx ?_
      refine cw_seq ?_
      refine cw_region ?_
      refine ow_det .none (stp_assign rfl) rfl ?_
      refine ow_nil ?_
      refine kw_nx ?_
      refine cw_ret ?_
      have q0 := Option.some.inj H0
      subst q0
      exact kw_ret Tryd.results95 (.cons (.tmp rfl) .nil) [] [] trivial (by decide) ⟨rfl, rfl⟩

set_option maxHeartbeats 4000000 in
set_option maxRecDepth 20000 in
theorem c_l_eqFrame (fl : Nat) (w : World) (a0 : F) (a1 : F) (r : Bool) (H0 : l_eqFrame fl a0 a1 = some r) :
    Ct Tryd.prog 90 [.agg #[.bool a0.u, .int .i64 a0.k.s, .int .i64 a0.k.p, .int .i64 a0.r, .int .i64 a0.nx], .agg #[.bool a1.u, .int .i64 a1.k.s, .int .i64 a1.k.p, .int .i64 a1.r, .int .i64 a1.nx]] w [] (fun rv h' => rv = .bool r ∧ h' = []) := by
  unfold l_eqFrame at H0
  refine ct_of_cw Tryd.func90 rfl Tryd.ntmps90 rfl (Sat.refl _ _) ?_
  refine cw_seq ?_
  refine cw_region ?_
  refine ow_eff .none (stpU_box 0 rfl rfl) rfl ?_
  rintro _ _ ⟨b1, rfl, rfl⟩
  refine ow_eff .none (stpU_box 1 rfl rfl) rfl ?_
  rintro _ _ ⟨b2, rfl, rfl⟩
  refine ow_det .none (stp_assign rfl) rfl ?_
  refine ow_nil ?_
  refine kw_nx ?_
  refine cw_seq ?_
  refine cw_seq ?_
  refine cw_region ?_
  refine ow_det .none (stp_fieldAddr (j := 0) Tryd.underlying53 rfl ts4 rfl rfl rfl) rfl ?_
  refine ow_det .none (stp_load1 ts4 rfl (Cells.box (id := 0) rfl 1 rfl)) rfl ?_
  refine ow_det .none (stp_fieldAddr (j := 0) Tryd.underlying53 rfl ts4 rfl rfl rfl) rfl ?_
  refine ow_det .none (stp_load1 ts4 rfl (Cells.box (id := 1) rfl 1 rfl)) rfl ?_
  refine ow_det .none (stp_neqB Tryd.underlying4 rfl rfl) rfl ?_
  refine ow_nil ?_
  refine kw_nx ?_
  refine cw_cond rfl (fun h3 => ?_) (fun h3 => ?_)
  · have H0 := cond_t H0 h3
    refine cw_seq ?_
    refine cw_region ?_
    refine ow_det .none (stp_assign rfl) rfl ?_
    refine ow_nil ?_
    refine kw_nx ?_
    refine cw_ret ?_
    refine kw_nx_ret ?_
    have q0 := Option.some.inj H0
    subst q0
    exact kw_ret Tryd.results90 (.cons (.tmp rfl) .nil) [] [] trivial (by decide) ⟨rfl, rfl⟩
  · have H0 := cond_f H0 h3
    refine cw_skip ?_
    refine kw_nx ?_
    refine cw_seq ?_
    refine cw_seq ?_
    refine cw_region ?_
    refine ow_det .none (stp_fieldAddr (j := 1) Tryd.underlying53 rfl ts28 rfl rfl rfl) rfl ?_
    refine ow_det .none (stp_loadN (us := [_, _]) ts28 rfl (Cells.box (id := 0) rfl 2 rfl)) rfl ?_
    refine ow_det .none (stp_fieldAddr (j := 1) Tryd.underlying53 rfl ts28 rfl rfl rfl) rfl ?_
    refine ow_det .none (stp_loadN (us := [_, _]) ts28 rfl (Cells.box (id := 1) rfl 2 rfl)) rfl ?_
    obtain ⟨x4, e4, H0⟩ := bind_some H0
    refine ow_eff .none (stpU_call (fun i => 2 + i) cf95 (fun w hw => c_l_eqKey fl w a0.k a1.k x4 e4) (sevs_cons rfl (sevs_cons rfl sevs_nil))) rfl ?_
    rintro _ _ ⟨_, ⟨rfl, rfl⟩, rfl⟩
    refine ow_det .none (stp_not rfl) rfl ?_
    refine ow_nil ?_
    refine kw_nx ?_
    refine cw_cond rfl (fun h5 => ?_) (fun h5 => ?_)
    · have H0 := cond_t H0 h5
      refine cw_seq ?_
      refine cw_region ?_
      refine ow_det .none (stp_assign rfl) rfl ?_
      refine ow_nil ?_
      refine kw_nx ?_
      refine cw_ret ?_
      refine kw_nx_ret ?_
      have q0 := Option.some.inj H0
      subst q0
      exact kw_ret Tryd.results90 (.cons (.tmp rfl) .nil) [] [] trivial (by decide) ⟨rfl, rfl⟩
    · have H0 := cond_f H0 h5
      refine cw_skip ?_
      refine kw_nx ?_
      refine cw_seq ?_
      refine cw_seq ?_
      refine cw_region ?_
      refine ow_det .none (stp_fieldAddr (j := 3) Tryd.underlying53 rfl ts3 rfl rfl rfl) rfl ?_
      refine ow_det .none (stp_load1 ts3 rfl (Cells.box (id := 0) rfl 1 rfl)) rfl ?_
      refine ow_det .none (stp_fieldAddr (j := 3) Tryd.underlying53 rfl ts3 rfl rfl rfl) rfl ?_
      refine ow_det .none (stp_load1 ts3 rfl (Cells.box (id := 1) rfl 1 rfl)) rfl ?_
      refine ow_det .none (stp_neq rfl rfl) rfl ?_
      refine ow_nil ?_
      refine kw_nx ?_
      refine cw_cond rfl (fun h6 => ?_) (fun h6 => ?_)
      · have H0 := cond_t H0 h6
        refine cw_seq ?_
        refine cw_region ?_
        refine ow_det .none (stp_assign rfl) rfl ?_
        refine ow_nil ?_
        refine kw_nx ?_
        refine cw_ret ?_
        refine kw_nx_ret ?_
        have q0 := Option.some.inj H0
        subst q0
        exact kw_ret Tryd.results90 (.cons (.tmp rfl) .nil) [] [] trivial (by decide) ⟨rfl, rfl⟩
      · have H0 := cond_f H0 h6
        refine cw_skip ?_
        refine kw_nx ?_
        refine cw_seq ?_
        refine cw_seq ?_
        refine cw_region ?_
        refine ow_det .none (stp_fieldAddr (j := 4) Tryd.underlying53 rfl ts3 rfl rfl rfl) rfl ?_
        refine ow_det .none (stp_load1 ts3 rfl (Cells.box (id := 0) rfl 1 rfl)) rfl ?_
        refine ow_det .none (stp_fieldAddr (j := 4) Tryd.underlying53 rfl ts3 rfl rfl rfl) rfl ?_
        refine ow_det .none (stp_load1 ts3 rfl (Cells.box (id := 1) rfl 1 rfl)) rfl ?_
        refine ow_det .none (stp_neq rfl rfl) rfl ?_
        refine ow_nil ?_
        refine kw_nx ?_
        refine cw_cond rfl (fun h7 => ?_) (fun h7 => ?_)
        · have H0 := cond_t H0 h7
          refine cw_seq ?_
          refine cw_region ?_
          refine ow_det .none (stp_assign rfl) rfl ?_
          refine ow_nil ?_
          refine kw_nx ?_
          refine cw_ret ?_
          refine kw_nx_ret ?_
          have q0 := Option.some.inj H0
          subst q0
          exact kw_ret Tryd.results90 (.cons (.tmp rfl) .nil) [] [] trivial (by decide) ⟨rfl, rfl⟩
        · have H0 := cond_f H0 h7
          refine cw_skip ?_
          refine kw_nx ?_
          refine cw_seq ?_
          refine cw_region ?_
          refine ow_det .none (stp_assign rfl) rfl ?_
          refine ow_nil ?_
          refine kw_nx ?_
          refine cw_ret ?_
          have q0 := Option.some.inj H0
          subst q0
          exact kw_ret Tryd.results90 (.cons (.tmp rfl) .nil) [] [] trivial (by decide) ⟨rfl, rfl⟩

set_option maxHeartbeats 4000000 in
set_option maxRecDepth 20000 in
theorem c_l_eqFrameS (fl : Nat) (w : World) (a0 : (List F)) (p0_0 : Option Addr) (n0_0 c0_0 : Nat) (a1 : (List F)) (p1_0 : Option Addr) (n1_0 c1_0 : Nat) (hn0_0 : n0_0 = (a0).length) (hr0_0 : RO w (hkeys []) (RdL p0_0 c0_0 a0)) (hn1_0 : n1_0 = (a1).length) (hr1_0 : RO w (hkeys []) (RdL p1_0 c1_0 a1)) (r : Bool) (H0 : l_eqFrameS fl a0 a1 = some r) :
    Ct Tryd.prog 61 [.slice p0_0 n0_0 c0_0, .slice p1_0 n1_0 c1_0] w [] (fun rv h' => rv = .bool r ∧ h' = []) := by
  obtain rfl := hn0_0
  obtain rfl := hn1_0
  unfold l_eqFrameS at H0
  refine ct_of_cw Tryd.func61 rfl Tryd.ntmps61 rfl (Sat.refl _ _) ?_
  refine cw_seq ?_
  refine cw_region ?_
  refine ow_det .none (stp_assign rfl) rfl ?_
  refine ow_nil ?_
  refine kw_nx ?_
  refine cw_seq ?_
  refine cw_seq ?_
  refine cw_region ?_
  refine ow_det .none (stp_move rfl) rfl ?_
  refine ow_det .none (stp_len Tryd.underlying24 rfl) rfl ?_
  refine ow_det .none (stp_move rfl) rfl ?_
  refine ow_det .none (stp_len Tryd.underlying24 rfl) rfl ?_
  refine ow_det .none (stp_neq rfl rfl) rfl ?_
  refine ow_nil ?_
  refine kw_nx ?_
  refine cw_cond rfl (fun h1 => ?_) (fun h1 => ?_)
  · have H0 := cond_t H0 h1
    refine cw_seq ?_
    refine cw_region ?_
    refine ow_det .none (stp_assign rfl) rfl ?_
    refine ow_nil ?_
    refine kw_nx ?_
    refine cw_ret ?_
    refine kw_nx_ret ?_
    have q0 := Option.some.inj H0
    subst q0
    exact kw_ret Tryd.results61 (.cons (.tmp rfl) .nil) [] [] trivial (by decide) ⟨rfl, rfl⟩
  · have H0 := cond_f H0 h1
    refine cw_skip ?_
    refine kw_nx ?_
    refine cw_seq ?_
    refine cw_seq ?_
    refine cw_region ?_
    refine ow_det .none (stp_assign rfl) rfl ?_
    refine ow_nil ?_
    refine kw_nx ?_
    obtain ⟨o0_0, eo0_0, H0⟩ := bind_some H0
    refine cw_join (ι := Int) (fun | v2 => o0_0 = .out v2) (fun | v2 => [(0, .slice p0_0 ((a0).length) c0_0), (1, .slice p1_0 ((a1).length) c1_0), (5, .int .i64 v2)]) (fun | v2 => []) ?_ ?_
    · refine cw_block ?_
      refine cw_loopS (ι := Nat × Int) (js := []) (fun x => x.1) (fun | (fuel, v2) => l_eqFrameS_L0 fl a0 a1 fuel v2 = some o0_0) (fun | (_, v2) => [(0, .slice p0_0 ((a0).length) c0_0), (1, .slice p1_0 ((a1).length) c1_0), (5, .int .i64 v2)]) (fun | (_, v2) => []) (fl, 0) eo0_0 ⟨rfl, rfl, rfl, trivial⟩ trivial (by decide) ?_
      rintro ⟨fuel, v2⟩ H1
      have H1 : l_eqFrameS_L0 fl a0 a1 fuel v2 = some o0_0 := H1
      rcases fuel with _ | fuel
      · rw [l_eqFrameS_L0.eq_1] at H1; cases H1
      rw [l_eqFrameS_L0.eq_2] at H1
      refine CW.sub (s' := [(0, .slice p0_0 ((a0).length) c0_0), (1, .slice p1_0 ((a1).length) c1_0), (5, .int .i64 v2)]) (h' := []) ?_ ⟨rfl, rfl, rfl, trivial⟩ trivial
      refine cw_seq ?_
      refine cw_seq ?_
      refine cw_region ?_
      refine ow_det .none (stp_move rfl) rfl ?_
      refine ow_det .none (stp_move rfl) rfl ?_
      refine ow_det .none (stp_len Tryd.underlying24 rfl) rfl ?_
      refine ow_det .none (stp_lss rfl rfl) rfl ?_
      refine ow_nil ?_
      refine kw_nx ?_
      refine cw_cond rfl (fun h3 => ?_) (fun h3 => ?_)
      · have H1 := cond_t H1 h3
        refine cw_skip ?_
        refine kw_nx ?_
        refine cw_seq ?_
        refine cw_block ?_
        refine cw_seq ?_
        obtain ⟨x4, e4, H1⟩ := bind_some H1
        obtain ⟨x5, e5, H1⟩ := bind_some H1
        obtain ⟨x6, e6, H1⟩ := bind_some H1
        refine region_drawn { dst := fun i => match i with | 0 => some 17 | 1 => some 18 | 2 => some 19 | 3 => some 20 | 4 => some 21 | 5 => some 22 | 6 => some 23 | 7 => some 24 | 8 => some 25 | 9 => some 26 | _ => none, pre := fun i => match i with | 2 => [0, 1] | 3 => [0, 1, 2] | 6 => [4, 5] | 7 => [4, 5, 6] | 8 => [0, 1, 2, 3, 4, 5, 6, 7] | 9 => [0, 1, 2, 3, 4, 5, 6, 7, 8] | _ => [], ids := fun i => match i with | _ => [], rs := fun i => match i with | 0 => [(0, none)] | 1 => [(5, none)] | 2 => [(17, some 0), (18, some 1)] | 3 => [(19, some 2)] | 4 => [(1, none)] | 5 => [(5, none)] | 6 => [(21, some 4), (22, some 5)] | 7 => [(23, some 6)] | 8 => [(20, some 3), (24, some 7)] | 9 => [(25, some 8)] | _ => [], rh := fun i => match i with | _ => [], V := fun i g => match i with | 0 => .slice p0_0 ((a0).length) c0_0 | 1 => .int .i64 v2 | 2 => .pointer (some ⟨eB p0_0, eO p0_0 + Int.toNat v2 * Enc.sz F + 0, none⟩) | 3 => .agg #[.bool x4.u, .int .i64 x4.k.s, .int .i64 x4.k.p, .int .i64 x4.r, .int .i64 x4.nx] | 4 => .slice p1_0 ((a1).length) c1_0 | 5 => .int .i64 v2 | 6 => .pointer (some ⟨eB p1_0, eO p1_0 + Int.toNat v2 * Enc.sz F + 0, none⟩) | 7 => .agg #[.bool x5.u, .int .i64 x5.k.s, .int .i64 x5.k.p, .int .i64 x5.r, .int .i64 x5.nx] | 8 => .bool x6 | 9 => .bool (!x6) | _ => undef, U := fun i g => match i with | _ => [], Φ := fun i x => match i with | _ => True } g_mixed [0, 1, 5] [] (by kernel_rfl) (by kernel_rfl) (by kernel_rfl) ⟨⟨⟨⟨⟨⟨⟨⟨⟨⟨trivial, fun _ => ⟨rfl, rfl⟩⟩, fun _ => ⟨rfl, rfl⟩⟩, fun _ => ⟨rfl, rfl⟩⟩, fun _ => ⟨rfl, rfl⟩⟩, fun _ => ⟨rfl, rfl⟩⟩, fun _ => ⟨rfl, rfl⟩⟩, fun _ => ⟨rfl, rfl⟩⟩, fun _ => ⟨rfl, rfl⟩⟩, fun _ => ⟨rfl, rfl⟩⟩, fun _ => ⟨rfl, rfl⟩⟩ ?_ ?_
        · refine ⟨⟨⟨⟨⟨⟨⟨⟨⟨⟨trivial, ?_⟩, ?_⟩, ?_⟩, ?_⟩, ?_⟩, ?_⟩, ?_⟩, ?_⟩, ?_⟩, ?_⟩
          · exact loc_det rfl rfl (fun _ => rfl) trivial (fun g hΦ s h hs hh => ⟨.none, (stp_move (sv hs 0 rfl))⟩)
          · exact loc_det rfl rfl (fun _ => rfl) trivial (fun g hΦ s h hs hh => ⟨.none, (stp_move (sv hs 5 rfl))⟩)
          · exact loc_det rfl rfl (fun _ => rfl) trivial (fun g hΦ s h hs hh => ⟨.none, (stp_indexAddr Tryd.underlying24 ts53 (by decide) (sv hs 17 rfl) rfl (sv hs 18 rfl) (Rdb.ro hr0_0) e4)⟩)
          · exact loc_det rfl rfl (fun _ => rfl) trivial (fun g hΦ s h hs hh => ⟨.none, (stp_loadN (us := [_, _, _, _, _]) ts53 (sv hs 19 rfl) (Cells.el (Rdb.ro hr0_0) (by decide) e4 0 5 rfl))⟩)
          · exact loc_det rfl rfl (fun _ => rfl) trivial (fun g hΦ s h hs hh => ⟨.none, (stp_move (sv hs 1 rfl))⟩)
          · exact loc_det rfl rfl (fun _ => rfl) trivial (fun g hΦ s h hs hh => ⟨.none, (stp_move (sv hs 5 rfl))⟩)
          · exact loc_det rfl rfl (fun _ => rfl) trivial (fun g hΦ s h hs hh => ⟨.none, (stp_indexAddr Tryd.underlying24 ts53 (by decide) (sv hs 21 rfl) rfl (sv hs 22 rfl) (Rdb.ro hr1_0) e5)⟩)
          · exact loc_det rfl rfl (fun _ => rfl) trivial (fun g hΦ s h hs hh => ⟨.none, (stp_loadN (us := [_, _, _, _, _]) ts53 (sv hs 23 rfl) (Cells.el (Rdb.ro hr1_0) (by decide) e5 0 5 rfl))⟩)
          · refine loc_eff rfl rfl (fun g hΦ s h hs hh => ⟨.none, (stpU_call (fun i => 0 + i) cf90 (fun w hw => c_l_eqFrame fl w x4 x5 x6 e6) (sevs_cons (sv hs 20 rfl) (sevs_cons (sv hs 24 rfl) sevs_nil)))⟩) ?_
            rintro g _ _ ⟨_, ⟨rfl, rfl⟩, rfl⟩
            exact ⟨⟨[], [], []⟩, trivial, .inr rfl, rfl⟩
          · exact loc_det rfl rfl (fun _ => rfl) trivial (fun g hΦ s h hs hh => ⟨.none, (stp_not (sv hs 25 rfl))⟩)
        · intro g hΦ
          refine KW.sub (s' := [(0, .slice p0_0 ((a0).length) c0_0), (1, .slice p1_0 ((a1).length) c1_0), (5, .int .i64 v2), (26, .bool (!x6))]) (h' := []) ?_ ⟨rfl, rfl, rfl, rfl, trivial⟩ trivial
          refine kw_nx ?_
          refine cw_cond rfl (fun h7 => ?_) (fun h7 => ?_)
          · have H1 := cond_t H1 h7
            refine cw_seq ?_
            refine cw_region ?_
            refine ow_det .none (stp_assign rfl) rfl ?_
            refine ow_nil ?_
            refine kw_nx ?_
            refine cw_ret ?_
            refine kw_bl_ret ?_
            refine kw_nx_ret ?_
            refine kw_lq_ret ?_
            refine kw_bl_ret ?_
            refine kw_join_ret ?_
            refine kw_nx_ret ?_
            have q1 := Option.some.inj H1
            subst q1
            have q0 := Option.some.inj H0
            subst q0
            exact kw_ret Tryd.results61 (.cons (.tmp rfl) .nil) [] [] trivial (by decide) ⟨rfl, rfl⟩
          · have H1 := cond_f H1 h7
            refine cw_skip ?_
            refine kw_bl_normal ?_
            refine kw_nx ?_
            refine cw_region ?_
            refine ow_det .none (stp_move rfl) rfl ?_
            obtain ⟨x8, e8, H1⟩ := bind_some H1
            refine ow_det .none (stp_add rfl rfl e8) rfl ?_
            refine ow_det .none (stp_assign rfl) rfl ?_
            refine ow_nil ?_
            exact kw_lqS (js := []) (fuel, x8) H1 (Nat.lt_succ_self _) ⟨rfl, rfl, rfl, trivial⟩ trivial (by decide)
      · have H1 := cond_f H1 h3
        refine cw_exit ?_
        refine kw_nx_exit ?_
        refine kw_lq_exit ?_
        refine kw_bl ?_
        have q1 := Option.some.inj H1
        subst q1
        exact kw_joinS (js := []) v2 rfl ⟨rfl, rfl, rfl, trivial⟩ trivial (by decide)
    · rintro v2 rfl
      refine KW.sub (s' := [(0, .slice p0_0 ((a0).length) c0_0), (1, .slice p1_0 ((a1).length) c1_0), (5, .int .i64 v2)]) (h' := []) ?_ ⟨rfl, rfl, rfl, trivial⟩ trivial
      refine kw_nx ?_
      refine cw_seq ?_
      refine cw_region ?_
      refine ow_det .none (stp_assign rfl) rfl ?_
      refine ow_nil ?_
      refine kw_nx ?_
      refine cw_ret ?_
      have q0 := Option.some.inj H0
      subst q0
      exact kw_ret Tryd.results61 (.cons (.tmp rfl) .nil) [] [] trivial (by decide) ⟨rfl, rfl⟩

set_option maxHeartbeats 4000000 in
set_option maxRecDepth 20000 in
theorem c_l_eqTable (fl : Nat) (w : World) (a0 : T) (p0_0 : Option Addr) (n0_0 c0_0 : Nat) (p0_1 : Option Addr) (n0_1 c0_1 : Nat) (a1 : T) (p1_0 : Option Addr) (n1_0 c1_0 : Nat) (p1_1 : Option Addr) (n1_1 c1_1 : Nat) (hn0_0 : n0_0 = (a0.b).length) (hr0_0 : RO w (hkeys []) (RdL p0_0 c0_0 a0.b)) (hn0_1 : n0_1 = (a0.f).length) (hr0_1 : RO w (hkeys []) (RdL p0_1 c0_1 a0.f)) (hn1_0 : n1_0 = (a1.b).length) (hr1_0 : RO w (hkeys []) (RdL p1_0 c1_0 a1.b)) (hn1_1 : n1_1 = (a1.f).length) (hr1_1 : RO w (hkeys []) (RdL p1_1 c1_1 a1.f)) (r : Bool) (H0 : l_eqTable fl a0 a1 = some r) :
    Ct Tryd.prog 24 [.agg #[.slice p0_0 n0_0 c0_0, .slice p0_1 n0_1 c0_1], .agg #[.slice p1_0 n1_0 c1_0, .slice p1_1 n1_1 c1_1]] w [] (fun rv h' => rv = .bool r ∧ h' = []) := by
  obtain rfl := hn0_0
  obtain rfl := hn0_1
  obtain rfl := hn1_0
  obtain rfl := hn1_1
  unfold l_eqTable at H0
  refine ct_of_cw Tryd.func24 rfl Tryd.ntmps24 rfl (Sat.refl _ _) ?_
  refine cw_seq ?_
  refine cw_region ?_
  refine ow_eff .none (stpU_box 0 rfl rfl) rfl ?_
  rintro _ _ ⟨b1, rfl, rfl⟩
  refine ow_eff .none (stpU_box 1 rfl rfl) rfl ?_
  rintro _ _ ⟨b2, rfl, rfl⟩
  refine ow_det .none (stp_assign rfl) rfl ?_
  refine ow_nil ?_
  refine kw_nx ?_
  refine cw_seq ?_
  refine cw_seq ?_
  refine cw_region ?_
  refine ow_det .none (stp_fieldAddr (j := 0) Tryd.underlying26 rfl ts23 rfl rfl rfl) rfl ?_
  refine ow_det .none (stp_load1 ts23 rfl (Cells.box (id := 0) rfl 1 rfl)) rfl ?_
  refine ow_det .none (stp_fieldAddr (j := 0) Tryd.underlying26 rfl ts23 rfl rfl rfl) rfl ?_
  refine ow_det .none (stp_load1 ts23 rfl (Cells.box (id := 1) rfl 1 rfl)) rfl ?_
  obtain ⟨x3, e3, H0⟩ := bind_some H0
  refine ow_eff .none (stpU_call (fun i => 2 + i) cf60 (fun w hw => c_l_eqIntS fl w a0.b p0_0 ((a0.b).length) c0_0 a1.b p1_0 ((a1.b).length) c1_0 rfl (RO.pass hr0_0 hw) rfl (RO.pass hr1_0 hw) x3 e3) (sevs_cons rfl (sevs_cons rfl sevs_nil))) rfl ?_
  rintro _ _ ⟨_, ⟨rfl, rfl⟩, rfl⟩
  refine ow_det .none (stp_not rfl) rfl ?_
  refine ow_nil ?_
  refine kw_nx ?_
  refine cw_cond rfl (fun h4 => ?_) (fun h4 => ?_)
  · have H0 := cond_t H0 h4
    refine cw_seq ?_
    refine cw_region ?_
    refine ow_det .none (stp_assign rfl) rfl ?_
    refine ow_nil ?_
    refine kw_nx ?_
    refine cw_ret ?_
    refine kw_nx_ret ?_
    have q0 := Option.some.inj H0
    subst q0
    exact kw_ret Tryd.results24 (.cons (.tmp rfl) .nil) [] [] trivial (by decide) ⟨rfl, rfl⟩
  · have H0 := cond_f H0 h4
    refine cw_skip ?_
    refine kw_nx ?_
    refine cw_seq ?_
    refine cw_seq ?_
    refine cw_region ?_
    refine ow_det .none (stp_fieldAddr (j := 1) Tryd.underlying26 rfl ts24 rfl rfl rfl) rfl ?_
    refine ow_det .none (stp_load1 ts24 rfl (Cells.box (id := 0) rfl 1 rfl)) rfl ?_
    refine ow_det .none (stp_fieldAddr (j := 1) Tryd.underlying26 rfl ts24 rfl rfl rfl) rfl ?_
    refine ow_det .none (stp_load1 ts24 rfl (Cells.box (id := 1) rfl 1 rfl)) rfl ?_
    obtain ⟨x5, e5, H0⟩ := bind_some H0
    refine ow_eff .none (stpU_call (fun i => 2 + i) cf61 (fun w hw => c_l_eqFrameS fl w a0.f p0_1 ((a0.f).length) c0_1 a1.f p1_1 ((a1.f).length) c1_1 rfl (RO.pass hr0_1 hw) rfl (RO.pass hr1_1 hw) x5 e5) (sevs_cons rfl (sevs_cons rfl sevs_nil))) rfl ?_
    rintro _ _ ⟨_, ⟨rfl, rfl⟩, rfl⟩
    refine ow_det .none (stp_not rfl) rfl ?_
    refine ow_nil ?_
    refine kw_nx ?_
    refine cw_cond rfl (fun h6 => ?_) (fun h6 => ?_)
    · have H0 := cond_t H0 h6
      refine cw_seq ?_
      refine cw_region ?_
      refine ow_det .none (stp_assign rfl) rfl ?_
      refine ow_nil ?_
      refine kw_nx ?_
      refine cw_ret ?_
      refine kw_nx_ret ?_
      have q0 := Option.some.inj H0
      subst q0
      exact kw_ret Tryd.results24 (.cons (.tmp rfl) .nil) [] [] trivial (by decide) ⟨rfl, rfl⟩
    · have H0 := cond_f H0 h6
      refine cw_skip ?_
      refine kw_nx ?_
      refine cw_seq ?_
      refine cw_region ?_
      refine ow_det .none (stp_assign rfl) rfl ?_
      refine ow_nil ?_
      refine kw_nx ?_
      refine cw_ret ?_
      have q0 := Option.some.inj H0
      subst q0
      exact kw_ret Tryd.results24 (.cons (.tmp rfl) .nil) [] [] trivial (by decide) ⟨rfl, rfl⟩

set_option maxHeartbeats 4000000 in
set_option maxRecDepth 20000 in
theorem c_l_markIntS (fl : Nat) (w : World) (a0 : (List Int)) (p0_0 : Option Addr) (n0_0 c0_0 : Nat) (C0_0 : Res) (a1 : Int) (hn0_0 : n0_0 = (a0).length) (ho0_0 : OwnC (α := Int) 3 p0_0 c0_0 a0 C0_0) (hM : Sat w (hkeys [(0, C0_0)]) w [(0, C0_0)]) (r : Int × (List Int)) (H0 : l_markIntS fl a0 a1 = some r) :
    Ct Tryd.prog 62 [.slice p0_0 n0_0 c0_0, .int .i64 a1] w [(0, C0_0)] (fun rv h' => ∃ (D0 : Res), rv = .int .i64 r.1 ∧ h' = [(0, D0)] ∧ n0_0 = (r.2).length ∧ OwnC (α := Int) 3 p0_0 c0_0 r.2 D0) := by
  obtain rfl := hn0_0
  unfold l_markIntS at H0
  refine ct_of_cw Tryd.func62 rfl Tryd.ntmps62 rfl hM ?_
  refine cw_seq ?_
  refine cw_region ?_
  refine ow_det .none (stp_assign rfl) rfl ?_
  refine ow_nil ?_
  refine kw_nx ?_
  refine cw_seq ?_
  refine cw_seq ?_
  refine cw_region ?_
  refine ow_det .none (stp_assign rfl) rfl ?_
  refine ow_nil ?_
  refine kw_nx ?_
  obtain ⟨o0_0, eo0_0, H0⟩ := bind_some H0
  refine cw_join (ι := (List Int) × Int × Int × Res) (fun | (v1, v3, v4, C2) => o0_0 = .out (v1, v3, v4) ∧ (a0).length = (v1).length ∧ OwnC (α := Int) 3 p0_0 c0_0 v1 C2) (fun | (v1, v3, v4, C2) => [(0, .slice p0_0 ((a0).length) c0_0), (1, .int .i64 v3), (5, .int .i64 v4)]) (fun | (v1, v3, v4, C2) => [(0, C2)]) ?_ ?_
  · refine cw_block ?_
    refine cw_loopS (ι := Nat × (List Int) × Int × Int × Res) (js := [0]) (fun x => x.1) (fun | (fuel, v1, v3, v4, C2) => l_markIntS_L0 fl a0 fuel v1 v3 v4 = some o0_0 ∧ (a0).length = (v1).length ∧ OwnC (α := Int) 3 p0_0 c0_0 v1 C2) (fun | (_, v1, v3, v4, C2) => [(0, .slice p0_0 ((a0).length) c0_0), (1, .int .i64 v3), (5, .int .i64 v4)]) (fun | (_, v1, v3, v4, C2) => [(0, C2)]) (fl, a0, a1, 0, C0_0) ⟨eo0_0, rfl, ho0_0⟩ ⟨rfl, rfl, rfl, trivial⟩ ⟨0, [], rfl, rfl, trivial⟩ (by decide) ?_
    rintro ⟨fuel, v1, v3, v4, C2⟩ ⟨H1, hl2, o2⟩
    have H1 : l_markIntS_L0 fl a0 fuel v1 v3 v4 = some o0_0 := H1
    rcases fuel with _ | fuel
    · rw [l_markIntS_L0.eq_1] at H1; cases H1
    rw [l_markIntS_L0.eq_2] at H1
    refine CW.sub (s' := [(0, .slice p0_0 ((a0).length) c0_0), (1, .int .i64 v3), (5, .int .i64 v4)]) (h' := [(0, C2)]) ?_ ⟨rfl, rfl, rfl, trivial⟩ ⟨rfl, trivial⟩
    refine cw_seq ?_
    refine cw_seq ?_
    refine cw_region ?_
    refine ow_det .none (stp_move rfl) rfl ?_
    refine ow_det .none (stp_move rfl) rfl ?_
    refine ow_det .none (stp_len Tryd.underlying23 rfl) rfl ?_
    refine ow_det .none (stp_lss rfl rfl) rfl ?_
    refine ow_nil ?_
    refine kw_nx ?_
    refine cw_cond rfl (fun h5 => ?_) (fun h5 => ?_)
    · have H1 := cond_t H1 h5
      refine cw_skip ?_
      refine kw_nx ?_
      refine cw_seq ?_
      refine cw_block ?_
      refine cw_seq ?_
      refine cw_region ?_
      refine ow_det .none (stp_move rfl) rfl ?_
      refine ow_det .none (stp_move rfl) rfl ?_
      refine ow_det .none (stp_move rfl) rfl ?_
      obtain ⟨x6, e6, H1⟩ := bind_some H1
      refine ow_det .none (stp_indexAddr Tryd.underlying23 ts3 (by decide) rfl (by simp [hl2]) rfl (Rdb.own (id := 0) rfl o2) e6) rfl ?_
      refine ow_eff0 .none (stpU_storeEl (id := 0) (i := 0) v3 (by decide) ts3 rfl rfl rfl o2 e6 rfl rfl rfl rfl) ?_
      rintro _ _ ⟨C7, rfl, o7⟩
      refine ow_nil ?_
      refine kw_nx ?_
      refine cw_region ?_
      refine ow_det .none (stp_move rfl) rfl ?_
      obtain ⟨x8, e8, H1⟩ := bind_some H1
      refine ow_det .none (stp_add rfl rfl e8) rfl ?_
      refine ow_det .none (stp_assign rfl) rfl ?_
      refine ow_nil ?_
      refine kw_bl_normal ?_
      refine kw_nx ?_
      refine cw_region ?_
      refine ow_det .none (stp_move rfl) rfl ?_
      obtain ⟨x9, e9, H1⟩ := bind_some H1
      refine ow_det .none (stp_add rfl rfl e9) rfl ?_
      refine ow_det .none (stp_assign rfl) rfl ?_
      refine ow_nil ?_
      exact kw_lqS (js := [0]) (fuel, (v1.set (Int.toNat v4) v3), x8, x9, C7) ⟨H1, (by simp [hl2]), o7⟩ (Nat.lt_succ_self _) ⟨rfl, rfl, rfl, trivial⟩ ⟨0, [], rfl, rfl, trivial⟩ (by decide)
    · have H1 := cond_f H1 h5
      refine cw_exit ?_
      refine kw_nx_exit ?_
      refine kw_lq_exit ?_
      refine kw_bl ?_
      have q1 := Option.some.inj H1
      subst q1
      exact kw_joinS (js := [0]) (v1, v3, v4, C2) ⟨rfl, (by simp [hl2]), o2⟩ ⟨rfl, rfl, rfl, trivial⟩ ⟨0, [], rfl, rfl, trivial⟩ (by decide)
  · rintro ⟨v1, v3, v4, C2⟩ ⟨rfl, hl2, o2⟩
    refine KW.sub (s' := [(0, .slice p0_0 ((a0).length) c0_0), (1, .int .i64 v3), (5, .int .i64 v4)]) (h' := [(0, C2)]) ?_ ⟨rfl, rfl, rfl, trivial⟩ ⟨rfl, trivial⟩
    refine kw_nx ?_
    refine cw_seq ?_
    refine cw_region ?_
    refine ow_det .none (stp_move rfl) rfl ?_
    refine ow_det .none (stp_assign rfl) rfl ?_
    refine ow_nil ?_
    refine kw_nx ?_
    refine cw_ret ?_
    have q0 := Option.some.inj H0
    subst q0
    exact kw_ret Tryd.results62 (.cons (.tmp rfl) .nil) [(0, C2)] [0] ⟨0, [], rfl, rfl, trivial⟩ (by decide) ⟨C2, rfl, rfl, (by simp [hl2]), o2⟩

set_option maxHeartbeats 4000000 in
set_option maxRecDepth 20000 in
theorem c_l_markFrameS (fl : Nat) (w : World) (a0 : (List F)) (p0_0 : Option Addr) (n0_0 c0_0 : Nat) (C0_0 : Res) (a1 : Int) (hn0_0 : n0_0 = (a0).length) (ho0_0 : OwnC (α := F) 53 p0_0 c0_0 a0 C0_0) (hM : Sat w (hkeys [(0, C0_0)]) w [(0, C0_0)]) (r : Int × (List F)) (H0 : l_markFrameS fl a0 a1 = some r) :
    Ct Tryd.prog 63 [.slice p0_0 n0_0 c0_0, .int .i64 a1] w [(0, C0_0)] (fun rv h' => ∃ (D0 : Res), rv = .int .i64 r.1 ∧ h' = [(0, D0)] ∧ n0_0 = (r.2).length ∧ OwnC (α := F) 53 p0_0 c0_0 r.2 D0) := by
  obtain rfl := hn0_0
  unfold l_markFrameS at H0
  refine ct_of_cw Tryd.func63 rfl Tryd.ntmps63 rfl hM ?_
  refine cw_seq ?_
  refine cw_region ?_
  refine ow_det .none (stp_assign rfl) rfl ?_
  refine ow_nil ?_
  refine kw_nx ?_
  refine cw_seq ?_
  refine cw_seq ?_
  refine cw_region ?_
  refine ow_det .none (stp_assign rfl) rfl ?_
  refine ow_nil ?_
  refine kw_nx ?_
  obtain ⟨o0_0, eo0_0, H0⟩ := bind_some H0
  refine cw_join (ι := (List F) × Int × Int × Res) (fun | (v1, v3, v4, C2) => o0_0 = .out (v1, v3, v4) ∧ (a0).length = (v1).length ∧ OwnC (α := F) 53 p0_0 c0_0 v1 C2) (fun | (v1, v3, v4, C2) => [(0, .slice p0_0 ((a0).length) c0_0), (1, .int .i64 v3), (5, .int .i64 v4)]) (fun | (v1, v3, v4, C2) => [(0, C2)]) ?_ ?_
  · refine cw_block ?_
    refine cw_loopS (ι := Nat × (List F) × Int × Int × Res) (js := [0]) (fun x => x.1) (fun | (fuel, v1, v3, v4, C2) => l_markFrameS_L0 fl a0 fuel v1 v3 v4 = some o0_0 ∧ (a0).length = (v1).length ∧ OwnC (α := F) 53 p0_0 c0_0 v1 C2) (fun | (_, v1, v3, v4, C2) => [(0, .slice p0_0 ((a0).length) c0_0), (1, .int .i64 v3), (5, .int .i64 v4)]) (fun | (_, v1, v3, v4, C2) => [(0, C2)]) (fl, a0, a1, 0, C0_0) ⟨eo0_0, rfl, ho0_0⟩ ⟨rfl, rfl, rfl, trivial⟩ ⟨0, [], rfl, rfl, trivial⟩ (by decide) ?_
    rintro ⟨fuel, v1, v3, v4, C2⟩ ⟨H1, hl2, o2⟩
    have H1 : l_markFrameS_L0 fl a0 fuel v1 v3 v4 = some o0_0 := H1
    rcases fuel with _ | fuel
    · rw [l_markFrameS_L0.eq_1] at H1; cases H1
    rw [l_markFrameS_L0.eq_2] at H1
    refine CW.sub (s' := [(0, .slice p0_0 ((a0).length) c0_0), (1, .int .i64 v3), (5, .int .i64 v4)]) (h' := [(0, C2)]) ?_ ⟨rfl, rfl, rfl, trivial⟩ ⟨rfl, trivial⟩
    refine cw_seq ?_
    refine cw_seq ?_
    refine cw_region ?_
    refine ow_det .none (stp_move rfl) rfl ?_
    refine ow_det .none (stp_move rfl) rfl ?_
    refine ow_det .none (stp_len Tryd.underlying24 rfl) rfl ?_
    refine ow_det .none (stp_lss rfl rfl) rfl ?_
    refine ow_nil ?_
    refine kw_nx ?_
    refine cw_cond rfl (fun h5 => ?_) (fun h5 => ?_)
    · have H1 := cond_t H1 h5
      refine cw_skip ?_
      refine kw_nx ?_
      refine cw_seq ?_
      refine cw_block ?_
      refine cw_seq ?_
      refine cw_region ?_
      refine ow_det .none (stp_move rfl) rfl ?_
      refine ow_det .none (stp_move rfl) rfl ?_
      refine ow_det .none (stp_move rfl) rfl ?_
      obtain ⟨x6, e6, H1⟩ := bind_some H1
      refine ow_det .none (stp_rem rfl rfl e6) rfl ?_
      refine ow_det .none (stp_eql rfl rfl) rfl ?_
      obtain ⟨x7, e7, H1⟩ := bind_some H1
      refine ow_det .none (stp_indexAddr Tryd.underlying24 ts53 (by decide) rfl (by simp [hl2]) rfl (Rdb.own (id := 0) rfl o2) e7) rfl ?_
      refine ow_det .none (stp_fieldAddr (j := 0) Tryd.underlying53 rfl ts4 rfl rfl rfl) rfl ?_
      refine ow_eff0 .none (stpU_storeEl (id := 0) (i := 0) (⟨(x6 == 0), x7.k, x7.r, x7.nx⟩ : F) (by decide) ts4 rfl rfl rfl o2 e7 rfl rfl rfl rfl) ?_
      rintro _ _ ⟨C8, rfl, o8⟩
      refine ow_nil ?_
      refine kw_nx ?_
      refine cw_seq ?_
      refine cw_region ?_
      refine ow_det .none (stp_move rfl) rfl ?_
      obtain ⟨x9, e9, H1⟩ := bind_some H1
      refine ow_det .none (stp_add rfl rfl e9) rfl ?_
      refine ow_det .none (stp_assign rfl) rfl ?_
      refine ow_nil ?_
      refine kw_nx ?_
      refine cw_seq ?_
      refine cw_region ?_
      refine ow_det .none (stp_move rfl) rfl ?_
      refine ow_det .none (stp_move rfl) rfl ?_
      refine ow_det .none (stp_move rfl) rfl ?_
      obtain ⟨x10, e10, H1⟩ := bind_some H1
      refine ow_det .none (stp_indexAddr Tryd.underlying24 ts53 (by decide) rfl (by simp [hl2]) rfl (Rdb.own (id := 0) rfl o8) e10) rfl ?_
      refine ow_det .none (stp_fieldAddr (j := 1) Tryd.underlying53 rfl ts28 rfl rfl rfl) rfl ?_
      refine ow_det .none (stp_fieldAddr (j := 0) Tryd.underlying28 rfl ts3 rfl rfl rfl) rfl ?_
      refine ow_eff0 .none (stpU_storeEl (id := 0) (i := 1) (⟨x10.u, (⟨x9, x10.k.p⟩ : K), x10.r, x10.nx⟩ : F) (by decide) ts3 rfl rfl rfl o8 e10 rfl rfl rfl rfl) ?_
      rintro _ _ ⟨C11, rfl, o11⟩
      refine ow_nil ?_
      refine kw_nx ?_
      refine cw_seq ?_
      refine cw_region ?_
      refine ow_det .none (stp_move rfl) rfl ?_
      obtain ⟨x12, e12, H1⟩ := bind_some H1
      refine ow_det .none (stp_add rfl rfl e12) rfl ?_
      refine ow_det .none (stp_assign rfl) rfl ?_
      refine ow_nil ?_
      refine kw_nx ?_
      refine cw_seq ?_
      refine cw_region ?_
      refine ow_det .none (stp_move rfl) rfl ?_
      refine ow_det .none (stp_move rfl) rfl ?_
      refine ow_det .none (stp_move rfl) rfl ?_
      obtain ⟨x13, e13, H1⟩ := bind_some H1
      refine ow_det .none (stp_indexAddr Tryd.underlying24 ts53 (by decide) rfl (by simp [hl2]) rfl (Rdb.own (id := 0) rfl o11) e13) rfl ?_
      refine ow_det .none (stp_fieldAddr (j := 1) Tryd.underlying53 rfl ts28 rfl rfl rfl) rfl ?_
      refine ow_det .none (stp_fieldAddr (j := 1) Tryd.underlying28 rfl ts3 rfl rfl rfl) rfl ?_
      refine ow_eff0 .none (stpU_storeEl (id := 0) (i := 2) (⟨x13.u, (⟨x13.k.s, x12⟩ : K), x13.r, x13.nx⟩ : F) (by decide) ts3 rfl rfl rfl o11 e13 rfl rfl rfl rfl) ?_
      rintro _ _ ⟨C14, rfl, o14⟩
      refine ow_nil ?_
      refine kw_nx ?_
      refine cw_seq ?_
      refine cw_region ?_
      refine ow_det .none (stp_move rfl) rfl ?_
      obtain ⟨x15, e15, H1⟩ := bind_some H1
      refine ow_det .none (stp_add rfl rfl e15) rfl ?_
      refine ow_det .none (stp_assign rfl) rfl ?_
      refine ow_nil ?_
      refine kw_nx ?_
      refine cw_seq ?_
      refine cw_region ?_
      refine ow_det .none (stp_move rfl) rfl ?_
      refine ow_det .none (stp_move rfl) rfl ?_
      refine ow_det .none (stp_move rfl) rfl ?_
      obtain ⟨x16, e16, H1⟩ := bind_some H1
      refine ow_det .none (stp_indexAddr Tryd.underlying24 ts53 (by decide) rfl (by simp [hl2]) rfl (Rdb.own (id := 0) rfl o14) e16) rfl ?_
      refine ow_det .none (stp_fieldAddr (j := 3) Tryd.underlying53 rfl ts3 rfl rfl rfl) rfl ?_
      refine ow_eff0 .none (stpU_storeEl (id := 0) (i := 3) (⟨x16.u, x16.k, x15, x16.nx⟩ : F) (by decide) ts3 rfl rfl rfl o14 e16 rfl rfl rfl rfl) ?_
      rintro _ _ ⟨C17, rfl, o17⟩
      refine ow_nil ?_
      refine kw_nx ?_
      refine cw_seq ?_
      refine cw_region ?_
      refine ow_det .none (stp_move rfl) rfl ?_
      obtain ⟨x18, e18, H1⟩ := bind_some H1
      refine ow_det .none (stp_add rfl rfl e18) rfl ?_
      refine ow_det .none (stp_assign rfl) rfl ?_
      refine ow_nil ?_
      refine kw_nx ?_
      refine cw_seq ?_
      refine cw_region ?_
      refine ow_det .none (stp_move rfl) rfl ?_
      refine ow_det .none (stp_move rfl) rfl ?_
      refine ow_det .none (stp_move rfl) rfl ?_
      obtain ⟨x19, e19, H1⟩ := bind_some H1
      refine ow_det .none (stp_indexAddr Tryd.underlying24 ts53 (by decide) rfl (by simp [hl2]) rfl (Rdb.own (id := 0) rfl o17) e19) rfl ?_
      refine ow_det .none (stp_fieldAddr (j := 4) Tryd.underlying53 rfl ts3 rfl rfl rfl) rfl ?_
      refine ow_eff0 .none (stpU_storeEl (id := 0) (i := 4) (⟨x19.u, x19.k, x19.r, x18⟩ : F) (by decide) ts3 rfl rfl rfl o17 e19 rfl rfl rfl rfl) ?_
      rintro _ _ ⟨C20, rfl, o20⟩
      refine ow_nil ?_
      refine kw_nx ?_
      refine cw_region ?_
      refine ow_det .none (stp_move rfl) rfl ?_
      obtain ⟨x21, e21, H1⟩ := bind_some H1
      refine ow_det .none (stp_add rfl rfl e21) rfl ?_
      refine ow_det .none (stp_assign rfl) rfl ?_
      refine ow_nil ?_
      refine kw_bl_normal ?_
      refine kw_nx ?_
      refine cw_region ?_
      refine ow_det .none (stp_move rfl) rfl ?_
      obtain ⟨x22, e22, H1⟩ := bind_some H1
      refine ow_det .none (stp_add rfl rfl e22) rfl ?_
      refine ow_det .none (stp_assign rfl) rfl ?_
      refine ow_nil ?_
      exact kw_lqS (js := [0]) (fuel, (((((v1.set (Int.toNat v4) (⟨(x6 == 0), x7.k, x7.r, x7.nx⟩ : F)).set (Int.toNat v4) (⟨x10.u, (⟨x9, x10.k.p⟩ : K), x10.r, x10.nx⟩ : F)).set (Int.toNat v4) (⟨x13.u, (⟨x13.k.s, x12⟩ : K), x13.r, x13.nx⟩ : F)).set (Int.toNat v4) (⟨x16.u, x16.k, x15, x16.nx⟩ : F)).set (Int.toNat v4) (⟨x19.u, x19.k, x19.r, x18⟩ : F)), x21, x22, C20) ⟨H1, (by simp [hl2]), o20⟩ (Nat.lt_succ_self _) ⟨rfl, rfl, rfl, trivial⟩ ⟨0, [], rfl, rfl, trivial⟩ (by decide)
    · have H1 := cond_f H1 h5
      refine cw_exit ?_
      refine kw_nx_exit ?_
      refine kw_lq_exit ?_
      refine kw_bl ?_
      have q1 := Option.some.inj H1
      subst q1
      exact kw_joinS (js := [0]) (v1, v3, v4, C2) ⟨rfl, (by simp [hl2]), o2⟩ ⟨rfl, rfl, rfl, trivial⟩ ⟨0, [], rfl, rfl, trivial⟩ (by decide)
  · rintro ⟨v1, v3, v4, C2⟩ ⟨rfl, hl2, o2⟩
    refine KW.sub (s' := [(0, .slice p0_0 ((a0).length) c0_0), (1, .int .i64 v3), (5, .int .i64 v4)]) (h' := [(0, C2)]) ?_ ⟨rfl, rfl, rfl, trivial⟩ ⟨rfl, trivial⟩
    refine kw_nx ?_
    refine cw_seq ?_
    refine cw_region ?_
    refine ow_det .none (stp_move rfl) rfl ?_
    refine ow_det .none (stp_assign rfl) rfl ?_
    refine ow_nil ?_
    refine kw_nx ?_
    refine cw_ret ?_
    have q0 := Option.some.inj H0
    subst q0
    exact kw_ret Tryd.results63 (.cons (.tmp rfl) .nil) [(0, C2)] [0] ⟨0, [], rfl, rfl, trivial⟩ (by decide) ⟨C2, rfl, rfl, (by simp [hl2]), o2⟩

set_option maxHeartbeats 4000000 in
set_option maxRecDepth 20000 in
theorem c_l_markTable (fl : Nat) (w : World) (a0 : T) (p0_0 : Option Addr) (n0_0 c0_0 : Nat) (C0_0 : Res) (p0_1 : Option Addr) (n0_1 c0_1 : Nat) (C0_1 : Res) (a1 : Int) (hn0_0 : n0_0 = (a0.b).length) (ho0_0 : OwnC (α := Int) 3 p0_0 c0_0 a0.b C0_0) (hn0_1 : n0_1 = (a0.f).length) (ho0_1 : OwnC (α := F) 53 p0_1 c0_1 a0.f C0_1) (hM : Sat w (hkeys [(0, C0_0), (1, C0_1)]) w [(0, C0_0), (1, C0_1)]) (r : Int × (List Int) × (List F)) (H0 : l_markTable fl a0 a1 = some r) :
    Ct Tryd.prog 25 [.agg #[.slice p0_0 n0_0 c0_0, .slice p0_1 n0_1 c0_1], .int .i64 a1] w [(0, C0_0), (1, C0_1)] (fun rv h' => ∃ (D0 : Res) (D1 : Res), rv = .int .i64 r.1 ∧ h' = [(0, D0), (1, D1)] ∧ n0_0 = (r.2.1).length ∧ OwnC (α := Int) 3 p0_0 c0_0 r.2.1 D0 ∧ n0_1 = (r.2.2).length ∧ OwnC (α := F) 53 p0_1 c0_1 r.2.2 D1) := by
  obtain rfl := hn0_0
  obtain rfl := hn0_1
  unfold l_markTable at H0
  refine ct_of_cw Tryd.func25 rfl Tryd.ntmps25 rfl hM ?_
  refine cw_seq ?_
  refine cw_region ?_
  refine ow_eff .none (stpU_box 2 rfl rfl) rfl ?_
  rintro _ _ ⟨b1, rfl, rfl⟩
  refine ow_det .none (stp_assign rfl) rfl ?_
  refine ow_nil ?_
  refine kw_nx ?_
  refine cw_seq ?_
  refine cw_region ?_
  refine ow_det .none (stp_fieldAddr (j := 0) Tryd.underlying26 rfl ts23 rfl rfl rfl) rfl ?_
  refine ow_det .none (stp_load1 ts23 rfl (Cells.box (id := 2) rfl 1 rfl)) rfl ?_
  refine ow_det .none (stp_move rfl) rfl ?_
  obtain ⟨x2, e2, H0⟩ := bind_some H0
  refine ow_eff .none (stpU_callM (fun i => bif Nat.beq i 0 then 0 else 3 + i) cf62 (fun w hw hb => c_l_markIntS fl w a0.b p0_0 ((a0.b).length) c0_0 C0_0 a1 rfl ho0_0 (hw.pass (js := [0]) ⟨0, [], rfl, rfl, trivial⟩ (by decide)) x2 e2) (sevs_cons rfl (sevs_cons rfl sevs_nil)) ⟨rfl, (fun _ _ hp => by obtain ⟨_, _, rfl, _⟩ := hp; exact ⟨_, rfl⟩), trivial⟩) rfl ?_
  rintro _ _ ⟨_, ⟨C3, rfl, rfl, hl3, o3⟩, rfl⟩
  refine ow_det .none (stp_assign rfl) rfl ?_
  refine ow_nil ?_
  refine kw_nx ?_
  refine cw_seq ?_
  refine cw_region ?_
  refine ow_det .none (stp_fieldAddr (j := 1) Tryd.underlying26 rfl ts24 rfl rfl rfl) rfl ?_
  refine ow_det .none (stp_load1 ts24 rfl (Cells.box (id := 2) rfl 1 rfl)) rfl ?_
  refine ow_det .none (stp_move rfl) rfl ?_
  obtain ⟨x4, e4, H0⟩ := bind_some H0
  refine ow_eff .none (stpU_callM (fun i => bif Nat.beq i 0 then 1 else 4 + i) cf63 (fun w hw hb => c_l_markFrameS fl w a0.f p0_1 ((a0.f).length) c0_1 C0_1 x2.1 rfl ho0_1 (hw.pass (js := [1]) ⟨1, [], rfl, rfl, trivial⟩ (by decide)) x4 e4) (sevs_cons rfl (sevs_cons rfl sevs_nil)) ⟨rfl, (fun _ _ hp => by obtain ⟨_, _, rfl, _⟩ := hp; exact ⟨_, rfl⟩), trivial⟩) rfl ?_
  rintro _ _ ⟨_, ⟨C5, rfl, rfl, hl5, o5⟩, rfl⟩
  refine ow_det .none (stp_assign rfl) rfl ?_
  refine ow_nil ?_
  refine kw_nx ?_
  refine cw_seq ?_
  refine cw_region ?_
  refine ow_det .none (stp_move rfl) rfl ?_
  refine ow_det .none (stp_assign rfl) rfl ?_
  refine ow_nil ?_
  refine kw_nx ?_
  refine cw_ret ?_
  have q0 := Option.some.inj H0
  subst q0
  exact kw_ret Tryd.results25 (.cons (.tmp rfl) .nil) [(0, C3), (1, C5)] [0, 1] ⟨0, [1], rfl, rfl, 1, [], rfl, rfl, trivial⟩ (by decide) ⟨C3, C5, rfl, rfl, (by simp [hl3]), o3, (by simp [hl5]), o5⟩

set_option maxHeartbeats 4000000 in
set_option maxRecDepth 20000 in
theorem c_l_heldIntS (fl : Nat) (w : World) (a0 : (List Int)) (p0_0 : Option Addr) (n0_0 c0_0 : Nat) (a1 : Int) (hn0_0 : n0_0 = (a0).length) (hr0_0 : RO w (hkeys []) (RdL p0_0 c0_0 a0)) (r : Int) (H0 : l_heldIntS fl a0 a1 = some r) :
    Ct Tryd.prog 64 [.slice p0_0 n0_0 c0_0, .int .i64 a1] w [] (fun rv h' => rv = .int .i64 r ∧ h' = []) := by
  obtain rfl := hn0_0
  unfold l_heldIntS at H0
  refine ct_of_cw Tryd.func64 rfl Tryd.ntmps64 rfl (Sat.refl _ _) ?_
  refine cw_seq ?_
  refine cw_region ?_
  refine ow_det .none (stp_assign rfl) rfl ?_
  refine ow_nil ?_
  refine kw_nx ?_
  refine cw_seq ?_
  refine cw_seq ?_
  refine cw_region ?_
  refine ow_det .none (stp_assign rfl) rfl ?_
  refine ow_nil ?_
  refine kw_nx ?_
  obtain ⟨o0_0, eo0_0, H0⟩ := bind_some H0
  refine cw_join (ι := Int × Int) (fun | (v1, v2) => o0_0 = .out (v1, v2)) (fun | (v1, v2) => [(0, .slice p0_0 ((a0).length) c0_0), (1, .int .i64 v1), (5, .int .i64 v2)]) (fun | (v1, v2) => []) ?_ ?_
  · refine cw_block ?_
    refine cw_loopS (ι := Nat × Int × Int) (js := []) (fun x => x.1) (fun | (fuel, v1, v2) => l_heldIntS_L0 fl a0 fuel v1 v2 = some o0_0) (fun | (_, v1, v2) => [(0, .slice p0_0 ((a0).length) c0_0), (1, .int .i64 v1), (5, .int .i64 v2)]) (fun | (_, v1, v2) => []) (fl, a1, 0) eo0_0 ⟨rfl, rfl, rfl, trivial⟩ trivial (by decide) ?_
    rintro ⟨fuel, v1, v2⟩ H1
    have H1 : l_heldIntS_L0 fl a0 fuel v1 v2 = some o0_0 := H1
    rcases fuel with _ | fuel
    · rw [l_heldIntS_L0.eq_1] at H1; cases H1
    rw [l_heldIntS_L0.eq_2] at H1
    refine CW.sub (s' := [(0, .slice p0_0 ((a0).length) c0_0), (1, .int .i64 v1), (5, .int .i64 v2)]) (h' := []) ?_ ⟨rfl, rfl, rfl, trivial⟩ trivial
    refine cw_seq ?_
    refine cw_seq ?_
    refine cw_region ?_
    refine ow_det .none (stp_move rfl) rfl ?_
    refine ow_det .none (stp_move rfl) rfl ?_
    refine ow_det .none (stp_len Tryd.underlying23 rfl) rfl ?_
    refine ow_det .none (stp_lss rfl rfl) rfl ?_
    refine ow_nil ?_
    refine kw_nx ?_
    refine cw_cond rfl (fun h3 => ?_) (fun h3 => ?_)
    · have H1 := cond_t H1 h3
      refine cw_skip ?_
      refine kw_nx ?_
      refine cw_seq ?_
      refine cw_block ?_
      refine cw_seq ?_
      refine cw_seq ?_
      refine cw_region ?_
      refine ow_det .none (stp_move rfl) rfl ?_
      refine ow_det .none (stp_move rfl) rfl ?_
      obtain ⟨x4, e4, H1⟩ := bind_some H1
      refine ow_det .none (stp_indexAddr Tryd.underlying23 ts3 (by decide) rfl rfl rfl (Rdb.ro hr0_0) e4) rfl ?_
      refine ow_det .none (stp_load1 ts3 rfl (Cells.el (Rdb.ro hr0_0) (by decide) e4 0 1 rfl)) rfl ?_
      refine ow_det .none (stp_move rfl) rfl ?_
      refine ow_det .none (stp_neq rfl rfl) rfl ?_
      refine ow_nil ?_
      refine kw_nx ?_
      refine cw_cond rfl (fun h5 => ?_) (fun h5 => ?_)
      · have H1 := cond_t H1 h5
        refine cw_seq ?_
        refine cw_region ?_
        refine ow_det .none (stp_assign rfl) rfl ?_
        refine ow_nil ?_
        refine kw_nx ?_
        refine cw_ret ?_
        refine kw_nx_ret ?_
        refine kw_bl_ret ?_
        refine kw_nx_ret ?_
        refine kw_lq_ret ?_
        refine kw_bl_ret ?_
        refine kw_join_ret ?_
        refine kw_nx_ret ?_
        have q1 := Option.some.inj H1
        subst q1
        have q0 := Option.some.inj H0
        subst q0
        exact kw_ret Tryd.results64 (.cons (.tmp rfl) .nil) [] [] trivial (by decide) ⟨rfl, rfl⟩
      · have H1 := cond_f H1 h5
        refine cw_skip ?_
        refine kw_nx ?_
        refine cw_region ?_
        refine ow_det .none (stp_move rfl) rfl ?_
        obtain ⟨x6, e6, H1⟩ := bind_some H1
        refine ow_det .none (stp_add rfl rfl e6) rfl ?_
        refine ow_det .none (stp_assign rfl) rfl ?_
        refine ow_nil ?_
        refine kw_bl_normal ?_
        refine kw_nx ?_
        refine cw_region ?_
        refine ow_det .none (stp_move rfl) rfl ?_
        obtain ⟨x7, e7, H1⟩ := bind_some H1
        refine ow_det .none (stp_add rfl rfl e7) rfl ?_
        refine ow_det .none (stp_assign rfl) rfl ?_
        refine ow_nil ?_
        exact kw_lqS (js := []) (fuel, x6, x7) H1 (Nat.lt_succ_self _) ⟨rfl, rfl, rfl, trivial⟩ trivial (by decide)
    · have H1 := cond_f H1 h3
      refine cw_exit ?_
      refine kw_nx_exit ?_
      refine kw_lq_exit ?_
      refine kw_bl ?_
      have q1 := Option.some.inj H1
      subst q1
      exact kw_joinS (js := []) (v1, v2) rfl ⟨rfl, rfl, rfl, trivial⟩ trivial (by decide)
  · rintro ⟨v1, v2⟩ rfl
    refine KW.sub (s' := [(0, .slice p0_0 ((a0).length) c0_0), (1, .int .i64 v1), (5, .int .i64 v2)]) (h' := []) ?_ ⟨rfl, rfl, rfl, trivial⟩ trivial
    refine kw_nx ?_
    refine cw_seq ?_
    refine cw_region ?_
    refine ow_det .none (stp_move rfl) rfl ?_
    refine ow_det .none (stp_assign rfl) rfl ?_
    refine ow_nil ?_
    refine kw_nx ?_
    refine cw_ret ?_
    have q0 := Option.some.inj H0
    subst q0
    exact kw_ret Tryd.results64 (.cons (.tmp rfl) .nil) [] [] trivial (by decide) ⟨rfl, rfl⟩

set_option maxHeartbeats 4000000 in
set_option maxRecDepth 20000 in
theorem c_l_heldFrameS (fl : Nat) (w : World) (a0 : (List F)) (p0_0 : Option Addr) (n0_0 c0_0 : Nat) (a1 : Int) (hn0_0 : n0_0 = (a0).length) (hr0_0 : RO w (hkeys []) (RdL p0_0 c0_0 a0)) (r : Int) (H0 : l_heldFrameS fl a0 a1 = some r) :
    Ct Tryd.prog 65 [.slice p0_0 n0_0 c0_0, .int .i64 a1] w [] (fun rv h' => rv = .int .i64 r ∧ h' = []) := by
  obtain rfl := hn0_0
  unfold l_heldFrameS at H0
  refine ct_of_cw Tryd.func65 rfl Tryd.ntmps65 rfl (Sat.refl _ _) ?_
  refine cw_seq ?_
  refine cw_region ?_
  refine ow_det .none (stp_assign rfl) rfl ?_
  refine ow_nil ?_
  refine kw_nx ?_
  refine cw_seq ?_
  refine cw_seq ?_
  refine cw_region ?_
  refine ow_det .none (stp_assign rfl) rfl ?_
  refine ow_nil ?_
  refine kw_nx ?_
  obtain ⟨o0_0, eo0_0, H0⟩ := bind_some H0
  refine cw_join (ι := Int × Int) (fun | (v1, v2) => o0_0 = .out (v1, v2)) (fun | (v1, v2) => [(0, .slice p0_0 ((a0).length) c0_0), (1, .int .i64 v1), (5, .int .i64 v2)]) (fun | (v1, v2) => []) ?_ ?_
  · refine cw_block ?_
    refine cw_loopS (ι := Nat × Int × Int) (js := []) (fun x => x.1) (fun | (fuel, v1, v2) => l_heldFrameS_L0 fl a0 fuel v1 v2 = some o0_0) (fun | (_, v1, v2) => [(0, .slice p0_0 ((a0).length) c0_0), (1, .int .i64 v1), (5, .int .i64 v2)]) (fun | (_, v1, v2) => []) (fl, a1, 0) eo0_0 ⟨rfl, rfl, rfl, trivial⟩ trivial (by decide) ?_
    rintro ⟨fuel, v1, v2⟩ H1
    have H1 : l_heldFrameS_L0 fl a0 fuel v1 v2 = some o0_0 := H1
    rcases fuel with _ | fuel
    · rw [l_heldFrameS_L0.eq_1] at H1; cases H1
    rw [l_heldFrameS_L0.eq_2] at H1
    refine CW.sub (s' := [(0, .slice p0_0 ((a0).length) c0_0), (1, .int .i64 v1), (5, .int .i64 v2)]) (h' := []) ?_ ⟨rfl, rfl, rfl, trivial⟩ trivial
    refine cw_seq ?_
    refine cw_seq ?_
    refine cw_region ?_
    refine ow_det .none (stp_move rfl) rfl ?_
    refine ow_det .none (stp_move rfl) rfl ?_
    refine ow_det .none (stp_len Tryd.underlying24 rfl) rfl ?_
    refine ow_det .none (stp_lss rfl rfl) rfl ?_
    refine ow_nil ?_
    refine kw_nx ?_
    refine cw_cond rfl (fun h3 => ?_) (fun h3 => ?_)
    · have H1 := cond_t H1 h3
      refine cw_skip ?_
      refine kw_nx ?_
      refine cw_seq ?_
      refine cw_block ?_
      refine cw_seq ?_
      refine cw_seq ?_
      refine cw_region ?_
      refine ow_det .none (stp_move rfl) rfl ?_
      refine ow_det .none (stp_move rfl) rfl ?_
      obtain ⟨x4, e4, H1⟩ := bind_some H1
      refine ow_det .none (stp_indexAddr Tryd.underlying24 ts53 (by decide) rfl rfl rfl (Rdb.ro hr0_0) e4) rfl ?_
      refine ow_det .none (stp_fieldAddr (j := 0) Tryd.underlying53 rfl ts4 rfl rfl rfl) rfl ?_
      refine ow_det .none (stp_load1 ts4 rfl (Cells.el (Rdb.ro hr0_0) (by decide) e4 0 1 rfl)) rfl ?_
      refine ow_det .none (stp_move rfl) rfl ?_
      obtain ⟨x5, e5, H1⟩ := bind_some H1
      refine ow_det .none (stp_rem rfl rfl e5) rfl ?_
      refine ow_det .none (stp_eql rfl rfl) rfl ?_
      refine ow_det .none (stp_neqB Tryd.underlying4 rfl rfl) rfl ?_
      refine ow_nil ?_
      refine kw_nx ?_
      refine cw_cond rfl (fun h6 => ?_) (fun h6 => ?_)
      · have H1 := cond_t H1 h6
        refine cw_seq ?_
        refine cw_region ?_
        refine ow_det .none (stp_assign rfl) rfl ?_
        refine ow_nil ?_
        refine kw_nx ?_
        refine cw_ret ?_
        refine kw_nx_ret ?_
        refine kw_bl_ret ?_
        refine kw_nx_ret ?_
        refine kw_lq_ret ?_
        refine kw_bl_ret ?_
        refine kw_join_ret ?_
        refine kw_nx_ret ?_
        have q1 := Option.some.inj H1
        subst q1
        have q0 := Option.some.inj H0
        subst q0
        exact kw_ret Tryd.results65 (.cons (.tmp rfl) .nil) [] [] trivial (by decide) ⟨rfl, rfl⟩
      · have H1 := cond_f H1 h6
        refine cw_skip ?_
        refine kw_nx ?_
        refine cw_seq ?_
        refine cw_region ?_
        refine ow_det .none (stp_move rfl) rfl ?_
        obtain ⟨x7, e7, H1⟩ := bind_some H1
        refine ow_det .none (stp_add rfl rfl e7) rfl ?_
        refine ow_det .none (stp_assign rfl) rfl ?_
        refine ow_nil ?_
        refine kw_nx ?_
        refine cw_seq ?_
        refine cw_seq ?_
        refine cw_region ?_
        refine ow_det .none (stp_move rfl) rfl ?_
        refine ow_det .none (stp_move rfl) rfl ?_
        refine ow_det .none (stp_indexAddr Tryd.underlying24 ts53 (by decide) rfl rfl rfl (Rdb.ro hr0_0) e4) rfl ?_
        refine ow_det .none (stp_fieldAddr (j := 1) Tryd.underlying53 rfl ts28 rfl rfl rfl) rfl ?_
        refine ow_det .none (stp_fieldAddr (j := 0) Tryd.underlying28 rfl ts3 rfl rfl rfl) rfl ?_
        refine ow_det .none (stp_load1 ts3 rfl (Cells.el (Rdb.ro hr0_0) (by decide) e4 1 1 rfl)) rfl ?_
        refine ow_det .none (stp_move rfl) rfl ?_
        refine ow_det .none (stp_neq rfl rfl) rfl ?_
        refine ow_nil ?_
        refine kw_nx ?_
        refine cw_cond rfl (fun h8 => ?_) (fun h8 => ?_)
        · have H1 := cond_t H1 h8
          refine cw_seq ?_
          refine cw_region ?_
          refine ow_det .none (stp_assign rfl) rfl ?_
          refine ow_nil ?_
          refine kw_nx ?_
          refine cw_ret ?_
          refine kw_nx_ret ?_
          refine kw_bl_ret ?_
          refine kw_nx_ret ?_
          refine kw_lq_ret ?_
          refine kw_bl_ret ?_
          refine kw_join_ret ?_
          refine kw_nx_ret ?_
          have q1 := Option.some.inj H1
          subst q1
          have q0 := Option.some.inj H0
          subst q0
          exact kw_ret Tryd.results65 (.cons (.tmp rfl) .nil) [] [] trivial (by decide) ⟨rfl, rfl⟩
        · have H1 := cond_f H1 h8
          refine cw_skip ?_
          refine kw_nx ?_
          refine cw_seq ?_
          refine cw_region ?_
          refine ow_det .none (stp_move rfl) rfl ?_
          obtain ⟨x9, e9, H1⟩ := bind_some H1
          refine ow_det .none (stp_add rfl rfl e9) rfl ?_
          refine ow_det .none (stp_assign rfl) rfl ?_
          refine ow_nil ?_
          refine kw_nx ?_
          refine cw_seq ?_
          refine cw_seq ?_
          refine cw_region ?_
          refine ow_det .none (stp_move rfl) rfl ?_
          refine ow_det .none (stp_move rfl) rfl ?_
          refine ow_det .none (stp_indexAddr Tryd.underlying24 ts53 (by decide) rfl rfl rfl (Rdb.ro hr0_0) e4) rfl ?_
          refine ow_det .none (stp_fieldAddr (j := 1) Tryd.underlying53 rfl ts28 rfl rfl rfl) rfl ?_
          refine ow_det .none (stp_fieldAddr (j := 1) Tryd.underlying28 rfl ts3 rfl rfl rfl) rfl ?_
          refine ow_det .none (stp_load1 ts3 rfl (Cells.el (Rdb.ro hr0_0) (by decide) e4 2 1 rfl)) rfl ?_
          refine ow_det .none (stp_move rfl) rfl ?_
          refine ow_det .none (stp_neq rfl rfl) rfl ?_
          refine ow_nil ?_
          refine kw_nx ?_
          refine cw_cond rfl (fun h10 => ?_) (fun h10 => ?_)
          · have H1 := cond_t H1 h10
            refine cw_seq ?_
            refine cw_region ?_
            refine ow_det .none (stp_assign rfl) rfl ?_
            refine ow_nil ?_
            refine kw_nx ?_
            refine cw_ret ?_
            refine kw_nx_ret ?_
            refine kw_bl_ret ?_
            refine kw_nx_ret ?_
            refine kw_lq_ret ?_
            refine kw_bl_ret ?_
            refine kw_join_ret ?_
            refine kw_nx_ret ?_
            have q1 := Option.some.inj H1
            subst q1
            have q0 := Option.some.inj H0
            subst q0
            exact kw_ret Tryd.results65 (.cons (.tmp rfl) .nil) [] [] trivial (by decide) ⟨rfl, rfl⟩
          · have H1 := cond_f H1 h10
            refine cw_skip ?_
            refine kw_nx ?_
            refine cw_seq ?_
            refine cw_region ?_
            refine ow_det .none (stp_move rfl) rfl ?_
            obtain ⟨x11, e11, H1⟩ := bind_some H1
            refine ow_det .none (stp_add rfl rfl e11) rfl ?_
            refine ow_det .none (stp_assign rfl) rfl ?_
            refine ow_nil ?_
            refine kw_nx ?_
            refine cw_seq ?_
            refine cw_seq ?_
            refine cw_region ?_
            refine ow_det .none (stp_move rfl) rfl ?_
            refine ow_det .none (stp_move rfl) rfl ?_
            refine ow_det .none (stp_indexAddr Tryd.underlying24 ts53 (by decide) rfl rfl rfl (Rdb.ro hr0_0) e4) rfl ?_
            refine ow_det .none (stp_fieldAddr (j := 3) Tryd.underlying53 rfl ts3 rfl rfl rfl) rfl ?_
            refine ow_det .none (stp_load1 ts3 rfl (Cells.el (Rdb.ro hr0_0) (by decide) e4 3 1 rfl)) rfl ?_
            refine ow_det .none (stp_move rfl) rfl ?_
            refine ow_det .none (stp_neq rfl rfl) rfl ?_
            refine ow_nil ?_
            refine kw_nx ?_
            refine cw_cond rfl (fun h12 => ?_) (fun h12 => ?_)
            · have H1 := cond_t H1 h12
              refine cw_seq ?_
              refine cw_region ?_
              refine ow_det .none (stp_assign rfl) rfl ?_
              refine ow_nil ?_
              refine kw_nx ?_
              refine cw_ret ?_
              refine kw_nx_ret ?_
              refine kw_bl_ret ?_
              refine kw_nx_ret ?_
              refine kw_lq_ret ?_
              refine kw_bl_ret ?_
              refine kw_join_ret ?_
              refine kw_nx_ret ?_
              have q1 := Option.some.inj H1
              subst q1
              have q0 := Option.some.inj H0
              subst q0
              exact kw_ret Tryd.results65 (.cons (.tmp rfl) .nil) [] [] trivial (by decide) ⟨rfl, rfl⟩
            · have H1 := cond_f H1 h12
              refine cw_skip ?_
              refine kw_nx ?_
              refine cw_seq ?_
              refine cw_region ?_
              refine ow_det .none (stp_move rfl) rfl ?_
              obtain ⟨x13, e13, H1⟩ := bind_some H1
              refine ow_det .none (stp_add rfl rfl e13) rfl ?_
              refine ow_det .none (stp_assign rfl) rfl ?_
              refine ow_nil ?_
              refine kw_nx ?_
              refine cw_seq ?_
              refine cw_seq ?_
              refine cw_region ?_
              refine ow_det .none (stp_move rfl) rfl ?_
              refine ow_det .none (stp_move rfl) rfl ?_
              refine ow_det .none (stp_indexAddr Tryd.underlying24 ts53 (by decide) rfl rfl rfl (Rdb.ro hr0_0) e4) rfl ?_
              refine ow_det .none (stp_fieldAddr (j := 4) Tryd.underlying53 rfl ts3 rfl rfl rfl) rfl ?_
              refine ow_det .none (stp_load1 ts3 rfl (Cells.el (Rdb.ro hr0_0) (by decide) e4 4 1 rfl)) rfl ?_
              refine ow_det .none (stp_move rfl) rfl ?_
              refine ow_det .none (stp_neq rfl rfl) rfl ?_
              refine ow_nil ?_
              refine kw_nx ?_
              refine cw_cond rfl (fun h14 => ?_) (fun h14 => ?_)
              · have H1 := cond_t H1 h14
                refine cw_seq ?_
                refine cw_region ?_
                refine ow_det .none (stp_assign rfl) rfl ?_
                refine ow_nil ?_
                refine kw_nx ?_
                refine cw_ret ?_
                refine kw_nx_ret ?_
                refine kw_bl_ret ?_
                refine kw_nx_ret ?_
                refine kw_lq_ret ?_
                refine kw_bl_ret ?_
                refine kw_join_ret ?_
                refine kw_nx_ret ?_
                have q1 := Option.some.inj H1
                subst q1
                have q0 := Option.some.inj H0
                subst q0
                exact kw_ret Tryd.results65 (.cons (.tmp rfl) .nil) [] [] trivial (by decide) ⟨rfl, rfl⟩
              · have H1 := cond_f H1 h14
                refine cw_skip ?_
                refine kw_nx ?_
                refine cw_region ?_
                refine ow_det .none (stp_move rfl) rfl ?_
                obtain ⟨x15, e15, H1⟩ := bind_some H1
                refine ow_det .none (stp_add rfl rfl e15) rfl ?_
                refine ow_det .none (stp_assign rfl) rfl ?_
                refine ow_nil ?_
                refine kw_bl_normal ?_
                refine kw_nx ?_
                refine cw_region ?_
                refine ow_det .none (stp_move rfl) rfl ?_
                obtain ⟨x16, e16, H1⟩ := bind_some H1
                refine ow_det .none (stp_add rfl rfl e16) rfl ?_
                refine ow_det .none (stp_assign rfl) rfl ?_
                refine ow_nil ?_
                exact kw_lqS (js := []) (fuel, x15, x16) H1 (Nat.lt_succ_self _) ⟨rfl, rfl, rfl, trivial⟩ trivial (by decide)
    · have H1 := cond_f H1 h3
      refine cw_exit ?_
      refine kw_nx_exit ?_
      refine kw_lq_exit ?_
      refine kw_bl ?_
      have q1 := Option.some.inj H1
      subst q1
      exact kw_joinS (js := []) (v1, v2) rfl ⟨rfl, rfl, rfl, trivial⟩ trivial (by decide)
  · rintro ⟨v1, v2⟩ rfl
    refine KW.sub (s' := [(0, .slice p0_0 ((a0).length) c0_0), (1, .int .i64 v1), (5, .int .i64 v2)]) (h' := []) ?_ ⟨rfl, rfl, rfl, trivial⟩ trivial
    refine kw_nx ?_
    refine cw_seq ?_
    refine cw_region ?_
    refine ow_det .none (stp_move rfl) rfl ?_
    refine ow_det .none (stp_assign rfl) rfl ?_
    refine ow_nil ?_
    refine kw_nx ?_
    refine cw_ret ?_
    have q0 := Option.some.inj H0
    subst q0
    exact kw_ret Tryd.results65 (.cons (.tmp rfl) .nil) [] [] trivial (by decide) ⟨rfl, rfl⟩

set_option maxHeartbeats 4000000 in
set_option maxRecDepth 20000 in
theorem c_l_heldTable (fl : Nat) (w : World) (a0 : T) (p0_0 : Option Addr) (n0_0 c0_0 : Nat) (p0_1 : Option Addr) (n0_1 c0_1 : Nat) (a1 : Int) (hn0_0 : n0_0 = (a0.b).length) (hr0_0 : RO w (hkeys []) (RdL p0_0 c0_0 a0.b)) (hn0_1 : n0_1 = (a0.f).length) (hr0_1 : RO w (hkeys []) (RdL p0_1 c0_1 a0.f)) (r : Int) (H0 : l_heldTable fl a0 a1 = some r) :
    Ct Tryd.prog 26 [.agg #[.slice p0_0 n0_0 c0_0, .slice p0_1 n0_1 c0_1], .int .i64 a1] w [] (fun rv h' => rv = .int .i64 r ∧ h' = []) := by
  obtain rfl := hn0_0
  obtain rfl := hn0_1
  unfold l_heldTable at H0
  refine ct_of_cw Tryd.func26 rfl Tryd.ntmps26 rfl (Sat.refl _ _) ?_
  refine cw_seq ?_
  refine cw_region ?_
  refine ow_eff .none (stpU_box 0 rfl rfl) rfl ?_
  rintro _ _ ⟨b1, rfl, rfl⟩
  refine ow_det .none (stp_assign rfl) rfl ?_
  refine ow_nil ?_
  refine kw_nx ?_
  refine cw_seq ?_
  refine cw_region ?_
  refine ow_det .none (stp_fieldAddr (j := 0) Tryd.underlying26 rfl ts23 rfl rfl rfl) rfl ?_
  refine ow_det .none (stp_load1 ts23 rfl (Cells.box (id := 0) rfl 1 rfl)) rfl ?_
  refine ow_det .none (stp_move rfl) rfl ?_
  obtain ⟨x2, e2, H0⟩ := bind_some H0
  refine ow_eff .none (stpU_call (fun i => 1 + i) cf64 (fun w hw => c_l_heldIntS fl w a0.b p0_0 ((a0.b).length) c0_0 a1 rfl (RO.pass hr0_0 hw) x2 e2) (sevs_cons rfl (sevs_cons rfl sevs_nil))) rfl ?_
  rintro _ _ ⟨_, ⟨rfl, rfl⟩, rfl⟩
  refine ow_det .none (stp_assign rfl) rfl ?_
  refine ow_nil ?_
  refine kw_nx ?_
  refine cw_seq ?_
  refine cw_seq ?_
  refine cw_region ?_
  refine ow_det .none (stp_move rfl) rfl ?_
  refine ow_det .none (stp_lss rfl rfl) rfl ?_
  refine ow_nil ?_
  refine kw_nx ?_
  refine cw_cond rfl (fun h3 => ?_) (fun h3 => ?_)
  · have H0 := cond_t H0 h3
    refine cw_seq ?_
    refine cw_region ?_
    refine ow_det .none (stp_assign rfl) rfl ?_
    refine ow_nil ?_
    refine kw_nx ?_
    refine cw_ret ?_
    refine kw_nx_ret ?_
    have q0 := Option.some.inj H0
    subst q0
    exact kw_ret Tryd.results26 (.cons (.tmp rfl) .nil) [] [] trivial (by decide) ⟨rfl, rfl⟩
  · have H0 := cond_f H0 h3
    refine cw_skip ?_
    refine kw_nx ?_
    refine cw_seq ?_
    refine cw_region ?_
    refine ow_det .none (stp_fieldAddr (j := 1) Tryd.underlying26 rfl ts24 rfl rfl rfl) rfl ?_
    refine ow_det .none (stp_load1 ts24 rfl (Cells.box (id := 0) rfl 1 rfl)) rfl ?_
    refine ow_det .none (stp_move rfl) rfl ?_
    obtain ⟨x4, e4, H0⟩ := bind_some H0
    refine ow_eff .none (stpU_call (fun i => 1 + i) cf65 (fun w hw => c_l_heldFrameS fl w a0.f p0_1 ((a0.f).length) c0_1 x2 rfl (RO.pass hr0_1 hw) x4 e4) (sevs_cons rfl (sevs_cons rfl sevs_nil))) rfl ?_
    rintro _ _ ⟨_, ⟨rfl, rfl⟩, rfl⟩
    refine ow_det .none (stp_assign rfl) rfl ?_
    refine ow_nil ?_
    refine kw_nx ?_
    refine cw_seq ?_
    refine cw_seq ?_
    refine cw_region ?_
    refine ow_det .none (stp_move rfl) rfl ?_
    refine ow_det .none (stp_lss rfl rfl) rfl ?_
    refine ow_nil ?_
    refine kw_nx ?_
    refine cw_cond rfl (fun h5 => ?_) (fun h5 => ?_)
    · have H0 := cond_t H0 h5
      refine cw_seq ?_
      refine cw_region ?_
      refine ow_det .none (stp_assign rfl) rfl ?_
      refine ow_nil ?_
      refine kw_nx ?_
      refine cw_ret ?_
      refine kw_nx_ret ?_
      have q0 := Option.some.inj H0
      subst q0
      exact kw_ret Tryd.results26 (.cons (.tmp rfl) .nil) [] [] trivial (by decide) ⟨rfl, rfl⟩
    · have H0 := cond_f H0 h5
      refine cw_skip ?_
      refine kw_nx ?_
      refine cw_seq ?_
      refine cw_region ?_
      refine ow_det .none (stp_move rfl) rfl ?_
      refine ow_det .none (stp_assign rfl) rfl ?_
      refine ow_nil ?_
      refine kw_nx ?_
      refine cw_ret ?_
      have q0 := Option.some.inj H0
      subst q0
      exact kw_ret Tryd.results26 (.cons (.tmp rfl) .nil) [] [] trivial (by decide) ⟨rfl, rfl⟩

set_option maxHeartbeats 4000000 in
set_option maxRecDepth 20000 in
theorem c_l_FnExactProtectPage (fl : Nat) (w : World) (a0 : T) (p0_0 : Option Addr) (n0_0 c0_0 : Nat) (p0_1 : Option Addr) (n0_1 c0_1 : Nat) (a1 : K) (a2 : Int) (hn0_0 : n0_0 = (a0.b).length) (hr0_0 : RO w (hkeys []) (RdL p0_0 c0_0 a0.b)) (hn0_1 : n0_1 = (a0.f).length) (hr0_1 : RO w (hkeys []) (RdL p0_1 c0_1 a0.f)) (hg : RO w (hkeys []) (fun w' => w'.rangeAt 0 0 [.bool false, .int .i64 0, .int .i64 0, .int .i64 0, .int .i64 (-1)])) (r : Bool) (H0 : l_FnExactProtectPage fl a0 a1 a2 = some r) :
    Ct Tryd.prog 4 [.agg #[.slice p0_0 n0_0 c0_0, .slice p0_1 n0_1 c0_1], .agg #[.int .i64 a1.s, .int .i64 a1.p], .int .i64 a2] w [] (fun rv h' => rv = .bool r ∧ h' = []) := by
  obtain rfl := hn0_0
  obtain rfl := hn0_1
  unfold l_FnExactProtectPage at H0
  refine ct_of_cw Tryd.func4 rfl Tryd.ntmps4 rfl (Sat.refl _ _) ?_
  refine cw_seq ?_
  refine cw_region ?_
  refine ow_eff .none (stpU_box 0 rfl rfl) rfl ?_
  rintro _ _ ⟨b1, rfl, rfl⟩
  refine ow_eff .none (stpU_box 1 rfl rfl) rfl ?_
  rintro _ _ ⟨b2, rfl, rfl⟩
  refine ow_det .none (stp_assign rfl) rfl ?_
  refine ow_nil ?_
  refine kw_nx ?_
  refine cw_seq ?_
  refine cw_region ?_
  refine ow_det .none (stp_assign rfl) rfl ?_
  refine ow_nil ?_
  refine kw_nx ?_
  refine cw_seq ?_
  refine cw_region ?_
  refine ow_det .none (stp_loadN (us := [_, _]) ts41 rfl (Cells.box (id := 0) rfl 2 rfl)) rfl ?_
  refine ow_det .none (stp_move rfl) rfl ?_
  obtain ⟨x3, e3, H0⟩ := bind_some H0
  refine ow_eff .none (stpU_call (fun i => 2 + i) cf19 (fun w hw => c_l_szTable fl w a0 p0_0 ((a0.b).length) c0_0 p0_1 ((a0.f).length) c0_1 1048576 rfl (RO.pass hr0_0 hw) rfl (RO.pass hr0_1 hw) x3 e3) (sevs_cons rfl (sevs_cons rfl sevs_nil))) rfl ?_
  rintro _ _ ⟨_, ⟨rfl, rfl⟩, rfl⟩
  refine ow_det .none (stp_assign rfl) rfl ?_
  refine ow_nil ?_
  refine kw_nx ?_
  refine cw_seq ?_
  refine cw_seq ?_
  refine cw_region ?_
  refine ow_det .none (stp_move rfl) rfl ?_
  refine ow_det .none (stp_lss rfl rfl) rfl ?_
  refine ow_nil ?_
  refine kw_nx ?_
  refine cw_cond rfl (fun h4 => ?_) (fun h4 => ?_)
  · have H0 := cond_t H0 h4
    refine cw_seq ?_
    refine cw_region ?_
    refine ow_det .none (stp_assign rfl) rfl ?_
    refine ow_nil ?_
    refine kw_nx ?_
    refine cw_ret ?_
    refine kw_nx_ret ?_
    have q0 := Option.some.inj H0
    subst q0
    exact kw_ret Tryd.results4 (.cons (.tmp rfl) .nil) [] [] trivial (by decide) ⟨rfl, rfl⟩
  · have H0 := cond_f H0 h4
    refine cw_skip ?_
    refine kw_nx ?_
    refine cw_seq ?_
    obtain ⟨x5, e5, H0⟩ := bind_some H0
    obtain ⟨x14, e14, H0⟩ := bind_some H0
    obtain ⟨x15, e15, H0⟩ := bind_some H0
    refine region_drawn { dst := fun i => match i with | 0 => some 24 | 1 => some 25 | 2 => some 26 | 3 => some 27 | 4 => some 28 | 5 => some 29 | 6 => some 23 | 7 => some 30 | 8 => some 31 | 9 => some 8 | 11 => some 9 | _ => none, pre := fun i => match i with | 1 => [0] | 3 => [0, 1, 2] | 5 => [0, 1, 2, 3, 4] | 6 => [0, 1, 2, 3, 4, 5] | 7 => [0, 1, 2, 3, 4, 5, 6] | 8 => [0, 1, 2, 3, 4, 5, 6] | 10 => [0, 1, 2, 3, 4, 5, 6, 7, 9] | 11 => [0, 1, 2, 3, 4, 5, 6, 7, 8, 9, 10] | _ => [], ids := fun i => match i with | 1 => [2, 3] | 5 => [4, 5] | 9 => [6] | 10 => [6] | _ => [], rs := fun i => match i with | 0 => [(3, none)] | 1 => [(24, some 0)] | 2 => [(4, none)] | 3 => [(26, some 2)] | 4 => [(2, none)] | 5 => [(25, some 1), (27, some 3), (28, some 4)] | 6 => [(29, some 5)] | 7 => [(23, some 6)] | 8 => [(23, some 6)] | 10 => [(8, some 9), (30, some 7)] | 11 => [(31, some 8)] | _ => [], rh := fun i => match i with | 0 => [(0, none)] | 2 => [(1, none)] | 5 => [(2, some 1), (3, some 1)] | 10 => [(6, some 9)] | _ => [], V := fun i g => match i with | 0 => .agg #[.slice p0_0 ((a0.b).length) c0_0, .slice p0_1 ((a0.f).length) c0_1] | 1 => .agg #[.slice ((g 1).A 0) ((x5.b).length) ((g 1).C 0), .slice ((g 1).A 1) ((x5.f).length) ((g 1).C 1)] | 2 => .agg #[.int .i64 a1.s, .int .i64 a1.p] | 3 => .agg #[.int .i64 x14.s, .int .i64 x14.p] | 4 => .int .i64 a2 | 5 => .tuple #[.agg #[.slice ((g 5).A 0) ((x15.1.b).length) ((g 5).C 0), .slice ((g 5).A 1) ((x15.1.f).length) ((g 5).C 1)], .bool x15.2] | 6 => .tuple #[.agg #[.slice ((g 5).A 0) ((x15.1.b).length) ((g 5).C 0), .slice ((g 5).A 1) ((x15.1.f).length) ((g 5).C 1)], .bool x15.2] | 7 => .agg #[.slice ((g 5).A 0) ((x15.1.b).length) ((g 5).C 0), .slice ((g 5).A 1) ((x15.1.f).length) ((g 5).C 1)] | 8 => .bool x15.2 | 9 => .pointer (some ⟨((g 9).C 0), 0, none⟩) | 11 => .bool x15.2 | _ => undef, U := fun i g => match i with | 1 => [(2, ((g 1).R 0)), (3, ((g 1).R 1))] | 5 => [(4, ((g 5).R 0)), (5, ((g 5).R 1))] | 9 => [(6, [(((g 9).C 0), .cells #[.slice none 0 0, .slice none 0 0] 26 (0, 0))])] | 10 => [(6, [(((g 9).C 0), .cells #[.slice ((g 5).A 0) ((x15.1.b).length) ((g 5).C 0), .slice ((g 5).A 1) ((x15.1.f).length) ((g 5).C 1)] 26 (0, 0))])] | _ => [], Φ := fun i x => match i with | 1 => OwnC (α := Int) 3 (x.A 0) (x.C 0) x5.b (x.R 0) ∧ OwnC (α := F) 53 (x.A 1) (x.C 1) x5.f (x.R 1) | 5 => OwnC (α := Int) 3 (x.A 0) (x.C 0) x15.1.b (x.R 0) ∧ OwnC (α := F) 53 (x.A 1) (x.C 1) x15.1.f (x.R 1) | _ => True } g_mixed [2, 3, 4] [0, 1] (by kernel_rfl) (by kernel_rfl) (by kernel_rfl) ⟨⟨⟨⟨⟨⟨⟨⟨⟨⟨⟨⟨trivial, fun _ => ⟨rfl, rfl⟩⟩, fun _ => ⟨rfl, rfl⟩⟩, fun _ => ⟨rfl, rfl⟩⟩, fun _ => ⟨rfl, rfl⟩⟩, fun _ => ⟨rfl, rfl⟩⟩, fun _ => ⟨rfl, rfl⟩⟩, fun _ => ⟨rfl, rfl⟩⟩, fun _ => ⟨rfl, rfl⟩⟩, fun _ => ⟨rfl, rfl⟩⟩, fun _ => ⟨rfl, rfl⟩⟩, fun _ => ⟨rfl, rfl⟩⟩, fun _ => ⟨rfl, rfl⟩⟩ ?_ ?_
    · refine ⟨⟨⟨⟨⟨⟨⟨⟨⟨⟨⟨⟨trivial, ?_⟩, ?_⟩, ?_⟩, ?_⟩, ?_⟩, ?_⟩, ?_⟩, ?_⟩, ?_⟩, ?_⟩, ?_⟩, ?_⟩
      · exact loc_det rfl rfl (fun _ => rfl) trivial (fun g hΦ s h hs hh => ⟨.none, (stp_loadN (us := [_, _]) ts41 (sv hs 3 rfl) (Cells.box (id := 0) (hh.get 0 _ rfl) 2 rfl))⟩)
      · refine loc_eff rfl rfl (fun g hΦ s h hs hh => ⟨.none, (stpU_call (fun i => 2 + i) cf21 (fun w hw => c_l_toTable fl w a0 p0_0 ((a0.b).length) c0_0 p0_1 ((a0.f).length) c0_1 rfl (RO.pass hr0_0 hw) rfl (RO.pass hr0_1 hw) x5 e5) (sevs_cons (sv hs 24 rfl) sevs_nil))⟩) ?_
        rintro g _ _ ⟨_, ⟨p6, n7, c8, C9, p10, n11, c12, C13, rfl, rfl, hnn7, o9, hnn11, o13⟩, rfl⟩
        obtain rfl := hnn7
        obtain rfl := hnn11
        exact ⟨⟨[p6, p10], [c8, c12], [C9, C13]⟩, ⟨o9, o13⟩, .inr rfl, rfl⟩
      · exact loc_det rfl rfl (fun _ => rfl) trivial (fun g hΦ s h hs hh => ⟨.none, (stp_loadN (us := [_, _]) ts42 (sv hs 4 rfl) (Cells.box (id := 1) (hh.get 1 _ rfl) 2 rfl))⟩)
      · refine loc_eff rfl rfl (fun g hΦ s h hs hh => ⟨.none, (stpU_call (fun i => 4 + i) cf22 (fun w hw => c_l_toKey fl w a1 x14 e14) (sevs_cons (sv hs 26 rfl) sevs_nil))⟩) ?_
        rintro g _ _ ⟨_, ⟨rfl, rfl⟩, rfl⟩
        exact ⟨⟨[], [], []⟩, trivial, .inr rfl, rfl⟩
      · exact loc_det rfl rfl (fun _ => rfl) trivial (fun g hΦ s h hs hh => ⟨.none, (stp_move (sv hs 2 rfl))⟩)
      · refine loc_eff rfl rfl (fun g hΦ s h hs hh => ⟨.none, (stpU_call (fun i => 4 + i) cf20 (fun w hw => c_s_ProtectPage fl w x5 ((g 1).A 0) ((x5.b).length) ((g 1).C 0) ((g 1).A 1) ((x5.f).length) ((g 1).C 1) x14 a2 rfl (OwnC.pass (id := 2) (hh.get 2 _ rfl) (hΦ 1 rfl).1 hw) rfl (OwnC.pass (id := 3) (hh.get 3 _ rfl) (hΦ 1 rfl).2 hw) x15 e15) (sevs_cons (sv hs 25 rfl) (sevs_cons (sv hs 27 rfl) (sevs_cons (sv hs 28 rfl) sevs_nil))))⟩) ?_
        rintro g _ _ ⟨_, ⟨p16, n17, c18, C19, p20, n21, c22, C23, rfl, rfl, hnn17, o19, hnn21, o23⟩, rfl⟩
        obtain rfl := hnn17
        obtain rfl := hnn21
        exact ⟨⟨[p16, p20], [c18, c22], [C19, C23]⟩, ⟨o19, o23⟩, .inr rfl, rfl⟩
      · exact loc_det rfl rfl (fun _ => rfl) trivial (fun g hΦ s h hs hh => ⟨.none, (stp_move (sv hs 29 rfl))⟩)
      · exact loc_det rfl rfl (fun _ => rfl) trivial (fun g hΦ s h hs hh => ⟨.none, (stp_extract (sv hs 23 rfl) rfl)⟩)
      · exact loc_det rfl rfl (fun _ => rfl) trivial (fun g hΦ s h hs hh => ⟨.none, (stp_extract (sv hs 23 rfl) rfl)⟩)
      · refine loc_eff rfl rfl (fun g hΦ s h hs hh => ⟨.none, (stpU_alloc 6 tz26 rfl)⟩) ?_
        rintro g _ _ ⟨b24, rfl, rfl⟩
        exact ⟨⟨[], [b24], []⟩, trivial, .inr rfl, rfl⟩
      · refine loc_eff rfl rfl (fun g hΦ s h hs hh => ⟨.none, (stpU_store (id := 6) (cs' := [.slice ((g 5).A 0) ((x15.1.b).length) ((g 5).C 0), .slice ((g 5).A 1) ((x15.1.f).length) ((g 5).C 1)]) ts26 (sv hs 8 rfl) (sv hs 30 rfl) (hh.get 6 _ rfl) rfl rfl rfl rfl)⟩) ?_
        rintro g _ _ rfl
        exact ⟨⟨[], [], []⟩, trivial, .inl rfl, rfl⟩
      · exact loc_det rfl rfl (fun _ => rfl) trivial (fun g hΦ s h hs hh => ⟨.none, (stp_assign (sv hs 31 rfl))⟩)
    · intro g hΦ
      refine kw_gen (ι := Option Addr × Option Addr × Nat × Nat × Res × Res × Option Addr × Option Addr × Nat × Nat × Res × Res × Nat) (((g 1).A 0), ((g 1).A 1), ((g 1).C 0), ((g 1).C 1), ((g 1).R 0), ((g 1).R 1), ((g 5).A 0), ((g 5).A 1), ((g 5).C 0), ((g 5).C 1), ((g 5).R 0), ((g 5).R 1), ((g 9).C 0)) (fun | (p6, p10, c8, c12, C9, C13, p16, p20, c18, c22, C19, C23, b24) => OwnC (α := Int) 3 p6 c8 x5.b C9 ∧ OwnC (α := F) 53 p10 c12 x5.f C13 ∧ OwnC (α := Int) 3 p16 c18 x15.1.b C19 ∧ OwnC (α := F) 53 p20 c22 x15.1.f C23) (fun | (p6, p10, c8, c12, C9, C13, p16, p20, c18, c22, C19, C23, b24) => [(2, .int .i64 a2), (3, .pointer (some ⟨b1, 0, none⟩)), (4, .pointer (some ⟨b2, 0, none⟩)), (8, .pointer (some ⟨b24, 0, none⟩)), (9, .bool x15.2)]) (fun | (p6, p10, c8, c12, C9, C13, p16, p20, c18, c22, C19, C23, b24) => [(0, [(b1, .cells #[.slice p0_0 ((a0.b).length) c0_0, .slice p0_1 ((a0.f).length) c0_1] 41 (0, 0))]), (1, [(b2, .cells #[.int .i64 a1.s, .int .i64 a1.p] 42 (0, 0))]), (4, C19), (5, C23), (6, [(b24, .cells #[.slice p16 ((x15.1.b).length) c18, .slice p20 ((x15.1.f).length) c22] 26 (0, 0))])]) ⟨(hΦ 1 (by decide)).1, (hΦ 1 (by decide)).2, (hΦ 5 (by decide)).1, (hΦ 5 (by decide)).2⟩ ⟨rfl, rfl, rfl, rfl, rfl, trivial⟩ ⟨rfl, rfl, rfl, rfl, rfl, trivial⟩ ?_
      rintro ⟨p6, p10, c8, c12, C9, C13, p16, p20, c18, c22, C19, C23, b24⟩ ⟨o9, o13, o19, o23⟩
      refine KW.sub (s' := [(2, .int .i64 a2), (3, .pointer (some ⟨b1, 0, none⟩)), (4, .pointer (some ⟨b2, 0, none⟩)), (8, .pointer (some ⟨b24, 0, none⟩)), (9, .bool x15.2)]) (h' := [(0, [(b1, .cells #[.slice p0_0 ((a0.b).length) c0_0, .slice p0_1 ((a0.f).length) c0_1] 41 (0, 0))]), (1, [(b2, .cells #[.int .i64 a1.s, .int .i64 a1.p] 42 (0, 0))]), (4, C19), (5, C23), (6, [(b24, .cells #[.slice p16 ((x15.1.b).length) c18, .slice p20 ((x15.1.f).length) c22] 26 (0, 0))])]) ?_ ⟨rfl, rfl, rfl, rfl, rfl, trivial⟩ ⟨rfl, rfl, rfl, rfl, rfl, trivial⟩
      refine kw_nx ?_
      refine cw_seq ?_
      refine cw_region ?_
      refine ow_det .none (stp_loadN (us := [_, _]) ts41 rfl (Cells.box (id := 0) rfl 2 rfl)) rfl ?_
      obtain ⟨x25, e25, H0⟩ := bind_some H0
      refine ow_eff .none (stpU_call (fun i => 7 + i) cf21 (fun w hw => c_l_toTable fl w a0 p0_0 ((a0.b).length) c0_0 p0_1 ((a0.f).length) c0_1 rfl (RO.pass hr0_0 hw) rfl (RO.pass hr0_1 hw) x25 e25) (sevs_cons rfl sevs_nil)) rfl ?_
      rintro _ _ ⟨_, ⟨p26, n27, c28, C29, p30, n31, c32, C33, rfl, rfl, hnn27, o29, hnn31, o33⟩, rfl⟩
      obtain rfl := hnn27
      obtain rfl := hnn31
      refine ow_eff .none (stpU_alloc 9 tz26 rfl) rfl ?_
      rintro _ _ ⟨b34, rfl, rfl⟩
      refine ow_eff0 .none (stpU_store (id := 9) (cs' := [.slice p26 ((x25.b).length) c28, .slice p30 ((x25.f).length) c32]) ts26 rfl rfl rfl rfl rfl rfl rfl) ?_
      rintro _ _ rfl
      refine ow_nil ?_
      refine kw_nx ?_
      refine cw_seq ?_
      obtain ⟨x35, e35, H0⟩ := bind_some H0
      refine region_drawn { dst := fun i => match i with | 0 => some 35 | 1 => some 36 | 2 => some 37 | 3 => some 38 | 4 => some 39 | 5 => some 34 | 6 => some 40 | 7 => some 41 | 8 => some 11 | 10 => some 12 | _ => none, pre := fun i => match i with | 2 => [1] | 4 => [0, 1, 2, 3] | 5 => [0, 1, 2, 3, 4] | 6 => [0, 1, 2, 3, 4, 5] | 7 => [0, 1, 2, 3, 4, 5] | 9 => [0, 1, 2, 3, 4, 5, 6, 8] | 10 => [0, 1, 2, 3, 4, 5, 6, 7, 8, 9] | _ => [], ids := fun i => match i with | 4 => [10, 11] | 8 => [12] | 9 => [12] | _ => [], rs := fun i => match i with | 0 => [(10, none)] | 1 => [(4, none)] | 2 => [(36, some 1)] | 3 => [(2, none)] | 4 => [(35, some 0), (37, some 2), (38, some 3)] | 5 => [(39, some 4)] | 6 => [(34, some 5)] | 7 => [(34, some 5)] | 9 => [(11, some 8), (40, some 6)] | 10 => [(41, some 7)] | _ => [], rh := fun i => match i with | 0 => [(9, none)] | 1 => [(1, none)] | 4 => [(7, none), (8, none)] | 9 => [(12, some 8)] | _ => [], V := fun i g => match i with | 0 => .agg #[.slice p26 ((x25.b).length) c28, .slice p30 ((x25.f).length) c32] | 1 => .agg #[.int .i64 a1.s, .int .i64 a1.p] | 2 => .agg #[.int .i64 x14.s, .int .i64 x14.p] | 3 => .int .i64 a2 | 4 => .tuple #[.agg #[.slice ((g 4).A 0) ((x35.1.b).length) ((g 4).C 0), .slice ((g 4).A 1) ((x35.1.f).length) ((g 4).C 1)], .bool x35.2] | 5 => .tuple #[.agg #[.slice ((g 4).A 0) ((x35.1.b).length) ((g 4).C 0), .slice ((g 4).A 1) ((x35.1.f).length) ((g 4).C 1)], .bool x35.2] | 6 => .agg #[.slice ((g 4).A 0) ((x35.1.b).length) ((g 4).C 0), .slice ((g 4).A 1) ((x35.1.f).length) ((g 4).C 1)] | 7 => .bool x35.2 | 8 => .pointer (some ⟨((g 8).C 0), 0, none⟩) | 10 => .bool x35.2 | _ => undef, U := fun i g => match i with | 4 => [(10, ((g 4).R 0)), (11, ((g 4).R 1))] | 8 => [(12, [(((g 8).C 0), .cells #[.slice none 0 0, .slice none 0 0] 26 (0, 0))])] | 9 => [(12, [(((g 8).C 0), .cells #[.slice ((g 4).A 0) ((x35.1.b).length) ((g 4).C 0), .slice ((g 4).A 1) ((x35.1.f).length) ((g 4).C 1)] 26 (0, 0))])] | _ => [], Φ := fun i x => match i with | 4 => OwnC (α := Int) 3 (x.A 0) (x.C 0) x35.1.b (x.R 0) ∧ OwnC (α := F) 53 (x.A 1) (x.C 1) x35.1.f (x.R 1) | _ => True } g_mixed [2, 4, 10] [1, 7, 8, 9] (by kernel_rfl) (by kernel_rfl) (by kernel_rfl) ⟨⟨⟨⟨⟨⟨⟨⟨⟨⟨⟨trivial, fun _ => ⟨rfl, rfl⟩⟩, fun _ => ⟨rfl, rfl⟩⟩, fun _ => ⟨rfl, rfl⟩⟩, fun _ => ⟨rfl, rfl⟩⟩, fun _ => ⟨rfl, rfl⟩⟩, fun _ => ⟨rfl, rfl⟩⟩, fun _ => ⟨rfl, rfl⟩⟩, fun _ => ⟨rfl, rfl⟩⟩, fun _ => ⟨rfl, rfl⟩⟩, fun _ => ⟨rfl, rfl⟩⟩, fun _ => ⟨rfl, rfl⟩⟩ ?_ ?_
      · refine ⟨⟨⟨⟨⟨⟨⟨⟨⟨⟨⟨trivial, ?_⟩, ?_⟩, ?_⟩, ?_⟩, ?_⟩, ?_⟩, ?_⟩, ?_⟩, ?_⟩, ?_⟩, ?_⟩
        · exact loc_det rfl rfl (fun _ => rfl) trivial (fun g hΦ s h hs hh => ⟨.none, (stp_loadN (us := [_, _]) ts26 (sv hs 10 rfl) (Cells.box (id := 9) (hh.get 9 _ rfl) 2 rfl))⟩)
        · exact loc_det rfl rfl (fun _ => rfl) trivial (fun g hΦ s h hs hh => ⟨.none, (stp_loadN (us := [_, _]) ts42 (sv hs 4 rfl) (Cells.box (id := 1) (hh.get 1 _ rfl) 2 rfl))⟩)
        · refine loc_eff rfl rfl (fun g hΦ s h hs hh => ⟨.none, (stpU_call (fun i => 10 + i) cf22 (fun w hw => c_l_toKey fl w a1 x14 e14) (sevs_cons (sv hs 36 rfl) sevs_nil))⟩) ?_
          rintro g _ _ ⟨_, ⟨rfl, rfl⟩, rfl⟩
          exact ⟨⟨[], [], []⟩, trivial, .inr rfl, rfl⟩
        · exact loc_det rfl rfl (fun _ => rfl) trivial (fun g hΦ s h hs hh => ⟨.none, (stp_move (sv hs 2 rfl))⟩)
        · refine loc_eff rfl rfl (fun g hΦ s h hs hh => ⟨.none, (stpU_call (fun i => 10 + i) cf23 (fun w hw => c_i_ProtectPage fl w x25 p26 ((x25.b).length) c28 p30 ((x25.f).length) c32 x14 a2 rfl (OwnC.pass (id := 7) (hh.get 7 _ rfl) o29 hw) rfl (OwnC.pass (id := 8) (hh.get 8 _ rfl) o33 hw) (RO.pass hg hw) x35 e35) (sevs_cons (sv hs 35 rfl) (sevs_cons (sv hs 37 rfl) (sevs_cons (sv hs 38 rfl) sevs_nil))))⟩) ?_
          rintro g _ _ ⟨_, ⟨p36, n37, c38, C39, p40, n41, c42, C43, rfl, rfl, hnn37, o39, hnn41, o43⟩, rfl⟩
          obtain rfl := hnn37
          obtain rfl := hnn41
          exact ⟨⟨[p36, p40], [c38, c42], [C39, C43]⟩, ⟨o39, o43⟩, .inr rfl, rfl⟩
        · exact loc_det rfl rfl (fun _ => rfl) trivial (fun g hΦ s h hs hh => ⟨.none, (stp_move (sv hs 39 rfl))⟩)
        · exact loc_det rfl rfl (fun _ => rfl) trivial (fun g hΦ s h hs hh => ⟨.none, (stp_extract (sv hs 34 rfl) rfl)⟩)
        · exact loc_det rfl rfl (fun _ => rfl) trivial (fun g hΦ s h hs hh => ⟨.none, (stp_extract (sv hs 34 rfl) rfl)⟩)
        · refine loc_eff rfl rfl (fun g hΦ s h hs hh => ⟨.none, (stpU_alloc 12 tz26 rfl)⟩) ?_
          rintro g _ _ ⟨b44, rfl, rfl⟩
          exact ⟨⟨[], [b44], []⟩, trivial, .inr rfl, rfl⟩
        · refine loc_eff rfl rfl (fun g hΦ s h hs hh => ⟨.none, (stpU_store (id := 12) (cs' := [.slice ((g 4).A 0) ((x35.1.b).length) ((g 4).C 0), .slice ((g 4).A 1) ((x35.1.f).length) ((g 4).C 1)]) ts26 (sv hs 11 rfl) (sv hs 40 rfl) (hh.get 12 _ rfl) rfl rfl rfl rfl)⟩) ?_
          rintro g _ _ rfl
          exact ⟨⟨[], [], []⟩, trivial, .inl rfl, rfl⟩
        · exact loc_det rfl rfl (fun _ => rfl) trivial (fun g hΦ s h hs hh => ⟨.none, (stp_assign (sv hs 41 rfl))⟩)
      · intro g hΦ
        refine kw_gen (ι := Option Addr × Option Addr × Nat × Nat × Res × Res × Nat) (((g 4).A 0), ((g 4).A 1), ((g 4).C 0), ((g 4).C 1), ((g 4).R 0), ((g 4).R 1), ((g 8).C 0)) (fun | (p36, p40, c38, c42, C39, C43, b44) => OwnC (α := Int) 3 p36 c38 x35.1.b C39 ∧ OwnC (α := F) 53 p40 c42 x35.1.f C43) (fun | (p36, p40, c38, c42, C39, C43, b44) => [(2, .int .i64 a2), (3, .pointer (some ⟨b1, 0, none⟩)), (4, .pointer (some ⟨b2, 0, none⟩)), (8, .pointer (some ⟨b24, 0, none⟩)), (9, .bool x15.2), (10, .pointer (some ⟨b34, 0, none⟩)), (11, .pointer (some ⟨b44, 0, none⟩)), (12, .bool x35.2)]) (fun | (p36, p40, c38, c42, C39, C43, b44) => [(0, [(b1, .cells #[.slice p0_0 ((a0.b).length) c0_0, .slice p0_1 ((a0.f).length) c0_1] 41 (0, 0))]), (1, [(b2, .cells #[.int .i64 a1.s, .int .i64 a1.p] 42 (0, 0))]), (4, C19), (5, C23), (6, [(b24, .cells #[.slice p16 ((x15.1.b).length) c18, .slice p20 ((x15.1.f).length) c22] 26 (0, 0))]), (7, C29), (8, C33), (9, [(b34, .cells #[.slice p26 ((x25.b).length) c28, .slice p30 ((x25.f).length) c32] 26 (0, 0))]), (10, C39), (11, C43), (12, [(b44, .cells #[.slice p36 ((x35.1.b).length) c38, .slice p40 ((x35.1.f).length) c42] 26 (0, 0))])]) ⟨(hΦ 4 (by decide)).1, (hΦ 4 (by decide)).2⟩ ⟨rfl, rfl, rfl, rfl, rfl, rfl, rfl, rfl, trivial⟩ ⟨rfl, rfl, rfl, rfl, rfl, rfl, rfl, rfl, rfl, rfl, rfl, trivial⟩ ?_
        rintro ⟨p36, p40, c38, c42, C39, C43, b44⟩ ⟨o39, o43⟩
        refine KW.sub (s' := [(2, .int .i64 a2), (3, .pointer (some ⟨b1, 0, none⟩)), (4, .pointer (some ⟨b2, 0, none⟩)), (8, .pointer (some ⟨b24, 0, none⟩)), (9, .bool x15.2), (10, .pointer (some ⟨b34, 0, none⟩)), (11, .pointer (some ⟨b44, 0, none⟩)), (12, .bool x35.2)]) (h' := [(0, [(b1, .cells #[.slice p0_0 ((a0.b).length) c0_0, .slice p0_1 ((a0.f).length) c0_1] 41 (0, 0))]), (1, [(b2, .cells #[.int .i64 a1.s, .int .i64 a1.p] 42 (0, 0))]), (4, C19), (5, C23), (6, [(b24, .cells #[.slice p16 ((x15.1.b).length) c18, .slice p20 ((x15.1.f).length) c22] 26 (0, 0))]), (7, C29), (8, C33), (9, [(b34, .cells #[.slice p26 ((x25.b).length) c28, .slice p30 ((x25.f).length) c32] 26 (0, 0))]), (10, C39), (11, C43), (12, [(b44, .cells #[.slice p36 ((x35.1.b).length) c38, .slice p40 ((x35.1.f).length) c42] 26 (0, 0))])]) ?_ ⟨rfl, rfl, rfl, rfl, rfl, rfl, rfl, rfl, trivial⟩ ⟨rfl, rfl, rfl, rfl, rfl, rfl, rfl, rfl, rfl, rfl, rfl, trivial⟩
        refine kw_nx ?_
        refine cw_seq ?_
        refine cw_seq ?_
        refine cw_region ?_
        refine ow_det .none (stp_loadN (us := [_, _]) ts26 rfl (Cells.box (id := 12) rfl 2 rfl)) rfl ?_
        refine ow_det .none (stp_loadN (us := [_, _]) ts26 rfl (Cells.box (id := 6) rfl 2 rfl)) rfl ?_
        obtain ⟨x45, e45, H0⟩ := bind_some H0
        refine ow_eff .none (stpU_call (fun i => 13 + i) cf24 (fun w hw => c_l_eqTable fl w x35.1 p36 ((x35.1.b).length) c38 p40 ((x35.1.f).length) c42 x15.1 p16 ((x15.1.b).length) c18 p20 ((x15.1.f).length) c22 rfl (OwnC.pass (id := 10) rfl o39 hw) rfl (OwnC.pass (id := 11) rfl o43 hw) rfl (OwnC.pass (id := 4) rfl o19 hw) rfl (OwnC.pass (id := 5) rfl o23 hw) x45 e45) (sevs_cons rfl (sevs_cons rfl sevs_nil))) rfl ?_
        rintro _ _ ⟨_, ⟨rfl, rfl⟩, rfl⟩
        refine ow_det .none (stp_not rfl) rfl ?_
        refine ow_det .none (stp_move rfl) rfl ?_
        obtain ⟨y46, ey46, H0⟩ := bind_some H0
        refine ow_cutY 4 50 y46 ?_ ?_
        · rcases Bool.eq_false_or_eq_true (!x45) with hy46 | hy46
          · have ey46 := cond_t ey46 hy46
            refine ow_off (.some rfl hy46) rfl ?_
            refine ow_off (.some rfl hy46) rfl ?_
            refine ow_off (.some rfl hy46) rfl ?_
            refine ow_det .none (stp_pick_t rfl hy46 rfl) rfl ?_
            obtain rfl := Option.some.inj ey46
            exact ow_nil (kw_jy (.top rfl (.cons rfl (.cons rfl (.cons rfl (.cons rfl (.refl _)))))) (.refl _))
          · have ey46 := cond_f ey46 hy46
            refine ow_det (.some rfl hy46) (stp_move rfl) rfl ?_
            refine ow_det (.some rfl hy46) (stp_move rfl) rfl ?_
            refine ow_det (.some rfl hy46) (stp_neqB Tryd.underlying4 rfl rfl) rfl ?_
            refine ow_det .none (stp_pick_f rfl hy46 rfl) rfl ?_
            obtain rfl := Option.some.inj ey46
            exact ow_nil (kw_jy (.top rfl (.cons rfl (.cons rfl (.cons rfl (.cons rfl (.refl _)))))) (.refl _))
        · refine ow_nil ?_
          refine kw_nx ?_
          refine cw_cond rfl (fun h47 => ?_) (fun h47 => ?_)
          · have H0 := cond_t H0 h47
            refine cw_seq ?_
            refine cw_region ?_
            refine ow_det .none (stp_assign rfl) rfl ?_
            refine ow_nil ?_
            refine kw_nx ?_
            refine cw_ret ?_
            refine kw_nx_ret ?_
            have q0 := Option.some.inj H0
            subst q0
            exact kw_ret Tryd.results4 (.cons (.tmp rfl) .nil) [] [] trivial (by decide) ⟨rfl, rfl⟩
          · have H0 := cond_f H0 h47
            refine cw_skip ?_
            refine kw_nx ?_
            refine cw_seq ?_
            refine cw_seq ?_
            obtain ⟨x48, e48, H0⟩ := bind_some H0
            obtain ⟨x57, e57, H0⟩ := bind_some H0
            refine region_drawn { dst := fun i => match i with | 0 => some 51 | 1 => some 52 | 2 => some 53 | 3 => some 54 | 4 => some 55 | _ => none, pre := fun i => match i with | 2 => [1] | 3 => [0, 1, 2] | 4 => [0, 1, 2, 3] | _ => [], ids := fun i => match i with | 2 => [13, 14] | _ => [], rs := fun i => match i with | 0 => [(10, none)] | 1 => [(3, none)] | 2 => [(52, some 1)] | 3 => [(51, some 0), (53, some 2)] | 4 => [(54, some 3)] | _ => [], rh := fun i => match i with | 0 => [(9, none)] | 1 => [(0, none)] | 3 => [(7, none), (8, none), (13, some 2), (14, some 2)] | _ => [], V := fun i g => match i with | 0 => .agg #[.slice p26 ((x25.b).length) c28, .slice p30 ((x25.f).length) c32] | 1 => .agg #[.slice p0_0 ((a0.b).length) c0_0, .slice p0_1 ((a0.f).length) c0_1] | 2 => .agg #[.slice ((g 2).A 0) ((x48.b).length) ((g 2).C 0), .slice ((g 2).A 1) ((x48.f).length) ((g 2).C 1)] | 3 => .bool x57 | 4 => .bool (!x57) | _ => undef, U := fun i g => match i with | 2 => [(13, ((g 2).R 0)), (14, ((g 2).R 1))] | _ => [], Φ := fun i x => match i with | 2 => OwnC (α := Int) 3 (x.A 0) (x.C 0) x48.b (x.R 0) ∧ OwnC (α := F) 53 (x.A 1) (x.C 1) x48.f (x.R 1) | _ => True } g_mixed [3, 10] [0, 7, 8, 9] (by kernel_rfl) (by kernel_rfl) (by kernel_rfl) ⟨⟨⟨⟨⟨trivial, fun _ => ⟨rfl, rfl⟩⟩, fun _ => ⟨rfl, rfl⟩⟩, fun _ => ⟨rfl, rfl⟩⟩, fun _ => ⟨rfl, rfl⟩⟩, fun _ => ⟨rfl, rfl⟩⟩ ?_ ?_
            · refine ⟨⟨⟨⟨⟨trivial, ?_⟩, ?_⟩, ?_⟩, ?_⟩, ?_⟩
              · exact loc_det rfl rfl (fun _ => rfl) trivial (fun g hΦ s h hs hh => ⟨.none, (stp_loadN (us := [_, _]) ts26 (sv hs 10 rfl) (Cells.box (id := 9) (hh.get 9 _ rfl) 2 rfl))⟩)
              · exact loc_det rfl rfl (fun _ => rfl) trivial (fun g hΦ s h hs hh => ⟨.none, (stp_loadN (us := [_, _]) ts41 (sv hs 3 rfl) (Cells.box (id := 0) (hh.get 0 _ rfl) 2 rfl))⟩)
              · refine loc_eff rfl rfl (fun g hΦ s h hs hh => ⟨.none, (stpU_call (fun i => 13 + i) cf21 (fun w hw => c_l_toTable fl w a0 p0_0 ((a0.b).length) c0_0 p0_1 ((a0.f).length) c0_1 rfl (RO.pass hr0_0 hw) rfl (RO.pass hr0_1 hw) x48 e48) (sevs_cons (sv hs 52 rfl) sevs_nil))⟩) ?_
                rintro g _ _ ⟨_, ⟨p49, n50, c51, C52, p53, n54, c55, C56, rfl, rfl, hnn50, o52, hnn54, o56⟩, rfl⟩
                obtain rfl := hnn50
                obtain rfl := hnn54
                exact ⟨⟨[p49, p53], [c51, c55], [C52, C56]⟩, ⟨o52, o56⟩, .inr rfl, rfl⟩
              · refine loc_eff rfl rfl (fun g hΦ s h hs hh => ⟨.none, (stpU_call (fun i => 15 + i) cf24 (fun w hw => c_l_eqTable fl w x25 p26 ((x25.b).length) c28 p30 ((x25.f).length) c32 x48 ((g 2).A 0) ((x48.b).length) ((g 2).C 0) ((g 2).A 1) ((x48.f).length) ((g 2).C 1) rfl (OwnC.pass (id := 7) (hh.get 7 _ rfl) o29 hw) rfl (OwnC.pass (id := 8) (hh.get 8 _ rfl) o33 hw) rfl (OwnC.pass (id := 13) (hh.get 13 _ rfl) (hΦ 2 rfl).1 hw) rfl (OwnC.pass (id := 14) (hh.get 14 _ rfl) (hΦ 2 rfl).2 hw) x57 e57) (sevs_cons (sv hs 51 rfl) (sevs_cons (sv hs 53 rfl) sevs_nil)))⟩) ?_
                rintro g _ _ ⟨_, ⟨rfl, rfl⟩, rfl⟩
                exact ⟨⟨[], [], []⟩, trivial, .inr rfl, rfl⟩
              · exact loc_det rfl rfl (fun _ => rfl) trivial (fun g hΦ s h hs hh => ⟨.none, (stp_not (sv hs 54 rfl))⟩)
            · intro g hΦ
              refine kw_gen (ι := Option Addr × Option Addr × Nat × Nat × Res × Res) (((g 2).A 0), ((g 2).A 1), ((g 2).C 0), ((g 2).C 1), ((g 2).R 0), ((g 2).R 1)) (fun | (p49, p53, c51, c55, C52, C56) => OwnC (α := Int) 3 p49 c51 x48.b C52 ∧ OwnC (α := F) 53 p53 c55 x48.f C56) (fun | (p49, p53, c51, c55, C52, C56) => [(2, .int .i64 a2), (3, .pointer (some ⟨b1, 0, none⟩)), (4, .pointer (some ⟨b2, 0, none⟩)), (8, .pointer (some ⟨b24, 0, none⟩)), (9, .bool x15.2), (10, .pointer (some ⟨b34, 0, none⟩)), (11, .pointer (some ⟨b44, 0, none⟩)), (12, .bool x35.2), (55, .bool (!x57))]) (fun | (p49, p53, c51, c55, C52, C56) => [(0, [(b1, .cells #[.slice p0_0 ((a0.b).length) c0_0, .slice p0_1 ((a0.f).length) c0_1] 41 (0, 0))]), (1, [(b2, .cells #[.int .i64 a1.s, .int .i64 a1.p] 42 (0, 0))]), (4, C19), (5, C23), (6, [(b24, .cells #[.slice p16 ((x15.1.b).length) c18, .slice p20 ((x15.1.f).length) c22] 26 (0, 0))]), (7, C29), (8, C33), (9, [(b34, .cells #[.slice p26 ((x25.b).length) c28, .slice p30 ((x25.f).length) c32] 26 (0, 0))]), (10, C39), (11, C43), (12, [(b44, .cells #[.slice p36 ((x35.1.b).length) c38, .slice p40 ((x35.1.f).length) c42] 26 (0, 0))])]) ⟨(hΦ 2 (by decide)).1, (hΦ 2 (by decide)).2⟩ ⟨rfl, rfl, rfl, rfl, rfl, rfl, rfl, rfl, rfl, trivial⟩ ⟨rfl, rfl, rfl, rfl, rfl, rfl, rfl, rfl, rfl, rfl, rfl, trivial⟩ ?_
              rintro ⟨p49, p53, c51, c55, C52, C56⟩ ⟨o52, o56⟩
              refine KW.sub (s' := [(2, .int .i64 a2), (3, .pointer (some ⟨b1, 0, none⟩)), (4, .pointer (some ⟨b2, 0, none⟩)), (8, .pointer (some ⟨b24, 0, none⟩)), (9, .bool x15.2), (10, .pointer (some ⟨b34, 0, none⟩)), (11, .pointer (some ⟨b44, 0, none⟩)), (12, .bool x35.2), (55, .bool (!x57))]) (h' := [(0, [(b1, .cells #[.slice p0_0 ((a0.b).length) c0_0, .slice p0_1 ((a0.f).length) c0_1] 41 (0, 0))]), (1, [(b2, .cells #[.int .i64 a1.s, .int .i64 a1.p] 42 (0, 0))]), (4, C19), (5, C23), (6, [(b24, .cells #[.slice p16 ((x15.1.b).length) c18, .slice p20 ((x15.1.f).length) c22] 26 (0, 0))]), (7, C29), (8, C33), (9, [(b34, .cells #[.slice p26 ((x25.b).length) c28, .slice p30 ((x25.f).length) c32] 26 (0, 0))]), (10, C39), (11, C43), (12, [(b44, .cells #[.slice p36 ((x35.1.b).length) c38, .slice p40 ((x35.1.f).length) c42] 26 (0, 0))])]) ?_ ⟨rfl, rfl, rfl, rfl, rfl, rfl, rfl, rfl, rfl, trivial⟩ ⟨rfl, rfl, rfl, rfl, rfl, rfl, rfl, rfl, rfl, rfl, rfl, trivial⟩
              refine kw_nx ?_
              refine cw_cond rfl (fun h58 => ?_) (fun h58 => ?_)
              · have H0 := cond_t H0 h58
                refine cw_seq ?_
                refine cw_region ?_
                refine ow_det .none (stp_assign rfl) rfl ?_
                refine ow_nil ?_
                refine kw_nx ?_
                refine cw_ret ?_
                refine kw_nx_ret ?_
                have q0 := Option.some.inj H0
                subst q0
                exact kw_ret Tryd.results4 (.cons (.tmp rfl) .nil) [] [] trivial (by decide) ⟨rfl, rfl⟩
              · have H0 := cond_f H0 h58
                refine cw_skip ?_
                refine kw_nx ?_
                refine cw_seq ?_
                refine cw_region ?_
                refine ow_det .none (stp_assign rfl) rfl ?_
                refine ow_nil ?_
                refine kw_nx ?_
                refine cw_seq ?_
                refine cw_region ?_
                refine ow_det .none (stp_loadN (us := [_, _]) ts26 rfl (Cells.box (id := 9) rfl 2 rfl)) rfl ?_
                refine ow_det .none (stp_move rfl) rfl ?_
                obtain ⟨x59, e59, H0⟩ := bind_some H0
                refine ow_eff .none (stpU_callM (fun i => bif Nat.beq i 0 then 7 else bif Nat.beq i 1 then 8 else 15 + i) cf25 (fun w hw hb => c_l_markTable fl w x25 p26 ((x25.b).length) c28 C29 p30 ((x25.f).length) c32 C33 1 rfl o29 rfl o33 (hw.pass (js := [7, 8]) ⟨7, [8], rfl, rfl, 8, [], rfl, rfl, trivial⟩ (by decide)) x59 e59) (sevs_cons rfl (sevs_cons rfl sevs_nil)) ⟨rfl, (fun _ _ hp => by obtain ⟨_, _, _, rfl, _⟩ := hp; exact ⟨_, rfl⟩), rfl, (fun _ _ hp => by obtain ⟨_, _, _, rfl, _⟩ := hp; exact ⟨_, rfl⟩), trivial⟩) rfl ?_
                rintro _ _ ⟨_, ⟨C60, C61, rfl, rfl, hl60, o60, hl61, o61⟩, rfl⟩
                refine ow_det .none (stp_assign rfl) rfl ?_
                refine ow_nil ?_
                refine kw_nx ?_
                refine cw_seq ?_
                refine cw_seq ?_
                refine cw_region ?_
                refine ow_det .none (stp_move rfl) rfl ?_
                refine ow_det .none (stp_lss rfl rfl) rfl ?_
                refine ow_det .none (stp_move rfl) rfl ?_
                obtain ⟨y62, ey62, H0⟩ := bind_some H0
                refine ow_cutY 5 66 y62 ?_ ?_
                · rcases Bool.eq_false_or_eq_true (decide (x59.1 < 0)) with hy62 | hy62
                  · have ey62 := cond_t ey62 hy62
                    refine ow_off (.some rfl hy62) rfl ?_
                    refine ow_off (.some rfl hy62) rfl ?_
                    refine ow_off (.some rfl hy62) rfl ?_
                    refine ow_off (.some rfl hy62) rfl ?_
                    refine ow_det .none (stp_pick_t rfl hy62 rfl) rfl ?_
                    obtain rfl := Option.some.inj ey62
                    exact ow_nil (kw_jy (.top rfl (.cons rfl (.cons rfl (.cons rfl (.cons rfl (.cons rfl (.refl _))))))) (.refl _))
                  · have ey62 := cond_f ey62 hy62
                    refine ow_det (.some rfl hy62) (stp_loadN (us := [_, _]) ts26 rfl (Cells.box (id := 12) rfl 2 rfl)) rfl ?_
                    refine ow_det (.some rfl hy62) (stp_loadN (us := [_, _]) ts26 rfl (Cells.box (id := 6) rfl 2 rfl)) rfl ?_
                    refine ow_eff (.some rfl hy62) (stpU_call (fun i => 17 + i) cf24 (fun w hw => c_l_eqTable fl w x35.1 p36 ((x35.1.b).length) c38 p40 ((x35.1.f).length) c42 x15.1 p16 ((x15.1.b).length) c18 p20 ((x15.1.f).length) c22 rfl (OwnC.pass (id := 10) rfl o39 hw) rfl (OwnC.pass (id := 11) rfl o43 hw) rfl (OwnC.pass (id := 4) rfl o19 hw) rfl (OwnC.pass (id := 5) rfl o23 hw) x45 e45) (sevs_cons rfl (sevs_cons rfl sevs_nil))) rfl ?_
                    rintro _ _ ⟨_, ⟨rfl, rfl⟩, rfl⟩
                    refine ow_det (.some rfl hy62) (stp_not rfl) rfl ?_
                    refine ow_det .none (stp_pick_f rfl hy62 rfl) rfl ?_
                    obtain rfl := Option.some.inj ey62
                    exact ow_nil (kw_jy (.top rfl (.cons rfl (.cons rfl (.cons rfl (.cons rfl (.cons rfl (.refl _))))))) (.refl _))
                · refine ow_det .none (stp_move rfl) rfl ?_
                  obtain ⟨y63, ey63, H0⟩ := bind_some H0
                  refine ow_cutY 4 71 y63 ?_ ?_
                  · rcases Bool.eq_false_or_eq_true y62 with hy63 | hy63
                    · have ey63 := cond_t ey63 hy63
                      refine ow_off (.some rfl hy63) rfl ?_
                      refine ow_off (.some rfl hy63) rfl ?_
                      refine ow_off (.some rfl hy63) rfl ?_
                      refine ow_det .none (stp_pick_t rfl hy63 rfl) rfl ?_
                      obtain rfl := Option.some.inj ey63
                      exact ow_nil (kw_jy (.top rfl (.cons rfl (.cons rfl (.cons rfl (.cons rfl (.refl _)))))) (.refl _))
                    · have ey63 := cond_f ey63 hy63
                      refine ow_det (.some rfl hy63) (stp_move rfl) rfl ?_
                      refine ow_det (.some rfl hy63) (stp_move rfl) rfl ?_
                      refine ow_det (.some rfl hy63) (stp_neqB Tryd.underlying4 rfl rfl) rfl ?_
                      refine ow_det .none (stp_pick_f rfl hy63 rfl) rfl ?_
                      obtain rfl := Option.some.inj ey63
                      exact ow_nil (kw_jy (.top rfl (.cons rfl (.cons rfl (.cons rfl (.cons rfl (.refl _)))))) (.refl _))
                  · refine ow_nil ?_
                    refine kw_nx ?_
                    refine cw_cond rfl (fun h64 => ?_) (fun h64 => ?_)
                    · have H0 := cond_t H0 h64
                      refine cw_seq ?_
                      refine cw_region ?_
                      refine ow_det .none (stp_assign rfl) rfl ?_
                      refine ow_nil ?_
                      refine kw_nx ?_
                      refine cw_ret ?_
                      refine kw_nx_ret ?_
                      have q0 := Option.some.inj H0
                      subst q0
                      exact kw_ret Tryd.results4 (.cons (.tmp rfl) .nil) [] [] trivial (by decide) ⟨rfl, rfl⟩
                    · have H0 := cond_f H0 h64
                      refine cw_skip ?_
                      refine kw_nx ?_
                      refine cw_seq ?_
                      refine cw_region ?_
                      refine ow_det .none (stp_assign rfl) rfl ?_
                      refine ow_nil ?_
                      refine kw_nx ?_
                      refine cw_seq ?_
                      refine cw_region ?_
                      refine ow_det .none (stp_loadN (us := [_, _]) ts26 rfl (Cells.box (id := 12) rfl 2 rfl)) rfl ?_
                      refine ow_det .none (stp_move rfl) rfl ?_
                      obtain ⟨x65, e65, H0⟩ := bind_some H0
                      refine ow_eff .none (stpU_callM (fun i => bif Nat.beq i 0 then 10 else bif Nat.beq i 1 then 11 else 17 + i) cf25 (fun w hw hb => c_l_markTable fl w x35.1 p36 ((x35.1.b).length) c38 C39 p40 ((x35.1.f).length) c42 C43 1 rfl o39 rfl o43 (hw.pass (js := [10, 11]) ⟨10, [11], rfl, rfl, 11, [], rfl, rfl, trivial⟩ (by decide)) x65 e65) (sevs_cons rfl (sevs_cons rfl sevs_nil)) ⟨rfl, (fun _ _ hp => by obtain ⟨_, _, _, rfl, _⟩ := hp; exact ⟨_, rfl⟩), rfl, (fun _ _ hp => by obtain ⟨_, _, _, rfl, _⟩ := hp; exact ⟨_, rfl⟩), trivial⟩) rfl ?_
                      rintro _ _ ⟨_, ⟨C66, C67, rfl, rfl, hl66, o66, hl67, o67⟩, rfl⟩
                      refine ow_det .none (stp_assign rfl) rfl ?_
                      refine ow_nil ?_
                      refine kw_nx ?_
                      refine cw_seq ?_
                      refine cw_region ?_
                      refine ow_det .none (stp_assign rfl) rfl ?_
                      refine ow_nil ?_
                      refine kw_nx ?_
                      refine cw_seq ?_
                      refine cw_region ?_
                      refine ow_det .none (stp_loadN (us := [_, _]) ts26 rfl (Cells.box (id := 12) rfl 2 rfl)) rfl ?_
                      refine ow_det .none (stp_move rfl) rfl ?_
                      obtain ⟨x68, e68, H0⟩ := bind_some H0
                      refine ow_eff .none (stpU_call (fun i => 19 + i) cf26 (fun w hw => c_l_heldTable fl w (⟨x65.2.1, x65.2.2⟩ : T) p36 ((x35.1.b).length) c38 p40 ((x35.1.f).length) c42 1 (by simp [hl66]) (OwnC.pass (id := 10) rfl o66 hw) (by simp [hl67]) (OwnC.pass (id := 11) rfl o67 hw) x68 e68) (sevs_cons rfl (sevs_cons rfl sevs_nil))) rfl ?_
                      rintro _ _ ⟨_, ⟨rfl, rfl⟩, rfl⟩
                      refine ow_det .none (stp_assign rfl) rfl ?_
                      refine ow_nil ?_
                      refine kw_nx ?_
                      refine cw_seq ?_
                      refine cw_seq ?_
                      refine cw_region ?_
                      refine ow_det .none (stp_move rfl) rfl ?_
                      refine ow_det .none (stp_lss rfl rfl) rfl ?_
                      refine ow_nil ?_
                      refine kw_nx ?_
                      refine cw_cond rfl (fun h69 => ?_) (fun h69 => ?_)
                      · have H0 := cond_t H0 h69
                        refine cw_seq ?_
                        refine cw_region ?_
                        refine ow_det .none (stp_assign rfl) rfl ?_
                        refine ow_nil ?_
                        refine kw_nx ?_
                        refine cw_ret ?_
                        refine kw_nx_ret ?_
                        have q0 := Option.some.inj H0
                        subst q0
                        exact kw_ret Tryd.results4 (.cons (.tmp rfl) .nil) [] [] trivial (by decide) ⟨rfl, rfl⟩
                      · have H0 := cond_f H0 h69
                        refine cw_skip ?_
                        refine kw_nx ?_
                        refine cw_seq ?_
                        refine cw_seq ?_
                        refine cw_region ?_
                        refine ow_det .none (stp_move rfl) rfl ?_
                        refine ow_det .none (stp_move rfl) rfl ?_
                        refine ow_det .none (stp_neq rfl rfl) rfl ?_
                        refine ow_nil ?_
                        refine kw_nx ?_
                        refine cw_cond rfl (fun h70 => ?_) (fun h70 => ?_)
                        · have H0 := cond_t H0 h70
                          refine cw_seq ?_
                          refine cw_region ?_
                          refine ow_det .none (stp_assign rfl) rfl ?_
                          refine ow_nil ?_
                          refine kw_nx ?_
                          refine cw_ret ?_
                          refine kw_nx_ret ?_
                          have q0 := Option.some.inj H0
                          subst q0
                          exact kw_ret Tryd.results4 (.cons (.tmp rfl) .nil) [] [] trivial (by decide) ⟨rfl, rfl⟩
                        · have H0 := cond_f H0 h70
                          refine cw_skip ?_
                          refine kw_nx ?_
                          refine cw_seq ?_
                          obtain ⟨x71, e71, H0⟩ := bind_some H0
                          obtain ⟨x80, e80, H0⟩ := bind_some H0
                          refine region_drawn { dst := fun i => match i with | 0 => some 84 | 1 => some 85 | 2 => some 86 | 3 => some 87 | 4 => some 88 | 5 => some 89 | 6 => some 83 | 7 => some 90 | 8 => some 91 | 9 => some 16 | 11 => some 17 | _ => none, pre := fun i => match i with | 1 => [0] | 3 => [0, 1, 2] | 5 => [0, 1, 2, 3, 4] | 6 => [0, 1, 2, 3, 4, 5] | 7 => [0, 1, 2, 3, 4, 5, 6] | 8 => [0, 1, 2, 3, 4, 5, 6] | 10 => [0, 1, 2, 3, 4, 5, 6, 7, 9] | 11 => [0, 1, 2, 3, 4, 5, 6, 7, 8, 9, 10] | _ => [], ids := fun i => match i with | 1 => [19, 20] | 5 => [21, 22] | 9 => [23] | 10 => [23] | _ => [], rs := fun i => match i with | 0 => [(3, none)] | 1 => [(84, some 0)] | 2 => [(4, none)] | 3 => [(86, some 2)] | 4 => [(2, none)] | 5 => [(85, some 1), (87, some 3), (88, some 4)] | 6 => [(89, some 5)] | 7 => [(83, some 6)] | 8 => [(83, some 6)] | 10 => [(16, some 9), (90, some 7)] | 11 => [(91, some 8)] | _ => [], rh := fun i => match i with | 0 => [(0, none)] | 2 => [(1, none)] | 5 => [(19, some 1), (20, some 1)] | 10 => [(23, some 9)] | _ => [], V := fun i g => match i with | 0 => .agg #[.slice p0_0 ((a0.b).length) c0_0, .slice p0_1 ((a0.f).length) c0_1] | 1 => .agg #[.slice ((g 1).A 0) ((x71.b).length) ((g 1).C 0), .slice ((g 1).A 1) ((x71.f).length) ((g 1).C 1)] | 2 => .agg #[.int .i64 a1.s, .int .i64 a1.p] | 3 => .agg #[.int .i64 x14.s, .int .i64 x14.p] | 4 => .int .i64 a2 | 5 => .tuple #[.agg #[.slice ((g 5).A 0) ((x80.1.b).length) ((g 5).C 0), .slice ((g 5).A 1) ((x80.1.f).length) ((g 5).C 1)], .bool x80.2] | 6 => .tuple #[.agg #[.slice ((g 5).A 0) ((x80.1.b).length) ((g 5).C 0), .slice ((g 5).A 1) ((x80.1.f).length) ((g 5).C 1)], .bool x80.2] | 7 => .agg #[.slice ((g 5).A 0) ((x80.1.b).length) ((g 5).C 0), .slice ((g 5).A 1) ((x80.1.f).length) ((g 5).C 1)] | 8 => .bool x80.2 | 9 => .pointer (some ⟨((g 9).C 0), 0, none⟩) | 11 => .bool x80.2 | _ => undef, U := fun i g => match i with | 1 => [(19, ((g 1).R 0)), (20, ((g 1).R 1))] | 5 => [(21, ((g 5).R 0)), (22, ((g 5).R 1))] | 9 => [(23, [(((g 9).C 0), .cells #[.slice none 0 0, .slice none 0 0] 26 (0, 0))])] | 10 => [(23, [(((g 9).C 0), .cells #[.slice ((g 5).A 0) ((x80.1.b).length) ((g 5).C 0), .slice ((g 5).A 1) ((x80.1.f).length) ((g 5).C 1)] 26 (0, 0))])] | _ => [], Φ := fun i x => match i with | 1 => OwnC (α := Int) 3 (x.A 0) (x.C 0) x71.b (x.R 0) ∧ OwnC (α := F) 53 (x.A 1) (x.C 1) x71.f (x.R 1) | 5 => OwnC (α := Int) 3 (x.A 0) (x.C 0) x80.1.b (x.R 0) ∧ OwnC (α := F) 53 (x.A 1) (x.C 1) x80.1.f (x.R 1) | _ => True } g_mixed [2, 3, 4] [0, 1] (by kernel_rfl) (by kernel_rfl) (by kernel_rfl) ⟨⟨⟨⟨⟨⟨⟨⟨⟨⟨⟨⟨trivial, fun _ => ⟨rfl, rfl⟩⟩, fun _ => ⟨rfl, rfl⟩⟩, fun _ => ⟨rfl, rfl⟩⟩, fun _ => ⟨rfl, rfl⟩⟩, fun _ => ⟨rfl, rfl⟩⟩, fun _ => ⟨rfl, rfl⟩⟩, fun _ => ⟨rfl, rfl⟩⟩, fun _ => ⟨rfl, rfl⟩⟩, fun _ => ⟨rfl, rfl⟩⟩, fun _ => ⟨rfl, rfl⟩⟩, fun _ => ⟨rfl, rfl⟩⟩, fun _ => ⟨rfl, rfl⟩⟩ ?_ ?_
                          · refine ⟨⟨⟨⟨⟨⟨⟨⟨⟨⟨⟨⟨trivial, ?_⟩, ?_⟩, ?_⟩, ?_⟩, ?_⟩, ?_⟩, ?_⟩, ?_⟩, ?_⟩, ?_⟩, ?_⟩, ?_⟩
                            · exact loc_det rfl rfl (fun _ => rfl) trivial (fun g hΦ s h hs hh => ⟨.none, (stp_loadN (us := [_, _]) ts41 (sv hs 3 rfl) (Cells.box (id := 0) (hh.get 0 _ rfl) 2 rfl))⟩)
                            · refine loc_eff rfl rfl (fun g hΦ s h hs hh => ⟨.none, (stpU_call (fun i => 19 + i) cf21 (fun w hw => c_l_toTable fl w a0 p0_0 ((a0.b).length) c0_0 p0_1 ((a0.f).length) c0_1 rfl (RO.pass hr0_0 hw) rfl (RO.pass hr0_1 hw) x71 e71) (sevs_cons (sv hs 84 rfl) sevs_nil))⟩) ?_
                              rintro g _ _ ⟨_, ⟨p72, n73, c74, C75, p76, n77, c78, C79, rfl, rfl, hnn73, o75, hnn77, o79⟩, rfl⟩
                              obtain rfl := hnn73
                              obtain rfl := hnn77
                              exact ⟨⟨[p72, p76], [c74, c78], [C75, C79]⟩, ⟨o75, o79⟩, .inr rfl, rfl⟩
                            · exact loc_det rfl rfl (fun _ => rfl) trivial (fun g hΦ s h hs hh => ⟨.none, (stp_loadN (us := [_, _]) ts42 (sv hs 4 rfl) (Cells.box (id := 1) (hh.get 1 _ rfl) 2 rfl))⟩)
                            · refine loc_eff rfl rfl (fun g hΦ s h hs hh => ⟨.none, (stpU_call (fun i => 21 + i) cf22 (fun w hw => c_l_toKey fl w a1 x14 e14) (sevs_cons (sv hs 86 rfl) sevs_nil))⟩) ?_
                              rintro g _ _ ⟨_, ⟨rfl, rfl⟩, rfl⟩
                              exact ⟨⟨[], [], []⟩, trivial, .inr rfl, rfl⟩
                            · exact loc_det rfl rfl (fun _ => rfl) trivial (fun g hΦ s h hs hh => ⟨.none, (stp_move (sv hs 2 rfl))⟩)
                            · refine loc_eff rfl rfl (fun g hΦ s h hs hh => ⟨.none, (stpU_call (fun i => 21 + i) cf23 (fun w hw => c_i_ProtectPage fl w x71 ((g 1).A 0) ((x71.b).length) ((g 1).C 0) ((g 1).A 1) ((x71.f).length) ((g 1).C 1) x14 a2 rfl (OwnC.pass (id := 19) (hh.get 19 _ rfl) (hΦ 1 rfl).1 hw) rfl (OwnC.pass (id := 20) (hh.get 20 _ rfl) (hΦ 1 rfl).2 hw) (RO.pass hg hw) x80 e80) (sevs_cons (sv hs 85 rfl) (sevs_cons (sv hs 87 rfl) (sevs_cons (sv hs 88 rfl) sevs_nil))))⟩) ?_
                              rintro g _ _ ⟨_, ⟨p81, n82, c83, C84, p85, n86, c87, C88, rfl, rfl, hnn82, o84, hnn86, o88⟩, rfl⟩
                              obtain rfl := hnn82
                              obtain rfl := hnn86
                              exact ⟨⟨[p81, p85], [c83, c87], [C84, C88]⟩, ⟨o84, o88⟩, .inr rfl, rfl⟩
                            · exact loc_det rfl rfl (fun _ => rfl) trivial (fun g hΦ s h hs hh => ⟨.none, (stp_move (sv hs 89 rfl))⟩)
                            · exact loc_det rfl rfl (fun _ => rfl) trivial (fun g hΦ s h hs hh => ⟨.none, (stp_extract (sv hs 83 rfl) rfl)⟩)
                            · exact loc_det rfl rfl (fun _ => rfl) trivial (fun g hΦ s h hs hh => ⟨.none, (stp_extract (sv hs 83 rfl) rfl)⟩)
                            · refine loc_eff rfl rfl (fun g hΦ s h hs hh => ⟨.none, (stpU_alloc 23 tz26 rfl)⟩) ?_
                              rintro g _ _ ⟨b89, rfl, rfl⟩
                              exact ⟨⟨[], [b89], []⟩, trivial, .inr rfl, rfl⟩
                            · refine loc_eff rfl rfl (fun g hΦ s h hs hh => ⟨.none, (stpU_store (id := 23) (cs' := [.slice ((g 5).A 0) ((x80.1.b).length) ((g 5).C 0), .slice ((g 5).A 1) ((x80.1.f).length) ((g 5).C 1)]) ts26 (sv hs 16 rfl) (sv hs 90 rfl) (hh.get 23 _ rfl) rfl rfl rfl rfl)⟩) ?_
                              rintro g _ _ rfl
                              exact ⟨⟨[], [], []⟩, trivial, .inl rfl, rfl⟩
                            · exact loc_det rfl rfl (fun _ => rfl) trivial (fun g hΦ s h hs hh => ⟨.none, (stp_assign (sv hs 91 rfl))⟩)
                          · intro g hΦ
                            refine kw_gen (ι := Option Addr × Option Addr × Nat × Nat × Res × Res × Option Addr × Option Addr × Nat × Nat × Res × Res × Nat) (((g 1).A 0), ((g 1).A 1), ((g 1).C 0), ((g 1).C 1), ((g 1).R 0), ((g 1).R 1), ((g 5).A 0), ((g 5).A 1), ((g 5).C 0), ((g 5).C 1), ((g 5).R 0), ((g 5).R 1), ((g 9).C 0)) (fun | (p72, p76, c74, c78, C75, C79, p81, p85, c83, c87, C84, C88, b89) => OwnC (α := Int) 3 p72 c74 x71.b C75 ∧ OwnC (α := F) 53 p76 c78 x71.f C79 ∧ OwnC (α := Int) 3 p81 c83 x80.1.b C84 ∧ OwnC (α := F) 53 p85 c87 x80.1.f C88) (fun | (p72, p76, c74, c78, C75, C79, p81, p85, c83, c87, C84, C88, b89) => [(8, .pointer (some ⟨b24, 0, none⟩)), (9, .bool x15.2), (11, .pointer (some ⟨b44, 0, none⟩)), (14, .int .i64 x65.1), (16, .pointer (some ⟨b89, 0, none⟩)), (17, .bool x80.2)]) (fun | (p72, p76, c74, c78, C75, C79, p81, p85, c83, c87, C84, C88, b89) => [(4, C19), (5, C23), (6, [(b24, .cells #[.slice p16 ((x15.1.b).length) c18, .slice p20 ((x15.1.f).length) c22] 26 (0, 0))]), (10, C66), (11, C67), (12, [(b44, .cells #[.slice p36 ((x35.1.b).length) c38, .slice p40 ((x35.1.f).length) c42] 26 (0, 0))]), (21, C84), (22, C88), (23, [(b89, .cells #[.slice p81 ((x80.1.b).length) c83, .slice p85 ((x80.1.f).length) c87] 26 (0, 0))])]) ⟨(hΦ 1 (by decide)).1, (hΦ 1 (by decide)).2, (hΦ 5 (by decide)).1, (hΦ 5 (by decide)).2⟩ ⟨rfl, rfl, rfl, rfl, rfl, rfl, trivial⟩ ⟨rfl, rfl, rfl, rfl, rfl, rfl, rfl, rfl, rfl, trivial⟩ ?_
                            rintro ⟨p72, p76, c74, c78, C75, C79, p81, p85, c83, c87, C84, C88, b89⟩ ⟨o75, o79, o84, o88⟩
                            refine KW.sub (s' := [(8, .pointer (some ⟨b24, 0, none⟩)), (9, .bool x15.2), (11, .pointer (some ⟨b44, 0, none⟩)), (14, .int .i64 x65.1), (16, .pointer (some ⟨b89, 0, none⟩)), (17, .bool x80.2)]) (h' := [(4, C19), (5, C23), (6, [(b24, .cells #[.slice p16 ((x15.1.b).length) c18, .slice p20 ((x15.1.f).length) c22] 26 (0, 0))]), (10, C66), (11, C67), (12, [(b44, .cells #[.slice p36 ((x35.1.b).length) c38, .slice p40 ((x35.1.f).length) c42] 26 (0, 0))]), (21, C84), (22, C88), (23, [(b89, .cells #[.slice p81 ((x80.1.b).length) c83, .slice p85 ((x80.1.f).length) c87] 26 (0, 0))])]) ?_ ⟨rfl, rfl, rfl, rfl, rfl, rfl, trivial⟩ ⟨rfl, rfl, rfl, rfl, rfl, rfl, rfl, rfl, rfl, trivial⟩
                            refine kw_nx ?_
                            refine cw_seq ?_
                            refine cw_seq ?_
                            refine cw_region ?_
                            refine ow_det .none (stp_loadN (us := [_, _]) ts26 rfl (Cells.box (id := 23) rfl 2 rfl)) rfl ?_
                            refine ow_det .none (stp_loadN (us := [_, _]) ts26 rfl (Cells.box (id := 6) rfl 2 rfl)) rfl ?_
                            obtain ⟨x90, e90, H0⟩ := bind_some H0
                            refine ow_eff .none (stpU_call (fun i => 24 + i) cf24 (fun w hw => c_l_eqTable fl w x80.1 p81 ((x80.1.b).length) c83 p85 ((x80.1.f).length) c87 x15.1 p16 ((x15.1.b).length) c18 p20 ((x15.1.f).length) c22 rfl (OwnC.pass (id := 21) rfl o84 hw) rfl (OwnC.pass (id := 22) rfl o88 hw) rfl (OwnC.pass (id := 4) rfl o19 hw) rfl (OwnC.pass (id := 5) rfl o23 hw) x90 e90) (sevs_cons rfl (sevs_cons rfl sevs_nil))) rfl ?_
                            rintro _ _ ⟨_, ⟨rfl, rfl⟩, rfl⟩
                            refine ow_det .none (stp_not rfl) rfl ?_
                            refine ow_det .none (stp_move rfl) rfl ?_
                            obtain ⟨y91, ey91, H0⟩ := bind_some H0
                            refine ow_cutY 4 100 y91 ?_ ?_
                            · rcases Bool.eq_false_or_eq_true (!x90) with hy91 | hy91
                              · have ey91 := cond_t ey91 hy91
                                refine ow_off (.some rfl hy91) rfl ?_
                                refine ow_off (.some rfl hy91) rfl ?_
                                refine ow_off (.some rfl hy91) rfl ?_
                                refine ow_det .none (stp_pick_t rfl hy91 rfl) rfl ?_
                                obtain rfl := Option.some.inj ey91
                                exact ow_nil (kw_jy (.top rfl (.cons rfl (.cons rfl (.cons rfl (.cons rfl (.refl _)))))) (.refl _))
                              · have ey91 := cond_f ey91 hy91
                                refine ow_det (.some rfl hy91) (stp_move rfl) rfl ?_
                                refine ow_det (.some rfl hy91) (stp_move rfl) rfl ?_
                                refine ow_det (.some rfl hy91) (stp_neqB Tryd.underlying4 rfl rfl) rfl ?_
                                refine ow_det .none (stp_pick_f rfl hy91 rfl) rfl ?_
                                obtain rfl := Option.some.inj ey91
                                exact ow_nil (kw_jy (.top rfl (.cons rfl (.cons rfl (.cons rfl (.cons rfl (.refl _)))))) (.refl _))
                            · refine ow_nil ?_
                              refine kw_nx ?_
                              refine cw_cond rfl (fun h92 => ?_) (fun h92 => ?_)
                              · have H0 := cond_t H0 h92
                                refine cw_seq ?_
                                refine cw_region ?_
                                refine ow_det .none (stp_assign rfl) rfl ?_
                                refine ow_nil ?_
                                refine kw_nx ?_
                                refine cw_ret ?_
                                refine kw_nx_ret ?_
                                have q0 := Option.some.inj H0
                                subst q0
                                exact kw_ret Tryd.results4 (.cons (.tmp rfl) .nil) [] [] trivial (by decide) ⟨rfl, rfl⟩
                              · have H0 := cond_f H0 h92
                                refine cw_skip ?_
                                refine kw_nx ?_
                                refine cw_seq ?_
                                refine cw_region ?_
                                refine ow_det .none (stp_assign rfl) rfl ?_
                                refine ow_nil ?_
                                refine kw_nx ?_
                                refine cw_seq ?_
                                refine cw_region ?_
                                refine ow_det .none (stp_loadN (us := [_, _]) ts26 rfl (Cells.box (id := 12) rfl 2 rfl)) rfl ?_
                                refine ow_det .none (stp_move rfl) rfl ?_
                                refine ow_eff .none (stpU_call (fun i => 24 + i) cf26 (fun w hw => c_l_heldTable fl w (⟨x65.2.1, x65.2.2⟩ : T) p36 ((x35.1.b).length) c38 p40 ((x35.1.f).length) c42 1 (by simp [hl66]) (OwnC.pass (id := 10) rfl o66 hw) (by simp [hl67]) (OwnC.pass (id := 11) rfl o67 hw) x68 e68) (sevs_cons rfl (sevs_cons rfl sevs_nil))) rfl ?_
                                rintro _ _ ⟨_, ⟨rfl, rfl⟩, rfl⟩
                                refine ow_det .none (stp_assign rfl) rfl ?_
                                refine ow_nil ?_
                                refine kw_nx ?_
                                refine cw_seq ?_
                                refine cw_seq ?_
                                refine cw_region ?_
                                refine ow_det .none (stp_move rfl) rfl ?_
                                refine ow_det .none (stp_lss rfl rfl) rfl ?_
                                refine ow_nil ?_
                                refine kw_nx ?_
                                refine cw_cond rfl (fun h93 => ?_) (fun h93 => ?_)
                                · have H0 := cond_t H0 h93
                                  refine cw_seq ?_
                                  refine cw_region ?_
                                  refine ow_det .none (stp_assign rfl) rfl ?_
                                  refine ow_nil ?_
                                  refine kw_nx ?_
                                  refine cw_ret ?_
                                  refine kw_nx_ret ?_
                                  have q0 := Option.some.inj H0
                                  subst q0
                                  exact kw_ret Tryd.results4 (.cons (.tmp rfl) .nil) [] [] trivial (by decide) ⟨rfl, rfl⟩
                                · have H0 := cond_f H0 h93
                                  refine cw_skip ?_
                                  refine kw_nx ?_
                                  refine cw_seq ?_
                                  refine cw_seq ?_
                                  refine cw_region ?_
                                  refine ow_det .none (stp_move rfl) rfl ?_
                                  refine ow_det .none (stp_move rfl) rfl ?_
                                  refine ow_det .none (stp_neq rfl rfl) rfl ?_
                                  refine ow_nil ?_
                                  refine kw_nx ?_
                                  refine cw_cond rfl (fun h94 => ?_) (fun h94 => ?_)
                                  · have H0 := cond_t H0 h94
                                    refine cw_seq ?_
                                    refine cw_region ?_
                                    refine ow_det .none (stp_assign rfl) rfl ?_
                                    refine ow_nil ?_
                                    refine kw_nx ?_
                                    refine cw_ret ?_
                                    refine kw_nx_ret ?_
                                    have q0 := Option.some.inj H0
                                    subst q0
                                    exact kw_ret Tryd.results4 (.cons (.tmp rfl) .nil) [] [] trivial (by decide) ⟨rfl, rfl⟩
                                  · have H0 := cond_f H0 h94
                                    refine cw_skip ?_
                                    refine kw_nx ?_
                                    refine cw_seq ?_
                                    refine cw_region ?_
                                    refine ow_det .none (stp_assign rfl) rfl ?_
                                    refine ow_nil ?_
                                    refine kw_nx ?_
                                    refine cw_ret ?_
                                    have q0 := Option.some.inj H0
                                    subst q0
                                    exact kw_ret Tryd.results4 (.cons (.tmp rfl) .nil) [] [] trivial (by decide) ⟨rfl, rfl⟩
end Go.Proofs.YtkocamaoeojfhaaDoor
