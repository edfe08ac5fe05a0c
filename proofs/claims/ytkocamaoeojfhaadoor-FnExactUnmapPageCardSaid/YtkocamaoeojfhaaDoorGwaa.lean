/- The walks: functions of the program return what their pure functions say. Printed by a program (gen.py). -/
import Derived.Test.YtkocamaoeojfhaaDoorGp
import Derived.Test.YtkocamaoeojfhaaDoorGt
import Derived.Test.YtkocamaoeojfhaaDoorMan
set_option linter.unusedSimpArgs false
set_option linter.unusedVariables false
set_option linter.unusedSectionVars false
namespace Go.Proofs.YtkocamaoeojfhaaDoor
open Go.RowKit
set_option maxHeartbeats 4000000 in
set_option maxRecDepth 20000 in
theorem c_l_szIntS (fl : Nat) (w : World) (a0 : (List Int)) (p0_0 : Option Addr) (n0_0 c0_0 : Nat) (a1 : Int) (hn0_0 : n0_0 = (a0).length) (hr0_0 : RO w (hkeys []) (RdL p0_0 c0_0 a0)) (r : Int) (H0 : l_szIntS fl a0 a1 = some r) :
    Ct Tryd.prog 54 [.slice p0_0 n0_0 c0_0, .int .i64 a1] w [] (fun rv h' => rv = .int .i64 r ∧ h' = []) := by
  obtain rfl := hn0_0
  unfold l_szIntS at H0
  refine ct_of_cw Tryd.func54 rfl Tryd.ntmps54 rfl (Sat.refl _ _) ?_
  refine cw_seq ?_
  refine cw_region ?_
  refine ow_det .none (stp_assign rfl) rfl ?_
  refine ow_nil ?_
  refine kw_nx ?_
  refine cw_seq ?_
  refine cw_region ?_
  refine ow_det .none (stp_move rfl) rfl ?_
  refine ow_det .none (stp_move rfl) rfl ?_
  refine ow_det .none (stp_len Tryd.underlying23 rfl) rfl ?_
  obtain ⟨x1, e1, H0⟩ := bind_some H0
  refine ow_det .none (stp_sub rfl rfl e1) rfl ?_
  refine ow_det .none (stp_assign rfl) rfl ?_
  refine ow_nil ?_
  refine kw_nx ?_
  refine cw_seq ?_
  refine cw_seq ?_
  refine cw_region ?_
  refine ow_det .none (stp_move rfl) rfl ?_
  refine ow_det .none (stp_lss rfl rfl) rfl ?_
  refine ow_nil ?_
  refine kw_nx ?_
  refine cw_cond rfl (fun h2 => ?_) (fun h2 => ?_)
  · have H0 := cond_t H0 h2
    refine cw_seq ?_
    refine cw_region ?_
    refine ow_det .none (stp_assign rfl) rfl ?_
    refine ow_nil ?_
    refine kw_nx ?_
    refine cw_ret ?_
    refine kw_nx_ret ?_
    have q0 := Option.some.inj H0
    subst q0
    exact kw_ret Tryd.results54 (.cons (.tmp rfl) .nil) [] [] trivial (by decide) ⟨rfl, rfl⟩
  · have H0 := cond_f H0 h2
    refine cw_skip ?_
    refine kw_nx ?_
    refine cw_seq ?_
    refine cw_region ?_
    refine ow_det .none (stp_move rfl) rfl ?_
    refine ow_det .none (stp_assign rfl) rfl ?_
    refine ow_nil ?_
    refine kw_nx ?_
    refine cw_ret ?_
    have q0 := Option.some.inj H0
    subst q0
    exact kw_ret Tryd.results54 (.cons (.tmp rfl) .nil) [] [] trivial (by decide) ⟨rfl, rfl⟩

set_option maxHeartbeats 4000000 in
set_option maxRecDepth 20000 in
theorem c_l_szFrameS (fl : Nat) (w : World) (a0 : (List F)) (p0_0 : Option Addr) (n0_0 c0_0 : Nat) (a1 : Int) (hn0_0 : n0_0 = (a0).length) (hr0_0 : RO w (hkeys []) (RdL p0_0 c0_0 a0)) (r : Int) (H0 : l_szFrameS fl a0 a1 = some r) :
    Ct Tryd.prog 55 [.slice p0_0 n0_0 c0_0, .int .i64 a1] w [] (fun rv h' => rv = .int .i64 r ∧ h' = []) := by
  obtain rfl := hn0_0
  unfold l_szFrameS at H0
  refine ct_of_cw Tryd.func55 rfl Tryd.ntmps55 rfl (Sat.refl _ _) ?_
  refine cw_seq ?_
  refine cw_region ?_
  refine ow_det .none (stp_assign rfl) rfl ?_
  refine ow_nil ?_
  refine kw_nx ?_
  refine cw_seq ?_
  refine cw_region ?_
  refine ow_det .none (stp_move rfl) rfl ?_
  refine ow_det .none (stp_move rfl) rfl ?_
  refine ow_det .none (stp_len Tryd.underlying39 rfl) rfl ?_
  obtain ⟨x1, e1, H0⟩ := bind_some H0
  refine ow_det .none (stp_sub rfl rfl e1) rfl ?_
  refine ow_det .none (stp_assign rfl) rfl ?_
  refine ow_nil ?_
  refine kw_nx ?_
  refine cw_seq ?_
  refine cw_seq ?_
  refine cw_region ?_
  refine ow_det .none (stp_move rfl) rfl ?_
  refine ow_det .none (stp_lss rfl rfl) rfl ?_
  refine ow_nil ?_
  refine kw_nx ?_
  refine cw_cond rfl (fun h2 => ?_) (fun h2 => ?_)
  · have H0 := cond_t H0 h2
    refine cw_seq ?_
    refine cw_region ?_
    refine ow_det .none (stp_assign rfl) rfl ?_
    refine ow_nil ?_
    refine kw_nx ?_
    refine cw_ret ?_
    refine kw_nx_ret ?_
    have q0 := Option.some.inj H0
    subst q0
    exact kw_ret Tryd.results55 (.cons (.tmp rfl) .nil) [] [] trivial (by decide) ⟨rfl, rfl⟩
  · have H0 := cond_f H0 h2
    refine cw_skip ?_
    refine kw_nx ?_
    refine cw_seq ?_
    refine cw_region ?_
    refine ow_det .none (stp_move rfl) rfl ?_
    refine ow_det .none (stp_assign rfl) rfl ?_
    refine ow_nil ?_
    refine kw_nx ?_
    refine cw_ret ?_
    have q0 := Option.some.inj H0
    subst q0
    exact kw_ret Tryd.results55 (.cons (.tmp rfl) .nil) [] [] trivial (by decide) ⟨rfl, rfl⟩

set_option maxHeartbeats 4000000 in
set_option maxRecDepth 20000 in
theorem c_l_szTable (fl : Nat) (w : World) (a0 : T) (p0_0 : Option Addr) (n0_0 c0_0 : Nat) (p0_1 : Option Addr) (n0_1 c0_1 : Nat) (a1 : Int) (hn0_0 : n0_0 = (a0.b).length) (hr0_0 : RO w (hkeys []) (RdL p0_0 c0_0 a0.b)) (hn0_1 : n0_1 = (a0.f).length) (hr0_1 : RO w (hkeys []) (RdL p0_1 c0_1 a0.f)) (r : Int) (H0 : l_szTable fl a0 a1 = some r) :
    Ct Tryd.prog 19 [.agg #[.slice p0_0 n0_0 c0_0, .slice p0_1 n0_1 c0_1], .int .i64 a1] w [] (fun rv h' => rv = .int .i64 r ∧ h' = []) := by
  obtain rfl := hn0_0
  obtain rfl := hn0_1
  unfold l_szTable at H0
  refine ct_of_cw Tryd.func19 rfl Tryd.ntmps19 rfl (Sat.refl _ _) ?_
  refine cw_seq ?_
  refine cw_region ?_
  refine ow_eff .none (stpU_box 0 rfl rfl) rfl ?_
  rintro _ _ ⟨b1, rfl, rfl⟩
  refine ow_det .none (stp_assign rfl) rfl ?_
  refine ow_nil ?_
  refine kw_nx ?_
  refine cw_seq ?_
  refine cw_region ?_
  refine ow_det .none (stp_fieldAddr (j := 0) Tryd.underlying41 rfl ts23 rfl rfl rfl) rfl ?_
  refine ow_det .none (stp_load1 ts23 rfl (Cells.box (id := 0) rfl 1 rfl)) rfl ?_
  refine ow_det .none (stp_move rfl) rfl ?_
  obtain ⟨x2, e2, H0⟩ := bind_some H0
  refine ow_eff .none (stpU_call (fun i => 1 + i) cf54 (fun w hw => c_l_szIntS fl w a0.b p0_0 ((a0.b).length) c0_0 a1 rfl (RO.pass hr0_0 hw) x2 e2) (sevs_cons rfl (sevs_cons rfl sevs_nil))) rfl ?_
  rintro _ _ ⟨_, ⟨rfl, rfl⟩, rfl⟩
  refine ow_det .none (stp_assign rfl) rfl ?_
  refine ow_nil ?_
  refine kw_nx ?_
  refine cw_seq ?_
  refine cw_seq ?_
  refine cw_region ?_
  refine ow_det .none (stp_move rfl) rfl ?_
  refine ow_det .none (stp_lss rfl rfl) rfl ?_
  refine ow_nil ?_
  refine kw_nx ?_
  refine cw_cond rfl (fun h3 => ?_) (fun h3 => ?_)
  · have H0 := cond_t H0 h3
    refine cw_seq ?_
    refine cw_region ?_
    refine ow_det .none (stp_assign rfl) rfl ?_
    refine ow_nil ?_
    refine kw_nx ?_
    refine cw_ret ?_
    refine kw_nx_ret ?_
    have q0 := Option.some.inj H0
    subst q0
    exact kw_ret Tryd.results19 (.cons (.tmp rfl) .nil) [] [] trivial (by decide) ⟨rfl, rfl⟩
  · have H0 := cond_f H0 h3
    refine cw_skip ?_
    refine kw_nx ?_
    refine cw_seq ?_
    refine cw_region ?_
    refine ow_det .none (stp_fieldAddr (j := 1) Tryd.underlying41 rfl ts39 rfl rfl rfl) rfl ?_
    refine ow_det .none (stp_load1 ts39 rfl (Cells.box (id := 0) rfl 1 rfl)) rfl ?_
    refine ow_det .none (stp_move rfl) rfl ?_
    obtain ⟨x4, e4, H0⟩ := bind_some H0
    refine ow_eff .none (stpU_call (fun i => 1 + i) cf55 (fun w hw => c_l_szFrameS fl w a0.f p0_1 ((a0.f).length) c0_1 x2 rfl (RO.pass hr0_1 hw) x4 e4) (sevs_cons rfl (sevs_cons rfl sevs_nil))) rfl ?_
    rintro _ _ ⟨_, ⟨rfl, rfl⟩, rfl⟩
    refine ow_det .none (stp_assign rfl) rfl ?_
    refine ow_nil ?_
    refine kw_nx ?_
    refine cw_seq ?_
    refine cw_seq ?_
    refine cw_region ?_
    refine ow_det .none (stp_move rfl) rfl ?_
    refine ow_det .none (stp_lss rfl rfl) rfl ?_
    refine ow_nil ?_
    refine kw_nx ?_
    refine cw_cond rfl (fun h5 => ?_) (fun h5 => ?_)
    · have H0 := cond_t H0 h5
      refine cw_seq ?_
      refine cw_region ?_
      refine ow_det .none (stp_assign rfl) rfl ?_
      refine ow_nil ?_
      refine kw_nx ?_
      refine cw_ret ?_
      refine kw_nx_ret ?_
      have q0 := Option.some.inj H0
      subst q0
      exact kw_ret Tryd.results19 (.cons (.tmp rfl) .nil) [] [] trivial (by decide) ⟨rfl, rfl⟩
    · have H0 := cond_f H0 h5
      refine cw_skip ?_
      refine kw_nx ?_
      refine cw_seq ?_
      refine cw_region ?_
      refine ow_det .none (stp_move rfl) rfl ?_
      refine ow_det .none (stp_assign rfl) rfl ?_
      refine ow_nil ?_
      refine kw_nx ?_
      refine cw_ret ?_
      have q0 := Option.some.inj H0
      subst q0
      exact kw_ret Tryd.results19 (.cons (.tmp rfl) .nil) [] [] trivial (by decide) ⟨rfl, rfl⟩

set_option maxHeartbeats 4000000 in
set_option maxRecDepth 20000 in
theorem c_l_toIntS (fl : Nat) (w : World) (a0 : (List Int)) (p0_0 : Option Addr) (n0_0 c0_0 : Nat) (hn0_0 : n0_0 = (a0).length) (hr0_0 : RO w (hkeys []) (RdL p0_0 c0_0 a0)) (r : (List Int)) (H0 : l_toIntS fl a0 = some r) :
    Ct Tryd.prog 58 [.slice p0_0 n0_0 c0_0] w [] (fun rv h' => ∃ (x0 : Option Addr) (y0 z0 : Nat) (C0 : Res), rv = .slice x0 y0 z0 ∧ h' = [(0, C0)] ∧ y0 = (r).length ∧ OwnC 3 x0 z0 r C0) := by
  obtain rfl := hn0_0
  unfold l_toIntS at H0
  refine ct_of_cw Tryd.func58 rfl Tryd.ntmps58 rfl (Sat.refl _ _) ?_
  refine cw_seq ?_
  refine cw_region ?_
  refine ow_det .none (stp_assign rfl) rfl ?_
  refine ow_nil ?_
  refine kw_nx ?_
  refine cw_seq ?_
  refine cw_region ?_
  refine ow_det .none (stp_move rfl) rfl ?_
  refine ow_det .none (stp_len Tryd.underlying23 rfl) rfl ?_
  obtain ⟨x1, e1, H0⟩ := bind_some H0
  refine ow_eff .none (stpU_make sl23 rfl 0 rfl rfl e1) rfl ?_
  rintro _ _ ⟨p2, C3, rfl, rfl, o3⟩
  refine ow_det .none (stp_assign rfl) rfl ?_
  refine ow_nil ?_
  refine kw_nx ?_
  refine cw_seq ?_
  refine cw_seq ?_
  refine cw_region ?_
  refine ow_det .none (stp_assign rfl) rfl ?_
  refine ow_nil ?_
  refine kw_nx ?_
  obtain ⟨o0_0, eo0_0, H0⟩ := bind_some H0
  refine cw_join (ι := (List Int) × Int × Res) (fun | (v4, v6, C5) => o0_0 = .out (v4, v6) ∧ x1 = (v4).length ∧ OwnC (α := Int) 3 p2 x1 v4 C5) (fun | (v4, v6, C5) => [(0, .slice p0_0 ((a0).length) c0_0), (3, .slice p2 x1 x1), (4, .int .i64 v6)]) (fun | (v4, v6, C5) => [(0, C5)]) ?_ ?_
  · refine cw_block ?_
    refine cw_loopS (ι := Nat × (List Int) × Int × Res) (js := [0]) (fun x => x.1) (fun | (fuel, v4, v6, C5) => l_toIntS_L0 fl a0 fuel v4 v6 = some o0_0 ∧ x1 = (v4).length ∧ OwnC (α := Int) 3 p2 x1 v4 C5) (fun | (_, v4, v6, C5) => [(0, .slice p0_0 ((a0).length) c0_0), (3, .slice p2 x1 x1), (4, .int .i64 v6)]) (fun | (_, v4, v6, C5) => [(0, C5)]) (fl, (List.replicate x1 (0 : Int)), 0, C3) ⟨eo0_0, (by simp), o3⟩ ⟨rfl, rfl, rfl, trivial⟩ ⟨0, [], rfl, rfl, trivial⟩ (by decide) ?_
    rintro ⟨fuel, v4, v6, C5⟩ ⟨H1, hl5, o5⟩
    have H1 : l_toIntS_L0 fl a0 fuel v4 v6 = some o0_0 := H1
    rcases fuel with _ | fuel
    · rw [l_toIntS_L0.eq_1] at H1; cases H1
    rw [l_toIntS_L0.eq_2] at H1
    refine CW.sub (s' := [(0, .slice p0_0 ((a0).length) c0_0), (3, .slice p2 x1 x1), (4, .int .i64 v6)]) (h' := [(0, C5)]) ?_ ⟨rfl, rfl, rfl, trivial⟩ ⟨rfl, trivial⟩
    refine cw_seq ?_
    refine cw_seq ?_
    refine cw_region ?_
    refine ow_det .none (stp_move rfl) rfl ?_
    refine ow_det .none (stp_move rfl) rfl ?_
    refine ow_det .none (stp_len Tryd.underlying23 rfl) rfl ?_
    refine ow_det .none (stp_lss rfl rfl) rfl ?_
    refine ow_nil ?_
    refine kw_nx ?_
    refine cw_cond rfl (fun h7 => ?_) (fun h7 => ?_)
    · have H1 := cond_t H1 h7
      refine cw_skip ?_
      refine kw_nx ?_
      refine cw_seq ?_
      refine cw_block ?_
      refine cw_region ?_
      refine ow_det .none (stp_move rfl) rfl ?_
      refine ow_det .none (stp_move rfl) rfl ?_
      refine ow_det .none (stp_move rfl) rfl ?_
      refine ow_det .none (stp_move rfl) rfl ?_
      obtain ⟨x8, e8, H1⟩ := bind_some H1
      refine ow_det .none (stp_indexAddr Tryd.underlying23 ts3 (by decide) rfl rfl rfl (Rdb.ro hr0_0) e8) rfl ?_
      refine ow_det .none (stp_load1 ts3 rfl (Cells.el (Rdb.ro hr0_0) (by decide) e8 0 1 rfl)) rfl ?_
      obtain ⟨x9, e9, H1⟩ := bind_some H1
      refine ow_det .none (stp_indexAddr Tryd.underlying23 ts3 (by decide) rfl (by simp [hl5]) rfl (Rdb.own (id := 0) rfl o5) e9) rfl ?_
      refine ow_eff0 .none (stpU_storeEl (id := 0) (i := 0) x8 (by decide) ts3 rfl rfl rfl o5 e9 rfl rfl rfl rfl) ?_
      rintro _ _ ⟨C10, rfl, o10⟩
      refine ow_nil ?_
      refine kw_bl_normal ?_
      refine kw_nx ?_
      refine cw_region ?_
      refine ow_det .none (stp_move rfl) rfl ?_
      obtain ⟨x11, e11, H1⟩ := bind_some H1
      refine ow_det .none (stp_add rfl rfl e11) rfl ?_
      refine ow_det .none (stp_assign rfl) rfl ?_
      refine ow_nil ?_
      exact kw_lqS (js := [0]) (fuel, (v4.set (Int.toNat v6) x8), x11, C10) ⟨H1, (by simp [hl5]), o10⟩ (Nat.lt_succ_self _) ⟨rfl, rfl, rfl, trivial⟩ ⟨0, [], rfl, rfl, trivial⟩ (by decide)
    · have H1 := cond_f H1 h7
      refine cw_exit ?_
      refine kw_nx_exit ?_
      refine kw_lq_exit ?_
      refine kw_bl ?_
      have q1 := Option.some.inj H1
      subst q1
      exact kw_joinS (js := [0]) (v4, v6, C5) ⟨rfl, (by simp [hl5]), o5⟩ ⟨rfl, rfl, rfl, trivial⟩ ⟨0, [], rfl, rfl, trivial⟩ (by decide)
  · rintro ⟨v4, v6, C5⟩ ⟨rfl, hl5, o5⟩
    refine KW.sub (s' := [(0, .slice p0_0 ((a0).length) c0_0), (3, .slice p2 x1 x1), (4, .int .i64 v6)]) (h' := [(0, C5)]) ?_ ⟨rfl, rfl, rfl, trivial⟩ ⟨rfl, trivial⟩
    refine kw_nx ?_
    refine cw_seq ?_
    refine cw_region ?_
    refine ow_det .none (stp_move rfl) rfl ?_
    refine ow_det .none (stp_assign rfl) rfl ?_
    refine ow_nil ?_
    refine kw_nx ?_
    refine cw_ret ?_
    have q0 := Option.some.inj H0
    subst q0
    exact kw_ret Tryd.results58 (.cons (.tmp rfl) .nil) [(0, C5)] [0] ⟨0, [], rfl, rfl, trivial⟩ (by decide) ⟨p2, x1, x1, C5, rfl, rfl, (by simp [hl5]), o5⟩

set_option maxHeartbeats 4000000 in
set_option maxRecDepth 20000 in
theorem c_l_toKey (fl : Nat) (w : World) (a0 : K) (r : K) (H0 : l_toKey fl a0 = some r) :
    Ct Tryd.prog 22 [.agg #[.int .i64 a0.s, .int .i64 a0.p]] w [] (fun rv h' => rv = .agg #[.int .i64 r.s, .int .i64 r.p] ∧ h' = []) := by
  unfold l_toKey at H0
  refine ct_of_cw Tryd.func22 rfl Tryd.ntmps22 rfl (Sat.refl _ _) ?_
  refine cw_seq ?_
  refine cw_region ?_
  refine ow_eff .none (stpU_box 0 rfl rfl) rfl ?_
  rintro _ _ ⟨b1, rfl, rfl⟩
  refine ow_eff .none (stpU_alloc 1 tz28 rfl) rfl ?_
  rintro _ _ ⟨b2, rfl, rfl⟩
  refine ow_nil ?_
  refine kw_nx ?_
  refine cw_seq ?_
  refine cw_region ?_
  refine ow_eff .none (stpU_alloc 2 tz28 rfl) rfl ?_
  rintro _ _ ⟨b3, rfl, rfl⟩
  refine ow_nil ?_
  refine kw_nx ?_
  refine cw_seq ?_
  refine cw_region ?_
  refine ow_det .none (stp_fieldAddr (j := 0) Tryd.underlying42 rfl ts3 rfl rfl rfl) rfl ?_
  refine ow_det .none (stp_load1 ts3 rfl (Cells.box (id := 0) rfl 1 rfl)) rfl ?_
  refine ow_det .none (stp_fieldAddr (j := 0) Tryd.underlying28 rfl ts3 rfl rfl rfl) rfl ?_
  refine ow_eff0 .none (stpU_store (id := 2) (cs' := [.int .i64 a0.s, .int .i64 0]) ts3 rfl rfl rfl rfl rfl rfl rfl) ?_
  rintro _ _ rfl
  refine ow_nil ?_
  refine kw_nx ?_
  refine cw_seq ?_
  refine cw_region ?_
  refine ow_det .none (stp_fieldAddr (j := 1) Tryd.underlying42 rfl ts3 rfl rfl rfl) rfl ?_
  refine ow_det .none (stp_load1 ts3 rfl (Cells.box (id := 0) rfl 1 rfl)) rfl ?_
  refine ow_det .none (stp_fieldAddr (j := 1) Tryd.underlying28 rfl ts3 rfl rfl rfl) rfl ?_
  refine ow_eff0 .none (stpU_store (id := 2) (cs' := [.int .i64 a0.s, .int .i64 a0.p]) ts3 rfl rfl rfl rfl rfl rfl rfl) ?_
  rintro _ _ rfl
  refine ow_nil ?_
  refine kw_nx ?_
  refine cw_seq ?_
  refine cw_region ?_
  refine ow_det .none (stp_loadN (us := [_, _]) ts28 rfl (Cells.box (id := 2) rfl 2 rfl)) rfl ?_
  refine ow_eff0 .none (stpU_store (id := 1) (cs' := [.int .i64 a0.s, .int .i64 a0.p]) ts28 rfl rfl rfl rfl rfl rfl rfl) ?_
  rintro _ _ rfl
  refine ow_nil ?_
  refine kw_nx ?_
  refine cw_ret ?_
  have q0 := Option.some.inj H0
  subst q0
  exact kw_ret Tryd.results22 (.cons (.cellN (us := [_, _]) ts28 rfl (Cells.box (id := 1) rfl 2 rfl)) .nil) [] [] trivial (by decide) ⟨rfl, rfl⟩

set_option maxHeartbeats 4000000 in
set_option maxRecDepth 20000 in
theorem c_l_toFrame (fl : Nat) (w : World) (a0 : F) (r : F) (H0 : l_toFrame fl a0 = some r) :
    Ct Tryd.prog 89 [.agg #[.bool a0.u, .int .i64 a0.k.s, .int .i64 a0.k.p, .int .i64 a0.r, .int .i64 a0.nx]] w [] (fun rv h' => rv = .agg #[.bool r.u, .int .i64 r.k.s, .int .i64 r.k.p, .int .i64 r.r, .int .i64 r.nx] ∧ h' = []) := by
  unfold l_toFrame at H0
  refine ct_of_cw Tryd.func89 rfl Tryd.ntmps89 rfl (Sat.refl _ _) ?_
  refine cw_seq ?_
  refine cw_region ?_
  refine ow_eff .none (stpU_box 0 rfl rfl) rfl ?_
  rintro _ _ ⟨b1, rfl, rfl⟩
  refine ow_eff .none (stpU_alloc 1 tz53 rfl) rfl ?_
  rintro _ _ ⟨b2, rfl, rfl⟩
  refine ow_nil ?_
  refine kw_nx ?_
  refine cw_seq ?_
  refine cw_region ?_
  refine ow_eff .none (stpU_alloc 2 tz53 rfl) rfl ?_
  rintro _ _ ⟨b3, rfl, rfl⟩
  refine ow_nil ?_
  refine kw_nx ?_
  refine cw_seq ?_
  refine cw_region ?_
  refine ow_det .none (stp_fieldAddr (j := 0) Tryd.underlying108 rfl ts4 rfl rfl rfl) rfl ?_
  refine ow_det .none (stp_load1 ts4 rfl (Cells.box (id := 0) rfl 1 rfl)) rfl ?_
  refine ow_det .none (stp_fieldAddr (j := 0) Tryd.underlying53 rfl ts4 rfl rfl rfl) rfl ?_
  refine ow_eff0 .none (stpU_store (id := 2) (cs' := [.bool a0.u, .int .i64 0, .int .i64 0, .int .i64 0, .int .i64 0]) ts4 rfl rfl rfl rfl rfl rfl rfl) ?_
  rintro _ _ rfl
  refine ow_nil ?_
  refine kw_nx ?_
  refine cw_seq ?_
  refine cw_region ?_
  refine ow_det .none (stp_fieldAddr (j := 1) Tryd.underlying108 rfl ts42 rfl rfl rfl) rfl ?_
  refine ow_det .none (stp_loadN (us := [_, _]) ts42 rfl (Cells.box (id := 0) rfl 2 rfl)) rfl ?_
  obtain ⟨x4, e4, H0⟩ := bind_some H0
  refine ow_eff .none (stpU_call (fun i => 3 + i) cf22 (fun w hw => c_l_toKey fl w a0.k x4 e4) (sevs_cons rfl sevs_nil)) rfl ?_
  rintro _ _ ⟨_, ⟨rfl, rfl⟩, rfl⟩
  refine ow_det .none (stp_fieldAddr (j := 1) Tryd.underlying53 rfl ts28 rfl rfl rfl) rfl ?_
  refine ow_eff0 .none (stpU_store (id := 2) (cs' := [.bool a0.u, .int .i64 x4.s, .int .i64 x4.p, .int .i64 0, .int .i64 0]) ts28 rfl rfl rfl rfl rfl rfl rfl) ?_
  rintro _ _ rfl
  refine ow_nil ?_
  refine kw_nx ?_
  refine cw_seq ?_
  refine cw_region ?_
  refine ow_det .none (stp_fieldAddr (j := 3) Tryd.underlying108 rfl ts3 rfl rfl rfl) rfl ?_
  refine ow_det .none (stp_load1 ts3 rfl (Cells.box (id := 0) rfl 1 rfl)) rfl ?_
  refine ow_det .none (stp_fieldAddr (j := 3) Tryd.underlying53 rfl ts3 rfl rfl rfl) rfl ?_
  refine ow_eff0 .none (stpU_store (id := 2) (cs' := [.bool a0.u, .int .i64 x4.s, .int .i64 x4.p, .int .i64 a0.r, .int .i64 0]) ts3 rfl rfl rfl rfl rfl rfl rfl) ?_
  rintro _ _ rfl
  refine ow_nil ?_
  refine kw_nx ?_
  refine cw_seq ?_
  refine cw_region ?_
  refine ow_det .none (stp_fieldAddr (j := 4) Tryd.underlying108 rfl ts3 rfl rfl rfl) rfl ?_
  refine ow_det .none (stp_load1 ts3 rfl (Cells.box (id := 0) rfl 1 rfl)) rfl ?_
  refine ow_det .none (stp_fieldAddr (j := 4) Tryd.underlying53 rfl ts3 rfl rfl rfl) rfl ?_
  refine ow_eff0 .none (stpU_store (id := 2) (cs' := [.bool a0.u, .int .i64 x4.s, .int .i64 x4.p, .int .i64 a0.r, .int .i64 a0.nx]) ts3 rfl rfl rfl rfl rfl rfl rfl) ?_
  rintro _ _ rfl
  refine ow_nil ?_
  refine kw_nx ?_
  refine cw_seq ?_
  refine cw_region ?_
  refine ow_det .none (stp_loadN (us := [_, _, _, _, _]) ts53 rfl (Cells.box (id := 2) rfl 5 rfl)) rfl ?_
  refine ow_eff0 .none (stpU_store (id := 1) (cs' := [.bool a0.u, .int .i64 x4.s, .int .i64 x4.p, .int .i64 a0.r, .int .i64 a0.nx]) ts53 rfl rfl rfl rfl rfl rfl rfl) ?_
  rintro _ _ rfl
  refine ow_nil ?_
  refine kw_nx ?_
  refine cw_ret ?_
  have q0 := Option.some.inj H0
  subst q0
  exact kw_ret Tryd.results89 (.cons (.cellN (us := [_, _, _, _, _]) ts53 rfl (Cells.box (id := 1) rfl 5 rfl)) .nil) [] [] trivial (by decide) ⟨rfl, rfl⟩

set_option maxHeartbeats 4000000 in
set_option maxRecDepth 20000 in
theorem c_l_toFrameS (fl : Nat) (w : World) (a0 : (List F)) (p0_0 : Option Addr) (n0_0 c0_0 : Nat) (hn0_0 : n0_0 = (a0).length) (hr0_0 : RO w (hkeys []) (RdL p0_0 c0_0 a0)) (r : (List F)) (H0 : l_toFrameS fl a0 = some r) :
    Ct Tryd.prog 59 [.slice p0_0 n0_0 c0_0] w [] (fun rv h' => ∃ (x0 : Option Addr) (y0 z0 : Nat) (C0 : Res), rv = .slice x0 y0 z0 ∧ h' = [(0, C0)] ∧ y0 = (r).length ∧ OwnC 53 x0 z0 r C0) := by
  obtain rfl := hn0_0
  unfold l_toFrameS at H0
  refine ct_of_cw Tryd.func59 rfl Tryd.ntmps59 rfl (Sat.refl _ _) ?_
  refine cw_seq ?_
  refine cw_region ?_
  refine ow_det .none (stp_assign rfl) rfl ?_
  refine ow_nil ?_
  refine kw_nx ?_
  refine cw_seq ?_
  refine cw_region ?_
  refine ow_det .none (stp_move rfl) rfl ?_
  refine ow_det .none (stp_len Tryd.underlying39 rfl) rfl ?_
  obtain ⟨x1, e1, H0⟩ := bind_some H0
  refine ow_eff .none (stpU_make sl24 rfl 0 rfl rfl e1) rfl ?_
  rintro _ _ ⟨p2, C3, rfl, rfl, o3⟩
  refine ow_det .none (stp_assign rfl) rfl ?_
  refine ow_nil ?_
  refine kw_nx ?_
  refine cw_seq ?_
  refine cw_seq ?_
  refine cw_region ?_
  refine ow_det .none (stp_assign rfl) rfl ?_
  refine ow_nil ?_
  refine kw_nx ?_
  obtain ⟨o0_0, eo0_0, H0⟩ := bind_some H0
  refine cw_join (ι := (List F) × Int × Res) (fun | (v4, v6, C5) => o0_0 = .out (v4, v6) ∧ x1 = (v4).length ∧ OwnC (α := F) 53 p2 x1 v4 C5) (fun | (v4, v6, C5) => [(0, .slice p0_0 ((a0).length) c0_0), (3, .slice p2 x1 x1), (4, .int .i64 v6)]) (fun | (v4, v6, C5) => [(0, C5)]) ?_ ?_
  · refine cw_block ?_
    refine cw_loopS (ι := Nat × (List F) × Int × Res) (js := [0]) (fun x => x.1) (fun | (fuel, v4, v6, C5) => l_toFrameS_L0 fl a0 fuel v4 v6 = some o0_0 ∧ x1 = (v4).length ∧ OwnC (α := F) 53 p2 x1 v4 C5) (fun | (_, v4, v6, C5) => [(0, .slice p0_0 ((a0).length) c0_0), (3, .slice p2 x1 x1), (4, .int .i64 v6)]) (fun | (_, v4, v6, C5) => [(0, C5)]) (fl, (List.replicate x1 (⟨false, (⟨0, 0⟩ : K), 0, 0⟩ : F)), 0, C3) ⟨eo0_0, (by simp), o3⟩ ⟨rfl, rfl, rfl, trivial⟩ ⟨0, [], rfl, rfl, trivial⟩ (by decide) ?_
    rintro ⟨fuel, v4, v6, C5⟩ ⟨H1, hl5, o5⟩
    have H1 : l_toFrameS_L0 fl a0 fuel v4 v6 = some o0_0 := H1
    rcases fuel with _ | fuel
    · rw [l_toFrameS_L0.eq_1] at H1; cases H1
    rw [l_toFrameS_L0.eq_2] at H1
    refine CW.sub (s' := [(0, .slice p0_0 ((a0).length) c0_0), (3, .slice p2 x1 x1), (4, .int .i64 v6)]) (h' := [(0, C5)]) ?_ ⟨rfl, rfl, rfl, trivial⟩ ⟨rfl, trivial⟩
    refine cw_seq ?_
    refine cw_seq ?_
    refine cw_region ?_
    refine ow_det .none (stp_move rfl) rfl ?_
    refine ow_det .none (stp_move rfl) rfl ?_
    refine ow_det .none (stp_len Tryd.underlying39 rfl) rfl ?_
    refine ow_det .none (stp_lss rfl rfl) rfl ?_
    refine ow_nil ?_
    refine kw_nx ?_
    refine cw_cond rfl (fun h7 => ?_) (fun h7 => ?_)
    · have H1 := cond_t H1 h7
      refine cw_skip ?_
      refine kw_nx ?_
      refine cw_seq ?_
      refine cw_block ?_
      refine cw_region ?_
      refine ow_det .none (stp_move rfl) rfl ?_
      refine ow_det .none (stp_move rfl) rfl ?_
      refine ow_det .none (stp_move rfl) rfl ?_
      refine ow_det .none (stp_move rfl) rfl ?_
      obtain ⟨x8, e8, H1⟩ := bind_some H1
      refine ow_det .none (stp_indexAddr Tryd.underlying39 ts108 (by decide) rfl rfl rfl (Rdb.ro hr0_0) e8) rfl ?_
      refine ow_det .none (stp_loadN (us := [_, _, _, _, _]) ts108 rfl (Cells.el (Rdb.ro hr0_0) (by decide) e8 0 5 rfl)) rfl ?_
      obtain ⟨x9, e9, H1⟩ := bind_some H1
      refine ow_eff .none (stpU_call (fun i => 1 + i) cf89 (fun w hw => c_l_toFrame fl w x8 x9 e9) (sevs_cons rfl sevs_nil)) rfl ?_
      rintro _ _ ⟨_, ⟨rfl, rfl⟩, rfl⟩
      obtain ⟨x10, e10, H1⟩ := bind_some H1
      refine ow_det .none (stp_indexAddr Tryd.underlying24 ts53 (by decide) rfl (by simp [hl5]) rfl (Rdb.own (id := 0) rfl o5) e10) rfl ?_
      refine ow_eff0 .none (stpU_storeEl (id := 0) (i := 0) x9 (by decide) ts53 rfl rfl rfl o5 e10 rfl rfl rfl rfl) ?_
      rintro _ _ ⟨C11, rfl, o11⟩
      refine ow_nil ?_
      refine kw_bl_normal ?_
      refine kw_nx ?_
      refine cw_region ?_
      refine ow_det .none (stp_move rfl) rfl ?_
      obtain ⟨x12, e12, H1⟩ := bind_some H1
      refine ow_det .none (stp_add rfl rfl e12) rfl ?_
      refine ow_det .none (stp_assign rfl) rfl ?_
      refine ow_nil ?_
      exact kw_lqS (js := [0]) (fuel, (v4.set (Int.toNat v6) x9), x12, C11) ⟨H1, (by simp [hl5]), o11⟩ (Nat.lt_succ_self _) ⟨rfl, rfl, rfl, trivial⟩ ⟨0, [], rfl, rfl, trivial⟩ (by decide)
    · have H1 := cond_f H1 h7
      refine cw_exit ?_
      refine kw_nx_exit ?_
      refine kw_lq_exit ?_
      refine kw_bl ?_
      have q1 := Option.some.inj H1
      subst q1
      exact kw_joinS (js := [0]) (v4, v6, C5) ⟨rfl, (by simp [hl5]), o5⟩ ⟨rfl, rfl, rfl, trivial⟩ ⟨0, [], rfl, rfl, trivial⟩ (by decide)
  · rintro ⟨v4, v6, C5⟩ ⟨rfl, hl5, o5⟩
    refine KW.sub (s' := [(0, .slice p0_0 ((a0).length) c0_0), (3, .slice p2 x1 x1), (4, .int .i64 v6)]) (h' := [(0, C5)]) ?_ ⟨rfl, rfl, rfl, trivial⟩ ⟨rfl, trivial⟩
    refine kw_nx ?_
    refine cw_seq ?_
    refine cw_region ?_
    refine ow_det .none (stp_move rfl) rfl ?_
    refine ow_det .none (stp_assign rfl) rfl ?_
    refine ow_nil ?_
    refine kw_nx ?_
    refine cw_ret ?_
    have q0 := Option.some.inj H0
    subst q0
    exact kw_ret Tryd.results59 (.cons (.tmp rfl) .nil) [(0, C5)] [0] ⟨0, [], rfl, rfl, trivial⟩ (by decide) ⟨p2, x1, x1, C5, rfl, rfl, (by simp [hl5]), o5⟩

set_option maxHeartbeats 4000000 in
set_option maxRecDepth 20000 in
theorem c_l_toTable (fl : Nat) (w : World) (a0 : T) (p0_0 : Option Addr) (n0_0 c0_0 : Nat) (p0_1 : Option Addr) (n0_1 c0_1 : Nat) (hn0_0 : n0_0 = (a0.b).length) (hr0_0 : RO w (hkeys []) (RdL p0_0 c0_0 a0.b)) (hn0_1 : n0_1 = (a0.f).length) (hr0_1 : RO w (hkeys []) (RdL p0_1 c0_1 a0.f)) (r : T) (H0 : l_toTable fl a0 = some r) :
    Ct Tryd.prog 21 [.agg #[.slice p0_0 n0_0 c0_0, .slice p0_1 n0_1 c0_1]] w [] (fun rv h' => ∃ (x0 : Option Addr) (y0 z0 : Nat) (C0 : Res) (x1 : Option Addr) (y1 z1 : Nat) (C1 : Res), rv = .agg #[.slice x0 y0 z0, .slice x1 y1 z1] ∧ h' = [(0, C0), (1, C1)] ∧ y0 = (r.b).length ∧ OwnC 3 x0 z0 r.b C0 ∧ y1 = (r.f).length ∧ OwnC 53 x1 z1 r.f C1) := by
  obtain rfl := hn0_0
  obtain rfl := hn0_1
  unfold l_toTable at H0
  refine ct_of_cw Tryd.func21 rfl Tryd.ntmps21 rfl (Sat.refl _ _) ?_
  refine cw_seq ?_
  refine cw_region ?_
  refine ow_eff .none (stpU_box 0 rfl rfl) rfl ?_
  rintro _ _ ⟨b1, rfl, rfl⟩
  refine ow_eff .none (stpU_alloc 1 tz26 rfl) rfl ?_
  rintro _ _ ⟨b2, rfl, rfl⟩
  refine ow_nil ?_
  refine kw_nx ?_
  refine cw_seq ?_
  refine cw_region ?_
  refine ow_eff .none (stpU_alloc 2 tz26 rfl) rfl ?_
  rintro _ _ ⟨b3, rfl, rfl⟩
  refine ow_nil ?_
  refine kw_nx ?_
  refine cw_seq ?_
  refine cw_region ?_
  refine ow_det .none (stp_fieldAddr (j := 0) Tryd.underlying41 rfl ts23 rfl rfl rfl) rfl ?_
  refine ow_det .none (stp_load1 ts23 rfl (Cells.box (id := 0) rfl 1 rfl)) rfl ?_
  obtain ⟨x4, e4, H0⟩ := bind_some H0
  refine ow_eff .none (stpU_call (fun i => 3 + i) cf58 (fun w hw => c_l_toIntS fl w a0.b p0_0 ((a0.b).length) c0_0 rfl (RO.pass hr0_0 hw) x4 e4) (sevs_cons rfl sevs_nil)) rfl ?_
  rintro _ _ ⟨_, ⟨p5, n6, c7, C8, rfl, rfl, hnn6, o8⟩, rfl⟩
  obtain rfl := hnn6
  refine ow_det .none (stp_fieldAddr (j := 0) Tryd.underlying26 rfl ts23 rfl rfl rfl) rfl ?_
  refine ow_eff0 .none (stpU_store (id := 2) (cs' := [.slice p5 ((x4).length) c7, .slice none 0 0]) ts23 rfl rfl rfl rfl rfl rfl rfl) ?_
  rintro _ _ rfl
  refine ow_nil ?_
  refine kw_nx ?_
  refine cw_seq ?_
  refine cw_region ?_
  refine ow_det .none (stp_fieldAddr (j := 1) Tryd.underlying41 rfl ts39 rfl rfl rfl) rfl ?_
  refine ow_det .none (stp_load1 ts39 rfl (Cells.box (id := 0) rfl 1 rfl)) rfl ?_
  obtain ⟨x9, e9, H0⟩ := bind_some H0
  refine ow_eff .none (stpU_call (fun i => 4 + i) cf59 (fun w hw => c_l_toFrameS fl w a0.f p0_1 ((a0.f).length) c0_1 rfl (RO.pass hr0_1 hw) x9 e9) (sevs_cons rfl sevs_nil)) rfl ?_
  rintro _ _ ⟨_, ⟨p10, n11, c12, C13, rfl, rfl, hnn11, o13⟩, rfl⟩
  obtain rfl := hnn11
  refine ow_det .none (stp_fieldAddr (j := 1) Tryd.underlying26 rfl ts24 rfl rfl rfl) rfl ?_
  refine ow_eff0 .none (stpU_store (id := 2) (cs' := [.slice p5 ((x4).length) c7, .slice p10 ((x9).length) c12]) ts24 rfl rfl rfl rfl rfl rfl rfl) ?_
  rintro _ _ rfl
  refine ow_nil ?_
  refine kw_nx ?_
  refine cw_seq ?_
  refine cw_region ?_
  refine ow_det .none (stp_loadN (us := [_, _]) ts26 rfl (Cells.box (id := 2) rfl 2 rfl)) rfl ?_
  refine ow_eff0 .none (stpU_store (id := 1) (cs' := [.slice p5 ((x4).length) c7, .slice p10 ((x9).length) c12]) ts26 rfl rfl rfl rfl rfl rfl rfl) ?_
  rintro _ _ rfl
  refine ow_nil ?_
  refine kw_nx ?_
  refine cw_ret ?_
  have q0 := Option.some.inj H0
  subst q0
  exact kw_ret Tryd.results21 (.cons (.cellN (us := [_, _]) ts26 rfl (Cells.box (id := 1) rfl 2 rfl)) .nil) [(0, C8), (1, C13)] [3, 4] ⟨3, [4], rfl, rfl, 4, [], rfl, rfl, trivial⟩ (by decide) ⟨p5, ((x4).length), c7, C8, p10, ((x9).length), c12, C13, rfl, rfl, rfl, o8, rfl, o13⟩

set_option maxHeartbeats 4000000 in
set_option maxRecDepth 20000 in
theorem c_l_eqIntS (fl : Nat) (w : World) (a0 : (List Int)) (p0_0 : Option Addr) (n0_0 c0_0 : Nat) (a1 : (List Int)) (p1_0 : Option Addr) (n1_0 c1_0 : Nat) (hn0_0 : n0_0 = (a0).length) (hr0_0 : RO w (hkeys []) (RdL p0_0 c0_0 a0)) (hn1_0 : n1_0 = (a1).length) (hr1_0 : RO w (hkeys []) (RdL p1_0 c1_0 a1)) (r : Bool) (H0 : l_eqIntS fl a0 a1 = some r) :
    Ct Tryd.prog 60 [.slice p0_0 n0_0 c0_0, .slice p1_0 n1_0 c1_0] w [] (fun rv h' => rv = .bool r ∧ h' = []) := by
  obtain rfl := hn0_0
  obtain rfl := hn1_0
  unfold l_eqIntS at H0
  refine ct_of_cw Tryd.func60 rfl Tryd.ntmps60 rfl (Sat.refl _ _) ?_
  refine cw_seq ?_
  refine cw_region ?_
  refine ow_det .none (stp_assign rfl) rfl ?_
  refine ow_nil ?_
  refine kw_nx ?_
  refine cw_seq ?_
  refine cw_seq ?_
  refine cw_region ?_
  refine ow_det .none (stp_move rfl) rfl ?_
  refine ow_det .none (stp_len Tryd.underlying23 rfl) rfl ?_
  refine ow_det .none (stp_move rfl) rfl ?_
  refine ow_det .none (stp_len Tryd.underlying23 rfl) rfl ?_
  refine ow_det .none (stp_neq rfl rfl) rfl ?_
  refine ow_nil ?_
  refine kw_nx ?_
  refine cw_cond rfl (fun h1 => ?_) (fun h1 => ?_)
  · have H0 := cond_t H0 h1
    refine cw_seq ?_
    refine cw_region ?_
    refine ow_det .none (stp_assign rfl) rfl ?_
    refine ow_nil ?_
    refine kw_nx ?_
    refine cw_ret ?_
    refine kw_nx_ret ?_
    have q0 := Option.some.inj H0
    subst q0
    exact kw_ret Tryd.results60 (.cons (.tmp rfl) .nil) [] [] trivial (by decide) ⟨rfl, rfl⟩
  · have H0 := cond_f H0 h1
    refine cw_skip ?_
    refine kw_nx ?_
    refine cw_seq ?_
    refine cw_seq ?_
    refine cw_region ?_
    refine ow_det .none (stp_assign rfl) rfl ?_
    refine ow_nil ?_
    refine kw_nx ?_
    obtain ⟨o0_0, eo0_0, H0⟩ := bind_some H0
    refine cw_join (ι := Int) (fun | v2 => o0_0 = .out v2) (fun | v2 => [(0, .slice p0_0 ((a0).length) c0_0), (1, .slice p1_0 ((a1).length) c1_0), (5, .int .i64 v2)]) (fun | v2 => []) ?_ ?_
    · refine cw_block ?_
      refine cw_loopS (ι := Nat × Int) (js := []) (fun x => x.1) (fun | (fuel, v2) => l_eqIntS_L0 fl a0 a1 fuel v2 = some o0_0) (fun | (_, v2) => [(0, .slice p0_0 ((a0).length) c0_0), (1, .slice p1_0 ((a1).length) c1_0), (5, .int .i64 v2)]) (fun | (_, v2) => []) (fl, 0) eo0_0 ⟨rfl, rfl, rfl, trivial⟩ trivial (by decide) ?_
      rintro ⟨fuel, v2⟩ H1
      have H1 : l_eqIntS_L0 fl a0 a1 fuel v2 = some o0_0 := H1
      rcases fuel with _ | fuel
      · rw [l_eqIntS_L0.eq_1] at H1; cases H1
      rw [l_eqIntS_L0.eq_2] at H1
      refine CW.sub (s' := [(0, .slice p0_0 ((a0).length) c0_0), (1, .slice p1_0 ((a1).length) c1_0), (5, .int .i64 v2)]) (h' := []) ?_ ⟨rfl, rfl, rfl, trivial⟩ trivial
      refine cw_seq ?_
      refine cw_seq ?_
      refine cw_region ?_
      refine ow_det .none (stp_move rfl) rfl ?_
      refine ow_det .none (stp_move rfl) rfl ?_
      refine ow_det .none (stp_len Tryd.underlying23 rfl) rfl ?_
      refine ow_det .none (stp_lss rfl rfl) rfl ?_
      refine ow_nil ?_
      refine kw_nx ?_
      refine cw_cond rfl (fun h3 => ?_) (fun h3 => ?_)
      · have H1 := cond_t H1 h3
        refine cw_skip ?_
        refine kw_nx ?_
        refine cw_seq ?_
        refine cw_block ?_
        refine cw_seq ?_
        obtain ⟨x4, e4, H1⟩ := bind_some H1
        obtain ⟨x5, e5, H1⟩ := bind_some H1
        refine region_drawn { dst := fun i => match i with | 0 => some 17 | 1 => some 18 | 2 => some 19 | 3 => some 20 | 4 => some 21 | 5 => some 22 | 6 => some 23 | 7 => some 24 | 8 => some 25 | _ => none, pre := fun i => match i with | 2 => [0, 1] | 3 => [0, 1, 2] | 6 => [4, 5] | 7 => [4, 5, 6] | 8 => [0, 1, 2, 3, 4, 5, 6, 7] | _ => [], ids := fun i => match i with | _ => [], rs := fun i => match i with | 0 => [(0, none)] | 1 => [(5, none)] | 2 => [(17, some 0), (18, some 1)] | 3 => [(19, some 2)] | 4 => [(1, none)] | 5 => [(5, none)] | 6 => [(21, some 4), (22, some 5)] | 7 => [(23, some 6)] | 8 => [(20, some 3), (24, some 7)] | _ => [], rh := fun i => match i with | _ => [], V := fun i g => match i with | 0 => .slice p0_0 ((a0).length) c0_0 | 1 => .int .i64 v2 | 2 => .pointer (some ⟨eB p0_0, eO p0_0 + Int.toNat v2 * Enc.sz Int + 0, none⟩) | 3 => .int .i64 x4 | 4 => .slice p1_0 ((a1).length) c1_0 | 5 => .int .i64 v2 | 6 => .pointer (some ⟨eB p1_0, eO p1_0 + Int.toNat v2 * Enc.sz Int + 0, none⟩) | 7 => .int .i64 x5 | 8 => .bool (x4 != x5) | _ => undef, U := fun i g => match i with | _ => [], Φ := fun i x => match i with | _ => True } g_mixed [0, 1, 5] [] (by kernel_rfl) (by kernel_rfl) (by kernel_rfl) ⟨⟨⟨⟨⟨⟨⟨⟨⟨trivial, fun _ => ⟨rfl, rfl⟩⟩, fun _ => ⟨rfl, rfl⟩⟩, fun _ => ⟨rfl, rfl⟩⟩, fun _ => ⟨rfl, rfl⟩⟩, fun _ => ⟨rfl, rfl⟩⟩, fun _ => ⟨rfl, rfl⟩⟩, fun _ => ⟨rfl, rfl⟩⟩, fun _ => ⟨rfl, rfl⟩⟩, fun _ => ⟨rfl, rfl⟩⟩ ?_ ?_
        · refine ⟨⟨⟨⟨⟨⟨⟨⟨⟨trivial, ?_⟩, ?_⟩, ?_⟩, ?_⟩, ?_⟩, ?_⟩, ?_⟩, ?_⟩, ?_⟩
          · exact loc_det rfl rfl (fun _ => rfl) trivial (fun g hΦ s h hs hh => ⟨.none, (stp_move (sv hs 0 rfl))⟩)
          · exact loc_det rfl rfl (fun _ => rfl) trivial (fun g hΦ s h hs hh => ⟨.none, (stp_move (sv hs 5 rfl))⟩)
          · exact loc_det rfl rfl (fun _ => rfl) trivial (fun g hΦ s h hs hh => ⟨.none, (stp_indexAddr Tryd.underlying23 ts3 (by decide) (sv hs 17 rfl) rfl (sv hs 18 rfl) (Rdb.ro hr0_0) e4)⟩)
          · exact loc_det rfl rfl (fun _ => rfl) trivial (fun g hΦ s h hs hh => ⟨.none, (stp_load1 ts3 (sv hs 19 rfl) (Cells.el (Rdb.ro hr0_0) (by decide) e4 0 1 rfl))⟩)
          · exact loc_det rfl rfl (fun _ => rfl) trivial (fun g hΦ s h hs hh => ⟨.none, (stp_move (sv hs 1 rfl))⟩)
          · exact loc_det rfl rfl (fun _ => rfl) trivial (fun g hΦ s h hs hh => ⟨.none, (stp_move (sv hs 5 rfl))⟩)
          · exact loc_det rfl rfl (fun _ => rfl) trivial (fun g hΦ s h hs hh => ⟨.none, (stp_indexAddr Tryd.underlying23 ts3 (by decide) (sv hs 21 rfl) rfl (sv hs 22 rfl) (Rdb.ro hr1_0) e5)⟩)
          · exact loc_det rfl rfl (fun _ => rfl) trivial (fun g hΦ s h hs hh => ⟨.none, (stp_load1 ts3 (sv hs 23 rfl) (Cells.el (Rdb.ro hr1_0) (by decide) e5 0 1 rfl))⟩)
          · exact loc_det rfl rfl (fun _ => rfl) trivial (fun g hΦ s h hs hh => ⟨.none, (stp_neq (sv hs 20 rfl) (sv hs 24 rfl))⟩)
        · intro g hΦ
          refine KW.sub (s' := [(0, .slice p0_0 ((a0).length) c0_0), (1, .slice p1_0 ((a1).length) c1_0), (5, .int .i64 v2), (25, .bool (x4 != x5))]) (h' := []) ?_ ⟨rfl, rfl, rfl, rfl, trivial⟩ trivial
          refine kw_nx ?_
          refine cw_cond rfl (fun h6 => ?_) (fun h6 => ?_)
          · have H1 := cond_t H1 h6
            refine cw_seq ?_
            refine cw_region ?_
            refine ow_det .none (stp_assign rfl) rfl ?_
            refine ow_nil ?_
            refine kw_nx ?_
            refine cw_ret ?_
            refine kw_bl_ret ?_
            refine kw_nx_ret ?_
            refine kw_lq_ret ?_
            refine kw_bl_ret ?_
            refine kw_join_ret ?_
            refine kw_nx_ret ?_
            have q1 := Option.some.inj H1
            subst q1
            have q0 := Option.some.inj H0
            subst q0
            exact kw_ret Tryd.results60 (.cons (.tmp rfl) .nil) [] [] trivial (by decide) ⟨rfl, rfl⟩
          · have H1 := cond_f H1 h6
            refine cw_skip ?_
            refine kw_bl_normal ?_
            refine kw_nx ?_
            refine cw_region ?_
            refine ow_det .none (stp_move rfl) rfl ?_
            obtain ⟨x7, e7, H1⟩ := bind_some H1
            refine ow_det .none (stp_add rfl rfl e7) rfl ?_
            refine ow_det .none (stp_assign rfl) rfl ?_
            refine ow_nil ?_
            exact kw_lqS (js := []) (fuel, x7) H1 (Nat.lt_succ_self _) ⟨rfl, rfl, rfl, trivial⟩ trivial (by decide)
      · have H1 := cond_f H1 h3
        refine cw_exit ?_
        refine kw_nx_exit ?_
        refine kw_lq_exit ?_
        refine kw_bl ?_
        have q1 := Option.some.inj H1
        subst q1
        exact kw_joinS (js := []) v2 rfl ⟨rfl, rfl, rfl, trivial⟩ trivial (by decide)
    · rintro v2 rfl
      refine KW.sub (s' := [(0, .slice p0_0 ((a0).length) c0_0), (1, .slice p1_0 ((a1).length) c1_0), (5, .int .i64 v2)]) (h' := []) ?_ ⟨rfl, rfl, rfl, trivial⟩ trivial
      refine kw_nx ?_
      refine cw_seq ?_
      refine cw_region ?_
      refine ow_det .none (stp_assign rfl) rfl ?_
      refine ow_nil ?_
      refine kw_nx ?_
      refine cw_ret ?_
      have q0 := Option.some.inj H0
      subst q0
      exact kw_ret Tryd.results60 (.cons (.tmp rfl) .nil) [] [] trivial (by decide) ⟨rfl, rfl⟩

set_option maxHeartbeats 4000000 in
set_option maxRecDepth 20000 in
theorem c_l_eqKey (fl : Nat) (w : World) (a0 : K) (a1 : K) (r : Bool) (H0 : l_eqKey fl a0 a1 = some r) :
    Ct Tryd.prog 95 [.agg #[.int .i64 a0.s, .int .i64 a0.p], .agg #[.int .i64 a1.s, .int .i64 a1.p]] w [] (fun rv h' => rv = .bool r ∧ h' = []) := by
  unfold l_eqKey at H0
  refine ct_of_cw Tryd.func95 rfl Tryd.ntmps95 rfl (Sat.refl _ _) ?_
  refine cw_seq ?_
  refine cw_region ?_
  refine ow_eff .none (stpU_box 0 rfl rfl) rfl ?_
  rintro _ _ ⟨b1, rfl, rfl⟩
  refine ow_eff .none (stpU_box 1 rfl rfl) rfl ?_
  rintro _ _ ⟨b2, rfl, rfl⟩
  refine ow_det .none (stp_assign rfl) rfl ?_
  refine ow_nil ?_
  refine kw_nx ?_
  refine cw_seq ?_
  refine cw_seq ?_
  refine cw_region ?_
  refine ow_det .none (stp_fieldAddr (j := 0) Tryd.underlying28 rfl ts3 rfl rfl rfl) rfl ?_
  refine ow_det .none (stp_load1 ts3 rfl (Cells.box (id := 0) rfl 1 rfl)) rfl ?_
  refine ow_det .none (stp_fieldAddr (j := 0) Tryd.underlying28 rfl ts3 rfl rfl rfl) rfl ?_
  refine ow_det .none (stp_load1 ts3 rfl (Cells.box (id := 1) rfl 1 rfl)) rfl ?_
  refine ow_det .none (stp_neq rfl rfl) rfl ?_
  refine ow_nil ?_
  refine kw_nx ?_
  refine cw_cond rfl (fun h3 => ?_) (fun h3 => ?_)
  · have H0 := cond_t H0 h3
    refine cw_seq ?_
    refine cw_region ?_
    refine ow_det .none (stp_assign rfl) rfl ?_
    refine ow_nil ?_
    refine kw_nx ?_
    refine cw_ret ?_
    refine kw_nx_ret ?_
    have q0 := Option.some.inj H0
    subst q0
    exact kw_ret Tryd.results95 (.cons (.tmp rfl) .nil) [] [] trivial (by decide) ⟨rfl, rfl⟩
  · have H0 := cond_f H0 h3
    refine cw_skip ?_
    refine kw_nx ?_
    refine cw_seq ?_
    refine cw_seq ?_
    refine cw_region ?_
    refine ow_det .none (stp_fieldAddr (j := 1) Tryd.underlying28 rfl ts3 rfl rfl rfl) rfl ?_
    refine ow_det .none (stp_load1 ts3 rfl (Cells.box (id := 0) rfl 1 rfl)) rfl ?_
    refine ow_det .none (stp_fieldAddr (j := 1) Tryd.underlying28 rfl ts3 rfl rfl rfl) rfl ?_
    refine ow_det .none (stp_load1 ts3 rfl (Cells.box (id := 1) rfl 1 rfl)) rfl ?_
    refine ow_det .none (stp_neq rfl rfl) rfl ?_
    refine ow_nil ?_
    refine kw_nx ?_
    refine cw_cond rfl (fun h4 => ?_) (fun h4 => ?_)
    · have H0 := cond_t H0 h4
      refine cw_seq ?_
      refine cw_region ?_
      refine ow_det .none (stp_assign rfl) rfl ?_
      refine ow_nil ?_
      refine kw_nx ?_
      refine cw_ret ?_
      refine kw_nx_ret ?_
      have q0 := Option.some.inj H0
      subst q0
      exact kw_ret Tryd.results95 (.cons (.tmp rfl) .nil) [] [] trivial (by decide) ⟨rfl, rfl⟩
    · have H0 := cond_f H0 h4
      refine cw_skip ?_
      refine kw_nx ?_
      refine cw_seq ?_
      refine cw_region ?_
      refine ow_det .none (stp_assign rfl) rfl ?_
      refine ow_nil ?_
      refine kw_nx ?_
      refine cw_ret ?_
      have q0 := Option.some.inj H0
      subst q0
      exact kw_ret Tryd.results95 (.cons (.tmp rfl) .nil) [] [] trivial (by decide) ⟨rfl, rfl⟩

set_option maxHeartbeats 4000000 in
set_option maxRecDepth 20000 in
theorem c_l_eqFrame (fl : Nat) (w : World) (a0 : F) (a1 : F) (r : Bool) (H0 : l_eqFrame fl a0 a1 = some r) :
    Ct Tryd.prog 90 [.agg #[.bool a0.u, .int .i64 a0.k.s, .int .i64 a0.k.p, .int .i64 a0.r, .int .i64 a0.nx], .agg #[.bool a1.u, .int .i64 a1.k.s, .int .i64 a1.k.p, .int .i64 a1.r, .int .i64 a1.nx]] w [] (fun rv h' => rv = .bool r ∧ h' = []) := by
  unfold l_eqFrame at H0
  refine ct_of_cw Tryd.func90 rfl Tryd.ntmps90 rfl (Sat.refl _ _) ?_
  refine cw_seq ?_
  refine cw_region ?_
  refine ow_eff .none (stpU_box 0 rfl rfl) rfl ?_
  rintro _ _ ⟨b1, rfl, rfl⟩
  refine ow_eff .none (stpU_box 1 rfl rfl) rfl ?_
  rintro _ _ ⟨b2, rfl, rfl⟩
  refine ow_det .none (stp_assign rfl) rfl ?_
  refine ow_nil ?_
  refine kw_nx ?_
  refine cw_seq ?_
  refine cw_seq ?_
  refine cw_region ?_
  refine ow_det .none (stp_fieldAddr (j := 0) Tryd.underlying53 rfl ts4 rfl rfl rfl) rfl ?_
  refine ow_det .none (stp_load1 ts4 rfl (Cells.box (id := 0) rfl 1 rfl)) rfl ?_
  refine ow_det .none (stp_fieldAddr (j := 0) Tryd.underlying53 rfl ts4 rfl rfl rfl) rfl ?_
  refine ow_det .none (stp_load1 ts4 rfl (Cells.box (id := 1) rfl 1 rfl)) rfl ?_
  refine ow_det .none (stp_neqB Tryd.underlying4 rfl rfl) rfl ?_
  refine ow_nil ?_
  refine kw_nx ?_
  refine cw_cond rfl (fun h3 => ?_) (fun h3 => ?_)
  · have H0 := cond_t H0 h3
    refine cw_seq ?_
    refine cw_region ?_
    refine ow_det .none (stp_assign rfl) rfl ?_
    refine ow_nil ?_
    refine kw_nx ?_
    refine cw_ret ?_
    refine kw_nx_ret ?_
    have q0 := Option.some.inj H0
    subst q0
    exact kw_ret Tryd.results90 (.cons (.tmp rfl) .nil) [] [] trivial (by decide) ⟨rfl, rfl⟩
  · have H0 := cond_f H0 h3
    refine cw_skip ?_
    refine kw_nx ?_
    refine cw_seq ?_
    refine cw_seq ?_
    refine cw_region ?_
    refine ow_det .none (stp_fieldAddr (j := 1) Tryd.underlying53 rfl ts28 rfl rfl rfl) rfl ?_
    refine ow_det .none (stp_loadN (us := [_, _]) ts28 rfl (Cells.box (id := 0) rfl 2 rfl)) rfl ?_
    refine ow_det .none (stp_fieldAddr (j := 1) Tryd.underlying53 rfl ts28 rfl rfl rfl) rfl ?_
    refine ow_det .none (stp_loadN (us := [_, _]) ts28 rfl (Cells.box (id := 1) rfl 2 rfl)) rfl ?_
    obtain ⟨x4, e4, H0⟩ := bind_some H0
    refine ow_eff .none (stpU_call (fun i => 2 + i) cf95 (fun w hw => c_l_eqKey fl w a0.k a1.k x4 e4) (sevs_cons rfl (sevs_cons rfl sevs_nil))) rfl ?_
    rintro _ _ ⟨_, ⟨rfl, rfl⟩, rfl⟩
    refine ow_det .none (stp_not rfl) rfl ?_
    refine ow_nil ?_
    refine kw_nx ?_
    refine cw_cond rfl (fun h5 => ?_) (fun h5 => ?_)
    · have H0 := cond_t H0 h5
      refine cw_seq ?_
      refine cw_region ?_
      refine ow_det .none (stp_assign rfl) rfl ?_
      refine ow_nil ?_
      refine kw_nx ?_
      refine cw_ret ?_
      refine kw_nx_ret ?_
      have q0 := Option.some.inj H0
      subst q0
      exact kw_ret Tryd.results90 (.cons (.tmp rfl) .nil) [] [] trivial (by decide) ⟨rfl, rfl⟩
    · have H0 := cond_f H0 h5
      refine cw_skip ?_
      refine kw_nx ?_
      refine cw_seq ?_
      refine cw_seq ?_
      refine cw_region ?_
      refine ow_det .none (stp_fieldAddr (j := 3) Tryd.underlying53 rfl ts3 rfl rfl rfl) rfl ?_
      refine ow_det .none (stp_load1 ts3 rfl (Cells.box (id := 0) rfl 1 rfl)) rfl ?_
      refine ow_det .none (stp_fieldAddr (j := 3) Tryd.underlying53 rfl ts3 rfl rfl rfl) rfl ?_
      refine ow_det .none (stp_load1 ts3 rfl (Cells.box (id := 1) rfl 1 rfl)) rfl ?_
      refine ow_det .none (stp_neq rfl rfl) rfl ?_
      refine ow_nil ?_
      refine kw_nx ?_
      refine cw_cond rfl (fun h6 => ?_) (fun h6 => ?_)
      · have H0 := cond_t H0 h6
        refine cw_seq ?_
        refine cw_region ?_
        refine ow_det .none (stp_assign rfl) rfl ?_
        refine ow_nil ?_
        refine kw_nx ?_
        refine cw_ret ?_
        refine kw_nx_ret ?_
        have q0 := Option.some.inj H0
        subst q0
        exact kw_ret Tryd.results90 (.cons (.tmp rfl) .nil) [] [] trivial (by decide) ⟨rfl, rfl⟩
      · have H0 := cond_f H0 h6
        refine cw_skip ?_
        refine kw_nx ?_
        refine cw_seq ?_
        refine cw_seq ?_
        refine cw_region ?_
        refine ow_det .none (stp_fieldAddr (j := 4) Tryd.underlying53 rfl ts3 rfl rfl rfl) rfl ?_
        refine ow_det .none (stp_load1 ts3 rfl (Cells.box (id := 0) rfl 1 rfl)) rfl ?_
        refine ow_det .none (stp_fieldAddr (j := 4) Tryd.underlying53 rfl ts3 rfl rfl rfl) rfl ?_
        refine ow_det .none (stp_load1 ts3 rfl (Cells.box (id := 1) rfl 1 rfl)) rfl ?_
        refine ow_det .none (stp_neq rfl rfl) rfl ?_
        refine ow_nil ?_
        refine kw_nx ?_
        refine cw_cond rfl (fun h7 => ?_) (fun h7 => ?_)
        · have H0 := cond_t H0 h7
          refine cw_seq ?_
          refine cw_region ?_
          refine ow_det .none (stp_assign rfl) rfl ?_
          refine ow_nil ?_
          refine kw_nx ?_
          refine cw_ret ?_
          refine kw_nx_ret ?_
          have q0 := Option.some.inj H0
          subst q0
          exact kw_ret Tryd.results90 (.cons (.tmp rfl) .nil) [] [] trivial (by decide) ⟨rfl, rfl⟩
        · have H0 := cond_f H0 h7
          refine cw_skip ?_
          refine kw_nx ?_
          refine cw_seq ?_
          refine cw_region ?_
          refine ow_det .none (stp_assign rfl) rfl ?_
          refine ow_nil ?_
          refine kw_nx ?_
          refine cw_ret ?_
          have q0 := Option.some.inj H0
          subst q0
          exact kw_ret Tryd.results90 (.cons (.tmp rfl) .nil) [] [] trivial (by decide) ⟨rfl, rfl⟩

set_option maxHeartbeats 4000000 in
set_option maxRecDepth 20000 in
theorem c_l_eqFrameS (fl : Nat) (w : World) (a0 : (List F)) (p0_0 : Option Addr) (n0_0 c0_0 : Nat) (a1 : (List F)) (p1_0 : Option Addr) (n1_0 c1_0 : Nat) (hn0_0 : n0_0 = (a0).length) (hr0_0 : RO w (hkeys []) (RdL p0_0 c0_0 a0)) (hn1_0 : n1_0 = (a1).length) (hr1_0 : RO w (hkeys []) (RdL p1_0 c1_0 a1)) (r : Bool) (H0 : l_eqFrameS fl a0 a1 = some r) :
    Ct Tryd.prog 61 [.slice p0_0 n0_0 c0_0, .slice p1_0 n1_0 c1_0] w [] (fun rv h' => rv = .bool r ∧ h' = []) := by
  obtain rfl := hn0_0
  obtain rfl := hn1_0
  unfold l_eqFrameS at H0
  refine ct_of_cw Tryd.func61 rfl Tryd.ntmps61 rfl (Sat.refl _ _) ?_
  refine cw_seq ?_
  refine cw_region ?_
  refine ow_det .none (stp_assign rfl) rfl ?_
  refine ow_nil ?_
  refine kw_nx ?_
  refine cw_seq ?_
  refine cw_seq ?_
  refine cw_region ?_
  refine ow_det .none (stp_move rfl) rfl ?_
  refine ow_det .none (stp_len Tryd.underlying24 rfl) rfl ?_
  refine ow_det .none (stp_move rfl) rfl ?_
  refine ow_det .none (stp_len Tryd.underlying24 rfl) rfl ?_
  refine ow_det .none (stp_neq rfl rfl) rfl ?_
  refine ow_nil ?_
  refine kw_nx ?_
  refine cw_cond rfl (fun h1 => ?_) (fun h1 => ?_)
  · have H0 := cond_t H0 h1
    refine cw_seq ?_
    refine cw_region ?_
    refine ow_det .none (stp_assign rfl) rfl ?_
    refine ow_nil ?_
    refine kw_nx ?_
    refine cw_ret ?_
    refine kw_nx_ret ?_
    have q0 := Option.some.inj H0
    subst q0
    exact kw_ret Tryd.results61 (.cons (.tmp rfl) .nil) [] [] trivial (by decide) ⟨rfl, rfl⟩
  · have H0 := cond_f H0 h1
    refine cw_skip ?_
    refine kw_nx ?_
    refine cw_seq ?_
    refine cw_seq ?_
    refine cw_region ?_
    refine ow_det .none (stp_assign rfl) rfl ?_
    refine ow_nil ?_
    refine kw_nx ?_
    obtain ⟨o0_0, eo0_0, H0⟩ := bind_some H0
    refine cw_join (ι := Int) (fun | v2 => o0_0 = .out v2) (fun | v2 => [(0, .slice p0_0 ((a0).length) c0_0), (1, .slice p1_0 ((a1).length) c1_0), (5, .int .i64 v2)]) (fun | v2 => []) ?_ ?_
    · refine cw_block ?_
      refine cw_loopS (ι := Nat × Int) (js := []) (fun x => x.1) (fun | (fuel, v2) => l_eqFrameS_L0 fl a0 a1 fuel v2 = some o0_0) (fun | (_, v2) => [(0, .slice p0_0 ((a0).length) c0_0), (1, .slice p1_0 ((a1).length) c1_0), (5, .int .i64 v2)]) (fun | (_, v2) => []) (fl, 0) eo0_0 ⟨rfl, rfl, rfl, trivial⟩ trivial (by decide) ?_
      rintro ⟨fuel, v2⟩ H1
      have H1 : l_eqFrameS_L0 fl a0 a1 fuel v2 = some o0_0 := H1
      rcases fuel with _ | fuel
      · rw [l_eqFrameS_L0.eq_1] at H1; cases H1
      rw [l_eqFrameS_L0.eq_2] at H1
      refine CW.sub (s' := [(0, .slice p0_0 ((a0).length) c0_0), (1, .slice p1_0 ((a1).length) c1_0), (5, .int .i64 v2)]) (h' := []) ?_ ⟨rfl, rfl, rfl, trivial⟩ trivial
      refine cw_seq ?_
      refine cw_seq ?_
      refine cw_region ?_
      refine ow_det .none (stp_move rfl) rfl ?_
      refine ow_det .none (stp_move rfl) rfl ?_
      refine ow_det .none (stp_len Tryd.underlying24 rfl) rfl ?_
      refine ow_det .none (stp_lss rfl rfl) rfl ?_
      refine ow_nil ?_
      refine kw_nx ?_
      refine cw_cond rfl (fun h3 => ?_) (fun h3 => ?_)
      · have H1 := cond_t H1 h3
        refine cw_skip ?_
        refine kw_nx ?_
        refine cw_seq ?_
        refine cw_block ?_
        refine cw_seq ?_
        obtain ⟨x4, e4, H1⟩ := bind_some H1
        obtain ⟨x5, e5, H1⟩ := bind_some H1
        obtain ⟨x6, e6, H1⟩ := bind_some H1
        refine region_drawn { dst := fun i => match i with | 0 => some 17 | 1 => some 18 | 2 => some 19 | 3 => some 20 | 4 => some 21 | 5 => some 22 | 6 => some 23 | 7 => some 24 | 8 => some 25 | 9 => some 26 | _ => none, pre := fun i => match i with | 2 => [0, 1] | 3 => [0, 1, 2] | 6 => [4, 5] | 7 => [4, 5, 6] | 8 => [0, 1, 2, 3, 4, 5, 6, 7] | 9 => [0, 1, 2, 3, 4, 5, 6, 7, 8] | _ => [], ids := fun i => match i with | _ => [], rs := fun i => match i with | 0 => [(0, none)] | 1 => [(5, none)] | 2 => [(17, some 0), (18, some 1)] | 3 => [(19, some 2)] | 4 => [(1, none)] | 5 => [(5, none)] | 6 => [(21, some 4), (22, some 5)] | 7 => [(23, some 6)] | 8 => [(20, some 3), (24, some 7)] | 9 => [(25, some 8)] | _ => [], rh := fun i => match i with | _ => [], V := fun i g => match i with | 0 => .slice p0_0 ((a0).length) c0_0 | 1 => .int .i64 v2 | 2 => .pointer (some ⟨eB p0_0, eO p0_0 + Int.toNat v2 * Enc.sz F + 0, none⟩) | 3 => .agg #[.bool x4.u, .int .i64 x4.k.s, .int .i64 x4.k.p, .int .i64 x4.r, .int .i64 x4.nx] | 4 => .slice p1_0 ((a1).length) c1_0 | 5 => .int .i64 v2 | 6 => .pointer (some ⟨eB p1_0, eO p1_0 + Int.toNat v2 * Enc.sz F + 0, none⟩) | 7 => .agg #[.bool x5.u, .int .i64 x5.k.s, .int .i64 x5.k.p, .int .i64 x5.r, .int .i64 x5.nx] | 8 => .bool x6 | 9 => .bool (!x6) | _ => undef, U := fun i g => match i with | _ => [], Φ := fun i x => match i with | _ => True } g_mixed [0, 1, 5] [] (by kernel_rfl) (by kernel_rfl) (by kernel_rfl) ⟨⟨⟨⟨⟨⟨⟨⟨⟨⟨trivial, fun _ => ⟨rfl, rfl⟩⟩, fun _ => ⟨rfl, rfl⟩⟩, fun _ => ⟨rfl, rfl⟩⟩, fun _ => ⟨rfl, rfl⟩⟩, fun _ => ⟨rfl, rfl⟩⟩, fun _ => ⟨rfl, rfl⟩⟩, fun _ => ⟨rfl, rfl⟩⟩, fun _ => ⟨rfl, rfl⟩⟩, fun _ => ⟨rfl, rfl⟩⟩, fun _ => ⟨rfl, rfl⟩⟩ ?_ ?_
        · refine ⟨⟨⟨⟨⟨⟨⟨⟨⟨⟨trivial, ?_⟩, ?_⟩, ?_⟩, ?_⟩, ?_⟩, ?_⟩, ?_⟩, ?_⟩, ?_⟩, ?_⟩
          · exact loc_det rfl rfl (fun _ => rfl) trivial (fun g hΦ s h hs hh => ⟨.none, (stp_move (sv hs 0 rfl))⟩)
          · exact loc_det rfl rfl (fun _ => rfl) trivial (fun g hΦ s h hs hh => ⟨.none, (stp_move (sv hs 5 rfl))⟩)
          · exact loc_det rfl rfl (fun _ => rfl) trivial (fun g hΦ s h hs hh => ⟨.none, (stp_indexAddr Tryd.underlying24 ts53 (by decide) (sv hs 17 rfl) rfl (sv hs 18 rfl) (Rdb.ro hr0_0) e4)⟩)
          · exact loc_det rfl rfl (fun _ => rfl) trivial (fun g hΦ s h hs hh => ⟨.none, (stp_loadN (us := [_, _, _, _, _]) ts53 (sv hs 19 rfl) (Cells.el (Rdb.ro hr0_0) (by decide) e4 0 5 rfl))⟩)
          · exact loc_det rfl rfl (fun _ => rfl) trivial (fun g hΦ s h hs hh => ⟨.none, (stp_move (sv hs 1 rfl))⟩)
          · exact loc_det rfl rfl (fun _ => rfl) trivial (fun g hΦ s h hs hh => ⟨.none, (stp_move (sv hs 5 rfl))⟩)
          · exact loc_det rfl rfl (fun _ => rfl) trivial (fun g hΦ s h hs hh => ⟨.none, (stp_indexAddr Tryd.underlying24 ts53 (by decide) (sv hs 21 rfl) rfl (sv hs 22 rfl) (Rdb.ro hr1_0) e5)⟩)
          · exact loc_det rfl rfl (fun _ => rfl) trivial (fun g hΦ s h hs hh => ⟨.none, (stp_loadN (us := [_, _, _, _, _]) ts53 (sv hs 23 rfl) (Cells.el (Rdb.ro hr1_0) (by decide) e5 0 5 rfl))⟩)
          · refine loc_eff rfl rfl (fun g hΦ s h hs hh => ⟨.none, (stpU_call (fun i => 0 + i) cf90 (fun w hw => c_l_eqFrame fl w x4 x5 x6 e6) (sevs_cons (sv hs 20 rfl) (sevs_cons (sv hs 24 rfl) sevs_nil)))⟩) ?_
            rintro g _ _ ⟨_, ⟨rfl, rfl⟩, rfl⟩
            exact ⟨⟨[], [], []⟩, trivial, .inr rfl, rfl⟩
          · exact loc_det rfl rfl (fun _ => rfl) trivial (fun g hΦ s h hs hh => ⟨.none, (stp_not (sv hs 25 rfl))⟩)
        · intro g hΦ
          refine KW.sub (s' := [(0, .slice p0_0 ((a0).length) c0_0), (1, .slice p1_0 ((a1).length) c1_0), (5, .int .i64 v2), (26, .bool (!x6))]) (h' := []) ?_ ⟨rfl, rfl, rfl, rfl, trivial⟩ trivial
          refine kw_nx ?_
          refine cw_cond rfl (fun h7 => ?_) (fun h7 => ?_)
          · have H1 := cond_t H1 h7
            refine cw_seq ?_
            refine cw_region ?_
            refine ow_det .none (stp_assign rfl) rfl ?_
            refine ow_nil ?_
            refine kw_nx ?_
            refine cw_ret ?_
            refine kw_bl_ret ?_
            refine kw_nx_ret ?_
            refine kw_lq_ret ?_
            refine kw_bl_ret ?_
            refine kw_join_ret ?_
            refine kw_nx_ret ?_
            have q1 := Option.some.inj H1
            subst q1
            have q0 := Option.some.inj H0
            subst q0
            exact kw_ret Tryd.results61 (.cons (.tmp rfl) .nil) [] [] trivial (by decide) ⟨rfl, rfl⟩
          · have H1 := cond_f H1 h7
            refine cw_skip ?_
            refine kw_bl_normal ?_
            refine kw_nx ?_
            refine cw_region ?_
            refine ow_det .none (stp_move rfl) rfl ?_
            obtain ⟨x8, e8, H1⟩ := bind_some H1
            refine ow_det .none (stp_add rfl rfl e8) rfl ?_
            refine ow_det .none (stp_assign rfl) rfl ?_
            refine ow_nil ?_
            exact kw_lqS (js := []) (fuel, x8) H1 (Nat.lt_succ_self _) ⟨rfl, rfl, rfl, trivial⟩ trivial (by decide)
      · have H1 := cond_f H1 h3
        refine cw_exit ?_
        refine kw_nx_exit ?_
        refine kw_lq_exit ?_
        refine kw_bl ?_
        have q1 := Option.some.inj H1
        subst q1
        exact kw_joinS (js := []) v2 rfl ⟨rfl, rfl, rfl, trivial⟩ trivial (by decide)
    · rintro v2 rfl
      refine KW.sub (s' := [(0, .slice p0_0 ((a0).length) c0_0), (1, .slice p1_0 ((a1).length) c1_0), (5, .int .i64 v2)]) (h' := []) ?_ ⟨rfl, rfl, rfl, trivial⟩ trivial
      refine kw_nx ?_
      refine cw_seq ?_
      refine cw_region ?_
      refine ow_det .none (stp_assign rfl) rfl ?_
      refine ow_nil ?_
      refine kw_nx ?_
      refine cw_ret ?_
      have q0 := Option.some.inj H0
      subst q0
      exact kw_ret Tryd.results61 (.cons (.tmp rfl) .nil) [] [] trivial (by decide) ⟨rfl, rfl⟩

set_option maxHeartbeats 4000000 in
set_option maxRecDepth 20000 in
theorem c_l_eqTable (fl : Nat) (w : World) (a0 : T) (p0_0 : Option Addr) (n0_0 c0_0 : Nat) (p0_1 : Option Addr) (n0_1 c0_1 : Nat) (a1 : T) (p1_0 : Option Addr) (n1_0 c1_0 : Nat) (p1_1 : Option Addr) (n1_1 c1_1 : Nat) (hn0_0 : n0_0 = (a0.b).length) (hr0_0 : RO w (hkeys []) (RdL p0_0 c0_0 a0.b)) (hn0_1 : n0_1 = (a0.f).length) (hr0_1 : RO w (hkeys []) (RdL p0_1 c0_1 a0.f)) (hn1_0 : n1_0 = (a1.b).length) (hr1_0 : RO w (hkeys []) (RdL p1_0 c1_0 a1.b)) (hn1_1 : n1_1 = (a1.f).length) (hr1_1 : RO w (hkeys []) (RdL p1_1 c1_1 a1.f)) (r : Bool) (H0 : l_eqTable fl a0 a1 = some r) :
    Ct Tryd.prog 24 [.agg #[.slice p0_0 n0_0 c0_0, .slice p0_1 n0_1 c0_1], .agg #[.slice p1_0 n1_0 c1_0, .slice p1_1 n1_1 c1_1]] w [] (fun rv h' => rv = .bool r ∧ h' = []) := by
  obtain rfl := hn0_0
  obtain rfl := hn0_1
  obtain rfl := hn1_0
  obtain rfl := hn1_1
  unfold l_eqTable at H0
  refine ct_of_cw Tryd.func24 rfl Tryd.ntmps24 rfl (Sat.refl _ _) ?_
  refine cw_seq ?_
  refine cw_region ?_
  refine ow_eff .none (stpU_box 0 rfl rfl) rfl ?_
  rintro _ _ ⟨b1, rfl, rfl⟩
  refine ow_eff .none (stpU_box 1 rfl rfl) rfl ?_
  rintro _ _ ⟨b2, rfl, rfl⟩
  refine ow_det .none (stp_assign rfl) rfl ?_
  refine ow_nil ?_
  refine kw_nx ?_
  refine cw_seq ?_
  refine cw_seq ?_
  refine cw_region ?_
  refine ow_det .none (stp_fieldAddr (j := 0) Tryd.underlying26 rfl ts23 rfl rfl rfl) rfl ?_
  refine ow_det .none (stp_load1 ts23 rfl (Cells.box (id := 0) rfl 1 rfl)) rfl ?_
  refine ow_det .none (stp_fieldAddr (j := 0) Tryd.underlying26 rfl ts23 rfl rfl rfl) rfl ?_
  refine ow_det .none (stp_load1 ts23 rfl (Cells.box (id := 1) rfl 1 rfl)) rfl ?_
  obtain ⟨x3, e3, H0⟩ := bind_some H0
  refine ow_eff .none (stpU_call (fun i => 2 + i) cf60 (fun w hw => c_l_eqIntS fl w a0.b p0_0 ((a0.b).length) c0_0 a1.b p1_0 ((a1.b).length) c1_0 rfl (RO.pass hr0_0 hw) rfl (RO.pass hr1_0 hw) x3 e3) (sevs_cons rfl (sevs_cons rfl sevs_nil))) rfl ?_
  rintro _ _ ⟨_, ⟨rfl, rfl⟩, rfl⟩
  refine ow_det .none (stp_not rfl) rfl ?_
  refine ow_nil ?_
  refine kw_nx ?_
  refine cw_cond rfl (fun h4 => ?_) (fun h4 => ?_)
  · have H0 := cond_t H0 h4
    refine cw_seq ?_
    refine cw_region ?_
    refine ow_det .none (stp_assign rfl) rfl ?_
    refine ow_nil ?_
    refine kw_nx ?_
    refine cw_ret ?_
    refine kw_nx_ret ?_
    have q0 := Option.some.inj H0
    subst q0
    exact kw_ret Tryd.results24 (.cons (.tmp rfl) .nil) [] [] trivial (by decide) ⟨rfl, rfl⟩
  · have H0 := cond_f H0 h4
    refine cw_skip ?_
    refine kw_nx ?_
    refine cw_seq ?_
    refine cw_seq ?_
    refine cw_region ?_
    refine ow_det .none (stp_fieldAddr (j := 1) Tryd.underlying26 rfl ts24 rfl rfl rfl) rfl ?_
    refine ow_det .none (stp_load1 ts24 rfl (Cells.box (id := 0) rfl 1 rfl)) rfl ?_
    refine ow_det .none (stp_fieldAddr (j := 1) Tryd.underlying26 rfl ts24 rfl rfl rfl) rfl ?_
    refine ow_det .none (stp_load1 ts24 rfl (Cells.box (id := 1) rfl 1 rfl)) rfl ?_
    obtain ⟨x5, e5, H0⟩ := bind_some H0
    refine ow_eff .none (stpU_call (fun i => 2 + i) cf61 (fun w hw => c_l_eqFrameS fl w a0.f p0_1 ((a0.f).length) c0_1 a1.f p1_1 ((a1.f).length) c1_1 rfl (RO.pass hr0_1 hw) rfl (RO.pass hr1_1 hw) x5 e5) (sevs_cons rfl (sevs_cons rfl sevs_nil))) rfl ?_
    rintro _ _ ⟨_, ⟨rfl, rfl⟩, rfl⟩
    refine ow_det .none (stp_not rfl) rfl ?_
    refine ow_nil ?_
    refine kw_nx ?_
    refine cw_cond rfl (fun h6 => ?_) (fun h6 => ?_)
    · have H0 := cond_t H0 h6
      refine cw_seq ?_
      refine cw_region ?_
      refine ow_det .none (stp_assign rfl) rfl ?_
      refine ow_nil ?_
      refine kw_nx ?_
      refine cw_ret ?_
      refine kw_nx_ret ?_
      have q0 := Option.some.inj H0
      subst q0
      exact kw_ret Tryd.results24 (.cons (.tmp rfl) .nil) [] [] trivial (by decide) ⟨rfl, rfl⟩
    · have H0 := cond_f H0 h6
      refine cw_skip ?_
      refine kw_nx ?_
      refine cw_seq ?_
      refine cw_region ?_
      refine ow_det .none (stp_assign rfl) rfl ?_
      refine ow_nil ?_
      refine kw_nx ?_
      refine cw_ret ?_
      have q0 := Option.some.inj H0
      subst q0
      exact kw_ret Tryd.results24 (.cons (.tmp rfl) .nil) [] [] trivial (by decide) ⟨rfl, rfl⟩

set_option maxHeartbeats 4000000 in
set_option maxRecDepth 20000 in
theorem c_l_markIntS (fl : Nat) (w : World) (a0 : (List Int)) (p0_0 : Option Addr) (n0_0 c0_0 : Nat) (C0_0 : Res) (a1 : Int) (hn0_0 : n0_0 = (a0).length) (ho0_0 : OwnC (α := Int) 3 p0_0 c0_0 a0 C0_0) (hM : Sat w (hkeys [(0, C0_0)]) w [(0, C0_0)]) (r : Int × (List Int)) (H0 : l_markIntS fl a0 a1 = some r) :
    Ct Tryd.prog 62 [.slice p0_0 n0_0 c0_0, .int .i64 a1] w [(0, C0_0)] (fun rv h' => ∃ (D0 : Res), rv = .int .i64 r.1 ∧ h' = [(0, D0)] ∧ n0_0 = (r.2).length ∧ OwnC (α := Int) 3 p0_0 c0_0 r.2 D0) := by
  obtain rfl := hn0_0
  unfold l_markIntS at H0
  refine ct_of_cw Tryd.func62 rfl Tryd.ntmps62 rfl hM ?_
  refine cw_seq ?_
  refine cw_region ?_
  refine ow_det .none (stp_assign rfl) rfl ?_
  refine ow_nil ?_
  refine kw_nx ?_
  refine cw_seq ?_
  refine cw_seq ?_
  refine cw_region ?_
  refine ow_det .none (stp_assign rfl) rfl ?_
  refine ow_nil ?_
  refine kw_nx ?_
  obtain ⟨o0_0, eo0_0, H0⟩ := bind_some H0
  refine cw_join (ι := (List Int) × Int × Int × Res) (fun | (v1, v3, v4, C2) => o0_0 = .out (v1, v3, v4) ∧ (a0).length = (v1).length ∧ OwnC (α := Int) 3 p0_0 c0_0 v1 C2) (fun | (v1, v3, v4, C2) => [(0, .slice p0_0 ((a0).length) c0_0), (1, .int .i64 v3), (5, .int .i64 v4)]) (fun | (v1, v3, v4, C2) => [(0, C2)]) ?_ ?_
  · refine cw_block ?_
    refine cw_loopS (ι := Nat × (List Int) × Int × Int × Res) (js := [0]) (fun x => x.1) (fun | (fuel, v1, v3, v4, C2) => l_markIntS_L0 fl a0 fuel v1 v3 v4 = some o0_0 ∧ (a0).length = (v1).length ∧ OwnC (α := Int) 3 p0_0 c0_0 v1 C2) (fun | (_, v1, v3, v4, C2) => [(0, .slice p0_0 ((a0).length) c0_0), (1, .int .i64 v3), (5, .int .i64 v4)]) (fun | (_, v1, v3, v4, C2) => [(0, C2)]) (fl, a0, a1, 0, C0_0) ⟨eo0_0, rfl, ho0_0⟩ ⟨rfl, rfl, rfl, trivial⟩ ⟨0, [], rfl, rfl, trivial⟩ (by decide) ?_
    rintro ⟨fuel, v1, v3, v4, C2⟩ ⟨H1, hl2, o2⟩
    have H1 : l_markIntS_L0 fl a0 fuel v1 v3 v4 = some o0_0 := H1
    rcases fuel with _ | fuel
    · rw [l_markIntS_L0.eq_1] at H1; cases H1
    rw [l_markIntS_L0.eq_2] at H1
    refine CW.sub (s' := [(0, .slice p0_0 ((a0).length) c0_0), (1, .int .i64 v3), (5, .int .i64 v4)]) (h' := [(0, C2)]) ?_ ⟨rfl, rfl, rfl, trivial⟩ ⟨rfl, trivial⟩
    refine cw_seq ?_
    refine cw_seq ?_
    refine cw_region ?_
    refine ow_det .none (stp_move rfl) rfl ?_
    refine ow_det .none (stp_move rfl) rfl ?_
    refine ow_det .none (stp_len Tryd.underlying23 rfl) rfl ?_
    refine ow_det .none (stp_lss rfl rfl) rfl ?_
    refine ow_nil ?_
    refine kw_nx ?_
    refine cw_cond rfl (fun h5 => ?_) (fun h5 => ?_)
    · have H1 := cond_t H1 h5
      refine cw_skip ?_
      refine kw_nx ?_
      refine cw_seq ?_
      refine cw_block ?_
      refine cw_seq ?_
      refine cw_region ?_
      refine ow_det .none (stp_move rfl) rfl ?_
      refine ow_det .none (stp_move rfl) rfl ?_
      refine ow_det .none (stp_move rfl) rfl ?_
      obtain ⟨x6, e6, H1⟩ := bind_some H1
      refine ow_det .none (stp_indexAddr Tryd.underlying23 ts3 (by decide) rfl (by simp [hl2]) rfl (Rdb.own (id := 0) rfl o2) e6) rfl ?_
      refine ow_eff0 .none (stpU_storeEl (id := 0) (i := 0) v3 (by decide) ts3 rfl rfl rfl o2 e6 rfl rfl rfl rfl) ?_
      rintro _ _ ⟨C7, rfl, o7⟩
      refine ow_nil ?_
      refine kw_nx ?_
      refine cw_region ?_
      refine ow_det .none (stp_move rfl) rfl ?_
      obtain ⟨x8, e8, H1⟩ := bind_some H1
      refine ow_det .none (stp_add rfl rfl e8) rfl ?_
      refine ow_det .none (stp_assign rfl) rfl ?_
      refine ow_nil ?_
      refine kw_bl_normal ?_
      refine kw_nx ?_
      refine cw_region ?_
      refine ow_det .none (stp_move rfl) rfl ?_
      obtain ⟨x9, e9, H1⟩ := bind_some H1
      refine ow_det .none (stp_add rfl rfl e9) rfl ?_
      refine ow_det .none (stp_assign rfl) rfl ?_
      refine ow_nil ?_
      exact kw_lqS (js := [0]) (fuel, (v1.set (Int.toNat v4) v3), x8, x9, C7) ⟨H1, (by simp [hl2]), o7⟩ (Nat.lt_succ_self _) ⟨rfl, rfl, rfl, trivial⟩ ⟨0, [], rfl, rfl, trivial⟩ (by decide)
    · have H1 := cond_f H1 h5
      refine cw_exit ?_
      refine kw_nx_exit ?_
      refine kw_lq_exit ?_
      refine kw_bl ?_
      have q1 := Option.some.inj H1
      subst q1
      exact kw_joinS (js := [0]) (v1, v3, v4, C2) ⟨rfl, (by simp [hl2]), o2⟩ ⟨rfl, rfl, rfl, trivial⟩ ⟨0, [], rfl, rfl, trivial⟩ (by decide)
  · rintro ⟨v1, v3, v4, C2⟩ ⟨rfl, hl2, o2⟩
    refine KW.sub (s' := [(0, .slice p0_0 ((a0).length) c0_0), (1, .int .i64 v3), (5, .int .i64 v4)]) (h' := [(0, C2)]) ?_ ⟨rfl, rfl, rfl, trivial⟩ ⟨rfl, trivial⟩
    refine kw_nx ?_
    refine cw_seq ?_
    refine cw_region ?_
    refine ow_det .none (stp_move rfl) rfl ?_
    refine ow_det .none (stp_assign rfl) rfl ?_
    refine ow_nil ?_
    refine kw_nx ?_
    refine cw_ret ?_
    have q0 := Option.some.inj H0
    subst q0
    exact kw_ret Tryd.results62 (.cons (.tmp rfl) .nil) [(0, C2)] [0] ⟨0, [], rfl, rfl, trivial⟩ (by decide) ⟨C2, rfl, rfl, (by simp [hl2]), o2⟩

set_option maxHeartbeats 4000000 in
set_option maxRecDepth 20000 in
theorem c_l_markFrameS (fl : Nat) (w : World) (a0 : (List F)) (p0_0 : Option Addr) (n0_0 c0_0 : Nat) (C0_0 : Res) (a1 : Int) (hn0_0 : n0_0 = (a0).length) (ho0_0 : OwnC (α := F) 53 p0_0 c0_0 a0 C0_0) (hM : Sat w (hkeys [(0, C0_0)]) w [(0, C0_0)]) (r : Int × (List F)) (H0 : l_markFrameS fl a0 a1 = some r) :
    Ct Tryd.prog 63 [.slice p0_0 n0_0 c0_0, .int .i64 a1] w [(0, C0_0)] (fun rv h' => ∃ (D0 : Res), rv = .int .i64 r.1 ∧ h' = [(0, D0)] ∧ n0_0 = (r.2).length ∧ OwnC (α := F) 53 p0_0 c0_0 r.2 D0) := by
  obtain rfl := hn0_0
  unfold l_markFrameS at H0
  refine ct_of_cw Tryd.func63 rfl Tryd.ntmps63 rfl hM ?_
  refine cw_seq ?_
  refine cw_region ?_
  refine ow_det .none (stp_assign rfl) rfl ?_
  refine ow_nil ?_
  refine kw_nx ?_
  refine cw_seq ?_
  refine cw_seq ?_
  refine cw_region ?_
  refine ow_det .none (stp_assign rfl) rfl ?_
  refine ow_nil ?_
  refine kw_nx ?_
  obtain ⟨o0_0, eo0_0, H0⟩ := bind_some H0
  refine cw_join (ι := (List F) × Int × Int × Res) (fun | (v1, v3, v4, C2) => o0_0 = .out (v1, v3, v4) ∧ (a0).length = (v1).length ∧ OwnC (α := F) 53 p0_0 c0_0 v1 C2) (fun | (v1, v3, v4, C2) => [(0, .slice p0_0 ((a0).length) c0_0), (1, .int .i64 v3), (5, .int .i64 v4)]) (fun | (v1, v3, v4, C2) => [(0, C2)]) ?_ ?_
  · refine cw_block ?_
    refine cw_loopS (ι := Nat × (List F) × Int × Int × Res) (js := [0]) (fun x => x.1) (fun | (fuel, v1, v3, v4, C2) => l_markFrameS_L0 fl a0 fuel v1 v3 v4 = some o0_0 ∧ (a0).length = (v1).length ∧ OwnC (α := F) 53 p0_0 c0_0 v1 C2) (fun | (_, v1, v3, v4, C2) => [(0, .slice p0_0 ((a0).length) c0_0), (1, .int .i64 v3), (5, .int .i64 v4)]) (fun | (_, v1, v3, v4, C2) => [(0, C2)]) (fl, a0, a1, 0, C0_0) ⟨eo0_0, rfl, ho0_0⟩ ⟨rfl, rfl, rfl, trivial⟩ ⟨0, [], rfl, rfl, trivial⟩ (by decide) ?_
    rintro ⟨fuel, v1, v3, v4, C2⟩ ⟨H1, hl2, o2⟩
    have H1 : l_markFrameS_L0 fl a0 fuel v1 v3 v4 = some o0_0 := H1
    rcases fuel with _ | fuel
    · rw [l_markFrameS_L0.eq_1] at H1; cases H1
    rw [l_markFrameS_L0.eq_2] at H1
    refine CW.sub (s' := [(0, .slice p0_0 ((a0).length) c0_0), (1, .int .i64 v3), (5, .int .i64 v4)]) (h' := [(0, C2)]) ?_ ⟨rfl, rfl, rfl, trivial⟩ ⟨rfl, trivial⟩
    refine cw_seq ?_
    refine cw_seq ?_
    refine cw_region ?_
    refine ow_det .none (stp_move rfl) rfl ?_
    refine ow_det .none (stp_move rfl) rfl ?_
    refine ow_det .none (stp_len Tryd.underlying24 rfl) rfl ?_
    refine ow_det .none (stp_lss rfl rfl) rfl ?_
    refine ow_nil ?_
    refine kw_nx ?_
    refine cw_cond rfl (fun h5 => ?_) (fun h5 => ?_)
    · have H1 := cond_t H1 h5
      refine cw_skip ?_
      refine kw_nx ?_
      refine cw_seq ?_
      refine cw_block ?_
      refine cw_seq ?_
      refine cw_region ?_
      refine ow_det .none (stp_move rfl) rfl ?_
      refine ow_det .none (stp_move rfl) rfl ?_
      refine ow_det .none (stp_move rfl) rfl ?_
      obtain ⟨x6, e6, H1⟩ := bind_some H1
      refine ow_det .none (stp_rem rfl rfl e6) rfl ?_
      refine ow_det .none (stp_eql rfl rfl) rfl ?_
      obtain ⟨x7, e7, H1⟩ := bind_some H1
      refine ow_det .none (stp_indexAddr Tryd.underlying24 ts53 (by decide) rfl (by simp [hl2]) rfl (Rdb.own (id := 0) rfl o2) e7) rfl ?_
      refine ow_det .none (stp_fieldAddr (j := 0) Tryd.underlying53 rfl ts4 rfl rfl rfl) rfl ?_
      refine ow_eff0 .none (stpU_storeEl (id := 0) (i := 0) (⟨(x6 == 0), x7.k, x7.r, x7.nx⟩ : F) (by decide) ts4 rfl rfl rfl o2 e7 rfl rfl rfl rfl) ?_
      rintro _ _ ⟨C8, rfl, o8⟩
      refine ow_nil ?_
      refine kw_nx ?_
      refine cw_seq ?_
      refine cw_region ?_
      refine ow_det .none (stp_move rfl) rfl ?_
      obtain ⟨x9, e9, H1⟩ := bind_some H1
      refine ow_det .none (stp_add rfl rfl e9) rfl ?_
      refine ow_det .none (stp_assign rfl) rfl ?_
      refine ow_nil ?_
      refine kw_nx ?_
      refine cw_seq ?_
      refine cw_region ?_
      refine ow_det .none (stp_move rfl) rfl ?_
      refine ow_det .none (stp_move rfl) rfl ?_
      refine ow_det .none (stp_move rfl) rfl ?_
      obtain ⟨x10, e10, H1⟩ := bind_some H1
      refine ow_det .none (stp_indexAddr Tryd.underlying24 ts53 (by decide) rfl (by simp [hl2]) rfl (Rdb.own (id := 0) rfl o8) e10) rfl ?_
      refine ow_det .none (stp_fieldAddr (j := 1) Tryd.underlying53 rfl ts28 rfl rfl rfl) rfl ?_
      refine ow_det .none (stp_fieldAddr (j := 0) Tryd.underlying28 rfl ts3 rfl rfl rfl) rfl ?_
      refine ow_eff0 .none (stpU_storeEl (id := 0) (i := 1) (⟨x10.u, (⟨x9, x10.k.p⟩ : K), x10.r, x10.nx⟩ : F) (by decide) ts3 rfl rfl rfl o8 e10 rfl rfl rfl rfl) ?_
      rintro _ _ ⟨C11, rfl, o11⟩
      refine ow_nil ?_
      refine kw_nx ?_
      refine cw_seq ?_
      refine cw_region ?_
      refine ow_det .none (stp_move rfl) rfl ?_
      obtain ⟨x12, e12, H1⟩ := bind_some H1
      refine ow_det .none (stp_add rfl rfl e12) rfl ?_
      refine ow_det .none (stp_assign rfl) rfl ?_
      refine ow_nil ?_
      refine kw_nx ?_
      refine cw_seq ?_
      refine cw_region ?_
      refine ow_det .none (stp_move rfl) rfl ?_
      refine ow_det .none (stp_move rfl) rfl ?_
      refine ow_det .none (stp_move rfl) rfl ?_
      obtain ⟨x13, e13, H1⟩ := bind_some H1
      refine ow_det .none (stp_indexAddr Tryd.underlying24 ts53 (by decide) rfl (by simp [hl2]) rfl (Rdb.own (id := 0) rfl o11) e13) rfl ?_
      refine ow_det .none (stp_fieldAddr (j := 1) Tryd.underlying53 rfl ts28 rfl rfl rfl) rfl ?_
      refine ow_det .none (stp_fieldAddr (j := 1) Tryd.underlying28 rfl ts3 rfl rfl rfl) rfl ?_
      refine ow_eff0 .none (stpU_storeEl (id := 0) (i := 2) (⟨x13.u, (⟨x13.k.s, x12⟩ : K), x13.r, x13.nx⟩ : F) (by decide) ts3 rfl rfl rfl o11 e13 rfl rfl rfl rfl) ?_
      rintro _ _ ⟨C14, rfl, o14⟩
      refine ow_nil ?_
      refine kw_nx ?_
      refine cw_seq ?_
      refine cw_region ?_
      refine ow_det .none (stp_move rfl) rfl ?_
      obtain ⟨x15, e15, H1⟩ := bind_some H1
      refine ow_det .none (stp_add rfl rfl e15) rfl ?_
      refine ow_det .none (stp_assign rfl) rfl ?_
      refine ow_nil ?_
      refine kw_nx ?_
      refine cw_seq ?_
      refine cw_region ?_
      refine ow_det .none (stp_move rfl) rfl ?_
      refine ow_det .none (stp_move rfl) rfl ?_
      refine ow_det .none (stp_move rfl) rfl ?_
      obtain ⟨x16, e16, H1⟩ := bind_some H1
      refine ow_det .none (stp_indexAddr Tryd.underlying24 ts53 (by decide) rfl (by simp [hl2]) rfl (Rdb.own (id := 0) rfl o14) e16) rfl ?_
      refine ow_det .none (stp_fieldAddr (j := 3) Tryd.underlying53 rfl ts3 rfl rfl rfl) rfl ?_
      refine ow_eff0 .none (stpU_storeEl (id := 0) (i := 3) (⟨x16.u, x16.k, x15, x16.nx⟩ : F) (by decide) ts3 rfl rfl rfl o14 e16 rfl rfl rfl rfl) ?_
      rintro _ _ ⟨C17, rfl, o17⟩
      refine ow_nil ?_
      refine kw_nx ?_
      refine cw_seq ?_
      refine cw_region ?_
      refine ow_det .none (stp_move rfl) rfl ?_
      obtain ⟨x18, e18, H1⟩ := bind_some H1
      refine ow_det .none (stp_add rfl rfl e18) rfl ?_
      refine ow_det .none (stp_assign rfl) rfl ?_
      refine ow_nil ?_
      refine kw_nx ?_
      refine cw_seq ?_
      refine cw_region ?_
      refine ow_det .none (stp_move rfl) rfl ?_
      refine ow_det .none (stp_move rfl) rfl ?_
      refine ow_det .none (stp_move rfl) rfl ?_
      obtain ⟨x19, e19, H1⟩ := bind_some H1
      refine ow_det .none (stp_indexAddr Tryd.underlying24 ts53 (by decide) rfl (by simp [hl2]) rfl (Rdb.own (id := 0) rfl o17) e19) rfl ?_
      refine ow_det .none (stp_fieldAddr (j := 4) Tryd.underlying53 rfl ts3 rfl rfl rfl) rfl ?_
      refine ow_eff0 .none (stpU_storeEl (id := 0) (i := 4) (⟨x19.u, x19.k, x19.r, x18⟩ : F) (by decide) ts3 rfl rfl rfl o17 e19 rfl rfl rfl rfl) ?_
      rintro _ _ ⟨C20, rfl, o20⟩
      refine ow_nil ?_
      refine kw_nx ?_
      refine cw_region ?_
      refine ow_det .none (stp_move rfl) rfl ?_
      obtain ⟨x21, e21, H1⟩ := bind_some H1
      refine ow_det .none (stp_add rfl rfl e21) rfl ?_
      refine ow_det .none (stp_assign rfl) rfl ?_
      refine ow_nil ?_
      refine kw_bl_normal ?_
      refine kw_nx ?_
      refine cw_region ?_
      refine ow_det .none (stp_move rfl) rfl ?_
      obtain ⟨x22, e22, H1⟩ := bind_some H1
      refine ow_det .none (stp_add rfl rfl e22) rfl ?_
      refine ow_det .none (stp_assign rfl) rfl ?_
      refine ow_nil ?_
      exact kw_lqS (js := [0]) (fuel, (((((v1.set (Int.toNat v4) (⟨(x6 == 0), x7.k, x7.r, x7.nx⟩ : F)).set (Int.toNat v4) (⟨x10.u, (⟨x9, x10.k.p⟩ : K), x10.r, x10.nx⟩ : F)).set (Int.toNat v4) (⟨x13.u, (⟨x13.k.s, x12⟩ : K), x13.r, x13.nx⟩ : F)).set (Int.toNat v4) (⟨x16.u, x16.k, x15, x16.nx⟩ : F)).set (Int.toNat v4) (⟨x19.u, x19.k, x19.r, x18⟩ : F)), x21, x22, C20) ⟨H1, (by simp [hl2]), o20⟩ (Nat.lt_succ_self _) ⟨rfl, rfl, rfl, trivial⟩ ⟨0, [], rfl, rfl, trivial⟩ (by decide)
    · have H1 := cond_f H1 h5
      refine cw_exit ?_
      refine kw_nx_exit ?_
      refine kw_lq_exit ?_
      refine kw_bl ?_
      have q1 := Option.some.inj H1
      subst q1
      exact kw_joinS (js := [0]) (v1, v3, v4, C2) ⟨rfl, (by simp [hl2]), o2⟩ ⟨rfl, rfl, rfl, trivial⟩ ⟨0, [], rfl, rfl, trivial⟩ (by decide)
  · rintro ⟨v1, v3, v4, C2⟩ ⟨rfl, hl2, o2⟩
    refine KW.sub (s' := [(0, .slice p0_0 ((a0).length) c0_0), (1, .int .i64 v3), (5, .int .i64 v4)]) (h' := [(0, C2)]) ?_ ⟨rfl, rfl, rfl, trivial⟩ ⟨rfl, trivial⟩
    refine kw_nx ?_
    refine cw_seq ?_
    refine cw_region ?_
    refine ow_det .none (stp_move rfl) rfl ?_
    refine ow_det .none (stp_assign rfl) rfl ?_
    refine ow_nil ?_
    refine kw_nx ?_
    refine cw_ret ?_
    have q0 := Option.some.inj H0
    subst q0
    exact kw_ret Tryd.results63 (.cons (.tmp rfl) .nil) [(0, C2)] [0] ⟨0, [], rfl, rfl, trivial⟩ (by decide) ⟨C2, rfl, rfl, (by simp [hl2]), o2⟩

set_option maxHeartbeats 4000000 in
set_option maxRecDepth 20000 in
theorem c_l_markTable (fl : Nat) (w : World) (a0 : T) (p0_0 : Option Addr) (n0_0 c0_0 : Nat) (C0_0 : Res) (p0_1 : Option Addr) (n0_1 c0_1 : Nat) (C0_1 : Res) (a1 : Int) (hn0_0 : n0_0 = (a0.b).length) (ho0_0 : OwnC (α := Int) 3 p0_0 c0_0 a0.b C0_0) (hn0_1 : n0_1 = (a0.f).length) (ho0_1 : OwnC (α := F) 53 p0_1 c0_1 a0.f C0_1) (hM : Sat w (hkeys [(0, C0_0), (1, C0_1)]) w [(0, C0_0), (1, C0_1)]) (r : Int × (List Int) × (List F)) (H0 : l_markTable fl a0 a1 = some r) :
    Ct Tryd.prog 25 [.agg #[.slice p0_0 n0_0 c0_0, .slice p0_1 n0_1 c0_1], .int .i64 a1] w [(0, C0_0), (1, C0_1)] (fun rv h' => ∃ (D0 : Res) (D1 : Res), rv = .int .i64 r.1 ∧ h' = [(0, D0), (1, D1)] ∧ n0_0 = (r.2.1).length ∧ OwnC (α := Int) 3 p0_0 c0_0 r.2.1 D0 ∧ n0_1 = (r.2.2).length ∧ OwnC (α := F) 53 p0_1 c0_1 r.2.2 D1) := by
  obtain rfl := hn0_0
  obtain rfl := hn0_1
  unfold l_markTable at H0
  refine ct_of_cw Tryd.func25 rfl Tryd.ntmps25 rfl hM ?_
  refine cw_seq ?_
  refine cw_region ?_
  refine ow_eff .none (stpU_box 2 rfl rfl) rfl ?_
  rintro _ _ ⟨b1, rfl, rfl⟩
  refine ow_det .none (stp_assign rfl) rfl ?_
  refine ow_nil ?_
  refine kw_nx ?_
  refine cw_seq ?_
  refine cw_region ?_
  refine ow_det .none (stp_fieldAddr (j := 0) Tryd.underlying26 rfl ts23 rfl rfl rfl) rfl ?_
  refine ow_det .none (stp_load1 ts23 rfl (Cells.box (id := 2) rfl 1 rfl)) rfl ?_
  refine ow_det .none (stp_move rfl) rfl ?_
  obtain ⟨x2, e2, H0⟩ := bind_some H0
  refine ow_eff .none (stpU_callM (fun i => bif Nat.beq i 0 then 0 else 3 + i) cf62 (fun w hw hb => c_l_markIntS fl w a0.b p0_0 ((a0.b).length) c0_0 C0_0 a1 rfl ho0_0 (hw.pass (js := [0]) ⟨0, [], rfl, rfl, trivial⟩ (by decide)) x2 e2) (sevs_cons rfl (sevs_cons rfl sevs_nil)) ⟨rfl, (fun _ _ hp => by obtain ⟨_, _, rfl, _⟩ := hp; exact ⟨_, rfl⟩), trivial⟩) rfl ?_
  rintro _ _ ⟨_, ⟨C3, rfl, rfl, hl3, o3⟩, rfl⟩
  refine ow_det .none (stp_assign rfl) rfl ?_
  refine ow_nil ?_
  refine kw_nx ?_
  refine cw_seq ?_
  refine cw_region ?_
  refine ow_det .none (stp_fieldAddr (j := 1) Tryd.underlying26 rfl ts24 rfl rfl rfl) rfl ?_
  refine ow_det .none (stp_load1 ts24 rfl (Cells.box (id := 2) rfl 1 rfl)) rfl ?_
  refine ow_det .none (stp_move rfl) rfl ?_
  obtain ⟨x4, e4, H0⟩ := bind_some H0
  refine ow_eff .none (stpU_callM (fun i => bif Nat.beq i 0 then 1 else 4 + i) cf63 (fun w hw hb => c_l_markFrameS fl w a0.f p0_1 ((a0.f).length) c0_1 C0_1 x2.1 rfl ho0_1 (hw.pass (js := [1]) ⟨1, [], rfl, rfl, trivial⟩ (by decide)) x4 e4) (sevs_cons rfl (sevs_cons rfl sevs_nil)) ⟨rfl, (fun _ _ hp => by obtain ⟨_, _, rfl, _⟩ := hp; exact ⟨_, rfl⟩), trivial⟩) rfl ?_
  rintro _ _ ⟨_, ⟨C5, rfl, rfl, hl5, o5⟩, rfl⟩
  refine ow_det .none (stp_assign rfl) rfl ?_
  refine ow_nil ?_
  refine kw_nx ?_
  refine cw_seq ?_
  refine cw_region ?_
  refine ow_det .none (stp_move rfl) rfl ?_
  refine ow_det .none (stp_assign rfl) rfl ?_
  refine ow_nil ?_
  refine kw_nx ?_
  refine cw_ret ?_
  have q0 := Option.some.inj H0
  subst q0
  exact kw_ret Tryd.results25 (.cons (.tmp rfl) .nil) [(0, C3), (1, C5)] [0, 1] ⟨0, [1], rfl, rfl, 1, [], rfl, rfl, trivial⟩ (by decide) ⟨C3, C5, rfl, rfl, (by simp [hl3]), o3, (by simp [hl5]), o5⟩

set_option maxHeartbeats 4000000 in
set_option maxRecDepth 20000 in
theorem c_l_heldIntS (fl : Nat) (w : World) (a0 : (List Int)) (p0_0 : Option Addr) (n0_0 c0_0 : Nat) (a1 : Int) (hn0_0 : n0_0 = (a0).length) (hr0_0 : RO w (hkeys []) (RdL p0_0 c0_0 a0)) (r : Int) (H0 : l_heldIntS fl a0 a1 = some r) :
    Ct Tryd.prog 64 [.slice p0_0 n0_0 c0_0, .int .i64 a1] w [] (fun rv h' => rv = .int .i64 r ∧ h' = []) := by
  obtain rfl := hn0_0
  unfold l_heldIntS at H0
  refine ct_of_cw Tryd.func64 rfl Tryd.ntmps64 rfl (Sat.refl _ _) ?_
  refine cw_seq ?_
  refine cw_region ?_
  refine ow_det .none (stp_assign rfl) rfl ?_
  refine ow_nil ?_
  refine kw_nx ?_
  refine cw_seq ?_
  refine cw_seq ?_
  refine cw_region ?_
  refine ow_det .none (stp_assign rfl) rfl ?_
  refine ow_nil ?_
  refine kw_nx ?_
  obtain ⟨o0_0, eo0_0, H0⟩ := bind_some H0
  refine cw_join (ι := Int × Int) (fun | (v1, v2) => o0_0 = .out (v1, v2)) (fun | (v1, v2) => [(0, .slice p0_0 ((a0).length) c0_0), (1, .int .i64 v1), (5, .int .i64 v2)]) (fun | (v1, v2) => []) ?_ ?_
  · refine cw_block ?_
    refine cw_loopS (ι := Nat × Int × Int) (js := []) (fun x => x.1) (fun | (fuel, v1, v2) => l_heldIntS_L0 fl a0 fuel v1 v2 = some o0_0) (fun | (_, v1, v2) => [(0, .slice p0_0 ((a0).length) c0_0), (1, .int .i64 v1), (5, .int .i64 v2)]) (fun | (_, v1, v2) => []) (fl, a1, 0) eo0_0 ⟨rfl, rfl, rfl, trivial⟩ trivial (by decide) ?_
    rintro ⟨fuel, v1, v2⟩ H1
    have H1 : l_heldIntS_L0 fl a0 fuel v1 v2 = some o0_0 := H1
    rcases fuel with _ | fuel
    · rw [l_heldIntS_L0.eq_1] at H1; cases H1
    rw [l_heldIntS_L0.eq_2] at H1
    refine CW.sub (s' := [(0, .slice p0_0 ((a0).length) c0_0), (1, .int .i64 v1), (5, .int .i64 v2)]) (h' := []) ?_ ⟨rfl, rfl, rfl, trivial⟩ trivial
    refine cw_seq ?_
    refine cw_seq ?_
    refine cw_region ?_
    refine ow_det .none (stp_move rfl) rfl ?_
    refine ow_det .none (stp_move rfl) rfl ?_
    refine ow_det .none (stp_len Tryd.underlying23 rfl) rfl ?_
    refine ow_det .none (stp_lss rfl rfl) rfl ?_
    refine ow_nil ?_
    refine kw_nx ?_
    refine cw_cond rfl (fun h3 => ?_) (fun h3 => ?_)
    · have H1 := cond_t H1 h3
      refine cw_skip ?_
      refine kw_nx ?_
      refine cw_seq ?_
      refine cw_block ?_
      refine cw_seq ?_
      refine cw_seq ?_
      refine cw_region ?_
      refine ow_det .none (stp_move rfl) rfl ?_
      refine ow_det .none (stp_move rfl) rfl ?_
      obtain ⟨x4, e4, H1⟩ := bind_some H1
      refine ow_det .none (stp_indexAddr Tryd.underlying23 ts3 (by decide) rfl rfl rfl (Rdb.ro hr0_0) e4) rfl ?_
      refine ow_det .none (stp_load1 ts3 rfl (Cells.el (Rdb.ro hr0_0) (by decide) e4 0 1 rfl)) rfl ?_
      refine ow_det .none (stp_move rfl) rfl ?_
      refine ow_det .none (stp_neq rfl rfl) rfl ?_
      refine ow_nil ?_
      refine kw_nx ?_
      refine cw_cond rfl (fun h5 => ?_) (fun h5 => ?_)
      · have H1 := cond_t H1 h5
        refine cw_seq ?_
        refine cw_region ?_
        refine ow_det .none (stp_assign rfl) rfl ?_
        refine ow_nil ?_
        refine kw_nx ?_
        refine cw_ret ?_
        refine kw_nx_ret ?_
        refine kw_bl_ret ?_
        refine kw_nx_ret ?_
        refine kw_lq_ret ?_
        refine kw_bl_ret ?_
        refine kw_join_ret ?_
        refine kw_nx_ret ?_
        have q1 := Option.some.inj H1
        subst q1
        have q0 := Option.some.inj H0
        subst q0
        exact kw_ret Tryd.results64 (.cons (.tmp rfl) .nil) [] [] trivial (by decide) ⟨rfl, rfl⟩
      · have H1 := cond_f H1 h5
        refine cw_skip ?_
        refine kw_nx ?_
        refine cw_region ?_
        refine ow_det .none (stp_move rfl) rfl ?_
        obtain ⟨x6, e6, H1⟩ := bind_some H1
        refine ow_det .none (stp_add rfl rfl e6) rfl ?_
        refine ow_det .none (stp_assign rfl) rfl ?_
        refine ow_nil ?_
        refine kw_bl_normal ?_
        refine kw_nx ?_
        refine cw_region ?_
        refine ow_det .none (stp_move rfl) rfl ?_
        obtain ⟨x7, e7, H1⟩ := bind_some H1
        refine ow_det .none (stp_add rfl rfl e7) rfl ?_
        refine ow_det .none (stp_assign rfl) rfl ?_
        refine ow_nil ?_
        exact kw_lqS (js := []) (fuel, x6, x7) H1 (Nat.lt_succ_self _) ⟨rfl, rfl, rfl, trivial⟩ trivial (by decide)
    · have H1 := cond_f H1 h3
      refine cw_exit ?_
      refine kw_nx_exit ?_
      refine kw_lq_exit ?_
      refine kw_bl ?_
      have q1 := Option.some.inj H1
      subst q1
      exact kw_joinS (js := []) (v1, v2) rfl ⟨rfl, rfl, rfl, trivial⟩ trivial (by decide)
  · rintro ⟨v1, v2⟩ rfl
    refine KW.sub (s' := [(0, .slice p0_0 ((a0).length) c0_0), (1, .int .i64 v1), (5, .int .i64 v2)]) (h' := []) ?_ ⟨rfl, rfl, rfl, trivial⟩ trivial
    refine kw_nx ?_
    refine cw_seq ?_
    refine cw_region ?_
    refine ow_det .none (stp_move rfl) rfl ?_
    refine ow_det .none (stp_assign rfl) rfl ?_
    refine ow_nil ?_
    refine kw_nx ?_
    refine cw_ret ?_
    have q0 := Option.some.inj H0
    subst q0
    exact kw_ret Tryd.results64 (.cons (.tmp rfl) .nil) [] [] trivial (by decide) ⟨rfl, rfl⟩

set_option maxHeartbeats 4000000 in
set_option maxRecDepth 20000 in
theorem c_l_heldFrameS (fl : Nat) (w : World) (a0 : (List F)) (p0_0 : Option Addr) (n0_0 c0_0 : Nat) (a1 : Int) (hn0_0 : n0_0 = (a0).length) (hr0_0 : RO w (hkeys []) (RdL p0_0 c0_0 a0)) (r : Int) (H0 : l_heldFrameS fl a0 a1 = some r) :
    Ct Tryd.prog 65 [.slice p0_0 n0_0 c0_0, .int .i64 a1] w [] (fun rv h' => rv = .int .i64 r ∧ h' = []) := by
  obtain rfl := hn0_0
  unfold l_heldFrameS at H0
  refine ct_of_cw Tryd.func65 rfl Tryd.ntmps65 rfl (Sat.refl _ _) ?_
  refine cw_seq ?_
  refine cw_region ?_
  refine ow_det .none (stp_assign rfl) rfl ?_
  refine ow_nil ?_
  refine kw_nx ?_
  refine cw_seq ?_
  refine cw_seq ?_
  refine cw_region ?_
  refine ow_det .none (stp_assign rfl) rfl ?_
  refine ow_nil ?_
  refine kw_nx ?_
  obtain ⟨o0_0, eo0_0, H0⟩ := bind_some H0
  refine cw_join (ι := Int × Int) (fun | (v1, v2) => o0_0 = .out (v1, v2)) (fun | (v1, v2) => [(0, .slice p0_0 ((a0).length) c0_0), (1, .int .i64 v1), (5, .int .i64 v2)]) (fun | (v1, v2) => []) ?_ ?_
  · refine cw_block ?_
    refine cw_loopS (ι := Nat × Int × Int) (js := []) (fun x => x.1) (fun | (fuel, v1, v2) => l_heldFrameS_L0 fl a0 fuel v1 v2 = some o0_0) (fun | (_, v1, v2) => [(0, .slice p0_0 ((a0).length) c0_0), (1, .int .i64 v1), (5, .int .i64 v2)]) (fun | (_, v1, v2) => []) (fl, a1, 0) eo0_0 ⟨rfl, rfl, rfl, trivial⟩ trivial (by decide) ?_
    rintro ⟨fuel, v1, v2⟩ H1
    have H1 : l_heldFrameS_L0 fl a0 fuel v1 v2 = some o0_0 := H1
    rcases fuel with _ | fuel
    · rw [l_heldFrameS_L0.eq_1] at H1; cases H1
    rw [l_heldFrameS_L0.eq_2] at H1
    refine CW.sub (s' := [(0, .slice p0_0 ((a0).length) c0_0), (1, .int .i64 v1), (5, .int .i64 v2)]) (h' := []) ?_ ⟨rfl, rfl, rfl, trivial⟩ trivial
    refine cw_seq ?_
    refine cw_seq ?_
    refine cw_region ?_
    refine ow_det .none (stp_move rfl) rfl ?_
    refine ow_det .none (stp_move rfl) rfl ?_
    refine ow_det .none (stp_len Tryd.underlying24 rfl) rfl ?_
    refine ow_det .none (stp_lss rfl rfl) rfl ?_
    refine ow_nil ?_
    refine kw_nx ?_
    refine cw_cond rfl (fun h3 => ?_) (fun h3 => ?_)
    · have H1 := cond_t H1 h3
      refine cw_skip ?_
      refine kw_nx ?_
      refine cw_seq ?_
      refine cw_block ?_
      refine cw_seq ?_
      refine cw_seq ?_
      refine cw_region ?_
      refine ow_det .none (stp_move rfl) rfl ?_
      refine ow_det .none (stp_move rfl) rfl ?_
      obtain ⟨x4, e4, H1⟩ := bind_some H1
      refine ow_det .none (stp_indexAddr Tryd.underlying24 ts53 (by decide) rfl rfl rfl (Rdb.ro hr0_0) e4) rfl ?_
      refine ow_det .none (stp_fieldAddr (j := 0) Tryd.underlying53 rfl ts4 rfl rfl rfl) rfl ?_
      refine ow_det .none (stp_load1 ts4 rfl (Cells.el (Rdb.ro hr0_0) (by decide) e4 0 1 rfl)) rfl ?_
      refine ow_det .none (stp_move rfl) rfl ?_
      obtain ⟨x5, e5, H1⟩ := bind_some H1
      refine ow_det .none (stp_rem rfl rfl e5) rfl ?_
      refine ow_det .none (stp_eql rfl rfl) rfl ?_
      refine ow_det .none (stp_neqB Tryd.underlying4 rfl rfl) rfl ?_
      refine ow_nil ?_
      refine kw_nx ?_
      refine cw_cond rfl (fun h6 => ?_) (fun h6 => ?_)
      · have H1 := cond_t H1 h6
        refine cw_seq ?_
        refine cw_region ?_
        refine ow_det .none (stp_assign rfl) rfl ?_
        refine ow_nil ?_
        refine kw_nx ?_
        refine cw_ret ?_
        refine kw_nx_ret ?_
        refine kw_bl_ret ?_
        refine kw_nx_ret ?_
        refine kw_lq_ret ?_
        refine kw_bl_ret ?_
        refine kw_join_ret ?_
        refine kw_nx_ret ?_
        have q1 := Option.some.inj H1
        subst q1
        have q0 := Option.some.inj H0
        subst q0
        exact kw_ret Tryd.results65 (.cons (.tmp rfl) .nil) [] [] trivial (by decide) ⟨rfl, rfl⟩
      · have H1 := cond_f H1 h6
        refine cw_skip ?_
        refine kw_nx ?_
        refine cw_seq ?_
        refine cw_region ?_
        refine ow_det .none (stp_move rfl) rfl ?_
        obtain ⟨x7, e7, H1⟩ := bind_some H1
        refine ow_det .none (stp_add rfl rfl e7) rfl ?_
        refine ow_det .none (stp_assign rfl) rfl ?_
        refine ow_nil ?_
        refine kw_nx ?_
        refine cw_seq ?_
        refine cw_seq ?_
        refine cw_region ?_
        refine ow_det .none (stp_move rfl) rfl ?_
        refine ow_det .none (stp_move rfl) rfl ?_
        refine ow_det .none (stp_indexAddr Tryd.underlying24 ts53 (by decide) rfl rfl rfl (Rdb.ro hr0_0) e4) rfl ?_
        refine ow_det .none (stp_fieldAddr (j := 1) Tryd.underlying53 rfl ts28 rfl rfl rfl) rfl ?_
        refine ow_det .none (stp_fieldAddr (j := 0) Tryd.underlying28 rfl ts3 rfl rfl rfl) rfl ?_
        refine ow_det .none (stp_load1 ts3 rfl (Cells.el (Rdb.ro hr0_0) (by decide) e4 1 1 rfl)) rfl ?_
        refine ow_det .none (stp_move rfl) rfl ?_
        refine ow_det .none (stp_neq rfl rfl) rfl ?_
        refine ow_nil ?_
        refine kw_nx ?_
        refine cw_cond rfl (fun h8 => ?_) (fun h8 => ?_)
        · have H1 := cond_t H1 h8
          refine cw_seq ?_
          refine cw_region ?_
          refine ow_det .none (stp_assign rfl) rfl ?_
          refine ow_nil ?_
          refine kw_nx ?_
          refine cw_ret ?_
          refine kw_nx_ret ?_
          refine kw_bl_ret ?_
          refine kw_nx_ret ?_
          refine kw_lq_ret ?_
          refine kw_bl_ret ?_
          refine kw_join_ret ?_
          refine kw_nx_ret ?_
          have q1 := Option.some.inj H1
          subst q1
          have q0 := Option.some.inj H0
          subst q0
          exact kw_ret Tryd.results65 (.cons (.tmp rfl) .nil) [] [] trivial (by decide) ⟨rfl, rfl⟩
        · have H1 := cond_f H1 h8
          refine cw_skip ?_
          refine kw_nx ?_
          refine cw_seq ?_
          refine cw_region ?_
          refine ow_det .none (stp_move rfl) rfl ?_
          obtain ⟨x9, e9, H1⟩ := bind_some H1
          refine ow_det .none (stp_add rfl rfl e9) rfl ?_
          refine ow_det .none (stp_assign rfl) rfl ?_
          refine ow_nil ?_
          refine kw_nx ?_
          refine cw_seq ?_
          refine cw_seq ?_
          refine cw_region ?_
          refine ow_det .none (stp_move rfl) rfl ?_
          refine ow_det .none (stp_move rfl) rfl ?_
          refine ow_det .none (stp_indexAddr Tryd.underlying24 ts53 (by decide) rfl rfl rfl (Rdb.ro hr0_0) e4) rfl ?_
          refine ow_det .none (stp_fieldAddr (j := 1) Tryd.underlying53 rfl ts28 rfl rfl rfl) rfl ?_
          refine ow_det .none (stp_fieldAddr (j := 1) Tryd.underlying28 rfl ts3 rfl rfl rfl) rfl ?_
          refine ow_det .none (stp_load1 ts3 rfl (Cells.el (Rdb.ro hr0_0) (by decide) e4 2 1 rfl)) rfl ?_
          refine ow_det .none (stp_move rfl) rfl ?_
          refine ow_det .none (stp_neq rfl rfl) rfl ?_
          refine ow_nil ?_
          refine kw_nx ?_
          refine cw_cond rfl (fun h10 => ?_) (fun h10 => ?_)
          · have H1 := cond_t H1 h10
            refine cw_seq ?_
            refine cw_region ?_
            refine ow_det .none (stp_assign rfl) rfl ?_
            refine ow_nil ?_
            refine kw_nx ?_
            refine cw_ret ?_
            refine kw_nx_ret ?_
            refine kw_bl_ret ?_
            refine kw_nx_ret ?_
            refine kw_lq_ret ?_
            refine kw_bl_ret ?_
            refine kw_join_ret ?_
            refine kw_nx_ret ?_
            have q1 := Option.some.inj H1
            subst q1
            have q0 := Option.some.inj H0
            subst q0
            exact kw_ret Tryd.results65 (.cons (.tmp rfl) .nil) [] [] trivial (by decide) ⟨rfl, rfl⟩
          · have H1 := cond_f H1 h10
            refine cw_skip ?_
            refine kw_nx ?_
            refine cw_seq ?_
            refine cw_region ?_
            refine ow_det .none (stp_move rfl) rfl ?_
            obtain ⟨x11, e11, H1⟩ := bind_some H1
            refine ow_det .none (stp_add rfl rfl e11) rfl ?_
            refine ow_det .none (stp_assign rfl) rfl ?_
            refine ow_nil ?_
            refine kw_nx ?_
            refine cw_seq ?_
            refine cw_seq ?_
            refine cw_region ?_
            refine ow_det .none (stp_move rfl) rfl ?_
            refine ow_det .none (stp_move rfl) rfl ?_
            refine ow_det .none (stp_indexAddr Tryd.underlying24 ts53 (by decide) rfl rfl rfl (Rdb.ro hr0_0) e4) rfl ?_
            refine ow_det .none (stp_fieldAddr (j := 3) Tryd.underlying53 rfl ts3 rfl rfl rfl) rfl ?_
            refine ow_det .none (stp_load1 ts3 rfl (Cells.el (Rdb.ro hr0_0) (by decide) e4 3 1 rfl)) rfl ?_
            refine ow_det .none (stp_move rfl) rfl ?_
            refine ow_det .none (stp_neq rfl rfl) rfl ?_
            refine ow_nil ?_
            refine kw_nx ?_
            refine cw_cond rfl (fun h12 => ?_) (fun h12 => ?_)
            · have H1 := cond_t H1 h12
              refine cw_seq ?_
              refine cw_region ?_
              refine ow_det .none (stp_assign rfl) rfl ?_
              refine ow_nil ?_
              refine kw_nx ?_
              refine cw_ret ?_
              refine kw_nx_ret ?_
              refine kw_bl_ret ?_
              refine kw_nx_ret ?_
              refine kw_lq_ret ?_
              refine kw_bl_ret ?_
              refine kw_join_ret ?_
              refine kw_nx_ret ?_
              have q1 := Option.some.inj H1
              subst q1
              have q0 := Option.some.inj H0
              subst q0
              exact kw_ret Tryd.results65 (.cons (.tmp rfl) .nil) [] [] trivial (by decide) ⟨rfl, rfl⟩
            · have H1 := cond_f H1 h12
              refine cw_skip ?_
              refine kw_nx ?_
              refine cw_seq ?_
              refine cw_region ?_
              refine ow_det .none (stp_move rfl) rfl ?_
              obtain ⟨x13, e13, H1⟩ := bind_some H1
              refine ow_det .none (stp_add rfl rfl e13) rfl ?_
              refine ow_det .none (stp_assign rfl) rfl ?_
              refine ow_nil ?_
              refine kw_nx ?_
              refine cw_seq ?_
              refine cw_seq ?_
              refine cw_region ?_
              refine ow_det .none (stp_move rfl) rfl ?_
              refine ow_det .none (stp_move rfl) rfl ?_
              refine ow_det .none (stp_indexAddr Tryd.underlying24 ts53 (by decide) rfl rfl rfl (Rdb.ro hr0_0) e4) rfl ?_
              refine ow_det .none (stp_fieldAddr (j := 4) Tryd.underlying53 rfl ts3 rfl rfl rfl) rfl ?_
              refine ow_det .none (stp_load1 ts3 rfl (Cells.el (Rdb.ro hr0_0) (by decide) e4 4 1 rfl)) rfl ?_
              refine ow_det .none (stp_move rfl) rfl ?_
              refine ow_det .none (stp_neq rfl rfl) rfl ?_
              refine ow_nil ?_
              refine kw_nx ?_
              refine cw_cond rfl (fun h14 => ?_) (fun h14 => ?_)
              · have H1 := cond_t H1 h14
                refine cw_seq ?_
                refine cw_region ?_
                refine ow_det .none (stp_assign rfl) rfl ?_
                refine ow_nil ?_
                refine kw_nx ?_
                refine cw_ret ?_
                refine kw_nx_ret ?_
                refine kw_bl_ret ?_
                refine kw_nx_ret ?_
                refine kw_lq_ret ?_
                refine kw_bl_ret ?_
                refine kw_join_ret ?_
                refine kw_nx_ret ?_
                have q1 := Option.some.inj H1
                subst q1
                have q0 := Option.some.inj H0
                subst q0
                exact kw_ret Tryd.results65 (.cons (.tmp rfl) .nil) [] [] trivial (by decide) ⟨rfl, rfl⟩
              · have H1 := cond_f H1 h14
                refine cw_skip ?_
                refine kw_nx ?_
                refine cw_region ?_
                refine ow_det .none (stp_move rfl) rfl ?_
                obtain ⟨x15, e15, H1⟩ := bind_some H1
                refine ow_det .none (stp_add rfl rfl e15) rfl ?_
                refine ow_det .none (stp_assign rfl) rfl ?_
                refine ow_nil ?_
                refine kw_bl_normal ?_
                refine kw_nx ?_
                refine cw_region ?_
                refine ow_det .none (stp_move rfl) rfl ?_
                obtain ⟨x16, e16, H1⟩ := bind_some H1
                refine ow_det .none (stp_add rfl rfl e16) rfl ?_
                refine ow_det .none (stp_assign rfl) rfl ?_
                refine ow_nil ?_
                exact kw_lqS (js := []) (fuel, x15, x16) H1 (Nat.lt_succ_self _) ⟨rfl, rfl, rfl, trivial⟩ trivial (by decide)
    · have H1 := cond_f H1 h3
      refine cw_exit ?_
      refine kw_nx_exit ?_
      refine kw_lq_exit ?_
      refine kw_bl ?_
      have q1 := Option.some.inj H1
      subst q1
      exact kw_joinS (js := []) (v1, v2) rfl ⟨rfl, rfl, rfl, trivial⟩ trivial (by decide)
  · rintro ⟨v1, v2⟩ rfl
    refine KW.sub (s' := [(0, .slice p0_0 ((a0).length) c0_0), (1, .int .i64 v1), (5, .int .i64 v2)]) (h' := []) ?_ ⟨rfl, rfl, rfl, trivial⟩ trivial
    refine kw_nx ?_
    refine cw_seq ?_
    refine cw_region ?_
    refine ow_det .none (stp_move rfl) rfl ?_
    refine ow_det .none (stp_assign rfl) rfl ?_
    refine ow_nil ?_
    refine kw_nx ?_
    refine cw_ret ?_
    have q0 := Option.some.inj H0
    subst q0
    exact kw_ret Tryd.results65 (.cons (.tmp rfl) .nil) [] [] trivial (by decide) ⟨rfl, rfl⟩

set_option maxHeartbeats 4000000 in
set_option maxRecDepth 20000 in
theorem c_l_heldTable (fl : Nat) (w : World) (a0 : T) (p0_0 : Option Addr) (n0_0 c0_0 : Nat) (p0_1 : Option Addr) (n0_1 c0_1 : Nat) (a1 : Int) (hn0_0 : n0_0 = (a0.b).length) (hr0_0 : RO w (hkeys []) (RdL p0_0 c0_0 a0.b)) (hn0_1 : n0_1 = (a0.f).length) (hr0_1 : RO w (hkeys []) (RdL p0_1 c0_1 a0.f)) (r : Int) (H0 : l_heldTable fl a0 a1 = some r) :
    Ct Tryd.prog 26 [.agg #[.slice p0_0 n0_0 c0_0, .slice p0_1 n0_1 c0_1], .int .i64 a1] w [] (fun rv h' => rv = .int .i64 r ∧ h' = []) := by
  obtain rfl := hn0_0
  obtain rfl := hn0_1
  unfold l_heldTable at H0
  refine ct_of_cw Tryd.func26 rfl Tryd.ntmps26 rfl (Sat.refl _ _) ?_
  refine cw_seq ?_
  refine cw_region ?_
  refine ow_eff .none (stpU_box 0 rfl rfl) rfl ?_
  rintro _ _ ⟨b1, rfl, rfl⟩
  refine ow_det .none (stp_assign rfl) rfl ?_
  refine ow_nil ?_
  refine kw_nx ?_
  refine cw_seq ?_
  refine cw_region ?_
  refine ow_det .none (stp_fieldAddr (j := 0) Tryd.underlying26 rfl ts23 rfl rfl rfl) rfl ?_
  refine ow_det .none (stp_load1 ts23 rfl (Cells.box (id := 0) rfl 1 rfl)) rfl ?_
  refine ow_det .none (stp_move rfl) rfl ?_
  obtain ⟨x2, e2, H0⟩ := bind_some H0
  refine ow_eff .none (stpU_call (fun i => 1 + i) cf64 (fun w hw => c_l_heldIntS fl w a0.b p0_0 ((a0.b).length) c0_0 a1 rfl (RO.pass hr0_0 hw) x2 e2) (sevs_cons rfl (sevs_cons rfl sevs_nil))) rfl ?_
  rintro _ _ ⟨_, ⟨rfl, rfl⟩, rfl⟩
  refine ow_det .none (stp_assign rfl) rfl ?_
  refine ow_nil ?_
  refine kw_nx ?_
  refine cw_seq ?_
  refine cw_seq ?_
  refine cw_region ?_
  refine ow_det .none (stp_move rfl) rfl ?_
  refine ow_det .none (stp_lss rfl rfl) rfl ?_
  refine ow_nil ?_
  refine kw_nx ?_
  refine cw_cond rfl (fun h3 => ?_) (fun h3 => ?_)
  · have H0 := cond_t H0 h3
    refine cw_seq ?_
    refine cw_region ?_
    refine ow_det .none (stp_assign rfl) rfl ?_
    refine ow_nil ?_
    refine kw_nx ?_
    refine cw_ret ?_
    refine kw_nx_ret ?_
    have q0 := Option.some.inj H0
    subst q0
    exact kw_ret Tryd.results26 (.cons (.tmp rfl) .nil) [] [] trivial (by decide) ⟨rfl, rfl⟩
  · have H0 := cond_f H0 h3
    refine cw_skip ?_
    refine kw_nx ?_
    refine cw_seq ?_
    refine cw_region ?_
    refine ow_det .none (stp_fieldAddr (j := 1) Tryd.underlying26 rfl ts24 rfl rfl rfl) rfl ?_
    refine ow_det .none (stp_load1 ts24 rfl (Cells.box (id := 0) rfl 1 rfl)) rfl ?_
    refine ow_det .none (stp_move rfl) rfl ?_
    obtain ⟨x4, e4, H0⟩ := bind_some H0
    refine ow_eff .none (stpU_call (fun i => 1 + i) cf65 (fun w hw => c_l_heldFrameS fl w a0.f p0_1 ((a0.f).length) c0_1 x2 rfl (RO.pass hr0_1 hw) x4 e4) (sevs_cons rfl (sevs_cons rfl sevs_nil))) rfl ?_
    rintro _ _ ⟨_, ⟨rfl, rfl⟩, rfl⟩
    refine ow_det .none (stp_assign rfl) rfl ?_
    refine ow_nil ?_
    refine kw_nx ?_
    refine cw_seq ?_
    refine cw_seq ?_
    refine cw_region ?_
    refine ow_det .none (stp_move rfl) rfl ?_
    refine ow_det .none (stp_lss rfl rfl) rfl ?_
    refine ow_nil ?_
    refine kw_nx ?_
    refine cw_cond rfl (fun h5 => ?_) (fun h5 => ?_)
    · have H0 := cond_t H0 h5
      refine cw_seq ?_
      refine cw_region ?_
      refine ow_det .none (stp_assign rfl) rfl ?_
      refine ow_nil ?_
      refine kw_nx ?_
      refine cw_ret ?_
      refine kw_nx_ret ?_
      have q0 := Option.some.inj H0
      subst q0
      exact kw_ret Tryd.results26 (.cons (.tmp rfl) .nil) [] [] trivial (by decide) ⟨rfl, rfl⟩
    · have H0 := cond_f H0 h5
      refine cw_skip ?_
      refine kw_nx ?_
      refine cw_seq ?_
      refine cw_region ?_
      refine ow_det .none (stp_move rfl) rfl ?_
      refine ow_det .none (stp_assign rfl) rfl ?_
      refine ow_nil ?_
      refine kw_nx ?_
      refine cw_ret ?_
      have q0 := Option.some.inj H0
      subst q0
      exact kw_ret Tryd.results26 (.cons (.tmp rfl) .nil) [] [] trivial (by decide) ⟨rfl, rfl⟩
end Go.Proofs.YtkocamaoeojfhaaDoor
