/- The walks: functions of the program return what their pure functions say. Printed by a program (gen.py). -/
import Derived.Test.YtkocamaoeojfhaaDoorGp
import Derived.Test.YtkocamaoeojfhaaDoorGt
import Derived.Test.YtkocamaoeojfhaaDoorMan
import Derived.Test.YtkocamaoeojfhaaDoorGws
set_option linter.unusedSimpArgs false
set_option linter.unusedVariables false
set_option linter.unusedSectionVars false
namespace Go.Proofs.YtkocamaoeojfhaaDoor
open Go.RowKit
theorem c_s_TableValid (fl : Nat) (w : World) (a0 : T) (p0_0 : Option Addr) (n0_0 c0_0 : Nat) (p0_1 : Option Addr) (n0_1 c0_1 : Nat) (hn0_0 : n0_0 = (a0.b).length) (hr0_0 : RO w (hkeys []) (RdL p0_0 c0_0 a0.b)) (hn0_1 : n0_1 = (a0.f).length) (hr0_1 : RO w (hkeys []) (RdL p0_1 c0_1 a0.f)) (r : Bool) (H0 : s_TableValid fl a0 = some r) :
    Ct Tryd.prog 44 [.agg #[.slice p0_0 n0_0 c0_0, .slice p0_1 n0_1 c0_1]] w [] (fun rv h' => rv = .bool r ∧ h' = []) := by
  obtain rfl := hn0_0
  obtain rfl := hn0_1
  unfold s_TableValid at H0
  obtain rfl := Option.some.inj H0
  exact ct_of_calls (sTableValid_c _ a0 w ⟨_, _, rfl, (hr0_0 w (Fr.refl _ _)).rd, (hr0_1 w (Fr.refl _ _)).rd⟩)

set_option maxHeartbeats 4000000 in
set_option maxRecDepth 20000 in
theorem c_s_l1Space (fl : Nat) (w : World) (a0 : Int) (r : Bool) (H0 : s_l1Space fl a0 = some r) :
    Ct Tryd.prog 87 [.int .i64 a0] w [] (fun rv h' => rv = .bool r ∧ h' = []) := by
  unfold s_l1Space at H0
  refine ct_of_cw Tryd.func87 rfl Tryd.ntmps87 rfl (Sat.refl _ _) ?_
  refine cw_seq ?_
  refine cw_region ?_
  refine ow_det .none (stp_assign rfl) rfl ?_
  refine ow_nil ?_
  refine kw_nx ?_
  refine cw_seq ?_
  refine cw_region ?_
  refine ow_det .none (stp_move rfl) rfl ?_
  refine ow_det .none (stp_geq rfl rfl) rfl ?_
  refine ow_det .none (stp_move rfl) rfl ?_
  obtain ⟨y1, ey1, H0⟩ := bind_some H0
  refine ow_cutY 3 8 y1 ?_ ?_
  · rcases Bool.eq_false_or_eq_true (decide (0 ≤ a0)) with hy1 | hy1
    · have ey1 := cond_t ey1 hy1
      refine ow_det (.some rfl hy1) (stp_move rfl) rfl ?_
      refine ow_det (.some rfl hy1) (stp_lss rfl rfl) rfl ?_
      refine ow_det .none (stp_pick_t rfl hy1 rfl) rfl ?_
      obtain rfl := Option.some.inj ey1
      exact ow_nil (kw_jy (.top rfl (.cons rfl (.cons rfl (.cons rfl (.refl _))))) (.refl _))
    · have ey1 := cond_f ey1 hy1
      refine ow_off (.some rfl hy1) rfl ?_
      refine ow_off (.some rfl hy1) rfl ?_
      refine ow_det .none (stp_pick_f rfl hy1 rfl) rfl ?_
      obtain rfl := Option.some.inj ey1
      exact ow_nil (kw_jy (.top rfl (.cons rfl (.cons rfl (.cons rfl (.refl _))))) (.refl _))
  · refine ow_det .none (stp_assign rfl) rfl ?_
    refine ow_nil ?_
    refine kw_nx ?_
    refine cw_ret ?_
    have q0 := Option.some.inj H0
    subst q0
    exact kw_ret Tryd.results87 (.cons (.tmp rfl) .nil) [] [] trivial (by decide) ⟨rfl, rfl⟩

set_option maxHeartbeats 4000000 in
set_option maxRecDepth 20000 in
theorem c_s_l1Page (fl : Nat) (w : World) (a0 : Int) (r : Bool) (H0 : s_l1Page fl a0 = some r) :
    Ct Tryd.prog 88 [.int .i64 a0] w [] (fun rv h' => rv = .bool r ∧ h' = []) := by
  unfold s_l1Page at H0
  refine ct_of_cw Tryd.func88 rfl Tryd.ntmps88 rfl (Sat.refl _ _) ?_
  refine cw_seq ?_
  refine cw_region ?_
  refine ow_det .none (stp_assign rfl) rfl ?_
  refine ow_nil ?_
  refine kw_nx ?_
  refine cw_seq ?_
  refine cw_region ?_
  refine ow_det .none (stp_move rfl) rfl ?_
  refine ow_det .none (stp_geq rfl rfl) rfl ?_
  refine ow_det .none (stp_move rfl) rfl ?_
  obtain ⟨y1, ey1, H0⟩ := bind_some H0
  refine ow_cutY 3 8 y1 ?_ ?_
  · rcases Bool.eq_false_or_eq_true (decide (0 ≤ a0)) with hy1 | hy1
    · have ey1 := cond_t ey1 hy1
      refine ow_det (.some rfl hy1) (stp_move rfl) rfl ?_
      refine ow_det (.some rfl hy1) (stp_lss rfl rfl) rfl ?_
      refine ow_det .none (stp_pick_t rfl hy1 rfl) rfl ?_
      obtain rfl := Option.some.inj ey1
      exact ow_nil (kw_jy (.top rfl (.cons rfl (.cons rfl (.cons rfl (.refl _))))) (.refl _))
    · have ey1 := cond_f ey1 hy1
      refine ow_off (.some rfl hy1) rfl ?_
      refine ow_off (.some rfl hy1) rfl ?_
      refine ow_det .none (stp_pick_f rfl hy1 rfl) rfl ?_
      obtain rfl := Option.some.inj ey1
      exact ow_nil (kw_jy (.top rfl (.cons rfl (.cons rfl (.cons rfl (.refl _))))) (.refl _))
  · refine ow_det .none (stp_assign rfl) rfl ?_
    refine ow_nil ?_
    refine kw_nx ?_
    refine cw_ret ?_
    have q0 := Option.some.inj H0
    subst q0
    exact kw_ret Tryd.results88 (.cons (.tmp rfl) .nil) [] [] trivial (by decide) ⟨rfl, rfl⟩

set_option maxHeartbeats 4000000 in
set_option maxRecDepth 20000 in
theorem c_s_KeyValid (fl : Nat) (w : World) (a0 : K) (r : Bool) (H0 : s_KeyValid fl a0 = some r) :
    Ct Tryd.prog 45 [.agg #[.int .i64 a0.s, .int .i64 a0.p]] w [] (fun rv h' => rv = .bool r ∧ h' = []) := by
  unfold s_KeyValid at H0
  refine ct_of_cw Tryd.func45 rfl Tryd.ntmps45 rfl (Sat.refl _ _) ?_
  refine cw_seq ?_
  refine cw_region ?_
  refine ow_eff .none (stpU_box 0 rfl rfl) rfl ?_
  rintro _ _ ⟨b1, rfl, rfl⟩
  refine ow_det .none (stp_assign rfl) rfl ?_
  refine ow_nil ?_
  refine kw_nx ?_
  refine cw_seq ?_
  refine cw_region ?_
  refine ow_det .none (stp_fieldAddr (j := 0) Tryd.underlying28 rfl ts3 rfl rfl rfl) rfl ?_
  refine ow_det .none (stp_load1 ts3 rfl (Cells.box (id := 0) rfl 1 rfl)) rfl ?_
  obtain ⟨x2, e2, H0⟩ := bind_some H0
  refine ow_eff .none (stpU_call (fun i => 1 + i) cf87 (fun w hw => c_s_l1Space fl w a0.s x2 e2) (sevs_cons rfl sevs_nil)) rfl ?_
  rintro _ _ ⟨_, ⟨rfl, rfl⟩, rfl⟩
  refine ow_det .none (stp_move rfl) rfl ?_
  obtain ⟨y3, ey3, H0⟩ := bind_some H0
  refine ow_cutY 4 10 y3 ?_ ?_
  · rcases Bool.eq_false_or_eq_true x2 with hy3 | hy3
    · have ey3 := cond_t ey3 hy3
      refine ow_det (.some rfl hy3) (stp_fieldAddr (j := 1) Tryd.underlying28 rfl ts3 rfl rfl rfl) rfl ?_
      refine ow_det (.some rfl hy3) (stp_load1 ts3 rfl (Cells.box (id := 0) rfl 1 rfl)) rfl ?_
      obtain ⟨x4, e4, ey3⟩ := bind_some ey3
      refine ow_eff (.some rfl hy3) (stpU_call (fun i => 1 + i) cf88 (fun w hw => c_s_l1Page fl w a0.p x4 e4) (sevs_cons rfl sevs_nil)) rfl ?_
      rintro _ _ ⟨_, ⟨rfl, rfl⟩, rfl⟩
      refine ow_det .none (stp_pick_t rfl hy3 rfl) rfl ?_
      obtain rfl := Option.some.inj ey3
      exact ow_nil (kw_jy (.top rfl (.cons rfl (.cons rfl (.cons rfl (.cons rfl (.refl _)))))) (.refl _))
    · have ey3 := cond_f ey3 hy3
      refine ow_off (.some rfl hy3) rfl ?_
      refine ow_off (.some rfl hy3) rfl ?_
      refine ow_off (.some rfl hy3) rfl ?_
      refine ow_det .none (stp_pick_f rfl hy3 rfl) rfl ?_
      obtain rfl := Option.some.inj ey3
      exact ow_nil (kw_jy (.top rfl (.cons rfl (.cons rfl (.cons rfl (.cons rfl (.refl _)))))) (.refl _))
  · refine ow_det .none (stp_assign rfl) rfl ?_
    refine ow_nil ?_
    refine kw_nx ?_
    refine cw_ret ?_
    have q0 := Option.some.inj H0
    subst q0
    exact kw_ret Tryd.results45 (.cons (.tmp rfl) .nil) [] [] trivial (by decide) ⟨rfl, rfl⟩

set_option maxHeartbeats 4000000 in
set_option maxRecDepth 20000 in
theorem c_s_l2Hash (fl : Nat) (w : World) (a0 : K) (a1 : Int) (r : Int) (H0 : s_l2Hash fl a0 a1 = some r) :
    Ct Tryd.prog 86 [.agg #[.int .i64 a0.s, .int .i64 a0.p], .int .i64 a1] w [] (fun rv h' => rv = .int .i64 r ∧ h' = []) := by
  unfold s_l2Hash at H0
  refine ct_of_cw Tryd.func86 rfl Tryd.ntmps86 rfl (Sat.refl _ _) ?_
  refine cw_seq ?_
  refine cw_region ?_
  refine ow_eff .none (stpU_box 0 rfl rfl) rfl ?_
  rintro _ _ ⟨b1, rfl, rfl⟩
  refine ow_det .none (stp_assign rfl) rfl ?_
  refine ow_nil ?_
  refine kw_nx ?_
  refine cw_seq ?_
  refine cw_region ?_
  refine ow_det .none (stp_fieldAddr (j := 0) Tryd.underlying28 rfl ts3 rfl rfl rfl) rfl ?_
  refine ow_det .none (stp_load1 ts3 rfl (Cells.box (id := 0) rfl 1 rfl)) rfl ?_
  obtain ⟨x2, e2, H0⟩ := bind_some H0
  refine ow_det .none (stp_mul rfl rfl e2) rfl ?_
  refine ow_det .none (stp_fieldAddr (j := 1) Tryd.underlying28 rfl ts3 rfl rfl rfl) rfl ?_
  refine ow_det .none (stp_load1 ts3 rfl (Cells.box (id := 0) rfl 1 rfl)) rfl ?_
  obtain ⟨x3, e3, H0⟩ := bind_some H0
  refine ow_det .none (stp_add rfl rfl e3) rfl ?_
  refine ow_det .none (stp_assign rfl) rfl ?_
  refine ow_nil ?_
  refine kw_nx ?_
  refine cw_seq ?_
  refine cw_region ?_
  refine ow_det .none (stp_move rfl) rfl ?_
  obtain ⟨x4, e4, H0⟩ := bind_some H0
  refine ow_det .none (stp_mul rfl rfl e4) rfl ?_
  obtain ⟨x5, e5, H0⟩ := bind_some H0
  refine ow_det .none (stp_rem rfl rfl e5) rfl ?_
  refine ow_det .none (stp_move rfl) rfl ?_
  obtain ⟨x6, e6, H0⟩ := bind_some H0
  refine ow_det .none (stp_mul rfl rfl e6) rfl ?_
  obtain ⟨x7, e7, H0⟩ := bind_some H0
  refine ow_det .none (stp_quo rfl rfl e7) rfl ?_
  refine ow_det .none (stp_assign rfl) rfl ?_
  refine ow_nil ?_
  refine kw_nx ?_
  refine cw_ret ?_
  have q0 := Option.some.inj H0
  subst q0
  exact kw_ret Tryd.results86 (.cons (.tmp rfl) .nil) [] [] trivial (by decide) ⟨rfl, rfl⟩

set_option maxHeartbeats 4000000 in
set_option maxRecDepth 20000 in
theorem c_s_l3Chain (fl : Nat) (w : World) (a0 : T) (p0_0 : Option Addr) (n0_0 c0_0 : Nat) (p0_1 : Option Addr) (n0_1 c0_1 : Nat) (a1 : Int) (hn0_0 : n0_0 = (a0.b).length) (hr0_0 : RO w (hkeys []) (RdL p0_0 c0_0 a0.b)) (hn0_1 : n0_1 = (a0.f).length) (hr0_1 : RO w (hkeys []) (RdL p0_1 c0_1 a0.f)) (r : (List Int) × Bool) (H0 : s_l3Chain fl a0 a1 = some r) :
    Ct Tryd.prog 85 [.agg #[.slice p0_0 n0_0 c0_0, .slice p0_1 n0_1 c0_1], .int .i64 a1] w [] (fun rv h' => ∃ (x0 : Option Addr) (y0 z0 : Nat) (C0 : Res), rv = .tuple #[.slice x0 y0 z0, .bool r.2] ∧ h' = [(0, C0)] ∧ y0 = (r.1).length ∧ OwnC 3 x0 z0 r.1 C0) := by
  obtain rfl := hn0_0
  obtain rfl := hn0_1
  unfold s_l3Chain at H0
  refine ct_of_cw Tryd.func85 rfl Tryd.ntmps85 rfl (Sat.refl _ _) ?_
  refine cw_seq ?_
  refine cw_region ?_
  refine ow_eff .none (stpU_box 0 rfl rfl) rfl ?_
  rintro _ _ ⟨b1, rfl, rfl⟩
  refine ow_det .none (stp_assign rfl) rfl ?_
  refine ow_det .none (stp_assign rfl) rfl ?_
  refine ow_nil ?_
  refine kw_nx ?_
  refine cw_seq ?_
  refine cw_region ?_
  refine ow_eff .none (stpU_lit0 sl23 1) rfl ?_
  rintro _ _ ⟨p2, C3, rfl, rfl, o3⟩
  refine ow_det .none (stp_assign rfl) rfl ?_
  refine ow_nil ?_
  refine kw_nx ?_
  refine cw_seq ?_
  refine cw_region ?_
  refine ow_det .none (stp_fieldAddr (j := 0) Tryd.underlying26 rfl ts23 rfl rfl rfl) rfl ?_
  refine ow_det .none (stp_load1 ts23 rfl (Cells.box (id := 0) rfl 1 rfl)) rfl ?_
  refine ow_det .none (stp_move rfl) rfl ?_
  obtain ⟨x4, e4, H0⟩ := bind_some H0
  refine ow_det .none (stp_indexAddr Tryd.underlying23 ts3 (by decide) rfl rfl rfl (Rdb.ro hr0_0) e4) rfl ?_
  refine ow_det .none (stp_load1 ts3 rfl (Cells.el (Rdb.ro hr0_0) (by decide) e4 0 1 rfl)) rfl ?_
  refine ow_det .none (stp_assign rfl) rfl ?_
  refine ow_nil ?_
  refine kw_nx ?_
  refine cw_seq ?_
  obtain ⟨o0_0, eo0_0, H0⟩ := bind_some H0
  refine cw_join (ι := (List Int) × Int × Option Addr × Nat × Nat × Res) (fun | (v5, v10, p6, n7, c8, C9) => o0_0 = .out (v5, v10) ∧ n7 = (v5).length ∧ OwnC (α := Int) 3 p6 c8 v5 C9) (fun | (v5, v10, p6, n7, c8, C9) => [(2, .pointer (some ⟨b1, 0, none⟩)), (6, .slice p6 n7 c8), (7, .int .i64 v10)]) (fun | (v5, v10, p6, n7, c8, C9) => [(0, [(b1, .cells #[.slice p0_0 ((a0.b).length) c0_0, .slice p0_1 ((a0.f).length) c0_1] 26 (0, 0))]), (1, C9)]) ?_ ?_
  · refine cw_block ?_
    refine cw_loopS (ι := Nat × (List Int) × Int × Option Addr × Nat × Nat × Res) (js := [0, 1]) (fun x => x.1) (fun | (fuel, v5, v10, p6, n7, c8, C9) => s_l3Chain_L0 fl a0 fuel v5 v10 = some o0_0 ∧ n7 = (v5).length ∧ OwnC (α := Int) 3 p6 c8 v5 C9) (fun | (_, v5, v10, p6, n7, c8, C9) => [(2, .pointer (some ⟨b1, 0, none⟩)), (6, .slice p6 n7 c8), (7, .int .i64 v10)]) (fun | (_, v5, v10, p6, n7, c8, C9) => [(0, [(b1, .cells #[.slice p0_0 ((a0.b).length) c0_0, .slice p0_1 ((a0.f).length) c0_1] 26 (0, 0))]), (1, C9)]) (fl, ([] : List Int), x4, p2, 0, 0, C3) ⟨eo0_0, (by simp), o3⟩ ⟨rfl, rfl, rfl, trivial⟩ ⟨0, [1], rfl, rfl, 1, [], rfl, rfl, trivial⟩ (by decide) ?_
    rintro ⟨fuel, v5, v10, p6, n7, c8, C9⟩ ⟨H1, hnn7, o9⟩
    obtain rfl := hnn7
    have H1 : s_l3Chain_L0 fl a0 fuel v5 v10 = some o0_0 := H1
    rcases fuel with _ | fuel
    · rw [s_l3Chain_L0.eq_1] at H1; cases H1
    rw [s_l3Chain_L0.eq_2] at H1
    refine CW.sub (s' := [(2, .pointer (some ⟨b1, 0, none⟩)), (6, .slice p6 ((v5).length) c8), (7, .int .i64 v10)]) (h' := [(0, [(b1, .cells #[.slice p0_0 ((a0.b).length) c0_0, .slice p0_1 ((a0.f).length) c0_1] 26 (0, 0))]), (1, C9)]) ?_ ⟨rfl, rfl, rfl, trivial⟩ ⟨rfl, rfl, trivial⟩
    refine cw_seq ?_
    refine cw_seq ?_
    refine cw_region ?_
    refine ow_det .none (stp_move rfl) rfl ?_
    refine ow_det .none (stp_neq rfl rfl) rfl ?_
    refine ow_nil ?_
    refine kw_nx ?_
    refine cw_cond rfl (fun h11 => ?_) (fun h11 => ?_)
    · have H1 := cond_t H1 h11
      refine cw_skip ?_
      refine kw_nx ?_
      refine cw_block ?_
      refine cw_seq ?_
      refine cw_seq ?_
      refine cw_region ?_
      refine ow_det .none (stp_move rfl) rfl ?_
      refine ow_det .none (stp_lss rfl rfl) rfl ?_
      refine ow_det .none (stp_move rfl) rfl ?_
      obtain ⟨y12, ey12, H1⟩ := bind_some H1
      refine ow_cutY 6 24 y12 ?_ ?_
      · rcases Bool.eq_false_or_eq_true (decide (v10 < 0)) with hy12 | hy12
        · have ey12 := cond_t ey12 hy12
          refine ow_off (.some rfl hy12) rfl ?_
          refine ow_off (.some rfl hy12) rfl ?_
          refine ow_off (.some rfl hy12) rfl ?_
          refine ow_off (.some rfl hy12) rfl ?_
          refine ow_off (.some rfl hy12) rfl ?_
          refine ow_det .none (stp_pick_t rfl hy12 rfl) rfl ?_
          obtain rfl := Option.some.inj ey12
          exact ow_nil (kw_jy (.top rfl (.cons rfl (.cons rfl (.cons rfl (.cons rfl (.cons rfl (.cons rfl (.refl _)))))))) (.refl _))
        · have ey12 := cond_f ey12 hy12
          refine ow_det (.some rfl hy12) (stp_move rfl) rfl ?_
          refine ow_det (.some rfl hy12) (stp_fieldAddr (j := 1) Tryd.underlying26 rfl ts24 rfl rfl rfl) rfl ?_
          refine ow_det (.some rfl hy12) (stp_load1 ts24 rfl (Cells.box (id := 0) rfl 1 rfl)) rfl ?_
          refine ow_det (.some rfl hy12) (stp_len Tryd.underlying24 rfl) rfl ?_
          refine ow_det (.some rfl hy12) (stp_geq rfl rfl) rfl ?_
          refine ow_det .none (stp_pick_f rfl hy12 rfl) rfl ?_
          obtain rfl := Option.some.inj ey12
          exact ow_nil (kw_jy (.top rfl (.cons rfl (.cons rfl (.cons rfl (.cons rfl (.cons rfl (.cons rfl (.refl _)))))))) (.refl _))
      · refine ow_det .none (stp_move rfl) rfl ?_
        obtain ⟨y13, ey13, H1⟩ := bind_some H1
        refine ow_cutY 7 32 y13 ?_ ?_
        · rcases Bool.eq_false_or_eq_true y12 with hy13 | hy13
          · have ey13 := cond_t ey13 hy13
            refine ow_off (.some rfl hy13) rfl ?_
            refine ow_off (.some rfl hy13) rfl ?_
            refine ow_off (.some rfl hy13) rfl ?_
            refine ow_off (.some rfl hy13) rfl ?_
            refine ow_off (.some rfl hy13) rfl ?_
            refine ow_off (.some rfl hy13) rfl ?_
            refine ow_det .none (stp_pick_t rfl hy13 rfl) rfl ?_
            obtain rfl := Option.some.inj ey13
            exact ow_nil (kw_jy (.top rfl (.cons rfl (.cons rfl (.cons rfl (.cons rfl (.cons rfl (.cons rfl (.cons rfl (.refl _))))))))) (.refl _))
          · have ey13 := cond_f ey13 hy13
            refine ow_det (.some rfl hy13) (stp_move rfl) rfl ?_
            refine ow_det (.some rfl hy13) (stp_len Tryd.underlying23 rfl) rfl ?_
            refine ow_det (.some rfl hy13) (stp_fieldAddr (j := 1) Tryd.underlying26 rfl ts24 rfl rfl rfl) rfl ?_
            refine ow_det (.some rfl hy13) (stp_load1 ts24 rfl (Cells.box (id := 0) rfl 1 rfl)) rfl ?_
            refine ow_det (.some rfl hy13) (stp_len Tryd.underlying24 rfl) rfl ?_
            refine ow_det (.some rfl hy13) (stp_geq rfl rfl) rfl ?_
            refine ow_det .none (stp_pick_f rfl hy13 rfl) rfl ?_
            obtain rfl := Option.some.inj ey13
            exact ow_nil (kw_jy (.top rfl (.cons rfl (.cons rfl (.cons rfl (.cons rfl (.cons rfl (.cons rfl (.cons rfl (.refl _))))))))) (.refl _))
        · refine ow_det .none (stp_move rfl) rfl ?_
          obtain ⟨y14, ey14, H1⟩ := bind_some H1
          refine ow_cutY 8 41 y14 ?_ ?_
          · rcases Bool.eq_false_or_eq_true y13 with hy14 | hy14
            · have ey14 := cond_t ey14 hy14
              refine ow_off (.some rfl hy14) rfl ?_
              refine ow_off (.some rfl hy14) rfl ?_
              refine ow_off (.some rfl hy14) rfl ?_
              refine ow_off (.some rfl hy14) rfl ?_
              refine ow_off (.some rfl hy14) rfl ?_
              refine ow_off (.some rfl hy14) rfl ?_
              refine ow_off (.some rfl hy14) rfl ?_
              refine ow_det .none (stp_pick_t rfl hy14 rfl) rfl ?_
              obtain rfl := Option.some.inj ey14
              exact ow_nil (kw_jy (.top rfl (.cons rfl (.cons rfl (.cons rfl (.cons rfl (.cons rfl (.cons rfl (.cons rfl (.cons rfl (.refl _)))))))))) (.refl _))
            · have ey14 := cond_f ey14 hy14
              refine ow_det (.some rfl hy14) (stp_fieldAddr (j := 1) Tryd.underlying26 rfl ts24 rfl rfl rfl) rfl ?_
              refine ow_det (.some rfl hy14) (stp_load1 ts24 rfl (Cells.box (id := 0) rfl 1 rfl)) rfl ?_
              refine ow_det (.some rfl hy14) (stp_move rfl) rfl ?_
              obtain ⟨x15, e15, ey14⟩ := bind_some ey14
              refine ow_det (.some rfl hy14) (stp_indexAddr Tryd.underlying24 ts53 (by decide) rfl rfl rfl (Rdb.ro hr0_1) e15) rfl ?_
              refine ow_det (.some rfl hy14) (stp_fieldAddr (j := 0) Tryd.underlying53 rfl ts4 rfl rfl rfl) rfl ?_
              refine ow_det (.some rfl hy14) (stp_load1 ts4 rfl (Cells.el (Rdb.ro hr0_1) (by decide) e15 0 1 rfl)) rfl ?_
              refine ow_det (.some rfl hy14) (stp_not rfl) rfl ?_
              refine ow_det .none (stp_pick_f rfl hy14 rfl) rfl ?_
              obtain rfl := Option.some.inj ey14
              exact ow_nil (kw_jy (.top rfl (.cons rfl (.cons rfl (.cons rfl (.cons rfl (.cons rfl (.cons rfl (.cons rfl (.cons rfl (.refl _)))))))))) (.refl _))
          · refine ow_nil ?_
            refine kw_nx ?_
            refine cw_cond rfl (fun h16 => ?_) (fun h16 => ?_)
            · have H1 := cond_t H1 h16
              refine cw_seq ?_
              refine cw_region ?_
              refine ow_det .none (stp_move rfl) rfl ?_
              refine ow_det .none (stp_assign rfl) rfl ?_
              refine ow_det .none (stp_assign rfl) rfl ?_
              refine ow_nil ?_
              refine kw_nx ?_
              refine cw_ret ?_
              refine kw_nx_ret ?_
              refine kw_bl_ret ?_
              refine kw_lq_ret ?_
              refine kw_bl_ret ?_
              refine kw_join_ret ?_
              refine kw_nx_ret ?_
              have q1 := Option.some.inj H1
              subst q1
              have q0 := Option.some.inj H0
              subst q0
              exact kw_ret Tryd.results85 (.cons (.tmp rfl) (.cons (.tmp rfl) .nil)) [(0, C9)] [1] ⟨1, [], rfl, rfl, trivial⟩ (by decide) ⟨p6, ((v5).length), c8, C9, rfl, rfl, rfl, o9⟩
            · have H1 := cond_f H1 h16
              refine cw_skip ?_
              refine kw_nx ?_
              refine cw_seq ?_
              refine cw_region ?_
              refine ow_det .none (stp_move rfl) rfl ?_
              refine ow_det .none (stp_move rfl) rfl ?_
              refine ow_eff .none (stpU_lit (sz := 1) (l := [v10]) [.int .i64 v10] sl23 2 (sevp_cons rfl sevp_nil) rfl rfl rfl rfl rfl rfl rfl rfl rfl) rfl ?_
              rintro _ _ ⟨p17, C18, rfl, rfl, o18⟩
              obtain ⟨x19, e19, H1⟩ := bind_some H1
              refine ow_eff .none (stpU_append sl23 rfl (id := 1) rfl rfl rfl (by simp) rfl o9 (Rdb.own (id := 2) rfl o18) e19) rfl ?_
              rintro _ _ ⟨p20, c21, C22, rfl, rfl, o22⟩
              refine ow_det .none (stp_assign rfl) rfl ?_
              refine ow_nil ?_
              refine kw_nx ?_
              refine cw_region ?_
              refine ow_det .none (stp_fieldAddr (j := 1) Tryd.underlying26 rfl ts24 rfl rfl rfl) rfl ?_
              refine ow_det .none (stp_load1 ts24 rfl (Cells.box (id := 0) rfl 1 rfl)) rfl ?_
              refine ow_det .none (stp_move rfl) rfl ?_
              obtain ⟨x23, e23, H1⟩ := bind_some H1
              refine ow_det .none (stp_indexAddr Tryd.underlying24 ts53 (by decide) rfl rfl rfl (Rdb.ro hr0_1) e23) rfl ?_
              refine ow_det .none (stp_fieldAddr (j := 4) Tryd.underlying53 rfl ts3 rfl rfl rfl) rfl ?_
              refine ow_det .none (stp_load1 ts3 rfl (Cells.el (Rdb.ro hr0_1) (by decide) e23 4 1 rfl)) rfl ?_
              refine ow_det .none (stp_assign rfl) rfl ?_
              refine ow_nil ?_
              refine kw_bl_normal ?_
              exact kw_lqS (js := [0, 1]) (fuel, x19, x23.nx, p20, ((x19).length), c21, C22) ⟨H1, rfl, o22⟩ (Nat.lt_succ_self _) ⟨rfl, rfl, rfl, trivial⟩ ⟨0, [1], rfl, rfl, 1, [], rfl, rfl, trivial⟩ (by decide)
    · have H1 := cond_f H1 h11
      refine cw_exit ?_
      refine kw_nx_exit ?_
      refine kw_lq_exit ?_
      refine kw_bl ?_
      have q1 := Option.some.inj H1
      subst q1
      exact kw_joinS (js := [0, 1]) (v5, v10, p6, ((v5).length), c8, C9) ⟨rfl, rfl, o9⟩ ⟨rfl, rfl, rfl, trivial⟩ ⟨0, [1], rfl, rfl, 1, [], rfl, rfl, trivial⟩ (by decide)
  · rintro ⟨v5, v10, p6, n7, c8, C9⟩ ⟨rfl, hnn7, o9⟩
    obtain rfl := hnn7
    refine KW.sub (s' := [(2, .pointer (some ⟨b1, 0, none⟩)), (6, .slice p6 ((v5).length) c8), (7, .int .i64 v10)]) (h' := [(0, [(b1, .cells #[.slice p0_0 ((a0.b).length) c0_0, .slice p0_1 ((a0.f).length) c0_1] 26 (0, 0))]), (1, C9)]) ?_ ⟨rfl, rfl, rfl, trivial⟩ ⟨rfl, rfl, trivial⟩
    refine kw_nx ?_
    refine cw_seq ?_
    refine cw_region ?_
    refine ow_det .none (stp_move rfl) rfl ?_
    refine ow_det .none (stp_assign rfl) rfl ?_
    refine ow_det .none (stp_assign rfl) rfl ?_
    refine ow_nil ?_
    refine kw_nx ?_
    refine cw_ret ?_
    have q0 := Option.some.inj H0
    subst q0
    exact kw_ret Tryd.results85 (.cons (.tmp rfl) (.cons (.tmp rfl) .nil)) [(0, C9)] [1] ⟨1, [], rfl, rfl, trivial⟩ (by decide) ⟨p6, ((v5).length), c8, C9, rfl, rfl, rfl, o9⟩

set_option maxHeartbeats 4000000 in
set_option maxRecDepth 20000 in
theorem c_s_l3Find (fl : Nat) (w : World) (a0 : T) (p0_0 : Option Addr) (n0_0 c0_0 : Nat) (p0_1 : Option Addr) (n0_1 c0_1 : Nat) (a1 : K) (hn0_0 : n0_0 = (a0.b).length) (hr0_0 : RO w (hkeys []) (RdL p0_0 c0_0 a0.b)) (hn0_1 : n0_1 = (a0.f).length) (hr0_1 : RO w (hkeys []) (RdL p0_1 c0_1 a0.f)) (r : Int × Int) (H0 : s_l3Find fl a0 a1 = some r) :
    Ct Tryd.prog 47 [.agg #[.slice p0_0 n0_0 c0_0, .slice p0_1 n0_1 c0_1], .agg #[.int .i64 a1.s, .int .i64 a1.p]] w [] (fun rv h' => rv = .tuple #[.int .i64 r.1, .int .i64 r.2] ∧ h' = []) := by
  obtain rfl := hn0_0
  obtain rfl := hn0_1
  unfold s_l3Find at H0
  refine ct_of_cw Tryd.func47 rfl Tryd.ntmps47 rfl (Sat.refl _ _) ?_
  refine cw_seq ?_
  refine cw_region ?_
  refine ow_eff .none (stpU_box 0 rfl rfl) rfl ?_
  rintro _ _ ⟨b1, rfl, rfl⟩
  refine ow_eff .none (stpU_box 1 rfl rfl) rfl ?_
  rintro _ _ ⟨b2, rfl, rfl⟩
  refine ow_det .none (stp_assign rfl) rfl ?_
  refine ow_det .none (stp_assign rfl) rfl ?_
  refine ow_nil ?_
  refine kw_nx ?_
  refine cw_seq ?_
  obtain ⟨x3, e3, H0⟩ := bind_some H0
  obtain ⟨x4, e4, H0⟩ := bind_some H0
  refine region_drawn { dst := fun i => match i with | 0 => some 10 | 1 => some 11 | 2 => some 12 | 3 => some 13 | 4 => some 14 | 5 => some 15 | 6 => some 16 | 7 => some 9 | 8 => some 17 | 9 => some 18 | 10 => some 6 | 11 => some 7 | _ => none, pre := fun i => match i with | 3 => [2] | 4 => [2, 3] | 5 => [1, 2, 3, 4] | 6 => [0, 1, 2, 3, 4, 5] | 7 => [0, 1, 2, 3, 4, 5, 6] | 8 => [0, 1, 2, 3, 4, 5, 6, 7] | 9 => [0, 1, 2, 3, 4, 5, 6, 7] | 10 => [0, 1, 2, 3, 4, 5, 6, 7, 8] | 11 => [0, 1, 2, 3, 4, 5, 6, 7, 8, 9, 10] | _ => [], ids := fun i => match i with | 6 => [2] | _ => [], rs := fun i => match i with | 0 => [(2, none)] | 1 => [(3, none)] | 2 => [(2, none)] | 3 => [(12, some 2)] | 4 => [(13, some 3)] | 5 => [(11, some 1), (14, some 4)] | 6 => [(10, some 0), (15, some 5)] | 7 => [(16, some 6)] | 8 => [(9, some 7)] | 9 => [(9, some 7)] | 10 => [(17, some 8)] | 11 => [(18, some 9)] | _ => [], rh := fun i => match i with | 0 => [(0, none)] | 1 => [(1, none)] | 3 => [(0, none)] | _ => [], V := fun i g => match i with | 0 => .agg #[.slice p0_0 ((a0.b).length) c0_0, .slice p0_1 ((a0.f).length) c0_1] | 1 => .agg #[.int .i64 a1.s, .int .i64 a1.p] | 2 => .pointer (some ⟨b1, 0, none⟩) | 3 => .slice p0_0 ((a0.b).length) c0_0 | 4 => .int .i64 ((a0.b).length : Int) | 5 => .int .i64 x3 | 6 => .tuple #[.slice ((g 6).A 0) ((x4.1).length) ((g 6).C 0), .bool x4.2] | 7 => .tuple #[.slice ((g 6).A 0) ((x4.1).length) ((g 6).C 0), .bool x4.2] | 8 => .slice ((g 6).A 0) ((x4.1).length) ((g 6).C 0) | 9 => .bool x4.2 | 10 => .slice ((g 6).A 0) ((x4.1).length) ((g 6).C 0) | 11 => .bool x4.2 | _ => undef, U := fun i g => match i with | 6 => [(2, ((g 6).R 0))] | _ => [], Φ := fun i x => match i with | 6 => OwnC (α := Int) 3 (x.A 0) (x.C 0) x4.1 (x.R 0) | _ => True } g_mixed [2, 3] [0, 1] (by kernel_rfl) (by kernel_rfl) (by kernel_rfl) ⟨⟨⟨⟨⟨⟨⟨⟨⟨⟨⟨⟨trivial, fun _ => ⟨rfl, rfl⟩⟩, fun _ => ⟨rfl, rfl⟩⟩, fun _ => ⟨rfl, rfl⟩⟩, fun _ => ⟨rfl, rfl⟩⟩, fun _ => ⟨rfl, rfl⟩⟩, fun _ => ⟨rfl, rfl⟩⟩, fun _ => ⟨rfl, rfl⟩⟩, fun _ => ⟨rfl, rfl⟩⟩, fun _ => ⟨rfl, rfl⟩⟩, fun _ => ⟨rfl, rfl⟩⟩, fun _ => ⟨rfl, rfl⟩⟩, fun _ => ⟨rfl, rfl⟩⟩ ?_ ?_
  · refine ⟨⟨⟨⟨⟨⟨⟨⟨⟨⟨⟨⟨trivial, ?_⟩, ?_⟩, ?_⟩, ?_⟩, ?_⟩, ?_⟩, ?_⟩, ?_⟩, ?_⟩, ?_⟩, ?_⟩, ?_⟩
    · exact loc_det rfl rfl (fun _ => rfl) trivial (fun g hΦ s h hs hh => ⟨.none, (stp_loadN (us := [_, _]) ts26 (sv hs 2 rfl) (Cells.box (id := 0) (hh.get 0 _ rfl) 2 rfl))⟩)
    · exact loc_det rfl rfl (fun _ => rfl) trivial (fun g hΦ s h hs hh => ⟨.none, (stp_loadN (us := [_, _]) ts28 (sv hs 3 rfl) (Cells.box (id := 1) (hh.get 1 _ rfl) 2 rfl))⟩)
    · exact loc_det rfl rfl (fun _ => rfl) trivial (fun g hΦ s h hs hh => ⟨.none, (stp_fieldAddr (j := 0) Tryd.underlying26 rfl ts23 rfl (sv hs 2 rfl) rfl)⟩)
    · exact loc_det rfl rfl (fun _ => rfl) trivial (fun g hΦ s h hs hh => ⟨.none, (stp_load1 ts23 (sv hs 12 rfl) (Cells.box (id := 0) (hh.get 0 _ rfl) 1 rfl))⟩)
    · exact loc_det rfl rfl (fun _ => rfl) trivial (fun g hΦ s h hs hh => ⟨.none, (stp_len Tryd.underlying23 (sv hs 13 rfl))⟩)
    · refine loc_eff rfl rfl (fun g hΦ s h hs hh => ⟨.none, (stpU_call (fun i => 2 + i) cf86 (fun w hw => c_s_l2Hash fl w a1 ((a0.b).length : Int) x3 e3) (sevs_cons (sv hs 11 rfl) (sevs_cons (sv hs 14 rfl) sevs_nil)))⟩) ?_
      rintro g _ _ ⟨_, ⟨rfl, rfl⟩, rfl⟩
      exact ⟨⟨[], [], []⟩, trivial, .inr rfl, rfl⟩
    · refine loc_eff rfl rfl (fun g hΦ s h hs hh => ⟨.none, (stpU_call (fun i => 2 + i) cf85 (fun w hw => c_s_l3Chain fl w a0 p0_0 ((a0.b).length) c0_0 p0_1 ((a0.f).length) c0_1 x3 rfl (RO.pass hr0_0 hw) rfl (RO.pass hr0_1 hw) x4 e4) (sevs_cons (sv hs 10 rfl) (sevs_cons (sv hs 15 rfl) sevs_nil)))⟩) ?_
      rintro g _ _ ⟨_, ⟨p5, n6, c7, C8, rfl, rfl, hnn6, o8⟩, rfl⟩
      obtain rfl := hnn6
      exact ⟨⟨[p5], [c7], [C8]⟩, o8, .inr rfl, rfl⟩
    · exact loc_det rfl rfl (fun _ => rfl) trivial (fun g hΦ s h hs hh => ⟨.none, (stp_move (sv hs 16 rfl))⟩)
    · exact loc_det rfl rfl (fun _ => rfl) trivial (fun g hΦ s h hs hh => ⟨.none, (stp_extract (sv hs 9 rfl) rfl)⟩)
    · exact loc_det rfl rfl (fun _ => rfl) trivial (fun g hΦ s h hs hh => ⟨.none, (stp_extract (sv hs 9 rfl) rfl)⟩)
    · exact loc_det rfl rfl (fun _ => rfl) trivial (fun g hΦ s h hs hh => ⟨.none, (stp_assign (sv hs 17 rfl))⟩)
    · exact loc_det rfl rfl (fun _ => rfl) trivial (fun g hΦ s h hs hh => ⟨.none, (stp_assign (sv hs 18 rfl))⟩)
  · intro g hΦ
    refine kw_gen (ι := Option Addr × Nat × Res) (((g 6).A 0), ((g 6).C 0), ((g 6).R 0)) (fun | (p5, c7, C8) => OwnC (α := Int) 3 p5 c7 x4.1 C8) (fun | (p5, c7, C8) => [(2, .pointer (some ⟨b1, 0, none⟩)), (3, .pointer (some ⟨b2, 0, none⟩)), (6, .slice p5 ((x4.1).length) c7)]) (fun | (p5, c7, C8) => [(0, [(b1, .cells #[.slice p0_0 ((a0.b).length) c0_0, .slice p0_1 ((a0.f).length) c0_1] 26 (0, 0))]), (1, [(b2, .cells #[.int .i64 a1.s, .int .i64 a1.p] 28 (0, 0))]), (2, C8)]) (hΦ 6 (by decide)) ⟨rfl, rfl, rfl, trivial⟩ ⟨rfl, rfl, rfl, trivial⟩ ?_
    rintro ⟨p5, c7, C8⟩ o8
    have o8 : OwnC (α := Int) 3 p5 c7 x4.1 C8 := o8
    refine KW.sub (s' := [(2, .pointer (some ⟨b1, 0, none⟩)), (3, .pointer (some ⟨b2, 0, none⟩)), (6, .slice p5 ((x4.1).length) c7)]) (h' := [(0, [(b1, .cells #[.slice p0_0 ((a0.b).length) c0_0, .slice p0_1 ((a0.f).length) c0_1] 26 (0, 0))]), (1, [(b2, .cells #[.int .i64 a1.s, .int .i64 a1.p] 28 (0, 0))]), (2, C8)]) ?_ ⟨rfl, rfl, rfl, trivial⟩ ⟨rfl, rfl, rfl, trivial⟩
    refine kw_nx ?_
    refine cw_seq ?_
    refine cw_seq ?_
    refine cw_region ?_
    refine ow_det .none (stp_assign rfl) rfl ?_
    refine ow_nil ?_
    refine kw_nx ?_
    obtain ⟨o0_0, eo0_0, H0⟩ := bind_some H0
    refine cw_join (ι := Int) (fun | v9 => o0_0 = .out v9) (fun | v9 => [(2, .pointer (some ⟨b1, 0, none⟩)), (3, .pointer (some ⟨b2, 0, none⟩)), (6, .slice p5 ((x4.1).length) c7), (8, .int .i64 v9)]) (fun | v9 => [(0, [(b1, .cells #[.slice p0_0 ((a0.b).length) c0_0, .slice p0_1 ((a0.f).length) c0_1] 26 (0, 0))]), (1, [(b2, .cells #[.int .i64 a1.s, .int .i64 a1.p] 28 (0, 0))]), (2, C8)]) ?_ ?_
    · refine cw_block ?_
      refine cw_loopS (ι := Nat × Int) (js := [0, 1, 2]) (fun x => x.1) (fun | (fuel, v9) => s_l3Find_L0 fl a0 a1 x4 fuel v9 = some o0_0) (fun | (_, v9) => [(2, .pointer (some ⟨b1, 0, none⟩)), (3, .pointer (some ⟨b2, 0, none⟩)), (6, .slice p5 ((x4.1).length) c7), (8, .int .i64 v9)]) (fun | (_, v9) => [(0, [(b1, .cells #[.slice p0_0 ((a0.b).length) c0_0, .slice p0_1 ((a0.f).length) c0_1] 26 (0, 0))]), (1, [(b2, .cells #[.int .i64 a1.s, .int .i64 a1.p] 28 (0, 0))]), (2, C8)]) (fl, 0) eo0_0 ⟨rfl, rfl, rfl, rfl, trivial⟩ ⟨0, [1, 2], rfl, rfl, 1, [2], rfl, rfl, 2, [], rfl, rfl, trivial⟩ (by decide) ?_
      rintro ⟨fuel, v9⟩ H1
      have H1 : s_l3Find_L0 fl a0 a1 x4 fuel v9 = some o0_0 := H1
      rcases fuel with _ | fuel
      · rw [s_l3Find_L0.eq_1] at H1; cases H1
      rw [s_l3Find_L0.eq_2] at H1
      refine CW.sub (s' := [(2, .pointer (some ⟨b1, 0, none⟩)), (3, .pointer (some ⟨b2, 0, none⟩)), (6, .slice p5 ((x4.1).length) c7), (8, .int .i64 v9)]) (h' := [(0, [(b1, .cells #[.slice p0_0 ((a0.b).length) c0_0, .slice p0_1 ((a0.f).length) c0_1] 26 (0, 0))]), (1, [(b2, .cells #[.int .i64 a1.s, .int .i64 a1.p] 28 (0, 0))]), (2, C8)]) ?_ ⟨rfl, rfl, rfl, rfl, trivial⟩ ⟨rfl, rfl, rfl, trivial⟩
      refine cw_seq ?_
      refine cw_seq ?_
      refine cw_region ?_
      refine ow_det .none (stp_move rfl) rfl ?_
      refine ow_det .none (stp_move rfl) rfl ?_
      refine ow_det .none (stp_len Tryd.underlying23 rfl) rfl ?_
      refine ow_det .none (stp_lss rfl rfl) rfl ?_
      refine ow_nil ?_
      refine kw_nx ?_
      refine cw_cond rfl (fun h10 => ?_) (fun h10 => ?_)
      · have H1 := cond_t H1 h10
        refine cw_skip ?_
        refine kw_nx ?_
        refine cw_seq ?_
        refine cw_block ?_
        refine cw_seq ?_
        obtain ⟨x11, e11, H1⟩ := bind_some H1
        obtain ⟨x12, e12, H1⟩ := bind_some H1
        refine region_drawn { dst := fun i => match i with | 0 => some 25 | 1 => some 26 | 2 => some 27 | 3 => some 28 | 4 => some 29 | 5 => some 30 | 6 => some 31 | 7 => some 32 | 8 => some 33 | 9 => some 34 | 10 => some 35 | _ => none, pre := fun i => match i with | 1 => [0] | 4 => [2, 3] | 5 => [2, 3, 4] | 6 => [0, 1, 2, 3, 4, 5] | 7 => [0, 1, 2, 3, 4, 5, 6] | 8 => [0, 1, 2, 3, 4, 5, 6, 7] | 10 => [0, 1, 2, 3, 4, 5, 6, 7, 8, 9] | _ => [], ids := fun i => match i with | _ => [], rs := fun i => match i with | 0 => [(2, none)] | 1 => [(25, some 0)] | 2 => [(6, none)] | 3 => [(8, none)] | 4 => [(27, some 2), (28, some 3)] | 5 => [(29, some 4)] | 6 => [(26, some 1), (30, some 5)] | 7 => [(31, some 6)] | 8 => [(32, some 7)] | 9 => [(3, none)] | 10 => [(33, some 8), (34, some 9)] | _ => [], rh := fun i => match i with | 1 => [(0, none)] | 4 => [(2, none)] | 5 => [(2, none)] | 9 => [(1, none)] | _ => [], V := fun i g => match i with | 0 => .pointer (some ⟨b1, 1, none⟩) | 1 => .slice p0_1 ((a0.f).length) c0_1 | 2 => .slice p5 ((x4.1).length) c7 | 3 => .int .i64 v9 | 4 => .pointer (some ⟨eB p5, eO p5 + Int.toNat v9 * Enc.sz Int + 0, none⟩) | 5 => .int .i64 x11 | 6 => .pointer (some ⟨eB p0_1, eO p0_1 + Int.toNat x11 * Enc.sz F + 0, none⟩) | 7 => .pointer (some ⟨eB p0_1, eO p0_1 + Int.toNat x11 * Enc.sz F + 1, none⟩) | 8 => .agg #[.int .i64 x12.k.s, .int .i64 x12.k.p] | 9 => .agg #[.int .i64 a1.s, .int .i64 a1.p] | 10 => .bool (x12.k == a1) | _ => undef, U := fun i g => match i with | _ => [], Φ := fun i x => match i with | _ => True } g_mixed [2, 3, 6, 8] [0, 1, 2] (by kernel_rfl) (by kernel_rfl) (by kernel_rfl) ⟨⟨⟨⟨⟨⟨⟨⟨⟨⟨⟨trivial, fun _ => ⟨rfl, rfl⟩⟩, fun _ => ⟨rfl, rfl⟩⟩, fun _ => ⟨rfl, rfl⟩⟩, fun _ => ⟨rfl, rfl⟩⟩, fun _ => ⟨rfl, rfl⟩⟩, fun _ => ⟨rfl, rfl⟩⟩, fun _ => ⟨rfl, rfl⟩⟩, fun _ => ⟨rfl, rfl⟩⟩, fun _ => ⟨rfl, rfl⟩⟩, fun _ => ⟨rfl, rfl⟩⟩, fun _ => ⟨rfl, rfl⟩⟩ ?_ ?_
        · refine ⟨⟨⟨⟨⟨⟨⟨⟨⟨⟨⟨trivial, ?_⟩, ?_⟩, ?_⟩, ?_⟩, ?_⟩, ?_⟩, ?_⟩, ?_⟩, ?_⟩, ?_⟩, ?_⟩
          · exact loc_det rfl rfl (fun _ => rfl) trivial (fun g hΦ s h hs hh => ⟨.none, (stp_fieldAddr (j := 1) Tryd.underlying26 rfl ts24 rfl (sv hs 2 rfl) rfl)⟩)
          · exact loc_det rfl rfl (fun _ => rfl) trivial (fun g hΦ s h hs hh => ⟨.none, (stp_load1 ts24 (sv hs 25 rfl) (Cells.box (id := 0) (hh.get 0 _ rfl) 1 rfl))⟩)
          · exact loc_det rfl rfl (fun _ => rfl) trivial (fun g hΦ s h hs hh => ⟨.none, (stp_move (sv hs 6 rfl))⟩)
          · exact loc_det rfl rfl (fun _ => rfl) trivial (fun g hΦ s h hs hh => ⟨.none, (stp_move (sv hs 8 rfl))⟩)
          · exact loc_det rfl rfl (fun _ => rfl) trivial (fun g hΦ s h hs hh => ⟨.none, (stp_indexAddr Tryd.underlying23 ts3 (by decide) (sv hs 27 rfl) rfl (sv hs 28 rfl) (Rdb.own (id := 2) (hh.get 2 _ rfl) o8) e11)⟩)
          · exact loc_det rfl rfl (fun _ => rfl) trivial (fun g hΦ s h hs hh => ⟨.none, (stp_load1 ts3 (sv hs 29 rfl) (Cells.el (Rdb.own (id := 2) (hh.get 2 _ rfl) o8) (by decide) e11 0 1 rfl))⟩)
          · exact loc_det rfl rfl (fun _ => rfl) trivial (fun g hΦ s h hs hh => ⟨.none, (stp_indexAddr Tryd.underlying24 ts53 (by decide) (sv hs 26 rfl) rfl (sv hs 30 rfl) (Rdb.ro hr0_1) e12)⟩)
          · exact loc_det rfl rfl (fun _ => rfl) trivial (fun g hΦ s h hs hh => ⟨.none, (stp_fieldAddr (j := 1) Tryd.underlying53 rfl ts28 rfl (sv hs 31 rfl) rfl)⟩)
          · exact loc_det rfl rfl (fun _ => rfl) trivial (fun g hΦ s h hs hh => ⟨.none, (stp_loadN (us := [_, _]) ts28 (sv hs 32 rfl) (Cells.el (Rdb.ro hr0_1) (by decide) e12 1 2 rfl))⟩)
          · exact loc_det rfl rfl (fun _ => rfl) trivial (fun g hΦ s h hs hh => ⟨.none, (stp_loadN (us := [_, _]) ts28 (sv hs 3 rfl) (Cells.box (id := 1) (hh.get 1 _ rfl) 2 rfl))⟩)
          · exact loc_det rfl rfl (fun _ => rfl) trivial (fun g hΦ s h hs hh => ⟨.none, (stp_eqlS te28 x12.k a1 (sv hs 33 rfl) (sv hs 34 rfl))⟩)
        · intro g hΦ
          refine KW.sub (s' := [(2, .pointer (some ⟨b1, 0, none⟩)), (3, .pointer (some ⟨b2, 0, none⟩)), (6, .slice p5 ((x4.1).length) c7), (8, .int .i64 v9), (35, .bool (x12.k == a1))]) (h' := [(0, [(b1, .cells #[.slice p0_0 ((a0.b).length) c0_0, .slice p0_1 ((a0.f).length) c0_1] 26 (0, 0))]), (1, [(b2, .cells #[.int .i64 a1.s, .int .i64 a1.p] 28 (0, 0))]), (2, C8)]) ?_ ⟨rfl, rfl, rfl, rfl, rfl, trivial⟩ ⟨rfl, rfl, rfl, trivial⟩
          refine kw_nx ?_
          refine cw_cond rfl (fun h13 => ?_) (fun h13 => ?_)
          · have H1 := cond_t H1 h13
            refine cw_seq ?_
            refine cw_region ?_
            refine ow_det .none (stp_move rfl) rfl ?_
            refine ow_det .none (stp_move rfl) rfl ?_
            refine ow_det .none (stp_indexAddr Tryd.underlying23 ts3 (by decide) rfl rfl rfl (Rdb.own (id := 2) rfl o8) e11) rfl ?_
            refine ow_det .none (stp_load1 ts3 rfl (Cells.el (Rdb.own (id := 2) rfl o8) (by decide) e11 0 1 rfl)) rfl ?_
            refine ow_det .none (stp_move rfl) rfl ?_
            obtain ⟨x14, e14, H1⟩ := bind_some H1
            refine ow_det .none (stp_add rfl rfl e14) rfl ?_
            refine ow_det .none (stp_assign rfl) rfl ?_
            refine ow_det .none (stp_assign rfl) rfl ?_
            refine ow_nil ?_
            refine kw_nx ?_
            refine cw_ret ?_
            refine kw_bl_ret ?_
            refine kw_nx_ret ?_
            refine kw_lq_ret ?_
            refine kw_bl_ret ?_
            refine kw_join_ret ?_
            refine kw_nx_ret ?_
            have q1 := Option.some.inj H1
            subst q1
            have q0 := Option.some.inj H0
            subst q0
            exact kw_ret Tryd.results47 (.cons (.tmp rfl) (.cons (.tmp rfl) .nil)) [] [] trivial (by decide) ⟨rfl, rfl⟩
          · have H1 := cond_f H1 h13
            refine cw_skip ?_
            refine kw_bl_normal ?_
            refine kw_nx ?_
            refine cw_region ?_
            refine ow_det .none (stp_move rfl) rfl ?_
            obtain ⟨x15, e15, H1⟩ := bind_some H1
            refine ow_det .none (stp_add rfl rfl e15) rfl ?_
            refine ow_det .none (stp_assign rfl) rfl ?_
            refine ow_nil ?_
            exact kw_lqS (js := [0, 1, 2]) (fuel, x15) H1 (Nat.lt_succ_self _) ⟨rfl, rfl, rfl, rfl, trivial⟩ ⟨0, [1, 2], rfl, rfl, 1, [2], rfl, rfl, 2, [], rfl, rfl, trivial⟩ (by decide)
      · have H1 := cond_f H1 h10
        refine cw_exit ?_
        refine kw_nx_exit ?_
        refine kw_lq_exit ?_
        refine kw_bl ?_
        have q1 := Option.some.inj H1
        subst q1
        exact kw_joinS (js := [0, 1, 2]) v9 rfl ⟨rfl, rfl, rfl, rfl, trivial⟩ ⟨0, [1, 2], rfl, rfl, 1, [2], rfl, rfl, 2, [], rfl, rfl, trivial⟩ (by decide)
    · rintro v9 rfl
      refine KW.sub (s' := [(2, .pointer (some ⟨b1, 0, none⟩)), (3, .pointer (some ⟨b2, 0, none⟩)), (6, .slice p5 ((x4.1).length) c7), (8, .int .i64 v9)]) (h' := [(0, [(b1, .cells #[.slice p0_0 ((a0.b).length) c0_0, .slice p0_1 ((a0.f).length) c0_1] 26 (0, 0))]), (1, [(b2, .cells #[.int .i64 a1.s, .int .i64 a1.p] 28 (0, 0))]), (2, C8)]) ?_ ⟨rfl, rfl, rfl, rfl, trivial⟩ ⟨rfl, rfl, rfl, trivial⟩
      refine kw_nx ?_
      refine cw_seq ?_
      refine cw_region ?_
      refine ow_det .none (stp_move rfl) rfl ?_
      refine ow_det .none (stp_len Tryd.underlying23 rfl) rfl ?_
      refine ow_det .none (stp_assign rfl) rfl ?_
      refine ow_det .none (stp_assign rfl) rfl ?_
      refine ow_nil ?_
      refine kw_nx ?_
      refine cw_ret ?_
      have q0 := Option.some.inj H0
      subst q0
      exact kw_ret Tryd.results47 (.cons (.tmp rfl) (.cons (.tmp rfl) .nil)) [] [] trivial (by decide) ⟨rfl, rfl⟩

set_option maxHeartbeats 4000000 in
set_option maxRecDepth 20000 in
theorem c_s_l3Copy (fl : Nat) (w : World) (a0 : T) (p0_0 : Option Addr) (n0_0 c0_0 : Nat) (p0_1 : Option Addr) (n0_1 c0_1 : Nat) (hn0_0 : n0_0 = (a0.b).length) (hr0_0 : RO w (hkeys []) (RdL p0_0 c0_0 a0.b)) (hn0_1 : n0_1 = (a0.f).length) (hr0_1 : RO w (hkeys []) (RdL p0_1 c0_1 a0.f)) (r : T) (H0 : s_l3Copy fl a0 = some r) :
    Ct Tryd.prog 57 [.agg #[.slice p0_0 n0_0 c0_0, .slice p0_1 n0_1 c0_1]] w [] (fun rv h' => ∃ (x0 : Option Addr) (y0 z0 : Nat) (C0 : Res) (x1 : Option Addr) (y1 z1 : Nat) (C1 : Res), rv = .agg #[.slice x0 y0 z0, .slice x1 y1 z1] ∧ h' = [(0, C0), (1, C1)] ∧ y0 = (r.b).length ∧ OwnC 3 x0 z0 r.b C0 ∧ y1 = (r.f).length ∧ OwnC 53 x1 z1 r.f C1) := by
  obtain rfl := hn0_0
  obtain rfl := hn0_1
  unfold s_l3Copy at H0
  refine ct_of_cw Tryd.func57 rfl Tryd.ntmps57 rfl (Sat.refl _ _) ?_
  refine cw_seq ?_
  refine cw_region ?_
  refine ow_eff .none (stpU_box 0 rfl rfl) rfl ?_
  rintro _ _ ⟨b1, rfl, rfl⟩
  refine ow_eff .none (stpU_alloc 1 tz26 rfl) rfl ?_
  rintro _ _ ⟨b2, rfl, rfl⟩
  refine ow_nil ?_
  refine kw_nx ?_
  refine cw_seq ?_
  obtain ⟨x5, e5, H0⟩ := bind_some H0
  obtain ⟨x11, e11, H0⟩ := bind_some H0
  refine region_drawn { dst := fun i => match i with | 0 => some 3 | 1 => some 4 | 2 => some 5 | 3 => some 6 | 4 => some 7 | 5 => some 8 | 6 => some 9 | 7 => some 10 | 8 => some 11 | _ => none, pre := fun i => match i with | 2 => [1] | 3 => [0, 1, 2] | 6 => [5] | 7 => [0, 1, 2, 3, 4, 5, 6] | 8 => [0, 1, 2, 3, 4, 5, 6, 7] | 9 => [0, 1, 2, 3, 4, 5, 6, 7, 8] | _ => [], ids := fun i => match i with | 0 => [2] | 3 => [2] | 4 => [3] | 7 => [3] | 9 => [1] | _ => [], rs := fun i => match i with | 1 => [(1, none)] | 2 => [(4, some 1)] | 3 => [(3, some 0), (5, some 2)] | 5 => [(1, none)] | 6 => [(8, some 5)] | 7 => [(7, some 4), (9, some 6)] | 8 => [(6, some 3), (10, some 7)] | 9 => [(2, none), (11, some 8)] | _ => [], rh := fun i => match i with | 2 => [(0, none)] | 3 => [(2, some 0)] | 6 => [(0, none)] | 7 => [(3, some 4)] | 9 => [(1, none)] | _ => [], V := fun i g => match i with | 0 => .slice ((g 0).A 0) 0 0 | 1 => .pointer (some ⟨b1, 0, none⟩) | 2 => .slice p0_0 ((a0.b).length) c0_0 | 3 => .slice ((g 3).A 0) ((x5).length) ((g 3).C 0) | 4 => .slice ((g 4).A 0) 0 0 | 5 => .pointer (some ⟨b1, 1, none⟩) | 6 => .slice p0_1 ((a0.f).length) c0_1 | 7 => .slice ((g 7).A 0) ((x11).length) ((g 7).C 0) | 8 => .agg #[.slice ((g 3).A 0) ((x5).length) ((g 3).C 0), .slice ((g 7).A 0) ((x11).length) ((g 7).C 0)] | _ => undef, U := fun i g => match i with | 0 => [(2, ((g 0).R 0))] | 3 => [(2, ((g 3).R 0))] | 4 => [(3, ((g 4).R 0))] | 7 => [(3, ((g 7).R 0))] | 9 => [(1, [(b2, .cells #[.slice ((g 3).A 0) ((x5).length) ((g 3).C 0), .slice ((g 7).A 0) ((x11).length) ((g 7).C 0)] 26 (0, 0))])] | _ => [], Φ := fun i x => match i with | 0 => OwnC (α := Int) 3 (x.A 0) 0 ([] : List Int) (x.R 0) | 3 => OwnC (α := Int) 3 (x.A 0) (x.C 0) x5 (x.R 0) | 4 => OwnC (α := F) 53 (x.A 0) 0 ([] : List F) (x.R 0) | 7 => OwnC (α := F) 53 (x.A 0) (x.C 0) x11 (x.R 0) | _ => True } g_mixed [1, 2] [0, 1] (by kernel_rfl) (by kernel_rfl) (by kernel_rfl) ⟨⟨⟨⟨⟨⟨⟨⟨⟨⟨trivial, fun _ => ⟨rfl, rfl⟩⟩, fun _ => ⟨rfl, rfl⟩⟩, fun _ => ⟨rfl, rfl⟩⟩, fun _ => ⟨rfl, rfl⟩⟩, fun _ => ⟨rfl, rfl⟩⟩, fun _ => ⟨rfl, rfl⟩⟩, fun _ => ⟨rfl, rfl⟩⟩, fun _ => ⟨rfl, rfl⟩⟩, fun _ => ⟨rfl, rfl⟩⟩, fun _ => ⟨rfl, rfl⟩⟩ ?_ ?_
  · refine ⟨⟨⟨⟨⟨⟨⟨⟨⟨⟨trivial, ?_⟩, ?_⟩, ?_⟩, ?_⟩, ?_⟩, ?_⟩, ?_⟩, ?_⟩, ?_⟩, ?_⟩
    · refine loc_eff rfl rfl (fun g hΦ s h hs hh => ⟨.none, (stpU_lit0 sl23 2)⟩) ?_
      rintro g _ _ ⟨p3, C4, rfl, rfl, o4⟩
      exact ⟨⟨[p3], [], [C4]⟩, o4, .inr rfl, rfl⟩
    · exact loc_det rfl rfl (fun _ => rfl) trivial (fun g hΦ s h hs hh => ⟨.none, (stp_fieldAddr (j := 0) Tryd.underlying26 rfl ts23 rfl (sv hs 1 rfl) rfl)⟩)
    · exact loc_det rfl rfl (fun _ => rfl) trivial (fun g hΦ s h hs hh => ⟨.none, (stp_load1 ts23 (sv hs 4 rfl) (Cells.box (id := 0) (hh.get 0 _ rfl) 1 rfl))⟩)
    · refine loc_eff rfl rfl (fun g hΦ s h hs hh => ⟨.none, (stpU_append sl23 rfl (id := 2) (sv hs 3 rfl) (by simp) (sv hs 5 rfl) rfl (hh.get 2 _ rfl) (hΦ 0 rfl) (Rdb.ro hr0_0) e5)⟩) ?_
      rintro g _ _ ⟨p6, c7, C8, rfl, rfl, o8⟩
      exact ⟨⟨[p6], [c7], [C8]⟩, o8, .inr rfl, rfl⟩
    · refine loc_eff rfl rfl (fun g hΦ s h hs hh => ⟨.none, (stpU_lit0 sl24 3)⟩) ?_
      rintro g _ _ ⟨p9, C10, rfl, rfl, o10⟩
      exact ⟨⟨[p9], [], [C10]⟩, o10, .inr rfl, rfl⟩
    · exact loc_det rfl rfl (fun _ => rfl) trivial (fun g hΦ s h hs hh => ⟨.none, (stp_fieldAddr (j := 1) Tryd.underlying26 rfl ts24 rfl (sv hs 1 rfl) rfl)⟩)
    · exact loc_det rfl rfl (fun _ => rfl) trivial (fun g hΦ s h hs hh => ⟨.none, (stp_load1 ts24 (sv hs 8 rfl) (Cells.box (id := 0) (hh.get 0 _ rfl) 1 rfl))⟩)
    · refine loc_eff rfl rfl (fun g hΦ s h hs hh => ⟨.none, (stpU_append sl24 rfl (id := 3) (sv hs 7 rfl) (by simp) (sv hs 9 rfl) rfl (hh.get 3 _ rfl) (hΦ 4 rfl) (Rdb.ro hr0_1) e11)⟩) ?_
      rintro g _ _ ⟨p12, c13, C14, rfl, rfl, o14⟩
      exact ⟨⟨[p12], [c13], [C14]⟩, o14, .inr rfl, rfl⟩
    · exact loc_det rfl rfl (fun _ => rfl) trivial (fun g hΦ s h hs hh => ⟨.none, (stp_build (cs := #[.slice ((g 3).A 0) ((x5).length) ((g 3).C 0), .slice ((g 7).A 0) ((x11).length) ((g 7).C 0)]) (sevp_cons (sv hs 6 rfl) (sevp_cons (sv hs 10 rfl) sevp_nil)) (by rfl))⟩)
    · refine loc_eff rfl rfl (fun g hΦ s h hs hh => ⟨.none, (stpU_store (id := 1) (cs' := [.slice ((g 3).A 0) ((x5).length) ((g 3).C 0), .slice ((g 7).A 0) ((x11).length) ((g 7).C 0)]) ts26 (sv hs 2 rfl) (sv hs 11 rfl) (hh.get 1 _ rfl) rfl rfl rfl rfl)⟩) ?_
      rintro g _ _ rfl
      exact ⟨⟨[], [], []⟩, trivial, .inl rfl, rfl⟩
  · intro g hΦ
    refine kw_gen (ι := Option Addr × Res × Option Addr × Nat × Res × Option Addr × Res × Option Addr × Nat × Res) (((g 0).A 0), ((g 0).R 0), ((g 3).A 0), ((g 3).C 0), ((g 3).R 0), ((g 4).A 0), ((g 4).R 0), ((g 7).A 0), ((g 7).C 0), ((g 7).R 0)) (fun | (p3, C4, p6, c7, C8, p9, C10, p12, c13, C14) => OwnC (α := Int) 3 p3 0 ([] : List Int) C4 ∧ OwnC (α := Int) 3 p6 c7 x5 C8 ∧ OwnC (α := F) 53 p9 0 ([] : List F) C10 ∧ OwnC (α := F) 53 p12 c13 x11 C14) (fun | (p3, C4, p6, c7, C8, p9, C10, p12, c13, C14) => [(2, .pointer (some ⟨b2, 0, none⟩))]) (fun | (p3, C4, p6, c7, C8, p9, C10, p12, c13, C14) => [(1, [(b2, .cells #[.slice p6 ((x5).length) c7, .slice p12 ((x11).length) c13] 26 (0, 0))]), (2, C8), (3, C14)]) ⟨(hΦ 0 (by decide)), (hΦ 3 (by decide)), (hΦ 4 (by decide)), (hΦ 7 (by decide))⟩ ⟨rfl, trivial⟩ ⟨rfl, rfl, rfl, trivial⟩ ?_
    rintro ⟨p3, C4, p6, c7, C8, p9, C10, p12, c13, C14⟩ ⟨o4, o8, o10, o14⟩
    refine KW.sub (s' := [(2, .pointer (some ⟨b2, 0, none⟩))]) (h' := [(1, [(b2, .cells #[.slice p6 ((x5).length) c7, .slice p12 ((x11).length) c13] 26 (0, 0))]), (2, C8), (3, C14)]) ?_ ⟨rfl, trivial⟩ ⟨rfl, rfl, rfl, trivial⟩
    refine kw_nx ?_
    refine cw_ret ?_
    have q0 := Option.some.inj H0
    subst q0
    exact kw_ret Tryd.results57 (.cons (.cellN (us := [_, _]) ts26 rfl (Cells.box (id := 1) rfl 2 rfl)) .nil) [(0, C8), (1, C14)] [2, 3] ⟨2, [3], rfl, rfl, 3, [], rfl, rfl, trivial⟩ (by decide) ⟨p6, ((x5).length), c7, C8, p12, ((x11).length), c13, C14, rfl, rfl, rfl, o8, rfl, o14⟩

theorem c_i_TableValid (fl : Nat) (w : World) (a0 : T) (p0_0 : Option Addr) (n0_0 c0_0 : Nat) (p0_1 : Option Addr) (n0_1 c0_1 : Nat) (hn0_0 : n0_0 = (a0.b).length) (hr0_0 : RO w (hkeys []) (RdL p0_0 c0_0 a0.b)) (hn0_1 : n0_1 = (a0.f).length) (hr0_1 : RO w (hkeys []) (RdL p0_1 c0_1 a0.f)) (hg : RO w (hkeys []) (fun w' => w'.rangeAt 0 0 [.bool false, .int .i64 0, .int .i64 0, .int .i64 0, .int .i64 (-1)])) (r : Bool) (H0 : i_TableValid fl a0 = some r) :
    Ct Tryd.prog 18 [.agg #[.slice p0_0 n0_0 c0_0, .slice p0_1 n0_1 c0_1]] w [] (fun rv h' => rv = .bool r ∧ h' = []) := by
  obtain rfl := hn0_0
  obtain rfl := hn0_1
  unfold i_TableValid at H0
  obtain rfl := Option.some.inj H0
  exact ct_of_calls (tableValid_c _ a0 w ⟨_, _, rfl, (hr0_0 w (Fr.refl _ _)).rd, (hr0_1 w (Fr.refl _ _)).rd⟩ (freeG_of (hg w (Fr.refl _ _))))

set_option maxHeartbeats 4000000 in
set_option maxRecDepth 20000 in
theorem c_i_within (fl : Nat) (w : World) (a0 : Int) (a1 : Int) (r : Bool) (H0 : i_within fl a0 a1 = some r) :
    Ct Tryd.prog 40 [.int .i64 a0, .int .i64 a1] w [] (fun rv h' => rv = .bool r ∧ h' = []) := by
  unfold i_within at H0
  refine ct_of_cw Tryd.func40 rfl Tryd.ntmps40 rfl (Sat.refl _ _) ?_
  refine cw_seq ?_
  refine cw_region ?_
  refine ow_det .none (stp_assign rfl) rfl ?_
  refine ow_nil ?_
  refine kw_nx ?_
  refine cw_seq ?_
  refine cw_region ?_
  refine ow_det .none (stp_move rfl) rfl ?_
  refine ow_det .none (stp_geq rfl rfl) rfl ?_
  refine ow_det .none (stp_move rfl) rfl ?_
  obtain ⟨y1, ey1, H0⟩ := bind_some H0
  refine ow_cutY 4 11 y1 ?_ ?_
  · rcases Bool.eq_false_or_eq_true (decide (0 ≤ a0)) with hy1 | hy1
    · have ey1 := cond_t ey1 hy1
      refine ow_det (.some rfl hy1) (stp_move rfl) rfl ?_
      refine ow_det (.some rfl hy1) (stp_move rfl) rfl ?_
      refine ow_det (.some rfl hy1) (stp_lss rfl rfl) rfl ?_
      refine ow_det .none (stp_pick_t rfl hy1 rfl) rfl ?_
      obtain rfl := Option.some.inj ey1
      exact ow_nil (kw_jy (.top rfl (.cons rfl (.cons rfl (.cons rfl (.cons rfl (.refl _)))))) (.refl _))
    · have ey1 := cond_f ey1 hy1
      refine ow_off (.some rfl hy1) rfl ?_
      refine ow_off (.some rfl hy1) rfl ?_
      refine ow_off (.some rfl hy1) rfl ?_
      refine ow_det .none (stp_pick_f rfl hy1 rfl) rfl ?_
      obtain rfl := Option.some.inj ey1
      exact ow_nil (kw_jy (.top rfl (.cons rfl (.cons rfl (.cons rfl (.cons rfl (.refl _)))))) (.refl _))
  · refine ow_det .none (stp_assign rfl) rfl ?_
    refine ow_nil ?_
    refine kw_nx ?_
    refine cw_ret ?_
    have q0 := Option.some.inj H0
    subst q0
    exact kw_ret Tryd.results40 (.cons (.tmp rfl) .nil) [] [] trivial (by decide) ⟨rfl, rfl⟩

set_option maxHeartbeats 4000000 in
set_option maxRecDepth 20000 in
theorem c_i_KeyValid (fl : Nat) (w : World) (a0 : K) (r : Bool) (H0 : i_KeyValid fl a0 = some r) :
    Ct Tryd.prog 38 [.agg #[.int .i64 a0.s, .int .i64 a0.p]] w [] (fun rv h' => rv = .bool r ∧ h' = []) := by
  unfold i_KeyValid at H0
  refine ct_of_cw Tryd.func38 rfl Tryd.ntmps38 rfl (Sat.refl _ _) ?_
  refine cw_seq ?_
  refine cw_region ?_
  refine ow_eff .none (stpU_box 0 rfl rfl) rfl ?_
  rintro _ _ ⟨b1, rfl, rfl⟩
  refine ow_det .none (stp_assign rfl) rfl ?_
  refine ow_nil ?_
  refine kw_nx ?_
  refine cw_seq ?_
  refine cw_region ?_
  refine ow_det .none (stp_fieldAddr (j := 0) Tryd.underlying28 rfl ts3 rfl rfl rfl) rfl ?_
  refine ow_det .none (stp_load1 ts3 rfl (Cells.box (id := 0) rfl 1 rfl)) rfl ?_
  obtain ⟨x2, e2, H0⟩ := bind_some H0
  refine ow_eff .none (stpU_call (fun i => 1 + i) cf40 (fun w hw => c_i_within fl w a0.s 16 x2 e2) (sevs_cons rfl (sevs_cons rfl sevs_nil))) rfl ?_
  rintro _ _ ⟨_, ⟨rfl, rfl⟩, rfl⟩
  refine ow_det .none (stp_move rfl) rfl ?_
  obtain ⟨y3, ey3, H0⟩ := bind_some H0
  refine ow_cutY 4 10 y3 ?_ ?_
  · rcases Bool.eq_false_or_eq_true x2 with hy3 | hy3
    · have ey3 := cond_t ey3 hy3
      refine ow_det (.some rfl hy3) (stp_fieldAddr (j := 1) Tryd.underlying28 rfl ts3 rfl rfl rfl) rfl ?_
      refine ow_det (.some rfl hy3) (stp_load1 ts3 rfl (Cells.box (id := 0) rfl 1 rfl)) rfl ?_
      obtain ⟨x4, e4, ey3⟩ := bind_some ey3
      refine ow_eff (.some rfl hy3) (stpU_call (fun i => 1 + i) cf40 (fun w hw => c_i_within fl w a0.p 256 x4 e4) (sevs_cons rfl (sevs_cons rfl sevs_nil))) rfl ?_
      rintro _ _ ⟨_, ⟨rfl, rfl⟩, rfl⟩
      refine ow_det .none (stp_pick_t rfl hy3 rfl) rfl ?_
      obtain rfl := Option.some.inj ey3
      exact ow_nil (kw_jy (.top rfl (.cons rfl (.cons rfl (.cons rfl (.cons rfl (.refl _)))))) (.refl _))
    · have ey3 := cond_f ey3 hy3
      refine ow_off (.some rfl hy3) rfl ?_
      refine ow_off (.some rfl hy3) rfl ?_
      refine ow_off (.some rfl hy3) rfl ?_
      refine ow_det .none (stp_pick_f rfl hy3 rfl) rfl ?_
      obtain rfl := Option.some.inj ey3
      exact ow_nil (kw_jy (.top rfl (.cons rfl (.cons rfl (.cons rfl (.cons rfl (.refl _)))))) (.refl _))
  · refine ow_det .none (stp_assign rfl) rfl ?_
    refine ow_nil ?_
    refine kw_nx ?_
    refine cw_ret ?_
    have q0 := Option.some.inj H0
    subst q0
    exact kw_ret Tryd.results38 (.cons (.tmp rfl) .nil) [] [] trivial (by decide) ⟨rfl, rfl⟩

set_option maxHeartbeats 4000000 in
set_option maxRecDepth 20000 in
theorem c_i_Table_find_1 (fl : Nat) (w : World) (a0 : F) (qc0 : Nat) (ac0 : K) (hbac0 : RO w (hkeys []) (fun w' => w'.rangeAt qc0 0 [.int .i64 ac0.s, .int .i64 ac0.p])) (r : Bool) (H0 : i_Table_find_1 fl a0 ac0 = some r) :
    Ct Tryd.prog 78 [.agg #[.bool a0.u, .int .i64 a0.k.s, .int .i64 a0.k.p, .int .i64 a0.r, .int .i64 a0.nx], .pointer (some ⟨qc0, 0, none⟩)] w [] (fun rv h' => rv = .bool r ∧ h' = []) := by
  unfold i_Table_find_1 at H0
  refine ct_of_cw Tryd.func78 rfl Tryd.ntmps78 rfl (Sat.refl _ _) ?_
  refine cw_seq ?_
  refine cw_region ?_
  refine ow_eff .none (stpU_box 0 rfl rfl) rfl ?_
  rintro _ _ ⟨b1, rfl, rfl⟩
  refine ow_det .none (stp_assign rfl) rfl ?_
  refine ow_nil ?_
  refine kw_nx ?_
  refine cw_seq ?_
  refine cw_region ?_
  refine ow_det .none (stp_fieldAddr (j := 0) Tryd.underlying53 rfl ts4 rfl rfl rfl) rfl ?_
  refine ow_det .none (stp_load1 ts4 rfl (Cells.box (id := 0) rfl 1 rfl)) rfl ?_
  refine ow_det .none (stp_move rfl) rfl ?_
  obtain ⟨y2, ey2, H0⟩ := bind_some H0
  refine ow_cutY 5 11 y2 ?_ ?_
  · rcases Bool.eq_false_or_eq_true a0.u with hy2 | hy2
    · have ey2 := cond_t ey2 hy2
      refine ow_det (.some rfl hy2) (stp_fieldAddr (j := 1) Tryd.underlying53 rfl ts28 rfl rfl rfl) rfl ?_
      refine ow_det (.some rfl hy2) (stp_loadN (us := [_, _]) ts28 rfl (Cells.box (id := 0) rfl 2 rfl)) rfl ?_
      refine ow_det (.some rfl hy2) (stp_loadN (us := [_, _]) ts28 rfl (Cells.ofRO hbac0 2 rfl)) rfl ?_
      refine ow_det (.some rfl hy2) (stp_eqlS te28 a0.k ac0 rfl rfl) rfl ?_
      refine ow_det .none (stp_pick_t rfl hy2 rfl) rfl ?_
      obtain rfl := Option.some.inj ey2
      exact ow_nil (kw_jy (.top rfl (.cons rfl (.cons rfl (.cons rfl (.cons rfl (.cons rfl (.refl _))))))) (.refl _))
    · have ey2 := cond_f ey2 hy2
      refine ow_off (.some rfl hy2) rfl ?_
      refine ow_off (.some rfl hy2) rfl ?_
      refine ow_off (.some rfl hy2) rfl ?_
      refine ow_off (.some rfl hy2) rfl ?_
      refine ow_det .none (stp_pick_f rfl hy2 rfl) rfl ?_
      obtain rfl := Option.some.inj ey2
      exact ow_nil (kw_jy (.top rfl (.cons rfl (.cons rfl (.cons rfl (.cons rfl (.cons rfl (.refl _))))))) (.refl _))
  · refine ow_det .none (stp_assign rfl) rfl ?_
    refine ow_nil ?_
    refine kw_nx ?_
    refine cw_ret ?_
    have q0 := Option.some.inj H0
    subst q0
    exact kw_ret Tryd.results78 (.cons (.tmp rfl) .nil) [] [] trivial (by decide) ⟨rfl, rfl⟩

set_option maxHeartbeats 4000000 in
set_option maxRecDepth 20000 in
theorem c_slices_IndexFunc_Frame_of_i_Table_find_1 (fl : Nat) (w : World) (a0 : (List F)) (p0_0 : Option Addr) (n0_0 c0_0 : Nat) (q1_0 : Nat) (a1_0 : K) (hn0_0 : n0_0 = (a0).length) (hr0_0 : RO w (hkeys []) (RdL p0_0 c0_0 a0)) (hba1_0 : RO w (hkeys []) (fun w' => w'.rangeAt q1_0 0 [.int .i64 a1_0.s, .int .i64 a1_0.p])) (r : Int) (H0 : slices_IndexFunc_Frame_of_i_Table_find_1 fl a0 a1_0 = some r) :
    Ct Tryd.prog 77 [.slice p0_0 n0_0 c0_0, .func (.func 78) #[] #[.pointer (some ⟨q1_0, 0, none⟩)]] w [] (fun rv h' => rv = .int .i64 r ∧ h' = []) := by
  obtain rfl := hn0_0
  unfold slices_IndexFunc_Frame_of_i_Table_find_1 at H0
  refine ct_of_cw Tryd.func77 rfl Tryd.ntmps77 rfl (Sat.refl _ _) ?_
  refine cw_seq ?_
  refine cw_region ?_
  refine ow_det .none (stp_assign rfl) rfl ?_
  refine ow_nil ?_
  refine kw_nx ?_
  refine cw_seq ?_
  refine cw_seq ?_
  refine cw_region ?_
  refine ow_det .none (stp_move rfl) rfl ?_
  refine ow_det .none (stp_len Tryd.underlying24 rfl) rfl ?_
  refine ow_det .none (stp_move rfl) rfl ?_
  refine ow_nil ?_
  refine kw_nx ?_
  obtain ⟨o0_0, eo0_0, H0⟩ := bind_some H0
  refine cw_join (ι := Int) (fun | v1 => o0_0 = .out v1) (fun | v1 => [(0, .slice p0_0 ((a0).length) c0_0), (1, .func (.func 78) #[] #[.pointer (some ⟨q1_0, 0, none⟩)]), (7, .int .i64 ((a0).length : Int)), (8, .int .i64 v1)]) (fun | v1 => []) ?_ ?_
  · refine cw_block ?_
    refine cw_loopS (ι := Nat × Int) (js := []) (fun x => x.1) (fun | (fuel, v1) => slices_IndexFunc_Frame_of_i_Table_find_1_L0 fl a0 a1_0 fuel v1 = some o0_0) (fun | (_, v1) => [(0, .slice p0_0 ((a0).length) c0_0), (1, .func (.func 78) #[] #[.pointer (some ⟨q1_0, 0, none⟩)]), (7, .int .i64 ((a0).length : Int)), (8, .int .i64 v1)]) (fun | (_, v1) => []) (fl, 0) eo0_0 ⟨rfl, rfl, rfl, rfl, trivial⟩ trivial (by decide) ?_
    rintro ⟨fuel, v1⟩ H1
    have H1 : slices_IndexFunc_Frame_of_i_Table_find_1_L0 fl a0 a1_0 fuel v1 = some o0_0 := H1
    rcases fuel with _ | fuel
    · rw [slices_IndexFunc_Frame_of_i_Table_find_1_L0.eq_1] at H1; cases H1
    rw [slices_IndexFunc_Frame_of_i_Table_find_1_L0.eq_2] at H1
    refine CW.sub (s' := [(0, .slice p0_0 ((a0).length) c0_0), (1, .func (.func 78) #[] #[.pointer (some ⟨q1_0, 0, none⟩)]), (7, .int .i64 ((a0).length : Int)), (8, .int .i64 v1)]) (h' := []) ?_ ⟨rfl, rfl, rfl, rfl, trivial⟩ trivial
    refine cw_seq ?_
    refine cw_region ?_
    refine ow_det .none (stp_lss rfl rfl) rfl ?_
    refine ow_nil ?_
    refine kw_nx ?_
    refine cw_seq ?_
    refine cw_cond rfl (fun h2 => ?_) (fun h2 => ?_)
    · have H1 := cond_t H1 h2
      refine cw_skip ?_
      refine kw_nx ?_
      refine cw_seq ?_
      refine cw_block ?_
      refine cw_seq ?_
      refine cw_region ?_
      refine ow_det .none (stp_move rfl) rfl ?_
      refine ow_det .none (stp_assign rfl) rfl ?_
      refine ow_nil ?_
      refine kw_nx ?_
      refine cw_seq ?_
      refine cw_region ?_
      refine ow_det .none (stp_move rfl) rfl ?_
      refine ow_det .none (stp_move rfl) rfl ?_
      refine ow_det .none (stp_move rfl) rfl ?_
      obtain ⟨x3, e3, H1⟩ := bind_some H1
      refine ow_det .none (stp_indexAddr Tryd.underlying24 ts53 (by decide) rfl rfl rfl (Rdb.ro hr0_0) e3) rfl ?_
      refine ow_det .none (stp_loadN (us := [_, _, _, _, _]) ts53 rfl (Cells.el (Rdb.ro hr0_0) (by decide) e3 0 5 rfl)) rfl ?_
      obtain ⟨x4, e4, H1⟩ := bind_some H1
      refine ow_eff .none (stpU_callF (vals := [_]) (ca := [_]) (fun i => 0 + i) cf78 (fun w hw => c_i_Table_find_1 fl w x3 q1_0 a1_0 (RO.pass hba1_0 hw) x4 e4) rfl (sevs_cons rfl sevs_nil)) rfl ?_
      rintro _ _ ⟨_, ⟨rfl, rfl⟩, rfl⟩
      refine ow_nil ?_
      refine kw_nx ?_
      refine cw_cond rfl (fun h5 => ?_) (fun h5 => ?_)
      · have H1 := cond_t H1 h5
        refine cw_seq ?_
        refine cw_region ?_
        refine ow_det .none (stp_move rfl) rfl ?_
        refine ow_det .none (stp_assign rfl) rfl ?_
        refine ow_nil ?_
        refine kw_nx ?_
        refine cw_ret ?_
        refine kw_bl_ret ?_
        refine kw_nx_ret ?_
        refine kw_lq_ret ?_
        refine kw_bl_ret ?_
        refine kw_join_ret ?_
        refine kw_nx_ret ?_
        have q1 := Option.some.inj H1
        subst q1
        have q0 := Option.some.inj H0
        subst q0
        exact kw_ret Tryd.results77 (.cons (.tmp rfl) .nil) [] [] trivial (by decide) ⟨rfl, rfl⟩
      · have H1 := cond_f H1 h5
        refine cw_skip ?_
        refine kw_bl_normal ?_
        refine kw_nx ?_
        refine cw_region ?_
        obtain ⟨x6, e6, H1⟩ := bind_some H1
        refine ow_det .none (stp_add rfl rfl e6) rfl ?_
        refine ow_det .none (stp_move rfl) rfl ?_
        refine ow_nil ?_
        exact kw_lqS (js := []) (fuel, x6) H1 (Nat.lt_succ_self _) ⟨rfl, rfl, rfl, rfl, trivial⟩ trivial (by decide)
    · have H1 := cond_f H1 h2
      refine cw_exit ?_
      refine kw_nx_exit ?_
      refine kw_lq_exit ?_
      refine kw_bl ?_
      have q1 := Option.some.inj H1
      subst q1
      exact kw_joinS (js := []) v1 rfl ⟨rfl, rfl, rfl, rfl, trivial⟩ trivial (by decide)
  · rintro v1 rfl
    refine KW.sub (s' := [(0, .slice p0_0 ((a0).length) c0_0), (1, .func (.func 78) #[] #[.pointer (some ⟨q1_0, 0, none⟩)]), (7, .int .i64 ((a0).length : Int)), (8, .int .i64 v1)]) (h' := []) ?_ ⟨rfl, rfl, rfl, rfl, trivial⟩ trivial
    refine kw_nx ?_
    refine cw_seq ?_
    refine cw_region ?_
    refine ow_det .none (stp_assign rfl) rfl ?_
    refine ow_nil ?_
    refine kw_nx ?_
    refine cw_ret ?_
    have q0 := Option.some.inj H0
    subst q0
    exact kw_ret Tryd.results77 (.cons (.tmp rfl) .nil) [] [] trivial (by decide) ⟨rfl, rfl⟩

set_option maxHeartbeats 4000000 in
set_option maxRecDepth 20000 in
theorem c_i_Table_find (fl : Nat) (w : World) (a0 : T) (p0_0 : Option Addr) (n0_0 c0_0 : Nat) (p0_1 : Option Addr) (n0_1 c0_1 : Nat) (a1 : K) (hn0_0 : n0_0 = (a0.b).length) (hr0_0 : RO w (hkeys []) (RdL p0_0 c0_0 a0.b)) (hn0_1 : n0_1 = (a0.f).length) (hr0_1 : RO w (hkeys []) (RdL p0_1 c0_1 a0.f)) (r : Int) (H0 : i_Table_find fl a0 a1 = some r) :
    Ct Tryd.prog 39 [.agg #[.slice p0_0 n0_0 c0_0, .slice p0_1 n0_1 c0_1], .agg #[.int .i64 a1.s, .int .i64 a1.p]] w [] (fun rv h' => rv = .int .i64 r ∧ h' = []) := by
  obtain rfl := hn0_0
  obtain rfl := hn0_1
  unfold i_Table_find at H0
  refine ct_of_cw Tryd.func39 rfl Tryd.ntmps39 rfl (Sat.refl _ _) ?_
  refine cw_seq ?_
  refine cw_region ?_
  refine ow_eff .none (stpU_box 0 rfl rfl) rfl ?_
  rintro _ _ ⟨b1, rfl, rfl⟩
  refine ow_eff .none (stpU_box 1 rfl rfl) rfl ?_
  rintro _ _ ⟨b2, rfl, rfl⟩
  refine ow_det .none (stp_assign rfl) rfl ?_
  refine ow_nil ?_
  refine kw_nx ?_
  refine cw_seq ?_
  refine cw_region ?_
  refine ow_det .none (stp_fieldAddr (j := 1) Tryd.underlying26 rfl ts24 rfl rfl rfl) rfl ?_
  refine ow_det .none (stp_load1 ts24 rfl (Cells.box (id := 0) rfl 1 rfl)) rfl ?_
  refine ow_det .none (stp_makeFunc (sevs_cons rfl sevs_nil)) rfl ?_
  obtain ⟨x3, e3, H0⟩ := bind_some H0
  refine ow_eff .none (stpU_call (fun i => 2 + i) cf77 (fun w hw => c_slices_IndexFunc_Frame_of_i_Table_find_1 fl w a0.f p0_1 ((a0.f).length) c0_1 b2 a1 rfl (RO.pass hr0_1 hw) (box_pass (id := 1) rfl hw) x3 e3) (sevs_cons rfl (sevs_cons rfl sevs_nil))) rfl ?_
  rintro _ _ ⟨_, ⟨rfl, rfl⟩, rfl⟩
  refine ow_det .none (stp_assign rfl) rfl ?_
  refine ow_nil ?_
  refine kw_nx ?_
  refine cw_ret ?_
  have q0 := Option.some.inj H0
  subst q0
  exact kw_ret Tryd.results39 (.cons (.tmp rfl) .nil) [] [] trivial (by decide) ⟨rfl, rfl⟩

set_option maxHeartbeats 4000000 in
set_option maxRecDepth 20000 in
theorem c_slices_Clone_Int (fl : Nat) (w : World) (a0 : (List Int)) (p0_0 : Option Addr) (n0_0 c0_0 : Nat) (hn0_0 : n0_0 = (a0).length) (hr0_0 : RO w (hkeys []) (RdL p0_0 c0_0 a0)) (r : (List Int)) (H0 : slices_Clone_Int fl a0 = some r) :
    Ct Tryd.prog 80 [.slice p0_0 n0_0 c0_0] w [] (fun rv h' => ∃ (x0 : Option Addr) (y0 z0 : Nat) (C0 : Res), rv = .slice x0 y0 z0 ∧ h' = [(0, C0)] ∧ y0 = (r).length ∧ OwnC 3 x0 z0 r C0) := by
  obtain rfl := hn0_0
  unfold slices_Clone_Int at H0
  refine ct_of_cw Tryd.func80 rfl Tryd.ntmps80 rfl (Sat.refl _ _) ?_
  refine cw_seq ?_
  refine cw_region ?_
  refine ow_det .none (stp_assign rfl) rfl ?_
  refine ow_nil ?_
  refine kw_nx ?_
  refine cw_seq ?_
  refine cw_seq ?_
  refine cw_region ?_
  refine ow_det .none (stp_move rfl) rfl ?_
  refine ow_det .none (stp_eqlNil Tryd.underlying23 rfl) rfl ?_
  refine ow_nil ?_
  refine kw_nx ?_
  refine cw_cond rfl (fun h1 => ?_) (fun h1 => ?_)
  · have := True.intro
    obtain rfl : p0_0 = none := by simpa using h1
    obtain rfl : a0 = [] := nil_of_none hr0_0
    obtain rfl : r = [] := (cnt_some H0).1
    refine cw_seq ?_
    refine cw_region ?_
    refine ow_det .none (stp_assign rfl) rfl ?_
    refine ow_nil ?_
    refine kw_nx ?_
    refine cw_ret ?_
    refine kw_nx_ret ?_
    refine kw_addNil 0 ?_
    exact kw_ret Tryd.results80 (.cons (.tmp rfl) .nil) [(0, [])] [0] ⟨0, [], rfl, rfl, trivial⟩ (by decide) ⟨none, 0, 0, [], rfl, rfl, rfl, (OwnC.nil _ _)⟩
  · have := True.intro
    refine cw_skip ?_
    refine kw_nx ?_
    refine cw_seq ?_
    refine cw_region ?_
    refine ow_eff .none (stpU_lit0 sl23 1) rfl ?_
    rintro _ _ ⟨p2, C3, rfl, rfl, o3⟩
    refine ow_det .none (stp_move rfl) rfl ?_
    have e4 : cnt (([] : List Int) ++ a0) = some r := H0
    refine ow_eff .none (stpU_append sl23 rfl (id := 1) rfl (by simp) rfl rfl rfl o3 (Rdb.ro hr0_0) e4) rfl ?_
    rintro _ _ ⟨p5, c6, C7, rfl, rfl, o7⟩
    refine ow_det .none (stp_assign rfl) rfl ?_
    refine ow_nil ?_
    refine kw_nx ?_
    refine cw_ret ?_
    exact kw_ret Tryd.results80 (.cons (.tmp rfl) .nil) [(0, C7)] [1] ⟨1, [], rfl, rfl, trivial⟩ (by decide) ⟨p5, ((r).length), c6, C7, rfl, rfl, rfl, o7⟩

set_option maxHeartbeats 4000000 in
set_option maxRecDepth 20000 in
theorem c_slices_Clone_Frame (fl : Nat) (w : World) (a0 : (List F)) (p0_0 : Option Addr) (n0_0 c0_0 : Nat) (hn0_0 : n0_0 = (a0).length) (hr0_0 : RO w (hkeys []) (RdL p0_0 c0_0 a0)) (r : (List F)) (H0 : slices_Clone_Frame fl a0 = some r) :
    Ct Tryd.prog 82 [.slice p0_0 n0_0 c0_0] w [] (fun rv h' => ∃ (x0 : Option Addr) (y0 z0 : Nat) (C0 : Res), rv = .slice x0 y0 z0 ∧ h' = [(0, C0)] ∧ y0 = (r).length ∧ OwnC 53 x0 z0 r C0) := by
  obtain rfl := hn0_0
  unfold slices_Clone_Frame at H0
  refine ct_of_cw Tryd.func82 rfl Tryd.ntmps82 rfl (Sat.refl _ _) ?_
  refine cw_seq ?_
  refine cw_region ?_
  refine ow_det .none (stp_assign rfl) rfl ?_
  refine ow_nil ?_
  refine kw_nx ?_
  refine cw_seq ?_
  refine cw_seq ?_
  refine cw_region ?_
  refine ow_det .none (stp_move rfl) rfl ?_
  refine ow_det .none (stp_eqlNil Tryd.underlying24 rfl) rfl ?_
  refine ow_nil ?_
  refine kw_nx ?_
  refine cw_cond rfl (fun h1 => ?_) (fun h1 => ?_)
  · have := True.intro
    obtain rfl : p0_0 = none := by simpa using h1
    obtain rfl : a0 = [] := nil_of_none hr0_0
    obtain rfl : r = [] := (cnt_some H0).1
    refine cw_seq ?_
    refine cw_region ?_
    refine ow_det .none (stp_assign rfl) rfl ?_
    refine ow_nil ?_
    refine kw_nx ?_
    refine cw_ret ?_
    refine kw_nx_ret ?_
    refine kw_addNil 0 ?_
    exact kw_ret Tryd.results82 (.cons (.tmp rfl) .nil) [(0, [])] [0] ⟨0, [], rfl, rfl, trivial⟩ (by decide) ⟨none, 0, 0, [], rfl, rfl, rfl, (OwnC.nil _ _)⟩
  · have := True.intro
    refine cw_skip ?_
    refine kw_nx ?_
    refine cw_seq ?_
    refine cw_region ?_
    refine ow_eff .none (stpU_lit0 sl24 1) rfl ?_
    rintro _ _ ⟨p2, C3, rfl, rfl, o3⟩
    refine ow_det .none (stp_move rfl) rfl ?_
    have e4 : cnt (([] : List F) ++ a0) = some r := H0
    refine ow_eff .none (stpU_append sl24 rfl (id := 1) rfl (by simp) rfl rfl rfl o3 (Rdb.ro hr0_0) e4) rfl ?_
    rintro _ _ ⟨p5, c6, C7, rfl, rfl, o7⟩
    refine ow_det .none (stp_assign rfl) rfl ?_
    refine ow_nil ?_
    refine kw_nx ?_
    refine cw_ret ?_
    exact kw_ret Tryd.results82 (.cons (.tmp rfl) .nil) [(0, C7)] [1] ⟨1, [], rfl, rfl, trivial⟩ (by decide) ⟨p5, ((r).length), c6, C7, rfl, rfl, rfl, o7⟩

set_option maxHeartbeats 4000000 in
set_option maxRecDepth 20000 in
theorem c_i_Table_clone (fl : Nat) (w : World) (a0 : T) (p0_0 : Option Addr) (n0_0 c0_0 : Nat) (p0_1 : Option Addr) (n0_1 c0_1 : Nat) (hn0_0 : n0_0 = (a0.b).length) (hr0_0 : RO w (hkeys []) (RdL p0_0 c0_0 a0.b)) (hn0_1 : n0_1 = (a0.f).length) (hr0_1 : RO w (hkeys []) (RdL p0_1 c0_1 a0.f)) (r : T) (H0 : i_Table_clone fl a0 = some r) :
    Ct Tryd.prog 42 [.agg #[.slice p0_0 n0_0 c0_0, .slice p0_1 n0_1 c0_1]] w [] (fun rv h' => ∃ (x0 : Option Addr) (y0 z0 : Nat) (C0 : Res) (x1 : Option Addr) (y1 z1 : Nat) (C1 : Res), rv = .agg #[.slice x0 y0 z0, .slice x1 y1 z1] ∧ h' = [(0, C0), (1, C1)] ∧ y0 = (r.b).length ∧ OwnC 3 x0 z0 r.b C0 ∧ y1 = (r.f).length ∧ OwnC 53 x1 z1 r.f C1) := by
  obtain rfl := hn0_0
  obtain rfl := hn0_1
  unfold i_Table_clone at H0
  refine ct_of_cw Tryd.func42 rfl Tryd.ntmps42 rfl (Sat.refl _ _) ?_
  refine cw_seq ?_
  refine cw_region ?_
  refine ow_eff .none (stpU_box 0 rfl rfl) rfl ?_
  rintro _ _ ⟨b1, rfl, rfl⟩
  refine ow_eff .none (stpU_alloc 1 tz26 rfl) rfl ?_
  rintro _ _ ⟨b2, rfl, rfl⟩
  refine ow_nil ?_
  refine kw_nx ?_
  refine cw_seq ?_
  obtain ⟨x3, e3, H0⟩ := bind_some H0
  obtain ⟨x8, e8, H0⟩ := bind_some H0
  refine region_drawn { dst := fun i => match i with | 0 => some 3 | 1 => some 4 | 2 => some 5 | 3 => some 6 | 4 => some 7 | 5 => some 8 | 6 => some 9 | 7 => some 10 | 8 => some 11 | _ => none, pre := fun i => match i with | 1 => [0] | 2 => [0, 1] | 3 => [0, 1, 2] | 5 => [4] | 6 => [0, 1, 2, 3, 4, 5] | 7 => [0, 1, 2, 3, 4, 5, 6] | 8 => [0, 1, 2, 3, 4, 5, 6, 7] | 9 => [0, 1, 2, 3, 4, 5, 6, 7, 8] | _ => [], ids := fun i => match i with | 2 => [2] | 6 => [3] | 9 => [1] | _ => [], rs := fun i => match i with | 0 => [(1, none)] | 1 => [(3, some 0)] | 2 => [(4, some 1)] | 3 => [(5, some 2)] | 4 => [(1, none)] | 5 => [(7, some 4)] | 6 => [(8, some 5)] | 7 => [(9, some 6)] | 8 => [(6, some 3), (10, some 7)] | 9 => [(2, none), (11, some 8)] | _ => [], rh := fun i => match i with | 1 => [(0, none)] | 5 => [(0, none)] | 9 => [(1, none)] | _ => [], V := fun i g => match i with | 0 => .pointer (some ⟨b1, 0, none⟩) | 1 => .slice p0_0 ((a0.b).length) c0_0 | 2 => .slice ((g 2).A 0) ((x3).length) ((g 2).C 0) | 3 => .slice ((g 2).A 0) ((x3).length) ((x3).length) | 4 => .pointer (some ⟨b1, 1, none⟩) | 5 => .slice p0_1 ((a0.f).length) c0_1 | 6 => .slice ((g 6).A 0) ((x8).length) ((g 6).C 0) | 7 => .slice ((g 6).A 0) ((x8).length) ((x8).length) | 8 => .agg #[.slice ((g 2).A 0) ((x3).length) ((x3).length), .slice ((g 6).A 0) ((x8).length) ((x8).length)] | _ => undef, U := fun i g => match i with | 2 => [(2, ((g 2).R 0))] | 6 => [(3, ((g 6).R 0))] | 9 => [(1, [(b2, .cells #[.slice ((g 2).A 0) ((x3).length) ((x3).length), .slice ((g 6).A 0) ((x8).length) ((x8).length)] 26 (0, 0))])] | _ => [], Φ := fun i x => match i with | 2 => OwnC (α := Int) 3 (x.A 0) (x.C 0) x3 (x.R 0) | 6 => OwnC (α := F) 53 (x.A 0) (x.C 0) x8 (x.R 0) | _ => True } g_mixed [1, 2] [0, 1] (by kernel_rfl) (by kernel_rfl) (by kernel_rfl) ⟨⟨⟨⟨⟨⟨⟨⟨⟨⟨trivial, fun _ => ⟨rfl, rfl⟩⟩, fun _ => ⟨rfl, rfl⟩⟩, fun _ => ⟨rfl, rfl⟩⟩, fun _ => ⟨rfl, rfl⟩⟩, fun _ => ⟨rfl, rfl⟩⟩, fun _ => ⟨rfl, rfl⟩⟩, fun _ => ⟨rfl, rfl⟩⟩, fun _ => ⟨rfl, rfl⟩⟩, fun _ => ⟨rfl, rfl⟩⟩, fun _ => ⟨rfl, rfl⟩⟩ ?_ ?_
  · refine ⟨⟨⟨⟨⟨⟨⟨⟨⟨⟨trivial, ?_⟩, ?_⟩, ?_⟩, ?_⟩, ?_⟩, ?_⟩, ?_⟩, ?_⟩, ?_⟩, ?_⟩
    · exact loc_det rfl rfl (fun _ => rfl) trivial (fun g hΦ s h hs hh => ⟨.none, (stp_fieldAddr (j := 0) Tryd.underlying26 rfl ts23 rfl (sv hs 1 rfl) rfl)⟩)
    · exact loc_det rfl rfl (fun _ => rfl) trivial (fun g hΦ s h hs hh => ⟨.none, (stp_load1 ts23 (sv hs 3 rfl) (Cells.box (id := 0) (hh.get 0 _ rfl) 1 rfl))⟩)
    · refine loc_eff rfl rfl (fun g hΦ s h hs hh => ⟨.none, (stpU_call (fun i => 2 + i) cf80 (fun w hw => c_slices_Clone_Int fl w a0.b p0_0 ((a0.b).length) c0_0 rfl (RO.pass hr0_0 hw) x3 e3) (sevs_cons (sv hs 4 rfl) sevs_nil))⟩) ?_
      rintro g _ _ ⟨_, ⟨p4, n5, c6, C7, rfl, rfl, hnn5, o7⟩, rfl⟩
      obtain rfl := hnn5
      exact ⟨⟨[p4], [c6], [C7]⟩, o7, .inr rfl, rfl⟩
    · refine loc_eff rfl rfl (fun g hΦ s h hs hh => ⟨.none, (stpU_call (fun i => i) cf79 (fun w hw => c_clip79 w ((g 2).A 0) ((x3).length) ((g 2).C 0) (OwnC.len (hΦ 2 rfl)).1) (sevs_cons (sv hs 5 rfl) sevs_nil))⟩) ?_
      rintro g _ _ ⟨_, ⟨rfl, rfl⟩, rfl⟩
      exact ⟨⟨[], [], []⟩, trivial, .inr rfl, rfl⟩
    · exact loc_det rfl rfl (fun _ => rfl) trivial (fun g hΦ s h hs hh => ⟨.none, (stp_fieldAddr (j := 1) Tryd.underlying26 rfl ts24 rfl (sv hs 1 rfl) rfl)⟩)
    · exact loc_det rfl rfl (fun _ => rfl) trivial (fun g hΦ s h hs hh => ⟨.none, (stp_load1 ts24 (sv hs 7 rfl) (Cells.box (id := 0) (hh.get 0 _ rfl) 1 rfl))⟩)
    · refine loc_eff rfl rfl (fun g hΦ s h hs hh => ⟨.none, (stpU_call (fun i => 3 + i) cf82 (fun w hw => c_slices_Clone_Frame fl w a0.f p0_1 ((a0.f).length) c0_1 rfl (RO.pass hr0_1 hw) x8 e8) (sevs_cons (sv hs 8 rfl) sevs_nil))⟩) ?_
      rintro g _ _ ⟨_, ⟨p9, n10, c11, C12, rfl, rfl, hnn10, o12⟩, rfl⟩
      obtain rfl := hnn10
      exact ⟨⟨[p9], [c11], [C12]⟩, o12, .inr rfl, rfl⟩
    · refine loc_eff rfl rfl (fun g hΦ s h hs hh => ⟨.none, (stpU_call (fun i => i) cf81 (fun w hw => c_clip81 w ((g 6).A 0) ((x8).length) ((g 6).C 0) (OwnC.len (hΦ 6 rfl)).1) (sevs_cons (sv hs 9 rfl) sevs_nil))⟩) ?_
      rintro g _ _ ⟨_, ⟨rfl, rfl⟩, rfl⟩
      exact ⟨⟨[], [], []⟩, trivial, .inr rfl, rfl⟩
    · exact loc_det rfl rfl (fun _ => rfl) trivial (fun g hΦ s h hs hh => ⟨.none, (stp_build (cs := #[.slice ((g 2).A 0) ((x3).length) ((x3).length), .slice ((g 6).A 0) ((x8).length) ((x8).length)]) (sevp_cons (sv hs 6 rfl) (sevp_cons (sv hs 10 rfl) sevp_nil)) (by rfl))⟩)
    · refine loc_eff rfl rfl (fun g hΦ s h hs hh => ⟨.none, (stpU_store (id := 1) (cs' := [.slice ((g 2).A 0) ((x3).length) ((x3).length), .slice ((g 6).A 0) ((x8).length) ((x8).length)]) ts26 (sv hs 2 rfl) (sv hs 11 rfl) (hh.get 1 _ rfl) rfl rfl rfl rfl)⟩) ?_
      rintro g _ _ rfl
      exact ⟨⟨[], [], []⟩, trivial, .inl rfl, rfl⟩
  · intro g hΦ
    refine kw_gen (ι := Option Addr × Nat × Res × Option Addr × Nat × Res) (((g 2).A 0), ((g 2).C 0), ((g 2).R 0), ((g 6).A 0), ((g 6).C 0), ((g 6).R 0)) (fun | (p4, c6, C7, p9, c11, C12) => OwnC (α := Int) 3 p4 c6 x3 C7 ∧ OwnC (α := F) 53 p9 c11 x8 C12) (fun | (p4, c6, C7, p9, c11, C12) => [(2, .pointer (some ⟨b2, 0, none⟩))]) (fun | (p4, c6, C7, p9, c11, C12) => [(1, [(b2, .cells #[.slice p4 ((x3).length) ((x3).length), .slice p9 ((x8).length) ((x8).length)] 26 (0, 0))]), (2, C7), (3, C12)]) ⟨(hΦ 2 (by decide)), (hΦ 6 (by decide))⟩ ⟨rfl, trivial⟩ ⟨rfl, rfl, rfl, trivial⟩ ?_
    rintro ⟨p4, c6, C7, p9, c11, C12⟩ ⟨o7, o12⟩
    refine KW.sub (s' := [(2, .pointer (some ⟨b2, 0, none⟩))]) (h' := [(1, [(b2, .cells #[.slice p4 ((x3).length) ((x3).length), .slice p9 ((x8).length) ((x8).length)] 26 (0, 0))]), (2, C7), (3, C12)]) ?_ ⟨rfl, trivial⟩ ⟨rfl, rfl, rfl, trivial⟩
    refine kw_nx ?_
    refine cw_ret ?_
    have q0 := Option.some.inj H0
    subst q0
    exact kw_ret Tryd.results42 (.cons (.cellN (us := [_, _]) ts26 rfl (Cells.box (id := 1) rfl 2 rfl)) .nil) [(0, C7), (1, C12)] [2, 3] ⟨2, [3], rfl, rfl, 3, [], rfl, rfl, trivial⟩ (by decide) ⟨p4, ((x3).length), ((x3).length), C7, p9, ((x8).length), ((x8).length), C12, rfl, rfl, rfl, (OwnC.clip o7), rfl, (OwnC.clip o12)⟩
end Go.Proofs.YtkocamaoeojfhaaDoor
