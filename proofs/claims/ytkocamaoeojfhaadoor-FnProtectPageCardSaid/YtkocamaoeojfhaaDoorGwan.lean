/- The walks: functions of the program return what their pure functions say. Printed by a program (gen.py). -/
import Derived.Test.YtkocamaoeojfhaaDoorGp
import Derived.Test.YtkocamaoeojfhaaDoorGt
import Derived.Test.YtkocamaoeojfhaaDoorMan
import Derived.Test.YtkocamaoeojfhaaDoorGwab
import Derived.Test.YtkocamaoeojfhaaDoorGwae
import Derived.Test.YtkocamaoeojfhaaDoorGwag
import Derived.Test.YtkocamaoeojfhaaDoorGws
set_option linter.unusedSimpArgs false
set_option linter.unusedVariables false
set_option linter.unusedSectionVars false
namespace Go.Proofs.YtkocamaoeojfhaaDoor
open Go.RowKit
set_option maxHeartbeats 4000000 in
set_option maxRecDepth 20000 in
theorem c_s_KeyBefore (fl : Nat) (w : World) (a0 : K) (a1 : K) (r : Bool) (H0 : s_KeyBefore fl a0 a1 = some r) :
    Ct Tryd.prog 96 [.agg #[.int .i64 a0.s, .int .i64 a0.p], .agg #[.int .i64 a1.s, .int .i64 a1.p]] w [] (fun rv h' => rv = .bool r ∧ h' = []) := by
  unfold s_KeyBefore at H0
  refine ct_of_cw Tryd.func96 rfl Tryd.ntmps96 rfl (Sat.refl _ _) ?_
  refine cw_seq ?_
  refine cw_region ?_
  refine ow_eff .none (stpU_box 0 rfl rfl) rfl ?_
  rintro _ _ ⟨b1, rfl, rfl⟩
  refine ow_eff .none (stpU_box 1 rfl rfl) rfl ?_
  rintro _ _ ⟨b2, rfl, rfl⟩
  refine ow_det .none (stp_assign rfl) rfl ?_
  refine ow_nil ?_
  refine kw_nx ?_
  refine cw_seq ?_
  refine cw_region ?_
  refine ow_det .none (stp_fieldAddr (j := 0) Tryd.underlying28 rfl ts3 rfl rfl rfl) rfl ?_
  refine ow_det .none (stp_load1 ts3 rfl (Cells.box (id := 0) rfl 1 rfl)) rfl ?_
  refine ow_det .none (stp_fieldAddr (j := 0) Tryd.underlying28 rfl ts3 rfl rfl rfl) rfl ?_
  refine ow_det .none (stp_load1 ts3 rfl (Cells.box (id := 1) rfl 1 rfl)) rfl ?_
  refine ow_det .none (stp_lss rfl rfl) rfl ?_
  refine ow_det .none (stp_move rfl) rfl ?_
  obtain ⟨y3, ey3, H0⟩ := bind_some H0
  refine ow_cutY 13 23 y3 ?_ ?_
  · rcases Bool.eq_false_or_eq_true (decide (a0.s < a1.s)) with hy3 | hy3
    · have ey3 := cond_t ey3 hy3
      refine ow_off (.some rfl hy3) rfl ?_
      refine ow_off (.some rfl hy3) rfl ?_
      refine ow_off (.some rfl hy3) rfl ?_
      refine ow_off (.some rfl hy3) rfl ?_
      refine ow_off (.some rfl hy3) rfl ?_
      refine ow_off (.some rfl hy3) rfl ?_
      refine ow_off (.dead rfl rfl) rfl ?_
      refine ow_off (.dead rfl rfl) rfl ?_
      refine ow_off (.dead rfl rfl) rfl ?_
      refine ow_off (.dead rfl rfl) rfl ?_
      refine ow_off (.dead rfl rfl) rfl ?_
      refine ow_off (.some rfl hy3) rfl ?_
      refine ow_det .none (stp_pick_t rfl hy3 rfl) rfl ?_
      obtain rfl := Option.some.inj ey3
      exact ow_nil (kw_jy (.top rfl (.cons rfl (.cons rfl (.cons rfl (.cons rfl (.cons rfl (.cons rfl (.cons rfl (.cons rfl (.cons rfl (.cons rfl (.cons rfl (.cons rfl (.cons rfl (.refl _))))))))))))))) (.refl _))
    · have ey3 := cond_f ey3 hy3
      refine ow_det (.some rfl hy3) (stp_fieldAddr (j := 0) Tryd.underlying28 rfl ts3 rfl rfl rfl) rfl ?_
      refine ow_det (.some rfl hy3) (stp_load1 ts3 rfl (Cells.box (id := 0) rfl 1 rfl)) rfl ?_
      refine ow_det (.some rfl hy3) (stp_fieldAddr (j := 0) Tryd.underlying28 rfl ts3 rfl rfl rfl) rfl ?_
      refine ow_det (.some rfl hy3) (stp_load1 ts3 rfl (Cells.box (id := 1) rfl 1 rfl)) rfl ?_
      refine ow_det (.some rfl hy3) (stp_eql rfl rfl) rfl ?_
      refine ow_det (.some rfl hy3) (stp_move rfl) rfl ?_
      obtain ⟨y4, ey4, ey3⟩ := bind_some ey3
      refine ow_cutY 6 22 y4 ?_ ?_
      · rcases Bool.eq_false_or_eq_true (a0.s == a1.s) with hy4 | hy4
        · have ey4 := cond_t ey4 hy4
          refine ow_det (.some rfl hy4) (stp_fieldAddr (j := 1) Tryd.underlying28 rfl ts3 rfl rfl rfl) rfl ?_
          refine ow_det (.some rfl hy4) (stp_load1 ts3 rfl (Cells.box (id := 0) rfl 1 rfl)) rfl ?_
          refine ow_det (.some rfl hy4) (stp_fieldAddr (j := 1) Tryd.underlying28 rfl ts3 rfl rfl rfl) rfl ?_
          refine ow_det (.some rfl hy4) (stp_load1 ts3 rfl (Cells.box (id := 1) rfl 1 rfl)) rfl ?_
          refine ow_det (.some rfl hy4) (stp_lss rfl rfl) rfl ?_
          refine ow_det (.some rfl hy3) (stp_pick_t rfl hy4 rfl) rfl ?_
          obtain rfl := Option.some.inj ey4
          exact ow_nil (kw_jy (.top rfl (.cons rfl (.cons rfl (.cons rfl (.cons rfl (.cons rfl (.cons rfl (.refl _)))))))) (.refl _))
        · have ey4 := cond_f ey4 hy4
          refine ow_off (.some rfl hy4) rfl ?_
          refine ow_off (.some rfl hy4) rfl ?_
          refine ow_off (.some rfl hy4) rfl ?_
          refine ow_off (.some rfl hy4) rfl ?_
          refine ow_off (.some rfl hy4) rfl ?_
          refine ow_det (.some rfl hy3) (stp_pick_f rfl hy4 rfl) rfl ?_
          obtain rfl := Option.some.inj ey4
          exact ow_nil (kw_jy (.top rfl (.cons rfl (.cons rfl (.cons rfl (.cons rfl (.cons rfl (.cons rfl (.refl _)))))))) (.refl _))
      · refine ow_det .none (stp_pick_f rfl hy3 rfl) rfl ?_
        obtain rfl := Option.some.inj ey3
        exact ow_nil (kw_jy (.top rfl (.cons rfl (.cons rfl (.cons rfl (.cons rfl (.cons rfl (.cons rfl (.cons rfl (.cons rfl (.refl _)))))))))) (.refl _))
  · refine ow_det .none (stp_assign rfl) rfl ?_
    refine ow_nil ?_
    refine kw_nx ?_
    refine cw_ret ?_
    have q0 := Option.some.inj H0
    subst q0
    exact kw_ret Tryd.results96 (.cons (.tmp rfl) .nil) [] [] trivial (by decide) ⟨rfl, rfl⟩

set_option maxHeartbeats 4000000 in
set_option maxRecDepth 20000 in
theorem c_s_KeysOf (fl : Nat) (w : World) (a0 : T) (p0_0 : Option Addr) (n0_0 c0_0 : Nat) (p0_1 : Option Addr) (n0_1 c0_1 : Nat) (hn0_0 : n0_0 = (a0.b).length) (hr0_0 : RO w (hkeys []) (RdL p0_0 c0_0 a0.b)) (hn0_1 : n0_1 = (a0.f).length) (hr0_1 : RO w (hkeys []) (RdL p0_1 c0_1 a0.f)) (r : (List K)) (H0 : s_KeysOf fl a0 = some r) :
    Ct Tryd.prog 91 [.agg #[.slice p0_0 n0_0 c0_0, .slice p0_1 n0_1 c0_1]] w [] (fun rv h' => ∃ (x0 : Option Addr) (y0 z0 : Nat) (C0 : Res), rv = .slice x0 y0 z0 ∧ h' = [(0, C0)] ∧ y0 = (r).length ∧ OwnC 28 x0 z0 r C0) := by
  obtain rfl := hn0_0
  obtain rfl := hn0_1
  unfold s_KeysOf at H0
  refine ct_of_cw Tryd.func91 rfl Tryd.ntmps91 rfl (Sat.refl _ _) ?_
  refine cw_seq ?_
  refine cw_region ?_
  refine ow_eff .none (stpU_box 0 rfl rfl) rfl ?_
  rintro _ _ ⟨b1, rfl, rfl⟩
  refine ow_det .none (stp_assign rfl) rfl ?_
  refine ow_nil ?_
  refine kw_nx ?_
  refine cw_seq ?_
  refine cw_region ?_
  refine ow_eff .none (stpU_lit0 sl56 1) rfl ?_
  rintro _ _ ⟨p2, C3, rfl, rfl, o3⟩
  refine ow_det .none (stp_assign rfl) rfl ?_
  refine ow_nil ?_
  refine kw_nx ?_
  refine cw_seq ?_
  refine cw_seq ?_
  refine cw_region ?_
  refine ow_det .none (stp_assign rfl) rfl ?_
  refine ow_nil ?_
  refine kw_nx ?_
  obtain ⟨o0_0, eo0_0, H0⟩ := bind_some H0
  refine cw_join (ι := (List K) × Int × Option Addr × Nat × Nat × Res) (fun | (v4, v9, p5, n6, c7, C8) => o0_0 = .out (v4, v9) ∧ n6 = (v4).length ∧ OwnC (α := K) 28 p5 c7 v4 C8) (fun | (v4, v9, p5, n6, c7, C8) => [(1, .pointer (some ⟨b1, 0, none⟩)), (3, .slice p5 n6 c7), (4, .int .i64 v9)]) (fun | (v4, v9, p5, n6, c7, C8) => [(0, [(b1, .cells #[.slice p0_0 ((a0.b).length) c0_0, .slice p0_1 ((a0.f).length) c0_1] 26 (0, 0))]), (1, C8)]) ?_ ?_
  · refine cw_block ?_
    refine cw_loopS (ι := Nat × (List K) × Int × Option Addr × Nat × Nat × Res) (js := [0, 1]) (fun x => x.1) (fun | (fuel, v4, v9, p5, n6, c7, C8) => s_KeysOf_L0 fl a0 fuel v4 v9 = some o0_0 ∧ n6 = (v4).length ∧ OwnC (α := K) 28 p5 c7 v4 C8) (fun | (_, v4, v9, p5, n6, c7, C8) => [(1, .pointer (some ⟨b1, 0, none⟩)), (3, .slice p5 n6 c7), (4, .int .i64 v9)]) (fun | (_, v4, v9, p5, n6, c7, C8) => [(0, [(b1, .cells #[.slice p0_0 ((a0.b).length) c0_0, .slice p0_1 ((a0.f).length) c0_1] 26 (0, 0))]), (1, C8)]) (fl, ([] : List K), 0, p2, 0, 0, C3) ⟨eo0_0, (by simp), o3⟩ ⟨rfl, rfl, rfl, trivial⟩ ⟨0, [1], rfl, rfl, 1, [], rfl, rfl, trivial⟩ (by decide) ?_
    rintro ⟨fuel, v4, v9, p5, n6, c7, C8⟩ ⟨H1, hnn6, o8⟩
    obtain rfl := hnn6
    have H1 : s_KeysOf_L0 fl a0 fuel v4 v9 = some o0_0 := H1
    rcases fuel with _ | fuel
    · rw [s_KeysOf_L0.eq_1] at H1; cases H1
    rw [s_KeysOf_L0.eq_2] at H1
    refine CW.sub (s' := [(1, .pointer (some ⟨b1, 0, none⟩)), (3, .slice p5 ((v4).length) c7), (4, .int .i64 v9)]) (h' := [(0, [(b1, .cells #[.slice p0_0 ((a0.b).length) c0_0, .slice p0_1 ((a0.f).length) c0_1] 26 (0, 0))]), (1, C8)]) ?_ ⟨rfl, rfl, rfl, trivial⟩ ⟨rfl, rfl, trivial⟩
    refine cw_seq ?_
    refine cw_seq ?_
    refine cw_region ?_
    refine ow_det .none (stp_move rfl) rfl ?_
    refine ow_det .none (stp_fieldAddr (j := 1) Tryd.underlying26 rfl ts24 rfl rfl rfl) rfl ?_
    refine ow_det .none (stp_load1 ts24 rfl (Cells.box (id := 0) rfl 1 rfl)) rfl ?_
    refine ow_det .none (stp_len Tryd.underlying24 rfl) rfl ?_
    refine ow_det .none (stp_lss rfl rfl) rfl ?_
    refine ow_det .none (stp_move rfl) rfl ?_
    obtain ⟨y10, ey10, H1⟩ := bind_some H1
    refine ow_cutY 3 16 y10 ?_ ?_
    · rcases Bool.eq_false_or_eq_true (decide (v9 < ((a0.f).length : Int))) with hy10 | hy10
      · have ey10 := cond_t ey10 hy10
        refine ow_det (.some rfl hy10) (stp_loadN (us := [_, _]) ts26 rfl (Cells.box (id := 0) rfl 2 rfl)) rfl ?_
        obtain ⟨x11, e11, ey10⟩ := bind_some ey10
        refine ow_eff (.some rfl hy10) (stpU_call (fun i => 2 + i) cf44 (fun w hw => c_s_TableValid fl w a0 p0_0 ((a0.b).length) c0_0 p0_1 ((a0.f).length) c0_1 rfl (RO.pass hr0_0 hw) rfl (RO.pass hr0_1 hw) x11 e11) (sevs_cons rfl sevs_nil)) rfl ?_
        rintro _ _ ⟨_, ⟨rfl, rfl⟩, rfl⟩
        refine ow_det .none (stp_pick_t rfl hy10 rfl) rfl ?_
        obtain rfl := Option.some.inj ey10
        exact ow_nil (kw_jy (.top rfl (.cons rfl (.cons rfl (.cons rfl (.refl _))))) (.refl _))
      · have ey10 := cond_f ey10 hy10
        refine ow_off (.some rfl hy10) rfl ?_
        refine ow_off (.some rfl hy10) rfl ?_
        refine ow_det .none (stp_pick_f rfl hy10 rfl) rfl ?_
        obtain rfl := Option.some.inj ey10
        exact ow_nil (kw_jy (.top rfl (.cons rfl (.cons rfl (.cons rfl (.refl _))))) (.refl _))
    · refine ow_nil ?_
      refine kw_nx ?_
      refine cw_cond rfl (fun h12 => ?_) (fun h12 => ?_)
      · have H1 := cond_t H1 h12
        refine cw_skip ?_
        refine kw_nx ?_
        refine cw_seq ?_
        refine cw_block ?_
        refine cw_seq ?_
        refine cw_seq ?_
        refine cw_region ?_
        refine ow_det .none (stp_fieldAddr (j := 1) Tryd.underlying26 rfl ts24 rfl rfl rfl) rfl ?_
        refine ow_det .none (stp_load1 ts24 rfl (Cells.box (id := 0) rfl 1 rfl)) rfl ?_
        refine ow_det .none (stp_move rfl) rfl ?_
        obtain ⟨x13, e13, H1⟩ := bind_some H1
        refine ow_det .none (stp_indexAddr Tryd.underlying24 ts53 (by decide) rfl rfl rfl (Rdb.ro hr0_1) e13) rfl ?_
        refine ow_det .none (stp_fieldAddr (j := 0) Tryd.underlying53 rfl ts4 rfl rfl rfl) rfl ?_
        refine ow_det .none (stp_load1 ts4 rfl (Cells.el (Rdb.ro hr0_1) (by decide) e13 0 1 rfl)) rfl ?_
        refine ow_det .none (stp_not rfl) rfl ?_
        refine ow_nil ?_
        refine kw_nx ?_
        refine cw_cond rfl (fun h14 => ?_) (fun h14 => ?_)
        · have H1 := cond_t H1 h14
          refine cw_exit ?_
          refine kw_nx_exit ?_
          refine kw_bl ?_
          refine kw_nx ?_
          refine cw_region ?_
          refine ow_det .none (stp_move rfl) rfl ?_
          obtain ⟨x15, e15, H1⟩ := bind_some H1
          refine ow_det .none (stp_add rfl rfl e15) rfl ?_
          refine ow_det .none (stp_assign rfl) rfl ?_
          refine ow_nil ?_
          exact kw_lqS (js := [0, 1]) (fuel, v4, x15, p5, ((v4).length), c7, C8) ⟨H1, rfl, o8⟩ (Nat.lt_succ_self _) ⟨rfl, rfl, rfl, trivial⟩ ⟨0, [1], rfl, rfl, 1, [], rfl, rfl, trivial⟩ (by decide)
        · have H1 := cond_f H1 h14
          refine cw_skip ?_
          refine kw_nx ?_
          refine cw_seq ?_
          refine cw_region ?_
          refine ow_det .none (stp_move rfl) rfl ?_
          refine ow_det .none (stp_fieldAddr (j := 1) Tryd.underlying26 rfl ts24 rfl rfl rfl) rfl ?_
          refine ow_det .none (stp_load1 ts24 rfl (Cells.box (id := 0) rfl 1 rfl)) rfl ?_
          refine ow_det .none (stp_move rfl) rfl ?_
          refine ow_det .none (stp_indexAddr Tryd.underlying24 ts53 (by decide) rfl rfl rfl (Rdb.ro hr0_1) e13) rfl ?_
          refine ow_det .none (stp_fieldAddr (j := 1) Tryd.underlying53 rfl ts28 rfl rfl rfl) rfl ?_
          refine ow_det .none (stp_loadN (us := [_, _]) ts28 rfl (Cells.el (Rdb.ro hr0_1) (by decide) e13 1 2 rfl)) rfl ?_
          refine ow_eff .none (stpU_lit (sz := 2) (l := [x13.k]) [.agg #[.int .i64 x13.k.s, .int .i64 x13.k.p]] sl56 2 (sevp_cons rfl sevp_nil) rfl rfl rfl rfl rfl rfl rfl rfl rfl) rfl ?_
          rintro _ _ ⟨p16, C17, rfl, rfl, o17⟩
          obtain ⟨x18, e18, H1⟩ := bind_some H1
          refine ow_eff .none (stpU_append sl56 rfl (id := 1) rfl rfl rfl (by simp) rfl o8 (Rdb.own (id := 2) rfl o17) e18) rfl ?_
          rintro _ _ ⟨p19, c20, C21, rfl, rfl, o21⟩
          refine ow_det .none (stp_assign rfl) rfl ?_
          refine ow_nil ?_
          refine kw_nx ?_
          refine cw_seq ?_
          refine cw_region ?_
          refine ow_det .none (stp_move rfl) rfl ?_
          refine ow_det .none (stp_len Tryd.underlying56 rfl) rfl ?_
          obtain ⟨x22, e22, H1⟩ := bind_some H1
          refine ow_det .none (stp_sub rfl rfl e22) rfl ?_
          refine ow_det .none (stp_assign rfl) rfl ?_
          refine ow_nil ?_
          refine kw_nx ?_
          obtain ⟨o1_1, eo1_1, H1⟩ := bind_some H1
          refine cw_join (ι := (List K) × Int × Res) (fun | (v23, v25, C24) => o1_1 = .out (v23, v25) ∧ (x18).length = (v23).length ∧ OwnC (α := K) 28 p19 c20 v23 C24) (fun | (v23, v25, C24) => [(1, .pointer (some ⟨b1, 0, none⟩)), (3, .slice p19 ((x18).length) c20), (4, .int .i64 v9), (5, .int .i64 v25)]) (fun | (v23, v25, C24) => [(0, [(b1, .cells #[.slice p0_0 ((a0.b).length) c0_0, .slice p0_1 ((a0.f).length) c0_1] 26 (0, 0))]), (1, C24)]) ?_ ?_
          · refine cw_block ?_
            refine cw_loopS (ι := Nat × (List K) × Int × Res) (js := [0, 1]) (fun x => x.1) (fun | (fuel, v23, v25, C24) => s_KeysOf_L1 fl fuel v23 v25 = some o1_1 ∧ (x18).length = (v23).length ∧ OwnC (α := K) 28 p19 c20 v23 C24) (fun | (_, v23, v25, C24) => [(1, .pointer (some ⟨b1, 0, none⟩)), (3, .slice p19 ((x18).length) c20), (4, .int .i64 v9), (5, .int .i64 v25)]) (fun | (_, v23, v25, C24) => [(0, [(b1, .cells #[.slice p0_0 ((a0.b).length) c0_0, .slice p0_1 ((a0.f).length) c0_1] 26 (0, 0))]), (1, C24)]) (fl, x18, x22, C21) ⟨eo1_1, rfl, o21⟩ ⟨rfl, rfl, rfl, rfl, trivial⟩ ⟨0, [1], rfl, rfl, 1, [], rfl, rfl, trivial⟩ (by decide) ?_
            rintro ⟨fuel, v23, v25, C24⟩ ⟨H2, hl24, o24⟩
            have H2 : s_KeysOf_L1 fl fuel v23 v25 = some o1_1 := H2
            rcases fuel with _ | fuel
            · rw [s_KeysOf_L1.eq_1] at H2; cases H2
            rw [s_KeysOf_L1.eq_2] at H2
            refine CW.sub (s' := [(1, .pointer (some ⟨b1, 0, none⟩)), (3, .slice p19 ((x18).length) c20), (4, .int .i64 v9), (5, .int .i64 v25)]) (h' := [(0, [(b1, .cells #[.slice p0_0 ((a0.b).length) c0_0, .slice p0_1 ((a0.f).length) c0_1] 26 (0, 0))]), (1, C24)]) ?_ ⟨rfl, rfl, rfl, rfl, trivial⟩ ⟨rfl, rfl, trivial⟩
            refine cw_seq ?_
            refine cw_seq ?_
            obtain ⟨y26, ey26, H2⟩ := bind_some H2
            refine cw_join (ι := Unit) (fun | _ => True) (fun | _ => [(1, .pointer (some ⟨b1, 0, none⟩)), (3, .slice p19 ((x18).length) c20), (4, .int .i64 v9), (5, .int .i64 v25), (51, .bool y26)]) (fun | _ => [(0, [(b1, .cells #[.slice p0_0 ((a0.b).length) c0_0, .slice p0_1 ((a0.f).length) c0_1] 26 (0, 0))]), (1, C24)]) ?_ ?_
            · rcases Bool.eq_false_or_eq_true (decide (0 < v25)) with hy26 | hy26
              · have ey26 := cond_t ey26 hy26
                obtain ⟨x27, e27, ey26⟩ := bind_some ey26
                obtain ⟨x28, e28, ey26⟩ := bind_some ey26
                obtain ⟨x29, e29, ey26⟩ := bind_some ey26
                obtain ⟨x30, e30, ey26⟩ := bind_some ey26
                have qy26 := Option.some.inj ey26
                refine region_drawn { dst := fun i => match i with | 0 => some 38 | 1 => some 39 | 2 => some 40 | 3 => some 41 | 4 => some 42 | 5 => some 43 | 6 => some 44 | 7 => some 45 | 8 => some 46 | 9 => some 47 | 10 => some 48 | 11 => some 49 | 12 => some 50 | 13 => some 51 | _ => none, pre := fun i => match i with | 1 => [0] | 2 => [0, 1] | 3 => [0, 1, 2] | 4 => [0, 1, 2] | 5 => [0, 1, 2, 3, 4] | 6 => [0, 1, 2, 3, 4, 5] | 7 => [0, 1, 2] | 8 => [0, 1, 2] | 9 => [0, 1, 2, 8] | 10 => [0, 1, 2, 7, 8, 9] | 11 => [0, 1, 2, 7, 8, 9, 10] | 12 => [0, 1, 2, 3, 4, 5, 6, 7, 8, 9, 10, 11] | 13 => [0, 1, 2, 3, 4, 5, 6, 7, 8, 9, 10, 11, 12] | _ => [], ids := fun i => match i with | _ => [], rs := fun i => match i with | 0 => [(5, none)] | 1 => [(38, some 0)] | 2 => [(39, some 1)] | 3 => [(3, none), (40, some 2)] | 4 => [(5, none), (40, some 2)] | 5 => [(41, some 3), (42, some 4), (40, some 2)] | 6 => [(43, some 5), (40, some 2)] | 7 => [(3, none), (40, some 2)] | 8 => [(5, none), (40, some 2)] | 9 => [(46, some 8), (40, some 2)] | 10 => [(45, some 7), (47, some 9), (40, some 2)] | 11 => [(48, some 10), (40, some 2)] | 12 => [(44, some 6), (49, some 11), (40, some 2)] | 13 => [(40, some 2), (50, some 12)] | _ => [], rh := fun i => match i with | 5 => [(1, none)] | 6 => [(1, none)] | 10 => [(1, none)] | 11 => [(1, none)] | _ => [], V := fun i g => match i with | 0 => .int .i64 v25 | 1 => .bool (decide (0 < v25)) | 2 => .bool (decide (0 < v25)) | 3 => .slice p19 ((x18).length) c20 | 4 => .int .i64 v25 | 5 => .pointer (some ⟨eB p19, eO p19 + Int.toNat v25 * Enc.sz K + 0, none⟩) | 6 => .agg #[.int .i64 x27.s, .int .i64 x27.p] | 7 => .slice p19 ((x18).length) c20 | 8 => .int .i64 v25 | 9 => .int .i64 x28 | 10 => .pointer (some ⟨eB p19, eO p19 + Int.toNat x28 * Enc.sz K + 0, none⟩) | 11 => .agg #[.int .i64 x29.s, .int .i64 x29.p] | 12 => .bool x30 | 13 => .bool y26 | _ => undef, U := fun i g => match i with | _ => [], Φ := fun i x => match i with | _ => True } g_mixed [3, 5] [1] (by kernel_rfl) (by kernel_rfl) (by kernel_rfl) ⟨⟨⟨⟨⟨⟨⟨⟨⟨⟨⟨⟨⟨⟨trivial, fun _ => ⟨rfl, rfl⟩⟩, fun _ => ⟨rfl, rfl⟩⟩, fun _ => ⟨rfl, rfl⟩⟩, fun _ => ⟨rfl, rfl⟩⟩, fun _ => ⟨rfl, rfl⟩⟩, fun _ => ⟨rfl, rfl⟩⟩, fun _ => ⟨rfl, rfl⟩⟩, fun _ => ⟨rfl, rfl⟩⟩, fun _ => ⟨rfl, rfl⟩⟩, fun _ => ⟨rfl, rfl⟩⟩, fun _ => ⟨rfl, rfl⟩⟩, fun _ => ⟨rfl, rfl⟩⟩, fun _ => ⟨rfl, rfl⟩⟩, fun _ => ⟨rfl, rfl⟩⟩ ?_ ?_
                · refine ⟨⟨⟨⟨⟨⟨⟨⟨⟨⟨⟨⟨⟨⟨trivial, ?_⟩, ?_⟩, ?_⟩, ?_⟩, ?_⟩, ?_⟩, ?_⟩, ?_⟩, ?_⟩, ?_⟩, ?_⟩, ?_⟩, ?_⟩, ?_⟩
                  · exact loc_det rfl rfl (fun _ => rfl) trivial (fun g hΦ s h hs hh => ⟨.none, (stp_move (sv hs 5 rfl))⟩)
                  · exact loc_det rfl rfl (fun _ => rfl) trivial (fun g hΦ s h hs hh => ⟨.none, (stp_gtr (sv hs 38 rfl) rfl)⟩)
                  · exact loc_det rfl rfl (fun _ => rfl) trivial (fun g hΦ s h hs hh => ⟨.none, (stp_move (sv hs 39 rfl))⟩)
                  · exact loc_det rfl rfl (fun _ => rfl) trivial (fun g hΦ s h hs hh => ⟨(.some (gval_of rfl (sv hs 40 rfl)) hy26), (stp_move (sv hs 3 rfl))⟩)
                  · exact loc_det rfl rfl (fun _ => rfl) trivial (fun g hΦ s h hs hh => ⟨(.some (gval_of rfl (sv hs 40 rfl)) hy26), (stp_move (sv hs 5 rfl))⟩)
                  · exact loc_det rfl rfl (fun _ => rfl) trivial (fun g hΦ s h hs hh => ⟨(.some (gval_of rfl (sv hs 40 rfl)) hy26), (stp_indexAddr Tryd.underlying56 ts28 (by decide) (sv hs 41 rfl) (by simp [hl24]) (sv hs 42 rfl) (Rdb.own (id := 1) (hh.get 1 _ rfl) o24) e27)⟩)
                  · exact loc_det rfl rfl (fun _ => rfl) trivial (fun g hΦ s h hs hh => ⟨(.some (gval_of rfl (sv hs 40 rfl)) hy26), (stp_loadN (us := [_, _]) ts28 (sv hs 43 rfl) (Cells.el (Rdb.own (id := 1) (hh.get 1 _ rfl) o24) (by decide) e27 0 2 rfl))⟩)
                  · exact loc_det rfl rfl (fun _ => rfl) trivial (fun g hΦ s h hs hh => ⟨(.some (gval_of rfl (sv hs 40 rfl)) hy26), (stp_move (sv hs 3 rfl))⟩)
                  · exact loc_det rfl rfl (fun _ => rfl) trivial (fun g hΦ s h hs hh => ⟨(.some (gval_of rfl (sv hs 40 rfl)) hy26), (stp_move (sv hs 5 rfl))⟩)
                  · exact loc_det rfl rfl (fun _ => rfl) trivial (fun g hΦ s h hs hh => ⟨(.some (gval_of rfl (sv hs 40 rfl)) hy26), (stp_sub (sv hs 46 rfl) rfl e28)⟩)
                  · exact loc_det rfl rfl (fun _ => rfl) trivial (fun g hΦ s h hs hh => ⟨(.some (gval_of rfl (sv hs 40 rfl)) hy26), (stp_indexAddr Tryd.underlying56 ts28 (by decide) (sv hs 45 rfl) (by simp [hl24]) (sv hs 47 rfl) (Rdb.own (id := 1) (hh.get 1 _ rfl) o24) e29)⟩)
                  · exact loc_det rfl rfl (fun _ => rfl) trivial (fun g hΦ s h hs hh => ⟨(.some (gval_of rfl (sv hs 40 rfl)) hy26), (stp_loadN (us := [_, _]) ts28 (sv hs 48 rfl) (Cells.el (Rdb.own (id := 1) (hh.get 1 _ rfl) o24) (by decide) e29 0 2 rfl))⟩)
                  · refine loc_eff rfl rfl (fun g hΦ s h hs hh => ⟨(.some (gval_of rfl (sv hs 40 rfl)) hy26), (stpU_call (fun i => 3 + i) cf96 (fun w hw => c_s_KeyBefore fl w x27 x29 x30 e30) (sevs_cons (sv hs 44 rfl) (sevs_cons (sv hs 49 rfl) sevs_nil)))⟩) ?_
                    rintro g _ _ ⟨_, ⟨rfl, rfl⟩, rfl⟩
                    exact ⟨⟨[], [], []⟩, trivial, .inr rfl, rfl⟩
                  · exact loc_det rfl rfl (fun _ => rfl) trivial (fun g hΦ s h hs hh => ⟨.none, (stp_pick_tB (sv hs 40 rfl) hy26 (sv hs 50 rfl) qy26)⟩)
                · intro g hΦ
                  exact kw_join () trivial ⟨rfl, rfl, rfl, rfl, rfl, trivial⟩ ⟨rfl, rfl, trivial⟩
              · have ey26 := cond_f ey26 hy26
                have qy26 := Option.some.inj ey26
                refine region_drawn { dst := fun i => match i with | 0 => some 38 | 1 => some 39 | 2 => some 40 | 3 => some 41 | 4 => some 42 | 5 => some 43 | 6 => some 44 | 7 => some 45 | 8 => some 46 | 9 => some 47 | 10 => some 48 | 11 => some 49 | 12 => some 50 | 13 => some 51 | _ => none, pre := fun i => match i with | 1 => [0] | 2 => [0, 1] | 3 => [0, 1, 2] | 4 => [0, 1, 2] | 5 => [0, 1, 2, 3, 4] | 6 => [0, 1, 2, 3, 4, 5] | 7 => [0, 1, 2] | 8 => [0, 1, 2] | 9 => [0, 1, 2, 8] | 10 => [0, 1, 2, 7, 8, 9] | 11 => [0, 1, 2, 7, 8, 9, 10] | 12 => [0, 1, 2, 3, 4, 5, 6, 7, 8, 9, 10, 11] | 13 => [0, 1, 2, 3, 4, 5, 6, 7, 8, 9, 10, 11, 12] | _ => [], ids := fun i => match i with | _ => [], rs := fun i => match i with | 0 => [(5, none)] | 1 => [(38, some 0)] | 2 => [(39, some 1)] | 3 => [(40, some 2)] | 4 => [(40, some 2)] | 5 => [(40, some 2)] | 6 => [(40, some 2)] | 7 => [(40, some 2)] | 8 => [(40, some 2)] | 9 => [(40, some 2)] | 10 => [(40, some 2)] | 11 => [(40, some 2)] | 12 => [(40, some 2)] | 13 => [(40, some 2), (50, some 12)] | _ => [], rh := fun i => match i with | _ => [], V := fun i g => match i with | 0 => .int .i64 v25 | 1 => .bool (decide (0 < v25)) | 2 => .bool (decide (0 < v25)) | 3 => undef | 4 => undef | 5 => undef | 6 => undef | 7 => undef | 8 => undef | 9 => undef | 10 => undef | 11 => undef | 12 => undef | 13 => .bool y26 | _ => undef, U := fun i g => match i with | _ => [], Φ := fun i x => match i with | _ => True } g_mixed [5] [] (by kernel_rfl) (by kernel_rfl) (by kernel_rfl) ⟨⟨⟨⟨⟨⟨⟨⟨⟨⟨⟨⟨⟨⟨trivial, fun _ => ⟨rfl, rfl⟩⟩, fun _ => ⟨rfl, rfl⟩⟩, fun _ => ⟨rfl, rfl⟩⟩, fun _ => ⟨rfl, rfl⟩⟩, fun _ => ⟨rfl, rfl⟩⟩, fun _ => ⟨rfl, rfl⟩⟩, fun _ => ⟨rfl, rfl⟩⟩, fun _ => ⟨rfl, rfl⟩⟩, fun _ => ⟨rfl, rfl⟩⟩, fun _ => ⟨rfl, rfl⟩⟩, fun _ => ⟨rfl, rfl⟩⟩, fun _ => ⟨rfl, rfl⟩⟩, fun _ => ⟨rfl, rfl⟩⟩, fun _ => ⟨rfl, rfl⟩⟩ ?_ ?_
                · refine ⟨⟨⟨⟨⟨⟨⟨⟨⟨⟨⟨⟨⟨⟨trivial, ?_⟩, ?_⟩, ?_⟩, ?_⟩, ?_⟩, ?_⟩, ?_⟩, ?_⟩, ?_⟩, ?_⟩, ?_⟩, ?_⟩, ?_⟩, ?_⟩
                  · exact loc_det rfl rfl (fun _ => rfl) trivial (fun g hΦ s h hs hh => ⟨.none, (stp_move (sv hs 5 rfl))⟩)
                  · exact loc_det rfl rfl (fun _ => rfl) trivial (fun g hΦ s h hs hh => ⟨.none, (stp_gtr (sv hs 38 rfl) rfl)⟩)
                  · exact loc_det rfl rfl (fun _ => rfl) trivial (fun g hΦ s h hs hh => ⟨.none, (stp_move (sv hs 39 rfl))⟩)
                  · exact loc_off rfl rfl (fun _ => rfl) (fun _ => rfl) trivial (fun g hΦ s h hs hh => (.some (gval_of rfl (sv hs 40 rfl)) hy26))
                  · exact loc_off rfl rfl (fun _ => rfl) (fun _ => rfl) trivial (fun g hΦ s h hs hh => (.some (gval_of rfl (sv hs 40 rfl)) hy26))
                  · exact loc_off rfl rfl (fun _ => rfl) (fun _ => rfl) trivial (fun g hΦ s h hs hh => (.some (gval_of rfl (sv hs 40 rfl)) hy26))
                  · exact loc_off rfl rfl (fun _ => rfl) (fun _ => rfl) trivial (fun g hΦ s h hs hh => (.some (gval_of rfl (sv hs 40 rfl)) hy26))
                  · exact loc_off rfl rfl (fun _ => rfl) (fun _ => rfl) trivial (fun g hΦ s h hs hh => (.some (gval_of rfl (sv hs 40 rfl)) hy26))
                  · exact loc_off rfl rfl (fun _ => rfl) (fun _ => rfl) trivial (fun g hΦ s h hs hh => (.some (gval_of rfl (sv hs 40 rfl)) hy26))
                  · exact loc_off rfl rfl (fun _ => rfl) (fun _ => rfl) trivial (fun g hΦ s h hs hh => (.some (gval_of rfl (sv hs 40 rfl)) hy26))
                  · exact loc_off rfl rfl (fun _ => rfl) (fun _ => rfl) trivial (fun g hΦ s h hs hh => (.some (gval_of rfl (sv hs 40 rfl)) hy26))
                  · exact loc_off rfl rfl (fun _ => rfl) (fun _ => rfl) trivial (fun g hΦ s h hs hh => (.some (gval_of rfl (sv hs 40 rfl)) hy26))
                  · exact loc_off rfl rfl (fun _ => rfl) (fun _ => rfl) trivial (fun g hΦ s h hs hh => (.some (gval_of rfl (sv hs 40 rfl)) hy26))
                  · exact loc_det rfl rfl (fun _ => rfl) trivial (fun g hΦ s h hs hh => ⟨.none, (stp_pick_fB (sv hs 40 rfl) hy26 rfl qy26)⟩)
                · intro g hΦ
                  exact kw_join () trivial ⟨rfl, rfl, rfl, rfl, rfl, trivial⟩ ⟨rfl, rfl, trivial⟩
            · rintro _ -
              refine KW.sub (s' := [(1, .pointer (some ⟨b1, 0, none⟩)), (3, .slice p19 ((x18).length) c20), (4, .int .i64 v9), (5, .int .i64 v25), (51, .bool y26)]) (h' := [(0, [(b1, .cells #[.slice p0_0 ((a0.b).length) c0_0, .slice p0_1 ((a0.f).length) c0_1] 26 (0, 0))]), (1, C24)]) ?_ ⟨rfl, rfl, rfl, rfl, rfl, trivial⟩ ⟨rfl, rfl, trivial⟩
              refine kw_nx ?_
              refine cw_cond rfl (fun h31 => ?_) (fun h31 => ?_)
              · have H2 := cond_t H2 h31
                refine cw_skip ?_
                refine kw_nx ?_
                refine cw_seq ?_
                refine cw_block ?_
                refine cw_seq ?_
                refine cw_region ?_
                refine ow_det .none (stp_move rfl) rfl ?_
                refine ow_det .none (stp_move rfl) rfl ?_
                obtain ⟨x32, e32, H2⟩ := bind_some H2
                refine ow_det .none (stp_indexAddr Tryd.underlying56 ts28 (by decide) rfl (by simp [hl24]) rfl (Rdb.own (id := 1) rfl o24) e32) rfl ?_
                refine ow_det .none (stp_loadN (us := [_, _]) ts28 rfl (Cells.el (Rdb.own (id := 1) rfl o24) (by decide) e32 0 2 rfl)) rfl ?_
                refine ow_eff .none (stpU_alloc 3 tz28 rfl) rfl ?_
                rintro _ _ ⟨b33, rfl, rfl⟩
                refine ow_eff0 .none (stpU_store (id := 3) (cs' := [.int .i64 x32.s, .int .i64 x32.p]) ts28 rfl rfl rfl rfl rfl rfl rfl) ?_
                rintro _ _ rfl
                refine ow_nil ?_
                refine kw_nx ?_
                refine cw_seq ?_
                refine cw_region ?_
                refine ow_det .none (stp_move rfl) rfl ?_
                refine ow_det .none (stp_move rfl) rfl ?_
                refine ow_det .none (stp_move rfl) rfl ?_
                refine ow_det .none (stp_move rfl) rfl ?_
                obtain ⟨x34, e34, H2⟩ := bind_some H2
                refine ow_det .none (stp_sub rfl rfl e34) rfl ?_
                obtain ⟨x35, e35, H2⟩ := bind_some H2
                refine ow_det .none (stp_indexAddr Tryd.underlying56 ts28 (by decide) rfl (by simp [hl24]) rfl (Rdb.own (id := 1) rfl o24) e35) rfl ?_
                refine ow_det .none (stp_loadN (us := [_, _]) ts28 rfl (Cells.el (Rdb.own (id := 1) rfl o24) (by decide) e35 0 2 rfl)) rfl ?_
                refine ow_det .none (stp_indexAddr Tryd.underlying56 ts28 (by decide) rfl (by simp [hl24]) rfl (Rdb.own (id := 1) rfl o24) e32) rfl ?_
                refine ow_eff0 .none (stpU_storeEl (id := 1) (i := 0) x35 (by decide) ts28 rfl rfl rfl o24 e32 rfl rfl rfl rfl) ?_
                rintro _ _ ⟨C36, rfl, o36⟩
                refine ow_nil ?_
                refine kw_nx ?_
                refine cw_region ?_
                refine ow_det .none (stp_move rfl) rfl ?_
                refine ow_det .none (stp_move rfl) rfl ?_
                refine ow_det .none (stp_sub rfl rfl e34) rfl ?_
                refine ow_det .none (stp_loadN (us := [_, _]) ts28 rfl (Cells.box (id := 3) rfl 2 rfl)) rfl ?_
                obtain ⟨x37, e37, H2⟩ := bind_some H2
                refine ow_det .none (stp_indexAddr Tryd.underlying56 ts28 (by decide) rfl (by simp [hl24]) rfl (Rdb.own (id := 1) rfl o36) e37) rfl ?_
                refine ow_eff0 .none (stpU_storeEl (id := 1) (i := 0) x32 (by decide) ts28 rfl rfl rfl o36 e37 rfl rfl rfl rfl) ?_
                rintro _ _ ⟨C38, rfl, o38⟩
                refine ow_nil ?_
                refine kw_bl_normal ?_
                refine kw_nx ?_
                refine cw_region ?_
                refine ow_det .none (stp_move rfl) rfl ?_
                refine ow_det .none (stp_sub rfl rfl e34) rfl ?_
                refine ow_det .none (stp_assign rfl) rfl ?_
                refine ow_nil ?_
                exact kw_lqS (js := [0, 1]) (fuel, ((v23.set (Int.toNat v25) x35).set (Int.toNat x34) x32), x34, C38) ⟨H2, (by simp [hl24]), o38⟩ (Nat.lt_succ_self _) ⟨rfl, rfl, rfl, rfl, trivial⟩ ⟨0, [1], rfl, rfl, 1, [], rfl, rfl, trivial⟩ (by decide)
              · have H2 := cond_f H2 h31
                refine cw_exit ?_
                refine kw_nx_exit ?_
                refine kw_lq_exit ?_
                refine kw_bl ?_
                have q2 := Option.some.inj H2
                subst q2
                exact kw_joinS (js := [0, 1]) (v23, v25, C24) ⟨rfl, (by simp [hl24]), o24⟩ ⟨rfl, rfl, rfl, rfl, trivial⟩ ⟨0, [1], rfl, rfl, 1, [], rfl, rfl, trivial⟩ (by decide)
          · rintro ⟨v23, v25, C24⟩ ⟨rfl, hl24, o24⟩
            refine KW.sub (s' := [(1, .pointer (some ⟨b1, 0, none⟩)), (3, .slice p19 ((x18).length) c20), (4, .int .i64 v9), (5, .int .i64 v25)]) (h' := [(0, [(b1, .cells #[.slice p0_0 ((a0.b).length) c0_0, .slice p0_1 ((a0.f).length) c0_1] 26 (0, 0))]), (1, C24)]) ?_ ⟨rfl, rfl, rfl, rfl, trivial⟩ ⟨rfl, rfl, trivial⟩
            refine kw_bl_normal ?_
            refine kw_nx ?_
            refine cw_region ?_
            refine ow_det .none (stp_move rfl) rfl ?_
            obtain ⟨x39, e39, H1⟩ := bind_some H1
            refine ow_det .none (stp_add rfl rfl e39) rfl ?_
            refine ow_det .none (stp_assign rfl) rfl ?_
            refine ow_nil ?_
            exact kw_lqS (js := [0, 1]) (fuel, v23, x39, p19, ((x18).length), c20, C24) ⟨H1, (by simp [hl24]), o24⟩ (Nat.lt_succ_self _) ⟨rfl, rfl, rfl, trivial⟩ ⟨0, [1], rfl, rfl, 1, [], rfl, rfl, trivial⟩ (by decide)
      · have H1 := cond_f H1 h12
        refine cw_exit ?_
        refine kw_nx_exit ?_
        refine kw_lq_exit ?_
        refine kw_bl ?_
        have q1 := Option.some.inj H1
        subst q1
        exact kw_joinS (js := [0, 1]) (v4, v9, p5, ((v4).length), c7, C8) ⟨rfl, rfl, o8⟩ ⟨rfl, rfl, rfl, trivial⟩ ⟨0, [1], rfl, rfl, 1, [], rfl, rfl, trivial⟩ (by decide)
  · rintro ⟨v4, v9, p5, n6, c7, C8⟩ ⟨rfl, hnn6, o8⟩
    obtain rfl := hnn6
    refine KW.sub (s' := [(1, .pointer (some ⟨b1, 0, none⟩)), (3, .slice p5 ((v4).length) c7), (4, .int .i64 v9)]) (h' := [(0, [(b1, .cells #[.slice p0_0 ((a0.b).length) c0_0, .slice p0_1 ((a0.f).length) c0_1] 26 (0, 0))]), (1, C8)]) ?_ ⟨rfl, rfl, rfl, trivial⟩ ⟨rfl, rfl, trivial⟩
    refine kw_nx ?_
    refine cw_seq ?_
    refine cw_region ?_
    refine ow_det .none (stp_move rfl) rfl ?_
    refine ow_det .none (stp_assign rfl) rfl ?_
    refine ow_nil ?_
    refine kw_nx ?_
    refine cw_ret ?_
    have q0 := Option.some.inj H0
    subst q0
    exact kw_ret Tryd.results91 (.cons (.tmp rfl) .nil) [(0, C8)] [1] ⟨1, [], rfl, rfl, trivial⟩ (by decide) ⟨p5, ((v4).length), c7, C8, rfl, rfl, rfl, o8⟩

set_option maxHeartbeats 4000000 in
set_option maxRecDepth 20000 in
theorem c_s_l3At (fl : Nat) (w : World) (m0 : Nat) (a0_0 : (List UInt8)) (p0_0_0 : Option Addr) (n0_0_0 c0_0_0 : Nat) (a0_1 : Int) (hn0_0_0 : n0_0_0 = (a0_0).length) (hr0_0_0 : RO w (hkeys [(0, [(m0, .cells #[.slice p0_0_0 n0_0_0 c0_0_0, .int .i64 a0_1] 97 (0, 0))])]) (RdL p0_0_0 c0_0_0 a0_0)) (hM : Sat w (hkeys [(0, [(m0, .cells #[.slice p0_0_0 n0_0_0 c0_0_0, .int .i64 a0_1] 97 (0, 0))])]) w [(0, [(m0, .cells #[.slice p0_0_0 n0_0_0 c0_0_0, .int .i64 a0_1] 97 (0, 0))])]) (r : T × K × Int) (H0 : s_l3At fl a0_0 a0_1 = some r) :
    Ct Tryd.prog 66 [.pointer (some ⟨m0, 0, none⟩)] w [(0, [(m0, .cells #[.slice p0_0_0 n0_0_0 c0_0_0, .int .i64 a0_1] 97 (0, 0))])] (fun rv h' => ∃ (x1 : Option Addr) (y1 z1 : Nat) (C1 : Res) (x2 : Option Addr) (y2 z2 : Nat) (C2 : Res), rv = .tuple #[.agg #[.slice x1 y1 z1, .slice x2 y2 z2], .agg #[.int .i64 r.2.1.s, .int .i64 r.2.1.p]] ∧ h' = [(0, [(m0, .cells #[.slice p0_0_0 n0_0_0 c0_0_0, .int .i64 r.2.2] 97 (0, 0))]), (1, C1), (2, C2)] ∧ y1 = (r.1.b).length ∧ OwnC 3 x1 z1 r.1.b C1 ∧ y2 = (r.1.f).length ∧ OwnC 53 x2 z2 r.1.f C2) := by
  obtain rfl := hn0_0_0
  unfold s_l3At at H0
  refine ct_of_cw Tryd.func66 rfl Tryd.ntmps66 rfl hM ?_
  refine cw_seq ?_
  refine cw_region ?_
  refine ow_eff .none (stpU_alloc 1 tz26 rfl) rfl ?_
  rintro _ _ ⟨b1, rfl, rfl⟩
  refine ow_eff .none (stpU_alloc 2 tz28 rfl) rfl ?_
  rintro _ _ ⟨b2, rfl, rfl⟩
  refine ow_nil ?_
  refine kw_nx ?_
  refine cw_seq ?_
  refine cw_region ?_
  refine ow_det .none (stp_move rfl) rfl ?_
  obtain ⟨x3, e3, H0⟩ := bind_some H0
  refine ow_eff .none (stpU_callM (fun i => bif Nat.beq i 0 then 0 else 3 + i) cf35 (fun w hw hb => c_s_l3Draw fl w m0 a0_0 p0_0_0 ((a0_0).length) c0_0_0 a0_1 rfl (RO.passM hr0_0_0 hw hb) (hw.pass (js := [0]) ⟨0, [], rfl, rfl, trivial⟩ (by decide)) x3 e3) (sevs_cons rfl sevs_nil) ⟨rfl, (fun _ _ hp => by obtain ⟨_, _, _, _, _, _, _, _, _, rfl, _⟩ := hp; exact ⟨_, rfl⟩), trivial⟩) rfl ?_
  rintro _ _ ⟨_, ⟨p4, n5, c6, C7, p8, n9, c10, C11, rfl, rfl, hnn5, o7, hnn9, o11⟩, rfl⟩
  obtain rfl := hnn5
  obtain rfl := hnn9
  refine ow_eff .none (stpU_alloc 6 tz26 rfl) rfl ?_
  rintro _ _ ⟨b12, rfl, rfl⟩
  refine ow_eff0 .none (stpU_store (id := 6) (cs' := [.slice p4 ((x3.1.b).length) c6, .slice p8 ((x3.1.f).length) c10]) ts26 rfl rfl rfl rfl rfl rfl rfl) ?_
  rintro _ _ rfl
  refine ow_nil ?_
  refine kw_nx ?_
  refine cw_seq ?_
  refine cw_region ?_
  refine ow_det .none (stp_loadN (us := [_, _]) ts26 rfl (Cells.box (id := 6) rfl 2 rfl)) rfl ?_
  obtain ⟨x13, e13, H0⟩ := bind_some H0
  refine ow_eff .none (stpU_call (fun i => 7 + i) cf91 (fun w hw => c_s_KeysOf fl w x3.1 p4 ((x3.1.b).length) c6 p8 ((x3.1.f).length) c10 rfl (OwnC.pass (id := 4) rfl o7 hw) rfl (OwnC.pass (id := 5) rfl o11 hw) x13 e13) (sevs_cons rfl sevs_nil)) rfl ?_
  rintro _ _ ⟨_, ⟨p14, n15, c16, C17, rfl, rfl, hnn15, o17⟩, rfl⟩
  obtain rfl := hnn15
  refine ow_det .none (stp_assign rfl) rfl ?_
  refine ow_nil ?_
  refine kw_nx ?_
  refine cw_seq ?_
  refine cw_region ?_
  refine ow_det .none (stp_move rfl) rfl ?_
  obtain ⟨x18, e18, H0⟩ := bind_some H0
  refine ow_eff .none (stpU_callM (fun i => bif Nat.beq i 0 then 0 else 8 + i) cf36 (fun w hw hb => c_s_l2Case fl w m0 a0_0 p0_0_0 ((a0_0).length) c0_0_0 x3.2 rfl (RO.passM hr0_0_0 hw hb) (hw.pass (js := [0]) ⟨0, [], rfl, rfl, trivial⟩ (by decide)) x18 e18) (sevs_cons rfl sevs_nil) ⟨rfl, (fun _ _ hp => by obtain ⟨_, rfl⟩ := hp; exact ⟨_, rfl⟩), trivial⟩) rfl ?_
  rintro _ _ ⟨_, ⟨rfl, rfl⟩, rfl⟩
  refine ow_eff .none (stpU_alloc 9 tz28 rfl) rfl ?_
  rintro _ _ ⟨b19, rfl, rfl⟩
  refine ow_eff0 .none (stpU_store (id := 9) (cs' := [.int .i64 x18.1.s, .int .i64 x18.1.p]) ts28 rfl rfl rfl rfl rfl rfl rfl) ?_
  rintro _ _ rfl
  refine ow_nil ?_
  refine kw_nx ?_
  refine cw_seq ?_
  refine cw_seq ?_
  refine cw_region ?_
  refine ow_det .none (stp_move rfl) rfl ?_
  refine ow_det .none (stp_len Tryd.underlying56 rfl) rfl ?_
  refine ow_det .none (stp_gtr rfl rfl) rfl ?_
  refine ow_det .none (stp_move rfl) rfl ?_
  obtain ⟨y20, ey20, H0⟩ := bind_some H0
  refine ow_cut (ι := Unit) 4 (fun _ => True) (fun _ => [(0, .pointer (some ⟨m0, 0, none⟩)), (2, .pointer (some ⟨b1, 0, none⟩)), (3, .pointer (some ⟨b2, 0, none⟩)), (4, .pointer (some ⟨b12, 0, none⟩)), (5, .slice p14 ((x13).length) c16), (6, .pointer (some ⟨b19, 0, none⟩)), (7, .pointer (some ⟨m0, 0, none⟩)), (8, .agg #[.slice p4 ((x3.1.b).length) c6, .slice p8 ((x3.1.f).length) c10]), (9, .agg #[.slice p4 ((x3.1.b).length) c6, .slice p8 ((x3.1.f).length) c10]), (10, .slice p14 ((x13).length) c16), (11, .pointer (some ⟨m0, 0, none⟩)), (12, .agg #[.int .i64 x18.1.s, .int .i64 x18.1.p]), (13, .slice p14 ((x13).length) c16), (14, .int .i64 ((x13).length : Int)), (15, .bool (decide (0 < ((x13).length : Int)))), (16, .bool (decide (0 < ((x13).length : Int)))), (20, .bool y20.1)]) (fun _ => [(0, [(m0, .cells #[.slice p0_0_0 ((a0_0).length) c0_0_0, .int .i64 y20.2] 97 (0, 0))]), (1, [(b1, .cells #[.slice none 0 0, .slice none 0 0] 26 (0, 0))]), (2, [(b2, .cells #[.int .i64 0, .int .i64 0] 28 (0, 0))]), (4, C7), (5, C11), (6, [(b12, .cells #[.slice p4 ((x3.1.b).length) c6, .slice p8 ((x3.1.f).length) c10] 26 (0, 0))]), (7, C17), (9, [(b19, .cells #[.int .i64 x18.1.s, .int .i64 x18.1.p] 28 (0, 0))])]) ?_ (fun _ _ => ?_)
  · rcases Bool.eq_false_or_eq_true (decide (0 < ((x13).length : Int))) with hy20 | hy20
    · have ey20 := cond_t ey20 hy20
      refine ow_det (.some rfl hy20) (stp_move rfl) rfl ?_
      obtain ⟨x21, e21, ey20⟩ := bind_some ey20
      refine ow_eff (.some rfl hy20) (stpU_callM (fun i => bif Nat.beq i 0 then 0 else 10 + i) cf74 (fun w hw hb => c_s_l12Rd_pick fl w m0 a0_0 p0_0_0 ((a0_0).length) c0_0_0 x18.2 3 rfl (RO.passM hr0_0_0 hw hb) (hw.pass (js := [0]) ⟨0, [], rfl, rfl, trivial⟩ (by decide)) x21 e21) (sevs_cons rfl (sevs_cons rfl sevs_nil)) ⟨rfl, (fun _ _ hp => by obtain ⟨_, rfl⟩ := hp; exact ⟨_, rfl⟩), trivial⟩) rfl ?_
      rintro _ _ ⟨_, ⟨rfl, rfl⟩, rfl⟩
      refine ow_det (.some rfl hy20) (stp_gtr rfl rfl) rfl ?_
      refine ow_det .none (stp_pick_t rfl hy20 rfl) rfl ?_
      obtain rfl := Option.some.inj ey20
      exact ow_nil (kw_join () trivial ⟨rfl, rfl, rfl, rfl, rfl, rfl, rfl, rfl, rfl, rfl, rfl, rfl, rfl, rfl, rfl, rfl, rfl, trivial⟩ ⟨rfl, rfl, rfl, rfl, rfl, rfl, rfl, rfl, trivial⟩)
    · have ey20 := cond_f ey20 hy20
      refine ow_off (.some rfl hy20) rfl ?_
      refine ow_off (.some rfl hy20) rfl ?_
      refine ow_off (.some rfl hy20) rfl ?_
      refine ow_det .none (stp_pick_f rfl hy20 rfl) rfl ?_
      obtain rfl := Option.some.inj ey20
      exact ow_nil (kw_join () trivial ⟨rfl, rfl, rfl, rfl, rfl, rfl, rfl, rfl, rfl, rfl, rfl, rfl, rfl, rfl, rfl, rfl, rfl, trivial⟩ ⟨rfl, rfl, rfl, rfl, rfl, rfl, rfl, rfl, trivial⟩)
  · refine ow_nil ?_
    refine kw_nx ?_
    refine cw_cond rfl (fun h22 => ?_) (fun h22 => ?_)
    · have H0 := cond_t H0 h22
      refine cw_region ?_
      refine ow_det .none (stp_move rfl) rfl ?_
      refine ow_det .none (stp_move rfl) rfl ?_
      refine ow_det .none (stp_move rfl) rfl ?_
      refine ow_det .none (stp_len Tryd.underlying56 rfl) rfl ?_
      obtain ⟨x23, e23, H0⟩ := bind_some H0
      refine ow_eff .none (stpU_callM (fun i => bif Nat.beq i 0 then 0 else 11 + i) cf74 (fun w hw hb => c_s_l12Rd_pick fl w m0 a0_0 p0_0_0 ((a0_0).length) c0_0_0 y20.2 ((x13).length : Int) rfl (RO.passM hr0_0_0 hw hb) (hw.pass (js := [0]) ⟨0, [], rfl, rfl, trivial⟩ (by decide)) x23 e23) (sevs_cons rfl (sevs_cons rfl sevs_nil)) ⟨rfl, (fun _ _ hp => by obtain ⟨_, rfl⟩ := hp; exact ⟨_, rfl⟩), trivial⟩) rfl ?_
      rintro _ _ ⟨_, ⟨rfl, rfl⟩, rfl⟩
      obtain ⟨x24, e24, H0⟩ := bind_some H0
      refine ow_det .none (stp_indexAddr Tryd.underlying56 ts28 (by decide) rfl rfl rfl (Rdb.own (id := 7) rfl o17) e24) rfl ?_
      refine ow_det .none (stp_loadN (us := [_, _]) ts28 rfl (Cells.el (Rdb.own (id := 7) rfl o17) (by decide) e24 0 2 rfl)) rfl ?_
      refine ow_eff0 .none (stpU_store (id := 9) (cs' := [.int .i64 x24.s, .int .i64 x24.p]) ts28 rfl rfl rfl rfl rfl rfl rfl) ?_
      rintro _ _ rfl
      refine ow_nil ?_
      refine kw_nx ?_
      refine cw_seq ?_
      obtain ⟨x25, e25, H0⟩ := bind_some H0
      refine region_drawn { dst := fun i => match i with | 0 => some 28 | 1 => some 29 | 2 => some 30 | 3 => some 31 | _ => none, pre := fun i => match i with | 2 => [0, 1] | 4 => [0, 1, 2] | 5 => [0, 1, 2, 3, 4] | _ => [], ids := fun i => match i with | 2 => [0, 13, 14] | 4 => [1] | 5 => [2] | _ => [], rs := fun i => match i with | 0 => [(0, none)] | 1 => [(4, none)] | 2 => [(28, some 0), (29, some 1)] | 3 => [(6, none)] | 4 => [(2, none), (30, some 2)] | 5 => [(3, none), (31, some 3)] | _ => [], rh := fun i => match i with | 1 => [(6, none)] | 2 => [(0, none), (4, none), (5, none)] | 3 => [(9, none)] | 4 => [(1, none)] | 5 => [(2, none)] | _ => [], V := fun i g => match i with | 0 => .pointer (some ⟨m0, 0, none⟩) | 1 => .agg #[.slice p4 ((x3.1.b).length) c6, .slice p8 ((x3.1.f).length) c10] | 2 => .agg #[.slice ((g 2).A 0) ((x25.1.b).length) ((g 2).C 0), .slice ((g 2).A 1) ((x25.1.f).length) ((g 2).C 1)] | 3 => .agg #[.int .i64 x24.s, .int .i64 x24.p] | _ => undef, U := fun i g => match i with | 2 => [(0, [(m0, .cells #[.slice p0_0_0 ((a0_0).length) c0_0_0, .int .i64 x25.2] 97 (0, 0))]), (13, ((g 2).R 0)), (14, ((g 2).R 1))] | 4 => [(1, [(b1, .cells #[.slice ((g 2).A 0) ((x25.1.b).length) ((g 2).C 0), .slice ((g 2).A 1) ((x25.1.f).length) ((g 2).C 1)] 26 (0, 0))])] | 5 => [(2, [(b2, .cells #[.int .i64 x24.s, .int .i64 x24.p] 28 (0, 0))])] | _ => [], Φ := fun i x => match i with | 2 => OwnC (α := Int) 3 (x.A 0) (x.C 0) x25.1.b (x.R 0) ∧ OwnC (α := F) 53 (x.A 1) (x.C 1) x25.1.f (x.R 1) | _ => True } g_mixed [0, 2, 3, 4, 6] [0, 1, 2, 4, 5, 6, 9] (by kernel_rfl) (by kernel_rfl) (by kernel_rfl) ⟨⟨⟨⟨⟨⟨trivial, fun _ => ⟨rfl, rfl⟩⟩, fun _ => ⟨rfl, rfl⟩⟩, fun _ => ⟨rfl, rfl⟩⟩, fun _ => ⟨rfl, rfl⟩⟩, fun _ => ⟨rfl, rfl⟩⟩, fun _ => ⟨rfl, rfl⟩⟩ ?_ ?_
      · refine ⟨⟨⟨⟨⟨⟨trivial, ?_⟩, ?_⟩, ?_⟩, ?_⟩, ?_⟩, ?_⟩
        · exact loc_det rfl rfl (fun _ => rfl) trivial (fun g hΦ s h hs hh => ⟨.none, (stp_move (sv hs 0 rfl))⟩)
        · exact loc_det rfl rfl (fun _ => rfl) trivial (fun g hΦ s h hs hh => ⟨.none, (stp_loadN (us := [_, _]) ts26 (sv hs 4 rfl) (Cells.box (id := 6) (hh.get 6 _ rfl) 2 rfl))⟩)
        · refine loc_eff rfl rfl (fun g hΦ s h hs hh => ⟨.none, (stpU_callM (fun i => bif Nat.beq i 0 then 0 else 12 + i) cf34 (fun w hw hb => c_s_l3Wrong fl w m0 a0_0 p0_0_0 ((a0_0).length) c0_0_0 x23.2 x3.1 p4 ((x3.1.b).length) c6 p8 ((x3.1.f).length) c10 rfl (RO.passM hr0_0_0 hw hb) rfl (OwnC.passM (id := 4) (hh.get 4 _ rfl) o7 hw hb ⟨rfl, trivial⟩) rfl (OwnC.passM (id := 5) (hh.get 5 _ rfl) o11 hw hb ⟨rfl, trivial⟩) (hw.pass (js := [0]) ⟨0, [], rfl, (hh.get 0 _ rfl), trivial⟩ (by decide)) x25 e25) (sevs_cons (sv hs 28 rfl) (sevs_cons (sv hs 29 rfl) sevs_nil)) ⟨(hh.get 0 _ rfl), (fun _ _ hp => by obtain ⟨_, _, _, _, _, _, _, _, _, rfl, _⟩ := hp; exact ⟨_, rfl⟩), trivial⟩)⟩) ?_
          rintro g _ _ ⟨_, ⟨p26, n27, c28, C29, p30, n31, c32, C33, rfl, rfl, hnn27, o29, hnn31, o33⟩, rfl⟩
          obtain rfl := hnn27
          obtain rfl := hnn31
          exact ⟨⟨[p26, p30], [c28, c32], [C29, C33]⟩, ⟨o29, o33⟩, .inr rfl, rfl⟩
        · exact loc_det rfl rfl (fun _ => rfl) trivial (fun g hΦ s h hs hh => ⟨.none, (stp_loadN (us := [_, _]) ts28 (sv hs 6 rfl) (Cells.box (id := 9) (hh.get 9 _ rfl) 2 rfl))⟩)
        · refine loc_eff rfl rfl (fun g hΦ s h hs hh => ⟨.none, (stpU_store (id := 1) (cs' := [.slice ((g 2).A 0) ((x25.1.b).length) ((g 2).C 0), .slice ((g 2).A 1) ((x25.1.f).length) ((g 2).C 1)]) ts26 (sv hs 2 rfl) (sv hs 30 rfl) (hh.get 1 _ rfl) rfl rfl rfl rfl)⟩) ?_
          rintro g _ _ rfl
          exact ⟨⟨[], [], []⟩, trivial, .inl rfl, rfl⟩
        · refine loc_eff rfl rfl (fun g hΦ s h hs hh => ⟨.none, (stpU_store (id := 2) (cs' := [.int .i64 x24.s, .int .i64 x24.p]) ts28 (sv hs 3 rfl) (sv hs 31 rfl) (hh.get 2 _ rfl) rfl rfl rfl rfl)⟩) ?_
          rintro g _ _ rfl
          exact ⟨⟨[], [], []⟩, trivial, .inl rfl, rfl⟩
      · intro g hΦ
        refine kw_gen (ι := Option Addr × Option Addr × Nat × Nat × Res × Res) (((g 2).A 0), ((g 2).A 1), ((g 2).C 0), ((g 2).C 1), ((g 2).R 0), ((g 2).R 1)) (fun | (p26, p30, c28, c32, C29, C33) => OwnC (α := Int) 3 p26 c28 x25.1.b C29 ∧ OwnC (α := F) 53 p30 c32 x25.1.f C33) (fun | (p26, p30, c28, c32, C29, C33) => [(2, .pointer (some ⟨b1, 0, none⟩)), (3, .pointer (some ⟨b2, 0, none⟩))]) (fun | (p26, p30, c28, c32, C29, C33) => [(0, [(m0, .cells #[.slice p0_0_0 ((a0_0).length) c0_0_0, .int .i64 x25.2] 97 (0, 0))]), (1, [(b1, .cells #[.slice p26 ((x25.1.b).length) c28, .slice p30 ((x25.1.f).length) c32] 26 (0, 0))]), (2, [(b2, .cells #[.int .i64 x24.s, .int .i64 x24.p] 28 (0, 0))]), (13, C29), (14, C33)]) ⟨(hΦ 2 (by decide)).1, (hΦ 2 (by decide)).2⟩ ⟨rfl, rfl, trivial⟩ ⟨rfl, rfl, rfl, rfl, rfl, trivial⟩ ?_
        rintro ⟨p26, p30, c28, c32, C29, C33⟩ ⟨o29, o33⟩
        refine KW.sub (s' := [(2, .pointer (some ⟨b1, 0, none⟩)), (3, .pointer (some ⟨b2, 0, none⟩))]) (h' := [(0, [(m0, .cells #[.slice p0_0_0 ((a0_0).length) c0_0_0, .int .i64 x25.2] 97 (0, 0))]), (1, [(b1, .cells #[.slice p26 ((x25.1.b).length) c28, .slice p30 ((x25.1.f).length) c32] 26 (0, 0))]), (2, [(b2, .cells #[.int .i64 x24.s, .int .i64 x24.p] 28 (0, 0))]), (13, C29), (14, C33)]) ?_ ⟨rfl, rfl, trivial⟩ ⟨rfl, rfl, rfl, rfl, rfl, trivial⟩
        refine kw_nx ?_
        refine cw_ret ?_
        have q0 := Option.some.inj H0
        subst q0
        exact kw_ret Tryd.results66 (.cons (.cellN (us := [_, _]) ts26 rfl (Cells.box (id := 1) rfl 2 rfl)) (.cons (.cellN (us := [_, _]) ts28 rfl (Cells.box (id := 2) rfl 2 rfl)) .nil)) [(0, [(m0, .cells #[.slice p0_0_0 ((a0_0).length) c0_0_0, .int .i64 x25.2] 97 (0, 0))]), (1, C29), (2, C33)] [0, 13, 14] ⟨0, [13, 14], rfl, rfl, 13, [14], rfl, rfl, 14, [], rfl, rfl, trivial⟩ (by decide) ⟨p26, ((x25.1.b).length), c28, C29, p30, ((x25.1.f).length), c32, C33, rfl, rfl, rfl, o29, rfl, o33⟩
    · have H0 := cond_f H0 h22
      refine cw_skip ?_
      refine kw_nx ?_
      refine cw_seq ?_
      obtain ⟨x34, e34, H0⟩ := bind_some H0
      refine region_drawn { dst := fun i => match i with | 0 => some 28 | 1 => some 29 | 2 => some 30 | 3 => some 31 | _ => none, pre := fun i => match i with | 2 => [0, 1] | 4 => [0, 1, 2] | 5 => [0, 1, 2, 3, 4] | _ => [], ids := fun i => match i with | 2 => [0, 16, 17] | 4 => [1] | 5 => [2] | _ => [], rs := fun i => match i with | 0 => [(0, none)] | 1 => [(4, none)] | 2 => [(28, some 0), (29, some 1)] | 3 => [(6, none)] | 4 => [(2, none), (30, some 2)] | 5 => [(3, none), (31, some 3)] | _ => [], rh := fun i => match i with | 1 => [(6, none)] | 2 => [(0, none), (4, none), (5, none)] | 3 => [(9, none)] | 4 => [(1, none)] | 5 => [(2, none)] | _ => [], V := fun i g => match i with | 0 => .pointer (some ⟨m0, 0, none⟩) | 1 => .agg #[.slice p4 ((x3.1.b).length) c6, .slice p8 ((x3.1.f).length) c10] | 2 => .agg #[.slice ((g 2).A 0) ((x34.1.b).length) ((g 2).C 0), .slice ((g 2).A 1) ((x34.1.f).length) ((g 2).C 1)] | 3 => .agg #[.int .i64 x18.1.s, .int .i64 x18.1.p] | _ => undef, U := fun i g => match i with | 2 => [(0, [(m0, .cells #[.slice p0_0_0 ((a0_0).length) c0_0_0, .int .i64 x34.2] 97 (0, 0))]), (16, ((g 2).R 0)), (17, ((g 2).R 1))] | 4 => [(1, [(b1, .cells #[.slice ((g 2).A 0) ((x34.1.b).length) ((g 2).C 0), .slice ((g 2).A 1) ((x34.1.f).length) ((g 2).C 1)] 26 (0, 0))])] | 5 => [(2, [(b2, .cells #[.int .i64 x18.1.s, .int .i64 x18.1.p] 28 (0, 0))])] | _ => [], Φ := fun i x => match i with | 2 => OwnC (α := Int) 3 (x.A 0) (x.C 0) x34.1.b (x.R 0) ∧ OwnC (α := F) 53 (x.A 1) (x.C 1) x34.1.f (x.R 1) | _ => True } g_mixed [0, 2, 3, 4, 6] [0, 1, 2, 4, 5, 6, 9] (by kernel_rfl) (by kernel_rfl) (by kernel_rfl) ⟨⟨⟨⟨⟨⟨trivial, fun _ => ⟨rfl, rfl⟩⟩, fun _ => ⟨rfl, rfl⟩⟩, fun _ => ⟨rfl, rfl⟩⟩, fun _ => ⟨rfl, rfl⟩⟩, fun _ => ⟨rfl, rfl⟩⟩, fun _ => ⟨rfl, rfl⟩⟩ ?_ ?_
      · refine ⟨⟨⟨⟨⟨⟨trivial, ?_⟩, ?_⟩, ?_⟩, ?_⟩, ?_⟩, ?_⟩
        · exact loc_det rfl rfl (fun _ => rfl) trivial (fun g hΦ s h hs hh => ⟨.none, (stp_move (sv hs 0 rfl))⟩)
        · exact loc_det rfl rfl (fun _ => rfl) trivial (fun g hΦ s h hs hh => ⟨.none, (stp_loadN (us := [_, _]) ts26 (sv hs 4 rfl) (Cells.box (id := 6) (hh.get 6 _ rfl) 2 rfl))⟩)
        · refine loc_eff rfl rfl (fun g hΦ s h hs hh => ⟨.none, (stpU_callM (fun i => bif Nat.beq i 0 then 0 else 15 + i) cf34 (fun w hw hb => c_s_l3Wrong fl w m0 a0_0 p0_0_0 ((a0_0).length) c0_0_0 y20.2 x3.1 p4 ((x3.1.b).length) c6 p8 ((x3.1.f).length) c10 rfl (RO.passM hr0_0_0 hw hb) rfl (OwnC.passM (id := 4) (hh.get 4 _ rfl) o7 hw hb ⟨rfl, trivial⟩) rfl (OwnC.passM (id := 5) (hh.get 5 _ rfl) o11 hw hb ⟨rfl, trivial⟩) (hw.pass (js := [0]) ⟨0, [], rfl, (hh.get 0 _ rfl), trivial⟩ (by decide)) x34 e34) (sevs_cons (sv hs 28 rfl) (sevs_cons (sv hs 29 rfl) sevs_nil)) ⟨(hh.get 0 _ rfl), (fun _ _ hp => by obtain ⟨_, _, _, _, _, _, _, _, _, rfl, _⟩ := hp; exact ⟨_, rfl⟩), trivial⟩)⟩) ?_
          rintro g _ _ ⟨_, ⟨p35, n36, c37, C38, p39, n40, c41, C42, rfl, rfl, hnn36, o38, hnn40, o42⟩, rfl⟩
          obtain rfl := hnn36
          obtain rfl := hnn40
          exact ⟨⟨[p35, p39], [c37, c41], [C38, C42]⟩, ⟨o38, o42⟩, .inr rfl, rfl⟩
        · exact loc_det rfl rfl (fun _ => rfl) trivial (fun g hΦ s h hs hh => ⟨.none, (stp_loadN (us := [_, _]) ts28 (sv hs 6 rfl) (Cells.box (id := 9) (hh.get 9 _ rfl) 2 rfl))⟩)
        · refine loc_eff rfl rfl (fun g hΦ s h hs hh => ⟨.none, (stpU_store (id := 1) (cs' := [.slice ((g 2).A 0) ((x34.1.b).length) ((g 2).C 0), .slice ((g 2).A 1) ((x34.1.f).length) ((g 2).C 1)]) ts26 (sv hs 2 rfl) (sv hs 30 rfl) (hh.get 1 _ rfl) rfl rfl rfl rfl)⟩) ?_
          rintro g _ _ rfl
          exact ⟨⟨[], [], []⟩, trivial, .inl rfl, rfl⟩
        · refine loc_eff rfl rfl (fun g hΦ s h hs hh => ⟨.none, (stpU_store (id := 2) (cs' := [.int .i64 x18.1.s, .int .i64 x18.1.p]) ts28 (sv hs 3 rfl) (sv hs 31 rfl) (hh.get 2 _ rfl) rfl rfl rfl rfl)⟩) ?_
          rintro g _ _ rfl
          exact ⟨⟨[], [], []⟩, trivial, .inl rfl, rfl⟩
      · intro g hΦ
        refine kw_gen (ι := Option Addr × Option Addr × Nat × Nat × Res × Res) (((g 2).A 0), ((g 2).A 1), ((g 2).C 0), ((g 2).C 1), ((g 2).R 0), ((g 2).R 1)) (fun | (p35, p39, c37, c41, C38, C42) => OwnC (α := Int) 3 p35 c37 x34.1.b C38 ∧ OwnC (α := F) 53 p39 c41 x34.1.f C42) (fun | (p35, p39, c37, c41, C38, C42) => [(2, .pointer (some ⟨b1, 0, none⟩)), (3, .pointer (some ⟨b2, 0, none⟩))]) (fun | (p35, p39, c37, c41, C38, C42) => [(0, [(m0, .cells #[.slice p0_0_0 ((a0_0).length) c0_0_0, .int .i64 x34.2] 97 (0, 0))]), (1, [(b1, .cells #[.slice p35 ((x34.1.b).length) c37, .slice p39 ((x34.1.f).length) c41] 26 (0, 0))]), (2, [(b2, .cells #[.int .i64 x18.1.s, .int .i64 x18.1.p] 28 (0, 0))]), (16, C38), (17, C42)]) ⟨(hΦ 2 (by decide)).1, (hΦ 2 (by decide)).2⟩ ⟨rfl, rfl, trivial⟩ ⟨rfl, rfl, rfl, rfl, rfl, trivial⟩ ?_
        rintro ⟨p35, p39, c37, c41, C38, C42⟩ ⟨o38, o42⟩
        refine KW.sub (s' := [(2, .pointer (some ⟨b1, 0, none⟩)), (3, .pointer (some ⟨b2, 0, none⟩))]) (h' := [(0, [(m0, .cells #[.slice p0_0_0 ((a0_0).length) c0_0_0, .int .i64 x34.2] 97 (0, 0))]), (1, [(b1, .cells #[.slice p35 ((x34.1.b).length) c37, .slice p39 ((x34.1.f).length) c41] 26 (0, 0))]), (2, [(b2, .cells #[.int .i64 x18.1.s, .int .i64 x18.1.p] 28 (0, 0))]), (16, C38), (17, C42)]) ?_ ⟨rfl, rfl, trivial⟩ ⟨rfl, rfl, rfl, rfl, rfl, trivial⟩
        refine kw_nx ?_
        refine cw_ret ?_
        have q0 := Option.some.inj H0
        subst q0
        exact kw_ret Tryd.results66 (.cons (.cellN (us := [_, _]) ts26 rfl (Cells.box (id := 1) rfl 2 rfl)) (.cons (.cellN (us := [_, _]) ts28 rfl (Cells.box (id := 2) rfl 2 rfl)) .nil)) [(0, [(m0, .cells #[.slice p0_0_0 ((a0_0).length) c0_0_0, .int .i64 x34.2] 97 (0, 0))]), (1, C38), (2, C42)] [0, 16, 17] ⟨0, [16, 17], rfl, rfl, 16, [17], rfl, rfl, 17, [], rfl, rfl, trivial⟩ (by decide) ⟨p35, ((x34.1.b).length), c37, C38, p39, ((x34.1.f).length), c41, C42, rfl, rfl, rfl, o38, rfl, o42⟩

set_option maxHeartbeats 4000000 in
set_option maxRecDepth 20000 in
theorem c_s_DrawProtectPage (fl : Nat) (w : World) (a0 : (List UInt8)) (p0_0 : Option Addr) (n0_0 c0_0 : Nat) (hn0_0 : n0_0 = (a0).length) (hr0_0 : RO w (hkeys []) (RdL p0_0 c0_0 a0)) (r : T × K × Int) (H0 : s_DrawProtectPage fl a0 = some r) :
    Ct Tryd.prog 27 [.slice p0_0 n0_0 c0_0] w [] (fun rv h' => ∃ (x0 : Option Addr) (y0 z0 : Nat) (C0 : Res) (x1 : Option Addr) (y1 z1 : Nat) (C1 : Res), rv = .tuple #[.agg #[.slice x0 y0 z0, .slice x1 y1 z1], .agg #[.int .i64 r.2.1.s, .int .i64 r.2.1.p], .int .i64 r.2.2] ∧ h' = [(0, C0), (1, C1)] ∧ y0 = (r.1.b).length ∧ OwnC 3 x0 z0 r.1.b C0 ∧ y1 = (r.1.f).length ∧ OwnC 53 x1 z1 r.1.f C1) := by
  obtain rfl := hn0_0
  unfold s_DrawProtectPage at H0
  refine ct_of_cw Tryd.func27 rfl Tryd.ntmps27 rfl (Sat.refl _ _) ?_
  refine cw_seq ?_
  refine cw_region ?_
  refine ow_eff .none (stpU_alloc 0 tz26 rfl) rfl ?_
  rintro _ _ ⟨b1, rfl, rfl⟩
  refine ow_eff .none (stpU_alloc 1 tz28 rfl) rfl ?_
  rintro _ _ ⟨b2, rfl, rfl⟩
  refine ow_det .none (stp_assign rfl) rfl ?_
  refine ow_nil ?_
  refine kw_nx ?_
  refine cw_seq ?_
  refine cw_region ?_
  refine ow_det .none (stp_move rfl) rfl ?_
  refine ow_eff .none (stpU_call (fun i => 2 + i) cf33 (fun w hw => c_open33 w a0 p0_0 ((a0).length) c0_0 rfl (RO.cap hr0_0).1) (sevs_cons rfl sevs_nil)) rfl ?_
  rintro _ _ ⟨_, ⟨b3, rfl, rfl⟩, rfl⟩
  refine ow_det .none (stp_assign rfl) rfl ?_
  refine ow_nil ?_
  refine kw_nx ?_
  refine cw_seq ?_
  refine cw_region ?_
  refine ow_det .none (stp_move rfl) rfl ?_
  obtain ⟨x4, e4, H0⟩ := bind_some H0
  refine ow_eff .none (stpU_callM (fun i => bif Nat.beq i 0 then 2 else 3 + i) cf66 (fun w hw hb => c_s_l3At fl w b3 (a0.take 2000) p0_0 (((a0.take 2000)).length) c0_0 0 rfl (RO.passM (RO.takeN 2000 hr0_0) hw hb) (hw.pass (js := [2]) ⟨2, [], rfl, rfl, trivial⟩ (by decide)) x4 e4) (sevs_cons rfl sevs_nil) ⟨rfl, (fun _ _ hp => by obtain ⟨_, _, _, _, _, _, _, _, _, rfl, _⟩ := hp; exact ⟨_, rfl⟩), trivial⟩) rfl ?_
  rintro _ _ ⟨_, ⟨p5, n6, c7, C8, p9, n10, c11, C12, rfl, rfl, hnn6, o8, hnn10, o12⟩, rfl⟩
  obtain rfl := hnn6
  obtain rfl := hnn10
  refine ow_det .none (stp_move rfl) rfl ?_
  refine ow_det .none (stp_extract rfl rfl) rfl ?_
  refine ow_det .none (stp_extract rfl rfl) rfl ?_
  refine ow_eff .none (stpU_alloc 6 tz26 rfl) rfl ?_
  rintro _ _ ⟨b13, rfl, rfl⟩
  refine ow_eff .none (stpU_alloc 7 tz28 rfl) rfl ?_
  rintro _ _ ⟨b14, rfl, rfl⟩
  refine ow_eff0 .none (stpU_store (id := 6) (cs' := [.slice p5 ((x4.1.b).length) c7, .slice p9 ((x4.1.f).length) c11]) ts26 rfl rfl rfl rfl rfl rfl rfl) ?_
  rintro _ _ rfl
  refine ow_eff0 .none (stpU_store (id := 7) (cs' := [.int .i64 x4.2.1.s, .int .i64 x4.2.1.p]) ts28 rfl rfl rfl rfl rfl rfl rfl) ?_
  rintro _ _ rfl
  refine ow_nil ?_
  refine kw_nx ?_
  refine cw_seq ?_
  obtain ⟨x17, e17, H0⟩ := bind_some H0
  refine region_drawn { dst := fun i => match i with | 0 => some 15 | 1 => some 16 | 2 => some 17 | 3 => some 18 | 4 => some 19 | 7 => some 4 | _ => none, pre := fun i => match i with | 4 => [2, 3] | 5 => [0, 2, 3, 4] | 6 => [0, 1, 2, 3, 4, 5] | 7 => [0, 1, 2, 3, 4, 5, 6] | _ => [], ids := fun i => match i with | 3 => [8] | 4 => [2] | 5 => [0] | 6 => [1] | _ => [], rs := fun i => match i with | 0 => [(6, none)] | 1 => [(7, none)] | 2 => [(5, none)] | 4 => [(17, some 2), (18, some 3)] | 5 => [(2, none), (15, some 0)] | 6 => [(3, none), (16, some 1)] | 7 => [(19, some 4)] | _ => [], rh := fun i => match i with | 0 => [(6, none)] | 1 => [(7, none)] | 4 => [(2, none), (8, some 3)] | 5 => [(0, none)] | 6 => [(1, none)] | _ => [], V := fun i g => match i with | 0 => .agg #[.slice p5 ((x4.1.b).length) c7, .slice p9 ((x4.1.f).length) c11] | 1 => .agg #[.int .i64 x4.2.1.s, .int .i64 x4.2.1.p] | 2 => .pointer (some ⟨b3, 0, none⟩) | 3 => .slice ((g 3).A 0) 5 5 | 4 => .int .i64 x17.1 | 7 => .int .i64 x17.1 | _ => undef, U := fun i g => match i with | 3 => [(8, ((g 3).R 0))] | 4 => [(2, [(b3, .cells #[.slice p0_0 (((a0.take 2000)).length) c0_0, .int .i64 x17.2] 97 (0, 0))])] | 5 => [(0, [(b1, .cells #[.slice p5 ((x4.1.b).length) c7, .slice p9 ((x4.1.f).length) c11] 26 (0, 0))])] | 6 => [(1, [(b2, .cells #[.int .i64 x4.2.1.s, .int .i64 x4.2.1.p] 28 (0, 0))])] | _ => [], Φ := fun i x => match i with | 3 => OwnC (α := Int) 3 (x.A 0) 5 ([1, 0, 7, 4, 8]) (x.R 0) | _ => True } g_mixed [2, 3, 5, 6, 7] [0, 1, 2, 6, 7] (by kernel_rfl) (by kernel_rfl) (by kernel_rfl) ⟨⟨⟨⟨⟨⟨⟨⟨trivial, fun _ => ⟨rfl, rfl⟩⟩, fun _ => ⟨rfl, rfl⟩⟩, fun _ => ⟨rfl, rfl⟩⟩, fun _ => ⟨rfl, rfl⟩⟩, fun _ => ⟨rfl, rfl⟩⟩, fun _ => ⟨rfl, rfl⟩⟩, fun _ => ⟨rfl, rfl⟩⟩, fun _ => ⟨rfl, rfl⟩⟩ ?_ ?_
  · refine ⟨⟨⟨⟨⟨⟨⟨⟨trivial, ?_⟩, ?_⟩, ?_⟩, ?_⟩, ?_⟩, ?_⟩, ?_⟩, ?_⟩
    · exact loc_det rfl rfl (fun _ => rfl) trivial (fun g hΦ s h hs hh => ⟨.none, (stp_loadN (us := [_, _]) ts26 (sv hs 6 rfl) (Cells.box (id := 6) (hh.get 6 _ rfl) 2 rfl))⟩)
    · exact loc_det rfl rfl (fun _ => rfl) trivial (fun g hΦ s h hs hh => ⟨.none, (stp_loadN (us := [_, _]) ts28 (sv hs 7 rfl) (Cells.box (id := 7) (hh.get 7 _ rfl) 2 rfl))⟩)
    · exact loc_det rfl rfl (fun _ => rfl) trivial (fun g hΦ s h hs hh => ⟨.none, (stp_move (sv hs 5 rfl))⟩)
    · refine loc_eff rfl rfl (fun g hΦ s h hs hh => ⟨.none, (stpU_lit (sz := 1) (l := [1, 0, 7, 4, 8]) [.int .i64 1, .int .i64 0, .int .i64 7, .int .i64 4, .int .i64 8] sl23 8 (sevp_cons rfl (sevp_cons rfl (sevp_cons rfl (sevp_cons rfl (sevp_cons rfl sevp_nil))))) rfl rfl rfl rfl rfl rfl rfl rfl rfl)⟩) ?_
      rintro g _ _ ⟨p15, C16, rfl, rfl, o16⟩
      exact ⟨⟨[p15], [], [C16]⟩, o16, .inr rfl, rfl⟩
    · refine loc_eff rfl rfl (fun g hΦ s h hs hh => ⟨.none, (stpU_callM (fun i => bif Nat.beq i 0 then 2 else 9 + i) cf37 (fun w hw hb => c_s_l12Rd_num fl w b3 (a0.take 2000) p0_0 (((a0.take 2000)).length) c0_0 x4.2.2 ([1, 0, 7, 4, 8]) ((g 3).A 0) 5 5 rfl (RO.passM (RO.takeN 2000 hr0_0) hw hb) (by simp) (OwnC.passM (id := 8) (hh.get 8 _ rfl) (hΦ 3 rfl) hw hb ⟨rfl, trivial⟩) (hw.pass (js := [2]) ⟨2, [], rfl, (hh.get 2 _ rfl), trivial⟩ (by decide)) x17 e17) (sevs_cons (sv hs 17 rfl) (sevs_cons (sv hs 18 rfl) sevs_nil)) ⟨(hh.get 2 _ rfl), (fun _ _ hp => by obtain ⟨_, rfl⟩ := hp; exact ⟨_, rfl⟩), trivial⟩)⟩) ?_
      rintro g _ _ ⟨_, ⟨rfl, rfl⟩, rfl⟩
      exact ⟨⟨[], [], []⟩, trivial, .inr rfl, rfl⟩
    · refine loc_eff rfl rfl (fun g hΦ s h hs hh => ⟨.none, (stpU_store (id := 0) (cs' := [.slice p5 ((x4.1.b).length) c7, .slice p9 ((x4.1.f).length) c11]) ts26 (sv hs 2 rfl) (sv hs 15 rfl) (hh.get 0 _ rfl) rfl rfl rfl rfl)⟩) ?_
      rintro g _ _ rfl
      exact ⟨⟨[], [], []⟩, trivial, .inl rfl, rfl⟩
    · refine loc_eff rfl rfl (fun g hΦ s h hs hh => ⟨.none, (stpU_store (id := 1) (cs' := [.int .i64 x4.2.1.s, .int .i64 x4.2.1.p]) ts28 (sv hs 3 rfl) (sv hs 16 rfl) (hh.get 1 _ rfl) rfl rfl rfl rfl)⟩) ?_
      rintro g _ _ rfl
      exact ⟨⟨[], [], []⟩, trivial, .inl rfl, rfl⟩
    · exact loc_det rfl rfl (fun _ => rfl) trivial (fun g hΦ s h hs hh => ⟨.none, (stp_assign (sv hs 19 rfl))⟩)
  · intro g hΦ
    refine kw_gen (ι := Option Addr × Res) (((g 3).A 0), ((g 3).R 0)) (fun | (p15, C16) => OwnC (α := Int) 3 p15 5 ([1, 0, 7, 4, 8]) C16) (fun | (p15, C16) => [(2, .pointer (some ⟨b1, 0, none⟩)), (3, .pointer (some ⟨b2, 0, none⟩)), (4, .int .i64 x17.1)]) (fun | (p15, C16) => [(0, [(b1, .cells #[.slice p5 ((x4.1.b).length) c7, .slice p9 ((x4.1.f).length) c11] 26 (0, 0))]), (1, [(b2, .cells #[.int .i64 x4.2.1.s, .int .i64 x4.2.1.p] 28 (0, 0))]), (4, C8), (5, C12)]) (hΦ 3 (by decide)) ⟨rfl, rfl, rfl, trivial⟩ ⟨rfl, rfl, rfl, rfl, trivial⟩ ?_
    rintro ⟨p15, C16⟩ o16
    have o16 : OwnC (α := Int) 3 p15 5 ([1, 0, 7, 4, 8]) C16 := o16
    refine KW.sub (s' := [(2, .pointer (some ⟨b1, 0, none⟩)), (3, .pointer (some ⟨b2, 0, none⟩)), (4, .int .i64 x17.1)]) (h' := [(0, [(b1, .cells #[.slice p5 ((x4.1.b).length) c7, .slice p9 ((x4.1.f).length) c11] 26 (0, 0))]), (1, [(b2, .cells #[.int .i64 x4.2.1.s, .int .i64 x4.2.1.p] 28 (0, 0))]), (4, C8), (5, C12)]) ?_ ⟨rfl, rfl, rfl, trivial⟩ ⟨rfl, rfl, rfl, rfl, trivial⟩
    refine kw_nx ?_
    refine cw_ret ?_
    have q0 := Option.some.inj H0
    subst q0
    exact kw_ret Tryd.results27 (.cons (.cellN (us := [_, _]) ts26 rfl (Cells.box (id := 0) rfl 2 rfl)) (.cons (.cellN (us := [_, _]) ts28 rfl (Cells.box (id := 1) rfl 2 rfl)) (.cons (.tmp rfl) .nil))) [(0, C8), (1, C12)] [4, 5] ⟨4, [5], rfl, rfl, 5, [], rfl, rfl, trivial⟩ (by decide) ⟨p5, ((x4.1.b).length), c7, C8, p9, ((x4.1.f).length), c11, C12, rfl, rfl, rfl, o8, rfl, o12⟩

set_option maxHeartbeats 4000000 in
set_option maxRecDepth 20000 in
theorem c_l_FnProtectPage (fl : Nat) (w : World) (a0 : (List UInt8)) (p0_0 : Option Addr) (n0_0 c0_0 : Nat) (hn0_0 : n0_0 = (a0).length) (hr0_0 : RO w (hkeys []) (RdL p0_0 c0_0 a0)) (hg : RO w (hkeys []) (fun w' => w'.rangeAt 0 0 [.bool false, .int .i64 0, .int .i64 0, .int .i64 0, .int .i64 (-1)])) (r : Bool) (H0 : l_FnProtectPage fl a0 = some r) :
    Ct Tryd.prog 6 [.slice p0_0 n0_0 c0_0] w [] (fun rv h' => rv = .bool r ∧ h' = []) := by
  obtain rfl := hn0_0
  unfold l_FnProtectPage at H0
  refine ct_of_cw Tryd.func6 rfl Tryd.ntmps6 rfl (Sat.refl _ _) ?_
  refine cw_seq ?_
  refine cw_region ?_
  refine ow_det .none (stp_assign rfl) rfl ?_
  refine ow_nil ?_
  refine kw_nx ?_
  refine cw_seq ?_
  refine cw_seq ?_
  refine cw_region ?_
  refine ow_det .none (stp_move rfl) rfl ?_
  refine ow_det .none (stp_len Tryd.underlying22 rfl) rfl ?_
  refine ow_det .none (stp_gtr rfl rfl) rfl ?_
  refine ow_nil ?_
  refine kw_nx ?_
  refine cw_cond rfl (fun h1 => ?_) (fun h1 => ?_)
  · have H0 := cond_t H0 h1
    refine cw_seq ?_
    refine cw_region ?_
    refine ow_det .none (stp_assign rfl) rfl ?_
    refine ow_nil ?_
    refine kw_nx ?_
    refine cw_ret ?_
    refine kw_nx_ret ?_
    have q0 := Option.some.inj H0
    subst q0
    exact kw_ret Tryd.results6 (.cons (.tmp rfl) .nil) [] [] trivial (by decide) ⟨rfl, rfl⟩
  · have H0 := cond_f H0 h1
    refine cw_skip ?_
    refine kw_nx ?_
    refine cw_seq ?_
    refine cw_region ?_
    refine ow_det .none (stp_move rfl) rfl ?_
    obtain ⟨x2, e2, H0⟩ := bind_some H0
    refine ow_eff .none (stpU_call (fun i => 0 + i) cf27 (fun w hw => c_s_DrawProtectPage fl w a0 p0_0 ((a0).length) c0_0 rfl (RO.pass hr0_0 hw) x2 e2) (sevs_cons rfl sevs_nil)) rfl ?_
    rintro _ _ ⟨_, ⟨p3, n4, c5, C6, p7, n8, c9, C10, rfl, rfl, hnn4, o6, hnn8, o10⟩, rfl⟩
    obtain rfl := hnn4
    obtain rfl := hnn8
    refine ow_det .none (stp_move rfl) rfl ?_
    refine ow_det .none (stp_extract rfl rfl) rfl ?_
    refine ow_det .none (stp_extract rfl rfl) rfl ?_
    refine ow_det .none (stp_extract rfl rfl) rfl ?_
    refine ow_eff .none (stpU_alloc 2 tz26 rfl) rfl ?_
    rintro _ _ ⟨b11, rfl, rfl⟩
    refine ow_eff .none (stpU_alloc 3 tz28 rfl) rfl ?_
    rintro _ _ ⟨b12, rfl, rfl⟩
    refine ow_eff0 .none (stpU_store (id := 2) (cs' := [.slice p3 ((x2.1.b).length) c5, .slice p7 ((x2.1.f).length) c9]) ts26 rfl rfl rfl rfl rfl rfl rfl) ?_
    rintro _ _ rfl
    refine ow_eff0 .none (stpU_store (id := 3) (cs' := [.int .i64 x2.2.1.s, .int .i64 x2.2.1.p]) ts28 rfl rfl rfl rfl rfl rfl rfl) ?_
    rintro _ _ rfl
    refine ow_det .none (stp_assign rfl) rfl ?_
    refine ow_nil ?_
    refine kw_nx ?_
    refine cw_seq ?_
    refine cw_region ?_
    refine ow_det .none (stp_loadN (us := [_, _]) ts26 rfl (Cells.box (id := 2) rfl 2 rfl)) rfl ?_
    refine ow_det .none (stp_loadN (us := [_, _]) ts28 rfl (Cells.box (id := 3) rfl 2 rfl)) rfl ?_
    refine ow_det .none (stp_move rfl) rfl ?_
    obtain ⟨x13, e13, H0⟩ := bind_some H0
    refine ow_eff .none (stpU_call (fun i => 4 + i) cf23 (fun w hw => c_i_ProtectPage fl w x2.1 p3 ((x2.1.b).length) c5 p7 ((x2.1.f).length) c9 x2.2.1 x2.2.2 rfl (OwnC.pass (id := 0) rfl o6 hw) rfl (OwnC.pass (id := 1) rfl o10 hw) (RO.pass hg hw) x13 e13) (sevs_cons rfl (sevs_cons rfl (sevs_cons rfl sevs_nil)))) rfl ?_
    rintro _ _ ⟨_, ⟨p14, n15, c16, C17, p18, n19, c20, C21, rfl, rfl, hnn15, o17, hnn19, o21⟩, rfl⟩
    obtain rfl := hnn15
    obtain rfl := hnn19
    refine ow_det .none (stp_move rfl) rfl ?_
    refine ow_det .none (stp_extract rfl rfl) rfl ?_
    refine ow_det .none (stp_extract rfl rfl) rfl ?_
    refine ow_eff .none (stpU_alloc 6 tz26 rfl) rfl ?_
    rintro _ _ ⟨b22, rfl, rfl⟩
    refine ow_eff0 .none (stpU_store (id := 6) (cs' := [.slice p14 ((x13.1.b).length) c16, .slice p18 ((x13.1.f).length) c20]) ts26 rfl rfl rfl rfl rfl rfl rfl) ?_
    rintro _ _ rfl
    refine ow_det .none (stp_assign rfl) rfl ?_
    refine ow_nil ?_
    refine kw_nx ?_
    refine cw_seq ?_
    refine cw_region ?_
    refine ow_det .none (stp_loadN (us := [_, _]) ts26 rfl (Cells.box (id := 2) rfl 2 rfl)) rfl ?_
    refine ow_det .none (stp_loadN (us := [_, _]) ts28 rfl (Cells.box (id := 3) rfl 2 rfl)) rfl ?_
    refine ow_det .none (stp_move rfl) rfl ?_
    obtain ⟨x23, e23, H0⟩ := bind_some H0
    refine ow_eff .none (stpU_call (fun i => 7 + i) cf20 (fun w hw => c_s_ProtectPage fl w x2.1 p3 ((x2.1.b).length) c5 p7 ((x2.1.f).length) c9 x2.2.1 x2.2.2 rfl (OwnC.pass (id := 0) rfl o6 hw) rfl (OwnC.pass (id := 1) rfl o10 hw) x23 e23) (sevs_cons rfl (sevs_cons rfl (sevs_cons rfl sevs_nil)))) rfl ?_
    rintro _ _ ⟨_, ⟨p24, n25, c26, C27, p28, n29, c30, C31, rfl, rfl, hnn25, o27, hnn29, o31⟩, rfl⟩
    obtain rfl := hnn25
    obtain rfl := hnn29
    refine ow_det .none (stp_move rfl) rfl ?_
    refine ow_det .none (stp_extract rfl rfl) rfl ?_
    refine ow_det .none (stp_extract rfl rfl) rfl ?_
    refine ow_eff .none (stpU_alloc 9 tz26 rfl) rfl ?_
    rintro _ _ ⟨b32, rfl, rfl⟩
    refine ow_eff0 .none (stpU_store (id := 9) (cs' := [.slice p24 ((x23.1.b).length) c26, .slice p28 ((x23.1.f).length) c30]) ts26 rfl rfl rfl rfl rfl rfl rfl) ?_
    rintro _ _ rfl
    refine ow_det .none (stp_assign rfl) rfl ?_
    refine ow_nil ?_
    refine kw_nx ?_
    refine cw_seq ?_
    refine cw_seq ?_
    refine cw_region ?_
    refine ow_det .none (stp_loadN (us := [_, _]) ts26 rfl (Cells.box (id := 6) rfl 2 rfl)) rfl ?_
    refine ow_det .none (stp_loadN (us := [_, _]) ts26 rfl (Cells.box (id := 9) rfl 2 rfl)) rfl ?_
    obtain ⟨x33, e33, H0⟩ := bind_some H0
    refine ow_eff .none (stpU_call (fun i => 10 + i) cf15 (fun w hw => c_i_TableSame fl w x13.1 p14 ((x13.1.b).length) c16 p18 ((x13.1.f).length) c20 x23.1 p24 ((x23.1.b).length) c26 p28 ((x23.1.f).length) c30 rfl (OwnC.pass (id := 4) rfl o17 hw) rfl (OwnC.pass (id := 5) rfl o21 hw) rfl (OwnC.pass (id := 7) rfl o27 hw) rfl (OwnC.pass (id := 8) rfl o31 hw) x33 e33) (sevs_cons rfl (sevs_cons rfl sevs_nil))) rfl ?_
    rintro _ _ ⟨_, ⟨rfl, rfl⟩, rfl⟩
    refine ow_det .none (stp_not rfl) rfl ?_
    refine ow_det .none (stp_move rfl) rfl ?_
    obtain ⟨y34, ey34, H0⟩ := bind_some H0
    refine ow_cutY 4 46 y34 ?_ ?_
    · rcases Bool.eq_false_or_eq_true (!x33) with hy34 | hy34
      · have ey34 := cond_t ey34 hy34
        refine ow_off (.some rfl hy34) rfl ?_
        refine ow_off (.some rfl hy34) rfl ?_
        refine ow_off (.some rfl hy34) rfl ?_
        refine ow_det .none (stp_pick_t rfl hy34 rfl) rfl ?_
        obtain rfl := Option.some.inj ey34
        exact ow_nil (kw_jy (.top rfl (.cons rfl (.cons rfl (.cons rfl (.cons rfl (.refl _)))))) (.refl _))
      · have ey34 := cond_f ey34 hy34
        refine ow_det (.some rfl hy34) (stp_move rfl) rfl ?_
        refine ow_det (.some rfl hy34) (stp_move rfl) rfl ?_
        refine ow_det (.some rfl hy34) (stp_neqB Tryd.underlying4 rfl rfl) rfl ?_
        refine ow_det .none (stp_pick_f rfl hy34 rfl) rfl ?_
        obtain rfl := Option.some.inj ey34
        exact ow_nil (kw_jy (.top rfl (.cons rfl (.cons rfl (.cons rfl (.cons rfl (.refl _)))))) (.refl _))
    · refine ow_det .none (stp_move rfl) rfl ?_
      obtain ⟨y35, ey35, H0⟩ := bind_some H0
      refine ow_cutY 3 50 y35 ?_ ?_
      · rcases Bool.eq_false_or_eq_true y34 with hy35 | hy35
        · have ey35 := cond_t ey35 hy35
          refine ow_off (.some rfl hy35) rfl ?_
          refine ow_off (.some rfl hy35) rfl ?_
          refine ow_det .none (stp_pick_t rfl hy35 rfl) rfl ?_
          obtain rfl := Option.some.inj ey35
          exact ow_nil (kw_jy (.top rfl (.cons rfl (.cons rfl (.cons rfl (.refl _))))) (.refl _))
        · have ey35 := cond_f ey35 hy35
          refine ow_det (.some rfl hy35) (stp_move rfl) rfl ?_
          refine ow_det (.some rfl hy35) (stp_not rfl) rfl ?_
          refine ow_det .none (stp_pick_f rfl hy35 rfl) rfl ?_
          obtain rfl := Option.some.inj ey35
          exact ow_nil (kw_jy (.top rfl (.cons rfl (.cons rfl (.cons rfl (.refl _))))) (.refl _))
      · refine ow_nil ?_
        refine kw_nx ?_
        refine cw_cond rfl (fun h36 => ?_) (fun h36 => ?_)
        · have H0 := cond_t H0 h36
          refine cw_seq ?_
          refine cw_region ?_
          refine ow_det .none (stp_loadN (us := [_, _]) ts26 rfl (Cells.box (id := 6) rfl 2 rfl)) rfl ?_
          refine ow_det .none (stp_loadN (us := [_, _]) ts26 rfl (Cells.box (id := 9) rfl 2 rfl)) rfl ?_
          refine ow_eff .none (stpU_call (fun i => 10 + i) cf15 (fun w hw => c_i_TableSame fl w x13.1 p14 ((x13.1.b).length) c16 p18 ((x13.1.f).length) c20 x23.1 p24 ((x23.1.b).length) c26 p28 ((x23.1.f).length) c30 rfl (OwnC.pass (id := 4) rfl o17 hw) rfl (OwnC.pass (id := 5) rfl o21 hw) rfl (OwnC.pass (id := 7) rfl o27 hw) rfl (OwnC.pass (id := 8) rfl o31 hw) x33 e33) (sevs_cons rfl (sevs_cons rfl sevs_nil))) rfl ?_
          rintro _ _ ⟨_, ⟨rfl, rfl⟩, rfl⟩
          refine ow_det .none (stp_move rfl) rfl ?_
          obtain ⟨y37, ey37, H0⟩ := bind_some H0
          refine ow_cutY 4 58 y37 ?_ ?_
          · rcases Bool.eq_false_or_eq_true x33 with hy37 | hy37
            · have ey37 := cond_t ey37 hy37
              refine ow_det (.some rfl hy37) (stp_move rfl) rfl ?_
              refine ow_det (.some rfl hy37) (stp_move rfl) rfl ?_
              refine ow_det (.some rfl hy37) (stp_eqlB Tryd.underlying4 rfl rfl) rfl ?_
              refine ow_det .none (stp_pick_t rfl hy37 rfl) rfl ?_
              obtain rfl := Option.some.inj ey37
              exact ow_nil (kw_jy (.top rfl (.cons rfl (.cons rfl (.cons rfl (.cons rfl (.refl _)))))) (.refl _))
            · have ey37 := cond_f ey37 hy37
              refine ow_off (.some rfl hy37) rfl ?_
              refine ow_off (.some rfl hy37) rfl ?_
              refine ow_off (.some rfl hy37) rfl ?_
              refine ow_det .none (stp_pick_f rfl hy37 rfl) rfl ?_
              obtain rfl := Option.some.inj ey37
              exact ow_nil (kw_jy (.top rfl (.cons rfl (.cons rfl (.cons rfl (.cons rfl (.refl _)))))) (.refl _))
          · refine ow_det .none (stp_assign rfl) rfl ?_
            refine ow_nil ?_
            refine kw_nx ?_
            refine cw_ret ?_
            refine kw_nx_ret ?_
            have q0 := Option.some.inj H0
            subst q0
            exact kw_ret Tryd.results6 (.cons (.tmp rfl) .nil) [] [] trivial (by decide) ⟨rfl, rfl⟩
        · have H0 := cond_f H0 h36
          refine cw_skip ?_
          refine kw_nx ?_
          refine cw_seq ?_
          refine cw_region ?_
          refine ow_det .none (stp_loadN (us := [_, _]) ts26 rfl (Cells.box (id := 6) rfl 2 rfl)) rfl ?_
          refine ow_det .none (stp_loadN (us := [_, _]) ts28 rfl (Cells.box (id := 3) rfl 2 rfl)) rfl ?_
          obtain ⟨x38, e38, H0⟩ := bind_some H0
          refine ow_eff .none (stpU_call (fun i => 10 + i) cf16 (fun w hw => c_i_FindPage fl w x13.1 p14 ((x13.1.b).length) c16 p18 ((x13.1.f).length) c20 x2.2.1 rfl (OwnC.pass (id := 4) rfl o17 hw) rfl (OwnC.pass (id := 5) rfl o21 hw) (RO.pass hg hw) x38 e38) (sevs_cons rfl (sevs_cons rfl sevs_nil))) rfl ?_
          rintro _ _ ⟨_, ⟨rfl, rfl⟩, rfl⟩
          refine ow_det .none (stp_move rfl) rfl ?_
          refine ow_det .none (stp_extract rfl rfl) rfl ?_
          refine ow_det .none (stp_extract rfl rfl) rfl ?_
          refine ow_det .none (stp_extract rfl rfl) rfl ?_
          refine ow_det .none (stp_assign rfl) rfl ?_
          refine ow_det .none (stp_assign rfl) rfl ?_
          refine ow_det .none (stp_assign rfl) rfl ?_
          refine ow_nil ?_
          refine kw_nx ?_
          refine cw_seq ?_
          obtain ⟨x39, e39, H0⟩ := bind_some H0
          obtain ⟨x40, e40, H0⟩ := bind_some H0
          refine region_drawn { dst := fun i => match i with | 0 => some 67 | 1 => some 68 | 2 => some 69 | 3 => some 70 | 4 => some 71 | 5 => some 72 | 6 => some 73 | 7 => some 74 | 8 => some 75 | 9 => some 66 | 10 => some 76 | 11 => some 77 | 12 => some 13 | 14 => some 14 | _ => none, pre := fun i => match i with | 3 => [2] | 5 => [2, 3, 4] | 6 => [2, 3, 4, 5] | 7 => [2, 3, 4, 5, 6] | 8 => [0, 1, 2, 3, 4, 5, 6, 7] | 9 => [0, 1, 2, 3, 4, 5, 6, 7, 8] | 10 => [0, 1, 2, 3, 4, 5, 6, 7, 8, 9] | 11 => [0, 1, 2, 3, 4, 5, 6, 7, 8, 9] | 13 => [0, 1, 2, 3, 4, 5, 6, 7, 8, 9, 10, 12] | 14 => [0, 1, 2, 3, 4, 5, 6, 7, 8, 9, 10, 11, 12, 13] | _ => [], ids := fun i => match i with | 8 => [10, 11] | 12 => [12] | 13 => [12] | _ => [], rs := fun i => match i with | 0 => [(6, none)] | 1 => [(4, none)] | 2 => [(3, none)] | 3 => [(69, some 2)] | 4 => [(10, none)] | 5 => [(70, some 3), (71, some 4)] | 6 => [(72, some 5)] | 7 => [(73, some 6)] | 8 => [(67, some 0), (68, some 1), (74, some 7)] | 9 => [(75, some 8)] | 10 => [(66, some 9)] | 11 => [(66, some 9)] | 13 => [(13, some 12), (76, some 10)] | 14 => [(77, some 11)] | _ => [], rh := fun i => match i with | 0 => [(6, none)] | 1 => [(3, none)] | 3 => [(2, none)] | 5 => [(1, none)] | 7 => [(1, none)] | 8 => [(4, none), (5, none)] | 13 => [(12, some 12)] | _ => [], V := fun i g => match i with | 0 => .agg #[.slice p14 ((x13.1.b).length) c16, .slice p18 ((x13.1.f).length) c20] | 1 => .agg #[.int .i64 x2.2.1.s, .int .i64 x2.2.1.p] | 2 => .pointer (some ⟨b11, 1, none⟩) | 3 => .slice p7 ((x2.1.f).length) c9 | 4 => .int .i64 x38.1 | 5 => .pointer (some ⟨eB p7, eO p7 + Int.toNat x38.1 * Enc.sz F + 0, none⟩) | 6 => .pointer (some ⟨eB p7, eO p7 + Int.toNat x38.1 * Enc.sz F + 3, none⟩) | 7 => .int .i64 x39.r | 8 => .tuple #[.agg #[.slice ((g 8).A 0) ((x40.1.b).length) ((g 8).C 0), .slice ((g 8).A 1) ((x40.1.f).length) ((g 8).C 1)], .bool x40.2] | 9 => .tuple #[.agg #[.slice ((g 8).A 0) ((x40.1.b).length) ((g 8).C 0), .slice ((g 8).A 1) ((x40.1.f).length) ((g 8).C 1)], .bool x40.2] | 10 => .agg #[.slice ((g 8).A 0) ((x40.1.b).length) ((g 8).C 0), .slice ((g 8).A 1) ((x40.1.f).length) ((g 8).C 1)] | 11 => .bool x40.2 | 12 => .pointer (some ⟨((g 12).C 0), 0, none⟩) | 14 => .bool x40.2 | _ => undef, U := fun i g => match i with | 8 => [(10, ((g 8).R 0)), (11, ((g 8).R 1))] | 12 => [(12, [(((g 12).C 0), .cells #[.slice none 0 0, .slice none 0 0] 26 (0, 0))])] | 13 => [(12, [(((g 12).C 0), .cells #[.slice ((g 8).A 0) ((x40.1.b).length) ((g 8).C 0), .slice ((g 8).A 1) ((x40.1.f).length) ((g 8).C 1)] 26 (0, 0))])] | _ => [], Φ := fun i x => match i with | 8 => OwnC (α := Int) 3 (x.A 0) (x.C 0) x40.1.b (x.R 0) ∧ OwnC (α := F) 53 (x.A 1) (x.C 1) x40.1.f (x.R 1) | _ => True } g_mixed [3, 4, 6, 10] [1, 2, 3, 4, 5, 6] (by kernel_rfl) (by kernel_rfl) (by kernel_rfl) ⟨⟨⟨⟨⟨⟨⟨⟨⟨⟨⟨⟨⟨⟨⟨trivial, fun _ => ⟨rfl, rfl⟩⟩, fun _ => ⟨rfl, rfl⟩⟩, fun _ => ⟨rfl, rfl⟩⟩, fun _ => ⟨rfl, rfl⟩⟩, fun _ => ⟨rfl, rfl⟩⟩, fun _ => ⟨rfl, rfl⟩⟩, fun _ => ⟨rfl, rfl⟩⟩, fun _ => ⟨rfl, rfl⟩⟩, fun _ => ⟨rfl, rfl⟩⟩, fun _ => ⟨rfl, rfl⟩⟩, fun _ => ⟨rfl, rfl⟩⟩, fun _ => ⟨rfl, rfl⟩⟩, fun _ => ⟨rfl, rfl⟩⟩, fun _ => ⟨rfl, rfl⟩⟩, fun _ => ⟨rfl, rfl⟩⟩ ?_ ?_
          · refine ⟨⟨⟨⟨⟨⟨⟨⟨⟨⟨⟨⟨⟨⟨⟨trivial, ?_⟩, ?_⟩, ?_⟩, ?_⟩, ?_⟩, ?_⟩, ?_⟩, ?_⟩, ?_⟩, ?_⟩, ?_⟩, ?_⟩, ?_⟩, ?_⟩, ?_⟩
            · exact loc_det rfl rfl (fun _ => rfl) trivial (fun g hΦ s h hs hh => ⟨.none, (stp_loadN (us := [_, _]) ts26 (sv hs 6 rfl) (Cells.box (id := 6) (hh.get 6 _ rfl) 2 rfl))⟩)
            · exact loc_det rfl rfl (fun _ => rfl) trivial (fun g hΦ s h hs hh => ⟨.none, (stp_loadN (us := [_, _]) ts28 (sv hs 4 rfl) (Cells.box (id := 3) (hh.get 3 _ rfl) 2 rfl))⟩)
            · exact loc_det rfl rfl (fun _ => rfl) trivial (fun g hΦ s h hs hh => ⟨.none, (stp_fieldAddr (j := 1) Tryd.underlying26 rfl ts24 rfl (sv hs 3 rfl) rfl)⟩)
            · exact loc_det rfl rfl (fun _ => rfl) trivial (fun g hΦ s h hs hh => ⟨.none, (stp_load1 ts24 (sv hs 69 rfl) (Cells.box (id := 2) (hh.get 2 _ rfl) 1 rfl))⟩)
            · exact loc_det rfl rfl (fun _ => rfl) trivial (fun g hΦ s h hs hh => ⟨.none, (stp_move (sv hs 10 rfl))⟩)
            · exact loc_det rfl rfl (fun _ => rfl) trivial (fun g hΦ s h hs hh => ⟨.none, (stp_indexAddr Tryd.underlying24 ts53 (by decide) (sv hs 70 rfl) rfl (sv hs 71 rfl) (Rdb.own (id := 1) (hh.get 1 _ rfl) o10) e39)⟩)
            · exact loc_det rfl rfl (fun _ => rfl) trivial (fun g hΦ s h hs hh => ⟨.none, (stp_fieldAddr (j := 3) Tryd.underlying53 rfl ts3 rfl (sv hs 72 rfl) rfl)⟩)
            · exact loc_det rfl rfl (fun _ => rfl) trivial (fun g hΦ s h hs hh => ⟨.none, (stp_load1 ts3 (sv hs 73 rfl) (Cells.el (Rdb.own (id := 1) (hh.get 1 _ rfl) o10) (by decide) e39 3 1 rfl))⟩)
            · refine loc_eff rfl rfl (fun g hΦ s h hs hh => ⟨.none, (stpU_call (fun i => 10 + i) cf23 (fun w hw => c_i_ProtectPage fl w x13.1 p14 ((x13.1.b).length) c16 p18 ((x13.1.f).length) c20 x2.2.1 x39.r rfl (OwnC.pass (id := 4) (hh.get 4 _ rfl) o17 hw) rfl (OwnC.pass (id := 5) (hh.get 5 _ rfl) o21 hw) (RO.pass hg hw) x40 e40) (sevs_cons (sv hs 67 rfl) (sevs_cons (sv hs 68 rfl) (sevs_cons (sv hs 74 rfl) sevs_nil))))⟩) ?_
              rintro g _ _ ⟨_, ⟨p41, n42, c43, C44, p45, n46, c47, C48, rfl, rfl, hnn42, o44, hnn46, o48⟩, rfl⟩
              obtain rfl := hnn42
              obtain rfl := hnn46
              exact ⟨⟨[p41, p45], [c43, c47], [C44, C48]⟩, ⟨o44, o48⟩, .inr rfl, rfl⟩
            · exact loc_det rfl rfl (fun _ => rfl) trivial (fun g hΦ s h hs hh => ⟨.none, (stp_move (sv hs 75 rfl))⟩)
            · exact loc_det rfl rfl (fun _ => rfl) trivial (fun g hΦ s h hs hh => ⟨.none, (stp_extract (sv hs 66 rfl) rfl)⟩)
            · exact loc_det rfl rfl (fun _ => rfl) trivial (fun g hΦ s h hs hh => ⟨.none, (stp_extract (sv hs 66 rfl) rfl)⟩)
            · refine loc_eff rfl rfl (fun g hΦ s h hs hh => ⟨.none, (stpU_alloc 12 tz26 rfl)⟩) ?_
              rintro g _ _ ⟨b49, rfl, rfl⟩
              exact ⟨⟨[], [b49], []⟩, trivial, .inr rfl, rfl⟩
            · refine loc_eff rfl rfl (fun g hΦ s h hs hh => ⟨.none, (stpU_store (id := 12) (cs' := [.slice ((g 8).A 0) ((x40.1.b).length) ((g 8).C 0), .slice ((g 8).A 1) ((x40.1.f).length) ((g 8).C 1)]) ts26 (sv hs 13 rfl) (sv hs 76 rfl) (hh.get 12 _ rfl) rfl rfl rfl rfl)⟩) ?_
              rintro g _ _ rfl
              exact ⟨⟨[], [], []⟩, trivial, .inl rfl, rfl⟩
            · exact loc_det rfl rfl (fun _ => rfl) trivial (fun g hΦ s h hs hh => ⟨.none, (stp_assign (sv hs 77 rfl))⟩)
          · intro g hΦ
            refine kw_gen (ι := Option Addr × Option Addr × Nat × Nat × Res × Res × Nat) (((g 8).A 0), ((g 8).A 1), ((g 8).C 0), ((g 8).C 1), ((g 8).R 0), ((g 8).R 1), ((g 12).C 0)) (fun | (p41, p45, c43, c47, C44, C48, b49) => OwnC (α := Int) 3 p41 c43 x40.1.b C44 ∧ OwnC (α := F) 53 p45 c47 x40.1.f C48) (fun | (p41, p45, c43, c47, C44, C48, b49) => [(3, .pointer (some ⟨b11, 0, none⟩)), (5, .int .i64 x2.2.2), (6, .pointer (some ⟨b22, 0, none⟩)), (10, .int .i64 x38.1), (12, .bool x38.2.2), (13, .pointer (some ⟨b49, 0, none⟩)), (14, .bool x40.2)]) (fun | (p41, p45, c43, c47, C44, C48, b49) => [(0, C6), (1, C10), (2, [(b11, .cells #[.slice p3 ((x2.1.b).length) c5, .slice p7 ((x2.1.f).length) c9] 26 (0, 0))]), (4, C17), (5, C21), (6, [(b22, .cells #[.slice p14 ((x13.1.b).length) c16, .slice p18 ((x13.1.f).length) c20] 26 (0, 0))]), (10, C44), (11, C48), (12, [(b49, .cells #[.slice p41 ((x40.1.b).length) c43, .slice p45 ((x40.1.f).length) c47] 26 (0, 0))])]) ⟨(hΦ 8 (by decide)).1, (hΦ 8 (by decide)).2⟩ ⟨rfl, rfl, rfl, rfl, rfl, rfl, rfl, trivial⟩ ⟨rfl, rfl, rfl, rfl, rfl, rfl, rfl, rfl, rfl, trivial⟩ ?_
            rintro ⟨p41, p45, c43, c47, C44, C48, b49⟩ ⟨o44, o48⟩
            refine KW.sub (s' := [(3, .pointer (some ⟨b11, 0, none⟩)), (5, .int .i64 x2.2.2), (6, .pointer (some ⟨b22, 0, none⟩)), (10, .int .i64 x38.1), (12, .bool x38.2.2), (13, .pointer (some ⟨b49, 0, none⟩)), (14, .bool x40.2)]) (h' := [(0, C6), (1, C10), (2, [(b11, .cells #[.slice p3 ((x2.1.b).length) c5, .slice p7 ((x2.1.f).length) c9] 26 (0, 0))]), (4, C17), (5, C21), (6, [(b22, .cells #[.slice p14 ((x13.1.b).length) c16, .slice p18 ((x13.1.f).length) c20] 26 (0, 0))]), (10, C44), (11, C48), (12, [(b49, .cells #[.slice p41 ((x40.1.b).length) c43, .slice p45 ((x40.1.f).length) c47] 26 (0, 0))])]) ?_ ⟨rfl, rfl, rfl, rfl, rfl, rfl, rfl, trivial⟩ ⟨rfl, rfl, rfl, rfl, rfl, rfl, rfl, rfl, rfl, trivial⟩
            refine kw_nx ?_
            refine cw_seq ?_
            refine cw_region ?_
            refine ow_det .none (stp_loadN (us := [_, _]) ts26 rfl (Cells.box (id := 6) rfl 2 rfl)) rfl ?_
            obtain ⟨x50, e50, H0⟩ := bind_some H0
            refine ow_eff .none (stpU_call (fun i => 13 + i) cf18 (fun w hw => c_i_TableValid fl w x13.1 p14 ((x13.1.b).length) c16 p18 ((x13.1.f).length) c20 rfl (OwnC.pass (id := 4) rfl o17 hw) rfl (OwnC.pass (id := 5) rfl o21 hw) (RO.pass hg hw) x50 e50) (sevs_cons rfl sevs_nil)) rfl ?_
            rintro _ _ ⟨_, ⟨rfl, rfl⟩, rfl⟩
            refine ow_det .none (stp_move rfl) rfl ?_
            obtain ⟨y51, ey51, H0⟩ := bind_some H0
            refine ow_cutY 2 82 y51 ?_ ?_
            · rcases Bool.eq_false_or_eq_true x50 with hy51 | hy51
              · have ey51 := cond_t ey51 hy51
                refine ow_det (.some rfl hy51) (stp_move rfl) rfl ?_
                refine ow_det .none (stp_pick_t rfl hy51 rfl) rfl ?_
                obtain rfl := Option.some.inj ey51
                exact ow_nil (kw_jy (.top rfl (.cons rfl (.cons rfl (.refl _)))) (.refl _))
              · have ey51 := cond_f ey51 hy51
                refine ow_off (.some rfl hy51) rfl ?_
                refine ow_det .none (stp_pick_f rfl hy51 rfl) rfl ?_
                obtain rfl := Option.some.inj ey51
                exact ow_nil (kw_jy (.top rfl (.cons rfl (.cons rfl (.refl _)))) (.refl _))
            · refine ow_det .none (stp_move rfl) rfl ?_
              obtain ⟨y52, ey52, H0⟩ := bind_some H0
              refine ow_cutY 9 92 y52 ?_ ?_
              · rcases Bool.eq_false_or_eq_true y51 with hy52 | hy52
                · have ey52 := cond_t ey52 hy52
                  refine ow_det (.some rfl hy52) (stp_fieldAddr (j := 1) Tryd.underlying26 rfl ts24 rfl rfl rfl) rfl ?_
                  refine ow_det (.some rfl hy52) (stp_load1 ts24 rfl (Cells.box (id := 6) rfl 1 rfl)) rfl ?_
                  refine ow_det (.some rfl hy52) (stp_move rfl) rfl ?_
                  obtain ⟨x53, e53, ey52⟩ := bind_some ey52
                  refine ow_det (.some rfl hy52) (stp_indexAddr Tryd.underlying24 ts53 (by decide) rfl rfl rfl (Rdb.own (id := 5) rfl o21) e53) rfl ?_
                  refine ow_det (.some rfl hy52) (stp_fieldAddr (j := 3) Tryd.underlying53 rfl ts3 rfl rfl rfl) rfl ?_
                  refine ow_det (.some rfl hy52) (stp_load1 ts3 rfl (Cells.el (Rdb.own (id := 5) rfl o21) (by decide) e53 3 1 rfl)) rfl ?_
                  refine ow_det (.some rfl hy52) (stp_move rfl) rfl ?_
                  refine ow_det (.some rfl hy52) (stp_eql rfl rfl) rfl ?_
                  refine ow_det .none (stp_pick_t rfl hy52 rfl) rfl ?_
                  obtain rfl := Option.some.inj ey52
                  exact ow_nil (kw_jy (.top rfl (.cons rfl (.cons rfl (.cons rfl (.cons rfl (.cons rfl (.cons rfl (.cons rfl (.cons rfl (.cons rfl (.refl _))))))))))) (.refl _))
                · have ey52 := cond_f ey52 hy52
                  refine ow_off (.some rfl hy52) rfl ?_
                  refine ow_off (.some rfl hy52) rfl ?_
                  refine ow_off (.some rfl hy52) rfl ?_
                  refine ow_off (.some rfl hy52) rfl ?_
                  refine ow_off (.some rfl hy52) rfl ?_
                  refine ow_off (.some rfl hy52) rfl ?_
                  refine ow_off (.some rfl hy52) rfl ?_
                  refine ow_off (.some rfl hy52) rfl ?_
                  refine ow_det .none (stp_pick_f rfl hy52 rfl) rfl ?_
                  obtain rfl := Option.some.inj ey52
                  exact ow_nil (kw_jy (.top rfl (.cons rfl (.cons rfl (.cons rfl (.cons rfl (.cons rfl (.cons rfl (.cons rfl (.cons rfl (.cons rfl (.refl _))))))))))) (.refl _))
              · refine ow_det .none (stp_move rfl) rfl ?_
                obtain ⟨y54, ey54, H0⟩ := bind_some H0
                refine ow_cutY 2 95 y54 ?_ ?_
                · rcases Bool.eq_false_or_eq_true y52 with hy54 | hy54
                  · have ey54 := cond_t ey54 hy54
                    refine ow_det (.some rfl hy54) (stp_move rfl) rfl ?_
                    refine ow_det .none (stp_pick_t rfl hy54 rfl) rfl ?_
                    obtain rfl := Option.some.inj ey54
                    exact ow_nil (kw_jy (.top rfl (.cons rfl (.cons rfl (.refl _)))) (.refl _))
                  · have ey54 := cond_f ey54 hy54
                    refine ow_off (.some rfl hy54) rfl ?_
                    refine ow_det .none (stp_pick_f rfl hy54 rfl) rfl ?_
                    obtain rfl := Option.some.inj ey54
                    exact ow_nil (kw_jy (.top rfl (.cons rfl (.cons rfl (.refl _)))) (.refl _))
                · refine ow_det .none (stp_move rfl) rfl ?_
                  obtain ⟨y55, ey55, H0⟩ := bind_some H0
                  refine ow_cutY 4 100 y55 ?_ ?_
                  · rcases Bool.eq_false_or_eq_true y54 with hy55 | hy55
                    · have ey55 := cond_t ey55 hy55
                      refine ow_det (.some rfl hy55) (stp_loadN (us := [_, _]) ts26 rfl (Cells.box (id := 12) rfl 2 rfl)) rfl ?_
                      refine ow_det (.some rfl hy55) (stp_loadN (us := [_, _]) ts26 rfl (Cells.box (id := 2) rfl 2 rfl)) rfl ?_
                      obtain ⟨x56, e56, ey55⟩ := bind_some ey55
                      refine ow_eff (.some rfl hy55) (stpU_call (fun i => 13 + i) cf15 (fun w hw => c_i_TableSame fl w x40.1 p41 ((x40.1.b).length) c43 p45 ((x40.1.f).length) c47 x2.1 p3 ((x2.1.b).length) c5 p7 ((x2.1.f).length) c9 rfl (OwnC.pass (id := 10) rfl o44 hw) rfl (OwnC.pass (id := 11) rfl o48 hw) rfl (OwnC.pass (id := 0) rfl o6 hw) rfl (OwnC.pass (id := 1) rfl o10 hw) x56 e56) (sevs_cons rfl (sevs_cons rfl sevs_nil))) rfl ?_
                      rintro _ _ ⟨_, ⟨rfl, rfl⟩, rfl⟩
                      refine ow_det .none (stp_pick_t rfl hy55 rfl) rfl ?_
                      obtain rfl := Option.some.inj ey55
                      exact ow_nil (kw_jy (.top rfl (.cons rfl (.cons rfl (.cons rfl (.cons rfl (.refl _)))))) (.refl _))
                    · have ey55 := cond_f ey55 hy55
                      refine ow_off (.some rfl hy55) rfl ?_
                      refine ow_off (.some rfl hy55) rfl ?_
                      refine ow_off (.some rfl hy55) rfl ?_
                      refine ow_det .none (stp_pick_f rfl hy55 rfl) rfl ?_
                      obtain rfl := Option.some.inj ey55
                      exact ow_nil (kw_jy (.top rfl (.cons rfl (.cons rfl (.cons rfl (.cons rfl (.refl _)))))) (.refl _))
                  · refine ow_det .none (stp_assign rfl) rfl ?_
                    refine ow_nil ?_
                    refine kw_nx ?_
                    refine cw_ret ?_
                    have q0 := Option.some.inj H0
                    subst q0
                    exact kw_ret Tryd.results6 (.cons (.tmp rfl) .nil) [] [] trivial (by decide) ⟨rfl, rfl⟩
end Go.Proofs.YtkocamaoeojfhaaDoor
