/- The walks: functions of the program return what their pure functions say. Printed by a program (gen.py). -/
import Derived.Test.YtkocamaoeojfhaaDoorGp
import Derived.Test.YtkocamaoeojfhaaDoorGt
import Derived.Test.YtkocamaoeojfhaaDoorMan
import Derived.Test.YtkocamaoeojfhaaDoorGwab
import Derived.Test.YtkocamaoeojfhaaDoorGwac
import Derived.Test.YtkocamaoeojfhaaDoorGwad
set_option linter.unusedSimpArgs false
set_option linter.unusedVariables false
set_option linter.unusedSectionVars false
namespace Go.Proofs.YtkocamaoeojfhaaDoor
open Go.RowKit
set_option maxHeartbeats 4000000 in
set_option maxRecDepth 20000 in
theorem c_s_ProtectPage (fl : Nat) (w : World) (a0 : T) (p0_0 : Option Addr) (n0_0 c0_0 : Nat) (p0_1 : Option Addr) (n0_1 c0_1 : Nat) (a1 : K) (a2 : Int) (hn0_0 : n0_0 = (a0.b).length) (hr0_0 : RO w (hkeys []) (RdL p0_0 c0_0 a0.b)) (hn0_1 : n0_1 = (a0.f).length) (hr0_1 : RO w (hkeys []) (RdL p0_1 c0_1 a0.f)) (r : T × Bool) (H0 : s_ProtectPage fl a0 a1 a2 = some r) :
    Ct Tryd.prog 20 [.agg #[.slice p0_0 n0_0 c0_0, .slice p0_1 n0_1 c0_1], .agg #[.int .i64 a1.s, .int .i64 a1.p], .int .i64 a2] w [] (fun rv h' => ∃ (x0 : Option Addr) (y0 z0 : Nat) (C0 : Res) (x1 : Option Addr) (y1 z1 : Nat) (C1 : Res), rv = .tuple #[.agg #[.slice x0 y0 z0, .slice x1 y1 z1], .bool r.2] ∧ h' = [(0, C0), (1, C1)] ∧ y0 = (r.1.b).length ∧ OwnC 3 x0 z0 r.1.b C0 ∧ y1 = (r.1.f).length ∧ OwnC 53 x1 z1 r.1.f C1) := by
  obtain rfl := hn0_0
  obtain rfl := hn0_1
  unfold s_ProtectPage at H0
  refine ct_of_cw Tryd.func20 rfl Tryd.ntmps20 rfl (Sat.refl _ _) ?_
  refine cw_seq ?_
  refine cw_region ?_
  refine ow_eff .none (stpU_box 0 rfl rfl) rfl ?_
  rintro _ _ ⟨b1, rfl, rfl⟩
  refine ow_eff .none (stpU_box 1 rfl rfl) rfl ?_
  rintro _ _ ⟨b2, rfl, rfl⟩
  refine ow_eff .none (stpU_alloc 2 tz26 rfl) rfl ?_
  rintro _ _ ⟨b3, rfl, rfl⟩
  refine ow_det .none (stp_assign rfl) rfl ?_
  refine ow_nil ?_
  refine kw_nx ?_
  refine cw_seq ?_
  refine cw_region ?_
  refine ow_det .none (stp_loadN (us := [_, _]) ts26 rfl (Cells.box (id := 0) rfl 2 rfl)) rfl ?_
  refine ow_det .none (stp_loadN (us := [_, _]) ts28 rfl (Cells.box (id := 1) rfl 2 rfl)) rfl ?_
  obtain ⟨x4, e4, H0⟩ := bind_some H0
  refine ow_eff .none (stpU_call (fun i => 3 + i) cf56 (fun w hw => c_s_FindPage fl w a0 p0_0 ((a0.b).length) c0_0 p0_1 ((a0.f).length) c0_1 a1 rfl (RO.pass hr0_0 hw) rfl (RO.pass hr0_1 hw) x4 e4) (sevs_cons rfl (sevs_cons rfl sevs_nil))) rfl ?_
  rintro _ _ ⟨_, ⟨rfl, rfl⟩, rfl⟩
  refine ow_det .none (stp_move rfl) rfl ?_
  refine ow_det .none (stp_extract rfl rfl) rfl ?_
  refine ow_det .none (stp_extract rfl rfl) rfl ?_
  refine ow_det .none (stp_extract rfl rfl) rfl ?_
  refine ow_det .none (stp_assign rfl) rfl ?_
  refine ow_det .none (stp_assign rfl) rfl ?_
  refine ow_det .none (stp_assign rfl) rfl ?_
  refine ow_nil ?_
  refine kw_nx ?_
  refine cw_seq ?_
  refine cw_seq ?_
  refine cw_region ?_
  refine ow_det .none (stp_move rfl) rfl ?_
  refine ow_det .none (stp_not rfl) rfl ?_
  refine ow_det .none (stp_move rfl) rfl ?_
  obtain ⟨y5, ey5, H0⟩ := bind_some H0
  refine ow_cutY 4 25 y5 ?_ ?_
  · rcases Bool.eq_false_or_eq_true (!x4.2.2) with hy5 | hy5
    · have ey5 := cond_t ey5 hy5
      refine ow_off (.some rfl hy5) rfl ?_
      refine ow_off (.some rfl hy5) rfl ?_
      refine ow_off (.some rfl hy5) rfl ?_
      refine ow_det .none (stp_pick_t rfl hy5 rfl) rfl ?_
      obtain rfl := Option.some.inj ey5
      exact ow_nil (kw_jy (.top rfl (.cons rfl (.cons rfl (.cons rfl (.cons rfl (.refl _)))))) (.refl _))
    · have ey5 := cond_f ey5 hy5
      refine ow_det (.some rfl hy5) (stp_move rfl) rfl ?_
      obtain ⟨x6, e6, ey5⟩ := bind_some ey5
      refine ow_eff (.some rfl hy5) (stpU_call (fun i => 3 + i) cf46 (fun w hw => c_s_RightsValid fl w a2 x6 e6) (sevs_cons rfl sevs_nil)) rfl ?_
      rintro _ _ ⟨_, ⟨rfl, rfl⟩, rfl⟩
      refine ow_det (.some rfl hy5) (stp_not rfl) rfl ?_
      refine ow_det .none (stp_pick_f rfl hy5 rfl) rfl ?_
      obtain rfl := Option.some.inj ey5
      exact ow_nil (kw_jy (.top rfl (.cons rfl (.cons rfl (.cons rfl (.cons rfl (.refl _)))))) (.refl _))
  · refine ow_nil ?_
    refine kw_nx ?_
    refine cw_cond rfl (fun h7 => ?_) (fun h7 => ?_)
    · have H0 := cond_t H0 h7
      refine cw_seq ?_
      refine cw_region ?_
      refine ow_det .none (stp_build (cs := #[.slice none 0 0, .slice none 0 0]) sevp_nil (by rfl)) rfl ?_
      refine ow_eff0 .none (stpU_store (id := 2) (cs' := [.slice none 0 0, .slice none 0 0]) ts26 rfl rfl rfl rfl rfl rfl rfl) ?_
      rintro _ _ rfl
      refine ow_det .none (stp_assign rfl) rfl ?_
      refine ow_nil ?_
      refine kw_nx ?_
      refine cw_ret ?_
      refine kw_nx_ret ?_
      refine kw_addNil 3 ?_
      refine kw_addNil 4 ?_
      have q0 := Option.some.inj H0
      subst q0
      exact kw_ret Tryd.results20 (.cons (.cellN (us := [_, _]) ts26 rfl (Cells.box (id := 2) rfl 2 rfl)) (.cons (.tmp rfl) .nil)) [(0, []), (1, [])] [3, 4] ⟨3, [4], rfl, rfl, 4, [], rfl, rfl, trivial⟩ (by decide) ⟨none, 0, 0, [], none, 0, 0, [], rfl, rfl, rfl, (OwnC.nil _ _), rfl, (OwnC.nil _ _)⟩
    · have H0 := cond_f H0 h7
      refine cw_skip ?_
      refine kw_nx ?_
      refine cw_seq ?_
      refine cw_region ?_
      refine ow_det .none (stp_loadN (us := [_, _]) ts26 rfl (Cells.box (id := 0) rfl 2 rfl)) rfl ?_
      obtain ⟨x8, e8, H0⟩ := bind_some H0
      refine ow_eff .none (stpU_call (fun i => 5 + i) cf57 (fun w hw => c_s_l3Copy fl w a0 p0_0 ((a0.b).length) c0_0 p0_1 ((a0.f).length) c0_1 rfl (RO.pass hr0_0 hw) rfl (RO.pass hr0_1 hw) x8 e8) (sevs_cons rfl sevs_nil)) rfl ?_
      rintro _ _ ⟨_, ⟨p9, n10, c11, C12, p13, n14, c15, C16, rfl, rfl, hnn10, o12, hnn14, o16⟩, rfl⟩
      obtain rfl := hnn10
      obtain rfl := hnn14
      refine ow_eff .none (stpU_alloc 7 tz26 rfl) rfl ?_
      rintro _ _ ⟨b17, rfl, rfl⟩
      refine ow_eff0 .none (stpU_store (id := 7) (cs' := [.slice p9 ((x8.b).length) c11, .slice p13 ((x8.f).length) c15]) ts26 rfl rfl rfl rfl rfl rfl rfl) ?_
      rintro _ _ rfl
      refine ow_nil ?_
      refine kw_nx ?_
      refine cw_seq ?_
      refine cw_region ?_
      refine ow_det .none (stp_fieldAddr (j := 1) Tryd.underlying26 rfl ts24 rfl rfl rfl) rfl ?_
      refine ow_det .none (stp_load1 ts24 rfl (Cells.box (id := 7) rfl 1 rfl)) rfl ?_
      refine ow_det .none (stp_move rfl) rfl ?_
      refine ow_det .none (stp_move rfl) rfl ?_
      obtain ⟨x18, e18, H0⟩ := bind_some H0
      refine ow_det .none (stp_indexAddr Tryd.underlying24 ts53 (by decide) rfl rfl rfl (Rdb.own (id := 6) rfl o16) e18) rfl ?_
      refine ow_det .none (stp_fieldAddr (j := 3) Tryd.underlying53 rfl ts3 rfl rfl rfl) rfl ?_
      refine ow_eff0 .none (stpU_storeEl (id := 6) (i := 3) (⟨x18.u, x18.k, a2, x18.nx⟩ : F) (by decide) ts3 rfl rfl rfl o16 e18 rfl rfl rfl rfl) ?_
      rintro _ _ ⟨C19, rfl, o19⟩
      refine ow_nil ?_
      refine kw_nx ?_
      refine cw_seq ?_
      refine cw_region ?_
      refine ow_det .none (stp_loadN (us := [_, _]) ts26 rfl (Cells.box (id := 7) rfl 2 rfl)) rfl ?_
      refine ow_eff0 .none (stpU_store (id := 2) (cs' := [.slice p9 ((x8.b).length) c11, .slice p13 ((x8.f).length) c15]) ts26 rfl rfl rfl rfl rfl rfl rfl) ?_
      rintro _ _ rfl
      refine ow_det .none (stp_assign rfl) rfl ?_
      refine ow_nil ?_
      refine kw_nx ?_
      refine cw_ret ?_
      have q0 := Option.some.inj H0
      subst q0
      exact kw_ret Tryd.results20 (.cons (.cellN (us := [_, _]) ts26 rfl (Cells.box (id := 2) rfl 2 rfl)) (.cons (.tmp rfl) .nil)) [(0, C12), (1, C19)] [5, 6] ⟨5, [6], rfl, rfl, 6, [], rfl, rfl, trivial⟩ (by decide) ⟨p9, ((x8.b).length), c11, C12, p13, ((x8.f).length), c15, C19, rfl, rfl, rfl, o12, (by simp), o19⟩

set_option maxHeartbeats 4000000 in
set_option maxRecDepth 20000 in
theorem c_i_ProtectPage (fl : Nat) (w : World) (a0 : T) (p0_0 : Option Addr) (n0_0 c0_0 : Nat) (p0_1 : Option Addr) (n0_1 c0_1 : Nat) (a1 : K) (a2 : Int) (hn0_0 : n0_0 = (a0.b).length) (hr0_0 : RO w (hkeys []) (RdL p0_0 c0_0 a0.b)) (hn0_1 : n0_1 = (a0.f).length) (hr0_1 : RO w (hkeys []) (RdL p0_1 c0_1 a0.f)) (hg : RO w (hkeys []) (fun w' => w'.rangeAt 0 0 [.bool false, .int .i64 0, .int .i64 0, .int .i64 0, .int .i64 (-1)])) (r : T × Bool) (H0 : i_ProtectPage fl a0 a1 a2 = some r) :
    Ct Tryd.prog 23 [.agg #[.slice p0_0 n0_0 c0_0, .slice p0_1 n0_1 c0_1], .agg #[.int .i64 a1.s, .int .i64 a1.p], .int .i64 a2] w [] (fun rv h' => ∃ (x0 : Option Addr) (y0 z0 : Nat) (C0 : Res) (x1 : Option Addr) (y1 z1 : Nat) (C1 : Res), rv = .tuple #[.agg #[.slice x0 y0 z0, .slice x1 y1 z1], .bool r.2] ∧ h' = [(0, C0), (1, C1)] ∧ y0 = (r.1.b).length ∧ OwnC 3 x0 z0 r.1.b C0 ∧ y1 = (r.1.f).length ∧ OwnC 53 x1 z1 r.1.f C1) := by
  obtain rfl := hn0_0
  obtain rfl := hn0_1
  unfold i_ProtectPage at H0
  refine ct_of_cw Tryd.func23 rfl Tryd.ntmps23 rfl (Sat.refl _ _) ?_
  refine cw_seq ?_
  refine cw_region ?_
  refine ow_eff .none (stpU_box 0 rfl rfl) rfl ?_
  rintro _ _ ⟨b1, rfl, rfl⟩
  refine ow_eff .none (stpU_box 1 rfl rfl) rfl ?_
  rintro _ _ ⟨b2, rfl, rfl⟩
  refine ow_eff .none (stpU_alloc 2 tz26 rfl) rfl ?_
  rintro _ _ ⟨b3, rfl, rfl⟩
  refine ow_det .none (stp_assign rfl) rfl ?_
  refine ow_nil ?_
  refine kw_nx ?_
  refine cw_seq ?_
  refine cw_seq ?_
  refine cw_region ?_
  refine ow_det .none (stp_loadN (us := [_, _]) ts26 rfl (Cells.box (id := 0) rfl 2 rfl)) rfl ?_
  obtain ⟨x4, e4, H0⟩ := bind_some H0
  refine ow_eff .none (stpU_call (fun i => 3 + i) cf18 (fun w hw => c_i_TableValid fl w a0 p0_0 ((a0.b).length) c0_0 p0_1 ((a0.f).length) c0_1 rfl (RO.pass hr0_0 hw) rfl (RO.pass hr0_1 hw) (RO.pass hg hw) x4 e4) (sevs_cons rfl sevs_nil)) rfl ?_
  rintro _ _ ⟨_, ⟨rfl, rfl⟩, rfl⟩
  refine ow_det .none (stp_not rfl) rfl ?_
  refine ow_det .none (stp_move rfl) rfl ?_
  obtain ⟨y5, ey5, H0⟩ := bind_some H0
  refine ow_cutY 4 16 y5 ?_ ?_
  · rcases Bool.eq_false_or_eq_true (!x4) with hy5 | hy5
    · have ey5 := cond_t ey5 hy5
      refine ow_off (.some rfl hy5) rfl ?_
      refine ow_off (.some rfl hy5) rfl ?_
      refine ow_off (.some rfl hy5) rfl ?_
      refine ow_det .none (stp_pick_t rfl hy5 rfl) rfl ?_
      obtain rfl := Option.some.inj ey5
      exact ow_nil (kw_jy (.top rfl (.cons rfl (.cons rfl (.cons rfl (.cons rfl (.refl _)))))) (.refl _))
    · have ey5 := cond_f ey5 hy5
      refine ow_det (.some rfl hy5) (stp_loadN (us := [_, _]) ts28 rfl (Cells.box (id := 1) rfl 2 rfl)) rfl ?_
      obtain ⟨x6, e6, ey5⟩ := bind_some ey5
      refine ow_eff (.some rfl hy5) (stpU_call (fun i => 3 + i) cf38 (fun w hw => c_i_KeyValid fl w a1 x6 e6) (sevs_cons rfl sevs_nil)) rfl ?_
      rintro _ _ ⟨_, ⟨rfl, rfl⟩, rfl⟩
      refine ow_det (.some rfl hy5) (stp_not rfl) rfl ?_
      refine ow_det .none (stp_pick_f rfl hy5 rfl) rfl ?_
      obtain rfl := Option.some.inj ey5
      exact ow_nil (kw_jy (.top rfl (.cons rfl (.cons rfl (.cons rfl (.cons rfl (.refl _)))))) (.refl _))
  · refine ow_det .none (stp_move rfl) rfl ?_
    obtain ⟨y7, ey7, H0⟩ := bind_some H0
    refine ow_cutY 5 22 y7 ?_ ?_
    · rcases Bool.eq_false_or_eq_true y5 with hy7 | hy7
      · have ey7 := cond_t ey7 hy7
        refine ow_off (.some rfl hy7) rfl ?_
        refine ow_off (.some rfl hy7) rfl ?_
        refine ow_off (.some rfl hy7) rfl ?_
        refine ow_off (.some rfl hy7) rfl ?_
        refine ow_det .none (stp_pick_t rfl hy7 rfl) rfl ?_
        obtain rfl := Option.some.inj ey7
        exact ow_nil (kw_jy (.top rfl (.cons rfl (.cons rfl (.cons rfl (.cons rfl (.cons rfl (.refl _))))))) (.refl _))
      · have ey7 := cond_f ey7 hy7
        refine ow_det (.some rfl hy7) (stp_loadN (us := [_, _]) ts26 rfl (Cells.box (id := 0) rfl 2 rfl)) rfl ?_
        refine ow_det (.some rfl hy7) (stp_loadN (us := [_, _]) ts28 rfl (Cells.box (id := 1) rfl 2 rfl)) rfl ?_
        obtain ⟨x8, e8, ey7⟩ := bind_some ey7
        refine ow_eff (.some rfl hy7) (stpU_call (fun i => 3 + i) cf39 (fun w hw => c_i_Table_find fl w a0 p0_0 ((a0.b).length) c0_0 p0_1 ((a0.f).length) c0_1 a1 rfl (RO.pass hr0_0 hw) rfl (RO.pass hr0_1 hw) x8 e8) (sevs_cons rfl (sevs_cons rfl sevs_nil))) rfl ?_
        rintro _ _ ⟨_, ⟨rfl, rfl⟩, rfl⟩
        refine ow_det (.some rfl hy7) (stp_lss rfl rfl) rfl ?_
        refine ow_det .none (stp_pick_f rfl hy7 rfl) rfl ?_
        obtain rfl := Option.some.inj ey7
        exact ow_nil (kw_jy (.top rfl (.cons rfl (.cons rfl (.cons rfl (.cons rfl (.cons rfl (.refl _))))))) (.refl _))
    · refine ow_det .none (stp_move rfl) rfl ?_
      obtain ⟨y9, ey9, H0⟩ := bind_some H0
      refine ow_cutY 4 27 y9 ?_ ?_
      · rcases Bool.eq_false_or_eq_true y7 with hy9 | hy9
        · have ey9 := cond_t ey9 hy9
          refine ow_off (.some rfl hy9) rfl ?_
          refine ow_off (.some rfl hy9) rfl ?_
          refine ow_off (.some rfl hy9) rfl ?_
          refine ow_det .none (stp_pick_t rfl hy9 rfl) rfl ?_
          obtain rfl := Option.some.inj ey9
          exact ow_nil (kw_jy (.top rfl (.cons rfl (.cons rfl (.cons rfl (.cons rfl (.refl _)))))) (.refl _))
        · have ey9 := cond_f ey9 hy9
          refine ow_det (.some rfl hy9) (stp_move rfl) rfl ?_
          obtain ⟨x10, e10, ey9⟩ := bind_some ey9
          refine ow_eff (.some rfl hy9) (stpU_call (fun i => 3 + i) cf41 (fun w hw => c_i_RightsValid fl w a2 x10 e10) (sevs_cons rfl sevs_nil)) rfl ?_
          rintro _ _ ⟨_, ⟨rfl, rfl⟩, rfl⟩
          refine ow_det (.some rfl hy9) (stp_not rfl) rfl ?_
          refine ow_det .none (stp_pick_f rfl hy9 rfl) rfl ?_
          obtain rfl := Option.some.inj ey9
          exact ow_nil (kw_jy (.top rfl (.cons rfl (.cons rfl (.cons rfl (.cons rfl (.refl _)))))) (.refl _))
      · refine ow_nil ?_
        refine kw_nx ?_
        refine cw_cond rfl (fun h11 => ?_) (fun h11 => ?_)
        · have H0 := cond_t H0 h11
          refine cw_seq ?_
          refine cw_region ?_
          refine ow_det .none (stp_build (cs := #[.slice none 0 0, .slice none 0 0]) sevp_nil (by rfl)) rfl ?_
          refine ow_eff0 .none (stpU_store (id := 2) (cs' := [.slice none 0 0, .slice none 0 0]) ts26 rfl rfl rfl rfl rfl rfl rfl) ?_
          rintro _ _ rfl
          refine ow_det .none (stp_assign rfl) rfl ?_
          refine ow_nil ?_
          refine kw_nx ?_
          refine cw_ret ?_
          refine kw_nx_ret ?_
          refine kw_addNil 3 ?_
          refine kw_addNil 4 ?_
          have q0 := Option.some.inj H0
          subst q0
          exact kw_ret Tryd.results23 (.cons (.cellN (us := [_, _]) ts26 rfl (Cells.box (id := 2) rfl 2 rfl)) (.cons (.tmp rfl) .nil)) [(0, []), (1, [])] [3, 4] ⟨3, [4], rfl, rfl, 4, [], rfl, rfl, trivial⟩ (by decide) ⟨none, 0, 0, [], none, 0, 0, [], rfl, rfl, rfl, (OwnC.nil _ _), rfl, (OwnC.nil _ _)⟩
        · have H0 := cond_f H0 h11
          refine cw_skip ?_
          refine kw_nx ?_
          refine cw_seq ?_
          refine cw_region ?_
          refine ow_det .none (stp_loadN (us := [_, _]) ts26 rfl (Cells.box (id := 0) rfl 2 rfl)) rfl ?_
          obtain ⟨x12, e12, H0⟩ := bind_some H0
          refine ow_eff .none (stpU_call (fun i => 5 + i) cf42 (fun w hw => c_i_Table_clone fl w a0 p0_0 ((a0.b).length) c0_0 p0_1 ((a0.f).length) c0_1 rfl (RO.pass hr0_0 hw) rfl (RO.pass hr0_1 hw) x12 e12) (sevs_cons rfl sevs_nil)) rfl ?_
          rintro _ _ ⟨_, ⟨p13, n14, c15, C16, p17, n18, c19, C20, rfl, rfl, hnn14, o16, hnn18, o20⟩, rfl⟩
          obtain rfl := hnn14
          obtain rfl := hnn18
          refine ow_eff .none (stpU_alloc 7 tz26 rfl) rfl ?_
          rintro _ _ ⟨b21, rfl, rfl⟩
          refine ow_eff0 .none (stpU_store (id := 7) (cs' := [.slice p13 ((x12.b).length) c15, .slice p17 ((x12.f).length) c19]) ts26 rfl rfl rfl rfl rfl rfl rfl) ?_
          rintro _ _ rfl
          refine ow_nil ?_
          refine kw_nx ?_
          refine cw_seq ?_
          obtain ⟨x22, e22, H0⟩ := bind_some H0
          obtain ⟨x23, e23, H0⟩ := bind_some H0
          refine region_drawn { dst := fun i => match i with | 0 => some 31 | 1 => some 32 | 2 => some 33 | 3 => some 34 | 4 => some 35 | 5 => some 36 | 6 => some 37 | 7 => some 38 | _ => none, pre := fun i => match i with | 1 => [0] | 4 => [2, 3] | 6 => [0, 1, 2, 3, 4, 5] | 7 => [0, 1, 2, 3, 4, 5, 6] | 8 => [0, 1, 2, 3, 4, 5, 6, 7] | _ => [], ids := fun i => match i with | 8 => [6] | _ => [], rs := fun i => match i with | 0 => [(8, none)] | 1 => [(31, some 0)] | 2 => [(3, none)] | 3 => [(4, none)] | 4 => [(33, some 2), (34, some 3)] | 5 => [(2, none)] | 6 => [(32, some 1), (35, some 4)] | 7 => [(37, some 6)] | 8 => [(38, some 7), (36, some 5)] | _ => [], rh := fun i => match i with | 1 => [(7, none)] | 2 => [(0, none)] | 3 => [(1, none)] | 6 => [(6, none)] | 8 => [(6, none)] | _ => [], V := fun i g => match i with | 0 => .pointer (some ⟨b21, 1, none⟩) | 1 => .slice p17 ((x12.f).length) c19 | 2 => .agg #[.slice p0_0 ((a0.b).length) c0_0, .slice p0_1 ((a0.f).length) c0_1] | 3 => .agg #[.int .i64 a1.s, .int .i64 a1.p] | 4 => .int .i64 x22 | 5 => .int .i64 a2 | 6 => .pointer (some ⟨eB p17, eO p17 + Int.toNat x22 * Enc.sz F + 0, none⟩) | 7 => .pointer (some ⟨eB p17, eO p17 + Int.toNat x22 * Enc.sz F + 3, none⟩) | _ => undef, U := fun i g => match i with | 8 => [(6, ((g 8).R 0))] | _ => [], Φ := fun i x => match i with | 8 => OwnC (α := F) 53 p17 c19 (x12.f.set (Int.toNat x22) (⟨x23.u, x23.k, a2, x23.nx⟩ : F)) (x.R 0) | _ => True } g_mixed [2, 3, 4, 8] [0, 1, 6, 7] (by kernel_rfl) (by kernel_rfl) (by kernel_rfl) ⟨⟨⟨⟨⟨⟨⟨⟨⟨trivial, fun _ => ⟨rfl, rfl⟩⟩, fun _ => ⟨rfl, rfl⟩⟩, fun _ => ⟨rfl, rfl⟩⟩, fun _ => ⟨rfl, rfl⟩⟩, fun _ => ⟨rfl, rfl⟩⟩, fun _ => ⟨rfl, rfl⟩⟩, fun _ => ⟨rfl, rfl⟩⟩, fun _ => ⟨rfl, rfl⟩⟩, fun _ => ⟨rfl, rfl⟩⟩ ?_ ?_
          · refine ⟨⟨⟨⟨⟨⟨⟨⟨⟨trivial, ?_⟩, ?_⟩, ?_⟩, ?_⟩, ?_⟩, ?_⟩, ?_⟩, ?_⟩, ?_⟩
            · exact loc_det rfl rfl (fun _ => rfl) trivial (fun g hΦ s h hs hh => ⟨.none, (stp_fieldAddr (j := 1) Tryd.underlying26 rfl ts24 rfl (sv hs 8 rfl) rfl)⟩)
            · exact loc_det rfl rfl (fun _ => rfl) trivial (fun g hΦ s h hs hh => ⟨.none, (stp_load1 ts24 (sv hs 31 rfl) (Cells.box (id := 7) (hh.get 7 _ rfl) 1 rfl))⟩)
            · exact loc_det rfl rfl (fun _ => rfl) trivial (fun g hΦ s h hs hh => ⟨.none, (stp_loadN (us := [_, _]) ts26 (sv hs 3 rfl) (Cells.box (id := 0) (hh.get 0 _ rfl) 2 rfl))⟩)
            · exact loc_det rfl rfl (fun _ => rfl) trivial (fun g hΦ s h hs hh => ⟨.none, (stp_loadN (us := [_, _]) ts28 (sv hs 4 rfl) (Cells.box (id := 1) (hh.get 1 _ rfl) 2 rfl))⟩)
            · refine loc_eff rfl rfl (fun g hΦ s h hs hh => ⟨.none, (stpU_call (fun i => 8 + i) cf39 (fun w hw => c_i_Table_find fl w a0 p0_0 ((a0.b).length) c0_0 p0_1 ((a0.f).length) c0_1 a1 rfl (RO.pass hr0_0 hw) rfl (RO.pass hr0_1 hw) x22 e22) (sevs_cons (sv hs 33 rfl) (sevs_cons (sv hs 34 rfl) sevs_nil)))⟩) ?_
              rintro g _ _ ⟨_, ⟨rfl, rfl⟩, rfl⟩
              exact ⟨⟨[], [], []⟩, trivial, .inr rfl, rfl⟩
            · exact loc_det rfl rfl (fun _ => rfl) trivial (fun g hΦ s h hs hh => ⟨.none, (stp_move (sv hs 2 rfl))⟩)
            · exact loc_det rfl rfl (fun _ => rfl) trivial (fun g hΦ s h hs hh => ⟨.none, (stp_indexAddr Tryd.underlying24 ts53 (by decide) (sv hs 32 rfl) rfl (sv hs 35 rfl) (Rdb.own (id := 6) (hh.get 6 _ rfl) o20) e23)⟩)
            · exact loc_det rfl rfl (fun _ => rfl) trivial (fun g hΦ s h hs hh => ⟨.none, (stp_fieldAddr (j := 3) Tryd.underlying53 rfl ts3 rfl (sv hs 37 rfl) rfl)⟩)
            · refine loc_eff rfl rfl (fun g hΦ s h hs hh => ⟨.none, (stpU_storeEl (id := 6) (i := 3) (⟨x23.u, x23.k, a2, x23.nx⟩ : F) (by decide) ts3 (sv hs 38 rfl) (sv hs 36 rfl) (hh.get 6 _ rfl) o20 e23 rfl rfl rfl rfl)⟩) ?_
              rintro g _ _ ⟨C24, rfl, o24⟩
              exact ⟨⟨[], [], [C24]⟩, o24, .inl rfl, rfl⟩
          · intro g hΦ
            refine kw_gen (ι := Res) ((g 8).R 0) (fun | C24 => OwnC (α := F) 53 p17 c19 (x12.f.set (Int.toNat x22) (⟨x23.u, x23.k, a2, x23.nx⟩ : F)) C24) (fun | C24 => [(6, .pointer (some ⟨b3, 0, none⟩)), (8, .pointer (some ⟨b21, 0, none⟩))]) (fun | C24 => [(2, [(b3, .cells #[.slice none 0 0, .slice none 0 0] 26 (0, 0))]), (5, C16), (6, C24), (7, [(b21, .cells #[.slice p13 ((x12.b).length) c15, .slice p17 ((x12.f).length) c19] 26 (0, 0))])]) (hΦ 8 (by decide)) ⟨rfl, rfl, trivial⟩ ⟨rfl, rfl, rfl, rfl, trivial⟩ ?_
            rintro C24 o24
            have o24 : OwnC (α := F) 53 p17 c19 (x12.f.set (Int.toNat x22) (⟨x23.u, x23.k, a2, x23.nx⟩ : F)) C24 := o24
            refine KW.sub (s' := [(6, .pointer (some ⟨b3, 0, none⟩)), (8, .pointer (some ⟨b21, 0, none⟩))]) (h' := [(2, [(b3, .cells #[.slice none 0 0, .slice none 0 0] 26 (0, 0))]), (5, C16), (6, C24), (7, [(b21, .cells #[.slice p13 ((x12.b).length) c15, .slice p17 ((x12.f).length) c19] 26 (0, 0))])]) ?_ ⟨rfl, rfl, trivial⟩ ⟨rfl, rfl, rfl, rfl, trivial⟩
            refine kw_nx ?_
            refine cw_seq ?_
            refine cw_region ?_
            refine ow_det .none (stp_loadN (us := [_, _]) ts26 rfl (Cells.box (id := 7) rfl 2 rfl)) rfl ?_
            refine ow_eff0 .none (stpU_store (id := 2) (cs' := [.slice p13 ((x12.b).length) c15, .slice p17 ((x12.f).length) c19]) ts26 rfl rfl rfl rfl rfl rfl rfl) ?_
            rintro _ _ rfl
            refine ow_det .none (stp_assign rfl) rfl ?_
            refine ow_nil ?_
            refine kw_nx ?_
            refine cw_ret ?_
            have q0 := Option.some.inj H0
            subst q0
            exact kw_ret Tryd.results23 (.cons (.cellN (us := [_, _]) ts26 rfl (Cells.box (id := 2) rfl 2 rfl)) (.cons (.tmp rfl) .nil)) [(0, C16), (1, C24)] [5, 6] ⟨5, [6], rfl, rfl, 6, [], rfl, rfl, trivial⟩ (by decide) ⟨p13, ((x12.b).length), c15, C16, p17, ((x12.f).length), c19, C24, rfl, rfl, rfl, o16, (by simp), o24⟩
end Go.Proofs.YtkocamaoeojfhaaDoor
