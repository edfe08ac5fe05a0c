/- The walks: functions of the program return what their pure functions say. Printed by a program (gen.py). -/
import Derived.Test.YtkocamaoeojfhaaDoorGp
import Derived.Test.YtkocamaoeojfhaaDoorGt
import Derived.Test.YtkocamaoeojfhaaDoorMan
import Derived.Test.YtkocamaoeojfhaaDoorGwab
import Derived.Test.YtkocamaoeojfhaaDoorGwad
set_option linter.unusedSimpArgs false
set_option linter.unusedVariables false
set_option linter.unusedSectionVars false
namespace Go.Proofs.YtkocamaoeojfhaaDoor
open Go.RowKit
set_option maxHeartbeats 4000000 in
set_option maxRecDepth 20000 in
theorem c_s_l3Map (fl : Nat) (w : World) (a0 : T) (p0_0 : Option Addr) (n0_0 c0_0 : Nat) (p0_1 : Option Addr) (n0_1 c0_1 : Nat) (a1 : K) (a2 : Int) (a3 : Int) (hn0_0 : n0_0 = (a0.b).length) (hr0_0 : RO w (hkeys []) (RdL p0_0 c0_0 a0.b)) (hn0_1 : n0_1 = (a0.f).length) (hr0_1 : RO w (hkeys []) (RdL p0_1 c0_1 a0.f)) (r : T) (H0 : s_l3Map fl a0 a1 a2 a3 = some r) :
    Ct Tryd.prog 48 [.agg #[.slice p0_0 n0_0 c0_0, .slice p0_1 n0_1 c0_1], .agg #[.int .i64 a1.s, .int .i64 a1.p], .int .i64 a2, .int .i64 a3] w [] (fun rv h' => ∃ (x0 : Option Addr) (y0 z0 : Nat) (C0 : Res) (x1 : Option Addr) (y1 z1 : Nat) (C1 : Res), rv = .agg #[.slice x0 y0 z0, .slice x1 y1 z1] ∧ h' = [(0, C0), (1, C1)] ∧ y0 = (r.b).length ∧ OwnC 3 x0 z0 r.b C0 ∧ y1 = (r.f).length ∧ OwnC 53 x1 z1 r.f C1) := by
  obtain rfl := hn0_0
  obtain rfl := hn0_1
  unfold s_l3Map at H0
  refine ct_of_cw Tryd.func48 rfl Tryd.ntmps48 rfl (Sat.refl _ _) ?_
  refine cw_seq ?_
  refine cw_region ?_
  refine ow_eff .none (stpU_box 0 rfl rfl) rfl ?_
  rintro _ _ ⟨b1, rfl, rfl⟩
  refine ow_eff .none (stpU_box 1 rfl rfl) rfl ?_
  rintro _ _ ⟨b2, rfl, rfl⟩
  refine ow_eff .none (stpU_alloc 2 tz26 rfl) rfl ?_
  rintro _ _ ⟨b3, rfl, rfl⟩
  refine ow_nil ?_
  refine kw_nx ?_
  refine cw_seq ?_
  refine cw_region ?_
  refine ow_det .none (stp_loadN (us := [_, _]) ts26 rfl (Cells.box (id := 0) rfl 2 rfl)) rfl ?_
  obtain ⟨x4, e4, H0⟩ := bind_some H0
  refine ow_eff .none (stpU_call (fun i => 3 + i) cf57 (fun w hw => c_s_l3Copy fl w a0 p0_0 ((a0.b).length) c0_0 p0_1 ((a0.f).length) c0_1 rfl (RO.pass hr0_0 hw) rfl (RO.pass hr0_1 hw) x4 e4) (sevs_cons rfl sevs_nil)) rfl ?_
  rintro _ _ ⟨_, ⟨p5, n6, c7, C8, p9, n10, c11, C12, rfl, rfl, hnn6, o8, hnn10, o12⟩, rfl⟩
  obtain rfl := hnn6
  obtain rfl := hnn10
  refine ow_eff .none (stpU_alloc 5 tz26 rfl) rfl ?_
  rintro _ _ ⟨b13, rfl, rfl⟩
  refine ow_eff0 .none (stpU_store (id := 5) (cs' := [.slice p5 ((x4.b).length) c7, .slice p9 ((x4.f).length) c11]) ts26 rfl rfl rfl rfl rfl rfl rfl) ?_
  rintro _ _ rfl
  refine ow_nil ?_
  refine kw_nx ?_
  refine cw_seq ?_
  refine cw_region ?_
  refine ow_det .none (stp_loadN (us := [_, _]) ts28 rfl (Cells.box (id := 1) rfl 2 rfl)) rfl ?_
  refine ow_det .none (stp_fieldAddr (j := 0) Tryd.underlying26 rfl ts23 rfl rfl rfl) rfl ?_
  refine ow_det .none (stp_load1 ts23 rfl (Cells.box (id := 0) rfl 1 rfl)) rfl ?_
  refine ow_det .none (stp_len Tryd.underlying23 rfl) rfl ?_
  obtain ⟨x14, e14, H0⟩ := bind_some H0
  refine ow_eff .none (stpU_call (fun i => 6 + i) cf86 (fun w hw => c_s_l2Hash fl w a1 ((a0.b).length : Int) x14 e14) (sevs_cons rfl (sevs_cons rfl sevs_nil))) rfl ?_
  rintro _ _ ⟨_, ⟨rfl, rfl⟩, rfl⟩
  refine ow_det .none (stp_assign rfl) rfl ?_
  refine ow_nil ?_
  refine kw_nx ?_
  refine cw_seq ?_
  obtain ⟨x15, e15, H0⟩ := bind_some H0
  obtain ⟨x16, e16, H0⟩ := bind_some H0
  refine region_drawn { dst := fun i => match i with | 0 => some 18 | 1 => some 19 | 2 => some 20 | 3 => some 21 | 4 => some 22 | 5 => some 23 | 6 => some 24 | 7 => some 25 | 8 => some 26 | 9 => some 27 | 10 => some 28 | 11 => some 29 | _ => none, pre := fun i => match i with | 1 => [0] | 6 => [5] | 8 => [5, 6, 7] | 9 => [5, 6, 7, 8] | 10 => [3, 4, 5, 6, 7, 8, 9] | 11 => [0, 1, 2, 3, 4, 5, 6, 7, 8, 9, 10] | 12 => [0, 1, 2, 3, 4, 5, 6, 7, 8, 9, 10, 11] | _ => [], ids := fun i => match i with | 12 => [4] | _ => [], rs := fun i => match i with | 0 => [(9, none)] | 1 => [(18, some 0)] | 2 => [(2, none)] | 3 => [(5, none)] | 4 => [(3, none)] | 5 => [(9, none)] | 6 => [(23, some 5)] | 7 => [(10, none)] | 8 => [(24, some 6), (25, some 7)] | 9 => [(26, some 8)] | 10 => [(21, some 3), (22, some 4), (27, some 9)] | 11 => [(19, some 1), (20, some 2)] | 12 => [(29, some 11), (28, some 10)] | _ => [], rh := fun i => match i with | 1 => [(5, none)] | 3 => [(1, none)] | 6 => [(5, none)] | 8 => [(3, none)] | 9 => [(3, none)] | 11 => [(4, none)] | 12 => [(4, none)] | _ => [], V := fun i g => match i with | 0 => .pointer (some ⟨b13, 1, none⟩) | 1 => .slice p9 ((x4.f).length) c11 | 2 => .int .i64 a2 | 3 => .agg #[.int .i64 a1.s, .int .i64 a1.p] | 4 => .int .i64 a3 | 5 => .pointer (some ⟨b13, 0, none⟩) | 6 => .slice p5 ((x4.b).length) c7 | 7 => .int .i64 x14 | 8 => .pointer (some ⟨eB p5, eO p5 + Int.toNat x14 * Enc.sz Int + 0, none⟩) | 9 => .int .i64 x15 | 10 => .agg #[.bool true, .int .i64 a1.s, .int .i64 a1.p, .int .i64 a3, .int .i64 x15] | 11 => .pointer (some ⟨eB p9, eO p9 + Int.toNat a2 * Enc.sz F + 0, none⟩) | _ => undef, U := fun i g => match i with | 12 => [(4, ((g 12).R 0))] | _ => [], Φ := fun i x => match i with | 12 => OwnC (α := F) 53 p9 c11 (x4.f.set (Int.toNat a2) (⟨true, a1, a3, x15⟩ : F)) (x.R 0) | _ => True } g_mixed [2, 3, 5, 9, 10] [1, 3, 4, 5] (by kernel_rfl) (by kernel_rfl) (by kernel_rfl) ⟨⟨⟨⟨⟨⟨⟨⟨⟨⟨⟨⟨⟨trivial, fun _ => ⟨rfl, rfl⟩⟩, fun _ => ⟨rfl, rfl⟩⟩, fun _ => ⟨rfl, rfl⟩⟩, fun _ => ⟨rfl, rfl⟩⟩, fun _ => ⟨rfl, rfl⟩⟩, fun _ => ⟨rfl, rfl⟩⟩, fun _ => ⟨rfl, rfl⟩⟩, fun _ => ⟨rfl, rfl⟩⟩, fun _ => ⟨rfl, rfl⟩⟩, fun _ => ⟨rfl, rfl⟩⟩, fun _ => ⟨rfl, rfl⟩⟩, fun _ => ⟨rfl, rfl⟩⟩, fun _ => ⟨rfl, rfl⟩⟩ ?_ ?_
  · refine ⟨⟨⟨⟨⟨⟨⟨⟨⟨⟨⟨⟨⟨trivial, ?_⟩, ?_⟩, ?_⟩, ?_⟩, ?_⟩, ?_⟩, ?_⟩, ?_⟩, ?_⟩, ?_⟩, ?_⟩, ?_⟩, ?_⟩
    · exact loc_det rfl rfl (fun _ => rfl) trivial (fun g hΦ s h hs hh => ⟨.none, (stp_fieldAddr (j := 1) Tryd.underlying26 rfl ts24 rfl (sv hs 9 rfl) rfl)⟩)
    · exact loc_det rfl rfl (fun _ => rfl) trivial (fun g hΦ s h hs hh => ⟨.none, (stp_load1 ts24 (sv hs 18 rfl) (Cells.box (id := 5) (hh.get 5 _ rfl) 1 rfl))⟩)
    · exact loc_det rfl rfl (fun _ => rfl) trivial (fun g hΦ s h hs hh => ⟨.none, (stp_move (sv hs 2 rfl))⟩)
    · exact loc_det rfl rfl (fun _ => rfl) trivial (fun g hΦ s h hs hh => ⟨.none, (stp_loadN (us := [_, _]) ts28 (sv hs 5 rfl) (Cells.box (id := 1) (hh.get 1 _ rfl) 2 rfl))⟩)
    · exact loc_det rfl rfl (fun _ => rfl) trivial (fun g hΦ s h hs hh => ⟨.none, (stp_move (sv hs 3 rfl))⟩)
    · exact loc_det rfl rfl (fun _ => rfl) trivial (fun g hΦ s h hs hh => ⟨.none, (stp_fieldAddr (j := 0) Tryd.underlying26 rfl ts23 rfl (sv hs 9 rfl) rfl)⟩)
    · exact loc_det rfl rfl (fun _ => rfl) trivial (fun g hΦ s h hs hh => ⟨.none, (stp_load1 ts23 (sv hs 23 rfl) (Cells.box (id := 5) (hh.get 5 _ rfl) 1 rfl))⟩)
    · exact loc_det rfl rfl (fun _ => rfl) trivial (fun g hΦ s h hs hh => ⟨.none, (stp_move (sv hs 10 rfl))⟩)
    · exact loc_det rfl rfl (fun _ => rfl) trivial (fun g hΦ s h hs hh => ⟨.none, (stp_indexAddr Tryd.underlying23 ts3 (by decide) (sv hs 24 rfl) rfl (sv hs 25 rfl) (Rdb.own (id := 3) (hh.get 3 _ rfl) o8) e15)⟩)
    · exact loc_det rfl rfl (fun _ => rfl) trivial (fun g hΦ s h hs hh => ⟨.none, (stp_load1 ts3 (sv hs 26 rfl) (Cells.el (Rdb.own (id := 3) (hh.get 3 _ rfl) o8) (by decide) e15 0 1 rfl))⟩)
    · exact loc_det rfl rfl (fun _ => rfl) trivial (fun g hΦ s h hs hh => ⟨.none, (stp_build (cs := #[.bool true, .int .i64 a1.s, .int .i64 a1.p, .int .i64 a3, .int .i64 x15]) (sevp_cons rfl (sevp_cons (sv hs 21 rfl) (sevp_cons (sv hs 22 rfl) (sevp_cons (sv hs 27 rfl) sevp_nil)))) (by rfl))⟩)
    · exact loc_det rfl rfl (fun _ => rfl) trivial (fun g hΦ s h hs hh => ⟨.none, (stp_indexAddr Tryd.underlying24 ts53 (by decide) (sv hs 19 rfl) rfl (sv hs 20 rfl) (Rdb.own (id := 4) (hh.get 4 _ rfl) o12) e16)⟩)
    · refine loc_eff rfl rfl (fun g hΦ s h hs hh => ⟨.none, (stpU_storeEl (id := 4) (i := 0) (⟨true, a1, a3, x15⟩ : F) (by decide) ts53 (sv hs 29 rfl) (sv hs 28 rfl) (hh.get 4 _ rfl) o12 e16 rfl rfl rfl rfl)⟩) ?_
      rintro g _ _ ⟨C17, rfl, o17⟩
      exact ⟨⟨[], [], [C17]⟩, o17, .inl rfl, rfl⟩
  · intro g hΦ
    refine kw_gen (ι := Res) ((g 12).R 0) (fun | C17 => OwnC (α := F) 53 p9 c11 (x4.f.set (Int.toNat a2) (⟨true, a1, a3, x15⟩ : F)) C17) (fun | C17 => [(2, .int .i64 a2), (8, .pointer (some ⟨b3, 0, none⟩)), (9, .pointer (some ⟨b13, 0, none⟩)), (10, .int .i64 x14)]) (fun | C17 => [(2, [(b3, .cells #[.slice none 0 0, .slice none 0 0] 26 (0, 0))]), (3, C8), (4, C17), (5, [(b13, .cells #[.slice p5 ((x4.b).length) c7, .slice p9 ((x4.f).length) c11] 26 (0, 0))])]) (hΦ 12 (by decide)) ⟨rfl, rfl, rfl, rfl, trivial⟩ ⟨rfl, rfl, rfl, rfl, trivial⟩ ?_
    rintro C17 o17
    have o17 : OwnC (α := F) 53 p9 c11 (x4.f.set (Int.toNat a2) (⟨true, a1, a3, x15⟩ : F)) C17 := o17
    refine KW.sub (s' := [(2, .int .i64 a2), (8, .pointer (some ⟨b3, 0, none⟩)), (9, .pointer (some ⟨b13, 0, none⟩)), (10, .int .i64 x14)]) (h' := [(2, [(b3, .cells #[.slice none 0 0, .slice none 0 0] 26 (0, 0))]), (3, C8), (4, C17), (5, [(b13, .cells #[.slice p5 ((x4.b).length) c7, .slice p9 ((x4.f).length) c11] 26 (0, 0))])]) ?_ ⟨rfl, rfl, rfl, rfl, trivial⟩ ⟨rfl, rfl, rfl, rfl, trivial⟩
    refine kw_nx ?_
    refine cw_seq ?_
    refine cw_region ?_
    refine ow_det .none (stp_fieldAddr (j := 0) Tryd.underlying26 rfl ts23 rfl rfl rfl) rfl ?_
    refine ow_det .none (stp_load1 ts23 rfl (Cells.box (id := 5) rfl 1 rfl)) rfl ?_
    refine ow_det .none (stp_move rfl) rfl ?_
    refine ow_det .none (stp_move rfl) rfl ?_
    refine ow_det .none (stp_indexAddr Tryd.underlying23 ts3 (by decide) rfl rfl rfl (Rdb.own (id := 3) rfl o8) e15) rfl ?_
    refine ow_eff0 .none (stpU_storeEl (id := 3) (i := 0) a2 (by decide) ts3 rfl rfl rfl o8 e15 rfl rfl rfl rfl) ?_
    rintro _ _ ⟨C18, rfl, o18⟩
    refine ow_nil ?_
    refine kw_nx ?_
    refine cw_seq ?_
    refine cw_region ?_
    refine ow_det .none (stp_loadN (us := [_, _]) ts26 rfl (Cells.box (id := 5) rfl 2 rfl)) rfl ?_
    refine ow_eff0 .none (stpU_store (id := 2) (cs' := [.slice p5 ((x4.b).length) c7, .slice p9 ((x4.f).length) c11]) ts26 rfl rfl rfl rfl rfl rfl rfl) ?_
    rintro _ _ rfl
    refine ow_nil ?_
    refine kw_nx ?_
    refine cw_ret ?_
    have q0 := Option.some.inj H0
    subst q0
    exact kw_ret Tryd.results48 (.cons (.cellN (us := [_, _]) ts26 rfl (Cells.box (id := 2) rfl 2 rfl)) .nil) [(0, C18), (1, C17)] [3, 4] ⟨3, [4], rfl, rfl, 4, [], rfl, rfl, trivial⟩ (by decide) ⟨p5, ((x4.b).length), c7, C18, p9, ((x4.f).length), c11, C17, rfl, rfl, (by simp), o18, (by simp), o17⟩

set_option maxHeartbeats 4000000 in
set_option maxRecDepth 20000 in
theorem c_s_MapPage (fl : Nat) (w : World) (a0 : T) (p0_0 : Option Addr) (n0_0 c0_0 : Nat) (p0_1 : Option Addr) (n0_1 c0_1 : Nat) (a1 : K) (a2 : Int) (a3 : Int) (hn0_0 : n0_0 = (a0.b).length) (hr0_0 : RO w (hkeys []) (RdL p0_0 c0_0 a0.b)) (hn0_1 : n0_1 = (a0.f).length) (hr0_1 : RO w (hkeys []) (RdL p0_1 c0_1 a0.f)) (r : T × Bool) (H0 : s_MapPage fl a0 a1 a2 a3 = some r) :
    Ct Tryd.prog 14 [.agg #[.slice p0_0 n0_0 c0_0, .slice p0_1 n0_1 c0_1], .agg #[.int .i64 a1.s, .int .i64 a1.p], .int .i64 a2, .int .i64 a3] w [] (fun rv h' => ∃ (x0 : Option Addr) (y0 z0 : Nat) (C0 : Res) (x1 : Option Addr) (y1 z1 : Nat) (C1 : Res), rv = .tuple #[.agg #[.slice x0 y0 z0, .slice x1 y1 z1], .bool r.2] ∧ h' = [(0, C0), (1, C1)] ∧ y0 = (r.1.b).length ∧ OwnC 3 x0 z0 r.1.b C0 ∧ y1 = (r.1.f).length ∧ OwnC 53 x1 z1 r.1.f C1) := by
  obtain rfl := hn0_0
  obtain rfl := hn0_1
  unfold s_MapPage at H0
  refine ct_of_cw Tryd.func14 rfl Tryd.ntmps14 rfl (Sat.refl _ _) ?_
  refine cw_seq ?_
  refine cw_region ?_
  refine ow_eff .none (stpU_box 0 rfl rfl) rfl ?_
  rintro _ _ ⟨b1, rfl, rfl⟩
  refine ow_eff .none (stpU_box 1 rfl rfl) rfl ?_
  rintro _ _ ⟨b2, rfl, rfl⟩
  refine ow_eff .none (stpU_alloc 2 tz26 rfl) rfl ?_
  rintro _ _ ⟨b3, rfl, rfl⟩
  refine ow_det .none (stp_assign rfl) rfl ?_
  refine ow_nil ?_
  refine kw_nx ?_
  refine cw_seq ?_
  refine cw_seq ?_
  refine cw_region ?_
  refine ow_det .none (stp_loadN (us := [_, _]) ts26 rfl (Cells.box (id := 0) rfl 2 rfl)) rfl ?_
  obtain ⟨x4, e4, H0⟩ := bind_some H0
  refine ow_eff .none (stpU_call (fun i => 3 + i) cf44 (fun w hw => c_s_TableValid fl w a0 p0_0 ((a0.b).length) c0_0 p0_1 ((a0.f).length) c0_1 rfl (RO.pass hr0_0 hw) rfl (RO.pass hr0_1 hw) x4 e4) (sevs_cons rfl sevs_nil)) rfl ?_
  rintro _ _ ⟨_, ⟨rfl, rfl⟩, rfl⟩
  refine ow_det .none (stp_not rfl) rfl ?_
  refine ow_det .none (stp_move rfl) rfl ?_
  obtain ⟨y5, ey5, H0⟩ := bind_some H0
  refine ow_cutY 4 19 y5 ?_ ?_
  · rcases Bool.eq_false_or_eq_true (!x4) with hy5 | hy5
    · have ey5 := cond_t ey5 hy5
      refine ow_off (.some rfl hy5) rfl ?_
      refine ow_off (.some rfl hy5) rfl ?_
      refine ow_off (.some rfl hy5) rfl ?_
      refine ow_det .none (stp_pick_t rfl hy5 rfl) rfl ?_
      obtain rfl := Option.some.inj ey5
      exact ow_nil (kw_jy (.top rfl (.cons rfl (.cons rfl (.cons rfl (.cons rfl (.refl _)))))) (.refl _))
    · have ey5 := cond_f ey5 hy5
      refine ow_det (.some rfl hy5) (stp_loadN (us := [_, _]) ts28 rfl (Cells.box (id := 1) rfl 2 rfl)) rfl ?_
      obtain ⟨x6, e6, ey5⟩ := bind_some ey5
      refine ow_eff (.some rfl hy5) (stpU_call (fun i => 3 + i) cf45 (fun w hw => c_s_KeyValid fl w a1 x6 e6) (sevs_cons rfl sevs_nil)) rfl ?_
      rintro _ _ ⟨_, ⟨rfl, rfl⟩, rfl⟩
      refine ow_det (.some rfl hy5) (stp_not rfl) rfl ?_
      refine ow_det .none (stp_pick_f rfl hy5 rfl) rfl ?_
      obtain rfl := Option.some.inj ey5
      exact ow_nil (kw_jy (.top rfl (.cons rfl (.cons rfl (.cons rfl (.cons rfl (.refl _)))))) (.refl _))
  · refine ow_det .none (stp_move rfl) rfl ?_
    obtain ⟨y7, ey7, H0⟩ := bind_some H0
    refine ow_cutY 4 24 y7 ?_ ?_
    · rcases Bool.eq_false_or_eq_true y5 with hy7 | hy7
      · have ey7 := cond_t ey7 hy7
        refine ow_off (.some rfl hy7) rfl ?_
        refine ow_off (.some rfl hy7) rfl ?_
        refine ow_off (.some rfl hy7) rfl ?_
        refine ow_det .none (stp_pick_t rfl hy7 rfl) rfl ?_
        obtain rfl := Option.some.inj ey7
        exact ow_nil (kw_jy (.top rfl (.cons rfl (.cons rfl (.cons rfl (.cons rfl (.refl _)))))) (.refl _))
      · have ey7 := cond_f ey7 hy7
        refine ow_det (.some rfl hy7) (stp_move rfl) rfl ?_
        obtain ⟨x8, e8, ey7⟩ := bind_some ey7
        refine ow_eff (.some rfl hy7) (stpU_call (fun i => 3 + i) cf46 (fun w hw => c_s_RightsValid fl w a3 x8 e8) (sevs_cons rfl sevs_nil)) rfl ?_
        rintro _ _ ⟨_, ⟨rfl, rfl⟩, rfl⟩
        refine ow_det (.some rfl hy7) (stp_not rfl) rfl ?_
        refine ow_det .none (stp_pick_f rfl hy7 rfl) rfl ?_
        obtain rfl := Option.some.inj ey7
        exact ow_nil (kw_jy (.top rfl (.cons rfl (.cons rfl (.cons rfl (.cons rfl (.refl _)))))) (.refl _))
    · refine ow_det .none (stp_move rfl) rfl ?_
      obtain ⟨y9, ey9, H0⟩ := bind_some H0
      refine ow_cutY 3 28 y9 ?_ ?_
      · rcases Bool.eq_false_or_eq_true y7 with hy9 | hy9
        · have ey9 := cond_t ey9 hy9
          refine ow_off (.some rfl hy9) rfl ?_
          refine ow_off (.some rfl hy9) rfl ?_
          refine ow_det .none (stp_pick_t rfl hy9 rfl) rfl ?_
          obtain rfl := Option.some.inj ey9
          exact ow_nil (kw_jy (.top rfl (.cons rfl (.cons rfl (.cons rfl (.refl _))))) (.refl _))
        · have ey9 := cond_f ey9 hy9
          refine ow_det (.some rfl hy9) (stp_move rfl) rfl ?_
          refine ow_det (.some rfl hy9) (stp_lss rfl rfl) rfl ?_
          refine ow_det .none (stp_pick_f rfl hy9 rfl) rfl ?_
          obtain rfl := Option.some.inj ey9
          exact ow_nil (kw_jy (.top rfl (.cons rfl (.cons rfl (.cons rfl (.refl _))))) (.refl _))
      · refine ow_det .none (stp_move rfl) rfl ?_
        obtain ⟨y10, ey10, H0⟩ := bind_some H0
        refine ow_cutY 6 35 y10 ?_ ?_
        · rcases Bool.eq_false_or_eq_true y9 with hy10 | hy10
          · have ey10 := cond_t ey10 hy10
            refine ow_off (.some rfl hy10) rfl ?_
            refine ow_off (.some rfl hy10) rfl ?_
            refine ow_off (.some rfl hy10) rfl ?_
            refine ow_off (.some rfl hy10) rfl ?_
            refine ow_off (.some rfl hy10) rfl ?_
            refine ow_det .none (stp_pick_t rfl hy10 rfl) rfl ?_
            obtain rfl := Option.some.inj ey10
            exact ow_nil (kw_jy (.top rfl (.cons rfl (.cons rfl (.cons rfl (.cons rfl (.cons rfl (.cons rfl (.refl _)))))))) (.refl _))
          · have ey10 := cond_f ey10 hy10
            refine ow_det (.some rfl hy10) (stp_move rfl) rfl ?_
            refine ow_det (.some rfl hy10) (stp_fieldAddr (j := 1) Tryd.underlying26 rfl ts24 rfl rfl rfl) rfl ?_
            refine ow_det (.some rfl hy10) (stp_load1 ts24 rfl (Cells.box (id := 0) rfl 1 rfl)) rfl ?_
            refine ow_det (.some rfl hy10) (stp_len Tryd.underlying24 rfl) rfl ?_
            refine ow_det (.some rfl hy10) (stp_geq rfl rfl) rfl ?_
            refine ow_det .none (stp_pick_f rfl hy10 rfl) rfl ?_
            obtain rfl := Option.some.inj ey10
            exact ow_nil (kw_jy (.top rfl (.cons rfl (.cons rfl (.cons rfl (.cons rfl (.cons rfl (.cons rfl (.refl _)))))))) (.refl _))
        · refine ow_det .none (stp_move rfl) rfl ?_
          obtain ⟨y11, ey11, H0⟩ := bind_some H0
          refine ow_cutY 7 43 y11 ?_ ?_
          · rcases Bool.eq_false_or_eq_true y10 with hy11 | hy11
            · have ey11 := cond_t ey11 hy11
              refine ow_off (.some rfl hy11) rfl ?_
              refine ow_off (.some rfl hy11) rfl ?_
              refine ow_off (.some rfl hy11) rfl ?_
              refine ow_off (.some rfl hy11) rfl ?_
              refine ow_off (.some rfl hy11) rfl ?_
              refine ow_off (.some rfl hy11) rfl ?_
              refine ow_det .none (stp_pick_t rfl hy11 rfl) rfl ?_
              obtain rfl := Option.some.inj ey11
              exact ow_nil (kw_jy (.top rfl (.cons rfl (.cons rfl (.cons rfl (.cons rfl (.cons rfl (.cons rfl (.cons rfl (.refl _))))))))) (.refl _))
            · have ey11 := cond_f ey11 hy11
              refine ow_det (.some rfl hy11) (stp_fieldAddr (j := 1) Tryd.underlying26 rfl ts24 rfl rfl rfl) rfl ?_
              refine ow_det (.some rfl hy11) (stp_load1 ts24 rfl (Cells.box (id := 0) rfl 1 rfl)) rfl ?_
              refine ow_det (.some rfl hy11) (stp_move rfl) rfl ?_
              obtain ⟨x12, e12, ey11⟩ := bind_some ey11
              refine ow_det (.some rfl hy11) (stp_indexAddr Tryd.underlying24 ts53 (by decide) rfl rfl rfl (Rdb.ro hr0_1) e12) rfl ?_
              refine ow_det (.some rfl hy11) (stp_fieldAddr (j := 0) Tryd.underlying53 rfl ts4 rfl rfl rfl) rfl ?_
              refine ow_det (.some rfl hy11) (stp_load1 ts4 rfl (Cells.el (Rdb.ro hr0_1) (by decide) e12 0 1 rfl)) rfl ?_
              refine ow_det .none (stp_pick_f rfl hy11 rfl) rfl ?_
              obtain rfl := Option.some.inj ey11
              exact ow_nil (kw_jy (.top rfl (.cons rfl (.cons rfl (.cons rfl (.cons rfl (.cons rfl (.cons rfl (.cons rfl (.refl _))))))))) (.refl _))
          · refine ow_nil ?_
            refine kw_nx ?_
            refine cw_cond rfl (fun h13 => ?_) (fun h13 => ?_)
            · have H0 := cond_t H0 h13
              refine cw_seq ?_
              refine cw_region ?_
              refine ow_det .none (stp_build (cs := #[.slice none 0 0, .slice none 0 0]) sevp_nil (by rfl)) rfl ?_
              refine ow_eff0 .none (stpU_store (id := 2) (cs' := [.slice none 0 0, .slice none 0 0]) ts26 rfl rfl rfl rfl rfl rfl rfl) ?_
              rintro _ _ rfl
              refine ow_det .none (stp_assign rfl) rfl ?_
              refine ow_nil ?_
              refine kw_nx ?_
              refine cw_ret ?_
              refine kw_nx_ret ?_
              refine kw_addNil 3 ?_
              refine kw_addNil 4 ?_
              have q0 := Option.some.inj H0
              subst q0
              exact kw_ret Tryd.results14 (.cons (.cellN (us := [_, _]) ts26 rfl (Cells.box (id := 2) rfl 2 rfl)) (.cons (.tmp rfl) .nil)) [(0, []), (1, [])] [3, 4] ⟨3, [4], rfl, rfl, 4, [], rfl, rfl, trivial⟩ (by decide) ⟨none, 0, 0, [], none, 0, 0, [], rfl, rfl, rfl, (OwnC.nil _ _), rfl, (OwnC.nil _ _)⟩
            · have H0 := cond_f H0 h13
              refine cw_skip ?_
              refine kw_nx ?_
              refine cw_seq ?_
              refine cw_region ?_
              refine ow_det .none (stp_loadN (us := [_, _]) ts26 rfl (Cells.box (id := 0) rfl 2 rfl)) rfl ?_
              refine ow_det .none (stp_loadN (us := [_, _]) ts28 rfl (Cells.box (id := 1) rfl 2 rfl)) rfl ?_
              obtain ⟨x14, e14, H0⟩ := bind_some H0
              refine ow_eff .none (stpU_call (fun i => 5 + i) cf47 (fun w hw => c_s_l3Find fl w a0 p0_0 ((a0.b).length) c0_0 p0_1 ((a0.f).length) c0_1 a1 rfl (RO.pass hr0_0 hw) rfl (RO.pass hr0_1 hw) x14 e14) (sevs_cons rfl (sevs_cons rfl sevs_nil))) rfl ?_
              rintro _ _ ⟨_, ⟨rfl, rfl⟩, rfl⟩
              refine ow_det .none (stp_move rfl) rfl ?_
              refine ow_det .none (stp_extract rfl rfl) rfl ?_
              refine ow_det .none (stp_extract rfl rfl) rfl ?_
              refine ow_det .none (stp_assign rfl) rfl ?_
              refine ow_det .none (stp_assign rfl) rfl ?_
              refine ow_nil ?_
              refine kw_nx ?_
              refine cw_seq ?_
              refine cw_seq ?_
              refine cw_region ?_
              refine ow_det .none (stp_move rfl) rfl ?_
              refine ow_det .none (stp_geq rfl rfl) rfl ?_
              refine ow_nil ?_
              refine kw_nx ?_
              refine cw_cond rfl (fun h15 => ?_) (fun h15 => ?_)
              · have H0 := cond_t H0 h15
                refine cw_seq ?_
                refine cw_region ?_
                refine ow_det .none (stp_build (cs := #[.slice none 0 0, .slice none 0 0]) sevp_nil (by rfl)) rfl ?_
                refine ow_eff0 .none (stpU_store (id := 2) (cs' := [.slice none 0 0, .slice none 0 0]) ts26 rfl rfl rfl rfl rfl rfl rfl) ?_
                rintro _ _ rfl
                refine ow_det .none (stp_assign rfl) rfl ?_
                refine ow_nil ?_
                refine kw_nx ?_
                refine cw_ret ?_
                refine kw_nx_ret ?_
                refine kw_addNil 5 ?_
                refine kw_addNil 6 ?_
                have q0 := Option.some.inj H0
                subst q0
                exact kw_ret Tryd.results14 (.cons (.cellN (us := [_, _]) ts26 rfl (Cells.box (id := 2) rfl 2 rfl)) (.cons (.tmp rfl) .nil)) [(0, []), (1, [])] [5, 6] ⟨5, [6], rfl, rfl, 6, [], rfl, rfl, trivial⟩ (by decide) ⟨none, 0, 0, [], none, 0, 0, [], rfl, rfl, rfl, (OwnC.nil _ _), rfl, (OwnC.nil _ _)⟩
              · have H0 := cond_f H0 h15
                refine cw_skip ?_
                refine kw_nx ?_
                refine cw_seq ?_
                refine cw_region ?_
                refine ow_det .none (stp_loadN (us := [_, _]) ts26 rfl (Cells.box (id := 0) rfl 2 rfl)) rfl ?_
                refine ow_det .none (stp_loadN (us := [_, _]) ts28 rfl (Cells.box (id := 1) rfl 2 rfl)) rfl ?_
                refine ow_det .none (stp_move rfl) rfl ?_
                refine ow_det .none (stp_move rfl) rfl ?_
                obtain ⟨x16, e16, H0⟩ := bind_some H0
                refine ow_eff .none (stpU_call (fun i => 7 + i) cf48 (fun w hw => c_s_l3Map fl w a0 p0_0 ((a0.b).length) c0_0 p0_1 ((a0.f).length) c0_1 a1 a2 a3 rfl (RO.pass hr0_0 hw) rfl (RO.pass hr0_1 hw) x16 e16) (sevs_cons rfl (sevs_cons rfl (sevs_cons rfl (sevs_cons rfl sevs_nil))))) rfl ?_
                rintro _ _ ⟨_, ⟨p17, n18, c19, C20, p21, n22, c23, C24, rfl, rfl, hnn18, o20, hnn22, o24⟩, rfl⟩
                obtain rfl := hnn18
                obtain rfl := hnn22
                refine ow_eff0 .none (stpU_store (id := 2) (cs' := [.slice p17 ((x16.b).length) c19, .slice p21 ((x16.f).length) c23]) ts26 rfl rfl rfl rfl rfl rfl rfl) ?_
                rintro _ _ rfl
                refine ow_det .none (stp_assign rfl) rfl ?_
                refine ow_nil ?_
                refine kw_nx ?_
                refine cw_ret ?_
                have q0 := Option.some.inj H0
                subst q0
                exact kw_ret Tryd.results14 (.cons (.cellN (us := [_, _]) ts26 rfl (Cells.box (id := 2) rfl 2 rfl)) (.cons (.tmp rfl) .nil)) [(0, C20), (1, C24)] [7, 8] ⟨7, [8], rfl, rfl, 8, [], rfl, rfl, trivial⟩ (by decide) ⟨p17, ((x16.b).length), c19, C20, p21, ((x16.f).length), c23, C24, rfl, rfl, rfl, o20, rfl, o24⟩
end Go.Proofs.YtkocamaoeojfhaaDoor
