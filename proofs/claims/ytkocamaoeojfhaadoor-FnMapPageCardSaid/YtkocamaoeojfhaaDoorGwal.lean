/- The walks: functions of the program return what their pure functions say. Printed by a program (gen.py). -/
import Derived.Test.YtkocamaoeojfhaaDoorGp
import Derived.Test.YtkocamaoeojfhaaDoorGt
import Derived.Test.YtkocamaoeojfhaaDoorMan
import Derived.Test.YtkocamaoeojfhaaDoorGwab
import Derived.Test.YtkocamaoeojfhaaDoorGwad
import Derived.Test.YtkocamaoeojfhaaDoorGwak
set_option linter.unusedSimpArgs false
set_option linter.unusedVariables false
set_option linter.unusedSectionVars false
namespace Go.Proofs.YtkocamaoeojfhaaDoor
open Go.RowKit
set_option maxHeartbeats 4000000 in
set_option maxRecDepth 20000 in
theorem c_i_Table_link (fl : Nat) (w : World) (a0 : T) (p0_0 : Option Addr) (n0_0 c0_0 : Nat) (C0_0 : Res) (p0_1 : Option Addr) (n0_1 c0_1 : Nat) (C0_1 : Res) (a1 : K) (a2 : Int) (a3 : Int) (hn0_0 : n0_0 = (a0.b).length) (ho0_0 : OwnC (α := Int) 3 p0_0 c0_0 a0.b C0_0) (hn0_1 : n0_1 = (a0.f).length) (ho0_1 : OwnC (α := F) 53 p0_1 c0_1 a0.f C0_1) (hM : Sat w (hkeys [(0, C0_0), (1, C0_1)]) w [(0, C0_0), (1, C0_1)]) (r : (List Int) × (List F)) (H0 : i_Table_link fl a0 a1 a2 a3 = some r) :
    Ct Tryd.prog 43 [.agg #[.slice p0_0 n0_0 c0_0, .slice p0_1 n0_1 c0_1], .agg #[.int .i64 a1.s, .int .i64 a1.p], .int .i64 a2, .int .i64 a3] w [(0, C0_0), (1, C0_1)] (fun rv h' => ∃ (D0 : Res) (D1 : Res), rv = .tuple #[] ∧ h' = [(0, D0), (1, D1)] ∧ n0_0 = (r.1).length ∧ OwnC (α := Int) 3 p0_0 c0_0 r.1 D0 ∧ n0_1 = (r.2).length ∧ OwnC (α := F) 53 p0_1 c0_1 r.2 D1) := by
  obtain rfl := hn0_0
  obtain rfl := hn0_1
  unfold i_Table_link at H0
  refine ct_of_cw Tryd.func43 rfl Tryd.ntmps43 rfl hM ?_
  refine cw_seq ?_
  refine cw_region ?_
  refine ow_eff .none (stpU_box 2 rfl rfl) rfl ?_
  rintro _ _ ⟨b1, rfl, rfl⟩
  refine ow_eff .none (stpU_box 3 rfl rfl) rfl ?_
  rintro _ _ ⟨b2, rfl, rfl⟩
  refine ow_nil ?_
  refine kw_nx ?_
  refine cw_seq ?_
  refine cw_region ?_
  refine ow_det .none (stp_loadN (us := [_, _]) ts28 rfl (Cells.box (id := 3) rfl 2 rfl)) rfl ?_
  refine ow_det .none (stp_fieldAddr (j := 0) Tryd.underlying26 rfl ts23 rfl rfl rfl) rfl ?_
  refine ow_det .none (stp_load1 ts23 rfl (Cells.box (id := 2) rfl 1 rfl)) rfl ?_
  refine ow_det .none (stp_len Tryd.underlying23 rfl) rfl ?_
  obtain ⟨x3, e3, H0⟩ := bind_some H0
  refine ow_eff .none (stpU_call (fun i => 4 + i) cf52 (fun w hw => c_i_hash fl w a1 ((a0.b).length : Int) x3 e3) (sevs_cons rfl (sevs_cons rfl sevs_nil))) rfl ?_
  rintro _ _ ⟨_, ⟨rfl, rfl⟩, rfl⟩
  refine ow_det .none (stp_assign rfl) rfl ?_
  refine ow_nil ?_
  refine kw_nx ?_
  refine cw_seq ?_
  obtain ⟨x4, e4, H0⟩ := bind_some H0
  obtain ⟨x5, e5, H0⟩ := bind_some H0
  refine region_drawn { dst := fun i => match i with | 0 => some 14 | 1 => some 15 | 2 => some 16 | 3 => some 17 | 4 => some 18 | 5 => some 19 | 6 => some 20 | 7 => some 21 | 8 => some 22 | 9 => some 23 | 10 => some 24 | 11 => some 25 | _ => none, pre := fun i => match i with | 1 => [0] | 6 => [5] | 8 => [5, 6, 7] | 9 => [5, 6, 7, 8] | 10 => [3, 4, 5, 6, 7, 8, 9] | 11 => [0, 1, 2, 3, 4, 5, 6, 7, 8, 9, 10] | 12 => [0, 1, 2, 3, 4, 5, 6, 7, 8, 9, 10, 11] | _ => [], ids := fun i => match i with | 12 => [1] | _ => [], rs := fun i => match i with | 0 => [(4, none)] | 1 => [(14, some 0)] | 2 => [(2, none)] | 3 => [(5, none)] | 4 => [(3, none)] | 5 => [(4, none)] | 6 => [(19, some 5)] | 7 => [(8, none)] | 8 => [(20, some 6), (21, some 7)] | 9 => [(22, some 8)] | 10 => [(17, some 3), (18, some 4), (23, some 9)] | 11 => [(15, some 1), (16, some 2)] | 12 => [(25, some 11), (24, some 10)] | _ => [], rh := fun i => match i with | 1 => [(2, none)] | 3 => [(3, none)] | 6 => [(2, none)] | 8 => [(0, none)] | 9 => [(0, none)] | 11 => [(1, none)] | 12 => [(1, none)] | _ => [], V := fun i g => match i with | 0 => .pointer (some ⟨b1, 1, none⟩) | 1 => .slice p0_1 ((a0.f).length) c0_1 | 2 => .int .i64 a2 | 3 => .agg #[.int .i64 a1.s, .int .i64 a1.p] | 4 => .int .i64 a3 | 5 => .pointer (some ⟨b1, 0, none⟩) | 6 => .slice p0_0 ((a0.b).length) c0_0 | 7 => .int .i64 x3 | 8 => .pointer (some ⟨eB p0_0, eO p0_0 + Int.toNat x3 * Enc.sz Int + 0, none⟩) | 9 => .int .i64 x4 | 10 => .agg #[.bool true, .int .i64 a1.s, .int .i64 a1.p, .int .i64 a3, .int .i64 x4] | 11 => .pointer (some ⟨eB p0_1, eO p0_1 + Int.toNat a2 * Enc.sz F + 0, none⟩) | _ => undef, U := fun i g => match i with | 12 => [(1, ((g 12).R 0))] | _ => [], Φ := fun i x => match i with | 12 => OwnC (α := F) 53 p0_1 c0_1 (a0.f.set (Int.toNat a2) (⟨true, a1, a3, x4⟩ : F)) (x.R 0) | _ => True } g_mixed [2, 3, 4, 5, 8] [0, 1, 2, 3] (by kernel_rfl) (by kernel_rfl) (by kernel_rfl) ⟨⟨⟨⟨⟨⟨⟨⟨⟨⟨⟨⟨⟨trivial, fun _ => ⟨rfl, rfl⟩⟩, fun _ => ⟨rfl, rfl⟩⟩, fun _ => ⟨rfl, rfl⟩⟩, fun _ => ⟨rfl, rfl⟩⟩, fun _ => ⟨rfl, rfl⟩⟩, fun _ => ⟨rfl, rfl⟩⟩, fun _ => ⟨rfl, rfl⟩⟩, fun _ => ⟨rfl, rfl⟩⟩, fun _ => ⟨rfl, rfl⟩⟩, fun _ => ⟨rfl, rfl⟩⟩, fun _ => ⟨rfl, rfl⟩⟩, fun _ => ⟨rfl, rfl⟩⟩, fun _ => ⟨rfl, rfl⟩⟩ ?_ ?_
  · refine ⟨⟨⟨⟨⟨⟨⟨⟨⟨⟨⟨⟨⟨trivial, ?_⟩, ?_⟩, ?_⟩, ?_⟩, ?_⟩, ?_⟩, ?_⟩, ?_⟩, ?_⟩, ?_⟩, ?_⟩, ?_⟩, ?_⟩
    · exact loc_det rfl rfl (fun _ => rfl) trivial (fun g hΦ s h hs hh => ⟨.none, (stp_fieldAddr (j := 1) Tryd.underlying26 rfl ts24 rfl (sv hs 4 rfl) rfl)⟩)
    · exact loc_det rfl rfl (fun _ => rfl) trivial (fun g hΦ s h hs hh => ⟨.none, (stp_load1 ts24 (sv hs 14 rfl) (Cells.box (id := 2) (hh.get 2 _ rfl) 1 rfl))⟩)
    · exact loc_det rfl rfl (fun _ => rfl) trivial (fun g hΦ s h hs hh => ⟨.none, (stp_move (sv hs 2 rfl))⟩)
    · exact loc_det rfl rfl (fun _ => rfl) trivial (fun g hΦ s h hs hh => ⟨.none, (stp_loadN (us := [_, _]) ts28 (sv hs 5 rfl) (Cells.box (id := 3) (hh.get 3 _ rfl) 2 rfl))⟩)
    · exact loc_det rfl rfl (fun _ => rfl) trivial (fun g hΦ s h hs hh => ⟨.none, (stp_move (sv hs 3 rfl))⟩)
    · exact loc_det rfl rfl (fun _ => rfl) trivial (fun g hΦ s h hs hh => ⟨.none, (stp_fieldAddr (j := 0) Tryd.underlying26 rfl ts23 rfl (sv hs 4 rfl) rfl)⟩)
    · exact loc_det rfl rfl (fun _ => rfl) trivial (fun g hΦ s h hs hh => ⟨.none, (stp_load1 ts23 (sv hs 19 rfl) (Cells.box (id := 2) (hh.get 2 _ rfl) 1 rfl))⟩)
    · exact loc_det rfl rfl (fun _ => rfl) trivial (fun g hΦ s h hs hh => ⟨.none, (stp_move (sv hs 8 rfl))⟩)
    · exact loc_det rfl rfl (fun _ => rfl) trivial (fun g hΦ s h hs hh => ⟨.none, (stp_indexAddr Tryd.underlying23 ts3 (by decide) (sv hs 20 rfl) rfl (sv hs 21 rfl) (Rdb.own (id := 0) (hh.get 0 _ rfl) ho0_0) e4)⟩)
    · exact loc_det rfl rfl (fun _ => rfl) trivial (fun g hΦ s h hs hh => ⟨.none, (stp_load1 ts3 (sv hs 22 rfl) (Cells.el (Rdb.own (id := 0) (hh.get 0 _ rfl) ho0_0) (by decide) e4 0 1 rfl))⟩)
    · exact loc_det rfl rfl (fun _ => rfl) trivial (fun g hΦ s h hs hh => ⟨.none, (stp_build (cs := #[.bool true, .int .i64 a1.s, .int .i64 a1.p, .int .i64 a3, .int .i64 x4]) (sevp_cons rfl (sevp_cons (sv hs 17 rfl) (sevp_cons (sv hs 18 rfl) (sevp_cons (sv hs 23 rfl) sevp_nil)))) (by rfl))⟩)
    · exact loc_det rfl rfl (fun _ => rfl) trivial (fun g hΦ s h hs hh => ⟨.none, (stp_indexAddr Tryd.underlying24 ts53 (by decide) (sv hs 15 rfl) rfl (sv hs 16 rfl) (Rdb.own (id := 1) (hh.get 1 _ rfl) ho0_1) e5)⟩)
    · refine loc_eff rfl rfl (fun g hΦ s h hs hh => ⟨.none, (stpU_storeEl (id := 1) (i := 0) (⟨true, a1, a3, x4⟩ : F) (by decide) ts53 (sv hs 25 rfl) (sv hs 24 rfl) (hh.get 1 _ rfl) ho0_1 e5 rfl rfl rfl rfl)⟩) ?_
      rintro g _ _ ⟨C6, rfl, o6⟩
      exact ⟨⟨[], [], [C6]⟩, o6, .inl rfl, rfl⟩
  · intro g hΦ
    refine kw_gen (ι := Res) ((g 12).R 0) (fun | C6 => OwnC (α := F) 53 p0_1 c0_1 (a0.f.set (Int.toNat a2) (⟨true, a1, a3, x4⟩ : F)) C6) (fun | C6 => [(2, .int .i64 a2), (4, .pointer (some ⟨b1, 0, none⟩)), (8, .int .i64 x3)]) (fun | C6 => [(0, C0_0), (1, C6), (2, [(b1, .cells #[.slice p0_0 ((a0.b).length) c0_0, .slice p0_1 ((a0.f).length) c0_1] 26 (0, 0))])]) (hΦ 12 (by decide)) ⟨rfl, rfl, rfl, trivial⟩ ⟨rfl, rfl, rfl, trivial⟩ ?_
    rintro C6 o6
    have o6 : OwnC (α := F) 53 p0_1 c0_1 (a0.f.set (Int.toNat a2) (⟨true, a1, a3, x4⟩ : F)) C6 := o6
    refine KW.sub (s' := [(2, .int .i64 a2), (4, .pointer (some ⟨b1, 0, none⟩)), (8, .int .i64 x3)]) (h' := [(0, C0_0), (1, C6), (2, [(b1, .cells #[.slice p0_0 ((a0.b).length) c0_0, .slice p0_1 ((a0.f).length) c0_1] 26 (0, 0))])]) ?_ ⟨rfl, rfl, rfl, trivial⟩ ⟨rfl, rfl, rfl, trivial⟩
    refine kw_nx ?_
    refine cw_region ?_
    refine ow_det .none (stp_fieldAddr (j := 0) Tryd.underlying26 rfl ts23 rfl rfl rfl) rfl ?_
    refine ow_det .none (stp_load1 ts23 rfl (Cells.box (id := 2) rfl 1 rfl)) rfl ?_
    refine ow_det .none (stp_move rfl) rfl ?_
    refine ow_det .none (stp_move rfl) rfl ?_
    refine ow_det .none (stp_indexAddr Tryd.underlying23 ts3 (by decide) rfl rfl rfl (Rdb.own (id := 0) rfl ho0_0) e4) rfl ?_
    refine ow_eff0 .none (stpU_storeEl (id := 0) (i := 0) a2 (by decide) ts3 rfl rfl rfl ho0_0 e4 rfl rfl rfl rfl) ?_
    rintro _ _ ⟨C7, rfl, o7⟩
    refine ow_nil ?_
    have q0 := Option.some.inj H0
    subst q0
    exact kw_end Tryd.results43 .nil [(0, C7), (1, C6)] [0, 1] ⟨0, [1], rfl, rfl, 1, [], rfl, rfl, trivial⟩ (by decide) ⟨C7, C6, rfl, rfl, (by simp), o7, (by simp), o6⟩

set_option maxHeartbeats 4000000 in
set_option maxRecDepth 20000 in
theorem c_i_MapPage (fl : Nat) (w : World) (a0 : T) (p0_0 : Option Addr) (n0_0 c0_0 : Nat) (p0_1 : Option Addr) (n0_1 c0_1 : Nat) (a1 : K) (a2 : Int) (a3 : Int) (hn0_0 : n0_0 = (a0.b).length) (hr0_0 : RO w (hkeys []) (RdL p0_0 c0_0 a0.b)) (hn0_1 : n0_1 = (a0.f).length) (hr0_1 : RO w (hkeys []) (RdL p0_1 c0_1 a0.f)) (hg : RO w (hkeys []) (fun w' => w'.rangeAt 0 0 [.bool false, .int .i64 0, .int .i64 0, .int .i64 0, .int .i64 (-1)])) (r : T × Bool) (H0 : i_MapPage fl a0 a1 a2 a3 = some r) :
    Ct Tryd.prog 13 [.agg #[.slice p0_0 n0_0 c0_0, .slice p0_1 n0_1 c0_1], .agg #[.int .i64 a1.s, .int .i64 a1.p], .int .i64 a2, .int .i64 a3] w [] (fun rv h' => ∃ (x0 : Option Addr) (y0 z0 : Nat) (C0 : Res) (x1 : Option Addr) (y1 z1 : Nat) (C1 : Res), rv = .tuple #[.agg #[.slice x0 y0 z0, .slice x1 y1 z1], .bool r.2] ∧ h' = [(0, C0), (1, C1)] ∧ y0 = (r.1.b).length ∧ OwnC 3 x0 z0 r.1.b C0 ∧ y1 = (r.1.f).length ∧ OwnC 53 x1 z1 r.1.f C1) := by
  obtain rfl := hn0_0
  obtain rfl := hn0_1
  unfold i_MapPage at H0
  refine ct_of_cw Tryd.func13 rfl Tryd.ntmps13 rfl (Sat.refl _ _) ?_
  refine cw_seq ?_
  refine cw_region ?_
  refine ow_eff .none (stpU_box 0 rfl rfl) rfl ?_
  rintro _ _ ⟨b1, rfl, rfl⟩
  refine ow_eff .none (stpU_box 1 rfl rfl) rfl ?_
  rintro _ _ ⟨b2, rfl, rfl⟩
  refine ow_eff .none (stpU_alloc 2 tz26 rfl) rfl ?_
  rintro _ _ ⟨b3, rfl, rfl⟩
  refine ow_det .none (stp_assign rfl) rfl ?_
  refine ow_nil ?_
  refine kw_nx ?_
  refine cw_seq ?_
  refine cw_seq ?_
  refine cw_region ?_
  refine ow_det .none (stp_loadN (us := [_, _]) ts26 rfl (Cells.box (id := 0) rfl 2 rfl)) rfl ?_
  obtain ⟨x4, e4, H0⟩ := bind_some H0
  refine ow_eff .none (stpU_call (fun i => 3 + i) cf18 (fun w hw => c_i_TableValid fl w a0 p0_0 ((a0.b).length) c0_0 p0_1 ((a0.f).length) c0_1 rfl (RO.pass hr0_0 hw) rfl (RO.pass hr0_1 hw) (RO.pass hg hw) x4 e4) (sevs_cons rfl sevs_nil)) rfl ?_
  rintro _ _ ⟨_, ⟨rfl, rfl⟩, rfl⟩
  refine ow_det .none (stp_not rfl) rfl ?_
  refine ow_det .none (stp_move rfl) rfl ?_
  obtain ⟨y5, ey5, H0⟩ := bind_some H0
  refine ow_cutY 4 18 y5 ?_ ?_
  · rcases Bool.eq_false_or_eq_true (!x4) with hy5 | hy5
    · have ey5 := cond_t ey5 hy5
      refine ow_off (.some rfl hy5) rfl ?_
      refine ow_off (.some rfl hy5) rfl ?_
      refine ow_off (.some rfl hy5) rfl ?_
      refine ow_det .none (stp_pick_t rfl hy5 rfl) rfl ?_
      obtain rfl := Option.some.inj ey5
      exact ow_nil (kw_jy (.top rfl (.cons rfl (.cons rfl (.cons rfl (.cons rfl (.refl _)))))) (.refl _))
    · have ey5 := cond_f ey5 hy5
      refine ow_det (.some rfl hy5) (stp_loadN (us := [_, _]) ts28 rfl (Cells.box (id := 1) rfl 2 rfl)) rfl ?_
      obtain ⟨x6, e6, ey5⟩ := bind_some ey5
      refine ow_eff (.some rfl hy5) (stpU_call (fun i => 3 + i) cf38 (fun w hw => c_i_KeyValid fl w a1 x6 e6) (sevs_cons rfl sevs_nil)) rfl ?_
      rintro _ _ ⟨_, ⟨rfl, rfl⟩, rfl⟩
      refine ow_det (.some rfl hy5) (stp_not rfl) rfl ?_
      refine ow_det .none (stp_pick_f rfl hy5 rfl) rfl ?_
      obtain rfl := Option.some.inj ey5
      exact ow_nil (kw_jy (.top rfl (.cons rfl (.cons rfl (.cons rfl (.cons rfl (.refl _)))))) (.refl _))
  · refine ow_det .none (stp_move rfl) rfl ?_
    obtain ⟨y7, ey7, H0⟩ := bind_some H0
    refine ow_cutY 5 24 y7 ?_ ?_
    · rcases Bool.eq_false_or_eq_true y5 with hy7 | hy7
      · have ey7 := cond_t ey7 hy7
        refine ow_off (.some rfl hy7) rfl ?_
        refine ow_off (.some rfl hy7) rfl ?_
        refine ow_off (.some rfl hy7) rfl ?_
        refine ow_off (.some rfl hy7) rfl ?_
        refine ow_det .none (stp_pick_t rfl hy7 rfl) rfl ?_
        obtain rfl := Option.some.inj ey7
        exact ow_nil (kw_jy (.top rfl (.cons rfl (.cons rfl (.cons rfl (.cons rfl (.cons rfl (.refl _))))))) (.refl _))
      · have ey7 := cond_f ey7 hy7
        refine ow_det (.some rfl hy7) (stp_loadN (us := [_, _]) ts26 rfl (Cells.box (id := 0) rfl 2 rfl)) rfl ?_
        refine ow_det (.some rfl hy7) (stp_loadN (us := [_, _]) ts28 rfl (Cells.box (id := 1) rfl 2 rfl)) rfl ?_
        obtain ⟨x8, e8, ey7⟩ := bind_some ey7
        refine ow_eff (.some rfl hy7) (stpU_call (fun i => 3 + i) cf39 (fun w hw => c_i_Table_find fl w a0 p0_0 ((a0.b).length) c0_0 p0_1 ((a0.f).length) c0_1 a1 rfl (RO.pass hr0_0 hw) rfl (RO.pass hr0_1 hw) x8 e8) (sevs_cons rfl (sevs_cons rfl sevs_nil))) rfl ?_
        rintro _ _ ⟨_, ⟨rfl, rfl⟩, rfl⟩
        refine ow_det (.some rfl hy7) (stp_geq rfl rfl) rfl ?_
        refine ow_det .none (stp_pick_f rfl hy7 rfl) rfl ?_
        obtain rfl := Option.some.inj ey7
        exact ow_nil (kw_jy (.top rfl (.cons rfl (.cons rfl (.cons rfl (.cons rfl (.cons rfl (.refl _))))))) (.refl _))
    · refine ow_det .none (stp_move rfl) rfl ?_
      obtain ⟨y9, ey9, H0⟩ := bind_some H0
      refine ow_cutY 7 32 y9 ?_ ?_
      · rcases Bool.eq_false_or_eq_true y7 with hy9 | hy9
        · have ey9 := cond_t ey9 hy9
          refine ow_off (.some rfl hy9) rfl ?_
          refine ow_off (.some rfl hy9) rfl ?_
          refine ow_off (.some rfl hy9) rfl ?_
          refine ow_off (.some rfl hy9) rfl ?_
          refine ow_off (.some rfl hy9) rfl ?_
          refine ow_off (.some rfl hy9) rfl ?_
          refine ow_det .none (stp_pick_t rfl hy9 rfl) rfl ?_
          obtain rfl := Option.some.inj ey9
          exact ow_nil (kw_jy (.top rfl (.cons rfl (.cons rfl (.cons rfl (.cons rfl (.cons rfl (.cons rfl (.cons rfl (.refl _))))))))) (.refl _))
        · have ey9 := cond_f ey9 hy9
          refine ow_det (.some rfl hy9) (stp_move rfl) rfl ?_
          refine ow_det (.some rfl hy9) (stp_fieldAddr (j := 1) Tryd.underlying26 rfl ts24 rfl rfl rfl) rfl ?_
          refine ow_det (.some rfl hy9) (stp_load1 ts24 rfl (Cells.box (id := 0) rfl 1 rfl)) rfl ?_
          refine ow_det (.some rfl hy9) (stp_len Tryd.underlying24 rfl) rfl ?_
          obtain ⟨x10, e10, ey9⟩ := bind_some ey9
          refine ow_eff (.some rfl hy9) (stpU_call (fun i => 3 + i) cf40 (fun w hw => c_i_within fl w a2 ((a0.f).length : Int) x10 e10) (sevs_cons rfl (sevs_cons rfl sevs_nil))) rfl ?_
          rintro _ _ ⟨_, ⟨rfl, rfl⟩, rfl⟩
          refine ow_det (.some rfl hy9) (stp_not rfl) rfl ?_
          refine ow_det .none (stp_pick_f rfl hy9 rfl) rfl ?_
          obtain rfl := Option.some.inj ey9
          exact ow_nil (kw_jy (.top rfl (.cons rfl (.cons rfl (.cons rfl (.cons rfl (.cons rfl (.cons rfl (.cons rfl (.refl _))))))))) (.refl _))
      · refine ow_det .none (stp_move rfl) rfl ?_
        obtain ⟨y11, ey11, H0⟩ := bind_some H0
        refine ow_cutY 7 40 y11 ?_ ?_
        · rcases Bool.eq_false_or_eq_true y9 with hy11 | hy11
          · have ey11 := cond_t ey11 hy11
            refine ow_off (.some rfl hy11) rfl ?_
            refine ow_off (.some rfl hy11) rfl ?_
            refine ow_off (.some rfl hy11) rfl ?_
            refine ow_off (.some rfl hy11) rfl ?_
            refine ow_off (.some rfl hy11) rfl ?_
            refine ow_off (.some rfl hy11) rfl ?_
            refine ow_det .none (stp_pick_t rfl hy11 rfl) rfl ?_
            obtain rfl := Option.some.inj ey11
            exact ow_nil (kw_jy (.top rfl (.cons rfl (.cons rfl (.cons rfl (.cons rfl (.cons rfl (.cons rfl (.cons rfl (.refl _))))))))) (.refl _))
          · have ey11 := cond_f ey11 hy11
            refine ow_det (.some rfl hy11) (stp_fieldAddr (j := 1) Tryd.underlying26 rfl ts24 rfl rfl rfl) rfl ?_
            refine ow_det (.some rfl hy11) (stp_load1 ts24 rfl (Cells.box (id := 0) rfl 1 rfl)) rfl ?_
            refine ow_det (.some rfl hy11) (stp_move rfl) rfl ?_
            obtain ⟨x12, e12, ey11⟩ := bind_some ey11
            refine ow_det (.some rfl hy11) (stp_indexAddr Tryd.underlying24 ts53 (by decide) rfl rfl rfl (Rdb.ro hr0_1) e12) rfl ?_
            refine ow_det (.some rfl hy11) (stp_fieldAddr (j := 0) Tryd.underlying53 rfl ts4 rfl rfl rfl) rfl ?_
            refine ow_det (.some rfl hy11) (stp_load1 ts4 rfl (Cells.el (Rdb.ro hr0_1) (by decide) e12 0 1 rfl)) rfl ?_
            refine ow_det .none (stp_pick_f rfl hy11 rfl) rfl ?_
            obtain rfl := Option.some.inj ey11
            exact ow_nil (kw_jy (.top rfl (.cons rfl (.cons rfl (.cons rfl (.cons rfl (.cons rfl (.cons rfl (.cons rfl (.refl _))))))))) (.refl _))
        · refine ow_det .none (stp_move rfl) rfl ?_
          obtain ⟨y13, ey13, H0⟩ := bind_some H0
          refine ow_cutY 4 45 y13 ?_ ?_
          · rcases Bool.eq_false_or_eq_true y11 with hy13 | hy13
            · have ey13 := cond_t ey13 hy13
              refine ow_off (.some rfl hy13) rfl ?_
              refine ow_off (.some rfl hy13) rfl ?_
              refine ow_off (.some rfl hy13) rfl ?_
              refine ow_det .none (stp_pick_t rfl hy13 rfl) rfl ?_
              obtain rfl := Option.some.inj ey13
              exact ow_nil (kw_jy (.top rfl (.cons rfl (.cons rfl (.cons rfl (.cons rfl (.refl _)))))) (.refl _))
            · have ey13 := cond_f ey13 hy13
              refine ow_det (.some rfl hy13) (stp_move rfl) rfl ?_
              obtain ⟨x14, e14, ey13⟩ := bind_some ey13
              refine ow_eff (.some rfl hy13) (stpU_call (fun i => 3 + i) cf41 (fun w hw => c_i_RightsValid fl w a3 x14 e14) (sevs_cons rfl sevs_nil)) rfl ?_
              rintro _ _ ⟨_, ⟨rfl, rfl⟩, rfl⟩
              refine ow_det (.some rfl hy13) (stp_not rfl) rfl ?_
              refine ow_det .none (stp_pick_f rfl hy13 rfl) rfl ?_
              obtain rfl := Option.some.inj ey13
              exact ow_nil (kw_jy (.top rfl (.cons rfl (.cons rfl (.cons rfl (.cons rfl (.refl _)))))) (.refl _))
          · refine ow_nil ?_
            refine kw_nx ?_
            refine cw_cond rfl (fun h15 => ?_) (fun h15 => ?_)
            · have H0 := cond_t H0 h15
              refine cw_seq ?_
              refine cw_region ?_
              refine ow_det .none (stp_build (cs := #[.slice none 0 0, .slice none 0 0]) sevp_nil (by rfl)) rfl ?_
              refine ow_eff0 .none (stpU_store (id := 2) (cs' := [.slice none 0 0, .slice none 0 0]) ts26 rfl rfl rfl rfl rfl rfl rfl) ?_
              rintro _ _ rfl
              refine ow_det .none (stp_assign rfl) rfl ?_
              refine ow_nil ?_
              refine kw_nx ?_
              refine cw_ret ?_
              refine kw_nx_ret ?_
              refine kw_addNil 3 ?_
              refine kw_addNil 4 ?_
              have q0 := Option.some.inj H0
              subst q0
              exact kw_ret Tryd.results13 (.cons (.cellN (us := [_, _]) ts26 rfl (Cells.box (id := 2) rfl 2 rfl)) (.cons (.tmp rfl) .nil)) [(0, []), (1, [])] [3, 4] ⟨3, [4], rfl, rfl, 4, [], rfl, rfl, trivial⟩ (by decide) ⟨none, 0, 0, [], none, 0, 0, [], rfl, rfl, rfl, (OwnC.nil _ _), rfl, (OwnC.nil _ _)⟩
            · have H0 := cond_f H0 h15
              refine cw_skip ?_
              refine kw_nx ?_
              refine cw_seq ?_
              refine cw_region ?_
              refine ow_det .none (stp_loadN (us := [_, _]) ts26 rfl (Cells.box (id := 0) rfl 2 rfl)) rfl ?_
              obtain ⟨x16, e16, H0⟩ := bind_some H0
              refine ow_eff .none (stpU_call (fun i => 5 + i) cf42 (fun w hw => c_i_Table_clone fl w a0 p0_0 ((a0.b).length) c0_0 p0_1 ((a0.f).length) c0_1 rfl (RO.pass hr0_0 hw) rfl (RO.pass hr0_1 hw) x16 e16) (sevs_cons rfl sevs_nil)) rfl ?_
              rintro _ _ ⟨_, ⟨p17, n18, c19, C20, p21, n22, c23, C24, rfl, rfl, hnn18, o20, hnn22, o24⟩, rfl⟩
              obtain rfl := hnn18
              obtain rfl := hnn22
              refine ow_eff .none (stpU_alloc 7 tz26 rfl) rfl ?_
              rintro _ _ ⟨b25, rfl, rfl⟩
              refine ow_eff0 .none (stpU_store (id := 7) (cs' := [.slice p17 ((x16.b).length) c19, .slice p21 ((x16.f).length) c23]) ts26 rfl rfl rfl rfl rfl rfl rfl) ?_
              rintro _ _ rfl
              refine ow_nil ?_
              refine kw_nx ?_
              refine cw_seq ?_
              refine cw_region ?_
              refine ow_det .none (stp_loadN (us := [_, _]) ts26 rfl (Cells.box (id := 7) rfl 2 rfl)) rfl ?_
              refine ow_det .none (stp_loadN (us := [_, _]) ts28 rfl (Cells.box (id := 1) rfl 2 rfl)) rfl ?_
              refine ow_det .none (stp_move rfl) rfl ?_
              refine ow_det .none (stp_move rfl) rfl ?_
              obtain ⟨x26, e26, H0⟩ := bind_some H0
              refine ow_eff .none (stpU_callM (fun i => bif Nat.beq i 0 then 5 else bif Nat.beq i 1 then 6 else 8 + i) cf43 (fun w hw hb => c_i_Table_link fl w x16 p17 ((x16.b).length) c19 C20 p21 ((x16.f).length) c23 C24 a1 a2 a3 rfl o20 rfl o24 (hw.pass (js := [5, 6]) ⟨5, [6], rfl, rfl, 6, [], rfl, rfl, trivial⟩ (by decide)) x26 e26) (sevs_cons rfl (sevs_cons rfl (sevs_cons rfl (sevs_cons rfl sevs_nil)))) ⟨rfl, (fun _ _ hp => by obtain ⟨_, _, _, rfl, _⟩ := hp; exact ⟨_, rfl⟩), rfl, (fun _ _ hp => by obtain ⟨_, _, _, rfl, _⟩ := hp; exact ⟨_, rfl⟩), trivial⟩) rfl ?_
              rintro _ _ ⟨_, ⟨C27, C28, rfl, rfl, hl27, o27, hl28, o28⟩, rfl⟩
              refine ow_nil ?_
              refine kw_nx ?_
              refine cw_seq ?_
              refine cw_region ?_
              refine ow_det .none (stp_loadN (us := [_, _]) ts26 rfl (Cells.box (id := 7) rfl 2 rfl)) rfl ?_
              refine ow_eff0 .none (stpU_store (id := 2) (cs' := [.slice p17 ((x16.b).length) c19, .slice p21 ((x16.f).length) c23]) ts26 rfl rfl rfl rfl rfl rfl rfl) ?_
              rintro _ _ rfl
              refine ow_det .none (stp_assign rfl) rfl ?_
              refine ow_nil ?_
              refine kw_nx ?_
              refine cw_ret ?_
              have q0 := Option.some.inj H0
              subst q0
              exact kw_ret Tryd.results13 (.cons (.cellN (us := [_, _]) ts26 rfl (Cells.box (id := 2) rfl 2 rfl)) (.cons (.tmp rfl) .nil)) [(0, C27), (1, C28)] [5, 6] ⟨5, [6], rfl, rfl, 6, [], rfl, rfl, trivial⟩ (by decide) ⟨p17, ((x16.b).length), c19, C27, p21, ((x16.f).length), c23, C28, rfl, rfl, (by simp [hl27]), o27, (by simp [hl28]), o28⟩
end Go.Proofs.YtkocamaoeojfhaaDoor
