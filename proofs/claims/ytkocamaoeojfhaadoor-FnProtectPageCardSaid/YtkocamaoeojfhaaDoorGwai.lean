/- The walks: functions of the program return what their pure functions say. Printed by a program (gen.py). -/
import Derived.Test.YtkocamaoeojfhaaDoorGp
import Derived.Test.YtkocamaoeojfhaaDoorGt
import Derived.Test.YtkocamaoeojfhaaDoorMan
import Derived.Test.YtkocamaoeojfhaaDoorGwab
import Derived.Test.YtkocamaoeojfhaaDoorGwac
set_option linter.unusedSimpArgs false
set_option linter.unusedVariables false
set_option linter.unusedSectionVars false
namespace Go.Proofs.YtkocamaoeojfhaaDoor
open Go.RowKit
set_option maxHeartbeats 4000000 in
set_option maxRecDepth 20000 in
theorem c_s_l3Unmap (fl : Nat) (w : World) (a0 : T) (p0_0 : Option Addr) (n0_0 c0_0 : Nat) (p0_1 : Option Addr) (n0_1 c0_1 : Nat) (a1 : Int) (hn0_0 : n0_0 = (a0.b).length) (hr0_0 : RO w (hkeys []) (RdL p0_0 c0_0 a0.b)) (hn0_1 : n0_1 = (a0.f).length) (hr0_1 : RO w (hkeys []) (RdL p0_1 c0_1 a0.f)) (r : T) (H0 : s_l3Unmap fl a0 a1 = some r) :
    Ct Tryd.prog 67 [.agg #[.slice p0_0 n0_0 c0_0, .slice p0_1 n0_1 c0_1], .int .i64 a1] w [] (fun rv h' => ∃ (x0 : Option Addr) (y0 z0 : Nat) (C0 : Res) (x1 : Option Addr) (y1 z1 : Nat) (C1 : Res), rv = .agg #[.slice x0 y0 z0, .slice x1 y1 z1] ∧ h' = [(0, C0), (1, C1)] ∧ y0 = (r.b).length ∧ OwnC 3 x0 z0 r.b C0 ∧ y1 = (r.f).length ∧ OwnC 53 x1 z1 r.f C1) := by
  obtain rfl := hn0_0
  obtain rfl := hn0_1
  unfold s_l3Unmap at H0
  refine ct_of_cw Tryd.func67 rfl Tryd.ntmps67 rfl (Sat.refl _ _) ?_
  refine cw_seq ?_
  refine cw_region ?_
  refine ow_eff .none (stpU_box 0 rfl rfl) rfl ?_
  rintro _ _ ⟨b1, rfl, rfl⟩
  refine ow_eff .none (stpU_alloc 1 tz26 rfl) rfl ?_
  rintro _ _ ⟨b2, rfl, rfl⟩
  refine ow_nil ?_
  refine kw_nx ?_
  refine cw_seq ?_
  refine cw_region ?_
  refine ow_det .none (stp_loadN (us := [_, _]) ts26 rfl (Cells.box (id := 0) rfl 2 rfl)) rfl ?_
  obtain ⟨x3, e3, H0⟩ := bind_some H0
  refine ow_eff .none (stpU_call (fun i => 2 + i) cf57 (fun w hw => c_s_l3Copy fl w a0 p0_0 ((a0.b).length) c0_0 p0_1 ((a0.f).length) c0_1 rfl (RO.pass hr0_0 hw) rfl (RO.pass hr0_1 hw) x3 e3) (sevs_cons rfl sevs_nil)) rfl ?_
  rintro _ _ ⟨_, ⟨p4, n5, c6, C7, p8, n9, c10, C11, rfl, rfl, hnn5, o7, hnn9, o11⟩, rfl⟩
  obtain rfl := hnn5
  obtain rfl := hnn9
  refine ow_eff .none (stpU_alloc 4 tz26 rfl) rfl ?_
  rintro _ _ ⟨b12, rfl, rfl⟩
  refine ow_eff0 .none (stpU_store (id := 4) (cs' := [.slice p4 ((x3.b).length) c6, .slice p8 ((x3.f).length) c10]) ts26 rfl rfl rfl rfl rfl rfl rfl) ?_
  rintro _ _ rfl
  refine ow_nil ?_
  refine kw_nx ?_
  refine cw_seq ?_
  obtain ⟨x13, e13, H0⟩ := bind_some H0
  obtain ⟨x14, e14, H0⟩ := bind_some H0
  refine region_drawn { dst := fun i => match i with | 0 => some 11 | 1 => some 12 | 2 => some 13 | 3 => some 14 | 4 => some 15 | 5 => some 16 | 6 => some 17 | 7 => some 18 | 8 => some 19 | 9 => some 20 | 10 => some 6 | _ => none, pre := fun i => match i with | 1 => [0] | 3 => [0, 1, 2] | 4 => [0, 1, 2, 3] | 5 => [0, 1, 2, 3, 4] | 7 => [6] | 8 => [6, 7] | 9 => [0, 1, 2, 3, 4, 5, 6, 7, 8] | 10 => [0, 1, 2, 3, 4, 5, 6, 7, 8, 9] | _ => [], ids := fun i => match i with | _ => [], rs := fun i => match i with | 0 => [(2, none)] | 1 => [(11, some 0)] | 2 => [(1, none)] | 3 => [(12, some 1), (13, some 2)] | 4 => [(14, some 3)] | 5 => [(15, some 4)] | 6 => [(2, none)] | 7 => [(17, some 6)] | 8 => [(18, some 7)] | 9 => [(16, some 5), (19, some 8)] | 10 => [(20, some 9)] | _ => [], rh := fun i => match i with | 1 => [(0, none)] | 7 => [(0, none)] | _ => [], V := fun i g => match i with | 0 => .pointer (some ⟨b1, 1, none⟩) | 1 => .slice p0_1 ((a0.f).length) c0_1 | 2 => .int .i64 a1 | 3 => .pointer (some ⟨eB p0_1, eO p0_1 + Int.toNat a1 * Enc.sz F + 0, none⟩) | 4 => .pointer (some ⟨eB p0_1, eO p0_1 + Int.toNat a1 * Enc.sz F + 1, none⟩) | 5 => .agg #[.int .i64 x13.k.s, .int .i64 x13.k.p] | 6 => .pointer (some ⟨b1, 0, none⟩) | 7 => .slice p0_0 ((a0.b).length) c0_0 | 8 => .int .i64 ((a0.b).length : Int) | 9 => .int .i64 x14 | 10 => .int .i64 x14 | _ => undef, U := fun i g => match i with | _ => [], Φ := fun i x => match i with | _ => True } g_mixed [1, 2] [0] (by kernel_rfl) (by kernel_rfl) (by kernel_rfl) ⟨⟨⟨⟨⟨⟨⟨⟨⟨⟨⟨trivial, fun _ => ⟨rfl, rfl⟩⟩, fun _ => ⟨rfl, rfl⟩⟩, fun _ => ⟨rfl, rfl⟩⟩, fun _ => ⟨rfl, rfl⟩⟩, fun _ => ⟨rfl, rfl⟩⟩, fun _ => ⟨rfl, rfl⟩⟩, fun _ => ⟨rfl, rfl⟩⟩, fun _ => ⟨rfl, rfl⟩⟩, fun _ => ⟨rfl, rfl⟩⟩, fun _ => ⟨rfl, rfl⟩⟩, fun _ => ⟨rfl, rfl⟩⟩ ?_ ?_
  · refine ⟨⟨⟨⟨⟨⟨⟨⟨⟨⟨⟨trivial, ?_⟩, ?_⟩, ?_⟩, ?_⟩, ?_⟩, ?_⟩, ?_⟩, ?_⟩, ?_⟩, ?_⟩, ?_⟩
    · exact loc_det rfl rfl (fun _ => rfl) trivial (fun g hΦ s h hs hh => ⟨.none, (stp_fieldAddr (j := 1) Tryd.underlying26 rfl ts24 rfl (sv hs 2 rfl) rfl)⟩)
    · exact loc_det rfl rfl (fun _ => rfl) trivial (fun g hΦ s h hs hh => ⟨.none, (stp_load1 ts24 (sv hs 11 rfl) (Cells.box (id := 0) (hh.get 0 _ rfl) 1 rfl))⟩)
    · exact loc_det rfl rfl (fun _ => rfl) trivial (fun g hΦ s h hs hh => ⟨.none, (stp_move (sv hs 1 rfl))⟩)
    · exact loc_det rfl rfl (fun _ => rfl) trivial (fun g hΦ s h hs hh => ⟨.none, (stp_indexAddr Tryd.underlying24 ts53 (by decide) (sv hs 12 rfl) rfl (sv hs 13 rfl) (Rdb.ro hr0_1) e13)⟩)
    · exact loc_det rfl rfl (fun _ => rfl) trivial (fun g hΦ s h hs hh => ⟨.none, (stp_fieldAddr (j := 1) Tryd.underlying53 rfl ts28 rfl (sv hs 14 rfl) rfl)⟩)
    · exact loc_det rfl rfl (fun _ => rfl) trivial (fun g hΦ s h hs hh => ⟨.none, (stp_loadN (us := [_, _]) ts28 (sv hs 15 rfl) (Cells.el (Rdb.ro hr0_1) (by decide) e13 1 2 rfl))⟩)
    · exact loc_det rfl rfl (fun _ => rfl) trivial (fun g hΦ s h hs hh => ⟨.none, (stp_fieldAddr (j := 0) Tryd.underlying26 rfl ts23 rfl (sv hs 2 rfl) rfl)⟩)
    · exact loc_det rfl rfl (fun _ => rfl) trivial (fun g hΦ s h hs hh => ⟨.none, (stp_load1 ts23 (sv hs 17 rfl) (Cells.box (id := 0) (hh.get 0 _ rfl) 1 rfl))⟩)
    · exact loc_det rfl rfl (fun _ => rfl) trivial (fun g hΦ s h hs hh => ⟨.none, (stp_len Tryd.underlying23 (sv hs 18 rfl))⟩)
    · refine loc_eff rfl rfl (fun g hΦ s h hs hh => ⟨.none, (stpU_call (fun i => 5 + i) cf86 (fun w hw => c_s_l2Hash fl w x13.k ((a0.b).length : Int) x14 e14) (sevs_cons (sv hs 16 rfl) (sevs_cons (sv hs 19 rfl) sevs_nil)))⟩) ?_
      rintro g _ _ ⟨_, ⟨rfl, rfl⟩, rfl⟩
      exact ⟨⟨[], [], []⟩, trivial, .inr rfl, rfl⟩
    · exact loc_det rfl rfl (fun _ => rfl) trivial (fun g hΦ s h hs hh => ⟨.none, (stp_assign (sv hs 20 rfl))⟩)
  · intro g hΦ
    refine KW.sub (s' := [(1, .int .i64 a1), (2, .pointer (some ⟨b1, 0, none⟩)), (4, .pointer (some ⟨b2, 0, none⟩)), (5, .pointer (some ⟨b12, 0, none⟩)), (6, .int .i64 x14)]) (h' := [(0, [(b1, .cells #[.slice p0_0 ((a0.b).length) c0_0, .slice p0_1 ((a0.f).length) c0_1] 26 (0, 0))]), (1, [(b2, .cells #[.slice none 0 0, .slice none 0 0] 26 (0, 0))]), (2, C7), (3, C11), (4, [(b12, .cells #[.slice p4 ((x3.b).length) c6, .slice p8 ((x3.f).length) c10] 26 (0, 0))])]) ?_ ⟨rfl, rfl, rfl, rfl, rfl, trivial⟩ ⟨rfl, rfl, rfl, rfl, rfl, trivial⟩
    refine kw_nx ?_
    refine cw_seq ?_
    refine cw_region ?_
    refine ow_det .none (stp_fieldAddr (j := 1) Tryd.underlying26 rfl ts24 rfl rfl rfl) rfl ?_
    refine ow_det .none (stp_load1 ts24 rfl (Cells.box (id := 0) rfl 1 rfl)) rfl ?_
    refine ow_det .none (stp_move rfl) rfl ?_
    refine ow_det .none (stp_indexAddr Tryd.underlying24 ts53 (by decide) rfl rfl rfl (Rdb.ro hr0_1) e13) rfl ?_
    refine ow_det .none (stp_fieldAddr (j := 4) Tryd.underlying53 rfl ts3 rfl rfl rfl) rfl ?_
    refine ow_det .none (stp_load1 ts3 rfl (Cells.el (Rdb.ro hr0_1) (by decide) e13 4 1 rfl)) rfl ?_
    refine ow_det .none (stp_assign rfl) rfl ?_
    refine ow_nil ?_
    refine kw_nx ?_
    refine cw_seq ?_
    refine cw_region ?_
    refine ow_det .none (stp_fieldAddr (j := 1) Tryd.underlying26 rfl ts24 rfl rfl rfl) rfl ?_
    refine ow_det .none (stp_load1 ts24 rfl (Cells.box (id := 4) rfl 1 rfl)) rfl ?_
    refine ow_det .none (stp_move rfl) rfl ?_
    refine ow_det .none (stp_build (cs := #[.bool false, .int .i64 0, .int .i64 0, .int .i64 0, .int .i64 (-1)]) (sevp_cons rfl sevp_nil) (by rfl)) rfl ?_
    obtain ⟨x15, e15, H0⟩ := bind_some H0
    refine ow_det .none (stp_indexAddr Tryd.underlying24 ts53 (by decide) rfl rfl rfl (Rdb.own (id := 3) rfl o11) e15) rfl ?_
    refine ow_eff0 .none (stpU_storeEl (id := 3) (i := 0) (⟨false, (⟨0, 0⟩ : K), 0, (-1)⟩ : F) (by decide) ts53 rfl rfl rfl o11 e15 rfl rfl rfl rfl) ?_
    rintro _ _ ⟨C16, rfl, o16⟩
    refine ow_nil ?_
    refine kw_nx ?_
    refine cw_seq ?_
    refine cw_seq ?_
    refine cw_region ?_
    refine ow_det .none (stp_fieldAddr (j := 0) Tryd.underlying26 rfl ts23 rfl rfl rfl) rfl ?_
    refine ow_det .none (stp_load1 ts23 rfl (Cells.box (id := 0) rfl 1 rfl)) rfl ?_
    refine ow_det .none (stp_move rfl) rfl ?_
    obtain ⟨x17, e17, H0⟩ := bind_some H0
    refine ow_det .none (stp_indexAddr Tryd.underlying23 ts3 (by decide) rfl rfl rfl (Rdb.ro hr0_0) e17) rfl ?_
    refine ow_det .none (stp_load1 ts3 rfl (Cells.el (Rdb.ro hr0_0) (by decide) e17 0 1 rfl)) rfl ?_
    refine ow_det .none (stp_move rfl) rfl ?_
    refine ow_det .none (stp_eql rfl rfl) rfl ?_
    refine ow_nil ?_
    refine kw_nx ?_
    refine cw_cond rfl (fun h18 => ?_) (fun h18 => ?_)
    · have H0 := cond_t H0 h18
      refine cw_seq ?_
      refine cw_region ?_
      refine ow_det .none (stp_fieldAddr (j := 0) Tryd.underlying26 rfl ts23 rfl rfl rfl) rfl ?_
      refine ow_det .none (stp_load1 ts23 rfl (Cells.box (id := 4) rfl 1 rfl)) rfl ?_
      refine ow_det .none (stp_move rfl) rfl ?_
      refine ow_det .none (stp_move rfl) rfl ?_
      obtain ⟨x19, e19, H0⟩ := bind_some H0
      refine ow_det .none (stp_indexAddr Tryd.underlying23 ts3 (by decide) rfl rfl rfl (Rdb.own (id := 2) rfl o7) e19) rfl ?_
      refine ow_eff0 .none (stpU_storeEl (id := 2) (i := 0) x13.nx (by decide) ts3 rfl rfl rfl o7 e19 rfl rfl rfl rfl) ?_
      rintro _ _ ⟨C20, rfl, o20⟩
      refine ow_nil ?_
      refine kw_nx ?_
      refine cw_seq ?_
      refine cw_region ?_
      refine ow_det .none (stp_loadN (us := [_, _]) ts26 rfl (Cells.box (id := 4) rfl 2 rfl)) rfl ?_
      refine ow_eff0 .none (stpU_store (id := 1) (cs' := [.slice p4 ((x3.b).length) c6, .slice p8 ((x3.f).length) c10]) ts26 rfl rfl rfl rfl rfl rfl rfl) ?_
      rintro _ _ rfl
      refine ow_nil ?_
      refine kw_nx ?_
      refine cw_ret ?_
      refine kw_nx_ret ?_
      have q0 := Option.some.inj H0
      subst q0
      exact kw_ret Tryd.results67 (.cons (.cellN (us := [_, _]) ts26 rfl (Cells.box (id := 1) rfl 2 rfl)) .nil) [(0, C20), (1, C16)] [2, 3] ⟨2, [3], rfl, rfl, 3, [], rfl, rfl, trivial⟩ (by decide) ⟨p4, ((x3.b).length), c6, C20, p8, ((x3.f).length), c10, C16, rfl, rfl, (by simp), o20, (by simp), o16⟩
    · have H0 := cond_f H0 h18
      refine cw_skip ?_
      refine kw_nx ?_
      refine cw_seq ?_
      refine cw_seq ?_
      refine cw_region ?_
      refine ow_det .none (stp_assign rfl) rfl ?_
      refine ow_nil ?_
      refine kw_nx ?_
      obtain ⟨o0_0, eo0_0, H0⟩ := bind_some H0
      refine cw_join (ι := (List F) × Int × Res) (fun | (v21, v23, C22) => o0_0 = .out (v21, v23) ∧ (x3.f).length = (v21).length ∧ OwnC (α := F) 53 p8 c10 v21 C22) (fun | (v21, v23, C22) => [(1, .int .i64 a1), (2, .pointer (some ⟨b1, 0, none⟩)), (4, .pointer (some ⟨b2, 0, none⟩)), (5, .pointer (some ⟨b12, 0, none⟩)), (7, .int .i64 x13.nx), (8, .int .i64 v23)]) (fun | (v21, v23, C22) => [(0, [(b1, .cells #[.slice p0_0 ((a0.b).length) c0_0, .slice p0_1 ((a0.f).length) c0_1] 26 (0, 0))]), (1, [(b2, .cells #[.slice none 0 0, .slice none 0 0] 26 (0, 0))]), (2, C7), (3, C22), (4, [(b12, .cells #[.slice p4 ((x3.b).length) c6, .slice p8 ((x3.f).length) c10] 26 (0, 0))])]) ?_ ?_
      · refine cw_block ?_
        refine cw_loopS (ι := Nat × (List F) × Int × Res) (js := [0, 1, 2, 3, 4]) (fun x => x.1) (fun | (fuel, v21, v23, C22) => s_l3Unmap_L0 fl a0 a1 x13 fuel v21 v23 = some o0_0 ∧ (x3.f).length = (v21).length ∧ OwnC (α := F) 53 p8 c10 v21 C22) (fun | (_, v21, v23, C22) => [(1, .int .i64 a1), (2, .pointer (some ⟨b1, 0, none⟩)), (4, .pointer (some ⟨b2, 0, none⟩)), (5, .pointer (some ⟨b12, 0, none⟩)), (7, .int .i64 x13.nx), (8, .int .i64 v23)]) (fun | (_, v21, v23, C22) => [(0, [(b1, .cells #[.slice p0_0 ((a0.b).length) c0_0, .slice p0_1 ((a0.f).length) c0_1] 26 (0, 0))]), (1, [(b2, .cells #[.slice none 0 0, .slice none 0 0] 26 (0, 0))]), (2, C7), (3, C22), (4, [(b12, .cells #[.slice p4 ((x3.b).length) c6, .slice p8 ((x3.f).length) c10] 26 (0, 0))])]) (fl, (x3.f.set (Int.toNat a1) (⟨false, (⟨0, 0⟩ : K), 0, (-1)⟩ : F)), 0, C16) ⟨eo0_0, (by simp), o16⟩ ⟨rfl, rfl, rfl, rfl, rfl, rfl, trivial⟩ ⟨0, [1, 2, 3, 4], rfl, rfl, 1, [2, 3, 4], rfl, rfl, 2, [3, 4], rfl, rfl, 3, [4], rfl, rfl, 4, [], rfl, rfl, trivial⟩ (by decide) ?_
        rintro ⟨fuel, v21, v23, C22⟩ ⟨H1, hl22, o22⟩
        have H1 : s_l3Unmap_L0 fl a0 a1 x13 fuel v21 v23 = some o0_0 := H1
        rcases fuel with _ | fuel
        · rw [s_l3Unmap_L0.eq_1] at H1; cases H1
        rw [s_l3Unmap_L0.eq_2] at H1
        refine CW.sub (s' := [(1, .int .i64 a1), (2, .pointer (some ⟨b1, 0, none⟩)), (4, .pointer (some ⟨b2, 0, none⟩)), (5, .pointer (some ⟨b12, 0, none⟩)), (7, .int .i64 x13.nx), (8, .int .i64 v23)]) (h' := [(0, [(b1, .cells #[.slice p0_0 ((a0.b).length) c0_0, .slice p0_1 ((a0.f).length) c0_1] 26 (0, 0))]), (1, [(b2, .cells #[.slice none 0 0, .slice none 0 0] 26 (0, 0))]), (2, C7), (3, C22), (4, [(b12, .cells #[.slice p4 ((x3.b).length) c6, .slice p8 ((x3.f).length) c10] 26 (0, 0))])]) ?_ ⟨rfl, rfl, rfl, rfl, rfl, rfl, trivial⟩ ⟨rfl, rfl, rfl, rfl, rfl, trivial⟩
        refine cw_seq ?_
        refine cw_seq ?_
        refine cw_region ?_
        refine ow_det .none (stp_move rfl) rfl ?_
        refine ow_det .none (stp_fieldAddr (j := 1) Tryd.underlying26 rfl ts24 rfl rfl rfl) rfl ?_
        refine ow_det .none (stp_load1 ts24 rfl (Cells.box (id := 0) rfl 1 rfl)) rfl ?_
        refine ow_det .none (stp_len Tryd.underlying24 rfl) rfl ?_
        refine ow_det .none (stp_lss rfl rfl) rfl ?_
        refine ow_nil ?_
        refine kw_nx ?_
        refine cw_cond rfl (fun h24 => ?_) (fun h24 => ?_)
        · have H1 := cond_t H1 h24
          refine cw_skip ?_
          refine kw_nx ?_
          refine cw_seq ?_
          refine cw_block ?_
          refine cw_seq ?_
          refine cw_region ?_
          refine ow_det .none (stp_fieldAddr (j := 1) Tryd.underlying26 rfl ts24 rfl rfl rfl) rfl ?_
          refine ow_det .none (stp_load1 ts24 rfl (Cells.box (id := 0) rfl 1 rfl)) rfl ?_
          refine ow_det .none (stp_move rfl) rfl ?_
          obtain ⟨x25, e25, H1⟩ := bind_some H1
          refine ow_det .none (stp_indexAddr Tryd.underlying24 ts53 (by decide) rfl rfl rfl (Rdb.ro hr0_1) e25) rfl ?_
          refine ow_det .none (stp_fieldAddr (j := 0) Tryd.underlying53 rfl ts4 rfl rfl rfl) rfl ?_
          refine ow_det .none (stp_load1 ts4 rfl (Cells.el (Rdb.ro hr0_1) (by decide) e25 0 1 rfl)) rfl ?_
          refine ow_det .none (stp_move rfl) rfl ?_
          obtain ⟨y26, ey26, H1⟩ := bind_some H1
          refine ow_cutY 9 67 y26 ?_ ?_
          · rcases Bool.eq_false_or_eq_true x25.u with hy26 | hy26
            · have ey26 := cond_t ey26 hy26
              refine ow_det (.some rfl hy26) (stp_fieldAddr (j := 1) Tryd.underlying26 rfl ts24 rfl rfl rfl) rfl ?_
              refine ow_det (.some rfl hy26) (stp_load1 ts24 rfl (Cells.box (id := 0) rfl 1 rfl)) rfl ?_
              refine ow_det (.some rfl hy26) (stp_move rfl) rfl ?_
              refine ow_det (.some rfl hy26) (stp_indexAddr Tryd.underlying24 ts53 (by decide) rfl rfl rfl (Rdb.ro hr0_1) e25) rfl ?_
              refine ow_det (.some rfl hy26) (stp_fieldAddr (j := 4) Tryd.underlying53 rfl ts3 rfl rfl rfl) rfl ?_
              refine ow_det (.some rfl hy26) (stp_load1 ts3 rfl (Cells.el (Rdb.ro hr0_1) (by decide) e25 4 1 rfl)) rfl ?_
              refine ow_det (.some rfl hy26) (stp_move rfl) rfl ?_
              refine ow_det (.some rfl hy26) (stp_eql rfl rfl) rfl ?_
              refine ow_det .none (stp_pick_t rfl hy26 rfl) rfl ?_
              obtain rfl := Option.some.inj ey26
              exact ow_nil (kw_jy (.top rfl (.cons rfl (.cons rfl (.cons rfl (.cons rfl (.cons rfl (.cons rfl (.cons rfl (.cons rfl (.cons rfl (.refl _))))))))))) (.refl _))
            · have ey26 := cond_f ey26 hy26
              refine ow_off (.some rfl hy26) rfl ?_
              refine ow_off (.some rfl hy26) rfl ?_
              refine ow_off (.some rfl hy26) rfl ?_
              refine ow_off (.some rfl hy26) rfl ?_
              refine ow_off (.some rfl hy26) rfl ?_
              refine ow_off (.some rfl hy26) rfl ?_
              refine ow_off (.some rfl hy26) rfl ?_
              refine ow_off (.some rfl hy26) rfl ?_
              refine ow_det .none (stp_pick_f rfl hy26 rfl) rfl ?_
              obtain rfl := Option.some.inj ey26
              exact ow_nil (kw_jy (.top rfl (.cons rfl (.cons rfl (.cons rfl (.cons rfl (.cons rfl (.cons rfl (.cons rfl (.cons rfl (.cons rfl (.refl _))))))))))) (.refl _))
          · refine ow_nil ?_
            refine kw_nx ?_
            refine cw_cond rfl (fun h27 => ?_) (fun h27 => ?_)
            · have H1 := cond_t H1 h27
              refine cw_region ?_
              refine ow_det .none (stp_fieldAddr (j := 1) Tryd.underlying26 rfl ts24 rfl rfl rfl) rfl ?_
              refine ow_det .none (stp_load1 ts24 rfl (Cells.box (id := 4) rfl 1 rfl)) rfl ?_
              refine ow_det .none (stp_move rfl) rfl ?_
              refine ow_det .none (stp_move rfl) rfl ?_
              obtain ⟨x28, e28, H1⟩ := bind_some H1
              refine ow_det .none (stp_indexAddr Tryd.underlying24 ts53 (by decide) rfl (by simp [hl22]) rfl (Rdb.own (id := 3) rfl o22) e28) rfl ?_
              refine ow_det .none (stp_fieldAddr (j := 4) Tryd.underlying53 rfl ts3 rfl rfl rfl) rfl ?_
              refine ow_eff0 .none (stpU_storeEl (id := 3) (i := 4) (⟨x28.u, x28.k, x28.r, x13.nx⟩ : F) (by decide) ts3 rfl rfl rfl o22 e28 rfl rfl rfl rfl) ?_
              rintro _ _ ⟨C29, rfl, o29⟩
              refine ow_nil ?_
              refine kw_bl_normal ?_
              refine kw_nx ?_
              refine cw_region ?_
              refine ow_det .none (stp_move rfl) rfl ?_
              obtain ⟨x30, e30, H1⟩ := bind_some H1
              refine ow_det .none (stp_add rfl rfl e30) rfl ?_
              refine ow_det .none (stp_assign rfl) rfl ?_
              refine ow_nil ?_
              exact kw_lqS (js := [0, 1, 2, 3, 4]) (fuel, (v21.set (Int.toNat v23) (⟨x28.u, x28.k, x28.r, x13.nx⟩ : F)), x30, C29) ⟨H1, (by simp [hl22]), o29⟩ (Nat.lt_succ_self _) ⟨rfl, rfl, rfl, rfl, rfl, rfl, trivial⟩ ⟨0, [1, 2, 3, 4], rfl, rfl, 1, [2, 3, 4], rfl, rfl, 2, [3, 4], rfl, rfl, 3, [4], rfl, rfl, 4, [], rfl, rfl, trivial⟩ (by decide)
            · have H1 := cond_f H1 h27
              refine cw_skip ?_
              refine kw_bl_normal ?_
              refine kw_nx ?_
              refine cw_region ?_
              refine ow_det .none (stp_move rfl) rfl ?_
              obtain ⟨x31, e31, H1⟩ := bind_some H1
              refine ow_det .none (stp_add rfl rfl e31) rfl ?_
              refine ow_det .none (stp_assign rfl) rfl ?_
              refine ow_nil ?_
              exact kw_lqS (js := [0, 1, 2, 3, 4]) (fuel, v21, x31, C22) ⟨H1, (by simp [hl22]), o22⟩ (Nat.lt_succ_self _) ⟨rfl, rfl, rfl, rfl, rfl, rfl, trivial⟩ ⟨0, [1, 2, 3, 4], rfl, rfl, 1, [2, 3, 4], rfl, rfl, 2, [3, 4], rfl, rfl, 3, [4], rfl, rfl, 4, [], rfl, rfl, trivial⟩ (by decide)
        · have H1 := cond_f H1 h24
          refine cw_exit ?_
          refine kw_nx_exit ?_
          refine kw_lq_exit ?_
          refine kw_bl ?_
          have q1 := Option.some.inj H1
          subst q1
          exact kw_joinS (js := [0, 1, 2, 3, 4]) (v21, v23, C22) ⟨rfl, (by simp [hl22]), o22⟩ ⟨rfl, rfl, rfl, rfl, rfl, rfl, trivial⟩ ⟨0, [1, 2, 3, 4], rfl, rfl, 1, [2, 3, 4], rfl, rfl, 2, [3, 4], rfl, rfl, 3, [4], rfl, rfl, 4, [], rfl, rfl, trivial⟩ (by decide)
      · rintro ⟨v21, v23, C22⟩ ⟨rfl, hl22, o22⟩
        refine KW.sub (s' := [(1, .int .i64 a1), (2, .pointer (some ⟨b1, 0, none⟩)), (4, .pointer (some ⟨b2, 0, none⟩)), (5, .pointer (some ⟨b12, 0, none⟩)), (7, .int .i64 x13.nx), (8, .int .i64 v23)]) (h' := [(0, [(b1, .cells #[.slice p0_0 ((a0.b).length) c0_0, .slice p0_1 ((a0.f).length) c0_1] 26 (0, 0))]), (1, [(b2, .cells #[.slice none 0 0, .slice none 0 0] 26 (0, 0))]), (2, C7), (3, C22), (4, [(b12, .cells #[.slice p4 ((x3.b).length) c6, .slice p8 ((x3.f).length) c10] 26 (0, 0))])]) ?_ ⟨rfl, rfl, rfl, rfl, rfl, rfl, trivial⟩ ⟨rfl, rfl, rfl, rfl, rfl, trivial⟩
        refine kw_nx ?_
        refine cw_seq ?_
        refine cw_region ?_
        refine ow_det .none (stp_loadN (us := [_, _]) ts26 rfl (Cells.box (id := 4) rfl 2 rfl)) rfl ?_
        refine ow_eff0 .none (stpU_store (id := 1) (cs' := [.slice p4 ((x3.b).length) c6, .slice p8 ((x3.f).length) c10]) ts26 rfl rfl rfl rfl rfl rfl rfl) ?_
        rintro _ _ rfl
        refine ow_nil ?_
        refine kw_nx ?_
        refine cw_ret ?_
        have q0 := Option.some.inj H0
        subst q0
        exact kw_ret Tryd.results67 (.cons (.cellN (us := [_, _]) ts26 rfl (Cells.box (id := 1) rfl 2 rfl)) .nil) [(0, C7), (1, C22)] [2, 3] ⟨2, [3], rfl, rfl, 3, [], rfl, rfl, trivial⟩ (by decide) ⟨p4, ((x3.b).length), c6, C7, p8, ((x3.f).length), c10, C22, rfl, rfl, rfl, o7, (by simp [hl22]), o22⟩

set_option maxHeartbeats 4000000 in
set_option maxRecDepth 20000 in
theorem c_s_UnmapPage (fl : Nat) (w : World) (a0 : T) (p0_0 : Option Addr) (n0_0 c0_0 : Nat) (p0_1 : Option Addr) (n0_1 c0_1 : Nat) (a1 : K) (hn0_0 : n0_0 = (a0.b).length) (hr0_0 : RO w (hkeys []) (RdL p0_0 c0_0 a0.b)) (hn0_1 : n0_1 = (a0.f).length) (hr0_1 : RO w (hkeys []) (RdL p0_1 c0_1 a0.f)) (r : T × Bool) (H0 : s_UnmapPage fl a0 a1 = some r) :
    Ct Tryd.prog 28 [.agg #[.slice p0_0 n0_0 c0_0, .slice p0_1 n0_1 c0_1], .agg #[.int .i64 a1.s, .int .i64 a1.p]] w [] (fun rv h' => ∃ (x0 : Option Addr) (y0 z0 : Nat) (C0 : Res) (x1 : Option Addr) (y1 z1 : Nat) (C1 : Res), rv = .tuple #[.agg #[.slice x0 y0 z0, .slice x1 y1 z1], .bool r.2] ∧ h' = [(0, C0), (1, C1)] ∧ y0 = (r.1.b).length ∧ OwnC 3 x0 z0 r.1.b C0 ∧ y1 = (r.1.f).length ∧ OwnC 53 x1 z1 r.1.f C1) := by
  obtain rfl := hn0_0
  obtain rfl := hn0_1
  unfold s_UnmapPage at H0
  refine ct_of_cw Tryd.func28 rfl Tryd.ntmps28 rfl (Sat.refl _ _) ?_
  refine cw_seq ?_
  refine cw_region ?_
  refine ow_eff .none (stpU_box 0 rfl rfl) rfl ?_
  rintro _ _ ⟨b1, rfl, rfl⟩
  refine ow_eff .none (stpU_box 1 rfl rfl) rfl ?_
  rintro _ _ ⟨b2, rfl, rfl⟩
  refine ow_eff .none (stpU_alloc 2 tz26 rfl) rfl ?_
  rintro _ _ ⟨b3, rfl, rfl⟩
  refine ow_det .none (stp_assign rfl) rfl ?_
  refine ow_nil ?_
  refine kw_nx ?_
  refine cw_seq ?_
  refine cw_region ?_
  refine ow_det .none (stp_loadN (us := [_, _]) ts26 rfl (Cells.box (id := 0) rfl 2 rfl)) rfl ?_
  refine ow_det .none (stp_loadN (us := [_, _]) ts28 rfl (Cells.box (id := 1) rfl 2 rfl)) rfl ?_
  obtain ⟨x4, e4, H0⟩ := bind_some H0
  refine ow_eff .none (stpU_call (fun i => 3 + i) cf56 (fun w hw => c_s_FindPage fl w a0 p0_0 ((a0.b).length) c0_0 p0_1 ((a0.f).length) c0_1 a1 rfl (RO.pass hr0_0 hw) rfl (RO.pass hr0_1 hw) x4 e4) (sevs_cons rfl (sevs_cons rfl sevs_nil))) rfl ?_
  rintro _ _ ⟨_, ⟨rfl, rfl⟩, rfl⟩
  refine ow_det .none (stp_move rfl) rfl ?_
  refine ow_det .none (stp_extract rfl rfl) rfl ?_
  refine ow_det .none (stp_extract rfl rfl) rfl ?_
  refine ow_det .none (stp_extract rfl rfl) rfl ?_
  refine ow_det .none (stp_assign rfl) rfl ?_
  refine ow_det .none (stp_assign rfl) rfl ?_
  refine ow_det .none (stp_assign rfl) rfl ?_
  refine ow_nil ?_
  refine kw_nx ?_
  refine cw_seq ?_
  refine cw_seq ?_
  refine cw_region ?_
  refine ow_det .none (stp_move rfl) rfl ?_
  refine ow_det .none (stp_not rfl) rfl ?_
  refine ow_nil ?_
  refine kw_nx ?_
  refine cw_cond rfl (fun h5 => ?_) (fun h5 => ?_)
  · have H0 := cond_t H0 h5
    refine cw_seq ?_
    refine cw_region ?_
    refine ow_det .none (stp_build (cs := #[.slice none 0 0, .slice none 0 0]) sevp_nil (by rfl)) rfl ?_
    refine ow_eff0 .none (stpU_store (id := 2) (cs' := [.slice none 0 0, .slice none 0 0]) ts26 rfl rfl rfl rfl rfl rfl rfl) ?_
    rintro _ _ rfl
    refine ow_det .none (stp_assign rfl) rfl ?_
    refine ow_nil ?_
    refine kw_nx ?_
    refine cw_ret ?_
    refine kw_nx_ret ?_
    refine kw_addNil 3 ?_
    refine kw_addNil 4 ?_
    have q0 := Option.some.inj H0
    subst q0
    exact kw_ret Tryd.results28 (.cons (.cellN (us := [_, _]) ts26 rfl (Cells.box (id := 2) rfl 2 rfl)) (.cons (.tmp rfl) .nil)) [(0, []), (1, [])] [3, 4] ⟨3, [4], rfl, rfl, 4, [], rfl, rfl, trivial⟩ (by decide) ⟨none, 0, 0, [], none, 0, 0, [], rfl, rfl, rfl, (OwnC.nil _ _), rfl, (OwnC.nil _ _)⟩
  · have H0 := cond_f H0 h5
    refine cw_skip ?_
    refine kw_nx ?_
    refine cw_seq ?_
    refine cw_region ?_
    refine ow_det .none (stp_loadN (us := [_, _]) ts26 rfl (Cells.box (id := 0) rfl 2 rfl)) rfl ?_
    refine ow_det .none (stp_move rfl) rfl ?_
    obtain ⟨x6, e6, H0⟩ := bind_some H0
    refine ow_eff .none (stpU_call (fun i => 5 + i) cf67 (fun w hw => c_s_l3Unmap fl w a0 p0_0 ((a0.b).length) c0_0 p0_1 ((a0.f).length) c0_1 x4.1 rfl (RO.pass hr0_0 hw) rfl (RO.pass hr0_1 hw) x6 e6) (sevs_cons rfl (sevs_cons rfl sevs_nil))) rfl ?_
    rintro _ _ ⟨_, ⟨p7, n8, c9, C10, p11, n12, c13, C14, rfl, rfl, hnn8, o10, hnn12, o14⟩, rfl⟩
    obtain rfl := hnn8
    obtain rfl := hnn12
    refine ow_eff0 .none (stpU_store (id := 2) (cs' := [.slice p7 ((x6.b).length) c9, .slice p11 ((x6.f).length) c13]) ts26 rfl rfl rfl rfl rfl rfl rfl) ?_
    rintro _ _ rfl
    refine ow_det .none (stp_assign rfl) rfl ?_
    refine ow_nil ?_
    refine kw_nx ?_
    refine cw_ret ?_
    have q0 := Option.some.inj H0
    subst q0
    exact kw_ret Tryd.results28 (.cons (.cellN (us := [_, _]) ts26 rfl (Cells.box (id := 2) rfl 2 rfl)) (.cons (.tmp rfl) .nil)) [(0, C10), (1, C14)] [5, 6] ⟨5, [6], rfl, rfl, 6, [], rfl, rfl, trivial⟩ (by decide) ⟨p7, ((x6.b).length), c9, C10, p11, ((x6.f).length), c13, C14, rfl, rfl, rfl, o10, rfl, o14⟩
end Go.Proofs.YtkocamaoeojfhaaDoor
