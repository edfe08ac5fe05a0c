/- The walks: functions of the program return what their pure functions say. Printed by a program (gen.py). -/
import Derived.Test.YtkocamaoeojfhaaDoorGp
import Derived.Test.YtkocamaoeojfhaaDoorGt
import Derived.Test.YtkocamaoeojfhaaDoorMan
import Derived.Test.YtkocamaoeojfhaaDoorGwaa
import Derived.Test.YtkocamaoeojfhaaDoorGwai
import Derived.Test.YtkocamaoeojfhaaDoorGwam
set_option linter.unusedSimpArgs false
set_option linter.unusedVariables false
set_option linter.unusedSectionVars false
namespace Go.Proofs.YtkocamaoeojfhaaDoor
open Go.RowKit
set_option maxHeartbeats 4000000 in
set_option maxRecDepth 20000 in
theorem c_l_FnExactUnmapPage (fl : Nat) (w : World) (a0 : T) (p0_0 : Option Addr) (n0_0 c0_0 : Nat) (p0_1 : Option Addr) (n0_1 c0_1 : Nat) (a1 : K) (hn0_0 : n0_0 = (a0.b).length) (hr0_0 : RO w (hkeys []) (RdL p0_0 c0_0 a0.b)) (hn0_1 : n0_1 = (a0.f).length) (hr0_1 : RO w (hkeys []) (RdL p0_1 c0_1 a0.f)) (hg : RO w (hkeys []) (fun w' => w'.rangeAt 0 0 [.bool false, .int .i64 0, .int .i64 0, .int .i64 0, .int .i64 (-1)])) (r : Bool) (H0 : l_FnExactUnmapPage fl a0 a1 = some r) :
    Ct Tryd.prog 7 [.agg #[.slice p0_0 n0_0 c0_0, .slice p0_1 n0_1 c0_1], .agg #[.int .i64 a1.s, .int .i64 a1.p]] w [] (fun rv h' => rv = .bool r ∧ h' = []) := by
  obtain rfl := hn0_0
  obtain rfl := hn0_1
  unfold l_FnExactUnmapPage at H0
  refine ct_of_cw Tryd.func7 rfl Tryd.ntmps7 rfl (Sat.refl _ _) ?_
  refine cw_seq ?_
  refine cw_region ?_
  refine ow_eff .none (stpU_box 0 rfl rfl) rfl ?_
  rintro _ _ ⟨b1, rfl, rfl⟩
  refine ow_eff .none (stpU_box 1 rfl rfl) rfl ?_
  rintro _ _ ⟨b2, rfl, rfl⟩
  refine ow_det .none (stp_assign rfl) rfl ?_
  refine ow_nil ?_
  refine kw_nx ?_
  refine cw_seq ?_
  refine cw_region ?_
  refine ow_det .none (stp_assign rfl) rfl ?_
  refine ow_nil ?_
  refine kw_nx ?_
  refine cw_seq ?_
  refine cw_region ?_
  refine ow_det .none (stp_loadN (us := [_, _]) ts41 rfl (Cells.box (id := 0) rfl 2 rfl)) rfl ?_
  refine ow_det .none (stp_move rfl) rfl ?_
  obtain ⟨x3, e3, H0⟩ := bind_some H0
  refine ow_eff .none (stpU_call (fun i => 2 + i) cf19 (fun w hw => c_l_szTable fl w a0 p0_0 ((a0.b).length) c0_0 p0_1 ((a0.f).length) c0_1 1048576 rfl (RO.pass hr0_0 hw) rfl (RO.pass hr0_1 hw) x3 e3) (sevs_cons rfl (sevs_cons rfl sevs_nil))) rfl ?_
  rintro _ _ ⟨_, ⟨rfl, rfl⟩, rfl⟩
  refine ow_det .none (stp_assign rfl) rfl ?_
  refine ow_nil ?_
  refine kw_nx ?_
  refine cw_seq ?_
  refine cw_seq ?_
  refine cw_region ?_
  refine ow_det .none (stp_move rfl) rfl ?_
  refine ow_det .none (stp_lss rfl rfl) rfl ?_
  refine ow_nil ?_
  refine kw_nx ?_
  refine cw_cond rfl (fun h4 => ?_) (fun h4 => ?_)
  · have H0 := cond_t H0 h4
    refine cw_seq ?_
    refine cw_region ?_
    refine ow_det .none (stp_assign rfl) rfl ?_
    refine ow_nil ?_
    refine kw_nx ?_
    refine cw_ret ?_
    refine kw_nx_ret ?_
    have q0 := Option.some.inj H0
    subst q0
    exact kw_ret Tryd.results7 (.cons (.tmp rfl) .nil) [] [] trivial (by decide) ⟨rfl, rfl⟩
  · have H0 := cond_f H0 h4
    refine cw_skip ?_
    refine kw_nx ?_
    refine cw_seq ?_
    obtain ⟨x5, e5, H0⟩ := bind_some H0
    obtain ⟨x14, e14, H0⟩ := bind_some H0
    obtain ⟨x15, e15, H0⟩ := bind_some H0
    refine region_drawn { dst := fun i => match i with | 0 => some 22 | 1 => some 23 | 2 => some 24 | 3 => some 25 | 4 => some 26 | 5 => some 21 | 6 => some 27 | 7 => some 28 | 8 => some 6 | 10 => some 7 | _ => none, pre := fun i => match i with | 1 => [0] | 3 => [0, 1, 2] | 4 => [0, 1, 2, 3] | 5 => [0, 1, 2, 3, 4] | 6 => [0, 1, 2, 3, 4, 5] | 7 => [0, 1, 2, 3, 4, 5] | 9 => [0, 1, 2, 3, 4, 5, 6, 8] | 10 => [0, 1, 2, 3, 4, 5, 6, 7, 8, 9] | _ => [], ids := fun i => match i with | 1 => [2, 3] | 4 => [4, 5] | 8 => [6] | 9 => [6] | _ => [], rs := fun i => match i with | 0 => [(2, none)] | 1 => [(22, some 0)] | 2 => [(3, none)] | 3 => [(24, some 2)] | 4 => [(23, some 1), (25, some 3)] | 5 => [(26, some 4)] | 6 => [(21, some 5)] | 7 => [(21, some 5)] | 9 => [(6, some 8), (27, some 6)] | 10 => [(28, some 7)] | _ => [], rh := fun i => match i with | 0 => [(0, none)] | 2 => [(1, none)] | 4 => [(2, some 1), (3, some 1)] | 9 => [(6, some 8)] | _ => [], V := fun i g => match i with | 0 => .agg #[.slice p0_0 ((a0.b).length) c0_0, .slice p0_1 ((a0.f).length) c0_1] | 1 => .agg #[.slice ((g 1).A 0) ((x5.b).length) ((g 1).C 0), .slice ((g 1).A 1) ((x5.f).length) ((g 1).C 1)] | 2 => .agg #[.int .i64 a1.s, .int .i64 a1.p] | 3 => .agg #[.int .i64 x14.s, .int .i64 x14.p] | 4 => .tuple #[.agg #[.slice ((g 4).A 0) ((x15.1.b).length) ((g 4).C 0), .slice ((g 4).A 1) ((x15.1.f).length) ((g 4).C 1)], .bool x15.2] | 5 => .tuple #[.agg #[.slice ((g 4).A 0) ((x15.1.b).length) ((g 4).C 0), .slice ((g 4).A 1) ((x15.1.f).length) ((g 4).C 1)], .bool x15.2] | 6 => .agg #[.slice ((g 4).A 0) ((x15.1.b).length) ((g 4).C 0), .slice ((g 4).A 1) ((x15.1.f).length) ((g 4).C 1)] | 7 => .bool x15.2 | 8 => .pointer (some ⟨((g 8).C 0), 0, none⟩) | 10 => .bool x15.2 | _ => undef, U := fun i g => match i with | 1 => [(2, ((g 1).R 0)), (3, ((g 1).R 1))] | 4 => [(4, ((g 4).R 0)), (5, ((g 4).R 1))] | 8 => [(6, [(((g 8).C 0), .cells #[.slice none 0 0, .slice none 0 0] 26 (0, 0))])] | 9 => [(6, [(((g 8).C 0), .cells #[.slice ((g 4).A 0) ((x15.1.b).length) ((g 4).C 0), .slice ((g 4).A 1) ((x15.1.f).length) ((g 4).C 1)] 26 (0, 0))])] | _ => [], Φ := fun i x => match i with | 1 => OwnC (α := Int) 3 (x.A 0) (x.C 0) x5.b (x.R 0) ∧ OwnC (α := F) 53 (x.A 1) (x.C 1) x5.f (x.R 1) | 4 => OwnC (α := Int) 3 (x.A 0) (x.C 0) x15.1.b (x.R 0) ∧ OwnC (α := F) 53 (x.A 1) (x.C 1) x15.1.f (x.R 1) | _ => True } g_mixed [2, 3] [0, 1] (by kernel_rfl) (by kernel_rfl) (by kernel_rfl) ⟨⟨⟨⟨⟨⟨⟨⟨⟨⟨⟨trivial, fun _ => ⟨rfl, rfl⟩⟩, fun _ => ⟨rfl, rfl⟩⟩, fun _ => ⟨rfl, rfl⟩⟩, fun _ => ⟨rfl, rfl⟩⟩, fun _ => ⟨rfl, rfl⟩⟩, fun _ => ⟨rfl, rfl⟩⟩, fun _ => ⟨rfl, rfl⟩⟩, fun _ => ⟨rfl, rfl⟩⟩, fun _ => ⟨rfl, rfl⟩⟩, fun _ => ⟨rfl, rfl⟩⟩, fun _ => ⟨rfl, rfl⟩⟩ ?_ ?_
    · refine ⟨⟨⟨⟨⟨⟨⟨⟨⟨⟨⟨trivial, ?_⟩, ?_⟩, ?_⟩, ?_⟩, ?_⟩, ?_⟩, ?_⟩, ?_⟩, ?_⟩, ?_⟩, ?_⟩
      · exact loc_det rfl rfl (fun _ => rfl) trivial (fun g hΦ s h hs hh => ⟨.none, (stp_loadN (us := [_, _]) ts41 (sv hs 2 rfl) (Cells.box (id := 0) (hh.get 0 _ rfl) 2 rfl))⟩)
      · refine loc_eff rfl rfl (fun g hΦ s h hs hh => ⟨.none, (stpU_call (fun i => 2 + i) cf21 (fun w hw => c_l_toTable fl w a0 p0_0 ((a0.b).length) c0_0 p0_1 ((a0.f).length) c0_1 rfl (RO.pass hr0_0 hw) rfl (RO.pass hr0_1 hw) x5 e5) (sevs_cons (sv hs 22 rfl) sevs_nil))⟩) ?_
        rintro g _ _ ⟨_, ⟨p6, n7, c8, C9, p10, n11, c12, C13, rfl, rfl, hnn7, o9, hnn11, o13⟩, rfl⟩
        obtain rfl := hnn7
        obtain rfl := hnn11
        exact ⟨⟨[p6, p10], [c8, c12], [C9, C13]⟩, ⟨o9, o13⟩, .inr rfl, rfl⟩
      · exact loc_det rfl rfl (fun _ => rfl) trivial (fun g hΦ s h hs hh => ⟨.none, (stp_loadN (us := [_, _]) ts42 (sv hs 3 rfl) (Cells.box (id := 1) (hh.get 1 _ rfl) 2 rfl))⟩)
      · refine loc_eff rfl rfl (fun g hΦ s h hs hh => ⟨.none, (stpU_call (fun i => 4 + i) cf22 (fun w hw => c_l_toKey fl w a1 x14 e14) (sevs_cons (sv hs 24 rfl) sevs_nil))⟩) ?_
        rintro g _ _ ⟨_, ⟨rfl, rfl⟩, rfl⟩
        exact ⟨⟨[], [], []⟩, trivial, .inr rfl, rfl⟩
      · refine loc_eff rfl rfl (fun g hΦ s h hs hh => ⟨.none, (stpU_call (fun i => 4 + i) cf28 (fun w hw => c_s_UnmapPage fl w x5 ((g 1).A 0) ((x5.b).length) ((g 1).C 0) ((g 1).A 1) ((x5.f).length) ((g 1).C 1) x14 rfl (OwnC.pass (id := 2) (hh.get 2 _ rfl) (hΦ 1 rfl).1 hw) rfl (OwnC.pass (id := 3) (hh.get 3 _ rfl) (hΦ 1 rfl).2 hw) x15 e15) (sevs_cons (sv hs 23 rfl) (sevs_cons (sv hs 25 rfl) sevs_nil)))⟩) ?_
        rintro g _ _ ⟨_, ⟨p16, n17, c18, C19, p20, n21, c22, C23, rfl, rfl, hnn17, o19, hnn21, o23⟩, rfl⟩
        obtain rfl := hnn17
        obtain rfl := hnn21
        exact ⟨⟨[p16, p20], [c18, c22], [C19, C23]⟩, ⟨o19, o23⟩, .inr rfl, rfl⟩
      · exact loc_det rfl rfl (fun _ => rfl) trivial (fun g hΦ s h hs hh => ⟨.none, (stp_move (sv hs 26 rfl))⟩)
      · exact loc_det rfl rfl (fun _ => rfl) trivial (fun g hΦ s h hs hh => ⟨.none, (stp_extract (sv hs 21 rfl) rfl)⟩)
      · exact loc_det rfl rfl (fun _ => rfl) trivial (fun g hΦ s h hs hh => ⟨.none, (stp_extract (sv hs 21 rfl) rfl)⟩)
      · refine loc_eff rfl rfl (fun g hΦ s h hs hh => ⟨.none, (stpU_alloc 6 tz26 rfl)⟩) ?_
        rintro g _ _ ⟨b24, rfl, rfl⟩
        exact ⟨⟨[], [b24], []⟩, trivial, .inr rfl, rfl⟩
      · refine loc_eff rfl rfl (fun g hΦ s h hs hh => ⟨.none, (stpU_store (id := 6) (cs' := [.slice ((g 4).A 0) ((x15.1.b).length) ((g 4).C 0), .slice ((g 4).A 1) ((x15.1.f).length) ((g 4).C 1)]) ts26 (sv hs 6 rfl) (sv hs 27 rfl) (hh.get 6 _ rfl) rfl rfl rfl rfl)⟩) ?_
        rintro g _ _ rfl
        exact ⟨⟨[], [], []⟩, trivial, .inl rfl, rfl⟩
      · exact loc_det rfl rfl (fun _ => rfl) trivial (fun g hΦ s h hs hh => ⟨.none, (stp_assign (sv hs 28 rfl))⟩)
    · intro g hΦ
      refine kw_gen (ι := Option Addr × Option Addr × Nat × Nat × Res × Res × Option Addr × Option Addr × Nat × Nat × Res × Res × Nat) (((g 1).A 0), ((g 1).A 1), ((g 1).C 0), ((g 1).C 1), ((g 1).R 0), ((g 1).R 1), ((g 4).A 0), ((g 4).A 1), ((g 4).C 0), ((g 4).C 1), ((g 4).R 0), ((g 4).R 1), ((g 8).C 0)) (fun | (p6, p10, c8, c12, C9, C13, p16, p20, c18, c22, C19, C23, b24) => OwnC (α := Int) 3 p6 c8 x5.b C9 ∧ OwnC (α := F) 53 p10 c12 x5.f C13 ∧ OwnC (α := Int) 3 p16 c18 x15.1.b C19 ∧ OwnC (α := F) 53 p20 c22 x15.1.f C23) (fun | (p6, p10, c8, c12, C9, C13, p16, p20, c18, c22, C19, C23, b24) => [(2, .pointer (some ⟨b1, 0, none⟩)), (3, .pointer (some ⟨b2, 0, none⟩)), (6, .pointer (some ⟨b24, 0, none⟩)), (7, .bool x15.2)]) (fun | (p6, p10, c8, c12, C9, C13, p16, p20, c18, c22, C19, C23, b24) => [(0, [(b1, .cells #[.slice p0_0 ((a0.b).length) c0_0, .slice p0_1 ((a0.f).length) c0_1] 41 (0, 0))]), (1, [(b2, .cells #[.int .i64 a1.s, .int .i64 a1.p] 42 (0, 0))]), (4, C19), (5, C23), (6, [(b24, .cells #[.slice p16 ((x15.1.b).length) c18, .slice p20 ((x15.1.f).length) c22] 26 (0, 0))])]) ⟨(hΦ 1 (by decide)).1, (hΦ 1 (by decide)).2, (hΦ 4 (by decide)).1, (hΦ 4 (by decide)).2⟩ ⟨rfl, rfl, rfl, rfl, trivial⟩ ⟨rfl, rfl, rfl, rfl, rfl, trivial⟩ ?_
      rintro ⟨p6, p10, c8, c12, C9, C13, p16, p20, c18, c22, C19, C23, b24⟩ ⟨o9, o13, o19, o23⟩
      refine KW.sub (s' := [(2, .pointer (some ⟨b1, 0, none⟩)), (3, .pointer (some ⟨b2, 0, none⟩)), (6, .pointer (some ⟨b24, 0, none⟩)), (7, .bool x15.2)]) (h' := [(0, [(b1, .cells #[.slice p0_0 ((a0.b).length) c0_0, .slice p0_1 ((a0.f).length) c0_1] 41 (0, 0))]), (1, [(b2, .cells #[.int .i64 a1.s, .int .i64 a1.p] 42 (0, 0))]), (4, C19), (5, C23), (6, [(b24, .cells #[.slice p16 ((x15.1.b).length) c18, .slice p20 ((x15.1.f).length) c22] 26 (0, 0))])]) ?_ ⟨rfl, rfl, rfl, rfl, trivial⟩ ⟨rfl, rfl, rfl, rfl, rfl, trivial⟩
      refine kw_nx ?_
      refine cw_seq ?_
      refine cw_region ?_
      refine ow_det .none (stp_loadN (us := [_, _]) ts41 rfl (Cells.box (id := 0) rfl 2 rfl)) rfl ?_
      obtain ⟨x25, e25, H0⟩ := bind_some H0
      refine ow_eff .none (stpU_call (fun i => 7 + i) cf21 (fun w hw => c_l_toTable fl w a0 p0_0 ((a0.b).length) c0_0 p0_1 ((a0.f).length) c0_1 rfl (RO.pass hr0_0 hw) rfl (RO.pass hr0_1 hw) x25 e25) (sevs_cons rfl sevs_nil)) rfl ?_
      rintro _ _ ⟨_, ⟨p26, n27, c28, C29, p30, n31, c32, C33, rfl, rfl, hnn27, o29, hnn31, o33⟩, rfl⟩
      obtain rfl := hnn27
      obtain rfl := hnn31
      refine ow_eff .none (stpU_alloc 9 tz26 rfl) rfl ?_
      rintro _ _ ⟨b34, rfl, rfl⟩
      refine ow_eff0 .none (stpU_store (id := 9) (cs' := [.slice p26 ((x25.b).length) c28, .slice p30 ((x25.f).length) c32]) ts26 rfl rfl rfl rfl rfl rfl rfl) ?_
      rintro _ _ rfl
      refine ow_nil ?_
      refine kw_nx ?_
      refine cw_seq ?_
      obtain ⟨x35, e35, H0⟩ := bind_some H0
      refine region_drawn { dst := fun i => match i with | 0 => some 32 | 1 => some 33 | 2 => some 34 | 3 => some 35 | 4 => some 31 | 5 => some 36 | 6 => some 37 | 7 => some 9 | 9 => some 10 | _ => none, pre := fun i => match i with | 2 => [1] | 3 => [0, 1, 2] | 4 => [0, 1, 2, 3] | 5 => [0, 1, 2, 3, 4] | 6 => [0, 1, 2, 3, 4] | 8 => [0, 1, 2, 3, 4, 5, 7] | 9 => [0, 1, 2, 3, 4, 5, 6, 7, 8] | _ => [], ids := fun i => match i with | 3 => [10, 11] | 7 => [12] | 8 => [12] | _ => [], rs := fun i => match i with | 0 => [(8, none)] | 1 => [(3, none)] | 2 => [(33, some 1)] | 3 => [(32, some 0), (34, some 2)] | 4 => [(35, some 3)] | 5 => [(31, some 4)] | 6 => [(31, some 4)] | 8 => [(9, some 7), (36, some 5)] | 9 => [(37, some 6)] | _ => [], rh := fun i => match i with | 0 => [(9, none)] | 1 => [(1, none)] | 3 => [(7, none), (8, none)] | 8 => [(12, some 7)] | _ => [], V := fun i g => match i with | 0 => .agg #[.slice p26 ((x25.b).length) c28, .slice p30 ((x25.f).length) c32] | 1 => .agg #[.int .i64 a1.s, .int .i64 a1.p] | 2 => .agg #[.int .i64 x14.s, .int .i64 x14.p] | 3 => .tuple #[.agg #[.slice ((g 3).A 0) ((x35.1.b).length) ((g 3).C 0), .slice ((g 3).A 1) ((x35.1.f).length) ((g 3).C 1)], .bool x35.2] | 4 => .tuple #[.agg #[.slice ((g 3).A 0) ((x35.1.b).length) ((g 3).C 0), .slice ((g 3).A 1) ((x35.1.f).length) ((g 3).C 1)], .bool x35.2] | 5 => .agg #[.slice ((g 3).A 0) ((x35.1.b).length) ((g 3).C 0), .slice ((g 3).A 1) ((x35.1.f).length) ((g 3).C 1)] | 6 => .bool x35.2 | 7 => .pointer (some ⟨((g 7).C 0), 0, none⟩) | 9 => .bool x35.2 | _ => undef, U := fun i g => match i with | 3 => [(10, ((g 3).R 0)), (11, ((g 3).R 1))] | 7 => [(12, [(((g 7).C 0), .cells #[.slice none 0 0, .slice none 0 0] 26 (0, 0))])] | 8 => [(12, [(((g 7).C 0), .cells #[.slice ((g 3).A 0) ((x35.1.b).length) ((g 3).C 0), .slice ((g 3).A 1) ((x35.1.f).length) ((g 3).C 1)] 26 (0, 0))])] | _ => [], Φ := fun i x => match i with | 3 => OwnC (α := Int) 3 (x.A 0) (x.C 0) x35.1.b (x.R 0) ∧ OwnC (α := F) 53 (x.A 1) (x.C 1) x35.1.f (x.R 1) | _ => True } g_mixed [3, 8] [1, 7, 8, 9] (by kernel_rfl) (by kernel_rfl) (by kernel_rfl) ⟨⟨⟨⟨⟨⟨⟨⟨⟨⟨trivial, fun _ => ⟨rfl, rfl⟩⟩, fun _ => ⟨rfl, rfl⟩⟩, fun _ => ⟨rfl, rfl⟩⟩, fun _ => ⟨rfl, rfl⟩⟩, fun _ => ⟨rfl, rfl⟩⟩, fun _ => ⟨rfl, rfl⟩⟩, fun _ => ⟨rfl, rfl⟩⟩, fun _ => ⟨rfl, rfl⟩⟩, fun _ => ⟨rfl, rfl⟩⟩, fun _ => ⟨rfl, rfl⟩⟩ ?_ ?_
      · refine ⟨⟨⟨⟨⟨⟨⟨⟨⟨⟨trivial, ?_⟩, ?_⟩, ?_⟩, ?_⟩, ?_⟩, ?_⟩, ?_⟩, ?_⟩, ?_⟩, ?_⟩
        · exact loc_det rfl rfl (fun _ => rfl) trivial (fun g hΦ s h hs hh => ⟨.none, (stp_loadN (us := [_, _]) ts26 (sv hs 8 rfl) (Cells.box (id := 9) (hh.get 9 _ rfl) 2 rfl))⟩)
        · exact loc_det rfl rfl (fun _ => rfl) trivial (fun g hΦ s h hs hh => ⟨.none, (stp_loadN (us := [_, _]) ts42 (sv hs 3 rfl) (Cells.box (id := 1) (hh.get 1 _ rfl) 2 rfl))⟩)
        · refine loc_eff rfl rfl (fun g hΦ s h hs hh => ⟨.none, (stpU_call (fun i => 10 + i) cf22 (fun w hw => c_l_toKey fl w a1 x14 e14) (sevs_cons (sv hs 33 rfl) sevs_nil))⟩) ?_
          rintro g _ _ ⟨_, ⟨rfl, rfl⟩, rfl⟩
          exact ⟨⟨[], [], []⟩, trivial, .inr rfl, rfl⟩
        · refine loc_eff rfl rfl (fun g hΦ s h hs hh => ⟨.none, (stpU_call (fun i => 10 + i) cf17 (fun w hw => c_i_UnmapPage fl w x25 p26 ((x25.b).length) c28 p30 ((x25.f).length) c32 x14 rfl (OwnC.pass (id := 7) (hh.get 7 _ rfl) o29 hw) rfl (OwnC.pass (id := 8) (hh.get 8 _ rfl) o33 hw) (RO.pass hg hw) x35 e35) (sevs_cons (sv hs 32 rfl) (sevs_cons (sv hs 34 rfl) sevs_nil)))⟩) ?_
          rintro g _ _ ⟨_, ⟨p36, n37, c38, C39, p40, n41, c42, C43, rfl, rfl, hnn37, o39, hnn41, o43⟩, rfl⟩
          obtain rfl := hnn37
          obtain rfl := hnn41
          exact ⟨⟨[p36, p40], [c38, c42], [C39, C43]⟩, ⟨o39, o43⟩, .inr rfl, rfl⟩
        · exact loc_det rfl rfl (fun _ => rfl) trivial (fun g hΦ s h hs hh => ⟨.none, (stp_move (sv hs 35 rfl))⟩)
        · exact loc_det rfl rfl (fun _ => rfl) trivial (fun g hΦ s h hs hh => ⟨.none, (stp_extract (sv hs 31 rfl) rfl)⟩)
        · exact loc_det rfl rfl (fun _ => rfl) trivial (fun g hΦ s h hs hh => ⟨.none, (stp_extract (sv hs 31 rfl) rfl)⟩)
        · refine loc_eff rfl rfl (fun g hΦ s h hs hh => ⟨.none, (stpU_alloc 12 tz26 rfl)⟩) ?_
          rintro g _ _ ⟨b44, rfl, rfl⟩
          exact ⟨⟨[], [b44], []⟩, trivial, .inr rfl, rfl⟩
        · refine loc_eff rfl rfl (fun g hΦ s h hs hh => ⟨.none, (stpU_store (id := 12) (cs' := [.slice ((g 3).A 0) ((x35.1.b).length) ((g 3).C 0), .slice ((g 3).A 1) ((x35.1.f).length) ((g 3).C 1)]) ts26 (sv hs 9 rfl) (sv hs 36 rfl) (hh.get 12 _ rfl) rfl rfl rfl rfl)⟩) ?_
          rintro g _ _ rfl
          exact ⟨⟨[], [], []⟩, trivial, .inl rfl, rfl⟩
        · exact loc_det rfl rfl (fun _ => rfl) trivial (fun g hΦ s h hs hh => ⟨.none, (stp_assign (sv hs 37 rfl))⟩)
      · intro g hΦ
        refine kw_gen (ι := Option Addr × Option Addr × Nat × Nat × Res × Res × Nat) (((g 3).A 0), ((g 3).A 1), ((g 3).C 0), ((g 3).C 1), ((g 3).R 0), ((g 3).R 1), ((g 7).C 0)) (fun | (p36, p40, c38, c42, C39, C43, b44) => OwnC (α := Int) 3 p36 c38 x35.1.b C39 ∧ OwnC (α := F) 53 p40 c42 x35.1.f C43) (fun | (p36, p40, c38, c42, C39, C43, b44) => [(2, .pointer (some ⟨b1, 0, none⟩)), (3, .pointer (some ⟨b2, 0, none⟩)), (6, .pointer (some ⟨b24, 0, none⟩)), (7, .bool x15.2), (8, .pointer (some ⟨b34, 0, none⟩)), (9, .pointer (some ⟨b44, 0, none⟩)), (10, .bool x35.2)]) (fun | (p36, p40, c38, c42, C39, C43, b44) => [(0, [(b1, .cells #[.slice p0_0 ((a0.b).length) c0_0, .slice p0_1 ((a0.f).length) c0_1] 41 (0, 0))]), (1, [(b2, .cells #[.int .i64 a1.s, .int .i64 a1.p] 42 (0, 0))]), (4, C19), (5, C23), (6, [(b24, .cells #[.slice p16 ((x15.1.b).length) c18, .slice p20 ((x15.1.f).length) c22] 26 (0, 0))]), (7, C29), (8, C33), (9, [(b34, .cells #[.slice p26 ((x25.b).length) c28, .slice p30 ((x25.f).length) c32] 26 (0, 0))]), (10, C39), (11, C43), (12, [(b44, .cells #[.slice p36 ((x35.1.b).length) c38, .slice p40 ((x35.1.f).length) c42] 26 (0, 0))])]) ⟨(hΦ 3 (by decide)).1, (hΦ 3 (by decide)).2⟩ ⟨rfl, rfl, rfl, rfl, rfl, rfl, rfl, trivial⟩ ⟨rfl, rfl, rfl, rfl, rfl, rfl, rfl, rfl, rfl, rfl, rfl, trivial⟩ ?_
        rintro ⟨p36, p40, c38, c42, C39, C43, b44⟩ ⟨o39, o43⟩
        refine KW.sub (s' := [(2, .pointer (some ⟨b1, 0, none⟩)), (3, .pointer (some ⟨b2, 0, none⟩)), (6, .pointer (some ⟨b24, 0, none⟩)), (7, .bool x15.2), (8, .pointer (some ⟨b34, 0, none⟩)), (9, .pointer (some ⟨b44, 0, none⟩)), (10, .bool x35.2)]) (h' := [(0, [(b1, .cells #[.slice p0_0 ((a0.b).length) c0_0, .slice p0_1 ((a0.f).length) c0_1] 41 (0, 0))]), (1, [(b2, .cells #[.int .i64 a1.s, .int .i64 a1.p] 42 (0, 0))]), (4, C19), (5, C23), (6, [(b24, .cells #[.slice p16 ((x15.1.b).length) c18, .slice p20 ((x15.1.f).length) c22] 26 (0, 0))]), (7, C29), (8, C33), (9, [(b34, .cells #[.slice p26 ((x25.b).length) c28, .slice p30 ((x25.f).length) c32] 26 (0, 0))]), (10, C39), (11, C43), (12, [(b44, .cells #[.slice p36 ((x35.1.b).length) c38, .slice p40 ((x35.1.f).length) c42] 26 (0, 0))])]) ?_ ⟨rfl, rfl, rfl, rfl, rfl, rfl, rfl, trivial⟩ ⟨rfl, rfl, rfl, rfl, rfl, rfl, rfl, rfl, rfl, rfl, rfl, trivial⟩
        refine kw_nx ?_
        refine cw_seq ?_
        refine cw_seq ?_
        refine cw_region ?_
        refine ow_det .none (stp_loadN (us := [_, _]) ts26 rfl (Cells.box (id := 12) rfl 2 rfl)) rfl ?_
        refine ow_det .none (stp_loadN (us := [_, _]) ts26 rfl (Cells.box (id := 6) rfl 2 rfl)) rfl ?_
        obtain ⟨x45, e45, H0⟩ := bind_some H0
        refine ow_eff .none (stpU_call (fun i => 13 + i) cf24 (fun w hw => c_l_eqTable fl w x35.1 p36 ((x35.1.b).length) c38 p40 ((x35.1.f).length) c42 x15.1 p16 ((x15.1.b).length) c18 p20 ((x15.1.f).length) c22 rfl (OwnC.pass (id := 10) rfl o39 hw) rfl (OwnC.pass (id := 11) rfl o43 hw) rfl (OwnC.pass (id := 4) rfl o19 hw) rfl (OwnC.pass (id := 5) rfl o23 hw) x45 e45) (sevs_cons rfl (sevs_cons rfl sevs_nil))) rfl ?_
        rintro _ _ ⟨_, ⟨rfl, rfl⟩, rfl⟩
        refine ow_det .none (stp_not rfl) rfl ?_
        refine ow_det .none (stp_move rfl) rfl ?_
        obtain ⟨y46, ey46, H0⟩ := bind_some H0
        refine ow_cutY 4 46 y46 ?_ ?_
        · rcases Bool.eq_false_or_eq_true (!x45) with hy46 | hy46
          · have ey46 := cond_t ey46 hy46
            refine ow_off (.some rfl hy46) rfl ?_
            refine ow_off (.some rfl hy46) rfl ?_
            refine ow_off (.some rfl hy46) rfl ?_
            refine ow_det .none (stp_pick_t rfl hy46 rfl) rfl ?_
            obtain rfl := Option.some.inj ey46
            exact ow_nil (kw_jy (.top rfl (.cons rfl (.cons rfl (.cons rfl (.cons rfl (.refl _)))))) (.refl _))
          · have ey46 := cond_f ey46 hy46
            refine ow_det (.some rfl hy46) (stp_move rfl) rfl ?_
            refine ow_det (.some rfl hy46) (stp_move rfl) rfl ?_
            refine ow_det (.some rfl hy46) (stp_neqB Tryd.underlying4 rfl rfl) rfl ?_
            refine ow_det .none (stp_pick_f rfl hy46 rfl) rfl ?_
            obtain rfl := Option.some.inj ey46
            exact ow_nil (kw_jy (.top rfl (.cons rfl (.cons rfl (.cons rfl (.cons rfl (.refl _)))))) (.refl _))
        · refine ow_nil ?_
          refine kw_nx ?_
          refine cw_cond rfl (fun h47 => ?_) (fun h47 => ?_)
          · have H0 := cond_t H0 h47
            refine cw_seq ?_
            refine cw_region ?_
            refine ow_det .none (stp_assign rfl) rfl ?_
            refine ow_nil ?_
            refine kw_nx ?_
            refine cw_ret ?_
            refine kw_nx_ret ?_
            have q0 := Option.some.inj H0
            subst q0
            exact kw_ret Tryd.results7 (.cons (.tmp rfl) .nil) [] [] trivial (by decide) ⟨rfl, rfl⟩
          · have H0 := cond_f H0 h47
            refine cw_skip ?_
            refine kw_nx ?_
            refine cw_seq ?_
            refine cw_seq ?_
            obtain ⟨x48, e48, H0⟩ := bind_some H0
            obtain ⟨x57, e57, H0⟩ := bind_some H0
            refine region_drawn { dst := fun i => match i with | 0 => some 47 | 1 => some 48 | 2 => some 49 | 3 => some 50 | 4 => some 51 | _ => none, pre := fun i => match i with | 2 => [1] | 3 => [0, 1, 2] | 4 => [0, 1, 2, 3] | _ => [], ids := fun i => match i with | 2 => [13, 14] | _ => [], rs := fun i => match i with | 0 => [(8, none)] | 1 => [(2, none)] | 2 => [(48, some 1)] | 3 => [(47, some 0), (49, some 2)] | 4 => [(50, some 3)] | _ => [], rh := fun i => match i with | 0 => [(9, none)] | 1 => [(0, none)] | 3 => [(7, none), (8, none), (13, some 2), (14, some 2)] | _ => [], V := fun i g => match i with | 0 => .agg #[.slice p26 ((x25.b).length) c28, .slice p30 ((x25.f).length) c32] | 1 => .agg #[.slice p0_0 ((a0.b).length) c0_0, .slice p0_1 ((a0.f).length) c0_1] | 2 => .agg #[.slice ((g 2).A 0) ((x48.b).length) ((g 2).C 0), .slice ((g 2).A 1) ((x48.f).length) ((g 2).C 1)] | 3 => .bool x57 | 4 => .bool (!x57) | _ => undef, U := fun i g => match i with | 2 => [(13, ((g 2).R 0)), (14, ((g 2).R 1))] | _ => [], Φ := fun i x => match i with | 2 => OwnC (α := Int) 3 (x.A 0) (x.C 0) x48.b (x.R 0) ∧ OwnC (α := F) 53 (x.A 1) (x.C 1) x48.f (x.R 1) | _ => True } g_mixed [2, 8] [0, 7, 8, 9] (by kernel_rfl) (by kernel_rfl) (by kernel_rfl) ⟨⟨⟨⟨⟨trivial, fun _ => ⟨rfl, rfl⟩⟩, fun _ => ⟨rfl, rfl⟩⟩, fun _ => ⟨rfl, rfl⟩⟩, fun _ => ⟨rfl, rfl⟩⟩, fun _ => ⟨rfl, rfl⟩⟩ ?_ ?_
            · refine ⟨⟨⟨⟨⟨trivial, ?_⟩, ?_⟩, ?_⟩, ?_⟩, ?_⟩
              · exact loc_det rfl rfl (fun _ => rfl) trivial (fun g hΦ s h hs hh => ⟨.none, (stp_loadN (us := [_, _]) ts26 (sv hs 8 rfl) (Cells.box (id := 9) (hh.get 9 _ rfl) 2 rfl))⟩)
              · exact loc_det rfl rfl (fun _ => rfl) trivial (fun g hΦ s h hs hh => ⟨.none, (stp_loadN (us := [_, _]) ts41 (sv hs 2 rfl) (Cells.box (id := 0) (hh.get 0 _ rfl) 2 rfl))⟩)
              · refine loc_eff rfl rfl (fun g hΦ s h hs hh => ⟨.none, (stpU_call (fun i => 13 + i) cf21 (fun w hw => c_l_toTable fl w a0 p0_0 ((a0.b).length) c0_0 p0_1 ((a0.f).length) c0_1 rfl (RO.pass hr0_0 hw) rfl (RO.pass hr0_1 hw) x48 e48) (sevs_cons (sv hs 48 rfl) sevs_nil))⟩) ?_
                rintro g _ _ ⟨_, ⟨p49, n50, c51, C52, p53, n54, c55, C56, rfl, rfl, hnn50, o52, hnn54, o56⟩, rfl⟩
                obtain rfl := hnn50
                obtain rfl := hnn54
                exact ⟨⟨[p49, p53], [c51, c55], [C52, C56]⟩, ⟨o52, o56⟩, .inr rfl, rfl⟩
              · refine loc_eff rfl rfl (fun g hΦ s h hs hh => ⟨.none, (stpU_call (fun i => 15 + i) cf24 (fun w hw => c_l_eqTable fl w x25 p26 ((x25.b).length) c28 p30 ((x25.f).length) c32 x48 ((g 2).A 0) ((x48.b).length) ((g 2).C 0) ((g 2).A 1) ((x48.f).length) ((g 2).C 1) rfl (OwnC.pass (id := 7) (hh.get 7 _ rfl) o29 hw) rfl (OwnC.pass (id := 8) (hh.get 8 _ rfl) o33 hw) rfl (OwnC.pass (id := 13) (hh.get 13 _ rfl) (hΦ 2 rfl).1 hw) rfl (OwnC.pass (id := 14) (hh.get 14 _ rfl) (hΦ 2 rfl).2 hw) x57 e57) (sevs_cons (sv hs 47 rfl) (sevs_cons (sv hs 49 rfl) sevs_nil)))⟩) ?_
                rintro g _ _ ⟨_, ⟨rfl, rfl⟩, rfl⟩
                exact ⟨⟨[], [], []⟩, trivial, .inr rfl, rfl⟩
              · exact loc_det rfl rfl (fun _ => rfl) trivial (fun g hΦ s h hs hh => ⟨.none, (stp_not (sv hs 50 rfl))⟩)
            · intro g hΦ
              refine kw_gen (ι := Option Addr × Option Addr × Nat × Nat × Res × Res) (((g 2).A 0), ((g 2).A 1), ((g 2).C 0), ((g 2).C 1), ((g 2).R 0), ((g 2).R 1)) (fun | (p49, p53, c51, c55, C52, C56) => OwnC (α := Int) 3 p49 c51 x48.b C52 ∧ OwnC (α := F) 53 p53 c55 x48.f C56) (fun | (p49, p53, c51, c55, C52, C56) => [(2, .pointer (some ⟨b1, 0, none⟩)), (3, .pointer (some ⟨b2, 0, none⟩)), (6, .pointer (some ⟨b24, 0, none⟩)), (7, .bool x15.2), (8, .pointer (some ⟨b34, 0, none⟩)), (9, .pointer (some ⟨b44, 0, none⟩)), (10, .bool x35.2), (51, .bool (!x57))]) (fun | (p49, p53, c51, c55, C52, C56) => [(0, [(b1, .cells #[.slice p0_0 ((a0.b).length) c0_0, .slice p0_1 ((a0.f).length) c0_1] 41 (0, 0))]), (1, [(b2, .cells #[.int .i64 a1.s, .int .i64 a1.p] 42 (0, 0))]), (4, C19), (5, C23), (6, [(b24, .cells #[.slice p16 ((x15.1.b).length) c18, .slice p20 ((x15.1.f).length) c22] 26 (0, 0))]), (7, C29), (8, C33), (9, [(b34, .cells #[.slice p26 ((x25.b).length) c28, .slice p30 ((x25.f).length) c32] 26 (0, 0))]), (10, C39), (11, C43), (12, [(b44, .cells #[.slice p36 ((x35.1.b).length) c38, .slice p40 ((x35.1.f).length) c42] 26 (0, 0))])]) ⟨(hΦ 2 (by decide)).1, (hΦ 2 (by decide)).2⟩ ⟨rfl, rfl, rfl, rfl, rfl, rfl, rfl, rfl, trivial⟩ ⟨rfl, rfl, rfl, rfl, rfl, rfl, rfl, rfl, rfl, rfl, rfl, trivial⟩ ?_
              rintro ⟨p49, p53, c51, c55, C52, C56⟩ ⟨o52, o56⟩
              refine KW.sub (s' := [(2, .pointer (some ⟨b1, 0, none⟩)), (3, .pointer (some ⟨b2, 0, none⟩)), (6, .pointer (some ⟨b24, 0, none⟩)), (7, .bool x15.2), (8, .pointer (some ⟨b34, 0, none⟩)), (9, .pointer (some ⟨b44, 0, none⟩)), (10, .bool x35.2), (51, .bool (!x57))]) (h' := [(0, [(b1, .cells #[.slice p0_0 ((a0.b).length) c0_0, .slice p0_1 ((a0.f).length) c0_1] 41 (0, 0))]), (1, [(b2, .cells #[.int .i64 a1.s, .int .i64 a1.p] 42 (0, 0))]), (4, C19), (5, C23), (6, [(b24, .cells #[.slice p16 ((x15.1.b).length) c18, .slice p20 ((x15.1.f).length) c22] 26 (0, 0))]), (7, C29), (8, C33), (9, [(b34, .cells #[.slice p26 ((x25.b).length) c28, .slice p30 ((x25.f).length) c32] 26 (0, 0))]), (10, C39), (11, C43), (12, [(b44, .cells #[.slice p36 ((x35.1.b).length) c38, .slice p40 ((x35.1.f).length) c42] 26 (0, 0))])]) ?_ ⟨rfl, rfl, rfl, rfl, rfl, rfl, rfl, rfl, trivial⟩ ⟨rfl, rfl, rfl, rfl, rfl, rfl, rfl, rfl, rfl, rfl, rfl, trivial⟩
              refine kw_nx ?_
              refine cw_cond rfl (fun h58 => ?_) (fun h58 => ?_)
              · have H0 := cond_t H0 h58
                refine cw_seq ?_
                refine cw_region ?_
                refine ow_det .none (stp_assign rfl) rfl ?_
                refine ow_nil ?_
                refine kw_nx ?_
                refine cw_ret ?_
                refine kw_nx_ret ?_
                have q0 := Option.some.inj H0
                subst q0
                exact kw_ret Tryd.results7 (.cons (.tmp rfl) .nil) [] [] trivial (by decide) ⟨rfl, rfl⟩
              · have H0 := cond_f H0 h58
                refine cw_skip ?_
                refine kw_nx ?_
                refine cw_seq ?_
                refine cw_region ?_
                refine ow_det .none (stp_assign rfl) rfl ?_
                refine ow_nil ?_
                refine kw_nx ?_
                refine cw_seq ?_
                refine cw_region ?_
                refine ow_det .none (stp_loadN (us := [_, _]) ts26 rfl (Cells.box (id := 9) rfl 2 rfl)) rfl ?_
                refine ow_det .none (stp_move rfl) rfl ?_
                obtain ⟨x59, e59, H0⟩ := bind_some H0
                refine ow_eff .none (stpU_callM (fun i => bif Nat.beq i 0 then 7 else bif Nat.beq i 1 then 8 else 15 + i) cf25 (fun w hw hb => c_l_markTable fl w x25 p26 ((x25.b).length) c28 C29 p30 ((x25.f).length) c32 C33 1 rfl o29 rfl o33 (hw.pass (js := [7, 8]) ⟨7, [8], rfl, rfl, 8, [], rfl, rfl, trivial⟩ (by decide)) x59 e59) (sevs_cons rfl (sevs_cons rfl sevs_nil)) ⟨rfl, (fun _ _ hp => by obtain ⟨_, _, _, rfl, _⟩ := hp; exact ⟨_, rfl⟩), rfl, (fun _ _ hp => by obtain ⟨_, _, _, rfl, _⟩ := hp; exact ⟨_, rfl⟩), trivial⟩) rfl ?_
                rintro _ _ ⟨_, ⟨C60, C61, rfl, rfl, hl60, o60, hl61, o61⟩, rfl⟩
                refine ow_det .none (stp_assign rfl) rfl ?_
                refine ow_nil ?_
                refine kw_nx ?_
                refine cw_seq ?_
                refine cw_seq ?_
                refine cw_region ?_
                refine ow_det .none (stp_move rfl) rfl ?_
                refine ow_det .none (stp_lss rfl rfl) rfl ?_
                refine ow_det .none (stp_move rfl) rfl ?_
                obtain ⟨y62, ey62, H0⟩ := bind_some H0
                refine ow_cutY 5 62 y62 ?_ ?_
                · rcases Bool.eq_false_or_eq_true (decide (x59.1 < 0)) with hy62 | hy62
                  · have ey62 := cond_t ey62 hy62
                    refine ow_off (.some rfl hy62) rfl ?_
                    refine ow_off (.some rfl hy62) rfl ?_
                    refine ow_off (.some rfl hy62) rfl ?_
                    refine ow_off (.some rfl hy62) rfl ?_
                    refine ow_det .none (stp_pick_t rfl hy62 rfl) rfl ?_
                    obtain rfl := Option.some.inj ey62
                    exact ow_nil (kw_jy (.top rfl (.cons rfl (.cons rfl (.cons rfl (.cons rfl (.cons rfl (.refl _))))))) (.refl _))
                  · have ey62 := cond_f ey62 hy62
                    refine ow_det (.some rfl hy62) (stp_loadN (us := [_, _]) ts26 rfl (Cells.box (id := 12) rfl 2 rfl)) rfl ?_
                    refine ow_det (.some rfl hy62) (stp_loadN (us := [_, _]) ts26 rfl (Cells.box (id := 6) rfl 2 rfl)) rfl ?_
                    refine ow_eff (.some rfl hy62) (stpU_call (fun i => 17 + i) cf24 (fun w hw => c_l_eqTable fl w x35.1 p36 ((x35.1.b).length) c38 p40 ((x35.1.f).length) c42 x15.1 p16 ((x15.1.b).length) c18 p20 ((x15.1.f).length) c22 rfl (OwnC.pass (id := 10) rfl o39 hw) rfl (OwnC.pass (id := 11) rfl o43 hw) rfl (OwnC.pass (id := 4) rfl o19 hw) rfl (OwnC.pass (id := 5) rfl o23 hw) x45 e45) (sevs_cons rfl (sevs_cons rfl sevs_nil))) rfl ?_
                    rintro _ _ ⟨_, ⟨rfl, rfl⟩, rfl⟩
                    refine ow_det (.some rfl hy62) (stp_not rfl) rfl ?_
                    refine ow_det .none (stp_pick_f rfl hy62 rfl) rfl ?_
                    obtain rfl := Option.some.inj ey62
                    exact ow_nil (kw_jy (.top rfl (.cons rfl (.cons rfl (.cons rfl (.cons rfl (.cons rfl (.refl _))))))) (.refl _))
                · refine ow_det .none (stp_move rfl) rfl ?_
                  obtain ⟨y63, ey63, H0⟩ := bind_some H0
                  refine ow_cutY 4 67 y63 ?_ ?_
                  · rcases Bool.eq_false_or_eq_true y62 with hy63 | hy63
                    · have ey63 := cond_t ey63 hy63
                      refine ow_off (.some rfl hy63) rfl ?_
                      refine ow_off (.some rfl hy63) rfl ?_
                      refine ow_off (.some rfl hy63) rfl ?_
                      refine ow_det .none (stp_pick_t rfl hy63 rfl) rfl ?_
                      obtain rfl := Option.some.inj ey63
                      exact ow_nil (kw_jy (.top rfl (.cons rfl (.cons rfl (.cons rfl (.cons rfl (.refl _)))))) (.refl _))
                    · have ey63 := cond_f ey63 hy63
                      refine ow_det (.some rfl hy63) (stp_move rfl) rfl ?_
                      refine ow_det (.some rfl hy63) (stp_move rfl) rfl ?_
                      refine ow_det (.some rfl hy63) (stp_neqB Tryd.underlying4 rfl rfl) rfl ?_
                      refine ow_det .none (stp_pick_f rfl hy63 rfl) rfl ?_
                      obtain rfl := Option.some.inj ey63
                      exact ow_nil (kw_jy (.top rfl (.cons rfl (.cons rfl (.cons rfl (.cons rfl (.refl _)))))) (.refl _))
                  · refine ow_nil ?_
                    refine kw_nx ?_
                    refine cw_cond rfl (fun h64 => ?_) (fun h64 => ?_)
                    · have H0 := cond_t H0 h64
                      refine cw_seq ?_
                      refine cw_region ?_
                      refine ow_det .none (stp_assign rfl) rfl ?_
                      refine ow_nil ?_
                      refine kw_nx ?_
                      refine cw_ret ?_
                      refine kw_nx_ret ?_
                      have q0 := Option.some.inj H0
                      subst q0
                      exact kw_ret Tryd.results7 (.cons (.tmp rfl) .nil) [] [] trivial (by decide) ⟨rfl, rfl⟩
                    · have H0 := cond_f H0 h64
                      refine cw_skip ?_
                      refine kw_nx ?_
                      refine cw_seq ?_
                      refine cw_region ?_
                      refine ow_det .none (stp_assign rfl) rfl ?_
                      refine ow_nil ?_
                      refine kw_nx ?_
                      refine cw_seq ?_
                      refine cw_region ?_
                      refine ow_det .none (stp_loadN (us := [_, _]) ts26 rfl (Cells.box (id := 12) rfl 2 rfl)) rfl ?_
                      refine ow_det .none (stp_move rfl) rfl ?_
                      obtain ⟨x65, e65, H0⟩ := bind_some H0
                      refine ow_eff .none (stpU_callM (fun i => bif Nat.beq i 0 then 10 else bif Nat.beq i 1 then 11 else 17 + i) cf25 (fun w hw hb => c_l_markTable fl w x35.1 p36 ((x35.1.b).length) c38 C39 p40 ((x35.1.f).length) c42 C43 1 rfl o39 rfl o43 (hw.pass (js := [10, 11]) ⟨10, [11], rfl, rfl, 11, [], rfl, rfl, trivial⟩ (by decide)) x65 e65) (sevs_cons rfl (sevs_cons rfl sevs_nil)) ⟨rfl, (fun _ _ hp => by obtain ⟨_, _, _, rfl, _⟩ := hp; exact ⟨_, rfl⟩), rfl, (fun _ _ hp => by obtain ⟨_, _, _, rfl, _⟩ := hp; exact ⟨_, rfl⟩), trivial⟩) rfl ?_
                      rintro _ _ ⟨_, ⟨C66, C67, rfl, rfl, hl66, o66, hl67, o67⟩, rfl⟩
                      refine ow_det .none (stp_assign rfl) rfl ?_
                      refine ow_nil ?_
                      refine kw_nx ?_
                      refine cw_seq ?_
                      refine cw_region ?_
                      refine ow_det .none (stp_assign rfl) rfl ?_
                      refine ow_nil ?_
                      refine kw_nx ?_
                      refine cw_seq ?_
                      refine cw_region ?_
                      refine ow_det .none (stp_loadN (us := [_, _]) ts26 rfl (Cells.box (id := 12) rfl 2 rfl)) rfl ?_
                      refine ow_det .none (stp_move rfl) rfl ?_
                      obtain ⟨x68, e68, H0⟩ := bind_some H0
                      refine ow_eff .none (stpU_call (fun i => 19 + i) cf26 (fun w hw => c_l_heldTable fl w (⟨x65.2.1, x65.2.2⟩ : T) p36 ((x35.1.b).length) c38 p40 ((x35.1.f).length) c42 1 (by simp [hl66]) (OwnC.pass (id := 10) rfl o66 hw) (by simp [hl67]) (OwnC.pass (id := 11) rfl o67 hw) x68 e68) (sevs_cons rfl (sevs_cons rfl sevs_nil))) rfl ?_
                      rintro _ _ ⟨_, ⟨rfl, rfl⟩, rfl⟩
                      refine ow_det .none (stp_assign rfl) rfl ?_
                      refine ow_nil ?_
                      refine kw_nx ?_
                      refine cw_seq ?_
                      refine cw_seq ?_
                      refine cw_region ?_
                      refine ow_det .none (stp_move rfl) rfl ?_
                      refine ow_det .none (stp_lss rfl rfl) rfl ?_
                      refine ow_nil ?_
                      refine kw_nx ?_
                      refine cw_cond rfl (fun h69 => ?_) (fun h69 => ?_)
                      · have H0 := cond_t H0 h69
                        refine cw_seq ?_
                        refine cw_region ?_
                        refine ow_det .none (stp_assign rfl) rfl ?_
                        refine ow_nil ?_
                        refine kw_nx ?_
                        refine cw_ret ?_
                        refine kw_nx_ret ?_
                        have q0 := Option.some.inj H0
                        subst q0
                        exact kw_ret Tryd.results7 (.cons (.tmp rfl) .nil) [] [] trivial (by decide) ⟨rfl, rfl⟩
                      · have H0 := cond_f H0 h69
                        refine cw_skip ?_
                        refine kw_nx ?_
                        refine cw_seq ?_
                        refine cw_seq ?_
                        refine cw_region ?_
                        refine ow_det .none (stp_move rfl) rfl ?_
                        refine ow_det .none (stp_move rfl) rfl ?_
                        refine ow_det .none (stp_neq rfl rfl) rfl ?_
                        refine ow_nil ?_
                        refine kw_nx ?_
                        refine cw_cond rfl (fun h70 => ?_) (fun h70 => ?_)
                        · have H0 := cond_t H0 h70
                          refine cw_seq ?_
                          refine cw_region ?_
                          refine ow_det .none (stp_assign rfl) rfl ?_
                          refine ow_nil ?_
                          refine kw_nx ?_
                          refine cw_ret ?_
                          refine kw_nx_ret ?_
                          have q0 := Option.some.inj H0
                          subst q0
                          exact kw_ret Tryd.results7 (.cons (.tmp rfl) .nil) [] [] trivial (by decide) ⟨rfl, rfl⟩
                        · have H0 := cond_f H0 h70
                          refine cw_skip ?_
                          refine kw_nx ?_
                          refine cw_seq ?_
                          obtain ⟨x71, e71, H0⟩ := bind_some H0
                          obtain ⟨x80, e80, H0⟩ := bind_some H0
                          refine region_drawn { dst := fun i => match i with | 0 => some 80 | 1 => some 81 | 2 => some 82 | 3 => some 83 | 4 => some 84 | 5 => some 79 | 6 => some 85 | 7 => some 86 | 8 => some 14 | 10 => some 15 | _ => none, pre := fun i => match i with | 1 => [0] | 3 => [0, 1, 2] | 4 => [0, 1, 2, 3] | 5 => [0, 1, 2, 3, 4] | 6 => [0, 1, 2, 3, 4, 5] | 7 => [0, 1, 2, 3, 4, 5] | 9 => [0, 1, 2, 3, 4, 5, 6, 8] | 10 => [0, 1, 2, 3, 4, 5, 6, 7, 8, 9] | _ => [], ids := fun i => match i with | 1 => [19, 20] | 4 => [21, 22] | 8 => [23] | 9 => [23] | _ => [], rs := fun i => match i with | 0 => [(2, none)] | 1 => [(80, some 0)] | 2 => [(3, none)] | 3 => [(82, some 2)] | 4 => [(81, some 1), (83, some 3)] | 5 => [(84, some 4)] | 6 => [(79, some 5)] | 7 => [(79, some 5)] | 9 => [(14, some 8), (85, some 6)] | 10 => [(86, some 7)] | _ => [], rh := fun i => match i with | 0 => [(0, none)] | 2 => [(1, none)] | 4 => [(19, some 1), (20, some 1)] | 9 => [(23, some 8)] | _ => [], V := fun i g => match i with | 0 => .agg #[.slice p0_0 ((a0.b).length) c0_0, .slice p0_1 ((a0.f).length) c0_1] | 1 => .agg #[.slice ((g 1).A 0) ((x71.b).length) ((g 1).C 0), .slice ((g 1).A 1) ((x71.f).length) ((g 1).C 1)] | 2 => .agg #[.int .i64 a1.s, .int .i64 a1.p] | 3 => .agg #[.int .i64 x14.s, .int .i64 x14.p] | 4 => .tuple #[.agg #[.slice ((g 4).A 0) ((x80.1.b).length) ((g 4).C 0), .slice ((g 4).A 1) ((x80.1.f).length) ((g 4).C 1)], .bool x80.2] | 5 => .tuple #[.agg #[.slice ((g 4).A 0) ((x80.1.b).length) ((g 4).C 0), .slice ((g 4).A 1) ((x80.1.f).length) ((g 4).C 1)], .bool x80.2] | 6 => .agg #[.slice ((g 4).A 0) ((x80.1.b).length) ((g 4).C 0), .slice ((g 4).A 1) ((x80.1.f).length) ((g 4).C 1)] | 7 => .bool x80.2 | 8 => .pointer (some ⟨((g 8).C 0), 0, none⟩) | 10 => .bool x80.2 | _ => undef, U := fun i g => match i with | 1 => [(19, ((g 1).R 0)), (20, ((g 1).R 1))] | 4 => [(21, ((g 4).R 0)), (22, ((g 4).R 1))] | 8 => [(23, [(((g 8).C 0), .cells #[.slice none 0 0, .slice none 0 0] 26 (0, 0))])] | 9 => [(23, [(((g 8).C 0), .cells #[.slice ((g 4).A 0) ((x80.1.b).length) ((g 4).C 0), .slice ((g 4).A 1) ((x80.1.f).length) ((g 4).C 1)] 26 (0, 0))])] | _ => [], Φ := fun i x => match i with | 1 => OwnC (α := Int) 3 (x.A 0) (x.C 0) x71.b (x.R 0) ∧ OwnC (α := F) 53 (x.A 1) (x.C 1) x71.f (x.R 1) | 4 => OwnC (α := Int) 3 (x.A 0) (x.C 0) x80.1.b (x.R 0) ∧ OwnC (α := F) 53 (x.A 1) (x.C 1) x80.1.f (x.R 1) | _ => True } g_mixed [2, 3] [0, 1] (by kernel_rfl) (by kernel_rfl) (by kernel_rfl) ⟨⟨⟨⟨⟨⟨⟨⟨⟨⟨⟨trivial, fun _ => ⟨rfl, rfl⟩⟩, fun _ => ⟨rfl, rfl⟩⟩, fun _ => ⟨rfl, rfl⟩⟩, fun _ => ⟨rfl, rfl⟩⟩, fun _ => ⟨rfl, rfl⟩⟩, fun _ => ⟨rfl, rfl⟩⟩, fun _ => ⟨rfl, rfl⟩⟩, fun _ => ⟨rfl, rfl⟩⟩, fun _ => ⟨rfl, rfl⟩⟩, fun _ => ⟨rfl, rfl⟩⟩, fun _ => ⟨rfl, rfl⟩⟩ ?_ ?_
                          · refine ⟨⟨⟨⟨⟨⟨⟨⟨⟨⟨⟨trivial, ?_⟩, ?_⟩, ?_⟩, ?_⟩, ?_⟩, ?_⟩, ?_⟩, ?_⟩, ?_⟩, ?_⟩, ?_⟩
                            · exact loc_det rfl rfl (fun _ => rfl) trivial (fun g hΦ s h hs hh => ⟨.none, (stp_loadN (us := [_, _]) ts41 (sv hs 2 rfl) (Cells.box (id := 0) (hh.get 0 _ rfl) 2 rfl))⟩)
                            · refine loc_eff rfl rfl (fun g hΦ s h hs hh => ⟨.none, (stpU_call (fun i => 19 + i) cf21 (fun w hw => c_l_toTable fl w a0 p0_0 ((a0.b).length) c0_0 p0_1 ((a0.f).length) c0_1 rfl (RO.pass hr0_0 hw) rfl (RO.pass hr0_1 hw) x71 e71) (sevs_cons (sv hs 80 rfl) sevs_nil))⟩) ?_
                              rintro g _ _ ⟨_, ⟨p72, n73, c74, C75, p76, n77, c78, C79, rfl, rfl, hnn73, o75, hnn77, o79⟩, rfl⟩
                              obtain rfl := hnn73
                              obtain rfl := hnn77
                              exact ⟨⟨[p72, p76], [c74, c78], [C75, C79]⟩, ⟨o75, o79⟩, .inr rfl, rfl⟩
                            · exact loc_det rfl rfl (fun _ => rfl) trivial (fun g hΦ s h hs hh => ⟨.none, (stp_loadN (us := [_, _]) ts42 (sv hs 3 rfl) (Cells.box (id := 1) (hh.get 1 _ rfl) 2 rfl))⟩)
                            · refine loc_eff rfl rfl (fun g hΦ s h hs hh => ⟨.none, (stpU_call (fun i => 21 + i) cf22 (fun w hw => c_l_toKey fl w a1 x14 e14) (sevs_cons (sv hs 82 rfl) sevs_nil))⟩) ?_
                              rintro g _ _ ⟨_, ⟨rfl, rfl⟩, rfl⟩
                              exact ⟨⟨[], [], []⟩, trivial, .inr rfl, rfl⟩
                            · refine loc_eff rfl rfl (fun g hΦ s h hs hh => ⟨.none, (stpU_call (fun i => 21 + i) cf17 (fun w hw => c_i_UnmapPage fl w x71 ((g 1).A 0) ((x71.b).length) ((g 1).C 0) ((g 1).A 1) ((x71.f).length) ((g 1).C 1) x14 rfl (OwnC.pass (id := 19) (hh.get 19 _ rfl) (hΦ 1 rfl).1 hw) rfl (OwnC.pass (id := 20) (hh.get 20 _ rfl) (hΦ 1 rfl).2 hw) (RO.pass hg hw) x80 e80) (sevs_cons (sv hs 81 rfl) (sevs_cons (sv hs 83 rfl) sevs_nil)))⟩) ?_
                              rintro g _ _ ⟨_, ⟨p81, n82, c83, C84, p85, n86, c87, C88, rfl, rfl, hnn82, o84, hnn86, o88⟩, rfl⟩
                              obtain rfl := hnn82
                              obtain rfl := hnn86
                              exact ⟨⟨[p81, p85], [c83, c87], [C84, C88]⟩, ⟨o84, o88⟩, .inr rfl, rfl⟩
                            · exact loc_det rfl rfl (fun _ => rfl) trivial (fun g hΦ s h hs hh => ⟨.none, (stp_move (sv hs 84 rfl))⟩)
                            · exact loc_det rfl rfl (fun _ => rfl) trivial (fun g hΦ s h hs hh => ⟨.none, (stp_extract (sv hs 79 rfl) rfl)⟩)
                            · exact loc_det rfl rfl (fun _ => rfl) trivial (fun g hΦ s h hs hh => ⟨.none, (stp_extract (sv hs 79 rfl) rfl)⟩)
                            · refine loc_eff rfl rfl (fun g hΦ s h hs hh => ⟨.none, (stpU_alloc 23 tz26 rfl)⟩) ?_
                              rintro g _ _ ⟨b89, rfl, rfl⟩
                              exact ⟨⟨[], [b89], []⟩, trivial, .inr rfl, rfl⟩
                            · refine loc_eff rfl rfl (fun g hΦ s h hs hh => ⟨.none, (stpU_store (id := 23) (cs' := [.slice ((g 4).A 0) ((x80.1.b).length) ((g 4).C 0), .slice ((g 4).A 1) ((x80.1.f).length) ((g 4).C 1)]) ts26 (sv hs 14 rfl) (sv hs 85 rfl) (hh.get 23 _ rfl) rfl rfl rfl rfl)⟩) ?_
                              rintro g _ _ rfl
                              exact ⟨⟨[], [], []⟩, trivial, .inl rfl, rfl⟩
                            · exact loc_det rfl rfl (fun _ => rfl) trivial (fun g hΦ s h hs hh => ⟨.none, (stp_assign (sv hs 86 rfl))⟩)
                          · intro g hΦ
                            refine kw_gen (ι := Option Addr × Option Addr × Nat × Nat × Res × Res × Option Addr × Option Addr × Nat × Nat × Res × Res × Nat) (((g 1).A 0), ((g 1).A 1), ((g 1).C 0), ((g 1).C 1), ((g 1).R 0), ((g 1).R 1), ((g 4).A 0), ((g 4).A 1), ((g 4).C 0), ((g 4).C 1), ((g 4).R 0), ((g 4).R 1), ((g 8).C 0)) (fun | (p72, p76, c74, c78, C75, C79, p81, p85, c83, c87, C84, C88, b89) => OwnC (α := Int) 3 p72 c74 x71.b C75 ∧ OwnC (α := F) 53 p76 c78 x71.f C79 ∧ OwnC (α := Int) 3 p81 c83 x80.1.b C84 ∧ OwnC (α := F) 53 p85 c87 x80.1.f C88) (fun | (p72, p76, c74, c78, C75, C79, p81, p85, c83, c87, C84, C88, b89) => [(6, .pointer (some ⟨b24, 0, none⟩)), (7, .bool x15.2), (9, .pointer (some ⟨b44, 0, none⟩)), (12, .int .i64 x65.1), (14, .pointer (some ⟨b89, 0, none⟩)), (15, .bool x80.2)]) (fun | (p72, p76, c74, c78, C75, C79, p81, p85, c83, c87, C84, C88, b89) => [(4, C19), (5, C23), (6, [(b24, .cells #[.slice p16 ((x15.1.b).length) c18, .slice p20 ((x15.1.f).length) c22] 26 (0, 0))]), (10, C66), (11, C67), (12, [(b44, .cells #[.slice p36 ((x35.1.b).length) c38, .slice p40 ((x35.1.f).length) c42] 26 (0, 0))]), (21, C84), (22, C88), (23, [(b89, .cells #[.slice p81 ((x80.1.b).length) c83, .slice p85 ((x80.1.f).length) c87] 26 (0, 0))])]) ⟨(hΦ 1 (by decide)).1, (hΦ 1 (by decide)).2, (hΦ 4 (by decide)).1, (hΦ 4 (by decide)).2⟩ ⟨rfl, rfl, rfl, rfl, rfl, rfl, trivial⟩ ⟨rfl, rfl, rfl, rfl, rfl, rfl, rfl, rfl, rfl, trivial⟩ ?_
                            rintro ⟨p72, p76, c74, c78, C75, C79, p81, p85, c83, c87, C84, C88, b89⟩ ⟨o75, o79, o84, o88⟩
                            refine KW.sub (s' := [(6, .pointer (some ⟨b24, 0, none⟩)), (7, .bool x15.2), (9, .pointer (some ⟨b44, 0, none⟩)), (12, .int .i64 x65.1), (14, .pointer (some ⟨b89, 0, none⟩)), (15, .bool x80.2)]) (h' := [(4, C19), (5, C23), (6, [(b24, .cells #[.slice p16 ((x15.1.b).length) c18, .slice p20 ((x15.1.f).length) c22] 26 (0, 0))]), (10, C66), (11, C67), (12, [(b44, .cells #[.slice p36 ((x35.1.b).length) c38, .slice p40 ((x35.1.f).length) c42] 26 (0, 0))]), (21, C84), (22, C88), (23, [(b89, .cells #[.slice p81 ((x80.1.b).length) c83, .slice p85 ((x80.1.f).length) c87] 26 (0, 0))])]) ?_ ⟨rfl, rfl, rfl, rfl, rfl, rfl, trivial⟩ ⟨rfl, rfl, rfl, rfl, rfl, rfl, rfl, rfl, rfl, trivial⟩
                            refine kw_nx ?_
                            refine cw_seq ?_
                            refine cw_seq ?_
                            refine cw_region ?_
                            refine ow_det .none (stp_loadN (us := [_, _]) ts26 rfl (Cells.box (id := 23) rfl 2 rfl)) rfl ?_
                            refine ow_det .none (stp_loadN (us := [_, _]) ts26 rfl (Cells.box (id := 6) rfl 2 rfl)) rfl ?_
                            obtain ⟨x90, e90, H0⟩ := bind_some H0
                            refine ow_eff .none (stpU_call (fun i => 24 + i) cf24 (fun w hw => c_l_eqTable fl w x80.1 p81 ((x80.1.b).length) c83 p85 ((x80.1.f).length) c87 x15.1 p16 ((x15.1.b).length) c18 p20 ((x15.1.f).length) c22 rfl (OwnC.pass (id := 21) rfl o84 hw) rfl (OwnC.pass (id := 22) rfl o88 hw) rfl (OwnC.pass (id := 4) rfl o19 hw) rfl (OwnC.pass (id := 5) rfl o23 hw) x90 e90) (sevs_cons rfl (sevs_cons rfl sevs_nil))) rfl ?_
                            rintro _ _ ⟨_, ⟨rfl, rfl⟩, rfl⟩
                            refine ow_det .none (stp_not rfl) rfl ?_
                            refine ow_det .none (stp_move rfl) rfl ?_
                            obtain ⟨y91, ey91, H0⟩ := bind_some H0
                            refine ow_cutY 4 95 y91 ?_ ?_
                            · rcases Bool.eq_false_or_eq_true (!x90) with hy91 | hy91
                              · have ey91 := cond_t ey91 hy91
                                refine ow_off (.some rfl hy91) rfl ?_
                                refine ow_off (.some rfl hy91) rfl ?_
                                refine ow_off (.some rfl hy91) rfl ?_
                                refine ow_det .none (stp_pick_t rfl hy91 rfl) rfl ?_
                                obtain rfl := Option.some.inj ey91
                                exact ow_nil (kw_jy (.top rfl (.cons rfl (.cons rfl (.cons rfl (.cons rfl (.refl _)))))) (.refl _))
                              · have ey91 := cond_f ey91 hy91
                                refine ow_det (.some rfl hy91) (stp_move rfl) rfl ?_
                                refine ow_det (.some rfl hy91) (stp_move rfl) rfl ?_
                                refine ow_det (.some rfl hy91) (stp_neqB Tryd.underlying4 rfl rfl) rfl ?_
                                refine ow_det .none (stp_pick_f rfl hy91 rfl) rfl ?_
                                obtain rfl := Option.some.inj ey91
                                exact ow_nil (kw_jy (.top rfl (.cons rfl (.cons rfl (.cons rfl (.cons rfl (.refl _)))))) (.refl _))
                            · refine ow_nil ?_
                              refine kw_nx ?_
                              refine cw_cond rfl (fun h92 => ?_) (fun h92 => ?_)
                              · have H0 := cond_t H0 h92
                                refine cw_seq ?_
                                refine cw_region ?_
                                refine ow_det .none (stp_assign rfl) rfl ?_
                                refine ow_nil ?_
                                refine kw_nx ?_
                                refine cw_ret ?_
                                refine kw_nx_ret ?_
                                have q0 := Option.some.inj H0
                                subst q0
                                exact kw_ret Tryd.results7 (.cons (.tmp rfl) .nil) [] [] trivial (by decide) ⟨rfl, rfl⟩
                              · have H0 := cond_f H0 h92
                                refine cw_skip ?_
                                refine kw_nx ?_
                                refine cw_seq ?_
                                refine cw_region ?_
                                refine ow_det .none (stp_assign rfl) rfl ?_
                                refine ow_nil ?_
                                refine kw_nx ?_
                                refine cw_seq ?_
                                refine cw_region ?_
                                refine ow_det .none (stp_loadN (us := [_, _]) ts26 rfl (Cells.box (id := 12) rfl 2 rfl)) rfl ?_
                                refine ow_det .none (stp_move rfl) rfl ?_
                                refine ow_eff .none (stpU_call (fun i => 24 + i) cf26 (fun w hw => c_l_heldTable fl w (⟨x65.2.1, x65.2.2⟩ : T) p36 ((x35.1.b).length) c38 p40 ((x35.1.f).length) c42 1 (by simp [hl66]) (OwnC.pass (id := 10) rfl o66 hw) (by simp [hl67]) (OwnC.pass (id := 11) rfl o67 hw) x68 e68) (sevs_cons rfl (sevs_cons rfl sevs_nil))) rfl ?_
                                rintro _ _ ⟨_, ⟨rfl, rfl⟩, rfl⟩
                                refine ow_det .none (stp_assign rfl) rfl ?_
                                refine ow_nil ?_
                                refine kw_nx ?_
                                refine cw_seq ?_
                                refine cw_seq ?_
                                refine cw_region ?_
                                refine ow_det .none (stp_move rfl) rfl ?_
                                refine ow_det .none (stp_lss rfl rfl) rfl ?_
                                refine ow_nil ?_
                                refine kw_nx ?_
                                refine cw_cond rfl (fun h93 => ?_) (fun h93 => ?_)
                                · have H0 := cond_t H0 h93
                                  refine cw_seq ?_
                                  refine cw_region ?_
                                  refine ow_det .none (stp_assign rfl) rfl ?_
                                  refine ow_nil ?_
                                  refine kw_nx ?_
                                  refine cw_ret ?_
                                  refine kw_nx_ret ?_
                                  have q0 := Option.some.inj H0
                                  subst q0
                                  exact kw_ret Tryd.results7 (.cons (.tmp rfl) .nil) [] [] trivial (by decide) ⟨rfl, rfl⟩
                                · have H0 := cond_f H0 h93
                                  refine cw_skip ?_
                                  refine kw_nx ?_
                                  refine cw_seq ?_
                                  refine cw_seq ?_
                                  refine cw_region ?_
                                  refine ow_det .none (stp_move rfl) rfl ?_
                                  refine ow_det .none (stp_move rfl) rfl ?_
                                  refine ow_det .none (stp_neq rfl rfl) rfl ?_
                                  refine ow_nil ?_
                                  refine kw_nx ?_
                                  refine cw_cond rfl (fun h94 => ?_) (fun h94 => ?_)
                                  · have H0 := cond_t H0 h94
                                    refine cw_seq ?_
                                    refine cw_region ?_
                                    refine ow_det .none (stp_assign rfl) rfl ?_
                                    refine ow_nil ?_
                                    refine kw_nx ?_
                                    refine cw_ret ?_
                                    refine kw_nx_ret ?_
                                    have q0 := Option.some.inj H0
                                    subst q0
                                    exact kw_ret Tryd.results7 (.cons (.tmp rfl) .nil) [] [] trivial (by decide) ⟨rfl, rfl⟩
                                  · have H0 := cond_f H0 h94
                                    refine cw_skip ?_
                                    refine kw_nx ?_
                                    refine cw_seq ?_
                                    refine cw_region ?_
                                    refine ow_det .none (stp_assign rfl) rfl ?_
                                    refine ow_nil ?_
                                    refine kw_nx ?_
                                    refine cw_ret ?_
                                    have q0 := Option.some.inj H0
                                    subst q0
                                    exact kw_ret Tryd.results7 (.cons (.tmp rfl) .nil) [] [] trivial (by decide) ⟨rfl, rfl⟩
end Go.Proofs.YtkocamaoeojfhaaDoor
