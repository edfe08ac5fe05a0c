/- The walks: functions of the program return what their pure functions say. Printed by a program (gen.py). -/
import Derived.Test.YtkocamaoeojfhaaDoorGp
import Derived.Test.YtkocamaoeojfhaaDoorGt
import Derived.Test.YtkocamaoeojfhaaDoorMan
import Derived.Test.YtkocamaoeojfhaaDoorGwab
import Derived.Test.YtkocamaoeojfhaaDoorGwag
import Derived.Test.YtkocamaoeojfhaaDoorGwah
import Derived.Test.YtkocamaoeojfhaaDoorGwal
import Derived.Test.YtkocamaoeojfhaaDoorGwam
import Derived.Test.YtkocamaoeojfhaaDoorGws
set_option linter.unusedSimpArgs false
set_option linter.unusedVariables false
set_option linter.unusedSectionVars false
namespace Go.Proofs.YtkocamaoeojfhaaDoor
open Go.RowKit
set_option maxHeartbeats 4000000 in
set_option maxRecDepth 20000 in
theorem c_s_DrawMapPage (fl : Nat) (w : World) (a0 : (List UInt8)) (p0_0 : Option Addr) (n0_0 c0_0 : Nat) (hn0_0 : n0_0 = (a0).length) (hr0_0 : RO w (hkeys []) (RdL p0_0 c0_0 a0)) (r : T × K × Int × Int) (H0 : s_DrawMapPage fl a0 = some r) :
    Ct Tryd.prog 12 [.slice p0_0 n0_0 c0_0] w [] (fun rv h' => ∃ (x0 : Option Addr) (y0 z0 : Nat) (C0 : Res) (x1 : Option Addr) (y1 z1 : Nat) (C1 : Res), rv = .tuple #[.agg #[.slice x0 y0 z0, .slice x1 y1 z1], .agg #[.int .i64 r.2.1.s, .int .i64 r.2.1.p], .int .i64 r.2.2.1, .int .i64 r.2.2.2] ∧ h' = [(0, C0), (1, C1)] ∧ y0 = (r.1.b).length ∧ OwnC 3 x0 z0 r.1.b C0 ∧ y1 = (r.1.f).length ∧ OwnC 53 x1 z1 r.1.f C1) := by
  obtain rfl := hn0_0
  unfold s_DrawMapPage at H0
  refine ct_of_cw Tryd.func12 rfl Tryd.ntmps12 rfl (Sat.refl _ _) ?_
  refine cw_seq ?_
  refine cw_region ?_
  refine ow_eff .none (stpU_alloc 0 tz26 rfl) rfl ?_
  rintro _ _ ⟨b1, rfl, rfl⟩
  refine ow_eff .none (stpU_alloc 1 tz28 rfl) rfl ?_
  rintro _ _ ⟨b2, rfl, rfl⟩
  refine ow_det .none (stp_assign rfl) rfl ?_
  refine ow_det .none (stp_assign rfl) rfl ?_
  refine ow_nil ?_
  refine kw_nx ?_
  refine cw_seq ?_
  refine cw_region ?_
  refine ow_det .none (stp_move rfl) rfl ?_
  refine ow_eff .none (stpU_call (fun i => 2 + i) cf33 (fun w hw => c_open33 w a0 p0_0 ((a0).length) c0_0 rfl (RO.cap hr0_0).1) (sevs_cons rfl sevs_nil)) rfl ?_
  rintro _ _ ⟨_, ⟨b3, rfl, rfl⟩, rfl⟩
  refine ow_det .none (stp_assign rfl) rfl ?_
  refine ow_nil ?_
  refine kw_nx ?_
  refine cw_seq ?_
  refine cw_region ?_
  refine ow_det .none (stp_move rfl) rfl ?_
  refine ow_det .none (stp_move rfl) rfl ?_
  obtain ⟨x4, e4, H0⟩ := bind_some H0
  refine ow_eff .none (stpU_callM (fun i => bif Nat.beq i 0 then 2 else 3 + i) cf35 (fun w hw hb => c_s_l3Draw fl w b3 (a0.take 2000) p0_0 (((a0.take 2000)).length) c0_0 0 rfl (RO.passM (RO.takeN 2000 hr0_0) hw hb) (hw.pass (js := [2]) ⟨2, [], rfl, rfl, trivial⟩ (by decide)) x4 e4) (sevs_cons rfl sevs_nil) ⟨rfl, (fun _ _ hp => by obtain ⟨_, _, _, _, _, _, _, _, _, rfl, _⟩ := hp; exact ⟨_, rfl⟩), trivial⟩) rfl ?_
  rintro _ _ ⟨_, ⟨p5, n6, c7, C8, p9, n10, c11, C12, rfl, rfl, hnn6, o8, hnn10, o12⟩, rfl⟩
  obtain rfl := hnn6
  obtain rfl := hnn10
  obtain ⟨x13, e13, H0⟩ := bind_some H0
  refine ow_eff .none (stpU_callM (fun i => bif Nat.beq i 0 then 2 else 6 + i) cf34 (fun w hw hb => c_s_l3Wrong fl w b3 (a0.take 2000) p0_0 (((a0.take 2000)).length) c0_0 x4.2 x4.1 p5 ((x4.1.b).length) c7 p9 ((x4.1.f).length) c11 rfl (RO.passM (RO.takeN 2000 hr0_0) hw hb) rfl (OwnC.passM (id := 4) rfl o8 hw hb ⟨rfl, trivial⟩) rfl (OwnC.passM (id := 5) rfl o12 hw hb ⟨rfl, trivial⟩) (hw.pass (js := [2]) ⟨2, [], rfl, rfl, trivial⟩ (by decide)) x13 e13) (sevs_cons rfl (sevs_cons rfl sevs_nil)) ⟨rfl, (fun _ _ hp => by obtain ⟨_, _, _, _, _, _, _, _, _, rfl, _⟩ := hp; exact ⟨_, rfl⟩), trivial⟩) rfl ?_
  rintro _ _ ⟨_, ⟨p14, n15, c16, C17, p18, n19, c20, C21, rfl, rfl, hnn15, o17, hnn19, o21⟩, rfl⟩
  obtain rfl := hnn15
  obtain rfl := hnn19
  refine ow_eff .none (stpU_alloc 9 tz26 rfl) rfl ?_
  rintro _ _ ⟨b22, rfl, rfl⟩
  refine ow_eff0 .none (stpU_store (id := 9) (cs' := [.slice p14 ((x13.1.b).length) c16, .slice p18 ((x13.1.f).length) c20]) ts26 rfl rfl rfl rfl rfl rfl rfl) ?_
  rintro _ _ rfl
  refine ow_nil ?_
  refine kw_nx ?_
  refine cw_seq ?_
  obtain ⟨x23, e23, H0⟩ := bind_some H0
  obtain ⟨x26, e26, H0⟩ := bind_some H0
  obtain ⟨x29, e29, H0⟩ := bind_some H0
  refine region_drawn { dst := fun i => match i with | 0 => some 14 | 1 => some 15 | 2 => some 16 | 3 => some 17 | 4 => some 18 | 5 => some 19 | 6 => some 20 | 7 => some 21 | 8 => some 22 | 11 => some 4 | 12 => some 5 | _ => none, pre := fun i => match i with | 2 => [1] | 5 => [1, 2, 3, 4] | 8 => [1, 2, 3, 4, 5, 6, 7] | 9 => [0, 1, 2, 3, 4, 5, 6, 7, 8] | 10 => [0, 1, 2, 3, 4, 5, 6, 7, 8, 9] | 11 => [0, 1, 2, 3, 4, 5, 6, 7, 8, 9, 10] | 12 => [0, 1, 2, 3, 4, 5, 6, 7, 8, 9, 10, 11] | _ => [], ids := fun i => match i with | 2 => [2] | 4 => [11] | 5 => [2] | 7 => [13] | 8 => [2] | 9 => [0] | 10 => [1] | _ => [], rs := fun i => match i with | 0 => [(7, none)] | 1 => [(6, none)] | 2 => [(15, some 1)] | 3 => [(6, none)] | 5 => [(17, some 3), (18, some 4)] | 6 => [(6, none)] | 8 => [(20, some 6), (21, some 7)] | 9 => [(2, none), (14, some 0)] | 10 => [(3, none), (16, some 2)] | 11 => [(19, some 5)] | 12 => [(22, some 8)] | _ => [], rh := fun i => match i with | 0 => [(9, none)] | 2 => [(2, none)] | 5 => [(2, some 2), (11, some 4)] | 8 => [(2, some 5), (13, some 7)] | 9 => [(0, none)] | 10 => [(1, none)] | _ => [], V := fun i g => match i with | 0 => .agg #[.slice p14 ((x13.1.b).length) c16, .slice p18 ((x13.1.f).length) c20] | 1 => .pointer (some ⟨b3, 0, none⟩) | 2 => .agg #[.int .i64 x23.1.s, .int .i64 x23.1.p] | 3 => .pointer (some ⟨b3, 0, none⟩) | 4 => .slice ((g 4).A 0) 8 8 | 5 => .int .i64 x26.1 | 6 => .pointer (some ⟨b3, 0, none⟩) | 7 => .slice ((g 7).A 0) 4 4 | 8 => .int .i64 x29.1 | 11 => .int .i64 x26.1 | 12 => .int .i64 x29.1 | _ => undef, U := fun i g => match i with | 2 => [(2, [(b3, .cells #[.slice p0_0 (((a0.take 2000)).length) c0_0, .int .i64 x23.2] 97 (0, 0))])] | 4 => [(11, ((g 4).R 0))] | 5 => [(2, [(b3, .cells #[.slice p0_0 (((a0.take 2000)).length) c0_0, .int .i64 x26.2] 97 (0, 0))])] | 7 => [(13, ((g 7).R 0))] | 8 => [(2, [(b3, .cells #[.slice p0_0 (((a0.take 2000)).length) c0_0, .int .i64 x29.2] 97 (0, 0))])] | 9 => [(0, [(b1, .cells #[.slice p14 ((x13.1.b).length) c16, .slice p18 ((x13.1.f).length) c20] 26 (0, 0))])] | 10 => [(1, [(b2, .cells #[.int .i64 x23.1.s, .int .i64 x23.1.p] 28 (0, 0))])] | _ => [], Φ := fun i x => match i with | 4 => OwnC (α := Int) 3 (x.A 0) 8 ([0, 1, 2, 3, 4, 5, (-1), 16]) (x.R 0) | 7 => OwnC (α := Int) 3 (x.A 0) 4 ([3, 7, 1, 8]) (x.R 0) | _ => True } g_mixed [2, 3, 6, 7] [0, 1, 2, 9] (by kernel_rfl) (by kernel_rfl) (by kernel_rfl) ⟨⟨⟨⟨⟨⟨⟨⟨⟨⟨⟨⟨⟨trivial, fun _ => ⟨rfl, rfl⟩⟩, fun _ => ⟨rfl, rfl⟩⟩, fun _ => ⟨rfl, rfl⟩⟩, fun _ => ⟨rfl, rfl⟩⟩, fun _ => ⟨rfl, rfl⟩⟩, fun _ => ⟨rfl, rfl⟩⟩, fun _ => ⟨rfl, rfl⟩⟩, fun _ => ⟨rfl, rfl⟩⟩, fun _ => ⟨rfl, rfl⟩⟩, fun _ => ⟨rfl, rfl⟩⟩, fun _ => ⟨rfl, rfl⟩⟩, fun _ => ⟨rfl, rfl⟩⟩, fun _ => ⟨rfl, rfl⟩⟩ ?_ ?_
  · refine ⟨⟨⟨⟨⟨⟨⟨⟨⟨⟨⟨⟨⟨trivial, ?_⟩, ?_⟩, ?_⟩, ?_⟩, ?_⟩, ?_⟩, ?_⟩, ?_⟩, ?_⟩, ?_⟩, ?_⟩, ?_⟩, ?_⟩
    · exact loc_det rfl rfl (fun _ => rfl) trivial (fun g hΦ s h hs hh => ⟨.none, (stp_loadN (us := [_, _]) ts26 (sv hs 7 rfl) (Cells.box (id := 9) (hh.get 9 _ rfl) 2 rfl))⟩)
    · exact loc_det rfl rfl (fun _ => rfl) trivial (fun g hΦ s h hs hh => ⟨.none, (stp_move (sv hs 6 rfl))⟩)
    · refine loc_eff rfl rfl (fun g hΦ s h hs hh => ⟨.none, (stpU_callM (fun i => bif Nat.beq i 0 then 2 else 10 + i) cf36 (fun w hw hb => c_s_l2Case fl w b3 (a0.take 2000) p0_0 (((a0.take 2000)).length) c0_0 x13.2 rfl (RO.passM (RO.takeN 2000 hr0_0) hw hb) (hw.pass (js := [2]) ⟨2, [], rfl, (hh.get 2 _ rfl), trivial⟩ (by decide)) x23 e23) (sevs_cons (sv hs 15 rfl) sevs_nil) ⟨(hh.get 2 _ rfl), (fun _ _ hp => by obtain ⟨_, rfl⟩ := hp; exact ⟨_, rfl⟩), trivial⟩)⟩) ?_
      rintro g _ _ ⟨_, ⟨rfl, rfl⟩, rfl⟩
      exact ⟨⟨[], [], []⟩, trivial, .inr rfl, rfl⟩
    · exact loc_det rfl rfl (fun _ => rfl) trivial (fun g hΦ s h hs hh => ⟨.none, (stp_move (sv hs 6 rfl))⟩)
    · refine loc_eff rfl rfl (fun g hΦ s h hs hh => ⟨.none, (stpU_lit (sz := 1) (l := [0, 1, 2, 3, 4, 5, (-1), 16]) [.int .i64 0, .int .i64 1, .int .i64 2, .int .i64 3, .int .i64 4, .int .i64 5, .int .i64 (-1), .int .i64 16] sl23 11 (sevp_cons rfl (sevp_cons rfl (sevp_cons rfl (sevp_cons rfl (sevp_cons rfl (sevp_cons rfl (sevp_cons rfl (sevp_cons rfl sevp_nil)))))))) rfl rfl rfl rfl rfl rfl rfl rfl rfl)⟩) ?_
      rintro g _ _ ⟨p24, C25, rfl, rfl, o25⟩
      exact ⟨⟨[p24], [], [C25]⟩, o25, .inr rfl, rfl⟩
    · refine loc_eff rfl rfl (fun g hΦ s h hs hh => ⟨.none, (stpU_callM (fun i => bif Nat.beq i 0 then 2 else 12 + i) cf37 (fun w hw hb => c_s_l12Rd_num fl w b3 (a0.take 2000) p0_0 (((a0.take 2000)).length) c0_0 x23.2 ([0, 1, 2, 3, 4, 5, (-1), 16]) ((g 4).A 0) 8 8 rfl (RO.passM (RO.takeN 2000 hr0_0) hw hb) (by simp) (OwnC.passM (id := 11) (hh.get 11 _ rfl) (hΦ 4 rfl) hw hb ⟨rfl, trivial⟩) (hw.pass (js := [2]) ⟨2, [], rfl, (hh.get 2 _ rfl), trivial⟩ (by decide)) x26 e26) (sevs_cons (sv hs 17 rfl) (sevs_cons (sv hs 18 rfl) sevs_nil)) ⟨(hh.get 2 _ rfl), (fun _ _ hp => by obtain ⟨_, rfl⟩ := hp; exact ⟨_, rfl⟩), trivial⟩)⟩) ?_
      rintro g _ _ ⟨_, ⟨rfl, rfl⟩, rfl⟩
      exact ⟨⟨[], [], []⟩, trivial, .inr rfl, rfl⟩
    · exact loc_det rfl rfl (fun _ => rfl) trivial (fun g hΦ s h hs hh => ⟨.none, (stp_move (sv hs 6 rfl))⟩)
    · refine loc_eff rfl rfl (fun g hΦ s h hs hh => ⟨.none, (stpU_lit (sz := 1) (l := [3, 7, 1, 8]) [.int .i64 3, .int .i64 7, .int .i64 1, .int .i64 8] sl23 13 (sevp_cons rfl (sevp_cons rfl (sevp_cons rfl (sevp_cons rfl sevp_nil)))) rfl rfl rfl rfl rfl rfl rfl rfl rfl)⟩) ?_
      rintro g _ _ ⟨p27, C28, rfl, rfl, o28⟩
      exact ⟨⟨[p27], [], [C28]⟩, o28, .inr rfl, rfl⟩
    · refine loc_eff rfl rfl (fun g hΦ s h hs hh => ⟨.none, (stpU_callM (fun i => bif Nat.beq i 0 then 2 else 14 + i) cf37 (fun w hw hb => c_s_l12Rd_num fl w b3 (a0.take 2000) p0_0 (((a0.take 2000)).length) c0_0 x26.2 ([3, 7, 1, 8]) ((g 7).A 0) 4 4 rfl (RO.passM (RO.takeN 2000 hr0_0) hw hb) (by simp) (OwnC.passM (id := 13) (hh.get 13 _ rfl) (hΦ 7 rfl) hw hb ⟨rfl, trivial⟩) (hw.pass (js := [2]) ⟨2, [], rfl, (hh.get 2 _ rfl), trivial⟩ (by decide)) x29 e29) (sevs_cons (sv hs 20 rfl) (sevs_cons (sv hs 21 rfl) sevs_nil)) ⟨(hh.get 2 _ rfl), (fun _ _ hp => by obtain ⟨_, rfl⟩ := hp; exact ⟨_, rfl⟩), trivial⟩)⟩) ?_
      rintro g _ _ ⟨_, ⟨rfl, rfl⟩, rfl⟩
      exact ⟨⟨[], [], []⟩, trivial, .inr rfl, rfl⟩
    · refine loc_eff rfl rfl (fun g hΦ s h hs hh => ⟨.none, (stpU_store (id := 0) (cs' := [.slice p14 ((x13.1.b).length) c16, .slice p18 ((x13.1.f).length) c20]) ts26 (sv hs 2 rfl) (sv hs 14 rfl) (hh.get 0 _ rfl) rfl rfl rfl rfl)⟩) ?_
      rintro g _ _ rfl
      exact ⟨⟨[], [], []⟩, trivial, .inl rfl, rfl⟩
    · refine loc_eff rfl rfl (fun g hΦ s h hs hh => ⟨.none, (stpU_store (id := 1) (cs' := [.int .i64 x23.1.s, .int .i64 x23.1.p]) ts28 (sv hs 3 rfl) (sv hs 16 rfl) (hh.get 1 _ rfl) rfl rfl rfl rfl)⟩) ?_
      rintro g _ _ rfl
      exact ⟨⟨[], [], []⟩, trivial, .inl rfl, rfl⟩
    · exact loc_det rfl rfl (fun _ => rfl) trivial (fun g hΦ s h hs hh => ⟨.none, (stp_assign (sv hs 19 rfl))⟩)
    · exact loc_det rfl rfl (fun _ => rfl) trivial (fun g hΦ s h hs hh => ⟨.none, (stp_assign (sv hs 22 rfl))⟩)
  · intro g hΦ
    refine kw_gen (ι := Option Addr × Res × Option Addr × Res) (((g 4).A 0), ((g 4).R 0), ((g 7).A 0), ((g 7).R 0)) (fun | (p24, C25, p27, C28) => OwnC (α := Int) 3 p24 8 ([0, 1, 2, 3, 4, 5, (-1), 16]) C25 ∧ OwnC (α := Int) 3 p27 4 ([3, 7, 1, 8]) C28) (fun | (p24, C25, p27, C28) => [(2, .pointer (some ⟨b1, 0, none⟩)), (3, .pointer (some ⟨b2, 0, none⟩)), (4, .int .i64 x26.1), (5, .int .i64 x29.1)]) (fun | (p24, C25, p27, C28) => [(0, [(b1, .cells #[.slice p14 ((x13.1.b).length) c16, .slice p18 ((x13.1.f).length) c20] 26 (0, 0))]), (1, [(b2, .cells #[.int .i64 x23.1.s, .int .i64 x23.1.p] 28 (0, 0))]), (7, C17), (8, C21)]) ⟨(hΦ 4 (by decide)), (hΦ 7 (by decide))⟩ ⟨rfl, rfl, rfl, rfl, trivial⟩ ⟨rfl, rfl, rfl, rfl, trivial⟩ ?_
    rintro ⟨p24, C25, p27, C28⟩ ⟨o25, o28⟩
    refine KW.sub (s' := [(2, .pointer (some ⟨b1, 0, none⟩)), (3, .pointer (some ⟨b2, 0, none⟩)), (4, .int .i64 x26.1), (5, .int .i64 x29.1)]) (h' := [(0, [(b1, .cells #[.slice p14 ((x13.1.b).length) c16, .slice p18 ((x13.1.f).length) c20] 26 (0, 0))]), (1, [(b2, .cells #[.int .i64 x23.1.s, .int .i64 x23.1.p] 28 (0, 0))]), (7, C17), (8, C21)]) ?_ ⟨rfl, rfl, rfl, rfl, trivial⟩ ⟨rfl, rfl, rfl, rfl, trivial⟩
    refine kw_nx ?_
    refine cw_ret ?_
    have q0 := Option.some.inj H0
    subst q0
    exact kw_ret Tryd.results12 (.cons (.cellN (us := [_, _]) ts26 rfl (Cells.box (id := 0) rfl 2 rfl)) (.cons (.cellN (us := [_, _]) ts28 rfl (Cells.box (id := 1) rfl 2 rfl)) (.cons (.tmp rfl) (.cons (.tmp rfl) .nil)))) [(0, C17), (1, C21)] [7, 8] ⟨7, [8], rfl, rfl, 8, [], rfl, rfl, trivial⟩ (by decide) ⟨p14, ((x13.1.b).length), c16, C17, p18, ((x13.1.f).length), c20, C21, rfl, rfl, rfl, o17, rfl, o21⟩

set_option maxHeartbeats 4000000 in
set_option maxRecDepth 20000 in
theorem c_l_FnMapPage (fl : Nat) (w : World) (a0 : (List UInt8)) (p0_0 : Option Addr) (n0_0 c0_0 : Nat) (hn0_0 : n0_0 = (a0).length) (hr0_0 : RO w (hkeys []) (RdL p0_0 c0_0 a0)) (hg : RO w (hkeys []) (fun w' => w'.rangeAt 0 0 [.bool false, .int .i64 0, .int .i64 0, .int .i64 0, .int .i64 (-1)])) (r : Bool) (H0 : l_FnMapPage fl a0 = some r) :
    Ct Tryd.prog 3 [.slice p0_0 n0_0 c0_0] w [] (fun rv h' => rv = .bool r ∧ h' = []) := by
  obtain rfl := hn0_0
  unfold l_FnMapPage at H0
  refine ct_of_cw Tryd.func3 rfl Tryd.ntmps3 rfl (Sat.refl _ _) ?_
  refine cw_seq ?_
  refine cw_region ?_
  refine ow_det .none (stp_assign rfl) rfl ?_
  refine ow_nil ?_
  refine kw_nx ?_
  refine cw_seq ?_
  refine cw_seq ?_
  refine cw_region ?_
  refine ow_det .none (stp_move rfl) rfl ?_
  refine ow_det .none (stp_len Tryd.underlying22 rfl) rfl ?_
  refine ow_det .none (stp_gtr rfl rfl) rfl ?_
  refine ow_nil ?_
  refine kw_nx ?_
  refine cw_cond rfl (fun h1 => ?_) (fun h1 => ?_)
  · have H0 := cond_t H0 h1
    refine cw_seq ?_
    refine cw_region ?_
    refine ow_det .none (stp_assign rfl) rfl ?_
    refine ow_nil ?_
    refine kw_nx ?_
    refine cw_ret ?_
    refine kw_nx_ret ?_
    have q0 := Option.some.inj H0
    subst q0
    exact kw_ret Tryd.results3 (.cons (.tmp rfl) .nil) [] [] trivial (by decide) ⟨rfl, rfl⟩
  · have H0 := cond_f H0 h1
    refine cw_skip ?_
    refine kw_nx ?_
    refine cw_seq ?_
    refine cw_region ?_
    refine ow_det .none (stp_move rfl) rfl ?_
    obtain ⟨x2, e2, H0⟩ := bind_some H0
    refine ow_eff .none (stpU_call (fun i => 0 + i) cf12 (fun w hw => c_s_DrawMapPage fl w a0 p0_0 ((a0).length) c0_0 rfl (RO.pass hr0_0 hw) x2 e2) (sevs_cons rfl sevs_nil)) rfl ?_
    rintro _ _ ⟨_, ⟨p3, n4, c5, C6, p7, n8, c9, C10, rfl, rfl, hnn4, o6, hnn8, o10⟩, rfl⟩
    obtain rfl := hnn4
    obtain rfl := hnn8
    refine ow_det .none (stp_move rfl) rfl ?_
    refine ow_det .none (stp_extract rfl rfl) rfl ?_
    refine ow_det .none (stp_extract rfl rfl) rfl ?_
    refine ow_det .none (stp_extract rfl rfl) rfl ?_
    refine ow_det .none (stp_extract rfl rfl) rfl ?_
    refine ow_eff .none (stpU_alloc 2 tz26 rfl) rfl ?_
    rintro _ _ ⟨b11, rfl, rfl⟩
    refine ow_eff .none (stpU_alloc 3 tz28 rfl) rfl ?_
    rintro _ _ ⟨b12, rfl, rfl⟩
    refine ow_eff0 .none (stpU_store (id := 2) (cs' := [.slice p3 ((x2.1.b).length) c5, .slice p7 ((x2.1.f).length) c9]) ts26 rfl rfl rfl rfl rfl rfl rfl) ?_
    rintro _ _ rfl
    refine ow_eff0 .none (stpU_store (id := 3) (cs' := [.int .i64 x2.2.1.s, .int .i64 x2.2.1.p]) ts28 rfl rfl rfl rfl rfl rfl rfl) ?_
    rintro _ _ rfl
    refine ow_det .none (stp_assign rfl) rfl ?_
    refine ow_det .none (stp_assign rfl) rfl ?_
    refine ow_nil ?_
    refine kw_nx ?_
    refine cw_seq ?_
    refine cw_region ?_
    refine ow_det .none (stp_loadN (us := [_, _]) ts26 rfl (Cells.box (id := 2) rfl 2 rfl)) rfl ?_
    refine ow_det .none (stp_loadN (us := [_, _]) ts28 rfl (Cells.box (id := 3) rfl 2 rfl)) rfl ?_
    refine ow_det .none (stp_move rfl) rfl ?_
    refine ow_det .none (stp_move rfl) rfl ?_
    obtain ⟨x13, e13, H0⟩ := bind_some H0
    refine ow_eff .none (stpU_call (fun i => 4 + i) cf13 (fun w hw => c_i_MapPage fl w x2.1 p3 ((x2.1.b).length) c5 p7 ((x2.1.f).length) c9 x2.2.1 x2.2.2.1 x2.2.2.2 rfl (OwnC.pass (id := 0) rfl o6 hw) rfl (OwnC.pass (id := 1) rfl o10 hw) (RO.pass hg hw) x13 e13) (sevs_cons rfl (sevs_cons rfl (sevs_cons rfl (sevs_cons rfl sevs_nil))))) rfl ?_
    rintro _ _ ⟨_, ⟨p14, n15, c16, C17, p18, n19, c20, C21, rfl, rfl, hnn15, o17, hnn19, o21⟩, rfl⟩
    obtain rfl := hnn15
    obtain rfl := hnn19
    refine ow_det .none (stp_move rfl) rfl ?_
    refine ow_det .none (stp_extract rfl rfl) rfl ?_
    refine ow_det .none (stp_extract rfl rfl) rfl ?_
    refine ow_eff .none (stpU_alloc 6 tz26 rfl) rfl ?_
    rintro _ _ ⟨b22, rfl, rfl⟩
    refine ow_eff0 .none (stpU_store (id := 6) (cs' := [.slice p14 ((x13.1.b).length) c16, .slice p18 ((x13.1.f).length) c20]) ts26 rfl rfl rfl rfl rfl rfl rfl) ?_
    rintro _ _ rfl
    refine ow_det .none (stp_assign rfl) rfl ?_
    refine ow_nil ?_
    refine kw_nx ?_
    refine cw_seq ?_
    refine cw_region ?_
    refine ow_det .none (stp_loadN (us := [_, _]) ts26 rfl (Cells.box (id := 2) rfl 2 rfl)) rfl ?_
    refine ow_det .none (stp_loadN (us := [_, _]) ts28 rfl (Cells.box (id := 3) rfl 2 rfl)) rfl ?_
    refine ow_det .none (stp_move rfl) rfl ?_
    refine ow_det .none (stp_move rfl) rfl ?_
    obtain ⟨x23, e23, H0⟩ := bind_some H0
    refine ow_eff .none (stpU_call (fun i => 7 + i) cf14 (fun w hw => c_s_MapPage fl w x2.1 p3 ((x2.1.b).length) c5 p7 ((x2.1.f).length) c9 x2.2.1 x2.2.2.1 x2.2.2.2 rfl (OwnC.pass (id := 0) rfl o6 hw) rfl (OwnC.pass (id := 1) rfl o10 hw) x23 e23) (sevs_cons rfl (sevs_cons rfl (sevs_cons rfl (sevs_cons rfl sevs_nil))))) rfl ?_
    rintro _ _ ⟨_, ⟨p24, n25, c26, C27, p28, n29, c30, C31, rfl, rfl, hnn25, o27, hnn29, o31⟩, rfl⟩
    obtain rfl := hnn25
    obtain rfl := hnn29
    refine ow_det .none (stp_move rfl) rfl ?_
    refine ow_det .none (stp_extract rfl rfl) rfl ?_
    refine ow_det .none (stp_extract rfl rfl) rfl ?_
    refine ow_eff .none (stpU_alloc 9 tz26 rfl) rfl ?_
    rintro _ _ ⟨b32, rfl, rfl⟩
    refine ow_eff0 .none (stpU_store (id := 9) (cs' := [.slice p24 ((x23.1.b).length) c26, .slice p28 ((x23.1.f).length) c30]) ts26 rfl rfl rfl rfl rfl rfl rfl) ?_
    rintro _ _ rfl
    refine ow_det .none (stp_assign rfl) rfl ?_
    refine ow_nil ?_
    refine kw_nx ?_
    refine cw_seq ?_
    refine cw_seq ?_
    refine cw_region ?_
    refine ow_det .none (stp_loadN (us := [_, _]) ts26 rfl (Cells.box (id := 6) rfl 2 rfl)) rfl ?_
    refine ow_det .none (stp_loadN (us := [_, _]) ts26 rfl (Cells.box (id := 9) rfl 2 rfl)) rfl ?_
    obtain ⟨x33, e33, H0⟩ := bind_some H0
    refine ow_eff .none (stpU_call (fun i => 10 + i) cf15 (fun w hw => c_i_TableSame fl w x13.1 p14 ((x13.1.b).length) c16 p18 ((x13.1.f).length) c20 x23.1 p24 ((x23.1.b).length) c26 p28 ((x23.1.f).length) c30 rfl (OwnC.pass (id := 4) rfl o17 hw) rfl (OwnC.pass (id := 5) rfl o21 hw) rfl (OwnC.pass (id := 7) rfl o27 hw) rfl (OwnC.pass (id := 8) rfl o31 hw) x33 e33) (sevs_cons rfl (sevs_cons rfl sevs_nil))) rfl ?_
    rintro _ _ ⟨_, ⟨rfl, rfl⟩, rfl⟩
    refine ow_det .none (stp_not rfl) rfl ?_
    refine ow_det .none (stp_move rfl) rfl ?_
    obtain ⟨y34, ey34, H0⟩ := bind_some H0
    refine ow_cutY 4 50 y34 ?_ ?_
    · rcases Bool.eq_false_or_eq_true (!x33) with hy34 | hy34
      · have ey34 := cond_t ey34 hy34
        refine ow_off (.some rfl hy34) rfl ?_
        refine ow_off (.some rfl hy34) rfl ?_
        refine ow_off (.some rfl hy34) rfl ?_
        refine ow_det .none (stp_pick_t rfl hy34 rfl) rfl ?_
        obtain rfl := Option.some.inj ey34
        exact ow_nil (kw_jy (.top rfl (.cons rfl (.cons rfl (.cons rfl (.cons rfl (.refl _)))))) (.refl _))
      · have ey34 := cond_f ey34 hy34
        refine ow_det (.some rfl hy34) (stp_move rfl) rfl ?_
        refine ow_det (.some rfl hy34) (stp_move rfl) rfl ?_
        refine ow_det (.some rfl hy34) (stp_neqB Tryd.underlying4 rfl rfl) rfl ?_
        refine ow_det .none (stp_pick_f rfl hy34 rfl) rfl ?_
        obtain rfl := Option.some.inj ey34
        exact ow_nil (kw_jy (.top rfl (.cons rfl (.cons rfl (.cons rfl (.cons rfl (.refl _)))))) (.refl _))
    · refine ow_det .none (stp_move rfl) rfl ?_
      obtain ⟨y35, ey35, H0⟩ := bind_some H0
      refine ow_cutY 3 54 y35 ?_ ?_
      · rcases Bool.eq_false_or_eq_true y34 with hy35 | hy35
        · have ey35 := cond_t ey35 hy35
          refine ow_off (.some rfl hy35) rfl ?_
          refine ow_off (.some rfl hy35) rfl ?_
          refine ow_det .none (stp_pick_t rfl hy35 rfl) rfl ?_
          obtain rfl := Option.some.inj ey35
          exact ow_nil (kw_jy (.top rfl (.cons rfl (.cons rfl (.cons rfl (.refl _))))) (.refl _))
        · have ey35 := cond_f ey35 hy35
          refine ow_det (.some rfl hy35) (stp_move rfl) rfl ?_
          refine ow_det (.some rfl hy35) (stp_not rfl) rfl ?_
          refine ow_det .none (stp_pick_f rfl hy35 rfl) rfl ?_
          obtain rfl := Option.some.inj ey35
          exact ow_nil (kw_jy (.top rfl (.cons rfl (.cons rfl (.cons rfl (.refl _))))) (.refl _))
      · refine ow_nil ?_
        refine kw_nx ?_
        refine cw_cond rfl (fun h36 => ?_) (fun h36 => ?_)
        · have H0 := cond_t H0 h36
          refine cw_seq ?_
          refine cw_region ?_
          refine ow_det .none (stp_loadN (us := [_, _]) ts26 rfl (Cells.box (id := 6) rfl 2 rfl)) rfl ?_
          refine ow_det .none (stp_loadN (us := [_, _]) ts26 rfl (Cells.box (id := 9) rfl 2 rfl)) rfl ?_
          refine ow_eff .none (stpU_call (fun i => 10 + i) cf15 (fun w hw => c_i_TableSame fl w x13.1 p14 ((x13.1.b).length) c16 p18 ((x13.1.f).length) c20 x23.1 p24 ((x23.1.b).length) c26 p28 ((x23.1.f).length) c30 rfl (OwnC.pass (id := 4) rfl o17 hw) rfl (OwnC.pass (id := 5) rfl o21 hw) rfl (OwnC.pass (id := 7) rfl o27 hw) rfl (OwnC.pass (id := 8) rfl o31 hw) x33 e33) (sevs_cons rfl (sevs_cons rfl sevs_nil))) rfl ?_
          rintro _ _ ⟨_, ⟨rfl, rfl⟩, rfl⟩
          refine ow_det .none (stp_move rfl) rfl ?_
          obtain ⟨y37, ey37, H0⟩ := bind_some H0
          refine ow_cutY 4 62 y37 ?_ ?_
          · rcases Bool.eq_false_or_eq_true x33 with hy37 | hy37
            · have ey37 := cond_t ey37 hy37
              refine ow_det (.some rfl hy37) (stp_move rfl) rfl ?_
              refine ow_det (.some rfl hy37) (stp_move rfl) rfl ?_
              refine ow_det (.some rfl hy37) (stp_eqlB Tryd.underlying4 rfl rfl) rfl ?_
              refine ow_det .none (stp_pick_t rfl hy37 rfl) rfl ?_
              obtain rfl := Option.some.inj ey37
              exact ow_nil (kw_jy (.top rfl (.cons rfl (.cons rfl (.cons rfl (.cons rfl (.refl _)))))) (.refl _))
            · have ey37 := cond_f ey37 hy37
              refine ow_off (.some rfl hy37) rfl ?_
              refine ow_off (.some rfl hy37) rfl ?_
              refine ow_off (.some rfl hy37) rfl ?_
              refine ow_det .none (stp_pick_f rfl hy37 rfl) rfl ?_
              obtain rfl := Option.some.inj ey37
              exact ow_nil (kw_jy (.top rfl (.cons rfl (.cons rfl (.cons rfl (.cons rfl (.refl _)))))) (.refl _))
          · refine ow_det .none (stp_assign rfl) rfl ?_
            refine ow_nil ?_
            refine kw_nx ?_
            refine cw_ret ?_
            refine kw_nx_ret ?_
            have q0 := Option.some.inj H0
            subst q0
            exact kw_ret Tryd.results3 (.cons (.tmp rfl) .nil) [] [] trivial (by decide) ⟨rfl, rfl⟩
        · have H0 := cond_f H0 h36
          refine cw_skip ?_
          refine kw_nx ?_
          refine cw_seq ?_
          refine cw_region ?_
          refine ow_det .none (stp_loadN (us := [_, _]) ts26 rfl (Cells.box (id := 6) rfl 2 rfl)) rfl ?_
          refine ow_det .none (stp_loadN (us := [_, _]) ts28 rfl (Cells.box (id := 3) rfl 2 rfl)) rfl ?_
          obtain ⟨x38, e38, H0⟩ := bind_some H0
          refine ow_eff .none (stpU_call (fun i => 10 + i) cf16 (fun w hw => c_i_FindPage fl w x13.1 p14 ((x13.1.b).length) c16 p18 ((x13.1.f).length) c20 x2.2.1 rfl (OwnC.pass (id := 4) rfl o17 hw) rfl (OwnC.pass (id := 5) rfl o21 hw) (RO.pass hg hw) x38 e38) (sevs_cons rfl (sevs_cons rfl sevs_nil))) rfl ?_
          rintro _ _ ⟨_, ⟨rfl, rfl⟩, rfl⟩
          refine ow_det .none (stp_move rfl) rfl ?_
          refine ow_det .none (stp_extract rfl rfl) rfl ?_
          refine ow_det .none (stp_extract rfl rfl) rfl ?_
          refine ow_det .none (stp_extract rfl rfl) rfl ?_
          refine ow_det .none (stp_assign rfl) rfl ?_
          refine ow_det .none (stp_assign rfl) rfl ?_
          refine ow_det .none (stp_assign rfl) rfl ?_
          refine ow_nil ?_
          refine kw_nx ?_
          refine cw_seq ?_
          refine cw_region ?_
          refine ow_det .none (stp_loadN (us := [_, _]) ts26 rfl (Cells.box (id := 6) rfl 2 rfl)) rfl ?_
          refine ow_det .none (stp_loadN (us := [_, _]) ts28 rfl (Cells.box (id := 3) rfl 2 rfl)) rfl ?_
          obtain ⟨x39, e39, H0⟩ := bind_some H0
          refine ow_eff .none (stpU_call (fun i => 10 + i) cf17 (fun w hw => c_i_UnmapPage fl w x13.1 p14 ((x13.1.b).length) c16 p18 ((x13.1.f).length) c20 x2.2.1 rfl (OwnC.pass (id := 4) rfl o17 hw) rfl (OwnC.pass (id := 5) rfl o21 hw) (RO.pass hg hw) x39 e39) (sevs_cons rfl (sevs_cons rfl sevs_nil))) rfl ?_
          rintro _ _ ⟨_, ⟨p40, n41, c42, C43, p44, n45, c46, C47, rfl, rfl, hnn41, o43, hnn45, o47⟩, rfl⟩
          obtain rfl := hnn41
          obtain rfl := hnn45
          refine ow_det .none (stp_move rfl) rfl ?_
          refine ow_det .none (stp_extract rfl rfl) rfl ?_
          refine ow_det .none (stp_extract rfl rfl) rfl ?_
          refine ow_eff .none (stpU_alloc 12 tz26 rfl) rfl ?_
          rintro _ _ ⟨b48, rfl, rfl⟩
          refine ow_eff0 .none (stpU_store (id := 12) (cs' := [.slice p40 ((x39.1.b).length) c42, .slice p44 ((x39.1.f).length) c46]) ts26 rfl rfl rfl rfl rfl rfl rfl) ?_
          rintro _ _ rfl
          refine ow_det .none (stp_assign rfl) rfl ?_
          refine ow_nil ?_
          refine kw_nx ?_
          refine cw_seq ?_
          refine cw_region ?_
          refine ow_det .none (stp_loadN (us := [_, _]) ts26 rfl (Cells.box (id := 6) rfl 2 rfl)) rfl ?_
          obtain ⟨x49, e49, H0⟩ := bind_some H0
          refine ow_eff .none (stpU_call (fun i => 13 + i) cf18 (fun w hw => c_i_TableValid fl w x13.1 p14 ((x13.1.b).length) c16 p18 ((x13.1.f).length) c20 rfl (OwnC.pass (id := 4) rfl o17 hw) rfl (OwnC.pass (id := 5) rfl o21 hw) (RO.pass hg hw) x49 e49) (sevs_cons rfl sevs_nil)) rfl ?_
          rintro _ _ ⟨_, ⟨rfl, rfl⟩, rfl⟩
          refine ow_det .none (stp_move rfl) rfl ?_
          obtain ⟨y50, ey50, H0⟩ := bind_some H0
          refine ow_cutY 2 80 y50 ?_ ?_
          · rcases Bool.eq_false_or_eq_true x49 with hy50 | hy50
            · have ey50 := cond_t ey50 hy50
              refine ow_det (.some rfl hy50) (stp_move rfl) rfl ?_
              refine ow_det .none (stp_pick_t rfl hy50 rfl) rfl ?_
              obtain rfl := Option.some.inj ey50
              exact ow_nil (kw_jy (.top rfl (.cons rfl (.cons rfl (.refl _)))) (.refl _))
            · have ey50 := cond_f ey50 hy50
              refine ow_off (.some rfl hy50) rfl ?_
              refine ow_det .none (stp_pick_f rfl hy50 rfl) rfl ?_
              obtain rfl := Option.some.inj ey50
              exact ow_nil (kw_jy (.top rfl (.cons rfl (.cons rfl (.refl _)))) (.refl _))
          · refine ow_det .none (stp_move rfl) rfl ?_
            obtain ⟨y51, ey51, H0⟩ := bind_some H0
            refine ow_cutY 4 85 y51 ?_ ?_
            · rcases Bool.eq_false_or_eq_true y50 with hy51 | hy51
              · have ey51 := cond_t ey51 hy51
                refine ow_det (.some rfl hy51) (stp_move rfl) rfl ?_
                refine ow_det (.some rfl hy51) (stp_move rfl) rfl ?_
                refine ow_det (.some rfl hy51) (stp_eql rfl rfl) rfl ?_
                refine ow_det .none (stp_pick_t rfl hy51 rfl) rfl ?_
                obtain rfl := Option.some.inj ey51
                exact ow_nil (kw_jy (.top rfl (.cons rfl (.cons rfl (.cons rfl (.cons rfl (.refl _)))))) (.refl _))
              · have ey51 := cond_f ey51 hy51
                refine ow_off (.some rfl hy51) rfl ?_
                refine ow_off (.some rfl hy51) rfl ?_
                refine ow_off (.some rfl hy51) rfl ?_
                refine ow_det .none (stp_pick_f rfl hy51 rfl) rfl ?_
                obtain rfl := Option.some.inj ey51
                exact ow_nil (kw_jy (.top rfl (.cons rfl (.cons rfl (.cons rfl (.cons rfl (.refl _)))))) (.refl _))
            · refine ow_det .none (stp_move rfl) rfl ?_
              obtain ⟨y52, ey52, H0⟩ := bind_some H0
              refine ow_cutY 3 89 y52 ?_ ?_
              · rcases Bool.eq_false_or_eq_true y51 with hy52 | hy52
                · have ey52 := cond_t ey52 hy52
                  refine ow_det (.some rfl hy52) (stp_move rfl) rfl ?_
                  refine ow_det (.some rfl hy52) (stp_eql rfl rfl) rfl ?_
                  refine ow_det .none (stp_pick_t rfl hy52 rfl) rfl ?_
                  obtain rfl := Option.some.inj ey52
                  exact ow_nil (kw_jy (.top rfl (.cons rfl (.cons rfl (.cons rfl (.refl _))))) (.refl _))
                · have ey52 := cond_f ey52 hy52
                  refine ow_off (.some rfl hy52) rfl ?_
                  refine ow_off (.some rfl hy52) rfl ?_
                  refine ow_det .none (stp_pick_f rfl hy52 rfl) rfl ?_
                  obtain rfl := Option.some.inj ey52
                  exact ow_nil (kw_jy (.top rfl (.cons rfl (.cons rfl (.cons rfl (.refl _))))) (.refl _))
              · refine ow_det .none (stp_move rfl) rfl ?_
                obtain ⟨y53, ey53, H0⟩ := bind_some H0
                refine ow_cutY 2 92 y53 ?_ ?_
                · rcases Bool.eq_false_or_eq_true y52 with hy53 | hy53
                  · have ey53 := cond_t ey53 hy53
                    refine ow_det (.some rfl hy53) (stp_move rfl) rfl ?_
                    refine ow_det .none (stp_pick_t rfl hy53 rfl) rfl ?_
                    obtain rfl := Option.some.inj ey53
                    exact ow_nil (kw_jy (.top rfl (.cons rfl (.cons rfl (.refl _)))) (.refl _))
                  · have ey53 := cond_f ey53 hy53
                    refine ow_off (.some rfl hy53) rfl ?_
                    refine ow_det .none (stp_pick_f rfl hy53 rfl) rfl ?_
                    obtain rfl := Option.some.inj ey53
                    exact ow_nil (kw_jy (.top rfl (.cons rfl (.cons rfl (.refl _)))) (.refl _))
                · refine ow_det .none (stp_move rfl) rfl ?_
                  obtain ⟨y54, ey54, H0⟩ := bind_some H0
                  refine ow_cutY 4 97 y54 ?_ ?_
                  · rcases Bool.eq_false_or_eq_true y53 with hy54 | hy54
                    · have ey54 := cond_t ey54 hy54
                      refine ow_det (.some rfl hy54) (stp_loadN (us := [_, _]) ts26 rfl (Cells.box (id := 12) rfl 2 rfl)) rfl ?_
                      refine ow_det (.some rfl hy54) (stp_loadN (us := [_, _]) ts26 rfl (Cells.box (id := 2) rfl 2 rfl)) rfl ?_
                      obtain ⟨x55, e55, ey54⟩ := bind_some ey54
                      refine ow_eff (.some rfl hy54) (stpU_call (fun i => 13 + i) cf15 (fun w hw => c_i_TableSame fl w x39.1 p40 ((x39.1.b).length) c42 p44 ((x39.1.f).length) c46 x2.1 p3 ((x2.1.b).length) c5 p7 ((x2.1.f).length) c9 rfl (OwnC.pass (id := 10) rfl o43 hw) rfl (OwnC.pass (id := 11) rfl o47 hw) rfl (OwnC.pass (id := 0) rfl o6 hw) rfl (OwnC.pass (id := 1) rfl o10 hw) x55 e55) (sevs_cons rfl (sevs_cons rfl sevs_nil))) rfl ?_
                      rintro _ _ ⟨_, ⟨rfl, rfl⟩, rfl⟩
                      refine ow_det .none (stp_pick_t rfl hy54 rfl) rfl ?_
                      obtain rfl := Option.some.inj ey54
                      exact ow_nil (kw_jy (.top rfl (.cons rfl (.cons rfl (.cons rfl (.cons rfl (.refl _)))))) (.refl _))
                    · have ey54 := cond_f ey54 hy54
                      refine ow_off (.some rfl hy54) rfl ?_
                      refine ow_off (.some rfl hy54) rfl ?_
                      refine ow_off (.some rfl hy54) rfl ?_
                      refine ow_det .none (stp_pick_f rfl hy54 rfl) rfl ?_
                      obtain rfl := Option.some.inj ey54
                      exact ow_nil (kw_jy (.top rfl (.cons rfl (.cons rfl (.cons rfl (.cons rfl (.refl _)))))) (.refl _))
                  · refine ow_det .none (stp_assign rfl) rfl ?_
                    refine ow_nil ?_
                    refine kw_nx ?_
                    refine cw_ret ?_
                    have q0 := Option.some.inj H0
                    subst q0
                    exact kw_ret Tryd.results3 (.cons (.tmp rfl) .nil) [] [] trivial (by decide) ⟨rfl, rfl⟩
end Go.Proofs.YtkocamaoeojfhaaDoor
