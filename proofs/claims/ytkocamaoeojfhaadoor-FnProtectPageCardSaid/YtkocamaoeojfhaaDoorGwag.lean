/- The walks: functions of the program return what their pure functions say. Printed by a program (gen.py). -/
import Derived.Test.YtkocamaoeojfhaaDoorGp
import Derived.Test.YtkocamaoeojfhaaDoorGt
import Derived.Test.YtkocamaoeojfhaaDoorMan
import Derived.Test.YtkocamaoeojfhaaDoorGwab
import Derived.Test.YtkocamaoeojfhaaDoorGwah
import Derived.Test.YtkocamaoeojfhaaDoorGwai
import Derived.Test.YtkocamaoeojfhaaDoorGwak
import Derived.Test.YtkocamaoeojfhaaDoorGws
set_option linter.unusedSimpArgs false
set_option linter.unusedVariables false
set_option linter.unusedSectionVars false
namespace Go.Proofs.YtkocamaoeojfhaaDoor
open Go.RowKit
set_option maxHeartbeats 4000000 in
set_option maxRecDepth 20000 in
theorem c_s_l12Rd_pick (fl : Nat) (w : World) (m0 : Nat) (a0_0 : (List UInt8)) (p0_0_0 : Option Addr) (n0_0_0 c0_0_0 : Nat) (a0_1 : Int) (a1 : Int) (hn0_0_0 : n0_0_0 = (a0_0).length) (hr0_0_0 : RO w (hkeys [(0, [(m0, .cells #[.slice p0_0_0 n0_0_0 c0_0_0, .int .i64 a0_1] 97 (0, 0))])]) (RdL p0_0_0 c0_0_0 a0_0)) (hM : Sat w (hkeys [(0, [(m0, .cells #[.slice p0_0_0 n0_0_0 c0_0_0, .int .i64 a0_1] 97 (0, 0))])]) w [(0, [(m0, .cells #[.slice p0_0_0 n0_0_0 c0_0_0, .int .i64 a0_1] 97 (0, 0))])]) (r : Int × Int) (H0 : s_l12Rd_pick fl a0_0 a0_1 a1 = some r) :
    Ct Tryd.prog 74 [.pointer (some ⟨m0, 0, none⟩), .int .i64 a1] w [(0, [(m0, .cells #[.slice p0_0_0 n0_0_0 c0_0_0, .int .i64 a0_1] 97 (0, 0))])] (fun rv h' => rv = .int .i64 r.1 ∧ h' = [(0, [(m0, .cells #[.slice p0_0_0 n0_0_0 c0_0_0, .int .i64 r.2] 97 (0, 0))])]) := by
  obtain rfl := hn0_0_0
  unfold s_l12Rd_pick at H0
  refine ct_of_cw Tryd.func74 rfl Tryd.ntmps74 rfl hM ?_
  refine cw_seq ?_
  refine cw_region ?_
  refine ow_det .none (stp_assign rfl) rfl ?_
  refine ow_nil ?_
  refine kw_nx ?_
  refine cw_seq ?_
  refine cw_region ?_
  refine ow_det .none (stp_move rfl) rfl ?_
  refine ow_det .none (stp_move rfl) rfl ?_
  refine ow_det .none (stp_nilCheck rfl) rfl ?_
  refine ow_det .none (stp_fieldAddr (j := 1) Tryd.underlying97 rfl ts3 rfl rfl rfl) rfl ?_
  refine ow_det .none (stp_load1 ts3 rfl (Cells.box (id := 0) rfl 1 rfl)) rfl ?_
  obtain ⟨x1, e1, H0⟩ := bind_some H0
  refine ow_det .none (stp_add rfl rfl e1) rfl ?_
  refine ow_det .none (stp_nilCheck rfl) rfl ?_
  refine ow_det .none (stp_fieldAddr (j := 1) Tryd.underlying97 rfl ts3 rfl rfl rfl) rfl ?_
  refine ow_eff0 .none (stpU_store (id := 0) (cs' := [.slice p0_0_0 ((a0_0).length) c0_0_0, .int .i64 x1]) ts3 rfl rfl rfl rfl rfl rfl rfl) ?_
  rintro _ _ rfl
  refine ow_nil ?_
  refine kw_nx ?_
  refine cw_seq ?_
  refine cw_seq ?_
  refine cw_region ?_
  refine ow_det .none (stp_move rfl) rfl ?_
  refine ow_det .none (stp_lss rfl rfl) rfl ?_
  refine ow_det .none (stp_move rfl) rfl ?_
  obtain ⟨y2, ey2, H0⟩ := bind_some H0
  refine ow_cutY 7 24 y2 ?_ ?_
  · rcases Bool.eq_false_or_eq_true (decide (a1 < 1)) with hy2 | hy2
    · have ey2 := cond_t ey2 hy2
      refine ow_off (.some rfl hy2) rfl ?_
      refine ow_off (.some rfl hy2) rfl ?_
      refine ow_off (.some rfl hy2) rfl ?_
      refine ow_off (.some rfl hy2) rfl ?_
      refine ow_off (.some rfl hy2) rfl ?_
      refine ow_off (.some rfl hy2) rfl ?_
      refine ow_det .none (stp_pick_t rfl hy2 rfl) rfl ?_
      obtain rfl := Option.some.inj ey2
      exact ow_nil (kw_jy (.top rfl (.cons rfl (.cons rfl (.cons rfl (.cons rfl (.cons rfl (.cons rfl (.cons rfl (.refl _))))))))) (.refl _))
    · have ey2 := cond_f ey2 hy2
      refine ow_det (.some rfl hy2) (stp_move rfl) rfl ?_
      refine ow_det (.some rfl hy2) (stp_nilCheck rfl) rfl ?_
      refine ow_det (.some rfl hy2) (stp_fieldAddr (j := 0) Tryd.underlying97 rfl ts22 rfl rfl rfl) rfl ?_
      refine ow_det (.some rfl hy2) (stp_load1 ts22 rfl (Cells.box (id := 0) rfl 1 rfl)) rfl ?_
      refine ow_det (.some rfl hy2) (stp_len Tryd.underlying22 rfl) rfl ?_
      refine ow_det (.some rfl hy2) (stp_eql rfl rfl) rfl ?_
      refine ow_det .none (stp_pick_f rfl hy2 rfl) rfl ?_
      obtain rfl := Option.some.inj ey2
      exact ow_nil (kw_jy (.top rfl (.cons rfl (.cons rfl (.cons rfl (.cons rfl (.cons rfl (.cons rfl (.cons rfl (.refl _))))))))) (.refl _))
  · refine ow_nil ?_
    refine kw_nx ?_
    refine cw_cond rfl (fun h3 => ?_) (fun h3 => ?_)
    · have H0 := cond_t H0 h3
      refine cw_seq ?_
      refine cw_region ?_
      refine ow_det .none (stp_assign rfl) rfl ?_
      refine ow_nil ?_
      refine kw_nx ?_
      refine cw_ret ?_
      refine kw_nx_ret ?_
      have q0 := Option.some.inj H0
      subst q0
      exact kw_ret Tryd.results74 (.cons (.tmp rfl) .nil) [(0, [(m0, .cells #[.slice p0_0_0 ((a0_0).length) c0_0_0, .int .i64 x1] 97 (0, 0))])] [0] ⟨0, [], rfl, rfl, trivial⟩ (by decide) ⟨rfl, rfl⟩
    · have H0 := cond_f H0 h3
      refine cw_skip ?_
      refine kw_nx ?_
      refine cw_seq ?_
      refine cw_region ?_
      refine ow_det .none (stp_move rfl) rfl ?_
      refine ow_det .none (stp_nilCheck rfl) rfl ?_
      refine ow_det .none (stp_fieldAddr (j := 1) Tryd.underlying97 rfl ts3 rfl rfl rfl) rfl ?_
      refine ow_det .none (stp_load1 ts3 rfl (Cells.box (id := 0) rfl 1 rfl)) rfl ?_
      obtain ⟨x4, e4, H0⟩ := bind_some H0
      refine ow_det .none (stp_sub rfl rfl e4) rfl ?_
      refine ow_det .none (stp_assign rfl) rfl ?_
      refine ow_nil ?_
      refine kw_nx ?_
      refine cw_seq ?_
      refine cw_seq ?_
      refine cw_region ?_
      refine ow_det .none (stp_move rfl) rfl ?_
      refine ow_det .none (stp_move rfl) rfl ?_
      refine ow_det .none (stp_nilCheck rfl) rfl ?_
      refine ow_det .none (stp_fieldAddr (j := 0) Tryd.underlying97 rfl ts22 rfl rfl rfl) rfl ?_
      refine ow_det .none (stp_load1 ts22 rfl (Cells.box (id := 0) rfl 1 rfl)) rfl ?_
      refine ow_det .none (stp_len Tryd.underlying22 rfl) rfl ?_
      refine ow_det .none (stp_lss rfl rfl) rfl ?_
      refine ow_nil ?_
      refine kw_nx ?_
      refine cw_cond rfl (fun h5 => ?_) (fun h5 => ?_)
      · have H0 := cond_t H0 h5
        refine cw_seq ?_
        refine cw_region ?_
        refine ow_det .none (stp_move rfl) rfl ?_
        refine ow_det .none (stp_nilCheck rfl) rfl ?_
        refine ow_det .none (stp_fieldAddr (j := 0) Tryd.underlying97 rfl ts22 rfl rfl rfl) rfl ?_
        refine ow_det .none (stp_load1 ts22 rfl (Cells.box (id := 0) rfl 1 rfl)) rfl ?_
        refine ow_det .none (stp_move rfl) rfl ?_
        obtain ⟨x6, e6, H0⟩ := bind_some H0
        refine ow_det .none (stp_indexAddr Tryd.underlying22 ts5 (by decide) rfl rfl rfl (Rdb.ro hr0_0_0) e6) rfl ?_
        refine ow_det .none (stp_load1 ts5 rfl (Cells.el (Rdb.ro hr0_0_0) (by decide) e6 0 1 rfl)) rfl ?_
        obtain ⟨x7, e7, H0⟩ := bind_some H0
        refine ow_det .none (stp_convI Tryd.underlying5 Tryd.underlying3 rfl e7) rfl ?_
        refine ow_det .none (stp_move rfl) rfl ?_
        obtain ⟨x8, e8, H0⟩ := bind_some H0
        refine ow_det .none (stp_rem rfl rfl e8) rfl ?_
        refine ow_det .none (stp_assign rfl) rfl ?_
        refine ow_nil ?_
        refine kw_nx ?_
        refine cw_ret ?_
        refine kw_nx_ret ?_
        have q0 := Option.some.inj H0
        subst q0
        exact kw_ret Tryd.results74 (.cons (.tmp rfl) .nil) [(0, [(m0, .cells #[.slice p0_0_0 ((a0_0).length) c0_0_0, .int .i64 x1] 97 (0, 0))])] [0] ⟨0, [], rfl, rfl, trivial⟩ (by decide) ⟨rfl, rfl⟩
      · have H0 := cond_f H0 h5
        refine cw_skip ?_
        refine kw_nx ?_
        refine cw_seq ?_
        obtain ⟨x9, e9, H0⟩ := bind_some H0
        obtain ⟨x10, e10, H0⟩ := bind_some H0
        obtain ⟨x11, e11, H0⟩ := bind_some H0
        obtain ⟨x12, e12, H0⟩ := bind_some H0
        obtain ⟨x13, e13, H0⟩ := bind_some H0
        obtain ⟨x14, e14, H0⟩ := bind_some H0
        obtain ⟨x15, e15, H0⟩ := bind_some H0
        obtain ⟨x16, e16, H0⟩ := bind_some H0
        obtain ⟨x17, e17, H0⟩ := bind_some H0
        obtain ⟨x18, e18, H0⟩ := bind_some H0
        obtain ⟨x19, e19, H0⟩ := bind_some H0
        obtain ⟨x20, e20, H0⟩ := bind_some H0
        obtain ⟨x21, e21, H0⟩ := bind_some H0
        obtain ⟨x22, e22, H0⟩ := bind_some H0
        obtain ⟨x23, e23, H0⟩ := bind_some H0
        obtain ⟨x24, e24, H0⟩ := bind_some H0
        refine region_drawn { dst := fun i => match i with | 0 => some 47 | 1 => some 48 | 2 => some 49 | 3 => some 50 | 4 => some 51 | 5 => some 52 | 6 => some 53 | 7 => some 54 | 8 => some 55 | 9 => some 56 | 10 => some 57 | 11 => some 58 | 12 => some 59 | 13 => some 60 | 14 => some 61 | 15 => some 62 | 16 => some 63 | 17 => some 64 | 18 => some 65 | 19 => some 66 | 20 => some 67 | 21 => some 68 | 22 => some 69 | 23 => some 70 | 24 => some 71 | 25 => some 72 | 26 => some 73 | 27 => some 74 | 28 => some 75 | 29 => some 76 | 30 => some 77 | 31 => some 78 | 32 => some 79 | 33 => some 80 | 34 => some 81 | 35 => some 82 | 36 => some 83 | 37 => some 84 | 38 => some 85 | 39 => some 86 | 40 => some 87 | 41 => some 88 | 42 => some 89 | 43 => some 90 | 44 => some 91 | 45 => some 6 | _ => none, pre := fun i => match i with | 1 => [0] | 2 => [0, 1] | 3 => [0, 1, 2] | 6 => [5] | 7 => [5, 6] | 8 => [5, 6, 7] | 9 => [5, 6, 7, 8] | 10 => [4, 5, 6, 7, 8, 9] | 11 => [0, 1, 2, 3, 4, 5, 6, 7, 8, 9, 10] | 12 => [0, 1, 2, 3, 4, 5, 6, 7, 8, 9, 10, 11] | 13 => [0, 1, 2, 3, 4, 5, 6, 7, 8, 9, 10, 11, 12] | 14 => [0, 1, 2, 3, 4, 5, 6, 7, 8, 9, 10, 11, 12, 13] | 16 => [15] | 17 => [15, 16] | 18 => [15, 16, 17] | 20 => [19] | 21 => [19, 20] | 23 => [22] | 24 => [22, 23] | 25 => [22, 23, 24] | 26 => [22, 23, 24, 25] | 27 => [19, 20, 21, 22, 23, 24, 25, 26] | 28 => [15, 16, 17, 18, 19, 20, 21, 22, 23, 24, 25, 26, 27] | 29 => [15, 16, 17, 18, 19, 20, 21, 22, 23, 24, 25, 26, 27, 28] | 30 => [15, 16, 17, 18, 19, 20, 21, 22, 23, 24, 25, 26, 27, 28, 29] | 31 => [15, 16, 17, 18, 19, 20, 21, 22, 23, 24, 25, 26, 27, 28, 29, 30] | 32 => [0, 1, 2, 3, 4, 5, 6, 7, 8, 9, 10, 11, 12, 13, 14, 15, 16, 17, 18, 19, 20, 21, 22, 23, 24, 25, 26, 27, 28, 29, 30, 31] | 34 => [33] | 35 => [0, 1, 2, 3, 4, 5, 6, 7, 8, 9, 10, 11, 12, 13, 14, 15, 16, 17, 18, 19, 20, 21, 22, 23, 24, 25, 26, 27, 28, 29, 30, 31, 32, 33, 34] | 38 => [37] | 39 => [37, 38] | 40 => [37, 38, 39] | 41 => [37, 38, 39, 40] | 42 => [36, 37, 38, 39, 40, 41] | 43 => [36, 37, 38, 39, 40, 41, 42] | 44 => [0, 1, 2, 3, 4, 5, 6, 7, 8, 9, 10, 11, 12, 13, 14, 15, 16, 17, 18, 19, 20, 21, 22, 23, 24, 25, 26, 27, 28, 29, 30, 31, 32, 33, 34, 35, 36, 37, 38, 39, 40, 41, 42, 43] | 45 => [0, 1, 2, 3, 4, 5, 6, 7, 8, 9, 10, 11, 12, 13, 14, 15, 16, 17, 18, 19, 20, 21, 22, 23, 24, 25, 26, 27, 28, 29, 30, 31, 32, 33, 34, 35, 36, 37, 38, 39, 40, 41, 42, 43, 44] | _ => [], ids := fun i => match i with | _ => [], rs := fun i => match i with | 0 => [(0, none)] | 1 => [(47, some 0)] | 2 => [(48, some 1)] | 3 => [(49, some 2)] | 4 => [(5, none)] | 5 => [(0, none)] | 6 => [(52, some 5)] | 7 => [(53, some 6)] | 8 => [(54, some 7)] | 9 => [(55, some 8)] | 10 => [(51, some 4), (56, some 9)] | 11 => [(50, some 3), (57, some 10)] | 12 => [(58, some 11)] | 13 => [(59, some 12)] | 14 => [(60, some 13)] | 15 => [(0, none)] | 16 => [(62, some 15)] | 17 => [(63, some 16)] | 18 => [(64, some 17)] | 19 => [(5, none)] | 20 => [(66, some 19)] | 21 => [(67, some 20)] | 22 => [(0, none)] | 23 => [(69, some 22)] | 24 => [(70, some 23)] | 25 => [(71, some 24)] | 26 => [(72, some 25)] | 27 => [(68, some 21), (73, some 26)] | 28 => [(65, some 18), (74, some 27)] | 29 => [(75, some 28)] | 30 => [(76, some 29)] | 31 => [(77, some 30)] | 32 => [(61, some 14), (78, some 31)] | 33 => [(5, none)] | 34 => [(80, some 33)] | 35 => [(79, some 32), (81, some 34)] | 36 => [(5, none)] | 37 => [(0, none)] | 38 => [(84, some 37)] | 39 => [(85, some 38)] | 40 => [(86, some 39)] | 41 => [(87, some 40)] | 42 => [(83, some 36), (88, some 41)] | 43 => [(89, some 42)] | 44 => [(82, some 35), (90, some 43)] | 45 => [(91, some 44)] | _ => [], rh := fun i => match i with | 3 => [(0, none)] | 8 => [(0, none)] | 18 => [(0, none)] | 25 => [(0, none)] | 40 => [(0, none)] | _ => [], V := fun i g => match i with | 0 => .pointer (some ⟨m0, 0, none⟩) | 1 => .pointer (some ⟨m0, 0, none⟩) | 2 => .pointer (some ⟨m0, 0, none⟩) | 3 => .slice p0_0_0 ((a0_0).length) c0_0_0 | 4 => .int .i64 x4 | 5 => .pointer (some ⟨m0, 0, none⟩) | 6 => .pointer (some ⟨m0, 0, none⟩) | 7 => .pointer (some ⟨m0, 0, none⟩) | 8 => .slice p0_0_0 ((a0_0).length) c0_0_0 | 9 => .int .i64 ((a0_0).length : Int) | 10 => .int .i64 x9 | 11 => .pointer (some ⟨eB p0_0_0, eO p0_0_0 + Int.toNat x9 * Enc.sz UInt8 + 0, none⟩) | 12 => .int .u8 (x10.toNat : Int) | 13 => .int .i64 x11 | 14 => .int .i64 x12 | 15 => .pointer (some ⟨m0, 0, none⟩) | 16 => .pointer (some ⟨m0, 0, none⟩) | 17 => .pointer (some ⟨m0, 0, none⟩) | 18 => .slice p0_0_0 ((a0_0).length) c0_0_0 | 19 => .int .i64 x4 | 20 => .int .i64 x13 | 21 => .int .i64 x14 | 22 => .pointer (some ⟨m0, 0, none⟩) | 23 => .pointer (some ⟨m0, 0, none⟩) | 24 => .pointer (some ⟨m0, 0, none⟩) | 25 => .slice p0_0_0 ((a0_0).length) c0_0_0 | 26 => .int .i64 ((a0_0).length : Int) | 27 => .int .i64 x15 | 28 => .pointer (some ⟨eB p0_0_0, eO p0_0_0 + Int.toNat x15 * Enc.sz UInt8 + 0, none⟩) | 29 => .int .u8 (x16.toNat : Int) | 30 => .int .i64 x17 | 31 => .int .i64 x18 | 32 => .int .i64 x19 | 33 => .int .i64 x4 | 34 => .int .i64 x20 | 35 => .int .i64 x21 | 36 => .int .i64 x4 | 37 => .pointer (some ⟨m0, 0, none⟩) | 38 => .pointer (some ⟨m0, 0, none⟩) | 39 => .pointer (some ⟨m0, 0, none⟩) | 40 => .slice p0_0_0 ((a0_0).length) c0_0_0 | 41 => .int .i64 ((a0_0).length : Int) | 42 => .int .i64 x22 | 43 => .int .i64 x23 | 44 => .int .i64 x24 | 45 => .int .i64 x24 | _ => undef, U := fun i g => match i with | _ => [], Φ := fun i x => match i with | _ => True } g_mixed [0, 5] [0] (by kernel_rfl) (by kernel_rfl) (by kernel_rfl) ⟨⟨⟨⟨⟨⟨⟨⟨⟨⟨⟨⟨⟨⟨⟨⟨⟨⟨⟨⟨⟨⟨⟨⟨⟨⟨⟨⟨⟨⟨⟨⟨⟨⟨⟨⟨⟨⟨⟨⟨⟨⟨⟨⟨⟨⟨trivial, fun _ => ⟨rfl, rfl⟩⟩, fun _ => ⟨rfl, rfl⟩⟩, fun _ => ⟨rfl, rfl⟩⟩, fun _ => ⟨rfl, rfl⟩⟩, fun _ => ⟨rfl, rfl⟩⟩, fun _ => ⟨rfl, rfl⟩⟩, fun _ => ⟨rfl, rfl⟩⟩, fun _ => ⟨rfl, rfl⟩⟩, fun _ => ⟨rfl, rfl⟩⟩, fun _ => ⟨rfl, rfl⟩⟩, fun _ => ⟨rfl, rfl⟩⟩, fun _ => ⟨rfl, rfl⟩⟩, fun _ => ⟨rfl, rfl⟩⟩, fun _ => ⟨rfl, rfl⟩⟩, fun _ => ⟨rfl, rfl⟩⟩, fun _ => ⟨rfl, rfl⟩⟩, fun _ => ⟨rfl, rfl⟩⟩, fun _ => ⟨rfl, rfl⟩⟩, fun _ => ⟨rfl, rfl⟩⟩, fun _ => ⟨rfl, rfl⟩⟩, fun _ => ⟨rfl, rfl⟩⟩, fun _ => ⟨rfl, rfl⟩⟩, fun _ => ⟨rfl, rfl⟩⟩, fun _ => ⟨rfl, rfl⟩⟩, fun _ => ⟨rfl, rfl⟩⟩, fun _ => ⟨rfl, rfl⟩⟩, fun _ => ⟨rfl, rfl⟩⟩, fun _ => ⟨rfl, rfl⟩⟩, fun _ => ⟨rfl, rfl⟩⟩, fun _ => ⟨rfl, rfl⟩⟩, fun _ => ⟨rfl, rfl⟩⟩, fun _ => ⟨rfl, rfl⟩⟩, fun _ => ⟨rfl, rfl⟩⟩, fun _ => ⟨rfl, rfl⟩⟩, fun _ => ⟨rfl, rfl⟩⟩, fun _ => ⟨rfl, rfl⟩⟩, fun _ => ⟨rfl, rfl⟩⟩, fun _ => ⟨rfl, rfl⟩⟩, fun _ => ⟨rfl, rfl⟩⟩, fun _ => ⟨rfl, rfl⟩⟩, fun _ => ⟨rfl, rfl⟩⟩, fun _ => ⟨rfl, rfl⟩⟩, fun _ => ⟨rfl, rfl⟩⟩, fun _ => ⟨rfl, rfl⟩⟩, fun _ => ⟨rfl, rfl⟩⟩, fun _ => ⟨rfl, rfl⟩⟩ ?_ ?_
        · refine ⟨⟨⟨⟨⟨⟨⟨⟨⟨⟨⟨⟨⟨⟨⟨⟨⟨⟨⟨⟨⟨⟨⟨⟨⟨⟨⟨⟨⟨⟨⟨⟨⟨⟨⟨⟨⟨⟨⟨⟨⟨⟨⟨⟨⟨⟨trivial, ?_⟩, ?_⟩, ?_⟩, ?_⟩, ?_⟩, ?_⟩, ?_⟩, ?_⟩, ?_⟩, ?_⟩, ?_⟩, ?_⟩, ?_⟩, ?_⟩, ?_⟩, ?_⟩, ?_⟩, ?_⟩, ?_⟩, ?_⟩, ?_⟩, ?_⟩, ?_⟩, ?_⟩, ?_⟩, ?_⟩, ?_⟩, ?_⟩, ?_⟩, ?_⟩, ?_⟩, ?_⟩, ?_⟩, ?_⟩, ?_⟩, ?_⟩, ?_⟩, ?_⟩, ?_⟩, ?_⟩, ?_⟩, ?_⟩, ?_⟩, ?_⟩, ?_⟩, ?_⟩
          · exact loc_det rfl rfl (fun _ => rfl) trivial (fun g hΦ s h hs hh => ⟨.none, (stp_move (sv hs 0 rfl))⟩)
          · exact loc_det rfl rfl (fun _ => rfl) trivial (fun g hΦ s h hs hh => ⟨.none, (stp_nilCheck (sv hs 47 rfl))⟩)
          · exact loc_det rfl rfl (fun _ => rfl) trivial (fun g hΦ s h hs hh => ⟨.none, (stp_fieldAddr (j := 0) Tryd.underlying97 rfl ts22 rfl (sv hs 48 rfl) rfl)⟩)
          · exact loc_det rfl rfl (fun _ => rfl) trivial (fun g hΦ s h hs hh => ⟨.none, (stp_load1 ts22 (sv hs 49 rfl) (Cells.box (id := 0) (hh.get 0 _ rfl) 1 rfl))⟩)
          · exact loc_det rfl rfl (fun _ => rfl) trivial (fun g hΦ s h hs hh => ⟨.none, (stp_move (sv hs 5 rfl))⟩)
          · exact loc_det rfl rfl (fun _ => rfl) trivial (fun g hΦ s h hs hh => ⟨.none, (stp_move (sv hs 0 rfl))⟩)
          · exact loc_det rfl rfl (fun _ => rfl) trivial (fun g hΦ s h hs hh => ⟨.none, (stp_nilCheck (sv hs 52 rfl))⟩)
          · exact loc_det rfl rfl (fun _ => rfl) trivial (fun g hΦ s h hs hh => ⟨.none, (stp_fieldAddr (j := 0) Tryd.underlying97 rfl ts22 rfl (sv hs 53 rfl) rfl)⟩)
          · exact loc_det rfl rfl (fun _ => rfl) trivial (fun g hΦ s h hs hh => ⟨.none, (stp_load1 ts22 (sv hs 54 rfl) (Cells.box (id := 0) (hh.get 0 _ rfl) 1 rfl))⟩)
          · exact loc_det rfl rfl (fun _ => rfl) trivial (fun g hΦ s h hs hh => ⟨.none, (stp_len Tryd.underlying22 (sv hs 55 rfl))⟩)
          · exact loc_det rfl rfl (fun _ => rfl) trivial (fun g hΦ s h hs hh => ⟨.none, (stp_rem (sv hs 51 rfl) (sv hs 56 rfl) e9)⟩)
          · exact loc_det rfl rfl (fun _ => rfl) trivial (fun g hΦ s h hs hh => ⟨.none, (stp_indexAddr Tryd.underlying22 ts5 (by decide) (sv hs 50 rfl) rfl (sv hs 57 rfl) (Rdb.ro hr0_0_0) e10)⟩)
          · exact loc_det rfl rfl (fun _ => rfl) trivial (fun g hΦ s h hs hh => ⟨.none, (stp_load1 ts5 (sv hs 58 rfl) (Cells.el (Rdb.ro hr0_0_0) (by decide) e10 0 1 rfl))⟩)
          · exact loc_det rfl rfl (fun _ => rfl) trivial (fun g hΦ s h hs hh => ⟨.none, (stp_convI Tryd.underlying5 Tryd.underlying3 (sv hs 59 rfl) e11)⟩)
          · exact loc_det rfl rfl (fun _ => rfl) trivial (fun g hΦ s h hs hh => ⟨.none, (stp_mul (sv hs 60 rfl) rfl e12)⟩)
          · exact loc_det rfl rfl (fun _ => rfl) trivial (fun g hΦ s h hs hh => ⟨.none, (stp_move (sv hs 0 rfl))⟩)
          · exact loc_det rfl rfl (fun _ => rfl) trivial (fun g hΦ s h hs hh => ⟨.none, (stp_nilCheck (sv hs 62 rfl))⟩)
          · exact loc_det rfl rfl (fun _ => rfl) trivial (fun g hΦ s h hs hh => ⟨.none, (stp_fieldAddr (j := 0) Tryd.underlying97 rfl ts22 rfl (sv hs 63 rfl) rfl)⟩)
          · exact loc_det rfl rfl (fun _ => rfl) trivial (fun g hΦ s h hs hh => ⟨.none, (stp_load1 ts22 (sv hs 64 rfl) (Cells.box (id := 0) (hh.get 0 _ rfl) 1 rfl))⟩)
          · exact loc_det rfl rfl (fun _ => rfl) trivial (fun g hΦ s h hs hh => ⟨.none, (stp_move (sv hs 5 rfl))⟩)
          · exact loc_det rfl rfl (fun _ => rfl) trivial (fun g hΦ s h hs hh => ⟨.none, (stp_mul (sv hs 66 rfl) rfl e13)⟩)
          · exact loc_det rfl rfl (fun _ => rfl) trivial (fun g hΦ s h hs hh => ⟨.none, (stp_add (sv hs 67 rfl) rfl e14)⟩)
          · exact loc_det rfl rfl (fun _ => rfl) trivial (fun g hΦ s h hs hh => ⟨.none, (stp_move (sv hs 0 rfl))⟩)
          · exact loc_det rfl rfl (fun _ => rfl) trivial (fun g hΦ s h hs hh => ⟨.none, (stp_nilCheck (sv hs 69 rfl))⟩)
          · exact loc_det rfl rfl (fun _ => rfl) trivial (fun g hΦ s h hs hh => ⟨.none, (stp_fieldAddr (j := 0) Tryd.underlying97 rfl ts22 rfl (sv hs 70 rfl) rfl)⟩)
          · exact loc_det rfl rfl (fun _ => rfl) trivial (fun g hΦ s h hs hh => ⟨.none, (stp_load1 ts22 (sv hs 71 rfl) (Cells.box (id := 0) (hh.get 0 _ rfl) 1 rfl))⟩)
          · exact loc_det rfl rfl (fun _ => rfl) trivial (fun g hΦ s h hs hh => ⟨.none, (stp_len Tryd.underlying22 (sv hs 72 rfl))⟩)
          · exact loc_det rfl rfl (fun _ => rfl) trivial (fun g hΦ s h hs hh => ⟨.none, (stp_rem (sv hs 68 rfl) (sv hs 73 rfl) e15)⟩)
          · exact loc_det rfl rfl (fun _ => rfl) trivial (fun g hΦ s h hs hh => ⟨.none, (stp_indexAddr Tryd.underlying22 ts5 (by decide) (sv hs 65 rfl) rfl (sv hs 74 rfl) (Rdb.ro hr0_0_0) e16)⟩)
          · exact loc_det rfl rfl (fun _ => rfl) trivial (fun g hΦ s h hs hh => ⟨.none, (stp_load1 ts5 (sv hs 75 rfl) (Cells.el (Rdb.ro hr0_0_0) (by decide) e16 0 1 rfl))⟩)
          · exact loc_det rfl rfl (fun _ => rfl) trivial (fun g hΦ s h hs hh => ⟨.none, (stp_convI Tryd.underlying5 Tryd.underlying3 (sv hs 76 rfl) e17)⟩)
          · exact loc_det rfl rfl (fun _ => rfl) trivial (fun g hΦ s h hs hh => ⟨.none, (stp_mul (sv hs 77 rfl) rfl e18)⟩)
          · exact loc_det rfl rfl (fun _ => rfl) trivial (fun g hΦ s h hs hh => ⟨.none, (stp_add (sv hs 61 rfl) (sv hs 78 rfl) e19)⟩)
          · exact loc_det rfl rfl (fun _ => rfl) trivial (fun g hΦ s h hs hh => ⟨.none, (stp_move (sv hs 5 rfl))⟩)
          · exact loc_det rfl rfl (fun _ => rfl) trivial (fun g hΦ s h hs hh => ⟨.none, (stp_mul (sv hs 80 rfl) rfl e20)⟩)
          · exact loc_det rfl rfl (fun _ => rfl) trivial (fun g hΦ s h hs hh => ⟨.none, (stp_add (sv hs 79 rfl) (sv hs 81 rfl) e21)⟩)
          · exact loc_det rfl rfl (fun _ => rfl) trivial (fun g hΦ s h hs hh => ⟨.none, (stp_move (sv hs 5 rfl))⟩)
          · exact loc_det rfl rfl (fun _ => rfl) trivial (fun g hΦ s h hs hh => ⟨.none, (stp_move (sv hs 0 rfl))⟩)
          · exact loc_det rfl rfl (fun _ => rfl) trivial (fun g hΦ s h hs hh => ⟨.none, (stp_nilCheck (sv hs 84 rfl))⟩)
          · exact loc_det rfl rfl (fun _ => rfl) trivial (fun g hΦ s h hs hh => ⟨.none, (stp_fieldAddr (j := 0) Tryd.underlying97 rfl ts22 rfl (sv hs 85 rfl) rfl)⟩)
          · exact loc_det rfl rfl (fun _ => rfl) trivial (fun g hΦ s h hs hh => ⟨.none, (stp_load1 ts22 (sv hs 86 rfl) (Cells.box (id := 0) (hh.get 0 _ rfl) 1 rfl))⟩)
          · exact loc_det rfl rfl (fun _ => rfl) trivial (fun g hΦ s h hs hh => ⟨.none, (stp_len Tryd.underlying22 (sv hs 87 rfl))⟩)
          · exact loc_det rfl rfl (fun _ => rfl) trivial (fun g hΦ s h hs hh => ⟨.none, (stp_quo (sv hs 83 rfl) (sv hs 88 rfl) e22)⟩)
          · exact loc_det rfl rfl (fun _ => rfl) trivial (fun g hΦ s h hs hh => ⟨.none, (stp_mul (sv hs 89 rfl) rfl e23)⟩)
          · exact loc_det rfl rfl (fun _ => rfl) trivial (fun g hΦ s h hs hh => ⟨.none, (stp_add (sv hs 82 rfl) (sv hs 90 rfl) e24)⟩)
          · exact loc_det rfl rfl (fun _ => rfl) trivial (fun g hΦ s h hs hh => ⟨.none, (stp_assign (sv hs 91 rfl))⟩)
        · intro g hΦ
          refine KW.sub (s' := [(1, .int .i64 a1), (6, .int .i64 x24)]) (h' := [(0, [(m0, .cells #[.slice p0_0_0 ((a0_0).length) c0_0_0, .int .i64 x1] 97 (0, 0))])]) ?_ ⟨rfl, rfl, trivial⟩ ⟨rfl, trivial⟩
          refine kw_nx ?_
          refine cw_seq ?_
          refine cw_region ?_
          refine ow_det .none (stp_move rfl) rfl ?_
          refine ow_det .none (stp_move rfl) rfl ?_
          obtain ⟨x25, e25, H0⟩ := bind_some H0
          refine ow_det .none (stp_quo rfl rfl e25) rfl ?_
          refine ow_det .none (stp_xor rfl rfl) rfl ?_
          refine ow_det .none (stp_assign rfl) rfl ?_
          refine ow_nil ?_
          refine kw_nx ?_
          refine cw_seq ?_
          refine cw_region ?_
          refine ow_det .none (stp_move rfl) rfl ?_
          refine ow_det .none (stp_move rfl) rfl ?_
          obtain ⟨x26, e26, H0⟩ := bind_some H0
          refine ow_det .none (stp_rem rfl rfl e26) rfl ?_
          refine ow_det .none (stp_assign rfl) rfl ?_
          refine ow_nil ?_
          refine kw_nx ?_
          refine cw_ret ?_
          have q0 := Option.some.inj H0
          subst q0
          exact kw_ret Tryd.results74 (.cons (.tmp rfl) .nil) [(0, [(m0, .cells #[.slice p0_0_0 ((a0_0).length) c0_0_0, .int .i64 x1] 97 (0, 0))])] [0] ⟨0, [], rfl, rfl, trivial⟩ (by decide) ⟨rfl, rfl⟩

set_option maxHeartbeats 4000000 in
set_option maxRecDepth 20000 in
theorem c_s_l12Rd_num (fl : Nat) (w : World) (m0 : Nat) (a0_0 : (List UInt8)) (p0_0_0 : Option Addr) (n0_0_0 c0_0_0 : Nat) (a0_1 : Int) (a1 : (List Int)) (p1_0 : Option Addr) (n1_0 c1_0 : Nat) (hn0_0_0 : n0_0_0 = (a0_0).length) (hr0_0_0 : RO w (hkeys [(0, [(m0, .cells #[.slice p0_0_0 n0_0_0 c0_0_0, .int .i64 a0_1] 97 (0, 0))])]) (RdL p0_0_0 c0_0_0 a0_0)) (hn1_0 : n1_0 = (a1).length) (hr1_0 : RO w (hkeys [(0, [(m0, .cells #[.slice p0_0_0 n0_0_0 c0_0_0, .int .i64 a0_1] 97 (0, 0))])]) (RdL p1_0 c1_0 a1)) (hM : Sat w (hkeys [(0, [(m0, .cells #[.slice p0_0_0 n0_0_0 c0_0_0, .int .i64 a0_1] 97 (0, 0))])]) w [(0, [(m0, .cells #[.slice p0_0_0 n0_0_0 c0_0_0, .int .i64 a0_1] 97 (0, 0))])]) (r : Int × Int) (H0 : s_l12Rd_num fl a0_0 a0_1 a1 = some r) :
    Ct Tryd.prog 37 [.pointer (some ⟨m0, 0, none⟩), .slice p1_0 n1_0 c1_0] w [(0, [(m0, .cells #[.slice p0_0_0 n0_0_0 c0_0_0, .int .i64 a0_1] 97 (0, 0))])] (fun rv h' => rv = .int .i64 r.1 ∧ h' = [(0, [(m0, .cells #[.slice p0_0_0 n0_0_0 c0_0_0, .int .i64 r.2] 97 (0, 0))])]) := by
  obtain rfl := hn0_0_0
  obtain rfl := hn1_0
  unfold s_l12Rd_num at H0
  refine ct_of_cw Tryd.func37 rfl Tryd.ntmps37 rfl hM ?_
  refine cw_seq ?_
  refine cw_region ?_
  refine ow_det .none (stp_assign rfl) rfl ?_
  refine ow_nil ?_
  refine kw_nx ?_
  refine cw_seq ?_
  refine cw_region ?_
  refine ow_det .none (stp_move rfl) rfl ?_
  refine ow_det .none (stp_move rfl) rfl ?_
  refine ow_det .none (stp_move rfl) rfl ?_
  refine ow_det .none (stp_len Tryd.underlying23 rfl) rfl ?_
  obtain ⟨x1, e1, H0⟩ := bind_some H0
  refine ow_eff .none (stpU_callM (fun i => bif Nat.beq i 0 then 0 else 1 + i) cf74 (fun w hw hb => c_s_l12Rd_pick fl w m0 a0_0 p0_0_0 ((a0_0).length) c0_0_0 a0_1 ((a1).length : Int) rfl (RO.passM hr0_0_0 hw hb) (hw.pass (js := [0]) ⟨0, [], rfl, rfl, trivial⟩ (by decide)) x1 e1) (sevs_cons rfl (sevs_cons rfl sevs_nil)) ⟨rfl, (fun _ _ hp => by obtain ⟨_, rfl⟩ := hp; exact ⟨_, rfl⟩), trivial⟩) rfl ?_
  rintro _ _ ⟨_, ⟨rfl, rfl⟩, rfl⟩
  obtain ⟨x2, e2, H0⟩ := bind_some H0
  refine ow_det .none (stp_indexAddr Tryd.underlying23 ts3 (by decide) rfl rfl rfl (Rdb.ro hr1_0) e2) rfl ?_
  refine ow_det .none (stp_load1 ts3 rfl (Cells.el (Rdb.ro hr1_0) (by decide) e2 0 1 rfl)) rfl ?_
  refine ow_det .none (stp_assign rfl) rfl ?_
  refine ow_nil ?_
  refine kw_nx ?_
  refine cw_ret ?_
  have q0 := Option.some.inj H0
  subst q0
  exact kw_ret Tryd.results37 (.cons (.tmp rfl) .nil) [(0, [(m0, .cells #[.slice p0_0_0 ((a0_0).length) c0_0_0, .int .i64 x1.2] 97 (0, 0))])] [0] ⟨0, [], rfl, rfl, trivial⟩ (by decide) ⟨rfl, rfl⟩

set_option maxHeartbeats 4000000 in
set_option maxRecDepth 20000 in
theorem c_s_l2Buckets (fl : Nat) (w : World) (a0 : Int) (r : Bool) (H0 : s_l2Buckets fl a0 = some r) :
    Ct Tryd.prog 83 [.int .i64 a0] w [] (fun rv h' => rv = .bool r ∧ h' = []) := by
  unfold s_l2Buckets at H0
  refine ct_of_cw Tryd.func83 rfl Tryd.ntmps83 rfl (Sat.refl _ _) ?_
  refine cw_seq ?_
  refine cw_region ?_
  refine ow_det .none (stp_assign rfl) rfl ?_
  refine ow_nil ?_
  refine kw_nx ?_
  refine cw_seq ?_
  refine cw_region ?_
  refine ow_det .none (stp_move rfl) rfl ?_
  refine ow_det .none (stp_geq rfl rfl) rfl ?_
  refine ow_det .none (stp_move rfl) rfl ?_
  obtain ⟨y1, ey1, H0⟩ := bind_some H0
  refine ow_cutY 3 8 y1 ?_ ?_
  · rcases Bool.eq_false_or_eq_true (decide (1 ≤ a0)) with hy1 | hy1
    · have ey1 := cond_t ey1 hy1
      refine ow_det (.some rfl hy1) (stp_move rfl) rfl ?_
      refine ow_det (.some rfl hy1) (stp_leq rfl rfl) rfl ?_
      refine ow_det .none (stp_pick_t rfl hy1 rfl) rfl ?_
      obtain rfl := Option.some.inj ey1
      exact ow_nil (kw_jy (.top rfl (.cons rfl (.cons rfl (.cons rfl (.refl _))))) (.refl _))
    · have ey1 := cond_f ey1 hy1
      refine ow_off (.some rfl hy1) rfl ?_
      refine ow_off (.some rfl hy1) rfl ?_
      refine ow_det .none (stp_pick_f rfl hy1 rfl) rfl ?_
      obtain rfl := Option.some.inj ey1
      exact ow_nil (kw_jy (.top rfl (.cons rfl (.cons rfl (.cons rfl (.refl _))))) (.refl _))
  · refine ow_det .none (stp_assign rfl) rfl ?_
    refine ow_nil ?_
    refine kw_nx ?_
    refine cw_ret ?_
    have q0 := Option.some.inj H0
    subst q0
    exact kw_ret Tryd.results83 (.cons (.tmp rfl) .nil) [] [] trivial (by decide) ⟨rfl, rfl⟩

set_option maxHeartbeats 4000000 in
set_option maxRecDepth 20000 in
theorem c_s_NewTable (fl : Nat) (w : World) (a0 : Int) (a1 : Int) (r : T × Bool) (H0 : s_NewTable fl a0 a1 = some r) :
    Ct Tryd.prog 76 [.int .i64 a0, .int .i64 a1] w [] (fun rv h' => ∃ (x0 : Option Addr) (y0 z0 : Nat) (C0 : Res) (x1 : Option Addr) (y1 z1 : Nat) (C1 : Res), rv = .tuple #[.agg #[.slice x0 y0 z0, .slice x1 y1 z1], .bool r.2] ∧ h' = [(0, C0), (1, C1)] ∧ y0 = (r.1.b).length ∧ OwnC 3 x0 z0 r.1.b C0 ∧ y1 = (r.1.f).length ∧ OwnC 53 x1 z1 r.1.f C1) := by
  unfold s_NewTable at H0
  refine ct_of_cw Tryd.func76 rfl Tryd.ntmps76 rfl (Sat.refl _ _) ?_
  refine cw_seq ?_
  refine cw_region ?_
  refine ow_eff .none (stpU_alloc 0 tz26 rfl) rfl ?_
  rintro _ _ ⟨b1, rfl, rfl⟩
  refine ow_det .none (stp_assign rfl) rfl ?_
  refine ow_nil ?_
  refine kw_nx ?_
  refine cw_seq ?_
  refine cw_seq ?_
  refine cw_region ?_
  refine ow_det .none (stp_move rfl) rfl ?_
  refine ow_det .none (stp_lss rfl rfl) rfl ?_
  refine ow_det .none (stp_move rfl) rfl ?_
  obtain ⟨y2, ey2, H0⟩ := bind_some H0
  refine ow_cutY 3 14 y2 ?_ ?_
  · rcases Bool.eq_false_or_eq_true (decide (a0 < 1)) with hy2 | hy2
    · have ey2 := cond_t ey2 hy2
      refine ow_off (.some rfl hy2) rfl ?_
      refine ow_off (.some rfl hy2) rfl ?_
      refine ow_det .none (stp_pick_t rfl hy2 rfl) rfl ?_
      obtain rfl := Option.some.inj ey2
      exact ow_nil (kw_jy (.top rfl (.cons rfl (.cons rfl (.cons rfl (.refl _))))) (.refl _))
    · have ey2 := cond_f ey2 hy2
      refine ow_det (.some rfl hy2) (stp_move rfl) rfl ?_
      refine ow_det (.some rfl hy2) (stp_gtr rfl rfl) rfl ?_
      refine ow_det .none (stp_pick_f rfl hy2 rfl) rfl ?_
      obtain rfl := Option.some.inj ey2
      exact ow_nil (kw_jy (.top rfl (.cons rfl (.cons rfl (.cons rfl (.refl _))))) (.refl _))
  · refine ow_det .none (stp_move rfl) rfl ?_
    obtain ⟨y3, ey3, H0⟩ := bind_some H0
    refine ow_cutY 4 19 y3 ?_ ?_
    · rcases Bool.eq_false_or_eq_true y2 with hy3 | hy3
      · have ey3 := cond_t ey3 hy3
        refine ow_off (.some rfl hy3) rfl ?_
        refine ow_off (.some rfl hy3) rfl ?_
        refine ow_off (.some rfl hy3) rfl ?_
        refine ow_det .none (stp_pick_t rfl hy3 rfl) rfl ?_
        obtain rfl := Option.some.inj ey3
        exact ow_nil (kw_jy (.top rfl (.cons rfl (.cons rfl (.cons rfl (.cons rfl (.refl _)))))) (.refl _))
      · have ey3 := cond_f ey3 hy3
        refine ow_det (.some rfl hy3) (stp_move rfl) rfl ?_
        obtain ⟨x4, e4, ey3⟩ := bind_some ey3
        refine ow_eff (.some rfl hy3) (stpU_call (fun i => 1 + i) cf83 (fun w hw => c_s_l2Buckets fl w a1 x4 e4) (sevs_cons rfl sevs_nil)) rfl ?_
        rintro _ _ ⟨_, ⟨rfl, rfl⟩, rfl⟩
        refine ow_det (.some rfl hy3) (stp_not rfl) rfl ?_
        refine ow_det .none (stp_pick_f rfl hy3 rfl) rfl ?_
        obtain rfl := Option.some.inj ey3
        exact ow_nil (kw_jy (.top rfl (.cons rfl (.cons rfl (.cons rfl (.cons rfl (.refl _)))))) (.refl _))
    · refine ow_nil ?_
      refine kw_nx ?_
      refine cw_cond rfl (fun h5 => ?_) (fun h5 => ?_)
      · have H0 := cond_t H0 h5
        refine cw_seq ?_
        refine cw_region ?_
        refine ow_det .none (stp_build (cs := #[.slice none 0 0, .slice none 0 0]) sevp_nil (by rfl)) rfl ?_
        refine ow_eff0 .none (stpU_store (id := 0) (cs' := [.slice none 0 0, .slice none 0 0]) ts26 rfl rfl rfl rfl rfl rfl rfl) ?_
        rintro _ _ rfl
        refine ow_det .none (stp_assign rfl) rfl ?_
        refine ow_nil ?_
        refine kw_nx ?_
        refine cw_ret ?_
        refine kw_nx_ret ?_
        refine kw_addNil 1 ?_
        refine kw_addNil 2 ?_
        have q0 := Option.some.inj H0
        subst q0
        exact kw_ret Tryd.results76 (.cons (.cellN (us := [_, _]) ts26 rfl (Cells.box (id := 0) rfl 2 rfl)) (.cons (.tmp rfl) .nil)) [(0, []), (1, [])] [1, 2] ⟨1, [2], rfl, rfl, 2, [], rfl, rfl, trivial⟩ (by decide) ⟨none, 0, 0, [], none, 0, 0, [], rfl, rfl, rfl, (OwnC.nil _ _), rfl, (OwnC.nil _ _)⟩
      · have H0 := cond_f H0 h5
        refine cw_skip ?_
        refine kw_nx ?_
        refine cw_seq ?_
        refine cw_region ?_
        refine ow_det .none (stp_build (cs := #[.slice none 0 0, .slice none 0 0]) sevp_nil (by rfl)) rfl ?_
        refine ow_eff .none (stpU_alloc 3 tz26 rfl) rfl ?_
        rintro _ _ ⟨b6, rfl, rfl⟩
        refine ow_eff0 .none (stpU_store (id := 3) (cs' := [.slice none 0 0, .slice none 0 0]) ts26 rfl rfl rfl rfl rfl rfl rfl) ?_
        rintro _ _ rfl
        refine ow_nil ?_
        refine kw_nx ?_
        refine cw_seq ?_
        refine cw_seq ?_
        refine cw_region ?_
        refine ow_det .none (stp_assign rfl) rfl ?_
        refine ow_nil ?_
        refine kw_nx ?_
        obtain ⟨o0_0, eo0_0, H0⟩ := bind_some H0
        refine cw_addNil 4 ?_
        refine cw_join (ι := (List Int) × Int × Option Addr × Nat × Nat × Res) (fun | (v7, v12, p8, n9, c10, C11) => o0_0 = .out (v7, v12) ∧ n9 = (v7).length ∧ OwnC (α := Int) 3 p8 c10 v7 C11) (fun | (v7, v12, p8, n9, c10, C11) => [(0, .int .i64 a0), (1, .int .i64 a1), (4, .pointer (some ⟨b1, 0, none⟩)), (6, .pointer (some ⟨b6, 0, none⟩)), (7, .int .i64 v12)]) (fun | (v7, v12, p8, n9, c10, C11) => [(0, [(b1, .cells #[.slice none 0 0, .slice none 0 0] 26 (0, 0))]), (3, [(b6, .cells #[.slice p8 n9 c10, .slice none 0 0] 26 (0, 0))]), (1001, C11)]) ?_ ?_
        · refine cw_block ?_
          refine cw_loopS (ι := Nat × (List Int) × Int × Option Addr × Nat × Nat × Res) (js := [0, 3, 4]) (fun x => x.1) (fun | (fuel, v7, v12, p8, n9, c10, C11) => s_NewTable_L0 fl a1 fuel v7 v12 = some o0_0 ∧ n9 = (v7).length ∧ OwnC (α := Int) 3 p8 c10 v7 C11) (fun | (_, v7, v12, p8, n9, c10, C11) => [(0, .int .i64 a0), (1, .int .i64 a1), (4, .pointer (some ⟨b1, 0, none⟩)), (6, .pointer (some ⟨b6, 0, none⟩)), (7, .int .i64 v12)]) (fun | (_, v7, v12, p8, n9, c10, C11) => [(0, [(b1, .cells #[.slice none 0 0, .slice none 0 0] 26 (0, 0))]), (3, [(b6, .cells #[.slice p8 n9 c10, .slice none 0 0] 26 (0, 0))]), (1001, C11)]) (fl, [], 0, none, 0, 0, []) ⟨eo0_0, rfl, (OwnC.nil _ _)⟩ ⟨rfl, rfl, rfl, rfl, rfl, trivial⟩ ⟨0, [3, 4], rfl, rfl, 3, [4], rfl, rfl, 4, [], rfl, rfl, trivial⟩ (by decide) ?_
          rintro ⟨fuel, v7, v12, p8, n9, c10, C11⟩ ⟨H1, hnn9, o11⟩
          obtain rfl := hnn9
          have H1 : s_NewTable_L0 fl a1 fuel v7 v12 = some o0_0 := H1
          rcases fuel with _ | fuel
          · rw [s_NewTable_L0.eq_1] at H1; cases H1
          rw [s_NewTable_L0.eq_2] at H1
          refine CW.sub (s' := [(0, .int .i64 a0), (1, .int .i64 a1), (4, .pointer (some ⟨b1, 0, none⟩)), (6, .pointer (some ⟨b6, 0, none⟩)), (7, .int .i64 v12)]) (h' := [(0, [(b1, .cells #[.slice none 0 0, .slice none 0 0] 26 (0, 0))]), (3, [(b6, .cells #[.slice p8 ((v7).length) c10, .slice none 0 0] 26 (0, 0))]), (1001, C11)]) ?_ ⟨rfl, rfl, rfl, rfl, rfl, trivial⟩ ⟨rfl, rfl, rfl, trivial⟩
          refine cw_seq ?_
          refine cw_seq ?_
          refine cw_region ?_
          refine ow_det .none (stp_move rfl) rfl ?_
          refine ow_det .none (stp_move rfl) rfl ?_
          refine ow_det .none (stp_lss rfl rfl) rfl ?_
          refine ow_nil ?_
          refine kw_nx ?_
          refine cw_cond rfl (fun h13 => ?_) (fun h13 => ?_)
          · have H1 := cond_t H1 h13
            refine cw_skip ?_
            refine kw_nx ?_
            refine cw_seq ?_
            refine cw_block ?_
            refine cw_region ?_
            refine ow_det .none (stp_fieldAddr (j := 0) Tryd.underlying26 rfl ts23 rfl rfl rfl) rfl ?_
            refine ow_det .none (stp_load1 ts23 rfl (Cells.box (id := 3) rfl 1 rfl)) rfl ?_
            refine ow_eff .none (stpU_lit (sz := 1) (l := [(-1)]) [.int .i64 (-1)] sl23 5 (sevp_cons rfl sevp_nil) rfl rfl rfl rfl rfl rfl rfl rfl rfl) rfl ?_
            rintro _ _ ⟨p14, C15, rfl, rfl, o15⟩
            obtain ⟨x16, e16, H1⟩ := bind_some H1
            refine ow_eff .none (stpU_append sl23 rfl (id := 1001) rfl rfl rfl (by simp) rfl o11 (Rdb.own (id := 5) rfl o15) e16) rfl ?_
            rintro _ _ ⟨p17, c18, C19, rfl, rfl, o19⟩
            refine ow_det .none (stp_fieldAddr (j := 0) Tryd.underlying26 rfl ts23 rfl rfl rfl) rfl ?_
            refine ow_eff0 .none (stpU_store (id := 3) (cs' := [.slice p17 ((x16).length) c18, .slice none 0 0]) ts23 rfl rfl rfl rfl rfl rfl rfl) ?_
            rintro _ _ rfl
            refine ow_nil ?_
            refine kw_bl_normal ?_
            refine kw_nx ?_
            refine cw_region ?_
            refine ow_det .none (stp_move rfl) rfl ?_
            obtain ⟨x20, e20, H1⟩ := bind_some H1
            refine ow_det .none (stp_add rfl rfl e20) rfl ?_
            refine ow_det .none (stp_assign rfl) rfl ?_
            refine ow_nil ?_
            exact kw_lqS (js := [0, 3, 1001]) (fuel, x16, x20, p17, ((x16).length), c18, C19) ⟨H1, rfl, o19⟩ (Nat.lt_succ_self _) ⟨rfl, rfl, rfl, rfl, rfl, trivial⟩ ⟨0, [3, 1001], rfl, rfl, 3, [1001], rfl, rfl, 1001, [], rfl, rfl, trivial⟩ (by decide)
          · have H1 := cond_f H1 h13
            refine cw_exit ?_
            refine kw_nx_exit ?_
            refine kw_lq_exit ?_
            refine kw_bl ?_
            have q1 := Option.some.inj H1
            subst q1
            exact kw_joinS (js := [0, 3, 1001]) (v7, v12, p8, ((v7).length), c10, C11) ⟨rfl, rfl, o11⟩ ⟨rfl, rfl, rfl, rfl, rfl, trivial⟩ ⟨0, [3, 1001], rfl, rfl, 3, [1001], rfl, rfl, 1001, [], rfl, rfl, trivial⟩ (by decide)
        · rintro ⟨v7, v12, p8, n9, c10, C11⟩ ⟨rfl, hnn9, o11⟩
          obtain rfl := hnn9
          refine KW.sub (s' := [(0, .int .i64 a0), (1, .int .i64 a1), (4, .pointer (some ⟨b1, 0, none⟩)), (6, .pointer (some ⟨b6, 0, none⟩)), (7, .int .i64 v12)]) (h' := [(0, [(b1, .cells #[.slice none 0 0, .slice none 0 0] 26 (0, 0))]), (3, [(b6, .cells #[.slice p8 ((v7).length) c10, .slice none 0 0] 26 (0, 0))]), (1001, C11)]) ?_ ⟨rfl, rfl, rfl, rfl, rfl, trivial⟩ ⟨rfl, rfl, rfl, trivial⟩
          refine kw_nx ?_
          refine cw_seq ?_
          refine cw_seq ?_
          refine cw_region ?_
          refine ow_det .none (stp_assign rfl) rfl ?_
          refine ow_nil ?_
          refine kw_nx ?_
          obtain ⟨o0_1, eo0_1, H0⟩ := bind_some H0
          refine cw_addNil 6 ?_
          refine cw_join (ι := (List F) × Int × Option Addr × Nat × Nat × Res) (fun | (v21, v26, p22, n23, c24, C25) => o0_1 = .out (v21, v26) ∧ n23 = (v21).length ∧ OwnC (α := F) 53 p22 c24 v21 C25) (fun | (v21, v26, p22, n23, c24, C25) => [(0, .int .i64 a0), (4, .pointer (some ⟨b1, 0, none⟩)), (6, .pointer (some ⟨b6, 0, none⟩)), (8, .int .i64 v26)]) (fun | (v21, v26, p22, n23, c24, C25) => [(0, [(b1, .cells #[.slice none 0 0, .slice none 0 0] 26 (0, 0))]), (3, [(b6, .cells #[.slice p8 ((v7).length) c10, .slice p22 n23 c24] 26 (0, 0))]), (1001, C11), (1002, C25)]) ?_ ?_
          · refine cw_block ?_
            refine cw_loopS (ι := Nat × (List F) × Int × Option Addr × Nat × Nat × Res) (js := [0, 3, 1001, 6]) (fun x => x.1) (fun | (fuel, v21, v26, p22, n23, c24, C25) => s_NewTable_L1 fl a0 fuel v21 v26 = some o0_1 ∧ n23 = (v21).length ∧ OwnC (α := F) 53 p22 c24 v21 C25) (fun | (_, v21, v26, p22, n23, c24, C25) => [(0, .int .i64 a0), (4, .pointer (some ⟨b1, 0, none⟩)), (6, .pointer (some ⟨b6, 0, none⟩)), (8, .int .i64 v26)]) (fun | (_, v21, v26, p22, n23, c24, C25) => [(0, [(b1, .cells #[.slice none 0 0, .slice none 0 0] 26 (0, 0))]), (3, [(b6, .cells #[.slice p8 ((v7).length) c10, .slice p22 n23 c24] 26 (0, 0))]), (1001, C11), (1002, C25)]) (fl, [], 0, none, 0, 0, []) ⟨eo0_1, rfl, (OwnC.nil _ _)⟩ ⟨rfl, rfl, rfl, rfl, trivial⟩ ⟨0, [3, 1001, 6], rfl, rfl, 3, [1001, 6], rfl, rfl, 1001, [6], rfl, rfl, 6, [], rfl, rfl, trivial⟩ (by decide) ?_
            rintro ⟨fuel, v21, v26, p22, n23, c24, C25⟩ ⟨H1, hnn23, o25⟩
            obtain rfl := hnn23
            have H1 : s_NewTable_L1 fl a0 fuel v21 v26 = some o0_1 := H1
            rcases fuel with _ | fuel
            · rw [s_NewTable_L1.eq_1] at H1; cases H1
            rw [s_NewTable_L1.eq_2] at H1
            refine CW.sub (s' := [(0, .int .i64 a0), (4, .pointer (some ⟨b1, 0, none⟩)), (6, .pointer (some ⟨b6, 0, none⟩)), (8, .int .i64 v26)]) (h' := [(0, [(b1, .cells #[.slice none 0 0, .slice none 0 0] 26 (0, 0))]), (3, [(b6, .cells #[.slice p8 ((v7).length) c10, .slice p22 ((v21).length) c24] 26 (0, 0))]), (1001, C11), (1002, C25)]) ?_ ⟨rfl, rfl, rfl, rfl, trivial⟩ ⟨rfl, rfl, rfl, rfl, trivial⟩
            refine cw_seq ?_
            refine cw_seq ?_
            refine cw_region ?_
            refine ow_det .none (stp_move rfl) rfl ?_
            refine ow_det .none (stp_move rfl) rfl ?_
            refine ow_det .none (stp_lss rfl rfl) rfl ?_
            refine ow_nil ?_
            refine kw_nx ?_
            refine cw_cond rfl (fun h27 => ?_) (fun h27 => ?_)
            · have H1 := cond_t H1 h27
              refine cw_skip ?_
              refine kw_nx ?_
              refine cw_seq ?_
              refine cw_block ?_
              refine cw_region ?_
              refine ow_det .none (stp_fieldAddr (j := 1) Tryd.underlying26 rfl ts24 rfl rfl rfl) rfl ?_
              refine ow_det .none (stp_load1 ts24 rfl (Cells.box (id := 3) rfl 1 rfl)) rfl ?_
              refine ow_det .none (stp_build (cs := #[.bool false, .int .i64 0, .int .i64 0, .int .i64 0, .int .i64 (-1)]) (sevp_cons rfl sevp_nil) (by rfl)) rfl ?_
              refine ow_eff .none (stpU_lit (sz := 5) (l := [(⟨false, (⟨0, 0⟩ : K), 0, (-1)⟩ : F)]) [.agg #[.bool false, .int .i64 0, .int .i64 0, .int .i64 0, .int .i64 (-1)]] sl24 7 (sevp_cons rfl sevp_nil) rfl rfl rfl rfl rfl rfl rfl rfl rfl) rfl ?_
              rintro _ _ ⟨p28, C29, rfl, rfl, o29⟩
              obtain ⟨x30, e30, H1⟩ := bind_some H1
              refine ow_eff .none (stpU_append sl24 rfl (id := 1002) rfl rfl rfl (by simp) rfl o25 (Rdb.own (id := 7) rfl o29) e30) rfl ?_
              rintro _ _ ⟨p31, c32, C33, rfl, rfl, o33⟩
              refine ow_det .none (stp_fieldAddr (j := 1) Tryd.underlying26 rfl ts24 rfl rfl rfl) rfl ?_
              refine ow_eff0 .none (stpU_store (id := 3) (cs' := [.slice p8 ((v7).length) c10, .slice p31 ((x30).length) c32]) ts24 rfl rfl rfl rfl rfl rfl rfl) ?_
              rintro _ _ rfl
              refine ow_nil ?_
              refine kw_bl_normal ?_
              refine kw_nx ?_
              refine cw_region ?_
              refine ow_det .none (stp_move rfl) rfl ?_
              obtain ⟨x34, e34, H1⟩ := bind_some H1
              refine ow_det .none (stp_add rfl rfl e34) rfl ?_
              refine ow_det .none (stp_assign rfl) rfl ?_
              refine ow_nil ?_
              exact kw_lqS (js := [0, 3, 1001, 1002]) (fuel, x30, x34, p31, ((x30).length), c32, C33) ⟨H1, rfl, o33⟩ (Nat.lt_succ_self _) ⟨rfl, rfl, rfl, rfl, trivial⟩ ⟨0, [3, 1001, 1002], rfl, rfl, 3, [1001, 1002], rfl, rfl, 1001, [1002], rfl, rfl, 1002, [], rfl, rfl, trivial⟩ (by decide)
            · have H1 := cond_f H1 h27
              refine cw_exit ?_
              refine kw_nx_exit ?_
              refine kw_lq_exit ?_
              refine kw_bl ?_
              have q1 := Option.some.inj H1
              subst q1
              exact kw_joinS (js := [0, 3, 1001, 1002]) (v21, v26, p22, ((v21).length), c24, C25) ⟨rfl, rfl, o25⟩ ⟨rfl, rfl, rfl, rfl, trivial⟩ ⟨0, [3, 1001, 1002], rfl, rfl, 3, [1001, 1002], rfl, rfl, 1001, [1002], rfl, rfl, 1002, [], rfl, rfl, trivial⟩ (by decide)
          · rintro ⟨v21, v26, p22, n23, c24, C25⟩ ⟨rfl, hnn23, o25⟩
            obtain rfl := hnn23
            refine KW.sub (s' := [(0, .int .i64 a0), (4, .pointer (some ⟨b1, 0, none⟩)), (6, .pointer (some ⟨b6, 0, none⟩)), (8, .int .i64 v26)]) (h' := [(0, [(b1, .cells #[.slice none 0 0, .slice none 0 0] 26 (0, 0))]), (3, [(b6, .cells #[.slice p8 ((v7).length) c10, .slice p22 ((v21).length) c24] 26 (0, 0))]), (1001, C11), (1002, C25)]) ?_ ⟨rfl, rfl, rfl, rfl, trivial⟩ ⟨rfl, rfl, rfl, rfl, trivial⟩
            refine kw_nx ?_
            refine cw_seq ?_
            refine cw_region ?_
            refine ow_det .none (stp_loadN (us := [_, _]) ts26 rfl (Cells.box (id := 3) rfl 2 rfl)) rfl ?_
            refine ow_eff0 .none (stpU_store (id := 0) (cs' := [.slice p8 ((v7).length) c10, .slice p22 ((v21).length) c24]) ts26 rfl rfl rfl rfl rfl rfl rfl) ?_
            rintro _ _ rfl
            refine ow_det .none (stp_assign rfl) rfl ?_
            refine ow_nil ?_
            refine kw_nx ?_
            refine cw_ret ?_
            have q0 := Option.some.inj H0
            subst q0
            exact kw_ret Tryd.results76 (.cons (.cellN (us := [_, _]) ts26 rfl (Cells.box (id := 0) rfl 2 rfl)) (.cons (.tmp rfl) .nil)) [(0, C11), (1, C25)] [1001, 1002] ⟨1001, [1002], rfl, rfl, 1002, [], rfl, rfl, trivial⟩ (by decide) ⟨p8, ((v7).length), c10, C11, p22, ((v21).length), c24, C25, rfl, rfl, rfl, o11, rfl, o25⟩

set_option maxHeartbeats 4000000 in
set_option maxRecDepth 20000 in
theorem c_s_l2Draw (fl : Nat) (w : World) (m0 : Nat) (a0_0 : (List UInt8)) (p0_0_0 : Option Addr) (n0_0_0 c0_0_0 : Nat) (a0_1 : Int) (hn0_0_0 : n0_0_0 = (a0_0).length) (hr0_0_0 : RO w (hkeys [(0, [(m0, .cells #[.slice p0_0_0 n0_0_0 c0_0_0, .int .i64 a0_1] 97 (0, 0))])]) (RdL p0_0_0 c0_0_0 a0_0)) (hM : Sat w (hkeys [(0, [(m0, .cells #[.slice p0_0_0 n0_0_0 c0_0_0, .int .i64 a0_1] 97 (0, 0))])]) w [(0, [(m0, .cells #[.slice p0_0_0 n0_0_0 c0_0_0, .int .i64 a0_1] 97 (0, 0))])]) (r : K × Int) (H0 : s_l2Draw fl a0_0 a0_1 = some r) :
    Ct Tryd.prog 75 [.pointer (some ⟨m0, 0, none⟩)] w [(0, [(m0, .cells #[.slice p0_0_0 n0_0_0 c0_0_0, .int .i64 a0_1] 97 (0, 0))])] (fun rv h' => rv = .agg #[.int .i64 r.1.s, .int .i64 r.1.p] ∧ h' = [(0, [(m0, .cells #[.slice p0_0_0 n0_0_0 c0_0_0, .int .i64 r.2] 97 (0, 0))])]) := by
  obtain rfl := hn0_0_0
  unfold s_l2Draw at H0
  refine ct_of_cw Tryd.func75 rfl Tryd.ntmps75 rfl hM ?_
  refine cw_seq ?_
  refine cw_region ?_
  refine ow_eff .none (stpU_alloc 1 tz28 rfl) rfl ?_
  rintro _ _ ⟨b1, rfl, rfl⟩
  refine ow_nil ?_
  refine kw_nx ?_
  refine cw_seq ?_
  refine cw_region ?_
  refine ow_det .none (stp_move rfl) rfl ?_
  refine ow_eff .none (stpU_lit (sz := 1) (l := [0, 1, 2, 3, 1]) [.int .i64 0, .int .i64 1, .int .i64 2, .int .i64 3, .int .i64 1] sl23 2 (sevp_cons rfl (sevp_cons rfl (sevp_cons rfl (sevp_cons rfl (sevp_cons rfl sevp_nil))))) rfl rfl rfl rfl rfl rfl rfl rfl rfl) rfl ?_
  rintro _ _ ⟨p2, C3, rfl, rfl, o3⟩
  obtain ⟨x4, e4, H0⟩ := bind_some H0
  refine ow_eff .none (stpU_callM (fun i => bif Nat.beq i 0 then 0 else 3 + i) cf37 (fun w hw hb => c_s_l12Rd_num fl w m0 a0_0 p0_0_0 ((a0_0).length) c0_0_0 a0_1 ([0, 1, 2, 3, 1]) p2 5 5 rfl (RO.passM hr0_0_0 hw hb) (by simp) (OwnC.passM (id := 2) rfl o3 hw hb ⟨rfl, trivial⟩) (hw.pass (js := [0]) ⟨0, [], rfl, rfl, trivial⟩ (by decide)) x4 e4) (sevs_cons rfl (sevs_cons rfl sevs_nil)) ⟨rfl, (fun _ _ hp => by obtain ⟨_, rfl⟩ := hp; exact ⟨_, rfl⟩), trivial⟩) rfl ?_
  rintro _ _ ⟨_, ⟨rfl, rfl⟩, rfl⟩
  refine ow_det .none (stp_move rfl) rfl ?_
  refine ow_eff .none (stpU_lit (sz := 1) (l := [0, 1, 2, 3, 4, 5, 100, 255]) [.int .i64 0, .int .i64 1, .int .i64 2, .int .i64 3, .int .i64 4, .int .i64 5, .int .i64 100, .int .i64 255] sl23 4 (sevp_cons rfl (sevp_cons rfl (sevp_cons rfl (sevp_cons rfl (sevp_cons rfl (sevp_cons rfl (sevp_cons rfl (sevp_cons rfl sevp_nil)))))))) rfl rfl rfl rfl rfl rfl rfl rfl rfl) rfl ?_
  rintro _ _ ⟨p5, C6, rfl, rfl, o6⟩
  obtain ⟨x7, e7, H0⟩ := bind_some H0
  refine ow_eff .none (stpU_callM (fun i => bif Nat.beq i 0 then 0 else 5 + i) cf37 (fun w hw hb => c_s_l12Rd_num fl w m0 a0_0 p0_0_0 ((a0_0).length) c0_0_0 x4.2 ([0, 1, 2, 3, 4, 5, 100, 255]) p5 8 8 rfl (RO.passM hr0_0_0 hw hb) (by simp) (OwnC.passM (id := 4) rfl o6 hw hb ⟨rfl, trivial⟩) (hw.pass (js := [0]) ⟨0, [], rfl, rfl, trivial⟩ (by decide)) x7 e7) (sevs_cons rfl (sevs_cons rfl sevs_nil)) ⟨rfl, (fun _ _ hp => by obtain ⟨_, rfl⟩ := hp; exact ⟨_, rfl⟩), trivial⟩) rfl ?_
  rintro _ _ ⟨_, ⟨rfl, rfl⟩, rfl⟩
  refine ow_det .none (stp_build (cs := #[.int .i64 x4.1, .int .i64 x7.1]) (sevp_cons rfl (sevp_cons rfl sevp_nil)) (by rfl)) rfl ?_
  refine ow_eff0 .none (stpU_store (id := 1) (cs' := [.int .i64 x4.1, .int .i64 x7.1]) ts28 rfl rfl rfl rfl rfl rfl rfl) ?_
  rintro _ _ rfl
  refine ow_nil ?_
  refine kw_nx ?_
  refine cw_ret ?_
  have q0 := Option.some.inj H0
  subst q0
  exact kw_ret Tryd.results75 (.cons (.cellN (us := [_, _]) ts28 rfl (Cells.box (id := 1) rfl 2 rfl)) .nil) [(0, [(m0, .cells #[.slice p0_0_0 ((a0_0).length) c0_0_0, .int .i64 x7.2] 97 (0, 0))])] [0] ⟨0, [], rfl, rfl, trivial⟩ (by decide) ⟨rfl, rfl⟩

set_option maxHeartbeats 4000000 in
set_option maxRecDepth 20000 in
theorem c_s_l3Draw (fl : Nat) (w : World) (m0 : Nat) (a0_0 : (List UInt8)) (p0_0_0 : Option Addr) (n0_0_0 c0_0_0 : Nat) (a0_1 : Int) (hn0_0_0 : n0_0_0 = (a0_0).length) (hr0_0_0 : RO w (hkeys [(0, [(m0, .cells #[.slice p0_0_0 n0_0_0 c0_0_0, .int .i64 a0_1] 97 (0, 0))])]) (RdL p0_0_0 c0_0_0 a0_0)) (hM : Sat w (hkeys [(0, [(m0, .cells #[.slice p0_0_0 n0_0_0 c0_0_0, .int .i64 a0_1] 97 (0, 0))])]) w [(0, [(m0, .cells #[.slice p0_0_0 n0_0_0 c0_0_0, .int .i64 a0_1] 97 (0, 0))])]) (r : T × Int) (H0 : s_l3Draw fl a0_0 a0_1 = some r) :
    Ct Tryd.prog 35 [.pointer (some ⟨m0, 0, none⟩)] w [(0, [(m0, .cells #[.slice p0_0_0 n0_0_0 c0_0_0, .int .i64 a0_1] 97 (0, 0))])] (fun rv h' => ∃ (x1 : Option Addr) (y1 z1 : Nat) (C1 : Res) (x2 : Option Addr) (y2 z2 : Nat) (C2 : Res), rv = .agg #[.slice x1 y1 z1, .slice x2 y2 z2] ∧ h' = [(0, [(m0, .cells #[.slice p0_0_0 n0_0_0 c0_0_0, .int .i64 r.2] 97 (0, 0))]), (1, C1), (2, C2)] ∧ y1 = (r.1.b).length ∧ OwnC 3 x1 z1 r.1.b C1 ∧ y2 = (r.1.f).length ∧ OwnC 53 x2 z2 r.1.f C2) := by
  obtain rfl := hn0_0_0
  unfold s_l3Draw at H0
  refine ct_of_cw Tryd.func35 rfl Tryd.ntmps35 rfl hM ?_
  refine cw_seq ?_
  refine cw_region ?_
  refine ow_eff .none (stpU_alloc 1 tz26 rfl) rfl ?_
  rintro _ _ ⟨b1, rfl, rfl⟩
  refine ow_nil ?_
  refine kw_nx ?_
  refine cw_seq ?_
  refine cw_region ?_
  refine ow_det .none (stp_move rfl) rfl ?_
  refine ow_eff .none (stpU_lit (sz := 1) (l := [6, 4, 8, 2, 1]) [.int .i64 6, .int .i64 4, .int .i64 8, .int .i64 2, .int .i64 1] sl23 2 (sevp_cons rfl (sevp_cons rfl (sevp_cons rfl (sevp_cons rfl (sevp_cons rfl sevp_nil))))) rfl rfl rfl rfl rfl rfl rfl rfl rfl) rfl ?_
  rintro _ _ ⟨p2, C3, rfl, rfl, o3⟩
  obtain ⟨x4, e4, H0⟩ := bind_some H0
  refine ow_eff .none (stpU_callM (fun i => bif Nat.beq i 0 then 0 else 3 + i) cf37 (fun w hw hb => c_s_l12Rd_num fl w m0 a0_0 p0_0_0 ((a0_0).length) c0_0_0 a0_1 ([6, 4, 8, 2, 1]) p2 5 5 rfl (RO.passM hr0_0_0 hw hb) (by simp) (OwnC.passM (id := 2) rfl o3 hw hb ⟨rfl, trivial⟩) (hw.pass (js := [0]) ⟨0, [], rfl, rfl, trivial⟩ (by decide)) x4 e4) (sevs_cons rfl (sevs_cons rfl sevs_nil)) ⟨rfl, (fun _ _ hp => by obtain ⟨_, rfl⟩ := hp; exact ⟨_, rfl⟩), trivial⟩) rfl ?_
  rintro _ _ ⟨_, ⟨rfl, rfl⟩, rfl⟩
  refine ow_det .none (stp_move rfl) rfl ?_
  refine ow_eff .none (stpU_lit (sz := 1) (l := [4, 2, 8, 1, 3]) [.int .i64 4, .int .i64 2, .int .i64 8, .int .i64 1, .int .i64 3] sl23 4 (sevp_cons rfl (sevp_cons rfl (sevp_cons rfl (sevp_cons rfl (sevp_cons rfl sevp_nil))))) rfl rfl rfl rfl rfl rfl rfl rfl rfl) rfl ?_
  rintro _ _ ⟨p5, C6, rfl, rfl, o6⟩
  obtain ⟨x7, e7, H0⟩ := bind_some H0
  refine ow_eff .none (stpU_callM (fun i => bif Nat.beq i 0 then 0 else 5 + i) cf37 (fun w hw hb => c_s_l12Rd_num fl w m0 a0_0 p0_0_0 ((a0_0).length) c0_0_0 x4.2 ([4, 2, 8, 1, 3]) p5 5 5 rfl (RO.passM hr0_0_0 hw hb) (by simp) (OwnC.passM (id := 4) rfl o6 hw hb ⟨rfl, trivial⟩) (hw.pass (js := [0]) ⟨0, [], rfl, rfl, trivial⟩ (by decide)) x7 e7) (sevs_cons rfl (sevs_cons rfl sevs_nil)) ⟨rfl, (fun _ _ hp => by obtain ⟨_, rfl⟩ := hp; exact ⟨_, rfl⟩), trivial⟩) rfl ?_
  rintro _ _ ⟨_, ⟨rfl, rfl⟩, rfl⟩
  obtain ⟨x8, e8, H0⟩ := bind_some H0
  refine ow_eff .none (stpU_call (fun i => 6 + i) cf76 (fun w hw => c_s_NewTable fl w x4.1 x7.1 x8 e8) (sevs_cons rfl (sevs_cons rfl sevs_nil))) rfl ?_
  rintro _ _ ⟨_, ⟨p9, n10, c11, C12, p13, n14, c15, C16, rfl, rfl, hnn10, o12, hnn14, o16⟩, rfl⟩
  obtain rfl := hnn10
  obtain rfl := hnn14
  refine ow_det .none (stp_move rfl) rfl ?_
  refine ow_det .none (stp_extract rfl rfl) rfl ?_
  refine ow_det .none (stp_extract rfl rfl) rfl ?_
  refine ow_eff .none (stpU_alloc 8 tz26 rfl) rfl ?_
  rintro _ _ ⟨b17, rfl, rfl⟩
  refine ow_eff0 .none (stpU_store (id := 8) (cs' := [.slice p9 ((x8.1.b).length) c11, .slice p13 ((x8.1.f).length) c15]) ts26 rfl rfl rfl rfl rfl rfl rfl) ?_
  rintro _ _ rfl
  refine ow_det .none (stp_assign rfl) rfl ?_
  refine ow_nil ?_
  refine kw_nx ?_
  refine cw_seq ?_
  refine cw_seq ?_
  refine cw_region ?_
  refine ow_det .none (stp_move rfl) rfl ?_
  refine ow_eff .none (stpU_lit (sz := 1) (l := [4, 3, 6, 1, 0]) [.int .i64 4, .int .i64 3, .int .i64 6, .int .i64 1, .int .i64 0] sl23 9 (sevp_cons rfl (sevp_cons rfl (sevp_cons rfl (sevp_cons rfl (sevp_cons rfl sevp_nil))))) rfl rfl rfl rfl rfl rfl rfl rfl rfl) rfl ?_
  rintro _ _ ⟨p18, C19, rfl, rfl, o19⟩
  obtain ⟨x20, e20, H0⟩ := bind_some H0
  refine ow_eff .none (stpU_callM (fun i => bif Nat.beq i 0 then 0 else 10 + i) cf37 (fun w hw hb => c_s_l12Rd_num fl w m0 a0_0 p0_0_0 ((a0_0).length) c0_0_0 x7.2 ([4, 3, 6, 1, 0]) p18 5 5 rfl (RO.passM hr0_0_0 hw hb) (by simp) (OwnC.passM (id := 9) rfl o19 hw hb ⟨rfl, trivial⟩) (hw.pass (js := [0]) ⟨0, [], rfl, rfl, trivial⟩ (by decide)) x20 e20) (sevs_cons rfl (sevs_cons rfl sevs_nil)) ⟨rfl, (fun _ _ hp => by obtain ⟨_, rfl⟩ := hp; exact ⟨_, rfl⟩), trivial⟩) rfl ?_
  rintro _ _ ⟨_, ⟨rfl, rfl⟩, rfl⟩
  refine ow_det .none (stp_assign rfl) rfl ?_
  refine ow_nil ?_
  refine kw_nx ?_
  obtain ⟨o0_0, eo0_0, H0⟩ := bind_some H0
  refine cw_join (ι := Int × (List Int) × (List F) × Int × Option Addr × Nat × Nat × Res × Option Addr × Nat × Nat × Res) (fun | (v21, v22, v27, v32, p23, n24, c25, C26, p28, n29, c30, C31) => o0_0 = .out (v21, v22, v27, v32) ∧ n24 = (v22).length ∧ OwnC (α := Int) 3 p23 c25 v22 C26 ∧ n29 = (v27).length ∧ OwnC (α := F) 53 p28 c30 v27 C31) (fun | (v21, v22, v27, v32, p23, n24, c25, C26, p28, n29, c30, C31) => [(0, .pointer (some ⟨m0, 0, none⟩)), (2, .pointer (some ⟨b1, 0, none⟩)), (3, .pointer (some ⟨b17, 0, none⟩)), (5, .int .i64 v32)]) (fun | (v21, v22, v27, v32, p23, n24, c25, C26, p28, n29, c30, C31) => [(0, [(m0, .cells #[.slice p0_0_0 ((a0_0).length) c0_0_0, .int .i64 v21] 97 (0, 0))]), (1, [(b1, .cells #[.slice none 0 0, .slice none 0 0] 26 (0, 0))]), (6, C26), (7, C31), (8, [(b17, .cells #[.slice p23 n24 c25, .slice p28 n29 c30] 26 (0, 0))])]) ?_ ?_
  · refine cw_block ?_
    refine cw_loopS (ι := Nat × Int × (List Int) × (List F) × Int × Option Addr × Nat × Nat × Res × Option Addr × Nat × Nat × Res) (js := [0, 1, 6, 7, 8]) (fun x => x.1) (fun | (fuel, v21, v22, v27, v32, p23, n24, c25, C26, p28, n29, c30, C31) => s_l3Draw_L0 fl a0_0 fuel v21 v22 v27 v32 = some o0_0 ∧ n24 = (v22).length ∧ OwnC (α := Int) 3 p23 c25 v22 C26 ∧ n29 = (v27).length ∧ OwnC (α := F) 53 p28 c30 v27 C31) (fun | (_, v21, v22, v27, v32, p23, n24, c25, C26, p28, n29, c30, C31) => [(0, .pointer (some ⟨m0, 0, none⟩)), (2, .pointer (some ⟨b1, 0, none⟩)), (3, .pointer (some ⟨b17, 0, none⟩)), (5, .int .i64 v32)]) (fun | (_, v21, v22, v27, v32, p23, n24, c25, C26, p28, n29, c30, C31) => [(0, [(m0, .cells #[.slice p0_0_0 ((a0_0).length) c0_0_0, .int .i64 v21] 97 (0, 0))]), (1, [(b1, .cells #[.slice none 0 0, .slice none 0 0] 26 (0, 0))]), (6, C26), (7, C31), (8, [(b17, .cells #[.slice p23 n24 c25, .slice p28 n29 c30] 26 (0, 0))])]) (fl, x20.2, x8.1.b, x8.1.f, x20.1, p9, ((x8.1.b).length), c11, C12, p13, ((x8.1.f).length), c15, C16) ⟨eo0_0, rfl, o12, rfl, o16⟩ ⟨rfl, rfl, rfl, rfl, trivial⟩ ⟨0, [1, 6, 7, 8], rfl, rfl, 1, [6, 7, 8], rfl, rfl, 6, [7, 8], rfl, rfl, 7, [8], rfl, rfl, 8, [], rfl, rfl, trivial⟩ (by decide) ?_
    rintro ⟨fuel, v21, v22, v27, v32, p23, n24, c25, C26, p28, n29, c30, C31⟩ ⟨H1, hnn24, o26, hnn29, o31⟩
    obtain rfl := hnn24
    obtain rfl := hnn29
    have H1 : s_l3Draw_L0 fl a0_0 fuel v21 v22 v27 v32 = some o0_0 := H1
    rcases fuel with _ | fuel
    · rw [s_l3Draw_L0.eq_1] at H1; cases H1
    rw [s_l3Draw_L0.eq_2] at H1
    refine CW.sub (s' := [(0, .pointer (some ⟨m0, 0, none⟩)), (2, .pointer (some ⟨b1, 0, none⟩)), (3, .pointer (some ⟨b17, 0, none⟩)), (5, .int .i64 v32)]) (h' := [(0, [(m0, .cells #[.slice p0_0_0 ((a0_0).length) c0_0_0, .int .i64 v21] 97 (0, 0))]), (1, [(b1, .cells #[.slice none 0 0, .slice none 0 0] 26 (0, 0))]), (6, C26), (7, C31), (8, [(b17, .cells #[.slice p23 ((v22).length) c25, .slice p28 ((v27).length) c30] 26 (0, 0))])]) ?_ ⟨rfl, rfl, rfl, rfl, trivial⟩ ⟨rfl, rfl, rfl, rfl, rfl, trivial⟩
    refine cw_seq ?_
    refine cw_seq ?_
    refine cw_region ?_
    refine ow_det .none (stp_move rfl) rfl ?_
    refine ow_det .none (stp_gtr rfl rfl) rfl ?_
    refine ow_nil ?_
    refine kw_nx ?_
    refine cw_cond rfl (fun h33 => ?_) (fun h33 => ?_)
    · have H1 := cond_t H1 h33
      refine cw_skip ?_
      refine kw_nx ?_
      refine cw_seq ?_
      refine cw_block ?_
      refine cw_seq ?_
      obtain ⟨x34, e34, H1⟩ := bind_some H1
      obtain ⟨x35, e35, H1⟩ := bind_some H1
      obtain ⟨x38, e38, H1⟩ := bind_some H1
      obtain ⟨x39, e39, H1⟩ := bind_some H1
      refine region_drawn { dst := fun i => match i with | 0 => some 26 | 1 => some 27 | 2 => some 28 | 3 => some 29 | 4 => some 30 | 5 => some 31 | 6 => some 32 | 7 => some 33 | 8 => some 34 | 9 => some 35 | 10 => some 36 | 11 => some 37 | 12 => some 25 | 13 => some 38 | 14 => some 39 | 15 => some 6 | 17 => some 7 | _ => none, pre := fun i => match i with | 2 => [1] | 5 => [4] | 6 => [4, 5] | 7 => [1, 2, 3, 4, 5, 6] | 10 => [1, 2, 3, 4, 5, 6, 7, 8, 9] | 11 => [0, 1, 2, 3, 4, 5, 6, 7, 8, 9, 10] | 12 => [0, 1, 2, 3, 4, 5, 6, 7, 8, 9, 10, 11] | 13 => [0, 1, 2, 3, 4, 5, 6, 7, 8, 9, 10, 11, 12] | 14 => [0, 1, 2, 3, 4, 5, 6, 7, 8, 9, 10, 11, 12] | 16 => [0, 1, 2, 3, 4, 5, 6, 7, 8, 9, 10, 11, 12, 13, 15] | 17 => [0, 1, 2, 3, 4, 5, 6, 7, 8, 9, 10, 11, 12, 13, 14, 15, 16] | _ => [], ids := fun i => match i with | 2 => [0] | 7 => [0] | 9 => [13] | 10 => [0] | 11 => [15, 16] | 15 => [17] | 16 => [17] | _ => [], rs := fun i => match i with | 0 => [(3, none)] | 1 => [(0, none)] | 2 => [(27, some 1)] | 3 => [(0, none)] | 4 => [(3, none)] | 5 => [(30, some 4)] | 6 => [(31, some 5)] | 7 => [(29, some 3), (32, some 6)] | 8 => [(0, none)] | 10 => [(34, some 8), (35, some 9)] | 11 => [(26, some 0), (28, some 2), (33, some 7), (36, some 10)] | 12 => [(37, some 11)] | 13 => [(25, some 12)] | 14 => [(25, some 12)] | 16 => [(6, some 15), (38, some 13)] | 17 => [(39, some 14)] | _ => [], rh := fun i => match i with | 0 => [(8, none)] | 2 => [(0, none)] | 5 => [(8, none)] | 7 => [(0, some 2)] | 10 => [(0, some 7), (13, some 9)] | 11 => [(6, none), (7, none)] | 16 => [(17, some 15)] | _ => [], V := fun i g => match i with | 0 => .agg #[.slice p23 ((v22).length) c25, .slice p28 ((v27).length) c30] | 1 => .pointer (some ⟨m0, 0, none⟩) | 2 => .agg #[.int .i64 x34.1.s, .int .i64 x34.1.p] | 3 => .pointer (some ⟨m0, 0, none⟩) | 4 => .pointer (some ⟨b17, 1, none⟩) | 5 => .slice p28 ((v27).length) c30 | 6 => .int .i64 ((v27).length : Int) | 7 => .int .i64 x35.1 | 8 => .pointer (some ⟨m0, 0, none⟩) | 9 => .slice ((g 9).A 0) 5 5 | 10 => .int .i64 x38.1 | 11 => .tuple #[.agg #[.slice ((g 11).A 0) ((x39.1.b).length) ((g 11).C 0), .slice ((g 11).A 1) ((x39.1.f).length) ((g 11).C 1)], .bool x39.2] | 12 => .tuple #[.agg #[.slice ((g 11).A 0) ((x39.1.b).length) ((g 11).C 0), .slice ((g 11).A 1) ((x39.1.f).length) ((g 11).C 1)], .bool x39.2] | 13 => .agg #[.slice ((g 11).A 0) ((x39.1.b).length) ((g 11).C 0), .slice ((g 11).A 1) ((x39.1.f).length) ((g 11).C 1)] | 14 => .bool x39.2 | 15 => .pointer (some ⟨((g 15).C 0), 0, none⟩) | 17 => .bool x39.2 | _ => undef, U := fun i g => match i with | 2 => [(0, [(m0, .cells #[.slice p0_0_0 ((a0_0).length) c0_0_0, .int .i64 x34.2] 97 (0, 0))])] | 7 => [(0, [(m0, .cells #[.slice p0_0_0 ((a0_0).length) c0_0_0, .int .i64 x35.2] 97 (0, 0))])] | 9 => [(13, ((g 9).R 0))] | 10 => [(0, [(m0, .cells #[.slice p0_0_0 ((a0_0).length) c0_0_0, .int .i64 x38.2] 97 (0, 0))])] | 11 => [(15, ((g 11).R 0)), (16, ((g 11).R 1))] | 15 => [(17, [(((g 15).C 0), .cells #[.slice none 0 0, .slice none 0 0] 26 (0, 0))])] | 16 => [(17, [(((g 15).C 0), .cells #[.slice ((g 11).A 0) ((x39.1.b).length) ((g 11).C 0), .slice ((g 11).A 1) ((x39.1.f).length) ((g 11).C 1)] 26 (0, 0))])] | _ => [], Φ := fun i x => match i with | 9 => OwnC (α := Int) 3 (x.A 0) 5 ([3, 1, 7, 5, 0]) (x.R 0) | 11 => OwnC (α := Int) 3 (x.A 0) (x.C 0) x39.1.b (x.R 0) ∧ OwnC (α := F) 53 (x.A 1) (x.C 1) x39.1.f (x.R 1) | _ => True } g_mixed [0, 3] [0, 6, 7, 8] (by kernel_rfl) (by kernel_rfl) (by kernel_rfl) ⟨⟨⟨⟨⟨⟨⟨⟨⟨⟨⟨⟨⟨⟨⟨⟨⟨⟨trivial, fun _ => ⟨rfl, rfl⟩⟩, fun _ => ⟨rfl, rfl⟩⟩, fun _ => ⟨rfl, rfl⟩⟩, fun _ => ⟨rfl, rfl⟩⟩, fun _ => ⟨rfl, rfl⟩⟩, fun _ => ⟨rfl, rfl⟩⟩, fun _ => ⟨rfl, rfl⟩⟩, fun _ => ⟨rfl, rfl⟩⟩, fun _ => ⟨rfl, rfl⟩⟩, fun _ => ⟨rfl, rfl⟩⟩, fun _ => ⟨rfl, rfl⟩⟩, fun _ => ⟨rfl, rfl⟩⟩, fun _ => ⟨rfl, rfl⟩⟩, fun _ => ⟨rfl, rfl⟩⟩, fun _ => ⟨rfl, rfl⟩⟩, fun _ => ⟨rfl, rfl⟩⟩, fun _ => ⟨rfl, rfl⟩⟩, fun _ => ⟨rfl, rfl⟩⟩ ?_ ?_
      · refine ⟨⟨⟨⟨⟨⟨⟨⟨⟨⟨⟨⟨⟨⟨⟨⟨⟨⟨trivial, ?_⟩, ?_⟩, ?_⟩, ?_⟩, ?_⟩, ?_⟩, ?_⟩, ?_⟩, ?_⟩, ?_⟩, ?_⟩, ?_⟩, ?_⟩, ?_⟩, ?_⟩, ?_⟩, ?_⟩, ?_⟩
        · exact loc_det rfl rfl (fun _ => rfl) trivial (fun g hΦ s h hs hh => ⟨.none, (stp_loadN (us := [_, _]) ts26 (sv hs 3 rfl) (Cells.box (id := 8) (hh.get 8 _ rfl) 2 rfl))⟩)
        · exact loc_det rfl rfl (fun _ => rfl) trivial (fun g hΦ s h hs hh => ⟨.none, (stp_move (sv hs 0 rfl))⟩)
        · refine loc_eff rfl rfl (fun g hΦ s h hs hh => ⟨.none, (stpU_callM (fun i => bif Nat.beq i 0 then 0 else 11 + i) cf75 (fun w hw hb => c_s_l2Draw fl w m0 a0_0 p0_0_0 ((a0_0).length) c0_0_0 v21 rfl (RO.passM hr0_0_0 hw hb) (hw.pass (js := [0]) ⟨0, [], rfl, (hh.get 0 _ rfl), trivial⟩ (by decide)) x34 e34) (sevs_cons (sv hs 27 rfl) sevs_nil) ⟨(hh.get 0 _ rfl), (fun _ _ hp => by obtain ⟨_, rfl⟩ := hp; exact ⟨_, rfl⟩), trivial⟩)⟩) ?_
          rintro g _ _ ⟨_, ⟨rfl, rfl⟩, rfl⟩
          exact ⟨⟨[], [], []⟩, trivial, .inr rfl, rfl⟩
        · exact loc_det rfl rfl (fun _ => rfl) trivial (fun g hΦ s h hs hh => ⟨.none, (stp_move (sv hs 0 rfl))⟩)
        · exact loc_det rfl rfl (fun _ => rfl) trivial (fun g hΦ s h hs hh => ⟨.none, (stp_fieldAddr (j := 1) Tryd.underlying26 rfl ts24 rfl (sv hs 3 rfl) rfl)⟩)
        · exact loc_det rfl rfl (fun _ => rfl) trivial (fun g hΦ s h hs hh => ⟨.none, (stp_load1 ts24 (sv hs 30 rfl) (Cells.box (id := 8) (hh.get 8 _ rfl) 1 rfl))⟩)
        · exact loc_det rfl rfl (fun _ => rfl) trivial (fun g hΦ s h hs hh => ⟨.none, (stp_len Tryd.underlying24 (sv hs 31 rfl))⟩)
        · refine loc_eff rfl rfl (fun g hΦ s h hs hh => ⟨.none, (stpU_callM (fun i => bif Nat.beq i 0 then 0 else 12 + i) cf74 (fun w hw hb => c_s_l12Rd_pick fl w m0 a0_0 p0_0_0 ((a0_0).length) c0_0_0 x34.2 ((v27).length : Int) rfl (RO.passM hr0_0_0 hw hb) (hw.pass (js := [0]) ⟨0, [], rfl, (hh.get 0 _ rfl), trivial⟩ (by decide)) x35 e35) (sevs_cons (sv hs 29 rfl) (sevs_cons (sv hs 32 rfl) sevs_nil)) ⟨(hh.get 0 _ rfl), (fun _ _ hp => by obtain ⟨_, rfl⟩ := hp; exact ⟨_, rfl⟩), trivial⟩)⟩) ?_
          rintro g _ _ ⟨_, ⟨rfl, rfl⟩, rfl⟩
          exact ⟨⟨[], [], []⟩, trivial, .inr rfl, rfl⟩
        · exact loc_det rfl rfl (fun _ => rfl) trivial (fun g hΦ s h hs hh => ⟨.none, (stp_move (sv hs 0 rfl))⟩)
        · refine loc_eff rfl rfl (fun g hΦ s h hs hh => ⟨.none, (stpU_lit (sz := 1) (l := [3, 1, 7, 5, 0]) [.int .i64 3, .int .i64 1, .int .i64 7, .int .i64 5, .int .i64 0] sl23 13 (sevp_cons rfl (sevp_cons rfl (sevp_cons rfl (sevp_cons rfl (sevp_cons rfl sevp_nil))))) rfl rfl rfl rfl rfl rfl rfl rfl rfl)⟩) ?_
          rintro g _ _ ⟨p36, C37, rfl, rfl, o37⟩
          exact ⟨⟨[p36], [], [C37]⟩, o37, .inr rfl, rfl⟩
        · refine loc_eff rfl rfl (fun g hΦ s h hs hh => ⟨.none, (stpU_callM (fun i => bif Nat.beq i 0 then 0 else 14 + i) cf37 (fun w hw hb => c_s_l12Rd_num fl w m0 a0_0 p0_0_0 ((a0_0).length) c0_0_0 x35.2 ([3, 1, 7, 5, 0]) ((g 9).A 0) 5 5 rfl (RO.passM hr0_0_0 hw hb) (by simp) (OwnC.passM (id := 13) (hh.get 13 _ rfl) (hΦ 9 rfl) hw hb ⟨rfl, trivial⟩) (hw.pass (js := [0]) ⟨0, [], rfl, (hh.get 0 _ rfl), trivial⟩ (by decide)) x38 e38) (sevs_cons (sv hs 34 rfl) (sevs_cons (sv hs 35 rfl) sevs_nil)) ⟨(hh.get 0 _ rfl), (fun _ _ hp => by obtain ⟨_, rfl⟩ := hp; exact ⟨_, rfl⟩), trivial⟩)⟩) ?_
          rintro g _ _ ⟨_, ⟨rfl, rfl⟩, rfl⟩
          exact ⟨⟨[], [], []⟩, trivial, .inr rfl, rfl⟩
        · refine loc_eff rfl rfl (fun g hΦ s h hs hh => ⟨.none, (stpU_call (fun i => 15 + i) cf14 (fun w hw => c_s_MapPage fl w (⟨v22, v27⟩ : T) p23 ((v22).length) c25 p28 ((v27).length) c30 x34.1 x35.1 x38.1 rfl (OwnC.pass (id := 6) (hh.get 6 _ rfl) o26 hw) rfl (OwnC.pass (id := 7) (hh.get 7 _ rfl) o31 hw) x39 e39) (sevs_cons (sv hs 26 rfl) (sevs_cons (sv hs 28 rfl) (sevs_cons (sv hs 33 rfl) (sevs_cons (sv hs 36 rfl) sevs_nil)))))⟩) ?_
          rintro g _ _ ⟨_, ⟨p40, n41, c42, C43, p44, n45, c46, C47, rfl, rfl, hnn41, o43, hnn45, o47⟩, rfl⟩
          obtain rfl := hnn41
          obtain rfl := hnn45
          exact ⟨⟨[p40, p44], [c42, c46], [C43, C47]⟩, ⟨o43, o47⟩, .inr rfl, rfl⟩
        · exact loc_det rfl rfl (fun _ => rfl) trivial (fun g hΦ s h hs hh => ⟨.none, (stp_move (sv hs 37 rfl))⟩)
        · exact loc_det rfl rfl (fun _ => rfl) trivial (fun g hΦ s h hs hh => ⟨.none, (stp_extract (sv hs 25 rfl) rfl)⟩)
        · exact loc_det rfl rfl (fun _ => rfl) trivial (fun g hΦ s h hs hh => ⟨.none, (stp_extract (sv hs 25 rfl) rfl)⟩)
        · refine loc_eff rfl rfl (fun g hΦ s h hs hh => ⟨.none, (stpU_alloc 17 tz26 rfl)⟩) ?_
          rintro g _ _ ⟨b48, rfl, rfl⟩
          exact ⟨⟨[], [b48], []⟩, trivial, .inr rfl, rfl⟩
        · refine loc_eff rfl rfl (fun g hΦ s h hs hh => ⟨.none, (stpU_store (id := 17) (cs' := [.slice ((g 11).A 0) ((x39.1.b).length) ((g 11).C 0), .slice ((g 11).A 1) ((x39.1.f).length) ((g 11).C 1)]) ts26 (sv hs 6 rfl) (sv hs 38 rfl) (hh.get 17 _ rfl) rfl rfl rfl rfl)⟩) ?_
          rintro g _ _ rfl
          exact ⟨⟨[], [], []⟩, trivial, .inl rfl, rfl⟩
        · exact loc_det rfl rfl (fun _ => rfl) trivial (fun g hΦ s h hs hh => ⟨.none, (stp_assign (sv hs 39 rfl))⟩)
      · intro g hΦ
        refine kw_gen (ι := Option Addr × Res × Option Addr × Option Addr × Nat × Nat × Res × Res × Nat) (((g 9).A 0), ((g 9).R 0), ((g 11).A 0), ((g 11).A 1), ((g 11).C 0), ((g 11).C 1), ((g 11).R 0), ((g 11).R 1), ((g 15).C 0)) (fun | (p36, C37, p40, p44, c42, c46, C43, C47, b48) => OwnC (α := Int) 3 p36 5 ([3, 1, 7, 5, 0]) C37 ∧ OwnC (α := Int) 3 p40 c42 x39.1.b C43 ∧ OwnC (α := F) 53 p44 c46 x39.1.f C47) (fun | (p36, C37, p40, p44, c42, c46, C43, C47, b48) => [(0, .pointer (some ⟨m0, 0, none⟩)), (2, .pointer (some ⟨b1, 0, none⟩)), (3, .pointer (some ⟨b17, 0, none⟩)), (5, .int .i64 v32), (6, .pointer (some ⟨b48, 0, none⟩)), (7, .bool x39.2)]) (fun | (p36, C37, p40, p44, c42, c46, C43, C47, b48) => [(0, [(m0, .cells #[.slice p0_0_0 ((a0_0).length) c0_0_0, .int .i64 x38.2] 97 (0, 0))]), (1, [(b1, .cells #[.slice none 0 0, .slice none 0 0] 26 (0, 0))]), (6, C26), (7, C31), (8, [(b17, .cells #[.slice p23 ((v22).length) c25, .slice p28 ((v27).length) c30] 26 (0, 0))]), (15, C43), (16, C47), (17, [(b48, .cells #[.slice p40 ((x39.1.b).length) c42, .slice p44 ((x39.1.f).length) c46] 26 (0, 0))])]) ⟨(hΦ 9 (by decide)), (hΦ 11 (by decide)).1, (hΦ 11 (by decide)).2⟩ ⟨rfl, rfl, rfl, rfl, rfl, rfl, trivial⟩ ⟨rfl, rfl, rfl, rfl, rfl, rfl, rfl, rfl, trivial⟩ ?_
        rintro ⟨p36, C37, p40, p44, c42, c46, C43, C47, b48⟩ ⟨o37, o43, o47⟩
        refine KW.sub (s' := [(0, .pointer (some ⟨m0, 0, none⟩)), (2, .pointer (some ⟨b1, 0, none⟩)), (3, .pointer (some ⟨b17, 0, none⟩)), (5, .int .i64 v32), (6, .pointer (some ⟨b48, 0, none⟩)), (7, .bool x39.2)]) (h' := [(0, [(m0, .cells #[.slice p0_0_0 ((a0_0).length) c0_0_0, .int .i64 x38.2] 97 (0, 0))]), (1, [(b1, .cells #[.slice none 0 0, .slice none 0 0] 26 (0, 0))]), (6, C26), (7, C31), (8, [(b17, .cells #[.slice p23 ((v22).length) c25, .slice p28 ((v27).length) c30] 26 (0, 0))]), (15, C43), (16, C47), (17, [(b48, .cells #[.slice p40 ((x39.1.b).length) c42, .slice p44 ((x39.1.f).length) c46] 26 (0, 0))])]) ?_ ⟨rfl, rfl, rfl, rfl, rfl, rfl, trivial⟩ ⟨rfl, rfl, rfl, rfl, rfl, rfl, rfl, rfl, trivial⟩
        refine kw_nx ?_
        refine cw_seq ?_
        refine cw_seq ?_
        refine cw_region ?_
        refine ow_det .none (stp_move rfl) rfl ?_
        refine ow_nil ?_
        refine kw_nx ?_
        refine cw_cond rfl (fun h49 => ?_) (fun h49 => ?_)
        · have H1 := cond_t H1 h49
          refine cw_region ?_
          refine ow_det .none (stp_loadN (us := [_, _]) ts26 rfl (Cells.box (id := 17) rfl 2 rfl)) rfl ?_
          refine ow_eff0 .none (stpU_store (id := 8) (cs' := [.slice p40 ((x39.1.b).length) c42, .slice p44 ((x39.1.f).length) c46]) ts26 rfl rfl rfl rfl rfl rfl rfl) ?_
          rintro _ _ rfl
          refine ow_nil ?_
          refine kw_nx ?_
          refine cw_seq ?_
          refine cw_region ?_
          refine ow_det .none (stp_move rfl) rfl ?_
          obtain ⟨x50, e50, H1⟩ := bind_some H1
          refine ow_eff .none (stpU_callM (fun i => bif Nat.beq i 0 then 0 else 18 + i) cf74 (fun w hw hb => c_s_l12Rd_pick fl w m0 a0_0 p0_0_0 ((a0_0).length) c0_0_0 x38.2 8 rfl (RO.passM hr0_0_0 hw hb) (hw.pass (js := [0]) ⟨0, [], rfl, rfl, trivial⟩ (by decide)) x50 e50) (sevs_cons rfl (sevs_cons rfl sevs_nil)) ⟨rfl, (fun _ _ hp => by obtain ⟨_, rfl⟩ := hp; exact ⟨_, rfl⟩), trivial⟩) rfl ?_
          rintro _ _ ⟨_, ⟨rfl, rfl⟩, rfl⟩
          refine ow_det .none (stp_eql rfl rfl) rfl ?_
          refine ow_nil ?_
          refine kw_nx ?_
          refine cw_cond rfl (fun h51 => ?_) (fun h51 => ?_)
          · have H1 := cond_t H1 h51
            refine cw_seq ?_
            obtain ⟨x52, e52, H1⟩ := bind_some H1
            obtain ⟨x53, e53, H1⟩ := bind_some H1
            refine region_drawn { dst := fun i => match i with | 0 => some 46 | 1 => some 47 | 2 => some 48 | 3 => some 49 | 4 => some 45 | 5 => some 50 | 6 => some 51 | 8 => some 7 | _ => none, pre := fun i => match i with | 2 => [1] | 3 => [0, 1, 2] | 4 => [0, 1, 2, 3] | 5 => [0, 1, 2, 3, 4] | 6 => [0, 1, 2, 3, 4] | 7 => [0, 1, 2, 3, 4, 5] | 8 => [0, 1, 2, 3, 4, 5, 6, 7] | _ => [], ids := fun i => match i with | 2 => [0] | 3 => [20, 21] | 7 => [17] | _ => [], rs := fun i => match i with | 0 => [(3, none)] | 1 => [(0, none)] | 2 => [(47, some 1)] | 3 => [(46, some 0), (48, some 2)] | 4 => [(49, some 3)] | 5 => [(45, some 4)] | 6 => [(45, some 4)] | 7 => [(6, none), (50, some 5)] | 8 => [(51, some 6)] | _ => [], rh := fun i => match i with | 0 => [(8, none)] | 2 => [(0, none)] | 3 => [(15, none), (16, none)] | 7 => [(17, none)] | _ => [], V := fun i g => match i with | 0 => .agg #[.slice p40 ((x39.1.b).length) c42, .slice p44 ((x39.1.f).length) c46] | 1 => .pointer (some ⟨m0, 0, none⟩) | 2 => .agg #[.int .i64 x52.1.s, .int .i64 x52.1.p] | 3 => .tuple #[.agg #[.slice ((g 3).A 0) ((x53.1.b).length) ((g 3).C 0), .slice ((g 3).A 1) ((x53.1.f).length) ((g 3).C 1)], .bool x53.2] | 4 => .tuple #[.agg #[.slice ((g 3).A 0) ((x53.1.b).length) ((g 3).C 0), .slice ((g 3).A 1) ((x53.1.f).length) ((g 3).C 1)], .bool x53.2] | 5 => .agg #[.slice ((g 3).A 0) ((x53.1.b).length) ((g 3).C 0), .slice ((g 3).A 1) ((x53.1.f).length) ((g 3).C 1)] | 6 => .bool x53.2 | 8 => .bool x53.2 | _ => undef, U := fun i g => match i with | 2 => [(0, [(m0, .cells #[.slice p0_0_0 ((a0_0).length) c0_0_0, .int .i64 x52.2] 97 (0, 0))])] | 3 => [(20, ((g 3).R 0)), (21, ((g 3).R 1))] | 7 => [(17, [(b48, .cells #[.slice ((g 3).A 0) ((x53.1.b).length) ((g 3).C 0), .slice ((g 3).A 1) ((x53.1.f).length) ((g 3).C 1)] 26 (0, 0))])] | _ => [], Φ := fun i x => match i with | 3 => OwnC (α := Int) 3 (x.A 0) (x.C 0) x53.1.b (x.R 0) ∧ OwnC (α := F) 53 (x.A 1) (x.C 1) x53.1.f (x.R 1) | _ => True } g_mixed [0, 3, 6] [0, 8, 15, 16, 17] (by kernel_rfl) (by kernel_rfl) (by kernel_rfl) ⟨⟨⟨⟨⟨⟨⟨⟨⟨trivial, fun _ => ⟨rfl, rfl⟩⟩, fun _ => ⟨rfl, rfl⟩⟩, fun _ => ⟨rfl, rfl⟩⟩, fun _ => ⟨rfl, rfl⟩⟩, fun _ => ⟨rfl, rfl⟩⟩, fun _ => ⟨rfl, rfl⟩⟩, fun _ => ⟨rfl, rfl⟩⟩, fun _ => ⟨rfl, rfl⟩⟩, fun _ => ⟨rfl, rfl⟩⟩ ?_ ?_
            · refine ⟨⟨⟨⟨⟨⟨⟨⟨⟨trivial, ?_⟩, ?_⟩, ?_⟩, ?_⟩, ?_⟩, ?_⟩, ?_⟩, ?_⟩, ?_⟩
              · exact loc_det rfl rfl (fun _ => rfl) trivial (fun g hΦ s h hs hh => ⟨.none, (stp_loadN (us := [_, _]) ts26 (sv hs 3 rfl) (Cells.box (id := 8) (hh.get 8 _ rfl) 2 rfl))⟩)
              · exact loc_det rfl rfl (fun _ => rfl) trivial (fun g hΦ s h hs hh => ⟨.none, (stp_move (sv hs 0 rfl))⟩)
              · refine loc_eff rfl rfl (fun g hΦ s h hs hh => ⟨.none, (stpU_callM (fun i => bif Nat.beq i 0 then 0 else 19 + i) cf75 (fun w hw hb => c_s_l2Draw fl w m0 a0_0 p0_0_0 ((a0_0).length) c0_0_0 x50.2 rfl (RO.passM hr0_0_0 hw hb) (hw.pass (js := [0]) ⟨0, [], rfl, (hh.get 0 _ rfl), trivial⟩ (by decide)) x52 e52) (sevs_cons (sv hs 47 rfl) sevs_nil) ⟨(hh.get 0 _ rfl), (fun _ _ hp => by obtain ⟨_, rfl⟩ := hp; exact ⟨_, rfl⟩), trivial⟩)⟩) ?_
                rintro g _ _ ⟨_, ⟨rfl, rfl⟩, rfl⟩
                exact ⟨⟨[], [], []⟩, trivial, .inr rfl, rfl⟩
              · refine loc_eff rfl rfl (fun g hΦ s h hs hh => ⟨.none, (stpU_call (fun i => 20 + i) cf28 (fun w hw => c_s_UnmapPage fl w x39.1 p40 ((x39.1.b).length) c42 p44 ((x39.1.f).length) c46 x52.1 rfl (OwnC.pass (id := 15) (hh.get 15 _ rfl) o43 hw) rfl (OwnC.pass (id := 16) (hh.get 16 _ rfl) o47 hw) x53 e53) (sevs_cons (sv hs 46 rfl) (sevs_cons (sv hs 48 rfl) sevs_nil)))⟩) ?_
                rintro g _ _ ⟨_, ⟨p54, n55, c56, C57, p58, n59, c60, C61, rfl, rfl, hnn55, o57, hnn59, o61⟩, rfl⟩
                obtain rfl := hnn55
                obtain rfl := hnn59
                exact ⟨⟨[p54, p58], [c56, c60], [C57, C61]⟩, ⟨o57, o61⟩, .inr rfl, rfl⟩
              · exact loc_det rfl rfl (fun _ => rfl) trivial (fun g hΦ s h hs hh => ⟨.none, (stp_move (sv hs 49 rfl))⟩)
              · exact loc_det rfl rfl (fun _ => rfl) trivial (fun g hΦ s h hs hh => ⟨.none, (stp_extract (sv hs 45 rfl) rfl)⟩)
              · exact loc_det rfl rfl (fun _ => rfl) trivial (fun g hΦ s h hs hh => ⟨.none, (stp_extract (sv hs 45 rfl) rfl)⟩)
              · refine loc_eff rfl rfl (fun g hΦ s h hs hh => ⟨.none, (stpU_store (id := 17) (cs' := [.slice ((g 3).A 0) ((x53.1.b).length) ((g 3).C 0), .slice ((g 3).A 1) ((x53.1.f).length) ((g 3).C 1)]) ts26 (sv hs 6 rfl) (sv hs 50 rfl) (hh.get 17 _ rfl) rfl rfl rfl rfl)⟩) ?_
                rintro g _ _ rfl
                exact ⟨⟨[], [], []⟩, trivial, .inl rfl, rfl⟩
              · exact loc_det rfl rfl (fun _ => rfl) trivial (fun g hΦ s h hs hh => ⟨.none, (stp_assign (sv hs 51 rfl))⟩)
            · intro g hΦ
              refine kw_gen (ι := Option Addr × Option Addr × Nat × Nat × Res × Res) (((g 3).A 0), ((g 3).A 1), ((g 3).C 0), ((g 3).C 1), ((g 3).R 0), ((g 3).R 1)) (fun | (p54, p58, c56, c60, C57, C61) => OwnC (α := Int) 3 p54 c56 x53.1.b C57 ∧ OwnC (α := F) 53 p58 c60 x53.1.f C61) (fun | (p54, p58, c56, c60, C57, C61) => [(0, .pointer (some ⟨m0, 0, none⟩)), (2, .pointer (some ⟨b1, 0, none⟩)), (3, .pointer (some ⟨b17, 0, none⟩)), (5, .int .i64 v32), (6, .pointer (some ⟨b48, 0, none⟩)), (7, .bool x53.2)]) (fun | (p54, p58, c56, c60, C57, C61) => [(0, [(m0, .cells #[.slice p0_0_0 ((a0_0).length) c0_0_0, .int .i64 x52.2] 97 (0, 0))]), (1, [(b1, .cells #[.slice none 0 0, .slice none 0 0] 26 (0, 0))]), (8, [(b17, .cells #[.slice p40 ((x39.1.b).length) c42, .slice p44 ((x39.1.f).length) c46] 26 (0, 0))]), (15, C43), (16, C47), (17, [(b48, .cells #[.slice p54 ((x53.1.b).length) c56, .slice p58 ((x53.1.f).length) c60] 26 (0, 0))]), (20, C57), (21, C61)]) ⟨(hΦ 3 (by decide)).1, (hΦ 3 (by decide)).2⟩ ⟨rfl, rfl, rfl, rfl, rfl, rfl, trivial⟩ ⟨rfl, rfl, rfl, rfl, rfl, rfl, rfl, rfl, trivial⟩ ?_
              rintro ⟨p54, p58, c56, c60, C57, C61⟩ ⟨o57, o61⟩
              refine KW.sub (s' := [(0, .pointer (some ⟨m0, 0, none⟩)), (2, .pointer (some ⟨b1, 0, none⟩)), (3, .pointer (some ⟨b17, 0, none⟩)), (5, .int .i64 v32), (6, .pointer (some ⟨b48, 0, none⟩)), (7, .bool x53.2)]) (h' := [(0, [(m0, .cells #[.slice p0_0_0 ((a0_0).length) c0_0_0, .int .i64 x52.2] 97 (0, 0))]), (1, [(b1, .cells #[.slice none 0 0, .slice none 0 0] 26 (0, 0))]), (8, [(b17, .cells #[.slice p40 ((x39.1.b).length) c42, .slice p44 ((x39.1.f).length) c46] 26 (0, 0))]), (15, C43), (16, C47), (17, [(b48, .cells #[.slice p54 ((x53.1.b).length) c56, .slice p58 ((x53.1.f).length) c60] 26 (0, 0))]), (20, C57), (21, C61)]) ?_ ⟨rfl, rfl, rfl, rfl, rfl, rfl, trivial⟩ ⟨rfl, rfl, rfl, rfl, rfl, rfl, rfl, rfl, trivial⟩
              refine kw_nx ?_
              refine cw_seq ?_
              refine cw_region ?_
              refine ow_det .none (stp_move rfl) rfl ?_
              refine ow_nil ?_
              refine kw_nx ?_
              refine cw_cond rfl (fun h62 => ?_) (fun h62 => ?_)
              · have H1 := cond_t H1 h62
                refine cw_region ?_
                refine ow_det .none (stp_loadN (us := [_, _]) ts26 rfl (Cells.box (id := 17) rfl 2 rfl)) rfl ?_
                refine ow_eff0 .none (stpU_store (id := 8) (cs' := [.slice p54 ((x53.1.b).length) c56, .slice p58 ((x53.1.f).length) c60]) ts26 rfl rfl rfl rfl rfl rfl rfl) ?_
                rintro _ _ rfl
                refine ow_nil ?_
                refine kw_bl_normal ?_
                refine kw_nx ?_
                refine cw_region ?_
                refine ow_det .none (stp_move rfl) rfl ?_
                obtain ⟨x63, e63, H1⟩ := bind_some H1
                refine ow_det .none (stp_sub rfl rfl e63) rfl ?_
                refine ow_det .none (stp_assign rfl) rfl ?_
                refine ow_nil ?_
                exact kw_lqS (js := [0, 1, 20, 21, 8]) (fuel, x52.2, x53.1.b, x53.1.f, x63, p54, ((x53.1.b).length), c56, C57, p58, ((x53.1.f).length), c60, C61) ⟨H1, rfl, o57, rfl, o61⟩ (Nat.lt_succ_self _) ⟨rfl, rfl, rfl, rfl, trivial⟩ ⟨0, [1, 20, 21, 8], rfl, rfl, 1, [20, 21, 8], rfl, rfl, 20, [21, 8], rfl, rfl, 21, [8], rfl, rfl, 8, [], rfl, rfl, trivial⟩ (by decide)
              · have H1 := cond_f H1 h62
                refine cw_skip ?_
                refine kw_bl_normal ?_
                refine kw_nx ?_
                refine cw_region ?_
                refine ow_det .none (stp_move rfl) rfl ?_
                obtain ⟨x64, e64, H1⟩ := bind_some H1
                refine ow_det .none (stp_sub rfl rfl e64) rfl ?_
                refine ow_det .none (stp_assign rfl) rfl ?_
                refine ow_nil ?_
                exact kw_lqS (js := [0, 1, 15, 16, 8]) (fuel, x52.2, x39.1.b, x39.1.f, x64, p40, ((x39.1.b).length), c42, C43, p44, ((x39.1.f).length), c46, C47) ⟨H1, rfl, o43, rfl, o47⟩ (Nat.lt_succ_self _) ⟨rfl, rfl, rfl, rfl, trivial⟩ ⟨0, [1, 15, 16, 8], rfl, rfl, 1, [15, 16, 8], rfl, rfl, 15, [16, 8], rfl, rfl, 16, [8], rfl, rfl, 8, [], rfl, rfl, trivial⟩ (by decide)
          · have H1 := cond_f H1 h51
            refine cw_skip ?_
            refine kw_bl_normal ?_
            refine kw_nx ?_
            refine cw_region ?_
            refine ow_det .none (stp_move rfl) rfl ?_
            obtain ⟨x65, e65, H1⟩ := bind_some H1
            refine ow_det .none (stp_sub rfl rfl e65) rfl ?_
            refine ow_det .none (stp_assign rfl) rfl ?_
            refine ow_nil ?_
            exact kw_lqS (js := [0, 1, 15, 16, 8]) (fuel, x50.2, x39.1.b, x39.1.f, x65, p40, ((x39.1.b).length), c42, C43, p44, ((x39.1.f).length), c46, C47) ⟨H1, rfl, o43, rfl, o47⟩ (Nat.lt_succ_self _) ⟨rfl, rfl, rfl, rfl, trivial⟩ ⟨0, [1, 15, 16, 8], rfl, rfl, 1, [15, 16, 8], rfl, rfl, 15, [16, 8], rfl, rfl, 16, [8], rfl, rfl, 8, [], rfl, rfl, trivial⟩ (by decide)
        · have H1 := cond_f H1 h49
          refine cw_skip ?_
          refine kw_nx ?_
          refine cw_seq ?_
          refine cw_region ?_
          refine ow_det .none (stp_move rfl) rfl ?_
          obtain ⟨x66, e66, H1⟩ := bind_some H1
          refine ow_eff .none (stpU_callM (fun i => bif Nat.beq i 0 then 0 else 22 + i) cf74 (fun w hw hb => c_s_l12Rd_pick fl w m0 a0_0 p0_0_0 ((a0_0).length) c0_0_0 x38.2 8 rfl (RO.passM hr0_0_0 hw hb) (hw.pass (js := [0]) ⟨0, [], rfl, rfl, trivial⟩ (by decide)) x66 e66) (sevs_cons rfl (sevs_cons rfl sevs_nil)) ⟨rfl, (fun _ _ hp => by obtain ⟨_, rfl⟩ := hp; exact ⟨_, rfl⟩), trivial⟩) rfl ?_
          rintro _ _ ⟨_, ⟨rfl, rfl⟩, rfl⟩
          refine ow_det .none (stp_eql rfl rfl) rfl ?_
          refine ow_nil ?_
          refine kw_nx ?_
          refine cw_cond rfl (fun h67 => ?_) (fun h67 => ?_)
          · have H1 := cond_t H1 h67
            refine cw_seq ?_
            obtain ⟨x68, e68, H1⟩ := bind_some H1
            obtain ⟨x69, e69, H1⟩ := bind_some H1
            refine region_drawn { dst := fun i => match i with | 0 => some 46 | 1 => some 47 | 2 => some 48 | 3 => some 49 | 4 => some 45 | 5 => some 50 | 6 => some 51 | 8 => some 7 | _ => none, pre := fun i => match i with | 2 => [1] | 3 => [0, 1, 2] | 4 => [0, 1, 2, 3] | 5 => [0, 1, 2, 3, 4] | 6 => [0, 1, 2, 3, 4] | 7 => [0, 1, 2, 3, 4, 5] | 8 => [0, 1, 2, 3, 4, 5, 6, 7] | _ => [], ids := fun i => match i with | 2 => [0] | 3 => [24, 25] | 7 => [17] | _ => [], rs := fun i => match i with | 0 => [(3, none)] | 1 => [(0, none)] | 2 => [(47, some 1)] | 3 => [(46, some 0), (48, some 2)] | 4 => [(49, some 3)] | 5 => [(45, some 4)] | 6 => [(45, some 4)] | 7 => [(6, none), (50, some 5)] | 8 => [(51, some 6)] | _ => [], rh := fun i => match i with | 0 => [(8, none)] | 2 => [(0, none)] | 3 => [(6, none), (7, none)] | 7 => [(17, none)] | _ => [], V := fun i g => match i with | 0 => .agg #[.slice p23 ((v22).length) c25, .slice p28 ((v27).length) c30] | 1 => .pointer (some ⟨m0, 0, none⟩) | 2 => .agg #[.int .i64 x68.1.s, .int .i64 x68.1.p] | 3 => .tuple #[.agg #[.slice ((g 3).A 0) ((x69.1.b).length) ((g 3).C 0), .slice ((g 3).A 1) ((x69.1.f).length) ((g 3).C 1)], .bool x69.2] | 4 => .tuple #[.agg #[.slice ((g 3).A 0) ((x69.1.b).length) ((g 3).C 0), .slice ((g 3).A 1) ((x69.1.f).length) ((g 3).C 1)], .bool x69.2] | 5 => .agg #[.slice ((g 3).A 0) ((x69.1.b).length) ((g 3).C 0), .slice ((g 3).A 1) ((x69.1.f).length) ((g 3).C 1)] | 6 => .bool x69.2 | 8 => .bool x69.2 | _ => undef, U := fun i g => match i with | 2 => [(0, [(m0, .cells #[.slice p0_0_0 ((a0_0).length) c0_0_0, .int .i64 x68.2] 97 (0, 0))])] | 3 => [(24, ((g 3).R 0)), (25, ((g 3).R 1))] | 7 => [(17, [(b48, .cells #[.slice ((g 3).A 0) ((x69.1.b).length) ((g 3).C 0), .slice ((g 3).A 1) ((x69.1.f).length) ((g 3).C 1)] 26 (0, 0))])] | _ => [], Φ := fun i x => match i with | 3 => OwnC (α := Int) 3 (x.A 0) (x.C 0) x69.1.b (x.R 0) ∧ OwnC (α := F) 53 (x.A 1) (x.C 1) x69.1.f (x.R 1) | _ => True } g_mixed [0, 3, 6] [0, 6, 7, 8, 17] (by kernel_rfl) (by kernel_rfl) (by kernel_rfl) ⟨⟨⟨⟨⟨⟨⟨⟨⟨trivial, fun _ => ⟨rfl, rfl⟩⟩, fun _ => ⟨rfl, rfl⟩⟩, fun _ => ⟨rfl, rfl⟩⟩, fun _ => ⟨rfl, rfl⟩⟩, fun _ => ⟨rfl, rfl⟩⟩, fun _ => ⟨rfl, rfl⟩⟩, fun _ => ⟨rfl, rfl⟩⟩, fun _ => ⟨rfl, rfl⟩⟩, fun _ => ⟨rfl, rfl⟩⟩ ?_ ?_
            · refine ⟨⟨⟨⟨⟨⟨⟨⟨⟨trivial, ?_⟩, ?_⟩, ?_⟩, ?_⟩, ?_⟩, ?_⟩, ?_⟩, ?_⟩, ?_⟩
              · exact loc_det rfl rfl (fun _ => rfl) trivial (fun g hΦ s h hs hh => ⟨.none, (stp_loadN (us := [_, _]) ts26 (sv hs 3 rfl) (Cells.box (id := 8) (hh.get 8 _ rfl) 2 rfl))⟩)
              · exact loc_det rfl rfl (fun _ => rfl) trivial (fun g hΦ s h hs hh => ⟨.none, (stp_move (sv hs 0 rfl))⟩)
              · refine loc_eff rfl rfl (fun g hΦ s h hs hh => ⟨.none, (stpU_callM (fun i => bif Nat.beq i 0 then 0 else 23 + i) cf75 (fun w hw hb => c_s_l2Draw fl w m0 a0_0 p0_0_0 ((a0_0).length) c0_0_0 x66.2 rfl (RO.passM hr0_0_0 hw hb) (hw.pass (js := [0]) ⟨0, [], rfl, (hh.get 0 _ rfl), trivial⟩ (by decide)) x68 e68) (sevs_cons (sv hs 47 rfl) sevs_nil) ⟨(hh.get 0 _ rfl), (fun _ _ hp => by obtain ⟨_, rfl⟩ := hp; exact ⟨_, rfl⟩), trivial⟩)⟩) ?_
                rintro g _ _ ⟨_, ⟨rfl, rfl⟩, rfl⟩
                exact ⟨⟨[], [], []⟩, trivial, .inr rfl, rfl⟩
              · refine loc_eff rfl rfl (fun g hΦ s h hs hh => ⟨.none, (stpU_call (fun i => 24 + i) cf28 (fun w hw => c_s_UnmapPage fl w (⟨v22, v27⟩ : T) p23 ((v22).length) c25 p28 ((v27).length) c30 x68.1 rfl (OwnC.pass (id := 6) (hh.get 6 _ rfl) o26 hw) rfl (OwnC.pass (id := 7) (hh.get 7 _ rfl) o31 hw) x69 e69) (sevs_cons (sv hs 46 rfl) (sevs_cons (sv hs 48 rfl) sevs_nil)))⟩) ?_
                rintro g _ _ ⟨_, ⟨p70, n71, c72, C73, p74, n75, c76, C77, rfl, rfl, hnn71, o73, hnn75, o77⟩, rfl⟩
                obtain rfl := hnn71
                obtain rfl := hnn75
                exact ⟨⟨[p70, p74], [c72, c76], [C73, C77]⟩, ⟨o73, o77⟩, .inr rfl, rfl⟩
              · exact loc_det rfl rfl (fun _ => rfl) trivial (fun g hΦ s h hs hh => ⟨.none, (stp_move (sv hs 49 rfl))⟩)
              · exact loc_det rfl rfl (fun _ => rfl) trivial (fun g hΦ s h hs hh => ⟨.none, (stp_extract (sv hs 45 rfl) rfl)⟩)
              · exact loc_det rfl rfl (fun _ => rfl) trivial (fun g hΦ s h hs hh => ⟨.none, (stp_extract (sv hs 45 rfl) rfl)⟩)
              · refine loc_eff rfl rfl (fun g hΦ s h hs hh => ⟨.none, (stpU_store (id := 17) (cs' := [.slice ((g 3).A 0) ((x69.1.b).length) ((g 3).C 0), .slice ((g 3).A 1) ((x69.1.f).length) ((g 3).C 1)]) ts26 (sv hs 6 rfl) (sv hs 50 rfl) (hh.get 17 _ rfl) rfl rfl rfl rfl)⟩) ?_
                rintro g _ _ rfl
                exact ⟨⟨[], [], []⟩, trivial, .inl rfl, rfl⟩
              · exact loc_det rfl rfl (fun _ => rfl) trivial (fun g hΦ s h hs hh => ⟨.none, (stp_assign (sv hs 51 rfl))⟩)
            · intro g hΦ
              refine kw_gen (ι := Option Addr × Option Addr × Nat × Nat × Res × Res) (((g 3).A 0), ((g 3).A 1), ((g 3).C 0), ((g 3).C 1), ((g 3).R 0), ((g 3).R 1)) (fun | (p70, p74, c72, c76, C73, C77) => OwnC (α := Int) 3 p70 c72 x69.1.b C73 ∧ OwnC (α := F) 53 p74 c76 x69.1.f C77) (fun | (p70, p74, c72, c76, C73, C77) => [(0, .pointer (some ⟨m0, 0, none⟩)), (2, .pointer (some ⟨b1, 0, none⟩)), (3, .pointer (some ⟨b17, 0, none⟩)), (5, .int .i64 v32), (6, .pointer (some ⟨b48, 0, none⟩)), (7, .bool x69.2)]) (fun | (p70, p74, c72, c76, C73, C77) => [(0, [(m0, .cells #[.slice p0_0_0 ((a0_0).length) c0_0_0, .int .i64 x68.2] 97 (0, 0))]), (1, [(b1, .cells #[.slice none 0 0, .slice none 0 0] 26 (0, 0))]), (6, C26), (7, C31), (8, [(b17, .cells #[.slice p23 ((v22).length) c25, .slice p28 ((v27).length) c30] 26 (0, 0))]), (17, [(b48, .cells #[.slice p70 ((x69.1.b).length) c72, .slice p74 ((x69.1.f).length) c76] 26 (0, 0))]), (24, C73), (25, C77)]) ⟨(hΦ 3 (by decide)).1, (hΦ 3 (by decide)).2⟩ ⟨rfl, rfl, rfl, rfl, rfl, rfl, trivial⟩ ⟨rfl, rfl, rfl, rfl, rfl, rfl, rfl, rfl, trivial⟩ ?_
              rintro ⟨p70, p74, c72, c76, C73, C77⟩ ⟨o73, o77⟩
              refine KW.sub (s' := [(0, .pointer (some ⟨m0, 0, none⟩)), (2, .pointer (some ⟨b1, 0, none⟩)), (3, .pointer (some ⟨b17, 0, none⟩)), (5, .int .i64 v32), (6, .pointer (some ⟨b48, 0, none⟩)), (7, .bool x69.2)]) (h' := [(0, [(m0, .cells #[.slice p0_0_0 ((a0_0).length) c0_0_0, .int .i64 x68.2] 97 (0, 0))]), (1, [(b1, .cells #[.slice none 0 0, .slice none 0 0] 26 (0, 0))]), (6, C26), (7, C31), (8, [(b17, .cells #[.slice p23 ((v22).length) c25, .slice p28 ((v27).length) c30] 26 (0, 0))]), (17, [(b48, .cells #[.slice p70 ((x69.1.b).length) c72, .slice p74 ((x69.1.f).length) c76] 26 (0, 0))]), (24, C73), (25, C77)]) ?_ ⟨rfl, rfl, rfl, rfl, rfl, rfl, trivial⟩ ⟨rfl, rfl, rfl, rfl, rfl, rfl, rfl, rfl, trivial⟩
              refine kw_nx ?_
              refine cw_seq ?_
              refine cw_region ?_
              refine ow_det .none (stp_move rfl) rfl ?_
              refine ow_nil ?_
              refine kw_nx ?_
              refine cw_cond rfl (fun h78 => ?_) (fun h78 => ?_)
              · have H1 := cond_t H1 h78
                refine cw_region ?_
                refine ow_det .none (stp_loadN (us := [_, _]) ts26 rfl (Cells.box (id := 17) rfl 2 rfl)) rfl ?_
                refine ow_eff0 .none (stpU_store (id := 8) (cs' := [.slice p70 ((x69.1.b).length) c72, .slice p74 ((x69.1.f).length) c76]) ts26 rfl rfl rfl rfl rfl rfl rfl) ?_
                rintro _ _ rfl
                refine ow_nil ?_
                refine kw_bl_normal ?_
                refine kw_nx ?_
                refine cw_region ?_
                refine ow_det .none (stp_move rfl) rfl ?_
                obtain ⟨x79, e79, H1⟩ := bind_some H1
                refine ow_det .none (stp_sub rfl rfl e79) rfl ?_
                refine ow_det .none (stp_assign rfl) rfl ?_
                refine ow_nil ?_
                exact kw_lqS (js := [0, 1, 24, 25, 8]) (fuel, x68.2, x69.1.b, x69.1.f, x79, p70, ((x69.1.b).length), c72, C73, p74, ((x69.1.f).length), c76, C77) ⟨H1, rfl, o73, rfl, o77⟩ (Nat.lt_succ_self _) ⟨rfl, rfl, rfl, rfl, trivial⟩ ⟨0, [1, 24, 25, 8], rfl, rfl, 1, [24, 25, 8], rfl, rfl, 24, [25, 8], rfl, rfl, 25, [8], rfl, rfl, 8, [], rfl, rfl, trivial⟩ (by decide)
              · have H1 := cond_f H1 h78
                refine cw_skip ?_
                refine kw_bl_normal ?_
                refine kw_nx ?_
                refine cw_region ?_
                refine ow_det .none (stp_move rfl) rfl ?_
                obtain ⟨x80, e80, H1⟩ := bind_some H1
                refine ow_det .none (stp_sub rfl rfl e80) rfl ?_
                refine ow_det .none (stp_assign rfl) rfl ?_
                refine ow_nil ?_
                exact kw_lqS (js := [0, 1, 6, 7, 8]) (fuel, x68.2, v22, v27, x80, p23, ((v22).length), c25, C26, p28, ((v27).length), c30, C31) ⟨H1, rfl, o26, rfl, o31⟩ (Nat.lt_succ_self _) ⟨rfl, rfl, rfl, rfl, trivial⟩ ⟨0, [1, 6, 7, 8], rfl, rfl, 1, [6, 7, 8], rfl, rfl, 6, [7, 8], rfl, rfl, 7, [8], rfl, rfl, 8, [], rfl, rfl, trivial⟩ (by decide)
          · have H1 := cond_f H1 h67
            refine cw_skip ?_
            refine kw_bl_normal ?_
            refine kw_nx ?_
            refine cw_region ?_
            refine ow_det .none (stp_move rfl) rfl ?_
            obtain ⟨x81, e81, H1⟩ := bind_some H1
            refine ow_det .none (stp_sub rfl rfl e81) rfl ?_
            refine ow_det .none (stp_assign rfl) rfl ?_
            refine ow_nil ?_
            exact kw_lqS (js := [0, 1, 6, 7, 8]) (fuel, x66.2, v22, v27, x81, p23, ((v22).length), c25, C26, p28, ((v27).length), c30, C31) ⟨H1, rfl, o26, rfl, o31⟩ (Nat.lt_succ_self _) ⟨rfl, rfl, rfl, rfl, trivial⟩ ⟨0, [1, 6, 7, 8], rfl, rfl, 1, [6, 7, 8], rfl, rfl, 6, [7, 8], rfl, rfl, 7, [8], rfl, rfl, 8, [], rfl, rfl, trivial⟩ (by decide)
    · have H1 := cond_f H1 h33
      refine cw_exit ?_
      refine kw_nx_exit ?_
      refine kw_lq_exit ?_
      refine kw_bl ?_
      have q1 := Option.some.inj H1
      subst q1
      exact kw_joinS (js := [0, 1, 6, 7, 8]) (v21, v22, v27, v32, p23, ((v22).length), c25, C26, p28, ((v27).length), c30, C31) ⟨rfl, rfl, o26, rfl, o31⟩ ⟨rfl, rfl, rfl, rfl, trivial⟩ ⟨0, [1, 6, 7, 8], rfl, rfl, 1, [6, 7, 8], rfl, rfl, 6, [7, 8], rfl, rfl, 7, [8], rfl, rfl, 8, [], rfl, rfl, trivial⟩ (by decide)
  · rintro ⟨v21, v22, v27, v32, p23, n24, c25, C26, p28, n29, c30, C31⟩ ⟨rfl, hnn24, o26, hnn29, o31⟩
    obtain rfl := hnn24
    obtain rfl := hnn29
    refine KW.sub (s' := [(0, .pointer (some ⟨m0, 0, none⟩)), (2, .pointer (some ⟨b1, 0, none⟩)), (3, .pointer (some ⟨b17, 0, none⟩)), (5, .int .i64 v32)]) (h' := [(0, [(m0, .cells #[.slice p0_0_0 ((a0_0).length) c0_0_0, .int .i64 v21] 97 (0, 0))]), (1, [(b1, .cells #[.slice none 0 0, .slice none 0 0] 26 (0, 0))]), (6, C26), (7, C31), (8, [(b17, .cells #[.slice p23 ((v22).length) c25, .slice p28 ((v27).length) c30] 26 (0, 0))])]) ?_ ⟨rfl, rfl, rfl, rfl, trivial⟩ ⟨rfl, rfl, rfl, rfl, rfl, trivial⟩
    refine kw_nx ?_
    refine cw_seq ?_
    refine cw_region ?_
    refine ow_det .none (stp_loadN (us := [_, _]) ts26 rfl (Cells.box (id := 8) rfl 2 rfl)) rfl ?_
    refine ow_eff0 .none (stpU_store (id := 1) (cs' := [.slice p23 ((v22).length) c25, .slice p28 ((v27).length) c30]) ts26 rfl rfl rfl rfl rfl rfl rfl) ?_
    rintro _ _ rfl
    refine ow_nil ?_
    refine kw_nx ?_
    refine cw_ret ?_
    have q0 := Option.some.inj H0
    subst q0
    exact kw_ret Tryd.results35 (.cons (.cellN (us := [_, _]) ts26 rfl (Cells.box (id := 1) rfl 2 rfl)) .nil) [(0, [(m0, .cells #[.slice p0_0_0 ((a0_0).length) c0_0_0, .int .i64 v21] 97 (0, 0))]), (1, C26), (2, C31)] [0, 6, 7] ⟨0, [6, 7], rfl, rfl, 6, [7], rfl, rfl, 7, [], rfl, rfl, trivial⟩ (by decide) ⟨p23, ((v22).length), c25, C26, p28, ((v27).length), c30, C31, rfl, rfl, rfl, o26, rfl, o31⟩

set_option maxHeartbeats 4000000 in
set_option maxRecDepth 20000 in
theorem c_s_l3Wrong (fl : Nat) (w : World) (m0 : Nat) (a0_0 : (List UInt8)) (p0_0_0 : Option Addr) (n0_0_0 c0_0_0 : Nat) (a0_1 : Int) (a1 : T) (p1_0 : Option Addr) (n1_0 c1_0 : Nat) (p1_1 : Option Addr) (n1_1 c1_1 : Nat) (hn0_0_0 : n0_0_0 = (a0_0).length) (hr0_0_0 : RO w (hkeys [(0, [(m0, .cells #[.slice p0_0_0 n0_0_0 c0_0_0, .int .i64 a0_1] 97 (0, 0))])]) (RdL p0_0_0 c0_0_0 a0_0)) (hn1_0 : n1_0 = (a1.b).length) (hr1_0 : RO w (hkeys [(0, [(m0, .cells #[.slice p0_0_0 n0_0_0 c0_0_0, .int .i64 a0_1] 97 (0, 0))])]) (RdL p1_0 c1_0 a1.b)) (hn1_1 : n1_1 = (a1.f).length) (hr1_1 : RO w (hkeys [(0, [(m0, .cells #[.slice p0_0_0 n0_0_0 c0_0_0, .int .i64 a0_1] 97 (0, 0))])]) (RdL p1_1 c1_1 a1.f)) (hM : Sat w (hkeys [(0, [(m0, .cells #[.slice p0_0_0 n0_0_0 c0_0_0, .int .i64 a0_1] 97 (0, 0))])]) w [(0, [(m0, .cells #[.slice p0_0_0 n0_0_0 c0_0_0, .int .i64 a0_1] 97 (0, 0))])]) (r : T × Int) (H0 : s_l3Wrong fl a0_0 a0_1 a1 = some r) :
    Ct Tryd.prog 34 [.pointer (some ⟨m0, 0, none⟩), .agg #[.slice p1_0 n1_0 c1_0, .slice p1_1 n1_1 c1_1]] w [(0, [(m0, .cells #[.slice p0_0_0 n0_0_0 c0_0_0, .int .i64 a0_1] 97 (0, 0))])] (fun rv h' => ∃ (x1 : Option Addr) (y1 z1 : Nat) (C1 : Res) (x2 : Option Addr) (y2 z2 : Nat) (C2 : Res), rv = .agg #[.slice x1 y1 z1, .slice x2 y2 z2] ∧ h' = [(0, [(m0, .cells #[.slice p0_0_0 n0_0_0 c0_0_0, .int .i64 r.2] 97 (0, 0))]), (1, C1), (2, C2)] ∧ y1 = (r.1.b).length ∧ OwnC 3 x1 z1 r.1.b C1 ∧ y2 = (r.1.f).length ∧ OwnC 53 x2 z2 r.1.f C2) := by
  obtain rfl := hn0_0_0
  obtain rfl := hn1_0
  obtain rfl := hn1_1
  unfold s_l3Wrong at H0
  refine ct_of_cw Tryd.func34 rfl Tryd.ntmps34 rfl hM ?_
  refine cw_seq ?_
  refine cw_region ?_
  refine ow_eff .none (stpU_box 1 rfl rfl) rfl ?_
  rintro _ _ ⟨b1, rfl, rfl⟩
  refine ow_eff .none (stpU_alloc 2 tz26 rfl) rfl ?_
  rintro _ _ ⟨b2, rfl, rfl⟩
  refine ow_nil ?_
  refine kw_nx ?_
  refine cw_seq ?_
  refine cw_region ?_
  refine ow_det .none (stp_loadN (us := [_, _]) ts26 rfl (Cells.box (id := 1) rfl 2 rfl)) rfl ?_
  obtain ⟨x3, e3, H0⟩ := bind_some H0
  refine ow_eff .none (stpU_call (fun i => 3 + i) cf57 (fun w hw => c_s_l3Copy fl w a1 p1_0 ((a1.b).length) c1_0 p1_1 ((a1.f).length) c1_1 rfl (RO.pass hr1_0 hw) rfl (RO.pass hr1_1 hw) x3 e3) (sevs_cons rfl sevs_nil)) rfl ?_
  rintro _ _ ⟨_, ⟨p4, n5, c6, C7, p8, n9, c10, C11, rfl, rfl, hnn5, o7, hnn9, o11⟩, rfl⟩
  obtain rfl := hnn5
  obtain rfl := hnn9
  refine ow_eff .none (stpU_alloc 5 tz26 rfl) rfl ?_
  rintro _ _ ⟨b12, rfl, rfl⟩
  refine ow_eff0 .none (stpU_store (id := 5) (cs' := [.slice p4 ((x3.b).length) c6, .slice p8 ((x3.f).length) c10]) ts26 rfl rfl rfl rfl rfl rfl rfl) ?_
  rintro _ _ rfl
  refine ow_nil ?_
  refine kw_nx ?_
  refine cw_seq ?_
  refine cw_seq ?_
  refine cw_region ?_
  refine ow_det .none (stp_fieldAddr (j := 1) Tryd.underlying26 rfl ts24 rfl rfl rfl) rfl ?_
  refine ow_det .none (stp_load1 ts24 rfl (Cells.box (id := 5) rfl 1 rfl)) rfl ?_
  refine ow_det .none (stp_len Tryd.underlying24 rfl) rfl ?_
  refine ow_det .none (stp_eql rfl rfl) rfl ?_
  refine ow_nil ?_
  refine kw_nx ?_
  refine cw_cond rfl (fun h13 => ?_) (fun h13 => ?_)
  · have H0 := cond_t H0 h13
    refine cw_seq ?_
    refine cw_region ?_
    refine ow_det .none (stp_loadN (us := [_, _]) ts26 rfl (Cells.box (id := 5) rfl 2 rfl)) rfl ?_
    refine ow_eff0 .none (stpU_store (id := 2) (cs' := [.slice p4 ((x3.b).length) c6, .slice p8 ((x3.f).length) c10]) ts26 rfl rfl rfl rfl rfl rfl rfl) ?_
    rintro _ _ rfl
    refine ow_nil ?_
    refine kw_nx ?_
    refine cw_ret ?_
    refine kw_nx_ret ?_
    have q0 := Option.some.inj H0
    subst q0
    exact kw_ret Tryd.results34 (.cons (.cellN (us := [_, _]) ts26 rfl (Cells.box (id := 2) rfl 2 rfl)) .nil) [(0, [(m0, .cells #[.slice p0_0_0 ((a0_0).length) c0_0_0, .int .i64 a0_1] 97 (0, 0))]), (1, C7), (2, C11)] [0, 3, 4] ⟨0, [3, 4], rfl, rfl, 3, [4], rfl, rfl, 4, [], rfl, rfl, trivial⟩ (by decide) ⟨p4, ((x3.b).length), c6, C7, p8, ((x3.f).length), c10, C11, rfl, rfl, rfl, o7, rfl, o11⟩
  · have H0 := cond_f H0 h13
    refine cw_skip ?_
    refine kw_nx ?_
    refine cw_seq ?_
    refine cw_region ?_
    refine ow_det .none (stp_move rfl) rfl ?_
    refine ow_det .none (stp_fieldAddr (j := 1) Tryd.underlying26 rfl ts24 rfl rfl rfl) rfl ?_
    refine ow_det .none (stp_load1 ts24 rfl (Cells.box (id := 5) rfl 1 rfl)) rfl ?_
    refine ow_det .none (stp_len Tryd.underlying24 rfl) rfl ?_
    obtain ⟨x14, e14, H0⟩ := bind_some H0
    refine ow_eff .none (stpU_callM (fun i => bif Nat.beq i 0 then 0 else 6 + i) cf74 (fun w hw hb => c_s_l12Rd_pick fl w m0 a0_0 p0_0_0 ((a0_0).length) c0_0_0 a0_1 ((x3.f).length : Int) rfl (RO.passM hr0_0_0 hw hb) (hw.pass (js := [0]) ⟨0, [], rfl, rfl, trivial⟩ (by decide)) x14 e14) (sevs_cons rfl (sevs_cons rfl sevs_nil)) ⟨rfl, (fun _ _ hp => by obtain ⟨_, rfl⟩ := hp; exact ⟨_, rfl⟩), trivial⟩) rfl ?_
    rintro _ _ ⟨_, ⟨rfl, rfl⟩, rfl⟩
    refine ow_det .none (stp_assign rfl) rfl ?_
    refine ow_nil ?_
    refine kw_nx ?_
    refine cw_seq ?_
    refine cw_seq ?_
    refine cw_region ?_
    refine ow_det .none (stp_move rfl) rfl ?_
    obtain ⟨x15, e15, H0⟩ := bind_some H0
    refine ow_eff .none (stpU_callM (fun i => bif Nat.beq i 0 then 0 else 7 + i) cf74 (fun w hw hb => c_s_l12Rd_pick fl w m0 a0_0 p0_0_0 ((a0_0).length) c0_0_0 x14.2 24 rfl (RO.passM hr0_0_0 hw hb) (hw.pass (js := [0]) ⟨0, [], rfl, rfl, trivial⟩ (by decide)) x15 e15) (sevs_cons rfl (sevs_cons rfl sevs_nil)) ⟨rfl, (fun _ _ hp => by obtain ⟨_, rfl⟩ := hp; exact ⟨_, rfl⟩), trivial⟩) rfl ?_
    rintro _ _ ⟨_, ⟨rfl, rfl⟩, rfl⟩
    refine ow_nil ?_
    refine kw_nx ?_
    refine cw_block ?_
    refine cw_seq ?_
    refine cw_region ?_
    refine ow_det .none (stp_eql rfl rfl) rfl ?_
    refine ow_det .none (stp_assign rfl) rfl ?_
    refine ow_nil ?_
    refine kw_nx ?_
    refine cw_cond rfl (fun h16 => ?_) (fun h16 => ?_)
    · have H0 := cond_t H0 h16
      obtain ⟨x19, e19, H0⟩ := bind_some H0
      obtain ⟨x20, e20, H0⟩ := bind_some H0
      refine region_drawn { dst := fun i => match i with | 0 => some 23 | 1 => some 24 | 2 => some 25 | 3 => some 26 | 4 => some 27 | 5 => some 28 | 6 => some 29 | 7 => some 30 | 8 => some 31 | _ => none, pre := fun i => match i with | 1 => [0] | 5 => [4] | 6 => [3, 4, 5] | 7 => [0, 1, 2, 3, 4, 5, 6] | 8 => [0, 1, 2, 3, 4, 5, 6, 7] | 9 => [0, 1, 2, 3, 4, 5, 6, 7, 8] | _ => [], ids := fun i => match i with | 5 => [8] | 6 => [0] | 9 => [4] | _ => [], rs := fun i => match i with | 0 => [(5, none)] | 1 => [(23, some 0)] | 2 => [(6, none)] | 3 => [(0, none)] | 4 => [(6, none)] | 5 => [(27, some 4)] | 6 => [(26, some 3), (28, some 5)] | 7 => [(24, some 1), (25, some 2)] | 8 => [(30, some 7)] | 9 => [(31, some 8), (29, some 6)] | _ => [], rh := fun i => match i with | 1 => [(5, none)] | 6 => [(0, none), (8, some 5)] | 7 => [(4, none)] | 9 => [(4, none)] | _ => [], V := fun i g => match i with | 0 => .pointer (some ⟨b12, 1, none⟩) | 1 => .slice p8 ((x3.f).length) c10 | 2 => .int .i64 x14.1 | 3 => .pointer (some ⟨m0, 0, none⟩) | 4 => .int .i64 x14.1 | 5 => .slice ((g 5).A 0) 4 4 | 6 => .int .i64 x19.1 | 7 => .pointer (some ⟨eB p8, eO p8 + Int.toNat x14.1 * Enc.sz F + 0, none⟩) | 8 => .pointer (some ⟨eB p8, eO p8 + Int.toNat x14.1 * Enc.sz F + 4, none⟩) | _ => undef, U := fun i g => match i with | 5 => [(8, ((g 5).R 0))] | 6 => [(0, [(m0, .cells #[.slice p0_0_0 ((a0_0).length) c0_0_0, .int .i64 x19.2] 97 (0, 0))])] | 9 => [(4, ((g 9).R 0))] | _ => [], Φ := fun i x => match i with | 5 => OwnC (α := Int) 3 (x.A 0) 4 ([0, x14.1, 16, (-1)]) (x.R 0) | 9 => OwnC (α := F) 53 p8 c10 (x3.f.set (Int.toNat x14.1) (⟨x20.u, x20.k, x20.r, x19.1⟩ : F)) (x.R 0) | _ => True } g_mixed [0, 5, 6] [0, 4, 5] (by kernel_rfl) (by kernel_rfl) (by kernel_rfl) ⟨⟨⟨⟨⟨⟨⟨⟨⟨⟨trivial, fun _ => ⟨rfl, rfl⟩⟩, fun _ => ⟨rfl, rfl⟩⟩, fun _ => ⟨rfl, rfl⟩⟩, fun _ => ⟨rfl, rfl⟩⟩, fun _ => ⟨rfl, rfl⟩⟩, fun _ => ⟨rfl, rfl⟩⟩, fun _ => ⟨rfl, rfl⟩⟩, fun _ => ⟨rfl, rfl⟩⟩, fun _ => ⟨rfl, rfl⟩⟩, fun _ => ⟨rfl, rfl⟩⟩ ?_ ?_
      · refine ⟨⟨⟨⟨⟨⟨⟨⟨⟨⟨trivial, ?_⟩, ?_⟩, ?_⟩, ?_⟩, ?_⟩, ?_⟩, ?_⟩, ?_⟩, ?_⟩, ?_⟩
        · exact loc_det rfl rfl (fun _ => rfl) trivial (fun g hΦ s h hs hh => ⟨.none, (stp_fieldAddr (j := 1) Tryd.underlying26 rfl ts24 rfl (sv hs 5 rfl) rfl)⟩)
        · exact loc_det rfl rfl (fun _ => rfl) trivial (fun g hΦ s h hs hh => ⟨.none, (stp_load1 ts24 (sv hs 23 rfl) (Cells.box (id := 5) (hh.get 5 _ rfl) 1 rfl))⟩)
        · exact loc_det rfl rfl (fun _ => rfl) trivial (fun g hΦ s h hs hh => ⟨.none, (stp_move (sv hs 6 rfl))⟩)
        · exact loc_det rfl rfl (fun _ => rfl) trivial (fun g hΦ s h hs hh => ⟨.none, (stp_move (sv hs 0 rfl))⟩)
        · exact loc_det rfl rfl (fun _ => rfl) trivial (fun g hΦ s h hs hh => ⟨.none, (stp_move (sv hs 6 rfl))⟩)
        · refine loc_eff rfl rfl (fun g hΦ s h hs hh => ⟨.none, (stpU_lit (sz := 1) (l := [0, x14.1, 16, (-1)]) [.int .i64 0, .int .i64 x14.1, .int .i64 16, .int .i64 (-1)] sl23 8 (sevp_cons rfl (sevp_cons (sv hs 27 rfl) (sevp_cons rfl (sevp_cons rfl sevp_nil)))) rfl rfl rfl rfl rfl rfl rfl rfl rfl)⟩) ?_
          rintro g _ _ ⟨p17, C18, rfl, rfl, o18⟩
          exact ⟨⟨[p17], [], [C18]⟩, o18, .inr rfl, rfl⟩
        · refine loc_eff rfl rfl (fun g hΦ s h hs hh => ⟨.none, (stpU_callM (fun i => bif Nat.beq i 0 then 0 else 9 + i) cf37 (fun w hw hb => c_s_l12Rd_num fl w m0 a0_0 p0_0_0 ((a0_0).length) c0_0_0 x15.2 ([0, x14.1, 16, (-1)]) ((g 5).A 0) 4 4 rfl (RO.passM hr0_0_0 hw hb) (by simp) (OwnC.passM (id := 8) (hh.get 8 _ rfl) (hΦ 5 rfl) hw hb ⟨rfl, trivial⟩) (hw.pass (js := [0]) ⟨0, [], rfl, (hh.get 0 _ rfl), trivial⟩ (by decide)) x19 e19) (sevs_cons (sv hs 26 rfl) (sevs_cons (sv hs 28 rfl) sevs_nil)) ⟨(hh.get 0 _ rfl), (fun _ _ hp => by obtain ⟨_, rfl⟩ := hp; exact ⟨_, rfl⟩), trivial⟩)⟩) ?_
          rintro g _ _ ⟨_, ⟨rfl, rfl⟩, rfl⟩
          exact ⟨⟨[], [], []⟩, trivial, .inr rfl, rfl⟩
        · exact loc_det rfl rfl (fun _ => rfl) trivial (fun g hΦ s h hs hh => ⟨.none, (stp_indexAddr Tryd.underlying24 ts53 (by decide) (sv hs 24 rfl) rfl (sv hs 25 rfl) (Rdb.own (id := 4) (hh.get 4 _ rfl) o11) e20)⟩)
        · exact loc_det rfl rfl (fun _ => rfl) trivial (fun g hΦ s h hs hh => ⟨.none, (stp_fieldAddr (j := 4) Tryd.underlying53 rfl ts3 rfl (sv hs 30 rfl) rfl)⟩)
        · refine loc_eff rfl rfl (fun g hΦ s h hs hh => ⟨.none, (stpU_storeEl (id := 4) (i := 4) (⟨x20.u, x20.k, x20.r, x19.1⟩ : F) (by decide) ts3 (sv hs 31 rfl) (sv hs 29 rfl) (hh.get 4 _ rfl) o11 e20 rfl rfl rfl rfl)⟩) ?_
          rintro g _ _ ⟨C21, rfl, o21⟩
          exact ⟨⟨[], [], [C21]⟩, o21, .inl rfl, rfl⟩
      · intro g hΦ
        refine kw_gen (ι := Option Addr × Res × Res) (((g 5).A 0), ((g 5).R 0), ((g 9).R 0)) (fun | (p17, C18, C21) => OwnC (α := Int) 3 p17 4 ([0, x14.1, 16, (-1)]) C18 ∧ OwnC (α := F) 53 p8 c10 (x3.f.set (Int.toNat x14.1) (⟨x20.u, x20.k, x20.r, x19.1⟩ : F)) C21) (fun | (p17, C18, C21) => [(4, .pointer (some ⟨b2, 0, none⟩)), (5, .pointer (some ⟨b12, 0, none⟩))]) (fun | (p17, C18, C21) => [(0, [(m0, .cells #[.slice p0_0_0 ((a0_0).length) c0_0_0, .int .i64 x19.2] 97 (0, 0))]), (2, [(b2, .cells #[.slice none 0 0, .slice none 0 0] 26 (0, 0))]), (3, C7), (4, C21), (5, [(b12, .cells #[.slice p4 ((x3.b).length) c6, .slice p8 ((x3.f).length) c10] 26 (0, 0))])]) ⟨(hΦ 5 (by decide)), (hΦ 9 (by decide))⟩ ⟨rfl, rfl, trivial⟩ ⟨rfl, rfl, rfl, rfl, rfl, trivial⟩ ?_
        rintro ⟨p17, C18, C21⟩ ⟨o18, o21⟩
        refine KW.sub (s' := [(4, .pointer (some ⟨b2, 0, none⟩)), (5, .pointer (some ⟨b12, 0, none⟩))]) (h' := [(0, [(m0, .cells #[.slice p0_0_0 ((a0_0).length) c0_0_0, .int .i64 x19.2] 97 (0, 0))]), (2, [(b2, .cells #[.slice none 0 0, .slice none 0 0] 26 (0, 0))]), (3, C7), (4, C21), (5, [(b12, .cells #[.slice p4 ((x3.b).length) c6, .slice p8 ((x3.f).length) c10] 26 (0, 0))])]) ?_ ⟨rfl, rfl, trivial⟩ ⟨rfl, rfl, rfl, rfl, rfl, trivial⟩
        refine kw_bl_normal ?_
        refine kw_nx ?_
        refine cw_seq ?_
        refine cw_region ?_
        refine ow_det .none (stp_loadN (us := [_, _]) ts26 rfl (Cells.box (id := 5) rfl 2 rfl)) rfl ?_
        refine ow_eff0 .none (stpU_store (id := 2) (cs' := [.slice p4 ((x3.b).length) c6, .slice p8 ((x3.f).length) c10]) ts26 rfl rfl rfl rfl rfl rfl rfl) ?_
        rintro _ _ rfl
        refine ow_nil ?_
        refine kw_nx ?_
        refine cw_ret ?_
        have q0 := Option.some.inj H0
        subst q0
        exact kw_ret Tryd.results34 (.cons (.cellN (us := [_, _]) ts26 rfl (Cells.box (id := 2) rfl 2 rfl)) .nil) [(0, [(m0, .cells #[.slice p0_0_0 ((a0_0).length) c0_0_0, .int .i64 x19.2] 97 (0, 0))]), (1, C7), (2, C21)] [0, 3, 4] ⟨0, [3, 4], rfl, rfl, 3, [4], rfl, rfl, 4, [], rfl, rfl, trivial⟩ (by decide) ⟨p4, ((x3.b).length), c6, C7, p8, ((x3.f).length), c10, C21, rfl, rfl, rfl, o7, (by simp), o21⟩
    · have H0 := cond_f H0 h16
      refine cw_seq ?_
      refine cw_region ?_
      refine ow_det .none (stp_eql rfl rfl) rfl ?_
      refine ow_det .none (stp_assign rfl) rfl ?_
      refine ow_nil ?_
      refine kw_nx ?_
      refine cw_cond rfl (fun h22 => ?_) (fun h22 => ?_)
      · have H0 := cond_t H0 h22
        obtain ⟨x23, e23, H0⟩ := bind_some H0
        refine region_drawn { dst := fun i => match i with | 0 => some 34 | 1 => some 35 | 2 => some 36 | 3 => some 37 | 4 => some 38 | 5 => some 39 | 6 => some 40 | 7 => some 41 | 8 => some 42 | 9 => some 43 | 10 => some 44 | 11 => some 45 | _ => none, pre := fun i => match i with | 1 => [0] | 4 => [3] | 6 => [3, 4, 5] | 7 => [3, 4, 5, 6] | 8 => [3, 4, 5, 6, 7] | 9 => [3, 4, 5, 6, 7, 8] | 10 => [0, 1, 2, 3, 4, 5, 6, 7, 8, 9] | 11 => [0, 1, 2, 3, 4, 5, 6, 7, 8, 9, 10] | 12 => [0, 1, 2, 3, 4, 5, 6, 7, 8, 9, 10, 11] | _ => [], ids := fun i => match i with | 12 => [4] | _ => [], rs := fun i => match i with | 0 => [(5, none)] | 1 => [(34, some 0)] | 2 => [(6, none)] | 3 => [(5, none)] | 4 => [(37, some 3)] | 5 => [(6, none)] | 6 => [(38, some 4), (39, some 5)] | 7 => [(40, some 6)] | 8 => [(41, some 7)] | 9 => [(42, some 8)] | 10 => [(35, some 1), (36, some 2)] | 11 => [(44, some 10)] | 12 => [(45, some 11), (43, some 9)] | _ => [], rh := fun i => match i with | 1 => [(5, none)] | 4 => [(5, none)] | 6 => [(4, none)] | 8 => [(4, none)] | 10 => [(4, none)] | 12 => [(4, none)] | _ => [], V := fun i g => match i with | 0 => .pointer (some ⟨b12, 1, none⟩) | 1 => .slice p8 ((x3.f).length) c10 | 2 => .int .i64 x14.1 | 3 => .pointer (some ⟨b12, 1, none⟩) | 4 => .slice p8 ((x3.f).length) c10 | 5 => .int .i64 x14.1 | 6 => .pointer (some ⟨eB p8, eO p8 + Int.toNat x14.1 * Enc.sz F + 0, none⟩) | 7 => .pointer (some ⟨eB p8, eO p8 + Int.toNat x14.1 * Enc.sz F + 0, none⟩) | 8 => .bool x23.u | 9 => .bool (!x23.u) | 10 => .pointer (some ⟨eB p8, eO p8 + Int.toNat x14.1 * Enc.sz F + 0, none⟩) | 11 => .pointer (some ⟨eB p8, eO p8 + Int.toNat x14.1 * Enc.sz F + 0, none⟩) | _ => undef, U := fun i g => match i with | 12 => [(4, ((g 12).R 0))] | _ => [], Φ := fun i x => match i with | 12 => OwnC (α := F) 53 p8 c10 (x3.f.set (Int.toNat x14.1) (⟨(!x23.u), x23.k, x23.r, x23.nx⟩ : F)) (x.R 0) | _ => True } g_mixed [5, 6] [4, 5] (by kernel_rfl) (by kernel_rfl) (by kernel_rfl) ⟨⟨⟨⟨⟨⟨⟨⟨⟨⟨⟨⟨⟨trivial, fun _ => ⟨rfl, rfl⟩⟩, fun _ => ⟨rfl, rfl⟩⟩, fun _ => ⟨rfl, rfl⟩⟩, fun _ => ⟨rfl, rfl⟩⟩, fun _ => ⟨rfl, rfl⟩⟩, fun _ => ⟨rfl, rfl⟩⟩, fun _ => ⟨rfl, rfl⟩⟩, fun _ => ⟨rfl, rfl⟩⟩, fun _ => ⟨rfl, rfl⟩⟩, fun _ => ⟨rfl, rfl⟩⟩, fun _ => ⟨rfl, rfl⟩⟩, fun _ => ⟨rfl, rfl⟩⟩, fun _ => ⟨rfl, rfl⟩⟩ ?_ ?_
        · refine ⟨⟨⟨⟨⟨⟨⟨⟨⟨⟨⟨⟨⟨trivial, ?_⟩, ?_⟩, ?_⟩, ?_⟩, ?_⟩, ?_⟩, ?_⟩, ?_⟩, ?_⟩, ?_⟩, ?_⟩, ?_⟩, ?_⟩
          · exact loc_det rfl rfl (fun _ => rfl) trivial (fun g hΦ s h hs hh => ⟨.none, (stp_fieldAddr (j := 1) Tryd.underlying26 rfl ts24 rfl (sv hs 5 rfl) rfl)⟩)
          · exact loc_det rfl rfl (fun _ => rfl) trivial (fun g hΦ s h hs hh => ⟨.none, (stp_load1 ts24 (sv hs 34 rfl) (Cells.box (id := 5) (hh.get 5 _ rfl) 1 rfl))⟩)
          · exact loc_det rfl rfl (fun _ => rfl) trivial (fun g hΦ s h hs hh => ⟨.none, (stp_move (sv hs 6 rfl))⟩)
          · exact loc_det rfl rfl (fun _ => rfl) trivial (fun g hΦ s h hs hh => ⟨.none, (stp_fieldAddr (j := 1) Tryd.underlying26 rfl ts24 rfl (sv hs 5 rfl) rfl)⟩)
          · exact loc_det rfl rfl (fun _ => rfl) trivial (fun g hΦ s h hs hh => ⟨.none, (stp_load1 ts24 (sv hs 37 rfl) (Cells.box (id := 5) (hh.get 5 _ rfl) 1 rfl))⟩)
          · exact loc_det rfl rfl (fun _ => rfl) trivial (fun g hΦ s h hs hh => ⟨.none, (stp_move (sv hs 6 rfl))⟩)
          · exact loc_det rfl rfl (fun _ => rfl) trivial (fun g hΦ s h hs hh => ⟨.none, (stp_indexAddr Tryd.underlying24 ts53 (by decide) (sv hs 38 rfl) rfl (sv hs 39 rfl) (Rdb.own (id := 4) (hh.get 4 _ rfl) o11) e23)⟩)
          · exact loc_det rfl rfl (fun _ => rfl) trivial (fun g hΦ s h hs hh => ⟨.none, (stp_fieldAddr (j := 0) Tryd.underlying53 rfl ts4 rfl (sv hs 40 rfl) rfl)⟩)
          · exact loc_det rfl rfl (fun _ => rfl) trivial (fun g hΦ s h hs hh => ⟨.none, (stp_load1 ts4 (sv hs 41 rfl) (Cells.el (Rdb.own (id := 4) (hh.get 4 _ rfl) o11) (by decide) e23 0 1 rfl))⟩)
          · exact loc_det rfl rfl (fun _ => rfl) trivial (fun g hΦ s h hs hh => ⟨.none, (stp_not (sv hs 42 rfl))⟩)
          · exact loc_det rfl rfl (fun _ => rfl) trivial (fun g hΦ s h hs hh => ⟨.none, (stp_indexAddr Tryd.underlying24 ts53 (by decide) (sv hs 35 rfl) rfl (sv hs 36 rfl) (Rdb.own (id := 4) (hh.get 4 _ rfl) o11) e23)⟩)
          · exact loc_det rfl rfl (fun _ => rfl) trivial (fun g hΦ s h hs hh => ⟨.none, (stp_fieldAddr (j := 0) Tryd.underlying53 rfl ts4 rfl (sv hs 44 rfl) rfl)⟩)
          · refine loc_eff rfl rfl (fun g hΦ s h hs hh => ⟨.none, (stpU_storeEl (id := 4) (i := 0) (⟨(!x23.u), x23.k, x23.r, x23.nx⟩ : F) (by decide) ts4 (sv hs 45 rfl) (sv hs 43 rfl) (hh.get 4 _ rfl) o11 e23 rfl rfl rfl rfl)⟩) ?_
            rintro g _ _ ⟨C24, rfl, o24⟩
            exact ⟨⟨[], [], [C24]⟩, o24, .inl rfl, rfl⟩
        · intro g hΦ
          refine kw_gen (ι := Res) ((g 12).R 0) (fun | C24 => OwnC (α := F) 53 p8 c10 (x3.f.set (Int.toNat x14.1) (⟨(!x23.u), x23.k, x23.r, x23.nx⟩ : F)) C24) (fun | C24 => [(4, .pointer (some ⟨b2, 0, none⟩)), (5, .pointer (some ⟨b12, 0, none⟩))]) (fun | C24 => [(0, [(m0, .cells #[.slice p0_0_0 ((a0_0).length) c0_0_0, .int .i64 x15.2] 97 (0, 0))]), (2, [(b2, .cells #[.slice none 0 0, .slice none 0 0] 26 (0, 0))]), (3, C7), (4, C24), (5, [(b12, .cells #[.slice p4 ((x3.b).length) c6, .slice p8 ((x3.f).length) c10] 26 (0, 0))])]) (hΦ 12 (by decide)) ⟨rfl, rfl, trivial⟩ ⟨rfl, rfl, rfl, rfl, rfl, trivial⟩ ?_
          rintro C24 o24
          have o24 : OwnC (α := F) 53 p8 c10 (x3.f.set (Int.toNat x14.1) (⟨(!x23.u), x23.k, x23.r, x23.nx⟩ : F)) C24 := o24
          refine KW.sub (s' := [(4, .pointer (some ⟨b2, 0, none⟩)), (5, .pointer (some ⟨b12, 0, none⟩))]) (h' := [(0, [(m0, .cells #[.slice p0_0_0 ((a0_0).length) c0_0_0, .int .i64 x15.2] 97 (0, 0))]), (2, [(b2, .cells #[.slice none 0 0, .slice none 0 0] 26 (0, 0))]), (3, C7), (4, C24), (5, [(b12, .cells #[.slice p4 ((x3.b).length) c6, .slice p8 ((x3.f).length) c10] 26 (0, 0))])]) ?_ ⟨rfl, rfl, trivial⟩ ⟨rfl, rfl, rfl, rfl, rfl, trivial⟩
          refine kw_bl_normal ?_
          refine kw_nx ?_
          refine cw_seq ?_
          refine cw_region ?_
          refine ow_det .none (stp_loadN (us := [_, _]) ts26 rfl (Cells.box (id := 5) rfl 2 rfl)) rfl ?_
          refine ow_eff0 .none (stpU_store (id := 2) (cs' := [.slice p4 ((x3.b).length) c6, .slice p8 ((x3.f).length) c10]) ts26 rfl rfl rfl rfl rfl rfl rfl) ?_
          rintro _ _ rfl
          refine ow_nil ?_
          refine kw_nx ?_
          refine cw_ret ?_
          have q0 := Option.some.inj H0
          subst q0
          exact kw_ret Tryd.results34 (.cons (.cellN (us := [_, _]) ts26 rfl (Cells.box (id := 2) rfl 2 rfl)) .nil) [(0, [(m0, .cells #[.slice p0_0_0 ((a0_0).length) c0_0_0, .int .i64 x15.2] 97 (0, 0))]), (1, C7), (2, C24)] [0, 3, 4] ⟨0, [3, 4], rfl, rfl, 3, [4], rfl, rfl, 4, [], rfl, rfl, trivial⟩ (by decide) ⟨p4, ((x3.b).length), c6, C7, p8, ((x3.f).length), c10, C24, rfl, rfl, rfl, o7, (by simp), o24⟩
      · have H0 := cond_f H0 h22
        refine cw_seq ?_
        refine cw_region ?_
        refine ow_det .none (stp_eql rfl rfl) rfl ?_
        refine ow_det .none (stp_assign rfl) rfl ?_
        refine ow_nil ?_
        refine kw_nx ?_
        refine cw_cond rfl (fun h25 => ?_) (fun h25 => ?_)
        · have H0 := cond_t H0 h25
          obtain ⟨x28, e28, H0⟩ := bind_some H0
          obtain ⟨x29, e29, H0⟩ := bind_some H0
          refine region_drawn { dst := fun i => match i with | 0 => some 48 | 1 => some 49 | 2 => some 50 | 3 => some 51 | 4 => some 52 | 5 => some 53 | _ => none, pre := fun i => match i with | 1 => [0] | 4 => [2, 3] | 5 => [0, 1, 2, 3, 4] | 6 => [0, 1, 2, 3, 4, 5] | _ => [], ids := fun i => match i with | 3 => [10] | 4 => [0] | 6 => [3] | _ => [], rs := fun i => match i with | 0 => [(5, none)] | 1 => [(48, some 0)] | 2 => [(0, none)] | 4 => [(50, some 2), (51, some 3)] | 5 => [(49, some 1)] | 6 => [(53, some 5), (52, some 4)] | _ => [], rh := fun i => match i with | 1 => [(5, none)] | 4 => [(0, none), (10, some 3)] | 5 => [(3, none)] | 6 => [(3, none)] | _ => [], V := fun i g => match i with | 0 => .pointer (some ⟨b12, 0, none⟩) | 1 => .slice p4 ((x3.b).length) c6 | 2 => .pointer (some ⟨m0, 0, none⟩) | 3 => .slice ((g 3).A 0) 4 4 | 4 => .int .i64 x28.1 | 5 => .pointer (some ⟨eB p4, eO p4 + Int.toNat 0 * Enc.sz Int + 0, none⟩) | _ => undef, U := fun i g => match i with | 3 => [(10, ((g 3).R 0))] | 4 => [(0, [(m0, .cells #[.slice p0_0_0 ((a0_0).length) c0_0_0, .int .i64 x28.2] 97 (0, 0))])] | 6 => [(3, ((g 6).R 0))] | _ => [], Φ := fun i x => match i with | 3 => OwnC (α := Int) 3 (x.A 0) 4 ([0, (-1), 16, (-2)]) (x.R 0) | 6 => OwnC (α := Int) 3 p4 c6 (x3.b.set (Int.toNat 0) x28.1) (x.R 0) | _ => True } g_mixed [0, 5] [0, 3, 5] (by kernel_rfl) (by kernel_rfl) (by kernel_rfl) ⟨⟨⟨⟨⟨⟨⟨trivial, fun _ => ⟨rfl, rfl⟩⟩, fun _ => ⟨rfl, rfl⟩⟩, fun _ => ⟨rfl, rfl⟩⟩, fun _ => ⟨rfl, rfl⟩⟩, fun _ => ⟨rfl, rfl⟩⟩, fun _ => ⟨rfl, rfl⟩⟩, fun _ => ⟨rfl, rfl⟩⟩ ?_ ?_
          · refine ⟨⟨⟨⟨⟨⟨⟨trivial, ?_⟩, ?_⟩, ?_⟩, ?_⟩, ?_⟩, ?_⟩, ?_⟩
            · exact loc_det rfl rfl (fun _ => rfl) trivial (fun g hΦ s h hs hh => ⟨.none, (stp_fieldAddr (j := 0) Tryd.underlying26 rfl ts23 rfl (sv hs 5 rfl) rfl)⟩)
            · exact loc_det rfl rfl (fun _ => rfl) trivial (fun g hΦ s h hs hh => ⟨.none, (stp_load1 ts23 (sv hs 48 rfl) (Cells.box (id := 5) (hh.get 5 _ rfl) 1 rfl))⟩)
            · exact loc_det rfl rfl (fun _ => rfl) trivial (fun g hΦ s h hs hh => ⟨.none, (stp_move (sv hs 0 rfl))⟩)
            · refine loc_eff rfl rfl (fun g hΦ s h hs hh => ⟨.none, (stpU_lit (sz := 1) (l := [0, (-1), 16, (-2)]) [.int .i64 0, .int .i64 (-1), .int .i64 16, .int .i64 (-2)] sl23 10 (sevp_cons rfl (sevp_cons rfl (sevp_cons rfl (sevp_cons rfl sevp_nil)))) rfl rfl rfl rfl rfl rfl rfl rfl rfl)⟩) ?_
              rintro g _ _ ⟨p26, C27, rfl, rfl, o27⟩
              exact ⟨⟨[p26], [], [C27]⟩, o27, .inr rfl, rfl⟩
            · refine loc_eff rfl rfl (fun g hΦ s h hs hh => ⟨.none, (stpU_callM (fun i => bif Nat.beq i 0 then 0 else 11 + i) cf37 (fun w hw hb => c_s_l12Rd_num fl w m0 a0_0 p0_0_0 ((a0_0).length) c0_0_0 x15.2 ([0, (-1), 16, (-2)]) ((g 3).A 0) 4 4 rfl (RO.passM hr0_0_0 hw hb) (by simp) (OwnC.passM (id := 10) (hh.get 10 _ rfl) (hΦ 3 rfl) hw hb ⟨rfl, trivial⟩) (hw.pass (js := [0]) ⟨0, [], rfl, (hh.get 0 _ rfl), trivial⟩ (by decide)) x28 e28) (sevs_cons (sv hs 50 rfl) (sevs_cons (sv hs 51 rfl) sevs_nil)) ⟨(hh.get 0 _ rfl), (fun _ _ hp => by obtain ⟨_, rfl⟩ := hp; exact ⟨_, rfl⟩), trivial⟩)⟩) ?_
              rintro g _ _ ⟨_, ⟨rfl, rfl⟩, rfl⟩
              exact ⟨⟨[], [], []⟩, trivial, .inr rfl, rfl⟩
            · exact loc_det rfl rfl (fun _ => rfl) trivial (fun g hΦ s h hs hh => ⟨.none, (stp_indexAddr Tryd.underlying23 ts3 (by decide) (sv hs 49 rfl) rfl rfl (Rdb.own (id := 3) (hh.get 3 _ rfl) o7) e29)⟩)
            · refine loc_eff rfl rfl (fun g hΦ s h hs hh => ⟨.none, (stpU_storeEl (id := 3) (i := 0) x28.1 (by decide) ts3 (sv hs 53 rfl) (sv hs 52 rfl) (hh.get 3 _ rfl) o7 e29 rfl rfl rfl rfl)⟩) ?_
              rintro g _ _ ⟨C30, rfl, o30⟩
              exact ⟨⟨[], [], [C30]⟩, o30, .inl rfl, rfl⟩
          · intro g hΦ
            refine kw_gen (ι := Option Addr × Res × Res) (((g 3).A 0), ((g 3).R 0), ((g 6).R 0)) (fun | (p26, C27, C30) => OwnC (α := Int) 3 p26 4 ([0, (-1), 16, (-2)]) C27 ∧ OwnC (α := Int) 3 p4 c6 (x3.b.set (Int.toNat 0) x28.1) C30) (fun | (p26, C27, C30) => [(4, .pointer (some ⟨b2, 0, none⟩)), (5, .pointer (some ⟨b12, 0, none⟩))]) (fun | (p26, C27, C30) => [(0, [(m0, .cells #[.slice p0_0_0 ((a0_0).length) c0_0_0, .int .i64 x28.2] 97 (0, 0))]), (2, [(b2, .cells #[.slice none 0 0, .slice none 0 0] 26 (0, 0))]), (3, C30), (4, C11), (5, [(b12, .cells #[.slice p4 ((x3.b).length) c6, .slice p8 ((x3.f).length) c10] 26 (0, 0))])]) ⟨(hΦ 3 (by decide)), (hΦ 6 (by decide))⟩ ⟨rfl, rfl, trivial⟩ ⟨rfl, rfl, rfl, rfl, rfl, trivial⟩ ?_
            rintro ⟨p26, C27, C30⟩ ⟨o27, o30⟩
            refine KW.sub (s' := [(4, .pointer (some ⟨b2, 0, none⟩)), (5, .pointer (some ⟨b12, 0, none⟩))]) (h' := [(0, [(m0, .cells #[.slice p0_0_0 ((a0_0).length) c0_0_0, .int .i64 x28.2] 97 (0, 0))]), (2, [(b2, .cells #[.slice none 0 0, .slice none 0 0] 26 (0, 0))]), (3, C30), (4, C11), (5, [(b12, .cells #[.slice p4 ((x3.b).length) c6, .slice p8 ((x3.f).length) c10] 26 (0, 0))])]) ?_ ⟨rfl, rfl, trivial⟩ ⟨rfl, rfl, rfl, rfl, rfl, trivial⟩
            refine kw_bl_normal ?_
            refine kw_nx ?_
            refine cw_seq ?_
            refine cw_region ?_
            refine ow_det .none (stp_loadN (us := [_, _]) ts26 rfl (Cells.box (id := 5) rfl 2 rfl)) rfl ?_
            refine ow_eff0 .none (stpU_store (id := 2) (cs' := [.slice p4 ((x3.b).length) c6, .slice p8 ((x3.f).length) c10]) ts26 rfl rfl rfl rfl rfl rfl rfl) ?_
            rintro _ _ rfl
            refine ow_nil ?_
            refine kw_nx ?_
            refine cw_ret ?_
            have q0 := Option.some.inj H0
            subst q0
            exact kw_ret Tryd.results34 (.cons (.cellN (us := [_, _]) ts26 rfl (Cells.box (id := 2) rfl 2 rfl)) .nil) [(0, [(m0, .cells #[.slice p0_0_0 ((a0_0).length) c0_0_0, .int .i64 x28.2] 97 (0, 0))]), (1, C30), (2, C11)] [0, 3, 4] ⟨0, [3, 4], rfl, rfl, 3, [4], rfl, rfl, 4, [], rfl, rfl, trivial⟩ (by decide) ⟨p4, ((x3.b).length), c6, C30, p8, ((x3.f).length), c10, C11, rfl, rfl, (by simp), o30, rfl, o11⟩
        · have H0 := cond_f H0 h25
          refine cw_seq ?_
          refine cw_region ?_
          refine ow_det .none (stp_eql rfl rfl) rfl ?_
          refine ow_det .none (stp_assign rfl) rfl ?_
          refine ow_nil ?_
          refine kw_nx ?_
          refine cw_cond rfl (fun h31 => ?_) (fun h31 => ?_)
          · have H0 := cond_t H0 h31
            obtain ⟨x32, e32, H0⟩ := bind_some H0
            obtain ⟨x33, e33, H0⟩ := bind_some H0
            refine region_drawn { dst := fun i => match i with | 0 => some 56 | 1 => some 57 | 2 => some 58 | 3 => some 59 | 4 => some 60 | 5 => some 61 | 6 => some 62 | _ => none, pre := fun i => match i with | 1 => [0] | 4 => [3] | 5 => [0, 1, 2, 3, 4] | 6 => [0, 1, 2, 3, 4, 5] | 7 => [0, 1, 2, 3, 4, 5, 6] | _ => [], ids := fun i => match i with | 4 => [0] | 7 => [4] | _ => [], rs := fun i => match i with | 0 => [(5, none)] | 1 => [(56, some 0)] | 2 => [(6, none)] | 3 => [(0, none)] | 4 => [(59, some 3)] | 5 => [(57, some 1), (58, some 2)] | 6 => [(61, some 5)] | 7 => [(62, some 6), (60, some 4)] | _ => [], rh := fun i => match i with | 1 => [(5, none)] | 4 => [(0, none)] | 5 => [(4, none)] | 7 => [(4, none)] | _ => [], V := fun i g => match i with | 0 => .pointer (some ⟨b12, 1, none⟩) | 1 => .slice p8 ((x3.f).length) c10 | 2 => .int .i64 x14.1 | 3 => .pointer (some ⟨m0, 0, none⟩) | 4 => .agg #[.int .i64 x32.1.s, .int .i64 x32.1.p] | 5 => .pointer (some ⟨eB p8, eO p8 + Int.toNat x14.1 * Enc.sz F + 0, none⟩) | 6 => .pointer (some ⟨eB p8, eO p8 + Int.toNat x14.1 * Enc.sz F + 1, none⟩) | _ => undef, U := fun i g => match i with | 4 => [(0, [(m0, .cells #[.slice p0_0_0 ((a0_0).length) c0_0_0, .int .i64 x32.2] 97 (0, 0))])] | 7 => [(4, ((g 7).R 0))] | _ => [], Φ := fun i x => match i with | 7 => OwnC (α := F) 53 p8 c10 (x3.f.set (Int.toNat x14.1) (⟨x33.u, x32.1, x33.r, x33.nx⟩ : F)) (x.R 0) | _ => True } g_mixed [0, 5, 6] [0, 4, 5] (by kernel_rfl) (by kernel_rfl) (by kernel_rfl) ⟨⟨⟨⟨⟨⟨⟨⟨trivial, fun _ => ⟨rfl, rfl⟩⟩, fun _ => ⟨rfl, rfl⟩⟩, fun _ => ⟨rfl, rfl⟩⟩, fun _ => ⟨rfl, rfl⟩⟩, fun _ => ⟨rfl, rfl⟩⟩, fun _ => ⟨rfl, rfl⟩⟩, fun _ => ⟨rfl, rfl⟩⟩, fun _ => ⟨rfl, rfl⟩⟩ ?_ ?_
            · refine ⟨⟨⟨⟨⟨⟨⟨⟨trivial, ?_⟩, ?_⟩, ?_⟩, ?_⟩, ?_⟩, ?_⟩, ?_⟩, ?_⟩
              · exact loc_det rfl rfl (fun _ => rfl) trivial (fun g hΦ s h hs hh => ⟨.none, (stp_fieldAddr (j := 1) Tryd.underlying26 rfl ts24 rfl (sv hs 5 rfl) rfl)⟩)
              · exact loc_det rfl rfl (fun _ => rfl) trivial (fun g hΦ s h hs hh => ⟨.none, (stp_load1 ts24 (sv hs 56 rfl) (Cells.box (id := 5) (hh.get 5 _ rfl) 1 rfl))⟩)
              · exact loc_det rfl rfl (fun _ => rfl) trivial (fun g hΦ s h hs hh => ⟨.none, (stp_move (sv hs 6 rfl))⟩)
              · exact loc_det rfl rfl (fun _ => rfl) trivial (fun g hΦ s h hs hh => ⟨.none, (stp_move (sv hs 0 rfl))⟩)
              · refine loc_eff rfl rfl (fun g hΦ s h hs hh => ⟨.none, (stpU_callM (fun i => bif Nat.beq i 0 then 0 else 12 + i) cf75 (fun w hw hb => c_s_l2Draw fl w m0 a0_0 p0_0_0 ((a0_0).length) c0_0_0 x15.2 rfl (RO.passM hr0_0_0 hw hb) (hw.pass (js := [0]) ⟨0, [], rfl, (hh.get 0 _ rfl), trivial⟩ (by decide)) x32 e32) (sevs_cons (sv hs 59 rfl) sevs_nil) ⟨(hh.get 0 _ rfl), (fun _ _ hp => by obtain ⟨_, rfl⟩ := hp; exact ⟨_, rfl⟩), trivial⟩)⟩) ?_
                rintro g _ _ ⟨_, ⟨rfl, rfl⟩, rfl⟩
                exact ⟨⟨[], [], []⟩, trivial, .inr rfl, rfl⟩
              · exact loc_det rfl rfl (fun _ => rfl) trivial (fun g hΦ s h hs hh => ⟨.none, (stp_indexAddr Tryd.underlying24 ts53 (by decide) (sv hs 57 rfl) rfl (sv hs 58 rfl) (Rdb.own (id := 4) (hh.get 4 _ rfl) o11) e33)⟩)
              · exact loc_det rfl rfl (fun _ => rfl) trivial (fun g hΦ s h hs hh => ⟨.none, (stp_fieldAddr (j := 1) Tryd.underlying53 rfl ts28 rfl (sv hs 61 rfl) rfl)⟩)
              · refine loc_eff rfl rfl (fun g hΦ s h hs hh => ⟨.none, (stpU_storeEl (id := 4) (i := 1) (⟨x33.u, x32.1, x33.r, x33.nx⟩ : F) (by decide) ts28 (sv hs 62 rfl) (sv hs 60 rfl) (hh.get 4 _ rfl) o11 e33 rfl rfl rfl rfl)⟩) ?_
                rintro g _ _ ⟨C34, rfl, o34⟩
                exact ⟨⟨[], [], [C34]⟩, o34, .inl rfl, rfl⟩
            · intro g hΦ
              refine kw_gen (ι := Res) ((g 7).R 0) (fun | C34 => OwnC (α := F) 53 p8 c10 (x3.f.set (Int.toNat x14.1) (⟨x33.u, x32.1, x33.r, x33.nx⟩ : F)) C34) (fun | C34 => [(4, .pointer (some ⟨b2, 0, none⟩)), (5, .pointer (some ⟨b12, 0, none⟩))]) (fun | C34 => [(0, [(m0, .cells #[.slice p0_0_0 ((a0_0).length) c0_0_0, .int .i64 x32.2] 97 (0, 0))]), (2, [(b2, .cells #[.slice none 0 0, .slice none 0 0] 26 (0, 0))]), (3, C7), (4, C34), (5, [(b12, .cells #[.slice p4 ((x3.b).length) c6, .slice p8 ((x3.f).length) c10] 26 (0, 0))])]) (hΦ 7 (by decide)) ⟨rfl, rfl, trivial⟩ ⟨rfl, rfl, rfl, rfl, rfl, trivial⟩ ?_
              rintro C34 o34
              have o34 : OwnC (α := F) 53 p8 c10 (x3.f.set (Int.toNat x14.1) (⟨x33.u, x32.1, x33.r, x33.nx⟩ : F)) C34 := o34
              refine KW.sub (s' := [(4, .pointer (some ⟨b2, 0, none⟩)), (5, .pointer (some ⟨b12, 0, none⟩))]) (h' := [(0, [(m0, .cells #[.slice p0_0_0 ((a0_0).length) c0_0_0, .int .i64 x32.2] 97 (0, 0))]), (2, [(b2, .cells #[.slice none 0 0, .slice none 0 0] 26 (0, 0))]), (3, C7), (4, C34), (5, [(b12, .cells #[.slice p4 ((x3.b).length) c6, .slice p8 ((x3.f).length) c10] 26 (0, 0))])]) ?_ ⟨rfl, rfl, trivial⟩ ⟨rfl, rfl, rfl, rfl, rfl, trivial⟩
              refine kw_bl_normal ?_
              refine kw_nx ?_
              refine cw_seq ?_
              refine cw_region ?_
              refine ow_det .none (stp_loadN (us := [_, _]) ts26 rfl (Cells.box (id := 5) rfl 2 rfl)) rfl ?_
              refine ow_eff0 .none (stpU_store (id := 2) (cs' := [.slice p4 ((x3.b).length) c6, .slice p8 ((x3.f).length) c10]) ts26 rfl rfl rfl rfl rfl rfl rfl) ?_
              rintro _ _ rfl
              refine ow_nil ?_
              refine kw_nx ?_
              refine cw_ret ?_
              have q0 := Option.some.inj H0
              subst q0
              exact kw_ret Tryd.results34 (.cons (.cellN (us := [_, _]) ts26 rfl (Cells.box (id := 2) rfl 2 rfl)) .nil) [(0, [(m0, .cells #[.slice p0_0_0 ((a0_0).length) c0_0_0, .int .i64 x32.2] 97 (0, 0))]), (1, C7), (2, C34)] [0, 3, 4] ⟨0, [3, 4], rfl, rfl, 3, [4], rfl, rfl, 4, [], rfl, rfl, trivial⟩ (by decide) ⟨p4, ((x3.b).length), c6, C7, p8, ((x3.f).length), c10, C34, rfl, rfl, rfl, o7, (by simp), o34⟩
          · have H0 := cond_f H0 h31
            refine cw_seq ?_
            refine cw_region ?_
            refine ow_det .none (stp_eql rfl rfl) rfl ?_
            refine ow_det .none (stp_assign rfl) rfl ?_
            refine ow_nil ?_
            refine kw_nx ?_
            refine cw_cond rfl (fun h35 => ?_) (fun h35 => ?_)
            · have H0 := cond_t H0 h35
              refine cw_region ?_
              refine ow_det .none (stp_fieldAddr (j := 0) Tryd.underlying26 rfl ts23 rfl rfl rfl) rfl ?_
              refine ow_det .none (stp_load1 ts23 rfl (Cells.box (id := 5) rfl 1 rfl)) rfl ?_
              refine ow_eff .none (stpU_lit (sz := 1) (l := [(-1)]) [.int .i64 (-1)] sl23 13 (sevp_cons rfl sevp_nil) rfl rfl rfl rfl rfl rfl rfl rfl rfl) rfl ?_
              rintro _ _ ⟨p36, C37, rfl, rfl, o37⟩
              obtain ⟨x38, e38, H0⟩ := bind_some H0
              refine ow_eff .none (stpU_append sl23 rfl (id := 3) rfl rfl rfl (by simp) rfl o7 (Rdb.own (id := 13) rfl o37) e38) rfl ?_
              rintro _ _ ⟨p39, c40, C41, rfl, rfl, o41⟩
              refine ow_det .none (stp_fieldAddr (j := 0) Tryd.underlying26 rfl ts23 rfl rfl rfl) rfl ?_
              refine ow_eff0 .none (stpU_store (id := 5) (cs' := [.slice p39 ((x38).length) c40, .slice p8 ((x3.f).length) c10]) ts23 rfl rfl rfl rfl rfl rfl rfl) ?_
              rintro _ _ rfl
              refine ow_nil ?_
              refine kw_bl_normal ?_
              refine kw_nx ?_
              refine cw_seq ?_
              refine cw_region ?_
              refine ow_det .none (stp_loadN (us := [_, _]) ts26 rfl (Cells.box (id := 5) rfl 2 rfl)) rfl ?_
              refine ow_eff0 .none (stpU_store (id := 2) (cs' := [.slice p39 ((x38).length) c40, .slice p8 ((x3.f).length) c10]) ts26 rfl rfl rfl rfl rfl rfl rfl) ?_
              rintro _ _ rfl
              refine ow_nil ?_
              refine kw_nx ?_
              refine cw_ret ?_
              have q0 := Option.some.inj H0
              subst q0
              exact kw_ret Tryd.results34 (.cons (.cellN (us := [_, _]) ts26 rfl (Cells.box (id := 2) rfl 2 rfl)) .nil) [(0, [(m0, .cells #[.slice p0_0_0 ((a0_0).length) c0_0_0, .int .i64 x15.2] 97 (0, 0))]), (1, C41), (2, C11)] [0, 3, 4] ⟨0, [3, 4], rfl, rfl, 3, [4], rfl, rfl, 4, [], rfl, rfl, trivial⟩ (by decide) ⟨p39, ((x38).length), c40, C41, p8, ((x3.f).length), c10, C11, rfl, rfl, rfl, o41, rfl, o11⟩
            · have H0 := cond_f H0 h35
              refine cw_seq ?_
              refine cw_region ?_
              refine ow_det .none (stp_eql rfl rfl) rfl ?_
              refine ow_det .none (stp_assign rfl) rfl ?_
              refine ow_nil ?_
              refine kw_nx ?_
              refine cw_cond rfl (fun h42 => ?_) (fun h42 => ?_)
              · have H0 := cond_t H0 h42
                refine cw_region ?_
                refine ow_eff .none (stpU_lit0 sl24 14) rfl ?_
                rintro _ _ ⟨p43, C44, rfl, rfl, o44⟩
                refine ow_det .none (stp_fieldAddr (j := 1) Tryd.underlying26 rfl ts24 rfl rfl rfl) rfl ?_
                refine ow_eff0 .none (stpU_store (id := 5) (cs' := [.slice p4 ((x3.b).length) c6, .slice p43 0 0]) ts24 rfl rfl rfl rfl rfl rfl rfl) ?_
                rintro _ _ rfl
                refine ow_nil ?_
                refine kw_bl_normal ?_
                refine kw_nx ?_
                refine cw_seq ?_
                refine cw_region ?_
                refine ow_det .none (stp_loadN (us := [_, _]) ts26 rfl (Cells.box (id := 5) rfl 2 rfl)) rfl ?_
                refine ow_eff0 .none (stpU_store (id := 2) (cs' := [.slice p4 ((x3.b).length) c6, .slice p43 0 0]) ts26 rfl rfl rfl rfl rfl rfl rfl) ?_
                rintro _ _ rfl
                refine ow_nil ?_
                refine kw_nx ?_
                refine cw_ret ?_
                have q0 := Option.some.inj H0
                subst q0
                exact kw_ret Tryd.results34 (.cons (.cellN (us := [_, _]) ts26 rfl (Cells.box (id := 2) rfl 2 rfl)) .nil) [(0, [(m0, .cells #[.slice p0_0_0 ((a0_0).length) c0_0_0, .int .i64 x15.2] 97 (0, 0))]), (1, C7), (2, C44)] [0, 3, 14] ⟨0, [3, 14], rfl, rfl, 3, [14], rfl, rfl, 14, [], rfl, rfl, trivial⟩ (by decide) ⟨p4, ((x3.b).length), c6, C7, p43, 0, 0, C44, rfl, rfl, rfl, o7, (by simp), o44⟩
              · have H0 := cond_f H0 h42
                refine cw_skip ?_
                refine kw_bl_normal ?_
                refine kw_nx ?_
                refine cw_seq ?_
                refine cw_region ?_
                refine ow_det .none (stp_loadN (us := [_, _]) ts26 rfl (Cells.box (id := 5) rfl 2 rfl)) rfl ?_
                refine ow_eff0 .none (stpU_store (id := 2) (cs' := [.slice p4 ((x3.b).length) c6, .slice p8 ((x3.f).length) c10]) ts26 rfl rfl rfl rfl rfl rfl rfl) ?_
                rintro _ _ rfl
                refine ow_nil ?_
                refine kw_nx ?_
                refine cw_ret ?_
                have q0 := Option.some.inj H0
                subst q0
                exact kw_ret Tryd.results34 (.cons (.cellN (us := [_, _]) ts26 rfl (Cells.box (id := 2) rfl 2 rfl)) .nil) [(0, [(m0, .cells #[.slice p0_0_0 ((a0_0).length) c0_0_0, .int .i64 x15.2] 97 (0, 0))]), (1, C7), (2, C11)] [0, 3, 4] ⟨0, [3, 4], rfl, rfl, 3, [4], rfl, rfl, 4, [], rfl, rfl, trivial⟩ (by decide) ⟨p4, ((x3.b).length), c6, C7, p8, ((x3.f).length), c10, C11, rfl, rfl, rfl, o7, rfl, o11⟩

set_option maxHeartbeats 4000000 in
set_option maxRecDepth 20000 in
theorem c_s_l2Case (fl : Nat) (w : World) (m0 : Nat) (a0_0 : (List UInt8)) (p0_0_0 : Option Addr) (n0_0_0 c0_0_0 : Nat) (a0_1 : Int) (hn0_0_0 : n0_0_0 = (a0_0).length) (hr0_0_0 : RO w (hkeys [(0, [(m0, .cells #[.slice p0_0_0 n0_0_0 c0_0_0, .int .i64 a0_1] 97 (0, 0))])]) (RdL p0_0_0 c0_0_0 a0_0)) (hM : Sat w (hkeys [(0, [(m0, .cells #[.slice p0_0_0 n0_0_0 c0_0_0, .int .i64 a0_1] 97 (0, 0))])]) w [(0, [(m0, .cells #[.slice p0_0_0 n0_0_0 c0_0_0, .int .i64 a0_1] 97 (0, 0))])]) (r : K × Int) (H0 : s_l2Case fl a0_0 a0_1 = some r) :
    Ct Tryd.prog 36 [.pointer (some ⟨m0, 0, none⟩)] w [(0, [(m0, .cells #[.slice p0_0_0 n0_0_0 c0_0_0, .int .i64 a0_1] 97 (0, 0))])] (fun rv h' => rv = .agg #[.int .i64 r.1.s, .int .i64 r.1.p] ∧ h' = [(0, [(m0, .cells #[.slice p0_0_0 n0_0_0 c0_0_0, .int .i64 r.2] 97 (0, 0))])]) := by
  obtain rfl := hn0_0_0
  unfold s_l2Case at H0
  refine ct_of_cw Tryd.func36 rfl Tryd.ntmps36 rfl hM ?_
  refine cw_seq ?_
  refine cw_region ?_
  refine ow_eff .none (stpU_alloc 1 tz28 rfl) rfl ?_
  rintro _ _ ⟨b1, rfl, rfl⟩
  refine ow_nil ?_
  refine kw_nx ?_
  refine cw_seq ?_
  refine cw_region ?_
  refine ow_det .none (stp_move rfl) rfl ?_
  obtain ⟨x2, e2, H0⟩ := bind_some H0
  refine ow_eff .none (stpU_callM (fun i => bif Nat.beq i 0 then 0 else 2 + i) cf75 (fun w hw hb => c_s_l2Draw fl w m0 a0_0 p0_0_0 ((a0_0).length) c0_0_0 a0_1 rfl (RO.passM hr0_0_0 hw hb) (hw.pass (js := [0]) ⟨0, [], rfl, rfl, trivial⟩ (by decide)) x2 e2) (sevs_cons rfl sevs_nil) ⟨rfl, (fun _ _ hp => by obtain ⟨_, rfl⟩ := hp; exact ⟨_, rfl⟩), trivial⟩) rfl ?_
  rintro _ _ ⟨_, ⟨rfl, rfl⟩, rfl⟩
  refine ow_eff .none (stpU_alloc 3 tz28 rfl) rfl ?_
  rintro _ _ ⟨b3, rfl, rfl⟩
  refine ow_eff0 .none (stpU_store (id := 3) (cs' := [.int .i64 x2.1.s, .int .i64 x2.1.p]) ts28 rfl rfl rfl rfl rfl rfl rfl) ?_
  rintro _ _ rfl
  refine ow_nil ?_
  refine kw_nx ?_
  refine cw_seq ?_
  refine cw_seq ?_
  refine cw_region ?_
  refine ow_det .none (stp_move rfl) rfl ?_
  obtain ⟨x4, e4, H0⟩ := bind_some H0
  refine ow_eff .none (stpU_callM (fun i => bif Nat.beq i 0 then 0 else 4 + i) cf74 (fun w hw hb => c_s_l12Rd_pick fl w m0 a0_0 p0_0_0 ((a0_0).length) c0_0_0 x2.2 24 rfl (RO.passM hr0_0_0 hw hb) (hw.pass (js := [0]) ⟨0, [], rfl, rfl, trivial⟩ (by decide)) x4 e4) (sevs_cons rfl (sevs_cons rfl sevs_nil)) ⟨rfl, (fun _ _ hp => by obtain ⟨_, rfl⟩ := hp; exact ⟨_, rfl⟩), trivial⟩) rfl ?_
  rintro _ _ ⟨_, ⟨rfl, rfl⟩, rfl⟩
  refine ow_nil ?_
  refine kw_nx ?_
  refine cw_block ?_
  refine cw_seq ?_
  refine cw_region ?_
  refine ow_det .none (stp_eql rfl rfl) rfl ?_
  refine ow_det .none (stp_assign rfl) rfl ?_
  refine ow_nil ?_
  refine kw_nx ?_
  refine cw_cond rfl (fun h5 => ?_) (fun h5 => ?_)
  · have H0 := cond_t H0 h5
    refine cw_region ?_
    refine ow_det .none (stp_move rfl) rfl ?_
    refine ow_eff .none (stpU_lit (sz := 1) (l := [(-1), 16]) [.int .i64 (-1), .int .i64 16] sl23 5 (sevp_cons rfl (sevp_cons rfl sevp_nil)) rfl rfl rfl rfl rfl rfl rfl rfl rfl) rfl ?_
    rintro _ _ ⟨p6, C7, rfl, rfl, o7⟩
    obtain ⟨x8, e8, H0⟩ := bind_some H0
    refine ow_eff .none (stpU_callM (fun i => bif Nat.beq i 0 then 0 else 6 + i) cf37 (fun w hw hb => c_s_l12Rd_num fl w m0 a0_0 p0_0_0 ((a0_0).length) c0_0_0 x4.2 ([(-1), 16]) p6 2 2 rfl (RO.passM hr0_0_0 hw hb) (by simp) (OwnC.passM (id := 5) rfl o7 hw hb ⟨rfl, trivial⟩) (hw.pass (js := [0]) ⟨0, [], rfl, rfl, trivial⟩ (by decide)) x8 e8) (sevs_cons rfl (sevs_cons rfl sevs_nil)) ⟨rfl, (fun _ _ hp => by obtain ⟨_, rfl⟩ := hp; exact ⟨_, rfl⟩), trivial⟩) rfl ?_
    rintro _ _ ⟨_, ⟨rfl, rfl⟩, rfl⟩
    refine ow_det .none (stp_fieldAddr (j := 0) Tryd.underlying28 rfl ts3 rfl rfl rfl) rfl ?_
    refine ow_eff0 .none (stpU_store (id := 3) (cs' := [.int .i64 x8.1, .int .i64 x2.1.p]) ts3 rfl rfl rfl rfl rfl rfl rfl) ?_
    rintro _ _ rfl
    refine ow_nil ?_
    refine kw_bl_normal ?_
    refine kw_nx ?_
    refine cw_seq ?_
    refine cw_region ?_
    refine ow_det .none (stp_loadN (us := [_, _]) ts28 rfl (Cells.box (id := 3) rfl 2 rfl)) rfl ?_
    refine ow_eff0 .none (stpU_store (id := 1) (cs' := [.int .i64 x8.1, .int .i64 x2.1.p]) ts28 rfl rfl rfl rfl rfl rfl rfl) ?_
    rintro _ _ rfl
    refine ow_nil ?_
    refine kw_nx ?_
    refine cw_ret ?_
    have q0 := Option.some.inj H0
    subst q0
    exact kw_ret Tryd.results36 (.cons (.cellN (us := [_, _]) ts28 rfl (Cells.box (id := 1) rfl 2 rfl)) .nil) [(0, [(m0, .cells #[.slice p0_0_0 ((a0_0).length) c0_0_0, .int .i64 x8.2] 97 (0, 0))])] [0] ⟨0, [], rfl, rfl, trivial⟩ (by decide) ⟨rfl, rfl⟩
  · have H0 := cond_f H0 h5
    refine cw_seq ?_
    refine cw_region ?_
    refine ow_det .none (stp_eql rfl rfl) rfl ?_
    refine ow_det .none (stp_assign rfl) rfl ?_
    refine ow_nil ?_
    refine kw_nx ?_
    refine cw_cond rfl (fun h9 => ?_) (fun h9 => ?_)
    · have H0 := cond_t H0 h9
      refine cw_region ?_
      refine ow_det .none (stp_move rfl) rfl ?_
      refine ow_eff .none (stpU_lit (sz := 1) (l := [(-1), 256]) [.int .i64 (-1), .int .i64 256] sl23 7 (sevp_cons rfl (sevp_cons rfl sevp_nil)) rfl rfl rfl rfl rfl rfl rfl rfl rfl) rfl ?_
      rintro _ _ ⟨p10, C11, rfl, rfl, o11⟩
      obtain ⟨x12, e12, H0⟩ := bind_some H0
      refine ow_eff .none (stpU_callM (fun i => bif Nat.beq i 0 then 0 else 8 + i) cf37 (fun w hw hb => c_s_l12Rd_num fl w m0 a0_0 p0_0_0 ((a0_0).length) c0_0_0 x4.2 ([(-1), 256]) p10 2 2 rfl (RO.passM hr0_0_0 hw hb) (by simp) (OwnC.passM (id := 7) rfl o11 hw hb ⟨rfl, trivial⟩) (hw.pass (js := [0]) ⟨0, [], rfl, rfl, trivial⟩ (by decide)) x12 e12) (sevs_cons rfl (sevs_cons rfl sevs_nil)) ⟨rfl, (fun _ _ hp => by obtain ⟨_, rfl⟩ := hp; exact ⟨_, rfl⟩), trivial⟩) rfl ?_
      rintro _ _ ⟨_, ⟨rfl, rfl⟩, rfl⟩
      refine ow_det .none (stp_fieldAddr (j := 1) Tryd.underlying28 rfl ts3 rfl rfl rfl) rfl ?_
      refine ow_eff0 .none (stpU_store (id := 3) (cs' := [.int .i64 x2.1.s, .int .i64 x12.1]) ts3 rfl rfl rfl rfl rfl rfl rfl) ?_
      rintro _ _ rfl
      refine ow_nil ?_
      refine kw_bl_normal ?_
      refine kw_nx ?_
      refine cw_seq ?_
      refine cw_region ?_
      refine ow_det .none (stp_loadN (us := [_, _]) ts28 rfl (Cells.box (id := 3) rfl 2 rfl)) rfl ?_
      refine ow_eff0 .none (stpU_store (id := 1) (cs' := [.int .i64 x2.1.s, .int .i64 x12.1]) ts28 rfl rfl rfl rfl rfl rfl rfl) ?_
      rintro _ _ rfl
      refine ow_nil ?_
      refine kw_nx ?_
      refine cw_ret ?_
      have q0 := Option.some.inj H0
      subst q0
      exact kw_ret Tryd.results36 (.cons (.cellN (us := [_, _]) ts28 rfl (Cells.box (id := 1) rfl 2 rfl)) .nil) [(0, [(m0, .cells #[.slice p0_0_0 ((a0_0).length) c0_0_0, .int .i64 x12.2] 97 (0, 0))])] [0] ⟨0, [], rfl, rfl, trivial⟩ (by decide) ⟨rfl, rfl⟩
    · have H0 := cond_f H0 h9
      refine cw_skip ?_
      refine kw_bl_normal ?_
      refine kw_nx ?_
      refine cw_seq ?_
      refine cw_region ?_
      refine ow_det .none (stp_loadN (us := [_, _]) ts28 rfl (Cells.box (id := 3) rfl 2 rfl)) rfl ?_
      refine ow_eff0 .none (stpU_store (id := 1) (cs' := [.int .i64 x2.1.s, .int .i64 x2.1.p]) ts28 rfl rfl rfl rfl rfl rfl rfl) ?_
      rintro _ _ rfl
      refine ow_nil ?_
      refine kw_nx ?_
      refine cw_ret ?_
      have q0 := Option.some.inj H0
      subst q0
      exact kw_ret Tryd.results36 (.cons (.cellN (us := [_, _]) ts28 rfl (Cells.box (id := 1) rfl 2 rfl)) .nil) [(0, [(m0, .cells #[.slice p0_0_0 ((a0_0).length) c0_0_0, .int .i64 x4.2] 97 (0, 0))])] [0] ⟨0, [], rfl, rfl, trivial⟩ (by decide) ⟨rfl, rfl⟩

set_option maxHeartbeats 4000000 in
set_option maxRecDepth 20000 in
theorem c_slices_Equal_Int (fl : Nat) (w : World) (a0 : (List Int)) (p0_0 : Option Addr) (n0_0 c0_0 : Nat) (a1 : (List Int)) (p1_0 : Option Addr) (n1_0 c1_0 : Nat) (hn0_0 : n0_0 = (a0).length) (hr0_0 : RO w (hkeys []) (RdL p0_0 c0_0 a0)) (hn1_0 : n1_0 = (a1).length) (hr1_0 : RO w (hkeys []) (RdL p1_0 c1_0 a1)) (r : Bool) (H0 : slices_Equal_Int fl a0 a1 = some r) :
    Ct Tryd.prog 49 [.slice p0_0 n0_0 c0_0, .slice p1_0 n1_0 c1_0] w [] (fun rv h' => rv = .bool r ∧ h' = []) := by
  obtain rfl := hn0_0
  obtain rfl := hn1_0
  unfold slices_Equal_Int at H0
  refine ct_of_cw Tryd.func49 rfl Tryd.ntmps49 rfl (Sat.refl _ _) ?_
  refine cw_seq ?_
  refine cw_region ?_
  refine ow_det .none (stp_assign rfl) rfl ?_
  refine ow_nil ?_
  refine kw_nx ?_
  refine cw_seq ?_
  refine cw_seq ?_
  refine cw_region ?_
  refine ow_det .none (stp_move rfl) rfl ?_
  refine ow_det .none (stp_len Tryd.underlying23 rfl) rfl ?_
  refine ow_det .none (stp_move rfl) rfl ?_
  refine ow_det .none (stp_len Tryd.underlying23 rfl) rfl ?_
  refine ow_det .none (stp_neq rfl rfl) rfl ?_
  refine ow_nil ?_
  refine kw_nx ?_
  refine cw_cond rfl (fun h1 => ?_) (fun h1 => ?_)
  · have H0 := cond_t H0 h1
    refine cw_seq ?_
    refine cw_region ?_
    refine ow_det .none (stp_assign rfl) rfl ?_
    refine ow_nil ?_
    refine kw_nx ?_
    refine cw_ret ?_
    refine kw_nx_ret ?_
    have q0 := Option.some.inj H0
    subst q0
    exact kw_ret Tryd.results49 (.cons (.tmp rfl) .nil) [] [] trivial (by decide) ⟨rfl, rfl⟩
  · have H0 := cond_f H0 h1
    refine cw_skip ?_
    refine kw_nx ?_
    refine cw_seq ?_
    refine cw_seq ?_
    refine cw_region ?_
    refine ow_det .none (stp_move rfl) rfl ?_
    refine ow_det .none (stp_len Tryd.underlying23 rfl) rfl ?_
    refine ow_det .none (stp_move rfl) rfl ?_
    refine ow_nil ?_
    refine kw_nx ?_
    obtain ⟨o0_0, eo0_0, H0⟩ := bind_some H0
    refine cw_join (ι := Int) (fun | v2 => o0_0 = .out v2) (fun | v2 => [(0, .slice p0_0 ((a0).length) c0_0), (1, .slice p1_0 ((a1).length) c1_0), (12, .int .i64 ((a0).length : Int)), (13, .int .i64 v2)]) (fun | v2 => []) ?_ ?_
    · refine cw_block ?_
      refine cw_loopS (ι := Nat × Int) (js := []) (fun x => x.1) (fun | (fuel, v2) => slices_Equal_Int_L0 fl a0 a1 fuel v2 = some o0_0) (fun | (_, v2) => [(0, .slice p0_0 ((a0).length) c0_0), (1, .slice p1_0 ((a1).length) c1_0), (12, .int .i64 ((a0).length : Int)), (13, .int .i64 v2)]) (fun | (_, v2) => []) (fl, 0) eo0_0 ⟨rfl, rfl, rfl, rfl, trivial⟩ trivial (by decide) ?_
      rintro ⟨fuel, v2⟩ H1
      have H1 : slices_Equal_Int_L0 fl a0 a1 fuel v2 = some o0_0 := H1
      rcases fuel with _ | fuel
      · rw [slices_Equal_Int_L0.eq_1] at H1; cases H1
      rw [slices_Equal_Int_L0.eq_2] at H1
      refine CW.sub (s' := [(0, .slice p0_0 ((a0).length) c0_0), (1, .slice p1_0 ((a1).length) c1_0), (12, .int .i64 ((a0).length : Int)), (13, .int .i64 v2)]) (h' := []) ?_ ⟨rfl, rfl, rfl, rfl, trivial⟩ trivial
      refine cw_seq ?_
      refine cw_region ?_
      refine ow_det .none (stp_lss rfl rfl) rfl ?_
      refine ow_nil ?_
      refine kw_nx ?_
      refine cw_seq ?_
      refine cw_cond rfl (fun h3 => ?_) (fun h3 => ?_)
      · have H1 := cond_t H1 h3
        refine cw_skip ?_
        refine kw_nx ?_
        refine cw_seq ?_
        refine cw_block ?_
        refine cw_seq ?_
        refine cw_region ?_
        refine ow_det .none (stp_move rfl) rfl ?_
        refine ow_det .none (stp_assign rfl) rfl ?_
        refine ow_nil ?_
        refine kw_nx ?_
        refine cw_seq ?_
        obtain ⟨x4, e4, H1⟩ := bind_some H1
        obtain ⟨x5, e5, H1⟩ := bind_some H1
        refine region_drawn { dst := fun i => match i with | 0 => some 16 | 1 => some 17 | 2 => some 18 | 3 => some 19 | 4 => some 20 | 5 => some 21 | 6 => some 22 | 7 => some 23 | 8 => some 24 | _ => none, pre := fun i => match i with | 2 => [0, 1] | 3 => [0, 1, 2] | 6 => [4, 5] | 7 => [4, 5, 6] | 8 => [0, 1, 2, 3, 4, 5, 6, 7] | _ => [], ids := fun i => match i with | _ => [], rs := fun i => match i with | 0 => [(0, none)] | 1 => [(5, none)] | 2 => [(16, some 0), (17, some 1)] | 3 => [(18, some 2)] | 4 => [(1, none)] | 5 => [(5, none)] | 6 => [(20, some 4), (21, some 5)] | 7 => [(22, some 6)] | 8 => [(19, some 3), (23, some 7)] | _ => [], rh := fun i => match i with | _ => [], V := fun i g => match i with | 0 => .slice p0_0 ((a0).length) c0_0 | 1 => .int .i64 v2 | 2 => .pointer (some ⟨eB p0_0, eO p0_0 + Int.toNat v2 * Enc.sz Int + 0, none⟩) | 3 => .int .i64 x4 | 4 => .slice p1_0 ((a1).length) c1_0 | 5 => .int .i64 v2 | 6 => .pointer (some ⟨eB p1_0, eO p1_0 + Int.toNat v2 * Enc.sz Int + 0, none⟩) | 7 => .int .i64 x5 | 8 => .bool (x4 != x5) | _ => undef, U := fun i g => match i with | _ => [], Φ := fun i x => match i with | _ => True } g_mixed [0, 1, 5] [] (by kernel_rfl) (by kernel_rfl) (by kernel_rfl) ⟨⟨⟨⟨⟨⟨⟨⟨⟨trivial, fun _ => ⟨rfl, rfl⟩⟩, fun _ => ⟨rfl, rfl⟩⟩, fun _ => ⟨rfl, rfl⟩⟩, fun _ => ⟨rfl, rfl⟩⟩, fun _ => ⟨rfl, rfl⟩⟩, fun _ => ⟨rfl, rfl⟩⟩, fun _ => ⟨rfl, rfl⟩⟩, fun _ => ⟨rfl, rfl⟩⟩, fun _ => ⟨rfl, rfl⟩⟩ ?_ ?_
        · refine ⟨⟨⟨⟨⟨⟨⟨⟨⟨trivial, ?_⟩, ?_⟩, ?_⟩, ?_⟩, ?_⟩, ?_⟩, ?_⟩, ?_⟩, ?_⟩
          · exact loc_det rfl rfl (fun _ => rfl) trivial (fun g hΦ s h hs hh => ⟨.none, (stp_move (sv hs 0 rfl))⟩)
          · exact loc_det rfl rfl (fun _ => rfl) trivial (fun g hΦ s h hs hh => ⟨.none, (stp_move (sv hs 5 rfl))⟩)
          · exact loc_det rfl rfl (fun _ => rfl) trivial (fun g hΦ s h hs hh => ⟨.none, (stp_indexAddr Tryd.underlying23 ts3 (by decide) (sv hs 16 rfl) rfl (sv hs 17 rfl) (Rdb.ro hr0_0) e4)⟩)
          · exact loc_det rfl rfl (fun _ => rfl) trivial (fun g hΦ s h hs hh => ⟨.none, (stp_load1 ts3 (sv hs 18 rfl) (Cells.el (Rdb.ro hr0_0) (by decide) e4 0 1 rfl))⟩)
          · exact loc_det rfl rfl (fun _ => rfl) trivial (fun g hΦ s h hs hh => ⟨.none, (stp_move (sv hs 1 rfl))⟩)
          · exact loc_det rfl rfl (fun _ => rfl) trivial (fun g hΦ s h hs hh => ⟨.none, (stp_move (sv hs 5 rfl))⟩)
          · exact loc_det rfl rfl (fun _ => rfl) trivial (fun g hΦ s h hs hh => ⟨.none, (stp_indexAddr Tryd.underlying23 ts3 (by decide) (sv hs 20 rfl) rfl (sv hs 21 rfl) (Rdb.ro hr1_0) e5)⟩)
          · exact loc_det rfl rfl (fun _ => rfl) trivial (fun g hΦ s h hs hh => ⟨.none, (stp_load1 ts3 (sv hs 22 rfl) (Cells.el (Rdb.ro hr1_0) (by decide) e5 0 1 rfl))⟩)
          · exact loc_det rfl rfl (fun _ => rfl) trivial (fun g hΦ s h hs hh => ⟨.none, (stp_neq (sv hs 19 rfl) (sv hs 23 rfl))⟩)
        · intro g hΦ
          refine KW.sub (s' := [(0, .slice p0_0 ((a0).length) c0_0), (1, .slice p1_0 ((a1).length) c1_0), (12, .int .i64 ((a0).length : Int)), (13, .int .i64 v2), (24, .bool (x4 != x5))]) (h' := []) ?_ ⟨rfl, rfl, rfl, rfl, rfl, trivial⟩ trivial
          refine kw_nx ?_
          refine cw_cond rfl (fun h6 => ?_) (fun h6 => ?_)
          · have H1 := cond_t H1 h6
            refine cw_seq ?_
            refine cw_region ?_
            refine ow_det .none (stp_assign rfl) rfl ?_
            refine ow_nil ?_
            refine kw_nx ?_
            refine cw_ret ?_
            refine kw_bl_ret ?_
            refine kw_nx_ret ?_
            refine kw_lq_ret ?_
            refine kw_bl_ret ?_
            refine kw_join_ret ?_
            refine kw_nx_ret ?_
            have q1 := Option.some.inj H1
            subst q1
            have q0 := Option.some.inj H0
            subst q0
            exact kw_ret Tryd.results49 (.cons (.tmp rfl) .nil) [] [] trivial (by decide) ⟨rfl, rfl⟩
          · have H1 := cond_f H1 h6
            refine cw_skip ?_
            refine kw_bl_normal ?_
            refine kw_nx ?_
            refine cw_region ?_
            obtain ⟨x7, e7, H1⟩ := bind_some H1
            refine ow_det .none (stp_add rfl rfl e7) rfl ?_
            refine ow_det .none (stp_move rfl) rfl ?_
            refine ow_nil ?_
            exact kw_lqS (js := []) (fuel, x7) H1 (Nat.lt_succ_self _) ⟨rfl, rfl, rfl, rfl, trivial⟩ trivial (by decide)
      · have H1 := cond_f H1 h3
        refine cw_exit ?_
        refine kw_nx_exit ?_
        refine kw_lq_exit ?_
        refine kw_bl ?_
        have q1 := Option.some.inj H1
        subst q1
        exact kw_joinS (js := []) v2 rfl ⟨rfl, rfl, rfl, rfl, trivial⟩ trivial (by decide)
    · rintro v2 rfl
      refine KW.sub (s' := [(0, .slice p0_0 ((a0).length) c0_0), (1, .slice p1_0 ((a1).length) c1_0), (12, .int .i64 ((a0).length : Int)), (13, .int .i64 v2)]) (h' := []) ?_ ⟨rfl, rfl, rfl, rfl, trivial⟩ trivial
      refine kw_nx ?_
      refine cw_seq ?_
      refine cw_region ?_
      refine ow_det .none (stp_assign rfl) rfl ?_
      refine ow_nil ?_
      refine kw_nx ?_
      refine cw_ret ?_
      have q0 := Option.some.inj H0
      subst q0
      exact kw_ret Tryd.results49 (.cons (.tmp rfl) .nil) [] [] trivial (by decide) ⟨rfl, rfl⟩

set_option maxHeartbeats 4000000 in
set_option maxRecDepth 20000 in
theorem c_slices_Equal_Frame (fl : Nat) (w : World) (a0 : (List F)) (p0_0 : Option Addr) (n0_0 c0_0 : Nat) (a1 : (List F)) (p1_0 : Option Addr) (n1_0 c1_0 : Nat) (hn0_0 : n0_0 = (a0).length) (hr0_0 : RO w (hkeys []) (RdL p0_0 c0_0 a0)) (hn1_0 : n1_0 = (a1).length) (hr1_0 : RO w (hkeys []) (RdL p1_0 c1_0 a1)) (r : Bool) (H0 : slices_Equal_Frame fl a0 a1 = some r) :
    Ct Tryd.prog 50 [.slice p0_0 n0_0 c0_0, .slice p1_0 n1_0 c1_0] w [] (fun rv h' => rv = .bool r ∧ h' = []) := by
  obtain rfl := hn0_0
  obtain rfl := hn1_0
  unfold slices_Equal_Frame at H0
  refine ct_of_cw Tryd.func50 rfl Tryd.ntmps50 rfl (Sat.refl _ _) ?_
  refine cw_seq ?_
  refine cw_region ?_
  refine ow_det .none (stp_assign rfl) rfl ?_
  refine ow_nil ?_
  refine kw_nx ?_
  refine cw_seq ?_
  refine cw_seq ?_
  refine cw_region ?_
  refine ow_det .none (stp_move rfl) rfl ?_
  refine ow_det .none (stp_len Tryd.underlying24 rfl) rfl ?_
  refine ow_det .none (stp_move rfl) rfl ?_
  refine ow_det .none (stp_len Tryd.underlying24 rfl) rfl ?_
  refine ow_det .none (stp_neq rfl rfl) rfl ?_
  refine ow_nil ?_
  refine kw_nx ?_
  refine cw_cond rfl (fun h1 => ?_) (fun h1 => ?_)
  · have H0 := cond_t H0 h1
    refine cw_seq ?_
    refine cw_region ?_
    refine ow_det .none (stp_assign rfl) rfl ?_
    refine ow_nil ?_
    refine kw_nx ?_
    refine cw_ret ?_
    refine kw_nx_ret ?_
    have q0 := Option.some.inj H0
    subst q0
    exact kw_ret Tryd.results50 (.cons (.tmp rfl) .nil) [] [] trivial (by decide) ⟨rfl, rfl⟩
  · have H0 := cond_f H0 h1
    refine cw_skip ?_
    refine kw_nx ?_
    refine cw_seq ?_
    refine cw_seq ?_
    refine cw_region ?_
    refine ow_det .none (stp_move rfl) rfl ?_
    refine ow_det .none (stp_len Tryd.underlying24 rfl) rfl ?_
    refine ow_det .none (stp_move rfl) rfl ?_
    refine ow_nil ?_
    refine kw_nx ?_
    obtain ⟨o0_0, eo0_0, H0⟩ := bind_some H0
    refine cw_join (ι := Int) (fun | v2 => o0_0 = .out v2) (fun | v2 => [(0, .slice p0_0 ((a0).length) c0_0), (1, .slice p1_0 ((a1).length) c1_0), (12, .int .i64 ((a0).length : Int)), (13, .int .i64 v2)]) (fun | v2 => []) ?_ ?_
    · refine cw_block ?_
      refine cw_loopS (ι := Nat × Int) (js := []) (fun x => x.1) (fun | (fuel, v2) => slices_Equal_Frame_L0 fl a0 a1 fuel v2 = some o0_0) (fun | (_, v2) => [(0, .slice p0_0 ((a0).length) c0_0), (1, .slice p1_0 ((a1).length) c1_0), (12, .int .i64 ((a0).length : Int)), (13, .int .i64 v2)]) (fun | (_, v2) => []) (fl, 0) eo0_0 ⟨rfl, rfl, rfl, rfl, trivial⟩ trivial (by decide) ?_
      rintro ⟨fuel, v2⟩ H1
      have H1 : slices_Equal_Frame_L0 fl a0 a1 fuel v2 = some o0_0 := H1
      rcases fuel with _ | fuel
      · rw [slices_Equal_Frame_L0.eq_1] at H1; cases H1
      rw [slices_Equal_Frame_L0.eq_2] at H1
      refine CW.sub (s' := [(0, .slice p0_0 ((a0).length) c0_0), (1, .slice p1_0 ((a1).length) c1_0), (12, .int .i64 ((a0).length : Int)), (13, .int .i64 v2)]) (h' := []) ?_ ⟨rfl, rfl, rfl, rfl, trivial⟩ trivial
      refine cw_seq ?_
      refine cw_region ?_
      refine ow_det .none (stp_lss rfl rfl) rfl ?_
      refine ow_nil ?_
      refine kw_nx ?_
      refine cw_seq ?_
      refine cw_cond rfl (fun h3 => ?_) (fun h3 => ?_)
      · have H1 := cond_t H1 h3
        refine cw_skip ?_
        refine kw_nx ?_
        refine cw_seq ?_
        refine cw_block ?_
        refine cw_seq ?_
        refine cw_region ?_
        refine ow_det .none (stp_move rfl) rfl ?_
        refine ow_det .none (stp_assign rfl) rfl ?_
        refine ow_nil ?_
        refine kw_nx ?_
        refine cw_seq ?_
        obtain ⟨x4, e4, H1⟩ := bind_some H1
        obtain ⟨x5, e5, H1⟩ := bind_some H1
        refine region_drawn { dst := fun i => match i with | 0 => some 16 | 1 => some 17 | 2 => some 18 | 3 => some 19 | 4 => some 20 | 5 => some 21 | 6 => some 22 | 7 => some 23 | 8 => some 24 | _ => none, pre := fun i => match i with | 2 => [0, 1] | 3 => [0, 1, 2] | 6 => [4, 5] | 7 => [4, 5, 6] | 8 => [0, 1, 2, 3, 4, 5, 6, 7] | _ => [], ids := fun i => match i with | _ => [], rs := fun i => match i with | 0 => [(0, none)] | 1 => [(5, none)] | 2 => [(16, some 0), (17, some 1)] | 3 => [(18, some 2)] | 4 => [(1, none)] | 5 => [(5, none)] | 6 => [(20, some 4), (21, some 5)] | 7 => [(22, some 6)] | 8 => [(19, some 3), (23, some 7)] | _ => [], rh := fun i => match i with | _ => [], V := fun i g => match i with | 0 => .slice p0_0 ((a0).length) c0_0 | 1 => .int .i64 v2 | 2 => .pointer (some ⟨eB p0_0, eO p0_0 + Int.toNat v2 * Enc.sz F + 0, none⟩) | 3 => .agg #[.bool x4.u, .int .i64 x4.k.s, .int .i64 x4.k.p, .int .i64 x4.r, .int .i64 x4.nx] | 4 => .slice p1_0 ((a1).length) c1_0 | 5 => .int .i64 v2 | 6 => .pointer (some ⟨eB p1_0, eO p1_0 + Int.toNat v2 * Enc.sz F + 0, none⟩) | 7 => .agg #[.bool x5.u, .int .i64 x5.k.s, .int .i64 x5.k.p, .int .i64 x5.r, .int .i64 x5.nx] | 8 => .bool (x4 != x5) | _ => undef, U := fun i g => match i with | _ => [], Φ := fun i x => match i with | _ => True } g_mixed [0, 1, 5] [] (by kernel_rfl) (by kernel_rfl) (by kernel_rfl) ⟨⟨⟨⟨⟨⟨⟨⟨⟨trivial, fun _ => ⟨rfl, rfl⟩⟩, fun _ => ⟨rfl, rfl⟩⟩, fun _ => ⟨rfl, rfl⟩⟩, fun _ => ⟨rfl, rfl⟩⟩, fun _ => ⟨rfl, rfl⟩⟩, fun _ => ⟨rfl, rfl⟩⟩, fun _ => ⟨rfl, rfl⟩⟩, fun _ => ⟨rfl, rfl⟩⟩, fun _ => ⟨rfl, rfl⟩⟩ ?_ ?_
        · refine ⟨⟨⟨⟨⟨⟨⟨⟨⟨trivial, ?_⟩, ?_⟩, ?_⟩, ?_⟩, ?_⟩, ?_⟩, ?_⟩, ?_⟩, ?_⟩
          · exact loc_det rfl rfl (fun _ => rfl) trivial (fun g hΦ s h hs hh => ⟨.none, (stp_move (sv hs 0 rfl))⟩)
          · exact loc_det rfl rfl (fun _ => rfl) trivial (fun g hΦ s h hs hh => ⟨.none, (stp_move (sv hs 5 rfl))⟩)
          · exact loc_det rfl rfl (fun _ => rfl) trivial (fun g hΦ s h hs hh => ⟨.none, (stp_indexAddr Tryd.underlying24 ts53 (by decide) (sv hs 16 rfl) rfl (sv hs 17 rfl) (Rdb.ro hr0_0) e4)⟩)
          · exact loc_det rfl rfl (fun _ => rfl) trivial (fun g hΦ s h hs hh => ⟨.none, (stp_loadN (us := [_, _, _, _, _]) ts53 (sv hs 18 rfl) (Cells.el (Rdb.ro hr0_0) (by decide) e4 0 5 rfl))⟩)
          · exact loc_det rfl rfl (fun _ => rfl) trivial (fun g hΦ s h hs hh => ⟨.none, (stp_move (sv hs 1 rfl))⟩)
          · exact loc_det rfl rfl (fun _ => rfl) trivial (fun g hΦ s h hs hh => ⟨.none, (stp_move (sv hs 5 rfl))⟩)
          · exact loc_det rfl rfl (fun _ => rfl) trivial (fun g hΦ s h hs hh => ⟨.none, (stp_indexAddr Tryd.underlying24 ts53 (by decide) (sv hs 20 rfl) rfl (sv hs 21 rfl) (Rdb.ro hr1_0) e5)⟩)
          · exact loc_det rfl rfl (fun _ => rfl) trivial (fun g hΦ s h hs hh => ⟨.none, (stp_loadN (us := [_, _, _, _, _]) ts53 (sv hs 22 rfl) (Cells.el (Rdb.ro hr1_0) (by decide) e5 0 5 rfl))⟩)
          · exact loc_det rfl rfl (fun _ => rfl) trivial (fun g hΦ s h hs hh => ⟨.none, (stp_neqS te53 x4 x5 (sv hs 19 rfl) (sv hs 23 rfl))⟩)
        · intro g hΦ
          refine KW.sub (s' := [(0, .slice p0_0 ((a0).length) c0_0), (1, .slice p1_0 ((a1).length) c1_0), (12, .int .i64 ((a0).length : Int)), (13, .int .i64 v2), (24, .bool (x4 != x5))]) (h' := []) ?_ ⟨rfl, rfl, rfl, rfl, rfl, trivial⟩ trivial
          refine kw_nx ?_
          refine cw_cond rfl (fun h6 => ?_) (fun h6 => ?_)
          · have H1 := cond_t H1 h6
            refine cw_seq ?_
            refine cw_region ?_
            refine ow_det .none (stp_assign rfl) rfl ?_
            refine ow_nil ?_
            refine kw_nx ?_
            refine cw_ret ?_
            refine kw_bl_ret ?_
            refine kw_nx_ret ?_
            refine kw_lq_ret ?_
            refine kw_bl_ret ?_
            refine kw_join_ret ?_
            refine kw_nx_ret ?_
            have q1 := Option.some.inj H1
            subst q1
            have q0 := Option.some.inj H0
            subst q0
            exact kw_ret Tryd.results50 (.cons (.tmp rfl) .nil) [] [] trivial (by decide) ⟨rfl, rfl⟩
          · have H1 := cond_f H1 h6
            refine cw_skip ?_
            refine kw_bl_normal ?_
            refine kw_nx ?_
            refine cw_region ?_
            obtain ⟨x7, e7, H1⟩ := bind_some H1
            refine ow_det .none (stp_add rfl rfl e7) rfl ?_
            refine ow_det .none (stp_move rfl) rfl ?_
            refine ow_nil ?_
            exact kw_lqS (js := []) (fuel, x7) H1 (Nat.lt_succ_self _) ⟨rfl, rfl, rfl, rfl, trivial⟩ trivial (by decide)
      · have H1 := cond_f H1 h3
        refine cw_exit ?_
        refine kw_nx_exit ?_
        refine kw_lq_exit ?_
        refine kw_bl ?_
        have q1 := Option.some.inj H1
        subst q1
        exact kw_joinS (js := []) v2 rfl ⟨rfl, rfl, rfl, rfl, trivial⟩ trivial (by decide)
    · rintro v2 rfl
      refine KW.sub (s' := [(0, .slice p0_0 ((a0).length) c0_0), (1, .slice p1_0 ((a1).length) c1_0), (12, .int .i64 ((a0).length : Int)), (13, .int .i64 v2)]) (h' := []) ?_ ⟨rfl, rfl, rfl, rfl, trivial⟩ trivial
      refine kw_nx ?_
      refine cw_seq ?_
      refine cw_region ?_
      refine ow_det .none (stp_assign rfl) rfl ?_
      refine ow_nil ?_
      refine kw_nx ?_
      refine cw_ret ?_
      have q0 := Option.some.inj H0
      subst q0
      exact kw_ret Tryd.results50 (.cons (.tmp rfl) .nil) [] [] trivial (by decide) ⟨rfl, rfl⟩

set_option maxHeartbeats 4000000 in
set_option maxRecDepth 20000 in
theorem c_i_TableSame (fl : Nat) (w : World) (a0 : T) (p0_0 : Option Addr) (n0_0 c0_0 : Nat) (p0_1 : Option Addr) (n0_1 c0_1 : Nat) (a1 : T) (p1_0 : Option Addr) (n1_0 c1_0 : Nat) (p1_1 : Option Addr) (n1_1 c1_1 : Nat) (hn0_0 : n0_0 = (a0.b).length) (hr0_0 : RO w (hkeys []) (RdL p0_0 c0_0 a0.b)) (hn0_1 : n0_1 = (a0.f).length) (hr0_1 : RO w (hkeys []) (RdL p0_1 c0_1 a0.f)) (hn1_0 : n1_0 = (a1.b).length) (hr1_0 : RO w (hkeys []) (RdL p1_0 c1_0 a1.b)) (hn1_1 : n1_1 = (a1.f).length) (hr1_1 : RO w (hkeys []) (RdL p1_1 c1_1 a1.f)) (r : Bool) (H0 : i_TableSame fl a0 a1 = some r) :
    Ct Tryd.prog 15 [.agg #[.slice p0_0 n0_0 c0_0, .slice p0_1 n0_1 c0_1], .agg #[.slice p1_0 n1_0 c1_0, .slice p1_1 n1_1 c1_1]] w [] (fun rv h' => rv = .bool r ∧ h' = []) := by
  obtain rfl := hn0_0
  obtain rfl := hn0_1
  obtain rfl := hn1_0
  obtain rfl := hn1_1
  unfold i_TableSame at H0
  refine ct_of_cw Tryd.func15 rfl Tryd.ntmps15 rfl (Sat.refl _ _) ?_
  refine cw_seq ?_
  refine cw_region ?_
  refine ow_eff .none (stpU_box 0 rfl rfl) rfl ?_
  rintro _ _ ⟨b1, rfl, rfl⟩
  refine ow_eff .none (stpU_box 1 rfl rfl) rfl ?_
  rintro _ _ ⟨b2, rfl, rfl⟩
  refine ow_det .none (stp_assign rfl) rfl ?_
  refine ow_nil ?_
  refine kw_nx ?_
  refine cw_seq ?_
  refine cw_region ?_
  refine ow_det .none (stp_fieldAddr (j := 0) Tryd.underlying26 rfl ts23 rfl rfl rfl) rfl ?_
  refine ow_det .none (stp_load1 ts23 rfl (Cells.box (id := 0) rfl 1 rfl)) rfl ?_
  refine ow_det .none (stp_fieldAddr (j := 0) Tryd.underlying26 rfl ts23 rfl rfl rfl) rfl ?_
  refine ow_det .none (stp_load1 ts23 rfl (Cells.box (id := 1) rfl 1 rfl)) rfl ?_
  obtain ⟨x3, e3, H0⟩ := bind_some H0
  refine ow_eff .none (stpU_call (fun i => 2 + i) cf49 (fun w hw => c_slices_Equal_Int fl w a0.b p0_0 ((a0.b).length) c0_0 a1.b p1_0 ((a1.b).length) c1_0 rfl (RO.pass hr0_0 hw) rfl (RO.pass hr1_0 hw) x3 e3) (sevs_cons rfl (sevs_cons rfl sevs_nil))) rfl ?_
  rintro _ _ ⟨_, ⟨rfl, rfl⟩, rfl⟩
  refine ow_det .none (stp_move rfl) rfl ?_
  obtain ⟨y4, ey4, H0⟩ := bind_some H0
  refine ow_cutY 6 16 y4 ?_ ?_
  · rcases Bool.eq_false_or_eq_true x3 with hy4 | hy4
    · have ey4 := cond_t ey4 hy4
      refine ow_det (.some rfl hy4) (stp_fieldAddr (j := 1) Tryd.underlying26 rfl ts24 rfl rfl rfl) rfl ?_
      refine ow_det (.some rfl hy4) (stp_load1 ts24 rfl (Cells.box (id := 0) rfl 1 rfl)) rfl ?_
      refine ow_det (.some rfl hy4) (stp_fieldAddr (j := 1) Tryd.underlying26 rfl ts24 rfl rfl rfl) rfl ?_
      refine ow_det (.some rfl hy4) (stp_load1 ts24 rfl (Cells.box (id := 1) rfl 1 rfl)) rfl ?_
      obtain ⟨x5, e5, ey4⟩ := bind_some ey4
      refine ow_eff (.some rfl hy4) (stpU_call (fun i => 2 + i) cf50 (fun w hw => c_slices_Equal_Frame fl w a0.f p0_1 ((a0.f).length) c0_1 a1.f p1_1 ((a1.f).length) c1_1 rfl (RO.pass hr0_1 hw) rfl (RO.pass hr1_1 hw) x5 e5) (sevs_cons rfl (sevs_cons rfl sevs_nil))) rfl ?_
      rintro _ _ ⟨_, ⟨rfl, rfl⟩, rfl⟩
      refine ow_det .none (stp_pick_t rfl hy4 rfl) rfl ?_
      obtain rfl := Option.some.inj ey4
      exact ow_nil (kw_jy (.top rfl (.cons rfl (.cons rfl (.cons rfl (.cons rfl (.cons rfl (.cons rfl (.refl _)))))))) (.refl _))
    · have ey4 := cond_f ey4 hy4
      refine ow_off (.some rfl hy4) rfl ?_
      refine ow_off (.some rfl hy4) rfl ?_
      refine ow_off (.some rfl hy4) rfl ?_
      refine ow_off (.some rfl hy4) rfl ?_
      refine ow_off (.some rfl hy4) rfl ?_
      refine ow_det .none (stp_pick_f rfl hy4 rfl) rfl ?_
      obtain rfl := Option.some.inj ey4
      exact ow_nil (kw_jy (.top rfl (.cons rfl (.cons rfl (.cons rfl (.cons rfl (.cons rfl (.cons rfl (.refl _)))))))) (.refl _))
  · refine ow_det .none (stp_assign rfl) rfl ?_
    refine ow_nil ?_
    refine kw_nx ?_
    refine cw_ret ?_
    have q0 := Option.some.inj H0
    subst q0
    exact kw_ret Tryd.results15 (.cons (.tmp rfl) .nil) [] [] trivial (by decide) ⟨rfl, rfl⟩

set_option maxHeartbeats 4000000 in
set_option maxRecDepth 20000 in
theorem c_i_Table_chain (fl : Nat) (w : World) (a0 : T) (p0_0 : Option Addr) (n0_0 c0_0 : Nat) (p0_1 : Option Addr) (n0_1 c0_1 : Nat) (a1 : Int) (hn0_0 : n0_0 = (a0.b).length) (hr0_0 : RO w (hkeys []) (RdL p0_0 c0_0 a0.b)) (hn0_1 : n0_1 = (a0.f).length) (hr0_1 : RO w (hkeys []) (RdL p0_1 c0_1 a0.f)) (r : (List Int)) (H0 : i_Table_chain fl a0 a1 = some r) :
    Ct Tryd.prog 51 [.agg #[.slice p0_0 n0_0 c0_0, .slice p0_1 n0_1 c0_1], .int .i64 a1] w [] (fun rv h' => ∃ (x0 : Option Addr) (y0 z0 : Nat) (C0 : Res), rv = .slice x0 y0 z0 ∧ h' = [(0, C0)] ∧ y0 = (r).length ∧ OwnC 3 x0 z0 r C0) := by
  obtain rfl := hn0_0
  obtain rfl := hn0_1
  unfold i_Table_chain at H0
  refine ct_of_cw Tryd.func51 rfl Tryd.ntmps51 rfl (Sat.refl _ _) ?_
  refine cw_seq ?_
  refine cw_region ?_
  refine ow_eff .none (stpU_box 0 rfl rfl) rfl ?_
  rintro _ _ ⟨b1, rfl, rfl⟩
  refine ow_det .none (stp_assign rfl) rfl ?_
  refine ow_nil ?_
  refine kw_nx ?_
  refine cw_seq ?_
  refine cw_region ?_
  refine ow_det .none (stp_assign rfl) rfl ?_
  refine ow_nil ?_
  refine kw_nx ?_
  refine cw_seq ?_
  refine cw_seq ?_
  refine cw_region ?_
  refine ow_det .none (stp_fieldAddr (j := 0) Tryd.underlying26 rfl ts23 rfl rfl rfl) rfl ?_
  refine ow_det .none (stp_load1 ts23 rfl (Cells.box (id := 0) rfl 1 rfl)) rfl ?_
  refine ow_det .none (stp_move rfl) rfl ?_
  obtain ⟨x2, e2, H0⟩ := bind_some H0
  refine ow_det .none (stp_indexAddr Tryd.underlying23 ts3 (by decide) rfl rfl rfl (Rdb.ro hr0_0) e2) rfl ?_
  refine ow_det .none (stp_load1 ts3 rfl (Cells.el (Rdb.ro hr0_0) (by decide) e2 0 1 rfl)) rfl ?_
  refine ow_det .none (stp_assign rfl) rfl ?_
  refine ow_nil ?_
  refine kw_nx ?_
  obtain ⟨o0_0, eo0_0, H0⟩ := bind_some H0
  refine cw_addNil 1 ?_
  refine cw_join (ι := (List Int) × Int × Option Addr × Nat × Nat × Res) (fun | (v3, v8, p4, n5, c6, C7) => o0_0 = .out (v3, v8) ∧ n5 = (v3).length ∧ OwnC (α := Int) 3 p4 c6 v3 C7) (fun | (v3, v8, p4, n5, c6, C7) => [(2, .pointer (some ⟨b1, 0, none⟩)), (5, .slice p4 n5 c6), (6, .int .i64 v8)]) (fun | (v3, v8, p4, n5, c6, C7) => [(0, [(b1, .cells #[.slice p0_0 ((a0.b).length) c0_0, .slice p0_1 ((a0.f).length) c0_1] 26 (0, 0))]), (1001, C7)]) ?_ ?_
  · refine cw_block ?_
    refine cw_loopS (ι := Nat × (List Int) × Int × Option Addr × Nat × Nat × Res) (js := [0, 1]) (fun x => x.1) (fun | (fuel, v3, v8, p4, n5, c6, C7) => i_Table_chain_L0 fl a0 fuel v3 v8 = some o0_0 ∧ n5 = (v3).length ∧ OwnC (α := Int) 3 p4 c6 v3 C7) (fun | (_, v3, v8, p4, n5, c6, C7) => [(2, .pointer (some ⟨b1, 0, none⟩)), (5, .slice p4 n5 c6), (6, .int .i64 v8)]) (fun | (_, v3, v8, p4, n5, c6, C7) => [(0, [(b1, .cells #[.slice p0_0 ((a0.b).length) c0_0, .slice p0_1 ((a0.f).length) c0_1] 26 (0, 0))]), (1001, C7)]) (fl, [], x2, none, 0, 0, []) ⟨eo0_0, rfl, (OwnC.nil _ _)⟩ ⟨rfl, rfl, rfl, trivial⟩ ⟨0, [1], rfl, rfl, 1, [], rfl, rfl, trivial⟩ (by decide) ?_
    rintro ⟨fuel, v3, v8, p4, n5, c6, C7⟩ ⟨H1, hnn5, o7⟩
    obtain rfl := hnn5
    have H1 : i_Table_chain_L0 fl a0 fuel v3 v8 = some o0_0 := H1
    rcases fuel with _ | fuel
    · rw [i_Table_chain_L0.eq_1] at H1; cases H1
    rw [i_Table_chain_L0.eq_2] at H1
    refine CW.sub (s' := [(2, .pointer (some ⟨b1, 0, none⟩)), (5, .slice p4 ((v3).length) c6), (6, .int .i64 v8)]) (h' := [(0, [(b1, .cells #[.slice p0_0 ((a0.b).length) c0_0, .slice p0_1 ((a0.f).length) c0_1] 26 (0, 0))]), (1001, C7)]) ?_ ⟨rfl, rfl, rfl, trivial⟩ ⟨rfl, rfl, trivial⟩
    refine cw_seq ?_
    refine cw_seq ?_
    refine cw_region ?_
    refine ow_det .none (stp_move rfl) rfl ?_
    refine ow_det .none (stp_neq rfl rfl) rfl ?_
    refine ow_nil ?_
    refine kw_nx ?_
    refine cw_cond rfl (fun h9 => ?_) (fun h9 => ?_)
    · have H1 := cond_t H1 h9
      refine cw_skip ?_
      refine kw_nx ?_
      refine cw_seq ?_
      refine cw_block ?_
      refine cw_region ?_
      refine ow_det .none (stp_move rfl) rfl ?_
      refine ow_det .none (stp_move rfl) rfl ?_
      refine ow_eff .none (stpU_lit (sz := 1) (l := [v8]) [.int .i64 v8] sl23 2 (sevp_cons rfl sevp_nil) rfl rfl rfl rfl rfl rfl rfl rfl rfl) rfl ?_
      rintro _ _ ⟨p10, C11, rfl, rfl, o11⟩
      obtain ⟨x12, e12, H1⟩ := bind_some H1
      refine ow_eff .none (stpU_append sl23 rfl (id := 1001) rfl rfl rfl (by simp) rfl o7 (Rdb.own (id := 2) rfl o11) e12) rfl ?_
      rintro _ _ ⟨p13, c14, C15, rfl, rfl, o15⟩
      refine ow_det .none (stp_assign rfl) rfl ?_
      refine ow_nil ?_
      refine kw_bl_normal ?_
      refine kw_nx ?_
      refine cw_region ?_
      refine ow_det .none (stp_fieldAddr (j := 1) Tryd.underlying26 rfl ts24 rfl rfl rfl) rfl ?_
      refine ow_det .none (stp_load1 ts24 rfl (Cells.box (id := 0) rfl 1 rfl)) rfl ?_
      refine ow_det .none (stp_move rfl) rfl ?_
      obtain ⟨x16, e16, H1⟩ := bind_some H1
      refine ow_det .none (stp_indexAddr Tryd.underlying24 ts53 (by decide) rfl rfl rfl (Rdb.ro hr0_1) e16) rfl ?_
      refine ow_det .none (stp_fieldAddr (j := 4) Tryd.underlying53 rfl ts3 rfl rfl rfl) rfl ?_
      refine ow_det .none (stp_load1 ts3 rfl (Cells.el (Rdb.ro hr0_1) (by decide) e16 4 1 rfl)) rfl ?_
      refine ow_det .none (stp_assign rfl) rfl ?_
      refine ow_nil ?_
      exact kw_lqS (js := [0, 1001]) (fuel, x12, x16.nx, p13, ((x12).length), c14, C15) ⟨H1, rfl, o15⟩ (Nat.lt_succ_self _) ⟨rfl, rfl, rfl, trivial⟩ ⟨0, [1001], rfl, rfl, 1001, [], rfl, rfl, trivial⟩ (by decide)
    · have H1 := cond_f H1 h9
      refine cw_exit ?_
      refine kw_nx_exit ?_
      refine kw_lq_exit ?_
      refine kw_bl ?_
      have q1 := Option.some.inj H1
      subst q1
      exact kw_joinS (js := [0, 1001]) (v3, v8, p4, ((v3).length), c6, C7) ⟨rfl, rfl, o7⟩ ⟨rfl, rfl, rfl, trivial⟩ ⟨0, [1001], rfl, rfl, 1001, [], rfl, rfl, trivial⟩ (by decide)
  · rintro ⟨v3, v8, p4, n5, c6, C7⟩ ⟨rfl, hnn5, o7⟩
    obtain rfl := hnn5
    refine KW.sub (s' := [(2, .pointer (some ⟨b1, 0, none⟩)), (5, .slice p4 ((v3).length) c6), (6, .int .i64 v8)]) (h' := [(0, [(b1, .cells #[.slice p0_0 ((a0.b).length) c0_0, .slice p0_1 ((a0.f).length) c0_1] 26 (0, 0))]), (1001, C7)]) ?_ ⟨rfl, rfl, rfl, trivial⟩ ⟨rfl, rfl, trivial⟩
    refine kw_nx ?_
    refine cw_seq ?_
    refine cw_region ?_
    refine ow_det .none (stp_move rfl) rfl ?_
    refine ow_eff .none (stpU_call (fun i => i) cf79 (fun w hw => c_clip79 w p4 ((v3).length) c6 (OwnC.len o7).1) (sevs_cons rfl sevs_nil)) rfl ?_
    rintro _ _ ⟨_, ⟨rfl, rfl⟩, rfl⟩
    refine ow_det .none (stp_assign rfl) rfl ?_
    refine ow_nil ?_
    refine kw_nx ?_
    refine cw_ret ?_
    have q0 := Option.some.inj H0
    subst q0
    exact kw_ret Tryd.results51 (.cons (.tmp rfl) .nil) [(0, C7)] [1001] ⟨1001, [], rfl, rfl, trivial⟩ (by decide) ⟨p4, ((v3).length), ((v3).length), C7, rfl, rfl, rfl, (OwnC.clip o7)⟩

set_option maxHeartbeats 4000000 in
set_option maxRecDepth 20000 in
theorem c_i_FindPage (fl : Nat) (w : World) (a0 : T) (p0_0 : Option Addr) (n0_0 c0_0 : Nat) (p0_1 : Option Addr) (n0_1 c0_1 : Nat) (a1 : K) (hn0_0 : n0_0 = (a0.b).length) (hr0_0 : RO w (hkeys []) (RdL p0_0 c0_0 a0.b)) (hn0_1 : n0_1 = (a0.f).length) (hr0_1 : RO w (hkeys []) (RdL p0_1 c0_1 a0.f)) (hg : RO w (hkeys []) (fun w' => w'.rangeAt 0 0 [.bool false, .int .i64 0, .int .i64 0, .int .i64 0, .int .i64 (-1)])) (r : Int × Int × Bool) (H0 : i_FindPage fl a0 a1 = some r) :
    Ct Tryd.prog 16 [.agg #[.slice p0_0 n0_0 c0_0, .slice p0_1 n0_1 c0_1], .agg #[.int .i64 a1.s, .int .i64 a1.p]] w [] (fun rv h' => rv = .tuple #[.int .i64 r.1, .int .i64 r.2.1, .bool r.2.2] ∧ h' = []) := by
  obtain rfl := hn0_0
  obtain rfl := hn0_1
  unfold i_FindPage at H0
  refine ct_of_cw Tryd.func16 rfl Tryd.ntmps16 rfl (Sat.refl _ _) ?_
  refine cw_seq ?_
  refine cw_region ?_
  refine ow_eff .none (stpU_box 0 rfl rfl) rfl ?_
  rintro _ _ ⟨b1, rfl, rfl⟩
  refine ow_eff .none (stpU_box 1 rfl rfl) rfl ?_
  rintro _ _ ⟨b2, rfl, rfl⟩
  refine ow_det .none (stp_assign rfl) rfl ?_
  refine ow_det .none (stp_assign rfl) rfl ?_
  refine ow_det .none (stp_assign rfl) rfl ?_
  refine ow_nil ?_
  refine kw_nx ?_
  refine cw_seq ?_
  refine cw_seq ?_
  refine cw_region ?_
  refine ow_det .none (stp_loadN (us := [_, _]) ts26 rfl (Cells.box (id := 0) rfl 2 rfl)) rfl ?_
  obtain ⟨x3, e3, H0⟩ := bind_some H0
  refine ow_eff .none (stpU_call (fun i => 2 + i) cf18 (fun w hw => c_i_TableValid fl w a0 p0_0 ((a0.b).length) c0_0 p0_1 ((a0.f).length) c0_1 rfl (RO.pass hr0_0 hw) rfl (RO.pass hr0_1 hw) (RO.pass hg hw) x3 e3) (sevs_cons rfl sevs_nil)) rfl ?_
  rintro _ _ ⟨_, ⟨rfl, rfl⟩, rfl⟩
  refine ow_det .none (stp_not rfl) rfl ?_
  refine ow_det .none (stp_move rfl) rfl ?_
  obtain ⟨y4, ey4, H0⟩ := bind_some H0
  refine ow_cutY 4 17 y4 ?_ ?_
  · rcases Bool.eq_false_or_eq_true (!x3) with hy4 | hy4
    · have ey4 := cond_t ey4 hy4
      refine ow_off (.some rfl hy4) rfl ?_
      refine ow_off (.some rfl hy4) rfl ?_
      refine ow_off (.some rfl hy4) rfl ?_
      refine ow_det .none (stp_pick_t rfl hy4 rfl) rfl ?_
      obtain rfl := Option.some.inj ey4
      exact ow_nil (kw_jy (.top rfl (.cons rfl (.cons rfl (.cons rfl (.cons rfl (.refl _)))))) (.refl _))
    · have ey4 := cond_f ey4 hy4
      refine ow_det (.some rfl hy4) (stp_loadN (us := [_, _]) ts28 rfl (Cells.box (id := 1) rfl 2 rfl)) rfl ?_
      obtain ⟨x5, e5, ey4⟩ := bind_some ey4
      refine ow_eff (.some rfl hy4) (stpU_call (fun i => 2 + i) cf38 (fun w hw => c_i_KeyValid fl w a1 x5 e5) (sevs_cons rfl sevs_nil)) rfl ?_
      rintro _ _ ⟨_, ⟨rfl, rfl⟩, rfl⟩
      refine ow_det (.some rfl hy4) (stp_not rfl) rfl ?_
      refine ow_det .none (stp_pick_f rfl hy4 rfl) rfl ?_
      obtain rfl := Option.some.inj ey4
      exact ow_nil (kw_jy (.top rfl (.cons rfl (.cons rfl (.cons rfl (.cons rfl (.refl _)))))) (.refl _))
  · refine ow_nil ?_
    refine kw_nx ?_
    refine cw_cond rfl (fun h6 => ?_) (fun h6 => ?_)
    · have H0 := cond_t H0 h6
      refine cw_seq ?_
      refine cw_region ?_
      refine ow_det .none (stp_assign rfl) rfl ?_
      refine ow_det .none (stp_assign rfl) rfl ?_
      refine ow_det .none (stp_assign rfl) rfl ?_
      refine ow_nil ?_
      refine kw_nx ?_
      refine cw_ret ?_
      refine kw_nx_ret ?_
      have q0 := Option.some.inj H0
      subst q0
      exact kw_ret Tryd.results16 (.cons (.tmp rfl) (.cons (.tmp rfl) (.cons (.tmp rfl) .nil))) [] [] trivial (by decide) ⟨rfl, rfl⟩
    · have H0 := cond_f H0 h6
      refine cw_skip ?_
      refine kw_nx ?_
      refine cw_seq ?_
      obtain ⟨x7, e7, H0⟩ := bind_some H0
      obtain ⟨x8, e8, H0⟩ := bind_some H0
      refine region_drawn { dst := fun i => match i with | 0 => some 18 | 1 => some 19 | 2 => some 20 | 3 => some 21 | 4 => some 22 | 5 => some 23 | 6 => some 24 | 7 => some 7 | _ => none, pre := fun i => match i with | 3 => [2] | 4 => [2, 3] | 5 => [1, 2, 3, 4] | 6 => [0, 1, 2, 3, 4, 5] | 7 => [0, 1, 2, 3, 4, 5, 6] | _ => [], ids := fun i => match i with | 6 => [2] | _ => [], rs := fun i => match i with | 0 => [(2, none)] | 1 => [(3, none)] | 2 => [(2, none)] | 3 => [(20, some 2)] | 4 => [(21, some 3)] | 5 => [(19, some 1), (22, some 4)] | 6 => [(18, some 0), (23, some 5)] | 7 => [(24, some 6)] | _ => [], rh := fun i => match i with | 0 => [(0, none)] | 1 => [(1, none)] | 3 => [(0, none)] | _ => [], V := fun i g => match i with | 0 => .agg #[.slice p0_0 ((a0.b).length) c0_0, .slice p0_1 ((a0.f).length) c0_1] | 1 => .agg #[.int .i64 a1.s, .int .i64 a1.p] | 2 => .pointer (some ⟨b1, 0, none⟩) | 3 => .slice p0_0 ((a0.b).length) c0_0 | 4 => .int .i64 ((a0.b).length : Int) | 5 => .int .i64 x7 | 6 => .slice ((g 6).A 0) ((x8).length) ((g 6).C 0) | 7 => .slice ((g 6).A 0) ((x8).length) ((g 6).C 0) | _ => undef, U := fun i g => match i with | 6 => [(2, ((g 6).R 0))] | _ => [], Φ := fun i x => match i with | 6 => OwnC (α := Int) 3 (x.A 0) (x.C 0) x8 (x.R 0) | _ => True } g_mixed [2, 3] [0, 1] (by kernel_rfl) (by kernel_rfl) (by kernel_rfl) ⟨⟨⟨⟨⟨⟨⟨⟨trivial, fun _ => ⟨rfl, rfl⟩⟩, fun _ => ⟨rfl, rfl⟩⟩, fun _ => ⟨rfl, rfl⟩⟩, fun _ => ⟨rfl, rfl⟩⟩, fun _ => ⟨rfl, rfl⟩⟩, fun _ => ⟨rfl, rfl⟩⟩, fun _ => ⟨rfl, rfl⟩⟩, fun _ => ⟨rfl, rfl⟩⟩ ?_ ?_
      · refine ⟨⟨⟨⟨⟨⟨⟨⟨trivial, ?_⟩, ?_⟩, ?_⟩, ?_⟩, ?_⟩, ?_⟩, ?_⟩, ?_⟩
        · exact loc_det rfl rfl (fun _ => rfl) trivial (fun g hΦ s h hs hh => ⟨.none, (stp_loadN (us := [_, _]) ts26 (sv hs 2 rfl) (Cells.box (id := 0) (hh.get 0 _ rfl) 2 rfl))⟩)
        · exact loc_det rfl rfl (fun _ => rfl) trivial (fun g hΦ s h hs hh => ⟨.none, (stp_loadN (us := [_, _]) ts28 (sv hs 3 rfl) (Cells.box (id := 1) (hh.get 1 _ rfl) 2 rfl))⟩)
        · exact loc_det rfl rfl (fun _ => rfl) trivial (fun g hΦ s h hs hh => ⟨.none, (stp_fieldAddr (j := 0) Tryd.underlying26 rfl ts23 rfl (sv hs 2 rfl) rfl)⟩)
        · exact loc_det rfl rfl (fun _ => rfl) trivial (fun g hΦ s h hs hh => ⟨.none, (stp_load1 ts23 (sv hs 20 rfl) (Cells.box (id := 0) (hh.get 0 _ rfl) 1 rfl))⟩)
        · exact loc_det rfl rfl (fun _ => rfl) trivial (fun g hΦ s h hs hh => ⟨.none, (stp_len Tryd.underlying23 (sv hs 21 rfl))⟩)
        · refine loc_eff rfl rfl (fun g hΦ s h hs hh => ⟨.none, (stpU_call (fun i => 2 + i) cf52 (fun w hw => c_i_hash fl w a1 ((a0.b).length : Int) x7 e7) (sevs_cons (sv hs 19 rfl) (sevs_cons (sv hs 22 rfl) sevs_nil)))⟩) ?_
          rintro g _ _ ⟨_, ⟨rfl, rfl⟩, rfl⟩
          exact ⟨⟨[], [], []⟩, trivial, .inr rfl, rfl⟩
        · refine loc_eff rfl rfl (fun g hΦ s h hs hh => ⟨.none, (stpU_call (fun i => 2 + i) cf51 (fun w hw => c_i_Table_chain fl w a0 p0_0 ((a0.b).length) c0_0 p0_1 ((a0.f).length) c0_1 x7 rfl (RO.pass hr0_0 hw) rfl (RO.pass hr0_1 hw) x8 e8) (sevs_cons (sv hs 18 rfl) (sevs_cons (sv hs 23 rfl) sevs_nil)))⟩) ?_
          rintro g _ _ ⟨_, ⟨p9, n10, c11, C12, rfl, rfl, hnn10, o12⟩, rfl⟩
          obtain rfl := hnn10
          exact ⟨⟨[p9], [c11], [C12]⟩, o12, .inr rfl, rfl⟩
        · exact loc_det rfl rfl (fun _ => rfl) trivial (fun g hΦ s h hs hh => ⟨.none, (stp_assign (sv hs 24 rfl))⟩)
      · intro g hΦ
        refine kw_gen (ι := Option Addr × Nat × Res) (((g 6).A 0), ((g 6).C 0), ((g 6).R 0)) (fun | (p9, c11, C12) => OwnC (α := Int) 3 p9 c11 x8 C12) (fun | (p9, c11, C12) => [(2, .pointer (some ⟨b1, 0, none⟩)), (3, .pointer (some ⟨b2, 0, none⟩)), (7, .slice p9 ((x8).length) c11)]) (fun | (p9, c11, C12) => [(0, [(b1, .cells #[.slice p0_0 ((a0.b).length) c0_0, .slice p0_1 ((a0.f).length) c0_1] 26 (0, 0))]), (1, [(b2, .cells #[.int .i64 a1.s, .int .i64 a1.p] 28 (0, 0))]), (2, C12)]) (hΦ 6 (by decide)) ⟨rfl, rfl, rfl, trivial⟩ ⟨rfl, rfl, rfl, trivial⟩ ?_
        rintro ⟨p9, c11, C12⟩ o12
        have o12 : OwnC (α := Int) 3 p9 c11 x8 C12 := o12
        refine KW.sub (s' := [(2, .pointer (some ⟨b1, 0, none⟩)), (3, .pointer (some ⟨b2, 0, none⟩)), (7, .slice p9 ((x8).length) c11)]) (h' := [(0, [(b1, .cells #[.slice p0_0 ((a0.b).length) c0_0, .slice p0_1 ((a0.f).length) c0_1] 26 (0, 0))]), (1, [(b2, .cells #[.int .i64 a1.s, .int .i64 a1.p] 28 (0, 0))]), (2, C12)]) ?_ ⟨rfl, rfl, rfl, trivial⟩ ⟨rfl, rfl, rfl, trivial⟩
        refine kw_nx ?_
        refine cw_seq ?_
        refine cw_seq ?_
        refine cw_region ?_
        refine ow_det .none (stp_move rfl) rfl ?_
        refine ow_det .none (stp_len Tryd.underlying23 rfl) rfl ?_
        refine ow_det .none (stp_move rfl) rfl ?_
        refine ow_nil ?_
        refine kw_nx ?_
        obtain ⟨o0_0, eo0_0, H0⟩ := bind_some H0
        refine cw_join (ι := Int) (fun | v13 => o0_0 = .out v13) (fun | v13 => [(2, .pointer (some ⟨b1, 0, none⟩)), (3, .pointer (some ⟨b2, 0, none⟩)), (7, .slice p9 ((x8).length) c11), (25, .slice p9 ((x8).length) c11), (26, .int .i64 ((x8).length : Int)), (27, .int .i64 v13)]) (fun | v13 => [(0, [(b1, .cells #[.slice p0_0 ((a0.b).length) c0_0, .slice p0_1 ((a0.f).length) c0_1] 26 (0, 0))]), (1, [(b2, .cells #[.int .i64 a1.s, .int .i64 a1.p] 28 (0, 0))]), (2, C12)]) ?_ ?_
        · refine cw_block ?_
          refine cw_loopS (ι := Nat × Int) (js := [0, 1, 2]) (fun x => x.1) (fun | (fuel, v13) => i_FindPage_L0 fl a0 a1 x8 fuel v13 = some o0_0) (fun | (_, v13) => [(2, .pointer (some ⟨b1, 0, none⟩)), (3, .pointer (some ⟨b2, 0, none⟩)), (7, .slice p9 ((x8).length) c11), (25, .slice p9 ((x8).length) c11), (26, .int .i64 ((x8).length : Int)), (27, .int .i64 v13)]) (fun | (_, v13) => [(0, [(b1, .cells #[.slice p0_0 ((a0.b).length) c0_0, .slice p0_1 ((a0.f).length) c0_1] 26 (0, 0))]), (1, [(b2, .cells #[.int .i64 a1.s, .int .i64 a1.p] 28 (0, 0))]), (2, C12)]) (fl, 0) eo0_0 ⟨rfl, rfl, rfl, rfl, rfl, rfl, trivial⟩ ⟨0, [1, 2], rfl, rfl, 1, [2], rfl, rfl, 2, [], rfl, rfl, trivial⟩ (by decide) ?_
          rintro ⟨fuel, v13⟩ H1
          have H1 : i_FindPage_L0 fl a0 a1 x8 fuel v13 = some o0_0 := H1
          rcases fuel with _ | fuel
          · rw [i_FindPage_L0.eq_1] at H1; cases H1
          rw [i_FindPage_L0.eq_2] at H1
          refine CW.sub (s' := [(2, .pointer (some ⟨b1, 0, none⟩)), (3, .pointer (some ⟨b2, 0, none⟩)), (7, .slice p9 ((x8).length) c11), (25, .slice p9 ((x8).length) c11), (26, .int .i64 ((x8).length : Int)), (27, .int .i64 v13)]) (h' := [(0, [(b1, .cells #[.slice p0_0 ((a0.b).length) c0_0, .slice p0_1 ((a0.f).length) c0_1] 26 (0, 0))]), (1, [(b2, .cells #[.int .i64 a1.s, .int .i64 a1.p] 28 (0, 0))]), (2, C12)]) ?_ ⟨rfl, rfl, rfl, rfl, rfl, rfl, trivial⟩ ⟨rfl, rfl, rfl, trivial⟩
          refine cw_seq ?_
          refine cw_region ?_
          refine ow_det .none (stp_lss rfl rfl) rfl ?_
          refine ow_nil ?_
          refine kw_nx ?_
          refine cw_seq ?_
          refine cw_cond rfl (fun h14 => ?_) (fun h14 => ?_)
          · have H1 := cond_t H1 h14
            refine cw_skip ?_
            refine kw_nx ?_
            refine cw_seq ?_
            refine cw_block ?_
            refine cw_seq ?_
            refine cw_region ?_
            refine ow_det .none (stp_move rfl) rfl ?_
            obtain ⟨x15, e15, H1⟩ := bind_some H1
            refine ow_det .none (stp_indexAddr Tryd.underlying23 ts3 (by decide) rfl rfl rfl (Rdb.own (id := 2) rfl o12) e15) rfl ?_
            refine ow_det .none (stp_load1 ts3 rfl (Cells.el (Rdb.own (id := 2) rfl o12) (by decide) e15 0 1 rfl)) rfl ?_
            refine ow_det .none (stp_assign rfl) rfl ?_
            refine ow_det .none (stp_assign rfl) rfl ?_
            refine ow_nil ?_
            refine kw_nx ?_
            refine cw_seq ?_
            obtain ⟨x16, e16, H1⟩ := bind_some H1
            refine region_drawn { dst := fun i => match i with | 0 => some 32 | 1 => some 33 | 2 => some 34 | 3 => some 35 | 4 => some 36 | 5 => some 37 | 6 => some 38 | 7 => some 39 | _ => none, pre := fun i => match i with | 1 => [0] | 3 => [0, 1, 2] | 4 => [0, 1, 2, 3] | 5 => [0, 1, 2, 3, 4] | 7 => [0, 1, 2, 3, 4, 5, 6] | _ => [], ids := fun i => match i with | _ => [], rs := fun i => match i with | 0 => [(2, none)] | 1 => [(32, some 0)] | 2 => [(9, none)] | 3 => [(33, some 1), (34, some 2)] | 4 => [(35, some 3)] | 5 => [(36, some 4)] | 6 => [(3, none)] | 7 => [(37, some 5), (38, some 6)] | _ => [], rh := fun i => match i with | 1 => [(0, none)] | 6 => [(1, none)] | _ => [], V := fun i g => match i with | 0 => .pointer (some ⟨b1, 1, none⟩) | 1 => .slice p0_1 ((a0.f).length) c0_1 | 2 => .int .i64 x15 | 3 => .pointer (some ⟨eB p0_1, eO p0_1 + Int.toNat x15 * Enc.sz F + 0, none⟩) | 4 => .pointer (some ⟨eB p0_1, eO p0_1 + Int.toNat x15 * Enc.sz F + 1, none⟩) | 5 => .agg #[.int .i64 x16.k.s, .int .i64 x16.k.p] | 6 => .agg #[.int .i64 a1.s, .int .i64 a1.p] | 7 => .bool (x16.k == a1) | _ => undef, U := fun i g => match i with | _ => [], Φ := fun i x => match i with | _ => True } g_mixed [2, 3, 9] [0, 1] (by kernel_rfl) (by kernel_rfl) (by kernel_rfl) ⟨⟨⟨⟨⟨⟨⟨⟨trivial, fun _ => ⟨rfl, rfl⟩⟩, fun _ => ⟨rfl, rfl⟩⟩, fun _ => ⟨rfl, rfl⟩⟩, fun _ => ⟨rfl, rfl⟩⟩, fun _ => ⟨rfl, rfl⟩⟩, fun _ => ⟨rfl, rfl⟩⟩, fun _ => ⟨rfl, rfl⟩⟩, fun _ => ⟨rfl, rfl⟩⟩ ?_ ?_
            · refine ⟨⟨⟨⟨⟨⟨⟨⟨trivial, ?_⟩, ?_⟩, ?_⟩, ?_⟩, ?_⟩, ?_⟩, ?_⟩, ?_⟩
              · exact loc_det rfl rfl (fun _ => rfl) trivial (fun g hΦ s h hs hh => ⟨.none, (stp_fieldAddr (j := 1) Tryd.underlying26 rfl ts24 rfl (sv hs 2 rfl) rfl)⟩)
              · exact loc_det rfl rfl (fun _ => rfl) trivial (fun g hΦ s h hs hh => ⟨.none, (stp_load1 ts24 (sv hs 32 rfl) (Cells.box (id := 0) (hh.get 0 _ rfl) 1 rfl))⟩)
              · exact loc_det rfl rfl (fun _ => rfl) trivial (fun g hΦ s h hs hh => ⟨.none, (stp_move (sv hs 9 rfl))⟩)
              · exact loc_det rfl rfl (fun _ => rfl) trivial (fun g hΦ s h hs hh => ⟨.none, (stp_indexAddr Tryd.underlying24 ts53 (by decide) (sv hs 33 rfl) rfl (sv hs 34 rfl) (Rdb.ro hr0_1) e16)⟩)
              · exact loc_det rfl rfl (fun _ => rfl) trivial (fun g hΦ s h hs hh => ⟨.none, (stp_fieldAddr (j := 1) Tryd.underlying53 rfl ts28 rfl (sv hs 35 rfl) rfl)⟩)
              · exact loc_det rfl rfl (fun _ => rfl) trivial (fun g hΦ s h hs hh => ⟨.none, (stp_loadN (us := [_, _]) ts28 (sv hs 36 rfl) (Cells.el (Rdb.ro hr0_1) (by decide) e16 1 2 rfl))⟩)
              · exact loc_det rfl rfl (fun _ => rfl) trivial (fun g hΦ s h hs hh => ⟨.none, (stp_loadN (us := [_, _]) ts28 (sv hs 3 rfl) (Cells.box (id := 1) (hh.get 1 _ rfl) 2 rfl))⟩)
              · exact loc_det rfl rfl (fun _ => rfl) trivial (fun g hΦ s h hs hh => ⟨.none, (stp_eqlS te28 x16.k a1 (sv hs 37 rfl) (sv hs 38 rfl))⟩)
            · intro g hΦ
              refine KW.sub (s' := [(2, .pointer (some ⟨b1, 0, none⟩)), (3, .pointer (some ⟨b2, 0, none⟩)), (7, .slice p9 ((x8).length) c11), (8, .int .i64 v13), (9, .int .i64 x15), (25, .slice p9 ((x8).length) c11), (26, .int .i64 ((x8).length : Int)), (27, .int .i64 v13), (39, .bool (x16.k == a1))]) (h' := [(0, [(b1, .cells #[.slice p0_0 ((a0.b).length) c0_0, .slice p0_1 ((a0.f).length) c0_1] 26 (0, 0))]), (1, [(b2, .cells #[.int .i64 a1.s, .int .i64 a1.p] 28 (0, 0))]), (2, C12)]) ?_ ⟨rfl, rfl, rfl, rfl, rfl, rfl, rfl, rfl, rfl, trivial⟩ ⟨rfl, rfl, rfl, trivial⟩
              refine kw_nx ?_
              refine cw_cond rfl (fun h17 => ?_) (fun h17 => ?_)
              · have H1 := cond_t H1 h17
                refine cw_seq ?_
                refine cw_region ?_
                refine ow_det .none (stp_move rfl) rfl ?_
                refine ow_det .none (stp_move rfl) rfl ?_
                obtain ⟨x18, e18, H1⟩ := bind_some H1
                refine ow_det .none (stp_add rfl rfl e18) rfl ?_
                refine ow_det .none (stp_assign rfl) rfl ?_
                refine ow_det .none (stp_assign rfl) rfl ?_
                refine ow_det .none (stp_assign rfl) rfl ?_
                refine ow_nil ?_
                refine kw_nx ?_
                refine cw_ret ?_
                refine kw_bl_ret ?_
                refine kw_nx_ret ?_
                refine kw_lq_ret ?_
                refine kw_bl_ret ?_
                refine kw_join_ret ?_
                refine kw_nx_ret ?_
                have q1 := Option.some.inj H1
                subst q1
                have q0 := Option.some.inj H0
                subst q0
                exact kw_ret Tryd.results16 (.cons (.tmp rfl) (.cons (.tmp rfl) (.cons (.tmp rfl) .nil))) [] [] trivial (by decide) ⟨rfl, rfl⟩
              · have H1 := cond_f H1 h17
                refine cw_skip ?_
                refine kw_bl_normal ?_
                refine kw_nx ?_
                refine cw_region ?_
                obtain ⟨x19, e19, H1⟩ := bind_some H1
                refine ow_det .none (stp_add rfl rfl e19) rfl ?_
                refine ow_det .none (stp_move rfl) rfl ?_
                refine ow_nil ?_
                exact kw_lqS (js := [0, 1, 2]) (fuel, x19) H1 (Nat.lt_succ_self _) ⟨rfl, rfl, rfl, rfl, rfl, rfl, trivial⟩ ⟨0, [1, 2], rfl, rfl, 1, [2], rfl, rfl, 2, [], rfl, rfl, trivial⟩ (by decide)
          · have H1 := cond_f H1 h14
            refine cw_exit ?_
            refine kw_nx_exit ?_
            refine kw_lq_exit ?_
            refine kw_bl ?_
            have q1 := Option.some.inj H1
            subst q1
            exact kw_joinS (js := [0, 1, 2]) v13 rfl ⟨rfl, rfl, rfl, rfl, rfl, rfl, trivial⟩ ⟨0, [1, 2], rfl, rfl, 1, [2], rfl, rfl, 2, [], rfl, rfl, trivial⟩ (by decide)
        · rintro v13 rfl
          refine KW.sub (s' := [(2, .pointer (some ⟨b1, 0, none⟩)), (3, .pointer (some ⟨b2, 0, none⟩)), (7, .slice p9 ((x8).length) c11), (25, .slice p9 ((x8).length) c11), (26, .int .i64 ((x8).length : Int)), (27, .int .i64 v13)]) (h' := [(0, [(b1, .cells #[.slice p0_0 ((a0.b).length) c0_0, .slice p0_1 ((a0.f).length) c0_1] 26 (0, 0))]), (1, [(b2, .cells #[.int .i64 a1.s, .int .i64 a1.p] 28 (0, 0))]), (2, C12)]) ?_ ⟨rfl, rfl, rfl, rfl, rfl, rfl, trivial⟩ ⟨rfl, rfl, rfl, trivial⟩
          refine kw_nx ?_
          refine cw_seq ?_
          refine cw_region ?_
          refine ow_det .none (stp_move rfl) rfl ?_
          refine ow_det .none (stp_len Tryd.underlying23 rfl) rfl ?_
          refine ow_det .none (stp_assign rfl) rfl ?_
          refine ow_det .none (stp_assign rfl) rfl ?_
          refine ow_det .none (stp_assign rfl) rfl ?_
          refine ow_nil ?_
          refine kw_nx ?_
          refine cw_ret ?_
          have q0 := Option.some.inj H0
          subst q0
          exact kw_ret Tryd.results16 (.cons (.tmp rfl) (.cons (.tmp rfl) (.cons (.tmp rfl) .nil))) [] [] trivial (by decide) ⟨rfl, rfl⟩
end Go.Proofs.YtkocamaoeojfhaaDoor
