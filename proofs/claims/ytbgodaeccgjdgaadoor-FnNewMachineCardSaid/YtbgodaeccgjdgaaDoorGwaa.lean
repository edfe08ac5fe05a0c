/- The walks: functions of the program return what their pure functions say. Printed by a program (gen.py). -/
import Derived.Test.YtbgodaeccgjdgaaDoorGp
import Derived.Test.YtbgodaeccgjdgaaDoorGt
import Derived.Test.YtbgodaeccgjdgaaDoorMan
import Derived.Test.YtbgodaeccgjdgaaDoorMap
import Derived.Test.YtbgodaeccgjdgaaDoorCpy
import Derived.Test.YtbgodaeccgjdgaaDoorGws
set_option linter.unusedSimpArgs false
set_option linter.unusedVariables false
set_option linter.unusedSectionVars false
namespace Go.Proofs.YtbgodaeccgjdgaaDoor
open Go.RowKit
set_option maxHeartbeats 4000000 in
set_option maxRecDepth 20000 in
theorem c_s_l12Rd_pick (fl : Nat) (w : World) (m0 : Nat) (a0_0 : (List UInt8)) (p0_0_0 : Option Addr) (n0_0_0 c0_0_0 : Nat) (a0_1 : Int) (a1 : Int) (hn0_0_0 : n0_0_0 = (a0_0).length) (hr0_0_0 : RO w (hkeys [(0, [(m0, .cells #[.slice p0_0_0 n0_0_0 c0_0_0, .int .i64 a0_1] 80 (0, 0))])]) (RdL p0_0_0 c0_0_0 a0_0)) (hM : Sat w (hkeys [(0, [(m0, .cells #[.slice p0_0_0 n0_0_0 c0_0_0, .int .i64 a0_1] 80 (0, 0))])]) w [(0, [(m0, .cells #[.slice p0_0_0 n0_0_0 c0_0_0, .int .i64 a0_1] 80 (0, 0))])]) (r : Int × Int) (H0 : s_l12Rd_pick fl a0_0 a0_1 a1 = some r) :
    Ct Tryd.prog 37 [.pointer (some ⟨m0, 0, none⟩), .int .i64 a1] w [(0, [(m0, .cells #[.slice p0_0_0 n0_0_0 c0_0_0, .int .i64 a0_1] 80 (0, 0))])] (fun rv h' => rv = .int .i64 r.1 ∧ h' = [(0, [(m0, .cells #[.slice p0_0_0 n0_0_0 c0_0_0, .int .i64 r.2] 80 (0, 0))])]) := by
  obtain rfl := hn0_0_0
  unfold s_l12Rd_pick at H0
  refine ct_of_cw Tryd.func37 rfl Tryd.ntmps37 rfl hM ?_
  obtain ⟨x1, e1, H0⟩ := bind_some H0
  refine sr (oD (sg rfl) rfl (nn (sr (oD (mv rfl) rfl (oD (mv rfl) rfl (oD (stp_nilCheck rfl) rfl (oD (fA 1 Tryd.underlying80 rfl ts3 rfl rfl rfl) rfl (oD (lB 0 ts3 rfl rfl rfl) rfl (oD (stp_add rfl rfl e1) rfl (oD (stp_nilCheck rfl) rfl (oD (fA 1 Tryd.underlying80 rfl ts3 rfl rfl rfl) rfl (oF (stpU_store (id := 0) (cs' := [.slice p0_0_0 ((a0_0).length) c0_0_0, .int .i64 x1]) ts3 rfl rfl rfl rfl rfl rfl rfl) ?_))))))))))))
  rintro _ _ rfl
  obtain ⟨y2, ey2, H0⟩ := bind_some H0
  refine nn (cw_seq (sr (oD (mv rfl) rfl (oD (stp_lss rfl rfl) rfl (oD (mv rfl) rfl (ow_cutY 7 24 y2 ?_ ?_))))))
  · rcases Bool.eq_false_or_eq_true (decide (a1 < 1)) with hy2 | hy2
    · have ey2 := cond_t ey2 hy2
      refine oO rfl hy2 rfl (oO rfl hy2 rfl (oO rfl hy2 rfl (oO rfl hy2 rfl (oO rfl hy2 rfl (oO rfl hy2 rfl (oD (stp_pick_t rfl hy2 rfl) rfl ?_))))))
      obtain rfl := Option.some.inj ey2
      exact ow_nil (jy 7 0)
    · have ey2 := cond_f ey2 hy2
      refine oG rfl hy2 (mv rfl) rfl (oG rfl hy2 (stp_nilCheck rfl) rfl (oG rfl hy2 (fA 0 Tryd.underlying80 rfl ts22 rfl rfl rfl) rfl (oG rfl hy2 (lB 0 ts22 rfl rfl rfl) rfl (oG rfl hy2 (stp_len Tryd.underlying22 rfl) rfl (oG rfl hy2 (stp_eql rfl rfl) rfl (oD (stp_pick_f rfl hy2 rfl) rfl ?_))))))
      obtain rfl := Option.some.inj ey2
      exact ow_nil (jy 7 0)
  · refine ow_nil (kw_nx (cw_cond rfl (fun h3 => ?_) (fun h3 => ?_)))
    · have H0 := cond_t H0 h3
      refine sr (oD (sg rfl) rfl (nn (cw_ret (kw_nx_ret ?_))))
      have q0 := Option.some.inj H0
      subst q0
      exact kw_ret Tryd.results37 (.cons (.tmp rfl) .nil) [(0, [(m0, .cells #[.slice p0_0_0 ((a0_0).length) c0_0_0, .int .i64 x1] 80 (0, 0))])] [0] ⟨0, [], rfl, rfl, trivial⟩ (by decide) ⟨rfl, rfl⟩
    · have H0 := cond_f H0 h3
      obtain ⟨x4, e4, H0⟩ := bind_some H0
      refine cw_skip (kw_nx (sr (oD (mv rfl) rfl (oD (stp_nilCheck rfl) rfl (oD (fA 1 Tryd.underlying80 rfl ts3 rfl rfl rfl) rfl (oD (lB 0 ts3 rfl rfl rfl) rfl (oD (stp_sub rfl rfl e4) rfl (oD (sg rfl) rfl (nn (cw_seq (sr (oD (mv rfl) rfl (oD (mv rfl) rfl ?_)))))))))))))
      refine oD (stp_nilCheck rfl) rfl (oD (fA 0 Tryd.underlying80 rfl ts22 rfl rfl rfl) rfl (oD (lB 0 ts22 rfl rfl rfl) rfl (oD (stp_len Tryd.underlying22 rfl) rfl (oD (stp_lss rfl rfl) rfl (nn (cw_cond rfl (fun h5 => ?_) (fun h5 => ?_)))))))
      · have H0 := cond_t H0 h5
        obtain ⟨x6, e6, H0⟩ := bind_some H0
        obtain ⟨x7, e7, H0⟩ := bind_some H0
        obtain ⟨x8, e8, H0⟩ := bind_some H0
        refine sr (oD (mv rfl) rfl (oD (stp_nilCheck rfl) rfl (oD (fA 0 Tryd.underlying80 rfl ts22 rfl rfl rfl) rfl (oD (lB 0 ts22 rfl rfl rfl) rfl (oD (mv rfl) rfl (oD (stp_indexAddr Tryd.underlying22 ts5 (by decide) rfl rfl rfl (Rdb.ro hr0_0_0) e6) rfl (oD (stp_load1 ts5 rfl (Cells.el (Rdb.ro hr0_0_0) (by decide) e6 0 1 rfl)) rfl (oD (stp_convI Tryd.underlying5 Tryd.underlying3 rfl e7) rfl (oD (mv rfl) rfl (oD (stp_rem rfl rfl e8) rfl (oD (sg rfl) rfl (nn (cw_ret ?_)))))))))))))
        refine kw_nx_ret ?_
        have q0 := Option.some.inj H0
        subst q0
        exact kw_ret Tryd.results37 (.cons (.tmp rfl) .nil) [(0, [(m0, .cells #[.slice p0_0_0 ((a0_0).length) c0_0_0, .int .i64 x1] 80 (0, 0))])] [0] ⟨0, [], rfl, rfl, trivial⟩ (by decide) ⟨rfl, rfl⟩
      · have H0 := cond_f H0 h5
        obtain ⟨x9, e9, H0⟩ := bind_some H0
        obtain ⟨x10, e10, H0⟩ := bind_some H0
        obtain ⟨x11, e11, H0⟩ := bind_some H0
        obtain ⟨x12, e12, H0⟩ := bind_some H0
        obtain ⟨x13, e13, H0⟩ := bind_some H0
        obtain ⟨x14, e14, H0⟩ := bind_some H0
        obtain ⟨x15, e15, H0⟩ := bind_some H0
        obtain ⟨x16, e16, H0⟩ := bind_some H0
        obtain ⟨x17, e17, H0⟩ := bind_some H0
        obtain ⟨x18, e18, H0⟩ := bind_some H0
        obtain ⟨x19, e19, H0⟩ := bind_some H0
        obtain ⟨x20, e20, H0⟩ := bind_some H0
        obtain ⟨x21, e21, H0⟩ := bind_some H0
        obtain ⟨x22, e22, H0⟩ := bind_some H0
        obtain ⟨x23, e23, H0⟩ := bind_some H0
        obtain ⟨x24, e24, H0⟩ := bind_some H0
        refine cw_skip (kw_nx (cw_seq (rdr g_mixed [0, 5] [0] { dst := dS [48, 49, 50, 51, 52, 53, 54, 55, 56, 57, 58, 59, 60, 61, 62, 63, 64, 65, 66, 67, 68, 69, 70, 71, 72, 73, 74, 75, 76, 77, 78, 79, 80, 81, 82, 83, 84, 85, 86, 87, 88, 89, 90, 91, 92, 7], pre := gA [] [[], [0], [0, 1], [0, 1, 2], [], [], [5], [5, 6], [5, 6, 7], rn 5 4, rn 4 6, rn 0 11, rn 0 12, rn 0 13, rn 0 14, [], [15], [15, 16], [15, 16, 17], [], [19], [19, 20], [], [22], [22, 23], [22, 23, 24], rn 22 4, rn 19 8, rn 15 13, rn 15 14, rn 15 15, rn 15 16, rn 0 32, [], [33], rn 0 35, [], [], [37], [37, 38], [37, 38, 39], rn 37 4, rn 36 6, rn 36 7, rn 0 44, rn 0 45], ids := fun _ => [], rs := rL [[(0, 0)], [(47, 1)], [(48, 2)], [(49, 3)], [(5, 0)], [(0, 0)], [(52, 6)], [(53, 7)], [(54, 8)], [(55, 9)], [(51, 5), (56, 10)], [(50, 4), (57, 11)], [(58, 12)], [(59, 13)], [(60, 14)], [(0, 0)], [(62, 16)], [(63, 17)], [(64, 18)], [(5, 0)], [(66, 20)], [(67, 21)], [(0, 0)], [(69, 23)], [(70, 24)], [(71, 25)], [(72, 26)], [(68, 22), (73, 27)], [(65, 19), (74, 28)], [(75, 29)], [(76, 30)], [(77, 31)], [(61, 15), (78, 32)], [(5, 0)], [(80, 34)], [(79, 33), (81, 35)], [(5, 0)], [(0, 0)], [(84, 38)], [(85, 39)], [(86, 40)], [(87, 41)], [(83, 37), (88, 42)], [(89, 43)], [(82, 36), (90, 44)], [(91, 45)]], rh := rL [[], [], [], [(0, 0)], [], [], [], [], [(0, 0)], [], [], [], [], [], [], [], [], [], [(0, 0)], [], [], [], [], [], [], [(0, 0)], [], [], [], [], [], [], [], [], [], [], [], [], [], [], [(0, 0)]], V := fun i g => gA undef [.pointer (some ⟨m0, 0, none⟩), .pointer (some ⟨m0, 0, none⟩), .pointer (some ⟨m0, 0, none⟩), .slice p0_0_0 ((a0_0).length) c0_0_0, .int .i64 x4, .pointer (some ⟨m0, 0, none⟩), .pointer (some ⟨m0, 0, none⟩), .pointer (some ⟨m0, 0, none⟩), .slice p0_0_0 ((a0_0).length) c0_0_0, .int .i64 ((a0_0).length : Int), .int .i64 x9, .pointer (some ⟨eB p0_0_0, eO p0_0_0 + Int.toNat x9 * Enc.sz UInt8 + 0, none⟩), .int .u8 (x10.toNat : Int), .int .i64 x11, .int .i64 x12, .pointer (some ⟨m0, 0, none⟩), .pointer (some ⟨m0, 0, none⟩), .pointer (some ⟨m0, 0, none⟩), .slice p0_0_0 ((a0_0).length) c0_0_0, .int .i64 x4, .int .i64 x13, .int .i64 x14, .pointer (some ⟨m0, 0, none⟩), .pointer (some ⟨m0, 0, none⟩), .pointer (some ⟨m0, 0, none⟩), .slice p0_0_0 ((a0_0).length) c0_0_0, .int .i64 ((a0_0).length : Int), .int .i64 x15, .pointer (some ⟨eB p0_0_0, eO p0_0_0 + Int.toNat x15 * Enc.sz UInt8 + 0, none⟩), .int .u8 (x16.toNat : Int), .int .i64 x17, .int .i64 x18, .int .i64 x19, .int .i64 x4, .int .i64 x20, .int .i64 x21, .int .i64 x4, .pointer (some ⟨m0, 0, none⟩), .pointer (some ⟨m0, 0, none⟩), .pointer (some ⟨m0, 0, none⟩), .slice p0_0_0 ((a0_0).length) c0_0_0, .int .i64 ((a0_0).length : Int), .int .i64 x22, .int .i64 x23, .int .i64 x24, .int .i64 x24] i, U := fun _ _ => [], Φ := fun _ _ => True } ?_ ?_)))
        · exact ⟨⟨⟨⟨⟨⟨⟨⟨⟨⟨⟨⟨⟨⟨⟨⟨⟨⟨⟨⟨⟨⟨⟨⟨⟨⟨⟨⟨⟨⟨⟨⟨⟨⟨⟨⟨⟨⟨⟨⟨⟨⟨⟨⟨⟨⟨trivial, lc rfl rfl fun hs hh => stp_move (sv hs 0 rfl)⟩, lc rfl rfl fun hs hh => stp_nilCheck (sv hs 47 rfl)⟩, lc rfl rfl fun hs hh => stp_fieldAddr (j := 0) Tryd.underlying80 rfl ts22 rfl (sv hs 48 rfl) rfl⟩, lc rfl rfl fun hs hh => stp_load1 ts22 (sv hs 49 rfl) (Cells.box (id := 0) (hh.get 0 _ rfl) 1 rfl)⟩, lc rfl rfl fun hs hh => stp_move (sv hs 5 rfl)⟩, lc rfl rfl fun hs hh => stp_move (sv hs 0 rfl)⟩, lc rfl rfl fun hs hh => stp_nilCheck (sv hs 52 rfl)⟩, lc rfl rfl fun hs hh => stp_fieldAddr (j := 0) Tryd.underlying80 rfl ts22 rfl (sv hs 53 rfl) rfl⟩, lc rfl rfl fun hs hh => stp_load1 ts22 (sv hs 54 rfl) (Cells.box (id := 0) (hh.get 0 _ rfl) 1 rfl)⟩, lc rfl rfl fun hs hh => stp_len Tryd.underlying22 (sv hs 55 rfl)⟩, lc rfl rfl fun hs hh => stp_rem (sv hs 51 rfl) (sv hs 56 rfl) e9⟩, lc rfl rfl fun hs hh => stp_indexAddr Tryd.underlying22 ts5 (by decide) (sv hs 50 rfl) rfl (sv hs 57 rfl) (Rdb.ro hr0_0_0) e10⟩, lc rfl rfl fun hs hh => stp_load1 ts5 (sv hs 58 rfl) (Cells.el (Rdb.ro hr0_0_0) (by decide) e10 0 1 rfl)⟩, lc rfl rfl fun hs hh => stp_convI Tryd.underlying5 Tryd.underlying3 (sv hs 59 rfl) e11⟩, lc rfl rfl fun hs hh => stp_mul (sv hs 60 rfl) rfl e12⟩, lc rfl rfl fun hs hh => stp_move (sv hs 0 rfl)⟩, lc rfl rfl fun hs hh => stp_nilCheck (sv hs 62 rfl)⟩, lc rfl rfl fun hs hh => stp_fieldAddr (j := 0) Tryd.underlying80 rfl ts22 rfl (sv hs 63 rfl) rfl⟩, lc rfl rfl fun hs hh => stp_load1 ts22 (sv hs 64 rfl) (Cells.box (id := 0) (hh.get 0 _ rfl) 1 rfl)⟩, lc rfl rfl fun hs hh => stp_move (sv hs 5 rfl)⟩, lc rfl rfl fun hs hh => stp_mul (sv hs 66 rfl) rfl e13⟩, lc rfl rfl fun hs hh => stp_add (sv hs 67 rfl) rfl e14⟩, lc rfl rfl fun hs hh => stp_move (sv hs 0 rfl)⟩, lc rfl rfl fun hs hh => stp_nilCheck (sv hs 69 rfl)⟩, lc rfl rfl fun hs hh => stp_fieldAddr (j := 0) Tryd.underlying80 rfl ts22 rfl (sv hs 70 rfl) rfl⟩, lc rfl rfl fun hs hh => stp_load1 ts22 (sv hs 71 rfl) (Cells.box (id := 0) (hh.get 0 _ rfl) 1 rfl)⟩, lc rfl rfl fun hs hh => stp_len Tryd.underlying22 (sv hs 72 rfl)⟩, lc rfl rfl fun hs hh => stp_rem (sv hs 68 rfl) (sv hs 73 rfl) e15⟩, lc rfl rfl fun hs hh => stp_indexAddr Tryd.underlying22 ts5 (by decide) (sv hs 65 rfl) rfl (sv hs 74 rfl) (Rdb.ro hr0_0_0) e16⟩, lc rfl rfl fun hs hh => stp_load1 ts5 (sv hs 75 rfl) (Cells.el (Rdb.ro hr0_0_0) (by decide) e16 0 1 rfl)⟩, lc rfl rfl fun hs hh => stp_convI Tryd.underlying5 Tryd.underlying3 (sv hs 76 rfl) e17⟩, lc rfl rfl fun hs hh => stp_mul (sv hs 77 rfl) rfl e18⟩, lc rfl rfl fun hs hh => stp_add (sv hs 61 rfl) (sv hs 78 rfl) e19⟩, lc rfl rfl fun hs hh => stp_move (sv hs 5 rfl)⟩, lc rfl rfl fun hs hh => stp_mul (sv hs 80 rfl) rfl e20⟩, lc rfl rfl fun hs hh => stp_add (sv hs 79 rfl) (sv hs 81 rfl) e21⟩, lc rfl rfl fun hs hh => stp_move (sv hs 5 rfl)⟩, lc rfl rfl fun hs hh => stp_move (sv hs 0 rfl)⟩, lc rfl rfl fun hs hh => stp_nilCheck (sv hs 84 rfl)⟩, lc rfl rfl fun hs hh => stp_fieldAddr (j := 0) Tryd.underlying80 rfl ts22 rfl (sv hs 85 rfl) rfl⟩, lc rfl rfl fun hs hh => stp_load1 ts22 (sv hs 86 rfl) (Cells.box (id := 0) (hh.get 0 _ rfl) 1 rfl)⟩, lc rfl rfl fun hs hh => stp_len Tryd.underlying22 (sv hs 87 rfl)⟩, lc rfl rfl fun hs hh => stp_quo (sv hs 83 rfl) (sv hs 88 rfl) e22⟩, lc rfl rfl fun hs hh => stp_mul (sv hs 89 rfl) rfl e23⟩, lc rfl rfl fun hs hh => stp_add (sv hs 82 rfl) (sv hs 90 rfl) e24⟩, lc rfl rfl fun hs hh => stp_assign (sv hs 91 rfl)⟩
        · intro g hΦ
          refine KW.sub (s' := [(1, .int .i64 a1), (6, .int .i64 x24)]) (h' := [(0, [(m0, .cells #[.slice p0_0_0 ((a0_0).length) c0_0_0, .int .i64 x1] 80 (0, 0))])]) ?_ ⟨rfl, rfl, trivial⟩ ⟨rfl, trivial⟩
          obtain ⟨x25, e25, H0⟩ := bind_some H0
          obtain ⟨x26, e26, H0⟩ := bind_some H0
          refine kw_nx (sr (oD (mv rfl) rfl (oD (mv rfl) rfl (oD (stp_quo rfl rfl e25) rfl (oD (stp_xor rfl rfl) rfl (oD (sg rfl) rfl (nn (sr (oD (mv rfl) rfl (oD (mv rfl) rfl (oD (stp_rem rfl rfl e26) rfl (oD (sg rfl) rfl (nn ?_)))))))))))))
          refine cw_ret ?_
          have q0 := Option.some.inj H0
          subst q0
          exact kw_ret Tryd.results37 (.cons (.tmp rfl) .nil) [(0, [(m0, .cells #[.slice p0_0_0 ((a0_0).length) c0_0_0, .int .i64 x1] 80 (0, 0))])] [0] ⟨0, [], rfl, rfl, trivial⟩ (by decide) ⟨rfl, rfl⟩

set_option maxHeartbeats 4000000 in
set_option maxRecDepth 20000 in
theorem c_s_l12Rd_num (fl : Nat) (w : World) (m0 : Nat) (a0_0 : (List UInt8)) (p0_0_0 : Option Addr) (n0_0_0 c0_0_0 : Nat) (a0_1 : Int) (a1 : (List Int)) (p1_0 : Option Addr) (n1_0 c1_0 : Nat) (hn0_0_0 : n0_0_0 = (a0_0).length) (hr0_0_0 : RO w (hkeys [(0, [(m0, .cells #[.slice p0_0_0 n0_0_0 c0_0_0, .int .i64 a0_1] 80 (0, 0))])]) (RdL p0_0_0 c0_0_0 a0_0)) (hn1_0 : n1_0 = (a1).length) (hr1_0 : RO w (hkeys [(0, [(m0, .cells #[.slice p0_0_0 n0_0_0 c0_0_0, .int .i64 a0_1] 80 (0, 0))])]) (RdL p1_0 c1_0 a1)) (hM : Sat w (hkeys [(0, [(m0, .cells #[.slice p0_0_0 n0_0_0 c0_0_0, .int .i64 a0_1] 80 (0, 0))])]) w [(0, [(m0, .cells #[.slice p0_0_0 n0_0_0 c0_0_0, .int .i64 a0_1] 80 (0, 0))])]) (r : Int × Int) (H0 : s_l12Rd_num fl a0_0 a0_1 a1 = some r) :
    Ct Tryd.prog 11 [.pointer (some ⟨m0, 0, none⟩), .slice p1_0 n1_0 c1_0] w [(0, [(m0, .cells #[.slice p0_0_0 n0_0_0 c0_0_0, .int .i64 a0_1] 80 (0, 0))])] (fun rv h' => rv = .int .i64 r.1 ∧ h' = [(0, [(m0, .cells #[.slice p0_0_0 n0_0_0 c0_0_0, .int .i64 r.2] 80 (0, 0))])]) := by
  obtain rfl := hn0_0_0
  obtain rfl := hn1_0
  unfold s_l12Rd_num at H0
  refine ct_of_cw Tryd.func11 rfl Tryd.ntmps11 rfl hM ?_
  obtain ⟨x1, e1, H0⟩ := bind_some H0
  refine sr (oD (sg rfl) rfl (nn (sr (oD (mv rfl) rfl (oD (mv rfl) rfl (oD (mv rfl) rfl (oD (stp_len Tryd.underlying25 rfl) rfl (oE (stpU_callM (fun i => bif Nat.beq i 0 then 0 else 1 + i) cf37 (fun w hw hb => c_s_l12Rd_pick fl w m0 a0_0 p0_0_0 ((a0_0).length) c0_0_0 a0_1 ((a1).length : Int) rfl (RO.passM hr0_0_0 hw hb) (hw.pass (js := [0]) ⟨0, [], rfl, rfl, trivial⟩ (by decide)) x1 e1) (sevs_cons rfl (sevs_cons rfl sevs_nil)) ⟨rfl, (fun _ _ hp => by obtain ⟨_, rfl⟩ := hp; exact ⟨_, rfl⟩), trivial⟩) rfl ?_))))))))
  rintro _ _ ⟨_, ⟨rfl, rfl⟩, rfl⟩
  obtain ⟨x2, e2, H0⟩ := bind_some H0
  refine oD (stp_indexAddr Tryd.underlying25 ts3 (by decide) rfl rfl rfl (Rdb.ro hr1_0) e2) rfl (oD (stp_load1 ts3 rfl (Cells.el (Rdb.ro hr1_0) (by decide) e2 0 1 rfl)) rfl (oD (sg rfl) rfl (nn (cw_ret ?_))))
  have q0 := Option.some.inj H0
  subst q0
  exact kw_ret Tryd.results11 (.cons (.tmp rfl) .nil) [(0, [(m0, .cells #[.slice p0_0_0 ((a0_0).length) c0_0_0, .int .i64 x1.2] 80 (0, 0))])] [0] ⟨0, [], rfl, rfl, trivial⟩ (by decide) ⟨rfl, rfl⟩

set_option maxHeartbeats 4000000 in
set_option maxRecDepth 20000 in
theorem c_s_DrawNewMachine (fl : Nat) (w : World) (a0 : (List UInt8)) (p0_0 : Option Addr) (n0_0 c0_0 : Nat) (hn0_0 : n0_0 = (a0).length) (hr0_0 : RO w (hkeys []) (RdL p0_0 c0_0 a0)) (r : Int × Int × Int × Int) (H0 : s_DrawNewMachine fl a0 = some r) :
    Ct Tryd.prog 4 [.slice p0_0 n0_0 c0_0] w [] (fun rv h' => rv = .tuple #[.int .i64 r.1, .int .i64 r.2.1, .int .i64 r.2.2.1, .int .i64 r.2.2.2] ∧ h' = []) := by
  obtain rfl := hn0_0
  unfold s_DrawNewMachine at H0
  refine ct_of_cw Tryd.func4 rfl Tryd.ntmps4 rfl (Sat.refl _ _) ?_
  refine sr (oD (sg rfl) rfl (oD (sg rfl) rfl (oD (sg rfl) rfl (oD (sg rfl) rfl (nn (sr (oD (mv rfl) rfl (oE (stpU_call (fun i => 0 + i) cf10 (fun w hw => c_open10 w a0 p0_0 ((a0).length) c0_0 rfl (RO.cap hr0_0).1) (sevs_cons rfl sevs_nil)) rfl ?_))))))))
  rintro _ _ ⟨_, ⟨b1, rfl, rfl⟩, rfl⟩
  refine oD (sg rfl) rfl (nn (sr (oD (mv rfl) rfl (oE (stpU_lit (sz := 1) (l := [4, 16, 1, 0]) [.int .i64 4, .int .i64 16, .int .i64 1, .int .i64 0] sl25 1 (sevp_cons rfl (sevp_cons rfl (sevp_cons rfl (sevp_cons rfl sevp_nil)))) rfl rfl rfl rfl rfl rfl rfl rfl rfl) rfl ?_))))
  rintro _ _ ⟨p2, C3, rfl, rfl, o3⟩
  obtain ⟨x4, e4, H0⟩ := bind_some H0
  refine oE (stpU_callM (fun i => bif Nat.beq i 0 then 0 else 2 + i) cf11 (fun w hw hb => c_s_l12Rd_num fl w b1 (a0.take 2000) p0_0 (((a0.take 2000)).length) c0_0 0 ([4, 16, 1, 0]) p2 4 4 rfl (RO.passM (RO.takeN 2000 hr0_0) hw hb) (by simp) (OwnC.passM (id := 1) rfl o3 hw hb ⟨rfl, trivial⟩) (hw.pass (js := [0]) ⟨0, [], rfl, rfl, trivial⟩ (by decide)) x4 e4) (sevs_cons rfl (sevs_cons rfl sevs_nil)) ⟨rfl, (fun _ _ hp => by obtain ⟨_, rfl⟩ := hp; exact ⟨_, rfl⟩), trivial⟩) rfl ?_
  rintro _ _ ⟨_, ⟨rfl, rfl⟩, rfl⟩
  refine oD (mv rfl) rfl (oE (stpU_lit (sz := 1) (l := [4, 1, 16, 17]) [.int .i64 4, .int .i64 1, .int .i64 16, .int .i64 17] sl25 3 (sevp_cons rfl (sevp_cons rfl (sevp_cons rfl (sevp_cons rfl sevp_nil)))) rfl rfl rfl rfl rfl rfl rfl rfl rfl) rfl ?_)
  rintro _ _ ⟨p5, C6, rfl, rfl, o6⟩
  obtain ⟨x7, e7, H0⟩ := bind_some H0
  refine oE (stpU_callM (fun i => bif Nat.beq i 0 then 0 else 4 + i) cf11 (fun w hw hb => c_s_l12Rd_num fl w b1 (a0.take 2000) p0_0 (((a0.take 2000)).length) c0_0 x4.2 ([4, 1, 16, 17]) p5 4 4 rfl (RO.passM (RO.takeN 2000 hr0_0) hw hb) (by simp) (OwnC.passM (id := 3) rfl o6 hw hb ⟨rfl, trivial⟩) (hw.pass (js := [0]) ⟨0, [], rfl, rfl, trivial⟩ (by decide)) x7 e7) (sevs_cons rfl (sevs_cons rfl sevs_nil)) ⟨rfl, (fun _ _ hp => by obtain ⟨_, rfl⟩ := hp; exact ⟨_, rfl⟩), trivial⟩) rfl ?_
  rintro _ _ ⟨_, ⟨rfl, rfl⟩, rfl⟩
  refine oD (mv rfl) rfl (oE (stpU_lit (sz := 1) (l := [4, 1, 8, 9]) [.int .i64 4, .int .i64 1, .int .i64 8, .int .i64 9] sl25 5 (sevp_cons rfl (sevp_cons rfl (sevp_cons rfl (sevp_cons rfl sevp_nil)))) rfl rfl rfl rfl rfl rfl rfl rfl rfl) rfl ?_)
  rintro _ _ ⟨p8, C9, rfl, rfl, o9⟩
  obtain ⟨x10, e10, H0⟩ := bind_some H0
  refine oE (stpU_callM (fun i => bif Nat.beq i 0 then 0 else 6 + i) cf11 (fun w hw hb => c_s_l12Rd_num fl w b1 (a0.take 2000) p0_0 (((a0.take 2000)).length) c0_0 x7.2 ([4, 1, 8, 9]) p8 4 4 rfl (RO.passM (RO.takeN 2000 hr0_0) hw hb) (by simp) (OwnC.passM (id := 5) rfl o9 hw hb ⟨rfl, trivial⟩) (hw.pass (js := [0]) ⟨0, [], rfl, rfl, trivial⟩ (by decide)) x10 e10) (sevs_cons rfl (sevs_cons rfl sevs_nil)) ⟨rfl, (fun _ _ hp => by obtain ⟨_, rfl⟩ := hp; exact ⟨_, rfl⟩), trivial⟩) rfl ?_
  rintro _ _ ⟨_, ⟨rfl, rfl⟩, rfl⟩
  refine oD (mv rfl) rfl (oE (stpU_lit (sz := 1) (l := [2, 8, 1, 0]) [.int .i64 2, .int .i64 8, .int .i64 1, .int .i64 0] sl25 7 (sevp_cons rfl (sevp_cons rfl (sevp_cons rfl (sevp_cons rfl sevp_nil)))) rfl rfl rfl rfl rfl rfl rfl rfl rfl) rfl ?_)
  rintro _ _ ⟨p11, C12, rfl, rfl, o12⟩
  obtain ⟨x13, e13, H0⟩ := bind_some H0
  refine oE (stpU_callM (fun i => bif Nat.beq i 0 then 0 else 8 + i) cf11 (fun w hw hb => c_s_l12Rd_num fl w b1 (a0.take 2000) p0_0 (((a0.take 2000)).length) c0_0 x10.2 ([2, 8, 1, 0]) p11 4 4 rfl (RO.passM (RO.takeN 2000 hr0_0) hw hb) (by simp) (OwnC.passM (id := 7) rfl o12 hw hb ⟨rfl, trivial⟩) (hw.pass (js := [0]) ⟨0, [], rfl, rfl, trivial⟩ (by decide)) x13 e13) (sevs_cons rfl (sevs_cons rfl sevs_nil)) ⟨rfl, (fun _ _ hp => by obtain ⟨_, rfl⟩ := hp; exact ⟨_, rfl⟩), trivial⟩) rfl ?_
  rintro _ _ ⟨_, ⟨rfl, rfl⟩, rfl⟩
  refine oD (sg rfl) rfl (oD (sg rfl) rfl (oD (sg rfl) rfl (oD (sg rfl) rfl (nn (cw_ret ?_)))))
  have q0 := Option.some.inj H0
  subst q0
  exact kw_ret Tryd.results4 (.cons (.tmp rfl) (.cons (.tmp rfl) (.cons (.tmp rfl) (.cons (.tmp rfl) .nil)))) [] [] trivial (by decide) ⟨rfl, rfl⟩

set_option maxHeartbeats 4000000 in
set_option maxRecDepth 20000 in
theorem c_i_bucketsValid (fl : Nat) (w : World) (a0 : Int) (r : Bool) (H0 : i_bucketsValid fl a0 = some r) :
    Ct Tryd.prog 38 [.int .i64 a0] w [] (fun rv h' => rv = .bool r ∧ h' = []) := by
  unfold i_bucketsValid at H0
  refine ct_of_cw Tryd.func38 rfl Tryd.ntmps38 rfl (Sat.refl _ _) ?_
  obtain ⟨y1, ey1, H0⟩ := bind_some H0
  refine sr (oD (sg rfl) rfl (nn (sr (oD (mv rfl) rfl (oD (stp_geq rfl rfl) rfl (oD (mv rfl) rfl (ow_cutY 3 8 y1 ?_ ?_)))))))
  · rcases Bool.eq_false_or_eq_true (decide (1 ≤ a0)) with hy1 | hy1
    · have ey1 := cond_t ey1 hy1
      refine oG rfl hy1 (mv rfl) rfl (oG rfl hy1 (stp_leq rfl rfl) rfl (oD (stp_pick_t rfl hy1 rfl) rfl ?_))
      obtain rfl := Option.some.inj ey1
      exact ow_nil (jy 3 0)
    · have ey1 := cond_f ey1 hy1
      refine oO rfl hy1 rfl (oO rfl hy1 rfl (oD (stp_pick_f rfl hy1 rfl) rfl ?_))
      obtain rfl := Option.some.inj ey1
      exact ow_nil (jy 3 0)
  · refine oD (sg rfl) rfl (nn (cw_ret ?_))
    have q0 := Option.some.inj H0
    subst q0
    exact kw_ret Tryd.results38 (.cons (.tmp rfl) .nil) [] [] trivial (by decide) ⟨rfl, rfl⟩

set_option maxHeartbeats 4000000 in
set_option maxRecDepth 20000 in
theorem c_math_bits_Mul64 (fl : Nat) (w : World) (a0 : Int) (a1 : Int) (r : Int × Int) (H0 : math_bits_Mul64 fl a0 a1 = some r) :
    Ct Tryd.prog 75 [.int .u64 a0, .int .u64 a1] w [] (fun rv h' => rv = .tuple #[.int .u64 r.1, .int .u64 r.2] ∧ h' = []) := by
  unfold math_bits_Mul64 at H0
  refine ct_of_cw Tryd.func75 rfl Tryd.ntmps75 rfl (Sat.refl _ _) ?_
  refine sr (oD (sg rfl) rfl (oD (sg rfl) rfl (nn (sr (oD (mv rfl) rfl (oD (stp_andU rfl rfl) rfl (oD (sg rfl) rfl (nn (sr (oD (mv rfl) rfl (oD (stp_shr (d := 4294967296) (by decide) rfl rfl) rfl (oD (sg rfl) rfl (nn ?_)))))))))))))
  obtain ⟨x1, e1, H0⟩ := bind_some H0
  refine sr (oD (mv rfl) rfl (oD (stp_andU rfl rfl) rfl (oD (sg rfl) rfl (nn (sr (oD (mv rfl) rfl (oD (stp_shr (d := 4294967296) (by decide) rfl rfl) rfl (oD (sg rfl) rfl (nn (sr (oD (mv rfl) rfl (oD (mv rfl) rfl (oD (stp_mulU rfl rfl e1) rfl ?_)))))))))))))
  obtain ⟨x2, e2, H0⟩ := bind_some H0
  obtain ⟨x3, e3, H0⟩ := bind_some H0
  refine oD (sg rfl) rfl (nn (sr (oD (mv rfl) rfl (oD (mv rfl) rfl (oD (stp_mulU rfl rfl e2) rfl (oD (mv rfl) rfl (oD (stp_shr (d := 4294967296) (by decide) rfl rfl) rfl (oD (stp_addU rfl rfl e3) rfl (oD (sg rfl) rfl (nn (sr (oD (mv rfl) rfl (oD (stp_andU rfl rfl) rfl ?_)))))))))))))
  obtain ⟨x4, e4, H0⟩ := bind_some H0
  obtain ⟨x5, e5, H0⟩ := bind_some H0
  refine oD (sg rfl) rfl (nn (sr (oD (mv rfl) rfl (oD (stp_shr (d := 4294967296) (by decide) rfl rfl) rfl (oD (sg rfl) rfl (nn (sr (oD (mv rfl) rfl (oD (mv rfl) rfl (oD (mv rfl) rfl (oD (stp_mulU rfl rfl e4) rfl (oD (stp_addU rfl rfl e5) rfl (oD (sg rfl) rfl ?_)))))))))))))
  obtain ⟨x6, e6, H0⟩ := bind_some H0
  obtain ⟨x7, e7, H0⟩ := bind_some H0
  obtain ⟨x8, e8, H0⟩ := bind_some H0
  refine nn (sr (oD (mv rfl) rfl (oD (mv rfl) rfl (oD (stp_mulU rfl rfl e6) rfl (oD (mv rfl) rfl (oD (stp_addU rfl rfl e7) rfl (oD (mv rfl) rfl (oD (stp_shr (d := 4294967296) (by decide) rfl rfl) rfl (oD (stp_addU rfl rfl e8) rfl (oD (sg rfl) rfl (nn (sr (oD (mv rfl) rfl ?_)))))))))))))
  obtain ⟨x9, e9, H0⟩ := bind_some H0
  refine oD (mv rfl) rfl (oD (stp_mulU rfl rfl e9) rfl (oD (sg rfl) rfl (nn (cw_ret ?_))))
  have q0 := Option.some.inj H0
  subst q0
  exact kw_ret Tryd.results75 (.cons (.tmp rfl) (.cons (.tmp rfl) .nil)) [] [] trivial (by decide) ⟨rfl, rfl⟩

set_option maxHeartbeats 4000000 in
set_option maxRecDepth 20000 in
theorem c_math_bits_Mul (fl : Nat) (w : World) (a0 : Int) (a1 : Int) (r : Int × Int) (H0 : math_bits_Mul fl a0 a1 = some r) :
    Ct Tryd.prog 68 [.int .u64 a0, .int .u64 a1] w [] (fun rv h' => rv = .tuple #[.int .u64 r.1, .int .u64 r.2] ∧ h' = []) := by
  unfold math_bits_Mul at H0
  refine ct_of_cw Tryd.func68 rfl Tryd.ntmps68 rfl (Sat.refl _ _) ?_
  refine sr (oD (sg rfl) rfl (oD (sg rfl) rfl (nn (cw_seq (cw_cond rfl (fun h1 => ?_) (fun h1 => ?_))))))
  · cases h1
  · have H0 := cond_f H0 h1
    obtain ⟨x2, e2, H0⟩ := bind_some H0
    refine cw_skip (kw_nx (sr (oD (mv rfl) rfl (oD (mv rfl) rfl (oE (stpU_call (fun i => 0 + i) cf75 (fun w hw => c_math_bits_Mul64 fl w a0 a1 x2 e2) (sevs_cons rfl (sevs_cons rfl sevs_nil))) rfl ?_)))))
    rintro _ _ ⟨_, ⟨rfl, rfl⟩, rfl⟩
    refine oD (mv rfl) rfl (oD (stp_extract rfl rfl) rfl (oD (stp_extract rfl rfl) rfl (oD (sg rfl) rfl (oD (sg rfl) rfl (nn (sr (oD (mv rfl) rfl (oD (mv rfl) rfl (oD (sg rfl) rfl (oD (sg rfl) rfl (nn (cw_ret ?_))))))))))))
    have q0 := Option.some.inj H0
    subst q0
    exact kw_ret Tryd.results68 (.cons (.tmp rfl) (.cons (.tmp rfl) .nil)) [] [] trivial (by decide) ⟨rfl, rfl⟩

set_option maxHeartbeats 4000000 in
set_option maxRecDepth 20000 in
theorem c_slices_Repeat_Int (fl : Nat) (w : World) (a0 : (List Int)) (p0_0 : Option Addr) (n0_0 c0_0 : Nat) (a1 : Int) (hn0_0 : n0_0 = (a0).length) (hr0_0 : RO w (hkeys []) (RdL p0_0 c0_0 a0)) (r : (List Int)) (H0 : slices_Repeat_Int fl a0 a1 = some r) :
    Ct Tryd.prog 39 [.slice p0_0 n0_0 c0_0, .int .i64 a1] w [] (fun rv h' => ∃ (x0 : Option Addr) (y0 z0 : Nat) (C0 : Res), rv = .slice x0 y0 z0 ∧ h' = [(0, C0)] ∧ y0 = (r).length ∧ OwnC 3 x0 z0 r C0) := by
  obtain rfl := hn0_0
  unfold slices_Repeat_Int at H0
  refine ct_of_cw Tryd.func39 rfl Tryd.ntmps39 rfl (Sat.refl _ _) ?_
  refine sr (oD (sg rfl) rfl (nn (cw_seq (sr (oD (mv rfl) rfl (oD (stp_lss rfl rfl) rfl (nn (cw_cond rfl (fun h1 => ?_) (fun h1 => ?_)))))))))
  · have H0 := cond_t H0 h1; cases H0
  · have H0 := cond_f H0 h1
    obtain ⟨x2, e2, H0⟩ := bind_some H0
    obtain ⟨x3, e3, H0⟩ := bind_some H0
    obtain ⟨x4, e4, H0⟩ := bind_some H0
    refine cw_skip (kw_nx (sr (oD (mv rfl) rfl (oD (stp_len Tryd.underlying25 rfl) rfl (oD (stp_convU Tryd.underlying3 Tryd.underlying107 rfl e2) rfl (oD (mv rfl) rfl (oD (stp_convU Tryd.underlying3 Tryd.underlying107 rfl e3) rfl (oE (stpU_call (fun i => 0 + i) cf68 (fun w hw => c_math_bits_Mul fl w x2 x3 x4 e4) (sevs_cons rfl (sevs_cons rfl sevs_nil))) rfl ?_))))))))
    rintro _ _ ⟨_, ⟨rfl, rfl⟩, rfl⟩
    obtain ⟨y5, ey5, H0⟩ := bind_some H0
    refine oD (mv rfl) rfl (oD (stp_extract rfl rfl) rfl (oD (stp_extract rfl rfl) rfl (oD (sg rfl) rfl (oD (sg rfl) rfl (nn (cw_seq (sr (oD (mv rfl) rfl (oD (stp_gtr rfl rfl) rfl (oD (mv rfl) rfl (ow_cutY 3 26 y5 ?_ ?_)))))))))))
    · rcases Bool.eq_false_or_eq_true (decide (0 < x4.1)) with hy5 | hy5
      · have ey5 := cond_t ey5 hy5
        refine oO rfl hy5 rfl (oO rfl hy5 rfl (oD (stp_pick_t rfl hy5 rfl) rfl ?_))
        obtain rfl := Option.some.inj ey5
        exact ow_nil (jy 3 0)
      · have ey5 := cond_f ey5 hy5
        refine oG rfl hy5 (mv rfl) rfl (oG rfl hy5 (stp_gtr rfl rfl) rfl (oD (stp_pick_f rfl hy5 rfl) rfl ?_))
        obtain rfl := Option.some.inj ey5
        exact ow_nil (jy 3 0)
    · refine ow_nil (kw_nx (cw_cond rfl (fun h6 => ?_) (fun h6 => ?_)))
      · have H0 := cond_t H0 h6; cases H0
      · have H0 := cond_f H0 h6
        obtain ⟨x7, e7, H0⟩ := bind_some H0
        obtain ⟨x8, e8, H0⟩ := bind_some H0
        refine cw_skip (kw_nx (sr (oD (mv rfl) rfl (oD (stp_convI Tryd.underlying107 Tryd.underlying3 rfl e7) rfl (oE (stpU_make sl25 rfl 0 rfl rfl e8) rfl ?_)))))
        rintro _ _ ⟨p9, C10, rfl, rfl, o10⟩
        refine oD (sg rfl) rfl (nn (sr (oD (mv rfl) rfl (oD (mv rfl) rfl (oE (stpU_copyW (id := 0) sl25 rfl (by simp) rfl rfl rfl o10 (Rdb.ro hr0_0)) rfl ?_)))))
        rintro _ _ ⟨C11, rfl, rfl, o11⟩
        obtain ⟨o0_0, eo0_0, H0⟩ := bind_some H0
        refine oD (sg rfl) rfl (nn (cw_seq (cw_join (ι := (List Int) × Int × Res) (fun | (v12, v14, C13) => o0_0 = .out (v12, v14) ∧ x8 = (v12).length ∧ OwnC (α := Int) 3 p9 x8 v12 C13) (fun | (v12, v14, C13) => [(7, .slice p9 x8 x8), (8, .int .i64 v14)]) (fun | (v12, v14, C13) => [(0, C13)]) ?_ ?_)))
        · refine cw_block (cw_loopS (ι := Nat × (List Int) × Int × Res) (js := [0]) (fun x => x.1) (fun | (fuel, v12, v14, C13) => slices_Repeat_Int_L0 fl x8 fuel v12 v14 = some o0_0 ∧ x8 = (v12).length ∧ OwnC (α := Int) 3 p9 x8 v12 C13) (fun | (_, v12, v14, C13) => [(7, .slice p9 x8 x8), (8, .int .i64 v14)]) (fun | (_, v12, v14, C13) => [(0, C13)]) (fl, (cpy (List.replicate x8 (0 : Int)) 0 a0), ((min (a0).length (((List.replicate x8 (0 : Int))).length - 0) : Nat) : Int), C11) ⟨eo0_0, (by simp [cpy_len]), o11⟩ ⟨rfl, rfl, trivial⟩ ⟨0, [], rfl, rfl, trivial⟩ (by decide) ?_)
          rintro ⟨fuel, v12, v14, C13⟩ ⟨H1, hl13, o13⟩
          have H1 : slices_Repeat_Int_L0 fl x8 fuel v12 v14 = some o0_0 := H1
          rcases fuel with _ | fuel
          · rw [slices_Repeat_Int_L0.eq_1] at H1; cases H1
          rw [slices_Repeat_Int_L0.eq_2] at H1
          refine CW.sub (s' := [(7, .slice p9 x8 x8), (8, .int .i64 v14)]) (h' := [(0, C13)]) ?_ ⟨rfl, rfl, trivial⟩ ⟨rfl, trivial⟩
          refine cw_seq (sr (oD (mv rfl) rfl (oD (mv rfl) rfl (oD (stp_len Tryd.underlying25 rfl) rfl (oD (stp_lss rfl rfl) rfl (nn (cw_cond rfl (fun h15 => ?_) (fun h15 => ?_))))))))
          · have H1 := cond_t H1 h15
            obtain ⟨x16, e16, H1⟩ := bind_some H1
            obtain ⟨x17, e17, H1⟩ := bind_some H1
            obtain ⟨x19, e19, H1⟩ := bind_some H1
            refine cw_skip (kw_nx (cw_block (rdr g_mixed [7, 8] [0] { dst := dS [39, 40, 41, 42, 43, 44, 45, 46, 47, 9], pre := gA [] [[], [], [], [1, 2], [], [], [4, 5], rn 1 6, rn 0 8, rn 0 9], ids := gA [] [[], [], [], [], [], [], [], [0]], rs := rL [[(8, 0)], [(7, 0)], [(8, 0)], [(39, 2), (40, 3)], [(7, 0)], [(8, 0)], [(42, 5), (43, 6)], [(41, 4), (44, 7)], [(38, 1), (45, 8)], [(46, 9)]], rh := rL [[], [], [], [(0, 0)], [], [], [(0, 0)], [(0, 0)]], V := fun i g => gA undef [.int .i64 v14, .slice p9 x8 x8, .int .i64 v14, .slice (dropA p9 x8 v14 1) ((x16).length) (x8 - Int.toNat v14), .slice p9 x8 x8, .int .i64 v14, .slice p9 ((x17).length) x8, .int .i64 ((min (x17).length ((v12).length - (Int.toNat v14)) : Nat) : Int), .int .i64 x19, .int .i64 x19] i, U := fun i g => match i with | 7 => [(0, ((g 7).R 0))] | _ => [], Φ := fun i x => match i with | 7 => OwnC (α := Int) 3 p9 x8 (cpy v12 (Int.toNat v14) x17) (x.R 0) | _ => True } ?_ ?_)))
            · refine ⟨⟨⟨⟨⟨⟨⟨⟨⟨⟨trivial, lc rfl rfl fun hs hh => stp_move (sv hs 8 rfl)⟩, lc rfl rfl fun hs hh => stp_move (sv hs 7 rfl)⟩, lc rfl rfl fun hs hh => stp_move (sv hs 8 rfl)⟩, lc rfl rfl fun hs hh => stp_drop Tryd.underlying25 ts3 (sv hs 39 rfl) (by simp [hl13]) (sv hs 40 rfl) (Rdb.own (id := 0) (hh.get 0 _ rfl) o13) e16⟩, lc rfl rfl fun hs hh => stp_move (sv hs 7 rfl)⟩, lc rfl rfl fun hs hh => stp_move (sv hs 8 rfl)⟩, lc rfl rfl fun hs hh => stp_take Tryd.underlying25 ts3 (sv hs 42 rfl) (by simp [hl13]) (sv hs 43 rfl) (Rdb.own (id := 0) (hh.get 0 _ rfl) o13) e17⟩, ?_⟩, lc rfl rfl fun hs hh => stp_add (sv hs 38 rfl) (sv hs 45 rfl) e19⟩, lc rfl rfl fun hs hh => stp_assign (sv hs 46 rfl)⟩
              · refine le rfl rfl (fun g hΦ s h hs hh => (stpU_copyD (id := 0) sl25 (sv hs 41 rfl) e16 rfl (sv hs 44 rfl) rfl (hh.get 0 _ rfl) o13 (Rdb.take (Rdb.own (id := 0) (hh.get 0 _ rfl) o13) e17))) ?_
                rintro g _ _ ⟨C18, rfl, rfl, o18⟩
                exact ⟨⟨[], [], [C18]⟩, o18, .inr rfl, rfl⟩
            · intro g hΦ
              refine kw_gen (ι := Res) ((g 7).R 0) (fun | C18 => OwnC (α := Int) 3 p9 x8 (cpy v12 (Int.toNat v14) x17) C18) (fun | C18 => [(7, .slice p9 x8 x8), (8, .int .i64 x19)]) (fun | C18 => [(0, C18)]) (hΦ 7 (by decide)) ⟨rfl, rfl, trivial⟩ ⟨rfl, trivial⟩ ?_
              rintro C18 o18
              have o18 : OwnC (α := Int) 3 p9 x8 (cpy v12 (Int.toNat v14) x17) C18 := o18
              refine KW.sub (s' := [(7, .slice p9 x8 x8), (8, .int .i64 x19)]) (h' := [(0, C18)]) ?_ ⟨rfl, rfl, trivial⟩ ⟨rfl, trivial⟩
              exact kw_bl_normal (kw_lqS (js := [0]) (fuel, (cpy v12 (Int.toNat v14) x17), x19, C18) ⟨H1, (by simp [cpy_len, hl13]), o18⟩ (Nat.lt_succ_self _) ⟨rfl, rfl, trivial⟩ ⟨0, [], rfl, rfl, trivial⟩ (by decide))
          · have H1 := cond_f H1 h15
            refine cw_exit (kw_nx_exit (kw_lq_exit (kw_bl ?_)))
            have q1 := Option.some.inj H1
            subst q1
            exact kw_joinS (js := [0]) (v12, v14, C13) ⟨rfl, (by simp [hl13]), o13⟩ ⟨rfl, rfl, trivial⟩ ⟨0, [], rfl, rfl, trivial⟩ (by decide)
        · rintro ⟨v12, v14, C13⟩ ⟨rfl, hl13, o13⟩
          refine KW.sub (s' := [(7, .slice p9 x8 x8), (8, .int .i64 v14)]) (h' := [(0, C13)]) ?_ ⟨rfl, rfl, trivial⟩ ⟨rfl, trivial⟩
          refine kw_nx (sr (oD (mv rfl) rfl (oD (sg rfl) rfl (nn (cw_ret ?_)))))
          have q0 := Option.some.inj H0
          subst q0
          exact kw_ret Tryd.results39 (.cons (.tmp rfl) .nil) [(0, C13)] [0] ⟨0, [], rfl, rfl, trivial⟩ (by decide) ⟨p9, x8, x8, C13, rfl, rfl, (by simp [hl13]), o13⟩

set_option maxHeartbeats 4000000 in
set_option maxRecDepth 20000 in
theorem c_slices_Repeat_Frame (fl : Nat) (w : World) (a0 : (List F)) (p0_0 : Option Addr) (n0_0 c0_0 : Nat) (a1 : Int) (hn0_0 : n0_0 = (a0).length) (hr0_0 : RO w (hkeys []) (RdL p0_0 c0_0 a0)) (r : (List F)) (H0 : slices_Repeat_Frame fl a0 a1 = some r) :
    Ct Tryd.prog 40 [.slice p0_0 n0_0 c0_0, .int .i64 a1] w [] (fun rv h' => ∃ (x0 : Option Addr) (y0 z0 : Nat) (C0 : Res), rv = .slice x0 y0 z0 ∧ h' = [(0, C0)] ∧ y0 = (r).length ∧ OwnC 71 x0 z0 r C0) := by
  obtain rfl := hn0_0
  unfold slices_Repeat_Frame at H0
  refine ct_of_cw Tryd.func40 rfl Tryd.ntmps40 rfl (Sat.refl _ _) ?_
  refine sr (oD (sg rfl) rfl (nn (cw_seq (sr (oD (mv rfl) rfl (oD (stp_lss rfl rfl) rfl (nn (cw_cond rfl (fun h1 => ?_) (fun h1 => ?_)))))))))
  · have H0 := cond_t H0 h1; cases H0
  · have H0 := cond_f H0 h1
    obtain ⟨x2, e2, H0⟩ := bind_some H0
    obtain ⟨x3, e3, H0⟩ := bind_some H0
    obtain ⟨x4, e4, H0⟩ := bind_some H0
    refine cw_skip (kw_nx (sr (oD (mv rfl) rfl (oD (stp_len Tryd.underlying26 rfl) rfl (oD (stp_convU Tryd.underlying3 Tryd.underlying107 rfl e2) rfl (oD (mv rfl) rfl (oD (stp_convU Tryd.underlying3 Tryd.underlying107 rfl e3) rfl (oE (stpU_call (fun i => 0 + i) cf68 (fun w hw => c_math_bits_Mul fl w x2 x3 x4 e4) (sevs_cons rfl (sevs_cons rfl sevs_nil))) rfl ?_))))))))
    rintro _ _ ⟨_, ⟨rfl, rfl⟩, rfl⟩
    obtain ⟨y5, ey5, H0⟩ := bind_some H0
    refine oD (mv rfl) rfl (oD (stp_extract rfl rfl) rfl (oD (stp_extract rfl rfl) rfl (oD (sg rfl) rfl (oD (sg rfl) rfl (nn (cw_seq (sr (oD (mv rfl) rfl (oD (stp_gtr rfl rfl) rfl (oD (mv rfl) rfl (ow_cutY 3 26 y5 ?_ ?_)))))))))))
    · rcases Bool.eq_false_or_eq_true (decide (0 < x4.1)) with hy5 | hy5
      · have ey5 := cond_t ey5 hy5
        refine oO rfl hy5 rfl (oO rfl hy5 rfl (oD (stp_pick_t rfl hy5 rfl) rfl ?_))
        obtain rfl := Option.some.inj ey5
        exact ow_nil (jy 3 0)
      · have ey5 := cond_f ey5 hy5
        refine oG rfl hy5 (mv rfl) rfl (oG rfl hy5 (stp_gtr rfl rfl) rfl (oD (stp_pick_f rfl hy5 rfl) rfl ?_))
        obtain rfl := Option.some.inj ey5
        exact ow_nil (jy 3 0)
    · refine ow_nil (kw_nx (cw_cond rfl (fun h6 => ?_) (fun h6 => ?_)))
      · have H0 := cond_t H0 h6; cases H0
      · have H0 := cond_f H0 h6
        obtain ⟨x7, e7, H0⟩ := bind_some H0
        obtain ⟨x8, e8, H0⟩ := bind_some H0
        refine cw_skip (kw_nx (sr (oD (mv rfl) rfl (oD (stp_convI Tryd.underlying107 Tryd.underlying3 rfl e7) rfl (oE (stpU_make sl26 rfl 0 rfl rfl e8) rfl ?_)))))
        rintro _ _ ⟨p9, C10, rfl, rfl, o10⟩
        refine oD (sg rfl) rfl (nn (sr (oD (mv rfl) rfl (oD (mv rfl) rfl (oE (stpU_copyW (id := 0) sl26 rfl (by simp) rfl rfl rfl o10 (Rdb.ro hr0_0)) rfl ?_)))))
        rintro _ _ ⟨C11, rfl, rfl, o11⟩
        obtain ⟨o0_0, eo0_0, H0⟩ := bind_some H0
        refine oD (sg rfl) rfl (nn (cw_seq (cw_join (ι := (List F) × Int × Res) (fun | (v12, v14, C13) => o0_0 = .out (v12, v14) ∧ x8 = (v12).length ∧ OwnC (α := F) 71 p9 x8 v12 C13) (fun | (v12, v14, C13) => [(7, .slice p9 x8 x8), (8, .int .i64 v14)]) (fun | (v12, v14, C13) => [(0, C13)]) ?_ ?_)))
        · refine cw_block (cw_loopS (ι := Nat × (List F) × Int × Res) (js := [0]) (fun x => x.1) (fun | (fuel, v12, v14, C13) => slices_Repeat_Frame_L0 fl x8 fuel v12 v14 = some o0_0 ∧ x8 = (v12).length ∧ OwnC (α := F) 71 p9 x8 v12 C13) (fun | (_, v12, v14, C13) => [(7, .slice p9 x8 x8), (8, .int .i64 v14)]) (fun | (_, v12, v14, C13) => [(0, C13)]) (fl, (cpy (List.replicate x8 (⟨false, (⟨0, 0⟩ : K), 0, 0⟩ : F)) 0 a0), ((min (a0).length (((List.replicate x8 (⟨false, (⟨0, 0⟩ : K), 0, 0⟩ : F))).length - 0) : Nat) : Int), C11) ⟨eo0_0, (by simp [cpy_len]), o11⟩ ⟨rfl, rfl, trivial⟩ ⟨0, [], rfl, rfl, trivial⟩ (by decide) ?_)
          rintro ⟨fuel, v12, v14, C13⟩ ⟨H1, hl13, o13⟩
          have H1 : slices_Repeat_Frame_L0 fl x8 fuel v12 v14 = some o0_0 := H1
          rcases fuel with _ | fuel
          · rw [slices_Repeat_Frame_L0.eq_1] at H1; cases H1
          rw [slices_Repeat_Frame_L0.eq_2] at H1
          refine CW.sub (s' := [(7, .slice p9 x8 x8), (8, .int .i64 v14)]) (h' := [(0, C13)]) ?_ ⟨rfl, rfl, trivial⟩ ⟨rfl, trivial⟩
          refine cw_seq (sr (oD (mv rfl) rfl (oD (mv rfl) rfl (oD (stp_len Tryd.underlying26 rfl) rfl (oD (stp_lss rfl rfl) rfl (nn (cw_cond rfl (fun h15 => ?_) (fun h15 => ?_))))))))
          · have H1 := cond_t H1 h15
            obtain ⟨x16, e16, H1⟩ := bind_some H1
            obtain ⟨x17, e17, H1⟩ := bind_some H1
            obtain ⟨x19, e19, H1⟩ := bind_some H1
            refine cw_skip (kw_nx (cw_block (rdr g_mixed [7, 8] [0] { dst := dS [39, 40, 41, 42, 43, 44, 45, 46, 47, 9], pre := gA [] [[], [], [], [1, 2], [], [], [4, 5], rn 1 6, rn 0 8, rn 0 9], ids := gA [] [[], [], [], [], [], [], [], [0]], rs := rL [[(8, 0)], [(7, 0)], [(8, 0)], [(39, 2), (40, 3)], [(7, 0)], [(8, 0)], [(42, 5), (43, 6)], [(41, 4), (44, 7)], [(38, 1), (45, 8)], [(46, 9)]], rh := rL [[], [], [], [(0, 0)], [], [], [(0, 0)], [(0, 0)]], V := fun i g => gA undef [.int .i64 v14, .slice p9 x8 x8, .int .i64 v14, .slice (dropA p9 x8 v14 5) ((x16).length) (x8 - Int.toNat v14), .slice p9 x8 x8, .int .i64 v14, .slice p9 ((x17).length) x8, .int .i64 ((min (x17).length ((v12).length - (Int.toNat v14)) : Nat) : Int), .int .i64 x19, .int .i64 x19] i, U := fun i g => match i with | 7 => [(0, ((g 7).R 0))] | _ => [], Φ := fun i x => match i with | 7 => OwnC (α := F) 71 p9 x8 (cpy v12 (Int.toNat v14) x17) (x.R 0) | _ => True } ?_ ?_)))
            · refine ⟨⟨⟨⟨⟨⟨⟨⟨⟨⟨trivial, lc rfl rfl fun hs hh => stp_move (sv hs 8 rfl)⟩, lc rfl rfl fun hs hh => stp_move (sv hs 7 rfl)⟩, lc rfl rfl fun hs hh => stp_move (sv hs 8 rfl)⟩, lc rfl rfl fun hs hh => stp_drop Tryd.underlying26 ts71 (sv hs 39 rfl) (by simp [hl13]) (sv hs 40 rfl) (Rdb.own (id := 0) (hh.get 0 _ rfl) o13) e16⟩, lc rfl rfl fun hs hh => stp_move (sv hs 7 rfl)⟩, lc rfl rfl fun hs hh => stp_move (sv hs 8 rfl)⟩, lc rfl rfl fun hs hh => stp_take Tryd.underlying26 ts71 (sv hs 42 rfl) (by simp [hl13]) (sv hs 43 rfl) (Rdb.own (id := 0) (hh.get 0 _ rfl) o13) e17⟩, ?_⟩, lc rfl rfl fun hs hh => stp_add (sv hs 38 rfl) (sv hs 45 rfl) e19⟩, lc rfl rfl fun hs hh => stp_assign (sv hs 46 rfl)⟩
              · refine le rfl rfl (fun g hΦ s h hs hh => (stpU_copyD (id := 0) sl26 (sv hs 41 rfl) e16 rfl (sv hs 44 rfl) rfl (hh.get 0 _ rfl) o13 (Rdb.take (Rdb.own (id := 0) (hh.get 0 _ rfl) o13) e17))) ?_
                rintro g _ _ ⟨C18, rfl, rfl, o18⟩
                exact ⟨⟨[], [], [C18]⟩, o18, .inr rfl, rfl⟩
            · intro g hΦ
              refine kw_gen (ι := Res) ((g 7).R 0) (fun | C18 => OwnC (α := F) 71 p9 x8 (cpy v12 (Int.toNat v14) x17) C18) (fun | C18 => [(7, .slice p9 x8 x8), (8, .int .i64 x19)]) (fun | C18 => [(0, C18)]) (hΦ 7 (by decide)) ⟨rfl, rfl, trivial⟩ ⟨rfl, trivial⟩ ?_
              rintro C18 o18
              have o18 : OwnC (α := F) 71 p9 x8 (cpy v12 (Int.toNat v14) x17) C18 := o18
              refine KW.sub (s' := [(7, .slice p9 x8 x8), (8, .int .i64 x19)]) (h' := [(0, C18)]) ?_ ⟨rfl, rfl, trivial⟩ ⟨rfl, trivial⟩
              exact kw_bl_normal (kw_lqS (js := [0]) (fuel, (cpy v12 (Int.toNat v14) x17), x19, C18) ⟨H1, (by simp [cpy_len, hl13]), o18⟩ (Nat.lt_succ_self _) ⟨rfl, rfl, trivial⟩ ⟨0, [], rfl, rfl, trivial⟩ (by decide))
          · have H1 := cond_f H1 h15
            refine cw_exit (kw_nx_exit (kw_lq_exit (kw_bl ?_)))
            have q1 := Option.some.inj H1
            subst q1
            exact kw_joinS (js := [0]) (v12, v14, C13) ⟨rfl, (by simp [hl13]), o13⟩ ⟨rfl, rfl, trivial⟩ ⟨0, [], rfl, rfl, trivial⟩ (by decide)
        · rintro ⟨v12, v14, C13⟩ ⟨rfl, hl13, o13⟩
          refine KW.sub (s' := [(7, .slice p9 x8 x8), (8, .int .i64 v14)]) (h' := [(0, C13)]) ?_ ⟨rfl, rfl, trivial⟩ ⟨rfl, trivial⟩
          refine kw_nx (sr (oD (mv rfl) rfl (oD (sg rfl) rfl (nn (cw_ret ?_)))))
          have q0 := Option.some.inj H0
          subst q0
          exact kw_ret Tryd.results40 (.cons (.tmp rfl) .nil) [(0, C13)] [0] ⟨0, [], rfl, rfl, trivial⟩ (by decide) ⟨p9, x8, x8, C13, rfl, rfl, (by simp [hl13]), o13⟩

set_option maxHeartbeats 4000000 in
set_option maxRecDepth 20000 in
theorem c_i_NewTable (fl : Nat) (w : World) (a0 : Int) (a1 : Int) (hg : RO w (hkeys []) (fun w' => w'.rangeAt 0 0 [.bool false, .int .i64 0, .int .i64 0, .int .i64 0, .int .i64 (-1)])) (r : T × Bool) (H0 : i_NewTable fl a0 a1 = some r) :
    Ct Tryd.prog 12 [.int .i64 a0, .int .i64 a1] w [] (fun rv h' => ∃ (x0 : Option Addr) (y0 z0 : Nat) (C0 : Res) (x1 : Option Addr) (y1 z1 : Nat) (C1 : Res), rv = .tuple #[.agg #[.slice x0 y0 z0, .slice x1 y1 z1], .bool r.2] ∧ h' = [(0, C0), (1, C1)] ∧ y0 = (r.1.b).length ∧ OwnC 3 x0 z0 r.1.b C0 ∧ y1 = (r.1.f).length ∧ OwnC 71 x1 z1 r.1.f C1) := by
  unfold i_NewTable at H0
  refine ct_of_cw Tryd.func12 rfl Tryd.ntmps12 rfl (Sat.refl _ _) ?_
  refine sr (oE (stpU_alloc 0 tz28 rfl) rfl ?_)
  rintro _ _ ⟨b1, rfl, rfl⟩
  obtain ⟨y2, ey2, H0⟩ := bind_some H0
  refine oD (sg rfl) rfl (nn (cw_seq (sr (oD (mv rfl) rfl (oD (stp_lss rfl rfl) rfl (oD (mv rfl) rfl (ow_cutY 3 11 y2 ?_ ?_)))))))
  · rcases Bool.eq_false_or_eq_true (decide (a0 < 1)) with hy2 | hy2
    · have ey2 := cond_t ey2 hy2
      refine oO rfl hy2 rfl (oO rfl hy2 rfl (oD (stp_pick_t rfl hy2 rfl) rfl ?_))
      obtain rfl := Option.some.inj ey2
      exact ow_nil (jy 3 0)
    · have ey2 := cond_f ey2 hy2
      refine oG rfl hy2 (mv rfl) rfl (oG rfl hy2 (stp_gtr rfl rfl) rfl (oD (stp_pick_f rfl hy2 rfl) rfl ?_))
      obtain rfl := Option.some.inj ey2
      exact ow_nil (jy 3 0)
  · obtain ⟨y3, ey3, H0⟩ := bind_some H0
    refine oD (mv rfl) rfl (ow_cutY 4 16 y3 ?_ ?_)
    · rcases Bool.eq_false_or_eq_true y2 with hy3 | hy3
      · have ey3 := cond_t ey3 hy3
        refine oO rfl hy3 rfl (oO rfl hy3 rfl (oO rfl hy3 rfl (oD (stp_pick_t rfl hy3 rfl) rfl ?_)))
        obtain rfl := Option.some.inj ey3
        exact ow_nil (jy 4 0)
      · have ey3 := cond_f ey3 hy3
        obtain ⟨x4, e4, ey3⟩ := bind_some ey3
        refine oG rfl hy3 (mv rfl) rfl (ow_eff (.some rfl hy3) (stpU_call (fun i => 1 + i) cf38 (fun w hw => c_i_bucketsValid fl w a1 x4 e4) (sevs_cons rfl sevs_nil)) rfl ?_)
        rintro _ _ ⟨_, ⟨rfl, rfl⟩, rfl⟩
        refine oG rfl hy3 (stp_not rfl) rfl (oD (stp_pick_f rfl hy3 rfl) rfl ?_)
        obtain rfl := Option.some.inj ey3
        exact ow_nil (jy 4 0)
    · refine ow_nil (kw_nx (cw_cond rfl (fun h5 => ?_) (fun h5 => ?_)))
      · have H0 := cond_t H0 h5
        refine sr (oD (stp_build (cs := #[.slice none 0 0, .slice none 0 0]) sevp_nil bt28_0) rfl (oF (stpU_store (id := 0) (cs' := [.slice none 0 0, .slice none 0 0]) ts28 rfl rfl rfl rfl rfl rfl rfl) ?_))
        rintro _ _ rfl
        refine oD (sg rfl) rfl (nn (cw_ret (kw_nx_ret (kw_addNil 1 (kw_addNil 2 ?_)))))
        have q0 := Option.some.inj H0
        subst q0
        exact kw_ret Tryd.results12 (.cons (.cellN (us := [_, _]) ts28 rfl (Cells.box (id := 0) rfl 2 rfl)) (.cons (.tmp rfl) .nil)) [(0, []), (1, [])] [1, 2] ⟨1, [2], rfl, rfl, 2, [], rfl, rfl, trivial⟩ (by decide) ⟨none, 0, 0, [], none, 0, 0, [], rfl, rfl, rfl, (OwnC.nil _ _), rfl, (OwnC.nil _ _)⟩
      · have H0 := cond_f H0 h5
        obtain ⟨x8, e8, H0⟩ := bind_some H0
        obtain ⟨x15, e15, H0⟩ := bind_some H0
        refine cw_skip (kw_nx (cw_seq (rdr g_mixed [0, 1, 4] [0] { dst := dS [19, 20, 21, 22, 23, 24, 25, 26, 0, 6], pre := gA [] [[], [], [0, 1], [], [3], [], rn 0 6, rn 0 7, rn 0 8, rn 0 9], ids := gA [] [[3], [], [4], [], [5], [], [6], [], [0]], rs := rL [[], [(1, 0)], [(18, 1), (19, 2)], [], [(21, 4)], [(0, 0)], [(22, 5), (23, 6)], [(20, 3), (24, 7)], [(4, 0), (25, 8)], []], rh := rL [[], [], [(3, 1)], [], [], [], [(5, 5)], [], [(0, 0)]], V := fun i g => gA undef [.slice ((g 0).A 0) 1 1, .int .i64 a1, .slice ((g 2).A 0) ((x8).length) ((g 2).C 0), .agg #[.bool false, .int .i64 0, .int .i64 0, .int .i64 0, .int .i64 (-1)], .slice ((g 4).A 0) 1 1, .int .i64 a0, .slice ((g 6).A 0) ((x15).length) ((g 6).C 0), .agg #[.slice ((g 2).A 0) ((x8).length) ((g 2).C 0), .slice ((g 6).A 0) ((x15).length) ((g 6).C 0)], undef, .bool true] i, U := fun i g => gA [] [[(3, ((g 0).R 0))], [], [(4, ((g 2).R 0))], [], [(5, ((g 4).R 0))], [], [(6, ((g 6).R 0))], [], [(0, [(b1, .cells #[.slice ((g 2).A 0) ((x8).length) ((g 2).C 0), .slice ((g 6).A 0) ((x15).length) ((g 6).C 0)] 28 (0, 0))])]] i, Φ := fun i x => gA True [OwnC (α := Int) 3 (x.A 0) 1 ([(-1)]) (x.R 0), True, OwnC (α := Int) 3 (x.A 0) (x.C 0) x8 (x.R 0), True, OwnC (α := F) 71 (x.A 0) 1 ([(⟨false, (⟨0, 0⟩ : K), 0, (-1)⟩ : F)]) (x.R 0), True, OwnC (α := F) 71 (x.A 0) (x.C 0) x15 (x.R 0)] i } ?_ ?_)))
        · refine ⟨⟨⟨⟨⟨⟨⟨⟨⟨⟨trivial, ?_⟩, lc rfl rfl fun hs hh => stp_move (sv hs 1 rfl)⟩, ?_⟩, lc rfl rfl fun hs hh => stp_loadN (us := [_, _, _, _, _]) ts71 rfl (Cells.ofRO hg 5 rfl)⟩, ?_⟩, lc rfl rfl fun hs hh => stp_move (sv hs 0 rfl)⟩, ?_⟩, ld rfl rfl fun g hΦ s h hs hh => stp_build (cs := #[.slice ((g 2).A 0) ((x8).length) ((g 2).C 0), .slice ((g 6).A 0) ((x15).length) ((g 6).C 0)]) (sevp_cons (sv hs 20 rfl) (sevp_cons (sv hs 24 rfl) sevp_nil)) bt28_1⟩, ?_⟩, lc rfl rfl fun hs hh => stp_assign rfl⟩
          · refine le rfl rfl (fun g hΦ s h hs hh => (stpU_lit (sz := 1) (l := [(-1)]) [.int .i64 (-1)] sl25 3 (sevp_cons rfl sevp_nil) rfl rfl rfl rfl rfl rfl rfl rfl rfl)) ?_
            rintro g _ _ ⟨p6, C7, rfl, rfl, o7⟩
            exact ⟨⟨[p6], [], [C7]⟩, o7, .inr rfl, rfl⟩
          · refine le rfl rfl (fun g hΦ s h hs hh => (stpU_call (fun i => 4 + i) cf39 (fun w hw => c_slices_Repeat_Int fl w ([(-1)]) ((g 0).A 0) 1 1 a1 (by simp) (OwnC.pass (id := 3) (hh.get 3 _ rfl) (hΦ 0 rfl) hw) x8 e8) (sevs_cons (sv hs 18 rfl) (sevs_cons (sv hs 19 rfl) sevs_nil)))) ?_
            rintro g _ _ ⟨_, ⟨p9, n10, c11, C12, rfl, rfl, hnn10, o12⟩, rfl⟩
            obtain rfl := hnn10
            exact ⟨⟨[p9], [c11], [C12]⟩, o12, .inr rfl, rfl⟩
          · refine le rfl rfl (fun g hΦ s h hs hh => (stpU_lit (sz := 5) (l := [(⟨false, (⟨0, 0⟩ : K), 0, (-1)⟩ : F)]) [.agg #[.bool false, .int .i64 0, .int .i64 0, .int .i64 0, .int .i64 (-1)]] sl26 5 (sevp_cons (sv hs 21 rfl) sevp_nil) rfl rfl rfl rfl rfl rfl rfl rfl rfl)) ?_
            rintro g _ _ ⟨p13, C14, rfl, rfl, o14⟩
            exact ⟨⟨[p13], [], [C14]⟩, o14, .inr rfl, rfl⟩
          · refine le rfl rfl (fun g hΦ s h hs hh => (stpU_call (fun i => 6 + i) cf40 (fun w hw => c_slices_Repeat_Frame fl w ([(⟨false, (⟨0, 0⟩ : K), 0, (-1)⟩ : F)]) ((g 4).A 0) 1 1 a0 (by simp) (OwnC.pass (id := 5) (hh.get 5 _ rfl) (hΦ 4 rfl) hw) x15 e15) (sevs_cons (sv hs 22 rfl) (sevs_cons (sv hs 23 rfl) sevs_nil)))) ?_
            rintro g _ _ ⟨_, ⟨p16, n17, c18, C19, rfl, rfl, hnn17, o19⟩, rfl⟩
            obtain rfl := hnn17
            exact ⟨⟨[p16], [c18], [C19]⟩, o19, .inr rfl, rfl⟩
          · refine le rfl rfl (fun g hΦ s h hs hh => (stpU_store (id := 0) (cs' := [.slice ((g 2).A 0) ((x8).length) ((g 2).C 0), .slice ((g 6).A 0) ((x15).length) ((g 6).C 0)]) ts28 (sv hs 4 rfl) (sv hs 25 rfl) (hh.get 0 _ rfl) rfl rfl rfl rfl)) ?_
            rintro g _ _ rfl
            exact ⟨⟨[], [], []⟩, trivial, .inl rfl, rfl⟩
        · intro g hΦ
          refine kw_gen (ι := Option Addr × Res × Option Addr × Nat × Res × Option Addr × Res × Option Addr × Nat × Res) (((g 0).A 0), ((g 0).R 0), ((g 2).A 0), ((g 2).C 0), ((g 2).R 0), ((g 4).A 0), ((g 4).R 0), ((g 6).A 0), ((g 6).C 0), ((g 6).R 0)) (fun | (p6, C7, p9, c11, C12, p13, C14, p16, c18, C19) => OwnC (α := Int) 3 p6 1 ([(-1)]) C7 ∧ OwnC (α := Int) 3 p9 c11 x8 C12 ∧ OwnC (α := F) 71 p13 1 ([(⟨false, (⟨0, 0⟩ : K), 0, (-1)⟩ : F)]) C14 ∧ OwnC (α := F) 71 p16 c18 x15 C19) (fun | (p6, C7, p9, c11, C12, p13, C14, p16, c18, C19) => [(4, .pointer (some ⟨b1, 0, none⟩)), (5, .bool true)]) (fun | (p6, C7, p9, c11, C12, p13, C14, p16, c18, C19) => [(0, [(b1, .cells #[.slice p9 ((x8).length) c11, .slice p16 ((x15).length) c18] 28 (0, 0))]), (4, C12), (6, C19)]) ⟨(hΦ 0 (by decide)), (hΦ 2 (by decide)), (hΦ 4 (by decide)), (hΦ 6 (by decide))⟩ ⟨rfl, rfl, trivial⟩ ⟨rfl, rfl, rfl, trivial⟩ ?_
          rintro ⟨p6, C7, p9, c11, C12, p13, C14, p16, c18, C19⟩ ⟨o7, o12, o14, o19⟩
          refine KW.sub (s' := [(4, .pointer (some ⟨b1, 0, none⟩)), (5, .bool true)]) (h' := [(0, [(b1, .cells #[.slice p9 ((x8).length) c11, .slice p16 ((x15).length) c18] 28 (0, 0))]), (4, C12), (6, C19)]) ?_ ⟨rfl, rfl, trivial⟩ ⟨rfl, rfl, rfl, trivial⟩
          refine kw_nx (cw_ret ?_)
          have q0 := Option.some.inj H0
          subst q0
          exact kw_ret Tryd.results12 (.cons (.cellN (us := [_, _]) ts28 rfl (Cells.box (id := 0) rfl 2 rfl)) (.cons (.tmp rfl) .nil)) [(0, C12), (1, C19)] [4, 6] ⟨4, [6], rfl, rfl, 6, [], rfl, rfl, trivial⟩ (by decide) ⟨p9, ((x8).length), c11, C12, p16, ((x15).length), c18, C19, rfl, rfl, rfl, o12, rfl, o19⟩

set_option maxHeartbeats 4000000 in
set_option maxRecDepth 20000 in
theorem c_i_NewCache (fl : Nat) (w : World) (a0 : Int) (r : Ca × Bool) (H0 : i_NewCache fl a0 = some r) :
    Ct Tryd.prog 13 [.int .i64 a0] w [] (fun rv h' => ∃ (x0 : Option Addr) (y0 z0 : Nat) (C0 : Res), rv = .tuple #[.agg #[.slice x0 y0 z0, .int .i64 r.1.h], .bool r.2] ∧ h' = [(0, C0)] ∧ y0 = (r.1.l).length ∧ OwnC 65 x0 z0 r.1.l C0) := by
  unfold i_NewCache at H0
  refine ct_of_cw Tryd.func13 rfl Tryd.ntmps13 rfl (Sat.refl _ _) ?_
  refine sr (oE (stpU_alloc 0 tz31 rfl) rfl ?_)
  rintro _ _ ⟨b1, rfl, rfl⟩
  obtain ⟨y2, ey2, H0⟩ := bind_some H0
  refine oD (sg rfl) rfl (nn (cw_seq (sr (oD (mv rfl) rfl (oD (stp_lss rfl rfl) rfl (oD (mv rfl) rfl (ow_cutY 3 9 y2 ?_ ?_)))))))
  · rcases Bool.eq_false_or_eq_true (decide (a0 < 1)) with hy2 | hy2
    · have ey2 := cond_t ey2 hy2
      refine oO rfl hy2 rfl (oO rfl hy2 rfl (oD (stp_pick_t rfl hy2 rfl) rfl ?_))
      obtain rfl := Option.some.inj ey2
      exact ow_nil (jy 3 0)
    · have ey2 := cond_f ey2 hy2
      refine oG rfl hy2 (mv rfl) rfl (oG rfl hy2 (stp_gtr rfl rfl) rfl (oD (stp_pick_f rfl hy2 rfl) rfl ?_))
      obtain rfl := Option.some.inj ey2
      exact ow_nil (jy 3 0)
  · refine ow_nil (kw_nx (cw_cond rfl (fun h3 => ?_) (fun h3 => ?_)))
    · have H0 := cond_t H0 h3
      refine sr (oD (stp_build (cs := #[.slice none 0 0, .int .i64 0]) sevp_nil bt31_2) rfl (oF (stpU_store (id := 0) (cs' := [.slice none 0 0, .int .i64 0]) ts31 rfl rfl rfl rfl rfl rfl rfl) ?_))
      rintro _ _ rfl
      refine oD (sg rfl) rfl (nn (cw_ret (kw_nx_ret (kw_addNil 1 ?_))))
      have q0 := Option.some.inj H0
      subst q0
      exact kw_ret Tryd.results13 (.cons (.cellN (us := [_, _]) ts31 rfl (Cells.box (id := 0) rfl 2 rfl)) (.cons (.tmp rfl) .nil)) [(0, [])] [1] ⟨1, [], rfl, rfl, trivial⟩ (by decide) ⟨none, 0, 0, [], rfl, rfl, rfl, (OwnC.nil _ _)⟩
    · have H0 := cond_f H0 h3
      obtain ⟨x4, e4, H0⟩ := bind_some H0
      refine cw_skip (kw_nx (sr (oD (mv rfl) rfl (oE (stpU_make sl29 rfl 2 rfl rfl e4) rfl ?_))))
      rintro _ _ ⟨p5, C6, rfl, rfl, o6⟩
      refine oD (stp_build (cs := #[.slice p5 x4 x4, .int .i64 0]) (sevp_cons rfl sevp_nil) bt31_3) rfl (oF (stpU_store (id := 0) (cs' := [.slice p5 x4 x4, .int .i64 0]) ts31 rfl rfl rfl rfl rfl rfl rfl) ?_)
      rintro _ _ rfl
      refine oD (sg rfl) rfl (nn (cw_ret ?_))
      have q0 := Option.some.inj H0
      subst q0
      exact kw_ret Tryd.results13 (.cons (.cellN (us := [_, _]) ts31 rfl (Cells.box (id := 0) rfl 2 rfl)) (.cons (.tmp rfl) .nil)) [(0, C6)] [2] ⟨2, [], rfl, rfl, trivial⟩ (by decide) ⟨p5, x4, x4, C6, rfl, rfl, (by simp), o6⟩

set_option maxHeartbeats 4000000 in
set_option maxRecDepth 20000 in
theorem c_i_NewTags (fl : Nat) (w : World) (a0 : Int) (r : Tg × Bool) (H0 : i_NewTags fl a0 = some r) :
    Ct Tryd.prog 14 [.int .i64 a0] w [] (fun rv h' => ∃ (x0 : Option Addr) (y0 z0 : Nat) (C0 : Res), rv = .tuple #[.agg #[.int .i64 r.1.c, .int .i64 r.1.n, .int .i64 r.1.r, .slice x0 y0 z0], .bool r.2] ∧ h' = [(0, C0)] ∧ y0 = (r.1.o).length ∧ OwnC 85 x0 z0 r.1.o C0) := by
  unfold i_NewTags at H0
  refine ct_of_cw Tryd.func14 rfl Tryd.ntmps14 rfl (Sat.refl _ _) ?_
  refine sr (oE (stpU_alloc 0 tz34 rfl) rfl ?_)
  rintro _ _ ⟨b1, rfl, rfl⟩
  obtain ⟨y2, ey2, H0⟩ := bind_some H0
  refine oD (sg rfl) rfl (nn (cw_seq (sr (oD (mv rfl) rfl (oD (stp_lss rfl rfl) rfl (oD (mv rfl) rfl (ow_cutY 3 9 y2 ?_ ?_)))))))
  · rcases Bool.eq_false_or_eq_true (decide (a0 < 1)) with hy2 | hy2
    · have ey2 := cond_t ey2 hy2
      refine oO rfl hy2 rfl (oO rfl hy2 rfl (oD (stp_pick_t rfl hy2 rfl) rfl ?_))
      obtain rfl := Option.some.inj ey2
      exact ow_nil (jy 3 0)
    · have ey2 := cond_f ey2 hy2
      refine oG rfl hy2 (mv rfl) rfl (oG rfl hy2 (stp_gtr rfl rfl) rfl (oD (stp_pick_f rfl hy2 rfl) rfl ?_))
      obtain rfl := Option.some.inj ey2
      exact ow_nil (jy 3 0)
  · refine ow_nil (kw_nx (cw_cond rfl (fun h3 => ?_) (fun h3 => ?_)))
    · have H0 := cond_t H0 h3
      refine sr (oD (stp_build (cs := #[.int .i64 0, .int .i64 0, .int .i64 0, .slice none 0 0]) sevp_nil bt34_4) rfl (oF (stpU_store (id := 0) (cs' := [.int .i64 0, .int .i64 0, .int .i64 0, .slice none 0 0]) ts34 rfl rfl rfl rfl rfl rfl rfl) ?_))
      rintro _ _ rfl
      refine oD (sg rfl) rfl (nn (cw_ret (kw_nx_ret (kw_addNil 1 ?_))))
      have q0 := Option.some.inj H0
      subst q0
      exact kw_ret Tryd.results14 (.cons (.cellN (us := [_, _, _, _]) ts34 rfl (Cells.box (id := 0) rfl 4 rfl)) (.cons (.tmp rfl) .nil)) [(0, [])] [1] ⟨1, [], rfl, rfl, trivial⟩ (by decide) ⟨none, 0, 0, [], rfl, rfl, rfl, (OwnC.nil _ _)⟩
    · have H0 := cond_f H0 h3
      refine cw_skip (kw_nx (sr (oD (mv rfl) rfl (oD (stp_build (cs := #[.int .i64 a0, .int .i64 0, .int .i64 0, .slice none 0 0]) (sevp_cons rfl sevp_nil) bt34_5) rfl (oF (stpU_store (id := 0) (cs' := [.int .i64 a0, .int .i64 0, .int .i64 0, .slice none 0 0]) ts34 rfl rfl rfl rfl rfl rfl rfl) ?_)))))
      rintro _ _ rfl
      refine oD (sg rfl) rfl (nn (cw_ret (kw_addNil 2 ?_)))
      have q0 := Option.some.inj H0
      subst q0
      exact kw_ret Tryd.results14 (.cons (.cellN (us := [_, _, _, _]) ts34 rfl (Cells.box (id := 0) rfl 4 rfl)) (.cons (.tmp rfl) .nil)) [(0, [])] [2] ⟨2, [], rfl, rfl, trivial⟩ (by decide) ⟨none, 0, 0, [], rfl, rfl, rfl, (OwnC.nil _ _)⟩

set_option maxHeartbeats 4000000 in
set_option maxRecDepth 20000 in
theorem c_i_within (fl : Nat) (w : World) (a0 : Int) (a1 : Int) (r : Bool) (H0 : i_within fl a0 a1 = some r) :
    Ct Tryd.prog 23 [.int .i64 a0, .int .i64 a1] w [] (fun rv h' => rv = .bool r ∧ h' = []) := by
  unfold i_within at H0
  refine ct_of_cw Tryd.func23 rfl Tryd.ntmps23 rfl (Sat.refl _ _) ?_
  obtain ⟨y1, ey1, H0⟩ := bind_some H0
  refine sr (oD (sg rfl) rfl (nn (sr (oD (mv rfl) rfl (oD (stp_geq rfl rfl) rfl (oD (mv rfl) rfl (ow_cutY 4 11 y1 ?_ ?_)))))))
  · rcases Bool.eq_false_or_eq_true (decide (0 ≤ a0)) with hy1 | hy1
    · have ey1 := cond_t ey1 hy1
      refine oG rfl hy1 (mv rfl) rfl (oG rfl hy1 (mv rfl) rfl (oG rfl hy1 (stp_lss rfl rfl) rfl (oD (stp_pick_t rfl hy1 rfl) rfl ?_)))
      obtain rfl := Option.some.inj ey1
      exact ow_nil (jy 4 0)
    · have ey1 := cond_f ey1 hy1
      refine oO rfl hy1 rfl (oO rfl hy1 rfl (oO rfl hy1 rfl (oD (stp_pick_f rfl hy1 rfl) rfl ?_)))
      obtain rfl := Option.some.inj ey1
      exact ow_nil (jy 4 0)
  · refine oD (sg rfl) rfl (nn (cw_ret ?_))
    have q0 := Option.some.inj H0
    subst q0
    exact kw_ret Tryd.results23 (.cons (.tmp rfl) .nil) [] [] trivial (by decide) ⟨rfl, rfl⟩

set_option maxHeartbeats 4000000 in
set_option maxRecDepth 20000 in
theorem c_i_TagsValid (fl : Nat) (w : World) (a0 : Tg) (p0_0 : Option Addr) (n0_0 c0_0 : Nat) (hn0_0 : n0_0 = (a0.o).length) (hr0_0 : RO w (hkeys []) (RdL p0_0 c0_0 a0.o)) (r : Bool) (H0 : i_TagsValid fl a0 = some r) :
    Ct Tryd.prog 34 [.agg #[.int .i64 a0.c, .int .i64 a0.n, .int .i64 a0.r, .slice p0_0 n0_0 c0_0]] w [] (fun rv h' => rv = .bool r ∧ h' = []) := by
  obtain rfl := hn0_0
  unfold i_TagsValid at H0
  refine ct_of_cw Tryd.func34 rfl Tryd.ntmps34 rfl (Sat.refl _ _) ?_
  refine sr (oE (stpU_box 0 rfl rfl) rfl ?_)
  rintro _ _ ⟨b1, rfl, rfl⟩
  obtain ⟨y2, ey2, H0⟩ := bind_some H0
  refine oD (sg rfl) rfl (nn (cw_seq (sr (oD (fA 0 Tryd.underlying34 rfl ts3 rfl rfl rfl) rfl (oD (lB 0 ts3 rfl rfl rfl) rfl (oD (stp_lss rfl rfl) rfl (oD (mv rfl) rfl (ow_cutY 4 14 y2 ?_ ?_))))))))
  · rcases Bool.eq_false_or_eq_true (decide (a0.c < 1)) with hy2 | hy2
    · have ey2 := cond_t ey2 hy2
      refine oO rfl hy2 rfl (oO rfl hy2 rfl (oO rfl hy2 rfl (oD (stp_pick_t rfl hy2 rfl) rfl ?_)))
      obtain rfl := Option.some.inj ey2
      exact ow_nil (jy 4 0)
    · have ey2 := cond_f ey2 hy2
      refine oG rfl hy2 (fA 0 Tryd.underlying34 rfl ts3 rfl rfl rfl) rfl (oG rfl hy2 (lB 0 ts3 rfl rfl rfl) rfl (oG rfl hy2 (stp_gtr rfl rfl) rfl (oD (stp_pick_f rfl hy2 rfl) rfl ?_)))
      obtain rfl := Option.some.inj ey2
      exact ow_nil (jy 4 0)
  · obtain ⟨y3, ey3, H0⟩ := bind_some H0
    refine oD (mv rfl) rfl (ow_cutY 4 19 y3 ?_ ?_)
    · rcases Bool.eq_false_or_eq_true y2 with hy3 | hy3
      · have ey3 := cond_t ey3 hy3
        refine oO rfl hy3 rfl (oO rfl hy3 rfl (oO rfl hy3 rfl (oD (stp_pick_t rfl hy3 rfl) rfl ?_)))
        obtain rfl := Option.some.inj ey3
        exact ow_nil (jy 4 0)
      · have ey3 := cond_f ey3 hy3
        refine oG rfl hy3 (fA 1 Tryd.underlying34 rfl ts3 rfl rfl rfl) rfl (oG rfl hy3 (lB 0 ts3 rfl rfl rfl) rfl (oG rfl hy3 (stp_lss rfl rfl) rfl (oD (stp_pick_f rfl hy3 rfl) rfl ?_)))
        obtain rfl := Option.some.inj ey3
        exact ow_nil (jy 4 0)
    · obtain ⟨y4, ey4, H0⟩ := bind_some H0
      refine oD (mv rfl) rfl (ow_cutY 6 26 y4 ?_ ?_)
      · rcases Bool.eq_false_or_eq_true y3 with hy4 | hy4
        · have ey4 := cond_t ey4 hy4
          refine oO rfl hy4 rfl (oO rfl hy4 rfl (oO rfl hy4 rfl (oO rfl hy4 rfl (oO rfl hy4 rfl (oD (stp_pick_t rfl hy4 rfl) rfl ?_)))))
          obtain rfl := Option.some.inj ey4
          exact ow_nil (jy 6 0)
        · have ey4 := cond_f ey4 hy4
          refine oG rfl hy4 (fA 1 Tryd.underlying34 rfl ts3 rfl rfl rfl) rfl (oG rfl hy4 (lB 0 ts3 rfl rfl rfl) rfl (oG rfl hy4 (fA 0 Tryd.underlying34 rfl ts3 rfl rfl rfl) rfl (oG rfl hy4 (lB 0 ts3 rfl rfl rfl) rfl (oG rfl hy4 (stp_gtr rfl rfl) rfl (oD (stp_pick_f rfl hy4 rfl) rfl ?_)))))
          obtain rfl := Option.some.inj ey4
          exact ow_nil (jy 6 0)
      · obtain ⟨y5, ey5, H0⟩ := bind_some H0
        refine oD (mv rfl) rfl (ow_cutY 4 31 y5 ?_ ?_)
        · rcases Bool.eq_false_or_eq_true y4 with hy5 | hy5
          · have ey5 := cond_t ey5 hy5
            refine oO rfl hy5 rfl (oO rfl hy5 rfl (oO rfl hy5 rfl (oD (stp_pick_t rfl hy5 rfl) rfl ?_)))
            obtain rfl := Option.some.inj ey5
            exact ow_nil (jy 4 0)
          · have ey5 := cond_f ey5 hy5
            refine oG rfl hy5 (fA 2 Tryd.underlying34 rfl ts3 rfl rfl rfl) rfl (oG rfl hy5 (lB 0 ts3 rfl rfl rfl) rfl (oG rfl hy5 (stp_lss rfl rfl) rfl (oD (stp_pick_f rfl hy5 rfl) rfl ?_)))
            obtain rfl := Option.some.inj ey5
            exact ow_nil (jy 4 0)
        · obtain ⟨y6, ey6, H0⟩ := bind_some H0
          refine oD (mv rfl) rfl (ow_cutY 4 36 y6 ?_ ?_)
          · rcases Bool.eq_false_or_eq_true y5 with hy6 | hy6
            · have ey6 := cond_t ey6 hy6
              refine oO rfl hy6 rfl (oO rfl hy6 rfl (oO rfl hy6 rfl (oD (stp_pick_t rfl hy6 rfl) rfl ?_)))
              obtain rfl := Option.some.inj ey6
              exact ow_nil (jy 4 0)
            · have ey6 := cond_f ey6 hy6
              refine oG rfl hy6 (fA 2 Tryd.underlying34 rfl ts3 rfl rfl rfl) rfl (oG rfl hy6 (lB 0 ts3 rfl rfl rfl) rfl (oG rfl hy6 (stp_gtr rfl rfl) rfl (oD (stp_pick_f rfl hy6 rfl) rfl ?_)))
              obtain rfl := Option.some.inj ey6
              exact ow_nil (jy 4 0)
          · refine ow_nil (kw_nx (cw_cond rfl (fun h7 => ?_) (fun h7 => ?_)))
            · have H0 := cond_t H0 h7
              refine sr (oD (sg rfl) rfl (nn (cw_ret (kw_nx_ret ?_))))
              have q0 := Option.some.inj H0
              subst q0
              exact kw_ret Tryd.results34 (.cons (.tmp rfl) .nil) [] [] trivial (by decide) ⟨rfl, rfl⟩
            · have H0 := cond_f H0 h7
              refine cw_skip (kw_nx (sr (oE (stpU_makeMap 1 3) rfl ?_)))
              rintro _ _ ⟨b8, C9, rfl, rfl, o9⟩
              obtain ⟨o0_0, eo0_0, H0⟩ := bind_some H0
              refine oD (sg rfl) rfl (nn (sr (oD (sg rfl) rfl (nn (cw_seq (sr (oD (fA 3 Tryd.underlying34 rfl ts32 rfl rfl rfl) rfl (oD (lB 0 ts32 rfl rfl rfl) rfl (oD (stp_len Tryd.underlying32 rfl) rfl (oD (mv rfl) rfl (nn (cw_join (ι := (List Int) × Int × Int × Res) (fun | (v10, v12, v13, C11) => o0_0 = .out (v10, v12, v13) ∧ True ∧ OwnM Tryd.prog 3 b8 v10 C11) (fun | (v10, v12, v13, C11) => [(1, .pointer (some ⟨b1, 0, none⟩)), (3, .map (some b8)), (4, .int .i64 v12), (39, .slice p0_0 ((a0.o).length) c0_0), (40, .int .i64 ((a0.o).length : Int)), (41, .int .i64 v13)]) (fun | (v10, v12, v13, C11) => [(0, [(b1, .cells #[.int .i64 a0.c, .int .i64 a0.n, .int .i64 a0.r, .slice p0_0 ((a0.o).length) c0_0] 34 (0, 0))]), (1, C11)]) ?_ ?_))))))))))))
              · refine cw_block (cw_loopS (ι := Nat × (List Int) × Int × Int × Res) (js := [0, 1]) (fun x => x.1) (fun | (fuel, v10, v12, v13, C11) => i_TagsValid_L0 fl a0 fuel v10 v12 v13 = some o0_0 ∧ True ∧ OwnM Tryd.prog 3 b8 v10 C11) (fun | (_, v10, v12, v13, C11) => [(1, .pointer (some ⟨b1, 0, none⟩)), (3, .map (some b8)), (4, .int .i64 v12), (39, .slice p0_0 ((a0.o).length) c0_0), (40, .int .i64 ((a0.o).length : Int)), (41, .int .i64 v13)]) (fun | (_, v10, v12, v13, C11) => [(0, [(b1, .cells #[.int .i64 a0.c, .int .i64 a0.n, .int .i64 a0.r, .slice p0_0 ((a0.o).length) c0_0] 34 (0, 0))]), (1, C11)]) (fl, ([] : List Int), (-1), 0, C9) ⟨eo0_0, trivial, o9⟩ ⟨rfl, rfl, rfl, rfl, rfl, rfl, trivial⟩ ⟨0, [1], rfl, rfl, 1, [], rfl, rfl, trivial⟩ (by decide) ?_)
                rintro ⟨fuel, v10, v12, v13, C11⟩ ⟨H1, hl11, o11⟩
                have H1 : i_TagsValid_L0 fl a0 fuel v10 v12 v13 = some o0_0 := H1
                rcases fuel with _ | fuel
                · rw [i_TagsValid_L0.eq_1] at H1; cases H1
                rw [i_TagsValid_L0.eq_2] at H1
                refine CW.sub (s' := [(1, .pointer (some ⟨b1, 0, none⟩)), (3, .map (some b8)), (4, .int .i64 v12), (39, .slice p0_0 ((a0.o).length) c0_0), (40, .int .i64 ((a0.o).length : Int)), (41, .int .i64 v13)]) (h' := [(0, [(b1, .cells #[.int .i64 a0.c, .int .i64 a0.n, .int .i64 a0.r, .slice p0_0 ((a0.o).length) c0_0] 34 (0, 0))]), (1, C11)]) ?_ ⟨rfl, rfl, rfl, rfl, rfl, rfl, trivial⟩ ⟨rfl, rfl, trivial⟩
                refine sr (oD (stp_lss rfl rfl) rfl (nn (cw_seq (cw_cond rfl (fun h14 => ?_) (fun h14 => ?_)))))
                · have H1 := cond_t H1 h14
                  obtain ⟨x15, e15, H1⟩ := bind_some H1
                  refine cw_skip (kw_nx (cw_seq (cw_block (sr (oD (stp_indexAddr Tryd.underlying32 ts85 (by decide) rfl rfl rfl (Rdb.ro hr0_0) e15) rfl (oD (stp_loadN (us := [_, _]) ts85 rfl (Cells.el (Rdb.ro hr0_0) (by decide) e15 0 2 rfl)) rfl (oE (stpU_alloc 2 tz85 rfl) rfl ?_)))))))
                  rintro _ _ ⟨b16, rfl, rfl⟩
                  refine oF (stpU_store (id := 2) (cs' := [.int .i64 x15.sp, .int .i64 x15.tg]) ts85 rfl rfl rfl rfl rfl rfl rfl) ?_
                  rintro _ _ rfl
                  obtain ⟨y17, ey17, H1⟩ := bind_some H1
                  refine nn (cw_seq (sr (oD (fA 1 Tryd.underlying85 rfl ts3 rfl rfl rfl) rfl (oD (lB 2 ts3 rfl rfl rfl) rfl (oD (mv rfl) rfl (oD (stp_leq rfl rfl) rfl (oD (mv rfl) rfl (ow_cutY 6 55 y17 ?_ ?_))))))))
                  · rcases Bool.eq_false_or_eq_true (decide (x15.tg ≤ v12)) with hy17 | hy17
                    · have ey17 := cond_t ey17 hy17
                      refine oO rfl hy17 rfl (oO rfl hy17 rfl (oO rfl hy17 rfl (oO rfl hy17 rfl (oO rfl hy17 rfl (oD (stp_pick_t rfl hy17 rfl) rfl ?_)))))
                      obtain rfl := Option.some.inj ey17
                      exact ow_nil (jy 6 0)
                    · have ey17 := cond_f ey17 hy17
                      refine oG rfl hy17 (fA 1 Tryd.underlying85 rfl ts3 rfl rfl rfl) rfl (oG rfl hy17 (lB 2 ts3 rfl rfl rfl) rfl (oG rfl hy17 (fA 1 Tryd.underlying34 rfl ts3 rfl rfl rfl) rfl (oG rfl hy17 (lB 0 ts3 rfl rfl rfl) rfl (oG rfl hy17 (stp_geq rfl rfl) rfl (oD (stp_pick_f rfl hy17 rfl) rfl ?_)))))
                      obtain rfl := Option.some.inj ey17
                      exact ow_nil (jy 6 0)
                  · obtain ⟨y18, ey18, H1⟩ := bind_some H1
                    refine oD (mv rfl) rfl (ow_cutY 5 61 y18 ?_ ?_)
                    · rcases Bool.eq_false_or_eq_true y17 with hy18 | hy18
                      · have ey18 := cond_t ey18 hy18
                        refine oO rfl hy18 rfl (oO rfl hy18 rfl (oO rfl hy18 rfl (oO rfl hy18 rfl (oD (stp_pick_t rfl hy18 rfl) rfl ?_))))
                        obtain rfl := Option.some.inj ey18
                        exact ow_nil (jy 5 0)
                      · have ey18 := cond_f ey18 hy18
                        obtain ⟨x19, e19, ey18⟩ := bind_some ey18
                        refine oG rfl hy18 (fA 0 Tryd.underlying85 rfl ts3 rfl rfl rfl) rfl (oG rfl hy18 (lB 2 ts3 rfl rfl rfl) rfl (ow_eff (.some rfl hy18) (stpU_call (fun i => 3 + i) cf23 (fun w hw => c_i_within fl w x15.sp 16 x19 e19) (sevs_cons rfl (sevs_cons rfl sevs_nil))) rfl ?_))
                        rintro _ _ ⟨_, ⟨rfl, rfl⟩, rfl⟩
                        refine oG rfl hy18 (stp_not rfl) rfl (oD (stp_pick_f rfl hy18 rfl) rfl ?_)
                        obtain rfl := Option.some.inj ey18
                        exact ow_nil (jy 5 0)
                    · obtain ⟨y20, ey20, H1⟩ := bind_some H1
                      refine oD (mv rfl) rfl (ow_cutY 5 67 y20 ?_ ?_)
                      · rcases Bool.eq_false_or_eq_true y18 with hy20 | hy20
                        · have ey20 := cond_t ey20 hy20
                          refine oO rfl hy20 rfl (oO rfl hy20 rfl (oO rfl hy20 rfl (oO rfl hy20 rfl (oD (stp_pick_t rfl hy20 rfl) rfl ?_))))
                          obtain rfl := Option.some.inj ey20
                          exact ow_nil (jy 5 0)
                        · have ey20 := cond_f ey20 hy20
                          obtain ⟨x21, e21, ey20⟩ := bind_some ey20
                          refine oG rfl hy20 (mv rfl) rfl (oG rfl hy20 (fA 0 Tryd.underlying85 rfl ts3 rfl rfl rfl) rfl (oG rfl hy20 (lB 2 ts3 rfl rfl rfl) rfl (oG rfl hy20 (stp_has (id := 1) keyInt isKeyInt Tryd.underlying102 tz4 rfl rfl rfl o11 e21) rfl (oD (stp_pick_f rfl hy20 rfl) rfl ?_))))
                          obtain rfl := Option.some.inj ey20
                          exact ow_nil (jy 5 0)
                      · refine ow_nil (kw_nx (cw_cond rfl (fun h22 => ?_) (fun h22 => ?_)))
                        · have H1 := cond_t H1 h22
                          refine sr (oD (sg rfl) rfl (nn (cw_ret (kw_nx_ret (kw_bl_ret (kw_nx_ret (kw_lq_ret (kw_bl_ret (kw_join_ret (kw_nx_ret ?_))))))))))
                          have q1 := Option.some.inj H1
                          subst q1
                          have q0 := Option.some.inj H0
                          subst q0
                          exact kw_ret Tryd.results34 (.cons (.tmp rfl) .nil) [] [] trivial (by decide) ⟨rfl, rfl⟩
                        · have H1 := cond_f H1 h22
                          obtain ⟨x23, e23, H1⟩ := bind_some H1
                          refine cw_skip (kw_nx (sr (oD (fA 1 Tryd.underlying85 rfl ts3 rfl rfl rfl) rfl (oD (lB 2 ts3 rfl rfl rfl) rfl (oD (sg rfl) rfl (nn (cw_region (oD (mv rfl) rfl (oD (fA 0 Tryd.underlying85 rfl ts3 rfl rfl rfl) rfl (oD (lB 2 ts3 rfl rfl rfl) rfl (oF (stpU_add (id := 1) keyInt isKeyInt Tryd.underlying102 rfl rfl rfl rfl o11 e23) ?_)))))))))))
                          rintro _ _ ⟨C24, rfl, o24⟩
                          obtain ⟨x25, e25, H1⟩ := bind_some H1
                          exact ow_nil (kw_bl_normal (kw_nx (cw_region (oD (stp_add rfl rfl e25) rfl (oD (mv rfl) rfl (ow_nil (kw_lqS (js := [0, 1]) (fuel, x23, x15.tg, x25, C24) ⟨H1, trivial, o24⟩ (Nat.lt_succ_self _) ⟨rfl, rfl, rfl, rfl, rfl, rfl, trivial⟩ ⟨0, [1], rfl, rfl, 1, [], rfl, rfl, trivial⟩ (by decide))))))))
                · have H1 := cond_f H1 h14
                  refine cw_exit (kw_nx_exit (kw_lq_exit (kw_bl ?_)))
                  have q1 := Option.some.inj H1
                  subst q1
                  exact kw_joinS (js := [0, 1]) (v10, v12, v13, C11) ⟨rfl, trivial, o11⟩ ⟨rfl, rfl, rfl, rfl, rfl, rfl, trivial⟩ ⟨0, [1], rfl, rfl, 1, [], rfl, rfl, trivial⟩ (by decide)
              · rintro ⟨v10, v12, v13, C11⟩ ⟨rfl, hl11, o11⟩
                refine KW.sub (s' := [(1, .pointer (some ⟨b1, 0, none⟩)), (3, .map (some b8)), (4, .int .i64 v12), (39, .slice p0_0 ((a0.o).length) c0_0), (40, .int .i64 ((a0.o).length : Int)), (41, .int .i64 v13)]) (h' := [(0, [(b1, .cells #[.int .i64 a0.c, .int .i64 a0.n, .int .i64 a0.r, .slice p0_0 ((a0.o).length) c0_0] 34 (0, 0))]), (1, C11)]) ?_ ⟨rfl, rfl, rfl, rfl, rfl, rfl, trivial⟩ ⟨rfl, rfl, trivial⟩
                refine kw_nx (sr (oD (sg rfl) rfl (nn (cw_ret ?_))))
                have q0 := Option.some.inj H0
                subst q0
                exact kw_ret Tryd.results34 (.cons (.tmp rfl) .nil) [] [] trivial (by decide) ⟨rfl, rfl⟩

set_option maxHeartbeats 4000000 in
set_option maxRecDepth 20000 in
theorem c_slices_Clone_Own (fl : Nat) (w : World) (a0 : (List Ow)) (p0_0 : Option Addr) (n0_0 c0_0 : Nat) (hn0_0 : n0_0 = (a0).length) (hr0_0 : RO w (hkeys []) (RdL p0_0 c0_0 a0)) (r : (List Ow)) (H0 : slices_Clone_Own fl a0 = some r) :
    Ct Tryd.prog 42 [.slice p0_0 n0_0 c0_0] w [] (fun rv h' => ∃ (x0 : Option Addr) (y0 z0 : Nat) (C0 : Res), rv = .slice x0 y0 z0 ∧ h' = [(0, C0)] ∧ y0 = (r).length ∧ OwnC 85 x0 z0 r C0) := by
  obtain rfl := hn0_0
  unfold slices_Clone_Own at H0
  refine ct_of_cw Tryd.func42 rfl Tryd.ntmps42 rfl (Sat.refl _ _) ?_
  refine sr (oD (sg rfl) rfl (nn (cw_seq (sr (oD (mv rfl) rfl (oD (stp_eqlNil Tryd.underlying32 rfl) rfl (nn (cw_cond rfl (fun h1 => ?_) (fun h1 => ?_)))))))))
  · have := True.intro
    obtain rfl : p0_0 = none := by simpa using h1
    obtain rfl : a0 = [] := nil_of_none hr0_0
    obtain rfl : r = [] := (cnt_some H0).1
    exact sr (oD (sg rfl) rfl (nn (cw_ret (kw_nx_ret (kw_addNil 0 (kw_ret Tryd.results42 (.cons (.tmp rfl) .nil) [(0, [])] [0] ⟨0, [], rfl, rfl, trivial⟩ (by decide) ⟨none, 0, 0, [], rfl, rfl, rfl, (OwnC.nil _ _)⟩))))))
  · have := True.intro
    refine cw_skip (kw_nx (sr (oE (stpU_lit0 sl32 1) rfl ?_)))
    rintro _ _ ⟨p2, C3, rfl, rfl, o3⟩
    refine oD (mv rfl) rfl ?_
    have e4 : cnt (([] : List Ow) ++ a0) = some r := H0
    refine oE (stpU_append sl32 rfl (id := 1) rfl (by simp) rfl rfl rfl o3 (Rdb.ro hr0_0) e4) rfl ?_
    rintro _ _ ⟨p5, c6, C7, rfl, rfl, o7⟩
    exact oD (sg rfl) rfl (nn (cw_ret (kw_ret Tryd.results42 (.cons (.tmp rfl) .nil) [(0, C7)] [1] ⟨1, [], rfl, rfl, trivial⟩ (by decide) ⟨p5, ((r).length), c6, C7, rfl, rfl, rfl, o7⟩)))

set_option maxHeartbeats 4000000 in
set_option maxRecDepth 20000 in
theorem c_i_Tags_own_1 (fl : Nat) (w : World) (a0 : Ow) (qc0 : Nat) (ac0 : Int) (hbac0 : RO w (hkeys []) (fun w' => w'.rangeAt qc0 0 [.int .i64 ac0])) (r : Bool) (H0 : i_Tags_own_1 fl a0 ac0 = some r) :
    Ct Tryd.prog 67 [.agg #[.int .i64 a0.sp, .int .i64 a0.tg], .pointer (some ⟨qc0, 0, none⟩)] w [] (fun rv h' => rv = .bool r ∧ h' = []) := by
  unfold i_Tags_own_1 at H0
  refine ct_of_cw Tryd.func67 rfl Tryd.ntmps67 rfl (Sat.refl _ _) ?_
  refine sr (oE (stpU_box 0 rfl rfl) rfl ?_)
  rintro _ _ ⟨b1, rfl, rfl⟩
  refine oD (sg rfl) rfl (nn (sr (oD (fA 0 Tryd.underlying85 rfl ts3 rfl rfl rfl) rfl (oD (lB 0 ts3 rfl rfl rfl) rfl (oD (stp_load1 ts3 rfl (Cells.ofRO hbac0 1 rfl)) rfl (oD (stp_eql rfl rfl) rfl (oD (sg rfl) rfl (nn (cw_ret ?_)))))))))
  have q0 := Option.some.inj H0
  subst q0
  exact kw_ret Tryd.results67 (.cons (.tmp rfl) .nil) [] [] trivial (by decide) ⟨rfl, rfl⟩

set_option maxHeartbeats 4000000 in
set_option maxRecDepth 20000 in
theorem c_slices_IndexFunc_Own_of_i_Tags_own_1 (fl : Nat) (w : World) (a0 : (List Ow)) (p0_0 : Option Addr) (n0_0 c0_0 : Nat) (q1_0 : Nat) (a1_0 : Int) (hn0_0 : n0_0 = (a0).length) (hr0_0 : RO w (hkeys []) (RdL p0_0 c0_0 a0)) (hba1_0 : RO w (hkeys []) (fun w' => w'.rangeAt q1_0 0 [.int .i64 a1_0])) (r : Int) (H0 : slices_IndexFunc_Own_of_i_Tags_own_1 fl a0 a1_0 = some r) :
    Ct Tryd.prog 66 [.slice p0_0 n0_0 c0_0, .func (.func 67) #[] #[.pointer (some ⟨q1_0, 0, none⟩)]] w [] (fun rv h' => rv = .int .i64 r ∧ h' = []) := by
  obtain rfl := hn0_0
  unfold slices_IndexFunc_Own_of_i_Tags_own_1 at H0
  refine ct_of_cw Tryd.func66 rfl Tryd.ntmps66 rfl (Sat.refl _ _) ?_
  obtain ⟨o0_0, eo0_0, H0⟩ := bind_some H0
  refine sr (oD (sg rfl) rfl (nn (cw_seq (sr (oD (mv rfl) rfl (oD (stp_len Tryd.underlying32 rfl) rfl (oD (mv rfl) rfl (nn (cw_join (ι := Int) (fun | v1 => o0_0 = .out v1) (fun | v1 => [(0, .slice p0_0 ((a0).length) c0_0), (1, .func (.func 67) #[] #[.pointer (some ⟨q1_0, 0, none⟩)]), (7, .int .i64 ((a0).length : Int)), (8, .int .i64 v1)]) (fun | v1 => []) ?_ ?_)))))))))
  · refine cw_block (cw_loopS (ι := Nat × Int) (js := []) (fun x => x.1) (fun | (fuel, v1) => slices_IndexFunc_Own_of_i_Tags_own_1_L0 fl a0 a1_0 fuel v1 = some o0_0) (fun | (_, v1) => [(0, .slice p0_0 ((a0).length) c0_0), (1, .func (.func 67) #[] #[.pointer (some ⟨q1_0, 0, none⟩)]), (7, .int .i64 ((a0).length : Int)), (8, .int .i64 v1)]) (fun | (_, v1) => []) (fl, 0) eo0_0 ⟨rfl, rfl, rfl, rfl, trivial⟩ trivial (by decide) ?_)
    rintro ⟨fuel, v1⟩ H1
    have H1 : slices_IndexFunc_Own_of_i_Tags_own_1_L0 fl a0 a1_0 fuel v1 = some o0_0 := H1
    rcases fuel with _ | fuel
    · rw [slices_IndexFunc_Own_of_i_Tags_own_1_L0.eq_1] at H1; cases H1
    rw [slices_IndexFunc_Own_of_i_Tags_own_1_L0.eq_2] at H1
    refine CW.sub (s' := [(0, .slice p0_0 ((a0).length) c0_0), (1, .func (.func 67) #[] #[.pointer (some ⟨q1_0, 0, none⟩)]), (7, .int .i64 ((a0).length : Int)), (8, .int .i64 v1)]) (h' := []) ?_ ⟨rfl, rfl, rfl, rfl, trivial⟩ trivial
    refine sr (oD (stp_lss rfl rfl) rfl (nn (cw_seq (cw_cond rfl (fun h2 => ?_) (fun h2 => ?_)))))
    · have H1 := cond_t H1 h2
      obtain ⟨x3, e3, H1⟩ := bind_some H1
      refine cw_skip (kw_nx (cw_seq (cw_block (sr (oD (mv rfl) rfl (oD (sg rfl) rfl (nn (sr (oD (mv rfl) rfl (oD (mv rfl) rfl (oD (mv rfl) rfl (oD (stp_indexAddr Tryd.underlying32 ts85 (by decide) rfl rfl rfl (Rdb.ro hr0_0) e3) rfl (oD (stp_loadN (us := [_, _]) ts85 rfl (Cells.el (Rdb.ro hr0_0) (by decide) e3 0 2 rfl)) rfl ?_)))))))))))))
      obtain ⟨x4, e4, H1⟩ := bind_some H1
      refine oE (stpU_callF (vals := [_]) (ca := [_]) (fun i => 0 + i) cf67 (fun w hw => c_i_Tags_own_1 fl w x3 q1_0 a1_0 (RO.pass hba1_0 hw) x4 e4) rfl (sevs_cons rfl sevs_nil)) rfl ?_
      rintro _ _ ⟨_, ⟨rfl, rfl⟩, rfl⟩
      refine nn (cw_cond rfl (fun h5 => ?_) (fun h5 => ?_))
      · have H1 := cond_t H1 h5
        refine sr (oD (mv rfl) rfl (oD (sg rfl) rfl (nn (cw_ret (kw_bl_ret (kw_nx_ret (kw_lq_ret (kw_bl_ret (kw_join_ret (kw_nx_ret ?_))))))))))
        have q1 := Option.some.inj H1
        subst q1
        have q0 := Option.some.inj H0
        subst q0
        exact kw_ret Tryd.results66 (.cons (.tmp rfl) .nil) [] [] trivial (by decide) ⟨rfl, rfl⟩
      · have H1 := cond_f H1 h5
        obtain ⟨x6, e6, H1⟩ := bind_some H1
        exact cw_skip (kw_bl_normal (kw_nx (cw_region (oD (stp_add rfl rfl e6) rfl (oD (mv rfl) rfl (ow_nil (kw_lqS (js := []) (fuel, x6) H1 (Nat.lt_succ_self _) ⟨rfl, rfl, rfl, rfl, trivial⟩ trivial (by decide))))))))
    · have H1 := cond_f H1 h2
      refine cw_exit (kw_nx_exit (kw_lq_exit (kw_bl ?_)))
      have q1 := Option.some.inj H1
      subst q1
      exact kw_joinS (js := []) v1 rfl ⟨rfl, rfl, rfl, rfl, trivial⟩ trivial (by decide)
  · rintro v1 rfl
    refine KW.sub (s' := [(0, .slice p0_0 ((a0).length) c0_0), (1, .func (.func 67) #[] #[.pointer (some ⟨q1_0, 0, none⟩)]), (7, .int .i64 ((a0).length : Int)), (8, .int .i64 v1)]) (h' := []) ?_ ⟨rfl, rfl, rfl, rfl, trivial⟩ trivial
    refine kw_nx (sr (oD (sg rfl) rfl (nn (cw_ret ?_))))
    have q0 := Option.some.inj H0
    subst q0
    exact kw_ret Tryd.results66 (.cons (.tmp rfl) .nil) [] [] trivial (by decide) ⟨rfl, rfl⟩

set_option maxHeartbeats 4000000 in
set_option maxRecDepth 20000 in
theorem c_i_Tags_own (fl : Nat) (w : World) (a0 : Tg) (p0_0 : Option Addr) (n0_0 c0_0 : Nat) (a1 : Int) (hn0_0 : n0_0 = (a0.o).length) (hr0_0 : RO w (hkeys []) (RdL p0_0 c0_0 a0.o)) (r : Int) (H0 : i_Tags_own fl a0 a1 = some r) :
    Ct Tryd.prog 35 [.agg #[.int .i64 a0.c, .int .i64 a0.n, .int .i64 a0.r, .slice p0_0 n0_0 c0_0], .int .i64 a1] w [] (fun rv h' => rv = .int .i64 r ∧ h' = []) := by
  obtain rfl := hn0_0
  unfold i_Tags_own at H0
  refine ct_of_cw Tryd.func35 rfl Tryd.ntmps35 rfl (Sat.refl _ _) ?_
  refine sr (oE (stpU_box 0 rfl rfl) rfl ?_)
  rintro _ _ ⟨b1, rfl, rfl⟩
  refine oE (stpU_box 1 rfl rfl) rfl ?_
  rintro _ _ ⟨b2, rfl, rfl⟩
  obtain ⟨x3, e3, H0⟩ := bind_some H0
  refine oD (sg rfl) rfl (nn (sr (oD (fA 3 Tryd.underlying34 rfl ts32 rfl rfl rfl) rfl (oD (lB 0 ts32 rfl rfl rfl) rfl (oD (stp_makeFunc (sevs_cons rfl sevs_nil)) rfl (oE (stpU_call (fun i => 2 + i) cf66 (fun w hw => c_slices_IndexFunc_Own_of_i_Tags_own_1 fl w a0.o p0_0 ((a0.o).length) c0_0 b2 a1 rfl (RO.pass hr0_0 hw) (box_pass (id := 1) rfl hw) x3 e3) (sevs_cons rfl (sevs_cons rfl sevs_nil))) rfl ?_))))))
  rintro _ _ ⟨_, ⟨rfl, rfl⟩, rfl⟩
  refine oD (sg rfl) rfl (nn (cw_ret ?_))
  have q0 := Option.some.inj H0
  subst q0
  exact kw_ret Tryd.results35 (.cons (.tmp rfl) .nil) [] [] trivial (by decide) ⟨rfl, rfl⟩

set_option maxHeartbeats 4000000 in
set_option maxRecDepth 20000 in
theorem c_i_TakeTag (fl : Nat) (w : World) (a0 : Tg) (p0_0 : Option Addr) (n0_0 c0_0 : Nat) (a1 : Int) (hn0_0 : n0_0 = (a0.o).length) (hr0_0 : RO w (hkeys []) (RdL p0_0 c0_0 a0.o)) (r : Tg × Int × Bool × Bool) (H0 : i_TakeTag fl a0 a1 = some r) :
    Ct Tryd.prog 15 [.agg #[.int .i64 a0.c, .int .i64 a0.n, .int .i64 a0.r, .slice p0_0 n0_0 c0_0], .int .i64 a1] w [] (fun rv h' => ∃ (x0 : Option Addr) (y0 z0 : Nat) (C0 : Res), rv = .tuple #[.agg #[.int .i64 r.1.c, .int .i64 r.1.n, .int .i64 r.1.r, .slice x0 y0 z0], .int .i64 r.2.1, .bool r.2.2.1, .bool r.2.2.2] ∧ h' = [(0, C0)] ∧ y0 = (r.1.o).length ∧ OwnC 85 x0 z0 r.1.o C0) := by
  obtain rfl := hn0_0
  unfold i_TakeTag at H0
  refine ct_of_cw Tryd.func15 rfl Tryd.ntmps15 rfl (Sat.refl _ _) ?_
  refine sr (oE (stpU_box 0 rfl rfl) rfl ?_)
  rintro _ _ ⟨b1, rfl, rfl⟩
  refine oE (stpU_alloc 1 tz34 rfl) rfl ?_
  rintro _ _ ⟨b2, rfl, rfl⟩
  obtain ⟨x3, e3, H0⟩ := bind_some H0
  refine oD (sg rfl) rfl (oD (sg rfl) rfl (oD (sg rfl) rfl (nn (cw_seq (sr (oD (stp_loadN (us := [_, _, _, _]) ts34 rfl (Cells.box (id := 0) rfl 4 rfl)) rfl (oE (stpU_call (fun i => 2 + i) cf34 (fun w hw => c_i_TagsValid fl w a0 p0_0 ((a0.o).length) c0_0 rfl (RO.pass hr0_0 hw) x3 e3) (sevs_cons rfl sevs_nil)) rfl ?_)))))))
  rintro _ _ ⟨_, ⟨rfl, rfl⟩, rfl⟩
  obtain ⟨y4, ey4, H0⟩ := bind_some H0
  refine oD (stp_not rfl) rfl (oD (mv rfl) rfl (ow_cutY 4 19 y4 ?_ ?_))
  · rcases Bool.eq_false_or_eq_true (!x3) with hy4 | hy4
    · have ey4 := cond_t ey4 hy4
      refine oO rfl hy4 rfl (oO rfl hy4 rfl (oO rfl hy4 rfl (oD (stp_pick_t rfl hy4 rfl) rfl ?_)))
      obtain rfl := Option.some.inj ey4
      exact ow_nil (jy 4 0)
    · have ey4 := cond_f ey4 hy4
      obtain ⟨x5, e5, ey4⟩ := bind_some ey4
      refine oG rfl hy4 (mv rfl) rfl (ow_eff (.some rfl hy4) (stpU_call (fun i => 2 + i) cf23 (fun w hw => c_i_within fl w a1 16 x5 e5) (sevs_cons rfl (sevs_cons rfl sevs_nil))) rfl ?_)
      rintro _ _ ⟨_, ⟨rfl, rfl⟩, rfl⟩
      refine oG rfl hy4 (stp_not rfl) rfl (oD (stp_pick_f rfl hy4 rfl) rfl ?_)
      obtain rfl := Option.some.inj ey4
      exact ow_nil (jy 4 0)
  · refine ow_nil (kw_nx (cw_cond rfl (fun h6 => ?_) (fun h6 => ?_)))
    · have H0 := cond_t H0 h6
      refine sr (oD (stp_build (cs := #[.int .i64 0, .int .i64 0, .int .i64 0, .slice none 0 0]) sevp_nil bt34_4) rfl (oF (stpU_store (id := 1) (cs' := [.int .i64 0, .int .i64 0, .int .i64 0, .slice none 0 0]) ts34 rfl rfl rfl rfl rfl rfl rfl) ?_))
      rintro _ _ rfl
      refine oD (sg rfl) rfl (oD (sg rfl) rfl (oD (sg rfl) rfl (nn (cw_ret (kw_nx_ret (kw_addNil 2 ?_))))))
      have q0 := Option.some.inj H0
      subst q0
      exact kw_ret Tryd.results15 (.cons (.cellN (us := [_, _, _, _]) ts34 rfl (Cells.box (id := 1) rfl 4 rfl)) (.cons (.tmp rfl) (.cons (.tmp rfl) (.cons (.tmp rfl) .nil)))) [(0, [])] [2] ⟨2, [], rfl, rfl, trivial⟩ (by decide) ⟨none, 0, 0, [], rfl, rfl, rfl, (OwnC.nil _ _)⟩
    · have H0 := cond_f H0 h6
      refine cw_skip (kw_nx (sr (oD (stp_loadN (us := [_, _, _, _]) ts34 rfl (Cells.box (id := 0) rfl 4 rfl)) rfl (oE (stpU_alloc 3 tz34 rfl) rfl ?_))))
      rintro _ _ ⟨b7, rfl, rfl⟩
      refine oF (stpU_store (id := 3) (cs' := [.int .i64 a0.c, .int .i64 a0.n, .int .i64 a0.r, .slice p0_0 ((a0.o).length) c0_0]) ts34 rfl rfl rfl rfl rfl rfl rfl) ?_
      rintro _ _ rfl
      obtain ⟨x8, e8, H0⟩ := bind_some H0
      refine nn (sr (oD (fA 3 Tryd.underlying34 rfl ts32 rfl rfl rfl) rfl (oD (lB 0 ts32 rfl rfl rfl) rfl (oE (stpU_call (fun i => 4 + i) cf42 (fun w hw => c_slices_Clone_Own fl w a0.o p0_0 ((a0.o).length) c0_0 rfl (RO.pass hr0_0 hw) x8 e8) (sevs_cons rfl sevs_nil)) rfl ?_))))
      rintro _ _ ⟨_, ⟨p9, n10, c11, C12, rfl, rfl, hnn10, o12⟩, rfl⟩
      obtain rfl := hnn10
      refine oE (stpU_call (fun i => i) cf41 (fun w hw => c_clip41 w p9 ((x8).length) c11 (OwnC.len o12).1) (sevs_cons rfl sevs_nil)) rfl ?_
      rintro _ _ ⟨_, ⟨rfl, rfl⟩, rfl⟩
      refine oD (fA 3 Tryd.underlying34 rfl ts32 rfl rfl rfl) rfl (oF (stpU_store (id := 3) (cs' := [.int .i64 a0.c, .int .i64 a0.n, .int .i64 a0.r, .slice p9 ((x8).length) ((x8).length)]) ts32 rfl rfl rfl rfl rfl rfl rfl) ?_)
      rintro _ _ rfl
      obtain ⟨x13, e13, H0⟩ := bind_some H0
      refine nn (cw_seq (sr (oD (stp_loadN (us := [_, _, _, _]) ts34 rfl (Cells.box (id := 0) rfl 4 rfl)) rfl (oD (mv rfl) rfl (oE (stpU_call (fun i => 5 + i) cf35 (fun w hw => c_i_Tags_own fl w a0 p0_0 ((a0.o).length) c0_0 a1 rfl (RO.pass hr0_0 hw) x13 e13) (sevs_cons rfl (sevs_cons rfl sevs_nil))) rfl ?_)))))
      rintro _ _ ⟨_, ⟨rfl, rfl⟩, rfl⟩
      refine oD (sg rfl) rfl (nn (sr (oD (mv rfl) rfl (oD (stp_geq rfl rfl) rfl (nn (cw_cond rfl (fun h14 => ?_) (fun h14 => ?_)))))))
      · have H0 := cond_t H0 h14
        obtain ⟨x15, e15, H0⟩ := bind_some H0
        refine cw_seq (rdr g_mixed [2, 4, 8, 9] [0, 1, 3] { dst := dS [33, 34, 35, 36, 37, 38, 39, 0, 6, 7, 8], pre := gA [] [[], [], [1], [], [1, 2, 3], rn 1 4, rn 1 5, [0], rn 0 8, rn 0 9, rn 0 10], ids := gA [] [[], [], [], [], [], [], [], [1]], rs := rL [[(8, 0)], [(2, 0)], [(33, 2)], [(9, 0)], [(34, 3), (35, 4)], [(36, 5)], [(37, 6)], [(4, 0), (32, 1)], [(38, 7)], [], []], rh := rL [[(3, 0)], [], [(0, 0)], [], [], [], [], [(1, 0)]], V := fun i g => gA undef [.agg #[.int .i64 a0.c, .int .i64 a0.n, .int .i64 a0.r, .slice p9 ((x8).length) ((x8).length)], .pointer (some ⟨b1, 3, none⟩), .slice p0_0 ((a0.o).length) c0_0, .int .i64 x13, .pointer (some ⟨eB p0_0, eO p0_0 + Int.toNat x13 * Enc.sz Ow + 0, none⟩), .pointer (some ⟨eB p0_0, eO p0_0 + Int.toNat x13 * Enc.sz Ow + 1, none⟩), .int .i64 x15.tg, undef, .int .i64 x15.tg, .bool false, .bool true] i, U := fun i g => match i with | 7 => [(1, [(b2, .cells #[.int .i64 a0.c, .int .i64 a0.n, .int .i64 a0.r, .slice p9 ((x8).length) ((x8).length)] 34 (0, 0))])] | _ => [], Φ := fun _ _ => True } ?_ ?_)
        · refine ⟨⟨⟨⟨⟨⟨⟨⟨⟨⟨⟨trivial, lc rfl rfl fun hs hh => stp_loadN (us := [_, _, _, _]) ts34 (sv hs 8 rfl) (Cells.box (id := 3) (hh.get 3 _ rfl) 4 rfl)⟩, lc rfl rfl fun hs hh => stp_fieldAddr (j := 3) Tryd.underlying34 rfl ts32 rfl (sv hs 2 rfl) rfl⟩, lc rfl rfl fun hs hh => stp_load1 ts32 (sv hs 33 rfl) (Cells.box (id := 0) (hh.get 0 _ rfl) 1 rfl)⟩, lc rfl rfl fun hs hh => stp_move (sv hs 9 rfl)⟩, lc rfl rfl fun hs hh => stp_indexAddr Tryd.underlying32 ts85 (by decide) (sv hs 34 rfl) rfl (sv hs 35 rfl) (Rdb.ro hr0_0) e15⟩, lc rfl rfl fun hs hh => stp_fieldAddr (j := 1) Tryd.underlying85 rfl ts3 rfl (sv hs 36 rfl) rfl⟩, lc rfl rfl fun hs hh => stp_load1 ts3 (sv hs 37 rfl) (Cells.el (Rdb.ro hr0_0) (by decide) e15 1 1 rfl)⟩, ?_⟩, lc rfl rfl fun hs hh => stp_assign (sv hs 38 rfl)⟩, lc rfl rfl fun hs hh => stp_assign rfl⟩, lc rfl rfl fun hs hh => stp_assign rfl⟩
          · refine le rfl rfl (fun g hΦ s h hs hh => (stpU_store (id := 1) (cs' := [.int .i64 a0.c, .int .i64 a0.n, .int .i64 a0.r, .slice p9 ((x8).length) ((x8).length)]) ts34 (sv hs 4 rfl) (sv hs 32 rfl) (hh.get 1 _ rfl) rfl rfl rfl rfl)) ?_
            rintro g _ _ rfl
            exact ⟨⟨[], [], []⟩, trivial, .inl rfl, rfl⟩
        · intro g hΦ
          refine KW.sub (s' := [(4, .pointer (some ⟨b2, 0, none⟩)), (5, .int .i64 x15.tg), (6, .bool false), (7, .bool true)]) (h' := [(1, [(b2, .cells #[.int .i64 a0.c, .int .i64 a0.n, .int .i64 a0.r, .slice p9 ((x8).length) ((x8).length)] 34 (0, 0))]), (4, C12)]) ?_ ⟨rfl, rfl, rfl, rfl, trivial⟩ ⟨rfl, rfl, trivial⟩
          refine kw_nx (cw_ret (kw_nx_ret ?_))
          have q0 := Option.some.inj H0
          subst q0
          exact kw_ret Tryd.results15 (.cons (.cellN (us := [_, _, _, _]) ts34 rfl (Cells.box (id := 1) rfl 4 rfl)) (.cons (.tmp rfl) (.cons (.tmp rfl) (.cons (.tmp rfl) .nil)))) [(0, C12)] [4] ⟨4, [], rfl, rfl, trivial⟩ (by decide) ⟨p9, ((x8).length), ((x8).length), C12, rfl, rfl, rfl, (OwnC.clip o12)⟩
      · have H0 := cond_f H0 h14
        refine cw_skip (kw_nx (sr (oD (fA 1 Tryd.underlying34 rfl ts3 rfl rfl rfl) rfl (oD (lB 0 ts3 rfl rfl rfl) rfl (oD (fA 0 Tryd.underlying34 rfl ts3 rfl rfl rfl) rfl (oD (lB 0 ts3 rfl rfl rfl) rfl (oD (stp_eql rfl rfl) rfl (oD (sg rfl) rfl (nn (cw_seq (sr (oD (mv rfl) rfl (nn ?_)))))))))))))
        refine cw_cond rfl (fun h16 => ?_) (fun h16 => ?_)
        · have H0 := cond_t H0 h16
          refine cw_seq (sr (oD (fA 2 Tryd.underlying34 rfl ts3 rfl rfl rfl) rfl (oD (lB 0 ts3 rfl rfl rfl) rfl (oD (stp_eql rfl rfl) rfl (nn (cw_cond rfl (fun h17 => ?_) (fun h17 => ?_)))))))
          · have H0 := cond_t H0 h17
            refine sr (oD (stp_build (cs := #[.int .i64 0, .int .i64 0, .int .i64 0, .slice none 0 0]) sevp_nil bt34_4) rfl (oF (stpU_store (id := 1) (cs' := [.int .i64 0, .int .i64 0, .int .i64 0, .slice none 0 0]) ts34 rfl rfl rfl rfl rfl rfl rfl) ?_))
            rintro _ _ rfl
            refine oD (sg rfl) rfl (oD (sg rfl) rfl (oD (sg rfl) rfl (nn (cw_ret (kw_nx_ret (kw_nx_ret (kw_addNil 5 ?_)))))))
            have q0 := Option.some.inj H0
            subst q0
            exact kw_ret Tryd.results15 (.cons (.cellN (us := [_, _, _, _]) ts34 rfl (Cells.box (id := 1) rfl 4 rfl)) (.cons (.tmp rfl) (.cons (.tmp rfl) (.cons (.tmp rfl) .nil)))) [(0, [])] [5] ⟨5, [], rfl, rfl, trivial⟩ (by decide) ⟨none, 0, 0, [], rfl, rfl, rfl, (OwnC.nil _ _)⟩
          · have H0 := cond_f H0 h17
            obtain ⟨x18, e18, H0⟩ := bind_some H0
            refine cw_skip (kw_nx (cw_region (oD (fA 0 Tryd.underlying34 rfl ts3 rfl rfl rfl) rfl (oD (lB 0 ts3 rfl rfl rfl) rfl (oD (fA 2 Tryd.underlying34 rfl ts3 rfl rfl rfl) rfl (oD (lB 0 ts3 rfl rfl rfl) rfl (oD (stp_add rfl rfl e18) rfl (oD (stp_build (cs := #[.int .i64 a0.c, .int .i64 0, .int .i64 x18, .slice none 0 0]) (sevp_cons rfl (sevp_cons rfl sevp_nil)) bt34_7) rfl (oF (stpU_store (id := 3) (cs' := [.int .i64 a0.c, .int .i64 0, .int .i64 x18, .slice none 0 0]) ts34 rfl rfl rfl rfl rfl rfl rfl) ?_)))))))))
            rintro _ _ rfl
            refine nn (sr (oD (fA 1 Tryd.underlying34 rfl ts3 rfl rfl rfl) rfl (oD (lB 3 ts3 rfl rfl rfl) rfl (oD (sg rfl) rfl (nn (sr (oD (fA 3 Tryd.underlying34 rfl ts32 rfl rfl rfl) rfl (oD (lB 3 ts32 rfl rfl rfl) rfl (oD (mv rfl) rfl (oD (mv rfl) rfl (oD (stp_build (cs := #[.int .i64 a1, .int .i64 0]) (sevp_cons rfl (sevp_cons rfl sevp_nil)) bt85_8) rfl (oE (stpU_lit (sz := 2) (l := [(⟨a1, 0⟩ : Ow)]) [.agg #[.int .i64 a1, .int .i64 0]] sl32 6 (sevp_cons rfl sevp_nil) rfl rfl rfl rfl rfl rfl rfl rfl rfl) rfl ?_))))))))))))
            rintro _ _ ⟨p19, C20, rfl, rfl, o20⟩
            obtain ⟨x21, e21, H0⟩ := bind_some H0
            refine ow_addNil 7 (oE (stpU_append sl32 rfl (id := 7) rfl rfl rfl (by simp) rfl (OwnC.nil 85 none) (Rdb.own (id := 6) rfl o20) e21) rfl ?_)
            rintro _ _ ⟨p22, c23, C24, rfl, rfl, o24⟩
            refine oE (stpU_call (fun i => i) cf41 (fun w hw => c_clip41 w p22 ((x21).length) c23 (OwnC.len o24).1) (sevs_cons rfl sevs_nil)) rfl ?_
            rintro _ _ ⟨_, ⟨rfl, rfl⟩, rfl⟩
            refine oD (fA 3 Tryd.underlying34 rfl ts32 rfl rfl rfl) rfl (oF (stpU_store (id := 3) (cs' := [.int .i64 a0.c, .int .i64 0, .int .i64 x18, .slice p22 ((x21).length) ((x21).length)]) ts32 rfl rfl rfl rfl rfl rfl rfl) ?_)
            rintro _ _ rfl
            obtain ⟨x25, e25, H0⟩ := bind_some H0
            refine nn (sr (oD (fA 1 Tryd.underlying34 rfl ts3 rfl rfl rfl) rfl (oD (lB 3 ts3 rfl rfl rfl) rfl (oD (stp_add rfl rfl e25) rfl (oD (fA 1 Tryd.underlying34 rfl ts3 rfl rfl rfl) rfl (oF (stpU_store (id := 3) (cs' := [.int .i64 a0.c, .int .i64 x25, .int .i64 x18, .slice p22 ((x21).length) ((x21).length)]) ts3 rfl rfl rfl rfl rfl rfl rfl) ?_))))))
            rintro _ _ rfl
            refine nn (sr (oD (stp_loadN (us := [_, _, _, _]) ts34 rfl (Cells.box (id := 3) rfl 4 rfl)) rfl (oD (mv rfl) rfl (oD (mv rfl) rfl (oF (stpU_store (id := 1) (cs' := [.int .i64 a0.c, .int .i64 x25, .int .i64 x18, .slice p22 ((x21).length) ((x21).length)]) ts34 rfl rfl rfl rfl rfl rfl rfl) ?_)))))
            rintro _ _ rfl
            refine oD (sg rfl) rfl (oD (sg rfl) rfl (oD (sg rfl) rfl (nn (cw_ret ?_))))
            have q0 := Option.some.inj H0
            subst q0
            exact kw_ret Tryd.results15 (.cons (.cellN (us := [_, _, _, _]) ts34 rfl (Cells.box (id := 1) rfl 4 rfl)) (.cons (.tmp rfl) (.cons (.tmp rfl) (.cons (.tmp rfl) .nil)))) [(0, C24)] [7] ⟨7, [], rfl, rfl, trivial⟩ (by decide) ⟨p22, ((x21).length), ((x21).length), C24, rfl, rfl, rfl, (OwnC.clip o24)⟩
        · have H0 := cond_f H0 h16
          refine cw_skip (kw_nx (sr (oD (fA 1 Tryd.underlying34 rfl ts3 rfl rfl rfl) rfl (oD (lB 3 ts3 rfl rfl rfl) rfl (oD (sg rfl) rfl (nn (sr (oD (fA 3 Tryd.underlying34 rfl ts32 rfl rfl rfl) rfl (oD (lB 3 ts32 rfl rfl rfl) rfl (oD (mv rfl) rfl (oD (mv rfl) rfl (oD (stp_build (cs := #[.int .i64 a1, .int .i64 a0.n]) (sevp_cons rfl (sevp_cons rfl sevp_nil)) bt85_8) rfl (oE (stpU_lit (sz := 2) (l := [(⟨a1, a0.n⟩ : Ow)]) [.agg #[.int .i64 a1, .int .i64 a0.n]] sl32 8 (sevp_cons rfl sevp_nil) rfl rfl rfl rfl rfl rfl rfl rfl rfl) rfl ?_)))))))))))))
          rintro _ _ ⟨p26, C27, rfl, rfl, o27⟩
          obtain ⟨x28, e28, H0⟩ := bind_some H0
          refine oE (stpU_append sl32 rfl (id := 4) rfl rfl rfl (by simp) rfl (OwnC.clip o12) (Rdb.own (id := 8) rfl o27) e28) rfl ?_
          rintro _ _ ⟨p29, c30, C31, rfl, rfl, o31⟩
          refine oE (stpU_call (fun i => i) cf41 (fun w hw => c_clip41 w p29 ((x28).length) c30 (OwnC.len o31).1) (sevs_cons rfl sevs_nil)) rfl ?_
          rintro _ _ ⟨_, ⟨rfl, rfl⟩, rfl⟩
          refine oD (fA 3 Tryd.underlying34 rfl ts32 rfl rfl rfl) rfl (oF (stpU_store (id := 3) (cs' := [.int .i64 a0.c, .int .i64 a0.n, .int .i64 a0.r, .slice p29 ((x28).length) ((x28).length)]) ts32 rfl rfl rfl rfl rfl rfl rfl) ?_)
          rintro _ _ rfl
          obtain ⟨x32, e32, H0⟩ := bind_some H0
          refine nn (sr (oD (fA 1 Tryd.underlying34 rfl ts3 rfl rfl rfl) rfl (oD (lB 3 ts3 rfl rfl rfl) rfl (oD (stp_add rfl rfl e32) rfl (oD (fA 1 Tryd.underlying34 rfl ts3 rfl rfl rfl) rfl (oF (stpU_store (id := 3) (cs' := [.int .i64 a0.c, .int .i64 x32, .int .i64 a0.r, .slice p29 ((x28).length) ((x28).length)]) ts3 rfl rfl rfl rfl rfl rfl rfl) ?_))))))
          rintro _ _ rfl
          refine nn (sr (oD (stp_loadN (us := [_, _, _, _]) ts34 rfl (Cells.box (id := 3) rfl 4 rfl)) rfl (oD (mv rfl) rfl (oD (mv rfl) rfl (oF (stpU_store (id := 1) (cs' := [.int .i64 a0.c, .int .i64 x32, .int .i64 a0.r, .slice p29 ((x28).length) ((x28).length)]) ts34 rfl rfl rfl rfl rfl rfl rfl) ?_)))))
          rintro _ _ rfl
          refine oD (sg rfl) rfl (oD (sg rfl) rfl (oD (sg rfl) rfl (nn (cw_ret ?_))))
          have q0 := Option.some.inj H0
          subst q0
          exact kw_ret Tryd.results15 (.cons (.cellN (us := [_, _, _, _]) ts34 rfl (Cells.box (id := 1) rfl 4 rfl)) (.cons (.tmp rfl) (.cons (.tmp rfl) (.cons (.tmp rfl) .nil)))) [(0, C31)] [4] ⟨4, [], rfl, rfl, trivial⟩ (by decide) ⟨p29, ((x28).length), ((x28).length), C31, rfl, rfl, rfl, (OwnC.clip o31)⟩

set_option maxHeartbeats 4000000 in
set_option maxRecDepth 20000 in
theorem c_i_NewMachine (fl : Nat) (w : World) (a0 : Int) (a1 : Int) (a2 : Int) (a3 : Int) (hg : RO w (hkeys []) (fun w' => w'.rangeAt 0 0 [.bool false, .int .i64 0, .int .i64 0, .int .i64 0, .int .i64 (-1)])) (r : Mc × Bool) (H0 : i_NewMachine fl a0 a1 a2 a3 = some r) :
    Ct Tryd.prog 5 [.int .i64 a0, .int .i64 a1, .int .i64 a2, .int .i64 a3] w [] (fun rv h' => ∃ (x0 : Option Addr) (y0 z0 : Nat) (C0 : Res) (x1 : Option Addr) (y1 z1 : Nat) (C1 : Res) (x2 : Option Addr) (y2 z2 : Nat) (C2 : Res) (x3 : Option Addr) (y3 z3 : Nat) (C3 : Res), rv = .tuple #[.agg #[.slice x0 y0 z0, .slice x1 y1 z1, .slice x2 y2 z2, .int .i64 r.1.c.h, .int .i64 r.1.g.c, .int .i64 r.1.g.n, .int .i64 r.1.g.r, .slice x3 y3 z3, .int .i64 r.1.s], .bool r.2] ∧ h' = [(0, C0), (1, C1), (2, C2), (3, C3)] ∧ y0 = (r.1.t.b).length ∧ OwnC 3 x0 z0 r.1.t.b C0 ∧ y1 = (r.1.t.f).length ∧ OwnC 71 x1 z1 r.1.t.f C1 ∧ y2 = (r.1.c.l).length ∧ OwnC 65 x2 z2 r.1.c.l C2 ∧ y3 = (r.1.g.o).length ∧ OwnC 85 x3 z3 r.1.g.o C3) := by
  unfold i_NewMachine at H0
  refine ct_of_cw Tryd.func5 rfl Tryd.ntmps5 rfl (Sat.refl _ _) ?_
  refine sr (oE (stpU_alloc 0 tz36 rfl) rfl ?_)
  rintro _ _ ⟨b1, rfl, rfl⟩
  obtain ⟨x2, e2, H0⟩ := bind_some H0
  refine oD (sg rfl) rfl (nn (sr (oD (mv rfl) rfl (oD (mv rfl) rfl (oE (stpU_call (fun i => 1 + i) cf12 (fun w hw => c_i_NewTable fl w a0 a1 (RO.pass hg hw) x2 e2) (sevs_cons rfl (sevs_cons rfl sevs_nil))) rfl ?_)))))
  rintro _ _ ⟨_, ⟨p3, n4, c5, C6, p7, n8, c9, C10, rfl, rfl, hnn4, o6, hnn8, o10⟩, rfl⟩
  obtain rfl := hnn4
  obtain rfl := hnn8
  refine oD (mv rfl) rfl (oD (stp_extract rfl rfl) rfl (oD (stp_extract rfl rfl) rfl (oE (stpU_alloc 3 tz28 rfl) rfl ?_)))
  rintro _ _ ⟨b11, rfl, rfl⟩
  refine oF (stpU_store (id := 3) (cs' := [.slice p3 ((x2.1.b).length) c5, .slice p7 ((x2.1.f).length) c9]) ts28 rfl rfl rfl rfl rfl rfl rfl) ?_
  rintro _ _ rfl
  obtain ⟨x12, e12, H0⟩ := bind_some H0
  refine oD (sg rfl) rfl (nn (sr (oD (mv rfl) rfl (oE (stpU_call (fun i => 4 + i) cf13 (fun w hw => c_i_NewCache fl w a2 x12 e12) (sevs_cons rfl sevs_nil)) rfl ?_))))
  rintro _ _ ⟨_, ⟨p13, n14, c15, C16, rfl, rfl, hnn14, o16⟩, rfl⟩
  obtain rfl := hnn14
  refine oD (mv rfl) rfl (oD (stp_extract rfl rfl) rfl (oD (stp_extract rfl rfl) rfl (oE (stpU_alloc 5 tz31 rfl) rfl ?_)))
  rintro _ _ ⟨b17, rfl, rfl⟩
  refine oF (stpU_store (id := 5) (cs' := [.slice p13 ((x12.1.l).length) c15, .int .i64 x12.1.h]) ts31 rfl rfl rfl rfl rfl rfl rfl) ?_
  rintro _ _ rfl
  obtain ⟨x18, e18, H0⟩ := bind_some H0
  refine oD (sg rfl) rfl (nn (sr (oD (mv rfl) rfl (oE (stpU_call (fun i => 6 + i) cf14 (fun w hw => c_i_NewTags fl w a3 x18 e18) (sevs_cons rfl sevs_nil)) rfl ?_))))
  rintro _ _ ⟨_, ⟨p19, n20, c21, C22, rfl, rfl, hnn20, o22⟩, rfl⟩
  obtain rfl := hnn20
  refine oD (mv rfl) rfl (oD (stp_extract rfl rfl) rfl (oD (stp_extract rfl rfl) rfl (oE (stpU_alloc 7 tz34 rfl) rfl ?_)))
  rintro _ _ ⟨b23, rfl, rfl⟩
  refine oF (stpU_store (id := 7) (cs' := [.int .i64 x18.1.c, .int .i64 x18.1.n, .int .i64 x18.1.r, .slice p19 ((x18.1.o).length) c21]) ts34 rfl rfl rfl rfl rfl rfl rfl) ?_
  rintro _ _ rfl
  obtain ⟨y24, ey24, H0⟩ := bind_some H0
  refine oD (sg rfl) rfl (nn (cw_seq (sr (oD (mv rfl) rfl (oD (stp_not rfl) rfl (oD (mv rfl) rfl (ow_cutY 3 37 y24 ?_ ?_)))))))
  · rcases Bool.eq_false_or_eq_true (!x2.2) with hy24 | hy24
    · have ey24 := cond_t ey24 hy24
      refine oO rfl hy24 rfl (oO rfl hy24 rfl (oD (stp_pick_t rfl hy24 rfl) rfl ?_))
      obtain rfl := Option.some.inj ey24
      exact ow_nil (jy 3 0)
    · have ey24 := cond_f ey24 hy24
      refine oG rfl hy24 (mv rfl) rfl (oG rfl hy24 (stp_not rfl) rfl (oD (stp_pick_f rfl hy24 rfl) rfl ?_))
      obtain rfl := Option.some.inj ey24
      exact ow_nil (jy 3 0)
  · obtain ⟨y25, ey25, H0⟩ := bind_some H0
    refine oD (mv rfl) rfl (ow_cutY 3 41 y25 ?_ ?_)
    · rcases Bool.eq_false_or_eq_true y24 with hy25 | hy25
      · have ey25 := cond_t ey25 hy25
        refine oO rfl hy25 rfl (oO rfl hy25 rfl (oD (stp_pick_t rfl hy25 rfl) rfl ?_))
        obtain rfl := Option.some.inj ey25
        exact ow_nil (jy 3 0)
      · have ey25 := cond_f ey25 hy25
        refine oG rfl hy25 (mv rfl) rfl (oG rfl hy25 (stp_not rfl) rfl (oD (stp_pick_f rfl hy25 rfl) rfl ?_))
        obtain rfl := Option.some.inj ey25
        exact ow_nil (jy 3 0)
    · refine ow_nil (kw_nx (cw_cond rfl (fun h26 => ?_) (fun h26 => ?_)))
      · have H0 := cond_t H0 h26
        refine sr (oD (stp_build (cs := #[.slice none 0 0, .slice none 0 0, .slice none 0 0, .int .i64 0, .int .i64 0, .int .i64 0, .int .i64 0, .slice none 0 0, .int .i64 0]) sevp_nil bt36_6) rfl (oF (stpU_store (id := 0) (cs' := [.slice none 0 0, .slice none 0 0, .slice none 0 0, .int .i64 0, .int .i64 0, .int .i64 0, .int .i64 0, .slice none 0 0, .int .i64 0]) ts36 rfl rfl rfl rfl rfl rfl rfl) ?_))
        rintro _ _ rfl
        refine oD (sg rfl) rfl (nn (cw_ret (kw_nx_ret (kw_addNil 8 (kw_addNil 9 (kw_addNil 10 (kw_addNil 11 ?_)))))))
        have q0 := Option.some.inj H0
        subst q0
        exact kw_ret Tryd.results5 (.cons (.cellN (us := [_, _, _, _, _, _, _, _, _]) ts36 rfl (Cells.box (id := 0) rfl 9 rfl)) (.cons (.tmp rfl) .nil)) [(0, []), (1, []), (2, []), (3, [])] [8, 9, 10, 11] ⟨8, [9, 10, 11], rfl, rfl, 9, [10, 11], rfl, rfl, 10, [11], rfl, rfl, 11, [], rfl, rfl, trivial⟩ (by decide) ⟨none, 0, 0, [], none, 0, 0, [], none, 0, 0, [], none, 0, 0, [], rfl, rfl, rfl, (OwnC.nil _ _), rfl, (OwnC.nil _ _), rfl, (OwnC.nil _ _), rfl, (OwnC.nil _ _)⟩
      · have H0 := cond_f H0 h26
        obtain ⟨x27, e27, H0⟩ := bind_some H0
        refine cw_skip (kw_nx (sr (oD (stp_loadN (us := [_, _, _, _]) ts34 rfl (Cells.box (id := 7) rfl 4 rfl)) rfl (oE (stpU_call (fun i => 12 + i) cf15 (fun w hw => c_i_TakeTag fl w x18.1 p19 ((x18.1.o).length) c21 0 rfl (OwnC.pass (id := 6) rfl o22 hw) x27 e27) (sevs_cons rfl (sevs_cons rfl sevs_nil))) rfl ?_))))
        rintro _ _ ⟨_, ⟨p28, n29, c30, C31, rfl, rfl, hnn29, o31⟩, rfl⟩
        obtain rfl := hnn29
        refine oD (mv rfl) rfl (oD (stp_extract rfl rfl) rfl (oD (stp_extract rfl rfl) rfl (oD (stp_extract rfl rfl) rfl (oD (stp_extract rfl rfl) rfl (oF (stpU_store (id := 7) (cs' := [.int .i64 x27.1.c, .int .i64 x27.1.n, .int .i64 x27.1.r, .slice p28 ((x27.1.o).length) c30]) ts34 rfl rfl rfl rfl rfl rfl rfl) ?_)))))
        rintro _ _ rfl
        refine nn (sr (oD (stp_loadN (us := [_, _]) ts28 rfl (Cells.box (id := 3) rfl 2 rfl)) rfl (oD (stp_loadN (us := [_, _]) ts31 rfl (Cells.box (id := 5) rfl 2 rfl)) rfl (oD (stp_loadN (us := [_, _, _, _]) ts34 rfl (Cells.box (id := 7) rfl 4 rfl)) rfl (oD (stp_build (cs := #[.slice p3 ((x2.1.b).length) c5, .slice p7 ((x2.1.f).length) c9, .slice p13 ((x12.1.l).length) c15, .int .i64 x12.1.h, .int .i64 x27.1.c, .int .i64 x27.1.n, .int .i64 x27.1.r, .slice p28 ((x27.1.o).length) c30, .int .i64 0]) (sevp_cons rfl (sevp_cons rfl (sevp_cons rfl (sevp_cons rfl sevp_nil)))) bt36_9) rfl (oF (stpU_store (id := 0) (cs' := [.slice p3 ((x2.1.b).length) c5, .slice p7 ((x2.1.f).length) c9, .slice p13 ((x12.1.l).length) c15, .int .i64 x12.1.h, .int .i64 x27.1.c, .int .i64 x27.1.n, .int .i64 x27.1.r, .slice p28 ((x27.1.o).length) c30, .int .i64 0]) ts36 rfl rfl rfl rfl rfl rfl rfl) ?_))))))
        rintro _ _ rfl
        refine oD (sg rfl) rfl (nn (cw_ret ?_))
        have q0 := Option.some.inj H0
        subst q0
        exact kw_ret Tryd.results5 (.cons (.cellN (us := [_, _, _, _, _, _, _, _, _]) ts36 rfl (Cells.box (id := 0) rfl 9 rfl)) (.cons (.tmp rfl) .nil)) [(0, C6), (1, C10), (2, C16), (3, C31)] [1, 2, 4, 12] ⟨1, [2, 4, 12], rfl, rfl, 2, [4, 12], rfl, rfl, 4, [12], rfl, rfl, 12, [], rfl, rfl, trivial⟩ (by decide) ⟨p3, ((x2.1.b).length), c5, C6, p7, ((x2.1.f).length), c9, C10, p13, ((x12.1.l).length), c15, C16, p28, ((x27.1.o).length), c30, C31, rfl, rfl, rfl, o6, rfl, o10, rfl, o16, rfl, o31⟩

set_option maxHeartbeats 4000000 in
set_option maxRecDepth 20000 in
theorem c_s_l2Buckets (fl : Nat) (w : World) (a0 : Int) (r : Bool) (H0 : s_l2Buckets fl a0 = some r) :
    Ct Tryd.prog 43 [.int .i64 a0] w [] (fun rv h' => rv = .bool r ∧ h' = []) := by
  unfold s_l2Buckets at H0
  refine ct_of_cw Tryd.func43 rfl Tryd.ntmps43 rfl (Sat.refl _ _) ?_
  obtain ⟨y1, ey1, H0⟩ := bind_some H0
  refine sr (oD (sg rfl) rfl (nn (sr (oD (mv rfl) rfl (oD (stp_geq rfl rfl) rfl (oD (mv rfl) rfl (ow_cutY 3 8 y1 ?_ ?_)))))))
  · rcases Bool.eq_false_or_eq_true (decide (1 ≤ a0)) with hy1 | hy1
    · have ey1 := cond_t ey1 hy1
      refine oG rfl hy1 (mv rfl) rfl (oG rfl hy1 (stp_leq rfl rfl) rfl (oD (stp_pick_t rfl hy1 rfl) rfl ?_))
      obtain rfl := Option.some.inj ey1
      exact ow_nil (jy 3 0)
    · have ey1 := cond_f ey1 hy1
      refine oO rfl hy1 rfl (oO rfl hy1 rfl (oD (stp_pick_f rfl hy1 rfl) rfl ?_))
      obtain rfl := Option.some.inj ey1
      exact ow_nil (jy 3 0)
  · refine oD (sg rfl) rfl (nn (cw_ret ?_))
    have q0 := Option.some.inj H0
    subst q0
    exact kw_ret Tryd.results43 (.cons (.tmp rfl) .nil) [] [] trivial (by decide) ⟨rfl, rfl⟩

set_option maxHeartbeats 4000000 in
set_option maxRecDepth 20000 in
theorem c_s_NewTable (fl : Nat) (w : World) (a0 : Int) (a1 : Int) (r : T × Bool) (H0 : s_NewTable fl a0 a1 = some r) :
    Ct Tryd.prog 16 [.int .i64 a0, .int .i64 a1] w [] (fun rv h' => ∃ (x0 : Option Addr) (y0 z0 : Nat) (C0 : Res) (x1 : Option Addr) (y1 z1 : Nat) (C1 : Res), rv = .tuple #[.agg #[.slice x0 y0 z0, .slice x1 y1 z1], .bool r.2] ∧ h' = [(0, C0), (1, C1)] ∧ y0 = (r.1.b).length ∧ OwnC 3 x0 z0 r.1.b C0 ∧ y1 = (r.1.f).length ∧ OwnC 71 x1 z1 r.1.f C1) := by
  unfold s_NewTable at H0
  refine ct_of_cw Tryd.func16 rfl Tryd.ntmps16 rfl (Sat.refl _ _) ?_
  refine sr (oE (stpU_alloc 0 tz28 rfl) rfl ?_)
  rintro _ _ ⟨b1, rfl, rfl⟩
  obtain ⟨y2, ey2, H0⟩ := bind_some H0
  refine oD (sg rfl) rfl (nn (cw_seq (sr (oD (mv rfl) rfl (oD (stp_lss rfl rfl) rfl (oD (mv rfl) rfl (ow_cutY 3 14 y2 ?_ ?_)))))))
  · rcases Bool.eq_false_or_eq_true (decide (a0 < 1)) with hy2 | hy2
    · have ey2 := cond_t ey2 hy2
      refine oO rfl hy2 rfl (oO rfl hy2 rfl (oD (stp_pick_t rfl hy2 rfl) rfl ?_))
      obtain rfl := Option.some.inj ey2
      exact ow_nil (jy 3 0)
    · have ey2 := cond_f ey2 hy2
      refine oG rfl hy2 (mv rfl) rfl (oG rfl hy2 (stp_gtr rfl rfl) rfl (oD (stp_pick_f rfl hy2 rfl) rfl ?_))
      obtain rfl := Option.some.inj ey2
      exact ow_nil (jy 3 0)
  · obtain ⟨y3, ey3, H0⟩ := bind_some H0
    refine oD (mv rfl) rfl (ow_cutY 4 19 y3 ?_ ?_)
    · rcases Bool.eq_false_or_eq_true y2 with hy3 | hy3
      · have ey3 := cond_t ey3 hy3
        refine oO rfl hy3 rfl (oO rfl hy3 rfl (oO rfl hy3 rfl (oD (stp_pick_t rfl hy3 rfl) rfl ?_)))
        obtain rfl := Option.some.inj ey3
        exact ow_nil (jy 4 0)
      · have ey3 := cond_f ey3 hy3
        obtain ⟨x4, e4, ey3⟩ := bind_some ey3
        refine oG rfl hy3 (mv rfl) rfl (ow_eff (.some rfl hy3) (stpU_call (fun i => 1 + i) cf43 (fun w hw => c_s_l2Buckets fl w a1 x4 e4) (sevs_cons rfl sevs_nil)) rfl ?_)
        rintro _ _ ⟨_, ⟨rfl, rfl⟩, rfl⟩
        refine oG rfl hy3 (stp_not rfl) rfl (oD (stp_pick_f rfl hy3 rfl) rfl ?_)
        obtain rfl := Option.some.inj ey3
        exact ow_nil (jy 4 0)
    · refine ow_nil (kw_nx (cw_cond rfl (fun h5 => ?_) (fun h5 => ?_)))
      · have H0 := cond_t H0 h5
        refine sr (oD (stp_build (cs := #[.slice none 0 0, .slice none 0 0]) sevp_nil bt28_0) rfl (oF (stpU_store (id := 0) (cs' := [.slice none 0 0, .slice none 0 0]) ts28 rfl rfl rfl rfl rfl rfl rfl) ?_))
        rintro _ _ rfl
        refine oD (sg rfl) rfl (nn (cw_ret (kw_nx_ret (kw_addNil 1 (kw_addNil 2 ?_)))))
        have q0 := Option.some.inj H0
        subst q0
        exact kw_ret Tryd.results16 (.cons (.cellN (us := [_, _]) ts28 rfl (Cells.box (id := 0) rfl 2 rfl)) (.cons (.tmp rfl) .nil)) [(0, []), (1, [])] [1, 2] ⟨1, [2], rfl, rfl, 2, [], rfl, rfl, trivial⟩ (by decide) ⟨none, 0, 0, [], none, 0, 0, [], rfl, rfl, rfl, (OwnC.nil _ _), rfl, (OwnC.nil _ _)⟩
      · have H0 := cond_f H0 h5
        refine cw_skip (kw_nx (sr (oD (stp_build (cs := #[.slice none 0 0, .slice none 0 0]) sevp_nil bt28_0) rfl (oE (stpU_alloc 3 tz28 rfl) rfl ?_))))
        rintro _ _ ⟨b6, rfl, rfl⟩
        refine oF (stpU_store (id := 3) (cs' := [.slice none 0 0, .slice none 0 0]) ts28 rfl rfl rfl rfl rfl rfl rfl) ?_
        rintro _ _ rfl
        obtain ⟨o0_0, eo0_0, H0⟩ := bind_some H0
        refine nn (cw_seq (sr (oD (sg rfl) rfl (nn (cw_addNil 4 (cw_join (ι := (List Int) × Int × Option Addr × Nat × Nat × Res) (fun | (v7, v12, p8, n9, c10, C11) => o0_0 = .out (v7, v12) ∧ n9 = (v7).length ∧ OwnC (α := Int) 3 p8 c10 v7 C11) (fun | (v7, v12, p8, n9, c10, C11) => [(0, .int .i64 a0), (1, .int .i64 a1), (4, .pointer (some ⟨b1, 0, none⟩)), (6, .pointer (some ⟨b6, 0, none⟩)), (7, .int .i64 v12)]) (fun | (v7, v12, p8, n9, c10, C11) => [(0, [(b1, .cells #[.slice none 0 0, .slice none 0 0] 28 (0, 0))]), (3, [(b6, .cells #[.slice p8 n9 c10, .slice none 0 0] 28 (0, 0))]), (1001, C11)]) ?_ ?_))))))
        · refine cw_block (cw_loopS (ι := Nat × (List Int) × Int × Option Addr × Nat × Nat × Res) (js := [0, 3, 4]) (fun x => x.1) (fun | (fuel, v7, v12, p8, n9, c10, C11) => s_NewTable_L0 fl a1 fuel v7 v12 = some o0_0 ∧ n9 = (v7).length ∧ OwnC (α := Int) 3 p8 c10 v7 C11) (fun | (_, v7, v12, p8, n9, c10, C11) => [(0, .int .i64 a0), (1, .int .i64 a1), (4, .pointer (some ⟨b1, 0, none⟩)), (6, .pointer (some ⟨b6, 0, none⟩)), (7, .int .i64 v12)]) (fun | (_, v7, v12, p8, n9, c10, C11) => [(0, [(b1, .cells #[.slice none 0 0, .slice none 0 0] 28 (0, 0))]), (3, [(b6, .cells #[.slice p8 n9 c10, .slice none 0 0] 28 (0, 0))]), (1001, C11)]) (fl, [], 0, none, 0, 0, []) ⟨eo0_0, rfl, (OwnC.nil _ _)⟩ ⟨rfl, rfl, rfl, rfl, rfl, trivial⟩ ⟨0, [3, 4], rfl, rfl, 3, [4], rfl, rfl, 4, [], rfl, rfl, trivial⟩ (by decide) ?_)
          rintro ⟨fuel, v7, v12, p8, n9, c10, C11⟩ ⟨H1, hnn9, o11⟩
          obtain rfl := hnn9
          have H1 : s_NewTable_L0 fl a1 fuel v7 v12 = some o0_0 := H1
          rcases fuel with _ | fuel
          · rw [s_NewTable_L0.eq_1] at H1; cases H1
          rw [s_NewTable_L0.eq_2] at H1
          refine CW.sub (s' := [(0, .int .i64 a0), (1, .int .i64 a1), (4, .pointer (some ⟨b1, 0, none⟩)), (6, .pointer (some ⟨b6, 0, none⟩)), (7, .int .i64 v12)]) (h' := [(0, [(b1, .cells #[.slice none 0 0, .slice none 0 0] 28 (0, 0))]), (3, [(b6, .cells #[.slice p8 ((v7).length) c10, .slice none 0 0] 28 (0, 0))]), (1001, C11)]) ?_ ⟨rfl, rfl, rfl, rfl, rfl, trivial⟩ ⟨rfl, rfl, rfl, trivial⟩
          refine cw_seq (sr (oD (mv rfl) rfl (oD (mv rfl) rfl (oD (stp_lss rfl rfl) rfl (nn (cw_cond rfl (fun h13 => ?_) (fun h13 => ?_)))))))
          · have H1 := cond_t H1 h13
            refine cw_skip (kw_nx (cw_seq (cw_block (cw_region (oD (fA 0 Tryd.underlying28 rfl ts25 rfl rfl rfl) rfl (oD (lB 3 ts25 rfl rfl rfl) rfl (oE (stpU_lit (sz := 1) (l := [(-1)]) [.int .i64 (-1)] sl25 5 (sevp_cons rfl sevp_nil) rfl rfl rfl rfl rfl rfl rfl rfl rfl) rfl ?_)))))))
            rintro _ _ ⟨p14, C15, rfl, rfl, o15⟩
            obtain ⟨x16, e16, H1⟩ := bind_some H1
            refine oE (stpU_append sl25 rfl (id := 1001) rfl rfl rfl (by simp) rfl o11 (Rdb.own (id := 5) rfl o15) e16) rfl ?_
            rintro _ _ ⟨p17, c18, C19, rfl, rfl, o19⟩
            refine oD (fA 0 Tryd.underlying28 rfl ts25 rfl rfl rfl) rfl (oF (stpU_store (id := 3) (cs' := [.slice p17 ((x16).length) c18, .slice none 0 0]) ts25 rfl rfl rfl rfl rfl rfl rfl) ?_)
            rintro _ _ rfl
            obtain ⟨x20, e20, H1⟩ := bind_some H1
            exact ow_nil (kw_bl_normal (kw_nx (cw_region (oD (mv rfl) rfl (oD (stp_add rfl rfl e20) rfl (oD (sg rfl) rfl (ow_nil (kw_lqS (js := [0, 3, 1001]) (fuel, x16, x20, p17, ((x16).length), c18, C19) ⟨H1, rfl, o19⟩ (Nat.lt_succ_self _) ⟨rfl, rfl, rfl, rfl, rfl, trivial⟩ ⟨0, [3, 1001], rfl, rfl, 3, [1001], rfl, rfl, 1001, [], rfl, rfl, trivial⟩ (by decide)))))))))
          · have H1 := cond_f H1 h13
            refine cw_exit (kw_nx_exit (kw_lq_exit (kw_bl ?_)))
            have q1 := Option.some.inj H1
            subst q1
            exact kw_joinS (js := [0, 3, 1001]) (v7, v12, p8, ((v7).length), c10, C11) ⟨rfl, rfl, o11⟩ ⟨rfl, rfl, rfl, rfl, rfl, trivial⟩ ⟨0, [3, 1001], rfl, rfl, 3, [1001], rfl, rfl, 1001, [], rfl, rfl, trivial⟩ (by decide)
        · rintro ⟨v7, v12, p8, n9, c10, C11⟩ ⟨rfl, hnn9, o11⟩
          obtain rfl := hnn9
          refine KW.sub (s' := [(0, .int .i64 a0), (1, .int .i64 a1), (4, .pointer (some ⟨b1, 0, none⟩)), (6, .pointer (some ⟨b6, 0, none⟩)), (7, .int .i64 v12)]) (h' := [(0, [(b1, .cells #[.slice none 0 0, .slice none 0 0] 28 (0, 0))]), (3, [(b6, .cells #[.slice p8 ((v7).length) c10, .slice none 0 0] 28 (0, 0))]), (1001, C11)]) ?_ ⟨rfl, rfl, rfl, rfl, rfl, trivial⟩ ⟨rfl, rfl, rfl, trivial⟩
          obtain ⟨o0_1, eo0_1, H0⟩ := bind_some H0
          refine kw_nx (cw_seq (sr (oD (sg rfl) rfl (nn (cw_addNil 6 (cw_join (ι := (List F) × Int × Option Addr × Nat × Nat × Res) (fun | (v21, v26, p22, n23, c24, C25) => o0_1 = .out (v21, v26) ∧ n23 = (v21).length ∧ OwnC (α := F) 71 p22 c24 v21 C25) (fun | (v21, v26, p22, n23, c24, C25) => [(0, .int .i64 a0), (4, .pointer (some ⟨b1, 0, none⟩)), (6, .pointer (some ⟨b6, 0, none⟩)), (8, .int .i64 v26)]) (fun | (v21, v26, p22, n23, c24, C25) => [(0, [(b1, .cells #[.slice none 0 0, .slice none 0 0] 28 (0, 0))]), (3, [(b6, .cells #[.slice p8 ((v7).length) c10, .slice p22 n23 c24] 28 (0, 0))]), (1001, C11), (1002, C25)]) ?_ ?_))))))
          · refine cw_block (cw_loopS (ι := Nat × (List F) × Int × Option Addr × Nat × Nat × Res) (js := [0, 3, 1001, 6]) (fun x => x.1) (fun | (fuel, v21, v26, p22, n23, c24, C25) => s_NewTable_L1 fl a0 fuel v21 v26 = some o0_1 ∧ n23 = (v21).length ∧ OwnC (α := F) 71 p22 c24 v21 C25) (fun | (_, v21, v26, p22, n23, c24, C25) => [(0, .int .i64 a0), (4, .pointer (some ⟨b1, 0, none⟩)), (6, .pointer (some ⟨b6, 0, none⟩)), (8, .int .i64 v26)]) (fun | (_, v21, v26, p22, n23, c24, C25) => [(0, [(b1, .cells #[.slice none 0 0, .slice none 0 0] 28 (0, 0))]), (3, [(b6, .cells #[.slice p8 ((v7).length) c10, .slice p22 n23 c24] 28 (0, 0))]), (1001, C11), (1002, C25)]) (fl, [], 0, none, 0, 0, []) ⟨eo0_1, rfl, (OwnC.nil _ _)⟩ ⟨rfl, rfl, rfl, rfl, trivial⟩ ⟨0, [3, 1001, 6], rfl, rfl, 3, [1001, 6], rfl, rfl, 1001, [6], rfl, rfl, 6, [], rfl, rfl, trivial⟩ (by decide) ?_)
            rintro ⟨fuel, v21, v26, p22, n23, c24, C25⟩ ⟨H1, hnn23, o25⟩
            obtain rfl := hnn23
            have H1 : s_NewTable_L1 fl a0 fuel v21 v26 = some o0_1 := H1
            rcases fuel with _ | fuel
            · rw [s_NewTable_L1.eq_1] at H1; cases H1
            rw [s_NewTable_L1.eq_2] at H1
            refine CW.sub (s' := [(0, .int .i64 a0), (4, .pointer (some ⟨b1, 0, none⟩)), (6, .pointer (some ⟨b6, 0, none⟩)), (8, .int .i64 v26)]) (h' := [(0, [(b1, .cells #[.slice none 0 0, .slice none 0 0] 28 (0, 0))]), (3, [(b6, .cells #[.slice p8 ((v7).length) c10, .slice p22 ((v21).length) c24] 28 (0, 0))]), (1001, C11), (1002, C25)]) ?_ ⟨rfl, rfl, rfl, rfl, trivial⟩ ⟨rfl, rfl, rfl, rfl, trivial⟩
            refine cw_seq (sr (oD (mv rfl) rfl (oD (mv rfl) rfl (oD (stp_lss rfl rfl) rfl (nn (cw_cond rfl (fun h27 => ?_) (fun h27 => ?_)))))))
            · have H1 := cond_t H1 h27
              refine cw_skip (kw_nx (cw_seq (cw_block (cw_region (oD (fA 1 Tryd.underlying28 rfl ts26 rfl rfl rfl) rfl (oD (lB 3 ts26 rfl rfl rfl) rfl (oD (stp_build (cs := #[.bool false, .int .i64 0, .int .i64 0, .int .i64 0, .int .i64 (-1)]) (sevp_cons rfl sevp_nil) bt71_10) rfl (oE (stpU_lit (sz := 5) (l := [(⟨false, (⟨0, 0⟩ : K), 0, (-1)⟩ : F)]) [.agg #[.bool false, .int .i64 0, .int .i64 0, .int .i64 0, .int .i64 (-1)]] sl26 7 (sevp_cons rfl sevp_nil) rfl rfl rfl rfl rfl rfl rfl rfl rfl) rfl ?_))))))))
              rintro _ _ ⟨p28, C29, rfl, rfl, o29⟩
              obtain ⟨x30, e30, H1⟩ := bind_some H1
              refine oE (stpU_append sl26 rfl (id := 1002) rfl rfl rfl (by simp) rfl o25 (Rdb.own (id := 7) rfl o29) e30) rfl ?_
              rintro _ _ ⟨p31, c32, C33, rfl, rfl, o33⟩
              refine oD (fA 1 Tryd.underlying28 rfl ts26 rfl rfl rfl) rfl (oF (stpU_store (id := 3) (cs' := [.slice p8 ((v7).length) c10, .slice p31 ((x30).length) c32]) ts26 rfl rfl rfl rfl rfl rfl rfl) ?_)
              rintro _ _ rfl
              obtain ⟨x34, e34, H1⟩ := bind_some H1
              exact ow_nil (kw_bl_normal (kw_nx (cw_region (oD (mv rfl) rfl (oD (stp_add rfl rfl e34) rfl (oD (sg rfl) rfl (ow_nil (kw_lqS (js := [0, 3, 1001, 1002]) (fuel, x30, x34, p31, ((x30).length), c32, C33) ⟨H1, rfl, o33⟩ (Nat.lt_succ_self _) ⟨rfl, rfl, rfl, rfl, trivial⟩ ⟨0, [3, 1001, 1002], rfl, rfl, 3, [1001, 1002], rfl, rfl, 1001, [1002], rfl, rfl, 1002, [], rfl, rfl, trivial⟩ (by decide)))))))))
            · have H1 := cond_f H1 h27
              refine cw_exit (kw_nx_exit (kw_lq_exit (kw_bl ?_)))
              have q1 := Option.some.inj H1
              subst q1
              exact kw_joinS (js := [0, 3, 1001, 1002]) (v21, v26, p22, ((v21).length), c24, C25) ⟨rfl, rfl, o25⟩ ⟨rfl, rfl, rfl, rfl, trivial⟩ ⟨0, [3, 1001, 1002], rfl, rfl, 3, [1001, 1002], rfl, rfl, 1001, [1002], rfl, rfl, 1002, [], rfl, rfl, trivial⟩ (by decide)
          · rintro ⟨v21, v26, p22, n23, c24, C25⟩ ⟨rfl, hnn23, o25⟩
            obtain rfl := hnn23
            refine KW.sub (s' := [(0, .int .i64 a0), (4, .pointer (some ⟨b1, 0, none⟩)), (6, .pointer (some ⟨b6, 0, none⟩)), (8, .int .i64 v26)]) (h' := [(0, [(b1, .cells #[.slice none 0 0, .slice none 0 0] 28 (0, 0))]), (3, [(b6, .cells #[.slice p8 ((v7).length) c10, .slice p22 ((v21).length) c24] 28 (0, 0))]), (1001, C11), (1002, C25)]) ?_ ⟨rfl, rfl, rfl, rfl, trivial⟩ ⟨rfl, rfl, rfl, rfl, trivial⟩
            refine kw_nx (sr (oD (stp_loadN (us := [_, _]) ts28 rfl (Cells.box (id := 3) rfl 2 rfl)) rfl (oF (stpU_store (id := 0) (cs' := [.slice p8 ((v7).length) c10, .slice p22 ((v21).length) c24]) ts28 rfl rfl rfl rfl rfl rfl rfl) ?_)))
            rintro _ _ rfl
            refine oD (sg rfl) rfl (nn (cw_ret ?_))
            have q0 := Option.some.inj H0
            subst q0
            exact kw_ret Tryd.results16 (.cons (.cellN (us := [_, _]) ts28 rfl (Cells.box (id := 0) rfl 2 rfl)) (.cons (.tmp rfl) .nil)) [(0, C11), (1, C25)] [1001, 1002] ⟨1001, [1002], rfl, rfl, 1002, [], rfl, rfl, trivial⟩ (by decide) ⟨p8, ((v7).length), c10, C11, p22, ((v21).length), c24, C25, rfl, rfl, rfl, o11, rfl, o25⟩

set_option maxHeartbeats 4000000 in
set_option maxRecDepth 20000 in
theorem c_s_NewCache (fl : Nat) (w : World) (a0 : Int) (r : Ca × Bool) (H0 : s_NewCache fl a0 = some r) :
    Ct Tryd.prog 17 [.int .i64 a0] w [] (fun rv h' => ∃ (x0 : Option Addr) (y0 z0 : Nat) (C0 : Res), rv = .tuple #[.agg #[.slice x0 y0 z0, .int .i64 r.1.h], .bool r.2] ∧ h' = [(0, C0)] ∧ y0 = (r.1.l).length ∧ OwnC 65 x0 z0 r.1.l C0) := by
  unfold s_NewCache at H0
  refine ct_of_cw Tryd.func17 rfl Tryd.ntmps17 rfl (Sat.refl _ _) ?_
  refine sr (oE (stpU_alloc 0 tz31 rfl) rfl ?_)
  rintro _ _ ⟨b1, rfl, rfl⟩
  obtain ⟨y2, ey2, H0⟩ := bind_some H0
  refine oD (sg rfl) rfl (nn (cw_seq (sr (oD (mv rfl) rfl (oD (stp_lss rfl rfl) rfl (oD (mv rfl) rfl (ow_cutY 3 9 y2 ?_ ?_)))))))
  · rcases Bool.eq_false_or_eq_true (decide (a0 < 1)) with hy2 | hy2
    · have ey2 := cond_t ey2 hy2
      refine oO rfl hy2 rfl (oO rfl hy2 rfl (oD (stp_pick_t rfl hy2 rfl) rfl ?_))
      obtain rfl := Option.some.inj ey2
      exact ow_nil (jy 3 0)
    · have ey2 := cond_f ey2 hy2
      refine oG rfl hy2 (mv rfl) rfl (oG rfl hy2 (stp_gtr rfl rfl) rfl (oD (stp_pick_f rfl hy2 rfl) rfl ?_))
      obtain rfl := Option.some.inj ey2
      exact ow_nil (jy 3 0)
  · refine ow_nil (kw_nx (cw_cond rfl (fun h3 => ?_) (fun h3 => ?_)))
    · have H0 := cond_t H0 h3
      refine sr (oD (stp_build (cs := #[.slice none 0 0, .int .i64 0]) sevp_nil bt31_2) rfl (oF (stpU_store (id := 0) (cs' := [.slice none 0 0, .int .i64 0]) ts31 rfl rfl rfl rfl rfl rfl rfl) ?_))
      rintro _ _ rfl
      refine oD (sg rfl) rfl (nn (cw_ret (kw_nx_ret (kw_addNil 1 ?_))))
      have q0 := Option.some.inj H0
      subst q0
      exact kw_ret Tryd.results17 (.cons (.cellN (us := [_, _]) ts31 rfl (Cells.box (id := 0) rfl 2 rfl)) (.cons (.tmp rfl) .nil)) [(0, [])] [1] ⟨1, [], rfl, rfl, trivial⟩ (by decide) ⟨none, 0, 0, [], rfl, rfl, rfl, (OwnC.nil _ _)⟩
    · have H0 := cond_f H0 h3
      obtain ⟨x4, e4, H0⟩ := bind_some H0
      refine cw_skip (kw_nx (sr (oD (mv rfl) rfl (oE (stpU_make sl29 rfl 2 rfl rfl e4) rfl ?_))))
      rintro _ _ ⟨p5, C6, rfl, rfl, o6⟩
      refine oD (stp_build (cs := #[.slice p5 x4 x4, .int .i64 0]) (sevp_cons rfl sevp_nil) bt31_3) rfl (oF (stpU_store (id := 0) (cs' := [.slice p5 x4 x4, .int .i64 0]) ts31 rfl rfl rfl rfl rfl rfl rfl) ?_)
      rintro _ _ rfl
      refine oD (sg rfl) rfl (nn (cw_ret ?_))
      have q0 := Option.some.inj H0
      subst q0
      exact kw_ret Tryd.results17 (.cons (.cellN (us := [_, _]) ts31 rfl (Cells.box (id := 0) rfl 2 rfl)) (.cons (.tmp rfl) .nil)) [(0, C6)] [2] ⟨2, [], rfl, rfl, trivial⟩ (by decide) ⟨p5, x4, x4, C6, rfl, rfl, (by simp), o6⟩

set_option maxHeartbeats 4000000 in
set_option maxRecDepth 20000 in
theorem c_s_NewTags (fl : Nat) (w : World) (a0 : Int) (r : Tg × Bool) (H0 : s_NewTags fl a0 = some r) :
    Ct Tryd.prog 18 [.int .i64 a0] w [] (fun rv h' => ∃ (x0 : Option Addr) (y0 z0 : Nat) (C0 : Res), rv = .tuple #[.agg #[.int .i64 r.1.c, .int .i64 r.1.n, .int .i64 r.1.r, .slice x0 y0 z0], .bool r.2] ∧ h' = [(0, C0)] ∧ y0 = (r.1.o).length ∧ OwnC 85 x0 z0 r.1.o C0) := by
  unfold s_NewTags at H0
  refine ct_of_cw Tryd.func18 rfl Tryd.ntmps18 rfl (Sat.refl _ _) ?_
  refine sr (oE (stpU_alloc 0 tz34 rfl) rfl ?_)
  rintro _ _ ⟨b1, rfl, rfl⟩
  obtain ⟨y2, ey2, H0⟩ := bind_some H0
  refine oD (sg rfl) rfl (nn (cw_seq (sr (oD (mv rfl) rfl (oD (stp_lss rfl rfl) rfl (oD (mv rfl) rfl (ow_cutY 3 9 y2 ?_ ?_)))))))
  · rcases Bool.eq_false_or_eq_true (decide (a0 < 1)) with hy2 | hy2
    · have ey2 := cond_t ey2 hy2
      refine oO rfl hy2 rfl (oO rfl hy2 rfl (oD (stp_pick_t rfl hy2 rfl) rfl ?_))
      obtain rfl := Option.some.inj ey2
      exact ow_nil (jy 3 0)
    · have ey2 := cond_f ey2 hy2
      refine oG rfl hy2 (mv rfl) rfl (oG rfl hy2 (stp_gtr rfl rfl) rfl (oD (stp_pick_f rfl hy2 rfl) rfl ?_))
      obtain rfl := Option.some.inj ey2
      exact ow_nil (jy 3 0)
  · refine ow_nil (kw_nx (cw_cond rfl (fun h3 => ?_) (fun h3 => ?_)))
    · have H0 := cond_t H0 h3
      refine sr (oD (stp_build (cs := #[.int .i64 0, .int .i64 0, .int .i64 0, .slice none 0 0]) sevp_nil bt34_4) rfl (oF (stpU_store (id := 0) (cs' := [.int .i64 0, .int .i64 0, .int .i64 0, .slice none 0 0]) ts34 rfl rfl rfl rfl rfl rfl rfl) ?_))
      rintro _ _ rfl
      refine oD (sg rfl) rfl (nn (cw_ret (kw_nx_ret (kw_addNil 1 ?_))))
      have q0 := Option.some.inj H0
      subst q0
      exact kw_ret Tryd.results18 (.cons (.cellN (us := [_, _, _, _]) ts34 rfl (Cells.box (id := 0) rfl 4 rfl)) (.cons (.tmp rfl) .nil)) [(0, [])] [1] ⟨1, [], rfl, rfl, trivial⟩ (by decide) ⟨none, 0, 0, [], rfl, rfl, rfl, (OwnC.nil _ _)⟩
    · have H0 := cond_f H0 h3
      refine cw_skip (kw_nx (sr (oD (mv rfl) rfl (oE (stpU_lit0 sl32 2) rfl ?_))))
      rintro _ _ ⟨p4, C5, rfl, rfl, o5⟩
      refine oD (stp_build (cs := #[.int .i64 a0, .int .i64 0, .int .i64 0, .slice p4 0 0]) (sevp_cons rfl (sevp_cons rfl sevp_nil)) bt34_11) rfl (oF (stpU_store (id := 0) (cs' := [.int .i64 a0, .int .i64 0, .int .i64 0, .slice p4 0 0]) ts34 rfl rfl rfl rfl rfl rfl rfl) ?_)
      rintro _ _ rfl
      refine oD (sg rfl) rfl (nn (cw_ret ?_))
      have q0 := Option.some.inj H0
      subst q0
      exact kw_ret Tryd.results18 (.cons (.cellN (us := [_, _, _, _]) ts34 rfl (Cells.box (id := 0) rfl 4 rfl)) (.cons (.tmp rfl) .nil)) [(0, C5)] [2] ⟨2, [], rfl, rfl, trivial⟩ (by decide) ⟨p4, 0, 0, C5, rfl, rfl, (by simp), o5⟩

set_option maxHeartbeats 4000000 in
set_option maxRecDepth 20000 in
theorem c_s_l1Space (fl : Nat) (w : World) (a0 : Int) (r : Bool) (H0 : s_l1Space fl a0 = some r) :
    Ct Tryd.prog 45 [.int .i64 a0] w [] (fun rv h' => rv = .bool r ∧ h' = []) := by
  unfold s_l1Space at H0
  refine ct_of_cw Tryd.func45 rfl Tryd.ntmps45 rfl (Sat.refl _ _) ?_
  obtain ⟨y1, ey1, H0⟩ := bind_some H0
  refine sr (oD (sg rfl) rfl (nn (sr (oD (mv rfl) rfl (oD (stp_geq rfl rfl) rfl (oD (mv rfl) rfl (ow_cutY 3 8 y1 ?_ ?_)))))))
  · rcases Bool.eq_false_or_eq_true (decide (0 ≤ a0)) with hy1 | hy1
    · have ey1 := cond_t ey1 hy1
      refine oG rfl hy1 (mv rfl) rfl (oG rfl hy1 (stp_lss rfl rfl) rfl (oD (stp_pick_t rfl hy1 rfl) rfl ?_))
      obtain rfl := Option.some.inj ey1
      exact ow_nil (jy 3 0)
    · have ey1 := cond_f ey1 hy1
      refine oO rfl hy1 rfl (oO rfl hy1 rfl (oD (stp_pick_f rfl hy1 rfl) rfl ?_))
      obtain rfl := Option.some.inj ey1
      exact ow_nil (jy 3 0)
  · refine oD (sg rfl) rfl (nn (cw_ret ?_))
    have q0 := Option.some.inj H0
    subst q0
    exact kw_ret Tryd.results45 (.cons (.tmp rfl) .nil) [] [] trivial (by decide) ⟨rfl, rfl⟩

set_option maxHeartbeats 4000000 in
set_option maxRecDepth 20000 in
theorem c_s_TagsValid (fl : Nat) (w : World) (a0 : Tg) (p0_0 : Option Addr) (n0_0 c0_0 : Nat) (hn0_0 : n0_0 = (a0.o).length) (hr0_0 : RO w (hkeys []) (RdL p0_0 c0_0 a0.o)) (r : Bool) (H0 : s_TagsValid fl a0 = some r) :
    Ct Tryd.prog 44 [.agg #[.int .i64 a0.c, .int .i64 a0.n, .int .i64 a0.r, .slice p0_0 n0_0 c0_0]] w [] (fun rv h' => rv = .bool r ∧ h' = []) := by
  obtain rfl := hn0_0
  unfold s_TagsValid at H0
  refine ct_of_cw Tryd.func44 rfl Tryd.ntmps44 rfl (Sat.refl _ _) ?_
  refine sr (oE (stpU_box 0 rfl rfl) rfl ?_)
  rintro _ _ ⟨b1, rfl, rfl⟩
  obtain ⟨y2, ey2, H0⟩ := bind_some H0
  refine oD (sg rfl) rfl (nn (cw_seq (sr (oD (fA 0 Tryd.underlying34 rfl ts3 rfl rfl rfl) rfl (oD (lB 0 ts3 rfl rfl rfl) rfl (oD (stp_lss rfl rfl) rfl (oD (mv rfl) rfl (ow_cutY 4 13 y2 ?_ ?_))))))))
  · rcases Bool.eq_false_or_eq_true (decide (a0.c < 1)) with hy2 | hy2
    · have ey2 := cond_t ey2 hy2
      refine oO rfl hy2 rfl (oO rfl hy2 rfl (oO rfl hy2 rfl (oD (stp_pick_t rfl hy2 rfl) rfl ?_)))
      obtain rfl := Option.some.inj ey2
      exact ow_nil (jy 4 0)
    · have ey2 := cond_f ey2 hy2
      refine oG rfl hy2 (fA 0 Tryd.underlying34 rfl ts3 rfl rfl rfl) rfl (oG rfl hy2 (lB 0 ts3 rfl rfl rfl) rfl (oG rfl hy2 (stp_gtr rfl rfl) rfl (oD (stp_pick_f rfl hy2 rfl) rfl ?_)))
      obtain rfl := Option.some.inj ey2
      exact ow_nil (jy 4 0)
  · obtain ⟨y3, ey3, H0⟩ := bind_some H0
    refine oD (mv rfl) rfl (ow_cutY 4 18 y3 ?_ ?_)
    · rcases Bool.eq_false_or_eq_true y2 with hy3 | hy3
      · have ey3 := cond_t ey3 hy3
        refine oO rfl hy3 rfl (oO rfl hy3 rfl (oO rfl hy3 rfl (oD (stp_pick_t rfl hy3 rfl) rfl ?_)))
        obtain rfl := Option.some.inj ey3
        exact ow_nil (jy 4 0)
      · have ey3 := cond_f ey3 hy3
        refine oG rfl hy3 (fA 1 Tryd.underlying34 rfl ts3 rfl rfl rfl) rfl (oG rfl hy3 (lB 0 ts3 rfl rfl rfl) rfl (oG rfl hy3 (stp_lss rfl rfl) rfl (oD (stp_pick_f rfl hy3 rfl) rfl ?_)))
        obtain rfl := Option.some.inj ey3
        exact ow_nil (jy 4 0)
    · obtain ⟨y4, ey4, H0⟩ := bind_some H0
      refine oD (mv rfl) rfl (ow_cutY 6 25 y4 ?_ ?_)
      · rcases Bool.eq_false_or_eq_true y3 with hy4 | hy4
        · have ey4 := cond_t ey4 hy4
          refine oO rfl hy4 rfl (oO rfl hy4 rfl (oO rfl hy4 rfl (oO rfl hy4 rfl (oO rfl hy4 rfl (oD (stp_pick_t rfl hy4 rfl) rfl ?_)))))
          obtain rfl := Option.some.inj ey4
          exact ow_nil (jy 6 0)
        · have ey4 := cond_f ey4 hy4
          refine oG rfl hy4 (fA 1 Tryd.underlying34 rfl ts3 rfl rfl rfl) rfl (oG rfl hy4 (lB 0 ts3 rfl rfl rfl) rfl (oG rfl hy4 (fA 0 Tryd.underlying34 rfl ts3 rfl rfl rfl) rfl (oG rfl hy4 (lB 0 ts3 rfl rfl rfl) rfl (oG rfl hy4 (stp_gtr rfl rfl) rfl (oD (stp_pick_f rfl hy4 rfl) rfl ?_)))))
          obtain rfl := Option.some.inj ey4
          exact ow_nil (jy 6 0)
      · obtain ⟨y5, ey5, H0⟩ := bind_some H0
        refine oD (mv rfl) rfl (ow_cutY 4 30 y5 ?_ ?_)
        · rcases Bool.eq_false_or_eq_true y4 with hy5 | hy5
          · have ey5 := cond_t ey5 hy5
            refine oO rfl hy5 rfl (oO rfl hy5 rfl (oO rfl hy5 rfl (oD (stp_pick_t rfl hy5 rfl) rfl ?_)))
            obtain rfl := Option.some.inj ey5
            exact ow_nil (jy 4 0)
          · have ey5 := cond_f ey5 hy5
            refine oG rfl hy5 (fA 2 Tryd.underlying34 rfl ts3 rfl rfl rfl) rfl (oG rfl hy5 (lB 0 ts3 rfl rfl rfl) rfl (oG rfl hy5 (stp_lss rfl rfl) rfl (oD (stp_pick_f rfl hy5 rfl) rfl ?_)))
            obtain rfl := Option.some.inj ey5
            exact ow_nil (jy 4 0)
        · obtain ⟨y6, ey6, H0⟩ := bind_some H0
          refine oD (mv rfl) rfl (ow_cutY 4 35 y6 ?_ ?_)
          · rcases Bool.eq_false_or_eq_true y5 with hy6 | hy6
            · have ey6 := cond_t ey6 hy6
              refine oO rfl hy6 rfl (oO rfl hy6 rfl (oO rfl hy6 rfl (oD (stp_pick_t rfl hy6 rfl) rfl ?_)))
              obtain rfl := Option.some.inj ey6
              exact ow_nil (jy 4 0)
            · have ey6 := cond_f ey6 hy6
              refine oG rfl hy6 (fA 2 Tryd.underlying34 rfl ts3 rfl rfl rfl) rfl (oG rfl hy6 (lB 0 ts3 rfl rfl rfl) rfl (oG rfl hy6 (stp_gtr rfl rfl) rfl (oD (stp_pick_f rfl hy6 rfl) rfl ?_)))
              obtain rfl := Option.some.inj ey6
              exact ow_nil (jy 4 0)
          · obtain ⟨y7, ey7, H0⟩ := bind_some H0
            refine oD (mv rfl) rfl (ow_cutY 7 43 y7 ?_ ?_)
            · rcases Bool.eq_false_or_eq_true y6 with hy7 | hy7
              · have ey7 := cond_t ey7 hy7
                refine oO rfl hy7 rfl (oO rfl hy7 rfl (oO rfl hy7 rfl (oO rfl hy7 rfl (oO rfl hy7 rfl (oO rfl hy7 rfl (oD (stp_pick_t rfl hy7 rfl) rfl ?_))))))
                obtain rfl := Option.some.inj ey7
                exact ow_nil (jy 7 0)
              · have ey7 := cond_f ey7 hy7
                refine oG rfl hy7 (fA 3 Tryd.underlying34 rfl ts32 rfl rfl rfl) rfl (oG rfl hy7 (lB 0 ts32 rfl rfl rfl) rfl (oG rfl hy7 (stp_len Tryd.underlying32 rfl) rfl (oG rfl hy7 (fA 1 Tryd.underlying34 rfl ts3 rfl rfl rfl) rfl (oG rfl hy7 (lB 0 ts3 rfl rfl rfl) rfl (oG rfl hy7 (stp_gtr rfl rfl) rfl (oD (stp_pick_f rfl hy7 rfl) rfl ?_))))))
                obtain rfl := Option.some.inj ey7
                exact ow_nil (jy 7 0)
            · refine ow_nil (kw_nx (cw_cond rfl (fun h8 => ?_) (fun h8 => ?_)))
              · have H0 := cond_t H0 h8
                refine sr (oD (sg rfl) rfl (nn (cw_ret (kw_nx_ret ?_))))
                have q0 := Option.some.inj H0
                subst q0
                exact kw_ret Tryd.results44 (.cons (.tmp rfl) .nil) [] [] trivial (by decide) ⟨rfl, rfl⟩
              · have H0 := cond_f H0 h8
                obtain ⟨o0_0, eo0_0, H0⟩ := bind_some H0
                refine cw_skip (kw_nx (cw_seq (sr (oD (sg rfl) rfl (nn (cw_join (ι := Int) (fun | v9 => o0_0 = .out v9) (fun | v9 => [(1, .pointer (some ⟨b1, 0, none⟩)), (3, .int .i64 v9)]) (fun | v9 => [(0, [(b1, .cells #[.int .i64 a0.c, .int .i64 a0.n, .int .i64 a0.r, .slice p0_0 ((a0.o).length) c0_0] 34 (0, 0))])]) ?_ ?_))))))
                · refine cw_block (cw_loopS (ι := Nat × Int) (js := [0]) (fun x => x.1) (fun | (fuel, v9) => s_TagsValid_L0 fl a0 fuel v9 = some o0_0) (fun | (_, v9) => [(1, .pointer (some ⟨b1, 0, none⟩)), (3, .int .i64 v9)]) (fun | (_, v9) => [(0, [(b1, .cells #[.int .i64 a0.c, .int .i64 a0.n, .int .i64 a0.r, .slice p0_0 ((a0.o).length) c0_0] 34 (0, 0))])]) (fl, 0) eo0_0 ⟨rfl, rfl, trivial⟩ ⟨0, [], rfl, rfl, trivial⟩ (by decide) ?_)
                  rintro ⟨fuel, v9⟩ H1
                  have H1 : s_TagsValid_L0 fl a0 fuel v9 = some o0_0 := H1
                  rcases fuel with _ | fuel
                  · rw [s_TagsValid_L0.eq_1] at H1; cases H1
                  rw [s_TagsValid_L0.eq_2] at H1
                  refine CW.sub (s' := [(1, .pointer (some ⟨b1, 0, none⟩)), (3, .int .i64 v9)]) (h' := [(0, [(b1, .cells #[.int .i64 a0.c, .int .i64 a0.n, .int .i64 a0.r, .slice p0_0 ((a0.o).length) c0_0] 34 (0, 0))])]) ?_ ⟨rfl, rfl, trivial⟩ ⟨rfl, trivial⟩
                  refine cw_seq (sr (oD (mv rfl) rfl (oD (fA 3 Tryd.underlying34 rfl ts32 rfl rfl rfl) rfl (oD (lB 0 ts32 rfl rfl rfl) rfl (oD (stp_len Tryd.underlying32 rfl) rfl (oD (stp_lss rfl rfl) rfl (nn (cw_cond rfl (fun h10 => ?_) (fun h10 => ?_)))))))))
                  · have H1 := cond_t H1 h10
                    obtain ⟨x11, e11, H1⟩ := bind_some H1
                    refine cw_skip (kw_nx (cw_seq (cw_block (sr (oD (fA 3 Tryd.underlying34 rfl ts32 rfl rfl rfl) rfl (oD (lB 0 ts32 rfl rfl rfl) rfl (oD (mv rfl) rfl (oD (stp_indexAddr Tryd.underlying32 ts85 (by decide) rfl rfl rfl (Rdb.ro hr0_0) e11) rfl (oD (stp_loadN (us := [_, _]) ts85 rfl (Cells.el (Rdb.ro hr0_0) (by decide) e11 0 2 rfl)) rfl (oE (stpU_alloc 1 tz85 rfl) rfl ?_))))))))))
                    rintro _ _ ⟨b12, rfl, rfl⟩
                    refine oF (stpU_store (id := 1) (cs' := [.int .i64 x11.sp, .int .i64 x11.tg]) ts85 rfl rfl rfl rfl rfl rfl rfl) ?_
                    rintro _ _ rfl
                    obtain ⟨x13, e13, H1⟩ := bind_some H1
                    obtain ⟨y14, ey14, H1⟩ := bind_some H1
                    obtain ⟨y15, ey15, H1⟩ := bind_some H1
                    obtain ⟨y16, ey16, H1⟩ := bind_some H1
                    refine nn (cw_seq (cw_seq (cw_join (ι := Unit) (fun | _ => True) (fun | _ => [(1, .pointer (some ⟨b1, 0, none⟩)), (3, .int .i64 v9), (4, .pointer (some ⟨b12, 0, none⟩)), (87, .bool y16)]) (fun | _ => [(0, [(b1, .cells #[.int .i64 a0.c, .int .i64 a0.n, .int .i64 a0.r, .slice p0_0 ((a0.o).length) c0_0] 34 (0, 0))]), (1, [(b12, .cells #[.int .i64 x11.sp, .int .i64 x11.tg] 85 (0, 0))])]) ?_ ?_)))
                    · rcases Bool.eq_false_or_eq_true (!x13) with hy14 | hy14
                      · have ey14 := cond_t ey14 hy14
                        have qy14 := Option.some.inj ey14
                        have hy15 : y14 = true := by rw [← qy14]
                        have ey15 := cond_t ey15 hy15
                        have qy15 := Option.some.inj ey15
                        have hy16 : y15 = true := by rw [← qy15]
                        have ey16 := cond_t ey16 hy16
                        have qy16 := Option.some.inj ey16
                        refine rdr g_mixed [4] [1] { dst := dS [57, 58, 59, 60, 61, 62, 63, 64, 65, 66, 67, 68, 69, 70, 71, 72, 73, 74, 75, 76, 77, 78, 79, 80, 81, 82, 83, 84, 85, 86, 87, 88], pre := gA [] [[], [0], [0, 1], [0, 1, 2], rn 0 4, rn 0 5, rn 0 6, rn 0 7, rn 0 8, rn 0 9, rn 0 10, rn 0 11, rn 0 10, [0, 1, 2, 3, 4, 5, 6, 7, 8, 9, 12], rn 0 14, rn 0 15, rn 0 16, rn 0 17, rn 0 18, rn 0 19, rn 0 20, rn 0 21, rn 0 20, [0, 1, 2, 3, 4, 5, 6, 7, 8, 9, 10, 11, 12, 13, 14, 15, 16, 17, 18, 19, 22], rn 0 24, rn 0 25, rn 0 26, rn 0 20, [0, 1, 2, 3, 4, 5, 6, 7, 8, 9, 10, 11, 12, 13, 14, 15, 16, 17, 18, 19, 27], rn 0 29, rn 0 30, rn 0 31], ids := fun _ => [], rs := rL [[(4, 0)], [(56, 1)], [(57, 2)], [(58, 3)], [(59, 4)], [(60, 5)], [(60, 5)], [(60, 5)], [(60, 5), (63, 8)], [(64, 9)], [(65, 10)], [(65, 10)], [(65, 10)], [(65, 10)], [(65, 10)], [(65, 10), (70, 15)], [(71, 16)], [(72, 17)], [(72, 17)], [(72, 17)], [(75, 20)], [(75, 20)], [(75, 20)], [(75, 20)], [(75, 20)], [(75, 20)], [(75, 20)], [(75, 20)], [(75, 20)], [(75, 20)], [(72, 17)], [(72, 17), (86, 31)]], rh := rL [[], [(1, 0)]], V := fun i g => gA undef [.pointer (some ⟨b12, 0, none⟩), .int .i64 x11.sp, .bool x13, .bool (!x13), .bool (!x13), undef, undef, undef, .bool y14, .bool y14, undef, undef, undef, undef, undef, .bool y15, .bool y15, undef, undef, undef, undef, undef, undef, undef, undef, undef, undef, undef, undef, undef, undef, .bool y16] i, U := fun _ _ => [], Φ := fun _ _ => True } ?_ ?_
                        · refine ⟨⟨⟨⟨⟨⟨⟨⟨⟨⟨⟨⟨⟨⟨⟨⟨⟨⟨⟨⟨⟨⟨⟨⟨⟨⟨⟨⟨⟨⟨⟨⟨trivial, lc rfl rfl fun hs hh => stp_fieldAddr (j := 0) Tryd.underlying85 rfl ts3 rfl (sv hs 4 rfl) rfl⟩, lc rfl rfl fun hs hh => stp_load1 ts3 (sv hs 56 rfl) (Cells.box (id := 1) (hh.get 1 _ rfl) 1 rfl)⟩, ?_⟩, lc rfl rfl fun hs hh => stp_not (sv hs 58 rfl)⟩, lc rfl rfl fun hs hh => stp_move (sv hs 59 rfl)⟩, lo rfl rfl 60 hy14⟩, lo rfl rfl 60 hy14⟩, lo rfl rfl 60 hy14⟩, lc rfl rfl fun hs hh => stp_pick_tB (sv hs 60 rfl) hy14 rfl qy14⟩, lc rfl rfl fun hs hh => stp_move (sv hs 64 rfl)⟩, lo rfl rfl 65 hy15⟩, lo rfl rfl 65 hy15⟩, lo rfl rfl 65 hy15⟩, lo rfl rfl 65 hy15⟩, lo rfl rfl 65 hy15⟩, lc rfl rfl fun hs hh => stp_pick_tB (sv hs 65 rfl) hy15 rfl qy15⟩, lc rfl rfl fun hs hh => stp_move (sv hs 71 rfl)⟩, lo rfl rfl 72 hy16⟩, lo rfl rfl 72 hy16⟩, lo rfl rfl 72 hy16⟩, lx rfl rfl 75⟩, lx rfl rfl 75⟩, lx rfl rfl 75⟩, lx rfl rfl 75⟩, lx rfl rfl 75⟩, lx rfl rfl 75⟩, lx rfl rfl 75⟩, lx rfl rfl 75⟩, lx rfl rfl 75⟩, lx rfl rfl 75⟩, lo rfl rfl 72 hy16⟩, lc rfl rfl fun hs hh => stp_pick_tB (sv hs 72 rfl) hy16 rfl qy16⟩
                          · refine le rfl rfl (fun g hΦ s h hs hh => (stpU_call (fun i => 2 + i) cf45 (fun w hw => c_s_l1Space fl w x11.sp x13 e13) (sevs_cons (sv hs 57 rfl) sevs_nil))) ?_
                            rintro g _ _ ⟨_, ⟨rfl, rfl⟩, rfl⟩
                            exact ⟨⟨[], [], []⟩, trivial, .inr rfl, rfl⟩
                        · intro g hΦ
                          exact kw_join () trivial ⟨rfl, rfl, rfl, rfl, trivial⟩ ⟨rfl, rfl, trivial⟩
                      · have ey14 := cond_f ey14 hy14
                        have qy14 := Option.some.inj ey14
                        rcases Bool.eq_false_or_eq_true y14 with hy15 | hy15
                        · have ey15 := cond_t ey15 hy15
                          have qy15 := Option.some.inj ey15
                          have hy16 : y15 = true := by rw [← qy15]
                          have ey16 := cond_t ey16 hy16
                          have qy16 := Option.some.inj ey16
                          refine rdr g_mixed [4] [1] { dst := dS [57, 58, 59, 60, 61, 62, 63, 64, 65, 66, 67, 68, 69, 70, 71, 72, 73, 74, 75, 76, 77, 78, 79, 80, 81, 82, 83, 84, 85, 86, 87, 88], pre := gA [] [[], [0], [0, 1], [0, 1, 2], rn 0 4, rn 0 5, rn 0 6, rn 0 7, rn 0 8, rn 0 9, rn 0 10, rn 0 11, rn 0 10, [0, 1, 2, 3, 4, 5, 6, 7, 8, 9, 12], rn 0 14, rn 0 15, rn 0 16, rn 0 17, rn 0 18, rn 0 19, rn 0 20, rn 0 21, rn 0 20, [0, 1, 2, 3, 4, 5, 6, 7, 8, 9, 10, 11, 12, 13, 14, 15, 16, 17, 18, 19, 22], rn 0 24, rn 0 25, rn 0 26, rn 0 20, [0, 1, 2, 3, 4, 5, 6, 7, 8, 9, 10, 11, 12, 13, 14, 15, 16, 17, 18, 19, 27], rn 0 29, rn 0 30, rn 0 31], ids := fun _ => [], rs := rL [[(4, 0)], [(56, 1)], [(57, 2)], [(58, 3)], [(59, 4)], [(4, 0), (60, 5)], [(61, 6), (60, 5)], [(62, 7), (60, 5)], [(60, 5), (63, 8)], [(64, 9)], [(65, 10)], [(65, 10)], [(65, 10)], [(65, 10)], [(65, 10)], [(65, 10), (70, 15)], [(71, 16)], [(72, 17)], [(72, 17)], [(72, 17)], [(75, 20)], [(75, 20)], [(75, 20)], [(75, 20)], [(75, 20)], [(75, 20)], [(75, 20)], [(75, 20)], [(75, 20)], [(75, 20)], [(72, 17)], [(72, 17), (86, 31)]], rh := rL [[], [(1, 0)], [], [], [], [], [(1, 0)]], V := fun i g => gA undef [.pointer (some ⟨b12, 0, none⟩), .int .i64 x11.sp, .bool x13, .bool (!x13), .bool (!x13), .pointer (some ⟨b12, 1, none⟩), .int .i64 x11.tg, .bool (decide (x11.tg < 0)), .bool y14, .bool y14, undef, undef, undef, undef, undef, .bool y15, .bool y15, undef, undef, undef, undef, undef, undef, undef, undef, undef, undef, undef, undef, undef, undef, .bool y16] i, U := fun _ _ => [], Φ := fun _ _ => True } ?_ ?_
                          · refine ⟨⟨⟨⟨⟨⟨⟨⟨⟨⟨⟨⟨⟨⟨⟨⟨⟨⟨⟨⟨⟨⟨⟨⟨⟨⟨⟨⟨⟨⟨⟨⟨trivial, lc rfl rfl fun hs hh => stp_fieldAddr (j := 0) Tryd.underlying85 rfl ts3 rfl (sv hs 4 rfl) rfl⟩, lc rfl rfl fun hs hh => stp_load1 ts3 (sv hs 56 rfl) (Cells.box (id := 1) (hh.get 1 _ rfl) 1 rfl)⟩, ?_⟩, lc rfl rfl fun hs hh => stp_not (sv hs 58 rfl)⟩, lc rfl rfl fun hs hh => stp_move (sv hs 59 rfl)⟩, lg rfl rfl 60 hy14 fun hs hh => stp_fieldAddr (j := 1) Tryd.underlying85 rfl ts3 rfl (sv hs 4 rfl) rfl⟩, lg rfl rfl 60 hy14 fun hs hh => stp_load1 ts3 (sv hs 61 rfl) (Cells.box (id := 1) (hh.get 1 _ rfl) 1 rfl)⟩, lg rfl rfl 60 hy14 fun hs hh => stp_lss (sv hs 62 rfl) rfl⟩, lc rfl rfl fun hs hh => stp_pick_fB (sv hs 60 rfl) hy14 (sv hs 63 rfl) qy14⟩, lc rfl rfl fun hs hh => stp_move (sv hs 64 rfl)⟩, lo rfl rfl 65 hy15⟩, lo rfl rfl 65 hy15⟩, lo rfl rfl 65 hy15⟩, lo rfl rfl 65 hy15⟩, lo rfl rfl 65 hy15⟩, lc rfl rfl fun hs hh => stp_pick_tB (sv hs 65 rfl) hy15 rfl qy15⟩, lc rfl rfl fun hs hh => stp_move (sv hs 71 rfl)⟩, lo rfl rfl 72 hy16⟩, lo rfl rfl 72 hy16⟩, lo rfl rfl 72 hy16⟩, lx rfl rfl 75⟩, lx rfl rfl 75⟩, lx rfl rfl 75⟩, lx rfl rfl 75⟩, lx rfl rfl 75⟩, lx rfl rfl 75⟩, lx rfl rfl 75⟩, lx rfl rfl 75⟩, lx rfl rfl 75⟩, lx rfl rfl 75⟩, lo rfl rfl 72 hy16⟩, lc rfl rfl fun hs hh => stp_pick_tB (sv hs 72 rfl) hy16 rfl qy16⟩
                            · refine le rfl rfl (fun g hΦ s h hs hh => (stpU_call (fun i => 2 + i) cf45 (fun w hw => c_s_l1Space fl w x11.sp x13 e13) (sevs_cons (sv hs 57 rfl) sevs_nil))) ?_
                              rintro g _ _ ⟨_, ⟨rfl, rfl⟩, rfl⟩
                              exact ⟨⟨[], [], []⟩, trivial, .inr rfl, rfl⟩
                          · intro g hΦ
                            exact kw_join () trivial ⟨rfl, rfl, rfl, rfl, trivial⟩ ⟨rfl, rfl, trivial⟩
                        · have ey15 := cond_f ey15 hy15
                          have qy15 := Option.some.inj ey15
                          rcases Bool.eq_false_or_eq_true y15 with hy16 | hy16
                          · have ey16 := cond_t ey16 hy16
                            have qy16 := Option.some.inj ey16
                            refine rdr g_mixed [1, 4] [0, 1] { dst := dS [57, 58, 59, 60, 61, 62, 63, 64, 65, 66, 67, 68, 69, 70, 71, 72, 73, 74, 75, 76, 77, 78, 79, 80, 81, 82, 83, 84, 85, 86, 87, 88], pre := gA [] [[], [0], [0, 1], [0, 1, 2], rn 0 4, rn 0 5, rn 0 6, rn 0 7, rn 0 8, rn 0 9, rn 0 10, rn 0 11, rn 0 10, [0, 1, 2, 3, 4, 5, 6, 7, 8, 9, 12], rn 0 14, rn 0 15, rn 0 16, rn 0 17, rn 0 18, rn 0 19, rn 0 20, rn 0 21, rn 0 20, [0, 1, 2, 3, 4, 5, 6, 7, 8, 9, 10, 11, 12, 13, 14, 15, 16, 17, 18, 19, 22], rn 0 24, rn 0 25, rn 0 26, rn 0 20, [0, 1, 2, 3, 4, 5, 6, 7, 8, 9, 10, 11, 12, 13, 14, 15, 16, 17, 18, 19, 27], rn 0 29, rn 0 30, rn 0 31], ids := fun _ => [], rs := rL [[(4, 0)], [(56, 1)], [(57, 2)], [(58, 3)], [(59, 4)], [(4, 0), (60, 5)], [(61, 6), (60, 5)], [(62, 7), (60, 5)], [(60, 5), (63, 8)], [(64, 9)], [(4, 0), (65, 10)], [(66, 11), (65, 10)], [(1, 0), (65, 10)], [(68, 13), (65, 10)], [(67, 12), (69, 14), (65, 10)], [(65, 10), (70, 15)], [(71, 16)], [(72, 17)], [(72, 17)], [(72, 17)], [(75, 20)], [(75, 20)], [(75, 20)], [(75, 20)], [(75, 20)], [(75, 20)], [(75, 20)], [(75, 20)], [(75, 20)], [(75, 20)], [(72, 17)], [(72, 17), (86, 31)]], rh := rL [[], [(1, 0)], [], [], [], [], [(1, 0)], [], [], [], [], [(1, 0)], [], [(0, 0)]], V := fun i g => gA undef [.pointer (some ⟨b12, 0, none⟩), .int .i64 x11.sp, .bool x13, .bool (!x13), .bool (!x13), .pointer (some ⟨b12, 1, none⟩), .int .i64 x11.tg, .bool (decide (x11.tg < 0)), .bool y14, .bool y14, .pointer (some ⟨b12, 1, none⟩), .int .i64 x11.tg, .pointer (some ⟨b1, 1, none⟩), .int .i64 a0.n, .bool (decide (a0.n ≤ x11.tg)), .bool y15, .bool y15, undef, undef, undef, undef, undef, undef, undef, undef, undef, undef, undef, undef, undef, undef, .bool y16] i, U := fun _ _ => [], Φ := fun _ _ => True } ?_ ?_
                            · refine ⟨⟨⟨⟨⟨⟨⟨⟨⟨⟨⟨⟨⟨⟨⟨⟨⟨⟨⟨⟨⟨⟨⟨⟨⟨⟨⟨⟨⟨⟨⟨⟨trivial, lc rfl rfl fun hs hh => stp_fieldAddr (j := 0) Tryd.underlying85 rfl ts3 rfl (sv hs 4 rfl) rfl⟩, lc rfl rfl fun hs hh => stp_load1 ts3 (sv hs 56 rfl) (Cells.box (id := 1) (hh.get 1 _ rfl) 1 rfl)⟩, ?_⟩, lc rfl rfl fun hs hh => stp_not (sv hs 58 rfl)⟩, lc rfl rfl fun hs hh => stp_move (sv hs 59 rfl)⟩, lg rfl rfl 60 hy14 fun hs hh => stp_fieldAddr (j := 1) Tryd.underlying85 rfl ts3 rfl (sv hs 4 rfl) rfl⟩, lg rfl rfl 60 hy14 fun hs hh => stp_load1 ts3 (sv hs 61 rfl) (Cells.box (id := 1) (hh.get 1 _ rfl) 1 rfl)⟩, lg rfl rfl 60 hy14 fun hs hh => stp_lss (sv hs 62 rfl) rfl⟩, lc rfl rfl fun hs hh => stp_pick_fB (sv hs 60 rfl) hy14 (sv hs 63 rfl) qy14⟩, lc rfl rfl fun hs hh => stp_move (sv hs 64 rfl)⟩, lg rfl rfl 65 hy15 fun hs hh => stp_fieldAddr (j := 1) Tryd.underlying85 rfl ts3 rfl (sv hs 4 rfl) rfl⟩, lg rfl rfl 65 hy15 fun hs hh => stp_load1 ts3 (sv hs 66 rfl) (Cells.box (id := 1) (hh.get 1 _ rfl) 1 rfl)⟩, lg rfl rfl 65 hy15 fun hs hh => stp_fieldAddr (j := 1) Tryd.underlying34 rfl ts3 rfl (sv hs 1 rfl) rfl⟩, lg rfl rfl 65 hy15 fun hs hh => stp_load1 ts3 (sv hs 68 rfl) (Cells.box (id := 0) (hh.get 0 _ rfl) 1 rfl)⟩, lg rfl rfl 65 hy15 fun hs hh => stp_geq (sv hs 67 rfl) (sv hs 69 rfl)⟩, lc rfl rfl fun hs hh => stp_pick_fB (sv hs 65 rfl) hy15 (sv hs 70 rfl) qy15⟩, lc rfl rfl fun hs hh => stp_move (sv hs 71 rfl)⟩, lo rfl rfl 72 hy16⟩, lo rfl rfl 72 hy16⟩, lo rfl rfl 72 hy16⟩, lx rfl rfl 75⟩, lx rfl rfl 75⟩, lx rfl rfl 75⟩, lx rfl rfl 75⟩, lx rfl rfl 75⟩, lx rfl rfl 75⟩, lx rfl rfl 75⟩, lx rfl rfl 75⟩, lx rfl rfl 75⟩, lx rfl rfl 75⟩, lo rfl rfl 72 hy16⟩, lc rfl rfl fun hs hh => stp_pick_tB (sv hs 72 rfl) hy16 rfl qy16⟩
                              · refine le rfl rfl (fun g hΦ s h hs hh => (stpU_call (fun i => 2 + i) cf45 (fun w hw => c_s_l1Space fl w x11.sp x13 e13) (sevs_cons (sv hs 57 rfl) sevs_nil))) ?_
                                rintro g _ _ ⟨_, ⟨rfl, rfl⟩, rfl⟩
                                exact ⟨⟨[], [], []⟩, trivial, .inr rfl, rfl⟩
                            · intro g hΦ
                              exact kw_join () trivial ⟨rfl, rfl, rfl, rfl, trivial⟩ ⟨rfl, rfl, trivial⟩
                          · have ey16 := cond_f ey16 hy16
                            obtain ⟨y17, ey17, ey16⟩ := bind_some ey16
                            rcases Bool.eq_false_or_eq_true (decide (0 < v9)) with hy17 | hy17
                            · have ey17 := cond_t ey17 hy17
                              obtain ⟨x18, e18, ey17⟩ := bind_some ey17
                              obtain ⟨x19, e19, ey17⟩ := bind_some ey17
                              have qy17 := Option.some.inj ey17
                              have qy16 := Option.some.inj ey16
                              refine rdr g_mixed [1, 3, 4] [0, 1] { dst := dS [57, 58, 59, 60, 61, 62, 63, 64, 65, 66, 67, 68, 69, 70, 71, 72, 73, 74, 75, 76, 77, 78, 79, 80, 81, 82, 83, 84, 85, 86, 87, 88], pre := gA [] [[], [0], [0, 1], [0, 1, 2], rn 0 4, rn 0 5, rn 0 6, rn 0 7, rn 0 8, rn 0 9, rn 0 10, rn 0 11, rn 0 10, [0, 1, 2, 3, 4, 5, 6, 7, 8, 9, 12], rn 0 14, rn 0 15, rn 0 16, rn 0 17, rn 0 18, rn 0 19, rn 0 20, rn 0 21, rn 0 20, [0, 1, 2, 3, 4, 5, 6, 7, 8, 9, 10, 11, 12, 13, 14, 15, 16, 17, 18, 19, 22], rn 0 24, rn 0 25, rn 0 26, rn 0 20, [0, 1, 2, 3, 4, 5, 6, 7, 8, 9, 10, 11, 12, 13, 14, 15, 16, 17, 18, 19, 27], rn 0 29, rn 0 30, rn 0 31], ids := fun _ => [], rs := rL [[(4, 0)], [(56, 1)], [(57, 2)], [(58, 3)], [(59, 4)], [(4, 0), (60, 5)], [(61, 6), (60, 5)], [(62, 7), (60, 5)], [(60, 5), (63, 8)], [(64, 9)], [(4, 0), (65, 10)], [(66, 11), (65, 10)], [(1, 0), (65, 10)], [(68, 13), (65, 10)], [(67, 12), (69, 14), (65, 10)], [(65, 10), (70, 15)], [(71, 16)], [(3, 0), (72, 17)], [(73, 18), (72, 17)], [(74, 19), (72, 17)], [(1, 0), (75, 20)], [(76, 21), (75, 20)], [(3, 0), (75, 20)], [(78, 23), (75, 20)], [(77, 22), (79, 24), (75, 20)], [(80, 25), (75, 20)], [(81, 26), (75, 20)], [(4, 0), (75, 20)], [(83, 28), (75, 20)], [(82, 27), (84, 29), (75, 20)], [(75, 20), (85, 30), (72, 17)], [(72, 17), (86, 31)]], rh := rL [[], [(1, 0)], [], [], [], [], [(1, 0)], [], [], [], [], [(1, 0)], [], [(0, 0)], [], [], [], [], [], [], [], [(0, 0)], [], [], [], [], [], [], [(1, 0)]], V := fun i g => gA undef [.pointer (some ⟨b12, 0, none⟩), .int .i64 x11.sp, .bool x13, .bool (!x13), .bool (!x13), .pointer (some ⟨b12, 1, none⟩), .int .i64 x11.tg, .bool (decide (x11.tg < 0)), .bool y14, .bool y14, .pointer (some ⟨b12, 1, none⟩), .int .i64 x11.tg, .pointer (some ⟨b1, 1, none⟩), .int .i64 a0.n, .bool (decide (a0.n ≤ x11.tg)), .bool y15, .bool y15, .int .i64 v9, .bool (decide (0 < v9)), .bool (decide (0 < v9)), .pointer (some ⟨b1, 3, none⟩), .slice p0_0 ((a0.o).length) c0_0, .int .i64 v9, .int .i64 x18, .pointer (some ⟨eB p0_0, eO p0_0 + Int.toNat x18 * Enc.sz Ow + 0, none⟩), .pointer (some ⟨eB p0_0, eO p0_0 + Int.toNat x18 * Enc.sz Ow + 1, none⟩), .int .i64 x19.tg, .pointer (some ⟨b12, 1, none⟩), .int .i64 x11.tg, .bool (decide (x11.tg ≤ x19.tg)), .bool y17, .bool y16] i, U := fun _ _ => [], Φ := fun _ _ => True } ?_ ?_
                              · refine ⟨⟨⟨⟨⟨⟨⟨⟨⟨⟨⟨⟨⟨⟨⟨⟨⟨⟨⟨⟨⟨⟨⟨⟨⟨⟨⟨⟨⟨⟨⟨⟨trivial, lc rfl rfl fun hs hh => stp_fieldAddr (j := 0) Tryd.underlying85 rfl ts3 rfl (sv hs 4 rfl) rfl⟩, lc rfl rfl fun hs hh => stp_load1 ts3 (sv hs 56 rfl) (Cells.box (id := 1) (hh.get 1 _ rfl) 1 rfl)⟩, ?_⟩, lc rfl rfl fun hs hh => stp_not (sv hs 58 rfl)⟩, lc rfl rfl fun hs hh => stp_move (sv hs 59 rfl)⟩, lg rfl rfl 60 hy14 fun hs hh => stp_fieldAddr (j := 1) Tryd.underlying85 rfl ts3 rfl (sv hs 4 rfl) rfl⟩, lg rfl rfl 60 hy14 fun hs hh => stp_load1 ts3 (sv hs 61 rfl) (Cells.box (id := 1) (hh.get 1 _ rfl) 1 rfl)⟩, lg rfl rfl 60 hy14 fun hs hh => stp_lss (sv hs 62 rfl) rfl⟩, lc rfl rfl fun hs hh => stp_pick_fB (sv hs 60 rfl) hy14 (sv hs 63 rfl) qy14⟩, lc rfl rfl fun hs hh => stp_move (sv hs 64 rfl)⟩, lg rfl rfl 65 hy15 fun hs hh => stp_fieldAddr (j := 1) Tryd.underlying85 rfl ts3 rfl (sv hs 4 rfl) rfl⟩, lg rfl rfl 65 hy15 fun hs hh => stp_load1 ts3 (sv hs 66 rfl) (Cells.box (id := 1) (hh.get 1 _ rfl) 1 rfl)⟩, lg rfl rfl 65 hy15 fun hs hh => stp_fieldAddr (j := 1) Tryd.underlying34 rfl ts3 rfl (sv hs 1 rfl) rfl⟩, lg rfl rfl 65 hy15 fun hs hh => stp_load1 ts3 (sv hs 68 rfl) (Cells.box (id := 0) (hh.get 0 _ rfl) 1 rfl)⟩, lg rfl rfl 65 hy15 fun hs hh => stp_geq (sv hs 67 rfl) (sv hs 69 rfl)⟩, lc rfl rfl fun hs hh => stp_pick_fB (sv hs 65 rfl) hy15 (sv hs 70 rfl) qy15⟩, lc rfl rfl fun hs hh => stp_move (sv hs 71 rfl)⟩, lg rfl rfl 72 hy16 fun hs hh => stp_move (sv hs 3 rfl)⟩, lg rfl rfl 72 hy16 fun hs hh => stp_gtr (sv hs 73 rfl) rfl⟩, lg rfl rfl 72 hy16 fun hs hh => stp_move (sv hs 74 rfl)⟩, lg rfl rfl 75 hy17 fun hs hh => stp_fieldAddr (j := 3) Tryd.underlying34 rfl ts32 rfl (sv hs 1 rfl) rfl⟩, lg rfl rfl 75 hy17 fun hs hh => stp_load1 ts32 (sv hs 76 rfl) (Cells.box (id := 0) (hh.get 0 _ rfl) 1 rfl)⟩, lg rfl rfl 75 hy17 fun hs hh => stp_move (sv hs 3 rfl)⟩, lg rfl rfl 75 hy17 fun hs hh => stp_sub (sv hs 78 rfl) rfl e18⟩, lg rfl rfl 75 hy17 fun hs hh => stp_indexAddr Tryd.underlying32 ts85 (by decide) (sv hs 77 rfl) rfl (sv hs 79 rfl) (Rdb.ro hr0_0) e19⟩, lg rfl rfl 75 hy17 fun hs hh => stp_fieldAddr (j := 1) Tryd.underlying85 rfl ts3 rfl (sv hs 80 rfl) rfl⟩, lg rfl rfl 75 hy17 fun hs hh => stp_load1 ts3 (sv hs 81 rfl) (Cells.el (Rdb.ro hr0_0) (by decide) e19 1 1 rfl)⟩, lg rfl rfl 75 hy17 fun hs hh => stp_fieldAddr (j := 1) Tryd.underlying85 rfl ts3 rfl (sv hs 4 rfl) rfl⟩, lg rfl rfl 75 hy17 fun hs hh => stp_load1 ts3 (sv hs 83 rfl) (Cells.box (id := 1) (hh.get 1 _ rfl) 1 rfl)⟩, lg rfl rfl 75 hy17 fun hs hh => stp_geq (sv hs 82 rfl) (sv hs 84 rfl)⟩, lg rfl rfl 72 hy16 fun hs hh => stp_pick_tB (sv hs 75 rfl) hy17 (sv hs 85 rfl) qy17⟩, lc rfl rfl fun hs hh => stp_pick_fB (sv hs 72 rfl) hy16 (sv hs 86 rfl) qy16⟩
                                · refine le rfl rfl (fun g hΦ s h hs hh => (stpU_call (fun i => 2 + i) cf45 (fun w hw => c_s_l1Space fl w x11.sp x13 e13) (sevs_cons (sv hs 57 rfl) sevs_nil))) ?_
                                  rintro g _ _ ⟨_, ⟨rfl, rfl⟩, rfl⟩
                                  exact ⟨⟨[], [], []⟩, trivial, .inr rfl, rfl⟩
                              · intro g hΦ
                                exact kw_join () trivial ⟨rfl, rfl, rfl, rfl, trivial⟩ ⟨rfl, rfl, trivial⟩
                            · have ey17 := cond_f ey17 hy17
                              have qy17 := Option.some.inj ey17
                              have qy16 := Option.some.inj ey16
                              refine rdr g_mixed [1, 3, 4] [0, 1] { dst := dS [57, 58, 59, 60, 61, 62, 63, 64, 65, 66, 67, 68, 69, 70, 71, 72, 73, 74, 75, 76, 77, 78, 79, 80, 81, 82, 83, 84, 85, 86, 87, 88], pre := gA [] [[], [0], [0, 1], [0, 1, 2], rn 0 4, rn 0 5, rn 0 6, rn 0 7, rn 0 8, rn 0 9, rn 0 10, rn 0 11, rn 0 10, [0, 1, 2, 3, 4, 5, 6, 7, 8, 9, 12], rn 0 14, rn 0 15, rn 0 16, rn 0 17, rn 0 18, rn 0 19, rn 0 20, rn 0 21, rn 0 20, [0, 1, 2, 3, 4, 5, 6, 7, 8, 9, 10, 11, 12, 13, 14, 15, 16, 17, 18, 19, 22], rn 0 24, rn 0 25, rn 0 26, rn 0 20, [0, 1, 2, 3, 4, 5, 6, 7, 8, 9, 10, 11, 12, 13, 14, 15, 16, 17, 18, 19, 27], rn 0 29, rn 0 30, rn 0 31], ids := fun _ => [], rs := rL [[(4, 0)], [(56, 1)], [(57, 2)], [(58, 3)], [(59, 4)], [(4, 0), (60, 5)], [(61, 6), (60, 5)], [(62, 7), (60, 5)], [(60, 5), (63, 8)], [(64, 9)], [(4, 0), (65, 10)], [(66, 11), (65, 10)], [(1, 0), (65, 10)], [(68, 13), (65, 10)], [(67, 12), (69, 14), (65, 10)], [(65, 10), (70, 15)], [(71, 16)], [(3, 0), (72, 17)], [(73, 18), (72, 17)], [(74, 19), (72, 17)], [(75, 20)], [(75, 20)], [(75, 20)], [(75, 20)], [(75, 20)], [(75, 20)], [(75, 20)], [(75, 20)], [(75, 20)], [(75, 20)], [(75, 20), (85, 30), (72, 17)], [(72, 17), (86, 31)]], rh := rL [[], [(1, 0)], [], [], [], [], [(1, 0)], [], [], [], [], [(1, 0)], [], [(0, 0)]], V := fun i g => gA undef [.pointer (some ⟨b12, 0, none⟩), .int .i64 x11.sp, .bool x13, .bool (!x13), .bool (!x13), .pointer (some ⟨b12, 1, none⟩), .int .i64 x11.tg, .bool (decide (x11.tg < 0)), .bool y14, .bool y14, .pointer (some ⟨b12, 1, none⟩), .int .i64 x11.tg, .pointer (some ⟨b1, 1, none⟩), .int .i64 a0.n, .bool (decide (a0.n ≤ x11.tg)), .bool y15, .bool y15, .int .i64 v9, .bool (decide (0 < v9)), .bool (decide (0 < v9)), undef, undef, undef, undef, undef, undef, undef, undef, undef, undef, .bool y17, .bool y16] i, U := fun _ _ => [], Φ := fun _ _ => True } ?_ ?_
                              · refine ⟨⟨⟨⟨⟨⟨⟨⟨⟨⟨⟨⟨⟨⟨⟨⟨⟨⟨⟨⟨⟨⟨⟨⟨⟨⟨⟨⟨⟨⟨⟨⟨trivial, lc rfl rfl fun hs hh => stp_fieldAddr (j := 0) Tryd.underlying85 rfl ts3 rfl (sv hs 4 rfl) rfl⟩, lc rfl rfl fun hs hh => stp_load1 ts3 (sv hs 56 rfl) (Cells.box (id := 1) (hh.get 1 _ rfl) 1 rfl)⟩, ?_⟩, lc rfl rfl fun hs hh => stp_not (sv hs 58 rfl)⟩, lc rfl rfl fun hs hh => stp_move (sv hs 59 rfl)⟩, lg rfl rfl 60 hy14 fun hs hh => stp_fieldAddr (j := 1) Tryd.underlying85 rfl ts3 rfl (sv hs 4 rfl) rfl⟩, lg rfl rfl 60 hy14 fun hs hh => stp_load1 ts3 (sv hs 61 rfl) (Cells.box (id := 1) (hh.get 1 _ rfl) 1 rfl)⟩, lg rfl rfl 60 hy14 fun hs hh => stp_lss (sv hs 62 rfl) rfl⟩, lc rfl rfl fun hs hh => stp_pick_fB (sv hs 60 rfl) hy14 (sv hs 63 rfl) qy14⟩, lc rfl rfl fun hs hh => stp_move (sv hs 64 rfl)⟩, lg rfl rfl 65 hy15 fun hs hh => stp_fieldAddr (j := 1) Tryd.underlying85 rfl ts3 rfl (sv hs 4 rfl) rfl⟩, lg rfl rfl 65 hy15 fun hs hh => stp_load1 ts3 (sv hs 66 rfl) (Cells.box (id := 1) (hh.get 1 _ rfl) 1 rfl)⟩, lg rfl rfl 65 hy15 fun hs hh => stp_fieldAddr (j := 1) Tryd.underlying34 rfl ts3 rfl (sv hs 1 rfl) rfl⟩, lg rfl rfl 65 hy15 fun hs hh => stp_load1 ts3 (sv hs 68 rfl) (Cells.box (id := 0) (hh.get 0 _ rfl) 1 rfl)⟩, lg rfl rfl 65 hy15 fun hs hh => stp_geq (sv hs 67 rfl) (sv hs 69 rfl)⟩, lc rfl rfl fun hs hh => stp_pick_fB (sv hs 65 rfl) hy15 (sv hs 70 rfl) qy15⟩, lc rfl rfl fun hs hh => stp_move (sv hs 71 rfl)⟩, lg rfl rfl 72 hy16 fun hs hh => stp_move (sv hs 3 rfl)⟩, lg rfl rfl 72 hy16 fun hs hh => stp_gtr (sv hs 73 rfl) rfl⟩, lg rfl rfl 72 hy16 fun hs hh => stp_move (sv hs 74 rfl)⟩, lo rfl rfl 75 hy17⟩, lo rfl rfl 75 hy17⟩, lo rfl rfl 75 hy17⟩, lo rfl rfl 75 hy17⟩, lo rfl rfl 75 hy17⟩, lo rfl rfl 75 hy17⟩, lo rfl rfl 75 hy17⟩, lo rfl rfl 75 hy17⟩, lo rfl rfl 75 hy17⟩, lo rfl rfl 75 hy17⟩, lg rfl rfl 72 hy16 fun hs hh => stp_pick_fB (sv hs 75 rfl) hy17 rfl qy17⟩, lc rfl rfl fun hs hh => stp_pick_fB (sv hs 72 rfl) hy16 (sv hs 86 rfl) qy16⟩
                                · refine le rfl rfl (fun g hΦ s h hs hh => (stpU_call (fun i => 2 + i) cf45 (fun w hw => c_s_l1Space fl w x11.sp x13 e13) (sevs_cons (sv hs 57 rfl) sevs_nil))) ?_
                                  rintro g _ _ ⟨_, ⟨rfl, rfl⟩, rfl⟩
                                  exact ⟨⟨[], [], []⟩, trivial, .inr rfl, rfl⟩
                              · intro g hΦ
                                exact kw_join () trivial ⟨rfl, rfl, rfl, rfl, trivial⟩ ⟨rfl, rfl, trivial⟩
                    · rintro _ -
                      refine KW.sub (s' := [(1, .pointer (some ⟨b1, 0, none⟩)), (3, .int .i64 v9), (4, .pointer (some ⟨b12, 0, none⟩)), (87, .bool y16)]) (h' := [(0, [(b1, .cells #[.int .i64 a0.c, .int .i64 a0.n, .int .i64 a0.r, .slice p0_0 ((a0.o).length) c0_0] 34 (0, 0))]), (1, [(b12, .cells #[.int .i64 x11.sp, .int .i64 x11.tg] 85 (0, 0))])]) ?_ ⟨rfl, rfl, rfl, rfl, trivial⟩ ⟨rfl, rfl, trivial⟩
                      refine kw_nx (cw_cond rfl (fun h20 => ?_) (fun h20 => ?_))
                      · have H1 := cond_t H1 h20
                        refine sr (oD (sg rfl) rfl (nn (cw_ret (kw_nx_ret (kw_bl_ret (kw_nx_ret (kw_lq_ret (kw_bl_ret (kw_join_ret (kw_nx_ret ?_))))))))))
                        have q1 := Option.some.inj H1
                        subst q1
                        have q0 := Option.some.inj H0
                        subst q0
                        exact kw_ret Tryd.results44 (.cons (.tmp rfl) .nil) [] [] trivial (by decide) ⟨rfl, rfl⟩
                      · have H1 := cond_f H1 h20
                        obtain ⟨o1_1, eo1_1, H1⟩ := bind_some H1
                        refine cw_skip (kw_nx (sr (oD (sg rfl) rfl (nn (cw_join (ι := Int) (fun | v21 => o1_1 = .out v21) (fun | v21 => [(1, .pointer (some ⟨b1, 0, none⟩)), (3, .int .i64 v9), (4, .pointer (some ⟨b12, 0, none⟩)), (5, .int .i64 v21)]) (fun | v21 => [(0, [(b1, .cells #[.int .i64 a0.c, .int .i64 a0.n, .int .i64 a0.r, .slice p0_0 ((a0.o).length) c0_0] 34 (0, 0))]), (1, [(b12, .cells #[.int .i64 x11.sp, .int .i64 x11.tg] 85 (0, 0))])]) ?_ ?_)))))
                        · refine cw_block (cw_loopS (ι := Nat × Int) (js := [0, 1]) (fun x => x.1) (fun | (fuel, v21) => s_TagsValid_L1 fl a0 v9 x11 fuel v21 = some o1_1) (fun | (_, v21) => [(1, .pointer (some ⟨b1, 0, none⟩)), (3, .int .i64 v9), (4, .pointer (some ⟨b12, 0, none⟩)), (5, .int .i64 v21)]) (fun | (_, v21) => [(0, [(b1, .cells #[.int .i64 a0.c, .int .i64 a0.n, .int .i64 a0.r, .slice p0_0 ((a0.o).length) c0_0] 34 (0, 0))]), (1, [(b12, .cells #[.int .i64 x11.sp, .int .i64 x11.tg] 85 (0, 0))])]) (fl, 0) eo1_1 ⟨rfl, rfl, rfl, rfl, trivial⟩ ⟨0, [1], rfl, rfl, 1, [], rfl, rfl, trivial⟩ (by decide) ?_)
                          rintro ⟨fuel, v21⟩ H2
                          have H2 : s_TagsValid_L1 fl a0 v9 x11 fuel v21 = some o1_1 := H2
                          rcases fuel with _ | fuel
                          · rw [s_TagsValid_L1.eq_1] at H2; cases H2
                          rw [s_TagsValid_L1.eq_2] at H2
                          refine CW.sub (s' := [(1, .pointer (some ⟨b1, 0, none⟩)), (3, .int .i64 v9), (4, .pointer (some ⟨b12, 0, none⟩)), (5, .int .i64 v21)]) (h' := [(0, [(b1, .cells #[.int .i64 a0.c, .int .i64 a0.n, .int .i64 a0.r, .slice p0_0 ((a0.o).length) c0_0] 34 (0, 0))]), (1, [(b12, .cells #[.int .i64 x11.sp, .int .i64 x11.tg] 85 (0, 0))])]) ?_ ⟨rfl, rfl, rfl, rfl, trivial⟩ ⟨rfl, rfl, trivial⟩
                          refine cw_seq (sr (oD (mv rfl) rfl (oD (mv rfl) rfl (oD (stp_lss rfl rfl) rfl (nn (cw_cond rfl (fun h22 => ?_) (fun h22 => ?_)))))))
                          · have H2 := cond_t H2 h22
                            obtain ⟨x23, e23, H2⟩ := bind_some H2
                            refine cw_skip (kw_nx (cw_seq (cw_block (cw_seq (rdr g_mixed [1, 4, 5] [0, 1] { dst := dS [94, 95, 96, 97, 98, 99, 100, 101, 102], pre := gA [] [[], [0], [], [0, 1, 2], rn 0 4, rn 0 5, [], [6], rn 0 8], ids := fun _ => [], rs := rL [[(1, 0)], [(93, 1)], [(5, 0)], [(94, 2), (95, 3)], [(96, 4)], [(97, 5)], [(4, 0)], [(99, 7)], [(98, 6), (100, 8)]], rh := rL [[], [(0, 0)], [], [], [], [], [], [(1, 0)]], V := fun i g => gA undef [.pointer (some ⟨b1, 3, none⟩), .slice p0_0 ((a0.o).length) c0_0, .int .i64 v21, .pointer (some ⟨eB p0_0, eO p0_0 + Int.toNat v21 * Enc.sz Ow + 0, none⟩), .pointer (some ⟨eB p0_0, eO p0_0 + Int.toNat v21 * Enc.sz Ow + 0, none⟩), .int .i64 x23.sp, .pointer (some ⟨b12, 0, none⟩), .int .i64 x11.sp, .bool (x23.sp == x11.sp)] i, U := fun _ _ => [], Φ := fun _ _ => True } ?_ ?_)))))
                            · exact ⟨⟨⟨⟨⟨⟨⟨⟨⟨trivial, lc rfl rfl fun hs hh => stp_fieldAddr (j := 3) Tryd.underlying34 rfl ts32 rfl (sv hs 1 rfl) rfl⟩, lc rfl rfl fun hs hh => stp_load1 ts32 (sv hs 93 rfl) (Cells.box (id := 0) (hh.get 0 _ rfl) 1 rfl)⟩, lc rfl rfl fun hs hh => stp_move (sv hs 5 rfl)⟩, lc rfl rfl fun hs hh => stp_indexAddr Tryd.underlying32 ts85 (by decide) (sv hs 94 rfl) rfl (sv hs 95 rfl) (Rdb.ro hr0_0) e23⟩, lc rfl rfl fun hs hh => stp_fieldAddr (j := 0) Tryd.underlying85 rfl ts3 rfl (sv hs 96 rfl) rfl⟩, lc rfl rfl fun hs hh => stp_load1 ts3 (sv hs 97 rfl) (Cells.el (Rdb.ro hr0_0) (by decide) e23 0 1 rfl)⟩, lc rfl rfl fun hs hh => stp_fieldAddr (j := 0) Tryd.underlying85 rfl ts3 rfl (sv hs 4 rfl) rfl⟩, lc rfl rfl fun hs hh => stp_load1 ts3 (sv hs 99 rfl) (Cells.box (id := 1) (hh.get 1 _ rfl) 1 rfl)⟩, lc rfl rfl fun hs hh => stp_eql (sv hs 98 rfl) (sv hs 100 rfl)⟩
                            · intro g hΦ
                              refine KW.sub (s' := [(1, .pointer (some ⟨b1, 0, none⟩)), (3, .int .i64 v9), (4, .pointer (some ⟨b12, 0, none⟩)), (5, .int .i64 v21), (101, .bool (x23.sp == x11.sp))]) (h' := [(0, [(b1, .cells #[.int .i64 a0.c, .int .i64 a0.n, .int .i64 a0.r, .slice p0_0 ((a0.o).length) c0_0] 34 (0, 0))]), (1, [(b12, .cells #[.int .i64 x11.sp, .int .i64 x11.tg] 85 (0, 0))])]) ?_ ⟨rfl, rfl, rfl, rfl, rfl, trivial⟩ ⟨rfl, rfl, trivial⟩
                              refine kw_nx (cw_cond rfl (fun h24 => ?_) (fun h24 => ?_))
                              · have H2 := cond_t H2 h24
                                refine sr (oD (sg rfl) rfl (nn (cw_ret (kw_bl_ret (kw_nx_ret (kw_lq_ret (kw_bl_ret (kw_join_ret (kw_bl_ret (kw_nx_ret (kw_lq_ret (kw_bl_ret (kw_join_ret ?_)))))))))))))
                                refine kw_nx_ret ?_
                                have q2 := Option.some.inj H2
                                subst q2
                                have q1 := Option.some.inj H1
                                subst q1
                                have q0 := Option.some.inj H0
                                subst q0
                                exact kw_ret Tryd.results44 (.cons (.tmp rfl) .nil) [] [] trivial (by decide) ⟨rfl, rfl⟩
                              · have H2 := cond_f H2 h24
                                obtain ⟨x25, e25, H2⟩ := bind_some H2
                                exact cw_skip (kw_bl_normal (kw_nx (cw_region (oD (mv rfl) rfl (oD (stp_add rfl rfl e25) rfl (oD (sg rfl) rfl (ow_nil (kw_lqS (js := [0, 1]) (fuel, x25) H2 (Nat.lt_succ_self _) ⟨rfl, rfl, rfl, rfl, trivial⟩ ⟨0, [1], rfl, rfl, 1, [], rfl, rfl, trivial⟩ (by decide)))))))))
                          · have H2 := cond_f H2 h22
                            refine cw_exit (kw_nx_exit (kw_lq_exit (kw_bl ?_)))
                            have q2 := Option.some.inj H2
                            subst q2
                            exact kw_joinS (js := [0, 1]) v21 rfl ⟨rfl, rfl, rfl, rfl, trivial⟩ ⟨0, [1], rfl, rfl, 1, [], rfl, rfl, trivial⟩ (by decide)
                        · rintro v21 rfl
                          refine KW.sub (s' := [(1, .pointer (some ⟨b1, 0, none⟩)), (3, .int .i64 v9), (4, .pointer (some ⟨b12, 0, none⟩)), (5, .int .i64 v21)]) (h' := [(0, [(b1, .cells #[.int .i64 a0.c, .int .i64 a0.n, .int .i64 a0.r, .slice p0_0 ((a0.o).length) c0_0] 34 (0, 0))]), (1, [(b12, .cells #[.int .i64 x11.sp, .int .i64 x11.tg] 85 (0, 0))])]) ?_ ⟨rfl, rfl, rfl, rfl, trivial⟩ ⟨rfl, rfl, trivial⟩
                          obtain ⟨x26, e26, H1⟩ := bind_some H1
                          exact kw_bl_normal (kw_nx (cw_region (oD (mv rfl) rfl (oD (stp_add rfl rfl e26) rfl (oD (sg rfl) rfl (ow_nil (kw_lqS (js := [0]) (fuel, x26) H1 (Nat.lt_succ_self _) ⟨rfl, rfl, trivial⟩ ⟨0, [], rfl, rfl, trivial⟩ (by decide))))))))
                  · have H1 := cond_f H1 h10
                    refine cw_exit (kw_nx_exit (kw_lq_exit (kw_bl ?_)))
                    have q1 := Option.some.inj H1
                    subst q1
                    exact kw_joinS (js := [0]) v9 rfl ⟨rfl, rfl, trivial⟩ ⟨0, [], rfl, rfl, trivial⟩ (by decide)
                · rintro v9 rfl
                  refine KW.sub (s' := [(1, .pointer (some ⟨b1, 0, none⟩)), (3, .int .i64 v9)]) (h' := [(0, [(b1, .cells #[.int .i64 a0.c, .int .i64 a0.n, .int .i64 a0.r, .slice p0_0 ((a0.o).length) c0_0] 34 (0, 0))])]) ?_ ⟨rfl, rfl, trivial⟩ ⟨rfl, trivial⟩
                  refine kw_nx (sr (oD (sg rfl) rfl (nn (cw_ret ?_))))
                  have q0 := Option.some.inj H0
                  subst q0
                  exact kw_ret Tryd.results44 (.cons (.tmp rfl) .nil) [] [] trivial (by decide) ⟨rfl, rfl⟩

set_option maxHeartbeats 4000000 in
set_option maxRecDepth 20000 in
theorem c_s_l5Copy (fl : Nat) (w : World) (a0 : Tg) (p0_0 : Option Addr) (n0_0 c0_0 : Nat) (hn0_0 : n0_0 = (a0.o).length) (hr0_0 : RO w (hkeys []) (RdL p0_0 c0_0 a0.o)) (r : Tg) (H0 : s_l5Copy fl a0 = some r) :
    Ct Tryd.prog 46 [.agg #[.int .i64 a0.c, .int .i64 a0.n, .int .i64 a0.r, .slice p0_0 n0_0 c0_0]] w [] (fun rv h' => ∃ (x0 : Option Addr) (y0 z0 : Nat) (C0 : Res), rv = .agg #[.int .i64 r.c, .int .i64 r.n, .int .i64 r.r, .slice x0 y0 z0] ∧ h' = [(0, C0)] ∧ y0 = (r.o).length ∧ OwnC 85 x0 z0 r.o C0) := by
  obtain rfl := hn0_0
  unfold s_l5Copy at H0
  refine ct_of_cw Tryd.func46 rfl Tryd.ntmps46 rfl (Sat.refl _ _) ?_
  refine sr (oE (stpU_box 0 rfl rfl) rfl ?_)
  rintro _ _ ⟨b1, rfl, rfl⟩
  refine oE (stpU_alloc 1 tz34 rfl) rfl ?_
  rintro _ _ ⟨b2, rfl, rfl⟩
  obtain ⟨x5, e5, H0⟩ := bind_some H0
  refine nn (cw_seq (rdr g_mixed [1, 2] [0, 1] { dst := dS [4, 5, 6, 7, 8, 9, 10, 11, 12, 13, 14, 0], pre := gA [] [[], [0], [], [2], [], [4], [], [], [7], [6, 7, 8], rn 0 10, rn 0 11], ids := gA [] [[], [], [], [], [], [], [2], [], [], [2], [], [1]], rs := rL [[(1, 0)], [(3, 1)], [(1, 0)], [(5, 3)], [(1, 0)], [(7, 5)], [], [(1, 0)], [(10, 8)], [(9, 7), (11, 9)], [(4, 2), (6, 4), (8, 6), (12, 10)], [(2, 0), (13, 11)]], rh := rL [[], [(0, 0)], [], [(0, 0)], [], [(0, 0)], [], [], [(0, 0)], [(2, 7)], [], [(1, 0)]], V := fun i g => gA undef [.pointer (some ⟨b1, 0, none⟩), .int .i64 a0.c, .pointer (some ⟨b1, 1, none⟩), .int .i64 a0.n, .pointer (some ⟨b1, 2, none⟩), .int .i64 a0.r, .slice ((g 6).A 0) 0 0, .pointer (some ⟨b1, 3, none⟩), .slice p0_0 ((a0.o).length) c0_0, .slice ((g 9).A 0) ((x5).length) ((g 9).C 0), .agg #[.int .i64 a0.c, .int .i64 a0.n, .int .i64 a0.r, .slice ((g 9).A 0) ((x5).length) ((g 9).C 0)]] i, U := fun i g => match i with | 6 => [(2, ((g 6).R 0))] | 9 => [(2, ((g 9).R 0))] | 11 => [(1, [(b2, .cells #[.int .i64 a0.c, .int .i64 a0.n, .int .i64 a0.r, .slice ((g 9).A 0) ((x5).length) ((g 9).C 0)] 34 (0, 0))])] | _ => [], Φ := fun i x => match i with | 6 => OwnC (α := Ow) 85 (x.A 0) 0 ([] : List Ow) (x.R 0) | 9 => OwnC (α := Ow) 85 (x.A 0) (x.C 0) x5 (x.R 0) | _ => True } ?_ ?_))
  · refine ⟨⟨⟨⟨⟨⟨⟨⟨⟨⟨⟨⟨trivial, lc rfl rfl fun hs hh => stp_fieldAddr (j := 0) Tryd.underlying34 rfl ts3 rfl (sv hs 1 rfl) rfl⟩, lc rfl rfl fun hs hh => stp_load1 ts3 (sv hs 3 rfl) (Cells.box (id := 0) (hh.get 0 _ rfl) 1 rfl)⟩, lc rfl rfl fun hs hh => stp_fieldAddr (j := 1) Tryd.underlying34 rfl ts3 rfl (sv hs 1 rfl) rfl⟩, lc rfl rfl fun hs hh => stp_load1 ts3 (sv hs 5 rfl) (Cells.box (id := 0) (hh.get 0 _ rfl) 1 rfl)⟩, lc rfl rfl fun hs hh => stp_fieldAddr (j := 2) Tryd.underlying34 rfl ts3 rfl (sv hs 1 rfl) rfl⟩, lc rfl rfl fun hs hh => stp_load1 ts3 (sv hs 7 rfl) (Cells.box (id := 0) (hh.get 0 _ rfl) 1 rfl)⟩, ?_⟩, lc rfl rfl fun hs hh => stp_fieldAddr (j := 3) Tryd.underlying34 rfl ts32 rfl (sv hs 1 rfl) rfl⟩, lc rfl rfl fun hs hh => stp_load1 ts32 (sv hs 10 rfl) (Cells.box (id := 0) (hh.get 0 _ rfl) 1 rfl)⟩, ?_⟩, ld rfl rfl fun g hΦ s h hs hh => stp_build (cs := #[.int .i64 a0.c, .int .i64 a0.n, .int .i64 a0.r, .slice ((g 9).A 0) ((x5).length) ((g 9).C 0)]) (sevp_cons (sv hs 4 rfl) (sevp_cons (sv hs 6 rfl) (sevp_cons (sv hs 8 rfl) (sevp_cons (sv hs 12 rfl) sevp_nil)))) bt34_12⟩, ?_⟩
    · refine le rfl rfl (fun g hΦ s h hs hh => (stpU_lit0 sl32 2)) ?_
      rintro g _ _ ⟨p3, C4, rfl, rfl, o4⟩
      exact ⟨⟨[p3], [], [C4]⟩, o4, .inr rfl, rfl⟩
    · refine le rfl rfl (fun g hΦ s h hs hh => (stpU_append sl32 rfl (id := 2) (sv hs 9 rfl) (by simp) (sv hs 11 rfl) rfl (hh.get 2 _ rfl) (hΦ 6 rfl) (Rdb.ro hr0_0) e5)) ?_
      rintro g _ _ ⟨p6, c7, C8, rfl, rfl, o8⟩
      exact ⟨⟨[p6], [c7], [C8]⟩, o8, .inr rfl, rfl⟩
    · refine le rfl rfl (fun g hΦ s h hs hh => (stpU_store (id := 1) (cs' := [.int .i64 a0.c, .int .i64 a0.n, .int .i64 a0.r, .slice ((g 9).A 0) ((x5).length) ((g 9).C 0)]) ts34 (sv hs 2 rfl) (sv hs 13 rfl) (hh.get 1 _ rfl) rfl rfl rfl rfl)) ?_
      rintro g _ _ rfl
      exact ⟨⟨[], [], []⟩, trivial, .inl rfl, rfl⟩
  · intro g hΦ
    refine kw_gen (ι := Option Addr × Res × Option Addr × Nat × Res) (((g 6).A 0), ((g 6).R 0), ((g 9).A 0), ((g 9).C 0), ((g 9).R 0)) (fun | (p3, C4, p6, c7, C8) => OwnC (α := Ow) 85 p3 0 ([] : List Ow) C4 ∧ OwnC (α := Ow) 85 p6 c7 x5 C8) (fun | (p3, C4, p6, c7, C8) => [(2, .pointer (some ⟨b2, 0, none⟩))]) (fun | (p3, C4, p6, c7, C8) => [(1, [(b2, .cells #[.int .i64 a0.c, .int .i64 a0.n, .int .i64 a0.r, .slice p6 ((x5).length) c7] 34 (0, 0))]), (2, C8)]) ⟨(hΦ 6 (by decide)), (hΦ 9 (by decide))⟩ ⟨rfl, trivial⟩ ⟨rfl, rfl, trivial⟩ ?_
    rintro ⟨p3, C4, p6, c7, C8⟩ ⟨o4, o8⟩
    refine KW.sub (s' := [(2, .pointer (some ⟨b2, 0, none⟩))]) (h' := [(1, [(b2, .cells #[.int .i64 a0.c, .int .i64 a0.n, .int .i64 a0.r, .slice p6 ((x5).length) c7] 34 (0, 0))]), (2, C8)]) ?_ ⟨rfl, trivial⟩ ⟨rfl, rfl, trivial⟩
    refine kw_nx (cw_ret ?_)
    have q0 := Option.some.inj H0
    subst q0
    exact kw_ret Tryd.results46 (.cons (.cellN (us := [_, _, _, _]) ts34 rfl (Cells.box (id := 1) rfl 4 rfl)) .nil) [(0, C8)] [2] ⟨2, [], rfl, rfl, trivial⟩ (by decide) ⟨p6, ((x5).length), c7, C8, rfl, rfl, rfl, o8⟩

set_option maxHeartbeats 4000000 in
set_option maxRecDepth 20000 in
theorem c_s_l5Find (fl : Nat) (w : World) (a0 : Tg) (p0_0 : Option Addr) (n0_0 c0_0 : Nat) (a1 : Int) (hn0_0 : n0_0 = (a0.o).length) (hr0_0 : RO w (hkeys []) (RdL p0_0 c0_0 a0.o)) (r : Int) (H0 : s_l5Find fl a0 a1 = some r) :
    Ct Tryd.prog 47 [.agg #[.int .i64 a0.c, .int .i64 a0.n, .int .i64 a0.r, .slice p0_0 n0_0 c0_0], .int .i64 a1] w [] (fun rv h' => rv = .int .i64 r ∧ h' = []) := by
  obtain rfl := hn0_0
  unfold s_l5Find at H0
  refine ct_of_cw Tryd.func47 rfl Tryd.ntmps47 rfl (Sat.refl _ _) ?_
  refine sr (oE (stpU_box 0 rfl rfl) rfl ?_)
  rintro _ _ ⟨b1, rfl, rfl⟩
  obtain ⟨o0_0, eo0_0, H0⟩ := bind_some H0
  refine oD (sg rfl) rfl (nn (cw_seq (sr (oD (sg rfl) rfl (nn (cw_join (ι := Int) (fun | v2 => o0_0 = .out v2) (fun | v2 => [(1, .int .i64 a1), (2, .pointer (some ⟨b1, 0, none⟩)), (5, .int .i64 v2)]) (fun | v2 => [(0, [(b1, .cells #[.int .i64 a0.c, .int .i64 a0.n, .int .i64 a0.r, .slice p0_0 ((a0.o).length) c0_0] 34 (0, 0))])]) ?_ ?_))))))
  · refine cw_block (cw_loopS (ι := Nat × Int) (js := [0]) (fun x => x.1) (fun | (fuel, v2) => s_l5Find_L0 fl a0 a1 fuel v2 = some o0_0) (fun | (_, v2) => [(1, .int .i64 a1), (2, .pointer (some ⟨b1, 0, none⟩)), (5, .int .i64 v2)]) (fun | (_, v2) => [(0, [(b1, .cells #[.int .i64 a0.c, .int .i64 a0.n, .int .i64 a0.r, .slice p0_0 ((a0.o).length) c0_0] 34 (0, 0))])]) (fl, 0) eo0_0 ⟨rfl, rfl, rfl, trivial⟩ ⟨0, [], rfl, rfl, trivial⟩ (by decide) ?_)
    rintro ⟨fuel, v2⟩ H1
    have H1 : s_l5Find_L0 fl a0 a1 fuel v2 = some o0_0 := H1
    rcases fuel with _ | fuel
    · rw [s_l5Find_L0.eq_1] at H1; cases H1
    rw [s_l5Find_L0.eq_2] at H1
    refine CW.sub (s' := [(1, .int .i64 a1), (2, .pointer (some ⟨b1, 0, none⟩)), (5, .int .i64 v2)]) (h' := [(0, [(b1, .cells #[.int .i64 a0.c, .int .i64 a0.n, .int .i64 a0.r, .slice p0_0 ((a0.o).length) c0_0] 34 (0, 0))])]) ?_ ⟨rfl, rfl, rfl, trivial⟩ ⟨rfl, trivial⟩
    refine cw_seq (sr (oD (mv rfl) rfl (oD (fA 3 Tryd.underlying34 rfl ts32 rfl rfl rfl) rfl (oD (lB 0 ts32 rfl rfl rfl) rfl (oD (stp_len Tryd.underlying32 rfl) rfl (oD (stp_lss rfl rfl) rfl (nn (cw_cond rfl (fun h3 => ?_) (fun h3 => ?_)))))))))
    · have H1 := cond_t H1 h3
      obtain ⟨x4, e4, H1⟩ := bind_some H1
      refine cw_skip (kw_nx (cw_seq (cw_block (sr (oD (fA 3 Tryd.underlying34 rfl ts32 rfl rfl rfl) rfl (oD (lB 0 ts32 rfl rfl rfl) rfl (oD (mv rfl) rfl (oD (stp_indexAddr Tryd.underlying32 ts85 (by decide) rfl rfl rfl (Rdb.ro hr0_0) e4) rfl (oD (fA 0 Tryd.underlying85 rfl ts3 rfl rfl rfl) rfl (oD (stp_load1 ts3 rfl (Cells.el (Rdb.ro hr0_0) (by decide) e4 0 1 rfl)) rfl (oD (mv rfl) rfl (oD (stp_eql rfl rfl) rfl (nn ?_)))))))))))))
      refine cw_cond rfl (fun h5 => ?_) (fun h5 => ?_)
      · have H1 := cond_t H1 h5
        refine sr (oD (mv rfl) rfl (oD (sg rfl) rfl (nn (cw_ret (kw_bl_ret (kw_nx_ret (kw_lq_ret (kw_bl_ret (kw_join_ret (kw_nx_ret ?_))))))))))
        have q1 := Option.some.inj H1
        subst q1
        have q0 := Option.some.inj H0
        subst q0
        exact kw_ret Tryd.results47 (.cons (.tmp rfl) .nil) [] [] trivial (by decide) ⟨rfl, rfl⟩
      · have H1 := cond_f H1 h5
        obtain ⟨x6, e6, H1⟩ := bind_some H1
        exact cw_skip (kw_bl_normal (kw_nx (cw_region (oD (mv rfl) rfl (oD (stp_add rfl rfl e6) rfl (oD (sg rfl) rfl (ow_nil (kw_lqS (js := [0]) (fuel, x6) H1 (Nat.lt_succ_self _) ⟨rfl, rfl, rfl, trivial⟩ ⟨0, [], rfl, rfl, trivial⟩ (by decide)))))))))
    · have H1 := cond_f H1 h3
      refine cw_exit (kw_nx_exit (kw_lq_exit (kw_bl ?_)))
      have q1 := Option.some.inj H1
      subst q1
      exact kw_joinS (js := [0]) v2 rfl ⟨rfl, rfl, rfl, trivial⟩ ⟨0, [], rfl, rfl, trivial⟩ (by decide)
  · rintro v2 rfl
    refine KW.sub (s' := [(1, .int .i64 a1), (2, .pointer (some ⟨b1, 0, none⟩)), (5, .int .i64 v2)]) (h' := [(0, [(b1, .cells #[.int .i64 a0.c, .int .i64 a0.n, .int .i64 a0.r, .slice p0_0 ((a0.o).length) c0_0] 34 (0, 0))])]) ?_ ⟨rfl, rfl, rfl, trivial⟩ ⟨rfl, trivial⟩
    refine kw_nx (sr (oD (sg rfl) rfl (nn (cw_ret ?_))))
    have q0 := Option.some.inj H0
    subst q0
    exact kw_ret Tryd.results47 (.cons (.tmp rfl) .nil) [] [] trivial (by decide) ⟨rfl, rfl⟩

set_option maxHeartbeats 4000000 in
set_option maxRecDepth 20000 in
theorem c_s_TakeTag (fl : Nat) (w : World) (a0 : Tg) (p0_0 : Option Addr) (n0_0 c0_0 : Nat) (a1 : Int) (hn0_0 : n0_0 = (a0.o).length) (hr0_0 : RO w (hkeys []) (RdL p0_0 c0_0 a0.o)) (r : Tg × Int × Bool × Bool) (H0 : s_TakeTag fl a0 a1 = some r) :
    Ct Tryd.prog 19 [.agg #[.int .i64 a0.c, .int .i64 a0.n, .int .i64 a0.r, .slice p0_0 n0_0 c0_0], .int .i64 a1] w [] (fun rv h' => ∃ (x0 : Option Addr) (y0 z0 : Nat) (C0 : Res), rv = .tuple #[.agg #[.int .i64 r.1.c, .int .i64 r.1.n, .int .i64 r.1.r, .slice x0 y0 z0], .int .i64 r.2.1, .bool r.2.2.1, .bool r.2.2.2] ∧ h' = [(0, C0)] ∧ y0 = (r.1.o).length ∧ OwnC 85 x0 z0 r.1.o C0) := by
  obtain rfl := hn0_0
  unfold s_TakeTag at H0
  refine ct_of_cw Tryd.func19 rfl Tryd.ntmps19 rfl (Sat.refl _ _) ?_
  refine sr (oE (stpU_box 0 rfl rfl) rfl ?_)
  rintro _ _ ⟨b1, rfl, rfl⟩
  refine oE (stpU_alloc 1 tz34 rfl) rfl ?_
  rintro _ _ ⟨b2, rfl, rfl⟩
  obtain ⟨x3, e3, H0⟩ := bind_some H0
  refine oD (sg rfl) rfl (oD (sg rfl) rfl (oD (sg rfl) rfl (nn (cw_seq (sr (oD (stp_loadN (us := [_, _, _, _]) ts34 rfl (Cells.box (id := 0) rfl 4 rfl)) rfl (oE (stpU_call (fun i => 2 + i) cf44 (fun w hw => c_s_TagsValid fl w a0 p0_0 ((a0.o).length) c0_0 rfl (RO.pass hr0_0 hw) x3 e3) (sevs_cons rfl sevs_nil)) rfl ?_)))))))
  rintro _ _ ⟨_, ⟨rfl, rfl⟩, rfl⟩
  obtain ⟨y4, ey4, H0⟩ := bind_some H0
  refine oD (stp_not rfl) rfl (oD (mv rfl) rfl (ow_cutY 4 19 y4 ?_ ?_))
  · rcases Bool.eq_false_or_eq_true (!x3) with hy4 | hy4
    · have ey4 := cond_t ey4 hy4
      refine oO rfl hy4 rfl (oO rfl hy4 rfl (oO rfl hy4 rfl (oD (stp_pick_t rfl hy4 rfl) rfl ?_)))
      obtain rfl := Option.some.inj ey4
      exact ow_nil (jy 4 0)
    · have ey4 := cond_f ey4 hy4
      obtain ⟨x5, e5, ey4⟩ := bind_some ey4
      refine oG rfl hy4 (mv rfl) rfl (ow_eff (.some rfl hy4) (stpU_call (fun i => 2 + i) cf45 (fun w hw => c_s_l1Space fl w a1 x5 e5) (sevs_cons rfl sevs_nil)) rfl ?_)
      rintro _ _ ⟨_, ⟨rfl, rfl⟩, rfl⟩
      refine oG rfl hy4 (stp_not rfl) rfl (oD (stp_pick_f rfl hy4 rfl) rfl ?_)
      obtain rfl := Option.some.inj ey4
      exact ow_nil (jy 4 0)
  · refine ow_nil (kw_nx (cw_cond rfl (fun h6 => ?_) (fun h6 => ?_)))
    · have H0 := cond_t H0 h6
      refine sr (oD (stp_build (cs := #[.int .i64 0, .int .i64 0, .int .i64 0, .slice none 0 0]) sevp_nil bt34_4) rfl (oF (stpU_store (id := 1) (cs' := [.int .i64 0, .int .i64 0, .int .i64 0, .slice none 0 0]) ts34 rfl rfl rfl rfl rfl rfl rfl) ?_))
      rintro _ _ rfl
      refine oD (sg rfl) rfl (oD (sg rfl) rfl (oD (sg rfl) rfl (nn (cw_ret (kw_nx_ret (kw_addNil 2 ?_))))))
      have q0 := Option.some.inj H0
      subst q0
      exact kw_ret Tryd.results19 (.cons (.cellN (us := [_, _, _, _]) ts34 rfl (Cells.box (id := 1) rfl 4 rfl)) (.cons (.tmp rfl) (.cons (.tmp rfl) (.cons (.tmp rfl) .nil)))) [(0, [])] [2] ⟨2, [], rfl, rfl, trivial⟩ (by decide) ⟨none, 0, 0, [], rfl, rfl, rfl, (OwnC.nil _ _)⟩
    · have H0 := cond_f H0 h6
      obtain ⟨x7, e7, H0⟩ := bind_some H0
      refine cw_skip (kw_nx (sr (oD (stp_loadN (us := [_, _, _, _]) ts34 rfl (Cells.box (id := 0) rfl 4 rfl)) rfl (oE (stpU_call (fun i => 3 + i) cf46 (fun w hw => c_s_l5Copy fl w a0 p0_0 ((a0.o).length) c0_0 rfl (RO.pass hr0_0 hw) x7 e7) (sevs_cons rfl sevs_nil)) rfl ?_))))
      rintro _ _ ⟨_, ⟨p8, n9, c10, C11, rfl, rfl, hnn9, o11⟩, rfl⟩
      obtain rfl := hnn9
      refine oE (stpU_alloc 4 tz34 rfl) rfl ?_
      rintro _ _ ⟨b12, rfl, rfl⟩
      refine oF (stpU_store (id := 4) (cs' := [.int .i64 x7.c, .int .i64 x7.n, .int .i64 x7.r, .slice p8 ((x7.o).length) c10]) ts34 rfl rfl rfl rfl rfl rfl rfl) ?_
      rintro _ _ rfl
      obtain ⟨x13, e13, H0⟩ := bind_some H0
      refine nn (sr (oD (stp_loadN (us := [_, _, _, _]) ts34 rfl (Cells.box (id := 0) rfl 4 rfl)) rfl (oD (mv rfl) rfl (oE (stpU_call (fun i => 5 + i) cf47 (fun w hw => c_s_l5Find fl w a0 p0_0 ((a0.o).length) c0_0 a1 rfl (RO.pass hr0_0 hw) x13 e13) (sevs_cons rfl (sevs_cons rfl sevs_nil))) rfl ?_))))
      rintro _ _ ⟨_, ⟨rfl, rfl⟩, rfl⟩
      refine oD (sg rfl) rfl (nn (cw_seq (sr (oD (mv rfl) rfl (oD (stp_geq rfl rfl) rfl (nn (cw_cond rfl (fun h14 => ?_) (fun h14 => ?_))))))))
      · have H0 := cond_t H0 h14
        obtain ⟨x15, e15, H0⟩ := bind_some H0
        refine cw_seq (rdr g_mixed [2, 4, 8, 9] [0, 1, 4] { dst := dS [29, 30, 31, 32, 33, 34, 35, 0, 6, 7, 8], pre := gA [] [[], [], [1], [], [1, 2, 3], rn 1 4, rn 1 5, [0], rn 0 8, rn 0 9, rn 0 10], ids := gA [] [[], [], [], [], [], [], [], [1]], rs := rL [[(8, 0)], [(2, 0)], [(29, 2)], [(9, 0)], [(30, 3), (31, 4)], [(32, 5)], [(33, 6)], [(4, 0), (28, 1)], [(34, 7)], [], []], rh := rL [[(4, 0)], [], [(0, 0)], [], [], [], [], [(1, 0)]], V := fun i g => gA undef [.agg #[.int .i64 x7.c, .int .i64 x7.n, .int .i64 x7.r, .slice p8 ((x7.o).length) c10], .pointer (some ⟨b1, 3, none⟩), .slice p0_0 ((a0.o).length) c0_0, .int .i64 x13, .pointer (some ⟨eB p0_0, eO p0_0 + Int.toNat x13 * Enc.sz Ow + 0, none⟩), .pointer (some ⟨eB p0_0, eO p0_0 + Int.toNat x13 * Enc.sz Ow + 1, none⟩), .int .i64 x15.tg, undef, .int .i64 x15.tg, .bool false, .bool true] i, U := fun i g => match i with | 7 => [(1, [(b2, .cells #[.int .i64 x7.c, .int .i64 x7.n, .int .i64 x7.r, .slice p8 ((x7.o).length) c10] 34 (0, 0))])] | _ => [], Φ := fun _ _ => True } ?_ ?_)
        · refine ⟨⟨⟨⟨⟨⟨⟨⟨⟨⟨⟨trivial, lc rfl rfl fun hs hh => stp_loadN (us := [_, _, _, _]) ts34 (sv hs 8 rfl) (Cells.box (id := 4) (hh.get 4 _ rfl) 4 rfl)⟩, lc rfl rfl fun hs hh => stp_fieldAddr (j := 3) Tryd.underlying34 rfl ts32 rfl (sv hs 2 rfl) rfl⟩, lc rfl rfl fun hs hh => stp_load1 ts32 (sv hs 29 rfl) (Cells.box (id := 0) (hh.get 0 _ rfl) 1 rfl)⟩, lc rfl rfl fun hs hh => stp_move (sv hs 9 rfl)⟩, lc rfl rfl fun hs hh => stp_indexAddr Tryd.underlying32 ts85 (by decide) (sv hs 30 rfl) rfl (sv hs 31 rfl) (Rdb.ro hr0_0) e15⟩, lc rfl rfl fun hs hh => stp_fieldAddr (j := 1) Tryd.underlying85 rfl ts3 rfl (sv hs 32 rfl) rfl⟩, lc rfl rfl fun hs hh => stp_load1 ts3 (sv hs 33 rfl) (Cells.el (Rdb.ro hr0_0) (by decide) e15 1 1 rfl)⟩, ?_⟩, lc rfl rfl fun hs hh => stp_assign (sv hs 34 rfl)⟩, lc rfl rfl fun hs hh => stp_assign rfl⟩, lc rfl rfl fun hs hh => stp_assign rfl⟩
          · refine le rfl rfl (fun g hΦ s h hs hh => (stpU_store (id := 1) (cs' := [.int .i64 x7.c, .int .i64 x7.n, .int .i64 x7.r, .slice p8 ((x7.o).length) c10]) ts34 (sv hs 4 rfl) (sv hs 28 rfl) (hh.get 1 _ rfl) rfl rfl rfl rfl)) ?_
            rintro g _ _ rfl
            exact ⟨⟨[], [], []⟩, trivial, .inl rfl, rfl⟩
        · intro g hΦ
          refine KW.sub (s' := [(4, .pointer (some ⟨b2, 0, none⟩)), (5, .int .i64 x15.tg), (6, .bool false), (7, .bool true)]) (h' := [(1, [(b2, .cells #[.int .i64 x7.c, .int .i64 x7.n, .int .i64 x7.r, .slice p8 ((x7.o).length) c10] 34 (0, 0))]), (3, C11)]) ?_ ⟨rfl, rfl, rfl, rfl, trivial⟩ ⟨rfl, rfl, trivial⟩
          refine kw_nx (cw_ret (kw_nx_ret ?_))
          have q0 := Option.some.inj H0
          subst q0
          exact kw_ret Tryd.results19 (.cons (.cellN (us := [_, _, _, _]) ts34 rfl (Cells.box (id := 1) rfl 4 rfl)) (.cons (.tmp rfl) (.cons (.tmp rfl) (.cons (.tmp rfl) .nil)))) [(0, C11)] [3] ⟨3, [], rfl, rfl, trivial⟩ (by decide) ⟨p8, ((x7.o).length), c10, C11, rfl, rfl, rfl, o11⟩
      · have H0 := cond_f H0 h14
        refine cw_skip (kw_nx (sr (oD (fA 1 Tryd.underlying34 rfl ts3 rfl rfl rfl) rfl (oD (lB 0 ts3 rfl rfl rfl) rfl (oD (fA 0 Tryd.underlying34 rfl ts3 rfl rfl rfl) rfl (oD (lB 0 ts3 rfl rfl rfl) rfl (oD (stp_eql rfl rfl) rfl (oD (sg rfl) rfl (nn (cw_seq (sr (oD (mv rfl) rfl (nn ?_)))))))))))))
        refine cw_cond rfl (fun h16 => ?_) (fun h16 => ?_)
        · have H0 := cond_t H0 h16
          obtain ⟨x17, e17, H0⟩ := bind_some H0
          refine cw_region (oD (fA 0 Tryd.underlying34 rfl ts3 rfl rfl rfl) rfl (oD (lB 0 ts3 rfl rfl rfl) rfl (oD (fA 2 Tryd.underlying34 rfl ts3 rfl rfl rfl) rfl (oD (lB 0 ts3 rfl rfl rfl) rfl (oD (stp_add rfl rfl e17) rfl (oE (stpU_lit0 sl32 5) rfl ?_))))))
          rintro _ _ ⟨p18, C19, rfl, rfl, o19⟩
          refine oD (stp_build (cs := #[.int .i64 a0.c, .int .i64 0, .int .i64 x17, .slice p18 0 0]) (sevp_cons rfl (sevp_cons rfl (sevp_cons rfl sevp_nil))) bt34_13) rfl (oF (stpU_store (id := 4) (cs' := [.int .i64 a0.c, .int .i64 0, .int .i64 x17, .slice p18 0 0]) ts34 rfl rfl rfl rfl rfl rfl rfl) ?_)
          rintro _ _ rfl
          refine nn (cw_seq (sr (oD (fA 2 Tryd.underlying34 rfl ts3 rfl rfl rfl) rfl (oD (lB 4 ts3 rfl rfl rfl) rfl (oD (stp_gtr rfl rfl) rfl (nn (cw_cond rfl (fun h20 => ?_) (fun h20 => ?_))))))))
          · have H0 := cond_t H0 h20
            refine sr (oD (stp_build (cs := #[.int .i64 0, .int .i64 0, .int .i64 0, .slice none 0 0]) sevp_nil bt34_4) rfl (oF (stpU_store (id := 1) (cs' := [.int .i64 0, .int .i64 0, .int .i64 0, .slice none 0 0]) ts34 rfl rfl rfl rfl rfl rfl rfl) ?_))
            rintro _ _ rfl
            refine oD (sg rfl) rfl (oD (sg rfl) rfl (oD (sg rfl) rfl (nn (cw_ret (kw_nx_ret (kw_addNil 6 ?_))))))
            have q0 := Option.some.inj H0
            subst q0
            exact kw_ret Tryd.results19 (.cons (.cellN (us := [_, _, _, _]) ts34 rfl (Cells.box (id := 1) rfl 4 rfl)) (.cons (.tmp rfl) (.cons (.tmp rfl) (.cons (.tmp rfl) .nil)))) [(0, [])] [6] ⟨6, [], rfl, rfl, trivial⟩ (by decide) ⟨none, 0, 0, [], rfl, rfl, rfl, (OwnC.nil _ _)⟩
          · have H0 := cond_f H0 h20
            refine cw_skip (kw_nx (sr (oD (fA 1 Tryd.underlying34 rfl ts3 rfl rfl rfl) rfl (oD (lB 4 ts3 rfl rfl rfl) rfl (oD (sg rfl) rfl (nn (sr (oD (fA 3 Tryd.underlying34 rfl ts32 rfl rfl rfl) rfl (oD (lB 4 ts32 rfl rfl rfl) rfl (oD (mv rfl) rfl (oD (mv rfl) rfl (oD (stp_build (cs := #[.int .i64 a1, .int .i64 0]) (sevp_cons rfl (sevp_cons rfl sevp_nil)) bt85_8) rfl (oE (stpU_lit (sz := 2) (l := [(⟨a1, 0⟩ : Ow)]) [.agg #[.int .i64 a1, .int .i64 0]] sl32 7 (sevp_cons rfl sevp_nil) rfl rfl rfl rfl rfl rfl rfl rfl rfl) rfl ?_)))))))))))))
            rintro _ _ ⟨p21, C22, rfl, rfl, o22⟩
            obtain ⟨x23, e23, H0⟩ := bind_some H0
            refine oE (stpU_append sl32 rfl (id := 5) rfl (by simp) rfl (by simp) rfl o19 (Rdb.own (id := 7) rfl o22) e23) rfl ?_
            rintro _ _ ⟨p24, c25, C26, rfl, rfl, o26⟩
            refine oD (fA 3 Tryd.underlying34 rfl ts32 rfl rfl rfl) rfl (oF (stpU_store (id := 4) (cs' := [.int .i64 a0.c, .int .i64 0, .int .i64 x17, .slice p24 ((x23).length) c25]) ts32 rfl rfl rfl rfl rfl rfl rfl) ?_)
            rintro _ _ rfl
            obtain ⟨x27, e27, H0⟩ := bind_some H0
            refine nn (sr (oD (mv rfl) rfl (oD (stp_add rfl rfl e27) rfl (oD (fA 1 Tryd.underlying34 rfl ts3 rfl rfl rfl) rfl (oF (stpU_store (id := 4) (cs' := [.int .i64 a0.c, .int .i64 x27, .int .i64 x17, .slice p24 ((x23).length) c25]) ts3 rfl rfl rfl rfl rfl rfl rfl) ?_)))))
            rintro _ _ rfl
            refine nn (sr (oD (stp_loadN (us := [_, _, _, _]) ts34 rfl (Cells.box (id := 4) rfl 4 rfl)) rfl (oD (mv rfl) rfl (oD (mv rfl) rfl (oF (stpU_store (id := 1) (cs' := [.int .i64 a0.c, .int .i64 x27, .int .i64 x17, .slice p24 ((x23).length) c25]) ts34 rfl rfl rfl rfl rfl rfl rfl) ?_)))))
            rintro _ _ rfl
            refine oD (sg rfl) rfl (oD (sg rfl) rfl (oD (sg rfl) rfl (nn (cw_ret ?_))))
            have q0 := Option.some.inj H0
            subst q0
            exact kw_ret Tryd.results19 (.cons (.cellN (us := [_, _, _, _]) ts34 rfl (Cells.box (id := 1) rfl 4 rfl)) (.cons (.tmp rfl) (.cons (.tmp rfl) (.cons (.tmp rfl) .nil)))) [(0, C26)] [5] ⟨5, [], rfl, rfl, trivial⟩ (by decide) ⟨p24, ((x23).length), c25, C26, rfl, rfl, rfl, o26⟩
        · have H0 := cond_f H0 h16
          refine cw_skip (kw_nx (cw_seq (sr (oD (fA 2 Tryd.underlying34 rfl ts3 rfl rfl rfl) rfl (oD (lB 4 ts3 rfl rfl rfl) rfl (oD (stp_gtr rfl rfl) rfl (nn (cw_cond rfl (fun h28 => ?_) (fun h28 => ?_)))))))))
          · have H0 := cond_t H0 h28
            refine sr (oD (stp_build (cs := #[.int .i64 0, .int .i64 0, .int .i64 0, .slice none 0 0]) sevp_nil bt34_4) rfl (oF (stpU_store (id := 1) (cs' := [.int .i64 0, .int .i64 0, .int .i64 0, .slice none 0 0]) ts34 rfl rfl rfl rfl rfl rfl rfl) ?_))
            rintro _ _ rfl
            refine oD (sg rfl) rfl (oD (sg rfl) rfl (oD (sg rfl) rfl (nn (cw_ret (kw_nx_ret (kw_addNil 8 ?_))))))
            have q0 := Option.some.inj H0
            subst q0
            exact kw_ret Tryd.results19 (.cons (.cellN (us := [_, _, _, _]) ts34 rfl (Cells.box (id := 1) rfl 4 rfl)) (.cons (.tmp rfl) (.cons (.tmp rfl) (.cons (.tmp rfl) .nil)))) [(0, [])] [8] ⟨8, [], rfl, rfl, trivial⟩ (by decide) ⟨none, 0, 0, [], rfl, rfl, rfl, (OwnC.nil _ _)⟩
          · have H0 := cond_f H0 h28
            refine cw_skip (kw_nx (sr (oD (fA 1 Tryd.underlying34 rfl ts3 rfl rfl rfl) rfl (oD (lB 4 ts3 rfl rfl rfl) rfl (oD (sg rfl) rfl (nn (sr (oD (fA 3 Tryd.underlying34 rfl ts32 rfl rfl rfl) rfl (oD (lB 4 ts32 rfl rfl rfl) rfl (oD (mv rfl) rfl (oD (mv rfl) rfl (oD (stp_build (cs := #[.int .i64 a1, .int .i64 x7.n]) (sevp_cons rfl (sevp_cons rfl sevp_nil)) bt85_8) rfl (oE (stpU_lit (sz := 2) (l := [(⟨a1, x7.n⟩ : Ow)]) [.agg #[.int .i64 a1, .int .i64 x7.n]] sl32 9 (sevp_cons rfl sevp_nil) rfl rfl rfl rfl rfl rfl rfl rfl rfl) rfl ?_)))))))))))))
            rintro _ _ ⟨p29, C30, rfl, rfl, o30⟩
            obtain ⟨x31, e31, H0⟩ := bind_some H0
            refine oE (stpU_append sl32 rfl (id := 3) rfl rfl rfl (by simp) rfl o11 (Rdb.own (id := 9) rfl o30) e31) rfl ?_
            rintro _ _ ⟨p32, c33, C34, rfl, rfl, o34⟩
            refine oD (fA 3 Tryd.underlying34 rfl ts32 rfl rfl rfl) rfl (oF (stpU_store (id := 4) (cs' := [.int .i64 x7.c, .int .i64 x7.n, .int .i64 x7.r, .slice p32 ((x31).length) c33]) ts32 rfl rfl rfl rfl rfl rfl rfl) ?_)
            rintro _ _ rfl
            obtain ⟨x35, e35, H0⟩ := bind_some H0
            refine nn (sr (oD (mv rfl) rfl (oD (stp_add rfl rfl e35) rfl (oD (fA 1 Tryd.underlying34 rfl ts3 rfl rfl rfl) rfl (oF (stpU_store (id := 4) (cs' := [.int .i64 x7.c, .int .i64 x35, .int .i64 x7.r, .slice p32 ((x31).length) c33]) ts3 rfl rfl rfl rfl rfl rfl rfl) ?_)))))
            rintro _ _ rfl
            refine nn (sr (oD (stp_loadN (us := [_, _, _, _]) ts34 rfl (Cells.box (id := 4) rfl 4 rfl)) rfl (oD (mv rfl) rfl (oD (mv rfl) rfl (oF (stpU_store (id := 1) (cs' := [.int .i64 x7.c, .int .i64 x35, .int .i64 x7.r, .slice p32 ((x31).length) c33]) ts34 rfl rfl rfl rfl rfl rfl rfl) ?_)))))
            rintro _ _ rfl
            refine oD (sg rfl) rfl (oD (sg rfl) rfl (oD (sg rfl) rfl (nn (cw_ret ?_))))
            have q0 := Option.some.inj H0
            subst q0
            exact kw_ret Tryd.results19 (.cons (.cellN (us := [_, _, _, _]) ts34 rfl (Cells.box (id := 1) rfl 4 rfl)) (.cons (.tmp rfl) (.cons (.tmp rfl) (.cons (.tmp rfl) .nil)))) [(0, C34)] [3] ⟨3, [], rfl, rfl, trivial⟩ (by decide) ⟨p32, ((x31).length), c33, C34, rfl, rfl, rfl, o34⟩

set_option maxHeartbeats 4000000 in
set_option maxRecDepth 20000 in
theorem c_s_NewMachine (fl : Nat) (w : World) (a0 : Int) (a1 : Int) (a2 : Int) (a3 : Int) (r : Mc × Bool) (H0 : s_NewMachine fl a0 a1 a2 a3 = some r) :
    Ct Tryd.prog 6 [.int .i64 a0, .int .i64 a1, .int .i64 a2, .int .i64 a3] w [] (fun rv h' => ∃ (x0 : Option Addr) (y0 z0 : Nat) (C0 : Res) (x1 : Option Addr) (y1 z1 : Nat) (C1 : Res) (x2 : Option Addr) (y2 z2 : Nat) (C2 : Res) (x3 : Option Addr) (y3 z3 : Nat) (C3 : Res), rv = .tuple #[.agg #[.slice x0 y0 z0, .slice x1 y1 z1, .slice x2 y2 z2, .int .i64 r.1.c.h, .int .i64 r.1.g.c, .int .i64 r.1.g.n, .int .i64 r.1.g.r, .slice x3 y3 z3, .int .i64 r.1.s], .bool r.2] ∧ h' = [(0, C0), (1, C1), (2, C2), (3, C3)] ∧ y0 = (r.1.t.b).length ∧ OwnC 3 x0 z0 r.1.t.b C0 ∧ y1 = (r.1.t.f).length ∧ OwnC 71 x1 z1 r.1.t.f C1 ∧ y2 = (r.1.c.l).length ∧ OwnC 65 x2 z2 r.1.c.l C2 ∧ y3 = (r.1.g.o).length ∧ OwnC 85 x3 z3 r.1.g.o C3) := by
  unfold s_NewMachine at H0
  refine ct_of_cw Tryd.func6 rfl Tryd.ntmps6 rfl (Sat.refl _ _) ?_
  refine sr (oE (stpU_alloc 0 tz36 rfl) rfl ?_)
  rintro _ _ ⟨b1, rfl, rfl⟩
  obtain ⟨x2, e2, H0⟩ := bind_some H0
  refine oD (sg rfl) rfl (nn (sr (oD (mv rfl) rfl (oD (mv rfl) rfl (oE (stpU_call (fun i => 1 + i) cf16 (fun w hw => c_s_NewTable fl w a0 a1 x2 e2) (sevs_cons rfl (sevs_cons rfl sevs_nil))) rfl ?_)))))
  rintro _ _ ⟨_, ⟨p3, n4, c5, C6, p7, n8, c9, C10, rfl, rfl, hnn4, o6, hnn8, o10⟩, rfl⟩
  obtain rfl := hnn4
  obtain rfl := hnn8
  refine oD (mv rfl) rfl (oD (stp_extract rfl rfl) rfl (oD (stp_extract rfl rfl) rfl (oE (stpU_alloc 3 tz28 rfl) rfl ?_)))
  rintro _ _ ⟨b11, rfl, rfl⟩
  refine oF (stpU_store (id := 3) (cs' := [.slice p3 ((x2.1.b).length) c5, .slice p7 ((x2.1.f).length) c9]) ts28 rfl rfl rfl rfl rfl rfl rfl) ?_
  rintro _ _ rfl
  obtain ⟨x12, e12, H0⟩ := bind_some H0
  refine oD (sg rfl) rfl (nn (sr (oD (mv rfl) rfl (oE (stpU_call (fun i => 4 + i) cf17 (fun w hw => c_s_NewCache fl w a2 x12 e12) (sevs_cons rfl sevs_nil)) rfl ?_))))
  rintro _ _ ⟨_, ⟨p13, n14, c15, C16, rfl, rfl, hnn14, o16⟩, rfl⟩
  obtain rfl := hnn14
  refine oD (mv rfl) rfl (oD (stp_extract rfl rfl) rfl (oD (stp_extract rfl rfl) rfl (oE (stpU_alloc 5 tz31 rfl) rfl ?_)))
  rintro _ _ ⟨b17, rfl, rfl⟩
  refine oF (stpU_store (id := 5) (cs' := [.slice p13 ((x12.1.l).length) c15, .int .i64 x12.1.h]) ts31 rfl rfl rfl rfl rfl rfl rfl) ?_
  rintro _ _ rfl
  obtain ⟨x18, e18, H0⟩ := bind_some H0
  refine oD (sg rfl) rfl (nn (sr (oD (mv rfl) rfl (oE (stpU_call (fun i => 6 + i) cf18 (fun w hw => c_s_NewTags fl w a3 x18 e18) (sevs_cons rfl sevs_nil)) rfl ?_))))
  rintro _ _ ⟨_, ⟨p19, n20, c21, C22, rfl, rfl, hnn20, o22⟩, rfl⟩
  obtain rfl := hnn20
  refine oD (mv rfl) rfl (oD (stp_extract rfl rfl) rfl (oD (stp_extract rfl rfl) rfl (oE (stpU_alloc 7 tz34 rfl) rfl ?_)))
  rintro _ _ ⟨b23, rfl, rfl⟩
  refine oF (stpU_store (id := 7) (cs' := [.int .i64 x18.1.c, .int .i64 x18.1.n, .int .i64 x18.1.r, .slice p19 ((x18.1.o).length) c21]) ts34 rfl rfl rfl rfl rfl rfl rfl) ?_
  rintro _ _ rfl
  obtain ⟨y24, ey24, H0⟩ := bind_some H0
  refine oD (sg rfl) rfl (nn (cw_seq (sr (oD (mv rfl) rfl (oD (stp_not rfl) rfl (oD (mv rfl) rfl (ow_cutY 3 37 y24 ?_ ?_)))))))
  · rcases Bool.eq_false_or_eq_true (!x2.2) with hy24 | hy24
    · have ey24 := cond_t ey24 hy24
      refine oO rfl hy24 rfl (oO rfl hy24 rfl (oD (stp_pick_t rfl hy24 rfl) rfl ?_))
      obtain rfl := Option.some.inj ey24
      exact ow_nil (jy 3 0)
    · have ey24 := cond_f ey24 hy24
      refine oG rfl hy24 (mv rfl) rfl (oG rfl hy24 (stp_not rfl) rfl (oD (stp_pick_f rfl hy24 rfl) rfl ?_))
      obtain rfl := Option.some.inj ey24
      exact ow_nil (jy 3 0)
  · obtain ⟨y25, ey25, H0⟩ := bind_some H0
    refine oD (mv rfl) rfl (ow_cutY 3 41 y25 ?_ ?_)
    · rcases Bool.eq_false_or_eq_true y24 with hy25 | hy25
      · have ey25 := cond_t ey25 hy25
        refine oO rfl hy25 rfl (oO rfl hy25 rfl (oD (stp_pick_t rfl hy25 rfl) rfl ?_))
        obtain rfl := Option.some.inj ey25
        exact ow_nil (jy 3 0)
      · have ey25 := cond_f ey25 hy25
        refine oG rfl hy25 (mv rfl) rfl (oG rfl hy25 (stp_not rfl) rfl (oD (stp_pick_f rfl hy25 rfl) rfl ?_))
        obtain rfl := Option.some.inj ey25
        exact ow_nil (jy 3 0)
    · refine ow_nil (kw_nx (cw_cond rfl (fun h26 => ?_) (fun h26 => ?_)))
      · have H0 := cond_t H0 h26
        refine sr (oD (stp_build (cs := #[.slice none 0 0, .slice none 0 0, .slice none 0 0, .int .i64 0, .int .i64 0, .int .i64 0, .int .i64 0, .slice none 0 0, .int .i64 0]) sevp_nil bt36_6) rfl (oF (stpU_store (id := 0) (cs' := [.slice none 0 0, .slice none 0 0, .slice none 0 0, .int .i64 0, .int .i64 0, .int .i64 0, .int .i64 0, .slice none 0 0, .int .i64 0]) ts36 rfl rfl rfl rfl rfl rfl rfl) ?_))
        rintro _ _ rfl
        refine oD (sg rfl) rfl (nn (cw_ret (kw_nx_ret (kw_addNil 8 (kw_addNil 9 (kw_addNil 10 (kw_addNil 11 ?_)))))))
        have q0 := Option.some.inj H0
        subst q0
        exact kw_ret Tryd.results6 (.cons (.cellN (us := [_, _, _, _, _, _, _, _, _]) ts36 rfl (Cells.box (id := 0) rfl 9 rfl)) (.cons (.tmp rfl) .nil)) [(0, []), (1, []), (2, []), (3, [])] [8, 9, 10, 11] ⟨8, [9, 10, 11], rfl, rfl, 9, [10, 11], rfl, rfl, 10, [11], rfl, rfl, 11, [], rfl, rfl, trivial⟩ (by decide) ⟨none, 0, 0, [], none, 0, 0, [], none, 0, 0, [], none, 0, 0, [], rfl, rfl, rfl, (OwnC.nil _ _), rfl, (OwnC.nil _ _), rfl, (OwnC.nil _ _), rfl, (OwnC.nil _ _)⟩
      · have H0 := cond_f H0 h26
        obtain ⟨x27, e27, H0⟩ := bind_some H0
        refine cw_skip (kw_nx (sr (oD (stp_loadN (us := [_, _, _, _]) ts34 rfl (Cells.box (id := 7) rfl 4 rfl)) rfl (oE (stpU_call (fun i => 12 + i) cf19 (fun w hw => c_s_TakeTag fl w x18.1 p19 ((x18.1.o).length) c21 0 rfl (OwnC.pass (id := 6) rfl o22 hw) x27 e27) (sevs_cons rfl (sevs_cons rfl sevs_nil))) rfl ?_))))
        rintro _ _ ⟨_, ⟨p28, n29, c30, C31, rfl, rfl, hnn29, o31⟩, rfl⟩
        obtain rfl := hnn29
        refine oD (mv rfl) rfl (oD (stp_extract rfl rfl) rfl (oD (stp_extract rfl rfl) rfl (oD (stp_extract rfl rfl) rfl (oD (stp_extract rfl rfl) rfl (oF (stpU_store (id := 7) (cs' := [.int .i64 x27.1.c, .int .i64 x27.1.n, .int .i64 x27.1.r, .slice p28 ((x27.1.o).length) c30]) ts34 rfl rfl rfl rfl rfl rfl rfl) ?_)))))
        rintro _ _ rfl
        refine nn (sr (oD (stp_loadN (us := [_, _]) ts28 rfl (Cells.box (id := 3) rfl 2 rfl)) rfl (oD (stp_loadN (us := [_, _]) ts31 rfl (Cells.box (id := 5) rfl 2 rfl)) rfl (oD (stp_loadN (us := [_, _, _, _]) ts34 rfl (Cells.box (id := 7) rfl 4 rfl)) rfl (oD (stp_build (cs := #[.slice p3 ((x2.1.b).length) c5, .slice p7 ((x2.1.f).length) c9, .slice p13 ((x12.1.l).length) c15, .int .i64 x12.1.h, .int .i64 x27.1.c, .int .i64 x27.1.n, .int .i64 x27.1.r, .slice p28 ((x27.1.o).length) c30, .int .i64 0]) (sevp_cons rfl (sevp_cons rfl (sevp_cons rfl sevp_nil))) bt36_14) rfl (oF (stpU_store (id := 0) (cs' := [.slice p3 ((x2.1.b).length) c5, .slice p7 ((x2.1.f).length) c9, .slice p13 ((x12.1.l).length) c15, .int .i64 x12.1.h, .int .i64 x27.1.c, .int .i64 x27.1.n, .int .i64 x27.1.r, .slice p28 ((x27.1.o).length) c30, .int .i64 0]) ts36 rfl rfl rfl rfl rfl rfl rfl) ?_))))))
        rintro _ _ rfl
        refine oD (sg rfl) rfl (nn (cw_ret ?_))
        have q0 := Option.some.inj H0
        subst q0
        exact kw_ret Tryd.results6 (.cons (.cellN (us := [_, _, _, _, _, _, _, _, _]) ts36 rfl (Cells.box (id := 0) rfl 9 rfl)) (.cons (.tmp rfl) .nil)) [(0, C6), (1, C10), (2, C16), (3, C31)] [1, 2, 4, 12] ⟨1, [2, 4, 12], rfl, rfl, 2, [4, 12], rfl, rfl, 4, [12], rfl, rfl, 12, [], rfl, rfl, trivial⟩ (by decide) ⟨p3, ((x2.1.b).length), c5, C6, p7, ((x2.1.f).length), c9, C10, p13, ((x12.1.l).length), c15, C16, p28, ((x27.1.o).length), c30, C31, rfl, rfl, rfl, o6, rfl, o10, rfl, o16, rfl, o31⟩
end Go.Proofs.YtbgodaeccgjdgaaDoor
