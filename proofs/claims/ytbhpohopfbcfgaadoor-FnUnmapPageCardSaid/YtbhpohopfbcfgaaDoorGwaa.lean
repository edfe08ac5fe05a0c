/- The walks: functions of the program return what their pure functions say. Printed by a program (gen.py). -/
import Derived.Test.YtbhpohopfbcfgaaDoorGp
import Derived.Test.YtbhpohopfbcfgaaDoorGt
import Derived.Test.YtbhpohopfbcfgaaDoorMan
import Derived.Test.YtbhpohopfbcfgaaDoorMap
import Derived.Test.YtbhpohopfbcfgaaDoorCpy
import Derived.Test.YtbhpohopfbcfgaaDoorBits
set_option linter.unusedSimpArgs false
set_option linter.unusedVariables false
set_option linter.unusedSectionVars false
namespace Go.Proofs.YtbhpohopfbcfgaaDoor
open Go.RowKit
set_option maxHeartbeats 4000000 in
set_option maxRecDepth 20000 in
theorem c_s_l12Rd_pick (fl : Nat) (w : World) (m0 : Nat) (a0_0 : (List UInt8)) (p0_0_0 : Option Addr) (n0_0_0 c0_0_0 : Nat) (a0_1 : Int) (a1 : Int) (hn0_0_0 : n0_0_0 = (a0_0).length) (hr0_0_0 : RO w (hkeys [(0, [(m0, .cells #[.slice p0_0_0 n0_0_0 c0_0_0, .int .i64 a0_1] 81 (0, 0))])]) (RdL p0_0_0 c0_0_0 a0_0)) (hM : Sat w (hkeys [(0, [(m0, .cells #[.slice p0_0_0 n0_0_0 c0_0_0, .int .i64 a0_1] 81 (0, 0))])]) w [(0, [(m0, .cells #[.slice p0_0_0 n0_0_0 c0_0_0, .int .i64 a0_1] 81 (0, 0))])]) (r : Int × Int) (H0 : s_l12Rd_pick fl a0_0 a0_1 a1 = some r) :
    Ct Tryd.prog 53 [.pointer (some ⟨m0, 0, none⟩), .int .i64 a1] w [(0, [(m0, .cells #[.slice p0_0_0 n0_0_0 c0_0_0, .int .i64 a0_1] 81 (0, 0))])] (fun rv h' => rv = .int .i64 r.1 ∧ h' = [(0, [(m0, .cells #[.slice p0_0_0 n0_0_0 c0_0_0, .int .i64 r.2] 81 (0, 0))])]) := by
  obtain rfl := hn0_0_0
  unfold s_l12Rd_pick at H0
  refine ct_of_cw Tryd.func53 rfl Tryd.ntmps53 rfl hM ?_
  obtain ⟨x1, e1, H0⟩ := bind_some H0
  refine sr (oD (sg rfl) rfl (nn (sr (oD (mv rfl) rfl (oD (mv rfl) rfl (oD (stp_nilCheck rfl) rfl (oD (fA 1 Tryd.underlying81 rfl ts3 rfl rfl rfl) rfl (oD (lB 0 ts3 rfl rfl rfl) rfl (oD (stp_add rfl rfl e1) rfl (oD (stp_nilCheck rfl) rfl (oD (fA 1 Tryd.underlying81 rfl ts3 rfl rfl rfl) rfl (oF (stpU_store (id := 0) (cs' := [.slice p0_0_0 ((a0_0).length) c0_0_0, .int .i64 x1]) ts3 rfl rfl rfl rfl rfl rfl rfl) ?_))))))))))))
  rintro _ _ rfl
  obtain ⟨y2, ey2, H0⟩ := bind_some H0
  refine nn (cw_seq (sr (oD (mv rfl) rfl (oD (stp_lss rfl rfl) rfl (oD (mv rfl) rfl (ow_cutY 7 24 y2 ?_ ?_))))))
  · rcases Bool.eq_false_or_eq_true (decide (a1 < 1)) with hy2 | hy2
    · have ey2 := cond_t ey2 hy2
      refine oO rfl hy2 rfl (oO rfl hy2 rfl (oO rfl hy2 rfl (oO rfl hy2 rfl (oO rfl hy2 rfl (oO rfl hy2 rfl (oD (stp_pick_t rfl hy2 rfl) rfl ?_))))))
      obtain rfl := Option.some.inj ey2
      exact ow_nil (jy 7 0)
    · have ey2 := cond_f ey2 hy2
      refine oG rfl hy2 (mv rfl) rfl (oG rfl hy2 (stp_nilCheck rfl) rfl (oG rfl hy2 (fA 0 Tryd.underlying81 rfl ts22 rfl rfl rfl) rfl (oG rfl hy2 (lB 0 ts22 rfl rfl rfl) rfl (oG rfl hy2 (stp_len Tryd.underlying22 rfl) rfl (oG rfl hy2 (stp_eql rfl rfl) rfl (oD (stp_pick_f rfl hy2 rfl) rfl ?_))))))
      obtain rfl := Option.some.inj ey2
      exact ow_nil (jy 7 0)
  · refine ow_nil (kw_nx (cw_cond rfl (fun h3 => ?_) (fun h3 => ?_)))
    · have H0 := cond_t H0 h3
      refine sr (oD (sg rfl) rfl (nn (cw_ret (kw_nx_ret ?_))))
      have q0 := Option.some.inj H0
      subst q0
      exact kw_ret Tryd.results53 (.cons (.tmp rfl) .nil) [(0, [(m0, .cells #[.slice p0_0_0 ((a0_0).length) c0_0_0, .int .i64 x1] 81 (0, 0))])] [0] ⟨0, [], rfl, rfl, trivial⟩ (by decide) ⟨rfl, rfl⟩
    · have H0 := cond_f H0 h3
      obtain ⟨x4, e4, H0⟩ := bind_some H0
      refine cw_skip (kw_nx (sr (oD (mv rfl) rfl (oD (stp_nilCheck rfl) rfl (oD (fA 1 Tryd.underlying81 rfl ts3 rfl rfl rfl) rfl (oD (lB 0 ts3 rfl rfl rfl) rfl (oD (stp_sub rfl rfl e4) rfl (oD (sg rfl) rfl (nn (cw_seq (sr (oD (mv rfl) rfl (oD (mv rfl) rfl ?_)))))))))))))
      refine oD (stp_nilCheck rfl) rfl (oD (fA 0 Tryd.underlying81 rfl ts22 rfl rfl rfl) rfl (oD (lB 0 ts22 rfl rfl rfl) rfl (oD (stp_len Tryd.underlying22 rfl) rfl (oD (stp_lss rfl rfl) rfl (nn (cw_cond rfl (fun h5 => ?_) (fun h5 => ?_)))))))
      · have H0 := cond_t H0 h5
        obtain ⟨x6, e6, H0⟩ := bind_some H0
        obtain ⟨x7, e7, H0⟩ := bind_some H0
        obtain ⟨x8, e8, H0⟩ := bind_some H0
        refine sr (oD (mv rfl) rfl (oD (stp_nilCheck rfl) rfl (oD (fA 0 Tryd.underlying81 rfl ts22 rfl rfl rfl) rfl (oD (lB 0 ts22 rfl rfl rfl) rfl (oD (mv rfl) rfl (oD (stp_indexAddr Tryd.underlying22 ts5 (by decide) rfl rfl rfl (Rdb.ro hr0_0_0) e6) rfl (oD (stp_load1 ts5 rfl (Cells.el (Rdb.ro hr0_0_0) (by decide) e6 0 1 rfl)) rfl (oD (stp_convI Tryd.underlying5 Tryd.underlying3 rfl e7) rfl (oD (mv rfl) rfl (oD (stp_rem rfl rfl e8) rfl (oD (sg rfl) rfl (nn (cw_ret ?_)))))))))))))
        refine kw_nx_ret ?_
        have q0 := Option.some.inj H0
        subst q0
        exact kw_ret Tryd.results53 (.cons (.tmp rfl) .nil) [(0, [(m0, .cells #[.slice p0_0_0 ((a0_0).length) c0_0_0, .int .i64 x1] 81 (0, 0))])] [0] ⟨0, [], rfl, rfl, trivial⟩ (by decide) ⟨rfl, rfl⟩
      · have H0 := cond_f H0 h5
        obtain ⟨x9, e9, H0⟩ := bind_some H0
        obtain ⟨x10, e10, H0⟩ := bind_some H0
        obtain ⟨x11, e11, H0⟩ := bind_some H0
        obtain ⟨x12, e12, H0⟩ := bind_some H0
        obtain ⟨x13, e13, H0⟩ := bind_some H0
        obtain ⟨x14, e14, H0⟩ := bind_some H0
        obtain ⟨x15, e15, H0⟩ := bind_some H0
        obtain ⟨x16, e16, H0⟩ := bind_some H0
        obtain ⟨x17, e17, H0⟩ := bind_some H0
        obtain ⟨x18, e18, H0⟩ := bind_some H0
        obtain ⟨x19, e19, H0⟩ := bind_some H0
        obtain ⟨x20, e20, H0⟩ := bind_some H0
        obtain ⟨x21, e21, H0⟩ := bind_some H0
        obtain ⟨x22, e22, H0⟩ := bind_some H0
        obtain ⟨x23, e23, H0⟩ := bind_some H0
        obtain ⟨x24, e24, H0⟩ := bind_some H0
        refine cw_skip (kw_nx (cw_seq (rdr g_mixed [0, 5] [0] { dst := dS [48, 49, 50, 51, 52, 53, 54, 55, 56, 57, 58, 59, 60, 61, 62, 63, 64, 65, 66, 67, 68, 69, 70, 71, 72, 73, 74, 75, 76, 77, 78, 79, 80, 81, 82, 83, 84, 85, 86, 87, 88, 89, 90, 91, 92, 7], pre := gA [] [[], [0], [0, 1], [0, 1, 2], [], [], [5], [5, 6], [5, 6, 7], rn 5 4, rn 4 6, rn 0 11, rn 0 12, rn 0 13, rn 0 14, [], [15], [15, 16], [15, 16, 17], [], [19], [19, 20], [], [22], [22, 23], [22, 23, 24], rn 22 4, rn 19 8, rn 15 13, rn 15 14, rn 15 15, rn 15 16, rn 0 32, [], [33], rn 0 35, [], [], [37], [37, 38], [37, 38, 39], rn 37 4, rn 36 6, rn 36 7, rn 0 44, rn 0 45], ids := fun _ => [], rs := rL [[(0, 0)], [(47, 1)], [(48, 2)], [(49, 3)], [(5, 0)], [(0, 0)], [(52, 6)], [(53, 7)], [(54, 8)], [(55, 9)], [(51, 5), (56, 10)], [(50, 4), (57, 11)], [(58, 12)], [(59, 13)], [(60, 14)], [(0, 0)], [(62, 16)], [(63, 17)], [(64, 18)], [(5, 0)], [(66, 20)], [(67, 21)], [(0, 0)], [(69, 23)], [(70, 24)], [(71, 25)], [(72, 26)], [(68, 22), (73, 27)], [(65, 19), (74, 28)], [(75, 29)], [(76, 30)], [(77, 31)], [(61, 15), (78, 32)], [(5, 0)], [(80, 34)], [(79, 33), (81, 35)], [(5, 0)], [(0, 0)], [(84, 38)], [(85, 39)], [(86, 40)], [(87, 41)], [(83, 37), (88, 42)], [(89, 43)], [(82, 36), (90, 44)], [(91, 45)]], rh := rL [[], [], [], [(0, 0)], [], [], [], [], [(0, 0)], [], [], [], [], [], [], [], [], [], [(0, 0)], [], [], [], [], [], [], [(0, 0)], [], [], [], [], [], [], [], [], [], [], [], [], [], [], [(0, 0)]], V := fun i g => gA undef [.pointer (some ⟨m0, 0, none⟩), .pointer (some ⟨m0, 0, none⟩), .pointer (some ⟨m0, 0, none⟩), .slice p0_0_0 ((a0_0).length) c0_0_0, .int .i64 x4, .pointer (some ⟨m0, 0, none⟩), .pointer (some ⟨m0, 0, none⟩), .pointer (some ⟨m0, 0, none⟩), .slice p0_0_0 ((a0_0).length) c0_0_0, .int .i64 ((a0_0).length : Int), .int .i64 x9, .pointer (some ⟨eB p0_0_0, eO p0_0_0 + Int.toNat x9 * Enc.sz UInt8 + 0, none⟩), .int .u8 (x10.toNat : Int), .int .i64 x11, .int .i64 x12, .pointer (some ⟨m0, 0, none⟩), .pointer (some ⟨m0, 0, none⟩), .pointer (some ⟨m0, 0, none⟩), .slice p0_0_0 ((a0_0).length) c0_0_0, .int .i64 x4, .int .i64 x13, .int .i64 x14, .pointer (some ⟨m0, 0, none⟩), .pointer (some ⟨m0, 0, none⟩), .pointer (some ⟨m0, 0, none⟩), .slice p0_0_0 ((a0_0).length) c0_0_0, .int .i64 ((a0_0).length : Int), .int .i64 x15, .pointer (some ⟨eB p0_0_0, eO p0_0_0 + Int.toNat x15 * Enc.sz UInt8 + 0, none⟩), .int .u8 (x16.toNat : Int), .int .i64 x17, .int .i64 x18, .int .i64 x19, .int .i64 x4, .int .i64 x20, .int .i64 x21, .int .i64 x4, .pointer (some ⟨m0, 0, none⟩), .pointer (some ⟨m0, 0, none⟩), .pointer (some ⟨m0, 0, none⟩), .slice p0_0_0 ((a0_0).length) c0_0_0, .int .i64 ((a0_0).length : Int), .int .i64 x22, .int .i64 x23, .int .i64 x24, .int .i64 x24] i, U := fun _ _ => [], Φ := fun _ _ => True } ?_ ?_)))
        · exact ⟨⟨⟨⟨⟨⟨⟨⟨⟨⟨⟨⟨⟨⟨⟨⟨⟨⟨⟨⟨⟨⟨⟨⟨⟨⟨⟨⟨⟨⟨⟨⟨⟨⟨⟨⟨⟨⟨⟨⟨⟨⟨⟨⟨⟨⟨trivial, lc rfl rfl fun hs hh => stp_move (sv hs 0 rfl)⟩, lc rfl rfl fun hs hh => stp_nilCheck (sv hs 47 rfl)⟩, lc rfl rfl fun hs hh => stp_fieldAddr (j := 0) Tryd.underlying81 rfl ts22 rfl (sv hs 48 rfl) rfl⟩, lc rfl rfl fun hs hh => stp_load1 ts22 (sv hs 49 rfl) (Cells.box (id := 0) (hh.get 0 _ rfl) 1 rfl)⟩, lc rfl rfl fun hs hh => stp_move (sv hs 5 rfl)⟩, lc rfl rfl fun hs hh => stp_move (sv hs 0 rfl)⟩, lc rfl rfl fun hs hh => stp_nilCheck (sv hs 52 rfl)⟩, lc rfl rfl fun hs hh => stp_fieldAddr (j := 0) Tryd.underlying81 rfl ts22 rfl (sv hs 53 rfl) rfl⟩, lc rfl rfl fun hs hh => stp_load1 ts22 (sv hs 54 rfl) (Cells.box (id := 0) (hh.get 0 _ rfl) 1 rfl)⟩, lc rfl rfl fun hs hh => stp_len Tryd.underlying22 (sv hs 55 rfl)⟩, lc rfl rfl fun hs hh => stp_rem (sv hs 51 rfl) (sv hs 56 rfl) e9⟩, lc rfl rfl fun hs hh => stp_indexAddr Tryd.underlying22 ts5 (by decide) (sv hs 50 rfl) rfl (sv hs 57 rfl) (Rdb.ro hr0_0_0) e10⟩, lc rfl rfl fun hs hh => stp_load1 ts5 (sv hs 58 rfl) (Cells.el (Rdb.ro hr0_0_0) (by decide) e10 0 1 rfl)⟩, lc rfl rfl fun hs hh => stp_convI Tryd.underlying5 Tryd.underlying3 (sv hs 59 rfl) e11⟩, lc rfl rfl fun hs hh => stp_mul (sv hs 60 rfl) rfl e12⟩, lc rfl rfl fun hs hh => stp_move (sv hs 0 rfl)⟩, lc rfl rfl fun hs hh => stp_nilCheck (sv hs 62 rfl)⟩, lc rfl rfl fun hs hh => stp_fieldAddr (j := 0) Tryd.underlying81 rfl ts22 rfl (sv hs 63 rfl) rfl⟩, lc rfl rfl fun hs hh => stp_load1 ts22 (sv hs 64 rfl) (Cells.box (id := 0) (hh.get 0 _ rfl) 1 rfl)⟩, lc rfl rfl fun hs hh => stp_move (sv hs 5 rfl)⟩, lc rfl rfl fun hs hh => stp_mul (sv hs 66 rfl) rfl e13⟩, lc rfl rfl fun hs hh => stp_add (sv hs 67 rfl) rfl e14⟩, lc rfl rfl fun hs hh => stp_move (sv hs 0 rfl)⟩, lc rfl rfl fun hs hh => stp_nilCheck (sv hs 69 rfl)⟩, lc rfl rfl fun hs hh => stp_fieldAddr (j := 0) Tryd.underlying81 rfl ts22 rfl (sv hs 70 rfl) rfl⟩, lc rfl rfl fun hs hh => stp_load1 ts22 (sv hs 71 rfl) (Cells.box (id := 0) (hh.get 0 _ rfl) 1 rfl)⟩, lc rfl rfl fun hs hh => stp_len Tryd.underlying22 (sv hs 72 rfl)⟩, lc rfl rfl fun hs hh => stp_rem (sv hs 68 rfl) (sv hs 73 rfl) e15⟩, lc rfl rfl fun hs hh => stp_indexAddr Tryd.underlying22 ts5 (by decide) (sv hs 65 rfl) rfl (sv hs 74 rfl) (Rdb.ro hr0_0_0) e16⟩, lc rfl rfl fun hs hh => stp_load1 ts5 (sv hs 75 rfl) (Cells.el (Rdb.ro hr0_0_0) (by decide) e16 0 1 rfl)⟩, lc rfl rfl fun hs hh => stp_convI Tryd.underlying5 Tryd.underlying3 (sv hs 76 rfl) e17⟩, lc rfl rfl fun hs hh => stp_mul (sv hs 77 rfl) rfl e18⟩, lc rfl rfl fun hs hh => stp_add (sv hs 61 rfl) (sv hs 78 rfl) e19⟩, lc rfl rfl fun hs hh => stp_move (sv hs 5 rfl)⟩, lc rfl rfl fun hs hh => stp_mul (sv hs 80 rfl) rfl e20⟩, lc rfl rfl fun hs hh => stp_add (sv hs 79 rfl) (sv hs 81 rfl) e21⟩, lc rfl rfl fun hs hh => stp_move (sv hs 5 rfl)⟩, lc rfl rfl fun hs hh => stp_move (sv hs 0 rfl)⟩, lc rfl rfl fun hs hh => stp_nilCheck (sv hs 84 rfl)⟩, lc rfl rfl fun hs hh => stp_fieldAddr (j := 0) Tryd.underlying81 rfl ts22 rfl (sv hs 85 rfl) rfl⟩, lc rfl rfl fun hs hh => stp_load1 ts22 (sv hs 86 rfl) (Cells.box (id := 0) (hh.get 0 _ rfl) 1 rfl)⟩, lc rfl rfl fun hs hh => stp_len Tryd.underlying22 (sv hs 87 rfl)⟩, lc rfl rfl fun hs hh => stp_quo (sv hs 83 rfl) (sv hs 88 rfl) e22⟩, lc rfl rfl fun hs hh => stp_mul (sv hs 89 rfl) rfl e23⟩, lc rfl rfl fun hs hh => stp_add (sv hs 82 rfl) (sv hs 90 rfl) e24⟩, lc rfl rfl fun hs hh => stp_assign (sv hs 91 rfl)⟩
        · intro g hΦ
          refine KW.sub (s' := [(1, .int .i64 a1), (6, .int .i64 x24)]) (h' := [(0, [(m0, .cells #[.slice p0_0_0 ((a0_0).length) c0_0_0, .int .i64 x1] 81 (0, 0))])]) ?_ ⟨rfl, rfl, trivial⟩ ⟨rfl, trivial⟩
          obtain ⟨x25, e25, H0⟩ := bind_some H0
          obtain ⟨x26, e26, H0⟩ := bind_some H0
          refine kw_nx (sr (oD (mv rfl) rfl (oD (mv rfl) rfl (oD (stp_quo rfl rfl e25) rfl (oD (stp_xor rfl rfl) rfl (oD (sg rfl) rfl (nn (sr (oD (mv rfl) rfl (oD (mv rfl) rfl (oD (stp_rem rfl rfl e26) rfl (oD (sg rfl) rfl (nn ?_)))))))))))))
          refine cw_ret ?_
          have q0 := Option.some.inj H0
          subst q0
          exact kw_ret Tryd.results53 (.cons (.tmp rfl) .nil) [(0, [(m0, .cells #[.slice p0_0_0 ((a0_0).length) c0_0_0, .int .i64 x1] 81 (0, 0))])] [0] ⟨0, [], rfl, rfl, trivial⟩ (by decide) ⟨rfl, rfl⟩

set_option maxHeartbeats 4000000 in
set_option maxRecDepth 20000 in
theorem c_s_l12Rd_num (fl : Nat) (w : World) (m0 : Nat) (a0_0 : (List UInt8)) (p0_0_0 : Option Addr) (n0_0_0 c0_0_0 : Nat) (a0_1 : Int) (a1 : (List Int)) (p1_0 : Option Addr) (n1_0 c1_0 : Nat) (hn0_0_0 : n0_0_0 = (a0_0).length) (hr0_0_0 : RO w (hkeys [(0, [(m0, .cells #[.slice p0_0_0 n0_0_0 c0_0_0, .int .i64 a0_1] 81 (0, 0))])]) (RdL p0_0_0 c0_0_0 a0_0)) (hn1_0 : n1_0 = (a1).length) (hr1_0 : RO w (hkeys [(0, [(m0, .cells #[.slice p0_0_0 n0_0_0 c0_0_0, .int .i64 a0_1] 81 (0, 0))])]) (RdL p1_0 c1_0 a1)) (hM : Sat w (hkeys [(0, [(m0, .cells #[.slice p0_0_0 n0_0_0 c0_0_0, .int .i64 a0_1] 81 (0, 0))])]) w [(0, [(m0, .cells #[.slice p0_0_0 n0_0_0 c0_0_0, .int .i64 a0_1] 81 (0, 0))])]) (r : Int × Int) (H0 : s_l12Rd_num fl a0_0 a0_1 a1 = some r) :
    Ct Tryd.prog 26 [.pointer (some ⟨m0, 0, none⟩), .slice p1_0 n1_0 c1_0] w [(0, [(m0, .cells #[.slice p0_0_0 n0_0_0 c0_0_0, .int .i64 a0_1] 81 (0, 0))])] (fun rv h' => rv = .int .i64 r.1 ∧ h' = [(0, [(m0, .cells #[.slice p0_0_0 n0_0_0 c0_0_0, .int .i64 r.2] 81 (0, 0))])]) := by
  obtain rfl := hn0_0_0
  obtain rfl := hn1_0
  unfold s_l12Rd_num at H0
  refine ct_of_cw Tryd.func26 rfl Tryd.ntmps26 rfl hM ?_
  obtain ⟨x1, e1, H0⟩ := bind_some H0
  refine sr (oD (sg rfl) rfl (nn (sr (oD (mv rfl) rfl (oD (mv rfl) rfl (oD (mv rfl) rfl (oD (stp_len Tryd.underlying23 rfl) rfl (oE (stpU_callM (fun i => bif Nat.beq i 0 then 0 else 1 + i) cf53 (fun w hw hb => c_s_l12Rd_pick fl w m0 a0_0 p0_0_0 ((a0_0).length) c0_0_0 a0_1 ((a1).length : Int) rfl (RO.passM hr0_0_0 hw hb) (hw.pass (js := [0]) ⟨0, [], rfl, rfl, trivial⟩ (by decide)) x1 e1) (sevs_cons rfl (sevs_cons rfl sevs_nil)) ⟨rfl, (fun _ _ hp => by obtain ⟨_, rfl⟩ := hp; exact ⟨_, rfl⟩), trivial⟩) rfl ?_))))))))
  rintro _ _ ⟨_, ⟨rfl, rfl⟩, rfl⟩
  obtain ⟨x2, e2, H0⟩ := bind_some H0
  refine oD (stp_indexAddr Tryd.underlying23 ts3 (by decide) rfl rfl rfl (Rdb.ro hr1_0) e2) rfl (oD (stp_load1 ts3 rfl (Cells.el (Rdb.ro hr1_0) (by decide) e2 0 1 rfl)) rfl (oD (sg rfl) rfl (nn (cw_ret ?_))))
  have q0 := Option.some.inj H0
  subst q0
  exact kw_ret Tryd.results26 (.cons (.tmp rfl) .nil) [(0, [(m0, .cells #[.slice p0_0_0 ((a0_0).length) c0_0_0, .int .i64 x1.2] 81 (0, 0))])] [0] ⟨0, [], rfl, rfl, trivial⟩ (by decide) ⟨rfl, rfl⟩

set_option maxHeartbeats 4000000 in
set_option maxRecDepth 20000 in
theorem c_s_l2Buckets (fl : Nat) (w : World) (a0 : Int) (r : Bool) (H0 : s_l2Buckets fl a0 = some r) :
    Ct Tryd.prog 62 [.int .i64 a0] w [] (fun rv h' => rv = .bool r ∧ h' = []) := by
  unfold s_l2Buckets at H0
  refine ct_of_cw Tryd.func62 rfl Tryd.ntmps62 rfl (Sat.refl _ _) ?_
  obtain ⟨y1, ey1, H0⟩ := bind_some H0
  refine sr (oD (sg rfl) rfl (nn (sr (oD (mv rfl) rfl (oD (stp_geq rfl rfl) rfl (oD (mv rfl) rfl (ow_cutY 3 8 y1 ?_ ?_)))))))
  · rcases Bool.eq_false_or_eq_true (decide (1 ≤ a0)) with hy1 | hy1
    · have ey1 := cond_t ey1 hy1
      refine oG rfl hy1 (mv rfl) rfl (oG rfl hy1 (stp_leq rfl rfl) rfl (oD (stp_pick_t rfl hy1 rfl) rfl ?_))
      obtain rfl := Option.some.inj ey1
      exact ow_nil (jy 3 0)
    · have ey1 := cond_f ey1 hy1
      refine oO rfl hy1 rfl (oO rfl hy1 rfl (oD (stp_pick_f rfl hy1 rfl) rfl ?_))
      obtain rfl := Option.some.inj ey1
      exact ow_nil (jy 3 0)
  · refine oD (sg rfl) rfl (nn (cw_ret ?_))
    have q0 := Option.some.inj H0
    subst q0
    exact kw_ret Tryd.results62 (.cons (.tmp rfl) .nil) [] [] trivial (by decide) ⟨rfl, rfl⟩

set_option maxHeartbeats 4000000 in
set_option maxRecDepth 20000 in
theorem c_s_NewTable (fl : Nat) (w : World) (a0 : Int) (a1 : Int) (r : T × Bool) (H0 : s_NewTable fl a0 a1 = some r) :
    Ct Tryd.prog 55 [.int .i64 a0, .int .i64 a1] w [] (fun rv h' => ∃ (x0 : Option Addr) (y0 z0 : Nat) (C0 : Res) (x1 : Option Addr) (y1 z1 : Nat) (C1 : Res), rv = .tuple #[.agg #[.slice x0 y0 z0, .slice x1 y1 z1], .bool r.2] ∧ h' = [(0, C0), (1, C1)] ∧ y0 = (r.1.b).length ∧ OwnC 3 x0 z0 r.1.b C0 ∧ y1 = (r.1.f).length ∧ OwnC 58 x1 z1 r.1.f C1) := by
  unfold s_NewTable at H0
  refine ct_of_cw Tryd.func55 rfl Tryd.ntmps55 rfl (Sat.refl _ _) ?_
  refine sr (oE (stpU_alloc 0 tz26 rfl) rfl ?_)
  rintro _ _ ⟨b1, rfl, rfl⟩
  obtain ⟨y2, ey2, H0⟩ := bind_some H0
  refine oD (sg rfl) rfl (nn (cw_seq (sr (oD (mv rfl) rfl (oD (stp_lss rfl rfl) rfl (oD (mv rfl) rfl (ow_cutY 3 14 y2 ?_ ?_)))))))
  · rcases Bool.eq_false_or_eq_true (decide (a0 < 1)) with hy2 | hy2
    · have ey2 := cond_t ey2 hy2
      refine oO rfl hy2 rfl (oO rfl hy2 rfl (oD (stp_pick_t rfl hy2 rfl) rfl ?_))
      obtain rfl := Option.some.inj ey2
      exact ow_nil (jy 3 0)
    · have ey2 := cond_f ey2 hy2
      refine oG rfl hy2 (mv rfl) rfl (oG rfl hy2 (stp_gtr rfl rfl) rfl (oD (stp_pick_f rfl hy2 rfl) rfl ?_))
      obtain rfl := Option.some.inj ey2
      exact ow_nil (jy 3 0)
  · obtain ⟨y3, ey3, H0⟩ := bind_some H0
    refine oD (mv rfl) rfl (ow_cutY 4 19 y3 ?_ ?_)
    · rcases Bool.eq_false_or_eq_true y2 with hy3 | hy3
      · have ey3 := cond_t ey3 hy3
        refine oO rfl hy3 rfl (oO rfl hy3 rfl (oO rfl hy3 rfl (oD (stp_pick_t rfl hy3 rfl) rfl ?_)))
        obtain rfl := Option.some.inj ey3
        exact ow_nil (jy 4 0)
      · have ey3 := cond_f ey3 hy3
        obtain ⟨x4, e4, ey3⟩ := bind_some ey3
        refine oG rfl hy3 (mv rfl) rfl (ow_eff (.some rfl hy3) (stpU_call (fun i => 1 + i) cf62 (fun w hw => c_s_l2Buckets fl w a1 x4 e4) (sevs_cons rfl sevs_nil)) rfl ?_)
        rintro _ _ ⟨_, ⟨rfl, rfl⟩, rfl⟩
        refine oG rfl hy3 (stp_not rfl) rfl (oD (stp_pick_f rfl hy3 rfl) rfl ?_)
        obtain rfl := Option.some.inj ey3
        exact ow_nil (jy 4 0)
    · refine ow_nil (kw_nx (cw_cond rfl (fun h5 => ?_) (fun h5 => ?_)))
      · have H0 := cond_t H0 h5
        refine sr (oD (stp_build (cs := #[.slice none 0 0, .slice none 0 0]) sevp_nil bt26_0) rfl (oF (stpU_store (id := 0) (cs' := [.slice none 0 0, .slice none 0 0]) ts26 rfl rfl rfl rfl rfl rfl rfl) ?_))
        rintro _ _ rfl
        refine oD (sg rfl) rfl (nn (cw_ret (kw_nx_ret (kw_addNil 1 (kw_addNil 2 ?_)))))
        have q0 := Option.some.inj H0
        subst q0
        exact kw_ret Tryd.results55 (.cons (.cellN (us := [_, _]) ts26 rfl (Cells.box (id := 0) rfl 2 rfl)) (.cons (.tmp rfl) .nil)) [(0, []), (1, [])] [1, 2] ⟨1, [2], rfl, rfl, 2, [], rfl, rfl, trivial⟩ (by decide) ⟨none, 0, 0, [], none, 0, 0, [], rfl, rfl, rfl, (OwnC.nil _ _), rfl, (OwnC.nil _ _)⟩
      · have H0 := cond_f H0 h5
        refine cw_skip (kw_nx (sr (oD (stp_build (cs := #[.slice none 0 0, .slice none 0 0]) sevp_nil bt26_0) rfl (oE (stpU_alloc 3 tz26 rfl) rfl ?_))))
        rintro _ _ ⟨b6, rfl, rfl⟩
        refine oF (stpU_store (id := 3) (cs' := [.slice none 0 0, .slice none 0 0]) ts26 rfl rfl rfl rfl rfl rfl rfl) ?_
        rintro _ _ rfl
        obtain ⟨o0_0, eo0_0, H0⟩ := bind_some H0
        refine nn (cw_seq (sr (oD (sg rfl) rfl (nn (cw_addNil 4 (cw_join (ι := (List Int) × Int × Option Addr × Nat × Nat × Res) (fun | (v7, v12, p8, n9, c10, C11) => o0_0 = .out (v7, v12) ∧ n9 = (v7).length ∧ OwnC (α := Int) 3 p8 c10 v7 C11) (fun | (v7, v12, p8, n9, c10, C11) => [(0, .int .i64 a0), (1, .int .i64 a1), (4, .pointer (some ⟨b1, 0, none⟩)), (6, .pointer (some ⟨b6, 0, none⟩)), (7, .int .i64 v12)]) (fun | (v7, v12, p8, n9, c10, C11) => [(0, [(b1, .cells #[.slice none 0 0, .slice none 0 0] 26 (0, 0))]), (3, [(b6, .cells #[.slice p8 n9 c10, .slice none 0 0] 26 (0, 0))]), (1001, C11)]) ?_ ?_))))))
        · refine cw_block (cw_loopS (ι := Nat × (List Int) × Int × Option Addr × Nat × Nat × Res) (js := [0, 3, 4]) (fun x => x.1) (fun | (fuel, v7, v12, p8, n9, c10, C11) => s_NewTable_L0 fl a1 fuel v7 v12 = some o0_0 ∧ n9 = (v7).length ∧ OwnC (α := Int) 3 p8 c10 v7 C11) (fun | (_, v7, v12, p8, n9, c10, C11) => [(0, .int .i64 a0), (1, .int .i64 a1), (4, .pointer (some ⟨b1, 0, none⟩)), (6, .pointer (some ⟨b6, 0, none⟩)), (7, .int .i64 v12)]) (fun | (_, v7, v12, p8, n9, c10, C11) => [(0, [(b1, .cells #[.slice none 0 0, .slice none 0 0] 26 (0, 0))]), (3, [(b6, .cells #[.slice p8 n9 c10, .slice none 0 0] 26 (0, 0))]), (1001, C11)]) (fl, [], 0, none, 0, 0, []) ⟨eo0_0, rfl, (OwnC.nil _ _)⟩ ⟨rfl, rfl, rfl, rfl, rfl, trivial⟩ ⟨0, [3, 4], rfl, rfl, 3, [4], rfl, rfl, 4, [], rfl, rfl, trivial⟩ (by decide) ?_)
          rintro ⟨fuel, v7, v12, p8, n9, c10, C11⟩ ⟨H1, hnn9, o11⟩
          obtain rfl := hnn9
          have H1 : s_NewTable_L0 fl a1 fuel v7 v12 = some o0_0 := H1
          rcases fuel with _ | fuel
          · rw [s_NewTable_L0.eq_1] at H1; cases H1
          rw [s_NewTable_L0.eq_2] at H1
          refine CW.sub (s' := [(0, .int .i64 a0), (1, .int .i64 a1), (4, .pointer (some ⟨b1, 0, none⟩)), (6, .pointer (some ⟨b6, 0, none⟩)), (7, .int .i64 v12)]) (h' := [(0, [(b1, .cells #[.slice none 0 0, .slice none 0 0] 26 (0, 0))]), (3, [(b6, .cells #[.slice p8 ((v7).length) c10, .slice none 0 0] 26 (0, 0))]), (1001, C11)]) ?_ ⟨rfl, rfl, rfl, rfl, rfl, trivial⟩ ⟨rfl, rfl, rfl, trivial⟩
          refine cw_seq (sr (oD (mv rfl) rfl (oD (mv rfl) rfl (oD (stp_lss rfl rfl) rfl (nn (cw_cond rfl (fun h13 => ?_) (fun h13 => ?_)))))))
          · have H1 := cond_t H1 h13
            refine cw_skip (kw_nx (cw_seq (cw_block (cw_region (oD (fA 0 Tryd.underlying26 rfl ts23 rfl rfl rfl) rfl (oD (lB 3 ts23 rfl rfl rfl) rfl (oE (stpU_lit (sz := 1) (l := [(-1)]) [.int .i64 (-1)] sl23 5 (sevp_cons rfl sevp_nil) rfl rfl rfl rfl rfl rfl rfl rfl rfl) rfl ?_)))))))
            rintro _ _ ⟨p14, C15, rfl, rfl, o15⟩
            obtain ⟨x16, e16, H1⟩ := bind_some H1
            refine oE (stpU_append sl23 rfl (id := 1001) rfl rfl rfl (by simp) rfl o11 (Rdb.own (id := 5) rfl o15) e16) rfl ?_
            rintro _ _ ⟨p17, c18, C19, rfl, rfl, o19⟩
            refine oD (fA 0 Tryd.underlying26 rfl ts23 rfl rfl rfl) rfl (oF (stpU_store (id := 3) (cs' := [.slice p17 ((x16).length) c18, .slice none 0 0]) ts23 rfl rfl rfl rfl rfl rfl rfl) ?_)
            rintro _ _ rfl
            obtain ⟨x20, e20, H1⟩ := bind_some H1
            exact ow_nil (kw_bl_normal (kw_nx (cw_region (oD (mv rfl) rfl (oD (stp_add rfl rfl e20) rfl (oD (sg rfl) rfl (ow_nil (kw_lqS (js := [0, 3, 1001]) (fuel, x16, x20, p17, ((x16).length), c18, C19) ⟨H1, rfl, o19⟩ (Nat.lt_succ_self _) ⟨rfl, rfl, rfl, rfl, rfl, trivial⟩ ⟨0, [3, 1001], rfl, rfl, 3, [1001], rfl, rfl, 1001, [], rfl, rfl, trivial⟩ (by decide)))))))))
          · have H1 := cond_f H1 h13
            refine cw_exit (kw_nx_exit (kw_lq_exit (kw_bl ?_)))
            have q1 := Option.some.inj H1
            subst q1
            exact kw_joinS (js := [0, 3, 1001]) (v7, v12, p8, ((v7).length), c10, C11) ⟨rfl, rfl, o11⟩ ⟨rfl, rfl, rfl, rfl, rfl, trivial⟩ ⟨0, [3, 1001], rfl, rfl, 3, [1001], rfl, rfl, 1001, [], rfl, rfl, trivial⟩ (by decide)
        · rintro ⟨v7, v12, p8, n9, c10, C11⟩ ⟨rfl, hnn9, o11⟩
          obtain rfl := hnn9
          refine KW.sub (s' := [(0, .int .i64 a0), (1, .int .i64 a1), (4, .pointer (some ⟨b1, 0, none⟩)), (6, .pointer (some ⟨b6, 0, none⟩)), (7, .int .i64 v12)]) (h' := [(0, [(b1, .cells #[.slice none 0 0, .slice none 0 0] 26 (0, 0))]), (3, [(b6, .cells #[.slice p8 ((v7).length) c10, .slice none 0 0] 26 (0, 0))]), (1001, C11)]) ?_ ⟨rfl, rfl, rfl, rfl, rfl, trivial⟩ ⟨rfl, rfl, rfl, trivial⟩
          obtain ⟨o0_1, eo0_1, H0⟩ := bind_some H0
          refine kw_nx (cw_seq (sr (oD (sg rfl) rfl (nn (cw_addNil 6 (cw_join (ι := (List F) × Int × Option Addr × Nat × Nat × Res) (fun | (v21, v26, p22, n23, c24, C25) => o0_1 = .out (v21, v26) ∧ n23 = (v21).length ∧ OwnC (α := F) 58 p22 c24 v21 C25) (fun | (v21, v26, p22, n23, c24, C25) => [(0, .int .i64 a0), (4, .pointer (some ⟨b1, 0, none⟩)), (6, .pointer (some ⟨b6, 0, none⟩)), (8, .int .i64 v26)]) (fun | (v21, v26, p22, n23, c24, C25) => [(0, [(b1, .cells #[.slice none 0 0, .slice none 0 0] 26 (0, 0))]), (3, [(b6, .cells #[.slice p8 ((v7).length) c10, .slice p22 n23 c24] 26 (0, 0))]), (1001, C11), (1002, C25)]) ?_ ?_))))))
          · refine cw_block (cw_loopS (ι := Nat × (List F) × Int × Option Addr × Nat × Nat × Res) (js := [0, 3, 1001, 6]) (fun x => x.1) (fun | (fuel, v21, v26, p22, n23, c24, C25) => s_NewTable_L1 fl a0 fuel v21 v26 = some o0_1 ∧ n23 = (v21).length ∧ OwnC (α := F) 58 p22 c24 v21 C25) (fun | (_, v21, v26, p22, n23, c24, C25) => [(0, .int .i64 a0), (4, .pointer (some ⟨b1, 0, none⟩)), (6, .pointer (some ⟨b6, 0, none⟩)), (8, .int .i64 v26)]) (fun | (_, v21, v26, p22, n23, c24, C25) => [(0, [(b1, .cells #[.slice none 0 0, .slice none 0 0] 26 (0, 0))]), (3, [(b6, .cells #[.slice p8 ((v7).length) c10, .slice p22 n23 c24] 26 (0, 0))]), (1001, C11), (1002, C25)]) (fl, [], 0, none, 0, 0, []) ⟨eo0_1, rfl, (OwnC.nil _ _)⟩ ⟨rfl, rfl, rfl, rfl, trivial⟩ ⟨0, [3, 1001, 6], rfl, rfl, 3, [1001, 6], rfl, rfl, 1001, [6], rfl, rfl, 6, [], rfl, rfl, trivial⟩ (by decide) ?_)
            rintro ⟨fuel, v21, v26, p22, n23, c24, C25⟩ ⟨H1, hnn23, o25⟩
            obtain rfl := hnn23
            have H1 : s_NewTable_L1 fl a0 fuel v21 v26 = some o0_1 := H1
            rcases fuel with _ | fuel
            · rw [s_NewTable_L1.eq_1] at H1; cases H1
            rw [s_NewTable_L1.eq_2] at H1
            refine CW.sub (s' := [(0, .int .i64 a0), (4, .pointer (some ⟨b1, 0, none⟩)), (6, .pointer (some ⟨b6, 0, none⟩)), (8, .int .i64 v26)]) (h' := [(0, [(b1, .cells #[.slice none 0 0, .slice none 0 0] 26 (0, 0))]), (3, [(b6, .cells #[.slice p8 ((v7).length) c10, .slice p22 ((v21).length) c24] 26 (0, 0))]), (1001, C11), (1002, C25)]) ?_ ⟨rfl, rfl, rfl, rfl, trivial⟩ ⟨rfl, rfl, rfl, rfl, trivial⟩
            refine cw_seq (sr (oD (mv rfl) rfl (oD (mv rfl) rfl (oD (stp_lss rfl rfl) rfl (nn (cw_cond rfl (fun h27 => ?_) (fun h27 => ?_)))))))
            · have H1 := cond_t H1 h27
              refine cw_skip (kw_nx (cw_seq (cw_block (cw_region (oD (fA 1 Tryd.underlying26 rfl ts24 rfl rfl rfl) rfl (oD (lB 3 ts24 rfl rfl rfl) rfl (oD (stp_build (cs := #[.bool false, .int .i64 0, .int .i64 0, .int .i64 0, .int .i64 (-1)]) (sevp_cons rfl sevp_nil) bt58_1) rfl (oE (stpU_lit (sz := 5) (l := [(⟨false, (⟨0, 0⟩ : K), 0, (-1)⟩ : F)]) [.agg #[.bool false, .int .i64 0, .int .i64 0, .int .i64 0, .int .i64 (-1)]] sl24 7 (sevp_cons rfl sevp_nil) rfl rfl rfl rfl rfl rfl rfl rfl rfl) rfl ?_))))))))
              rintro _ _ ⟨p28, C29, rfl, rfl, o29⟩
              obtain ⟨x30, e30, H1⟩ := bind_some H1
              refine oE (stpU_append sl24 rfl (id := 1002) rfl rfl rfl (by simp) rfl o25 (Rdb.own (id := 7) rfl o29) e30) rfl ?_
              rintro _ _ ⟨p31, c32, C33, rfl, rfl, o33⟩
              refine oD (fA 1 Tryd.underlying26 rfl ts24 rfl rfl rfl) rfl (oF (stpU_store (id := 3) (cs' := [.slice p8 ((v7).length) c10, .slice p31 ((x30).length) c32]) ts24 rfl rfl rfl rfl rfl rfl rfl) ?_)
              rintro _ _ rfl
              obtain ⟨x34, e34, H1⟩ := bind_some H1
              exact ow_nil (kw_bl_normal (kw_nx (cw_region (oD (mv rfl) rfl (oD (stp_add rfl rfl e34) rfl (oD (sg rfl) rfl (ow_nil (kw_lqS (js := [0, 3, 1001, 1002]) (fuel, x30, x34, p31, ((x30).length), c32, C33) ⟨H1, rfl, o33⟩ (Nat.lt_succ_self _) ⟨rfl, rfl, rfl, rfl, trivial⟩ ⟨0, [3, 1001, 1002], rfl, rfl, 3, [1001, 1002], rfl, rfl, 1001, [1002], rfl, rfl, 1002, [], rfl, rfl, trivial⟩ (by decide)))))))))
            · have H1 := cond_f H1 h27
              refine cw_exit (kw_nx_exit (kw_lq_exit (kw_bl ?_)))
              have q1 := Option.some.inj H1
              subst q1
              exact kw_joinS (js := [0, 3, 1001, 1002]) (v21, v26, p22, ((v21).length), c24, C25) ⟨rfl, rfl, o25⟩ ⟨rfl, rfl, rfl, rfl, trivial⟩ ⟨0, [3, 1001, 1002], rfl, rfl, 3, [1001, 1002], rfl, rfl, 1001, [1002], rfl, rfl, 1002, [], rfl, rfl, trivial⟩ (by decide)
          · rintro ⟨v21, v26, p22, n23, c24, C25⟩ ⟨rfl, hnn23, o25⟩
            obtain rfl := hnn23
            refine KW.sub (s' := [(0, .int .i64 a0), (4, .pointer (some ⟨b1, 0, none⟩)), (6, .pointer (some ⟨b6, 0, none⟩)), (8, .int .i64 v26)]) (h' := [(0, [(b1, .cells #[.slice none 0 0, .slice none 0 0] 26 (0, 0))]), (3, [(b6, .cells #[.slice p8 ((v7).length) c10, .slice p22 ((v21).length) c24] 26 (0, 0))]), (1001, C11), (1002, C25)]) ?_ ⟨rfl, rfl, rfl, rfl, trivial⟩ ⟨rfl, rfl, rfl, rfl, trivial⟩
            refine kw_nx (sr (oD (stp_loadN (us := [_, _]) ts26 rfl (Cells.box (id := 3) rfl 2 rfl)) rfl (oF (stpU_store (id := 0) (cs' := [.slice p8 ((v7).length) c10, .slice p22 ((v21).length) c24]) ts26 rfl rfl rfl rfl rfl rfl rfl) ?_)))
            rintro _ _ rfl
            refine oD (sg rfl) rfl (nn (cw_ret ?_))
            have q0 := Option.some.inj H0
            subst q0
            exact kw_ret Tryd.results55 (.cons (.cellN (us := [_, _]) ts26 rfl (Cells.box (id := 0) rfl 2 rfl)) (.cons (.tmp rfl) .nil)) [(0, C11), (1, C25)] [1001, 1002] ⟨1001, [1002], rfl, rfl, 1002, [], rfl, rfl, trivial⟩ (by decide) ⟨p8, ((v7).length), c10, C11, p22, ((v21).length), c24, C25, rfl, rfl, rfl, o11, rfl, o25⟩

set_option maxHeartbeats 4000000 in
set_option maxRecDepth 20000 in
theorem c_s_l2Draw (fl : Nat) (w : World) (m0 : Nat) (a0_0 : (List UInt8)) (p0_0_0 : Option Addr) (n0_0_0 c0_0_0 : Nat) (a0_1 : Int) (hn0_0_0 : n0_0_0 = (a0_0).length) (hr0_0_0 : RO w (hkeys [(0, [(m0, .cells #[.slice p0_0_0 n0_0_0 c0_0_0, .int .i64 a0_1] 81 (0, 0))])]) (RdL p0_0_0 c0_0_0 a0_0)) (hM : Sat w (hkeys [(0, [(m0, .cells #[.slice p0_0_0 n0_0_0 c0_0_0, .int .i64 a0_1] 81 (0, 0))])]) w [(0, [(m0, .cells #[.slice p0_0_0 n0_0_0 c0_0_0, .int .i64 a0_1] 81 (0, 0))])]) (r : K × Int) (H0 : s_l2Draw fl a0_0 a0_1 = some r) :
    Ct Tryd.prog 54 [.pointer (some ⟨m0, 0, none⟩)] w [(0, [(m0, .cells #[.slice p0_0_0 n0_0_0 c0_0_0, .int .i64 a0_1] 81 (0, 0))])] (fun rv h' => rv = .agg #[.int .i64 r.1.s, .int .i64 r.1.p] ∧ h' = [(0, [(m0, .cells #[.slice p0_0_0 n0_0_0 c0_0_0, .int .i64 r.2] 81 (0, 0))])]) := by
  obtain rfl := hn0_0_0
  unfold s_l2Draw at H0
  refine ct_of_cw Tryd.func54 rfl Tryd.ntmps54 rfl hM ?_
  refine sr (oE (stpU_alloc 1 tz28 rfl) rfl ?_)
  rintro _ _ ⟨b1, rfl, rfl⟩
  refine nn (sr (oD (mv rfl) rfl (oE (stpU_lit (sz := 1) (l := [0, 1, 2, 3, 1]) [.int .i64 0, .int .i64 1, .int .i64 2, .int .i64 3, .int .i64 1] sl23 2 (sevp_cons rfl (sevp_cons rfl (sevp_cons rfl (sevp_cons rfl (sevp_cons rfl sevp_nil))))) rfl rfl rfl rfl rfl rfl rfl rfl rfl) rfl ?_)))
  rintro _ _ ⟨p2, C3, rfl, rfl, o3⟩
  obtain ⟨x4, e4, H0⟩ := bind_some H0
  refine oE (stpU_callM (fun i => bif Nat.beq i 0 then 0 else 3 + i) cf26 (fun w hw hb => c_s_l12Rd_num fl w m0 a0_0 p0_0_0 ((a0_0).length) c0_0_0 a0_1 ([0, 1, 2, 3, 1]) p2 5 5 rfl (RO.passM hr0_0_0 hw hb) (by simp) (OwnC.passM (id := 2) rfl o3 hw hb ⟨rfl, trivial⟩) (hw.pass (js := [0]) ⟨0, [], rfl, rfl, trivial⟩ (by decide)) x4 e4) (sevs_cons rfl (sevs_cons rfl sevs_nil)) ⟨rfl, (fun _ _ hp => by obtain ⟨_, rfl⟩ := hp; exact ⟨_, rfl⟩), trivial⟩) rfl ?_
  rintro _ _ ⟨_, ⟨rfl, rfl⟩, rfl⟩
  refine oD (mv rfl) rfl (oE (stpU_lit (sz := 1) (l := [0, 1, 2, 3, 4, 5, 100, 255]) [.int .i64 0, .int .i64 1, .int .i64 2, .int .i64 3, .int .i64 4, .int .i64 5, .int .i64 100, .int .i64 255] sl23 4 (sevp_cons rfl (sevp_cons rfl (sevp_cons rfl (sevp_cons rfl (sevp_cons rfl (sevp_cons rfl (sevp_cons rfl (sevp_cons rfl sevp_nil)))))))) rfl rfl rfl rfl rfl rfl rfl rfl rfl) rfl ?_)
  rintro _ _ ⟨p5, C6, rfl, rfl, o6⟩
  obtain ⟨x7, e7, H0⟩ := bind_some H0
  refine oE (stpU_callM (fun i => bif Nat.beq i 0 then 0 else 5 + i) cf26 (fun w hw hb => c_s_l12Rd_num fl w m0 a0_0 p0_0_0 ((a0_0).length) c0_0_0 x4.2 ([0, 1, 2, 3, 4, 5, 100, 255]) p5 8 8 rfl (RO.passM hr0_0_0 hw hb) (by simp) (OwnC.passM (id := 4) rfl o6 hw hb ⟨rfl, trivial⟩) (hw.pass (js := [0]) ⟨0, [], rfl, rfl, trivial⟩ (by decide)) x7 e7) (sevs_cons rfl (sevs_cons rfl sevs_nil)) ⟨rfl, (fun _ _ hp => by obtain ⟨_, rfl⟩ := hp; exact ⟨_, rfl⟩), trivial⟩) rfl ?_
  rintro _ _ ⟨_, ⟨rfl, rfl⟩, rfl⟩
  refine oD (stp_build (cs := #[.int .i64 x4.1, .int .i64 x7.1]) (sevp_cons rfl (sevp_cons rfl sevp_nil)) bt28_2) rfl (oF (stpU_store (id := 1) (cs' := [.int .i64 x4.1, .int .i64 x7.1]) ts28 rfl rfl rfl rfl rfl rfl rfl) ?_)
  rintro _ _ rfl
  refine nn (cw_ret ?_)
  have q0 := Option.some.inj H0
  subst q0
  exact kw_ret Tryd.results54 (.cons (.cellN (us := [_, _]) ts28 rfl (Cells.box (id := 1) rfl 2 rfl)) .nil) [(0, [(m0, .cells #[.slice p0_0_0 ((a0_0).length) c0_0_0, .int .i64 x7.2] 81 (0, 0))])] [0] ⟨0, [], rfl, rfl, trivial⟩ (by decide) ⟨rfl, rfl⟩

theorem c_s_TableValid (fl : Nat) (w : World) (a0 : T) (p0_0 : Option Addr) (n0_0 c0_0 : Nat) (p0_1 : Option Addr) (n0_1 c0_1 : Nat) (hn0_0 : n0_0 = (a0.b).length) (hr0_0 : RO w (hkeys []) (RdL p0_0 c0_0 a0.b)) (hn0_1 : n0_1 = (a0.f).length) (hr0_1 : RO w (hkeys []) (RdL p0_1 c0_1 a0.f)) (r : Bool) (H0 : s_TableValid fl a0 = some r) :
    Ct Tryd.prog 33 [.agg #[.slice p0_0 n0_0 c0_0, .slice p0_1 n0_1 c0_1]] w [] (fun rv h' => rv = .bool r ∧ h' = []) := by
  obtain rfl := hn0_0
  obtain rfl := hn0_1
  unfold s_TableValid at H0
  obtain rfl := Option.some.inj H0
  exact ct_of_calls (sTableValid_c _ a0 w ⟨_, _, rfl, (hr0_0 w (Fr.refl _ _)).rd, (hr0_1 w (Fr.refl _ _)).rd⟩)

set_option maxHeartbeats 4000000 in
set_option maxRecDepth 20000 in
theorem c_s_l1Space (fl : Nat) (w : World) (a0 : Int) (r : Bool) (H0 : s_l1Space fl a0 = some r) :
    Ct Tryd.prog 66 [.int .i64 a0] w [] (fun rv h' => rv = .bool r ∧ h' = []) := by
  unfold s_l1Space at H0
  refine ct_of_cw Tryd.func66 rfl Tryd.ntmps66 rfl (Sat.refl _ _) ?_
  obtain ⟨y1, ey1, H0⟩ := bind_some H0
  refine sr (oD (sg rfl) rfl (nn (sr (oD (mv rfl) rfl (oD (stp_geq rfl rfl) rfl (oD (mv rfl) rfl (ow_cutY 3 8 y1 ?_ ?_)))))))
  · rcases Bool.eq_false_or_eq_true (decide (0 ≤ a0)) with hy1 | hy1
    · have ey1 := cond_t ey1 hy1
      refine oG rfl hy1 (mv rfl) rfl (oG rfl hy1 (stp_lss rfl rfl) rfl (oD (stp_pick_t rfl hy1 rfl) rfl ?_))
      obtain rfl := Option.some.inj ey1
      exact ow_nil (jy 3 0)
    · have ey1 := cond_f ey1 hy1
      refine oO rfl hy1 rfl (oO rfl hy1 rfl (oD (stp_pick_f rfl hy1 rfl) rfl ?_))
      obtain rfl := Option.some.inj ey1
      exact ow_nil (jy 3 0)
  · refine oD (sg rfl) rfl (nn (cw_ret ?_))
    have q0 := Option.some.inj H0
    subst q0
    exact kw_ret Tryd.results66 (.cons (.tmp rfl) .nil) [] [] trivial (by decide) ⟨rfl, rfl⟩

set_option maxHeartbeats 4000000 in
set_option maxRecDepth 20000 in
theorem c_s_l1Page (fl : Nat) (w : World) (a0 : Int) (r : Bool) (H0 : s_l1Page fl a0 = some r) :
    Ct Tryd.prog 67 [.int .i64 a0] w [] (fun rv h' => rv = .bool r ∧ h' = []) := by
  unfold s_l1Page at H0
  refine ct_of_cw Tryd.func67 rfl Tryd.ntmps67 rfl (Sat.refl _ _) ?_
  obtain ⟨y1, ey1, H0⟩ := bind_some H0
  refine sr (oD (sg rfl) rfl (nn (sr (oD (mv rfl) rfl (oD (stp_geq rfl rfl) rfl (oD (mv rfl) rfl (ow_cutY 3 8 y1 ?_ ?_)))))))
  · rcases Bool.eq_false_or_eq_true (decide (0 ≤ a0)) with hy1 | hy1
    · have ey1 := cond_t ey1 hy1
      refine oG rfl hy1 (mv rfl) rfl (oG rfl hy1 (stp_lss rfl rfl) rfl (oD (stp_pick_t rfl hy1 rfl) rfl ?_))
      obtain rfl := Option.some.inj ey1
      exact ow_nil (jy 3 0)
    · have ey1 := cond_f ey1 hy1
      refine oO rfl hy1 rfl (oO rfl hy1 rfl (oD (stp_pick_f rfl hy1 rfl) rfl ?_))
      obtain rfl := Option.some.inj ey1
      exact ow_nil (jy 3 0)
  · refine oD (sg rfl) rfl (nn (cw_ret ?_))
    have q0 := Option.some.inj H0
    subst q0
    exact kw_ret Tryd.results67 (.cons (.tmp rfl) .nil) [] [] trivial (by decide) ⟨rfl, rfl⟩

set_option maxHeartbeats 4000000 in
set_option maxRecDepth 20000 in
theorem c_s_KeyValid (fl : Nat) (w : World) (a0 : K) (r : Bool) (H0 : s_KeyValid fl a0 = some r) :
    Ct Tryd.prog 34 [.agg #[.int .i64 a0.s, .int .i64 a0.p]] w [] (fun rv h' => rv = .bool r ∧ h' = []) := by
  unfold s_KeyValid at H0
  refine ct_of_cw Tryd.func34 rfl Tryd.ntmps34 rfl (Sat.refl _ _) ?_
  refine sr (oE (stpU_box 0 rfl rfl) rfl ?_)
  rintro _ _ ⟨b1, rfl, rfl⟩
  obtain ⟨x2, e2, H0⟩ := bind_some H0
  refine oD (sg rfl) rfl (nn (sr (oD (fA 0 Tryd.underlying28 rfl ts3 rfl rfl rfl) rfl (oD (lB 0 ts3 rfl rfl rfl) rfl (oE (stpU_call (fun i => 1 + i) cf66 (fun w hw => c_s_l1Space fl w a0.s x2 e2) (sevs_cons rfl sevs_nil)) rfl ?_)))))
  rintro _ _ ⟨_, ⟨rfl, rfl⟩, rfl⟩
  obtain ⟨y3, ey3, H0⟩ := bind_some H0
  refine oD (mv rfl) rfl (ow_cutY 4 10 y3 ?_ ?_)
  · rcases Bool.eq_false_or_eq_true x2 with hy3 | hy3
    · have ey3 := cond_t ey3 hy3
      obtain ⟨x4, e4, ey3⟩ := bind_some ey3
      refine oG rfl hy3 (fA 1 Tryd.underlying28 rfl ts3 rfl rfl rfl) rfl (oG rfl hy3 (lB 0 ts3 rfl rfl rfl) rfl (ow_eff (.some rfl hy3) (stpU_call (fun i => 1 + i) cf67 (fun w hw => c_s_l1Page fl w a0.p x4 e4) (sevs_cons rfl sevs_nil)) rfl ?_))
      rintro _ _ ⟨_, ⟨rfl, rfl⟩, rfl⟩
      refine oD (stp_pick_t rfl hy3 rfl) rfl ?_
      obtain rfl := Option.some.inj ey3
      exact ow_nil (jy 4 0)
    · have ey3 := cond_f ey3 hy3
      refine oO rfl hy3 rfl (oO rfl hy3 rfl (oO rfl hy3 rfl (oD (stp_pick_f rfl hy3 rfl) rfl ?_)))
      obtain rfl := Option.some.inj ey3
      exact ow_nil (jy 4 0)
  · refine oD (sg rfl) rfl (nn (cw_ret ?_))
    have q0 := Option.some.inj H0
    subst q0
    exact kw_ret Tryd.results34 (.cons (.tmp rfl) .nil) [] [] trivial (by decide) ⟨rfl, rfl⟩

set_option maxHeartbeats 4000000 in
set_option maxRecDepth 20000 in
theorem c_s_RightsValid (fl : Nat) (w : World) (a0 : Int) (r : Bool) (H0 : s_RightsValid fl a0 = some r) :
    Ct Tryd.prog 35 [.int .i64 a0] w [] (fun rv h' => rv = .bool r ∧ h' = []) := by
  unfold s_RightsValid at H0
  refine ct_of_cw Tryd.func35 rfl Tryd.ntmps35 rfl (Sat.refl _ _) ?_
  obtain ⟨y1, ey1, H0⟩ := bind_some H0
  refine sr (oD (sg rfl) rfl (nn (sr (oD (mv rfl) rfl (oD (stp_geq rfl rfl) rfl (oD (mv rfl) rfl (ow_cutY 3 8 y1 ?_ ?_)))))))
  · rcases Bool.eq_false_or_eq_true (decide (0 ≤ a0)) with hy1 | hy1
    · have ey1 := cond_t ey1 hy1
      refine oG rfl hy1 (mv rfl) rfl (oG rfl hy1 (stp_leq rfl rfl) rfl (oD (stp_pick_t rfl hy1 rfl) rfl ?_))
      obtain rfl := Option.some.inj ey1
      exact ow_nil (jy 3 0)
    · have ey1 := cond_f ey1 hy1
      refine oO rfl hy1 rfl (oO rfl hy1 rfl (oD (stp_pick_f rfl hy1 rfl) rfl ?_))
      obtain rfl := Option.some.inj ey1
      exact ow_nil (jy 3 0)
  · refine oD (sg rfl) rfl (nn (cw_ret ?_))
    have q0 := Option.some.inj H0
    subst q0
    exact kw_ret Tryd.results35 (.cons (.tmp rfl) .nil) [] [] trivial (by decide) ⟨rfl, rfl⟩

set_option maxHeartbeats 4000000 in
set_option maxRecDepth 20000 in
theorem c_s_l2Hash (fl : Nat) (w : World) (a0 : K) (a1 : Int) (r : Int) (H0 : s_l2Hash fl a0 a1 = some r) :
    Ct Tryd.prog 65 [.agg #[.int .i64 a0.s, .int .i64 a0.p], .int .i64 a1] w [] (fun rv h' => rv = .int .i64 r ∧ h' = []) := by
  unfold s_l2Hash at H0
  refine ct_of_cw Tryd.func65 rfl Tryd.ntmps65 rfl (Sat.refl _ _) ?_
  refine sr (oE (stpU_box 0 rfl rfl) rfl ?_)
  rintro _ _ ⟨b1, rfl, rfl⟩
  obtain ⟨x2, e2, H0⟩ := bind_some H0
  obtain ⟨x3, e3, H0⟩ := bind_some H0
  obtain ⟨x4, e4, H0⟩ := bind_some H0
  refine oD (sg rfl) rfl (nn (sr (oD (fA 0 Tryd.underlying28 rfl ts3 rfl rfl rfl) rfl (oD (lB 0 ts3 rfl rfl rfl) rfl (oD (stp_mul rfl rfl e2) rfl (oD (fA 1 Tryd.underlying28 rfl ts3 rfl rfl rfl) rfl (oD (lB 0 ts3 rfl rfl rfl) rfl (oD (stp_add rfl rfl e3) rfl (oD (sg rfl) rfl (nn (sr (oD (mv rfl) rfl (oD (stp_mul rfl rfl e4) rfl ?_)))))))))))))
  obtain ⟨x5, e5, H0⟩ := bind_some H0
  obtain ⟨x6, e6, H0⟩ := bind_some H0
  obtain ⟨x7, e7, H0⟩ := bind_some H0
  refine oD (stp_rem rfl rfl e5) rfl (oD (mv rfl) rfl (oD (stp_mul rfl rfl e6) rfl (oD (stp_quo rfl rfl e7) rfl (oD (sg rfl) rfl (nn (cw_ret ?_))))))
  have q0 := Option.some.inj H0
  subst q0
  exact kw_ret Tryd.results65 (.cons (.tmp rfl) .nil) [] [] trivial (by decide) ⟨rfl, rfl⟩

set_option maxHeartbeats 4000000 in
set_option maxRecDepth 20000 in
theorem c_s_l3Chain (fl : Nat) (w : World) (a0 : T) (p0_0 : Option Addr) (n0_0 c0_0 : Nat) (p0_1 : Option Addr) (n0_1 c0_1 : Nat) (a1 : Int) (hn0_0 : n0_0 = (a0.b).length) (hr0_0 : RO w (hkeys []) (RdL p0_0 c0_0 a0.b)) (hn0_1 : n0_1 = (a0.f).length) (hr0_1 : RO w (hkeys []) (RdL p0_1 c0_1 a0.f)) (r : (List Int) × Bool) (H0 : s_l3Chain fl a0 a1 = some r) :
    Ct Tryd.prog 64 [.agg #[.slice p0_0 n0_0 c0_0, .slice p0_1 n0_1 c0_1], .int .i64 a1] w [] (fun rv h' => ∃ (x0 : Option Addr) (y0 z0 : Nat) (C0 : Res), rv = .tuple #[.slice x0 y0 z0, .bool r.2] ∧ h' = [(0, C0)] ∧ y0 = (r.1).length ∧ OwnC 3 x0 z0 r.1 C0) := by
  obtain rfl := hn0_0
  obtain rfl := hn0_1
  unfold s_l3Chain at H0
  refine ct_of_cw Tryd.func64 rfl Tryd.ntmps64 rfl (Sat.refl _ _) ?_
  refine sr (oE (stpU_box 0 rfl rfl) rfl ?_)
  rintro _ _ ⟨b1, rfl, rfl⟩
  refine oD (sg rfl) rfl (oD (sg rfl) rfl (nn (sr (oE (stpU_lit0 sl23 1) rfl ?_))))
  rintro _ _ ⟨p2, C3, rfl, rfl, o3⟩
  obtain ⟨x4, e4, H0⟩ := bind_some H0
  obtain ⟨o0_0, eo0_0, H0⟩ := bind_some H0
  refine oD (sg rfl) rfl (nn (sr (oD (fA 0 Tryd.underlying26 rfl ts23 rfl rfl rfl) rfl (oD (lB 0 ts23 rfl rfl rfl) rfl (oD (mv rfl) rfl (oD (stp_indexAddr Tryd.underlying23 ts3 (by decide) rfl rfl rfl (Rdb.ro hr0_0) e4) rfl (oD (stp_load1 ts3 rfl (Cells.el (Rdb.ro hr0_0) (by decide) e4 0 1 rfl)) rfl (oD (sg rfl) rfl (nn (cw_seq (cw_join (ι := (List Int) × Int × Option Addr × Nat × Nat × Res) (fun | (v5, v10, p6, n7, c8, C9) => o0_0 = .out (v5, v10) ∧ n7 = (v5).length ∧ OwnC (α := Int) 3 p6 c8 v5 C9) (fun | (v5, v10, p6, n7, c8, C9) => [(2, .pointer (some ⟨b1, 0, none⟩)), (6, .slice p6 n7 c8), (7, .int .i64 v10)]) (fun | (v5, v10, p6, n7, c8, C9) => [(0, [(b1, .cells #[.slice p0_0 ((a0.b).length) c0_0, .slice p0_1 ((a0.f).length) c0_1] 26 (0, 0))]), (1, C9)]) ?_ ?_)))))))))))
  · refine cw_block (cw_loopS (ι := Nat × (List Int) × Int × Option Addr × Nat × Nat × Res) (js := [0, 1]) (fun x => x.1) (fun | (fuel, v5, v10, p6, n7, c8, C9) => s_l3Chain_L0 fl a0 fuel v5 v10 = some o0_0 ∧ n7 = (v5).length ∧ OwnC (α := Int) 3 p6 c8 v5 C9) (fun | (_, v5, v10, p6, n7, c8, C9) => [(2, .pointer (some ⟨b1, 0, none⟩)), (6, .slice p6 n7 c8), (7, .int .i64 v10)]) (fun | (_, v5, v10, p6, n7, c8, C9) => [(0, [(b1, .cells #[.slice p0_0 ((a0.b).length) c0_0, .slice p0_1 ((a0.f).length) c0_1] 26 (0, 0))]), (1, C9)]) (fl, ([] : List Int), x4, p2, 0, 0, C3) ⟨eo0_0, (by simp), o3⟩ ⟨rfl, rfl, rfl, trivial⟩ ⟨0, [1], rfl, rfl, 1, [], rfl, rfl, trivial⟩ (by decide) ?_)
    rintro ⟨fuel, v5, v10, p6, n7, c8, C9⟩ ⟨H1, hnn7, o9⟩
    obtain rfl := hnn7
    have H1 : s_l3Chain_L0 fl a0 fuel v5 v10 = some o0_0 := H1
    rcases fuel with _ | fuel
    · rw [s_l3Chain_L0.eq_1] at H1; cases H1
    rw [s_l3Chain_L0.eq_2] at H1
    refine CW.sub (s' := [(2, .pointer (some ⟨b1, 0, none⟩)), (6, .slice p6 ((v5).length) c8), (7, .int .i64 v10)]) (h' := [(0, [(b1, .cells #[.slice p0_0 ((a0.b).length) c0_0, .slice p0_1 ((a0.f).length) c0_1] 26 (0, 0))]), (1, C9)]) ?_ ⟨rfl, rfl, rfl, trivial⟩ ⟨rfl, rfl, trivial⟩
    refine cw_seq (sr (oD (mv rfl) rfl (oD (stp_neq rfl rfl) rfl (nn (cw_cond rfl (fun h11 => ?_) (fun h11 => ?_))))))
    · have H1 := cond_t H1 h11
      obtain ⟨y12, ey12, H1⟩ := bind_some H1
      refine cw_skip (kw_nx (cw_block (cw_seq (sr (oD (mv rfl) rfl (oD (stp_lss rfl rfl) rfl (oD (mv rfl) rfl (ow_cutY 6 24 y12 ?_ ?_))))))))
      · rcases Bool.eq_false_or_eq_true (decide (v10 < 0)) with hy12 | hy12
        · have ey12 := cond_t ey12 hy12
          refine oO rfl hy12 rfl (oO rfl hy12 rfl (oO rfl hy12 rfl (oO rfl hy12 rfl (oO rfl hy12 rfl (oD (stp_pick_t rfl hy12 rfl) rfl ?_)))))
          obtain rfl := Option.some.inj ey12
          exact ow_nil (jy 6 0)
        · have ey12 := cond_f ey12 hy12
          refine oG rfl hy12 (mv rfl) rfl (oG rfl hy12 (fA 1 Tryd.underlying26 rfl ts24 rfl rfl rfl) rfl (oG rfl hy12 (lB 0 ts24 rfl rfl rfl) rfl (oG rfl hy12 (stp_len Tryd.underlying24 rfl) rfl (oG rfl hy12 (stp_geq rfl rfl) rfl (oD (stp_pick_f rfl hy12 rfl) rfl ?_)))))
          obtain rfl := Option.some.inj ey12
          exact ow_nil (jy 6 0)
      · obtain ⟨y13, ey13, H1⟩ := bind_some H1
        refine oD (mv rfl) rfl (ow_cutY 7 32 y13 ?_ ?_)
        · rcases Bool.eq_false_or_eq_true y12 with hy13 | hy13
          · have ey13 := cond_t ey13 hy13
            refine oO rfl hy13 rfl (oO rfl hy13 rfl (oO rfl hy13 rfl (oO rfl hy13 rfl (oO rfl hy13 rfl (oO rfl hy13 rfl (oD (stp_pick_t rfl hy13 rfl) rfl ?_))))))
            obtain rfl := Option.some.inj ey13
            exact ow_nil (jy 7 0)
          · have ey13 := cond_f ey13 hy13
            refine oG rfl hy13 (mv rfl) rfl (oG rfl hy13 (stp_len Tryd.underlying23 rfl) rfl (oG rfl hy13 (fA 1 Tryd.underlying26 rfl ts24 rfl rfl rfl) rfl (oG rfl hy13 (lB 0 ts24 rfl rfl rfl) rfl (oG rfl hy13 (stp_len Tryd.underlying24 rfl) rfl (oG rfl hy13 (stp_geq rfl rfl) rfl (oD (stp_pick_f rfl hy13 rfl) rfl ?_))))))
            obtain rfl := Option.some.inj ey13
            exact ow_nil (jy 7 0)
        · obtain ⟨y14, ey14, H1⟩ := bind_some H1
          refine oD (mv rfl) rfl (ow_cutY 8 41 y14 ?_ ?_)
          · rcases Bool.eq_false_or_eq_true y13 with hy14 | hy14
            · have ey14 := cond_t ey14 hy14
              refine oO rfl hy14 rfl (oO rfl hy14 rfl (oO rfl hy14 rfl (oO rfl hy14 rfl (oO rfl hy14 rfl (oO rfl hy14 rfl (oO rfl hy14 rfl (oD (stp_pick_t rfl hy14 rfl) rfl ?_)))))))
              obtain rfl := Option.some.inj ey14
              exact ow_nil (jy 8 0)
            · have ey14 := cond_f ey14 hy14
              obtain ⟨x15, e15, ey14⟩ := bind_some ey14
              refine oG rfl hy14 (fA 1 Tryd.underlying26 rfl ts24 rfl rfl rfl) rfl (oG rfl hy14 (lB 0 ts24 rfl rfl rfl) rfl (oG rfl hy14 (mv rfl) rfl (oG rfl hy14 (stp_indexAddr Tryd.underlying24 ts58 (by decide) rfl rfl rfl (Rdb.ro hr0_1) e15) rfl (oG rfl hy14 (fA 0 Tryd.underlying58 rfl ts4 rfl rfl rfl) rfl (oG rfl hy14 (stp_load1 ts4 rfl (Cells.el (Rdb.ro hr0_1) (by decide) e15 0 1 rfl)) rfl (oG rfl hy14 (stp_not rfl) rfl (oD (stp_pick_f rfl hy14 rfl) rfl ?_)))))))
              obtain rfl := Option.some.inj ey14
              exact ow_nil (jy 8 0)
          · refine ow_nil (kw_nx (cw_cond rfl (fun h16 => ?_) (fun h16 => ?_)))
            · have H1 := cond_t H1 h16
              refine sr (oD (mv rfl) rfl (oD (sg rfl) rfl (oD (sg rfl) rfl (nn (cw_ret (kw_nx_ret (kw_bl_ret (kw_lq_ret (kw_bl_ret (kw_join_ret (kw_nx_ret ?_)))))))))))
              have q1 := Option.some.inj H1
              subst q1
              have q0 := Option.some.inj H0
              subst q0
              exact kw_ret Tryd.results64 (.cons (.tmp rfl) (.cons (.tmp rfl) .nil)) [(0, C9)] [1] ⟨1, [], rfl, rfl, trivial⟩ (by decide) ⟨p6, ((v5).length), c8, C9, rfl, rfl, rfl, o9⟩
            · have H1 := cond_f H1 h16
              refine cw_skip (kw_nx (sr (oD (mv rfl) rfl (oD (mv rfl) rfl (oE (stpU_lit (sz := 1) (l := [v10]) [.int .i64 v10] sl23 2 (sevp_cons rfl sevp_nil) rfl rfl rfl rfl rfl rfl rfl rfl rfl) rfl ?_)))))
              rintro _ _ ⟨p17, C18, rfl, rfl, o18⟩
              obtain ⟨x19, e19, H1⟩ := bind_some H1
              refine oE (stpU_append sl23 rfl (id := 1) rfl rfl rfl (by simp) rfl o9 (Rdb.own (id := 2) rfl o18) e19) rfl ?_
              rintro _ _ ⟨p20, c21, C22, rfl, rfl, o22⟩
              obtain ⟨x23, e23, H1⟩ := bind_some H1
              exact oD (sg rfl) rfl (nn (cw_region (oD (fA 1 Tryd.underlying26 rfl ts24 rfl rfl rfl) rfl (oD (lB 0 ts24 rfl rfl rfl) rfl (oD (mv rfl) rfl (oD (stp_indexAddr Tryd.underlying24 ts58 (by decide) rfl rfl rfl (Rdb.ro hr0_1) e23) rfl (oD (fA 4 Tryd.underlying58 rfl ts3 rfl rfl rfl) rfl (oD (stp_load1 ts3 rfl (Cells.el (Rdb.ro hr0_1) (by decide) e23 4 1 rfl)) rfl (oD (sg rfl) rfl (ow_nil (kw_bl_normal (kw_lqS (js := [0, 1]) (fuel, x19, x23.nx, p20, ((x19).length), c21, C22) ⟨H1, rfl, o22⟩ (Nat.lt_succ_self _) ⟨rfl, rfl, rfl, trivial⟩ ⟨0, [1], rfl, rfl, 1, [], rfl, rfl, trivial⟩ (by decide)))))))))))))
    · have H1 := cond_f H1 h11
      refine cw_exit (kw_nx_exit (kw_lq_exit (kw_bl ?_)))
      have q1 := Option.some.inj H1
      subst q1
      exact kw_joinS (js := [0, 1]) (v5, v10, p6, ((v5).length), c8, C9) ⟨rfl, rfl, o9⟩ ⟨rfl, rfl, rfl, trivial⟩ ⟨0, [1], rfl, rfl, 1, [], rfl, rfl, trivial⟩ (by decide)
  · rintro ⟨v5, v10, p6, n7, c8, C9⟩ ⟨rfl, hnn7, o9⟩
    obtain rfl := hnn7
    refine KW.sub (s' := [(2, .pointer (some ⟨b1, 0, none⟩)), (6, .slice p6 ((v5).length) c8), (7, .int .i64 v10)]) (h' := [(0, [(b1, .cells #[.slice p0_0 ((a0.b).length) c0_0, .slice p0_1 ((a0.f).length) c0_1] 26 (0, 0))]), (1, C9)]) ?_ ⟨rfl, rfl, rfl, trivial⟩ ⟨rfl, rfl, trivial⟩
    refine kw_nx (sr (oD (mv rfl) rfl (oD (sg rfl) rfl (oD (sg rfl) rfl (nn (cw_ret ?_))))))
    have q0 := Option.some.inj H0
    subst q0
    exact kw_ret Tryd.results64 (.cons (.tmp rfl) (.cons (.tmp rfl) .nil)) [(0, C9)] [1] ⟨1, [], rfl, rfl, trivial⟩ (by decide) ⟨p6, ((v5).length), c8, C9, rfl, rfl, rfl, o9⟩

set_option maxHeartbeats 4000000 in
set_option maxRecDepth 20000 in
theorem c_s_l3Find (fl : Nat) (w : World) (a0 : T) (p0_0 : Option Addr) (n0_0 c0_0 : Nat) (p0_1 : Option Addr) (n0_1 c0_1 : Nat) (a1 : K) (hn0_0 : n0_0 = (a0.b).length) (hr0_0 : RO w (hkeys []) (RdL p0_0 c0_0 a0.b)) (hn0_1 : n0_1 = (a0.f).length) (hr0_1 : RO w (hkeys []) (RdL p0_1 c0_1 a0.f)) (r : Int × Int) (H0 : s_l3Find fl a0 a1 = some r) :
    Ct Tryd.prog 36 [.agg #[.slice p0_0 n0_0 c0_0, .slice p0_1 n0_1 c0_1], .agg #[.int .i64 a1.s, .int .i64 a1.p]] w [] (fun rv h' => rv = .tuple #[.int .i64 r.1, .int .i64 r.2] ∧ h' = []) := by
  obtain rfl := hn0_0
  obtain rfl := hn0_1
  unfold s_l3Find at H0
  refine ct_of_cw Tryd.func36 rfl Tryd.ntmps36 rfl (Sat.refl _ _) ?_
  refine sr (oE (stpU_box 0 rfl rfl) rfl ?_)
  rintro _ _ ⟨b1, rfl, rfl⟩
  refine oE (stpU_box 1 rfl rfl) rfl ?_
  rintro _ _ ⟨b2, rfl, rfl⟩
  obtain ⟨x3, e3, H0⟩ := bind_some H0
  obtain ⟨x4, e4, H0⟩ := bind_some H0
  refine oD (sg rfl) rfl (oD (sg rfl) rfl (nn (cw_seq (rdr g_mixed [2, 3] [0, 1] { dst := dS [11, 12, 13, 14, 15, 16, 17, 10, 18, 19, 7, 8], pre := gA [] [[], [], [], [2], [2, 3], rn 1 4, rn 0 6, rn 0 7, rn 0 8, rn 0 8, rn 0 9, rn 0 11], ids := gA [] [[], [], [], [], [], [], [2]], rs := rL [[(2, 0)], [(3, 0)], [(2, 0)], [(12, 3)], [(13, 4)], [(11, 2), (14, 5)], [(10, 1), (15, 6)], [(16, 7)], [(9, 8)], [(9, 8)], [(17, 9)], [(18, 10)]], rh := rL [[(0, 0)], [(1, 0)], [], [(0, 0)]], V := fun i g => gA undef [.agg #[.slice p0_0 ((a0.b).length) c0_0, .slice p0_1 ((a0.f).length) c0_1], .agg #[.int .i64 a1.s, .int .i64 a1.p], .pointer (some ⟨b1, 0, none⟩), .slice p0_0 ((a0.b).length) c0_0, .int .i64 ((a0.b).length : Int), .int .i64 x3, .tuple #[.slice ((g 6).A 0) ((x4.1).length) ((g 6).C 0), .bool x4.2], .tuple #[.slice ((g 6).A 0) ((x4.1).length) ((g 6).C 0), .bool x4.2], .slice ((g 6).A 0) ((x4.1).length) ((g 6).C 0), .bool x4.2, .slice ((g 6).A 0) ((x4.1).length) ((g 6).C 0), .bool x4.2] i, U := fun i g => match i with | 6 => [(2, ((g 6).R 0))] | _ => [], Φ := fun i x => match i with | 6 => OwnC (α := Int) 3 (x.A 0) (x.C 0) x4.1 (x.R 0) | _ => True } ?_ ?_))))
  · refine ⟨⟨⟨⟨⟨⟨⟨⟨⟨⟨⟨⟨trivial, lc rfl rfl fun hs hh => stp_loadN (us := [_, _]) ts26 (sv hs 2 rfl) (Cells.box (id := 0) (hh.get 0 _ rfl) 2 rfl)⟩, lc rfl rfl fun hs hh => stp_loadN (us := [_, _]) ts28 (sv hs 3 rfl) (Cells.box (id := 1) (hh.get 1 _ rfl) 2 rfl)⟩, lc rfl rfl fun hs hh => stp_fieldAddr (j := 0) Tryd.underlying26 rfl ts23 rfl (sv hs 2 rfl) rfl⟩, lc rfl rfl fun hs hh => stp_load1 ts23 (sv hs 12 rfl) (Cells.box (id := 0) (hh.get 0 _ rfl) 1 rfl)⟩, lc rfl rfl fun hs hh => stp_len Tryd.underlying23 (sv hs 13 rfl)⟩, ?_⟩, ?_⟩, lc rfl rfl fun hs hh => stp_move (sv hs 16 rfl)⟩, lc rfl rfl fun hs hh => stp_extract (sv hs 9 rfl) rfl⟩, lc rfl rfl fun hs hh => stp_extract (sv hs 9 rfl) rfl⟩, lc rfl rfl fun hs hh => stp_assign (sv hs 17 rfl)⟩, lc rfl rfl fun hs hh => stp_assign (sv hs 18 rfl)⟩
    · refine le rfl rfl (fun g hΦ s h hs hh => (stpU_call (fun i => 2 + i) cf65 (fun w hw => c_s_l2Hash fl w a1 ((a0.b).length : Int) x3 e3) (sevs_cons (sv hs 11 rfl) (sevs_cons (sv hs 14 rfl) sevs_nil)))) ?_
      rintro g _ _ ⟨_, ⟨rfl, rfl⟩, rfl⟩
      exact ⟨⟨[], [], []⟩, trivial, .inr rfl, rfl⟩
    · refine le rfl rfl (fun g hΦ s h hs hh => (stpU_call (fun i => 2 + i) cf64 (fun w hw => c_s_l3Chain fl w a0 p0_0 ((a0.b).length) c0_0 p0_1 ((a0.f).length) c0_1 x3 rfl (RO.pass hr0_0 hw) rfl (RO.pass hr0_1 hw) x4 e4) (sevs_cons (sv hs 10 rfl) (sevs_cons (sv hs 15 rfl) sevs_nil)))) ?_
      rintro g _ _ ⟨_, ⟨p5, n6, c7, C8, rfl, rfl, hnn6, o8⟩, rfl⟩
      obtain rfl := hnn6
      exact ⟨⟨[p5], [c7], [C8]⟩, o8, .inr rfl, rfl⟩
  · intro g hΦ
    refine kw_gen (ι := Option Addr × Nat × Res) (((g 6).A 0), ((g 6).C 0), ((g 6).R 0)) (fun | (p5, c7, C8) => OwnC (α := Int) 3 p5 c7 x4.1 C8) (fun | (p5, c7, C8) => [(2, .pointer (some ⟨b1, 0, none⟩)), (3, .pointer (some ⟨b2, 0, none⟩)), (6, .slice p5 ((x4.1).length) c7)]) (fun | (p5, c7, C8) => [(0, [(b1, .cells #[.slice p0_0 ((a0.b).length) c0_0, .slice p0_1 ((a0.f).length) c0_1] 26 (0, 0))]), (1, [(b2, .cells #[.int .i64 a1.s, .int .i64 a1.p] 28 (0, 0))]), (2, C8)]) (hΦ 6 (by decide)) ⟨rfl, rfl, rfl, trivial⟩ ⟨rfl, rfl, rfl, trivial⟩ ?_
    rintro ⟨p5, c7, C8⟩ o8
    have o8 : OwnC (α := Int) 3 p5 c7 x4.1 C8 := o8
    refine KW.sub (s' := [(2, .pointer (some ⟨b1, 0, none⟩)), (3, .pointer (some ⟨b2, 0, none⟩)), (6, .slice p5 ((x4.1).length) c7)]) (h' := [(0, [(b1, .cells #[.slice p0_0 ((a0.b).length) c0_0, .slice p0_1 ((a0.f).length) c0_1] 26 (0, 0))]), (1, [(b2, .cells #[.int .i64 a1.s, .int .i64 a1.p] 28 (0, 0))]), (2, C8)]) ?_ ⟨rfl, rfl, rfl, trivial⟩ ⟨rfl, rfl, rfl, trivial⟩
    obtain ⟨o0_0, eo0_0, H0⟩ := bind_some H0
    refine kw_nx (cw_seq (sr (oD (sg rfl) rfl (nn (cw_join (ι := Int) (fun | v9 => o0_0 = .out v9) (fun | v9 => [(2, .pointer (some ⟨b1, 0, none⟩)), (3, .pointer (some ⟨b2, 0, none⟩)), (6, .slice p5 ((x4.1).length) c7), (8, .int .i64 v9)]) (fun | v9 => [(0, [(b1, .cells #[.slice p0_0 ((a0.b).length) c0_0, .slice p0_1 ((a0.f).length) c0_1] 26 (0, 0))]), (1, [(b2, .cells #[.int .i64 a1.s, .int .i64 a1.p] 28 (0, 0))]), (2, C8)]) ?_ ?_)))))
    · refine cw_block (cw_loopS (ι := Nat × Int) (js := [0, 1, 2]) (fun x => x.1) (fun | (fuel, v9) => s_l3Find_L0 fl a0 a1 x4 fuel v9 = some o0_0) (fun | (_, v9) => [(2, .pointer (some ⟨b1, 0, none⟩)), (3, .pointer (some ⟨b2, 0, none⟩)), (6, .slice p5 ((x4.1).length) c7), (8, .int .i64 v9)]) (fun | (_, v9) => [(0, [(b1, .cells #[.slice p0_0 ((a0.b).length) c0_0, .slice p0_1 ((a0.f).length) c0_1] 26 (0, 0))]), (1, [(b2, .cells #[.int .i64 a1.s, .int .i64 a1.p] 28 (0, 0))]), (2, C8)]) (fl, 0) eo0_0 ⟨rfl, rfl, rfl, rfl, trivial⟩ ⟨0, [1, 2], rfl, rfl, 1, [2], rfl, rfl, 2, [], rfl, rfl, trivial⟩ (by decide) ?_)
      rintro ⟨fuel, v9⟩ H1
      have H1 : s_l3Find_L0 fl a0 a1 x4 fuel v9 = some o0_0 := H1
      rcases fuel with _ | fuel
      · rw [s_l3Find_L0.eq_1] at H1; cases H1
      rw [s_l3Find_L0.eq_2] at H1
      refine CW.sub (s' := [(2, .pointer (some ⟨b1, 0, none⟩)), (3, .pointer (some ⟨b2, 0, none⟩)), (6, .slice p5 ((x4.1).length) c7), (8, .int .i64 v9)]) (h' := [(0, [(b1, .cells #[.slice p0_0 ((a0.b).length) c0_0, .slice p0_1 ((a0.f).length) c0_1] 26 (0, 0))]), (1, [(b2, .cells #[.int .i64 a1.s, .int .i64 a1.p] 28 (0, 0))]), (2, C8)]) ?_ ⟨rfl, rfl, rfl, rfl, trivial⟩ ⟨rfl, rfl, rfl, trivial⟩
      refine cw_seq (sr (oD (mv rfl) rfl (oD (mv rfl) rfl (oD (stp_len Tryd.underlying23 rfl) rfl (oD (stp_lss rfl rfl) rfl (nn (cw_cond rfl (fun h10 => ?_) (fun h10 => ?_))))))))
      · have H1 := cond_t H1 h10
        obtain ⟨x11, e11, H1⟩ := bind_some H1
        obtain ⟨x12, e12, H1⟩ := bind_some H1
        refine cw_skip (kw_nx (cw_seq (cw_block (cw_seq (rdr g_mixed [2, 3, 6, 8] [0, 1, 2] { dst := dS [26, 27, 28, 29, 30, 31, 32, 33, 34, 35, 36], pre := gA [] [[], [0], [], [], [2, 3], [2, 3, 4], rn 0 6, rn 0 7, rn 0 8, [], rn 0 10], ids := fun _ => [], rs := rL [[(2, 0)], [(25, 1)], [(6, 0)], [(8, 0)], [(27, 3), (28, 4)], [(29, 5)], [(26, 2), (30, 6)], [(31, 7)], [(32, 8)], [(3, 0)], [(33, 9), (34, 10)]], rh := rL [[], [(0, 0)], [], [], [(2, 0)], [(2, 0)], [], [], [], [(1, 0)]], V := fun i g => gA undef [.pointer (some ⟨b1, 1, none⟩), .slice p0_1 ((a0.f).length) c0_1, .slice p5 ((x4.1).length) c7, .int .i64 v9, .pointer (some ⟨eB p5, eO p5 + Int.toNat v9 * Enc.sz Int + 0, none⟩), .int .i64 x11, .pointer (some ⟨eB p0_1, eO p0_1 + Int.toNat x11 * Enc.sz F + 0, none⟩), .pointer (some ⟨eB p0_1, eO p0_1 + Int.toNat x11 * Enc.sz F + 1, none⟩), .agg #[.int .i64 x12.k.s, .int .i64 x12.k.p], .agg #[.int .i64 a1.s, .int .i64 a1.p], .bool (x12.k == a1)] i, U := fun _ _ => [], Φ := fun _ _ => True } ?_ ?_)))))
        · exact ⟨⟨⟨⟨⟨⟨⟨⟨⟨⟨⟨trivial, lc rfl rfl fun hs hh => stp_fieldAddr (j := 1) Tryd.underlying26 rfl ts24 rfl (sv hs 2 rfl) rfl⟩, lc rfl rfl fun hs hh => stp_load1 ts24 (sv hs 25 rfl) (Cells.box (id := 0) (hh.get 0 _ rfl) 1 rfl)⟩, lc rfl rfl fun hs hh => stp_move (sv hs 6 rfl)⟩, lc rfl rfl fun hs hh => stp_move (sv hs 8 rfl)⟩, lc rfl rfl fun hs hh => stp_indexAddr Tryd.underlying23 ts3 (by decide) (sv hs 27 rfl) rfl (sv hs 28 rfl) (Rdb.own (id := 2) (hh.get 2 _ rfl) o8) e11⟩, lc rfl rfl fun hs hh => stp_load1 ts3 (sv hs 29 rfl) (Cells.el (Rdb.own (id := 2) (hh.get 2 _ rfl) o8) (by decide) e11 0 1 rfl)⟩, lc rfl rfl fun hs hh => stp_indexAddr Tryd.underlying24 ts58 (by decide) (sv hs 26 rfl) rfl (sv hs 30 rfl) (Rdb.ro hr0_1) e12⟩, lc rfl rfl fun hs hh => stp_fieldAddr (j := 1) Tryd.underlying58 rfl ts28 rfl (sv hs 31 rfl) rfl⟩, lc rfl rfl fun hs hh => stp_loadN (us := [_, _]) ts28 (sv hs 32 rfl) (Cells.el (Rdb.ro hr0_1) (by decide) e12 1 2 rfl)⟩, lc rfl rfl fun hs hh => stp_loadN (us := [_, _]) ts28 (sv hs 3 rfl) (Cells.box (id := 1) (hh.get 1 _ rfl) 2 rfl)⟩, lc rfl rfl fun hs hh => stp_eqlS te28 x12.k a1 (sv hs 33 rfl) (sv hs 34 rfl)⟩
        · intro g hΦ
          refine KW.sub (s' := [(2, .pointer (some ⟨b1, 0, none⟩)), (3, .pointer (some ⟨b2, 0, none⟩)), (6, .slice p5 ((x4.1).length) c7), (8, .int .i64 v9), (35, .bool (x12.k == a1))]) (h' := [(0, [(b1, .cells #[.slice p0_0 ((a0.b).length) c0_0, .slice p0_1 ((a0.f).length) c0_1] 26 (0, 0))]), (1, [(b2, .cells #[.int .i64 a1.s, .int .i64 a1.p] 28 (0, 0))]), (2, C8)]) ?_ ⟨rfl, rfl, rfl, rfl, rfl, trivial⟩ ⟨rfl, rfl, rfl, trivial⟩
          refine kw_nx (cw_cond rfl (fun h13 => ?_) (fun h13 => ?_))
          · have H1 := cond_t H1 h13
            obtain ⟨x14, e14, H1⟩ := bind_some H1
            refine sr (oD (mv rfl) rfl (oD (mv rfl) rfl (oD (stp_indexAddr Tryd.underlying23 ts3 (by decide) rfl rfl rfl (Rdb.own (id := 2) rfl o8) e11) rfl (oD (stp_load1 ts3 rfl (Cells.el (Rdb.own (id := 2) rfl o8) (by decide) e11 0 1 rfl)) rfl (oD (mv rfl) rfl (oD (stp_add rfl rfl e14) rfl (oD (sg rfl) rfl (oD (sg rfl) rfl (nn (cw_ret (kw_bl_ret (kw_nx_ret (kw_lq_ret ?_)))))))))))))
            refine kw_bl_ret (kw_join_ret (kw_nx_ret ?_))
            have q1 := Option.some.inj H1
            subst q1
            have q0 := Option.some.inj H0
            subst q0
            exact kw_ret Tryd.results36 (.cons (.tmp rfl) (.cons (.tmp rfl) .nil)) [] [] trivial (by decide) ⟨rfl, rfl⟩
          · have H1 := cond_f H1 h13
            obtain ⟨x15, e15, H1⟩ := bind_some H1
            exact cw_skip (kw_bl_normal (kw_nx (cw_region (oD (mv rfl) rfl (oD (stp_add rfl rfl e15) rfl (oD (sg rfl) rfl (ow_nil (kw_lqS (js := [0, 1, 2]) (fuel, x15) H1 (Nat.lt_succ_self _) ⟨rfl, rfl, rfl, rfl, trivial⟩ ⟨0, [1, 2], rfl, rfl, 1, [2], rfl, rfl, 2, [], rfl, rfl, trivial⟩ (by decide)))))))))
      · have H1 := cond_f H1 h10
        refine cw_exit (kw_nx_exit (kw_lq_exit (kw_bl ?_)))
        have q1 := Option.some.inj H1
        subst q1
        exact kw_joinS (js := [0, 1, 2]) v9 rfl ⟨rfl, rfl, rfl, rfl, trivial⟩ ⟨0, [1, 2], rfl, rfl, 1, [2], rfl, rfl, 2, [], rfl, rfl, trivial⟩ (by decide)
    · rintro v9 rfl
      refine KW.sub (s' := [(2, .pointer (some ⟨b1, 0, none⟩)), (3, .pointer (some ⟨b2, 0, none⟩)), (6, .slice p5 ((x4.1).length) c7), (8, .int .i64 v9)]) (h' := [(0, [(b1, .cells #[.slice p0_0 ((a0.b).length) c0_0, .slice p0_1 ((a0.f).length) c0_1] 26 (0, 0))]), (1, [(b2, .cells #[.int .i64 a1.s, .int .i64 a1.p] 28 (0, 0))]), (2, C8)]) ?_ ⟨rfl, rfl, rfl, rfl, trivial⟩ ⟨rfl, rfl, rfl, trivial⟩
      refine kw_nx (sr (oD (mv rfl) rfl (oD (stp_len Tryd.underlying23 rfl) rfl (oD (sg rfl) rfl (oD (sg rfl) rfl (nn (cw_ret ?_)))))))
      have q0 := Option.some.inj H0
      subst q0
      exact kw_ret Tryd.results36 (.cons (.tmp rfl) (.cons (.tmp rfl) .nil)) [] [] trivial (by decide) ⟨rfl, rfl⟩

set_option maxHeartbeats 4000000 in
set_option maxRecDepth 20000 in
theorem c_s_l3Copy (fl : Nat) (w : World) (a0 : T) (p0_0 : Option Addr) (n0_0 c0_0 : Nat) (p0_1 : Option Addr) (n0_1 c0_1 : Nat) (hn0_0 : n0_0 = (a0.b).length) (hr0_0 : RO w (hkeys []) (RdL p0_0 c0_0 a0.b)) (hn0_1 : n0_1 = (a0.f).length) (hr0_1 : RO w (hkeys []) (RdL p0_1 c0_1 a0.f)) (r : T) (H0 : s_l3Copy fl a0 = some r) :
    Ct Tryd.prog 48 [.agg #[.slice p0_0 n0_0 c0_0, .slice p0_1 n0_1 c0_1]] w [] (fun rv h' => ∃ (x0 : Option Addr) (y0 z0 : Nat) (C0 : Res) (x1 : Option Addr) (y1 z1 : Nat) (C1 : Res), rv = .agg #[.slice x0 y0 z0, .slice x1 y1 z1] ∧ h' = [(0, C0), (1, C1)] ∧ y0 = (r.b).length ∧ OwnC 3 x0 z0 r.b C0 ∧ y1 = (r.f).length ∧ OwnC 58 x1 z1 r.f C1) := by
  obtain rfl := hn0_0
  obtain rfl := hn0_1
  unfold s_l3Copy at H0
  refine ct_of_cw Tryd.func48 rfl Tryd.ntmps48 rfl (Sat.refl _ _) ?_
  refine sr (oE (stpU_box 0 rfl rfl) rfl ?_)
  rintro _ _ ⟨b1, rfl, rfl⟩
  refine oE (stpU_alloc 1 tz26 rfl) rfl ?_
  rintro _ _ ⟨b2, rfl, rfl⟩
  obtain ⟨x5, e5, H0⟩ := bind_some H0
  obtain ⟨x11, e11, H0⟩ := bind_some H0
  refine nn (cw_seq (rdr g_mixed [1, 2] [0, 1] { dst := dS [4, 5, 6, 7, 8, 9, 10, 11, 12, 0], pre := gA [] [[], [], [1], [0, 1, 2], [], [], [5], rn 0 7, rn 0 8, rn 0 9], ids := gA [] [[2], [], [], [2], [3], [], [], [3], [], [1]], rs := rL [[], [(1, 0)], [(4, 2)], [(3, 1), (5, 3)], [], [(1, 0)], [(8, 6)], [(7, 5), (9, 7)], [(6, 4), (10, 8)], [(2, 0), (11, 9)]], rh := rL [[], [], [(0, 0)], [(2, 1)], [], [], [(0, 0)], [(3, 5)], [], [(1, 0)]], V := fun i g => gA undef [.slice ((g 0).A 0) 0 0, .pointer (some ⟨b1, 0, none⟩), .slice p0_0 ((a0.b).length) c0_0, .slice ((g 3).A 0) ((x5).length) ((g 3).C 0), .slice ((g 4).A 0) 0 0, .pointer (some ⟨b1, 1, none⟩), .slice p0_1 ((a0.f).length) c0_1, .slice ((g 7).A 0) ((x11).length) ((g 7).C 0), .agg #[.slice ((g 3).A 0) ((x5).length) ((g 3).C 0), .slice ((g 7).A 0) ((x11).length) ((g 7).C 0)]] i, U := fun i g => gA [] [[(2, ((g 0).R 0))], [], [], [(2, ((g 3).R 0))], [(3, ((g 4).R 0))], [], [], [(3, ((g 7).R 0))], [], [(1, [(b2, .cells #[.slice ((g 3).A 0) ((x5).length) ((g 3).C 0), .slice ((g 7).A 0) ((x11).length) ((g 7).C 0)] 26 (0, 0))])]] i, Φ := fun i x => gA True [OwnC (α := Int) 3 (x.A 0) 0 ([] : List Int) (x.R 0), True, True, OwnC (α := Int) 3 (x.A 0) (x.C 0) x5 (x.R 0), OwnC (α := F) 58 (x.A 0) 0 ([] : List F) (x.R 0), True, True, OwnC (α := F) 58 (x.A 0) (x.C 0) x11 (x.R 0)] i } ?_ ?_))
  · refine ⟨⟨⟨⟨⟨⟨⟨⟨⟨⟨trivial, ?_⟩, lc rfl rfl fun hs hh => stp_fieldAddr (j := 0) Tryd.underlying26 rfl ts23 rfl (sv hs 1 rfl) rfl⟩, lc rfl rfl fun hs hh => stp_load1 ts23 (sv hs 4 rfl) (Cells.box (id := 0) (hh.get 0 _ rfl) 1 rfl)⟩, ?_⟩, ?_⟩, lc rfl rfl fun hs hh => stp_fieldAddr (j := 1) Tryd.underlying26 rfl ts24 rfl (sv hs 1 rfl) rfl⟩, lc rfl rfl fun hs hh => stp_load1 ts24 (sv hs 8 rfl) (Cells.box (id := 0) (hh.get 0 _ rfl) 1 rfl)⟩, ?_⟩, ld rfl rfl fun g hΦ s h hs hh => stp_build (cs := #[.slice ((g 3).A 0) ((x5).length) ((g 3).C 0), .slice ((g 7).A 0) ((x11).length) ((g 7).C 0)]) (sevp_cons (sv hs 6 rfl) (sevp_cons (sv hs 10 rfl) sevp_nil)) bt26_3⟩, ?_⟩
    · refine le rfl rfl (fun g hΦ s h hs hh => (stpU_lit0 sl23 2)) ?_
      rintro g _ _ ⟨p3, C4, rfl, rfl, o4⟩
      exact ⟨⟨[p3], [], [C4]⟩, o4, .inr rfl, rfl⟩
    · refine le rfl rfl (fun g hΦ s h hs hh => (stpU_append sl23 rfl (id := 2) (sv hs 3 rfl) (by simp) (sv hs 5 rfl) rfl (hh.get 2 _ rfl) (hΦ 0 rfl) (Rdb.ro hr0_0) e5)) ?_
      rintro g _ _ ⟨p6, c7, C8, rfl, rfl, o8⟩
      exact ⟨⟨[p6], [c7], [C8]⟩, o8, .inr rfl, rfl⟩
    · refine le rfl rfl (fun g hΦ s h hs hh => (stpU_lit0 sl24 3)) ?_
      rintro g _ _ ⟨p9, C10, rfl, rfl, o10⟩
      exact ⟨⟨[p9], [], [C10]⟩, o10, .inr rfl, rfl⟩
    · refine le rfl rfl (fun g hΦ s h hs hh => (stpU_append sl24 rfl (id := 3) (sv hs 7 rfl) (by simp) (sv hs 9 rfl) rfl (hh.get 3 _ rfl) (hΦ 4 rfl) (Rdb.ro hr0_1) e11)) ?_
      rintro g _ _ ⟨p12, c13, C14, rfl, rfl, o14⟩
      exact ⟨⟨[p12], [c13], [C14]⟩, o14, .inr rfl, rfl⟩
    · refine le rfl rfl (fun g hΦ s h hs hh => (stpU_store (id := 1) (cs' := [.slice ((g 3).A 0) ((x5).length) ((g 3).C 0), .slice ((g 7).A 0) ((x11).length) ((g 7).C 0)]) ts26 (sv hs 2 rfl) (sv hs 11 rfl) (hh.get 1 _ rfl) rfl rfl rfl rfl)) ?_
      rintro g _ _ rfl
      exact ⟨⟨[], [], []⟩, trivial, .inl rfl, rfl⟩
  · intro g hΦ
    refine kw_gen (ι := Option Addr × Res × Option Addr × Nat × Res × Option Addr × Res × Option Addr × Nat × Res) (((g 0).A 0), ((g 0).R 0), ((g 3).A 0), ((g 3).C 0), ((g 3).R 0), ((g 4).A 0), ((g 4).R 0), ((g 7).A 0), ((g 7).C 0), ((g 7).R 0)) (fun | (p3, C4, p6, c7, C8, p9, C10, p12, c13, C14) => OwnC (α := Int) 3 p3 0 ([] : List Int) C4 ∧ OwnC (α := Int) 3 p6 c7 x5 C8 ∧ OwnC (α := F) 58 p9 0 ([] : List F) C10 ∧ OwnC (α := F) 58 p12 c13 x11 C14) (fun | (p3, C4, p6, c7, C8, p9, C10, p12, c13, C14) => [(2, .pointer (some ⟨b2, 0, none⟩))]) (fun | (p3, C4, p6, c7, C8, p9, C10, p12, c13, C14) => [(1, [(b2, .cells #[.slice p6 ((x5).length) c7, .slice p12 ((x11).length) c13] 26 (0, 0))]), (2, C8), (3, C14)]) ⟨(hΦ 0 (by decide)), (hΦ 3 (by decide)), (hΦ 4 (by decide)), (hΦ 7 (by decide))⟩ ⟨rfl, trivial⟩ ⟨rfl, rfl, rfl, trivial⟩ ?_
    rintro ⟨p3, C4, p6, c7, C8, p9, C10, p12, c13, C14⟩ ⟨o4, o8, o10, o14⟩
    refine KW.sub (s' := [(2, .pointer (some ⟨b2, 0, none⟩))]) (h' := [(1, [(b2, .cells #[.slice p6 ((x5).length) c7, .slice p12 ((x11).length) c13] 26 (0, 0))]), (2, C8), (3, C14)]) ?_ ⟨rfl, trivial⟩ ⟨rfl, rfl, rfl, trivial⟩
    refine kw_nx (cw_ret ?_)
    have q0 := Option.some.inj H0
    subst q0
    exact kw_ret Tryd.results48 (.cons (.cellN (us := [_, _]) ts26 rfl (Cells.box (id := 1) rfl 2 rfl)) .nil) [(0, C8), (1, C14)] [2, 3] ⟨2, [3], rfl, rfl, 3, [], rfl, rfl, trivial⟩ (by decide) ⟨p6, ((x5).length), c7, C8, p12, ((x11).length), c13, C14, rfl, rfl, rfl, o8, rfl, o14⟩

set_option maxHeartbeats 4000000 in
set_option maxRecDepth 20000 in
theorem c_s_l3Map (fl : Nat) (w : World) (a0 : T) (p0_0 : Option Addr) (n0_0 c0_0 : Nat) (p0_1 : Option Addr) (n0_1 c0_1 : Nat) (a1 : K) (a2 : Int) (a3 : Int) (hn0_0 : n0_0 = (a0.b).length) (hr0_0 : RO w (hkeys []) (RdL p0_0 c0_0 a0.b)) (hn0_1 : n0_1 = (a0.f).length) (hr0_1 : RO w (hkeys []) (RdL p0_1 c0_1 a0.f)) (r : T) (H0 : s_l3Map fl a0 a1 a2 a3 = some r) :
    Ct Tryd.prog 37 [.agg #[.slice p0_0 n0_0 c0_0, .slice p0_1 n0_1 c0_1], .agg #[.int .i64 a1.s, .int .i64 a1.p], .int .i64 a2, .int .i64 a3] w [] (fun rv h' => ∃ (x0 : Option Addr) (y0 z0 : Nat) (C0 : Res) (x1 : Option Addr) (y1 z1 : Nat) (C1 : Res), rv = .agg #[.slice x0 y0 z0, .slice x1 y1 z1] ∧ h' = [(0, C0), (1, C1)] ∧ y0 = (r.b).length ∧ OwnC 3 x0 z0 r.b C0 ∧ y1 = (r.f).length ∧ OwnC 58 x1 z1 r.f C1) := by
  obtain rfl := hn0_0
  obtain rfl := hn0_1
  unfold s_l3Map at H0
  refine ct_of_cw Tryd.func37 rfl Tryd.ntmps37 rfl (Sat.refl _ _) ?_
  refine sr (oE (stpU_box 0 rfl rfl) rfl ?_)
  rintro _ _ ⟨b1, rfl, rfl⟩
  refine oE (stpU_box 1 rfl rfl) rfl ?_
  rintro _ _ ⟨b2, rfl, rfl⟩
  refine oE (stpU_alloc 2 tz26 rfl) rfl ?_
  rintro _ _ ⟨b3, rfl, rfl⟩
  obtain ⟨x4, e4, H0⟩ := bind_some H0
  refine nn (sr (oD (stp_loadN (us := [_, _]) ts26 rfl (Cells.box (id := 0) rfl 2 rfl)) rfl (oE (stpU_call (fun i => 3 + i) cf48 (fun w hw => c_s_l3Copy fl w a0 p0_0 ((a0.b).length) c0_0 p0_1 ((a0.f).length) c0_1 rfl (RO.pass hr0_0 hw) rfl (RO.pass hr0_1 hw) x4 e4) (sevs_cons rfl sevs_nil)) rfl ?_)))
  rintro _ _ ⟨_, ⟨p5, n6, c7, C8, p9, n10, c11, C12, rfl, rfl, hnn6, o8, hnn10, o12⟩, rfl⟩
  obtain rfl := hnn6
  obtain rfl := hnn10
  refine oE (stpU_alloc 5 tz26 rfl) rfl ?_
  rintro _ _ ⟨b13, rfl, rfl⟩
  refine oF (stpU_store (id := 5) (cs' := [.slice p5 ((x4.b).length) c7, .slice p9 ((x4.f).length) c11]) ts26 rfl rfl rfl rfl rfl rfl rfl) ?_
  rintro _ _ rfl
  obtain ⟨x14, e14, H0⟩ := bind_some H0
  refine nn (sr (oD (stp_loadN (us := [_, _]) ts28 rfl (Cells.box (id := 1) rfl 2 rfl)) rfl (oD (fA 0 Tryd.underlying26 rfl ts23 rfl rfl rfl) rfl (oD (lB 0 ts23 rfl rfl rfl) rfl (oD (stp_len Tryd.underlying23 rfl) rfl (oE (stpU_call (fun i => 6 + i) cf65 (fun w hw => c_s_l2Hash fl w a1 ((a0.b).length : Int) x14 e14) (sevs_cons rfl (sevs_cons rfl sevs_nil))) rfl ?_))))))
  rintro _ _ ⟨_, ⟨rfl, rfl⟩, rfl⟩
  obtain ⟨x15, e15, H0⟩ := bind_some H0
  obtain ⟨x16, e16, H0⟩ := bind_some H0
  refine oD (sg rfl) rfl (nn (cw_seq (rdr g_mixed [2, 3, 5, 9, 10] [1, 3, 4, 5] { dst := dS [19, 20, 21, 22, 23, 24, 25, 26, 27, 28, 29, 30, 0], pre := gA [] [[], [0], [], [], [], [], [5], [], [5, 6, 7], rn 5 4, rn 3 7, rn 0 11, rn 0 12], ids := fun i => match i with | 12 => [4] | _ => [], rs := rL [[(9, 0)], [(18, 1)], [(2, 0)], [(5, 0)], [(3, 0)], [(9, 0)], [(23, 6)], [(10, 0)], [(24, 7), (25, 8)], [(26, 9)], [(21, 4), (22, 5), (27, 10)], [(19, 2), (20, 3)], [(29, 12), (28, 11)]], rh := rL [[], [(5, 0)], [], [(1, 0)], [], [], [(5, 0)], [], [(3, 0)], [(3, 0)], [], [(4, 0)], [(4, 0)]], V := fun i g => gA undef [.pointer (some ⟨b13, 1, none⟩), .slice p9 ((x4.f).length) c11, .int .i64 a2, .agg #[.int .i64 a1.s, .int .i64 a1.p], .int .i64 a3, .pointer (some ⟨b13, 0, none⟩), .slice p5 ((x4.b).length) c7, .int .i64 x14, .pointer (some ⟨eB p5, eO p5 + Int.toNat x14 * Enc.sz Int + 0, none⟩), .int .i64 x15, .agg #[.bool true, .int .i64 a1.s, .int .i64 a1.p, .int .i64 a3, .int .i64 x15], .pointer (some ⟨eB p9, eO p9 + Int.toNat a2 * Enc.sz F + 0, none⟩)] i, U := fun i g => match i with | 12 => [(4, ((g 12).R 0))] | _ => [], Φ := fun i x => match i with | 12 => OwnC (α := F) 58 p9 c11 (x4.f.set (Int.toNat a2) (⟨true, a1, a3, x15⟩ : F)) (x.R 0) | _ => True } ?_ ?_)))
  · refine ⟨⟨⟨⟨⟨⟨⟨⟨⟨⟨⟨⟨⟨trivial, lc rfl rfl fun hs hh => stp_fieldAddr (j := 1) Tryd.underlying26 rfl ts24 rfl (sv hs 9 rfl) rfl⟩, lc rfl rfl fun hs hh => stp_load1 ts24 (sv hs 18 rfl) (Cells.box (id := 5) (hh.get 5 _ rfl) 1 rfl)⟩, lc rfl rfl fun hs hh => stp_move (sv hs 2 rfl)⟩, lc rfl rfl fun hs hh => stp_loadN (us := [_, _]) ts28 (sv hs 5 rfl) (Cells.box (id := 1) (hh.get 1 _ rfl) 2 rfl)⟩, lc rfl rfl fun hs hh => stp_move (sv hs 3 rfl)⟩, lc rfl rfl fun hs hh => stp_fieldAddr (j := 0) Tryd.underlying26 rfl ts23 rfl (sv hs 9 rfl) rfl⟩, lc rfl rfl fun hs hh => stp_load1 ts23 (sv hs 23 rfl) (Cells.box (id := 5) (hh.get 5 _ rfl) 1 rfl)⟩, lc rfl rfl fun hs hh => stp_move (sv hs 10 rfl)⟩, lc rfl rfl fun hs hh => stp_indexAddr Tryd.underlying23 ts3 (by decide) (sv hs 24 rfl) rfl (sv hs 25 rfl) (Rdb.own (id := 3) (hh.get 3 _ rfl) o8) e15⟩, lc rfl rfl fun hs hh => stp_load1 ts3 (sv hs 26 rfl) (Cells.el (Rdb.own (id := 3) (hh.get 3 _ rfl) o8) (by decide) e15 0 1 rfl)⟩, lc rfl rfl fun hs hh => stp_build (cs := #[.bool true, .int .i64 a1.s, .int .i64 a1.p, .int .i64 a3, .int .i64 x15]) (sevp_cons rfl (sevp_cons (sv hs 21 rfl) (sevp_cons (sv hs 22 rfl) (sevp_cons (sv hs 27 rfl) sevp_nil)))) bt58_4⟩, lc rfl rfl fun hs hh => stp_indexAddr Tryd.underlying24 ts58 (by decide) (sv hs 19 rfl) rfl (sv hs 20 rfl) (Rdb.own (id := 4) (hh.get 4 _ rfl) o12) e16⟩, ?_⟩
    · refine le rfl rfl (fun g hΦ s h hs hh => (stpU_storeEl (id := 4) (i := 0) (⟨true, a1, a3, x15⟩ : F) (by decide) ts58 (sv hs 29 rfl) (sv hs 28 rfl) (hh.get 4 _ rfl) o12 e16 rfl rfl rfl rfl)) ?_
      rintro g _ _ ⟨C17, rfl, o17⟩
      exact ⟨⟨[], [], [C17]⟩, o17, .inl rfl, rfl⟩
  · intro g hΦ
    refine kw_gen (ι := Res) ((g 12).R 0) (fun | C17 => OwnC (α := F) 58 p9 c11 (x4.f.set (Int.toNat a2) (⟨true, a1, a3, x15⟩ : F)) C17) (fun | C17 => [(2, .int .i64 a2), (8, .pointer (some ⟨b3, 0, none⟩)), (9, .pointer (some ⟨b13, 0, none⟩)), (10, .int .i64 x14)]) (fun | C17 => [(2, [(b3, .cells #[.slice none 0 0, .slice none 0 0] 26 (0, 0))]), (3, C8), (4, C17), (5, [(b13, .cells #[.slice p5 ((x4.b).length) c7, .slice p9 ((x4.f).length) c11] 26 (0, 0))])]) (hΦ 12 (by decide)) ⟨rfl, rfl, rfl, rfl, trivial⟩ ⟨rfl, rfl, rfl, rfl, trivial⟩ ?_
    rintro C17 o17
    have o17 : OwnC (α := F) 58 p9 c11 (x4.f.set (Int.toNat a2) (⟨true, a1, a3, x15⟩ : F)) C17 := o17
    refine KW.sub (s' := [(2, .int .i64 a2), (8, .pointer (some ⟨b3, 0, none⟩)), (9, .pointer (some ⟨b13, 0, none⟩)), (10, .int .i64 x14)]) (h' := [(2, [(b3, .cells #[.slice none 0 0, .slice none 0 0] 26 (0, 0))]), (3, C8), (4, C17), (5, [(b13, .cells #[.slice p5 ((x4.b).length) c7, .slice p9 ((x4.f).length) c11] 26 (0, 0))])]) ?_ ⟨rfl, rfl, rfl, rfl, trivial⟩ ⟨rfl, rfl, rfl, rfl, trivial⟩
    refine kw_nx (sr (oD (fA 0 Tryd.underlying26 rfl ts23 rfl rfl rfl) rfl (oD (lB 5 ts23 rfl rfl rfl) rfl (oD (mv rfl) rfl (oD (mv rfl) rfl (oD (stp_indexAddr Tryd.underlying23 ts3 (by decide) rfl rfl rfl (Rdb.own (id := 3) rfl o8) e15) rfl (oF (stpU_storeEl (id := 3) (i := 0) a2 (by decide) ts3 rfl rfl rfl o8 e15 rfl rfl rfl rfl) ?_)))))))
    rintro _ _ ⟨C18, rfl, o18⟩
    refine nn (sr (oD (stp_loadN (us := [_, _]) ts26 rfl (Cells.box (id := 5) rfl 2 rfl)) rfl (oF (stpU_store (id := 2) (cs' := [.slice p5 ((x4.b).length) c7, .slice p9 ((x4.f).length) c11]) ts26 rfl rfl rfl rfl rfl rfl rfl) ?_)))
    rintro _ _ rfl
    refine nn (cw_ret ?_)
    have q0 := Option.some.inj H0
    subst q0
    exact kw_ret Tryd.results37 (.cons (.cellN (us := [_, _]) ts26 rfl (Cells.box (id := 2) rfl 2 rfl)) .nil) [(0, C18), (1, C17)] [3, 4] ⟨3, [4], rfl, rfl, 4, [], rfl, rfl, trivial⟩ (by decide) ⟨p5, ((x4.b).length), c7, C18, p9, ((x4.f).length), c11, C17, rfl, rfl, (by simp), o18, (by simp), o17⟩

set_option maxHeartbeats 4000000 in
set_option maxRecDepth 20000 in
theorem c_s_MapPage (fl : Nat) (w : World) (a0 : T) (p0_0 : Option Addr) (n0_0 c0_0 : Nat) (p0_1 : Option Addr) (n0_1 c0_1 : Nat) (a1 : K) (a2 : Int) (a3 : Int) (hn0_0 : n0_0 = (a0.b).length) (hr0_0 : RO w (hkeys []) (RdL p0_0 c0_0 a0.b)) (hn0_1 : n0_1 = (a0.f).length) (hr0_1 : RO w (hkeys []) (RdL p0_1 c0_1 a0.f)) (r : T × Bool) (H0 : s_MapPage fl a0 a1 a2 a3 = some r) :
    Ct Tryd.prog 9 [.agg #[.slice p0_0 n0_0 c0_0, .slice p0_1 n0_1 c0_1], .agg #[.int .i64 a1.s, .int .i64 a1.p], .int .i64 a2, .int .i64 a3] w [] (fun rv h' => ∃ (x0 : Option Addr) (y0 z0 : Nat) (C0 : Res) (x1 : Option Addr) (y1 z1 : Nat) (C1 : Res), rv = .tuple #[.agg #[.slice x0 y0 z0, .slice x1 y1 z1], .bool r.2] ∧ h' = [(0, C0), (1, C1)] ∧ y0 = (r.1.b).length ∧ OwnC 3 x0 z0 r.1.b C0 ∧ y1 = (r.1.f).length ∧ OwnC 58 x1 z1 r.1.f C1) := by
  obtain rfl := hn0_0
  obtain rfl := hn0_1
  unfold s_MapPage at H0
  refine ct_of_cw Tryd.func9 rfl Tryd.ntmps9 rfl (Sat.refl _ _) ?_
  refine sr (oE (stpU_box 0 rfl rfl) rfl ?_)
  rintro _ _ ⟨b1, rfl, rfl⟩
  refine oE (stpU_box 1 rfl rfl) rfl ?_
  rintro _ _ ⟨b2, rfl, rfl⟩
  refine oE (stpU_alloc 2 tz26 rfl) rfl ?_
  rintro _ _ ⟨b3, rfl, rfl⟩
  obtain ⟨x4, e4, H0⟩ := bind_some H0
  refine oD (sg rfl) rfl (nn (cw_seq (sr (oD (stp_loadN (us := [_, _]) ts26 rfl (Cells.box (id := 0) rfl 2 rfl)) rfl (oE (stpU_call (fun i => 3 + i) cf33 (fun w hw => c_s_TableValid fl w a0 p0_0 ((a0.b).length) c0_0 p0_1 ((a0.f).length) c0_1 rfl (RO.pass hr0_0 hw) rfl (RO.pass hr0_1 hw) x4 e4) (sevs_cons rfl sevs_nil)) rfl ?_)))))
  rintro _ _ ⟨_, ⟨rfl, rfl⟩, rfl⟩
  obtain ⟨y5, ey5, H0⟩ := bind_some H0
  refine oD (stp_not rfl) rfl (oD (mv rfl) rfl (ow_cutY 4 19 y5 ?_ ?_))
  · rcases Bool.eq_false_or_eq_true (!x4) with hy5 | hy5
    · have ey5 := cond_t ey5 hy5
      refine oO rfl hy5 rfl (oO rfl hy5 rfl (oO rfl hy5 rfl (oD (stp_pick_t rfl hy5 rfl) rfl ?_)))
      obtain rfl := Option.some.inj ey5
      exact ow_nil (jy 4 0)
    · have ey5 := cond_f ey5 hy5
      obtain ⟨x6, e6, ey5⟩ := bind_some ey5
      refine oG rfl hy5 (stp_loadN (us := [_, _]) ts28 rfl (Cells.box (id := 1) rfl 2 rfl)) rfl (ow_eff (.some rfl hy5) (stpU_call (fun i => 3 + i) cf34 (fun w hw => c_s_KeyValid fl w a1 x6 e6) (sevs_cons rfl sevs_nil)) rfl ?_)
      rintro _ _ ⟨_, ⟨rfl, rfl⟩, rfl⟩
      refine oG rfl hy5 (stp_not rfl) rfl (oD (stp_pick_f rfl hy5 rfl) rfl ?_)
      obtain rfl := Option.some.inj ey5
      exact ow_nil (jy 4 0)
  · obtain ⟨y7, ey7, H0⟩ := bind_some H0
    refine oD (mv rfl) rfl (ow_cutY 4 24 y7 ?_ ?_)
    · rcases Bool.eq_false_or_eq_true y5 with hy7 | hy7
      · have ey7 := cond_t ey7 hy7
        refine oO rfl hy7 rfl (oO rfl hy7 rfl (oO rfl hy7 rfl (oD (stp_pick_t rfl hy7 rfl) rfl ?_)))
        obtain rfl := Option.some.inj ey7
        exact ow_nil (jy 4 0)
      · have ey7 := cond_f ey7 hy7
        obtain ⟨x8, e8, ey7⟩ := bind_some ey7
        refine oG rfl hy7 (mv rfl) rfl (ow_eff (.some rfl hy7) (stpU_call (fun i => 3 + i) cf35 (fun w hw => c_s_RightsValid fl w a3 x8 e8) (sevs_cons rfl sevs_nil)) rfl ?_)
        rintro _ _ ⟨_, ⟨rfl, rfl⟩, rfl⟩
        refine oG rfl hy7 (stp_not rfl) rfl (oD (stp_pick_f rfl hy7 rfl) rfl ?_)
        obtain rfl := Option.some.inj ey7
        exact ow_nil (jy 4 0)
    · obtain ⟨y9, ey9, H0⟩ := bind_some H0
      refine oD (mv rfl) rfl (ow_cutY 3 28 y9 ?_ ?_)
      · rcases Bool.eq_false_or_eq_true y7 with hy9 | hy9
        · have ey9 := cond_t ey9 hy9
          refine oO rfl hy9 rfl (oO rfl hy9 rfl (oD (stp_pick_t rfl hy9 rfl) rfl ?_))
          obtain rfl := Option.some.inj ey9
          exact ow_nil (jy 3 0)
        · have ey9 := cond_f ey9 hy9
          refine oG rfl hy9 (mv rfl) rfl (oG rfl hy9 (stp_lss rfl rfl) rfl (oD (stp_pick_f rfl hy9 rfl) rfl ?_))
          obtain rfl := Option.some.inj ey9
          exact ow_nil (jy 3 0)
      · obtain ⟨y10, ey10, H0⟩ := bind_some H0
        refine oD (mv rfl) rfl (ow_cutY 6 35 y10 ?_ ?_)
        · rcases Bool.eq_false_or_eq_true y9 with hy10 | hy10
          · have ey10 := cond_t ey10 hy10
            refine oO rfl hy10 rfl (oO rfl hy10 rfl (oO rfl hy10 rfl (oO rfl hy10 rfl (oO rfl hy10 rfl (oD (stp_pick_t rfl hy10 rfl) rfl ?_)))))
            obtain rfl := Option.some.inj ey10
            exact ow_nil (jy 6 0)
          · have ey10 := cond_f ey10 hy10
            refine oG rfl hy10 (mv rfl) rfl (oG rfl hy10 (fA 1 Tryd.underlying26 rfl ts24 rfl rfl rfl) rfl (oG rfl hy10 (lB 0 ts24 rfl rfl rfl) rfl (oG rfl hy10 (stp_len Tryd.underlying24 rfl) rfl (oG rfl hy10 (stp_geq rfl rfl) rfl (oD (stp_pick_f rfl hy10 rfl) rfl ?_)))))
            obtain rfl := Option.some.inj ey10
            exact ow_nil (jy 6 0)
        · obtain ⟨y11, ey11, H0⟩ := bind_some H0
          refine oD (mv rfl) rfl (ow_cutY 7 43 y11 ?_ ?_)
          · rcases Bool.eq_false_or_eq_true y10 with hy11 | hy11
            · have ey11 := cond_t ey11 hy11
              refine oO rfl hy11 rfl (oO rfl hy11 rfl (oO rfl hy11 rfl (oO rfl hy11 rfl (oO rfl hy11 rfl (oO rfl hy11 rfl (oD (stp_pick_t rfl hy11 rfl) rfl ?_))))))
              obtain rfl := Option.some.inj ey11
              exact ow_nil (jy 7 0)
            · have ey11 := cond_f ey11 hy11
              obtain ⟨x12, e12, ey11⟩ := bind_some ey11
              refine oG rfl hy11 (fA 1 Tryd.underlying26 rfl ts24 rfl rfl rfl) rfl (oG rfl hy11 (lB 0 ts24 rfl rfl rfl) rfl (oG rfl hy11 (mv rfl) rfl (oG rfl hy11 (stp_indexAddr Tryd.underlying24 ts58 (by decide) rfl rfl rfl (Rdb.ro hr0_1) e12) rfl (oG rfl hy11 (fA 0 Tryd.underlying58 rfl ts4 rfl rfl rfl) rfl (oG rfl hy11 (stp_load1 ts4 rfl (Cells.el (Rdb.ro hr0_1) (by decide) e12 0 1 rfl)) rfl (oD (stp_pick_f rfl hy11 rfl) rfl ?_))))))
              obtain rfl := Option.some.inj ey11
              exact ow_nil (jy 7 0)
          · refine ow_nil (kw_nx (cw_cond rfl (fun h13 => ?_) (fun h13 => ?_)))
            · have H0 := cond_t H0 h13
              refine sr (oD (stp_build (cs := #[.slice none 0 0, .slice none 0 0]) sevp_nil bt26_0) rfl (oF (stpU_store (id := 2) (cs' := [.slice none 0 0, .slice none 0 0]) ts26 rfl rfl rfl rfl rfl rfl rfl) ?_))
              rintro _ _ rfl
              refine oD (sg rfl) rfl (nn (cw_ret (kw_nx_ret (kw_addNil 3 (kw_addNil 4 ?_)))))
              have q0 := Option.some.inj H0
              subst q0
              exact kw_ret Tryd.results9 (.cons (.cellN (us := [_, _]) ts26 rfl (Cells.box (id := 2) rfl 2 rfl)) (.cons (.tmp rfl) .nil)) [(0, []), (1, [])] [3, 4] ⟨3, [4], rfl, rfl, 4, [], rfl, rfl, trivial⟩ (by decide) ⟨none, 0, 0, [], none, 0, 0, [], rfl, rfl, rfl, (OwnC.nil _ _), rfl, (OwnC.nil _ _)⟩
            · have H0 := cond_f H0 h13
              obtain ⟨x14, e14, H0⟩ := bind_some H0
              refine cw_skip (kw_nx (sr (oD (stp_loadN (us := [_, _]) ts26 rfl (Cells.box (id := 0) rfl 2 rfl)) rfl (oD (stp_loadN (us := [_, _]) ts28 rfl (Cells.box (id := 1) rfl 2 rfl)) rfl (oE (stpU_call (fun i => 5 + i) cf36 (fun w hw => c_s_l3Find fl w a0 p0_0 ((a0.b).length) c0_0 p0_1 ((a0.f).length) c0_1 a1 rfl (RO.pass hr0_0 hw) rfl (RO.pass hr0_1 hw) x14 e14) (sevs_cons rfl (sevs_cons rfl sevs_nil))) rfl ?_)))))
              rintro _ _ ⟨_, ⟨rfl, rfl⟩, rfl⟩
              refine oD (mv rfl) rfl (oD (stp_extract rfl rfl) rfl (oD (stp_extract rfl rfl) rfl (oD (sg rfl) rfl (oD (sg rfl) rfl (nn (cw_seq (sr (oD (mv rfl) rfl (oD (stp_geq rfl rfl) rfl (nn (cw_cond rfl (fun h15 => ?_) (fun h15 => ?_))))))))))))
              · have H0 := cond_t H0 h15
                refine sr (oD (stp_build (cs := #[.slice none 0 0, .slice none 0 0]) sevp_nil bt26_0) rfl (oF (stpU_store (id := 2) (cs' := [.slice none 0 0, .slice none 0 0]) ts26 rfl rfl rfl rfl rfl rfl rfl) ?_))
                rintro _ _ rfl
                refine oD (sg rfl) rfl (nn (cw_ret (kw_nx_ret (kw_addNil 5 (kw_addNil 6 ?_)))))
                have q0 := Option.some.inj H0
                subst q0
                exact kw_ret Tryd.results9 (.cons (.cellN (us := [_, _]) ts26 rfl (Cells.box (id := 2) rfl 2 rfl)) (.cons (.tmp rfl) .nil)) [(0, []), (1, [])] [5, 6] ⟨5, [6], rfl, rfl, 6, [], rfl, rfl, trivial⟩ (by decide) ⟨none, 0, 0, [], none, 0, 0, [], rfl, rfl, rfl, (OwnC.nil _ _), rfl, (OwnC.nil _ _)⟩
              · have H0 := cond_f H0 h15
                obtain ⟨x16, e16, H0⟩ := bind_some H0
                refine cw_skip (kw_nx (sr (oD (stp_loadN (us := [_, _]) ts26 rfl (Cells.box (id := 0) rfl 2 rfl)) rfl (oD (stp_loadN (us := [_, _]) ts28 rfl (Cells.box (id := 1) rfl 2 rfl)) rfl (oD (mv rfl) rfl (oD (mv rfl) rfl (oE (stpU_call (fun i => 7 + i) cf37 (fun w hw => c_s_l3Map fl w a0 p0_0 ((a0.b).length) c0_0 p0_1 ((a0.f).length) c0_1 a1 a2 a3 rfl (RO.pass hr0_0 hw) rfl (RO.pass hr0_1 hw) x16 e16) (sevs_cons rfl (sevs_cons rfl (sevs_cons rfl (sevs_cons rfl sevs_nil))))) rfl ?_)))))))
                rintro _ _ ⟨_, ⟨p17, n18, c19, C20, p21, n22, c23, C24, rfl, rfl, hnn18, o20, hnn22, o24⟩, rfl⟩
                obtain rfl := hnn18
                obtain rfl := hnn22
                refine oF (stpU_store (id := 2) (cs' := [.slice p17 ((x16.b).length) c19, .slice p21 ((x16.f).length) c23]) ts26 rfl rfl rfl rfl rfl rfl rfl) ?_
                rintro _ _ rfl
                refine oD (sg rfl) rfl (nn (cw_ret ?_))
                have q0 := Option.some.inj H0
                subst q0
                exact kw_ret Tryd.results9 (.cons (.cellN (us := [_, _]) ts26 rfl (Cells.box (id := 2) rfl 2 rfl)) (.cons (.tmp rfl) .nil)) [(0, C20), (1, C24)] [7, 8] ⟨7, [8], rfl, rfl, 8, [], rfl, rfl, trivial⟩ (by decide) ⟨p17, ((x16.b).length), c19, C20, p21, ((x16.f).length), c23, C24, rfl, rfl, rfl, o20, rfl, o24⟩

set_option maxHeartbeats 4000000 in
set_option maxRecDepth 20000 in
theorem c_s_FindPage (fl : Nat) (w : World) (a0 : T) (p0_0 : Option Addr) (n0_0 c0_0 : Nat) (p0_1 : Option Addr) (n0_1 c0_1 : Nat) (a1 : K) (hn0_0 : n0_0 = (a0.b).length) (hr0_0 : RO w (hkeys []) (RdL p0_0 c0_0 a0.b)) (hn0_1 : n0_1 = (a0.f).length) (hr0_1 : RO w (hkeys []) (RdL p0_1 c0_1 a0.f)) (r : Int × Int × Bool) (H0 : s_FindPage fl a0 a1 = some r) :
    Ct Tryd.prog 47 [.agg #[.slice p0_0 n0_0 c0_0, .slice p0_1 n0_1 c0_1], .agg #[.int .i64 a1.s, .int .i64 a1.p]] w [] (fun rv h' => rv = .tuple #[.int .i64 r.1, .int .i64 r.2.1, .bool r.2.2] ∧ h' = []) := by
  obtain rfl := hn0_0
  obtain rfl := hn0_1
  unfold s_FindPage at H0
  refine ct_of_cw Tryd.func47 rfl Tryd.ntmps47 rfl (Sat.refl _ _) ?_
  refine sr (oE (stpU_box 0 rfl rfl) rfl ?_)
  rintro _ _ ⟨b1, rfl, rfl⟩
  refine oE (stpU_box 1 rfl rfl) rfl ?_
  rintro _ _ ⟨b2, rfl, rfl⟩
  obtain ⟨x3, e3, H0⟩ := bind_some H0
  refine oD (sg rfl) rfl (oD (sg rfl) rfl (oD (sg rfl) rfl (nn (cw_seq (sr (oD (stp_loadN (us := [_, _]) ts26 rfl (Cells.box (id := 0) rfl 2 rfl)) rfl (oE (stpU_call (fun i => 2 + i) cf33 (fun w hw => c_s_TableValid fl w a0 p0_0 ((a0.b).length) c0_0 p0_1 ((a0.f).length) c0_1 rfl (RO.pass hr0_0 hw) rfl (RO.pass hr0_1 hw) x3 e3) (sevs_cons rfl sevs_nil)) rfl ?_)))))))
  rintro _ _ ⟨_, ⟨rfl, rfl⟩, rfl⟩
  obtain ⟨y4, ey4, H0⟩ := bind_some H0
  refine oD (stp_not rfl) rfl (oD (mv rfl) rfl (ow_cutY 4 16 y4 ?_ ?_))
  · rcases Bool.eq_false_or_eq_true (!x3) with hy4 | hy4
    · have ey4 := cond_t ey4 hy4
      refine oO rfl hy4 rfl (oO rfl hy4 rfl (oO rfl hy4 rfl (oD (stp_pick_t rfl hy4 rfl) rfl ?_)))
      obtain rfl := Option.some.inj ey4
      exact ow_nil (jy 4 0)
    · have ey4 := cond_f ey4 hy4
      obtain ⟨x5, e5, ey4⟩ := bind_some ey4
      refine oG rfl hy4 (stp_loadN (us := [_, _]) ts28 rfl (Cells.box (id := 1) rfl 2 rfl)) rfl (ow_eff (.some rfl hy4) (stpU_call (fun i => 2 + i) cf34 (fun w hw => c_s_KeyValid fl w a1 x5 e5) (sevs_cons rfl sevs_nil)) rfl ?_)
      rintro _ _ ⟨_, ⟨rfl, rfl⟩, rfl⟩
      refine oG rfl hy4 (stp_not rfl) rfl (oD (stp_pick_f rfl hy4 rfl) rfl ?_)
      obtain rfl := Option.some.inj ey4
      exact ow_nil (jy 4 0)
  · refine ow_nil (kw_nx (cw_cond rfl (fun h6 => ?_) (fun h6 => ?_)))
    · have H0 := cond_t H0 h6
      refine sr (oD (sg rfl) rfl (oD (sg rfl) rfl (oD (sg rfl) rfl (nn (cw_ret (kw_nx_ret ?_))))))
      have q0 := Option.some.inj H0
      subst q0
      exact kw_ret Tryd.results47 (.cons (.tmp rfl) (.cons (.tmp rfl) (.cons (.tmp rfl) .nil))) [] [] trivial (by decide) ⟨rfl, rfl⟩
    · have H0 := cond_f H0 h6
      obtain ⟨x7, e7, H0⟩ := bind_some H0
      refine cw_skip (kw_nx (sr (oD (stp_loadN (us := [_, _]) ts26 rfl (Cells.box (id := 0) rfl 2 rfl)) rfl (oD (stp_loadN (us := [_, _]) ts28 rfl (Cells.box (id := 1) rfl 2 rfl)) rfl (oE (stpU_call (fun i => 2 + i) cf36 (fun w hw => c_s_l3Find fl w a0 p0_0 ((a0.b).length) c0_0 p0_1 ((a0.f).length) c0_1 a1 rfl (RO.pass hr0_0 hw) rfl (RO.pass hr0_1 hw) x7 e7) (sevs_cons rfl (sevs_cons rfl sevs_nil))) rfl ?_)))))
      rintro _ _ ⟨_, ⟨rfl, rfl⟩, rfl⟩
      refine oD (mv rfl) rfl (oD (stp_extract rfl rfl) rfl (oD (stp_extract rfl rfl) rfl (oD (sg rfl) rfl (oD (sg rfl) rfl (nn (cw_seq (sr (oD (mv rfl) rfl (oD (stp_lss rfl rfl) rfl (nn (cw_cond rfl (fun h8 => ?_) (fun h8 => ?_))))))))))))
      · have H0 := cond_t H0 h8
        refine sr (oD (mv rfl) rfl (oD (sg rfl) rfl (oD (sg rfl) rfl (oD (sg rfl) rfl (nn (cw_ret (kw_nx_ret ?_)))))))
        have q0 := Option.some.inj H0
        subst q0
        exact kw_ret Tryd.results47 (.cons (.tmp rfl) (.cons (.tmp rfl) (.cons (.tmp rfl) .nil))) [] [] trivial (by decide) ⟨rfl, rfl⟩
      · have H0 := cond_f H0 h8
        refine cw_skip (kw_nx (sr (oD (mv rfl) rfl (oD (mv rfl) rfl (oD (sg rfl) rfl (oD (sg rfl) rfl (oD (sg rfl) rfl (nn (cw_ret ?_)))))))))
        have q0 := Option.some.inj H0
        subst q0
        exact kw_ret Tryd.results47 (.cons (.tmp rfl) (.cons (.tmp rfl) (.cons (.tmp rfl) .nil))) [] [] trivial (by decide) ⟨rfl, rfl⟩

set_option maxHeartbeats 4000000 in
set_option maxRecDepth 20000 in
theorem c_s_l3Unmap (fl : Nat) (w : World) (a0 : T) (p0_0 : Option Addr) (n0_0 c0_0 : Nat) (p0_1 : Option Addr) (n0_1 c0_1 : Nat) (a1 : Int) (hn0_0 : n0_0 = (a0.b).length) (hr0_0 : RO w (hkeys []) (RdL p0_0 c0_0 a0.b)) (hn0_1 : n0_1 = (a0.f).length) (hr0_1 : RO w (hkeys []) (RdL p0_1 c0_1 a0.f)) (r : T) (H0 : s_l3Unmap fl a0 a1 = some r) :
    Ct Tryd.prog 49 [.agg #[.slice p0_0 n0_0 c0_0, .slice p0_1 n0_1 c0_1], .int .i64 a1] w [] (fun rv h' => ∃ (x0 : Option Addr) (y0 z0 : Nat) (C0 : Res) (x1 : Option Addr) (y1 z1 : Nat) (C1 : Res), rv = .agg #[.slice x0 y0 z0, .slice x1 y1 z1] ∧ h' = [(0, C0), (1, C1)] ∧ y0 = (r.b).length ∧ OwnC 3 x0 z0 r.b C0 ∧ y1 = (r.f).length ∧ OwnC 58 x1 z1 r.f C1) := by
  obtain rfl := hn0_0
  obtain rfl := hn0_1
  unfold s_l3Unmap at H0
  refine ct_of_cw Tryd.func49 rfl Tryd.ntmps49 rfl (Sat.refl _ _) ?_
  refine sr (oE (stpU_box 0 rfl rfl) rfl ?_)
  rintro _ _ ⟨b1, rfl, rfl⟩
  refine oE (stpU_alloc 1 tz26 rfl) rfl ?_
  rintro _ _ ⟨b2, rfl, rfl⟩
  obtain ⟨x3, e3, H0⟩ := bind_some H0
  refine nn (sr (oD (stp_loadN (us := [_, _]) ts26 rfl (Cells.box (id := 0) rfl 2 rfl)) rfl (oE (stpU_call (fun i => 2 + i) cf48 (fun w hw => c_s_l3Copy fl w a0 p0_0 ((a0.b).length) c0_0 p0_1 ((a0.f).length) c0_1 rfl (RO.pass hr0_0 hw) rfl (RO.pass hr0_1 hw) x3 e3) (sevs_cons rfl sevs_nil)) rfl ?_)))
  rintro _ _ ⟨_, ⟨p4, n5, c6, C7, p8, n9, c10, C11, rfl, rfl, hnn5, o7, hnn9, o11⟩, rfl⟩
  obtain rfl := hnn5
  obtain rfl := hnn9
  refine oE (stpU_alloc 4 tz26 rfl) rfl ?_
  rintro _ _ ⟨b12, rfl, rfl⟩
  refine oF (stpU_store (id := 4) (cs' := [.slice p4 ((x3.b).length) c6, .slice p8 ((x3.f).length) c10]) ts26 rfl rfl rfl rfl rfl rfl rfl) ?_
  rintro _ _ rfl
  obtain ⟨x13, e13, H0⟩ := bind_some H0
  obtain ⟨x14, e14, H0⟩ := bind_some H0
  refine nn (cw_seq (rdr g_mixed [1, 2] [0] { dst := dS [12, 13, 14, 15, 16, 17, 18, 19, 20, 21, 7], pre := gA [] [[], [0], [], [0, 1, 2], rn 0 4, rn 0 5, [], [6], [6, 7], rn 0 9, rn 0 10], ids := fun _ => [], rs := rL [[(2, 0)], [(11, 1)], [(1, 0)], [(12, 2), (13, 3)], [(14, 4)], [(15, 5)], [(2, 0)], [(17, 7)], [(18, 8)], [(16, 6), (19, 9)], [(20, 10)]], rh := rL [[], [(0, 0)], [], [], [], [], [], [(0, 0)]], V := fun i g => gA undef [.pointer (some ⟨b1, 1, none⟩), .slice p0_1 ((a0.f).length) c0_1, .int .i64 a1, .pointer (some ⟨eB p0_1, eO p0_1 + Int.toNat a1 * Enc.sz F + 0, none⟩), .pointer (some ⟨eB p0_1, eO p0_1 + Int.toNat a1 * Enc.sz F + 1, none⟩), .agg #[.int .i64 x13.k.s, .int .i64 x13.k.p], .pointer (some ⟨b1, 0, none⟩), .slice p0_0 ((a0.b).length) c0_0, .int .i64 ((a0.b).length : Int), .int .i64 x14, .int .i64 x14] i, U := fun _ _ => [], Φ := fun _ _ => True } ?_ ?_))
  · refine ⟨⟨⟨⟨⟨⟨⟨⟨⟨⟨⟨trivial, lc rfl rfl fun hs hh => stp_fieldAddr (j := 1) Tryd.underlying26 rfl ts24 rfl (sv hs 2 rfl) rfl⟩, lc rfl rfl fun hs hh => stp_load1 ts24 (sv hs 11 rfl) (Cells.box (id := 0) (hh.get 0 _ rfl) 1 rfl)⟩, lc rfl rfl fun hs hh => stp_move (sv hs 1 rfl)⟩, lc rfl rfl fun hs hh => stp_indexAddr Tryd.underlying24 ts58 (by decide) (sv hs 12 rfl) rfl (sv hs 13 rfl) (Rdb.ro hr0_1) e13⟩, lc rfl rfl fun hs hh => stp_fieldAddr (j := 1) Tryd.underlying58 rfl ts28 rfl (sv hs 14 rfl) rfl⟩, lc rfl rfl fun hs hh => stp_loadN (us := [_, _]) ts28 (sv hs 15 rfl) (Cells.el (Rdb.ro hr0_1) (by decide) e13 1 2 rfl)⟩, lc rfl rfl fun hs hh => stp_fieldAddr (j := 0) Tryd.underlying26 rfl ts23 rfl (sv hs 2 rfl) rfl⟩, lc rfl rfl fun hs hh => stp_load1 ts23 (sv hs 17 rfl) (Cells.box (id := 0) (hh.get 0 _ rfl) 1 rfl)⟩, lc rfl rfl fun hs hh => stp_len Tryd.underlying23 (sv hs 18 rfl)⟩, ?_⟩, lc rfl rfl fun hs hh => stp_assign (sv hs 20 rfl)⟩
    · refine le rfl rfl (fun g hΦ s h hs hh => (stpU_call (fun i => 5 + i) cf65 (fun w hw => c_s_l2Hash fl w x13.k ((a0.b).length : Int) x14 e14) (sevs_cons (sv hs 16 rfl) (sevs_cons (sv hs 19 rfl) sevs_nil)))) ?_
      rintro g _ _ ⟨_, ⟨rfl, rfl⟩, rfl⟩
      exact ⟨⟨[], [], []⟩, trivial, .inr rfl, rfl⟩
  · intro g hΦ
    refine KW.sub (s' := [(1, .int .i64 a1), (2, .pointer (some ⟨b1, 0, none⟩)), (4, .pointer (some ⟨b2, 0, none⟩)), (5, .pointer (some ⟨b12, 0, none⟩)), (6, .int .i64 x14)]) (h' := [(0, [(b1, .cells #[.slice p0_0 ((a0.b).length) c0_0, .slice p0_1 ((a0.f).length) c0_1] 26 (0, 0))]), (1, [(b2, .cells #[.slice none 0 0, .slice none 0 0] 26 (0, 0))]), (2, C7), (3, C11), (4, [(b12, .cells #[.slice p4 ((x3.b).length) c6, .slice p8 ((x3.f).length) c10] 26 (0, 0))])]) ?_ ⟨rfl, rfl, rfl, rfl, rfl, trivial⟩ ⟨rfl, rfl, rfl, rfl, rfl, trivial⟩
    refine kw_nx (sr (oD (fA 1 Tryd.underlying26 rfl ts24 rfl rfl rfl) rfl (oD (lB 0 ts24 rfl rfl rfl) rfl (oD (mv rfl) rfl (oD (stp_indexAddr Tryd.underlying24 ts58 (by decide) rfl rfl rfl (Rdb.ro hr0_1) e13) rfl (oD (fA 4 Tryd.underlying58 rfl ts3 rfl rfl rfl) rfl (oD (stp_load1 ts3 rfl (Cells.el (Rdb.ro hr0_1) (by decide) e13 4 1 rfl)) rfl (oD (sg rfl) rfl (nn (sr (oD (fA 1 Tryd.underlying26 rfl ts24 rfl rfl rfl) rfl (oD (lB 4 ts24 rfl rfl rfl) rfl (oD (mv rfl) rfl ?_)))))))))))))
    obtain ⟨x15, e15, H0⟩ := bind_some H0
    refine oD (stp_build (cs := #[.bool false, .int .i64 0, .int .i64 0, .int .i64 0, .int .i64 (-1)]) (sevp_cons rfl sevp_nil) bt58_1) rfl (oD (stp_indexAddr Tryd.underlying24 ts58 (by decide) rfl rfl rfl (Rdb.own (id := 3) rfl o11) e15) rfl (oF (stpU_storeEl (id := 3) (i := 0) (⟨false, (⟨0, 0⟩ : K), 0, (-1)⟩ : F) (by decide) ts58 rfl rfl rfl o11 e15 rfl rfl rfl rfl) ?_))
    rintro _ _ ⟨C16, rfl, o16⟩
    obtain ⟨x17, e17, H0⟩ := bind_some H0
    refine nn (cw_seq (sr (oD (fA 0 Tryd.underlying26 rfl ts23 rfl rfl rfl) rfl (oD (lB 0 ts23 rfl rfl rfl) rfl (oD (mv rfl) rfl (oD (stp_indexAddr Tryd.underlying23 ts3 (by decide) rfl rfl rfl (Rdb.ro hr0_0) e17) rfl (oD (stp_load1 ts3 rfl (Cells.el (Rdb.ro hr0_0) (by decide) e17 0 1 rfl)) rfl (oD (mv rfl) rfl (oD (stp_eql rfl rfl) rfl (nn (cw_cond rfl (fun h18 => ?_) (fun h18 => ?_))))))))))))
    · have H0 := cond_t H0 h18
      obtain ⟨x19, e19, H0⟩ := bind_some H0
      refine sr (oD (fA 0 Tryd.underlying26 rfl ts23 rfl rfl rfl) rfl (oD (lB 4 ts23 rfl rfl rfl) rfl (oD (mv rfl) rfl (oD (mv rfl) rfl (oD (stp_indexAddr Tryd.underlying23 ts3 (by decide) rfl rfl rfl (Rdb.own (id := 2) rfl o7) e19) rfl (oF (stpU_storeEl (id := 2) (i := 0) x13.nx (by decide) ts3 rfl rfl rfl o7 e19 rfl rfl rfl rfl) ?_))))))
      rintro _ _ ⟨C20, rfl, o20⟩
      refine nn (sr (oD (stp_loadN (us := [_, _]) ts26 rfl (Cells.box (id := 4) rfl 2 rfl)) rfl (oF (stpU_store (id := 1) (cs' := [.slice p4 ((x3.b).length) c6, .slice p8 ((x3.f).length) c10]) ts26 rfl rfl rfl rfl rfl rfl rfl) ?_)))
      rintro _ _ rfl
      refine nn (cw_ret (kw_nx_ret ?_))
      have q0 := Option.some.inj H0
      subst q0
      exact kw_ret Tryd.results49 (.cons (.cellN (us := [_, _]) ts26 rfl (Cells.box (id := 1) rfl 2 rfl)) .nil) [(0, C20), (1, C16)] [2, 3] ⟨2, [3], rfl, rfl, 3, [], rfl, rfl, trivial⟩ (by decide) ⟨p4, ((x3.b).length), c6, C20, p8, ((x3.f).length), c10, C16, rfl, rfl, (by simp), o20, (by simp), o16⟩
    · have H0 := cond_f H0 h18
      obtain ⟨o0_0, eo0_0, H0⟩ := bind_some H0
      refine cw_skip (kw_nx (cw_seq (sr (oD (sg rfl) rfl (nn (cw_join (ι := (List F) × Int × Res) (fun | (v21, v23, C22) => o0_0 = .out (v21, v23) ∧ (x3.f).length = (v21).length ∧ OwnC (α := F) 58 p8 c10 v21 C22) (fun | (v21, v23, C22) => [(1, .int .i64 a1), (2, .pointer (some ⟨b1, 0, none⟩)), (4, .pointer (some ⟨b2, 0, none⟩)), (5, .pointer (some ⟨b12, 0, none⟩)), (7, .int .i64 x13.nx), (8, .int .i64 v23)]) (fun | (v21, v23, C22) => [(0, [(b1, .cells #[.slice p0_0 ((a0.b).length) c0_0, .slice p0_1 ((a0.f).length) c0_1] 26 (0, 0))]), (1, [(b2, .cells #[.slice none 0 0, .slice none 0 0] 26 (0, 0))]), (2, C7), (3, C22), (4, [(b12, .cells #[.slice p4 ((x3.b).length) c6, .slice p8 ((x3.f).length) c10] 26 (0, 0))])]) ?_ ?_))))))
      · refine cw_block (cw_loopS (ι := Nat × (List F) × Int × Res) (js := [0, 1, 2, 3, 4]) (fun x => x.1) (fun | (fuel, v21, v23, C22) => s_l3Unmap_L0 fl a0 a1 x13 fuel v21 v23 = some o0_0 ∧ (x3.f).length = (v21).length ∧ OwnC (α := F) 58 p8 c10 v21 C22) (fun | (_, v21, v23, C22) => [(1, .int .i64 a1), (2, .pointer (some ⟨b1, 0, none⟩)), (4, .pointer (some ⟨b2, 0, none⟩)), (5, .pointer (some ⟨b12, 0, none⟩)), (7, .int .i64 x13.nx), (8, .int .i64 v23)]) (fun | (_, v21, v23, C22) => [(0, [(b1, .cells #[.slice p0_0 ((a0.b).length) c0_0, .slice p0_1 ((a0.f).length) c0_1] 26 (0, 0))]), (1, [(b2, .cells #[.slice none 0 0, .slice none 0 0] 26 (0, 0))]), (2, C7), (3, C22), (4, [(b12, .cells #[.slice p4 ((x3.b).length) c6, .slice p8 ((x3.f).length) c10] 26 (0, 0))])]) (fl, (x3.f.set (Int.toNat a1) (⟨false, (⟨0, 0⟩ : K), 0, (-1)⟩ : F)), 0, C16) ⟨eo0_0, (by simp), o16⟩ ⟨rfl, rfl, rfl, rfl, rfl, rfl, trivial⟩ ⟨0, [1, 2, 3, 4], rfl, rfl, 1, [2, 3, 4], rfl, rfl, 2, [3, 4], rfl, rfl, 3, [4], rfl, rfl, 4, [], rfl, rfl, trivial⟩ (by decide) ?_)
        rintro ⟨fuel, v21, v23, C22⟩ ⟨H1, hl22, o22⟩
        have H1 : s_l3Unmap_L0 fl a0 a1 x13 fuel v21 v23 = some o0_0 := H1
        rcases fuel with _ | fuel
        · rw [s_l3Unmap_L0.eq_1] at H1; cases H1
        rw [s_l3Unmap_L0.eq_2] at H1
        refine CW.sub (s' := [(1, .int .i64 a1), (2, .pointer (some ⟨b1, 0, none⟩)), (4, .pointer (some ⟨b2, 0, none⟩)), (5, .pointer (some ⟨b12, 0, none⟩)), (7, .int .i64 x13.nx), (8, .int .i64 v23)]) (h' := [(0, [(b1, .cells #[.slice p0_0 ((a0.b).length) c0_0, .slice p0_1 ((a0.f).length) c0_1] 26 (0, 0))]), (1, [(b2, .cells #[.slice none 0 0, .slice none 0 0] 26 (0, 0))]), (2, C7), (3, C22), (4, [(b12, .cells #[.slice p4 ((x3.b).length) c6, .slice p8 ((x3.f).length) c10] 26 (0, 0))])]) ?_ ⟨rfl, rfl, rfl, rfl, rfl, rfl, trivial⟩ ⟨rfl, rfl, rfl, rfl, rfl, trivial⟩
        refine cw_seq (sr (oD (mv rfl) rfl (oD (fA 1 Tryd.underlying26 rfl ts24 rfl rfl rfl) rfl (oD (lB 0 ts24 rfl rfl rfl) rfl (oD (stp_len Tryd.underlying24 rfl) rfl (oD (stp_lss rfl rfl) rfl (nn (cw_cond rfl (fun h24 => ?_) (fun h24 => ?_)))))))))
        · have H1 := cond_t H1 h24
          obtain ⟨x25, e25, H1⟩ := bind_some H1
          obtain ⟨y26, ey26, H1⟩ := bind_some H1
          refine cw_skip (kw_nx (cw_seq (cw_block (sr (oD (fA 1 Tryd.underlying26 rfl ts24 rfl rfl rfl) rfl (oD (lB 0 ts24 rfl rfl rfl) rfl (oD (mv rfl) rfl (oD (stp_indexAddr Tryd.underlying24 ts58 (by decide) rfl rfl rfl (Rdb.ro hr0_1) e25) rfl (oD (fA 0 Tryd.underlying58 rfl ts4 rfl rfl rfl) rfl (oD (stp_load1 ts4 rfl (Cells.el (Rdb.ro hr0_1) (by decide) e25 0 1 rfl)) rfl (oD (mv rfl) rfl (ow_cutY 9 67 y26 ?_ ?_))))))))))))
          · rcases Bool.eq_false_or_eq_true x25.u with hy26 | hy26
            · have ey26 := cond_t ey26 hy26
              refine oG rfl hy26 (fA 1 Tryd.underlying26 rfl ts24 rfl rfl rfl) rfl (oG rfl hy26 (lB 0 ts24 rfl rfl rfl) rfl (oG rfl hy26 (mv rfl) rfl (oG rfl hy26 (stp_indexAddr Tryd.underlying24 ts58 (by decide) rfl rfl rfl (Rdb.ro hr0_1) e25) rfl (oG rfl hy26 (fA 4 Tryd.underlying58 rfl ts3 rfl rfl rfl) rfl (oG rfl hy26 (stp_load1 ts3 rfl (Cells.el (Rdb.ro hr0_1) (by decide) e25 4 1 rfl)) rfl (oG rfl hy26 (mv rfl) rfl (oG rfl hy26 (stp_eql rfl rfl) rfl (oD (stp_pick_t rfl hy26 rfl) rfl ?_))))))))
              obtain rfl := Option.some.inj ey26
              exact ow_nil (jy 9 0)
            · have ey26 := cond_f ey26 hy26
              refine oO rfl hy26 rfl (oO rfl hy26 rfl (oO rfl hy26 rfl (oO rfl hy26 rfl (oO rfl hy26 rfl (oO rfl hy26 rfl (oO rfl hy26 rfl (oO rfl hy26 rfl (oD (stp_pick_f rfl hy26 rfl) rfl ?_))))))))
              obtain rfl := Option.some.inj ey26
              exact ow_nil (jy 9 0)
          · refine ow_nil (kw_nx (cw_cond rfl (fun h27 => ?_) (fun h27 => ?_)))
            · have H1 := cond_t H1 h27
              obtain ⟨x28, e28, H1⟩ := bind_some H1
              refine cw_region (oD (fA 1 Tryd.underlying26 rfl ts24 rfl rfl rfl) rfl (oD (lB 4 ts24 rfl rfl rfl) rfl (oD (mv rfl) rfl (oD (mv rfl) rfl (oD (stp_indexAddr Tryd.underlying24 ts58 (by decide) rfl (by simp [hl22]) rfl (Rdb.own (id := 3) rfl o22) e28) rfl (oD (fA 4 Tryd.underlying58 rfl ts3 rfl rfl rfl) rfl (oF (stpU_storeEl (id := 3) (i := 4) (⟨x28.u, x28.k, x28.r, x13.nx⟩ : F) (by decide) ts3 rfl rfl rfl o22 e28 rfl rfl rfl rfl) ?_)))))))
              rintro _ _ ⟨C29, rfl, o29⟩
              obtain ⟨x30, e30, H1⟩ := bind_some H1
              exact ow_nil (kw_bl_normal (kw_nx (cw_region (oD (mv rfl) rfl (oD (stp_add rfl rfl e30) rfl (oD (sg rfl) rfl (ow_nil (kw_lqS (js := [0, 1, 2, 3, 4]) (fuel, (v21.set (Int.toNat v23) (⟨x28.u, x28.k, x28.r, x13.nx⟩ : F)), x30, C29) ⟨H1, (by simp [hl22]), o29⟩ (Nat.lt_succ_self _) ⟨rfl, rfl, rfl, rfl, rfl, rfl, trivial⟩ ⟨0, [1, 2, 3, 4], rfl, rfl, 1, [2, 3, 4], rfl, rfl, 2, [3, 4], rfl, rfl, 3, [4], rfl, rfl, 4, [], rfl, rfl, trivial⟩ (by decide)))))))))
            · have H1 := cond_f H1 h27
              obtain ⟨x31, e31, H1⟩ := bind_some H1
              exact cw_skip (kw_bl_normal (kw_nx (cw_region (oD (mv rfl) rfl (oD (stp_add rfl rfl e31) rfl (oD (sg rfl) rfl (ow_nil (kw_lqS (js := [0, 1, 2, 3, 4]) (fuel, v21, x31, C22) ⟨H1, (by simp [hl22]), o22⟩ (Nat.lt_succ_self _) ⟨rfl, rfl, rfl, rfl, rfl, rfl, trivial⟩ ⟨0, [1, 2, 3, 4], rfl, rfl, 1, [2, 3, 4], rfl, rfl, 2, [3, 4], rfl, rfl, 3, [4], rfl, rfl, 4, [], rfl, rfl, trivial⟩ (by decide)))))))))
        · have H1 := cond_f H1 h24
          refine cw_exit (kw_nx_exit (kw_lq_exit (kw_bl ?_)))
          have q1 := Option.some.inj H1
          subst q1
          exact kw_joinS (js := [0, 1, 2, 3, 4]) (v21, v23, C22) ⟨rfl, (by simp [hl22]), o22⟩ ⟨rfl, rfl, rfl, rfl, rfl, rfl, trivial⟩ ⟨0, [1, 2, 3, 4], rfl, rfl, 1, [2, 3, 4], rfl, rfl, 2, [3, 4], rfl, rfl, 3, [4], rfl, rfl, 4, [], rfl, rfl, trivial⟩ (by decide)
      · rintro ⟨v21, v23, C22⟩ ⟨rfl, hl22, o22⟩
        refine KW.sub (s' := [(1, .int .i64 a1), (2, .pointer (some ⟨b1, 0, none⟩)), (4, .pointer (some ⟨b2, 0, none⟩)), (5, .pointer (some ⟨b12, 0, none⟩)), (7, .int .i64 x13.nx), (8, .int .i64 v23)]) (h' := [(0, [(b1, .cells #[.slice p0_0 ((a0.b).length) c0_0, .slice p0_1 ((a0.f).length) c0_1] 26 (0, 0))]), (1, [(b2, .cells #[.slice none 0 0, .slice none 0 0] 26 (0, 0))]), (2, C7), (3, C22), (4, [(b12, .cells #[.slice p4 ((x3.b).length) c6, .slice p8 ((x3.f).length) c10] 26 (0, 0))])]) ?_ ⟨rfl, rfl, rfl, rfl, rfl, rfl, trivial⟩ ⟨rfl, rfl, rfl, rfl, rfl, trivial⟩
        refine kw_nx (sr (oD (stp_loadN (us := [_, _]) ts26 rfl (Cells.box (id := 4) rfl 2 rfl)) rfl (oF (stpU_store (id := 1) (cs' := [.slice p4 ((x3.b).length) c6, .slice p8 ((x3.f).length) c10]) ts26 rfl rfl rfl rfl rfl rfl rfl) ?_)))
        rintro _ _ rfl
        refine nn (cw_ret ?_)
        have q0 := Option.some.inj H0
        subst q0
        exact kw_ret Tryd.results49 (.cons (.cellN (us := [_, _]) ts26 rfl (Cells.box (id := 1) rfl 2 rfl)) .nil) [(0, C7), (1, C22)] [2, 3] ⟨2, [3], rfl, rfl, 3, [], rfl, rfl, trivial⟩ (by decide) ⟨p4, ((x3.b).length), c6, C7, p8, ((x3.f).length), c10, C22, rfl, rfl, rfl, o7, (by simp [hl22]), o22⟩

set_option maxHeartbeats 4000000 in
set_option maxRecDepth 20000 in
theorem c_s_UnmapPage (fl : Nat) (w : World) (a0 : T) (p0_0 : Option Addr) (n0_0 c0_0 : Nat) (p0_1 : Option Addr) (n0_1 c0_1 : Nat) (a1 : K) (hn0_0 : n0_0 = (a0.b).length) (hr0_0 : RO w (hkeys []) (RdL p0_0 c0_0 a0.b)) (hn0_1 : n0_1 = (a0.f).length) (hr0_1 : RO w (hkeys []) (RdL p0_1 c0_1 a0.f)) (r : T × Bool) (H0 : s_UnmapPage fl a0 a1 = some r) :
    Ct Tryd.prog 19 [.agg #[.slice p0_0 n0_0 c0_0, .slice p0_1 n0_1 c0_1], .agg #[.int .i64 a1.s, .int .i64 a1.p]] w [] (fun rv h' => ∃ (x0 : Option Addr) (y0 z0 : Nat) (C0 : Res) (x1 : Option Addr) (y1 z1 : Nat) (C1 : Res), rv = .tuple #[.agg #[.slice x0 y0 z0, .slice x1 y1 z1], .bool r.2] ∧ h' = [(0, C0), (1, C1)] ∧ y0 = (r.1.b).length ∧ OwnC 3 x0 z0 r.1.b C0 ∧ y1 = (r.1.f).length ∧ OwnC 58 x1 z1 r.1.f C1) := by
  obtain rfl := hn0_0
  obtain rfl := hn0_1
  unfold s_UnmapPage at H0
  refine ct_of_cw Tryd.func19 rfl Tryd.ntmps19 rfl (Sat.refl _ _) ?_
  refine sr (oE (stpU_box 0 rfl rfl) rfl ?_)
  rintro _ _ ⟨b1, rfl, rfl⟩
  refine oE (stpU_box 1 rfl rfl) rfl ?_
  rintro _ _ ⟨b2, rfl, rfl⟩
  refine oE (stpU_alloc 2 tz26 rfl) rfl ?_
  rintro _ _ ⟨b3, rfl, rfl⟩
  obtain ⟨x4, e4, H0⟩ := bind_some H0
  refine oD (sg rfl) rfl (nn (sr (oD (stp_loadN (us := [_, _]) ts26 rfl (Cells.box (id := 0) rfl 2 rfl)) rfl (oD (stp_loadN (us := [_, _]) ts28 rfl (Cells.box (id := 1) rfl 2 rfl)) rfl (oE (stpU_call (fun i => 3 + i) cf47 (fun w hw => c_s_FindPage fl w a0 p0_0 ((a0.b).length) c0_0 p0_1 ((a0.f).length) c0_1 a1 rfl (RO.pass hr0_0 hw) rfl (RO.pass hr0_1 hw) x4 e4) (sevs_cons rfl (sevs_cons rfl sevs_nil))) rfl ?_)))))
  rintro _ _ ⟨_, ⟨rfl, rfl⟩, rfl⟩
  refine oD (mv rfl) rfl (oD (stp_extract rfl rfl) rfl (oD (stp_extract rfl rfl) rfl (oD (stp_extract rfl rfl) rfl (oD (sg rfl) rfl (oD (sg rfl) rfl (oD (sg rfl) rfl (nn (cw_seq (sr (oD (mv rfl) rfl (oD (stp_not rfl) rfl (nn (cw_cond rfl (fun h5 => ?_) (fun h5 => ?_))))))))))))))
  · have H0 := cond_t H0 h5
    refine sr (oD (stp_build (cs := #[.slice none 0 0, .slice none 0 0]) sevp_nil bt26_0) rfl (oF (stpU_store (id := 2) (cs' := [.slice none 0 0, .slice none 0 0]) ts26 rfl rfl rfl rfl rfl rfl rfl) ?_))
    rintro _ _ rfl
    refine oD (sg rfl) rfl (nn (cw_ret (kw_nx_ret (kw_addNil 3 (kw_addNil 4 ?_)))))
    have q0 := Option.some.inj H0
    subst q0
    exact kw_ret Tryd.results19 (.cons (.cellN (us := [_, _]) ts26 rfl (Cells.box (id := 2) rfl 2 rfl)) (.cons (.tmp rfl) .nil)) [(0, []), (1, [])] [3, 4] ⟨3, [4], rfl, rfl, 4, [], rfl, rfl, trivial⟩ (by decide) ⟨none, 0, 0, [], none, 0, 0, [], rfl, rfl, rfl, (OwnC.nil _ _), rfl, (OwnC.nil _ _)⟩
  · have H0 := cond_f H0 h5
    obtain ⟨x6, e6, H0⟩ := bind_some H0
    refine cw_skip (kw_nx (sr (oD (stp_loadN (us := [_, _]) ts26 rfl (Cells.box (id := 0) rfl 2 rfl)) rfl (oD (mv rfl) rfl (oE (stpU_call (fun i => 5 + i) cf49 (fun w hw => c_s_l3Unmap fl w a0 p0_0 ((a0.b).length) c0_0 p0_1 ((a0.f).length) c0_1 x4.1 rfl (RO.pass hr0_0 hw) rfl (RO.pass hr0_1 hw) x6 e6) (sevs_cons rfl (sevs_cons rfl sevs_nil))) rfl ?_)))))
    rintro _ _ ⟨_, ⟨p7, n8, c9, C10, p11, n12, c13, C14, rfl, rfl, hnn8, o10, hnn12, o14⟩, rfl⟩
    obtain rfl := hnn8
    obtain rfl := hnn12
    refine oF (stpU_store (id := 2) (cs' := [.slice p7 ((x6.b).length) c9, .slice p11 ((x6.f).length) c13]) ts26 rfl rfl rfl rfl rfl rfl rfl) ?_
    rintro _ _ rfl
    refine oD (sg rfl) rfl (nn (cw_ret ?_))
    have q0 := Option.some.inj H0
    subst q0
    exact kw_ret Tryd.results19 (.cons (.cellN (us := [_, _]) ts26 rfl (Cells.box (id := 2) rfl 2 rfl)) (.cons (.tmp rfl) .nil)) [(0, C10), (1, C14)] [5, 6] ⟨5, [6], rfl, rfl, 6, [], rfl, rfl, trivial⟩ (by decide) ⟨p7, ((x6.b).length), c9, C10, p11, ((x6.f).length), c13, C14, rfl, rfl, rfl, o10, rfl, o14⟩

set_option maxHeartbeats 4000000 in
set_option maxRecDepth 20000 in
theorem c_s_l3Draw (fl : Nat) (w : World) (m0 : Nat) (a0_0 : (List UInt8)) (p0_0_0 : Option Addr) (n0_0_0 c0_0_0 : Nat) (a0_1 : Int) (hn0_0_0 : n0_0_0 = (a0_0).length) (hr0_0_0 : RO w (hkeys [(0, [(m0, .cells #[.slice p0_0_0 n0_0_0 c0_0_0, .int .i64 a0_1] 81 (0, 0))])]) (RdL p0_0_0 c0_0_0 a0_0)) (hM : Sat w (hkeys [(0, [(m0, .cells #[.slice p0_0_0 n0_0_0 c0_0_0, .int .i64 a0_1] 81 (0, 0))])]) w [(0, [(m0, .cells #[.slice p0_0_0 n0_0_0 c0_0_0, .int .i64 a0_1] 81 (0, 0))])]) (r : T × Int) (H0 : s_l3Draw fl a0_0 a0_1 = some r) :
    Ct Tryd.prog 24 [.pointer (some ⟨m0, 0, none⟩)] w [(0, [(m0, .cells #[.slice p0_0_0 n0_0_0 c0_0_0, .int .i64 a0_1] 81 (0, 0))])] (fun rv h' => ∃ (x1 : Option Addr) (y1 z1 : Nat) (C1 : Res) (x2 : Option Addr) (y2 z2 : Nat) (C2 : Res), rv = .agg #[.slice x1 y1 z1, .slice x2 y2 z2] ∧ h' = [(0, [(m0, .cells #[.slice p0_0_0 n0_0_0 c0_0_0, .int .i64 r.2] 81 (0, 0))]), (1, C1), (2, C2)] ∧ y1 = (r.1.b).length ∧ OwnC 3 x1 z1 r.1.b C1 ∧ y2 = (r.1.f).length ∧ OwnC 58 x2 z2 r.1.f C2) := by
  obtain rfl := hn0_0_0
  unfold s_l3Draw at H0
  refine ct_of_cw Tryd.func24 rfl Tryd.ntmps24 rfl hM ?_
  refine sr (oE (stpU_alloc 1 tz26 rfl) rfl ?_)
  rintro _ _ ⟨b1, rfl, rfl⟩
  refine nn (sr (oD (mv rfl) rfl (oE (stpU_lit (sz := 1) (l := [6, 4, 8, 2, 1]) [.int .i64 6, .int .i64 4, .int .i64 8, .int .i64 2, .int .i64 1] sl23 2 (sevp_cons rfl (sevp_cons rfl (sevp_cons rfl (sevp_cons rfl (sevp_cons rfl sevp_nil))))) rfl rfl rfl rfl rfl rfl rfl rfl rfl) rfl ?_)))
  rintro _ _ ⟨p2, C3, rfl, rfl, o3⟩
  obtain ⟨x4, e4, H0⟩ := bind_some H0
  refine oE (stpU_callM (fun i => bif Nat.beq i 0 then 0 else 3 + i) cf26 (fun w hw hb => c_s_l12Rd_num fl w m0 a0_0 p0_0_0 ((a0_0).length) c0_0_0 a0_1 ([6, 4, 8, 2, 1]) p2 5 5 rfl (RO.passM hr0_0_0 hw hb) (by simp) (OwnC.passM (id := 2) rfl o3 hw hb ⟨rfl, trivial⟩) (hw.pass (js := [0]) ⟨0, [], rfl, rfl, trivial⟩ (by decide)) x4 e4) (sevs_cons rfl (sevs_cons rfl sevs_nil)) ⟨rfl, (fun _ _ hp => by obtain ⟨_, rfl⟩ := hp; exact ⟨_, rfl⟩), trivial⟩) rfl ?_
  rintro _ _ ⟨_, ⟨rfl, rfl⟩, rfl⟩
  refine oD (mv rfl) rfl (oE (stpU_lit (sz := 1) (l := [4, 2, 8, 1, 3]) [.int .i64 4, .int .i64 2, .int .i64 8, .int .i64 1, .int .i64 3] sl23 4 (sevp_cons rfl (sevp_cons rfl (sevp_cons rfl (sevp_cons rfl (sevp_cons rfl sevp_nil))))) rfl rfl rfl rfl rfl rfl rfl rfl rfl) rfl ?_)
  rintro _ _ ⟨p5, C6, rfl, rfl, o6⟩
  obtain ⟨x7, e7, H0⟩ := bind_some H0
  refine oE (stpU_callM (fun i => bif Nat.beq i 0 then 0 else 5 + i) cf26 (fun w hw hb => c_s_l12Rd_num fl w m0 a0_0 p0_0_0 ((a0_0).length) c0_0_0 x4.2 ([4, 2, 8, 1, 3]) p5 5 5 rfl (RO.passM hr0_0_0 hw hb) (by simp) (OwnC.passM (id := 4) rfl o6 hw hb ⟨rfl, trivial⟩) (hw.pass (js := [0]) ⟨0, [], rfl, rfl, trivial⟩ (by decide)) x7 e7) (sevs_cons rfl (sevs_cons rfl sevs_nil)) ⟨rfl, (fun _ _ hp => by obtain ⟨_, rfl⟩ := hp; exact ⟨_, rfl⟩), trivial⟩) rfl ?_
  rintro _ _ ⟨_, ⟨rfl, rfl⟩, rfl⟩
  obtain ⟨x8, e8, H0⟩ := bind_some H0
  refine oE (stpU_call (fun i => 6 + i) cf55 (fun w hw => c_s_NewTable fl w x4.1 x7.1 x8 e8) (sevs_cons rfl (sevs_cons rfl sevs_nil))) rfl ?_
  rintro _ _ ⟨_, ⟨p9, n10, c11, C12, p13, n14, c15, C16, rfl, rfl, hnn10, o12, hnn14, o16⟩, rfl⟩
  obtain rfl := hnn10
  obtain rfl := hnn14
  refine oD (mv rfl) rfl (oD (stp_extract rfl rfl) rfl (oD (stp_extract rfl rfl) rfl (oE (stpU_alloc 8 tz26 rfl) rfl ?_)))
  rintro _ _ ⟨b17, rfl, rfl⟩
  refine oF (stpU_store (id := 8) (cs' := [.slice p9 ((x8.1.b).length) c11, .slice p13 ((x8.1.f).length) c15]) ts26 rfl rfl rfl rfl rfl rfl rfl) ?_
  rintro _ _ rfl
  refine oD (sg rfl) rfl (nn (cw_seq (sr (oD (mv rfl) rfl (oE (stpU_lit (sz := 1) (l := [4, 3, 6, 1, 0]) [.int .i64 4, .int .i64 3, .int .i64 6, .int .i64 1, .int .i64 0] sl23 9 (sevp_cons rfl (sevp_cons rfl (sevp_cons rfl (sevp_cons rfl (sevp_cons rfl sevp_nil))))) rfl rfl rfl rfl rfl rfl rfl rfl rfl) rfl ?_)))))
  rintro _ _ ⟨p18, C19, rfl, rfl, o19⟩
  obtain ⟨x20, e20, H0⟩ := bind_some H0
  refine oE (stpU_callM (fun i => bif Nat.beq i 0 then 0 else 10 + i) cf26 (fun w hw hb => c_s_l12Rd_num fl w m0 a0_0 p0_0_0 ((a0_0).length) c0_0_0 x7.2 ([4, 3, 6, 1, 0]) p18 5 5 rfl (RO.passM hr0_0_0 hw hb) (by simp) (OwnC.passM (id := 9) rfl o19 hw hb ⟨rfl, trivial⟩) (hw.pass (js := [0]) ⟨0, [], rfl, rfl, trivial⟩ (by decide)) x20 e20) (sevs_cons rfl (sevs_cons rfl sevs_nil)) ⟨rfl, (fun _ _ hp => by obtain ⟨_, rfl⟩ := hp; exact ⟨_, rfl⟩), trivial⟩) rfl ?_
  rintro _ _ ⟨_, ⟨rfl, rfl⟩, rfl⟩
  obtain ⟨o0_0, eo0_0, H0⟩ := bind_some H0
  refine oD (sg rfl) rfl (nn (cw_join (ι := Int × (List Int) × (List F) × Int × Option Addr × Nat × Nat × Res × Option Addr × Nat × Nat × Res) (fun | (v21, v22, v27, v32, p23, n24, c25, C26, p28, n29, c30, C31) => o0_0 = .out (v21, v22, v27, v32) ∧ n24 = (v22).length ∧ OwnC (α := Int) 3 p23 c25 v22 C26 ∧ n29 = (v27).length ∧ OwnC (α := F) 58 p28 c30 v27 C31) (fun | (v21, v22, v27, v32, p23, n24, c25, C26, p28, n29, c30, C31) => [(0, .pointer (some ⟨m0, 0, none⟩)), (2, .pointer (some ⟨b1, 0, none⟩)), (3, .pointer (some ⟨b17, 0, none⟩)), (5, .int .i64 v32)]) (fun | (v21, v22, v27, v32, p23, n24, c25, C26, p28, n29, c30, C31) => [(0, [(m0, .cells #[.slice p0_0_0 ((a0_0).length) c0_0_0, .int .i64 v21] 81 (0, 0))]), (1, [(b1, .cells #[.slice none 0 0, .slice none 0 0] 26 (0, 0))]), (6, C26), (7, C31), (8, [(b17, .cells #[.slice p23 n24 c25, .slice p28 n29 c30] 26 (0, 0))])]) ?_ ?_))
  · refine cw_block (cw_loopS (ι := Nat × Int × (List Int) × (List F) × Int × Option Addr × Nat × Nat × Res × Option Addr × Nat × Nat × Res) (js := [0, 1, 6, 7, 8]) (fun x => x.1) (fun | (fuel, v21, v22, v27, v32, p23, n24, c25, C26, p28, n29, c30, C31) => s_l3Draw_L0 fl a0_0 fuel v21 v22 v27 v32 = some o0_0 ∧ n24 = (v22).length ∧ OwnC (α := Int) 3 p23 c25 v22 C26 ∧ n29 = (v27).length ∧ OwnC (α := F) 58 p28 c30 v27 C31) (fun | (_, v21, v22, v27, v32, p23, n24, c25, C26, p28, n29, c30, C31) => [(0, .pointer (some ⟨m0, 0, none⟩)), (2, .pointer (some ⟨b1, 0, none⟩)), (3, .pointer (some ⟨b17, 0, none⟩)), (5, .int .i64 v32)]) (fun | (_, v21, v22, v27, v32, p23, n24, c25, C26, p28, n29, c30, C31) => [(0, [(m0, .cells #[.slice p0_0_0 ((a0_0).length) c0_0_0, .int .i64 v21] 81 (0, 0))]), (1, [(b1, .cells #[.slice none 0 0, .slice none 0 0] 26 (0, 0))]), (6, C26), (7, C31), (8, [(b17, .cells #[.slice p23 n24 c25, .slice p28 n29 c30] 26 (0, 0))])]) (fl, x20.2, x8.1.b, x8.1.f, x20.1, p9, ((x8.1.b).length), c11, C12, p13, ((x8.1.f).length), c15, C16) ⟨eo0_0, rfl, o12, rfl, o16⟩ ⟨rfl, rfl, rfl, rfl, trivial⟩ ⟨0, [1, 6, 7, 8], rfl, rfl, 1, [6, 7, 8], rfl, rfl, 6, [7, 8], rfl, rfl, 7, [8], rfl, rfl, 8, [], rfl, rfl, trivial⟩ (by decide) ?_)
    rintro ⟨fuel, v21, v22, v27, v32, p23, n24, c25, C26, p28, n29, c30, C31⟩ ⟨H1, hnn24, o26, hnn29, o31⟩
    obtain rfl := hnn24
    obtain rfl := hnn29
    have H1 : s_l3Draw_L0 fl a0_0 fuel v21 v22 v27 v32 = some o0_0 := H1
    rcases fuel with _ | fuel
    · rw [s_l3Draw_L0.eq_1] at H1; cases H1
    rw [s_l3Draw_L0.eq_2] at H1
    refine CW.sub (s' := [(0, .pointer (some ⟨m0, 0, none⟩)), (2, .pointer (some ⟨b1, 0, none⟩)), (3, .pointer (some ⟨b17, 0, none⟩)), (5, .int .i64 v32)]) (h' := [(0, [(m0, .cells #[.slice p0_0_0 ((a0_0).length) c0_0_0, .int .i64 v21] 81 (0, 0))]), (1, [(b1, .cells #[.slice none 0 0, .slice none 0 0] 26 (0, 0))]), (6, C26), (7, C31), (8, [(b17, .cells #[.slice p23 ((v22).length) c25, .slice p28 ((v27).length) c30] 26 (0, 0))])]) ?_ ⟨rfl, rfl, rfl, rfl, trivial⟩ ⟨rfl, rfl, rfl, rfl, rfl, trivial⟩
    refine cw_seq (sr (oD (mv rfl) rfl (oD (stp_gtr rfl rfl) rfl (nn (cw_cond rfl (fun h33 => ?_) (fun h33 => ?_))))))
    · have H1 := cond_t H1 h33
      obtain ⟨x34, e34, H1⟩ := bind_some H1
      obtain ⟨x35, e35, H1⟩ := bind_some H1
      obtain ⟨x38, e38, H1⟩ := bind_some H1
      obtain ⟨x39, e39, H1⟩ := bind_some H1
      refine cw_skip (kw_nx (cw_seq (cw_block (cw_seq (rdr g_mixed [0, 3] [0, 6, 7, 8] { dst := dS [27, 28, 29, 30, 31, 32, 33, 34, 35, 36, 37, 38, 26, 39, 40, 7, 0, 8], pre := gA [] [[], [], [1], [], [], [4], [4, 5], rn 1 6, [], [], rn 1 9, rn 0 11, rn 0 12, rn 0 13, rn 0 13, [], [0, 1, 2, 3, 4, 5, 6, 7, 8, 9, 10, 11, 12, 13, 15], rn 0 17], ids := gA [] [[], [], [0], [], [], [], [], [0], [], [13], [0], [15, 16], [], [], [], [17], [17]], rs := rL [[(3, 0)], [(0, 0)], [(27, 2)], [(0, 0)], [(3, 0)], [(30, 5)], [(31, 6)], [(29, 4), (32, 7)], [(0, 0)], [], [(34, 9), (35, 10)], [(26, 1), (28, 3), (33, 8), (36, 11)], [(37, 12)], [(25, 13)], [(25, 13)], [], [(6, 16), (38, 14)], [(39, 15)]], rh := rL [[(8, 0)], [], [(0, 0)], [], [], [(8, 0)], [], [(0, 3)], [], [], [(0, 8), (13, 10)], [(6, 0), (7, 0)], [], [], [], [], [(17, 16)]], V := fun i g => gA undef [.agg #[.slice p23 ((v22).length) c25, .slice p28 ((v27).length) c30], .pointer (some ⟨m0, 0, none⟩), .agg #[.int .i64 x34.1.s, .int .i64 x34.1.p], .pointer (some ⟨m0, 0, none⟩), .pointer (some ⟨b17, 1, none⟩), .slice p28 ((v27).length) c30, .int .i64 ((v27).length : Int), .int .i64 x35.1, .pointer (some ⟨m0, 0, none⟩), .slice ((g 9).A 0) 5 5, .int .i64 x38.1, .tuple #[.agg #[.slice ((g 11).A 0) ((x39.1.b).length) ((g 11).C 0), .slice ((g 11).A 1) ((x39.1.f).length) ((g 11).C 1)], .bool x39.2], .tuple #[.agg #[.slice ((g 11).A 0) ((x39.1.b).length) ((g 11).C 0), .slice ((g 11).A 1) ((x39.1.f).length) ((g 11).C 1)], .bool x39.2], .agg #[.slice ((g 11).A 0) ((x39.1.b).length) ((g 11).C 0), .slice ((g 11).A 1) ((x39.1.f).length) ((g 11).C 1)], .bool x39.2, .pointer (some ⟨((g 15).C 0), 0, none⟩), undef, .bool x39.2] i, U := fun i g => gA [] [[], [], [(0, [(m0, .cells #[.slice p0_0_0 ((a0_0).length) c0_0_0, .int .i64 x34.2] 81 (0, 0))])], [], [], [], [], [(0, [(m0, .cells #[.slice p0_0_0 ((a0_0).length) c0_0_0, .int .i64 x35.2] 81 (0, 0))])], [], [(13, ((g 9).R 0))], [(0, [(m0, .cells #[.slice p0_0_0 ((a0_0).length) c0_0_0, .int .i64 x38.2] 81 (0, 0))])], [(15, ((g 11).R 0)), (16, ((g 11).R 1))], [], [], [], [(17, [(((g 15).C 0), .cells #[.slice none 0 0, .slice none 0 0] 26 (0, 0))])], [(17, [(((g 15).C 0), .cells #[.slice ((g 11).A 0) ((x39.1.b).length) ((g 11).C 0), .slice ((g 11).A 1) ((x39.1.f).length) ((g 11).C 1)] 26 (0, 0))])]] i, Φ := fun i x => match i with | 9 => OwnC (α := Int) 3 (x.A 0) 5 ([3, 1, 7, 5, 0]) (x.R 0) | 11 => OwnC (α := Int) 3 (x.A 0) (x.C 0) x39.1.b (x.R 0) ∧ OwnC (α := F) 58 (x.A 1) (x.C 1) x39.1.f (x.R 1) | _ => True } ?_ ?_)))))
      · refine ⟨⟨⟨⟨⟨⟨⟨⟨⟨⟨⟨⟨⟨⟨⟨⟨⟨⟨trivial, lc rfl rfl fun hs hh => stp_loadN (us := [_, _]) ts26 (sv hs 3 rfl) (Cells.box (id := 8) (hh.get 8 _ rfl) 2 rfl)⟩, lc rfl rfl fun hs hh => stp_move (sv hs 0 rfl)⟩, ?_⟩, lc rfl rfl fun hs hh => stp_move (sv hs 0 rfl)⟩, lc rfl rfl fun hs hh => stp_fieldAddr (j := 1) Tryd.underlying26 rfl ts24 rfl (sv hs 3 rfl) rfl⟩, lc rfl rfl fun hs hh => stp_load1 ts24 (sv hs 30 rfl) (Cells.box (id := 8) (hh.get 8 _ rfl) 1 rfl)⟩, lc rfl rfl fun hs hh => stp_len Tryd.underlying24 (sv hs 31 rfl)⟩, ?_⟩, lc rfl rfl fun hs hh => stp_move (sv hs 0 rfl)⟩, ?_⟩, ?_⟩, ?_⟩, lc rfl rfl fun hs hh => stp_move (sv hs 37 rfl)⟩, lc rfl rfl fun hs hh => stp_extract (sv hs 25 rfl) rfl⟩, lc rfl rfl fun hs hh => stp_extract (sv hs 25 rfl) rfl⟩, ?_⟩, ?_⟩, lc rfl rfl fun hs hh => stp_assign (sv hs 39 rfl)⟩
        · refine le rfl rfl (fun g hΦ s h hs hh => (stpU_callM (fun i => bif Nat.beq i 0 then 0 else 11 + i) cf54 (fun w hw hb => c_s_l2Draw fl w m0 a0_0 p0_0_0 ((a0_0).length) c0_0_0 v21 rfl (RO.passM hr0_0_0 hw hb) (hw.pass (js := [0]) ⟨0, [], rfl, (hh.get 0 _ rfl), trivial⟩ (by decide)) x34 e34) (sevs_cons (sv hs 27 rfl) sevs_nil) ⟨(hh.get 0 _ rfl), (fun _ _ hp => by obtain ⟨_, rfl⟩ := hp; exact ⟨_, rfl⟩), trivial⟩)) ?_
          rintro g _ _ ⟨_, ⟨rfl, rfl⟩, rfl⟩
          exact ⟨⟨[], [], []⟩, trivial, .inr rfl, rfl⟩
        · refine le rfl rfl (fun g hΦ s h hs hh => (stpU_callM (fun i => bif Nat.beq i 0 then 0 else 12 + i) cf53 (fun w hw hb => c_s_l12Rd_pick fl w m0 a0_0 p0_0_0 ((a0_0).length) c0_0_0 x34.2 ((v27).length : Int) rfl (RO.passM hr0_0_0 hw hb) (hw.pass (js := [0]) ⟨0, [], rfl, (hh.get 0 _ rfl), trivial⟩ (by decide)) x35 e35) (sevs_cons (sv hs 29 rfl) (sevs_cons (sv hs 32 rfl) sevs_nil)) ⟨(hh.get 0 _ rfl), (fun _ _ hp => by obtain ⟨_, rfl⟩ := hp; exact ⟨_, rfl⟩), trivial⟩)) ?_
          rintro g _ _ ⟨_, ⟨rfl, rfl⟩, rfl⟩
          exact ⟨⟨[], [], []⟩, trivial, .inr rfl, rfl⟩
        · refine le rfl rfl (fun g hΦ s h hs hh => (stpU_lit (sz := 1) (l := [3, 1, 7, 5, 0]) [.int .i64 3, .int .i64 1, .int .i64 7, .int .i64 5, .int .i64 0] sl23 13 (sevp_cons rfl (sevp_cons rfl (sevp_cons rfl (sevp_cons rfl (sevp_cons rfl sevp_nil))))) rfl rfl rfl rfl rfl rfl rfl rfl rfl)) ?_
          rintro g _ _ ⟨p36, C37, rfl, rfl, o37⟩
          exact ⟨⟨[p36], [], [C37]⟩, o37, .inr rfl, rfl⟩
        · refine le rfl rfl (fun g hΦ s h hs hh => (stpU_callM (fun i => bif Nat.beq i 0 then 0 else 14 + i) cf26 (fun w hw hb => c_s_l12Rd_num fl w m0 a0_0 p0_0_0 ((a0_0).length) c0_0_0 x35.2 ([3, 1, 7, 5, 0]) ((g 9).A 0) 5 5 rfl (RO.passM hr0_0_0 hw hb) (by simp) (OwnC.passM (id := 13) (hh.get 13 _ rfl) (hΦ 9 rfl) hw hb ⟨rfl, trivial⟩) (hw.pass (js := [0]) ⟨0, [], rfl, (hh.get 0 _ rfl), trivial⟩ (by decide)) x38 e38) (sevs_cons (sv hs 34 rfl) (sevs_cons (sv hs 35 rfl) sevs_nil)) ⟨(hh.get 0 _ rfl), (fun _ _ hp => by obtain ⟨_, rfl⟩ := hp; exact ⟨_, rfl⟩), trivial⟩)) ?_
          rintro g _ _ ⟨_, ⟨rfl, rfl⟩, rfl⟩
          exact ⟨⟨[], [], []⟩, trivial, .inr rfl, rfl⟩
        · refine le rfl rfl (fun g hΦ s h hs hh => (stpU_call (fun i => 15 + i) cf9 (fun w hw => c_s_MapPage fl w (⟨v22, v27⟩ : T) p23 ((v22).length) c25 p28 ((v27).length) c30 x34.1 x35.1 x38.1 rfl (OwnC.pass (id := 6) (hh.get 6 _ rfl) o26 hw) rfl (OwnC.pass (id := 7) (hh.get 7 _ rfl) o31 hw) x39 e39) (sevs_cons (sv hs 26 rfl) (sevs_cons (sv hs 28 rfl) (sevs_cons (sv hs 33 rfl) (sevs_cons (sv hs 36 rfl) sevs_nil)))))) ?_
          rintro g _ _ ⟨_, ⟨p40, n41, c42, C43, p44, n45, c46, C47, rfl, rfl, hnn41, o43, hnn45, o47⟩, rfl⟩
          obtain rfl := hnn41
          obtain rfl := hnn45
          exact ⟨⟨[p40, p44], [c42, c46], [C43, C47]⟩, ⟨o43, o47⟩, .inr rfl, rfl⟩
        · refine le rfl rfl (fun g hΦ s h hs hh => (stpU_alloc 17 tz26 rfl)) ?_
          rintro g _ _ ⟨b48, rfl, rfl⟩
          exact ⟨⟨[], [b48], []⟩, trivial, .inr rfl, rfl⟩
        · refine le rfl rfl (fun g hΦ s h hs hh => (stpU_store (id := 17) (cs' := [.slice ((g 11).A 0) ((x39.1.b).length) ((g 11).C 0), .slice ((g 11).A 1) ((x39.1.f).length) ((g 11).C 1)]) ts26 (sv hs 6 rfl) (sv hs 38 rfl) (hh.get 17 _ rfl) rfl rfl rfl rfl)) ?_
          rintro g _ _ rfl
          exact ⟨⟨[], [], []⟩, trivial, .inl rfl, rfl⟩
      · intro g hΦ
        refine kw_gen (ι := Option Addr × Res × Option Addr × Option Addr × Nat × Nat × Res × Res × Nat) (((g 9).A 0), ((g 9).R 0), ((g 11).A 0), ((g 11).A 1), ((g 11).C 0), ((g 11).C 1), ((g 11).R 0), ((g 11).R 1), ((g 15).C 0)) (fun | (p36, C37, p40, p44, c42, c46, C43, C47, b48) => OwnC (α := Int) 3 p36 5 ([3, 1, 7, 5, 0]) C37 ∧ OwnC (α := Int) 3 p40 c42 x39.1.b C43 ∧ OwnC (α := F) 58 p44 c46 x39.1.f C47) (fun | (p36, C37, p40, p44, c42, c46, C43, C47, b48) => [(0, .pointer (some ⟨m0, 0, none⟩)), (2, .pointer (some ⟨b1, 0, none⟩)), (3, .pointer (some ⟨b17, 0, none⟩)), (5, .int .i64 v32), (6, .pointer (some ⟨b48, 0, none⟩)), (7, .bool x39.2)]) (fun | (p36, C37, p40, p44, c42, c46, C43, C47, b48) => [(0, [(m0, .cells #[.slice p0_0_0 ((a0_0).length) c0_0_0, .int .i64 x38.2] 81 (0, 0))]), (1, [(b1, .cells #[.slice none 0 0, .slice none 0 0] 26 (0, 0))]), (6, C26), (7, C31), (8, [(b17, .cells #[.slice p23 ((v22).length) c25, .slice p28 ((v27).length) c30] 26 (0, 0))]), (15, C43), (16, C47), (17, [(b48, .cells #[.slice p40 ((x39.1.b).length) c42, .slice p44 ((x39.1.f).length) c46] 26 (0, 0))])]) ⟨(hΦ 9 (by decide)), (hΦ 11 (by decide)).1, (hΦ 11 (by decide)).2⟩ ⟨rfl, rfl, rfl, rfl, rfl, rfl, trivial⟩ ⟨rfl, rfl, rfl, rfl, rfl, rfl, rfl, rfl, trivial⟩ ?_
        rintro ⟨p36, C37, p40, p44, c42, c46, C43, C47, b48⟩ ⟨o37, o43, o47⟩
        refine KW.sub (s' := [(0, .pointer (some ⟨m0, 0, none⟩)), (2, .pointer (some ⟨b1, 0, none⟩)), (3, .pointer (some ⟨b17, 0, none⟩)), (5, .int .i64 v32), (6, .pointer (some ⟨b48, 0, none⟩)), (7, .bool x39.2)]) (h' := [(0, [(m0, .cells #[.slice p0_0_0 ((a0_0).length) c0_0_0, .int .i64 x38.2] 81 (0, 0))]), (1, [(b1, .cells #[.slice none 0 0, .slice none 0 0] 26 (0, 0))]), (6, C26), (7, C31), (8, [(b17, .cells #[.slice p23 ((v22).length) c25, .slice p28 ((v27).length) c30] 26 (0, 0))]), (15, C43), (16, C47), (17, [(b48, .cells #[.slice p40 ((x39.1.b).length) c42, .slice p44 ((x39.1.f).length) c46] 26 (0, 0))])]) ?_ ⟨rfl, rfl, rfl, rfl, rfl, rfl, trivial⟩ ⟨rfl, rfl, rfl, rfl, rfl, rfl, rfl, rfl, trivial⟩
        refine kw_nx (cw_seq (sr (oD (mv rfl) rfl (nn (cw_cond rfl (fun h49 => ?_) (fun h49 => ?_))))))
        · have H1 := cond_t H1 h49
          refine cw_region (oD (stp_loadN (us := [_, _]) ts26 rfl (Cells.box (id := 17) rfl 2 rfl)) rfl (oF (stpU_store (id := 8) (cs' := [.slice p40 ((x39.1.b).length) c42, .slice p44 ((x39.1.f).length) c46]) ts26 rfl rfl rfl rfl rfl rfl rfl) ?_))
          rintro _ _ rfl
          obtain ⟨x50, e50, H1⟩ := bind_some H1
          refine nn (sr (oD (mv rfl) rfl (oE (stpU_callM (fun i => bif Nat.beq i 0 then 0 else 18 + i) cf53 (fun w hw hb => c_s_l12Rd_pick fl w m0 a0_0 p0_0_0 ((a0_0).length) c0_0_0 x38.2 8 rfl (RO.passM hr0_0_0 hw hb) (hw.pass (js := [0]) ⟨0, [], rfl, rfl, trivial⟩ (by decide)) x50 e50) (sevs_cons rfl (sevs_cons rfl sevs_nil)) ⟨rfl, (fun _ _ hp => by obtain ⟨_, rfl⟩ := hp; exact ⟨_, rfl⟩), trivial⟩) rfl ?_)))
          rintro _ _ ⟨_, ⟨rfl, rfl⟩, rfl⟩
          refine oD (stp_eql rfl rfl) rfl (nn (cw_cond rfl (fun h51 => ?_) (fun h51 => ?_)))
          · have H1 := cond_t H1 h51
            obtain ⟨x52, e52, H1⟩ := bind_some H1
            obtain ⟨x53, e53, H1⟩ := bind_some H1
            refine cw_seq (rdr g_mixed [0, 3, 6] [0, 8, 15, 16, 17] { dst := dS [47, 48, 49, 50, 46, 51, 52, 0, 8], pre := gA [] [[], [], [1], [0, 1, 2], rn 0 4, rn 0 5, rn 0 5, rn 0 6, rn 0 8], ids := gA [] [[], [], [0], [20, 21], [], [], [], [17]], rs := rL [[(3, 0)], [(0, 0)], [(47, 2)], [(46, 1), (48, 3)], [(49, 4)], [(45, 5)], [(45, 5)], [(6, 0), (50, 6)], [(51, 7)]], rh := rL [[(8, 0)], [], [(0, 0)], [(15, 0), (16, 0)], [], [], [], [(17, 0)]], V := fun i g => gA undef [.agg #[.slice p40 ((x39.1.b).length) c42, .slice p44 ((x39.1.f).length) c46], .pointer (some ⟨m0, 0, none⟩), .agg #[.int .i64 x52.1.s, .int .i64 x52.1.p], .tuple #[.agg #[.slice ((g 3).A 0) ((x53.1.b).length) ((g 3).C 0), .slice ((g 3).A 1) ((x53.1.f).length) ((g 3).C 1)], .bool x53.2], .tuple #[.agg #[.slice ((g 3).A 0) ((x53.1.b).length) ((g 3).C 0), .slice ((g 3).A 1) ((x53.1.f).length) ((g 3).C 1)], .bool x53.2], .agg #[.slice ((g 3).A 0) ((x53.1.b).length) ((g 3).C 0), .slice ((g 3).A 1) ((x53.1.f).length) ((g 3).C 1)], .bool x53.2, undef, .bool x53.2] i, U := fun i g => gA [] [[], [], [(0, [(m0, .cells #[.slice p0_0_0 ((a0_0).length) c0_0_0, .int .i64 x52.2] 81 (0, 0))])], [(20, ((g 3).R 0)), (21, ((g 3).R 1))], [], [], [], [(17, [(b48, .cells #[.slice ((g 3).A 0) ((x53.1.b).length) ((g 3).C 0), .slice ((g 3).A 1) ((x53.1.f).length) ((g 3).C 1)] 26 (0, 0))])]] i, Φ := fun i x => gA True [True, True, True, OwnC (α := Int) 3 (x.A 0) (x.C 0) x53.1.b (x.R 0) ∧ OwnC (α := F) 58 (x.A 1) (x.C 1) x53.1.f (x.R 1)] i } ?_ ?_)
            · refine ⟨⟨⟨⟨⟨⟨⟨⟨⟨trivial, lc rfl rfl fun hs hh => stp_loadN (us := [_, _]) ts26 (sv hs 3 rfl) (Cells.box (id := 8) (hh.get 8 _ rfl) 2 rfl)⟩, lc rfl rfl fun hs hh => stp_move (sv hs 0 rfl)⟩, ?_⟩, ?_⟩, lc rfl rfl fun hs hh => stp_move (sv hs 49 rfl)⟩, lc rfl rfl fun hs hh => stp_extract (sv hs 45 rfl) rfl⟩, lc rfl rfl fun hs hh => stp_extract (sv hs 45 rfl) rfl⟩, ?_⟩, lc rfl rfl fun hs hh => stp_assign (sv hs 51 rfl)⟩
              · refine le rfl rfl (fun g hΦ s h hs hh => (stpU_callM (fun i => bif Nat.beq i 0 then 0 else 19 + i) cf54 (fun w hw hb => c_s_l2Draw fl w m0 a0_0 p0_0_0 ((a0_0).length) c0_0_0 x50.2 rfl (RO.passM hr0_0_0 hw hb) (hw.pass (js := [0]) ⟨0, [], rfl, (hh.get 0 _ rfl), trivial⟩ (by decide)) x52 e52) (sevs_cons (sv hs 47 rfl) sevs_nil) ⟨(hh.get 0 _ rfl), (fun _ _ hp => by obtain ⟨_, rfl⟩ := hp; exact ⟨_, rfl⟩), trivial⟩)) ?_
                rintro g _ _ ⟨_, ⟨rfl, rfl⟩, rfl⟩
                exact ⟨⟨[], [], []⟩, trivial, .inr rfl, rfl⟩
              · refine le rfl rfl (fun g hΦ s h hs hh => (stpU_call (fun i => 20 + i) cf19 (fun w hw => c_s_UnmapPage fl w x39.1 p40 ((x39.1.b).length) c42 p44 ((x39.1.f).length) c46 x52.1 rfl (OwnC.pass (id := 15) (hh.get 15 _ rfl) o43 hw) rfl (OwnC.pass (id := 16) (hh.get 16 _ rfl) o47 hw) x53 e53) (sevs_cons (sv hs 46 rfl) (sevs_cons (sv hs 48 rfl) sevs_nil)))) ?_
                rintro g _ _ ⟨_, ⟨p54, n55, c56, C57, p58, n59, c60, C61, rfl, rfl, hnn55, o57, hnn59, o61⟩, rfl⟩
                obtain rfl := hnn55
                obtain rfl := hnn59
                exact ⟨⟨[p54, p58], [c56, c60], [C57, C61]⟩, ⟨o57, o61⟩, .inr rfl, rfl⟩
              · refine le rfl rfl (fun g hΦ s h hs hh => (stpU_store (id := 17) (cs' := [.slice ((g 3).A 0) ((x53.1.b).length) ((g 3).C 0), .slice ((g 3).A 1) ((x53.1.f).length) ((g 3).C 1)]) ts26 (sv hs 6 rfl) (sv hs 50 rfl) (hh.get 17 _ rfl) rfl rfl rfl rfl)) ?_
                rintro g _ _ rfl
                exact ⟨⟨[], [], []⟩, trivial, .inl rfl, rfl⟩
            · intro g hΦ
              refine kw_gen (ι := Option Addr × Option Addr × Nat × Nat × Res × Res) (((g 3).A 0), ((g 3).A 1), ((g 3).C 0), ((g 3).C 1), ((g 3).R 0), ((g 3).R 1)) (fun | (p54, p58, c56, c60, C57, C61) => OwnC (α := Int) 3 p54 c56 x53.1.b C57 ∧ OwnC (α := F) 58 p58 c60 x53.1.f C61) (fun | (p54, p58, c56, c60, C57, C61) => [(0, .pointer (some ⟨m0, 0, none⟩)), (2, .pointer (some ⟨b1, 0, none⟩)), (3, .pointer (some ⟨b17, 0, none⟩)), (5, .int .i64 v32), (6, .pointer (some ⟨b48, 0, none⟩)), (7, .bool x53.2)]) (fun | (p54, p58, c56, c60, C57, C61) => [(0, [(m0, .cells #[.slice p0_0_0 ((a0_0).length) c0_0_0, .int .i64 x52.2] 81 (0, 0))]), (1, [(b1, .cells #[.slice none 0 0, .slice none 0 0] 26 (0, 0))]), (8, [(b17, .cells #[.slice p40 ((x39.1.b).length) c42, .slice p44 ((x39.1.f).length) c46] 26 (0, 0))]), (15, C43), (16, C47), (17, [(b48, .cells #[.slice p54 ((x53.1.b).length) c56, .slice p58 ((x53.1.f).length) c60] 26 (0, 0))]), (20, C57), (21, C61)]) ⟨(hΦ 3 (by decide)).1, (hΦ 3 (by decide)).2⟩ ⟨rfl, rfl, rfl, rfl, rfl, rfl, trivial⟩ ⟨rfl, rfl, rfl, rfl, rfl, rfl, rfl, rfl, trivial⟩ ?_
              rintro ⟨p54, p58, c56, c60, C57, C61⟩ ⟨o57, o61⟩
              refine KW.sub (s' := [(0, .pointer (some ⟨m0, 0, none⟩)), (2, .pointer (some ⟨b1, 0, none⟩)), (3, .pointer (some ⟨b17, 0, none⟩)), (5, .int .i64 v32), (6, .pointer (some ⟨b48, 0, none⟩)), (7, .bool x53.2)]) (h' := [(0, [(m0, .cells #[.slice p0_0_0 ((a0_0).length) c0_0_0, .int .i64 x52.2] 81 (0, 0))]), (1, [(b1, .cells #[.slice none 0 0, .slice none 0 0] 26 (0, 0))]), (8, [(b17, .cells #[.slice p40 ((x39.1.b).length) c42, .slice p44 ((x39.1.f).length) c46] 26 (0, 0))]), (15, C43), (16, C47), (17, [(b48, .cells #[.slice p54 ((x53.1.b).length) c56, .slice p58 ((x53.1.f).length) c60] 26 (0, 0))]), (20, C57), (21, C61)]) ?_ ⟨rfl, rfl, rfl, rfl, rfl, rfl, trivial⟩ ⟨rfl, rfl, rfl, rfl, rfl, rfl, rfl, rfl, trivial⟩
              refine kw_nx (sr (oD (mv rfl) rfl (nn (cw_cond rfl (fun h62 => ?_) (fun h62 => ?_)))))
              · have H1 := cond_t H1 h62
                refine cw_region (oD (stp_loadN (us := [_, _]) ts26 rfl (Cells.box (id := 17) rfl 2 rfl)) rfl (oF (stpU_store (id := 8) (cs' := [.slice p54 ((x53.1.b).length) c56, .slice p58 ((x53.1.f).length) c60]) ts26 rfl rfl rfl rfl rfl rfl rfl) ?_))
                rintro _ _ rfl
                obtain ⟨x63, e63, H1⟩ := bind_some H1
                exact ow_nil (kw_bl_normal (kw_nx (cw_region (oD (mv rfl) rfl (oD (stp_sub rfl rfl e63) rfl (oD (sg rfl) rfl (ow_nil (kw_lqS (js := [0, 1, 20, 21, 8]) (fuel, x52.2, x53.1.b, x53.1.f, x63, p54, ((x53.1.b).length), c56, C57, p58, ((x53.1.f).length), c60, C61) ⟨H1, rfl, o57, rfl, o61⟩ (Nat.lt_succ_self _) ⟨rfl, rfl, rfl, rfl, trivial⟩ ⟨0, [1, 20, 21, 8], rfl, rfl, 1, [20, 21, 8], rfl, rfl, 20, [21, 8], rfl, rfl, 21, [8], rfl, rfl, 8, [], rfl, rfl, trivial⟩ (by decide)))))))))
              · have H1 := cond_f H1 h62
                obtain ⟨x64, e64, H1⟩ := bind_some H1
                exact cw_skip (kw_bl_normal (kw_nx (cw_region (oD (mv rfl) rfl (oD (stp_sub rfl rfl e64) rfl (oD (sg rfl) rfl (ow_nil (kw_lqS (js := [0, 1, 15, 16, 8]) (fuel, x52.2, x39.1.b, x39.1.f, x64, p40, ((x39.1.b).length), c42, C43, p44, ((x39.1.f).length), c46, C47) ⟨H1, rfl, o43, rfl, o47⟩ (Nat.lt_succ_self _) ⟨rfl, rfl, rfl, rfl, trivial⟩ ⟨0, [1, 15, 16, 8], rfl, rfl, 1, [15, 16, 8], rfl, rfl, 15, [16, 8], rfl, rfl, 16, [8], rfl, rfl, 8, [], rfl, rfl, trivial⟩ (by decide)))))))))
          · have H1 := cond_f H1 h51
            obtain ⟨x65, e65, H1⟩ := bind_some H1
            exact cw_skip (kw_bl_normal (kw_nx (cw_region (oD (mv rfl) rfl (oD (stp_sub rfl rfl e65) rfl (oD (sg rfl) rfl (ow_nil (kw_lqS (js := [0, 1, 15, 16, 8]) (fuel, x50.2, x39.1.b, x39.1.f, x65, p40, ((x39.1.b).length), c42, C43, p44, ((x39.1.f).length), c46, C47) ⟨H1, rfl, o43, rfl, o47⟩ (Nat.lt_succ_self _) ⟨rfl, rfl, rfl, rfl, trivial⟩ ⟨0, [1, 15, 16, 8], rfl, rfl, 1, [15, 16, 8], rfl, rfl, 15, [16, 8], rfl, rfl, 16, [8], rfl, rfl, 8, [], rfl, rfl, trivial⟩ (by decide)))))))))
        · have H1 := cond_f H1 h49
          obtain ⟨x66, e66, H1⟩ := bind_some H1
          refine cw_skip (kw_nx (sr (oD (mv rfl) rfl (oE (stpU_callM (fun i => bif Nat.beq i 0 then 0 else 22 + i) cf53 (fun w hw hb => c_s_l12Rd_pick fl w m0 a0_0 p0_0_0 ((a0_0).length) c0_0_0 x38.2 8 rfl (RO.passM hr0_0_0 hw hb) (hw.pass (js := [0]) ⟨0, [], rfl, rfl, trivial⟩ (by decide)) x66 e66) (sevs_cons rfl (sevs_cons rfl sevs_nil)) ⟨rfl, (fun _ _ hp => by obtain ⟨_, rfl⟩ := hp; exact ⟨_, rfl⟩), trivial⟩) rfl ?_))))
          rintro _ _ ⟨_, ⟨rfl, rfl⟩, rfl⟩
          refine oD (stp_eql rfl rfl) rfl (nn (cw_cond rfl (fun h67 => ?_) (fun h67 => ?_)))
          · have H1 := cond_t H1 h67
            obtain ⟨x68, e68, H1⟩ := bind_some H1
            obtain ⟨x69, e69, H1⟩ := bind_some H1
            refine cw_seq (rdr g_mixed [0, 3, 6] [0, 6, 7, 8, 17] { dst := dS [47, 48, 49, 50, 46, 51, 52, 0, 8], pre := gA [] [[], [], [1], [0, 1, 2], rn 0 4, rn 0 5, rn 0 5, rn 0 6, rn 0 8], ids := gA [] [[], [], [0], [24, 25], [], [], [], [17]], rs := rL [[(3, 0)], [(0, 0)], [(47, 2)], [(46, 1), (48, 3)], [(49, 4)], [(45, 5)], [(45, 5)], [(6, 0), (50, 6)], [(51, 7)]], rh := rL [[(8, 0)], [], [(0, 0)], [(6, 0), (7, 0)], [], [], [], [(17, 0)]], V := fun i g => gA undef [.agg #[.slice p23 ((v22).length) c25, .slice p28 ((v27).length) c30], .pointer (some ⟨m0, 0, none⟩), .agg #[.int .i64 x68.1.s, .int .i64 x68.1.p], .tuple #[.agg #[.slice ((g 3).A 0) ((x69.1.b).length) ((g 3).C 0), .slice ((g 3).A 1) ((x69.1.f).length) ((g 3).C 1)], .bool x69.2], .tuple #[.agg #[.slice ((g 3).A 0) ((x69.1.b).length) ((g 3).C 0), .slice ((g 3).A 1) ((x69.1.f).length) ((g 3).C 1)], .bool x69.2], .agg #[.slice ((g 3).A 0) ((x69.1.b).length) ((g 3).C 0), .slice ((g 3).A 1) ((x69.1.f).length) ((g 3).C 1)], .bool x69.2, undef, .bool x69.2] i, U := fun i g => gA [] [[], [], [(0, [(m0, .cells #[.slice p0_0_0 ((a0_0).length) c0_0_0, .int .i64 x68.2] 81 (0, 0))])], [(24, ((g 3).R 0)), (25, ((g 3).R 1))], [], [], [], [(17, [(b48, .cells #[.slice ((g 3).A 0) ((x69.1.b).length) ((g 3).C 0), .slice ((g 3).A 1) ((x69.1.f).length) ((g 3).C 1)] 26 (0, 0))])]] i, Φ := fun i x => gA True [True, True, True, OwnC (α := Int) 3 (x.A 0) (x.C 0) x69.1.b (x.R 0) ∧ OwnC (α := F) 58 (x.A 1) (x.C 1) x69.1.f (x.R 1)] i } ?_ ?_)
            · refine ⟨⟨⟨⟨⟨⟨⟨⟨⟨trivial, lc rfl rfl fun hs hh => stp_loadN (us := [_, _]) ts26 (sv hs 3 rfl) (Cells.box (id := 8) (hh.get 8 _ rfl) 2 rfl)⟩, lc rfl rfl fun hs hh => stp_move (sv hs 0 rfl)⟩, ?_⟩, ?_⟩, lc rfl rfl fun hs hh => stp_move (sv hs 49 rfl)⟩, lc rfl rfl fun hs hh => stp_extract (sv hs 45 rfl) rfl⟩, lc rfl rfl fun hs hh => stp_extract (sv hs 45 rfl) rfl⟩, ?_⟩, lc rfl rfl fun hs hh => stp_assign (sv hs 51 rfl)⟩
              · refine le rfl rfl (fun g hΦ s h hs hh => (stpU_callM (fun i => bif Nat.beq i 0 then 0 else 23 + i) cf54 (fun w hw hb => c_s_l2Draw fl w m0 a0_0 p0_0_0 ((a0_0).length) c0_0_0 x66.2 rfl (RO.passM hr0_0_0 hw hb) (hw.pass (js := [0]) ⟨0, [], rfl, (hh.get 0 _ rfl), trivial⟩ (by decide)) x68 e68) (sevs_cons (sv hs 47 rfl) sevs_nil) ⟨(hh.get 0 _ rfl), (fun _ _ hp => by obtain ⟨_, rfl⟩ := hp; exact ⟨_, rfl⟩), trivial⟩)) ?_
                rintro g _ _ ⟨_, ⟨rfl, rfl⟩, rfl⟩
                exact ⟨⟨[], [], []⟩, trivial, .inr rfl, rfl⟩
              · refine le rfl rfl (fun g hΦ s h hs hh => (stpU_call (fun i => 24 + i) cf19 (fun w hw => c_s_UnmapPage fl w (⟨v22, v27⟩ : T) p23 ((v22).length) c25 p28 ((v27).length) c30 x68.1 rfl (OwnC.pass (id := 6) (hh.get 6 _ rfl) o26 hw) rfl (OwnC.pass (id := 7) (hh.get 7 _ rfl) o31 hw) x69 e69) (sevs_cons (sv hs 46 rfl) (sevs_cons (sv hs 48 rfl) sevs_nil)))) ?_
                rintro g _ _ ⟨_, ⟨p70, n71, c72, C73, p74, n75, c76, C77, rfl, rfl, hnn71, o73, hnn75, o77⟩, rfl⟩
                obtain rfl := hnn71
                obtain rfl := hnn75
                exact ⟨⟨[p70, p74], [c72, c76], [C73, C77]⟩, ⟨o73, o77⟩, .inr rfl, rfl⟩
              · refine le rfl rfl (fun g hΦ s h hs hh => (stpU_store (id := 17) (cs' := [.slice ((g 3).A 0) ((x69.1.b).length) ((g 3).C 0), .slice ((g 3).A 1) ((x69.1.f).length) ((g 3).C 1)]) ts26 (sv hs 6 rfl) (sv hs 50 rfl) (hh.get 17 _ rfl) rfl rfl rfl rfl)) ?_
                rintro g _ _ rfl
                exact ⟨⟨[], [], []⟩, trivial, .inl rfl, rfl⟩
            · intro g hΦ
              refine kw_gen (ι := Option Addr × Option Addr × Nat × Nat × Res × Res) (((g 3).A 0), ((g 3).A 1), ((g 3).C 0), ((g 3).C 1), ((g 3).R 0), ((g 3).R 1)) (fun | (p70, p74, c72, c76, C73, C77) => OwnC (α := Int) 3 p70 c72 x69.1.b C73 ∧ OwnC (α := F) 58 p74 c76 x69.1.f C77) (fun | (p70, p74, c72, c76, C73, C77) => [(0, .pointer (some ⟨m0, 0, none⟩)), (2, .pointer (some ⟨b1, 0, none⟩)), (3, .pointer (some ⟨b17, 0, none⟩)), (5, .int .i64 v32), (6, .pointer (some ⟨b48, 0, none⟩)), (7, .bool x69.2)]) (fun | (p70, p74, c72, c76, C73, C77) => [(0, [(m0, .cells #[.slice p0_0_0 ((a0_0).length) c0_0_0, .int .i64 x68.2] 81 (0, 0))]), (1, [(b1, .cells #[.slice none 0 0, .slice none 0 0] 26 (0, 0))]), (6, C26), (7, C31), (8, [(b17, .cells #[.slice p23 ((v22).length) c25, .slice p28 ((v27).length) c30] 26 (0, 0))]), (17, [(b48, .cells #[.slice p70 ((x69.1.b).length) c72, .slice p74 ((x69.1.f).length) c76] 26 (0, 0))]), (24, C73), (25, C77)]) ⟨(hΦ 3 (by decide)).1, (hΦ 3 (by decide)).2⟩ ⟨rfl, rfl, rfl, rfl, rfl, rfl, trivial⟩ ⟨rfl, rfl, rfl, rfl, rfl, rfl, rfl, rfl, trivial⟩ ?_
              rintro ⟨p70, p74, c72, c76, C73, C77⟩ ⟨o73, o77⟩
              refine KW.sub (s' := [(0, .pointer (some ⟨m0, 0, none⟩)), (2, .pointer (some ⟨b1, 0, none⟩)), (3, .pointer (some ⟨b17, 0, none⟩)), (5, .int .i64 v32), (6, .pointer (some ⟨b48, 0, none⟩)), (7, .bool x69.2)]) (h' := [(0, [(m0, .cells #[.slice p0_0_0 ((a0_0).length) c0_0_0, .int .i64 x68.2] 81 (0, 0))]), (1, [(b1, .cells #[.slice none 0 0, .slice none 0 0] 26 (0, 0))]), (6, C26), (7, C31), (8, [(b17, .cells #[.slice p23 ((v22).length) c25, .slice p28 ((v27).length) c30] 26 (0, 0))]), (17, [(b48, .cells #[.slice p70 ((x69.1.b).length) c72, .slice p74 ((x69.1.f).length) c76] 26 (0, 0))]), (24, C73), (25, C77)]) ?_ ⟨rfl, rfl, rfl, rfl, rfl, rfl, trivial⟩ ⟨rfl, rfl, rfl, rfl, rfl, rfl, rfl, rfl, trivial⟩
              refine kw_nx (sr (oD (mv rfl) rfl (nn (cw_cond rfl (fun h78 => ?_) (fun h78 => ?_)))))
              · have H1 := cond_t H1 h78
                refine cw_region (oD (stp_loadN (us := [_, _]) ts26 rfl (Cells.box (id := 17) rfl 2 rfl)) rfl (oF (stpU_store (id := 8) (cs' := [.slice p70 ((x69.1.b).length) c72, .slice p74 ((x69.1.f).length) c76]) ts26 rfl rfl rfl rfl rfl rfl rfl) ?_))
                rintro _ _ rfl
                obtain ⟨x79, e79, H1⟩ := bind_some H1
                exact ow_nil (kw_bl_normal (kw_nx (cw_region (oD (mv rfl) rfl (oD (stp_sub rfl rfl e79) rfl (oD (sg rfl) rfl (ow_nil (kw_lqS (js := [0, 1, 24, 25, 8]) (fuel, x68.2, x69.1.b, x69.1.f, x79, p70, ((x69.1.b).length), c72, C73, p74, ((x69.1.f).length), c76, C77) ⟨H1, rfl, o73, rfl, o77⟩ (Nat.lt_succ_self _) ⟨rfl, rfl, rfl, rfl, trivial⟩ ⟨0, [1, 24, 25, 8], rfl, rfl, 1, [24, 25, 8], rfl, rfl, 24, [25, 8], rfl, rfl, 25, [8], rfl, rfl, 8, [], rfl, rfl, trivial⟩ (by decide)))))))))
              · have H1 := cond_f H1 h78
                obtain ⟨x80, e80, H1⟩ := bind_some H1
                exact cw_skip (kw_bl_normal (kw_nx (cw_region (oD (mv rfl) rfl (oD (stp_sub rfl rfl e80) rfl (oD (sg rfl) rfl (ow_nil (kw_lqS (js := [0, 1, 6, 7, 8]) (fuel, x68.2, v22, v27, x80, p23, ((v22).length), c25, C26, p28, ((v27).length), c30, C31) ⟨H1, rfl, o26, rfl, o31⟩ (Nat.lt_succ_self _) ⟨rfl, rfl, rfl, rfl, trivial⟩ ⟨0, [1, 6, 7, 8], rfl, rfl, 1, [6, 7, 8], rfl, rfl, 6, [7, 8], rfl, rfl, 7, [8], rfl, rfl, 8, [], rfl, rfl, trivial⟩ (by decide)))))))))
          · have H1 := cond_f H1 h67
            obtain ⟨x81, e81, H1⟩ := bind_some H1
            exact cw_skip (kw_bl_normal (kw_nx (cw_region (oD (mv rfl) rfl (oD (stp_sub rfl rfl e81) rfl (oD (sg rfl) rfl (ow_nil (kw_lqS (js := [0, 1, 6, 7, 8]) (fuel, x66.2, v22, v27, x81, p23, ((v22).length), c25, C26, p28, ((v27).length), c30, C31) ⟨H1, rfl, o26, rfl, o31⟩ (Nat.lt_succ_self _) ⟨rfl, rfl, rfl, rfl, trivial⟩ ⟨0, [1, 6, 7, 8], rfl, rfl, 1, [6, 7, 8], rfl, rfl, 6, [7, 8], rfl, rfl, 7, [8], rfl, rfl, 8, [], rfl, rfl, trivial⟩ (by decide)))))))))
    · have H1 := cond_f H1 h33
      refine cw_exit (kw_nx_exit (kw_lq_exit (kw_bl ?_)))
      have q1 := Option.some.inj H1
      subst q1
      exact kw_joinS (js := [0, 1, 6, 7, 8]) (v21, v22, v27, v32, p23, ((v22).length), c25, C26, p28, ((v27).length), c30, C31) ⟨rfl, rfl, o26, rfl, o31⟩ ⟨rfl, rfl, rfl, rfl, trivial⟩ ⟨0, [1, 6, 7, 8], rfl, rfl, 1, [6, 7, 8], rfl, rfl, 6, [7, 8], rfl, rfl, 7, [8], rfl, rfl, 8, [], rfl, rfl, trivial⟩ (by decide)
  · rintro ⟨v21, v22, v27, v32, p23, n24, c25, C26, p28, n29, c30, C31⟩ ⟨rfl, hnn24, o26, hnn29, o31⟩
    obtain rfl := hnn24
    obtain rfl := hnn29
    refine KW.sub (s' := [(0, .pointer (some ⟨m0, 0, none⟩)), (2, .pointer (some ⟨b1, 0, none⟩)), (3, .pointer (some ⟨b17, 0, none⟩)), (5, .int .i64 v32)]) (h' := [(0, [(m0, .cells #[.slice p0_0_0 ((a0_0).length) c0_0_0, .int .i64 v21] 81 (0, 0))]), (1, [(b1, .cells #[.slice none 0 0, .slice none 0 0] 26 (0, 0))]), (6, C26), (7, C31), (8, [(b17, .cells #[.slice p23 ((v22).length) c25, .slice p28 ((v27).length) c30] 26 (0, 0))])]) ?_ ⟨rfl, rfl, rfl, rfl, trivial⟩ ⟨rfl, rfl, rfl, rfl, rfl, trivial⟩
    refine kw_nx (sr (oD (stp_loadN (us := [_, _]) ts26 rfl (Cells.box (id := 8) rfl 2 rfl)) rfl (oF (stpU_store (id := 1) (cs' := [.slice p23 ((v22).length) c25, .slice p28 ((v27).length) c30]) ts26 rfl rfl rfl rfl rfl rfl rfl) ?_)))
    rintro _ _ rfl
    refine nn (cw_ret ?_)
    have q0 := Option.some.inj H0
    subst q0
    exact kw_ret Tryd.results24 (.cons (.cellN (us := [_, _]) ts26 rfl (Cells.box (id := 1) rfl 2 rfl)) .nil) [(0, [(m0, .cells #[.slice p0_0_0 ((a0_0).length) c0_0_0, .int .i64 v21] 81 (0, 0))]), (1, C26), (2, C31)] [0, 6, 7] ⟨0, [6, 7], rfl, rfl, 6, [7], rfl, rfl, 7, [], rfl, rfl, trivial⟩ (by decide) ⟨p23, ((v22).length), c25, C26, p28, ((v27).length), c30, C31, rfl, rfl, rfl, o26, rfl, o31⟩

set_option maxHeartbeats 4000000 in
set_option maxRecDepth 20000 in
theorem c_s_l3Wrong (fl : Nat) (w : World) (m0 : Nat) (a0_0 : (List UInt8)) (p0_0_0 : Option Addr) (n0_0_0 c0_0_0 : Nat) (a0_1 : Int) (a1 : T) (p1_0 : Option Addr) (n1_0 c1_0 : Nat) (p1_1 : Option Addr) (n1_1 c1_1 : Nat) (hn0_0_0 : n0_0_0 = (a0_0).length) (hr0_0_0 : RO w (hkeys [(0, [(m0, .cells #[.slice p0_0_0 n0_0_0 c0_0_0, .int .i64 a0_1] 81 (0, 0))])]) (RdL p0_0_0 c0_0_0 a0_0)) (hn1_0 : n1_0 = (a1.b).length) (hr1_0 : RO w (hkeys [(0, [(m0, .cells #[.slice p0_0_0 n0_0_0 c0_0_0, .int .i64 a0_1] 81 (0, 0))])]) (RdL p1_0 c1_0 a1.b)) (hn1_1 : n1_1 = (a1.f).length) (hr1_1 : RO w (hkeys [(0, [(m0, .cells #[.slice p0_0_0 n0_0_0 c0_0_0, .int .i64 a0_1] 81 (0, 0))])]) (RdL p1_1 c1_1 a1.f)) (hM : Sat w (hkeys [(0, [(m0, .cells #[.slice p0_0_0 n0_0_0 c0_0_0, .int .i64 a0_1] 81 (0, 0))])]) w [(0, [(m0, .cells #[.slice p0_0_0 n0_0_0 c0_0_0, .int .i64 a0_1] 81 (0, 0))])]) (r : T × Int) (H0 : s_l3Wrong fl a0_0 a0_1 a1 = some r) :
    Ct Tryd.prog 23 [.pointer (some ⟨m0, 0, none⟩), .agg #[.slice p1_0 n1_0 c1_0, .slice p1_1 n1_1 c1_1]] w [(0, [(m0, .cells #[.slice p0_0_0 n0_0_0 c0_0_0, .int .i64 a0_1] 81 (0, 0))])] (fun rv h' => ∃ (x1 : Option Addr) (y1 z1 : Nat) (C1 : Res) (x2 : Option Addr) (y2 z2 : Nat) (C2 : Res), rv = .agg #[.slice x1 y1 z1, .slice x2 y2 z2] ∧ h' = [(0, [(m0, .cells #[.slice p0_0_0 n0_0_0 c0_0_0, .int .i64 r.2] 81 (0, 0))]), (1, C1), (2, C2)] ∧ y1 = (r.1.b).length ∧ OwnC 3 x1 z1 r.1.b C1 ∧ y2 = (r.1.f).length ∧ OwnC 58 x2 z2 r.1.f C2) := by
  obtain rfl := hn0_0_0
  obtain rfl := hn1_0
  obtain rfl := hn1_1
  unfold s_l3Wrong at H0
  refine ct_of_cw Tryd.func23 rfl Tryd.ntmps23 rfl hM ?_
  refine sr (oE (stpU_box 1 rfl rfl) rfl ?_)
  rintro _ _ ⟨b1, rfl, rfl⟩
  refine oE (stpU_alloc 2 tz26 rfl) rfl ?_
  rintro _ _ ⟨b2, rfl, rfl⟩
  obtain ⟨x3, e3, H0⟩ := bind_some H0
  refine nn (sr (oD (stp_loadN (us := [_, _]) ts26 rfl (Cells.box (id := 1) rfl 2 rfl)) rfl (oE (stpU_call (fun i => 3 + i) cf48 (fun w hw => c_s_l3Copy fl w a1 p1_0 ((a1.b).length) c1_0 p1_1 ((a1.f).length) c1_1 rfl (RO.pass hr1_0 hw) rfl (RO.pass hr1_1 hw) x3 e3) (sevs_cons rfl sevs_nil)) rfl ?_)))
  rintro _ _ ⟨_, ⟨p4, n5, c6, C7, p8, n9, c10, C11, rfl, rfl, hnn5, o7, hnn9, o11⟩, rfl⟩
  obtain rfl := hnn5
  obtain rfl := hnn9
  refine oE (stpU_alloc 5 tz26 rfl) rfl ?_
  rintro _ _ ⟨b12, rfl, rfl⟩
  refine oF (stpU_store (id := 5) (cs' := [.slice p4 ((x3.b).length) c6, .slice p8 ((x3.f).length) c10]) ts26 rfl rfl rfl rfl rfl rfl rfl) ?_
  rintro _ _ rfl
  refine nn (cw_seq (sr (oD (fA 1 Tryd.underlying26 rfl ts24 rfl rfl rfl) rfl (oD (lB 5 ts24 rfl rfl rfl) rfl (oD (stp_len Tryd.underlying24 rfl) rfl (oD (stp_eql rfl rfl) rfl (nn (cw_cond rfl (fun h13 => ?_) (fun h13 => ?_)))))))))
  · have H0 := cond_t H0 h13
    refine sr (oD (stp_loadN (us := [_, _]) ts26 rfl (Cells.box (id := 5) rfl 2 rfl)) rfl (oF (stpU_store (id := 2) (cs' := [.slice p4 ((x3.b).length) c6, .slice p8 ((x3.f).length) c10]) ts26 rfl rfl rfl rfl rfl rfl rfl) ?_))
    rintro _ _ rfl
    refine nn (cw_ret (kw_nx_ret ?_))
    have q0 := Option.some.inj H0
    subst q0
    exact kw_ret Tryd.results23 (.cons (.cellN (us := [_, _]) ts26 rfl (Cells.box (id := 2) rfl 2 rfl)) .nil) [(0, [(m0, .cells #[.slice p0_0_0 ((a0_0).length) c0_0_0, .int .i64 a0_1] 81 (0, 0))]), (1, C7), (2, C11)] [0, 3, 4] ⟨0, [3, 4], rfl, rfl, 3, [4], rfl, rfl, 4, [], rfl, rfl, trivial⟩ (by decide) ⟨p4, ((x3.b).length), c6, C7, p8, ((x3.f).length), c10, C11, rfl, rfl, rfl, o7, rfl, o11⟩
  · have H0 := cond_f H0 h13
    obtain ⟨x14, e14, H0⟩ := bind_some H0
    refine cw_skip (kw_nx (sr (oD (mv rfl) rfl (oD (fA 1 Tryd.underlying26 rfl ts24 rfl rfl rfl) rfl (oD (lB 5 ts24 rfl rfl rfl) rfl (oD (stp_len Tryd.underlying24 rfl) rfl (oE (stpU_callM (fun i => bif Nat.beq i 0 then 0 else 6 + i) cf53 (fun w hw hb => c_s_l12Rd_pick fl w m0 a0_0 p0_0_0 ((a0_0).length) c0_0_0 a0_1 ((x3.f).length : Int) rfl (RO.passM hr0_0_0 hw hb) (hw.pass (js := [0]) ⟨0, [], rfl, rfl, trivial⟩ (by decide)) x14 e14) (sevs_cons rfl (sevs_cons rfl sevs_nil)) ⟨rfl, (fun _ _ hp => by obtain ⟨_, rfl⟩ := hp; exact ⟨_, rfl⟩), trivial⟩) rfl ?_)))))))
    rintro _ _ ⟨_, ⟨rfl, rfl⟩, rfl⟩
    obtain ⟨x15, e15, H0⟩ := bind_some H0
    refine oD (sg rfl) rfl (nn (cw_seq (sr (oD (mv rfl) rfl (oE (stpU_callM (fun i => bif Nat.beq i 0 then 0 else 7 + i) cf53 (fun w hw hb => c_s_l12Rd_pick fl w m0 a0_0 p0_0_0 ((a0_0).length) c0_0_0 x14.2 24 rfl (RO.passM hr0_0_0 hw hb) (hw.pass (js := [0]) ⟨0, [], rfl, rfl, trivial⟩ (by decide)) x15 e15) (sevs_cons rfl (sevs_cons rfl sevs_nil)) ⟨rfl, (fun _ _ hp => by obtain ⟨_, rfl⟩ := hp; exact ⟨_, rfl⟩), trivial⟩) rfl ?_)))))
    rintro _ _ ⟨_, ⟨rfl, rfl⟩, rfl⟩
    refine nn (cw_block (sr (oD (stp_eql rfl rfl) rfl (oD (sg rfl) rfl (nn (cw_cond rfl (fun h16 => ?_) (fun h16 => ?_)))))))
    · have H0 := cond_t H0 h16
      obtain ⟨x19, e19, H0⟩ := bind_some H0
      obtain ⟨x20, e20, H0⟩ := bind_some H0
      refine rdr g_mixed [0, 5, 6] [0, 4, 5] { dst := dS [24, 25, 26, 27, 28, 29, 30, 31, 32, 0], pre := gA [] [[], [0], [], [], [], [4], [3, 4, 5], rn 0 7, rn 0 8, rn 0 9], ids := gA [] [[], [], [], [], [], [8], [0], [], [], [4]], rs := rL [[(5, 0)], [(23, 1)], [(6, 0)], [(0, 0)], [(6, 0)], [(27, 5)], [(26, 4), (28, 6)], [(24, 2), (25, 3)], [(30, 8)], [(31, 9), (29, 7)]], rh := rL [[], [(5, 0)], [], [], [], [], [(0, 0), (8, 6)], [(4, 0)], [], [(4, 0)]], V := fun i g => gA undef [.pointer (some ⟨b12, 1, none⟩), .slice p8 ((x3.f).length) c10, .int .i64 x14.1, .pointer (some ⟨m0, 0, none⟩), .int .i64 x14.1, .slice ((g 5).A 0) 4 4, .int .i64 x19.1, .pointer (some ⟨eB p8, eO p8 + Int.toNat x14.1 * Enc.sz F + 0, none⟩), .pointer (some ⟨eB p8, eO p8 + Int.toNat x14.1 * Enc.sz F + 4, none⟩)] i, U := fun i g => gA [] [[], [], [], [], [], [(8, ((g 5).R 0))], [(0, [(m0, .cells #[.slice p0_0_0 ((a0_0).length) c0_0_0, .int .i64 x19.2] 81 (0, 0))])], [], [], [(4, ((g 9).R 0))]] i, Φ := fun i x => match i with | 5 => OwnC (α := Int) 3 (x.A 0) 4 ([0, x14.1, 16, (-1)]) (x.R 0) | 9 => OwnC (α := F) 58 p8 c10 (x3.f.set (Int.toNat x14.1) (⟨x20.u, x20.k, x20.r, x19.1⟩ : F)) (x.R 0) | _ => True } ?_ ?_
      · refine ⟨⟨⟨⟨⟨⟨⟨⟨⟨⟨trivial, lc rfl rfl fun hs hh => stp_fieldAddr (j := 1) Tryd.underlying26 rfl ts24 rfl (sv hs 5 rfl) rfl⟩, lc rfl rfl fun hs hh => stp_load1 ts24 (sv hs 23 rfl) (Cells.box (id := 5) (hh.get 5 _ rfl) 1 rfl)⟩, lc rfl rfl fun hs hh => stp_move (sv hs 6 rfl)⟩, lc rfl rfl fun hs hh => stp_move (sv hs 0 rfl)⟩, lc rfl rfl fun hs hh => stp_move (sv hs 6 rfl)⟩, ?_⟩, ?_⟩, lc rfl rfl fun hs hh => stp_indexAddr Tryd.underlying24 ts58 (by decide) (sv hs 24 rfl) rfl (sv hs 25 rfl) (Rdb.own (id := 4) (hh.get 4 _ rfl) o11) e20⟩, lc rfl rfl fun hs hh => stp_fieldAddr (j := 4) Tryd.underlying58 rfl ts3 rfl (sv hs 30 rfl) rfl⟩, ?_⟩
        · refine le rfl rfl (fun g hΦ s h hs hh => (stpU_lit (sz := 1) (l := [0, x14.1, 16, (-1)]) [.int .i64 0, .int .i64 x14.1, .int .i64 16, .int .i64 (-1)] sl23 8 (sevp_cons rfl (sevp_cons (sv hs 27 rfl) (sevp_cons rfl (sevp_cons rfl sevp_nil)))) rfl rfl rfl rfl rfl rfl rfl rfl rfl)) ?_
          rintro g _ _ ⟨p17, C18, rfl, rfl, o18⟩
          exact ⟨⟨[p17], [], [C18]⟩, o18, .inr rfl, rfl⟩
        · refine le rfl rfl (fun g hΦ s h hs hh => (stpU_callM (fun i => bif Nat.beq i 0 then 0 else 9 + i) cf26 (fun w hw hb => c_s_l12Rd_num fl w m0 a0_0 p0_0_0 ((a0_0).length) c0_0_0 x15.2 ([0, x14.1, 16, (-1)]) ((g 5).A 0) 4 4 rfl (RO.passM hr0_0_0 hw hb) (by simp) (OwnC.passM (id := 8) (hh.get 8 _ rfl) (hΦ 5 rfl) hw hb ⟨rfl, trivial⟩) (hw.pass (js := [0]) ⟨0, [], rfl, (hh.get 0 _ rfl), trivial⟩ (by decide)) x19 e19) (sevs_cons (sv hs 26 rfl) (sevs_cons (sv hs 28 rfl) sevs_nil)) ⟨(hh.get 0 _ rfl), (fun _ _ hp => by obtain ⟨_, rfl⟩ := hp; exact ⟨_, rfl⟩), trivial⟩)) ?_
          rintro g _ _ ⟨_, ⟨rfl, rfl⟩, rfl⟩
          exact ⟨⟨[], [], []⟩, trivial, .inr rfl, rfl⟩
        · refine le rfl rfl (fun g hΦ s h hs hh => (stpU_storeEl (id := 4) (i := 4) (⟨x20.u, x20.k, x20.r, x19.1⟩ : F) (by decide) ts3 (sv hs 31 rfl) (sv hs 29 rfl) (hh.get 4 _ rfl) o11 e20 rfl rfl rfl rfl)) ?_
          rintro g _ _ ⟨C21, rfl, o21⟩
          exact ⟨⟨[], [], [C21]⟩, o21, .inl rfl, rfl⟩
      · intro g hΦ
        refine kw_gen (ι := Option Addr × Res × Res) (((g 5).A 0), ((g 5).R 0), ((g 9).R 0)) (fun | (p17, C18, C21) => OwnC (α := Int) 3 p17 4 ([0, x14.1, 16, (-1)]) C18 ∧ OwnC (α := F) 58 p8 c10 (x3.f.set (Int.toNat x14.1) (⟨x20.u, x20.k, x20.r, x19.1⟩ : F)) C21) (fun | (p17, C18, C21) => [(4, .pointer (some ⟨b2, 0, none⟩)), (5, .pointer (some ⟨b12, 0, none⟩))]) (fun | (p17, C18, C21) => [(0, [(m0, .cells #[.slice p0_0_0 ((a0_0).length) c0_0_0, .int .i64 x19.2] 81 (0, 0))]), (2, [(b2, .cells #[.slice none 0 0, .slice none 0 0] 26 (0, 0))]), (3, C7), (4, C21), (5, [(b12, .cells #[.slice p4 ((x3.b).length) c6, .slice p8 ((x3.f).length) c10] 26 (0, 0))])]) ⟨(hΦ 5 (by decide)), (hΦ 9 (by decide))⟩ ⟨rfl, rfl, trivial⟩ ⟨rfl, rfl, rfl, rfl, rfl, trivial⟩ ?_
        rintro ⟨p17, C18, C21⟩ ⟨o18, o21⟩
        refine KW.sub (s' := [(4, .pointer (some ⟨b2, 0, none⟩)), (5, .pointer (some ⟨b12, 0, none⟩))]) (h' := [(0, [(m0, .cells #[.slice p0_0_0 ((a0_0).length) c0_0_0, .int .i64 x19.2] 81 (0, 0))]), (2, [(b2, .cells #[.slice none 0 0, .slice none 0 0] 26 (0, 0))]), (3, C7), (4, C21), (5, [(b12, .cells #[.slice p4 ((x3.b).length) c6, .slice p8 ((x3.f).length) c10] 26 (0, 0))])]) ?_ ⟨rfl, rfl, trivial⟩ ⟨rfl, rfl, rfl, rfl, rfl, trivial⟩
        refine kw_bl_normal (kw_nx (sr (oD (stp_loadN (us := [_, _]) ts26 rfl (Cells.box (id := 5) rfl 2 rfl)) rfl (oF (stpU_store (id := 2) (cs' := [.slice p4 ((x3.b).length) c6, .slice p8 ((x3.f).length) c10]) ts26 rfl rfl rfl rfl rfl rfl rfl) ?_))))
        rintro _ _ rfl
        refine nn (cw_ret ?_)
        have q0 := Option.some.inj H0
        subst q0
        exact kw_ret Tryd.results23 (.cons (.cellN (us := [_, _]) ts26 rfl (Cells.box (id := 2) rfl 2 rfl)) .nil) [(0, [(m0, .cells #[.slice p0_0_0 ((a0_0).length) c0_0_0, .int .i64 x19.2] 81 (0, 0))]), (1, C7), (2, C21)] [0, 3, 4] ⟨0, [3, 4], rfl, rfl, 3, [4], rfl, rfl, 4, [], rfl, rfl, trivial⟩ (by decide) ⟨p4, ((x3.b).length), c6, C7, p8, ((x3.f).length), c10, C21, rfl, rfl, rfl, o7, (by simp), o21⟩
    · have H0 := cond_f H0 h16
      refine sr (oD (stp_eql rfl rfl) rfl (oD (sg rfl) rfl (nn (cw_cond rfl (fun h22 => ?_) (fun h22 => ?_)))))
      · have H0 := cond_t H0 h22
        obtain ⟨x23, e23, H0⟩ := bind_some H0
        refine rdr g_mixed [5, 6] [4, 5] { dst := dS [35, 36, 37, 38, 39, 40, 41, 42, 43, 44, 45, 46, 0], pre := gA [] [[], [0], [], [], [3], [], [3, 4, 5], rn 3 4, rn 3 5, rn 3 6, rn 0 10, rn 0 11, rn 0 12], ids := fun i => match i with | 12 => [4] | _ => [], rs := rL [[(5, 0)], [(34, 1)], [(6, 0)], [(5, 0)], [(37, 4)], [(6, 0)], [(38, 5), (39, 6)], [(40, 7)], [(41, 8)], [(42, 9)], [(35, 2), (36, 3)], [(44, 11)], [(45, 12), (43, 10)]], rh := rL [[], [(5, 0)], [], [], [(5, 0)], [], [(4, 0)], [], [(4, 0)], [], [(4, 0)], [], [(4, 0)]], V := fun i g => gA undef [.pointer (some ⟨b12, 1, none⟩), .slice p8 ((x3.f).length) c10, .int .i64 x14.1, .pointer (some ⟨b12, 1, none⟩), .slice p8 ((x3.f).length) c10, .int .i64 x14.1, .pointer (some ⟨eB p8, eO p8 + Int.toNat x14.1 * Enc.sz F + 0, none⟩), .pointer (some ⟨eB p8, eO p8 + Int.toNat x14.1 * Enc.sz F + 0, none⟩), .bool x23.u, .bool (!x23.u), .pointer (some ⟨eB p8, eO p8 + Int.toNat x14.1 * Enc.sz F + 0, none⟩), .pointer (some ⟨eB p8, eO p8 + Int.toNat x14.1 * Enc.sz F + 0, none⟩)] i, U := fun i g => match i with | 12 => [(4, ((g 12).R 0))] | _ => [], Φ := fun i x => match i with | 12 => OwnC (α := F) 58 p8 c10 (x3.f.set (Int.toNat x14.1) (⟨(!x23.u), x23.k, x23.r, x23.nx⟩ : F)) (x.R 0) | _ => True } ?_ ?_
        · refine ⟨⟨⟨⟨⟨⟨⟨⟨⟨⟨⟨⟨⟨trivial, lc rfl rfl fun hs hh => stp_fieldAddr (j := 1) Tryd.underlying26 rfl ts24 rfl (sv hs 5 rfl) rfl⟩, lc rfl rfl fun hs hh => stp_load1 ts24 (sv hs 34 rfl) (Cells.box (id := 5) (hh.get 5 _ rfl) 1 rfl)⟩, lc rfl rfl fun hs hh => stp_move (sv hs 6 rfl)⟩, lc rfl rfl fun hs hh => stp_fieldAddr (j := 1) Tryd.underlying26 rfl ts24 rfl (sv hs 5 rfl) rfl⟩, lc rfl rfl fun hs hh => stp_load1 ts24 (sv hs 37 rfl) (Cells.box (id := 5) (hh.get 5 _ rfl) 1 rfl)⟩, lc rfl rfl fun hs hh => stp_move (sv hs 6 rfl)⟩, lc rfl rfl fun hs hh => stp_indexAddr Tryd.underlying24 ts58 (by decide) (sv hs 38 rfl) rfl (sv hs 39 rfl) (Rdb.own (id := 4) (hh.get 4 _ rfl) o11) e23⟩, lc rfl rfl fun hs hh => stp_fieldAddr (j := 0) Tryd.underlying58 rfl ts4 rfl (sv hs 40 rfl) rfl⟩, lc rfl rfl fun hs hh => stp_load1 ts4 (sv hs 41 rfl) (Cells.el (Rdb.own (id := 4) (hh.get 4 _ rfl) o11) (by decide) e23 0 1 rfl)⟩, lc rfl rfl fun hs hh => stp_not (sv hs 42 rfl)⟩, lc rfl rfl fun hs hh => stp_indexAddr Tryd.underlying24 ts58 (by decide) (sv hs 35 rfl) rfl (sv hs 36 rfl) (Rdb.own (id := 4) (hh.get 4 _ rfl) o11) e23⟩, lc rfl rfl fun hs hh => stp_fieldAddr (j := 0) Tryd.underlying58 rfl ts4 rfl (sv hs 44 rfl) rfl⟩, ?_⟩
          · refine le rfl rfl (fun g hΦ s h hs hh => (stpU_storeEl (id := 4) (i := 0) (⟨(!x23.u), x23.k, x23.r, x23.nx⟩ : F) (by decide) ts4 (sv hs 45 rfl) (sv hs 43 rfl) (hh.get 4 _ rfl) o11 e23 rfl rfl rfl rfl)) ?_
            rintro g _ _ ⟨C24, rfl, o24⟩
            exact ⟨⟨[], [], [C24]⟩, o24, .inl rfl, rfl⟩
        · intro g hΦ
          refine kw_gen (ι := Res) ((g 12).R 0) (fun | C24 => OwnC (α := F) 58 p8 c10 (x3.f.set (Int.toNat x14.1) (⟨(!x23.u), x23.k, x23.r, x23.nx⟩ : F)) C24) (fun | C24 => [(4, .pointer (some ⟨b2, 0, none⟩)), (5, .pointer (some ⟨b12, 0, none⟩))]) (fun | C24 => [(0, [(m0, .cells #[.slice p0_0_0 ((a0_0).length) c0_0_0, .int .i64 x15.2] 81 (0, 0))]), (2, [(b2, .cells #[.slice none 0 0, .slice none 0 0] 26 (0, 0))]), (3, C7), (4, C24), (5, [(b12, .cells #[.slice p4 ((x3.b).length) c6, .slice p8 ((x3.f).length) c10] 26 (0, 0))])]) (hΦ 12 (by decide)) ⟨rfl, rfl, trivial⟩ ⟨rfl, rfl, rfl, rfl, rfl, trivial⟩ ?_
          rintro C24 o24
          have o24 : OwnC (α := F) 58 p8 c10 (x3.f.set (Int.toNat x14.1) (⟨(!x23.u), x23.k, x23.r, x23.nx⟩ : F)) C24 := o24
          refine KW.sub (s' := [(4, .pointer (some ⟨b2, 0, none⟩)), (5, .pointer (some ⟨b12, 0, none⟩))]) (h' := [(0, [(m0, .cells #[.slice p0_0_0 ((a0_0).length) c0_0_0, .int .i64 x15.2] 81 (0, 0))]), (2, [(b2, .cells #[.slice none 0 0, .slice none 0 0] 26 (0, 0))]), (3, C7), (4, C24), (5, [(b12, .cells #[.slice p4 ((x3.b).length) c6, .slice p8 ((x3.f).length) c10] 26 (0, 0))])]) ?_ ⟨rfl, rfl, trivial⟩ ⟨rfl, rfl, rfl, rfl, rfl, trivial⟩
          refine kw_bl_normal (kw_nx (sr (oD (stp_loadN (us := [_, _]) ts26 rfl (Cells.box (id := 5) rfl 2 rfl)) rfl (oF (stpU_store (id := 2) (cs' := [.slice p4 ((x3.b).length) c6, .slice p8 ((x3.f).length) c10]) ts26 rfl rfl rfl rfl rfl rfl rfl) ?_))))
          rintro _ _ rfl
          refine nn (cw_ret ?_)
          have q0 := Option.some.inj H0
          subst q0
          exact kw_ret Tryd.results23 (.cons (.cellN (us := [_, _]) ts26 rfl (Cells.box (id := 2) rfl 2 rfl)) .nil) [(0, [(m0, .cells #[.slice p0_0_0 ((a0_0).length) c0_0_0, .int .i64 x15.2] 81 (0, 0))]), (1, C7), (2, C24)] [0, 3, 4] ⟨0, [3, 4], rfl, rfl, 3, [4], rfl, rfl, 4, [], rfl, rfl, trivial⟩ (by decide) ⟨p4, ((x3.b).length), c6, C7, p8, ((x3.f).length), c10, C24, rfl, rfl, rfl, o7, (by simp), o24⟩
      · have H0 := cond_f H0 h22
        refine sr (oD (stp_eql rfl rfl) rfl (oD (sg rfl) rfl (nn (cw_cond rfl (fun h25 => ?_) (fun h25 => ?_)))))
        · have H0 := cond_t H0 h25
          obtain ⟨x28, e28, H0⟩ := bind_some H0
          obtain ⟨x29, e29, H0⟩ := bind_some H0
          refine rdr g_mixed [0, 5] [0, 3, 5] { dst := dS [49, 50, 51, 52, 53, 54, 0], pre := gA [] [[], [0], [], [], [2, 3], rn 0 5, rn 0 6], ids := gA [] [[], [], [], [10], [0], [], [3]], rs := rL [[(5, 0)], [(48, 1)], [(0, 0)], [], [(50, 3), (51, 4)], [(49, 2)], [(53, 6), (52, 5)]], rh := rL [[], [(5, 0)], [], [], [(0, 0), (10, 4)], [(3, 0)], [(3, 0)]], V := fun i g => gA undef [.pointer (some ⟨b12, 0, none⟩), .slice p4 ((x3.b).length) c6, .pointer (some ⟨m0, 0, none⟩), .slice ((g 3).A 0) 4 4, .int .i64 x28.1, .pointer (some ⟨eB p4, eO p4 + Int.toNat 0 * Enc.sz Int + 0, none⟩)] i, U := fun i g => gA [] [[], [], [], [(10, ((g 3).R 0))], [(0, [(m0, .cells #[.slice p0_0_0 ((a0_0).length) c0_0_0, .int .i64 x28.2] 81 (0, 0))])], [], [(3, ((g 6).R 0))]] i, Φ := fun i x => match i with | 3 => OwnC (α := Int) 3 (x.A 0) 4 ([0, (-1), 16, (-2)]) (x.R 0) | 6 => OwnC (α := Int) 3 p4 c6 (x3.b.set (Int.toNat 0) x28.1) (x.R 0) | _ => True } ?_ ?_
          · refine ⟨⟨⟨⟨⟨⟨⟨trivial, lc rfl rfl fun hs hh => stp_fieldAddr (j := 0) Tryd.underlying26 rfl ts23 rfl (sv hs 5 rfl) rfl⟩, lc rfl rfl fun hs hh => stp_load1 ts23 (sv hs 48 rfl) (Cells.box (id := 5) (hh.get 5 _ rfl) 1 rfl)⟩, lc rfl rfl fun hs hh => stp_move (sv hs 0 rfl)⟩, ?_⟩, ?_⟩, lc rfl rfl fun hs hh => stp_indexAddr Tryd.underlying23 ts3 (by decide) (sv hs 49 rfl) rfl rfl (Rdb.own (id := 3) (hh.get 3 _ rfl) o7) e29⟩, ?_⟩
            · refine le rfl rfl (fun g hΦ s h hs hh => (stpU_lit (sz := 1) (l := [0, (-1), 16, (-2)]) [.int .i64 0, .int .i64 (-1), .int .i64 16, .int .i64 (-2)] sl23 10 (sevp_cons rfl (sevp_cons rfl (sevp_cons rfl (sevp_cons rfl sevp_nil)))) rfl rfl rfl rfl rfl rfl rfl rfl rfl)) ?_
              rintro g _ _ ⟨p26, C27, rfl, rfl, o27⟩
              exact ⟨⟨[p26], [], [C27]⟩, o27, .inr rfl, rfl⟩
            · refine le rfl rfl (fun g hΦ s h hs hh => (stpU_callM (fun i => bif Nat.beq i 0 then 0 else 11 + i) cf26 (fun w hw hb => c_s_l12Rd_num fl w m0 a0_0 p0_0_0 ((a0_0).length) c0_0_0 x15.2 ([0, (-1), 16, (-2)]) ((g 3).A 0) 4 4 rfl (RO.passM hr0_0_0 hw hb) (by simp) (OwnC.passM (id := 10) (hh.get 10 _ rfl) (hΦ 3 rfl) hw hb ⟨rfl, trivial⟩) (hw.pass (js := [0]) ⟨0, [], rfl, (hh.get 0 _ rfl), trivial⟩ (by decide)) x28 e28) (sevs_cons (sv hs 50 rfl) (sevs_cons (sv hs 51 rfl) sevs_nil)) ⟨(hh.get 0 _ rfl), (fun _ _ hp => by obtain ⟨_, rfl⟩ := hp; exact ⟨_, rfl⟩), trivial⟩)) ?_
              rintro g _ _ ⟨_, ⟨rfl, rfl⟩, rfl⟩
              exact ⟨⟨[], [], []⟩, trivial, .inr rfl, rfl⟩
            · refine le rfl rfl (fun g hΦ s h hs hh => (stpU_storeEl (id := 3) (i := 0) x28.1 (by decide) ts3 (sv hs 53 rfl) (sv hs 52 rfl) (hh.get 3 _ rfl) o7 e29 rfl rfl rfl rfl)) ?_
              rintro g _ _ ⟨C30, rfl, o30⟩
              exact ⟨⟨[], [], [C30]⟩, o30, .inl rfl, rfl⟩
          · intro g hΦ
            refine kw_gen (ι := Option Addr × Res × Res) (((g 3).A 0), ((g 3).R 0), ((g 6).R 0)) (fun | (p26, C27, C30) => OwnC (α := Int) 3 p26 4 ([0, (-1), 16, (-2)]) C27 ∧ OwnC (α := Int) 3 p4 c6 (x3.b.set (Int.toNat 0) x28.1) C30) (fun | (p26, C27, C30) => [(4, .pointer (some ⟨b2, 0, none⟩)), (5, .pointer (some ⟨b12, 0, none⟩))]) (fun | (p26, C27, C30) => [(0, [(m0, .cells #[.slice p0_0_0 ((a0_0).length) c0_0_0, .int .i64 x28.2] 81 (0, 0))]), (2, [(b2, .cells #[.slice none 0 0, .slice none 0 0] 26 (0, 0))]), (3, C30), (4, C11), (5, [(b12, .cells #[.slice p4 ((x3.b).length) c6, .slice p8 ((x3.f).length) c10] 26 (0, 0))])]) ⟨(hΦ 3 (by decide)), (hΦ 6 (by decide))⟩ ⟨rfl, rfl, trivial⟩ ⟨rfl, rfl, rfl, rfl, rfl, trivial⟩ ?_
            rintro ⟨p26, C27, C30⟩ ⟨o27, o30⟩
            refine KW.sub (s' := [(4, .pointer (some ⟨b2, 0, none⟩)), (5, .pointer (some ⟨b12, 0, none⟩))]) (h' := [(0, [(m0, .cells #[.slice p0_0_0 ((a0_0).length) c0_0_0, .int .i64 x28.2] 81 (0, 0))]), (2, [(b2, .cells #[.slice none 0 0, .slice none 0 0] 26 (0, 0))]), (3, C30), (4, C11), (5, [(b12, .cells #[.slice p4 ((x3.b).length) c6, .slice p8 ((x3.f).length) c10] 26 (0, 0))])]) ?_ ⟨rfl, rfl, trivial⟩ ⟨rfl, rfl, rfl, rfl, rfl, trivial⟩
            refine kw_bl_normal (kw_nx (sr (oD (stp_loadN (us := [_, _]) ts26 rfl (Cells.box (id := 5) rfl 2 rfl)) rfl (oF (stpU_store (id := 2) (cs' := [.slice p4 ((x3.b).length) c6, .slice p8 ((x3.f).length) c10]) ts26 rfl rfl rfl rfl rfl rfl rfl) ?_))))
            rintro _ _ rfl
            refine nn (cw_ret ?_)
            have q0 := Option.some.inj H0
            subst q0
            exact kw_ret Tryd.results23 (.cons (.cellN (us := [_, _]) ts26 rfl (Cells.box (id := 2) rfl 2 rfl)) .nil) [(0, [(m0, .cells #[.slice p0_0_0 ((a0_0).length) c0_0_0, .int .i64 x28.2] 81 (0, 0))]), (1, C30), (2, C11)] [0, 3, 4] ⟨0, [3, 4], rfl, rfl, 3, [4], rfl, rfl, 4, [], rfl, rfl, trivial⟩ (by decide) ⟨p4, ((x3.b).length), c6, C30, p8, ((x3.f).length), c10, C11, rfl, rfl, (by simp), o30, rfl, o11⟩
        · have H0 := cond_f H0 h25
          refine sr (oD (stp_eql rfl rfl) rfl (oD (sg rfl) rfl (nn (cw_cond rfl (fun h31 => ?_) (fun h31 => ?_)))))
          · have H0 := cond_t H0 h31
            obtain ⟨x32, e32, H0⟩ := bind_some H0
            obtain ⟨x33, e33, H0⟩ := bind_some H0
            refine rdr g_mixed [0, 5, 6] [0, 4, 5] { dst := dS [57, 58, 59, 60, 61, 62, 63, 0], pre := gA [] [[], [0], [], [], [3], rn 0 5, rn 0 6, rn 0 7], ids := gA [] [[], [], [], [], [0], [], [], [4]], rs := rL [[(5, 0)], [(56, 1)], [(6, 0)], [(0, 0)], [(59, 4)], [(57, 2), (58, 3)], [(61, 6)], [(62, 7), (60, 5)]], rh := rL [[], [(5, 0)], [], [], [(0, 0)], [(4, 0)], [], [(4, 0)]], V := fun i g => gA undef [.pointer (some ⟨b12, 1, none⟩), .slice p8 ((x3.f).length) c10, .int .i64 x14.1, .pointer (some ⟨m0, 0, none⟩), .agg #[.int .i64 x32.1.s, .int .i64 x32.1.p], .pointer (some ⟨eB p8, eO p8 + Int.toNat x14.1 * Enc.sz F + 0, none⟩), .pointer (some ⟨eB p8, eO p8 + Int.toNat x14.1 * Enc.sz F + 1, none⟩)] i, U := fun i g => gA [] [[], [], [], [], [(0, [(m0, .cells #[.slice p0_0_0 ((a0_0).length) c0_0_0, .int .i64 x32.2] 81 (0, 0))])], [], [], [(4, ((g 7).R 0))]] i, Φ := fun i x => match i with | 7 => OwnC (α := F) 58 p8 c10 (x3.f.set (Int.toNat x14.1) (⟨x33.u, x32.1, x33.r, x33.nx⟩ : F)) (x.R 0) | _ => True } ?_ ?_
            · refine ⟨⟨⟨⟨⟨⟨⟨⟨trivial, lc rfl rfl fun hs hh => stp_fieldAddr (j := 1) Tryd.underlying26 rfl ts24 rfl (sv hs 5 rfl) rfl⟩, lc rfl rfl fun hs hh => stp_load1 ts24 (sv hs 56 rfl) (Cells.box (id := 5) (hh.get 5 _ rfl) 1 rfl)⟩, lc rfl rfl fun hs hh => stp_move (sv hs 6 rfl)⟩, lc rfl rfl fun hs hh => stp_move (sv hs 0 rfl)⟩, ?_⟩, lc rfl rfl fun hs hh => stp_indexAddr Tryd.underlying24 ts58 (by decide) (sv hs 57 rfl) rfl (sv hs 58 rfl) (Rdb.own (id := 4) (hh.get 4 _ rfl) o11) e33⟩, lc rfl rfl fun hs hh => stp_fieldAddr (j := 1) Tryd.underlying58 rfl ts28 rfl (sv hs 61 rfl) rfl⟩, ?_⟩
              · refine le rfl rfl (fun g hΦ s h hs hh => (stpU_callM (fun i => bif Nat.beq i 0 then 0 else 12 + i) cf54 (fun w hw hb => c_s_l2Draw fl w m0 a0_0 p0_0_0 ((a0_0).length) c0_0_0 x15.2 rfl (RO.passM hr0_0_0 hw hb) (hw.pass (js := [0]) ⟨0, [], rfl, (hh.get 0 _ rfl), trivial⟩ (by decide)) x32 e32) (sevs_cons (sv hs 59 rfl) sevs_nil) ⟨(hh.get 0 _ rfl), (fun _ _ hp => by obtain ⟨_, rfl⟩ := hp; exact ⟨_, rfl⟩), trivial⟩)) ?_
                rintro g _ _ ⟨_, ⟨rfl, rfl⟩, rfl⟩
                exact ⟨⟨[], [], []⟩, trivial, .inr rfl, rfl⟩
              · refine le rfl rfl (fun g hΦ s h hs hh => (stpU_storeEl (id := 4) (i := 1) (⟨x33.u, x32.1, x33.r, x33.nx⟩ : F) (by decide) ts28 (sv hs 62 rfl) (sv hs 60 rfl) (hh.get 4 _ rfl) o11 e33 rfl rfl rfl rfl)) ?_
                rintro g _ _ ⟨C34, rfl, o34⟩
                exact ⟨⟨[], [], [C34]⟩, o34, .inl rfl, rfl⟩
            · intro g hΦ
              refine kw_gen (ι := Res) ((g 7).R 0) (fun | C34 => OwnC (α := F) 58 p8 c10 (x3.f.set (Int.toNat x14.1) (⟨x33.u, x32.1, x33.r, x33.nx⟩ : F)) C34) (fun | C34 => [(4, .pointer (some ⟨b2, 0, none⟩)), (5, .pointer (some ⟨b12, 0, none⟩))]) (fun | C34 => [(0, [(m0, .cells #[.slice p0_0_0 ((a0_0).length) c0_0_0, .int .i64 x32.2] 81 (0, 0))]), (2, [(b2, .cells #[.slice none 0 0, .slice none 0 0] 26 (0, 0))]), (3, C7), (4, C34), (5, [(b12, .cells #[.slice p4 ((x3.b).length) c6, .slice p8 ((x3.f).length) c10] 26 (0, 0))])]) (hΦ 7 (by decide)) ⟨rfl, rfl, trivial⟩ ⟨rfl, rfl, rfl, rfl, rfl, trivial⟩ ?_
              rintro C34 o34
              have o34 : OwnC (α := F) 58 p8 c10 (x3.f.set (Int.toNat x14.1) (⟨x33.u, x32.1, x33.r, x33.nx⟩ : F)) C34 := o34
              refine KW.sub (s' := [(4, .pointer (some ⟨b2, 0, none⟩)), (5, .pointer (some ⟨b12, 0, none⟩))]) (h' := [(0, [(m0, .cells #[.slice p0_0_0 ((a0_0).length) c0_0_0, .int .i64 x32.2] 81 (0, 0))]), (2, [(b2, .cells #[.slice none 0 0, .slice none 0 0] 26 (0, 0))]), (3, C7), (4, C34), (5, [(b12, .cells #[.slice p4 ((x3.b).length) c6, .slice p8 ((x3.f).length) c10] 26 (0, 0))])]) ?_ ⟨rfl, rfl, trivial⟩ ⟨rfl, rfl, rfl, rfl, rfl, trivial⟩
              refine kw_bl_normal (kw_nx (sr (oD (stp_loadN (us := [_, _]) ts26 rfl (Cells.box (id := 5) rfl 2 rfl)) rfl (oF (stpU_store (id := 2) (cs' := [.slice p4 ((x3.b).length) c6, .slice p8 ((x3.f).length) c10]) ts26 rfl rfl rfl rfl rfl rfl rfl) ?_))))
              rintro _ _ rfl
              refine nn (cw_ret ?_)
              have q0 := Option.some.inj H0
              subst q0
              exact kw_ret Tryd.results23 (.cons (.cellN (us := [_, _]) ts26 rfl (Cells.box (id := 2) rfl 2 rfl)) .nil) [(0, [(m0, .cells #[.slice p0_0_0 ((a0_0).length) c0_0_0, .int .i64 x32.2] 81 (0, 0))]), (1, C7), (2, C34)] [0, 3, 4] ⟨0, [3, 4], rfl, rfl, 3, [4], rfl, rfl, 4, [], rfl, rfl, trivial⟩ (by decide) ⟨p4, ((x3.b).length), c6, C7, p8, ((x3.f).length), c10, C34, rfl, rfl, rfl, o7, (by simp), o34⟩
          · have H0 := cond_f H0 h31
            refine sr (oD (stp_eql rfl rfl) rfl (oD (sg rfl) rfl (nn (cw_cond rfl (fun h35 => ?_) (fun h35 => ?_)))))
            · have H0 := cond_t H0 h35
              refine cw_region (oD (fA 0 Tryd.underlying26 rfl ts23 rfl rfl rfl) rfl (oD (lB 5 ts23 rfl rfl rfl) rfl (oE (stpU_lit (sz := 1) (l := [(-1)]) [.int .i64 (-1)] sl23 13 (sevp_cons rfl sevp_nil) rfl rfl rfl rfl rfl rfl rfl rfl rfl) rfl ?_)))
              rintro _ _ ⟨p36, C37, rfl, rfl, o37⟩
              obtain ⟨x38, e38, H0⟩ := bind_some H0
              refine oE (stpU_append sl23 rfl (id := 3) rfl rfl rfl (by simp) rfl o7 (Rdb.own (id := 13) rfl o37) e38) rfl ?_
              rintro _ _ ⟨p39, c40, C41, rfl, rfl, o41⟩
              refine oD (fA 0 Tryd.underlying26 rfl ts23 rfl rfl rfl) rfl (oF (stpU_store (id := 5) (cs' := [.slice p39 ((x38).length) c40, .slice p8 ((x3.f).length) c10]) ts23 rfl rfl rfl rfl rfl rfl rfl) ?_)
              rintro _ _ rfl
              refine ow_nil (kw_bl_normal (kw_nx (sr (oD (stp_loadN (us := [_, _]) ts26 rfl (Cells.box (id := 5) rfl 2 rfl)) rfl (oF (stpU_store (id := 2) (cs' := [.slice p39 ((x38).length) c40, .slice p8 ((x3.f).length) c10]) ts26 rfl rfl rfl rfl rfl rfl rfl) ?_)))))
              rintro _ _ rfl
              refine nn (cw_ret ?_)
              have q0 := Option.some.inj H0
              subst q0
              exact kw_ret Tryd.results23 (.cons (.cellN (us := [_, _]) ts26 rfl (Cells.box (id := 2) rfl 2 rfl)) .nil) [(0, [(m0, .cells #[.slice p0_0_0 ((a0_0).length) c0_0_0, .int .i64 x15.2] 81 (0, 0))]), (1, C41), (2, C11)] [0, 3, 4] ⟨0, [3, 4], rfl, rfl, 3, [4], rfl, rfl, 4, [], rfl, rfl, trivial⟩ (by decide) ⟨p39, ((x38).length), c40, C41, p8, ((x3.f).length), c10, C11, rfl, rfl, rfl, o41, rfl, o11⟩
            · have H0 := cond_f H0 h35
              refine sr (oD (stp_eql rfl rfl) rfl (oD (sg rfl) rfl (nn (cw_cond rfl (fun h42 => ?_) (fun h42 => ?_)))))
              · have H0 := cond_t H0 h42
                refine cw_region (oE (stpU_lit0 sl24 14) rfl ?_)
                rintro _ _ ⟨p43, C44, rfl, rfl, o44⟩
                refine oD (fA 1 Tryd.underlying26 rfl ts24 rfl rfl rfl) rfl (oF (stpU_store (id := 5) (cs' := [.slice p4 ((x3.b).length) c6, .slice p43 0 0]) ts24 rfl rfl rfl rfl rfl rfl rfl) ?_)
                rintro _ _ rfl
                refine ow_nil (kw_bl_normal (kw_nx (sr (oD (stp_loadN (us := [_, _]) ts26 rfl (Cells.box (id := 5) rfl 2 rfl)) rfl (oF (stpU_store (id := 2) (cs' := [.slice p4 ((x3.b).length) c6, .slice p43 0 0]) ts26 rfl rfl rfl rfl rfl rfl rfl) ?_)))))
                rintro _ _ rfl
                refine nn (cw_ret ?_)
                have q0 := Option.some.inj H0
                subst q0
                exact kw_ret Tryd.results23 (.cons (.cellN (us := [_, _]) ts26 rfl (Cells.box (id := 2) rfl 2 rfl)) .nil) [(0, [(m0, .cells #[.slice p0_0_0 ((a0_0).length) c0_0_0, .int .i64 x15.2] 81 (0, 0))]), (1, C7), (2, C44)] [0, 3, 14] ⟨0, [3, 14], rfl, rfl, 3, [14], rfl, rfl, 14, [], rfl, rfl, trivial⟩ (by decide) ⟨p4, ((x3.b).length), c6, C7, p43, 0, 0, C44, rfl, rfl, rfl, o7, (by simp), o44⟩
              · have H0 := cond_f H0 h42
                refine cw_skip (kw_bl_normal (kw_nx (sr (oD (stp_loadN (us := [_, _]) ts26 rfl (Cells.box (id := 5) rfl 2 rfl)) rfl (oF (stpU_store (id := 2) (cs' := [.slice p4 ((x3.b).length) c6, .slice p8 ((x3.f).length) c10]) ts26 rfl rfl rfl rfl rfl rfl rfl) ?_)))))
                rintro _ _ rfl
                refine nn (cw_ret ?_)
                have q0 := Option.some.inj H0
                subst q0
                exact kw_ret Tryd.results23 (.cons (.cellN (us := [_, _]) ts26 rfl (Cells.box (id := 2) rfl 2 rfl)) .nil) [(0, [(m0, .cells #[.slice p0_0_0 ((a0_0).length) c0_0_0, .int .i64 x15.2] 81 (0, 0))]), (1, C7), (2, C11)] [0, 3, 4] ⟨0, [3, 4], rfl, rfl, 3, [4], rfl, rfl, 4, [], rfl, rfl, trivial⟩ (by decide) ⟨p4, ((x3.b).length), c6, C7, p8, ((x3.f).length), c10, C11, rfl, rfl, rfl, o7, rfl, o11⟩

set_option maxHeartbeats 4000000 in
set_option maxRecDepth 20000 in
theorem c_s_l2Case (fl : Nat) (w : World) (m0 : Nat) (a0_0 : (List UInt8)) (p0_0_0 : Option Addr) (n0_0_0 c0_0_0 : Nat) (a0_1 : Int) (hn0_0_0 : n0_0_0 = (a0_0).length) (hr0_0_0 : RO w (hkeys [(0, [(m0, .cells #[.slice p0_0_0 n0_0_0 c0_0_0, .int .i64 a0_1] 81 (0, 0))])]) (RdL p0_0_0 c0_0_0 a0_0)) (hM : Sat w (hkeys [(0, [(m0, .cells #[.slice p0_0_0 n0_0_0 c0_0_0, .int .i64 a0_1] 81 (0, 0))])]) w [(0, [(m0, .cells #[.slice p0_0_0 n0_0_0 c0_0_0, .int .i64 a0_1] 81 (0, 0))])]) (r : K × Int) (H0 : s_l2Case fl a0_0 a0_1 = some r) :
    Ct Tryd.prog 25 [.pointer (some ⟨m0, 0, none⟩)] w [(0, [(m0, .cells #[.slice p0_0_0 n0_0_0 c0_0_0, .int .i64 a0_1] 81 (0, 0))])] (fun rv h' => rv = .agg #[.int .i64 r.1.s, .int .i64 r.1.p] ∧ h' = [(0, [(m0, .cells #[.slice p0_0_0 n0_0_0 c0_0_0, .int .i64 r.2] 81 (0, 0))])]) := by
  obtain rfl := hn0_0_0
  unfold s_l2Case at H0
  refine ct_of_cw Tryd.func25 rfl Tryd.ntmps25 rfl hM ?_
  refine sr (oE (stpU_alloc 1 tz28 rfl) rfl ?_)
  rintro _ _ ⟨b1, rfl, rfl⟩
  obtain ⟨x2, e2, H0⟩ := bind_some H0
  refine nn (sr (oD (mv rfl) rfl (oE (stpU_callM (fun i => bif Nat.beq i 0 then 0 else 2 + i) cf54 (fun w hw hb => c_s_l2Draw fl w m0 a0_0 p0_0_0 ((a0_0).length) c0_0_0 a0_1 rfl (RO.passM hr0_0_0 hw hb) (hw.pass (js := [0]) ⟨0, [], rfl, rfl, trivial⟩ (by decide)) x2 e2) (sevs_cons rfl sevs_nil) ⟨rfl, (fun _ _ hp => by obtain ⟨_, rfl⟩ := hp; exact ⟨_, rfl⟩), trivial⟩) rfl ?_)))
  rintro _ _ ⟨_, ⟨rfl, rfl⟩, rfl⟩
  refine oE (stpU_alloc 3 tz28 rfl) rfl ?_
  rintro _ _ ⟨b3, rfl, rfl⟩
  refine oF (stpU_store (id := 3) (cs' := [.int .i64 x2.1.s, .int .i64 x2.1.p]) ts28 rfl rfl rfl rfl rfl rfl rfl) ?_
  rintro _ _ rfl
  obtain ⟨x4, e4, H0⟩ := bind_some H0
  refine nn (cw_seq (sr (oD (mv rfl) rfl (oE (stpU_callM (fun i => bif Nat.beq i 0 then 0 else 4 + i) cf53 (fun w hw hb => c_s_l12Rd_pick fl w m0 a0_0 p0_0_0 ((a0_0).length) c0_0_0 x2.2 24 rfl (RO.passM hr0_0_0 hw hb) (hw.pass (js := [0]) ⟨0, [], rfl, rfl, trivial⟩ (by decide)) x4 e4) (sevs_cons rfl (sevs_cons rfl sevs_nil)) ⟨rfl, (fun _ _ hp => by obtain ⟨_, rfl⟩ := hp; exact ⟨_, rfl⟩), trivial⟩) rfl ?_))))
  rintro _ _ ⟨_, ⟨rfl, rfl⟩, rfl⟩
  refine nn (cw_block (sr (oD (stp_eql rfl rfl) rfl (oD (sg rfl) rfl (nn (cw_cond rfl (fun h5 => ?_) (fun h5 => ?_)))))))
  · have H0 := cond_t H0 h5
    refine cw_region (oD (mv rfl) rfl (oE (stpU_lit (sz := 1) (l := [(-1), 16]) [.int .i64 (-1), .int .i64 16] sl23 5 (sevp_cons rfl (sevp_cons rfl sevp_nil)) rfl rfl rfl rfl rfl rfl rfl rfl rfl) rfl ?_))
    rintro _ _ ⟨p6, C7, rfl, rfl, o7⟩
    obtain ⟨x8, e8, H0⟩ := bind_some H0
    refine oE (stpU_callM (fun i => bif Nat.beq i 0 then 0 else 6 + i) cf26 (fun w hw hb => c_s_l12Rd_num fl w m0 a0_0 p0_0_0 ((a0_0).length) c0_0_0 x4.2 ([(-1), 16]) p6 2 2 rfl (RO.passM hr0_0_0 hw hb) (by simp) (OwnC.passM (id := 5) rfl o7 hw hb ⟨rfl, trivial⟩) (hw.pass (js := [0]) ⟨0, [], rfl, rfl, trivial⟩ (by decide)) x8 e8) (sevs_cons rfl (sevs_cons rfl sevs_nil)) ⟨rfl, (fun _ _ hp => by obtain ⟨_, rfl⟩ := hp; exact ⟨_, rfl⟩), trivial⟩) rfl ?_
    rintro _ _ ⟨_, ⟨rfl, rfl⟩, rfl⟩
    refine oD (fA 0 Tryd.underlying28 rfl ts3 rfl rfl rfl) rfl (oF (stpU_store (id := 3) (cs' := [.int .i64 x8.1, .int .i64 x2.1.p]) ts3 rfl rfl rfl rfl rfl rfl rfl) ?_)
    rintro _ _ rfl
    refine ow_nil (kw_bl_normal (kw_nx (sr (oD (stp_loadN (us := [_, _]) ts28 rfl (Cells.box (id := 3) rfl 2 rfl)) rfl (oF (stpU_store (id := 1) (cs' := [.int .i64 x8.1, .int .i64 x2.1.p]) ts28 rfl rfl rfl rfl rfl rfl rfl) ?_)))))
    rintro _ _ rfl
    refine nn (cw_ret ?_)
    have q0 := Option.some.inj H0
    subst q0
    exact kw_ret Tryd.results25 (.cons (.cellN (us := [_, _]) ts28 rfl (Cells.box (id := 1) rfl 2 rfl)) .nil) [(0, [(m0, .cells #[.slice p0_0_0 ((a0_0).length) c0_0_0, .int .i64 x8.2] 81 (0, 0))])] [0] ⟨0, [], rfl, rfl, trivial⟩ (by decide) ⟨rfl, rfl⟩
  · have H0 := cond_f H0 h5
    refine sr (oD (stp_eql rfl rfl) rfl (oD (sg rfl) rfl (nn (cw_cond rfl (fun h9 => ?_) (fun h9 => ?_)))))
    · have H0 := cond_t H0 h9
      refine cw_region (oD (mv rfl) rfl (oE (stpU_lit (sz := 1) (l := [(-1), 256]) [.int .i64 (-1), .int .i64 256] sl23 7 (sevp_cons rfl (sevp_cons rfl sevp_nil)) rfl rfl rfl rfl rfl rfl rfl rfl rfl) rfl ?_))
      rintro _ _ ⟨p10, C11, rfl, rfl, o11⟩
      obtain ⟨x12, e12, H0⟩ := bind_some H0
      refine oE (stpU_callM (fun i => bif Nat.beq i 0 then 0 else 8 + i) cf26 (fun w hw hb => c_s_l12Rd_num fl w m0 a0_0 p0_0_0 ((a0_0).length) c0_0_0 x4.2 ([(-1), 256]) p10 2 2 rfl (RO.passM hr0_0_0 hw hb) (by simp) (OwnC.passM (id := 7) rfl o11 hw hb ⟨rfl, trivial⟩) (hw.pass (js := [0]) ⟨0, [], rfl, rfl, trivial⟩ (by decide)) x12 e12) (sevs_cons rfl (sevs_cons rfl sevs_nil)) ⟨rfl, (fun _ _ hp => by obtain ⟨_, rfl⟩ := hp; exact ⟨_, rfl⟩), trivial⟩) rfl ?_
      rintro _ _ ⟨_, ⟨rfl, rfl⟩, rfl⟩
      refine oD (fA 1 Tryd.underlying28 rfl ts3 rfl rfl rfl) rfl (oF (stpU_store (id := 3) (cs' := [.int .i64 x2.1.s, .int .i64 x12.1]) ts3 rfl rfl rfl rfl rfl rfl rfl) ?_)
      rintro _ _ rfl
      refine ow_nil (kw_bl_normal (kw_nx (sr (oD (stp_loadN (us := [_, _]) ts28 rfl (Cells.box (id := 3) rfl 2 rfl)) rfl (oF (stpU_store (id := 1) (cs' := [.int .i64 x2.1.s, .int .i64 x12.1]) ts28 rfl rfl rfl rfl rfl rfl rfl) ?_)))))
      rintro _ _ rfl
      refine nn (cw_ret ?_)
      have q0 := Option.some.inj H0
      subst q0
      exact kw_ret Tryd.results25 (.cons (.cellN (us := [_, _]) ts28 rfl (Cells.box (id := 1) rfl 2 rfl)) .nil) [(0, [(m0, .cells #[.slice p0_0_0 ((a0_0).length) c0_0_0, .int .i64 x12.2] 81 (0, 0))])] [0] ⟨0, [], rfl, rfl, trivial⟩ (by decide) ⟨rfl, rfl⟩
    · have H0 := cond_f H0 h9
      refine cw_skip (kw_bl_normal (kw_nx (sr (oD (stp_loadN (us := [_, _]) ts28 rfl (Cells.box (id := 3) rfl 2 rfl)) rfl (oF (stpU_store (id := 1) (cs' := [.int .i64 x2.1.s, .int .i64 x2.1.p]) ts28 rfl rfl rfl rfl rfl rfl rfl) ?_)))))
      rintro _ _ rfl
      refine nn (cw_ret ?_)
      have q0 := Option.some.inj H0
      subst q0
      exact kw_ret Tryd.results25 (.cons (.cellN (us := [_, _]) ts28 rfl (Cells.box (id := 1) rfl 2 rfl)) .nil) [(0, [(m0, .cells #[.slice p0_0_0 ((a0_0).length) c0_0_0, .int .i64 x4.2] 81 (0, 0))])] [0] ⟨0, [], rfl, rfl, trivial⟩ (by decide) ⟨rfl, rfl⟩

theorem c_i_TableValid (fl : Nat) (w : World) (a0 : T) (p0_0 : Option Addr) (n0_0 c0_0 : Nat) (p0_1 : Option Addr) (n0_1 c0_1 : Nat) (hn0_0 : n0_0 = (a0.b).length) (hr0_0 : RO w (hkeys []) (RdL p0_0 c0_0 a0.b)) (hn0_1 : n0_1 = (a0.f).length) (hr0_1 : RO w (hkeys []) (RdL p0_1 c0_1 a0.f)) (hg : RO w (hkeys []) (fun w' => w'.rangeAt 0 0 [.bool false, .int .i64 0, .int .i64 0, .int .i64 0, .int .i64 (-1)])) (r : Bool) (H0 : i_TableValid fl a0 = some r) :
    Ct Tryd.prog 20 [.agg #[.slice p0_0 n0_0 c0_0, .slice p0_1 n0_1 c0_1]] w [] (fun rv h' => rv = .bool r ∧ h' = []) := by
  obtain rfl := hn0_0
  obtain rfl := hn0_1
  unfold i_TableValid at H0
  obtain rfl := Option.some.inj H0
  exact ct_of_calls (tableValid_c _ a0 w ⟨_, _, rfl, (hr0_0 w (Fr.refl _ _)).rd, (hr0_1 w (Fr.refl _ _)).rd⟩ (freeG_of (hg w (Fr.refl _ _))))

set_option maxHeartbeats 4000000 in
set_option maxRecDepth 20000 in
theorem c_i_within (fl : Nat) (w : World) (a0 : Int) (a1 : Int) (r : Bool) (H0 : i_within fl a0 a1 = some r) :
    Ct Tryd.prog 29 [.int .i64 a0, .int .i64 a1] w [] (fun rv h' => rv = .bool r ∧ h' = []) := by
  unfold i_within at H0
  refine ct_of_cw Tryd.func29 rfl Tryd.ntmps29 rfl (Sat.refl _ _) ?_
  obtain ⟨y1, ey1, H0⟩ := bind_some H0
  refine sr (oD (sg rfl) rfl (nn (sr (oD (mv rfl) rfl (oD (stp_geq rfl rfl) rfl (oD (mv rfl) rfl (ow_cutY 4 11 y1 ?_ ?_)))))))
  · rcases Bool.eq_false_or_eq_true (decide (0 ≤ a0)) with hy1 | hy1
    · have ey1 := cond_t ey1 hy1
      refine oG rfl hy1 (mv rfl) rfl (oG rfl hy1 (mv rfl) rfl (oG rfl hy1 (stp_lss rfl rfl) rfl (oD (stp_pick_t rfl hy1 rfl) rfl ?_)))
      obtain rfl := Option.some.inj ey1
      exact ow_nil (jy 4 0)
    · have ey1 := cond_f ey1 hy1
      refine oO rfl hy1 rfl (oO rfl hy1 rfl (oO rfl hy1 rfl (oD (stp_pick_f rfl hy1 rfl) rfl ?_)))
      obtain rfl := Option.some.inj ey1
      exact ow_nil (jy 4 0)
  · refine oD (sg rfl) rfl (nn (cw_ret ?_))
    have q0 := Option.some.inj H0
    subst q0
    exact kw_ret Tryd.results29 (.cons (.tmp rfl) .nil) [] [] trivial (by decide) ⟨rfl, rfl⟩

set_option maxHeartbeats 4000000 in
set_option maxRecDepth 20000 in
theorem c_i_KeyValid (fl : Nat) (w : World) (a0 : K) (r : Bool) (H0 : i_KeyValid fl a0 = some r) :
    Ct Tryd.prog 27 [.agg #[.int .i64 a0.s, .int .i64 a0.p]] w [] (fun rv h' => rv = .bool r ∧ h' = []) := by
  unfold i_KeyValid at H0
  refine ct_of_cw Tryd.func27 rfl Tryd.ntmps27 rfl (Sat.refl _ _) ?_
  refine sr (oE (stpU_box 0 rfl rfl) rfl ?_)
  rintro _ _ ⟨b1, rfl, rfl⟩
  obtain ⟨x2, e2, H0⟩ := bind_some H0
  refine oD (sg rfl) rfl (nn (sr (oD (fA 0 Tryd.underlying28 rfl ts3 rfl rfl rfl) rfl (oD (lB 0 ts3 rfl rfl rfl) rfl (oE (stpU_call (fun i => 1 + i) cf29 (fun w hw => c_i_within fl w a0.s 16 x2 e2) (sevs_cons rfl (sevs_cons rfl sevs_nil))) rfl ?_)))))
  rintro _ _ ⟨_, ⟨rfl, rfl⟩, rfl⟩
  obtain ⟨y3, ey3, H0⟩ := bind_some H0
  refine oD (mv rfl) rfl (ow_cutY 4 10 y3 ?_ ?_)
  · rcases Bool.eq_false_or_eq_true x2 with hy3 | hy3
    · have ey3 := cond_t ey3 hy3
      obtain ⟨x4, e4, ey3⟩ := bind_some ey3
      refine oG rfl hy3 (fA 1 Tryd.underlying28 rfl ts3 rfl rfl rfl) rfl (oG rfl hy3 (lB 0 ts3 rfl rfl rfl) rfl (ow_eff (.some rfl hy3) (stpU_call (fun i => 1 + i) cf29 (fun w hw => c_i_within fl w a0.p 256 x4 e4) (sevs_cons rfl (sevs_cons rfl sevs_nil))) rfl ?_))
      rintro _ _ ⟨_, ⟨rfl, rfl⟩, rfl⟩
      refine oD (stp_pick_t rfl hy3 rfl) rfl ?_
      obtain rfl := Option.some.inj ey3
      exact ow_nil (jy 4 0)
    · have ey3 := cond_f ey3 hy3
      refine oO rfl hy3 rfl (oO rfl hy3 rfl (oO rfl hy3 rfl (oD (stp_pick_f rfl hy3 rfl) rfl ?_)))
      obtain rfl := Option.some.inj ey3
      exact ow_nil (jy 4 0)
  · refine oD (sg rfl) rfl (nn (cw_ret ?_))
    have q0 := Option.some.inj H0
    subst q0
    exact kw_ret Tryd.results27 (.cons (.tmp rfl) .nil) [] [] trivial (by decide) ⟨rfl, rfl⟩

set_option maxHeartbeats 4000000 in
set_option maxRecDepth 20000 in
theorem c_i_Table_find_1 (fl : Nat) (w : World) (a0 : F) (qc0 : Nat) (ac0 : K) (hbac0 : RO w (hkeys []) (fun w' => w'.rangeAt qc0 0 [.int .i64 ac0.s, .int .i64 ac0.p])) (r : Bool) (H0 : i_Table_find_1 fl a0 ac0 = some r) :
    Ct Tryd.prog 57 [.agg #[.bool a0.u, .int .i64 a0.k.s, .int .i64 a0.k.p, .int .i64 a0.r, .int .i64 a0.nx], .pointer (some ⟨qc0, 0, none⟩)] w [] (fun rv h' => rv = .bool r ∧ h' = []) := by
  unfold i_Table_find_1 at H0
  refine ct_of_cw Tryd.func57 rfl Tryd.ntmps57 rfl (Sat.refl _ _) ?_
  refine sr (oE (stpU_box 0 rfl rfl) rfl ?_)
  rintro _ _ ⟨b1, rfl, rfl⟩
  obtain ⟨y2, ey2, H0⟩ := bind_some H0
  refine oD (sg rfl) rfl (nn (sr (oD (fA 0 Tryd.underlying58 rfl ts4 rfl rfl rfl) rfl (oD (lB 0 ts4 rfl rfl rfl) rfl (oD (mv rfl) rfl (ow_cutY 5 11 y2 ?_ ?_))))))
  · rcases Bool.eq_false_or_eq_true a0.u with hy2 | hy2
    · have ey2 := cond_t ey2 hy2
      refine oG rfl hy2 (fA 1 Tryd.underlying58 rfl ts28 rfl rfl rfl) rfl (oG rfl hy2 (stp_loadN (us := [_, _]) ts28 rfl (Cells.box (id := 0) rfl 2 rfl)) rfl (oG rfl hy2 (stp_loadN (us := [_, _]) ts28 rfl (Cells.ofRO hbac0 2 rfl)) rfl (oG rfl hy2 (stp_eqlS te28 a0.k ac0 rfl rfl) rfl (oD (stp_pick_t rfl hy2 rfl) rfl ?_))))
      obtain rfl := Option.some.inj ey2
      exact ow_nil (jy 5 0)
    · have ey2 := cond_f ey2 hy2
      refine oO rfl hy2 rfl (oO rfl hy2 rfl (oO rfl hy2 rfl (oO rfl hy2 rfl (oD (stp_pick_f rfl hy2 rfl) rfl ?_))))
      obtain rfl := Option.some.inj ey2
      exact ow_nil (jy 5 0)
  · refine oD (sg rfl) rfl (nn (cw_ret ?_))
    have q0 := Option.some.inj H0
    subst q0
    exact kw_ret Tryd.results57 (.cons (.tmp rfl) .nil) [] [] trivial (by decide) ⟨rfl, rfl⟩

set_option maxHeartbeats 4000000 in
set_option maxRecDepth 20000 in
theorem c_slices_IndexFunc_Frame_of_i_Table_find_1 (fl : Nat) (w : World) (a0 : (List F)) (p0_0 : Option Addr) (n0_0 c0_0 : Nat) (q1_0 : Nat) (a1_0 : K) (hn0_0 : n0_0 = (a0).length) (hr0_0 : RO w (hkeys []) (RdL p0_0 c0_0 a0)) (hba1_0 : RO w (hkeys []) (fun w' => w'.rangeAt q1_0 0 [.int .i64 a1_0.s, .int .i64 a1_0.p])) (r : Int) (H0 : slices_IndexFunc_Frame_of_i_Table_find_1 fl a0 a1_0 = some r) :
    Ct Tryd.prog 56 [.slice p0_0 n0_0 c0_0, .func (.func 57) #[] #[.pointer (some ⟨q1_0, 0, none⟩)]] w [] (fun rv h' => rv = .int .i64 r ∧ h' = []) := by
  obtain rfl := hn0_0
  unfold slices_IndexFunc_Frame_of_i_Table_find_1 at H0
  refine ct_of_cw Tryd.func56 rfl Tryd.ntmps56 rfl (Sat.refl _ _) ?_
  obtain ⟨o0_0, eo0_0, H0⟩ := bind_some H0
  refine sr (oD (sg rfl) rfl (nn (cw_seq (sr (oD (mv rfl) rfl (oD (stp_len Tryd.underlying24 rfl) rfl (oD (mv rfl) rfl (nn (cw_join (ι := Int) (fun | v1 => o0_0 = .out v1) (fun | v1 => [(0, .slice p0_0 ((a0).length) c0_0), (1, .func (.func 57) #[] #[.pointer (some ⟨q1_0, 0, none⟩)]), (7, .int .i64 ((a0).length : Int)), (8, .int .i64 v1)]) (fun | v1 => []) ?_ ?_)))))))))
  · refine cw_block (cw_loopS (ι := Nat × Int) (js := []) (fun x => x.1) (fun | (fuel, v1) => slices_IndexFunc_Frame_of_i_Table_find_1_L0 fl a0 a1_0 fuel v1 = some o0_0) (fun | (_, v1) => [(0, .slice p0_0 ((a0).length) c0_0), (1, .func (.func 57) #[] #[.pointer (some ⟨q1_0, 0, none⟩)]), (7, .int .i64 ((a0).length : Int)), (8, .int .i64 v1)]) (fun | (_, v1) => []) (fl, 0) eo0_0 ⟨rfl, rfl, rfl, rfl, trivial⟩ trivial (by decide) ?_)
    rintro ⟨fuel, v1⟩ H1
    have H1 : slices_IndexFunc_Frame_of_i_Table_find_1_L0 fl a0 a1_0 fuel v1 = some o0_0 := H1
    rcases fuel with _ | fuel
    · rw [slices_IndexFunc_Frame_of_i_Table_find_1_L0.eq_1] at H1; cases H1
    rw [slices_IndexFunc_Frame_of_i_Table_find_1_L0.eq_2] at H1
    refine CW.sub (s' := [(0, .slice p0_0 ((a0).length) c0_0), (1, .func (.func 57) #[] #[.pointer (some ⟨q1_0, 0, none⟩)]), (7, .int .i64 ((a0).length : Int)), (8, .int .i64 v1)]) (h' := []) ?_ ⟨rfl, rfl, rfl, rfl, trivial⟩ trivial
    refine sr (oD (stp_lss rfl rfl) rfl (nn (cw_seq (cw_cond rfl (fun h2 => ?_) (fun h2 => ?_)))))
    · have H1 := cond_t H1 h2
      obtain ⟨x3, e3, H1⟩ := bind_some H1
      refine cw_skip (kw_nx (cw_seq (cw_block (sr (oD (mv rfl) rfl (oD (sg rfl) rfl (nn (sr (oD (mv rfl) rfl (oD (mv rfl) rfl (oD (mv rfl) rfl (oD (stp_indexAddr Tryd.underlying24 ts58 (by decide) rfl rfl rfl (Rdb.ro hr0_0) e3) rfl (oD (stp_loadN (us := [_, _, _, _, _]) ts58 rfl (Cells.el (Rdb.ro hr0_0) (by decide) e3 0 5 rfl)) rfl ?_)))))))))))))
      obtain ⟨x4, e4, H1⟩ := bind_some H1
      refine oE (stpU_callF (vals := [_]) (ca := [_]) (fun i => 0 + i) cf57 (fun w hw => c_i_Table_find_1 fl w x3 q1_0 a1_0 (RO.pass hba1_0 hw) x4 e4) rfl (sevs_cons rfl sevs_nil)) rfl ?_
      rintro _ _ ⟨_, ⟨rfl, rfl⟩, rfl⟩
      refine nn (cw_cond rfl (fun h5 => ?_) (fun h5 => ?_))
      · have H1 := cond_t H1 h5
        refine sr (oD (mv rfl) rfl (oD (sg rfl) rfl (nn (cw_ret (kw_bl_ret (kw_nx_ret (kw_lq_ret (kw_bl_ret (kw_join_ret (kw_nx_ret ?_))))))))))
        have q1 := Option.some.inj H1
        subst q1
        have q0 := Option.some.inj H0
        subst q0
        exact kw_ret Tryd.results56 (.cons (.tmp rfl) .nil) [] [] trivial (by decide) ⟨rfl, rfl⟩
      · have H1 := cond_f H1 h5
        obtain ⟨x6, e6, H1⟩ := bind_some H1
        exact cw_skip (kw_bl_normal (kw_nx (cw_region (oD (stp_add rfl rfl e6) rfl (oD (mv rfl) rfl (ow_nil (kw_lqS (js := []) (fuel, x6) H1 (Nat.lt_succ_self _) ⟨rfl, rfl, rfl, rfl, trivial⟩ trivial (by decide))))))))
    · have H1 := cond_f H1 h2
      refine cw_exit (kw_nx_exit (kw_lq_exit (kw_bl ?_)))
      have q1 := Option.some.inj H1
      subst q1
      exact kw_joinS (js := []) v1 rfl ⟨rfl, rfl, rfl, rfl, trivial⟩ trivial (by decide)
  · rintro v1 rfl
    refine KW.sub (s' := [(0, .slice p0_0 ((a0).length) c0_0), (1, .func (.func 57) #[] #[.pointer (some ⟨q1_0, 0, none⟩)]), (7, .int .i64 ((a0).length : Int)), (8, .int .i64 v1)]) (h' := []) ?_ ⟨rfl, rfl, rfl, rfl, trivial⟩ trivial
    refine kw_nx (sr (oD (sg rfl) rfl (nn (cw_ret ?_))))
    have q0 := Option.some.inj H0
    subst q0
    exact kw_ret Tryd.results56 (.cons (.tmp rfl) .nil) [] [] trivial (by decide) ⟨rfl, rfl⟩

set_option maxHeartbeats 4000000 in
set_option maxRecDepth 20000 in
theorem c_i_Table_find (fl : Nat) (w : World) (a0 : T) (p0_0 : Option Addr) (n0_0 c0_0 : Nat) (p0_1 : Option Addr) (n0_1 c0_1 : Nat) (a1 : K) (hn0_0 : n0_0 = (a0.b).length) (hr0_0 : RO w (hkeys []) (RdL p0_0 c0_0 a0.b)) (hn0_1 : n0_1 = (a0.f).length) (hr0_1 : RO w (hkeys []) (RdL p0_1 c0_1 a0.f)) (r : Int) (H0 : i_Table_find fl a0 a1 = some r) :
    Ct Tryd.prog 28 [.agg #[.slice p0_0 n0_0 c0_0, .slice p0_1 n0_1 c0_1], .agg #[.int .i64 a1.s, .int .i64 a1.p]] w [] (fun rv h' => rv = .int .i64 r ∧ h' = []) := by
  obtain rfl := hn0_0
  obtain rfl := hn0_1
  unfold i_Table_find at H0
  refine ct_of_cw Tryd.func28 rfl Tryd.ntmps28 rfl (Sat.refl _ _) ?_
  refine sr (oE (stpU_box 0 rfl rfl) rfl ?_)
  rintro _ _ ⟨b1, rfl, rfl⟩
  refine oE (stpU_box 1 rfl rfl) rfl ?_
  rintro _ _ ⟨b2, rfl, rfl⟩
  obtain ⟨x3, e3, H0⟩ := bind_some H0
  refine oD (sg rfl) rfl (nn (sr (oD (fA 1 Tryd.underlying26 rfl ts24 rfl rfl rfl) rfl (oD (lB 0 ts24 rfl rfl rfl) rfl (oD (stp_makeFunc (sevs_cons rfl sevs_nil)) rfl (oE (stpU_call (fun i => 2 + i) cf56 (fun w hw => c_slices_IndexFunc_Frame_of_i_Table_find_1 fl w a0.f p0_1 ((a0.f).length) c0_1 b2 a1 rfl (RO.pass hr0_1 hw) (box_pass (id := 1) rfl hw) x3 e3) (sevs_cons rfl (sevs_cons rfl sevs_nil))) rfl ?_))))))
  rintro _ _ ⟨_, ⟨rfl, rfl⟩, rfl⟩
  refine oD (sg rfl) rfl (nn (cw_ret ?_))
  have q0 := Option.some.inj H0
  subst q0
  exact kw_ret Tryd.results28 (.cons (.tmp rfl) .nil) [] [] trivial (by decide) ⟨rfl, rfl⟩

set_option maxHeartbeats 4000000 in
set_option maxRecDepth 20000 in
theorem c_slices_Clone_Int (fl : Nat) (w : World) (a0 : (List Int)) (p0_0 : Option Addr) (n0_0 c0_0 : Nat) (hn0_0 : n0_0 = (a0).length) (hr0_0 : RO w (hkeys []) (RdL p0_0 c0_0 a0)) (r : (List Int)) (H0 : slices_Clone_Int fl a0 = some r) :
    Ct Tryd.prog 59 [.slice p0_0 n0_0 c0_0] w [] (fun rv h' => ∃ (x0 : Option Addr) (y0 z0 : Nat) (C0 : Res), rv = .slice x0 y0 z0 ∧ h' = [(0, C0)] ∧ y0 = (r).length ∧ OwnC 3 x0 z0 r C0) := by
  obtain rfl := hn0_0
  unfold slices_Clone_Int at H0
  refine ct_of_cw Tryd.func59 rfl Tryd.ntmps59 rfl (Sat.refl _ _) ?_
  refine sr (oD (sg rfl) rfl (nn (cw_seq (sr (oD (mv rfl) rfl (oD (stp_eqlNil Tryd.underlying23 rfl) rfl (nn (cw_cond rfl (fun h1 => ?_) (fun h1 => ?_)))))))))
  · have := True.intro
    obtain rfl : p0_0 = none := by simpa using h1
    obtain rfl : a0 = [] := nil_of_none hr0_0
    obtain rfl : r = [] := (cnt_some H0).1
    exact sr (oD (sg rfl) rfl (nn (cw_ret (kw_nx_ret (kw_addNil 0 (kw_ret Tryd.results59 (.cons (.tmp rfl) .nil) [(0, [])] [0] ⟨0, [], rfl, rfl, trivial⟩ (by decide) ⟨none, 0, 0, [], rfl, rfl, rfl, (OwnC.nil _ _)⟩))))))
  · have := True.intro
    refine cw_skip (kw_nx (sr (oE (stpU_lit0 sl23 1) rfl ?_)))
    rintro _ _ ⟨p2, C3, rfl, rfl, o3⟩
    refine oD (mv rfl) rfl ?_
    have e4 : cnt (([] : List Int) ++ a0) = some r := H0
    refine oE (stpU_append sl23 rfl (id := 1) rfl (by simp) rfl rfl rfl o3 (Rdb.ro hr0_0) e4) rfl ?_
    rintro _ _ ⟨p5, c6, C7, rfl, rfl, o7⟩
    exact oD (sg rfl) rfl (nn (cw_ret (kw_ret Tryd.results59 (.cons (.tmp rfl) .nil) [(0, C7)] [1] ⟨1, [], rfl, rfl, trivial⟩ (by decide) ⟨p5, ((r).length), c6, C7, rfl, rfl, rfl, o7⟩)))

set_option maxHeartbeats 4000000 in
set_option maxRecDepth 20000 in
theorem c_slices_Clone_Frame (fl : Nat) (w : World) (a0 : (List F)) (p0_0 : Option Addr) (n0_0 c0_0 : Nat) (hn0_0 : n0_0 = (a0).length) (hr0_0 : RO w (hkeys []) (RdL p0_0 c0_0 a0)) (r : (List F)) (H0 : slices_Clone_Frame fl a0 = some r) :
    Ct Tryd.prog 61 [.slice p0_0 n0_0 c0_0] w [] (fun rv h' => ∃ (x0 : Option Addr) (y0 z0 : Nat) (C0 : Res), rv = .slice x0 y0 z0 ∧ h' = [(0, C0)] ∧ y0 = (r).length ∧ OwnC 58 x0 z0 r C0) := by
  obtain rfl := hn0_0
  unfold slices_Clone_Frame at H0
  refine ct_of_cw Tryd.func61 rfl Tryd.ntmps61 rfl (Sat.refl _ _) ?_
  refine sr (oD (sg rfl) rfl (nn (cw_seq (sr (oD (mv rfl) rfl (oD (stp_eqlNil Tryd.underlying24 rfl) rfl (nn (cw_cond rfl (fun h1 => ?_) (fun h1 => ?_)))))))))
  · have := True.intro
    obtain rfl : p0_0 = none := by simpa using h1
    obtain rfl : a0 = [] := nil_of_none hr0_0
    obtain rfl : r = [] := (cnt_some H0).1
    exact sr (oD (sg rfl) rfl (nn (cw_ret (kw_nx_ret (kw_addNil 0 (kw_ret Tryd.results61 (.cons (.tmp rfl) .nil) [(0, [])] [0] ⟨0, [], rfl, rfl, trivial⟩ (by decide) ⟨none, 0, 0, [], rfl, rfl, rfl, (OwnC.nil _ _)⟩))))))
  · have := True.intro
    refine cw_skip (kw_nx (sr (oE (stpU_lit0 sl24 1) rfl ?_)))
    rintro _ _ ⟨p2, C3, rfl, rfl, o3⟩
    refine oD (mv rfl) rfl ?_
    have e4 : cnt (([] : List F) ++ a0) = some r := H0
    refine oE (stpU_append sl24 rfl (id := 1) rfl (by simp) rfl rfl rfl o3 (Rdb.ro hr0_0) e4) rfl ?_
    rintro _ _ ⟨p5, c6, C7, rfl, rfl, o7⟩
    exact oD (sg rfl) rfl (nn (cw_ret (kw_ret Tryd.results61 (.cons (.tmp rfl) .nil) [(0, C7)] [1] ⟨1, [], rfl, rfl, trivial⟩ (by decide) ⟨p5, ((r).length), c6, C7, rfl, rfl, rfl, o7⟩)))
end Go.Proofs.YtbhpohopfbcfgaaDoor
