/- The walks: functions of the program return what their pure functions say. Printed by a program (gen.py). -/
import Derived.Test.YtciliaiocakdkaaDoorSp
import Derived.Test.YtciliaiocakdkaaDoorSt
import Derived.Test.YtciliaiocakdkaaDoorMan
import Derived.Test.YtciliaiocakdkaaDoorMap
import Derived.Test.YtciliaiocakdkaaDoorCpy
import Derived.Test.YtciliaiocakdkaaDoorDp
import Derived.Test.YtciliaiocakdkaaDoorSe
set_option linter.unusedSimpArgs false
set_option linter.unusedVariables false
set_option linter.unusedSectionVars false
namespace Go.Proofs.YtciliaiocakdkaaDoor
open Go.RowKit
set_option maxHeartbeats 4000000
set_option maxRecDepth 20000
variable {p0_0 p0_0_0 p0_1 p0_2 p1_0 p1_1 : Option Addr} {n0_0 n0_0_0 n0_1 n0_2 n1_0 n1_1 : Nat} {c0_0 c0_0_0 c0_1 c0_2 c1_0 c1_1 : Nat}
theorem c_s_l12Rd_pick (fl : Nat) (w : World) (m0 : Nat) (a0_0 : (List UInt8)) (a0_1 : Int) (a1 : Int) (hn0_0_0 : n0_0_0 = (a0_0).length) (hr0_0_0 : RO w (hkeys [(0, [(m0, .cells #[.slice p0_0_0 n0_0_0 c0_0_0, .int .i64 a0_1] 72 (0, 0))])]) (RdL p0_0_0 c0_0_0 a0_0)) (hM : Sat w (hkeys [(0, [(m0, .cells #[.slice p0_0_0 n0_0_0 c0_0_0, .int .i64 a0_1] 72 (0, 0))])]) w [(0, [(m0, .cells #[.slice p0_0_0 n0_0_0 c0_0_0, .int .i64 a0_1] 72 (0, 0))])]) (r : Int × Int) (H0 : s_l12Rd_pick fl a0_0 a0_1 a1 = some r) :
  Ct Tryd.prog 14 [.pointer (some ⟨m0, 0, none⟩), .int .i64 a1] w [(0, [(m0, .cells #[.slice p0_0_0 n0_0_0 c0_0_0, .int .i64 a0_1] 72 (0, 0))])] (fun rv h' => rv = .int .i64 r.1 ∧ h' = [(0, [(m0, .cells #[.slice p0_0_0 n0_0_0 c0_0_0, .int .i64 r.2] 72 (0, 0))])]) := by
 subst hn0_0_0
 unfold s_l12Rd_pick at H0
 refine ct_of_cw Tryd.func14 rfl Tryd.ntmps14 rfl hM ?_
 obtain ⟨x1, e1, H0⟩ := bS H0
 refine sr (oS rfl (nn (sr (oM rfl (oM rfl (oZ rfl (oA 1 Tryd.underlying72 rfl ts3 rfl (oL 0 ts3 rfl (oP e1 rfl (oZ rfl (oA 1 Tryd.underlying72 rfl ts3 rfl (oC2 0 ts3 rfl rfl (nn ?_)))))))))))))
 obtain ⟨y2, ey2, H0⟩ := bS H0
 refine cw_seq (sr (oM rfl (oW rfl (oM rfl (ow_cutY 7 24 y2 ?_ ?_)))))
 ·rcases Bool.eq_false_or_eq_true (decide (a1 < 1)) with hy2 | hy2
  ·have ey2 := cond_t ey2 hy2
   refine oO rfl hy2 rfl (oO rfl hy2 rfl (oO rfl hy2 rfl (oO rfl hy2 rfl (oO rfl hy2 rfl (oO rfl hy2 rfl (oD (stp_pick_t rfl hy2 rfl) rfl ?_))))))
   obtain rfl := sI ey2
   exact ow_nil (jy 7 0)
  have ey2 := cond_f ey2 hy2
  refine oG rfl hy2 (mv rfl) rfl (oG rfl hy2 (stp_nilCheck rfl) rfl (oG rfl hy2 (fA 0 Tryd.underlying72 rfl ts22 rfl rfl rfl) rfl (oG rfl hy2 (lB 0 ts22 rfl rfl rfl) rfl (oG rfl hy2 (stp_len Tryd.underlying22 rfl) rfl (oG rfl hy2 (stp_eql rfl rfl) rfl (oD (stp_pick_f rfl hy2 rfl) rfl ?_))))))
  obtain rfl := sI ey2
  exact ow_nil (jy 7 0)
 refine ow_nil (kw_nx (cw_cond rfl (fun h3 => ?_) (fun h3 => ?_)))
 ·have H0 := cond_t H0 h3
  refine sr (oS rfl (nn (cw_ret (kw_nx_ret ?_))))
  obtain rfl := sI H0
  exact kr Tryd.results14 (rT rfl) [0] ⟨rfl, rfl⟩
 have H0 := cond_f H0 h3
 obtain ⟨x4, e4, H0⟩ := bS H0
 refine cw_skip (kw_nx (sr (oM rfl (oZ rfl (oA 1 Tryd.underlying72 rfl ts3 rfl (oL 0 ts3 rfl (oD (stp_sub rfl rfl e4) rfl (oS rfl (nn (cw_seq (sr (oM rfl (oM rfl ?_)))))))))))))
 refine oZ rfl (oA 0 Tryd.underlying72 rfl ts22 rfl (oL 0 ts22 rfl (oD (stp_len Tryd.underlying22 rfl) rfl (oW rfl (nn (cw_cond rfl (fun h5 => ?_) (fun h5 => ?_)))))))
 ·have H0 := cond_t H0 h5
  obtain ⟨x6, e6, H0⟩ := bS H0
  obtain ⟨x7, e7, H0⟩ := bS H0
  obtain ⟨x8, e8, H0⟩ := bS H0
  refine sr (oM rfl (oZ rfl (oA 0 Tryd.underlying72 rfl ts22 rfl (oL 0 ts22 rfl (oM rfl (oD (stp_indexAddr Tryd.underlying22 ts5 (by decide) rfl rfl rfl (Rdb.ro hr0_0_0) e6) rfl (oD (stp_load1 ts5 rfl (Cells.el (Rdb.ro hr0_0_0) (by decide) e6 0 1 rfl)) rfl (oD (stp_convI Tryd.underlying5 Tryd.underlying3 rfl e7) rfl (oM rfl (oD (stp_rem rfl rfl e8) rfl (oS rfl (nn (cw_ret ?_)))))))))))))
  refine kw_nx_ret ?_
  obtain rfl := sI H0
  exact kr Tryd.results14 (rT rfl) [0] ⟨rfl, rfl⟩
 have H0 := cond_f H0 h5
 obtain ⟨x9, e9, H0⟩ := bS H0
 obtain ⟨x10, e10, H0⟩ := bS H0
 obtain ⟨x11, e11, H0⟩ := bS H0
 obtain ⟨x12, e12, H0⟩ := bS H0
 obtain ⟨x13, e13, H0⟩ := bS H0
 obtain ⟨x14, e14, H0⟩ := bS H0
 obtain ⟨x15, e15, H0⟩ := bS H0
 obtain ⟨x16, e16, H0⟩ := bS H0
 obtain ⟨x17, e17, H0⟩ := bS H0
 obtain ⟨x18, e18, H0⟩ := bS H0
 obtain ⟨x19, e19, H0⟩ := bS H0
 obtain ⟨x20, e20, H0⟩ := bS H0
 obtain ⟨x21, e21, H0⟩ := bS H0
 obtain ⟨x22, e22, H0⟩ := bS H0
 obtain ⟨x23, e23, H0⟩ := bS H0
 obtain ⟨x24, e24, H0⟩ := bS H0
 refine cw_skip (kw_nx (cw_seq (rdq g_mixed [0, 5] [0] { dst := dS [48, 49, 50, 51, 52, 53, 54, 55, 56, 57, 58, 59, 60, 61, 62, 63, 64, 65, 66, 67, 68, 69, 70, 71, 72, 73, 74, 75, 76, 77, 78, 79, 80, 81, 82, 83, 84, 85, 86, 87, 88, 89, 90, 91, 92, 7], pre := gA [] [[], [0], [0, 1], [0, 1, 2], [], [], [5], [5, 6], [5, 6, 7], rn 5 4, rn 4 6, rn 0 11, rn 0 12, rn 0 13, rn 0 14, [], [15], [15, 16], [15, 16, 17], [], [19], [19, 20], [], [22], [22, 23], [22, 23, 24], rn 22 4, rn 19 8, rn 15 13, rn 15 14, rn 15 15, rn 15 16, rn 0 32, [], [33], rn 0 35, [], [], [37], [37, 38], [37, 38, 39], rn 37 4, rn 36 6, rn 36 7, rn 0 44, rn 0 45], ids := fun _ => [], rs := rL [[(0, 0)], [(47, 1)], [(48, 2)], [(49, 3)], [(5, 0)], [(0, 0)], [(52, 6)], [(53, 7)], [(54, 8)], [(55, 9)], [(51, 5), (56, 10)], [(50, 4), (57, 11)], [(58, 12)], [(59, 13)], [(60, 14)], [(0, 0)], [(62, 16)], [(63, 17)], [(64, 18)], [(5, 0)], [(66, 20)], [(67, 21)], [(0, 0)], [(69, 23)], [(70, 24)], [(71, 25)], [(72, 26)], [(68, 22), (73, 27)], [(65, 19), (74, 28)], [(75, 29)], [(76, 30)], [(77, 31)], [(61, 15), (78, 32)], [(5, 0)], [(80, 34)], [(79, 33), (81, 35)], [(5, 0)], [(0, 0)], [(84, 38)], [(85, 39)], [(86, 40)], [(87, 41)], [(83, 37), (88, 42)], [(89, 43)], [(82, 36), (90, 44)], [(91, 45)]], rh := rL [[], [], [], [(0, 0)], [], [], [], [], [(0, 0)], [], [], [], [], [], [], [], [], [], [(0, 0)], [], [], [], [], [], [], [(0, 0)], [], [], [], [], [], [], [], [], [], [], [], [], [], [], [(0, 0)]], V := fun i g => gA undef [.pointer (some ⟨m0, 0, none⟩), .pointer (some ⟨m0, 0, none⟩), .pointer (some ⟨m0, 0, none⟩), .slice p0_0_0 ((a0_0).length) c0_0_0, .int .i64 x4, .pointer (some ⟨m0, 0, none⟩), .pointer (some ⟨m0, 0, none⟩), .pointer (some ⟨m0, 0, none⟩), .slice p0_0_0 ((a0_0).length) c0_0_0, .int .i64 ((a0_0).length : Int), .int .i64 x9, .pointer (some ⟨eB p0_0_0, eO p0_0_0 + Int.toNat x9 * Enc.sz UInt8 + 0, none⟩), .int .u8 (x10.toNat : Int), .int .i64 x11, .int .i64 x12, .pointer (some ⟨m0, 0, none⟩), .pointer (some ⟨m0, 0, none⟩), .pointer (some ⟨m0, 0, none⟩), .slice p0_0_0 ((a0_0).length) c0_0_0, .int .i64 x4, .int .i64 x13, .int .i64 x14, .pointer (some ⟨m0, 0, none⟩), .pointer (some ⟨m0, 0, none⟩), .pointer (some ⟨m0, 0, none⟩), .slice p0_0_0 ((a0_0).length) c0_0_0, .int .i64 ((a0_0).length : Int), .int .i64 x15, .pointer (some ⟨eB p0_0_0, eO p0_0_0 + Int.toNat x15 * Enc.sz UInt8 + 0, none⟩), .int .u8 (x16.toNat : Int), .int .i64 x17, .int .i64 x18, .int .i64 x19, .int .i64 x4, .int .i64 x20, .int .i64 x21, .int .i64 x4, .pointer (some ⟨m0, 0, none⟩), .pointer (some ⟨m0, 0, none⟩), .pointer (some ⟨m0, 0, none⟩), .slice p0_0_0 ((a0_0).length) c0_0_0, .int .i64 ((a0_0).length : Int), .int .i64 x22, .int .i64 x23, .int .i64 x24, .int .i64 x24] i, U := fun _ _ => [], Φ := fun _ _ => True } ?_ ?_)))
 ·exact ⟨lM, lc rfl rfl fun hs hh => stp_nilCheck (sv hs 47 rfl), lc rfl rfl fun hs hh => stp_fieldAddr (j := 0) Tryd.underlying72 rfl ts22 rfl (sv hs 48 rfl) rfl, lc rfl rfl fun hs hh => stp_load1 ts22 (sv hs 49 rfl) (Cells.box (id := 0) (hh.get 0 _ rfl) 1 rfl), lM, lM, lc rfl rfl fun hs hh => stp_nilCheck (sv hs 52 rfl), lc rfl rfl fun hs hh => stp_fieldAddr (j := 0) Tryd.underlying72 rfl ts22 rfl (sv hs 53 rfl) rfl, lc rfl rfl fun hs hh => stp_load1 ts22 (sv hs 54 rfl) (Cells.box (id := 0) (hh.get 0 _ rfl) 1 rfl), lc rfl rfl fun hs hh => stp_len Tryd.underlying22 (sv hs 55 rfl), lc rfl rfl fun hs hh => stp_rem (sv hs 51 rfl) (sv hs 56 rfl) e9, lc rfl rfl fun hs hh => stp_indexAddr Tryd.underlying22 ts5 (by decide) (sv hs 50 rfl) rfl (sv hs 57 rfl) (Rdb.ro hr0_0_0) e10, lc rfl rfl fun hs hh => stp_load1 ts5 (sv hs 58 rfl) (Cells.el (Rdb.ro hr0_0_0) (by decide) e10 0 1 rfl), lc rfl rfl fun hs hh => stp_convI Tryd.underlying5 Tryd.underlying3 (sv hs 59 rfl) e11, lc rfl rfl fun hs hh => stp_mul (sv hs 60 rfl) rfl e12, lM, lc rfl rfl fun hs hh => stp_nilCheck (sv hs 62 rfl), lc rfl rfl fun hs hh => stp_fieldAddr (j := 0) Tryd.underlying72 rfl ts22 rfl (sv hs 63 rfl) rfl, lc rfl rfl fun hs hh => stp_load1 ts22 (sv hs 64 rfl) (Cells.box (id := 0) (hh.get 0 _ rfl) 1 rfl), lM, lc rfl rfl fun hs hh => stp_mul (sv hs 66 rfl) rfl e13, lc rfl rfl fun hs hh => stp_add (sv hs 67 rfl) rfl e14, lM, lc rfl rfl fun hs hh => stp_nilCheck (sv hs 69 rfl), lc rfl rfl fun hs hh => stp_fieldAddr (j := 0) Tryd.underlying72 rfl ts22 rfl (sv hs 70 rfl) rfl, lc rfl rfl fun hs hh => stp_load1 ts22 (sv hs 71 rfl) (Cells.box (id := 0) (hh.get 0 _ rfl) 1 rfl), lc rfl rfl fun hs hh => stp_len Tryd.underlying22 (sv hs 72 rfl), lc rfl rfl fun hs hh => stp_rem (sv hs 68 rfl) (sv hs 73 rfl) e15, lc rfl rfl fun hs hh => stp_indexAddr Tryd.underlying22 ts5 (by decide) (sv hs 65 rfl) rfl (sv hs 74 rfl) (Rdb.ro hr0_0_0) e16, lc rfl rfl fun hs hh => stp_load1 ts5 (sv hs 75 rfl) (Cells.el (Rdb.ro hr0_0_0) (by decide) e16 0 1 rfl), lc rfl rfl fun hs hh => stp_convI Tryd.underlying5 Tryd.underlying3 (sv hs 76 rfl) e17, lc rfl rfl fun hs hh => stp_mul (sv hs 77 rfl) rfl e18, lc rfl rfl fun hs hh => stp_add (sv hs 61 rfl) (sv hs 78 rfl) e19, lM, lc rfl rfl fun hs hh => stp_mul (sv hs 80 rfl) rfl e20, lc rfl rfl fun hs hh => stp_add (sv hs 79 rfl) (sv hs 81 rfl) e21, lM, lM, lc rfl rfl fun hs hh => stp_nilCheck (sv hs 84 rfl), lc rfl rfl fun hs hh => stp_fieldAddr (j := 0) Tryd.underlying72 rfl ts22 rfl (sv hs 85 rfl) rfl, lc rfl rfl fun hs hh => stp_load1 ts22 (sv hs 86 rfl) (Cells.box (id := 0) (hh.get 0 _ rfl) 1 rfl), lc rfl rfl fun hs hh => stp_len Tryd.underlying22 (sv hs 87 rfl), lc rfl rfl fun hs hh => stp_quo (sv hs 83 rfl) (sv hs 88 rfl) e22, lc rfl rfl fun hs hh => stp_mul (sv hs 89 rfl) rfl e23, lc rfl rfl fun hs hh => stp_add (sv hs 82 rfl) (sv hs 90 rfl) e24, lS, trivial⟩
 intro g hΦ
 refine KW.sub (s' := [(1, .int .i64 a1), (6, .int .i64 x24)]) (h' := [(0, [(m0, .cells #[.slice p0_0_0 ((a0_0).length) c0_0_0, .int .i64 x1] 72 (0, 0))])]) ?_ ⟨rfl, rfl, trivial⟩ ⟨rfl, trivial⟩
 obtain ⟨x25, e25, H0⟩ := bS H0
 obtain ⟨x26, e26, H0⟩ := bS H0
 refine kw_nx (sr (oM rfl (oM rfl (oD (stp_quo rfl rfl e25) rfl (oD (stp_xor rfl rfl) rfl (oS rfl (nn (sr (oM rfl (oM rfl (oD (stp_rem rfl rfl e26) rfl (oS rfl (nn ?_)))))))))))))
 refine cw_ret ?_
 obtain rfl := sI H0
 exact kr Tryd.results14 (rT rfl) [0] ⟨rfl, rfl⟩

theorem c_s_l12Rd_num (fl : Nat) (w : World) (m0 : Nat) (a0_0 : (List UInt8)) (a0_1 : Int) (a1 : (List Int)) (hn0_0_0 : n0_0_0 = (a0_0).length) (hr0_0_0 : RO w (hkeys [(0, [(m0, .cells #[.slice p0_0_0 n0_0_0 c0_0_0, .int .i64 a0_1] 72 (0, 0))])]) (RdL p0_0_0 c0_0_0 a0_0)) (hn1_0 : n1_0 = (a1).length) (hr1_0 : RO w (hkeys [(0, [(m0, .cells #[.slice p0_0_0 n0_0_0 c0_0_0, .int .i64 a0_1] 72 (0, 0))])]) (RdL p1_0 c1_0 a1)) (hM : Sat w (hkeys [(0, [(m0, .cells #[.slice p0_0_0 n0_0_0 c0_0_0, .int .i64 a0_1] 72 (0, 0))])]) w [(0, [(m0, .cells #[.slice p0_0_0 n0_0_0 c0_0_0, .int .i64 a0_1] 72 (0, 0))])]) (r : Int × Int) (H0 : s_l12Rd_num fl a0_0 a0_1 a1 = some r) :
  Ct Tryd.prog 41 [.pointer (some ⟨m0, 0, none⟩), .slice p1_0 n1_0 c1_0] w [(0, [(m0, .cells #[.slice p0_0_0 n0_0_0 c0_0_0, .int .i64 a0_1] 72 (0, 0))])] (fun rv h' => rv = .int .i64 r.1 ∧ h' = [(0, [(m0, .cells #[.slice p0_0_0 n0_0_0 c0_0_0, .int .i64 r.2] 72 (0, 0))])]) := by
 subst hn0_0_0 hn1_0
 unfold s_l12Rd_num at H0
 refine ct_of_cw Tryd.func41 rfl Tryd.ntmps41 rfl hM ?_
 obtain ⟨x1, e1, H0⟩ := bS H0
 refine sr (oS rfl (nn (sr (oM rfl (oM rfl (oM rfl (oD (stp_len Tryd.underlying23 rfl) rfl (oE (stpU_callM (fun i => bif Nat.beq i 0 then 0 else 1 + i) cf14 (fun w hw hb => c_s_l12Rd_pick fl w m0 a0_0 a0_1 ((a1).length : Int) rfl (RO.passM hr0_0_0 hw hb) (hw.pass (js := [0]) ⟨0, [], rfl, rfl, trivial⟩ (by decide)) x1 e1) (yB rfl rfl) ⟨rfl, (fun _ _ hp => by obtain ⟨_, rfl⟩ := hp; exact ⟨_, rfl⟩), trivial⟩) rfl ?_))))))))
 rintro _ _ ⟨_, ⟨rfl, rfl⟩, rfl⟩
 obtain ⟨x2, e2, H0⟩ := bS H0
 refine oD (stp_indexAddr Tryd.underlying23 ts3 (by decide) rfl rfl rfl (Rdb.ro hr1_0) e2) rfl (oD (stp_load1 ts3 rfl (Cells.el (Rdb.ro hr1_0) (by decide) e2 0 1 rfl)) rfl (oS rfl (nn (cw_ret ?_))))
 obtain rfl := sI H0
 exact kr Tryd.results41 (rT rfl) [0] ⟨rfl, rfl⟩

theorem c_s_l2Buckets (fl : Nat) (w : World) (a0 : Int) (r : Bool) (H0 : s_l2Buckets fl a0 = some r) :
  Ct Tryd.prog 80 [.int .i64 a0] w [] (fun rv h' => rv = .bool r ∧ h' = []) := by
 unfold s_l2Buckets at H0
 refine ct_of_cw Tryd.func80 rfl Tryd.ntmps80 rfl (Sat.refl _ _) ?_
 obtain ⟨y1, ey1, H0⟩ := bS H0
 refine sr (oS rfl (nn (sr (oM rfl (oI rfl (oM rfl (ow_cutY 3 8 y1 ?_ ?_)))))))
 ·rcases Bool.eq_false_or_eq_true (decide (1 ≤ a0)) with hy1 | hy1
  ·have ey1 := cond_t ey1 hy1
   refine oG rfl hy1 (mv rfl) rfl (oG rfl hy1 (stp_leq rfl rfl) rfl (oD (stp_pick_t rfl hy1 rfl) rfl ?_))
   obtain rfl := sI ey1
   exact ow_nil (jy 3 0)
  have ey1 := cond_f ey1 hy1
  refine oO rfl hy1 rfl (oO rfl hy1 rfl (oD (stp_pick_f rfl hy1 rfl) rfl ?_))
  obtain rfl := sI ey1
  exact ow_nil (jy 3 0)
 refine oS rfl (nn (cw_ret ?_))
 obtain rfl := sI H0
 exact kr Tryd.results80 (rT rfl) [] ⟨rfl, rfl⟩

theorem c_s_NewTable (fl : Nat) (w : World) (a0 : Int) (a1 : Int) (r : T × Bool) (H0 : s_NewTable fl a0 a1 = some r) :
  Ct Tryd.prog 68 [.int .i64 a0, .int .i64 a1] w [] (fun rv h' => ∃ (x0 : Option Addr) (y0 z0 : Nat) (C0 : Res) (x1 : Option Addr) (y1 z1 : Nat) (C1 : Res), rv = .tuple #[.agg #[.slice x0 y0 z0, .slice x1 y1 z1], .bool r.2] ∧ h' = [(0, C0), (1, C1)] ∧ y0 = (r.1.b).length ∧ OwnC 3 x0 z0 r.1.b C0 ∧ y1 = (r.1.f).length ∧ OwnC 61 x1 z1 r.1.f C1) := by
 unfold s_NewTable at H0
 refine ct_of_cw Tryd.func68 rfl Tryd.ntmps68 rfl (Sat.refl _ _) ?_
 refine sr (oE (stpU_alloc 0 tz26 rfl) rfl ?_)
 rintro _ _ ⟨b1, rfl, rfl⟩
 obtain ⟨y2, ey2, H0⟩ := bS H0
 refine oS rfl (nn (cw_seq (sr (oM rfl (oW rfl (oM rfl (ow_cutY 3 14 y2 ?_ ?_)))))))
 ·rcases Bool.eq_false_or_eq_true (decide (a0 < 1)) with hy2 | hy2
  ·have ey2 := cond_t ey2 hy2
   refine oO rfl hy2 rfl (oO rfl hy2 rfl (oD (stp_pick_t rfl hy2 rfl) rfl ?_))
   obtain rfl := sI ey2
   exact ow_nil (jy 3 0)
  have ey2 := cond_f ey2 hy2
  refine oG rfl hy2 (mv rfl) rfl (oG rfl hy2 (stp_gtr rfl rfl) rfl (oD (stp_pick_f rfl hy2 rfl) rfl ?_))
  obtain rfl := sI ey2
  exact ow_nil (jy 3 0)
 obtain ⟨y3, ey3, H0⟩ := bS H0
 refine oM rfl (ow_cutY 4 19 y3 ?_ ?_)
 ·rcases Bool.eq_false_or_eq_true y2 with hy3 | hy3
  ·have ey3 := cond_t ey3 hy3
   refine oO rfl hy3 rfl (oO rfl hy3 rfl (oO rfl hy3 rfl (oD (stp_pick_t rfl hy3 rfl) rfl ?_)))
   obtain rfl := sI ey3
   exact ow_nil (jy 4 0)
  have ey3 := cond_f ey3 hy3
  obtain ⟨x4, e4, ey3⟩ := bS ey3
  refine oG rfl hy3 (mv rfl) rfl (ow_eff (.some rfl hy3) (stpU_call (fun i => 1 + i) cf80 (fun w hw => c_s_l2Buckets fl w a1 x4 e4) (yA rfl)) rfl ?_)
  rintro _ _ ⟨_, ⟨rfl, rfl⟩, rfl⟩
  refine oG rfl hy3 (stp_not rfl) rfl (oD (stp_pick_f rfl hy3 rfl) rfl ?_)
  obtain rfl := sI ey3
  exact ow_nil (jy 4 0)
 refine ow_nil (kw_nx (cw_cond rfl (fun h5 => ?_) (fun h5 => ?_)))
 ·have H0 := cond_t H0 h5
  refine sr (oD (stp_build (cs := #[.slice none 0 0, .slice none 0 0]) sevp_nil bt26_0) rfl (oC2 0 ts26 rfl rfl (oS rfl (nn (cw_ret (kw_nx_ret (kw_addNil 1 (kw_addNil 2 ?_))))))))
  obtain rfl := sI H0
  exact kr Tryd.results68 (.cons (.cellN (us := [_, _]) ts26 rfl (Cells.box (id := 0) rfl 2 rfl)) (rT rfl)) [1, 2] ⟨_, _, _, _, _, _, _, _, rfl, rfl, rfl, (OwnC.nil _ _), rfl, (OwnC.nil _ _)⟩
 have H0 := cond_f H0 h5
 refine cw_skip (kw_nx (sr (oD (stp_build (cs := #[.slice none 0 0, .slice none 0 0]) sevp_nil bt26_0) rfl (oE (stpU_alloc 3 tz26 rfl) rfl ?_))))
 rintro _ _ ⟨b6, rfl, rfl⟩
 obtain ⟨o0_0, eo0_0, H0⟩ := bS H0
 refine oC2 3 ts26 rfl rfl (nn (cw_seq (sr (oS rfl (nn (cw_addNil 4 (cw_join (ι := (List Int) × Int × Option Addr × Nat × Nat × Res) (fun | (v7, v12, p8, n9, c10, C11) => o0_0 = .out (v7, v12) ∧ n9 = (v7).length ∧ OwnC 3 p8 c10 v7 C11) (fun | (v7, v12, p8, n9, c10, C11) => [(0, .int .i64 a0), (1, .int .i64 a1), (4, .pointer (some ⟨b1, 0, none⟩)), (6, .pointer (some ⟨b6, 0, none⟩)), (7, .int .i64 v12)]) (fun | (v7, v12, p8, n9, c10, C11) => [(0, [(b1, .cells #[.slice none 0 0, .slice none 0 0] 26 (0, 0))]), (3, [(b6, .cells #[.slice p8 n9 c10, .slice none 0 0] 26 (0, 0))]), (1001, C11)]) ?_ ?_)))))))
 ·refine cw_block (cw_loopS (ι := Nat × (List Int) × Int × Option Addr × Nat × Nat × Res) (js := [0, 3, 4]) (fun x => x.1) (fun | (fuel, v7, v12, p8, n9, c10, C11) => s_NewTable_L0 fl a1 fuel v7 v12 = some o0_0 ∧ n9 = (v7).length ∧ OwnC 3 p8 c10 v7 C11) (fun | (_, v7, v12, p8, n9, c10, C11) => [(0, .int .i64 a0), (1, .int .i64 a1), (4, .pointer (some ⟨b1, 0, none⟩)), (6, .pointer (some ⟨b6, 0, none⟩)), (7, .int .i64 v12)]) (fun | (_, v7, v12, p8, n9, c10, C11) => [(0, [(b1, .cells #[.slice none 0 0, .slice none 0 0] 26 (0, 0))]), (3, [(b6, .cells #[.slice p8 n9 c10, .slice none 0 0] 26 (0, 0))]), (1001, C11)]) (fl, [], 0, none, 0, 0, []) ⟨eo0_0, rfl, (OwnC.nil _ _)⟩ ⟨rfl, rfl, rfl, rfl, rfl, trivial⟩ ⟨0, [3, 4], rfl, rfl, 3, [4], rfl, rfl, 4, [], rfl, rfl, trivial⟩ (by decide) ?_)
  rintro ⟨fuel, v7, v12, p8, _, c10, C11⟩ ⟨H1, rfl, o11⟩
  have H1 : s_NewTable_L0 fl a1 fuel v7 v12 = some o0_0 := H1
  rcases fuel with _ | fuel
  ·rw [s_NewTable_L0.eq_1] at H1; cases H1
  rw [s_NewTable_L0.eq_2] at H1
  dsimp only
  refine cw_seq (sr (oM rfl (oM rfl (oW rfl (nn (cw_cond rfl (fun h13 => ?_) (fun h13 => ?_)))))))
  ·have H1 := cond_t H1 h13
   refine cw_skip (kw_nx (cw_seq (cw_block (cw_region (oA 0 Tryd.underlying26 rfl ts23 rfl (oL 3 ts23 rfl (oE (stpU_lit (sz := 1) (l := [(-1)]) [.int .i64 (-1)] sl23 5 (sevp_cons rfl sevp_nil) rfl rfl rfl rfl rfl rfl rfl rfl rfl) rfl ?_)))))))
   rintro _ _ ⟨p14, C15, rfl, rfl, o15⟩
   obtain ⟨x16, e16, H1⟩ := bS H1
   refine oE (stpU_append sl23 rfl (id := 1001) rfl rfl rfl (by simp) rfl o11 (Rdb.own (id := 5) rfl o15) e16) rfl ?_
   rintro _ _ ⟨p17, c18, C19, rfl, rfl, o19⟩
   obtain ⟨x20, e20, H1⟩ := bS H1
   exact oA 0 Tryd.underlying26 rfl ts23 rfl (oC2 3 ts23 rfl rfl (ow_nil (kw_bl_normal (kw_nx (cw_region (oM rfl (oP e20 rfl (oS rfl (ow_nil (kw_lqS (js := [0, 3, 1001]) (fuel, x16, x20, p17, ((x16).length), c18, C19) ⟨H1, rfl, o19⟩ (Nat.lt_succ_self _) ⟨rfl, rfl, rfl, rfl, rfl, trivial⟩ ⟨0, [3, 1001], rfl, rfl, 3, [1001], rfl, rfl, 1001, [], rfl, rfl, trivial⟩ (by decide)))))))))))
  have H1 := cond_f H1 h13
  refine cw_exit (kw_nx_exit (kw_lq_exit (kw_bl ?_)))
  obtain rfl := sI H1
  exact kw_joinS (js := [0, 3, 1001]) (v7, v12, p8, ((v7).length), c10, C11) ⟨rfl, rfl, o11⟩ ⟨rfl, rfl, rfl, rfl, rfl, trivial⟩ ⟨0, [3, 1001], rfl, rfl, 3, [1001], rfl, rfl, 1001, [], rfl, rfl, trivial⟩ (by decide)
 rintro ⟨v7, v12, p8, _, c10, C11⟩ ⟨rfl, rfl, o11⟩
 dsimp only
 obtain ⟨o0_1, eo0_1, H0⟩ := bS H0
 refine kw_nx (cw_seq (sr (oS rfl (nn (cw_addNil 6 (cw_join (ι := (List F) × Int × Option Addr × Nat × Nat × Res) (fun | (v21, v26, p22, n23, c24, C25) => o0_1 = .out (v21, v26) ∧ n23 = (v21).length ∧ OwnC 61 p22 c24 v21 C25) (fun | (v21, v26, p22, n23, c24, C25) => [(0, .int .i64 a0), (4, .pointer (some ⟨b1, 0, none⟩)), (6, .pointer (some ⟨b6, 0, none⟩)), (8, .int .i64 v26)]) (fun | (v21, v26, p22, n23, c24, C25) => [(0, [(b1, .cells #[.slice none 0 0, .slice none 0 0] 26 (0, 0))]), (3, [(b6, .cells #[.slice p8 ((v7).length) c10, .slice p22 n23 c24] 26 (0, 0))]), (1001, C11), (1002, C25)]) ?_ ?_))))))
 ·refine cw_block (cw_loopS (ι := Nat × (List F) × Int × Option Addr × Nat × Nat × Res) (js := [0, 3, 1001, 6]) (fun x => x.1) (fun | (fuel, v21, v26, p22, n23, c24, C25) => s_NewTable_L1 fl a0 fuel v21 v26 = some o0_1 ∧ n23 = (v21).length ∧ OwnC 61 p22 c24 v21 C25) (fun | (_, v21, v26, p22, n23, c24, C25) => [(0, .int .i64 a0), (4, .pointer (some ⟨b1, 0, none⟩)), (6, .pointer (some ⟨b6, 0, none⟩)), (8, .int .i64 v26)]) (fun | (_, v21, v26, p22, n23, c24, C25) => [(0, [(b1, .cells #[.slice none 0 0, .slice none 0 0] 26 (0, 0))]), (3, [(b6, .cells #[.slice p8 ((v7).length) c10, .slice p22 n23 c24] 26 (0, 0))]), (1001, C11), (1002, C25)]) (fl, [], 0, none, 0, 0, []) ⟨eo0_1, rfl, (OwnC.nil _ _)⟩ ⟨rfl, rfl, rfl, rfl, trivial⟩ ⟨0, [3, 1001, 6], rfl, rfl, 3, [1001, 6], rfl, rfl, 1001, [6], rfl, rfl, 6, [], rfl, rfl, trivial⟩ (by decide) ?_)
  rintro ⟨fuel, v21, v26, p22, _, c24, C25⟩ ⟨H1, rfl, o25⟩
  have H1 : s_NewTable_L1 fl a0 fuel v21 v26 = some o0_1 := H1
  rcases fuel with _ | fuel
  ·rw [s_NewTable_L1.eq_1] at H1; cases H1
  rw [s_NewTable_L1.eq_2] at H1
  dsimp only
  refine cw_seq (sr (oM rfl (oM rfl (oW rfl (nn (cw_cond rfl (fun h27 => ?_) (fun h27 => ?_)))))))
  ·have H1 := cond_t H1 h27
   refine cw_skip (kw_nx (cw_seq (cw_block (cw_region (oA 1 Tryd.underlying26 rfl ts24 rfl (oL 3 ts24 rfl (oD (stp_build (cs := #[.bool false, .int .i64 0, .int .i64 0, .int .i64 0, .int .i64 (-1)]) (sevp_cons rfl sevp_nil) bt61_1) rfl (oE (stpU_lit (sz := 5) (l := [(⟨false, (⟨0, 0⟩ : K), 0, (-1)⟩ : F)]) [.agg #[.bool false, .int .i64 0, .int .i64 0, .int .i64 0, .int .i64 (-1)]] sl24 7 (sevp_cons rfl sevp_nil) rfl rfl rfl rfl rfl rfl rfl rfl rfl) rfl ?_))))))))
   rintro _ _ ⟨p28, C29, rfl, rfl, o29⟩
   obtain ⟨x30, e30, H1⟩ := bS H1
   refine oE (stpU_append sl24 rfl (id := 1002) rfl rfl rfl (by simp) rfl o25 (Rdb.own (id := 7) rfl o29) e30) rfl ?_
   rintro _ _ ⟨p31, c32, C33, rfl, rfl, o33⟩
   obtain ⟨x34, e34, H1⟩ := bS H1
   exact oA 1 Tryd.underlying26 rfl ts24 rfl (oC2 3 ts24 rfl rfl (ow_nil (kw_bl_normal (kw_nx (cw_region (oM rfl (oP e34 rfl (oS rfl (ow_nil (kw_lqS (js := [0, 3, 1001, 1002]) (fuel, x30, x34, p31, ((x30).length), c32, C33) ⟨H1, rfl, o33⟩ (Nat.lt_succ_self _) ⟨rfl, rfl, rfl, rfl, trivial⟩ ⟨0, [3, 1001, 1002], rfl, rfl, 3, [1001, 1002], rfl, rfl, 1001, [1002], rfl, rfl, 1002, [], rfl, rfl, trivial⟩ (by decide)))))))))))
  have H1 := cond_f H1 h27
  refine cw_exit (kw_nx_exit (kw_lq_exit (kw_bl ?_)))
  obtain rfl := sI H1
  exact kw_joinS (js := [0, 3, 1001, 1002]) (v21, v26, p22, ((v21).length), c24, C25) ⟨rfl, rfl, o25⟩ ⟨rfl, rfl, rfl, rfl, trivial⟩ ⟨0, [3, 1001, 1002], rfl, rfl, 3, [1001, 1002], rfl, rfl, 1001, [1002], rfl, rfl, 1002, [], rfl, rfl, trivial⟩ (by decide)
 rintro ⟨v21, v26, p22, _, c24, C25⟩ ⟨rfl, rfl, o25⟩
 dsimp only
 refine kw_nx (sr (oB2 3 ts26 rfl (oC2 0 ts26 rfl rfl (oS rfl (nn (cw_ret ?_))))))
 obtain rfl := sI H0
 exact kr Tryd.results68 (.cons (.cellN (us := [_, _]) ts26 rfl (Cells.box (id := 0) rfl 2 rfl)) (rT rfl)) [1001, 1002] ⟨_, _, _, _, _, _, _, _, rfl, rfl, rfl, o11, rfl, o25⟩

theorem c_s_NewSystem (fl : Nat) (w : World) (a0 : Int) (a1 : Int) (a2 : Int) (r : Sy × Bool) (H0 : s_NewSystem fl a0 a1 a2 = some r) :
  Ct Tryd.prog 40 [.int .i64 a0, .int .i64 a1, .int .i64 a2] w [] (fun rv h' => ∃ (x0 : Option Addr) (y0 z0 : Nat) (C0 : Res) (x1 : Option Addr) (y1 z1 : Nat) (C1 : Res) (x2 : Option Addr) (y2 z2 : Nat) (C2 : Res), rv = .tuple #[.agg #[.slice x0 y0 z0, .slice x1 y1 z1, .slice x2 y2 z2], .bool r.2] ∧ h' = [(0, C0), (1, C1), (2, C2)] ∧ y0 = (r.1.t.b).length ∧ OwnC 3 x0 z0 r.1.t.b C0 ∧ y1 = (r.1.t.f).length ∧ OwnC 61 x1 z1 r.1.t.f C1 ∧ y2 = (r.1.c).length ∧ OwnD 43 53 x2 z2 r.1.c C2) := by
 unfold s_NewSystem at H0
 refine ct_of_cw Tryd.func40 rfl Tryd.ntmps40 rfl (Sat.refl _ _) ?_
 refine sr (oE (stpU_alloc 0 tz29 rfl) rfl ?_)
 rintro _ _ ⟨b1, rfl, rfl⟩
 obtain ⟨x2, e2, H0⟩ := bS H0
 refine oS rfl (nn (sr (oM rfl (oM rfl (oE (stpU_call (fun i => 1 + i) cf68 (fun w hw => c_s_NewTable fl w a0 a1 x2 e2) (yB rfl rfl)) rfl ?_)))))
 rintro _ _ ⟨_, ⟨p3, _, c5, C6, p7, _, c9, C10, rfl, rfl, rfl, o6, rfl, o10⟩, rfl⟩
 refine oM rfl (oT rfl (oT rfl (oE (stpU_alloc 3 tz26 rfl) rfl ?_)))
 rintro _ _ ⟨b11, rfl, rfl⟩
 obtain ⟨y12, ey12, H0⟩ := bS H0
 refine oC2 3 ts26 rfl rfl (oS rfl (nn (cw_seq (sr (oM rfl (oK rfl (oM rfl (ow_cutY 3 21 y12 ?_ ?_))))))))
 ·rcases Bool.eq_false_or_eq_true (!x2.2) with hy12 | hy12
  ·have ey12 := cond_t ey12 hy12
   refine oO rfl hy12 rfl (oO rfl hy12 rfl (oD (stp_pick_t rfl hy12 rfl) rfl ?_))
   obtain rfl := sI ey12
   exact ow_nil (jy 3 0)
  have ey12 := cond_f ey12 hy12
  refine oG rfl hy12 (mv rfl) rfl (oG rfl hy12 (stp_lss rfl rfl) rfl (oD (stp_pick_f rfl hy12 rfl) rfl ?_))
  obtain rfl := sI ey12
  exact ow_nil (jy 3 0)
 obtain ⟨y13, ey13, H0⟩ := bS H0
 refine oM rfl (ow_cutY 3 25 y13 ?_ ?_)
 ·rcases Bool.eq_false_or_eq_true y12 with hy13 | hy13
  ·have ey13 := cond_t ey13 hy13
   refine oO rfl hy13 rfl (oO rfl hy13 rfl (oD (stp_pick_t rfl hy13 rfl) rfl ?_))
   obtain rfl := sI ey13
   exact ow_nil (jy 3 0)
  have ey13 := cond_f ey13 hy13
  refine oG rfl hy13 (mv rfl) rfl (oG rfl hy13 (stp_gtr rfl rfl) rfl (oD (stp_pick_f rfl hy13 rfl) rfl ?_))
  obtain rfl := sI ey13
  exact ow_nil (jy 3 0)
 refine ow_nil (kw_nx (cw_cond rfl (fun h14 => ?_) (fun h14 => ?_)))
 ·have H0 := cond_t H0 h14
  refine sr (oD (stp_build (cs := #[.slice none 0 0, .slice none 0 0, .slice none 0 0]) sevp_nil bt29_2) rfl (oC3 0 ts29 rfl rfl (oS rfl (nn (cw_ret (kw_nx_ret (kw_addNil 4 (kw_addNil 5 (kw_addNil 6 ?_)))))))))
  obtain rfl := sI H0
  exact kr Tryd.results40 (.cons (.cellN (us := [_, _, _]) ts29 rfl (Cells.box (id := 0) rfl 3 rfl)) (rT rfl)) [4, 5, 6] ⟨_, _, _, _, _, _, _, _, _, _, _, _, rfl, rfl, rfl, (OwnC.nil _ _), rfl, (OwnC.nil _ _), rfl, (OwnD.nil _ _ _)⟩
 have H0 := cond_f H0 h14
 obtain ⟨x15, e15, H0⟩ := bS H0
 refine cw_skip (kw_nx (cw_seq (rdq g_mixed [2, 6, 8] [0, 3] { dst := dS [28, 29, 30, 31, 0, 8], pre := gA [] [[], [], [1], [0, 1, 2], rn 0 4, rn 0 5], ids := gA [] [[], [], [7], [], [0]], rs := rL [[(8, 0)], [(2, 0)], [(28, 2)], [(27, 1), (29, 3)], [(6, 0), (30, 4)], []], rh := rL [[(3, 0)], [], [], [], [(0, 0)]], V := fun i g => gA undef [.agg #[.slice p3 ((x2.1.b).length) c5, .slice p7 ((x2.1.f).length) c9], .int .i64 a2, .slice ((g 2).A 0) x15 x15, .agg #[.slice p3 ((x2.1.b).length) c5, .slice p7 ((x2.1.f).length) c9, .slice ((g 2).A 0) x15 x15], undef, .bool true] i, U := fun i g => gA [] [[], [], [(7, ((g 2).R 0))], [], [(0, [(b1, .cells #[.slice p3 ((x2.1.b).length) c5, .slice p7 ((x2.1.f).length) c9, .slice ((g 2).A 0) x15 x15] 29 (0, 0))])]] i, Φ := fun i x => gA True [True, True, OwnD 43 53 (x.A 0) x15 (List.replicate x15 (⟨[], []⟩ : Cp)) (x.R 0)] i } ?_ ?_)))
 ·refine ⟨lc rfl rfl fun hs hh => stp_loadN (us := [_, _]) ts26 (sv hs 8 rfl) (Cells.box (id := 3) (hh.get 3 _ rfl) 2 rfl), lM, ?_, ld rfl rfl fun g hΦ s h hs hh => stp_build (cs := #[.slice p3 ((x2.1.b).length) c5, .slice p7 ((x2.1.f).length) c9, .slice ((g 2).A 0) x15 x15]) (sevp_cons (sv hs 27 rfl) (sevp_cons (sv hs 29 rfl) sevp_nil)) bt29_3, ?_, lc rfl rfl fun hs hh => stp_assign rfl, trivial⟩
  ·refine le rfl rfl (fun g hΦ s h hs hh => (stpU_makeD 53 sl27 rfl 7 (sv hs 28 rfl) (sv hs 28 rfl) e15)) ?_
   rintro g _ _ ⟨p16, C17, rfl, rfl, o17⟩
   exact ⟨⟨[p16], [], [C17]⟩, o17, .inr rfl, rfl⟩
  refine le rfl rfl (fun g hΦ s h hs hh => (stpU_store (id := 0) (cs' := [.slice p3 ((x2.1.b).length) c5, .slice p7 ((x2.1.f).length) c9, .slice ((g 2).A 0) x15 x15]) ts29 (sv hs 6 rfl) (sv hs 30 rfl) (hh.get 0 _ rfl) rfl rfl rfl rfl)) ?_
  rintro g _ _ rfl
  exact ⟨⟨[], [], []⟩, trivial, .inl rfl, rfl⟩
 intro g hΦ
 refine kw_gen (ι := Option Addr × Res) (((g 2).A 0), ((g 2).R 0)) (fun | (p16, C17) => OwnD 43 53 p16 x15 (List.replicate x15 (⟨[], []⟩ : Cp)) C17) (fun | (p16, C17) => [(6, .pointer (some ⟨b1, 0, none⟩)), (7, .bool true)]) (fun | (p16, C17) => [(0, [(b1, .cells #[.slice p3 ((x2.1.b).length) c5, .slice p7 ((x2.1.f).length) c9, .slice p16 x15 x15] 29 (0, 0))]), (1, C6), (2, C10), (7, C17)]) (hΦ 2 (by decide)) ⟨rfl, rfl, trivial⟩ ⟨rfl, rfl, rfl, rfl, trivial⟩ ?_
 rintro ⟨p16, C17⟩ o17
 have o17 : OwnD 43 53 p16 x15 (List.replicate x15 (⟨[], []⟩ : Cp)) C17 := o17
 dsimp only
 refine kw_nx (cw_ret ?_)
 obtain rfl := sI H0
 exact kr Tryd.results40 (.cons (.cellN (us := [_, _, _]) ts29 rfl (Cells.box (id := 0) rfl 3 rfl)) (rT rfl)) [1, 2, 7] ⟨_, _, _, _, _, _, _, _, _, _, _, _, rfl, rfl, rfl, o6, rfl, o10, (by simp), o17⟩

theorem c_s_l2Draw (fl : Nat) (w : World) (m0 : Nat) (a0_0 : (List UInt8)) (a0_1 : Int) (hn0_0_0 : n0_0_0 = (a0_0).length) (hr0_0_0 : RO w (hkeys [(0, [(m0, .cells #[.slice p0_0_0 n0_0_0 c0_0_0, .int .i64 a0_1] 72 (0, 0))])]) (RdL p0_0_0 c0_0_0 a0_0)) (hM : Sat w (hkeys [(0, [(m0, .cells #[.slice p0_0_0 n0_0_0 c0_0_0, .int .i64 a0_1] 72 (0, 0))])]) w [(0, [(m0, .cells #[.slice p0_0_0 n0_0_0 c0_0_0, .int .i64 a0_1] 72 (0, 0))])]) (r : K × Int) (H0 : s_l2Draw fl a0_0 a0_1 = some r) :
  Ct Tryd.prog 43 [.pointer (some ⟨m0, 0, none⟩)] w [(0, [(m0, .cells #[.slice p0_0_0 n0_0_0 c0_0_0, .int .i64 a0_1] 72 (0, 0))])] (fun rv h' => rv = .agg #[.int .i64 r.1.s, .int .i64 r.1.p] ∧ h' = [(0, [(m0, .cells #[.slice p0_0_0 n0_0_0 c0_0_0, .int .i64 r.2] 72 (0, 0))])]) := by
 subst hn0_0_0
 unfold s_l2Draw at H0
 refine ct_of_cw Tryd.func43 rfl Tryd.ntmps43 rfl hM ?_
 refine sr (oE (stpU_alloc 1 tz36 rfl) rfl ?_)
 rintro _ _ ⟨b1, rfl, rfl⟩
 refine nn (sr (oM rfl (oE (stpU_lit (sz := 1) (l := [0, 1, 2, 3, 1]) [.int .i64 0, .int .i64 1, .int .i64 2, .int .i64 3, .int .i64 1] sl23 2 (sevp_cons rfl (sevp_cons rfl (sevp_cons rfl (sevp_cons rfl (sevp_cons rfl sevp_nil))))) rfl rfl rfl rfl rfl rfl rfl rfl rfl) rfl ?_)))
 rintro _ _ ⟨p2, C3, rfl, rfl, o3⟩
 obtain ⟨x4, e4, H0⟩ := bS H0
 refine oE (stpU_callM (fun i => bif Nat.beq i 0 then 0 else 3 + i) cf41 (fun w hw hb => c_s_l12Rd_num fl w m0 a0_0 a0_1 ([0, 1, 2, 3, 1]) rfl (RO.passM hr0_0_0 hw hb) (by simp) (OwnC.passM (id := 2) rfl o3 hw hb ⟨rfl, trivial⟩) (hw.pass (js := [0]) ⟨0, [], rfl, rfl, trivial⟩ (by decide)) x4 e4) (yB rfl rfl) ⟨rfl, (fun _ _ hp => by obtain ⟨_, rfl⟩ := hp; exact ⟨_, rfl⟩), trivial⟩) rfl ?_
 rintro _ _ ⟨_, ⟨rfl, rfl⟩, rfl⟩
 refine oM rfl (oE (stpU_lit (sz := 1) (l := [0, 1, 2, 3, 4, 5, 100, 255]) [.int .i64 0, .int .i64 1, .int .i64 2, .int .i64 3, .int .i64 4, .int .i64 5, .int .i64 100, .int .i64 255] sl23 4 (sevp_cons rfl (sevp_cons rfl (sevp_cons rfl (sevp_cons rfl (sevp_cons rfl (sevp_cons rfl (sevp_cons rfl (sevp_cons rfl sevp_nil)))))))) rfl rfl rfl rfl rfl rfl rfl rfl rfl) rfl ?_)
 rintro _ _ ⟨p5, C6, rfl, rfl, o6⟩
 obtain ⟨x7, e7, H0⟩ := bS H0
 refine oE (stpU_callM (fun i => bif Nat.beq i 0 then 0 else 5 + i) cf41 (fun w hw hb => c_s_l12Rd_num fl w m0 a0_0 x4.2 ([0, 1, 2, 3, 4, 5, 100, 255]) rfl (RO.passM hr0_0_0 hw hb) (by simp) (OwnC.passM (id := 4) rfl o6 hw hb ⟨rfl, trivial⟩) (hw.pass (js := [0]) ⟨0, [], rfl, rfl, trivial⟩ (by decide)) x7 e7) (yB rfl rfl) ⟨rfl, (fun _ _ hp => by obtain ⟨_, rfl⟩ := hp; exact ⟨_, rfl⟩), trivial⟩) rfl ?_
 rintro _ _ ⟨_, ⟨rfl, rfl⟩, rfl⟩
 refine oD (stp_build (cs := #[.int .i64 x4.1, .int .i64 x7.1]) (sevp_cons rfl (sevp_cons rfl sevp_nil)) bt36_4) rfl (oC2 1 ts36 rfl rfl (nn (cw_ret ?_)))
 obtain rfl := sI H0
 exact kr Tryd.results43 (rC2 1 ts36 rfl rfl) [0] ⟨rfl, rfl⟩

theorem c_s_TableValid (fl : Nat) (w : World) (a0 : T) (hn0_0 : n0_0 = (a0.b).length) (hr0_0 : RO w (hkeys []) (RdL p0_0 c0_0 a0.b)) (hn0_1 : n0_1 = (a0.f).length) (hr0_1 : RO w (hkeys []) (RdL p0_1 c0_1 a0.f)) (r : Bool) (H0 : s_TableValid fl a0 = some r) :
    Ct Tryd.prog 71 [.agg #[.slice p0_0 n0_0 c0_0, .slice p0_1 n0_1 c0_1]] w [] (fun rv h' => rv = .bool r ∧ h' = []) := by
  obtain rfl := hn0_0
  obtain rfl := hn0_1
  unfold s_TableValid at H0
  obtain rfl := Option.some.inj H0
  exact ct_of_calls (sTableValid_c _ a0 w ⟨_, _, rfl, (hr0_0 w (Fr.refl _ _)).rd, (hr0_1 w (Fr.refl _ _)).rd⟩)

theorem c_s_l1Space (fl : Nat) (w : World) (a0 : Int) (r : Bool) (H0 : s_l1Space fl a0 = some r) :
  Ct Tryd.prog 63 [.int .i64 a0] w [] (fun rv h' => rv = .bool r ∧ h' = []) := by
 unfold s_l1Space at H0
 refine ct_of_cw Tryd.func63 rfl Tryd.ntmps63 rfl (Sat.refl _ _) ?_
 obtain ⟨y1, ey1, H0⟩ := bS H0
 refine sr (oS rfl (nn (sr (oM rfl (oI rfl (oM rfl (ow_cutY 3 8 y1 ?_ ?_)))))))
 ·rcases Bool.eq_false_or_eq_true (decide (0 ≤ a0)) with hy1 | hy1
  ·have ey1 := cond_t ey1 hy1
   refine oG rfl hy1 (mv rfl) rfl (oG rfl hy1 (stp_lss rfl rfl) rfl (oD (stp_pick_t rfl hy1 rfl) rfl ?_))
   obtain rfl := sI ey1
   exact ow_nil (jy 3 0)
  have ey1 := cond_f ey1 hy1
  refine oO rfl hy1 rfl (oO rfl hy1 rfl (oD (stp_pick_f rfl hy1 rfl) rfl ?_))
  obtain rfl := sI ey1
  exact ow_nil (jy 3 0)
 refine oS rfl (nn (cw_ret ?_))
 obtain rfl := sI H0
 exact kr Tryd.results63 (rT rfl) [] ⟨rfl, rfl⟩

theorem c_s_l1Page (fl : Nat) (w : World) (a0 : Int) (r : Bool) (H0 : s_l1Page fl a0 = some r) :
  Ct Tryd.prog 64 [.int .i64 a0] w [] (fun rv h' => rv = .bool r ∧ h' = []) := by
 unfold s_l1Page at H0
 refine ct_of_cw Tryd.func64 rfl Tryd.ntmps64 rfl (Sat.refl _ _) ?_
 obtain ⟨y1, ey1, H0⟩ := bS H0
 refine sr (oS rfl (nn (sr (oM rfl (oI rfl (oM rfl (ow_cutY 3 8 y1 ?_ ?_)))))))
 ·rcases Bool.eq_false_or_eq_true (decide (0 ≤ a0)) with hy1 | hy1
  ·have ey1 := cond_t ey1 hy1
   refine oG rfl hy1 (mv rfl) rfl (oG rfl hy1 (stp_lss rfl rfl) rfl (oD (stp_pick_t rfl hy1 rfl) rfl ?_))
   obtain rfl := sI ey1
   exact ow_nil (jy 3 0)
  have ey1 := cond_f ey1 hy1
  refine oO rfl hy1 rfl (oO rfl hy1 rfl (oD (stp_pick_f rfl hy1 rfl) rfl ?_))
  obtain rfl := sI ey1
  exact ow_nil (jy 3 0)
 refine oS rfl (nn (cw_ret ?_))
 obtain rfl := sI H0
 exact kr Tryd.results64 (rT rfl) [] ⟨rfl, rfl⟩

theorem c_s_KeyValid (fl : Nat) (w : World) (a0 : K) (r : Bool) (H0 : s_KeyValid fl a0 = some r) :
  Ct Tryd.prog 35 [.agg #[.int .i64 a0.s, .int .i64 a0.p]] w [] (fun rv h' => rv = .bool r ∧ h' = []) := by
 unfold s_KeyValid at H0
 refine ct_of_cw Tryd.func35 rfl Tryd.ntmps35 rfl (Sat.refl _ _) ?_
 refine sr (oE (stpU_box 0 rfl rfl) rfl ?_)
 rintro _ _ ⟨b1, rfl, rfl⟩
 obtain ⟨x2, e2, H0⟩ := bS H0
 refine oS rfl (nn (sr (oA 0 Tryd.underlying36 rfl ts3 rfl (oL 0 ts3 rfl (oE (stpU_call (fun i => 1 + i) cf63 (fun w hw => c_s_l1Space fl w a0.s x2 e2) (yA rfl)) rfl ?_)))))
 rintro _ _ ⟨_, ⟨rfl, rfl⟩, rfl⟩
 obtain ⟨y3, ey3, H0⟩ := bS H0
 refine oM rfl (ow_cutY 4 10 y3 ?_ ?_)
 ·rcases Bool.eq_false_or_eq_true x2 with hy3 | hy3
  ·have ey3 := cond_t ey3 hy3
   obtain ⟨x4, e4, ey3⟩ := bS ey3
   refine oG rfl hy3 (fA 1 Tryd.underlying36 rfl ts3 rfl rfl rfl) rfl (oG rfl hy3 (lB 0 ts3 rfl rfl rfl) rfl (ow_eff (.some rfl hy3) (stpU_call (fun i => 1 + i) cf64 (fun w hw => c_s_l1Page fl w a0.p x4 e4) (yA rfl)) rfl ?_))
   rintro _ _ ⟨_, ⟨rfl, rfl⟩, rfl⟩
   refine oD (stp_pick_t rfl hy3 rfl) rfl ?_
   obtain rfl := sI ey3
   exact ow_nil (jy 4 0)
  have ey3 := cond_f ey3 hy3
  refine oO rfl hy3 rfl (oO rfl hy3 rfl (oO rfl hy3 rfl (oD (stp_pick_f rfl hy3 rfl) rfl ?_)))
  obtain rfl := sI ey3
  exact ow_nil (jy 4 0)
 refine oS rfl (nn (cw_ret ?_))
 obtain rfl := sI H0
 exact kr Tryd.results35 (rT rfl) [] ⟨rfl, rfl⟩

theorem c_s_l8Find (fl : Nat) (w : World) (a0 : (List Nt)) (a1 : K) (hn0_0 : n0_0 = (a0).length) (hr0_0 : RO w (hkeys []) (RdL p0_0 c0_0 a0)) (r : Int) (H0 : s_l8Find fl a0 a1 = some r) :
  Ct Tryd.prog 37 [.slice p0_0 n0_0 c0_0, .agg #[.int .i64 a1.s, .int .i64 a1.p]] w [] (fun rv h' => rv = .int .i64 r ∧ h' = []) := by
 subst hn0_0
 unfold s_l8Find at H0
 refine ct_of_cw Tryd.func37 rfl Tryd.ntmps37 rfl (Sat.refl _ _) ?_
 refine sr (oE (stpU_box 0 rfl rfl) rfl ?_)
 rintro _ _ ⟨b1, rfl, rfl⟩
 obtain ⟨o0_0, eo0_0, H0⟩ := bS H0
 refine oS rfl (nn (cw_seq (sr (oS rfl (nn (cw_join (ι := Int) (fun | v2 => o0_0 = .out v2) (fun | v2 => [(0, .slice p0_0 ((a0).length) c0_0), (3, .pointer (some ⟨b1, 0, none⟩)), (5, .int .i64 v2)]) (fun | v2 => [(0, [(b1, .cells #[.int .i64 a1.s, .int .i64 a1.p] 36 (0, 0))])]) ?_ ?_))))))
 ·refine cw_block (cw_loopS (ι := Nat × Int) (js := [0]) (fun x => x.1) (fun | (fuel, v2) => s_l8Find_L0 fl a0 a1 fuel v2 = some o0_0) (fun | (_, v2) => [(0, .slice p0_0 ((a0).length) c0_0), (3, .pointer (some ⟨b1, 0, none⟩)), (5, .int .i64 v2)]) (fun | (_, v2) => [(0, [(b1, .cells #[.int .i64 a1.s, .int .i64 a1.p] 36 (0, 0))])]) (fl, 0) eo0_0 ⟨rfl, rfl, rfl, trivial⟩ ⟨0, [], rfl, rfl, trivial⟩ (by decide) ?_)
  rintro ⟨fuel, v2⟩ H1
  have H1 : s_l8Find_L0 fl a0 a1 fuel v2 = some o0_0 := H1
  rcases fuel with _ | fuel
  ·rw [s_l8Find_L0.eq_1] at H1; cases H1
  rw [s_l8Find_L0.eq_2] at H1
  dsimp only
  refine cw_seq (sr (oM rfl (oM rfl (oD (stp_len Tryd.underlying41 rfl) rfl (oW rfl (nn (cw_cond rfl (fun h3 => ?_) (fun h3 => ?_))))))))
  ·have H1 := cond_t H1 h3
   obtain ⟨x4, e4, H1⟩ := bS H1
   refine cw_skip (kw_nx (cw_seq (cw_block (cw_seq (rdq g_mixed [0, 3, 5] [0] { dst := dS [13, 14, 15, 16, 17, 18, 19], pre := gA [] [[], [], [0, 1], [0, 1, 2], rn 0 4, [], rn 0 6], ids := fun _ => [], rs := rL [[(0, 0)], [(5, 0)], [(12, 1), (13, 2)], [(14, 3)], [(15, 4)], [(3, 0)], [(16, 5), (17, 6)]], rh := rL [[], [], [], [], [], [(0, 0)]], V := fun i g => gA undef [.slice p0_0 ((a0).length) c0_0, .int .i64 v2, .pointer (some ⟨eB p0_0, eO p0_0 + Int.toNat v2 * Enc.sz Nt + 0, none⟩), .pointer (some ⟨eB p0_0, eO p0_0 + Int.toNat v2 * Enc.sz Nt + 0, none⟩), .agg #[.int .i64 x4.k.s, .int .i64 x4.k.p], .agg #[.int .i64 a1.s, .int .i64 a1.p], .bool (x4.k == a1)] i, U := fun _ _ => [], Φ := fun _ _ => True } ?_ ?_)))))
   ·exact ⟨lM, lM, lc rfl rfl fun hs hh => stp_indexAddr Tryd.underlying41 ts53 (by decide) (sv hs 12 rfl) rfl (sv hs 13 rfl) (Rdb.ro hr0_0) e4, lc rfl rfl fun hs hh => stp_fieldAddr (j := 0) Tryd.underlying53 rfl ts36 rfl (sv hs 14 rfl) rfl, lc rfl rfl fun hs hh => stp_loadN (us := [_, _]) ts36 (sv hs 15 rfl) (Cells.el (Rdb.ro hr0_0) (by decide) e4 0 2 rfl), lc rfl rfl fun hs hh => stp_loadN (us := [_, _]) ts36 (sv hs 3 rfl) (Cells.box (id := 0) (hh.get 0 _ rfl) 2 rfl), lc rfl rfl fun hs hh => stp_eqlS te36 x4.k a1 (sv hs 16 rfl) (sv hs 17 rfl), trivial⟩
   intro g hΦ
   refine KW.sub (s' := [(0, .slice p0_0 ((a0).length) c0_0), (3, .pointer (some ⟨b1, 0, none⟩)), (5, .int .i64 v2), (18, .bool (x4.k == a1))]) (h' := [(0, [(b1, .cells #[.int .i64 a1.s, .int .i64 a1.p] 36 (0, 0))])]) ?_ ⟨rfl, rfl, rfl, rfl, trivial⟩ ⟨rfl, trivial⟩
   refine kw_nx (cw_cond rfl (fun h5 => ?_) (fun h5 => ?_))
   ·have H1 := cond_t H1 h5
    refine sr (oM rfl (oS rfl (nn (cw_ret (kw_bl_ret (kw_nx_ret (kw_lq_ret (kw_bl_ret (kw_join_ret (kw_nx_ret ?_))))))))))
    obtain rfl := sI H1
    obtain rfl := sI H0
    exact kr Tryd.results37 (rT rfl) [] ⟨rfl, rfl⟩
   have H1 := cond_f H1 h5
   obtain ⟨x6, e6, H1⟩ := bS H1
   exact cw_skip (kw_bl_normal (kw_nx (cw_region (oM rfl (oP e6 rfl (oS rfl (ow_nil (kw_lqS (js := [0]) (fuel, x6) H1 (Nat.lt_succ_self _) ⟨rfl, rfl, rfl, trivial⟩ ⟨0, [], rfl, rfl, trivial⟩ (by decide)))))))))
  have H1 := cond_f H1 h3
  refine cw_exit (kw_nx_exit (kw_lq_exit (kw_bl ?_)))
  obtain rfl := sI H1
  exact kw_joinS (js := [0]) v2 rfl ⟨rfl, rfl, rfl, trivial⟩ ⟨0, [], rfl, rfl, trivial⟩ (by decide)
 rintro v2 rfl
 dsimp only
 refine kw_nx (sr (oS rfl (nn (cw_ret ?_))))
 obtain rfl := sI H0
 exact kr Tryd.results37 (rT rfl) [] ⟨rfl, rfl⟩

theorem c_s_l2Hash (fl : Nat) (w : World) (a0 : K) (a1 : Int) (r : Int) (H0 : s_l2Hash fl a0 a1 = some r) :
  Ct Tryd.prog 67 [.agg #[.int .i64 a0.s, .int .i64 a0.p], .int .i64 a1] w [] (fun rv h' => rv = .int .i64 r ∧ h' = []) := by
 unfold s_l2Hash at H0
 refine ct_of_cw Tryd.func67 rfl Tryd.ntmps67 rfl (Sat.refl _ _) ?_
 refine sr (oE (stpU_box 0 rfl rfl) rfl ?_)
 rintro _ _ ⟨b1, rfl, rfl⟩
 obtain ⟨x2, e2, H0⟩ := bS H0
 obtain ⟨x3, e3, H0⟩ := bS H0
 obtain ⟨x4, e4, H0⟩ := bS H0
 refine oS rfl (nn (sr (oA 0 Tryd.underlying36 rfl ts3 rfl (oL 0 ts3 rfl (oD (stp_mul rfl rfl e2) rfl (oA 1 Tryd.underlying36 rfl ts3 rfl (oL 0 ts3 rfl (oP e3 rfl (oS rfl (nn (sr (oM rfl (oD (stp_mul rfl rfl e4) rfl ?_)))))))))))))
 obtain ⟨x5, e5, H0⟩ := bS H0
 obtain ⟨x6, e6, H0⟩ := bS H0
 obtain ⟨x7, e7, H0⟩ := bS H0
 refine oD (stp_rem rfl rfl e5) rfl (oM rfl (oD (stp_mul rfl rfl e6) rfl (oD (stp_quo rfl rfl e7) rfl (oS rfl (nn (cw_ret ?_))))))
 obtain rfl := sI H0
 exact kr Tryd.results67 (rT rfl) [] ⟨rfl, rfl⟩

theorem c_s_l3Chain (fl : Nat) (w : World) (a0 : T) (a1 : Int) (hn0_0 : n0_0 = (a0.b).length) (hr0_0 : RO w (hkeys []) (RdL p0_0 c0_0 a0.b)) (hn0_1 : n0_1 = (a0.f).length) (hr0_1 : RO w (hkeys []) (RdL p0_1 c0_1 a0.f)) (r : (List Int) × Bool) (H0 : s_l3Chain fl a0 a1 = some r) :
  Ct Tryd.prog 66 [.agg #[.slice p0_0 n0_0 c0_0, .slice p0_1 n0_1 c0_1], .int .i64 a1] w [] (fun rv h' => ∃ (x0 : Option Addr) (y0 z0 : Nat) (C0 : Res), rv = .tuple #[.slice x0 y0 z0, .bool r.2] ∧ h' = [(0, C0)] ∧ y0 = (r.1).length ∧ OwnC 3 x0 z0 r.1 C0) := by
 subst hn0_0 hn0_1
 unfold s_l3Chain at H0
 refine ct_of_cw Tryd.func66 rfl Tryd.ntmps66 rfl (Sat.refl _ _) ?_
 refine sr (oE (stpU_box 0 rfl rfl) rfl ?_)
 rintro _ _ ⟨b1, rfl, rfl⟩
 refine oS rfl (oS rfl (nn (sr (oE (stpU_lit0 sl23 1) rfl ?_))))
 rintro _ _ ⟨p2, C3, rfl, rfl, o3⟩
 obtain ⟨x4, e4, H0⟩ := bS H0
 obtain ⟨o0_0, eo0_0, H0⟩ := bS H0
 refine oS rfl (nn (sr (oA 0 Tryd.underlying26 rfl ts23 rfl (oL 0 ts23 rfl (oM rfl (oD (stp_indexAddr Tryd.underlying23 ts3 (by decide) rfl rfl rfl (Rdb.ro hr0_0) e4) rfl (oD (stp_load1 ts3 rfl (Cells.el (Rdb.ro hr0_0) (by decide) e4 0 1 rfl)) rfl (oS rfl (nn (cw_seq (cw_join (ι := (List Int) × Int × Option Addr × Nat × Nat × Res) (fun | (v5, v10, p6, n7, c8, C9) => o0_0 = .out (v5, v10) ∧ n7 = (v5).length ∧ OwnC 3 p6 c8 v5 C9) (fun | (v5, v10, p6, n7, c8, C9) => [(2, .pointer (some ⟨b1, 0, none⟩)), (6, .slice p6 n7 c8), (7, .int .i64 v10)]) (fun | (v5, v10, p6, n7, c8, C9) => [(0, [(b1, .cells #[.slice p0_0 ((a0.b).length) c0_0, .slice p0_1 ((a0.f).length) c0_1] 26 (0, 0))]), (1, C9)]) ?_ ?_)))))))))))
 ·refine cw_block (cw_loopS (ι := Nat × (List Int) × Int × Option Addr × Nat × Nat × Res) (js := [0, 1]) (fun x => x.1) (fun | (fuel, v5, v10, p6, n7, c8, C9) => s_l3Chain_L0 fl a0 fuel v5 v10 = some o0_0 ∧ n7 = (v5).length ∧ OwnC 3 p6 c8 v5 C9) (fun | (_, v5, v10, p6, n7, c8, C9) => [(2, .pointer (some ⟨b1, 0, none⟩)), (6, .slice p6 n7 c8), (7, .int .i64 v10)]) (fun | (_, v5, v10, p6, n7, c8, C9) => [(0, [(b1, .cells #[.slice p0_0 ((a0.b).length) c0_0, .slice p0_1 ((a0.f).length) c0_1] 26 (0, 0))]), (1, C9)]) (fl, ([] : List Int), x4, p2, 0, 0, C3) ⟨eo0_0, (by simp), o3⟩ ⟨rfl, rfl, rfl, trivial⟩ ⟨0, [1], rfl, rfl, 1, [], rfl, rfl, trivial⟩ (by decide) ?_)
  rintro ⟨fuel, v5, v10, p6, _, c8, C9⟩ ⟨H1, rfl, o9⟩
  have H1 : s_l3Chain_L0 fl a0 fuel v5 v10 = some o0_0 := H1
  rcases fuel with _ | fuel
  ·rw [s_l3Chain_L0.eq_1] at H1; cases H1
  rw [s_l3Chain_L0.eq_2] at H1
  dsimp only
  refine cw_seq (sr (oM rfl (oU rfl (nn (cw_cond rfl (fun h11 => ?_) (fun h11 => ?_))))))
  ·have H1 := cond_t H1 h11
   obtain ⟨y12, ey12, H1⟩ := bS H1
   refine cw_skip (kw_nx (cw_block (cw_seq (sr (oM rfl (oW rfl (oM rfl (ow_cutY 6 24 y12 ?_ ?_))))))))
   ·rcases Bool.eq_false_or_eq_true (decide (v10 < 0)) with hy12 | hy12
    ·have ey12 := cond_t ey12 hy12
     refine oO rfl hy12 rfl (oO rfl hy12 rfl (oO rfl hy12 rfl (oO rfl hy12 rfl (oO rfl hy12 rfl (oD (stp_pick_t rfl hy12 rfl) rfl ?_)))))
     obtain rfl := sI ey12
     exact ow_nil (jy 6 0)
    have ey12 := cond_f ey12 hy12
    refine oG rfl hy12 (mv rfl) rfl (oG rfl hy12 (fA 1 Tryd.underlying26 rfl ts24 rfl rfl rfl) rfl (oG rfl hy12 (lB 0 ts24 rfl rfl rfl) rfl (oG rfl hy12 (stp_len Tryd.underlying24 rfl) rfl (oG rfl hy12 (stp_geq rfl rfl) rfl (oD (stp_pick_f rfl hy12 rfl) rfl ?_)))))
    obtain rfl := sI ey12
    exact ow_nil (jy 6 0)
   obtain ⟨y13, ey13, H1⟩ := bS H1
   refine oM rfl (ow_cutY 7 32 y13 ?_ ?_)
   ·rcases Bool.eq_false_or_eq_true y12 with hy13 | hy13
    ·have ey13 := cond_t ey13 hy13
     refine oO rfl hy13 rfl (oO rfl hy13 rfl (oO rfl hy13 rfl (oO rfl hy13 rfl (oO rfl hy13 rfl (oO rfl hy13 rfl (oD (stp_pick_t rfl hy13 rfl) rfl ?_))))))
     obtain rfl := sI ey13
     exact ow_nil (jy 7 0)
    have ey13 := cond_f ey13 hy13
    refine oG rfl hy13 (mv rfl) rfl (oG rfl hy13 (stp_len Tryd.underlying23 rfl) rfl (oG rfl hy13 (fA 1 Tryd.underlying26 rfl ts24 rfl rfl rfl) rfl (oG rfl hy13 (lB 0 ts24 rfl rfl rfl) rfl (oG rfl hy13 (stp_len Tryd.underlying24 rfl) rfl (oG rfl hy13 (stp_geq rfl rfl) rfl (oD (stp_pick_f rfl hy13 rfl) rfl ?_))))))
    obtain rfl := sI ey13
    exact ow_nil (jy 7 0)
   obtain ⟨y14, ey14, H1⟩ := bS H1
   refine oM rfl (ow_cutY 8 41 y14 ?_ ?_)
   ·rcases Bool.eq_false_or_eq_true y13 with hy14 | hy14
    ·have ey14 := cond_t ey14 hy14
     refine oO rfl hy14 rfl (oO rfl hy14 rfl (oO rfl hy14 rfl (oO rfl hy14 rfl (oO rfl hy14 rfl (oO rfl hy14 rfl (oO rfl hy14 rfl (oD (stp_pick_t rfl hy14 rfl) rfl ?_)))))))
     obtain rfl := sI ey14
     exact ow_nil (jy 8 0)
    have ey14 := cond_f ey14 hy14
    obtain ⟨x15, e15, ey14⟩ := bS ey14
    refine oG rfl hy14 (fA 1 Tryd.underlying26 rfl ts24 rfl rfl rfl) rfl (oG rfl hy14 (lB 0 ts24 rfl rfl rfl) rfl (oG rfl hy14 (mv rfl) rfl (oG rfl hy14 (stp_indexAddr Tryd.underlying24 ts61 (by decide) rfl rfl rfl (Rdb.ro hr0_1) e15) rfl (oG rfl hy14 (fA 0 Tryd.underlying61 rfl ts4 rfl rfl rfl) rfl (oG rfl hy14 (stp_load1 ts4 rfl (Cells.el (Rdb.ro hr0_1) (by decide) e15 0 1 rfl)) rfl (oG rfl hy14 (stp_not rfl) rfl (oD (stp_pick_f rfl hy14 rfl) rfl ?_)))))))
    obtain rfl := sI ey14
    exact ow_nil (jy 8 0)
   refine ow_nil (kw_nx (cw_cond rfl (fun h16 => ?_) (fun h16 => ?_)))
   ·have H1 := cond_t H1 h16
    refine sr (oM rfl (oS rfl (oS rfl (nn (cw_ret (kw_nx_ret (kw_bl_ret (kw_lq_ret (kw_bl_ret (kw_join_ret (kw_nx_ret ?_)))))))))))
    obtain rfl := sI H1
    obtain rfl := sI H0
    exact kr Tryd.results66 (.cons (.tmp rfl) (rT rfl)) [1] ⟨_, _, _, _, rfl, rfl, rfl, o9⟩
   have H1 := cond_f H1 h16
   refine cw_skip (kw_nx (sr (oM rfl (oM rfl (oE (stpU_lit (sz := 1) (l := [v10]) [.int .i64 v10] sl23 2 (sevp_cons rfl sevp_nil) rfl rfl rfl rfl rfl rfl rfl rfl rfl) rfl ?_)))))
   rintro _ _ ⟨p17, C18, rfl, rfl, o18⟩
   obtain ⟨x19, e19, H1⟩ := bS H1
   refine oE (stpU_append sl23 rfl (id := 1) rfl rfl rfl (by simp) rfl o9 (Rdb.own (id := 2) rfl o18) e19) rfl ?_
   rintro _ _ ⟨p20, c21, C22, rfl, rfl, o22⟩
   obtain ⟨x23, e23, H1⟩ := bS H1
   exact oS rfl (nn (cw_region (oA 1 Tryd.underlying26 rfl ts24 rfl (oL 0 ts24 rfl (oM rfl (oD (stp_indexAddr Tryd.underlying24 ts61 (by decide) rfl rfl rfl (Rdb.ro hr0_1) e23) rfl (oA 4 Tryd.underlying61 rfl ts3 rfl (oD (stp_load1 ts3 rfl (Cells.el (Rdb.ro hr0_1) (by decide) e23 4 1 rfl)) rfl (oS rfl (ow_nil (kw_bl_normal (kw_lqS (js := [0, 1]) (fuel, x19, x23.nx, p20, ((x19).length), c21, C22) ⟨H1, rfl, o22⟩ (Nat.lt_succ_self _) ⟨rfl, rfl, rfl, trivial⟩ ⟨0, [1], rfl, rfl, 1, [], rfl, rfl, trivial⟩ (by decide)))))))))))))
  have H1 := cond_f H1 h11
  refine cw_exit (kw_nx_exit (kw_lq_exit (kw_bl ?_)))
  obtain rfl := sI H1
  exact kw_joinS (js := [0, 1]) (v5, v10, p6, ((v5).length), c8, C9) ⟨rfl, rfl, o9⟩ ⟨rfl, rfl, rfl, trivial⟩ ⟨0, [1], rfl, rfl, 1, [], rfl, rfl, trivial⟩ (by decide)
 rintro ⟨v5, v10, p6, _, c8, C9⟩ ⟨rfl, rfl, o9⟩
 dsimp only
 refine kw_nx (sr (oM rfl (oS rfl (oS rfl (nn (cw_ret ?_))))))
 obtain rfl := sI H0
 exact kr Tryd.results66 (.cons (.tmp rfl) (rT rfl)) [1] ⟨_, _, _, _, rfl, rfl, rfl, o9⟩

theorem c_s_l3Find (fl : Nat) (w : World) (a0 : T) (a1 : K) (hn0_0 : n0_0 = (a0.b).length) (hr0_0 : RO w (hkeys []) (RdL p0_0 c0_0 a0.b)) (hn0_1 : n0_1 = (a0.f).length) (hr0_1 : RO w (hkeys []) (RdL p0_1 c0_1 a0.f)) (r : Int × Int) (H0 : s_l3Find fl a0 a1 = some r) :
  Ct Tryd.prog 38 [.agg #[.slice p0_0 n0_0 c0_0, .slice p0_1 n0_1 c0_1], .agg #[.int .i64 a1.s, .int .i64 a1.p]] w [] (fun rv h' => rv = .tuple #[.int .i64 r.1, .int .i64 r.2] ∧ h' = []) := by
 subst hn0_0 hn0_1
 unfold s_l3Find at H0
 refine ct_of_cw Tryd.func38 rfl Tryd.ntmps38 rfl (Sat.refl _ _) ?_
 refine sr (oE (stpU_box 0 rfl rfl) rfl ?_)
 rintro _ _ ⟨b1, rfl, rfl⟩
 refine oE (stpU_box 1 rfl rfl) rfl ?_
 rintro _ _ ⟨b2, rfl, rfl⟩
 obtain ⟨x3, e3, H0⟩ := bS H0
 obtain ⟨x4, e4, H0⟩ := bS H0
 refine oS rfl (oS rfl (nn (cw_seq (rdq g_mixed [2, 3] [0, 1] { dst := dS [11, 12, 13, 14, 15, 16, 17, 10, 18, 19, 7, 8], pre := gA [] [[], [], [], [2], [2, 3], rn 1 4, rn 0 6, rn 0 7, rn 0 8, rn 0 8, rn 0 9, rn 0 11], ids := gA [] [[], [], [], [], [], [], [2]], rs := rL [[(2, 0)], [(3, 0)], [(2, 0)], [(12, 3)], [(13, 4)], [(11, 2), (14, 5)], [(10, 1), (15, 6)], [(16, 7)], [(9, 8)], [(9, 8)], [(17, 9)], [(18, 10)]], rh := rL [[(0, 0)], [(1, 0)], [], [(0, 0)]], V := fun i g => gA undef [.agg #[.slice p0_0 ((a0.b).length) c0_0, .slice p0_1 ((a0.f).length) c0_1], .agg #[.int .i64 a1.s, .int .i64 a1.p], .pointer (some ⟨b1, 0, none⟩), .slice p0_0 ((a0.b).length) c0_0, .int .i64 ((a0.b).length : Int), .int .i64 x3, .tuple #[.slice ((g 6).A 0) ((x4.1).length) ((g 6).C 0), .bool x4.2], .tuple #[.slice ((g 6).A 0) ((x4.1).length) ((g 6).C 0), .bool x4.2], .slice ((g 6).A 0) ((x4.1).length) ((g 6).C 0), .bool x4.2, .slice ((g 6).A 0) ((x4.1).length) ((g 6).C 0), .bool x4.2] i, U := fun i g => match i with | 6 => [(2, ((g 6).R 0))] | _ => [], Φ := fun i x => match i with | 6 => OwnC 3 (x.A 0) (x.C 0) x4.1 (x.R 0) | _ => True } ?_ ?_))))
 ·refine ⟨lc rfl rfl fun hs hh => stp_loadN (us := [_, _]) ts26 (sv hs 2 rfl) (Cells.box (id := 0) (hh.get 0 _ rfl) 2 rfl), lc rfl rfl fun hs hh => stp_loadN (us := [_, _]) ts36 (sv hs 3 rfl) (Cells.box (id := 1) (hh.get 1 _ rfl) 2 rfl), lc rfl rfl fun hs hh => stp_fieldAddr (j := 0) Tryd.underlying26 rfl ts23 rfl (sv hs 2 rfl) rfl, lc rfl rfl fun hs hh => stp_load1 ts23 (sv hs 12 rfl) (Cells.box (id := 0) (hh.get 0 _ rfl) 1 rfl), lc rfl rfl fun hs hh => stp_len Tryd.underlying23 (sv hs 13 rfl), ?_, ?_, lM, lT, lT, lS, lS, trivial⟩
  ·refine le rfl rfl (fun g hΦ s h hs hh => (stpU_call (fun i => 2 + i) cf67 (fun w hw => c_s_l2Hash fl w a1 ((a0.b).length : Int) x3 e3) (yB (sv hs 11 rfl) (sv hs 14 rfl)))) ?_
   rintro g _ _ ⟨_, ⟨rfl, rfl⟩, rfl⟩
   exact ⟨⟨[], [], []⟩, trivial, .inr rfl, rfl⟩
  refine le rfl rfl (fun g hΦ s h hs hh => (stpU_call (fun i => 2 + i) cf66 (fun w hw => c_s_l3Chain fl w a0 x3 rfl (RO.pass hr0_0 hw) rfl (RO.pass hr0_1 hw) x4 e4) (yB (sv hs 10 rfl) (sv hs 15 rfl)))) ?_
  rintro g _ _ ⟨_, ⟨p5, _, c7, C8, rfl, rfl, rfl, o8⟩, rfl⟩
  exact ⟨⟨[p5], [c7], [C8]⟩, o8, .inr rfl, rfl⟩
 intro g hΦ
 refine kw_gen (ι := Option Addr × Nat × Res) (((g 6).A 0), ((g 6).C 0), ((g 6).R 0)) (fun | (p5, c7, C8) => OwnC 3 p5 c7 x4.1 C8) (fun | (p5, c7, C8) => [(2, .pointer (some ⟨b1, 0, none⟩)), (3, .pointer (some ⟨b2, 0, none⟩)), (6, .slice p5 ((x4.1).length) c7)]) (fun | (p5, c7, C8) => [(0, [(b1, .cells #[.slice p0_0 ((a0.b).length) c0_0, .slice p0_1 ((a0.f).length) c0_1] 26 (0, 0))]), (1, [(b2, .cells #[.int .i64 a1.s, .int .i64 a1.p] 36 (0, 0))]), (2, C8)]) (hΦ 6 (by decide)) ⟨rfl, rfl, rfl, trivial⟩ ⟨rfl, rfl, rfl, trivial⟩ ?_
 rintro ⟨p5, c7, C8⟩ o8
 have o8 : OwnC 3 p5 c7 x4.1 C8 := o8
 dsimp only
 obtain ⟨o0_0, eo0_0, H0⟩ := bS H0
 refine kw_nx (cw_seq (sr (oS rfl (nn (cw_join (ι := Int) (fun | v9 => o0_0 = .out v9) (fun | v9 => [(2, .pointer (some ⟨b1, 0, none⟩)), (3, .pointer (some ⟨b2, 0, none⟩)), (6, .slice p5 ((x4.1).length) c7), (8, .int .i64 v9)]) (fun | v9 => [(0, [(b1, .cells #[.slice p0_0 ((a0.b).length) c0_0, .slice p0_1 ((a0.f).length) c0_1] 26 (0, 0))]), (1, [(b2, .cells #[.int .i64 a1.s, .int .i64 a1.p] 36 (0, 0))]), (2, C8)]) ?_ ?_)))))
 ·refine cw_block (cw_loopS (ι := Nat × Int) (js := [0, 1, 2]) (fun x => x.1) (fun | (fuel, v9) => s_l3Find_L0 fl a0 a1 x4 fuel v9 = some o0_0) (fun | (_, v9) => [(2, .pointer (some ⟨b1, 0, none⟩)), (3, .pointer (some ⟨b2, 0, none⟩)), (6, .slice p5 ((x4.1).length) c7), (8, .int .i64 v9)]) (fun | (_, v9) => [(0, [(b1, .cells #[.slice p0_0 ((a0.b).length) c0_0, .slice p0_1 ((a0.f).length) c0_1] 26 (0, 0))]), (1, [(b2, .cells #[.int .i64 a1.s, .int .i64 a1.p] 36 (0, 0))]), (2, C8)]) (fl, 0) eo0_0 ⟨rfl, rfl, rfl, rfl, trivial⟩ ⟨0, [1, 2], rfl, rfl, 1, [2], rfl, rfl, 2, [], rfl, rfl, trivial⟩ (by decide) ?_)
  rintro ⟨fuel, v9⟩ H1
  have H1 : s_l3Find_L0 fl a0 a1 x4 fuel v9 = some o0_0 := H1
  rcases fuel with _ | fuel
  ·rw [s_l3Find_L0.eq_1] at H1; cases H1
  rw [s_l3Find_L0.eq_2] at H1
  dsimp only
  refine cw_seq (sr (oM rfl (oM rfl (oD (stp_len Tryd.underlying23 rfl) rfl (oW rfl (nn (cw_cond rfl (fun h10 => ?_) (fun h10 => ?_))))))))
  ·have H1 := cond_t H1 h10
   obtain ⟨x11, e11, H1⟩ := bS H1
   obtain ⟨x12, e12, H1⟩ := bS H1
   refine cw_skip (kw_nx (cw_seq (cw_block (cw_seq (rdq g_mixed [2, 3, 6, 8] [0, 1, 2] { dst := dS [26, 27, 28, 29, 30, 31, 32, 33, 34, 35, 36], pre := gA [] [[], [0], [], [], [2, 3], [2, 3, 4], rn 0 6, rn 0 7, rn 0 8, [], rn 0 10], ids := fun _ => [], rs := rL [[(2, 0)], [(25, 1)], [(6, 0)], [(8, 0)], [(27, 3), (28, 4)], [(29, 5)], [(26, 2), (30, 6)], [(31, 7)], [(32, 8)], [(3, 0)], [(33, 9), (34, 10)]], rh := rL [[], [(0, 0)], [], [], [(2, 0)], [(2, 0)], [], [], [], [(1, 0)]], V := fun i g => gA undef [.pointer (some ⟨b1, 1, none⟩), .slice p0_1 ((a0.f).length) c0_1, .slice p5 ((x4.1).length) c7, .int .i64 v9, .pointer (some ⟨eB p5, eO p5 + Int.toNat v9 * Enc.sz Int + 0, none⟩), .int .i64 x11, .pointer (some ⟨eB p0_1, eO p0_1 + Int.toNat x11 * Enc.sz F + 0, none⟩), .pointer (some ⟨eB p0_1, eO p0_1 + Int.toNat x11 * Enc.sz F + 1, none⟩), .agg #[.int .i64 x12.k.s, .int .i64 x12.k.p], .agg #[.int .i64 a1.s, .int .i64 a1.p], .bool (x12.k == a1)] i, U := fun _ _ => [], Φ := fun _ _ => True } ?_ ?_)))))
   ·exact ⟨lc rfl rfl fun hs hh => stp_fieldAddr (j := 1) Tryd.underlying26 rfl ts24 rfl (sv hs 2 rfl) rfl, lc rfl rfl fun hs hh => stp_load1 ts24 (sv hs 25 rfl) (Cells.box (id := 0) (hh.get 0 _ rfl) 1 rfl), lM, lM, lc rfl rfl fun hs hh => stp_indexAddr Tryd.underlying23 ts3 (by decide) (sv hs 27 rfl) rfl (sv hs 28 rfl) (Rdb.own (id := 2) (hh.get 2 _ rfl) o8) e11, lc rfl rfl fun hs hh => stp_load1 ts3 (sv hs 29 rfl) (Cells.el (Rdb.own (id := 2) (hh.get 2 _ rfl) o8) (by decide) e11 0 1 rfl), lc rfl rfl fun hs hh => stp_indexAddr Tryd.underlying24 ts61 (by decide) (sv hs 26 rfl) rfl (sv hs 30 rfl) (Rdb.ro hr0_1) e12, lc rfl rfl fun hs hh => stp_fieldAddr (j := 1) Tryd.underlying61 rfl ts36 rfl (sv hs 31 rfl) rfl, lc rfl rfl fun hs hh => stp_loadN (us := [_, _]) ts36 (sv hs 32 rfl) (Cells.el (Rdb.ro hr0_1) (by decide) e12 1 2 rfl), lc rfl rfl fun hs hh => stp_loadN (us := [_, _]) ts36 (sv hs 3 rfl) (Cells.box (id := 1) (hh.get 1 _ rfl) 2 rfl), lc rfl rfl fun hs hh => stp_eqlS te36 x12.k a1 (sv hs 33 rfl) (sv hs 34 rfl), trivial⟩
   intro g hΦ
   refine KW.sub (s' := [(2, .pointer (some ⟨b1, 0, none⟩)), (3, .pointer (some ⟨b2, 0, none⟩)), (6, .slice p5 ((x4.1).length) c7), (8, .int .i64 v9), (35, .bool (x12.k == a1))]) (h' := [(0, [(b1, .cells #[.slice p0_0 ((a0.b).length) c0_0, .slice p0_1 ((a0.f).length) c0_1] 26 (0, 0))]), (1, [(b2, .cells #[.int .i64 a1.s, .int .i64 a1.p] 36 (0, 0))]), (2, C8)]) ?_ ⟨rfl, rfl, rfl, rfl, rfl, trivial⟩ ⟨rfl, rfl, rfl, trivial⟩
   refine kw_nx (cw_cond rfl (fun h13 => ?_) (fun h13 => ?_))
   ·have H1 := cond_t H1 h13
    obtain ⟨x14, e14, H1⟩ := bS H1
    refine sr (oM rfl (oM rfl (oD (stp_indexAddr Tryd.underlying23 ts3 (by decide) rfl rfl rfl (Rdb.own (id := 2) rfl o8) e11) rfl (oD (stp_load1 ts3 rfl (Cells.el (Rdb.own (id := 2) rfl o8) (by decide) e11 0 1 rfl)) rfl (oM rfl (oP e14 rfl (oS rfl (oS rfl (nn (cw_ret (kw_bl_ret (kw_nx_ret (kw_lq_ret ?_)))))))))))))
    refine kw_bl_ret (kw_join_ret (kw_nx_ret ?_))
    obtain rfl := sI H1
    obtain rfl := sI H0
    exact kr Tryd.results38 (.cons (.tmp rfl) (rT rfl)) [] ⟨rfl, rfl⟩
   have H1 := cond_f H1 h13
   obtain ⟨x15, e15, H1⟩ := bS H1
   exact cw_skip (kw_bl_normal (kw_nx (cw_region (oM rfl (oP e15 rfl (oS rfl (ow_nil (kw_lqS (js := [0, 1, 2]) (fuel, x15) H1 (Nat.lt_succ_self _) ⟨rfl, rfl, rfl, rfl, trivial⟩ ⟨0, [1, 2], rfl, rfl, 1, [2], rfl, rfl, 2, [], rfl, rfl, trivial⟩ (by decide)))))))))
  have H1 := cond_f H1 h10
  refine cw_exit (kw_nx_exit (kw_lq_exit (kw_bl ?_)))
  obtain rfl := sI H1
  exact kw_joinS (js := [0, 1, 2]) v9 rfl ⟨rfl, rfl, rfl, rfl, trivial⟩ ⟨0, [1, 2], rfl, rfl, 1, [2], rfl, rfl, 2, [], rfl, rfl, trivial⟩ (by decide)
 rintro v9 rfl
 dsimp only
 refine kw_nx (sr (oM rfl (oD (stp_len Tryd.underlying23 rfl) rfl (oS rfl (oS rfl (nn (cw_ret ?_)))))))
 obtain rfl := sI H0
 exact kr Tryd.results38 (.cons (.tmp rfl) (rT rfl)) [] ⟨rfl, rfl⟩

theorem c_s_l8Cpu (fl : Nat) (w : World) (a0 : T) (a1 : Cp) (hn0_0 : n0_0 = (a0.b).length) (hr0_0 : RO w (hkeys []) (RdL p0_0 c0_0 a0.b)) (hn0_1 : n0_1 = (a0.f).length) (hr0_1 : RO w (hkeys []) (RdL p0_1 c0_1 a0.f)) (hn1_0 : n1_0 = (a1.n).length) (hr1_0 : RO w (hkeys []) (RdL p1_0 c1_0 a1.n)) (hn1_1 : n1_1 = (a1.w).length) (hr1_1 : RO w (hkeys []) (RdL p1_1 c1_1 a1.w)) (r : Bool) (H0 : s_l8Cpu fl a0 a1 = some r) :
  Ct Tryd.prog 79 [.agg #[.slice p0_0 n0_0 c0_0, .slice p0_1 n0_1 c0_1], .agg #[.slice p1_0 n1_0 c1_0, .slice p1_1 n1_1 c1_1]] w [] (fun rv h' => rv = .bool r ∧ h' = []) := by
 subst hn0_0 hn0_1 hn1_0 hn1_1
 unfold s_l8Cpu at H0
 refine ct_of_cw Tryd.func79 rfl Tryd.ntmps79 rfl (Sat.refl _ _) ?_
 refine sr (oE (stpU_box 0 rfl rfl) rfl ?_)
 rintro _ _ ⟨b1, rfl, rfl⟩
 refine oE (stpU_box 1 rfl rfl) rfl ?_
 rintro _ _ ⟨b2, rfl, rfl⟩
 obtain ⟨y3, ey3, H0⟩ := bS H0
 refine oS rfl (nn (cw_seq (sr (oA 0 Tryd.underlying43 rfl ts41 rfl (oL 1 ts41 rfl (oD (stp_len Tryd.underlying41 rfl) rfl (oJ rfl (oM rfl (ow_cutY 5 21 y3 ?_ ?_)))))))))
 ·rcases Bool.eq_false_or_eq_true (decide (4 < ((a1.n).length : Int))) with hy3 | hy3
  ·have ey3 := cond_t ey3 hy3
   refine oO rfl hy3 rfl (oO rfl hy3 rfl (oO rfl hy3 rfl (oO rfl hy3 rfl (oD (stp_pick_t rfl hy3 rfl) rfl ?_))))
   obtain rfl := sI ey3
   exact ow_nil (jy 5 0)
  have ey3 := cond_f ey3 hy3
  refine oG rfl hy3 (fA 1 Tryd.underlying43 rfl ts41 rfl rfl rfl) rfl (oG rfl hy3 (lB 1 ts41 rfl rfl rfl) rfl (oG rfl hy3 (stp_len Tryd.underlying41 rfl) rfl (oG rfl hy3 (stp_gtr rfl rfl) rfl (oD (stp_pick_f rfl hy3 rfl) rfl ?_))))
  obtain rfl := sI ey3
  exact ow_nil (jy 5 0)
 refine ow_nil (kw_nx (cw_cond rfl (fun h4 => ?_) (fun h4 => ?_)))
 ·have H0 := cond_t H0 h4
  refine sr (oS rfl (nn (cw_ret (kw_nx_ret ?_))))
  obtain rfl := sI H0
  exact kr Tryd.results79 (rT rfl) [] ⟨rfl, rfl⟩
 have H0 := cond_f H0 h4
 obtain ⟨o0_0, eo0_0, H0⟩ := bS H0
 refine cw_skip (kw_nx (cw_seq (sr (oS rfl (nn (cw_join (ι := Int) (fun | v5 => o0_0 = .out v5) (fun | v5 => [(2, .pointer (some ⟨b1, 0, none⟩)), (3, .pointer (some ⟨b2, 0, none⟩)), (5, .int .i64 v5)]) (fun | v5 => [(0, [(b1, .cells #[.slice p0_0 ((a0.b).length) c0_0, .slice p0_1 ((a0.f).length) c0_1] 26 (0, 0))]), (1, [(b2, .cells #[.slice p1_0 ((a1.n).length) c1_0, .slice p1_1 ((a1.w).length) c1_1] 43 (0, 0))])]) ?_ ?_))))))
 ·refine cw_block (cw_loopS (ι := Nat × Int) (js := [0, 1]) (fun x => x.1) (fun | (fuel, v5) => s_l8Cpu_L0 fl a0 a1 fuel v5 = some o0_0) (fun | (_, v5) => [(2, .pointer (some ⟨b1, 0, none⟩)), (3, .pointer (some ⟨b2, 0, none⟩)), (5, .int .i64 v5)]) (fun | (_, v5) => [(0, [(b1, .cells #[.slice p0_0 ((a0.b).length) c0_0, .slice p0_1 ((a0.f).length) c0_1] 26 (0, 0))]), (1, [(b2, .cells #[.slice p1_0 ((a1.n).length) c1_0, .slice p1_1 ((a1.w).length) c1_1] 43 (0, 0))])]) (fl, 0) eo0_0 ⟨rfl, rfl, rfl, trivial⟩ ⟨0, [1], rfl, rfl, 1, [], rfl, rfl, trivial⟩ (by decide) ?_)
  rintro ⟨fuel, v5⟩ H1
  have H1 : s_l8Cpu_L0 fl a0 a1 fuel v5 = some o0_0 := H1
  rcases fuel with _ | fuel
  ·rw [s_l8Cpu_L0.eq_1] at H1; cases H1
  rw [s_l8Cpu_L0.eq_2] at H1
  dsimp only
  refine cw_seq (sr (oM rfl (oA 0 Tryd.underlying43 rfl ts41 rfl (oL 1 ts41 rfl (oD (stp_len Tryd.underlying41 rfl) rfl (oW rfl (nn (cw_cond rfl (fun h6 => ?_) (fun h6 => ?_)))))))))
  ·have H1 := cond_t H1 h6
   obtain ⟨x7, e7, H1⟩ := bS H1
   refine cw_skip (kw_nx (cw_seq (cw_block (sr (oA 0 Tryd.underlying43 rfl ts41 rfl (oL 1 ts41 rfl (oM rfl (oD (stp_indexAddr Tryd.underlying41 ts53 (by decide) rfl rfl rfl (Rdb.ro hr1_0) e7) rfl (oD (stp_loadN (us := [_, _, _]) ts53 rfl (Cells.el (Rdb.ro hr1_0) (by decide) e7 0 3 rfl)) rfl (oE (stpU_alloc 2 tz53 rfl) rfl ?_))))))))))
   rintro _ _ ⟨b8, rfl, rfl⟩
   obtain ⟨x9, e9, H1⟩ := bS H1
   obtain ⟨y10, ey10, H1⟩ := bS H1
   refine oC3 2 ts53 rfl rfl (nn (cw_seq (cw_seq (cw_join (ι := Unit) (fun | _ => True) (fun | _ => [(2, .pointer (some ⟨b1, 0, none⟩)), (3, .pointer (some ⟨b2, 0, none⟩)), (5, .int .i64 v5), (6, .pointer (some ⟨b8, 0, none⟩)), (47, .bool y10)]) (fun | _ => [(0, [(b1, .cells #[.slice p0_0 ((a0.b).length) c0_0, .slice p0_1 ((a0.f).length) c0_1] 26 (0, 0))]), (1, [(b2, .cells #[.slice p1_0 ((a1.n).length) c1_0, .slice p1_1 ((a1.w).length) c1_1] 43 (0, 0))]), (2, [(b8, .cells #[.int .i64 x7.k.s, .int .i64 x7.k.p, .int .i64 x7.fr] 53 (0, 0))])]) ?_ ?_))))
   ·rcases Bool.eq_false_or_eq_true (!x9) with hy10 | hy10
    ·have ey10 := cond_t ey10 hy10
     have qy10 := sI ey10
     refine rdq g_mixed [6] [2] { dst := dS [35, 36, 37, 38, 39, 40, 41, 42, 43, 44, 45, 46, 47, 48], pre := gA [] [[], [0], [0, 1], [0, 1, 2], rn 0 4, rn 0 5, rn 0 6, rn 0 5, rn 0 8, rn 0 5, [0, 1, 2, 3, 4, 9], rn 0 11, rn 0 12, rn 0 13], ids := fun _ => [], rs := rL [[(6, 0)], [(34, 1)], [(35, 2)], [(36, 3)], [(37, 4)], [(38, 5)], [(38, 5)], [(38, 5)], [(38, 5)], [(38, 5)], [(38, 5)], [(38, 5)], [(38, 5)], [(38, 5), (46, 13)]], rh := rL [[], [(2, 0)]], V := fun i g => gA undef [.pointer (some ⟨b8, 0, none⟩), .agg #[.int .i64 x7.k.s, .int .i64 x7.k.p], .bool x9, .bool (!x9), .bool (!x9), undef, undef, undef, undef, undef, undef, undef, undef, .bool y10] i, U := fun _ _ => [], Φ := fun _ _ => True } ?_ ?_
     ·refine ⟨lc rfl rfl fun hs hh => stp_fieldAddr (j := 0) Tryd.underlying53 rfl ts36 rfl (sv hs 6 rfl) rfl, lc rfl rfl fun hs hh => stp_loadN (us := [_, _]) ts36 (sv hs 34 rfl) (Cells.box (id := 2) (hh.get 2 _ rfl) 2 rfl), ?_, lc rfl rfl fun hs hh => stp_not (sv hs 36 rfl), lM, lo rfl rfl 38 hy10, lo rfl rfl 38 hy10, lo rfl rfl 38 hy10, lo rfl rfl 38 hy10, lo rfl rfl 38 hy10, lo rfl rfl 38 hy10, lo rfl rfl 38 hy10, lo rfl rfl 38 hy10, lc rfl rfl fun hs hh => stp_pick_tB (sv hs 38 rfl) hy10 rfl qy10, trivial⟩
      refine le rfl rfl (fun g hΦ s h hs hh => (stpU_call (fun i => 3 + i) cf35 (fun w hw => c_s_KeyValid fl w x7.k x9 e9) (yA (sv hs 35 rfl)))) ?_
      rintro g _ _ ⟨_, ⟨rfl, rfl⟩, rfl⟩
      exact ⟨⟨[], [], []⟩, trivial, .inr rfl, rfl⟩
     intro g hΦ
     exact kw_join () trivial ⟨rfl, rfl, rfl, rfl, rfl, trivial⟩ ⟨rfl, rfl, rfl, trivial⟩
    have ey10 := cond_f ey10 hy10
    obtain ⟨x11, e11, ey10⟩ := bS ey10
    obtain ⟨x12, e12, ey10⟩ := bS ey10
    have qy10 := sI ey10
    refine rdq g_mixed [3, 5, 6] [1, 2] { dst := dS [35, 36, 37, 38, 39, 40, 41, 42, 43, 44, 45, 46, 47, 48], pre := gA [] [[], [0], [0, 1], [0, 1, 2], rn 0 4, rn 0 5, rn 0 6, rn 0 5, rn 0 8, rn 0 5, [0, 1, 2, 3, 4, 9], rn 0 11, rn 0 12, rn 0 13], ids := fun _ => [], rs := rL [[(6, 0)], [(34, 1)], [(35, 2)], [(36, 3)], [(37, 4)], [(3, 0), (38, 5)], [(39, 6), (38, 5)], [(5, 0), (38, 5)], [(40, 7), (41, 8), (38, 5)], [(6, 0), (38, 5)], [(43, 10), (38, 5)], [(42, 9), (44, 11), (38, 5)], [(45, 12), (38, 5)], [(38, 5), (46, 13)]], rh := rL [[], [(2, 0)], [], [], [], [], [(1, 0)], [], [], [], [(2, 0)]], V := fun i g => gA undef [.pointer (some ⟨b8, 0, none⟩), .agg #[.int .i64 x7.k.s, .int .i64 x7.k.p], .bool x9, .bool (!x9), .bool (!x9), .pointer (some ⟨b2, 0, none⟩), .slice p1_0 ((a1.n).length) c1_0, .int .i64 v5, .slice p1_0 ((x11).length) c1_0, .pointer (some ⟨b8, 0, none⟩), .agg #[.int .i64 x7.k.s, .int .i64 x7.k.p], .int .i64 x12, .bool (decide (0 ≤ x12)), .bool y10] i, U := fun _ _ => [], Φ := fun _ _ => True } ?_ ?_
    ·refine ⟨lc rfl rfl fun hs hh => stp_fieldAddr (j := 0) Tryd.underlying53 rfl ts36 rfl (sv hs 6 rfl) rfl, lc rfl rfl fun hs hh => stp_loadN (us := [_, _]) ts36 (sv hs 34 rfl) (Cells.box (id := 2) (hh.get 2 _ rfl) 2 rfl), ?_, lc rfl rfl fun hs hh => stp_not (sv hs 36 rfl), lM, lg rfl rfl 38 hy10 fun hs hh => stp_fieldAddr (j := 0) Tryd.underlying43 rfl ts41 rfl (sv hs 3 rfl) rfl, lg rfl rfl 38 hy10 fun hs hh => stp_load1 ts41 (sv hs 39 rfl) (Cells.box (id := 1) (hh.get 1 _ rfl) 1 rfl), lg rfl rfl 38 hy10 fun hs hh => stp_move (sv hs 5 rfl), lg rfl rfl 38 hy10 fun hs hh => stp_take Tryd.underlying41 ts53 (sv hs 40 rfl) rfl (sv hs 41 rfl) (Rdb.ro hr1_0) e11, lg rfl rfl 38 hy10 fun hs hh => stp_fieldAddr (j := 0) Tryd.underlying53 rfl ts36 rfl (sv hs 6 rfl) rfl, lg rfl rfl 38 hy10 fun hs hh => stp_loadN (us := [_, _]) ts36 (sv hs 43 rfl) (Cells.box (id := 2) (hh.get 2 _ rfl) 2 rfl), ?_, lg rfl rfl 38 hy10 fun hs hh => stp_geq (sv hs 45 rfl) rfl, lc rfl rfl fun hs hh => stp_pick_fB (sv hs 38 rfl) hy10 (sv hs 46 rfl) qy10, trivial⟩
     ·refine le rfl rfl (fun g hΦ s h hs hh => (stpU_call (fun i => 3 + i) cf35 (fun w hw => c_s_KeyValid fl w x7.k x9 e9) (yA (sv hs 35 rfl)))) ?_
      rintro g _ _ ⟨_, ⟨rfl, rfl⟩, rfl⟩
      exact ⟨⟨[], [], []⟩, trivial, .inr rfl, rfl⟩
     refine loc_eff rfl rfl (fun g hΦ s h hs hh => ⟨(.some (gval_of rfl (sv hs 38 rfl)) hy10), (stpU_call (fun i => 3 + i) cf37 (fun w hw => c_s_l8Find fl w x11 x7.k rfl (RO.pass (RO.take hr1_0 e11) hw) x12 e12) (yB (sv hs 42 rfl) (sv hs 44 rfl)))⟩) ?_
     rintro g _ _ ⟨_, ⟨rfl, rfl⟩, rfl⟩
     exact ⟨⟨[], [], []⟩, trivial, .inr rfl, rfl⟩
    intro g hΦ
    exact kw_join () trivial ⟨rfl, rfl, rfl, rfl, rfl, trivial⟩ ⟨rfl, rfl, rfl, trivial⟩
   rintro _ -
   dsimp only
   refine kw_nx (cw_cond rfl (fun h13 => ?_) (fun h13 => ?_))
   ·have H1 := cond_t H1 h13
    refine sr (oS rfl (nn (cw_ret (kw_nx_ret (kw_bl_ret (kw_nx_ret (kw_lq_ret (kw_bl_ret (kw_join_ret (kw_nx_ret ?_))))))))))
    obtain rfl := sI H1
    obtain rfl := sI H0
    exact kr Tryd.results79 (rT rfl) [] ⟨rfl, rfl⟩
   have H1 := cond_f H1 h13
   obtain ⟨x14, e14, H1⟩ := bS H1
   refine cw_skip (kw_nx (sr (oB2 0 ts26 rfl (oA 0 Tryd.underlying53 rfl ts36 rfl (oB2 2 ts36 rfl (oE (stpU_call (fun i => 3 + i) cf38 (fun w hw => c_s_l3Find fl w a0 x7.k rfl (RO.pass hr0_0 hw) rfl (RO.pass hr0_1 hw) x14 e14) (yB rfl rfl)) rfl ?_))))))
   rintro _ _ ⟨_, ⟨rfl, rfl⟩, rfl⟩
   obtain ⟨x15, e15, H1⟩ := bS H1
   refine oM rfl (oT rfl (oT rfl (oS rfl (oS rfl (nn (sr (oA 1 Tryd.underlying43 rfl ts41 rfl (oL 1 ts41 rfl (oA 0 Tryd.underlying53 rfl ts36 rfl (oB2 2 ts36 rfl (oE (stpU_call (fun i => 3 + i) cf37 (fun w hw => c_s_l8Find fl w a1.w x7.k rfl (RO.pass hr1_1 hw) x15 e15) (yB rfl rfl)) rfl ?_)))))))))))
   rintro _ _ ⟨_, ⟨rfl, rfl⟩, rfl⟩
   obtain ⟨y16, ey16, H1⟩ := bS H1
   obtain ⟨y18, ey18, H1⟩ := bS H1
   refine oS rfl (nn (cw_seq (cw_join (ι := Unit) (fun | _ => True) (fun | _ => [(2, .pointer (some ⟨b1, 0, none⟩)), (3, .pointer (some ⟨b2, 0, none⟩)), (5, .int .i64 v5), (88, .bool y18)]) (fun | _ => [(0, [(b1, .cells #[.slice p0_0 ((a0.b).length) c0_0, .slice p0_1 ((a0.f).length) c0_1] 26 (0, 0))]), (1, [(b2, .cells #[.slice p1_0 ((a1.n).length) c1_0, .slice p1_1 ((a1.w).length) c1_1] 43 (0, 0))])]) ?_ ?_)))
   ·rcases Bool.eq_false_or_eq_true (decide (x15 < 0)) with hy16 | hy16
    ·have ey16 := cond_t ey16 hy16
     obtain ⟨y17, ey17, ey16⟩ := bS ey16
     rcases Bool.eq_false_or_eq_true (decide (x14.1 < 0)) with hy17 | hy17
     ·have ey17 := cond_t ey17 hy17
      have qy17 := sI ey17
      have qy16 := sI ey16
      have hy18 : y16 = true := by rw [← qy16, ← qy17]
      have ey18 := cond_t ey18 hy18
      have qy18 := sI ey18
      refine rdq g_mixed [7, 9] [] { dst := dS [61, 62, 63, 64, 65, 66, 67, 68, 69, 70, 71, 72, 73, 74, 75, 76, 77, 78, 79, 80, 81, 82, 83, 84, 85, 86, 87, 88, 89], pre := gA [] [[], [0], [0, 1], [0, 1, 2], rn 0 4, rn 0 5, rn 0 6, rn 0 6, [0, 1, 2, 3, 4, 5, 7], rn 0 9, rn 0 10, rn 0 11, rn 0 12, rn 0 13, rn 0 14, rn 0 15, rn 0 16, rn 0 17, rn 0 18, rn 0 19, rn 0 20, rn 0 19, rn 0 22, rn 0 23, rn 0 19, rn 0 25, rn 0 26, rn 0 27, rn 0 28], ids := fun _ => [], rs := rL [[(9, 0)], [(60, 1)], [(61, 2)], [(7, 0), (62, 3)], [(63, 4), (62, 3)], [(64, 5), (62, 3)], [(65, 6)], [(65, 6)], [(65, 6)], [(65, 6)], [(65, 6), (69, 10), (62, 3)], [(62, 3), (70, 11)], [(71, 12)], [(72, 13)], [(72, 13)], [(72, 13)], [(75, 16)], [(75, 16)], [(75, 16)], [(78, 19)], [(78, 19)], [(78, 19)], [(78, 19)], [(78, 19)], [(78, 19)], [(78, 19)], [(75, 16)], [(72, 13)], [(72, 13), (87, 28)]], rh := fun _ => [], V := fun i g => gA undef [.int .i64 x15, .bool (decide (x15 < 0)), .bool (decide (x15 < 0)), .int .i64 x14.1, .bool (decide (x14.1 < 0)), .bool (decide (x14.1 < 0)), undef, undef, undef, undef, .bool y17, .bool y16, .bool y16, undef, undef, undef, undef, undef, undef, undef, undef, undef, undef, undef, undef, undef, undef, undef, .bool y18] i, U := fun _ _ => [], Φ := fun _ _ => True } ?_ ?_
      ·exact ⟨lM, lc rfl rfl fun hs hh => stp_lss (sv hs 60 rfl) rfl, lM, lg rfl rfl 62 hy16 fun hs hh => stp_move (sv hs 7 rfl), lg rfl rfl 62 hy16 fun hs hh => stp_lss (sv hs 63 rfl) rfl, lg rfl rfl 62 hy16 fun hs hh => stp_move (sv hs 64 rfl), lo rfl rfl 65 hy17, lo rfl rfl 65 hy17, lo rfl rfl 65 hy17, lo rfl rfl 65 hy17, lg rfl rfl 62 hy16 fun hs hh => stp_pick_tB (sv hs 65 rfl) hy17 rfl qy17, lc rfl rfl fun hs hh => stp_pick_tB (sv hs 62 rfl) hy16 (sv hs 70 rfl) qy16, lM, lo rfl rfl 72 hy18, lo rfl rfl 72 hy18, lo rfl rfl 72 hy18, lx rfl rfl 75, lx rfl rfl 75, lx rfl rfl 75, lx rfl rfl 78, lx rfl rfl 78, lx rfl rfl 78, lx rfl rfl 78, lx rfl rfl 78, lx rfl rfl 78, lx rfl rfl 78, lx rfl rfl 75, lo rfl rfl 72 hy18, lc rfl rfl fun hs hh => stp_pick_tB (sv hs 72 rfl) hy18 rfl qy18, trivial⟩
      intro g hΦ
      exact kw_join () trivial ⟨rfl, rfl, rfl, rfl, trivial⟩ ⟨rfl, rfl, trivial⟩
     have ey17 := cond_f ey17 hy17
     have qy17 := sI ey17
     have qy16 := sI ey16
     rcases Bool.eq_false_or_eq_true y16 with hy18 | hy18
     ·have ey18 := cond_t ey18 hy18
      have qy18 := sI ey18
      refine rdq g_mixed [6, 7, 9] [2] { dst := dS [61, 62, 63, 64, 65, 66, 67, 68, 69, 70, 71, 72, 73, 74, 75, 76, 77, 78, 79, 80, 81, 82, 83, 84, 85, 86, 87, 88, 89], pre := gA [] [[], [0], [0, 1], [0, 1, 2], rn 0 4, rn 0 5, rn 0 6, rn 0 6, [0, 1, 2, 3, 4, 5, 7], rn 0 9, rn 0 10, rn 0 11, rn 0 12, rn 0 13, rn 0 14, rn 0 15, rn 0 16, rn 0 17, rn 0 18, rn 0 19, rn 0 20, rn 0 19, rn 0 22, rn 0 23, rn 0 19, rn 0 25, rn 0 26, rn 0 27, rn 0 28], ids := fun _ => [], rs := rL [[(9, 0)], [(60, 1)], [(61, 2)], [(7, 0), (62, 3)], [(63, 4), (62, 3)], [(64, 5), (62, 3)], [(7, 0), (65, 6)], [(6, 0), (65, 6)], [(67, 8), (65, 6)], [(66, 7), (68, 9), (65, 6)], [(65, 6), (69, 10), (62, 3)], [(62, 3), (70, 11)], [(71, 12)], [(72, 13)], [(72, 13)], [(72, 13)], [(75, 16)], [(75, 16)], [(75, 16)], [(78, 19)], [(78, 19)], [(78, 19)], [(78, 19)], [(78, 19)], [(78, 19)], [(78, 19)], [(75, 16)], [(72, 13)], [(72, 13), (87, 28)]], rh := rL [[], [], [], [], [], [], [], [], [(2, 0)]], V := fun i g => gA undef [.int .i64 x15, .bool (decide (x15 < 0)), .bool (decide (x15 < 0)), .int .i64 x14.1, .bool (decide (x14.1 < 0)), .bool (decide (x14.1 < 0)), .int .i64 x14.1, .pointer (some ⟨b8, 2, none⟩), .int .i64 x7.fr, .bool (x14.1 != x7.fr), .bool y17, .bool y16, .bool y16, undef, undef, undef, undef, undef, undef, undef, undef, undef, undef, undef, undef, undef, undef, undef, .bool y18] i, U := fun _ _ => [], Φ := fun _ _ => True } ?_ ?_
      ·exact ⟨lM, lc rfl rfl fun hs hh => stp_lss (sv hs 60 rfl) rfl, lM, lg rfl rfl 62 hy16 fun hs hh => stp_move (sv hs 7 rfl), lg rfl rfl 62 hy16 fun hs hh => stp_lss (sv hs 63 rfl) rfl, lg rfl rfl 62 hy16 fun hs hh => stp_move (sv hs 64 rfl), lg rfl rfl 65 hy17 fun hs hh => stp_move (sv hs 7 rfl), lg rfl rfl 65 hy17 fun hs hh => stp_fieldAddr (j := 2) Tryd.underlying53 rfl ts3 rfl (sv hs 6 rfl) rfl, lg rfl rfl 65 hy17 fun hs hh => stp_load1 ts3 (sv hs 67 rfl) (Cells.box (id := 2) (hh.get 2 _ rfl) 1 rfl), lg rfl rfl 65 hy17 fun hs hh => stp_neq (sv hs 66 rfl) (sv hs 68 rfl), lg rfl rfl 62 hy16 fun hs hh => stp_pick_fB (sv hs 65 rfl) hy17 (sv hs 69 rfl) qy17, lc rfl rfl fun hs hh => stp_pick_tB (sv hs 62 rfl) hy16 (sv hs 70 rfl) qy16, lM, lo rfl rfl 72 hy18, lo rfl rfl 72 hy18, lo rfl rfl 72 hy18, lx rfl rfl 75, lx rfl rfl 75, lx rfl rfl 75, lx rfl rfl 78, lx rfl rfl 78, lx rfl rfl 78, lx rfl rfl 78, lx rfl rfl 78, lx rfl rfl 78, lx rfl rfl 78, lx rfl rfl 75, lo rfl rfl 72 hy18, lc rfl rfl fun hs hh => stp_pick_tB (sv hs 72 rfl) hy18 rfl qy18, trivial⟩
      intro g hΦ
      exact kw_join () trivial ⟨rfl, rfl, rfl, rfl, trivial⟩ ⟨rfl, rfl, trivial⟩
     have ey18 := cond_f ey18 hy18
     obtain ⟨y19, ey19, ey18⟩ := bS ey18
     rcases Bool.eq_false_or_eq_true (decide (0 ≤ x15)) with hy19 | hy19
     ·have ey19 := cond_t ey19 hy19
      obtain ⟨y20, ey20, ey19⟩ := bS ey19
      rcases Bool.eq_false_or_eq_true (decide (0 ≤ x14.1)) with hy20 | hy20
      ·have ey20 := cond_t ey20 hy20
       have qy20 := sI ey20
       have qy19 := sI ey19
       have qy18 := sI ey18
       refine rdq g_mixed [6, 7, 9] [2] { dst := dS [61, 62, 63, 64, 65, 66, 67, 68, 69, 70, 71, 72, 73, 74, 75, 76, 77, 78, 79, 80, 81, 82, 83, 84, 85, 86, 87, 88, 89], pre := gA [] [[], [0], [0, 1], [0, 1, 2], rn 0 4, rn 0 5, rn 0 6, rn 0 6, [0, 1, 2, 3, 4, 5, 7], rn 0 9, rn 0 10, rn 0 11, rn 0 12, rn 0 13, rn 0 14, rn 0 15, rn 0 16, rn 0 17, rn 0 18, rn 0 19, rn 0 20, rn 0 19, rn 0 22, rn 0 23, rn 0 19, rn 0 25, rn 0 26, rn 0 27, rn 0 28], ids := fun _ => [], rs := rL [[(9, 0)], [(60, 1)], [(61, 2)], [(7, 0), (62, 3)], [(63, 4), (62, 3)], [(64, 5), (62, 3)], [(7, 0), (65, 6)], [(6, 0), (65, 6)], [(67, 8), (65, 6)], [(66, 7), (68, 9), (65, 6)], [(65, 6), (69, 10), (62, 3)], [(62, 3), (70, 11)], [(71, 12)], [(9, 0), (72, 13)], [(73, 14), (72, 13)], [(74, 15), (72, 13)], [(7, 0), (75, 16)], [(76, 17), (75, 16)], [(77, 18), (75, 16)], [(78, 19)], [(78, 19)], [(78, 19)], [(78, 19)], [(78, 19)], [(78, 19)], [(78, 19)], [(78, 19), (85, 26), (75, 16)], [(75, 16), (86, 27), (72, 13)], [(72, 13), (87, 28)]], rh := rL [[], [], [], [], [], [], [], [], [(2, 0)]], V := fun i g => gA undef [.int .i64 x15, .bool (decide (x15 < 0)), .bool (decide (x15 < 0)), .int .i64 x14.1, .bool (decide (x14.1 < 0)), .bool (decide (x14.1 < 0)), .int .i64 x14.1, .pointer (some ⟨b8, 2, none⟩), .int .i64 x7.fr, .bool (x14.1 != x7.fr), .bool y17, .bool y16, .bool y16, .int .i64 x15, .bool (decide (0 ≤ x15)), .bool (decide (0 ≤ x15)), .int .i64 x14.1, .bool (decide (0 ≤ x14.1)), .bool (decide (0 ≤ x14.1)), undef, undef, undef, undef, undef, undef, undef, .bool y20, .bool y19, .bool y18] i, U := fun _ _ => [], Φ := fun _ _ => True } ?_ ?_
       ·exact ⟨lM, lc rfl rfl fun hs hh => stp_lss (sv hs 60 rfl) rfl, lM, lg rfl rfl 62 hy16 fun hs hh => stp_move (sv hs 7 rfl), lg rfl rfl 62 hy16 fun hs hh => stp_lss (sv hs 63 rfl) rfl, lg rfl rfl 62 hy16 fun hs hh => stp_move (sv hs 64 rfl), lg rfl rfl 65 hy17 fun hs hh => stp_move (sv hs 7 rfl), lg rfl rfl 65 hy17 fun hs hh => stp_fieldAddr (j := 2) Tryd.underlying53 rfl ts3 rfl (sv hs 6 rfl) rfl, lg rfl rfl 65 hy17 fun hs hh => stp_load1 ts3 (sv hs 67 rfl) (Cells.box (id := 2) (hh.get 2 _ rfl) 1 rfl), lg rfl rfl 65 hy17 fun hs hh => stp_neq (sv hs 66 rfl) (sv hs 68 rfl), lg rfl rfl 62 hy16 fun hs hh => stp_pick_fB (sv hs 65 rfl) hy17 (sv hs 69 rfl) qy17, lc rfl rfl fun hs hh => stp_pick_tB (sv hs 62 rfl) hy16 (sv hs 70 rfl) qy16, lM, lg rfl rfl 72 hy18 fun hs hh => stp_move (sv hs 9 rfl), lg rfl rfl 72 hy18 fun hs hh => stp_geq (sv hs 73 rfl) rfl, lg rfl rfl 72 hy18 fun hs hh => stp_move (sv hs 74 rfl), lg rfl rfl 75 hy19 fun hs hh => stp_move (sv hs 7 rfl), lg rfl rfl 75 hy19 fun hs hh => stp_geq (sv hs 76 rfl) rfl, lg rfl rfl 75 hy19 fun hs hh => stp_move (sv hs 77 rfl), lo rfl rfl 78 hy20, lo rfl rfl 78 hy20, lo rfl rfl 78 hy20, lo rfl rfl 78 hy20, lo rfl rfl 78 hy20, lo rfl rfl 78 hy20, lo rfl rfl 78 hy20, lg rfl rfl 75 hy19 fun hs hh => stp_pick_tB (sv hs 78 rfl) hy20 rfl qy20, lg rfl rfl 72 hy18 fun hs hh => stp_pick_tB (sv hs 75 rfl) hy19 (sv hs 86 rfl) qy19, lc rfl rfl fun hs hh => stp_pick_fB (sv hs 72 rfl) hy18 (sv hs 87 rfl) qy18, trivial⟩
       intro g hΦ
       exact kw_join () trivial ⟨rfl, rfl, rfl, rfl, trivial⟩ ⟨rfl, rfl, trivial⟩
      have ey20 := cond_f ey20 hy20
      obtain ⟨x21, e21, ey20⟩ := bS ey20
      have qy20 := sI ey20
      have qy19 := sI ey19
      have qy18 := sI ey18
      refine rdq g_mixed [3, 6, 7, 9] [1, 2] { dst := dS [61, 62, 63, 64, 65, 66, 67, 68, 69, 70, 71, 72, 73, 74, 75, 76, 77, 78, 79, 80, 81, 82, 83, 84, 85, 86, 87, 88, 89], pre := gA [] [[], [0], [0, 1], [0, 1, 2], rn 0 4, rn 0 5, rn 0 6, rn 0 6, [0, 1, 2, 3, 4, 5, 7], rn 0 9, rn 0 10, rn 0 11, rn 0 12, rn 0 13, rn 0 14, rn 0 15, rn 0 16, rn 0 17, rn 0 18, rn 0 19, rn 0 20, rn 0 19, rn 0 22, rn 0 23, rn 0 19, rn 0 25, rn 0 26, rn 0 27, rn 0 28], ids := fun _ => [], rs := rL [[(9, 0)], [(60, 1)], [(61, 2)], [(7, 0), (62, 3)], [(63, 4), (62, 3)], [(64, 5), (62, 3)], [(7, 0), (65, 6)], [(6, 0), (65, 6)], [(67, 8), (65, 6)], [(66, 7), (68, 9), (65, 6)], [(65, 6), (69, 10), (62, 3)], [(62, 3), (70, 11)], [(71, 12)], [(9, 0), (72, 13)], [(73, 14), (72, 13)], [(74, 15), (72, 13)], [(7, 0), (75, 16)], [(76, 17), (75, 16)], [(77, 18), (75, 16)], [(3, 0), (78, 19)], [(79, 20), (78, 19)], [(9, 0), (78, 19)], [(80, 21), (81, 22), (78, 19)], [(82, 23), (78, 19)], [(6, 0), (78, 19)], [(83, 24), (84, 25), (78, 19)], [(78, 19), (85, 26), (75, 16)], [(75, 16), (86, 27), (72, 13)], [(72, 13), (87, 28)]], rh := rL [[], [], [], [], [], [], [], [], [(2, 0)], [], [], [], [], [], [], [], [], [], [], [], [(1, 0)], [], [], [], [(2, 0)]], V := fun i g => gA undef [.int .i64 x15, .bool (decide (x15 < 0)), .bool (decide (x15 < 0)), .int .i64 x14.1, .bool (decide (x14.1 < 0)), .bool (decide (x14.1 < 0)), .int .i64 x14.1, .pointer (some ⟨b8, 2, none⟩), .int .i64 x7.fr, .bool (x14.1 != x7.fr), .bool y17, .bool y16, .bool y16, .int .i64 x15, .bool (decide (0 ≤ x15)), .bool (decide (0 ≤ x15)), .int .i64 x14.1, .bool (decide (0 ≤ x14.1)), .bool (decide (0 ≤ x14.1)), .pointer (some ⟨b2, 1, none⟩), .slice p1_1 ((a1.w).length) c1_1, .int .i64 x15, .pointer (some ⟨eB p1_1, eO p1_1 + Int.toNat x15 * Enc.sz Nt + 0, none⟩), .agg #[.int .i64 x21.k.s, .int .i64 x21.k.p, .int .i64 x21.fr], .agg #[.int .i64 x7.k.s, .int .i64 x7.k.p, .int .i64 x7.fr], .bool (x21 != x7), .bool y20, .bool y19, .bool y18] i, U := fun _ _ => [], Φ := fun _ _ => True } ?_ ?_
      ·exact ⟨lM, lc rfl rfl fun hs hh => stp_lss (sv hs 60 rfl) rfl, lM, lg rfl rfl 62 hy16 fun hs hh => stp_move (sv hs 7 rfl), lg rfl rfl 62 hy16 fun hs hh => stp_lss (sv hs 63 rfl) rfl, lg rfl rfl 62 hy16 fun hs hh => stp_move (sv hs 64 rfl), lg rfl rfl 65 hy17 fun hs hh => stp_move (sv hs 7 rfl), lg rfl rfl 65 hy17 fun hs hh => stp_fieldAddr (j := 2) Tryd.underlying53 rfl ts3 rfl (sv hs 6 rfl) rfl, lg rfl rfl 65 hy17 fun hs hh => stp_load1 ts3 (sv hs 67 rfl) (Cells.box (id := 2) (hh.get 2 _ rfl) 1 rfl), lg rfl rfl 65 hy17 fun hs hh => stp_neq (sv hs 66 rfl) (sv hs 68 rfl), lg rfl rfl 62 hy16 fun hs hh => stp_pick_fB (sv hs 65 rfl) hy17 (sv hs 69 rfl) qy17, lc rfl rfl fun hs hh => stp_pick_tB (sv hs 62 rfl) hy16 (sv hs 70 rfl) qy16, lM, lg rfl rfl 72 hy18 fun hs hh => stp_move (sv hs 9 rfl), lg rfl rfl 72 hy18 fun hs hh => stp_geq (sv hs 73 rfl) rfl, lg rfl rfl 72 hy18 fun hs hh => stp_move (sv hs 74 rfl), lg rfl rfl 75 hy19 fun hs hh => stp_move (sv hs 7 rfl), lg rfl rfl 75 hy19 fun hs hh => stp_geq (sv hs 76 rfl) rfl, lg rfl rfl 75 hy19 fun hs hh => stp_move (sv hs 77 rfl), lg rfl rfl 78 hy20 fun hs hh => stp_fieldAddr (j := 1) Tryd.underlying43 rfl ts41 rfl (sv hs 3 rfl) rfl, lg rfl rfl 78 hy20 fun hs hh => stp_load1 ts41 (sv hs 79 rfl) (Cells.box (id := 1) (hh.get 1 _ rfl) 1 rfl), lg rfl rfl 78 hy20 fun hs hh => stp_move (sv hs 9 rfl), lg rfl rfl 78 hy20 fun hs hh => stp_indexAddr Tryd.underlying41 ts53 (by decide) (sv hs 80 rfl) rfl (sv hs 81 rfl) (Rdb.ro hr1_1) e21, lg rfl rfl 78 hy20 fun hs hh => stp_loadN (us := [_, _, _]) ts53 (sv hs 82 rfl) (Cells.el (Rdb.ro hr1_1) (by decide) e21 0 3 rfl), lg rfl rfl 78 hy20 fun hs hh => stp_loadN (us := [_, _, _]) ts53 (sv hs 6 rfl) (Cells.box (id := 2) (hh.get 2 _ rfl) 3 rfl), lg rfl rfl 78 hy20 fun hs hh => stp_neqS te53 x21 x7 (sv hs 83 rfl) (sv hs 84 rfl), lg rfl rfl 75 hy19 fun hs hh => stp_pick_fB (sv hs 78 rfl) hy20 (sv hs 85 rfl) qy20, lg rfl rfl 72 hy18 fun hs hh => stp_pick_tB (sv hs 75 rfl) hy19 (sv hs 86 rfl) qy19, lc rfl rfl fun hs hh => stp_pick_fB (sv hs 72 rfl) hy18 (sv hs 87 rfl) qy18, trivial⟩
      intro g hΦ
      exact kw_join () trivial ⟨rfl, rfl, rfl, rfl, trivial⟩ ⟨rfl, rfl, trivial⟩
     have ey19 := cond_f ey19 hy19
     have qy19 := sI ey19
     have qy18 := sI ey18
     refine rdq g_mixed [6, 7, 9] [2] { dst := dS [61, 62, 63, 64, 65, 66, 67, 68, 69, 70, 71, 72, 73, 74, 75, 76, 77, 78, 79, 80, 81, 82, 83, 84, 85, 86, 87, 88, 89], pre := gA [] [[], [0], [0, 1], [0, 1, 2], rn 0 4, rn 0 5, rn 0 6, rn 0 6, [0, 1, 2, 3, 4, 5, 7], rn 0 9, rn 0 10, rn 0 11, rn 0 12, rn 0 13, rn 0 14, rn 0 15, rn 0 16, rn 0 17, rn 0 18, rn 0 19, rn 0 20, rn 0 19, rn 0 22, rn 0 23, rn 0 19, rn 0 25, rn 0 26, rn 0 27, rn 0 28], ids := fun _ => [], rs := rL [[(9, 0)], [(60, 1)], [(61, 2)], [(7, 0), (62, 3)], [(63, 4), (62, 3)], [(64, 5), (62, 3)], [(7, 0), (65, 6)], [(6, 0), (65, 6)], [(67, 8), (65, 6)], [(66, 7), (68, 9), (65, 6)], [(65, 6), (69, 10), (62, 3)], [(62, 3), (70, 11)], [(71, 12)], [(9, 0), (72, 13)], [(73, 14), (72, 13)], [(74, 15), (72, 13)], [(75, 16)], [(75, 16)], [(75, 16)], [(78, 19)], [(78, 19)], [(78, 19)], [(78, 19)], [(78, 19)], [(78, 19)], [(78, 19)], [(75, 16)], [(75, 16), (86, 27), (72, 13)], [(72, 13), (87, 28)]], rh := rL [[], [], [], [], [], [], [], [], [(2, 0)]], V := fun i g => gA undef [.int .i64 x15, .bool (decide (x15 < 0)), .bool (decide (x15 < 0)), .int .i64 x14.1, .bool (decide (x14.1 < 0)), .bool (decide (x14.1 < 0)), .int .i64 x14.1, .pointer (some ⟨b8, 2, none⟩), .int .i64 x7.fr, .bool (x14.1 != x7.fr), .bool y17, .bool y16, .bool y16, .int .i64 x15, .bool (decide (0 ≤ x15)), .bool (decide (0 ≤ x15)), undef, undef, undef, undef, undef, undef, undef, undef, undef, undef, undef, .bool y19, .bool y18] i, U := fun _ _ => [], Φ := fun _ _ => True } ?_ ?_
     ·exact ⟨lM, lc rfl rfl fun hs hh => stp_lss (sv hs 60 rfl) rfl, lM, lg rfl rfl 62 hy16 fun hs hh => stp_move (sv hs 7 rfl), lg rfl rfl 62 hy16 fun hs hh => stp_lss (sv hs 63 rfl) rfl, lg rfl rfl 62 hy16 fun hs hh => stp_move (sv hs 64 rfl), lg rfl rfl 65 hy17 fun hs hh => stp_move (sv hs 7 rfl), lg rfl rfl 65 hy17 fun hs hh => stp_fieldAddr (j := 2) Tryd.underlying53 rfl ts3 rfl (sv hs 6 rfl) rfl, lg rfl rfl 65 hy17 fun hs hh => stp_load1 ts3 (sv hs 67 rfl) (Cells.box (id := 2) (hh.get 2 _ rfl) 1 rfl), lg rfl rfl 65 hy17 fun hs hh => stp_neq (sv hs 66 rfl) (sv hs 68 rfl), lg rfl rfl 62 hy16 fun hs hh => stp_pick_fB (sv hs 65 rfl) hy17 (sv hs 69 rfl) qy17, lc rfl rfl fun hs hh => stp_pick_tB (sv hs 62 rfl) hy16 (sv hs 70 rfl) qy16, lM, lg rfl rfl 72 hy18 fun hs hh => stp_move (sv hs 9 rfl), lg rfl rfl 72 hy18 fun hs hh => stp_geq (sv hs 73 rfl) rfl, lg rfl rfl 72 hy18 fun hs hh => stp_move (sv hs 74 rfl), lo rfl rfl 75 hy19, lo rfl rfl 75 hy19, lo rfl rfl 75 hy19, lx rfl rfl 78, lx rfl rfl 78, lx rfl rfl 78, lx rfl rfl 78, lx rfl rfl 78, lx rfl rfl 78, lx rfl rfl 78, lo rfl rfl 75 hy19, lg rfl rfl 72 hy18 fun hs hh => stp_pick_fB (sv hs 75 rfl) hy19 rfl qy19, lc rfl rfl fun hs hh => stp_pick_fB (sv hs 72 rfl) hy18 (sv hs 87 rfl) qy18, trivial⟩
     intro g hΦ
     exact kw_join () trivial ⟨rfl, rfl, rfl, rfl, trivial⟩ ⟨rfl, rfl, trivial⟩
    have ey16 := cond_f ey16 hy16
    have qy16 := sI ey16
    have hy18 : y16 = false := by rw [← qy16]
    have ey18 := cond_f ey18 hy18
    obtain ⟨y19, ey19, ey18⟩ := bS ey18
    rcases Bool.eq_false_or_eq_true (decide (0 ≤ x15)) with hy19 | hy19
    ·have ey19 := cond_t ey19 hy19
     obtain ⟨y20, ey20, ey19⟩ := bS ey19
     rcases Bool.eq_false_or_eq_true (decide (0 ≤ x14.1)) with hy20 | hy20
     ·have ey20 := cond_t ey20 hy20
      have qy20 := sI ey20
      have qy19 := sI ey19
      have qy18 := sI ey18
      refine rdq g_mixed [7, 9] [] { dst := dS [61, 62, 63, 64, 65, 66, 67, 68, 69, 70, 71, 72, 73, 74, 75, 76, 77, 78, 79, 80, 81, 82, 83, 84, 85, 86, 87, 88, 89], pre := gA [] [[], [0], [0, 1], [0, 1, 2], rn 0 4, rn 0 5, rn 0 6, rn 0 6, [0, 1, 2, 3, 4, 5, 7], rn 0 9, rn 0 10, rn 0 11, rn 0 12, rn 0 13, rn 0 14, rn 0 15, rn 0 16, rn 0 17, rn 0 18, rn 0 19, rn 0 20, rn 0 19, rn 0 22, rn 0 23, rn 0 19, rn 0 25, rn 0 26, rn 0 27, rn 0 28], ids := fun _ => [], rs := rL [[(9, 0)], [(60, 1)], [(61, 2)], [(62, 3)], [(62, 3)], [(62, 3)], [(65, 6)], [(65, 6)], [(65, 6)], [(65, 6)], [(62, 3)], [(62, 3), (70, 11)], [(71, 12)], [(9, 0), (72, 13)], [(73, 14), (72, 13)], [(74, 15), (72, 13)], [(7, 0), (75, 16)], [(76, 17), (75, 16)], [(77, 18), (75, 16)], [(78, 19)], [(78, 19)], [(78, 19)], [(78, 19)], [(78, 19)], [(78, 19)], [(78, 19)], [(78, 19), (85, 26), (75, 16)], [(75, 16), (86, 27), (72, 13)], [(72, 13), (87, 28)]], rh := fun _ => [], V := fun i g => gA undef [.int .i64 x15, .bool (decide (x15 < 0)), .bool (decide (x15 < 0)), undef, undef, undef, undef, undef, undef, undef, undef, .bool y16, .bool y16, .int .i64 x15, .bool (decide (0 ≤ x15)), .bool (decide (0 ≤ x15)), .int .i64 x14.1, .bool (decide (0 ≤ x14.1)), .bool (decide (0 ≤ x14.1)), undef, undef, undef, undef, undef, undef, undef, .bool y20, .bool y19, .bool y18] i, U := fun _ _ => [], Φ := fun _ _ => True } ?_ ?_
      ·exact ⟨lM, lc rfl rfl fun hs hh => stp_lss (sv hs 60 rfl) rfl, lM, lo rfl rfl 62 hy16, lo rfl rfl 62 hy16, lo rfl rfl 62 hy16, lx rfl rfl 65, lx rfl rfl 65, lx rfl rfl 65, lx rfl rfl 65, lo rfl rfl 62 hy16, lc rfl rfl fun hs hh => stp_pick_fB (sv hs 62 rfl) hy16 rfl qy16, lM, lg rfl rfl 72 hy18 fun hs hh => stp_move (sv hs 9 rfl), lg rfl rfl 72 hy18 fun hs hh => stp_geq (sv hs 73 rfl) rfl, lg rfl rfl 72 hy18 fun hs hh => stp_move (sv hs 74 rfl), lg rfl rfl 75 hy19 fun hs hh => stp_move (sv hs 7 rfl), lg rfl rfl 75 hy19 fun hs hh => stp_geq (sv hs 76 rfl) rfl, lg rfl rfl 75 hy19 fun hs hh => stp_move (sv hs 77 rfl), lo rfl rfl 78 hy20, lo rfl rfl 78 hy20, lo rfl rfl 78 hy20, lo rfl rfl 78 hy20, lo rfl rfl 78 hy20, lo rfl rfl 78 hy20, lo rfl rfl 78 hy20, lg rfl rfl 75 hy19 fun hs hh => stp_pick_tB (sv hs 78 rfl) hy20 rfl qy20, lg rfl rfl 72 hy18 fun hs hh => stp_pick_tB (sv hs 75 rfl) hy19 (sv hs 86 rfl) qy19, lc rfl rfl fun hs hh => stp_pick_fB (sv hs 72 rfl) hy18 (sv hs 87 rfl) qy18, trivial⟩
      intro g hΦ
      exact kw_join () trivial ⟨rfl, rfl, rfl, rfl, trivial⟩ ⟨rfl, rfl, trivial⟩
     have ey20 := cond_f ey20 hy20
     obtain ⟨x21, e21, ey20⟩ := bS ey20
     have qy20 := sI ey20
     have qy19 := sI ey19
     have qy18 := sI ey18
     refine rdq g_mixed [3, 6, 7, 9] [1, 2] { dst := dS [61, 62, 63, 64, 65, 66, 67, 68, 69, 70, 71, 72, 73, 74, 75, 76, 77, 78, 79, 80, 81, 82, 83, 84, 85, 86, 87, 88, 89], pre := gA [] [[], [0], [0, 1], [0, 1, 2], rn 0 4, rn 0 5, rn 0 6, rn 0 6, [0, 1, 2, 3, 4, 5, 7], rn 0 9, rn 0 10, rn 0 11, rn 0 12, rn 0 13, rn 0 14, rn 0 15, rn 0 16, rn 0 17, rn 0 18, rn 0 19, rn 0 20, rn 0 19, rn 0 22, rn 0 23, rn 0 19, rn 0 25, rn 0 26, rn 0 27, rn 0 28], ids := fun _ => [], rs := rL [[(9, 0)], [(60, 1)], [(61, 2)], [(62, 3)], [(62, 3)], [(62, 3)], [(65, 6)], [(65, 6)], [(65, 6)], [(65, 6)], [(62, 3)], [(62, 3), (70, 11)], [(71, 12)], [(9, 0), (72, 13)], [(73, 14), (72, 13)], [(74, 15), (72, 13)], [(7, 0), (75, 16)], [(76, 17), (75, 16)], [(77, 18), (75, 16)], [(3, 0), (78, 19)], [(79, 20), (78, 19)], [(9, 0), (78, 19)], [(80, 21), (81, 22), (78, 19)], [(82, 23), (78, 19)], [(6, 0), (78, 19)], [(83, 24), (84, 25), (78, 19)], [(78, 19), (85, 26), (75, 16)], [(75, 16), (86, 27), (72, 13)], [(72, 13), (87, 28)]], rh := rL [[], [], [], [], [], [], [], [], [], [], [], [], [], [], [], [], [], [], [], [], [(1, 0)], [], [], [], [(2, 0)]], V := fun i g => gA undef [.int .i64 x15, .bool (decide (x15 < 0)), .bool (decide (x15 < 0)), undef, undef, undef, undef, undef, undef, undef, undef, .bool y16, .bool y16, .int .i64 x15, .bool (decide (0 ≤ x15)), .bool (decide (0 ≤ x15)), .int .i64 x14.1, .bool (decide (0 ≤ x14.1)), .bool (decide (0 ≤ x14.1)), .pointer (some ⟨b2, 1, none⟩), .slice p1_1 ((a1.w).length) c1_1, .int .i64 x15, .pointer (some ⟨eB p1_1, eO p1_1 + Int.toNat x15 * Enc.sz Nt + 0, none⟩), .agg #[.int .i64 x21.k.s, .int .i64 x21.k.p, .int .i64 x21.fr], .agg #[.int .i64 x7.k.s, .int .i64 x7.k.p, .int .i64 x7.fr], .bool (x21 != x7), .bool y20, .bool y19, .bool y18] i, U := fun _ _ => [], Φ := fun _ _ => True } ?_ ?_
     ·exact ⟨lM, lc rfl rfl fun hs hh => stp_lss (sv hs 60 rfl) rfl, lM, lo rfl rfl 62 hy16, lo rfl rfl 62 hy16, lo rfl rfl 62 hy16, lx rfl rfl 65, lx rfl rfl 65, lx rfl rfl 65, lx rfl rfl 65, lo rfl rfl 62 hy16, lc rfl rfl fun hs hh => stp_pick_fB (sv hs 62 rfl) hy16 rfl qy16, lM, lg rfl rfl 72 hy18 fun hs hh => stp_move (sv hs 9 rfl), lg rfl rfl 72 hy18 fun hs hh => stp_geq (sv hs 73 rfl) rfl, lg rfl rfl 72 hy18 fun hs hh => stp_move (sv hs 74 rfl), lg rfl rfl 75 hy19 fun hs hh => stp_move (sv hs 7 rfl), lg rfl rfl 75 hy19 fun hs hh => stp_geq (sv hs 76 rfl) rfl, lg rfl rfl 75 hy19 fun hs hh => stp_move (sv hs 77 rfl), lg rfl rfl 78 hy20 fun hs hh => stp_fieldAddr (j := 1) Tryd.underlying43 rfl ts41 rfl (sv hs 3 rfl) rfl, lg rfl rfl 78 hy20 fun hs hh => stp_load1 ts41 (sv hs 79 rfl) (Cells.box (id := 1) (hh.get 1 _ rfl) 1 rfl), lg rfl rfl 78 hy20 fun hs hh => stp_move (sv hs 9 rfl), lg rfl rfl 78 hy20 fun hs hh => stp_indexAddr Tryd.underlying41 ts53 (by decide) (sv hs 80 rfl) rfl (sv hs 81 rfl) (Rdb.ro hr1_1) e21, lg rfl rfl 78 hy20 fun hs hh => stp_loadN (us := [_, _, _]) ts53 (sv hs 82 rfl) (Cells.el (Rdb.ro hr1_1) (by decide) e21 0 3 rfl), lg rfl rfl 78 hy20 fun hs hh => stp_loadN (us := [_, _, _]) ts53 (sv hs 6 rfl) (Cells.box (id := 2) (hh.get 2 _ rfl) 3 rfl), lg rfl rfl 78 hy20 fun hs hh => stp_neqS te53 x21 x7 (sv hs 83 rfl) (sv hs 84 rfl), lg rfl rfl 75 hy19 fun hs hh => stp_pick_fB (sv hs 78 rfl) hy20 (sv hs 85 rfl) qy20, lg rfl rfl 72 hy18 fun hs hh => stp_pick_tB (sv hs 75 rfl) hy19 (sv hs 86 rfl) qy19, lc rfl rfl fun hs hh => stp_pick_fB (sv hs 72 rfl) hy18 (sv hs 87 rfl) qy18, trivial⟩
     intro g hΦ
     exact kw_join () trivial ⟨rfl, rfl, rfl, rfl, trivial⟩ ⟨rfl, rfl, trivial⟩
    have ey19 := cond_f ey19 hy19
    have qy19 := sI ey19
    have qy18 := sI ey18
    refine rdq g_mixed [9] [] { dst := dS [61, 62, 63, 64, 65, 66, 67, 68, 69, 70, 71, 72, 73, 74, 75, 76, 77, 78, 79, 80, 81, 82, 83, 84, 85, 86, 87, 88, 89], pre := gA [] [[], [0], [0, 1], [0, 1, 2], rn 0 4, rn 0 5, rn 0 6, rn 0 6, [0, 1, 2, 3, 4, 5, 7], rn 0 9, rn 0 10, rn 0 11, rn 0 12, rn 0 13, rn 0 14, rn 0 15, rn 0 16, rn 0 17, rn 0 18, rn 0 19, rn 0 20, rn 0 19, rn 0 22, rn 0 23, rn 0 19, rn 0 25, rn 0 26, rn 0 27, rn 0 28], ids := fun _ => [], rs := rL [[(9, 0)], [(60, 1)], [(61, 2)], [(62, 3)], [(62, 3)], [(62, 3)], [(65, 6)], [(65, 6)], [(65, 6)], [(65, 6)], [(62, 3)], [(62, 3), (70, 11)], [(71, 12)], [(9, 0), (72, 13)], [(73, 14), (72, 13)], [(74, 15), (72, 13)], [(75, 16)], [(75, 16)], [(75, 16)], [(78, 19)], [(78, 19)], [(78, 19)], [(78, 19)], [(78, 19)], [(78, 19)], [(78, 19)], [(75, 16)], [(75, 16), (86, 27), (72, 13)], [(72, 13), (87, 28)]], rh := fun _ => [], V := fun i g => gA undef [.int .i64 x15, .bool (decide (x15 < 0)), .bool (decide (x15 < 0)), undef, undef, undef, undef, undef, undef, undef, undef, .bool y16, .bool y16, .int .i64 x15, .bool (decide (0 ≤ x15)), .bool (decide (0 ≤ x15)), undef, undef, undef, undef, undef, undef, undef, undef, undef, undef, undef, .bool y19, .bool y18] i, U := fun _ _ => [], Φ := fun _ _ => True } ?_ ?_
    ·exact ⟨lM, lc rfl rfl fun hs hh => stp_lss (sv hs 60 rfl) rfl, lM, lo rfl rfl 62 hy16, lo rfl rfl 62 hy16, lo rfl rfl 62 hy16, lx rfl rfl 65, lx rfl rfl 65, lx rfl rfl 65, lx rfl rfl 65, lo rfl rfl 62 hy16, lc rfl rfl fun hs hh => stp_pick_fB (sv hs 62 rfl) hy16 rfl qy16, lM, lg rfl rfl 72 hy18 fun hs hh => stp_move (sv hs 9 rfl), lg rfl rfl 72 hy18 fun hs hh => stp_geq (sv hs 73 rfl) rfl, lg rfl rfl 72 hy18 fun hs hh => stp_move (sv hs 74 rfl), lo rfl rfl 75 hy19, lo rfl rfl 75 hy19, lo rfl rfl 75 hy19, lx rfl rfl 78, lx rfl rfl 78, lx rfl rfl 78, lx rfl rfl 78, lx rfl rfl 78, lx rfl rfl 78, lx rfl rfl 78, lo rfl rfl 75 hy19, lg rfl rfl 72 hy18 fun hs hh => stp_pick_fB (sv hs 75 rfl) hy19 rfl qy19, lc rfl rfl fun hs hh => stp_pick_fB (sv hs 72 rfl) hy18 (sv hs 87 rfl) qy18, trivial⟩
    intro g hΦ
    exact kw_join () trivial ⟨rfl, rfl, rfl, rfl, trivial⟩ ⟨rfl, rfl, trivial⟩
   rintro _ -
   dsimp only
   refine kw_nx (cw_cond rfl (fun h22 => ?_) (fun h22 => ?_))
   ·have H1 := cond_t H1 h22
    refine sr (oS rfl (nn (cw_ret (kw_bl_ret (kw_nx_ret (kw_lq_ret (kw_bl_ret (kw_join_ret (kw_nx_ret ?_)))))))))
    obtain rfl := sI H1
    obtain rfl := sI H0
    exact kr Tryd.results79 (rT rfl) [] ⟨rfl, rfl⟩
   have H1 := cond_f H1 h22
   obtain ⟨x23, e23, H1⟩ := bS H1
   exact cw_skip (kw_bl_normal (kw_nx (cw_region (oM rfl (oP e23 rfl (oS rfl (ow_nil (kw_lqS (js := [0, 1]) (fuel, x23) H1 (Nat.lt_succ_self _) ⟨rfl, rfl, rfl, trivial⟩ ⟨0, [1], rfl, rfl, 1, [], rfl, rfl, trivial⟩ (by decide)))))))))
  have H1 := cond_f H1 h6
  refine cw_exit (kw_nx_exit (kw_lq_exit (kw_bl ?_)))
  obtain rfl := sI H1
  exact kw_joinS (js := [0, 1]) v5 rfl ⟨rfl, rfl, rfl, trivial⟩ ⟨0, [1], rfl, rfl, 1, [], rfl, rfl, trivial⟩ (by decide)
 rintro v5 rfl
 dsimp only
 obtain ⟨o0_1, eo0_1, H0⟩ := bS H0
 refine kw_nx (cw_seq (sr (oS rfl (nn (cw_join (ι := Int) (fun | v24 => o0_1 = .out v24) (fun | v24 => [(2, .pointer (some ⟨b1, 0, none⟩)), (3, .pointer (some ⟨b2, 0, none⟩)), (10, .int .i64 v24)]) (fun | v24 => [(0, [(b1, .cells #[.slice p0_0 ((a0.b).length) c0_0, .slice p0_1 ((a0.f).length) c0_1] 26 (0, 0))]), (1, [(b2, .cells #[.slice p1_0 ((a1.n).length) c1_0, .slice p1_1 ((a1.w).length) c1_1] 43 (0, 0))])]) ?_ ?_)))))
 ·refine cw_block (cw_loopS (ι := Nat × Int) (js := [0, 1]) (fun x => x.1) (fun | (fuel, v24) => s_l8Cpu_L1 fl a0 a1 fuel v24 = some o0_1) (fun | (_, v24) => [(2, .pointer (some ⟨b1, 0, none⟩)), (3, .pointer (some ⟨b2, 0, none⟩)), (10, .int .i64 v24)]) (fun | (_, v24) => [(0, [(b1, .cells #[.slice p0_0 ((a0.b).length) c0_0, .slice p0_1 ((a0.f).length) c0_1] 26 (0, 0))]), (1, [(b2, .cells #[.slice p1_0 ((a1.n).length) c1_0, .slice p1_1 ((a1.w).length) c1_1] 43 (0, 0))])]) (fl, 0) eo0_1 ⟨rfl, rfl, rfl, trivial⟩ ⟨0, [1], rfl, rfl, 1, [], rfl, rfl, trivial⟩ (by decide) ?_)
  rintro ⟨fuel, v24⟩ H1
  have H1 : s_l8Cpu_L1 fl a0 a1 fuel v24 = some o0_1 := H1
  rcases fuel with _ | fuel
  ·rw [s_l8Cpu_L1.eq_1] at H1; cases H1
  rw [s_l8Cpu_L1.eq_2] at H1
  dsimp only
  refine cw_seq (sr (oM rfl (oA 1 Tryd.underlying43 rfl ts41 rfl (oL 1 ts41 rfl (oD (stp_len Tryd.underlying41 rfl) rfl (oW rfl (nn (cw_cond rfl (fun h25 => ?_) (fun h25 => ?_)))))))))
  ·have H1 := cond_t H1 h25
   obtain ⟨x26, e26, H1⟩ := bS H1
   refine cw_skip (kw_nx (cw_seq (cw_block (sr (oA 1 Tryd.underlying43 rfl ts41 rfl (oL 1 ts41 rfl (oM rfl (oD (stp_indexAddr Tryd.underlying41 ts53 (by decide) rfl rfl rfl (Rdb.ro hr1_1) e26) rfl (oD (stp_loadN (us := [_, _, _]) ts53 rfl (Cells.el (Rdb.ro hr1_1) (by decide) e26 0 3 rfl)) rfl (oE (stpU_alloc 3 tz53 rfl) rfl ?_))))))))))
   rintro _ _ ⟨b27, rfl, rfl⟩
   obtain ⟨x28, e28, H1⟩ := bS H1
   obtain ⟨y29, ey29, H1⟩ := bS H1
   obtain ⟨y32, ey32, H1⟩ := bS H1
   obtain ⟨y33, ey33, H1⟩ := bS H1
   obtain ⟨y34, ey34, H1⟩ := bS H1
   refine oC3 3 ts53 rfl rfl (nn (cw_seq (cw_join (ι := Unit) (fun | _ => True) (fun | _ => [(2, .pointer (some ⟨b1, 0, none⟩)), (3, .pointer (some ⟨b2, 0, none⟩)), (10, .int .i64 v24), (138, .bool y34)]) (fun | _ => [(0, [(b1, .cells #[.slice p0_0 ((a0.b).length) c0_0, .slice p0_1 ((a0.f).length) c0_1] 26 (0, 0))]), (1, [(b2, .cells #[.slice p1_0 ((a1.n).length) c1_0, .slice p1_1 ((a1.w).length) c1_1] 43 (0, 0))])]) ?_ ?_)))
   ·rcases Bool.eq_false_or_eq_true (decide (x28 < 0)) with hy29 | hy29
    ·have ey29 := cond_t ey29 hy29
     have qy29 := sI ey29
     have hy32 : y29 = true := by rw [← qy29]
     have ey32 := cond_t ey32 hy32
     have qy32 := sI ey32
     have hy33 : y32 = true := by rw [← qy32]
     have ey33 := cond_t ey33 hy33
     have qy33 := sI ey33
     have hy34 : y33 = true := by rw [← qy33]
     have ey34 := cond_t ey34 hy34
     have qy34 := sI ey34
     refine rdq g_mixed [3, 11] [1, 3] { dst := dS [102, 103, 104, 105, 106, 107, 108, 109, 110, 111, 112, 113, 114, 115, 116, 117, 118, 119, 120, 121, 122, 123, 124, 125, 126, 127, 128, 129, 130, 131, 132, 133, 134, 135, 136, 137, 138, 139], pre := gA [] [[], [0], [], [2], rn 0 4, rn 0 5, rn 0 6, rn 0 7, rn 0 8, rn 0 7, rn 0 10, rn 0 7, [0, 1, 2, 3, 4, 5, 6, 11], rn 0 13, rn 0 14, rn 0 15, rn 0 16, rn 0 17, rn 0 18, rn 0 19, rn 0 20, rn 0 21, rn 0 22, rn 0 23, rn 0 22, [0, 1, 2, 3, 4, 5, 6, 7, 8, 9, 10, 11, 12, 13, 14, 15, 16, 17, 18, 19, 20, 21, 24], [0, 1, 2, 3, 4, 5, 6, 7, 8, 9, 10, 11, 12, 13, 14, 15, 16, 17, 18, 19, 20, 21, 24, 25], rn 0 27, rn 0 28, rn 0 29, rn 0 30, rn 0 31, rn 0 30, [0, 1, 2, 3, 4, 5, 6, 7, 8, 9, 10, 11, 12, 13, 14, 15, 16, 17, 18, 19, 20, 21, 22, 23, 24, 25, 26, 27, 28, 29, 32], rn 0 34, rn 0 35, rn 0 36, rn 0 37], ids := fun _ => [], rs := rL [[(3, 0)], [(101, 1)], [(11, 0)], [(103, 3)], [(102, 2), (104, 4)], [(105, 5)], [(106, 6)], [(107, 7)], [(107, 7)], [(107, 7)], [(107, 7)], [(107, 7)], [(107, 7)], [(107, 7)], [(107, 7)], [(107, 7), (115, 15)], [(116, 16)], [(117, 17)], [(117, 17)], [(117, 17)], [(117, 17), (120, 20)], [(121, 21)], [(122, 22)], [(122, 22)], [(122, 22)], [(122, 22)], [(122, 22)], [(122, 22)], [(122, 22), (128, 28)], [(129, 29)], [(130, 30)], [(130, 30)], [(130, 30)], [(130, 30)], [(130, 30)], [(130, 30)], [(130, 30)], [(130, 30), (137, 37)]], rh := rL [[], [(1, 0)], [], [(3, 0)]], V := fun i g => gA undef [.pointer (some ⟨b2, 0, none⟩), .slice p1_0 ((a1.n).length) c1_0, .pointer (some ⟨b27, 0, none⟩), .agg #[.int .i64 x26.k.s, .int .i64 x26.k.p], .int .i64 x28, .bool (decide (x28 < 0)), .bool (decide (x28 < 0)), undef, undef, undef, undef, undef, undef, undef, undef, .bool y29, .bool y29, undef, undef, undef, .bool y32, .bool y32, undef, undef, undef, undef, undef, undef, .bool y33, .bool y33, undef, undef, undef, undef, undef, undef, undef, .bool y34] i, U := fun _ _ => [], Φ := fun _ _ => True } ?_ ?_
     ·refine ⟨lc rfl rfl fun hs hh => stp_fieldAddr (j := 0) Tryd.underlying43 rfl ts41 rfl (sv hs 3 rfl) rfl, lc rfl rfl fun hs hh => stp_load1 ts41 (sv hs 101 rfl) (Cells.box (id := 1) (hh.get 1 _ rfl) 1 rfl), lc rfl rfl fun hs hh => stp_fieldAddr (j := 0) Tryd.underlying53 rfl ts36 rfl (sv hs 11 rfl) rfl, lc rfl rfl fun hs hh => stp_loadN (us := [_, _]) ts36 (sv hs 103 rfl) (Cells.box (id := 3) (hh.get 3 _ rfl) 2 rfl), ?_, lc rfl rfl fun hs hh => stp_lss (sv hs 105 rfl) rfl, lM, lo rfl rfl 107 hy29, lo rfl rfl 107 hy29, lo rfl rfl 107 hy29, lo rfl rfl 107 hy29, lo rfl rfl 107 hy29, lo rfl rfl 107 hy29, lo rfl rfl 107 hy29, lo rfl rfl 107 hy29, lc rfl rfl fun hs hh => stp_pick_tB (sv hs 107 rfl) hy29 rfl qy29, lM, lo rfl rfl 117 hy32, lo rfl rfl 117 hy32, lo rfl rfl 117 hy32, lc rfl rfl fun hs hh => stp_pick_tB (sv hs 117 rfl) hy32 rfl qy32, lM, lo rfl rfl 122 hy33, lo rfl rfl 122 hy33, lo rfl rfl 122 hy33, lo rfl rfl 122 hy33, lo rfl rfl 122 hy33, lo rfl rfl 122 hy33, lc rfl rfl fun hs hh => stp_pick_tB (sv hs 122 rfl) hy33 rfl qy33, lM, lo rfl rfl 130 hy34, lo rfl rfl 130 hy34, lo rfl rfl 130 hy34, lo rfl rfl 130 hy34, lo rfl rfl 130 hy34, lo rfl rfl 130 hy34, lo rfl rfl 130 hy34, lc rfl rfl fun hs hh => stp_pick_tB (sv hs 130 rfl) hy34 rfl qy34, trivial⟩
      refine le rfl rfl (fun g hΦ s h hs hh => (stpU_call (fun i => 4 + i) cf37 (fun w hw => c_s_l8Find fl w a1.n x26.k rfl (RO.pass hr1_0 hw) x28 e28) (yB (sv hs 102 rfl) (sv hs 104 rfl)))) ?_
      rintro g _ _ ⟨_, ⟨rfl, rfl⟩, rfl⟩
      exact ⟨⟨[], [], []⟩, trivial, .inr rfl, rfl⟩
     intro g hΦ
     exact kw_join () trivial ⟨rfl, rfl, rfl, rfl, trivial⟩ ⟨rfl, rfl, trivial⟩
    have ey29 := cond_f ey29 hy29
    obtain ⟨x30, e30, ey29⟩ := bS ey29
    obtain ⟨x31, e31, ey29⟩ := bS ey29
    have qy29 := sI ey29
    rcases Bool.eq_false_or_eq_true y29 with hy32 | hy32
    ·have ey32 := cond_t ey32 hy32
     have qy32 := sI ey32
     have hy33 : y32 = true := by rw [← qy32]
     have ey33 := cond_t ey33 hy33
     have qy33 := sI ey33
     have hy34 : y33 = true := by rw [← qy33]
     have ey34 := cond_t ey34 hy34
     have qy34 := sI ey34
     refine rdq g_mixed [3, 10, 11] [1, 3] { dst := dS [102, 103, 104, 105, 106, 107, 108, 109, 110, 111, 112, 113, 114, 115, 116, 117, 118, 119, 120, 121, 122, 123, 124, 125, 126, 127, 128, 129, 130, 131, 132, 133, 134, 135, 136, 137, 138, 139], pre := gA [] [[], [0], [], [2], rn 0 4, rn 0 5, rn 0 6, rn 0 7, rn 0 8, rn 0 7, rn 0 10, rn 0 7, [0, 1, 2, 3, 4, 5, 6, 11], rn 0 13, rn 0 14, rn 0 15, rn 0 16, rn 0 17, rn 0 18, rn 0 19, rn 0 20, rn 0 21, rn 0 22, rn 0 23, rn 0 22, [0, 1, 2, 3, 4, 5, 6, 7, 8, 9, 10, 11, 12, 13, 14, 15, 16, 17, 18, 19, 20, 21, 24], [0, 1, 2, 3, 4, 5, 6, 7, 8, 9, 10, 11, 12, 13, 14, 15, 16, 17, 18, 19, 20, 21, 24, 25], rn 0 27, rn 0 28, rn 0 29, rn 0 30, rn 0 31, rn 0 30, [0, 1, 2, 3, 4, 5, 6, 7, 8, 9, 10, 11, 12, 13, 14, 15, 16, 17, 18, 19, 20, 21, 22, 23, 24, 25, 26, 27, 28, 29, 32], rn 0 34, rn 0 35, rn 0 36, rn 0 37], ids := fun _ => [], rs := rL [[(3, 0)], [(101, 1)], [(11, 0)], [(103, 3)], [(102, 2), (104, 4)], [(105, 5)], [(106, 6)], [(3, 0), (107, 7)], [(108, 8), (107, 7)], [(10, 0), (107, 7)], [(109, 9), (110, 10), (107, 7)], [(11, 0), (107, 7)], [(112, 12), (107, 7)], [(111, 11), (113, 13), (107, 7)], [(114, 14), (107, 7)], [(107, 7), (115, 15)], [(116, 16)], [(117, 17)], [(117, 17)], [(117, 17)], [(117, 17), (120, 20)], [(121, 21)], [(122, 22)], [(122, 22)], [(122, 22)], [(122, 22)], [(122, 22)], [(122, 22)], [(122, 22), (128, 28)], [(129, 29)], [(130, 30)], [(130, 30)], [(130, 30)], [(130, 30)], [(130, 30)], [(130, 30)], [(130, 30)], [(130, 30), (137, 37)]], rh := rL [[], [(1, 0)], [], [(3, 0)], [], [], [], [], [(1, 0)], [], [], [], [(3, 0)]], V := fun i g => gA undef [.pointer (some ⟨b2, 0, none⟩), .slice p1_0 ((a1.n).length) c1_0, .pointer (some ⟨b27, 0, none⟩), .agg #[.int .i64 x26.k.s, .int .i64 x26.k.p], .int .i64 x28, .bool (decide (x28 < 0)), .bool (decide (x28 < 0)), .pointer (some ⟨b2, 1, none⟩), .slice p1_1 ((a1.w).length) c1_1, .int .i64 v24, .slice p1_1 ((x30).length) c1_1, .pointer (some ⟨b27, 0, none⟩), .agg #[.int .i64 x26.k.s, .int .i64 x26.k.p], .int .i64 x31, .bool (decide (0 ≤ x31)), .bool y29, .bool y29, undef, undef, undef, .bool y32, .bool y32, undef, undef, undef, undef, undef, undef, .bool y33, .bool y33, undef, undef, undef, undef, undef, undef, undef, .bool y34] i, U := fun _ _ => [], Φ := fun _ _ => True } ?_ ?_
     ·refine ⟨lc rfl rfl fun hs hh => stp_fieldAddr (j := 0) Tryd.underlying43 rfl ts41 rfl (sv hs 3 rfl) rfl, lc rfl rfl fun hs hh => stp_load1 ts41 (sv hs 101 rfl) (Cells.box (id := 1) (hh.get 1 _ rfl) 1 rfl), lc rfl rfl fun hs hh => stp_fieldAddr (j := 0) Tryd.underlying53 rfl ts36 rfl (sv hs 11 rfl) rfl, lc rfl rfl fun hs hh => stp_loadN (us := [_, _]) ts36 (sv hs 103 rfl) (Cells.box (id := 3) (hh.get 3 _ rfl) 2 rfl), ?_, lc rfl rfl fun hs hh => stp_lss (sv hs 105 rfl) rfl, lM, lg rfl rfl 107 hy29 fun hs hh => stp_fieldAddr (j := 1) Tryd.underlying43 rfl ts41 rfl (sv hs 3 rfl) rfl, lg rfl rfl 107 hy29 fun hs hh => stp_load1 ts41 (sv hs 108 rfl) (Cells.box (id := 1) (hh.get 1 _ rfl) 1 rfl), lg rfl rfl 107 hy29 fun hs hh => stp_move (sv hs 10 rfl), lg rfl rfl 107 hy29 fun hs hh => stp_take Tryd.underlying41 ts53 (sv hs 109 rfl) rfl (sv hs 110 rfl) (Rdb.ro hr1_1) e30, lg rfl rfl 107 hy29 fun hs hh => stp_fieldAddr (j := 0) Tryd.underlying53 rfl ts36 rfl (sv hs 11 rfl) rfl, lg rfl rfl 107 hy29 fun hs hh => stp_loadN (us := [_, _]) ts36 (sv hs 112 rfl) (Cells.box (id := 3) (hh.get 3 _ rfl) 2 rfl), ?_, lg rfl rfl 107 hy29 fun hs hh => stp_geq (sv hs 114 rfl) rfl, lc rfl rfl fun hs hh => stp_pick_fB (sv hs 107 rfl) hy29 (sv hs 115 rfl) qy29, lM, lo rfl rfl 117 hy32, lo rfl rfl 117 hy32, lo rfl rfl 117 hy32, lc rfl rfl fun hs hh => stp_pick_tB (sv hs 117 rfl) hy32 rfl qy32, lM, lo rfl rfl 122 hy33, lo rfl rfl 122 hy33, lo rfl rfl 122 hy33, lo rfl rfl 122 hy33, lo rfl rfl 122 hy33, lo rfl rfl 122 hy33, lc rfl rfl fun hs hh => stp_pick_tB (sv hs 122 rfl) hy33 rfl qy33, lM, lo rfl rfl 130 hy34, lo rfl rfl 130 hy34, lo rfl rfl 130 hy34, lo rfl rfl 130 hy34, lo rfl rfl 130 hy34, lo rfl rfl 130 hy34, lo rfl rfl 130 hy34, lc rfl rfl fun hs hh => stp_pick_tB (sv hs 130 rfl) hy34 rfl qy34, trivial⟩
      ·refine le rfl rfl (fun g hΦ s h hs hh => (stpU_call (fun i => 4 + i) cf37 (fun w hw => c_s_l8Find fl w a1.n x26.k rfl (RO.pass hr1_0 hw) x28 e28) (yB (sv hs 102 rfl) (sv hs 104 rfl)))) ?_
       rintro g _ _ ⟨_, ⟨rfl, rfl⟩, rfl⟩
       exact ⟨⟨[], [], []⟩, trivial, .inr rfl, rfl⟩
      refine loc_eff rfl rfl (fun g hΦ s h hs hh => ⟨(.some (gval_of rfl (sv hs 107 rfl)) hy29), (stpU_call (fun i => 4 + i) cf37 (fun w hw => c_s_l8Find fl w x30 x26.k rfl (RO.pass (RO.take hr1_1 e30) hw) x31 e31) (yB (sv hs 111 rfl) (sv hs 113 rfl)))⟩) ?_
      rintro g _ _ ⟨_, ⟨rfl, rfl⟩, rfl⟩
      exact ⟨⟨[], [], []⟩, trivial, .inr rfl, rfl⟩
     intro g hΦ
     exact kw_join () trivial ⟨rfl, rfl, rfl, rfl, trivial⟩ ⟨rfl, rfl, trivial⟩
    have ey32 := cond_f ey32 hy32
    have qy32 := sI ey32
    rcases Bool.eq_false_or_eq_true y32 with hy33 | hy33
    ·have ey33 := cond_t ey33 hy33
     have qy33 := sI ey33
     have hy34 : y33 = true := by rw [← qy33]
     have ey34 := cond_t ey34 hy34
     have qy34 := sI ey34
     refine rdq g_mixed [3, 10, 11] [1, 3] { dst := dS [102, 103, 104, 105, 106, 107, 108, 109, 110, 111, 112, 113, 114, 115, 116, 117, 118, 119, 120, 121, 122, 123, 124, 125, 126, 127, 128, 129, 130, 131, 132, 133, 134, 135, 136, 137, 138, 139], pre := gA [] [[], [0], [], [2], rn 0 4, rn 0 5, rn 0 6, rn 0 7, rn 0 8, rn 0 7, rn 0 10, rn 0 7, [0, 1, 2, 3, 4, 5, 6, 11], rn 0 13, rn 0 14, rn 0 15, rn 0 16, rn 0 17, rn 0 18, rn 0 19, rn 0 20, rn 0 21, rn 0 22, rn 0 23, rn 0 22, [0, 1, 2, 3, 4, 5, 6, 7, 8, 9, 10, 11, 12, 13, 14, 15, 16, 17, 18, 19, 20, 21, 24], [0, 1, 2, 3, 4, 5, 6, 7, 8, 9, 10, 11, 12, 13, 14, 15, 16, 17, 18, 19, 20, 21, 24, 25], rn 0 27, rn 0 28, rn 0 29, rn 0 30, rn 0 31, rn 0 30, [0, 1, 2, 3, 4, 5, 6, 7, 8, 9, 10, 11, 12, 13, 14, 15, 16, 17, 18, 19, 20, 21, 22, 23, 24, 25, 26, 27, 28, 29, 32], rn 0 34, rn 0 35, rn 0 36, rn 0 37], ids := fun _ => [], rs := rL [[(3, 0)], [(101, 1)], [(11, 0)], [(103, 3)], [(102, 2), (104, 4)], [(105, 5)], [(106, 6)], [(3, 0), (107, 7)], [(108, 8), (107, 7)], [(10, 0), (107, 7)], [(109, 9), (110, 10), (107, 7)], [(11, 0), (107, 7)], [(112, 12), (107, 7)], [(111, 11), (113, 13), (107, 7)], [(114, 14), (107, 7)], [(107, 7), (115, 15)], [(116, 16)], [(11, 0), (117, 17)], [(118, 18), (117, 17)], [(119, 19), (117, 17)], [(117, 17), (120, 20)], [(121, 21)], [(122, 22)], [(122, 22)], [(122, 22)], [(122, 22)], [(122, 22)], [(122, 22)], [(122, 22), (128, 28)], [(129, 29)], [(130, 30)], [(130, 30)], [(130, 30)], [(130, 30)], [(130, 30)], [(130, 30)], [(130, 30)], [(130, 30), (137, 37)]], rh := rL [[], [(1, 0)], [], [(3, 0)], [], [], [], [], [(1, 0)], [], [], [], [(3, 0)], [], [], [], [], [], [(3, 0)]], V := fun i g => gA undef [.pointer (some ⟨b2, 0, none⟩), .slice p1_0 ((a1.n).length) c1_0, .pointer (some ⟨b27, 0, none⟩), .agg #[.int .i64 x26.k.s, .int .i64 x26.k.p], .int .i64 x28, .bool (decide (x28 < 0)), .bool (decide (x28 < 0)), .pointer (some ⟨b2, 1, none⟩), .slice p1_1 ((a1.w).length) c1_1, .int .i64 v24, .slice p1_1 ((x30).length) c1_1, .pointer (some ⟨b27, 0, none⟩), .agg #[.int .i64 x26.k.s, .int .i64 x26.k.p], .int .i64 x31, .bool (decide (0 ≤ x31)), .bool y29, .bool y29, .pointer (some ⟨b27, 2, none⟩), .int .i64 x26.fr, .bool (decide (x26.fr < 0)), .bool y32, .bool y32, undef, undef, undef, undef, undef, undef, .bool y33, .bool y33, undef, undef, undef, undef, undef, undef, undef, .bool y34] i, U := fun _ _ => [], Φ := fun _ _ => True } ?_ ?_
     ·refine ⟨lc rfl rfl fun hs hh => stp_fieldAddr (j := 0) Tryd.underlying43 rfl ts41 rfl (sv hs 3 rfl) rfl, lc rfl rfl fun hs hh => stp_load1 ts41 (sv hs 101 rfl) (Cells.box (id := 1) (hh.get 1 _ rfl) 1 rfl), lc rfl rfl fun hs hh => stp_fieldAddr (j := 0) Tryd.underlying53 rfl ts36 rfl (sv hs 11 rfl) rfl, lc rfl rfl fun hs hh => stp_loadN (us := [_, _]) ts36 (sv hs 103 rfl) (Cells.box (id := 3) (hh.get 3 _ rfl) 2 rfl), ?_, lc rfl rfl fun hs hh => stp_lss (sv hs 105 rfl) rfl, lM, lg rfl rfl 107 hy29 fun hs hh => stp_fieldAddr (j := 1) Tryd.underlying43 rfl ts41 rfl (sv hs 3 rfl) rfl, lg rfl rfl 107 hy29 fun hs hh => stp_load1 ts41 (sv hs 108 rfl) (Cells.box (id := 1) (hh.get 1 _ rfl) 1 rfl), lg rfl rfl 107 hy29 fun hs hh => stp_move (sv hs 10 rfl), lg rfl rfl 107 hy29 fun hs hh => stp_take Tryd.underlying41 ts53 (sv hs 109 rfl) rfl (sv hs 110 rfl) (Rdb.ro hr1_1) e30, lg rfl rfl 107 hy29 fun hs hh => stp_fieldAddr (j := 0) Tryd.underlying53 rfl ts36 rfl (sv hs 11 rfl) rfl, lg rfl rfl 107 hy29 fun hs hh => stp_loadN (us := [_, _]) ts36 (sv hs 112 rfl) (Cells.box (id := 3) (hh.get 3 _ rfl) 2 rfl), ?_, lg rfl rfl 107 hy29 fun hs hh => stp_geq (sv hs 114 rfl) rfl, lc rfl rfl fun hs hh => stp_pick_fB (sv hs 107 rfl) hy29 (sv hs 115 rfl) qy29, lM, lg rfl rfl 117 hy32 fun hs hh => stp_fieldAddr (j := 2) Tryd.underlying53 rfl ts3 rfl (sv hs 11 rfl) rfl, lg rfl rfl 117 hy32 fun hs hh => stp_load1 ts3 (sv hs 118 rfl) (Cells.box (id := 3) (hh.get 3 _ rfl) 1 rfl), lg rfl rfl 117 hy32 fun hs hh => stp_lss (sv hs 119 rfl) rfl, lc rfl rfl fun hs hh => stp_pick_fB (sv hs 117 rfl) hy32 (sv hs 120 rfl) qy32, lM, lo rfl rfl 122 hy33, lo rfl rfl 122 hy33, lo rfl rfl 122 hy33, lo rfl rfl 122 hy33, lo rfl rfl 122 hy33, lo rfl rfl 122 hy33, lc rfl rfl fun hs hh => stp_pick_tB (sv hs 122 rfl) hy33 rfl qy33, lM, lo rfl rfl 130 hy34, lo rfl rfl 130 hy34, lo rfl rfl 130 hy34, lo rfl rfl 130 hy34, lo rfl rfl 130 hy34, lo rfl rfl 130 hy34, lo rfl rfl 130 hy34, lc rfl rfl fun hs hh => stp_pick_tB (sv hs 130 rfl) hy34 rfl qy34, trivial⟩
      ·refine le rfl rfl (fun g hΦ s h hs hh => (stpU_call (fun i => 4 + i) cf37 (fun w hw => c_s_l8Find fl w a1.n x26.k rfl (RO.pass hr1_0 hw) x28 e28) (yB (sv hs 102 rfl) (sv hs 104 rfl)))) ?_
       rintro g _ _ ⟨_, ⟨rfl, rfl⟩, rfl⟩
       exact ⟨⟨[], [], []⟩, trivial, .inr rfl, rfl⟩
      refine loc_eff rfl rfl (fun g hΦ s h hs hh => ⟨(.some (gval_of rfl (sv hs 107 rfl)) hy29), (stpU_call (fun i => 4 + i) cf37 (fun w hw => c_s_l8Find fl w x30 x26.k rfl (RO.pass (RO.take hr1_1 e30) hw) x31 e31) (yB (sv hs 111 rfl) (sv hs 113 rfl)))⟩) ?_
      rintro g _ _ ⟨_, ⟨rfl, rfl⟩, rfl⟩
      exact ⟨⟨[], [], []⟩, trivial, .inr rfl, rfl⟩
     intro g hΦ
     exact kw_join () trivial ⟨rfl, rfl, rfl, rfl, trivial⟩ ⟨rfl, rfl, trivial⟩
    have ey33 := cond_f ey33 hy33
    have qy33 := sI ey33
    rcases Bool.eq_false_or_eq_true y33 with hy34 | hy34
    ·have ey34 := cond_t ey34 hy34
     have qy34 := sI ey34
     refine rdq g_mixed [2, 3, 10, 11] [0, 1, 3] { dst := dS [102, 103, 104, 105, 106, 107, 108, 109, 110, 111, 112, 113, 114, 115, 116, 117, 118, 119, 120, 121, 122, 123, 124, 125, 126, 127, 128, 129, 130, 131, 132, 133, 134, 135, 136, 137, 138, 139], pre := gA [] [[], [0], [], [2], rn 0 4, rn 0 5, rn 0 6, rn 0 7, rn 0 8, rn 0 7, rn 0 10, rn 0 7, [0, 1, 2, 3, 4, 5, 6, 11], rn 0 13, rn 0 14, rn 0 15, rn 0 16, rn 0 17, rn 0 18, rn 0 19, rn 0 20, rn 0 21, rn 0 22, rn 0 23, rn 0 22, [0, 1, 2, 3, 4, 5, 6, 7, 8, 9, 10, 11, 12, 13, 14, 15, 16, 17, 18, 19, 20, 21, 24], [0, 1, 2, 3, 4, 5, 6, 7, 8, 9, 10, 11, 12, 13, 14, 15, 16, 17, 18, 19, 20, 21, 24, 25], rn 0 27, rn 0 28, rn 0 29, rn 0 30, rn 0 31, rn 0 30, [0, 1, 2, 3, 4, 5, 6, 7, 8, 9, 10, 11, 12, 13, 14, 15, 16, 17, 18, 19, 20, 21, 22, 23, 24, 25, 26, 27, 28, 29, 32], rn 0 34, rn 0 35, rn 0 36, rn 0 37], ids := fun _ => [], rs := rL [[(3, 0)], [(101, 1)], [(11, 0)], [(103, 3)], [(102, 2), (104, 4)], [(105, 5)], [(106, 6)], [(3, 0), (107, 7)], [(108, 8), (107, 7)], [(10, 0), (107, 7)], [(109, 9), (110, 10), (107, 7)], [(11, 0), (107, 7)], [(112, 12), (107, 7)], [(111, 11), (113, 13), (107, 7)], [(114, 14), (107, 7)], [(107, 7), (115, 15)], [(116, 16)], [(11, 0), (117, 17)], [(118, 18), (117, 17)], [(119, 19), (117, 17)], [(117, 17), (120, 20)], [(121, 21)], [(11, 0), (122, 22)], [(123, 23), (122, 22)], [(2, 0), (122, 22)], [(125, 25), (122, 22)], [(126, 26), (122, 22)], [(124, 24), (127, 27), (122, 22)], [(122, 22), (128, 28)], [(129, 29)], [(130, 30)], [(130, 30)], [(130, 30)], [(130, 30)], [(130, 30)], [(130, 30)], [(130, 30)], [(130, 30), (137, 37)]], rh := rL [[], [(1, 0)], [], [(3, 0)], [], [], [], [], [(1, 0)], [], [], [], [(3, 0)], [], [], [], [], [], [(3, 0)], [], [], [], [], [(3, 0)], [], [(0, 0)]], V := fun i g => gA undef [.pointer (some ⟨b2, 0, none⟩), .slice p1_0 ((a1.n).length) c1_0, .pointer (some ⟨b27, 0, none⟩), .agg #[.int .i64 x26.k.s, .int .i64 x26.k.p], .int .i64 x28, .bool (decide (x28 < 0)), .bool (decide (x28 < 0)), .pointer (some ⟨b2, 1, none⟩), .slice p1_1 ((a1.w).length) c1_1, .int .i64 v24, .slice p1_1 ((x30).length) c1_1, .pointer (some ⟨b27, 0, none⟩), .agg #[.int .i64 x26.k.s, .int .i64 x26.k.p], .int .i64 x31, .bool (decide (0 ≤ x31)), .bool y29, .bool y29, .pointer (some ⟨b27, 2, none⟩), .int .i64 x26.fr, .bool (decide (x26.fr < 0)), .bool y32, .bool y32, .pointer (some ⟨b27, 2, none⟩), .int .i64 x26.fr, .pointer (some ⟨b1, 1, none⟩), .slice p0_1 ((a0.f).length) c0_1, .int .i64 ((a0.f).length : Int), .bool (decide (((a0.f).length : Int) ≤ x26.fr)), .bool y33, .bool y33, undef, undef, undef, undef, undef, undef, undef, .bool y34] i, U := fun _ _ => [], Φ := fun _ _ => True } ?_ ?_
     ·refine ⟨lc rfl rfl fun hs hh => stp_fieldAddr (j := 0) Tryd.underlying43 rfl ts41 rfl (sv hs 3 rfl) rfl, lc rfl rfl fun hs hh => stp_load1 ts41 (sv hs 101 rfl) (Cells.box (id := 1) (hh.get 1 _ rfl) 1 rfl), lc rfl rfl fun hs hh => stp_fieldAddr (j := 0) Tryd.underlying53 rfl ts36 rfl (sv hs 11 rfl) rfl, lc rfl rfl fun hs hh => stp_loadN (us := [_, _]) ts36 (sv hs 103 rfl) (Cells.box (id := 3) (hh.get 3 _ rfl) 2 rfl), ?_, lc rfl rfl fun hs hh => stp_lss (sv hs 105 rfl) rfl, lM, lg rfl rfl 107 hy29 fun hs hh => stp_fieldAddr (j := 1) Tryd.underlying43 rfl ts41 rfl (sv hs 3 rfl) rfl, lg rfl rfl 107 hy29 fun hs hh => stp_load1 ts41 (sv hs 108 rfl) (Cells.box (id := 1) (hh.get 1 _ rfl) 1 rfl), lg rfl rfl 107 hy29 fun hs hh => stp_move (sv hs 10 rfl), lg rfl rfl 107 hy29 fun hs hh => stp_take Tryd.underlying41 ts53 (sv hs 109 rfl) rfl (sv hs 110 rfl) (Rdb.ro hr1_1) e30, lg rfl rfl 107 hy29 fun hs hh => stp_fieldAddr (j := 0) Tryd.underlying53 rfl ts36 rfl (sv hs 11 rfl) rfl, lg rfl rfl 107 hy29 fun hs hh => stp_loadN (us := [_, _]) ts36 (sv hs 112 rfl) (Cells.box (id := 3) (hh.get 3 _ rfl) 2 rfl), ?_, lg rfl rfl 107 hy29 fun hs hh => stp_geq (sv hs 114 rfl) rfl, lc rfl rfl fun hs hh => stp_pick_fB (sv hs 107 rfl) hy29 (sv hs 115 rfl) qy29, lM, lg rfl rfl 117 hy32 fun hs hh => stp_fieldAddr (j := 2) Tryd.underlying53 rfl ts3 rfl (sv hs 11 rfl) rfl, lg rfl rfl 117 hy32 fun hs hh => stp_load1 ts3 (sv hs 118 rfl) (Cells.box (id := 3) (hh.get 3 _ rfl) 1 rfl), lg rfl rfl 117 hy32 fun hs hh => stp_lss (sv hs 119 rfl) rfl, lc rfl rfl fun hs hh => stp_pick_fB (sv hs 117 rfl) hy32 (sv hs 120 rfl) qy32, lM, lg rfl rfl 122 hy33 fun hs hh => stp_fieldAddr (j := 2) Tryd.underlying53 rfl ts3 rfl (sv hs 11 rfl) rfl, lg rfl rfl 122 hy33 fun hs hh => stp_load1 ts3 (sv hs 123 rfl) (Cells.box (id := 3) (hh.get 3 _ rfl) 1 rfl), lg rfl rfl 122 hy33 fun hs hh => stp_fieldAddr (j := 1) Tryd.underlying26 rfl ts24 rfl (sv hs 2 rfl) rfl, lg rfl rfl 122 hy33 fun hs hh => stp_load1 ts24 (sv hs 125 rfl) (Cells.box (id := 0) (hh.get 0 _ rfl) 1 rfl), lg rfl rfl 122 hy33 fun hs hh => stp_len Tryd.underlying24 (sv hs 126 rfl), lg rfl rfl 122 hy33 fun hs hh => stp_geq (sv hs 124 rfl) (sv hs 127 rfl), lc rfl rfl fun hs hh => stp_pick_fB (sv hs 122 rfl) hy33 (sv hs 128 rfl) qy33, lM, lo rfl rfl 130 hy34, lo rfl rfl 130 hy34, lo rfl rfl 130 hy34, lo rfl rfl 130 hy34, lo rfl rfl 130 hy34, lo rfl rfl 130 hy34, lo rfl rfl 130 hy34, lc rfl rfl fun hs hh => stp_pick_tB (sv hs 130 rfl) hy34 rfl qy34, trivial⟩
      ·refine le rfl rfl (fun g hΦ s h hs hh => (stpU_call (fun i => 4 + i) cf37 (fun w hw => c_s_l8Find fl w a1.n x26.k rfl (RO.pass hr1_0 hw) x28 e28) (yB (sv hs 102 rfl) (sv hs 104 rfl)))) ?_
       rintro g _ _ ⟨_, ⟨rfl, rfl⟩, rfl⟩
       exact ⟨⟨[], [], []⟩, trivial, .inr rfl, rfl⟩
      refine loc_eff rfl rfl (fun g hΦ s h hs hh => ⟨(.some (gval_of rfl (sv hs 107 rfl)) hy29), (stpU_call (fun i => 4 + i) cf37 (fun w hw => c_s_l8Find fl w x30 x26.k rfl (RO.pass (RO.take hr1_1 e30) hw) x31 e31) (yB (sv hs 111 rfl) (sv hs 113 rfl)))⟩) ?_
      rintro g _ _ ⟨_, ⟨rfl, rfl⟩, rfl⟩
      exact ⟨⟨[], [], []⟩, trivial, .inr rfl, rfl⟩
     intro g hΦ
     exact kw_join () trivial ⟨rfl, rfl, rfl, rfl, trivial⟩ ⟨rfl, rfl, trivial⟩
    have ey34 := cond_f ey34 hy34
    obtain ⟨x35, e35, ey34⟩ := bS ey34
    have qy34 := sI ey34
    refine rdq g_mixed [2, 3, 10, 11] [0, 1, 3] { dst := dS [102, 103, 104, 105, 106, 107, 108, 109, 110, 111, 112, 113, 114, 115, 116, 117, 118, 119, 120, 121, 122, 123, 124, 125, 126, 127, 128, 129, 130, 131, 132, 133, 134, 135, 136, 137, 138, 139], pre := gA [] [[], [0], [], [2], rn 0 4, rn 0 5, rn 0 6, rn 0 7, rn 0 8, rn 0 7, rn 0 10, rn 0 7, [0, 1, 2, 3, 4, 5, 6, 11], rn 0 13, rn 0 14, rn 0 15, rn 0 16, rn 0 17, rn 0 18, rn 0 19, rn 0 20, rn 0 21, rn 0 22, rn 0 23, rn 0 22, [0, 1, 2, 3, 4, 5, 6, 7, 8, 9, 10, 11, 12, 13, 14, 15, 16, 17, 18, 19, 20, 21, 24], [0, 1, 2, 3, 4, 5, 6, 7, 8, 9, 10, 11, 12, 13, 14, 15, 16, 17, 18, 19, 20, 21, 24, 25], rn 0 27, rn 0 28, rn 0 29, rn 0 30, rn 0 31, rn 0 30, [0, 1, 2, 3, 4, 5, 6, 7, 8, 9, 10, 11, 12, 13, 14, 15, 16, 17, 18, 19, 20, 21, 22, 23, 24, 25, 26, 27, 28, 29, 32], rn 0 34, rn 0 35, rn 0 36, rn 0 37], ids := fun _ => [], rs := rL [[(3, 0)], [(101, 1)], [(11, 0)], [(103, 3)], [(102, 2), (104, 4)], [(105, 5)], [(106, 6)], [(3, 0), (107, 7)], [(108, 8), (107, 7)], [(10, 0), (107, 7)], [(109, 9), (110, 10), (107, 7)], [(11, 0), (107, 7)], [(112, 12), (107, 7)], [(111, 11), (113, 13), (107, 7)], [(114, 14), (107, 7)], [(107, 7), (115, 15)], [(116, 16)], [(11, 0), (117, 17)], [(118, 18), (117, 17)], [(119, 19), (117, 17)], [(117, 17), (120, 20)], [(121, 21)], [(11, 0), (122, 22)], [(123, 23), (122, 22)], [(2, 0), (122, 22)], [(125, 25), (122, 22)], [(126, 26), (122, 22)], [(124, 24), (127, 27), (122, 22)], [(122, 22), (128, 28)], [(129, 29)], [(2, 0), (130, 30)], [(131, 31), (130, 30)], [(11, 0), (130, 30)], [(133, 33), (130, 30)], [(132, 32), (134, 34), (130, 30)], [(135, 35), (130, 30)], [(136, 36), (130, 30)], [(130, 30), (137, 37)]], rh := rL [[], [(1, 0)], [], [(3, 0)], [], [], [], [], [(1, 0)], [], [], [], [(3, 0)], [], [], [], [], [], [(3, 0)], [], [], [], [], [(3, 0)], [], [(0, 0)], [], [], [], [], [], [(0, 0)], [], [(3, 0)]], V := fun i g => gA undef [.pointer (some ⟨b2, 0, none⟩), .slice p1_0 ((a1.n).length) c1_0, .pointer (some ⟨b27, 0, none⟩), .agg #[.int .i64 x26.k.s, .int .i64 x26.k.p], .int .i64 x28, .bool (decide (x28 < 0)), .bool (decide (x28 < 0)), .pointer (some ⟨b2, 1, none⟩), .slice p1_1 ((a1.w).length) c1_1, .int .i64 v24, .slice p1_1 ((x30).length) c1_1, .pointer (some ⟨b27, 0, none⟩), .agg #[.int .i64 x26.k.s, .int .i64 x26.k.p], .int .i64 x31, .bool (decide (0 ≤ x31)), .bool y29, .bool y29, .pointer (some ⟨b27, 2, none⟩), .int .i64 x26.fr, .bool (decide (x26.fr < 0)), .bool y32, .bool y32, .pointer (some ⟨b27, 2, none⟩), .int .i64 x26.fr, .pointer (some ⟨b1, 1, none⟩), .slice p0_1 ((a0.f).length) c0_1, .int .i64 ((a0.f).length : Int), .bool (decide (((a0.f).length : Int) ≤ x26.fr)), .bool y33, .bool y33, .pointer (some ⟨b1, 1, none⟩), .slice p0_1 ((a0.f).length) c0_1, .pointer (some ⟨b27, 2, none⟩), .int .i64 x26.fr, .pointer (some ⟨eB p0_1, eO p0_1 + Int.toNat x26.fr * Enc.sz F + 0, none⟩), .pointer (some ⟨eB p0_1, eO p0_1 + Int.toNat x26.fr * Enc.sz F + 0, none⟩), .bool x35.u, .bool y34] i, U := fun _ _ => [], Φ := fun _ _ => True } ?_ ?_
    ·refine ⟨lc rfl rfl fun hs hh => stp_fieldAddr (j := 0) Tryd.underlying43 rfl ts41 rfl (sv hs 3 rfl) rfl, lc rfl rfl fun hs hh => stp_load1 ts41 (sv hs 101 rfl) (Cells.box (id := 1) (hh.get 1 _ rfl) 1 rfl), lc rfl rfl fun hs hh => stp_fieldAddr (j := 0) Tryd.underlying53 rfl ts36 rfl (sv hs 11 rfl) rfl, lc rfl rfl fun hs hh => stp_loadN (us := [_, _]) ts36 (sv hs 103 rfl) (Cells.box (id := 3) (hh.get 3 _ rfl) 2 rfl), ?_, lc rfl rfl fun hs hh => stp_lss (sv hs 105 rfl) rfl, lM, lg rfl rfl 107 hy29 fun hs hh => stp_fieldAddr (j := 1) Tryd.underlying43 rfl ts41 rfl (sv hs 3 rfl) rfl, lg rfl rfl 107 hy29 fun hs hh => stp_load1 ts41 (sv hs 108 rfl) (Cells.box (id := 1) (hh.get 1 _ rfl) 1 rfl), lg rfl rfl 107 hy29 fun hs hh => stp_move (sv hs 10 rfl), lg rfl rfl 107 hy29 fun hs hh => stp_take Tryd.underlying41 ts53 (sv hs 109 rfl) rfl (sv hs 110 rfl) (Rdb.ro hr1_1) e30, lg rfl rfl 107 hy29 fun hs hh => stp_fieldAddr (j := 0) Tryd.underlying53 rfl ts36 rfl (sv hs 11 rfl) rfl, lg rfl rfl 107 hy29 fun hs hh => stp_loadN (us := [_, _]) ts36 (sv hs 112 rfl) (Cells.box (id := 3) (hh.get 3 _ rfl) 2 rfl), ?_, lg rfl rfl 107 hy29 fun hs hh => stp_geq (sv hs 114 rfl) rfl, lc rfl rfl fun hs hh => stp_pick_fB (sv hs 107 rfl) hy29 (sv hs 115 rfl) qy29, lM, lg rfl rfl 117 hy32 fun hs hh => stp_fieldAddr (j := 2) Tryd.underlying53 rfl ts3 rfl (sv hs 11 rfl) rfl, lg rfl rfl 117 hy32 fun hs hh => stp_load1 ts3 (sv hs 118 rfl) (Cells.box (id := 3) (hh.get 3 _ rfl) 1 rfl), lg rfl rfl 117 hy32 fun hs hh => stp_lss (sv hs 119 rfl) rfl, lc rfl rfl fun hs hh => stp_pick_fB (sv hs 117 rfl) hy32 (sv hs 120 rfl) qy32, lM, lg rfl rfl 122 hy33 fun hs hh => stp_fieldAddr (j := 2) Tryd.underlying53 rfl ts3 rfl (sv hs 11 rfl) rfl, lg rfl rfl 122 hy33 fun hs hh => stp_load1 ts3 (sv hs 123 rfl) (Cells.box (id := 3) (hh.get 3 _ rfl) 1 rfl), lg rfl rfl 122 hy33 fun hs hh => stp_fieldAddr (j := 1) Tryd.underlying26 rfl ts24 rfl (sv hs 2 rfl) rfl, lg rfl rfl 122 hy33 fun hs hh => stp_load1 ts24 (sv hs 125 rfl) (Cells.box (id := 0) (hh.get 0 _ rfl) 1 rfl), lg rfl rfl 122 hy33 fun hs hh => stp_len Tryd.underlying24 (sv hs 126 rfl), lg rfl rfl 122 hy33 fun hs hh => stp_geq (sv hs 124 rfl) (sv hs 127 rfl), lc rfl rfl fun hs hh => stp_pick_fB (sv hs 122 rfl) hy33 (sv hs 128 rfl) qy33, lM, lg rfl rfl 130 hy34 fun hs hh => stp_fieldAddr (j := 1) Tryd.underlying26 rfl ts24 rfl (sv hs 2 rfl) rfl, lg rfl rfl 130 hy34 fun hs hh => stp_load1 ts24 (sv hs 131 rfl) (Cells.box (id := 0) (hh.get 0 _ rfl) 1 rfl), lg rfl rfl 130 hy34 fun hs hh => stp_fieldAddr (j := 2) Tryd.underlying53 rfl ts3 rfl (sv hs 11 rfl) rfl, lg rfl rfl 130 hy34 fun hs hh => stp_load1 ts3 (sv hs 133 rfl) (Cells.box (id := 3) (hh.get 3 _ rfl) 1 rfl), lg rfl rfl 130 hy34 fun hs hh => stp_indexAddr Tryd.underlying24 ts61 (by decide) (sv hs 132 rfl) rfl (sv hs 134 rfl) (Rdb.ro hr0_1) e35, lg rfl rfl 130 hy34 fun hs hh => stp_fieldAddr (j := 0) Tryd.underlying61 rfl ts4 rfl (sv hs 135 rfl) rfl, lg rfl rfl 130 hy34 fun hs hh => stp_load1 ts4 (sv hs 136 rfl) (Cells.el (Rdb.ro hr0_1) (by decide) e35 0 1 rfl), lc rfl rfl fun hs hh => stp_pick_fB (sv hs 130 rfl) hy34 (sv hs 137 rfl) qy34, trivial⟩
     ·refine le rfl rfl (fun g hΦ s h hs hh => (stpU_call (fun i => 4 + i) cf37 (fun w hw => c_s_l8Find fl w a1.n x26.k rfl (RO.pass hr1_0 hw) x28 e28) (yB (sv hs 102 rfl) (sv hs 104 rfl)))) ?_
      rintro g _ _ ⟨_, ⟨rfl, rfl⟩, rfl⟩
      exact ⟨⟨[], [], []⟩, trivial, .inr rfl, rfl⟩
     refine loc_eff rfl rfl (fun g hΦ s h hs hh => ⟨(.some (gval_of rfl (sv hs 107 rfl)) hy29), (stpU_call (fun i => 4 + i) cf37 (fun w hw => c_s_l8Find fl w x30 x26.k rfl (RO.pass (RO.take hr1_1 e30) hw) x31 e31) (yB (sv hs 111 rfl) (sv hs 113 rfl)))⟩) ?_
     rintro g _ _ ⟨_, ⟨rfl, rfl⟩, rfl⟩
     exact ⟨⟨[], [], []⟩, trivial, .inr rfl, rfl⟩
    intro g hΦ
    exact kw_join () trivial ⟨rfl, rfl, rfl, rfl, trivial⟩ ⟨rfl, rfl, trivial⟩
   rintro _ -
   dsimp only
   refine kw_nx (cw_cond rfl (fun h36 => ?_) (fun h36 => ?_))
   ·have H1 := cond_t H1 h36
    refine sr (oS rfl (nn (cw_ret (kw_bl_ret (kw_nx_ret (kw_lq_ret (kw_bl_ret (kw_join_ret (kw_nx_ret ?_)))))))))
    obtain rfl := sI H1
    obtain rfl := sI H0
    exact kr Tryd.results79 (rT rfl) [] ⟨rfl, rfl⟩
   have H1 := cond_f H1 h36
   obtain ⟨x37, e37, H1⟩ := bS H1
   exact cw_skip (kw_bl_normal (kw_nx (cw_region (oM rfl (oP e37 rfl (oS rfl (ow_nil (kw_lqS (js := [0, 1]) (fuel, x37) H1 (Nat.lt_succ_self _) ⟨rfl, rfl, rfl, trivial⟩ ⟨0, [1], rfl, rfl, 1, [], rfl, rfl, trivial⟩ (by decide)))))))))
  have H1 := cond_f H1 h25
  refine cw_exit (kw_nx_exit (kw_lq_exit (kw_bl ?_)))
  obtain rfl := sI H1
  exact kw_joinS (js := [0, 1]) v24 rfl ⟨rfl, rfl, rfl, trivial⟩ ⟨0, [1], rfl, rfl, 1, [], rfl, rfl, trivial⟩ (by decide)
 rintro v24 rfl
 dsimp only
 refine kw_nx (sr (oS rfl (nn (cw_ret ?_))))
 obtain rfl := sI H0
 exact kr Tryd.results79 (rT rfl) [] ⟨rfl, rfl⟩

theorem c_s_SystemValid (fl : Nat) (w : World) (a0 : Sy) (hn0_0 : n0_0 = (a0.t.b).length) (hr0_0 : RO w (hkeys []) (RdL p0_0 c0_0 a0.t.b)) (hn0_1 : n0_1 = (a0.t.f).length) (hr0_1 : RO w (hkeys []) (RdL p0_1 c0_1 a0.t.f)) (hn0_2 : n0_2 = (a0.c).length) (hr0_2 : ROD w (hkeys []) p0_2 c0_2 a0.c) (r : Bool) (H0 : s_SystemValid fl a0 = some r) :
  Ct Tryd.prog 62 [.agg #[.slice p0_0 n0_0 c0_0, .slice p0_1 n0_1 c0_1, .slice p0_2 n0_2 c0_2]] w [] (fun rv h' => rv = .bool r ∧ h' = []) := by
 subst hn0_0 hn0_1 hn0_2
 unfold s_SystemValid at H0
 refine ct_of_cw Tryd.func62 rfl Tryd.ntmps62 rfl (Sat.refl _ _) ?_
 refine sr (oE (stpU_box 0 rfl rfl) rfl ?_)
 rintro _ _ ⟨b1, rfl, rfl⟩
 obtain ⟨x2, e2, H0⟩ := bS H0
 refine oS rfl (nn (cw_seq (sr (oA 0 Tryd.underlying29 rfl ts26 rfl (oB2 0 ts26 rfl (oE (stpU_call (fun i => 1 + i) cf71 (fun w hw => c_s_TableValid fl w a0.t rfl (RO.pass hr0_0 hw) rfl (RO.pass hr0_1 hw) x2 e2) (yA rfl)) rfl ?_))))))
 rintro _ _ ⟨_, ⟨rfl, rfl⟩, rfl⟩
 obtain ⟨y3, ey3, H0⟩ := bS H0
 refine oK rfl (oM rfl (ow_cutY 5 13 y3 ?_ ?_))
 ·rcases Bool.eq_false_or_eq_true (!x2) with hy3 | hy3
  ·have ey3 := cond_t ey3 hy3
   refine oO rfl hy3 rfl (oO rfl hy3 rfl (oO rfl hy3 rfl (oO rfl hy3 rfl (oD (stp_pick_t rfl hy3 rfl) rfl ?_))))
   obtain rfl := sI ey3
   exact ow_nil (jy 5 0)
  have ey3 := cond_f ey3 hy3
  refine oG rfl hy3 (fA 2 Tryd.underlying29 rfl ts27 rfl rfl rfl) rfl (oG rfl hy3 (lB 0 ts27 rfl rfl rfl) rfl (oG rfl hy3 (stp_len Tryd.underlying27 rfl) rfl (oG rfl hy3 (stp_lss rfl rfl) rfl (oD (stp_pick_f rfl hy3 rfl) rfl ?_))))
  obtain rfl := sI ey3
  exact ow_nil (jy 5 0)
 obtain ⟨y4, ey4, H0⟩ := bS H0
 refine oM rfl (ow_cutY 5 19 y4 ?_ ?_)
 ·rcases Bool.eq_false_or_eq_true y3 with hy4 | hy4
  ·have ey4 := cond_t ey4 hy4
   refine oO rfl hy4 rfl (oO rfl hy4 rfl (oO rfl hy4 rfl (oO rfl hy4 rfl (oD (stp_pick_t rfl hy4 rfl) rfl ?_))))
   obtain rfl := sI ey4
   exact ow_nil (jy 5 0)
  have ey4 := cond_f ey4 hy4
  refine oG rfl hy4 (fA 2 Tryd.underlying29 rfl ts27 rfl rfl rfl) rfl (oG rfl hy4 (lB 0 ts27 rfl rfl rfl) rfl (oG rfl hy4 (stp_len Tryd.underlying27 rfl) rfl (oG rfl hy4 (stp_gtr rfl rfl) rfl (oD (stp_pick_f rfl hy4 rfl) rfl ?_))))
  obtain rfl := sI ey4
  exact ow_nil (jy 5 0)
 refine ow_nil (kw_nx (cw_cond rfl (fun h5 => ?_) (fun h5 => ?_)))
 ·have H0 := cond_t H0 h5
  refine sr (oS rfl (nn (cw_ret (kw_nx_ret ?_))))
  obtain rfl := sI H0
  exact kr Tryd.results62 (rT rfl) [] ⟨rfl, rfl⟩
 have H0 := cond_f H0 h5
 obtain ⟨o0_0, eo0_0, H0⟩ := bS H0
 refine cw_skip (kw_nx (cw_seq (sr (oS rfl (nn (cw_join (ι := Int) (fun | v6 => o0_0 = .out v6) (fun | v6 => [(1, .pointer (some ⟨b1, 0, none⟩)), (3, .int .i64 v6)]) (fun | v6 => [(0, [(b1, .cells #[.slice p0_0 ((a0.t.b).length) c0_0, .slice p0_1 ((a0.t.f).length) c0_1, .slice p0_2 ((a0.c).length) c0_2] 29 (0, 0))])]) ?_ ?_))))))
 ·refine cw_block (cw_loopS (ι := Nat × Int) (js := [0]) (fun x => x.1) (fun | (fuel, v6) => s_SystemValid_L0 fl a0 fuel v6 = some o0_0) (fun | (_, v6) => [(1, .pointer (some ⟨b1, 0, none⟩)), (3, .int .i64 v6)]) (fun | (_, v6) => [(0, [(b1, .cells #[.slice p0_0 ((a0.t.b).length) c0_0, .slice p0_1 ((a0.t.f).length) c0_1, .slice p0_2 ((a0.c).length) c0_2] 29 (0, 0))])]) (fl, 0) eo0_0 ⟨rfl, rfl, trivial⟩ ⟨0, [], rfl, rfl, trivial⟩ (by decide) ?_)
  rintro ⟨fuel, v6⟩ H1
  have H1 : s_SystemValid_L0 fl a0 fuel v6 = some o0_0 := H1
  rcases fuel with _ | fuel
  ·rw [s_SystemValid_L0.eq_1] at H1; cases H1
  rw [s_SystemValid_L0.eq_2] at H1
  dsimp only
  refine cw_seq (sr (oM rfl (oA 2 Tryd.underlying29 rfl ts27 rfl (oL 0 ts27 rfl (oD (stp_len Tryd.underlying27 rfl) rfl (oW rfl (nn (cw_cond rfl (fun h7 => ?_) (fun h7 => ?_)))))))))
  ·have H1 := cond_t H1 h7
   obtain ⟨x8, e8, H1⟩ := bS H1
   refine cw_skip (kw_nx (cw_seq (cw_block (cw_seq ?_))))
   obtain ⟨u9, p10, n11, c12, p13, n14, c15, hw9, hl9, hx9, rfl, hr9, rfl, hs9⟩ := ROD.get hr0_2 e8
   obtain ⟨x16, e16, H1⟩ := bS H1
   refine rdq g_mixed [1, 3] [0] { dst := dS [28, 29, 30, 31, 32, 33, 34, 35, 36], pre := gA [] [[], [0], [], [2], [], [2, 3, 4], rn 2 4, rn 0 7, rn 0 8], ids := fun _ => [], rs := rL [[(1, 0)], [(27, 1)], [(1, 0)], [(29, 3)], [(3, 0)], [(30, 4), (31, 5)], [(32, 6)], [(28, 2), (33, 7)], [(34, 8)]], rh := rL [[], [(0, 0)], [], [(0, 0)]], V := fun i g => gA undef [.pointer (some ⟨b1, 0, none⟩), .agg #[.slice p0_0 ((a0.t.b).length) c0_0, .slice p0_1 ((a0.t.f).length) c0_1], .pointer (some ⟨b1, 2, none⟩), .slice p0_2 ((a0.c).length) c0_2, .int .i64 v6, .pointer (some ⟨eB p0_2, eO p0_2 + Int.toNat v6 * Enc.sz CpS + 0, none⟩), .agg #[.slice p10 ((x8.n).length) c12, .slice p13 ((x8.w).length) c15], .bool x16, .bool (!x16)] i, U := fun _ _ => [], Φ := fun _ _ => True } ?_ ?_
   ·refine ⟨lc rfl rfl fun hs hh => stp_fieldAddr (j := 0) Tryd.underlying29 rfl ts26 rfl (sv hs 1 rfl) rfl, lc rfl rfl fun hs hh => stp_loadN (us := [_, _]) ts26 (sv hs 27 rfl) (Cells.box (id := 0) (hh.get 0 _ rfl) 2 rfl), lc rfl rfl fun hs hh => stp_fieldAddr (j := 2) Tryd.underlying29 rfl ts27 rfl (sv hs 1 rfl) rfl, lc rfl rfl fun hs hh => stp_load1 ts27 (sv hs 29 rfl) (Cells.box (id := 0) (hh.get 0 _ rfl) 1 rfl), lM, lc rfl rfl fun hs hh => stp_indexAddr Tryd.underlying27 ts43 (by decide) (sv hs 30 rfl) hl9 (sv hs 31 rfl) (Rdb.ro hw9) hx9, lc rfl rfl fun hs hh => stp_loadN (us := [_, _]) ts43 (sv hs 32 rfl) (Cells.el (Rdb.ro hw9) (by decide) hx9 0 2 rfl), ?_, lc rfl rfl fun hs hh => stp_not (sv hs 34 rfl), trivial⟩
    refine le rfl rfl (fun g hΦ s h hs hh => (stpU_call (fun i => 1 + i) cf79 (fun w hw => c_s_l8Cpu fl w a0.t x8 rfl (RO.pass hr0_0 hw) rfl (RO.pass hr0_1 hw) rfl (RO.pass hr9 hw) rfl (RO.pass hs9 hw) x16 e16) (yB (sv hs 28 rfl) (sv hs 33 rfl)))) ?_
    rintro g _ _ ⟨_, ⟨rfl, rfl⟩, rfl⟩
    exact ⟨⟨[], [], []⟩, trivial, .inr rfl, rfl⟩
   intro g hΦ
   refine KW.sub (s' := [(1, .pointer (some ⟨b1, 0, none⟩)), (3, .int .i64 v6), (35, .bool (!x16))]) (h' := [(0, [(b1, .cells #[.slice p0_0 ((a0.t.b).length) c0_0, .slice p0_1 ((a0.t.f).length) c0_1, .slice p0_2 ((a0.c).length) c0_2] 29 (0, 0))])]) ?_ ⟨rfl, rfl, rfl, trivial⟩ ⟨rfl, trivial⟩
   refine kw_nx (cw_cond rfl (fun h17 => ?_) (fun h17 => ?_))
   ·have H1 := cond_t H1 h17
    refine sr (oS rfl (nn (cw_ret (kw_bl_ret (kw_nx_ret (kw_lq_ret (kw_bl_ret (kw_join_ret (kw_nx_ret ?_)))))))))
    obtain rfl := sI H1
    obtain rfl := sI H0
    exact kr Tryd.results62 (rT rfl) [] ⟨rfl, rfl⟩
   have H1 := cond_f H1 h17
   obtain ⟨x18, e18, H1⟩ := bS H1
   exact cw_skip (kw_bl_normal (kw_nx (cw_region (oM rfl (oP e18 rfl (oS rfl (ow_nil (kw_lqS (js := [0]) (fuel, x18) H1 (Nat.lt_succ_self _) ⟨rfl, rfl, trivial⟩ ⟨0, [], rfl, rfl, trivial⟩ (by decide)))))))))
  have H1 := cond_f H1 h7
  refine cw_exit (kw_nx_exit (kw_lq_exit (kw_bl ?_)))
  obtain rfl := sI H1
  exact kw_joinS (js := [0]) v6 rfl ⟨rfl, rfl, trivial⟩ ⟨0, [], rfl, rfl, trivial⟩ (by decide)
 rintro v6 rfl
 dsimp only
 refine kw_nx (sr (oS rfl (nn (cw_ret ?_))))
 obtain rfl := sI H0
 exact kr Tryd.results62 (rT rfl) [] ⟨rfl, rfl⟩

theorem c_s_l8Held (fl : Nat) (w : World) (a0 : Sy) (a1 : Int) (a2 : K) (hn0_0 : n0_0 = (a0.t.b).length) (hr0_0 : RO w (hkeys []) (RdL p0_0 c0_0 a0.t.b)) (hn0_1 : n0_1 = (a0.t.f).length) (hr0_1 : RO w (hkeys []) (RdL p0_1 c0_1 a0.t.f)) (hn0_2 : n0_2 = (a0.c).length) (hr0_2 : ROD w (hkeys []) p0_2 c0_2 a0.c) (r : Bool) (H0 : s_l8Held fl a0 a1 a2 = some r) :
  Ct Tryd.prog 69 [.agg #[.slice p0_0 n0_0 c0_0, .slice p0_1 n0_1 c0_1, .slice p0_2 n0_2 c0_2], .int .i64 a1, .agg #[.int .i64 a2.s, .int .i64 a2.p]] w [] (fun rv h' => rv = .bool r ∧ h' = []) := by
 subst hn0_0 hn0_1 hn0_2
 unfold s_l8Held at H0
 refine ct_of_cw Tryd.func69 rfl Tryd.ntmps69 rfl (Sat.refl _ _) ?_
 refine sr (oE (stpU_box 0 rfl rfl) rfl ?_)
 rintro _ _ ⟨b1, rfl, rfl⟩
 refine oE (stpU_box 1 rfl rfl) rfl ?_
 rintro _ _ ⟨b2, rfl, rfl⟩
 obtain ⟨o0_0, eo0_0, H0⟩ := bS H0
 refine oS rfl (nn (cw_seq (sr (oS rfl (nn (cw_join (ι := Int) (fun | v3 => o0_0 = .out v3) (fun | v3 => [(1, .int .i64 a1), (3, .pointer (some ⟨b1, 0, none⟩)), (5, .pointer (some ⟨b2, 0, none⟩)), (7, .int .i64 v3)]) (fun | v3 => [(0, [(b1, .cells #[.slice p0_0 ((a0.t.b).length) c0_0, .slice p0_1 ((a0.t.f).length) c0_1, .slice p0_2 ((a0.c).length) c0_2] 29 (0, 0))]), (1, [(b2, .cells #[.int .i64 a2.s, .int .i64 a2.p] 36 (0, 0))])]) ?_ ?_))))))
 ·refine cw_block (cw_loopS (ι := Nat × Int) (js := [0, 1]) (fun x => x.1) (fun | (fuel, v3) => s_l8Held_L0 fl a0 a1 a2 fuel v3 = some o0_0) (fun | (_, v3) => [(1, .int .i64 a1), (3, .pointer (some ⟨b1, 0, none⟩)), (5, .pointer (some ⟨b2, 0, none⟩)), (7, .int .i64 v3)]) (fun | (_, v3) => [(0, [(b1, .cells #[.slice p0_0 ((a0.t.b).length) c0_0, .slice p0_1 ((a0.t.f).length) c0_1, .slice p0_2 ((a0.c).length) c0_2] 29 (0, 0))]), (1, [(b2, .cells #[.int .i64 a2.s, .int .i64 a2.p] 36 (0, 0))])]) (fl, 0) eo0_0 ⟨rfl, rfl, rfl, rfl, trivial⟩ ⟨0, [1], rfl, rfl, 1, [], rfl, rfl, trivial⟩ (by decide) ?_)
  rintro ⟨fuel, v3⟩ H1
  have H1 : s_l8Held_L0 fl a0 a1 a2 fuel v3 = some o0_0 := H1
  rcases fuel with _ | fuel
  ·rw [s_l8Held_L0.eq_1] at H1; cases H1
  rw [s_l8Held_L0.eq_2] at H1
  dsimp only
  refine cw_seq (sr (oM rfl (oA 2 Tryd.underlying29 rfl ts27 rfl (oL 0 ts27 rfl (oD (stp_len Tryd.underlying27 rfl) rfl (oW rfl (nn (cw_cond rfl (fun h4 => ?_) (fun h4 => ?_)))))))))
  ·have H1 := cond_t H1 h4
   obtain ⟨o1_1, eo1_1, H1⟩ := bS H1
   refine cw_skip (kw_nx (cw_seq (cw_block (sr (oS rfl (nn (cw_join (ι := Int) (fun | v5 => o1_1 = .out v5) (fun | v5 => [(1, .int .i64 a1), (3, .pointer (some ⟨b1, 0, none⟩)), (5, .pointer (some ⟨b2, 0, none⟩)), (7, .int .i64 v3), (8, .int .i64 v5)]) (fun | v5 => [(0, [(b1, .cells #[.slice p0_0 ((a0.t.b).length) c0_0, .slice p0_1 ((a0.t.f).length) c0_1, .slice p0_2 ((a0.c).length) c0_2] 29 (0, 0))]), (1, [(b2, .cells #[.int .i64 a2.s, .int .i64 a2.p] 36 (0, 0))])]) ?_ ?_)))))))
   ·refine cw_block (cw_loopS (ι := Nat × Int) (js := [0, 1]) (fun x => x.1) (fun | (fuel, v5) => s_l8Held_L1 fl a0 a1 a2 v3 fuel v5 = some o1_1) (fun | (_, v5) => [(1, .int .i64 a1), (3, .pointer (some ⟨b1, 0, none⟩)), (5, .pointer (some ⟨b2, 0, none⟩)), (7, .int .i64 v3), (8, .int .i64 v5)]) (fun | (_, v5) => [(0, [(b1, .cells #[.slice p0_0 ((a0.t.b).length) c0_0, .slice p0_1 ((a0.t.f).length) c0_1, .slice p0_2 ((a0.c).length) c0_2] 29 (0, 0))]), (1, [(b2, .cells #[.int .i64 a2.s, .int .i64 a2.p] 36 (0, 0))])]) (fl, 0) eo1_1 ⟨rfl, rfl, rfl, rfl, rfl, trivial⟩ ⟨0, [1], rfl, rfl, 1, [], rfl, rfl, trivial⟩ (by decide) ?_)
    rintro ⟨fuel, v5⟩ H2
    have H2 : s_l8Held_L1 fl a0 a1 a2 v3 fuel v5 = some o1_1 := H2
    rcases fuel with _ | fuel
    ·rw [s_l8Held_L1.eq_1] at H2; cases H2
    rw [s_l8Held_L1.eq_2] at H2
    dsimp only
    obtain ⟨x6, e6, H2⟩ := bS H2
    refine cw_seq (sr (oM rfl (oA 2 Tryd.underlying29 rfl ts27 rfl (oL 0 ts27 rfl (oM rfl ?_)))))
    obtain ⟨u7, p8, n9, c10, p11, n12, c13, hw7, hl7, hx7, rfl, hr7, rfl, hs7⟩ := ROD.get hr0_2 e6
    refine oD (stp_indexAddr Tryd.underlying27 ts43 (by decide) rfl hl7 rfl (Rdb.ro hw7) hx7) rfl (oA 1 Tryd.underlying43 rfl ts41 rfl (oD (stp_load1 ts41 rfl (Cells.el (Rdb.ro hw7) (by decide) hx7 1 1 rfl)) rfl (oD (stp_len Tryd.underlying41 rfl) rfl (oW rfl (nn (cw_cond rfl (fun h14 => ?_) (fun h14 => ?_)))))))
    ·have H2 := cond_t H2 h14
     obtain ⟨x15, e15, H2⟩ := bS H2
     obtain ⟨y16, ey16, H2⟩ := bS H2
     refine cw_skip (kw_nx (cw_seq (cw_block (cw_seq (cw_join (ι := Unit) (fun | _ => True) (fun | _ => [(1, .int .i64 a1), (3, .pointer (some ⟨b1, 0, none⟩)), (5, .pointer (some ⟨b2, 0, none⟩)), (7, .int .i64 v3), (8, .int .i64 v5), (52, .bool y16)]) (fun | _ => [(0, [(b1, .cells #[.slice p0_0 ((a0.t.b).length) c0_0, .slice p0_1 ((a0.t.f).length) c0_1, .slice p0_2 ((a0.c).length) c0_2] 29 (0, 0))]), (1, [(b2, .cells #[.int .i64 a2.s, .int .i64 a2.p] 36 (0, 0))])]) ?_ ?_)))))
     ·rcases Bool.eq_false_or_eq_true (x15.fr == a1) with hy16 | hy16
      ·have ey16 := cond_t ey16 hy16
       have qy16 := sI ey16
       refine rdq g_mixed [1, 3, 7, 8] [0] { dst := dS [28, 29, 30, 31, 32, 33, 34, 35, 36, 37, 38, 39, 40, 41, 42, 43, 44, 45, 46, 47, 48, 49, 50, 51, 52, 53], pre := gA [] [[], [0], [], [0, 1, 2], rn 0 4, rn 0 5, [], rn 0 7, rn 0 8, rn 0 9, [], rn 0 11, rn 0 12, rn 0 13, rn 0 14, rn 0 13, rn 0 16, rn 0 17, rn 0 18, rn 0 13, rn 0 20, rn 0 21, rn 0 22, rn 0 13, rn 0 24, rn 0 25], ids := fun _ => [], rs := rL [[(3, 0)], [(27, 1)], [(7, 0)], [(28, 2), (29, 3)], [(30, 4)], [(31, 5)], [(8, 0)], [(32, 6), (33, 7)], [(34, 8)], [(35, 9)], [(1, 0)], [(36, 10), (37, 11)], [(38, 12)], [(39, 13)], [(39, 13)], [(39, 13)], [(39, 13)], [(39, 13)], [(39, 13)], [(39, 13)], [(39, 13)], [(39, 13)], [(39, 13)], [(39, 13)], [(39, 13)], [(39, 13), (51, 25)]], rh := rL [[], [(0, 0)]], V := fun i g => gA undef [.pointer (some ⟨b1, 2, none⟩), .slice p0_2 ((a0.c).length) c0_2, .int .i64 v3, .pointer (some ⟨eB p0_2, eO p0_2 + Int.toNat v3 * Enc.sz CpS + 0, none⟩), .pointer (some ⟨eB p0_2, eO p0_2 + Int.toNat v3 * Enc.sz CpS + 1, none⟩), .slice p11 ((x6.w).length) c13, .int .i64 v5, .pointer (some ⟨eB p11, eO p11 + Int.toNat v5 * Enc.sz Nt + 0, none⟩), .pointer (some ⟨eB p11, eO p11 + Int.toNat v5 * Enc.sz Nt + 2, none⟩), .int .i64 x15.fr, .int .i64 a1, .bool (x15.fr == a1), .bool (x15.fr == a1), undef, undef, undef, undef, undef, undef, undef, undef, undef, undef, undef, undef, .bool y16] i, U := fun _ _ => [], Φ := fun _ _ => True } ?_ ?_
       ·exact ⟨lc rfl rfl fun hs hh => stp_fieldAddr (j := 2) Tryd.underlying29 rfl ts27 rfl (sv hs 3 rfl) rfl, lc rfl rfl fun hs hh => stp_load1 ts27 (sv hs 27 rfl) (Cells.box (id := 0) (hh.get 0 _ rfl) 1 rfl), lM, lc rfl rfl fun hs hh => stp_indexAddr Tryd.underlying27 ts43 (by decide) (sv hs 28 rfl) hl7 (sv hs 29 rfl) (Rdb.ro hw7) hx7, lc rfl rfl fun hs hh => stp_fieldAddr (j := 1) Tryd.underlying43 rfl ts41 rfl (sv hs 30 rfl) rfl, lc rfl rfl fun hs hh => stp_load1 ts41 (sv hs 31 rfl) (Cells.el (Rdb.ro hw7) (by decide) hx7 1 1 rfl), lM, lc rfl rfl fun hs hh => stp_indexAddr Tryd.underlying41 ts53 (by decide) (sv hs 32 rfl) rfl (sv hs 33 rfl) (Rdb.ro hs7) e15, lc rfl rfl fun hs hh => stp_fieldAddr (j := 2) Tryd.underlying53 rfl ts3 rfl (sv hs 34 rfl) rfl, lc rfl rfl fun hs hh => stp_load1 ts3 (sv hs 35 rfl) (Cells.el (Rdb.ro hs7) (by decide) e15 2 1 rfl), lM, lc rfl rfl fun hs hh => stp_eql (sv hs 36 rfl) (sv hs 37 rfl), lM, lo rfl rfl 39 hy16, lo rfl rfl 39 hy16, lo rfl rfl 39 hy16, lo rfl rfl 39 hy16, lo rfl rfl 39 hy16, lo rfl rfl 39 hy16, lo rfl rfl 39 hy16, lo rfl rfl 39 hy16, lo rfl rfl 39 hy16, lo rfl rfl 39 hy16, lo rfl rfl 39 hy16, lo rfl rfl 39 hy16, lc rfl rfl fun hs hh => stp_pick_tB (sv hs 39 rfl) hy16 rfl qy16, trivial⟩
       intro g hΦ
       exact kw_join () trivial ⟨rfl, rfl, rfl, rfl, rfl, rfl, trivial⟩ ⟨rfl, rfl, trivial⟩
      have ey16 := cond_f ey16 hy16
      have qy16 := sI ey16
      refine rdq g_mixed [1, 3, 5, 7, 8] [0, 1] { dst := dS [28, 29, 30, 31, 32, 33, 34, 35, 36, 37, 38, 39, 40, 41, 42, 43, 44, 45, 46, 47, 48, 49, 50, 51, 52, 53], pre := gA [] [[], [0], [], [0, 1, 2], rn 0 4, rn 0 5, [], rn 0 7, rn 0 8, rn 0 9, [], rn 0 11, rn 0 12, rn 0 13, rn 0 14, rn 0 13, rn 0 16, rn 0 17, rn 0 18, rn 0 13, rn 0 20, rn 0 21, rn 0 22, rn 0 13, rn 0 24, rn 0 25], ids := fun _ => [], rs := rL [[(3, 0)], [(27, 1)], [(7, 0)], [(28, 2), (29, 3)], [(30, 4)], [(31, 5)], [(8, 0)], [(32, 6), (33, 7)], [(34, 8)], [(35, 9)], [(1, 0)], [(36, 10), (37, 11)], [(38, 12)], [(3, 0), (39, 13)], [(40, 14), (39, 13)], [(7, 0), (39, 13)], [(41, 15), (42, 16), (39, 13)], [(43, 17), (39, 13)], [(44, 18), (39, 13)], [(8, 0), (39, 13)], [(45, 19), (46, 20), (39, 13)], [(47, 21), (39, 13)], [(48, 22), (39, 13)], [(5, 0), (39, 13)], [(49, 23), (50, 24), (39, 13)], [(39, 13), (51, 25)]], rh := rL [[], [(0, 0)], [], [], [], [], [], [], [], [], [], [], [], [], [(0, 0)], [], [], [], [], [], [], [], [], [(1, 0)]], V := fun i g => gA undef [.pointer (some ⟨b1, 2, none⟩), .slice p0_2 ((a0.c).length) c0_2, .int .i64 v3, .pointer (some ⟨eB p0_2, eO p0_2 + Int.toNat v3 * Enc.sz CpS + 0, none⟩), .pointer (some ⟨eB p0_2, eO p0_2 + Int.toNat v3 * Enc.sz CpS + 1, none⟩), .slice p11 ((x6.w).length) c13, .int .i64 v5, .pointer (some ⟨eB p11, eO p11 + Int.toNat v5 * Enc.sz Nt + 0, none⟩), .pointer (some ⟨eB p11, eO p11 + Int.toNat v5 * Enc.sz Nt + 2, none⟩), .int .i64 x15.fr, .int .i64 a1, .bool (x15.fr == a1), .bool (x15.fr == a1), .pointer (some ⟨b1, 2, none⟩), .slice p0_2 ((a0.c).length) c0_2, .int .i64 v3, .pointer (some ⟨eB p0_2, eO p0_2 + Int.toNat v3 * Enc.sz CpS + 0, none⟩), .pointer (some ⟨eB p0_2, eO p0_2 + Int.toNat v3 * Enc.sz CpS + 1, none⟩), .slice p11 ((x6.w).length) c13, .int .i64 v5, .pointer (some ⟨eB p11, eO p11 + Int.toNat v5 * Enc.sz Nt + 0, none⟩), .pointer (some ⟨eB p11, eO p11 + Int.toNat v5 * Enc.sz Nt + 0, none⟩), .agg #[.int .i64 x15.k.s, .int .i64 x15.k.p], .agg #[.int .i64 a2.s, .int .i64 a2.p], .bool (x15.k == a2), .bool y16] i, U := fun _ _ => [], Φ := fun _ _ => True } ?_ ?_
      ·exact ⟨lc rfl rfl fun hs hh => stp_fieldAddr (j := 2) Tryd.underlying29 rfl ts27 rfl (sv hs 3 rfl) rfl, lc rfl rfl fun hs hh => stp_load1 ts27 (sv hs 27 rfl) (Cells.box (id := 0) (hh.get 0 _ rfl) 1 rfl), lM, lc rfl rfl fun hs hh => stp_indexAddr Tryd.underlying27 ts43 (by decide) (sv hs 28 rfl) hl7 (sv hs 29 rfl) (Rdb.ro hw7) hx7, lc rfl rfl fun hs hh => stp_fieldAddr (j := 1) Tryd.underlying43 rfl ts41 rfl (sv hs 30 rfl) rfl, lc rfl rfl fun hs hh => stp_load1 ts41 (sv hs 31 rfl) (Cells.el (Rdb.ro hw7) (by decide) hx7 1 1 rfl), lM, lc rfl rfl fun hs hh => stp_indexAddr Tryd.underlying41 ts53 (by decide) (sv hs 32 rfl) rfl (sv hs 33 rfl) (Rdb.ro hs7) e15, lc rfl rfl fun hs hh => stp_fieldAddr (j := 2) Tryd.underlying53 rfl ts3 rfl (sv hs 34 rfl) rfl, lc rfl rfl fun hs hh => stp_load1 ts3 (sv hs 35 rfl) (Cells.el (Rdb.ro hs7) (by decide) e15 2 1 rfl), lM, lc rfl rfl fun hs hh => stp_eql (sv hs 36 rfl) (sv hs 37 rfl), lM, lg rfl rfl 39 hy16 fun hs hh => stp_fieldAddr (j := 2) Tryd.underlying29 rfl ts27 rfl (sv hs 3 rfl) rfl, lg rfl rfl 39 hy16 fun hs hh => stp_load1 ts27 (sv hs 40 rfl) (Cells.box (id := 0) (hh.get 0 _ rfl) 1 rfl), lg rfl rfl 39 hy16 fun hs hh => stp_move (sv hs 7 rfl), lg rfl rfl 39 hy16 fun hs hh => stp_indexAddr Tryd.underlying27 ts43 (by decide) (sv hs 41 rfl) hl7 (sv hs 42 rfl) (Rdb.ro hw7) hx7, lg rfl rfl 39 hy16 fun hs hh => stp_fieldAddr (j := 1) Tryd.underlying43 rfl ts41 rfl (sv hs 43 rfl) rfl, lg rfl rfl 39 hy16 fun hs hh => stp_load1 ts41 (sv hs 44 rfl) (Cells.el (Rdb.ro hw7) (by decide) hx7 1 1 rfl), lg rfl rfl 39 hy16 fun hs hh => stp_move (sv hs 8 rfl), lg rfl rfl 39 hy16 fun hs hh => stp_indexAddr Tryd.underlying41 ts53 (by decide) (sv hs 45 rfl) rfl (sv hs 46 rfl) (Rdb.ro hs7) e15, lg rfl rfl 39 hy16 fun hs hh => stp_fieldAddr (j := 0) Tryd.underlying53 rfl ts36 rfl (sv hs 47 rfl) rfl, lg rfl rfl 39 hy16 fun hs hh => stp_loadN (us := [_, _]) ts36 (sv hs 48 rfl) (Cells.el (Rdb.ro hs7) (by decide) e15 0 2 rfl), lg rfl rfl 39 hy16 fun hs hh => stp_loadN (us := [_, _]) ts36 (sv hs 5 rfl) (Cells.box (id := 1) (hh.get 1 _ rfl) 2 rfl), lg rfl rfl 39 hy16 fun hs hh => stp_eqlS te36 x15.k a2 (sv hs 49 rfl) (sv hs 50 rfl), lc rfl rfl fun hs hh => stp_pick_fB (sv hs 39 rfl) hy16 (sv hs 51 rfl) qy16, trivial⟩
      intro g hΦ
      exact kw_join () trivial ⟨rfl, rfl, rfl, rfl, rfl, rfl, trivial⟩ ⟨rfl, rfl, trivial⟩
     rintro _ -
     dsimp only
     refine kw_nx (cw_cond rfl (fun h17 => ?_) (fun h17 => ?_))
     ·have H2 := cond_t H2 h17
      refine sr (oS rfl (nn (cw_ret (kw_bl_ret (kw_nx_ret (kw_lq_ret (kw_bl_ret (kw_join_ret (kw_bl_ret (kw_nx_ret (kw_lq_ret (kw_bl_ret (kw_join_ret ?_)))))))))))))
      refine kw_nx_ret ?_
      obtain rfl := sI H2
      obtain rfl := sI H1
      obtain rfl := sI H0
      exact kr Tryd.results69 (rT rfl) [] ⟨rfl, rfl⟩
     have H2 := cond_f H2 h17
     obtain ⟨x18, e18, H2⟩ := bS H2
     exact cw_skip (kw_bl_normal (kw_nx (cw_region (oM rfl (oP e18 rfl (oS rfl (ow_nil (kw_lqS (js := [0, 1]) (fuel, x18) H2 (Nat.lt_succ_self _) ⟨rfl, rfl, rfl, rfl, rfl, trivial⟩ ⟨0, [1], rfl, rfl, 1, [], rfl, rfl, trivial⟩ (by decide)))))))))
    have H2 := cond_f H2 h14
    refine cw_exit (kw_nx_exit (kw_lq_exit (kw_bl ?_)))
    obtain rfl := sI H2
    exact kw_joinS (js := [0, 1]) v5 rfl ⟨rfl, rfl, rfl, rfl, rfl, trivial⟩ ⟨0, [1], rfl, rfl, 1, [], rfl, rfl, trivial⟩ (by decide)
   rintro v5 rfl
   dsimp only
   obtain ⟨x19, e19, H1⟩ := bS H1
   exact kw_bl_normal (kw_nx (cw_region (oM rfl (oP e19 rfl (oS rfl (ow_nil (kw_lqS (js := [0, 1]) (fuel, x19) H1 (Nat.lt_succ_self _) ⟨rfl, rfl, rfl, rfl, trivial⟩ ⟨0, [1], rfl, rfl, 1, [], rfl, rfl, trivial⟩ (by decide))))))))
  have H1 := cond_f H1 h4
  refine cw_exit (kw_nx_exit (kw_lq_exit (kw_bl ?_)))
  obtain rfl := sI H1
  exact kw_joinS (js := [0, 1]) v3 rfl ⟨rfl, rfl, rfl, rfl, trivial⟩ ⟨0, [1], rfl, rfl, 1, [], rfl, rfl, trivial⟩ (by decide)
 rintro v3 rfl
 dsimp only
 refine kw_nx (sr (oS rfl (nn (cw_ret ?_))))
 obtain rfl := sI H0
 exact kr Tryd.results69 (rT rfl) [] ⟨rfl, rfl⟩

theorem c_s_RightsValid (fl : Nat) (w : World) (a0 : Int) (r : Bool) (H0 : s_RightsValid fl a0 = some r) :
  Ct Tryd.prog 81 [.int .i64 a0] w [] (fun rv h' => rv = .bool r ∧ h' = []) := by
 unfold s_RightsValid at H0
 refine ct_of_cw Tryd.func81 rfl Tryd.ntmps81 rfl (Sat.refl _ _) ?_
 obtain ⟨y1, ey1, H0⟩ := bS H0
 refine sr (oS rfl (nn (sr (oM rfl (oI rfl (oM rfl (ow_cutY 3 8 y1 ?_ ?_)))))))
 ·rcases Bool.eq_false_or_eq_true (decide (0 ≤ a0)) with hy1 | hy1
  ·have ey1 := cond_t ey1 hy1
   refine oG rfl hy1 (mv rfl) rfl (oG rfl hy1 (stp_leq rfl rfl) rfl (oD (stp_pick_t rfl hy1 rfl) rfl ?_))
   obtain rfl := sI ey1
   exact ow_nil (jy 3 0)
  have ey1 := cond_f ey1 hy1
  refine oO rfl hy1 rfl (oO rfl hy1 rfl (oD (stp_pick_f rfl hy1 rfl) rfl ?_))
  obtain rfl := sI ey1
  exact ow_nil (jy 3 0)
 refine oS rfl (nn (cw_ret ?_))
 obtain rfl := sI H0
 exact kr Tryd.results81 (rT rfl) [] ⟨rfl, rfl⟩

theorem c_s_l3Copy (fl : Nat) (w : World) (a0 : T) (hn0_0 : n0_0 = (a0.b).length) (hr0_0 : RO w (hkeys []) (RdL p0_0 c0_0 a0.b)) (hn0_1 : n0_1 = (a0.f).length) (hr0_1 : RO w (hkeys []) (RdL p0_1 c0_1 a0.f)) (r : T) (H0 : s_l3Copy fl a0 = some r) :
  Ct Tryd.prog 65 [.agg #[.slice p0_0 n0_0 c0_0, .slice p0_1 n0_1 c0_1]] w [] (fun rv h' => ∃ (x0 : Option Addr) (y0 z0 : Nat) (C0 : Res) (x1 : Option Addr) (y1 z1 : Nat) (C1 : Res), rv = .agg #[.slice x0 y0 z0, .slice x1 y1 z1] ∧ h' = [(0, C0), (1, C1)] ∧ y0 = (r.b).length ∧ OwnC 3 x0 z0 r.b C0 ∧ y1 = (r.f).length ∧ OwnC 61 x1 z1 r.f C1) := by
 subst hn0_0 hn0_1
 unfold s_l3Copy at H0
 refine ct_of_cw Tryd.func65 rfl Tryd.ntmps65 rfl (Sat.refl _ _) ?_
 refine sr (oE (stpU_box 0 rfl rfl) rfl ?_)
 rintro _ _ ⟨b1, rfl, rfl⟩
 refine oE (stpU_alloc 1 tz26 rfl) rfl ?_
 rintro _ _ ⟨b2, rfl, rfl⟩
 obtain ⟨x5, e5, H0⟩ := bS H0
 obtain ⟨x11, e11, H0⟩ := bS H0
 refine nn (cw_seq (rdq g_mixed [1, 2] [0, 1] { dst := dS [4, 5, 6, 7, 8, 9, 10, 11, 12, 0], pre := gA [] [[], [], [1], [0, 1, 2], [], [], [5], rn 0 7, rn 0 8, rn 0 9], ids := gA [] [[2], [], [], [2], [3], [], [], [3], [], [1]], rs := rL [[], [(1, 0)], [(4, 2)], [(3, 1), (5, 3)], [], [(1, 0)], [(8, 6)], [(7, 5), (9, 7)], [(6, 4), (10, 8)], [(2, 0), (11, 9)]], rh := rL [[], [], [(0, 0)], [(2, 1)], [], [], [(0, 0)], [(3, 5)], [], [(1, 0)]], V := fun i g => gA undef [.slice ((g 0).A 0) 0 0, .pointer (some ⟨b1, 0, none⟩), .slice p0_0 ((a0.b).length) c0_0, .slice ((g 3).A 0) ((x5).length) ((g 3).C 0), .slice ((g 4).A 0) 0 0, .pointer (some ⟨b1, 1, none⟩), .slice p0_1 ((a0.f).length) c0_1, .slice ((g 7).A 0) ((x11).length) ((g 7).C 0), .agg #[.slice ((g 3).A 0) ((x5).length) ((g 3).C 0), .slice ((g 7).A 0) ((x11).length) ((g 7).C 0)]] i, U := fun i g => gA [] [[(2, ((g 0).R 0))], [], [], [(2, ((g 3).R 0))], [(3, ((g 4).R 0))], [], [], [(3, ((g 7).R 0))], [], [(1, [(b2, .cells #[.slice ((g 3).A 0) ((x5).length) ((g 3).C 0), .slice ((g 7).A 0) ((x11).length) ((g 7).C 0)] 26 (0, 0))])]] i, Φ := fun i x => gA True [OwnC (α := Int) 3 (x.A 0) 0 ([] : List Int) (x.R 0), True, True, OwnC 3 (x.A 0) (x.C 0) x5 (x.R 0), OwnC (α := F) 61 (x.A 0) 0 ([] : List F) (x.R 0), True, True, OwnC 61 (x.A 0) (x.C 0) x11 (x.R 0)] i } ?_ ?_))
 ·refine ⟨?_, lc rfl rfl fun hs hh => stp_fieldAddr (j := 0) Tryd.underlying26 rfl ts23 rfl (sv hs 1 rfl) rfl, lc rfl rfl fun hs hh => stp_load1 ts23 (sv hs 4 rfl) (Cells.box (id := 0) (hh.get 0 _ rfl) 1 rfl), ?_, ?_, lc rfl rfl fun hs hh => stp_fieldAddr (j := 1) Tryd.underlying26 rfl ts24 rfl (sv hs 1 rfl) rfl, lc rfl rfl fun hs hh => stp_load1 ts24 (sv hs 8 rfl) (Cells.box (id := 0) (hh.get 0 _ rfl) 1 rfl), ?_, ld rfl rfl fun g hΦ s h hs hh => stp_build (cs := #[.slice ((g 3).A 0) ((x5).length) ((g 3).C 0), .slice ((g 7).A 0) ((x11).length) ((g 7).C 0)]) (sevp_cons (sv hs 6 rfl) (sevp_cons (sv hs 10 rfl) sevp_nil)) bt26_5, ?_, trivial⟩
  ·refine le rfl rfl (fun g hΦ s h hs hh => (stpU_lit0 sl23 2)) ?_
   rintro g _ _ ⟨p3, C4, rfl, rfl, o4⟩
   exact ⟨⟨[p3], [], [C4]⟩, o4, .inr rfl, rfl⟩
  ·refine le rfl rfl (fun g hΦ s h hs hh => (stpU_append sl23 rfl (id := 2) (sv hs 3 rfl) (by simp) (sv hs 5 rfl) rfl (hh.get 2 _ rfl) (hΦ 0 rfl) (Rdb.ro hr0_0) e5)) ?_
   rintro g _ _ ⟨p6, c7, C8, rfl, rfl, o8⟩
   exact ⟨⟨[p6], [c7], [C8]⟩, o8, .inr rfl, rfl⟩
  ·refine le rfl rfl (fun g hΦ s h hs hh => (stpU_lit0 sl24 3)) ?_
   rintro g _ _ ⟨p9, C10, rfl, rfl, o10⟩
   exact ⟨⟨[p9], [], [C10]⟩, o10, .inr rfl, rfl⟩
  ·refine le rfl rfl (fun g hΦ s h hs hh => (stpU_append sl24 rfl (id := 3) (sv hs 7 rfl) (by simp) (sv hs 9 rfl) rfl (hh.get 3 _ rfl) (hΦ 4 rfl) (Rdb.ro hr0_1) e11)) ?_
   rintro g _ _ ⟨p12, c13, C14, rfl, rfl, o14⟩
   exact ⟨⟨[p12], [c13], [C14]⟩, o14, .inr rfl, rfl⟩
  refine le rfl rfl (fun g hΦ s h hs hh => (stpU_store (id := 1) (cs' := [.slice ((g 3).A 0) ((x5).length) ((g 3).C 0), .slice ((g 7).A 0) ((x11).length) ((g 7).C 0)]) ts26 (sv hs 2 rfl) (sv hs 11 rfl) (hh.get 1 _ rfl) rfl rfl rfl rfl)) ?_
  rintro g _ _ rfl
  exact ⟨⟨[], [], []⟩, trivial, .inl rfl, rfl⟩
 intro g hΦ
 refine kw_gen (ι := Option Addr × Res × Option Addr × Nat × Res × Option Addr × Res × Option Addr × Nat × Res) (((g 0).A 0), ((g 0).R 0), ((g 3).A 0), ((g 3).C 0), ((g 3).R 0), ((g 4).A 0), ((g 4).R 0), ((g 7).A 0), ((g 7).C 0), ((g 7).R 0)) (fun | (p3, C4, p6, c7, C8, p9, C10, p12, c13, C14) => OwnC (α := Int) 3 p3 0 ([] : List Int) C4 ∧ OwnC 3 p6 c7 x5 C8 ∧ OwnC (α := F) 61 p9 0 ([] : List F) C10 ∧ OwnC 61 p12 c13 x11 C14) (fun | (p3, C4, p6, c7, C8, p9, C10, p12, c13, C14) => [(2, .pointer (some ⟨b2, 0, none⟩))]) (fun | (p3, C4, p6, c7, C8, p9, C10, p12, c13, C14) => [(1, [(b2, .cells #[.slice p6 ((x5).length) c7, .slice p12 ((x11).length) c13] 26 (0, 0))]), (2, C8), (3, C14)]) ⟨(hΦ 0 (by decide)), (hΦ 3 (by decide)), (hΦ 4 (by decide)), (hΦ 7 (by decide))⟩ ⟨rfl, trivial⟩ ⟨rfl, rfl, rfl, trivial⟩ ?_
 rintro ⟨p3, C4, p6, c7, C8, p9, C10, p12, c13, C14⟩ ⟨o4, o8, o10, o14⟩
 dsimp only
 refine kw_nx (cw_ret ?_)
 obtain rfl := sI H0
 exact kr Tryd.results65 (rC2 1 ts26 rfl rfl) [2, 3] ⟨_, _, _, _, _, _, _, _, rfl, rfl, rfl, o8, rfl, o14⟩

theorem c_s_l3Map (fl : Nat) (w : World) (a0 : T) (a1 : K) (a2 : Int) (a3 : Int) (hn0_0 : n0_0 = (a0.b).length) (hr0_0 : RO w (hkeys []) (RdL p0_0 c0_0 a0.b)) (hn0_1 : n0_1 = (a0.f).length) (hr0_1 : RO w (hkeys []) (RdL p0_1 c0_1 a0.f)) (r : T) (H0 : s_l3Map fl a0 a1 a2 a3 = some r) :
  Ct Tryd.prog 82 [.agg #[.slice p0_0 n0_0 c0_0, .slice p0_1 n0_1 c0_1], .agg #[.int .i64 a1.s, .int .i64 a1.p], .int .i64 a2, .int .i64 a3] w [] (fun rv h' => ∃ (x0 : Option Addr) (y0 z0 : Nat) (C0 : Res) (x1 : Option Addr) (y1 z1 : Nat) (C1 : Res), rv = .agg #[.slice x0 y0 z0, .slice x1 y1 z1] ∧ h' = [(0, C0), (1, C1)] ∧ y0 = (r.b).length ∧ OwnC 3 x0 z0 r.b C0 ∧ y1 = (r.f).length ∧ OwnC 61 x1 z1 r.f C1) := by
 subst hn0_0 hn0_1
 unfold s_l3Map at H0
 refine ct_of_cw Tryd.func82 rfl Tryd.ntmps82 rfl (Sat.refl _ _) ?_
 refine sr (oE (stpU_box 0 rfl rfl) rfl ?_)
 rintro _ _ ⟨b1, rfl, rfl⟩
 refine oE (stpU_box 1 rfl rfl) rfl ?_
 rintro _ _ ⟨b2, rfl, rfl⟩
 refine oE (stpU_alloc 2 tz26 rfl) rfl ?_
 rintro _ _ ⟨b3, rfl, rfl⟩
 obtain ⟨x4, e4, H0⟩ := bS H0
 refine nn (sr (oB2 0 ts26 rfl (oE (stpU_call (fun i => 3 + i) cf65 (fun w hw => c_s_l3Copy fl w a0 rfl (RO.pass hr0_0 hw) rfl (RO.pass hr0_1 hw) x4 e4) (yA rfl)) rfl ?_)))
 rintro _ _ ⟨_, ⟨p5, _, c7, C8, p9, _, c11, C12, rfl, rfl, rfl, o8, rfl, o12⟩, rfl⟩
 refine oE (stpU_alloc 5 tz26 rfl) rfl ?_
 rintro _ _ ⟨b13, rfl, rfl⟩
 obtain ⟨x14, e14, H0⟩ := bS H0
 refine oC2 5 ts26 rfl rfl (nn (sr (oB2 1 ts36 rfl (oA 0 Tryd.underlying26 rfl ts23 rfl (oL 0 ts23 rfl (oD (stp_len Tryd.underlying23 rfl) rfl (oE (stpU_call (fun i => 6 + i) cf67 (fun w hw => c_s_l2Hash fl w a1 ((a0.b).length : Int) x14 e14) (yB rfl rfl)) rfl ?_)))))))
 rintro _ _ ⟨_, ⟨rfl, rfl⟩, rfl⟩
 obtain ⟨x15, e15, H0⟩ := bS H0
 obtain ⟨x16, e16, H0⟩ := bS H0
 refine oS rfl (nn (cw_seq (rdq g_mixed [2, 3, 5, 9, 10] [1, 3, 4, 5] { dst := dS [19, 20, 21, 22, 23, 24, 25, 26, 27, 28, 29, 30, 0], pre := gA [] [[], [0], [], [], [], [], [5], [], [5, 6, 7], rn 5 4, rn 3 7, rn 0 11, rn 0 12], ids := fun i => match i with | 12 => [4] | _ => [], rs := rL [[(9, 0)], [(18, 1)], [(2, 0)], [(5, 0)], [(3, 0)], [(9, 0)], [(23, 6)], [(10, 0)], [(24, 7), (25, 8)], [(26, 9)], [(21, 4), (22, 5), (27, 10)], [(19, 2), (20, 3)], [(29, 12), (28, 11)]], rh := rL [[], [(5, 0)], [], [(1, 0)], [], [], [(5, 0)], [], [(3, 0)], [(3, 0)], [], [(4, 0)], [(4, 0)]], V := fun i g => gA undef [.pointer (some ⟨b13, 1, none⟩), .slice p9 ((x4.f).length) c11, .int .i64 a2, .agg #[.int .i64 a1.s, .int .i64 a1.p], .int .i64 a3, .pointer (some ⟨b13, 0, none⟩), .slice p5 ((x4.b).length) c7, .int .i64 x14, .pointer (some ⟨eB p5, eO p5 + Int.toNat x14 * Enc.sz Int + 0, none⟩), .int .i64 x15, .agg #[.bool true, .int .i64 a1.s, .int .i64 a1.p, .int .i64 a3, .int .i64 x15], .pointer (some ⟨eB p9, eO p9 + Int.toNat a2 * Enc.sz F + 0, none⟩)] i, U := fun i g => match i with | 12 => [(4, ((g 12).R 0))] | _ => [], Φ := fun i x => match i with | 12 => OwnC (α := F) 61 p9 c11 (x4.f.set (Int.toNat a2) (⟨true, a1, a3, x15⟩ : F)) (x.R 0) | _ => True } ?_ ?_)))
 ·refine ⟨lc rfl rfl fun hs hh => stp_fieldAddr (j := 1) Tryd.underlying26 rfl ts24 rfl (sv hs 9 rfl) rfl, lc rfl rfl fun hs hh => stp_load1 ts24 (sv hs 18 rfl) (Cells.box (id := 5) (hh.get 5 _ rfl) 1 rfl), lM, lc rfl rfl fun hs hh => stp_loadN (us := [_, _]) ts36 (sv hs 5 rfl) (Cells.box (id := 1) (hh.get 1 _ rfl) 2 rfl), lM, lc rfl rfl fun hs hh => stp_fieldAddr (j := 0) Tryd.underlying26 rfl ts23 rfl (sv hs 9 rfl) rfl, lc rfl rfl fun hs hh => stp_load1 ts23 (sv hs 23 rfl) (Cells.box (id := 5) (hh.get 5 _ rfl) 1 rfl), lM, lc rfl rfl fun hs hh => stp_indexAddr Tryd.underlying23 ts3 (by decide) (sv hs 24 rfl) rfl (sv hs 25 rfl) (Rdb.own (id := 3) (hh.get 3 _ rfl) o8) e15, lc rfl rfl fun hs hh => stp_load1 ts3 (sv hs 26 rfl) (Cells.el (Rdb.own (id := 3) (hh.get 3 _ rfl) o8) (by decide) e15 0 1 rfl), lc rfl rfl fun hs hh => stp_build (cs := #[.bool true, .int .i64 a1.s, .int .i64 a1.p, .int .i64 a3, .int .i64 x15]) (sevp_cons rfl (sevp_cons (sv hs 21 rfl) (sevp_cons (sv hs 22 rfl) (sevp_cons (sv hs 27 rfl) sevp_nil)))) bt61_6, lc rfl rfl fun hs hh => stp_indexAddr Tryd.underlying24 ts61 (by decide) (sv hs 19 rfl) rfl (sv hs 20 rfl) (Rdb.own (id := 4) (hh.get 4 _ rfl) o12) e16, ?_, trivial⟩
  refine le rfl rfl (fun g hΦ s h hs hh => (stpU_storeEl (id := 4) (i := 0) (⟨true, a1, a3, x15⟩ : F) (by decide) ts61 (sv hs 29 rfl) (sv hs 28 rfl) (hh.get 4 _ rfl) o12 e16 rfl rfl rfl rfl)) ?_
  rintro g _ _ ⟨C17, rfl, o17⟩
  exact ⟨⟨[], [], [C17]⟩, o17, .inl rfl, rfl⟩
 intro g hΦ
 refine kw_gen (ι := Res) ((g 12).R 0) (fun | C17 => OwnC (α := F) 61 p9 c11 (x4.f.set (Int.toNat a2) (⟨true, a1, a3, x15⟩ : F)) C17) (fun | C17 => [(2, .int .i64 a2), (8, .pointer (some ⟨b3, 0, none⟩)), (9, .pointer (some ⟨b13, 0, none⟩)), (10, .int .i64 x14)]) (fun | C17 => [(2, [(b3, .cells #[.slice none 0 0, .slice none 0 0] 26 (0, 0))]), (3, C8), (4, C17), (5, [(b13, .cells #[.slice p5 ((x4.b).length) c7, .slice p9 ((x4.f).length) c11] 26 (0, 0))])]) (hΦ 12 (by decide)) ⟨rfl, rfl, rfl, rfl, trivial⟩ ⟨rfl, rfl, rfl, rfl, trivial⟩ ?_
 rintro C17 o17
 have o17 : OwnC (α := F) 61 p9 c11 (x4.f.set (Int.toNat a2) (⟨true, a1, a3, x15⟩ : F)) C17 := o17
 dsimp only
 refine kw_nx (sr (oA 0 Tryd.underlying26 rfl ts23 rfl (oL 5 ts23 rfl (oM rfl (oM rfl (oD (stp_indexAddr Tryd.underlying23 ts3 (by decide) rfl rfl rfl (Rdb.own (id := 3) rfl o8) e15) rfl (oF (stpU_storeEl (id := 3) (i := 0) a2 (by decide) ts3 rfl rfl rfl o8 e15 rfl rfl rfl rfl) ?_)))))))
 rintro _ _ ⟨C18, rfl, o18⟩
 refine nn (sr (oB2 5 ts26 rfl (oC2 2 ts26 rfl rfl (nn (cw_ret ?_)))))
 obtain rfl := sI H0
 exact kr Tryd.results82 (rC2 2 ts26 rfl rfl) [3, 4] ⟨_, _, _, _, _, _, _, _, rfl, rfl, (by simp), o18, (by simp), o17⟩

theorem c_s_MapPage (fl : Nat) (w : World) (a0 : T) (a1 : K) (a2 : Int) (a3 : Int) (hn0_0 : n0_0 = (a0.b).length) (hr0_0 : RO w (hkeys []) (RdL p0_0 c0_0 a0.b)) (hn0_1 : n0_1 = (a0.f).length) (hr0_1 : RO w (hkeys []) (RdL p0_1 c0_1 a0.f)) (r : T × Bool) (H0 : s_MapPage fl a0 a1 a2 a3 = some r) :
  Ct Tryd.prog 70 [.agg #[.slice p0_0 n0_0 c0_0, .slice p0_1 n0_1 c0_1], .agg #[.int .i64 a1.s, .int .i64 a1.p], .int .i64 a2, .int .i64 a3] w [] (fun rv h' => ∃ (x0 : Option Addr) (y0 z0 : Nat) (C0 : Res) (x1 : Option Addr) (y1 z1 : Nat) (C1 : Res), rv = .tuple #[.agg #[.slice x0 y0 z0, .slice x1 y1 z1], .bool r.2] ∧ h' = [(0, C0), (1, C1)] ∧ y0 = (r.1.b).length ∧ OwnC 3 x0 z0 r.1.b C0 ∧ y1 = (r.1.f).length ∧ OwnC 61 x1 z1 r.1.f C1) := by
 subst hn0_0 hn0_1
 unfold s_MapPage at H0
 refine ct_of_cw Tryd.func70 rfl Tryd.ntmps70 rfl (Sat.refl _ _) ?_
 refine sr (oE (stpU_box 0 rfl rfl) rfl ?_)
 rintro _ _ ⟨b1, rfl, rfl⟩
 refine oE (stpU_box 1 rfl rfl) rfl ?_
 rintro _ _ ⟨b2, rfl, rfl⟩
 refine oE (stpU_alloc 2 tz26 rfl) rfl ?_
 rintro _ _ ⟨b3, rfl, rfl⟩
 obtain ⟨x4, e4, H0⟩ := bS H0
 refine oS rfl (nn (cw_seq (sr (oB2 0 ts26 rfl (oE (stpU_call (fun i => 3 + i) cf71 (fun w hw => c_s_TableValid fl w a0 rfl (RO.pass hr0_0 hw) rfl (RO.pass hr0_1 hw) x4 e4) (yA rfl)) rfl ?_)))))
 rintro _ _ ⟨_, ⟨rfl, rfl⟩, rfl⟩
 obtain ⟨y5, ey5, H0⟩ := bS H0
 refine oK rfl (oM rfl (ow_cutY 4 19 y5 ?_ ?_))
 ·rcases Bool.eq_false_or_eq_true (!x4) with hy5 | hy5
  ·have ey5 := cond_t ey5 hy5
   refine oO rfl hy5 rfl (oO rfl hy5 rfl (oO rfl hy5 rfl (oD (stp_pick_t rfl hy5 rfl) rfl ?_)))
   obtain rfl := sI ey5
   exact ow_nil (jy 4 0)
  have ey5 := cond_f ey5 hy5
  obtain ⟨x6, e6, ey5⟩ := bS ey5
  refine oG rfl hy5 (stp_loadN (us := [_, _]) ts36 rfl (Cells.box (id := 1) rfl 2 rfl)) rfl (ow_eff (.some rfl hy5) (stpU_call (fun i => 3 + i) cf35 (fun w hw => c_s_KeyValid fl w a1 x6 e6) (yA rfl)) rfl ?_)
  rintro _ _ ⟨_, ⟨rfl, rfl⟩, rfl⟩
  refine oG rfl hy5 (stp_not rfl) rfl (oD (stp_pick_f rfl hy5 rfl) rfl ?_)
  obtain rfl := sI ey5
  exact ow_nil (jy 4 0)
 obtain ⟨y7, ey7, H0⟩ := bS H0
 refine oM rfl (ow_cutY 4 24 y7 ?_ ?_)
 ·rcases Bool.eq_false_or_eq_true y5 with hy7 | hy7
  ·have ey7 := cond_t ey7 hy7
   refine oO rfl hy7 rfl (oO rfl hy7 rfl (oO rfl hy7 rfl (oD (stp_pick_t rfl hy7 rfl) rfl ?_)))
   obtain rfl := sI ey7
   exact ow_nil (jy 4 0)
  have ey7 := cond_f ey7 hy7
  obtain ⟨x8, e8, ey7⟩ := bS ey7
  refine oG rfl hy7 (mv rfl) rfl (ow_eff (.some rfl hy7) (stpU_call (fun i => 3 + i) cf81 (fun w hw => c_s_RightsValid fl w a3 x8 e8) (yA rfl)) rfl ?_)
  rintro _ _ ⟨_, ⟨rfl, rfl⟩, rfl⟩
  refine oG rfl hy7 (stp_not rfl) rfl (oD (stp_pick_f rfl hy7 rfl) rfl ?_)
  obtain rfl := sI ey7
  exact ow_nil (jy 4 0)
 obtain ⟨y9, ey9, H0⟩ := bS H0
 refine oM rfl (ow_cutY 3 28 y9 ?_ ?_)
 ·rcases Bool.eq_false_or_eq_true y7 with hy9 | hy9
  ·have ey9 := cond_t ey9 hy9
   refine oO rfl hy9 rfl (oO rfl hy9 rfl (oD (stp_pick_t rfl hy9 rfl) rfl ?_))
   obtain rfl := sI ey9
   exact ow_nil (jy 3 0)
  have ey9 := cond_f ey9 hy9
  refine oG rfl hy9 (mv rfl) rfl (oG rfl hy9 (stp_lss rfl rfl) rfl (oD (stp_pick_f rfl hy9 rfl) rfl ?_))
  obtain rfl := sI ey9
  exact ow_nil (jy 3 0)
 obtain ⟨y10, ey10, H0⟩ := bS H0
 refine oM rfl (ow_cutY 6 35 y10 ?_ ?_)
 ·rcases Bool.eq_false_or_eq_true y9 with hy10 | hy10
  ·have ey10 := cond_t ey10 hy10
   refine oO rfl hy10 rfl (oO rfl hy10 rfl (oO rfl hy10 rfl (oO rfl hy10 rfl (oO rfl hy10 rfl (oD (stp_pick_t rfl hy10 rfl) rfl ?_)))))
   obtain rfl := sI ey10
   exact ow_nil (jy 6 0)
  have ey10 := cond_f ey10 hy10
  refine oG rfl hy10 (mv rfl) rfl (oG rfl hy10 (fA 1 Tryd.underlying26 rfl ts24 rfl rfl rfl) rfl (oG rfl hy10 (lB 0 ts24 rfl rfl rfl) rfl (oG rfl hy10 (stp_len Tryd.underlying24 rfl) rfl (oG rfl hy10 (stp_geq rfl rfl) rfl (oD (stp_pick_f rfl hy10 rfl) rfl ?_)))))
  obtain rfl := sI ey10
  exact ow_nil (jy 6 0)
 obtain ⟨y11, ey11, H0⟩ := bS H0
 refine oM rfl (ow_cutY 7 43 y11 ?_ ?_)
 ·rcases Bool.eq_false_or_eq_true y10 with hy11 | hy11
  ·have ey11 := cond_t ey11 hy11
   refine oO rfl hy11 rfl (oO rfl hy11 rfl (oO rfl hy11 rfl (oO rfl hy11 rfl (oO rfl hy11 rfl (oO rfl hy11 rfl (oD (stp_pick_t rfl hy11 rfl) rfl ?_))))))
   obtain rfl := sI ey11
   exact ow_nil (jy 7 0)
  have ey11 := cond_f ey11 hy11
  obtain ⟨x12, e12, ey11⟩ := bS ey11
  refine oG rfl hy11 (fA 1 Tryd.underlying26 rfl ts24 rfl rfl rfl) rfl (oG rfl hy11 (lB 0 ts24 rfl rfl rfl) rfl (oG rfl hy11 (mv rfl) rfl (oG rfl hy11 (stp_indexAddr Tryd.underlying24 ts61 (by decide) rfl rfl rfl (Rdb.ro hr0_1) e12) rfl (oG rfl hy11 (fA 0 Tryd.underlying61 rfl ts4 rfl rfl rfl) rfl (oG rfl hy11 (stp_load1 ts4 rfl (Cells.el (Rdb.ro hr0_1) (by decide) e12 0 1 rfl)) rfl (oD (stp_pick_f rfl hy11 rfl) rfl ?_))))))
  obtain rfl := sI ey11
  exact ow_nil (jy 7 0)
 refine ow_nil (kw_nx (cw_cond rfl (fun h13 => ?_) (fun h13 => ?_)))
 ·have H0 := cond_t H0 h13
  refine sr (oD (stp_build (cs := #[.slice none 0 0, .slice none 0 0]) sevp_nil bt26_0) rfl (oC2 2 ts26 rfl rfl (oS rfl (nn (cw_ret (kw_nx_ret (kw_addNil 3 (kw_addNil 4 ?_))))))))
  obtain rfl := sI H0
  exact kr Tryd.results70 (.cons (.cellN (us := [_, _]) ts26 rfl (Cells.box (id := 2) rfl 2 rfl)) (rT rfl)) [3, 4] ⟨_, _, _, _, _, _, _, _, rfl, rfl, rfl, (OwnC.nil _ _), rfl, (OwnC.nil _ _)⟩
 have H0 := cond_f H0 h13
 obtain ⟨x14, e14, H0⟩ := bS H0
 refine cw_skip (kw_nx (sr (oB2 0 ts26 rfl (oB2 1 ts36 rfl (oE (stpU_call (fun i => 5 + i) cf38 (fun w hw => c_s_l3Find fl w a0 a1 rfl (RO.pass hr0_0 hw) rfl (RO.pass hr0_1 hw) x14 e14) (yB rfl rfl)) rfl ?_)))))
 rintro _ _ ⟨_, ⟨rfl, rfl⟩, rfl⟩
 refine oM rfl (oT rfl (oT rfl (oS rfl (oS rfl (nn (cw_seq (sr (oM rfl (oI rfl (nn (cw_cond rfl (fun h15 => ?_) (fun h15 => ?_))))))))))))
 ·have H0 := cond_t H0 h15
  refine sr (oD (stp_build (cs := #[.slice none 0 0, .slice none 0 0]) sevp_nil bt26_0) rfl (oC2 2 ts26 rfl rfl (oS rfl (nn (cw_ret (kw_nx_ret (kw_addNil 5 (kw_addNil 6 ?_))))))))
  obtain rfl := sI H0
  exact kr Tryd.results70 (.cons (.cellN (us := [_, _]) ts26 rfl (Cells.box (id := 2) rfl 2 rfl)) (rT rfl)) [5, 6] ⟨_, _, _, _, _, _, _, _, rfl, rfl, rfl, (OwnC.nil _ _), rfl, (OwnC.nil _ _)⟩
 have H0 := cond_f H0 h15
 obtain ⟨x16, e16, H0⟩ := bS H0
 refine cw_skip (kw_nx (sr (oB2 0 ts26 rfl (oB2 1 ts36 rfl (oM rfl (oM rfl (oE (stpU_call (fun i => 7 + i) cf82 (fun w hw => c_s_l3Map fl w a0 a1 a2 a3 rfl (RO.pass hr0_0 hw) rfl (RO.pass hr0_1 hw) x16 e16) (yD rfl rfl rfl rfl)) rfl ?_)))))))
 rintro _ _ ⟨_, ⟨p17, _, c19, C20, p21, _, c23, C24, rfl, rfl, rfl, o20, rfl, o24⟩, rfl⟩
 refine oC2 2 ts26 rfl rfl (oS rfl (nn (cw_ret ?_)))
 obtain rfl := sI H0
 exact kr Tryd.results70 (.cons (.cellN (us := [_, _]) ts26 rfl (Cells.box (id := 2) rfl 2 rfl)) (rT rfl)) [7, 8] ⟨_, _, _, _, _, _, _, _, rfl, rfl, rfl, o20, rfl, o24⟩

theorem c_s_l8Copy (fl : Nat) (w : World) (a0 : Sy) (hn0_0 : n0_0 = (a0.t.b).length) (hr0_0 : RO w (hkeys []) (RdL p0_0 c0_0 a0.t.b)) (hn0_1 : n0_1 = (a0.t.f).length) (hr0_1 : RO w (hkeys []) (RdL p0_1 c0_1 a0.t.f)) (hn0_2 : n0_2 = (a0.c).length) (hr0_2 : ROD w (hkeys []) p0_2 c0_2 a0.c) (r : Sy) (H0 : s_l8Copy fl a0 = some r) :
  Ct Tryd.prog 36 [.agg #[.slice p0_0 n0_0 c0_0, .slice p0_1 n0_1 c0_1, .slice p0_2 n0_2 c0_2]] w [] (fun rv h' => ∃ (x0 : Option Addr) (y0 z0 : Nat) (C0 : Res) (x1 : Option Addr) (y1 z1 : Nat) (C1 : Res) (x2 : Option Addr) (y2 z2 : Nat) (C2 : Res), rv = .agg #[.slice x0 y0 z0, .slice x1 y1 z1, .slice x2 y2 z2] ∧ h' = [(0, C0), (1, C1), (2, C2)] ∧ y0 = (r.t.b).length ∧ OwnC 3 x0 z0 r.t.b C0 ∧ y1 = (r.t.f).length ∧ OwnC 61 x1 z1 r.t.f C1 ∧ y2 = (r.c).length ∧ OwnD 43 53 x2 z2 r.c C2) := by
 subst hn0_0 hn0_1 hn0_2
 unfold s_l8Copy at H0
 refine ct_of_cw Tryd.func36 rfl Tryd.ntmps36 rfl (Sat.refl _ _) ?_
 refine sr (oE (stpU_box 0 rfl rfl) rfl ?_)
 rintro _ _ ⟨b1, rfl, rfl⟩
 refine oE (stpU_alloc 1 tz29 rfl) rfl ?_
 rintro _ _ ⟨b2, rfl, rfl⟩
 obtain ⟨x3, e3, H0⟩ := bS H0
 refine nn (sr (oA 0 Tryd.underlying29 rfl ts26 rfl (oB2 0 ts26 rfl (oE (stpU_call (fun i => 2 + i) cf65 (fun w hw => c_s_l3Copy fl w a0.t rfl (RO.pass hr0_0 hw) rfl (RO.pass hr0_1 hw) x3 e3) (yA rfl)) rfl ?_))))
 rintro _ _ ⟨_, ⟨p4, _, c6, C7, p8, _, c10, C11, rfl, rfl, rfl, o7, rfl, o11⟩, rfl⟩
 refine oD (stp_build (cs := #[.slice p4 ((x3.b).length) c6, .slice p8 ((x3.f).length) c10, .slice none 0 0]) (sevp_cons rfl sevp_nil) bt29_7) rfl (oE (stpU_alloc 4 tz29 rfl) rfl ?_)
 rintro _ _ ⟨b12, rfl, rfl⟩
 obtain ⟨o0_0, eo0_0, H0⟩ := bS H0
 refine oC3 4 ts29 rfl rfl (nn (cw_seq (sr (oS rfl (nn (cw_addNil 5 (cw_join (ι := (List Cp) × Int × Option Addr × Nat × Nat × Res) (fun | (v13, v18, p14, n15, c16, C17) => o0_0 = .out (v13, v18) ∧ n15 = (v13).length ∧ OwnD 43 53 p14 c16 v13 C17) (fun | (v13, v18, p14, n15, c16, C17) => [(1, .pointer (some ⟨b1, 0, none⟩)), (2, .pointer (some ⟨b2, 0, none⟩)), (3, .pointer (some ⟨b12, 0, none⟩)), (4, .int .i64 v18)]) (fun | (v13, v18, p14, n15, c16, C17) => [(0, [(b1, .cells #[.slice p0_0 ((a0.t.b).length) c0_0, .slice p0_1 ((a0.t.f).length) c0_1, .slice p0_2 ((a0.c).length) c0_2] 29 (0, 0))]), (1, [(b2, .cells #[.slice none 0 0, .slice none 0 0, .slice none 0 0] 29 (0, 0))]), (2, C7), (3, C11), (4, [(b12, .cells #[.slice p4 ((x3.b).length) c6, .slice p8 ((x3.f).length) c10, .slice p14 n15 c16] 29 (0, 0))]), (1001, C17)]) ?_ ?_)))))))
 ·refine cw_block (cw_loopS (ι := Nat × (List Cp) × Int × Option Addr × Nat × Nat × Res) (js := [0, 1, 2, 3, 4, 5]) (fun x => x.1) (fun | (fuel, v13, v18, p14, n15, c16, C17) => s_l8Copy_L0 fl a0 fuel v13 v18 = some o0_0 ∧ n15 = (v13).length ∧ OwnD 43 53 p14 c16 v13 C17) (fun | (_, v13, v18, p14, n15, c16, C17) => [(1, .pointer (some ⟨b1, 0, none⟩)), (2, .pointer (some ⟨b2, 0, none⟩)), (3, .pointer (some ⟨b12, 0, none⟩)), (4, .int .i64 v18)]) (fun | (_, v13, v18, p14, n15, c16, C17) => [(0, [(b1, .cells #[.slice p0_0 ((a0.t.b).length) c0_0, .slice p0_1 ((a0.t.f).length) c0_1, .slice p0_2 ((a0.c).length) c0_2] 29 (0, 0))]), (1, [(b2, .cells #[.slice none 0 0, .slice none 0 0, .slice none 0 0] 29 (0, 0))]), (2, C7), (3, C11), (4, [(b12, .cells #[.slice p4 ((x3.b).length) c6, .slice p8 ((x3.f).length) c10, .slice p14 n15 c16] 29 (0, 0))]), (1001, C17)]) (fl, [], 0, none, 0, 0, []) ⟨eo0_0, rfl, (OwnD.nil _ _ _)⟩ ⟨rfl, rfl, rfl, rfl, trivial⟩ ⟨0, [1, 2, 3, 4, 5], rfl, rfl, 1, [2, 3, 4, 5], rfl, rfl, 2, [3, 4, 5], rfl, rfl, 3, [4, 5], rfl, rfl, 4, [5], rfl, rfl, 5, [], rfl, rfl, trivial⟩ (by decide) ?_)
  rintro ⟨fuel, v13, v18, p14, _, c16, C17⟩ ⟨H1, rfl, o17⟩
  have H1 : s_l8Copy_L0 fl a0 fuel v13 v18 = some o0_0 := H1
  rcases fuel with _ | fuel
  ·rw [s_l8Copy_L0.eq_1] at H1; cases H1
  rw [s_l8Copy_L0.eq_2] at H1
  dsimp only
  refine cw_seq (sr (oM rfl (oA 2 Tryd.underlying29 rfl ts27 rfl (oL 0 ts27 rfl (oD (stp_len Tryd.underlying27 rfl) rfl (oW rfl (nn (cw_cond rfl (fun h19 => ?_) (fun h19 => ?_)))))))))
  ·have H1 := cond_t H1 h19
   obtain ⟨x22, e22, H1⟩ := bS H1
   refine cw_skip (kw_nx (cw_seq (cw_block ?_)))
   obtain ⟨u23, p24, n25, c26, p27, n28, c29, hw23, hl23, hx23, rfl, hr23, rfl, hs23⟩ := ROD.get hr0_2 e22
   obtain ⟨x30, e30, H1⟩ := bS H1
   obtain ⟨x36, e36, H1⟩ := bS H1
   refine cw_row 1001 9 rfl o17 ?_
   rintro u48 C49 C50 o49 hb50
   obtain ⟨x51, e51, H1⟩ := bS H1
   refine rdq g_mixed [1, 3, 4] [0, 4, 1001] { dst := dS [17, 18, 19, 20, 21, 22, 23, 24, 25, 26, 27, 28, 29, 30, 31, 32, 33, 34, 35, 36, 37, 38, 0], pre := gA [] [[], [0], [], [], [3], [], [3, 4, 5], rn 3 4, rn 3 5, rn 2 7, [], [], [11], [], [11, 12, 13], rn 11 4, rn 11 5, rn 2 15, rn 2 16, rn 2 17, rn 0 20, rn 0 21, rn 0 22], ids := gA [] [[], [], [6], [], [], [], [], [], [], [6], [7], [], [], [], [], [], [], [7], [], [8, 6, 7], [1001, 6, 7], [], [4]], rs := rL [[(3, 0)], [(16, 1)], [], [(1, 0)], [(19, 4)], [(4, 0)], [(20, 5), (21, 6)], [(22, 7)], [(23, 8)], [(18, 3), (24, 9)], [], [(1, 0)], [(27, 12)], [(4, 0)], [(28, 13), (29, 14)], [(30, 15)], [(31, 16)], [(26, 11), (32, 17)], [(25, 10), (33, 18)], [(34, 19)], [(17, 2), (35, 20)], [(3, 0)], [(37, 22), (36, 21)]], rh := rL [[], [(4, 0)], [], [], [(0, 0)], [], [], [], [], [(6, 3)], [], [], [(0, 0)], [], [], [], [], [(7, 11)], [], [(6, 10), (7, 18)], [(6, 20), (7, 20), (8, 20), (1001, 0)], [], [(4, 0)]], V := fun i g => gA undef [.pointer (some ⟨b12, 2, none⟩), .slice p14 ((v13).length) c16, .slice ((g 2).A 0) 0 0, .pointer (some ⟨b1, 2, none⟩), .slice p0_2 ((a0.c).length) c0_2, .int .i64 v18, .pointer (some ⟨eB p0_2, eO p0_2 + Int.toNat v18 * Enc.sz CpS + 0, none⟩), .pointer (some ⟨eB p0_2, eO p0_2 + Int.toNat v18 * Enc.sz CpS + 0, none⟩), .slice p24 ((x22.n).length) c26, .slice ((g 9).A 0) ((x30).length) ((g 9).C 0), .slice ((g 10).A 0) 0 0, .pointer (some ⟨b1, 2, none⟩), .slice p0_2 ((a0.c).length) c0_2, .int .i64 v18, .pointer (some ⟨eB p0_2, eO p0_2 + Int.toNat v18 * Enc.sz CpS + 0, none⟩), .pointer (some ⟨eB p0_2, eO p0_2 + Int.toNat v18 * Enc.sz CpS + 1, none⟩), .slice p27 ((x22.w).length) c29, .slice ((g 17).A 0) ((x36).length) ((g 17).C 0), .agg #[.slice ((g 9).A 0) ((x30).length) ((g 9).C 0), .slice ((g 17).A 0) ((x36).length) ((g 17).C 0)], .slice ((g 19).A 0) 1 1, .slice ((g 20).A 0) ((x51).length) ((g 20).C 0), .pointer (some ⟨b12, 2, none⟩)] i, U := fun i g => match i with | 2 => [(6, ((g 2).R 0))] | 9 => [(6, ((g 9).R 0))] | 10 => [(7, ((g 10).R 0))] | 17 => [(7, ((g 17).R 0))] | 19 => [(8, ((g 19).R 0)), (6, ((g 19).R 1)), (7, ((g 19).R 2))] | 20 => [(1001, ((g 20).R 0)), (6, ((g 20).R 1)), (7, ((g 20).R 2))] | 22 => [(4, [(b12, .cells #[.slice p4 ((x3.b).length) c6, .slice p8 ((x3.f).length) c10, .slice ((g 20).A 0) ((x51).length) ((g 20).C 0)] 29 (0, 0))])] | _ => [], Φ := fun i x => match i with | 2 => OwnC (α := Nt) 53 (x.A 0) 0 ([] : List Nt) (x.R 0) | 9 => OwnC 53 (x.A 0) (x.C 0) x30 (x.R 0) | 10 => OwnC (α := Nt) 53 (x.A 0) 0 ([] : List Nt) (x.R 0) | 17 => OwnC 53 (x.A 0) (x.C 0) x36 (x.R 0) | 19 => OwnC (α := CpS) 43 (x.A 0) 1 ([(⟨(x.A 1), (x30).length, (x.C 0), (x.A 2), (x36).length, (x.C 1)⟩ : CpS)]) (x.R 0) ∧ OwnC 53 (x.A 1) (x.C 0) x30 (x.R 1) ∧ OwnC 53 (x.A 2) (x.C 1) x36 (x.R 2) | 20 => OwnC (α := CpS) 43 (x.A 0) (x.C 0) (u48 ++ [(⟨(x.A 1), (x30).length, (x.C 1), (x.A 2), (x36).length, (x.C 2)⟩ : CpS)]) (x.R 0) ∧ OwnC 53 (x.A 1) (x.C 1) x30 (x.R 1) ∧ OwnC 53 (x.A 2) (x.C 2) x36 (x.R 2) | _ => True } ?_ ?_
   ·refine ⟨lc rfl rfl fun hs hh => stp_fieldAddr (j := 2) Tryd.underlying29 rfl ts27 rfl (sv hs 3 rfl) rfl, lc rfl rfl fun hs hh => stp_load1 ts27 (sv hs 16 rfl) (Cells.box (id := 4) (hh.get 4 _ rfl) 1 rfl), ?_, lc rfl rfl fun hs hh => stp_fieldAddr (j := 2) Tryd.underlying29 rfl ts27 rfl (sv hs 1 rfl) rfl, lc rfl rfl fun hs hh => stp_load1 ts27 (sv hs 19 rfl) (Cells.box (id := 0) (hh.get 0 _ rfl) 1 rfl), lM, lc rfl rfl fun hs hh => stp_indexAddr Tryd.underlying27 ts43 (by decide) (sv hs 20 rfl) hl23 (sv hs 21 rfl) (Rdb.ro hw23) hx23, lc rfl rfl fun hs hh => stp_fieldAddr (j := 0) Tryd.underlying43 rfl ts41 rfl (sv hs 22 rfl) rfl, lc rfl rfl fun hs hh => stp_load1 ts41 (sv hs 23 rfl) (Cells.el (Rdb.ro hw23) (by decide) hx23 0 1 rfl), ?_, ?_, lc rfl rfl fun hs hh => stp_fieldAddr (j := 2) Tryd.underlying29 rfl ts27 rfl (sv hs 1 rfl) rfl, lc rfl rfl fun hs hh => stp_load1 ts27 (sv hs 27 rfl) (Cells.box (id := 0) (hh.get 0 _ rfl) 1 rfl), lM, lc rfl rfl fun hs hh => stp_indexAddr Tryd.underlying27 ts43 (by decide) (sv hs 28 rfl) hl23 (sv hs 29 rfl) (Rdb.ro hw23) hx23, lc rfl rfl fun hs hh => stp_fieldAddr (j := 1) Tryd.underlying43 rfl ts41 rfl (sv hs 30 rfl) rfl, lc rfl rfl fun hs hh => stp_load1 ts41 (sv hs 31 rfl) (Cells.el (Rdb.ro hw23) (by decide) hx23 1 1 rfl), ?_, ld rfl rfl fun g hΦ s h hs hh => stp_build (cs := #[.slice ((g 9).A 0) ((x30).length) ((g 9).C 0), .slice ((g 17).A 0) ((x36).length) ((g 17).C 0)]) (sevp_cons (sv hs 25 rfl) (sevp_cons (sv hs 33 rfl) sevp_nil)) bt43_8, ?_, ?_, lc rfl rfl fun hs hh => stp_fieldAddr (j := 2) Tryd.underlying29 rfl ts27 rfl (sv hs 3 rfl) rfl, ?_, trivial⟩
    ·refine le rfl rfl (fun g hΦ s h hs hh => (stpU_lit0 sl41 6)) ?_
     rintro g _ _ ⟨p20, C21, rfl, rfl, o21⟩
     exact ⟨⟨[p20], [], [C21]⟩, o21, .inr rfl, rfl⟩
    ·refine le rfl rfl (fun g hΦ s h hs hh => (stpU_append sl41 rfl (id := 6) (sv hs 18 rfl) (by simp) (sv hs 24 rfl) rfl (hh.get 6 _ rfl) (hΦ 2 rfl) (Rdb.ro hr23) e30)) ?_
     rintro g _ _ ⟨p31, c32, C33, rfl, rfl, o33⟩
     exact ⟨⟨[p31], [c32], [C33]⟩, o33, .inr rfl, rfl⟩
    ·refine le rfl rfl (fun g hΦ s h hs hh => (stpU_lit0 sl41 7)) ?_
     rintro g _ _ ⟨p34, C35, rfl, rfl, o35⟩
     exact ⟨⟨[p34], [], [C35]⟩, o35, .inr rfl, rfl⟩
    ·refine le rfl rfl (fun g hΦ s h hs hh => (stpU_append sl41 rfl (id := 7) (sv hs 26 rfl) (by simp) (sv hs 32 rfl) rfl (hh.get 7 _ rfl) (hΦ 10 rfl) (Rdb.ro hs23) e36)) ?_
     rintro g _ _ ⟨p37, c38, C39, rfl, rfl, o39⟩
     exact ⟨⟨[p37], [c38], [C39]⟩, o39, .inr rfl, rfl⟩
    ·refine le rfl rfl (fun g hΦ s h hs hh => (stpU_keep (hh.get 7 _ rfl) (stpU_keep (hh.get 6 _ rfl) (stpU_lit (sz := 2) (l := [(⟨((g 9).A 0), (x30).length, ((g 9).C 0), ((g 17).A 0), (x36).length, ((g 17).C 0)⟩ : CpS)]) [.agg #[.slice ((g 9).A 0) ((x30).length) ((g 9).C 0), .slice ((g 17).A 0) ((x36).length) ((g 17).C 0)]] sl27 8 (sevp_cons (sv hs 34 rfl) sevp_nil) rfl rfl rfl rfl rfl rfl rfl rfl rfl) (by rintro _ _ ⟨_, _, rfl, rfl, _⟩; rfl) (hΦ 9 rfl)) (by rintro _ _ ⟨_, ⟨_, _, rfl, rfl, _⟩, rfl, _⟩; rfl) (hΦ 17 rfl))) ?_
     rintro g _ _ ⟨_, ⟨_, ⟨p40, C41, rfl, rfl, o41⟩, rfl, o44⟩, rfl, o47⟩
     exact ⟨⟨[p40, ((g 9).A 0), ((g 17).A 0)], [((g 9).C 0), ((g 17).C 0)], [C41, ((g 9).R 0), ((g 17).R 0)]⟩, ⟨o41, o44, o47⟩, .inr rfl, rfl⟩
    ·refine le rfl rfl (fun g hΦ s h hs hh => (stpU_keep (hh.get 7 _ rfl) (stpU_keep (hh.get 6 _ rfl) (stpU_appendR sl27 rfl (id := 1001) (sv hs 17 rfl) rfl (sv hs 35 rfl) rfl (hh.get 1001 _ rfl) o49 (Rdb.own (id := 8) (hh.get 8 _ rfl) (hΦ 19 rfl).1) hb50 rfl e51) (by rintro _ _ ⟨_, _, _, rfl, rfl, _⟩; rfl) (hΦ 19 rfl).2.1) (by rintro _ _ ⟨_, ⟨_, _, _, rfl, rfl, _⟩, rfl, _⟩; rfl) (hΦ 19 rfl).2.2)) ?_
     rintro g _ _ ⟨_, ⟨_, ⟨p52, c53, C54, rfl, rfl, o54⟩, rfl, o57⟩, rfl, o60⟩
     exact ⟨⟨[p52, ((g 19).A 1), ((g 19).A 2)], [c53, ((g 19).C 0), ((g 19).C 1)], [C54, ((g 19).R 1), ((g 19).R 2)]⟩, ⟨o54, o57, o60⟩, .inr rfl, rfl⟩
    refine le rfl rfl (fun g hΦ s h hs hh => (stpU_store (id := 4) (cs' := [.slice p4 ((x3.b).length) c6, .slice p8 ((x3.f).length) c10, .slice ((g 20).A 0) ((x51).length) ((g 20).C 0)]) ts27 (sv hs 37 rfl) (sv hs 36 rfl) (hh.get 4 _ rfl) rfl rfl rfl rfl)) ?_
    rintro g _ _ rfl
    exact ⟨⟨[], [], []⟩, trivial, .inl rfl, rfl⟩
   intro g hΦ
   refine kw_gen (ι := Option Addr × Res × Option Addr × Nat × Res × Option Addr × Res × Option Addr × Nat × Res × Option Addr × Option Addr × Option Addr × Nat × Nat × Res × Res × Res × Option Addr × Option Addr × Option Addr × Nat × Nat × Nat × Res × Res × Res) (((g 2).A 0), ((g 2).R 0), ((g 9).A 0), ((g 9).C 0), ((g 9).R 0), ((g 10).A 0), ((g 10).R 0), ((g 17).A 0), ((g 17).C 0), ((g 17).R 0), ((g 19).A 0), ((g 19).A 1), ((g 19).A 2), ((g 19).C 0), ((g 19).C 1), ((g 19).R 0), ((g 19).R 1), ((g 19).R 2), ((g 20).A 0), ((g 20).A 1), ((g 20).A 2), ((g 20).C 0), ((g 20).C 1), ((g 20).C 2), ((g 20).R 0), ((g 20).R 1), ((g 20).R 2)) (fun | (p20, C21, p31, c32, C33, p34, C35, p37, c38, C39, p40, p42, p45, c43, c46, C41, C44, C47, p52, p55, p58, c53, c56, c59, C54, C57, C60) => OwnC (α := Nt) 53 p20 0 ([] : List Nt) C21 ∧ OwnC 53 p31 c32 x30 C33 ∧ OwnC (α := Nt) 53 p34 0 ([] : List Nt) C35 ∧ OwnC 53 p37 c38 x36 C39 ∧ OwnC (α := CpS) 43 p40 1 ([(⟨p42, (x30).length, c43, p45, (x36).length, c46⟩ : CpS)]) C41 ∧ OwnC 53 p42 c43 x30 C44 ∧ OwnC 53 p45 c46 x36 C47 ∧ OwnC (α := CpS) 43 p52 c53 (u48 ++ [(⟨p55, (x30).length, c56, p58, (x36).length, c59⟩ : CpS)]) C54 ∧ OwnC 53 p55 c56 x30 C57 ∧ OwnC 53 p58 c59 x36 C60) (fun | (p20, C21, p31, c32, C33, p34, C35, p37, c38, C39, p40, p42, p45, c43, c46, C41, C44, C47, p52, p55, p58, c53, c56, c59, C54, C57, C60) => [(1, .pointer (some ⟨b1, 0, none⟩)), (2, .pointer (some ⟨b2, 0, none⟩)), (3, .pointer (some ⟨b12, 0, none⟩)), (4, .int .i64 v18)]) (fun | (p20, C21, p31, c32, C33, p34, C35, p37, c38, C39, p40, p42, p45, c43, c46, C41, C44, C47, p52, p55, p58, c53, c56, c59, C54, C57, C60) => [(0, [(b1, .cells #[.slice p0_0 ((a0.t.b).length) c0_0, .slice p0_1 ((a0.t.f).length) c0_1, .slice p0_2 ((a0.c).length) c0_2] 29 (0, 0))]), (1, [(b2, .cells #[.slice none 0 0, .slice none 0 0, .slice none 0 0] 29 (0, 0))]), (2, C7), (3, C11), (4, [(b12, .cells #[.slice p4 ((x3.b).length) c6, .slice p8 ((x3.f).length) c10, .slice p52 ((x51).length) c53] 29 (0, 0))]), (6, C57), (7, C60), (9, C50), (1001, C54)]) ⟨(hΦ 2 (by decide)), (hΦ 9 (by decide)), (hΦ 10 (by decide)), (hΦ 17 (by decide)), (hΦ 19 (by decide)).1, (hΦ 19 (by decide)).2.1, (hΦ 19 (by decide)).2.2, (hΦ 20 (by decide)).1, (hΦ 20 (by decide)).2.1, (hΦ 20 (by decide)).2.2⟩ ⟨rfl, rfl, rfl, rfl, trivial⟩ ⟨rfl, rfl, rfl, rfl, rfl, rfl, rfl, rfl, rfl, trivial⟩ ?_
   rintro ⟨p20, C21, p31, c32, C33, p34, C35, p37, c38, C39, p40, p42, p45, c43, c46, C41, C44, C47, p52, p55, p58, c53, c56, c59, C54, C57, C60⟩ ⟨o21, o33, o35, o39, o41, o44, o47, o54, o57, o60⟩
   dsimp only
   obtain ⟨x61, e61, H1⟩ := bS H1
   refine kw_bl_normal (kw_nx (cw_region (oM rfl (oP e61 rfl (oS rfl (ow_nil (kw_shut 1001 9 6 7 o54 (Bun.appZ hb50 e51) (app_get (Bun.len hb50)) (app_getZ e51) rfl o57 rfl o60 ?_)))))))
   rintro C62 o62
   exact kw_lqS (js := [0, 1, 2, 3, 4, 1001]) (fuel, x51, x61, p52, ((x51).length), c53, C62) ⟨H1, rfl, o62⟩ (Nat.lt_succ_self _) ⟨rfl, rfl, rfl, rfl, trivial⟩ ⟨0, [1, 2, 3, 4, 1001], rfl, rfl, 1, [2, 3, 4, 1001], rfl, rfl, 2, [3, 4, 1001], rfl, rfl, 3, [4, 1001], rfl, rfl, 4, [1001], rfl, rfl, 1001, [], rfl, rfl, trivial⟩ (by decide)
  have H1 := cond_f H1 h19
  refine cw_exit (kw_nx_exit (kw_lq_exit (kw_bl ?_)))
  obtain rfl := sI H1
  exact kw_joinS (js := [0, 1, 2, 3, 4, 1001]) (v13, v18, p14, ((v13).length), c16, C17) ⟨rfl, rfl, o17⟩ ⟨rfl, rfl, rfl, rfl, trivial⟩ ⟨0, [1, 2, 3, 4, 1001], rfl, rfl, 1, [2, 3, 4, 1001], rfl, rfl, 2, [3, 4, 1001], rfl, rfl, 3, [4, 1001], rfl, rfl, 4, [1001], rfl, rfl, 1001, [], rfl, rfl, trivial⟩ (by decide)
 rintro ⟨v13, v18, p14, _, c16, C17⟩ ⟨rfl, rfl, o17⟩
 dsimp only
 refine kw_nx (sr (oB3 4 ts29 rfl (oC3 1 ts29 rfl rfl (nn (cw_ret ?_)))))
 obtain rfl := sI H0
 exact kr Tryd.results36 (rC3 1 ts29 rfl rfl) [2, 3, 1001] ⟨_, _, _, _, _, _, _, _, _, _, _, _, rfl, rfl, rfl, o7, rfl, o11, rfl, o17⟩

theorem c_s_MapSystem (fl : Nat) (w : World) (a0 : Sy) (a1 : K) (a2 : Int) (a3 : Int) (hn0_0 : n0_0 = (a0.t.b).length) (hr0_0 : RO w (hkeys []) (RdL p0_0 c0_0 a0.t.b)) (hn0_1 : n0_1 = (a0.t.f).length) (hr0_1 : RO w (hkeys []) (RdL p0_1 c0_1 a0.t.f)) (hn0_2 : n0_2 = (a0.c).length) (hr0_2 : ROD w (hkeys []) p0_2 c0_2 a0.c) (r : Sy × Bool) (H0 : s_MapSystem fl a0 a1 a2 a3 = some r) :
  Ct Tryd.prog 42 [.agg #[.slice p0_0 n0_0 c0_0, .slice p0_1 n0_1 c0_1, .slice p0_2 n0_2 c0_2], .agg #[.int .i64 a1.s, .int .i64 a1.p], .int .i64 a2, .int .i64 a3] w [] (fun rv h' => ∃ (x0 : Option Addr) (y0 z0 : Nat) (C0 : Res) (x1 : Option Addr) (y1 z1 : Nat) (C1 : Res) (x2 : Option Addr) (y2 z2 : Nat) (C2 : Res), rv = .tuple #[.agg #[.slice x0 y0 z0, .slice x1 y1 z1, .slice x2 y2 z2], .bool r.2] ∧ h' = [(0, C0), (1, C1), (2, C2)] ∧ y0 = (r.1.t.b).length ∧ OwnC 3 x0 z0 r.1.t.b C0 ∧ y1 = (r.1.t.f).length ∧ OwnC 61 x1 z1 r.1.t.f C1 ∧ y2 = (r.1.c).length ∧ OwnD 43 53 x2 z2 r.1.c C2) := by
 subst hn0_0 hn0_1 hn0_2
 unfold s_MapSystem at H0
 refine ct_of_cw Tryd.func42 rfl Tryd.ntmps42 rfl (Sat.refl _ _) ?_
 refine sr (oE (stpU_box 0 rfl rfl) rfl ?_)
 rintro _ _ ⟨b1, rfl, rfl⟩
 refine oE (stpU_box 1 rfl rfl) rfl ?_
 rintro _ _ ⟨b2, rfl, rfl⟩
 refine oE (stpU_alloc 2 tz29 rfl) rfl ?_
 rintro _ _ ⟨b3, rfl, rfl⟩
 obtain ⟨x4, e4, H0⟩ := bS H0
 refine oS rfl (nn (cw_seq (sr (oB3 0 ts29 rfl (oE (stpU_call (fun i => 3 + i) cf62 (fun w hw => c_s_SystemValid fl w a0 rfl (RO.pass hr0_0 hw) rfl (RO.pass hr0_1 hw) rfl (ROD.pass hr0_2 hw) x4 e4) (yA rfl)) rfl ?_)))))
 rintro _ _ ⟨_, ⟨rfl, rfl⟩, rfl⟩
 obtain ⟨y5, ey5, H0⟩ := bS H0
 refine oK rfl (oM rfl (ow_cutY 5 21 y5 ?_ ?_))
 ·rcases Bool.eq_false_or_eq_true (!x4) with hy5 | hy5
  ·have ey5 := cond_t ey5 hy5
   refine oO rfl hy5 rfl (oO rfl hy5 rfl (oO rfl hy5 rfl (oO rfl hy5 rfl (oD (stp_pick_t rfl hy5 rfl) rfl ?_))))
   obtain rfl := sI ey5
   exact ow_nil (jy 5 0)
  have ey5 := cond_f ey5 hy5
  obtain ⟨x6, e6, ey5⟩ := bS ey5
  refine oG rfl hy5 (stp_loadN (us := [_, _, _]) ts29 rfl (Cells.box (id := 0) rfl 3 rfl)) rfl (oG rfl hy5 (mv rfl) rfl (oG rfl hy5 (stp_loadN (us := [_, _]) ts36 rfl (Cells.box (id := 1) rfl 2 rfl)) rfl (ow_eff (.some rfl hy5) (stpU_call (fun i => 3 + i) cf69 (fun w hw => c_s_l8Held fl w a0 a2 a1 rfl (RO.pass hr0_0 hw) rfl (RO.pass hr0_1 hw) rfl (ROD.pass hr0_2 hw) x6 e6) (yC rfl rfl rfl)) rfl ?_)))
  rintro _ _ ⟨_, ⟨rfl, rfl⟩, rfl⟩
  refine oD (stp_pick_f rfl hy5 rfl) rfl ?_
  obtain rfl := sI ey5
  exact ow_nil (jy 5 0)
 refine ow_nil (kw_nx (cw_cond rfl (fun h7 => ?_) (fun h7 => ?_)))
 ·have H0 := cond_t H0 h7
  refine sr (oD (stp_build (cs := #[.slice none 0 0, .slice none 0 0, .slice none 0 0]) sevp_nil bt29_2) rfl (oC3 2 ts29 rfl rfl (oS rfl (nn (cw_ret (kw_nx_ret (kw_addNil 3 (kw_addNil 4 (kw_addNil 5 ?_)))))))))
  obtain rfl := sI H0
  exact kr Tryd.results42 (.cons (.cellN (us := [_, _, _]) ts29 rfl (Cells.box (id := 2) rfl 3 rfl)) (rT rfl)) [3, 4, 5] ⟨_, _, _, _, _, _, _, _, _, _, _, _, rfl, rfl, rfl, (OwnC.nil _ _), rfl, (OwnC.nil _ _), rfl, (OwnD.nil _ _ _)⟩
 have H0 := cond_f H0 h7
 obtain ⟨x8, e8, H0⟩ := bS H0
 refine cw_skip (kw_nx (sr (oA 0 Tryd.underlying29 rfl ts26 rfl (oB2 0 ts26 rfl (oB2 1 ts36 rfl (oM rfl (oM rfl (oE (stpU_call (fun i => 6 + i) cf70 (fun w hw => c_s_MapPage fl w a0.t a1 a2 a3 rfl (RO.pass hr0_0 hw) rfl (RO.pass hr0_1 hw) x8 e8) (yD rfl rfl rfl rfl)) rfl ?_))))))))
 rintro _ _ ⟨_, ⟨p9, _, c11, C12, p13, _, c15, C16, rfl, rfl, rfl, o12, rfl, o16⟩, rfl⟩
 refine oM rfl (oT rfl (oT rfl (oE (stpU_alloc 8 tz26 rfl) rfl ?_)))
 rintro _ _ ⟨b17, rfl, rfl⟩
 refine oC2 8 ts26 rfl rfl (oS rfl (nn (cw_seq (sr (oM rfl (oK rfl (nn (cw_cond rfl (fun h18 => ?_) (fun h18 => ?_)))))))))
 ·have H0 := cond_t H0 h18
  refine sr (oD (stp_build (cs := #[.slice none 0 0, .slice none 0 0, .slice none 0 0]) sevp_nil bt29_2) rfl (oC3 2 ts29 rfl rfl (oS rfl (nn (cw_ret (kw_nx_ret (kw_addNil 9 (kw_addNil 10 (kw_addNil 11 ?_)))))))))
  obtain rfl := sI H0
  exact kr Tryd.results42 (.cons (.cellN (us := [_, _, _]) ts29 rfl (Cells.box (id := 2) rfl 3 rfl)) (rT rfl)) [9, 10, 11] ⟨_, _, _, _, _, _, _, _, _, _, _, _, rfl, rfl, rfl, (OwnC.nil _ _), rfl, (OwnC.nil _ _), rfl, (OwnD.nil _ _ _)⟩
 have H0 := cond_f H0 h18
 obtain ⟨x19, e19, H0⟩ := bS H0
 refine cw_skip (kw_nx (sr (oB3 0 ts29 rfl (oE (stpU_call (fun i => 12 + i) cf36 (fun w hw => c_s_l8Copy fl w a0 rfl (RO.pass hr0_0 hw) rfl (RO.pass hr0_1 hw) rfl (ROD.pass hr0_2 hw) x19 e19) (yA rfl)) rfl ?_))))
 rintro _ _ ⟨_, ⟨p20, _, c22, C23, p24, _, c26, C27, p28, _, c30, C31, rfl, rfl, rfl, o23, rfl, o27, rfl, o31⟩, rfl⟩
 refine oE (stpU_alloc 15 tz29 rfl) rfl ?_
 rintro _ _ ⟨b32, rfl, rfl⟩
 refine oC3 15 ts29 rfl rfl (nn (sr (oB2 8 ts26 rfl (oA 0 Tryd.underlying29 rfl ts26 rfl (oC3 15 ts26 rfl rfl (nn (sr (oB3 15 ts29 rfl (oC3 2 ts29 rfl rfl (oS rfl (nn (cw_ret ?_))))))))))))
 obtain rfl := sI H0
 exact kr Tryd.results42 (.cons (.cellN (us := [_, _, _]) ts29 rfl (Cells.box (id := 2) rfl 3 rfl)) (rT rfl)) [6, 7, 14] ⟨_, _, _, _, _, _, _, _, _, _, _, _, rfl, rfl, rfl, o12, rfl, o16, rfl, o31⟩

theorem c_s_KeyBefore (fl : Nat) (w : World) (a0 : K) (a1 : K) (r : Bool) (H0 : s_KeyBefore fl a0 a1 = some r) :
  Ct Tryd.prog 72 [.agg #[.int .i64 a0.s, .int .i64 a0.p], .agg #[.int .i64 a1.s, .int .i64 a1.p]] w [] (fun rv h' => rv = .bool r ∧ h' = []) := by
 unfold s_KeyBefore at H0
 refine ct_of_cw Tryd.func72 rfl Tryd.ntmps72 rfl (Sat.refl _ _) ?_
 refine sr (oE (stpU_box 0 rfl rfl) rfl ?_)
 rintro _ _ ⟨b1, rfl, rfl⟩
 refine oE (stpU_box 1 rfl rfl) rfl ?_
 rintro _ _ ⟨b2, rfl, rfl⟩
 obtain ⟨y3, ey3, H0⟩ := bS H0
 refine oS rfl (nn (sr (oA 0 Tryd.underlying36 rfl ts3 rfl (oL 0 ts3 rfl (oA 0 Tryd.underlying36 rfl ts3 rfl (oL 1 ts3 rfl (oW rfl (oM rfl (ow_cutY 13 23 y3 ?_ ?_)))))))))
 ·rcases Bool.eq_false_or_eq_true (decide (a0.s < a1.s)) with hy3 | hy3
  ·have ey3 := cond_t ey3 hy3
   refine oO rfl hy3 rfl (oO rfl hy3 rfl (oO rfl hy3 rfl (oO rfl hy3 rfl (oO rfl hy3 rfl (oO rfl hy3 rfl (oX rfl rfl rfl (oX rfl rfl rfl (oX rfl rfl rfl (oX rfl rfl rfl (oX rfl rfl rfl (oO rfl hy3 rfl (oD (stp_pick_t rfl hy3 rfl) rfl ?_))))))))))))
   obtain rfl := sI ey3
   exact ow_nil (jy 13 0)
  have ey3 := cond_f ey3 hy3
  obtain ⟨y4, ey4, ey3⟩ := bS ey3
  refine oG rfl hy3 (fA 0 Tryd.underlying36 rfl ts3 rfl rfl rfl) rfl (oG rfl hy3 (lB 0 ts3 rfl rfl rfl) rfl (oG rfl hy3 (fA 0 Tryd.underlying36 rfl ts3 rfl rfl rfl) rfl (oG rfl hy3 (lB 1 ts3 rfl rfl rfl) rfl (oG rfl hy3 (stp_eql rfl rfl) rfl (oG rfl hy3 (mv rfl) rfl (ow_cutY 6 22 y4 ?_ ?_))))))
  ·rcases Bool.eq_false_or_eq_true (a0.s == a1.s) with hy4 | hy4
   ·have ey4 := cond_t ey4 hy4
    refine oG rfl hy4 (fA 1 Tryd.underlying36 rfl ts3 rfl rfl rfl) rfl (oG rfl hy4 (lB 0 ts3 rfl rfl rfl) rfl (oG rfl hy4 (fA 1 Tryd.underlying36 rfl ts3 rfl rfl rfl) rfl (oG rfl hy4 (lB 1 ts3 rfl rfl rfl) rfl (oG rfl hy4 (stp_lss rfl rfl) rfl (oG rfl hy3 (stp_pick_t rfl hy4 rfl) rfl ?_)))))
    obtain rfl := sI ey4
    exact ow_nil (jy 6 0)
   have ey4 := cond_f ey4 hy4
   refine oO rfl hy4 rfl (oO rfl hy4 rfl (oO rfl hy4 rfl (oO rfl hy4 rfl (oO rfl hy4 rfl (oG rfl hy3 (stp_pick_f rfl hy4 rfl) rfl ?_)))))
   obtain rfl := sI ey4
   exact ow_nil (jy 6 0)
  refine oD (stp_pick_f rfl hy3 rfl) rfl ?_
  obtain rfl := sI ey3
  exact ow_nil (jy 8 0)
 refine oS rfl (nn (cw_ret ?_))
 obtain rfl := sI H0
 exact kr Tryd.results72 (rT rfl) [] ⟨rfl, rfl⟩
end Go.Proofs.YtciliaiocakdkaaDoor
