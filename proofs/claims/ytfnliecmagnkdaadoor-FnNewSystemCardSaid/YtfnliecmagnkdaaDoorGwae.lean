/- The walks: functions of the program return what their pure functions say. Printed by a program (gen.py). -/
import Derived.Test.YtfnliecmagnkdaaDoorGp
import Derived.Test.YtfnliecmagnkdaaDoorGt
import Derived.Test.YtfnliecmagnkdaaDoorMan
import Derived.Test.YtfnliecmagnkdaaDoorMap
import Derived.Test.YtfnliecmagnkdaaDoorCpy
import Derived.Test.YtfnliecmagnkdaaDoorClr
import Derived.Test.YtfnliecmagnkdaaDoorDp
import Derived.Test.YtfnliecmagnkdaaDoorSrt
import Derived.Test.YtfnliecmagnkdaaDoorE8
set_option linter.unusedSimpArgs false
set_option linter.unusedVariables false
set_option linter.unusedSectionVars false
namespace Go.Proofs.YtfnliecmagnkdaaDoor
open Go.RowKit
set_option maxHeartbeats 4000000
set_option maxRecDepth 20000
variable {p0_0_0 p1_0 : Option Addr} {n0_0_0 n1_0 : Nat} {c0_0_0 c1_0 : Nat}
theorem c_s_l12Rd_pick (fl : Nat) (w : World) (m0 : Nat) (a0_0 : (List UInt8)) (a0_1 : Int) (a1 : Int) (hn0_0_0 : n0_0_0 = (a0_0).length) (hr0_0_0 : RO w (hkeys [(0, [(m0, .cells #[.slice p0_0_0 n0_0_0 c0_0_0, .int .i64 a0_1] 137 (0, 0))])]) (RdL p0_0_0 c0_0_0 a0_0)) (hM : Sat w (hkeys [(0, [(m0, .cells #[.slice p0_0_0 n0_0_0 c0_0_0, .int .i64 a0_1] 137 (0, 0))])]) w [(0, [(m0, .cells #[.slice p0_0_0 n0_0_0 c0_0_0, .int .i64 a0_1] 137 (0, 0))])]) (r : Int × Int) (H0 : s_l12Rd_pick fl a0_0 a0_1 a1 = some r) :
  Ct Tryd.prog 62 [.pointer (some ⟨m0, 0, none⟩), .int .i64 a1] w [(0, [(m0, .cells #[.slice p0_0_0 n0_0_0 c0_0_0, .int .i64 a0_1] 137 (0, 0))])] (fun rv h' => rv = .int .i64 r.1 ∧ h' = [(0, [(m0, .cells #[.slice p0_0_0 n0_0_0 c0_0_0, .int .i64 r.2] 137 (0, 0))])]) := by
 subst hn0_0_0
 unfold s_l12Rd_pick at H0
 refine ct_of_cw Tryd.func62 rfl Tryd.ntmps62 rfl hM ?_
 obtain ⟨x1, e1, H0⟩ := bS H0
 refine sr (oS rfl (nn (sr (oM rfl (oM rfl (oZ rfl (oA 1 Tryd.underlying137 rfl ts3 rfl (oL 0 ts3 rfl (oP e1 rfl (oZ rfl (oA 1 Tryd.underlying137 rfl ts3 rfl (oC2 0 ts3 rfl rfl (nn ?_)))))))))))))
 obtain ⟨y2, ey2, H0⟩ := bS H0
 refine cw_seq (sr (oM rfl (oW rfl (oM rfl (ow_cutY 7 24 y2 ?_ ?_)))))
 ·rcases Bool.eq_false_or_eq_true (decide (a1 < 1)) with hy2 | hy2
  ·have ey2 := cond_t ey2 hy2
   refine oO rfl hy2 rfl (oO rfl hy2 rfl (oO rfl hy2 rfl (oO rfl hy2 rfl (oO rfl hy2 rfl (oO rfl hy2 rfl (oD (stp_pick_t rfl hy2 rfl) rfl ?_))))))
   obtain rfl := sI ey2
   exact ow_nil (jy 7 0)
  have ey2 := cond_f ey2 hy2
  refine oG rfl hy2 (mv rfl) rfl (oG rfl hy2 (stp_nilCheck rfl) rfl (oG rfl hy2 (fA 0 Tryd.underlying137 rfl ts40 rfl rfl rfl) rfl (oG rfl hy2 (lB 0 ts40 rfl rfl rfl) rfl (oG rfl hy2 (stp_len Tryd.underlying40 rfl) rfl (oG rfl hy2 (stp_eql rfl rfl) rfl (oD (stp_pick_f rfl hy2 rfl) rfl ?_))))))
  obtain rfl := sI ey2
  exact ow_nil (jy 7 0)
 refine ow_nil (kw_nx (cw_cond rfl (fun h3 => ?_) (fun h3 => ?_)))
 ·have H0 := cond_t H0 h3
  refine sr (oS rfl (nn (cw_ret (kw_nx_ret ?_))))
  obtain rfl := sI H0
  exact kr Tryd.results62 (rT rfl) [0] ⟨rfl, rfl⟩
 have H0 := cond_f H0 h3
 obtain ⟨x4, e4, H0⟩ := bS H0
 refine cw_skip (kw_nx (sr (oM rfl (oZ rfl (oA 1 Tryd.underlying137 rfl ts3 rfl (oL 0 ts3 rfl (oD (stp_sub rfl rfl e4) rfl (oS rfl (nn (cw_seq (sr (oM rfl (oM rfl ?_)))))))))))))
 refine oZ rfl (oA 0 Tryd.underlying137 rfl ts40 rfl (oL 0 ts40 rfl (oD (stp_len Tryd.underlying40 rfl) rfl (oW rfl (nn (cw_cond rfl (fun h5 => ?_) (fun h5 => ?_)))))))
 ·have H0 := cond_t H0 h5
  obtain ⟨x6, e6, H0⟩ := bS H0
  obtain ⟨x7, e7, H0⟩ := bS H0
  obtain ⟨x8, e8, H0⟩ := bS H0
  refine sr (oM rfl (oZ rfl (oA 0 Tryd.underlying137 rfl ts40 rfl (oL 0 ts40 rfl (oM rfl (oD (stp_indexAddr Tryd.underlying40 ts5 (by decide) rfl rfl rfl (Rdb.ro hr0_0_0) e6) rfl (oD (stp_load1 ts5 rfl (Cells.el (Rdb.ro hr0_0_0) (by decide) e6 0 1 rfl)) rfl (oD (stp_convI Tryd.underlying5 Tryd.underlying3 rfl e7) rfl (oM rfl (oD (stp_rem rfl rfl e8) rfl (oS rfl (nn (cw_ret ?_)))))))))))))
  refine kw_nx_ret ?_
  obtain rfl := sI H0
  exact kr Tryd.results62 (rT rfl) [0] ⟨rfl, rfl⟩
 have H0 := cond_f H0 h5
 obtain ⟨x9, e9, H0⟩ := bS H0
 obtain ⟨x10, e10, H0⟩ := bS H0
 obtain ⟨x11, e11, H0⟩ := bS H0
 obtain ⟨x12, e12, H0⟩ := bS H0
 obtain ⟨x13, e13, H0⟩ := bS H0
 obtain ⟨x14, e14, H0⟩ := bS H0
 obtain ⟨x15, e15, H0⟩ := bS H0
 obtain ⟨x16, e16, H0⟩ := bS H0
 obtain ⟨x17, e17, H0⟩ := bS H0
 obtain ⟨x18, e18, H0⟩ := bS H0
 obtain ⟨x19, e19, H0⟩ := bS H0
 obtain ⟨x20, e20, H0⟩ := bS H0
 obtain ⟨x21, e21, H0⟩ := bS H0
 obtain ⟨x22, e22, H0⟩ := bS H0
 obtain ⟨x23, e23, H0⟩ := bS H0
 obtain ⟨x24, e24, H0⟩ := bS H0
 refine cw_skip (kw_nx (cw_seq (rdq g_mixed [0, 5] [0] { dst := dS [48, 49, 50, 51, 52, 53, 54, 55, 56, 57, 58, 59, 60, 61, 62, 63, 64, 65, 66, 67, 68, 69, 70, 71, 72, 73, 74, 75, 76, 77, 78, 79, 80, 81, 82, 83, 84, 85, 86, 87, 88, 89, 90, 91, 92, 7], pre := gA [] [[], [0], [0, 1], [0, 1, 2], [], [], [5], [5, 6], [5, 6, 7], rn 5 4, rn 4 6, rn 0 11, rn 0 12, rn 0 13, rn 0 14, [], [15], [15, 16], [15, 16, 17], [], [19], [19, 20], [], [22], [22, 23], [22, 23, 24], rn 22 4, rn 19 8, rn 15 13, rn 15 14, rn 15 15, rn 15 16, rn 0 32, [], [33], rn 0 35, [], [], [37], [37, 38], [37, 38, 39], rn 37 4, rn 36 6, rn 36 7, rn 0 44, rn 0 45], ids := fun _ => [], rs := rL [[(0, 0)], [(47, 1)], [(48, 2)], [(49, 3)], [(5, 0)], [(0, 0)], [(52, 6)], [(53, 7)], [(54, 8)], [(55, 9)], [(51, 5), (56, 10)], [(50, 4), (57, 11)], [(58, 12)], [(59, 13)], [(60, 14)], [(0, 0)], [(62, 16)], [(63, 17)], [(64, 18)], [(5, 0)], [(66, 20)], [(67, 21)], [(0, 0)], [(69, 23)], [(70, 24)], [(71, 25)], [(72, 26)], [(68, 22), (73, 27)], [(65, 19), (74, 28)], [(75, 29)], [(76, 30)], [(77, 31)], [(61, 15), (78, 32)], [(5, 0)], [(80, 34)], [(79, 33), (81, 35)], [(5, 0)], [(0, 0)], [(84, 38)], [(85, 39)], [(86, 40)], [(87, 41)], [(83, 37), (88, 42)], [(89, 43)], [(82, 36), (90, 44)], [(91, 45)]], rh := rL [[], [], [], [(0, 0)], [], [], [], [], [(0, 0)], [], [], [], [], [], [], [], [], [], [(0, 0)], [], [], [], [], [], [], [(0, 0)], [], [], [], [], [], [], [], [], [], [], [], [], [], [], [(0, 0)]], V := fun i g => gA undef [.pointer (some ⟨m0, 0, none⟩), .pointer (some ⟨m0, 0, none⟩), .pointer (some ⟨m0, 0, none⟩), .slice p0_0_0 ((a0_0).length) c0_0_0, .int .i64 x4, .pointer (some ⟨m0, 0, none⟩), .pointer (some ⟨m0, 0, none⟩), .pointer (some ⟨m0, 0, none⟩), .slice p0_0_0 ((a0_0).length) c0_0_0, .int .i64 ((a0_0).length : Int), .int .i64 x9, .pointer (some ⟨eB p0_0_0, eO p0_0_0 + Int.toNat x9 * Enc.sz UInt8 + 0, none⟩), .int .u8 (x10.toNat : Int), .int .i64 x11, .int .i64 x12, .pointer (some ⟨m0, 0, none⟩), .pointer (some ⟨m0, 0, none⟩), .pointer (some ⟨m0, 0, none⟩), .slice p0_0_0 ((a0_0).length) c0_0_0, .int .i64 x4, .int .i64 x13, .int .i64 x14, .pointer (some ⟨m0, 0, none⟩), .pointer (some ⟨m0, 0, none⟩), .pointer (some ⟨m0, 0, none⟩), .slice p0_0_0 ((a0_0).length) c0_0_0, .int .i64 ((a0_0).length : Int), .int .i64 x15, .pointer (some ⟨eB p0_0_0, eO p0_0_0 + Int.toNat x15 * Enc.sz UInt8 + 0, none⟩), .int .u8 (x16.toNat : Int), .int .i64 x17, .int .i64 x18, .int .i64 x19, .int .i64 x4, .int .i64 x20, .int .i64 x21, .int .i64 x4, .pointer (some ⟨m0, 0, none⟩), .pointer (some ⟨m0, 0, none⟩), .pointer (some ⟨m0, 0, none⟩), .slice p0_0_0 ((a0_0).length) c0_0_0, .int .i64 ((a0_0).length : Int), .int .i64 x22, .int .i64 x23, .int .i64 x24, .int .i64 x24] i, U := fun _ _ => [], Φ := fun _ _ => True } ?_ ?_)))
 ·exact ⟨lM, lc rfl rfl fun hs hh => stp_nilCheck (sv hs 47 rfl), lc rfl rfl fun hs hh => stp_fieldAddr (j := 0) Tryd.underlying137 rfl ts40 rfl (sv hs 48 rfl) rfl, lc rfl rfl fun hs hh => stp_load1 ts40 (sv hs 49 rfl) (Cells.box (id := 0) (hh.get 0 _ rfl) 1 rfl), lM, lM, lc rfl rfl fun hs hh => stp_nilCheck (sv hs 52 rfl), lc rfl rfl fun hs hh => stp_fieldAddr (j := 0) Tryd.underlying137 rfl ts40 rfl (sv hs 53 rfl) rfl, lc rfl rfl fun hs hh => stp_load1 ts40 (sv hs 54 rfl) (Cells.box (id := 0) (hh.get 0 _ rfl) 1 rfl), lc rfl rfl fun hs hh => stp_len Tryd.underlying40 (sv hs 55 rfl), lc rfl rfl fun hs hh => stp_rem (sv hs 51 rfl) (sv hs 56 rfl) e9, lc rfl rfl fun hs hh => stp_indexAddr Tryd.underlying40 ts5 (by decide) (sv hs 50 rfl) rfl (sv hs 57 rfl) (Rdb.ro hr0_0_0) e10, lc rfl rfl fun hs hh => stp_load1 ts5 (sv hs 58 rfl) (Cells.el (Rdb.ro hr0_0_0) (by decide) e10 0 1 rfl), lc rfl rfl fun hs hh => stp_convI Tryd.underlying5 Tryd.underlying3 (sv hs 59 rfl) e11, lc rfl rfl fun hs hh => stp_mul (sv hs 60 rfl) rfl e12, lM, lc rfl rfl fun hs hh => stp_nilCheck (sv hs 62 rfl), lc rfl rfl fun hs hh => stp_fieldAddr (j := 0) Tryd.underlying137 rfl ts40 rfl (sv hs 63 rfl) rfl, lc rfl rfl fun hs hh => stp_load1 ts40 (sv hs 64 rfl) (Cells.box (id := 0) (hh.get 0 _ rfl) 1 rfl), lM, lc rfl rfl fun hs hh => stp_mul (sv hs 66 rfl) rfl e13, lc rfl rfl fun hs hh => stp_add (sv hs 67 rfl) rfl e14, lM, lc rfl rfl fun hs hh => stp_nilCheck (sv hs 69 rfl), lc rfl rfl fun hs hh => stp_fieldAddr (j := 0) Tryd.underlying137 rfl ts40 rfl (sv hs 70 rfl) rfl, lc rfl rfl fun hs hh => stp_load1 ts40 (sv hs 71 rfl) (Cells.box (id := 0) (hh.get 0 _ rfl) 1 rfl), lc rfl rfl fun hs hh => stp_len Tryd.underlying40 (sv hs 72 rfl), lc rfl rfl fun hs hh => stp_rem (sv hs 68 rfl) (sv hs 73 rfl) e15, lc rfl rfl fun hs hh => stp_indexAddr Tryd.underlying40 ts5 (by decide) (sv hs 65 rfl) rfl (sv hs 74 rfl) (Rdb.ro hr0_0_0) e16, lc rfl rfl fun hs hh => stp_load1 ts5 (sv hs 75 rfl) (Cells.el (Rdb.ro hr0_0_0) (by decide) e16 0 1 rfl), lc rfl rfl fun hs hh => stp_convI Tryd.underlying5 Tryd.underlying3 (sv hs 76 rfl) e17, lc rfl rfl fun hs hh => stp_mul (sv hs 77 rfl) rfl e18, lc rfl rfl fun hs hh => stp_add (sv hs 61 rfl) (sv hs 78 rfl) e19, lM, lc rfl rfl fun hs hh => stp_mul (sv hs 80 rfl) rfl e20, lc rfl rfl fun hs hh => stp_add (sv hs 79 rfl) (sv hs 81 rfl) e21, lM, lM, lc rfl rfl fun hs hh => stp_nilCheck (sv hs 84 rfl), lc rfl rfl fun hs hh => stp_fieldAddr (j := 0) Tryd.underlying137 rfl ts40 rfl (sv hs 85 rfl) rfl, lc rfl rfl fun hs hh => stp_load1 ts40 (sv hs 86 rfl) (Cells.box (id := 0) (hh.get 0 _ rfl) 1 rfl), lc rfl rfl fun hs hh => stp_len Tryd.underlying40 (sv hs 87 rfl), lc rfl rfl fun hs hh => stp_quo (sv hs 83 rfl) (sv hs 88 rfl) e22, lc rfl rfl fun hs hh => stp_mul (sv hs 89 rfl) rfl e23, lc rfl rfl fun hs hh => stp_add (sv hs 82 rfl) (sv hs 90 rfl) e24, lS, trivial⟩
 intro g hΦ
 refine KW.sub (s' := [(1, .int .i64 a1), (6, .int .i64 x24)]) (h' := [(0, [(m0, .cells #[.slice p0_0_0 ((a0_0).length) c0_0_0, .int .i64 x1] 137 (0, 0))])]) ?_ ⟨rfl, rfl, trivial⟩ ⟨rfl, trivial⟩
 obtain ⟨x25, e25, H0⟩ := bS H0
 obtain ⟨x26, e26, H0⟩ := bS H0
 refine kw_nx (sr (oM rfl (oM rfl (oD (stp_quo rfl rfl e25) rfl (oD (stp_xor rfl rfl) rfl (oS rfl (nn (sr (oM rfl (oM rfl (oD (stp_rem rfl rfl e26) rfl (oS rfl (nn ?_)))))))))))))
 refine cw_ret ?_
 obtain rfl := sI H0
 exact kr Tryd.results62 (rT rfl) [0] ⟨rfl, rfl⟩

theorem c_s_l12Rd_num (fl : Nat) (w : World) (m0 : Nat) (a0_0 : (List UInt8)) (a0_1 : Int) (a1 : (List Int)) (hn0_0_0 : n0_0_0 = (a0_0).length) (hr0_0_0 : RO w (hkeys [(0, [(m0, .cells #[.slice p0_0_0 n0_0_0 c0_0_0, .int .i64 a0_1] 137 (0, 0))])]) (RdL p0_0_0 c0_0_0 a0_0)) (hn1_0 : n1_0 = (a1).length) (hr1_0 : RO w (hkeys [(0, [(m0, .cells #[.slice p0_0_0 n0_0_0 c0_0_0, .int .i64 a0_1] 137 (0, 0))])]) (RdL p1_0 c1_0 a1)) (hM : Sat w (hkeys [(0, [(m0, .cells #[.slice p0_0_0 n0_0_0 c0_0_0, .int .i64 a0_1] 137 (0, 0))])]) w [(0, [(m0, .cells #[.slice p0_0_0 n0_0_0 c0_0_0, .int .i64 a0_1] 137 (0, 0))])]) (r : Int × Int) (H0 : s_l12Rd_num fl a0_0 a0_1 a1 = some r) :
  Ct Tryd.prog 83 [.pointer (some ⟨m0, 0, none⟩), .slice p1_0 n1_0 c1_0] w [(0, [(m0, .cells #[.slice p0_0_0 n0_0_0 c0_0_0, .int .i64 a0_1] 137 (0, 0))])] (fun rv h' => rv = .int .i64 r.1 ∧ h' = [(0, [(m0, .cells #[.slice p0_0_0 n0_0_0 c0_0_0, .int .i64 r.2] 137 (0, 0))])]) := by
 subst hn0_0_0 hn1_0
 unfold s_l12Rd_num at H0
 refine ct_of_cw Tryd.func83 rfl Tryd.ntmps83 rfl hM ?_
 obtain ⟨x1, e1, H0⟩ := bS H0
 refine sr (oS rfl (nn (sr (oM rfl (oM rfl (oM rfl (oD (stp_len Tryd.underlying22 rfl) rfl (oE (stpU_callM (fun i => bif Nat.beq i 0 then 0 else 1 + i) cf62 (fun w hw hb => c_s_l12Rd_pick fl w m0 a0_0 a0_1 ((a1).length : Int) rfl (RO.passM hr0_0_0 hw hb) (hw.pass (js := [0]) ⟨0, [], rfl, rfl, trivial⟩ (by decide)) x1 e1) (yB rfl rfl) ⟨rfl, (fun _ _ hp => by obtain ⟨_, rfl⟩ := hp; exact ⟨_, rfl⟩), trivial⟩) rfl ?_))))))))
 rintro _ _ ⟨_, ⟨rfl, rfl⟩, rfl⟩
 obtain ⟨x2, e2, H0⟩ := bS H0
 refine oD (stp_indexAddr Tryd.underlying22 ts3 (by decide) rfl rfl rfl (Rdb.ro hr1_0) e2) rfl (oD (stp_load1 ts3 rfl (Cells.el (Rdb.ro hr1_0) (by decide) e2 0 1 rfl)) rfl (oS rfl (nn (cw_ret ?_))))
 obtain rfl := sI H0
 exact kr Tryd.results83 (rT rfl) [0] ⟨rfl, rfl⟩

theorem c_s_l2Buckets (fl : Nat) (w : World) (a0 : Int) (r : Bool) (H0 : s_l2Buckets fl a0 = some r) :
  Ct Tryd.prog 102 [.int .i64 a0] w [] (fun rv h' => rv = .bool r ∧ h' = []) := by
 unfold s_l2Buckets at H0
 refine ct_of_cw Tryd.func102 rfl Tryd.ntmps102 rfl (Sat.refl _ _) ?_
 obtain ⟨y1, ey1, H0⟩ := bS H0
 refine sr (oS rfl (nn (sr (oM rfl (oI rfl (oM rfl (ow_cutY 3 8 y1 ?_ ?_)))))))
 ·rcases Bool.eq_false_or_eq_true (decide (1 ≤ a0)) with hy1 | hy1
  ·have ey1 := cond_t ey1 hy1
   refine oG rfl hy1 (mv rfl) rfl (oG rfl hy1 (stp_leq rfl rfl) rfl (oD (stp_pick_t rfl hy1 rfl) rfl ?_))
   obtain rfl := sI ey1
   exact ow_nil (jy 3 0)
  have ey1 := cond_f ey1 hy1
  refine oO rfl hy1 rfl (oO rfl hy1 rfl (oD (stp_pick_f rfl hy1 rfl) rfl ?_))
  obtain rfl := sI ey1
  exact ow_nil (jy 3 0)
 refine oS rfl (nn (cw_ret ?_))
 obtain rfl := sI H0
 exact kr Tryd.results102 (rT rfl) [] ⟨rfl, rfl⟩

theorem c_s_NewTable (fl : Nat) (w : World) (a0 : Int) (a1 : Int) (r : T × Bool) (H0 : s_NewTable fl a0 a1 = some r) :
  Ct Tryd.prog 85 [.int .i64 a0, .int .i64 a1] w [] (fun rv h' => ∃ (x0 : Option Addr) (y0 z0 : Nat) (C0 : Res) (x1 : Option Addr) (y1 z1 : Nat) (C1 : Res), rv = .tuple #[.agg #[.slice x0 y0 z0, .slice x1 y1 z1], .bool r.2] ∧ h' = [(0, C0), (1, C1)] ∧ y0 = (r.1.b).length ∧ OwnC 3 x0 z0 r.1.b C0 ∧ y1 = (r.1.f).length ∧ OwnC 84 x1 z1 r.1.f C1) := by
 unfold s_NewTable at H0
 refine ct_of_cw Tryd.func85 rfl Tryd.ntmps85 rfl (Sat.refl _ _) ?_
 refine sr (oE (stpU_alloc 0 tz33 rfl) rfl ?_)
 rintro _ _ ⟨b1, rfl, rfl⟩
 obtain ⟨y2, ey2, H0⟩ := bS H0
 refine oS rfl (nn (cw_seq (sr (oM rfl (oW rfl (oM rfl (ow_cutY 3 14 y2 ?_ ?_)))))))
 ·rcases Bool.eq_false_or_eq_true (decide (a0 < 1)) with hy2 | hy2
  ·have ey2 := cond_t ey2 hy2
   refine oO rfl hy2 rfl (oO rfl hy2 rfl (oD (stp_pick_t rfl hy2 rfl) rfl ?_))
   obtain rfl := sI ey2
   exact ow_nil (jy 3 0)
  have ey2 := cond_f ey2 hy2
  refine oG rfl hy2 (mv rfl) rfl (oG rfl hy2 (stp_gtr rfl rfl) rfl (oD (stp_pick_f rfl hy2 rfl) rfl ?_))
  obtain rfl := sI ey2
  exact ow_nil (jy 3 0)
 obtain ⟨y3, ey3, H0⟩ := bS H0
 refine oM rfl (ow_cutY 4 19 y3 ?_ ?_)
 ·rcases Bool.eq_false_or_eq_true y2 with hy3 | hy3
  ·have ey3 := cond_t ey3 hy3
   refine oO rfl hy3 rfl (oO rfl hy3 rfl (oO rfl hy3 rfl (oD (stp_pick_t rfl hy3 rfl) rfl ?_)))
   obtain rfl := sI ey3
   exact ow_nil (jy 4 0)
  have ey3 := cond_f ey3 hy3
  obtain ⟨x4, e4, ey3⟩ := bS ey3
  refine oG rfl hy3 (mv rfl) rfl (ow_eff (.some rfl hy3) (stpU_call (fun i => 1 + i) cf102 (fun w hw => c_s_l2Buckets fl w a1 x4 e4) (yA rfl)) rfl ?_)
  rintro _ _ ⟨_, ⟨rfl, rfl⟩, rfl⟩
  refine oG rfl hy3 (stp_not rfl) rfl (oD (stp_pick_f rfl hy3 rfl) rfl ?_)
  obtain rfl := sI ey3
  exact ow_nil (jy 4 0)
 refine ow_nil (kw_nx (cw_cond rfl (fun h5 => ?_) (fun h5 => ?_)))
 ·have H0 := cond_t H0 h5
  refine sr (oD (stp_build (cs := #[.slice none 0 0, .slice none 0 0]) sevp_nil bt33_0) rfl (oC2 0 ts33 rfl rfl (oS rfl (nn (cw_ret (kw_nx_ret (kw_addNil 1 (kw_addNil 2 ?_))))))))
  obtain rfl := sI H0
  exact kr Tryd.results85 (.cons (.cellN (us := [_, _]) ts33 rfl (Cells.box (id := 0) rfl 2 rfl)) (rT rfl)) [1, 2] ⟨_, _, _, _, _, _, _, _, rfl, rfl, rfl, (OwnC.nil _ _), rfl, (OwnC.nil _ _)⟩
 have H0 := cond_f H0 h5
 refine cw_skip (kw_nx (sr (oD (stp_build (cs := #[.slice none 0 0, .slice none 0 0]) sevp_nil bt33_0) rfl (oE (stpU_alloc 3 tz33 rfl) rfl ?_))))
 rintro _ _ ⟨b6, rfl, rfl⟩
 obtain ⟨o0_0, eo0_0, H0⟩ := bS H0
 refine oC2 3 ts33 rfl rfl (nn (cw_seq (sr (oS rfl (nn (cw_addNil 4 (cw_join (ι := (List Int) × Int × Option Addr × Nat × Nat × Res) (fun | (v7, v12, p8, n9, c10, C11) => o0_0 = .out (v7, v12) ∧ n9 = (v7).length ∧ OwnC 3 p8 c10 v7 C11) (fun | (v7, v12, p8, n9, c10, C11) => [(0, .int .i64 a0), (1, .int .i64 a1), (4, .pointer (some ⟨b1, 0, none⟩)), (6, .pointer (some ⟨b6, 0, none⟩)), (7, .int .i64 v12)]) (fun | (v7, v12, p8, n9, c10, C11) => [(0, [(b1, .cells #[.slice none 0 0, .slice none 0 0] 33 (0, 0))]), (3, [(b6, .cells #[.slice p8 n9 c10, .slice none 0 0] 33 (0, 0))]), (1001, C11)]) ?_ ?_)))))))
 ·refine cw_block (cw_loopS (ι := Nat × (List Int) × Int × Option Addr × Nat × Nat × Res) (js := [0, 3, 4]) (fun x => x.1) (fun | (fuel, v7, v12, p8, n9, c10, C11) => s_NewTable_L0 fl a1 fuel v7 v12 = some o0_0 ∧ n9 = (v7).length ∧ OwnC 3 p8 c10 v7 C11) (fun | (_, v7, v12, p8, n9, c10, C11) => [(0, .int .i64 a0), (1, .int .i64 a1), (4, .pointer (some ⟨b1, 0, none⟩)), (6, .pointer (some ⟨b6, 0, none⟩)), (7, .int .i64 v12)]) (fun | (_, v7, v12, p8, n9, c10, C11) => [(0, [(b1, .cells #[.slice none 0 0, .slice none 0 0] 33 (0, 0))]), (3, [(b6, .cells #[.slice p8 n9 c10, .slice none 0 0] 33 (0, 0))]), (1001, C11)]) (fl, [], 0, none, 0, 0, []) ⟨eo0_0, rfl, (OwnC.nil _ _)⟩ ⟨rfl, rfl, rfl, rfl, rfl, trivial⟩ ⟨0, [3, 4], rfl, rfl, 3, [4], rfl, rfl, 4, [], rfl, rfl, trivial⟩ (by decide) ?_)
  rintro ⟨fuel, v7, v12, p8, _, c10, C11⟩ ⟨H1, rfl, o11⟩
  have H1 : s_NewTable_L0 fl a1 fuel v7 v12 = some o0_0 := H1
  rcases fuel with _ | fuel
  ·rw [s_NewTable_L0.eq_1] at H1; cases H1
  rw [s_NewTable_L0.eq_2] at H1
  dsimp only
  refine cw_seq (sr (oM rfl (oM rfl (oW rfl (nn (cw_cond rfl (fun h13 => ?_) (fun h13 => ?_)))))))
  ·have H1 := cond_t H1 h13
   refine cw_skip (kw_nx (cw_seq (cw_block (cw_region (oA 0 Tryd.underlying33 rfl ts22 rfl (oL 3 ts22 rfl (oE (stpU_lit (sz := 1) (l := [(-1)]) [.int .i64 (-1)] sl22 5 (sevp_cons rfl sevp_nil) rfl rfl rfl rfl rfl rfl rfl rfl rfl) rfl ?_)))))))
   rintro _ _ ⟨p14, C15, rfl, rfl, o15⟩
   obtain ⟨x16, e16, H1⟩ := bS H1
   refine oE (stpU_append sl22 rfl (id := 1001) rfl rfl rfl (by simp) rfl o11 (Rdb.own (id := 5) rfl o15) e16) rfl ?_
   rintro _ _ ⟨p17, c18, C19, rfl, rfl, o19⟩
   obtain ⟨x20, e20, H1⟩ := bS H1
   exact oA 0 Tryd.underlying33 rfl ts22 rfl (oC2 3 ts22 rfl rfl (ow_nil (kw_bl_normal (kw_nx (cw_region (oM rfl (oP e20 rfl (oS rfl (ow_nil (kw_lqS (js := [0, 3, 1001]) (fuel, x16, x20, p17, ((x16).length), c18, C19) ⟨H1, rfl, o19⟩ (Nat.lt_succ_self _) ⟨rfl, rfl, rfl, rfl, rfl, trivial⟩ ⟨0, [3, 1001], rfl, rfl, 3, [1001], rfl, rfl, 1001, [], rfl, rfl, trivial⟩ (by decide)))))))))))
  have H1 := cond_f H1 h13
  refine cw_exit (kw_nx_exit (kw_lq_exit (kw_bl ?_)))
  obtain rfl := sI H1
  exact kw_joinS (js := [0, 3, 1001]) (v7, v12, p8, ((v7).length), c10, C11) ⟨rfl, rfl, o11⟩ ⟨rfl, rfl, rfl, rfl, rfl, trivial⟩ ⟨0, [3, 1001], rfl, rfl, 3, [1001], rfl, rfl, 1001, [], rfl, rfl, trivial⟩ (by decide)
 rintro ⟨v7, v12, p8, _, c10, C11⟩ ⟨rfl, rfl, o11⟩
 dsimp only
 obtain ⟨o0_1, eo0_1, H0⟩ := bS H0
 refine kw_nx (cw_seq (sr (oS rfl (nn (cw_addNil 6 (cw_join (ι := (List F) × Int × Option Addr × Nat × Nat × Res) (fun | (v21, v26, p22, n23, c24, C25) => o0_1 = .out (v21, v26) ∧ n23 = (v21).length ∧ OwnC 84 p22 c24 v21 C25) (fun | (v21, v26, p22, n23, c24, C25) => [(0, .int .i64 a0), (4, .pointer (some ⟨b1, 0, none⟩)), (6, .pointer (some ⟨b6, 0, none⟩)), (8, .int .i64 v26)]) (fun | (v21, v26, p22, n23, c24, C25) => [(0, [(b1, .cells #[.slice none 0 0, .slice none 0 0] 33 (0, 0))]), (3, [(b6, .cells #[.slice p8 ((v7).length) c10, .slice p22 n23 c24] 33 (0, 0))]), (1001, C11), (1002, C25)]) ?_ ?_))))))
 ·refine cw_block (cw_loopS (ι := Nat × (List F) × Int × Option Addr × Nat × Nat × Res) (js := [0, 3, 1001, 6]) (fun x => x.1) (fun | (fuel, v21, v26, p22, n23, c24, C25) => s_NewTable_L1 fl a0 fuel v21 v26 = some o0_1 ∧ n23 = (v21).length ∧ OwnC 84 p22 c24 v21 C25) (fun | (_, v21, v26, p22, n23, c24, C25) => [(0, .int .i64 a0), (4, .pointer (some ⟨b1, 0, none⟩)), (6, .pointer (some ⟨b6, 0, none⟩)), (8, .int .i64 v26)]) (fun | (_, v21, v26, p22, n23, c24, C25) => [(0, [(b1, .cells #[.slice none 0 0, .slice none 0 0] 33 (0, 0))]), (3, [(b6, .cells #[.slice p8 ((v7).length) c10, .slice p22 n23 c24] 33 (0, 0))]), (1001, C11), (1002, C25)]) (fl, [], 0, none, 0, 0, []) ⟨eo0_1, rfl, (OwnC.nil _ _)⟩ ⟨rfl, rfl, rfl, rfl, trivial⟩ ⟨0, [3, 1001, 6], rfl, rfl, 3, [1001, 6], rfl, rfl, 1001, [6], rfl, rfl, 6, [], rfl, rfl, trivial⟩ (by decide) ?_)
  rintro ⟨fuel, v21, v26, p22, _, c24, C25⟩ ⟨H1, rfl, o25⟩
  have H1 : s_NewTable_L1 fl a0 fuel v21 v26 = some o0_1 := H1
  rcases fuel with _ | fuel
  ·rw [s_NewTable_L1.eq_1] at H1; cases H1
  rw [s_NewTable_L1.eq_2] at H1
  dsimp only
  refine cw_seq (sr (oM rfl (oM rfl (oW rfl (nn (cw_cond rfl (fun h27 => ?_) (fun h27 => ?_)))))))
  ·have H1 := cond_t H1 h27
   refine cw_skip (kw_nx (cw_seq (cw_block (cw_region (oA 1 Tryd.underlying33 rfl ts31 rfl (oL 3 ts31 rfl (oD (stp_build (cs := #[.bool false, .int .i64 0, .int .i64 0, .int .i64 0, .int .i64 (-1)]) (sevp_cons rfl sevp_nil) bt84_1) rfl (oE (stpU_lit (sz := 5) (l := [(⟨false, (⟨0, 0⟩ : K), 0, (-1)⟩ : F)]) [.agg #[.bool false, .int .i64 0, .int .i64 0, .int .i64 0, .int .i64 (-1)]] sl31 7 (sevp_cons rfl sevp_nil) rfl rfl rfl rfl rfl rfl rfl rfl rfl) rfl ?_))))))))
   rintro _ _ ⟨p28, C29, rfl, rfl, o29⟩
   obtain ⟨x30, e30, H1⟩ := bS H1
   refine oE (stpU_append sl31 rfl (id := 1002) rfl rfl rfl (by simp) rfl o25 (Rdb.own (id := 7) rfl o29) e30) rfl ?_
   rintro _ _ ⟨p31, c32, C33, rfl, rfl, o33⟩
   obtain ⟨x34, e34, H1⟩ := bS H1
   exact oA 1 Tryd.underlying33 rfl ts31 rfl (oC2 3 ts31 rfl rfl (ow_nil (kw_bl_normal (kw_nx (cw_region (oM rfl (oP e34 rfl (oS rfl (ow_nil (kw_lqS (js := [0, 3, 1001, 1002]) (fuel, x30, x34, p31, ((x30).length), c32, C33) ⟨H1, rfl, o33⟩ (Nat.lt_succ_self _) ⟨rfl, rfl, rfl, rfl, trivial⟩ ⟨0, [3, 1001, 1002], rfl, rfl, 3, [1001, 1002], rfl, rfl, 1001, [1002], rfl, rfl, 1002, [], rfl, rfl, trivial⟩ (by decide)))))))))))
  have H1 := cond_f H1 h27
  refine cw_exit (kw_nx_exit (kw_lq_exit (kw_bl ?_)))
  obtain rfl := sI H1
  exact kw_joinS (js := [0, 3, 1001, 1002]) (v21, v26, p22, ((v21).length), c24, C25) ⟨rfl, rfl, o25⟩ ⟨rfl, rfl, rfl, rfl, trivial⟩ ⟨0, [3, 1001, 1002], rfl, rfl, 3, [1001, 1002], rfl, rfl, 1001, [1002], rfl, rfl, 1002, [], rfl, rfl, trivial⟩ (by decide)
 rintro ⟨v21, v26, p22, _, c24, C25⟩ ⟨rfl, rfl, o25⟩
 dsimp only
 refine kw_nx (sr (oB2 3 ts33 rfl (oC2 0 ts33 rfl rfl (oS rfl (nn (cw_ret ?_))))))
 obtain rfl := sI H0
 exact kr Tryd.results85 (.cons (.cellN (us := [_, _]) ts33 rfl (Cells.box (id := 0) rfl 2 rfl)) (rT rfl)) [1001, 1002] ⟨_, _, _, _, _, _, _, _, rfl, rfl, rfl, o11, rfl, o25⟩

theorem c_s_NewSystem (fl : Nat) (w : World) (a0 : Int) (a1 : Int) (a2 : Int) (r : Sy × Bool) (H0 : s_NewSystem fl a0 a1 a2 = some r) :
  Ct Tryd.prog 33 [.int .i64 a0, .int .i64 a1, .int .i64 a2] w [] (fun rv h' => ∃ (x0 : Option Addr) (y0 z0 : Nat) (C0 : Res) (x1 : Option Addr) (y1 z1 : Nat) (C1 : Res) (x2 : Option Addr) (y2 z2 : Nat) (C2 : Res), rv = .tuple #[.agg #[.slice x0 y0 z0, .slice x1 y1 z1, .slice x2 y2 z2], .bool r.2] ∧ h' = [(0, C0), (1, C1), (2, C2)] ∧ y0 = (r.1.t.b).length ∧ OwnC 3 x0 z0 r.1.t.b C0 ∧ y1 = (r.1.t.f).length ∧ OwnC 84 x1 z1 r.1.t.f C1 ∧ y2 = (r.1.c).length ∧ OwnD 44 48 x2 z2 r.1.c C2) := by
 unfold s_NewSystem at H0
 refine ct_of_cw Tryd.func33 rfl Tryd.ntmps33 rfl (Sat.refl _ _) ?_
 refine sr (oE (stpU_alloc 0 tz36 rfl) rfl ?_)
 rintro _ _ ⟨b1, rfl, rfl⟩
 obtain ⟨x2, e2, H0⟩ := bS H0
 refine oS rfl (nn (sr (oM rfl (oM rfl (oE (stpU_call (fun i => 1 + i) cf85 (fun w hw => c_s_NewTable fl w a0 a1 x2 e2) (yB rfl rfl)) rfl ?_)))))
 rintro _ _ ⟨_, ⟨p3, _, c5, C6, p7, _, c9, C10, rfl, rfl, rfl, o6, rfl, o10⟩, rfl⟩
 refine oM rfl (oT rfl (oT rfl (oE (stpU_alloc 3 tz33 rfl) rfl ?_)))
 rintro _ _ ⟨b11, rfl, rfl⟩
 obtain ⟨y12, ey12, H0⟩ := bS H0
 refine oC2 3 ts33 rfl rfl (oS rfl (nn (cw_seq (sr (oM rfl (oK rfl (oM rfl (ow_cutY 3 21 y12 ?_ ?_))))))))
 ·rcases Bool.eq_false_or_eq_true (!x2.2) with hy12 | hy12
  ·have ey12 := cond_t ey12 hy12
   refine oO rfl hy12 rfl (oO rfl hy12 rfl (oD (stp_pick_t rfl hy12 rfl) rfl ?_))
   obtain rfl := sI ey12
   exact ow_nil (jy 3 0)
  have ey12 := cond_f ey12 hy12
  refine oG rfl hy12 (mv rfl) rfl (oG rfl hy12 (stp_lss rfl rfl) rfl (oD (stp_pick_f rfl hy12 rfl) rfl ?_))
  obtain rfl := sI ey12
  exact ow_nil (jy 3 0)
 obtain ⟨y13, ey13, H0⟩ := bS H0
 refine oM rfl (ow_cutY 3 25 y13 ?_ ?_)
 ·rcases Bool.eq_false_or_eq_true y12 with hy13 | hy13
  ·have ey13 := cond_t ey13 hy13
   refine oO rfl hy13 rfl (oO rfl hy13 rfl (oD (stp_pick_t rfl hy13 rfl) rfl ?_))
   obtain rfl := sI ey13
   exact ow_nil (jy 3 0)
  have ey13 := cond_f ey13 hy13
  refine oG rfl hy13 (mv rfl) rfl (oG rfl hy13 (stp_gtr rfl rfl) rfl (oD (stp_pick_f rfl hy13 rfl) rfl ?_))
  obtain rfl := sI ey13
  exact ow_nil (jy 3 0)
 refine ow_nil (kw_nx (cw_cond rfl (fun h14 => ?_) (fun h14 => ?_)))
 ·have H0 := cond_t H0 h14
  refine sr (oD (stp_build (cs := #[.slice none 0 0, .slice none 0 0, .slice none 0 0]) sevp_nil bt36_2) rfl (oC3 0 ts36 rfl rfl (oS rfl (nn (cw_ret (kw_nx_ret (kw_addNil 4 (kw_addNil 5 (kw_addNil 6 ?_)))))))))
  obtain rfl := sI H0
  exact kr Tryd.results33 (.cons (.cellN (us := [_, _, _]) ts36 rfl (Cells.box (id := 0) rfl 3 rfl)) (rT rfl)) [4, 5, 6] ⟨_, _, _, _, _, _, _, _, _, _, _, _, rfl, rfl, rfl, (OwnC.nil _ _), rfl, (OwnC.nil _ _), rfl, (OwnD.nil _ _ _)⟩
 have H0 := cond_f H0 h14
 obtain ⟨x15, e15, H0⟩ := bS H0
 refine cw_skip (kw_nx (cw_seq (rdq g_mixed [2, 6, 8] [0, 3] { dst := dS [28, 29, 30, 31, 0, 8], pre := gA [] [[], [], [1], [0, 1, 2], rn 0 4, rn 0 5], ids := gA [] [[], [], [7], [], [0]], rs := rL [[(8, 0)], [(2, 0)], [(28, 2)], [(27, 1), (29, 3)], [(6, 0), (30, 4)], []], rh := rL [[(3, 0)], [], [], [], [(0, 0)]], V := fun i g => gA undef [.agg #[.slice p3 ((x2.1.b).length) c5, .slice p7 ((x2.1.f).length) c9], .int .i64 a2, .slice ((g 2).A 0) x15 x15, .agg #[.slice p3 ((x2.1.b).length) c5, .slice p7 ((x2.1.f).length) c9, .slice ((g 2).A 0) x15 x15], undef, .bool true] i, U := fun i g => gA [] [[], [], [(7, ((g 2).R 0))], [], [(0, [(b1, .cells #[.slice p3 ((x2.1.b).length) c5, .slice p7 ((x2.1.f).length) c9, .slice ((g 2).A 0) x15 x15] 36 (0, 0))])]] i, Φ := fun i x => gA True [True, True, OwnD 44 48 (x.A 0) x15 (List.replicate x15 (⟨[], []⟩ : Cp)) (x.R 0)] i } ?_ ?_)))
 ·refine ⟨lc rfl rfl fun hs hh => stp_loadN (us := [_, _]) ts33 (sv hs 8 rfl) (Cells.box (id := 3) (hh.get 3 _ rfl) 2 rfl), lM, ?_, ld rfl rfl fun g hΦ s h hs hh => stp_build (cs := #[.slice p3 ((x2.1.b).length) c5, .slice p7 ((x2.1.f).length) c9, .slice ((g 2).A 0) x15 x15]) (sevp_cons (sv hs 27 rfl) (sevp_cons (sv hs 29 rfl) sevp_nil)) bt36_3, ?_, lc rfl rfl fun hs hh => stp_assign rfl, trivial⟩
  ·refine le rfl rfl (fun g hΦ s h hs hh => (stpU_makeD 48 sl34 rfl 7 (sv hs 28 rfl) (sv hs 28 rfl) e15)) ?_
   rintro g _ _ ⟨p16, C17, rfl, rfl, o17⟩
   exact ⟨⟨[p16], [], [C17]⟩, o17, .inr rfl, rfl⟩
  refine le rfl rfl (fun g hΦ s h hs hh => (stpU_store (id := 0) (cs' := [.slice p3 ((x2.1.b).length) c5, .slice p7 ((x2.1.f).length) c9, .slice ((g 2).A 0) x15 x15]) ts36 (sv hs 6 rfl) (sv hs 30 rfl) (hh.get 0 _ rfl) rfl rfl rfl rfl)) ?_
  rintro g _ _ rfl
  exact ⟨⟨[], [], []⟩, trivial, .inl rfl, rfl⟩
 intro g hΦ
 refine kw_gen (ι := Option Addr × Res) (((g 2).A 0), ((g 2).R 0)) (fun | (p16, C17) => OwnD 44 48 p16 x15 (List.replicate x15 (⟨[], []⟩ : Cp)) C17) (fun | (p16, C17) => [(6, .pointer (some ⟨b1, 0, none⟩)), (7, .bool true)]) (fun | (p16, C17) => [(0, [(b1, .cells #[.slice p3 ((x2.1.b).length) c5, .slice p7 ((x2.1.f).length) c9, .slice p16 x15 x15] 36 (0, 0))]), (1, C6), (2, C10), (7, C17)]) (hΦ 2 (by decide)) ⟨rfl, rfl, trivial⟩ ⟨rfl, rfl, rfl, rfl, trivial⟩ ?_
 rintro ⟨p16, C17⟩ o17
 have o17 : OwnD 44 48 p16 x15 (List.replicate x15 (⟨[], []⟩ : Cp)) C17 := o17
 dsimp only
 refine kw_nx (cw_ret ?_)
 obtain rfl := sI H0
 exact kr Tryd.results33 (.cons (.cellN (us := [_, _, _]) ts36 rfl (Cells.box (id := 0) rfl 3 rfl)) (rT rfl)) [1, 2, 7] ⟨_, _, _, _, _, _, _, _, _, _, _, _, rfl, rfl, rfl, o6, rfl, o10, (by simp), o17⟩
end Go.Proofs.YtfnliecmagnkdaaDoor
