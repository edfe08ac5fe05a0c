/- The walks: functions of the program return what their pure functions say. Printed by a program (gen.py). -/
import Derived.Test.YtkohlcjdagckhaaGreatDoorWp
import Derived.Test.YtkohlcjdagckhaaGreatDoorWt
import Derived.Test.YtkohlcjdagckhaaGreatDoorMan
import Derived.Test.YtkohlcjdagckhaaGreatDoorMap
import Derived.Test.YtkohlcjdagckhaaGreatDoorCpy
import Derived.Test.YtkohlcjdagckhaaGreatDoorWe
set_option linter.unusedSimpArgs false
set_option linter.unusedVariables false
set_option linter.unusedSectionVars false
namespace Go.Proofs.YtkohlcjdagckhaaGreatDoor
open Go.RowKit
set_option maxHeartbeats 4000000
set_option maxRecDepth 20000
variable {p0_0 p0_0_0 p0_1 p0_2 p0_3 p1_0 : Option Addr} {n0_0 n0_0_0 n0_1 n0_2 n0_3 n1_0 : Nat} {c0_0 c0_0_0 c0_1 c0_2 c0_3 c1_0 : Nat}
theorem c_s_l12Rd_pick (fl : Nat) (w : World) (m0 : Nat) (a0_0 : (List UInt8)) (a0_1 : Int) (a1 : Int) (hn0_0_0 : n0_0_0 = (a0_0).length) (hr0_0_0 : RO w (hkeys [(0, [(m0, .cells #[.slice p0_0_0 n0_0_0 c0_0_0, .int .i64 a0_1] 124 (0, 0))])]) (RdL p0_0_0 c0_0_0 a0_0)) (hM : Sat w (hkeys [(0, [(m0, .cells #[.slice p0_0_0 n0_0_0 c0_0_0, .int .i64 a0_1] 124 (0, 0))])]) w [(0, [(m0, .cells #[.slice p0_0_0 n0_0_0 c0_0_0, .int .i64 a0_1] 124 (0, 0))])]) (r : Int × Int) (H0 : s_l12Rd_pick fl a0_0 a0_1 a1 = some r) :
  Ct Tryz.prog 66 [.pointer (some ⟨m0, 0, none⟩), .int .i64 a1] w [(0, [(m0, .cells #[.slice p0_0_0 n0_0_0 c0_0_0, .int .i64 a0_1] 124 (0, 0))])] (fun rv h' => rv = .int .i64 r.1 ∧ h' = [(0, [(m0, .cells #[.slice p0_0_0 n0_0_0 c0_0_0, .int .i64 r.2] 124 (0, 0))])]) := by
 subst hn0_0_0
 unfold s_l12Rd_pick at H0
 refine ct_of_cw Tryz.func66 rfl Tryz.ntmps66 rfl hM ?_
 obtain ⟨x1, e1, H0⟩ := bS H0
 refine sr (oS rfl (nn (sr (oM rfl (oM rfl (oZ rfl (oA 1 Tryz.underlying124 rfl ts3 rfl (oL 0 ts3 rfl (oP e1 rfl (oZ rfl (oA 1 Tryz.underlying124 rfl ts3 rfl (oC2 0 ts3 rfl rfl (nn ?_)))))))))))))
 obtain ⟨y2, ey2, H0⟩ := bS H0
 refine cw_seq (sr (oM rfl (oW rfl (oM rfl (ow_cutY 7 24 y2 ?_ ?_)))))
 ·rcases Bool.eq_false_or_eq_true (decide (a1 < 1)) with hy2 | hy2
  ·have ey2 := cond_t ey2 hy2
   refine oO rfl hy2 rfl (oO rfl hy2 rfl (oO rfl hy2 rfl (oO rfl hy2 rfl (oO rfl hy2 rfl (oO rfl hy2 rfl (oD (stp_pick_t rfl hy2 rfl) rfl ?_))))))
   obtain rfl := sI ey2
   exact ow_nil (jy 7 0)
  have ey2 := cond_f ey2 hy2
  refine oG rfl hy2 (mv rfl) rfl (oG rfl hy2 (stp_nilCheck rfl) rfl (oG rfl hy2 (fA 0 Tryz.underlying124 rfl ts22 rfl rfl rfl) rfl (oG rfl hy2 (lB 0 ts22 rfl rfl rfl) rfl (oG rfl hy2 (stp_len Tryz.underlying22 rfl) rfl (oG rfl hy2 (stp_eql rfl rfl) rfl (oD (stp_pick_f rfl hy2 rfl) rfl ?_))))))
  obtain rfl := sI ey2
  exact ow_nil (jy 7 0)
 refine ow_nil (kw_nx (cw_cond rfl (fun h3 => ?_) (fun h3 => ?_)))
 ·have H0 := cond_t H0 h3
  refine sr (oS rfl (nn (cw_ret (kw_nx_ret ?_))))
  obtain rfl := sI H0
  exact kr Tryz.results66 (rT rfl) [0] ⟨rfl, rfl⟩
 have H0 := cond_f H0 h3
 obtain ⟨x4, e4, H0⟩ := bS H0
 refine cw_skip (kw_nx (sr (oM rfl (oZ rfl (oA 1 Tryz.underlying124 rfl ts3 rfl (oL 0 ts3 rfl (oD (stp_sub rfl rfl e4) rfl (oS rfl (nn (cw_seq (sr (oM rfl (oM rfl ?_)))))))))))))
 refine oZ rfl (oA 0 Tryz.underlying124 rfl ts22 rfl (oL 0 ts22 rfl (oD (stp_len Tryz.underlying22 rfl) rfl (oW rfl (nn (cw_cond rfl (fun h5 => ?_) (fun h5 => ?_)))))))
 ·have H0 := cond_t H0 h5
  obtain ⟨x6, e6, H0⟩ := bS H0
  obtain ⟨x7, e7, H0⟩ := bS H0
  obtain ⟨x8, e8, H0⟩ := bS H0
  refine sr (oM rfl (oZ rfl (oA 0 Tryz.underlying124 rfl ts22 rfl (oL 0 ts22 rfl (oM rfl (oD (stp_indexAddr Tryz.underlying22 ts5 (by decide) rfl rfl rfl (Rdb.ro hr0_0_0) e6) rfl (oD (stp_load1 ts5 rfl (Cells.el (Rdb.ro hr0_0_0) (by decide) e6 0 1 rfl)) rfl (oD (stp_convI Tryz.underlying5 Tryz.underlying3 rfl e7) rfl (oM rfl (oD (stp_rem rfl rfl e8) rfl (oS rfl (nn (cw_ret ?_)))))))))))))
  refine kw_nx_ret ?_
  obtain rfl := sI H0
  exact kr Tryz.results66 (rT rfl) [0] ⟨rfl, rfl⟩
 have H0 := cond_f H0 h5
 obtain ⟨x9, e9, H0⟩ := bS H0
 obtain ⟨x10, e10, H0⟩ := bS H0
 obtain ⟨x11, e11, H0⟩ := bS H0
 obtain ⟨x12, e12, H0⟩ := bS H0
 obtain ⟨x13, e13, H0⟩ := bS H0
 obtain ⟨x14, e14, H0⟩ := bS H0
 obtain ⟨x15, e15, H0⟩ := bS H0
 obtain ⟨x16, e16, H0⟩ := bS H0
 obtain ⟨x17, e17, H0⟩ := bS H0
 obtain ⟨x18, e18, H0⟩ := bS H0
 obtain ⟨x19, e19, H0⟩ := bS H0
 obtain ⟨x20, e20, H0⟩ := bS H0
 obtain ⟨x21, e21, H0⟩ := bS H0
 obtain ⟨x22, e22, H0⟩ := bS H0
 obtain ⟨x23, e23, H0⟩ := bS H0
 obtain ⟨x24, e24, H0⟩ := bS H0
 refine cw_skip (kw_nx (cw_seq (rdq g_mixed [0, 5] [0] { dst := dS [48, 49, 50, 51, 52, 53, 54, 55, 56, 57, 58, 59, 60, 61, 62, 63, 64, 65, 66, 67, 68, 69, 70, 71, 72, 73, 74, 75, 76, 77, 78, 79, 80, 81, 82, 83, 84, 85, 86, 87, 88, 89, 90, 91, 92, 7], pre := gA [] [[], [0], [0, 1], [0, 1, 2], [], [], [5], [5, 6], [5, 6, 7], rn 5 4, rn 4 6, rn 0 11, rn 0 12, rn 0 13, rn 0 14, [], [15], [15, 16], [15, 16, 17], [], [19], [19, 20], [], [22], [22, 23], [22, 23, 24], rn 22 4, rn 19 8, rn 15 13, rn 15 14, rn 15 15, rn 15 16, rn 0 32, [], [33], rn 0 35, [], [], [37], [37, 38], [37, 38, 39], rn 37 4, rn 36 6, rn 36 7, rn 0 44, rn 0 45], ids := fun _ => [], rs := rL [[(0, 0)], [(47, 1)], [(48, 2)], [(49, 3)], [(5, 0)], [(0, 0)], [(52, 6)], [(53, 7)], [(54, 8)], [(55, 9)], [(51, 5), (56, 10)], [(50, 4), (57, 11)], [(58, 12)], [(59, 13)], [(60, 14)], [(0, 0)], [(62, 16)], [(63, 17)], [(64, 18)], [(5, 0)], [(66, 20)], [(67, 21)], [(0, 0)], [(69, 23)], [(70, 24)], [(71, 25)], [(72, 26)], [(68, 22), (73, 27)], [(65, 19), (74, 28)], [(75, 29)], [(76, 30)], [(77, 31)], [(61, 15), (78, 32)], [(5, 0)], [(80, 34)], [(79, 33), (81, 35)], [(5, 0)], [(0, 0)], [(84, 38)], [(85, 39)], [(86, 40)], [(87, 41)], [(83, 37), (88, 42)], [(89, 43)], [(82, 36), (90, 44)], [(91, 45)]], rh := rL [[], [], [], [(0, 0)], [], [], [], [], [(0, 0)], [], [], [], [], [], [], [], [], [], [(0, 0)], [], [], [], [], [], [], [(0, 0)], [], [], [], [], [], [], [], [], [], [], [], [], [], [], [(0, 0)]], V := fun i g => gA undef [.pointer (some ⟨m0, 0, none⟩), .pointer (some ⟨m0, 0, none⟩), .pointer (some ⟨m0, 0, none⟩), .slice p0_0_0 ((a0_0).length) c0_0_0, .int .i64 x4, .pointer (some ⟨m0, 0, none⟩), .pointer (some ⟨m0, 0, none⟩), .pointer (some ⟨m0, 0, none⟩), .slice p0_0_0 ((a0_0).length) c0_0_0, .int .i64 ((a0_0).length : Int), .int .i64 x9, .pointer (some ⟨eB p0_0_0, eO p0_0_0 + Int.toNat x9 * Enc.sz UInt8 + 0, none⟩), .int .u8 (x10.toNat : Int), .int .i64 x11, .int .i64 x12, .pointer (some ⟨m0, 0, none⟩), .pointer (some ⟨m0, 0, none⟩), .pointer (some ⟨m0, 0, none⟩), .slice p0_0_0 ((a0_0).length) c0_0_0, .int .i64 x4, .int .i64 x13, .int .i64 x14, .pointer (some ⟨m0, 0, none⟩), .pointer (some ⟨m0, 0, none⟩), .pointer (some ⟨m0, 0, none⟩), .slice p0_0_0 ((a0_0).length) c0_0_0, .int .i64 ((a0_0).length : Int), .int .i64 x15, .pointer (some ⟨eB p0_0_0, eO p0_0_0 + Int.toNat x15 * Enc.sz UInt8 + 0, none⟩), .int .u8 (x16.toNat : Int), .int .i64 x17, .int .i64 x18, .int .i64 x19, .int .i64 x4, .int .i64 x20, .int .i64 x21, .int .i64 x4, .pointer (some ⟨m0, 0, none⟩), .pointer (some ⟨m0, 0, none⟩), .pointer (some ⟨m0, 0, none⟩), .slice p0_0_0 ((a0_0).length) c0_0_0, .int .i64 ((a0_0).length : Int), .int .i64 x22, .int .i64 x23, .int .i64 x24, .int .i64 x24] i, U := fun _ _ => [], Φ := fun _ _ => True } ?_ ?_)))
 ·exact ⟨lM, lc rfl rfl fun hs hh => stp_nilCheck (sv hs 47 rfl), lc rfl rfl fun hs hh => stp_fieldAddr (j := 0) Tryz.underlying124 rfl ts22 rfl (sv hs 48 rfl) rfl, lc rfl rfl fun hs hh => stp_load1 ts22 (sv hs 49 rfl) (Cells.box (id := 0) (hh.get 0 _ rfl) 1 rfl), lM, lM, lc rfl rfl fun hs hh => stp_nilCheck (sv hs 52 rfl), lc rfl rfl fun hs hh => stp_fieldAddr (j := 0) Tryz.underlying124 rfl ts22 rfl (sv hs 53 rfl) rfl, lc rfl rfl fun hs hh => stp_load1 ts22 (sv hs 54 rfl) (Cells.box (id := 0) (hh.get 0 _ rfl) 1 rfl), lc rfl rfl fun hs hh => stp_len Tryz.underlying22 (sv hs 55 rfl), lc rfl rfl fun hs hh => stp_rem (sv hs 51 rfl) (sv hs 56 rfl) e9, lc rfl rfl fun hs hh => stp_indexAddr Tryz.underlying22 ts5 (by decide) (sv hs 50 rfl) rfl (sv hs 57 rfl) (Rdb.ro hr0_0_0) e10, lc rfl rfl fun hs hh => stp_load1 ts5 (sv hs 58 rfl) (Cells.el (Rdb.ro hr0_0_0) (by decide) e10 0 1 rfl), lc rfl rfl fun hs hh => stp_convI Tryz.underlying5 Tryz.underlying3 (sv hs 59 rfl) e11, lc rfl rfl fun hs hh => stp_mul (sv hs 60 rfl) rfl e12, lM, lc rfl rfl fun hs hh => stp_nilCheck (sv hs 62 rfl), lc rfl rfl fun hs hh => stp_fieldAddr (j := 0) Tryz.underlying124 rfl ts22 rfl (sv hs 63 rfl) rfl, lc rfl rfl fun hs hh => stp_load1 ts22 (sv hs 64 rfl) (Cells.box (id := 0) (hh.get 0 _ rfl) 1 rfl), lM, lc rfl rfl fun hs hh => stp_mul (sv hs 66 rfl) rfl e13, lc rfl rfl fun hs hh => stp_add (sv hs 67 rfl) rfl e14, lM, lc rfl rfl fun hs hh => stp_nilCheck (sv hs 69 rfl), lc rfl rfl fun hs hh => stp_fieldAddr (j := 0) Tryz.underlying124 rfl ts22 rfl (sv hs 70 rfl) rfl, lc rfl rfl fun hs hh => stp_load1 ts22 (sv hs 71 rfl) (Cells.box (id := 0) (hh.get 0 _ rfl) 1 rfl), lc rfl rfl fun hs hh => stp_len Tryz.underlying22 (sv hs 72 rfl), lc rfl rfl fun hs hh => stp_rem (sv hs 68 rfl) (sv hs 73 rfl) e15, lc rfl rfl fun hs hh => stp_indexAddr Tryz.underlying22 ts5 (by decide) (sv hs 65 rfl) rfl (sv hs 74 rfl) (Rdb.ro hr0_0_0) e16, lc rfl rfl fun hs hh => stp_load1 ts5 (sv hs 75 rfl) (Cells.el (Rdb.ro hr0_0_0) (by decide) e16 0 1 rfl), lc rfl rfl fun hs hh => stp_convI Tryz.underlying5 Tryz.underlying3 (sv hs 76 rfl) e17, lc rfl rfl fun hs hh => stp_mul (sv hs 77 rfl) rfl e18, lc rfl rfl fun hs hh => stp_add (sv hs 61 rfl) (sv hs 78 rfl) e19, lM, lc rfl rfl fun hs hh => stp_mul (sv hs 80 rfl) rfl e20, lc rfl rfl fun hs hh => stp_add (sv hs 79 rfl) (sv hs 81 rfl) e21, lM, lM, lc rfl rfl fun hs hh => stp_nilCheck (sv hs 84 rfl), lc rfl rfl fun hs hh => stp_fieldAddr (j := 0) Tryz.underlying124 rfl ts22 rfl (sv hs 85 rfl) rfl, lc rfl rfl fun hs hh => stp_load1 ts22 (sv hs 86 rfl) (Cells.box (id := 0) (hh.get 0 _ rfl) 1 rfl), lc rfl rfl fun hs hh => stp_len Tryz.underlying22 (sv hs 87 rfl), lc rfl rfl fun hs hh => stp_quo (sv hs 83 rfl) (sv hs 88 rfl) e22, lc rfl rfl fun hs hh => stp_mul (sv hs 89 rfl) rfl e23, lc rfl rfl fun hs hh => stp_add (sv hs 82 rfl) (sv hs 90 rfl) e24, lS, trivial⟩
 intro g hΦ
 refine KW.sub (s' := [(1, .int .i64 a1), (6, .int .i64 x24)]) (h' := [(0, [(m0, .cells #[.slice p0_0_0 ((a0_0).length) c0_0_0, .int .i64 x1] 124 (0, 0))])]) ?_ ⟨rfl, rfl, trivial⟩ ⟨rfl, trivial⟩
 obtain ⟨x25, e25, H0⟩ := bS H0
 obtain ⟨x26, e26, H0⟩ := bS H0
 refine kw_nx (sr (oM rfl (oM rfl (oD (stp_quo rfl rfl e25) rfl (oD (stp_xor rfl rfl) rfl (oS rfl (nn (sr (oM rfl (oM rfl (oD (stp_rem rfl rfl e26) rfl (oS rfl (nn ?_)))))))))))))
 refine cw_ret ?_
 obtain rfl := sI H0
 exact kr Tryz.results66 (rT rfl) [0] ⟨rfl, rfl⟩

theorem c_s_l12Rd_num (fl : Nat) (w : World) (m0 : Nat) (a0_0 : (List UInt8)) (a0_1 : Int) (a1 : (List Int)) (hn0_0_0 : n0_0_0 = (a0_0).length) (hr0_0_0 : RO w (hkeys [(0, [(m0, .cells #[.slice p0_0_0 n0_0_0 c0_0_0, .int .i64 a0_1] 124 (0, 0))])]) (RdL p0_0_0 c0_0_0 a0_0)) (hn1_0 : n1_0 = (a1).length) (hr1_0 : RO w (hkeys [(0, [(m0, .cells #[.slice p0_0_0 n0_0_0 c0_0_0, .int .i64 a0_1] 124 (0, 0))])]) (RdL p1_0 c1_0 a1)) (hM : Sat w (hkeys [(0, [(m0, .cells #[.slice p0_0_0 n0_0_0 c0_0_0, .int .i64 a0_1] 124 (0, 0))])]) w [(0, [(m0, .cells #[.slice p0_0_0 n0_0_0 c0_0_0, .int .i64 a0_1] 124 (0, 0))])]) (r : Int × Int) (H0 : s_l12Rd_num fl a0_0 a0_1 a1 = some r) :
  Ct Tryz.prog 47 [.pointer (some ⟨m0, 0, none⟩), .slice p1_0 n1_0 c1_0] w [(0, [(m0, .cells #[.slice p0_0_0 n0_0_0 c0_0_0, .int .i64 a0_1] 124 (0, 0))])] (fun rv h' => rv = .int .i64 r.1 ∧ h' = [(0, [(m0, .cells #[.slice p0_0_0 n0_0_0 c0_0_0, .int .i64 r.2] 124 (0, 0))])]) := by
 subst hn0_0_0 hn1_0
 unfold s_l12Rd_num at H0
 refine ct_of_cw Tryz.func47 rfl Tryz.ntmps47 rfl hM ?_
 obtain ⟨x1, e1, H0⟩ := bS H0
 refine sr (oS rfl (nn (sr (oM rfl (oM rfl (oM rfl (oD (stp_len Tryz.underlying23 rfl) rfl (oE (stpU_callM (fun i => bif Nat.beq i 0 then 0 else 1 + i) cf66 (fun w hw hb => c_s_l12Rd_pick fl w m0 a0_0 a0_1 ((a1).length : Int) rfl (RO.passM hr0_0_0 hw hb) (hw.pass (js := [0]) ⟨0, [], rfl, rfl, trivial⟩ (by decide)) x1 e1) (yB rfl rfl) ⟨rfl, (fun _ _ hp => by obtain ⟨_, rfl⟩ := hp; exact ⟨_, rfl⟩), trivial⟩) rfl ?_))))))))
 rintro _ _ ⟨_, ⟨rfl, rfl⟩, rfl⟩
 obtain ⟨x2, e2, H0⟩ := bS H0
 refine oD (stp_indexAddr Tryz.underlying23 ts3 (by decide) rfl rfl rfl (Rdb.ro hr1_0) e2) rfl (oD (stp_load1 ts3 rfl (Cells.el (Rdb.ro hr1_0) (by decide) e2 0 1 rfl)) rfl (oS rfl (nn (cw_ret ?_))))
 obtain rfl := sI H0
 exact kr Tryz.results47 (rT rfl) [0] ⟨rfl, rfl⟩

theorem c_s_l2Buckets (fl : Nat) (w : World) (a0 : Int) (r : Bool) (H0 : s_l2Buckets fl a0 = some r) :
  Ct Tryz.prog 144 [.int .i64 a0] w [] (fun rv h' => rv = .bool r ∧ h' = []) := by
 unfold s_l2Buckets at H0
 refine ct_of_cw Tryz.func144 rfl Tryz.ntmps144 rfl (Sat.refl _ _) ?_
 obtain ⟨y1, ey1, H0⟩ := bS H0
 refine sr (oS rfl (nn (sr (oM rfl (oI rfl (oM rfl (ow_cutY 3 8 y1 ?_ ?_)))))))
 ·rcases Bool.eq_false_or_eq_true (decide (1 ≤ a0)) with hy1 | hy1
  ·have ey1 := cond_t ey1 hy1
   refine oG rfl hy1 (mv rfl) rfl (oG rfl hy1 (stp_leq rfl rfl) rfl (oD (stp_pick_t rfl hy1 rfl) rfl ?_))
   obtain rfl := sI ey1
   exact ow_nil (jy 3 0)
  have ey1 := cond_f ey1 hy1
  refine oO rfl hy1 rfl (oO rfl hy1 rfl (oD (stp_pick_f rfl hy1 rfl) rfl ?_))
  obtain rfl := sI ey1
  exact ow_nil (jy 3 0)
 refine oS rfl (nn (cw_ret ?_))
 obtain rfl := sI H0
 exact kr Tryz.results144 (rT rfl) [] ⟨rfl, rfl⟩

theorem c_s_NewTable (fl : Nat) (w : World) (a0 : Int) (a1 : Int) (r : T × Bool) (H0 : s_NewTable fl a0 a1 = some r) :
  Ct Tryz.prog 150 [.int .i64 a0, .int .i64 a1] w [] (fun rv h' => ∃ (x0 : Option Addr) (y0 z0 : Nat) (C0 : Res) (x1 : Option Addr) (y1 z1 : Nat) (C1 : Res), rv = .tuple #[.agg #[.slice x0 y0 z0, .slice x1 y1 z1], .bool r.2] ∧ h' = [(0, C0), (1, C1)] ∧ y0 = (r.1.b).length ∧ OwnC 3 x0 z0 r.1.b C0 ∧ y1 = (r.1.f).length ∧ OwnC 58 x1 z1 r.1.f C1) := by
 unfold s_NewTable at H0
 refine ct_of_cw Tryz.func150 rfl Tryz.ntmps150 rfl (Sat.refl _ _) ?_
 refine sr (oE (stpU_alloc 0 tz26 rfl) rfl ?_)
 rintro _ _ ⟨b1, rfl, rfl⟩
 obtain ⟨y2, ey2, H0⟩ := bS H0
 refine oS rfl (nn (cw_seq (sr (oM rfl (oW rfl (oM rfl (ow_cutY 3 14 y2 ?_ ?_)))))))
 ·rcases Bool.eq_false_or_eq_true (decide (a0 < 1)) with hy2 | hy2
  ·have ey2 := cond_t ey2 hy2
   refine oO rfl hy2 rfl (oO rfl hy2 rfl (oD (stp_pick_t rfl hy2 rfl) rfl ?_))
   obtain rfl := sI ey2
   exact ow_nil (jy 3 0)
  have ey2 := cond_f ey2 hy2
  refine oG rfl hy2 (mv rfl) rfl (oG rfl hy2 (stp_gtr rfl rfl) rfl (oD (stp_pick_f rfl hy2 rfl) rfl ?_))
  obtain rfl := sI ey2
  exact ow_nil (jy 3 0)
 obtain ⟨y3, ey3, H0⟩ := bS H0
 refine oM rfl (ow_cutY 4 19 y3 ?_ ?_)
 ·rcases Bool.eq_false_or_eq_true y2 with hy3 | hy3
  ·have ey3 := cond_t ey3 hy3
   refine oO rfl hy3 rfl (oO rfl hy3 rfl (oO rfl hy3 rfl (oD (stp_pick_t rfl hy3 rfl) rfl ?_)))
   obtain rfl := sI ey3
   exact ow_nil (jy 4 0)
  have ey3 := cond_f ey3 hy3
  obtain ⟨x4, e4, ey3⟩ := bS ey3
  refine oG rfl hy3 (mv rfl) rfl (ow_eff (.some rfl hy3) (stpU_call (fun i => 1 + i) cf144 (fun w hw => c_s_l2Buckets fl w a1 x4 e4) (yA rfl)) rfl ?_)
  rintro _ _ ⟨_, ⟨rfl, rfl⟩, rfl⟩
  refine oG rfl hy3 (stp_not rfl) rfl (oD (stp_pick_f rfl hy3 rfl) rfl ?_)
  obtain rfl := sI ey3
  exact ow_nil (jy 4 0)
 refine ow_nil (kw_nx (cw_cond rfl (fun h5 => ?_) (fun h5 => ?_)))
 ·have H0 := cond_t H0 h5
  refine sr (oD (stp_build (cs := #[.slice none 0 0, .slice none 0 0]) sevp_nil bt26_0) rfl (oC2 0 ts26 rfl rfl (oS rfl (nn (cw_ret (kw_nx_ret (kw_addNil 1 (kw_addNil 2 ?_))))))))
  obtain rfl := sI H0
  exact kr Tryz.results150 (.cons (.cellN (us := [_, _]) ts26 rfl (Cells.box (id := 0) rfl 2 rfl)) (rT rfl)) [1, 2] ⟨_, _, _, _, _, _, _, _, rfl, rfl, rfl, (OwnC.nil _ _), rfl, (OwnC.nil _ _)⟩
 have H0 := cond_f H0 h5
 refine cw_skip (kw_nx (sr (oD (stp_build (cs := #[.slice none 0 0, .slice none 0 0]) sevp_nil bt26_0) rfl (oE (stpU_alloc 3 tz26 rfl) rfl ?_))))
 rintro _ _ ⟨b6, rfl, rfl⟩
 obtain ⟨o0_0, eo0_0, H0⟩ := bS H0
 refine oC2 3 ts26 rfl rfl (nn (cw_seq (sr (oS rfl (nn (cw_addNil 4 (cw_join (ι := (List Int) × Int × Option Addr × Nat × Nat × Res) (fun | (v7, v12, p8, n9, c10, C11) => o0_0 = .out (v7, v12) ∧ n9 = (v7).length ∧ OwnC 3 p8 c10 v7 C11) (fun | (v7, v12, p8, n9, c10, C11) => [(0, .int .i64 a0), (1, .int .i64 a1), (4, .pointer (some ⟨b1, 0, none⟩)), (6, .pointer (some ⟨b6, 0, none⟩)), (7, .int .i64 v12)]) (fun | (v7, v12, p8, n9, c10, C11) => [(0, [(b1, .cells #[.slice none 0 0, .slice none 0 0] 26 (0, 0))]), (3, [(b6, .cells #[.slice p8 n9 c10, .slice none 0 0] 26 (0, 0))]), (1001, C11)]) ?_ ?_)))))))
 ·refine cw_block (cw_loopS (ι := Nat × (List Int) × Int × Option Addr × Nat × Nat × Res) (js := [0, 3, 4]) (fun x => x.1) (fun | (fuel, v7, v12, p8, n9, c10, C11) => s_NewTable_L0 fl a1 fuel v7 v12 = some o0_0 ∧ n9 = (v7).length ∧ OwnC 3 p8 c10 v7 C11) (fun | (_, v7, v12, p8, n9, c10, C11) => [(0, .int .i64 a0), (1, .int .i64 a1), (4, .pointer (some ⟨b1, 0, none⟩)), (6, .pointer (some ⟨b6, 0, none⟩)), (7, .int .i64 v12)]) (fun | (_, v7, v12, p8, n9, c10, C11) => [(0, [(b1, .cells #[.slice none 0 0, .slice none 0 0] 26 (0, 0))]), (3, [(b6, .cells #[.slice p8 n9 c10, .slice none 0 0] 26 (0, 0))]), (1001, C11)]) (fl, [], 0, none, 0, 0, []) ⟨eo0_0, rfl, (OwnC.nil _ _)⟩ ⟨rfl, rfl, rfl, rfl, rfl, trivial⟩ ⟨0, [3, 4], rfl, rfl, 3, [4], rfl, rfl, 4, [], rfl, rfl, trivial⟩ (by decide) ?_)
  rintro ⟨fuel, v7, v12, p8, _, c10, C11⟩ ⟨H1, rfl, o11⟩
  have H1 : s_NewTable_L0 fl a1 fuel v7 v12 = some o0_0 := H1
  rcases fuel with _ | fuel
  ·rw [s_NewTable_L0.eq_1] at H1; cases H1
  rw [s_NewTable_L0.eq_2] at H1
  dsimp only
  refine cw_seq (sr (oM rfl (oM rfl (oW rfl (nn (cw_cond rfl (fun h13 => ?_) (fun h13 => ?_)))))))
  ·have H1 := cond_t H1 h13
   refine cw_skip (kw_nx (cw_seq (cw_block (cw_region (oA 0 Tryz.underlying26 rfl ts23 rfl (oL 3 ts23 rfl (oE (stpU_lit (sz := 1) (l := [(-1)]) [.int .i64 (-1)] sl23 5 (sevp_cons rfl sevp_nil) rfl rfl rfl rfl rfl rfl rfl rfl rfl) rfl ?_)))))))
   rintro _ _ ⟨p14, C15, rfl, rfl, o15⟩
   obtain ⟨x16, e16, H1⟩ := bS H1
   refine oE (stpU_append sl23 rfl (id := 1001) rfl rfl rfl (by simp) rfl o11 (Rdb.own (id := 5) rfl o15) e16) rfl ?_
   rintro _ _ ⟨p17, c18, C19, rfl, rfl, o19⟩
   obtain ⟨x20, e20, H1⟩ := bS H1
   exact oA 0 Tryz.underlying26 rfl ts23 rfl (oC2 3 ts23 rfl rfl (ow_nil (kw_bl_normal (kw_nx (cw_region (oM rfl (oP e20 rfl (oS rfl (ow_nil (kw_lqS (js := [0, 3, 1001]) (fuel, x16, x20, p17, ((x16).length), c18, C19) ⟨H1, rfl, o19⟩ (Nat.lt_succ_self _) ⟨rfl, rfl, rfl, rfl, rfl, trivial⟩ ⟨0, [3, 1001], rfl, rfl, 3, [1001], rfl, rfl, 1001, [], rfl, rfl, trivial⟩ (by decide)))))))))))
  have H1 := cond_f H1 h13
  refine cw_exit (kw_nx_exit (kw_lq_exit (kw_bl ?_)))
  obtain rfl := sI H1
  exact kw_joinS (js := [0, 3, 1001]) (v7, v12, p8, ((v7).length), c10, C11) ⟨rfl, rfl, o11⟩ ⟨rfl, rfl, rfl, rfl, rfl, trivial⟩ ⟨0, [3, 1001], rfl, rfl, 3, [1001], rfl, rfl, 1001, [], rfl, rfl, trivial⟩ (by decide)
 rintro ⟨v7, v12, p8, _, c10, C11⟩ ⟨rfl, rfl, o11⟩
 dsimp only
 obtain ⟨o0_1, eo0_1, H0⟩ := bS H0
 refine kw_nx (cw_seq (sr (oS rfl (nn (cw_addNil 6 (cw_join (ι := (List F) × Int × Option Addr × Nat × Nat × Res) (fun | (v21, v26, p22, n23, c24, C25) => o0_1 = .out (v21, v26) ∧ n23 = (v21).length ∧ OwnC 58 p22 c24 v21 C25) (fun | (v21, v26, p22, n23, c24, C25) => [(0, .int .i64 a0), (4, .pointer (some ⟨b1, 0, none⟩)), (6, .pointer (some ⟨b6, 0, none⟩)), (8, .int .i64 v26)]) (fun | (v21, v26, p22, n23, c24, C25) => [(0, [(b1, .cells #[.slice none 0 0, .slice none 0 0] 26 (0, 0))]), (3, [(b6, .cells #[.slice p8 ((v7).length) c10, .slice p22 n23 c24] 26 (0, 0))]), (1001, C11), (1002, C25)]) ?_ ?_))))))
 ·refine cw_block (cw_loopS (ι := Nat × (List F) × Int × Option Addr × Nat × Nat × Res) (js := [0, 3, 1001, 6]) (fun x => x.1) (fun | (fuel, v21, v26, p22, n23, c24, C25) => s_NewTable_L1 fl a0 fuel v21 v26 = some o0_1 ∧ n23 = (v21).length ∧ OwnC 58 p22 c24 v21 C25) (fun | (_, v21, v26, p22, n23, c24, C25) => [(0, .int .i64 a0), (4, .pointer (some ⟨b1, 0, none⟩)), (6, .pointer (some ⟨b6, 0, none⟩)), (8, .int .i64 v26)]) (fun | (_, v21, v26, p22, n23, c24, C25) => [(0, [(b1, .cells #[.slice none 0 0, .slice none 0 0] 26 (0, 0))]), (3, [(b6, .cells #[.slice p8 ((v7).length) c10, .slice p22 n23 c24] 26 (0, 0))]), (1001, C11), (1002, C25)]) (fl, [], 0, none, 0, 0, []) ⟨eo0_1, rfl, (OwnC.nil _ _)⟩ ⟨rfl, rfl, rfl, rfl, trivial⟩ ⟨0, [3, 1001, 6], rfl, rfl, 3, [1001, 6], rfl, rfl, 1001, [6], rfl, rfl, 6, [], rfl, rfl, trivial⟩ (by decide) ?_)
  rintro ⟨fuel, v21, v26, p22, _, c24, C25⟩ ⟨H1, rfl, o25⟩
  have H1 : s_NewTable_L1 fl a0 fuel v21 v26 = some o0_1 := H1
  rcases fuel with _ | fuel
  ·rw [s_NewTable_L1.eq_1] at H1; cases H1
  rw [s_NewTable_L1.eq_2] at H1
  dsimp only
  refine cw_seq (sr (oM rfl (oM rfl (oW rfl (nn (cw_cond rfl (fun h27 => ?_) (fun h27 => ?_)))))))
  ·have H1 := cond_t H1 h27
   refine cw_skip (kw_nx (cw_seq (cw_block (cw_region (oA 1 Tryz.underlying26 rfl ts24 rfl (oL 3 ts24 rfl (oD (stp_build (cs := #[.bool false, .int .i64 0, .int .i64 0, .int .i64 0, .int .i64 (-1)]) (sevp_cons rfl sevp_nil) bt58_1) rfl (oE (stpU_lit (sz := 5) (l := [(⟨false, (⟨0, 0⟩ : K), 0, (-1)⟩ : F)]) [.agg #[.bool false, .int .i64 0, .int .i64 0, .int .i64 0, .int .i64 (-1)]] sl24 7 (sevp_cons rfl sevp_nil) rfl rfl rfl rfl rfl rfl rfl rfl rfl) rfl ?_))))))))
   rintro _ _ ⟨p28, C29, rfl, rfl, o29⟩
   obtain ⟨x30, e30, H1⟩ := bS H1
   refine oE (stpU_append sl24 rfl (id := 1002) rfl rfl rfl (by simp) rfl o25 (Rdb.own (id := 7) rfl o29) e30) rfl ?_
   rintro _ _ ⟨p31, c32, C33, rfl, rfl, o33⟩
   obtain ⟨x34, e34, H1⟩ := bS H1
   exact oA 1 Tryz.underlying26 rfl ts24 rfl (oC2 3 ts24 rfl rfl (ow_nil (kw_bl_normal (kw_nx (cw_region (oM rfl (oP e34 rfl (oS rfl (ow_nil (kw_lqS (js := [0, 3, 1001, 1002]) (fuel, x30, x34, p31, ((x30).length), c32, C33) ⟨H1, rfl, o33⟩ (Nat.lt_succ_self _) ⟨rfl, rfl, rfl, rfl, trivial⟩ ⟨0, [3, 1001, 1002], rfl, rfl, 3, [1001, 1002], rfl, rfl, 1001, [1002], rfl, rfl, 1002, [], rfl, rfl, trivial⟩ (by decide)))))))))))
  have H1 := cond_f H1 h27
  refine cw_exit (kw_nx_exit (kw_lq_exit (kw_bl ?_)))
  obtain rfl := sI H1
  exact kw_joinS (js := [0, 3, 1001, 1002]) (v21, v26, p22, ((v21).length), c24, C25) ⟨rfl, rfl, o25⟩ ⟨rfl, rfl, rfl, rfl, trivial⟩ ⟨0, [3, 1001, 1002], rfl, rfl, 3, [1001, 1002], rfl, rfl, 1001, [1002], rfl, rfl, 1002, [], rfl, rfl, trivial⟩ (by decide)
 rintro ⟨v21, v26, p22, _, c24, C25⟩ ⟨rfl, rfl, o25⟩
 dsimp only
 refine kw_nx (sr (oB2 3 ts26 rfl (oC2 0 ts26 rfl rfl (oS rfl (nn (cw_ret ?_))))))
 obtain rfl := sI H0
 exact kr Tryz.results150 (.cons (.cellN (us := [_, _]) ts26 rfl (Cells.box (id := 0) rfl 2 rfl)) (rT rfl)) [1001, 1002] ⟨_, _, _, _, _, _, _, _, rfl, rfl, rfl, o11, rfl, o25⟩

theorem c_s_NewCache (fl : Nat) (w : World) (a0 : Int) (r : Ca × Bool) (H0 : s_NewCache fl a0 = some r) :
  Ct Tryz.prog 151 [.int .i64 a0] w [] (fun rv h' => ∃ (x0 : Option Addr) (y0 z0 : Nat) (C0 : Res), rv = .tuple #[.agg #[.slice x0 y0 z0, .int .i64 r.1.h], .bool r.2] ∧ h' = [(0, C0)] ∧ y0 = (r.1.l).length ∧ OwnC 41 x0 z0 r.1.l C0) := by
 unfold s_NewCache at H0
 refine ct_of_cw Tryz.func151 rfl Tryz.ntmps151 rfl (Sat.refl _ _) ?_
 refine sr (oE (stpU_alloc 0 tz29 rfl) rfl ?_)
 rintro _ _ ⟨b1, rfl, rfl⟩
 obtain ⟨y2, ey2, H0⟩ := bS H0
 refine oS rfl (nn (cw_seq (sr (oM rfl (oW rfl (oM rfl (ow_cutY 3 9 y2 ?_ ?_)))))))
 ·rcases Bool.eq_false_or_eq_true (decide (a0 < 1)) with hy2 | hy2
  ·have ey2 := cond_t ey2 hy2
   refine oO rfl hy2 rfl (oO rfl hy2 rfl (oD (stp_pick_t rfl hy2 rfl) rfl ?_))
   obtain rfl := sI ey2
   exact ow_nil (jy 3 0)
  have ey2 := cond_f ey2 hy2
  refine oG rfl hy2 (mv rfl) rfl (oG rfl hy2 (stp_gtr rfl rfl) rfl (oD (stp_pick_f rfl hy2 rfl) rfl ?_))
  obtain rfl := sI ey2
  exact ow_nil (jy 3 0)
 refine ow_nil (kw_nx (cw_cond rfl (fun h3 => ?_) (fun h3 => ?_)))
 ·have H0 := cond_t H0 h3
  refine sr (oD (stp_build (cs := #[.slice none 0 0, .int .i64 0]) sevp_nil bt29_2) rfl (oC2 0 ts29 rfl rfl (oS rfl (nn (cw_ret (kw_nx_ret (kw_addNil 1 ?_)))))))
  obtain rfl := sI H0
  exact kr Tryz.results151 (.cons (.cellN (us := [_, _]) ts29 rfl (Cells.box (id := 0) rfl 2 rfl)) (rT rfl)) [1] ⟨_, _, _, _, rfl, rfl, rfl, (OwnC.nil _ _)⟩
 have H0 := cond_f H0 h3
 obtain ⟨x4, e4, H0⟩ := bS H0
 refine cw_skip (kw_nx (sr (oM rfl (oE (stpU_make sl27 rfl 2 rfl rfl e4) rfl ?_))))
 rintro _ _ ⟨p5, C6, rfl, rfl, o6⟩
 refine oD (stp_build (cs := #[.slice p5 x4 x4, .int .i64 0]) (sevp_cons rfl sevp_nil) bt29_3) rfl (oC2 0 ts29 rfl rfl (oS rfl (nn (cw_ret ?_))))
 obtain rfl := sI H0
 exact kr Tryz.results151 (.cons (.cellN (us := [_, _]) ts29 rfl (Cells.box (id := 0) rfl 2 rfl)) (rT rfl)) [2] ⟨_, _, _, _, rfl, rfl, (by simp), o6⟩

theorem c_s_NewTags (fl : Nat) (w : World) (a0 : Int) (r : Tg × Bool) (H0 : s_NewTags fl a0 = some r) :
  Ct Tryz.prog 152 [.int .i64 a0] w [] (fun rv h' => ∃ (x0 : Option Addr) (y0 z0 : Nat) (C0 : Res), rv = .tuple #[.agg #[.int .i64 r.1.c, .int .i64 r.1.n, .int .i64 r.1.r, .slice x0 y0 z0], .bool r.2] ∧ h' = [(0, C0)] ∧ y0 = (r.1.o).length ∧ OwnC 118 x0 z0 r.1.o C0) := by
 unfold s_NewTags at H0
 refine ct_of_cw Tryz.func152 rfl Tryz.ntmps152 rfl (Sat.refl _ _) ?_
 refine sr (oE (stpU_alloc 0 tz32 rfl) rfl ?_)
 rintro _ _ ⟨b1, rfl, rfl⟩
 obtain ⟨y2, ey2, H0⟩ := bS H0
 refine oS rfl (nn (cw_seq (sr (oM rfl (oW rfl (oM rfl (ow_cutY 3 9 y2 ?_ ?_)))))))
 ·rcases Bool.eq_false_or_eq_true (decide (a0 < 1)) with hy2 | hy2
  ·have ey2 := cond_t ey2 hy2
   refine oO rfl hy2 rfl (oO rfl hy2 rfl (oD (stp_pick_t rfl hy2 rfl) rfl ?_))
   obtain rfl := sI ey2
   exact ow_nil (jy 3 0)
  have ey2 := cond_f ey2 hy2
  refine oG rfl hy2 (mv rfl) rfl (oG rfl hy2 (stp_gtr rfl rfl) rfl (oD (stp_pick_f rfl hy2 rfl) rfl ?_))
  obtain rfl := sI ey2
  exact ow_nil (jy 3 0)
 refine ow_nil (kw_nx (cw_cond rfl (fun h3 => ?_) (fun h3 => ?_)))
 ·have H0 := cond_t H0 h3
  refine sr (oD (stp_build (cs := #[.int .i64 0, .int .i64 0, .int .i64 0, .slice none 0 0]) sevp_nil bt32_4) rfl (oC4 0 ts32 rfl rfl (oS rfl (nn (cw_ret (kw_nx_ret (kw_addNil 1 ?_)))))))
  obtain rfl := sI H0
  exact kr Tryz.results152 (.cons (.cellN (us := [_, _, _, _]) ts32 rfl (Cells.box (id := 0) rfl 4 rfl)) (rT rfl)) [1] ⟨_, _, _, _, rfl, rfl, rfl, (OwnC.nil _ _)⟩
 have H0 := cond_f H0 h3
 refine cw_skip (kw_nx (sr (oM rfl (oE (stpU_lit0 sl30 2) rfl ?_))))
 rintro _ _ ⟨p4, C5, rfl, rfl, o5⟩
 refine oD (stp_build (cs := #[.int .i64 a0, .int .i64 0, .int .i64 0, .slice p4 0 0]) (sevp_cons rfl (sevp_cons rfl sevp_nil)) bt32_5) rfl (oC4 0 ts32 rfl rfl (oS rfl (nn (cw_ret ?_))))
 obtain rfl := sI H0
 exact kr Tryz.results152 (.cons (.cellN (us := [_, _, _, _]) ts32 rfl (Cells.box (id := 0) rfl 4 rfl)) (rT rfl)) [2] ⟨_, _, _, _, rfl, rfl, (by simp), o5⟩

theorem c_s_l1Space (fl : Nat) (w : World) (a0 : Int) (r : Bool) (H0 : s_l1Space fl a0 = some r) :
  Ct Tryz.prog 102 [.int .i64 a0] w [] (fun rv h' => rv = .bool r ∧ h' = []) := by
 unfold s_l1Space at H0
 refine ct_of_cw Tryz.func102 rfl Tryz.ntmps102 rfl (Sat.refl _ _) ?_
 obtain ⟨y1, ey1, H0⟩ := bS H0
 refine sr (oS rfl (nn (sr (oM rfl (oI rfl (oM rfl (ow_cutY 3 8 y1 ?_ ?_)))))))
 ·rcases Bool.eq_false_or_eq_true (decide (0 ≤ a0)) with hy1 | hy1
  ·have ey1 := cond_t ey1 hy1
   refine oG rfl hy1 (mv rfl) rfl (oG rfl hy1 (stp_lss rfl rfl) rfl (oD (stp_pick_t rfl hy1 rfl) rfl ?_))
   obtain rfl := sI ey1
   exact ow_nil (jy 3 0)
  have ey1 := cond_f ey1 hy1
  refine oO rfl hy1 rfl (oO rfl hy1 rfl (oD (stp_pick_f rfl hy1 rfl) rfl ?_))
  obtain rfl := sI ey1
  exact ow_nil (jy 3 0)
 refine oS rfl (nn (cw_ret ?_))
 obtain rfl := sI H0
 exact kr Tryz.results102 (rT rfl) [] ⟨rfl, rfl⟩

theorem c_s_TagsValid (fl : Nat) (w : World) (a0 : Tg) (hn0_0 : n0_0 = (a0.o).length) (hr0_0 : RO w (hkeys []) (RdL p0_0 c0_0 a0.o)) (r : Bool) (H0 : s_TagsValid fl a0 = some r) :
  Ct Tryz.prog 101 [.agg #[.int .i64 a0.c, .int .i64 a0.n, .int .i64 a0.r, .slice p0_0 n0_0 c0_0]] w [] (fun rv h' => rv = .bool r ∧ h' = []) := by
 subst hn0_0
 unfold s_TagsValid at H0
 refine ct_of_cw Tryz.func101 rfl Tryz.ntmps101 rfl (Sat.refl _ _) ?_
 refine sr (oE (stpU_box 0 rfl rfl) rfl ?_)
 rintro _ _ ⟨b1, rfl, rfl⟩
 obtain ⟨y2, ey2, H0⟩ := bS H0
 refine oS rfl (nn (cw_seq (sr (oA 0 Tryz.underlying32 rfl ts3 rfl (oL 0 ts3 rfl (oW rfl (oM rfl (ow_cutY 4 13 y2 ?_ ?_))))))))
 ·rcases Bool.eq_false_or_eq_true (decide (a0.c < 1)) with hy2 | hy2
  ·have ey2 := cond_t ey2 hy2
   refine oO rfl hy2 rfl (oO rfl hy2 rfl (oO rfl hy2 rfl (oD (stp_pick_t rfl hy2 rfl) rfl ?_)))
   obtain rfl := sI ey2
   exact ow_nil (jy 4 0)
  have ey2 := cond_f ey2 hy2
  refine oG rfl hy2 (fA 0 Tryz.underlying32 rfl ts3 rfl rfl rfl) rfl (oG rfl hy2 (lB 0 ts3 rfl rfl rfl) rfl (oG rfl hy2 (stp_gtr rfl rfl) rfl (oD (stp_pick_f rfl hy2 rfl) rfl ?_)))
  obtain rfl := sI ey2
  exact ow_nil (jy 4 0)
 obtain ⟨y3, ey3, H0⟩ := bS H0
 refine oM rfl (ow_cutY 4 18 y3 ?_ ?_)
 ·rcases Bool.eq_false_or_eq_true y2 with hy3 | hy3
  ·have ey3 := cond_t ey3 hy3
   refine oO rfl hy3 rfl (oO rfl hy3 rfl (oO rfl hy3 rfl (oD (stp_pick_t rfl hy3 rfl) rfl ?_)))
   obtain rfl := sI ey3
   exact ow_nil (jy 4 0)
  have ey3 := cond_f ey3 hy3
  refine oG rfl hy3 (fA 1 Tryz.underlying32 rfl ts3 rfl rfl rfl) rfl (oG rfl hy3 (lB 0 ts3 rfl rfl rfl) rfl (oG rfl hy3 (stp_lss rfl rfl) rfl (oD (stp_pick_f rfl hy3 rfl) rfl ?_)))
  obtain rfl := sI ey3
  exact ow_nil (jy 4 0)
 obtain ⟨y4, ey4, H0⟩ := bS H0
 refine oM rfl (ow_cutY 6 25 y4 ?_ ?_)
 ·rcases Bool.eq_false_or_eq_true y3 with hy4 | hy4
  ·have ey4 := cond_t ey4 hy4
   refine oO rfl hy4 rfl (oO rfl hy4 rfl (oO rfl hy4 rfl (oO rfl hy4 rfl (oO rfl hy4 rfl (oD (stp_pick_t rfl hy4 rfl) rfl ?_)))))
   obtain rfl := sI ey4
   exact ow_nil (jy 6 0)
  have ey4 := cond_f ey4 hy4
  refine oG rfl hy4 (fA 1 Tryz.underlying32 rfl ts3 rfl rfl rfl) rfl (oG rfl hy4 (lB 0 ts3 rfl rfl rfl) rfl (oG rfl hy4 (fA 0 Tryz.underlying32 rfl ts3 rfl rfl rfl) rfl (oG rfl hy4 (lB 0 ts3 rfl rfl rfl) rfl (oG rfl hy4 (stp_gtr rfl rfl) rfl (oD (stp_pick_f rfl hy4 rfl) rfl ?_)))))
  obtain rfl := sI ey4
  exact ow_nil (jy 6 0)
 obtain ⟨y5, ey5, H0⟩ := bS H0
 refine oM rfl (ow_cutY 4 30 y5 ?_ ?_)
 ·rcases Bool.eq_false_or_eq_true y4 with hy5 | hy5
  ·have ey5 := cond_t ey5 hy5
   refine oO rfl hy5 rfl (oO rfl hy5 rfl (oO rfl hy5 rfl (oD (stp_pick_t rfl hy5 rfl) rfl ?_)))
   obtain rfl := sI ey5
   exact ow_nil (jy 4 0)
  have ey5 := cond_f ey5 hy5
  refine oG rfl hy5 (fA 2 Tryz.underlying32 rfl ts3 rfl rfl rfl) rfl (oG rfl hy5 (lB 0 ts3 rfl rfl rfl) rfl (oG rfl hy5 (stp_lss rfl rfl) rfl (oD (stp_pick_f rfl hy5 rfl) rfl ?_)))
  obtain rfl := sI ey5
  exact ow_nil (jy 4 0)
 obtain ⟨y6, ey6, H0⟩ := bS H0
 refine oM rfl (ow_cutY 4 35 y6 ?_ ?_)
 ·rcases Bool.eq_false_or_eq_true y5 with hy6 | hy6
  ·have ey6 := cond_t ey6 hy6
   refine oO rfl hy6 rfl (oO rfl hy6 rfl (oO rfl hy6 rfl (oD (stp_pick_t rfl hy6 rfl) rfl ?_)))
   obtain rfl := sI ey6
   exact ow_nil (jy 4 0)
  have ey6 := cond_f ey6 hy6
  refine oG rfl hy6 (fA 2 Tryz.underlying32 rfl ts3 rfl rfl rfl) rfl (oG rfl hy6 (lB 0 ts3 rfl rfl rfl) rfl (oG rfl hy6 (stp_gtr rfl rfl) rfl (oD (stp_pick_f rfl hy6 rfl) rfl ?_)))
  obtain rfl := sI ey6
  exact ow_nil (jy 4 0)
 obtain ⟨y7, ey7, H0⟩ := bS H0
 refine oM rfl (ow_cutY 7 43 y7 ?_ ?_)
 ·rcases Bool.eq_false_or_eq_true y6 with hy7 | hy7
  ·have ey7 := cond_t ey7 hy7
   refine oO rfl hy7 rfl (oO rfl hy7 rfl (oO rfl hy7 rfl (oO rfl hy7 rfl (oO rfl hy7 rfl (oO rfl hy7 rfl (oD (stp_pick_t rfl hy7 rfl) rfl ?_))))))
   obtain rfl := sI ey7
   exact ow_nil (jy 7 0)
  have ey7 := cond_f ey7 hy7
  refine oG rfl hy7 (fA 3 Tryz.underlying32 rfl ts30 rfl rfl rfl) rfl (oG rfl hy7 (lB 0 ts30 rfl rfl rfl) rfl (oG rfl hy7 (stp_len Tryz.underlying30 rfl) rfl (oG rfl hy7 (fA 1 Tryz.underlying32 rfl ts3 rfl rfl rfl) rfl (oG rfl hy7 (lB 0 ts3 rfl rfl rfl) rfl (oG rfl hy7 (stp_gtr rfl rfl) rfl (oD (stp_pick_f rfl hy7 rfl) rfl ?_))))))
  obtain rfl := sI ey7
  exact ow_nil (jy 7 0)
 refine ow_nil (kw_nx (cw_cond rfl (fun h8 => ?_) (fun h8 => ?_)))
 ·have H0 := cond_t H0 h8
  refine sr (oS rfl (nn (cw_ret (kw_nx_ret ?_))))
  obtain rfl := sI H0
  exact kr Tryz.results101 (rT rfl) [] ⟨rfl, rfl⟩
 have H0 := cond_f H0 h8
 obtain ⟨o0_0, eo0_0, H0⟩ := bS H0
 refine cw_skip (kw_nx (cw_seq (sr (oS rfl (nn (cw_join (ι := Int) (fun | v9 => o0_0 = .out v9) (fun | v9 => [(1, .pointer (some ⟨b1, 0, none⟩)), (3, .int .i64 v9)]) (fun | v9 => [(0, [(b1, .cells #[.int .i64 a0.c, .int .i64 a0.n, .int .i64 a0.r, .slice p0_0 ((a0.o).length) c0_0] 32 (0, 0))])]) ?_ ?_))))))
 ·refine cw_block (cw_loopS (ι := Nat × Int) (js := [0]) (fun x => x.1) (fun | (fuel, v9) => s_TagsValid_L0 fl a0 fuel v9 = some o0_0) (fun | (_, v9) => [(1, .pointer (some ⟨b1, 0, none⟩)), (3, .int .i64 v9)]) (fun | (_, v9) => [(0, [(b1, .cells #[.int .i64 a0.c, .int .i64 a0.n, .int .i64 a0.r, .slice p0_0 ((a0.o).length) c0_0] 32 (0, 0))])]) (fl, 0) eo0_0 ⟨rfl, rfl, trivial⟩ ⟨0, [], rfl, rfl, trivial⟩ (by decide) ?_)
  rintro ⟨fuel, v9⟩ H1
  have H1 : s_TagsValid_L0 fl a0 fuel v9 = some o0_0 := H1
  rcases fuel with _ | fuel
  ·rw [s_TagsValid_L0.eq_1] at H1; cases H1
  rw [s_TagsValid_L0.eq_2] at H1
  dsimp only
  refine cw_seq (sr (oM rfl (oA 3 Tryz.underlying32 rfl ts30 rfl (oL 0 ts30 rfl (oD (stp_len Tryz.underlying30 rfl) rfl (oW rfl (nn (cw_cond rfl (fun h10 => ?_) (fun h10 => ?_)))))))))
  ·have H1 := cond_t H1 h10
   obtain ⟨x11, e11, H1⟩ := bS H1
   refine cw_skip (kw_nx (cw_seq (cw_block (sr (oA 3 Tryz.underlying32 rfl ts30 rfl (oL 0 ts30 rfl (oM rfl (oD (stp_indexAddr Tryz.underlying30 ts118 (by decide) rfl rfl rfl (Rdb.ro hr0_0) e11) rfl (oD (stp_loadN (us := [_, _]) ts118 rfl (Cells.el (Rdb.ro hr0_0) (by decide) e11 0 2 rfl)) rfl (oE (stpU_alloc 1 tz118 rfl) rfl ?_))))))))))
   rintro _ _ ⟨b12, rfl, rfl⟩
   obtain ⟨x13, e13, H1⟩ := bS H1
   obtain ⟨y14, ey14, H1⟩ := bS H1
   obtain ⟨y15, ey15, H1⟩ := bS H1
   obtain ⟨y16, ey16, H1⟩ := bS H1
   refine oC2 1 ts118 rfl rfl (nn (cw_seq (cw_seq (cw_join (ι := Unit) (fun | _ => True) (fun | _ => [(1, .pointer (some ⟨b1, 0, none⟩)), (3, .int .i64 v9), (4, .pointer (some ⟨b12, 0, none⟩)), (87, .bool y16)]) (fun | _ => [(0, [(b1, .cells #[.int .i64 a0.c, .int .i64 a0.n, .int .i64 a0.r, .slice p0_0 ((a0.o).length) c0_0] 32 (0, 0))]), (1, [(b12, .cells #[.int .i64 x11.sp, .int .i64 x11.tg] 118 (0, 0))])]) ?_ ?_))))
   ·rcases Bool.eq_false_or_eq_true (!x13) with hy14 | hy14
    ·have ey14 := cond_t ey14 hy14
     have qy14 := sI ey14
     have hy15 : y14 = true := by rw [← qy14]
     have ey15 := cond_t ey15 hy15
     have qy15 := sI ey15
     have hy16 : y15 = true := by rw [← qy15]
     have ey16 := cond_t ey16 hy16
     have qy16 := sI ey16
     refine rdq g_mixed [4] [1] { dst := dS [57, 58, 59, 60, 61, 62, 63, 64, 65, 66, 67, 68, 69, 70, 71, 72, 73, 74, 75, 76, 77, 78, 79, 80, 81, 82, 83, 84, 85, 86, 87, 88], pre := gA [] [[], [0], [0, 1], [0, 1, 2], rn 0 4, rn 0 5, rn 0 6, rn 0 7, rn 0 8, rn 0 9, rn 0 10, rn 0 11, rn 0 10, [0, 1, 2, 3, 4, 5, 6, 7, 8, 9, 12], rn 0 14, rn 0 15, rn 0 16, rn 0 17, rn 0 18, rn 0 19, rn 0 20, rn 0 21, rn 0 20, [0, 1, 2, 3, 4, 5, 6, 7, 8, 9, 10, 11, 12, 13, 14, 15, 16, 17, 18, 19, 22], rn 0 24, rn 0 25, rn 0 26, rn 0 20, [0, 1, 2, 3, 4, 5, 6, 7, 8, 9, 10, 11, 12, 13, 14, 15, 16, 17, 18, 19, 27], rn 0 29, rn 0 30, rn 0 31], ids := fun _ => [], rs := rL [[(4, 0)], [(56, 1)], [(57, 2)], [(58, 3)], [(59, 4)], [(60, 5)], [(60, 5)], [(60, 5)], [(60, 5), (63, 8)], [(64, 9)], [(65, 10)], [(65, 10)], [(65, 10)], [(65, 10)], [(65, 10)], [(65, 10), (70, 15)], [(71, 16)], [(72, 17)], [(72, 17)], [(72, 17)], [(75, 20)], [(75, 20)], [(75, 20)], [(75, 20)], [(75, 20)], [(75, 20)], [(75, 20)], [(75, 20)], [(75, 20)], [(75, 20)], [(72, 17)], [(72, 17), (86, 31)]], rh := rL [[], [(1, 0)]], V := fun i g => gA undef [.pointer (some ⟨b12, 0, none⟩), .int .i64 x11.sp, .bool x13, .bool (!x13), .bool (!x13), undef, undef, undef, .bool y14, .bool y14, undef, undef, undef, undef, undef, .bool y15, .bool y15, undef, undef, undef, undef, undef, undef, undef, undef, undef, undef, undef, undef, undef, undef, .bool y16] i, U := fun _ _ => [], Φ := fun _ _ => True } ?_ ?_
     ·refine ⟨lc rfl rfl fun hs hh => stp_fieldAddr (j := 0) Tryz.underlying118 rfl ts3 rfl (sv hs 4 rfl) rfl, lc rfl rfl fun hs hh => stp_load1 ts3 (sv hs 56 rfl) (Cells.box (id := 1) (hh.get 1 _ rfl) 1 rfl), ?_, lc rfl rfl fun hs hh => stp_not (sv hs 58 rfl), lM, lo rfl rfl 60 hy14, lo rfl rfl 60 hy14, lo rfl rfl 60 hy14, lc rfl rfl fun hs hh => stp_pick_tB (sv hs 60 rfl) hy14 rfl qy14, lM, lo rfl rfl 65 hy15, lo rfl rfl 65 hy15, lo rfl rfl 65 hy15, lo rfl rfl 65 hy15, lo rfl rfl 65 hy15, lc rfl rfl fun hs hh => stp_pick_tB (sv hs 65 rfl) hy15 rfl qy15, lM, lo rfl rfl 72 hy16, lo rfl rfl 72 hy16, lo rfl rfl 72 hy16, lx rfl rfl 75, lx rfl rfl 75, lx rfl rfl 75, lx rfl rfl 75, lx rfl rfl 75, lx rfl rfl 75, lx rfl rfl 75, lx rfl rfl 75, lx rfl rfl 75, lx rfl rfl 75, lo rfl rfl 72 hy16, lc rfl rfl fun hs hh => stp_pick_tB (sv hs 72 rfl) hy16 rfl qy16, trivial⟩
      refine le rfl rfl (fun g hΦ s h hs hh => (stpU_call (fun i => 2 + i) cf102 (fun w hw => c_s_l1Space fl w x11.sp x13 e13) (yA (sv hs 57 rfl)))) ?_
      rintro g _ _ ⟨_, ⟨rfl, rfl⟩, rfl⟩
      exact ⟨⟨[], [], []⟩, trivial, .inr rfl, rfl⟩
     intro g hΦ
     exact kw_join () trivial ⟨rfl, rfl, rfl, rfl, trivial⟩ ⟨rfl, rfl, trivial⟩
    have ey14 := cond_f ey14 hy14
    have qy14 := sI ey14
    rcases Bool.eq_false_or_eq_true y14 with hy15 | hy15
    ·have ey15 := cond_t ey15 hy15
     have qy15 := sI ey15
     have hy16 : y15 = true := by rw [← qy15]
     have ey16 := cond_t ey16 hy16
     have qy16 := sI ey16
     refine rdq g_mixed [4] [1] { dst := dS [57, 58, 59, 60, 61, 62, 63, 64, 65, 66, 67, 68, 69, 70, 71, 72, 73, 74, 75, 76, 77, 78, 79, 80, 81, 82, 83, 84, 85, 86, 87, 88], pre := gA [] [[], [0], [0, 1], [0, 1, 2], rn 0 4, rn 0 5, rn 0 6, rn 0 7, rn 0 8, rn 0 9, rn 0 10, rn 0 11, rn 0 10, [0, 1, 2, 3, 4, 5, 6, 7, 8, 9, 12], rn 0 14, rn 0 15, rn 0 16, rn 0 17, rn 0 18, rn 0 19, rn 0 20, rn 0 21, rn 0 20, [0, 1, 2, 3, 4, 5, 6, 7, 8, 9, 10, 11, 12, 13, 14, 15, 16, 17, 18, 19, 22], rn 0 24, rn 0 25, rn 0 26, rn 0 20, [0, 1, 2, 3, 4, 5, 6, 7, 8, 9, 10, 11, 12, 13, 14, 15, 16, 17, 18, 19, 27], rn 0 29, rn 0 30, rn 0 31], ids := fun _ => [], rs := rL [[(4, 0)], [(56, 1)], [(57, 2)], [(58, 3)], [(59, 4)], [(4, 0), (60, 5)], [(61, 6), (60, 5)], [(62, 7), (60, 5)], [(60, 5), (63, 8)], [(64, 9)], [(65, 10)], [(65, 10)], [(65, 10)], [(65, 10)], [(65, 10)], [(65, 10), (70, 15)], [(71, 16)], [(72, 17)], [(72, 17)], [(72, 17)], [(75, 20)], [(75, 20)], [(75, 20)], [(75, 20)], [(75, 20)], [(75, 20)], [(75, 20)], [(75, 20)], [(75, 20)], [(75, 20)], [(72, 17)], [(72, 17), (86, 31)]], rh := rL [[], [(1, 0)], [], [], [], [], [(1, 0)]], V := fun i g => gA undef [.pointer (some ⟨b12, 0, none⟩), .int .i64 x11.sp, .bool x13, .bool (!x13), .bool (!x13), .pointer (some ⟨b12, 1, none⟩), .int .i64 x11.tg, .bool (decide (x11.tg < 0)), .bool y14, .bool y14, undef, undef, undef, undef, undef, .bool y15, .bool y15, undef, undef, undef, undef, undef, undef, undef, undef, undef, undef, undef, undef, undef, undef, .bool y16] i, U := fun _ _ => [], Φ := fun _ _ => True } ?_ ?_
     ·refine ⟨lc rfl rfl fun hs hh => stp_fieldAddr (j := 0) Tryz.underlying118 rfl ts3 rfl (sv hs 4 rfl) rfl, lc rfl rfl fun hs hh => stp_load1 ts3 (sv hs 56 rfl) (Cells.box (id := 1) (hh.get 1 _ rfl) 1 rfl), ?_, lc rfl rfl fun hs hh => stp_not (sv hs 58 rfl), lM, lg rfl rfl 60 hy14 fun hs hh => stp_fieldAddr (j := 1) Tryz.underlying118 rfl ts3 rfl (sv hs 4 rfl) rfl, lg rfl rfl 60 hy14 fun hs hh => stp_load1 ts3 (sv hs 61 rfl) (Cells.box (id := 1) (hh.get 1 _ rfl) 1 rfl), lg rfl rfl 60 hy14 fun hs hh => stp_lss (sv hs 62 rfl) rfl, lc rfl rfl fun hs hh => stp_pick_fB (sv hs 60 rfl) hy14 (sv hs 63 rfl) qy14, lM, lo rfl rfl 65 hy15, lo rfl rfl 65 hy15, lo rfl rfl 65 hy15, lo rfl rfl 65 hy15, lo rfl rfl 65 hy15, lc rfl rfl fun hs hh => stp_pick_tB (sv hs 65 rfl) hy15 rfl qy15, lM, lo rfl rfl 72 hy16, lo rfl rfl 72 hy16, lo rfl rfl 72 hy16, lx rfl rfl 75, lx rfl rfl 75, lx rfl rfl 75, lx rfl rfl 75, lx rfl rfl 75, lx rfl rfl 75, lx rfl rfl 75, lx rfl rfl 75, lx rfl rfl 75, lx rfl rfl 75, lo rfl rfl 72 hy16, lc rfl rfl fun hs hh => stp_pick_tB (sv hs 72 rfl) hy16 rfl qy16, trivial⟩
      refine le rfl rfl (fun g hΦ s h hs hh => (stpU_call (fun i => 2 + i) cf102 (fun w hw => c_s_l1Space fl w x11.sp x13 e13) (yA (sv hs 57 rfl)))) ?_
      rintro g _ _ ⟨_, ⟨rfl, rfl⟩, rfl⟩
      exact ⟨⟨[], [], []⟩, trivial, .inr rfl, rfl⟩
     intro g hΦ
     exact kw_join () trivial ⟨rfl, rfl, rfl, rfl, trivial⟩ ⟨rfl, rfl, trivial⟩
    have ey15 := cond_f ey15 hy15
    have qy15 := sI ey15
    rcases Bool.eq_false_or_eq_true y15 with hy16 | hy16
    ·have ey16 := cond_t ey16 hy16
     have qy16 := sI ey16
     refine rdq g_mixed [1, 4] [0, 1] { dst := dS [57, 58, 59, 60, 61, 62, 63, 64, 65, 66, 67, 68, 69, 70, 71, 72, 73, 74, 75, 76, 77, 78, 79, 80, 81, 82, 83, 84, 85, 86, 87, 88], pre := gA [] [[], [0], [0, 1], [0, 1, 2], rn 0 4, rn 0 5, rn 0 6, rn 0 7, rn 0 8, rn 0 9, rn 0 10, rn 0 11, rn 0 10, [0, 1, 2, 3, 4, 5, 6, 7, 8, 9, 12], rn 0 14, rn 0 15, rn 0 16, rn 0 17, rn 0 18, rn 0 19, rn 0 20, rn 0 21, rn 0 20, [0, 1, 2, 3, 4, 5, 6, 7, 8, 9, 10, 11, 12, 13, 14, 15, 16, 17, 18, 19, 22], rn 0 24, rn 0 25, rn 0 26, rn 0 20, [0, 1, 2, 3, 4, 5, 6, 7, 8, 9, 10, 11, 12, 13, 14, 15, 16, 17, 18, 19, 27], rn 0 29, rn 0 30, rn 0 31], ids := fun _ => [], rs := rL [[(4, 0)], [(56, 1)], [(57, 2)], [(58, 3)], [(59, 4)], [(4, 0), (60, 5)], [(61, 6), (60, 5)], [(62, 7), (60, 5)], [(60, 5), (63, 8)], [(64, 9)], [(4, 0), (65, 10)], [(66, 11), (65, 10)], [(1, 0), (65, 10)], [(68, 13), (65, 10)], [(67, 12), (69, 14), (65, 10)], [(65, 10), (70, 15)], [(71, 16)], [(72, 17)], [(72, 17)], [(72, 17)], [(75, 20)], [(75, 20)], [(75, 20)], [(75, 20)], [(75, 20)], [(75, 20)], [(75, 20)], [(75, 20)], [(75, 20)], [(75, 20)], [(72, 17)], [(72, 17), (86, 31)]], rh := rL [[], [(1, 0)], [], [], [], [], [(1, 0)], [], [], [], [], [(1, 0)], [], [(0, 0)]], V := fun i g => gA undef [.pointer (some ⟨b12, 0, none⟩), .int .i64 x11.sp, .bool x13, .bool (!x13), .bool (!x13), .pointer (some ⟨b12, 1, none⟩), .int .i64 x11.tg, .bool (decide (x11.tg < 0)), .bool y14, .bool y14, .pointer (some ⟨b12, 1, none⟩), .int .i64 x11.tg, .pointer (some ⟨b1, 1, none⟩), .int .i64 a0.n, .bool (decide (a0.n ≤ x11.tg)), .bool y15, .bool y15, undef, undef, undef, undef, undef, undef, undef, undef, undef, undef, undef, undef, undef, undef, .bool y16] i, U := fun _ _ => [], Φ := fun _ _ => True } ?_ ?_
     ·refine ⟨lc rfl rfl fun hs hh => stp_fieldAddr (j := 0) Tryz.underlying118 rfl ts3 rfl (sv hs 4 rfl) rfl, lc rfl rfl fun hs hh => stp_load1 ts3 (sv hs 56 rfl) (Cells.box (id := 1) (hh.get 1 _ rfl) 1 rfl), ?_, lc rfl rfl fun hs hh => stp_not (sv hs 58 rfl), lM, lg rfl rfl 60 hy14 fun hs hh => stp_fieldAddr (j := 1) Tryz.underlying118 rfl ts3 rfl (sv hs 4 rfl) rfl, lg rfl rfl 60 hy14 fun hs hh => stp_load1 ts3 (sv hs 61 rfl) (Cells.box (id := 1) (hh.get 1 _ rfl) 1 rfl), lg rfl rfl 60 hy14 fun hs hh => stp_lss (sv hs 62 rfl) rfl, lc rfl rfl fun hs hh => stp_pick_fB (sv hs 60 rfl) hy14 (sv hs 63 rfl) qy14, lM, lg rfl rfl 65 hy15 fun hs hh => stp_fieldAddr (j := 1) Tryz.underlying118 rfl ts3 rfl (sv hs 4 rfl) rfl, lg rfl rfl 65 hy15 fun hs hh => stp_load1 ts3 (sv hs 66 rfl) (Cells.box (id := 1) (hh.get 1 _ rfl) 1 rfl), lg rfl rfl 65 hy15 fun hs hh => stp_fieldAddr (j := 1) Tryz.underlying32 rfl ts3 rfl (sv hs 1 rfl) rfl, lg rfl rfl 65 hy15 fun hs hh => stp_load1 ts3 (sv hs 68 rfl) (Cells.box (id := 0) (hh.get 0 _ rfl) 1 rfl), lg rfl rfl 65 hy15 fun hs hh => stp_geq (sv hs 67 rfl) (sv hs 69 rfl), lc rfl rfl fun hs hh => stp_pick_fB (sv hs 65 rfl) hy15 (sv hs 70 rfl) qy15, lM, lo rfl rfl 72 hy16, lo rfl rfl 72 hy16, lo rfl rfl 72 hy16, lx rfl rfl 75, lx rfl rfl 75, lx rfl rfl 75, lx rfl rfl 75, lx rfl rfl 75, lx rfl rfl 75, lx rfl rfl 75, lx rfl rfl 75, lx rfl rfl 75, lx rfl rfl 75, lo rfl rfl 72 hy16, lc rfl rfl fun hs hh => stp_pick_tB (sv hs 72 rfl) hy16 rfl qy16, trivial⟩
      refine le rfl rfl (fun g hΦ s h hs hh => (stpU_call (fun i => 2 + i) cf102 (fun w hw => c_s_l1Space fl w x11.sp x13 e13) (yA (sv hs 57 rfl)))) ?_
      rintro g _ _ ⟨_, ⟨rfl, rfl⟩, rfl⟩
      exact ⟨⟨[], [], []⟩, trivial, .inr rfl, rfl⟩
     intro g hΦ
     exact kw_join () trivial ⟨rfl, rfl, rfl, rfl, trivial⟩ ⟨rfl, rfl, trivial⟩
    have ey16 := cond_f ey16 hy16
    obtain ⟨y17, ey17, ey16⟩ := bS ey16
    rcases Bool.eq_false_or_eq_true (decide (0 < v9)) with hy17 | hy17
    ·have ey17 := cond_t ey17 hy17
     obtain ⟨x18, e18, ey17⟩ := bS ey17
     obtain ⟨x19, e19, ey17⟩ := bS ey17
     have qy17 := sI ey17
     have qy16 := sI ey16
     refine rdq g_mixed [1, 3, 4] [0, 1] { dst := dS [57, 58, 59, 60, 61, 62, 63, 64, 65, 66, 67, 68, 69, 70, 71, 72, 73, 74, 75, 76, 77, 78, 79, 80, 81, 82, 83, 84, 85, 86, 87, 88], pre := gA [] [[], [0], [0, 1], [0, 1, 2], rn 0 4, rn 0 5, rn 0 6, rn 0 7, rn 0 8, rn 0 9, rn 0 10, rn 0 11, rn 0 10, [0, 1, 2, 3, 4, 5, 6, 7, 8, 9, 12], rn 0 14, rn 0 15, rn 0 16, rn 0 17, rn 0 18, rn 0 19, rn 0 20, rn 0 21, rn 0 20, [0, 1, 2, 3, 4, 5, 6, 7, 8, 9, 10, 11, 12, 13, 14, 15, 16, 17, 18, 19, 22], rn 0 24, rn 0 25, rn 0 26, rn 0 20, [0, 1, 2, 3, 4, 5, 6, 7, 8, 9, 10, 11, 12, 13, 14, 15, 16, 17, 18, 19, 27], rn 0 29, rn 0 30, rn 0 31], ids := fun _ => [], rs := rL [[(4, 0)], [(56, 1)], [(57, 2)], [(58, 3)], [(59, 4)], [(4, 0), (60, 5)], [(61, 6), (60, 5)], [(62, 7), (60, 5)], [(60, 5), (63, 8)], [(64, 9)], [(4, 0), (65, 10)], [(66, 11), (65, 10)], [(1, 0), (65, 10)], [(68, 13), (65, 10)], [(67, 12), (69, 14), (65, 10)], [(65, 10), (70, 15)], [(71, 16)], [(3, 0), (72, 17)], [(73, 18), (72, 17)], [(74, 19), (72, 17)], [(1, 0), (75, 20)], [(76, 21), (75, 20)], [(3, 0), (75, 20)], [(78, 23), (75, 20)], [(77, 22), (79, 24), (75, 20)], [(80, 25), (75, 20)], [(81, 26), (75, 20)], [(4, 0), (75, 20)], [(83, 28), (75, 20)], [(82, 27), (84, 29), (75, 20)], [(75, 20), (85, 30), (72, 17)], [(72, 17), (86, 31)]], rh := rL [[], [(1, 0)], [], [], [], [], [(1, 0)], [], [], [], [], [(1, 0)], [], [(0, 0)], [], [], [], [], [], [], [], [(0, 0)], [], [], [], [], [], [], [(1, 0)]], V := fun i g => gA undef [.pointer (some ⟨b12, 0, none⟩), .int .i64 x11.sp, .bool x13, .bool (!x13), .bool (!x13), .pointer (some ⟨b12, 1, none⟩), .int .i64 x11.tg, .bool (decide (x11.tg < 0)), .bool y14, .bool y14, .pointer (some ⟨b12, 1, none⟩), .int .i64 x11.tg, .pointer (some ⟨b1, 1, none⟩), .int .i64 a0.n, .bool (decide (a0.n ≤ x11.tg)), .bool y15, .bool y15, .int .i64 v9, .bool (decide (0 < v9)), .bool (decide (0 < v9)), .pointer (some ⟨b1, 3, none⟩), .slice p0_0 ((a0.o).length) c0_0, .int .i64 v9, .int .i64 x18, .pointer (some ⟨eB p0_0, eO p0_0 + Int.toNat x18 * Enc.sz Ow + 0, none⟩), .pointer (some ⟨eB p0_0, eO p0_0 + Int.toNat x18 * Enc.sz Ow + 1, none⟩), .int .i64 x19.tg, .pointer (some ⟨b12, 1, none⟩), .int .i64 x11.tg, .bool (decide (x11.tg ≤ x19.tg)), .bool y17, .bool y16] i, U := fun _ _ => [], Φ := fun _ _ => True } ?_ ?_
     ·refine ⟨lc rfl rfl fun hs hh => stp_fieldAddr (j := 0) Tryz.underlying118 rfl ts3 rfl (sv hs 4 rfl) rfl, lc rfl rfl fun hs hh => stp_load1 ts3 (sv hs 56 rfl) (Cells.box (id := 1) (hh.get 1 _ rfl) 1 rfl), ?_, lc rfl rfl fun hs hh => stp_not (sv hs 58 rfl), lM, lg rfl rfl 60 hy14 fun hs hh => stp_fieldAddr (j := 1) Tryz.underlying118 rfl ts3 rfl (sv hs 4 rfl) rfl, lg rfl rfl 60 hy14 fun hs hh => stp_load1 ts3 (sv hs 61 rfl) (Cells.box (id := 1) (hh.get 1 _ rfl) 1 rfl), lg rfl rfl 60 hy14 fun hs hh => stp_lss (sv hs 62 rfl) rfl, lc rfl rfl fun hs hh => stp_pick_fB (sv hs 60 rfl) hy14 (sv hs 63 rfl) qy14, lM, lg rfl rfl 65 hy15 fun hs hh => stp_fieldAddr (j := 1) Tryz.underlying118 rfl ts3 rfl (sv hs 4 rfl) rfl, lg rfl rfl 65 hy15 fun hs hh => stp_load1 ts3 (sv hs 66 rfl) (Cells.box (id := 1) (hh.get 1 _ rfl) 1 rfl), lg rfl rfl 65 hy15 fun hs hh => stp_fieldAddr (j := 1) Tryz.underlying32 rfl ts3 rfl (sv hs 1 rfl) rfl, lg rfl rfl 65 hy15 fun hs hh => stp_load1 ts3 (sv hs 68 rfl) (Cells.box (id := 0) (hh.get 0 _ rfl) 1 rfl), lg rfl rfl 65 hy15 fun hs hh => stp_geq (sv hs 67 rfl) (sv hs 69 rfl), lc rfl rfl fun hs hh => stp_pick_fB (sv hs 65 rfl) hy15 (sv hs 70 rfl) qy15, lM, lg rfl rfl 72 hy16 fun hs hh => stp_move (sv hs 3 rfl), lg rfl rfl 72 hy16 fun hs hh => stp_gtr (sv hs 73 rfl) rfl, lg rfl rfl 72 hy16 fun hs hh => stp_move (sv hs 74 rfl), lg rfl rfl 75 hy17 fun hs hh => stp_fieldAddr (j := 3) Tryz.underlying32 rfl ts30 rfl (sv hs 1 rfl) rfl, lg rfl rfl 75 hy17 fun hs hh => stp_load1 ts30 (sv hs 76 rfl) (Cells.box (id := 0) (hh.get 0 _ rfl) 1 rfl), lg rfl rfl 75 hy17 fun hs hh => stp_move (sv hs 3 rfl), lg rfl rfl 75 hy17 fun hs hh => stp_sub (sv hs 78 rfl) rfl e18, lg rfl rfl 75 hy17 fun hs hh => stp_indexAddr Tryz.underlying30 ts118 (by decide) (sv hs 77 rfl) rfl (sv hs 79 rfl) (Rdb.ro hr0_0) e19, lg rfl rfl 75 hy17 fun hs hh => stp_fieldAddr (j := 1) Tryz.underlying118 rfl ts3 rfl (sv hs 80 rfl) rfl, lg rfl rfl 75 hy17 fun hs hh => stp_load1 ts3 (sv hs 81 rfl) (Cells.el (Rdb.ro hr0_0) (by decide) e19 1 1 rfl), lg rfl rfl 75 hy17 fun hs hh => stp_fieldAddr (j := 1) Tryz.underlying118 rfl ts3 rfl (sv hs 4 rfl) rfl, lg rfl rfl 75 hy17 fun hs hh => stp_load1 ts3 (sv hs 83 rfl) (Cells.box (id := 1) (hh.get 1 _ rfl) 1 rfl), lg rfl rfl 75 hy17 fun hs hh => stp_geq (sv hs 82 rfl) (sv hs 84 rfl), lg rfl rfl 72 hy16 fun hs hh => stp_pick_tB (sv hs 75 rfl) hy17 (sv hs 85 rfl) qy17, lc rfl rfl fun hs hh => stp_pick_fB (sv hs 72 rfl) hy16 (sv hs 86 rfl) qy16, trivial⟩
      refine le rfl rfl (fun g hΦ s h hs hh => (stpU_call (fun i => 2 + i) cf102 (fun w hw => c_s_l1Space fl w x11.sp x13 e13) (yA (sv hs 57 rfl)))) ?_
      rintro g _ _ ⟨_, ⟨rfl, rfl⟩, rfl⟩
      exact ⟨⟨[], [], []⟩, trivial, .inr rfl, rfl⟩
     intro g hΦ
     exact kw_join () trivial ⟨rfl, rfl, rfl, rfl, trivial⟩ ⟨rfl, rfl, trivial⟩
    have ey17 := cond_f ey17 hy17
    have qy17 := sI ey17
    have qy16 := sI ey16
    refine rdq g_mixed [1, 3, 4] [0, 1] { dst := dS [57, 58, 59, 60, 61, 62, 63, 64, 65, 66, 67, 68, 69, 70, 71, 72, 73, 74, 75, 76, 77, 78, 79, 80, 81, 82, 83, 84, 85, 86, 87, 88], pre := gA [] [[], [0], [0, 1], [0, 1, 2], rn 0 4, rn 0 5, rn 0 6, rn 0 7, rn 0 8, rn 0 9, rn 0 10, rn 0 11, rn 0 10, [0, 1, 2, 3, 4, 5, 6, 7, 8, 9, 12], rn 0 14, rn 0 15, rn 0 16, rn 0 17, rn 0 18, rn 0 19, rn 0 20, rn 0 21, rn 0 20, [0, 1, 2, 3, 4, 5, 6, 7, 8, 9, 10, 11, 12, 13, 14, 15, 16, 17, 18, 19, 22], rn 0 24, rn 0 25, rn 0 26, rn 0 20, [0, 1, 2, 3, 4, 5, 6, 7, 8, 9, 10, 11, 12, 13, 14, 15, 16, 17, 18, 19, 27], rn 0 29, rn 0 30, rn 0 31], ids := fun _ => [], rs := rL [[(4, 0)], [(56, 1)], [(57, 2)], [(58, 3)], [(59, 4)], [(4, 0), (60, 5)], [(61, 6), (60, 5)], [(62, 7), (60, 5)], [(60, 5), (63, 8)], [(64, 9)], [(4, 0), (65, 10)], [(66, 11), (65, 10)], [(1, 0), (65, 10)], [(68, 13), (65, 10)], [(67, 12), (69, 14), (65, 10)], [(65, 10), (70, 15)], [(71, 16)], [(3, 0), (72, 17)], [(73, 18), (72, 17)], [(74, 19), (72, 17)], [(75, 20)], [(75, 20)], [(75, 20)], [(75, 20)], [(75, 20)], [(75, 20)], [(75, 20)], [(75, 20)], [(75, 20)], [(75, 20)], [(75, 20), (85, 30), (72, 17)], [(72, 17), (86, 31)]], rh := rL [[], [(1, 0)], [], [], [], [], [(1, 0)], [], [], [], [], [(1, 0)], [], [(0, 0)]], V := fun i g => gA undef [.pointer (some ⟨b12, 0, none⟩), .int .i64 x11.sp, .bool x13, .bool (!x13), .bool (!x13), .pointer (some ⟨b12, 1, none⟩), .int .i64 x11.tg, .bool (decide (x11.tg < 0)), .bool y14, .bool y14, .pointer (some ⟨b12, 1, none⟩), .int .i64 x11.tg, .pointer (some ⟨b1, 1, none⟩), .int .i64 a0.n, .bool (decide (a0.n ≤ x11.tg)), .bool y15, .bool y15, .int .i64 v9, .bool (decide (0 < v9)), .bool (decide (0 < v9)), undef, undef, undef, undef, undef, undef, undef, undef, undef, undef, .bool y17, .bool y16] i, U := fun _ _ => [], Φ := fun _ _ => True } ?_ ?_
    ·refine ⟨lc rfl rfl fun hs hh => stp_fieldAddr (j := 0) Tryz.underlying118 rfl ts3 rfl (sv hs 4 rfl) rfl, lc rfl rfl fun hs hh => stp_load1 ts3 (sv hs 56 rfl) (Cells.box (id := 1) (hh.get 1 _ rfl) 1 rfl), ?_, lc rfl rfl fun hs hh => stp_not (sv hs 58 rfl), lM, lg rfl rfl 60 hy14 fun hs hh => stp_fieldAddr (j := 1) Tryz.underlying118 rfl ts3 rfl (sv hs 4 rfl) rfl, lg rfl rfl 60 hy14 fun hs hh => stp_load1 ts3 (sv hs 61 rfl) (Cells.box (id := 1) (hh.get 1 _ rfl) 1 rfl), lg rfl rfl 60 hy14 fun hs hh => stp_lss (sv hs 62 rfl) rfl, lc rfl rfl fun hs hh => stp_pick_fB (sv hs 60 rfl) hy14 (sv hs 63 rfl) qy14, lM, lg rfl rfl 65 hy15 fun hs hh => stp_fieldAddr (j := 1) Tryz.underlying118 rfl ts3 rfl (sv hs 4 rfl) rfl, lg rfl rfl 65 hy15 fun hs hh => stp_load1 ts3 (sv hs 66 rfl) (Cells.box (id := 1) (hh.get 1 _ rfl) 1 rfl), lg rfl rfl 65 hy15 fun hs hh => stp_fieldAddr (j := 1) Tryz.underlying32 rfl ts3 rfl (sv hs 1 rfl) rfl, lg rfl rfl 65 hy15 fun hs hh => stp_load1 ts3 (sv hs 68 rfl) (Cells.box (id := 0) (hh.get 0 _ rfl) 1 rfl), lg rfl rfl 65 hy15 fun hs hh => stp_geq (sv hs 67 rfl) (sv hs 69 rfl), lc rfl rfl fun hs hh => stp_pick_fB (sv hs 65 rfl) hy15 (sv hs 70 rfl) qy15, lM, lg rfl rfl 72 hy16 fun hs hh => stp_move (sv hs 3 rfl), lg rfl rfl 72 hy16 fun hs hh => stp_gtr (sv hs 73 rfl) rfl, lg rfl rfl 72 hy16 fun hs hh => stp_move (sv hs 74 rfl), lo rfl rfl 75 hy17, lo rfl rfl 75 hy17, lo rfl rfl 75 hy17, lo rfl rfl 75 hy17, lo rfl rfl 75 hy17, lo rfl rfl 75 hy17, lo rfl rfl 75 hy17, lo rfl rfl 75 hy17, lo rfl rfl 75 hy17, lo rfl rfl 75 hy17, lg rfl rfl 72 hy16 fun hs hh => stp_pick_fB (sv hs 75 rfl) hy17 rfl qy17, lc rfl rfl fun hs hh => stp_pick_fB (sv hs 72 rfl) hy16 (sv hs 86 rfl) qy16, trivial⟩
     refine le rfl rfl (fun g hΦ s h hs hh => (stpU_call (fun i => 2 + i) cf102 (fun w hw => c_s_l1Space fl w x11.sp x13 e13) (yA (sv hs 57 rfl)))) ?_
     rintro g _ _ ⟨_, ⟨rfl, rfl⟩, rfl⟩
     exact ⟨⟨[], [], []⟩, trivial, .inr rfl, rfl⟩
    intro g hΦ
    exact kw_join () trivial ⟨rfl, rfl, rfl, rfl, trivial⟩ ⟨rfl, rfl, trivial⟩
   rintro _ -
   dsimp only
   refine kw_nx (cw_cond rfl (fun h20 => ?_) (fun h20 => ?_))
   ·have H1 := cond_t H1 h20
    refine sr (oS rfl (nn (cw_ret (kw_nx_ret (kw_bl_ret (kw_nx_ret (kw_lq_ret (kw_bl_ret (kw_join_ret (kw_nx_ret ?_))))))))))
    obtain rfl := sI H1
    obtain rfl := sI H0
    exact kr Tryz.results101 (rT rfl) [] ⟨rfl, rfl⟩
   have H1 := cond_f H1 h20
   obtain ⟨o1_1, eo1_1, H1⟩ := bS H1
   refine cw_skip (kw_nx (sr (oS rfl (nn (cw_join (ι := Int) (fun | v21 => o1_1 = .out v21) (fun | v21 => [(1, .pointer (some ⟨b1, 0, none⟩)), (3, .int .i64 v9), (4, .pointer (some ⟨b12, 0, none⟩)), (5, .int .i64 v21)]) (fun | v21 => [(0, [(b1, .cells #[.int .i64 a0.c, .int .i64 a0.n, .int .i64 a0.r, .slice p0_0 ((a0.o).length) c0_0] 32 (0, 0))]), (1, [(b12, .cells #[.int .i64 x11.sp, .int .i64 x11.tg] 118 (0, 0))])]) ?_ ?_)))))
   ·refine cw_block (cw_loopS (ι := Nat × Int) (js := [0, 1]) (fun x => x.1) (fun | (fuel, v21) => s_TagsValid_L1 fl a0 v9 x11 fuel v21 = some o1_1) (fun | (_, v21) => [(1, .pointer (some ⟨b1, 0, none⟩)), (3, .int .i64 v9), (4, .pointer (some ⟨b12, 0, none⟩)), (5, .int .i64 v21)]) (fun | (_, v21) => [(0, [(b1, .cells #[.int .i64 a0.c, .int .i64 a0.n, .int .i64 a0.r, .slice p0_0 ((a0.o).length) c0_0] 32 (0, 0))]), (1, [(b12, .cells #[.int .i64 x11.sp, .int .i64 x11.tg] 118 (0, 0))])]) (fl, 0) eo1_1 ⟨rfl, rfl, rfl, rfl, trivial⟩ ⟨0, [1], rfl, rfl, 1, [], rfl, rfl, trivial⟩ (by decide) ?_)
    rintro ⟨fuel, v21⟩ H2
    have H2 : s_TagsValid_L1 fl a0 v9 x11 fuel v21 = some o1_1 := H2
    rcases fuel with _ | fuel
    ·rw [s_TagsValid_L1.eq_1] at H2; cases H2
    rw [s_TagsValid_L1.eq_2] at H2
    dsimp only
    refine cw_seq (sr (oM rfl (oM rfl (oW rfl (nn (cw_cond rfl (fun h22 => ?_) (fun h22 => ?_)))))))
    ·have H2 := cond_t H2 h22
     obtain ⟨x23, e23, H2⟩ := bS H2
     refine cw_skip (kw_nx (cw_seq (cw_block (cw_seq (rdq g_mixed [1, 4, 5] [0, 1] { dst := dS [94, 95, 96, 97, 98, 99, 100, 101, 102], pre := gA [] [[], [0], [], [0, 1, 2], rn 0 4, rn 0 5, [], [6], rn 0 8], ids := fun _ => [], rs := rL [[(1, 0)], [(93, 1)], [(5, 0)], [(94, 2), (95, 3)], [(96, 4)], [(97, 5)], [(4, 0)], [(99, 7)], [(98, 6), (100, 8)]], rh := rL [[], [(0, 0)], [], [], [], [], [], [(1, 0)]], V := fun i g => gA undef [.pointer (some ⟨b1, 3, none⟩), .slice p0_0 ((a0.o).length) c0_0, .int .i64 v21, .pointer (some ⟨eB p0_0, eO p0_0 + Int.toNat v21 * Enc.sz Ow + 0, none⟩), .pointer (some ⟨eB p0_0, eO p0_0 + Int.toNat v21 * Enc.sz Ow + 0, none⟩), .int .i64 x23.sp, .pointer (some ⟨b12, 0, none⟩), .int .i64 x11.sp, .bool (x23.sp == x11.sp)] i, U := fun _ _ => [], Φ := fun _ _ => True } ?_ ?_)))))
     ·exact ⟨lc rfl rfl fun hs hh => stp_fieldAddr (j := 3) Tryz.underlying32 rfl ts30 rfl (sv hs 1 rfl) rfl, lc rfl rfl fun hs hh => stp_load1 ts30 (sv hs 93 rfl) (Cells.box (id := 0) (hh.get 0 _ rfl) 1 rfl), lM, lc rfl rfl fun hs hh => stp_indexAddr Tryz.underlying30 ts118 (by decide) (sv hs 94 rfl) rfl (sv hs 95 rfl) (Rdb.ro hr0_0) e23, lc rfl rfl fun hs hh => stp_fieldAddr (j := 0) Tryz.underlying118 rfl ts3 rfl (sv hs 96 rfl) rfl, lc rfl rfl fun hs hh => stp_load1 ts3 (sv hs 97 rfl) (Cells.el (Rdb.ro hr0_0) (by decide) e23 0 1 rfl), lc rfl rfl fun hs hh => stp_fieldAddr (j := 0) Tryz.underlying118 rfl ts3 rfl (sv hs 4 rfl) rfl, lc rfl rfl fun hs hh => stp_load1 ts3 (sv hs 99 rfl) (Cells.box (id := 1) (hh.get 1 _ rfl) 1 rfl), lc rfl rfl fun hs hh => stp_eql (sv hs 98 rfl) (sv hs 100 rfl), trivial⟩
     intro g hΦ
     refine KW.sub (s' := [(1, .pointer (some ⟨b1, 0, none⟩)), (3, .int .i64 v9), (4, .pointer (some ⟨b12, 0, none⟩)), (5, .int .i64 v21), (101, .bool (x23.sp == x11.sp))]) (h' := [(0, [(b1, .cells #[.int .i64 a0.c, .int .i64 a0.n, .int .i64 a0.r, .slice p0_0 ((a0.o).length) c0_0] 32 (0, 0))]), (1, [(b12, .cells #[.int .i64 x11.sp, .int .i64 x11.tg] 118 (0, 0))])]) ?_ ⟨rfl, rfl, rfl, rfl, rfl, trivial⟩ ⟨rfl, rfl, trivial⟩
     refine kw_nx (cw_cond rfl (fun h24 => ?_) (fun h24 => ?_))
     ·have H2 := cond_t H2 h24
      refine sr (oS rfl (nn (cw_ret (kw_bl_ret (kw_nx_ret (kw_lq_ret (kw_bl_ret (kw_join_ret (kw_bl_ret (kw_nx_ret (kw_lq_ret (kw_bl_ret (kw_join_ret ?_)))))))))))))
      refine kw_nx_ret ?_
      obtain rfl := sI H2
      obtain rfl := sI H1
      obtain rfl := sI H0
      exact kr Tryz.results101 (rT rfl) [] ⟨rfl, rfl⟩
     have H2 := cond_f H2 h24
     obtain ⟨x25, e25, H2⟩ := bS H2
     exact cw_skip (kw_bl_normal (kw_nx (cw_region (oM rfl (oP e25 rfl (oS rfl (ow_nil (kw_lqS (js := [0, 1]) (fuel, x25) H2 (Nat.lt_succ_self _) ⟨rfl, rfl, rfl, rfl, trivial⟩ ⟨0, [1], rfl, rfl, 1, [], rfl, rfl, trivial⟩ (by decide)))))))))
    have H2 := cond_f H2 h22
    refine cw_exit (kw_nx_exit (kw_lq_exit (kw_bl ?_)))
    obtain rfl := sI H2
    exact kw_joinS (js := [0, 1]) v21 rfl ⟨rfl, rfl, rfl, rfl, trivial⟩ ⟨0, [1], rfl, rfl, 1, [], rfl, rfl, trivial⟩ (by decide)
   rintro v21 rfl
   dsimp only
   obtain ⟨x26, e26, H1⟩ := bS H1
   exact kw_bl_normal (kw_nx (cw_region (oM rfl (oP e26 rfl (oS rfl (ow_nil (kw_lqS (js := [0]) (fuel, x26) H1 (Nat.lt_succ_self _) ⟨rfl, rfl, trivial⟩ ⟨0, [], rfl, rfl, trivial⟩ (by decide))))))))
  have H1 := cond_f H1 h10
  refine cw_exit (kw_nx_exit (kw_lq_exit (kw_bl ?_)))
  obtain rfl := sI H1
  exact kw_joinS (js := [0]) v9 rfl ⟨rfl, rfl, trivial⟩ ⟨0, [], rfl, rfl, trivial⟩ (by decide)
 rintro v9 rfl
 dsimp only
 refine kw_nx (sr (oS rfl (nn (cw_ret ?_))))
 obtain rfl := sI H0
 exact kr Tryz.results101 (rT rfl) [] ⟨rfl, rfl⟩

theorem c_s_l5Copy (fl : Nat) (w : World) (a0 : Tg) (hn0_0 : n0_0 = (a0.o).length) (hr0_0 : RO w (hkeys []) (RdL p0_0 c0_0 a0.o)) (r : Tg) (H0 : s_l5Copy fl a0 = some r) :
  Ct Tryz.prog 103 [.agg #[.int .i64 a0.c, .int .i64 a0.n, .int .i64 a0.r, .slice p0_0 n0_0 c0_0]] w [] (fun rv h' => ∃ (x0 : Option Addr) (y0 z0 : Nat) (C0 : Res), rv = .agg #[.int .i64 r.c, .int .i64 r.n, .int .i64 r.r, .slice x0 y0 z0] ∧ h' = [(0, C0)] ∧ y0 = (r.o).length ∧ OwnC 118 x0 z0 r.o C0) := by
 subst hn0_0
 unfold s_l5Copy at H0
 refine ct_of_cw Tryz.func103 rfl Tryz.ntmps103 rfl (Sat.refl _ _) ?_
 refine sr (oE (stpU_box 0 rfl rfl) rfl ?_)
 rintro _ _ ⟨b1, rfl, rfl⟩
 refine oE (stpU_alloc 1 tz32 rfl) rfl ?_
 rintro _ _ ⟨b2, rfl, rfl⟩
 obtain ⟨x5, e5, H0⟩ := bS H0
 refine nn (cw_seq (rdq g_mixed [1, 2] [0, 1] { dst := dS [4, 5, 6, 7, 8, 9, 10, 11, 12, 13, 14, 0], pre := gA [] [[], [0], [], [2], [], [4], [], [], [7], [6, 7, 8], rn 0 10, rn 0 11], ids := gA [] [[], [], [], [], [], [], [2], [], [], [2], [], [1]], rs := rL [[(1, 0)], [(3, 1)], [(1, 0)], [(5, 3)], [(1, 0)], [(7, 5)], [], [(1, 0)], [(10, 8)], [(9, 7), (11, 9)], [(4, 2), (6, 4), (8, 6), (12, 10)], [(2, 0), (13, 11)]], rh := rL [[], [(0, 0)], [], [(0, 0)], [], [(0, 0)], [], [], [(0, 0)], [(2, 7)], [], [(1, 0)]], V := fun i g => gA undef [.pointer (some ⟨b1, 0, none⟩), .int .i64 a0.c, .pointer (some ⟨b1, 1, none⟩), .int .i64 a0.n, .pointer (some ⟨b1, 2, none⟩), .int .i64 a0.r, .slice ((g 6).A 0) 0 0, .pointer (some ⟨b1, 3, none⟩), .slice p0_0 ((a0.o).length) c0_0, .slice ((g 9).A 0) ((x5).length) ((g 9).C 0), .agg #[.int .i64 a0.c, .int .i64 a0.n, .int .i64 a0.r, .slice ((g 9).A 0) ((x5).length) ((g 9).C 0)]] i, U := fun i g => match i with | 6 => [(2, ((g 6).R 0))] | 9 => [(2, ((g 9).R 0))] | 11 => [(1, [(b2, .cells #[.int .i64 a0.c, .int .i64 a0.n, .int .i64 a0.r, .slice ((g 9).A 0) ((x5).length) ((g 9).C 0)] 32 (0, 0))])] | _ => [], Φ := fun i x => match i with | 6 => OwnC (α := Ow) 118 (x.A 0) 0 ([] : List Ow) (x.R 0) | 9 => OwnC 118 (x.A 0) (x.C 0) x5 (x.R 0) | _ => True } ?_ ?_))
 ·refine ⟨lc rfl rfl fun hs hh => stp_fieldAddr (j := 0) Tryz.underlying32 rfl ts3 rfl (sv hs 1 rfl) rfl, lc rfl rfl fun hs hh => stp_load1 ts3 (sv hs 3 rfl) (Cells.box (id := 0) (hh.get 0 _ rfl) 1 rfl), lc rfl rfl fun hs hh => stp_fieldAddr (j := 1) Tryz.underlying32 rfl ts3 rfl (sv hs 1 rfl) rfl, lc rfl rfl fun hs hh => stp_load1 ts3 (sv hs 5 rfl) (Cells.box (id := 0) (hh.get 0 _ rfl) 1 rfl), lc rfl rfl fun hs hh => stp_fieldAddr (j := 2) Tryz.underlying32 rfl ts3 rfl (sv hs 1 rfl) rfl, lc rfl rfl fun hs hh => stp_load1 ts3 (sv hs 7 rfl) (Cells.box (id := 0) (hh.get 0 _ rfl) 1 rfl), ?_, lc rfl rfl fun hs hh => stp_fieldAddr (j := 3) Tryz.underlying32 rfl ts30 rfl (sv hs 1 rfl) rfl, lc rfl rfl fun hs hh => stp_load1 ts30 (sv hs 10 rfl) (Cells.box (id := 0) (hh.get 0 _ rfl) 1 rfl), ?_, ld rfl rfl fun g hΦ s h hs hh => stp_build (cs := #[.int .i64 a0.c, .int .i64 a0.n, .int .i64 a0.r, .slice ((g 9).A 0) ((x5).length) ((g 9).C 0)]) (sevp_cons (sv hs 4 rfl) (sevp_cons (sv hs 6 rfl) (sevp_cons (sv hs 8 rfl) (sevp_cons (sv hs 12 rfl) sevp_nil)))) bt32_7, ?_, trivial⟩
  ·refine le rfl rfl (fun g hΦ s h hs hh => (stpU_lit0 sl30 2)) ?_
   rintro g _ _ ⟨p3, C4, rfl, rfl, o4⟩
   exact ⟨⟨[p3], [], [C4]⟩, o4, .inr rfl, rfl⟩
  ·refine le rfl rfl (fun g hΦ s h hs hh => (stpU_append sl30 rfl (id := 2) (sv hs 9 rfl) (by simp) (sv hs 11 rfl) rfl (hh.get 2 _ rfl) (hΦ 6 rfl) (Rdb.ro hr0_0) e5)) ?_
   rintro g _ _ ⟨p6, c7, C8, rfl, rfl, o8⟩
   exact ⟨⟨[p6], [c7], [C8]⟩, o8, .inr rfl, rfl⟩
  refine le rfl rfl (fun g hΦ s h hs hh => (stpU_store (id := 1) (cs' := [.int .i64 a0.c, .int .i64 a0.n, .int .i64 a0.r, .slice ((g 9).A 0) ((x5).length) ((g 9).C 0)]) ts32 (sv hs 2 rfl) (sv hs 13 rfl) (hh.get 1 _ rfl) rfl rfl rfl rfl)) ?_
  rintro g _ _ rfl
  exact ⟨⟨[], [], []⟩, trivial, .inl rfl, rfl⟩
 intro g hΦ
 refine kw_gen (ι := Option Addr × Res × Option Addr × Nat × Res) (((g 6).A 0), ((g 6).R 0), ((g 9).A 0), ((g 9).C 0), ((g 9).R 0)) (fun | (p3, C4, p6, c7, C8) => OwnC (α := Ow) 118 p3 0 ([] : List Ow) C4 ∧ OwnC 118 p6 c7 x5 C8) (fun | (p3, C4, p6, c7, C8) => [(2, .pointer (some ⟨b2, 0, none⟩))]) (fun | (p3, C4, p6, c7, C8) => [(1, [(b2, .cells #[.int .i64 a0.c, .int .i64 a0.n, .int .i64 a0.r, .slice p6 ((x5).length) c7] 32 (0, 0))]), (2, C8)]) ⟨(hΦ 6 (by decide)), (hΦ 9 (by decide))⟩ ⟨rfl, trivial⟩ ⟨rfl, rfl, trivial⟩ ?_
 rintro ⟨p3, C4, p6, c7, C8⟩ ⟨o4, o8⟩
 dsimp only
 refine kw_nx (cw_ret ?_)
 obtain rfl := sI H0
 exact kr Tryz.results103 (rC4 1 ts32 rfl rfl) [2] ⟨_, _, _, _, rfl, rfl, rfl, o8⟩

theorem c_s_l5Find (fl : Nat) (w : World) (a0 : Tg) (a1 : Int) (hn0_0 : n0_0 = (a0.o).length) (hr0_0 : RO w (hkeys []) (RdL p0_0 c0_0 a0.o)) (r : Int) (H0 : s_l5Find fl a0 a1 = some r) :
  Ct Tryz.prog 104 [.agg #[.int .i64 a0.c, .int .i64 a0.n, .int .i64 a0.r, .slice p0_0 n0_0 c0_0], .int .i64 a1] w [] (fun rv h' => rv = .int .i64 r ∧ h' = []) := by
 subst hn0_0
 unfold s_l5Find at H0
 refine ct_of_cw Tryz.func104 rfl Tryz.ntmps104 rfl (Sat.refl _ _) ?_
 refine sr (oE (stpU_box 0 rfl rfl) rfl ?_)
 rintro _ _ ⟨b1, rfl, rfl⟩
 obtain ⟨o0_0, eo0_0, H0⟩ := bS H0
 refine oS rfl (nn (cw_seq (sr (oS rfl (nn (cw_join (ι := Int) (fun | v2 => o0_0 = .out v2) (fun | v2 => [(1, .int .i64 a1), (2, .pointer (some ⟨b1, 0, none⟩)), (5, .int .i64 v2)]) (fun | v2 => [(0, [(b1, .cells #[.int .i64 a0.c, .int .i64 a0.n, .int .i64 a0.r, .slice p0_0 ((a0.o).length) c0_0] 32 (0, 0))])]) ?_ ?_))))))
 ·refine cw_block (cw_loopS (ι := Nat × Int) (js := [0]) (fun x => x.1) (fun | (fuel, v2) => s_l5Find_L0 fl a0 a1 fuel v2 = some o0_0) (fun | (_, v2) => [(1, .int .i64 a1), (2, .pointer (some ⟨b1, 0, none⟩)), (5, .int .i64 v2)]) (fun | (_, v2) => [(0, [(b1, .cells #[.int .i64 a0.c, .int .i64 a0.n, .int .i64 a0.r, .slice p0_0 ((a0.o).length) c0_0] 32 (0, 0))])]) (fl, 0) eo0_0 ⟨rfl, rfl, rfl, trivial⟩ ⟨0, [], rfl, rfl, trivial⟩ (by decide) ?_)
  rintro ⟨fuel, v2⟩ H1
  have H1 : s_l5Find_L0 fl a0 a1 fuel v2 = some o0_0 := H1
  rcases fuel with _ | fuel
  ·rw [s_l5Find_L0.eq_1] at H1; cases H1
  rw [s_l5Find_L0.eq_2] at H1
  dsimp only
  refine cw_seq (sr (oM rfl (oA 3 Tryz.underlying32 rfl ts30 rfl (oL 0 ts30 rfl (oD (stp_len Tryz.underlying30 rfl) rfl (oW rfl (nn (cw_cond rfl (fun h3 => ?_) (fun h3 => ?_)))))))))
  ·have H1 := cond_t H1 h3
   obtain ⟨x4, e4, H1⟩ := bS H1
   refine cw_skip (kw_nx (cw_seq (cw_block (sr (oA 3 Tryz.underlying32 rfl ts30 rfl (oL 0 ts30 rfl (oM rfl (oD (stp_indexAddr Tryz.underlying30 ts118 (by decide) rfl rfl rfl (Rdb.ro hr0_0) e4) rfl (oA 0 Tryz.underlying118 rfl ts3 rfl (oD (stp_load1 ts3 rfl (Cells.el (Rdb.ro hr0_0) (by decide) e4 0 1 rfl)) rfl (oM rfl (oQ rfl (nn ?_)))))))))))))
   refine cw_cond rfl (fun h5 => ?_) (fun h5 => ?_)
   ·have H1 := cond_t H1 h5
    refine sr (oM rfl (oS rfl (nn (cw_ret (kw_bl_ret (kw_nx_ret (kw_lq_ret (kw_bl_ret (kw_join_ret (kw_nx_ret ?_))))))))))
    obtain rfl := sI H1
    obtain rfl := sI H0
    exact kr Tryz.results104 (rT rfl) [] ⟨rfl, rfl⟩
   have H1 := cond_f H1 h5
   obtain ⟨x6, e6, H1⟩ := bS H1
   exact cw_skip (kw_bl_normal (kw_nx (cw_region (oM rfl (oP e6 rfl (oS rfl (ow_nil (kw_lqS (js := [0]) (fuel, x6) H1 (Nat.lt_succ_self _) ⟨rfl, rfl, rfl, trivial⟩ ⟨0, [], rfl, rfl, trivial⟩ (by decide)))))))))
  have H1 := cond_f H1 h3
  refine cw_exit (kw_nx_exit (kw_lq_exit (kw_bl ?_)))
  obtain rfl := sI H1
  exact kw_joinS (js := [0]) v2 rfl ⟨rfl, rfl, rfl, trivial⟩ ⟨0, [], rfl, rfl, trivial⟩ (by decide)
 rintro v2 rfl
 dsimp only
 refine kw_nx (sr (oS rfl (nn (cw_ret ?_))))
 obtain rfl := sI H0
 exact kr Tryz.results104 (rT rfl) [] ⟨rfl, rfl⟩

theorem c_s_TakeTag (fl : Nat) (w : World) (a0 : Tg) (a1 : Int) (hn0_0 : n0_0 = (a0.o).length) (hr0_0 : RO w (hkeys []) (RdL p0_0 c0_0 a0.o)) (r : Tg × Int × Bool × Bool) (H0 : s_TakeTag fl a0 a1 = some r) :
  Ct Tryz.prog 50 [.agg #[.int .i64 a0.c, .int .i64 a0.n, .int .i64 a0.r, .slice p0_0 n0_0 c0_0], .int .i64 a1] w [] (fun rv h' => ∃ (x0 : Option Addr) (y0 z0 : Nat) (C0 : Res), rv = .tuple #[.agg #[.int .i64 r.1.c, .int .i64 r.1.n, .int .i64 r.1.r, .slice x0 y0 z0], .int .i64 r.2.1, .bool r.2.2.1, .bool r.2.2.2] ∧ h' = [(0, C0)] ∧ y0 = (r.1.o).length ∧ OwnC 118 x0 z0 r.1.o C0) := by
 subst hn0_0
 unfold s_TakeTag at H0
 refine ct_of_cw Tryz.func50 rfl Tryz.ntmps50 rfl (Sat.refl _ _) ?_
 refine sr (oE (stpU_box 0 rfl rfl) rfl ?_)
 rintro _ _ ⟨b1, rfl, rfl⟩
 refine oE (stpU_alloc 1 tz32 rfl) rfl ?_
 rintro _ _ ⟨b2, rfl, rfl⟩
 obtain ⟨x3, e3, H0⟩ := bS H0
 refine oS rfl (oS rfl (oS rfl (nn (cw_seq (sr (oB4 0 ts32 rfl (oE (stpU_call (fun i => 2 + i) cf101 (fun w hw => c_s_TagsValid fl w a0 rfl (RO.pass hr0_0 hw) x3 e3) (yA rfl)) rfl ?_)))))))
 rintro _ _ ⟨_, ⟨rfl, rfl⟩, rfl⟩
 obtain ⟨y4, ey4, H0⟩ := bS H0
 refine oK rfl (oM rfl (ow_cutY 4 19 y4 ?_ ?_))
 ·rcases Bool.eq_false_or_eq_true (!x3) with hy4 | hy4
  ·have ey4 := cond_t ey4 hy4
   refine oO rfl hy4 rfl (oO rfl hy4 rfl (oO rfl hy4 rfl (oD (stp_pick_t rfl hy4 rfl) rfl ?_)))
   obtain rfl := sI ey4
   exact ow_nil (jy 4 0)
  have ey4 := cond_f ey4 hy4
  obtain ⟨x5, e5, ey4⟩ := bS ey4
  refine oG rfl hy4 (mv rfl) rfl (ow_eff (.some rfl hy4) (stpU_call (fun i => 2 + i) cf102 (fun w hw => c_s_l1Space fl w a1 x5 e5) (yA rfl)) rfl ?_)
  rintro _ _ ⟨_, ⟨rfl, rfl⟩, rfl⟩
  refine oG rfl hy4 (stp_not rfl) rfl (oD (stp_pick_f rfl hy4 rfl) rfl ?_)
  obtain rfl := sI ey4
  exact ow_nil (jy 4 0)
 refine ow_nil (kw_nx (cw_cond rfl (fun h6 => ?_) (fun h6 => ?_)))
 ·have H0 := cond_t H0 h6
  refine sr (oD (stp_build (cs := #[.int .i64 0, .int .i64 0, .int .i64 0, .slice none 0 0]) sevp_nil bt32_4) rfl (oC4 1 ts32 rfl rfl (oS rfl (oS rfl (oS rfl (nn (cw_ret (kw_nx_ret (kw_addNil 2 ?_)))))))))
  obtain rfl := sI H0
  exact kr Tryz.results50 (.cons (.cellN (us := [_, _, _, _]) ts32 rfl (Cells.box (id := 1) rfl 4 rfl)) (.cons (.tmp rfl) (.cons (.tmp rfl) (rT rfl)))) [2] ⟨_, _, _, _, rfl, rfl, rfl, (OwnC.nil _ _)⟩
 have H0 := cond_f H0 h6
 obtain ⟨x7, e7, H0⟩ := bS H0
 refine cw_skip (kw_nx (sr (oB4 0 ts32 rfl (oE (stpU_call (fun i => 3 + i) cf103 (fun w hw => c_s_l5Copy fl w a0 rfl (RO.pass hr0_0 hw) x7 e7) (yA rfl)) rfl ?_))))
 rintro _ _ ⟨_, ⟨p8, _, c10, C11, rfl, rfl, rfl, o11⟩, rfl⟩
 refine oE (stpU_alloc 4 tz32 rfl) rfl ?_
 rintro _ _ ⟨b12, rfl, rfl⟩
 obtain ⟨x13, e13, H0⟩ := bS H0
 refine oC4 4 ts32 rfl rfl (nn (sr (oB4 0 ts32 rfl (oM rfl (oE (stpU_call (fun i => 5 + i) cf104 (fun w hw => c_s_l5Find fl w a0 a1 rfl (RO.pass hr0_0 hw) x13 e13) (yB rfl rfl)) rfl ?_)))))
 rintro _ _ ⟨_, ⟨rfl, rfl⟩, rfl⟩
 refine oS rfl (nn (cw_seq (sr (oM rfl (oI rfl (nn (cw_cond rfl (fun h14 => ?_) (fun h14 => ?_))))))))
 ·have H0 := cond_t H0 h14
  obtain ⟨x15, e15, H0⟩ := bS H0
  refine cw_seq (rdq g_mixed [2, 4, 8, 9] [0, 1, 4] { dst := dS [29, 30, 31, 32, 33, 34, 35, 0, 6, 7, 8], pre := gA [] [[], [], [1], [], [1, 2, 3], rn 1 4, rn 1 5, [0], rn 0 8, rn 0 9, rn 0 10], ids := gA [] [[], [], [], [], [], [], [], [1]], rs := rL [[(8, 0)], [(2, 0)], [(29, 2)], [(9, 0)], [(30, 3), (31, 4)], [(32, 5)], [(33, 6)], [(4, 0), (28, 1)], [(34, 7)], [], []], rh := rL [[(4, 0)], [], [(0, 0)], [], [], [], [], [(1, 0)]], V := fun i g => gA undef [.agg #[.int .i64 x7.c, .int .i64 x7.n, .int .i64 x7.r, .slice p8 ((x7.o).length) c10], .pointer (some ⟨b1, 3, none⟩), .slice p0_0 ((a0.o).length) c0_0, .int .i64 x13, .pointer (some ⟨eB p0_0, eO p0_0 + Int.toNat x13 * Enc.sz Ow + 0, none⟩), .pointer (some ⟨eB p0_0, eO p0_0 + Int.toNat x13 * Enc.sz Ow + 1, none⟩), .int .i64 x15.tg, undef, .int .i64 x15.tg, .bool false, .bool true] i, U := fun i g => match i with | 7 => [(1, [(b2, .cells #[.int .i64 x7.c, .int .i64 x7.n, .int .i64 x7.r, .slice p8 ((x7.o).length) c10] 32 (0, 0))])] | _ => [], Φ := fun _ _ => True } ?_ ?_)
  ·refine ⟨lc rfl rfl fun hs hh => stp_loadN (us := [_, _, _, _]) ts32 (sv hs 8 rfl) (Cells.box (id := 4) (hh.get 4 _ rfl) 4 rfl), lc rfl rfl fun hs hh => stp_fieldAddr (j := 3) Tryz.underlying32 rfl ts30 rfl (sv hs 2 rfl) rfl, lc rfl rfl fun hs hh => stp_load1 ts30 (sv hs 29 rfl) (Cells.box (id := 0) (hh.get 0 _ rfl) 1 rfl), lM, lc rfl rfl fun hs hh => stp_indexAddr Tryz.underlying30 ts118 (by decide) (sv hs 30 rfl) rfl (sv hs 31 rfl) (Rdb.ro hr0_0) e15, lc rfl rfl fun hs hh => stp_fieldAddr (j := 1) Tryz.underlying118 rfl ts3 rfl (sv hs 32 rfl) rfl, lc rfl rfl fun hs hh => stp_load1 ts3 (sv hs 33 rfl) (Cells.el (Rdb.ro hr0_0) (by decide) e15 1 1 rfl), ?_, lS, lc rfl rfl fun hs hh => stp_assign rfl, lc rfl rfl fun hs hh => stp_assign rfl, trivial⟩
   refine le rfl rfl (fun g hΦ s h hs hh => (stpU_store (id := 1) (cs' := [.int .i64 x7.c, .int .i64 x7.n, .int .i64 x7.r, .slice p8 ((x7.o).length) c10]) ts32 (sv hs 4 rfl) (sv hs 28 rfl) (hh.get 1 _ rfl) rfl rfl rfl rfl)) ?_
   rintro g _ _ rfl
   exact ⟨⟨[], [], []⟩, trivial, .inl rfl, rfl⟩
  intro g hΦ
  refine KW.sub (s' := [(4, .pointer (some ⟨b2, 0, none⟩)), (5, .int .i64 x15.tg), (6, .bool false), (7, .bool true)]) (h' := [(1, [(b2, .cells #[.int .i64 x7.c, .int .i64 x7.n, .int .i64 x7.r, .slice p8 ((x7.o).length) c10] 32 (0, 0))]), (3, C11)]) ?_ ⟨rfl, rfl, rfl, rfl, trivial⟩ ⟨rfl, rfl, trivial⟩
  refine kw_nx (cw_ret (kw_nx_ret ?_))
  obtain rfl := sI H0
  exact kr Tryz.results50 (.cons (.cellN (us := [_, _, _, _]) ts32 rfl (Cells.box (id := 1) rfl 4 rfl)) (.cons (.tmp rfl) (.cons (.tmp rfl) (rT rfl)))) [3] ⟨_, _, _, _, rfl, rfl, rfl, o11⟩
 have H0 := cond_f H0 h14
 refine cw_skip (kw_nx (sr (oA 1 Tryz.underlying32 rfl ts3 rfl (oL 0 ts3 rfl (oA 0 Tryz.underlying32 rfl ts3 rfl (oL 0 ts3 rfl (oQ rfl (oS rfl (nn (cw_seq (sr (oM rfl (nn ?_)))))))))))))
 refine cw_cond rfl (fun h16 => ?_) (fun h16 => ?_)
 ·have H0 := cond_t H0 h16
  obtain ⟨x17, e17, H0⟩ := bS H0
  refine cw_region (oA 0 Tryz.underlying32 rfl ts3 rfl (oL 0 ts3 rfl (oA 2 Tryz.underlying32 rfl ts3 rfl (oL 0 ts3 rfl (oP e17 rfl (oE (stpU_lit0 sl30 5) rfl ?_))))))
  rintro _ _ ⟨p18, C19, rfl, rfl, o19⟩
  refine oD (stp_build (cs := #[.int .i64 a0.c, .int .i64 0, .int .i64 x17, .slice p18 0 0]) (sevp_cons rfl (sevp_cons rfl (sevp_cons rfl sevp_nil))) bt32_8) rfl (oC4 4 ts32 rfl rfl (nn (cw_seq (sr (oA 2 Tryz.underlying32 rfl ts3 rfl (oL 4 ts3 rfl (oJ rfl (nn (cw_cond rfl (fun h20 => ?_) (fun h20 => ?_))))))))))
  ·have H0 := cond_t H0 h20
   refine sr (oD (stp_build (cs := #[.int .i64 0, .int .i64 0, .int .i64 0, .slice none 0 0]) sevp_nil bt32_4) rfl (oC4 1 ts32 rfl rfl (oS rfl (oS rfl (oS rfl (nn (cw_ret (kw_nx_ret (kw_addNil 6 ?_)))))))))
   obtain rfl := sI H0
   exact kr Tryz.results50 (.cons (.cellN (us := [_, _, _, _]) ts32 rfl (Cells.box (id := 1) rfl 4 rfl)) (.cons (.tmp rfl) (.cons (.tmp rfl) (rT rfl)))) [6] ⟨_, _, _, _, rfl, rfl, rfl, (OwnC.nil _ _)⟩
  have H0 := cond_f H0 h20
  refine cw_skip (kw_nx (sr (oA 1 Tryz.underlying32 rfl ts3 rfl (oL 4 ts3 rfl (oS rfl (nn (sr (oA 3 Tryz.underlying32 rfl ts30 rfl (oL 4 ts30 rfl (oM rfl (oM rfl (oD (stp_build (cs := #[.int .i64 a1, .int .i64 0]) (sevp_cons rfl (sevp_cons rfl sevp_nil)) bt118_9) rfl (oE (stpU_lit (sz := 2) (l := [(⟨a1, 0⟩ : Ow)]) [.agg #[.int .i64 a1, .int .i64 0]] sl30 7 (sevp_cons rfl sevp_nil) rfl rfl rfl rfl rfl rfl rfl rfl rfl) rfl ?_)))))))))))))
  rintro _ _ ⟨p21, C22, rfl, rfl, o22⟩
  obtain ⟨x23, e23, H0⟩ := bS H0
  refine oE (stpU_append sl30 rfl (id := 5) rfl (by simp) rfl (by simp) rfl o19 (Rdb.own (id := 7) rfl o22) e23) rfl ?_
  rintro _ _ ⟨p24, c25, C26, rfl, rfl, o26⟩
  obtain ⟨x27, e27, H0⟩ := bS H0
  refine oA 3 Tryz.underlying32 rfl ts30 rfl (oC4 4 ts30 rfl rfl (nn (sr (oM rfl (oP e27 rfl (oA 1 Tryz.underlying32 rfl ts3 rfl (oC4 4 ts3 rfl rfl (nn (sr (oB4 4 ts32 rfl (oM rfl (oM rfl (oC4 1 ts32 rfl rfl ?_)))))))))))))
  refine oS rfl (oS rfl (oS rfl (nn (cw_ret ?_))))
  obtain rfl := sI H0
  exact kr Tryz.results50 (.cons (.cellN (us := [_, _, _, _]) ts32 rfl (Cells.box (id := 1) rfl 4 rfl)) (.cons (.tmp rfl) (.cons (.tmp rfl) (rT rfl)))) [5] ⟨_, _, _, _, rfl, rfl, rfl, o26⟩
 have H0 := cond_f H0 h16
 refine cw_skip (kw_nx (cw_seq (sr (oA 2 Tryz.underlying32 rfl ts3 rfl (oL 4 ts3 rfl (oJ rfl (nn (cw_cond rfl (fun h28 => ?_) (fun h28 => ?_)))))))))
 ·have H0 := cond_t H0 h28
  refine sr (oD (stp_build (cs := #[.int .i64 0, .int .i64 0, .int .i64 0, .slice none 0 0]) sevp_nil bt32_4) rfl (oC4 1 ts32 rfl rfl (oS rfl (oS rfl (oS rfl (nn (cw_ret (kw_nx_ret (kw_addNil 8 ?_)))))))))
  obtain rfl := sI H0
  exact kr Tryz.results50 (.cons (.cellN (us := [_, _, _, _]) ts32 rfl (Cells.box (id := 1) rfl 4 rfl)) (.cons (.tmp rfl) (.cons (.tmp rfl) (rT rfl)))) [8] ⟨_, _, _, _, rfl, rfl, rfl, (OwnC.nil _ _)⟩
 have H0 := cond_f H0 h28
 refine cw_skip (kw_nx (sr (oA 1 Tryz.underlying32 rfl ts3 rfl (oL 4 ts3 rfl (oS rfl (nn (sr (oA 3 Tryz.underlying32 rfl ts30 rfl (oL 4 ts30 rfl (oM rfl (oM rfl (oD (stp_build (cs := #[.int .i64 a1, .int .i64 x7.n]) (sevp_cons rfl (sevp_cons rfl sevp_nil)) bt118_9) rfl (oE (stpU_lit (sz := 2) (l := [(⟨a1, x7.n⟩ : Ow)]) [.agg #[.int .i64 a1, .int .i64 x7.n]] sl30 9 (sevp_cons rfl sevp_nil) rfl rfl rfl rfl rfl rfl rfl rfl rfl) rfl ?_)))))))))))))
 rintro _ _ ⟨p29, C30, rfl, rfl, o30⟩
 obtain ⟨x31, e31, H0⟩ := bS H0
 refine oE (stpU_append sl30 rfl (id := 3) rfl rfl rfl (by simp) rfl o11 (Rdb.own (id := 9) rfl o30) e31) rfl ?_
 rintro _ _ ⟨p32, c33, C34, rfl, rfl, o34⟩
 obtain ⟨x35, e35, H0⟩ := bS H0
 refine oA 3 Tryz.underlying32 rfl ts30 rfl (oC4 4 ts30 rfl rfl (nn (sr (oM rfl (oP e35 rfl (oA 1 Tryz.underlying32 rfl ts3 rfl (oC4 4 ts3 rfl rfl (nn (sr (oB4 4 ts32 rfl (oM rfl (oM rfl (oC4 1 ts32 rfl rfl ?_)))))))))))))
 refine oS rfl (oS rfl (oS rfl (nn (cw_ret ?_))))
 obtain rfl := sI H0
 exact kr Tryz.results50 (.cons (.cellN (us := [_, _, _, _]) ts32 rfl (Cells.box (id := 1) rfl 4 rfl)) (.cons (.tmp rfl) (.cons (.tmp rfl) (rT rfl)))) [3] ⟨_, _, _, _, rfl, rfl, rfl, o34⟩

theorem c_s_NewMachine (fl : Nat) (w : World) (a0 : Int) (a1 : Int) (a2 : Int) (a3 : Int) (r : Mc × Bool) (H0 : s_NewMachine fl a0 a1 a2 a3 = some r) :
  Ct Tryz.prog 120 [.int .i64 a0, .int .i64 a1, .int .i64 a2, .int .i64 a3] w [] (fun rv h' => ∃ (x0 : Option Addr) (y0 z0 : Nat) (C0 : Res) (x1 : Option Addr) (y1 z1 : Nat) (C1 : Res) (x2 : Option Addr) (y2 z2 : Nat) (C2 : Res) (x3 : Option Addr) (y3 z3 : Nat) (C3 : Res), rv = .tuple #[.agg #[.slice x0 y0 z0, .slice x1 y1 z1, .slice x2 y2 z2, .int .i64 r.1.c.h, .int .i64 r.1.g.c, .int .i64 r.1.g.n, .int .i64 r.1.g.r, .slice x3 y3 z3, .int .i64 r.1.s], .bool r.2] ∧ h' = [(0, C0), (1, C1), (2, C2), (3, C3)] ∧ y0 = (r.1.t.b).length ∧ OwnC 3 x0 z0 r.1.t.b C0 ∧ y1 = (r.1.t.f).length ∧ OwnC 58 x1 z1 r.1.t.f C1 ∧ y2 = (r.1.c.l).length ∧ OwnC 41 x2 z2 r.1.c.l C2 ∧ y3 = (r.1.g.o).length ∧ OwnC 118 x3 z3 r.1.g.o C3) := by
 unfold s_NewMachine at H0
 refine ct_of_cw Tryz.func120 rfl Tryz.ntmps120 rfl (Sat.refl _ _) ?_
 refine sr (oE (stpU_alloc 0 tz34 rfl) rfl ?_)
 rintro _ _ ⟨b1, rfl, rfl⟩
 obtain ⟨x2, e2, H0⟩ := bS H0
 refine oS rfl (nn (sr (oM rfl (oM rfl (oE (stpU_call (fun i => 1 + i) cf150 (fun w hw => c_s_NewTable fl w a0 a1 x2 e2) (yB rfl rfl)) rfl ?_)))))
 rintro _ _ ⟨_, ⟨p3, _, c5, C6, p7, _, c9, C10, rfl, rfl, rfl, o6, rfl, o10⟩, rfl⟩
 refine oM rfl (oT rfl (oT rfl (oE (stpU_alloc 3 tz26 rfl) rfl ?_)))
 rintro _ _ ⟨b11, rfl, rfl⟩
 obtain ⟨x12, e12, H0⟩ := bS H0
 refine oC2 3 ts26 rfl rfl (oS rfl (nn (sr (oM rfl (oE (stpU_call (fun i => 4 + i) cf151 (fun w hw => c_s_NewCache fl w a2 x12 e12) (yA rfl)) rfl ?_)))))
 rintro _ _ ⟨_, ⟨p13, _, c15, C16, rfl, rfl, rfl, o16⟩, rfl⟩
 refine oM rfl (oT rfl (oT rfl (oE (stpU_alloc 5 tz29 rfl) rfl ?_)))
 rintro _ _ ⟨b17, rfl, rfl⟩
 obtain ⟨x18, e18, H0⟩ := bS H0
 refine oC2 5 ts29 rfl rfl (oS rfl (nn (sr (oM rfl (oE (stpU_call (fun i => 6 + i) cf152 (fun w hw => c_s_NewTags fl w a3 x18 e18) (yA rfl)) rfl ?_)))))
 rintro _ _ ⟨_, ⟨p19, _, c21, C22, rfl, rfl, rfl, o22⟩, rfl⟩
 refine oM rfl (oT rfl (oT rfl (oE (stpU_alloc 7 tz32 rfl) rfl ?_)))
 rintro _ _ ⟨b23, rfl, rfl⟩
 obtain ⟨y24, ey24, H0⟩ := bS H0
 refine oC4 7 ts32 rfl rfl (oS rfl (nn (cw_seq (sr (oM rfl (oK rfl (oM rfl (ow_cutY 3 37 y24 ?_ ?_))))))))
 ·rcases Bool.eq_false_or_eq_true (!x2.2) with hy24 | hy24
  ·have ey24 := cond_t ey24 hy24
   refine oO rfl hy24 rfl (oO rfl hy24 rfl (oD (stp_pick_t rfl hy24 rfl) rfl ?_))
   obtain rfl := sI ey24
   exact ow_nil (jy 3 0)
  have ey24 := cond_f ey24 hy24
  refine oG rfl hy24 (mv rfl) rfl (oG rfl hy24 (stp_not rfl) rfl (oD (stp_pick_f rfl hy24 rfl) rfl ?_))
  obtain rfl := sI ey24
  exact ow_nil (jy 3 0)
 obtain ⟨y25, ey25, H0⟩ := bS H0
 refine oM rfl (ow_cutY 3 41 y25 ?_ ?_)
 ·rcases Bool.eq_false_or_eq_true y24 with hy25 | hy25
  ·have ey25 := cond_t ey25 hy25
   refine oO rfl hy25 rfl (oO rfl hy25 rfl (oD (stp_pick_t rfl hy25 rfl) rfl ?_))
   obtain rfl := sI ey25
   exact ow_nil (jy 3 0)
  have ey25 := cond_f ey25 hy25
  refine oG rfl hy25 (mv rfl) rfl (oG rfl hy25 (stp_not rfl) rfl (oD (stp_pick_f rfl hy25 rfl) rfl ?_))
  obtain rfl := sI ey25
  exact ow_nil (jy 3 0)
 refine ow_nil (kw_nx (cw_cond rfl (fun h26 => ?_) (fun h26 => ?_)))
 ·have H0 := cond_t H0 h26
  refine sr (oD (stp_build (cs := #[.slice none 0 0, .slice none 0 0, .slice none 0 0, .int .i64 0, .int .i64 0, .int .i64 0, .int .i64 0, .slice none 0 0, .int .i64 0]) sevp_nil bt34_6) rfl (oC9 0 ts34 rfl rfl (oS rfl (nn (cw_ret (kw_nx_ret (kw_addNil 8 (kw_addNil 9 (kw_addNil 10 (kw_addNil 11 ?_))))))))))
  obtain rfl := sI H0
  exact kr Tryz.results120 (.cons (.cellN (us := [_, _, _, _, _, _, _, _, _]) ts34 rfl (Cells.box (id := 0) rfl 9 rfl)) (rT rfl)) [8, 9, 10, 11] ⟨_, _, _, _, _, _, _, _, _, _, _, _, _, _, _, _, rfl, rfl, rfl, (OwnC.nil _ _), rfl, (OwnC.nil _ _), rfl, (OwnC.nil _ _), rfl, (OwnC.nil _ _)⟩
 have H0 := cond_f H0 h26
 obtain ⟨x27, e27, H0⟩ := bS H0
 refine cw_skip (kw_nx (sr (oB4 7 ts32 rfl (oE (stpU_call (fun i => 12 + i) cf50 (fun w hw => c_s_TakeTag fl w x18.1 0 rfl (OwnC.pass (id := 6) rfl o22 hw) x27 e27) (yB rfl rfl)) rfl ?_))))
 rintro _ _ ⟨_, ⟨p28, _, c30, C31, rfl, rfl, rfl, o31⟩, rfl⟩
 refine oM rfl (oT rfl (oT rfl (oT rfl (oT rfl (oC4 7 ts32 rfl rfl (nn (sr (oB2 3 ts26 rfl (oB2 5 ts29 rfl (oB4 7 ts32 rfl (oD (stp_build (cs := #[.slice p3 ((x2.1.b).length) c5, .slice p7 ((x2.1.f).length) c9, .slice p13 ((x12.1.l).length) c15, .int .i64 x12.1.h, .int .i64 x27.1.c, .int .i64 x27.1.n, .int .i64 x27.1.r, .slice p28 ((x27.1.o).length) c30, .int .i64 0]) (sevp_cons rfl (sevp_cons rfl (sevp_cons rfl sevp_nil))) bt34_10) rfl (oC9 0 ts34 rfl rfl (oS rfl ?_)))))))))))))
 refine nn (cw_ret ?_)
 obtain rfl := sI H0
 exact kr Tryz.results120 (.cons (.cellN (us := [_, _, _, _, _, _, _, _, _]) ts34 rfl (Cells.box (id := 0) rfl 9 rfl)) (rT rfl)) [1, 2, 4, 12] ⟨_, _, _, _, _, _, _, _, _, _, _, _, _, _, _, _, rfl, rfl, rfl, o6, rfl, o10, rfl, o16, rfl, o31⟩

theorem c_s_TableValid (fl : Nat) (w : World) (a0 : T) (hn0_0 : n0_0 = (a0.b).length) (hr0_0 : RO w (hkeys []) (RdL p0_0 c0_0 a0.b)) (hn0_1 : n0_1 = (a0.f).length) (hr0_1 : RO w (hkeys []) (RdL p0_1 c0_1 a0.f)) (r : Bool) (H0 : s_TableValid fl a0 = some r) :
    Ct Tryz.prog 105 [.agg #[.slice p0_0 n0_0 c0_0, .slice p0_1 n0_1 c0_1]] w [] (fun rv h' => rv = .bool r ∧ h' = []) := by
  obtain rfl := hn0_0
  obtain rfl := hn0_1
  unfold s_TableValid at H0
  obtain rfl := Option.some.inj H0
  exact ct_of_calls (sTableValid_c _ a0 w ⟨_, _, rfl, (hr0_0 w (Fr.refl _ _)).rd, (hr0_1 w (Fr.refl _ _)).rd⟩)

theorem c_s_l1Page (fl : Nat) (w : World) (a0 : Int) (r : Bool) (H0 : s_l1Page fl a0 = some r) :
  Ct Tryz.prog 84 [.int .i64 a0] w [] (fun rv h' => rv = .bool r ∧ h' = []) := by
 unfold s_l1Page at H0
 refine ct_of_cw Tryz.func84 rfl Tryz.ntmps84 rfl (Sat.refl _ _) ?_
 obtain ⟨y1, ey1, H0⟩ := bS H0
 refine sr (oS rfl (nn (sr (oM rfl (oI rfl (oM rfl (ow_cutY 3 8 y1 ?_ ?_)))))))
 ·rcases Bool.eq_false_or_eq_true (decide (0 ≤ a0)) with hy1 | hy1
  ·have ey1 := cond_t ey1 hy1
   refine oG rfl hy1 (mv rfl) rfl (oG rfl hy1 (stp_lss rfl rfl) rfl (oD (stp_pick_t rfl hy1 rfl) rfl ?_))
   obtain rfl := sI ey1
   exact ow_nil (jy 3 0)
  have ey1 := cond_f ey1 hy1
  refine oO rfl hy1 rfl (oO rfl hy1 rfl (oD (stp_pick_f rfl hy1 rfl) rfl ?_))
  obtain rfl := sI ey1
  exact ow_nil (jy 3 0)
 refine oS rfl (nn (cw_ret ?_))
 obtain rfl := sI H0
 exact kr Tryz.results84 (rT rfl) [] ⟨rfl, rfl⟩

theorem c_s_RightsValid (fl : Nat) (w : World) (a0 : Int) (r : Bool) (H0 : s_RightsValid fl a0 = some r) :
  Ct Tryz.prog 85 [.int .i64 a0] w [] (fun rv h' => rv = .bool r ∧ h' = []) := by
 unfold s_RightsValid at H0
 refine ct_of_cw Tryz.func85 rfl Tryz.ntmps85 rfl (Sat.refl _ _) ?_
 obtain ⟨y1, ey1, H0⟩ := bS H0
 refine sr (oS rfl (nn (sr (oM rfl (oI rfl (oM rfl (ow_cutY 3 8 y1 ?_ ?_)))))))
 ·rcases Bool.eq_false_or_eq_true (decide (0 ≤ a0)) with hy1 | hy1
  ·have ey1 := cond_t ey1 hy1
   refine oG rfl hy1 (mv rfl) rfl (oG rfl hy1 (stp_leq rfl rfl) rfl (oD (stp_pick_t rfl hy1 rfl) rfl ?_))
   obtain rfl := sI ey1
   exact ow_nil (jy 3 0)
  have ey1 := cond_f ey1 hy1
  refine oO rfl hy1 rfl (oO rfl hy1 rfl (oD (stp_pick_f rfl hy1 rfl) rfl ?_))
  obtain rfl := sI ey1
  exact ow_nil (jy 3 0)
 refine oS rfl (nn (cw_ret ?_))
 obtain rfl := sI H0
 exact kr Tryz.results85 (rT rfl) [] ⟨rfl, rfl⟩

theorem c_s_l4Line (fl : Nat) (w : World) (a0 : Ln) (r : Bool) (H0 : s_l4Line fl a0 = some r) :
  Ct Tryz.prog 146 [.agg #[.bool a0.va, .int .i64 a0.tg, .int .i64 a0.pg, .int .i64 a0.fr, .int .i64 a0.ri, .bool a0.wi]] w [] (fun rv h' => rv = .bool r ∧ h' = []) := by
 unfold s_l4Line at H0
 refine ct_of_cw Tryz.func146 rfl Tryz.ntmps146 rfl (Sat.refl _ _) ?_
 refine sr (oE (stpU_box 0 rfl rfl) rfl ?_)
 rintro _ _ ⟨b1, rfl, rfl⟩
 refine oS rfl (nn (cw_seq (sr (oA 0 Tryz.underlying41 rfl ts4 rfl (oL 0 ts4 rfl (oK rfl (nn (cw_cond rfl (fun h2 => ?_) (fun h2 => ?_)))))))))
 ·have H0 := cond_t H0 h2
  refine sr (oB6 0 ts41 rfl (oD (stp_build (cs := #[.bool false, .int .i64 0, .int .i64 0, .int .i64 0, .int .i64 0, .bool false]) sevp_nil bt41_11) rfl (oD (stp_eqlS te41 a0 (⟨false, 0, 0, 0, 0, false⟩ : Ln) rfl rfl) rfl (oS rfl (nn (cw_ret (kw_nx_ret ?_)))))))
  obtain rfl := sI H0
  exact kr Tryz.results146 (rT rfl) [] ⟨rfl, rfl⟩
 have H0 := cond_f H0 h2
 obtain ⟨y3, ey3, H0⟩ := bS H0
 refine cw_skip (kw_nx (sr (oA 1 Tryz.underlying41 rfl ts3 rfl (oL 0 ts3 rfl (oI rfl (oM rfl (ow_cutY 4 16 y3 ?_ ?_)))))))
 ·rcases Bool.eq_false_or_eq_true (decide ((-1) ≤ a0.tg)) with hy3 | hy3
  ·have ey3 := cond_t ey3 hy3
   refine oG rfl hy3 (fA 1 Tryz.underlying41 rfl ts3 rfl rfl rfl) rfl (oG rfl hy3 (lB 0 ts3 rfl rfl rfl) rfl (oG rfl hy3 (stp_lss rfl rfl) rfl (oD (stp_pick_t rfl hy3 rfl) rfl ?_)))
   obtain rfl := sI ey3
   exact ow_nil (jy 4 0)
  have ey3 := cond_f ey3 hy3
  refine oO rfl hy3 rfl (oO rfl hy3 rfl (oO rfl hy3 rfl (oD (stp_pick_f rfl hy3 rfl) rfl ?_)))
  obtain rfl := sI ey3
  exact ow_nil (jy 4 0)
 obtain ⟨y4, ey4, H0⟩ := bS H0
 refine oM rfl (ow_cutY 4 21 y4 ?_ ?_)
 ·rcases Bool.eq_false_or_eq_true y3 with hy4 | hy4
  ·have ey4 := cond_t ey4 hy4
   obtain ⟨x5, e5, ey4⟩ := bS ey4
   refine oG rfl hy4 (fA 2 Tryz.underlying41 rfl ts3 rfl rfl rfl) rfl (oG rfl hy4 (lB 0 ts3 rfl rfl rfl) rfl (ow_eff (.some rfl hy4) (stpU_call (fun i => 1 + i) cf84 (fun w hw => c_s_l1Page fl w a0.pg x5 e5) (yA rfl)) rfl ?_))
   rintro _ _ ⟨_, ⟨rfl, rfl⟩, rfl⟩
   refine oD (stp_pick_t rfl hy4 rfl) rfl ?_
   obtain rfl := sI ey4
   exact ow_nil (jy 4 0)
  have ey4 := cond_f ey4 hy4
  refine oO rfl hy4 rfl (oO rfl hy4 rfl (oO rfl hy4 rfl (oD (stp_pick_f rfl hy4 rfl) rfl ?_)))
  obtain rfl := sI ey4
  exact ow_nil (jy 4 0)
 obtain ⟨y6, ey6, H0⟩ := bS H0
 refine oM rfl (ow_cutY 4 26 y6 ?_ ?_)
 ·rcases Bool.eq_false_or_eq_true y4 with hy6 | hy6
  ·have ey6 := cond_t ey6 hy6
   refine oG rfl hy6 (fA 3 Tryz.underlying41 rfl ts3 rfl rfl rfl) rfl (oG rfl hy6 (lB 0 ts3 rfl rfl rfl) rfl (oG rfl hy6 (stp_geq rfl rfl) rfl (oD (stp_pick_t rfl hy6 rfl) rfl ?_)))
   obtain rfl := sI ey6
   exact ow_nil (jy 4 0)
  have ey6 := cond_f ey6 hy6
  refine oO rfl hy6 rfl (oO rfl hy6 rfl (oO rfl hy6 rfl (oD (stp_pick_f rfl hy6 rfl) rfl ?_)))
  obtain rfl := sI ey6
  exact ow_nil (jy 4 0)
 obtain ⟨y7, ey7, H0⟩ := bS H0
 refine oM rfl (ow_cutY 4 31 y7 ?_ ?_)
 ·rcases Bool.eq_false_or_eq_true y6 with hy7 | hy7
  ·have ey7 := cond_t ey7 hy7
   refine oG rfl hy7 (fA 3 Tryz.underlying41 rfl ts3 rfl rfl rfl) rfl (oG rfl hy7 (lB 0 ts3 rfl rfl rfl) rfl (oG rfl hy7 (stp_lss rfl rfl) rfl (oD (stp_pick_t rfl hy7 rfl) rfl ?_)))
   obtain rfl := sI ey7
   exact ow_nil (jy 4 0)
  have ey7 := cond_f ey7 hy7
  refine oO rfl hy7 rfl (oO rfl hy7 rfl (oO rfl hy7 rfl (oD (stp_pick_f rfl hy7 rfl) rfl ?_)))
  obtain rfl := sI ey7
  exact ow_nil (jy 4 0)
 obtain ⟨y8, ey8, H0⟩ := bS H0
 refine oM rfl (ow_cutY 4 36 y8 ?_ ?_)
 ·rcases Bool.eq_false_or_eq_true y7 with hy8 | hy8
  ·have ey8 := cond_t ey8 hy8
   obtain ⟨x9, e9, ey8⟩ := bS ey8
   refine oG rfl hy8 (fA 4 Tryz.underlying41 rfl ts3 rfl rfl rfl) rfl (oG rfl hy8 (lB 0 ts3 rfl rfl rfl) rfl (ow_eff (.some rfl hy8) (stpU_call (fun i => 1 + i) cf85 (fun w hw => c_s_RightsValid fl w a0.ri x9 e9) (yA rfl)) rfl ?_))
   rintro _ _ ⟨_, ⟨rfl, rfl⟩, rfl⟩
   refine oD (stp_pick_t rfl hy8 rfl) rfl ?_
   obtain rfl := sI ey8
   exact ow_nil (jy 4 0)
  have ey8 := cond_f ey8 hy8
  refine oO rfl hy8 rfl (oO rfl hy8 rfl (oO rfl hy8 rfl (oD (stp_pick_f rfl hy8 rfl) rfl ?_)))
  obtain rfl := sI ey8
  exact ow_nil (jy 4 0)
 refine oS rfl (nn (cw_ret ?_))
 obtain rfl := sI H0
 exact kr Tryz.results146 (rT rfl) [] ⟨rfl, rfl⟩

theorem c_s_CacheValid (fl : Nat) (w : World) (a0 : Ca) (hn0_0 : n0_0 = (a0.l).length) (hr0_0 : RO w (hkeys []) (RdL p0_0 c0_0 a0.l)) (r : Bool) (H0 : s_CacheValid fl a0 = some r) :
  Ct Tryz.prog 106 [.agg #[.slice p0_0 n0_0 c0_0, .int .i64 a0.h]] w [] (fun rv h' => rv = .bool r ∧ h' = []) := by
 subst hn0_0
 unfold s_CacheValid at H0
 refine ct_of_cw Tryz.func106 rfl Tryz.ntmps106 rfl (Sat.refl _ _) ?_
 refine sr (oE (stpU_box 0 rfl rfl) rfl ?_)
 rintro _ _ ⟨b1, rfl, rfl⟩
 obtain ⟨y2, ey2, H0⟩ := bS H0
 refine oS rfl (nn (cw_seq (sr (oA 0 Tryz.underlying29 rfl ts27 rfl (oL 0 ts27 rfl (oD (stp_len Tryz.underlying27 rfl) rfl (oW rfl (oM rfl (ow_cutY 5 17 y2 ?_ ?_)))))))))
 ·rcases Bool.eq_false_or_eq_true (decide (((a0.l).length : Int) < 1)) with hy2 | hy2
  ·have ey2 := cond_t ey2 hy2
   refine oO rfl hy2 rfl (oO rfl hy2 rfl (oO rfl hy2 rfl (oO rfl hy2 rfl (oD (stp_pick_t rfl hy2 rfl) rfl ?_))))
   obtain rfl := sI ey2
   exact ow_nil (jy 5 0)
  have ey2 := cond_f ey2 hy2
  refine oG rfl hy2 (fA 0 Tryz.underlying29 rfl ts27 rfl rfl rfl) rfl (oG rfl hy2 (lB 0 ts27 rfl rfl rfl) rfl (oG rfl hy2 (stp_len Tryz.underlying27 rfl) rfl (oG rfl hy2 (stp_gtr rfl rfl) rfl (oD (stp_pick_f rfl hy2 rfl) rfl ?_))))
  obtain rfl := sI ey2
  exact ow_nil (jy 5 0)
 obtain ⟨y3, ey3, H0⟩ := bS H0
 refine oM rfl (ow_cutY 4 22 y3 ?_ ?_)
 ·rcases Bool.eq_false_or_eq_true y2 with hy3 | hy3
  ·have ey3 := cond_t ey3 hy3
   refine oO rfl hy3 rfl (oO rfl hy3 rfl (oO rfl hy3 rfl (oD (stp_pick_t rfl hy3 rfl) rfl ?_)))
   obtain rfl := sI ey3
   exact ow_nil (jy 4 0)
  have ey3 := cond_f ey3 hy3
  refine oG rfl hy3 (fA 1 Tryz.underlying29 rfl ts3 rfl rfl rfl) rfl (oG rfl hy3 (lB 0 ts3 rfl rfl rfl) rfl (oG rfl hy3 (stp_lss rfl rfl) rfl (oD (stp_pick_f rfl hy3 rfl) rfl ?_)))
  obtain rfl := sI ey3
  exact ow_nil (jy 4 0)
 obtain ⟨y4, ey4, H0⟩ := bS H0
 refine oM rfl (ow_cutY 7 30 y4 ?_ ?_)
 ·rcases Bool.eq_false_or_eq_true y3 with hy4 | hy4
  ·have ey4 := cond_t ey4 hy4
   refine oO rfl hy4 rfl (oO rfl hy4 rfl (oO rfl hy4 rfl (oO rfl hy4 rfl (oO rfl hy4 rfl (oO rfl hy4 rfl (oD (stp_pick_t rfl hy4 rfl) rfl ?_))))))
   obtain rfl := sI ey4
   exact ow_nil (jy 7 0)
  have ey4 := cond_f ey4 hy4
  refine oG rfl hy4 (fA 1 Tryz.underlying29 rfl ts3 rfl rfl rfl) rfl (oG rfl hy4 (lB 0 ts3 rfl rfl rfl) rfl (oG rfl hy4 (fA 0 Tryz.underlying29 rfl ts27 rfl rfl rfl) rfl (oG rfl hy4 (lB 0 ts27 rfl rfl rfl) rfl (oG rfl hy4 (stp_len Tryz.underlying27 rfl) rfl (oG rfl hy4 (stp_geq rfl rfl) rfl (oD (stp_pick_f rfl hy4 rfl) rfl ?_))))))
  obtain rfl := sI ey4
  exact ow_nil (jy 7 0)
 refine ow_nil (kw_nx (cw_cond rfl (fun h5 => ?_) (fun h5 => ?_)))
 ·have H0 := cond_t H0 h5
  refine sr (oS rfl (nn (cw_ret (kw_nx_ret ?_))))
  obtain rfl := sI H0
  exact kr Tryz.results106 (rT rfl) [] ⟨rfl, rfl⟩
 have H0 := cond_f H0 h5
 obtain ⟨o0_0, eo0_0, H0⟩ := bS H0
 refine cw_skip (kw_nx (sr (oS rfl (nn (cw_seq (sr (oS rfl (nn (cw_join (ι := Int × Int) (fun | (v6, v7) => o0_0 = .out (v6, v7)) (fun | (v6, v7) => [(1, .pointer (some ⟨b1, 0, none⟩)), (3, .int .i64 v6), (4, .int .i64 v7)]) (fun | (v6, v7) => [(0, [(b1, .cells #[.slice p0_0 ((a0.l).length) c0_0, .int .i64 a0.h] 29 (0, 0))])]) ?_ ?_)))))))))
 ·refine cw_block (cw_loopS (ι := Nat × Int × Int) (js := [0]) (fun x => x.1) (fun | (fuel, v6, v7) => s_CacheValid_L0 fl a0 fuel v6 v7 = some o0_0) (fun | (_, v6, v7) => [(1, .pointer (some ⟨b1, 0, none⟩)), (3, .int .i64 v6), (4, .int .i64 v7)]) (fun | (_, v6, v7) => [(0, [(b1, .cells #[.slice p0_0 ((a0.l).length) c0_0, .int .i64 a0.h] 29 (0, 0))])]) (fl, 0, 0) eo0_0 ⟨rfl, rfl, rfl, trivial⟩ ⟨0, [], rfl, rfl, trivial⟩ (by decide) ?_)
  rintro ⟨fuel, v6, v7⟩ H1
  have H1 : s_CacheValid_L0 fl a0 fuel v6 v7 = some o0_0 := H1
  rcases fuel with _ | fuel
  ·rw [s_CacheValid_L0.eq_1] at H1; cases H1
  rw [s_CacheValid_L0.eq_2] at H1
  dsimp only
  refine cw_seq (sr (oM rfl (oA 0 Tryz.underlying29 rfl ts27 rfl (oL 0 ts27 rfl (oD (stp_len Tryz.underlying27 rfl) rfl (oW rfl (nn (cw_cond rfl (fun h8 => ?_) (fun h8 => ?_)))))))))
  ·have H1 := cond_t H1 h8
   obtain ⟨x9, e9, H1⟩ := bS H1
   refine cw_skip (kw_nx (cw_seq (cw_block (sr (oA 0 Tryz.underlying29 rfl ts27 rfl (oL 0 ts27 rfl (oM rfl (oD (stp_indexAddr Tryz.underlying27 ts41 (by decide) rfl rfl rfl (Rdb.ro hr0_0) e9) rfl (oD (stp_loadN (us := [_, _, _, _, _, _]) ts41 rfl (Cells.el (Rdb.ro hr0_0) (by decide) e9 0 6 rfl)) rfl (oE (stpU_alloc 1 tz41 rfl) rfl ?_))))))))))
   rintro _ _ ⟨b10, rfl, rfl⟩
   obtain ⟨x11, e11, H1⟩ := bS H1
   refine oC6 1 ts41 rfl rfl (nn (cw_seq (sr (oB6 1 ts41 rfl (oE (stpU_call (fun i => 2 + i) cf146 (fun w hw => c_s_l4Line fl w x9 x11 e11) (yA rfl)) rfl ?_)))))
   rintro _ _ ⟨_, ⟨rfl, rfl⟩, rfl⟩
   refine oK rfl (nn (cw_cond rfl (fun h12 => ?_) (fun h12 => ?_)))
   ·have H1 := cond_t H1 h12
    refine sr (oS rfl (nn (cw_ret (kw_nx_ret (kw_bl_ret (kw_nx_ret (kw_lq_ret (kw_bl_ret (kw_join_ret (kw_nx_ret ?_))))))))))
    obtain rfl := sI H1
    obtain rfl := sI H0
    exact kr Tryz.results106 (rT rfl) [] ⟨rfl, rfl⟩
   have H1 := cond_f H1 h12
   refine cw_skip (kw_nx (cw_seq (sr (oA 5 Tryz.underlying41 rfl ts4 rfl (oL 1 ts4 rfl (oK rfl (nn (cw_cond rfl (fun h13 => ?_) (fun h13 => ?_)))))))))
   ·have H1 := cond_t H1 h13
    obtain ⟨x14, e14, H1⟩ := bS H1
    obtain ⟨o1_1, eo1_1, H1⟩ := bS H1
    refine cw_region (oM rfl (oP e14 rfl (oS rfl (nn (sr (oS rfl (nn (cw_join (ι := Int) (fun | v15 => o1_1 = .out v15) (fun | v15 => [(1, .pointer (some ⟨b1, 0, none⟩)), (3, .int .i64 x14), (4, .int .i64 v7), (5, .pointer (some ⟨b10, 0, none⟩)), (6, .int .i64 v15)]) (fun | v15 => [(0, [(b1, .cells #[.slice p0_0 ((a0.l).length) c0_0, .int .i64 a0.h] 29 (0, 0))]), (1, [(b10, .cells #[.bool x9.va, .int .i64 x9.tg, .int .i64 x9.pg, .int .i64 x9.fr, .int .i64 x9.ri, .bool x9.wi] 41 (0, 0))])]) ?_ ?_))))))))
    ·refine cw_block (cw_loopS (ι := Nat × Int) (js := [0, 1]) (fun x => x.1) (fun | (fuel, v15) => s_CacheValid_L1 fl a0 v7 x9 fuel v15 = some o1_1) (fun | (_, v15) => [(1, .pointer (some ⟨b1, 0, none⟩)), (3, .int .i64 x14), (4, .int .i64 v7), (5, .pointer (some ⟨b10, 0, none⟩)), (6, .int .i64 v15)]) (fun | (_, v15) => [(0, [(b1, .cells #[.slice p0_0 ((a0.l).length) c0_0, .int .i64 a0.h] 29 (0, 0))]), (1, [(b10, .cells #[.bool x9.va, .int .i64 x9.tg, .int .i64 x9.pg, .int .i64 x9.fr, .int .i64 x9.ri, .bool x9.wi] 41 (0, 0))])]) (fl, 0) eo1_1 ⟨rfl, rfl, rfl, rfl, rfl, trivial⟩ ⟨0, [1], rfl, rfl, 1, [], rfl, rfl, trivial⟩ (by decide) ?_)
     rintro ⟨fuel, v15⟩ H2
     have H2 : s_CacheValid_L1 fl a0 v7 x9 fuel v15 = some o1_1 := H2
     rcases fuel with _ | fuel
     ·rw [s_CacheValid_L1.eq_1] at H2; cases H2
     rw [s_CacheValid_L1.eq_2] at H2
     dsimp only
     refine cw_seq (sr (oM rfl (oM rfl (oW rfl (nn (cw_cond rfl (fun h16 => ?_) (fun h16 => ?_)))))))
     ·have H2 := cond_t H2 h16
      obtain ⟨x17, e17, H2⟩ := bS H2
      refine cw_skip (kw_nx (cw_seq (cw_block (sr (oA 0 Tryz.underlying29 rfl ts27 rfl (oL 0 ts27 rfl (oM rfl (oD (stp_indexAddr Tryz.underlying27 ts41 (by decide) rfl rfl rfl (Rdb.ro hr0_0) e17) rfl (oD (stp_loadN (us := [_, _, _, _, _, _]) ts41 rfl (Cells.el (Rdb.ro hr0_0) (by decide) e17 0 6 rfl)) rfl (oE (stpU_alloc 2 tz41 rfl) rfl ?_))))))))))
      rintro _ _ ⟨b18, rfl, rfl⟩
      obtain ⟨y19, ey19, H2⟩ := bS H2
      refine oC6 2 ts41 rfl rfl (nn (sr (oA 0 Tryz.underlying41 rfl ts4 rfl (oL 1 ts4 rfl (oM rfl (ow_cutY 3 66 y19 ?_ ?_))))))
      ·rcases Bool.eq_false_or_eq_true x9.va with hy19 | hy19
       ·have ey19 := cond_t ey19 hy19
        refine oG rfl hy19 (fA 0 Tryz.underlying41 rfl ts4 rfl rfl rfl) rfl (oG rfl hy19 (lB 2 ts4 rfl rfl rfl) rfl (oD (stp_pick_t rfl hy19 rfl) rfl ?_))
        obtain rfl := sI ey19
        exact ow_nil (jy 3 0)
       have ey19 := cond_f ey19 hy19
       refine oO rfl hy19 rfl (oO rfl hy19 rfl (oD (stp_pick_f rfl hy19 rfl) rfl ?_))
       obtain rfl := sI ey19
       exact ow_nil (jy 3 0)
      obtain ⟨y20, ey20, H2⟩ := bS H2
      refine oM rfl (ow_cutY 6 73 y20 ?_ ?_)
      ·rcases Bool.eq_false_or_eq_true y19 with hy20 | hy20
       ·have ey20 := cond_t ey20 hy20
        refine oG rfl hy20 (fA 2 Tryz.underlying41 rfl ts3 rfl rfl rfl) rfl (oG rfl hy20 (lB 1 ts3 rfl rfl rfl) rfl (oG rfl hy20 (fA 2 Tryz.underlying41 rfl ts3 rfl rfl rfl) rfl (oG rfl hy20 (lB 2 ts3 rfl rfl rfl) rfl (oG rfl hy20 (stp_eql rfl rfl) rfl (oD (stp_pick_t rfl hy20 rfl) rfl ?_)))))
        obtain rfl := sI ey20
        exact ow_nil (jy 6 0)
       have ey20 := cond_f ey20 hy20
       refine oO rfl hy20 rfl (oO rfl hy20 rfl (oO rfl hy20 rfl (oO rfl hy20 rfl (oO rfl hy20 rfl (oD (stp_pick_f rfl hy20 rfl) rfl ?_)))))
       obtain rfl := sI ey20
       exact ow_nil (jy 6 0)
      obtain ⟨y21, ey21, H2⟩ := bS H2
      refine oM rfl (ow_cutY 16 90 y21 ?_ ?_)
      ·rcases Bool.eq_false_or_eq_true y20 with hy21 | hy21
       ·have ey21 := cond_t ey21 hy21
        obtain ⟨y22, ey22, ey21⟩ := bS ey21
        refine oG rfl hy21 (fA 1 Tryz.underlying41 rfl ts3 rfl rfl rfl) rfl (oG rfl hy21 (lB 1 ts3 rfl rfl rfl) rfl (oG rfl hy21 (fA 1 Tryz.underlying41 rfl ts3 rfl rfl rfl) rfl (oG rfl hy21 (lB 2 ts3 rfl rfl rfl) rfl (oG rfl hy21 (stp_eql rfl rfl) rfl (oG rfl hy21 (mv rfl) rfl (ow_cutY 4 84 y22 ?_ ?_))))))
        ·rcases Bool.eq_false_or_eq_true (x9.tg == x17.tg) with hy22 | hy22
         ·have ey22 := cond_t ey22 hy22
          refine oO rfl hy22 rfl (oO rfl hy22 rfl (oO rfl hy22 rfl (oG rfl hy21 (stp_pick_t rfl hy22 rfl) rfl ?_)))
          obtain rfl := sI ey22
          exact ow_nil (jy 4 0)
         have ey22 := cond_f ey22 hy22
         refine oG rfl hy22 (fA 1 Tryz.underlying41 rfl ts3 rfl rfl rfl) rfl (oG rfl hy22 (lB 1 ts3 rfl rfl rfl) rfl (oG rfl hy22 (stp_eql rfl rfl) rfl (oG rfl hy21 (stp_pick_f rfl hy22 rfl) rfl ?_)))
         obtain rfl := sI ey22
         exact ow_nil (jy 4 0)
        obtain ⟨y23, ey23, ey21⟩ := bS ey21
        refine oG rfl hy21 (mv rfl) rfl (ow_cutY 4 89 y23 ?_ ?_)
        ·rcases Bool.eq_false_or_eq_true y22 with hy23 | hy23
         ·have ey23 := cond_t ey23 hy23
          refine oO rfl hy23 rfl (oO rfl hy23 rfl (oO rfl hy23 rfl (oG rfl hy21 (stp_pick_t rfl hy23 rfl) rfl ?_)))
          obtain rfl := sI ey23
          exact ow_nil (jy 4 0)
         have ey23 := cond_f ey23 hy23
         refine oG rfl hy23 (fA 1 Tryz.underlying41 rfl ts3 rfl rfl rfl) rfl (oG rfl hy23 (lB 2 ts3 rfl rfl rfl) rfl (oG rfl hy23 (stp_eql rfl rfl) rfl (oG rfl hy21 (stp_pick_f rfl hy23 rfl) rfl ?_)))
         obtain rfl := sI ey23
         exact ow_nil (jy 4 0)
        refine oD (stp_pick_t rfl hy21 rfl) rfl ?_
        obtain rfl := sI ey21
        exact ow_nil (jy 10 0)
       have ey21 := cond_f ey21 hy21
       refine oO rfl hy21 rfl (oO rfl hy21 rfl (oO rfl hy21 rfl (oO rfl hy21 rfl (oO rfl hy21 rfl (oO rfl hy21 rfl (oX rfl rfl rfl (oX rfl rfl rfl (oX rfl rfl rfl (oO rfl hy21 rfl (oO rfl hy21 rfl (oX rfl rfl rfl (oX rfl rfl rfl (oX rfl rfl rfl ?_)))))))))))))
       refine oO rfl hy21 rfl (oD (stp_pick_f rfl hy21 rfl) rfl ?_)
       obtain rfl := sI ey21
       exact ow_nil (jy 16 0)
      refine ow_nil (kw_nx (cw_cond rfl (fun h24 => ?_) (fun h24 => ?_)))
      ·have H2 := cond_t H2 h24
       refine sr (oS rfl (nn (cw_ret (kw_bl_ret (kw_nx_ret (kw_lq_ret (kw_bl_ret (kw_join_ret (kw_bl_ret (kw_nx_ret (kw_lq_ret (kw_bl_ret (kw_join_ret ?_)))))))))))))
       refine kw_nx_ret ?_
       obtain rfl := sI H2
       obtain rfl := sI H1
       obtain rfl := sI H0
       exact kr Tryz.results106 (rT rfl) [] ⟨rfl, rfl⟩
      have H2 := cond_f H2 h24
      obtain ⟨x25, e25, H2⟩ := bS H2
      exact cw_skip (kw_bl_normal (kw_nx (cw_region (oM rfl (oP e25 rfl (oS rfl (ow_nil (kw_lqS (js := [0, 1]) (fuel, x25) H2 (Nat.lt_succ_self _) ⟨rfl, rfl, rfl, rfl, rfl, trivial⟩ ⟨0, [1], rfl, rfl, 1, [], rfl, rfl, trivial⟩ (by decide)))))))))
     have H2 := cond_f H2 h16
     refine cw_exit (kw_nx_exit (kw_lq_exit (kw_bl ?_)))
     obtain rfl := sI H2
     exact kw_joinS (js := [0, 1]) v15 rfl ⟨rfl, rfl, rfl, rfl, rfl, trivial⟩ ⟨0, [1], rfl, rfl, 1, [], rfl, rfl, trivial⟩ (by decide)
    rintro v15 rfl
    dsimp only
    obtain ⟨x26, e26, H1⟩ := bS H1
    exact kw_bl_normal (kw_nx (cw_region (oM rfl (oP e26 rfl (oS rfl (ow_nil (kw_lqS (js := [0]) (fuel, x14, x26) H1 (Nat.lt_succ_self _) ⟨rfl, rfl, rfl, trivial⟩ ⟨0, [], rfl, rfl, trivial⟩ (by decide))))))))
   have H1 := cond_f H1 h13
   obtain ⟨o1_2, eo1_2, H1⟩ := bS H1
   refine cw_skip (kw_nx (sr (oS rfl (nn (cw_join (ι := Int) (fun | v27 => o1_2 = .out v27) (fun | v27 => [(1, .pointer (some ⟨b1, 0, none⟩)), (3, .int .i64 v6), (4, .int .i64 v7), (5, .pointer (some ⟨b10, 0, none⟩)), (6, .int .i64 v27)]) (fun | v27 => [(0, [(b1, .cells #[.slice p0_0 ((a0.l).length) c0_0, .int .i64 a0.h] 29 (0, 0))]), (1, [(b10, .cells #[.bool x9.va, .int .i64 x9.tg, .int .i64 x9.pg, .int .i64 x9.fr, .int .i64 x9.ri, .bool x9.wi] 41 (0, 0))])]) ?_ ?_)))))
   ·refine cw_block (cw_loopS (ι := Nat × Int) (js := [0, 1]) (fun x => x.1) (fun | (fuel, v27) => s_CacheValid_L2 fl a0 v7 x9 fuel v27 = some o1_2) (fun | (_, v27) => [(1, .pointer (some ⟨b1, 0, none⟩)), (3, .int .i64 v6), (4, .int .i64 v7), (5, .pointer (some ⟨b10, 0, none⟩)), (6, .int .i64 v27)]) (fun | (_, v27) => [(0, [(b1, .cells #[.slice p0_0 ((a0.l).length) c0_0, .int .i64 a0.h] 29 (0, 0))]), (1, [(b10, .cells #[.bool x9.va, .int .i64 x9.tg, .int .i64 x9.pg, .int .i64 x9.fr, .int .i64 x9.ri, .bool x9.wi] 41 (0, 0))])]) (fl, 0) eo1_2 ⟨rfl, rfl, rfl, rfl, rfl, trivial⟩ ⟨0, [1], rfl, rfl, 1, [], rfl, rfl, trivial⟩ (by decide) ?_)
    rintro ⟨fuel, v27⟩ H2
    have H2 : s_CacheValid_L2 fl a0 v7 x9 fuel v27 = some o1_2 := H2
    rcases fuel with _ | fuel
    ·rw [s_CacheValid_L2.eq_1] at H2; cases H2
    rw [s_CacheValid_L2.eq_2] at H2
    dsimp only
    refine cw_seq (sr (oM rfl (oM rfl (oW rfl (nn (cw_cond rfl (fun h28 => ?_) (fun h28 => ?_)))))))
    ·have H2 := cond_t H2 h28
     obtain ⟨x29, e29, H2⟩ := bS H2
     refine cw_skip (kw_nx (cw_seq (cw_block (sr (oA 0 Tryz.underlying29 rfl ts27 rfl (oL 0 ts27 rfl (oM rfl (oD (stp_indexAddr Tryz.underlying27 ts41 (by decide) rfl rfl rfl (Rdb.ro hr0_0) e29) rfl (oD (stp_loadN (us := [_, _, _, _, _, _]) ts41 rfl (Cells.el (Rdb.ro hr0_0) (by decide) e29 0 6 rfl)) rfl (oE (stpU_alloc 3 tz41 rfl) rfl ?_))))))))))
     rintro _ _ ⟨b30, rfl, rfl⟩
     obtain ⟨y31, ey31, H2⟩ := bS H2
     refine oC6 3 ts41 rfl rfl (nn (sr (oA 0 Tryz.underlying41 rfl ts4 rfl (oL 1 ts4 rfl (oM rfl (ow_cutY 3 66 y31 ?_ ?_))))))
     ·rcases Bool.eq_false_or_eq_true x9.va with hy31 | hy31
      ·have ey31 := cond_t ey31 hy31
       refine oG rfl hy31 (fA 0 Tryz.underlying41 rfl ts4 rfl rfl rfl) rfl (oG rfl hy31 (lB 3 ts4 rfl rfl rfl) rfl (oD (stp_pick_t rfl hy31 rfl) rfl ?_))
       obtain rfl := sI ey31
       exact ow_nil (jy 3 0)
      have ey31 := cond_f ey31 hy31
      refine oO rfl hy31 rfl (oO rfl hy31 rfl (oD (stp_pick_f rfl hy31 rfl) rfl ?_))
      obtain rfl := sI ey31
      exact ow_nil (jy 3 0)
     obtain ⟨y32, ey32, H2⟩ := bS H2
     refine oM rfl (ow_cutY 6 73 y32 ?_ ?_)
     ·rcases Bool.eq_false_or_eq_true y31 with hy32 | hy32
      ·have ey32 := cond_t ey32 hy32
       refine oG rfl hy32 (fA 2 Tryz.underlying41 rfl ts3 rfl rfl rfl) rfl (oG rfl hy32 (lB 1 ts3 rfl rfl rfl) rfl (oG rfl hy32 (fA 2 Tryz.underlying41 rfl ts3 rfl rfl rfl) rfl (oG rfl hy32 (lB 3 ts3 rfl rfl rfl) rfl (oG rfl hy32 (stp_eql rfl rfl) rfl (oD (stp_pick_t rfl hy32 rfl) rfl ?_)))))
       obtain rfl := sI ey32
       exact ow_nil (jy 6 0)
      have ey32 := cond_f ey32 hy32
      refine oO rfl hy32 rfl (oO rfl hy32 rfl (oO rfl hy32 rfl (oO rfl hy32 rfl (oO rfl hy32 rfl (oD (stp_pick_f rfl hy32 rfl) rfl ?_)))))
      obtain rfl := sI ey32
      exact ow_nil (jy 6 0)
     obtain ⟨y33, ey33, H2⟩ := bS H2
     refine oM rfl (ow_cutY 16 90 y33 ?_ ?_)
     ·rcases Bool.eq_false_or_eq_true y32 with hy33 | hy33
      ·have ey33 := cond_t ey33 hy33
       obtain ⟨y34, ey34, ey33⟩ := bS ey33
       refine oG rfl hy33 (fA 1 Tryz.underlying41 rfl ts3 rfl rfl rfl) rfl (oG rfl hy33 (lB 1 ts3 rfl rfl rfl) rfl (oG rfl hy33 (fA 1 Tryz.underlying41 rfl ts3 rfl rfl rfl) rfl (oG rfl hy33 (lB 3 ts3 rfl rfl rfl) rfl (oG rfl hy33 (stp_eql rfl rfl) rfl (oG rfl hy33 (mv rfl) rfl (ow_cutY 4 84 y34 ?_ ?_))))))
       ·rcases Bool.eq_false_or_eq_true (x9.tg == x29.tg) with hy34 | hy34
        ·have ey34 := cond_t ey34 hy34
         refine oO rfl hy34 rfl (oO rfl hy34 rfl (oO rfl hy34 rfl (oG rfl hy33 (stp_pick_t rfl hy34 rfl) rfl ?_)))
         obtain rfl := sI ey34
         exact ow_nil (jy 4 0)
        have ey34 := cond_f ey34 hy34
        refine oG rfl hy34 (fA 1 Tryz.underlying41 rfl ts3 rfl rfl rfl) rfl (oG rfl hy34 (lB 1 ts3 rfl rfl rfl) rfl (oG rfl hy34 (stp_eql rfl rfl) rfl (oG rfl hy33 (stp_pick_f rfl hy34 rfl) rfl ?_)))
        obtain rfl := sI ey34
        exact ow_nil (jy 4 0)
       obtain ⟨y35, ey35, ey33⟩ := bS ey33
       refine oG rfl hy33 (mv rfl) rfl (ow_cutY 4 89 y35 ?_ ?_)
       ·rcases Bool.eq_false_or_eq_true y34 with hy35 | hy35
        ·have ey35 := cond_t ey35 hy35
         refine oO rfl hy35 rfl (oO rfl hy35 rfl (oO rfl hy35 rfl (oG rfl hy33 (stp_pick_t rfl hy35 rfl) rfl ?_)))
         obtain rfl := sI ey35
         exact ow_nil (jy 4 0)
        have ey35 := cond_f ey35 hy35
        refine oG rfl hy35 (fA 1 Tryz.underlying41 rfl ts3 rfl rfl rfl) rfl (oG rfl hy35 (lB 3 ts3 rfl rfl rfl) rfl (oG rfl hy35 (stp_eql rfl rfl) rfl (oG rfl hy33 (stp_pick_f rfl hy35 rfl) rfl ?_)))
        obtain rfl := sI ey35
        exact ow_nil (jy 4 0)
       refine oD (stp_pick_t rfl hy33 rfl) rfl ?_
       obtain rfl := sI ey33
       exact ow_nil (jy 10 0)
      have ey33 := cond_f ey33 hy33
      refine oO rfl hy33 rfl (oO rfl hy33 rfl (oO rfl hy33 rfl (oO rfl hy33 rfl (oO rfl hy33 rfl (oO rfl hy33 rfl (oX rfl rfl rfl (oX rfl rfl rfl (oX rfl rfl rfl (oO rfl hy33 rfl (oO rfl hy33 rfl (oX rfl rfl rfl (oX rfl rfl rfl (oX rfl rfl rfl ?_)))))))))))))
      refine oO rfl hy33 rfl (oD (stp_pick_f rfl hy33 rfl) rfl ?_)
      obtain rfl := sI ey33
      exact ow_nil (jy 16 0)
     refine ow_nil (kw_nx (cw_cond rfl (fun h36 => ?_) (fun h36 => ?_)))
     ·have H2 := cond_t H2 h36
      refine sr (oS rfl (nn (cw_ret (kw_bl_ret (kw_nx_ret (kw_lq_ret (kw_bl_ret (kw_join_ret (kw_bl_ret (kw_nx_ret (kw_lq_ret (kw_bl_ret (kw_join_ret ?_)))))))))))))
      refine kw_nx_ret ?_
      obtain rfl := sI H2
      obtain rfl := sI H1
      obtain rfl := sI H0
      exact kr Tryz.results106 (rT rfl) [] ⟨rfl, rfl⟩
     have H2 := cond_f H2 h36
     obtain ⟨x37, e37, H2⟩ := bS H2
     exact cw_skip (kw_bl_normal (kw_nx (cw_region (oM rfl (oP e37 rfl (oS rfl (ow_nil (kw_lqS (js := [0, 1]) (fuel, x37) H2 (Nat.lt_succ_self _) ⟨rfl, rfl, rfl, rfl, rfl, trivial⟩ ⟨0, [1], rfl, rfl, 1, [], rfl, rfl, trivial⟩ (by decide)))))))))
    have H2 := cond_f H2 h28
    refine cw_exit (kw_nx_exit (kw_lq_exit (kw_bl ?_)))
    obtain rfl := sI H2
    exact kw_joinS (js := [0, 1]) v27 rfl ⟨rfl, rfl, rfl, rfl, rfl, trivial⟩ ⟨0, [1], rfl, rfl, 1, [], rfl, rfl, trivial⟩ (by decide)
   rintro v27 rfl
   dsimp only
   obtain ⟨x38, e38, H1⟩ := bS H1
   exact kw_bl_normal (kw_nx (cw_region (oM rfl (oP e38 rfl (oS rfl (ow_nil (kw_lqS (js := [0]) (fuel, v6, x38) H1 (Nat.lt_succ_self _) ⟨rfl, rfl, rfl, trivial⟩ ⟨0, [], rfl, rfl, trivial⟩ (by decide))))))))
  have H1 := cond_f H1 h8
  refine cw_exit (kw_nx_exit (kw_lq_exit (kw_bl ?_)))
  obtain rfl := sI H1
  exact kw_joinS (js := [0]) (v6, v7) rfl ⟨rfl, rfl, rfl, trivial⟩ ⟨0, [], rfl, rfl, trivial⟩ (by decide)
 rintro ⟨v6, v7⟩ rfl
 dsimp only
 refine kw_nx (sr (oM rfl (oJ rfl (oS rfl (nn (cw_ret ?_))))))
 obtain rfl := sI H0
 exact kr Tryz.results106 (rT rfl) [] ⟨rfl, rfl⟩

theorem c_s_SpaceOf (fl : Nat) (w : World) (a0 : Tg) (a1 : Int) (hn0_0 : n0_0 = (a0.o).length) (hr0_0 : RO w (hkeys []) (RdL p0_0 c0_0 a0.o)) (r : Int × Bool) (H0 : s_SpaceOf fl a0 a1 = some r) :
  Ct Tryz.prog 147 [.agg #[.int .i64 a0.c, .int .i64 a0.n, .int .i64 a0.r, .slice p0_0 n0_0 c0_0], .int .i64 a1] w [] (fun rv h' => rv = .tuple #[.int .i64 r.1, .bool r.2] ∧ h' = []) := by
 subst hn0_0
 unfold s_SpaceOf at H0
 refine ct_of_cw Tryz.func147 rfl Tryz.ntmps147 rfl (Sat.refl _ _) ?_
 refine sr (oE (stpU_box 0 rfl rfl) rfl ?_)
 rintro _ _ ⟨b1, rfl, rfl⟩
 obtain ⟨o0_0, eo0_0, H0⟩ := bS H0
 refine oS rfl (oS rfl (nn (cw_seq (sr (oS rfl (nn (cw_join (ι := Int) (fun | v2 => o0_0 = .out v2) (fun | v2 => [(1, .int .i64 a1), (2, .pointer (some ⟨b1, 0, none⟩)), (6, .int .i64 v2)]) (fun | v2 => [(0, [(b1, .cells #[.int .i64 a0.c, .int .i64 a0.n, .int .i64 a0.r, .slice p0_0 ((a0.o).length) c0_0] 32 (0, 0))])]) ?_ ?_)))))))
 ·refine cw_block (cw_loopS (ι := Nat × Int) (js := [0]) (fun x => x.1) (fun | (fuel, v2) => s_SpaceOf_L0 fl a0 a1 fuel v2 = some o0_0) (fun | (_, v2) => [(1, .int .i64 a1), (2, .pointer (some ⟨b1, 0, none⟩)), (6, .int .i64 v2)]) (fun | (_, v2) => [(0, [(b1, .cells #[.int .i64 a0.c, .int .i64 a0.n, .int .i64 a0.r, .slice p0_0 ((a0.o).length) c0_0] 32 (0, 0))])]) (fl, 0) eo0_0 ⟨rfl, rfl, rfl, trivial⟩ ⟨0, [], rfl, rfl, trivial⟩ (by decide) ?_)
  rintro ⟨fuel, v2⟩ H1
  have H1 : s_SpaceOf_L0 fl a0 a1 fuel v2 = some o0_0 := H1
  rcases fuel with _ | fuel
  ·rw [s_SpaceOf_L0.eq_1] at H1; cases H1
  rw [s_SpaceOf_L0.eq_2] at H1
  dsimp only
  obtain ⟨y3, ey3, H1⟩ := bS H1
  refine cw_seq (sr (oM rfl (oA 3 Tryz.underlying32 rfl ts30 rfl (oL 0 ts30 rfl (oD (stp_len Tryz.underlying30 rfl) rfl (oW rfl (oM rfl (ow_cutY 3 15 y3 ?_ ?_))))))))
  ·rcases Bool.eq_false_or_eq_true (decide (v2 < ((a0.o).length : Int))) with hy3 | hy3
   ·have ey3 := cond_t ey3 hy3
    obtain ⟨x4, e4, ey3⟩ := bS ey3
    refine oG rfl hy3 (stp_loadN (us := [_, _, _, _]) ts32 rfl (Cells.box (id := 0) rfl 4 rfl)) rfl (ow_eff (.some rfl hy3) (stpU_call (fun i => 1 + i) cf101 (fun w hw => c_s_TagsValid fl w a0 rfl (RO.pass hr0_0 hw) x4 e4) (yA rfl)) rfl ?_)
    rintro _ _ ⟨_, ⟨rfl, rfl⟩, rfl⟩
    refine oD (stp_pick_t rfl hy3 rfl) rfl ?_
    obtain rfl := sI ey3
    exact ow_nil (jy 3 0)
   have ey3 := cond_f ey3 hy3
   refine oO rfl hy3 rfl (oO rfl hy3 rfl (oD (stp_pick_f rfl hy3 rfl) rfl ?_))
   obtain rfl := sI ey3
   exact ow_nil (jy 3 0)
  refine ow_nil (kw_nx (cw_cond rfl (fun h5 => ?_) (fun h5 => ?_)))
  ·have H1 := cond_t H1 h5
   obtain ⟨x6, e6, H1⟩ := bS H1
   refine cw_skip (kw_nx (cw_seq (cw_block (sr (oA 3 Tryz.underlying32 rfl ts30 rfl (oL 0 ts30 rfl (oM rfl (oD (stp_indexAddr Tryz.underlying30 ts118 (by decide) rfl rfl rfl (Rdb.ro hr0_0) e6) rfl (oA 1 Tryz.underlying118 rfl ts3 rfl (oD (stp_load1 ts3 rfl (Cells.el (Rdb.ro hr0_0) (by decide) e6 1 1 rfl)) rfl (oM rfl (oQ rfl (nn ?_)))))))))))))
   refine cw_cond rfl (fun h7 => ?_) (fun h7 => ?_)
   ·have H1 := cond_t H1 h7
    refine sr (oA 3 Tryz.underlying32 rfl ts30 rfl (oL 0 ts30 rfl (oM rfl (oD (stp_indexAddr Tryz.underlying30 ts118 (by decide) rfl rfl rfl (Rdb.ro hr0_0) e6) rfl (oA 0 Tryz.underlying118 rfl ts3 rfl (oD (stp_load1 ts3 rfl (Cells.el (Rdb.ro hr0_0) (by decide) e6 0 1 rfl)) rfl (oS rfl (oS rfl (nn (cw_ret (kw_bl_ret (kw_nx_ret (kw_lq_ret ?_)))))))))))))
    refine kw_bl_ret (kw_join_ret (kw_nx_ret ?_))
    obtain rfl := sI H1
    obtain rfl := sI H0
    exact kr Tryz.results147 (.cons (.tmp rfl) (rT rfl)) [] ⟨rfl, rfl⟩
   have H1 := cond_f H1 h7
   obtain ⟨x8, e8, H1⟩ := bS H1
   exact cw_skip (kw_bl_normal (kw_nx (cw_region (oM rfl (oP e8 rfl (oS rfl (ow_nil (kw_lqS (js := [0]) (fuel, x8) H1 (Nat.lt_succ_self _) ⟨rfl, rfl, rfl, trivial⟩ ⟨0, [], rfl, rfl, trivial⟩ (by decide)))))))))
  have H1 := cond_f H1 h5
  refine cw_exit (kw_nx_exit (kw_lq_exit (kw_bl ?_)))
  obtain rfl := sI H1
  exact kw_joinS (js := [0]) v2 rfl ⟨rfl, rfl, rfl, trivial⟩ ⟨0, [], rfl, rfl, trivial⟩ (by decide)
 rintro v2 rfl
 dsimp only
 refine kw_nx (sr (oS rfl (oS rfl (nn (cw_ret ?_)))))
 obtain rfl := sI H0
 exact kr Tryz.results147 (.cons (.tmp rfl) (rT rfl)) [] ⟨rfl, rfl⟩

theorem c_s_KeyFor (fl : Nat) (w : World) (a0 : Int) (a1 : Int) (r : K) (H0 : s_KeyFor fl a0 a1 = some r) :
  Ct Tryz.prog 65 [.int .i64 a0, .int .i64 a1] w [] (fun rv h' => rv = .agg #[.int .i64 r.s, .int .i64 r.p] ∧ h' = []) := by
 unfold s_KeyFor at H0
 refine ct_of_cw Tryz.func65 rfl Tryz.ntmps65 rfl (Sat.refl _ _) ?_
 refine sr (oE (stpU_alloc 0 tz47 rfl) rfl ?_)
 rintro _ _ ⟨b1, rfl, rfl⟩
 refine nn (cw_seq (sr (oM rfl (oI rfl (nn (cw_cond rfl (fun h2 => ?_) (fun h2 => ?_)))))))
 ·have H0 := cond_t H0 h2
  refine sr (oM rfl (oD (stp_build (cs := #[.int .i64 0, .int .i64 a1]) (sevp_cons rfl sevp_nil) bt47_12) rfl (oC2 0 ts47 rfl rfl (nn (cw_ret (kw_nx_ret ?_))))))
  obtain rfl := sI H0
  exact kr Tryz.results65 (rC2 0 ts47 rfl rfl) [] ⟨rfl, rfl⟩
 have H0 := cond_f H0 h2
 refine cw_skip (kw_nx (sr (oM rfl (oM rfl (oD (stp_build (cs := #[.int .i64 a0, .int .i64 a1]) (sevp_cons rfl (sevp_cons rfl sevp_nil)) bt47_13) rfl (oC2 0 ts47 rfl rfl (nn (cw_ret ?_))))))))
 obtain rfl := sI H0
 exact kr Tryz.results65 (rC2 0 ts47 rfl rfl) [] ⟨rfl, rfl⟩

theorem c_s_l2Hash (fl : Nat) (w : World) (a0 : K) (a1 : Int) (r : Int) (H0 : s_l2Hash fl a0 a1 = some r) :
  Ct Tryz.prog 137 [.agg #[.int .i64 a0.s, .int .i64 a0.p], .int .i64 a1] w [] (fun rv h' => rv = .int .i64 r ∧ h' = []) := by
 unfold s_l2Hash at H0
 refine ct_of_cw Tryz.func137 rfl Tryz.ntmps137 rfl (Sat.refl _ _) ?_
 refine sr (oE (stpU_box 0 rfl rfl) rfl ?_)
 rintro _ _ ⟨b1, rfl, rfl⟩
 obtain ⟨x2, e2, H0⟩ := bS H0
 obtain ⟨x3, e3, H0⟩ := bS H0
 obtain ⟨x4, e4, H0⟩ := bS H0
 refine oS rfl (nn (sr (oA 0 Tryz.underlying47 rfl ts3 rfl (oL 0 ts3 rfl (oD (stp_mul rfl rfl e2) rfl (oA 1 Tryz.underlying47 rfl ts3 rfl (oL 0 ts3 rfl (oP e3 rfl (oS rfl (nn (sr (oM rfl (oD (stp_mul rfl rfl e4) rfl ?_)))))))))))))
 obtain ⟨x5, e5, H0⟩ := bS H0
 obtain ⟨x6, e6, H0⟩ := bS H0
 obtain ⟨x7, e7, H0⟩ := bS H0
 refine oD (stp_rem rfl rfl e5) rfl (oM rfl (oD (stp_mul rfl rfl e6) rfl (oD (stp_quo rfl rfl e7) rfl (oS rfl (nn (cw_ret ?_))))))
 obtain rfl := sI H0
 exact kr Tryz.results137 (rT rfl) [] ⟨rfl, rfl⟩

theorem c_s_l3Chain (fl : Nat) (w : World) (a0 : T) (a1 : Int) (hn0_0 : n0_0 = (a0.b).length) (hr0_0 : RO w (hkeys []) (RdL p0_0 c0_0 a0.b)) (hn0_1 : n0_1 = (a0.f).length) (hr0_1 : RO w (hkeys []) (RdL p0_1 c0_1 a0.f)) (r : (List Int) × Bool) (H0 : s_l3Chain fl a0 a1 = some r) :
  Ct Tryz.prog 136 [.agg #[.slice p0_0 n0_0 c0_0, .slice p0_1 n0_1 c0_1], .int .i64 a1] w [] (fun rv h' => ∃ (x0 : Option Addr) (y0 z0 : Nat) (C0 : Res), rv = .tuple #[.slice x0 y0 z0, .bool r.2] ∧ h' = [(0, C0)] ∧ y0 = (r.1).length ∧ OwnC 3 x0 z0 r.1 C0) := by
 subst hn0_0 hn0_1
 unfold s_l3Chain at H0
 refine ct_of_cw Tryz.func136 rfl Tryz.ntmps136 rfl (Sat.refl _ _) ?_
 refine sr (oE (stpU_box 0 rfl rfl) rfl ?_)
 rintro _ _ ⟨b1, rfl, rfl⟩
 refine oS rfl (oS rfl (nn (sr (oE (stpU_lit0 sl23 1) rfl ?_))))
 rintro _ _ ⟨p2, C3, rfl, rfl, o3⟩
 obtain ⟨x4, e4, H0⟩ := bS H0
 obtain ⟨o0_0, eo0_0, H0⟩ := bS H0
 refine oS rfl (nn (sr (oA 0 Tryz.underlying26 rfl ts23 rfl (oL 0 ts23 rfl (oM rfl (oD (stp_indexAddr Tryz.underlying23 ts3 (by decide) rfl rfl rfl (Rdb.ro hr0_0) e4) rfl (oD (stp_load1 ts3 rfl (Cells.el (Rdb.ro hr0_0) (by decide) e4 0 1 rfl)) rfl (oS rfl (nn (cw_seq (cw_join (ι := (List Int) × Int × Option Addr × Nat × Nat × Res) (fun | (v5, v10, p6, n7, c8, C9) => o0_0 = .out (v5, v10) ∧ n7 = (v5).length ∧ OwnC 3 p6 c8 v5 C9) (fun | (v5, v10, p6, n7, c8, C9) => [(2, .pointer (some ⟨b1, 0, none⟩)), (6, .slice p6 n7 c8), (7, .int .i64 v10)]) (fun | (v5, v10, p6, n7, c8, C9) => [(0, [(b1, .cells #[.slice p0_0 ((a0.b).length) c0_0, .slice p0_1 ((a0.f).length) c0_1] 26 (0, 0))]), (1, C9)]) ?_ ?_)))))))))))
 ·refine cw_block (cw_loopS (ι := Nat × (List Int) × Int × Option Addr × Nat × Nat × Res) (js := [0, 1]) (fun x => x.1) (fun | (fuel, v5, v10, p6, n7, c8, C9) => s_l3Chain_L0 fl a0 fuel v5 v10 = some o0_0 ∧ n7 = (v5).length ∧ OwnC 3 p6 c8 v5 C9) (fun | (_, v5, v10, p6, n7, c8, C9) => [(2, .pointer (some ⟨b1, 0, none⟩)), (6, .slice p6 n7 c8), (7, .int .i64 v10)]) (fun | (_, v5, v10, p6, n7, c8, C9) => [(0, [(b1, .cells #[.slice p0_0 ((a0.b).length) c0_0, .slice p0_1 ((a0.f).length) c0_1] 26 (0, 0))]), (1, C9)]) (fl, ([] : List Int), x4, p2, 0, 0, C3) ⟨eo0_0, (by simp), o3⟩ ⟨rfl, rfl, rfl, trivial⟩ ⟨0, [1], rfl, rfl, 1, [], rfl, rfl, trivial⟩ (by decide) ?_)
  rintro ⟨fuel, v5, v10, p6, _, c8, C9⟩ ⟨H1, rfl, o9⟩
  have H1 : s_l3Chain_L0 fl a0 fuel v5 v10 = some o0_0 := H1
  rcases fuel with _ | fuel
  ·rw [s_l3Chain_L0.eq_1] at H1; cases H1
  rw [s_l3Chain_L0.eq_2] at H1
  dsimp only
  refine cw_seq (sr (oM rfl (oU rfl (nn (cw_cond rfl (fun h11 => ?_) (fun h11 => ?_))))))
  ·have H1 := cond_t H1 h11
   obtain ⟨y12, ey12, H1⟩ := bS H1
   refine cw_skip (kw_nx (cw_block (cw_seq (sr (oM rfl (oW rfl (oM rfl (ow_cutY 6 24 y12 ?_ ?_))))))))
   ·rcases Bool.eq_false_or_eq_true (decide (v10 < 0)) with hy12 | hy12
    ·have ey12 := cond_t ey12 hy12
     refine oO rfl hy12 rfl (oO rfl hy12 rfl (oO rfl hy12 rfl (oO rfl hy12 rfl (oO rfl hy12 rfl (oD (stp_pick_t rfl hy12 rfl) rfl ?_)))))
     obtain rfl := sI ey12
     exact ow_nil (jy 6 0)
    have ey12 := cond_f ey12 hy12
    refine oG rfl hy12 (mv rfl) rfl (oG rfl hy12 (fA 1 Tryz.underlying26 rfl ts24 rfl rfl rfl) rfl (oG rfl hy12 (lB 0 ts24 rfl rfl rfl) rfl (oG rfl hy12 (stp_len Tryz.underlying24 rfl) rfl (oG rfl hy12 (stp_geq rfl rfl) rfl (oD (stp_pick_f rfl hy12 rfl) rfl ?_)))))
    obtain rfl := sI ey12
    exact ow_nil (jy 6 0)
   obtain ⟨y13, ey13, H1⟩ := bS H1
   refine oM rfl (ow_cutY 7 32 y13 ?_ ?_)
   ·rcases Bool.eq_false_or_eq_true y12 with hy13 | hy13
    ·have ey13 := cond_t ey13 hy13
     refine oO rfl hy13 rfl (oO rfl hy13 rfl (oO rfl hy13 rfl (oO rfl hy13 rfl (oO rfl hy13 rfl (oO rfl hy13 rfl (oD (stp_pick_t rfl hy13 rfl) rfl ?_))))))
     obtain rfl := sI ey13
     exact ow_nil (jy 7 0)
    have ey13 := cond_f ey13 hy13
    refine oG rfl hy13 (mv rfl) rfl (oG rfl hy13 (stp_len Tryz.underlying23 rfl) rfl (oG rfl hy13 (fA 1 Tryz.underlying26 rfl ts24 rfl rfl rfl) rfl (oG rfl hy13 (lB 0 ts24 rfl rfl rfl) rfl (oG rfl hy13 (stp_len Tryz.underlying24 rfl) rfl (oG rfl hy13 (stp_geq rfl rfl) rfl (oD (stp_pick_f rfl hy13 rfl) rfl ?_))))))
    obtain rfl := sI ey13
    exact ow_nil (jy 7 0)
   obtain ⟨y14, ey14, H1⟩ := bS H1
   refine oM rfl (ow_cutY 8 41 y14 ?_ ?_)
   ·rcases Bool.eq_false_or_eq_true y13 with hy14 | hy14
    ·have ey14 := cond_t ey14 hy14
     refine oO rfl hy14 rfl (oO rfl hy14 rfl (oO rfl hy14 rfl (oO rfl hy14 rfl (oO rfl hy14 rfl (oO rfl hy14 rfl (oO rfl hy14 rfl (oD (stp_pick_t rfl hy14 rfl) rfl ?_)))))))
     obtain rfl := sI ey14
     exact ow_nil (jy 8 0)
    have ey14 := cond_f ey14 hy14
    obtain ⟨x15, e15, ey14⟩ := bS ey14
    refine oG rfl hy14 (fA 1 Tryz.underlying26 rfl ts24 rfl rfl rfl) rfl (oG rfl hy14 (lB 0 ts24 rfl rfl rfl) rfl (oG rfl hy14 (mv rfl) rfl (oG rfl hy14 (stp_indexAddr Tryz.underlying24 ts58 (by decide) rfl rfl rfl (Rdb.ro hr0_1) e15) rfl (oG rfl hy14 (fA 0 Tryz.underlying58 rfl ts4 rfl rfl rfl) rfl (oG rfl hy14 (stp_load1 ts4 rfl (Cells.el (Rdb.ro hr0_1) (by decide) e15 0 1 rfl)) rfl (oG rfl hy14 (stp_not rfl) rfl (oD (stp_pick_f rfl hy14 rfl) rfl ?_)))))))
    obtain rfl := sI ey14
    exact ow_nil (jy 8 0)
   refine ow_nil (kw_nx (cw_cond rfl (fun h16 => ?_) (fun h16 => ?_)))
   ·have H1 := cond_t H1 h16
    refine sr (oM rfl (oS rfl (oS rfl (nn (cw_ret (kw_nx_ret (kw_bl_ret (kw_lq_ret (kw_bl_ret (kw_join_ret (kw_nx_ret ?_)))))))))))
    obtain rfl := sI H1
    obtain rfl := sI H0
    exact kr Tryz.results136 (.cons (.tmp rfl) (rT rfl)) [1] ⟨_, _, _, _, rfl, rfl, rfl, o9⟩
   have H1 := cond_f H1 h16
   refine cw_skip (kw_nx (sr (oM rfl (oM rfl (oE (stpU_lit (sz := 1) (l := [v10]) [.int .i64 v10] sl23 2 (sevp_cons rfl sevp_nil) rfl rfl rfl rfl rfl rfl rfl rfl rfl) rfl ?_)))))
   rintro _ _ ⟨p17, C18, rfl, rfl, o18⟩
   obtain ⟨x19, e19, H1⟩ := bS H1
   refine oE (stpU_append sl23 rfl (id := 1) rfl rfl rfl (by simp) rfl o9 (Rdb.own (id := 2) rfl o18) e19) rfl ?_
   rintro _ _ ⟨p20, c21, C22, rfl, rfl, o22⟩
   obtain ⟨x23, e23, H1⟩ := bS H1
   exact oS rfl (nn (cw_region (oA 1 Tryz.underlying26 rfl ts24 rfl (oL 0 ts24 rfl (oM rfl (oD (stp_indexAddr Tryz.underlying24 ts58 (by decide) rfl rfl rfl (Rdb.ro hr0_1) e23) rfl (oA 4 Tryz.underlying58 rfl ts3 rfl (oD (stp_load1 ts3 rfl (Cells.el (Rdb.ro hr0_1) (by decide) e23 4 1 rfl)) rfl (oS rfl (ow_nil (kw_bl_normal (kw_lqS (js := [0, 1]) (fuel, x19, x23.nx, p20, ((x19).length), c21, C22) ⟨H1, rfl, o22⟩ (Nat.lt_succ_self _) ⟨rfl, rfl, rfl, trivial⟩ ⟨0, [1], rfl, rfl, 1, [], rfl, rfl, trivial⟩ (by decide)))))))))))))
  have H1 := cond_f H1 h11
  refine cw_exit (kw_nx_exit (kw_lq_exit (kw_bl ?_)))
  obtain rfl := sI H1
  exact kw_joinS (js := [0, 1]) (v5, v10, p6, ((v5).length), c8, C9) ⟨rfl, rfl, o9⟩ ⟨rfl, rfl, rfl, trivial⟩ ⟨0, [1], rfl, rfl, 1, [], rfl, rfl, trivial⟩ (by decide)
 rintro ⟨v5, v10, p6, _, c8, C9⟩ ⟨rfl, rfl, o9⟩
 dsimp only
 refine kw_nx (sr (oM rfl (oS rfl (oS rfl (nn (cw_ret ?_))))))
 obtain rfl := sI H0
 exact kr Tryz.results136 (.cons (.tmp rfl) (rT rfl)) [1] ⟨_, _, _, _, rfl, rfl, rfl, o9⟩

theorem c_s_l3Find (fl : Nat) (w : World) (a0 : T) (a1 : K) (hn0_0 : n0_0 = (a0.b).length) (hr0_0 : RO w (hkeys []) (RdL p0_0 c0_0 a0.b)) (hn0_1 : n0_1 = (a0.f).length) (hr0_1 : RO w (hkeys []) (RdL p0_1 c0_1 a0.f)) (r : Int × Int) (H0 : s_l3Find fl a0 a1 = some r) :
  Ct Tryz.prog 88 [.agg #[.slice p0_0 n0_0 c0_0, .slice p0_1 n0_1 c0_1], .agg #[.int .i64 a1.s, .int .i64 a1.p]] w [] (fun rv h' => rv = .tuple #[.int .i64 r.1, .int .i64 r.2] ∧ h' = []) := by
 subst hn0_0 hn0_1
 unfold s_l3Find at H0
 refine ct_of_cw Tryz.func88 rfl Tryz.ntmps88 rfl (Sat.refl _ _) ?_
 refine sr (oE (stpU_box 0 rfl rfl) rfl ?_)
 rintro _ _ ⟨b1, rfl, rfl⟩
 refine oE (stpU_box 1 rfl rfl) rfl ?_
 rintro _ _ ⟨b2, rfl, rfl⟩
 obtain ⟨x3, e3, H0⟩ := bS H0
 obtain ⟨x4, e4, H0⟩ := bS H0
 refine oS rfl (oS rfl (nn (cw_seq (rdq g_mixed [2, 3] [0, 1] { dst := dS [11, 12, 13, 14, 15, 16, 17, 10, 18, 19, 7, 8], pre := gA [] [[], [], [], [2], [2, 3], rn 1 4, rn 0 6, rn 0 7, rn 0 8, rn 0 8, rn 0 9, rn 0 11], ids := gA [] [[], [], [], [], [], [], [2]], rs := rL [[(2, 0)], [(3, 0)], [(2, 0)], [(12, 3)], [(13, 4)], [(11, 2), (14, 5)], [(10, 1), (15, 6)], [(16, 7)], [(9, 8)], [(9, 8)], [(17, 9)], [(18, 10)]], rh := rL [[(0, 0)], [(1, 0)], [], [(0, 0)]], V := fun i g => gA undef [.agg #[.slice p0_0 ((a0.b).length) c0_0, .slice p0_1 ((a0.f).length) c0_1], .agg #[.int .i64 a1.s, .int .i64 a1.p], .pointer (some ⟨b1, 0, none⟩), .slice p0_0 ((a0.b).length) c0_0, .int .i64 ((a0.b).length : Int), .int .i64 x3, .tuple #[.slice ((g 6).A 0) ((x4.1).length) ((g 6).C 0), .bool x4.2], .tuple #[.slice ((g 6).A 0) ((x4.1).length) ((g 6).C 0), .bool x4.2], .slice ((g 6).A 0) ((x4.1).length) ((g 6).C 0), .bool x4.2, .slice ((g 6).A 0) ((x4.1).length) ((g 6).C 0), .bool x4.2] i, U := fun i g => match i with | 6 => [(2, ((g 6).R 0))] | _ => [], Φ := fun i x => match i with | 6 => OwnC 3 (x.A 0) (x.C 0) x4.1 (x.R 0) | _ => True } ?_ ?_))))
 ·refine ⟨lc rfl rfl fun hs hh => stp_loadN (us := [_, _]) ts26 (sv hs 2 rfl) (Cells.box (id := 0) (hh.get 0 _ rfl) 2 rfl), lc rfl rfl fun hs hh => stp_loadN (us := [_, _]) ts47 (sv hs 3 rfl) (Cells.box (id := 1) (hh.get 1 _ rfl) 2 rfl), lc rfl rfl fun hs hh => stp_fieldAddr (j := 0) Tryz.underlying26 rfl ts23 rfl (sv hs 2 rfl) rfl, lc rfl rfl fun hs hh => stp_load1 ts23 (sv hs 12 rfl) (Cells.box (id := 0) (hh.get 0 _ rfl) 1 rfl), lc rfl rfl fun hs hh => stp_len Tryz.underlying23 (sv hs 13 rfl), ?_, ?_, lM, lT, lT, lS, lS, trivial⟩
  ·refine le rfl rfl (fun g hΦ s h hs hh => (stpU_call (fun i => 2 + i) cf137 (fun w hw => c_s_l2Hash fl w a1 ((a0.b).length : Int) x3 e3) (yB (sv hs 11 rfl) (sv hs 14 rfl)))) ?_
   rintro g _ _ ⟨_, ⟨rfl, rfl⟩, rfl⟩
   exact ⟨⟨[], [], []⟩, trivial, .inr rfl, rfl⟩
  refine le rfl rfl (fun g hΦ s h hs hh => (stpU_call (fun i => 2 + i) cf136 (fun w hw => c_s_l3Chain fl w a0 x3 rfl (RO.pass hr0_0 hw) rfl (RO.pass hr0_1 hw) x4 e4) (yB (sv hs 10 rfl) (sv hs 15 rfl)))) ?_
  rintro g _ _ ⟨_, ⟨p5, _, c7, C8, rfl, rfl, rfl, o8⟩, rfl⟩
  exact ⟨⟨[p5], [c7], [C8]⟩, o8, .inr rfl, rfl⟩
 intro g hΦ
 refine kw_gen (ι := Option Addr × Nat × Res) (((g 6).A 0), ((g 6).C 0), ((g 6).R 0)) (fun | (p5, c7, C8) => OwnC 3 p5 c7 x4.1 C8) (fun | (p5, c7, C8) => [(2, .pointer (some ⟨b1, 0, none⟩)), (3, .pointer (some ⟨b2, 0, none⟩)), (6, .slice p5 ((x4.1).length) c7)]) (fun | (p5, c7, C8) => [(0, [(b1, .cells #[.slice p0_0 ((a0.b).length) c0_0, .slice p0_1 ((a0.f).length) c0_1] 26 (0, 0))]), (1, [(b2, .cells #[.int .i64 a1.s, .int .i64 a1.p] 47 (0, 0))]), (2, C8)]) (hΦ 6 (by decide)) ⟨rfl, rfl, rfl, trivial⟩ ⟨rfl, rfl, rfl, trivial⟩ ?_
 rintro ⟨p5, c7, C8⟩ o8
 have o8 : OwnC 3 p5 c7 x4.1 C8 := o8
 dsimp only
 obtain ⟨o0_0, eo0_0, H0⟩ := bS H0
 refine kw_nx (cw_seq (sr (oS rfl (nn (cw_join (ι := Int) (fun | v9 => o0_0 = .out v9) (fun | v9 => [(2, .pointer (some ⟨b1, 0, none⟩)), (3, .pointer (some ⟨b2, 0, none⟩)), (6, .slice p5 ((x4.1).length) c7), (8, .int .i64 v9)]) (fun | v9 => [(0, [(b1, .cells #[.slice p0_0 ((a0.b).length) c0_0, .slice p0_1 ((a0.f).length) c0_1] 26 (0, 0))]), (1, [(b2, .cells #[.int .i64 a1.s, .int .i64 a1.p] 47 (0, 0))]), (2, C8)]) ?_ ?_)))))
 ·refine cw_block (cw_loopS (ι := Nat × Int) (js := [0, 1, 2]) (fun x => x.1) (fun | (fuel, v9) => s_l3Find_L0 fl a0 a1 x4 fuel v9 = some o0_0) (fun | (_, v9) => [(2, .pointer (some ⟨b1, 0, none⟩)), (3, .pointer (some ⟨b2, 0, none⟩)), (6, .slice p5 ((x4.1).length) c7), (8, .int .i64 v9)]) (fun | (_, v9) => [(0, [(b1, .cells #[.slice p0_0 ((a0.b).length) c0_0, .slice p0_1 ((a0.f).length) c0_1] 26 (0, 0))]), (1, [(b2, .cells #[.int .i64 a1.s, .int .i64 a1.p] 47 (0, 0))]), (2, C8)]) (fl, 0) eo0_0 ⟨rfl, rfl, rfl, rfl, trivial⟩ ⟨0, [1, 2], rfl, rfl, 1, [2], rfl, rfl, 2, [], rfl, rfl, trivial⟩ (by decide) ?_)
  rintro ⟨fuel, v9⟩ H1
  have H1 : s_l3Find_L0 fl a0 a1 x4 fuel v9 = some o0_0 := H1
  rcases fuel with _ | fuel
  ·rw [s_l3Find_L0.eq_1] at H1; cases H1
  rw [s_l3Find_L0.eq_2] at H1
  dsimp only
  refine cw_seq (sr (oM rfl (oM rfl (oD (stp_len Tryz.underlying23 rfl) rfl (oW rfl (nn (cw_cond rfl (fun h10 => ?_) (fun h10 => ?_))))))))
  ·have H1 := cond_t H1 h10
   obtain ⟨x11, e11, H1⟩ := bS H1
   obtain ⟨x12, e12, H1⟩ := bS H1
   refine cw_skip (kw_nx (cw_seq (cw_block (cw_seq (rdq g_mixed [2, 3, 6, 8] [0, 1, 2] { dst := dS [26, 27, 28, 29, 30, 31, 32, 33, 34, 35, 36], pre := gA [] [[], [0], [], [], [2, 3], [2, 3, 4], rn 0 6, rn 0 7, rn 0 8, [], rn 0 10], ids := fun _ => [], rs := rL [[(2, 0)], [(25, 1)], [(6, 0)], [(8, 0)], [(27, 3), (28, 4)], [(29, 5)], [(26, 2), (30, 6)], [(31, 7)], [(32, 8)], [(3, 0)], [(33, 9), (34, 10)]], rh := rL [[], [(0, 0)], [], [], [(2, 0)], [(2, 0)], [], [], [], [(1, 0)]], V := fun i g => gA undef [.pointer (some ⟨b1, 1, none⟩), .slice p0_1 ((a0.f).length) c0_1, .slice p5 ((x4.1).length) c7, .int .i64 v9, .pointer (some ⟨eB p5, eO p5 + Int.toNat v9 * Enc.sz Int + 0, none⟩), .int .i64 x11, .pointer (some ⟨eB p0_1, eO p0_1 + Int.toNat x11 * Enc.sz F + 0, none⟩), .pointer (some ⟨eB p0_1, eO p0_1 + Int.toNat x11 * Enc.sz F + 1, none⟩), .agg #[.int .i64 x12.k.s, .int .i64 x12.k.p], .agg #[.int .i64 a1.s, .int .i64 a1.p], .bool (x12.k == a1)] i, U := fun _ _ => [], Φ := fun _ _ => True } ?_ ?_)))))
   ·exact ⟨lc rfl rfl fun hs hh => stp_fieldAddr (j := 1) Tryz.underlying26 rfl ts24 rfl (sv hs 2 rfl) rfl, lc rfl rfl fun hs hh => stp_load1 ts24 (sv hs 25 rfl) (Cells.box (id := 0) (hh.get 0 _ rfl) 1 rfl), lM, lM, lc rfl rfl fun hs hh => stp_indexAddr Tryz.underlying23 ts3 (by decide) (sv hs 27 rfl) rfl (sv hs 28 rfl) (Rdb.own (id := 2) (hh.get 2 _ rfl) o8) e11, lc rfl rfl fun hs hh => stp_load1 ts3 (sv hs 29 rfl) (Cells.el (Rdb.own (id := 2) (hh.get 2 _ rfl) o8) (by decide) e11 0 1 rfl), lc rfl rfl fun hs hh => stp_indexAddr Tryz.underlying24 ts58 (by decide) (sv hs 26 rfl) rfl (sv hs 30 rfl) (Rdb.ro hr0_1) e12, lc rfl rfl fun hs hh => stp_fieldAddr (j := 1) Tryz.underlying58 rfl ts47 rfl (sv hs 31 rfl) rfl, lc rfl rfl fun hs hh => stp_loadN (us := [_, _]) ts47 (sv hs 32 rfl) (Cells.el (Rdb.ro hr0_1) (by decide) e12 1 2 rfl), lc rfl rfl fun hs hh => stp_loadN (us := [_, _]) ts47 (sv hs 3 rfl) (Cells.box (id := 1) (hh.get 1 _ rfl) 2 rfl), lc rfl rfl fun hs hh => stp_eqlS te47 x12.k a1 (sv hs 33 rfl) (sv hs 34 rfl), trivial⟩
   intro g hΦ
   refine KW.sub (s' := [(2, .pointer (some ⟨b1, 0, none⟩)), (3, .pointer (some ⟨b2, 0, none⟩)), (6, .slice p5 ((x4.1).length) c7), (8, .int .i64 v9), (35, .bool (x12.k == a1))]) (h' := [(0, [(b1, .cells #[.slice p0_0 ((a0.b).length) c0_0, .slice p0_1 ((a0.f).length) c0_1] 26 (0, 0))]), (1, [(b2, .cells #[.int .i64 a1.s, .int .i64 a1.p] 47 (0, 0))]), (2, C8)]) ?_ ⟨rfl, rfl, rfl, rfl, rfl, trivial⟩ ⟨rfl, rfl, rfl, trivial⟩
   refine kw_nx (cw_cond rfl (fun h13 => ?_) (fun h13 => ?_))
   ·have H1 := cond_t H1 h13
    obtain ⟨x14, e14, H1⟩ := bS H1
    refine sr (oM rfl (oM rfl (oD (stp_indexAddr Tryz.underlying23 ts3 (by decide) rfl rfl rfl (Rdb.own (id := 2) rfl o8) e11) rfl (oD (stp_load1 ts3 rfl (Cells.el (Rdb.own (id := 2) rfl o8) (by decide) e11 0 1 rfl)) rfl (oM rfl (oP e14 rfl (oS rfl (oS rfl (nn (cw_ret (kw_bl_ret (kw_nx_ret (kw_lq_ret ?_)))))))))))))
    refine kw_bl_ret (kw_join_ret (kw_nx_ret ?_))
    obtain rfl := sI H1
    obtain rfl := sI H0
    exact kr Tryz.results88 (.cons (.tmp rfl) (rT rfl)) [] ⟨rfl, rfl⟩
   have H1 := cond_f H1 h13
   obtain ⟨x15, e15, H1⟩ := bS H1
   exact cw_skip (kw_bl_normal (kw_nx (cw_region (oM rfl (oP e15 rfl (oS rfl (ow_nil (kw_lqS (js := [0, 1, 2]) (fuel, x15) H1 (Nat.lt_succ_self _) ⟨rfl, rfl, rfl, rfl, trivial⟩ ⟨0, [1, 2], rfl, rfl, 1, [2], rfl, rfl, 2, [], rfl, rfl, trivial⟩ (by decide)))))))))
  have H1 := cond_f H1 h10
  refine cw_exit (kw_nx_exit (kw_lq_exit (kw_bl ?_)))
  obtain rfl := sI H1
  exact kw_joinS (js := [0, 1, 2]) v9 rfl ⟨rfl, rfl, rfl, rfl, trivial⟩ ⟨0, [1, 2], rfl, rfl, 1, [2], rfl, rfl, 2, [], rfl, rfl, trivial⟩ (by decide)
 rintro v9 rfl
 dsimp only
 refine kw_nx (sr (oM rfl (oD (stp_len Tryz.underlying23 rfl) rfl (oS rfl (oS rfl (nn (cw_ret ?_)))))))
 obtain rfl := sI H0
 exact kr Tryz.results88 (.cons (.tmp rfl) (rT rfl)) [] ⟨rfl, rfl⟩

theorem c_s_l6Line (fl : Nat) (w : World) (a0 : Mc) (a1 : Ln) (hn0_0 : n0_0 = (a0.t.b).length) (hr0_0 : RO w (hkeys []) (RdL p0_0 c0_0 a0.t.b)) (hn0_1 : n0_1 = (a0.t.f).length) (hr0_1 : RO w (hkeys []) (RdL p0_1 c0_1 a0.t.f)) (hn0_2 : n0_2 = (a0.c.l).length) (hr0_2 : RO w (hkeys []) (RdL p0_2 c0_2 a0.c.l)) (hn0_3 : n0_3 = (a0.g.o).length) (hr0_3 : RO w (hkeys []) (RdL p0_3 c0_3 a0.g.o)) (r : Bool) (H0 : s_l6Line fl a0 a1 = some r) :
  Ct Tryz.prog 107 [.agg #[.slice p0_0 n0_0 c0_0, .slice p0_1 n0_1 c0_1, .slice p0_2 n0_2 c0_2, .int .i64 a0.c.h, .int .i64 a0.g.c, .int .i64 a0.g.n, .int .i64 a0.g.r, .slice p0_3 n0_3 c0_3, .int .i64 a0.s], .agg #[.bool a1.va, .int .i64 a1.tg, .int .i64 a1.pg, .int .i64 a1.fr, .int .i64 a1.ri, .bool a1.wi]] w [] (fun rv h' => rv = .bool r ∧ h' = []) := by
 subst hn0_0 hn0_1 hn0_2 hn0_3
 unfold s_l6Line at H0
 refine ct_of_cw Tryz.func107 rfl Tryz.ntmps107 rfl (Sat.refl _ _) ?_
 refine sr (oE (stpU_box 0 rfl rfl) rfl ?_)
 rintro _ _ ⟨b1, rfl, rfl⟩
 refine oE (stpU_box 1 rfl rfl) rfl ?_
 rintro _ _ ⟨b2, rfl, rfl⟩
 refine oS rfl (nn (sr (oS rfl (nn (cw_seq (sr (oA 1 Tryz.underlying41 rfl ts3 rfl (oL 1 ts3 rfl (oQ rfl (oA 2 Tryz.underlying41 rfl ts3 rfl (oL 1 ts3 rfl (oI rfl (oD (stp_neqB Tryz.underlying4 rfl rfl) rfl ?_)))))))))))))
 refine nn (cw_cond rfl (fun h3 => ?_) (fun h3 => ?_))
 ·have H0 := cond_t H0 h3
  refine sr (oS rfl (nn (cw_ret (kw_nx_ret ?_))))
  obtain rfl := sI H0
  exact kr Tryz.results107 (rT rfl) [] ⟨rfl, rfl⟩
 have H0 := cond_f H0 h3
 refine cw_skip (kw_nx (cw_seq (sr (oA 1 Tryz.underlying41 rfl ts3 rfl (oL 1 ts3 rfl (oU rfl (nn (cw_cond rfl (fun h4 => ?_) (fun h4 => ?_)))))))))
 ·have H0 := cond_t H0 h4
  obtain ⟨x5, e5, H0⟩ := bS H0
  refine sr (oA 4 Tryz.underlying34 rfl ts32 rfl (oB4 0 ts32 rfl (oA 1 Tryz.underlying41 rfl ts3 rfl (oL 1 ts3 rfl (oE (stpU_call (fun i => 2 + i) cf147 (fun w hw => c_s_SpaceOf fl w a0.g a1.tg rfl (RO.pass hr0_3 hw) x5 e5) (yB rfl rfl)) rfl ?_)))))
  rintro _ _ ⟨_, ⟨rfl, rfl⟩, rfl⟩
  refine oM rfl (oT rfl (oT rfl (oS rfl (oS rfl (nn (cw_seq (sr (oM rfl (oK rfl (nn (cw_cond rfl (fun h6 => ?_) (fun h6 => ?_))))))))))))
  ·have H0 := cond_t H0 h6
   refine sr (oS rfl (nn (cw_ret (kw_nx_ret (kw_nx_ret ?_)))))
   obtain rfl := sI H0
   exact kr Tryz.results107 (rT rfl) [] ⟨rfl, rfl⟩
  have H0 := cond_f H0 h6
  obtain ⟨x7, e7, H0⟩ := bS H0
  obtain ⟨x8, e8, H0⟩ := bS H0
  refine cw_skip (kw_nx (cw_region (oM rfl (oS rfl (nn (cw_seq (rdq g_mixed [2, 3, 5] [0, 1] { dst := dS [33, 34, 35, 36, 37, 38, 39, 32, 40, 41, 9, 10], pre := gA [] [[], [0], [], [], [3], [2, 3, 4], rn 0 6, rn 0 7, rn 0 8, rn 0 8, rn 0 9, rn 0 11], ids := fun _ => [], rs := rL [[(2, 0)], [(32, 1)], [(5, 0)], [(3, 0)], [(35, 4)], [(34, 3), (36, 5)], [(33, 2), (37, 6)], [(38, 7)], [(31, 8)], [(31, 8)], [(39, 9)], [(40, 10)]], rh := rL [[], [(0, 0)], [], [], [(1, 0)]], V := fun i g => gA undef [.pointer (some ⟨b1, 0, none⟩), .agg #[.slice p0_0 ((a0.t.b).length) c0_0, .slice p0_1 ((a0.t.f).length) c0_1], .int .i64 x5.1, .pointer (some ⟨b2, 2, none⟩), .int .i64 a1.pg, .agg #[.int .i64 x7.s, .int .i64 x7.p], .tuple #[.int .i64 x8.1, .int .i64 x8.2], .tuple #[.int .i64 x8.1, .int .i64 x8.2], .int .i64 x8.1, .int .i64 x8.2, .int .i64 x8.1, .int .i64 x8.2] i, U := fun _ _ => [], Φ := fun _ _ => True } ?_ ?_)))))))
  ·refine ⟨lc rfl rfl fun hs hh => stp_fieldAddr (j := 0) Tryz.underlying34 rfl ts26 rfl (sv hs 2 rfl) rfl, lc rfl rfl fun hs hh => stp_loadN (us := [_, _]) ts26 (sv hs 32 rfl) (Cells.box (id := 0) (hh.get 0 _ rfl) 2 rfl), lM, lc rfl rfl fun hs hh => stp_fieldAddr (j := 2) Tryz.underlying41 rfl ts3 rfl (sv hs 3 rfl) rfl, lc rfl rfl fun hs hh => stp_load1 ts3 (sv hs 35 rfl) (Cells.box (id := 1) (hh.get 1 _ rfl) 1 rfl), ?_, ?_, lM, lT, lT, lS, lS, trivial⟩
   ·refine le rfl rfl (fun g hΦ s h hs hh => (stpU_call (fun i => 2 + i) cf65 (fun w hw => c_s_KeyFor fl w x5.1 a1.pg x7 e7) (yB (sv hs 34 rfl) (sv hs 36 rfl)))) ?_
    rintro g _ _ ⟨_, ⟨rfl, rfl⟩, rfl⟩
    exact ⟨⟨[], [], []⟩, trivial, .inr rfl, rfl⟩
   refine le rfl rfl (fun g hΦ s h hs hh => (stpU_call (fun i => 2 + i) cf88 (fun w hw => c_s_l3Find fl w a0.t x7 rfl (RO.pass hr0_0 hw) rfl (RO.pass hr0_1 hw) x8 e8) (yB (sv hs 33 rfl) (sv hs 37 rfl)))) ?_
   rintro g _ _ ⟨_, ⟨rfl, rfl⟩, rfl⟩
   exact ⟨⟨[], [], []⟩, trivial, .inr rfl, rfl⟩
  intro g hΦ
  refine KW.sub (s' := [(2, .pointer (some ⟨b1, 0, none⟩)), (3, .pointer (some ⟨b2, 0, none⟩)), (8, .int .i64 x8.1)]) (h' := [(0, [(b1, .cells #[.slice p0_0 ((a0.t.b).length) c0_0, .slice p0_1 ((a0.t.f).length) c0_1, .slice p0_2 ((a0.c.l).length) c0_2, .int .i64 a0.c.h, .int .i64 a0.g.c, .int .i64 a0.g.n, .int .i64 a0.g.r, .slice p0_3 ((a0.g.o).length) c0_3, .int .i64 a0.s] 34 (0, 0))]), (1, [(b2, .cells #[.bool a1.va, .int .i64 a1.tg, .int .i64 a1.pg, .int .i64 a1.fr, .int .i64 a1.ri, .bool a1.wi] 41 (0, 0))])]) ?_ ⟨rfl, rfl, rfl, trivial⟩ ⟨rfl, rfl, trivial⟩
  obtain ⟨y9, ey9, H0⟩ := bS H0
  obtain ⟨y10, ey10, H0⟩ := bS H0
  obtain ⟨y12, ey12, H0⟩ := bS H0
  refine kw_nx (cw_seq (cw_join (ι := Unit) (fun | _ => True) (fun | _ => [(4, .bool y12)]) (fun | _ => []) ?_ ?_))
  ·rcases Bool.eq_false_or_eq_true (decide (0 ≤ x8.1)) with hy9 | hy9
   ·have ey9 := cond_t ey9 hy9
    have qy9 := sI ey9
    rcases Bool.eq_false_or_eq_true y9 with hy10 | hy10
    ·have ey10 := cond_t ey10 hy10
     obtain ⟨x11, e11, ey10⟩ := bS ey10
     have qy10 := sI ey10
     rcases Bool.eq_false_or_eq_true y10 with hy12 | hy12
     ·have ey12 := cond_t ey12 hy12
      obtain ⟨y13, ey13, ey12⟩ := bS ey12
      rcases Bool.eq_false_or_eq_true (!a1.wi) with hy13 | hy13
      ·have ey13 := cond_t ey13 hy13
       have qy13 := sI ey13
       have qy12 := sI ey12
       refine rdq g_mixed [2, 3, 8] [0, 1] { dst := dS [42, 43, 44, 45, 46, 47, 48, 49, 50, 51, 52, 53, 54, 55, 56, 57, 58, 59, 60, 61, 62, 63, 64, 65, 66, 67, 68, 69, 70, 71, 5], pre := gA [] [[], [0], [0, 1], [0, 1, 2], [0, 1, 2], [0, 1, 2, 4], rn 0 6, rn 0 7, rn 0 8, rn 0 9, rn 0 10, rn 0 11, rn 0 9, rn 0 13, rn 0 14, rn 0 15, rn 0 9, [0, 1, 2, 3, 4, 5, 6, 7, 8, 16], rn 0 18, rn 0 19, rn 0 20, rn 0 21, rn 0 22, rn 0 23, rn 0 24, rn 0 25, rn 0 26, rn 0 27, rn 0 28, rn 0 29, rn 0 30], ids := fun _ => [], rs := rL [[(8, 0)], [(41, 1)], [(42, 2)], [(8, 0), (43, 3)], [(3, 0), (43, 3)], [(45, 5), (43, 3)], [(44, 4), (46, 6), (43, 3)], [(43, 3), (47, 7)], [(48, 8)], [(2, 0), (49, 9)], [(50, 10), (49, 9)], [(51, 11), (49, 9)], [(8, 0), (49, 9)], [(52, 12), (53, 13), (49, 9)], [(54, 14), (49, 9)], [(55, 15), (49, 9)], [(3, 0), (49, 9)], [(57, 17), (49, 9)], [(56, 16), (58, 18), (49, 9)], [(49, 9), (59, 19)], [(60, 20)], [(3, 0), (61, 21)], [(62, 22), (61, 21)], [(63, 23), (61, 21)], [(64, 24), (61, 21)], [(65, 25)], [(65, 25)], [(65, 25)], [(65, 25), (68, 28), (61, 21)], [(61, 21), (69, 29)], [(70, 30)]], rh := rL [[], [], [], [], [], [(1, 0)], [], [], [], [], [], [(0, 0)], [], [], [], [], [], [(1, 0)], [], [], [], [], [(1, 0)]], V := fun i g => gA undef [.int .i64 x8.1, .bool (decide (0 ≤ x8.1)), .bool (decide (0 ≤ x8.1)), .int .i64 x8.1, .pointer (some ⟨b2, 3, none⟩), .int .i64 a1.fr, .bool (x8.1 == a1.fr), .bool y9, .bool y9, .pointer (some ⟨b1, 0, none⟩), .pointer (some ⟨b1, 1, none⟩), .slice p0_1 ((a0.t.f).length) c0_1, .int .i64 x8.1, .pointer (some ⟨eB p0_1, eO p0_1 + Int.toNat x8.1 * Enc.sz F + 0, none⟩), .pointer (some ⟨eB p0_1, eO p0_1 + Int.toNat x8.1 * Enc.sz F + 3, none⟩), .int .i64 x11.r, .pointer (some ⟨b2, 4, none⟩), .int .i64 a1.ri, .bool (x11.r == a1.ri), .bool y10, .bool y10, .pointer (some ⟨b2, 5, none⟩), .bool a1.wi, .bool (!a1.wi), .bool (!a1.wi), undef, undef, undef, .bool y13, .bool y12, .bool y12] i, U := fun _ _ => [], Φ := fun _ _ => True } ?_ ?_
       ·exact ⟨lM, lc rfl rfl fun hs hh => stp_geq (sv hs 41 rfl) rfl, lM, lg rfl rfl 43 hy9 fun hs hh => stp_move (sv hs 8 rfl), lg rfl rfl 43 hy9 fun hs hh => stp_fieldAddr (j := 3) Tryz.underlying41 rfl ts3 rfl (sv hs 3 rfl) rfl, lg rfl rfl 43 hy9 fun hs hh => stp_load1 ts3 (sv hs 45 rfl) (Cells.box (id := 1) (hh.get 1 _ rfl) 1 rfl), lg rfl rfl 43 hy9 fun hs hh => stp_eql (sv hs 44 rfl) (sv hs 46 rfl), lc rfl rfl fun hs hh => stp_pick_tB (sv hs 43 rfl) hy9 (sv hs 47 rfl) qy9, lM, lg rfl rfl 49 hy10 fun hs hh => stp_fieldAddr (j := 0) Tryz.underlying34 rfl ts26 rfl (sv hs 2 rfl) rfl, lg rfl rfl 49 hy10 fun hs hh => stp_fieldAddr (j := 1) Tryz.underlying26 rfl ts24 rfl (sv hs 50 rfl) rfl, lg rfl rfl 49 hy10 fun hs hh => stp_load1 ts24 (sv hs 51 rfl) (Cells.box (id := 0) (hh.get 0 _ rfl) 1 rfl), lg rfl rfl 49 hy10 fun hs hh => stp_move (sv hs 8 rfl), lg rfl rfl 49 hy10 fun hs hh => stp_indexAddr Tryz.underlying24 ts58 (by decide) (sv hs 52 rfl) rfl (sv hs 53 rfl) (Rdb.ro hr0_1) e11, lg rfl rfl 49 hy10 fun hs hh => stp_fieldAddr (j := 3) Tryz.underlying58 rfl ts3 rfl (sv hs 54 rfl) rfl, lg rfl rfl 49 hy10 fun hs hh => stp_load1 ts3 (sv hs 55 rfl) (Cells.el (Rdb.ro hr0_1) (by decide) e11 3 1 rfl), lg rfl rfl 49 hy10 fun hs hh => stp_fieldAddr (j := 4) Tryz.underlying41 rfl ts3 rfl (sv hs 3 rfl) rfl, lg rfl rfl 49 hy10 fun hs hh => stp_load1 ts3 (sv hs 57 rfl) (Cells.box (id := 1) (hh.get 1 _ rfl) 1 rfl), lg rfl rfl 49 hy10 fun hs hh => stp_eql (sv hs 56 rfl) (sv hs 58 rfl), lc rfl rfl fun hs hh => stp_pick_tB (sv hs 49 rfl) hy10 (sv hs 59 rfl) qy10, lM, lg rfl rfl 61 hy12 fun hs hh => stp_fieldAddr (j := 5) Tryz.underlying41 rfl ts4 rfl (sv hs 3 rfl) rfl, lg rfl rfl 61 hy12 fun hs hh => stp_load1 ts4 (sv hs 62 rfl) (Cells.box (id := 1) (hh.get 1 _ rfl) 1 rfl), lg rfl rfl 61 hy12 fun hs hh => stp_not (sv hs 63 rfl), lg rfl rfl 61 hy12 fun hs hh => stp_move (sv hs 64 rfl), lo rfl rfl 65 hy13, lo rfl rfl 65 hy13, lo rfl rfl 65 hy13, lg rfl rfl 61 hy12 fun hs hh => stp_pick_tB (sv hs 65 rfl) hy13 rfl qy13, lc rfl rfl fun hs hh => stp_pick_tB (sv hs 61 rfl) hy12 (sv hs 69 rfl) qy12, lS, trivial⟩
       intro g hΦ
       exact kw_join () trivial ⟨rfl, trivial⟩ trivial
      have ey13 := cond_f ey13 hy13
      have qy13 := sI ey13
      have qy12 := sI ey12
      refine rdq g_mixed [2, 3, 8] [0, 1] { dst := dS [42, 43, 44, 45, 46, 47, 48, 49, 50, 51, 52, 53, 54, 55, 56, 57, 58, 59, 60, 61, 62, 63, 64, 65, 66, 67, 68, 69, 70, 71, 5], pre := gA [] [[], [0], [0, 1], [0, 1, 2], [0, 1, 2], [0, 1, 2, 4], rn 0 6, rn 0 7, rn 0 8, rn 0 9, rn 0 10, rn 0 11, rn 0 9, rn 0 13, rn 0 14, rn 0 15, rn 0 9, [0, 1, 2, 3, 4, 5, 6, 7, 8, 16], rn 0 18, rn 0 19, rn 0 20, rn 0 21, rn 0 22, rn 0 23, rn 0 24, rn 0 25, rn 0 26, rn 0 27, rn 0 28, rn 0 29, rn 0 30], ids := fun _ => [], rs := rL [[(8, 0)], [(41, 1)], [(42, 2)], [(8, 0), (43, 3)], [(3, 0), (43, 3)], [(45, 5), (43, 3)], [(44, 4), (46, 6), (43, 3)], [(43, 3), (47, 7)], [(48, 8)], [(2, 0), (49, 9)], [(50, 10), (49, 9)], [(51, 11), (49, 9)], [(8, 0), (49, 9)], [(52, 12), (53, 13), (49, 9)], [(54, 14), (49, 9)], [(55, 15), (49, 9)], [(3, 0), (49, 9)], [(57, 17), (49, 9)], [(56, 16), (58, 18), (49, 9)], [(49, 9), (59, 19)], [(60, 20)], [(3, 0), (61, 21)], [(62, 22), (61, 21)], [(63, 23), (61, 21)], [(64, 24), (61, 21)], [(3, 0), (65, 25)], [(66, 26), (65, 25)], [(67, 27), (65, 25)], [(65, 25), (68, 28), (61, 21)], [(61, 21), (69, 29)], [(70, 30)]], rh := rL [[], [], [], [], [], [(1, 0)], [], [], [], [], [], [(0, 0)], [], [], [], [], [], [(1, 0)], [], [], [], [], [(1, 0)], [], [], [], [(1, 0)]], V := fun i g => gA undef [.int .i64 x8.1, .bool (decide (0 ≤ x8.1)), .bool (decide (0 ≤ x8.1)), .int .i64 x8.1, .pointer (some ⟨b2, 3, none⟩), .int .i64 a1.fr, .bool (x8.1 == a1.fr), .bool y9, .bool y9, .pointer (some ⟨b1, 0, none⟩), .pointer (some ⟨b1, 1, none⟩), .slice p0_1 ((a0.t.f).length) c0_1, .int .i64 x8.1, .pointer (some ⟨eB p0_1, eO p0_1 + Int.toNat x8.1 * Enc.sz F + 0, none⟩), .pointer (some ⟨eB p0_1, eO p0_1 + Int.toNat x8.1 * Enc.sz F + 3, none⟩), .int .i64 x11.r, .pointer (some ⟨b2, 4, none⟩), .int .i64 a1.ri, .bool (x11.r == a1.ri), .bool y10, .bool y10, .pointer (some ⟨b2, 5, none⟩), .bool a1.wi, .bool (!a1.wi), .bool (!a1.wi), .pointer (some ⟨b2, 1, none⟩), .int .i64 a1.tg, .bool (a1.tg == (-1)), .bool y13, .bool y12, .bool y12] i, U := fun _ _ => [], Φ := fun _ _ => True } ?_ ?_
      ·exact ⟨lM, lc rfl rfl fun hs hh => stp_geq (sv hs 41 rfl) rfl, lM, lg rfl rfl 43 hy9 fun hs hh => stp_move (sv hs 8 rfl), lg rfl rfl 43 hy9 fun hs hh => stp_fieldAddr (j := 3) Tryz.underlying41 rfl ts3 rfl (sv hs 3 rfl) rfl, lg rfl rfl 43 hy9 fun hs hh => stp_load1 ts3 (sv hs 45 rfl) (Cells.box (id := 1) (hh.get 1 _ rfl) 1 rfl), lg rfl rfl 43 hy9 fun hs hh => stp_eql (sv hs 44 rfl) (sv hs 46 rfl), lc rfl rfl fun hs hh => stp_pick_tB (sv hs 43 rfl) hy9 (sv hs 47 rfl) qy9, lM, lg rfl rfl 49 hy10 fun hs hh => stp_fieldAddr (j := 0) Tryz.underlying34 rfl ts26 rfl (sv hs 2 rfl) rfl, lg rfl rfl 49 hy10 fun hs hh => stp_fieldAddr (j := 1) Tryz.underlying26 rfl ts24 rfl (sv hs 50 rfl) rfl, lg rfl rfl 49 hy10 fun hs hh => stp_load1 ts24 (sv hs 51 rfl) (Cells.box (id := 0) (hh.get 0 _ rfl) 1 rfl), lg rfl rfl 49 hy10 fun hs hh => stp_move (sv hs 8 rfl), lg rfl rfl 49 hy10 fun hs hh => stp_indexAddr Tryz.underlying24 ts58 (by decide) (sv hs 52 rfl) rfl (sv hs 53 rfl) (Rdb.ro hr0_1) e11, lg rfl rfl 49 hy10 fun hs hh => stp_fieldAddr (j := 3) Tryz.underlying58 rfl ts3 rfl (sv hs 54 rfl) rfl, lg rfl rfl 49 hy10 fun hs hh => stp_load1 ts3 (sv hs 55 rfl) (Cells.el (Rdb.ro hr0_1) (by decide) e11 3 1 rfl), lg rfl rfl 49 hy10 fun hs hh => stp_fieldAddr (j := 4) Tryz.underlying41 rfl ts3 rfl (sv hs 3 rfl) rfl, lg rfl rfl 49 hy10 fun hs hh => stp_load1 ts3 (sv hs 57 rfl) (Cells.box (id := 1) (hh.get 1 _ rfl) 1 rfl), lg rfl rfl 49 hy10 fun hs hh => stp_eql (sv hs 56 rfl) (sv hs 58 rfl), lc rfl rfl fun hs hh => stp_pick_tB (sv hs 49 rfl) hy10 (sv hs 59 rfl) qy10, lM, lg rfl rfl 61 hy12 fun hs hh => stp_fieldAddr (j := 5) Tryz.underlying41 rfl ts4 rfl (sv hs 3 rfl) rfl, lg rfl rfl 61 hy12 fun hs hh => stp_load1 ts4 (sv hs 62 rfl) (Cells.box (id := 1) (hh.get 1 _ rfl) 1 rfl), lg rfl rfl 61 hy12 fun hs hh => stp_not (sv hs 63 rfl), lg rfl rfl 61 hy12 fun hs hh => stp_move (sv hs 64 rfl), lg rfl rfl 65 hy13 fun hs hh => stp_fieldAddr (j := 1) Tryz.underlying41 rfl ts3 rfl (sv hs 3 rfl) rfl, lg rfl rfl 65 hy13 fun hs hh => stp_load1 ts3 (sv hs 66 rfl) (Cells.box (id := 1) (hh.get 1 _ rfl) 1 rfl), lg rfl rfl 65 hy13 fun hs hh => stp_eql (sv hs 67 rfl) rfl, lg rfl rfl 61 hy12 fun hs hh => stp_pick_fB (sv hs 65 rfl) hy13 (sv hs 68 rfl) qy13, lc rfl rfl fun hs hh => stp_pick_tB (sv hs 61 rfl) hy12 (sv hs 69 rfl) qy12, lS, trivial⟩
      intro g hΦ
      exact kw_join () trivial ⟨rfl, trivial⟩ trivial
     have ey12 := cond_f ey12 hy12
     have qy12 := sI ey12
     refine rdq g_mixed [2, 3, 8] [0, 1] { dst := dS [42, 43, 44, 45, 46, 47, 48, 49, 50, 51, 52, 53, 54, 55, 56, 57, 58, 59, 60, 61, 62, 63, 64, 65, 66, 67, 68, 69, 70, 71, 5], pre := gA [] [[], [0], [0, 1], [0, 1, 2], [0, 1, 2], [0, 1, 2, 4], rn 0 6, rn 0 7, rn 0 8, rn 0 9, rn 0 10, rn 0 11, rn 0 9, rn 0 13, rn 0 14, rn 0 15, rn 0 9, [0, 1, 2, 3, 4, 5, 6, 7, 8, 16], rn 0 18, rn 0 19, rn 0 20, rn 0 21, rn 0 22, rn 0 23, rn 0 24, rn 0 25, rn 0 26, rn 0 27, rn 0 28, rn 0 29, rn 0 30], ids := fun _ => [], rs := rL [[(8, 0)], [(41, 1)], [(42, 2)], [(8, 0), (43, 3)], [(3, 0), (43, 3)], [(45, 5), (43, 3)], [(44, 4), (46, 6), (43, 3)], [(43, 3), (47, 7)], [(48, 8)], [(2, 0), (49, 9)], [(50, 10), (49, 9)], [(51, 11), (49, 9)], [(8, 0), (49, 9)], [(52, 12), (53, 13), (49, 9)], [(54, 14), (49, 9)], [(55, 15), (49, 9)], [(3, 0), (49, 9)], [(57, 17), (49, 9)], [(56, 16), (58, 18), (49, 9)], [(49, 9), (59, 19)], [(60, 20)], [(61, 21)], [(61, 21)], [(61, 21)], [(61, 21)], [(65, 25)], [(65, 25)], [(65, 25)], [(61, 21)], [(61, 21), (69, 29)], [(70, 30)]], rh := rL [[], [], [], [], [], [(1, 0)], [], [], [], [], [], [(0, 0)], [], [], [], [], [], [(1, 0)]], V := fun i g => gA undef [.int .i64 x8.1, .bool (decide (0 ≤ x8.1)), .bool (decide (0 ≤ x8.1)), .int .i64 x8.1, .pointer (some ⟨b2, 3, none⟩), .int .i64 a1.fr, .bool (x8.1 == a1.fr), .bool y9, .bool y9, .pointer (some ⟨b1, 0, none⟩), .pointer (some ⟨b1, 1, none⟩), .slice p0_1 ((a0.t.f).length) c0_1, .int .i64 x8.1, .pointer (some ⟨eB p0_1, eO p0_1 + Int.toNat x8.1 * Enc.sz F + 0, none⟩), .pointer (some ⟨eB p0_1, eO p0_1 + Int.toNat x8.1 * Enc.sz F + 3, none⟩), .int .i64 x11.r, .pointer (some ⟨b2, 4, none⟩), .int .i64 a1.ri, .bool (x11.r == a1.ri), .bool y10, .bool y10, undef, undef, undef, undef, undef, undef, undef, undef, .bool y12, .bool y12] i, U := fun _ _ => [], Φ := fun _ _ => True } ?_ ?_
     ·exact ⟨lM, lc rfl rfl fun hs hh => stp_geq (sv hs 41 rfl) rfl, lM, lg rfl rfl 43 hy9 fun hs hh => stp_move (sv hs 8 rfl), lg rfl rfl 43 hy9 fun hs hh => stp_fieldAddr (j := 3) Tryz.underlying41 rfl ts3 rfl (sv hs 3 rfl) rfl, lg rfl rfl 43 hy9 fun hs hh => stp_load1 ts3 (sv hs 45 rfl) (Cells.box (id := 1) (hh.get 1 _ rfl) 1 rfl), lg rfl rfl 43 hy9 fun hs hh => stp_eql (sv hs 44 rfl) (sv hs 46 rfl), lc rfl rfl fun hs hh => stp_pick_tB (sv hs 43 rfl) hy9 (sv hs 47 rfl) qy9, lM, lg rfl rfl 49 hy10 fun hs hh => stp_fieldAddr (j := 0) Tryz.underlying34 rfl ts26 rfl (sv hs 2 rfl) rfl, lg rfl rfl 49 hy10 fun hs hh => stp_fieldAddr (j := 1) Tryz.underlying26 rfl ts24 rfl (sv hs 50 rfl) rfl, lg rfl rfl 49 hy10 fun hs hh => stp_load1 ts24 (sv hs 51 rfl) (Cells.box (id := 0) (hh.get 0 _ rfl) 1 rfl), lg rfl rfl 49 hy10 fun hs hh => stp_move (sv hs 8 rfl), lg rfl rfl 49 hy10 fun hs hh => stp_indexAddr Tryz.underlying24 ts58 (by decide) (sv hs 52 rfl) rfl (sv hs 53 rfl) (Rdb.ro hr0_1) e11, lg rfl rfl 49 hy10 fun hs hh => stp_fieldAddr (j := 3) Tryz.underlying58 rfl ts3 rfl (sv hs 54 rfl) rfl, lg rfl rfl 49 hy10 fun hs hh => stp_load1 ts3 (sv hs 55 rfl) (Cells.el (Rdb.ro hr0_1) (by decide) e11 3 1 rfl), lg rfl rfl 49 hy10 fun hs hh => stp_fieldAddr (j := 4) Tryz.underlying41 rfl ts3 rfl (sv hs 3 rfl) rfl, lg rfl rfl 49 hy10 fun hs hh => stp_load1 ts3 (sv hs 57 rfl) (Cells.box (id := 1) (hh.get 1 _ rfl) 1 rfl), lg rfl rfl 49 hy10 fun hs hh => stp_eql (sv hs 56 rfl) (sv hs 58 rfl), lc rfl rfl fun hs hh => stp_pick_tB (sv hs 49 rfl) hy10 (sv hs 59 rfl) qy10, lM, lo rfl rfl 61 hy12, lo rfl rfl 61 hy12, lo rfl rfl 61 hy12, lo rfl rfl 61 hy12, lx rfl rfl 65, lx rfl rfl 65, lx rfl rfl 65, lo rfl rfl 61 hy12, lc rfl rfl fun hs hh => stp_pick_fB (sv hs 61 rfl) hy12 rfl qy12, lS, trivial⟩
     intro g hΦ
     exact kw_join () trivial ⟨rfl, trivial⟩ trivial
    have ey10 := cond_f ey10 hy10
    have qy10 := sI ey10
    have hy12 : y10 = false := by rw [← qy10]
    have ey12 := cond_f ey12 hy12
    have qy12 := sI ey12
    refine rdq g_mixed [3, 8] [1] { dst := dS [42, 43, 44, 45, 46, 47, 48, 49, 50, 51, 52, 53, 54, 55, 56, 57, 58, 59, 60, 61, 62, 63, 64, 65, 66, 67, 68, 69, 70, 71, 5], pre := gA [] [[], [0], [0, 1], [0, 1, 2], [0, 1, 2], [0, 1, 2, 4], rn 0 6, rn 0 7, rn 0 8, rn 0 9, rn 0 10, rn 0 11, rn 0 9, rn 0 13, rn 0 14, rn 0 15, rn 0 9, [0, 1, 2, 3, 4, 5, 6, 7, 8, 16], rn 0 18, rn 0 19, rn 0 20, rn 0 21, rn 0 22, rn 0 23, rn 0 24, rn 0 25, rn 0 26, rn 0 27, rn 0 28, rn 0 29, rn 0 30], ids := fun _ => [], rs := rL [[(8, 0)], [(41, 1)], [(42, 2)], [(8, 0), (43, 3)], [(3, 0), (43, 3)], [(45, 5), (43, 3)], [(44, 4), (46, 6), (43, 3)], [(43, 3), (47, 7)], [(48, 8)], [(49, 9)], [(49, 9)], [(49, 9)], [(49, 9)], [(49, 9)], [(49, 9)], [(49, 9)], [(49, 9)], [(49, 9)], [(49, 9)], [(49, 9), (59, 19)], [(60, 20)], [(61, 21)], [(61, 21)], [(61, 21)], [(61, 21)], [(65, 25)], [(65, 25)], [(65, 25)], [(61, 21)], [(61, 21), (69, 29)], [(70, 30)]], rh := rL [[], [], [], [], [], [(1, 0)]], V := fun i g => gA undef [.int .i64 x8.1, .bool (decide (0 ≤ x8.1)), .bool (decide (0 ≤ x8.1)), .int .i64 x8.1, .pointer (some ⟨b2, 3, none⟩), .int .i64 a1.fr, .bool (x8.1 == a1.fr), .bool y9, .bool y9, undef, undef, undef, undef, undef, undef, undef, undef, undef, undef, .bool y10, .bool y10, undef, undef, undef, undef, undef, undef, undef, undef, .bool y12, .bool y12] i, U := fun _ _ => [], Φ := fun _ _ => True } ?_ ?_
    ·exact ⟨lM, lc rfl rfl fun hs hh => stp_geq (sv hs 41 rfl) rfl, lM, lg rfl rfl 43 hy9 fun hs hh => stp_move (sv hs 8 rfl), lg rfl rfl 43 hy9 fun hs hh => stp_fieldAddr (j := 3) Tryz.underlying41 rfl ts3 rfl (sv hs 3 rfl) rfl, lg rfl rfl 43 hy9 fun hs hh => stp_load1 ts3 (sv hs 45 rfl) (Cells.box (id := 1) (hh.get 1 _ rfl) 1 rfl), lg rfl rfl 43 hy9 fun hs hh => stp_eql (sv hs 44 rfl) (sv hs 46 rfl), lc rfl rfl fun hs hh => stp_pick_tB (sv hs 43 rfl) hy9 (sv hs 47 rfl) qy9, lM, lo rfl rfl 49 hy10, lo rfl rfl 49 hy10, lo rfl rfl 49 hy10, lo rfl rfl 49 hy10, lo rfl rfl 49 hy10, lo rfl rfl 49 hy10, lo rfl rfl 49 hy10, lo rfl rfl 49 hy10, lo rfl rfl 49 hy10, lo rfl rfl 49 hy10, lc rfl rfl fun hs hh => stp_pick_fB (sv hs 49 rfl) hy10 rfl qy10, lM, lo rfl rfl 61 hy12, lo rfl rfl 61 hy12, lo rfl rfl 61 hy12, lo rfl rfl 61 hy12, lx rfl rfl 65, lx rfl rfl 65, lx rfl rfl 65, lo rfl rfl 61 hy12, lc rfl rfl fun hs hh => stp_pick_fB (sv hs 61 rfl) hy12 rfl qy12, lS, trivial⟩
    intro g hΦ
    exact kw_join () trivial ⟨rfl, trivial⟩ trivial
   have ey9 := cond_f ey9 hy9
   have qy9 := sI ey9
   have hy10 : y9 = false := by rw [← qy9]
   have ey10 := cond_f ey10 hy10
   have qy10 := sI ey10
   have hy12 : y10 = false := by rw [← qy10]
   have ey12 := cond_f ey12 hy12
   have qy12 := sI ey12
   refine rdq g_mixed [8] [] { dst := dS [42, 43, 44, 45, 46, 47, 48, 49, 50, 51, 52, 53, 54, 55, 56, 57, 58, 59, 60, 61, 62, 63, 64, 65, 66, 67, 68, 69, 70, 71, 5], pre := gA [] [[], [0], [0, 1], [0, 1, 2], [0, 1, 2], [0, 1, 2, 4], rn 0 6, rn 0 7, rn 0 8, rn 0 9, rn 0 10, rn 0 11, rn 0 9, rn 0 13, rn 0 14, rn 0 15, rn 0 9, [0, 1, 2, 3, 4, 5, 6, 7, 8, 16], rn 0 18, rn 0 19, rn 0 20, rn 0 21, rn 0 22, rn 0 23, rn 0 24, rn 0 25, rn 0 26, rn 0 27, rn 0 28, rn 0 29, rn 0 30], ids := fun _ => [], rs := rL [[(8, 0)], [(41, 1)], [(42, 2)], [(43, 3)], [(43, 3)], [(43, 3)], [(43, 3)], [(43, 3), (47, 7)], [(48, 8)], [(49, 9)], [(49, 9)], [(49, 9)], [(49, 9)], [(49, 9)], [(49, 9)], [(49, 9)], [(49, 9)], [(49, 9)], [(49, 9)], [(49, 9), (59, 19)], [(60, 20)], [(61, 21)], [(61, 21)], [(61, 21)], [(61, 21)], [(65, 25)], [(65, 25)], [(65, 25)], [(61, 21)], [(61, 21), (69, 29)], [(70, 30)]], rh := fun _ => [], V := fun i g => gA undef [.int .i64 x8.1, .bool (decide (0 ≤ x8.1)), .bool (decide (0 ≤ x8.1)), undef, undef, undef, undef, .bool y9, .bool y9, undef, undef, undef, undef, undef, undef, undef, undef, undef, undef, .bool y10, .bool y10, undef, undef, undef, undef, undef, undef, undef, undef, .bool y12, .bool y12] i, U := fun _ _ => [], Φ := fun _ _ => True } ?_ ?_
   ·exact ⟨lM, lc rfl rfl fun hs hh => stp_geq (sv hs 41 rfl) rfl, lM, lo rfl rfl 43 hy9, lo rfl rfl 43 hy9, lo rfl rfl 43 hy9, lo rfl rfl 43 hy9, lc rfl rfl fun hs hh => stp_pick_fB (sv hs 43 rfl) hy9 rfl qy9, lM, lo rfl rfl 49 hy10, lo rfl rfl 49 hy10, lo rfl rfl 49 hy10, lo rfl rfl 49 hy10, lo rfl rfl 49 hy10, lo rfl rfl 49 hy10, lo rfl rfl 49 hy10, lo rfl rfl 49 hy10, lo rfl rfl 49 hy10, lo rfl rfl 49 hy10, lc rfl rfl fun hs hh => stp_pick_fB (sv hs 49 rfl) hy10 rfl qy10, lM, lo rfl rfl 61 hy12, lo rfl rfl 61 hy12, lo rfl rfl 61 hy12, lo rfl rfl 61 hy12, lx rfl rfl 65, lx rfl rfl 65, lx rfl rfl 65, lo rfl rfl 61 hy12, lc rfl rfl fun hs hh => stp_pick_fB (sv hs 61 rfl) hy12 rfl qy12, lS, trivial⟩
   intro g hΦ
   exact kw_join () trivial ⟨rfl, trivial⟩ trivial
  rintro _ -
  dsimp only
  refine kw_nx (cw_ret ?_)
  obtain rfl := sI H0
  exact kr Tryz.results107 (rT rfl) [] ⟨rfl, rfl⟩
 have H0 := cond_f H0 h4
 obtain ⟨x14, e14, H0⟩ := bS H0
 obtain ⟨x15, e15, H0⟩ := bS H0
 refine cw_skip (kw_nx (cw_seq (rdq g_mixed [2, 3, 5] [0, 1] { dst := dS [33, 34, 35, 36, 37, 38, 39, 32, 40, 41, 9, 10], pre := gA [] [[], [0], [], [], [3], [2, 3, 4], rn 0 6, rn 0 7, rn 0 8, rn 0 8, rn 0 9, rn 0 11], ids := fun _ => [], rs := rL [[(2, 0)], [(32, 1)], [(5, 0)], [(3, 0)], [(35, 4)], [(34, 3), (36, 5)], [(33, 2), (37, 6)], [(38, 7)], [(31, 8)], [(31, 8)], [(39, 9)], [(40, 10)]], rh := rL [[], [(0, 0)], [], [], [(1, 0)]], V := fun i g => gA undef [.pointer (some ⟨b1, 0, none⟩), .agg #[.slice p0_0 ((a0.t.b).length) c0_0, .slice p0_1 ((a0.t.f).length) c0_1], .int .i64 0, .pointer (some ⟨b2, 2, none⟩), .int .i64 a1.pg, .agg #[.int .i64 x14.s, .int .i64 x14.p], .tuple #[.int .i64 x15.1, .int .i64 x15.2], .tuple #[.int .i64 x15.1, .int .i64 x15.2], .int .i64 x15.1, .int .i64 x15.2, .int .i64 x15.1, .int .i64 x15.2] i, U := fun _ _ => [], Φ := fun _ _ => True } ?_ ?_)))
 ·refine ⟨lc rfl rfl fun hs hh => stp_fieldAddr (j := 0) Tryz.underlying34 rfl ts26 rfl (sv hs 2 rfl) rfl, lc rfl rfl fun hs hh => stp_loadN (us := [_, _]) ts26 (sv hs 32 rfl) (Cells.box (id := 0) (hh.get 0 _ rfl) 2 rfl), lM, lc rfl rfl fun hs hh => stp_fieldAddr (j := 2) Tryz.underlying41 rfl ts3 rfl (sv hs 3 rfl) rfl, lc rfl rfl fun hs hh => stp_load1 ts3 (sv hs 35 rfl) (Cells.box (id := 1) (hh.get 1 _ rfl) 1 rfl), ?_, ?_, lM, lT, lT, lS, lS, trivial⟩
  ·refine le rfl rfl (fun g hΦ s h hs hh => (stpU_call (fun i => 2 + i) cf65 (fun w hw => c_s_KeyFor fl w 0 a1.pg x14 e14) (yB (sv hs 34 rfl) (sv hs 36 rfl)))) ?_
   rintro g _ _ ⟨_, ⟨rfl, rfl⟩, rfl⟩
   exact ⟨⟨[], [], []⟩, trivial, .inr rfl, rfl⟩
  refine le rfl rfl (fun g hΦ s h hs hh => (stpU_call (fun i => 2 + i) cf88 (fun w hw => c_s_l3Find fl w a0.t x14 rfl (RO.pass hr0_0 hw) rfl (RO.pass hr0_1 hw) x15 e15) (yB (sv hs 33 rfl) (sv hs 37 rfl)))) ?_
  rintro g _ _ ⟨_, ⟨rfl, rfl⟩, rfl⟩
  exact ⟨⟨[], [], []⟩, trivial, .inr rfl, rfl⟩
 intro g hΦ
 refine KW.sub (s' := [(2, .pointer (some ⟨b1, 0, none⟩)), (3, .pointer (some ⟨b2, 0, none⟩)), (8, .int .i64 x15.1)]) (h' := [(0, [(b1, .cells #[.slice p0_0 ((a0.t.b).length) c0_0, .slice p0_1 ((a0.t.f).length) c0_1, .slice p0_2 ((a0.c.l).length) c0_2, .int .i64 a0.c.h, .int .i64 a0.g.c, .int .i64 a0.g.n, .int .i64 a0.g.r, .slice p0_3 ((a0.g.o).length) c0_3, .int .i64 a0.s] 34 (0, 0))]), (1, [(b2, .cells #[.bool a1.va, .int .i64 a1.tg, .int .i64 a1.pg, .int .i64 a1.fr, .int .i64 a1.ri, .bool a1.wi] 41 (0, 0))])]) ?_ ⟨rfl, rfl, rfl, trivial⟩ ⟨rfl, rfl, trivial⟩
 obtain ⟨y16, ey16, H0⟩ := bS H0
 obtain ⟨y17, ey17, H0⟩ := bS H0
 obtain ⟨y19, ey19, H0⟩ := bS H0
 refine kw_nx (cw_seq (cw_join (ι := Unit) (fun | _ => True) (fun | _ => [(4, .bool y19)]) (fun | _ => []) ?_ ?_))
 ·rcases Bool.eq_false_or_eq_true (decide (0 ≤ x15.1)) with hy16 | hy16
  ·have ey16 := cond_t ey16 hy16
   have qy16 := sI ey16
   rcases Bool.eq_false_or_eq_true y16 with hy17 | hy17
   ·have ey17 := cond_t ey17 hy17
    obtain ⟨x18, e18, ey17⟩ := bS ey17
    have qy17 := sI ey17
    rcases Bool.eq_false_or_eq_true y17 with hy19 | hy19
    ·have ey19 := cond_t ey19 hy19
     obtain ⟨y20, ey20, ey19⟩ := bS ey19
     rcases Bool.eq_false_or_eq_true (!a1.wi) with hy20 | hy20
     ·have ey20 := cond_t ey20 hy20
      have qy20 := sI ey20
      have qy19 := sI ey19
      refine rdq g_mixed [2, 3, 8] [0, 1] { dst := dS [42, 43, 44, 45, 46, 47, 48, 49, 50, 51, 52, 53, 54, 55, 56, 57, 58, 59, 60, 61, 62, 63, 64, 65, 66, 67, 68, 69, 70, 71, 5], pre := gA [] [[], [0], [0, 1], [0, 1, 2], [0, 1, 2], [0, 1, 2, 4], rn 0 6, rn 0 7, rn 0 8, rn 0 9, rn 0 10, rn 0 11, rn 0 9, rn 0 13, rn 0 14, rn 0 15, rn 0 9, [0, 1, 2, 3, 4, 5, 6, 7, 8, 16], rn 0 18, rn 0 19, rn 0 20, rn 0 21, rn 0 22, rn 0 23, rn 0 24, rn 0 25, rn 0 26, rn 0 27, rn 0 28, rn 0 29, rn 0 30], ids := fun _ => [], rs := rL [[(8, 0)], [(41, 1)], [(42, 2)], [(8, 0), (43, 3)], [(3, 0), (43, 3)], [(45, 5), (43, 3)], [(44, 4), (46, 6), (43, 3)], [(43, 3), (47, 7)], [(48, 8)], [(2, 0), (49, 9)], [(50, 10), (49, 9)], [(51, 11), (49, 9)], [(8, 0), (49, 9)], [(52, 12), (53, 13), (49, 9)], [(54, 14), (49, 9)], [(55, 15), (49, 9)], [(3, 0), (49, 9)], [(57, 17), (49, 9)], [(56, 16), (58, 18), (49, 9)], [(49, 9), (59, 19)], [(60, 20)], [(3, 0), (61, 21)], [(62, 22), (61, 21)], [(63, 23), (61, 21)], [(64, 24), (61, 21)], [(65, 25)], [(65, 25)], [(65, 25)], [(65, 25), (68, 28), (61, 21)], [(61, 21), (69, 29)], [(70, 30)]], rh := rL [[], [], [], [], [], [(1, 0)], [], [], [], [], [], [(0, 0)], [], [], [], [], [], [(1, 0)], [], [], [], [], [(1, 0)]], V := fun i g => gA undef [.int .i64 x15.1, .bool (decide (0 ≤ x15.1)), .bool (decide (0 ≤ x15.1)), .int .i64 x15.1, .pointer (some ⟨b2, 3, none⟩), .int .i64 a1.fr, .bool (x15.1 == a1.fr), .bool y16, .bool y16, .pointer (some ⟨b1, 0, none⟩), .pointer (some ⟨b1, 1, none⟩), .slice p0_1 ((a0.t.f).length) c0_1, .int .i64 x15.1, .pointer (some ⟨eB p0_1, eO p0_1 + Int.toNat x15.1 * Enc.sz F + 0, none⟩), .pointer (some ⟨eB p0_1, eO p0_1 + Int.toNat x15.1 * Enc.sz F + 3, none⟩), .int .i64 x18.r, .pointer (some ⟨b2, 4, none⟩), .int .i64 a1.ri, .bool (x18.r == a1.ri), .bool y17, .bool y17, .pointer (some ⟨b2, 5, none⟩), .bool a1.wi, .bool (!a1.wi), .bool (!a1.wi), undef, undef, undef, .bool y20, .bool y19, .bool y19] i, U := fun _ _ => [], Φ := fun _ _ => True } ?_ ?_
      ·exact ⟨lM, lc rfl rfl fun hs hh => stp_geq (sv hs 41 rfl) rfl, lM, lg rfl rfl 43 hy16 fun hs hh => stp_move (sv hs 8 rfl), lg rfl rfl 43 hy16 fun hs hh => stp_fieldAddr (j := 3) Tryz.underlying41 rfl ts3 rfl (sv hs 3 rfl) rfl, lg rfl rfl 43 hy16 fun hs hh => stp_load1 ts3 (sv hs 45 rfl) (Cells.box (id := 1) (hh.get 1 _ rfl) 1 rfl), lg rfl rfl 43 hy16 fun hs hh => stp_eql (sv hs 44 rfl) (sv hs 46 rfl), lc rfl rfl fun hs hh => stp_pick_tB (sv hs 43 rfl) hy16 (sv hs 47 rfl) qy16, lM, lg rfl rfl 49 hy17 fun hs hh => stp_fieldAddr (j := 0) Tryz.underlying34 rfl ts26 rfl (sv hs 2 rfl) rfl, lg rfl rfl 49 hy17 fun hs hh => stp_fieldAddr (j := 1) Tryz.underlying26 rfl ts24 rfl (sv hs 50 rfl) rfl, lg rfl rfl 49 hy17 fun hs hh => stp_load1 ts24 (sv hs 51 rfl) (Cells.box (id := 0) (hh.get 0 _ rfl) 1 rfl), lg rfl rfl 49 hy17 fun hs hh => stp_move (sv hs 8 rfl), lg rfl rfl 49 hy17 fun hs hh => stp_indexAddr Tryz.underlying24 ts58 (by decide) (sv hs 52 rfl) rfl (sv hs 53 rfl) (Rdb.ro hr0_1) e18, lg rfl rfl 49 hy17 fun hs hh => stp_fieldAddr (j := 3) Tryz.underlying58 rfl ts3 rfl (sv hs 54 rfl) rfl, lg rfl rfl 49 hy17 fun hs hh => stp_load1 ts3 (sv hs 55 rfl) (Cells.el (Rdb.ro hr0_1) (by decide) e18 3 1 rfl), lg rfl rfl 49 hy17 fun hs hh => stp_fieldAddr (j := 4) Tryz.underlying41 rfl ts3 rfl (sv hs 3 rfl) rfl, lg rfl rfl 49 hy17 fun hs hh => stp_load1 ts3 (sv hs 57 rfl) (Cells.box (id := 1) (hh.get 1 _ rfl) 1 rfl), lg rfl rfl 49 hy17 fun hs hh => stp_eql (sv hs 56 rfl) (sv hs 58 rfl), lc rfl rfl fun hs hh => stp_pick_tB (sv hs 49 rfl) hy17 (sv hs 59 rfl) qy17, lM, lg rfl rfl 61 hy19 fun hs hh => stp_fieldAddr (j := 5) Tryz.underlying41 rfl ts4 rfl (sv hs 3 rfl) rfl, lg rfl rfl 61 hy19 fun hs hh => stp_load1 ts4 (sv hs 62 rfl) (Cells.box (id := 1) (hh.get 1 _ rfl) 1 rfl), lg rfl rfl 61 hy19 fun hs hh => stp_not (sv hs 63 rfl), lg rfl rfl 61 hy19 fun hs hh => stp_move (sv hs 64 rfl), lo rfl rfl 65 hy20, lo rfl rfl 65 hy20, lo rfl rfl 65 hy20, lg rfl rfl 61 hy19 fun hs hh => stp_pick_tB (sv hs 65 rfl) hy20 rfl qy20, lc rfl rfl fun hs hh => stp_pick_tB (sv hs 61 rfl) hy19 (sv hs 69 rfl) qy19, lS, trivial⟩
      intro g hΦ
      exact kw_join () trivial ⟨rfl, trivial⟩ trivial
     have ey20 := cond_f ey20 hy20
     have qy20 := sI ey20
     have qy19 := sI ey19
     refine rdq g_mixed [2, 3, 8] [0, 1] { dst := dS [42, 43, 44, 45, 46, 47, 48, 49, 50, 51, 52, 53, 54, 55, 56, 57, 58, 59, 60, 61, 62, 63, 64, 65, 66, 67, 68, 69, 70, 71, 5], pre := gA [] [[], [0], [0, 1], [0, 1, 2], [0, 1, 2], [0, 1, 2, 4], rn 0 6, rn 0 7, rn 0 8, rn 0 9, rn 0 10, rn 0 11, rn 0 9, rn 0 13, rn 0 14, rn 0 15, rn 0 9, [0, 1, 2, 3, 4, 5, 6, 7, 8, 16], rn 0 18, rn 0 19, rn 0 20, rn 0 21, rn 0 22, rn 0 23, rn 0 24, rn 0 25, rn 0 26, rn 0 27, rn 0 28, rn 0 29, rn 0 30], ids := fun _ => [], rs := rL [[(8, 0)], [(41, 1)], [(42, 2)], [(8, 0), (43, 3)], [(3, 0), (43, 3)], [(45, 5), (43, 3)], [(44, 4), (46, 6), (43, 3)], [(43, 3), (47, 7)], [(48, 8)], [(2, 0), (49, 9)], [(50, 10), (49, 9)], [(51, 11), (49, 9)], [(8, 0), (49, 9)], [(52, 12), (53, 13), (49, 9)], [(54, 14), (49, 9)], [(55, 15), (49, 9)], [(3, 0), (49, 9)], [(57, 17), (49, 9)], [(56, 16), (58, 18), (49, 9)], [(49, 9), (59, 19)], [(60, 20)], [(3, 0), (61, 21)], [(62, 22), (61, 21)], [(63, 23), (61, 21)], [(64, 24), (61, 21)], [(3, 0), (65, 25)], [(66, 26), (65, 25)], [(67, 27), (65, 25)], [(65, 25), (68, 28), (61, 21)], [(61, 21), (69, 29)], [(70, 30)]], rh := rL [[], [], [], [], [], [(1, 0)], [], [], [], [], [], [(0, 0)], [], [], [], [], [], [(1, 0)], [], [], [], [], [(1, 0)], [], [], [], [(1, 0)]], V := fun i g => gA undef [.int .i64 x15.1, .bool (decide (0 ≤ x15.1)), .bool (decide (0 ≤ x15.1)), .int .i64 x15.1, .pointer (some ⟨b2, 3, none⟩), .int .i64 a1.fr, .bool (x15.1 == a1.fr), .bool y16, .bool y16, .pointer (some ⟨b1, 0, none⟩), .pointer (some ⟨b1, 1, none⟩), .slice p0_1 ((a0.t.f).length) c0_1, .int .i64 x15.1, .pointer (some ⟨eB p0_1, eO p0_1 + Int.toNat x15.1 * Enc.sz F + 0, none⟩), .pointer (some ⟨eB p0_1, eO p0_1 + Int.toNat x15.1 * Enc.sz F + 3, none⟩), .int .i64 x18.r, .pointer (some ⟨b2, 4, none⟩), .int .i64 a1.ri, .bool (x18.r == a1.ri), .bool y17, .bool y17, .pointer (some ⟨b2, 5, none⟩), .bool a1.wi, .bool (!a1.wi), .bool (!a1.wi), .pointer (some ⟨b2, 1, none⟩), .int .i64 a1.tg, .bool (a1.tg == (-1)), .bool y20, .bool y19, .bool y19] i, U := fun _ _ => [], Φ := fun _ _ => True } ?_ ?_
     ·exact ⟨lM, lc rfl rfl fun hs hh => stp_geq (sv hs 41 rfl) rfl, lM, lg rfl rfl 43 hy16 fun hs hh => stp_move (sv hs 8 rfl), lg rfl rfl 43 hy16 fun hs hh => stp_fieldAddr (j := 3) Tryz.underlying41 rfl ts3 rfl (sv hs 3 rfl) rfl, lg rfl rfl 43 hy16 fun hs hh => stp_load1 ts3 (sv hs 45 rfl) (Cells.box (id := 1) (hh.get 1 _ rfl) 1 rfl), lg rfl rfl 43 hy16 fun hs hh => stp_eql (sv hs 44 rfl) (sv hs 46 rfl), lc rfl rfl fun hs hh => stp_pick_tB (sv hs 43 rfl) hy16 (sv hs 47 rfl) qy16, lM, lg rfl rfl 49 hy17 fun hs hh => stp_fieldAddr (j := 0) Tryz.underlying34 rfl ts26 rfl (sv hs 2 rfl) rfl, lg rfl rfl 49 hy17 fun hs hh => stp_fieldAddr (j := 1) Tryz.underlying26 rfl ts24 rfl (sv hs 50 rfl) rfl, lg rfl rfl 49 hy17 fun hs hh => stp_load1 ts24 (sv hs 51 rfl) (Cells.box (id := 0) (hh.get 0 _ rfl) 1 rfl), lg rfl rfl 49 hy17 fun hs hh => stp_move (sv hs 8 rfl), lg rfl rfl 49 hy17 fun hs hh => stp_indexAddr Tryz.underlying24 ts58 (by decide) (sv hs 52 rfl) rfl (sv hs 53 rfl) (Rdb.ro hr0_1) e18, lg rfl rfl 49 hy17 fun hs hh => stp_fieldAddr (j := 3) Tryz.underlying58 rfl ts3 rfl (sv hs 54 rfl) rfl, lg rfl rfl 49 hy17 fun hs hh => stp_load1 ts3 (sv hs 55 rfl) (Cells.el (Rdb.ro hr0_1) (by decide) e18 3 1 rfl), lg rfl rfl 49 hy17 fun hs hh => stp_fieldAddr (j := 4) Tryz.underlying41 rfl ts3 rfl (sv hs 3 rfl) rfl, lg rfl rfl 49 hy17 fun hs hh => stp_load1 ts3 (sv hs 57 rfl) (Cells.box (id := 1) (hh.get 1 _ rfl) 1 rfl), lg rfl rfl 49 hy17 fun hs hh => stp_eql (sv hs 56 rfl) (sv hs 58 rfl), lc rfl rfl fun hs hh => stp_pick_tB (sv hs 49 rfl) hy17 (sv hs 59 rfl) qy17, lM, lg rfl rfl 61 hy19 fun hs hh => stp_fieldAddr (j := 5) Tryz.underlying41 rfl ts4 rfl (sv hs 3 rfl) rfl, lg rfl rfl 61 hy19 fun hs hh => stp_load1 ts4 (sv hs 62 rfl) (Cells.box (id := 1) (hh.get 1 _ rfl) 1 rfl), lg rfl rfl 61 hy19 fun hs hh => stp_not (sv hs 63 rfl), lg rfl rfl 61 hy19 fun hs hh => stp_move (sv hs 64 rfl), lg rfl rfl 65 hy20 fun hs hh => stp_fieldAddr (j := 1) Tryz.underlying41 rfl ts3 rfl (sv hs 3 rfl) rfl, lg rfl rfl 65 hy20 fun hs hh => stp_load1 ts3 (sv hs 66 rfl) (Cells.box (id := 1) (hh.get 1 _ rfl) 1 rfl), lg rfl rfl 65 hy20 fun hs hh => stp_eql (sv hs 67 rfl) rfl, lg rfl rfl 61 hy19 fun hs hh => stp_pick_fB (sv hs 65 rfl) hy20 (sv hs 68 rfl) qy20, lc rfl rfl fun hs hh => stp_pick_tB (sv hs 61 rfl) hy19 (sv hs 69 rfl) qy19, lS, trivial⟩
     intro g hΦ
     exact kw_join () trivial ⟨rfl, trivial⟩ trivial
    have ey19 := cond_f ey19 hy19
    have qy19 := sI ey19
    refine rdq g_mixed [2, 3, 8] [0, 1] { dst := dS [42, 43, 44, 45, 46, 47, 48, 49, 50, 51, 52, 53, 54, 55, 56, 57, 58, 59, 60, 61, 62, 63, 64, 65, 66, 67, 68, 69, 70, 71, 5], pre := gA [] [[], [0], [0, 1], [0, 1, 2], [0, 1, 2], [0, 1, 2, 4], rn 0 6, rn 0 7, rn 0 8, rn 0 9, rn 0 10, rn 0 11, rn 0 9, rn 0 13, rn 0 14, rn 0 15, rn 0 9, [0, 1, 2, 3, 4, 5, 6, 7, 8, 16], rn 0 18, rn 0 19, rn 0 20, rn 0 21, rn 0 22, rn 0 23, rn 0 24, rn 0 25, rn 0 26, rn 0 27, rn 0 28, rn 0 29, rn 0 30], ids := fun _ => [], rs := rL [[(8, 0)], [(41, 1)], [(42, 2)], [(8, 0), (43, 3)], [(3, 0), (43, 3)], [(45, 5), (43, 3)], [(44, 4), (46, 6), (43, 3)], [(43, 3), (47, 7)], [(48, 8)], [(2, 0), (49, 9)], [(50, 10), (49, 9)], [(51, 11), (49, 9)], [(8, 0), (49, 9)], [(52, 12), (53, 13), (49, 9)], [(54, 14), (49, 9)], [(55, 15), (49, 9)], [(3, 0), (49, 9)], [(57, 17), (49, 9)], [(56, 16), (58, 18), (49, 9)], [(49, 9), (59, 19)], [(60, 20)], [(61, 21)], [(61, 21)], [(61, 21)], [(61, 21)], [(65, 25)], [(65, 25)], [(65, 25)], [(61, 21)], [(61, 21), (69, 29)], [(70, 30)]], rh := rL [[], [], [], [], [], [(1, 0)], [], [], [], [], [], [(0, 0)], [], [], [], [], [], [(1, 0)]], V := fun i g => gA undef [.int .i64 x15.1, .bool (decide (0 ≤ x15.1)), .bool (decide (0 ≤ x15.1)), .int .i64 x15.1, .pointer (some ⟨b2, 3, none⟩), .int .i64 a1.fr, .bool (x15.1 == a1.fr), .bool y16, .bool y16, .pointer (some ⟨b1, 0, none⟩), .pointer (some ⟨b1, 1, none⟩), .slice p0_1 ((a0.t.f).length) c0_1, .int .i64 x15.1, .pointer (some ⟨eB p0_1, eO p0_1 + Int.toNat x15.1 * Enc.sz F + 0, none⟩), .pointer (some ⟨eB p0_1, eO p0_1 + Int.toNat x15.1 * Enc.sz F + 3, none⟩), .int .i64 x18.r, .pointer (some ⟨b2, 4, none⟩), .int .i64 a1.ri, .bool (x18.r == a1.ri), .bool y17, .bool y17, undef, undef, undef, undef, undef, undef, undef, undef, .bool y19, .bool y19] i, U := fun _ _ => [], Φ := fun _ _ => True } ?_ ?_
    ·exact ⟨lM, lc rfl rfl fun hs hh => stp_geq (sv hs 41 rfl) rfl, lM, lg rfl rfl 43 hy16 fun hs hh => stp_move (sv hs 8 rfl), lg rfl rfl 43 hy16 fun hs hh => stp_fieldAddr (j := 3) Tryz.underlying41 rfl ts3 rfl (sv hs 3 rfl) rfl, lg rfl rfl 43 hy16 fun hs hh => stp_load1 ts3 (sv hs 45 rfl) (Cells.box (id := 1) (hh.get 1 _ rfl) 1 rfl), lg rfl rfl 43 hy16 fun hs hh => stp_eql (sv hs 44 rfl) (sv hs 46 rfl), lc rfl rfl fun hs hh => stp_pick_tB (sv hs 43 rfl) hy16 (sv hs 47 rfl) qy16, lM, lg rfl rfl 49 hy17 fun hs hh => stp_fieldAddr (j := 0) Tryz.underlying34 rfl ts26 rfl (sv hs 2 rfl) rfl, lg rfl rfl 49 hy17 fun hs hh => stp_fieldAddr (j := 1) Tryz.underlying26 rfl ts24 rfl (sv hs 50 rfl) rfl, lg rfl rfl 49 hy17 fun hs hh => stp_load1 ts24 (sv hs 51 rfl) (Cells.box (id := 0) (hh.get 0 _ rfl) 1 rfl), lg rfl rfl 49 hy17 fun hs hh => stp_move (sv hs 8 rfl), lg rfl rfl 49 hy17 fun hs hh => stp_indexAddr Tryz.underlying24 ts58 (by decide) (sv hs 52 rfl) rfl (sv hs 53 rfl) (Rdb.ro hr0_1) e18, lg rfl rfl 49 hy17 fun hs hh => stp_fieldAddr (j := 3) Tryz.underlying58 rfl ts3 rfl (sv hs 54 rfl) rfl, lg rfl rfl 49 hy17 fun hs hh => stp_load1 ts3 (sv hs 55 rfl) (Cells.el (Rdb.ro hr0_1) (by decide) e18 3 1 rfl), lg rfl rfl 49 hy17 fun hs hh => stp_fieldAddr (j := 4) Tryz.underlying41 rfl ts3 rfl (sv hs 3 rfl) rfl, lg rfl rfl 49 hy17 fun hs hh => stp_load1 ts3 (sv hs 57 rfl) (Cells.box (id := 1) (hh.get 1 _ rfl) 1 rfl), lg rfl rfl 49 hy17 fun hs hh => stp_eql (sv hs 56 rfl) (sv hs 58 rfl), lc rfl rfl fun hs hh => stp_pick_tB (sv hs 49 rfl) hy17 (sv hs 59 rfl) qy17, lM, lo rfl rfl 61 hy19, lo rfl rfl 61 hy19, lo rfl rfl 61 hy19, lo rfl rfl 61 hy19, lx rfl rfl 65, lx rfl rfl 65, lx rfl rfl 65, lo rfl rfl 61 hy19, lc rfl rfl fun hs hh => stp_pick_fB (sv hs 61 rfl) hy19 rfl qy19, lS, trivial⟩
    intro g hΦ
    exact kw_join () trivial ⟨rfl, trivial⟩ trivial
   have ey17 := cond_f ey17 hy17
   have qy17 := sI ey17
   have hy19 : y17 = false := by rw [← qy17]
   have ey19 := cond_f ey19 hy19
   have qy19 := sI ey19
   refine rdq g_mixed [3, 8] [1] { dst := dS [42, 43, 44, 45, 46, 47, 48, 49, 50, 51, 52, 53, 54, 55, 56, 57, 58, 59, 60, 61, 62, 63, 64, 65, 66, 67, 68, 69, 70, 71, 5], pre := gA [] [[], [0], [0, 1], [0, 1, 2], [0, 1, 2], [0, 1, 2, 4], rn 0 6, rn 0 7, rn 0 8, rn 0 9, rn 0 10, rn 0 11, rn 0 9, rn 0 13, rn 0 14, rn 0 15, rn 0 9, [0, 1, 2, 3, 4, 5, 6, 7, 8, 16], rn 0 18, rn 0 19, rn 0 20, rn 0 21, rn 0 22, rn 0 23, rn 0 24, rn 0 25, rn 0 26, rn 0 27, rn 0 28, rn 0 29, rn 0 30], ids := fun _ => [], rs := rL [[(8, 0)], [(41, 1)], [(42, 2)], [(8, 0), (43, 3)], [(3, 0), (43, 3)], [(45, 5), (43, 3)], [(44, 4), (46, 6), (43, 3)], [(43, 3), (47, 7)], [(48, 8)], [(49, 9)], [(49, 9)], [(49, 9)], [(49, 9)], [(49, 9)], [(49, 9)], [(49, 9)], [(49, 9)], [(49, 9)], [(49, 9)], [(49, 9), (59, 19)], [(60, 20)], [(61, 21)], [(61, 21)], [(61, 21)], [(61, 21)], [(65, 25)], [(65, 25)], [(65, 25)], [(61, 21)], [(61, 21), (69, 29)], [(70, 30)]], rh := rL [[], [], [], [], [], [(1, 0)]], V := fun i g => gA undef [.int .i64 x15.1, .bool (decide (0 ≤ x15.1)), .bool (decide (0 ≤ x15.1)), .int .i64 x15.1, .pointer (some ⟨b2, 3, none⟩), .int .i64 a1.fr, .bool (x15.1 == a1.fr), .bool y16, .bool y16, undef, undef, undef, undef, undef, undef, undef, undef, undef, undef, .bool y17, .bool y17, undef, undef, undef, undef, undef, undef, undef, undef, .bool y19, .bool y19] i, U := fun _ _ => [], Φ := fun _ _ => True } ?_ ?_
   ·exact ⟨lM, lc rfl rfl fun hs hh => stp_geq (sv hs 41 rfl) rfl, lM, lg rfl rfl 43 hy16 fun hs hh => stp_move (sv hs 8 rfl), lg rfl rfl 43 hy16 fun hs hh => stp_fieldAddr (j := 3) Tryz.underlying41 rfl ts3 rfl (sv hs 3 rfl) rfl, lg rfl rfl 43 hy16 fun hs hh => stp_load1 ts3 (sv hs 45 rfl) (Cells.box (id := 1) (hh.get 1 _ rfl) 1 rfl), lg rfl rfl 43 hy16 fun hs hh => stp_eql (sv hs 44 rfl) (sv hs 46 rfl), lc rfl rfl fun hs hh => stp_pick_tB (sv hs 43 rfl) hy16 (sv hs 47 rfl) qy16, lM, lo rfl rfl 49 hy17, lo rfl rfl 49 hy17, lo rfl rfl 49 hy17, lo rfl rfl 49 hy17, lo rfl rfl 49 hy17, lo rfl rfl 49 hy17, lo rfl rfl 49 hy17, lo rfl rfl 49 hy17, lo rfl rfl 49 hy17, lo rfl rfl 49 hy17, lc rfl rfl fun hs hh => stp_pick_fB (sv hs 49 rfl) hy17 rfl qy17, lM, lo rfl rfl 61 hy19, lo rfl rfl 61 hy19, lo rfl rfl 61 hy19, lo rfl rfl 61 hy19, lx rfl rfl 65, lx rfl rfl 65, lx rfl rfl 65, lo rfl rfl 61 hy19, lc rfl rfl fun hs hh => stp_pick_fB (sv hs 61 rfl) hy19 rfl qy19, lS, trivial⟩
   intro g hΦ
   exact kw_join () trivial ⟨rfl, trivial⟩ trivial
  have ey16 := cond_f ey16 hy16
  have qy16 := sI ey16
  have hy17 : y16 = false := by rw [← qy16]
  have ey17 := cond_f ey17 hy17
  have qy17 := sI ey17
  have hy19 : y17 = false := by rw [← qy17]
  have ey19 := cond_f ey19 hy19
  have qy19 := sI ey19
  refine rdq g_mixed [8] [] { dst := dS [42, 43, 44, 45, 46, 47, 48, 49, 50, 51, 52, 53, 54, 55, 56, 57, 58, 59, 60, 61, 62, 63, 64, 65, 66, 67, 68, 69, 70, 71, 5], pre := gA [] [[], [0], [0, 1], [0, 1, 2], [0, 1, 2], [0, 1, 2, 4], rn 0 6, rn 0 7, rn 0 8, rn 0 9, rn 0 10, rn 0 11, rn 0 9, rn 0 13, rn 0 14, rn 0 15, rn 0 9, [0, 1, 2, 3, 4, 5, 6, 7, 8, 16], rn 0 18, rn 0 19, rn 0 20, rn 0 21, rn 0 22, rn 0 23, rn 0 24, rn 0 25, rn 0 26, rn 0 27, rn 0 28, rn 0 29, rn 0 30], ids := fun _ => [], rs := rL [[(8, 0)], [(41, 1)], [(42, 2)], [(43, 3)], [(43, 3)], [(43, 3)], [(43, 3)], [(43, 3), (47, 7)], [(48, 8)], [(49, 9)], [(49, 9)], [(49, 9)], [(49, 9)], [(49, 9)], [(49, 9)], [(49, 9)], [(49, 9)], [(49, 9)], [(49, 9)], [(49, 9), (59, 19)], [(60, 20)], [(61, 21)], [(61, 21)], [(61, 21)], [(61, 21)], [(65, 25)], [(65, 25)], [(65, 25)], [(61, 21)], [(61, 21), (69, 29)], [(70, 30)]], rh := fun _ => [], V := fun i g => gA undef [.int .i64 x15.1, .bool (decide (0 ≤ x15.1)), .bool (decide (0 ≤ x15.1)), undef, undef, undef, undef, .bool y16, .bool y16, undef, undef, undef, undef, undef, undef, undef, undef, undef, undef, .bool y17, .bool y17, undef, undef, undef, undef, undef, undef, undef, undef, .bool y19, .bool y19] i, U := fun _ _ => [], Φ := fun _ _ => True } ?_ ?_
  ·exact ⟨lM, lc rfl rfl fun hs hh => stp_geq (sv hs 41 rfl) rfl, lM, lo rfl rfl 43 hy16, lo rfl rfl 43 hy16, lo rfl rfl 43 hy16, lo rfl rfl 43 hy16, lc rfl rfl fun hs hh => stp_pick_fB (sv hs 43 rfl) hy16 rfl qy16, lM, lo rfl rfl 49 hy17, lo rfl rfl 49 hy17, lo rfl rfl 49 hy17, lo rfl rfl 49 hy17, lo rfl rfl 49 hy17, lo rfl rfl 49 hy17, lo rfl rfl 49 hy17, lo rfl rfl 49 hy17, lo rfl rfl 49 hy17, lo rfl rfl 49 hy17, lc rfl rfl fun hs hh => stp_pick_fB (sv hs 49 rfl) hy17 rfl qy17, lM, lo rfl rfl 61 hy19, lo rfl rfl 61 hy19, lo rfl rfl 61 hy19, lo rfl rfl 61 hy19, lx rfl rfl 65, lx rfl rfl 65, lx rfl rfl 65, lo rfl rfl 61 hy19, lc rfl rfl fun hs hh => stp_pick_fB (sv hs 61 rfl) hy19 rfl qy19, lS, trivial⟩
  intro g hΦ
  exact kw_join () trivial ⟨rfl, trivial⟩ trivial
 rintro _ -
 dsimp only
 refine kw_nx (cw_ret ?_)
 obtain rfl := sI H0
 exact kr Tryz.results107 (rT rfl) [] ⟨rfl, rfl⟩

theorem c_s_MachineValid (fl : Nat) (w : World) (a0 : Mc) (hn0_0 : n0_0 = (a0.t.b).length) (hr0_0 : RO w (hkeys []) (RdL p0_0 c0_0 a0.t.b)) (hn0_1 : n0_1 = (a0.t.f).length) (hr0_1 : RO w (hkeys []) (RdL p0_1 c0_1 a0.t.f)) (hn0_2 : n0_2 = (a0.c.l).length) (hr0_2 : RO w (hkeys []) (RdL p0_2 c0_2 a0.c.l)) (hn0_3 : n0_3 = (a0.g.o).length) (hr0_3 : RO w (hkeys []) (RdL p0_3 c0_3 a0.g.o)) (r : Bool) (H0 : s_MachineValid fl a0 = some r) :
  Ct Tryz.prog 51 [.agg #[.slice p0_0 n0_0 c0_0, .slice p0_1 n0_1 c0_1, .slice p0_2 n0_2 c0_2, .int .i64 a0.c.h, .int .i64 a0.g.c, .int .i64 a0.g.n, .int .i64 a0.g.r, .slice p0_3 n0_3 c0_3, .int .i64 a0.s]] w [] (fun rv h' => rv = .bool r ∧ h' = []) := by
 subst hn0_0 hn0_1 hn0_2 hn0_3
 unfold s_MachineValid at H0
 refine ct_of_cw Tryz.func51 rfl Tryz.ntmps51 rfl (Sat.refl _ _) ?_
 refine sr (oE (stpU_box 0 rfl rfl) rfl ?_)
 rintro _ _ ⟨b1, rfl, rfl⟩
 obtain ⟨x2, e2, H0⟩ := bS H0
 refine oS rfl (nn (cw_seq (sr (oA 0 Tryz.underlying34 rfl ts26 rfl (oB2 0 ts26 rfl (oE (stpU_call (fun i => 1 + i) cf105 (fun w hw => c_s_TableValid fl w a0.t rfl (RO.pass hr0_0 hw) rfl (RO.pass hr0_1 hw) x2 e2) (yA rfl)) rfl ?_))))))
 rintro _ _ ⟨_, ⟨rfl, rfl⟩, rfl⟩
 obtain ⟨y3, ey3, H0⟩ := bS H0
 refine oK rfl (oM rfl (ow_cutY 5 15 y3 ?_ ?_))
 ·rcases Bool.eq_false_or_eq_true (!x2) with hy3 | hy3
  ·have ey3 := cond_t ey3 hy3
   refine oO rfl hy3 rfl (oO rfl hy3 rfl (oO rfl hy3 rfl (oO rfl hy3 rfl (oD (stp_pick_t rfl hy3 rfl) rfl ?_))))
   obtain rfl := sI ey3
   exact ow_nil (jy 5 0)
  have ey3 := cond_f ey3 hy3
  obtain ⟨x4, e4, ey3⟩ := bS ey3
  refine oG rfl hy3 (fA 2 Tryz.underlying34 rfl ts29 rfl rfl rfl) rfl (oG rfl hy3 (stp_loadN (us := [_, _]) ts29 rfl (Cells.box (id := 0) rfl 2 rfl)) rfl (ow_eff (.some rfl hy3) (stpU_call (fun i => 1 + i) cf106 (fun w hw => c_s_CacheValid fl w a0.c rfl (RO.pass hr0_2 hw) x4 e4) (yA rfl)) rfl ?_))
  rintro _ _ ⟨_, ⟨rfl, rfl⟩, rfl⟩
  refine oG rfl hy3 (stp_not rfl) rfl (oD (stp_pick_f rfl hy3 rfl) rfl ?_)
  obtain rfl := sI ey3
  exact ow_nil (jy 5 0)
 obtain ⟨y5, ey5, H0⟩ := bS H0
 refine oM rfl (ow_cutY 5 21 y5 ?_ ?_)
 ·rcases Bool.eq_false_or_eq_true y3 with hy5 | hy5
  ·have ey5 := cond_t ey5 hy5
   refine oO rfl hy5 rfl (oO rfl hy5 rfl (oO rfl hy5 rfl (oO rfl hy5 rfl (oD (stp_pick_t rfl hy5 rfl) rfl ?_))))
   obtain rfl := sI ey5
   exact ow_nil (jy 5 0)
  have ey5 := cond_f ey5 hy5
  obtain ⟨x6, e6, ey5⟩ := bS ey5
  refine oG rfl hy5 (fA 4 Tryz.underlying34 rfl ts32 rfl rfl rfl) rfl (oG rfl hy5 (stp_loadN (us := [_, _, _, _]) ts32 rfl (Cells.box (id := 0) rfl 4 rfl)) rfl (ow_eff (.some rfl hy5) (stpU_call (fun i => 1 + i) cf101 (fun w hw => c_s_TagsValid fl w a0.g rfl (RO.pass hr0_3 hw) x6 e6) (yA rfl)) rfl ?_))
  rintro _ _ ⟨_, ⟨rfl, rfl⟩, rfl⟩
  refine oG rfl hy5 (stp_not rfl) rfl (oD (stp_pick_f rfl hy5 rfl) rfl ?_)
  obtain rfl := sI ey5
  exact ow_nil (jy 5 0)
 obtain ⟨y7, ey7, H0⟩ := bS H0
 refine oM rfl (ow_cutY 7 29 y7 ?_ ?_)
 ·rcases Bool.eq_false_or_eq_true y5 with hy7 | hy7
  ·have ey7 := cond_t ey7 hy7
   refine oO rfl hy7 rfl (oO rfl hy7 rfl (oO rfl hy7 rfl (oO rfl hy7 rfl (oO rfl hy7 rfl (oO rfl hy7 rfl (oD (stp_pick_t rfl hy7 rfl) rfl ?_))))))
   obtain rfl := sI ey7
   exact ow_nil (jy 7 0)
  have ey7 := cond_f ey7 hy7
  obtain ⟨x8, e8, ey7⟩ := bS ey7
  refine oG rfl hy7 (fA 4 Tryz.underlying34 rfl ts32 rfl rfl rfl) rfl (oG rfl hy7 (stp_loadN (us := [_, _, _, _]) ts32 rfl (Cells.box (id := 0) rfl 4 rfl)) rfl (oG rfl hy7 (fA 8 Tryz.underlying34 rfl ts3 rfl rfl rfl) rfl (oG rfl hy7 (lB 0 ts3 rfl rfl rfl) rfl (ow_eff (.some rfl hy7) (stpU_call (fun i => 1 + i) cf104 (fun w hw => c_s_l5Find fl w a0.g a0.s rfl (RO.pass hr0_3 hw) x8 e8) (yB rfl rfl)) rfl ?_))))
  rintro _ _ ⟨_, ⟨rfl, rfl⟩, rfl⟩
  refine oG rfl hy7 (stp_lss rfl rfl) rfl (oD (stp_pick_f rfl hy7 rfl) rfl ?_)
  obtain rfl := sI ey7
  exact ow_nil (jy 7 0)
 refine ow_nil (kw_nx (cw_cond rfl (fun h9 => ?_) (fun h9 => ?_)))
 ·have H0 := cond_t H0 h9
  refine sr (oS rfl (nn (cw_ret (kw_nx_ret ?_))))
  obtain rfl := sI H0
  exact kr Tryz.results51 (rT rfl) [] ⟨rfl, rfl⟩
 have H0 := cond_f H0 h9
 obtain ⟨o0_0, eo0_0, H0⟩ := bS H0
 refine cw_skip (kw_nx (cw_seq (sr (oS rfl (nn (cw_join (ι := Int) (fun | v10 => o0_0 = .out v10) (fun | v10 => [(1, .pointer (some ⟨b1, 0, none⟩)), (3, .int .i64 v10)]) (fun | v10 => [(0, [(b1, .cells #[.slice p0_0 ((a0.t.b).length) c0_0, .slice p0_1 ((a0.t.f).length) c0_1, .slice p0_2 ((a0.c.l).length) c0_2, .int .i64 a0.c.h, .int .i64 a0.g.c, .int .i64 a0.g.n, .int .i64 a0.g.r, .slice p0_3 ((a0.g.o).length) c0_3, .int .i64 a0.s] 34 (0, 0))])]) ?_ ?_))))))
 ·refine cw_block (cw_loopS (ι := Nat × Int) (js := [0]) (fun x => x.1) (fun | (fuel, v10) => s_MachineValid_L0 fl a0 fuel v10 = some o0_0) (fun | (_, v10) => [(1, .pointer (some ⟨b1, 0, none⟩)), (3, .int .i64 v10)]) (fun | (_, v10) => [(0, [(b1, .cells #[.slice p0_0 ((a0.t.b).length) c0_0, .slice p0_1 ((a0.t.f).length) c0_1, .slice p0_2 ((a0.c.l).length) c0_2, .int .i64 a0.c.h, .int .i64 a0.g.c, .int .i64 a0.g.n, .int .i64 a0.g.r, .slice p0_3 ((a0.g.o).length) c0_3, .int .i64 a0.s] 34 (0, 0))])]) (fl, 0) eo0_0 ⟨rfl, rfl, trivial⟩ ⟨0, [], rfl, rfl, trivial⟩ (by decide) ?_)
  rintro ⟨fuel, v10⟩ H1
  have H1 : s_MachineValid_L0 fl a0 fuel v10 = some o0_0 := H1
  rcases fuel with _ | fuel
  ·rw [s_MachineValid_L0.eq_1] at H1; cases H1
  rw [s_MachineValid_L0.eq_2] at H1
  dsimp only
  refine cw_seq (sr (oM rfl (oA 0 Tryz.underlying34 rfl ts26 rfl (oA 1 Tryz.underlying26 rfl ts24 rfl (oL 0 ts24 rfl (oD (stp_len Tryz.underlying24 rfl) rfl (oW rfl (nn (cw_cond rfl (fun h11 => ?_) (fun h11 => ?_))))))))))
  ·have H1 := cond_t H1 h11
   obtain ⟨x12, e12, H1⟩ := bS H1
   refine cw_skip (kw_nx (cw_seq (cw_block (sr (oA 0 Tryz.underlying34 rfl ts26 rfl (oA 1 Tryz.underlying26 rfl ts24 rfl (oL 0 ts24 rfl (oM rfl (oD (stp_indexAddr Tryz.underlying24 ts58 (by decide) rfl rfl rfl (Rdb.ro hr0_1) e12) rfl (oD (stp_loadN (us := [_, _, _, _, _]) ts58 rfl (Cells.el (Rdb.ro hr0_1) (by decide) e12 0 5 rfl)) rfl (oE (stpU_alloc 1 tz58 rfl) rfl ?_)))))))))))
   rintro _ _ ⟨b13, rfl, rfl⟩
   obtain ⟨y14, ey14, H1⟩ := bS H1
   refine oC5 1 ts58 rfl rfl (nn (sr (oA 0 Tryz.underlying58 rfl ts4 rfl (oL 1 ts4 rfl (oM rfl (ow_cutY 5 51 y14 ?_ ?_))))))
   ·rcases Bool.eq_false_or_eq_true x12.u with hy14 | hy14
    ·have ey14 := cond_t ey14 hy14
     refine oG rfl hy14 (fA 1 Tryz.underlying58 rfl ts47 rfl rfl rfl) rfl (oG rfl hy14 (fA 1 Tryz.underlying47 rfl ts3 rfl rfl rfl) rfl (oG rfl hy14 (lB 1 ts3 rfl rfl rfl) rfl (oG rfl hy14 (stp_geq rfl rfl) rfl (oD (stp_pick_t rfl hy14 rfl) rfl ?_))))
     obtain rfl := sI ey14
     exact ow_nil (jy 5 0)
    have ey14 := cond_f ey14 hy14
    refine oO rfl hy14 rfl (oO rfl hy14 rfl (oO rfl hy14 rfl (oO rfl hy14 rfl (oD (stp_pick_f rfl hy14 rfl) rfl ?_))))
    obtain rfl := sI ey14
    exact ow_nil (jy 5 0)
   obtain ⟨y15, ey15, H1⟩ := bS H1
   refine oM rfl (ow_cutY 5 57 y15 ?_ ?_)
   ·rcases Bool.eq_false_or_eq_true y14 with hy15 | hy15
    ·have ey15 := cond_t ey15 hy15
     refine oG rfl hy15 (fA 1 Tryz.underlying58 rfl ts47 rfl rfl rfl) rfl (oG rfl hy15 (fA 0 Tryz.underlying47 rfl ts3 rfl rfl rfl) rfl (oG rfl hy15 (lB 1 ts3 rfl rfl rfl) rfl (oG rfl hy15 (stp_neq rfl rfl) rfl (oD (stp_pick_t rfl hy15 rfl) rfl ?_))))
     obtain rfl := sI ey15
     exact ow_nil (jy 5 0)
    have ey15 := cond_f ey15 hy15
    refine oO rfl hy15 rfl (oO rfl hy15 rfl (oO rfl hy15 rfl (oO rfl hy15 rfl (oD (stp_pick_f rfl hy15 rfl) rfl ?_))))
    obtain rfl := sI ey15
    exact ow_nil (jy 5 0)
   refine ow_nil (kw_nx (cw_cond rfl (fun h16 => ?_) (fun h16 => ?_)))
   ·have H1 := cond_t H1 h16
    refine sr (oS rfl (nn (cw_ret (kw_bl_ret (kw_nx_ret (kw_lq_ret (kw_bl_ret (kw_join_ret (kw_nx_ret ?_)))))))))
    obtain rfl := sI H1
    obtain rfl := sI H0
    exact kr Tryz.results51 (rT rfl) [] ⟨rfl, rfl⟩
   have H1 := cond_f H1 h16
   obtain ⟨x17, e17, H1⟩ := bS H1
   exact cw_skip (kw_bl_normal (kw_nx (cw_region (oM rfl (oP e17 rfl (oS rfl (ow_nil (kw_lqS (js := [0]) (fuel, x17) H1 (Nat.lt_succ_self _) ⟨rfl, rfl, trivial⟩ ⟨0, [], rfl, rfl, trivial⟩ (by decide)))))))))
  have H1 := cond_f H1 h11
  refine cw_exit (kw_nx_exit (kw_lq_exit (kw_bl ?_)))
  obtain rfl := sI H1
  exact kw_joinS (js := [0]) v10 rfl ⟨rfl, rfl, trivial⟩ ⟨0, [], rfl, rfl, trivial⟩ (by decide)
 rintro v10 rfl
 dsimp only
 obtain ⟨o0_1, eo0_1, H0⟩ := bS H0
 refine kw_nx (cw_seq (sr (oS rfl (nn (cw_join (ι := Int) (fun | v18 => o0_1 = .out v18) (fun | v18 => [(1, .pointer (some ⟨b1, 0, none⟩)), (5, .int .i64 v18)]) (fun | v18 => [(0, [(b1, .cells #[.slice p0_0 ((a0.t.b).length) c0_0, .slice p0_1 ((a0.t.f).length) c0_1, .slice p0_2 ((a0.c.l).length) c0_2, .int .i64 a0.c.h, .int .i64 a0.g.c, .int .i64 a0.g.n, .int .i64 a0.g.r, .slice p0_3 ((a0.g.o).length) c0_3, .int .i64 a0.s] 34 (0, 0))])]) ?_ ?_)))))
 ·refine cw_block (cw_loopS (ι := Nat × Int) (js := [0]) (fun x => x.1) (fun | (fuel, v18) => s_MachineValid_L1 fl a0 fuel v18 = some o0_1) (fun | (_, v18) => [(1, .pointer (some ⟨b1, 0, none⟩)), (5, .int .i64 v18)]) (fun | (_, v18) => [(0, [(b1, .cells #[.slice p0_0 ((a0.t.b).length) c0_0, .slice p0_1 ((a0.t.f).length) c0_1, .slice p0_2 ((a0.c.l).length) c0_2, .int .i64 a0.c.h, .int .i64 a0.g.c, .int .i64 a0.g.n, .int .i64 a0.g.r, .slice p0_3 ((a0.g.o).length) c0_3, .int .i64 a0.s] 34 (0, 0))])]) (fl, 0) eo0_1 ⟨rfl, rfl, trivial⟩ ⟨0, [], rfl, rfl, trivial⟩ (by decide) ?_)
  rintro ⟨fuel, v18⟩ H1
  have H1 : s_MachineValid_L1 fl a0 fuel v18 = some o0_1 := H1
  rcases fuel with _ | fuel
  ·rw [s_MachineValid_L1.eq_1] at H1; cases H1
  rw [s_MachineValid_L1.eq_2] at H1
  dsimp only
  refine cw_seq (sr (oM rfl (oA 2 Tryz.underlying34 rfl ts29 rfl (oA 0 Tryz.underlying29 rfl ts27 rfl (oL 0 ts27 rfl (oD (stp_len Tryz.underlying27 rfl) rfl (oW rfl (nn (cw_cond rfl (fun h19 => ?_) (fun h19 => ?_))))))))))
  ·have H1 := cond_t H1 h19
   obtain ⟨x20, e20, H1⟩ := bS H1
   obtain ⟨y21, ey21, H1⟩ := bS H1
   refine cw_skip (kw_nx (cw_seq (cw_block (cw_seq (cw_join (ι := Unit) (fun | _ => True) (fun | _ => [(1, .pointer (some ⟨b1, 0, none⟩)), (5, .int .i64 v18), (83, .bool y21)]) (fun | _ => [(0, [(b1, .cells #[.slice p0_0 ((a0.t.b).length) c0_0, .slice p0_1 ((a0.t.f).length) c0_1, .slice p0_2 ((a0.c.l).length) c0_2, .int .i64 a0.c.h, .int .i64 a0.g.c, .int .i64 a0.g.n, .int .i64 a0.g.r, .slice p0_3 ((a0.g.o).length) c0_3, .int .i64 a0.s] 34 (0, 0))])]) ?_ ?_)))))
   ·rcases Bool.eq_false_or_eq_true x20.va with hy21 | hy21
    ·have ey21 := cond_t ey21 hy21
     obtain ⟨x22, e22, ey21⟩ := bS ey21
     have qy21 := sI ey21
     refine rdq g_mixed [1, 5] [0] { dst := dS [67, 68, 69, 70, 71, 72, 73, 74, 75, 76, 77, 78, 79, 80, 81, 82, 83, 84], pre := gA [] [[], [0], [0, 1], [], rn 0 4, rn 0 5, rn 0 6, rn 0 7, rn 0 8, rn 0 8, [0, 1, 2, 3, 4, 5, 6, 7, 9], [0, 1, 2, 3, 4, 5, 6, 7, 9, 10], rn 0 8, [0, 1, 2, 3, 4, 5, 6, 7, 9, 10, 11, 12], [0, 1, 2, 3, 4, 5, 6, 7, 9, 10, 11, 12, 13], rn 0 15, rn 0 16, rn 0 17], ids := fun _ => [], rs := rL [[(1, 0)], [(66, 1)], [(67, 2)], [(5, 0)], [(68, 3), (69, 4)], [(70, 5)], [(71, 6)], [(72, 7)], [(1, 0), (73, 8)], [(1, 0), (73, 8)], [(75, 10), (73, 8)], [(76, 11), (73, 8)], [(5, 0), (73, 8)], [(77, 12), (78, 13), (73, 8)], [(79, 14), (73, 8)], [(74, 9), (80, 15), (73, 8)], [(81, 16), (73, 8)], [(73, 8), (82, 17)]], rh := rL [[], [], [(0, 0)], [], [], [], [], [], [(0, 0)], [], [], [(0, 0)]], V := fun i g => gA undef [.pointer (some ⟨b1, 2, none⟩), .pointer (some ⟨b1, 2, none⟩), .slice p0_2 ((a0.c.l).length) c0_2, .int .i64 v18, .pointer (some ⟨eB p0_2, eO p0_2 + Int.toNat v18 * Enc.sz Ln + 0, none⟩), .pointer (some ⟨eB p0_2, eO p0_2 + Int.toNat v18 * Enc.sz Ln + 0, none⟩), .bool x20.va, .bool x20.va, .agg #[.slice p0_0 ((a0.t.b).length) c0_0, .slice p0_1 ((a0.t.f).length) c0_1, .slice p0_2 ((a0.c.l).length) c0_2, .int .i64 a0.c.h, .int .i64 a0.g.c, .int .i64 a0.g.n, .int .i64 a0.g.r, .slice p0_3 ((a0.g.o).length) c0_3, .int .i64 a0.s], .pointer (some ⟨b1, 2, none⟩), .pointer (some ⟨b1, 2, none⟩), .slice p0_2 ((a0.c.l).length) c0_2, .int .i64 v18, .pointer (some ⟨eB p0_2, eO p0_2 + Int.toNat v18 * Enc.sz Ln + 0, none⟩), .agg #[.bool x20.va, .int .i64 x20.tg, .int .i64 x20.pg, .int .i64 x20.fr, .int .i64 x20.ri, .bool x20.wi], .bool x22, .bool (!x22), .bool y21] i, U := fun _ _ => [], Φ := fun _ _ => True } ?_ ?_
     ·refine ⟨lc rfl rfl fun hs hh => stp_fieldAddr (j := 2) Tryz.underlying34 rfl ts29 rfl (sv hs 1 rfl) rfl, lc rfl rfl fun hs hh => stp_fieldAddr (j := 0) Tryz.underlying29 rfl ts27 rfl (sv hs 66 rfl) rfl, lc rfl rfl fun hs hh => stp_load1 ts27 (sv hs 67 rfl) (Cells.box (id := 0) (hh.get 0 _ rfl) 1 rfl), lM, lc rfl rfl fun hs hh => stp_indexAddr Tryz.underlying27 ts41 (by decide) (sv hs 68 rfl) rfl (sv hs 69 rfl) (Rdb.ro hr0_2) e20, lc rfl rfl fun hs hh => stp_fieldAddr (j := 0) Tryz.underlying41 rfl ts4 rfl (sv hs 70 rfl) rfl, lc rfl rfl fun hs hh => stp_load1 ts4 (sv hs 71 rfl) (Cells.el (Rdb.ro hr0_2) (by decide) e20 0 1 rfl), lM, lg rfl rfl 73 hy21 fun hs hh => stp_loadN (us := [_, _, _, _, _, _, _, _, _]) ts34 (sv hs 1 rfl) (Cells.box (id := 0) (hh.get 0 _ rfl) 9 rfl), lg rfl rfl 73 hy21 fun hs hh => stp_fieldAddr (j := 2) Tryz.underlying34 rfl ts29 rfl (sv hs 1 rfl) rfl, lg rfl rfl 73 hy21 fun hs hh => stp_fieldAddr (j := 0) Tryz.underlying29 rfl ts27 rfl (sv hs 75 rfl) rfl, lg rfl rfl 73 hy21 fun hs hh => stp_load1 ts27 (sv hs 76 rfl) (Cells.box (id := 0) (hh.get 0 _ rfl) 1 rfl), lg rfl rfl 73 hy21 fun hs hh => stp_move (sv hs 5 rfl), lg rfl rfl 73 hy21 fun hs hh => stp_indexAddr Tryz.underlying27 ts41 (by decide) (sv hs 77 rfl) rfl (sv hs 78 rfl) (Rdb.ro hr0_2) e20, lg rfl rfl 73 hy21 fun hs hh => stp_loadN (us := [_, _, _, _, _, _]) ts41 (sv hs 79 rfl) (Cells.el (Rdb.ro hr0_2) (by decide) e20 0 6 rfl), ?_, lg rfl rfl 73 hy21 fun hs hh => stp_not (sv hs 81 rfl), lc rfl rfl fun hs hh => stp_pick_tB (sv hs 73 rfl) hy21 (sv hs 82 rfl) qy21, trivial⟩
      refine loc_eff rfl rfl (fun g hΦ s h hs hh => ⟨(.some (gval_of rfl (sv hs 73 rfl)) hy21), (stpU_call (fun i => 2 + i) cf107 (fun w hw => c_s_l6Line fl w a0 x20 rfl (RO.pass hr0_0 hw) rfl (RO.pass hr0_1 hw) rfl (RO.pass hr0_2 hw) rfl (RO.pass hr0_3 hw) x22 e22) (yB (sv hs 74 rfl) (sv hs 80 rfl)))⟩) ?_
      rintro g _ _ ⟨_, ⟨rfl, rfl⟩, rfl⟩
      exact ⟨⟨[], [], []⟩, trivial, .inr rfl, rfl⟩
     intro g hΦ
     exact kw_join () trivial ⟨rfl, rfl, rfl, trivial⟩ ⟨rfl, trivial⟩
    have ey21 := cond_f ey21 hy21
    have qy21 := sI ey21
    refine rdq g_mixed [1, 5] [0] { dst := dS [67, 68, 69, 70, 71, 72, 73, 74, 75, 76, 77, 78, 79, 80, 81, 82, 83, 84], pre := gA [] [[], [0], [0, 1], [], rn 0 4, rn 0 5, rn 0 6, rn 0 7, rn 0 8, rn 0 8, [0, 1, 2, 3, 4, 5, 6, 7, 9], [0, 1, 2, 3, 4, 5, 6, 7, 9, 10], rn 0 8, [0, 1, 2, 3, 4, 5, 6, 7, 9, 10, 11, 12], [0, 1, 2, 3, 4, 5, 6, 7, 9, 10, 11, 12, 13], rn 0 15, rn 0 16, rn 0 17], ids := fun _ => [], rs := rL [[(1, 0)], [(66, 1)], [(67, 2)], [(5, 0)], [(68, 3), (69, 4)], [(70, 5)], [(71, 6)], [(72, 7)], [(73, 8)], [(73, 8)], [(73, 8)], [(73, 8)], [(73, 8)], [(73, 8)], [(73, 8)], [(73, 8)], [(73, 8)], [(73, 8), (82, 17)]], rh := rL [[], [], [(0, 0)]], V := fun i g => gA undef [.pointer (some ⟨b1, 2, none⟩), .pointer (some ⟨b1, 2, none⟩), .slice p0_2 ((a0.c.l).length) c0_2, .int .i64 v18, .pointer (some ⟨eB p0_2, eO p0_2 + Int.toNat v18 * Enc.sz Ln + 0, none⟩), .pointer (some ⟨eB p0_2, eO p0_2 + Int.toNat v18 * Enc.sz Ln + 0, none⟩), .bool x20.va, .bool x20.va, undef, undef, undef, undef, undef, undef, undef, undef, undef, .bool y21] i, U := fun _ _ => [], Φ := fun _ _ => True } ?_ ?_
    ·exact ⟨lc rfl rfl fun hs hh => stp_fieldAddr (j := 2) Tryz.underlying34 rfl ts29 rfl (sv hs 1 rfl) rfl, lc rfl rfl fun hs hh => stp_fieldAddr (j := 0) Tryz.underlying29 rfl ts27 rfl (sv hs 66 rfl) rfl, lc rfl rfl fun hs hh => stp_load1 ts27 (sv hs 67 rfl) (Cells.box (id := 0) (hh.get 0 _ rfl) 1 rfl), lM, lc rfl rfl fun hs hh => stp_indexAddr Tryz.underlying27 ts41 (by decide) (sv hs 68 rfl) rfl (sv hs 69 rfl) (Rdb.ro hr0_2) e20, lc rfl rfl fun hs hh => stp_fieldAddr (j := 0) Tryz.underlying41 rfl ts4 rfl (sv hs 70 rfl) rfl, lc rfl rfl fun hs hh => stp_load1 ts4 (sv hs 71 rfl) (Cells.el (Rdb.ro hr0_2) (by decide) e20 0 1 rfl), lM, lo rfl rfl 73 hy21, lo rfl rfl 73 hy21, lo rfl rfl 73 hy21, lo rfl rfl 73 hy21, lo rfl rfl 73 hy21, lo rfl rfl 73 hy21, lo rfl rfl 73 hy21, lo rfl rfl 73 hy21, lo rfl rfl 73 hy21, lc rfl rfl fun hs hh => stp_pick_fB (sv hs 73 rfl) hy21 rfl qy21, trivial⟩
    intro g hΦ
    exact kw_join () trivial ⟨rfl, rfl, rfl, trivial⟩ ⟨rfl, trivial⟩
   rintro _ -
   dsimp only
   refine kw_nx (cw_cond rfl (fun h23 => ?_) (fun h23 => ?_))
   ·have H1 := cond_t H1 h23
    refine sr (oS rfl (nn (cw_ret (kw_bl_ret (kw_nx_ret (kw_lq_ret (kw_bl_ret (kw_join_ret (kw_nx_ret ?_)))))))))
    obtain rfl := sI H1
    obtain rfl := sI H0
    exact kr Tryz.results51 (rT rfl) [] ⟨rfl, rfl⟩
   have H1 := cond_f H1 h23
   obtain ⟨x24, e24, H1⟩ := bS H1
   exact cw_skip (kw_bl_normal (kw_nx (cw_region (oM rfl (oP e24 rfl (oS rfl (ow_nil (kw_lqS (js := [0]) (fuel, x24) H1 (Nat.lt_succ_self _) ⟨rfl, rfl, trivial⟩ ⟨0, [], rfl, rfl, trivial⟩ (by decide)))))))))
  have H1 := cond_f H1 h19
  refine cw_exit (kw_nx_exit (kw_lq_exit (kw_bl ?_)))
  obtain rfl := sI H1
  exact kw_joinS (js := [0]) v18 rfl ⟨rfl, rfl, trivial⟩ ⟨0, [], rfl, rfl, trivial⟩ (by decide)
 rintro v18 rfl
 dsimp only
 refine kw_nx (sr (oS rfl (nn (cw_ret ?_))))
 obtain rfl := sI H0
 exact kr Tryz.results51 (rT rfl) [] ⟨rfl, rfl⟩
end Go.Proofs.YtkohlcjdagckhaaGreatDoor
