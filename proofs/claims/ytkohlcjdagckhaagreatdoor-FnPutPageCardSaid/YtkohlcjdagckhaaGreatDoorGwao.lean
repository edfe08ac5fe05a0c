/- The walks: functions of the program return what their pure functions say. Printed by a program (gen.py). -/
import Derived.Test.YtkohlcjdagckhaaGreatDoorGp
import Derived.Test.YtkohlcjdagckhaaGreatDoorGt
import Derived.Test.YtkohlcjdagckhaaGreatDoorMan
import Derived.Test.YtkohlcjdagckhaaGreatDoorMap
import Derived.Test.YtkohlcjdagckhaaGreatDoorCpy
import Derived.Test.YtkohlcjdagckhaaGreatDoorE8
import Derived.Test.YtkohlcjdagckhaaGreatDoorGwac
import Derived.Test.YtkohlcjdagckhaaGreatDoorGwan
set_option linter.unusedSimpArgs false
set_option linter.unusedVariables false
set_option linter.unusedSectionVars false
namespace Go.Proofs.YtkohlcjdagckhaaGreatDoor
open Go.RowKit
set_option maxHeartbeats 4000000
set_option maxRecDepth 20000
variable {p0_0 p0_1 p0_2 p0_3 p1_0 p1_1 : Option Addr} {n0_0 n0_1 n0_2 n0_3 n1_0 n1_1 : Nat} {c0_0 c0_1 c0_2 c0_3 c1_0 c1_1 : Nat} {C1_0 C1_1 : Res}
theorem c_i_Machine_dropped (fl : Nat) (w : World) (a0 : Mc) (a1 : T) (a2 : K) (hn0_0 : n0_0 = (a0.t.b).length) (hr0_0 : RO w (hkeys [(0, C1_0), (1, C1_1)]) (RdL p0_0 c0_0 a0.t.b)) (hn0_1 : n0_1 = (a0.t.f).length) (hr0_1 : RO w (hkeys [(0, C1_0), (1, C1_1)]) (RdL p0_1 c0_1 a0.t.f)) (hn0_2 : n0_2 = (a0.c.l).length) (hr0_2 : RO w (hkeys [(0, C1_0), (1, C1_1)]) (RdL p0_2 c0_2 a0.c.l)) (hn0_3 : n0_3 = (a0.g.o).length) (hr0_3 : RO w (hkeys [(0, C1_0), (1, C1_1)]) (RdL p0_3 c0_3 a0.g.o)) (hn1_0 : n1_0 = (a1.b).length) (ho1_0 : OwnC 3 p1_0 c1_0 a1.b C1_0) (hn1_1 : n1_1 = (a1.f).length) (ho1_1 : OwnC 58 p1_1 c1_1 a1.f C1_1) (hM : Sat w (hkeys [(0, C1_0), (1, C1_1)]) w [(0, C1_0), (1, C1_1)]) (r : Mc) (H0 : i_Machine_dropped fl a0 a1 a2 = some r) :
  Ct Tryz.prog 71 [.agg #[.slice p0_0 n0_0 c0_0, .slice p0_1 n0_1 c0_1, .slice p0_2 n0_2 c0_2, .int .i64 a0.c.h, .int .i64 a0.g.c, .int .i64 a0.g.n, .int .i64 a0.g.r, .slice p0_3 n0_3 c0_3, .int .i64 a0.s], .agg #[.slice p1_0 n1_0 c1_0, .slice p1_1 n1_1 c1_1], .agg #[.int .i64 a2.s, .int .i64 a2.p]] w [(0, C1_0), (1, C1_1)] (fun rv h' => ∃ (x2 : Option Addr) (y2 z2 : Nat) (C2 : Res) (x3 : Option Addr) (y3 z3 : Nat) (C3 : Res) (x4 : Option Addr) (y4 z4 : Nat) (C4 : Res) (x5 : Option Addr) (y5 z5 : Nat) (C5 : Res), rv = .agg #[.slice x2 y2 z2, .slice x3 y3 z3, .slice x4 y4 z4, .int .i64 r.c.h, .int .i64 r.g.c, .int .i64 r.g.n, .int .i64 r.g.r, .slice x5 y5 z5, .int .i64 r.s] ∧ h' = [(0, []), (1, []), (2, C2), (3, C3), (4, C4), (5, C5)] ∧ y2 = (r.t.b).length ∧ OwnC 3 x2 z2 r.t.b C2 ∧ y3 = (r.t.f).length ∧ OwnC 58 x3 z3 r.t.f C3 ∧ y4 = (r.c.l).length ∧ OwnC 41 x4 z4 r.c.l C4 ∧ y5 = (r.g.o).length ∧ OwnC 118 x5 z5 r.g.o C5) := by
 subst hn0_0 hn0_1 hn0_2 hn0_3 hn1_0 hn1_1
 unfold i_Machine_dropped at H0
 refine ct_of_cw Tryz.func71 rfl Tryz.ntmps71 rfl hM ?_
 refine sr (oE (stpU_box 2 rfl rfl) rfl ?_)
 rintro _ _ ⟨b1, rfl, rfl⟩
 refine oE (stpU_box 3 rfl rfl) rfl ?_
 rintro _ _ ⟨b2, rfl, rfl⟩
 refine oE (stpU_box 4 rfl rfl) rfl ?_
 rintro _ _ ⟨b3, rfl, rfl⟩
 refine oE (stpU_alloc 5 tz34 rfl) rfl ?_
 rintro _ _ ⟨b4, rfl, rfl⟩
 obtain ⟨x5, e5, H0⟩ := bS H0
 refine nn (sr (oB9 2 ts34 rfl (oE (stpU_call (fun i => 6 + i) cf49 (fun w hw => c_i_Machine_clone fl w a0 rfl (RO.pass hr0_0 hw) rfl (RO.pass hr0_1 hw) rfl (RO.pass hr0_2 hw) rfl (RO.pass hr0_3 hw) x5 e5) (yA rfl)) rfl ?_)))
 rintro _ _ ⟨_, ⟨p6, _, c8, C9, p10, _, c12, C13, p14, _, c16, C17, p18, _, c20, C21, rfl, rfl, rfl, o9, rfl, o13, rfl, o17, rfl, o21⟩, rfl⟩
 refine oE (stpU_alloc 10 tz34 rfl) rfl ?_
 rintro _ _ ⟨b22, rfl, rfl⟩
 refine oC9 10 ts34 rfl rfl (nn (sr (oB2 3 ts26 rfl (oA 0 Tryz.underlying34 rfl ts26 rfl (oC9 10 ts26 rfl rfl (nn (cw_seq (sr (oB9 2 ts34 rfl (oA 0 Tryz.underlying47 rfl ts3 rfl (oL 4 ts3 rfl (oA 1 Tryz.underlying47 rfl ts3 rfl (oL 4 ts3 rfl ?_)))))))))))))
 obtain ⟨x23, e23, H0⟩ := bS H0
 refine oE (stpU_call (fun i => 11 + i) cf81 (fun w hw => c_i_Machine_tagFor fl w a0 a2.s a2.p rfl (RO.pass hr0_0 hw) rfl (RO.pass hr0_1 hw) rfl (RO.pass hr0_2 hw) rfl (RO.pass hr0_3 hw) x23 e23) (yC rfl rfl rfl)) rfl ?_
 rintro _ _ ⟨_, ⟨rfl, rfl⟩, rfl⟩
 refine oM rfl (oT rfl (oT rfl (oS rfl (oS rfl (nn (sr (oM rfl (nn (cw_cond rfl (fun h24 => ?_) (fun h24 => ?_))))))))))
 ·have H0 := cond_t H0 h24
  obtain ⟨x25, e25, H0⟩ := bS H0
  refine sr (oA 2 Tryz.underlying34 rfl ts29 rfl (oB2 2 ts29 rfl (oM rfl (oA 1 Tryz.underlying47 rfl ts3 rfl (oL 4 ts3 rfl (oE (stpU_call (fun i => 11 + i) cf82 (fun w hw => c_i_Cache_place fl w a0.c x23.1 a2.p rfl (RO.pass hr0_2 hw) x25 e25) (yC rfl rfl rfl)) rfl ?_))))))
  rintro _ _ ⟨_, ⟨rfl, rfl⟩, rfl⟩
  refine oS rfl (nn (sr (oM rfl (oI rfl (nn (cw_cond rfl (fun h26 => ?_) (fun h26 => ?_)))))))
  ·have H0 := cond_t H0 h26
   obtain ⟨x27, e27, H0⟩ := bS H0
   refine cw_region (oA 2 Tryz.underlying34 rfl ts29 rfl (oA 0 Tryz.underlying29 rfl ts27 rfl (oL 10 ts27 rfl (oM rfl (oD (stp_build (cs := #[.bool false, .int .i64 0, .int .i64 0, .int .i64 0, .int .i64 0, .bool false]) sevp_nil bt41_11) rfl (oD (stp_indexAddr Tryz.underlying27 ts41 (by decide) rfl rfl rfl (Rdb.own (id := 8) rfl o17) e27) rfl (oF (stpU_storeEl (id := 8) (i := 0) (⟨false, 0, 0, 0, 0, false⟩ : Ln) (by decide) ts41 rfl rfl rfl o17 e27 rfl rfl rfl rfl) ?_)))))))
   rintro _ _ ⟨C28, rfl, o28⟩
   refine nn (sr (oB9 10 ts34 rfl (oC9 5 ts34 rfl rfl (nn (cw_ret (kw_addNil 11 (kw_addNil 12 ?_)))))))
   obtain rfl := sI H0
   exact kr Tryz.results71 (rC9 5 ts34 rfl rfl) [11, 12, 0, 1, 8, 9] ⟨_, _, _, _, _, _, _, _, _, _, _, _, _, _, _, _, rfl, rfl, rfl, ho1_0, rfl, ho1_1, (by simp), o28, rfl, o21⟩
  have H0 := cond_f H0 h26
  refine cw_skip (kw_nx (sr (oB9 10 ts34 rfl (oC9 5 ts34 rfl rfl (nn (cw_ret (kw_addNil 13 (kw_addNil 14 ?_))))))))
  obtain rfl := sI H0
  exact kr Tryz.results71 (rC9 5 ts34 rfl rfl) [13, 14, 0, 1, 8, 9] ⟨_, _, _, _, _, _, _, _, _, _, _, _, _, _, _, _, rfl, rfl, rfl, ho1_0, rfl, ho1_1, rfl, o17, rfl, o21⟩
 have H0 := cond_f H0 h24
 refine cw_skip (kw_nx (sr (oB9 10 ts34 rfl (oC9 5 ts34 rfl rfl (nn (cw_ret (kw_addNil 15 (kw_addNil 16 ?_))))))))
 obtain rfl := sI H0
 exact kr Tryz.results71 (rC9 5 ts34 rfl rfl) [15, 16, 0, 1, 8, 9] ⟨_, _, _, _, _, _, _, _, _, _, _, _, _, _, _, _, rfl, rfl, rfl, ho1_0, rfl, ho1_1, rfl, o17, rfl, o21⟩
end Go.Proofs.YtkohlcjdagckhaaGreatDoor
