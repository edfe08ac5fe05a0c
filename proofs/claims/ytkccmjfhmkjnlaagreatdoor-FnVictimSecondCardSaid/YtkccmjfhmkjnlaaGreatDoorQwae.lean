/- The walks: functions of the program return what their pure functions say. Printed by a program (gen.py). -/
import Derived.Test.YtkccmjfhmkjnlaaGreatDoorQp
import Derived.Test.YtkccmjfhmkjnlaaGreatDoorQt
import Derived.Test.YtkccmjfhmkjnlaaGreatDoorMan
import Derived.Test.YtkccmjfhmkjnlaaGreatDoorMap
import Derived.Test.YtkccmjfhmkjnlaaGreatDoorCpy
import Derived.Test.YtkccmjfhmkjnlaaGreatDoorQe
import Derived.Test.YtkccmjfhmkjnlaaGreatDoorQwab
import Derived.Test.YtkccmjfhmkjnlaaGreatDoorQwac
set_option linter.unusedSimpArgs false
set_option linter.unusedVariables false
set_option linter.unusedSectionVars false
namespace Go.Proofs.YtkccmjfhmkjnlaaGreatDoor
open Go.RowKit
set_option maxHeartbeats 4000000
set_option maxRecDepth 20000
variable {p0_0 p0_1 p0_2 p0_3 p0_4 : Option Addr} {n0_0 n0_1 n0_2 n0_3 n0_4 : Nat} {c0_0 c0_1 c0_2 c0_3 c0_4 : Nat}
theorem c_s_DrawFrameVictim (fl : Nat) (w : World) (a0 : (List UInt8)) (hn0_0 : n0_0 = (a0).length) (hr0_0 : RO w (hkeys []) (RdL p0_0 c0_0 a0)) (r : Mm) (H0 : s_DrawFrameVictim fl a0 = some r) :
  Ct Tryz.prog 13 [.slice p0_0 n0_0 c0_0] w [] (fun rv h' => ∃ (x0 : Option Addr) (y0 z0 : Nat) (C0 : Res) (x1 : Option Addr) (y1 z1 : Nat) (C1 : Res) (x2 : Option Addr) (y2 z2 : Nat) (C2 : Res) (x3 : Option Addr) (y3 z3 : Nat) (C3 : Res) (x4 : Option Addr) (y4 z4 : Nat) (C4 : Res), rv = .agg #[.slice x0 y0 z0, .slice x1 y1 z1, .slice x2 y2 z2, .int .i64 r.m.c.h, .int .i64 r.m.g.c, .int .i64 r.m.g.n, .int .i64 r.m.g.r, .slice x3 y3 z3, .int .i64 r.m.s, .slice x4 y4 z4, .int .i64 r.h] ∧ h' = [(0, C0), (1, C1), (2, C2), (3, C3), (4, C4)] ∧ y0 = (r.m.t.b).length ∧ OwnC 3 x0 z0 r.m.t.b C0 ∧ y1 = (r.m.t.f).length ∧ OwnC 51 x1 z1 r.m.t.f C1 ∧ y2 = (r.m.c.l).length ∧ OwnC 47 x2 z2 r.m.c.l C2 ∧ y3 = (r.m.g.o).length ∧ OwnC 89 x3 z3 r.m.g.o C3 ∧ y4 = (r.k).length ∧ OwnC 4 x4 z4 r.k C4) := by
 subst hn0_0
 unfold s_DrawFrameVictim at H0
 refine ct_of_cw Tryz.func13 rfl Tryz.ntmps13 rfl (Sat.refl _ _) ?_
 refine sr (oE (stpU_alloc 0 tz37 rfl) rfl ?_)
 rintro _ _ ⟨b1, rfl, rfl⟩
 obtain ⟨x2, e2, H0⟩ := bS H0
 refine nn (sr (oM rfl (oE (stpU_call (fun i => 1 + i) cf16 (fun w hw => c_s_l7Case fl w a0 rfl (RO.pass hr0_0 hw) x2 e2) (yA rfl)) rfl ?_)))
 rintro _ _ ⟨_, ⟨p3, _, c5, C6, p7, _, c9, C10, p11, _, c13, C14, p15, _, c17, C18, p19, _, c21, C22, rfl, rfl, rfl, o6, rfl, o10, rfl, o14, rfl, o18, rfl, o22⟩, rfl⟩
 refine oC11 0 ts37 rfl rfl (nn (cw_ret ?_))
 obtain rfl := sI H0
 exact kr Tryz.results13 (rC11 0 ts37 rfl rfl) [1, 2, 3, 4, 5] ⟨_, _, _, _, _, _, _, _, _, _, _, _, _, _, _, _, _, _, _, _, rfl, rfl, rfl, o6, rfl, o10, rfl, o14, rfl, o18, rfl, o22⟩

theorem c_s_FrameVictim (fl : Nat) (w : World) (a0 : Mm) (hn0_0 : n0_0 = (a0.m.t.b).length) (hr0_0 : RO w (hkeys []) (RdL p0_0 c0_0 a0.m.t.b)) (hn0_1 : n0_1 = (a0.m.t.f).length) (hr0_1 : RO w (hkeys []) (RdL p0_1 c0_1 a0.m.t.f)) (hn0_2 : n0_2 = (a0.m.c.l).length) (hr0_2 : RO w (hkeys []) (RdL p0_2 c0_2 a0.m.c.l)) (hn0_3 : n0_3 = (a0.m.g.o).length) (hr0_3 : RO w (hkeys []) (RdL p0_3 c0_3 a0.m.g.o)) (hn0_4 : n0_4 = (a0.k).length) (hr0_4 : RO w (hkeys []) (RdL p0_4 c0_4 a0.k)) (r : Mm × Int × Bool) (H0 : s_FrameVictim fl a0 = some r) :
  Ct Tryz.prog 14 [.agg #[.slice p0_0 n0_0 c0_0, .slice p0_1 n0_1 c0_1, .slice p0_2 n0_2 c0_2, .int .i64 a0.m.c.h, .int .i64 a0.m.g.c, .int .i64 a0.m.g.n, .int .i64 a0.m.g.r, .slice p0_3 n0_3 c0_3, .int .i64 a0.m.s, .slice p0_4 n0_4 c0_4, .int .i64 a0.h]] w [] (fun rv h' => ∃ (x0 : Option Addr) (y0 z0 : Nat) (C0 : Res) (x1 : Option Addr) (y1 z1 : Nat) (C1 : Res) (x2 : Option Addr) (y2 z2 : Nat) (C2 : Res) (x3 : Option Addr) (y3 z3 : Nat) (C3 : Res) (x4 : Option Addr) (y4 z4 : Nat) (C4 : Res), rv = .tuple #[.agg #[.slice x0 y0 z0, .slice x1 y1 z1, .slice x2 y2 z2, .int .i64 r.1.m.c.h, .int .i64 r.1.m.g.c, .int .i64 r.1.m.g.n, .int .i64 r.1.m.g.r, .slice x3 y3 z3, .int .i64 r.1.m.s, .slice x4 y4 z4, .int .i64 r.1.h], .int .i64 r.2.1, .bool r.2.2] ∧ h' = [(0, C0), (1, C1), (2, C2), (3, C3), (4, C4)] ∧ y0 = (r.1.m.t.b).length ∧ OwnC 3 x0 z0 r.1.m.t.b C0 ∧ y1 = (r.1.m.t.f).length ∧ OwnC 51 x1 z1 r.1.m.t.f C1 ∧ y2 = (r.1.m.c.l).length ∧ OwnC 47 x2 z2 r.1.m.c.l C2 ∧ y3 = (r.1.m.g.o).length ∧ OwnC 89 x3 z3 r.1.m.g.o C3 ∧ y4 = (r.1.k).length ∧ OwnC 4 x4 z4 r.1.k C4) := by
 subst hn0_0 hn0_1 hn0_2 hn0_3 hn0_4
 unfold s_FrameVictim at H0
 refine ct_of_cw Tryz.func14 rfl Tryz.ntmps14 rfl (Sat.refl _ _) ?_
 refine sr (oE (stpU_box 0 rfl rfl) rfl ?_)
 rintro _ _ ⟨b1, rfl, rfl⟩
 refine oE (stpU_alloc 1 tz37 rfl) rfl ?_
 rintro _ _ ⟨b2, rfl, rfl⟩
 obtain ⟨x3, e3, H0⟩ := bS H0
 refine oS rfl (oS rfl (nn (cw_seq (sr (oB11 0 ts37 rfl (oE (stpU_call (fun i => 2 + i) cf11 (fun w hw => c_s_MemoryValid fl w a0 rfl (RO.pass hr0_0 hw) rfl (RO.pass hr0_1 hw) rfl (RO.pass hr0_2 hw) rfl (RO.pass hr0_3 hw) rfl (RO.pass hr0_4 hw) x3 e3) (yA rfl)) rfl ?_))))))
 rintro _ _ ⟨_, ⟨rfl, rfl⟩, rfl⟩
 refine oK rfl (nn (cw_cond rfl (fun h4 => ?_) (fun h4 => ?_)))
 ·have H0 := cond_t H0 h4
  refine sr (oD (stp_build (cs := #[.slice none 0 0, .slice none 0 0, .slice none 0 0, .int .i64 0, .int .i64 0, .int .i64 0, .int .i64 0, .slice none 0 0, .int .i64 0, .slice none 0 0, .int .i64 0]) sevp_nil bt37_19) rfl (oC11 1 ts37 rfl rfl (oS rfl (oS rfl (nn (cw_ret (kw_nx_ret (kw_addNil 2 (kw_addNil 3 (kw_addNil 4 (kw_addNil 5 (kw_addNil 6 ?_))))))))))))
  obtain rfl := sI H0
  exact kr Tryz.results14 (.cons (.cellN (us := [_, _, _, _, _, _, _, _, _, _, _]) ts37 rfl (Cells.box (id := 1) rfl 11 rfl)) (.cons (.tmp rfl) (rT rfl))) [2, 3, 4, 5, 6] ⟨_, _, _, _, _, _, _, _, _, _, _, _, _, _, _, _, _, _, _, _, rfl, rfl, rfl, (OwnC.nil _ _), rfl, (OwnC.nil _ _), rfl, (OwnC.nil _ _), rfl, (OwnC.nil _ _), rfl, (OwnC.nil _ _)⟩
 have H0 := cond_f H0 h4
 obtain ⟨x5, e5, H0⟩ := bS H0
 refine cw_skip (kw_nx (sr (oB11 0 ts37 rfl (oE (stpU_call (fun i => 7 + i) cf25 (fun w hw => c_s_l7Clock fl w a0 rfl (RO.pass hr0_0 hw) rfl (RO.pass hr0_1 hw) rfl (RO.pass hr0_2 hw) rfl (RO.pass hr0_3 hw) rfl (RO.pass hr0_4 hw) x5 e5) (yA rfl)) rfl ?_))))
 rintro _ _ ⟨_, ⟨p6, _, c8, C9, p10, _, c12, C13, p14, _, c16, C17, p18, _, c20, C21, p22, _, c24, C25, rfl, rfl, rfl, o9, rfl, o13, rfl, o17, rfl, o21, rfl, o25⟩, rfl⟩
 refine oM rfl (oT rfl (oT rfl (oE (stpU_alloc 12 tz37 rfl) rfl ?_)))
 rintro _ _ ⟨b26, rfl, rfl⟩
 refine oC11 12 ts37 rfl rfl (oS rfl (nn (cw_seq (sr (oM rfl (oW rfl (nn (cw_cond rfl (fun h27 => ?_) (fun h27 => ?_)))))))))
 ·have H0 := cond_t H0 h27
  refine sr (oD (stp_build (cs := #[.slice none 0 0, .slice none 0 0, .slice none 0 0, .int .i64 0, .int .i64 0, .int .i64 0, .int .i64 0, .slice none 0 0, .int .i64 0, .slice none 0 0, .int .i64 0]) sevp_nil bt37_19) rfl (oC11 1 ts37 rfl rfl (oS rfl (oS rfl (nn (cw_ret (kw_nx_ret (kw_addNil 13 (kw_addNil 14 (kw_addNil 15 (kw_addNil 16 (kw_addNil 17 ?_))))))))))))
  obtain rfl := sI H0
  exact kr Tryz.results14 (.cons (.cellN (us := [_, _, _, _, _, _, _, _, _, _, _]) ts37 rfl (Cells.box (id := 1) rfl 11 rfl)) (.cons (.tmp rfl) (rT rfl))) [13, 14, 15, 16, 17] ⟨_, _, _, _, _, _, _, _, _, _, _, _, _, _, _, _, _, _, _, _, rfl, rfl, rfl, (OwnC.nil _ _), rfl, (OwnC.nil _ _), rfl, (OwnC.nil _ _), rfl, (OwnC.nil _ _), rfl, (OwnC.nil _ _)⟩
 have H0 := cond_f H0 h27
 refine cw_skip (kw_nx (sr (oB11 12 ts37 rfl (oM rfl (oC11 1 ts37 rfl rfl (oS rfl (oS rfl (nn (cw_ret ?_)))))))))
 obtain rfl := sI H0
 exact kr Tryz.results14 (.cons (.cellN (us := [_, _, _, _, _, _, _, _, _, _, _]) ts37 rfl (Cells.box (id := 1) rfl 11 rfl)) (.cons (.tmp rfl) (rT rfl))) [7, 8, 9, 10, 11] ⟨_, _, _, _, _, _, _, _, _, _, _, _, _, _, _, _, _, _, _, _, rfl, rfl, rfl, o9, rfl, o13, rfl, o17, rfl, o21, rfl, o25⟩
end Go.Proofs.YtkccmjfhmkjnlaaGreatDoor
