/- The walks: functions of the program return what their pure functions say. Printed by a program (gen.py). -/
import Derived.Test.YtfnliecmagnkdaaDoorGp
import Derived.Test.YtfnliecmagnkdaaDoorGt
import Derived.Test.YtfnliecmagnkdaaDoorMan
import Derived.Test.YtfnliecmagnkdaaDoorMap
import Derived.Test.YtfnliecmagnkdaaDoorCpy
import Derived.Test.YtfnliecmagnkdaaDoorClr
import Derived.Test.YtfnliecmagnkdaaDoorDp
import Derived.Test.YtfnliecmagnkdaaDoorSrt
import Derived.Test.YtfnliecmagnkdaaDoorE8
import Derived.Test.YtfnliecmagnkdaaDoorGwap
import Derived.Test.YtfnliecmagnkdaaDoorGwaq
import Derived.Test.YtfnliecmagnkdaaDoorGwaw
set_option linter.unusedSimpArgs false
set_option linter.unusedVariables false
set_option linter.unusedSectionVars false
namespace Go.Proofs.YtfnliecmagnkdaaDoor
open Go.RowKit
set_option maxHeartbeats 4000000
set_option maxRecDepth 20000
variable {p0_0 p0_1 p0_2 : Option Addr} {n0_0 n0_1 n0_2 : Nat} {c0_0 c0_1 c0_2 : Nat}
theorem c_i_AckCpu (fl : Nat) (w : World) (a0 : Sy) (a1 : Int) (hn0_0 : n0_0 = (a0.t.b).length) (hr0_0 : RO w (hkeys []) (RdL p0_0 c0_0 a0.t.b)) (hn0_1 : n0_1 = (a0.t.f).length) (hr0_1 : RO w (hkeys []) (RdL p0_1 c0_1 a0.t.f)) (hn0_2 : n0_2 = (a0.c).length) (hr0_2 : ROD w (hkeys []) p0_2 c0_2 a0.c) (hg : RO w (hkeys []) (fun w' => w'.rangeAt 0 0 [.bool false, .int .i64 0, .int .i64 0, .int .i64 0, .int .i64 (-1)])) (r : Sy × Bool) (H0 : i_AckCpu fl a0 a1 = some r) :
  Ct Tryd.prog 29 [.agg #[.slice p0_0 n0_0 c0_0, .slice p0_1 n0_1 c0_1, .slice p0_2 n0_2 c0_2], .int .i64 a1] w [] (fun rv h' => ∃ (x0 : Option Addr) (y0 z0 : Nat) (C0 : Res) (x1 : Option Addr) (y1 z1 : Nat) (C1 : Res) (x2 : Option Addr) (y2 z2 : Nat) (C2 : Res), rv = .tuple #[.agg #[.slice x0 y0 z0, .slice x1 y1 z1, .slice x2 y2 z2], .bool r.2] ∧ h' = [(0, C0), (1, C1), (2, C2)] ∧ y0 = (r.1.t.b).length ∧ OwnC 3 x0 z0 r.1.t.b C0 ∧ y1 = (r.1.t.f).length ∧ OwnC 84 x1 z1 r.1.t.f C1 ∧ y2 = (r.1.c).length ∧ OwnD 44 48 x2 z2 r.1.c C2) := by
 subst hn0_0 hn0_1 hn0_2
 unfold i_AckCpu at H0
 refine ct_of_cw Tryd.func29 rfl Tryd.ntmps29 rfl (Sat.refl _ _) ?_
 refine sr (oE (stpU_box 0 rfl rfl) rfl ?_)
 rintro _ _ ⟨b1, rfl, rfl⟩
 refine oE (stpU_alloc 1 tz36 rfl) rfl ?_
 rintro _ _ ⟨b2, rfl, rfl⟩
 obtain ⟨x3, e3, H0⟩ := bS H0
 refine oS rfl (nn (cw_seq (sr (oB3 0 ts36 rfl (oM rfl (oE (stpU_call (fun i => 2 + i) cf71 (fun w hw => c_i_cpuOf fl w a0 a1 rfl (RO.pass hr0_0 hw) rfl (RO.pass hr0_1 hw) rfl (ROD.pass hr0_2 hw) (RO.pass hg hw) x3 e3) (yB rfl rfl)) rfl ?_))))))
 rintro _ _ ⟨_, ⟨rfl, rfl⟩, rfl⟩
 refine oK rfl (nn (cw_cond rfl (fun h4 => ?_) (fun h4 => ?_)))
 ·have H0 := cond_t H0 h4
  refine sr (oD (stp_build (cs := #[.slice none 0 0, .slice none 0 0, .slice none 0 0]) sevp_nil bt36_2) rfl (oC3 1 ts36 rfl rfl (oS rfl (nn (cw_ret (kw_nx_ret (kw_addNil 2 (kw_addNil 3 (kw_addNil 4 ?_)))))))))
  obtain rfl := sI H0
  exact kr Tryd.results29 (.cons (.cellN (us := [_, _, _]) ts36 rfl (Cells.box (id := 1) rfl 3 rfl)) (rT rfl)) [2, 3, 4] ⟨_, _, _, _, _, _, _, _, _, _, _, _, rfl, rfl, rfl, (OwnC.nil _ _), rfl, (OwnC.nil _ _), rfl, (OwnD.nil _ _ _)⟩
 have H0 := cond_f H0 h4
 obtain ⟨x5, e5, H0⟩ := bS H0
 refine cw_skip (kw_nx (sr (oB3 0 ts36 rfl (oE (stpU_call (fun i => 5 + i) cf72 (fun w hw => c_i_System_clone fl w a0 rfl (RO.pass hr0_0 hw) rfl (RO.pass hr0_1 hw) rfl (ROD.pass hr0_2 hw) x5 e5) (yA rfl)) rfl ?_))))
 rintro _ _ ⟨_, ⟨p6, _, c8, C9, p10, _, c12, C13, p14, _, c16, C17, rfl, rfl, rfl, o9, rfl, o13, rfl, o17⟩, rfl⟩
 refine oE (stpU_alloc 8 tz36 rfl) rfl ?_
 rintro _ _ ⟨b18, rfl, rfl⟩
 obtain ⟨x19, e19, H0⟩ := bS H0
 refine oC3 8 ts36 rfl rfl (nn (sr (oA 2 Tryd.underlying36 rfl ts34 rfl (oL 8 ts34 rfl (oM rfl (ow_open 7 9 10 11 rfl o17 e19 ?_))))))
 rintro u20 p21 n22 c23 p24 n25 c26 C27 C28 C29 C30 o27 hb28 hx20 rfl o29 rfl o30
 refine oD (stp_indexAddr Tryd.underlying34 ts44 (by decide) rfl (Bun.len hb28) rfl (Rdb.own (id := 7) rfl o27) hx20) rfl (ow_shut 7 9 10 11 o27 hb28 (idx_some hx20).2.2 (idx_some e19).2.2 rfl o29 rfl o30 ?_)
 rintro C31 o31
 obtain ⟨x32, e32, H0⟩ := bS H0
 refine oE (stpU_callM (fun i => bif Nat.beq i 0 then 7 else 12 + i) cf81 (fun w hw hb => c_i_Cpu_ack fl w x5.c a1 rfl o31 (hw.pass (js := [7]) ⟨7, [], rfl, rfl, trivial⟩ (by decide)) x32 e32) (yA rfl) ⟨rfl, (fun _ _ hp => by obtain ⟨_, _, rfl, _⟩ := hp; exact ⟨_, rfl⟩), trivial⟩) rfl ?_
 rintro _ _ ⟨_, ⟨C33, rfl, rfl, hl33, o33⟩, rfl⟩
 refine nn (sr (oB3 8 ts36 rfl (oC3 1 ts36 rfl rfl (oS rfl (nn (cw_ret ?_))))))
 obtain rfl := sI H0
 exact kr Tryd.results29 (.cons (.cellN (us := [_, _, _]) ts36 rfl (Cells.box (id := 1) rfl 3 rfl)) (rT rfl)) [5, 6, 7] ⟨_, _, _, _, _, _, _, _, _, _, _, _, rfl, rfl, rfl, o9, rfl, o13, (by simp [hl33]), o33⟩
end Go.Proofs.YtfnliecmagnkdaaDoor
