/- The walks: functions of the program return what their pure functions say. Printed by a program (gen.py). -/
import Derived.Test.YtkohlcjdagckhaaGreatDoorGp
import Derived.Test.YtkohlcjdagckhaaGreatDoorGt
import Derived.Test.YtkohlcjdagckhaaGreatDoorMan
import Derived.Test.YtkohlcjdagckhaaGreatDoorMap
import Derived.Test.YtkohlcjdagckhaaGreatDoorCpy
import Derived.Test.YtkohlcjdagckhaaGreatDoorE8
import Derived.Test.YtkohlcjdagckhaaGreatDoorGwaa
import Derived.Test.YtkohlcjdagckhaaGreatDoorGwae
import Derived.Test.YtkohlcjdagckhaaGreatDoorGws
set_option linter.unusedSimpArgs false
set_option linter.unusedVariables false
set_option linter.unusedSectionVars false
namespace Go.Proofs.YtkohlcjdagckhaaGreatDoor
open Go.RowKit
set_option maxHeartbeats 4000000
set_option maxRecDepth 20000
variable {p0_0 : Option Addr} {n0_0 : Nat} {c0_0 : Nat}
theorem c_s_DrawEnterSpace (fl : Nat) (w : World) (a0 : (List UInt8)) (hn0_0 : n0_0 = (a0).length) (hr0_0 : RO w (hkeys []) (RdL p0_0 c0_0 a0)) (r : Mc × Int) (H0 : s_DrawEnterSpace fl a0 = some r) :
  Ct Tryz.prog 15 [.slice p0_0 n0_0 c0_0] w [] (fun rv h' => ∃ (x0 : Option Addr) (y0 z0 : Nat) (C0 : Res) (x1 : Option Addr) (y1 z1 : Nat) (C1 : Res) (x2 : Option Addr) (y2 z2 : Nat) (C2 : Res) (x3 : Option Addr) (y3 z3 : Nat) (C3 : Res), rv = .tuple #[.agg #[.slice x0 y0 z0, .slice x1 y1 z1, .slice x2 y2 z2, .int .i64 r.1.c.h, .int .i64 r.1.g.c, .int .i64 r.1.g.n, .int .i64 r.1.g.r, .slice x3 y3 z3, .int .i64 r.1.s], .int .i64 r.2] ∧ h' = [(0, C0), (1, C1), (2, C2), (3, C3)] ∧ y0 = (r.1.t.b).length ∧ OwnC 3 x0 z0 r.1.t.b C0 ∧ y1 = (r.1.t.f).length ∧ OwnC 58 x1 z1 r.1.t.f C1 ∧ y2 = (r.1.c.l).length ∧ OwnC 41 x2 z2 r.1.c.l C2 ∧ y3 = (r.1.g.o).length ∧ OwnC 118 x3 z3 r.1.g.o C3) := by
 subst hn0_0
 unfold s_DrawEnterSpace at H0
 refine ct_of_cw Tryz.func15 rfl Tryz.ntmps15 rfl (Sat.refl _ _) ?_
 refine sr (oE (stpU_alloc 0 tz34 rfl) rfl ?_)
 rintro _ _ ⟨b1, rfl, rfl⟩
 obtain ⟨x2, e2, H0⟩ := bS H0
 refine oS rfl (nn (sr (oM rfl (oE (stpU_call (fun i => 1 + i) cf45 (fun w hw => c_s_l6Case fl w a0 rfl (RO.pass hr0_0 hw) x2 e2) (yA rfl)) rfl ?_))))
 rintro _ _ ⟨_, ⟨p3, _, c5, C6, p7, _, c9, C10, p11, _, c13, C14, p15, _, c17, C18, rfl, rfl, rfl, o6, rfl, o10, rfl, o14, rfl, o18⟩, rfl⟩
 refine oM rfl (oE (stpU_call (fun i => 5 + i) cf46 (fun w hw => c_open46 w a0 p0_0 ((a0).length) c0_0 rfl (RO.cap hr0_0).1) (yA rfl)) rfl ?_)
 rintro _ _ ⟨_, ⟨b19, rfl, rfl⟩, rfl⟩
 refine oE (stpU_lit (sz := 1) (l := [0, 1, 2, 3, 7, 15, 16]) [.int .i64 0, .int .i64 1, .int .i64 2, .int .i64 3, .int .i64 7, .int .i64 15, .int .i64 16] sl23 6 (sevp_cons rfl (sevp_cons rfl (sevp_cons rfl (sevp_cons rfl (sevp_cons rfl (sevp_cons rfl (sevp_cons rfl sevp_nil))))))) rfl rfl rfl rfl rfl rfl rfl rfl rfl) rfl ?_
 rintro _ _ ⟨p20, C21, rfl, rfl, o21⟩
 obtain ⟨x22, e22, H0⟩ := bS H0
 refine oE (stpU_callM (fun i => bif Nat.beq i 0 then 5 else 7 + i) cf47 (fun w hw hb => c_s_l12Rd_num fl w b19 (a0.take 2000) 0 ([0, 1, 2, 3, 7, 15, 16]) rfl (RO.passM (RO.takeN 2000 hr0_0) hw hb) (by simp) (OwnC.passM (id := 6) rfl o21 hw hb ⟨rfl, trivial⟩) (hw.pass (js := [5]) ⟨5, [], rfl, rfl, trivial⟩ (by decide)) x22 e22) (yB rfl rfl) ⟨rfl, (fun _ _ hp => by obtain ⟨_, rfl⟩ := hp; exact ⟨_, rfl⟩), trivial⟩) rfl ?_
 rintro _ _ ⟨_, ⟨rfl, rfl⟩, rfl⟩
 refine oC9 0 ts34 rfl rfl (oS rfl (nn (cw_ret ?_)))
 obtain rfl := sI H0
 exact kr Tryz.results15 (.cons (.cellN (us := [_, _, _, _, _, _, _, _, _]) ts34 rfl (Cells.box (id := 0) rfl 9 rfl)) (rT rfl)) [1, 2, 3, 4] ⟨_, _, _, _, _, _, _, _, _, _, _, _, _, _, _, _, rfl, rfl, rfl, o6, rfl, o10, rfl, o14, rfl, o18⟩
end Go.Proofs.YtkohlcjdagckhaaGreatDoor
