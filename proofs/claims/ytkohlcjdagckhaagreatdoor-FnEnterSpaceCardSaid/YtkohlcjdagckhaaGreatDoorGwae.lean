/- The walks: functions of the program return what their pure functions say. Printed by a program (gen.py). -/
import Derived.Test.YtkohlcjdagckhaaGreatDoorGp
import Derived.Test.YtkohlcjdagckhaaGreatDoorGt
import Derived.Test.YtkohlcjdagckhaaGreatDoorMan
import Derived.Test.YtkohlcjdagckhaaGreatDoorMap
import Derived.Test.YtkohlcjdagckhaaGreatDoorCpy
import Derived.Test.YtkohlcjdagckhaaGreatDoorE8
import Derived.Test.YtkohlcjdagckhaaGreatDoorGwac
import Derived.Test.YtkohlcjdagckhaaGreatDoorGws
set_option linter.unusedSimpArgs false
set_option linter.unusedVariables false
set_option linter.unusedSectionVars false
namespace Go.Proofs.YtkohlcjdagckhaaGreatDoor
open Go.RowKit
set_option maxHeartbeats 4000000
set_option maxRecDepth 20000
variable {p0_0 : Option Addr} {n0_0 : Nat} {c0_0 : Nat}
theorem c_s_l6Case (fl : Nat) (w : World) (a0 : (List UInt8)) (hn0_0 : n0_0 = (a0).length) (hr0_0 : RO w (hkeys []) (RdL p0_0 c0_0 a0)) (r : Mc) (H0 : s_l6Case fl a0 = some r) :
  Ct Tryz.prog 45 [.slice p0_0 n0_0 c0_0] w [] (fun rv h' => ∃ (x0 : Option Addr) (y0 z0 : Nat) (C0 : Res) (x1 : Option Addr) (y1 z1 : Nat) (C1 : Res) (x2 : Option Addr) (y2 z2 : Nat) (C2 : Res) (x3 : Option Addr) (y3 z3 : Nat) (C3 : Res), rv = .agg #[.slice x0 y0 z0, .slice x1 y1 z1, .slice x2 y2 z2, .int .i64 r.c.h, .int .i64 r.g.c, .int .i64 r.g.n, .int .i64 r.g.r, .slice x3 y3 z3, .int .i64 r.s] ∧ h' = [(0, C0), (1, C1), (2, C2), (3, C3)] ∧ y0 = (r.t.b).length ∧ OwnC 3 x0 z0 r.t.b C0 ∧ y1 = (r.t.f).length ∧ OwnC 58 x1 z1 r.t.f C1 ∧ y2 = (r.c.l).length ∧ OwnC 41 x2 z2 r.c.l C2 ∧ y3 = (r.g.o).length ∧ OwnC 118 x3 z3 r.g.o C3) := by
 subst hn0_0
 unfold s_l6Case at H0
 refine ct_of_cw Tryz.func45 rfl Tryz.ntmps45 rfl (Sat.refl _ _) ?_
 refine sr (oE (stpU_alloc 0 tz34 rfl) rfl ?_)
 rintro _ _ ⟨b1, rfl, rfl⟩
 refine nn (sr (oM rfl (oE (stpU_call (fun i => 1 + i) cf46 (fun w hw => c_open46 w a0 p0_0 ((a0).length) c0_0 rfl (RO.cap hr0_0).1) (yA rfl)) rfl ?_)))
 rintro _ _ ⟨_, ⟨b2, rfl, rfl⟩, rfl⟩
 obtain ⟨x3, e3, H0⟩ := bS H0
 refine oS rfl (nn (sr (oM rfl (oM rfl (oE (stpU_callM (fun i => bif Nat.beq i 0 then 1 else 2 + i) cf64 (fun w hw hb => c_s_l6Draw fl w b2 (a0.take 2000) 0 rfl (RO.passM (RO.takeN 2000 hr0_0) hw hb) (hw.pass (js := [1]) ⟨1, [], rfl, rfl, trivial⟩ (by decide)) x3 e3) (yA rfl) ⟨rfl, (fun _ _ hp => by obtain ⟨_, _, _, _, _, _, _, _, _, _, _, _, _, _, _, _, _, rfl, _⟩ := hp; exact ⟨_, rfl⟩), trivial⟩) rfl ?_)))))
 rintro _ _ ⟨_, ⟨p4, _, c6, C7, p8, _, c10, C11, p12, _, c14, C15, p16, _, c18, C19, rfl, rfl, rfl, o7, rfl, o11, rfl, o15, rfl, o19⟩, rfl⟩
 obtain ⟨x20, e20, H0⟩ := bS H0
 refine oE (stpU_callM (fun i => bif Nat.beq i 0 then 1 else 7 + i) cf63 (fun w hw hb => c_s_l6Wrong fl w b2 (a0.take 2000) x3.2 x3.1 rfl (RO.passM (RO.takeN 2000 hr0_0) hw hb) rfl (OwnC.passM (id := 3) rfl o7 hw hb ⟨rfl, trivial⟩) rfl (OwnC.passM (id := 4) rfl o11 hw hb ⟨rfl, trivial⟩) rfl (OwnC.passM (id := 5) rfl o15 hw hb ⟨rfl, trivial⟩) rfl (OwnC.passM (id := 6) rfl o19 hw hb ⟨rfl, trivial⟩) (hw.pass (js := [1]) ⟨1, [], rfl, rfl, trivial⟩ (by decide)) x20 e20) (yB rfl rfl) ⟨rfl, (fun _ _ hp => by obtain ⟨_, _, _, _, _, _, _, _, _, _, _, _, _, _, _, _, _, rfl, _⟩ := hp; exact ⟨_, rfl⟩), trivial⟩) rfl ?_
 rintro _ _ ⟨_, ⟨p21, _, c23, C24, p25, _, c27, C28, p29, _, c31, C32, p33, _, c35, C36, rfl, rfl, rfl, o24, rfl, o28, rfl, o32, rfl, o36⟩, rfl⟩
 refine oC9 0 ts34 rfl rfl (nn (cw_ret ?_))
 obtain rfl := sI H0
 exact kr Tryz.results45 (rC9 0 ts34 rfl rfl) [8, 9, 10, 11] ⟨_, _, _, _, _, _, _, _, _, _, _, _, _, _, _, _, rfl, rfl, rfl, o24, rfl, o28, rfl, o32, rfl, o36⟩
end Go.Proofs.YtkohlcjdagckhaaGreatDoor
