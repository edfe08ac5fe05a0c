/- The walks: functions of the program return what their pure functions say. Printed by a program (gen.py). -/
import Derived.Test.YtkohlcjdagckhaaGreatDoorWp
import Derived.Test.YtkohlcjdagckhaaGreatDoorWt
import Derived.Test.YtkohlcjdagckhaaGreatDoorMan
import Derived.Test.YtkohlcjdagckhaaGreatDoorMap
import Derived.Test.YtkohlcjdagckhaaGreatDoorCpy
import Derived.Test.YtkohlcjdagckhaaGreatDoorWe
import Derived.Test.YtkohlcjdagckhaaGreatDoorWwaa
import Derived.Test.YtkohlcjdagckhaaGreatDoorWwab
import Derived.Test.YtkohlcjdagckhaaGreatDoorWws
set_option linter.unusedSimpArgs false
set_option linter.unusedVariables false
set_option linter.unusedSectionVars false
namespace Go.Proofs.YtkohlcjdagckhaaGreatDoor
open Go.RowKit
set_option maxHeartbeats 4000000
set_option maxRecDepth 20000
variable {p0_0 p0_0_0 p0_1 p1_0 p1_1 p1_2 p1_3 : Option Addr} {n0_0 n0_0_0 n0_1 n1_0 n1_1 n1_2 n1_3 : Nat} {c0_0 c0_0_0 c0_1 c1_0 c1_1 c1_2 c1_3 : Nat}
theorem c_s_l6Draw (fl : Nat) (w : World) (m0 : Nat) (a0_0 : (List UInt8)) (a0_1 : Int) (hn0_0_0 : n0_0_0 = (a0_0).length) (hr0_0_0 : RO w (hkeys [(0, [(m0, .cells #[.slice p0_0_0 n0_0_0 c0_0_0, .int .i64 a0_1] 124 (0, 0))])]) (RdL p0_0_0 c0_0_0 a0_0)) (hM : Sat w (hkeys [(0, [(m0, .cells #[.slice p0_0_0 n0_0_0 c0_0_0, .int .i64 a0_1] 124 (0, 0))])]) w [(0, [(m0, .cells #[.slice p0_0_0 n0_0_0 c0_0_0, .int .i64 a0_1] 124 (0, 0))])]) (r : Mc × Int) (H0 : s_l6Draw fl a0_0 a0_1 = some r) :
  Ct Tryz.prog 64 [.pointer (some ⟨m0, 0, none⟩)] w [(0, [(m0, .cells #[.slice p0_0_0 n0_0_0 c0_0_0, .int .i64 a0_1] 124 (0, 0))])] (fun rv h' => ∃ (x1 : Option Addr) (y1 z1 : Nat) (C1 : Res) (x2 : Option Addr) (y2 z2 : Nat) (C2 : Res) (x3 : Option Addr) (y3 z3 : Nat) (C3 : Res) (x4 : Option Addr) (y4 z4 : Nat) (C4 : Res), rv = .agg #[.slice x1 y1 z1, .slice x2 y2 z2, .slice x3 y3 z3, .int .i64 r.1.c.h, .int .i64 r.1.g.c, .int .i64 r.1.g.n, .int .i64 r.1.g.r, .slice x4 y4 z4, .int .i64 r.1.s] ∧ h' = [(0, [(m0, .cells #[.slice p0_0_0 n0_0_0 c0_0_0, .int .i64 r.2] 124 (0, 0))]), (1, C1), (2, C2), (3, C3), (4, C4)] ∧ y1 = (r.1.t.b).length ∧ OwnC 3 x1 z1 r.1.t.b C1 ∧ y2 = (r.1.t.f).length ∧ OwnC 58 x2 z2 r.1.t.f C2 ∧ y3 = (r.1.c.l).length ∧ OwnC 41 x3 z3 r.1.c.l C3 ∧ y4 = (r.1.g.o).length ∧ OwnC 118 x4 z4 r.1.g.o C4) := by
 subst hn0_0_0
 unfold s_l6Draw at H0
 refine ct_of_cw Tryz.func64 rfl Tryz.ntmps64 rfl hM ?_
 refine sr (oE (stpU_alloc 1 tz34 rfl) rfl ?_)
 rintro _ _ ⟨b1, rfl, rfl⟩
 refine nn (sr (oM rfl (oE (stpU_lit (sz := 1) (l := [6, 4, 8]) [.int .i64 6, .int .i64 4, .int .i64 8] sl23 2 (sevp_cons rfl (sevp_cons rfl (sevp_cons rfl sevp_nil))) rfl rfl rfl rfl rfl rfl rfl rfl rfl) rfl ?_)))
 rintro _ _ ⟨p2, C3, rfl, rfl, o3⟩
 obtain ⟨x4, e4, H0⟩ := bS H0
 refine oE (stpU_callM (fun i => bif Nat.beq i 0 then 0 else 3 + i) cf47 (fun w hw hb => c_s_l12Rd_num fl w m0 a0_0 a0_1 ([6, 4, 8]) rfl (RO.passM hr0_0_0 hw hb) (by simp) (OwnC.passM (id := 2) rfl o3 hw hb ⟨rfl, trivial⟩) (hw.pass (js := [0]) ⟨0, [], rfl, rfl, trivial⟩ (by decide)) x4 e4) (yB rfl rfl) ⟨rfl, (fun _ _ hp => by obtain ⟨_, rfl⟩ := hp; exact ⟨_, rfl⟩), trivial⟩) rfl ?_
 rintro _ _ ⟨_, ⟨rfl, rfl⟩, rfl⟩
 refine oM rfl (oE (stpU_lit (sz := 1) (l := [4, 2, 1]) [.int .i64 4, .int .i64 2, .int .i64 1] sl23 4 (sevp_cons rfl (sevp_cons rfl (sevp_cons rfl sevp_nil))) rfl rfl rfl rfl rfl rfl rfl rfl rfl) rfl ?_)
 rintro _ _ ⟨p5, C6, rfl, rfl, o6⟩
 obtain ⟨x7, e7, H0⟩ := bS H0
 refine oE (stpU_callM (fun i => bif Nat.beq i 0 then 0 else 5 + i) cf47 (fun w hw hb => c_s_l12Rd_num fl w m0 a0_0 x4.2 ([4, 2, 1]) rfl (RO.passM hr0_0_0 hw hb) (by simp) (OwnC.passM (id := 4) rfl o6 hw hb ⟨rfl, trivial⟩) (hw.pass (js := [0]) ⟨0, [], rfl, rfl, trivial⟩ (by decide)) x7 e7) (yB rfl rfl) ⟨rfl, (fun _ _ hp => by obtain ⟨_, rfl⟩ := hp; exact ⟨_, rfl⟩), trivial⟩) rfl ?_
 rintro _ _ ⟨_, ⟨rfl, rfl⟩, rfl⟩
 refine oM rfl (oE (stpU_lit (sz := 1) (l := [3, 2, 4, 1]) [.int .i64 3, .int .i64 2, .int .i64 4, .int .i64 1] sl23 6 (sevp_cons rfl (sevp_cons rfl (sevp_cons rfl (sevp_cons rfl sevp_nil)))) rfl rfl rfl rfl rfl rfl rfl rfl rfl) rfl ?_)
 rintro _ _ ⟨p8, C9, rfl, rfl, o9⟩
 obtain ⟨x10, e10, H0⟩ := bS H0
 refine oE (stpU_callM (fun i => bif Nat.beq i 0 then 0 else 7 + i) cf47 (fun w hw hb => c_s_l12Rd_num fl w m0 a0_0 x7.2 ([3, 2, 4, 1]) rfl (RO.passM hr0_0_0 hw hb) (by simp) (OwnC.passM (id := 6) rfl o9 hw hb ⟨rfl, trivial⟩) (hw.pass (js := [0]) ⟨0, [], rfl, rfl, trivial⟩ (by decide)) x10 e10) (yB rfl rfl) ⟨rfl, (fun _ _ hp => by obtain ⟨_, rfl⟩ := hp; exact ⟨_, rfl⟩), trivial⟩) rfl ?_
 rintro _ _ ⟨_, ⟨rfl, rfl⟩, rfl⟩
 refine oM rfl (oE (stpU_lit (sz := 1) (l := [2, 3, 1]) [.int .i64 2, .int .i64 3, .int .i64 1] sl23 8 (sevp_cons rfl (sevp_cons rfl (sevp_cons rfl sevp_nil))) rfl rfl rfl rfl rfl rfl rfl rfl rfl) rfl ?_)
 rintro _ _ ⟨p11, C12, rfl, rfl, o12⟩
 obtain ⟨x13, e13, H0⟩ := bS H0
 refine oE (stpU_callM (fun i => bif Nat.beq i 0 then 0 else 9 + i) cf47 (fun w hw hb => c_s_l12Rd_num fl w m0 a0_0 x10.2 ([2, 3, 1]) rfl (RO.passM hr0_0_0 hw hb) (by simp) (OwnC.passM (id := 8) rfl o12 hw hb ⟨rfl, trivial⟩) (hw.pass (js := [0]) ⟨0, [], rfl, rfl, trivial⟩ (by decide)) x13 e13) (yB rfl rfl) ⟨rfl, (fun _ _ hp => by obtain ⟨_, rfl⟩ := hp; exact ⟨_, rfl⟩), trivial⟩) rfl ?_
 rintro _ _ ⟨_, ⟨rfl, rfl⟩, rfl⟩
 obtain ⟨x14, e14, H0⟩ := bS H0
 refine oE (stpU_call (fun i => 10 + i) cf120 (fun w hw => c_s_NewMachine fl w x4.1 x7.1 x10.1 x13.1 x14 e14) (yD rfl rfl rfl rfl)) rfl ?_
 rintro _ _ ⟨_, ⟨p15, _, c17, C18, p19, _, c21, C22, p23, _, c25, C26, p27, _, c29, C30, rfl, rfl, rfl, o18, rfl, o22, rfl, o26, rfl, o30⟩, rfl⟩
 refine oM rfl (oT rfl (oT rfl (oE (stpU_alloc 14 tz34 rfl) rfl ?_)))
 rintro _ _ ⟨b31, rfl, rfl⟩
 obtain ⟨x32, e32, H0⟩ := bS H0
 refine oC9 14 ts34 rfl rfl (oS rfl (nn (cw_seq (sr (oM rfl (oE (stpU_callM (fun i => bif Nat.beq i 0 then 0 else 15 + i) cf66 (fun w hw hb => c_s_l12Rd_pick fl w m0 a0_0 x13.2 10 rfl (RO.passM hr0_0_0 hw hb) (hw.pass (js := [0]) ⟨0, [], rfl, rfl, trivial⟩ (by decide)) x32 e32) (yB rfl rfl) ⟨rfl, (fun _ _ hp => by obtain ⟨_, rfl⟩ := hp; exact ⟨_, rfl⟩), trivial⟩) rfl ?_))))))
 rintro _ _ ⟨_, ⟨rfl, rfl⟩, rfl⟩
 obtain ⟨x33, e33, H0⟩ := bS H0
 obtain ⟨o0_0, eo0_0, H0⟩ := bS H0
 refine oP e33 rfl (oS rfl (nn (cw_join (ι := Int × (List Int) × (List F) × (List Ln) × Int × Int × Int × Int × (List Ow) × Int × Int × Option Addr × Nat × Nat × Res × Option Addr × Nat × Nat × Res × Option Addr × Nat × Nat × Res × Option Addr × Nat × Nat × Res) (fun | (v34, v35, v40, v45, v50, v51, v52, v53, v54, v59, v60, p36, n37, c38, C39, p41, n42, c43, C44, p46, n47, c48, C49, p55, n56, c57, C58) => o0_0 = .out (v34, v35, v40, v45, v50, v51, v52, v53, v54, v59, v60) ∧ n37 = (v35).length ∧ OwnC 3 p36 c38 v35 C39 ∧ n42 = (v40).length ∧ OwnC 58 p41 c43 v40 C44 ∧ n47 = (v45).length ∧ OwnC 41 p46 c48 v45 C49 ∧ n56 = (v54).length ∧ OwnC 118 p55 c57 v54 C58) (fun | (v34, v35, v40, v45, v50, v51, v52, v53, v54, v59, v60, p36, n37, c38, C39, p41, n42, c43, C44, p46, n47, c48, C49, p55, n56, c57, C58) => [(0, .pointer (some ⟨m0, 0, none⟩)), (2, .pointer (some ⟨b1, 0, none⟩)), (3, .pointer (some ⟨b31, 0, none⟩)), (5, .int .i64 v60)]) (fun | (v34, v35, v40, v45, v50, v51, v52, v53, v54, v59, v60, p36, n37, c38, C39, p41, n42, c43, C44, p46, n47, c48, C49, p55, n56, c57, C58) => [(0, [(m0, .cells #[.slice p0_0_0 ((a0_0).length) c0_0_0, .int .i64 v34] 124 (0, 0))]), (1, [(b1, .cells #[.slice none 0 0, .slice none 0 0, .slice none 0 0, .int .i64 0, .int .i64 0, .int .i64 0, .int .i64 0, .slice none 0 0, .int .i64 0] 34 (0, 0))]), (10, C39), (11, C44), (12, C49), (13, C58), (14, [(b31, .cells #[.slice p36 n37 c38, .slice p41 n42 c43, .slice p46 n47 c48, .int .i64 v50, .int .i64 v51, .int .i64 v52, .int .i64 v53, .slice p55 n56 c57, .int .i64 v59] 34 (0, 0))])]) ?_ ?_)))
 ·refine cw_block (cw_loopS (ι := Nat × Int × (List Int) × (List F) × (List Ln) × Int × Int × Int × Int × (List Ow) × Int × Int × Option Addr × Nat × Nat × Res × Option Addr × Nat × Nat × Res × Option Addr × Nat × Nat × Res × Option Addr × Nat × Nat × Res) (js := [0, 1, 10, 11, 12, 13, 14]) (fun x => x.1) (fun | (fuel, v34, v35, v40, v45, v50, v51, v52, v53, v54, v59, v60, p36, n37, c38, C39, p41, n42, c43, C44, p46, n47, c48, C49, p55, n56, c57, C58) => s_l6Draw_L0 fl a0_0 fuel v34 v35 v40 v45 v50 v51 v52 v53 v54 v59 v60 = some o0_0 ∧ n37 = (v35).length ∧ OwnC 3 p36 c38 v35 C39 ∧ n42 = (v40).length ∧ OwnC 58 p41 c43 v40 C44 ∧ n47 = (v45).length ∧ OwnC 41 p46 c48 v45 C49 ∧ n56 = (v54).length ∧ OwnC 118 p55 c57 v54 C58) (fun | (_, v34, v35, v40, v45, v50, v51, v52, v53, v54, v59, v60, p36, n37, c38, C39, p41, n42, c43, C44, p46, n47, c48, C49, p55, n56, c57, C58) => [(0, .pointer (some ⟨m0, 0, none⟩)), (2, .pointer (some ⟨b1, 0, none⟩)), (3, .pointer (some ⟨b31, 0, none⟩)), (5, .int .i64 v60)]) (fun | (_, v34, v35, v40, v45, v50, v51, v52, v53, v54, v59, v60, p36, n37, c38, C39, p41, n42, c43, C44, p46, n47, c48, C49, p55, n56, c57, C58) => [(0, [(m0, .cells #[.slice p0_0_0 ((a0_0).length) c0_0_0, .int .i64 v34] 124 (0, 0))]), (1, [(b1, .cells #[.slice none 0 0, .slice none 0 0, .slice none 0 0, .int .i64 0, .int .i64 0, .int .i64 0, .int .i64 0, .slice none 0 0, .int .i64 0] 34 (0, 0))]), (10, C39), (11, C44), (12, C49), (13, C58), (14, [(b31, .cells #[.slice p36 n37 c38, .slice p41 n42 c43, .slice p46 n47 c48, .int .i64 v50, .int .i64 v51, .int .i64 v52, .int .i64 v53, .slice p55 n56 c57, .int .i64 v59] 34 (0, 0))])]) (fl, x32.2, x14.1.t.b, x14.1.t.f, x14.1.c.l, x14.1.c.h, x14.1.g.c, x14.1.g.n, x14.1.g.r, x14.1.g.o, x14.1.s, x33, p15, ((x14.1.t.b).length), c17, C18, p19, ((x14.1.t.f).length), c21, C22, p23, ((x14.1.c.l).length), c25, C26, p27, ((x14.1.g.o).length), c29, C30) ⟨eo0_0, rfl, o18, rfl, o22, rfl, o26, rfl, o30⟩ ⟨rfl, rfl, rfl, rfl, trivial⟩ ⟨0, [1, 10, 11, 12, 13, 14], rfl, rfl, 1, [10, 11, 12, 13, 14], rfl, rfl, 10, [11, 12, 13, 14], rfl, rfl, 11, [12, 13, 14], rfl, rfl, 12, [13, 14], rfl, rfl, 13, [14], rfl, rfl, 14, [], rfl, rfl, trivial⟩ (by decide) ?_)
  rintro ⟨fuel, v34, v35, v40, v45, v50, v51, v52, v53, v54, v59, v60, p36, _, c38, C39, p41, _, c43, C44, p46, _, c48, C49, p55, _, c57, C58⟩ ⟨H1, rfl, o39, rfl, o44, rfl, o49, rfl, o58⟩
  have H1 : s_l6Draw_L0 fl a0_0 fuel v34 v35 v40 v45 v50 v51 v52 v53 v54 v59 v60 = some o0_0 := H1
  rcases fuel with _ | fuel
  ·rw [s_l6Draw_L0.eq_1] at H1; cases H1
  rw [s_l6Draw_L0.eq_2] at H1
  dsimp only
  refine cw_seq (sr (oM rfl (oJ rfl (nn (cw_cond rfl (fun h61 => ?_) (fun h61 => ?_))))))
  ·have H1 := cond_t H1 h61
   obtain ⟨x62, e62, H1⟩ := bS H1
   refine cw_skip (kw_nx (cw_seq (cw_block (cw_region (oM rfl (oB9 14 ts34 rfl (oE (stpU_callM (fun i => bif Nat.beq i 0 then 0 else bif Nat.beq i 1 then 10 else bif Nat.beq i 2 then 11 else bif Nat.beq i 3 then 12 else bif Nat.beq i 4 then 13 else 16 + i) cf121 (fun w hw hb => c_s_l6Step fl w m0 a0_0 v34 (⟨(⟨v35, v40⟩ : T), (⟨v45, v50⟩ : Ca), (⟨v51, v52, v53, v54⟩ : Tg), v59⟩ : Mc) rfl (RO.passM hr0_0_0 hw hb) rfl o39 rfl o44 rfl o49 rfl o58 (hw.pass (js := [0, 10, 11, 12, 13]) ⟨0, [10, 11, 12, 13], rfl, rfl, 10, [11, 12, 13], rfl, rfl, 11, [12, 13], rfl, rfl, 12, [13], rfl, rfl, 13, [], rfl, rfl, trivial⟩ (by decide)) x62 e62) (yB rfl rfl) ⟨rfl, (fun _ _ hp => by obtain ⟨_, _, _, _, _, _, _, _, _, _, _, _, _, _, _, _, _, rfl, _⟩ := hp; exact ⟨_, rfl⟩), rfl, (fun _ _ hp => by obtain ⟨_, _, _, _, _, _, _, _, _, _, _, _, _, _, _, _, _, rfl, _⟩ := hp; exact ⟨_, rfl⟩), rfl, (fun _ _ hp => by obtain ⟨_, _, _, _, _, _, _, _, _, _, _, _, _, _, _, _, _, rfl, _⟩ := hp; exact ⟨_, rfl⟩), rfl, (fun _ _ hp => by obtain ⟨_, _, _, _, _, _, _, _, _, _, _, _, _, _, _, _, _, rfl, _⟩ := hp; exact ⟨_, rfl⟩), rfl, (fun _ _ hp => by obtain ⟨_, _, _, _, _, _, _, _, _, _, _, _, _, _, _, _, _, rfl, _⟩ := hp; exact ⟨_, rfl⟩), trivial⟩) rfl ?_)))))))
   rintro _ _ ⟨_, ⟨p63, _, c65, C66, p67, _, c69, C70, p71, _, c73, C74, p75, _, c77, C78, rfl, rfl, rfl, o66, rfl, o70, rfl, o74, rfl, o78⟩, rfl⟩
   obtain ⟨x79, e79, H1⟩ := bS H1
   exact oC9 14 ts34 rfl rfl (ow_nil (kw_bl_normal (kw_nx (cw_region (oM rfl (oD (stp_sub rfl rfl e79) rfl (oS rfl (ow_nil (kw_lqS (js := [0, 1, 21, 22, 23, 24, 14]) (fuel, x62.2, x62.1.t.b, x62.1.t.f, x62.1.c.l, x62.1.c.h, x62.1.g.c, x62.1.g.n, x62.1.g.r, x62.1.g.o, x62.1.s, x79, p63, ((x62.1.t.b).length), c65, C66, p67, ((x62.1.t.f).length), c69, C70, p71, ((x62.1.c.l).length), c73, C74, p75, ((x62.1.g.o).length), c77, C78) ⟨H1, rfl, o66, rfl, o70, rfl, o74, rfl, o78⟩ (Nat.lt_succ_self _) ⟨rfl, rfl, rfl, rfl, trivial⟩ ⟨0, [1, 21, 22, 23, 24, 14], rfl, rfl, 1, [21, 22, 23, 24, 14], rfl, rfl, 21, [22, 23, 24, 14], rfl, rfl, 22, [23, 24, 14], rfl, rfl, 23, [24, 14], rfl, rfl, 24, [14], rfl, rfl, 14, [], rfl, rfl, trivial⟩ (by decide))))))))))
  have H1 := cond_f H1 h61
  refine cw_exit (kw_nx_exit (kw_lq_exit (kw_bl ?_)))
  obtain rfl := sI H1
  exact kw_joinS (js := [0, 1, 10, 11, 12, 13, 14]) (v34, v35, v40, v45, v50, v51, v52, v53, v54, v59, v60, p36, ((v35).length), c38, C39, p41, ((v40).length), c43, C44, p46, ((v45).length), c48, C49, p55, ((v54).length), c57, C58) ⟨rfl, rfl, o39, rfl, o44, rfl, o49, rfl, o58⟩ ⟨rfl, rfl, rfl, rfl, trivial⟩ ⟨0, [1, 10, 11, 12, 13, 14], rfl, rfl, 1, [10, 11, 12, 13, 14], rfl, rfl, 10, [11, 12, 13, 14], rfl, rfl, 11, [12, 13, 14], rfl, rfl, 12, [13, 14], rfl, rfl, 13, [14], rfl, rfl, 14, [], rfl, rfl, trivial⟩ (by decide)
 rintro ⟨v34, v35, v40, v45, v50, v51, v52, v53, v54, v59, v60, p36, _, c38, C39, p41, _, c43, C44, p46, _, c48, C49, p55, _, c57, C58⟩ ⟨rfl, rfl, o39, rfl, o44, rfl, o49, rfl, o58⟩
 dsimp only
 refine kw_nx (sr (oB9 14 ts34 rfl (oC9 1 ts34 rfl rfl (nn (cw_ret ?_)))))
 obtain rfl := sI H0
 exact kr Tryz.results64 (rC9 1 ts34 rfl rfl) [0, 10, 11, 12, 13] ⟨_, _, _, _, _, _, _, _, _, _, _, _, _, _, _, _, rfl, rfl, rfl, o39, rfl, o44, rfl, o49, rfl, o58⟩

theorem c_s_KeyBefore (fl : Nat) (w : World) (a0 : K) (a1 : K) (r : Bool) (H0 : s_KeyBefore fl a0 a1 = some r) :
  Ct Tryz.prog 154 [.agg #[.int .i64 a0.s, .int .i64 a0.p], .agg #[.int .i64 a1.s, .int .i64 a1.p]] w [] (fun rv h' => rv = .bool r ∧ h' = []) := by
 unfold s_KeyBefore at H0
 refine ct_of_cw Tryz.func154 rfl Tryz.ntmps154 rfl (Sat.refl _ _) ?_
 refine sr (oE (stpU_box 0 rfl rfl) rfl ?_)
 rintro _ _ ⟨b1, rfl, rfl⟩
 refine oE (stpU_box 1 rfl rfl) rfl ?_
 rintro _ _ ⟨b2, rfl, rfl⟩
 obtain ⟨y3, ey3, H0⟩ := bS H0
 refine oS rfl (nn (sr (oA 0 Tryz.underlying47 rfl ts3 rfl (oL 0 ts3 rfl (oA 0 Tryz.underlying47 rfl ts3 rfl (oL 1 ts3 rfl (oW rfl (oM rfl (ow_cutY 13 23 y3 ?_ ?_)))))))))
 ·rcases Bool.eq_false_or_eq_true (decide (a0.s < a1.s)) with hy3 | hy3
  ·have ey3 := cond_t ey3 hy3
   refine oO rfl hy3 rfl (oO rfl hy3 rfl (oO rfl hy3 rfl (oO rfl hy3 rfl (oO rfl hy3 rfl (oO rfl hy3 rfl (oX rfl rfl rfl (oX rfl rfl rfl (oX rfl rfl rfl (oX rfl rfl rfl (oX rfl rfl rfl (oO rfl hy3 rfl (oD (stp_pick_t rfl hy3 rfl) rfl ?_))))))))))))
   obtain rfl := sI ey3
   exact ow_nil (jy 13 0)
  have ey3 := cond_f ey3 hy3
  obtain ⟨y4, ey4, ey3⟩ := bS ey3
  refine oG rfl hy3 (fA 0 Tryz.underlying47 rfl ts3 rfl rfl rfl) rfl (oG rfl hy3 (lB 0 ts3 rfl rfl rfl) rfl (oG rfl hy3 (fA 0 Tryz.underlying47 rfl ts3 rfl rfl rfl) rfl (oG rfl hy3 (lB 1 ts3 rfl rfl rfl) rfl (oG rfl hy3 (stp_eql rfl rfl) rfl (oG rfl hy3 (mv rfl) rfl (ow_cutY 6 22 y4 ?_ ?_))))))
  ·rcases Bool.eq_false_or_eq_true (a0.s == a1.s) with hy4 | hy4
   ·have ey4 := cond_t ey4 hy4
    refine oG rfl hy4 (fA 1 Tryz.underlying47 rfl ts3 rfl rfl rfl) rfl (oG rfl hy4 (lB 0 ts3 rfl rfl rfl) rfl (oG rfl hy4 (fA 1 Tryz.underlying47 rfl ts3 rfl rfl rfl) rfl (oG rfl hy4 (lB 1 ts3 rfl rfl rfl) rfl (oG rfl hy4 (stp_lss rfl rfl) rfl (oG rfl hy3 (stp_pick_t rfl hy4 rfl) rfl ?_)))))
    obtain rfl := sI ey4
    exact ow_nil (jy 6 0)
   have ey4 := cond_f ey4 hy4
   refine oO rfl hy4 rfl (oO rfl hy4 rfl (oO rfl hy4 rfl (oO rfl hy4 rfl (oO rfl hy4 rfl (oG rfl hy3 (stp_pick_f rfl hy4 rfl) rfl ?_)))))
   obtain rfl := sI ey4
   exact ow_nil (jy 6 0)
  refine oD (stp_pick_f rfl hy3 rfl) rfl ?_
  obtain rfl := sI ey3
  exact ow_nil (jy 8 0)
 refine oS rfl (nn (cw_ret ?_))
 obtain rfl := sI H0
 exact kr Tryz.results154 (rT rfl) [] ⟨rfl, rfl⟩

theorem c_s_KeysOf (fl : Nat) (w : World) (a0 : T) (hn0_0 : n0_0 = (a0.b).length) (hr0_0 : RO w (hkeys []) (RdL p0_0 c0_0 a0.b)) (hn0_1 : n0_1 = (a0.f).length) (hr0_1 : RO w (hkeys []) (RdL p0_1 c0_1 a0.f)) (r : (List K)) (H0 : s_KeysOf fl a0 = some r) :
  Ct Tryz.prog 125 [.agg #[.slice p0_0 n0_0 c0_0, .slice p0_1 n0_1 c0_1]] w [] (fun rv h' => ∃ (x0 : Option Addr) (y0 z0 : Nat) (C0 : Res), rv = .slice x0 y0 z0 ∧ h' = [(0, C0)] ∧ y0 = (r).length ∧ OwnC 47 x0 z0 r C0) := by
 subst hn0_0 hn0_1
 unfold s_KeysOf at H0
 refine ct_of_cw Tryz.func125 rfl Tryz.ntmps125 rfl (Sat.refl _ _) ?_
 refine sr (oE (stpU_box 0 rfl rfl) rfl ?_)
 rintro _ _ ⟨b1, rfl, rfl⟩
 refine oS rfl (nn (sr (oE (stpU_lit0 sl146 1) rfl ?_)))
 rintro _ _ ⟨p2, C3, rfl, rfl, o3⟩
 obtain ⟨o0_0, eo0_0, H0⟩ := bS H0
 refine oS rfl (nn (cw_seq (sr (oS rfl (nn (cw_join (ι := (List K) × Int × Option Addr × Nat × Nat × Res) (fun | (v4, v9, p5, n6, c7, C8) => o0_0 = .out (v4, v9) ∧ n6 = (v4).length ∧ OwnC 47 p5 c7 v4 C8) (fun | (v4, v9, p5, n6, c7, C8) => [(1, .pointer (some ⟨b1, 0, none⟩)), (3, .slice p5 n6 c7), (4, .int .i64 v9)]) (fun | (v4, v9, p5, n6, c7, C8) => [(0, [(b1, .cells #[.slice p0_0 ((a0.b).length) c0_0, .slice p0_1 ((a0.f).length) c0_1] 26 (0, 0))]), (1, C8)]) ?_ ?_))))))
 ·refine cw_block (cw_loopS (ι := Nat × (List K) × Int × Option Addr × Nat × Nat × Res) (js := [0, 1]) (fun x => x.1) (fun | (fuel, v4, v9, p5, n6, c7, C8) => s_KeysOf_L0 fl a0 fuel v4 v9 = some o0_0 ∧ n6 = (v4).length ∧ OwnC 47 p5 c7 v4 C8) (fun | (_, v4, v9, p5, n6, c7, C8) => [(1, .pointer (some ⟨b1, 0, none⟩)), (3, .slice p5 n6 c7), (4, .int .i64 v9)]) (fun | (_, v4, v9, p5, n6, c7, C8) => [(0, [(b1, .cells #[.slice p0_0 ((a0.b).length) c0_0, .slice p0_1 ((a0.f).length) c0_1] 26 (0, 0))]), (1, C8)]) (fl, ([] : List K), 0, p2, 0, 0, C3) ⟨eo0_0, (by simp), o3⟩ ⟨rfl, rfl, rfl, trivial⟩ ⟨0, [1], rfl, rfl, 1, [], rfl, rfl, trivial⟩ (by decide) ?_)
  rintro ⟨fuel, v4, v9, p5, _, c7, C8⟩ ⟨H1, rfl, o8⟩
  have H1 : s_KeysOf_L0 fl a0 fuel v4 v9 = some o0_0 := H1
  rcases fuel with _ | fuel
  ·rw [s_KeysOf_L0.eq_1] at H1; cases H1
  rw [s_KeysOf_L0.eq_2] at H1
  dsimp only
  obtain ⟨y10, ey10, H1⟩ := bS H1
  refine cw_seq (sr (oM rfl (oA 1 Tryz.underlying26 rfl ts24 rfl (oL 0 ts24 rfl (oD (stp_len Tryz.underlying24 rfl) rfl (oW rfl (oM rfl (ow_cutY 3 16 y10 ?_ ?_))))))))
  ·rcases Bool.eq_false_or_eq_true (decide (v9 < ((a0.f).length : Int))) with hy10 | hy10
   ·have ey10 := cond_t ey10 hy10
    obtain ⟨x11, e11, ey10⟩ := bS ey10
    refine oG rfl hy10 (stp_loadN (us := [_, _]) ts26 rfl (Cells.box (id := 0) rfl 2 rfl)) rfl (ow_eff (.some rfl hy10) (stpU_call (fun i => 2 + i) cf105 (fun w hw => c_s_TableValid fl w a0 rfl (RO.pass hr0_0 hw) rfl (RO.pass hr0_1 hw) x11 e11) (yA rfl)) rfl ?_)
    rintro _ _ ⟨_, ⟨rfl, rfl⟩, rfl⟩
    refine oD (stp_pick_t rfl hy10 rfl) rfl ?_
    obtain rfl := sI ey10
    exact ow_nil (jy 3 0)
   have ey10 := cond_f ey10 hy10
   refine oO rfl hy10 rfl (oO rfl hy10 rfl (oD (stp_pick_f rfl hy10 rfl) rfl ?_))
   obtain rfl := sI ey10
   exact ow_nil (jy 3 0)
  refine ow_nil (kw_nx (cw_cond rfl (fun h12 => ?_) (fun h12 => ?_)))
  ·have H1 := cond_t H1 h12
   obtain ⟨x13, e13, H1⟩ := bS H1
   refine cw_skip (kw_nx (cw_seq (cw_block (cw_seq (sr (oA 1 Tryz.underlying26 rfl ts24 rfl (oL 0 ts24 rfl (oM rfl (oD (stp_indexAddr Tryz.underlying24 ts58 (by decide) rfl rfl rfl (Rdb.ro hr0_1) e13) rfl (oA 0 Tryz.underlying58 rfl ts4 rfl (oD (stp_load1 ts4 rfl (Cells.el (Rdb.ro hr0_1) (by decide) e13 0 1 rfl)) rfl (oK rfl (nn ?_)))))))))))))
   refine cw_cond rfl (fun h14 => ?_) (fun h14 => ?_)
   ·have H1 := cond_t H1 h14
    obtain ⟨x15, e15, H1⟩ := bS H1
    exact cw_exit (kw_nx_exit (kw_bl (kw_nx (cw_region (oM rfl (oP e15 rfl (oS rfl (ow_nil (kw_lqS (js := [0, 1]) (fuel, v4, x15, p5, ((v4).length), c7, C8) ⟨H1, rfl, o8⟩ (Nat.lt_succ_self _) ⟨rfl, rfl, rfl, trivial⟩ ⟨0, [1], rfl, rfl, 1, [], rfl, rfl, trivial⟩ (by decide))))))))))
   have H1 := cond_f H1 h14
   refine cw_skip (kw_nx (sr (oM rfl (oA 1 Tryz.underlying26 rfl ts24 rfl (oL 0 ts24 rfl (oM rfl (oD (stp_indexAddr Tryz.underlying24 ts58 (by decide) rfl rfl rfl (Rdb.ro hr0_1) e13) rfl (oA 1 Tryz.underlying58 rfl ts47 rfl (oD (stp_loadN (us := [_, _]) ts47 rfl (Cells.el (Rdb.ro hr0_1) (by decide) e13 1 2 rfl)) rfl (oE (stpU_lit (sz := 2) (l := [x13.k]) [.agg #[.int .i64 x13.k.s, .int .i64 x13.k.p]] sl146 2 (sevp_cons rfl sevp_nil) rfl rfl rfl rfl rfl rfl rfl rfl rfl) rfl ?_))))))))))
   rintro _ _ ⟨p16, C17, rfl, rfl, o17⟩
   obtain ⟨x18, e18, H1⟩ := bS H1
   refine oE (stpU_append sl146 rfl (id := 1) rfl rfl rfl (by simp) rfl o8 (Rdb.own (id := 2) rfl o17) e18) rfl ?_
   rintro _ _ ⟨p19, c20, C21, rfl, rfl, o21⟩
   obtain ⟨x22, e22, H1⟩ := bS H1
   obtain ⟨o1_1, eo1_1, H1⟩ := bS H1
   refine oS rfl (nn (sr (oM rfl (oD (stp_len Tryz.underlying146 rfl) rfl (oD (stp_sub rfl rfl e22) rfl (oS rfl (nn (cw_join (ι := (List K) × Int × Res) (fun | (v23, v25, C24) => o1_1 = .out (v23, v25) ∧ (x18).length = (v23).length ∧ OwnC 47 p19 c20 v23 C24) (fun | (v23, v25, C24) => [(1, .pointer (some ⟨b1, 0, none⟩)), (3, .slice p19 ((x18).length) c20), (4, .int .i64 v9), (5, .int .i64 v25)]) (fun | (v23, v25, C24) => [(0, [(b1, .cells #[.slice p0_0 ((a0.b).length) c0_0, .slice p0_1 ((a0.f).length) c0_1] 26 (0, 0))]), (1, C24)]) ?_ ?_))))))))
   ·refine cw_block (cw_loopS (ι := Nat × (List K) × Int × Res) (js := [0, 1]) (fun x => x.1) (fun | (fuel, v23, v25, C24) => s_KeysOf_L1 fl fuel v23 v25 = some o1_1 ∧ (x18).length = (v23).length ∧ OwnC 47 p19 c20 v23 C24) (fun | (_, v23, v25, C24) => [(1, .pointer (some ⟨b1, 0, none⟩)), (3, .slice p19 ((x18).length) c20), (4, .int .i64 v9), (5, .int .i64 v25)]) (fun | (_, v23, v25, C24) => [(0, [(b1, .cells #[.slice p0_0 ((a0.b).length) c0_0, .slice p0_1 ((a0.f).length) c0_1] 26 (0, 0))]), (1, C24)]) (fl, x18, x22, C21) ⟨eo1_1, rfl, o21⟩ ⟨rfl, rfl, rfl, rfl, trivial⟩ ⟨0, [1], rfl, rfl, 1, [], rfl, rfl, trivial⟩ (by decide) ?_)
    rintro ⟨fuel, v23, v25, C24⟩ ⟨H2, hl24, o24⟩
    have H2 : s_KeysOf_L1 fl fuel v23 v25 = some o1_1 := H2
    rcases fuel with _ | fuel
    ·rw [s_KeysOf_L1.eq_1] at H2; cases H2
    rw [s_KeysOf_L1.eq_2] at H2
    dsimp only
    obtain ⟨y26, ey26, H2⟩ := bS H2
    refine cw_seq (cw_seq (cw_join (ι := Unit) (fun | _ => True) (fun | _ => [(1, .pointer (some ⟨b1, 0, none⟩)), (3, .slice p19 ((x18).length) c20), (4, .int .i64 v9), (5, .int .i64 v25), (51, .bool y26)]) (fun | _ => [(0, [(b1, .cells #[.slice p0_0 ((a0.b).length) c0_0, .slice p0_1 ((a0.f).length) c0_1] 26 (0, 0))]), (1, C24)]) ?_ ?_))
    ·rcases Bool.eq_false_or_eq_true (decide (0 < v25)) with hy26 | hy26
     ·have ey26 := cond_t ey26 hy26
      obtain ⟨x27, e27, ey26⟩ := bS ey26
      obtain ⟨x28, e28, ey26⟩ := bS ey26
      obtain ⟨x29, e29, ey26⟩ := bS ey26
      obtain ⟨x30, e30, ey26⟩ := bS ey26
      have qy26 := sI ey26
      refine rdq g_mixed [3, 5] [1] { dst := dS [39, 40, 41, 42, 43, 44, 45, 46, 47, 48, 49, 50, 51, 52], pre := gA [] [[], [0], [0, 1], [0, 1, 2], [0, 1, 2], rn 0 5, rn 0 6, [0, 1, 2], [0, 1, 2], [0, 1, 2, 8], [0, 1, 2, 7, 8, 9], [0, 1, 2, 7, 8, 9, 10], rn 0 12, rn 0 13], ids := fun _ => [], rs := rL [[(5, 0)], [(38, 1)], [(39, 2)], [(3, 0), (40, 3)], [(5, 0), (40, 3)], [(41, 4), (42, 5), (40, 3)], [(43, 6), (40, 3)], [(3, 0), (40, 3)], [(5, 0), (40, 3)], [(46, 9), (40, 3)], [(45, 8), (47, 10), (40, 3)], [(48, 11), (40, 3)], [(44, 7), (49, 12), (40, 3)], [(40, 3), (50, 13)]], rh := rL [[], [], [], [], [], [(1, 0)], [(1, 0)], [], [], [], [(1, 0)], [(1, 0)]], V := fun i g => gA undef [.int .i64 v25, .bool (decide (0 < v25)), .bool (decide (0 < v25)), .slice p19 ((x18).length) c20, .int .i64 v25, .pointer (some ⟨eB p19, eO p19 + Int.toNat v25 * Enc.sz K + 0, none⟩), .agg #[.int .i64 x27.s, .int .i64 x27.p], .slice p19 ((x18).length) c20, .int .i64 v25, .int .i64 x28, .pointer (some ⟨eB p19, eO p19 + Int.toNat x28 * Enc.sz K + 0, none⟩), .agg #[.int .i64 x29.s, .int .i64 x29.p], .bool x30, .bool y26] i, U := fun _ _ => [], Φ := fun _ _ => True } ?_ ?_
      ·refine ⟨lM, lc rfl rfl fun hs hh => stp_gtr (sv hs 38 rfl) rfl, lM, lg rfl rfl 40 hy26 fun hs hh => stp_move (sv hs 3 rfl), lg rfl rfl 40 hy26 fun hs hh => stp_move (sv hs 5 rfl), lg rfl rfl 40 hy26 fun hs hh => stp_indexAddr Tryz.underlying146 ts47 (by decide) (sv hs 41 rfl) (by simp [hl24]) (sv hs 42 rfl) (Rdb.own (id := 1) (hh.get 1 _ rfl) o24) e27, lg rfl rfl 40 hy26 fun hs hh => stp_loadN (us := [_, _]) ts47 (sv hs 43 rfl) (Cells.el (Rdb.own (id := 1) (hh.get 1 _ rfl) o24) (by decide) e27 0 2 rfl), lg rfl rfl 40 hy26 fun hs hh => stp_move (sv hs 3 rfl), lg rfl rfl 40 hy26 fun hs hh => stp_move (sv hs 5 rfl), lg rfl rfl 40 hy26 fun hs hh => stp_sub (sv hs 46 rfl) rfl e28, lg rfl rfl 40 hy26 fun hs hh => stp_indexAddr Tryz.underlying146 ts47 (by decide) (sv hs 45 rfl) (by simp [hl24]) (sv hs 47 rfl) (Rdb.own (id := 1) (hh.get 1 _ rfl) o24) e29, lg rfl rfl 40 hy26 fun hs hh => stp_loadN (us := [_, _]) ts47 (sv hs 48 rfl) (Cells.el (Rdb.own (id := 1) (hh.get 1 _ rfl) o24) (by decide) e29 0 2 rfl), ?_, lc rfl rfl fun hs hh => stp_pick_tB (sv hs 40 rfl) hy26 (sv hs 50 rfl) qy26, trivial⟩
       refine loc_eff rfl rfl (fun g hΦ s h hs hh => ⟨(.some (gval_of rfl (sv hs 40 rfl)) hy26), (stpU_call (fun i => 3 + i) cf154 (fun w hw => c_s_KeyBefore fl w x27 x29 x30 e30) (yB (sv hs 44 rfl) (sv hs 49 rfl)))⟩) ?_
       rintro g _ _ ⟨_, ⟨rfl, rfl⟩, rfl⟩
       exact ⟨⟨[], [], []⟩, trivial, .inr rfl, rfl⟩
      intro g hΦ
      exact kw_join () trivial ⟨rfl, rfl, rfl, rfl, rfl, trivial⟩ ⟨rfl, rfl, trivial⟩
     have ey26 := cond_f ey26 hy26
     have qy26 := sI ey26
     refine rdq g_mixed [5] [] { dst := dS [39, 40, 41, 42, 43, 44, 45, 46, 47, 48, 49, 50, 51, 52], pre := gA [] [[], [0], [0, 1], [0, 1, 2], [0, 1, 2], rn 0 5, rn 0 6, [0, 1, 2], [0, 1, 2], [0, 1, 2, 8], [0, 1, 2, 7, 8, 9], [0, 1, 2, 7, 8, 9, 10], rn 0 12, rn 0 13], ids := fun _ => [], rs := rL [[(5, 0)], [(38, 1)], [(39, 2)], [(40, 3)], [(40, 3)], [(40, 3)], [(40, 3)], [(40, 3)], [(40, 3)], [(40, 3)], [(40, 3)], [(40, 3)], [(40, 3)], [(40, 3), (50, 13)]], rh := fun _ => [], V := fun i g => gA undef [.int .i64 v25, .bool (decide (0 < v25)), .bool (decide (0 < v25)), undef, undef, undef, undef, undef, undef, undef, undef, undef, undef, .bool y26] i, U := fun _ _ => [], Φ := fun _ _ => True } ?_ ?_
     ·exact ⟨lM, lc rfl rfl fun hs hh => stp_gtr (sv hs 38 rfl) rfl, lM, lo rfl rfl 40 hy26, lo rfl rfl 40 hy26, lo rfl rfl 40 hy26, lo rfl rfl 40 hy26, lo rfl rfl 40 hy26, lo rfl rfl 40 hy26, lo rfl rfl 40 hy26, lo rfl rfl 40 hy26, lo rfl rfl 40 hy26, lo rfl rfl 40 hy26, lc rfl rfl fun hs hh => stp_pick_fB (sv hs 40 rfl) hy26 rfl qy26, trivial⟩
     intro g hΦ
     exact kw_join () trivial ⟨rfl, rfl, rfl, rfl, rfl, trivial⟩ ⟨rfl, rfl, trivial⟩
    rintro _ -
    dsimp only
    refine kw_nx (cw_cond rfl (fun h31 => ?_) (fun h31 => ?_))
    ·have H2 := cond_t H2 h31
     obtain ⟨x32, e32, H2⟩ := bS H2
     refine cw_skip (kw_nx (cw_seq (cw_block (sr (oM rfl (oM rfl (oD (stp_indexAddr Tryz.underlying146 ts47 (by decide) rfl (by simp [hl24]) rfl (Rdb.own (id := 1) rfl o24) e32) rfl (oD (stp_loadN (us := [_, _]) ts47 rfl (Cells.el (Rdb.own (id := 1) rfl o24) (by decide) e32 0 2 rfl)) rfl (oE (stpU_alloc 3 tz47 rfl) rfl ?_)))))))))
     rintro _ _ ⟨b33, rfl, rfl⟩
     obtain ⟨x34, e34, H2⟩ := bS H2
     obtain ⟨x35, e35, H2⟩ := bS H2
     refine oC2 3 ts47 rfl rfl (nn (sr (oM rfl (oM rfl (oM rfl (oM rfl (oD (stp_sub rfl rfl e34) rfl (oD (stp_indexAddr Tryz.underlying146 ts47 (by decide) rfl (by simp [hl24]) rfl (Rdb.own (id := 1) rfl o24) e35) rfl (oD (stp_loadN (us := [_, _]) ts47 rfl (Cells.el (Rdb.own (id := 1) rfl o24) (by decide) e35 0 2 rfl)) rfl (oD (stp_indexAddr Tryz.underlying146 ts47 (by decide) rfl (by simp [hl24]) rfl (Rdb.own (id := 1) rfl o24) e32) rfl (oF (stpU_storeEl (id := 1) (i := 0) x35 (by decide) ts47 rfl rfl rfl o24 e32 rfl rfl rfl rfl) ?_)))))))))))
     rintro _ _ ⟨C36, rfl, o36⟩
     obtain ⟨x37, e37, H2⟩ := bS H2
     refine nn (cw_region (oM rfl (oM rfl (oD (stp_sub rfl rfl e34) rfl (oB2 3 ts47 rfl (oD (stp_indexAddr Tryz.underlying146 ts47 (by decide) rfl (by simp [hl24]) rfl (Rdb.own (id := 1) rfl o36) e37) rfl (oF (stpU_storeEl (id := 1) (i := 0) x32 (by decide) ts47 rfl rfl rfl o36 e37 rfl rfl rfl rfl) ?_)))))))
     rintro _ _ ⟨C38, rfl, o38⟩
     exact ow_nil (kw_bl_normal (kw_nx (cw_region (oM rfl (oD (stp_sub rfl rfl e34) rfl (oS rfl (ow_nil (kw_lqS (js := [0, 1]) (fuel, ((v23.set (Int.toNat v25) x35).set (Int.toNat x34) x32), x34, C38) ⟨H2, (by simp [hl24]), o38⟩ (Nat.lt_succ_self _) ⟨rfl, rfl, rfl, rfl, trivial⟩ ⟨0, [1], rfl, rfl, 1, [], rfl, rfl, trivial⟩ (by decide)))))))))
    have H2 := cond_f H2 h31
    refine cw_exit (kw_nx_exit (kw_lq_exit (kw_bl ?_)))
    obtain rfl := sI H2
    exact kw_joinS (js := [0, 1]) (v23, v25, C24) ⟨rfl, (by simp [hl24]), o24⟩ ⟨rfl, rfl, rfl, rfl, trivial⟩ ⟨0, [1], rfl, rfl, 1, [], rfl, rfl, trivial⟩ (by decide)
   rintro ⟨v23, v25, C24⟩ ⟨rfl, hl24, o24⟩
   dsimp only
   obtain ⟨x39, e39, H1⟩ := bS H1
   exact kw_bl_normal (kw_nx (cw_region (oM rfl (oP e39 rfl (oS rfl (ow_nil (kw_lqS (js := [0, 1]) (fuel, v23, x39, p19, ((x18).length), c20, C24) ⟨H1, (by simp [hl24]), o24⟩ (Nat.lt_succ_self _) ⟨rfl, rfl, rfl, trivial⟩ ⟨0, [1], rfl, rfl, 1, [], rfl, rfl, trivial⟩ (by decide))))))))
  have H1 := cond_f H1 h12
  refine cw_exit (kw_nx_exit (kw_lq_exit (kw_bl ?_)))
  obtain rfl := sI H1
  exact kw_joinS (js := [0, 1]) (v4, v9, p5, ((v4).length), c7, C8) ⟨rfl, rfl, o8⟩ ⟨rfl, rfl, rfl, trivial⟩ ⟨0, [1], rfl, rfl, 1, [], rfl, rfl, trivial⟩ (by decide)
 rintro ⟨v4, v9, p5, _, c7, C8⟩ ⟨rfl, rfl, o8⟩
 dsimp only
 refine kw_nx (sr (oM rfl (oS rfl (nn (cw_ret ?_)))))
 obtain rfl := sI H0
 exact kr Tryz.results125 (rT rfl) [1] ⟨_, _, _, _, rfl, rfl, rfl, o8⟩

theorem c_s_l4Wrong (fl : Nat) (w : World) (m0 : Nat) (a0_0 : (List UInt8)) (a0_1 : Int) (a1 : Ca) (hn0_0_0 : n0_0_0 = (a0_0).length) (hr0_0_0 : RO w (hkeys [(0, [(m0, .cells #[.slice p0_0_0 n0_0_0 c0_0_0, .int .i64 a0_1] 124 (0, 0))])]) (RdL p0_0_0 c0_0_0 a0_0)) (hn1_0 : n1_0 = (a1.l).length) (hr1_0 : RO w (hkeys [(0, [(m0, .cells #[.slice p0_0_0 n0_0_0 c0_0_0, .int .i64 a0_1] 124 (0, 0))])]) (RdL p1_0 c1_0 a1.l)) (hM : Sat w (hkeys [(0, [(m0, .cells #[.slice p0_0_0 n0_0_0 c0_0_0, .int .i64 a0_1] 124 (0, 0))])]) w [(0, [(m0, .cells #[.slice p0_0_0 n0_0_0 c0_0_0, .int .i64 a0_1] 124 (0, 0))])]) (r : Ca × Int) (H0 : s_l4Wrong fl a0_0 a0_1 a1 = some r) :
  Ct Tryz.prog 117 [.pointer (some ⟨m0, 0, none⟩), .agg #[.slice p1_0 n1_0 c1_0, .int .i64 a1.h]] w [(0, [(m0, .cells #[.slice p0_0_0 n0_0_0 c0_0_0, .int .i64 a0_1] 124 (0, 0))])] (fun rv h' => ∃ (x1 : Option Addr) (y1 z1 : Nat) (C1 : Res), rv = .agg #[.slice x1 y1 z1, .int .i64 r.1.h] ∧ h' = [(0, [(m0, .cells #[.slice p0_0_0 n0_0_0 c0_0_0, .int .i64 r.2] 124 (0, 0))]), (1, C1)] ∧ y1 = (r.1.l).length ∧ OwnC 41 x1 z1 r.1.l C1) := by
 subst hn0_0_0 hn1_0
 unfold s_l4Wrong at H0
 refine ct_of_cw Tryz.func117 rfl Tryz.ntmps117 rfl hM ?_
 refine sr (oE (stpU_box 1 rfl rfl) rfl ?_)
 rintro _ _ ⟨b1, rfl, rfl⟩
 refine oE (stpU_alloc 2 tz29 rfl) rfl ?_
 rintro _ _ ⟨b2, rfl, rfl⟩
 obtain ⟨x3, e3, H0⟩ := bS H0
 refine nn (sr (oB2 1 ts29 rfl (oE (stpU_call (fun i => 3 + i) cf109 (fun w hw => c_s_l4Copy fl w a1 rfl (RO.pass hr1_0 hw) x3 e3) (yA rfl)) rfl ?_)))
 rintro _ _ ⟨_, ⟨p4, _, c6, C7, rfl, rfl, rfl, o7⟩, rfl⟩
 refine oE (stpU_alloc 4 tz29 rfl) rfl ?_
 rintro _ _ ⟨b8, rfl, rfl⟩
 refine oC2 4 ts29 rfl rfl (nn (cw_seq (sr (oA 0 Tryz.underlying29 rfl ts27 rfl (oL 4 ts27 rfl (oD (stp_len Tryz.underlying27 rfl) rfl (oQ rfl (nn (cw_cond rfl (fun h9 => ?_) (fun h9 => ?_))))))))))
 ·have H0 := cond_t H0 h9
  refine sr (oB2 4 ts29 rfl (oC2 2 ts29 rfl rfl (nn (cw_ret (kw_nx_ret ?_)))))
  obtain rfl := sI H0
  exact kr Tryz.results117 (rC2 2 ts29 rfl rfl) [0, 3] ⟨_, _, _, _, rfl, rfl, rfl, o7⟩
 have H0 := cond_f H0 h9
 obtain ⟨x10, e10, H0⟩ := bS H0
 refine cw_skip (kw_nx (sr (oM rfl (oA 0 Tryz.underlying29 rfl ts27 rfl (oL 4 ts27 rfl (oD (stp_len Tryz.underlying27 rfl) rfl (oE (stpU_callM (fun i => bif Nat.beq i 0 then 0 else 5 + i) cf66 (fun w hw hb => c_s_l12Rd_pick fl w m0 a0_0 a0_1 ((x3.l).length : Int) rfl (RO.passM hr0_0_0 hw hb) (hw.pass (js := [0]) ⟨0, [], rfl, rfl, trivial⟩ (by decide)) x10 e10) (yB rfl rfl) ⟨rfl, (fun _ _ hp => by obtain ⟨_, rfl⟩ := hp; exact ⟨_, rfl⟩), trivial⟩) rfl ?_)))))))
 rintro _ _ ⟨_, ⟨rfl, rfl⟩, rfl⟩
 obtain ⟨x11, e11, H0⟩ := bS H0
 refine oS rfl (nn (cw_seq (sr (oM rfl (oE (stpU_callM (fun i => bif Nat.beq i 0 then 0 else 6 + i) cf66 (fun w hw hb => c_s_l12Rd_pick fl w m0 a0_0 x10.2 24 rfl (RO.passM hr0_0_0 hw hb) (hw.pass (js := [0]) ⟨0, [], rfl, rfl, trivial⟩ (by decide)) x11 e11) (yB rfl rfl) ⟨rfl, (fun _ _ hp => by obtain ⟨_, rfl⟩ := hp; exact ⟨_, rfl⟩), trivial⟩) rfl ?_)))))
 rintro _ _ ⟨_, ⟨rfl, rfl⟩, rfl⟩
 refine nn (cw_block (sr (oQ rfl (oS rfl (nn (cw_cond rfl (fun h12 => ?_) (fun h12 => ?_)))))))
 ·have H0 := cond_t H0 h12
  refine cw_region (oM rfl (oE (stpU_lit (sz := 1) (l := [(-1), 8, 0]) [.int .i64 (-1), .int .i64 8, .int .i64 0] sl23 7 (sevp_cons rfl (sevp_cons rfl (sevp_cons rfl sevp_nil))) rfl rfl rfl rfl rfl rfl rfl rfl rfl) rfl ?_))
  rintro _ _ ⟨p13, C14, rfl, rfl, o14⟩
  obtain ⟨x15, e15, H0⟩ := bS H0
  refine oE (stpU_callM (fun i => bif Nat.beq i 0 then 0 else 8 + i) cf47 (fun w hw hb => c_s_l12Rd_num fl w m0 a0_0 x11.2 ([(-1), 8, 0]) rfl (RO.passM hr0_0_0 hw hb) (by simp) (OwnC.passM (id := 7) rfl o14 hw hb ⟨rfl, trivial⟩) (hw.pass (js := [0]) ⟨0, [], rfl, rfl, trivial⟩ (by decide)) x15 e15) (yB rfl rfl) ⟨rfl, (fun _ _ hp => by obtain ⟨_, rfl⟩ := hp; exact ⟨_, rfl⟩), trivial⟩) rfl ?_
  rintro _ _ ⟨_, ⟨rfl, rfl⟩, rfl⟩
  refine oA 1 Tryz.underlying29 rfl ts3 rfl (oC2 4 ts3 rfl rfl (ow_nil (kw_bl_normal (kw_nx (sr (oB2 4 ts29 rfl (oC2 2 ts29 rfl rfl (nn (cw_ret ?_)))))))))
  obtain rfl := sI H0
  exact kr Tryz.results117 (rC2 2 ts29 rfl rfl) [0, 3] ⟨_, _, _, _, rfl, rfl, rfl, o7⟩
 have H0 := cond_f H0 h12
 refine sr (oQ rfl (oS rfl (nn (cw_cond rfl (fun h16 => ?_) (fun h16 => ?_)))))
 ·have H0 := cond_t H0 h16
  obtain ⟨x17, e17, H0⟩ := bS H0
  refine rdq g_mixed [5, 6] [3, 4] { dst := dS [30, 31, 32, 33, 34, 35, 36, 37, 38, 39, 40, 41, 0], pre := gA [] [[], [0], [], [], [3], [], [3, 4, 5], rn 3 4, rn 3 5, rn 3 6, rn 0 10, rn 0 11, rn 0 12], ids := fun i => match i with | 12 => [3] | _ => [], rs := rL [[(5, 0)], [(29, 1)], [(6, 0)], [(5, 0)], [(32, 4)], [(6, 0)], [(33, 5), (34, 6)], [(35, 7)], [(36, 8)], [(37, 9)], [(30, 2), (31, 3)], [(39, 11)], [(40, 12), (38, 10)]], rh := rL [[], [(4, 0)], [], [], [(4, 0)], [], [(3, 0)], [], [(3, 0)], [], [(3, 0)], [], [(3, 0)]], V := fun i g => gA undef [.pointer (some ⟨b8, 0, none⟩), .slice p4 ((x3.l).length) c6, .int .i64 x10.1, .pointer (some ⟨b8, 0, none⟩), .slice p4 ((x3.l).length) c6, .int .i64 x10.1, .pointer (some ⟨eB p4, eO p4 + Int.toNat x10.1 * Enc.sz Ln + 0, none⟩), .pointer (some ⟨eB p4, eO p4 + Int.toNat x10.1 * Enc.sz Ln + 0, none⟩), .bool x17.va, .bool (!x17.va), .pointer (some ⟨eB p4, eO p4 + Int.toNat x10.1 * Enc.sz Ln + 0, none⟩), .pointer (some ⟨eB p4, eO p4 + Int.toNat x10.1 * Enc.sz Ln + 0, none⟩)] i, U := fun i g => match i with | 12 => [(3, ((g 12).R 0))] | _ => [], Φ := fun i x => match i with | 12 => OwnC (α := Ln) 41 p4 c6 (x3.l.set (Int.toNat x10.1) (⟨(!x17.va), x17.tg, x17.pg, x17.fr, x17.ri, x17.wi⟩ : Ln)) (x.R 0) | _ => True } ?_ ?_
  ·refine ⟨lc rfl rfl fun hs hh => stp_fieldAddr (j := 0) Tryz.underlying29 rfl ts27 rfl (sv hs 5 rfl) rfl, lc rfl rfl fun hs hh => stp_load1 ts27 (sv hs 29 rfl) (Cells.box (id := 4) (hh.get 4 _ rfl) 1 rfl), lM, lc rfl rfl fun hs hh => stp_fieldAddr (j := 0) Tryz.underlying29 rfl ts27 rfl (sv hs 5 rfl) rfl, lc rfl rfl fun hs hh => stp_load1 ts27 (sv hs 32 rfl) (Cells.box (id := 4) (hh.get 4 _ rfl) 1 rfl), lM, lc rfl rfl fun hs hh => stp_indexAddr Tryz.underlying27 ts41 (by decide) (sv hs 33 rfl) rfl (sv hs 34 rfl) (Rdb.own (id := 3) (hh.get 3 _ rfl) o7) e17, lc rfl rfl fun hs hh => stp_fieldAddr (j := 0) Tryz.underlying41 rfl ts4 rfl (sv hs 35 rfl) rfl, lc rfl rfl fun hs hh => stp_load1 ts4 (sv hs 36 rfl) (Cells.el (Rdb.own (id := 3) (hh.get 3 _ rfl) o7) (by decide) e17 0 1 rfl), lc rfl rfl fun hs hh => stp_not (sv hs 37 rfl), lc rfl rfl fun hs hh => stp_indexAddr Tryz.underlying27 ts41 (by decide) (sv hs 30 rfl) rfl (sv hs 31 rfl) (Rdb.own (id := 3) (hh.get 3 _ rfl) o7) e17, lc rfl rfl fun hs hh => stp_fieldAddr (j := 0) Tryz.underlying41 rfl ts4 rfl (sv hs 39 rfl) rfl, ?_, trivial⟩
   refine le rfl rfl (fun g hΦ s h hs hh => (stpU_storeEl (id := 3) (i := 0) (⟨(!x17.va), x17.tg, x17.pg, x17.fr, x17.ri, x17.wi⟩ : Ln) (by decide) ts4 (sv hs 40 rfl) (sv hs 38 rfl) (hh.get 3 _ rfl) o7 e17 rfl rfl rfl rfl)) ?_
   rintro g _ _ ⟨C18, rfl, o18⟩
   exact ⟨⟨[], [], [C18]⟩, o18, .inl rfl, rfl⟩
  intro g hΦ
  refine kw_gen (ι := Res) ((g 12).R 0) (fun | C18 => OwnC (α := Ln) 41 p4 c6 (x3.l.set (Int.toNat x10.1) (⟨(!x17.va), x17.tg, x17.pg, x17.fr, x17.ri, x17.wi⟩ : Ln)) C18) (fun | C18 => [(4, .pointer (some ⟨b2, 0, none⟩)), (5, .pointer (some ⟨b8, 0, none⟩))]) (fun | C18 => [(0, [(m0, .cells #[.slice p0_0_0 ((a0_0).length) c0_0_0, .int .i64 x11.2] 124 (0, 0))]), (2, [(b2, .cells #[.slice none 0 0, .int .i64 0] 29 (0, 0))]), (3, C18), (4, [(b8, .cells #[.slice p4 ((x3.l).length) c6, .int .i64 x3.h] 29 (0, 0))])]) (hΦ 12 (by decide)) ⟨rfl, rfl, trivial⟩ ⟨rfl, rfl, rfl, rfl, trivial⟩ ?_
  rintro C18 o18
  have o18 : OwnC (α := Ln) 41 p4 c6 (x3.l.set (Int.toNat x10.1) (⟨(!x17.va), x17.tg, x17.pg, x17.fr, x17.ri, x17.wi⟩ : Ln)) C18 := o18
  dsimp only
  refine kw_bl_normal (kw_nx (sr (oB2 4 ts29 rfl (oC2 2 ts29 rfl rfl (nn (cw_ret ?_))))))
  obtain rfl := sI H0
  exact kr Tryz.results117 (rC2 2 ts29 rfl rfl) [0, 3] ⟨_, _, _, _, rfl, rfl, (by simp), o18⟩
 have H0 := cond_f H0 h16
 refine sr (oQ rfl (oS rfl (nn (cw_cond rfl (fun h19 => ?_) (fun h19 => ?_)))))
 ·have H0 := cond_t H0 h19
  obtain ⟨x22, e22, H0⟩ := bS H0
  obtain ⟨x23, e23, H0⟩ := bS H0
  refine rdq g_mixed [0, 5, 6] [0, 3, 4] { dst := dS [44, 45, 46, 47, 48, 49, 50, 51, 0], pre := gA [] [[], [0], [], [], [], [3, 4], rn 0 6, rn 0 7, rn 0 8], ids := gA [] [[], [], [], [], [9], [0], [], [], [3]], rs := rL [[(5, 0)], [(43, 1)], [(6, 0)], [(0, 0)], [], [(46, 4), (47, 5)], [(44, 2), (45, 3)], [(49, 7)], [(50, 8), (48, 6)]], rh := rL [[], [(4, 0)], [], [], [], [(0, 0), (9, 5)], [(3, 0)], [], [(3, 0)]], V := fun i g => gA undef [.pointer (some ⟨b8, 0, none⟩), .slice p4 ((x3.l).length) c6, .int .i64 x10.1, .pointer (some ⟨m0, 0, none⟩), .slice ((g 4).A 0) 3 3, .int .i64 x22.1, .pointer (some ⟨eB p4, eO p4 + Int.toNat x10.1 * Enc.sz Ln + 0, none⟩), .pointer (some ⟨eB p4, eO p4 + Int.toNat x10.1 * Enc.sz Ln + 2, none⟩)] i, U := fun i g => gA [] [[], [], [], [], [(9, ((g 4).R 0))], [(0, [(m0, .cells #[.slice p0_0_0 ((a0_0).length) c0_0_0, .int .i64 x22.2] 124 (0, 0))])], [], [], [(3, ((g 8).R 0))]] i, Φ := fun i x => match i with | 4 => OwnC (α := Int) 3 (x.A 0) 3 ([2, 256, 3]) (x.R 0) | 8 => OwnC (α := Ln) 41 p4 c6 (x3.l.set (Int.toNat x10.1) (⟨x23.va, x23.tg, x22.1, x23.fr, x23.ri, x23.wi⟩ : Ln)) (x.R 0) | _ => True } ?_ ?_
  ·refine ⟨lc rfl rfl fun hs hh => stp_fieldAddr (j := 0) Tryz.underlying29 rfl ts27 rfl (sv hs 5 rfl) rfl, lc rfl rfl fun hs hh => stp_load1 ts27 (sv hs 43 rfl) (Cells.box (id := 4) (hh.get 4 _ rfl) 1 rfl), lM, lM, ?_, ?_, lc rfl rfl fun hs hh => stp_indexAddr Tryz.underlying27 ts41 (by decide) (sv hs 44 rfl) rfl (sv hs 45 rfl) (Rdb.own (id := 3) (hh.get 3 _ rfl) o7) e23, lc rfl rfl fun hs hh => stp_fieldAddr (j := 2) Tryz.underlying41 rfl ts3 rfl (sv hs 49 rfl) rfl, ?_, trivial⟩
   ·refine le rfl rfl (fun g hΦ s h hs hh => (stpU_lit (sz := 1) (l := [2, 256, 3]) [.int .i64 2, .int .i64 256, .int .i64 3] sl23 9 (sevp_cons rfl (sevp_cons rfl (sevp_cons rfl sevp_nil))) rfl rfl rfl rfl rfl rfl rfl rfl rfl)) ?_
    rintro g _ _ ⟨p20, C21, rfl, rfl, o21⟩
    exact ⟨⟨[p20], [], [C21]⟩, o21, .inr rfl, rfl⟩
   ·refine le rfl rfl (fun g hΦ s h hs hh => (stpU_callM (fun i => bif Nat.beq i 0 then 0 else 10 + i) cf47 (fun w hw hb => c_s_l12Rd_num fl w m0 a0_0 x11.2 ([2, 256, 3]) rfl (RO.passM hr0_0_0 hw hb) (by simp) (OwnC.passM (id := 9) (hh.get 9 _ rfl) (hΦ 4 rfl) hw hb ⟨rfl, trivial⟩) (hw.pass (js := [0]) ⟨0, [], rfl, (hh.get 0 _ rfl), trivial⟩ (by decide)) x22 e22) (yB (sv hs 46 rfl) (sv hs 47 rfl)) ⟨(hh.get 0 _ rfl), (fun _ _ hp => by obtain ⟨_, rfl⟩ := hp; exact ⟨_, rfl⟩), trivial⟩)) ?_
    rintro g _ _ ⟨_, ⟨rfl, rfl⟩, rfl⟩
    exact ⟨⟨[], [], []⟩, trivial, .inr rfl, rfl⟩
   refine le rfl rfl (fun g hΦ s h hs hh => (stpU_storeEl (id := 3) (i := 2) (⟨x23.va, x23.tg, x22.1, x23.fr, x23.ri, x23.wi⟩ : Ln) (by decide) ts3 (sv hs 50 rfl) (sv hs 48 rfl) (hh.get 3 _ rfl) o7 e23 rfl rfl rfl rfl)) ?_
   rintro g _ _ ⟨C24, rfl, o24⟩
   exact ⟨⟨[], [], [C24]⟩, o24, .inl rfl, rfl⟩
  intro g hΦ
  refine kw_gen (ι := Option Addr × Res × Res) (((g 4).A 0), ((g 4).R 0), ((g 8).R 0)) (fun | (p20, C21, C24) => OwnC (α := Int) 3 p20 3 ([2, 256, 3]) C21 ∧ OwnC (α := Ln) 41 p4 c6 (x3.l.set (Int.toNat x10.1) (⟨x23.va, x23.tg, x22.1, x23.fr, x23.ri, x23.wi⟩ : Ln)) C24) (fun | (p20, C21, C24) => [(4, .pointer (some ⟨b2, 0, none⟩)), (5, .pointer (some ⟨b8, 0, none⟩))]) (fun | (p20, C21, C24) => [(0, [(m0, .cells #[.slice p0_0_0 ((a0_0).length) c0_0_0, .int .i64 x22.2] 124 (0, 0))]), (2, [(b2, .cells #[.slice none 0 0, .int .i64 0] 29 (0, 0))]), (3, C24), (4, [(b8, .cells #[.slice p4 ((x3.l).length) c6, .int .i64 x3.h] 29 (0, 0))])]) ⟨(hΦ 4 (by decide)), (hΦ 8 (by decide))⟩ ⟨rfl, rfl, trivial⟩ ⟨rfl, rfl, rfl, rfl, trivial⟩ ?_
  rintro ⟨p20, C21, C24⟩ ⟨o21, o24⟩
  dsimp only
  refine kw_bl_normal (kw_nx (sr (oB2 4 ts29 rfl (oC2 2 ts29 rfl rfl (nn (cw_ret ?_))))))
  obtain rfl := sI H0
  exact kr Tryz.results117 (rC2 2 ts29 rfl rfl) [0, 3] ⟨_, _, _, _, rfl, rfl, (by simp), o24⟩
 have H0 := cond_f H0 h19
 refine sr (oQ rfl (oS rfl (nn (cw_cond rfl (fun h25 => ?_) (fun h25 => ?_)))))
 ·have H0 := cond_t H0 h25
  obtain ⟨x28, e28, H0⟩ := bS H0
  obtain ⟨x29, e29, H0⟩ := bS H0
  refine rdq g_mixed [0, 5, 6] [0, 3, 4] { dst := dS [54, 55, 56, 57, 58, 59, 60, 61, 0], pre := gA [] [[], [0], [], [], [], [3, 4], rn 0 6, rn 0 7, rn 0 8], ids := gA [] [[], [], [], [], [11], [0], [], [], [3]], rs := rL [[(5, 0)], [(53, 1)], [(6, 0)], [(0, 0)], [], [(56, 4), (57, 5)], [(54, 2), (55, 3)], [(59, 7)], [(60, 8), (58, 6)]], rh := rL [[], [(4, 0)], [], [], [], [(0, 0), (11, 5)], [(3, 0)], [], [(3, 0)]], V := fun i g => gA undef [.pointer (some ⟨b8, 0, none⟩), .slice p4 ((x3.l).length) c6, .int .i64 x10.1, .pointer (some ⟨m0, 0, none⟩), .slice ((g 4).A 0) 4 4, .int .i64 x28.1, .pointer (some ⟨eB p4, eO p4 + Int.toNat x10.1 * Enc.sz Ln + 0, none⟩), .pointer (some ⟨eB p4, eO p4 + Int.toNat x10.1 * Enc.sz Ln + 1, none⟩)] i, U := fun i g => gA [] [[], [], [], [], [(11, ((g 4).R 0))], [(0, [(m0, .cells #[.slice p0_0_0 ((a0_0).length) c0_0_0, .int .i64 x28.2] 124 (0, 0))])], [], [], [(3, ((g 8).R 0))]] i, Φ := fun i x => match i with | 4 => OwnC (α := Int) 3 (x.A 0) 4 ([8, (-2), 0, (-1)]) (x.R 0) | 8 => OwnC (α := Ln) 41 p4 c6 (x3.l.set (Int.toNat x10.1) (⟨x29.va, x28.1, x29.pg, x29.fr, x29.ri, x29.wi⟩ : Ln)) (x.R 0) | _ => True } ?_ ?_
  ·refine ⟨lc rfl rfl fun hs hh => stp_fieldAddr (j := 0) Tryz.underlying29 rfl ts27 rfl (sv hs 5 rfl) rfl, lc rfl rfl fun hs hh => stp_load1 ts27 (sv hs 53 rfl) (Cells.box (id := 4) (hh.get 4 _ rfl) 1 rfl), lM, lM, ?_, ?_, lc rfl rfl fun hs hh => stp_indexAddr Tryz.underlying27 ts41 (by decide) (sv hs 54 rfl) rfl (sv hs 55 rfl) (Rdb.own (id := 3) (hh.get 3 _ rfl) o7) e29, lc rfl rfl fun hs hh => stp_fieldAddr (j := 1) Tryz.underlying41 rfl ts3 rfl (sv hs 59 rfl) rfl, ?_, trivial⟩
   ·refine le rfl rfl (fun g hΦ s h hs hh => (stpU_lit (sz := 1) (l := [8, (-2), 0, (-1)]) [.int .i64 8, .int .i64 (-2), .int .i64 0, .int .i64 (-1)] sl23 11 (sevp_cons rfl (sevp_cons rfl (sevp_cons rfl (sevp_cons rfl sevp_nil)))) rfl rfl rfl rfl rfl rfl rfl rfl rfl)) ?_
    rintro g _ _ ⟨p26, C27, rfl, rfl, o27⟩
    exact ⟨⟨[p26], [], [C27]⟩, o27, .inr rfl, rfl⟩
   ·refine le rfl rfl (fun g hΦ s h hs hh => (stpU_callM (fun i => bif Nat.beq i 0 then 0 else 12 + i) cf47 (fun w hw hb => c_s_l12Rd_num fl w m0 a0_0 x11.2 ([8, (-2), 0, (-1)]) rfl (RO.passM hr0_0_0 hw hb) (by simp) (OwnC.passM (id := 11) (hh.get 11 _ rfl) (hΦ 4 rfl) hw hb ⟨rfl, trivial⟩) (hw.pass (js := [0]) ⟨0, [], rfl, (hh.get 0 _ rfl), trivial⟩ (by decide)) x28 e28) (yB (sv hs 56 rfl) (sv hs 57 rfl)) ⟨(hh.get 0 _ rfl), (fun _ _ hp => by obtain ⟨_, rfl⟩ := hp; exact ⟨_, rfl⟩), trivial⟩)) ?_
    rintro g _ _ ⟨_, ⟨rfl, rfl⟩, rfl⟩
    exact ⟨⟨[], [], []⟩, trivial, .inr rfl, rfl⟩
   refine le rfl rfl (fun g hΦ s h hs hh => (stpU_storeEl (id := 3) (i := 1) (⟨x29.va, x28.1, x29.pg, x29.fr, x29.ri, x29.wi⟩ : Ln) (by decide) ts3 (sv hs 60 rfl) (sv hs 58 rfl) (hh.get 3 _ rfl) o7 e29 rfl rfl rfl rfl)) ?_
   rintro g _ _ ⟨C30, rfl, o30⟩
   exact ⟨⟨[], [], [C30]⟩, o30, .inl rfl, rfl⟩
  intro g hΦ
  refine kw_gen (ι := Option Addr × Res × Res) (((g 4).A 0), ((g 4).R 0), ((g 8).R 0)) (fun | (p26, C27, C30) => OwnC (α := Int) 3 p26 4 ([8, (-2), 0, (-1)]) C27 ∧ OwnC (α := Ln) 41 p4 c6 (x3.l.set (Int.toNat x10.1) (⟨x29.va, x28.1, x29.pg, x29.fr, x29.ri, x29.wi⟩ : Ln)) C30) (fun | (p26, C27, C30) => [(4, .pointer (some ⟨b2, 0, none⟩)), (5, .pointer (some ⟨b8, 0, none⟩))]) (fun | (p26, C27, C30) => [(0, [(m0, .cells #[.slice p0_0_0 ((a0_0).length) c0_0_0, .int .i64 x28.2] 124 (0, 0))]), (2, [(b2, .cells #[.slice none 0 0, .int .i64 0] 29 (0, 0))]), (3, C30), (4, [(b8, .cells #[.slice p4 ((x3.l).length) c6, .int .i64 x3.h] 29 (0, 0))])]) ⟨(hΦ 4 (by decide)), (hΦ 8 (by decide))⟩ ⟨rfl, rfl, trivial⟩ ⟨rfl, rfl, rfl, rfl, trivial⟩ ?_
  rintro ⟨p26, C27, C30⟩ ⟨o27, o30⟩
  dsimp only
  refine kw_bl_normal (kw_nx (sr (oB2 4 ts29 rfl (oC2 2 ts29 rfl rfl (nn (cw_ret ?_))))))
  obtain rfl := sI H0
  exact kr Tryz.results117 (rC2 2 ts29 rfl rfl) [0, 3] ⟨_, _, _, _, rfl, rfl, (by simp), o30⟩
 have H0 := cond_f H0 h25
 refine sr (oQ rfl (oS rfl (nn (cw_cond rfl (fun h31 => ?_) (fun h31 => ?_)))))
 ·have H0 := cond_t H0 h31
  refine cw_region (oE (stpU_lit0 sl27 13) rfl ?_)
  rintro _ _ ⟨p32, C33, rfl, rfl, o33⟩
  refine oA 0 Tryz.underlying29 rfl ts27 rfl (oC2 4 ts27 rfl rfl (ow_nil (kw_bl_normal (kw_nx (sr (oB2 4 ts29 rfl (oC2 2 ts29 rfl rfl (nn (cw_ret ?_)))))))))
  obtain rfl := sI H0
  exact kr Tryz.results117 (rC2 2 ts29 rfl rfl) [0, 13] ⟨_, _, _, _, rfl, rfl, (by simp), o33⟩
 have H0 := cond_f H0 h31
 refine cw_skip (kw_bl_normal (kw_nx (sr (oB2 4 ts29 rfl (oC2 2 ts29 rfl rfl (nn (cw_ret ?_)))))))
 obtain rfl := sI H0
 exact kr Tryz.results117 (rC2 2 ts29 rfl rfl) [0, 3] ⟨_, _, _, _, rfl, rfl, rfl, o7⟩

theorem c_s_l2Draw (fl : Nat) (w : World) (m0 : Nat) (a0_0 : (List UInt8)) (a0_1 : Int) (hn0_0_0 : n0_0_0 = (a0_0).length) (hr0_0_0 : RO w (hkeys [(0, [(m0, .cells #[.slice p0_0_0 n0_0_0 c0_0_0, .int .i64 a0_1] 124 (0, 0))])]) (RdL p0_0_0 c0_0_0 a0_0)) (hM : Sat w (hkeys [(0, [(m0, .cells #[.slice p0_0_0 n0_0_0 c0_0_0, .int .i64 a0_1] 124 (0, 0))])]) w [(0, [(m0, .cells #[.slice p0_0_0 n0_0_0 c0_0_0, .int .i64 a0_1] 124 (0, 0))])]) (r : K × Int) (H0 : s_l2Draw fl a0_0 a0_1 = some r) :
  Ct Tryz.prog 149 [.pointer (some ⟨m0, 0, none⟩)] w [(0, [(m0, .cells #[.slice p0_0_0 n0_0_0 c0_0_0, .int .i64 a0_1] 124 (0, 0))])] (fun rv h' => rv = .agg #[.int .i64 r.1.s, .int .i64 r.1.p] ∧ h' = [(0, [(m0, .cells #[.slice p0_0_0 n0_0_0 c0_0_0, .int .i64 r.2] 124 (0, 0))])]) := by
 subst hn0_0_0
 unfold s_l2Draw at H0
 refine ct_of_cw Tryz.func149 rfl Tryz.ntmps149 rfl hM ?_
 refine sr (oE (stpU_alloc 1 tz47 rfl) rfl ?_)
 rintro _ _ ⟨b1, rfl, rfl⟩
 refine nn (sr (oM rfl (oE (stpU_lit (sz := 1) (l := [0, 1, 2, 3, 1]) [.int .i64 0, .int .i64 1, .int .i64 2, .int .i64 3, .int .i64 1] sl23 2 (sevp_cons rfl (sevp_cons rfl (sevp_cons rfl (sevp_cons rfl (sevp_cons rfl sevp_nil))))) rfl rfl rfl rfl rfl rfl rfl rfl rfl) rfl ?_)))
 rintro _ _ ⟨p2, C3, rfl, rfl, o3⟩
 obtain ⟨x4, e4, H0⟩ := bS H0
 refine oE (stpU_callM (fun i => bif Nat.beq i 0 then 0 else 3 + i) cf47 (fun w hw hb => c_s_l12Rd_num fl w m0 a0_0 a0_1 ([0, 1, 2, 3, 1]) rfl (RO.passM hr0_0_0 hw hb) (by simp) (OwnC.passM (id := 2) rfl o3 hw hb ⟨rfl, trivial⟩) (hw.pass (js := [0]) ⟨0, [], rfl, rfl, trivial⟩ (by decide)) x4 e4) (yB rfl rfl) ⟨rfl, (fun _ _ hp => by obtain ⟨_, rfl⟩ := hp; exact ⟨_, rfl⟩), trivial⟩) rfl ?_
 rintro _ _ ⟨_, ⟨rfl, rfl⟩, rfl⟩
 refine oM rfl (oE (stpU_lit (sz := 1) (l := [0, 1, 2, 3, 4, 5, 100, 255]) [.int .i64 0, .int .i64 1, .int .i64 2, .int .i64 3, .int .i64 4, .int .i64 5, .int .i64 100, .int .i64 255] sl23 4 (sevp_cons rfl (sevp_cons rfl (sevp_cons rfl (sevp_cons rfl (sevp_cons rfl (sevp_cons rfl (sevp_cons rfl (sevp_cons rfl sevp_nil)))))))) rfl rfl rfl rfl rfl rfl rfl rfl rfl) rfl ?_)
 rintro _ _ ⟨p5, C6, rfl, rfl, o6⟩
 obtain ⟨x7, e7, H0⟩ := bS H0
 refine oE (stpU_callM (fun i => bif Nat.beq i 0 then 0 else 5 + i) cf47 (fun w hw hb => c_s_l12Rd_num fl w m0 a0_0 x4.2 ([0, 1, 2, 3, 4, 5, 100, 255]) rfl (RO.passM hr0_0_0 hw hb) (by simp) (OwnC.passM (id := 4) rfl o6 hw hb ⟨rfl, trivial⟩) (hw.pass (js := [0]) ⟨0, [], rfl, rfl, trivial⟩ (by decide)) x7 e7) (yB rfl rfl) ⟨rfl, (fun _ _ hp => by obtain ⟨_, rfl⟩ := hp; exact ⟨_, rfl⟩), trivial⟩) rfl ?_
 rintro _ _ ⟨_, ⟨rfl, rfl⟩, rfl⟩
 refine oD (stp_build (cs := #[.int .i64 x4.1, .int .i64 x7.1]) (sevp_cons rfl (sevp_cons rfl sevp_nil)) bt47_13) rfl (oC2 1 ts47 rfl rfl (nn (cw_ret ?_)))
 obtain rfl := sI H0
 exact kr Tryz.results149 (rC2 1 ts47 rfl rfl) [0] ⟨rfl, rfl⟩

theorem c_s_l3Wrong (fl : Nat) (w : World) (m0 : Nat) (a0_0 : (List UInt8)) (a0_1 : Int) (a1 : T) (hn0_0_0 : n0_0_0 = (a0_0).length) (hr0_0_0 : RO w (hkeys [(0, [(m0, .cells #[.slice p0_0_0 n0_0_0 c0_0_0, .int .i64 a0_1] 124 (0, 0))])]) (RdL p0_0_0 c0_0_0 a0_0)) (hn1_0 : n1_0 = (a1.b).length) (hr1_0 : RO w (hkeys [(0, [(m0, .cells #[.slice p0_0_0 n0_0_0 c0_0_0, .int .i64 a0_1] 124 (0, 0))])]) (RdL p1_0 c1_0 a1.b)) (hn1_1 : n1_1 = (a1.f).length) (hr1_1 : RO w (hkeys [(0, [(m0, .cells #[.slice p0_0_0 n0_0_0 c0_0_0, .int .i64 a0_1] 124 (0, 0))])]) (RdL p1_1 c1_1 a1.f)) (hM : Sat w (hkeys [(0, [(m0, .cells #[.slice p0_0_0 n0_0_0 c0_0_0, .int .i64 a0_1] 124 (0, 0))])]) w [(0, [(m0, .cells #[.slice p0_0_0 n0_0_0 c0_0_0, .int .i64 a0_1] 124 (0, 0))])]) (r : T × Int) (H0 : s_l3Wrong fl a0_0 a0_1 a1 = some r) :
  Ct Tryz.prog 118 [.pointer (some ⟨m0, 0, none⟩), .agg #[.slice p1_0 n1_0 c1_0, .slice p1_1 n1_1 c1_1]] w [(0, [(m0, .cells #[.slice p0_0_0 n0_0_0 c0_0_0, .int .i64 a0_1] 124 (0, 0))])] (fun rv h' => ∃ (x1 : Option Addr) (y1 z1 : Nat) (C1 : Res) (x2 : Option Addr) (y2 z2 : Nat) (C2 : Res), rv = .agg #[.slice x1 y1 z1, .slice x2 y2 z2] ∧ h' = [(0, [(m0, .cells #[.slice p0_0_0 n0_0_0 c0_0_0, .int .i64 r.2] 124 (0, 0))]), (1, C1), (2, C2)] ∧ y1 = (r.1.b).length ∧ OwnC 3 x1 z1 r.1.b C1 ∧ y2 = (r.1.f).length ∧ OwnC 58 x2 z2 r.1.f C2) := by
 subst hn0_0_0 hn1_0 hn1_1
 unfold s_l3Wrong at H0
 refine ct_of_cw Tryz.func118 rfl Tryz.ntmps118 rfl hM ?_
 refine sr (oE (stpU_box 1 rfl rfl) rfl ?_)
 rintro _ _ ⟨b1, rfl, rfl⟩
 refine oE (stpU_alloc 2 tz26 rfl) rfl ?_
 rintro _ _ ⟨b2, rfl, rfl⟩
 obtain ⟨x3, e3, H0⟩ := bS H0
 refine nn (sr (oB2 1 ts26 rfl (oE (stpU_call (fun i => 3 + i) cf108 (fun w hw => c_s_l3Copy fl w a1 rfl (RO.pass hr1_0 hw) rfl (RO.pass hr1_1 hw) x3 e3) (yA rfl)) rfl ?_)))
 rintro _ _ ⟨_, ⟨p4, _, c6, C7, p8, _, c10, C11, rfl, rfl, rfl, o7, rfl, o11⟩, rfl⟩
 refine oE (stpU_alloc 5 tz26 rfl) rfl ?_
 rintro _ _ ⟨b12, rfl, rfl⟩
 refine oC2 5 ts26 rfl rfl (nn (cw_seq (sr (oA 1 Tryz.underlying26 rfl ts24 rfl (oL 5 ts24 rfl (oD (stp_len Tryz.underlying24 rfl) rfl (oQ rfl (nn (cw_cond rfl (fun h13 => ?_) (fun h13 => ?_))))))))))
 ·have H0 := cond_t H0 h13
  refine sr (oB2 5 ts26 rfl (oC2 2 ts26 rfl rfl (nn (cw_ret (kw_nx_ret ?_)))))
  obtain rfl := sI H0
  exact kr Tryz.results118 (rC2 2 ts26 rfl rfl) [0, 3, 4] ⟨_, _, _, _, _, _, _, _, rfl, rfl, rfl, o7, rfl, o11⟩
 have H0 := cond_f H0 h13
 obtain ⟨x14, e14, H0⟩ := bS H0
 refine cw_skip (kw_nx (sr (oM rfl (oA 1 Tryz.underlying26 rfl ts24 rfl (oL 5 ts24 rfl (oD (stp_len Tryz.underlying24 rfl) rfl (oE (stpU_callM (fun i => bif Nat.beq i 0 then 0 else 6 + i) cf66 (fun w hw hb => c_s_l12Rd_pick fl w m0 a0_0 a0_1 ((x3.f).length : Int) rfl (RO.passM hr0_0_0 hw hb) (hw.pass (js := [0]) ⟨0, [], rfl, rfl, trivial⟩ (by decide)) x14 e14) (yB rfl rfl) ⟨rfl, (fun _ _ hp => by obtain ⟨_, rfl⟩ := hp; exact ⟨_, rfl⟩), trivial⟩) rfl ?_)))))))
 rintro _ _ ⟨_, ⟨rfl, rfl⟩, rfl⟩
 obtain ⟨x15, e15, H0⟩ := bS H0
 refine oS rfl (nn (cw_seq (sr (oM rfl (oE (stpU_callM (fun i => bif Nat.beq i 0 then 0 else 7 + i) cf66 (fun w hw hb => c_s_l12Rd_pick fl w m0 a0_0 x14.2 24 rfl (RO.passM hr0_0_0 hw hb) (hw.pass (js := [0]) ⟨0, [], rfl, rfl, trivial⟩ (by decide)) x15 e15) (yB rfl rfl) ⟨rfl, (fun _ _ hp => by obtain ⟨_, rfl⟩ := hp; exact ⟨_, rfl⟩), trivial⟩) rfl ?_)))))
 rintro _ _ ⟨_, ⟨rfl, rfl⟩, rfl⟩
 refine nn (cw_block (sr (oQ rfl (oS rfl (nn (cw_cond rfl (fun h16 => ?_) (fun h16 => ?_)))))))
 ·have H0 := cond_t H0 h16
  obtain ⟨x19, e19, H0⟩ := bS H0
  obtain ⟨x20, e20, H0⟩ := bS H0
  refine rdq g_mixed [0, 5, 6] [0, 4, 5] { dst := dS [24, 25, 26, 27, 28, 29, 30, 31, 32, 0], pre := gA [] [[], [0], [], [], [], [4], [3, 4, 5], rn 0 7, rn 0 8, rn 0 9], ids := gA [] [[], [], [], [], [], [8], [0], [], [], [4]], rs := rL [[(5, 0)], [(23, 1)], [(6, 0)], [(0, 0)], [(6, 0)], [(27, 5)], [(26, 4), (28, 6)], [(24, 2), (25, 3)], [(30, 8)], [(31, 9), (29, 7)]], rh := rL [[], [(5, 0)], [], [], [], [], [(0, 0), (8, 6)], [(4, 0)], [], [(4, 0)]], V := fun i g => gA undef [.pointer (some ⟨b12, 1, none⟩), .slice p8 ((x3.f).length) c10, .int .i64 x14.1, .pointer (some ⟨m0, 0, none⟩), .int .i64 x14.1, .slice ((g 5).A 0) 4 4, .int .i64 x19.1, .pointer (some ⟨eB p8, eO p8 + Int.toNat x14.1 * Enc.sz F + 0, none⟩), .pointer (some ⟨eB p8, eO p8 + Int.toNat x14.1 * Enc.sz F + 4, none⟩)] i, U := fun i g => gA [] [[], [], [], [], [], [(8, ((g 5).R 0))], [(0, [(m0, .cells #[.slice p0_0_0 ((a0_0).length) c0_0_0, .int .i64 x19.2] 124 (0, 0))])], [], [], [(4, ((g 9).R 0))]] i, Φ := fun i x => match i with | 5 => OwnC (α := Int) 3 (x.A 0) 4 ([0, x14.1, 16, (-1)]) (x.R 0) | 9 => OwnC (α := F) 58 p8 c10 (x3.f.set (Int.toNat x14.1) (⟨x20.u, x20.k, x20.r, x19.1⟩ : F)) (x.R 0) | _ => True } ?_ ?_
  ·refine ⟨lc rfl rfl fun hs hh => stp_fieldAddr (j := 1) Tryz.underlying26 rfl ts24 rfl (sv hs 5 rfl) rfl, lc rfl rfl fun hs hh => stp_load1 ts24 (sv hs 23 rfl) (Cells.box (id := 5) (hh.get 5 _ rfl) 1 rfl), lM, lM, lM, ?_, ?_, lc rfl rfl fun hs hh => stp_indexAddr Tryz.underlying24 ts58 (by decide) (sv hs 24 rfl) rfl (sv hs 25 rfl) (Rdb.own (id := 4) (hh.get 4 _ rfl) o11) e20, lc rfl rfl fun hs hh => stp_fieldAddr (j := 4) Tryz.underlying58 rfl ts3 rfl (sv hs 30 rfl) rfl, ?_, trivial⟩
   ·refine le rfl rfl (fun g hΦ s h hs hh => (stpU_lit (sz := 1) (l := [0, x14.1, 16, (-1)]) [.int .i64 0, .int .i64 x14.1, .int .i64 16, .int .i64 (-1)] sl23 8 (sevp_cons rfl (sevp_cons (sv hs 27 rfl) (sevp_cons rfl (sevp_cons rfl sevp_nil)))) rfl rfl rfl rfl rfl rfl rfl rfl rfl)) ?_
    rintro g _ _ ⟨p17, C18, rfl, rfl, o18⟩
    exact ⟨⟨[p17], [], [C18]⟩, o18, .inr rfl, rfl⟩
   ·refine le rfl rfl (fun g hΦ s h hs hh => (stpU_callM (fun i => bif Nat.beq i 0 then 0 else 9 + i) cf47 (fun w hw hb => c_s_l12Rd_num fl w m0 a0_0 x15.2 ([0, x14.1, 16, (-1)]) rfl (RO.passM hr0_0_0 hw hb) (by simp) (OwnC.passM (id := 8) (hh.get 8 _ rfl) (hΦ 5 rfl) hw hb ⟨rfl, trivial⟩) (hw.pass (js := [0]) ⟨0, [], rfl, (hh.get 0 _ rfl), trivial⟩ (by decide)) x19 e19) (yB (sv hs 26 rfl) (sv hs 28 rfl)) ⟨(hh.get 0 _ rfl), (fun _ _ hp => by obtain ⟨_, rfl⟩ := hp; exact ⟨_, rfl⟩), trivial⟩)) ?_
    rintro g _ _ ⟨_, ⟨rfl, rfl⟩, rfl⟩
    exact ⟨⟨[], [], []⟩, trivial, .inr rfl, rfl⟩
   refine le rfl rfl (fun g hΦ s h hs hh => (stpU_storeEl (id := 4) (i := 4) (⟨x20.u, x20.k, x20.r, x19.1⟩ : F) (by decide) ts3 (sv hs 31 rfl) (sv hs 29 rfl) (hh.get 4 _ rfl) o11 e20 rfl rfl rfl rfl)) ?_
   rintro g _ _ ⟨C21, rfl, o21⟩
   exact ⟨⟨[], [], [C21]⟩, o21, .inl rfl, rfl⟩
  intro g hΦ
  refine kw_gen (ι := Option Addr × Res × Res) (((g 5).A 0), ((g 5).R 0), ((g 9).R 0)) (fun | (p17, C18, C21) => OwnC (α := Int) 3 p17 4 ([0, x14.1, 16, (-1)]) C18 ∧ OwnC (α := F) 58 p8 c10 (x3.f.set (Int.toNat x14.1) (⟨x20.u, x20.k, x20.r, x19.1⟩ : F)) C21) (fun | (p17, C18, C21) => [(4, .pointer (some ⟨b2, 0, none⟩)), (5, .pointer (some ⟨b12, 0, none⟩))]) (fun | (p17, C18, C21) => [(0, [(m0, .cells #[.slice p0_0_0 ((a0_0).length) c0_0_0, .int .i64 x19.2] 124 (0, 0))]), (2, [(b2, .cells #[.slice none 0 0, .slice none 0 0] 26 (0, 0))]), (3, C7), (4, C21), (5, [(b12, .cells #[.slice p4 ((x3.b).length) c6, .slice p8 ((x3.f).length) c10] 26 (0, 0))])]) ⟨(hΦ 5 (by decide)), (hΦ 9 (by decide))⟩ ⟨rfl, rfl, trivial⟩ ⟨rfl, rfl, rfl, rfl, rfl, trivial⟩ ?_
  rintro ⟨p17, C18, C21⟩ ⟨o18, o21⟩
  dsimp only
  refine kw_bl_normal (kw_nx (sr (oB2 5 ts26 rfl (oC2 2 ts26 rfl rfl (nn (cw_ret ?_))))))
  obtain rfl := sI H0
  exact kr Tryz.results118 (rC2 2 ts26 rfl rfl) [0, 3, 4] ⟨_, _, _, _, _, _, _, _, rfl, rfl, rfl, o7, (by simp), o21⟩
 have H0 := cond_f H0 h16
 refine sr (oQ rfl (oS rfl (nn (cw_cond rfl (fun h22 => ?_) (fun h22 => ?_)))))
 ·have H0 := cond_t H0 h22
  obtain ⟨x23, e23, H0⟩ := bS H0
  refine rdq g_mixed [5, 6] [4, 5] { dst := dS [35, 36, 37, 38, 39, 40, 41, 42, 43, 44, 45, 46, 0], pre := gA [] [[], [0], [], [], [3], [], [3, 4, 5], rn 3 4, rn 3 5, rn 3 6, rn 0 10, rn 0 11, rn 0 12], ids := fun i => match i with | 12 => [4] | _ => [], rs := rL [[(5, 0)], [(34, 1)], [(6, 0)], [(5, 0)], [(37, 4)], [(6, 0)], [(38, 5), (39, 6)], [(40, 7)], [(41, 8)], [(42, 9)], [(35, 2), (36, 3)], [(44, 11)], [(45, 12), (43, 10)]], rh := rL [[], [(5, 0)], [], [], [(5, 0)], [], [(4, 0)], [], [(4, 0)], [], [(4, 0)], [], [(4, 0)]], V := fun i g => gA undef [.pointer (some ⟨b12, 1, none⟩), .slice p8 ((x3.f).length) c10, .int .i64 x14.1, .pointer (some ⟨b12, 1, none⟩), .slice p8 ((x3.f).length) c10, .int .i64 x14.1, .pointer (some ⟨eB p8, eO p8 + Int.toNat x14.1 * Enc.sz F + 0, none⟩), .pointer (some ⟨eB p8, eO p8 + Int.toNat x14.1 * Enc.sz F + 0, none⟩), .bool x23.u, .bool (!x23.u), .pointer (some ⟨eB p8, eO p8 + Int.toNat x14.1 * Enc.sz F + 0, none⟩), .pointer (some ⟨eB p8, eO p8 + Int.toNat x14.1 * Enc.sz F + 0, none⟩)] i, U := fun i g => match i with | 12 => [(4, ((g 12).R 0))] | _ => [], Φ := fun i x => match i with | 12 => OwnC (α := F) 58 p8 c10 (x3.f.set (Int.toNat x14.1) (⟨(!x23.u), x23.k, x23.r, x23.nx⟩ : F)) (x.R 0) | _ => True } ?_ ?_
  ·refine ⟨lc rfl rfl fun hs hh => stp_fieldAddr (j := 1) Tryz.underlying26 rfl ts24 rfl (sv hs 5 rfl) rfl, lc rfl rfl fun hs hh => stp_load1 ts24 (sv hs 34 rfl) (Cells.box (id := 5) (hh.get 5 _ rfl) 1 rfl), lM, lc rfl rfl fun hs hh => stp_fieldAddr (j := 1) Tryz.underlying26 rfl ts24 rfl (sv hs 5 rfl) rfl, lc rfl rfl fun hs hh => stp_load1 ts24 (sv hs 37 rfl) (Cells.box (id := 5) (hh.get 5 _ rfl) 1 rfl), lM, lc rfl rfl fun hs hh => stp_indexAddr Tryz.underlying24 ts58 (by decide) (sv hs 38 rfl) rfl (sv hs 39 rfl) (Rdb.own (id := 4) (hh.get 4 _ rfl) o11) e23, lc rfl rfl fun hs hh => stp_fieldAddr (j := 0) Tryz.underlying58 rfl ts4 rfl (sv hs 40 rfl) rfl, lc rfl rfl fun hs hh => stp_load1 ts4 (sv hs 41 rfl) (Cells.el (Rdb.own (id := 4) (hh.get 4 _ rfl) o11) (by decide) e23 0 1 rfl), lc rfl rfl fun hs hh => stp_not (sv hs 42 rfl), lc rfl rfl fun hs hh => stp_indexAddr Tryz.underlying24 ts58 (by decide) (sv hs 35 rfl) rfl (sv hs 36 rfl) (Rdb.own (id := 4) (hh.get 4 _ rfl) o11) e23, lc rfl rfl fun hs hh => stp_fieldAddr (j := 0) Tryz.underlying58 rfl ts4 rfl (sv hs 44 rfl) rfl, ?_, trivial⟩
   refine le rfl rfl (fun g hΦ s h hs hh => (stpU_storeEl (id := 4) (i := 0) (⟨(!x23.u), x23.k, x23.r, x23.nx⟩ : F) (by decide) ts4 (sv hs 45 rfl) (sv hs 43 rfl) (hh.get 4 _ rfl) o11 e23 rfl rfl rfl rfl)) ?_
   rintro g _ _ ⟨C24, rfl, o24⟩
   exact ⟨⟨[], [], [C24]⟩, o24, .inl rfl, rfl⟩
  intro g hΦ
  refine kw_gen (ι := Res) ((g 12).R 0) (fun | C24 => OwnC (α := F) 58 p8 c10 (x3.f.set (Int.toNat x14.1) (⟨(!x23.u), x23.k, x23.r, x23.nx⟩ : F)) C24) (fun | C24 => [(4, .pointer (some ⟨b2, 0, none⟩)), (5, .pointer (some ⟨b12, 0, none⟩))]) (fun | C24 => [(0, [(m0, .cells #[.slice p0_0_0 ((a0_0).length) c0_0_0, .int .i64 x15.2] 124 (0, 0))]), (2, [(b2, .cells #[.slice none 0 0, .slice none 0 0] 26 (0, 0))]), (3, C7), (4, C24), (5, [(b12, .cells #[.slice p4 ((x3.b).length) c6, .slice p8 ((x3.f).length) c10] 26 (0, 0))])]) (hΦ 12 (by decide)) ⟨rfl, rfl, trivial⟩ ⟨rfl, rfl, rfl, rfl, rfl, trivial⟩ ?_
  rintro C24 o24
  have o24 : OwnC (α := F) 58 p8 c10 (x3.f.set (Int.toNat x14.1) (⟨(!x23.u), x23.k, x23.r, x23.nx⟩ : F)) C24 := o24
  dsimp only
  refine kw_bl_normal (kw_nx (sr (oB2 5 ts26 rfl (oC2 2 ts26 rfl rfl (nn (cw_ret ?_))))))
  obtain rfl := sI H0
  exact kr Tryz.results118 (rC2 2 ts26 rfl rfl) [0, 3, 4] ⟨_, _, _, _, _, _, _, _, rfl, rfl, rfl, o7, (by simp), o24⟩
 have H0 := cond_f H0 h22
 refine sr (oQ rfl (oS rfl (nn (cw_cond rfl (fun h25 => ?_) (fun h25 => ?_)))))
 ·have H0 := cond_t H0 h25
  obtain ⟨x28, e28, H0⟩ := bS H0
  obtain ⟨x29, e29, H0⟩ := bS H0
  refine rdq g_mixed [0, 5] [0, 3, 5] { dst := dS [49, 50, 51, 52, 53, 54, 0], pre := gA [] [[], [0], [], [], [2, 3], rn 0 5, rn 0 6], ids := gA [] [[], [], [], [10], [0], [], [3]], rs := rL [[(5, 0)], [(48, 1)], [(0, 0)], [], [(50, 3), (51, 4)], [(49, 2)], [(53, 6), (52, 5)]], rh := rL [[], [(5, 0)], [], [], [(0, 0), (10, 4)], [(3, 0)], [(3, 0)]], V := fun i g => gA undef [.pointer (some ⟨b12, 0, none⟩), .slice p4 ((x3.b).length) c6, .pointer (some ⟨m0, 0, none⟩), .slice ((g 3).A 0) 4 4, .int .i64 x28.1, .pointer (some ⟨eB p4, eO p4 + Int.toNat 0 * Enc.sz Int + 0, none⟩)] i, U := fun i g => gA [] [[], [], [], [(10, ((g 3).R 0))], [(0, [(m0, .cells #[.slice p0_0_0 ((a0_0).length) c0_0_0, .int .i64 x28.2] 124 (0, 0))])], [], [(3, ((g 6).R 0))]] i, Φ := fun i x => match i with | 3 => OwnC (α := Int) 3 (x.A 0) 4 ([0, (-1), 16, (-2)]) (x.R 0) | 6 => OwnC (α := Int) 3 p4 c6 (x3.b.set (Int.toNat 0) x28.1) (x.R 0) | _ => True } ?_ ?_
  ·refine ⟨lc rfl rfl fun hs hh => stp_fieldAddr (j := 0) Tryz.underlying26 rfl ts23 rfl (sv hs 5 rfl) rfl, lc rfl rfl fun hs hh => stp_load1 ts23 (sv hs 48 rfl) (Cells.box (id := 5) (hh.get 5 _ rfl) 1 rfl), lM, ?_, ?_, lc rfl rfl fun hs hh => stp_indexAddr Tryz.underlying23 ts3 (by decide) (sv hs 49 rfl) rfl rfl (Rdb.own (id := 3) (hh.get 3 _ rfl) o7) e29, ?_, trivial⟩
   ·refine le rfl rfl (fun g hΦ s h hs hh => (stpU_lit (sz := 1) (l := [0, (-1), 16, (-2)]) [.int .i64 0, .int .i64 (-1), .int .i64 16, .int .i64 (-2)] sl23 10 (sevp_cons rfl (sevp_cons rfl (sevp_cons rfl (sevp_cons rfl sevp_nil)))) rfl rfl rfl rfl rfl rfl rfl rfl rfl)) ?_
    rintro g _ _ ⟨p26, C27, rfl, rfl, o27⟩
    exact ⟨⟨[p26], [], [C27]⟩, o27, .inr rfl, rfl⟩
   ·refine le rfl rfl (fun g hΦ s h hs hh => (stpU_callM (fun i => bif Nat.beq i 0 then 0 else 11 + i) cf47 (fun w hw hb => c_s_l12Rd_num fl w m0 a0_0 x15.2 ([0, (-1), 16, (-2)]) rfl (RO.passM hr0_0_0 hw hb) (by simp) (OwnC.passM (id := 10) (hh.get 10 _ rfl) (hΦ 3 rfl) hw hb ⟨rfl, trivial⟩) (hw.pass (js := [0]) ⟨0, [], rfl, (hh.get 0 _ rfl), trivial⟩ (by decide)) x28 e28) (yB (sv hs 50 rfl) (sv hs 51 rfl)) ⟨(hh.get 0 _ rfl), (fun _ _ hp => by obtain ⟨_, rfl⟩ := hp; exact ⟨_, rfl⟩), trivial⟩)) ?_
    rintro g _ _ ⟨_, ⟨rfl, rfl⟩, rfl⟩
    exact ⟨⟨[], [], []⟩, trivial, .inr rfl, rfl⟩
   refine le rfl rfl (fun g hΦ s h hs hh => (stpU_storeEl (id := 3) (i := 0) x28.1 (by decide) ts3 (sv hs 53 rfl) (sv hs 52 rfl) (hh.get 3 _ rfl) o7 e29 rfl rfl rfl rfl)) ?_
   rintro g _ _ ⟨C30, rfl, o30⟩
   exact ⟨⟨[], [], [C30]⟩, o30, .inl rfl, rfl⟩
  intro g hΦ
  refine kw_gen (ι := Option Addr × Res × Res) (((g 3).A 0), ((g 3).R 0), ((g 6).R 0)) (fun | (p26, C27, C30) => OwnC (α := Int) 3 p26 4 ([0, (-1), 16, (-2)]) C27 ∧ OwnC (α := Int) 3 p4 c6 (x3.b.set (Int.toNat 0) x28.1) C30) (fun | (p26, C27, C30) => [(4, .pointer (some ⟨b2, 0, none⟩)), (5, .pointer (some ⟨b12, 0, none⟩))]) (fun | (p26, C27, C30) => [(0, [(m0, .cells #[.slice p0_0_0 ((a0_0).length) c0_0_0, .int .i64 x28.2] 124 (0, 0))]), (2, [(b2, .cells #[.slice none 0 0, .slice none 0 0] 26 (0, 0))]), (3, C30), (4, C11), (5, [(b12, .cells #[.slice p4 ((x3.b).length) c6, .slice p8 ((x3.f).length) c10] 26 (0, 0))])]) ⟨(hΦ 3 (by decide)), (hΦ 6 (by decide))⟩ ⟨rfl, rfl, trivial⟩ ⟨rfl, rfl, rfl, rfl, rfl, trivial⟩ ?_
  rintro ⟨p26, C27, C30⟩ ⟨o27, o30⟩
  dsimp only
  refine kw_bl_normal (kw_nx (sr (oB2 5 ts26 rfl (oC2 2 ts26 rfl rfl (nn (cw_ret ?_))))))
  obtain rfl := sI H0
  exact kr Tryz.results118 (rC2 2 ts26 rfl rfl) [0, 3, 4] ⟨_, _, _, _, _, _, _, _, rfl, rfl, (by simp), o30, rfl, o11⟩
 have H0 := cond_f H0 h25
 refine sr (oQ rfl (oS rfl (nn (cw_cond rfl (fun h31 => ?_) (fun h31 => ?_)))))
 ·have H0 := cond_t H0 h31
  obtain ⟨x32, e32, H0⟩ := bS H0
  obtain ⟨x33, e33, H0⟩ := bS H0
  refine rdq g_mixed [0, 5, 6] [0, 4, 5] { dst := dS [57, 58, 59, 60, 61, 62, 63, 0], pre := gA [] [[], [0], [], [], [3], rn 0 5, rn 0 6, rn 0 7], ids := gA [] [[], [], [], [], [0], [], [], [4]], rs := rL [[(5, 0)], [(56, 1)], [(6, 0)], [(0, 0)], [(59, 4)], [(57, 2), (58, 3)], [(61, 6)], [(62, 7), (60, 5)]], rh := rL [[], [(5, 0)], [], [], [(0, 0)], [(4, 0)], [], [(4, 0)]], V := fun i g => gA undef [.pointer (some ⟨b12, 1, none⟩), .slice p8 ((x3.f).length) c10, .int .i64 x14.1, .pointer (some ⟨m0, 0, none⟩), .agg #[.int .i64 x32.1.s, .int .i64 x32.1.p], .pointer (some ⟨eB p8, eO p8 + Int.toNat x14.1 * Enc.sz F + 0, none⟩), .pointer (some ⟨eB p8, eO p8 + Int.toNat x14.1 * Enc.sz F + 1, none⟩)] i, U := fun i g => gA [] [[], [], [], [], [(0, [(m0, .cells #[.slice p0_0_0 ((a0_0).length) c0_0_0, .int .i64 x32.2] 124 (0, 0))])], [], [], [(4, ((g 7).R 0))]] i, Φ := fun i x => match i with | 7 => OwnC (α := F) 58 p8 c10 (x3.f.set (Int.toNat x14.1) (⟨x33.u, x32.1, x33.r, x33.nx⟩ : F)) (x.R 0) | _ => True } ?_ ?_
  ·refine ⟨lc rfl rfl fun hs hh => stp_fieldAddr (j := 1) Tryz.underlying26 rfl ts24 rfl (sv hs 5 rfl) rfl, lc rfl rfl fun hs hh => stp_load1 ts24 (sv hs 56 rfl) (Cells.box (id := 5) (hh.get 5 _ rfl) 1 rfl), lM, lM, ?_, lc rfl rfl fun hs hh => stp_indexAddr Tryz.underlying24 ts58 (by decide) (sv hs 57 rfl) rfl (sv hs 58 rfl) (Rdb.own (id := 4) (hh.get 4 _ rfl) o11) e33, lc rfl rfl fun hs hh => stp_fieldAddr (j := 1) Tryz.underlying58 rfl ts47 rfl (sv hs 61 rfl) rfl, ?_, trivial⟩
   ·refine le rfl rfl (fun g hΦ s h hs hh => (stpU_callM (fun i => bif Nat.beq i 0 then 0 else 12 + i) cf149 (fun w hw hb => c_s_l2Draw fl w m0 a0_0 x15.2 rfl (RO.passM hr0_0_0 hw hb) (hw.pass (js := [0]) ⟨0, [], rfl, (hh.get 0 _ rfl), trivial⟩ (by decide)) x32 e32) (yA (sv hs 59 rfl)) ⟨(hh.get 0 _ rfl), (fun _ _ hp => by obtain ⟨_, rfl⟩ := hp; exact ⟨_, rfl⟩), trivial⟩)) ?_
    rintro g _ _ ⟨_, ⟨rfl, rfl⟩, rfl⟩
    exact ⟨⟨[], [], []⟩, trivial, .inr rfl, rfl⟩
   refine le rfl rfl (fun g hΦ s h hs hh => (stpU_storeEl (id := 4) (i := 1) (⟨x33.u, x32.1, x33.r, x33.nx⟩ : F) (by decide) ts47 (sv hs 62 rfl) (sv hs 60 rfl) (hh.get 4 _ rfl) o11 e33 rfl rfl rfl rfl)) ?_
   rintro g _ _ ⟨C34, rfl, o34⟩
   exact ⟨⟨[], [], [C34]⟩, o34, .inl rfl, rfl⟩
  intro g hΦ
  refine kw_gen (ι := Res) ((g 7).R 0) (fun | C34 => OwnC (α := F) 58 p8 c10 (x3.f.set (Int.toNat x14.1) (⟨x33.u, x32.1, x33.r, x33.nx⟩ : F)) C34) (fun | C34 => [(4, .pointer (some ⟨b2, 0, none⟩)), (5, .pointer (some ⟨b12, 0, none⟩))]) (fun | C34 => [(0, [(m0, .cells #[.slice p0_0_0 ((a0_0).length) c0_0_0, .int .i64 x32.2] 124 (0, 0))]), (2, [(b2, .cells #[.slice none 0 0, .slice none 0 0] 26 (0, 0))]), (3, C7), (4, C34), (5, [(b12, .cells #[.slice p4 ((x3.b).length) c6, .slice p8 ((x3.f).length) c10] 26 (0, 0))])]) (hΦ 7 (by decide)) ⟨rfl, rfl, trivial⟩ ⟨rfl, rfl, rfl, rfl, rfl, trivial⟩ ?_
  rintro C34 o34
  have o34 : OwnC (α := F) 58 p8 c10 (x3.f.set (Int.toNat x14.1) (⟨x33.u, x32.1, x33.r, x33.nx⟩ : F)) C34 := o34
  dsimp only
  refine kw_bl_normal (kw_nx (sr (oB2 5 ts26 rfl (oC2 2 ts26 rfl rfl (nn (cw_ret ?_))))))
  obtain rfl := sI H0
  exact kr Tryz.results118 (rC2 2 ts26 rfl rfl) [0, 3, 4] ⟨_, _, _, _, _, _, _, _, rfl, rfl, rfl, o7, (by simp), o34⟩
 have H0 := cond_f H0 h31
 refine sr (oQ rfl (oS rfl (nn (cw_cond rfl (fun h35 => ?_) (fun h35 => ?_)))))
 ·have H0 := cond_t H0 h35
  refine cw_region (oA 0 Tryz.underlying26 rfl ts23 rfl (oL 5 ts23 rfl (oE (stpU_lit (sz := 1) (l := [(-1)]) [.int .i64 (-1)] sl23 13 (sevp_cons rfl sevp_nil) rfl rfl rfl rfl rfl rfl rfl rfl rfl) rfl ?_)))
  rintro _ _ ⟨p36, C37, rfl, rfl, o37⟩
  obtain ⟨x38, e38, H0⟩ := bS H0
  refine oE (stpU_append sl23 rfl (id := 3) rfl rfl rfl (by simp) rfl o7 (Rdb.own (id := 13) rfl o37) e38) rfl ?_
  rintro _ _ ⟨p39, c40, C41, rfl, rfl, o41⟩
  refine oA 0 Tryz.underlying26 rfl ts23 rfl (oC2 5 ts23 rfl rfl (ow_nil (kw_bl_normal (kw_nx (sr (oB2 5 ts26 rfl (oC2 2 ts26 rfl rfl (nn (cw_ret ?_)))))))))
  obtain rfl := sI H0
  exact kr Tryz.results118 (rC2 2 ts26 rfl rfl) [0, 3, 4] ⟨_, _, _, _, _, _, _, _, rfl, rfl, rfl, o41, rfl, o11⟩
 have H0 := cond_f H0 h35
 refine sr (oQ rfl (oS rfl (nn (cw_cond rfl (fun h42 => ?_) (fun h42 => ?_)))))
 ·have H0 := cond_t H0 h42
  refine cw_region (oE (stpU_lit0 sl24 14) rfl ?_)
  rintro _ _ ⟨p43, C44, rfl, rfl, o44⟩
  refine oA 1 Tryz.underlying26 rfl ts24 rfl (oC2 5 ts24 rfl rfl (ow_nil (kw_bl_normal (kw_nx (sr (oB2 5 ts26 rfl (oC2 2 ts26 rfl rfl (nn (cw_ret ?_)))))))))
  obtain rfl := sI H0
  exact kr Tryz.results118 (rC2 2 ts26 rfl rfl) [0, 3, 14] ⟨_, _, _, _, _, _, _, _, rfl, rfl, rfl, o7, (by simp), o44⟩
 have H0 := cond_f H0 h42
 refine cw_skip (kw_bl_normal (kw_nx (sr (oB2 5 ts26 rfl (oC2 2 ts26 rfl rfl (nn (cw_ret ?_)))))))
 obtain rfl := sI H0
 exact kr Tryz.results118 (rC2 2 ts26 rfl rfl) [0, 3, 4] ⟨_, _, _, _, _, _, _, _, rfl, rfl, rfl, o7, rfl, o11⟩

theorem c_s_l5Wrong (fl : Nat) (w : World) (m0 : Nat) (a0_0 : (List UInt8)) (a0_1 : Int) (a1 : Tg) (hn0_0_0 : n0_0_0 = (a0_0).length) (hr0_0_0 : RO w (hkeys [(0, [(m0, .cells #[.slice p0_0_0 n0_0_0 c0_0_0, .int .i64 a0_1] 124 (0, 0))])]) (RdL p0_0_0 c0_0_0 a0_0)) (hn1_0 : n1_0 = (a1.o).length) (hr1_0 : RO w (hkeys [(0, [(m0, .cells #[.slice p0_0_0 n0_0_0 c0_0_0, .int .i64 a0_1] 124 (0, 0))])]) (RdL p1_0 c1_0 a1.o)) (hM : Sat w (hkeys [(0, [(m0, .cells #[.slice p0_0_0 n0_0_0 c0_0_0, .int .i64 a0_1] 124 (0, 0))])]) w [(0, [(m0, .cells #[.slice p0_0_0 n0_0_0 c0_0_0, .int .i64 a0_1] 124 (0, 0))])]) (r : Tg × Int) (H0 : s_l5Wrong fl a0_0 a0_1 a1 = some r) :
  Ct Tryz.prog 119 [.pointer (some ⟨m0, 0, none⟩), .agg #[.int .i64 a1.c, .int .i64 a1.n, .int .i64 a1.r, .slice p1_0 n1_0 c1_0]] w [(0, [(m0, .cells #[.slice p0_0_0 n0_0_0 c0_0_0, .int .i64 a0_1] 124 (0, 0))])] (fun rv h' => ∃ (x1 : Option Addr) (y1 z1 : Nat) (C1 : Res), rv = .agg #[.int .i64 r.1.c, .int .i64 r.1.n, .int .i64 r.1.r, .slice x1 y1 z1] ∧ h' = [(0, [(m0, .cells #[.slice p0_0_0 n0_0_0 c0_0_0, .int .i64 r.2] 124 (0, 0))]), (1, C1)] ∧ y1 = (r.1.o).length ∧ OwnC 118 x1 z1 r.1.o C1) := by
 subst hn0_0_0 hn1_0
 unfold s_l5Wrong at H0
 refine ct_of_cw Tryz.func119 rfl Tryz.ntmps119 rfl hM ?_
 refine sr (oE (stpU_box 1 rfl rfl) rfl ?_)
 rintro _ _ ⟨b1, rfl, rfl⟩
 refine oE (stpU_alloc 2 tz32 rfl) rfl ?_
 rintro _ _ ⟨b2, rfl, rfl⟩
 obtain ⟨x3, e3, H0⟩ := bS H0
 refine nn (sr (oB4 1 ts32 rfl (oE (stpU_call (fun i => 3 + i) cf103 (fun w hw => c_s_l5Copy fl w a1 rfl (RO.pass hr1_0 hw) x3 e3) (yA rfl)) rfl ?_)))
 rintro _ _ ⟨_, ⟨p4, _, c6, C7, rfl, rfl, rfl, o7⟩, rfl⟩
 refine oE (stpU_alloc 4 tz32 rfl) rfl ?_
 rintro _ _ ⟨b8, rfl, rfl⟩
 obtain ⟨x9, e9, H0⟩ := bS H0
 refine oC4 4 ts32 rfl rfl (nn (cw_seq (sr (oM rfl (oE (stpU_callM (fun i => bif Nat.beq i 0 then 0 else 5 + i) cf66 (fun w hw hb => c_s_l12Rd_pick fl w m0 a0_0 a0_1 20 rfl (RO.passM hr0_0_0 hw hb) (hw.pass (js := [0]) ⟨0, [], rfl, rfl, trivial⟩ (by decide)) x9 e9) (yB rfl rfl) ⟨rfl, (fun _ _ hp => by obtain ⟨_, rfl⟩ := hp; exact ⟨_, rfl⟩), trivial⟩) rfl ?_)))))
 rintro _ _ ⟨_, ⟨rfl, rfl⟩, rfl⟩
 refine nn (cw_block (sr (oQ rfl (oS rfl (nn (cw_cond rfl (fun h10 => ?_) (fun h10 => ?_)))))))
 ·have H0 := cond_t H0 h10
  refine cw_region (oM rfl (oE (stpU_lit (sz := 1) (l := [(-1), 9, 0]) [.int .i64 (-1), .int .i64 9, .int .i64 0] sl23 6 (sevp_cons rfl (sevp_cons rfl (sevp_cons rfl sevp_nil))) rfl rfl rfl rfl rfl rfl rfl rfl rfl) rfl ?_))
  rintro _ _ ⟨p11, C12, rfl, rfl, o12⟩
  obtain ⟨x13, e13, H0⟩ := bS H0
  refine oE (stpU_callM (fun i => bif Nat.beq i 0 then 0 else 7 + i) cf47 (fun w hw hb => c_s_l12Rd_num fl w m0 a0_0 x9.2 ([(-1), 9, 0]) rfl (RO.passM hr0_0_0 hw hb) (by simp) (OwnC.passM (id := 6) rfl o12 hw hb ⟨rfl, trivial⟩) (hw.pass (js := [0]) ⟨0, [], rfl, rfl, trivial⟩ (by decide)) x13 e13) (yB rfl rfl) ⟨rfl, (fun _ _ hp => by obtain ⟨_, rfl⟩ := hp; exact ⟨_, rfl⟩), trivial⟩) rfl ?_
  rintro _ _ ⟨_, ⟨rfl, rfl⟩, rfl⟩
  refine oA 1 Tryz.underlying32 rfl ts3 rfl (oC4 4 ts3 rfl rfl (ow_nil (kw_bl_normal (kw_nx (sr (oB4 4 ts32 rfl (oC4 2 ts32 rfl rfl (nn (cw_ret ?_)))))))))
  obtain rfl := sI H0
  exact kr Tryz.results119 (rC4 2 ts32 rfl rfl) [0, 3] ⟨_, _, _, _, rfl, rfl, rfl, o7⟩
 have H0 := cond_f H0 h10
 refine sr (oQ rfl (oS rfl (nn (cw_cond rfl (fun h14 => ?_) (fun h14 => ?_)))))
 ·have H0 := cond_t H0 h14
  refine cw_region (oM rfl (oE (stpU_lit (sz := 1) (l := [0, 9, 1]) [.int .i64 0, .int .i64 9, .int .i64 1] sl23 8 (sevp_cons rfl (sevp_cons rfl (sevp_cons rfl sevp_nil))) rfl rfl rfl rfl rfl rfl rfl rfl rfl) rfl ?_))
  rintro _ _ ⟨p15, C16, rfl, rfl, o16⟩
  obtain ⟨x17, e17, H0⟩ := bS H0
  refine oE (stpU_callM (fun i => bif Nat.beq i 0 then 0 else 9 + i) cf47 (fun w hw hb => c_s_l12Rd_num fl w m0 a0_0 x9.2 ([0, 9, 1]) rfl (RO.passM hr0_0_0 hw hb) (by simp) (OwnC.passM (id := 8) rfl o16 hw hb ⟨rfl, trivial⟩) (hw.pass (js := [0]) ⟨0, [], rfl, rfl, trivial⟩ (by decide)) x17 e17) (yB rfl rfl) ⟨rfl, (fun _ _ hp => by obtain ⟨_, rfl⟩ := hp; exact ⟨_, rfl⟩), trivial⟩) rfl ?_
  rintro _ _ ⟨_, ⟨rfl, rfl⟩, rfl⟩
  refine oA 0 Tryz.underlying32 rfl ts3 rfl (oC4 4 ts3 rfl rfl (ow_nil (kw_bl_normal (kw_nx (sr (oB4 4 ts32 rfl (oC4 2 ts32 rfl rfl (nn (cw_ret ?_)))))))))
  obtain rfl := sI H0
  exact kr Tryz.results119 (rC4 2 ts32 rfl rfl) [0, 3] ⟨_, _, _, _, rfl, rfl, rfl, o7⟩
 have H0 := cond_f H0 h14
 refine sr (oQ rfl (oS rfl (nn (cw_cond rfl (fun h18 => ?_) (fun h18 => ?_)))))
 ·have H0 := cond_t H0 h18
  obtain ⟨x19, e19, H0⟩ := bS H0
  obtain ⟨x20, e20, H0⟩ := bS H0
  obtain ⟨x23, e23, H0⟩ := bS H0
  refine rdq g_mixed [0, 5] [0, 3, 4] { dst := dS [25, 26, 27, 28, 29, 30, 31, 32, 33, 34, 0], pre := gA [] [[], [0], [], [2], [], [2, 3, 4], rn 2 4, rn 2 5, rn 0 8, rn 0 9, rn 0 10], ids := gA [] [[], [], [], [0], [], [0], [], [12], [3], [], [4]], rs := rL [[(5, 0)], [(24, 1)], [(0, 0)], [(26, 3)], [(0, 0)], [(28, 5)], [(27, 4), (29, 6)], [(30, 7)], [(25, 2), (31, 8)], [(5, 0)], [(33, 10), (32, 9)]], rh := rL [[], [(4, 0)], [], [(0, 0)], [], [(0, 4)], [], [], [(3, 0), (12, 8)], [], [(4, 0)]], V := fun i g => gA undef [.pointer (some ⟨b8, 3, none⟩), .slice p4 ((x3.o).length) c6, .pointer (some ⟨m0, 0, none⟩), .int .i64 x19.1, .pointer (some ⟨m0, 0, none⟩), .int .i64 x20.1, .agg #[.int .i64 x19.1, .int .i64 x20.1], .slice ((g 7).A 0) 1 1, .slice ((g 8).A 0) ((x23).length) ((g 8).C 0), .pointer (some ⟨b8, 3, none⟩)] i, U := fun i g => gA [] [[], [], [], [(0, [(m0, .cells #[.slice p0_0_0 ((a0_0).length) c0_0_0, .int .i64 x19.2] 124 (0, 0))])], [], [(0, [(m0, .cells #[.slice p0_0_0 ((a0_0).length) c0_0_0, .int .i64 x20.2] 124 (0, 0))])], [], [(12, ((g 7).R 0))], [(3, ((g 8).R 0))], [], [(4, [(b8, .cells #[.int .i64 x3.c, .int .i64 x3.n, .int .i64 x3.r, .slice ((g 8).A 0) ((x23).length) ((g 8).C 0)] 32 (0, 0))])]] i, Φ := fun i x => match i with | 7 => OwnC (α := Ow) 118 (x.A 0) 1 ([(⟨x19.1, x20.1⟩ : Ow)]) (x.R 0) | 8 => OwnC 118 (x.A 0) (x.C 0) x23 (x.R 0) | _ => True } ?_ ?_
  ·refine ⟨lc rfl rfl fun hs hh => stp_fieldAddr (j := 3) Tryz.underlying32 rfl ts30 rfl (sv hs 5 rfl) rfl, lc rfl rfl fun hs hh => stp_load1 ts30 (sv hs 24 rfl) (Cells.box (id := 4) (hh.get 4 _ rfl) 1 rfl), lM, ?_, lM, ?_, lc rfl rfl fun hs hh => stp_build (cs := #[.int .i64 x19.1, .int .i64 x20.1]) (sevp_cons (sv hs 27 rfl) (sevp_cons (sv hs 29 rfl) sevp_nil)) bt118_9, ?_, ?_, lc rfl rfl fun hs hh => stp_fieldAddr (j := 3) Tryz.underlying32 rfl ts30 rfl (sv hs 5 rfl) rfl, ?_, trivial⟩
   ·refine le rfl rfl (fun g hΦ s h hs hh => (stpU_callM (fun i => bif Nat.beq i 0 then 0 else 10 + i) cf66 (fun w hw hb => c_s_l12Rd_pick fl w m0 a0_0 x9.2 3 rfl (RO.passM hr0_0_0 hw hb) (hw.pass (js := [0]) ⟨0, [], rfl, (hh.get 0 _ rfl), trivial⟩ (by decide)) x19 e19) (yB (sv hs 26 rfl) rfl) ⟨(hh.get 0 _ rfl), (fun _ _ hp => by obtain ⟨_, rfl⟩ := hp; exact ⟨_, rfl⟩), trivial⟩)) ?_
    rintro g _ _ ⟨_, ⟨rfl, rfl⟩, rfl⟩
    exact ⟨⟨[], [], []⟩, trivial, .inr rfl, rfl⟩
   ·refine le rfl rfl (fun g hΦ s h hs hh => (stpU_callM (fun i => bif Nat.beq i 0 then 0 else 11 + i) cf66 (fun w hw hb => c_s_l12Rd_pick fl w m0 a0_0 x19.2 3 rfl (RO.passM hr0_0_0 hw hb) (hw.pass (js := [0]) ⟨0, [], rfl, (hh.get 0 _ rfl), trivial⟩ (by decide)) x20 e20) (yB (sv hs 28 rfl) rfl) ⟨(hh.get 0 _ rfl), (fun _ _ hp => by obtain ⟨_, rfl⟩ := hp; exact ⟨_, rfl⟩), trivial⟩)) ?_
    rintro g _ _ ⟨_, ⟨rfl, rfl⟩, rfl⟩
    exact ⟨⟨[], [], []⟩, trivial, .inr rfl, rfl⟩
   ·refine le rfl rfl (fun g hΦ s h hs hh => (stpU_lit (sz := 2) (l := [(⟨x19.1, x20.1⟩ : Ow)]) [.agg #[.int .i64 x19.1, .int .i64 x20.1]] sl30 12 (sevp_cons (sv hs 30 rfl) sevp_nil) rfl rfl rfl rfl rfl rfl rfl rfl rfl)) ?_
    rintro g _ _ ⟨p21, C22, rfl, rfl, o22⟩
    exact ⟨⟨[p21], [], [C22]⟩, o22, .inr rfl, rfl⟩
   ·refine le rfl rfl (fun g hΦ s h hs hh => (stpU_append sl30 rfl (id := 3) (sv hs 25 rfl) rfl (sv hs 31 rfl) (by simp) (hh.get 3 _ rfl) o7 (Rdb.own (id := 12) (hh.get 12 _ rfl) (hΦ 7 rfl)) e23)) ?_
    rintro g _ _ ⟨p24, c25, C26, rfl, rfl, o26⟩
    exact ⟨⟨[p24], [c25], [C26]⟩, o26, .inr rfl, rfl⟩
   refine le rfl rfl (fun g hΦ s h hs hh => (stpU_store (id := 4) (cs' := [.int .i64 x3.c, .int .i64 x3.n, .int .i64 x3.r, .slice ((g 8).A 0) ((x23).length) ((g 8).C 0)]) ts30 (sv hs 33 rfl) (sv hs 32 rfl) (hh.get 4 _ rfl) rfl rfl rfl rfl)) ?_
   rintro g _ _ rfl
   exact ⟨⟨[], [], []⟩, trivial, .inl rfl, rfl⟩
  intro g hΦ
  refine kw_gen (ι := Option Addr × Res × Option Addr × Nat × Res) (((g 7).A 0), ((g 7).R 0), ((g 8).A 0), ((g 8).C 0), ((g 8).R 0)) (fun | (p21, C22, p24, c25, C26) => OwnC (α := Ow) 118 p21 1 ([(⟨x19.1, x20.1⟩ : Ow)]) C22 ∧ OwnC 118 p24 c25 x23 C26) (fun | (p21, C22, p24, c25, C26) => [(4, .pointer (some ⟨b2, 0, none⟩)), (5, .pointer (some ⟨b8, 0, none⟩))]) (fun | (p21, C22, p24, c25, C26) => [(0, [(m0, .cells #[.slice p0_0_0 ((a0_0).length) c0_0_0, .int .i64 x20.2] 124 (0, 0))]), (2, [(b2, .cells #[.int .i64 0, .int .i64 0, .int .i64 0, .slice none 0 0] 32 (0, 0))]), (3, C26), (4, [(b8, .cells #[.int .i64 x3.c, .int .i64 x3.n, .int .i64 x3.r, .slice p24 ((x23).length) c25] 32 (0, 0))])]) ⟨(hΦ 7 (by decide)), (hΦ 8 (by decide))⟩ ⟨rfl, rfl, trivial⟩ ⟨rfl, rfl, rfl, rfl, trivial⟩ ?_
  rintro ⟨p21, C22, p24, c25, C26⟩ ⟨o22, o26⟩
  dsimp only
  refine kw_bl_normal (kw_nx (sr (oB4 4 ts32 rfl (oC4 2 ts32 rfl rfl (nn (cw_ret ?_))))))
  obtain rfl := sI H0
  exact kr Tryz.results119 (rC4 2 ts32 rfl rfl) [0, 3] ⟨_, _, _, _, rfl, rfl, rfl, o26⟩
 have H0 := cond_f H0 h18
 refine sr (oQ rfl (oS rfl (nn (cw_cond rfl (fun h27 => ?_) (fun h27 => ?_)))))
 ·have H0 := cond_t H0 h27
  refine cw_region (oM rfl (oE (stpU_lit (sz := 1) (l := [(-1), 1000001, 1000000]) [.int .i64 (-1), .int .i64 1000001, .int .i64 1000000] sl23 13 (sevp_cons rfl (sevp_cons rfl (sevp_cons rfl sevp_nil))) rfl rfl rfl rfl rfl rfl rfl rfl rfl) rfl ?_))
  rintro _ _ ⟨p28, C29, rfl, rfl, o29⟩
  obtain ⟨x30, e30, H0⟩ := bS H0
  refine oE (stpU_callM (fun i => bif Nat.beq i 0 then 0 else 14 + i) cf47 (fun w hw hb => c_s_l12Rd_num fl w m0 a0_0 x9.2 ([(-1), 1000001, 1000000]) rfl (RO.passM hr0_0_0 hw hb) (by simp) (OwnC.passM (id := 13) rfl o29 hw hb ⟨rfl, trivial⟩) (hw.pass (js := [0]) ⟨0, [], rfl, rfl, trivial⟩ (by decide)) x30 e30) (yB rfl rfl) ⟨rfl, (fun _ _ hp => by obtain ⟨_, rfl⟩ := hp; exact ⟨_, rfl⟩), trivial⟩) rfl ?_
  rintro _ _ ⟨_, ⟨rfl, rfl⟩, rfl⟩
  refine oA 2 Tryz.underlying32 rfl ts3 rfl (oC4 4 ts3 rfl rfl (ow_nil (kw_bl_normal (kw_nx (sr (oB4 4 ts32 rfl (oC4 2 ts32 rfl rfl (nn (cw_ret ?_)))))))))
  obtain rfl := sI H0
  exact kr Tryz.results119 (rC4 2 ts32 rfl rfl) [0, 3] ⟨_, _, _, _, rfl, rfl, rfl, o7⟩
 have H0 := cond_f H0 h27
 refine cw_skip (kw_bl_normal (kw_nx (sr (oB4 4 ts32 rfl (oC4 2 ts32 rfl rfl (nn (cw_ret ?_)))))))
 obtain rfl := sI H0
 exact kr Tryz.results119 (rC4 2 ts32 rfl rfl) [0, 3] ⟨_, _, _, _, rfl, rfl, rfl, o7⟩

theorem c_s_l6Wrong (fl : Nat) (w : World) (m0 : Nat) (a0_0 : (List UInt8)) (a0_1 : Int) (a1 : Mc) (hn0_0_0 : n0_0_0 = (a0_0).length) (hr0_0_0 : RO w (hkeys [(0, [(m0, .cells #[.slice p0_0_0 n0_0_0 c0_0_0, .int .i64 a0_1] 124 (0, 0))])]) (RdL p0_0_0 c0_0_0 a0_0)) (hn1_0 : n1_0 = (a1.t.b).length) (hr1_0 : RO w (hkeys [(0, [(m0, .cells #[.slice p0_0_0 n0_0_0 c0_0_0, .int .i64 a0_1] 124 (0, 0))])]) (RdL p1_0 c1_0 a1.t.b)) (hn1_1 : n1_1 = (a1.t.f).length) (hr1_1 : RO w (hkeys [(0, [(m0, .cells #[.slice p0_0_0 n0_0_0 c0_0_0, .int .i64 a0_1] 124 (0, 0))])]) (RdL p1_1 c1_1 a1.t.f)) (hn1_2 : n1_2 = (a1.c.l).length) (hr1_2 : RO w (hkeys [(0, [(m0, .cells #[.slice p0_0_0 n0_0_0 c0_0_0, .int .i64 a0_1] 124 (0, 0))])]) (RdL p1_2 c1_2 a1.c.l)) (hn1_3 : n1_3 = (a1.g.o).length) (hr1_3 : RO w (hkeys [(0, [(m0, .cells #[.slice p0_0_0 n0_0_0 c0_0_0, .int .i64 a0_1] 124 (0, 0))])]) (RdL p1_3 c1_3 a1.g.o)) (hM : Sat w (hkeys [(0, [(m0, .cells #[.slice p0_0_0 n0_0_0 c0_0_0, .int .i64 a0_1] 124 (0, 0))])]) w [(0, [(m0, .cells #[.slice p0_0_0 n0_0_0 c0_0_0, .int .i64 a0_1] 124 (0, 0))])]) (r : Mc × Int) (H0 : s_l6Wrong fl a0_0 a0_1 a1 = some r) :
  Ct Tryz.prog 63 [.pointer (some ⟨m0, 0, none⟩), .agg #[.slice p1_0 n1_0 c1_0, .slice p1_1 n1_1 c1_1, .slice p1_2 n1_2 c1_2, .int .i64 a1.c.h, .int .i64 a1.g.c, .int .i64 a1.g.n, .int .i64 a1.g.r, .slice p1_3 n1_3 c1_3, .int .i64 a1.s]] w [(0, [(m0, .cells #[.slice p0_0_0 n0_0_0 c0_0_0, .int .i64 a0_1] 124 (0, 0))])] (fun rv h' => ∃ (x1 : Option Addr) (y1 z1 : Nat) (C1 : Res) (x2 : Option Addr) (y2 z2 : Nat) (C2 : Res) (x3 : Option Addr) (y3 z3 : Nat) (C3 : Res) (x4 : Option Addr) (y4 z4 : Nat) (C4 : Res), rv = .agg #[.slice x1 y1 z1, .slice x2 y2 z2, .slice x3 y3 z3, .int .i64 r.1.c.h, .int .i64 r.1.g.c, .int .i64 r.1.g.n, .int .i64 r.1.g.r, .slice x4 y4 z4, .int .i64 r.1.s] ∧ h' = [(0, [(m0, .cells #[.slice p0_0_0 n0_0_0 c0_0_0, .int .i64 r.2] 124 (0, 0))]), (1, C1), (2, C2), (3, C3), (4, C4)] ∧ y1 = (r.1.t.b).length ∧ OwnC 3 x1 z1 r.1.t.b C1 ∧ y2 = (r.1.t.f).length ∧ OwnC 58 x2 z2 r.1.t.f C2 ∧ y3 = (r.1.c.l).length ∧ OwnC 41 x3 z3 r.1.c.l C3 ∧ y4 = (r.1.g.o).length ∧ OwnC 118 x4 z4 r.1.g.o C4) := by
 subst hn0_0_0 hn1_0 hn1_1 hn1_2 hn1_3
 unfold s_l6Wrong at H0
 refine ct_of_cw Tryz.func63 rfl Tryz.ntmps63 rfl hM ?_
 refine sr (oE (stpU_box 1 rfl rfl) rfl ?_)
 rintro _ _ ⟨b1, rfl, rfl⟩
 refine oE (stpU_alloc 2 tz34 rfl) rfl ?_
 rintro _ _ ⟨b2, rfl, rfl⟩
 obtain ⟨x3, e3, H0⟩ := bS H0
 refine nn (sr (oB9 1 ts34 rfl (oE (stpU_call (fun i => 3 + i) cf52 (fun w hw => c_s_l6Copy fl w a1 rfl (RO.pass hr1_0 hw) rfl (RO.pass hr1_1 hw) rfl (RO.pass hr1_2 hw) rfl (RO.pass hr1_3 hw) x3 e3) (yA rfl)) rfl ?_)))
 rintro _ _ ⟨_, ⟨p4, _, c6, C7, p8, _, c10, C11, p12, _, c14, C15, p16, _, c18, C19, rfl, rfl, rfl, o7, rfl, o11, rfl, o15, rfl, o19⟩, rfl⟩
 refine oE (stpU_alloc 7 tz34 rfl) rfl ?_
 rintro _ _ ⟨b20, rfl, rfl⟩
 obtain ⟨x21, e21, H0⟩ := bS H0
 refine oC9 7 ts34 rfl rfl (nn (cw_seq (sr (oM rfl (oE (stpU_callM (fun i => bif Nat.beq i 0 then 0 else 8 + i) cf66 (fun w hw hb => c_s_l12Rd_pick fl w m0 a0_0 a0_1 24 rfl (RO.passM hr0_0_0 hw hb) (hw.pass (js := [0]) ⟨0, [], rfl, rfl, trivial⟩ (by decide)) x21 e21) (yB rfl rfl) ⟨rfl, (fun _ _ hp => by obtain ⟨_, rfl⟩ := hp; exact ⟨_, rfl⟩), trivial⟩) rfl ?_)))))
 rintro _ _ ⟨_, ⟨rfl, rfl⟩, rfl⟩
 refine nn (cw_block (sr (oQ rfl (oS rfl (nn (cw_cond rfl (fun h22 => ?_) (fun h22 => ?_)))))))
 ·have H0 := cond_t H0 h22
  refine cw_region (oM rfl (oE (stpU_lit (sz := 1) (l := [9, (-1), 1]) [.int .i64 9, .int .i64 (-1), .int .i64 1] sl23 9 (sevp_cons rfl (sevp_cons rfl (sevp_cons rfl sevp_nil))) rfl rfl rfl rfl rfl rfl rfl rfl rfl) rfl ?_))
  rintro _ _ ⟨p23, C24, rfl, rfl, o24⟩
  obtain ⟨x25, e25, H0⟩ := bS H0
  refine oE (stpU_callM (fun i => bif Nat.beq i 0 then 0 else 10 + i) cf47 (fun w hw hb => c_s_l12Rd_num fl w m0 a0_0 x21.2 ([9, (-1), 1]) rfl (RO.passM hr0_0_0 hw hb) (by simp) (OwnC.passM (id := 9) rfl o24 hw hb ⟨rfl, trivial⟩) (hw.pass (js := [0]) ⟨0, [], rfl, rfl, trivial⟩ (by decide)) x25 e25) (yB rfl rfl) ⟨rfl, (fun _ _ hp => by obtain ⟨_, rfl⟩ := hp; exact ⟨_, rfl⟩), trivial⟩) rfl ?_
  rintro _ _ ⟨_, ⟨rfl, rfl⟩, rfl⟩
  refine oA 8 Tryz.underlying34 rfl ts3 rfl (oC9 7 ts3 rfl rfl (ow_nil (kw_bl_normal (kw_nx (sr (oB9 7 ts34 rfl (oC9 2 ts34 rfl rfl (nn (cw_ret ?_)))))))))
  obtain rfl := sI H0
  exact kr Tryz.results63 (rC9 2 ts34 rfl rfl) [0, 3, 4, 5, 6] ⟨_, _, _, _, _, _, _, _, _, _, _, _, _, _, _, _, rfl, rfl, rfl, o7, rfl, o11, rfl, o15, rfl, o19⟩
 have H0 := cond_f H0 h22
 refine sr (oQ rfl (oS rfl (nn (cw_cond rfl (fun h26 => ?_) (fun h26 => ?_)))))
 ·have H0 := cond_t H0 h26
  obtain ⟨x27, e27, H0⟩ := bS H0
  refine cw_region (oM rfl (oM rfl (oA 2 Tryz.underlying34 rfl ts29 rfl (oB2 7 ts29 rfl (oE (stpU_callM (fun i => bif Nat.beq i 0 then 0 else 11 + i) cf117 (fun w hw hb => c_s_l4Wrong fl w m0 a0_0 x21.2 x3.c rfl (RO.passM hr0_0_0 hw hb) rfl (OwnC.passM (id := 5) rfl o15 hw hb ⟨rfl, trivial⟩) (hw.pass (js := [0]) ⟨0, [], rfl, rfl, trivial⟩ (by decide)) x27 e27) (yB rfl rfl) ⟨rfl, (fun _ _ hp => by obtain ⟨_, _, _, _, _, rfl, _⟩ := hp; exact ⟨_, rfl⟩), trivial⟩) rfl ?_)))))
  rintro _ _ ⟨_, ⟨p28, _, c30, C31, rfl, rfl, rfl, o31⟩, rfl⟩
  obtain ⟨x32, e32, H0⟩ := bS H0
  refine oE (stpU_callM (fun i => bif Nat.beq i 0 then 0 else 13 + i) cf117 (fun w hw hb => c_s_l4Wrong fl w m0 a0_0 x27.2 x27.1 rfl (RO.passM hr0_0_0 hw hb) rfl (OwnC.passM (id := 12) rfl o31 hw hb ⟨rfl, trivial⟩) (hw.pass (js := [0]) ⟨0, [], rfl, rfl, trivial⟩ (by decide)) x32 e32) (yB rfl rfl) ⟨rfl, (fun _ _ hp => by obtain ⟨_, _, _, _, _, rfl, _⟩ := hp; exact ⟨_, rfl⟩), trivial⟩) rfl ?_
  rintro _ _ ⟨_, ⟨p33, _, c35, C36, rfl, rfl, rfl, o36⟩, rfl⟩
  refine oA 2 Tryz.underlying34 rfl ts29 rfl (oC9 7 ts29 rfl rfl (ow_nil (kw_bl_normal (kw_nx (sr (oB9 7 ts34 rfl (oC9 2 ts34 rfl rfl (nn (cw_ret ?_)))))))))
  obtain rfl := sI H0
  exact kr Tryz.results63 (rC9 2 ts34 rfl rfl) [0, 3, 4, 14, 6] ⟨_, _, _, _, _, _, _, _, _, _, _, _, _, _, _, _, rfl, rfl, rfl, o7, rfl, o11, rfl, o36, rfl, o19⟩
 have H0 := cond_f H0 h26
 refine sr (oQ rfl (oS rfl (nn (cw_cond rfl (fun h37 => ?_) (fun h37 => ?_)))))
 ·have H0 := cond_t H0 h37
  obtain ⟨x38, e38, H0⟩ := bS H0
  refine cw_region (oM rfl (oM rfl (oA 0 Tryz.underlying34 rfl ts26 rfl (oB2 7 ts26 rfl (oE (stpU_callM (fun i => bif Nat.beq i 0 then 0 else 15 + i) cf118 (fun w hw hb => c_s_l3Wrong fl w m0 a0_0 x21.2 x3.t rfl (RO.passM hr0_0_0 hw hb) rfl (OwnC.passM (id := 3) rfl o7 hw hb ⟨rfl, trivial⟩) rfl (OwnC.passM (id := 4) rfl o11 hw hb ⟨rfl, trivial⟩) (hw.pass (js := [0]) ⟨0, [], rfl, rfl, trivial⟩ (by decide)) x38 e38) (yB rfl rfl) ⟨rfl, (fun _ _ hp => by obtain ⟨_, _, _, _, _, _, _, _, _, rfl, _⟩ := hp; exact ⟨_, rfl⟩), trivial⟩) rfl ?_)))))
  rintro _ _ ⟨_, ⟨p39, _, c41, C42, p43, _, c45, C46, rfl, rfl, rfl, o42, rfl, o46⟩, rfl⟩
  obtain ⟨x47, e47, H0⟩ := bS H0
  refine oE (stpU_callM (fun i => bif Nat.beq i 0 then 0 else 18 + i) cf118 (fun w hw hb => c_s_l3Wrong fl w m0 a0_0 x38.2 x38.1 rfl (RO.passM hr0_0_0 hw hb) rfl (OwnC.passM (id := 16) rfl o42 hw hb ⟨rfl, trivial⟩) rfl (OwnC.passM (id := 17) rfl o46 hw hb ⟨rfl, trivial⟩) (hw.pass (js := [0]) ⟨0, [], rfl, rfl, trivial⟩ (by decide)) x47 e47) (yB rfl rfl) ⟨rfl, (fun _ _ hp => by obtain ⟨_, _, _, _, _, _, _, _, _, rfl, _⟩ := hp; exact ⟨_, rfl⟩), trivial⟩) rfl ?_
  rintro _ _ ⟨_, ⟨p48, _, c50, C51, p52, _, c54, C55, rfl, rfl, rfl, o51, rfl, o55⟩, rfl⟩
  refine oA 0 Tryz.underlying34 rfl ts26 rfl (oC9 7 ts26 rfl rfl (ow_nil (kw_bl_normal (kw_nx (sr (oB9 7 ts34 rfl (oC9 2 ts34 rfl rfl (nn (cw_ret ?_)))))))))
  obtain rfl := sI H0
  exact kr Tryz.results63 (rC9 2 ts34 rfl rfl) [0, 19, 20, 5, 6] ⟨_, _, _, _, _, _, _, _, _, _, _, _, _, _, _, _, rfl, rfl, rfl, o51, rfl, o55, rfl, o15, rfl, o19⟩
 have H0 := cond_f H0 h37
 refine sr (oQ rfl (oS rfl (nn (cw_cond rfl (fun h56 => ?_) (fun h56 => ?_)))))
 ·have H0 := cond_t H0 h56
  obtain ⟨x57, e57, H0⟩ := bS H0
  refine cw_region (oM rfl (oM rfl (oA 4 Tryz.underlying34 rfl ts32 rfl (oB4 7 ts32 rfl (oE (stpU_callM (fun i => bif Nat.beq i 0 then 0 else 21 + i) cf119 (fun w hw hb => c_s_l5Wrong fl w m0 a0_0 x21.2 x3.g rfl (RO.passM hr0_0_0 hw hb) rfl (OwnC.passM (id := 6) rfl o19 hw hb ⟨rfl, trivial⟩) (hw.pass (js := [0]) ⟨0, [], rfl, rfl, trivial⟩ (by decide)) x57 e57) (yB rfl rfl) ⟨rfl, (fun _ _ hp => by obtain ⟨_, _, _, _, _, rfl, _⟩ := hp; exact ⟨_, rfl⟩), trivial⟩) rfl ?_)))))
  rintro _ _ ⟨_, ⟨p58, _, c60, C61, rfl, rfl, rfl, o61⟩, rfl⟩
  obtain ⟨x62, e62, H0⟩ := bS H0
  refine oE (stpU_callM (fun i => bif Nat.beq i 0 then 0 else 23 + i) cf119 (fun w hw hb => c_s_l5Wrong fl w m0 a0_0 x57.2 x57.1 rfl (RO.passM hr0_0_0 hw hb) rfl (OwnC.passM (id := 22) rfl o61 hw hb ⟨rfl, trivial⟩) (hw.pass (js := [0]) ⟨0, [], rfl, rfl, trivial⟩ (by decide)) x62 e62) (yB rfl rfl) ⟨rfl, (fun _ _ hp => by obtain ⟨_, _, _, _, _, rfl, _⟩ := hp; exact ⟨_, rfl⟩), trivial⟩) rfl ?_
  rintro _ _ ⟨_, ⟨p63, _, c65, C66, rfl, rfl, rfl, o66⟩, rfl⟩
  refine oA 4 Tryz.underlying34 rfl ts32 rfl (oC9 7 ts32 rfl rfl (ow_nil (kw_bl_normal (kw_nx (sr (oB9 7 ts34 rfl (oC9 2 ts34 rfl rfl (nn (cw_ret ?_)))))))))
  obtain rfl := sI H0
  exact kr Tryz.results63 (rC9 2 ts34 rfl rfl) [0, 3, 4, 5, 24] ⟨_, _, _, _, _, _, _, _, _, _, _, _, _, _, _, _, rfl, rfl, rfl, o7, rfl, o11, rfl, o15, rfl, o66⟩
 have H0 := cond_f H0 h56
 refine cw_skip (kw_bl_normal (kw_nx (sr (oB9 7 ts34 rfl (oC9 2 ts34 rfl rfl (nn (cw_ret ?_)))))))
 obtain rfl := sI H0
 exact kr Tryz.results63 (rC9 2 ts34 rfl rfl) [0, 3, 4, 5, 6] ⟨_, _, _, _, _, _, _, _, _, _, _, _, _, _, _, _, rfl, rfl, rfl, o7, rfl, o11, rfl, o15, rfl, o19⟩

theorem c_s_l6Key (fl : Nat) (w : World) (a0 : (List UInt8)) (hn0_0 : n0_0 = (a0).length) (hr0_0 : RO w (hkeys []) (RdL p0_0 c0_0 a0)) (r : Mc × K) (H0 : s_l6Key fl a0 = some r) :
  Ct Tryz.prog 72 [.slice p0_0 n0_0 c0_0] w [] (fun rv h' => ∃ (x0 : Option Addr) (y0 z0 : Nat) (C0 : Res) (x1 : Option Addr) (y1 z1 : Nat) (C1 : Res) (x2 : Option Addr) (y2 z2 : Nat) (C2 : Res) (x3 : Option Addr) (y3 z3 : Nat) (C3 : Res), rv = .tuple #[.agg #[.slice x0 y0 z0, .slice x1 y1 z1, .slice x2 y2 z2, .int .i64 r.1.c.h, .int .i64 r.1.g.c, .int .i64 r.1.g.n, .int .i64 r.1.g.r, .slice x3 y3 z3, .int .i64 r.1.s], .agg #[.int .i64 r.2.s, .int .i64 r.2.p]] ∧ h' = [(0, C0), (1, C1), (2, C2), (3, C3)] ∧ y0 = (r.1.t.b).length ∧ OwnC 3 x0 z0 r.1.t.b C0 ∧ y1 = (r.1.t.f).length ∧ OwnC 58 x1 z1 r.1.t.f C1 ∧ y2 = (r.1.c.l).length ∧ OwnC 41 x2 z2 r.1.c.l C2 ∧ y3 = (r.1.g.o).length ∧ OwnC 118 x3 z3 r.1.g.o C3) := by
 subst hn0_0
 unfold s_l6Key at H0
 refine ct_of_cw Tryz.func72 rfl Tryz.ntmps72 rfl (Sat.refl _ _) ?_
 refine sr (oE (stpU_alloc 0 tz34 rfl) rfl ?_)
 rintro _ _ ⟨b1, rfl, rfl⟩
 refine oE (stpU_alloc 1 tz47 rfl) rfl ?_
 rintro _ _ ⟨b2, rfl, rfl⟩
 refine nn (sr (oM rfl (oE (stpU_call (fun i => 2 + i) cf46 (fun w hw => c_open46 w a0 p0_0 ((a0).length) c0_0 rfl (RO.cap hr0_0).1) (yA rfl)) rfl ?_)))
 rintro _ _ ⟨_, ⟨b3, rfl, rfl⟩, rfl⟩
 obtain ⟨x4, e4, H0⟩ := bS H0
 refine oS rfl (nn (sr (oM rfl (oE (stpU_callM (fun i => bif Nat.beq i 0 then 2 else 3 + i) cf64 (fun w hw hb => c_s_l6Draw fl w b3 (a0.take 2000) 0 rfl (RO.passM (RO.takeN 2000 hr0_0) hw hb) (hw.pass (js := [2]) ⟨2, [], rfl, rfl, trivial⟩ (by decide)) x4 e4) (yA rfl) ⟨rfl, (fun _ _ hp => by obtain ⟨_, _, _, _, _, _, _, _, _, _, _, _, _, _, _, _, _, rfl, _⟩ := hp; exact ⟨_, rfl⟩), trivial⟩) rfl ?_))))
 rintro _ _ ⟨_, ⟨p5, _, c7, C8, p9, _, c11, C12, p13, _, c15, C16, p17, _, c19, C20, rfl, rfl, rfl, o8, rfl, o12, rfl, o16, rfl, o20⟩, rfl⟩
 refine oE (stpU_alloc 8 tz34 rfl) rfl ?_
 rintro _ _ ⟨b21, rfl, rfl⟩
 obtain ⟨x22, e22, H0⟩ := bS H0
 refine oC9 8 ts34 rfl rfl (nn (sr (oA 0 Tryz.underlying34 rfl ts26 rfl (oB2 8 ts26 rfl (oE (stpU_call (fun i => 9 + i) cf125 (fun w hw => c_s_KeysOf fl w x4.1.t rfl (OwnC.pass (id := 4) rfl o8 hw) rfl (OwnC.pass (id := 5) rfl o12 hw) x22 e22) (yA rfl)) rfl ?_)))))
 rintro _ _ ⟨_, ⟨p23, _, c25, C26, rfl, rfl, rfl, o26⟩, rfl⟩
 obtain ⟨x27, e27, H0⟩ := bS H0
 refine oS rfl (nn (sr (oM rfl (oE (stpU_callM (fun i => bif Nat.beq i 0 then 2 else 10 + i) cf66 (fun w hw hb => c_s_l12Rd_pick fl w b3 (a0.take 2000) x4.2 3 rfl (RO.passM (RO.takeN 2000 hr0_0) hw hb) (hw.pass (js := [2]) ⟨2, [], rfl, rfl, trivial⟩ (by decide)) x27 e27) (yB rfl rfl) ⟨rfl, (fun _ _ hp => by obtain ⟨_, rfl⟩ := hp; exact ⟨_, rfl⟩), trivial⟩) rfl ?_))))
 rintro _ _ ⟨_, ⟨rfl, rfl⟩, rfl⟩
 obtain ⟨x28, e28, H0⟩ := bS H0
 refine oM rfl (oE (stpU_callM (fun i => bif Nat.beq i 0 then 2 else 11 + i) cf126 (fun w hw hb => c_s_l6Page fl w b3 (a0.take 2000) x27.2 rfl (RO.passM (RO.takeN 2000 hr0_0) hw hb) (hw.pass (js := [2]) ⟨2, [], rfl, rfl, trivial⟩ (by decide)) x28 e28) (yA rfl) ⟨rfl, (fun _ _ hp => by obtain ⟨_, rfl⟩ := hp; exact ⟨_, rfl⟩), trivial⟩) rfl ?_)
 rintro _ _ ⟨_, ⟨rfl, rfl⟩, rfl⟩
 obtain ⟨x29, e29, H0⟩ := bS H0
 refine oE (stpU_call (fun i => 12 + i) cf65 (fun w hw => c_s_KeyFor fl w x27.1 x28.1 x29 e29) (yB rfl rfl)) rfl ?_
 rintro _ _ ⟨_, ⟨rfl, rfl⟩, rfl⟩
 refine oE (stpU_alloc 12 tz47 rfl) rfl ?_
 rintro _ _ ⟨b30, rfl, rfl⟩
 obtain ⟨y31, ey31, H0⟩ := bS H0
 refine oC2 12 ts47 rfl rfl (nn (cw_seq (sr (oM rfl (oD (stp_len Tryz.underlying146 rfl) rfl (oJ rfl (oM rfl (ow_cut (ι := Unit) 4 (fun _ => True) (fun _ => [(0, .slice p0_0 ((a0).length) c0_0), (2, .pointer (some ⟨b1, 0, none⟩)), (3, .pointer (some ⟨b2, 0, none⟩)), (4, .pointer (some ⟨b3, 0, none⟩)), (5, .pointer (some ⟨b21, 0, none⟩)), (6, .slice p23 ((x22).length) c25), (7, .pointer (some ⟨b30, 0, none⟩)), (8, .slice p0_0 ((a0).length) c0_0), (9, .pointer (some ⟨b3, 0, none⟩)), (10, .pointer (some ⟨b3, 0, none⟩)), (11, .agg #[.slice p5 ((x4.1.t.b).length) c7, .slice p9 ((x4.1.t.f).length) c11, .slice p13 ((x4.1.c.l).length) c15, .int .i64 x4.1.c.h, .int .i64 x4.1.g.c, .int .i64 x4.1.g.n, .int .i64 x4.1.g.r, .slice p17 ((x4.1.g.o).length) c19, .int .i64 x4.1.s]), (12, .pointer (some ⟨b21, 0, none⟩)), (13, .agg #[.slice p5 ((x4.1.t.b).length) c7, .slice p9 ((x4.1.t.f).length) c11]), (14, .slice p23 ((x22).length) c25), (15, .pointer (some ⟨b3, 0, none⟩)), (16, .int .i64 x27.1), (17, .pointer (some ⟨b3, 0, none⟩)), (18, .int .i64 x28.1), (19, .agg #[.int .i64 x29.s, .int .i64 x29.p]), (20, .slice p23 ((x22).length) c25), (21, .int .i64 ((x22).length : Int)), (22, .bool (decide (0 < ((x22).length : Int)))), (23, .bool (decide (0 < ((x22).length : Int)))), (27, .bool y31.1)]) (fun _ => [(0, [(b1, .cells #[.slice none 0 0, .slice none 0 0, .slice none 0 0, .int .i64 0, .int .i64 0, .int .i64 0, .int .i64 0, .slice none 0 0, .int .i64 0] 34 (0, 0))]), (1, [(b2, .cells #[.int .i64 0, .int .i64 0] 47 (0, 0))]), (2, [(b3, .cells #[.slice p0_0 (((a0.take 2000)).length) c0_0, .int .i64 y31.2] 124 (0, 0))]), (4, C8), (5, C12), (6, C16), (7, C20), (8, [(b21, .cells #[.slice p5 ((x4.1.t.b).length) c7, .slice p9 ((x4.1.t.f).length) c11, .slice p13 ((x4.1.c.l).length) c15, .int .i64 x4.1.c.h, .int .i64 x4.1.g.c, .int .i64 x4.1.g.n, .int .i64 x4.1.g.r, .slice p17 ((x4.1.g.o).length) c19, .int .i64 x4.1.s] 34 (0, 0))]), (9, C26), (12, [(b30, .cells #[.int .i64 x29.s, .int .i64 x29.p] 47 (0, 0))])]) ?_ (fun _ _ => ?_)))))))))
 ·rcases Bool.eq_false_or_eq_true (decide (0 < ((x22).length : Int))) with hy31 | hy31
  ·have ey31 := cond_t ey31 hy31
   obtain ⟨x32, e32, ey31⟩ := bS ey31
   refine oG rfl hy31 (mv rfl) rfl (ow_eff (.some rfl hy31) (stpU_callM (fun i => bif Nat.beq i 0 then 2 else 13 + i) cf66 (fun w hw hb => c_s_l12Rd_pick fl w b3 (a0.take 2000) x28.2 3 rfl (RO.passM (RO.takeN 2000 hr0_0) hw hb) (hw.pass (js := [2]) ⟨2, [], rfl, rfl, trivial⟩ (by decide)) x32 e32) (yB rfl rfl) ⟨rfl, (fun _ _ hp => by obtain ⟨_, rfl⟩ := hp; exact ⟨_, rfl⟩), trivial⟩) rfl ?_)
   rintro _ _ ⟨_, ⟨rfl, rfl⟩, rfl⟩
   refine oG rfl hy31 (stp_gtr rfl rfl) rfl (oD (stp_pick_t rfl hy31 rfl) rfl ?_)
   obtain rfl := sI ey31
   exact ow_nil (kw_join () trivial ⟨rfl, rfl, rfl, rfl, rfl, rfl, rfl, rfl, rfl, rfl, rfl, rfl, rfl, rfl, rfl, rfl, rfl, rfl, rfl, rfl, rfl, rfl, rfl, rfl, trivial⟩ ⟨rfl, rfl, rfl, rfl, rfl, rfl, rfl, rfl, rfl, rfl, trivial⟩)
  have ey31 := cond_f ey31 hy31
  refine oO rfl hy31 rfl (oO rfl hy31 rfl (oO rfl hy31 rfl (oD (stp_pick_f rfl hy31 rfl) rfl ?_)))
  obtain rfl := sI ey31
  exact ow_nil (kw_join () trivial ⟨rfl, rfl, rfl, rfl, rfl, rfl, rfl, rfl, rfl, rfl, rfl, rfl, rfl, rfl, rfl, rfl, rfl, rfl, rfl, rfl, rfl, rfl, rfl, rfl, trivial⟩ ⟨rfl, rfl, rfl, rfl, rfl, rfl, rfl, rfl, rfl, rfl, trivial⟩)
 refine ow_nil (kw_nx (cw_cond rfl (fun h33 => ?_) (fun h33 => ?_)))
 ·have H0 := cond_t H0 h33
  obtain ⟨x34, e34, H0⟩ := bS H0
  refine cw_region (oM rfl (oM rfl (oM rfl (oD (stp_len Tryz.underlying146 rfl) rfl (oE (stpU_callM (fun i => bif Nat.beq i 0 then 2 else 14 + i) cf66 (fun w hw hb => c_s_l12Rd_pick fl w b3 (a0.take 2000) y31.2 ((x22).length : Int) rfl (RO.passM (RO.takeN 2000 hr0_0) hw hb) (hw.pass (js := [2]) ⟨2, [], rfl, rfl, trivial⟩ (by decide)) x34 e34) (yB rfl rfl) ⟨rfl, (fun _ _ hp => by obtain ⟨_, rfl⟩ := hp; exact ⟨_, rfl⟩), trivial⟩) rfl ?_)))))
  rintro _ _ ⟨_, ⟨rfl, rfl⟩, rfl⟩
  obtain ⟨x35, e35, H0⟩ := bS H0
  obtain ⟨x36, e36, H0⟩ := bS H0
  refine oD (stp_indexAddr Tryz.underlying146 ts47 (by decide) rfl rfl rfl (Rdb.own (id := 9) rfl o26) e35) rfl (oD (stp_loadN (us := [_, _]) ts47 rfl (Cells.el (Rdb.own (id := 9) rfl o26) (by decide) e35 0 2 rfl)) rfl (oC2 12 ts47 rfl rfl (nn (cw_seq (sr (oM rfl (oE (stpU_callM (fun i => bif Nat.beq i 0 then 2 else 15 + i) cf66 (fun w hw hb => c_s_l12Rd_pick fl w b3 (a0.take 2000) x34.2 20 rfl (RO.passM (RO.takeN 2000 hr0_0) hw hb) (hw.pass (js := [2]) ⟨2, [], rfl, rfl, trivial⟩ (by decide)) x36 e36) (yB rfl rfl) ⟨rfl, (fun _ _ hp => by obtain ⟨_, rfl⟩ := hp; exact ⟨_, rfl⟩), trivial⟩) rfl ?_)))))))
  rintro _ _ ⟨_, ⟨rfl, rfl⟩, rfl⟩
  refine oQ rfl (nn (cw_cond rfl (fun h37 => ?_) (fun h37 => ?_)))
  ·have H0 := cond_t H0 h37
   refine cw_region (oM rfl (oE (stpU_lit (sz := 1) (l := [1, 16]) [.int .i64 1, .int .i64 16] sl23 16 (sevp_cons rfl (sevp_cons rfl sevp_nil)) rfl rfl rfl rfl rfl rfl rfl rfl rfl) rfl ?_))
   rintro _ _ ⟨p38, C39, rfl, rfl, o39⟩
   obtain ⟨x40, e40, H0⟩ := bS H0
   refine oE (stpU_callM (fun i => bif Nat.beq i 0 then 2 else 17 + i) cf47 (fun w hw hb => c_s_l12Rd_num fl w b3 (a0.take 2000) x36.2 ([1, 16]) rfl (RO.passM (RO.takeN 2000 hr0_0) hw hb) (by simp) (OwnC.passM (id := 16) rfl o39 hw hb ⟨rfl, trivial⟩) (hw.pass (js := [2]) ⟨2, [], rfl, rfl, trivial⟩ (by decide)) x40 e40) (yB rfl rfl) ⟨rfl, (fun _ _ hp => by obtain ⟨_, rfl⟩ := hp; exact ⟨_, rfl⟩), trivial⟩) rfl ?_
   rintro _ _ ⟨_, ⟨rfl, rfl⟩, rfl⟩
   obtain ⟨x41, e41, H0⟩ := bS H0
   refine oD (stp_build (cs := #[.int .i64 x40.1, .int .i64 200]) (sevp_cons rfl (sevp_cons rfl sevp_nil)) bt47_13) rfl (oC2 12 ts47 rfl rfl (nn (cw_seq (rdq g_mixed [2, 3, 4, 5, 7] [0, 1, 2, 4, 5, 6, 7, 8, 12] { dst := dS [43, 44, 45, 46, 0, 0], pre := gA [] [[], [], [0, 1], [], [0, 1, 2], rn 0 5], ids := gA [] [[], [], [2, 19, 20, 21, 22], [], [0], [1]], rs := rL [[(4, 0)], [(5, 0)], [(42, 1), (43, 2)], [(7, 0)], [(2, 0), (44, 3)], [(3, 0), (45, 4)]], rh := rL [[], [(8, 0)], [(2, 0), (4, 0), (5, 0), (6, 0), (7, 0)], [(12, 0)], [(0, 0)], [(1, 0)]], V := fun i g => gA undef [.pointer (some ⟨b3, 0, none⟩), .agg #[.slice p5 ((x4.1.t.b).length) c7, .slice p9 ((x4.1.t.f).length) c11, .slice p13 ((x4.1.c.l).length) c15, .int .i64 x4.1.c.h, .int .i64 x4.1.g.c, .int .i64 x4.1.g.n, .int .i64 x4.1.g.r, .slice p17 ((x4.1.g.o).length) c19, .int .i64 x4.1.s], .agg #[.slice ((g 2).A 0) ((x41.1.t.b).length) ((g 2).C 0), .slice ((g 2).A 1) ((x41.1.t.f).length) ((g 2).C 1), .slice ((g 2).A 2) ((x41.1.c.l).length) ((g 2).C 2), .int .i64 x41.1.c.h, .int .i64 x41.1.g.c, .int .i64 x41.1.g.n, .int .i64 x41.1.g.r, .slice ((g 2).A 3) ((x41.1.g.o).length) ((g 2).C 3), .int .i64 x41.1.s], .agg #[.int .i64 x40.1, .int .i64 200]] i, U := fun i g => gA [] [[], [], [(2, [(b3, .cells #[.slice p0_0 (((a0.take 2000)).length) c0_0, .int .i64 x41.2] 124 (0, 0))]), (19, ((g 2).R 0)), (20, ((g 2).R 1)), (21, ((g 2).R 2)), (22, ((g 2).R 3))], [], [(0, [(b1, .cells #[.slice ((g 2).A 0) ((x41.1.t.b).length) ((g 2).C 0), .slice ((g 2).A 1) ((x41.1.t.f).length) ((g 2).C 1), .slice ((g 2).A 2) ((x41.1.c.l).length) ((g 2).C 2), .int .i64 x41.1.c.h, .int .i64 x41.1.g.c, .int .i64 x41.1.g.n, .int .i64 x41.1.g.r, .slice ((g 2).A 3) ((x41.1.g.o).length) ((g 2).C 3), .int .i64 x41.1.s] 34 (0, 0))])], [(1, [(b2, .cells #[.int .i64 x40.1, .int .i64 200] 47 (0, 0))])]] i, Φ := fun i x => gA True [True, True, OwnC 3 (x.A 0) (x.C 0) x41.1.t.b (x.R 0) ∧ OwnC 58 (x.A 1) (x.C 1) x41.1.t.f (x.R 1) ∧ OwnC 41 (x.A 2) (x.C 2) x41.1.c.l (x.R 2) ∧ OwnC 118 (x.A 3) (x.C 3) x41.1.g.o (x.R 3)] i } ?_ ?_))))
   ·refine ⟨lM, lc rfl rfl fun hs hh => stp_loadN (us := [_, _, _, _, _, _, _, _, _]) ts34 (sv hs 5 rfl) (Cells.box (id := 8) (hh.get 8 _ rfl) 9 rfl), ?_, lc rfl rfl fun hs hh => stp_loadN (us := [_, _]) ts47 (sv hs 7 rfl) (Cells.box (id := 12) (hh.get 12 _ rfl) 2 rfl), ?_, ?_, trivial⟩
    ·refine le rfl rfl (fun g hΦ s h hs hh => (stpU_callM (fun i => bif Nat.beq i 0 then 2 else 18 + i) cf63 (fun w hw hb => c_s_l6Wrong fl w b3 (a0.take 2000) x40.2 x4.1 rfl (RO.passM (RO.takeN 2000 hr0_0) hw hb) rfl (OwnC.passM (id := 4) (hh.get 4 _ rfl) o8 hw hb ⟨rfl, trivial⟩) rfl (OwnC.passM (id := 5) (hh.get 5 _ rfl) o12 hw hb ⟨rfl, trivial⟩) rfl (OwnC.passM (id := 6) (hh.get 6 _ rfl) o16 hw hb ⟨rfl, trivial⟩) rfl (OwnC.passM (id := 7) (hh.get 7 _ rfl) o20 hw hb ⟨rfl, trivial⟩) (hw.pass (js := [2]) ⟨2, [], rfl, (hh.get 2 _ rfl), trivial⟩ (by decide)) x41 e41) (yB (sv hs 42 rfl) (sv hs 43 rfl)) ⟨(hh.get 2 _ rfl), (fun _ _ hp => by obtain ⟨_, _, _, _, _, _, _, _, _, _, _, _, _, _, _, _, _, rfl, _⟩ := hp; exact ⟨_, rfl⟩), trivial⟩)) ?_
     rintro g _ _ ⟨_, ⟨p42, _, c44, C45, p46, _, c48, C49, p50, _, c52, C53, p54, _, c56, C57, rfl, rfl, rfl, o45, rfl, o49, rfl, o53, rfl, o57⟩, rfl⟩
     exact ⟨⟨[p42, p46, p50, p54], [c44, c48, c52, c56], [C45, C49, C53, C57]⟩, ⟨o45, o49, o53, o57⟩, .inr rfl, rfl⟩
    ·refine le rfl rfl (fun g hΦ s h hs hh => (stpU_store (id := 0) (cs' := [.slice ((g 2).A 0) ((x41.1.t.b).length) ((g 2).C 0), .slice ((g 2).A 1) ((x41.1.t.f).length) ((g 2).C 1), .slice ((g 2).A 2) ((x41.1.c.l).length) ((g 2).C 2), .int .i64 x41.1.c.h, .int .i64 x41.1.g.c, .int .i64 x41.1.g.n, .int .i64 x41.1.g.r, .slice ((g 2).A 3) ((x41.1.g.o).length) ((g 2).C 3), .int .i64 x41.1.s]) ts34 (sv hs 2 rfl) (sv hs 44 rfl) (hh.get 0 _ rfl) rfl rfl rfl rfl)) ?_
     rintro g _ _ rfl
     exact ⟨⟨[], [], []⟩, trivial, .inl rfl, rfl⟩
    refine le rfl rfl (fun g hΦ s h hs hh => (stpU_store (id := 1) (cs' := [.int .i64 x40.1, .int .i64 200]) ts47 (sv hs 3 rfl) (sv hs 45 rfl) (hh.get 1 _ rfl) rfl rfl rfl rfl)) ?_
    rintro g _ _ rfl
    exact ⟨⟨[], [], []⟩, trivial, .inl rfl, rfl⟩
   intro g hΦ
   refine kw_gen (ι := Option Addr × Option Addr × Option Addr × Option Addr × Nat × Nat × Nat × Nat × Res × Res × Res × Res) (((g 2).A 0), ((g 2).A 1), ((g 2).A 2), ((g 2).A 3), ((g 2).C 0), ((g 2).C 1), ((g 2).C 2), ((g 2).C 3), ((g 2).R 0), ((g 2).R 1), ((g 2).R 2), ((g 2).R 3)) (fun | (p42, p46, p50, p54, c44, c48, c52, c56, C45, C49, C53, C57) => OwnC 3 p42 c44 x41.1.t.b C45 ∧ OwnC 58 p46 c48 x41.1.t.f C49 ∧ OwnC 41 p50 c52 x41.1.c.l C53 ∧ OwnC 118 p54 c56 x41.1.g.o C57) (fun | (p42, p46, p50, p54, c44, c48, c52, c56, C45, C49, C53, C57) => [(2, .pointer (some ⟨b1, 0, none⟩)), (3, .pointer (some ⟨b2, 0, none⟩))]) (fun | (p42, p46, p50, p54, c44, c48, c52, c56, C45, C49, C53, C57) => [(0, [(b1, .cells #[.slice p42 ((x41.1.t.b).length) c44, .slice p46 ((x41.1.t.f).length) c48, .slice p50 ((x41.1.c.l).length) c52, .int .i64 x41.1.c.h, .int .i64 x41.1.g.c, .int .i64 x41.1.g.n, .int .i64 x41.1.g.r, .slice p54 ((x41.1.g.o).length) c56, .int .i64 x41.1.s] 34 (0, 0))]), (1, [(b2, .cells #[.int .i64 x40.1, .int .i64 200] 47 (0, 0))]), (19, C45), (20, C49), (21, C53), (22, C57)]) ⟨(hΦ 2 (by decide)).1, (hΦ 2 (by decide)).2.1, (hΦ 2 (by decide)).2.2.1, (hΦ 2 (by decide)).2.2.2⟩ ⟨rfl, rfl, trivial⟩ ⟨rfl, rfl, rfl, rfl, rfl, rfl, trivial⟩ ?_
   rintro ⟨p42, p46, p50, p54, c44, c48, c52, c56, C45, C49, C53, C57⟩ ⟨o45, o49, o53, o57⟩
   dsimp only
   refine kw_nx (cw_ret ?_)
   obtain rfl := sI H0
   exact kr Tryz.results72 (.cons (.cellN (us := [_, _, _, _, _, _, _, _, _]) ts34 rfl (Cells.box (id := 0) rfl 9 rfl)) (rC2 1 ts47 rfl rfl)) [19, 20, 21, 22] ⟨_, _, _, _, _, _, _, _, _, _, _, _, _, _, _, _, rfl, rfl, rfl, o45, rfl, o49, rfl, o53, rfl, o57⟩
  have H0 := cond_f H0 h37
  obtain ⟨x58, e58, H0⟩ := bS H0
  refine cw_skip (kw_nx (cw_seq (rdq g_mixed [2, 3, 4, 5, 7] [0, 1, 2, 4, 5, 6, 7, 8, 12] { dst := dS [43, 44, 45, 46, 0, 0], pre := gA [] [[], [], [0, 1], [], [0, 1, 2], rn 0 5], ids := gA [] [[], [], [2, 24, 25, 26, 27], [], [0], [1]], rs := rL [[(4, 0)], [(5, 0)], [(42, 1), (43, 2)], [(7, 0)], [(2, 0), (44, 3)], [(3, 0), (45, 4)]], rh := rL [[], [(8, 0)], [(2, 0), (4, 0), (5, 0), (6, 0), (7, 0)], [(12, 0)], [(0, 0)], [(1, 0)]], V := fun i g => gA undef [.pointer (some ⟨b3, 0, none⟩), .agg #[.slice p5 ((x4.1.t.b).length) c7, .slice p9 ((x4.1.t.f).length) c11, .slice p13 ((x4.1.c.l).length) c15, .int .i64 x4.1.c.h, .int .i64 x4.1.g.c, .int .i64 x4.1.g.n, .int .i64 x4.1.g.r, .slice p17 ((x4.1.g.o).length) c19, .int .i64 x4.1.s], .agg #[.slice ((g 2).A 0) ((x58.1.t.b).length) ((g 2).C 0), .slice ((g 2).A 1) ((x58.1.t.f).length) ((g 2).C 1), .slice ((g 2).A 2) ((x58.1.c.l).length) ((g 2).C 2), .int .i64 x58.1.c.h, .int .i64 x58.1.g.c, .int .i64 x58.1.g.n, .int .i64 x58.1.g.r, .slice ((g 2).A 3) ((x58.1.g.o).length) ((g 2).C 3), .int .i64 x58.1.s], .agg #[.int .i64 x35.s, .int .i64 x35.p]] i, U := fun i g => gA [] [[], [], [(2, [(b3, .cells #[.slice p0_0 (((a0.take 2000)).length) c0_0, .int .i64 x58.2] 124 (0, 0))]), (24, ((g 2).R 0)), (25, ((g 2).R 1)), (26, ((g 2).R 2)), (27, ((g 2).R 3))], [], [(0, [(b1, .cells #[.slice ((g 2).A 0) ((x58.1.t.b).length) ((g 2).C 0), .slice ((g 2).A 1) ((x58.1.t.f).length) ((g 2).C 1), .slice ((g 2).A 2) ((x58.1.c.l).length) ((g 2).C 2), .int .i64 x58.1.c.h, .int .i64 x58.1.g.c, .int .i64 x58.1.g.n, .int .i64 x58.1.g.r, .slice ((g 2).A 3) ((x58.1.g.o).length) ((g 2).C 3), .int .i64 x58.1.s] 34 (0, 0))])], [(1, [(b2, .cells #[.int .i64 x35.s, .int .i64 x35.p] 47 (0, 0))])]] i, Φ := fun i x => gA True [True, True, OwnC 3 (x.A 0) (x.C 0) x58.1.t.b (x.R 0) ∧ OwnC 58 (x.A 1) (x.C 1) x58.1.t.f (x.R 1) ∧ OwnC 41 (x.A 2) (x.C 2) x58.1.c.l (x.R 2) ∧ OwnC 118 (x.A 3) (x.C 3) x58.1.g.o (x.R 3)] i } ?_ ?_)))
  ·refine ⟨lM, lc rfl rfl fun hs hh => stp_loadN (us := [_, _, _, _, _, _, _, _, _]) ts34 (sv hs 5 rfl) (Cells.box (id := 8) (hh.get 8 _ rfl) 9 rfl), ?_, lc rfl rfl fun hs hh => stp_loadN (us := [_, _]) ts47 (sv hs 7 rfl) (Cells.box (id := 12) (hh.get 12 _ rfl) 2 rfl), ?_, ?_, trivial⟩
   ·refine le rfl rfl (fun g hΦ s h hs hh => (stpU_callM (fun i => bif Nat.beq i 0 then 2 else 23 + i) cf63 (fun w hw hb => c_s_l6Wrong fl w b3 (a0.take 2000) x36.2 x4.1 rfl (RO.passM (RO.takeN 2000 hr0_0) hw hb) rfl (OwnC.passM (id := 4) (hh.get 4 _ rfl) o8 hw hb ⟨rfl, trivial⟩) rfl (OwnC.passM (id := 5) (hh.get 5 _ rfl) o12 hw hb ⟨rfl, trivial⟩) rfl (OwnC.passM (id := 6) (hh.get 6 _ rfl) o16 hw hb ⟨rfl, trivial⟩) rfl (OwnC.passM (id := 7) (hh.get 7 _ rfl) o20 hw hb ⟨rfl, trivial⟩) (hw.pass (js := [2]) ⟨2, [], rfl, (hh.get 2 _ rfl), trivial⟩ (by decide)) x58 e58) (yB (sv hs 42 rfl) (sv hs 43 rfl)) ⟨(hh.get 2 _ rfl), (fun _ _ hp => by obtain ⟨_, _, _, _, _, _, _, _, _, _, _, _, _, _, _, _, _, rfl, _⟩ := hp; exact ⟨_, rfl⟩), trivial⟩)) ?_
    rintro g _ _ ⟨_, ⟨p59, _, c61, C62, p63, _, c65, C66, p67, _, c69, C70, p71, _, c73, C74, rfl, rfl, rfl, o62, rfl, o66, rfl, o70, rfl, o74⟩, rfl⟩
    exact ⟨⟨[p59, p63, p67, p71], [c61, c65, c69, c73], [C62, C66, C70, C74]⟩, ⟨o62, o66, o70, o74⟩, .inr rfl, rfl⟩
   ·refine le rfl rfl (fun g hΦ s h hs hh => (stpU_store (id := 0) (cs' := [.slice ((g 2).A 0) ((x58.1.t.b).length) ((g 2).C 0), .slice ((g 2).A 1) ((x58.1.t.f).length) ((g 2).C 1), .slice ((g 2).A 2) ((x58.1.c.l).length) ((g 2).C 2), .int .i64 x58.1.c.h, .int .i64 x58.1.g.c, .int .i64 x58.1.g.n, .int .i64 x58.1.g.r, .slice ((g 2).A 3) ((x58.1.g.o).length) ((g 2).C 3), .int .i64 x58.1.s]) ts34 (sv hs 2 rfl) (sv hs 44 rfl) (hh.get 0 _ rfl) rfl rfl rfl rfl)) ?_
    rintro g _ _ rfl
    exact ⟨⟨[], [], []⟩, trivial, .inl rfl, rfl⟩
   refine le rfl rfl (fun g hΦ s h hs hh => (stpU_store (id := 1) (cs' := [.int .i64 x35.s, .int .i64 x35.p]) ts47 (sv hs 3 rfl) (sv hs 45 rfl) (hh.get 1 _ rfl) rfl rfl rfl rfl)) ?_
   rintro g _ _ rfl
   exact ⟨⟨[], [], []⟩, trivial, .inl rfl, rfl⟩
  intro g hΦ
  refine kw_gen (ι := Option Addr × Option Addr × Option Addr × Option Addr × Nat × Nat × Nat × Nat × Res × Res × Res × Res) (((g 2).A 0), ((g 2).A 1), ((g 2).A 2), ((g 2).A 3), ((g 2).C 0), ((g 2).C 1), ((g 2).C 2), ((g 2).C 3), ((g 2).R 0), ((g 2).R 1), ((g 2).R 2), ((g 2).R 3)) (fun | (p59, p63, p67, p71, c61, c65, c69, c73, C62, C66, C70, C74) => OwnC 3 p59 c61 x58.1.t.b C62 ∧ OwnC 58 p63 c65 x58.1.t.f C66 ∧ OwnC 41 p67 c69 x58.1.c.l C70 ∧ OwnC 118 p71 c73 x58.1.g.o C74) (fun | (p59, p63, p67, p71, c61, c65, c69, c73, C62, C66, C70, C74) => [(2, .pointer (some ⟨b1, 0, none⟩)), (3, .pointer (some ⟨b2, 0, none⟩))]) (fun | (p59, p63, p67, p71, c61, c65, c69, c73, C62, C66, C70, C74) => [(0, [(b1, .cells #[.slice p59 ((x58.1.t.b).length) c61, .slice p63 ((x58.1.t.f).length) c65, .slice p67 ((x58.1.c.l).length) c69, .int .i64 x58.1.c.h, .int .i64 x58.1.g.c, .int .i64 x58.1.g.n, .int .i64 x58.1.g.r, .slice p71 ((x58.1.g.o).length) c73, .int .i64 x58.1.s] 34 (0, 0))]), (1, [(b2, .cells #[.int .i64 x35.s, .int .i64 x35.p] 47 (0, 0))]), (24, C62), (25, C66), (26, C70), (27, C74)]) ⟨(hΦ 2 (by decide)).1, (hΦ 2 (by decide)).2.1, (hΦ 2 (by decide)).2.2.1, (hΦ 2 (by decide)).2.2.2⟩ ⟨rfl, rfl, trivial⟩ ⟨rfl, rfl, rfl, rfl, rfl, rfl, trivial⟩ ?_
  rintro ⟨p59, p63, p67, p71, c61, c65, c69, c73, C62, C66, C70, C74⟩ ⟨o62, o66, o70, o74⟩
  dsimp only
  refine kw_nx (cw_ret ?_)
  obtain rfl := sI H0
  exact kr Tryz.results72 (.cons (.cellN (us := [_, _, _, _, _, _, _, _, _]) ts34 rfl (Cells.box (id := 0) rfl 9 rfl)) (rC2 1 ts47 rfl rfl)) [24, 25, 26, 27] ⟨_, _, _, _, _, _, _, _, _, _, _, _, _, _, _, _, rfl, rfl, rfl, o62, rfl, o66, rfl, o70, rfl, o74⟩
 have H0 := cond_f H0 h33
 obtain ⟨x75, e75, H0⟩ := bS H0
 refine cw_skip (kw_nx (cw_seq (sr (oM rfl (oE (stpU_callM (fun i => bif Nat.beq i 0 then 2 else 28 + i) cf66 (fun w hw hb => c_s_l12Rd_pick fl w b3 (a0.take 2000) y31.2 20 rfl (RO.passM (RO.takeN 2000 hr0_0) hw hb) (hw.pass (js := [2]) ⟨2, [], rfl, rfl, trivial⟩ (by decide)) x75 e75) (yB rfl rfl) ⟨rfl, (fun _ _ hp => by obtain ⟨_, rfl⟩ := hp; exact ⟨_, rfl⟩), trivial⟩) rfl ?_)))))
 rintro _ _ ⟨_, ⟨rfl, rfl⟩, rfl⟩
 refine oQ rfl (nn (cw_cond rfl (fun h76 => ?_) (fun h76 => ?_)))
 ·have H0 := cond_t H0 h76
  refine cw_region (oM rfl (oE (stpU_lit (sz := 1) (l := [1, 16]) [.int .i64 1, .int .i64 16] sl23 29 (sevp_cons rfl (sevp_cons rfl sevp_nil)) rfl rfl rfl rfl rfl rfl rfl rfl rfl) rfl ?_))
  rintro _ _ ⟨p77, C78, rfl, rfl, o78⟩
  obtain ⟨x79, e79, H0⟩ := bS H0
  refine oE (stpU_callM (fun i => bif Nat.beq i 0 then 2 else 30 + i) cf47 (fun w hw hb => c_s_l12Rd_num fl w b3 (a0.take 2000) x75.2 ([1, 16]) rfl (RO.passM (RO.takeN 2000 hr0_0) hw hb) (by simp) (OwnC.passM (id := 29) rfl o78 hw hb ⟨rfl, trivial⟩) (hw.pass (js := [2]) ⟨2, [], rfl, rfl, trivial⟩ (by decide)) x79 e79) (yB rfl rfl) ⟨rfl, (fun _ _ hp => by obtain ⟨_, rfl⟩ := hp; exact ⟨_, rfl⟩), trivial⟩) rfl ?_
  rintro _ _ ⟨_, ⟨rfl, rfl⟩, rfl⟩
  obtain ⟨x80, e80, H0⟩ := bS H0
  refine oD (stp_build (cs := #[.int .i64 x79.1, .int .i64 200]) (sevp_cons rfl (sevp_cons rfl sevp_nil)) bt47_13) rfl (oC2 12 ts47 rfl rfl (nn (cw_seq (rdq g_mixed [2, 3, 4, 5, 7] [0, 1, 2, 4, 5, 6, 7, 8, 12] { dst := dS [43, 44, 45, 46, 0, 0], pre := gA [] [[], [], [0, 1], [], [0, 1, 2], rn 0 5], ids := gA [] [[], [], [2, 32, 33, 34, 35], [], [0], [1]], rs := rL [[(4, 0)], [(5, 0)], [(42, 1), (43, 2)], [(7, 0)], [(2, 0), (44, 3)], [(3, 0), (45, 4)]], rh := rL [[], [(8, 0)], [(2, 0), (4, 0), (5, 0), (6, 0), (7, 0)], [(12, 0)], [(0, 0)], [(1, 0)]], V := fun i g => gA undef [.pointer (some ⟨b3, 0, none⟩), .agg #[.slice p5 ((x4.1.t.b).length) c7, .slice p9 ((x4.1.t.f).length) c11, .slice p13 ((x4.1.c.l).length) c15, .int .i64 x4.1.c.h, .int .i64 x4.1.g.c, .int .i64 x4.1.g.n, .int .i64 x4.1.g.r, .slice p17 ((x4.1.g.o).length) c19, .int .i64 x4.1.s], .agg #[.slice ((g 2).A 0) ((x80.1.t.b).length) ((g 2).C 0), .slice ((g 2).A 1) ((x80.1.t.f).length) ((g 2).C 1), .slice ((g 2).A 2) ((x80.1.c.l).length) ((g 2).C 2), .int .i64 x80.1.c.h, .int .i64 x80.1.g.c, .int .i64 x80.1.g.n, .int .i64 x80.1.g.r, .slice ((g 2).A 3) ((x80.1.g.o).length) ((g 2).C 3), .int .i64 x80.1.s], .agg #[.int .i64 x79.1, .int .i64 200]] i, U := fun i g => gA [] [[], [], [(2, [(b3, .cells #[.slice p0_0 (((a0.take 2000)).length) c0_0, .int .i64 x80.2] 124 (0, 0))]), (32, ((g 2).R 0)), (33, ((g 2).R 1)), (34, ((g 2).R 2)), (35, ((g 2).R 3))], [], [(0, [(b1, .cells #[.slice ((g 2).A 0) ((x80.1.t.b).length) ((g 2).C 0), .slice ((g 2).A 1) ((x80.1.t.f).length) ((g 2).C 1), .slice ((g 2).A 2) ((x80.1.c.l).length) ((g 2).C 2), .int .i64 x80.1.c.h, .int .i64 x80.1.g.c, .int .i64 x80.1.g.n, .int .i64 x80.1.g.r, .slice ((g 2).A 3) ((x80.1.g.o).length) ((g 2).C 3), .int .i64 x80.1.s] 34 (0, 0))])], [(1, [(b2, .cells #[.int .i64 x79.1, .int .i64 200] 47 (0, 0))])]] i, Φ := fun i x => gA True [True, True, OwnC 3 (x.A 0) (x.C 0) x80.1.t.b (x.R 0) ∧ OwnC 58 (x.A 1) (x.C 1) x80.1.t.f (x.R 1) ∧ OwnC 41 (x.A 2) (x.C 2) x80.1.c.l (x.R 2) ∧ OwnC 118 (x.A 3) (x.C 3) x80.1.g.o (x.R 3)] i } ?_ ?_))))
  ·refine ⟨lM, lc rfl rfl fun hs hh => stp_loadN (us := [_, _, _, _, _, _, _, _, _]) ts34 (sv hs 5 rfl) (Cells.box (id := 8) (hh.get 8 _ rfl) 9 rfl), ?_, lc rfl rfl fun hs hh => stp_loadN (us := [_, _]) ts47 (sv hs 7 rfl) (Cells.box (id := 12) (hh.get 12 _ rfl) 2 rfl), ?_, ?_, trivial⟩
   ·refine le rfl rfl (fun g hΦ s h hs hh => (stpU_callM (fun i => bif Nat.beq i 0 then 2 else 31 + i) cf63 (fun w hw hb => c_s_l6Wrong fl w b3 (a0.take 2000) x79.2 x4.1 rfl (RO.passM (RO.takeN 2000 hr0_0) hw hb) rfl (OwnC.passM (id := 4) (hh.get 4 _ rfl) o8 hw hb ⟨rfl, trivial⟩) rfl (OwnC.passM (id := 5) (hh.get 5 _ rfl) o12 hw hb ⟨rfl, trivial⟩) rfl (OwnC.passM (id := 6) (hh.get 6 _ rfl) o16 hw hb ⟨rfl, trivial⟩) rfl (OwnC.passM (id := 7) (hh.get 7 _ rfl) o20 hw hb ⟨rfl, trivial⟩) (hw.pass (js := [2]) ⟨2, [], rfl, (hh.get 2 _ rfl), trivial⟩ (by decide)) x80 e80) (yB (sv hs 42 rfl) (sv hs 43 rfl)) ⟨(hh.get 2 _ rfl), (fun _ _ hp => by obtain ⟨_, _, _, _, _, _, _, _, _, _, _, _, _, _, _, _, _, rfl, _⟩ := hp; exact ⟨_, rfl⟩), trivial⟩)) ?_
    rintro g _ _ ⟨_, ⟨p81, _, c83, C84, p85, _, c87, C88, p89, _, c91, C92, p93, _, c95, C96, rfl, rfl, rfl, o84, rfl, o88, rfl, o92, rfl, o96⟩, rfl⟩
    exact ⟨⟨[p81, p85, p89, p93], [c83, c87, c91, c95], [C84, C88, C92, C96]⟩, ⟨o84, o88, o92, o96⟩, .inr rfl, rfl⟩
   ·refine le rfl rfl (fun g hΦ s h hs hh => (stpU_store (id := 0) (cs' := [.slice ((g 2).A 0) ((x80.1.t.b).length) ((g 2).C 0), .slice ((g 2).A 1) ((x80.1.t.f).length) ((g 2).C 1), .slice ((g 2).A 2) ((x80.1.c.l).length) ((g 2).C 2), .int .i64 x80.1.c.h, .int .i64 x80.1.g.c, .int .i64 x80.1.g.n, .int .i64 x80.1.g.r, .slice ((g 2).A 3) ((x80.1.g.o).length) ((g 2).C 3), .int .i64 x80.1.s]) ts34 (sv hs 2 rfl) (sv hs 44 rfl) (hh.get 0 _ rfl) rfl rfl rfl rfl)) ?_
    rintro g _ _ rfl
    exact ⟨⟨[], [], []⟩, trivial, .inl rfl, rfl⟩
   refine le rfl rfl (fun g hΦ s h hs hh => (stpU_store (id := 1) (cs' := [.int .i64 x79.1, .int .i64 200]) ts47 (sv hs 3 rfl) (sv hs 45 rfl) (hh.get 1 _ rfl) rfl rfl rfl rfl)) ?_
   rintro g _ _ rfl
   exact ⟨⟨[], [], []⟩, trivial, .inl rfl, rfl⟩
  intro g hΦ
  refine kw_gen (ι := Option Addr × Option Addr × Option Addr × Option Addr × Nat × Nat × Nat × Nat × Res × Res × Res × Res) (((g 2).A 0), ((g 2).A 1), ((g 2).A 2), ((g 2).A 3), ((g 2).C 0), ((g 2).C 1), ((g 2).C 2), ((g 2).C 3), ((g 2).R 0), ((g 2).R 1), ((g 2).R 2), ((g 2).R 3)) (fun | (p81, p85, p89, p93, c83, c87, c91, c95, C84, C88, C92, C96) => OwnC 3 p81 c83 x80.1.t.b C84 ∧ OwnC 58 p85 c87 x80.1.t.f C88 ∧ OwnC 41 p89 c91 x80.1.c.l C92 ∧ OwnC 118 p93 c95 x80.1.g.o C96) (fun | (p81, p85, p89, p93, c83, c87, c91, c95, C84, C88, C92, C96) => [(2, .pointer (some ⟨b1, 0, none⟩)), (3, .pointer (some ⟨b2, 0, none⟩))]) (fun | (p81, p85, p89, p93, c83, c87, c91, c95, C84, C88, C92, C96) => [(0, [(b1, .cells #[.slice p81 ((x80.1.t.b).length) c83, .slice p85 ((x80.1.t.f).length) c87, .slice p89 ((x80.1.c.l).length) c91, .int .i64 x80.1.c.h, .int .i64 x80.1.g.c, .int .i64 x80.1.g.n, .int .i64 x80.1.g.r, .slice p93 ((x80.1.g.o).length) c95, .int .i64 x80.1.s] 34 (0, 0))]), (1, [(b2, .cells #[.int .i64 x79.1, .int .i64 200] 47 (0, 0))]), (32, C84), (33, C88), (34, C92), (35, C96)]) ⟨(hΦ 2 (by decide)).1, (hΦ 2 (by decide)).2.1, (hΦ 2 (by decide)).2.2.1, (hΦ 2 (by decide)).2.2.2⟩ ⟨rfl, rfl, trivial⟩ ⟨rfl, rfl, rfl, rfl, rfl, rfl, trivial⟩ ?_
  rintro ⟨p81, p85, p89, p93, c83, c87, c91, c95, C84, C88, C92, C96⟩ ⟨o84, o88, o92, o96⟩
  dsimp only
  refine kw_nx (cw_ret ?_)
  obtain rfl := sI H0
  exact kr Tryz.results72 (.cons (.cellN (us := [_, _, _, _, _, _, _, _, _]) ts34 rfl (Cells.box (id := 0) rfl 9 rfl)) (rC2 1 ts47 rfl rfl)) [32, 33, 34, 35] ⟨_, _, _, _, _, _, _, _, _, _, _, _, _, _, _, _, rfl, rfl, rfl, o84, rfl, o88, rfl, o92, rfl, o96⟩
 have H0 := cond_f H0 h76
 obtain ⟨x97, e97, H0⟩ := bS H0
 refine cw_skip (kw_nx (cw_seq (rdq g_mixed [2, 3, 4, 5, 7] [0, 1, 2, 4, 5, 6, 7, 8, 12] { dst := dS [43, 44, 45, 46, 0, 0], pre := gA [] [[], [], [0, 1], [], [0, 1, 2], rn 0 5], ids := gA [] [[], [], [2, 37, 38, 39, 40], [], [0], [1]], rs := rL [[(4, 0)], [(5, 0)], [(42, 1), (43, 2)], [(7, 0)], [(2, 0), (44, 3)], [(3, 0), (45, 4)]], rh := rL [[], [(8, 0)], [(2, 0), (4, 0), (5, 0), (6, 0), (7, 0)], [(12, 0)], [(0, 0)], [(1, 0)]], V := fun i g => gA undef [.pointer (some ⟨b3, 0, none⟩), .agg #[.slice p5 ((x4.1.t.b).length) c7, .slice p9 ((x4.1.t.f).length) c11, .slice p13 ((x4.1.c.l).length) c15, .int .i64 x4.1.c.h, .int .i64 x4.1.g.c, .int .i64 x4.1.g.n, .int .i64 x4.1.g.r, .slice p17 ((x4.1.g.o).length) c19, .int .i64 x4.1.s], .agg #[.slice ((g 2).A 0) ((x97.1.t.b).length) ((g 2).C 0), .slice ((g 2).A 1) ((x97.1.t.f).length) ((g 2).C 1), .slice ((g 2).A 2) ((x97.1.c.l).length) ((g 2).C 2), .int .i64 x97.1.c.h, .int .i64 x97.1.g.c, .int .i64 x97.1.g.n, .int .i64 x97.1.g.r, .slice ((g 2).A 3) ((x97.1.g.o).length) ((g 2).C 3), .int .i64 x97.1.s], .agg #[.int .i64 x29.s, .int .i64 x29.p]] i, U := fun i g => gA [] [[], [], [(2, [(b3, .cells #[.slice p0_0 (((a0.take 2000)).length) c0_0, .int .i64 x97.2] 124 (0, 0))]), (37, ((g 2).R 0)), (38, ((g 2).R 1)), (39, ((g 2).R 2)), (40, ((g 2).R 3))], [], [(0, [(b1, .cells #[.slice ((g 2).A 0) ((x97.1.t.b).length) ((g 2).C 0), .slice ((g 2).A 1) ((x97.1.t.f).length) ((g 2).C 1), .slice ((g 2).A 2) ((x97.1.c.l).length) ((g 2).C 2), .int .i64 x97.1.c.h, .int .i64 x97.1.g.c, .int .i64 x97.1.g.n, .int .i64 x97.1.g.r, .slice ((g 2).A 3) ((x97.1.g.o).length) ((g 2).C 3), .int .i64 x97.1.s] 34 (0, 0))])], [(1, [(b2, .cells #[.int .i64 x29.s, .int .i64 x29.p] 47 (0, 0))])]] i, Φ := fun i x => gA True [True, True, OwnC 3 (x.A 0) (x.C 0) x97.1.t.b (x.R 0) ∧ OwnC 58 (x.A 1) (x.C 1) x97.1.t.f (x.R 1) ∧ OwnC 41 (x.A 2) (x.C 2) x97.1.c.l (x.R 2) ∧ OwnC 118 (x.A 3) (x.C 3) x97.1.g.o (x.R 3)] i } ?_ ?_)))
 ·refine ⟨lM, lc rfl rfl fun hs hh => stp_loadN (us := [_, _, _, _, _, _, _, _, _]) ts34 (sv hs 5 rfl) (Cells.box (id := 8) (hh.get 8 _ rfl) 9 rfl), ?_, lc rfl rfl fun hs hh => stp_loadN (us := [_, _]) ts47 (sv hs 7 rfl) (Cells.box (id := 12) (hh.get 12 _ rfl) 2 rfl), ?_, ?_, trivial⟩
  ·refine le rfl rfl (fun g hΦ s h hs hh => (stpU_callM (fun i => bif Nat.beq i 0 then 2 else 36 + i) cf63 (fun w hw hb => c_s_l6Wrong fl w b3 (a0.take 2000) x75.2 x4.1 rfl (RO.passM (RO.takeN 2000 hr0_0) hw hb) rfl (OwnC.passM (id := 4) (hh.get 4 _ rfl) o8 hw hb ⟨rfl, trivial⟩) rfl (OwnC.passM (id := 5) (hh.get 5 _ rfl) o12 hw hb ⟨rfl, trivial⟩) rfl (OwnC.passM (id := 6) (hh.get 6 _ rfl) o16 hw hb ⟨rfl, trivial⟩) rfl (OwnC.passM (id := 7) (hh.get 7 _ rfl) o20 hw hb ⟨rfl, trivial⟩) (hw.pass (js := [2]) ⟨2, [], rfl, (hh.get 2 _ rfl), trivial⟩ (by decide)) x97 e97) (yB (sv hs 42 rfl) (sv hs 43 rfl)) ⟨(hh.get 2 _ rfl), (fun _ _ hp => by obtain ⟨_, _, _, _, _, _, _, _, _, _, _, _, _, _, _, _, _, rfl, _⟩ := hp; exact ⟨_, rfl⟩), trivial⟩)) ?_
   rintro g _ _ ⟨_, ⟨p98, _, c100, C101, p102, _, c104, C105, p106, _, c108, C109, p110, _, c112, C113, rfl, rfl, rfl, o101, rfl, o105, rfl, o109, rfl, o113⟩, rfl⟩
   exact ⟨⟨[p98, p102, p106, p110], [c100, c104, c108, c112], [C101, C105, C109, C113]⟩, ⟨o101, o105, o109, o113⟩, .inr rfl, rfl⟩
  ·refine le rfl rfl (fun g hΦ s h hs hh => (stpU_store (id := 0) (cs' := [.slice ((g 2).A 0) ((x97.1.t.b).length) ((g 2).C 0), .slice ((g 2).A 1) ((x97.1.t.f).length) ((g 2).C 1), .slice ((g 2).A 2) ((x97.1.c.l).length) ((g 2).C 2), .int .i64 x97.1.c.h, .int .i64 x97.1.g.c, .int .i64 x97.1.g.n, .int .i64 x97.1.g.r, .slice ((g 2).A 3) ((x97.1.g.o).length) ((g 2).C 3), .int .i64 x97.1.s]) ts34 (sv hs 2 rfl) (sv hs 44 rfl) (hh.get 0 _ rfl) rfl rfl rfl rfl)) ?_
   rintro g _ _ rfl
   exact ⟨⟨[], [], []⟩, trivial, .inl rfl, rfl⟩
  refine le rfl rfl (fun g hΦ s h hs hh => (stpU_store (id := 1) (cs' := [.int .i64 x29.s, .int .i64 x29.p]) ts47 (sv hs 3 rfl) (sv hs 45 rfl) (hh.get 1 _ rfl) rfl rfl rfl rfl)) ?_
  rintro g _ _ rfl
  exact ⟨⟨[], [], []⟩, trivial, .inl rfl, rfl⟩
 intro g hΦ
 refine kw_gen (ι := Option Addr × Option Addr × Option Addr × Option Addr × Nat × Nat × Nat × Nat × Res × Res × Res × Res) (((g 2).A 0), ((g 2).A 1), ((g 2).A 2), ((g 2).A 3), ((g 2).C 0), ((g 2).C 1), ((g 2).C 2), ((g 2).C 3), ((g 2).R 0), ((g 2).R 1), ((g 2).R 2), ((g 2).R 3)) (fun | (p98, p102, p106, p110, c100, c104, c108, c112, C101, C105, C109, C113) => OwnC 3 p98 c100 x97.1.t.b C101 ∧ OwnC 58 p102 c104 x97.1.t.f C105 ∧ OwnC 41 p106 c108 x97.1.c.l C109 ∧ OwnC 118 p110 c112 x97.1.g.o C113) (fun | (p98, p102, p106, p110, c100, c104, c108, c112, C101, C105, C109, C113) => [(2, .pointer (some ⟨b1, 0, none⟩)), (3, .pointer (some ⟨b2, 0, none⟩))]) (fun | (p98, p102, p106, p110, c100, c104, c108, c112, C101, C105, C109, C113) => [(0, [(b1, .cells #[.slice p98 ((x97.1.t.b).length) c100, .slice p102 ((x97.1.t.f).length) c104, .slice p106 ((x97.1.c.l).length) c108, .int .i64 x97.1.c.h, .int .i64 x97.1.g.c, .int .i64 x97.1.g.n, .int .i64 x97.1.g.r, .slice p110 ((x97.1.g.o).length) c112, .int .i64 x97.1.s] 34 (0, 0))]), (1, [(b2, .cells #[.int .i64 x29.s, .int .i64 x29.p] 47 (0, 0))]), (37, C101), (38, C105), (39, C109), (40, C113)]) ⟨(hΦ 2 (by decide)).1, (hΦ 2 (by decide)).2.1, (hΦ 2 (by decide)).2.2.1, (hΦ 2 (by decide)).2.2.2⟩ ⟨rfl, rfl, trivial⟩ ⟨rfl, rfl, rfl, rfl, rfl, rfl, trivial⟩ ?_
 rintro ⟨p98, p102, p106, p110, c100, c104, c108, c112, C101, C105, C109, C113⟩ ⟨o101, o105, o109, o113⟩
 dsimp only
 refine kw_nx (cw_ret ?_)
 obtain rfl := sI H0
 exact kr Tryz.results72 (.cons (.cellN (us := [_, _, _, _, _, _, _, _, _]) ts34 rfl (Cells.box (id := 0) rfl 9 rfl)) (rC2 1 ts47 rfl rfl)) [37, 38, 39, 40] ⟨_, _, _, _, _, _, _, _, _, _, _, _, _, _, _, _, rfl, rfl, rfl, o101, rfl, o105, rfl, o109, rfl, o113⟩

theorem c_s_DrawTouchPage (fl : Nat) (w : World) (a0 : (List UInt8)) (hn0_0 : n0_0 = (a0).length) (hr0_0 : RO w (hkeys []) (RdL p0_0 c0_0 a0)) (r : Mc × Int × Int) (H0 : s_DrawTouchPage fl a0 = some r) :
  Ct Tryz.prog 30 [.slice p0_0 n0_0 c0_0] w [] (fun rv h' => ∃ (x0 : Option Addr) (y0 z0 : Nat) (C0 : Res) (x1 : Option Addr) (y1 z1 : Nat) (C1 : Res) (x2 : Option Addr) (y2 z2 : Nat) (C2 : Res) (x3 : Option Addr) (y3 z3 : Nat) (C3 : Res), rv = .tuple #[.agg #[.slice x0 y0 z0, .slice x1 y1 z1, .slice x2 y2 z2, .int .i64 r.1.c.h, .int .i64 r.1.g.c, .int .i64 r.1.g.n, .int .i64 r.1.g.r, .slice x3 y3 z3, .int .i64 r.1.s], .int .i64 r.2.1, .int .i64 r.2.2] ∧ h' = [(0, C0), (1, C1), (2, C2), (3, C3)] ∧ y0 = (r.1.t.b).length ∧ OwnC 3 x0 z0 r.1.t.b C0 ∧ y1 = (r.1.t.f).length ∧ OwnC 58 x1 z1 r.1.t.f C1 ∧ y2 = (r.1.c.l).length ∧ OwnC 41 x2 z2 r.1.c.l C2 ∧ y3 = (r.1.g.o).length ∧ OwnC 118 x3 z3 r.1.g.o C3) := by
 subst hn0_0
 unfold s_DrawTouchPage at H0
 refine ct_of_cw Tryz.func30 rfl Tryz.ntmps30 rfl (Sat.refl _ _) ?_
 refine sr (oE (stpU_alloc 0 tz34 rfl) rfl ?_)
 rintro _ _ ⟨b1, rfl, rfl⟩
 obtain ⟨x2, e2, H0⟩ := bS H0
 refine oS rfl (oS rfl (nn (sr (oM rfl (oE (stpU_call (fun i => 1 + i) cf72 (fun w hw => c_s_l6Key fl w a0 rfl (RO.pass hr0_0 hw) x2 e2) (yA rfl)) rfl ?_)))))
 rintro _ _ ⟨_, ⟨p3, _, c5, C6, p7, _, c9, C10, p11, _, c13, C14, p15, _, c17, C18, rfl, rfl, rfl, o6, rfl, o10, rfl, o14, rfl, o18⟩, rfl⟩
 refine oM rfl (oT rfl (oT rfl (oE (stpU_alloc 5 tz34 rfl) rfl ?_)))
 rintro _ _ ⟨b19, rfl, rfl⟩
 refine oE (stpU_alloc 6 tz47 rfl) rfl ?_
 rintro _ _ ⟨b20, rfl, rfl⟩
 refine oC9 5 ts34 rfl rfl (oC2 6 ts47 rfl rfl (nn (sr (oM rfl (oE (stpU_call (fun i => 7 + i) cf46 (fun w hw => c_open46 w a0 p0_0 ((a0).length) c0_0 rfl (RO.cap hr0_0).1) (yA rfl)) rfl ?_)))))
 rintro _ _ ⟨_, ⟨b21, rfl, rfl⟩, rfl⟩
 obtain ⟨x22, e22, H0⟩ := bS H0
 refine oS rfl (nn (cw_seq (sr (oM rfl (oE (stpU_callM (fun i => bif Nat.beq i 0 then 7 else 8 + i) cf66 (fun w hw hb => c_s_l12Rd_pick fl w b21 (a0.take 2000) 0 2 rfl (RO.passM (RO.takeN 2000 hr0_0) hw hb) (hw.pass (js := [7]) ⟨7, [], rfl, rfl, trivial⟩ (by decide)) x22 e22) (yB rfl rfl) ⟨rfl, (fun _ _ hp => by obtain ⟨_, rfl⟩ := hp; exact ⟨_, rfl⟩), trivial⟩) rfl ?_)))))
 rintro _ _ ⟨_, ⟨rfl, rfl⟩, rfl⟩
 refine oQ rfl (nn (cw_cond rfl (fun h23 => ?_) (fun h23 => ?_)))
 ·have H0 := cond_t H0 h23
  obtain ⟨x24, e24, H0⟩ := bS H0
  refine sr (oB9 5 ts34 rfl (oA 0 Tryz.underlying47 rfl ts3 rfl (oL 6 ts3 rfl (oE (stpU_call (fun i => 9 + i) cf17 (fun w hw => c_s_EnterSpace fl w x2.1 x2.2.s rfl (OwnC.pass (id := 1) rfl o6 hw) rfl (OwnC.pass (id := 2) rfl o10 hw) rfl (OwnC.pass (id := 3) rfl o14 hw) rfl (OwnC.pass (id := 4) rfl o18 hw) x24 e24) (yB rfl rfl)) rfl ?_))))
  rintro _ _ ⟨_, ⟨p25, _, c27, C28, p29, _, c31, C32, p33, _, c35, C36, p37, _, c39, C40, rfl, rfl, rfl, o28, rfl, o32, rfl, o36, rfl, o40⟩, rfl⟩
  refine oM rfl (oT rfl (oT rfl (oE (stpU_alloc 13 tz34 rfl) rfl ?_)))
  rintro _ _ ⟨b41, rfl, rfl⟩
  refine oC9 13 ts34 rfl rfl (oS rfl (nn (sr (oM rfl (nn (cw_cond rfl (fun h42 => ?_) (fun h42 => ?_)))))))
  ·have H0 := cond_t H0 h42
   obtain ⟨x43, e43, H0⟩ := bS H0
   refine cw_region (oB9 13 ts34 rfl (oC9 5 ts34 rfl rfl (nn (cw_seq (sr (oM rfl (oE (stpU_callM (fun i => bif Nat.beq i 0 then 7 else 14 + i) cf66 (fun w hw hb => c_s_l12Rd_pick fl w b21 (a0.take 2000) x22.2 24 rfl (RO.passM (RO.takeN 2000 hr0_0) hw hb) (hw.pass (js := [7]) ⟨7, [], rfl, rfl, trivial⟩ (by decide)) x43 e43) (yB rfl rfl) ⟨rfl, (fun _ _ hp => by obtain ⟨_, rfl⟩ := hp; exact ⟨_, rfl⟩), trivial⟩) rfl ?_)))))))
   rintro _ _ ⟨_, ⟨rfl, rfl⟩, rfl⟩
   refine oQ rfl (nn (cw_cond rfl (fun h44 => ?_) (fun h44 => ?_)))
   ·have H0 := cond_t H0 h44
    obtain ⟨x47, e47, H0⟩ := bS H0
    refine cw_seq (rdq g_mixed [2, 5, 7] [0, 5, 7] { dst := dS [33, 34, 35, 36, 0, 4, 5], pre := gA [] [[], [], [], [1, 2], rn 0 4, rn 0 5, rn 0 6], ids := gA [] [[], [], [15], [7], [0]], rs := rL [[(5, 0)], [(7, 0)], [], [(33, 2), (34, 3)], [(2, 0), (32, 1)], [(35, 4)], []], rh := rL [[(5, 0)], [], [], [(7, 0), (15, 3)], [(0, 0)]], V := fun i g => gA undef [.agg #[.slice p25 ((x24.1.t.b).length) c27, .slice p29 ((x24.1.t.f).length) c31, .slice p33 ((x24.1.c.l).length) c35, .int .i64 x24.1.c.h, .int .i64 x24.1.g.c, .int .i64 x24.1.g.n, .int .i64 x24.1.g.r, .slice p37 ((x24.1.g.o).length) c39, .int .i64 x24.1.s], .pointer (some ⟨b21, 0, none⟩), .slice ((g 2).A 0) 2 2, .int .i64 x47.1, undef, .int .i64 x47.1, .int .i64 1] i, U := fun i g => gA [] [[], [], [(15, ((g 2).R 0))], [(7, [(b21, .cells #[.slice p0_0 (((a0.take 2000)).length) c0_0, .int .i64 x47.2] 124 (0, 0))])], [(0, [(b1, .cells #[.slice p25 ((x24.1.t.b).length) c27, .slice p29 ((x24.1.t.f).length) c31, .slice p33 ((x24.1.c.l).length) c35, .int .i64 x24.1.c.h, .int .i64 x24.1.g.c, .int .i64 x24.1.g.n, .int .i64 x24.1.g.r, .slice p37 ((x24.1.g.o).length) c39, .int .i64 x24.1.s] 34 (0, 0))])]] i, Φ := fun i x => gA True [True, True, OwnC (α := Int) 3 (x.A 0) 2 ([(-1), 256]) (x.R 0)] i } ?_ ?_)
    ·refine ⟨lc rfl rfl fun hs hh => stp_loadN (us := [_, _, _, _, _, _, _, _, _]) ts34 (sv hs 5 rfl) (Cells.box (id := 5) (hh.get 5 _ rfl) 9 rfl), lM, ?_, ?_, ?_, lS, lc rfl rfl fun hs hh => stp_assign rfl, trivial⟩
     ·refine le rfl rfl (fun g hΦ s h hs hh => (stpU_lit (sz := 1) (l := [(-1), 256]) [.int .i64 (-1), .int .i64 256] sl23 15 (sevp_cons rfl (sevp_cons rfl sevp_nil)) rfl rfl rfl rfl rfl rfl rfl rfl rfl)) ?_
      rintro g _ _ ⟨p45, C46, rfl, rfl, o46⟩
      exact ⟨⟨[p45], [], [C46]⟩, o46, .inr rfl, rfl⟩
     ·refine le rfl rfl (fun g hΦ s h hs hh => (stpU_callM (fun i => bif Nat.beq i 0 then 7 else 16 + i) cf47 (fun w hw hb => c_s_l12Rd_num fl w b21 (a0.take 2000) x43.2 ([(-1), 256]) rfl (RO.passM (RO.takeN 2000 hr0_0) hw hb) (by simp) (OwnC.passM (id := 15) (hh.get 15 _ rfl) (hΦ 2 rfl) hw hb ⟨rfl, trivial⟩) (hw.pass (js := [7]) ⟨7, [], rfl, (hh.get 7 _ rfl), trivial⟩ (by decide)) x47 e47) (yB (sv hs 33 rfl) (sv hs 34 rfl)) ⟨(hh.get 7 _ rfl), (fun _ _ hp => by obtain ⟨_, rfl⟩ := hp; exact ⟨_, rfl⟩), trivial⟩)) ?_
      rintro g _ _ ⟨_, ⟨rfl, rfl⟩, rfl⟩
      exact ⟨⟨[], [], []⟩, trivial, .inr rfl, rfl⟩
     refine le rfl rfl (fun g hΦ s h hs hh => (stpU_store (id := 0) (cs' := [.slice p25 ((x24.1.t.b).length) c27, .slice p29 ((x24.1.t.f).length) c31, .slice p33 ((x24.1.c.l).length) c35, .int .i64 x24.1.c.h, .int .i64 x24.1.g.c, .int .i64 x24.1.g.n, .int .i64 x24.1.g.r, .slice p37 ((x24.1.g.o).length) c39, .int .i64 x24.1.s]) ts34 (sv hs 2 rfl) (sv hs 32 rfl) (hh.get 0 _ rfl) rfl rfl rfl rfl)) ?_
     rintro g _ _ rfl
     exact ⟨⟨[], [], []⟩, trivial, .inl rfl, rfl⟩
    intro g hΦ
    refine kw_gen (ι := Option Addr × Res) (((g 2).A 0), ((g 2).R 0)) (fun | (p45, C46) => OwnC (α := Int) 3 p45 2 ([(-1), 256]) C46) (fun | (p45, C46) => [(2, .pointer (some ⟨b1, 0, none⟩)), (3, .int .i64 x47.1), (4, .int .i64 1)]) (fun | (p45, C46) => [(0, [(b1, .cells #[.slice p25 ((x24.1.t.b).length) c27, .slice p29 ((x24.1.t.f).length) c31, .slice p33 ((x24.1.c.l).length) c35, .int .i64 x24.1.c.h, .int .i64 x24.1.g.c, .int .i64 x24.1.g.n, .int .i64 x24.1.g.r, .slice p37 ((x24.1.g.o).length) c39, .int .i64 x24.1.s] 34 (0, 0))]), (9, C28), (10, C32), (11, C36), (12, C40)]) (hΦ 2 (by decide)) ⟨rfl, rfl, rfl, trivial⟩ ⟨rfl, rfl, rfl, rfl, rfl, trivial⟩ ?_
    rintro ⟨p45, C46⟩ o46
    have o46 : OwnC (α := Int) 3 p45 2 ([(-1), 256]) C46 := o46
    dsimp only
    refine kw_nx (cw_ret (kw_nx_ret ?_))
    obtain rfl := sI H0
    exact kr Tryz.results30 (.cons (.cellN (us := [_, _, _, _, _, _, _, _, _]) ts34 rfl (Cells.box (id := 0) rfl 9 rfl)) (.cons (.tmp rfl) (rT rfl))) [9, 10, 11, 12] ⟨_, _, _, _, _, _, _, _, _, _, _, _, _, _, _, _, rfl, rfl, rfl, o28, rfl, o32, rfl, o36, rfl, o40⟩
   have H0 := cond_f H0 h44
   obtain ⟨x50, e50, H0⟩ := bS H0
   refine cw_skip (kw_nx (cw_seq (rdq g_mixed [2, 5, 6, 7] [0, 5, 6, 7] { dst := dS [37, 38, 39, 40, 41, 42, 0, 4, 5], pre := gA [] [[], [], [1], [], [], [3, 4], [0, 3, 4, 5], rn 0 7, rn 0 8], ids := gA [] [[], [], [], [], [17], [7], [0]], rs := rL [[(5, 0)], [(6, 0)], [(37, 2)], [(7, 0)], [], [(39, 4), (40, 5)], [(2, 0), (36, 1)], [(38, 3)], [(41, 6)]], rh := rL [[(5, 0)], [], [(6, 0)], [], [], [(7, 0), (17, 5)], [(0, 0)]], V := fun i g => gA undef [.agg #[.slice p25 ((x24.1.t.b).length) c27, .slice p29 ((x24.1.t.f).length) c31, .slice p33 ((x24.1.c.l).length) c35, .int .i64 x24.1.c.h, .int .i64 x24.1.g.c, .int .i64 x24.1.g.n, .int .i64 x24.1.g.r, .slice p37 ((x24.1.g.o).length) c39, .int .i64 x24.1.s], .pointer (some ⟨b20, 1, none⟩), .int .i64 x2.2.p, .pointer (some ⟨b21, 0, none⟩), .slice ((g 4).A 0) 5 5, .int .i64 x50.1, undef, .int .i64 x2.2.p, .int .i64 x50.1] i, U := fun i g => gA [] [[], [], [], [], [(17, ((g 4).R 0))], [(7, [(b21, .cells #[.slice p0_0 (((a0.take 2000)).length) c0_0, .int .i64 x50.2] 124 (0, 0))])], [(0, [(b1, .cells #[.slice p25 ((x24.1.t.b).length) c27, .slice p29 ((x24.1.t.f).length) c31, .slice p33 ((x24.1.c.l).length) c35, .int .i64 x24.1.c.h, .int .i64 x24.1.g.c, .int .i64 x24.1.g.n, .int .i64 x24.1.g.r, .slice p37 ((x24.1.g.o).length) c39, .int .i64 x24.1.s] 34 (0, 0))])]] i, Φ := fun i x => match i with | 4 => OwnC (α := Int) 3 (x.A 0) 5 ([1, 0, 2, 4, 8]) (x.R 0) | _ => True } ?_ ?_)))
   ·refine ⟨lc rfl rfl fun hs hh => stp_loadN (us := [_, _, _, _, _, _, _, _, _]) ts34 (sv hs 5 rfl) (Cells.box (id := 5) (hh.get 5 _ rfl) 9 rfl), lc rfl rfl fun hs hh => stp_fieldAddr (j := 1) Tryz.underlying47 rfl ts3 rfl (sv hs 6 rfl) rfl, lc rfl rfl fun hs hh => stp_load1 ts3 (sv hs 37 rfl) (Cells.box (id := 6) (hh.get 6 _ rfl) 1 rfl), lM, ?_, ?_, ?_, lS, lS, trivial⟩
    ·refine le rfl rfl (fun g hΦ s h hs hh => (stpU_lit (sz := 1) (l := [1, 0, 2, 4, 8]) [.int .i64 1, .int .i64 0, .int .i64 2, .int .i64 4, .int .i64 8] sl23 17 (sevp_cons rfl (sevp_cons rfl (sevp_cons rfl (sevp_cons rfl (sevp_cons rfl sevp_nil))))) rfl rfl rfl rfl rfl rfl rfl rfl rfl)) ?_
     rintro g _ _ ⟨p48, C49, rfl, rfl, o49⟩
     exact ⟨⟨[p48], [], [C49]⟩, o49, .inr rfl, rfl⟩
    ·refine le rfl rfl (fun g hΦ s h hs hh => (stpU_callM (fun i => bif Nat.beq i 0 then 7 else 18 + i) cf47 (fun w hw hb => c_s_l12Rd_num fl w b21 (a0.take 2000) x43.2 ([1, 0, 2, 4, 8]) rfl (RO.passM (RO.takeN 2000 hr0_0) hw hb) (by simp) (OwnC.passM (id := 17) (hh.get 17 _ rfl) (hΦ 4 rfl) hw hb ⟨rfl, trivial⟩) (hw.pass (js := [7]) ⟨7, [], rfl, (hh.get 7 _ rfl), trivial⟩ (by decide)) x50 e50) (yB (sv hs 39 rfl) (sv hs 40 rfl)) ⟨(hh.get 7 _ rfl), (fun _ _ hp => by obtain ⟨_, rfl⟩ := hp; exact ⟨_, rfl⟩), trivial⟩)) ?_
     rintro g _ _ ⟨_, ⟨rfl, rfl⟩, rfl⟩
     exact ⟨⟨[], [], []⟩, trivial, .inr rfl, rfl⟩
    refine le rfl rfl (fun g hΦ s h hs hh => (stpU_store (id := 0) (cs' := [.slice p25 ((x24.1.t.b).length) c27, .slice p29 ((x24.1.t.f).length) c31, .slice p33 ((x24.1.c.l).length) c35, .int .i64 x24.1.c.h, .int .i64 x24.1.g.c, .int .i64 x24.1.g.n, .int .i64 x24.1.g.r, .slice p37 ((x24.1.g.o).length) c39, .int .i64 x24.1.s]) ts34 (sv hs 2 rfl) (sv hs 36 rfl) (hh.get 0 _ rfl) rfl rfl rfl rfl)) ?_
    rintro g _ _ rfl
    exact ⟨⟨[], [], []⟩, trivial, .inl rfl, rfl⟩
   intro g hΦ
   refine kw_gen (ι := Option Addr × Res) (((g 4).A 0), ((g 4).R 0)) (fun | (p48, C49) => OwnC (α := Int) 3 p48 5 ([1, 0, 2, 4, 8]) C49) (fun | (p48, C49) => [(2, .pointer (some ⟨b1, 0, none⟩)), (3, .int .i64 x2.2.p), (4, .int .i64 x50.1)]) (fun | (p48, C49) => [(0, [(b1, .cells #[.slice p25 ((x24.1.t.b).length) c27, .slice p29 ((x24.1.t.f).length) c31, .slice p33 ((x24.1.c.l).length) c35, .int .i64 x24.1.c.h, .int .i64 x24.1.g.c, .int .i64 x24.1.g.n, .int .i64 x24.1.g.r, .slice p37 ((x24.1.g.o).length) c39, .int .i64 x24.1.s] 34 (0, 0))]), (9, C28), (10, C32), (11, C36), (12, C40)]) (hΦ 4 (by decide)) ⟨rfl, rfl, rfl, trivial⟩ ⟨rfl, rfl, rfl, rfl, rfl, trivial⟩ ?_
   rintro ⟨p48, C49⟩ o49
   have o49 : OwnC (α := Int) 3 p48 5 ([1, 0, 2, 4, 8]) C49 := o49
   dsimp only
   refine kw_nx (cw_ret ?_)
   obtain rfl := sI H0
   exact kr Tryz.results30 (.cons (.cellN (us := [_, _, _, _, _, _, _, _, _]) ts34 rfl (Cells.box (id := 0) rfl 9 rfl)) (.cons (.tmp rfl) (rT rfl))) [9, 10, 11, 12] ⟨_, _, _, _, _, _, _, _, _, _, _, _, _, _, _, _, rfl, rfl, rfl, o28, rfl, o32, rfl, o36, rfl, o40⟩
  have H0 := cond_f H0 h42
  obtain ⟨x51, e51, H0⟩ := bS H0
  refine cw_skip (kw_nx (cw_seq (sr (oM rfl (oE (stpU_callM (fun i => bif Nat.beq i 0 then 7 else 19 + i) cf66 (fun w hw hb => c_s_l12Rd_pick fl w b21 (a0.take 2000) x22.2 24 rfl (RO.passM (RO.takeN 2000 hr0_0) hw hb) (hw.pass (js := [7]) ⟨7, [], rfl, rfl, trivial⟩ (by decide)) x51 e51) (yB rfl rfl) ⟨rfl, (fun _ _ hp => by obtain ⟨_, rfl⟩ := hp; exact ⟨_, rfl⟩), trivial⟩) rfl ?_)))))
  rintro _ _ ⟨_, ⟨rfl, rfl⟩, rfl⟩
  refine oQ rfl (nn (cw_cond rfl (fun h52 => ?_) (fun h52 => ?_)))
  ·have H0 := cond_t H0 h52
   obtain ⟨x55, e55, H0⟩ := bS H0
   refine cw_seq (rdq g_mixed [2, 5, 7] [0, 5, 7] { dst := dS [33, 34, 35, 36, 0, 4, 5], pre := gA [] [[], [], [], [1, 2], rn 0 4, rn 0 5, rn 0 6], ids := gA [] [[], [], [20], [7], [0]], rs := rL [[(5, 0)], [(7, 0)], [], [(33, 2), (34, 3)], [(2, 0), (32, 1)], [(35, 4)], []], rh := rL [[(5, 0)], [], [], [(7, 0), (20, 3)], [(0, 0)]], V := fun i g => gA undef [.agg #[.slice p3 ((x2.1.t.b).length) c5, .slice p7 ((x2.1.t.f).length) c9, .slice p11 ((x2.1.c.l).length) c13, .int .i64 x2.1.c.h, .int .i64 x2.1.g.c, .int .i64 x2.1.g.n, .int .i64 x2.1.g.r, .slice p15 ((x2.1.g.o).length) c17, .int .i64 x2.1.s], .pointer (some ⟨b21, 0, none⟩), .slice ((g 2).A 0) 2 2, .int .i64 x55.1, undef, .int .i64 x55.1, .int .i64 1] i, U := fun i g => gA [] [[], [], [(20, ((g 2).R 0))], [(7, [(b21, .cells #[.slice p0_0 (((a0.take 2000)).length) c0_0, .int .i64 x55.2] 124 (0, 0))])], [(0, [(b1, .cells #[.slice p3 ((x2.1.t.b).length) c5, .slice p7 ((x2.1.t.f).length) c9, .slice p11 ((x2.1.c.l).length) c13, .int .i64 x2.1.c.h, .int .i64 x2.1.g.c, .int .i64 x2.1.g.n, .int .i64 x2.1.g.r, .slice p15 ((x2.1.g.o).length) c17, .int .i64 x2.1.s] 34 (0, 0))])]] i, Φ := fun i x => gA True [True, True, OwnC (α := Int) 3 (x.A 0) 2 ([(-1), 256]) (x.R 0)] i } ?_ ?_)
   ·refine ⟨lc rfl rfl fun hs hh => stp_loadN (us := [_, _, _, _, _, _, _, _, _]) ts34 (sv hs 5 rfl) (Cells.box (id := 5) (hh.get 5 _ rfl) 9 rfl), lM, ?_, ?_, ?_, lS, lc rfl rfl fun hs hh => stp_assign rfl, trivial⟩
    ·refine le rfl rfl (fun g hΦ s h hs hh => (stpU_lit (sz := 1) (l := [(-1), 256]) [.int .i64 (-1), .int .i64 256] sl23 20 (sevp_cons rfl (sevp_cons rfl sevp_nil)) rfl rfl rfl rfl rfl rfl rfl rfl rfl)) ?_
     rintro g _ _ ⟨p53, C54, rfl, rfl, o54⟩
     exact ⟨⟨[p53], [], [C54]⟩, o54, .inr rfl, rfl⟩
    ·refine le rfl rfl (fun g hΦ s h hs hh => (stpU_callM (fun i => bif Nat.beq i 0 then 7 else 21 + i) cf47 (fun w hw hb => c_s_l12Rd_num fl w b21 (a0.take 2000) x51.2 ([(-1), 256]) rfl (RO.passM (RO.takeN 2000 hr0_0) hw hb) (by simp) (OwnC.passM (id := 20) (hh.get 20 _ rfl) (hΦ 2 rfl) hw hb ⟨rfl, trivial⟩) (hw.pass (js := [7]) ⟨7, [], rfl, (hh.get 7 _ rfl), trivial⟩ (by decide)) x55 e55) (yB (sv hs 33 rfl) (sv hs 34 rfl)) ⟨(hh.get 7 _ rfl), (fun _ _ hp => by obtain ⟨_, rfl⟩ := hp; exact ⟨_, rfl⟩), trivial⟩)) ?_
     rintro g _ _ ⟨_, ⟨rfl, rfl⟩, rfl⟩
     exact ⟨⟨[], [], []⟩, trivial, .inr rfl, rfl⟩
    refine le rfl rfl (fun g hΦ s h hs hh => (stpU_store (id := 0) (cs' := [.slice p3 ((x2.1.t.b).length) c5, .slice p7 ((x2.1.t.f).length) c9, .slice p11 ((x2.1.c.l).length) c13, .int .i64 x2.1.c.h, .int .i64 x2.1.g.c, .int .i64 x2.1.g.n, .int .i64 x2.1.g.r, .slice p15 ((x2.1.g.o).length) c17, .int .i64 x2.1.s]) ts34 (sv hs 2 rfl) (sv hs 32 rfl) (hh.get 0 _ rfl) rfl rfl rfl rfl)) ?_
    rintro g _ _ rfl
    exact ⟨⟨[], [], []⟩, trivial, .inl rfl, rfl⟩
   intro g hΦ
   refine kw_gen (ι := Option Addr × Res) (((g 2).A 0), ((g 2).R 0)) (fun | (p53, C54) => OwnC (α := Int) 3 p53 2 ([(-1), 256]) C54) (fun | (p53, C54) => [(2, .pointer (some ⟨b1, 0, none⟩)), (3, .int .i64 x55.1), (4, .int .i64 1)]) (fun | (p53, C54) => [(0, [(b1, .cells #[.slice p3 ((x2.1.t.b).length) c5, .slice p7 ((x2.1.t.f).length) c9, .slice p11 ((x2.1.c.l).length) c13, .int .i64 x2.1.c.h, .int .i64 x2.1.g.c, .int .i64 x2.1.g.n, .int .i64 x2.1.g.r, .slice p15 ((x2.1.g.o).length) c17, .int .i64 x2.1.s] 34 (0, 0))]), (1, C6), (2, C10), (3, C14), (4, C18)]) (hΦ 2 (by decide)) ⟨rfl, rfl, rfl, trivial⟩ ⟨rfl, rfl, rfl, rfl, rfl, trivial⟩ ?_
   rintro ⟨p53, C54⟩ o54
   have o54 : OwnC (α := Int) 3 p53 2 ([(-1), 256]) C54 := o54
   dsimp only
   refine kw_nx (cw_ret (kw_nx_ret ?_))
   obtain rfl := sI H0
   exact kr Tryz.results30 (.cons (.cellN (us := [_, _, _, _, _, _, _, _, _]) ts34 rfl (Cells.box (id := 0) rfl 9 rfl)) (.cons (.tmp rfl) (rT rfl))) [1, 2, 3, 4] ⟨_, _, _, _, _, _, _, _, _, _, _, _, _, _, _, _, rfl, rfl, rfl, o6, rfl, o10, rfl, o14, rfl, o18⟩
  have H0 := cond_f H0 h52
  obtain ⟨x58, e58, H0⟩ := bS H0
  refine cw_skip (kw_nx (cw_seq (rdq g_mixed [2, 5, 6, 7] [0, 5, 6, 7] { dst := dS [37, 38, 39, 40, 41, 42, 0, 4, 5], pre := gA [] [[], [], [1], [], [], [3, 4], [0, 3, 4, 5], rn 0 7, rn 0 8], ids := gA [] [[], [], [], [], [22], [7], [0]], rs := rL [[(5, 0)], [(6, 0)], [(37, 2)], [(7, 0)], [], [(39, 4), (40, 5)], [(2, 0), (36, 1)], [(38, 3)], [(41, 6)]], rh := rL [[(5, 0)], [], [(6, 0)], [], [], [(7, 0), (22, 5)], [(0, 0)]], V := fun i g => gA undef [.agg #[.slice p3 ((x2.1.t.b).length) c5, .slice p7 ((x2.1.t.f).length) c9, .slice p11 ((x2.1.c.l).length) c13, .int .i64 x2.1.c.h, .int .i64 x2.1.g.c, .int .i64 x2.1.g.n, .int .i64 x2.1.g.r, .slice p15 ((x2.1.g.o).length) c17, .int .i64 x2.1.s], .pointer (some ⟨b20, 1, none⟩), .int .i64 x2.2.p, .pointer (some ⟨b21, 0, none⟩), .slice ((g 4).A 0) 5 5, .int .i64 x58.1, undef, .int .i64 x2.2.p, .int .i64 x58.1] i, U := fun i g => gA [] [[], [], [], [], [(22, ((g 4).R 0))], [(7, [(b21, .cells #[.slice p0_0 (((a0.take 2000)).length) c0_0, .int .i64 x58.2] 124 (0, 0))])], [(0, [(b1, .cells #[.slice p3 ((x2.1.t.b).length) c5, .slice p7 ((x2.1.t.f).length) c9, .slice p11 ((x2.1.c.l).length) c13, .int .i64 x2.1.c.h, .int .i64 x2.1.g.c, .int .i64 x2.1.g.n, .int .i64 x2.1.g.r, .slice p15 ((x2.1.g.o).length) c17, .int .i64 x2.1.s] 34 (0, 0))])]] i, Φ := fun i x => match i with | 4 => OwnC (α := Int) 3 (x.A 0) 5 ([1, 0, 2, 4, 8]) (x.R 0) | _ => True } ?_ ?_)))
  ·refine ⟨lc rfl rfl fun hs hh => stp_loadN (us := [_, _, _, _, _, _, _, _, _]) ts34 (sv hs 5 rfl) (Cells.box (id := 5) (hh.get 5 _ rfl) 9 rfl), lc rfl rfl fun hs hh => stp_fieldAddr (j := 1) Tryz.underlying47 rfl ts3 rfl (sv hs 6 rfl) rfl, lc rfl rfl fun hs hh => stp_load1 ts3 (sv hs 37 rfl) (Cells.box (id := 6) (hh.get 6 _ rfl) 1 rfl), lM, ?_, ?_, ?_, lS, lS, trivial⟩
   ·refine le rfl rfl (fun g hΦ s h hs hh => (stpU_lit (sz := 1) (l := [1, 0, 2, 4, 8]) [.int .i64 1, .int .i64 0, .int .i64 2, .int .i64 4, .int .i64 8] sl23 22 (sevp_cons rfl (sevp_cons rfl (sevp_cons rfl (sevp_cons rfl (sevp_cons rfl sevp_nil))))) rfl rfl rfl rfl rfl rfl rfl rfl rfl)) ?_
    rintro g _ _ ⟨p56, C57, rfl, rfl, o57⟩
    exact ⟨⟨[p56], [], [C57]⟩, o57, .inr rfl, rfl⟩
   ·refine le rfl rfl (fun g hΦ s h hs hh => (stpU_callM (fun i => bif Nat.beq i 0 then 7 else 23 + i) cf47 (fun w hw hb => c_s_l12Rd_num fl w b21 (a0.take 2000) x51.2 ([1, 0, 2, 4, 8]) rfl (RO.passM (RO.takeN 2000 hr0_0) hw hb) (by simp) (OwnC.passM (id := 22) (hh.get 22 _ rfl) (hΦ 4 rfl) hw hb ⟨rfl, trivial⟩) (hw.pass (js := [7]) ⟨7, [], rfl, (hh.get 7 _ rfl), trivial⟩ (by decide)) x58 e58) (yB (sv hs 39 rfl) (sv hs 40 rfl)) ⟨(hh.get 7 _ rfl), (fun _ _ hp => by obtain ⟨_, rfl⟩ := hp; exact ⟨_, rfl⟩), trivial⟩)) ?_
    rintro g _ _ ⟨_, ⟨rfl, rfl⟩, rfl⟩
    exact ⟨⟨[], [], []⟩, trivial, .inr rfl, rfl⟩
   refine le rfl rfl (fun g hΦ s h hs hh => (stpU_store (id := 0) (cs' := [.slice p3 ((x2.1.t.b).length) c5, .slice p7 ((x2.1.t.f).length) c9, .slice p11 ((x2.1.c.l).length) c13, .int .i64 x2.1.c.h, .int .i64 x2.1.g.c, .int .i64 x2.1.g.n, .int .i64 x2.1.g.r, .slice p15 ((x2.1.g.o).length) c17, .int .i64 x2.1.s]) ts34 (sv hs 2 rfl) (sv hs 36 rfl) (hh.get 0 _ rfl) rfl rfl rfl rfl)) ?_
   rintro g _ _ rfl
   exact ⟨⟨[], [], []⟩, trivial, .inl rfl, rfl⟩
  intro g hΦ
  refine kw_gen (ι := Option Addr × Res) (((g 4).A 0), ((g 4).R 0)) (fun | (p56, C57) => OwnC (α := Int) 3 p56 5 ([1, 0, 2, 4, 8]) C57) (fun | (p56, C57) => [(2, .pointer (some ⟨b1, 0, none⟩)), (3, .int .i64 x2.2.p), (4, .int .i64 x58.1)]) (fun | (p56, C57) => [(0, [(b1, .cells #[.slice p3 ((x2.1.t.b).length) c5, .slice p7 ((x2.1.t.f).length) c9, .slice p11 ((x2.1.c.l).length) c13, .int .i64 x2.1.c.h, .int .i64 x2.1.g.c, .int .i64 x2.1.g.n, .int .i64 x2.1.g.r, .slice p15 ((x2.1.g.o).length) c17, .int .i64 x2.1.s] 34 (0, 0))]), (1, C6), (2, C10), (3, C14), (4, C18)]) (hΦ 4 (by decide)) ⟨rfl, rfl, rfl, trivial⟩ ⟨rfl, rfl, rfl, rfl, rfl, trivial⟩ ?_
  rintro ⟨p56, C57⟩ o57
  have o57 : OwnC (α := Int) 3 p56 5 ([1, 0, 2, 4, 8]) C57 := o57
  dsimp only
  refine kw_nx (cw_ret ?_)
  obtain rfl := sI H0
  exact kr Tryz.results30 (.cons (.cellN (us := [_, _, _, _, _, _, _, _, _]) ts34 rfl (Cells.box (id := 0) rfl 9 rfl)) (.cons (.tmp rfl) (rT rfl))) [1, 2, 3, 4] ⟨_, _, _, _, _, _, _, _, _, _, _, _, _, _, _, _, rfl, rfl, rfl, o6, rfl, o10, rfl, o14, rfl, o18⟩
 have H0 := cond_f H0 h23
 obtain ⟨x59, e59, H0⟩ := bS H0
 refine cw_skip (kw_nx (cw_seq (sr (oM rfl (oE (stpU_callM (fun i => bif Nat.beq i 0 then 7 else 24 + i) cf66 (fun w hw hb => c_s_l12Rd_pick fl w b21 (a0.take 2000) x22.2 24 rfl (RO.passM (RO.takeN 2000 hr0_0) hw hb) (hw.pass (js := [7]) ⟨7, [], rfl, rfl, trivial⟩ (by decide)) x59 e59) (yB rfl rfl) ⟨rfl, (fun _ _ hp => by obtain ⟨_, rfl⟩ := hp; exact ⟨_, rfl⟩), trivial⟩) rfl ?_)))))
 rintro _ _ ⟨_, ⟨rfl, rfl⟩, rfl⟩
 refine oQ rfl (nn (cw_cond rfl (fun h60 => ?_) (fun h60 => ?_)))
 ·have H0 := cond_t H0 h60
  obtain ⟨x63, e63, H0⟩ := bS H0
  refine cw_seq (rdq g_mixed [2, 5, 7] [0, 5, 7] { dst := dS [33, 34, 35, 36, 0, 4, 5], pre := gA [] [[], [], [], [1, 2], rn 0 4, rn 0 5, rn 0 6], ids := gA [] [[], [], [25], [7], [0]], rs := rL [[(5, 0)], [(7, 0)], [], [(33, 2), (34, 3)], [(2, 0), (32, 1)], [(35, 4)], []], rh := rL [[(5, 0)], [], [], [(7, 0), (25, 3)], [(0, 0)]], V := fun i g => gA undef [.agg #[.slice p3 ((x2.1.t.b).length) c5, .slice p7 ((x2.1.t.f).length) c9, .slice p11 ((x2.1.c.l).length) c13, .int .i64 x2.1.c.h, .int .i64 x2.1.g.c, .int .i64 x2.1.g.n, .int .i64 x2.1.g.r, .slice p15 ((x2.1.g.o).length) c17, .int .i64 x2.1.s], .pointer (some ⟨b21, 0, none⟩), .slice ((g 2).A 0) 2 2, .int .i64 x63.1, undef, .int .i64 x63.1, .int .i64 1] i, U := fun i g => gA [] [[], [], [(25, ((g 2).R 0))], [(7, [(b21, .cells #[.slice p0_0 (((a0.take 2000)).length) c0_0, .int .i64 x63.2] 124 (0, 0))])], [(0, [(b1, .cells #[.slice p3 ((x2.1.t.b).length) c5, .slice p7 ((x2.1.t.f).length) c9, .slice p11 ((x2.1.c.l).length) c13, .int .i64 x2.1.c.h, .int .i64 x2.1.g.c, .int .i64 x2.1.g.n, .int .i64 x2.1.g.r, .slice p15 ((x2.1.g.o).length) c17, .int .i64 x2.1.s] 34 (0, 0))])]] i, Φ := fun i x => gA True [True, True, OwnC (α := Int) 3 (x.A 0) 2 ([(-1), 256]) (x.R 0)] i } ?_ ?_)
  ·refine ⟨lc rfl rfl fun hs hh => stp_loadN (us := [_, _, _, _, _, _, _, _, _]) ts34 (sv hs 5 rfl) (Cells.box (id := 5) (hh.get 5 _ rfl) 9 rfl), lM, ?_, ?_, ?_, lS, lc rfl rfl fun hs hh => stp_assign rfl, trivial⟩
   ·refine le rfl rfl (fun g hΦ s h hs hh => (stpU_lit (sz := 1) (l := [(-1), 256]) [.int .i64 (-1), .int .i64 256] sl23 25 (sevp_cons rfl (sevp_cons rfl sevp_nil)) rfl rfl rfl rfl rfl rfl rfl rfl rfl)) ?_
    rintro g _ _ ⟨p61, C62, rfl, rfl, o62⟩
    exact ⟨⟨[p61], [], [C62]⟩, o62, .inr rfl, rfl⟩
   ·refine le rfl rfl (fun g hΦ s h hs hh => (stpU_callM (fun i => bif Nat.beq i 0 then 7 else 26 + i) cf47 (fun w hw hb => c_s_l12Rd_num fl w b21 (a0.take 2000) x59.2 ([(-1), 256]) rfl (RO.passM (RO.takeN 2000 hr0_0) hw hb) (by simp) (OwnC.passM (id := 25) (hh.get 25 _ rfl) (hΦ 2 rfl) hw hb ⟨rfl, trivial⟩) (hw.pass (js := [7]) ⟨7, [], rfl, (hh.get 7 _ rfl), trivial⟩ (by decide)) x63 e63) (yB (sv hs 33 rfl) (sv hs 34 rfl)) ⟨(hh.get 7 _ rfl), (fun _ _ hp => by obtain ⟨_, rfl⟩ := hp; exact ⟨_, rfl⟩), trivial⟩)) ?_
    rintro g _ _ ⟨_, ⟨rfl, rfl⟩, rfl⟩
    exact ⟨⟨[], [], []⟩, trivial, .inr rfl, rfl⟩
   refine le rfl rfl (fun g hΦ s h hs hh => (stpU_store (id := 0) (cs' := [.slice p3 ((x2.1.t.b).length) c5, .slice p7 ((x2.1.t.f).length) c9, .slice p11 ((x2.1.c.l).length) c13, .int .i64 x2.1.c.h, .int .i64 x2.1.g.c, .int .i64 x2.1.g.n, .int .i64 x2.1.g.r, .slice p15 ((x2.1.g.o).length) c17, .int .i64 x2.1.s]) ts34 (sv hs 2 rfl) (sv hs 32 rfl) (hh.get 0 _ rfl) rfl rfl rfl rfl)) ?_
   rintro g _ _ rfl
   exact ⟨⟨[], [], []⟩, trivial, .inl rfl, rfl⟩
  intro g hΦ
  refine kw_gen (ι := Option Addr × Res) (((g 2).A 0), ((g 2).R 0)) (fun | (p61, C62) => OwnC (α := Int) 3 p61 2 ([(-1), 256]) C62) (fun | (p61, C62) => [(2, .pointer (some ⟨b1, 0, none⟩)), (3, .int .i64 x63.1), (4, .int .i64 1)]) (fun | (p61, C62) => [(0, [(b1, .cells #[.slice p3 ((x2.1.t.b).length) c5, .slice p7 ((x2.1.t.f).length) c9, .slice p11 ((x2.1.c.l).length) c13, .int .i64 x2.1.c.h, .int .i64 x2.1.g.c, .int .i64 x2.1.g.n, .int .i64 x2.1.g.r, .slice p15 ((x2.1.g.o).length) c17, .int .i64 x2.1.s] 34 (0, 0))]), (1, C6), (2, C10), (3, C14), (4, C18)]) (hΦ 2 (by decide)) ⟨rfl, rfl, rfl, trivial⟩ ⟨rfl, rfl, rfl, rfl, rfl, trivial⟩ ?_
  rintro ⟨p61, C62⟩ o62
  have o62 : OwnC (α := Int) 3 p61 2 ([(-1), 256]) C62 := o62
  dsimp only
  refine kw_nx (cw_ret (kw_nx_ret ?_))
  obtain rfl := sI H0
  exact kr Tryz.results30 (.cons (.cellN (us := [_, _, _, _, _, _, _, _, _]) ts34 rfl (Cells.box (id := 0) rfl 9 rfl)) (.cons (.tmp rfl) (rT rfl))) [1, 2, 3, 4] ⟨_, _, _, _, _, _, _, _, _, _, _, _, _, _, _, _, rfl, rfl, rfl, o6, rfl, o10, rfl, o14, rfl, o18⟩
 have H0 := cond_f H0 h60
 obtain ⟨x66, e66, H0⟩ := bS H0
 refine cw_skip (kw_nx (cw_seq (rdq g_mixed [2, 5, 6, 7] [0, 5, 6, 7] { dst := dS [37, 38, 39, 40, 41, 42, 0, 4, 5], pre := gA [] [[], [], [1], [], [], [3, 4], [0, 3, 4, 5], rn 0 7, rn 0 8], ids := gA [] [[], [], [], [], [27], [7], [0]], rs := rL [[(5, 0)], [(6, 0)], [(37, 2)], [(7, 0)], [], [(39, 4), (40, 5)], [(2, 0), (36, 1)], [(38, 3)], [(41, 6)]], rh := rL [[(5, 0)], [], [(6, 0)], [], [], [(7, 0), (27, 5)], [(0, 0)]], V := fun i g => gA undef [.agg #[.slice p3 ((x2.1.t.b).length) c5, .slice p7 ((x2.1.t.f).length) c9, .slice p11 ((x2.1.c.l).length) c13, .int .i64 x2.1.c.h, .int .i64 x2.1.g.c, .int .i64 x2.1.g.n, .int .i64 x2.1.g.r, .slice p15 ((x2.1.g.o).length) c17, .int .i64 x2.1.s], .pointer (some ⟨b20, 1, none⟩), .int .i64 x2.2.p, .pointer (some ⟨b21, 0, none⟩), .slice ((g 4).A 0) 5 5, .int .i64 x66.1, undef, .int .i64 x2.2.p, .int .i64 x66.1] i, U := fun i g => gA [] [[], [], [], [], [(27, ((g 4).R 0))], [(7, [(b21, .cells #[.slice p0_0 (((a0.take 2000)).length) c0_0, .int .i64 x66.2] 124 (0, 0))])], [(0, [(b1, .cells #[.slice p3 ((x2.1.t.b).length) c5, .slice p7 ((x2.1.t.f).length) c9, .slice p11 ((x2.1.c.l).length) c13, .int .i64 x2.1.c.h, .int .i64 x2.1.g.c, .int .i64 x2.1.g.n, .int .i64 x2.1.g.r, .slice p15 ((x2.1.g.o).length) c17, .int .i64 x2.1.s] 34 (0, 0))])]] i, Φ := fun i x => match i with | 4 => OwnC (α := Int) 3 (x.A 0) 5 ([1, 0, 2, 4, 8]) (x.R 0) | _ => True } ?_ ?_)))
 ·refine ⟨lc rfl rfl fun hs hh => stp_loadN (us := [_, _, _, _, _, _, _, _, _]) ts34 (sv hs 5 rfl) (Cells.box (id := 5) (hh.get 5 _ rfl) 9 rfl), lc rfl rfl fun hs hh => stp_fieldAddr (j := 1) Tryz.underlying47 rfl ts3 rfl (sv hs 6 rfl) rfl, lc rfl rfl fun hs hh => stp_load1 ts3 (sv hs 37 rfl) (Cells.box (id := 6) (hh.get 6 _ rfl) 1 rfl), lM, ?_, ?_, ?_, lS, lS, trivial⟩
  ·refine le rfl rfl (fun g hΦ s h hs hh => (stpU_lit (sz := 1) (l := [1, 0, 2, 4, 8]) [.int .i64 1, .int .i64 0, .int .i64 2, .int .i64 4, .int .i64 8] sl23 27 (sevp_cons rfl (sevp_cons rfl (sevp_cons rfl (sevp_cons rfl (sevp_cons rfl sevp_nil))))) rfl rfl rfl rfl rfl rfl rfl rfl rfl)) ?_
   rintro g _ _ ⟨p64, C65, rfl, rfl, o65⟩
   exact ⟨⟨[p64], [], [C65]⟩, o65, .inr rfl, rfl⟩
  ·refine le rfl rfl (fun g hΦ s h hs hh => (stpU_callM (fun i => bif Nat.beq i 0 then 7 else 28 + i) cf47 (fun w hw hb => c_s_l12Rd_num fl w b21 (a0.take 2000) x59.2 ([1, 0, 2, 4, 8]) rfl (RO.passM (RO.takeN 2000 hr0_0) hw hb) (by simp) (OwnC.passM (id := 27) (hh.get 27 _ rfl) (hΦ 4 rfl) hw hb ⟨rfl, trivial⟩) (hw.pass (js := [7]) ⟨7, [], rfl, (hh.get 7 _ rfl), trivial⟩ (by decide)) x66 e66) (yB (sv hs 39 rfl) (sv hs 40 rfl)) ⟨(hh.get 7 _ rfl), (fun _ _ hp => by obtain ⟨_, rfl⟩ := hp; exact ⟨_, rfl⟩), trivial⟩)) ?_
   rintro g _ _ ⟨_, ⟨rfl, rfl⟩, rfl⟩
   exact ⟨⟨[], [], []⟩, trivial, .inr rfl, rfl⟩
  refine le rfl rfl (fun g hΦ s h hs hh => (stpU_store (id := 0) (cs' := [.slice p3 ((x2.1.t.b).length) c5, .slice p7 ((x2.1.t.f).length) c9, .slice p11 ((x2.1.c.l).length) c13, .int .i64 x2.1.c.h, .int .i64 x2.1.g.c, .int .i64 x2.1.g.n, .int .i64 x2.1.g.r, .slice p15 ((x2.1.g.o).length) c17, .int .i64 x2.1.s]) ts34 (sv hs 2 rfl) (sv hs 36 rfl) (hh.get 0 _ rfl) rfl rfl rfl rfl)) ?_
  rintro g _ _ rfl
  exact ⟨⟨[], [], []⟩, trivial, .inl rfl, rfl⟩
 intro g hΦ
 refine kw_gen (ι := Option Addr × Res) (((g 4).A 0), ((g 4).R 0)) (fun | (p64, C65) => OwnC (α := Int) 3 p64 5 ([1, 0, 2, 4, 8]) C65) (fun | (p64, C65) => [(2, .pointer (some ⟨b1, 0, none⟩)), (3, .int .i64 x2.2.p), (4, .int .i64 x66.1)]) (fun | (p64, C65) => [(0, [(b1, .cells #[.slice p3 ((x2.1.t.b).length) c5, .slice p7 ((x2.1.t.f).length) c9, .slice p11 ((x2.1.c.l).length) c13, .int .i64 x2.1.c.h, .int .i64 x2.1.g.c, .int .i64 x2.1.g.n, .int .i64 x2.1.g.r, .slice p15 ((x2.1.g.o).length) c17, .int .i64 x2.1.s] 34 (0, 0))]), (1, C6), (2, C10), (3, C14), (4, C18)]) (hΦ 4 (by decide)) ⟨rfl, rfl, rfl, trivial⟩ ⟨rfl, rfl, rfl, rfl, rfl, trivial⟩ ?_
 rintro ⟨p64, C65⟩ o65
 have o65 : OwnC (α := Int) 3 p64 5 ([1, 0, 2, 4, 8]) C65 := o65
 dsimp only
 refine kw_nx (cw_ret ?_)
 obtain rfl := sI H0
 exact kr Tryz.results30 (.cons (.cellN (us := [_, _, _, _, _, _, _, _, _]) ts34 rfl (Cells.box (id := 0) rfl 9 rfl)) (.cons (.tmp rfl) (rT rfl))) [1, 2, 3, 4] ⟨_, _, _, _, _, _, _, _, _, _, _, _, _, _, _, _, rfl, rfl, rfl, o6, rfl, o10, rfl, o14, rfl, o18⟩

theorem c_i_TableValid (fl : Nat) (w : World) (a0 : T) (hn0_0 : n0_0 = (a0.b).length) (hr0_0 : RO w (hkeys []) (RdL p0_0 c0_0 a0.b)) (hn0_1 : n0_1 = (a0.f).length) (hr0_1 : RO w (hkeys []) (RdL p0_1 c0_1 a0.f)) (hg : RO w (hkeys []) (fun w' => w'.rangeAt 0 0 [.bool false, .int .i64 0, .int .i64 0, .int .i64 0, .int .i64 (-1)])) (r : Bool) (H0 : i_TableValid fl a0 = some r) :
    Ct Tryz.prog 54 [.agg #[.slice p0_0 n0_0 c0_0, .slice p0_1 n0_1 c0_1]] w [] (fun rv h' => rv = .bool r ∧ h' = []) := by
  obtain rfl := hn0_0
  obtain rfl := hn0_1
  unfold i_TableValid at H0
  obtain rfl := Option.some.inj H0
  exact ct_of_calls (tableValid_c _ a0 w ⟨_, _, rfl, (hr0_0 w (Fr.refl _ _)).rd, (hr0_1 w (Fr.refl _ _)).rd⟩ (freeG_of (hg w (Fr.refl _ _))))

theorem c_i_within (fl : Nat) (w : World) (a0 : Int) (a1 : Int) (r : Bool) (H0 : i_within fl a0 a1 = some r) :
  Ct Tryz.prog 79 [.int .i64 a0, .int .i64 a1] w [] (fun rv h' => rv = .bool r ∧ h' = []) := by
 unfold i_within at H0
 refine ct_of_cw Tryz.func79 rfl Tryz.ntmps79 rfl (Sat.refl _ _) ?_
 obtain ⟨y1, ey1, H0⟩ := bS H0
 refine sr (oS rfl (nn (sr (oM rfl (oI rfl (oM rfl (ow_cutY 4 11 y1 ?_ ?_)))))))
 ·rcases Bool.eq_false_or_eq_true (decide (0 ≤ a0)) with hy1 | hy1
  ·have ey1 := cond_t ey1 hy1
   refine oG rfl hy1 (mv rfl) rfl (oG rfl hy1 (mv rfl) rfl (oG rfl hy1 (stp_lss rfl rfl) rfl (oD (stp_pick_t rfl hy1 rfl) rfl ?_)))
   obtain rfl := sI ey1
   exact ow_nil (jy 4 0)
  have ey1 := cond_f ey1 hy1
  refine oO rfl hy1 rfl (oO rfl hy1 rfl (oO rfl hy1 rfl (oD (stp_pick_f rfl hy1 rfl) rfl ?_)))
  obtain rfl := sI ey1
  exact ow_nil (jy 4 0)
 refine oS rfl (nn (cw_ret ?_))
 obtain rfl := sI H0
 exact kr Tryz.results79 (rT rfl) [] ⟨rfl, rfl⟩

theorem c_i_tagValid (fl : Nat) (w : World) (a0 : Int) (r : Bool) (H0 : i_tagValid fl a0 = some r) :
  Ct Tryz.prog 148 [.int .i64 a0] w [] (fun rv h' => rv = .bool r ∧ h' = []) := by
 unfold i_tagValid at H0
 refine ct_of_cw Tryz.func148 rfl Tryz.ntmps148 rfl (Sat.refl _ _) ?_
 obtain ⟨y1, ey1, H0⟩ := bS H0
 refine sr (oS rfl (nn (sr (oM rfl (oI rfl (oM rfl (ow_cutY 3 8 y1 ?_ ?_)))))))
 ·rcases Bool.eq_false_or_eq_true (decide ((-1) ≤ a0)) with hy1 | hy1
  ·have ey1 := cond_t ey1 hy1
   refine oG rfl hy1 (mv rfl) rfl (oG rfl hy1 (stp_lss rfl rfl) rfl (oD (stp_pick_t rfl hy1 rfl) rfl ?_))
   obtain rfl := sI ey1
   exact ow_nil (jy 3 0)
  have ey1 := cond_f ey1 hy1
  refine oO rfl hy1 rfl (oO rfl hy1 rfl (oD (stp_pick_f rfl hy1 rfl) rfl ?_))
  obtain rfl := sI ey1
  exact ow_nil (jy 3 0)
 refine oS rfl (nn (cw_ret ?_))
 obtain rfl := sI H0
 exact kr Tryz.results148 (rT rfl) [] ⟨rfl, rfl⟩

theorem c_i_RightsValid (fl : Nat) (w : World) (a0 : Int) (r : Bool) (H0 : i_RightsValid fl a0 = some r) :
  Ct Tryz.prog 80 [.int .i64 a0] w [] (fun rv h' => rv = .bool r ∧ h' = []) := by
 unfold i_RightsValid at H0
 refine ct_of_cw Tryz.func80 rfl Tryz.ntmps80 rfl (Sat.refl _ _) ?_
 obtain ⟨x1, e1, H0⟩ := bS H0
 refine sr (oS rfl (nn (sr (oM rfl (oE (stpU_call (fun i => 0 + i) cf79 (fun w hw => c_i_within fl w a0 8 x1 e1) (yB rfl rfl)) rfl ?_)))))
 rintro _ _ ⟨_, ⟨rfl, rfl⟩, rfl⟩
 refine oS rfl (nn (cw_ret ?_))
 obtain rfl := sI H0
 exact kr Tryz.results80 (rT rfl) [] ⟨rfl, rfl⟩

theorem c_i_lineValid (fl : Nat) (w : World) (a0 : Ln) (r : Bool) (H0 : i_lineValid fl a0 = some r) :
  Ct Tryz.prog 111 [.agg #[.bool a0.va, .int .i64 a0.tg, .int .i64 a0.pg, .int .i64 a0.fr, .int .i64 a0.ri, .bool a0.wi]] w [] (fun rv h' => rv = .bool r ∧ h' = []) := by
 unfold i_lineValid at H0
 refine ct_of_cw Tryz.func111 rfl Tryz.ntmps111 rfl (Sat.refl _ _) ?_
 refine sr (oE (stpU_box 0 rfl rfl) rfl ?_)
 rintro _ _ ⟨b1, rfl, rfl⟩
 refine oS rfl (nn (cw_seq (sr (oA 0 Tryz.underlying41 rfl ts4 rfl (oL 0 ts4 rfl (oK rfl (nn (cw_cond rfl (fun h2 => ?_) (fun h2 => ?_)))))))))
 ·have H0 := cond_t H0 h2
  refine sr (oB6 0 ts41 rfl (oD (stp_build (cs := #[.bool false, .int .i64 0, .int .i64 0, .int .i64 0, .int .i64 0, .bool false]) sevp_nil bt41_11) rfl (oD (stp_eqlS te41 a0 (⟨false, 0, 0, 0, 0, false⟩ : Ln) rfl rfl) rfl (oS rfl (nn (cw_ret (kw_nx_ret ?_)))))))
  obtain rfl := sI H0
  exact kr Tryz.results111 (rT rfl) [] ⟨rfl, rfl⟩
 have H0 := cond_f H0 h2
 obtain ⟨x3, e3, H0⟩ := bS H0
 refine cw_skip (kw_nx (sr (oA 1 Tryz.underlying41 rfl ts3 rfl (oL 0 ts3 rfl (oE (stpU_call (fun i => 1 + i) cf148 (fun w hw => c_i_tagValid fl w a0.tg x3 e3) (yA rfl)) rfl ?_)))))
 rintro _ _ ⟨_, ⟨rfl, rfl⟩, rfl⟩
 obtain ⟨y4, ey4, H0⟩ := bS H0
 refine oM rfl (ow_cutY 4 16 y4 ?_ ?_)
 ·rcases Bool.eq_false_or_eq_true x3 with hy4 | hy4
  ·have ey4 := cond_t ey4 hy4
   obtain ⟨x5, e5, ey4⟩ := bS ey4
   refine oG rfl hy4 (fA 2 Tryz.underlying41 rfl ts3 rfl rfl rfl) rfl (oG rfl hy4 (lB 0 ts3 rfl rfl rfl) rfl (ow_eff (.some rfl hy4) (stpU_call (fun i => 1 + i) cf79 (fun w hw => c_i_within fl w a0.pg 256 x5 e5) (yB rfl rfl)) rfl ?_))
   rintro _ _ ⟨_, ⟨rfl, rfl⟩, rfl⟩
   refine oD (stp_pick_t rfl hy4 rfl) rfl ?_
   obtain rfl := sI ey4
   exact ow_nil (jy 4 0)
  have ey4 := cond_f ey4 hy4
  refine oO rfl hy4 rfl (oO rfl hy4 rfl (oO rfl hy4 rfl (oD (stp_pick_f rfl hy4 rfl) rfl ?_)))
  obtain rfl := sI ey4
  exact ow_nil (jy 4 0)
 obtain ⟨y6, ey6, H0⟩ := bS H0
 refine oM rfl (ow_cutY 4 21 y6 ?_ ?_)
 ·rcases Bool.eq_false_or_eq_true y4 with hy6 | hy6
  ·have ey6 := cond_t ey6 hy6
   obtain ⟨x7, e7, ey6⟩ := bS ey6
   refine oG rfl hy6 (fA 3 Tryz.underlying41 rfl ts3 rfl rfl rfl) rfl (oG rfl hy6 (lB 0 ts3 rfl rfl rfl) rfl (ow_eff (.some rfl hy6) (stpU_call (fun i => 1 + i) cf79 (fun w hw => c_i_within fl w a0.fr 16 x7 e7) (yB rfl rfl)) rfl ?_))
   rintro _ _ ⟨_, ⟨rfl, rfl⟩, rfl⟩
   refine oD (stp_pick_t rfl hy6 rfl) rfl ?_
   obtain rfl := sI ey6
   exact ow_nil (jy 4 0)
  have ey6 := cond_f ey6 hy6
  refine oO rfl hy6 rfl (oO rfl hy6 rfl (oO rfl hy6 rfl (oD (stp_pick_f rfl hy6 rfl) rfl ?_)))
  obtain rfl := sI ey6
  exact ow_nil (jy 4 0)
 obtain ⟨y8, ey8, H0⟩ := bS H0
 refine oM rfl (ow_cutY 4 26 y8 ?_ ?_)
 ·rcases Bool.eq_false_or_eq_true y6 with hy8 | hy8
  ·have ey8 := cond_t ey8 hy8
   obtain ⟨x9, e9, ey8⟩ := bS ey8
   refine oG rfl hy8 (fA 4 Tryz.underlying41 rfl ts3 rfl rfl rfl) rfl (oG rfl hy8 (lB 0 ts3 rfl rfl rfl) rfl (ow_eff (.some rfl hy8) (stpU_call (fun i => 1 + i) cf80 (fun w hw => c_i_RightsValid fl w a0.ri x9 e9) (yA rfl)) rfl ?_))
   rintro _ _ ⟨_, ⟨rfl, rfl⟩, rfl⟩
   refine oD (stp_pick_t rfl hy8 rfl) rfl ?_
   obtain rfl := sI ey8
   exact ow_nil (jy 4 0)
  have ey8 := cond_f ey8 hy8
  refine oO rfl hy8 rfl (oO rfl hy8 rfl (oO rfl hy8 rfl (oD (stp_pick_f rfl hy8 rfl) rfl ?_)))
  obtain rfl := sI ey8
  exact ow_nil (jy 4 0)
 refine oS rfl (nn (cw_ret ?_))
 obtain rfl := sI H0
 exact kr Tryz.results111 (rT rfl) [] ⟨rfl, rfl⟩

theorem c_i_clash (fl : Nat) (w : World) (a0 : Ln) (a1 : Ln) (r : Bool) (H0 : i_clash fl a0 a1 = some r) :
  Ct Tryz.prog 112 [.agg #[.bool a0.va, .int .i64 a0.tg, .int .i64 a0.pg, .int .i64 a0.fr, .int .i64 a0.ri, .bool a0.wi], .agg #[.bool a1.va, .int .i64 a1.tg, .int .i64 a1.pg, .int .i64 a1.fr, .int .i64 a1.ri, .bool a1.wi]] w [] (fun rv h' => rv = .bool r ∧ h' = []) := by
 unfold i_clash at H0
 refine ct_of_cw Tryz.func112 rfl Tryz.ntmps112 rfl (Sat.refl _ _) ?_
 refine sr (oE (stpU_box 0 rfl rfl) rfl ?_)
 rintro _ _ ⟨b1, rfl, rfl⟩
 refine oE (stpU_box 1 rfl rfl) rfl ?_
 rintro _ _ ⟨b2, rfl, rfl⟩
 obtain ⟨y3, ey3, H0⟩ := bS H0
 refine oS rfl (nn (sr (oA 0 Tryz.underlying41 rfl ts4 rfl (oL 0 ts4 rfl (oM rfl (ow_cutY 3 10 y3 ?_ ?_))))))
 ·rcases Bool.eq_false_or_eq_true a0.va with hy3 | hy3
  ·have ey3 := cond_t ey3 hy3
   refine oG rfl hy3 (fA 0 Tryz.underlying41 rfl ts4 rfl rfl rfl) rfl (oG rfl hy3 (lB 1 ts4 rfl rfl rfl) rfl (oD (stp_pick_t rfl hy3 rfl) rfl ?_))
   obtain rfl := sI ey3
   exact ow_nil (jy 3 0)
  have ey3 := cond_f ey3 hy3
  refine oO rfl hy3 rfl (oO rfl hy3 rfl (oD (stp_pick_f rfl hy3 rfl) rfl ?_))
  obtain rfl := sI ey3
  exact ow_nil (jy 3 0)
 obtain ⟨y4, ey4, H0⟩ := bS H0
 refine oM rfl (ow_cutY 6 17 y4 ?_ ?_)
 ·rcases Bool.eq_false_or_eq_true y3 with hy4 | hy4
  ·have ey4 := cond_t ey4 hy4
   refine oG rfl hy4 (fA 2 Tryz.underlying41 rfl ts3 rfl rfl rfl) rfl (oG rfl hy4 (lB 0 ts3 rfl rfl rfl) rfl (oG rfl hy4 (fA 2 Tryz.underlying41 rfl ts3 rfl rfl rfl) rfl (oG rfl hy4 (lB 1 ts3 rfl rfl rfl) rfl (oG rfl hy4 (stp_eql rfl rfl) rfl (oD (stp_pick_t rfl hy4 rfl) rfl ?_)))))
   obtain rfl := sI ey4
   exact ow_nil (jy 6 0)
  have ey4 := cond_f ey4 hy4
  refine oO rfl hy4 rfl (oO rfl hy4 rfl (oO rfl hy4 rfl (oO rfl hy4 rfl (oO rfl hy4 rfl (oD (stp_pick_f rfl hy4 rfl) rfl ?_)))))
  obtain rfl := sI ey4
  exact ow_nil (jy 6 0)
 obtain ⟨y5, ey5, H0⟩ := bS H0
 refine oM rfl (ow_cutY 16 34 y5 ?_ ?_)
 ·rcases Bool.eq_false_or_eq_true y4 with hy5 | hy5
  ·have ey5 := cond_t ey5 hy5
   obtain ⟨y6, ey6, ey5⟩ := bS ey5
   refine oG rfl hy5 (fA 1 Tryz.underlying41 rfl ts3 rfl rfl rfl) rfl (oG rfl hy5 (lB 0 ts3 rfl rfl rfl) rfl (oG rfl hy5 (fA 1 Tryz.underlying41 rfl ts3 rfl rfl rfl) rfl (oG rfl hy5 (lB 1 ts3 rfl rfl rfl) rfl (oG rfl hy5 (stp_eql rfl rfl) rfl (oG rfl hy5 (mv rfl) rfl (ow_cutY 4 28 y6 ?_ ?_))))))
   ·rcases Bool.eq_false_or_eq_true (a0.tg == a1.tg) with hy6 | hy6
    ·have ey6 := cond_t ey6 hy6
     refine oO rfl hy6 rfl (oO rfl hy6 rfl (oO rfl hy6 rfl (oG rfl hy5 (stp_pick_t rfl hy6 rfl) rfl ?_)))
     obtain rfl := sI ey6
     exact ow_nil (jy 4 0)
    have ey6 := cond_f ey6 hy6
    refine oG rfl hy6 (fA 1 Tryz.underlying41 rfl ts3 rfl rfl rfl) rfl (oG rfl hy6 (lB 0 ts3 rfl rfl rfl) rfl (oG rfl hy6 (stp_eql rfl rfl) rfl (oG rfl hy5 (stp_pick_f rfl hy6 rfl) rfl ?_)))
    obtain rfl := sI ey6
    exact ow_nil (jy 4 0)
   obtain ⟨y7, ey7, ey5⟩ := bS ey5
   refine oG rfl hy5 (mv rfl) rfl (ow_cutY 4 33 y7 ?_ ?_)
   ·rcases Bool.eq_false_or_eq_true y6 with hy7 | hy7
    ·have ey7 := cond_t ey7 hy7
     refine oO rfl hy7 rfl (oO rfl hy7 rfl (oO rfl hy7 rfl (oG rfl hy5 (stp_pick_t rfl hy7 rfl) rfl ?_)))
     obtain rfl := sI ey7
     exact ow_nil (jy 4 0)
    have ey7 := cond_f ey7 hy7
    refine oG rfl hy7 (fA 1 Tryz.underlying41 rfl ts3 rfl rfl rfl) rfl (oG rfl hy7 (lB 1 ts3 rfl rfl rfl) rfl (oG rfl hy7 (stp_eql rfl rfl) rfl (oG rfl hy5 (stp_pick_f rfl hy7 rfl) rfl ?_)))
    obtain rfl := sI ey7
    exact ow_nil (jy 4 0)
   refine oD (stp_pick_t rfl hy5 rfl) rfl ?_
   obtain rfl := sI ey5
   exact ow_nil (jy 10 0)
  have ey5 := cond_f ey5 hy5
  refine oO rfl hy5 rfl (oO rfl hy5 rfl (oO rfl hy5 rfl (oO rfl hy5 rfl (oO rfl hy5 rfl (oO rfl hy5 rfl (oX rfl rfl rfl (oX rfl rfl rfl (oX rfl rfl rfl (oO rfl hy5 rfl (oO rfl hy5 rfl (oX rfl rfl rfl (oX rfl rfl rfl (oX rfl rfl rfl ?_)))))))))))))
  refine oO rfl hy5 rfl (oD (stp_pick_f rfl hy5 rfl) rfl ?_)
  obtain rfl := sI ey5
  exact ow_nil (jy 16 0)
 refine oS rfl (nn (cw_ret ?_))
 obtain rfl := sI H0
 exact kr Tryz.results112 (rT rfl) [] ⟨rfl, rfl⟩

theorem c_i_CacheValid (fl : Nat) (w : World) (a0 : Ca) (hn0_0 : n0_0 = (a0.l).length) (hr0_0 : RO w (hkeys []) (RdL p0_0 c0_0 a0.l)) (r : Bool) (H0 : i_CacheValid fl a0 = some r) :
  Ct Tryz.prog 55 [.agg #[.slice p0_0 n0_0 c0_0, .int .i64 a0.h]] w [] (fun rv h' => rv = .bool r ∧ h' = []) := by
 subst hn0_0
 unfold i_CacheValid at H0
 refine ct_of_cw Tryz.func55 rfl Tryz.ntmps55 rfl (Sat.refl _ _) ?_
 refine sr (oE (stpU_box 0 rfl rfl) rfl ?_)
 rintro _ _ ⟨b1, rfl, rfl⟩
 obtain ⟨y2, ey2, H0⟩ := bS H0
 refine oS rfl (nn (sr (oA 0 Tryz.underlying29 rfl ts27 rfl (oL 0 ts27 rfl (oD (stp_len Tryz.underlying27 rfl) rfl (oS rfl (nn (cw_seq (sr (oM rfl (oW rfl (oM rfl (ow_cutY 3 17 y2 ?_ ?_)))))))))))))
 ·rcases Bool.eq_false_or_eq_true (decide (((a0.l).length : Int) < 1)) with hy2 | hy2
  ·have ey2 := cond_t ey2 hy2
   refine oO rfl hy2 rfl (oO rfl hy2 rfl (oD (stp_pick_t rfl hy2 rfl) rfl ?_))
   obtain rfl := sI ey2
   exact ow_nil (jy 3 0)
  have ey2 := cond_f ey2 hy2
  refine oG rfl hy2 (mv rfl) rfl (oG rfl hy2 (stp_gtr rfl rfl) rfl (oD (stp_pick_f rfl hy2 rfl) rfl ?_))
  obtain rfl := sI ey2
  exact ow_nil (jy 3 0)
 obtain ⟨y3, ey3, H0⟩ := bS H0
 refine oM rfl (ow_cutY 6 24 y3 ?_ ?_)
 ·rcases Bool.eq_false_or_eq_true y2 with hy3 | hy3
  ·have ey3 := cond_t ey3 hy3
   refine oO rfl hy3 rfl (oO rfl hy3 rfl (oO rfl hy3 rfl (oO rfl hy3 rfl (oO rfl hy3 rfl (oD (stp_pick_t rfl hy3 rfl) rfl ?_)))))
   obtain rfl := sI ey3
   exact ow_nil (jy 6 0)
  have ey3 := cond_f ey3 hy3
  obtain ⟨x4, e4, ey3⟩ := bS ey3
  refine oG rfl hy3 (fA 1 Tryz.underlying29 rfl ts3 rfl rfl rfl) rfl (oG rfl hy3 (lB 0 ts3 rfl rfl rfl) rfl (oG rfl hy3 (mv rfl) rfl (ow_eff (.some rfl hy3) (stpU_call (fun i => 1 + i) cf79 (fun w hw => c_i_within fl w a0.h ((a0.l).length : Int) x4 e4) (yB rfl rfl)) rfl ?_)))
  rintro _ _ ⟨_, ⟨rfl, rfl⟩, rfl⟩
  refine oG rfl hy3 (stp_not rfl) rfl (oD (stp_pick_f rfl hy3 rfl) rfl ?_)
  obtain rfl := sI ey3
  exact ow_nil (jy 6 0)
 refine ow_nil (kw_nx (cw_cond rfl (fun h5 => ?_) (fun h5 => ?_)))
 ·have H0 := cond_t H0 h5
  refine sr (oS rfl (nn (cw_ret (kw_nx_ret ?_))))
  obtain rfl := sI H0
  exact kr Tryz.results55 (rT rfl) [] ⟨rfl, rfl⟩
 have H0 := cond_f H0 h5
 obtain ⟨o0_0, eo0_0, H0⟩ := bS H0
 refine cw_skip (kw_nx (sr (oS rfl (nn (cw_seq (sr (oA 0 Tryz.underlying29 rfl ts27 rfl (oL 0 ts27 rfl (oD (stp_len Tryz.underlying27 rfl) rfl (oM rfl (nn (cw_join (ι := Int × Bool) (fun | (v6, v7) => o0_0 = .out (v6, v7)) (fun | (v6, v7) => [(1, .pointer (some ⟨b1, 0, none⟩)), (4, .bool v7), (26, .slice p0_0 ((a0.l).length) c0_0), (27, .int .i64 ((a0.l).length : Int)), (28, .int .i64 v6)]) (fun | (v6, v7) => [(0, [(b1, .cells #[.slice p0_0 ((a0.l).length) c0_0, .int .i64 a0.h] 29 (0, 0))])]) ?_ ?_))))))))))))
 ·refine cw_block (cw_loopS (ι := Nat × Int × Bool) (js := [0]) (fun x => x.1) (fun | (fuel, v6, v7) => i_CacheValid_L0 fl a0 fuel v6 v7 = some o0_0) (fun | (_, v6, v7) => [(1, .pointer (some ⟨b1, 0, none⟩)), (4, .bool v7), (26, .slice p0_0 ((a0.l).length) c0_0), (27, .int .i64 ((a0.l).length : Int)), (28, .int .i64 v6)]) (fun | (_, v6, v7) => [(0, [(b1, .cells #[.slice p0_0 ((a0.l).length) c0_0, .int .i64 a0.h] 29 (0, 0))])]) (fl, 0, false) eo0_0 ⟨rfl, rfl, rfl, rfl, rfl, trivial⟩ ⟨0, [], rfl, rfl, trivial⟩ (by decide) ?_)
  rintro ⟨fuel, v6, v7⟩ H1
  have H1 : i_CacheValid_L0 fl a0 fuel v6 v7 = some o0_0 := H1
  rcases fuel with _ | fuel
  ·rw [i_CacheValid_L0.eq_1] at H1; cases H1
  rw [i_CacheValid_L0.eq_2] at H1
  dsimp only
  refine sr (oW rfl (nn (cw_seq (cw_cond rfl (fun h8 => ?_) (fun h8 => ?_)))))
  ·have H1 := cond_t H1 h8
   obtain ⟨x9, e9, H1⟩ := bS H1
   refine cw_skip (kw_nx (cw_seq (cw_block (sr (oM rfl (oD (stp_indexAddr Tryz.underlying27 ts41 (by decide) rfl rfl rfl (Rdb.ro hr0_0) e9) rfl (oD (stp_loadN (us := [_, _, _, _, _, _]) ts41 rfl (Cells.el (Rdb.ro hr0_0) (by decide) e9 0 6 rfl)) rfl (oE (stpU_alloc 1 tz41 rfl) rfl ?_))))))))
   rintro _ _ ⟨b10, rfl, rfl⟩
   obtain ⟨x11, e11, H1⟩ := bS H1
   refine oS rfl (oC6 1 ts41 rfl rfl (nn (cw_seq (sr (oB6 1 ts41 rfl (oE (stpU_call (fun i => 2 + i) cf111 (fun w hw => c_i_lineValid fl w x9 x11 e11) (yA rfl)) rfl ?_))))))
   rintro _ _ ⟨_, ⟨rfl, rfl⟩, rfl⟩
   refine oK rfl (nn (cw_cond rfl (fun h12 => ?_) (fun h12 => ?_)))
   ·have H1 := cond_t H1 h12
    refine sr (oS rfl (nn (cw_ret (kw_nx_ret (kw_bl_ret (kw_nx_ret (kw_lq_ret (kw_bl_ret (kw_join_ret (kw_nx_ret ?_))))))))))
    obtain rfl := sI H1
    obtain rfl := sI H0
    exact kr Tryz.results55 (rT rfl) [] ⟨rfl, rfl⟩
   have H1 := cond_f H1 h12
   obtain ⟨x13, e13, H1⟩ := bS H1
   obtain ⟨o1_1, eo1_1, H1⟩ := bS H1
   refine cw_skip (kw_nx (cw_seq (sr (oA 0 Tryz.underlying29 rfl ts27 rfl (oL 0 ts27 rfl (oM rfl (oD (stp_take Tryz.underlying27 ts41 rfl rfl rfl (Rdb.ro hr0_0) e13) rfl (oD (stp_len Tryz.underlying27 rfl) rfl (oM rfl (nn (cw_join (ι := Int) (fun | v14 => o1_1 = .out v14) (fun | v14 => [(1, .pointer (some ⟨b1, 0, none⟩)), (4, .bool v7), (6, .pointer (some ⟨b10, 0, none⟩)), (26, .slice p0_0 ((a0.l).length) c0_0), (27, .int .i64 ((a0.l).length : Int)), (28, .int .i64 v6), (39, .slice p0_0 ((x13).length) c0_0), (40, .int .i64 ((x13).length : Int)), (41, .int .i64 v14)]) (fun | v14 => [(0, [(b1, .cells #[.slice p0_0 ((a0.l).length) c0_0, .int .i64 a0.h] 29 (0, 0))]), (1, [(b10, .cells #[.bool x9.va, .int .i64 x9.tg, .int .i64 x9.pg, .int .i64 x9.fr, .int .i64 x9.ri, .bool x9.wi] 41 (0, 0))])]) ?_ ?_)))))))))))
   ·refine cw_block (cw_loopS (ι := Nat × Int) (js := [0, 1]) (fun x => x.1) (fun | (fuel, v14) => i_CacheValid_L1 fl x9 x13 fuel v14 = some o1_1) (fun | (_, v14) => [(1, .pointer (some ⟨b1, 0, none⟩)), (4, .bool v7), (6, .pointer (some ⟨b10, 0, none⟩)), (26, .slice p0_0 ((a0.l).length) c0_0), (27, .int .i64 ((a0.l).length : Int)), (28, .int .i64 v6), (39, .slice p0_0 ((x13).length) c0_0), (40, .int .i64 ((x13).length : Int)), (41, .int .i64 v14)]) (fun | (_, v14) => [(0, [(b1, .cells #[.slice p0_0 ((a0.l).length) c0_0, .int .i64 a0.h] 29 (0, 0))]), (1, [(b10, .cells #[.bool x9.va, .int .i64 x9.tg, .int .i64 x9.pg, .int .i64 x9.fr, .int .i64 x9.ri, .bool x9.wi] 41 (0, 0))])]) (fl, 0) eo1_1 ⟨rfl, rfl, rfl, rfl, rfl, rfl, rfl, rfl, rfl, trivial⟩ ⟨0, [1], rfl, rfl, 1, [], rfl, rfl, trivial⟩ (by decide) ?_)
    rintro ⟨fuel, v14⟩ H2
    have H2 : i_CacheValid_L1 fl x9 x13 fuel v14 = some o1_1 := H2
    rcases fuel with _ | fuel
    ·rw [i_CacheValid_L1.eq_1] at H2; cases H2
    rw [i_CacheValid_L1.eq_2] at H2
    dsimp only
    refine sr (oW rfl (nn (cw_seq (cw_cond rfl (fun h15 => ?_) (fun h15 => ?_)))))
    ·have H2 := cond_t H2 h15
     obtain ⟨x16, e16, H2⟩ := bS H2
     refine cw_skip (kw_nx (cw_seq (cw_block (sr (oD (stp_indexAddr Tryz.underlying27 ts41 (by decide) rfl rfl rfl (Rdb.ro (RO.take hr0_0 e13)) e16) rfl (oD (stp_loadN (us := [_, _, _, _, _, _]) ts41 rfl (Cells.el (Rdb.ro (RO.take hr0_0 e13)) (by decide) e16 0 6 rfl)) rfl (oE (stpU_alloc 2 tz41 rfl) rfl ?_)))))))
     rintro _ _ ⟨b17, rfl, rfl⟩
     obtain ⟨x18, e18, H2⟩ := bS H2
     refine oC6 2 ts41 rfl rfl (nn (sr (oB6 1 ts41 rfl (oB6 2 ts41 rfl (oE (stpU_call (fun i => 3 + i) cf112 (fun w hw => c_i_clash fl w x9 x16 x18 e18) (yB rfl rfl)) rfl ?_)))))
     rintro _ _ ⟨_, ⟨rfl, rfl⟩, rfl⟩
     refine nn (cw_cond rfl (fun h19 => ?_) (fun h19 => ?_))
     ·have H2 := cond_t H2 h19
      refine sr (oS rfl (nn (cw_ret (kw_bl_ret (kw_nx_ret (kw_lq_ret (kw_bl_ret (kw_join_ret (kw_nx_ret (kw_bl_ret (kw_nx_ret (kw_lq_ret (kw_bl_ret ?_)))))))))))))
      refine kw_join_ret (kw_nx_ret ?_)
      obtain rfl := sI H2
      obtain rfl := sI H1
      obtain rfl := sI H0
      exact kr Tryz.results55 (rT rfl) [] ⟨rfl, rfl⟩
     have H2 := cond_f H2 h19
     obtain ⟨x20, e20, H2⟩ := bS H2
     exact cw_skip (kw_bl_normal (kw_nx (cw_region (oP e20 rfl (oM rfl (ow_nil (kw_lqS (js := [0, 1]) (fuel, x20) H2 (Nat.lt_succ_self _) ⟨rfl, rfl, rfl, rfl, rfl, rfl, rfl, rfl, rfl, trivial⟩ ⟨0, [1], rfl, rfl, 1, [], rfl, rfl, trivial⟩ (by decide))))))))
    have H2 := cond_f H2 h15
    refine cw_exit (kw_nx_exit (kw_lq_exit (kw_bl ?_)))
    obtain rfl := sI H2
    exact kw_joinS (js := [0, 1]) v14 rfl ⟨rfl, rfl, rfl, rfl, rfl, rfl, rfl, rfl, rfl, trivial⟩ ⟨0, [1], rfl, rfl, 1, [], rfl, rfl, trivial⟩ (by decide)
   rintro v14 rfl
   dsimp only
   obtain ⟨y21, ey21, H1⟩ := bS H1
   refine kw_nx (cw_region (oM rfl (oM rfl (ow_cutY 4 54 y21 ?_ ?_))))
   ·rcases Bool.eq_false_or_eq_true v7 with hy21 | hy21
    ·have ey21 := cond_t ey21 hy21
     refine oO rfl hy21 rfl (oO rfl hy21 rfl (oO rfl hy21 rfl (oD (stp_pick_t rfl hy21 rfl) rfl ?_)))
     obtain rfl := sI ey21
     exact ow_nil (jy 4 0)
    have ey21 := cond_f ey21 hy21
    refine oG rfl hy21 (fA 5 Tryz.underlying41 rfl ts4 rfl rfl rfl) rfl (oG rfl hy21 (lB 1 ts4 rfl rfl rfl) rfl (oG rfl hy21 (stp_not rfl) rfl (oD (stp_pick_f rfl hy21 rfl) rfl ?_)))
    obtain rfl := sI ey21
    exact ow_nil (jy 4 0)
   obtain ⟨x22, e22, H1⟩ := bS H1
   exact oS rfl (ow_nil (kw_bl_normal (kw_nx (cw_region (oP e22 rfl (oM rfl (ow_nil (kw_lqS (js := [0]) (fuel, x22, y21) H1 (Nat.lt_succ_self _) ⟨rfl, rfl, rfl, rfl, rfl, trivial⟩ ⟨0, [], rfl, rfl, trivial⟩ (by decide)))))))))
  have H1 := cond_f H1 h8
  refine cw_exit (kw_nx_exit (kw_lq_exit (kw_bl ?_)))
  obtain rfl := sI H1
  exact kw_joinS (js := [0]) (v6, v7) rfl ⟨rfl, rfl, rfl, rfl, rfl, trivial⟩ ⟨0, [], rfl, rfl, trivial⟩ (by decide)
 rintro ⟨v6, v7⟩ rfl
 dsimp only
 refine kw_nx (sr (oM rfl (oS rfl (nn (cw_ret ?_)))))
 obtain rfl := sI H0
 exact kr Tryz.results55 (rT rfl) [] ⟨rfl, rfl⟩

theorem c_i_TagsValid (fl : Nat) (w : World) (a0 : Tg) (hn0_0 : n0_0 = (a0.o).length) (hr0_0 : RO w (hkeys []) (RdL p0_0 c0_0 a0.o)) (r : Bool) (H0 : i_TagsValid fl a0 = some r) :
  Ct Tryz.prog 56 [.agg #[.int .i64 a0.c, .int .i64 a0.n, .int .i64 a0.r, .slice p0_0 n0_0 c0_0]] w [] (fun rv h' => rv = .bool r ∧ h' = []) := by
 subst hn0_0
 unfold i_TagsValid at H0
 refine ct_of_cw Tryz.func56 rfl Tryz.ntmps56 rfl (Sat.refl _ _) ?_
 refine sr (oE (stpU_box 0 rfl rfl) rfl ?_)
 rintro _ _ ⟨b1, rfl, rfl⟩
 obtain ⟨y2, ey2, H0⟩ := bS H0
 refine oS rfl (nn (cw_seq (sr (oA 0 Tryz.underlying32 rfl ts3 rfl (oL 0 ts3 rfl (oW rfl (oM rfl (ow_cutY 4 14 y2 ?_ ?_))))))))
 ·rcases Bool.eq_false_or_eq_true (decide (a0.c < 1)) with hy2 | hy2
  ·have ey2 := cond_t ey2 hy2
   refine oO rfl hy2 rfl (oO rfl hy2 rfl (oO rfl hy2 rfl (oD (stp_pick_t rfl hy2 rfl) rfl ?_)))
   obtain rfl := sI ey2
   exact ow_nil (jy 4 0)
  have ey2 := cond_f ey2 hy2
  refine oG rfl hy2 (fA 0 Tryz.underlying32 rfl ts3 rfl rfl rfl) rfl (oG rfl hy2 (lB 0 ts3 rfl rfl rfl) rfl (oG rfl hy2 (stp_gtr rfl rfl) rfl (oD (stp_pick_f rfl hy2 rfl) rfl ?_)))
  obtain rfl := sI ey2
  exact ow_nil (jy 4 0)
 obtain ⟨y3, ey3, H0⟩ := bS H0
 refine oM rfl (ow_cutY 4 19 y3 ?_ ?_)
 ·rcases Bool.eq_false_or_eq_true y2 with hy3 | hy3
  ·have ey3 := cond_t ey3 hy3
   refine oO rfl hy3 rfl (oO rfl hy3 rfl (oO rfl hy3 rfl (oD (stp_pick_t rfl hy3 rfl) rfl ?_)))
   obtain rfl := sI ey3
   exact ow_nil (jy 4 0)
  have ey3 := cond_f ey3 hy3
  refine oG rfl hy3 (fA 1 Tryz.underlying32 rfl ts3 rfl rfl rfl) rfl (oG rfl hy3 (lB 0 ts3 rfl rfl rfl) rfl (oG rfl hy3 (stp_lss rfl rfl) rfl (oD (stp_pick_f rfl hy3 rfl) rfl ?_)))
  obtain rfl := sI ey3
  exact ow_nil (jy 4 0)
 obtain ⟨y4, ey4, H0⟩ := bS H0
 refine oM rfl (ow_cutY 6 26 y4 ?_ ?_)
 ·rcases Bool.eq_false_or_eq_true y3 with hy4 | hy4
  ·have ey4 := cond_t ey4 hy4
   refine oO rfl hy4 rfl (oO rfl hy4 rfl (oO rfl hy4 rfl (oO rfl hy4 rfl (oO rfl hy4 rfl (oD (stp_pick_t rfl hy4 rfl) rfl ?_)))))
   obtain rfl := sI ey4
   exact ow_nil (jy 6 0)
  have ey4 := cond_f ey4 hy4
  refine oG rfl hy4 (fA 1 Tryz.underlying32 rfl ts3 rfl rfl rfl) rfl (oG rfl hy4 (lB 0 ts3 rfl rfl rfl) rfl (oG rfl hy4 (fA 0 Tryz.underlying32 rfl ts3 rfl rfl rfl) rfl (oG rfl hy4 (lB 0 ts3 rfl rfl rfl) rfl (oG rfl hy4 (stp_gtr rfl rfl) rfl (oD (stp_pick_f rfl hy4 rfl) rfl ?_)))))
  obtain rfl := sI ey4
  exact ow_nil (jy 6 0)
 obtain ⟨y5, ey5, H0⟩ := bS H0
 refine oM rfl (ow_cutY 4 31 y5 ?_ ?_)
 ·rcases Bool.eq_false_or_eq_true y4 with hy5 | hy5
  ·have ey5 := cond_t ey5 hy5
   refine oO rfl hy5 rfl (oO rfl hy5 rfl (oO rfl hy5 rfl (oD (stp_pick_t rfl hy5 rfl) rfl ?_)))
   obtain rfl := sI ey5
   exact ow_nil (jy 4 0)
  have ey5 := cond_f ey5 hy5
  refine oG rfl hy5 (fA 2 Tryz.underlying32 rfl ts3 rfl rfl rfl) rfl (oG rfl hy5 (lB 0 ts3 rfl rfl rfl) rfl (oG rfl hy5 (stp_lss rfl rfl) rfl (oD (stp_pick_f rfl hy5 rfl) rfl ?_)))
  obtain rfl := sI ey5
  exact ow_nil (jy 4 0)
 obtain ⟨y6, ey6, H0⟩ := bS H0
 refine oM rfl (ow_cutY 4 36 y6 ?_ ?_)
 ·rcases Bool.eq_false_or_eq_true y5 with hy6 | hy6
  ·have ey6 := cond_t ey6 hy6
   refine oO rfl hy6 rfl (oO rfl hy6 rfl (oO rfl hy6 rfl (oD (stp_pick_t rfl hy6 rfl) rfl ?_)))
   obtain rfl := sI ey6
   exact ow_nil (jy 4 0)
  have ey6 := cond_f ey6 hy6
  refine oG rfl hy6 (fA 2 Tryz.underlying32 rfl ts3 rfl rfl rfl) rfl (oG rfl hy6 (lB 0 ts3 rfl rfl rfl) rfl (oG rfl hy6 (stp_gtr rfl rfl) rfl (oD (stp_pick_f rfl hy6 rfl) rfl ?_)))
  obtain rfl := sI ey6
  exact ow_nil (jy 4 0)
 refine ow_nil (kw_nx (cw_cond rfl (fun h7 => ?_) (fun h7 => ?_)))
 ·have H0 := cond_t H0 h7
  refine sr (oS rfl (nn (cw_ret (kw_nx_ret ?_))))
  obtain rfl := sI H0
  exact kr Tryz.results56 (rT rfl) [] ⟨rfl, rfl⟩
 have H0 := cond_f H0 h7
 refine cw_skip (kw_nx (sr (oE (stpU_makeMap 1 3) rfl ?_)))
 rintro _ _ ⟨b8, C9, rfl, rfl, o9⟩
 obtain ⟨o0_0, eo0_0, H0⟩ := bS H0
 refine oS rfl (nn (sr (oS rfl (nn (cw_seq (sr (oA 3 Tryz.underlying32 rfl ts30 rfl (oL 0 ts30 rfl (oD (stp_len Tryz.underlying30 rfl) rfl (oM rfl (nn (cw_join (ι := (List Int) × Int × Int × Res) (fun | (v10, v12, v13, C11) => o0_0 = .out (v10, v12, v13) ∧ True ∧ OwnM Tryz.prog 3 b8 v10 C11) (fun | (v10, v12, v13, C11) => [(1, .pointer (some ⟨b1, 0, none⟩)), (3, .map (some b8)), (4, .int .i64 v12), (39, .slice p0_0 ((a0.o).length) c0_0), (40, .int .i64 ((a0.o).length : Int)), (41, .int .i64 v13)]) (fun | (v10, v12, v13, C11) => [(0, [(b1, .cells #[.int .i64 a0.c, .int .i64 a0.n, .int .i64 a0.r, .slice p0_0 ((a0.o).length) c0_0] 32 (0, 0))]), (1, C11)]) ?_ ?_))))))))))))
 ·refine cw_block (cw_loopS (ι := Nat × (List Int) × Int × Int × Res) (js := [0, 1]) (fun x => x.1) (fun | (fuel, v10, v12, v13, C11) => i_TagsValid_L0 fl a0 fuel v10 v12 v13 = some o0_0 ∧ True ∧ OwnM Tryz.prog 3 b8 v10 C11) (fun | (_, v10, v12, v13, C11) => [(1, .pointer (some ⟨b1, 0, none⟩)), (3, .map (some b8)), (4, .int .i64 v12), (39, .slice p0_0 ((a0.o).length) c0_0), (40, .int .i64 ((a0.o).length : Int)), (41, .int .i64 v13)]) (fun | (_, v10, v12, v13, C11) => [(0, [(b1, .cells #[.int .i64 a0.c, .int .i64 a0.n, .int .i64 a0.r, .slice p0_0 ((a0.o).length) c0_0] 32 (0, 0))]), (1, C11)]) (fl, ([] : List Int), (-1), 0, C9) ⟨eo0_0, trivial, o9⟩ ⟨rfl, rfl, rfl, rfl, rfl, rfl, trivial⟩ ⟨0, [1], rfl, rfl, 1, [], rfl, rfl, trivial⟩ (by decide) ?_)
  rintro ⟨fuel, v10, v12, v13, C11⟩ ⟨H1, hl11, o11⟩
  have H1 : i_TagsValid_L0 fl a0 fuel v10 v12 v13 = some o0_0 := H1
  rcases fuel with _ | fuel
  ·rw [i_TagsValid_L0.eq_1] at H1; cases H1
  rw [i_TagsValid_L0.eq_2] at H1
  dsimp only
  refine sr (oW rfl (nn (cw_seq (cw_cond rfl (fun h14 => ?_) (fun h14 => ?_)))))
  ·have H1 := cond_t H1 h14
   obtain ⟨x15, e15, H1⟩ := bS H1
   refine cw_skip (kw_nx (cw_seq (cw_block (sr (oD (stp_indexAddr Tryz.underlying30 ts118 (by decide) rfl rfl rfl (Rdb.ro hr0_0) e15) rfl (oD (stp_loadN (us := [_, _]) ts118 rfl (Cells.el (Rdb.ro hr0_0) (by decide) e15 0 2 rfl)) rfl (oE (stpU_alloc 2 tz118 rfl) rfl ?_)))))))
   rintro _ _ ⟨b16, rfl, rfl⟩
   obtain ⟨y17, ey17, H1⟩ := bS H1
   refine oC2 2 ts118 rfl rfl (nn (cw_seq (sr (oA 1 Tryz.underlying118 rfl ts3 rfl (oL 2 ts3 rfl (oM rfl (oV rfl (oM rfl (ow_cutY 6 55 y17 ?_ ?_)))))))))
   ·rcases Bool.eq_false_or_eq_true (decide (x15.tg ≤ v12)) with hy17 | hy17
    ·have ey17 := cond_t ey17 hy17
     refine oO rfl hy17 rfl (oO rfl hy17 rfl (oO rfl hy17 rfl (oO rfl hy17 rfl (oO rfl hy17 rfl (oD (stp_pick_t rfl hy17 rfl) rfl ?_)))))
     obtain rfl := sI ey17
     exact ow_nil (jy 6 0)
    have ey17 := cond_f ey17 hy17
    refine oG rfl hy17 (fA 1 Tryz.underlying118 rfl ts3 rfl rfl rfl) rfl (oG rfl hy17 (lB 2 ts3 rfl rfl rfl) rfl (oG rfl hy17 (fA 1 Tryz.underlying32 rfl ts3 rfl rfl rfl) rfl (oG rfl hy17 (lB 0 ts3 rfl rfl rfl) rfl (oG rfl hy17 (stp_geq rfl rfl) rfl (oD (stp_pick_f rfl hy17 rfl) rfl ?_)))))
    obtain rfl := sI ey17
    exact ow_nil (jy 6 0)
   obtain ⟨y18, ey18, H1⟩ := bS H1
   refine oM rfl (ow_cutY 5 61 y18 ?_ ?_)
   ·rcases Bool.eq_false_or_eq_true y17 with hy18 | hy18
    ·have ey18 := cond_t ey18 hy18
     refine oO rfl hy18 rfl (oO rfl hy18 rfl (oO rfl hy18 rfl (oO rfl hy18 rfl (oD (stp_pick_t rfl hy18 rfl) rfl ?_))))
     obtain rfl := sI ey18
     exact ow_nil (jy 5 0)
    have ey18 := cond_f ey18 hy18
    obtain ⟨x19, e19, ey18⟩ := bS ey18
    refine oG rfl hy18 (fA 0 Tryz.underlying118 rfl ts3 rfl rfl rfl) rfl (oG rfl hy18 (lB 2 ts3 rfl rfl rfl) rfl (ow_eff (.some rfl hy18) (stpU_call (fun i => 3 + i) cf79 (fun w hw => c_i_within fl w x15.sp 16 x19 e19) (yB rfl rfl)) rfl ?_))
    rintro _ _ ⟨_, ⟨rfl, rfl⟩, rfl⟩
    refine oG rfl hy18 (stp_not rfl) rfl (oD (stp_pick_f rfl hy18 rfl) rfl ?_)
    obtain rfl := sI ey18
    exact ow_nil (jy 5 0)
   obtain ⟨y20, ey20, H1⟩ := bS H1
   refine oM rfl (ow_cutY 5 67 y20 ?_ ?_)
   ·rcases Bool.eq_false_or_eq_true y18 with hy20 | hy20
    ·have ey20 := cond_t ey20 hy20
     refine oO rfl hy20 rfl (oO rfl hy20 rfl (oO rfl hy20 rfl (oO rfl hy20 rfl (oD (stp_pick_t rfl hy20 rfl) rfl ?_))))
     obtain rfl := sI ey20
     exact ow_nil (jy 5 0)
    have ey20 := cond_f ey20 hy20
    obtain ⟨x21, e21, ey20⟩ := bS ey20
    refine oG rfl hy20 (mv rfl) rfl (oG rfl hy20 (fA 0 Tryz.underlying118 rfl ts3 rfl rfl rfl) rfl (oG rfl hy20 (lB 2 ts3 rfl rfl rfl) rfl (oG rfl hy20 (stp_has (id := 1) keyInt isKeyInt Tryz.underlying133 tz4 rfl rfl rfl o11 e21) rfl (oD (stp_pick_f rfl hy20 rfl) rfl ?_))))
    obtain rfl := sI ey20
    exact ow_nil (jy 5 0)
   refine ow_nil (kw_nx (cw_cond rfl (fun h22 => ?_) (fun h22 => ?_)))
   ·have H1 := cond_t H1 h22
    refine sr (oS rfl (nn (cw_ret (kw_nx_ret (kw_bl_ret (kw_nx_ret (kw_lq_ret (kw_bl_ret (kw_join_ret (kw_nx_ret ?_))))))))))
    obtain rfl := sI H1
    obtain rfl := sI H0
    exact kr Tryz.results56 (rT rfl) [] ⟨rfl, rfl⟩
   have H1 := cond_f H1 h22
   obtain ⟨x23, e23, H1⟩ := bS H1
   refine cw_skip (kw_nx (sr (oA 1 Tryz.underlying118 rfl ts3 rfl (oL 2 ts3 rfl (oS rfl (nn (cw_region (oM rfl (oA 0 Tryz.underlying118 rfl ts3 rfl (oL 2 ts3 rfl (oF (stpU_add (id := 1) keyInt isKeyInt Tryz.underlying133 rfl rfl rfl rfl o11 e23) ?_)))))))))))
   rintro _ _ ⟨C24, rfl, o24⟩
   obtain ⟨x25, e25, H1⟩ := bS H1
   exact ow_nil (kw_bl_normal (kw_nx (cw_region (oP e25 rfl (oM rfl (ow_nil (kw_lqS (js := [0, 1]) (fuel, x23, x15.tg, x25, C24) ⟨H1, trivial, o24⟩ (Nat.lt_succ_self _) ⟨rfl, rfl, rfl, rfl, rfl, rfl, trivial⟩ ⟨0, [1], rfl, rfl, 1, [], rfl, rfl, trivial⟩ (by decide))))))))
  have H1 := cond_f H1 h14
  refine cw_exit (kw_nx_exit (kw_lq_exit (kw_bl ?_)))
  obtain rfl := sI H1
  exact kw_joinS (js := [0, 1]) (v10, v12, v13, C11) ⟨rfl, trivial, o11⟩ ⟨rfl, rfl, rfl, rfl, rfl, rfl, trivial⟩ ⟨0, [1], rfl, rfl, 1, [], rfl, rfl, trivial⟩ (by decide)
 rintro ⟨v10, v12, v13, C11⟩ ⟨rfl, hl11, o11⟩
 dsimp only
 refine kw_nx (sr (oS rfl (nn (cw_ret ?_))))
 obtain rfl := sI H0
 exact kr Tryz.results56 (rT rfl) [] ⟨rfl, rfl⟩

theorem c_i_Tags_own_1 (fl : Nat) (w : World) (a0 : Ow) (qc0 : Nat) (ac0 : Int) (hbac0 : RO w (hkeys []) (fun w' => w'.rangeAt qc0 0 [.int .i64 ac0])) (r : Bool) (H0 : i_Tags_own_1 fl a0 ac0 = some r) :
  Ct Tryz.prog 114 [.agg #[.int .i64 a0.sp, .int .i64 a0.tg], .pointer (some ⟨qc0, 0, none⟩)] w [] (fun rv h' => rv = .bool r ∧ h' = []) := by
 unfold i_Tags_own_1 at H0
 refine ct_of_cw Tryz.func114 rfl Tryz.ntmps114 rfl (Sat.refl _ _) ?_
 refine sr (oE (stpU_box 0 rfl rfl) rfl ?_)
 rintro _ _ ⟨b1, rfl, rfl⟩
 refine oS rfl (nn (sr (oA 0 Tryz.underlying118 rfl ts3 rfl (oL 0 ts3 rfl (oD (stp_load1 ts3 rfl (Cells.ofRO hbac0 1 rfl)) rfl (oQ rfl (oS rfl (nn (cw_ret ?_)))))))))
 obtain rfl := sI H0
 exact kr Tryz.results114 (rT rfl) [] ⟨rfl, rfl⟩

theorem c_slices_IndexFunc_Own_of_i_Tags_own_1 (fl : Nat) (w : World) (a0 : (List Ow)) (q1_0 : Nat) (a1_0 : Int) (hn0_0 : n0_0 = (a0).length) (hr0_0 : RO w (hkeys []) (RdL p0_0 c0_0 a0)) (hba1_0 : RO w (hkeys []) (fun w' => w'.rangeAt q1_0 0 [.int .i64 a1_0])) (r : Int) (H0 : slices_IndexFunc_Own_of_i_Tags_own_1 fl a0 a1_0 = some r) :
  Ct Tryz.prog 113 [.slice p0_0 n0_0 c0_0, .func (.func 114) #[] #[.pointer (some ⟨q1_0, 0, none⟩)]] w [] (fun rv h' => rv = .int .i64 r ∧ h' = []) := by
 subst hn0_0
 unfold slices_IndexFunc_Own_of_i_Tags_own_1 at H0
 refine ct_of_cw Tryz.func113 rfl Tryz.ntmps113 rfl (Sat.refl _ _) ?_
 obtain ⟨o0_0, eo0_0, H0⟩ := bS H0
 refine sr (oS rfl (nn (cw_seq (sr (oM rfl (oD (stp_len Tryz.underlying30 rfl) rfl (oM rfl (nn (cw_join (ι := Int) (fun | v1 => o0_0 = .out v1) (fun | v1 => [(0, .slice p0_0 ((a0).length) c0_0), (1, .func (.func 114) #[] #[.pointer (some ⟨q1_0, 0, none⟩)]), (7, .int .i64 ((a0).length : Int)), (8, .int .i64 v1)]) (fun | v1 => []) ?_ ?_)))))))))
 ·refine cw_block (cw_loopS (ι := Nat × Int) (js := []) (fun x => x.1) (fun | (fuel, v1) => slices_IndexFunc_Own_of_i_Tags_own_1_L0 fl a0 a1_0 fuel v1 = some o0_0) (fun | (_, v1) => [(0, .slice p0_0 ((a0).length) c0_0), (1, .func (.func 114) #[] #[.pointer (some ⟨q1_0, 0, none⟩)]), (7, .int .i64 ((a0).length : Int)), (8, .int .i64 v1)]) (fun | (_, v1) => []) (fl, 0) eo0_0 ⟨rfl, rfl, rfl, rfl, trivial⟩ trivial (by decide) ?_)
  rintro ⟨fuel, v1⟩ H1
  have H1 : slices_IndexFunc_Own_of_i_Tags_own_1_L0 fl a0 a1_0 fuel v1 = some o0_0 := H1
  rcases fuel with _ | fuel
  ·rw [slices_IndexFunc_Own_of_i_Tags_own_1_L0.eq_1] at H1; cases H1
  rw [slices_IndexFunc_Own_of_i_Tags_own_1_L0.eq_2] at H1
  dsimp only
  refine sr (oW rfl (nn (cw_seq (cw_cond rfl (fun h2 => ?_) (fun h2 => ?_)))))
  ·have H1 := cond_t H1 h2
   obtain ⟨x3, e3, H1⟩ := bS H1
   refine cw_skip (kw_nx (cw_seq (cw_block (sr (oM rfl (oS rfl (nn (sr (oM rfl (oM rfl (oM rfl (oD (stp_indexAddr Tryz.underlying30 ts118 (by decide) rfl rfl rfl (Rdb.ro hr0_0) e3) rfl (oD (stp_loadN (us := [_, _]) ts118 rfl (Cells.el (Rdb.ro hr0_0) (by decide) e3 0 2 rfl)) rfl ?_)))))))))))))
   obtain ⟨x4, e4, H1⟩ := bS H1
   refine oE (stpU_callF (vals := [_]) (ca := [_]) (fun i => 0 + i) cf114 (fun w hw => c_i_Tags_own_1 fl w x3 q1_0 a1_0 (RO.pass hba1_0 hw) x4 e4) rfl (yA rfl)) rfl ?_
   rintro _ _ ⟨_, ⟨rfl, rfl⟩, rfl⟩
   refine nn (cw_cond rfl (fun h5 => ?_) (fun h5 => ?_))
   ·have H1 := cond_t H1 h5
    refine sr (oM rfl (oS rfl (nn (cw_ret (kw_bl_ret (kw_nx_ret (kw_lq_ret (kw_bl_ret (kw_join_ret (kw_nx_ret ?_))))))))))
    obtain rfl := sI H1
    obtain rfl := sI H0
    exact kr Tryz.results113 (rT rfl) [] ⟨rfl, rfl⟩
   have H1 := cond_f H1 h5
   obtain ⟨x6, e6, H1⟩ := bS H1
   exact cw_skip (kw_bl_normal (kw_nx (cw_region (oP e6 rfl (oM rfl (ow_nil (kw_lqS (js := []) (fuel, x6) H1 (Nat.lt_succ_self _) ⟨rfl, rfl, rfl, rfl, trivial⟩ trivial (by decide))))))))
  have H1 := cond_f H1 h2
  refine cw_exit (kw_nx_exit (kw_lq_exit (kw_bl ?_)))
  obtain rfl := sI H1
  exact kw_joinS (js := []) v1 rfl ⟨rfl, rfl, rfl, rfl, trivial⟩ trivial (by decide)
 rintro v1 rfl
 dsimp only
 refine kw_nx (sr (oS rfl (nn (cw_ret ?_))))
 obtain rfl := sI H0
 exact kr Tryz.results113 (rT rfl) [] ⟨rfl, rfl⟩

theorem c_i_Tags_own (fl : Nat) (w : World) (a0 : Tg) (a1 : Int) (hn0_0 : n0_0 = (a0.o).length) (hr0_0 : RO w (hkeys []) (RdL p0_0 c0_0 a0.o)) (r : Int) (H0 : i_Tags_own fl a0 a1 = some r) :
  Ct Tryz.prog 57 [.agg #[.int .i64 a0.c, .int .i64 a0.n, .int .i64 a0.r, .slice p0_0 n0_0 c0_0], .int .i64 a1] w [] (fun rv h' => rv = .int .i64 r ∧ h' = []) := by
 subst hn0_0
 unfold i_Tags_own at H0
 refine ct_of_cw Tryz.func57 rfl Tryz.ntmps57 rfl (Sat.refl _ _) ?_
 refine sr (oE (stpU_box 0 rfl rfl) rfl ?_)
 rintro _ _ ⟨b1, rfl, rfl⟩
 refine oE (stpU_box 1 rfl rfl) rfl ?_
 rintro _ _ ⟨b2, rfl, rfl⟩
 obtain ⟨x3, e3, H0⟩ := bS H0
 refine oS rfl (nn (sr (oA 3 Tryz.underlying32 rfl ts30 rfl (oL 0 ts30 rfl (oD (stp_makeFunc (yA rfl)) rfl (oE (stpU_call (fun i => 2 + i) cf113 (fun w hw => c_slices_IndexFunc_Own_of_i_Tags_own_1 fl w a0.o b2 a1 rfl (RO.pass hr0_0 hw) (box_pass (id := 1) rfl hw) x3 e3) (yB rfl rfl)) rfl ?_))))))
 rintro _ _ ⟨_, ⟨rfl, rfl⟩, rfl⟩
 refine oS rfl (nn (cw_ret ?_))
 obtain rfl := sI H0
 exact kr Tryz.results57 (rT rfl) [] ⟨rfl, rfl⟩

theorem c_i_SpaceOf (fl : Nat) (w : World) (a0 : Tg) (a1 : Int) (hn0_0 : n0_0 = (a0.o).length) (hr0_0 : RO w (hkeys []) (RdL p0_0 c0_0 a0.o)) (r : Int × Bool) (H0 : i_SpaceOf fl a0 a1 = some r) :
  Ct Tryz.prog 58 [.agg #[.int .i64 a0.c, .int .i64 a0.n, .int .i64 a0.r, .slice p0_0 n0_0 c0_0], .int .i64 a1] w [] (fun rv h' => rv = .tuple #[.int .i64 r.1, .bool r.2] ∧ h' = []) := by
 subst hn0_0
 unfold i_SpaceOf at H0
 refine ct_of_cw Tryz.func58 rfl Tryz.ntmps58 rfl (Sat.refl _ _) ?_
 refine sr (oE (stpU_box 0 rfl rfl) rfl ?_)
 rintro _ _ ⟨b1, rfl, rfl⟩
 obtain ⟨x2, e2, H0⟩ := bS H0
 refine oS rfl (oS rfl (nn (cw_seq (sr (oB4 0 ts32 rfl (oE (stpU_call (fun i => 1 + i) cf56 (fun w hw => c_i_TagsValid fl w a0 rfl (RO.pass hr0_0 hw) x2 e2) (yA rfl)) rfl ?_))))))
 rintro _ _ ⟨_, ⟨rfl, rfl⟩, rfl⟩
 refine oK rfl (nn (cw_cond rfl (fun h3 => ?_) (fun h3 => ?_)))
 ·have H0 := cond_t H0 h3
  refine sr (oS rfl (oS rfl (nn (cw_ret (kw_nx_ret ?_)))))
  obtain rfl := sI H0
  exact kr Tryz.results58 (.cons (.tmp rfl) (rT rfl)) [] ⟨rfl, rfl⟩
 have H0 := cond_f H0 h3
 obtain ⟨o0_0, eo0_0, H0⟩ := bS H0
 refine cw_skip (kw_nx (cw_seq (sr (oA 3 Tryz.underlying32 rfl ts30 rfl (oL 0 ts30 rfl (oD (stp_len Tryz.underlying30 rfl) rfl (oM rfl (nn (cw_join (ι := Int) (fun | v4 => o0_0 = .out v4) (fun | v4 => [(1, .int .i64 a1), (12, .slice p0_0 ((a0.o).length) c0_0), (13, .int .i64 ((a0.o).length : Int)), (14, .int .i64 v4)]) (fun | v4 => []) ?_ ?_)))))))))
 ·refine cw_block (cw_loopS (ι := Nat × Int) (js := []) (fun x => x.1) (fun | (fuel, v4) => i_SpaceOf_L0 fl a0 a1 fuel v4 = some o0_0) (fun | (_, v4) => [(1, .int .i64 a1), (12, .slice p0_0 ((a0.o).length) c0_0), (13, .int .i64 ((a0.o).length : Int)), (14, .int .i64 v4)]) (fun | (_, v4) => []) (fl, 0) eo0_0 ⟨rfl, rfl, rfl, rfl, trivial⟩ trivial (by decide) ?_)
  rintro ⟨fuel, v4⟩ H1
  have H1 : i_SpaceOf_L0 fl a0 a1 fuel v4 = some o0_0 := H1
  rcases fuel with _ | fuel
  ·rw [i_SpaceOf_L0.eq_1] at H1; cases H1
  rw [i_SpaceOf_L0.eq_2] at H1
  dsimp only
  refine sr (oW rfl (nn (cw_seq (cw_cond rfl (fun h5 => ?_) (fun h5 => ?_)))))
  ·have H1 := cond_t H1 h5
   obtain ⟨x6, e6, H1⟩ := bS H1
   refine cw_skip (kw_nx (cw_seq (cw_block (sr (oD (stp_indexAddr Tryz.underlying30 ts118 (by decide) rfl rfl rfl (Rdb.ro hr0_0) e6) rfl (oD (stp_loadN (us := [_, _]) ts118 rfl (Cells.el (Rdb.ro hr0_0) (by decide) e6 0 2 rfl)) rfl (oE (stpU_alloc 1 tz118 rfl) rfl ?_)))))))
   rintro _ _ ⟨b7, rfl, rfl⟩
   refine oC2 1 ts118 rfl rfl (nn (sr (oA 1 Tryz.underlying118 rfl ts3 rfl (oL 1 ts3 rfl (oM rfl (oQ rfl (nn (cw_cond rfl (fun h8 => ?_) (fun h8 => ?_)))))))))
   ·have H1 := cond_t H1 h8
    refine sr (oA 0 Tryz.underlying118 rfl ts3 rfl (oL 1 ts3 rfl (oS rfl (oS rfl (nn (cw_ret (kw_bl_ret (kw_nx_ret (kw_lq_ret (kw_bl_ret (kw_join_ret (kw_nx_ret ?_))))))))))))
    obtain rfl := sI H1
    obtain rfl := sI H0
    exact kr Tryz.results58 (.cons (.tmp rfl) (rT rfl)) [] ⟨rfl, rfl⟩
   have H1 := cond_f H1 h8
   obtain ⟨x9, e9, H1⟩ := bS H1
   exact cw_skip (kw_bl_normal (kw_nx (cw_region (oP e9 rfl (oM rfl (ow_nil (kw_lqS (js := []) (fuel, x9) H1 (Nat.lt_succ_self _) ⟨rfl, rfl, rfl, rfl, trivial⟩ trivial (by decide))))))))
  have H1 := cond_f H1 h5
  refine cw_exit (kw_nx_exit (kw_lq_exit (kw_bl ?_)))
  obtain rfl := sI H1
  exact kw_joinS (js := []) v4 rfl ⟨rfl, rfl, rfl, rfl, trivial⟩ trivial (by decide)
 rintro v4 rfl
 dsimp only
 refine kw_nx (sr (oS rfl (oS rfl (nn (cw_ret ?_)))))
 obtain rfl := sI H0
 exact kr Tryz.results58 (.cons (.tmp rfl) (rT rfl)) [] ⟨rfl, rfl⟩

theorem c_i_KeyFor (fl : Nat) (w : World) (a0 : Int) (a1 : Int) (r : K) (H0 : i_KeyFor fl a0 a1 = some r) :
  Ct Tryz.prog 34 [.int .i64 a0, .int .i64 a1] w [] (fun rv h' => rv = .agg #[.int .i64 r.s, .int .i64 r.p] ∧ h' = []) := by
 unfold i_KeyFor at H0
 refine ct_of_cw Tryz.func34 rfl Tryz.ntmps34 rfl (Sat.refl _ _) ?_
 refine sr (oE (stpU_alloc 0 tz47 rfl) rfl ?_)
 rintro _ _ ⟨b1, rfl, rfl⟩
 refine nn (cw_seq (sr (oM rfl (oI rfl (nn (cw_cond rfl (fun h2 => ?_) (fun h2 => ?_)))))))
 ·have H0 := cond_t H0 h2
  refine cw_region (oS rfl (nn (sr (oM rfl (oM rfl (oD (stp_build (cs := #[.int .i64 0, .int .i64 a1]) (sevp_cons rfl (sevp_cons rfl sevp_nil)) bt47_13) rfl (oC2 0 ts47 rfl rfl (nn (cw_ret ?_)))))))))
  obtain rfl := sI H0
  exact kr Tryz.results34 (rC2 0 ts47 rfl rfl) [] ⟨rfl, rfl⟩
 have H0 := cond_f H0 h2
 refine cw_skip (kw_nx (sr (oM rfl (oM rfl (oD (stp_build (cs := #[.int .i64 a0, .int .i64 a1]) (sevp_cons rfl (sevp_cons rfl sevp_nil)) bt47_13) rfl (oC2 0 ts47 rfl rfl (nn (cw_ret ?_))))))))
 obtain rfl := sI H0
 exact kr Tryz.results34 (rC2 0 ts47 rfl rfl) [] ⟨rfl, rfl⟩

theorem c_i_Table_find_1 (fl : Nat) (w : World) (a0 : F) (qc0 : Nat) (ac0 : K) (hbac0 : RO w (hkeys []) (fun w' => w'.rangeAt qc0 0 [.int .i64 ac0.s, .int .i64 ac0.p])) (r : Bool) (H0 : i_Table_find_1 fl a0 ac0 = some r) :
  Ct Tryz.prog 116 [.agg #[.bool a0.u, .int .i64 a0.k.s, .int .i64 a0.k.p, .int .i64 a0.r, .int .i64 a0.nx], .pointer (some ⟨qc0, 0, none⟩)] w [] (fun rv h' => rv = .bool r ∧ h' = []) := by
 unfold i_Table_find_1 at H0
 refine ct_of_cw Tryz.func116 rfl Tryz.ntmps116 rfl (Sat.refl _ _) ?_
 refine sr (oE (stpU_box 0 rfl rfl) rfl ?_)
 rintro _ _ ⟨b1, rfl, rfl⟩
 obtain ⟨y2, ey2, H0⟩ := bS H0
 refine oS rfl (nn (sr (oA 0 Tryz.underlying58 rfl ts4 rfl (oL 0 ts4 rfl (oM rfl (ow_cutY 5 11 y2 ?_ ?_))))))
 ·rcases Bool.eq_false_or_eq_true a0.u with hy2 | hy2
  ·have ey2 := cond_t ey2 hy2
   refine oG rfl hy2 (fA 1 Tryz.underlying58 rfl ts47 rfl rfl rfl) rfl (oG rfl hy2 (stp_loadN (us := [_, _]) ts47 rfl (Cells.box (id := 0) rfl 2 rfl)) rfl (oG rfl hy2 (stp_loadN (us := [_, _]) ts47 rfl (Cells.ofRO hbac0 2 rfl)) rfl (oG rfl hy2 (stp_eqlS te47 a0.k ac0 rfl rfl) rfl (oD (stp_pick_t rfl hy2 rfl) rfl ?_))))
   obtain rfl := sI ey2
   exact ow_nil (jy 5 0)
  have ey2 := cond_f ey2 hy2
  refine oO rfl hy2 rfl (oO rfl hy2 rfl (oO rfl hy2 rfl (oO rfl hy2 rfl (oD (stp_pick_f rfl hy2 rfl) rfl ?_))))
  obtain rfl := sI ey2
  exact ow_nil (jy 5 0)
 refine oS rfl (nn (cw_ret ?_))
 obtain rfl := sI H0
 exact kr Tryz.results116 (rT rfl) [] ⟨rfl, rfl⟩
end Go.Proofs.YtkohlcjdagckhaaGreatDoor
