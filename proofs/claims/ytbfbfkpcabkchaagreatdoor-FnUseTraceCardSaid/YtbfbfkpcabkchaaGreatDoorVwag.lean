/- The walks: functions of the program return what their pure functions say. Printed by a program (gen.py). -/
import Derived.Test.YtbfbfkpcabkchaaGreatDoorVp
import Derived.Test.YtbfbfkpcabkchaaGreatDoorVt
import Derived.Test.YtbfbfkpcabkchaaGreatDoorMan
import Derived.Test.YtbfbfkpcabkchaaGreatDoorMap
import Derived.Test.YtbfbfkpcabkchaaGreatDoorCpy
import Derived.Test.YtbfbfkpcabkchaaGreatDoorVe
import Derived.Test.YtbfbfkpcabkchaaGreatDoorVwaa
import Derived.Test.YtbfbfkpcabkchaaGreatDoorVwab
import Derived.Test.YtbfbfkpcabkchaaGreatDoorVwac
import Derived.Test.YtbfbfkpcabkchaaGreatDoorVws
set_option linter.unusedSimpArgs false
set_option linter.unusedVariables false
set_option linter.unusedSectionVars false
namespace Go.Proofs.YtbfbfkpcabkchaaGreatDoor
open Go.RowKit
open Tryz
set_option maxHeartbeats 4000000
set_option maxRecDepth 20000
variable {p0_0 p0_1 p0_2 p0_3 p0_4 p1_0 : Option Addr} {n0_0 n0_1 n0_2 n0_3 n0_4 n1_0 : Nat} {c0_0 c0_1 c0_2 c0_3 c0_4 c1_0 : Nat}
theorem c_s_DrawUsePages (fl : Nat) (w : World) (a0 : (List UInt8)) (hn0_0 : n0_0 = (a0).length) (hr0_0 : RO w [] (RdL p0_0 c0_0 a0)) (r : Mm × (List Int)) (H0 : s_DrawUsePages fl a0 = some r) :
  Ct prog 8 [.slice p0_0 n0_0 c0_0] w [] (fun rv h' => SL 3 r.1.m.t.b fun x0 y0 z0 C0 => SL 57 r.1.m.t.f fun x1 y1 z1 C1 => SL 104 r.1.m.c.l fun x2 y2 z2 C2 => SL 70 r.1.m.g.o fun x3 y3 z3 C3 => SL 4 r.1.k fun x4 y4 z4 C4 => SL 3 r.2 fun x5 y5 z5 C5 => rv = .tuple #[.agg #[.slice x0 y0 z0, .slice x1 y1 z1, .slice x2 y2 z2, I r.1.m.c.h, I r.1.m.g.c, I r.1.m.g.n, I r.1.m.g.r, .slice x3 y3 z3, I r.1.m.s, .slice x4 y4 z4, I r.1.h], .slice x5 y5 z5] ∧ h' = [(0, C0), (1, C1), (2, C2), (3, C3), (4, C4), (5, C5)]) := by
 subst hn0_0
 unfold s_DrawUsePages at H0
 refine ct_of_cw func8 J ntmps8 J (Sat.refl _ _) ?_
 refine sr (oE (stpU_alloc 0 tz37 J) J ?_)
 rintro _ _ ⟨b1, rfl, rfl⟩
 obtain ⟨x2, e2, H0⟩ := bS H0
 refine ss J (oM J (oE (uC 1 cf20 (fun w hw => c_s_l7Case fl w a0 J (rp hr0_0 hw) x2 e2) (yA J)) J ?_))
 rintro _ _ ⟨_, ⟨p3, _, c5, C6, rfl, o6, p7, _, c9, C10, rfl, o10, p11, _, c13, C14, rfl, o14, p15, _, c17, C18, rfl, o18, p19, _, c21, C22, rfl, o22, rfl, rfl⟩, rfl⟩
 refine oE (stpU_alloc 6 tz37 J) J ?_
 rintro _ _ ⟨b23, rfl, rfl⟩
 refine oC11 6 ts37 J J (ns (oM J (oE (uC 7 cf21 (fun w hw => c_open21 w a0 p0_0 ((a0).length) c0_0 J (RO.cap hr0_0).1) (yA J)) J ?_)))
 rintro _ _ ⟨_, ⟨b24, rfl, rfl⟩, rfl⟩
 obtain ⟨x25, e25, H0⟩ := bS H0
 refine ss J (oM J (oE (uM (fun i => bif Nat.beq i 0 then 7 else 8 + i) cf22 (fun w hw hb => c_s_l7Pages fl w b24 (a0.take 2000) 0 J (RO.passM (RO.takeN 2000 hr0_0) hw hb) (hw.pass (js := [7]) ⟨7, [], J, J, trivial⟩ (by decide)) x25 e25) (yA J) ⟨J, (fun _ _ hp => by obtain ⟨_, _, _, _, _, _, _, rfl⟩ := hp; exact ⟨_, J⟩), trivial⟩) J ?_))
 rintro _ _ ⟨_, ⟨p26, _, c28, C29, rfl, o29, rfl, rfl⟩, rfl⟩
 obtain ⟨x30, e30, H0⟩ := bS H0
 refine sq J (oM J (oE (uM (fun i => bif Nat.beq i 0 then 7 else 10 + i) cf23 (fun w hw hb => c_s_l12Rd_pick fl w b24 (a0.take 2000) x25.2 16 J (RO.passM (RO.takeN 2000 hr0_0) hw hb) (hw.pass (js := [7]) ⟨7, [], J, J, trivial⟩ (by decide)) x30 e30) (yB J J) ⟨J, (pI (fun _ _ h => h.2) J), trivial⟩) J ?_))
 rintro _ _ ⟨_, ⟨rfl, rfl⟩, rfl⟩
 refine oQ J (nn (cH J H0 (fun H0 => ?_) (fun H0 => ?_)))
 ·refine cR (oM J (oM J (oE (stpU_lit (sz := 1) (l := [(-1), 256]) [I (-1), I 256] sl23 11 (sP J (sP J sE)) J J J J J J J J J) J ?_)))
  rintro _ _ ⟨p32, C33, rfl, rfl, o33⟩
  obtain ⟨x34, e34, H0⟩ := bS H0
  refine oE (uM (fun i => bif Nat.beq i 0 then 7 else 12 + i) cf24 (fun w hw hb => c_s_l12Rd_num fl w b24 (a0.take 2000) x30.2 ([(-1), 256]) J (RO.passM (RO.takeN 2000 hr0_0) hw hb) (by simp) (OwnC.passM (id := 11) J o33 hw hb ⟨J, trivial⟩) (hw.pass (js := [7]) ⟨7, [], J, J, trivial⟩ (by decide)) x34 e34) (yB J J) ⟨J, (pI (fun _ _ h => h.2) J), trivial⟩) J ?_
  rintro _ _ ⟨_, ⟨rfl, rfl⟩, rfl⟩
  refine oE (stpU_lit (sz := 1) (l := [x34.1]) [I x34.1] sl23 13 (sP J sE) J J J J J J J J J) J ?_
  rintro _ _ ⟨p35, C36, rfl, rfl, o36⟩
  obtain ⟨x37, e37, H0⟩ := bS H0
  refine oE (stpU_append sl23 J (id := 9) J J J (by simp) J o29 (Rdb.own (id := 13) J o36) e37) J ?_
  rintro _ _ ⟨p38, c39, C40, rfl, rfl, o40⟩
  refine ss J (oB11 6 ts37 J (oM J (oC11 0 ts37 J J (sn J (cw_ret ?_)))))
  obtain rfl := sI H0
  exact kr results8 (.cons (.cellN (us := [_, _, _, _, _, _, _, _, _, _, _]) ts37 J (Cells.box (id := 0) J 11 J)) (rT J)) [1, 2, 3, 4, 5, 9] (sl J o6 (sl J o10 (sl J o14 (sl J o18 (sl J o22 (sl J o40 ⟨J, J⟩))))))
 refine ks (oB11 6 ts37 J (oM J (oC11 0 ts37 J J (sn J (cw_ret ?_)))))
 obtain rfl := sI H0
 exact kr results8 (.cons (.cellN (us := [_, _, _, _, _, _, _, _, _, _, _]) ts37 J (Cells.box (id := 0) J 11 J)) (rT J)) [1, 2, 3, 4, 5, 9] (sl J o6 (sl J o10 (sl J o14 (sl J o18 (sl J o22 (sl J o29 ⟨J, J⟩))))))

theorem c_i_UsePages (fl : Nat) (w : World) (a0 : Mm) (a1 : (List Int)) (hn0_0 : n0_0 = (a0.m.t.b).length) (hr0_0 : RO w [] (RdL p0_0 c0_0 a0.m.t.b)) (hn0_1 : n0_1 = (a0.m.t.f).length) (hr0_1 : RO w [] (RdL p0_1 c0_1 a0.m.t.f)) (hn0_2 : n0_2 = (a0.m.c.l).length) (hr0_2 : RO w [] (RdL p0_2 c0_2 a0.m.c.l)) (hn0_3 : n0_3 = (a0.m.g.o).length) (hr0_3 : RO w [] (RdL p0_3 c0_3 a0.m.g.o)) (hn0_4 : n0_4 = (a0.k).length) (hr0_4 : RO w [] (RdL p0_4 c0_4 a0.k)) (hn1_0 : n1_0 = (a1).length) (hr1_0 : RO w [] (RdL p1_0 c1_0 a1)) (hg : RO w [] (fun w' => w'.rangeAt 0 0 [.bool false, I 0, I 0, I 0, I (-1)])) (r : Mm × (List Int) × Bool) (H0 : i_UsePages fl a0 a1 = some r) :
  Ct prog 9 [.agg #[.slice p0_0 n0_0 c0_0, .slice p0_1 n0_1 c0_1, .slice p0_2 n0_2 c0_2, I a0.m.c.h, I a0.m.g.c, I a0.m.g.n, I a0.m.g.r, .slice p0_3 n0_3 c0_3, I a0.m.s, .slice p0_4 n0_4 c0_4, I a0.h], .slice p1_0 n1_0 c1_0] w [] (fun rv h' => SL 3 r.1.m.t.b fun x0 y0 z0 C0 => SL 57 r.1.m.t.f fun x1 y1 z1 C1 => SL 104 r.1.m.c.l fun x2 y2 z2 C2 => SL 70 r.1.m.g.o fun x3 y3 z3 C3 => SL 4 r.1.k fun x4 y4 z4 C4 => SL 3 r.2.1 fun x5 y5 z5 C5 => rv = .tuple #[.agg #[.slice x0 y0 z0, .slice x1 y1 z1, .slice x2 y2 z2, I r.1.m.c.h, I r.1.m.g.c, I r.1.m.g.n, I r.1.m.g.r, .slice x3 y3 z3, I r.1.m.s, .slice x4 y4 z4, I r.1.h], .slice x5 y5 z5, .bool r.2.2] ∧ h' = [(0, C0), (1, C1), (2, C2), (3, C3), (4, C4), (5, C5)]) := by
 subst hn0_0 hn0_1 hn0_2 hn0_3 hn0_4 hn1_0
 unfold i_UsePages at H0
 refine ct_of_cw func9 J ntmps9 J (Sat.refl _ _) ?_
 refine sr (oE (stpU_box 0 J J) J ?_)
 rintro _ _ ⟨b1, rfl, rfl⟩
 refine oE (stpU_alloc 1 tz37 J) J ?_
 rintro _ _ ⟨b2, rfl, rfl⟩
 obtain ⟨x3, e3, H0⟩ := bS H0
 refine oS J (sq J (oB11 0 ts37 J (oE (uC 2 cf14 (fun w hw => c_i_MemoryValid fl w a0 J (rp hr0_0 hw) J (rp hr0_1 hw) J (rp hr0_2 hw) J (rp hr0_3 hw) J (rp hr0_4 hw) (rp hg hw) x3 e3) (yA J)) J ?_)))
 rintro _ _ ⟨_, ⟨rfl, rfl⟩, rfl⟩
 obtain ⟨y4, ey4, H0⟩ := bS H0
 refine oK J (oM J (ow_cutY 4 22 y4 ?_ ?_))
 ·rcases Bool.eq_false_or_eq_true (!x3) with hy4 | hy4
  ·have ey4 := cond_t ey4 hy4
   refine oO J hy4 J (oO J hy4 J (oO J hy4 J (oD (stp_pick_t J hy4 J) J ?_)))
   obtain rfl := sI ey4
   exact ow_nil (jy 4 0)
  have ey4 := cond_f ey4 hy4
  refine oG J hy4 (mv J) J (oG J hy4 (stp_len u23 J) J (oG J hy4 (stp_gtr J J) J (oD (stp_pick_f J hy4 J) J ?_)))
  obtain rfl := sI ey4
  exact ow_nil (jy 4 0)
 refine ow_nil (kw_nx (cH J H0 (fun H0 => ?_) (fun H0 => ?_)))
 ·refine sr (oD (stp_build (cs := #[sN, sN, sN, I 0, I 0, I 0, I 0, sN, I 0, sN, I 0]) sE bt37_19) J (oC11 1 ts37 J J (oS J (sR J (kA 2 (kA 3 (kA 4 (kA 5 (kA 6 (kA 7 ?_))))))))))
  obtain rfl := sI H0
  exact kr results9 (.cons (.cellN (us := [_, _, _, _, _, _, _, _, _, _, _]) ts37 J (Cells.box (id := 1) J 11 J)) (.cons (.tmp J) (rT J))) [2, 3, 4, 5, 6, 7] (sl J oN0 (sl J oN0 (sl J oN0 (sl J oN0 (sl J oN0 (sl J oN0 ⟨J, J⟩))))))
 obtain ⟨x6, e6, H0⟩ := bS H0
 refine ks (oB11 0 ts37 J (oE (uC 8 cf25 (fun w hw => c_i_Memory_clone fl w a0 J (rp hr0_0 hw) J (rp hr0_1 hw) J (rp hr0_2 hw) J (rp hr0_3 hw) J (rp hr0_4 hw) x6 e6) (yA J)) J ?_))
 rintro _ _ ⟨_, ⟨p7, _, c9, C10, rfl, o10, p11, _, c13, C14, rfl, o14, p15, _, c17, C18, rfl, o18, p19, _, c21, C22, rfl, o22, p23, _, c25, C26, rfl, o26, rfl, rfl⟩, rfl⟩
 refine oE (stpU_alloc 13 tz37 J) J ?_
 rintro _ _ ⟨b27, rfl, rfl⟩
 obtain ⟨x28, e28, H0⟩ := bS H0
 refine oC11 13 ts37 J J (ns (oE (stpU_make sl23 J 14 J J e28) J ?_))
 rintro _ _ ⟨p29, C30, rfl, rfl, o30⟩
 obtain ⟨o0_0, eo0_0, H0⟩ := bS H0
 refine sq J (oM J (oD (stp_len u23 J) J (oM J (nn (lp (fun f a b c d e g i j k l m n p => i_UsePages_L0 fl a1 f a b c d e g i j k l m n p = some o0_0) (fun a b c d e g i j k l m n p => o0_0 = .out (a, b, c, d, e, g, i, j, k, l, m, n, p)) (fun R s h => ∃ v31 v36 v41 v42 v47 v48 v49 v50 v51 v56 v57 v62 v64 p32 n33 c34 C35 p37 n38 c39 C40 p43 n44 c45 C46 p52 n53 c54 C55 p58 n59 c60 C61 C63, R v31 v36 v41 v42 v47 v48 v49 v50 v51 v56 v57 v62 v64 ∧ s = [(4, .pointer (some ⟨b2, 0, none⟩)), (7, .pointer (some ⟨b27, 0, none⟩)), (8, .slice p29 x28 x28), (27, .slice p1_0 ((a1).length) c1_0), (28, I ((a1).length : Int)), (29, I v64)] ∧ h = [(1, [(b2, .cells #[sN, sN, sN, I 0, I 0, I 0, I 0, sN, I 0, sN, I 0] 37 (0, 0))]), (8, C35), (9, C40), (10, C46), (11, C55), (12, C61), (13, [(b27, .cells #[.slice p32 n33 c34, .slice p37 n38 c39, .slice p43 n44 c45, I v47, I v48, I v49, I v50, .slice p52 n53 c54, I v56, .slice p58 n59 c60, I v41] 37 (0, 0))]), (14, C63)] ∧ n33 = (v31).length ∧ OwnC 3 p32 c34 v31 C35 ∧ n38 = (v36).length ∧ OwnC 57 p37 c39 v36 C40 ∧ n44 = (v42).length ∧ OwnC 104 p43 c45 v42 C46 ∧ n53 = (v51).length ∧ OwnC 70 p52 c54 v51 C55 ∧ n59 = (v57).length ∧ OwnC 4 p58 c60 v57 C61 ∧ x28 = (v62).length ∧ OwnC 3 p29 x28 v62 C63) ⟨_, _, _, _, _, _, _, _, _, _, _, _, _, p7, ((x6.m.t.b).length), c9, C10, p11, ((x6.m.t.f).length), c13, C14, p15, ((x6.m.c.l).length), c17, C18, p19, ((x6.m.g.o).length), c21, C22, p23, ((x6.k).length), c25, C26, C30, eo0_0, J, J, J, o10, J, o14, J, o18, J, o22, J, o26, (by simp), o30⟩ ?_ ?_)))))
 ·rintro fuel _ _ ⟨v31, v36, v41, v42, v47, v48, v49, v50, v51, v56, v57, v62, v64, p32, _, c34, C35, p37, _, c39, C40, p43, _, c45, C46, p52, _, c54, C55, p58, _, c60, C61, C63, H1, rfl, rfl, rfl, o35, rfl, o40, rfl, o46, rfl, o55, rfl, o61, hl63, o63⟩
  rcases fuel with _ | fuel
  ·rw [i_UsePages_L0.eq_1] at H1; cases H1
  rw [i_UsePages_L0.eq_2] at H1
  refine sr (oW J (nn (cq (cH J H1 (fun H1 => ?_) (fun H1 => ?_)))))
  ·obtain ⟨x66, e66, H1⟩ := bS H1
   obtain ⟨x67, e67, H1⟩ := bS H1
   refine kq (cw_block (sr (oD (stp_indexAddr u23 ts3 (by decide) J J J (Rdb.ro hr1_0) e66) J (oD (stp_load1 ts3 J (Cells.el (Rdb.ro hr1_0) (by decide) e66 0 1 J)) J (ss J (oB11 13 ts37 J (oM J (oE (uC 15 cf18 (fun w hw => c_i_UsePage fl w (⟨(⟨(⟨v31, v36⟩ : T), (⟨v42, v47⟩ : Ca), (⟨v48, v49, v50, v51⟩ : Tg), v56⟩ : Mc), v57, v41⟩ : Mm) x66 1 1 J (owp 8 J o35 hw) J (owp 9 J o40 hw) J (owp 10 J o46 hw) J (owp 11 J o55 hw) J (owp 12 J o61 hw) (rp hg hw) x67 e67) (yD J J J J)) J ?_))))))))
   rintro _ _ ⟨_, ⟨p68, _, c70, C71, rfl, o71, p72, _, c74, C75, rfl, o75, p76, _, c78, C79, rfl, o79, p80, _, c82, C83, rfl, o83, p84, _, c86, C87, rfl, o87, rfl, rfl⟩, rfl⟩
   refine oMTT J J J (oT J (oT J (oE (stpU_alloc 20 tz37 J) J ?_)))
   rintro _ _ ⟨b88, rfl, rfl⟩
   refine oC11 20 ts37 J J (oS J (oS J (sq J (oM J (oK J (nn (cH J H1 (fun H1 => ?_) (fun H1 => ?_))))))))
   ·refine sr (oD (stp_build (cs := #[sN, sN, sN, I 0, I 0, I 0, I 0, sN, I 0, sN, I 0]) sE bt37_19) J (oC11 1 ts37 J J (oS J (sR J (kw_bl_ret (kR (ar (kw_bl_ret (xr (kR ?_))))))))))
    refine kA 21 (kA 22 (kA 23 (kA 24 (kA 25 (kA 26 ?_)))))
    obtain rfl := sI H1
    obtain rfl := sI H0
    exact kr results9 (.cons (.cellN (us := [_, _, _, _, _, _, _, _, _, _, _]) ts37 J (Cells.box (id := 1) J 11 J)) (.cons (.tmp J) (rT J))) [21, 22, 23, 24, 25, 26] (sl J oN0 (sl J oN0 (sl J oN0 (sl J oN0 (sl J oN0 (sl J oN0 ⟨J, J⟩))))))
   obtain ⟨x90, e90, H1⟩ := bS H1
   obtain ⟨x91, e91, H1⟩ := bS H1
   refine ks (oB11 20 ts37 J (oC11 13 ts37 J J (nn (cR (oM J (oM J (oD (stp_indexAddr u23 ts3 (by decide) J (by simp [hl63]) J (Rdb.own (id := 14) J o63) e90) J (oD (stp_load1 ts3 J (Cells.el (Rdb.own (id := 14) J o63) (by decide) e90 0 1 J)) J (oP e91 J (oD (stp_indexAddr u23 ts3 (by decide) J (by simp [hl63]) J (Rdb.own (id := 14) J o63) e90) J (oF (stpU_storeEl (id := 14) (i := 0) x91 (by decide) ts3 J J J o63 e90 J J J J) ?_)))))))))))
   rintro _ _ ⟨C92, rfl, o92⟩
   obtain ⟨x93, e93, H1⟩ := bS H1
   exact ow_nil (kb (cR (oP e93 J (oM J (ow_nil (kaS [1, 15, 16, 17, 18, 19, 13, 14] ⟨_, _, _, _, _, _, _, _, _, _, _, _, _, p68, ((x67.1.m.t.b).length), c70, C71, p72, ((x67.1.m.t.f).length), c74, C75, p76, ((x67.1.m.c.l).length), c78, C79, p80, ((x67.1.m.g.o).length), c82, C83, p84, ((x67.1.k).length), c86, C87, C92, H1, J, J, J, o71, J, o75, J, o79, J, o83, J, o87, (by simp [hl63]), o92⟩))))))
  refine cw_exit (kw_nx_exit (ax (kw_bl ?_)))
  obtain rfl := sI H1
  exact kx ⟨_, _, _, _, _, _, _, _, _, _, _, _, _, p32, ((v31).length), c34, C35, p37, ((v36).length), c39, C40, p43, ((v42).length), c45, C46, p52, ((v51).length), c54, C55, p58, ((v57).length), c60, C61, C63, J, J, J, J, o35, J, o40, J, o46, J, o55, J, o61, (by simp [hl63]), o63⟩
 rintro _ _ ⟨v31, v36, v41, v42, v47, v48, v49, v50, v51, v56, v57, v62, v64, p32, _, c34, C35, p37, _, c39, C40, p43, _, c45, C46, p52, _, c54, C55, p58, _, c60, C61, C63, rfl, rfl, rfl, rfl, o35, rfl, o40, rfl, o46, rfl, o55, rfl, o61, hl63, o63⟩
 refine kw_nx (sr (oB11 13 ts37 J (oM J (oC11 1 ts37 J J (oS J (sn J (cw_ret ?_)))))))
 obtain rfl := sI H0
 exact kr results9 (.cons (.cellN (us := [_, _, _, _, _, _, _, _, _, _, _]) ts37 J (Cells.box (id := 1) J 11 J)) (.cons (.tmp J) (rT J))) [8, 9, 10, 11, 12, 14] (sl J o35 (sl J o40 (sl J o46 (sl J o55 (sl J o61 (sl (by simp [hl63]) o63 ⟨J, J⟩))))))

theorem c_l_ipInts (fl : Nat) (w : World) (a0 : (List Int)) (a1 : (List Int)) (hn0_0 : n0_0 = (a0).length) (hr0_0 : RO w [] (RdL p0_0 c0_0 a0)) (hn1_0 : n1_0 = (a1).length) (hr1_0 : RO w [] (RdL p1_0 c1_0 a1)) (r : Bool) (H0 : l_ipInts fl a0 a1 = some r) :
  Ct prog 12 [.slice p0_0 n0_0 c0_0, .slice p1_0 n1_0 c1_0] w [] (fun rv h' => rv = .bool r ∧ h' = []) := by
 subst hn0_0 hn1_0
 unfold l_ipInts at H0
 refine ct_of_cw func12 J ntmps12 J (Sat.refl _ _) ?_
 refine sr (sq J (oM J (oD (stp_len u23 J) J (oM J (oD (stp_len u23 J) J (oU J (nn (cH J H0 (fun H0 => ?_) (fun H0 => ?_)))))))))
 ·refine sr (sr1 J (kR ?_))
  obtain rfl := sI H0
  exact kr results12 (rT J) [] ⟨J, J⟩
 obtain ⟨o0_0, eo0_0, H0⟩ := bS H0
 refine kq (sr (sn J (lp (fun f a => l_ipInts_L0 fl a0 a1 f a = some o0_0) (fun a => o0_0 = .out a) (fun R s h => ∃ v2, R v2 ∧ s = [(0, .slice p0_0 ((a0).length) c0_0), (1, .slice p1_0 ((a1).length) c1_0), (5, I v2)] ∧ h = []) ⟨_, eo0_0, J, J⟩ ?_ ?_)))
 ·rintro fuel _ _ ⟨v2, H1, rfl, rfl⟩
  rcases fuel with _ | fuel
  ·rw [l_ipInts_L0.eq_1] at H1; cases H1
  rw [l_ipInts_L0.eq_2] at H1
  refine csr (oM J (oM J (oD (stp_len u23 J) J (oW J (nn (cH J H1 (fun H1 => ?_) (fun H1 => ?_)))))))
  ·obtain ⟨x4, e4, H1⟩ := bS H1
   obtain ⟨x5, e5, H1⟩ := bS H1
   refine kq (cw_block (cq (rdt g_mixed (rn 0 9) ⟨[], [], []⟩ (dM J (dM J (dD J (stp_indexAddr u23 ts3 (by decide) J J J (Rdb.ro hr0_0) e4) (dD J (stp_load1 ts3 J (Cells.el (Rdb.ro hr0_0) (by decide) e4 0 1 J)) (dM J (dM J (dD J (stp_indexAddr u23 ts3 (by decide) J J J (Rdb.ro hr1_0) e5) (dD J (stp_load1 ts3 J (Cells.el (Rdb.ro hr1_0) (by decide) e5 0 1 J)) ?_)))))))))))
   refine dNe J (dn (kw_nx (cH J H1 (fun H1 => ?_) (fun H1 => ?_))))
   ·refine sr (sr1 J (kw_bl_ret (kR (ar (kw_bl_ret (xr (kR ?_)))))))
    obtain rfl := sI H1
    obtain rfl := sI H0
    exact kr results12 (rT J) [] ⟨J, J⟩
   obtain ⟨x7, e7, H1⟩ := bS H1
   exact cw_skip (kb (cR (oM J (oP e7 J (oS J (ow_nil (ka ⟨_, H1, J, J⟩)))))))
  refine cw_exit (kw_nx_exit (ax (kw_bl ?_)))
  obtain rfl := sI H1
  exact kx ⟨_, J, J, J⟩
 rintro _ _ ⟨v2, rfl, rfl, rfl⟩
 refine kw_nx (sr (sn J (cw_ret ?_)))
 obtain rfl := sI H0
 exact kr results12 (rT J) [] ⟨J, J⟩
end Go.Proofs.YtbfbfkpcabkchaaGreatDoor
