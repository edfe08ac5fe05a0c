/- The walks: functions of the program return what their pure functions say. Printed by a program (gen.py). -/
import Derived.Test.YtbfbfkpcabkchaaGreatDoorVp
import Derived.Test.YtbfbfkpcabkchaaGreatDoorVt
import Derived.Test.YtbfbfkpcabkchaaGreatDoorMan
import Derived.Test.YtbfbfkpcabkchaaGreatDoorMap
import Derived.Test.YtbfbfkpcabkchaaGreatDoorCpy
import Derived.Test.YtbfbfkpcabkchaaGreatDoorVe
import Derived.Test.YtbfbfkpcabkchaaGreatDoorVwab
import Derived.Test.YtbfbfkpcabkchaaGreatDoorVwac
import Derived.Test.YtbfbfkpcabkchaaGreatDoorVwad
import Derived.Test.YtbfbfkpcabkchaaGreatDoorVwaf
import Derived.Test.YtbfbfkpcabkchaaGreatDoorVwag
set_option linter.unusedSimpArgs false
set_option linter.unusedVariables false
set_option linter.unusedSectionVars false
namespace Go.Proofs.YtbfbfkpcabkchaaGreatDoor
open Go.RowKit
open Tryz
set_option maxHeartbeats 4000000
set_option maxRecDepth 20000
variable {p0_0 : Option Addr} {n0_0 : Nat} {c0_0 : Nat}
theorem c_l_FnUseTrace (fl : Nat) (w : World) (a0 : (List UInt8)) (hn0_0 : n0_0 = (a0).length) (hr0_0 : RO w [] (RdL p0_0 c0_0 a0)) (hg : RO w [] (fun w' => w'.rangeAt 0 0 [.bool false, I 0, I 0, I 0, I (-1)])) (r : Bool) (H0 : l_FnUseTrace fl a0 = some r) :
  Ct prog 5 [.slice p0_0 n0_0 c0_0] w [] (fun rv h' => rv = .bool r ∧ h' = []) := by
 subst hn0_0
 unfold l_FnUseTrace at H0
 refine ct_of_cw func5 J ntmps5 J (Sat.refl _ _) ?_
 refine sr (sq J (oM J (oD (stp_len u22 J) J (oJ J (nn (cH J H0 (fun H0 => ?_) (fun H0 => ?_)))))))
 ·refine sr (sr1 J (kR ?_))
  obtain rfl := sI H0
  exact kr results5 (rT J) [] ⟨J, J⟩
 obtain ⟨x2, e2, H0⟩ := bS H0
 refine ks (oM J (oE (uC 0 cf8 (fun w hw => c_s_DrawUsePages fl w a0 J (rp hr0_0 hw) x2 e2) (yA J)) J ?_))
 rintro _ _ ⟨_, ⟨p3, _, c5, C6, rfl, o6, p7, _, c9, C10, rfl, o10, p11, _, c13, C14, rfl, o14, p15, _, c17, C18, rfl, o18, p19, _, c21, C22, rfl, o22, p23, _, c25, C26, rfl, o26, rfl, rfl⟩, rfl⟩
 refine oMTT J J J (oE (stpU_alloc 6 tz37 J) J ?_)
 rintro _ _ ⟨b27, rfl, rfl⟩
 obtain ⟨x28, e28, H0⟩ := bS H0
 refine oC11 6 ts37 J J (ss J (oB11 6 ts37 J (oM J (oE (uC 7 cf9 (fun w hw => c_i_UsePages fl w x2.1 x2.2 J (owp 0 J o6 hw) J (owp 1 J o10 hw) J (owp 2 J o14 hw) J (owp 3 J o18 hw) J (owp 4 J o22 hw) J (owp 5 J o26 hw) (rp hg hw) x28 e28) (yB J J)) J ?_))))
 rintro _ _ ⟨_, ⟨p29, _, c31, C32, rfl, o32, p33, _, c35, C36, rfl, o36, p37, _, c39, C40, rfl, o40, p41, _, c43, C44, rfl, o44, p45, _, c47, C48, rfl, o48, p49, _, c51, C52, rfl, o52, rfl, rfl⟩, rfl⟩
 refine oMTT J J J (oT J (oE (stpU_alloc 13 tz37 J) J ?_))
 rintro _ _ ⟨b53, rfl, rfl⟩
 obtain ⟨x54, e54, H0⟩ := bS H0
 refine oC11 13 ts37 J J (oS J (ss J (oB11 6 ts37 J (oM J (oE (uC 14 cf10 (fun w hw => c_s_UsePages fl w x2.1 x2.2 J (owp 0 J o6 hw) J (owp 1 J o10 hw) J (owp 2 J o14 hw) J (owp 3 J o18 hw) J (owp 4 J o22 hw) J (owp 5 J o26 hw) x54 e54) (yB J J)) J ?_)))))
 rintro _ _ ⟨_, ⟨p55, _, c57, C58, rfl, o58, p59, _, c61, C62, rfl, o62, p63, _, c65, C66, rfl, o66, p67, _, c69, C70, rfl, o70, p71, _, c73, C74, rfl, o74, p75, _, c77, C78, rfl, o78, rfl, rfl⟩, rfl⟩
 refine oMTT J J J (oT J (oE (stpU_alloc 20 tz37 J) J ?_))
 rintro _ _ ⟨b79, rfl, rfl⟩
 obtain ⟨x80, e80, H0⟩ := bS H0
 refine oC11 20 ts37 J J (oS J (sq J (oB11 13 ts37 J (oB11 20 ts37 J (oE (uC 21 cf11 (fun w hw => c_i_MemorySame fl w x28.1 x54.1 J (owp 7 J o32 hw) J (owp 8 J o36 hw) J (owp 9 J o40 hw) J (owp 10 J o44 hw) J (owp 11 J o48 hw) J (owp 14 J o58 hw) J (owp 15 J o62 hw) J (owp 16 J o66 hw) J (owp 17 J o70 hw) J (owp 18 J o74 hw) x80 e80) (yB J J)) J ?_)))))
 rintro _ _ ⟨_, ⟨rfl, rfl⟩, rfl⟩
 obtain ⟨y81, ey81, H0⟩ := bS H0
 refine oK J (oM J (ow_cutY 5 49 y81 ?_ ?_))
 ·rcases Bool.eq_false_or_eq_true (!x80) with hy81 | hy81
  ·have ey81 := cond_t ey81 hy81
   refine oO J hy81 J (oO J hy81 J (oO J hy81 J (oO J hy81 J (oD (stp_pick_t J hy81 J) J ?_))))
   obtain rfl := sI ey81
   exact ow_nil (jy 5 0)
  have ey81 := cond_f ey81 hy81
  obtain ⟨x82, e82, ey81⟩ := bS ey81
  refine oG J hy81 (mv J) J (oG J hy81 (mv J) J (ow_eff (.some J hy81) (uC 21 cf12 (fun w hw => c_l_ipInts fl w x28.2.1 x54.2.1 J (owp 12 J o52 hw) J (owp 19 J o78 hw) x82 e82) (yB J J)) J ?_))
  rintro _ _ ⟨_, ⟨rfl, rfl⟩, rfl⟩
  refine oG J hy81 (stp_not J) J (oD (stp_pick_f J hy81 J) J ?_)
  obtain rfl := sI ey81
  exact ow_nil (jy 5 0)
 obtain ⟨y83, ey83, H0⟩ := bS H0
 refine oM J (ow_cutY 4 54 y83 ?_ ?_)
 ·rcases Bool.eq_false_or_eq_true y81 with hy83 | hy83
  ·have ey83 := cond_t ey83 hy83
   refine oO J hy83 J (oO J hy83 J (oO J hy83 J (oD (stp_pick_t J hy83 J) J ?_)))
   obtain rfl := sI ey83
   exact ow_nil (jy 4 0)
  have ey83 := cond_f ey83 hy83
  refine oG J hy83 (mv J) J (oG J hy83 (mv J) J (oG J hy83 (stp_neqB u4 J J) J (oD (stp_pick_f J hy83 J) J ?_)))
  obtain rfl := sI ey83
  exact ow_nil (jy 4 0)
 obtain ⟨y84, ey84, H0⟩ := bS H0
 refine oM J (ow_cutY 3 58 y84 ?_ ?_)
 ·rcases Bool.eq_false_or_eq_true y83 with hy84 | hy84
  ·have ey84 := cond_t ey84 hy84
   refine oO J hy84 J (oO J hy84 J (oD (stp_pick_t J hy84 J) J ?_))
   obtain rfl := sI ey84
   exact ow_nil (jy 3 0)
  have ey84 := cond_f ey84 hy84
  refine oG J hy84 (mv J) J (oG J hy84 (stp_not J) J (oD (stp_pick_f J hy84 J) J ?_))
  obtain rfl := sI ey84
  exact ow_nil (jy 3 0)
 refine ow_nil (kw_nx (cH J H0 (fun H0 => ?_) (fun H0 => ?_)))
 ·refine sr (oB11 13 ts37 J (oB11 20 ts37 J (oE (uC 21 cf11 (fun w hw => c_i_MemorySame fl w x28.1 x54.1 J (owp 7 J o32 hw) J (owp 8 J o36 hw) J (owp 9 J o40 hw) J (owp 10 J o44 hw) J (owp 11 J o48 hw) J (owp 14 J o58 hw) J (owp 15 J o62 hw) J (owp 16 J o66 hw) J (owp 17 J o70 hw) J (owp 18 J o74 hw) x80 e80) (yB J J)) J ?_)))
  rintro _ _ ⟨_, ⟨rfl, rfl⟩, rfl⟩
  obtain ⟨y86, ey86, H0⟩ := bS H0
  refine oM J (ow_cutY 4 66 y86 ?_ ?_)
  ·rcases Bool.eq_false_or_eq_true x80 with hy86 | hy86
   ·have ey86 := cond_t ey86 hy86
    obtain ⟨x87, e87, ey86⟩ := bS ey86
    refine oG J hy86 (mv J) J (oG J hy86 (mv J) J (ow_eff (.some J hy86) (uC 21 cf12 (fun w hw => c_l_ipInts fl w x28.2.1 x54.2.1 J (owp 12 J o52 hw) J (owp 19 J o78 hw) x87 e87) (yB J J)) J ?_))
    rintro _ _ ⟨_, ⟨rfl, rfl⟩, rfl⟩
    refine oD (stp_pick_t J hy86 J) J ?_
    obtain rfl := sI ey86
    exact ow_nil (jy 4 0)
   have ey86 := cond_f ey86 hy86
   refine oO J hy86 J (oO J hy86 J (oO J hy86 J (oD (stp_pick_f J hy86 J) J ?_)))
   obtain rfl := sI ey86
   exact ow_nil (jy 4 0)
  obtain ⟨y88, ey88, H0⟩ := bS H0
  refine oM J (ow_cutY 4 71 y88 ?_ ?_)
  ·rcases Bool.eq_false_or_eq_true y86 with hy88 | hy88
   ·have ey88 := cond_t ey88 hy88
    refine oG J hy88 (mv J) J (oG J hy88 (mv J) J (oG J hy88 (stp_eqlB u4 J J) J (oD (stp_pick_t J hy88 J) J ?_)))
    obtain rfl := sI ey88
    exact ow_nil (jy 4 0)
   have ey88 := cond_f ey88 hy88
   refine oO J hy88 J (oO J hy88 J (oO J hy88 J (oD (stp_pick_f J hy88 J) J ?_)))
   obtain rfl := sI ey88
   exact ow_nil (jy 4 0)
  refine sr1 J (kR ?_)
  obtain rfl := sI H0
  exact kr results5 (rT J) [] ⟨J, J⟩
 obtain ⟨o0_0, eo0_0, H0⟩ := bS H0
 refine ks (sq J (sn J (lp (fun f a b => l_FnUseTrace_L0 fl x2 f a b = some o0_0) (fun a b => o0_0 = .out (a, b)) (fun R s h => ∃ v89 v90, R v89 v90 ∧ s = [(3, .pointer (some ⟨b27, 0, none⟩)), (4, .slice p23 ((x2.2).length) c25), (6, .slice p49 ((x28.2.1).length) c51), (11, I v89), (12, I v90)] ∧ h = [(0, C6), (1, C10), (2, C14), (3, C18), (4, C22), (5, C26), (6, [(b27, .cells #[.slice p3 ((x2.1.m.t.b).length) c5, .slice p7 ((x2.1.m.t.f).length) c9, .slice p11 ((x2.1.m.c.l).length) c13, I x2.1.m.c.h, I x2.1.m.g.c, I x2.1.m.g.n, I x2.1.m.g.r, .slice p15 ((x2.1.m.g.o).length) c17, I x2.1.m.s, .slice p19 ((x2.1.k).length) c21, I x2.1.h] 37 (0, 0))]), (12, C52)]) ⟨_, _, eo0_0, J, J⟩ ?_ ?_)))
 ·rintro fuel _ _ ⟨v89, v90, H1, rfl, rfl⟩
  rcases fuel with _ | fuel
  ·rw [l_FnUseTrace_L0.eq_1] at H1; cases H1
  rw [l_FnUseTrace_L0.eq_2] at H1
  refine csr (oM J (oM J (oD (stp_len u23 J) J (oW J (nn (cH J H1 (fun H1 => ?_) (fun H1 => ?_)))))))
  ·obtain ⟨o1_1, eo1_1, H1⟩ := bS H1
   refine kq (cw_block (sr (sq J (sn J (lp (fun f a b => l_FnUseTrace_L1 fl x2 v90 f a b = some o1_1) (fun a b => o1_1 = .out (a, b)) (fun R s h => ∃ v92 v93, R v92 v93 ∧ s = [(3, .pointer (some ⟨b27, 0, none⟩)), (4, .slice p23 ((x2.2).length) c25), (6, .slice p49 ((x28.2.1).length) c51), (11, I v89), (12, I v90), (13, .bool v92), (14, I v93)] ∧ h = [(0, C6), (1, C10), (2, C14), (3, C18), (4, C22), (5, C26), (6, [(b27, .cells #[.slice p3 ((x2.1.m.t.b).length) c5, .slice p7 ((x2.1.m.t.f).length) c9, .slice p11 ((x2.1.m.c.l).length) c13, I x2.1.m.c.h, I x2.1.m.g.c, I x2.1.m.g.n, I x2.1.m.g.r, .slice p15 ((x2.1.m.g.o).length) c17, I x2.1.m.s, .slice p19 ((x2.1.k).length) c21, I x2.1.h] 37 (0, 0))]), (12, C52)]) ⟨_, _, eo1_1, J, J⟩ ?_ ?_)))))
   ·rintro fuel _ _ ⟨v92, v93, H2, rfl, rfl⟩
    try dsimp only at H2
    rcases fuel with _ | fuel
    ·rw [l_FnUseTrace_L1.eq_1] at H2; cases H2
    rw [l_FnUseTrace_L1.eq_2] at H2
    refine csr (oM J (oM J (oW J (nn (cH J H2 (fun H2 => ?_) (fun H2 => ?_))))))
    ·obtain ⟨y95, ey95, H2⟩ := bS H2
     refine kq (cw_block (rdt g_mixed (rn 0 13) ⟨[[],[],[],[],[5],[5],[],[],[5],[5]], [], []⟩ (dM J (dM J (dcY 10 94 y95 ?_ ?_)))))
     ·rcases Bool.eq_false_or_eq_true v92 with hy95 | hy95
      ·have ey95 := cond_t ey95 hy95
       obtain ⟨x96, e96, ey95⟩ := bS ey95
       obtain ⟨x97, e97, ey95⟩ := bS ey95
       refine dG J hy95 (mv J) (dG J hy95 (mv J) (dG J hy95 (stp_indexAddr u23 ts3 (by decide) J J J (Rdb.own (id := 5) J o26) e96) (dG J hy95 (stp_load1 ts3 J (Cells.el (Rdb.own (id := 5) J o26) (by decide) e96 0 1 J)) (dG J hy95 (mv J) (dG J hy95 (mv J) (dG J hy95 (stp_indexAddr u23 ts3 (by decide) J J J (Rdb.own (id := 5) J o26) e97) (dG J hy95 (stp_load1 ts3 J (Cells.el (Rdb.own (id := 5) J o26) (by decide) e97 0 1 J)) (dG J hy95 (stp_neq J J) (dD J (stp_pick_t J hy95 J) ?_)))))))))
       obtain rfl := sI ey95
       exact dy 10 0
      have ey95 := cond_f ey95 hy95
      refine dO J hy95 (dO J hy95 (dO J hy95 (dO J hy95 (dO J hy95 (dO J hy95 (dO J hy95 (dO J hy95 (dO J hy95 (dD J (stp_pick_f J hy95 J) ?_)))))))))
      obtain rfl := sI ey95
      exact dy 10 0
     obtain ⟨x98, e98, H2⟩ := bS H2
     exact dS J (dn (kb (cR (oM J (oP e98 J (oS J (ow_nil (ka ⟨_, _, H2, J, J⟩))))))))
    refine cw_exit (kw_nx_exit (ax (kw_bl ?_)))
    obtain rfl := sI H2
    exact kx ⟨_, _, J, J, J⟩
   rintro _ _ ⟨v92, v93, rfl, rfl, rfl⟩
   obtain ⟨x99, e99, H1⟩ := bS H1
   obtain ⟨x100, e100, H1⟩ := bS H1
   refine kw_nx (cq (rdt g_mixed (rn 0 19) ⟨[[],[],[6],[],[],[6],[],[],[5],[5],[],[0,1]], [], []⟩ (dA 0 J u37 J ts34 J (dA 0 J u34 J ts26 J (dB2 6 ts26 J (dA 0 J u37 J ts34 J (dA 8 J u34 J ts3 J (dL 6 ts3 J (dM J (dM J (dD J (stp_indexAddr u23 ts3 (by decide) J J J (Rdb.own (id := 5) J o26) e99) (dD J (stp_load1 ts3 J (Cells.el (Rdb.own (id := 5) J o26) (by decide) e99 0 1 J)) (dV J (fun hh => uC 21 cf16 (fun w hw => c_i_KeyFor fl w x2.1.m.s x99 x100 e100) (yB J J)) J ?_)))))))))))))
   obtain ⟨x101, e101, H1⟩ := bS H1
   obtain ⟨y102, ey102, H1⟩ := bS H1
   refine dV J (fun hh => uC 21 cf15 (fun w hw => c_i_FindPage fl w x2.1.m.t x100 J (owp 0 (hh _ _ J) o6 hw) J (owp 1 (hh _ _ J) o10 hw) (rp hg hw) x101 e101) (yB J J)) J (dM J (dT J (dT J (dT J (dS J (dS J (dS J (dn (kw_nx (sr (oM J (oM J (ow_cutY 3 115 y102 ?_ ?_)))))))))))))
   ·rcases Bool.eq_false_or_eq_true v92 with hy102 | hy102
    ·have ey102 := cond_t ey102 hy102
     refine oG J hy102 (mv J) J (oG J hy102 (stp_not J) J (oD (stp_pick_t J hy102 J) J ?_))
     obtain rfl := sI ey102
     exact ow_nil (jy 3 0)
    have ey102 := cond_f ey102 hy102
    refine oO J hy102 J (oO J hy102 J (oD (stp_pick_f J hy102 J) J ?_))
    obtain rfl := sI ey102
    exact ow_nil (jy 3 0)
   refine ow_nil (kw_nx (cH J H1 (fun H1 => ?_) (fun H1 => ?_)))
   ·obtain ⟨x104, e104, H1⟩ := bS H1
    obtain ⟨x105, e105, H1⟩ := bS H1
    exact cR (oM J (oP e104 J (oS J (ow_nil (kb (cR (oM J (oP e105 J (oS J (ow_nil (ka ⟨_, _, H1, J, J⟩)))))))))))
   obtain ⟨x106, e106, H1⟩ := bS H1
   exact cw_skip (kb (cR (oM J (oP e106 J (oS J (ow_nil (ka ⟨_, _, H1, J, J⟩)))))))
  refine cw_exit (kw_nx_exit (ax (kw_bl ?_)))
  obtain rfl := sI H1
  exact kx ⟨_, _, J, J, J⟩
 rintro _ _ ⟨v89, v90, rfl, rfl, rfl⟩
 obtain ⟨x107, e107, H0⟩ := bS H0
 refine kw_nx (sr (oM J (oD (stp_indexAddr u23 ts3 (by decide) J J J (Rdb.own (id := 12) J o52) e107) J (oD (stp_load1 ts3 J (Cells.el (Rdb.own (id := 12) J o52) (by decide) e107 0 1 J)) J (oM J (oI J (sn J (cw_ret ?_))))))))
 obtain rfl := sI H0
 exact kr results5 (rT J) [] ⟨J, J⟩
end Go.Proofs.YtbfbfkpcabkchaaGreatDoor
