/- The walks: functions of the program return what their pure functions say. Printed by a program (gen.py). -/
import Derived.Test.YtfnliecmagnkdaaDoorGp
import Derived.Test.YtfnliecmagnkdaaDoorGt
import Derived.Test.YtfnliecmagnkdaaDoorMan
import Derived.Test.YtfnliecmagnkdaaDoorMap
import Derived.Test.YtfnliecmagnkdaaDoorCpy
import Derived.Test.YtfnliecmagnkdaaDoorClr
import Derived.Test.YtfnliecmagnkdaaDoorDp
import Derived.Test.YtfnliecmagnkdaaDoorSrt
import Derived.Test.YtfnliecmagnkdaaDoorE8
import Derived.Test.YtfnliecmagnkdaaDoorGwab
import Derived.Test.YtfnliecmagnkdaaDoorGwac
import Derived.Test.YtfnliecmagnkdaaDoorGwaf
import Derived.Test.YtfnliecmagnkdaaDoorGwam
import Derived.Test.YtfnliecmagnkdaaDoorGws
set_option linter.unusedSimpArgs false
set_option linter.unusedVariables false
set_option linter.unusedSectionVars false
namespace Go.Proofs.YtfnliecmagnkdaaDoor
open Go.RowKit
set_option maxHeartbeats 4000000
set_option maxRecDepth 20000
variable {p0_0 : Option Addr} {n0_0 : Nat} {c0_0 : Nat}
theorem c_s_DrawSystemValid (fl : Nat) (w : World) (a0 : (List UInt8)) (hn0_0 : n0_0 = (a0).length) (hr0_0 : RO w (hkeys []) (RdL p0_0 c0_0 a0)) (r : Sy) (H0 : s_DrawSystemValid fl a0 = some r) :
  Ct Tryd.prog 20 [.slice p0_0 n0_0 c0_0] w [] (fun rv h' => ∃ (x0 : Option Addr) (y0 z0 : Nat) (C0 : Res) (x1 : Option Addr) (y1 z1 : Nat) (C1 : Res) (x2 : Option Addr) (y2 z2 : Nat) (C2 : Res), rv = .agg #[.slice x0 y0 z0, .slice x1 y1 z1, .slice x2 y2 z2] ∧ h' = [(0, C0), (1, C1), (2, C2)] ∧ y0 = (r.t.b).length ∧ OwnC 3 x0 z0 r.t.b C0 ∧ y1 = (r.t.f).length ∧ OwnC 84 x1 z1 r.t.f C1 ∧ y2 = (r.c).length ∧ OwnD 44 48 x2 z2 r.c C2) := by
 subst hn0_0
 unfold s_DrawSystemValid at H0
 refine ct_of_cw Tryd.func20 rfl Tryd.ntmps20 rfl (Sat.refl _ _) ?_
 refine sr (oE (stpU_alloc 0 tz36 rfl) rfl ?_)
 rintro _ _ ⟨b1, rfl, rfl⟩
 refine nn (sr (oM rfl (oE (stpU_call (fun i => 1 + i) cf56 (fun w hw => c_open56 w a0 p0_0 ((a0).length) c0_0 rfl (RO.cap hr0_0).1) (yA rfl)) rfl ?_)))
 rintro _ _ ⟨_, ⟨b2, rfl, rfl⟩, rfl⟩
 obtain ⟨x3, e3, H0⟩ := bS H0
 refine oS rfl (nn (sr (oM rfl (oM rfl (oM rfl (oM rfl (oE (stpU_callM (fun i => bif Nat.beq i 0 then 1 else 2 + i) cf58 (fun w hw hb => c_s_l8Draw fl w b2 (a0.take 2000) 0 rfl (RO.passM (RO.takeN 2000 hr0_0) hw hb) (hw.pass (js := [1]) ⟨1, [], rfl, rfl, trivial⟩ (by decide)) x3 e3) (yA rfl) ⟨rfl, (fun _ _ hp => by obtain ⟨_, _, _, _, _, _, _, _, _, _, _, _, _, rfl, _⟩ := hp; exact ⟨_, rfl⟩), trivial⟩) rfl ?_)))))))
 rintro _ _ ⟨_, ⟨p4, _, c6, C7, p8, _, c10, C11, p12, _, c14, C15, rfl, rfl, rfl, o7, rfl, o11, rfl, o15⟩, rfl⟩
 obtain ⟨x16, e16, H0⟩ := bS H0
 refine oE (stpU_callM (fun i => bif Nat.beq i 0 then 1 else 6 + i) cf57 (fun w hw hb => c_s_l8Wrong fl w b2 (a0.take 2000) x3.2 x3.1 rfl (RO.passM (RO.takeN 2000 hr0_0) hw hb) rfl (OwnC.passM (id := 3) rfl o7 hw hb ⟨rfl, trivial⟩) rfl (OwnC.passM (id := 4) rfl o11 hw hb ⟨rfl, trivial⟩) rfl (OwnD.passM (id := 5) rfl o15 hw hb ⟨rfl, trivial⟩) (hw.pass (js := [1]) ⟨1, [], rfl, rfl, trivial⟩ (by decide)) x16 e16) (yB rfl rfl) ⟨rfl, (fun _ _ hp => by obtain ⟨_, _, _, _, _, _, _, _, _, _, _, _, _, rfl, _⟩ := hp; exact ⟨_, rfl⟩), trivial⟩) rfl ?_
 rintro _ _ ⟨_, ⟨p17, _, c19, C20, p21, _, c23, C24, p25, _, c27, C28, rfl, rfl, rfl, o20, rfl, o24, rfl, o28⟩, rfl⟩
 obtain ⟨x29, e29, H0⟩ := bS H0
 refine oE (stpU_callM (fun i => bif Nat.beq i 0 then 1 else 10 + i) cf57 (fun w hw hb => c_s_l8Wrong fl w b2 (a0.take 2000) x16.2 x16.1 rfl (RO.passM (RO.takeN 2000 hr0_0) hw hb) rfl (OwnC.passM (id := 7) rfl o20 hw hb ⟨rfl, trivial⟩) rfl (OwnC.passM (id := 8) rfl o24 hw hb ⟨rfl, trivial⟩) rfl (OwnD.passM (id := 9) rfl o28 hw hb ⟨rfl, trivial⟩) (hw.pass (js := [1]) ⟨1, [], rfl, rfl, trivial⟩ (by decide)) x29 e29) (yB rfl rfl) ⟨rfl, (fun _ _ hp => by obtain ⟨_, _, _, _, _, _, _, _, _, _, _, _, _, rfl, _⟩ := hp; exact ⟨_, rfl⟩), trivial⟩) rfl ?_
 rintro _ _ ⟨_, ⟨p30, _, c32, C33, p34, _, c36, C37, p38, _, c40, C41, rfl, rfl, rfl, o33, rfl, o37, rfl, o41⟩, rfl⟩
 obtain ⟨x42, e42, H0⟩ := bS H0
 refine oE (stpU_callM (fun i => bif Nat.beq i 0 then 1 else 14 + i) cf57 (fun w hw hb => c_s_l8Wrong fl w b2 (a0.take 2000) x29.2 x29.1 rfl (RO.passM (RO.takeN 2000 hr0_0) hw hb) rfl (OwnC.passM (id := 11) rfl o33 hw hb ⟨rfl, trivial⟩) rfl (OwnC.passM (id := 12) rfl o37 hw hb ⟨rfl, trivial⟩) rfl (OwnD.passM (id := 13) rfl o41 hw hb ⟨rfl, trivial⟩) (hw.pass (js := [1]) ⟨1, [], rfl, rfl, trivial⟩ (by decide)) x42 e42) (yB rfl rfl) ⟨rfl, (fun _ _ hp => by obtain ⟨_, _, _, _, _, _, _, _, _, _, _, _, _, rfl, _⟩ := hp; exact ⟨_, rfl⟩), trivial⟩) rfl ?_
 rintro _ _ ⟨_, ⟨p43, _, c45, C46, p47, _, c49, C50, p51, _, c53, C54, rfl, rfl, rfl, o46, rfl, o50, rfl, o54⟩, rfl⟩
 refine oC3 0 ts36 rfl rfl (nn (cw_ret ?_))
 obtain rfl := sI H0
 exact kr Tryd.results20 (rC3 0 ts36 rfl rfl) [15, 16, 17] ⟨_, _, _, _, _, _, _, _, _, _, _, _, rfl, rfl, rfl, o46, rfl, o50, rfl, o54⟩

theorem c_l_FnSystemValid (fl : Nat) (w : World) (a0 : (List UInt8)) (hn0_0 : n0_0 = (a0).length) (hr0_0 : RO w (hkeys []) (RdL p0_0 c0_0 a0)) (hg : RO w (hkeys []) (fun w' => w'.rangeAt 0 0 [.bool false, .int .i64 0, .int .i64 0, .int .i64 0, .int .i64 (-1)])) (r : Bool) (H0 : l_FnSystemValid fl a0 = some r) :
  Ct Tryd.prog 4 [.slice p0_0 n0_0 c0_0] w [] (fun rv h' => rv = .bool r ∧ h' = []) := by
 subst hn0_0
 unfold l_FnSystemValid at H0
 refine ct_of_cw Tryd.func4 rfl Tryd.ntmps4 rfl (Sat.refl _ _) ?_
 refine sr (oS rfl (nn (cw_seq (sr (oM rfl (oD (stp_len Tryd.underlying40 rfl) rfl (oJ rfl (nn (cw_cond rfl (fun h1 => ?_) (fun h1 => ?_))))))))))
 ·have H0 := cond_t H0 h1
  refine sr (oS rfl (nn (cw_ret (kw_nx_ret ?_))))
  obtain rfl := sI H0
  exact kr Tryd.results4 (rT rfl) [] ⟨rfl, rfl⟩
 have H0 := cond_f H0 h1
 obtain ⟨x2, e2, H0⟩ := bS H0
 refine cw_skip (kw_nx (sr (oM rfl (oE (stpU_call (fun i => 0 + i) cf20 (fun w hw => c_s_DrawSystemValid fl w a0 rfl (RO.pass hr0_0 hw) x2 e2) (yA rfl)) rfl ?_))))
 rintro _ _ ⟨_, ⟨p3, _, c5, C6, p7, _, c9, C10, p11, _, c13, C14, rfl, rfl, rfl, o6, rfl, o10, rfl, o14⟩, rfl⟩
 refine oE (stpU_alloc 3 tz36 rfl) rfl ?_
 rintro _ _ ⟨b15, rfl, rfl⟩
 obtain ⟨x16, e16, H0⟩ := bS H0
 refine oC3 3 ts36 rfl rfl (nn (sr (oB3 3 ts36 rfl (oE (stpU_call (fun i => 4 + i) cf18 (fun w hw => c_i_SystemValid fl w x2 rfl (OwnC.pass (id := 0) rfl o6 hw) rfl (OwnC.pass (id := 1) rfl o10 hw) rfl (OwnD.pass (id := 2) rfl o14 hw) (RO.pass hg hw) x16 e16) (yA rfl)) rfl ?_))))
 rintro _ _ ⟨_, ⟨rfl, rfl⟩, rfl⟩
 obtain ⟨x17, e17, H0⟩ := bS H0
 refine oS rfl (nn (cw_seq (sr (oM rfl (oB3 3 ts36 rfl (oE (stpU_call (fun i => 4 + i) cf16 (fun w hw => c_s_SystemValid fl w x2 rfl (OwnC.pass (id := 0) rfl o6 hw) rfl (OwnC.pass (id := 1) rfl o10 hw) rfl (OwnD.pass (id := 2) rfl o14 hw) x17 e17) (yA rfl)) rfl ?_))))))
 rintro _ _ ⟨_, ⟨rfl, rfl⟩, rfl⟩
 obtain ⟨y18, ey18, H0⟩ := bS H0
 refine oD (stp_neqB Tryd.underlying4 rfl rfl) rfl (oM rfl (ow_cutY 3 27 y18 ?_ ?_))
 ·rcases Bool.eq_false_or_eq_true (x16 != x17) with hy18 | hy18
  ·have ey18 := cond_t ey18 hy18
   refine oO rfl hy18 rfl (oO rfl hy18 rfl (oD (stp_pick_t rfl hy18 rfl) rfl ?_))
   obtain rfl := sI ey18
   exact ow_nil (jy 3 0)
  have ey18 := cond_f ey18 hy18
  refine oG rfl hy18 (mv rfl) rfl (oG rfl hy18 (stp_not rfl) rfl (oD (stp_pick_f rfl hy18 rfl) rfl ?_))
  obtain rfl := sI ey18
  exact ow_nil (jy 3 0)
 refine ow_nil (kw_nx (cw_cond rfl (fun h19 => ?_) (fun h19 => ?_)))
 ·have H0 := cond_t H0 h19
  refine sr (oM rfl (oB3 3 ts36 rfl (oE (stpU_call (fun i => 4 + i) cf16 (fun w hw => c_s_SystemValid fl w x2 rfl (OwnC.pass (id := 0) rfl o6 hw) rfl (OwnC.pass (id := 1) rfl o10 hw) rfl (OwnD.pass (id := 2) rfl o14 hw) x17 e17) (yA rfl)) rfl ?_)))
  rintro _ _ ⟨_, ⟨rfl, rfl⟩, rfl⟩
  refine oD (stp_eqlB Tryd.underlying4 rfl rfl) rfl (oS rfl (nn (cw_ret (kw_nx_ret ?_))))
  obtain rfl := sI H0
  exact kr Tryd.results4 (rT rfl) [] ⟨rfl, rfl⟩
 have H0 := cond_f H0 h19
 obtain ⟨o0_0, eo0_0, H0⟩ := bS H0
 refine cw_skip (kw_nx (cw_seq (sr (oS rfl (nn (cw_join (ι := Int) (fun | v20 => o0_0 = .out v20) (fun | v20 => [(3, .pointer (some ⟨b15, 0, none⟩)), (5, .int .i64 v20)]) (fun | v20 => [(0, C6), (1, C10), (2, C14), (3, [(b15, .cells #[.slice p3 ((x2.t.b).length) c5, .slice p7 ((x2.t.f).length) c9, .slice p11 ((x2.c).length) c13] 36 (0, 0))])]) ?_ ?_))))))
 ·refine cw_block (cw_loopS (ι := Nat × Int) (js := [0, 1, 2, 3]) (fun x => x.1) (fun | (fuel, v20) => l_FnSystemValid_L0 fl x2 fuel v20 = some o0_0) (fun | (_, v20) => [(3, .pointer (some ⟨b15, 0, none⟩)), (5, .int .i64 v20)]) (fun | (_, v20) => [(0, C6), (1, C10), (2, C14), (3, [(b15, .cells #[.slice p3 ((x2.t.b).length) c5, .slice p7 ((x2.t.f).length) c9, .slice p11 ((x2.c).length) c13] 36 (0, 0))])]) (fl, 0) eo0_0 ⟨rfl, rfl, trivial⟩ ⟨0, [1, 2, 3], rfl, rfl, 1, [2, 3], rfl, rfl, 2, [3], rfl, rfl, 3, [], rfl, rfl, trivial⟩ (by decide) ?_)
  rintro ⟨fuel, v20⟩ H1
  have H1 : l_FnSystemValid_L0 fl x2 fuel v20 = some o0_0 := H1
  rcases fuel with _ | fuel
  ·rw [l_FnSystemValid_L0.eq_1] at H1; cases H1
  rw [l_FnSystemValid_L0.eq_2] at H1
  dsimp only
  refine cw_seq (sr (oM rfl (oA 2 Tryd.underlying36 rfl ts34 rfl (oL 3 ts34 rfl (oD (stp_len Tryd.underlying34 rfl) rfl (oW rfl (nn (cw_cond rfl (fun h21 => ?_) (fun h21 => ?_)))))))))
  ·have H1 := cond_t H1 h21
   obtain ⟨o1_1, eo1_1, H1⟩ := bS H1
   refine cw_skip (kw_nx (cw_seq (cw_block (sr (oS rfl (nn (cw_join (ι := Int) (fun | v22 => o1_1 = .out v22) (fun | v22 => [(3, .pointer (some ⟨b15, 0, none⟩)), (5, .int .i64 v20), (6, .int .i64 v22)]) (fun | v22 => [(0, C6), (1, C10), (2, C14), (3, [(b15, .cells #[.slice p3 ((x2.t.b).length) c5, .slice p7 ((x2.t.f).length) c9, .slice p11 ((x2.c).length) c13] 36 (0, 0))])]) ?_ ?_)))))))
   ·refine cw_block (cw_loopS (ι := Nat × Int) (js := [0, 1, 2, 3]) (fun x => x.1) (fun | (fuel, v22) => l_FnSystemValid_L1 fl x2 v20 fuel v22 = some o1_1) (fun | (_, v22) => [(3, .pointer (some ⟨b15, 0, none⟩)), (5, .int .i64 v20), (6, .int .i64 v22)]) (fun | (_, v22) => [(0, C6), (1, C10), (2, C14), (3, [(b15, .cells #[.slice p3 ((x2.t.b).length) c5, .slice p7 ((x2.t.f).length) c9, .slice p11 ((x2.c).length) c13] 36 (0, 0))])]) (fl, 0) eo1_1 ⟨rfl, rfl, rfl, trivial⟩ ⟨0, [1, 2, 3], rfl, rfl, 1, [2, 3], rfl, rfl, 2, [3], rfl, rfl, 3, [], rfl, rfl, trivial⟩ (by decide) ?_)
    rintro ⟨fuel, v22⟩ H2
    have H2 : l_FnSystemValid_L1 fl x2 v20 fuel v22 = some o1_1 := H2
    rcases fuel with _ | fuel
    ·rw [l_FnSystemValid_L1.eq_1] at H2; cases H2
    rw [l_FnSystemValid_L1.eq_2] at H2
    dsimp only
    obtain ⟨x23, e23, H2⟩ := bS H2
    refine cw_seq (sr (oM rfl (oA 2 Tryd.underlying36 rfl ts34 rfl (oL 3 ts34 rfl (oM rfl ?_)))))
    obtain ⟨u24, p25, n26, c27, p28, n29, c30, hl24, hx24, rfl, rfl, hw24, hr24, hs24⟩ := OwnD.view o14 e23
    refine oD (stp_indexAddr Tryd.underlying34 ts44 (by decide) rfl hl24 rfl (RdC.rdb (id := 2) hw24 rfl) hx24) rfl (oA 0 Tryd.underlying44 rfl ts42 rfl (oD (stp_load1 ts42 rfl (Cells.el (RdC.rdb (id := 2) hw24 rfl) (by decide) hx24 0 1 rfl)) rfl (oD (stp_len Tryd.underlying42 rfl) rfl (oW rfl (nn (cw_cond rfl (fun h31 => ?_) (fun h31 => ?_)))))))
    ·have H2 := cond_t H2 h31
     obtain ⟨x32, e32, H2⟩ := bS H2
     refine cw_skip (kw_nx (cw_seq (cw_block (sr (oA 2 Tryd.underlying36 rfl ts34 rfl (oL 3 ts34 rfl (oM rfl (oD (stp_indexAddr Tryd.underlying34 ts44 (by decide) rfl hl24 rfl (RdC.rdb (id := 2) hw24 rfl) hx24) rfl (oA 0 Tryd.underlying44 rfl ts42 rfl (oD (stp_load1 ts42 rfl (Cells.el (RdC.rdb (id := 2) hw24 rfl) (by decide) hx24 0 1 rfl)) rfl (oM rfl (oD (stp_indexAddr Tryd.underlying42 ts48 (by decide) rfl rfl rfl (RdC.rdb (id := 2) hr24 rfl) e32) rfl (oD (stp_loadN (us := [_, _, _]) ts48 rfl (Cells.el (RdC.rdb (id := 2) hr24 rfl) (by decide) e32 0 3 rfl)) rfl ?_)))))))))))))
     refine oE (stpU_alloc 4 tz48 rfl) rfl ?_
     rintro _ _ ⟨b33, rfl, rfl⟩
     obtain ⟨x34, e34, H2⟩ := bS H2
     refine oC3 4 ts48 rfl rfl (nn (sr (oA 0 Tryd.underlying36 rfl ts33 rfl (oB2 3 ts33 rfl (oA 0 Tryd.underlying48 rfl ts46 rfl (oB2 4 ts46 rfl (oE (stpU_call (fun i => 5 + i) cf21 (fun w hw => c_i_FindPage fl w x2.t x32.k rfl (OwnC.pass (id := 0) rfl o6 hw) rfl (OwnC.pass (id := 1) rfl o10 hw) (RO.pass hg hw) x34 e34) (yB rfl rfl)) rfl ?_)))))))
     rintro _ _ ⟨_, ⟨rfl, rfl⟩, rfl⟩
     refine oM rfl (oT rfl (oT rfl (oT rfl (oS rfl (oS rfl (oS rfl (nn (sr (oS rfl (nn (cw_seq (sr (oS rfl ?_)))))))))))))
     obtain ⟨o2_2, eo2_2, H2⟩ := bS H2
     refine nn (cw_join (ι := Bool × Int) (fun | (v35, v36) => o2_2 = .out (v35, v36)) (fun | (v35, v36) => [(3, .pointer (some ⟨b15, 0, none⟩)), (5, .int .i64 v20), (6, .int .i64 v22), (7, .pointer (some ⟨b33, 0, none⟩)), (8, .int .i64 x34.1), (10, .bool x34.2.2), (11, .bool v35), (12, .int .i64 v36)]) (fun | (v35, v36) => [(0, C6), (1, C10), (2, C14), (3, [(b15, .cells #[.slice p3 ((x2.t.b).length) c5, .slice p7 ((x2.t.f).length) c9, .slice p11 ((x2.c).length) c13] 36 (0, 0))]), (4, [(b33, .cells #[.int .i64 x32.k.s, .int .i64 x32.k.p, .int .i64 x32.fr] 48 (0, 0))])]) ?_ ?_)
     ·refine cw_block (cw_loopS (ι := Nat × Bool × Int) (js := [0, 1, 2, 3, 4]) (fun x => x.1) (fun | (fuel, v35, v36) => l_FnSystemValid_L2 fl x23 x32 fuel v35 v36 = some o2_2) (fun | (_, v35, v36) => [(3, .pointer (some ⟨b15, 0, none⟩)), (5, .int .i64 v20), (6, .int .i64 v22), (7, .pointer (some ⟨b33, 0, none⟩)), (8, .int .i64 x34.1), (10, .bool x34.2.2), (11, .bool v35), (12, .int .i64 v36)]) (fun | (_, v35, v36) => [(0, C6), (1, C10), (2, C14), (3, [(b15, .cells #[.slice p3 ((x2.t.b).length) c5, .slice p7 ((x2.t.f).length) c9, .slice p11 ((x2.c).length) c13] 36 (0, 0))]), (4, [(b33, .cells #[.int .i64 x32.k.s, .int .i64 x32.k.p, .int .i64 x32.fr] 48 (0, 0))])]) (fl, false, 0) eo2_2 ⟨rfl, rfl, rfl, rfl, rfl, rfl, rfl, rfl, trivial⟩ ⟨0, [1, 2, 3, 4], rfl, rfl, 1, [2, 3, 4], rfl, rfl, 2, [3, 4], rfl, rfl, 3, [4], rfl, rfl, 4, [], rfl, rfl, trivial⟩ (by decide) ?_)
      rintro ⟨fuel, v35, v36⟩ H3
      have H3 : l_FnSystemValid_L2 fl x23 x32 fuel v35 v36 = some o2_2 := H3
      rcases fuel with _ | fuel
      ·rw [l_FnSystemValid_L2.eq_1] at H3; cases H3
      rw [l_FnSystemValid_L2.eq_2] at H3
      dsimp only
      refine cw_seq (sr (oM rfl (oA 2 Tryd.underlying36 rfl ts34 rfl (oL 3 ts34 rfl (oM rfl (oD (stp_indexAddr Tryd.underlying34 ts44 (by decide) rfl hl24 rfl (RdC.rdb (id := 2) hw24 rfl) hx24) rfl (oA 1 Tryd.underlying44 rfl ts42 rfl (oD (stp_load1 ts42 rfl (Cells.el (RdC.rdb (id := 2) hw24 rfl) (by decide) hx24 1 1 rfl)) rfl (oD (stp_len Tryd.underlying42 rfl) rfl (oW rfl (nn (cw_cond rfl (fun h37 => ?_) (fun h37 => ?_)))))))))))))
      ·have H3 := cond_t H3 h37
       obtain ⟨y38, ey38, H3⟩ := bS H3
       refine cw_skip (kw_nx (cw_seq (cw_block (cw_join (ι := Unit) (fun | _ => True) (fun | _ => [(3, .pointer (some ⟨b15, 0, none⟩)), (5, .int .i64 v20), (6, .int .i64 v22), (7, .pointer (some ⟨b33, 0, none⟩)), (8, .int .i64 x34.1), (10, .bool x34.2.2), (11, .bool y38), (12, .int .i64 v36)]) (fun | _ => [(0, C6), (1, C10), (2, C14), (3, [(b15, .cells #[.slice p3 ((x2.t.b).length) c5, .slice p7 ((x2.t.f).length) c9, .slice p11 ((x2.c).length) c13] 36 (0, 0))]), (4, [(b33, .cells #[.int .i64 x32.k.s, .int .i64 x32.k.p, .int .i64 x32.fr] 48 (0, 0))])]) ?_ ?_))))
       ·rcases Bool.eq_false_or_eq_true v35 with hy38 | hy38
        ·have ey38 := cond_t ey38 hy38
         have qy38 := sI ey38
         refine rdq g_mixed [11] [] { dst := dS [80, 81, 82, 83, 84, 85, 86, 87, 88, 89, 90, 91, 92, 93, 12], pre := gA [] [[], [0], [0, 1], [0, 1, 2], [0, 1], rn 0 5, rn 0 6, rn 0 7, [0, 1], rn 0 9, rn 0 10, [0, 1], rn 0 12, rn 0 13, rn 0 14], ids := fun _ => [], rs := rL [[(11, 0)], [(79, 1)], [(80, 2)], [(80, 2)], [(80, 2)], [(80, 2)], [(80, 2)], [(80, 2)], [(80, 2)], [(80, 2)], [(80, 2)], [(80, 2)], [(80, 2)], [(80, 2), (91, 13)], [(92, 14)]], rh := fun _ => [], V := fun i g => gA undef [.bool v35, .bool v35, undef, undef, undef, undef, undef, undef, undef, undef, undef, undef, undef, .bool y38, .bool y38] i, U := fun _ _ => [], Φ := fun _ _ => True } ?_ ?_
         ·exact ⟨lM, lM, lo rfl rfl 80 hy38, lo rfl rfl 80 hy38, lo rfl rfl 80 hy38, lo rfl rfl 80 hy38, lo rfl rfl 80 hy38, lo rfl rfl 80 hy38, lo rfl rfl 80 hy38, lo rfl rfl 80 hy38, lo rfl rfl 80 hy38, lo rfl rfl 80 hy38, lo rfl rfl 80 hy38, lc rfl rfl fun hs hh => stp_pick_tB (sv hs 80 rfl) hy38 rfl qy38, lS, trivial⟩
         intro g hΦ
         exact kw_join () trivial ⟨rfl, rfl, rfl, rfl, rfl, rfl, rfl, rfl, trivial⟩ ⟨rfl, rfl, rfl, rfl, rfl, trivial⟩
        have ey38 := cond_f ey38 hy38
        obtain ⟨x39, e39, ey38⟩ := bS ey38
        have qy38 := sI ey38
        refine rdq g_mixed [3, 5, 7, 11, 12] [2, 3, 4] { dst := dS [80, 81, 82, 83, 84, 85, 86, 87, 88, 89, 90, 91, 92, 93, 12], pre := gA [] [[], [0], [0, 1], [0, 1, 2], [0, 1], rn 0 5, rn 0 6, rn 0 7, [0, 1], rn 0 9, rn 0 10, [0, 1], rn 0 12, rn 0 13, rn 0 14], ids := fun _ => [], rs := rL [[(11, 0)], [(79, 1)], [(3, 0), (80, 2)], [(81, 3), (80, 2)], [(5, 0), (80, 2)], [(82, 4), (83, 5), (80, 2)], [(84, 6), (80, 2)], [(85, 7), (80, 2)], [(12, 0), (80, 2)], [(86, 8), (87, 9), (80, 2)], [(88, 10), (80, 2)], [(7, 0), (80, 2)], [(89, 11), (90, 12), (80, 2)], [(80, 2), (91, 13)], [(92, 14)]], rh := rL [[], [], [], [(3, 0)], [], [(2, 0)], [], [(2, 0)], [], [(2, 0)], [(2, 0)], [(4, 0)]], V := fun i g => gA undef [.bool v35, .bool v35, .pointer (some ⟨b15, 2, none⟩), .slice p11 ((x2.c).length) c13, .int .i64 v20, .pointer (some ⟨eB p11, eO p11 + Int.toNat v20 * Enc.sz CpS + 0, none⟩), .pointer (some ⟨eB p11, eO p11 + Int.toNat v20 * Enc.sz CpS + 1, none⟩), .slice p28 ((x23.w).length) c30, .int .i64 v36, .pointer (some ⟨eB p28, eO p28 + Int.toNat v36 * Enc.sz Nt + 0, none⟩), .agg #[.int .i64 x39.k.s, .int .i64 x39.k.p, .int .i64 x39.fr], .agg #[.int .i64 x32.k.s, .int .i64 x32.k.p, .int .i64 x32.fr], .bool (x39 == x32), .bool y38, .bool y38] i, U := fun _ _ => [], Φ := fun _ _ => True } ?_ ?_
        ·exact ⟨lM, lM, lg rfl rfl 80 hy38 fun hs hh => stp_fieldAddr (j := 2) Tryd.underlying36 rfl ts34 rfl (sv hs 3 rfl) rfl, lg rfl rfl 80 hy38 fun hs hh => stp_load1 ts34 (sv hs 81 rfl) (Cells.box (id := 3) (hh.get 3 _ rfl) 1 rfl), lg rfl rfl 80 hy38 fun hs hh => stp_move (sv hs 5 rfl), lg rfl rfl 80 hy38 fun hs hh => stp_indexAddr Tryd.underlying34 ts44 (by decide) (sv hs 82 rfl) hl24 (sv hs 83 rfl) (RdC.rdb (id := 2) hw24 (hh.get 2 _ rfl)) hx24, lg rfl rfl 80 hy38 fun hs hh => stp_fieldAddr (j := 1) Tryd.underlying44 rfl ts42 rfl (sv hs 84 rfl) rfl, lg rfl rfl 80 hy38 fun hs hh => stp_load1 ts42 (sv hs 85 rfl) (Cells.el (RdC.rdb (id := 2) hw24 (hh.get 2 _ rfl)) (by decide) hx24 1 1 rfl), lg rfl rfl 80 hy38 fun hs hh => stp_move (sv hs 12 rfl), lg rfl rfl 80 hy38 fun hs hh => stp_indexAddr Tryd.underlying42 ts48 (by decide) (sv hs 86 rfl) rfl (sv hs 87 rfl) (RdC.rdb (id := 2) hs24 (hh.get 2 _ rfl)) e39, lg rfl rfl 80 hy38 fun hs hh => stp_loadN (us := [_, _, _]) ts48 (sv hs 88 rfl) (Cells.el (RdC.rdb (id := 2) hs24 (hh.get 2 _ rfl)) (by decide) e39 0 3 rfl), lg rfl rfl 80 hy38 fun hs hh => stp_loadN (us := [_, _, _]) ts48 (sv hs 7 rfl) (Cells.box (id := 4) (hh.get 4 _ rfl) 3 rfl), lg rfl rfl 80 hy38 fun hs hh => stp_eqlS te48 x39 x32 (sv hs 89 rfl) (sv hs 90 rfl), lc rfl rfl fun hs hh => stp_pick_fB (sv hs 80 rfl) hy38 (sv hs 91 rfl) qy38, lS, trivial⟩
        intro g hΦ
        exact kw_join () trivial ⟨rfl, rfl, rfl, rfl, rfl, rfl, rfl, rfl, trivial⟩ ⟨rfl, rfl, rfl, rfl, rfl, trivial⟩
       rintro _ -
       dsimp only
       obtain ⟨x40, e40, H3⟩ := bS H3
       exact kw_bl_normal (kw_nx (cw_region (oM rfl (oP e40 rfl (oS rfl (ow_nil (kw_lqS (js := [0, 1, 2, 3, 4]) (fuel, y38, x40) H3 (Nat.lt_succ_self _) ⟨rfl, rfl, rfl, rfl, rfl, rfl, rfl, rfl, trivial⟩ ⟨0, [1, 2, 3, 4], rfl, rfl, 1, [2, 3, 4], rfl, rfl, 2, [3, 4], rfl, rfl, 3, [4], rfl, rfl, 4, [], rfl, rfl, trivial⟩ (by decide))))))))
      have H3 := cond_f H3 h37
      refine cw_exit (kw_nx_exit (kw_lq_exit (kw_bl ?_)))
      obtain rfl := sI H3
      exact kw_joinS (js := [0, 1, 2, 3, 4]) (v35, v36) rfl ⟨rfl, rfl, rfl, rfl, rfl, rfl, rfl, rfl, trivial⟩ ⟨0, [1, 2, 3, 4], rfl, rfl, 1, [2, 3, 4], rfl, rfl, 2, [3, 4], rfl, rfl, 3, [4], rfl, rfl, 4, [], rfl, rfl, trivial⟩ (by decide)
     rintro ⟨v35, v36⟩ rfl
     dsimp only
     obtain ⟨y41, ey41, H2⟩ := bS H2
     refine kw_nx (sr (oM rfl (oM rfl (oD (stp_eqlB Tryd.underlying4 rfl rfl) rfl (oM rfl (ow_cutY 8 104 y41 ?_ ?_))))))
     ·rcases Bool.eq_false_or_eq_true (x34.2.2 == v35) with hy41 | hy41
      ·have ey41 := cond_t ey41 hy41
       refine oO rfl hy41 rfl (oO rfl hy41 rfl (oX rfl rfl rfl (oX rfl rfl rfl (oX rfl rfl rfl (oX rfl rfl rfl (oO rfl hy41 rfl (oD (stp_pick_t rfl hy41 rfl) rfl ?_)))))))
       obtain rfl := sI ey41
       exact ow_nil (jy 8 0)
      have ey41 := cond_f ey41 hy41
      obtain ⟨y42, ey42, ey41⟩ := bS ey41
      refine oG rfl hy41 (mv rfl) rfl (oG rfl hy41 (mv rfl) rfl (ow_cutY 5 103 y42 ?_ ?_))
      ·rcases Bool.eq_false_or_eq_true x34.2.2 with hy42 | hy42
       ·have ey42 := cond_t ey42 hy42
        refine oG rfl hy42 (mv rfl) rfl (oG rfl hy42 (fA 2 Tryd.underlying48 rfl ts3 rfl rfl rfl) rfl (oG rfl hy42 (lB 4 ts3 rfl rfl rfl) rfl (oG rfl hy42 (stp_neq rfl rfl) rfl (oG rfl hy41 (stp_pick_t rfl hy42 rfl) rfl ?_))))
        obtain rfl := sI ey42
        exact ow_nil (jy 5 0)
       have ey42 := cond_f ey42 hy42
       refine oO rfl hy42 rfl (oO rfl hy42 rfl (oO rfl hy42 rfl (oO rfl hy42 rfl (oG rfl hy41 (stp_pick_f rfl hy42 rfl) rfl ?_))))
       obtain rfl := sI ey42
       exact ow_nil (jy 5 0)
      refine oD (stp_pick_f rfl hy41 rfl) rfl ?_
      obtain rfl := sI ey41
      exact ow_nil (jy 4 0)
     refine ow_nil (kw_nx (cw_cond rfl (fun h43 => ?_) (fun h43 => ?_)))
     ·have H2 := cond_t H2 h43
      refine sr (oS rfl (nn (cw_ret (kw_bl_ret (kw_nx_ret (kw_lq_ret (kw_bl_ret (kw_join_ret (kw_bl_ret (kw_nx_ret (kw_lq_ret (kw_bl_ret (kw_join_ret ?_)))))))))))))
      refine kw_nx_ret ?_
      obtain rfl := sI H2
      obtain rfl := sI H1
      obtain rfl := sI H0
      exact kr Tryd.results4 (rT rfl) [] ⟨rfl, rfl⟩
     have H2 := cond_f H2 h43
     obtain ⟨x44, e44, H2⟩ := bS H2
     exact cw_skip (kw_bl_normal (kw_nx (cw_region (oM rfl (oP e44 rfl (oS rfl (ow_nil (kw_lqS (js := [0, 1, 2, 3]) (fuel, x44) H2 (Nat.lt_succ_self _) ⟨rfl, rfl, rfl, trivial⟩ ⟨0, [1, 2, 3], rfl, rfl, 1, [2, 3], rfl, rfl, 2, [3], rfl, rfl, 3, [], rfl, rfl, trivial⟩ (by decide)))))))))
    have H2 := cond_f H2 h31
    refine cw_exit (kw_nx_exit (kw_lq_exit (kw_bl ?_)))
    obtain rfl := sI H2
    exact kw_joinS (js := [0, 1, 2, 3]) v22 rfl ⟨rfl, rfl, rfl, trivial⟩ ⟨0, [1, 2, 3], rfl, rfl, 1, [2, 3], rfl, rfl, 2, [3], rfl, rfl, 3, [], rfl, rfl, trivial⟩ (by decide)
   rintro v22 rfl
   dsimp only
   obtain ⟨x45, e45, H1⟩ := bS H1
   exact kw_bl_normal (kw_nx (cw_region (oM rfl (oP e45 rfl (oS rfl (ow_nil (kw_lqS (js := [0, 1, 2, 3]) (fuel, x45) H1 (Nat.lt_succ_self _) ⟨rfl, rfl, trivial⟩ ⟨0, [1, 2, 3], rfl, rfl, 1, [2, 3], rfl, rfl, 2, [3], rfl, rfl, 3, [], rfl, rfl, trivial⟩ (by decide))))))))
  have H1 := cond_f H1 h21
  refine cw_exit (kw_nx_exit (kw_lq_exit (kw_bl ?_)))
  obtain rfl := sI H1
  exact kw_joinS (js := [0, 1, 2, 3]) v20 rfl ⟨rfl, rfl, trivial⟩ ⟨0, [1, 2, 3], rfl, rfl, 1, [2, 3], rfl, rfl, 2, [3], rfl, rfl, 3, [], rfl, rfl, trivial⟩ (by decide)
 rintro v20 rfl
 dsimp only
 refine kw_nx (sr (oS rfl (nn (cw_ret ?_))))
 obtain rfl := sI H0
 exact kr Tryd.results4 (rT rfl) [] ⟨rfl, rfl⟩
end Go.Proofs.YtfnliecmagnkdaaDoor
