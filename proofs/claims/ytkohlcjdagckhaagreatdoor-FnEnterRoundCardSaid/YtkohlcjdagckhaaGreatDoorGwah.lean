/- The walks: functions of the program return what their pure functions say. Printed by a program (gen.py). -/
import Derived.Test.YtkohlcjdagckhaaGreatDoorGp
import Derived.Test.YtkohlcjdagckhaaGreatDoorGt
import Derived.Test.YtkohlcjdagckhaaGreatDoorMan
import Derived.Test.YtkohlcjdagckhaaGreatDoorMap
import Derived.Test.YtkohlcjdagckhaaGreatDoorCpy
import Derived.Test.YtkohlcjdagckhaaGreatDoorE8
import Derived.Test.YtkohlcjdagckhaaGreatDoorGwab
import Derived.Test.YtkohlcjdagckhaaGreatDoorGwad
import Derived.Test.YtkohlcjdagckhaaGreatDoorGwaf
import Derived.Test.YtkohlcjdagckhaaGreatDoorGwag
set_option linter.unusedSimpArgs false
set_option linter.unusedVariables false
set_option linter.unusedSectionVars false
namespace Go.Proofs.YtkohlcjdagckhaaGreatDoor
open Go.RowKit
set_option maxHeartbeats 4000000
set_option maxRecDepth 20000
variable {p0_0 : Option Addr} {n0_0 : Nat} {c0_0 : Nat}
theorem c_l_FnEnterRound (fl : Nat) (w : World) (a0 : (List UInt8)) (hn0_0 : n0_0 = (a0).length) (hr0_0 : RO w (hkeys []) (RdL p0_0 c0_0 a0)) (hg : RO w (hkeys []) (fun w' => w'.rangeAt 0 0 [.bool false, .int .i64 0, .int .i64 0, .int .i64 0, .int .i64 (-1)])) (r : Bool) (H0 : l_FnEnterRound fl a0 = some r) :
  Ct Tryz.prog 3 [.slice p0_0 n0_0 c0_0] w [] (fun rv h' => rv = .bool r ∧ h' = []) := by
 subst hn0_0
 unfold l_FnEnterRound at H0
 refine ct_of_cw Tryz.func3 rfl Tryz.ntmps3 rfl (Sat.refl _ _) ?_
 refine sr (oS rfl (nn (cw_seq (sr (oM rfl (oD (stp_len Tryz.underlying22 rfl) rfl (oJ rfl (nn (cw_cond rfl (fun h1 => ?_) (fun h1 => ?_))))))))))
 ·have H0 := cond_t H0 h1
  refine sr (oS rfl (nn (cw_ret (kw_nx_ret ?_))))
  obtain rfl := sI H0
  exact kr Tryz.results3 (rT rfl) [] ⟨rfl, rfl⟩
 have H0 := cond_f H0 h1
 obtain ⟨x2, e2, H0⟩ := bS H0
 refine cw_skip (kw_nx (sr (oM rfl (oE (stpU_call (fun i => 0 + i) cf15 (fun w hw => c_s_DrawEnterSpace fl w a0 rfl (RO.pass hr0_0 hw) x2 e2) (yA rfl)) rfl ?_))))
 rintro _ _ ⟨_, ⟨p3, _, c5, C6, p7, _, c9, C10, p11, _, c13, C14, p15, _, c17, C18, rfl, rfl, rfl, o6, rfl, o10, rfl, o14, rfl, o18⟩, rfl⟩
 refine oM rfl (oT rfl (oT rfl (oE (stpU_alloc 4 tz34 rfl) rfl ?_)))
 rintro _ _ ⟨b19, rfl, rfl⟩
 obtain ⟨x20, e20, H0⟩ := bS H0
 refine oC9 4 ts34 rfl rfl (oS rfl (nn (sr (oB9 4 ts34 rfl (oM rfl (oE (stpU_call (fun i => 5 + i) cf16 (fun w hw => c_i_EnterSpace fl w x2.1 x2.2 rfl (OwnC.pass (id := 0) rfl o6 hw) rfl (OwnC.pass (id := 1) rfl o10 hw) rfl (OwnC.pass (id := 2) rfl o14 hw) rfl (OwnC.pass (id := 3) rfl o18 hw) (RO.pass hg hw) x20 e20) (yB rfl rfl)) rfl ?_))))))
 rintro _ _ ⟨_, ⟨p21, _, c23, C24, p25, _, c27, C28, p29, _, c31, C32, p33, _, c35, C36, rfl, rfl, rfl, o24, rfl, o28, rfl, o32, rfl, o36⟩, rfl⟩
 refine oM rfl (oT rfl (oT rfl (oE (stpU_alloc 9 tz34 rfl) rfl ?_)))
 rintro _ _ ⟨b37, rfl, rfl⟩
 obtain ⟨x38, e38, H0⟩ := bS H0
 refine oC9 9 ts34 rfl rfl (oS rfl (nn (sr (oB9 4 ts34 rfl (oM rfl (oE (stpU_call (fun i => 10 + i) cf17 (fun w hw => c_s_EnterSpace fl w x2.1 x2.2 rfl (OwnC.pass (id := 0) rfl o6 hw) rfl (OwnC.pass (id := 1) rfl o10 hw) rfl (OwnC.pass (id := 2) rfl o14 hw) rfl (OwnC.pass (id := 3) rfl o18 hw) x38 e38) (yB rfl rfl)) rfl ?_))))))
 rintro _ _ ⟨_, ⟨p39, _, c41, C42, p43, _, c45, C46, p47, _, c49, C50, p51, _, c53, C54, rfl, rfl, rfl, o42, rfl, o46, rfl, o50, rfl, o54⟩, rfl⟩
 refine oM rfl (oT rfl (oT rfl (oE (stpU_alloc 14 tz34 rfl) rfl ?_)))
 rintro _ _ ⟨b55, rfl, rfl⟩
 obtain ⟨x56, e56, H0⟩ := bS H0
 refine oC9 14 ts34 rfl rfl (oS rfl (nn (cw_seq (sr (oB9 9 ts34 rfl (oB9 14 ts34 rfl (oE (stpU_call (fun i => 15 + i) cf18 (fun w hw => c_i_MachineSame fl w x20.1 x38.1 rfl (OwnC.pass (id := 5) rfl o24 hw) rfl (OwnC.pass (id := 6) rfl o28 hw) rfl (OwnC.pass (id := 7) rfl o32 hw) rfl (OwnC.pass (id := 8) rfl o36 hw) rfl (OwnC.pass (id := 10) rfl o42 hw) rfl (OwnC.pass (id := 11) rfl o46 hw) rfl (OwnC.pass (id := 12) rfl o50 hw) rfl (OwnC.pass (id := 13) rfl o54 hw) x56 e56) (yB rfl rfl)) rfl ?_)))))))
 rintro _ _ ⟨_, ⟨rfl, rfl⟩, rfl⟩
 obtain ⟨y57, ey57, H0⟩ := bS H0
 refine oK rfl (oM rfl (ow_cutY 4 40 y57 ?_ ?_))
 ·rcases Bool.eq_false_or_eq_true (!x56) with hy57 | hy57
  ·have ey57 := cond_t ey57 hy57
   refine oO rfl hy57 rfl (oO rfl hy57 rfl (oO rfl hy57 rfl (oD (stp_pick_t rfl hy57 rfl) rfl ?_)))
   obtain rfl := sI ey57
   exact ow_nil (jy 4 0)
  have ey57 := cond_f ey57 hy57
  refine oG rfl hy57 (mv rfl) rfl (oG rfl hy57 (mv rfl) rfl (oG rfl hy57 (stp_neqB Tryz.underlying4 rfl rfl) rfl (oD (stp_pick_f rfl hy57 rfl) rfl ?_)))
  obtain rfl := sI ey57
  exact ow_nil (jy 4 0)
 obtain ⟨y58, ey58, H0⟩ := bS H0
 refine oM rfl (ow_cutY 3 44 y58 ?_ ?_)
 ·rcases Bool.eq_false_or_eq_true y57 with hy58 | hy58
  ·have ey58 := cond_t ey58 hy58
   refine oO rfl hy58 rfl (oO rfl hy58 rfl (oD (stp_pick_t rfl hy58 rfl) rfl ?_))
   obtain rfl := sI ey58
   exact ow_nil (jy 3 0)
  have ey58 := cond_f ey58 hy58
  refine oG rfl hy58 (mv rfl) rfl (oG rfl hy58 (stp_not rfl) rfl (oD (stp_pick_f rfl hy58 rfl) rfl ?_))
  obtain rfl := sI ey58
  exact ow_nil (jy 3 0)
 obtain ⟨y59, ey59, H0⟩ := bS H0
 refine oM rfl (ow_cutY 8 53 y59 ?_ ?_)
 ·rcases Bool.eq_false_or_eq_true y58 with hy59 | hy59
  ·have ey59 := cond_t ey59 hy59
   refine oO rfl hy59 rfl (oO rfl hy59 rfl (oO rfl hy59 rfl (oO rfl hy59 rfl (oO rfl hy59 rfl (oO rfl hy59 rfl (oO rfl hy59 rfl (oD (stp_pick_t rfl hy59 rfl) rfl ?_)))))))
   obtain rfl := sI ey59
   exact ow_nil (jy 8 0)
  have ey59 := cond_f ey59 hy59
  refine oG rfl hy59 (fA 4 Tryz.underlying34 rfl ts32 rfl rfl rfl) rfl (oG rfl hy59 (fA 2 Tryz.underlying32 rfl ts3 rfl rfl rfl) rfl (oG rfl hy59 (lB 9 ts3 rfl rfl rfl) rfl (oG rfl hy59 (fA 4 Tryz.underlying34 rfl ts32 rfl rfl rfl) rfl (oG rfl hy59 (fA 2 Tryz.underlying32 rfl ts3 rfl rfl rfl) rfl (oG rfl hy59 (lB 4 ts3 rfl rfl rfl) rfl (oG rfl hy59 (stp_eql rfl rfl) rfl (oD (stp_pick_f rfl hy59 rfl) rfl ?_)))))))
  obtain rfl := sI ey59
  exact ow_nil (jy 8 0)
 refine ow_nil (kw_nx (cw_cond rfl (fun h60 => ?_) (fun h60 => ?_)))
 ·have H0 := cond_t H0 h60
  refine sr (oB9 9 ts34 rfl (oB9 14 ts34 rfl (oE (stpU_call (fun i => 15 + i) cf18 (fun w hw => c_i_MachineSame fl w x20.1 x38.1 rfl (OwnC.pass (id := 5) rfl o24 hw) rfl (OwnC.pass (id := 6) rfl o28 hw) rfl (OwnC.pass (id := 7) rfl o32 hw) rfl (OwnC.pass (id := 8) rfl o36 hw) rfl (OwnC.pass (id := 10) rfl o42 hw) rfl (OwnC.pass (id := 11) rfl o46 hw) rfl (OwnC.pass (id := 12) rfl o50 hw) rfl (OwnC.pass (id := 13) rfl o54 hw) x56 e56) (yB rfl rfl)) rfl ?_)))
  rintro _ _ ⟨_, ⟨rfl, rfl⟩, rfl⟩
  obtain ⟨y61, ey61, H0⟩ := bS H0
  refine oM rfl (ow_cutY 4 61 y61 ?_ ?_)
  ·rcases Bool.eq_false_or_eq_true x56 with hy61 | hy61
   ·have ey61 := cond_t ey61 hy61
    refine oG rfl hy61 (mv rfl) rfl (oG rfl hy61 (mv rfl) rfl (oG rfl hy61 (stp_eqlB Tryz.underlying4 rfl rfl) rfl (oD (stp_pick_t rfl hy61 rfl) rfl ?_)))
    obtain rfl := sI ey61
    exact ow_nil (jy 4 0)
   have ey61 := cond_f ey61 hy61
   refine oO rfl hy61 rfl (oO rfl hy61 rfl (oO rfl hy61 rfl (oD (stp_pick_f rfl hy61 rfl) rfl ?_)))
   obtain rfl := sI ey61
   exact ow_nil (jy 4 0)
  refine oS rfl (nn (cw_ret (kw_nx_ret ?_)))
  obtain rfl := sI H0
  exact kr Tryz.results3 (rT rfl) [] ⟨rfl, rfl⟩
 have H0 := cond_f H0 h60
 obtain ⟨o0_0, eo0_0, H0⟩ := bS H0
 refine cw_skip (kw_nx (cw_seq (sr (oS rfl (nn (cw_join (ι := Int) (fun | v62 => o0_0 = .out v62) (fun | v62 => [(3, .pointer (some ⟨b19, 0, none⟩)), (5, .pointer (some ⟨b37, 0, none⟩)), (9, .int .i64 v62)]) (fun | v62 => [(0, C6), (1, C10), (2, C14), (3, C18), (4, [(b19, .cells #[.slice p3 ((x2.1.t.b).length) c5, .slice p7 ((x2.1.t.f).length) c9, .slice p11 ((x2.1.c.l).length) c13, .int .i64 x2.1.c.h, .int .i64 x2.1.g.c, .int .i64 x2.1.g.n, .int .i64 x2.1.g.r, .slice p15 ((x2.1.g.o).length) c17, .int .i64 x2.1.s] 34 (0, 0))]), (5, C24), (6, C28), (7, C32), (8, C36), (9, [(b37, .cells #[.slice p21 ((x20.1.t.b).length) c23, .slice p25 ((x20.1.t.f).length) c27, .slice p29 ((x20.1.c.l).length) c31, .int .i64 x20.1.c.h, .int .i64 x20.1.g.c, .int .i64 x20.1.g.n, .int .i64 x20.1.g.r, .slice p33 ((x20.1.g.o).length) c35, .int .i64 x20.1.s] 34 (0, 0))])]) ?_ ?_))))))
 ·refine cw_block (cw_loopS (ι := Nat × Int) (js := [0, 1, 2, 3, 4, 5, 6, 7, 8, 9]) (fun x => x.1) (fun | (fuel, v62) => l_FnEnterRound_L0 fl x2 x20 fuel v62 = some o0_0) (fun | (_, v62) => [(3, .pointer (some ⟨b19, 0, none⟩)), (5, .pointer (some ⟨b37, 0, none⟩)), (9, .int .i64 v62)]) (fun | (_, v62) => [(0, C6), (1, C10), (2, C14), (3, C18), (4, [(b19, .cells #[.slice p3 ((x2.1.t.b).length) c5, .slice p7 ((x2.1.t.f).length) c9, .slice p11 ((x2.1.c.l).length) c13, .int .i64 x2.1.c.h, .int .i64 x2.1.g.c, .int .i64 x2.1.g.n, .int .i64 x2.1.g.r, .slice p15 ((x2.1.g.o).length) c17, .int .i64 x2.1.s] 34 (0, 0))]), (5, C24), (6, C28), (7, C32), (8, C36), (9, [(b37, .cells #[.slice p21 ((x20.1.t.b).length) c23, .slice p25 ((x20.1.t.f).length) c27, .slice p29 ((x20.1.c.l).length) c31, .int .i64 x20.1.c.h, .int .i64 x20.1.g.c, .int .i64 x20.1.g.n, .int .i64 x20.1.g.r, .slice p33 ((x20.1.g.o).length) c35, .int .i64 x20.1.s] 34 (0, 0))])]) (fl, 0) eo0_0 ⟨rfl, rfl, rfl, trivial⟩ ⟨0, [1, 2, 3, 4, 5, 6, 7, 8, 9], rfl, rfl, 1, [2, 3, 4, 5, 6, 7, 8, 9], rfl, rfl, 2, [3, 4, 5, 6, 7, 8, 9], rfl, rfl, 3, [4, 5, 6, 7, 8, 9], rfl, rfl, 4, [5, 6, 7, 8, 9], rfl, rfl, 5, [6, 7, 8, 9], rfl, rfl, 6, [7, 8, 9], rfl, rfl, 7, [8, 9], rfl, rfl, 8, [9], rfl, rfl, 9, [], rfl, rfl, trivial⟩ (by decide) ?_)
  rintro ⟨fuel, v62⟩ H1
  have H1 : l_FnEnterRound_L0 fl x2 x20 fuel v62 = some o0_0 := H1
  rcases fuel with _ | fuel
  ·rw [l_FnEnterRound_L0.eq_1] at H1; cases H1
  rw [l_FnEnterRound_L0.eq_2] at H1
  dsimp only
  refine cw_seq (sr (oM rfl (oA 2 Tryz.underlying34 rfl ts29 rfl (oA 0 Tryz.underlying29 rfl ts27 rfl (oL 9 ts27 rfl (oD (stp_len Tryz.underlying27 rfl) rfl (oW rfl (nn (cw_cond rfl (fun h63 => ?_) (fun h63 => ?_))))))))))
  ·have H1 := cond_t H1 h63
   obtain ⟨x64, e64, H1⟩ := bS H1
   refine cw_skip (kw_nx (cw_seq (cw_block (sr (oA 2 Tryz.underlying34 rfl ts29 rfl (oA 0 Tryz.underlying29 rfl ts27 rfl (oL 4 ts27 rfl (oM rfl (oD (stp_indexAddr Tryz.underlying27 ts41 (by decide) rfl rfl rfl (Rdb.own (id := 2) rfl o14) e64) rfl (oD (stp_loadN (us := [_, _, _, _, _, _]) ts41 rfl (Cells.el (Rdb.own (id := 2) rfl o14) (by decide) e64 0 6 rfl)) rfl (oE (stpU_alloc 15 tz41 rfl) rfl ?_)))))))))))
   rintro _ _ ⟨b65, rfl, rfl⟩
   obtain ⟨x66, e66, H1⟩ := bS H1
   refine oC6 15 ts41 rfl rfl (nn (sr (oA 2 Tryz.underlying34 rfl ts29 rfl (oA 0 Tryz.underlying29 rfl ts27 rfl (oL 9 ts27 rfl (oM rfl (oD (stp_indexAddr Tryz.underlying27 ts41 (by decide) rfl rfl rfl (Rdb.own (id := 7) rfl o32) e66) rfl (oD (stp_loadN (us := [_, _, _, _, _, _]) ts41 rfl (Cells.el (Rdb.own (id := 7) rfl o32) (by decide) e66 0 6 rfl)) rfl (oE (stpU_alloc 16 tz41 rfl) rfl ?_)))))))))
   rintro _ _ ⟨b67, rfl, rfl⟩
   obtain ⟨y68, ey68, H1⟩ := bS H1
   refine oC6 16 ts41 rfl rfl (nn (sr (oA 0 Tryz.underlying41 rfl ts4 rfl (oL 16 ts4 rfl (oM rfl (ow_cutY 4 88 y68 ?_ ?_))))))
   ·rcases Bool.eq_false_or_eq_true x66.va with hy68 | hy68
    ·have ey68 := cond_t ey68 hy68
     refine oG rfl hy68 (fA 1 Tryz.underlying41 rfl ts3 rfl rfl rfl) rfl (oG rfl hy68 (lB 16 ts3 rfl rfl rfl) rfl (oG rfl hy68 (stp_neq rfl rfl) rfl (oD (stp_pick_t rfl hy68 rfl) rfl ?_)))
     obtain rfl := sI ey68
     exact ow_nil (jy 4 0)
    have ey68 := cond_f ey68 hy68
    refine oO rfl hy68 rfl (oO rfl hy68 rfl (oO rfl hy68 rfl (oD (stp_pick_f rfl hy68 rfl) rfl ?_)))
    obtain rfl := sI ey68
    exact ow_nil (jy 4 0)
   obtain ⟨y69, ey69, H1⟩ := bS H1
   refine oM rfl (ow_cutY 13 102 y69 ?_ ?_)
   ·rcases Bool.eq_false_or_eq_true y68 with hy69 | hy69
    ·have ey69 := cond_t ey69 hy69
     refine oO rfl hy69 rfl (oO rfl hy69 rfl (oO rfl hy69 rfl (oX rfl rfl rfl (oX rfl rfl rfl (oX rfl rfl rfl (oO rfl hy69 rfl (oO rfl hy69 rfl (oX rfl rfl rfl (oX rfl rfl rfl (oX rfl rfl rfl (oO rfl hy69 rfl (oD (stp_pick_t rfl hy69 rfl) rfl ?_))))))))))))
     obtain rfl := sI ey69
     exact ow_nil (jy 13 0)
    have ey69 := cond_f ey69 hy69
    obtain ⟨y70, ey70, ey69⟩ := bS ey69
    refine oG rfl hy69 (fA 0 Tryz.underlying41 rfl ts4 rfl rfl rfl) rfl (oG rfl hy69 (lB 15 ts4 rfl rfl rfl) rfl (oG rfl hy69 (mv rfl) rfl (ow_cutY 4 96 y70 ?_ ?_)))
    ·rcases Bool.eq_false_or_eq_true x64.va with hy70 | hy70
     ·have ey70 := cond_t ey70 hy70
      refine oG rfl hy70 (fA 1 Tryz.underlying41 rfl ts3 rfl rfl rfl) rfl (oG rfl hy70 (lB 15 ts3 rfl rfl rfl) rfl (oG rfl hy70 (stp_eql rfl rfl) rfl (oG rfl hy69 (stp_pick_t rfl hy70 rfl) rfl ?_)))
      obtain rfl := sI ey70
      exact ow_nil (jy 4 0)
     have ey70 := cond_f ey70 hy70
     refine oO rfl hy70 rfl (oO rfl hy70 rfl (oO rfl hy70 rfl (oG rfl hy69 (stp_pick_f rfl hy70 rfl) rfl ?_)))
     obtain rfl := sI ey70
     exact ow_nil (jy 4 0)
    obtain ⟨y71, ey71, ey69⟩ := bS ey69
    refine oG rfl hy69 (mv rfl) rfl (ow_cutY 4 101 y71 ?_ ?_)
    ·rcases Bool.eq_false_or_eq_true y70 with hy71 | hy71
     ·have ey71 := cond_t ey71 hy71
      refine oG rfl hy71 (stp_loadN (us := [_, _, _, _, _, _]) ts41 rfl (Cells.box (id := 16) rfl 6 rfl)) rfl (oG rfl hy71 (stp_loadN (us := [_, _, _, _, _, _]) ts41 rfl (Cells.box (id := 15) rfl 6 rfl)) rfl (oG rfl hy71 (stp_neqS te41 x66 x64 rfl rfl) rfl (oG rfl hy69 (stp_pick_t rfl hy71 rfl) rfl ?_)))
      obtain rfl := sI ey71
      exact ow_nil (jy 4 0)
     have ey71 := cond_f ey71 hy71
     refine oO rfl hy71 rfl (oO rfl hy71 rfl (oO rfl hy71 rfl (oG rfl hy69 (stp_pick_f rfl hy71 rfl) rfl ?_)))
     obtain rfl := sI ey71
     exact ow_nil (jy 4 0)
    refine oD (stp_pick_f rfl hy69 rfl) rfl ?_
    obtain rfl := sI ey69
    exact ow_nil (jy 7 0)
   refine ow_nil (kw_nx (cw_cond rfl (fun h72 => ?_) (fun h72 => ?_)))
   ·have H1 := cond_t H1 h72
    refine sr (oS rfl (nn (cw_ret (kw_bl_ret (kw_nx_ret (kw_lq_ret (kw_bl_ret (kw_join_ret (kw_nx_ret ?_)))))))))
    obtain rfl := sI H1
    obtain rfl := sI H0
    exact kr Tryz.results3 (rT rfl) [] ⟨rfl, rfl⟩
   have H1 := cond_f H1 h72
   obtain ⟨x73, e73, H1⟩ := bS H1
   exact cw_skip (kw_bl_normal (kw_nx (cw_region (oM rfl (oP e73 rfl (oS rfl (ow_nil (kw_lqS (js := [0, 1, 2, 3, 4, 5, 6, 7, 8, 9]) (fuel, x73) H1 (Nat.lt_succ_self _) ⟨rfl, rfl, rfl, trivial⟩ ⟨0, [1, 2, 3, 4, 5, 6, 7, 8, 9], rfl, rfl, 1, [2, 3, 4, 5, 6, 7, 8, 9], rfl, rfl, 2, [3, 4, 5, 6, 7, 8, 9], rfl, rfl, 3, [4, 5, 6, 7, 8, 9], rfl, rfl, 4, [5, 6, 7, 8, 9], rfl, rfl, 5, [6, 7, 8, 9], rfl, rfl, 6, [7, 8, 9], rfl, rfl, 7, [8, 9], rfl, rfl, 8, [9], rfl, rfl, 9, [], rfl, rfl, trivial⟩ (by decide)))))))))
  have H1 := cond_f H1 h63
  refine cw_exit (kw_nx_exit (kw_lq_exit (kw_bl ?_)))
  obtain rfl := sI H1
  exact kw_joinS (js := [0, 1, 2, 3, 4, 5, 6, 7, 8, 9]) v62 rfl ⟨rfl, rfl, rfl, trivial⟩ ⟨0, [1, 2, 3, 4, 5, 6, 7, 8, 9], rfl, rfl, 1, [2, 3, 4, 5, 6, 7, 8, 9], rfl, rfl, 2, [3, 4, 5, 6, 7, 8, 9], rfl, rfl, 3, [4, 5, 6, 7, 8, 9], rfl, rfl, 4, [5, 6, 7, 8, 9], rfl, rfl, 5, [6, 7, 8, 9], rfl, rfl, 6, [7, 8, 9], rfl, rfl, 7, [8, 9], rfl, rfl, 8, [9], rfl, rfl, 9, [], rfl, rfl, trivial⟩ (by decide)
 rintro v62 rfl
 dsimp only
 refine kw_nx (sr (oS rfl (nn (cw_ret ?_))))
 obtain rfl := sI H0
 exact kr Tryz.results3 (rT rfl) [] ⟨rfl, rfl⟩
end Go.Proofs.YtkohlcjdagckhaaGreatDoor
