/- The walks: functions of the program return what their pure functions say. Printed by a program (gen.py). -/
import Derived.Test.YtkohlcjdagckhaaGreatDoorKp
import Derived.Test.YtkohlcjdagckhaaGreatDoorKt
import Derived.Test.YtkohlcjdagckhaaGreatDoorMan
import Derived.Test.YtkohlcjdagckhaaGreatDoorMap
import Derived.Test.YtkohlcjdagckhaaGreatDoorCpy
import Derived.Test.YtkohlcjdagckhaaGreatDoorE9
import Derived.Test.YtkohlcjdagckhaaGreatDoorKwab
import Derived.Test.YtkohlcjdagckhaaGreatDoorKwac
import Derived.Test.YtkohlcjdagckhaaGreatDoorKwad
set_option linter.unusedSimpArgs false
set_option linter.unusedVariables false
set_option linter.unusedSectionVars false
namespace Go.Proofs.YtkohlcjdagckhaaGreatDoor
open Go.RowKit
set_option maxHeartbeats 4000000
set_option maxRecDepth 20000
variable {p0_0 : Option Addr} {n0_0 : Nat} {c0_0 : Nat}
theorem c_l_FnTouchTable (fl : Nat) (w : World) (a0 : (List UInt8)) (hn0_0 : n0_0 = (a0).length) (hr0_0 : RO w (hkeys []) (RdL p0_0 c0_0 a0)) (hg : RO w (hkeys []) (fun w' => w'.rangeAt 0 0 [.bool false, .int .i64 0, .int .i64 0, .int .i64 0, .int .i64 (-1)])) (r : Bool) (H0 : l_FnTouchTable fl a0 = some r) :
  Ct Tryz.prog 7 [.slice p0_0 n0_0 c0_0] w [] (fun rv h' => rv = .bool r ∧ h' = []) := by
 subst hn0_0
 unfold l_FnTouchTable at H0
 refine ct_of_cw Tryz.func7 rfl Tryz.ntmps7 rfl (Sat.refl _ _) ?_
 refine sr (oS rfl (nn (cw_seq (sr (oM rfl (oD (stp_len Tryz.underlying22 rfl) rfl (oJ rfl (nn (cw_cond rfl (fun h1 => ?_) (fun h1 => ?_))))))))))
 ·have H0 := cond_t H0 h1
  refine sr (oS rfl (nn (cw_ret (kw_nx_ret ?_))))
  obtain rfl := sI H0
  exact kr Tryz.results7 (rT rfl) [] ⟨rfl, rfl⟩
 have H0 := cond_f H0 h1
 obtain ⟨x2, e2, H0⟩ := bS H0
 refine cw_skip (kw_nx (sr (oM rfl (oE (stpU_call (fun i => 0 + i) cf30 (fun w hw => c_s_DrawTouchPage fl w a0 rfl (RO.pass hr0_0 hw) x2 e2) (yA rfl)) rfl ?_))))
 rintro _ _ ⟨_, ⟨p3, _, c5, C6, p7, _, c9, C10, p11, _, c13, C14, p15, _, c17, C18, rfl, rfl, rfl, o6, rfl, o10, rfl, o14, rfl, o18⟩, rfl⟩
 refine oM rfl (oT rfl (oT rfl (oT rfl (oE (stpU_alloc 4 tz34 rfl) rfl ?_))))
 rintro _ _ ⟨b19, rfl, rfl⟩
 obtain ⟨x20, e20, H0⟩ := bS H0
 refine oC9 4 ts34 rfl rfl (oS rfl (oS rfl (nn (sr (oB9 4 ts34 rfl (oM rfl (oM rfl (oE (stpU_call (fun i => 5 + i) cf31 (fun w hw => c_i_TouchPage fl w x2.1 x2.2.1 x2.2.2 rfl (OwnC.pass (id := 0) rfl o6 hw) rfl (OwnC.pass (id := 1) rfl o10 hw) rfl (OwnC.pass (id := 2) rfl o14 hw) rfl (OwnC.pass (id := 3) rfl o18 hw) (RO.pass hg hw) x20 e20) (yC rfl rfl rfl)) rfl ?_))))))))
 rintro _ _ ⟨_, ⟨p21, _, c23, C24, p25, _, c27, C28, p29, _, c31, C32, p33, _, c35, C36, rfl, rfl, rfl, o24, rfl, o28, rfl, o32, rfl, o36⟩, rfl⟩
 refine oM rfl (oT rfl (oT rfl (oT rfl (oT rfl (oE (stpU_alloc 9 tz34 rfl) rfl ?_)))))
 rintro _ _ ⟨b37, rfl, rfl⟩
 obtain ⟨x38, e38, H0⟩ := bS H0
 refine oC9 9 ts34 rfl rfl (oS rfl (oS rfl (oS rfl (nn (sr (oB9 4 ts34 rfl (oM rfl (oM rfl (oE (stpU_call (fun i => 10 + i) cf32 (fun w hw => c_s_TouchPage fl w x2.1 x2.2.1 x2.2.2 rfl (OwnC.pass (id := 0) rfl o6 hw) rfl (OwnC.pass (id := 1) rfl o10 hw) rfl (OwnC.pass (id := 2) rfl o14 hw) rfl (OwnC.pass (id := 3) rfl o18 hw) x38 e38) (yC rfl rfl rfl)) rfl ?_)))))))))
 rintro _ _ ⟨_, ⟨p39, _, c41, C42, p43, _, c45, C46, p47, _, c49, C50, p51, _, c53, C54, rfl, rfl, rfl, o42, rfl, o46, rfl, o50, rfl, o54⟩, rfl⟩
 refine oM rfl (oT rfl (oT rfl (oT rfl (oT rfl (oE (stpU_alloc 14 tz34 rfl) rfl ?_)))))
 rintro _ _ ⟨b55, rfl, rfl⟩
 obtain ⟨x56, e56, H0⟩ := bS H0
 refine oC9 14 ts34 rfl rfl (oS rfl (oS rfl (oS rfl (nn (cw_seq (sr (oB9 9 ts34 rfl (oB9 14 ts34 rfl (oE (stpU_call (fun i => 15 + i) cf18 (fun w hw => c_i_MachineSame fl w x20.1 x38.1 rfl (OwnC.pass (id := 5) rfl o24 hw) rfl (OwnC.pass (id := 6) rfl o28 hw) rfl (OwnC.pass (id := 7) rfl o32 hw) rfl (OwnC.pass (id := 8) rfl o36 hw) rfl (OwnC.pass (id := 10) rfl o42 hw) rfl (OwnC.pass (id := 11) rfl o46 hw) rfl (OwnC.pass (id := 12) rfl o50 hw) rfl (OwnC.pass (id := 13) rfl o54 hw) x56 e56) (yB rfl rfl)) rfl ?_)))))))))
 rintro _ _ ⟨_, ⟨rfl, rfl⟩, rfl⟩
 obtain ⟨y57, ey57, H0⟩ := bS H0
 refine oK rfl (oM rfl (ow_cutY 4 51 y57 ?_ ?_))
 ·rcases Bool.eq_false_or_eq_true (!x56) with hy57 | hy57
  ·have ey57 := cond_t ey57 hy57
   refine oO rfl hy57 rfl (oO rfl hy57 rfl (oO rfl hy57 rfl (oD (stp_pick_t rfl hy57 rfl) rfl ?_)))
   obtain rfl := sI ey57
   exact ow_nil (jy 4 0)
  have ey57 := cond_f ey57 hy57
  refine oG rfl hy57 (mv rfl) rfl (oG rfl hy57 (mv rfl) rfl (oG rfl hy57 (stp_neq rfl rfl) rfl (oD (stp_pick_f rfl hy57 rfl) rfl ?_)))
  obtain rfl := sI ey57
  exact ow_nil (jy 4 0)
 obtain ⟨y58, ey58, H0⟩ := bS H0
 refine oM rfl (ow_cutY 4 56 y58 ?_ ?_)
 ·rcases Bool.eq_false_or_eq_true y57 with hy58 | hy58
  ·have ey58 := cond_t ey58 hy58
   refine oO rfl hy58 rfl (oO rfl hy58 rfl (oO rfl hy58 rfl (oD (stp_pick_t rfl hy58 rfl) rfl ?_)))
   obtain rfl := sI ey58
   exact ow_nil (jy 4 0)
  have ey58 := cond_f ey58 hy58
  refine oG rfl hy58 (mv rfl) rfl (oG rfl hy58 (mv rfl) rfl (oG rfl hy58 (stp_neq rfl rfl) rfl (oD (stp_pick_f rfl hy58 rfl) rfl ?_)))
  obtain rfl := sI ey58
  exact ow_nil (jy 4 0)
 obtain ⟨y59, ey59, H0⟩ := bS H0
 refine oM rfl (ow_cutY 4 61 y59 ?_ ?_)
 ·rcases Bool.eq_false_or_eq_true y58 with hy59 | hy59
  ·have ey59 := cond_t ey59 hy59
   refine oO rfl hy59 rfl (oO rfl hy59 rfl (oO rfl hy59 rfl (oD (stp_pick_t rfl hy59 rfl) rfl ?_)))
   obtain rfl := sI ey59
   exact ow_nil (jy 4 0)
  have ey59 := cond_f ey59 hy59
  refine oG rfl hy59 (mv rfl) rfl (oG rfl hy59 (mv rfl) rfl (oG rfl hy59 (stp_neqB Tryz.underlying4 rfl rfl) rfl (oD (stp_pick_f rfl hy59 rfl) rfl ?_)))
  obtain rfl := sI ey59
  exact ow_nil (jy 4 0)
 obtain ⟨y60, ey60, H0⟩ := bS H0
 refine oM rfl (ow_cutY 3 65 y60 ?_ ?_)
 ·rcases Bool.eq_false_or_eq_true y59 with hy60 | hy60
  ·have ey60 := cond_t ey60 hy60
   refine oO rfl hy60 rfl (oO rfl hy60 rfl (oD (stp_pick_t rfl hy60 rfl) rfl ?_))
   obtain rfl := sI ey60
   exact ow_nil (jy 3 0)
  have ey60 := cond_f ey60 hy60
  refine oG rfl hy60 (mv rfl) rfl (oG rfl hy60 (stp_not rfl) rfl (oD (stp_pick_f rfl hy60 rfl) rfl ?_))
  obtain rfl := sI ey60
  exact ow_nil (jy 3 0)
 refine ow_nil (kw_nx (cw_cond rfl (fun h61 => ?_) (fun h61 => ?_)))
 ·have H0 := cond_t H0 h61
  refine sr (oB9 9 ts34 rfl (oB9 14 ts34 rfl (oE (stpU_call (fun i => 15 + i) cf18 (fun w hw => c_i_MachineSame fl w x20.1 x38.1 rfl (OwnC.pass (id := 5) rfl o24 hw) rfl (OwnC.pass (id := 6) rfl o28 hw) rfl (OwnC.pass (id := 7) rfl o32 hw) rfl (OwnC.pass (id := 8) rfl o36 hw) rfl (OwnC.pass (id := 10) rfl o42 hw) rfl (OwnC.pass (id := 11) rfl o46 hw) rfl (OwnC.pass (id := 12) rfl o50 hw) rfl (OwnC.pass (id := 13) rfl o54 hw) x56 e56) (yB rfl rfl)) rfl ?_)))
  rintro _ _ ⟨_, ⟨rfl, rfl⟩, rfl⟩
  obtain ⟨y62, ey62, H0⟩ := bS H0
  refine oM rfl (ow_cutY 4 73 y62 ?_ ?_)
  ·rcases Bool.eq_false_or_eq_true x56 with hy62 | hy62
   ·have ey62 := cond_t ey62 hy62
    refine oG rfl hy62 (mv rfl) rfl (oG rfl hy62 (mv rfl) rfl (oG rfl hy62 (stp_eql rfl rfl) rfl (oD (stp_pick_t rfl hy62 rfl) rfl ?_)))
    obtain rfl := sI ey62
    exact ow_nil (jy 4 0)
   have ey62 := cond_f ey62 hy62
   refine oO rfl hy62 rfl (oO rfl hy62 rfl (oO rfl hy62 rfl (oD (stp_pick_f rfl hy62 rfl) rfl ?_)))
   obtain rfl := sI ey62
   exact ow_nil (jy 4 0)
  obtain ⟨y63, ey63, H0⟩ := bS H0
  refine oM rfl (ow_cutY 4 78 y63 ?_ ?_)
  ·rcases Bool.eq_false_or_eq_true y62 with hy63 | hy63
   ·have ey63 := cond_t ey63 hy63
    refine oG rfl hy63 (mv rfl) rfl (oG rfl hy63 (mv rfl) rfl (oG rfl hy63 (stp_eql rfl rfl) rfl (oD (stp_pick_t rfl hy63 rfl) rfl ?_)))
    obtain rfl := sI ey63
    exact ow_nil (jy 4 0)
   have ey63 := cond_f ey63 hy63
   refine oO rfl hy63 rfl (oO rfl hy63 rfl (oO rfl hy63 rfl (oD (stp_pick_f rfl hy63 rfl) rfl ?_)))
   obtain rfl := sI ey63
   exact ow_nil (jy 4 0)
  obtain ⟨y64, ey64, H0⟩ := bS H0
  refine oM rfl (ow_cutY 4 83 y64 ?_ ?_)
  ·rcases Bool.eq_false_or_eq_true y63 with hy64 | hy64
   ·have ey64 := cond_t ey64 hy64
    refine oG rfl hy64 (mv rfl) rfl (oG rfl hy64 (mv rfl) rfl (oG rfl hy64 (stp_eqlB Tryz.underlying4 rfl rfl) rfl (oD (stp_pick_t rfl hy64 rfl) rfl ?_)))
    obtain rfl := sI ey64
    exact ow_nil (jy 4 0)
   have ey64 := cond_f ey64 hy64
   refine oO rfl hy64 rfl (oO rfl hy64 rfl (oO rfl hy64 rfl (oD (stp_pick_f rfl hy64 rfl) rfl ?_)))
   obtain rfl := sI ey64
   exact ow_nil (jy 4 0)
  refine oS rfl (nn (cw_ret (kw_nx_ret ?_)))
  obtain rfl := sI H0
  exact kr Tryz.results7 (rT rfl) [] ⟨rfl, rfl⟩
 have H0 := cond_f H0 h61
 obtain ⟨o0_0, eo0_0, H0⟩ := bS H0
 refine cw_skip (kw_nx (sr (oS rfl (nn (cw_seq (sr (oS rfl (nn (cw_join (ι := Int × Int) (fun | (v65, v66) => o0_0 = .out (v65, v66)) (fun | (v65, v66) => [(3, .pointer (some ⟨b19, 0, none⟩)), (6, .pointer (some ⟨b37, 0, none⟩)), (8, .int .i64 x20.2.2.1), (14, .int .i64 v65), (15, .int .i64 v66)]) (fun | (v65, v66) => [(0, C6), (1, C10), (2, C14), (3, C18), (4, [(b19, .cells #[.slice p3 ((x2.1.t.b).length) c5, .slice p7 ((x2.1.t.f).length) c9, .slice p11 ((x2.1.c.l).length) c13, .int .i64 x2.1.c.h, .int .i64 x2.1.g.c, .int .i64 x2.1.g.n, .int .i64 x2.1.g.r, .slice p15 ((x2.1.g.o).length) c17, .int .i64 x2.1.s] 34 (0, 0))]), (5, C24), (6, C28), (7, C32), (8, C36), (9, [(b37, .cells #[.slice p21 ((x20.1.t.b).length) c23, .slice p25 ((x20.1.t.f).length) c27, .slice p29 ((x20.1.c.l).length) c31, .int .i64 x20.1.c.h, .int .i64 x20.1.g.c, .int .i64 x20.1.g.n, .int .i64 x20.1.g.r, .slice p33 ((x20.1.g.o).length) c35, .int .i64 x20.1.s] 34 (0, 0))])]) ?_ ?_)))))))))
 ·refine cw_block (cw_loopS (ι := Nat × Int × Int) (js := [0, 1, 2, 3, 4, 5, 6, 7, 8, 9]) (fun x => x.1) (fun | (fuel, v65, v66) => l_FnTouchTable_L0 fl x2 x20 fuel v65 v66 = some o0_0) (fun | (_, v65, v66) => [(3, .pointer (some ⟨b19, 0, none⟩)), (6, .pointer (some ⟨b37, 0, none⟩)), (8, .int .i64 x20.2.2.1), (14, .int .i64 v65), (15, .int .i64 v66)]) (fun | (_, v65, v66) => [(0, C6), (1, C10), (2, C14), (3, C18), (4, [(b19, .cells #[.slice p3 ((x2.1.t.b).length) c5, .slice p7 ((x2.1.t.f).length) c9, .slice p11 ((x2.1.c.l).length) c13, .int .i64 x2.1.c.h, .int .i64 x2.1.g.c, .int .i64 x2.1.g.n, .int .i64 x2.1.g.r, .slice p15 ((x2.1.g.o).length) c17, .int .i64 x2.1.s] 34 (0, 0))]), (5, C24), (6, C28), (7, C32), (8, C36), (9, [(b37, .cells #[.slice p21 ((x20.1.t.b).length) c23, .slice p25 ((x20.1.t.f).length) c27, .slice p29 ((x20.1.c.l).length) c31, .int .i64 x20.1.c.h, .int .i64 x20.1.g.c, .int .i64 x20.1.g.n, .int .i64 x20.1.g.r, .slice p33 ((x20.1.g.o).length) c35, .int .i64 x20.1.s] 34 (0, 0))])]) (fl, 0, 0) eo0_0 ⟨rfl, rfl, rfl, rfl, rfl, trivial⟩ ⟨0, [1, 2, 3, 4, 5, 6, 7, 8, 9], rfl, rfl, 1, [2, 3, 4, 5, 6, 7, 8, 9], rfl, rfl, 2, [3, 4, 5, 6, 7, 8, 9], rfl, rfl, 3, [4, 5, 6, 7, 8, 9], rfl, rfl, 4, [5, 6, 7, 8, 9], rfl, rfl, 5, [6, 7, 8, 9], rfl, rfl, 6, [7, 8, 9], rfl, rfl, 7, [8, 9], rfl, rfl, 8, [9], rfl, rfl, 9, [], rfl, rfl, trivial⟩ (by decide) ?_)
  rintro ⟨fuel, v65, v66⟩ H1
  have H1 : l_FnTouchTable_L0 fl x2 x20 fuel v65 v66 = some o0_0 := H1
  rcases fuel with _ | fuel
  ·rw [l_FnTouchTable_L0.eq_1] at H1; cases H1
  rw [l_FnTouchTable_L0.eq_2] at H1
  dsimp only
  refine cw_seq (sr (oM rfl (oA 2 Tryz.underlying34 rfl ts29 rfl (oA 0 Tryz.underlying29 rfl ts27 rfl (oL 4 ts27 rfl (oD (stp_len Tryz.underlying27 rfl) rfl (oW rfl (nn (cw_cond rfl (fun h67 => ?_) (fun h67 => ?_))))))))))
  ·have H1 := cond_t H1 h67
   obtain ⟨x68, e68, H1⟩ := bS H1
   obtain ⟨x69, e69, H1⟩ := bS H1
   refine cw_skip (kw_nx (cw_seq (cw_block (cw_seq (rdq g_mixed [3, 6, 15] [2, 4, 7, 9] { dst := dS [93, 94, 95, 96, 97, 98, 99, 100, 101, 102, 103, 104, 105], pre := gA [] [[], [0], [0, 1], [], rn 0 4, rn 0 5, [], [6], [6, 7], [], rn 6 4, rn 6 5, rn 0 12], ids := fun _ => [], rs := rL [[(6, 0)], [(92, 1)], [(93, 2)], [(15, 0)], [(94, 3), (95, 4)], [(96, 5)], [(3, 0)], [(98, 7)], [(99, 8)], [(15, 0)], [(100, 9), (101, 10)], [(102, 11)], [(97, 6), (103, 12)]], rh := rL [[], [], [(9, 0)], [], [(7, 0)], [(7, 0)], [], [], [(4, 0)], [], [(2, 0)], [(2, 0)]], V := fun i g => gA undef [.pointer (some ⟨b37, 2, none⟩), .pointer (some ⟨b37, 2, none⟩), .slice p29 ((x20.1.c.l).length) c31, .int .i64 v66, .pointer (some ⟨eB p29, eO p29 + Int.toNat v66 * Enc.sz Ln + 0, none⟩), .agg #[.bool x68.va, .int .i64 x68.tg, .int .i64 x68.pg, .int .i64 x68.fr, .int .i64 x68.ri, .bool x68.wi], .pointer (some ⟨b19, 2, none⟩), .pointer (some ⟨b19, 2, none⟩), .slice p11 ((x2.1.c.l).length) c13, .int .i64 v66, .pointer (some ⟨eB p11, eO p11 + Int.toNat v66 * Enc.sz Ln + 0, none⟩), .agg #[.bool x69.va, .int .i64 x69.tg, .int .i64 x69.pg, .int .i64 x69.fr, .int .i64 x69.ri, .bool x69.wi], .bool (x68 != x69)] i, U := fun _ _ => [], Φ := fun _ _ => True } ?_ ?_)))))
   ·exact ⟨lc rfl rfl fun hs hh => stp_fieldAddr (j := 2) Tryz.underlying34 rfl ts29 rfl (sv hs 6 rfl) rfl, lc rfl rfl fun hs hh => stp_fieldAddr (j := 0) Tryz.underlying29 rfl ts27 rfl (sv hs 92 rfl) rfl, lc rfl rfl fun hs hh => stp_load1 ts27 (sv hs 93 rfl) (Cells.box (id := 9) (hh.get 9 _ rfl) 1 rfl), lM, lc rfl rfl fun hs hh => stp_indexAddr Tryz.underlying27 ts41 (by decide) (sv hs 94 rfl) rfl (sv hs 95 rfl) (Rdb.own (id := 7) (hh.get 7 _ rfl) o32) e68, lc rfl rfl fun hs hh => stp_loadN (us := [_, _, _, _, _, _]) ts41 (sv hs 96 rfl) (Cells.el (Rdb.own (id := 7) (hh.get 7 _ rfl) o32) (by decide) e68 0 6 rfl), lc rfl rfl fun hs hh => stp_fieldAddr (j := 2) Tryz.underlying34 rfl ts29 rfl (sv hs 3 rfl) rfl, lc rfl rfl fun hs hh => stp_fieldAddr (j := 0) Tryz.underlying29 rfl ts27 rfl (sv hs 98 rfl) rfl, lc rfl rfl fun hs hh => stp_load1 ts27 (sv hs 99 rfl) (Cells.box (id := 4) (hh.get 4 _ rfl) 1 rfl), lM, lc rfl rfl fun hs hh => stp_indexAddr Tryz.underlying27 ts41 (by decide) (sv hs 100 rfl) rfl (sv hs 101 rfl) (Rdb.own (id := 2) (hh.get 2 _ rfl) o14) e69, lc rfl rfl fun hs hh => stp_loadN (us := [_, _, _, _, _, _]) ts41 (sv hs 102 rfl) (Cells.el (Rdb.own (id := 2) (hh.get 2 _ rfl) o14) (by decide) e69 0 6 rfl), lc rfl rfl fun hs hh => stp_neqS te41 x68 x69 (sv hs 97 rfl) (sv hs 103 rfl), trivial⟩
   intro g hΦ
   refine KW.sub (s' := [(3, .pointer (some ⟨b19, 0, none⟩)), (6, .pointer (some ⟨b37, 0, none⟩)), (8, .int .i64 x20.2.2.1), (14, .int .i64 v65), (15, .int .i64 v66), (104, .bool (x68 != x69))]) (h' := [(0, C6), (1, C10), (2, C14), (3, C18), (4, [(b19, .cells #[.slice p3 ((x2.1.t.b).length) c5, .slice p7 ((x2.1.t.f).length) c9, .slice p11 ((x2.1.c.l).length) c13, .int .i64 x2.1.c.h, .int .i64 x2.1.g.c, .int .i64 x2.1.g.n, .int .i64 x2.1.g.r, .slice p15 ((x2.1.g.o).length) c17, .int .i64 x2.1.s] 34 (0, 0))]), (5, C24), (6, C28), (7, C32), (8, C36), (9, [(b37, .cells #[.slice p21 ((x20.1.t.b).length) c23, .slice p25 ((x20.1.t.f).length) c27, .slice p29 ((x20.1.c.l).length) c31, .int .i64 x20.1.c.h, .int .i64 x20.1.g.c, .int .i64 x20.1.g.n, .int .i64 x20.1.g.r, .slice p33 ((x20.1.g.o).length) c35, .int .i64 x20.1.s] 34 (0, 0))])]) ?_ ⟨rfl, rfl, rfl, rfl, rfl, rfl, trivial⟩ ⟨rfl, rfl, rfl, rfl, rfl, rfl, rfl, rfl, rfl, rfl, trivial⟩
   refine kw_nx (cw_cond rfl (fun h70 => ?_) (fun h70 => ?_))
   ·have H1 := cond_t H1 h70
    obtain ⟨x71, e71, H1⟩ := bS H1
    obtain ⟨x72, e72, H1⟩ := bS H1
    exact cw_region (oM rfl (oP e71 rfl (oS rfl (ow_nil (kw_bl_normal (kw_nx (cw_region (oM rfl (oP e72 rfl (oS rfl (ow_nil (kw_lqS (js := [0, 1, 2, 3, 4, 5, 6, 7, 8, 9]) (fuel, x71, x72) H1 (Nat.lt_succ_self _) ⟨rfl, rfl, rfl, rfl, rfl, trivial⟩ ⟨0, [1, 2, 3, 4, 5, 6, 7, 8, 9], rfl, rfl, 1, [2, 3, 4, 5, 6, 7, 8, 9], rfl, rfl, 2, [3, 4, 5, 6, 7, 8, 9], rfl, rfl, 3, [4, 5, 6, 7, 8, 9], rfl, rfl, 4, [5, 6, 7, 8, 9], rfl, rfl, 5, [6, 7, 8, 9], rfl, rfl, 6, [7, 8, 9], rfl, rfl, 7, [8, 9], rfl, rfl, 8, [9], rfl, rfl, 9, [], rfl, rfl, trivial⟩ (by decide)))))))))))))
   have H1 := cond_f H1 h70
   obtain ⟨x73, e73, H1⟩ := bS H1
   exact cw_skip (kw_bl_normal (kw_nx (cw_region (oM rfl (oP e73 rfl (oS rfl (ow_nil (kw_lqS (js := [0, 1, 2, 3, 4, 5, 6, 7, 8, 9]) (fuel, v65, x73) H1 (Nat.lt_succ_self _) ⟨rfl, rfl, rfl, rfl, rfl, trivial⟩ ⟨0, [1, 2, 3, 4, 5, 6, 7, 8, 9], rfl, rfl, 1, [2, 3, 4, 5, 6, 7, 8, 9], rfl, rfl, 2, [3, 4, 5, 6, 7, 8, 9], rfl, rfl, 3, [4, 5, 6, 7, 8, 9], rfl, rfl, 4, [5, 6, 7, 8, 9], rfl, rfl, 5, [6, 7, 8, 9], rfl, rfl, 6, [7, 8, 9], rfl, rfl, 7, [8, 9], rfl, rfl, 8, [9], rfl, rfl, 9, [], rfl, rfl, trivial⟩ (by decide)))))))))
  have H1 := cond_f H1 h67
  refine cw_exit (kw_nx_exit (kw_lq_exit (kw_bl ?_)))
  obtain rfl := sI H1
  exact kw_joinS (js := [0, 1, 2, 3, 4, 5, 6, 7, 8, 9]) (v65, v66) rfl ⟨rfl, rfl, rfl, rfl, rfl, trivial⟩ ⟨0, [1, 2, 3, 4, 5, 6, 7, 8, 9], rfl, rfl, 1, [2, 3, 4, 5, 6, 7, 8, 9], rfl, rfl, 2, [3, 4, 5, 6, 7, 8, 9], rfl, rfl, 3, [4, 5, 6, 7, 8, 9], rfl, rfl, 4, [5, 6, 7, 8, 9], rfl, rfl, 5, [6, 7, 8, 9], rfl, rfl, 6, [7, 8, 9], rfl, rfl, 7, [8, 9], rfl, rfl, 8, [9], rfl, rfl, 9, [], rfl, rfl, trivial⟩ (by decide)
 rintro ⟨v65, v66⟩ rfl
 dsimp only
 obtain ⟨x74, e74, H0⟩ := bS H0
 refine kw_nx (sr (oA 4 Tryz.underlying34 rfl ts32 rfl (oB4 9 ts32 rfl (oA 4 Tryz.underlying34 rfl ts32 rfl (oB4 4 ts32 rfl (oE (stpU_call (fun i => 15 + i) cf33 (fun w hw => c_i_TagsSame fl w x20.1.g x2.1.g rfl (OwnC.pass (id := 8) rfl o36 hw) rfl (OwnC.pass (id := 3) rfl o18 hw) x74 e74) (yB rfl rfl)) rfl ?_))))))
 rintro _ _ ⟨_, ⟨rfl, rfl⟩, rfl⟩
 obtain ⟨y75, ey75, H0⟩ := bS H0
 refine oM rfl (ow_cutY 6 118 y75 ?_ ?_)
 ·rcases Bool.eq_false_or_eq_true x74 with hy75 | hy75
  ·have ey75 := cond_t ey75 hy75
   refine oG rfl hy75 (fA 8 Tryz.underlying34 rfl ts3 rfl rfl rfl) rfl (oG rfl hy75 (lB 9 ts3 rfl rfl rfl) rfl (oG rfl hy75 (fA 8 Tryz.underlying34 rfl ts3 rfl rfl rfl) rfl (oG rfl hy75 (lB 4 ts3 rfl rfl rfl) rfl (oG rfl hy75 (stp_eql rfl rfl) rfl (oD (stp_pick_t rfl hy75 rfl) rfl ?_)))))
   obtain rfl := sI ey75
   exact ow_nil (jy 6 0)
  have ey75 := cond_f ey75 hy75
  refine oO rfl hy75 rfl (oO rfl hy75 rfl (oO rfl hy75 rfl (oO rfl hy75 rfl (oO rfl hy75 rfl (oD (stp_pick_f rfl hy75 rfl) rfl ?_)))))
  obtain rfl := sI ey75
  exact ow_nil (jy 6 0)
 obtain ⟨y76, ey76, H0⟩ := bS H0
 refine oM rfl (ow_cutY 3 122 y76 ?_ ?_)
 ·rcases Bool.eq_false_or_eq_true y75 with hy76 | hy76
  ·have ey76 := cond_t ey76 hy76
   refine oG rfl hy76 (mv rfl) rfl (oG rfl hy76 (stp_leq rfl rfl) rfl (oD (stp_pick_t rfl hy76 rfl) rfl ?_))
   obtain rfl := sI ey76
   exact ow_nil (jy 3 0)
  have ey76 := cond_f ey76 hy76
  refine oO rfl hy76 rfl (oO rfl hy76 rfl (oD (stp_pick_f rfl hy76 rfl) rfl ?_))
  obtain rfl := sI ey76
  exact ow_nil (jy 3 0)
 obtain ⟨y77, ey77, H0⟩ := bS H0
 refine oM rfl (ow_cutY 7 130 y77 ?_ ?_)
 ·rcases Bool.eq_false_or_eq_true y76 with hy77 | hy77
  ·have ey77 := cond_t ey77 hy77
   obtain ⟨y78, ey78, ey77⟩ := bS ey77
   refine oG rfl hy77 (mv rfl) rfl (oG rfl hy77 (stp_neq rfl rfl) rfl (oG rfl hy77 (mv rfl) rfl (ow_cutY 3 129 y78 ?_ ?_)))
   ·rcases Bool.eq_false_or_eq_true (x20.2.2.1 != 1) with hy78 | hy78
    ·have ey78 := cond_t ey78 hy78
     refine oO rfl hy78 rfl (oO rfl hy78 rfl (oG rfl hy77 (stp_pick_t rfl hy78 rfl) rfl ?_))
     obtain rfl := sI ey78
     exact ow_nil (jy 3 0)
    have ey78 := cond_f ey78 hy78
    refine oG rfl hy78 (mv rfl) rfl (oG rfl hy78 (stp_eql rfl rfl) rfl (oG rfl hy77 (stp_pick_f rfl hy78 rfl) rfl ?_))
    obtain rfl := sI ey78
    exact ow_nil (jy 3 0)
   refine oD (stp_pick_t rfl hy77 rfl) rfl ?_
   obtain rfl := sI ey77
   exact ow_nil (jy 5 0)
  have ey77 := cond_f ey77 hy77
  refine oO rfl hy77 rfl (oO rfl hy77 rfl (oO rfl hy77 rfl (oX rfl rfl rfl (oX rfl rfl rfl (oO rfl hy77 rfl (oD (stp_pick_f rfl hy77 rfl) rfl ?_))))))
  obtain rfl := sI ey77
  exact ow_nil (jy 7 0)
 refine oS rfl (nn (cw_ret ?_))
 obtain rfl := sI H0
 exact kr Tryz.results7 (rT rfl) [] ⟨rfl, rfl⟩
end Go.Proofs.YtkohlcjdagckhaaGreatDoor
