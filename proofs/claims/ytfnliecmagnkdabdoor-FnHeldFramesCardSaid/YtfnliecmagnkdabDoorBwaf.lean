/- The walks: functions of the program return what their pure functions say. Printed by a program (gen.py). -/
import Derived.Test.YtfnliecmagnkdabDoorBp
import Derived.Test.YtfnliecmagnkdabDoorBt
import Derived.Test.YtfnliecmagnkdabDoorMan
import Derived.Test.YtfnliecmagnkdabDoorMap
import Derived.Test.YtfnliecmagnkdabDoorCpy
import Derived.Test.YtfnliecmagnkdabDoorClr
import Derived.Test.YtfnliecmagnkdabDoorDp
import Derived.Test.YtfnliecmagnkdabDoorSrt
import Derived.Test.YtfnliecmagnkdabDoorE8
import Derived.Test.YtfnliecmagnkdabDoorBws
set_option linter.unusedSimpArgs false
set_option linter.unusedVariables false
set_option linter.unusedSectionVars false
namespace Go.Proofs.YtfnliecmagnkdabDoor
open Go.RowKit
set_option maxHeartbeats 4000000
set_option maxRecDepth 20000
variable {p0_0 p0_1 p0_2 : Option Addr} {n0_0 n0_1 n0_2 : Nat} {c0_0 c0_1 c0_2 : Nat}
theorem c_slices_Clone_Int (fl : Nat) (w : World) (a0 : (List Int)) (hn0_0 : n0_0 = (a0).length) (hr0_0 : RO w (hkeys []) (RdL p0_0 c0_0 a0)) (r : (List Int)) (H0 : slices_Clone_Int fl a0 = some r) :
  Ct Tryd.prog 129 [.slice p0_0 n0_0 c0_0] w [] (fun rv h' => ∃ (x0 : Option Addr) (y0 z0 : Nat) (C0 : Res), rv = .slice x0 y0 z0 ∧ h' = [(0, C0)] ∧ y0 = (r).length ∧ OwnC 3 x0 z0 r C0) := by
 subst hn0_0
 unfold slices_Clone_Int at H0
 refine ct_of_cw Tryd.func129 rfl Tryd.ntmps129 rfl (Sat.refl _ _) ?_
 refine sr (oS rfl (nn (cw_seq (sr (oM rfl (oD (stp_eqlNil Tryd.underlying22 rfl) rfl (nn (cw_cond rfl (fun h1 => ?_) (fun h1 => ?_)))))))))
 ·have := True.intro
  obtain rfl : p0_0 = none := by simpa using h1
  obtain rfl : a0 = [] := nil_of_none hr0_0
  obtain rfl : r = [] := (cnt_some H0).1
  exact sr (oS rfl (nn (cw_ret (kw_nx_ret (kw_addNil 0 (kw_ret Tryd.results129 (rT rfl) [(0, [])] [0] ⟨0, [], rfl, rfl, trivial⟩ (by decide) ⟨none, 0, 0, [], rfl, rfl, rfl, (OwnC.nil _ _)⟩))))))
 have := True.intro
 refine cw_skip (kw_nx (sr (oE (stpU_lit0 sl22 1) rfl ?_)))
 rintro _ _ ⟨p2, C3, rfl, rfl, o3⟩
 refine oM rfl ?_
 have e4 : cnt (([] : List Int) ++ a0) = some r := H0
 refine oE (stpU_append sl22 rfl (id := 1) rfl (by simp) rfl rfl rfl o3 (Rdb.ro hr0_0) e4) rfl ?_
 rintro _ _ ⟨p5, c6, C7, rfl, rfl, o7⟩
 exact oS rfl (nn (cw_ret (kw_ret Tryd.results129 (rT rfl) [(0, C7)] [1] ⟨1, [], rfl, rfl, trivial⟩ (by decide) ⟨p5, ((r).length), c6, C7, rfl, rfl, rfl, o7⟩)))

theorem c_slices_Clone_Frame (fl : Nat) (w : World) (a0 : (List F)) (hn0_0 : n0_0 = (a0).length) (hr0_0 : RO w (hkeys []) (RdL p0_0 c0_0 a0)) (r : (List F)) (H0 : slices_Clone_Frame fl a0 = some r) :
  Ct Tryd.prog 131 [.slice p0_0 n0_0 c0_0] w [] (fun rv h' => ∃ (x0 : Option Addr) (y0 z0 : Nat) (C0 : Res), rv = .slice x0 y0 z0 ∧ h' = [(0, C0)] ∧ y0 = (r).length ∧ OwnC 71 x0 z0 r C0) := by
 subst hn0_0
 unfold slices_Clone_Frame at H0
 refine ct_of_cw Tryd.func131 rfl Tryd.ntmps131 rfl (Sat.refl _ _) ?_
 refine sr (oS rfl (nn (cw_seq (sr (oM rfl (oD (stp_eqlNil Tryd.underlying32 rfl) rfl (nn (cw_cond rfl (fun h1 => ?_) (fun h1 => ?_)))))))))
 ·have := True.intro
  obtain rfl : p0_0 = none := by simpa using h1
  obtain rfl : a0 = [] := nil_of_none hr0_0
  obtain rfl : r = [] := (cnt_some H0).1
  exact sr (oS rfl (nn (cw_ret (kw_nx_ret (kw_addNil 0 (kw_ret Tryd.results131 (rT rfl) [(0, [])] [0] ⟨0, [], rfl, rfl, trivial⟩ (by decide) ⟨none, 0, 0, [], rfl, rfl, rfl, (OwnC.nil _ _)⟩))))))
 have := True.intro
 refine cw_skip (kw_nx (sr (oE (stpU_lit0 sl32 1) rfl ?_)))
 rintro _ _ ⟨p2, C3, rfl, rfl, o3⟩
 refine oM rfl ?_
 have e4 : cnt (([] : List F) ++ a0) = some r := H0
 refine oE (stpU_append sl32 rfl (id := 1) rfl (by simp) rfl rfl rfl o3 (Rdb.ro hr0_0) e4) rfl ?_
 rintro _ _ ⟨p5, c6, C7, rfl, rfl, o7⟩
 exact oS rfl (nn (cw_ret (kw_ret Tryd.results131 (rT rfl) [(0, C7)] [1] ⟨1, [], rfl, rfl, trivial⟩ (by decide) ⟨p5, ((r).length), c6, C7, rfl, rfl, rfl, o7⟩)))

theorem c_i_Table_clone (fl : Nat) (w : World) (a0 : T) (hn0_0 : n0_0 = (a0.b).length) (hr0_0 : RO w (hkeys []) (RdL p0_0 c0_0 a0.b)) (hn0_1 : n0_1 = (a0.f).length) (hr0_1 : RO w (hkeys []) (RdL p0_1 c0_1 a0.f)) (r : T) (H0 : i_Table_clone fl a0 = some r) :
  Ct Tryd.prog 95 [.agg #[.slice p0_0 n0_0 c0_0, .slice p0_1 n0_1 c0_1]] w [] (fun rv h' => ∃ (x0 : Option Addr) (y0 z0 : Nat) (C0 : Res) (x1 : Option Addr) (y1 z1 : Nat) (C1 : Res), rv = .agg #[.slice x0 y0 z0, .slice x1 y1 z1] ∧ h' = [(0, C0), (1, C1)] ∧ y0 = (r.b).length ∧ OwnC 3 x0 z0 r.b C0 ∧ y1 = (r.f).length ∧ OwnC 71 x1 z1 r.f C1) := by
 subst hn0_0 hn0_1
 unfold i_Table_clone at H0
 refine ct_of_cw Tryd.func95 rfl Tryd.ntmps95 rfl (Sat.refl _ _) ?_
 refine sr (oE (stpU_box 0 rfl rfl) rfl ?_)
 rintro _ _ ⟨b1, rfl, rfl⟩
 refine oE (stpU_alloc 1 tz34 rfl) rfl ?_
 rintro _ _ ⟨b2, rfl, rfl⟩
 obtain ⟨x3, e3, H0⟩ := bS H0
 obtain ⟨x8, e8, H0⟩ := bS H0
 refine nn (cw_seq (rdq g_mixed [1, 2] [0, 1] { dst := dS [4, 5, 6, 7, 8, 9, 10, 11, 12, 0], pre := gA [] [[], [0], [0, 1], [0, 1, 2], [], [4], rn 0 6, rn 0 7, rn 0 8, rn 0 9], ids := gA [] [[], [], [2], [], [], [], [3], [], [], [1]], rs := rL [[(1, 0)], [(3, 1)], [(4, 2)], [(5, 3)], [(1, 0)], [(7, 5)], [(8, 6)], [(9, 7)], [(6, 4), (10, 8)], [(2, 0), (11, 9)]], rh := rL [[], [(0, 0)], [], [], [], [(0, 0)], [], [], [], [(1, 0)]], V := fun i g => gA undef [.pointer (some ⟨b1, 0, none⟩), .slice p0_0 ((a0.b).length) c0_0, .slice ((g 2).A 0) ((x3).length) ((g 2).C 0), .slice ((g 2).A 0) ((x3).length) ((x3).length), .pointer (some ⟨b1, 1, none⟩), .slice p0_1 ((a0.f).length) c0_1, .slice ((g 6).A 0) ((x8).length) ((g 6).C 0), .slice ((g 6).A 0) ((x8).length) ((x8).length), .agg #[.slice ((g 2).A 0) ((x3).length) ((x3).length), .slice ((g 6).A 0) ((x8).length) ((x8).length)]] i, U := fun i g => gA [] [[], [], [(2, ((g 2).R 0))], [], [], [], [(3, ((g 6).R 0))], [], [], [(1, [(b2, .cells #[.slice ((g 2).A 0) ((x3).length) ((x3).length), .slice ((g 6).A 0) ((x8).length) ((x8).length)] 34 (0, 0))])]] i, Φ := fun i x => match i with | 2 => OwnC 3 (x.A 0) (x.C 0) x3 (x.R 0) | 6 => OwnC 71 (x.A 0) (x.C 0) x8 (x.R 0) | _ => True } ?_ ?_))
 ·refine ⟨lc rfl rfl fun hs hh => stp_fieldAddr (j := 0) Tryd.underlying34 rfl ts22 rfl (sv hs 1 rfl) rfl, lc rfl rfl fun hs hh => stp_load1 ts22 (sv hs 3 rfl) (Cells.box (id := 0) (hh.get 0 _ rfl) 1 rfl), ?_, ?_, lc rfl rfl fun hs hh => stp_fieldAddr (j := 1) Tryd.underlying34 rfl ts32 rfl (sv hs 1 rfl) rfl, lc rfl rfl fun hs hh => stp_load1 ts32 (sv hs 7 rfl) (Cells.box (id := 0) (hh.get 0 _ rfl) 1 rfl), ?_, ?_, ld rfl rfl fun g hΦ s h hs hh => stp_build (cs := #[.slice ((g 2).A 0) ((x3).length) ((x3).length), .slice ((g 6).A 0) ((x8).length) ((x8).length)]) (sevp_cons (sv hs 6 rfl) (sevp_cons (sv hs 10 rfl) sevp_nil)) bt34_1, ?_, trivial⟩
  ·refine le rfl rfl (fun g hΦ s h hs hh => (stpU_call (fun i => 2 + i) cf129 (fun w hw => c_slices_Clone_Int fl w a0.b rfl (RO.pass hr0_0 hw) x3 e3) (yA (sv hs 4 rfl)))) ?_
   rintro g _ _ ⟨_, ⟨p4, _, c6, C7, rfl, rfl, rfl, o7⟩, rfl⟩
   exact ⟨⟨[p4], [c6], [C7]⟩, o7, .inr rfl, rfl⟩
  ·refine le rfl rfl (fun g hΦ s h hs hh => (stpU_call (fun i => i) cf82 (fun w hw => c_clip82 w ((g 2).A 0) ((x3).length) ((g 2).C 0) (OwnC.len (hΦ 2 rfl)).1) (yA (sv hs 5 rfl)))) ?_
   rintro g _ _ ⟨_, ⟨rfl, rfl⟩, rfl⟩
   exact ⟨⟨[], [], []⟩, trivial, .inr rfl, rfl⟩
  ·refine le rfl rfl (fun g hΦ s h hs hh => (stpU_call (fun i => 3 + i) cf131 (fun w hw => c_slices_Clone_Frame fl w a0.f rfl (RO.pass hr0_1 hw) x8 e8) (yA (sv hs 8 rfl)))) ?_
   rintro g _ _ ⟨_, ⟨p9, _, c11, C12, rfl, rfl, rfl, o12⟩, rfl⟩
   exact ⟨⟨[p9], [c11], [C12]⟩, o12, .inr rfl, rfl⟩
  ·refine le rfl rfl (fun g hΦ s h hs hh => (stpU_call (fun i => i) cf130 (fun w hw => c_clip130 w ((g 6).A 0) ((x8).length) ((g 6).C 0) (OwnC.len (hΦ 6 rfl)).1) (yA (sv hs 9 rfl)))) ?_
   rintro g _ _ ⟨_, ⟨rfl, rfl⟩, rfl⟩
   exact ⟨⟨[], [], []⟩, trivial, .inr rfl, rfl⟩
  refine le rfl rfl (fun g hΦ s h hs hh => (stpU_store (id := 1) (cs' := [.slice ((g 2).A 0) ((x3).length) ((x3).length), .slice ((g 6).A 0) ((x8).length) ((x8).length)]) ts34 (sv hs 2 rfl) (sv hs 11 rfl) (hh.get 1 _ rfl) rfl rfl rfl rfl)) ?_
  rintro g _ _ rfl
  exact ⟨⟨[], [], []⟩, trivial, .inl rfl, rfl⟩
 intro g hΦ
 refine kw_gen (ι := Option Addr × Nat × Res × Option Addr × Nat × Res) (((g 2).A 0), ((g 2).C 0), ((g 2).R 0), ((g 6).A 0), ((g 6).C 0), ((g 6).R 0)) (fun | (p4, c6, C7, p9, c11, C12) => OwnC 3 p4 c6 x3 C7 ∧ OwnC 71 p9 c11 x8 C12) (fun | (p4, c6, C7, p9, c11, C12) => [(2, .pointer (some ⟨b2, 0, none⟩))]) (fun | (p4, c6, C7, p9, c11, C12) => [(1, [(b2, .cells #[.slice p4 ((x3).length) ((x3).length), .slice p9 ((x8).length) ((x8).length)] 34 (0, 0))]), (2, C7), (3, C12)]) ⟨(hΦ 2 (by decide)), (hΦ 6 (by decide))⟩ ⟨rfl, trivial⟩ ⟨rfl, rfl, rfl, trivial⟩ ?_
 rintro ⟨p4, c6, C7, p9, c11, C12⟩ ⟨o7, o12⟩
 dsimp only
 refine kw_nx (cw_ret ?_)
 obtain rfl := sI H0
 exact kr Tryd.results95 (rC2 1 ts34 rfl rfl) [2, 3] ⟨_, _, _, _, _, _, _, _, rfl, rfl, rfl, (OwnC.clip o7), rfl, (OwnC.clip o12)⟩

theorem c_slices_Clone_Note (fl : Nat) (w : World) (a0 : (List Nt)) (hn0_0 : n0_0 = (a0).length) (hr0_0 : RO w (hkeys []) (RdL p0_0 c0_0 a0)) (r : (List Nt)) (H0 : slices_Clone_Note fl a0 = some r) :
  Ct Tryd.prog 96 [.slice p0_0 n0_0 c0_0] w [] (fun rv h' => ∃ (x0 : Option Addr) (y0 z0 : Nat) (C0 : Res), rv = .slice x0 y0 z0 ∧ h' = [(0, C0)] ∧ y0 = (r).length ∧ OwnC 55 x0 z0 r C0) := by
 subst hn0_0
 unfold slices_Clone_Note at H0
 refine ct_of_cw Tryd.func96 rfl Tryd.ntmps96 rfl (Sat.refl _ _) ?_
 refine sr (oS rfl (nn (cw_seq (sr (oM rfl (oD (stp_eqlNil Tryd.underlying51 rfl) rfl (nn (cw_cond rfl (fun h1 => ?_) (fun h1 => ?_)))))))))
 ·have := True.intro
  obtain rfl : p0_0 = none := by simpa using h1
  obtain rfl : a0 = [] := nil_of_none hr0_0
  obtain rfl : r = [] := (cnt_some H0).1
  exact sr (oS rfl (nn (cw_ret (kw_nx_ret (kw_addNil 0 (kw_ret Tryd.results96 (rT rfl) [(0, [])] [0] ⟨0, [], rfl, rfl, trivial⟩ (by decide) ⟨none, 0, 0, [], rfl, rfl, rfl, (OwnC.nil _ _)⟩))))))
 have := True.intro
 refine cw_skip (kw_nx (sr (oE (stpU_lit0 sl51 1) rfl ?_)))
 rintro _ _ ⟨p2, C3, rfl, rfl, o3⟩
 refine oM rfl ?_
 have e4 : cnt (([] : List Nt) ++ a0) = some r := H0
 refine oE (stpU_append sl51 rfl (id := 1) rfl (by simp) rfl rfl rfl o3 (Rdb.ro hr0_0) e4) rfl ?_
 rintro _ _ ⟨p5, c6, C7, rfl, rfl, o7⟩
 exact oS rfl (nn (cw_ret (kw_ret Tryd.results96 (rT rfl) [(0, C7)] [1] ⟨1, [], rfl, rfl, trivial⟩ (by decide) ⟨p5, ((r).length), c6, C7, rfl, rfl, rfl, o7⟩)))

theorem c_i_System_clone (fl : Nat) (w : World) (a0 : Sy) (hn0_0 : n0_0 = (a0.t.b).length) (hr0_0 : RO w (hkeys []) (RdL p0_0 c0_0 a0.t.b)) (hn0_1 : n0_1 = (a0.t.f).length) (hr0_1 : RO w (hkeys []) (RdL p0_1 c0_1 a0.t.f)) (hn0_2 : n0_2 = (a0.c).length) (hr0_2 : ROD w (hkeys []) p0_2 c0_2 a0.c) (r : Sy) (H0 : i_System_clone fl a0 = some r) :
  Ct Tryd.prog 47 [.agg #[.slice p0_0 n0_0 c0_0, .slice p0_1 n0_1 c0_1, .slice p0_2 n0_2 c0_2]] w [] (fun rv h' => ∃ (x0 : Option Addr) (y0 z0 : Nat) (C0 : Res) (x1 : Option Addr) (y1 z1 : Nat) (C1 : Res) (x2 : Option Addr) (y2 z2 : Nat) (C2 : Res), rv = .agg #[.slice x0 y0 z0, .slice x1 y1 z1, .slice x2 y2 z2] ∧ h' = [(0, C0), (1, C1), (2, C2)] ∧ y0 = (r.t.b).length ∧ OwnC 3 x0 z0 r.t.b C0 ∧ y1 = (r.t.f).length ∧ OwnC 71 x1 z1 r.t.f C1 ∧ y2 = (r.c).length ∧ OwnD 53 55 x2 z2 r.c C2) := by
 subst hn0_0 hn0_1 hn0_2
 unfold i_System_clone at H0
 refine ct_of_cw Tryd.func47 rfl Tryd.ntmps47 rfl (Sat.refl _ _) ?_
 refine sr (oE (stpU_box 0 rfl rfl) rfl ?_)
 rintro _ _ ⟨b1, rfl, rfl⟩
 refine oE (stpU_alloc 1 tz37 rfl) rfl ?_
 rintro _ _ ⟨b2, rfl, rfl⟩
 obtain ⟨x3, e3, H0⟩ := bS H0
 obtain ⟨x12, e12, H0⟩ := bS H0
 refine nn (cw_seq (rdq g_mixed [1] [0] { dst := dS [7, 8, 9, 10, 11, 12, 13, 14, 4, 0], pre := gA [] [[], [0], [0, 1], [], [3], [3, 4], [3, 4, 5], rn 0 7, [], rn 0 9], ids := gA [] [[], [], [2, 3], [], [], [], [4], [], [5], [5]], rs := rL [[(1, 0)], [(6, 1)], [(7, 2)], [(1, 0)], [(9, 4)], [(10, 5)], [(11, 6)], [(8, 3), (12, 7)], [], [(3, 9), (13, 8)]], rh := rL [[], [(0, 0)], [], [], [(0, 0)], [], [], [], [], [(5, 9)]], V := fun i g => gA undef [.pointer (some ⟨b1, 0, none⟩), .agg #[.slice p0_0 ((a0.t.b).length) c0_0, .slice p0_1 ((a0.t.f).length) c0_1], .agg #[.slice ((g 2).A 0) ((x3.b).length) ((g 2).C 0), .slice ((g 2).A 1) ((x3.f).length) ((g 2).C 1)], .pointer (some ⟨b1, 2, none⟩), .slice p0_2 ((a0.c).length) c0_2, .int .i64 ((a0.c).length : Int), .slice ((g 6).A 0) x12 x12, .agg #[.slice ((g 2).A 0) ((x3.b).length) ((g 2).C 0), .slice ((g 2).A 1) ((x3.f).length) ((g 2).C 1), .slice ((g 6).A 0) x12 x12], .pointer (some ⟨((g 8).C 0), 0, none⟩)] i, U := fun i g => gA [] [[], [], [(2, ((g 2).R 0)), (3, ((g 2).R 1))], [], [], [], [(4, ((g 6).R 0))], [], [(5, [(((g 8).C 0), .cells #[.slice none 0 0, .slice none 0 0, .slice none 0 0] 37 (0, 0))])], [(5, [(((g 8).C 0), .cells #[.slice ((g 2).A 0) ((x3.b).length) ((g 2).C 0), .slice ((g 2).A 1) ((x3.f).length) ((g 2).C 1), .slice ((g 6).A 0) x12 x12] 37 (0, 0))])]] i, Φ := fun i x => match i with | 2 => OwnC 3 (x.A 0) (x.C 0) x3.b (x.R 0) ∧ OwnC 71 (x.A 1) (x.C 1) x3.f (x.R 1) | 6 => OwnD 53 55 (x.A 0) x12 (List.replicate x12 (⟨[], []⟩ : Cp)) (x.R 0) | _ => True } ?_ ?_))
 ·refine ⟨lc rfl rfl fun hs hh => stp_fieldAddr (j := 0) Tryd.underlying37 rfl ts34 rfl (sv hs 1 rfl) rfl, lc rfl rfl fun hs hh => stp_loadN (us := [_, _]) ts34 (sv hs 6 rfl) (Cells.box (id := 0) (hh.get 0 _ rfl) 2 rfl), ?_, lc rfl rfl fun hs hh => stp_fieldAddr (j := 2) Tryd.underlying37 rfl ts35 rfl (sv hs 1 rfl) rfl, lc rfl rfl fun hs hh => stp_load1 ts35 (sv hs 9 rfl) (Cells.box (id := 0) (hh.get 0 _ rfl) 1 rfl), lc rfl rfl fun hs hh => stp_len Tryd.underlying35 (sv hs 10 rfl), ?_, ld rfl rfl fun g hΦ s h hs hh => stp_build (cs := #[.slice ((g 2).A 0) ((x3.b).length) ((g 2).C 0), .slice ((g 2).A 1) ((x3.f).length) ((g 2).C 1), .slice ((g 6).A 0) x12 x12]) (sevp_cons (sv hs 8 rfl) (sevp_cons (sv hs 12 rfl) sevp_nil)) bt37_5, ?_, ?_, trivial⟩
  ·refine le rfl rfl (fun g hΦ s h hs hh => (stpU_call (fun i => 2 + i) cf95 (fun w hw => c_i_Table_clone fl w a0.t rfl (RO.pass hr0_0 hw) rfl (RO.pass hr0_1 hw) x3 e3) (yA (sv hs 7 rfl)))) ?_
   rintro g _ _ ⟨_, ⟨p4, _, c6, C7, p8, _, c10, C11, rfl, rfl, rfl, o7, rfl, o11⟩, rfl⟩
   exact ⟨⟨[p4, p8], [c6, c10], [C7, C11]⟩, ⟨o7, o11⟩, .inr rfl, rfl⟩
  ·refine le rfl rfl (fun g hΦ s h hs hh => (stpU_makeD 55 sl35 rfl 4 (sv hs 11 rfl) (sv hs 11 rfl) e12)) ?_
   rintro g _ _ ⟨p13, C14, rfl, rfl, o14⟩
   exact ⟨⟨[p13], [], [C14]⟩, o14, .inr rfl, rfl⟩
  ·refine le rfl rfl (fun g hΦ s h hs hh => (stpU_alloc 5 tz37 rfl)) ?_
   rintro g _ _ ⟨b15, rfl, rfl⟩
   exact ⟨⟨[], [b15], []⟩, trivial, .inr rfl, rfl⟩
  refine le rfl rfl (fun g hΦ s h hs hh => (stpU_store (id := 5) (cs' := [.slice ((g 2).A 0) ((x3.b).length) ((g 2).C 0), .slice ((g 2).A 1) ((x3.f).length) ((g 2).C 1), .slice ((g 6).A 0) x12 x12]) ts37 (sv hs 3 rfl) (sv hs 13 rfl) (hh.get 5 _ rfl) rfl rfl rfl rfl)) ?_
  rintro g _ _ rfl
  exact ⟨⟨[], [], []⟩, trivial, .inl rfl, rfl⟩
 intro g hΦ
 refine kw_gen (ι := Option Addr × Option Addr × Nat × Nat × Res × Res × Option Addr × Res × Nat) (((g 2).A 0), ((g 2).A 1), ((g 2).C 0), ((g 2).C 1), ((g 2).R 0), ((g 2).R 1), ((g 6).A 0), ((g 6).R 0), ((g 8).C 0)) (fun | (p4, p8, c6, c10, C7, C11, p13, C14, b15) => OwnC 3 p4 c6 x3.b C7 ∧ OwnC 71 p8 c10 x3.f C11 ∧ OwnD 53 55 p13 x12 (List.replicate x12 (⟨[], []⟩ : Cp)) C14) (fun | (p4, p8, c6, c10, C7, C11, p13, C14, b15) => [(1, .pointer (some ⟨b1, 0, none⟩)), (2, .pointer (some ⟨b2, 0, none⟩)), (3, .pointer (some ⟨b15, 0, none⟩))]) (fun | (p4, p8, c6, c10, C7, C11, p13, C14, b15) => [(0, [(b1, .cells #[.slice p0_0 ((a0.t.b).length) c0_0, .slice p0_1 ((a0.t.f).length) c0_1, .slice p0_2 ((a0.c).length) c0_2] 37 (0, 0))]), (1, [(b2, .cells #[.slice none 0 0, .slice none 0 0, .slice none 0 0] 37 (0, 0))]), (2, C7), (3, C11), (4, C14), (5, [(b15, .cells #[.slice p4 ((x3.b).length) c6, .slice p8 ((x3.f).length) c10, .slice p13 x12 x12] 37 (0, 0))])]) ⟨(hΦ 2 (by decide)).1, (hΦ 2 (by decide)).2, (hΦ 6 (by decide))⟩ ⟨rfl, rfl, rfl, trivial⟩ ⟨rfl, rfl, rfl, rfl, rfl, rfl, trivial⟩ ?_
 rintro ⟨p4, p8, c6, c10, C7, C11, p13, C14, b15⟩ ⟨o7, o11, o14⟩
 dsimp only
 obtain ⟨o0_0, eo0_0, H0⟩ := bS H0
 refine kw_nx (cw_seq (sr (oA 2 Tryd.underlying37 rfl ts35 rfl (oL 0 ts35 rfl (oD (stp_len Tryd.underlying35 rfl) rfl (oM rfl (nn (cw_join (ι := (List Cp) × Int × Res) (fun | (v16, v18, C17) => o0_0 = .out (v16, v18) ∧ x12 = (v16).length ∧ OwnD 53 55 p13 x12 v16 C17) (fun | (v16, v18, C17) => [(2, .pointer (some ⟨b2, 0, none⟩)), (3, .pointer (some ⟨b15, 0, none⟩)), (15, .slice p0_2 ((a0.c).length) c0_2), (16, .int .i64 ((a0.c).length : Int)), (17, .int .i64 v18)]) (fun | (v16, v18, C17) => [(1, [(b2, .cells #[.slice none 0 0, .slice none 0 0, .slice none 0 0] 37 (0, 0))]), (2, C7), (3, C11), (4, C17), (5, [(b15, .cells #[.slice p4 ((x3.b).length) c6, .slice p8 ((x3.f).length) c10, .slice p13 x12 x12] 37 (0, 0))])]) ?_ ?_))))))))
 ·refine cw_block (cw_loopS (ι := Nat × (List Cp) × Int × Res) (js := [1, 2, 3, 4, 5]) (fun x => x.1) (fun | (fuel, v16, v18, C17) => i_System_clone_L0 fl a0 fuel v16 v18 = some o0_0 ∧ x12 = (v16).length ∧ OwnD 53 55 p13 x12 v16 C17) (fun | (_, v16, v18, C17) => [(2, .pointer (some ⟨b2, 0, none⟩)), (3, .pointer (some ⟨b15, 0, none⟩)), (15, .slice p0_2 ((a0.c).length) c0_2), (16, .int .i64 ((a0.c).length : Int)), (17, .int .i64 v18)]) (fun | (_, v16, v18, C17) => [(1, [(b2, .cells #[.slice none 0 0, .slice none 0 0, .slice none 0 0] 37 (0, 0))]), (2, C7), (3, C11), (4, C17), (5, [(b15, .cells #[.slice p4 ((x3.b).length) c6, .slice p8 ((x3.f).length) c10, .slice p13 x12 x12] 37 (0, 0))])]) (fl, (List.replicate x12 (⟨[], []⟩ : Cp)), 0, C14) ⟨eo0_0, (by simp), o14⟩ ⟨rfl, rfl, rfl, rfl, rfl, trivial⟩ ⟨1, [2, 3, 4, 5], rfl, rfl, 2, [3, 4, 5], rfl, rfl, 3, [4, 5], rfl, rfl, 4, [5], rfl, rfl, 5, [], rfl, rfl, trivial⟩ (by decide) ?_)
  rintro ⟨fuel, v16, v18, C17⟩ ⟨H1, hl17, o17⟩
  have H1 : i_System_clone_L0 fl a0 fuel v16 v18 = some o0_0 := H1
  rcases fuel with _ | fuel
  ·rw [i_System_clone_L0.eq_1] at H1; cases H1
  rw [i_System_clone_L0.eq_2] at H1
  dsimp only
  refine sr (oW rfl (nn (cw_seq (cw_cond rfl (fun h19 => ?_) (fun h19 => ?_)))))
  ·have H1 := cond_t H1 h19
   obtain ⟨x20, e20, H1⟩ := bS H1
   refine cw_skip (kw_nx (cw_seq (cw_block (sr (oM rfl ?_)))))
   obtain ⟨u21, p22, n23, c24, p25, n26, c27, hw21, hl21, hx21, rfl, hr21, rfl, hs21⟩ := ROD.get hr0_2 e20
   refine oD (stp_indexAddr Tryd.underlying35 ts53 (by decide) rfl hl21 rfl (Rdb.ro hw21) hx21) rfl (oD (stp_loadN (us := [_, _]) ts53 rfl (Cells.el (Rdb.ro hw21) (by decide) hx21 0 2 rfl)) rfl (oE (stpU_alloc 6 tz53 rfl) rfl ?_))
   rintro _ _ ⟨b28, rfl, rfl⟩
   obtain ⟨x29, e29, H1⟩ := bS H1
   obtain ⟨x34, e34, H1⟩ := bS H1
   obtain ⟨x39, e39, H1⟩ := bS H1
   refine oS rfl (oC2 6 ts53 rfl rfl (nn (cw_open 4 9 10 11 rfl o17 e39 ?_)))
   rintro u40 p41 n42 c43 p44 n45 c46 C47 C48 C49 C50 o47 hb48 hx40 rfl o49 rfl o50
   refine rdq g_mixed [3, 4, 5] [4, 5, 6] { dst := dS [23, 24, 25, 26, 27, 28, 29, 30, 31, 32, 33, 34, 35, 0], pre := gA [] [[], [0], [], [], [3], [3, 4], [3, 4, 5], [], [7], rn 3 6, rn 3 7, rn 3 8, rn 0 12, rn 0 13], ids := fun i => match i with | 5 => [7] | 9 => [8] | 13 => [4, 7, 8] | _ => [], rs := rL [[(3, 0)], [(22, 1)], [(4, 0)], [(5, 0)], [(25, 4)], [(26, 5)], [(27, 6)], [(5, 0)], [(29, 8)], [(30, 9)], [(31, 10)], [(28, 7), (32, 11)], [(23, 2), (24, 3)], [(34, 13), (33, 12)]], rh := rL [[], [(5, 0)], [], [], [(6, 0)], [], [], [], [(6, 0)], [], [], [], [(4, 0)], [(4, 0), (7, 6), (8, 10)]], V := fun i g => gA undef [.pointer (some ⟨b15, 2, none⟩), .slice p13 x12 x12, .int .i64 v18, .pointer (some ⟨b28, 0, none⟩), .slice p22 ((x20.n).length) c24, .slice ((g 5).A 0) ((x29).length) ((g 5).C 0), .slice ((g 5).A 0) ((x29).length) ((x29).length), .pointer (some ⟨b28, 1, none⟩), .slice p25 ((x20.w).length) c27, .slice ((g 9).A 0) ((x34).length) ((g 9).C 0), .slice ((g 9).A 0) ((x34).length) ((x34).length), .agg #[.slice ((g 5).A 0) ((x29).length) ((x29).length), .slice ((g 9).A 0) ((x34).length) ((x34).length)], .pointer (some ⟨eB p13, eO p13 + Int.toNat v18 * Enc.sz CpS + 0, none⟩)] i, U := fun i g => match i with | 5 => [(7, ((g 5).R 0))] | 9 => [(8, ((g 9).R 0))] | 13 => [(4, ((g 13).R 0)), (7, ((g 13).R 1)), (8, ((g 13).R 2))] | _ => [], Φ := fun i x => match i with | 5 => OwnC 55 (x.A 0) (x.C 0) x29 (x.R 0) | 9 => OwnC 55 (x.A 0) (x.C 0) x34 (x.R 0) | 13 => OwnC (α := CpS) 53 p13 x12 (u40.set (Int.toNat v18) (⟨(x.A 0), (x29).length, (x.C 0), (x.A 1), (x34).length, (x.C 1)⟩ : CpS)) (x.R 0) ∧ OwnC 55 (x.A 0) (x.C 0) x29 (x.R 1) ∧ OwnC 55 (x.A 1) (x.C 1) x34 (x.R 2) | _ => True } ?_ ?_
   ·refine ⟨lc rfl rfl fun hs hh => stp_fieldAddr (j := 2) Tryd.underlying37 rfl ts35 rfl (sv hs 3 rfl) rfl, lc rfl rfl fun hs hh => stp_load1 ts35 (sv hs 22 rfl) (Cells.box (id := 5) (hh.get 5 _ rfl) 1 rfl), lM, lc rfl rfl fun hs hh => stp_fieldAddr (j := 0) Tryd.underlying53 rfl ts51 rfl (sv hs 5 rfl) rfl, lc rfl rfl fun hs hh => stp_load1 ts51 (sv hs 25 rfl) (Cells.box (id := 6) (hh.get 6 _ rfl) 1 rfl), ?_, ?_, lc rfl rfl fun hs hh => stp_fieldAddr (j := 1) Tryd.underlying53 rfl ts51 rfl (sv hs 5 rfl) rfl, lc rfl rfl fun hs hh => stp_load1 ts51 (sv hs 29 rfl) (Cells.box (id := 6) (hh.get 6 _ rfl) 1 rfl), ?_, ?_, ld rfl rfl fun g hΦ s h hs hh => stp_build (cs := #[.slice ((g 5).A 0) ((x29).length) ((x29).length), .slice ((g 9).A 0) ((x34).length) ((x34).length)]) (sevp_cons (sv hs 28 rfl) (sevp_cons (sv hs 32 rfl) sevp_nil)) bt53_3, lc rfl rfl fun hs hh => stp_indexAddr Tryd.underlying35 ts53 (by decide) (sv hs 23 rfl) (Eq.trans (a := x12) (b := (v16).length) (by simp [hl17]) (Bun.len hb48)) (sv hs 24 rfl) (Rdb.own (id := 4) (hh.get 4 _ rfl) o47) hx40, ?_, trivial⟩
    ·refine le rfl rfl (fun g hΦ s h hs hh => (stpU_call (fun i => 7 + i) cf96 (fun w hw => c_slices_Clone_Note fl w x20.n rfl (RO.pass hr21 hw) x29 e29) (yA (sv hs 26 rfl)))) ?_
     rintro g _ _ ⟨_, ⟨p30, _, c32, C33, rfl, rfl, rfl, o33⟩, rfl⟩
     exact ⟨⟨[p30], [c32], [C33]⟩, o33, .inr rfl, rfl⟩
    ·refine le rfl rfl (fun g hΦ s h hs hh => (stpU_call (fun i => i) cf51 (fun w hw => c_clip51 w ((g 5).A 0) ((x29).length) ((g 5).C 0) (OwnC.len (hΦ 5 rfl)).1) (yA (sv hs 27 rfl)))) ?_
     rintro g _ _ ⟨_, ⟨rfl, rfl⟩, rfl⟩
     exact ⟨⟨[], [], []⟩, trivial, .inr rfl, rfl⟩
    ·refine le rfl rfl (fun g hΦ s h hs hh => (stpU_call (fun i => 8 + i) cf96 (fun w hw => c_slices_Clone_Note fl w x20.w rfl (RO.pass hs21 hw) x34 e34) (yA (sv hs 30 rfl)))) ?_
     rintro g _ _ ⟨_, ⟨p35, _, c37, C38, rfl, rfl, rfl, o38⟩, rfl⟩
     exact ⟨⟨[p35], [c37], [C38]⟩, o38, .inr rfl, rfl⟩
    ·refine le rfl rfl (fun g hΦ s h hs hh => (stpU_call (fun i => i) cf51 (fun w hw => c_clip51 w ((g 9).A 0) ((x34).length) ((g 9).C 0) (OwnC.len (hΦ 9 rfl)).1) (yA (sv hs 31 rfl)))) ?_
     rintro g _ _ ⟨_, ⟨rfl, rfl⟩, rfl⟩
     exact ⟨⟨[], [], []⟩, trivial, .inr rfl, rfl⟩
    refine le rfl rfl (fun g hΦ s h hs hh => (stpU_keep (hh.get 8 _ rfl) (stpU_keep (hh.get 7 _ rfl) (stpU_storeEl (id := 4) (i := 0) (⟨((g 5).A 0), (x29).length, (x29).length, ((g 9).A 0), (x34).length, (x34).length⟩ : CpS) (by decide) ts53 (sv hs 34 rfl) (sv hs 33 rfl) (hh.get 4 _ rfl) o47 hx40 rfl rfl rfl rfl) (by rintro _ _ ⟨_, rfl, _⟩; rfl) (OwnC.clip (hΦ 5 rfl))) (by rintro _ _ ⟨_, ⟨_, rfl, _⟩, rfl, _⟩; rfl) (OwnC.clip (hΦ 9 rfl)))) ?_
    rintro g _ _ ⟨_, ⟨_, ⟨C51, rfl, o51⟩, rfl, o54⟩, rfl, o57⟩
    exact ⟨⟨[((g 5).A 0), ((g 9).A 0)], [(x29).length, (x34).length], [C51, ((g 5).R 0), ((g 9).R 0)]⟩, ⟨o51, o54, o57⟩, .inl rfl, rfl⟩
   intro g hΦ
   refine kw_gen (ι := Option Addr × Nat × Res × Option Addr × Nat × Res × Option Addr × Option Addr × Nat × Nat × Res × Res × Res) (((g 5).A 0), ((g 5).C 0), ((g 5).R 0), ((g 9).A 0), ((g 9).C 0), ((g 9).R 0), ((g 13).A 0), ((g 13).A 1), ((g 13).C 0), ((g 13).C 1), ((g 13).R 0), ((g 13).R 1), ((g 13).R 2)) (fun | (p30, c32, C33, p35, c37, C38, p52, p55, c53, c56, C51, C54, C57) => OwnC 55 p30 c32 x29 C33 ∧ OwnC 55 p35 c37 x34 C38 ∧ OwnC (α := CpS) 53 p13 x12 (u40.set (Int.toNat v18) (⟨p52, (x29).length, c53, p55, (x34).length, c56⟩ : CpS)) C51 ∧ OwnC 55 p52 c53 x29 C54 ∧ OwnC 55 p55 c56 x34 C57) (fun | (p30, c32, C33, p35, c37, C38, p52, p55, c53, c56, C51, C54, C57) => [(2, .pointer (some ⟨b2, 0, none⟩)), (3, .pointer (some ⟨b15, 0, none⟩)), (15, .slice p0_2 ((a0.c).length) c0_2), (16, .int .i64 ((a0.c).length : Int)), (17, .int .i64 v18)]) (fun | (p30, c32, C33, p35, c37, C38, p52, p55, c53, c56, C51, C54, C57) => [(1, [(b2, .cells #[.slice none 0 0, .slice none 0 0, .slice none 0 0] 37 (0, 0))]), (2, C7), (3, C11), (4, C51), (5, [(b15, .cells #[.slice p4 ((x3.b).length) c6, .slice p8 ((x3.f).length) c10, .slice p13 x12 x12] 37 (0, 0))]), (7, C54), (8, C57), (9, C48)]) ⟨(hΦ 5 (by decide)), (hΦ 9 (by decide)), (hΦ 13 (by decide)).1, (hΦ 13 (by decide)).2.1, (hΦ 13 (by decide)).2.2⟩ ⟨rfl, rfl, rfl, rfl, rfl, trivial⟩ ⟨rfl, rfl, rfl, rfl, rfl, rfl, rfl, rfl, trivial⟩ ?_
   rintro ⟨p30, c32, C33, p35, c37, C38, p52, p55, c53, c56, C51, C54, C57⟩ ⟨o33, o38, o51, o54, o57⟩
   dsimp only
   obtain ⟨x58, e58, H1⟩ := bS H1
   refine kw_bl_normal (kw_nx (cw_region (oP e58 rfl (oM rfl (ow_nil (kw_shut 4 9 7 8 o51 (Bun.setL (Bun.set hb48 _) _) (idx_some (idx_set hx40)).2.2 (idx_setD e39 (⟨x29, x34⟩ : Cp)) rfl o54 rfl o57 ?_))))))
   rintro C59 o59
   exact kw_lqS (js := [1, 2, 3, 4, 5]) (fuel, (v16.set (Int.toNat v18) (⟨x29, x34⟩ : Cp)), x58, C59) ⟨H1, (by simp [hl17]), o59⟩ (Nat.lt_succ_self _) ⟨rfl, rfl, rfl, rfl, rfl, trivial⟩ ⟨1, [2, 3, 4, 5], rfl, rfl, 2, [3, 4, 5], rfl, rfl, 3, [4, 5], rfl, rfl, 4, [5], rfl, rfl, 5, [], rfl, rfl, trivial⟩ (by decide)
  have H1 := cond_f H1 h19
  refine cw_exit (kw_nx_exit (kw_lq_exit (kw_bl ?_)))
  obtain rfl := sI H1
  exact kw_joinS (js := [1, 2, 3, 4, 5]) (v16, v18, C17) ⟨rfl, (by simp [hl17]), o17⟩ ⟨rfl, rfl, rfl, rfl, rfl, trivial⟩ ⟨1, [2, 3, 4, 5], rfl, rfl, 2, [3, 4, 5], rfl, rfl, 3, [4, 5], rfl, rfl, 4, [5], rfl, rfl, 5, [], rfl, rfl, trivial⟩ (by decide)
 rintro ⟨v16, v18, C17⟩ ⟨rfl, hl17, o17⟩
 dsimp only
 refine kw_nx (sr (oB3 5 ts37 rfl (oC3 1 ts37 rfl rfl (nn (cw_ret ?_)))))
 obtain rfl := sI H0
 exact kr Tryd.results47 (rC3 1 ts37 rfl rfl) [2, 3, 4] ⟨_, _, _, _, _, _, _, _, _, _, _, _, rfl, rfl, rfl, o7, rfl, o11, (by simp [hl17]), o17⟩
end Go.Proofs.YtfnliecmagnkdabDoor
