/- The walks: functions of the program return what their pure functions say. Printed by a program (gen.py). -/
import Derived.Test.YtciliaiocakdkaaGreatDoorGp
import Derived.Test.YtciliaiocakdkaaGreatDoorGt
import Derived.Test.YtciliaiocakdkaaGreatDoorMan
import Derived.Test.YtciliaiocakdkaaGreatDoorMap
import Derived.Test.YtciliaiocakdkaaGreatDoorCpy
import Derived.Test.YtciliaiocakdkaaGreatDoorClr
import Derived.Test.YtciliaiocakdkaaGreatDoorDp
import Derived.Test.YtciliaiocakdkaaGreatDoorSd
import Derived.Test.YtciliaiocakdkaaGreatDoorSrt
import Derived.Test.YtciliaiocakdkaaGreatDoorGe
import Derived.Test.YtciliaiocakdkaaGreatDoorGwaa
import Derived.Test.YtciliaiocakdkaaGreatDoorGwab
import Derived.Test.YtciliaiocakdkaaGreatDoorGws
set_option linter.unusedSimpArgs false
set_option linter.unusedVariables false
set_option linter.unusedSectionVars false
namespace Go.Proofs.YtciliaiocakdkaaGreatDoor
open Go.RowKit
set_option maxHeartbeats 4000000
set_option maxRecDepth 20000
variable {p0_0 p0_1 p0_2 p1_0 p1_1 p1_2 : Option Addr} {n0_0 n0_1 n0_2 n1_0 n1_1 n1_2 : Nat} {c0_0 c0_1 c0_2 c1_0 c1_1 c1_2 : Nat} {C0_0 : Res}
theorem c_s_l8At (fl : Nat) (w : World) (a0 : (List UInt8)) (hn0_0 : n0_0 = (a0).length) (hr0_0 : RO w (hkeys []) (RdL p0_0 c0_0 a0)) (r : Sy × Int × K) (H0 : s_l8At fl a0 = some r) :
  Ct Tryz.prog 9 [.slice p0_0 n0_0 c0_0] w [] (fun rv h' => ∃ (x0 : Option Addr) (y0 z0 : Nat) (C0 : Res) (x1 : Option Addr) (y1 z1 : Nat) (C1 : Res) (x2 : Option Addr) (y2 z2 : Nat) (C2 : Res), rv = .tuple #[.agg #[.slice x0 y0 z0, .slice x1 y1 z1, .slice x2 y2 z2], .int .i64 r.2.1, .agg #[.int .i64 r.2.2.s, .int .i64 r.2.2.p]] ∧ h' = [(0, C0), (1, C1), (2, C2)] ∧ y0 = (r.1.t.b).length ∧ OwnC 3 x0 z0 r.1.t.b C0 ∧ y1 = (r.1.t.f).length ∧ OwnC 76 x1 z1 r.1.t.f C1 ∧ y2 = (r.1.c).length ∧ OwnD 37 52 x2 z2 r.1.c C2) := by
 subst hn0_0
 unfold s_l8At at H0
 refine ct_of_cw Tryz.func9 rfl Tryz.ntmps9 rfl (Sat.refl _ _) ?_
 refine sr (oE (stpU_alloc 0 tz29 rfl) rfl ?_)
 rintro _ _ ⟨b1, rfl, rfl⟩
 refine oS rfl (oE (stpU_alloc 1 tz41 rfl) rfl ?_)
 rintro _ _ ⟨b2, rfl, rfl⟩
 refine nn (sr (oM rfl (oE (stpU_call (fun i => 2 + i) cf24 (fun w hw => c_open24 w a0 p0_0 ((a0).length) c0_0 rfl (RO.cap hr0_0).1) (yA rfl)) rfl ?_)))
 rintro _ _ ⟨_, ⟨b3, rfl, rfl⟩, rfl⟩
 obtain ⟨x4, e4, H0⟩ := bS H0
 refine oS rfl (nn (sr (oM rfl (oE (stpU_callM (fun i => bif Nat.beq i 0 then 2 else 3 + i) cf25 (fun w hw hb => c_s_l8Draw fl w b3 (a0.take 2000) 0 rfl (RO.passM (RO.takeN 2000 hr0_0) hw hb) (hw.pass (js := [2]) ⟨2, [], rfl, rfl, trivial⟩ (by decide)) x4 e4) (yA rfl) ⟨rfl, (fun _ _ hp => by obtain ⟨_, _, _, _, _, _, _, _, _, _, _, _, _, rfl, _⟩ := hp; exact ⟨_, rfl⟩), trivial⟩) rfl ?_))))
 rintro _ _ ⟨_, ⟨p5, _, c7, C8, p9, _, c11, C12, p13, _, c15, C16, rfl, rfl, rfl, o8, rfl, o12, rfl, o16⟩, rfl⟩
 refine oE (stpU_alloc 7 tz29 rfl) rfl ?_
 rintro _ _ ⟨b17, rfl, rfl⟩
 obtain ⟨x18, e18, H0⟩ := bS H0
 refine oC3 7 ts29 rfl rfl (nn (sr (oM rfl (oA 2 Tryz.underlying29 rfl ts27 rfl (oL 7 ts27 rfl (oD (stp_len Tryz.underlying27 rfl) rfl (oE (stpU_callM (fun i => bif Nat.beq i 0 then 2 else 8 + i) cf26 (fun w hw hb => c_s_l12Rd_pick fl w b3 (a0.take 2000) x4.2 ((x4.1.c).length : Int) rfl (RO.passM (RO.takeN 2000 hr0_0) hw hb) (hw.pass (js := [2]) ⟨2, [], rfl, rfl, trivial⟩ (by decide)) x18 e18) (yB rfl rfl) ⟨rfl, (fun _ _ hp => by obtain ⟨_, rfl⟩ := hp; exact ⟨_, rfl⟩), trivial⟩) rfl ?_)))))))
 rintro _ _ ⟨_, ⟨rfl, rfl⟩, rfl⟩
 obtain ⟨x19, e19, H0⟩ := bS H0
 refine oS rfl (nn (sr (oM rfl (oE (stpU_callM (fun i => bif Nat.beq i 0 then 2 else 9 + i) cf27 (fun w hw hb => c_s_l2Case fl w b3 (a0.take 2000) x18.2 rfl (RO.passM (RO.takeN 2000 hr0_0) hw hb) (hw.pass (js := [2]) ⟨2, [], rfl, rfl, trivial⟩ (by decide)) x19 e19) (yA rfl) ⟨rfl, (fun _ _ hp => by obtain ⟨_, rfl⟩ := hp; exact ⟨_, rfl⟩), trivial⟩) rfl ?_))))
 rintro _ _ ⟨_, ⟨rfl, rfl⟩, rfl⟩
 refine oE (stpU_alloc 10 tz41 rfl) rfl ?_
 rintro _ _ ⟨b20, rfl, rfl⟩
 obtain ⟨x21, e21, H0⟩ := bS H0
 refine oC2 10 ts41 rfl rfl (nn (sr (oA 0 Tryz.underlying29 rfl ts26 rfl (oB2 7 ts26 rfl (oE (stpU_call (fun i => 11 + i) cf28 (fun w hw => c_s_KeysOf fl w x4.1.t rfl (OwnC.pass (id := 4) rfl o8 hw) rfl (OwnC.pass (id := 5) rfl o12 hw) x21 e21) (yA rfl)) rfl ?_)))))
 rintro _ _ ⟨_, ⟨p22, _, c24, C25, rfl, rfl, rfl, o25⟩, rfl⟩
 obtain ⟨y26, ey26, H0⟩ := bS H0
 refine oS rfl (nn (cw_seq (sr (oM rfl (oD (stp_len Tryz.underlying62 rfl) rfl (oJ rfl (oM rfl (ow_cut (ι := Unit) 4 (fun _ => True) (fun _ => [(0, .slice p0_0 ((a0).length) c0_0), (2, .pointer (some ⟨b1, 0, none⟩)), (3, .int .i64 0), (4, .pointer (some ⟨b2, 0, none⟩)), (5, .pointer (some ⟨b3, 0, none⟩)), (6, .pointer (some ⟨b17, 0, none⟩)), (7, .int .i64 x18.1), (8, .pointer (some ⟨b20, 0, none⟩)), (9, .slice p22 ((x21).length) c24), (10, .slice p0_0 ((a0).length) c0_0), (11, .pointer (some ⟨b3, 0, none⟩)), (12, .pointer (some ⟨b3, 0, none⟩)), (13, .agg #[.slice p5 ((x4.1.t.b).length) c7, .slice p9 ((x4.1.t.f).length) c11, .slice p13 ((x4.1.c).length) c15]), (14, .pointer (some ⟨b3, 0, none⟩)), (15, .pointer (some ⟨b17, 2, none⟩)), (16, .slice p13 ((x4.1.c).length) c15), (17, .int .i64 ((x4.1.c).length : Int)), (18, .int .i64 x18.1), (19, .pointer (some ⟨b3, 0, none⟩)), (20, .agg #[.int .i64 x19.1.s, .int .i64 x19.1.p]), (21, .pointer (some ⟨b17, 0, none⟩)), (22, .agg #[.slice p5 ((x4.1.t.b).length) c7, .slice p9 ((x4.1.t.f).length) c11]), (23, .slice p22 ((x21).length) c24), (24, .slice p22 ((x21).length) c24), (25, .int .i64 ((x21).length : Int)), (26, .bool (decide (0 < ((x21).length : Int)))), (27, .bool (decide (0 < ((x21).length : Int)))), (31, .bool y26.1)]) (fun _ => [(0, [(b1, .cells #[.slice none 0 0, .slice none 0 0, .slice none 0 0] 29 (0, 0))]), (1, [(b2, .cells #[.int .i64 0, .int .i64 0] 41 (0, 0))]), (2, [(b3, .cells #[.slice p0_0 (((a0.take 2000)).length) c0_0, .int .i64 y26.2] 84 (0, 0))]), (4, C8), (5, C12), (6, C16), (7, [(b17, .cells #[.slice p5 ((x4.1.t.b).length) c7, .slice p9 ((x4.1.t.f).length) c11, .slice p13 ((x4.1.c).length) c15] 29 (0, 0))]), (10, [(b20, .cells #[.int .i64 x19.1.s, .int .i64 x19.1.p] 41 (0, 0))]), (11, C25)]) ?_ (fun _ _ => ?_)))))))))
 ·rcases Bool.eq_false_or_eq_true (decide (0 < ((x21).length : Int))) with hy26 | hy26
  ·have ey26 := cond_t ey26 hy26
   obtain ⟨x27, e27, ey26⟩ := bS ey26
   refine oG rfl hy26 (mv rfl) rfl (ow_eff (.some rfl hy26) (stpU_callM (fun i => bif Nat.beq i 0 then 2 else 12 + i) cf26 (fun w hw hb => c_s_l12Rd_pick fl w b3 (a0.take 2000) x19.2 2 rfl (RO.passM (RO.takeN 2000 hr0_0) hw hb) (hw.pass (js := [2]) ⟨2, [], rfl, rfl, trivial⟩ (by decide)) x27 e27) (yB rfl rfl) ⟨rfl, (fun _ _ hp => by obtain ⟨_, rfl⟩ := hp; exact ⟨_, rfl⟩), trivial⟩) rfl ?_)
   rintro _ _ ⟨_, ⟨rfl, rfl⟩, rfl⟩
   refine oG rfl hy26 (stp_eql rfl rfl) rfl (oD (stp_pick_t rfl hy26 rfl) rfl ?_)
   obtain rfl := sI ey26
   exact ow_nil (kw_join () trivial ⟨rfl, rfl, rfl, rfl, rfl, rfl, rfl, rfl, rfl, rfl, rfl, rfl, rfl, rfl, rfl, rfl, rfl, rfl, rfl, rfl, rfl, rfl, rfl, rfl, rfl, rfl, rfl, rfl, trivial⟩ ⟨rfl, rfl, rfl, rfl, rfl, rfl, rfl, rfl, rfl, trivial⟩)
  have ey26 := cond_f ey26 hy26
  refine oO rfl hy26 rfl (oO rfl hy26 rfl (oO rfl hy26 rfl (oD (stp_pick_f rfl hy26 rfl) rfl ?_)))
  obtain rfl := sI ey26
  exact ow_nil (kw_join () trivial ⟨rfl, rfl, rfl, rfl, rfl, rfl, rfl, rfl, rfl, rfl, rfl, rfl, rfl, rfl, rfl, rfl, rfl, rfl, rfl, rfl, rfl, rfl, rfl, rfl, rfl, rfl, rfl, rfl, trivial⟩ ⟨rfl, rfl, rfl, rfl, rfl, rfl, rfl, rfl, rfl, trivial⟩)
 refine ow_nil (kw_nx (cw_cond rfl (fun h28 => ?_) (fun h28 => ?_)))
 ·have H0 := cond_t H0 h28
  obtain ⟨x29, e29, H0⟩ := bS H0
  refine cw_region (oM rfl (oM rfl (oM rfl (oD (stp_len Tryz.underlying62 rfl) rfl (oE (stpU_callM (fun i => bif Nat.beq i 0 then 2 else 13 + i) cf26 (fun w hw hb => c_s_l12Rd_pick fl w b3 (a0.take 2000) y26.2 ((x21).length : Int) rfl (RO.passM (RO.takeN 2000 hr0_0) hw hb) (hw.pass (js := [2]) ⟨2, [], rfl, rfl, trivial⟩ (by decide)) x29 e29) (yB rfl rfl) ⟨rfl, (fun _ _ hp => by obtain ⟨_, rfl⟩ := hp; exact ⟨_, rfl⟩), trivial⟩) rfl ?_)))))
  rintro _ _ ⟨_, ⟨rfl, rfl⟩, rfl⟩
  obtain ⟨x30, e30, H0⟩ := bS H0
  obtain ⟨x31, e31, H0⟩ := bS H0
  refine oD (stp_indexAddr Tryz.underlying62 ts41 (by decide) rfl rfl rfl (Rdb.own (id := 11) rfl o25) e30) rfl (oD (stp_loadN (us := [_, _]) ts41 rfl (Cells.el (Rdb.own (id := 11) rfl o25) (by decide) e30 0 2 rfl)) rfl (oC2 10 ts41 rfl rfl (nn (cw_seq (sr (oM rfl (oE (stpU_callM (fun i => bif Nat.beq i 0 then 2 else 14 + i) cf26 (fun w hw hb => c_s_l12Rd_pick fl w b3 (a0.take 2000) x29.2 20 rfl (RO.passM (RO.takeN 2000 hr0_0) hw hb) (hw.pass (js := [2]) ⟨2, [], rfl, rfl, trivial⟩ (by decide)) x31 e31) (yB rfl rfl) ⟨rfl, (fun _ _ hp => by obtain ⟨_, rfl⟩ := hp; exact ⟨_, rfl⟩), trivial⟩) rfl ?_)))))))
  rintro _ _ ⟨_, ⟨rfl, rfl⟩, rfl⟩
  refine oQ rfl (nn (cw_cond rfl (fun h32 => ?_) (fun h32 => ?_)))
  ·have H0 := cond_t H0 h32
   refine cw_region (oM rfl (oE (stpU_lit (sz := 1) (l := [(-1), 4]) [.int .i64 (-1), .int .i64 4] sl23 15 (sevp_cons rfl (sevp_cons rfl sevp_nil)) rfl rfl rfl rfl rfl rfl rfl rfl rfl) rfl ?_))
   rintro _ _ ⟨p33, C34, rfl, rfl, o34⟩
   obtain ⟨x35, e35, H0⟩ := bS H0
   refine oE (stpU_callM (fun i => bif Nat.beq i 0 then 2 else 16 + i) cf29 (fun w hw hb => c_s_l12Rd_num fl w b3 (a0.take 2000) x31.2 ([(-1), 4]) rfl (RO.passM (RO.takeN 2000 hr0_0) hw hb) (by simp) (OwnC.passM (id := 15) rfl o34 hw hb ⟨rfl, trivial⟩) (hw.pass (js := [2]) ⟨2, [], rfl, rfl, trivial⟩ (by decide)) x35 e35) (yB rfl rfl) ⟨rfl, (fun _ _ hp => by obtain ⟨_, rfl⟩ := hp; exact ⟨_, rfl⟩), trivial⟩) rfl ?_
   rintro _ _ ⟨_, ⟨rfl, rfl⟩, rfl⟩
   obtain ⟨x36, e36, H0⟩ := bS H0
   refine oS rfl (nn (cw_seq (rdq g_mixed [2, 4, 5, 6, 7, 8] [0, 1, 2, 4, 5, 6, 7, 10] { dst := dS [77, 78, 79, 80, 81, 0, 4, 0], pre := gA [] [[], [], [0, 1], [], [], [0, 1, 2], [0, 1, 2, 3, 5], rn 0 7], ids := gA [] [[], [], [2, 18, 19, 20], [], [], [0], [], [1]], rs := rL [[(5, 0)], [(6, 0)], [(76, 1), (77, 2)], [(7, 0)], [(8, 0)], [(2, 0), (78, 3)], [(79, 4)], [(4, 0), (80, 5)]], rh := rL [[], [(7, 0)], [(2, 0), (4, 0), (5, 0), (6, 0)], [], [(10, 0)], [(0, 0)], [], [(1, 0)]], V := fun i g => gA undef [.pointer (some ⟨b3, 0, none⟩), .agg #[.slice p5 ((x4.1.t.b).length) c7, .slice p9 ((x4.1.t.f).length) c11, .slice p13 ((x4.1.c).length) c15], .agg #[.slice ((g 2).A 0) ((x36.1.t.b).length) ((g 2).C 0), .slice ((g 2).A 1) ((x36.1.t.f).length) ((g 2).C 1), .slice ((g 2).A 2) ((x36.1.c).length) ((g 2).C 2)], .int .i64 x35.1, .agg #[.int .i64 x30.s, .int .i64 x30.p], undef, .int .i64 x35.1] i, U := fun i g => gA [] [[], [], [(2, [(b3, .cells #[.slice p0_0 (((a0.take 2000)).length) c0_0, .int .i64 x36.2] 84 (0, 0))]), (18, ((g 2).R 0)), (19, ((g 2).R 1)), (20, ((g 2).R 2))], [], [], [(0, [(b1, .cells #[.slice ((g 2).A 0) ((x36.1.t.b).length) ((g 2).C 0), .slice ((g 2).A 1) ((x36.1.t.f).length) ((g 2).C 1), .slice ((g 2).A 2) ((x36.1.c).length) ((g 2).C 2)] 29 (0, 0))])], [], [(1, [(b2, .cells #[.int .i64 x30.s, .int .i64 x30.p] 41 (0, 0))])]] i, Φ := fun i x => gA True [True, True, OwnC 3 (x.A 0) (x.C 0) x36.1.t.b (x.R 0) ∧ OwnC 76 (x.A 1) (x.C 1) x36.1.t.f (x.R 1) ∧ OwnD 37 52 (x.A 2) (x.C 2) x36.1.c (x.R 2)] i } ?_ ?_)))
   ·refine ⟨lM, lc rfl rfl fun hs hh => stp_loadN (us := [_, _, _]) ts29 (sv hs 6 rfl) (Cells.box (id := 7) (hh.get 7 _ rfl) 3 rfl), ?_, lM, lc rfl rfl fun hs hh => stp_loadN (us := [_, _]) ts41 (sv hs 8 rfl) (Cells.box (id := 10) (hh.get 10 _ rfl) 2 rfl), ?_, lS, ?_, trivial⟩
    ·refine le rfl rfl (fun g hΦ s h hs hh => (stpU_callM (fun i => bif Nat.beq i 0 then 2 else 17 + i) cf30 (fun w hw hb => c_s_l8Wrong fl w b3 (a0.take 2000) x35.2 x4.1 rfl (RO.passM (RO.takeN 2000 hr0_0) hw hb) rfl (OwnC.passM (id := 4) (hh.get 4 _ rfl) o8 hw hb ⟨rfl, trivial⟩) rfl (OwnC.passM (id := 5) (hh.get 5 _ rfl) o12 hw hb ⟨rfl, trivial⟩) rfl (OwnD.passM (id := 6) (hh.get 6 _ rfl) o16 hw hb ⟨rfl, trivial⟩) (hw.pass (js := [2]) ⟨2, [], rfl, (hh.get 2 _ rfl), trivial⟩ (by decide)) x36 e36) (yB (sv hs 76 rfl) (sv hs 77 rfl)) ⟨(hh.get 2 _ rfl), (fun _ _ hp => by obtain ⟨_, _, _, _, _, _, _, _, _, _, _, _, _, rfl, _⟩ := hp; exact ⟨_, rfl⟩), trivial⟩)) ?_
     rintro g _ _ ⟨_, ⟨p37, _, c39, C40, p41, _, c43, C44, p45, _, c47, C48, rfl, rfl, rfl, o40, rfl, o44, rfl, o48⟩, rfl⟩
     exact ⟨⟨[p37, p41, p45], [c39, c43, c47], [C40, C44, C48]⟩, ⟨o40, o44, o48⟩, .inr rfl, rfl⟩
    ·refine le rfl rfl (fun g hΦ s h hs hh => (stpU_store (id := 0) (cs' := [.slice ((g 2).A 0) ((x36.1.t.b).length) ((g 2).C 0), .slice ((g 2).A 1) ((x36.1.t.f).length) ((g 2).C 1), .slice ((g 2).A 2) ((x36.1.c).length) ((g 2).C 2)]) ts29 (sv hs 2 rfl) (sv hs 78 rfl) (hh.get 0 _ rfl) rfl rfl rfl rfl)) ?_
     rintro g _ _ rfl
     exact ⟨⟨[], [], []⟩, trivial, .inl rfl, rfl⟩
    refine le rfl rfl (fun g hΦ s h hs hh => (stpU_store (id := 1) (cs' := [.int .i64 x30.s, .int .i64 x30.p]) ts41 (sv hs 4 rfl) (sv hs 80 rfl) (hh.get 1 _ rfl) rfl rfl rfl rfl)) ?_
    rintro g _ _ rfl
    exact ⟨⟨[], [], []⟩, trivial, .inl rfl, rfl⟩
   intro g hΦ
   refine kw_gen (ι := Option Addr × Option Addr × Option Addr × Nat × Nat × Nat × Res × Res × Res) (((g 2).A 0), ((g 2).A 1), ((g 2).A 2), ((g 2).C 0), ((g 2).C 1), ((g 2).C 2), ((g 2).R 0), ((g 2).R 1), ((g 2).R 2)) (fun | (p37, p41, p45, c39, c43, c47, C40, C44, C48) => OwnC 3 p37 c39 x36.1.t.b C40 ∧ OwnC 76 p41 c43 x36.1.t.f C44 ∧ OwnD 37 52 p45 c47 x36.1.c C48) (fun | (p37, p41, p45, c39, c43, c47, C40, C44, C48) => [(2, .pointer (some ⟨b1, 0, none⟩)), (3, .int .i64 x35.1), (4, .pointer (some ⟨b2, 0, none⟩))]) (fun | (p37, p41, p45, c39, c43, c47, C40, C44, C48) => [(0, [(b1, .cells #[.slice p37 ((x36.1.t.b).length) c39, .slice p41 ((x36.1.t.f).length) c43, .slice p45 ((x36.1.c).length) c47] 29 (0, 0))]), (1, [(b2, .cells #[.int .i64 x30.s, .int .i64 x30.p] 41 (0, 0))]), (18, C40), (19, C44), (20, C48)]) ⟨(hΦ 2 (by decide)).1, (hΦ 2 (by decide)).2.1, (hΦ 2 (by decide)).2.2⟩ ⟨rfl, rfl, rfl, trivial⟩ ⟨rfl, rfl, rfl, rfl, rfl, trivial⟩ ?_
   rintro ⟨p37, p41, p45, c39, c43, c47, C40, C44, C48⟩ ⟨o40, o44, o48⟩
   dsimp only
   refine kw_nx (cw_ret ?_)
   obtain rfl := sI H0
   exact kr Tryz.results9 (.cons (.cellN (us := [_, _, _]) ts29 rfl (Cells.box (id := 0) rfl 3 rfl)) (.cons (.tmp rfl) (rC2 1 ts41 rfl rfl))) [18, 19, 20] ⟨_, _, _, _, _, _, _, _, _, _, _, _, rfl, rfl, rfl, o40, rfl, o44, rfl, o48⟩
  have H0 := cond_f H0 h32
  obtain ⟨x49, e49, H0⟩ := bS H0
  refine cw_skip (kw_nx (cw_seq (rdq g_mixed [2, 4, 5, 6, 7, 8] [0, 1, 2, 4, 5, 6, 7, 10] { dst := dS [77, 78, 79, 80, 81, 0, 4, 0], pre := gA [] [[], [], [0, 1], [], [], [0, 1, 2], [0, 1, 2, 3, 5], rn 0 7], ids := gA [] [[], [], [2, 22, 23, 24], [], [], [0], [], [1]], rs := rL [[(5, 0)], [(6, 0)], [(76, 1), (77, 2)], [(7, 0)], [(8, 0)], [(2, 0), (78, 3)], [(79, 4)], [(4, 0), (80, 5)]], rh := rL [[], [(7, 0)], [(2, 0), (4, 0), (5, 0), (6, 0)], [], [(10, 0)], [(0, 0)], [], [(1, 0)]], V := fun i g => gA undef [.pointer (some ⟨b3, 0, none⟩), .agg #[.slice p5 ((x4.1.t.b).length) c7, .slice p9 ((x4.1.t.f).length) c11, .slice p13 ((x4.1.c).length) c15], .agg #[.slice ((g 2).A 0) ((x49.1.t.b).length) ((g 2).C 0), .slice ((g 2).A 1) ((x49.1.t.f).length) ((g 2).C 1), .slice ((g 2).A 2) ((x49.1.c).length) ((g 2).C 2)], .int .i64 x18.1, .agg #[.int .i64 x30.s, .int .i64 x30.p], undef, .int .i64 x18.1] i, U := fun i g => gA [] [[], [], [(2, [(b3, .cells #[.slice p0_0 (((a0.take 2000)).length) c0_0, .int .i64 x49.2] 84 (0, 0))]), (22, ((g 2).R 0)), (23, ((g 2).R 1)), (24, ((g 2).R 2))], [], [], [(0, [(b1, .cells #[.slice ((g 2).A 0) ((x49.1.t.b).length) ((g 2).C 0), .slice ((g 2).A 1) ((x49.1.t.f).length) ((g 2).C 1), .slice ((g 2).A 2) ((x49.1.c).length) ((g 2).C 2)] 29 (0, 0))])], [], [(1, [(b2, .cells #[.int .i64 x30.s, .int .i64 x30.p] 41 (0, 0))])]] i, Φ := fun i x => gA True [True, True, OwnC 3 (x.A 0) (x.C 0) x49.1.t.b (x.R 0) ∧ OwnC 76 (x.A 1) (x.C 1) x49.1.t.f (x.R 1) ∧ OwnD 37 52 (x.A 2) (x.C 2) x49.1.c (x.R 2)] i } ?_ ?_)))
  ·refine ⟨lM, lc rfl rfl fun hs hh => stp_loadN (us := [_, _, _]) ts29 (sv hs 6 rfl) (Cells.box (id := 7) (hh.get 7 _ rfl) 3 rfl), ?_, lM, lc rfl rfl fun hs hh => stp_loadN (us := [_, _]) ts41 (sv hs 8 rfl) (Cells.box (id := 10) (hh.get 10 _ rfl) 2 rfl), ?_, lS, ?_, trivial⟩
   ·refine le rfl rfl (fun g hΦ s h hs hh => (stpU_callM (fun i => bif Nat.beq i 0 then 2 else 21 + i) cf30 (fun w hw hb => c_s_l8Wrong fl w b3 (a0.take 2000) x31.2 x4.1 rfl (RO.passM (RO.takeN 2000 hr0_0) hw hb) rfl (OwnC.passM (id := 4) (hh.get 4 _ rfl) o8 hw hb ⟨rfl, trivial⟩) rfl (OwnC.passM (id := 5) (hh.get 5 _ rfl) o12 hw hb ⟨rfl, trivial⟩) rfl (OwnD.passM (id := 6) (hh.get 6 _ rfl) o16 hw hb ⟨rfl, trivial⟩) (hw.pass (js := [2]) ⟨2, [], rfl, (hh.get 2 _ rfl), trivial⟩ (by decide)) x49 e49) (yB (sv hs 76 rfl) (sv hs 77 rfl)) ⟨(hh.get 2 _ rfl), (fun _ _ hp => by obtain ⟨_, _, _, _, _, _, _, _, _, _, _, _, _, rfl, _⟩ := hp; exact ⟨_, rfl⟩), trivial⟩)) ?_
    rintro g _ _ ⟨_, ⟨p50, _, c52, C53, p54, _, c56, C57, p58, _, c60, C61, rfl, rfl, rfl, o53, rfl, o57, rfl, o61⟩, rfl⟩
    exact ⟨⟨[p50, p54, p58], [c52, c56, c60], [C53, C57, C61]⟩, ⟨o53, o57, o61⟩, .inr rfl, rfl⟩
   ·refine le rfl rfl (fun g hΦ s h hs hh => (stpU_store (id := 0) (cs' := [.slice ((g 2).A 0) ((x49.1.t.b).length) ((g 2).C 0), .slice ((g 2).A 1) ((x49.1.t.f).length) ((g 2).C 1), .slice ((g 2).A 2) ((x49.1.c).length) ((g 2).C 2)]) ts29 (sv hs 2 rfl) (sv hs 78 rfl) (hh.get 0 _ rfl) rfl rfl rfl rfl)) ?_
    rintro g _ _ rfl
    exact ⟨⟨[], [], []⟩, trivial, .inl rfl, rfl⟩
   refine le rfl rfl (fun g hΦ s h hs hh => (stpU_store (id := 1) (cs' := [.int .i64 x30.s, .int .i64 x30.p]) ts41 (sv hs 4 rfl) (sv hs 80 rfl) (hh.get 1 _ rfl) rfl rfl rfl rfl)) ?_
   rintro g _ _ rfl
   exact ⟨⟨[], [], []⟩, trivial, .inl rfl, rfl⟩
  intro g hΦ
  refine kw_gen (ι := Option Addr × Option Addr × Option Addr × Nat × Nat × Nat × Res × Res × Res) (((g 2).A 0), ((g 2).A 1), ((g 2).A 2), ((g 2).C 0), ((g 2).C 1), ((g 2).C 2), ((g 2).R 0), ((g 2).R 1), ((g 2).R 2)) (fun | (p50, p54, p58, c52, c56, c60, C53, C57, C61) => OwnC 3 p50 c52 x49.1.t.b C53 ∧ OwnC 76 p54 c56 x49.1.t.f C57 ∧ OwnD 37 52 p58 c60 x49.1.c C61) (fun | (p50, p54, p58, c52, c56, c60, C53, C57, C61) => [(2, .pointer (some ⟨b1, 0, none⟩)), (3, .int .i64 x18.1), (4, .pointer (some ⟨b2, 0, none⟩))]) (fun | (p50, p54, p58, c52, c56, c60, C53, C57, C61) => [(0, [(b1, .cells #[.slice p50 ((x49.1.t.b).length) c52, .slice p54 ((x49.1.t.f).length) c56, .slice p58 ((x49.1.c).length) c60] 29 (0, 0))]), (1, [(b2, .cells #[.int .i64 x30.s, .int .i64 x30.p] 41 (0, 0))]), (22, C53), (23, C57), (24, C61)]) ⟨(hΦ 2 (by decide)).1, (hΦ 2 (by decide)).2.1, (hΦ 2 (by decide)).2.2⟩ ⟨rfl, rfl, rfl, trivial⟩ ⟨rfl, rfl, rfl, rfl, rfl, trivial⟩ ?_
  rintro ⟨p50, p54, p58, c52, c56, c60, C53, C57, C61⟩ ⟨o53, o57, o61⟩
  dsimp only
  refine kw_nx (cw_ret ?_)
  obtain rfl := sI H0
  exact kr Tryz.results9 (.cons (.cellN (us := [_, _, _]) ts29 rfl (Cells.box (id := 0) rfl 3 rfl)) (.cons (.tmp rfl) (rC2 1 ts41 rfl rfl))) [22, 23, 24] ⟨_, _, _, _, _, _, _, _, _, _, _, _, rfl, rfl, rfl, o53, rfl, o57, rfl, o61⟩
 have H0 := cond_f H0 h28
 obtain ⟨x62, e62, H0⟩ := bS H0
 refine sr (oA 2 Tryz.underlying29 rfl ts27 rfl (oL 7 ts27 rfl (oM rfl ?_)))
 obtain ⟨u63, p64, n65, c66, p67, n68, c69, hl63, hx63, rfl, rfl, hw63, hr63, hs63⟩ := OwnD.view o16 e62
 obtain ⟨y70, ey70, H0⟩ := bS H0
 refine oD (stp_indexAddr Tryz.underlying27 ts37 (by decide) rfl hl63 rfl (RdC.rdb (id := 6) hw63 rfl) hx63) rfl (oA 0 Tryz.underlying37 rfl ts35 rfl (oD (stp_load1 ts35 rfl (Cells.el (RdC.rdb (id := 6) hw63 rfl) (by decide) hx63 0 1 rfl)) rfl (oD (stp_len Tryz.underlying35 rfl) rfl (oJ rfl (oM rfl (ow_cut (ι := Unit) 4 (fun _ => True) (fun _ => [(0, .slice p0_0 ((a0).length) c0_0), (2, .pointer (some ⟨b1, 0, none⟩)), (3, .int .i64 0), (4, .pointer (some ⟨b2, 0, none⟩)), (5, .pointer (some ⟨b3, 0, none⟩)), (6, .pointer (some ⟨b17, 0, none⟩)), (7, .int .i64 x18.1), (8, .pointer (some ⟨b20, 0, none⟩)), (9, .slice p22 ((x21).length) c24), (10, .slice p0_0 ((a0).length) c0_0), (11, .pointer (some ⟨b3, 0, none⟩)), (12, .pointer (some ⟨b3, 0, none⟩)), (13, .agg #[.slice p5 ((x4.1.t.b).length) c7, .slice p9 ((x4.1.t.f).length) c11, .slice p13 ((x4.1.c).length) c15]), (14, .pointer (some ⟨b3, 0, none⟩)), (15, .pointer (some ⟨b17, 2, none⟩)), (16, .slice p13 ((x4.1.c).length) c15), (17, .int .i64 ((x4.1.c).length : Int)), (18, .int .i64 x18.1), (19, .pointer (some ⟨b3, 0, none⟩)), (20, .agg #[.int .i64 x19.1.s, .int .i64 x19.1.p]), (21, .pointer (some ⟨b17, 0, none⟩)), (22, .agg #[.slice p5 ((x4.1.t.b).length) c7, .slice p9 ((x4.1.t.f).length) c11]), (23, .slice p22 ((x21).length) c24), (24, .slice p22 ((x21).length) c24), (25, .int .i64 ((x21).length : Int)), (26, .bool (decide (0 < ((x21).length : Int)))), (27, .bool (decide (0 < ((x21).length : Int)))), (31, .bool y26.1), (39, .pointer (some ⟨b17, 2, none⟩)), (40, .slice p13 ((x4.1.c).length) c15), (41, .int .i64 x18.1), (42, .pointer (some ⟨eB p13, eO p13 + Int.toNat x18.1 * Enc.sz CpS + 0, none⟩)), (43, .pointer (some ⟨eB p13, eO p13 + Int.toNat x18.1 * Enc.sz CpS + 0, none⟩)), (44, .slice p64 ((x62.n).length) c66), (45, .int .i64 ((x62.n).length : Int)), (46, .bool (decide (0 < ((x62.n).length : Int)))), (47, .bool (decide (0 < ((x62.n).length : Int)))), (51, .bool y70.1)]) (fun _ => [(0, [(b1, .cells #[.slice none 0 0, .slice none 0 0, .slice none 0 0] 29 (0, 0))]), (1, [(b2, .cells #[.int .i64 0, .int .i64 0] 41 (0, 0))]), (2, [(b3, .cells #[.slice p0_0 (((a0.take 2000)).length) c0_0, .int .i64 y70.2] 84 (0, 0))]), (4, C8), (5, C12), (6, C16), (7, [(b17, .cells #[.slice p5 ((x4.1.t.b).length) c7, .slice p9 ((x4.1.t.f).length) c11, .slice p13 ((x4.1.c).length) c15] 29 (0, 0))]), (10, [(b20, .cells #[.int .i64 x19.1.s, .int .i64 x19.1.p] 41 (0, 0))]), (11, C25)]) ?_ (fun _ _ => ?_)))))))
 ·rcases Bool.eq_false_or_eq_true (decide (0 < ((x62.n).length : Int))) with hy70 | hy70
  ·have ey70 := cond_t ey70 hy70
   obtain ⟨x71, e71, ey70⟩ := bS ey70
   refine oG rfl hy70 (mv rfl) rfl (ow_eff (.some rfl hy70) (stpU_callM (fun i => bif Nat.beq i 0 then 2 else 25 + i) cf26 (fun w hw hb => c_s_l12Rd_pick fl w b3 (a0.take 2000) y26.2 3 rfl (RO.passM (RO.takeN 2000 hr0_0) hw hb) (hw.pass (js := [2]) ⟨2, [], rfl, rfl, trivial⟩ (by decide)) x71 e71) (yB rfl rfl) ⟨rfl, (fun _ _ hp => by obtain ⟨_, rfl⟩ := hp; exact ⟨_, rfl⟩), trivial⟩) rfl ?_)
   rintro _ _ ⟨_, ⟨rfl, rfl⟩, rfl⟩
   refine oG rfl hy70 (stp_gtr rfl rfl) rfl (oD (stp_pick_t rfl hy70 rfl) rfl ?_)
   obtain rfl := sI ey70
   exact ow_nil (kw_join () trivial ⟨rfl, rfl, rfl, rfl, rfl, rfl, rfl, rfl, rfl, rfl, rfl, rfl, rfl, rfl, rfl, rfl, rfl, rfl, rfl, rfl, rfl, rfl, rfl, rfl, rfl, rfl, rfl, rfl, rfl, rfl, rfl, rfl, rfl, rfl, rfl, rfl, rfl, rfl, trivial⟩ ⟨rfl, rfl, rfl, rfl, rfl, rfl, rfl, rfl, rfl, trivial⟩)
  have ey70 := cond_f ey70 hy70
  refine oO rfl hy70 rfl (oO rfl hy70 rfl (oO rfl hy70 rfl (oD (stp_pick_f rfl hy70 rfl) rfl ?_)))
  obtain rfl := sI ey70
  exact ow_nil (kw_join () trivial ⟨rfl, rfl, rfl, rfl, rfl, rfl, rfl, rfl, rfl, rfl, rfl, rfl, rfl, rfl, rfl, rfl, rfl, rfl, rfl, rfl, rfl, rfl, rfl, rfl, rfl, rfl, rfl, rfl, rfl, rfl, rfl, rfl, rfl, rfl, rfl, rfl, rfl, rfl, trivial⟩ ⟨rfl, rfl, rfl, rfl, rfl, rfl, rfl, rfl, rfl, trivial⟩)
 refine ow_nil (kw_nx (cw_cond rfl (fun h72 => ?_) (fun h72 => ?_)))
 ·have H0 := cond_t H0 h72
  obtain ⟨x73, e73, H0⟩ := bS H0
  obtain ⟨x74, e74, H0⟩ := bS H0
  refine rdq g_mixed [5, 6, 7, 8] [2, 6, 7, 10] { dst := dS [53, 54, 55, 56, 57, 58, 59, 60, 61, 62, 63, 64, 65, 66, 67, 68, 69, 70, 0], pre := gA [] [[], [0], [], [0, 1, 2], rn 0 4, rn 0 5, [], [], [7], [], [7, 8, 9], rn 7 4, rn 7 5, rn 7 6, rn 6 8, rn 0 15, rn 0 16, rn 0 17, rn 0 18], ids := fun i => match i with | 14 => [2] | 18 => [10] | _ => [], rs := rL [[(6, 0)], [(52, 1)], [(7, 0)], [(53, 2), (54, 3)], [(55, 4)], [(56, 5)], [(5, 0)], [(6, 0)], [(59, 8)], [(7, 0)], [(60, 9), (61, 10)], [(62, 11)], [(63, 12)], [(64, 13)], [(58, 7), (65, 14)], [(57, 6), (66, 15)], [(67, 16)], [(68, 17)], [(8, 0), (69, 18)]], rh := rL [[], [(7, 0)], [], [(6, 0)], [], [(6, 0)], [], [], [(7, 0)], [], [(6, 0)], [], [(6, 0)], [], [(2, 0)], [(6, 0)], [], [(6, 0)], [(10, 0)]], V := fun i g => gA undef [.pointer (some ⟨b17, 2, none⟩), .slice p13 ((x4.1.c).length) c15, .int .i64 x18.1, .pointer (some ⟨eB p13, eO p13 + Int.toNat x18.1 * Enc.sz CpS + 0, none⟩), .pointer (some ⟨eB p13, eO p13 + Int.toNat x18.1 * Enc.sz CpS + 0, none⟩), .slice p64 ((x62.n).length) c66, .pointer (some ⟨b3, 0, none⟩), .pointer (some ⟨b17, 2, none⟩), .slice p13 ((x4.1.c).length) c15, .int .i64 x18.1, .pointer (some ⟨eB p13, eO p13 + Int.toNat x18.1 * Enc.sz CpS + 0, none⟩), .pointer (some ⟨eB p13, eO p13 + Int.toNat x18.1 * Enc.sz CpS + 0, none⟩), .slice p64 ((x62.n).length) c66, .int .i64 ((x62.n).length : Int), .int .i64 x73.1, .pointer (some ⟨eB p64, eO p64 + Int.toNat x73.1 * Enc.sz Nt + 0, none⟩), .pointer (some ⟨eB p64, eO p64 + Int.toNat x73.1 * Enc.sz Nt + 0, none⟩), .agg #[.int .i64 x74.k.s, .int .i64 x74.k.p]] i, U := fun i g => match i with | 14 => [(2, [(b3, .cells #[.slice p0_0 (((a0.take 2000)).length) c0_0, .int .i64 x73.2] 84 (0, 0))])] | 18 => [(10, [(b20, .cells #[.int .i64 x74.k.s, .int .i64 x74.k.p] 41 (0, 0))])] | _ => [], Φ := fun _ _ => True } ?_ ?_
  ·refine ⟨lc rfl rfl fun hs hh => stp_fieldAddr (j := 2) Tryz.underlying29 rfl ts27 rfl (sv hs 6 rfl) rfl, lc rfl rfl fun hs hh => stp_load1 ts27 (sv hs 52 rfl) (Cells.box (id := 7) (hh.get 7 _ rfl) 1 rfl), lM, lc rfl rfl fun hs hh => stp_indexAddr Tryz.underlying27 ts37 (by decide) (sv hs 53 rfl) hl63 (sv hs 54 rfl) (RdC.rdb (id := 6) hw63 (hh.get 6 _ rfl)) hx63, lc rfl rfl fun hs hh => stp_fieldAddr (j := 0) Tryz.underlying37 rfl ts35 rfl (sv hs 55 rfl) rfl, lc rfl rfl fun hs hh => stp_load1 ts35 (sv hs 56 rfl) (Cells.el (RdC.rdb (id := 6) hw63 (hh.get 6 _ rfl)) (by decide) hx63 0 1 rfl), lM, lc rfl rfl fun hs hh => stp_fieldAddr (j := 2) Tryz.underlying29 rfl ts27 rfl (sv hs 6 rfl) rfl, lc rfl rfl fun hs hh => stp_load1 ts27 (sv hs 59 rfl) (Cells.box (id := 7) (hh.get 7 _ rfl) 1 rfl), lM, lc rfl rfl fun hs hh => stp_indexAddr Tryz.underlying27 ts37 (by decide) (sv hs 60 rfl) hl63 (sv hs 61 rfl) (RdC.rdb (id := 6) hw63 (hh.get 6 _ rfl)) hx63, lc rfl rfl fun hs hh => stp_fieldAddr (j := 0) Tryz.underlying37 rfl ts35 rfl (sv hs 62 rfl) rfl, lc rfl rfl fun hs hh => stp_load1 ts35 (sv hs 63 rfl) (Cells.el (RdC.rdb (id := 6) hw63 (hh.get 6 _ rfl)) (by decide) hx63 0 1 rfl), lc rfl rfl fun hs hh => stp_len Tryz.underlying35 (sv hs 64 rfl), ?_, lc rfl rfl fun hs hh => stp_indexAddr Tryz.underlying35 ts52 (by decide) (sv hs 57 rfl) rfl (sv hs 66 rfl) (RdC.rdb (id := 6) hr63 (hh.get 6 _ rfl)) e74, lc rfl rfl fun hs hh => stp_fieldAddr (j := 0) Tryz.underlying52 rfl ts41 rfl (sv hs 67 rfl) rfl, lc rfl rfl fun hs hh => stp_loadN (us := [_, _]) ts41 (sv hs 68 rfl) (Cells.el (RdC.rdb (id := 6) hr63 (hh.get 6 _ rfl)) (by decide) e74 0 2 rfl), ?_, trivial⟩
   ·refine le rfl rfl (fun g hΦ s h hs hh => (stpU_callM (fun i => bif Nat.beq i 0 then 2 else 26 + i) cf26 (fun w hw hb => c_s_l12Rd_pick fl w b3 (a0.take 2000) y70.2 ((x62.n).length : Int) rfl (RO.passM (RO.takeN 2000 hr0_0) hw hb) (hw.pass (js := [2]) ⟨2, [], rfl, (hh.get 2 _ rfl), trivial⟩ (by decide)) x73 e73) (yB (sv hs 58 rfl) (sv hs 65 rfl)) ⟨(hh.get 2 _ rfl), (fun _ _ hp => by obtain ⟨_, rfl⟩ := hp; exact ⟨_, rfl⟩), trivial⟩)) ?_
    rintro g _ _ ⟨_, ⟨rfl, rfl⟩, rfl⟩
    exact ⟨⟨[], [], []⟩, trivial, .inr rfl, rfl⟩
   refine le rfl rfl (fun g hΦ s h hs hh => (stpU_store (id := 10) (cs' := [.int .i64 x74.k.s, .int .i64 x74.k.p]) ts41 (sv hs 8 rfl) (sv hs 69 rfl) (hh.get 10 _ rfl) rfl rfl rfl rfl)) ?_
   rintro g _ _ rfl
   exact ⟨⟨[], [], []⟩, trivial, .inl rfl, rfl⟩
  intro g hΦ
  refine KW.sub (s' := [(2, .pointer (some ⟨b1, 0, none⟩)), (4, .pointer (some ⟨b2, 0, none⟩)), (5, .pointer (some ⟨b3, 0, none⟩)), (6, .pointer (some ⟨b17, 0, none⟩)), (7, .int .i64 x18.1), (8, .pointer (some ⟨b20, 0, none⟩))]) (h' := [(0, [(b1, .cells #[.slice none 0 0, .slice none 0 0, .slice none 0 0] 29 (0, 0))]), (1, [(b2, .cells #[.int .i64 0, .int .i64 0] 41 (0, 0))]), (2, [(b3, .cells #[.slice p0_0 (((a0.take 2000)).length) c0_0, .int .i64 x73.2] 84 (0, 0))]), (4, C8), (5, C12), (6, C16), (7, [(b17, .cells #[.slice p5 ((x4.1.t.b).length) c7, .slice p9 ((x4.1.t.f).length) c11, .slice p13 ((x4.1.c).length) c15] 29 (0, 0))]), (10, [(b20, .cells #[.int .i64 x74.k.s, .int .i64 x74.k.p] 41 (0, 0))])]) ?_ ⟨rfl, rfl, rfl, rfl, rfl, rfl, trivial⟩ ⟨rfl, rfl, rfl, rfl, rfl, rfl, rfl, rfl, trivial⟩
  obtain ⟨x75, e75, H0⟩ := bS H0
  refine kw_nx (cw_seq (sr (oM rfl (oE (stpU_callM (fun i => bif Nat.beq i 0 then 2 else 27 + i) cf26 (fun w hw hb => c_s_l12Rd_pick fl w b3 (a0.take 2000) x73.2 20 rfl (RO.passM (RO.takeN 2000 hr0_0) hw hb) (hw.pass (js := [2]) ⟨2, [], rfl, rfl, trivial⟩ (by decide)) x75 e75) (yB rfl rfl) ⟨rfl, (fun _ _ hp => by obtain ⟨_, rfl⟩ := hp; exact ⟨_, rfl⟩), trivial⟩) rfl ?_))))
  rintro _ _ ⟨_, ⟨rfl, rfl⟩, rfl⟩
  refine oQ rfl (nn (cw_cond rfl (fun h76 => ?_) (fun h76 => ?_)))
  ·have H0 := cond_t H0 h76
   refine cw_region (oM rfl (oE (stpU_lit (sz := 1) (l := [(-1), 4]) [.int .i64 (-1), .int .i64 4] sl23 28 (sevp_cons rfl (sevp_cons rfl sevp_nil)) rfl rfl rfl rfl rfl rfl rfl rfl rfl) rfl ?_))
   rintro _ _ ⟨p77, C78, rfl, rfl, o78⟩
   obtain ⟨x79, e79, H0⟩ := bS H0
   refine oE (stpU_callM (fun i => bif Nat.beq i 0 then 2 else 29 + i) cf29 (fun w hw hb => c_s_l12Rd_num fl w b3 (a0.take 2000) x75.2 ([(-1), 4]) rfl (RO.passM (RO.takeN 2000 hr0_0) hw hb) (by simp) (OwnC.passM (id := 28) rfl o78 hw hb ⟨rfl, trivial⟩) (hw.pass (js := [2]) ⟨2, [], rfl, rfl, trivial⟩ (by decide)) x79 e79) (yB rfl rfl) ⟨rfl, (fun _ _ hp => by obtain ⟨_, rfl⟩ := hp; exact ⟨_, rfl⟩), trivial⟩) rfl ?_
   rintro _ _ ⟨_, ⟨rfl, rfl⟩, rfl⟩
   obtain ⟨x80, e80, H0⟩ := bS H0
   refine oS rfl (nn (cw_seq (rdq g_mixed [2, 4, 5, 6, 7, 8] [0, 1, 2, 4, 5, 6, 7, 10] { dst := dS [77, 78, 79, 80, 81, 0, 4, 0], pre := gA [] [[], [], [0, 1], [], [], [0, 1, 2], [0, 1, 2, 3, 5], rn 0 7], ids := gA [] [[], [], [2, 31, 32, 33], [], [], [0], [], [1]], rs := rL [[(5, 0)], [(6, 0)], [(76, 1), (77, 2)], [(7, 0)], [(8, 0)], [(2, 0), (78, 3)], [(79, 4)], [(4, 0), (80, 5)]], rh := rL [[], [(7, 0)], [(2, 0), (4, 0), (5, 0), (6, 0)], [], [(10, 0)], [(0, 0)], [], [(1, 0)]], V := fun i g => gA undef [.pointer (some ⟨b3, 0, none⟩), .agg #[.slice p5 ((x4.1.t.b).length) c7, .slice p9 ((x4.1.t.f).length) c11, .slice p13 ((x4.1.c).length) c15], .agg #[.slice ((g 2).A 0) ((x80.1.t.b).length) ((g 2).C 0), .slice ((g 2).A 1) ((x80.1.t.f).length) ((g 2).C 1), .slice ((g 2).A 2) ((x80.1.c).length) ((g 2).C 2)], .int .i64 x79.1, .agg #[.int .i64 x74.k.s, .int .i64 x74.k.p], undef, .int .i64 x79.1] i, U := fun i g => gA [] [[], [], [(2, [(b3, .cells #[.slice p0_0 (((a0.take 2000)).length) c0_0, .int .i64 x80.2] 84 (0, 0))]), (31, ((g 2).R 0)), (32, ((g 2).R 1)), (33, ((g 2).R 2))], [], [], [(0, [(b1, .cells #[.slice ((g 2).A 0) ((x80.1.t.b).length) ((g 2).C 0), .slice ((g 2).A 1) ((x80.1.t.f).length) ((g 2).C 1), .slice ((g 2).A 2) ((x80.1.c).length) ((g 2).C 2)] 29 (0, 0))])], [], [(1, [(b2, .cells #[.int .i64 x74.k.s, .int .i64 x74.k.p] 41 (0, 0))])]] i, Φ := fun i x => gA True [True, True, OwnC 3 (x.A 0) (x.C 0) x80.1.t.b (x.R 0) ∧ OwnC 76 (x.A 1) (x.C 1) x80.1.t.f (x.R 1) ∧ OwnD 37 52 (x.A 2) (x.C 2) x80.1.c (x.R 2)] i } ?_ ?_)))
   ·refine ⟨lM, lc rfl rfl fun hs hh => stp_loadN (us := [_, _, _]) ts29 (sv hs 6 rfl) (Cells.box (id := 7) (hh.get 7 _ rfl) 3 rfl), ?_, lM, lc rfl rfl fun hs hh => stp_loadN (us := [_, _]) ts41 (sv hs 8 rfl) (Cells.box (id := 10) (hh.get 10 _ rfl) 2 rfl), ?_, lS, ?_, trivial⟩
    ·refine le rfl rfl (fun g hΦ s h hs hh => (stpU_callM (fun i => bif Nat.beq i 0 then 2 else 30 + i) cf30 (fun w hw hb => c_s_l8Wrong fl w b3 (a0.take 2000) x79.2 x4.1 rfl (RO.passM (RO.takeN 2000 hr0_0) hw hb) rfl (OwnC.passM (id := 4) (hh.get 4 _ rfl) o8 hw hb ⟨rfl, trivial⟩) rfl (OwnC.passM (id := 5) (hh.get 5 _ rfl) o12 hw hb ⟨rfl, trivial⟩) rfl (OwnD.passM (id := 6) (hh.get 6 _ rfl) o16 hw hb ⟨rfl, trivial⟩) (hw.pass (js := [2]) ⟨2, [], rfl, (hh.get 2 _ rfl), trivial⟩ (by decide)) x80 e80) (yB (sv hs 76 rfl) (sv hs 77 rfl)) ⟨(hh.get 2 _ rfl), (fun _ _ hp => by obtain ⟨_, _, _, _, _, _, _, _, _, _, _, _, _, rfl, _⟩ := hp; exact ⟨_, rfl⟩), trivial⟩)) ?_
     rintro g _ _ ⟨_, ⟨p81, _, c83, C84, p85, _, c87, C88, p89, _, c91, C92, rfl, rfl, rfl, o84, rfl, o88, rfl, o92⟩, rfl⟩
     exact ⟨⟨[p81, p85, p89], [c83, c87, c91], [C84, C88, C92]⟩, ⟨o84, o88, o92⟩, .inr rfl, rfl⟩
    ·refine le rfl rfl (fun g hΦ s h hs hh => (stpU_store (id := 0) (cs' := [.slice ((g 2).A 0) ((x80.1.t.b).length) ((g 2).C 0), .slice ((g 2).A 1) ((x80.1.t.f).length) ((g 2).C 1), .slice ((g 2).A 2) ((x80.1.c).length) ((g 2).C 2)]) ts29 (sv hs 2 rfl) (sv hs 78 rfl) (hh.get 0 _ rfl) rfl rfl rfl rfl)) ?_
     rintro g _ _ rfl
     exact ⟨⟨[], [], []⟩, trivial, .inl rfl, rfl⟩
    refine le rfl rfl (fun g hΦ s h hs hh => (stpU_store (id := 1) (cs' := [.int .i64 x74.k.s, .int .i64 x74.k.p]) ts41 (sv hs 4 rfl) (sv hs 80 rfl) (hh.get 1 _ rfl) rfl rfl rfl rfl)) ?_
    rintro g _ _ rfl
    exact ⟨⟨[], [], []⟩, trivial, .inl rfl, rfl⟩
   intro g hΦ
   refine kw_gen (ι := Option Addr × Option Addr × Option Addr × Nat × Nat × Nat × Res × Res × Res) (((g 2).A 0), ((g 2).A 1), ((g 2).A 2), ((g 2).C 0), ((g 2).C 1), ((g 2).C 2), ((g 2).R 0), ((g 2).R 1), ((g 2).R 2)) (fun | (p81, p85, p89, c83, c87, c91, C84, C88, C92) => OwnC 3 p81 c83 x80.1.t.b C84 ∧ OwnC 76 p85 c87 x80.1.t.f C88 ∧ OwnD 37 52 p89 c91 x80.1.c C92) (fun | (p81, p85, p89, c83, c87, c91, C84, C88, C92) => [(2, .pointer (some ⟨b1, 0, none⟩)), (3, .int .i64 x79.1), (4, .pointer (some ⟨b2, 0, none⟩))]) (fun | (p81, p85, p89, c83, c87, c91, C84, C88, C92) => [(0, [(b1, .cells #[.slice p81 ((x80.1.t.b).length) c83, .slice p85 ((x80.1.t.f).length) c87, .slice p89 ((x80.1.c).length) c91] 29 (0, 0))]), (1, [(b2, .cells #[.int .i64 x74.k.s, .int .i64 x74.k.p] 41 (0, 0))]), (31, C84), (32, C88), (33, C92)]) ⟨(hΦ 2 (by decide)).1, (hΦ 2 (by decide)).2.1, (hΦ 2 (by decide)).2.2⟩ ⟨rfl, rfl, rfl, trivial⟩ ⟨rfl, rfl, rfl, rfl, rfl, trivial⟩ ?_
   rintro ⟨p81, p85, p89, c83, c87, c91, C84, C88, C92⟩ ⟨o84, o88, o92⟩
   dsimp only
   refine kw_nx (cw_ret ?_)
   obtain rfl := sI H0
   exact kr Tryz.results9 (.cons (.cellN (us := [_, _, _]) ts29 rfl (Cells.box (id := 0) rfl 3 rfl)) (.cons (.tmp rfl) (rC2 1 ts41 rfl rfl))) [31, 32, 33] ⟨_, _, _, _, _, _, _, _, _, _, _, _, rfl, rfl, rfl, o84, rfl, o88, rfl, o92⟩
  have H0 := cond_f H0 h76
  obtain ⟨x93, e93, H0⟩ := bS H0
  refine cw_skip (kw_nx (cw_seq (rdq g_mixed [2, 4, 5, 6, 7, 8] [0, 1, 2, 4, 5, 6, 7, 10] { dst := dS [77, 78, 79, 80, 81, 0, 4, 0], pre := gA [] [[], [], [0, 1], [], [], [0, 1, 2], [0, 1, 2, 3, 5], rn 0 7], ids := gA [] [[], [], [2, 35, 36, 37], [], [], [0], [], [1]], rs := rL [[(5, 0)], [(6, 0)], [(76, 1), (77, 2)], [(7, 0)], [(8, 0)], [(2, 0), (78, 3)], [(79, 4)], [(4, 0), (80, 5)]], rh := rL [[], [(7, 0)], [(2, 0), (4, 0), (5, 0), (6, 0)], [], [(10, 0)], [(0, 0)], [], [(1, 0)]], V := fun i g => gA undef [.pointer (some ⟨b3, 0, none⟩), .agg #[.slice p5 ((x4.1.t.b).length) c7, .slice p9 ((x4.1.t.f).length) c11, .slice p13 ((x4.1.c).length) c15], .agg #[.slice ((g 2).A 0) ((x93.1.t.b).length) ((g 2).C 0), .slice ((g 2).A 1) ((x93.1.t.f).length) ((g 2).C 1), .slice ((g 2).A 2) ((x93.1.c).length) ((g 2).C 2)], .int .i64 x18.1, .agg #[.int .i64 x74.k.s, .int .i64 x74.k.p], undef, .int .i64 x18.1] i, U := fun i g => gA [] [[], [], [(2, [(b3, .cells #[.slice p0_0 (((a0.take 2000)).length) c0_0, .int .i64 x93.2] 84 (0, 0))]), (35, ((g 2).R 0)), (36, ((g 2).R 1)), (37, ((g 2).R 2))], [], [], [(0, [(b1, .cells #[.slice ((g 2).A 0) ((x93.1.t.b).length) ((g 2).C 0), .slice ((g 2).A 1) ((x93.1.t.f).length) ((g 2).C 1), .slice ((g 2).A 2) ((x93.1.c).length) ((g 2).C 2)] 29 (0, 0))])], [], [(1, [(b2, .cells #[.int .i64 x74.k.s, .int .i64 x74.k.p] 41 (0, 0))])]] i, Φ := fun i x => gA True [True, True, OwnC 3 (x.A 0) (x.C 0) x93.1.t.b (x.R 0) ∧ OwnC 76 (x.A 1) (x.C 1) x93.1.t.f (x.R 1) ∧ OwnD 37 52 (x.A 2) (x.C 2) x93.1.c (x.R 2)] i } ?_ ?_)))
  ·refine ⟨lM, lc rfl rfl fun hs hh => stp_loadN (us := [_, _, _]) ts29 (sv hs 6 rfl) (Cells.box (id := 7) (hh.get 7 _ rfl) 3 rfl), ?_, lM, lc rfl rfl fun hs hh => stp_loadN (us := [_, _]) ts41 (sv hs 8 rfl) (Cells.box (id := 10) (hh.get 10 _ rfl) 2 rfl), ?_, lS, ?_, trivial⟩
   ·refine le rfl rfl (fun g hΦ s h hs hh => (stpU_callM (fun i => bif Nat.beq i 0 then 2 else 34 + i) cf30 (fun w hw hb => c_s_l8Wrong fl w b3 (a0.take 2000) x75.2 x4.1 rfl (RO.passM (RO.takeN 2000 hr0_0) hw hb) rfl (OwnC.passM (id := 4) (hh.get 4 _ rfl) o8 hw hb ⟨rfl, trivial⟩) rfl (OwnC.passM (id := 5) (hh.get 5 _ rfl) o12 hw hb ⟨rfl, trivial⟩) rfl (OwnD.passM (id := 6) (hh.get 6 _ rfl) o16 hw hb ⟨rfl, trivial⟩) (hw.pass (js := [2]) ⟨2, [], rfl, (hh.get 2 _ rfl), trivial⟩ (by decide)) x93 e93) (yB (sv hs 76 rfl) (sv hs 77 rfl)) ⟨(hh.get 2 _ rfl), (fun _ _ hp => by obtain ⟨_, _, _, _, _, _, _, _, _, _, _, _, _, rfl, _⟩ := hp; exact ⟨_, rfl⟩), trivial⟩)) ?_
    rintro g _ _ ⟨_, ⟨p94, _, c96, C97, p98, _, c100, C101, p102, _, c104, C105, rfl, rfl, rfl, o97, rfl, o101, rfl, o105⟩, rfl⟩
    exact ⟨⟨[p94, p98, p102], [c96, c100, c104], [C97, C101, C105]⟩, ⟨o97, o101, o105⟩, .inr rfl, rfl⟩
   ·refine le rfl rfl (fun g hΦ s h hs hh => (stpU_store (id := 0) (cs' := [.slice ((g 2).A 0) ((x93.1.t.b).length) ((g 2).C 0), .slice ((g 2).A 1) ((x93.1.t.f).length) ((g 2).C 1), .slice ((g 2).A 2) ((x93.1.c).length) ((g 2).C 2)]) ts29 (sv hs 2 rfl) (sv hs 78 rfl) (hh.get 0 _ rfl) rfl rfl rfl rfl)) ?_
    rintro g _ _ rfl
    exact ⟨⟨[], [], []⟩, trivial, .inl rfl, rfl⟩
   refine le rfl rfl (fun g hΦ s h hs hh => (stpU_store (id := 1) (cs' := [.int .i64 x74.k.s, .int .i64 x74.k.p]) ts41 (sv hs 4 rfl) (sv hs 80 rfl) (hh.get 1 _ rfl) rfl rfl rfl rfl)) ?_
   rintro g _ _ rfl
   exact ⟨⟨[], [], []⟩, trivial, .inl rfl, rfl⟩
  intro g hΦ
  refine kw_gen (ι := Option Addr × Option Addr × Option Addr × Nat × Nat × Nat × Res × Res × Res) (((g 2).A 0), ((g 2).A 1), ((g 2).A 2), ((g 2).C 0), ((g 2).C 1), ((g 2).C 2), ((g 2).R 0), ((g 2).R 1), ((g 2).R 2)) (fun | (p94, p98, p102, c96, c100, c104, C97, C101, C105) => OwnC 3 p94 c96 x93.1.t.b C97 ∧ OwnC 76 p98 c100 x93.1.t.f C101 ∧ OwnD 37 52 p102 c104 x93.1.c C105) (fun | (p94, p98, p102, c96, c100, c104, C97, C101, C105) => [(2, .pointer (some ⟨b1, 0, none⟩)), (3, .int .i64 x18.1), (4, .pointer (some ⟨b2, 0, none⟩))]) (fun | (p94, p98, p102, c96, c100, c104, C97, C101, C105) => [(0, [(b1, .cells #[.slice p94 ((x93.1.t.b).length) c96, .slice p98 ((x93.1.t.f).length) c100, .slice p102 ((x93.1.c).length) c104] 29 (0, 0))]), (1, [(b2, .cells #[.int .i64 x74.k.s, .int .i64 x74.k.p] 41 (0, 0))]), (35, C97), (36, C101), (37, C105)]) ⟨(hΦ 2 (by decide)).1, (hΦ 2 (by decide)).2.1, (hΦ 2 (by decide)).2.2⟩ ⟨rfl, rfl, rfl, trivial⟩ ⟨rfl, rfl, rfl, rfl, rfl, trivial⟩ ?_
  rintro ⟨p94, p98, p102, c96, c100, c104, C97, C101, C105⟩ ⟨o97, o101, o105⟩
  dsimp only
  refine kw_nx (cw_ret ?_)
  obtain rfl := sI H0
  exact kr Tryz.results9 (.cons (.cellN (us := [_, _, _]) ts29 rfl (Cells.box (id := 0) rfl 3 rfl)) (.cons (.tmp rfl) (rC2 1 ts41 rfl rfl))) [35, 36, 37] ⟨_, _, _, _, _, _, _, _, _, _, _, _, rfl, rfl, rfl, o97, rfl, o101, rfl, o105⟩
 have H0 := cond_f H0 h72
 obtain ⟨x106, e106, H0⟩ := bS H0
 refine cw_skip (kw_nx (cw_seq (sr (oM rfl (oE (stpU_callM (fun i => bif Nat.beq i 0 then 2 else 38 + i) cf26 (fun w hw hb => c_s_l12Rd_pick fl w b3 (a0.take 2000) y70.2 20 rfl (RO.passM (RO.takeN 2000 hr0_0) hw hb) (hw.pass (js := [2]) ⟨2, [], rfl, rfl, trivial⟩ (by decide)) x106 e106) (yB rfl rfl) ⟨rfl, (fun _ _ hp => by obtain ⟨_, rfl⟩ := hp; exact ⟨_, rfl⟩), trivial⟩) rfl ?_)))))
 rintro _ _ ⟨_, ⟨rfl, rfl⟩, rfl⟩
 refine oQ rfl (nn (cw_cond rfl (fun h107 => ?_) (fun h107 => ?_)))
 ·have H0 := cond_t H0 h107
  refine cw_region (oM rfl (oE (stpU_lit (sz := 1) (l := [(-1), 4]) [.int .i64 (-1), .int .i64 4] sl23 39 (sevp_cons rfl (sevp_cons rfl sevp_nil)) rfl rfl rfl rfl rfl rfl rfl rfl rfl) rfl ?_))
  rintro _ _ ⟨p108, C109, rfl, rfl, o109⟩
  obtain ⟨x110, e110, H0⟩ := bS H0
  refine oE (stpU_callM (fun i => bif Nat.beq i 0 then 2 else 40 + i) cf29 (fun w hw hb => c_s_l12Rd_num fl w b3 (a0.take 2000) x106.2 ([(-1), 4]) rfl (RO.passM (RO.takeN 2000 hr0_0) hw hb) (by simp) (OwnC.passM (id := 39) rfl o109 hw hb ⟨rfl, trivial⟩) (hw.pass (js := [2]) ⟨2, [], rfl, rfl, trivial⟩ (by decide)) x110 e110) (yB rfl rfl) ⟨rfl, (fun _ _ hp => by obtain ⟨_, rfl⟩ := hp; exact ⟨_, rfl⟩), trivial⟩) rfl ?_
  rintro _ _ ⟨_, ⟨rfl, rfl⟩, rfl⟩
  obtain ⟨x111, e111, H0⟩ := bS H0
  refine oS rfl (nn (cw_seq (rdq g_mixed [2, 4, 5, 6, 7, 8] [0, 1, 2, 4, 5, 6, 7, 10] { dst := dS [77, 78, 79, 80, 81, 0, 4, 0], pre := gA [] [[], [], [0, 1], [], [], [0, 1, 2], [0, 1, 2, 3, 5], rn 0 7], ids := gA [] [[], [], [2, 42, 43, 44], [], [], [0], [], [1]], rs := rL [[(5, 0)], [(6, 0)], [(76, 1), (77, 2)], [(7, 0)], [(8, 0)], [(2, 0), (78, 3)], [(79, 4)], [(4, 0), (80, 5)]], rh := rL [[], [(7, 0)], [(2, 0), (4, 0), (5, 0), (6, 0)], [], [(10, 0)], [(0, 0)], [], [(1, 0)]], V := fun i g => gA undef [.pointer (some ⟨b3, 0, none⟩), .agg #[.slice p5 ((x4.1.t.b).length) c7, .slice p9 ((x4.1.t.f).length) c11, .slice p13 ((x4.1.c).length) c15], .agg #[.slice ((g 2).A 0) ((x111.1.t.b).length) ((g 2).C 0), .slice ((g 2).A 1) ((x111.1.t.f).length) ((g 2).C 1), .slice ((g 2).A 2) ((x111.1.c).length) ((g 2).C 2)], .int .i64 x110.1, .agg #[.int .i64 x19.1.s, .int .i64 x19.1.p], undef, .int .i64 x110.1] i, U := fun i g => gA [] [[], [], [(2, [(b3, .cells #[.slice p0_0 (((a0.take 2000)).length) c0_0, .int .i64 x111.2] 84 (0, 0))]), (42, ((g 2).R 0)), (43, ((g 2).R 1)), (44, ((g 2).R 2))], [], [], [(0, [(b1, .cells #[.slice ((g 2).A 0) ((x111.1.t.b).length) ((g 2).C 0), .slice ((g 2).A 1) ((x111.1.t.f).length) ((g 2).C 1), .slice ((g 2).A 2) ((x111.1.c).length) ((g 2).C 2)] 29 (0, 0))])], [], [(1, [(b2, .cells #[.int .i64 x19.1.s, .int .i64 x19.1.p] 41 (0, 0))])]] i, Φ := fun i x => gA True [True, True, OwnC 3 (x.A 0) (x.C 0) x111.1.t.b (x.R 0) ∧ OwnC 76 (x.A 1) (x.C 1) x111.1.t.f (x.R 1) ∧ OwnD 37 52 (x.A 2) (x.C 2) x111.1.c (x.R 2)] i } ?_ ?_)))
  ·refine ⟨lM, lc rfl rfl fun hs hh => stp_loadN (us := [_, _, _]) ts29 (sv hs 6 rfl) (Cells.box (id := 7) (hh.get 7 _ rfl) 3 rfl), ?_, lM, lc rfl rfl fun hs hh => stp_loadN (us := [_, _]) ts41 (sv hs 8 rfl) (Cells.box (id := 10) (hh.get 10 _ rfl) 2 rfl), ?_, lS, ?_, trivial⟩
   ·refine le rfl rfl (fun g hΦ s h hs hh => (stpU_callM (fun i => bif Nat.beq i 0 then 2 else 41 + i) cf30 (fun w hw hb => c_s_l8Wrong fl w b3 (a0.take 2000) x110.2 x4.1 rfl (RO.passM (RO.takeN 2000 hr0_0) hw hb) rfl (OwnC.passM (id := 4) (hh.get 4 _ rfl) o8 hw hb ⟨rfl, trivial⟩) rfl (OwnC.passM (id := 5) (hh.get 5 _ rfl) o12 hw hb ⟨rfl, trivial⟩) rfl (OwnD.passM (id := 6) (hh.get 6 _ rfl) o16 hw hb ⟨rfl, trivial⟩) (hw.pass (js := [2]) ⟨2, [], rfl, (hh.get 2 _ rfl), trivial⟩ (by decide)) x111 e111) (yB (sv hs 76 rfl) (sv hs 77 rfl)) ⟨(hh.get 2 _ rfl), (fun _ _ hp => by obtain ⟨_, _, _, _, _, _, _, _, _, _, _, _, _, rfl, _⟩ := hp; exact ⟨_, rfl⟩), trivial⟩)) ?_
    rintro g _ _ ⟨_, ⟨p112, _, c114, C115, p116, _, c118, C119, p120, _, c122, C123, rfl, rfl, rfl, o115, rfl, o119, rfl, o123⟩, rfl⟩
    exact ⟨⟨[p112, p116, p120], [c114, c118, c122], [C115, C119, C123]⟩, ⟨o115, o119, o123⟩, .inr rfl, rfl⟩
   ·refine le rfl rfl (fun g hΦ s h hs hh => (stpU_store (id := 0) (cs' := [.slice ((g 2).A 0) ((x111.1.t.b).length) ((g 2).C 0), .slice ((g 2).A 1) ((x111.1.t.f).length) ((g 2).C 1), .slice ((g 2).A 2) ((x111.1.c).length) ((g 2).C 2)]) ts29 (sv hs 2 rfl) (sv hs 78 rfl) (hh.get 0 _ rfl) rfl rfl rfl rfl)) ?_
    rintro g _ _ rfl
    exact ⟨⟨[], [], []⟩, trivial, .inl rfl, rfl⟩
   refine le rfl rfl (fun g hΦ s h hs hh => (stpU_store (id := 1) (cs' := [.int .i64 x19.1.s, .int .i64 x19.1.p]) ts41 (sv hs 4 rfl) (sv hs 80 rfl) (hh.get 1 _ rfl) rfl rfl rfl rfl)) ?_
   rintro g _ _ rfl
   exact ⟨⟨[], [], []⟩, trivial, .inl rfl, rfl⟩
  intro g hΦ
  refine kw_gen (ι := Option Addr × Option Addr × Option Addr × Nat × Nat × Nat × Res × Res × Res) (((g 2).A 0), ((g 2).A 1), ((g 2).A 2), ((g 2).C 0), ((g 2).C 1), ((g 2).C 2), ((g 2).R 0), ((g 2).R 1), ((g 2).R 2)) (fun | (p112, p116, p120, c114, c118, c122, C115, C119, C123) => OwnC 3 p112 c114 x111.1.t.b C115 ∧ OwnC 76 p116 c118 x111.1.t.f C119 ∧ OwnD 37 52 p120 c122 x111.1.c C123) (fun | (p112, p116, p120, c114, c118, c122, C115, C119, C123) => [(2, .pointer (some ⟨b1, 0, none⟩)), (3, .int .i64 x110.1), (4, .pointer (some ⟨b2, 0, none⟩))]) (fun | (p112, p116, p120, c114, c118, c122, C115, C119, C123) => [(0, [(b1, .cells #[.slice p112 ((x111.1.t.b).length) c114, .slice p116 ((x111.1.t.f).length) c118, .slice p120 ((x111.1.c).length) c122] 29 (0, 0))]), (1, [(b2, .cells #[.int .i64 x19.1.s, .int .i64 x19.1.p] 41 (0, 0))]), (42, C115), (43, C119), (44, C123)]) ⟨(hΦ 2 (by decide)).1, (hΦ 2 (by decide)).2.1, (hΦ 2 (by decide)).2.2⟩ ⟨rfl, rfl, rfl, trivial⟩ ⟨rfl, rfl, rfl, rfl, rfl, trivial⟩ ?_
  rintro ⟨p112, p116, p120, c114, c118, c122, C115, C119, C123⟩ ⟨o115, o119, o123⟩
  dsimp only
  refine kw_nx (cw_ret ?_)
  obtain rfl := sI H0
  exact kr Tryz.results9 (.cons (.cellN (us := [_, _, _]) ts29 rfl (Cells.box (id := 0) rfl 3 rfl)) (.cons (.tmp rfl) (rC2 1 ts41 rfl rfl))) [42, 43, 44] ⟨_, _, _, _, _, _, _, _, _, _, _, _, rfl, rfl, rfl, o115, rfl, o119, rfl, o123⟩
 have H0 := cond_f H0 h107
 obtain ⟨x124, e124, H0⟩ := bS H0
 refine cw_skip (kw_nx (cw_seq (rdq g_mixed [2, 4, 5, 6, 7, 8] [0, 1, 2, 4, 5, 6, 7, 10] { dst := dS [77, 78, 79, 80, 81, 0, 4, 0], pre := gA [] [[], [], [0, 1], [], [], [0, 1, 2], [0, 1, 2, 3, 5], rn 0 7], ids := gA [] [[], [], [2, 46, 47, 48], [], [], [0], [], [1]], rs := rL [[(5, 0)], [(6, 0)], [(76, 1), (77, 2)], [(7, 0)], [(8, 0)], [(2, 0), (78, 3)], [(79, 4)], [(4, 0), (80, 5)]], rh := rL [[], [(7, 0)], [(2, 0), (4, 0), (5, 0), (6, 0)], [], [(10, 0)], [(0, 0)], [], [(1, 0)]], V := fun i g => gA undef [.pointer (some ⟨b3, 0, none⟩), .agg #[.slice p5 ((x4.1.t.b).length) c7, .slice p9 ((x4.1.t.f).length) c11, .slice p13 ((x4.1.c).length) c15], .agg #[.slice ((g 2).A 0) ((x124.1.t.b).length) ((g 2).C 0), .slice ((g 2).A 1) ((x124.1.t.f).length) ((g 2).C 1), .slice ((g 2).A 2) ((x124.1.c).length) ((g 2).C 2)], .int .i64 x18.1, .agg #[.int .i64 x19.1.s, .int .i64 x19.1.p], undef, .int .i64 x18.1] i, U := fun i g => gA [] [[], [], [(2, [(b3, .cells #[.slice p0_0 (((a0.take 2000)).length) c0_0, .int .i64 x124.2] 84 (0, 0))]), (46, ((g 2).R 0)), (47, ((g 2).R 1)), (48, ((g 2).R 2))], [], [], [(0, [(b1, .cells #[.slice ((g 2).A 0) ((x124.1.t.b).length) ((g 2).C 0), .slice ((g 2).A 1) ((x124.1.t.f).length) ((g 2).C 1), .slice ((g 2).A 2) ((x124.1.c).length) ((g 2).C 2)] 29 (0, 0))])], [], [(1, [(b2, .cells #[.int .i64 x19.1.s, .int .i64 x19.1.p] 41 (0, 0))])]] i, Φ := fun i x => gA True [True, True, OwnC 3 (x.A 0) (x.C 0) x124.1.t.b (x.R 0) ∧ OwnC 76 (x.A 1) (x.C 1) x124.1.t.f (x.R 1) ∧ OwnD 37 52 (x.A 2) (x.C 2) x124.1.c (x.R 2)] i } ?_ ?_)))
 ·refine ⟨lM, lc rfl rfl fun hs hh => stp_loadN (us := [_, _, _]) ts29 (sv hs 6 rfl) (Cells.box (id := 7) (hh.get 7 _ rfl) 3 rfl), ?_, lM, lc rfl rfl fun hs hh => stp_loadN (us := [_, _]) ts41 (sv hs 8 rfl) (Cells.box (id := 10) (hh.get 10 _ rfl) 2 rfl), ?_, lS, ?_, trivial⟩
  ·refine le rfl rfl (fun g hΦ s h hs hh => (stpU_callM (fun i => bif Nat.beq i 0 then 2 else 45 + i) cf30 (fun w hw hb => c_s_l8Wrong fl w b3 (a0.take 2000) x106.2 x4.1 rfl (RO.passM (RO.takeN 2000 hr0_0) hw hb) rfl (OwnC.passM (id := 4) (hh.get 4 _ rfl) o8 hw hb ⟨rfl, trivial⟩) rfl (OwnC.passM (id := 5) (hh.get 5 _ rfl) o12 hw hb ⟨rfl, trivial⟩) rfl (OwnD.passM (id := 6) (hh.get 6 _ rfl) o16 hw hb ⟨rfl, trivial⟩) (hw.pass (js := [2]) ⟨2, [], rfl, (hh.get 2 _ rfl), trivial⟩ (by decide)) x124 e124) (yB (sv hs 76 rfl) (sv hs 77 rfl)) ⟨(hh.get 2 _ rfl), (fun _ _ hp => by obtain ⟨_, _, _, _, _, _, _, _, _, _, _, _, _, rfl, _⟩ := hp; exact ⟨_, rfl⟩), trivial⟩)) ?_
   rintro g _ _ ⟨_, ⟨p125, _, c127, C128, p129, _, c131, C132, p133, _, c135, C136, rfl, rfl, rfl, o128, rfl, o132, rfl, o136⟩, rfl⟩
   exact ⟨⟨[p125, p129, p133], [c127, c131, c135], [C128, C132, C136]⟩, ⟨o128, o132, o136⟩, .inr rfl, rfl⟩
  ·refine le rfl rfl (fun g hΦ s h hs hh => (stpU_store (id := 0) (cs' := [.slice ((g 2).A 0) ((x124.1.t.b).length) ((g 2).C 0), .slice ((g 2).A 1) ((x124.1.t.f).length) ((g 2).C 1), .slice ((g 2).A 2) ((x124.1.c).length) ((g 2).C 2)]) ts29 (sv hs 2 rfl) (sv hs 78 rfl) (hh.get 0 _ rfl) rfl rfl rfl rfl)) ?_
   rintro g _ _ rfl
   exact ⟨⟨[], [], []⟩, trivial, .inl rfl, rfl⟩
  refine le rfl rfl (fun g hΦ s h hs hh => (stpU_store (id := 1) (cs' := [.int .i64 x19.1.s, .int .i64 x19.1.p]) ts41 (sv hs 4 rfl) (sv hs 80 rfl) (hh.get 1 _ rfl) rfl rfl rfl rfl)) ?_
  rintro g _ _ rfl
  exact ⟨⟨[], [], []⟩, trivial, .inl rfl, rfl⟩
 intro g hΦ
 refine kw_gen (ι := Option Addr × Option Addr × Option Addr × Nat × Nat × Nat × Res × Res × Res) (((g 2).A 0), ((g 2).A 1), ((g 2).A 2), ((g 2).C 0), ((g 2).C 1), ((g 2).C 2), ((g 2).R 0), ((g 2).R 1), ((g 2).R 2)) (fun | (p125, p129, p133, c127, c131, c135, C128, C132, C136) => OwnC 3 p125 c127 x124.1.t.b C128 ∧ OwnC 76 p129 c131 x124.1.t.f C132 ∧ OwnD 37 52 p133 c135 x124.1.c C136) (fun | (p125, p129, p133, c127, c131, c135, C128, C132, C136) => [(2, .pointer (some ⟨b1, 0, none⟩)), (3, .int .i64 x18.1), (4, .pointer (some ⟨b2, 0, none⟩))]) (fun | (p125, p129, p133, c127, c131, c135, C128, C132, C136) => [(0, [(b1, .cells #[.slice p125 ((x124.1.t.b).length) c127, .slice p129 ((x124.1.t.f).length) c131, .slice p133 ((x124.1.c).length) c135] 29 (0, 0))]), (1, [(b2, .cells #[.int .i64 x19.1.s, .int .i64 x19.1.p] 41 (0, 0))]), (46, C128), (47, C132), (48, C136)]) ⟨(hΦ 2 (by decide)).1, (hΦ 2 (by decide)).2.1, (hΦ 2 (by decide)).2.2⟩ ⟨rfl, rfl, rfl, trivial⟩ ⟨rfl, rfl, rfl, rfl, rfl, trivial⟩ ?_
 rintro ⟨p125, p129, p133, c127, c131, c135, C128, C132, C136⟩ ⟨o128, o132, o136⟩
 dsimp only
 refine kw_nx (cw_ret ?_)
 obtain rfl := sI H0
 exact kr Tryz.results9 (.cons (.cellN (us := [_, _, _]) ts29 rfl (Cells.box (id := 0) rfl 3 rfl)) (.cons (.tmp rfl) (rC2 1 ts41 rfl rfl))) [46, 47, 48] ⟨_, _, _, _, _, _, _, _, _, _, _, _, rfl, rfl, rfl, o128, rfl, o132, rfl, o136⟩

theorem c_s_DrawAckCpu (fl : Nat) (w : World) (a0 : (List UInt8)) (hn0_0 : n0_0 = (a0).length) (hr0_0 : RO w (hkeys []) (RdL p0_0 c0_0 a0)) (r : Sy × Int) (H0 : s_DrawAckCpu fl a0 = some r) :
  Ct Tryz.prog 4 [.slice p0_0 n0_0 c0_0] w [] (fun rv h' => ∃ (x0 : Option Addr) (y0 z0 : Nat) (C0 : Res) (x1 : Option Addr) (y1 z1 : Nat) (C1 : Res) (x2 : Option Addr) (y2 z2 : Nat) (C2 : Res), rv = .tuple #[.agg #[.slice x0 y0 z0, .slice x1 y1 z1, .slice x2 y2 z2], .int .i64 r.2] ∧ h' = [(0, C0), (1, C1), (2, C2)] ∧ y0 = (r.1.t.b).length ∧ OwnC 3 x0 z0 r.1.t.b C0 ∧ y1 = (r.1.t.f).length ∧ OwnC 76 x1 z1 r.1.t.f C1 ∧ y2 = (r.1.c).length ∧ OwnD 37 52 x2 z2 r.1.c C2) := by
 subst hn0_0
 unfold s_DrawAckCpu at H0
 refine ct_of_cw Tryz.func4 rfl Tryz.ntmps4 rfl (Sat.refl _ _) ?_
 refine sr (oE (stpU_alloc 0 tz29 rfl) rfl ?_)
 rintro _ _ ⟨b1, rfl, rfl⟩
 obtain ⟨x2, e2, H0⟩ := bS H0
 refine oS rfl (nn (sr (oM rfl (oE (stpU_call (fun i => 1 + i) cf9 (fun w hw => c_s_l8At fl w a0 rfl (RO.pass hr0_0 hw) x2 e2) (yA rfl)) rfl ?_))))
 rintro _ _ ⟨_, ⟨p3, _, c5, C6, p7, _, c9, C10, p11, _, c13, C14, rfl, rfl, rfl, o6, rfl, o10, rfl, o14⟩, rfl⟩
 refine oM rfl (oT rfl (oT rfl (oT rfl (oE (stpU_alloc 4 tz29 rfl) rfl ?_))))
 rintro _ _ ⟨b15, rfl, rfl⟩
 refine oE (stpU_alloc 5 tz41 rfl) rfl ?_
 rintro _ _ ⟨b16, rfl, rfl⟩
 refine oC3 4 ts29 rfl rfl (oS rfl (oC2 5 ts41 rfl rfl (nn (sr (oB3 4 ts29 rfl (oM rfl (oC3 0 ts29 rfl rfl (oS rfl (nn (cw_ret ?_))))))))))
 obtain rfl := sI H0
 exact kr Tryz.results4 (.cons (.cellN (us := [_, _, _]) ts29 rfl (Cells.box (id := 0) rfl 3 rfl)) (rT rfl)) [1, 2, 3] ⟨_, _, _, _, _, _, _, _, _, _, _, _, rfl, rfl, rfl, o6, rfl, o10, rfl, o14⟩

theorem c_i_TableValid (fl : Nat) (w : World) (a0 : T) (hn0_0 : n0_0 = (a0.b).length) (hr0_0 : RO w (hkeys []) (RdL p0_0 c0_0 a0.b)) (hn0_1 : n0_1 = (a0.f).length) (hr0_1 : RO w (hkeys []) (RdL p0_1 c0_1 a0.f)) (hg : RO w (hkeys []) (fun w' => w'.rangeAt 0 0 [.bool false, .int .i64 0, .int .i64 0, .int .i64 0, .int .i64 (-1)])) (r : Bool) (H0 : i_TableValid fl a0 = some r) :
    Ct Tryz.prog 41 [.agg #[.slice p0_0 n0_0 c0_0, .slice p0_1 n0_1 c0_1]] w [] (fun rv h' => rv = .bool r ∧ h' = []) := by
  obtain rfl := hn0_0
  obtain rfl := hn0_1
  unfold i_TableValid at H0
  obtain rfl := Option.some.inj H0
  exact ct_of_calls (tableValid_c _ a0 w ⟨_, _, rfl, (hr0_0 w (Fr.refl _ _)).rd, (hr0_1 w (Fr.refl _ _)).rd⟩ (freeG_of (hg w (Fr.refl _ _))))

theorem c_i_within (fl : Nat) (w : World) (a0 : Int) (a1 : Int) (r : Bool) (H0 : i_within fl a0 a1 = some r) :
  Ct Tryz.prog 31 [.int .i64 a0, .int .i64 a1] w [] (fun rv h' => rv = .bool r ∧ h' = []) := by
 unfold i_within at H0
 refine ct_of_cw Tryz.func31 rfl Tryz.ntmps31 rfl (Sat.refl _ _) ?_
 obtain ⟨y1, ey1, H0⟩ := bS H0
 refine sr (oS rfl (nn (sr (oM rfl (oI rfl (oM rfl (ow_cutY 4 11 y1 ?_ ?_)))))))
 ·rcases Bool.eq_false_or_eq_true (decide (0 ≤ a0)) with hy1 | hy1
  ·have ey1 := cond_t ey1 hy1
   refine oG rfl hy1 (mv rfl) rfl (oG rfl hy1 (mv rfl) rfl (oG rfl hy1 (stp_lss rfl rfl) rfl (oD (stp_pick_t rfl hy1 rfl) rfl ?_)))
   obtain rfl := sI ey1
   exact ow_nil (jy 4 0)
  have ey1 := cond_f ey1 hy1
  refine oO rfl hy1 rfl (oO rfl hy1 rfl (oO rfl hy1 rfl (oD (stp_pick_f rfl hy1 rfl) rfl ?_)))
  obtain rfl := sI ey1
  exact ow_nil (jy 4 0)
 refine oS rfl (nn (cw_ret ?_))
 obtain rfl := sI H0
 exact kr Tryz.results31 (rT rfl) [] ⟨rfl, rfl⟩

theorem c_i_KeyValid (fl : Nat) (w : World) (a0 : K) (r : Bool) (H0 : i_KeyValid fl a0 = some r) :
  Ct Tryz.prog 60 [.agg #[.int .i64 a0.s, .int .i64 a0.p]] w [] (fun rv h' => rv = .bool r ∧ h' = []) := by
 unfold i_KeyValid at H0
 refine ct_of_cw Tryz.func60 rfl Tryz.ntmps60 rfl (Sat.refl _ _) ?_
 refine sr (oE (stpU_box 0 rfl rfl) rfl ?_)
 rintro _ _ ⟨b1, rfl, rfl⟩
 obtain ⟨x2, e2, H0⟩ := bS H0
 refine oS rfl (nn (sr (oA 0 Tryz.underlying41 rfl ts3 rfl (oL 0 ts3 rfl (oE (stpU_call (fun i => 1 + i) cf31 (fun w hw => c_i_within fl w a0.s 16 x2 e2) (yB rfl rfl)) rfl ?_)))))
 rintro _ _ ⟨_, ⟨rfl, rfl⟩, rfl⟩
 obtain ⟨y3, ey3, H0⟩ := bS H0
 refine oM rfl (ow_cutY 4 10 y3 ?_ ?_)
 ·rcases Bool.eq_false_or_eq_true x2 with hy3 | hy3
  ·have ey3 := cond_t ey3 hy3
   obtain ⟨x4, e4, ey3⟩ := bS ey3
   refine oG rfl hy3 (fA 1 Tryz.underlying41 rfl ts3 rfl rfl rfl) rfl (oG rfl hy3 (lB 0 ts3 rfl rfl rfl) rfl (ow_eff (.some rfl hy3) (stpU_call (fun i => 1 + i) cf31 (fun w hw => c_i_within fl w a0.p 256 x4 e4) (yB rfl rfl)) rfl ?_))
   rintro _ _ ⟨_, ⟨rfl, rfl⟩, rfl⟩
   refine oD (stp_pick_t rfl hy3 rfl) rfl ?_
   obtain rfl := sI ey3
   exact ow_nil (jy 4 0)
  have ey3 := cond_f ey3 hy3
  refine oO rfl hy3 rfl (oO rfl hy3 rfl (oO rfl hy3 rfl (oD (stp_pick_f rfl hy3 rfl) rfl ?_)))
  obtain rfl := sI ey3
  exact ow_nil (jy 4 0)
 refine oS rfl (nn (cw_ret ?_))
 obtain rfl := sI H0
 exact kr Tryz.results60 (rT rfl) [] ⟨rfl, rfl⟩

theorem c_i_noteOf_1 (fl : Nat) (w : World) (a0 : Nt) (qc0 : Nat) (ac0 : K) (hbac0 : RO w (hkeys []) (fun w' => w'.rangeAt qc0 0 [.int .i64 ac0.s, .int .i64 ac0.p])) (r : Bool) (H0 : i_noteOf_1 fl a0 ac0 = some r) :
  Ct Tryz.prog 66 [.agg #[.int .i64 a0.k.s, .int .i64 a0.k.p, .int .i64 a0.fr], .pointer (some ⟨qc0, 0, none⟩)] w [] (fun rv h' => rv = .bool r ∧ h' = []) := by
 unfold i_noteOf_1 at H0
 refine ct_of_cw Tryz.func66 rfl Tryz.ntmps66 rfl (Sat.refl _ _) ?_
 refine sr (oE (stpU_box 0 rfl rfl) rfl ?_)
 rintro _ _ ⟨b1, rfl, rfl⟩
 refine oS rfl (nn (sr (oA 0 Tryz.underlying52 rfl ts41 rfl (oB2 0 ts41 rfl (oD (stp_loadN (us := [_, _]) ts41 rfl (Cells.ofRO hbac0 2 rfl)) rfl (oD (stp_eqlS te41 a0.k ac0 rfl rfl) rfl (oS rfl (nn (cw_ret ?_)))))))))
 obtain rfl := sI H0
 exact kr Tryz.results66 (rT rfl) [] ⟨rfl, rfl⟩

theorem c_slices_IndexFunc_Note_of_i_noteOf_1 (fl : Nat) (w : World) (a0 : (List Nt)) (q1_0 : Nat) (a1_0 : K) (hn0_0 : n0_0 = (a0).length) (hr0_0 : RO w (hkeys []) (RdL p0_0 c0_0 a0)) (hba1_0 : RO w (hkeys []) (fun w' => w'.rangeAt q1_0 0 [.int .i64 a1_0.s, .int .i64 a1_0.p])) (r : Int) (H0 : slices_IndexFunc_Note_of_i_noteOf_1 fl a0 a1_0 = some r) :
  Ct Tryz.prog 65 [.slice p0_0 n0_0 c0_0, .func (.func 66) #[] #[.pointer (some ⟨q1_0, 0, none⟩)]] w [] (fun rv h' => rv = .int .i64 r ∧ h' = []) := by
 subst hn0_0
 unfold slices_IndexFunc_Note_of_i_noteOf_1 at H0
 refine ct_of_cw Tryz.func65 rfl Tryz.ntmps65 rfl (Sat.refl _ _) ?_
 obtain ⟨o0_0, eo0_0, H0⟩ := bS H0
 refine sr (oS rfl (nn (cw_seq (sr (oM rfl (oD (stp_len Tryz.underlying35 rfl) rfl (oM rfl (nn (cw_join (ι := Int) (fun | v1 => o0_0 = .out v1) (fun | v1 => [(0, .slice p0_0 ((a0).length) c0_0), (1, .func (.func 66) #[] #[.pointer (some ⟨q1_0, 0, none⟩)]), (7, .int .i64 ((a0).length : Int)), (8, .int .i64 v1)]) (fun | v1 => []) ?_ ?_)))))))))
 ·refine cw_block (cw_loopS (ι := Nat × Int) (js := []) (fun x => x.1) (fun | (fuel, v1) => slices_IndexFunc_Note_of_i_noteOf_1_L0 fl a0 a1_0 fuel v1 = some o0_0) (fun | (_, v1) => [(0, .slice p0_0 ((a0).length) c0_0), (1, .func (.func 66) #[] #[.pointer (some ⟨q1_0, 0, none⟩)]), (7, .int .i64 ((a0).length : Int)), (8, .int .i64 v1)]) (fun | (_, v1) => []) (fl, 0) eo0_0 ⟨rfl, rfl, rfl, rfl, trivial⟩ trivial (by decide) ?_)
  rintro ⟨fuel, v1⟩ H1
  have H1 : slices_IndexFunc_Note_of_i_noteOf_1_L0 fl a0 a1_0 fuel v1 = some o0_0 := H1
  rcases fuel with _ | fuel
  ·rw [slices_IndexFunc_Note_of_i_noteOf_1_L0.eq_1] at H1; cases H1
  rw [slices_IndexFunc_Note_of_i_noteOf_1_L0.eq_2] at H1
  dsimp only
  refine sr (oW rfl (nn (cw_seq (cw_cond rfl (fun h2 => ?_) (fun h2 => ?_)))))
  ·have H1 := cond_t H1 h2
   obtain ⟨x3, e3, H1⟩ := bS H1
   refine cw_skip (kw_nx (cw_seq (cw_block (sr (oM rfl (oS rfl (nn (sr (oM rfl (oM rfl (oM rfl (oD (stp_indexAddr Tryz.underlying35 ts52 (by decide) rfl rfl rfl (Rdb.ro hr0_0) e3) rfl (oD (stp_loadN (us := [_, _, _]) ts52 rfl (Cells.el (Rdb.ro hr0_0) (by decide) e3 0 3 rfl)) rfl ?_)))))))))))))
   obtain ⟨x4, e4, H1⟩ := bS H1
   refine oE (stpU_callF (vals := [_]) (ca := [_]) (fun i => 0 + i) cf66 (fun w hw => c_i_noteOf_1 fl w x3 q1_0 a1_0 (RO.pass hba1_0 hw) x4 e4) rfl (yA rfl)) rfl ?_
   rintro _ _ ⟨_, ⟨rfl, rfl⟩, rfl⟩
   refine nn (cw_cond rfl (fun h5 => ?_) (fun h5 => ?_))
   ·have H1 := cond_t H1 h5
    refine sr (oM rfl (oS rfl (nn (cw_ret (kw_bl_ret (kw_nx_ret (kw_lq_ret (kw_bl_ret (kw_join_ret (kw_nx_ret ?_))))))))))
    obtain rfl := sI H1
    obtain rfl := sI H0
    exact kr Tryz.results65 (rT rfl) [] ⟨rfl, rfl⟩
   have H1 := cond_f H1 h5
   obtain ⟨x6, e6, H1⟩ := bS H1
   exact cw_skip (kw_bl_normal (kw_nx (cw_region (oP e6 rfl (oM rfl (ow_nil (kw_lqS (js := []) (fuel, x6) H1 (Nat.lt_succ_self _) ⟨rfl, rfl, rfl, rfl, trivial⟩ trivial (by decide))))))))
  have H1 := cond_f H1 h2
  refine cw_exit (kw_nx_exit (kw_lq_exit (kw_bl ?_)))
  obtain rfl := sI H1
  exact kw_joinS (js := []) v1 rfl ⟨rfl, rfl, rfl, rfl, trivial⟩ trivial (by decide)
 rintro v1 rfl
 dsimp only
 refine kw_nx (sr (oS rfl (nn (cw_ret ?_))))
 obtain rfl := sI H0
 exact kr Tryz.results65 (rT rfl) [] ⟨rfl, rfl⟩

theorem c_i_noteOf (fl : Nat) (w : World) (a0 : (List Nt)) (a1 : K) (hn0_0 : n0_0 = (a0).length) (hr0_0 : RO w (hkeys []) (RdL p0_0 c0_0 a0)) (r : Int) (H0 : i_noteOf fl a0 a1 = some r) :
  Ct Tryz.prog 44 [.slice p0_0 n0_0 c0_0, .agg #[.int .i64 a1.s, .int .i64 a1.p]] w [] (fun rv h' => rv = .int .i64 r ∧ h' = []) := by
 subst hn0_0
 unfold i_noteOf at H0
 refine ct_of_cw Tryz.func44 rfl Tryz.ntmps44 rfl (Sat.refl _ _) ?_
 refine sr (oE (stpU_box 0 rfl rfl) rfl ?_)
 rintro _ _ ⟨b1, rfl, rfl⟩
 obtain ⟨x2, e2, H0⟩ := bS H0
 refine oS rfl (nn (sr (oM rfl (oD (stp_makeFunc (yA rfl)) rfl (oE (stpU_call (fun i => 1 + i) cf65 (fun w hw => c_slices_IndexFunc_Note_of_i_noteOf_1 fl w a0 b1 a1 rfl (RO.pass hr0_0 hw) (box_pass (id := 0) rfl hw) x2 e2) (yB rfl rfl)) rfl ?_)))))
 rintro _ _ ⟨_, ⟨rfl, rfl⟩, rfl⟩
 refine oS rfl (nn (cw_ret ?_))
 obtain rfl := sI H0
 exact kr Tryz.results44 (rT rfl) [] ⟨rfl, rfl⟩

theorem c_i_each (fl : Nat) (w : World) (a0 : (List Nt)) (hn0_0 : n0_0 = (a0).length) (hr0_0 : RO w (hkeys []) (RdL p0_0 c0_0 a0)) (r : Bool) (H0 : i_each fl a0 = some r) :
  Ct Tryz.prog 42 [.slice p0_0 n0_0 c0_0] w [] (fun rv h' => rv = .bool r ∧ h' = []) := by
 subst hn0_0
 unfold i_each at H0
 refine ct_of_cw Tryz.func42 rfl Tryz.ntmps42 rfl (Sat.refl _ _) ?_
 obtain ⟨o0_0, eo0_0, H0⟩ := bS H0
 refine sr (oS rfl (nn (cw_seq (sr (oM rfl (oD (stp_len Tryz.underlying35 rfl) rfl (oM rfl (nn (cw_join (ι := Int) (fun | v1 => o0_0 = .out v1) (fun | v1 => [(0, .slice p0_0 ((a0).length) c0_0), (5, .slice p0_0 ((a0).length) c0_0), (6, .int .i64 ((a0).length : Int)), (7, .int .i64 v1)]) (fun | v1 => []) ?_ ?_)))))))))
 ·refine cw_block (cw_loopS (ι := Nat × Int) (js := []) (fun x => x.1) (fun | (fuel, v1) => i_each_L0 fl a0 fuel v1 = some o0_0) (fun | (_, v1) => [(0, .slice p0_0 ((a0).length) c0_0), (5, .slice p0_0 ((a0).length) c0_0), (6, .int .i64 ((a0).length : Int)), (7, .int .i64 v1)]) (fun | (_, v1) => []) (fl, 0) eo0_0 ⟨rfl, rfl, rfl, rfl, trivial⟩ trivial (by decide) ?_)
  rintro ⟨fuel, v1⟩ H1
  have H1 : i_each_L0 fl a0 fuel v1 = some o0_0 := H1
  rcases fuel with _ | fuel
  ·rw [i_each_L0.eq_1] at H1; cases H1
  rw [i_each_L0.eq_2] at H1
  dsimp only
  refine sr (oW rfl (nn (cw_seq (cw_cond rfl (fun h2 => ?_) (fun h2 => ?_)))))
  ·have H1 := cond_t H1 h2
   obtain ⟨x3, e3, H1⟩ := bS H1
   refine cw_skip (kw_nx (cw_seq (cw_block (sr (oM rfl (oD (stp_indexAddr Tryz.underlying35 ts52 (by decide) rfl rfl rfl (Rdb.ro hr0_0) e3) rfl (oD (stp_loadN (us := [_, _, _]) ts52 rfl (Cells.el (Rdb.ro hr0_0) (by decide) e3 0 3 rfl)) rfl (oE (stpU_alloc 0 tz52 rfl) rfl ?_))))))))
   rintro _ _ ⟨b4, rfl, rfl⟩
   obtain ⟨x5, e5, H1⟩ := bS H1
   obtain ⟨y6, ey6, H1⟩ := bS H1
   refine oS rfl (oC3 0 ts52 rfl rfl (nn (cw_seq (cw_join (ι := Unit) (fun | _ => True) (fun | _ => [(0, .slice p0_0 ((a0).length) c0_0), (5, .slice p0_0 ((a0).length) c0_0), (6, .int .i64 ((a0).length : Int)), (7, .int .i64 v1), (24, .bool y6)]) (fun | _ => []) ?_ ?_))))
   ·rcases Bool.eq_false_or_eq_true (!x5) with hy6 | hy6
    ·have ey6 := cond_t ey6 hy6
     have qy6 := sI ey6
     refine rdq g_mixed [4] [0] { dst := dS [13, 14, 15, 16, 17, 18, 19, 20, 21, 22, 23, 24, 25], pre := gA [] [[], [0], [0, 1], [0, 1, 2], rn 0 4, rn 0 5, rn 0 5, rn 0 7, rn 0 5, [0, 1, 2, 3, 4, 8], rn 0 10, rn 0 11, rn 0 12], ids := fun _ => [], rs := rL [[(4, 0)], [(12, 1)], [(13, 2)], [(14, 3)], [(15, 4)], [(16, 5)], [(16, 5)], [(16, 5)], [(16, 5)], [(16, 5)], [(16, 5)], [(16, 5)], [(16, 5), (23, 12)]], rh := rL [[], [(0, 0)]], V := fun i g => gA undef [.pointer (some ⟨b4, 0, none⟩), .agg #[.int .i64 x3.k.s, .int .i64 x3.k.p], .bool x5, .bool (!x5), .bool (!x5), undef, undef, undef, undef, undef, undef, undef, .bool y6] i, U := fun _ _ => [], Φ := fun _ _ => True } ?_ ?_
     ·refine ⟨lc rfl rfl fun hs hh => stp_fieldAddr (j := 0) Tryz.underlying52 rfl ts41 rfl (sv hs 4 rfl) rfl, lc rfl rfl fun hs hh => stp_loadN (us := [_, _]) ts41 (sv hs 12 rfl) (Cells.box (id := 0) (hh.get 0 _ rfl) 2 rfl), ?_, lc rfl rfl fun hs hh => stp_not (sv hs 14 rfl), lM, lo rfl rfl 16 hy6, lo rfl rfl 16 hy6, lo rfl rfl 16 hy6, lo rfl rfl 16 hy6, lo rfl rfl 16 hy6, lo rfl rfl 16 hy6, lo rfl rfl 16 hy6, lc rfl rfl fun hs hh => stp_pick_tB (sv hs 16 rfl) hy6 rfl qy6, trivial⟩
      refine le rfl rfl (fun g hΦ s h hs hh => (stpU_call (fun i => 1 + i) cf60 (fun w hw => c_i_KeyValid fl w x3.k x5 e5) (yA (sv hs 13 rfl)))) ?_
      rintro g _ _ ⟨_, ⟨rfl, rfl⟩, rfl⟩
      exact ⟨⟨[], [], []⟩, trivial, .inr rfl, rfl⟩
     intro g hΦ
     exact kw_join () trivial ⟨rfl, rfl, rfl, rfl, rfl, trivial⟩ trivial
    have ey6 := cond_f ey6 hy6
    obtain ⟨x7, e7, ey6⟩ := bS ey6
    obtain ⟨x8, e8, ey6⟩ := bS ey6
    have qy6 := sI ey6
    refine rdq g_mixed [0, 3, 4] [0] { dst := dS [13, 14, 15, 16, 17, 18, 19, 20, 21, 22, 23, 24, 25], pre := gA [] [[], [0], [0, 1], [0, 1, 2], rn 0 4, rn 0 5, rn 0 5, rn 0 7, rn 0 5, [0, 1, 2, 3, 4, 8], rn 0 10, rn 0 11, rn 0 12], ids := fun _ => [], rs := rL [[(4, 0)], [(12, 1)], [(13, 2)], [(14, 3)], [(15, 4)], [(0, 0), (16, 5)], [(3, 0), (16, 5)], [(17, 6), (18, 7), (16, 5)], [(4, 0), (16, 5)], [(20, 9), (16, 5)], [(19, 8), (21, 10), (16, 5)], [(22, 11), (16, 5)], [(16, 5), (23, 12)]], rh := rL [[], [(0, 0)], [], [], [], [], [], [], [], [(0, 0)]], V := fun i g => gA undef [.pointer (some ⟨b4, 0, none⟩), .agg #[.int .i64 x3.k.s, .int .i64 x3.k.p], .bool x5, .bool (!x5), .bool (!x5), .slice p0_0 ((a0).length) c0_0, .int .i64 v1, .slice p0_0 ((x7).length) c0_0, .pointer (some ⟨b4, 0, none⟩), .agg #[.int .i64 x3.k.s, .int .i64 x3.k.p], .int .i64 x8, .bool (decide (0 ≤ x8)), .bool y6] i, U := fun _ _ => [], Φ := fun _ _ => True } ?_ ?_
    ·refine ⟨lc rfl rfl fun hs hh => stp_fieldAddr (j := 0) Tryz.underlying52 rfl ts41 rfl (sv hs 4 rfl) rfl, lc rfl rfl fun hs hh => stp_loadN (us := [_, _]) ts41 (sv hs 12 rfl) (Cells.box (id := 0) (hh.get 0 _ rfl) 2 rfl), ?_, lc rfl rfl fun hs hh => stp_not (sv hs 14 rfl), lM, lg rfl rfl 16 hy6 fun hs hh => stp_move (sv hs 0 rfl), lg rfl rfl 16 hy6 fun hs hh => stp_move (sv hs 3 rfl), lg rfl rfl 16 hy6 fun hs hh => stp_take Tryz.underlying35 ts52 (sv hs 17 rfl) rfl (sv hs 18 rfl) (Rdb.ro hr0_0) e7, lg rfl rfl 16 hy6 fun hs hh => stp_fieldAddr (j := 0) Tryz.underlying52 rfl ts41 rfl (sv hs 4 rfl) rfl, lg rfl rfl 16 hy6 fun hs hh => stp_loadN (us := [_, _]) ts41 (sv hs 20 rfl) (Cells.box (id := 0) (hh.get 0 _ rfl) 2 rfl), ?_, lg rfl rfl 16 hy6 fun hs hh => stp_geq (sv hs 22 rfl) rfl, lc rfl rfl fun hs hh => stp_pick_fB (sv hs 16 rfl) hy6 (sv hs 23 rfl) qy6, trivial⟩
     ·refine le rfl rfl (fun g hΦ s h hs hh => (stpU_call (fun i => 1 + i) cf60 (fun w hw => c_i_KeyValid fl w x3.k x5 e5) (yA (sv hs 13 rfl)))) ?_
      rintro g _ _ ⟨_, ⟨rfl, rfl⟩, rfl⟩
      exact ⟨⟨[], [], []⟩, trivial, .inr rfl, rfl⟩
     refine loc_eff rfl rfl (fun g hΦ s h hs hh => ⟨(.some (gval_of rfl (sv hs 16 rfl)) hy6), (stpU_call (fun i => 1 + i) cf44 (fun w hw => c_i_noteOf fl w x7 x3.k rfl (RO.pass (RO.take hr0_0 e7) hw) x8 e8) (yB (sv hs 19 rfl) (sv hs 21 rfl)))⟩) ?_
     rintro g _ _ ⟨_, ⟨rfl, rfl⟩, rfl⟩
     exact ⟨⟨[], [], []⟩, trivial, .inr rfl, rfl⟩
    intro g hΦ
    exact kw_join () trivial ⟨rfl, rfl, rfl, rfl, rfl, trivial⟩ trivial
   rintro _ -
   dsimp only
   refine kw_nx (cw_cond rfl (fun h9 => ?_) (fun h9 => ?_))
   ·have H1 := cond_t H1 h9
    refine sr (oS rfl (nn (cw_ret (kw_bl_ret (kw_nx_ret (kw_lq_ret (kw_bl_ret (kw_join_ret (kw_nx_ret ?_)))))))))
    obtain rfl := sI H1
    obtain rfl := sI H0
    exact kr Tryz.results42 (rT rfl) [] ⟨rfl, rfl⟩
   have H1 := cond_f H1 h9
   obtain ⟨x10, e10, H1⟩ := bS H1
   exact cw_skip (kw_bl_normal (kw_nx (cw_region (oP e10 rfl (oM rfl (ow_nil (kw_lqS (js := []) (fuel, x10) H1 (Nat.lt_succ_self _) ⟨rfl, rfl, rfl, rfl, trivial⟩ trivial (by decide))))))))
  have H1 := cond_f H1 h2
  refine cw_exit (kw_nx_exit (kw_lq_exit (kw_bl ?_)))
  obtain rfl := sI H1
  exact kw_joinS (js := []) v1 rfl ⟨rfl, rfl, rfl, rfl, trivial⟩ trivial (by decide)
 rintro v1 rfl
 dsimp only
 refine kw_nx (sr (oM rfl (oD (stp_len Tryz.underlying35 rfl) rfl (oV rfl (oS rfl (nn (cw_ret ?_)))))))
 obtain rfl := sI H0
 exact kr Tryz.results42 (rT rfl) [] ⟨rfl, rfl⟩

theorem c_i_Table_find_1 (fl : Nat) (w : World) (a0 : F) (qc0 : Nat) (ac0 : K) (hbac0 : RO w (hkeys []) (fun w' => w'.rangeAt qc0 0 [.int .i64 ac0.s, .int .i64 ac0.p])) (r : Bool) (H0 : i_Table_find_1 fl a0 ac0 = some r) :
  Ct Tryz.prog 64 [.agg #[.bool a0.u, .int .i64 a0.k.s, .int .i64 a0.k.p, .int .i64 a0.r, .int .i64 a0.nx], .pointer (some ⟨qc0, 0, none⟩)] w [] (fun rv h' => rv = .bool r ∧ h' = []) := by
 unfold i_Table_find_1 at H0
 refine ct_of_cw Tryz.func64 rfl Tryz.ntmps64 rfl (Sat.refl _ _) ?_
 refine sr (oE (stpU_box 0 rfl rfl) rfl ?_)
 rintro _ _ ⟨b1, rfl, rfl⟩
 obtain ⟨y2, ey2, H0⟩ := bS H0
 refine oS rfl (nn (sr (oA 0 Tryz.underlying76 rfl ts4 rfl (oL 0 ts4 rfl (oM rfl (ow_cutY 5 11 y2 ?_ ?_))))))
 ·rcases Bool.eq_false_or_eq_true a0.u with hy2 | hy2
  ·have ey2 := cond_t ey2 hy2
   refine oG rfl hy2 (fA 1 Tryz.underlying76 rfl ts41 rfl rfl rfl) rfl (oG rfl hy2 (stp_loadN (us := [_, _]) ts41 rfl (Cells.box (id := 0) rfl 2 rfl)) rfl (oG rfl hy2 (stp_loadN (us := [_, _]) ts41 rfl (Cells.ofRO hbac0 2 rfl)) rfl (oG rfl hy2 (stp_eqlS te41 a0.k ac0 rfl rfl) rfl (oD (stp_pick_t rfl hy2 rfl) rfl ?_))))
   obtain rfl := sI ey2
   exact ow_nil (jy 5 0)
  have ey2 := cond_f ey2 hy2
  refine oO rfl hy2 rfl (oO rfl hy2 rfl (oO rfl hy2 rfl (oO rfl hy2 rfl (oD (stp_pick_f rfl hy2 rfl) rfl ?_))))
  obtain rfl := sI ey2
  exact ow_nil (jy 5 0)
 refine oS rfl (nn (cw_ret ?_))
 obtain rfl := sI H0
 exact kr Tryz.results64 (rT rfl) [] ⟨rfl, rfl⟩

theorem c_slices_IndexFunc_Frame_of_i_Table_find_1 (fl : Nat) (w : World) (a0 : (List F)) (q1_0 : Nat) (a1_0 : K) (hn0_0 : n0_0 = (a0).length) (hr0_0 : RO w (hkeys []) (RdL p0_0 c0_0 a0)) (hba1_0 : RO w (hkeys []) (fun w' => w'.rangeAt q1_0 0 [.int .i64 a1_0.s, .int .i64 a1_0.p])) (r : Int) (H0 : slices_IndexFunc_Frame_of_i_Table_find_1 fl a0 a1_0 = some r) :
  Ct Tryz.prog 63 [.slice p0_0 n0_0 c0_0, .func (.func 64) #[] #[.pointer (some ⟨q1_0, 0, none⟩)]] w [] (fun rv h' => rv = .int .i64 r ∧ h' = []) := by
 subst hn0_0
 unfold slices_IndexFunc_Frame_of_i_Table_find_1 at H0
 refine ct_of_cw Tryz.func63 rfl Tryz.ntmps63 rfl (Sat.refl _ _) ?_
 obtain ⟨o0_0, eo0_0, H0⟩ := bS H0
 refine sr (oS rfl (nn (cw_seq (sr (oM rfl (oD (stp_len Tryz.underlying24 rfl) rfl (oM rfl (nn (cw_join (ι := Int) (fun | v1 => o0_0 = .out v1) (fun | v1 => [(0, .slice p0_0 ((a0).length) c0_0), (1, .func (.func 64) #[] #[.pointer (some ⟨q1_0, 0, none⟩)]), (7, .int .i64 ((a0).length : Int)), (8, .int .i64 v1)]) (fun | v1 => []) ?_ ?_)))))))))
 ·refine cw_block (cw_loopS (ι := Nat × Int) (js := []) (fun x => x.1) (fun | (fuel, v1) => slices_IndexFunc_Frame_of_i_Table_find_1_L0 fl a0 a1_0 fuel v1 = some o0_0) (fun | (_, v1) => [(0, .slice p0_0 ((a0).length) c0_0), (1, .func (.func 64) #[] #[.pointer (some ⟨q1_0, 0, none⟩)]), (7, .int .i64 ((a0).length : Int)), (8, .int .i64 v1)]) (fun | (_, v1) => []) (fl, 0) eo0_0 ⟨rfl, rfl, rfl, rfl, trivial⟩ trivial (by decide) ?_)
  rintro ⟨fuel, v1⟩ H1
  have H1 : slices_IndexFunc_Frame_of_i_Table_find_1_L0 fl a0 a1_0 fuel v1 = some o0_0 := H1
  rcases fuel with _ | fuel
  ·rw [slices_IndexFunc_Frame_of_i_Table_find_1_L0.eq_1] at H1; cases H1
  rw [slices_IndexFunc_Frame_of_i_Table_find_1_L0.eq_2] at H1
  dsimp only
  refine sr (oW rfl (nn (cw_seq (cw_cond rfl (fun h2 => ?_) (fun h2 => ?_)))))
  ·have H1 := cond_t H1 h2
   obtain ⟨x3, e3, H1⟩ := bS H1
   refine cw_skip (kw_nx (cw_seq (cw_block (sr (oM rfl (oS rfl (nn (sr (oM rfl (oM rfl (oM rfl (oD (stp_indexAddr Tryz.underlying24 ts76 (by decide) rfl rfl rfl (Rdb.ro hr0_0) e3) rfl (oD (stp_loadN (us := [_, _, _, _, _]) ts76 rfl (Cells.el (Rdb.ro hr0_0) (by decide) e3 0 5 rfl)) rfl ?_)))))))))))))
   obtain ⟨x4, e4, H1⟩ := bS H1
   refine oE (stpU_callF (vals := [_]) (ca := [_]) (fun i => 0 + i) cf64 (fun w hw => c_i_Table_find_1 fl w x3 q1_0 a1_0 (RO.pass hba1_0 hw) x4 e4) rfl (yA rfl)) rfl ?_
   rintro _ _ ⟨_, ⟨rfl, rfl⟩, rfl⟩
   refine nn (cw_cond rfl (fun h5 => ?_) (fun h5 => ?_))
   ·have H1 := cond_t H1 h5
    refine sr (oM rfl (oS rfl (nn (cw_ret (kw_bl_ret (kw_nx_ret (kw_lq_ret (kw_bl_ret (kw_join_ret (kw_nx_ret ?_))))))))))
    obtain rfl := sI H1
    obtain rfl := sI H0
    exact kr Tryz.results63 (rT rfl) [] ⟨rfl, rfl⟩
   have H1 := cond_f H1 h5
   obtain ⟨x6, e6, H1⟩ := bS H1
   exact cw_skip (kw_bl_normal (kw_nx (cw_region (oP e6 rfl (oM rfl (ow_nil (kw_lqS (js := []) (fuel, x6) H1 (Nat.lt_succ_self _) ⟨rfl, rfl, rfl, rfl, trivial⟩ trivial (by decide))))))))
  have H1 := cond_f H1 h2
  refine cw_exit (kw_nx_exit (kw_lq_exit (kw_bl ?_)))
  obtain rfl := sI H1
  exact kw_joinS (js := []) v1 rfl ⟨rfl, rfl, rfl, rfl, trivial⟩ trivial (by decide)
 rintro v1 rfl
 dsimp only
 refine kw_nx (sr (oS rfl (nn (cw_ret ?_))))
 obtain rfl := sI H0
 exact kr Tryz.results63 (rT rfl) [] ⟨rfl, rfl⟩

theorem c_i_Table_find (fl : Nat) (w : World) (a0 : T) (a1 : K) (hn0_0 : n0_0 = (a0.b).length) (hr0_0 : RO w (hkeys []) (RdL p0_0 c0_0 a0.b)) (hn0_1 : n0_1 = (a0.f).length) (hr0_1 : RO w (hkeys []) (RdL p0_1 c0_1 a0.f)) (r : Int) (H0 : i_Table_find fl a0 a1 = some r) :
  Ct Tryz.prog 43 [.agg #[.slice p0_0 n0_0 c0_0, .slice p0_1 n0_1 c0_1], .agg #[.int .i64 a1.s, .int .i64 a1.p]] w [] (fun rv h' => rv = .int .i64 r ∧ h' = []) := by
 subst hn0_0 hn0_1
 unfold i_Table_find at H0
 refine ct_of_cw Tryz.func43 rfl Tryz.ntmps43 rfl (Sat.refl _ _) ?_
 refine sr (oE (stpU_box 0 rfl rfl) rfl ?_)
 rintro _ _ ⟨b1, rfl, rfl⟩
 refine oE (stpU_box 1 rfl rfl) rfl ?_
 rintro _ _ ⟨b2, rfl, rfl⟩
 obtain ⟨x3, e3, H0⟩ := bS H0
 refine oS rfl (nn (sr (oA 1 Tryz.underlying26 rfl ts24 rfl (oL 0 ts24 rfl (oD (stp_makeFunc (yA rfl)) rfl (oE (stpU_call (fun i => 2 + i) cf63 (fun w hw => c_slices_IndexFunc_Frame_of_i_Table_find_1 fl w a0.f b2 a1 rfl (RO.pass hr0_1 hw) (box_pass (id := 1) rfl hw) x3 e3) (yB rfl rfl)) rfl ?_))))))
 rintro _ _ ⟨_, ⟨rfl, rfl⟩, rfl⟩
 refine oS rfl (nn (cw_ret ?_))
 obtain rfl := sI H0
 exact kr Tryz.results43 (rT rfl) [] ⟨rfl, rfl⟩

theorem c_i_SystemValid (fl : Nat) (w : World) (a0 : Sy) (hn0_0 : n0_0 = (a0.t.b).length) (hr0_0 : RO w (hkeys []) (RdL p0_0 c0_0 a0.t.b)) (hn0_1 : n0_1 = (a0.t.f).length) (hr0_1 : RO w (hkeys []) (RdL p0_1 c0_1 a0.t.f)) (hn0_2 : n0_2 = (a0.c).length) (hr0_2 : ROD w (hkeys []) p0_2 c0_2 a0.c) (hg : RO w (hkeys []) (fun w' => w'.rangeAt 0 0 [.bool false, .int .i64 0, .int .i64 0, .int .i64 0, .int .i64 (-1)])) (r : Bool) (H0 : i_SystemValid fl a0 = some r) :
  Ct Tryz.prog 20 [.agg #[.slice p0_0 n0_0 c0_0, .slice p0_1 n0_1 c0_1, .slice p0_2 n0_2 c0_2]] w [] (fun rv h' => rv = .bool r ∧ h' = []) := by
 subst hn0_0 hn0_1 hn0_2
 unfold i_SystemValid at H0
 refine ct_of_cw Tryz.func20 rfl Tryz.ntmps20 rfl (Sat.refl _ _) ?_
 refine sr (oE (stpU_box 0 rfl rfl) rfl ?_)
 rintro _ _ ⟨b1, rfl, rfl⟩
 obtain ⟨x2, e2, H0⟩ := bS H0
 refine oS rfl (nn (cw_seq (sr (oA 0 Tryz.underlying29 rfl ts26 rfl (oB2 0 ts26 rfl (oE (stpU_call (fun i => 1 + i) cf41 (fun w hw => c_i_TableValid fl w a0.t rfl (RO.pass hr0_0 hw) rfl (RO.pass hr0_1 hw) (RO.pass hg hw) x2 e2) (yA rfl)) rfl ?_))))))
 rintro _ _ ⟨_, ⟨rfl, rfl⟩, rfl⟩
 obtain ⟨y3, ey3, H0⟩ := bS H0
 refine oK rfl (oM rfl (ow_cutY 5 20 y3 ?_ ?_))
 ·rcases Bool.eq_false_or_eq_true (!x2) with hy3 | hy3
  ·have ey3 := cond_t ey3 hy3
   refine oO rfl hy3 rfl (oO rfl hy3 rfl (oO rfl hy3 rfl (oO rfl hy3 rfl (oD (stp_pick_t rfl hy3 rfl) rfl ?_))))
   obtain rfl := sI ey3
   exact ow_nil (jy 5 0)
  have ey3 := cond_f ey3 hy3
  refine oG rfl hy3 (fA 2 Tryz.underlying29 rfl ts27 rfl rfl rfl) rfl (oG rfl hy3 (lB 0 ts27 rfl rfl rfl) rfl (oG rfl hy3 (stp_len Tryz.underlying27 rfl) rfl (oG rfl hy3 (stp_lss rfl rfl) rfl (oD (stp_pick_f rfl hy3 rfl) rfl ?_))))
  obtain rfl := sI ey3
  exact ow_nil (jy 5 0)
 obtain ⟨y4, ey4, H0⟩ := bS H0
 refine oM rfl (ow_cutY 5 26 y4 ?_ ?_)
 ·rcases Bool.eq_false_or_eq_true y3 with hy4 | hy4
  ·have ey4 := cond_t ey4 hy4
   refine oO rfl hy4 rfl (oO rfl hy4 rfl (oO rfl hy4 rfl (oO rfl hy4 rfl (oD (stp_pick_t rfl hy4 rfl) rfl ?_))))
   obtain rfl := sI ey4
   exact ow_nil (jy 5 0)
  have ey4 := cond_f ey4 hy4
  refine oG rfl hy4 (fA 2 Tryz.underlying29 rfl ts27 rfl rfl rfl) rfl (oG rfl hy4 (lB 0 ts27 rfl rfl rfl) rfl (oG rfl hy4 (stp_len Tryz.underlying27 rfl) rfl (oG rfl hy4 (stp_gtr rfl rfl) rfl (oD (stp_pick_f rfl hy4 rfl) rfl ?_))))
  obtain rfl := sI ey4
  exact ow_nil (jy 5 0)
 refine ow_nil (kw_nx (cw_cond rfl (fun h5 => ?_) (fun h5 => ?_)))
 ·have H0 := cond_t H0 h5
  refine sr (oS rfl (nn (cw_ret (kw_nx_ret ?_))))
  obtain rfl := sI H0
  exact kr Tryz.results20 (rT rfl) [] ⟨rfl, rfl⟩
 have H0 := cond_f H0 h5
 obtain ⟨o0_0, eo0_0, H0⟩ := bS H0
 refine cw_skip (kw_nx (cw_seq (sr (oA 2 Tryz.underlying29 rfl ts27 rfl (oL 0 ts27 rfl (oD (stp_len Tryz.underlying27 rfl) rfl (oM rfl (nn (cw_join (ι := Int) (fun | v6 => o0_0 = .out v6) (fun | v6 => [(1, .pointer (some ⟨b1, 0, none⟩)), (28, .slice p0_2 ((a0.c).length) c0_2), (29, .int .i64 ((a0.c).length : Int)), (30, .int .i64 v6)]) (fun | v6 => [(0, [(b1, .cells #[.slice p0_0 ((a0.t.b).length) c0_0, .slice p0_1 ((a0.t.f).length) c0_1, .slice p0_2 ((a0.c).length) c0_2] 29 (0, 0))])]) ?_ ?_)))))))))
 ·refine cw_block (cw_loopS (ι := Nat × Int) (js := [0]) (fun x => x.1) (fun | (fuel, v6) => i_SystemValid_L0 fl a0 fuel v6 = some o0_0) (fun | (_, v6) => [(1, .pointer (some ⟨b1, 0, none⟩)), (28, .slice p0_2 ((a0.c).length) c0_2), (29, .int .i64 ((a0.c).length : Int)), (30, .int .i64 v6)]) (fun | (_, v6) => [(0, [(b1, .cells #[.slice p0_0 ((a0.t.b).length) c0_0, .slice p0_1 ((a0.t.f).length) c0_1, .slice p0_2 ((a0.c).length) c0_2] 29 (0, 0))])]) (fl, 0) eo0_0 ⟨rfl, rfl, rfl, rfl, trivial⟩ ⟨0, [], rfl, rfl, trivial⟩ (by decide) ?_)
  rintro ⟨fuel, v6⟩ H1
  have H1 : i_SystemValid_L0 fl a0 fuel v6 = some o0_0 := H1
  rcases fuel with _ | fuel
  ·rw [i_SystemValid_L0.eq_1] at H1; cases H1
  rw [i_SystemValid_L0.eq_2] at H1
  dsimp only
  refine sr (oW rfl (nn (cw_seq (cw_cond rfl (fun h7 => ?_) (fun h7 => ?_)))))
  ·have H1 := cond_t H1 h7
   obtain ⟨x8, e8, H1⟩ := bS H1
   refine cw_skip (kw_nx (cw_seq (cw_block (sr ?_))))
   obtain ⟨u9, p10, n11, c12, p13, n14, c15, hw9, hl9, hx9, rfl, hr9, rfl, hs9⟩ := ROD.get hr0_2 e8
   refine oD (stp_indexAddr Tryz.underlying27 ts37 (by decide) rfl hl9 rfl (Rdb.ro hw9) hx9) rfl (oD (stp_loadN (us := [_, _]) ts37 rfl (Cells.el (Rdb.ro hw9) (by decide) hx9 0 2 rfl)) rfl (oE (stpU_alloc 1 tz37 rfl) rfl ?_))
   rintro _ _ ⟨b16, rfl, rfl⟩
   obtain ⟨x17, e17, H1⟩ := bS H1
   refine oC2 1 ts37 rfl rfl (nn (cw_seq (sr (oA 0 Tryz.underlying37 rfl ts35 rfl (oL 1 ts35 rfl (oE (stpU_call (fun i => 2 + i) cf42 (fun w hw => c_i_each fl w x8.n rfl (RO.pass hr9 hw) x17 e17) (yA rfl)) rfl ?_))))))
   rintro _ _ ⟨_, ⟨rfl, rfl⟩, rfl⟩
   obtain ⟨y18, ey18, H1⟩ := bS H1
   refine oK rfl (oM rfl (ow_cutY 5 43 y18 ?_ ?_))
   ·rcases Bool.eq_false_or_eq_true (!x17) with hy18 | hy18
    ·have ey18 := cond_t ey18 hy18
     refine oO rfl hy18 rfl (oO rfl hy18 rfl (oO rfl hy18 rfl (oO rfl hy18 rfl (oD (stp_pick_t rfl hy18 rfl) rfl ?_))))
     obtain rfl := sI ey18
     exact ow_nil (jy 5 0)
    have ey18 := cond_f ey18 hy18
    obtain ⟨x19, e19, ey18⟩ := bS ey18
    refine oG rfl hy18 (fA 1 Tryz.underlying37 rfl ts35 rfl rfl rfl) rfl (oG rfl hy18 (lB 1 ts35 rfl rfl rfl) rfl (ow_eff (.some rfl hy18) (stpU_call (fun i => 2 + i) cf42 (fun w hw => c_i_each fl w x8.w rfl (RO.pass hs9 hw) x19 e19) (yA rfl)) rfl ?_))
    rintro _ _ ⟨_, ⟨rfl, rfl⟩, rfl⟩
    refine oG rfl hy18 (stp_not rfl) rfl (oD (stp_pick_f rfl hy18 rfl) rfl ?_)
    obtain rfl := sI ey18
    exact ow_nil (jy 5 0)
   refine ow_nil (kw_nx (cw_cond rfl (fun h20 => ?_) (fun h20 => ?_)))
   ·have H1 := cond_t H1 h20
    refine sr (oS rfl (nn (cw_ret (kw_nx_ret (kw_bl_ret (kw_nx_ret (kw_lq_ret (kw_bl_ret (kw_join_ret (kw_nx_ret ?_))))))))))
    obtain rfl := sI H1
    obtain rfl := sI H0
    exact kr Tryz.results20 (rT rfl) [] ⟨rfl, rfl⟩
   have H1 := cond_f H1 h20
   obtain ⟨o1_1, eo1_1, H1⟩ := bS H1
   refine cw_skip (kw_nx (cw_seq (sr (oA 0 Tryz.underlying37 rfl ts35 rfl (oL 1 ts35 rfl (oD (stp_len Tryz.underlying35 rfl) rfl (oM rfl (nn (cw_join (ι := Int) (fun | v21 => o1_1 = .out v21) (fun | v21 => [(1, .pointer (some ⟨b1, 0, none⟩)), (4, .pointer (some ⟨b16, 0, none⟩)), (28, .slice p0_2 ((a0.c).length) c0_2), (29, .int .i64 ((a0.c).length : Int)), (30, .int .i64 v6), (45, .slice p10 ((x8.n).length) c12), (46, .int .i64 ((x8.n).length : Int)), (47, .int .i64 v21)]) (fun | v21 => [(0, [(b1, .cells #[.slice p0_0 ((a0.t.b).length) c0_0, .slice p0_1 ((a0.t.f).length) c0_1, .slice p0_2 ((a0.c).length) c0_2] 29 (0, 0))]), (1, [(b16, .cells #[.slice p10 ((x8.n).length) c12, .slice p13 ((x8.w).length) c15] 37 (0, 0))])]) ?_ ?_)))))))))
   ·refine cw_block (cw_loopS (ι := Nat × Int) (js := [0, 1]) (fun x => x.1) (fun | (fuel, v21) => i_SystemValid_L1 fl a0 x8 fuel v21 = some o1_1) (fun | (_, v21) => [(1, .pointer (some ⟨b1, 0, none⟩)), (4, .pointer (some ⟨b16, 0, none⟩)), (28, .slice p0_2 ((a0.c).length) c0_2), (29, .int .i64 ((a0.c).length : Int)), (30, .int .i64 v6), (45, .slice p10 ((x8.n).length) c12), (46, .int .i64 ((x8.n).length : Int)), (47, .int .i64 v21)]) (fun | (_, v21) => [(0, [(b1, .cells #[.slice p0_0 ((a0.t.b).length) c0_0, .slice p0_1 ((a0.t.f).length) c0_1, .slice p0_2 ((a0.c).length) c0_2] 29 (0, 0))]), (1, [(b16, .cells #[.slice p10 ((x8.n).length) c12, .slice p13 ((x8.w).length) c15] 37 (0, 0))])]) (fl, 0) eo1_1 ⟨rfl, rfl, rfl, rfl, rfl, rfl, rfl, rfl, trivial⟩ ⟨0, [1], rfl, rfl, 1, [], rfl, rfl, trivial⟩ (by decide) ?_)
    rintro ⟨fuel, v21⟩ H2
    have H2 : i_SystemValid_L1 fl a0 x8 fuel v21 = some o1_1 := H2
    rcases fuel with _ | fuel
    ·rw [i_SystemValid_L1.eq_1] at H2; cases H2
    rw [i_SystemValid_L1.eq_2] at H2
    dsimp only
    refine sr (oW rfl (nn (cw_seq (cw_cond rfl (fun h22 => ?_) (fun h22 => ?_)))))
    ·have H2 := cond_t H2 h22
     obtain ⟨x23, e23, H2⟩ := bS H2
     refine cw_skip (kw_nx (cw_seq (cw_block (sr (oD (stp_indexAddr Tryz.underlying35 ts52 (by decide) rfl rfl rfl (Rdb.ro hr9) e23) rfl (oD (stp_loadN (us := [_, _, _]) ts52 rfl (Cells.el (Rdb.ro hr9) (by decide) e23 0 3 rfl)) rfl (oE (stpU_alloc 2 tz52 rfl) rfl ?_)))))))
     rintro _ _ ⟨b24, rfl, rfl⟩
     obtain ⟨x25, e25, H2⟩ := bS H2
     refine oC3 2 ts52 rfl rfl (nn (sr (oA 0 Tryz.underlying29 rfl ts26 rfl (oB2 0 ts26 rfl (oA 0 Tryz.underlying52 rfl ts41 rfl (oB2 2 ts41 rfl (oE (stpU_call (fun i => 3 + i) cf43 (fun w hw => c_i_Table_find fl w a0.t x23.k rfl (RO.pass hr0_0 hw) rfl (RO.pass hr0_1 hw) x25 e25) (yB rfl rfl)) rfl ?_)))))))
     rintro _ _ ⟨_, ⟨rfl, rfl⟩, rfl⟩
     obtain ⟨x26, e26, H2⟩ := bS H2
     refine oS rfl (nn (sr (oA 1 Tryz.underlying37 rfl ts35 rfl (oL 1 ts35 rfl (oA 0 Tryz.underlying52 rfl ts41 rfl (oB2 2 ts41 rfl (oE (stpU_call (fun i => 3 + i) cf44 (fun w hw => c_i_noteOf fl w x8.w x23.k rfl (RO.pass hs9 hw) x26 e26) (yB rfl rfl)) rfl ?_)))))))
     rintro _ _ ⟨_, ⟨rfl, rfl⟩, rfl⟩
     refine oS rfl (nn (sr (oM rfl (oI rfl (nn (cw_cond rfl (fun h27 => ?_) (fun h27 => ?_)))))))
     ·have H2 := cond_t H2 h27
      obtain ⟨x28, e28, H2⟩ := bS H2
      obtain ⟨y29, ey29, H2⟩ := bS H2
      refine cw_seq (cw_join (ι := Unit) (fun | _ => True) (fun | _ => [(1, .pointer (some ⟨b1, 0, none⟩)), (4, .pointer (some ⟨b16, 0, none⟩)), (28, .slice p0_2 ((a0.c).length) c0_2), (29, .int .i64 ((a0.c).length : Int)), (30, .int .i64 v6), (45, .slice p10 ((x8.n).length) c12), (46, .int .i64 ((x8.n).length : Int)), (47, .int .i64 v21), (73, .bool y29)]) (fun | _ => [(0, [(b1, .cells #[.slice p0_0 ((a0.t.b).length) c0_0, .slice p0_1 ((a0.t.f).length) c0_1, .slice p0_2 ((a0.c).length) c0_2] 29 (0, 0))]), (1, [(b16, .cells #[.slice p10 ((x8.n).length) c12, .slice p13 ((x8.w).length) c15] 37 (0, 0))])]) ?_ ?_)
      ·rcases Bool.eq_false_or_eq_true (x28 != x23) with hy29 | hy29
       ·have ey29 := cond_t ey29 hy29
        have qy29 := sI ey29
        refine rdq g_mixed [4, 6, 8] [1, 2] { dst := dS [64, 65, 66, 67, 68, 69, 70, 71, 72, 73, 74], pre := gA [] [[], [0], [], [0, 1, 2], rn 0 4, [], rn 0 6, rn 0 7, rn 0 8, rn 0 9, rn 0 10], ids := fun _ => [], rs := rL [[(4, 0)], [(63, 1)], [(8, 0)], [(64, 2), (65, 3)], [(66, 4)], [(6, 0)], [(67, 5), (68, 6)], [(69, 7)], [(70, 8)], [(70, 8)], [(70, 8), (72, 10)]], rh := rL [[], [(1, 0)], [], [], [], [(2, 0)]], V := fun i g => gA undef [.pointer (some ⟨b16, 1, none⟩), .slice p13 ((x8.w).length) c15, .int .i64 x26, .pointer (some ⟨eB p13, eO p13 + Int.toNat x26 * Enc.sz Nt + 0, none⟩), .agg #[.int .i64 x28.k.s, .int .i64 x28.k.p, .int .i64 x28.fr], .agg #[.int .i64 x23.k.s, .int .i64 x23.k.p, .int .i64 x23.fr], .bool (x28 != x23), .bool (x28 != x23), undef, undef, .bool y29] i, U := fun _ _ => [], Φ := fun _ _ => True } ?_ ?_
        ·exact ⟨lc rfl rfl fun hs hh => stp_fieldAddr (j := 1) Tryz.underlying37 rfl ts35 rfl (sv hs 4 rfl) rfl, lc rfl rfl fun hs hh => stp_load1 ts35 (sv hs 63 rfl) (Cells.box (id := 1) (hh.get 1 _ rfl) 1 rfl), lM, lc rfl rfl fun hs hh => stp_indexAddr Tryz.underlying35 ts52 (by decide) (sv hs 64 rfl) rfl (sv hs 65 rfl) (Rdb.ro hs9) e28, lc rfl rfl fun hs hh => stp_loadN (us := [_, _, _]) ts52 (sv hs 66 rfl) (Cells.el (Rdb.ro hs9) (by decide) e28 0 3 rfl), lc rfl rfl fun hs hh => stp_loadN (us := [_, _, _]) ts52 (sv hs 6 rfl) (Cells.box (id := 2) (hh.get 2 _ rfl) 3 rfl), lc rfl rfl fun hs hh => stp_neqS te52 x28 x23 (sv hs 67 rfl) (sv hs 68 rfl), lM, lo rfl rfl 70 hy29, lo rfl rfl 70 hy29, lc rfl rfl fun hs hh => stp_pick_tB (sv hs 70 rfl) hy29 rfl qy29, trivial⟩
        intro g hΦ
        exact kw_join () trivial ⟨rfl, rfl, rfl, rfl, rfl, rfl, rfl, rfl, rfl, trivial⟩ ⟨rfl, rfl, trivial⟩
       have ey29 := cond_f ey29 hy29
       have qy29 := sI ey29
       refine rdq g_mixed [4, 6, 7, 8] [1, 2] { dst := dS [64, 65, 66, 67, 68, 69, 70, 71, 72, 73, 74], pre := gA [] [[], [0], [], [0, 1, 2], rn 0 4, [], rn 0 6, rn 0 7, rn 0 8, rn 0 9, rn 0 10], ids := fun _ => [], rs := rL [[(4, 0)], [(63, 1)], [(8, 0)], [(64, 2), (65, 3)], [(66, 4)], [(6, 0)], [(67, 5), (68, 6)], [(69, 7)], [(7, 0), (70, 8)], [(71, 9), (70, 8)], [(70, 8), (72, 10)]], rh := rL [[], [(1, 0)], [], [], [], [(2, 0)]], V := fun i g => gA undef [.pointer (some ⟨b16, 1, none⟩), .slice p13 ((x8.w).length) c15, .int .i64 x26, .pointer (some ⟨eB p13, eO p13 + Int.toNat x26 * Enc.sz Nt + 0, none⟩), .agg #[.int .i64 x28.k.s, .int .i64 x28.k.p, .int .i64 x28.fr], .agg #[.int .i64 x23.k.s, .int .i64 x23.k.p, .int .i64 x23.fr], .bool (x28 != x23), .bool (x28 != x23), .int .i64 x25, .bool (decide (0 ≤ x25)), .bool y29] i, U := fun _ _ => [], Φ := fun _ _ => True } ?_ ?_
       ·exact ⟨lc rfl rfl fun hs hh => stp_fieldAddr (j := 1) Tryz.underlying37 rfl ts35 rfl (sv hs 4 rfl) rfl, lc rfl rfl fun hs hh => stp_load1 ts35 (sv hs 63 rfl) (Cells.box (id := 1) (hh.get 1 _ rfl) 1 rfl), lM, lc rfl rfl fun hs hh => stp_indexAddr Tryz.underlying35 ts52 (by decide) (sv hs 64 rfl) rfl (sv hs 65 rfl) (Rdb.ro hs9) e28, lc rfl rfl fun hs hh => stp_loadN (us := [_, _, _]) ts52 (sv hs 66 rfl) (Cells.el (Rdb.ro hs9) (by decide) e28 0 3 rfl), lc rfl rfl fun hs hh => stp_loadN (us := [_, _, _]) ts52 (sv hs 6 rfl) (Cells.box (id := 2) (hh.get 2 _ rfl) 3 rfl), lc rfl rfl fun hs hh => stp_neqS te52 x28 x23 (sv hs 67 rfl) (sv hs 68 rfl), lM, lg rfl rfl 70 hy29 fun hs hh => stp_move (sv hs 7 rfl), lg rfl rfl 70 hy29 fun hs hh => stp_geq (sv hs 71 rfl) rfl, lc rfl rfl fun hs hh => stp_pick_fB (sv hs 70 rfl) hy29 (sv hs 72 rfl) qy29, trivial⟩
       intro g hΦ
       exact kw_join () trivial ⟨rfl, rfl, rfl, rfl, rfl, rfl, rfl, rfl, rfl, trivial⟩ ⟨rfl, rfl, trivial⟩
      rintro _ -
      dsimp only
      refine kw_nx (cw_cond rfl (fun h30 => ?_) (fun h30 => ?_))
      ·have H2 := cond_t H2 h30
       refine sr (oS rfl (nn (cw_ret (kw_bl_ret (kw_nx_ret (kw_lq_ret (kw_bl_ret (kw_join_ret (kw_nx_ret (kw_bl_ret (kw_nx_ret (kw_lq_ret (kw_bl_ret ?_)))))))))))))
       refine kw_join_ret (kw_nx_ret ?_)
       obtain rfl := sI H2
       obtain rfl := sI H1
       obtain rfl := sI H0
       exact kr Tryz.results20 (rT rfl) [] ⟨rfl, rfl⟩
      have H2 := cond_f H2 h30
      obtain ⟨x31, e31, H2⟩ := bS H2
      exact cw_skip (kw_bl_normal (kw_nx (cw_region (oP e31 rfl (oM rfl (ow_nil (kw_lqS (js := [0, 1]) (fuel, x31) H2 (Nat.lt_succ_self _) ⟨rfl, rfl, rfl, rfl, rfl, rfl, rfl, rfl, trivial⟩ ⟨0, [1], rfl, rfl, 1, [], rfl, rfl, trivial⟩ (by decide))))))))
     have H2 := cond_f H2 h27
     obtain ⟨y32, ey32, H2⟩ := bS H2
     refine sr (oM rfl (oW rfl (oM rfl (ow_cutY 5 81 y32 ?_ ?_))))
     ·rcases Bool.eq_false_or_eq_true (decide (x25 < 0)) with hy32 | hy32
      ·have ey32 := cond_t ey32 hy32
       refine oO rfl hy32 rfl (oO rfl hy32 rfl (oO rfl hy32 rfl (oO rfl hy32 rfl (oD (stp_pick_t rfl hy32 rfl) rfl ?_))))
       obtain rfl := sI ey32
       exact ow_nil (jy 5 0)
      have ey32 := cond_f ey32 hy32
      refine oG rfl hy32 (mv rfl) rfl (oG rfl hy32 (fA 2 Tryz.underlying52 rfl ts3 rfl rfl rfl) rfl (oG rfl hy32 (lB 2 ts3 rfl rfl rfl) rfl (oG rfl hy32 (stp_neq rfl rfl) rfl (oD (stp_pick_f rfl hy32 rfl) rfl ?_))))
      obtain rfl := sI ey32
      exact ow_nil (jy 5 0)
     refine ow_nil (kw_nx (cw_cond rfl (fun h33 => ?_) (fun h33 => ?_)))
     ·have H2 := cond_t H2 h33
      refine sr (oS rfl (nn (cw_ret (kw_bl_ret (kw_nx_ret (kw_lq_ret (kw_bl_ret (kw_join_ret (kw_nx_ret (kw_bl_ret (kw_nx_ret (kw_lq_ret (kw_bl_ret ?_)))))))))))))
      refine kw_join_ret (kw_nx_ret ?_)
      obtain rfl := sI H2
      obtain rfl := sI H1
      obtain rfl := sI H0
      exact kr Tryz.results20 (rT rfl) [] ⟨rfl, rfl⟩
     have H2 := cond_f H2 h33
     obtain ⟨x34, e34, H2⟩ := bS H2
     exact cw_skip (kw_bl_normal (kw_nx (cw_region (oP e34 rfl (oM rfl (ow_nil (kw_lqS (js := [0, 1]) (fuel, x34) H2 (Nat.lt_succ_self _) ⟨rfl, rfl, rfl, rfl, rfl, rfl, rfl, rfl, trivial⟩ ⟨0, [1], rfl, rfl, 1, [], rfl, rfl, trivial⟩ (by decide))))))))
    have H2 := cond_f H2 h22
    refine cw_exit (kw_nx_exit (kw_lq_exit (kw_bl ?_)))
    obtain rfl := sI H2
    exact kw_joinS (js := [0, 1]) v21 rfl ⟨rfl, rfl, rfl, rfl, rfl, rfl, rfl, rfl, trivial⟩ ⟨0, [1], rfl, rfl, 1, [], rfl, rfl, trivial⟩ (by decide)
   rintro v21 rfl
   dsimp only
   obtain ⟨o1_2, eo1_2, H1⟩ := bS H1
   refine kw_nx (sr (oA 1 Tryz.underlying37 rfl ts35 rfl (oL 1 ts35 rfl (oD (stp_len Tryz.underlying35 rfl) rfl (oM rfl (nn (cw_join (ι := Int) (fun | v35 => o1_2 = .out v35) (fun | v35 => [(1, .pointer (some ⟨b1, 0, none⟩)), (4, .pointer (some ⟨b16, 0, none⟩)), (28, .slice p0_2 ((a0.c).length) c0_2), (29, .int .i64 ((a0.c).length : Int)), (30, .int .i64 v6), (84, .slice p13 ((x8.w).length) c15), (85, .int .i64 ((x8.w).length : Int)), (86, .int .i64 v35)]) (fun | v35 => [(0, [(b1, .cells #[.slice p0_0 ((a0.t.b).length) c0_0, .slice p0_1 ((a0.t.f).length) c0_1, .slice p0_2 ((a0.c).length) c0_2] 29 (0, 0))]), (1, [(b16, .cells #[.slice p10 ((x8.n).length) c12, .slice p13 ((x8.w).length) c15] 37 (0, 0))])]) ?_ ?_)))))))
   ·refine cw_block (cw_loopS (ι := Nat × Int) (js := [0, 1]) (fun x => x.1) (fun | (fuel, v35) => i_SystemValid_L2 fl a0 x8 fuel v35 = some o1_2) (fun | (_, v35) => [(1, .pointer (some ⟨b1, 0, none⟩)), (4, .pointer (some ⟨b16, 0, none⟩)), (28, .slice p0_2 ((a0.c).length) c0_2), (29, .int .i64 ((a0.c).length : Int)), (30, .int .i64 v6), (84, .slice p13 ((x8.w).length) c15), (85, .int .i64 ((x8.w).length : Int)), (86, .int .i64 v35)]) (fun | (_, v35) => [(0, [(b1, .cells #[.slice p0_0 ((a0.t.b).length) c0_0, .slice p0_1 ((a0.t.f).length) c0_1, .slice p0_2 ((a0.c).length) c0_2] 29 (0, 0))]), (1, [(b16, .cells #[.slice p10 ((x8.n).length) c12, .slice p13 ((x8.w).length) c15] 37 (0, 0))])]) (fl, 0) eo1_2 ⟨rfl, rfl, rfl, rfl, rfl, rfl, rfl, rfl, trivial⟩ ⟨0, [1], rfl, rfl, 1, [], rfl, rfl, trivial⟩ (by decide) ?_)
    rintro ⟨fuel, v35⟩ H2
    have H2 : i_SystemValid_L2 fl a0 x8 fuel v35 = some o1_2 := H2
    rcases fuel with _ | fuel
    ·rw [i_SystemValid_L2.eq_1] at H2; cases H2
    rw [i_SystemValid_L2.eq_2] at H2
    dsimp only
    refine sr (oW rfl (nn (cw_seq (cw_cond rfl (fun h36 => ?_) (fun h36 => ?_)))))
    ·have H2 := cond_t H2 h36
     obtain ⟨x37, e37, H2⟩ := bS H2
     refine cw_skip (kw_nx (cw_seq (cw_block (sr (oD (stp_indexAddr Tryz.underlying35 ts52 (by decide) rfl rfl rfl (Rdb.ro hs9) e37) rfl (oD (stp_loadN (us := [_, _, _]) ts52 rfl (Cells.el (Rdb.ro hs9) (by decide) e37 0 3 rfl)) rfl (oE (stpU_alloc 3 tz52 rfl) rfl ?_)))))))
     rintro _ _ ⟨b38, rfl, rfl⟩
     obtain ⟨x39, e39, H2⟩ := bS H2
     refine oC3 3 ts52 rfl rfl (nn (sr (oA 0 Tryz.underlying37 rfl ts35 rfl (oL 1 ts35 rfl (oA 0 Tryz.underlying52 rfl ts41 rfl (oB2 3 ts41 rfl (oE (stpU_call (fun i => 4 + i) cf44 (fun w hw => c_i_noteOf fl w x8.n x37.k rfl (RO.pass hr9 hw) x39 e39) (yB rfl rfl)) rfl ?_)))))))
     rintro _ _ ⟨_, ⟨rfl, rfl⟩, rfl⟩
     obtain ⟨y40, ey40, H2⟩ := bS H2
     refine oW rfl (oM rfl (ow_cutY 9 105 y40 ?_ ?_))
     ·rcases Bool.eq_false_or_eq_true (decide (x39 < 0)) with hy40 | hy40
      ·have ey40 := cond_t ey40 hy40
       refine oO rfl hy40 rfl (oO rfl hy40 rfl (oO rfl hy40 rfl (oO rfl hy40 rfl (oO rfl hy40 rfl (oO rfl hy40 rfl (oO rfl hy40 rfl (oO rfl hy40 rfl (oD (stp_pick_t rfl hy40 rfl) rfl ?_))))))))
       obtain rfl := sI ey40
       exact ow_nil (jy 9 0)
      have ey40 := cond_f ey40 hy40
      obtain ⟨x41, e41, ey40⟩ := bS ey40
      refine oG rfl hy40 (fA 2 Tryz.underlying52 rfl ts3 rfl rfl rfl) rfl (oG rfl hy40 (lB 3 ts3 rfl rfl rfl) rfl (oG rfl hy40 (fA 0 Tryz.underlying29 rfl ts26 rfl rfl rfl) rfl (oG rfl hy40 (fA 1 Tryz.underlying26 rfl ts24 rfl rfl rfl) rfl (oG rfl hy40 (lB 0 ts24 rfl rfl rfl) rfl (oG rfl hy40 (stp_len Tryz.underlying24 rfl) rfl (ow_eff (.some rfl hy40) (stpU_call (fun i => 4 + i) cf31 (fun w hw => c_i_within fl w x37.fr ((a0.t.f).length : Int) x41 e41) (yB rfl rfl)) rfl ?_))))))
      rintro _ _ ⟨_, ⟨rfl, rfl⟩, rfl⟩
      refine oG rfl hy40 (stp_not rfl) rfl (oD (stp_pick_f rfl hy40 rfl) rfl ?_)
      obtain rfl := sI ey40
      exact ow_nil (jy 9 0)
     obtain ⟨y42, ey42, H2⟩ := bS H2
     refine oM rfl (ow_cutY 9 115 y42 ?_ ?_)
     ·rcases Bool.eq_false_or_eq_true y40 with hy42 | hy42
      ·have ey42 := cond_t ey42 hy42
       refine oO rfl hy42 rfl (oO rfl hy42 rfl (oO rfl hy42 rfl (oO rfl hy42 rfl (oO rfl hy42 rfl (oO rfl hy42 rfl (oO rfl hy42 rfl (oO rfl hy42 rfl (oD (stp_pick_t rfl hy42 rfl) rfl ?_))))))))
       obtain rfl := sI ey42
       exact ow_nil (jy 9 0)
      have ey42 := cond_f ey42 hy42
      obtain ⟨x43, e43, ey42⟩ := bS ey42
      refine oG rfl hy42 (fA 0 Tryz.underlying29 rfl ts26 rfl rfl rfl) rfl (oG rfl hy42 (fA 1 Tryz.underlying26 rfl ts24 rfl rfl rfl) rfl (oG rfl hy42 (lB 0 ts24 rfl rfl rfl) rfl (oG rfl hy42 (fA 2 Tryz.underlying52 rfl ts3 rfl rfl rfl) rfl (oG rfl hy42 (lB 3 ts3 rfl rfl rfl) rfl (oG rfl hy42 (stp_indexAddr Tryz.underlying24 ts76 (by decide) rfl rfl rfl (Rdb.ro hr0_1) e43) rfl (oG rfl hy42 (fA 0 Tryz.underlying76 rfl ts4 rfl rfl rfl) rfl (oG rfl hy42 (stp_load1 ts4 rfl (Cells.el (Rdb.ro hr0_1) (by decide) e43 0 1 rfl)) rfl (oD (stp_pick_f rfl hy42 rfl) rfl ?_))))))))
      obtain rfl := sI ey42
      exact ow_nil (jy 9 0)
     refine ow_nil (kw_nx (cw_cond rfl (fun h44 => ?_) (fun h44 => ?_)))
     ·have H2 := cond_t H2 h44
      refine sr (oS rfl (nn (cw_ret (kw_bl_ret (kw_nx_ret (kw_lq_ret (kw_bl_ret (kw_join_ret (kw_bl_ret (kw_nx_ret (kw_lq_ret (kw_bl_ret (kw_join_ret ?_)))))))))))))
      refine kw_nx_ret ?_
      obtain rfl := sI H2
      obtain rfl := sI H1
      obtain rfl := sI H0
      exact kr Tryz.results20 (rT rfl) [] ⟨rfl, rfl⟩
     have H2 := cond_f H2 h44
     obtain ⟨x45, e45, H2⟩ := bS H2
     exact cw_skip (kw_bl_normal (kw_nx (cw_region (oP e45 rfl (oM rfl (ow_nil (kw_lqS (js := [0, 1]) (fuel, x45) H2 (Nat.lt_succ_self _) ⟨rfl, rfl, rfl, rfl, rfl, rfl, rfl, rfl, trivial⟩ ⟨0, [1], rfl, rfl, 1, [], rfl, rfl, trivial⟩ (by decide))))))))
    have H2 := cond_f H2 h36
    refine cw_exit (kw_nx_exit (kw_lq_exit (kw_bl ?_)))
    obtain rfl := sI H2
    exact kw_joinS (js := [0, 1]) v35 rfl ⟨rfl, rfl, rfl, rfl, rfl, rfl, rfl, rfl, trivial⟩ ⟨0, [1], rfl, rfl, 1, [], rfl, rfl, trivial⟩ (by decide)
   rintro v35 rfl
   dsimp only
   obtain ⟨x46, e46, H1⟩ := bS H1
   exact kw_bl_normal (kw_nx (cw_region (oP e46 rfl (oM rfl (ow_nil (kw_lqS (js := [0]) (fuel, x46) H1 (Nat.lt_succ_self _) ⟨rfl, rfl, rfl, rfl, trivial⟩ ⟨0, [], rfl, rfl, trivial⟩ (by decide)))))))
  have H1 := cond_f H1 h7
  refine cw_exit (kw_nx_exit (kw_lq_exit (kw_bl ?_)))
  obtain rfl := sI H1
  exact kw_joinS (js := [0]) v6 rfl ⟨rfl, rfl, rfl, rfl, trivial⟩ ⟨0, [], rfl, rfl, trivial⟩ (by decide)
 rintro v6 rfl
 dsimp only
 refine kw_nx (sr (oS rfl (nn (cw_ret ?_))))
 obtain rfl := sI H0
 exact kr Tryz.results20 (rT rfl) [] ⟨rfl, rfl⟩

theorem c_i_cpuOf (fl : Nat) (w : World) (a0 : Sy) (a1 : Int) (hn0_0 : n0_0 = (a0.t.b).length) (hr0_0 : RO w (hkeys []) (RdL p0_0 c0_0 a0.t.b)) (hn0_1 : n0_1 = (a0.t.f).length) (hr0_1 : RO w (hkeys []) (RdL p0_1 c0_1 a0.t.f)) (hn0_2 : n0_2 = (a0.c).length) (hr0_2 : ROD w (hkeys []) p0_2 c0_2 a0.c) (hg : RO w (hkeys []) (fun w' => w'.rangeAt 0 0 [.bool false, .int .i64 0, .int .i64 0, .int .i64 0, .int .i64 (-1)])) (r : Bool) (H0 : i_cpuOf fl a0 a1 = some r) :
  Ct Tryz.prog 10 [.agg #[.slice p0_0 n0_0 c0_0, .slice p0_1 n0_1 c0_1, .slice p0_2 n0_2 c0_2], .int .i64 a1] w [] (fun rv h' => rv = .bool r ∧ h' = []) := by
 subst hn0_0 hn0_1 hn0_2
 unfold i_cpuOf at H0
 refine ct_of_cw Tryz.func10 rfl Tryz.ntmps10 rfl (Sat.refl _ _) ?_
 refine sr (oE (stpU_box 0 rfl rfl) rfl ?_)
 rintro _ _ ⟨b1, rfl, rfl⟩
 obtain ⟨x2, e2, H0⟩ := bS H0
 refine oS rfl (nn (sr (oB3 0 ts29 rfl (oE (stpU_call (fun i => 1 + i) cf20 (fun w hw => c_i_SystemValid fl w a0 rfl (RO.pass hr0_0 hw) rfl (RO.pass hr0_1 hw) rfl (ROD.pass hr0_2 hw) (RO.pass hg hw) x2 e2) (yA rfl)) rfl ?_))))
 rintro _ _ ⟨_, ⟨rfl, rfl⟩, rfl⟩
 obtain ⟨y3, ey3, H0⟩ := bS H0
 refine oM rfl (ow_cutY 6 13 y3 ?_ ?_)
 ·rcases Bool.eq_false_or_eq_true x2 with hy3 | hy3
  ·have ey3 := cond_t ey3 hy3
   obtain ⟨x4, e4, ey3⟩ := bS ey3
   refine oG rfl hy3 (mv rfl) rfl (oG rfl hy3 (fA 2 Tryz.underlying29 rfl ts27 rfl rfl rfl) rfl (oG rfl hy3 (lB 0 ts27 rfl rfl rfl) rfl (oG rfl hy3 (stp_len Tryz.underlying27 rfl) rfl (ow_eff (.some rfl hy3) (stpU_call (fun i => 1 + i) cf31 (fun w hw => c_i_within fl w a1 ((a0.c).length : Int) x4 e4) (yB rfl rfl)) rfl ?_))))
   rintro _ _ ⟨_, ⟨rfl, rfl⟩, rfl⟩
   refine oD (stp_pick_t rfl hy3 rfl) rfl ?_
   obtain rfl := sI ey3
   exact ow_nil (jy 6 0)
  have ey3 := cond_f ey3 hy3
  refine oO rfl hy3 rfl (oO rfl hy3 rfl (oO rfl hy3 rfl (oO rfl hy3 rfl (oO rfl hy3 rfl (oD (stp_pick_f rfl hy3 rfl) rfl ?_)))))
  obtain rfl := sI ey3
  exact ow_nil (jy 6 0)
 refine oS rfl (nn (cw_ret ?_))
 obtain rfl := sI H0
 exact kr Tryz.results10 (rT rfl) [] ⟨rfl, rfl⟩

theorem c_slices_Clone_Int (fl : Nat) (w : World) (a0 : (List Int)) (hn0_0 : n0_0 = (a0).length) (hr0_0 : RO w (hkeys []) (RdL p0_0 c0_0 a0)) (r : (List Int)) (H0 : slices_Clone_Int fl a0 = some r) :
  Ct Tryz.prog 53 [.slice p0_0 n0_0 c0_0] w [] (fun rv h' => ∃ (x0 : Option Addr) (y0 z0 : Nat) (C0 : Res), rv = .slice x0 y0 z0 ∧ h' = [(0, C0)] ∧ y0 = (r).length ∧ OwnC 3 x0 z0 r C0) := by
 subst hn0_0
 unfold slices_Clone_Int at H0
 refine ct_of_cw Tryz.func53 rfl Tryz.ntmps53 rfl (Sat.refl _ _) ?_
 refine sr (oS rfl (nn (cw_seq (sr (oM rfl (oD (stp_eqlNil Tryz.underlying23 rfl) rfl (nn (cw_cond rfl (fun h1 => ?_) (fun h1 => ?_)))))))))
 ·have := True.intro
  obtain rfl : p0_0 = none := by simpa using h1
  obtain rfl : a0 = [] := nil_of_none hr0_0
  obtain rfl : r = [] := (cnt_some H0).1
  exact sr (oS rfl (nn (cw_ret (kw_nx_ret (kw_addNil 0 (kw_ret Tryz.results53 (rT rfl) [(0, [])] [0] ⟨0, [], rfl, rfl, trivial⟩ (by decide) ⟨none, 0, 0, [], rfl, rfl, rfl, (OwnC.nil _ _)⟩))))))
 have := True.intro
 refine cw_skip (kw_nx (sr (oE (stpU_lit0 sl23 1) rfl ?_)))
 rintro _ _ ⟨p2, C3, rfl, rfl, o3⟩
 refine oM rfl ?_
 have e4 : cnt (([] : List Int) ++ a0) = some r := H0
 refine oE (stpU_append sl23 rfl (id := 1) rfl (by simp) rfl rfl rfl o3 (Rdb.ro hr0_0) e4) rfl ?_
 rintro _ _ ⟨p5, c6, C7, rfl, rfl, o7⟩
 exact oS rfl (nn (cw_ret (kw_ret Tryz.results53 (rT rfl) [(0, C7)] [1] ⟨1, [], rfl, rfl, trivial⟩ (by decide) ⟨p5, ((r).length), c6, C7, rfl, rfl, rfl, o7⟩)))

theorem c_slices_Clone_Frame (fl : Nat) (w : World) (a0 : (List F)) (hn0_0 : n0_0 = (a0).length) (hr0_0 : RO w (hkeys []) (RdL p0_0 c0_0 a0)) (r : (List F)) (H0 : slices_Clone_Frame fl a0 = some r) :
  Ct Tryz.prog 55 [.slice p0_0 n0_0 c0_0] w [] (fun rv h' => ∃ (x0 : Option Addr) (y0 z0 : Nat) (C0 : Res), rv = .slice x0 y0 z0 ∧ h' = [(0, C0)] ∧ y0 = (r).length ∧ OwnC 76 x0 z0 r C0) := by
 subst hn0_0
 unfold slices_Clone_Frame at H0
 refine ct_of_cw Tryz.func55 rfl Tryz.ntmps55 rfl (Sat.refl _ _) ?_
 refine sr (oS rfl (nn (cw_seq (sr (oM rfl (oD (stp_eqlNil Tryz.underlying24 rfl) rfl (nn (cw_cond rfl (fun h1 => ?_) (fun h1 => ?_)))))))))
 ·have := True.intro
  obtain rfl : p0_0 = none := by simpa using h1
  obtain rfl : a0 = [] := nil_of_none hr0_0
  obtain rfl : r = [] := (cnt_some H0).1
  exact sr (oS rfl (nn (cw_ret (kw_nx_ret (kw_addNil 0 (kw_ret Tryz.results55 (rT rfl) [(0, [])] [0] ⟨0, [], rfl, rfl, trivial⟩ (by decide) ⟨none, 0, 0, [], rfl, rfl, rfl, (OwnC.nil _ _)⟩))))))
 have := True.intro
 refine cw_skip (kw_nx (sr (oE (stpU_lit0 sl24 1) rfl ?_)))
 rintro _ _ ⟨p2, C3, rfl, rfl, o3⟩
 refine oM rfl ?_
 have e4 : cnt (([] : List F) ++ a0) = some r := H0
 refine oE (stpU_append sl24 rfl (id := 1) rfl (by simp) rfl rfl rfl o3 (Rdb.ro hr0_0) e4) rfl ?_
 rintro _ _ ⟨p5, c6, C7, rfl, rfl, o7⟩
 exact oS rfl (nn (cw_ret (kw_ret Tryz.results55 (rT rfl) [(0, C7)] [1] ⟨1, [], rfl, rfl, trivial⟩ (by decide) ⟨p5, ((r).length), c6, C7, rfl, rfl, rfl, o7⟩)))

theorem c_i_Table_clone (fl : Nat) (w : World) (a0 : T) (hn0_0 : n0_0 = (a0.b).length) (hr0_0 : RO w (hkeys []) (RdL p0_0 c0_0 a0.b)) (hn0_1 : n0_1 = (a0.f).length) (hr0_1 : RO w (hkeys []) (RdL p0_1 c0_1 a0.f)) (r : T) (H0 : i_Table_clone fl a0 = some r) :
  Ct Tryz.prog 32 [.agg #[.slice p0_0 n0_0 c0_0, .slice p0_1 n0_1 c0_1]] w [] (fun rv h' => ∃ (x0 : Option Addr) (y0 z0 : Nat) (C0 : Res) (x1 : Option Addr) (y1 z1 : Nat) (C1 : Res), rv = .agg #[.slice x0 y0 z0, .slice x1 y1 z1] ∧ h' = [(0, C0), (1, C1)] ∧ y0 = (r.b).length ∧ OwnC 3 x0 z0 r.b C0 ∧ y1 = (r.f).length ∧ OwnC 76 x1 z1 r.f C1) := by
 subst hn0_0 hn0_1
 unfold i_Table_clone at H0
 refine ct_of_cw Tryz.func32 rfl Tryz.ntmps32 rfl (Sat.refl _ _) ?_
 refine sr (oE (stpU_box 0 rfl rfl) rfl ?_)
 rintro _ _ ⟨b1, rfl, rfl⟩
 refine oE (stpU_alloc 1 tz26 rfl) rfl ?_
 rintro _ _ ⟨b2, rfl, rfl⟩
 obtain ⟨x3, e3, H0⟩ := bS H0
 obtain ⟨x8, e8, H0⟩ := bS H0
 refine nn (cw_seq (rdq g_mixed [1, 2] [0, 1] { dst := dS [4, 5, 6, 7, 8, 9, 10, 11, 12, 0], pre := gA [] [[], [0], [0, 1], [0, 1, 2], [], [4], rn 0 6, rn 0 7, rn 0 8, rn 0 9], ids := gA [] [[], [], [2], [], [], [], [3], [], [], [1]], rs := rL [[(1, 0)], [(3, 1)], [(4, 2)], [(5, 3)], [(1, 0)], [(7, 5)], [(8, 6)], [(9, 7)], [(6, 4), (10, 8)], [(2, 0), (11, 9)]], rh := rL [[], [(0, 0)], [], [], [], [(0, 0)], [], [], [], [(1, 0)]], V := fun i g => gA undef [.pointer (some ⟨b1, 0, none⟩), .slice p0_0 ((a0.b).length) c0_0, .slice ((g 2).A 0) ((x3).length) ((g 2).C 0), .slice ((g 2).A 0) ((x3).length) ((x3).length), .pointer (some ⟨b1, 1, none⟩), .slice p0_1 ((a0.f).length) c0_1, .slice ((g 6).A 0) ((x8).length) ((g 6).C 0), .slice ((g 6).A 0) ((x8).length) ((x8).length), .agg #[.slice ((g 2).A 0) ((x3).length) ((x3).length), .slice ((g 6).A 0) ((x8).length) ((x8).length)]] i, U := fun i g => gA [] [[], [], [(2, ((g 2).R 0))], [], [], [], [(3, ((g 6).R 0))], [], [], [(1, [(b2, .cells #[.slice ((g 2).A 0) ((x3).length) ((x3).length), .slice ((g 6).A 0) ((x8).length) ((x8).length)] 26 (0, 0))])]] i, Φ := fun i x => match i with | 2 => OwnC 3 (x.A 0) (x.C 0) x3 (x.R 0) | 6 => OwnC 76 (x.A 0) (x.C 0) x8 (x.R 0) | _ => True } ?_ ?_))
 ·refine ⟨lc rfl rfl fun hs hh => stp_fieldAddr (j := 0) Tryz.underlying26 rfl ts23 rfl (sv hs 1 rfl) rfl, lc rfl rfl fun hs hh => stp_load1 ts23 (sv hs 3 rfl) (Cells.box (id := 0) (hh.get 0 _ rfl) 1 rfl), ?_, ?_, lc rfl rfl fun hs hh => stp_fieldAddr (j := 1) Tryz.underlying26 rfl ts24 rfl (sv hs 1 rfl) rfl, lc rfl rfl fun hs hh => stp_load1 ts24 (sv hs 7 rfl) (Cells.box (id := 0) (hh.get 0 _ rfl) 1 rfl), ?_, ?_, ld rfl rfl fun g hΦ s h hs hh => stp_build (cs := #[.slice ((g 2).A 0) ((x3).length) ((x3).length), .slice ((g 6).A 0) ((x8).length) ((x8).length)]) (sevp_cons (sv hs 6 rfl) (sevp_cons (sv hs 10 rfl) sevp_nil)) bt26_5, ?_, trivial⟩
  ·refine le rfl rfl (fun g hΦ s h hs hh => (stpU_call (fun i => 2 + i) cf53 (fun w hw => c_slices_Clone_Int fl w a0.b rfl (RO.pass hr0_0 hw) x3 e3) (yA (sv hs 4 rfl)))) ?_
   rintro g _ _ ⟨_, ⟨p4, _, c6, C7, rfl, rfl, rfl, o7⟩, rfl⟩
   exact ⟨⟨[p4], [c6], [C7]⟩, o7, .inr rfl, rfl⟩
  ·refine le rfl rfl (fun g hΦ s h hs hh => (stpU_call (fun i => i) cf22 (fun w hw => c_clip22 w ((g 2).A 0) ((x3).length) ((g 2).C 0) (OwnC.len (hΦ 2 rfl)).1) (yA (sv hs 5 rfl)))) ?_
   rintro g _ _ ⟨_, ⟨rfl, rfl⟩, rfl⟩
   exact ⟨⟨[], [], []⟩, trivial, .inr rfl, rfl⟩
  ·refine le rfl rfl (fun g hΦ s h hs hh => (stpU_call (fun i => 3 + i) cf55 (fun w hw => c_slices_Clone_Frame fl w a0.f rfl (RO.pass hr0_1 hw) x8 e8) (yA (sv hs 8 rfl)))) ?_
   rintro g _ _ ⟨_, ⟨p9, _, c11, C12, rfl, rfl, rfl, o12⟩, rfl⟩
   exact ⟨⟨[p9], [c11], [C12]⟩, o12, .inr rfl, rfl⟩
  ·refine le rfl rfl (fun g hΦ s h hs hh => (stpU_call (fun i => i) cf54 (fun w hw => c_clip54 w ((g 6).A 0) ((x8).length) ((g 6).C 0) (OwnC.len (hΦ 6 rfl)).1) (yA (sv hs 9 rfl)))) ?_
   rintro g _ _ ⟨_, ⟨rfl, rfl⟩, rfl⟩
   exact ⟨⟨[], [], []⟩, trivial, .inr rfl, rfl⟩
  refine le rfl rfl (fun g hΦ s h hs hh => (stpU_store (id := 1) (cs' := [.slice ((g 2).A 0) ((x3).length) ((x3).length), .slice ((g 6).A 0) ((x8).length) ((x8).length)]) ts26 (sv hs 2 rfl) (sv hs 11 rfl) (hh.get 1 _ rfl) rfl rfl rfl rfl)) ?_
  rintro g _ _ rfl
  exact ⟨⟨[], [], []⟩, trivial, .inl rfl, rfl⟩
 intro g hΦ
 refine kw_gen (ι := Option Addr × Nat × Res × Option Addr × Nat × Res) (((g 2).A 0), ((g 2).C 0), ((g 2).R 0), ((g 6).A 0), ((g 6).C 0), ((g 6).R 0)) (fun | (p4, c6, C7, p9, c11, C12) => OwnC 3 p4 c6 x3 C7 ∧ OwnC 76 p9 c11 x8 C12) (fun | (p4, c6, C7, p9, c11, C12) => [(2, .pointer (some ⟨b2, 0, none⟩))]) (fun | (p4, c6, C7, p9, c11, C12) => [(1, [(b2, .cells #[.slice p4 ((x3).length) ((x3).length), .slice p9 ((x8).length) ((x8).length)] 26 (0, 0))]), (2, C7), (3, C12)]) ⟨(hΦ 2 (by decide)), (hΦ 6 (by decide))⟩ ⟨rfl, trivial⟩ ⟨rfl, rfl, rfl, trivial⟩ ?_
 rintro ⟨p4, c6, C7, p9, c11, C12⟩ ⟨o7, o12⟩
 dsimp only
 refine kw_nx (cw_ret ?_)
 obtain rfl := sI H0
 exact kr Tryz.results32 (rC2 1 ts26 rfl rfl) [2, 3] ⟨_, _, _, _, _, _, _, _, rfl, rfl, rfl, (OwnC.clip o7), rfl, (OwnC.clip o12)⟩

theorem c_slices_Clone_Note (fl : Nat) (w : World) (a0 : (List Nt)) (hn0_0 : n0_0 = (a0).length) (hr0_0 : RO w (hkeys []) (RdL p0_0 c0_0 a0)) (r : (List Nt)) (H0 : slices_Clone_Note fl a0 = some r) :
  Ct Tryz.prog 34 [.slice p0_0 n0_0 c0_0] w [] (fun rv h' => ∃ (x0 : Option Addr) (y0 z0 : Nat) (C0 : Res), rv = .slice x0 y0 z0 ∧ h' = [(0, C0)] ∧ y0 = (r).length ∧ OwnC 52 x0 z0 r C0) := by
 subst hn0_0
 unfold slices_Clone_Note at H0
 refine ct_of_cw Tryz.func34 rfl Tryz.ntmps34 rfl (Sat.refl _ _) ?_
 refine sr (oS rfl (nn (cw_seq (sr (oM rfl (oD (stp_eqlNil Tryz.underlying35 rfl) rfl (nn (cw_cond rfl (fun h1 => ?_) (fun h1 => ?_)))))))))
 ·have := True.intro
  obtain rfl : p0_0 = none := by simpa using h1
  obtain rfl : a0 = [] := nil_of_none hr0_0
  obtain rfl : r = [] := (cnt_some H0).1
  exact sr (oS rfl (nn (cw_ret (kw_nx_ret (kw_addNil 0 (kw_ret Tryz.results34 (rT rfl) [(0, [])] [0] ⟨0, [], rfl, rfl, trivial⟩ (by decide) ⟨none, 0, 0, [], rfl, rfl, rfl, (OwnC.nil _ _)⟩))))))
 have := True.intro
 refine cw_skip (kw_nx (sr (oE (stpU_lit0 sl35 1) rfl ?_)))
 rintro _ _ ⟨p2, C3, rfl, rfl, o3⟩
 refine oM rfl ?_
 have e4 : cnt (([] : List Nt) ++ a0) = some r := H0
 refine oE (stpU_append sl35 rfl (id := 1) rfl (by simp) rfl rfl rfl o3 (Rdb.ro hr0_0) e4) rfl ?_
 rintro _ _ ⟨p5, c6, C7, rfl, rfl, o7⟩
 exact oS rfl (nn (cw_ret (kw_ret Tryz.results34 (rT rfl) [(0, C7)] [1] ⟨1, [], rfl, rfl, trivial⟩ (by decide) ⟨p5, ((r).length), c6, C7, rfl, rfl, rfl, o7⟩)))

theorem c_i_System_clone (fl : Nat) (w : World) (a0 : Sy) (hn0_0 : n0_0 = (a0.t.b).length) (hr0_0 : RO w (hkeys []) (RdL p0_0 c0_0 a0.t.b)) (hn0_1 : n0_1 = (a0.t.f).length) (hr0_1 : RO w (hkeys []) (RdL p0_1 c0_1 a0.t.f)) (hn0_2 : n0_2 = (a0.c).length) (hr0_2 : ROD w (hkeys []) p0_2 c0_2 a0.c) (r : Sy) (H0 : i_System_clone fl a0 = some r) :
  Ct Tryz.prog 11 [.agg #[.slice p0_0 n0_0 c0_0, .slice p0_1 n0_1 c0_1, .slice p0_2 n0_2 c0_2]] w [] (fun rv h' => ∃ (x0 : Option Addr) (y0 z0 : Nat) (C0 : Res) (x1 : Option Addr) (y1 z1 : Nat) (C1 : Res) (x2 : Option Addr) (y2 z2 : Nat) (C2 : Res), rv = .agg #[.slice x0 y0 z0, .slice x1 y1 z1, .slice x2 y2 z2] ∧ h' = [(0, C0), (1, C1), (2, C2)] ∧ y0 = (r.t.b).length ∧ OwnC 3 x0 z0 r.t.b C0 ∧ y1 = (r.t.f).length ∧ OwnC 76 x1 z1 r.t.f C1 ∧ y2 = (r.c).length ∧ OwnD 37 52 x2 z2 r.c C2) := by
 subst hn0_0 hn0_1 hn0_2
 unfold i_System_clone at H0
 refine ct_of_cw Tryz.func11 rfl Tryz.ntmps11 rfl (Sat.refl _ _) ?_
 refine sr (oE (stpU_box 0 rfl rfl) rfl ?_)
 rintro _ _ ⟨b1, rfl, rfl⟩
 refine oE (stpU_alloc 1 tz29 rfl) rfl ?_
 rintro _ _ ⟨b2, rfl, rfl⟩
 obtain ⟨x3, e3, H0⟩ := bS H0
 obtain ⟨x12, e12, H0⟩ := bS H0
 refine nn (cw_seq (rdq g_mixed [1] [0] { dst := dS [7, 8, 9, 10, 11, 12, 13, 14, 4, 0], pre := gA [] [[], [0], [0, 1], [], [3], [3, 4], [3, 4, 5], rn 0 7, [], rn 0 9], ids := gA [] [[], [], [2, 3], [], [], [], [4], [], [5], [5]], rs := rL [[(1, 0)], [(6, 1)], [(7, 2)], [(1, 0)], [(9, 4)], [(10, 5)], [(11, 6)], [(8, 3), (12, 7)], [], [(3, 9), (13, 8)]], rh := rL [[], [(0, 0)], [], [], [(0, 0)], [], [], [], [], [(5, 9)]], V := fun i g => gA undef [.pointer (some ⟨b1, 0, none⟩), .agg #[.slice p0_0 ((a0.t.b).length) c0_0, .slice p0_1 ((a0.t.f).length) c0_1], .agg #[.slice ((g 2).A 0) ((x3.b).length) ((g 2).C 0), .slice ((g 2).A 1) ((x3.f).length) ((g 2).C 1)], .pointer (some ⟨b1, 2, none⟩), .slice p0_2 ((a0.c).length) c0_2, .int .i64 ((a0.c).length : Int), .slice ((g 6).A 0) x12 x12, .agg #[.slice ((g 2).A 0) ((x3.b).length) ((g 2).C 0), .slice ((g 2).A 1) ((x3.f).length) ((g 2).C 1), .slice ((g 6).A 0) x12 x12], .pointer (some ⟨((g 8).C 0), 0, none⟩)] i, U := fun i g => gA [] [[], [], [(2, ((g 2).R 0)), (3, ((g 2).R 1))], [], [], [], [(4, ((g 6).R 0))], [], [(5, [(((g 8).C 0), .cells #[.slice none 0 0, .slice none 0 0, .slice none 0 0] 29 (0, 0))])], [(5, [(((g 8).C 0), .cells #[.slice ((g 2).A 0) ((x3.b).length) ((g 2).C 0), .slice ((g 2).A 1) ((x3.f).length) ((g 2).C 1), .slice ((g 6).A 0) x12 x12] 29 (0, 0))])]] i, Φ := fun i x => match i with | 2 => OwnC 3 (x.A 0) (x.C 0) x3.b (x.R 0) ∧ OwnC 76 (x.A 1) (x.C 1) x3.f (x.R 1) | 6 => OwnD 37 52 (x.A 0) x12 (List.replicate x12 (⟨[], []⟩ : Cp)) (x.R 0) | _ => True } ?_ ?_))
 ·refine ⟨lc rfl rfl fun hs hh => stp_fieldAddr (j := 0) Tryz.underlying29 rfl ts26 rfl (sv hs 1 rfl) rfl, lc rfl rfl fun hs hh => stp_loadN (us := [_, _]) ts26 (sv hs 6 rfl) (Cells.box (id := 0) (hh.get 0 _ rfl) 2 rfl), ?_, lc rfl rfl fun hs hh => stp_fieldAddr (j := 2) Tryz.underlying29 rfl ts27 rfl (sv hs 1 rfl) rfl, lc rfl rfl fun hs hh => stp_load1 ts27 (sv hs 9 rfl) (Cells.box (id := 0) (hh.get 0 _ rfl) 1 rfl), lc rfl rfl fun hs hh => stp_len Tryz.underlying27 (sv hs 10 rfl), ?_, ld rfl rfl fun g hΦ s h hs hh => stp_build (cs := #[.slice ((g 2).A 0) ((x3.b).length) ((g 2).C 0), .slice ((g 2).A 1) ((x3.f).length) ((g 2).C 1), .slice ((g 6).A 0) x12 x12]) (sevp_cons (sv hs 8 rfl) (sevp_cons (sv hs 12 rfl) sevp_nil)) bt29_3, ?_, ?_, trivial⟩
  ·refine le rfl rfl (fun g hΦ s h hs hh => (stpU_call (fun i => 2 + i) cf32 (fun w hw => c_i_Table_clone fl w a0.t rfl (RO.pass hr0_0 hw) rfl (RO.pass hr0_1 hw) x3 e3) (yA (sv hs 7 rfl)))) ?_
   rintro g _ _ ⟨_, ⟨p4, _, c6, C7, p8, _, c10, C11, rfl, rfl, rfl, o7, rfl, o11⟩, rfl⟩
   exact ⟨⟨[p4, p8], [c6, c10], [C7, C11]⟩, ⟨o7, o11⟩, .inr rfl, rfl⟩
  ·refine le rfl rfl (fun g hΦ s h hs hh => (stpU_makeD 52 sl27 rfl 4 (sv hs 11 rfl) (sv hs 11 rfl) e12)) ?_
   rintro g _ _ ⟨p13, C14, rfl, rfl, o14⟩
   exact ⟨⟨[p13], [], [C14]⟩, o14, .inr rfl, rfl⟩
  ·refine le rfl rfl (fun g hΦ s h hs hh => (stpU_alloc 5 tz29 rfl)) ?_
   rintro g _ _ ⟨b15, rfl, rfl⟩
   exact ⟨⟨[], [b15], []⟩, trivial, .inr rfl, rfl⟩
  refine le rfl rfl (fun g hΦ s h hs hh => (stpU_store (id := 5) (cs' := [.slice ((g 2).A 0) ((x3.b).length) ((g 2).C 0), .slice ((g 2).A 1) ((x3.f).length) ((g 2).C 1), .slice ((g 6).A 0) x12 x12]) ts29 (sv hs 3 rfl) (sv hs 13 rfl) (hh.get 5 _ rfl) rfl rfl rfl rfl)) ?_
  rintro g _ _ rfl
  exact ⟨⟨[], [], []⟩, trivial, .inl rfl, rfl⟩
 intro g hΦ
 refine kw_gen (ι := Option Addr × Option Addr × Nat × Nat × Res × Res × Option Addr × Res × Nat) (((g 2).A 0), ((g 2).A 1), ((g 2).C 0), ((g 2).C 1), ((g 2).R 0), ((g 2).R 1), ((g 6).A 0), ((g 6).R 0), ((g 8).C 0)) (fun | (p4, p8, c6, c10, C7, C11, p13, C14, b15) => OwnC 3 p4 c6 x3.b C7 ∧ OwnC 76 p8 c10 x3.f C11 ∧ OwnD 37 52 p13 x12 (List.replicate x12 (⟨[], []⟩ : Cp)) C14) (fun | (p4, p8, c6, c10, C7, C11, p13, C14, b15) => [(1, .pointer (some ⟨b1, 0, none⟩)), (2, .pointer (some ⟨b2, 0, none⟩)), (3, .pointer (some ⟨b15, 0, none⟩))]) (fun | (p4, p8, c6, c10, C7, C11, p13, C14, b15) => [(0, [(b1, .cells #[.slice p0_0 ((a0.t.b).length) c0_0, .slice p0_1 ((a0.t.f).length) c0_1, .slice p0_2 ((a0.c).length) c0_2] 29 (0, 0))]), (1, [(b2, .cells #[.slice none 0 0, .slice none 0 0, .slice none 0 0] 29 (0, 0))]), (2, C7), (3, C11), (4, C14), (5, [(b15, .cells #[.slice p4 ((x3.b).length) c6, .slice p8 ((x3.f).length) c10, .slice p13 x12 x12] 29 (0, 0))])]) ⟨(hΦ 2 (by decide)).1, (hΦ 2 (by decide)).2, (hΦ 6 (by decide))⟩ ⟨rfl, rfl, rfl, trivial⟩ ⟨rfl, rfl, rfl, rfl, rfl, rfl, trivial⟩ ?_
 rintro ⟨p4, p8, c6, c10, C7, C11, p13, C14, b15⟩ ⟨o7, o11, o14⟩
 dsimp only
 obtain ⟨o0_0, eo0_0, H0⟩ := bS H0
 refine kw_nx (cw_seq (sr (oA 2 Tryz.underlying29 rfl ts27 rfl (oL 0 ts27 rfl (oD (stp_len Tryz.underlying27 rfl) rfl (oM rfl (nn (cw_join (ι := (List Cp) × Int × Res) (fun | (v16, v18, C17) => o0_0 = .out (v16, v18) ∧ x12 = (v16).length ∧ OwnD 37 52 p13 x12 v16 C17) (fun | (v16, v18, C17) => [(2, .pointer (some ⟨b2, 0, none⟩)), (3, .pointer (some ⟨b15, 0, none⟩)), (15, .slice p0_2 ((a0.c).length) c0_2), (16, .int .i64 ((a0.c).length : Int)), (17, .int .i64 v18)]) (fun | (v16, v18, C17) => [(1, [(b2, .cells #[.slice none 0 0, .slice none 0 0, .slice none 0 0] 29 (0, 0))]), (2, C7), (3, C11), (4, C17), (5, [(b15, .cells #[.slice p4 ((x3.b).length) c6, .slice p8 ((x3.f).length) c10, .slice p13 x12 x12] 29 (0, 0))])]) ?_ ?_))))))))
 ·refine cw_block (cw_loopS (ι := Nat × (List Cp) × Int × Res) (js := [1, 2, 3, 4, 5]) (fun x => x.1) (fun | (fuel, v16, v18, C17) => i_System_clone_L0 fl a0 fuel v16 v18 = some o0_0 ∧ x12 = (v16).length ∧ OwnD 37 52 p13 x12 v16 C17) (fun | (_, v16, v18, C17) => [(2, .pointer (some ⟨b2, 0, none⟩)), (3, .pointer (some ⟨b15, 0, none⟩)), (15, .slice p0_2 ((a0.c).length) c0_2), (16, .int .i64 ((a0.c).length : Int)), (17, .int .i64 v18)]) (fun | (_, v16, v18, C17) => [(1, [(b2, .cells #[.slice none 0 0, .slice none 0 0, .slice none 0 0] 29 (0, 0))]), (2, C7), (3, C11), (4, C17), (5, [(b15, .cells #[.slice p4 ((x3.b).length) c6, .slice p8 ((x3.f).length) c10, .slice p13 x12 x12] 29 (0, 0))])]) (fl, (List.replicate x12 (⟨[], []⟩ : Cp)), 0, C14) ⟨eo0_0, (by simp), o14⟩ ⟨rfl, rfl, rfl, rfl, rfl, trivial⟩ ⟨1, [2, 3, 4, 5], rfl, rfl, 2, [3, 4, 5], rfl, rfl, 3, [4, 5], rfl, rfl, 4, [5], rfl, rfl, 5, [], rfl, rfl, trivial⟩ (by decide) ?_)
  rintro ⟨fuel, v16, v18, C17⟩ ⟨H1, hl17, o17⟩
  have H1 : i_System_clone_L0 fl a0 fuel v16 v18 = some o0_0 := H1
  rcases fuel with _ | fuel
  ·rw [i_System_clone_L0.eq_1] at H1; cases H1
  rw [i_System_clone_L0.eq_2] at H1
  dsimp only
  refine sr (oW rfl (nn (cw_seq (cw_cond rfl (fun h19 => ?_) (fun h19 => ?_)))))
  ·have H1 := cond_t H1 h19
   obtain ⟨x20, e20, H1⟩ := bS H1
   refine cw_skip (kw_nx (cw_seq (cw_block (sr (oM rfl ?_)))))
   obtain ⟨u21, p22, n23, c24, p25, n26, c27, hw21, hl21, hx21, rfl, hr21, rfl, hs21⟩ := ROD.get hr0_2 e20
   refine oD (stp_indexAddr Tryz.underlying27 ts37 (by decide) rfl hl21 rfl (Rdb.ro hw21) hx21) rfl (oD (stp_loadN (us := [_, _]) ts37 rfl (Cells.el (Rdb.ro hw21) (by decide) hx21 0 2 rfl)) rfl (oE (stpU_alloc 6 tz37 rfl) rfl ?_))
   rintro _ _ ⟨b28, rfl, rfl⟩
   obtain ⟨x29, e29, H1⟩ := bS H1
   obtain ⟨x34, e34, H1⟩ := bS H1
   obtain ⟨x39, e39, H1⟩ := bS H1
   refine oS rfl (oC2 6 ts37 rfl rfl (nn (cw_open 4 9 10 11 rfl o17 e39 ?_)))
   rintro u40 p41 n42 c43 p44 n45 c46 C47 C48 C49 C50 o47 hb48 hx40 rfl o49 rfl o50
   refine rdq g_mixed [3, 4, 5] [4, 5, 6] { dst := dS [23, 24, 25, 26, 27, 28, 29, 30, 31, 32, 33, 34, 35, 0], pre := gA [] [[], [0], [], [], [3], [3, 4], [3, 4, 5], [], [7], rn 3 6, rn 3 7, rn 3 8, rn 0 12, rn 0 13], ids := fun i => match i with | 5 => [7] | 9 => [8] | 13 => [4, 7, 8] | _ => [], rs := rL [[(3, 0)], [(22, 1)], [(4, 0)], [(5, 0)], [(25, 4)], [(26, 5)], [(27, 6)], [(5, 0)], [(29, 8)], [(30, 9)], [(31, 10)], [(28, 7), (32, 11)], [(23, 2), (24, 3)], [(34, 13), (33, 12)]], rh := rL [[], [(5, 0)], [], [], [(6, 0)], [], [], [], [(6, 0)], [], [], [], [(4, 0)], [(4, 0), (7, 6), (8, 10)]], V := fun i g => gA undef [.pointer (some ⟨b15, 2, none⟩), .slice p13 x12 x12, .int .i64 v18, .pointer (some ⟨b28, 0, none⟩), .slice p22 ((x20.n).length) c24, .slice ((g 5).A 0) ((x29).length) ((g 5).C 0), .slice ((g 5).A 0) ((x29).length) ((x29).length), .pointer (some ⟨b28, 1, none⟩), .slice p25 ((x20.w).length) c27, .slice ((g 9).A 0) ((x34).length) ((g 9).C 0), .slice ((g 9).A 0) ((x34).length) ((x34).length), .agg #[.slice ((g 5).A 0) ((x29).length) ((x29).length), .slice ((g 9).A 0) ((x34).length) ((x34).length)], .pointer (some ⟨eB p13, eO p13 + Int.toNat v18 * Enc.sz CpS + 0, none⟩)] i, U := fun i g => match i with | 5 => [(7, ((g 5).R 0))] | 9 => [(8, ((g 9).R 0))] | 13 => [(4, ((g 13).R 0)), (7, ((g 13).R 1)), (8, ((g 13).R 2))] | _ => [], Φ := fun i x => match i with | 5 => OwnC 52 (x.A 0) (x.C 0) x29 (x.R 0) | 9 => OwnC 52 (x.A 0) (x.C 0) x34 (x.R 0) | 13 => OwnC (α := CpS) 37 p13 x12 (u40.set (Int.toNat v18) (⟨(x.A 0), (x29).length, (x.C 0), (x.A 1), (x34).length, (x.C 1)⟩ : CpS)) (x.R 0) ∧ OwnC 52 (x.A 0) (x.C 0) x29 (x.R 1) ∧ OwnC 52 (x.A 1) (x.C 1) x34 (x.R 2) | _ => True } ?_ ?_
   ·refine ⟨lc rfl rfl fun hs hh => stp_fieldAddr (j := 2) Tryz.underlying29 rfl ts27 rfl (sv hs 3 rfl) rfl, lc rfl rfl fun hs hh => stp_load1 ts27 (sv hs 22 rfl) (Cells.box (id := 5) (hh.get 5 _ rfl) 1 rfl), lM, lc rfl rfl fun hs hh => stp_fieldAddr (j := 0) Tryz.underlying37 rfl ts35 rfl (sv hs 5 rfl) rfl, lc rfl rfl fun hs hh => stp_load1 ts35 (sv hs 25 rfl) (Cells.box (id := 6) (hh.get 6 _ rfl) 1 rfl), ?_, ?_, lc rfl rfl fun hs hh => stp_fieldAddr (j := 1) Tryz.underlying37 rfl ts35 rfl (sv hs 5 rfl) rfl, lc rfl rfl fun hs hh => stp_load1 ts35 (sv hs 29 rfl) (Cells.box (id := 6) (hh.get 6 _ rfl) 1 rfl), ?_, ?_, ld rfl rfl fun g hΦ s h hs hh => stp_build (cs := #[.slice ((g 5).A 0) ((x29).length) ((x29).length), .slice ((g 9).A 0) ((x34).length) ((x34).length)]) (sevp_cons (sv hs 28 rfl) (sevp_cons (sv hs 32 rfl) sevp_nil)) bt37_8, lc rfl rfl fun hs hh => stp_indexAddr Tryz.underlying27 ts37 (by decide) (sv hs 23 rfl) (Eq.trans (a := x12) (b := (v16).length) (by simp [hl17]) (Bun.len hb48)) (sv hs 24 rfl) (Rdb.own (id := 4) (hh.get 4 _ rfl) o47) hx40, ?_, trivial⟩
    ·refine le rfl rfl (fun g hΦ s h hs hh => (stpU_call (fun i => 7 + i) cf34 (fun w hw => c_slices_Clone_Note fl w x20.n rfl (RO.pass hr21 hw) x29 e29) (yA (sv hs 26 rfl)))) ?_
     rintro g _ _ ⟨_, ⟨p30, _, c32, C33, rfl, rfl, rfl, o33⟩, rfl⟩
     exact ⟨⟨[p30], [c32], [C33]⟩, o33, .inr rfl, rfl⟩
    ·refine le rfl rfl (fun g hΦ s h hs hh => (stpU_call (fun i => i) cf33 (fun w hw => c_clip33 w ((g 5).A 0) ((x29).length) ((g 5).C 0) (OwnC.len (hΦ 5 rfl)).1) (yA (sv hs 27 rfl)))) ?_
     rintro g _ _ ⟨_, ⟨rfl, rfl⟩, rfl⟩
     exact ⟨⟨[], [], []⟩, trivial, .inr rfl, rfl⟩
    ·refine le rfl rfl (fun g hΦ s h hs hh => (stpU_call (fun i => 8 + i) cf34 (fun w hw => c_slices_Clone_Note fl w x20.w rfl (RO.pass hs21 hw) x34 e34) (yA (sv hs 30 rfl)))) ?_
     rintro g _ _ ⟨_, ⟨p35, _, c37, C38, rfl, rfl, rfl, o38⟩, rfl⟩
     exact ⟨⟨[p35], [c37], [C38]⟩, o38, .inr rfl, rfl⟩
    ·refine le rfl rfl (fun g hΦ s h hs hh => (stpU_call (fun i => i) cf33 (fun w hw => c_clip33 w ((g 9).A 0) ((x34).length) ((g 9).C 0) (OwnC.len (hΦ 9 rfl)).1) (yA (sv hs 31 rfl)))) ?_
     rintro g _ _ ⟨_, ⟨rfl, rfl⟩, rfl⟩
     exact ⟨⟨[], [], []⟩, trivial, .inr rfl, rfl⟩
    refine le rfl rfl (fun g hΦ s h hs hh => (stpU_keep (hh.get 8 _ rfl) (stpU_keep (hh.get 7 _ rfl) (stpU_storeEl (id := 4) (i := 0) (⟨((g 5).A 0), (x29).length, (x29).length, ((g 9).A 0), (x34).length, (x34).length⟩ : CpS) (by decide) ts37 (sv hs 34 rfl) (sv hs 33 rfl) (hh.get 4 _ rfl) o47 hx40 rfl rfl rfl rfl) (by rintro _ _ ⟨_, rfl, _⟩; rfl) (OwnC.clip (hΦ 5 rfl))) (by rintro _ _ ⟨_, ⟨_, rfl, _⟩, rfl, _⟩; rfl) (OwnC.clip (hΦ 9 rfl)))) ?_
    rintro g _ _ ⟨_, ⟨_, ⟨C51, rfl, o51⟩, rfl, o54⟩, rfl, o57⟩
    exact ⟨⟨[((g 5).A 0), ((g 9).A 0)], [(x29).length, (x34).length], [C51, ((g 5).R 0), ((g 9).R 0)]⟩, ⟨o51, o54, o57⟩, .inl rfl, rfl⟩
   intro g hΦ
   refine kw_gen (ι := Option Addr × Nat × Res × Option Addr × Nat × Res × Option Addr × Option Addr × Nat × Nat × Res × Res × Res) (((g 5).A 0), ((g 5).C 0), ((g 5).R 0), ((g 9).A 0), ((g 9).C 0), ((g 9).R 0), ((g 13).A 0), ((g 13).A 1), ((g 13).C 0), ((g 13).C 1), ((g 13).R 0), ((g 13).R 1), ((g 13).R 2)) (fun | (p30, c32, C33, p35, c37, C38, p52, p55, c53, c56, C51, C54, C57) => OwnC 52 p30 c32 x29 C33 ∧ OwnC 52 p35 c37 x34 C38 ∧ OwnC (α := CpS) 37 p13 x12 (u40.set (Int.toNat v18) (⟨p52, (x29).length, c53, p55, (x34).length, c56⟩ : CpS)) C51 ∧ OwnC 52 p52 c53 x29 C54 ∧ OwnC 52 p55 c56 x34 C57) (fun | (p30, c32, C33, p35, c37, C38, p52, p55, c53, c56, C51, C54, C57) => [(2, .pointer (some ⟨b2, 0, none⟩)), (3, .pointer (some ⟨b15, 0, none⟩)), (15, .slice p0_2 ((a0.c).length) c0_2), (16, .int .i64 ((a0.c).length : Int)), (17, .int .i64 v18)]) (fun | (p30, c32, C33, p35, c37, C38, p52, p55, c53, c56, C51, C54, C57) => [(1, [(b2, .cells #[.slice none 0 0, .slice none 0 0, .slice none 0 0] 29 (0, 0))]), (2, C7), (3, C11), (4, C51), (5, [(b15, .cells #[.slice p4 ((x3.b).length) c6, .slice p8 ((x3.f).length) c10, .slice p13 x12 x12] 29 (0, 0))]), (7, C54), (8, C57), (9, C48)]) ⟨(hΦ 5 (by decide)), (hΦ 9 (by decide)), (hΦ 13 (by decide)).1, (hΦ 13 (by decide)).2.1, (hΦ 13 (by decide)).2.2⟩ ⟨rfl, rfl, rfl, rfl, rfl, trivial⟩ ⟨rfl, rfl, rfl, rfl, rfl, rfl, rfl, rfl, trivial⟩ ?_
   rintro ⟨p30, c32, C33, p35, c37, C38, p52, p55, c53, c56, C51, C54, C57⟩ ⟨o33, o38, o51, o54, o57⟩
   dsimp only
   obtain ⟨x58, e58, H1⟩ := bS H1
   refine kw_bl_normal (kw_nx (cw_region (oP e58 rfl (oM rfl (ow_nil (kw_shut 4 9 7 8 o51 (Bun.setL (Bun.set hb48 _) _) (idx_some (idx_set hx40)).2.2 (idx_setD e39 (⟨x29, x34⟩ : Cp)) rfl o54 rfl o57 ?_))))))
   rintro C59 o59
   exact kw_lqS (js := [1, 2, 3, 4, 5]) (fuel, (v16.set (Int.toNat v18) (⟨x29, x34⟩ : Cp)), x58, C59) ⟨H1, (by simp [hl17]), o59⟩ (Nat.lt_succ_self _) ⟨rfl, rfl, rfl, rfl, rfl, trivial⟩ ⟨1, [2, 3, 4, 5], rfl, rfl, 2, [3, 4, 5], rfl, rfl, 3, [4, 5], rfl, rfl, 4, [5], rfl, rfl, 5, [], rfl, rfl, trivial⟩ (by decide)
  have H1 := cond_f H1 h19
  refine cw_exit (kw_nx_exit (kw_lq_exit (kw_bl ?_)))
  obtain rfl := sI H1
  exact kw_joinS (js := [1, 2, 3, 4, 5]) (v16, v18, C17) ⟨rfl, (by simp [hl17]), o17⟩ ⟨rfl, rfl, rfl, rfl, rfl, trivial⟩ ⟨1, [2, 3, 4, 5], rfl, rfl, 2, [3, 4, 5], rfl, rfl, 3, [4, 5], rfl, rfl, 4, [5], rfl, rfl, 5, [], rfl, rfl, trivial⟩ (by decide)
 rintro ⟨v16, v18, C17⟩ ⟨rfl, hl17, o17⟩
 dsimp only
 refine kw_nx (sr (oB3 5 ts29 rfl (oC3 1 ts29 rfl rfl (nn (cw_ret ?_)))))
 obtain rfl := sI H0
 exact kr Tryz.results11 (rC3 1 ts29 rfl rfl) [2, 3, 4] ⟨_, _, _, _, _, _, _, _, _, _, _, _, rfl, rfl, rfl, o7, rfl, o11, (by simp [hl17]), o17⟩

theorem c_i_drop_1 (fl : Nat) (w : World) (a0 : Nt) (qc0 : Nat) (ac0 : K) (hbac0 : RO w (hkeys []) (fun w' => w'.rangeAt qc0 0 [.int .i64 ac0.s, .int .i64 ac0.p])) (r : Bool) (H0 : i_drop_1 fl a0 ac0 = some r) :
  Ct Tryz.prog 57 [.agg #[.int .i64 a0.k.s, .int .i64 a0.k.p, .int .i64 a0.fr], .pointer (some ⟨qc0, 0, none⟩)] w [] (fun rv h' => rv = .bool r ∧ h' = []) := by
 unfold i_drop_1 at H0
 refine ct_of_cw Tryz.func57 rfl Tryz.ntmps57 rfl (Sat.refl _ _) ?_
 refine sr (oE (stpU_box 0 rfl rfl) rfl ?_)
 rintro _ _ ⟨b1, rfl, rfl⟩
 refine oS rfl (nn (sr (oA 0 Tryz.underlying52 rfl ts41 rfl (oB2 0 ts41 rfl (oD (stp_loadN (us := [_, _]) ts41 rfl (Cells.ofRO hbac0 2 rfl)) rfl (oD (stp_eqlS te41 a0.k ac0 rfl rfl) rfl (oS rfl (nn (cw_ret ?_)))))))))
 obtain rfl := sI H0
 exact kr Tryz.results57 (rT rfl) [] ⟨rfl, rfl⟩

theorem c_slices_IndexFunc_Note_of_i_drop_1 (fl : Nat) (w : World) (a0 : (List Nt)) (q1_0 : Nat) (a1_0 : K) (hn0_0 : n0_0 = (a0).length) (hr0_0 : RO w (hkeys []) (RdL p0_0 c0_0 a0)) (hba1_0 : RO w (hkeys []) (fun w' => w'.rangeAt q1_0 0 [.int .i64 a1_0.s, .int .i64 a1_0.p])) (r : Int) (H0 : slices_IndexFunc_Note_of_i_drop_1 fl a0 a1_0 = some r) :
  Ct Tryz.prog 65 [.slice p0_0 n0_0 c0_0, .func (.func 57) #[] #[.pointer (some ⟨q1_0, 0, none⟩)]] w [] (fun rv h' => rv = .int .i64 r ∧ h' = []) := by
 subst hn0_0
 unfold slices_IndexFunc_Note_of_i_drop_1 at H0
 refine ct_of_cw Tryz.func65 rfl Tryz.ntmps65 rfl (Sat.refl _ _) ?_
 obtain ⟨o0_0, eo0_0, H0⟩ := bS H0
 refine sr (oS rfl (nn (cw_seq (sr (oM rfl (oD (stp_len Tryz.underlying35 rfl) rfl (oM rfl (nn (cw_join (ι := Int) (fun | v1 => o0_0 = .out v1) (fun | v1 => [(0, .slice p0_0 ((a0).length) c0_0), (1, .func (.func 57) #[] #[.pointer (some ⟨q1_0, 0, none⟩)]), (7, .int .i64 ((a0).length : Int)), (8, .int .i64 v1)]) (fun | v1 => []) ?_ ?_)))))))))
 ·refine cw_block (cw_loopS (ι := Nat × Int) (js := []) (fun x => x.1) (fun | (fuel, v1) => slices_IndexFunc_Note_of_i_drop_1_L0 fl a0 a1_0 fuel v1 = some o0_0) (fun | (_, v1) => [(0, .slice p0_0 ((a0).length) c0_0), (1, .func (.func 57) #[] #[.pointer (some ⟨q1_0, 0, none⟩)]), (7, .int .i64 ((a0).length : Int)), (8, .int .i64 v1)]) (fun | (_, v1) => []) (fl, 0) eo0_0 ⟨rfl, rfl, rfl, rfl, trivial⟩ trivial (by decide) ?_)
  rintro ⟨fuel, v1⟩ H1
  have H1 : slices_IndexFunc_Note_of_i_drop_1_L0 fl a0 a1_0 fuel v1 = some o0_0 := H1
  rcases fuel with _ | fuel
  ·rw [slices_IndexFunc_Note_of_i_drop_1_L0.eq_1] at H1; cases H1
  rw [slices_IndexFunc_Note_of_i_drop_1_L0.eq_2] at H1
  dsimp only
  refine sr (oW rfl (nn (cw_seq (cw_cond rfl (fun h2 => ?_) (fun h2 => ?_)))))
  ·have H1 := cond_t H1 h2
   obtain ⟨x3, e3, H1⟩ := bS H1
   refine cw_skip (kw_nx (cw_seq (cw_block (sr (oM rfl (oS rfl (nn (sr (oM rfl (oM rfl (oM rfl (oD (stp_indexAddr Tryz.underlying35 ts52 (by decide) rfl rfl rfl (Rdb.ro hr0_0) e3) rfl (oD (stp_loadN (us := [_, _, _]) ts52 rfl (Cells.el (Rdb.ro hr0_0) (by decide) e3 0 3 rfl)) rfl ?_)))))))))))))
   obtain ⟨x4, e4, H1⟩ := bS H1
   refine oE (stpU_callF (vals := [_]) (ca := [_]) (fun i => 0 + i) cf57 (fun w hw => c_i_drop_1 fl w x3 q1_0 a1_0 (RO.pass hba1_0 hw) x4 e4) rfl (yA rfl)) rfl ?_
   rintro _ _ ⟨_, ⟨rfl, rfl⟩, rfl⟩
   refine nn (cw_cond rfl (fun h5 => ?_) (fun h5 => ?_))
   ·have H1 := cond_t H1 h5
    refine sr (oM rfl (oS rfl (nn (cw_ret (kw_bl_ret (kw_nx_ret (kw_lq_ret (kw_bl_ret (kw_join_ret (kw_nx_ret ?_))))))))))
    obtain rfl := sI H1
    obtain rfl := sI H0
    exact kr Tryz.results65 (rT rfl) [] ⟨rfl, rfl⟩
   have H1 := cond_f H1 h5
   obtain ⟨x6, e6, H1⟩ := bS H1
   exact cw_skip (kw_bl_normal (kw_nx (cw_region (oP e6 rfl (oM rfl (ow_nil (kw_lqS (js := []) (fuel, x6) H1 (Nat.lt_succ_self _) ⟨rfl, rfl, rfl, rfl, trivial⟩ trivial (by decide))))))))
  have H1 := cond_f H1 h2
  refine cw_exit (kw_nx_exit (kw_lq_exit (kw_bl ?_)))
  obtain rfl := sI H1
  exact kw_joinS (js := []) v1 rfl ⟨rfl, rfl, rfl, rfl, trivial⟩ trivial (by decide)
 rintro v1 rfl
 dsimp only
 refine kw_nx (sr (oS rfl (nn (cw_ret ?_))))
 obtain rfl := sI H0
 exact kr Tryz.results65 (rT rfl) [] ⟨rfl, rfl⟩

theorem c_slices_DeleteFunc_Note_of_i_drop_1 (fl : Nat) (w : World) (a0 : (List Nt)) (q1_0 : Nat) (a1_0 : K) (hn0_0 : n0_0 = (a0).length) (ho0_0 : OwnC 52 p0_0 c0_0 a0 C0_0) (hba1_0 : RO w (hkeys [(0, C0_0)]) (fun w' => w'.rangeAt q1_0 0 [.int .i64 a1_0.s, .int .i64 a1_0.p])) (hM : Sat w (hkeys [(0, C0_0)]) w [(0, C0_0)]) (r : (List Nt)) (H0 : slices_DeleteFunc_Note_of_i_drop_1 fl a0 a1_0 = some r) :
  Ct Tryz.prog 56 [.slice p0_0 n0_0 c0_0, .func (.func 57) #[] #[.pointer (some ⟨q1_0, 0, none⟩)]] w [(0, C0_0)] (fun rv h' => ∃ (x1 : Option Addr) (y1 z1 : Nat) (C1 : Res), rv = .slice x1 y1 z1 ∧ h' = [(0, []), (1, C1)] ∧ y1 = (r).length ∧ OwnC 52 x1 z1 r C1) := by
 subst hn0_0
 unfold slices_DeleteFunc_Note_of_i_drop_1 at H0
 refine ct_of_cw Tryz.func56 rfl Tryz.ntmps56 rfl hM ?_
 obtain ⟨x1, e1, H0⟩ := bS H0
 refine sr (oS rfl (nn (sr (oM rfl (oM rfl (oE (stpU_call (fun i => 1 + i) cf65 (fun w hw => c_slices_IndexFunc_Note_of_i_drop_1 fl w a0 q1_0 a1_0 rfl (OwnC.pass (id := 0) rfl ho0_0 hw) (RO.pass hba1_0 hw) x1 e1) (yB rfl rfl)) rfl ?_))))))
 rintro _ _ ⟨_, ⟨rfl, rfl⟩, rfl⟩
 refine oS rfl (nn (cw_seq (sr (oM rfl (oQ rfl (nn (cw_cond rfl (fun h2 => ?_) (fun h2 => ?_))))))))
 ·have H0 := cond_t H0 h2
  refine sr (oM rfl (oS rfl (nn (cw_ret (kw_nx_ret (kw_addNil 1 ?_))))))
  obtain rfl := sI H0
  exact kr Tryz.results56 (rT rfl) [1, 0] ⟨_, _, _, _, rfl, rfl, rfl, ho0_0⟩
 have H0 := cond_f H0 h2
 obtain ⟨x3, e3, H0⟩ := bS H0
 obtain ⟨o0_0, eo0_0, H0⟩ := bS H0
 refine cw_skip (kw_nx (cw_seq (sr (oM rfl (oP e3 rfl (oS rfl (nn (cw_join (ι := (List Nt) × Int × Int × Res) (fun | (v4, v6, v7, C5) => o0_0 = .out (v4, v6, v7) ∧ (a0).length = (v4).length ∧ OwnC 52 p0_0 c0_0 v4 C5) (fun | (v4, v6, v7, C5) => [(0, .slice p0_0 ((a0).length) c0_0), (1, .func (.func 57) #[] #[.pointer (some ⟨q1_0, 0, none⟩)]), (5, .int .i64 v6), (6, .int .i64 v7)]) (fun | (v4, v6, v7, C5) => [(0, C5)]) ?_ ?_))))))))
 ·refine cw_block (cw_loopS (ι := Nat × (List Nt) × Int × Int × Res) (js := [0]) (fun x => x.1) (fun | (fuel, v4, v6, v7, C5) => slices_DeleteFunc_Note_of_i_drop_1_L0 fl a0 a1_0 fuel v4 v6 v7 = some o0_0 ∧ (a0).length = (v4).length ∧ OwnC 52 p0_0 c0_0 v4 C5) (fun | (_, v4, v6, v7, C5) => [(0, .slice p0_0 ((a0).length) c0_0), (1, .func (.func 57) #[] #[.pointer (some ⟨q1_0, 0, none⟩)]), (5, .int .i64 v6), (6, .int .i64 v7)]) (fun | (_, v4, v6, v7, C5) => [(0, C5)]) (fl, a0, x1, x3, C0_0) ⟨eo0_0, rfl, ho0_0⟩ ⟨rfl, rfl, rfl, rfl, trivial⟩ ⟨0, [], rfl, rfl, trivial⟩ (by decide) ?_)
  rintro ⟨fuel, v4, v6, v7, C5⟩ ⟨H1, hl5, o5⟩
  have H1 : slices_DeleteFunc_Note_of_i_drop_1_L0 fl a0 a1_0 fuel v4 v6 v7 = some o0_0 := H1
  rcases fuel with _ | fuel
  ·rw [slices_DeleteFunc_Note_of_i_drop_1_L0.eq_1] at H1; cases H1
  rw [slices_DeleteFunc_Note_of_i_drop_1_L0.eq_2] at H1
  dsimp only
  refine cw_seq (sr (oM rfl (oM rfl (oD (stp_len Tryz.underlying35 rfl) rfl (oW rfl (nn (cw_cond rfl (fun h8 => ?_) (fun h8 => ?_))))))))
  ·have H1 := cond_t H1 h8
   obtain ⟨x9, e9, H1⟩ := bS H1
   refine cw_skip (kw_nx (cw_seq (cw_block (sr (oM rfl (oM rfl (oD (stp_indexAddr Tryz.underlying35 ts52 (by decide) rfl (by simp [hl5]) rfl (Rdb.own (id := 0) rfl o5) e9) rfl (oD (stp_loadN (us := [_, _, _]) ts52 rfl (Cells.el (Rdb.own (id := 0) rfl o5) (by decide) e9 0 3 rfl)) rfl (oE (stpU_alloc 2 tz52 rfl) rfl ?_)))))))))
   rintro _ _ ⟨b10, rfl, rfl⟩
   obtain ⟨x11, e11, H1⟩ := bS H1
   refine oC3 2 ts52 rfl rfl (nn (sr (oM rfl (oB3 2 ts52 rfl (oE (stpU_callF (vals := [_]) (ca := [_]) (fun i => 3 + i) cf57 (fun w hw => c_i_drop_1 fl w x9 q1_0 a1_0 (RO.pass hba1_0 hw) x11 e11) rfl (yA rfl)) rfl ?_)))))
   rintro _ _ ⟨_, ⟨rfl, rfl⟩, rfl⟩
   refine oK rfl (nn (cw_cond rfl (fun h12 => ?_) (fun h12 => ?_)))
   ·have H1 := cond_t H1 h12
    obtain ⟨x13, e13, H1⟩ := bS H1
    refine sr (oM rfl (oM rfl (oB3 2 ts52 rfl (oD (stp_indexAddr Tryz.underlying35 ts52 (by decide) rfl (by simp [hl5]) rfl (Rdb.own (id := 0) rfl o5) e13) rfl (oF (stpU_storeEl (id := 0) (i := 0) x9 (by decide) ts52 rfl rfl rfl o5 e13 rfl rfl rfl rfl) ?_)))))
    rintro _ _ ⟨C14, rfl, o14⟩
    obtain ⟨x15, e15, H1⟩ := bS H1
    obtain ⟨x16, e16, H1⟩ := bS H1
    exact nn (cw_region (oM rfl (oP e15 rfl (oS rfl (ow_nil (kw_bl_normal (kw_nx (cw_region (oM rfl (oP e16 rfl (oS rfl (ow_nil (kw_lqS (js := [0]) (fuel, (v4.set (Int.toNat v6) x9), x15, x16, C14) ⟨H1, (by simp [hl5]), o14⟩ (Nat.lt_succ_self _) ⟨rfl, rfl, rfl, rfl, trivial⟩ ⟨0, [], rfl, rfl, trivial⟩ (by decide))))))))))))))
   have H1 := cond_f H1 h12
   obtain ⟨x17, e17, H1⟩ := bS H1
   exact cw_skip (kw_bl_normal (kw_nx (cw_region (oM rfl (oP e17 rfl (oS rfl (ow_nil (kw_lqS (js := [0]) (fuel, v4, v6, x17, C5) ⟨H1, (by simp [hl5]), o5⟩ (Nat.lt_succ_self _) ⟨rfl, rfl, rfl, rfl, trivial⟩ ⟨0, [], rfl, rfl, trivial⟩ (by decide)))))))))
  have H1 := cond_f H1 h8
  refine cw_exit (kw_nx_exit (kw_lq_exit (kw_bl ?_)))
  obtain rfl := sI H1
  exact kw_joinS (js := [0]) (v4, v6, v7, C5) ⟨rfl, (by simp [hl5]), o5⟩ ⟨rfl, rfl, rfl, rfl, trivial⟩ ⟨0, [], rfl, rfl, trivial⟩ (by decide)
 rintro ⟨v4, v6, v7, C5⟩ ⟨rfl, hl5, o5⟩
 dsimp only
 obtain ⟨x18, e18, H0⟩ := bS H0
 refine kw_nx (sr (oM rfl (oM rfl (oD (stp_drop Tryz.underlying35 ts52 rfl (by simp [hl5]) rfl (Rdb.own (id := 0) rfl o5) e18) rfl (oF (stpU_clearD (id := 0) sl35 rfl e18 rfl rfl o5) ?_)))))
 rintro _ _ ⟨C19, rfl, rfl, o19⟩
 obtain ⟨x20, e20, H0⟩ := bS H0
 refine nn (sr (oM rfl (oM rfl (oD (stp_take Tryz.underlying35 ts52 rfl (by simp [cpy_len, hl5]) rfl (Rdb.own (id := 0) rfl o19) e20) rfl (oS rfl (nn (cw_ret (kw_addNil 3 ?_))))))))
 obtain rfl := sI H0
 exact kr Tryz.results56 (rT rfl) [3, 0] ⟨_, _, _, _, rfl, rfl, rfl, (OwnC.takeO o19 e20)⟩

theorem c_i_drop (fl : Nat) (w : World) (a0 : (List Nt)) (a1 : K) (hn0_0 : n0_0 = (a0).length) (hr0_0 : RO w (hkeys []) (RdL p0_0 c0_0 a0)) (r : (List Nt)) (H0 : i_drop fl a0 a1 = some r) :
  Ct Tryz.prog 35 [.slice p0_0 n0_0 c0_0, .agg #[.int .i64 a1.s, .int .i64 a1.p]] w [] (fun rv h' => ∃ (x0 : Option Addr) (y0 z0 : Nat) (C0 : Res), rv = .slice x0 y0 z0 ∧ h' = [(0, C0)] ∧ y0 = (r).length ∧ OwnC 52 x0 z0 r C0) := by
 subst hn0_0
 unfold i_drop at H0
 refine ct_of_cw Tryz.func35 rfl Tryz.ntmps35 rfl (Sat.refl _ _) ?_
 refine sr (oE (stpU_box 0 rfl rfl) rfl ?_)
 rintro _ _ ⟨b1, rfl, rfl⟩
 obtain ⟨x2, e2, H0⟩ := bS H0
 refine oS rfl (nn (sr (oM rfl (oE (stpU_call (fun i => 1 + i) cf34 (fun w hw => c_slices_Clone_Note fl w a0 rfl (RO.pass hr0_0 hw) x2 e2) (yA rfl)) rfl ?_))))
 rintro _ _ ⟨_, ⟨p3, _, c5, C6, rfl, rfl, rfl, o6⟩, rfl⟩
 obtain ⟨x7, e7, H0⟩ := bS H0
 refine oD (stp_makeFunc (yA rfl)) rfl (oE (stpU_callM (fun i => bif Nat.beq i 0 then 1 else 2 + i) cf56 (fun w hw hb => c_slices_DeleteFunc_Note_of_i_drop_1 fl w x2 b1 a1 rfl o6 (box_passM (id := 0) rfl hw hb ⟨rfl, trivial⟩) (hw.pass (js := [1]) ⟨1, [], rfl, rfl, trivial⟩ (by decide)) x7 e7) (yB rfl rfl) ⟨rfl, (fun _ _ hp => by obtain ⟨_, _, _, _, _, rfl, _⟩ := hp; exact ⟨_, rfl⟩), trivial⟩) rfl ?_)
 rintro _ _ ⟨_, ⟨p8, _, c10, C11, rfl, rfl, rfl, o11⟩, rfl⟩
 refine oE (stpU_call (fun i => i) cf33 (fun w hw => c_clip33 w p8 ((x7).length) c10 (OwnC.len o11).1) (yA rfl)) rfl ?_
 rintro _ _ ⟨_, ⟨rfl, rfl⟩, rfl⟩
 refine oS rfl (nn (cw_ret ?_))
 obtain rfl := sI H0
 exact kr Tryz.results35 (rT rfl) [3] ⟨_, _, _, _, rfl, rfl, rfl, (OwnC.clip o11)⟩

theorem c_i_Cpu_ack (fl : Nat) (w : World) (a0 : List Cp) (k0 : Int) (hn0_0 : n0_0 = (a0).length) (ho0_0 : OwnD 37 52 p0_0 c0_0 a0 C0_0) (hM : Sat w (hkeys [(0, C0_0)]) w [(0, C0_0)]) (r : (List Cp)) (H0 : i_Cpu_ack fl a0 k0 = some r) :
  Ct Tryz.prog 12 [.pointer (some ⟨eB p0_0, eO p0_0 + Int.toNat k0 * Enc.sz CpS + 0, none⟩)] w [(0, C0_0)] (fun rv h' => ∃ (D0 : Res), rv = .tuple #[] ∧ h' = [(0, D0)] ∧ n0_0 = (r).length ∧ OwnD 37 52 p0_0 c0_0 r D0) := by
 subst hn0_0
 unfold i_Cpu_ack at H0
 refine ct_of_cw Tryz.func12 rfl Tryz.ntmps12 rfl hM ?_
 obtain ⟨x1, e1, H0⟩ := bS H0
 refine cw_seq (sr (oM rfl (oZ rfl (oA 1 Tryz.underlying37 rfl ts35 rfl (ow_open 0 1 2 3 rfl ho0_0 e1 ?_)))))
 rintro u2 p3 n4 c5 p6 n7 c8 C9 C10 C11 C12 o9 hb10 hx2 rfl o11 rfl o12
 obtain ⟨o0_0, eo0_0, H0⟩ := bS H0
 refine oD (stp_load1 ts35 rfl (Cells.el (Rdb.own (id := 0) rfl o9) (by decide) hx2 1 1 rfl)) rfl (oD (stp_len Tryz.underlying35 rfl) rfl (oM rfl (nn (cw_join (ι := (List Nt) × Int × Option Addr × Nat × Nat × Res × (List CpS) × Res) (fun | (v13, v18, p14, n15, c16, C17, u19, C20) => o0_0 = .out (v13, v18) ∧ n15 = (v13).length ∧ OwnC 52 p14 c16 v13 C17 ∧ Bun 52 u19 a0 (Int.toNat k0) C10 ∧ idx u19 k0 = some (⟨p14, n15, c16, p6, (x1.w).length, c8⟩ : CpS) ∧ OwnC (α := CpS) 37 p0_0 c0_0 u19 C20) (fun | (v13, v18, p14, n15, c16, C17, u19, C20) => [(0, .pointer (some ⟨eB p0_0, eO p0_0 + Int.toNat k0 * Enc.sz CpS + 0, none⟩)), (7, .slice p6 ((x1.w).length) c8), (8, .int .i64 ((x1.w).length : Int)), (9, .int .i64 v18)]) (fun | (v13, v18, p14, n15, c16, C17, u19, C20) => [(0, C20), (1, C10), (2, C17), (3, C12)]) ?_ ?_))))
 ·refine cw_block (cw_loopS (ι := Nat × (List Nt) × Int × Option Addr × Nat × Nat × Res × (List CpS) × Res) (js := [0, 1, 2, 3]) (fun x => x.1) (fun | (fuel, v13, v18, p14, n15, c16, C17, u19, C20) => i_Cpu_ack_L0 fl x1 fuel v13 v18 = some o0_0 ∧ n15 = (v13).length ∧ OwnC 52 p14 c16 v13 C17 ∧ Bun 52 u19 a0 (Int.toNat k0) C10 ∧ idx u19 k0 = some (⟨p14, n15, c16, p6, (x1.w).length, c8⟩ : CpS) ∧ OwnC (α := CpS) 37 p0_0 c0_0 u19 C20) (fun | (_, v13, v18, p14, n15, c16, C17, u19, C20) => [(0, .pointer (some ⟨eB p0_0, eO p0_0 + Int.toNat k0 * Enc.sz CpS + 0, none⟩)), (7, .slice p6 ((x1.w).length) c8), (8, .int .i64 ((x1.w).length : Int)), (9, .int .i64 v18)]) (fun | (_, v13, v18, p14, n15, c16, C17, u19, C20) => [(0, C20), (1, C10), (2, C17), (3, C12)]) (fl, x1.n, 0, p3, ((x1.n).length), c5, C11, u2, C9) ⟨eo0_0, rfl, o11, hb10, hx2, o9⟩ ⟨rfl, rfl, rfl, rfl, trivial⟩ ⟨0, [1, 2, 3], rfl, rfl, 1, [2, 3], rfl, rfl, 2, [3], rfl, rfl, 3, [], rfl, rfl, trivial⟩ (by decide) ?_)
  rintro ⟨fuel, v13, v18, p14, _, c16, C17, u19, C20⟩ ⟨H1, rfl, o17, hb20, hx20, o20⟩
  have H1 : i_Cpu_ack_L0 fl x1 fuel v13 v18 = some o0_0 := H1
  rcases fuel with _ | fuel
  ·rw [i_Cpu_ack_L0.eq_1] at H1; cases H1
  rw [i_Cpu_ack_L0.eq_2] at H1
  dsimp only
  refine sr (oW rfl (nn (cw_seq (cw_cond rfl (fun h21 => ?_) (fun h21 => ?_)))))
  ·have H1 := cond_t H1 h21
   obtain ⟨x22, e22, H1⟩ := bS H1
   refine cw_skip (kw_nx (cw_seq (cw_block (sr (oD (stp_indexAddr Tryz.underlying35 ts52 (by decide) rfl rfl rfl (Rdb.own (id := 3) rfl o12) e22) rfl (oD (stp_loadN (us := [_, _, _]) ts52 rfl (Cells.el (Rdb.own (id := 3) rfl o12) (by decide) e22 0 3 rfl)) rfl (oE (stpU_alloc 4 tz52 rfl) rfl ?_)))))))
   rintro _ _ ⟨b23, rfl, rfl⟩
   obtain ⟨x24, e24, H1⟩ := bS H1
   refine oC3 4 ts52 rfl rfl (nn (rdq g_mixed [0, 3] [0, 2, 4] { dst := dS [14, 15, 16, 17, 18, 19, 20, 21, 22, 23, 0], pre := gA [] [[], [], [1], [1, 2], [1, 2, 3], [], [5], rn 1 6, rn 0 8, rn 0 9, rn 0 10], ids := gA [] [[], [], [], [], [], [], [], [5], [], [], [0, 5]], rs := rL [[(0, 0)], [(0, 0)], [(14, 2)], [(15, 3)], [(16, 4)], [(3, 0)], [(18, 6)], [(17, 5), (19, 7)], [(13, 1)], [(21, 9)], [(22, 10), (20, 8)]], rh := rL [[], [], [], [], [(0, 0)], [], [(4, 0)], [(2, 0)], [], [], [(0, 0), (5, 8)]], V := fun i g => gA undef [.pointer (some ⟨eB p0_0, eO p0_0 + Int.toNat k0 * Enc.sz CpS + 0, none⟩), .pointer (some ⟨eB p0_0, eO p0_0 + Int.toNat k0 * Enc.sz CpS + 0, none⟩), .pointer (some ⟨eB p0_0, eO p0_0 + Int.toNat k0 * Enc.sz CpS + 0, none⟩), .pointer (some ⟨eB p0_0, eO p0_0 + Int.toNat k0 * Enc.sz CpS + 0, none⟩), .slice p14 ((v13).length) c16, .pointer (some ⟨b23, 0, none⟩), .agg #[.int .i64 x22.k.s, .int .i64 x22.k.p], .slice ((g 7).A 0) ((x24).length) ((g 7).C 0), .pointer (some ⟨eB p0_0, eO p0_0 + Int.toNat k0 * Enc.sz CpS + 0, none⟩), .pointer (some ⟨eB p0_0, eO p0_0 + Int.toNat k0 * Enc.sz CpS + 0, none⟩)] i, U := fun i g => match i with | 7 => [(5, ((g 7).R 0))] | 10 => [(0, ((g 10).R 0)), (5, ((g 10).R 1))] | _ => [], Φ := fun i x => match i with | 7 => OwnC 52 (x.A 0) (x.C 0) x24 (x.R 0) | 10 => OwnC (α := CpS) 37 p0_0 c0_0 (u19.set (Int.toNat k0) (⟨(x.A 0), (x24).length, (x.C 0), p6, (x1.w).length, c8⟩ : CpS)) (x.R 0) ∧ OwnC 52 (x.A 0) (x.C 0) x24 (x.R 1) | _ => True } ?_ ?_))
   ·refine ⟨lM, lM, lc rfl rfl fun hs hh => stp_nilCheck (sv hs 14 rfl), lc rfl rfl fun hs hh => stp_fieldAddr (j := 0) Tryz.underlying37 rfl ts35 rfl (sv hs 15 rfl) rfl, lc rfl rfl fun hs hh => stp_load1 ts35 (sv hs 16 rfl) (Cells.el (Rdb.own (id := 0) (hh.get 0 _ rfl) o20) (by decide) hx20 0 1 rfl), lc rfl rfl fun hs hh => stp_fieldAddr (j := 0) Tryz.underlying52 rfl ts41 rfl (sv hs 3 rfl) rfl, lc rfl rfl fun hs hh => stp_loadN (us := [_, _]) ts41 (sv hs 18 rfl) (Cells.box (id := 4) (hh.get 4 _ rfl) 2 rfl), ?_, lc rfl rfl fun hs hh => stp_nilCheck (sv hs 13 rfl), lc rfl rfl fun hs hh => stp_fieldAddr (j := 0) Tryz.underlying37 rfl ts35 rfl (sv hs 21 rfl) rfl, ?_, trivial⟩
    ·refine le rfl rfl (fun g hΦ s h hs hh => (stpU_call (fun i => 5 + i) cf35 (fun w hw => c_i_drop fl w v13 x22.k rfl (OwnC.pass (id := 2) (hh.get 2 _ rfl) o17 hw) x24 e24) (yB (sv hs 17 rfl) (sv hs 19 rfl)))) ?_
     rintro g _ _ ⟨_, ⟨p25, _, c27, C28, rfl, rfl, rfl, o28⟩, rfl⟩
     exact ⟨⟨[p25], [c27], [C28]⟩, o28, .inr rfl, rfl⟩
    refine le rfl rfl (fun g hΦ s h hs hh => (stpU_keep (hh.get 5 _ rfl) (stpU_storeEl (id := 0) (i := 0) (⟨((g 7).A 0), (x24).length, ((g 7).C 0), p6, (x1.w).length, c8⟩ : CpS) (by decide) ts35 (sv hs 22 rfl) (sv hs 20 rfl) (hh.get 0 _ rfl) o20 hx20 rfl rfl rfl rfl) (by rintro _ _ ⟨_, rfl, _⟩; rfl) (hΦ 7 rfl))) ?_
    rintro g _ _ ⟨_, ⟨C29, rfl, o29⟩, rfl, o32⟩
    exact ⟨⟨[((g 7).A 0)], [((g 7).C 0)], [C29, ((g 7).R 0)]⟩, ⟨o29, o32⟩, .inl rfl, rfl⟩
   intro g hΦ
   refine kw_gen (ι := Option Addr × Nat × Res × Option Addr × Nat × Res × Res) (((g 7).A 0), ((g 7).C 0), ((g 7).R 0), ((g 10).A 0), ((g 10).C 0), ((g 10).R 0), ((g 10).R 1)) (fun | (p25, c27, C28, p30, c31, C29, C32) => OwnC 52 p25 c27 x24 C28 ∧ OwnC (α := CpS) 37 p0_0 c0_0 (u19.set (Int.toNat k0) (⟨p30, (x24).length, c31, p6, (x1.w).length, c8⟩ : CpS)) C29 ∧ OwnC 52 p30 c31 x24 C32) (fun | (p25, c27, C28, p30, c31, C29, C32) => [(0, .pointer (some ⟨eB p0_0, eO p0_0 + Int.toNat k0 * Enc.sz CpS + 0, none⟩)), (7, .slice p6 ((x1.w).length) c8), (8, .int .i64 ((x1.w).length : Int)), (9, .int .i64 v18)]) (fun | (p25, c27, C28, p30, c31, C29, C32) => [(0, C29), (1, C10), (3, C12), (5, C32)]) ⟨(hΦ 7 (by decide)), (hΦ 10 (by decide)).1, (hΦ 10 (by decide)).2⟩ ⟨rfl, rfl, rfl, rfl, trivial⟩ ⟨rfl, rfl, rfl, rfl, trivial⟩ ?_
   rintro ⟨p25, c27, C28, p30, c31, C29, C32⟩ ⟨o28, o29, o32⟩
   dsimp only
   obtain ⟨x33, e33, H1⟩ := bS H1
   exact kw_bl_normal (kw_nx (cw_region (oP e33 rfl (oM rfl (ow_nil (kw_lqS (js := [0, 1, 5, 3]) (fuel, x24, x33, p30, ((x24).length), c31, C32, (u19.set (Int.toNat k0) (⟨p30, (x24).length, c31, p6, (x1.w).length, c8⟩ : CpS)), C29) ⟨H1, rfl, o32, (Bun.set hb20 _), (idx_set hx20), o29⟩ (Nat.lt_succ_self _) ⟨rfl, rfl, rfl, rfl, trivial⟩ ⟨0, [1, 5, 3], rfl, rfl, 1, [5, 3], rfl, rfl, 5, [3], rfl, rfl, 3, [], rfl, rfl, trivial⟩ (by decide)))))))
  have H1 := cond_f H1 h21
  refine cw_exit (kw_nx_exit (kw_lq_exit (kw_bl ?_)))
  obtain rfl := sI H1
  exact kw_joinS (js := [0, 1, 2, 3]) (v13, v18, p14, ((v13).length), c16, C17, u19, C20) ⟨rfl, rfl, o17, hb20, hx20, o20⟩ ⟨rfl, rfl, rfl, rfl, trivial⟩ ⟨0, [1, 2, 3], rfl, rfl, 1, [2, 3], rfl, rfl, 2, [3], rfl, rfl, 3, [], rfl, rfl, trivial⟩ (by decide)
 rintro ⟨v13, v18, p14, _, c16, C17, u19, C20⟩ ⟨rfl, rfl, o17, hb20, hx20, o20⟩
 dsimp only
 refine kw_nx (cw_region (oM rfl (oZ rfl (oA 1 Tryz.underlying37 rfl ts35 rfl (oF (stpU_storeEl (id := 0) (i := 1) (⟨p14, (v13).length, c16, none, 0, 0⟩ : CpS) (by decide) ts35 rfl rfl rfl o20 hx20 rfl rfl rfl rfl) ?_)))))
 rintro _ _ ⟨C34, rfl, o34⟩
 refine ow_nil (kw_addNil 6 (kw_shut 0 1 2 6 o34 (Bun.setL (Bun.set hb20 _) _) (idx_some (idx_set hx20)).2.2 (idx_setD e1 (⟨v13, ([] : List Nt)⟩ : Cp)) rfl o17 rfl (OwnC.nil 52 none) ?_))
 rintro C35 o35
 obtain rfl := sI H0
 exact ke Tryz.results12 .nil [0] ⟨_, rfl, rfl, (by simp), o35⟩

theorem c_i_AckCpu (fl : Nat) (w : World) (a0 : Sy) (a1 : Int) (hn0_0 : n0_0 = (a0.t.b).length) (hr0_0 : RO w (hkeys []) (RdL p0_0 c0_0 a0.t.b)) (hn0_1 : n0_1 = (a0.t.f).length) (hr0_1 : RO w (hkeys []) (RdL p0_1 c0_1 a0.t.f)) (hn0_2 : n0_2 = (a0.c).length) (hr0_2 : ROD w (hkeys []) p0_2 c0_2 a0.c) (hg : RO w (hkeys []) (fun w' => w'.rangeAt 0 0 [.bool false, .int .i64 0, .int .i64 0, .int .i64 0, .int .i64 (-1)])) (r : Sy × Bool) (H0 : i_AckCpu fl a0 a1 = some r) :
  Ct Tryz.prog 5 [.agg #[.slice p0_0 n0_0 c0_0, .slice p0_1 n0_1 c0_1, .slice p0_2 n0_2 c0_2], .int .i64 a1] w [] (fun rv h' => ∃ (x0 : Option Addr) (y0 z0 : Nat) (C0 : Res) (x1 : Option Addr) (y1 z1 : Nat) (C1 : Res) (x2 : Option Addr) (y2 z2 : Nat) (C2 : Res), rv = .tuple #[.agg #[.slice x0 y0 z0, .slice x1 y1 z1, .slice x2 y2 z2], .bool r.2] ∧ h' = [(0, C0), (1, C1), (2, C2)] ∧ y0 = (r.1.t.b).length ∧ OwnC 3 x0 z0 r.1.t.b C0 ∧ y1 = (r.1.t.f).length ∧ OwnC 76 x1 z1 r.1.t.f C1 ∧ y2 = (r.1.c).length ∧ OwnD 37 52 x2 z2 r.1.c C2) := by
 subst hn0_0 hn0_1 hn0_2
 unfold i_AckCpu at H0
 refine ct_of_cw Tryz.func5 rfl Tryz.ntmps5 rfl (Sat.refl _ _) ?_
 refine sr (oE (stpU_box 0 rfl rfl) rfl ?_)
 rintro _ _ ⟨b1, rfl, rfl⟩
 refine oE (stpU_alloc 1 tz29 rfl) rfl ?_
 rintro _ _ ⟨b2, rfl, rfl⟩
 obtain ⟨x3, e3, H0⟩ := bS H0
 refine oS rfl (nn (cw_seq (sr (oB3 0 ts29 rfl (oM rfl (oE (stpU_call (fun i => 2 + i) cf10 (fun w hw => c_i_cpuOf fl w a0 a1 rfl (RO.pass hr0_0 hw) rfl (RO.pass hr0_1 hw) rfl (ROD.pass hr0_2 hw) (RO.pass hg hw) x3 e3) (yB rfl rfl)) rfl ?_))))))
 rintro _ _ ⟨_, ⟨rfl, rfl⟩, rfl⟩
 refine oK rfl (nn (cw_cond rfl (fun h4 => ?_) (fun h4 => ?_)))
 ·have H0 := cond_t H0 h4
  refine sr (oD (stp_build (cs := #[.slice none 0 0, .slice none 0 0, .slice none 0 0]) sevp_nil bt29_2) rfl (oC3 1 ts29 rfl rfl (oS rfl (nn (cw_ret (kw_nx_ret (kw_addNil 2 (kw_addNil 3 (kw_addNil 4 ?_)))))))))
  obtain rfl := sI H0
  exact kr Tryz.results5 (.cons (.cellN (us := [_, _, _]) ts29 rfl (Cells.box (id := 1) rfl 3 rfl)) (rT rfl)) [2, 3, 4] ⟨_, _, _, _, _, _, _, _, _, _, _, _, rfl, rfl, rfl, (OwnC.nil _ _), rfl, (OwnC.nil _ _), rfl, (OwnD.nil _ _ _)⟩
 have H0 := cond_f H0 h4
 obtain ⟨x5, e5, H0⟩ := bS H0
 refine cw_skip (kw_nx (sr (oB3 0 ts29 rfl (oE (stpU_call (fun i => 5 + i) cf11 (fun w hw => c_i_System_clone fl w a0 rfl (RO.pass hr0_0 hw) rfl (RO.pass hr0_1 hw) rfl (ROD.pass hr0_2 hw) x5 e5) (yA rfl)) rfl ?_))))
 rintro _ _ ⟨_, ⟨p6, _, c8, C9, p10, _, c12, C13, p14, _, c16, C17, rfl, rfl, rfl, o9, rfl, o13, rfl, o17⟩, rfl⟩
 refine oE (stpU_alloc 8 tz29 rfl) rfl ?_
 rintro _ _ ⟨b18, rfl, rfl⟩
 obtain ⟨x19, e19, H0⟩ := bS H0
 refine oC3 8 ts29 rfl rfl (nn (sr (oA 2 Tryz.underlying29 rfl ts27 rfl (oL 8 ts27 rfl (oM rfl (ow_open 7 9 10 11 rfl o17 e19 ?_))))))
 rintro u20 p21 n22 c23 p24 n25 c26 C27 C28 C29 C30 o27 hb28 hx20 rfl o29 rfl o30
 refine oD (stp_indexAddr Tryz.underlying27 ts37 (by decide) rfl (Bun.len hb28) rfl (Rdb.own (id := 7) rfl o27) hx20) rfl (ow_shut 7 9 10 11 o27 hb28 (idx_some hx20).2.2 (idx_some e19).2.2 rfl o29 rfl o30 ?_)
 rintro C31 o31
 obtain ⟨x32, e32, H0⟩ := bS H0
 refine oE (stpU_callM (fun i => bif Nat.beq i 0 then 7 else 12 + i) cf12 (fun w hw hb => c_i_Cpu_ack fl w x5.c a1 rfl o31 (hw.pass (js := [7]) ⟨7, [], rfl, rfl, trivial⟩ (by decide)) x32 e32) (yA rfl) ⟨rfl, (fun _ _ hp => by obtain ⟨_, _, rfl, _⟩ := hp; exact ⟨_, rfl⟩), trivial⟩) rfl ?_
 rintro _ _ ⟨_, ⟨C33, rfl, rfl, hl33, o33⟩, rfl⟩
 refine nn (sr (oB3 8 ts29 rfl (oC3 1 ts29 rfl rfl (oS rfl (nn (cw_ret ?_))))))
 obtain rfl := sI H0
 exact kr Tryz.results5 (.cons (.cellN (us := [_, _, _]) ts29 rfl (Cells.box (id := 1) rfl 3 rfl)) (rT rfl)) [5, 6, 7] ⟨_, _, _, _, _, _, _, _, _, _, _, _, rfl, rfl, rfl, o9, rfl, o13, (by simp [hl33]), o33⟩

theorem c_slices_Equal_Int (fl : Nat) (w : World) (a0 : (List Int)) (a1 : (List Int)) (hn0_0 : n0_0 = (a0).length) (hr0_0 : RO w (hkeys []) (RdL p0_0 c0_0 a0)) (hn1_0 : n1_0 = (a1).length) (hr1_0 : RO w (hkeys []) (RdL p1_0 c1_0 a1)) (r : Bool) (H0 : slices_Equal_Int fl a0 a1 = some r) :
  Ct Tryz.prog 39 [.slice p0_0 n0_0 c0_0, .slice p1_0 n1_0 c1_0] w [] (fun rv h' => rv = .bool r ∧ h' = []) := by
 subst hn0_0 hn1_0
 unfold slices_Equal_Int at H0
 refine ct_of_cw Tryz.func39 rfl Tryz.ntmps39 rfl (Sat.refl _ _) ?_
 refine sr (oS rfl (nn (cw_seq (sr (oM rfl (oD (stp_len Tryz.underlying23 rfl) rfl (oM rfl (oD (stp_len Tryz.underlying23 rfl) rfl (oU rfl (nn (cw_cond rfl (fun h1 => ?_) (fun h1 => ?_))))))))))))
 ·have H0 := cond_t H0 h1
  refine sr (oS rfl (nn (cw_ret (kw_nx_ret ?_))))
  obtain rfl := sI H0
  exact kr Tryz.results39 (rT rfl) [] ⟨rfl, rfl⟩
 have H0 := cond_f H0 h1
 obtain ⟨o0_0, eo0_0, H0⟩ := bS H0
 refine cw_skip (kw_nx (cw_seq (sr (oM rfl (oD (stp_len Tryz.underlying23 rfl) rfl (oM rfl (nn (cw_join (ι := Int) (fun | v2 => o0_0 = .out v2) (fun | v2 => [(0, .slice p0_0 ((a0).length) c0_0), (1, .slice p1_0 ((a1).length) c1_0), (12, .int .i64 ((a0).length : Int)), (13, .int .i64 v2)]) (fun | v2 => []) ?_ ?_))))))))
 ·refine cw_block (cw_loopS (ι := Nat × Int) (js := []) (fun x => x.1) (fun | (fuel, v2) => slices_Equal_Int_L0 fl a0 a1 fuel v2 = some o0_0) (fun | (_, v2) => [(0, .slice p0_0 ((a0).length) c0_0), (1, .slice p1_0 ((a1).length) c1_0), (12, .int .i64 ((a0).length : Int)), (13, .int .i64 v2)]) (fun | (_, v2) => []) (fl, 0) eo0_0 ⟨rfl, rfl, rfl, rfl, trivial⟩ trivial (by decide) ?_)
  rintro ⟨fuel, v2⟩ H1
  have H1 : slices_Equal_Int_L0 fl a0 a1 fuel v2 = some o0_0 := H1
  rcases fuel with _ | fuel
  ·rw [slices_Equal_Int_L0.eq_1] at H1; cases H1
  rw [slices_Equal_Int_L0.eq_2] at H1
  dsimp only
  refine sr (oW rfl (nn (cw_seq (cw_cond rfl (fun h3 => ?_) (fun h3 => ?_)))))
  ·have H1 := cond_t H1 h3
   obtain ⟨x4, e4, H1⟩ := bS H1
   obtain ⟨x5, e5, H1⟩ := bS H1
   refine cw_skip (kw_nx (cw_seq (cw_block (sr (oM rfl (oS rfl (nn (cw_seq (rdq g_mixed [0, 1, 5] [] { dst := dS [17, 18, 19, 20, 21, 22, 23, 24, 25], pre := gA [] [[], [], [0, 1], [0, 1, 2], [], [], [4, 5], [4, 5, 6], rn 0 8], ids := fun _ => [], rs := rL [[(0, 0)], [(5, 0)], [(16, 1), (17, 2)], [(18, 3)], [(1, 0)], [(5, 0)], [(20, 5), (21, 6)], [(22, 7)], [(19, 4), (23, 8)]], rh := fun _ => [], V := fun i g => gA undef [.slice p0_0 ((a0).length) c0_0, .int .i64 v2, .pointer (some ⟨eB p0_0, eO p0_0 + Int.toNat v2 * Enc.sz Int + 0, none⟩), .int .i64 x4, .slice p1_0 ((a1).length) c1_0, .int .i64 v2, .pointer (some ⟨eB p1_0, eO p1_0 + Int.toNat v2 * Enc.sz Int + 0, none⟩), .int .i64 x5, .bool (x4 != x5)] i, U := fun _ _ => [], Φ := fun _ _ => True } ?_ ?_)))))))))
   ·exact ⟨lM, lM, lc rfl rfl fun hs hh => stp_indexAddr Tryz.underlying23 ts3 (by decide) (sv hs 16 rfl) rfl (sv hs 17 rfl) (Rdb.ro hr0_0) e4, lc rfl rfl fun hs hh => stp_load1 ts3 (sv hs 18 rfl) (Cells.el (Rdb.ro hr0_0) (by decide) e4 0 1 rfl), lM, lM, lc rfl rfl fun hs hh => stp_indexAddr Tryz.underlying23 ts3 (by decide) (sv hs 20 rfl) rfl (sv hs 21 rfl) (Rdb.ro hr1_0) e5, lc rfl rfl fun hs hh => stp_load1 ts3 (sv hs 22 rfl) (Cells.el (Rdb.ro hr1_0) (by decide) e5 0 1 rfl), lc rfl rfl fun hs hh => stp_neq (sv hs 19 rfl) (sv hs 23 rfl), trivial⟩
   intro g hΦ
   refine KW.sub (s' := [(0, .slice p0_0 ((a0).length) c0_0), (1, .slice p1_0 ((a1).length) c1_0), (12, .int .i64 ((a0).length : Int)), (13, .int .i64 v2), (24, .bool (x4 != x5))]) (h' := []) ?_ ⟨rfl, rfl, rfl, rfl, rfl, trivial⟩ trivial
   refine kw_nx (cw_cond rfl (fun h6 => ?_) (fun h6 => ?_))
   ·have H1 := cond_t H1 h6
    refine sr (oS rfl (nn (cw_ret (kw_bl_ret (kw_nx_ret (kw_lq_ret (kw_bl_ret (kw_join_ret (kw_nx_ret ?_)))))))))
    obtain rfl := sI H1
    obtain rfl := sI H0
    exact kr Tryz.results39 (rT rfl) [] ⟨rfl, rfl⟩
   have H1 := cond_f H1 h6
   obtain ⟨x7, e7, H1⟩ := bS H1
   exact cw_skip (kw_bl_normal (kw_nx (cw_region (oP e7 rfl (oM rfl (ow_nil (kw_lqS (js := []) (fuel, x7) H1 (Nat.lt_succ_self _) ⟨rfl, rfl, rfl, rfl, trivial⟩ trivial (by decide))))))))
  have H1 := cond_f H1 h3
  refine cw_exit (kw_nx_exit (kw_lq_exit (kw_bl ?_)))
  obtain rfl := sI H1
  exact kw_joinS (js := []) v2 rfl ⟨rfl, rfl, rfl, rfl, trivial⟩ trivial (by decide)
 rintro v2 rfl
 dsimp only
 refine kw_nx (sr (oS rfl (nn (cw_ret ?_))))
 obtain rfl := sI H0
 exact kr Tryz.results39 (rT rfl) [] ⟨rfl, rfl⟩

theorem c_slices_Equal_Frame (fl : Nat) (w : World) (a0 : (List F)) (a1 : (List F)) (hn0_0 : n0_0 = (a0).length) (hr0_0 : RO w (hkeys []) (RdL p0_0 c0_0 a0)) (hn1_0 : n1_0 = (a1).length) (hr1_0 : RO w (hkeys []) (RdL p1_0 c1_0 a1)) (r : Bool) (H0 : slices_Equal_Frame fl a0 a1 = some r) :
  Ct Tryz.prog 40 [.slice p0_0 n0_0 c0_0, .slice p1_0 n1_0 c1_0] w [] (fun rv h' => rv = .bool r ∧ h' = []) := by
 subst hn0_0 hn1_0
 unfold slices_Equal_Frame at H0
 refine ct_of_cw Tryz.func40 rfl Tryz.ntmps40 rfl (Sat.refl _ _) ?_
 refine sr (oS rfl (nn (cw_seq (sr (oM rfl (oD (stp_len Tryz.underlying24 rfl) rfl (oM rfl (oD (stp_len Tryz.underlying24 rfl) rfl (oU rfl (nn (cw_cond rfl (fun h1 => ?_) (fun h1 => ?_))))))))))))
 ·have H0 := cond_t H0 h1
  refine sr (oS rfl (nn (cw_ret (kw_nx_ret ?_))))
  obtain rfl := sI H0
  exact kr Tryz.results40 (rT rfl) [] ⟨rfl, rfl⟩
 have H0 := cond_f H0 h1
 obtain ⟨o0_0, eo0_0, H0⟩ := bS H0
 refine cw_skip (kw_nx (cw_seq (sr (oM rfl (oD (stp_len Tryz.underlying24 rfl) rfl (oM rfl (nn (cw_join (ι := Int) (fun | v2 => o0_0 = .out v2) (fun | v2 => [(0, .slice p0_0 ((a0).length) c0_0), (1, .slice p1_0 ((a1).length) c1_0), (12, .int .i64 ((a0).length : Int)), (13, .int .i64 v2)]) (fun | v2 => []) ?_ ?_))))))))
 ·refine cw_block (cw_loopS (ι := Nat × Int) (js := []) (fun x => x.1) (fun | (fuel, v2) => slices_Equal_Frame_L0 fl a0 a1 fuel v2 = some o0_0) (fun | (_, v2) => [(0, .slice p0_0 ((a0).length) c0_0), (1, .slice p1_0 ((a1).length) c1_0), (12, .int .i64 ((a0).length : Int)), (13, .int .i64 v2)]) (fun | (_, v2) => []) (fl, 0) eo0_0 ⟨rfl, rfl, rfl, rfl, trivial⟩ trivial (by decide) ?_)
  rintro ⟨fuel, v2⟩ H1
  have H1 : slices_Equal_Frame_L0 fl a0 a1 fuel v2 = some o0_0 := H1
  rcases fuel with _ | fuel
  ·rw [slices_Equal_Frame_L0.eq_1] at H1; cases H1
  rw [slices_Equal_Frame_L0.eq_2] at H1
  dsimp only
  refine sr (oW rfl (nn (cw_seq (cw_cond rfl (fun h3 => ?_) (fun h3 => ?_)))))
  ·have H1 := cond_t H1 h3
   obtain ⟨x4, e4, H1⟩ := bS H1
   obtain ⟨x5, e5, H1⟩ := bS H1
   refine cw_skip (kw_nx (cw_seq (cw_block (sr (oM rfl (oS rfl (nn (cw_seq (rdq g_mixed [0, 1, 5] [] { dst := dS [17, 18, 19, 20, 21, 22, 23, 24, 25], pre := gA [] [[], [], [0, 1], [0, 1, 2], [], [], [4, 5], [4, 5, 6], rn 0 8], ids := fun _ => [], rs := rL [[(0, 0)], [(5, 0)], [(16, 1), (17, 2)], [(18, 3)], [(1, 0)], [(5, 0)], [(20, 5), (21, 6)], [(22, 7)], [(19, 4), (23, 8)]], rh := fun _ => [], V := fun i g => gA undef [.slice p0_0 ((a0).length) c0_0, .int .i64 v2, .pointer (some ⟨eB p0_0, eO p0_0 + Int.toNat v2 * Enc.sz F + 0, none⟩), .agg #[.bool x4.u, .int .i64 x4.k.s, .int .i64 x4.k.p, .int .i64 x4.r, .int .i64 x4.nx], .slice p1_0 ((a1).length) c1_0, .int .i64 v2, .pointer (some ⟨eB p1_0, eO p1_0 + Int.toNat v2 * Enc.sz F + 0, none⟩), .agg #[.bool x5.u, .int .i64 x5.k.s, .int .i64 x5.k.p, .int .i64 x5.r, .int .i64 x5.nx], .bool (x4 != x5)] i, U := fun _ _ => [], Φ := fun _ _ => True } ?_ ?_)))))))))
   ·exact ⟨lM, lM, lc rfl rfl fun hs hh => stp_indexAddr Tryz.underlying24 ts76 (by decide) (sv hs 16 rfl) rfl (sv hs 17 rfl) (Rdb.ro hr0_0) e4, lc rfl rfl fun hs hh => stp_loadN (us := [_, _, _, _, _]) ts76 (sv hs 18 rfl) (Cells.el (Rdb.ro hr0_0) (by decide) e4 0 5 rfl), lM, lM, lc rfl rfl fun hs hh => stp_indexAddr Tryz.underlying24 ts76 (by decide) (sv hs 20 rfl) rfl (sv hs 21 rfl) (Rdb.ro hr1_0) e5, lc rfl rfl fun hs hh => stp_loadN (us := [_, _, _, _, _]) ts76 (sv hs 22 rfl) (Cells.el (Rdb.ro hr1_0) (by decide) e5 0 5 rfl), lc rfl rfl fun hs hh => stp_neqS te76 x4 x5 (sv hs 19 rfl) (sv hs 23 rfl), trivial⟩
   intro g hΦ
   refine KW.sub (s' := [(0, .slice p0_0 ((a0).length) c0_0), (1, .slice p1_0 ((a1).length) c1_0), (12, .int .i64 ((a0).length : Int)), (13, .int .i64 v2), (24, .bool (x4 != x5))]) (h' := []) ?_ ⟨rfl, rfl, rfl, rfl, rfl, trivial⟩ trivial
   refine kw_nx (cw_cond rfl (fun h6 => ?_) (fun h6 => ?_))
   ·have H1 := cond_t H1 h6
    refine sr (oS rfl (nn (cw_ret (kw_bl_ret (kw_nx_ret (kw_lq_ret (kw_bl_ret (kw_join_ret (kw_nx_ret ?_)))))))))
    obtain rfl := sI H1
    obtain rfl := sI H0
    exact kr Tryz.results40 (rT rfl) [] ⟨rfl, rfl⟩
   have H1 := cond_f H1 h6
   obtain ⟨x7, e7, H1⟩ := bS H1
   exact cw_skip (kw_bl_normal (kw_nx (cw_region (oP e7 rfl (oM rfl (ow_nil (kw_lqS (js := []) (fuel, x7) H1 (Nat.lt_succ_self _) ⟨rfl, rfl, rfl, rfl, trivial⟩ trivial (by decide))))))))
  have H1 := cond_f H1 h3
  refine cw_exit (kw_nx_exit (kw_lq_exit (kw_bl ?_)))
  obtain rfl := sI H1
  exact kw_joinS (js := []) v2 rfl ⟨rfl, rfl, rfl, rfl, trivial⟩ trivial (by decide)
 rintro v2 rfl
 dsimp only
 refine kw_nx (sr (oS rfl (nn (cw_ret ?_))))
 obtain rfl := sI H0
 exact kr Tryz.results40 (rT rfl) [] ⟨rfl, rfl⟩

theorem c_i_TableSame (fl : Nat) (w : World) (a0 : T) (a1 : T) (hn0_0 : n0_0 = (a0.b).length) (hr0_0 : RO w (hkeys []) (RdL p0_0 c0_0 a0.b)) (hn0_1 : n0_1 = (a0.f).length) (hr0_1 : RO w (hkeys []) (RdL p0_1 c0_1 a0.f)) (hn1_0 : n1_0 = (a1.b).length) (hr1_0 : RO w (hkeys []) (RdL p1_0 c1_0 a1.b)) (hn1_1 : n1_1 = (a1.f).length) (hr1_1 : RO w (hkeys []) (RdL p1_1 c1_1 a1.f)) (r : Bool) (H0 : i_TableSame fl a0 a1 = some r) :
  Ct Tryz.prog 16 [.agg #[.slice p0_0 n0_0 c0_0, .slice p0_1 n0_1 c0_1], .agg #[.slice p1_0 n1_0 c1_0, .slice p1_1 n1_1 c1_1]] w [] (fun rv h' => rv = .bool r ∧ h' = []) := by
 subst hn0_0 hn0_1 hn1_0 hn1_1
 unfold i_TableSame at H0
 refine ct_of_cw Tryz.func16 rfl Tryz.ntmps16 rfl (Sat.refl _ _) ?_
 refine sr (oE (stpU_box 0 rfl rfl) rfl ?_)
 rintro _ _ ⟨b1, rfl, rfl⟩
 refine oE (stpU_box 1 rfl rfl) rfl ?_
 rintro _ _ ⟨b2, rfl, rfl⟩
 obtain ⟨x3, e3, H0⟩ := bS H0
 refine oS rfl (nn (sr (oA 0 Tryz.underlying26 rfl ts23 rfl (oL 0 ts23 rfl (oA 0 Tryz.underlying26 rfl ts23 rfl (oL 1 ts23 rfl (oE (stpU_call (fun i => 2 + i) cf39 (fun w hw => c_slices_Equal_Int fl w a0.b a1.b rfl (RO.pass hr0_0 hw) rfl (RO.pass hr1_0 hw) x3 e3) (yB rfl rfl)) rfl ?_)))))))
 rintro _ _ ⟨_, ⟨rfl, rfl⟩, rfl⟩
 obtain ⟨y4, ey4, H0⟩ := bS H0
 refine oM rfl (ow_cutY 6 16 y4 ?_ ?_)
 ·rcases Bool.eq_false_or_eq_true x3 with hy4 | hy4
  ·have ey4 := cond_t ey4 hy4
   obtain ⟨x5, e5, ey4⟩ := bS ey4
   refine oG rfl hy4 (fA 1 Tryz.underlying26 rfl ts24 rfl rfl rfl) rfl (oG rfl hy4 (lB 0 ts24 rfl rfl rfl) rfl (oG rfl hy4 (fA 1 Tryz.underlying26 rfl ts24 rfl rfl rfl) rfl (oG rfl hy4 (lB 1 ts24 rfl rfl rfl) rfl (ow_eff (.some rfl hy4) (stpU_call (fun i => 2 + i) cf40 (fun w hw => c_slices_Equal_Frame fl w a0.f a1.f rfl (RO.pass hr0_1 hw) rfl (RO.pass hr1_1 hw) x5 e5) (yB rfl rfl)) rfl ?_))))
   rintro _ _ ⟨_, ⟨rfl, rfl⟩, rfl⟩
   refine oD (stp_pick_t rfl hy4 rfl) rfl ?_
   obtain rfl := sI ey4
   exact ow_nil (jy 6 0)
  have ey4 := cond_f ey4 hy4
  refine oO rfl hy4 rfl (oO rfl hy4 rfl (oO rfl hy4 rfl (oO rfl hy4 rfl (oO rfl hy4 rfl (oD (stp_pick_f rfl hy4 rfl) rfl ?_)))))
  obtain rfl := sI ey4
  exact ow_nil (jy 6 0)
 refine oS rfl (nn (cw_ret ?_))
 obtain rfl := sI H0
 exact kr Tryz.results16 (rT rfl) [] ⟨rfl, rfl⟩

theorem c_slices_Equal_Note (fl : Nat) (w : World) (a0 : (List Nt)) (a1 : (List Nt)) (hn0_0 : n0_0 = (a0).length) (hr0_0 : RO w (hkeys []) (RdL p0_0 c0_0 a0)) (hn1_0 : n1_0 = (a1).length) (hr1_0 : RO w (hkeys []) (RdL p1_0 c1_0 a1)) (r : Bool) (H0 : slices_Equal_Note fl a0 a1 = some r) :
  Ct Tryz.prog 19 [.slice p0_0 n0_0 c0_0, .slice p1_0 n1_0 c1_0] w [] (fun rv h' => rv = .bool r ∧ h' = []) := by
 subst hn0_0 hn1_0
 unfold slices_Equal_Note at H0
 refine ct_of_cw Tryz.func19 rfl Tryz.ntmps19 rfl (Sat.refl _ _) ?_
 refine sr (oS rfl (nn (cw_seq (sr (oM rfl (oD (stp_len Tryz.underlying35 rfl) rfl (oM rfl (oD (stp_len Tryz.underlying35 rfl) rfl (oU rfl (nn (cw_cond rfl (fun h1 => ?_) (fun h1 => ?_))))))))))))
 ·have H0 := cond_t H0 h1
  refine sr (oS rfl (nn (cw_ret (kw_nx_ret ?_))))
  obtain rfl := sI H0
  exact kr Tryz.results19 (rT rfl) [] ⟨rfl, rfl⟩
 have H0 := cond_f H0 h1
 obtain ⟨o0_0, eo0_0, H0⟩ := bS H0
 refine cw_skip (kw_nx (cw_seq (sr (oM rfl (oD (stp_len Tryz.underlying35 rfl) rfl (oM rfl (nn (cw_join (ι := Int) (fun | v2 => o0_0 = .out v2) (fun | v2 => [(0, .slice p0_0 ((a0).length) c0_0), (1, .slice p1_0 ((a1).length) c1_0), (12, .int .i64 ((a0).length : Int)), (13, .int .i64 v2)]) (fun | v2 => []) ?_ ?_))))))))
 ·refine cw_block (cw_loopS (ι := Nat × Int) (js := []) (fun x => x.1) (fun | (fuel, v2) => slices_Equal_Note_L0 fl a0 a1 fuel v2 = some o0_0) (fun | (_, v2) => [(0, .slice p0_0 ((a0).length) c0_0), (1, .slice p1_0 ((a1).length) c1_0), (12, .int .i64 ((a0).length : Int)), (13, .int .i64 v2)]) (fun | (_, v2) => []) (fl, 0) eo0_0 ⟨rfl, rfl, rfl, rfl, trivial⟩ trivial (by decide) ?_)
  rintro ⟨fuel, v2⟩ H1
  have H1 : slices_Equal_Note_L0 fl a0 a1 fuel v2 = some o0_0 := H1
  rcases fuel with _ | fuel
  ·rw [slices_Equal_Note_L0.eq_1] at H1; cases H1
  rw [slices_Equal_Note_L0.eq_2] at H1
  dsimp only
  refine sr (oW rfl (nn (cw_seq (cw_cond rfl (fun h3 => ?_) (fun h3 => ?_)))))
  ·have H1 := cond_t H1 h3
   obtain ⟨x4, e4, H1⟩ := bS H1
   obtain ⟨x5, e5, H1⟩ := bS H1
   refine cw_skip (kw_nx (cw_seq (cw_block (sr (oM rfl (oS rfl (nn (cw_seq (rdq g_mixed [0, 1, 5] [] { dst := dS [17, 18, 19, 20, 21, 22, 23, 24, 25], pre := gA [] [[], [], [0, 1], [0, 1, 2], [], [], [4, 5], [4, 5, 6], rn 0 8], ids := fun _ => [], rs := rL [[(0, 0)], [(5, 0)], [(16, 1), (17, 2)], [(18, 3)], [(1, 0)], [(5, 0)], [(20, 5), (21, 6)], [(22, 7)], [(19, 4), (23, 8)]], rh := fun _ => [], V := fun i g => gA undef [.slice p0_0 ((a0).length) c0_0, .int .i64 v2, .pointer (some ⟨eB p0_0, eO p0_0 + Int.toNat v2 * Enc.sz Nt + 0, none⟩), .agg #[.int .i64 x4.k.s, .int .i64 x4.k.p, .int .i64 x4.fr], .slice p1_0 ((a1).length) c1_0, .int .i64 v2, .pointer (some ⟨eB p1_0, eO p1_0 + Int.toNat v2 * Enc.sz Nt + 0, none⟩), .agg #[.int .i64 x5.k.s, .int .i64 x5.k.p, .int .i64 x5.fr], .bool (x4 != x5)] i, U := fun _ _ => [], Φ := fun _ _ => True } ?_ ?_)))))))))
   ·exact ⟨lM, lM, lc rfl rfl fun hs hh => stp_indexAddr Tryz.underlying35 ts52 (by decide) (sv hs 16 rfl) rfl (sv hs 17 rfl) (Rdb.ro hr0_0) e4, lc rfl rfl fun hs hh => stp_loadN (us := [_, _, _]) ts52 (sv hs 18 rfl) (Cells.el (Rdb.ro hr0_0) (by decide) e4 0 3 rfl), lM, lM, lc rfl rfl fun hs hh => stp_indexAddr Tryz.underlying35 ts52 (by decide) (sv hs 20 rfl) rfl (sv hs 21 rfl) (Rdb.ro hr1_0) e5, lc rfl rfl fun hs hh => stp_loadN (us := [_, _, _]) ts52 (sv hs 22 rfl) (Cells.el (Rdb.ro hr1_0) (by decide) e5 0 3 rfl), lc rfl rfl fun hs hh => stp_neqS te52 x4 x5 (sv hs 19 rfl) (sv hs 23 rfl), trivial⟩
   intro g hΦ
   refine KW.sub (s' := [(0, .slice p0_0 ((a0).length) c0_0), (1, .slice p1_0 ((a1).length) c1_0), (12, .int .i64 ((a0).length : Int)), (13, .int .i64 v2), (24, .bool (x4 != x5))]) (h' := []) ?_ ⟨rfl, rfl, rfl, rfl, rfl, trivial⟩ trivial
   refine kw_nx (cw_cond rfl (fun h6 => ?_) (fun h6 => ?_))
   ·have H1 := cond_t H1 h6
    refine sr (oS rfl (nn (cw_ret (kw_bl_ret (kw_nx_ret (kw_lq_ret (kw_bl_ret (kw_join_ret (kw_nx_ret ?_)))))))))
    obtain rfl := sI H1
    obtain rfl := sI H0
    exact kr Tryz.results19 (rT rfl) [] ⟨rfl, rfl⟩
   have H1 := cond_f H1 h6
   obtain ⟨x7, e7, H1⟩ := bS H1
   exact cw_skip (kw_bl_normal (kw_nx (cw_region (oP e7 rfl (oM rfl (ow_nil (kw_lqS (js := []) (fuel, x7) H1 (Nat.lt_succ_self _) ⟨rfl, rfl, rfl, rfl, trivial⟩ trivial (by decide))))))))
  have H1 := cond_f H1 h3
  refine cw_exit (kw_nx_exit (kw_lq_exit (kw_bl ?_)))
  obtain rfl := sI H1
  exact kw_joinS (js := []) v2 rfl ⟨rfl, rfl, rfl, rfl, trivial⟩ trivial (by decide)
 rintro v2 rfl
 dsimp only
 refine kw_nx (sr (oS rfl (nn (cw_ret ?_))))
 obtain rfl := sI H0
 exact kr Tryz.results19 (rT rfl) [] ⟨rfl, rfl⟩

theorem c_i_SystemSame_1 (fl : Nat) (w : World) (a0 : Cp) (a1 : Cp) (hn0_0 : n0_0 = (a0.n).length) (hr0_0 : RO w (hkeys []) (RdL p0_0 c0_0 a0.n)) (hn0_1 : n0_1 = (a0.w).length) (hr0_1 : RO w (hkeys []) (RdL p0_1 c0_1 a0.w)) (hn1_0 : n1_0 = (a1.n).length) (hr1_0 : RO w (hkeys []) (RdL p1_0 c1_0 a1.n)) (hn1_1 : n1_1 = (a1.w).length) (hr1_1 : RO w (hkeys []) (RdL p1_1 c1_1 a1.w)) (r : Bool) (H0 : i_SystemSame_1 fl a0 a1 = some r) :
  Ct Tryz.prog 18 [.agg #[.slice p0_0 n0_0 c0_0, .slice p0_1 n0_1 c0_1], .agg #[.slice p1_0 n1_0 c1_0, .slice p1_1 n1_1 c1_1]] w [] (fun rv h' => rv = .bool r ∧ h' = []) := by
 subst hn0_0 hn0_1 hn1_0 hn1_1
 unfold i_SystemSame_1 at H0
 refine ct_of_cw Tryz.func18 rfl Tryz.ntmps18 rfl (Sat.refl _ _) ?_
 refine sr (oE (stpU_box 0 rfl rfl) rfl ?_)
 rintro _ _ ⟨b1, rfl, rfl⟩
 refine oE (stpU_box 1 rfl rfl) rfl ?_
 rintro _ _ ⟨b2, rfl, rfl⟩
 obtain ⟨x3, e3, H0⟩ := bS H0
 refine oS rfl (nn (sr (oA 0 Tryz.underlying37 rfl ts35 rfl (oL 0 ts35 rfl (oA 0 Tryz.underlying37 rfl ts35 rfl (oL 1 ts35 rfl (oE (stpU_call (fun i => 2 + i) cf19 (fun w hw => c_slices_Equal_Note fl w a0.n a1.n rfl (RO.pass hr0_0 hw) rfl (RO.pass hr1_0 hw) x3 e3) (yB rfl rfl)) rfl ?_)))))))
 rintro _ _ ⟨_, ⟨rfl, rfl⟩, rfl⟩
 obtain ⟨y4, ey4, H0⟩ := bS H0
 refine oM rfl (ow_cutY 6 16 y4 ?_ ?_)
 ·rcases Bool.eq_false_or_eq_true x3 with hy4 | hy4
  ·have ey4 := cond_t ey4 hy4
   obtain ⟨x5, e5, ey4⟩ := bS ey4
   refine oG rfl hy4 (fA 1 Tryz.underlying37 rfl ts35 rfl rfl rfl) rfl (oG rfl hy4 (lB 0 ts35 rfl rfl rfl) rfl (oG rfl hy4 (fA 1 Tryz.underlying37 rfl ts35 rfl rfl rfl) rfl (oG rfl hy4 (lB 1 ts35 rfl rfl rfl) rfl (ow_eff (.some rfl hy4) (stpU_call (fun i => 2 + i) cf19 (fun w hw => c_slices_Equal_Note fl w a0.w a1.w rfl (RO.pass hr0_1 hw) rfl (RO.pass hr1_1 hw) x5 e5) (yB rfl rfl)) rfl ?_))))
   rintro _ _ ⟨_, ⟨rfl, rfl⟩, rfl⟩
   refine oD (stp_pick_t rfl hy4 rfl) rfl ?_
   obtain rfl := sI ey4
   exact ow_nil (jy 6 0)
  have ey4 := cond_f ey4 hy4
  refine oO rfl hy4 rfl (oO rfl hy4 rfl (oO rfl hy4 rfl (oO rfl hy4 rfl (oO rfl hy4 rfl (oD (stp_pick_f rfl hy4 rfl) rfl ?_)))))
  obtain rfl := sI ey4
  exact ow_nil (jy 6 0)
 refine oS rfl (nn (cw_ret ?_))
 obtain rfl := sI H0
 exact kr Tryz.results18 (rT rfl) [] ⟨rfl, rfl⟩

theorem c_slices_EqualFunc_Cpu_of_i_SystemSame_1 (fl : Nat) (w : World) (a0 : (List Cp)) (a1 : (List Cp)) (hn0_0 : n0_0 = (a0).length) (hr0_0 : ROD w (hkeys []) p0_0 c0_0 a0) (hn1_0 : n1_0 = (a1).length) (hr1_0 : ROD w (hkeys []) p1_0 c1_0 a1) (r : Bool) (H0 : slices_EqualFunc_Cpu_of_i_SystemSame_1 fl a0 a1 = some r) :
  Ct Tryz.prog 17 [.slice p0_0 n0_0 c0_0, .slice p1_0 n1_0 c1_0, .func (.func 18) #[] #[]] w [] (fun rv h' => rv = .bool r ∧ h' = []) := by
 subst hn0_0 hn1_0
 unfold slices_EqualFunc_Cpu_of_i_SystemSame_1 at H0
 refine ct_of_cw Tryz.func17 rfl Tryz.ntmps17 rfl (Sat.refl _ _) ?_
 refine sr (oS rfl (nn (cw_seq (sr (oM rfl (oD (stp_len Tryz.underlying27 rfl) rfl (oM rfl (oD (stp_len Tryz.underlying27 rfl) rfl (oU rfl (nn (cw_cond rfl (fun h1 => ?_) (fun h1 => ?_))))))))))))
 ·have H0 := cond_t H0 h1
  refine sr (oS rfl (nn (cw_ret (kw_nx_ret ?_))))
  obtain rfl := sI H0
  exact kr Tryz.results17 (rT rfl) [] ⟨rfl, rfl⟩
 have H0 := cond_f H0 h1
 obtain ⟨o0_0, eo0_0, H0⟩ := bS H0
 refine cw_skip (kw_nx (cw_seq (sr (oM rfl (oD (stp_len Tryz.underlying27 rfl) rfl (oM rfl (nn (cw_join (ι := Int) (fun | v2 => o0_0 = .out v2) (fun | v2 => [(1, .slice p1_0 ((a1).length) c1_0), (2, .func (.func 18) #[] #[]), (15, .slice p0_0 ((a0).length) c0_0), (16, .int .i64 ((a0).length : Int)), (17, .int .i64 v2)]) (fun | v2 => []) ?_ ?_))))))))
 ·refine cw_block (cw_loopS (ι := Nat × Int) (js := []) (fun x => x.1) (fun | (fuel, v2) => slices_EqualFunc_Cpu_of_i_SystemSame_1_L0 fl a0 a1 fuel v2 = some o0_0) (fun | (_, v2) => [(1, .slice p1_0 ((a1).length) c1_0), (2, .func (.func 18) #[] #[]), (15, .slice p0_0 ((a0).length) c0_0), (16, .int .i64 ((a0).length : Int)), (17, .int .i64 v2)]) (fun | (_, v2) => []) (fl, 0) eo0_0 ⟨rfl, rfl, rfl, rfl, rfl, trivial⟩ trivial (by decide) ?_)
  rintro ⟨fuel, v2⟩ H1
  have H1 : slices_EqualFunc_Cpu_of_i_SystemSame_1_L0 fl a0 a1 fuel v2 = some o0_0 := H1
  rcases fuel with _ | fuel
  ·rw [slices_EqualFunc_Cpu_of_i_SystemSame_1_L0.eq_1] at H1; cases H1
  rw [slices_EqualFunc_Cpu_of_i_SystemSame_1_L0.eq_2] at H1
  dsimp only
  refine sr (oW rfl (nn (cw_seq (cw_cond rfl (fun h3 => ?_) (fun h3 => ?_)))))
  ·have H1 := cond_t H1 h3
   obtain ⟨x4, e4, H1⟩ := bS H1
   refine cw_skip (kw_nx (cw_seq (cw_block (sr (oM rfl ?_)))))
   obtain ⟨u5, p6, n7, c8, p9, n10, c11, hw5, hl5, hx5, rfl, hr5, rfl, hs5⟩ := ROD.get hr0_0 e4
   refine oD (stp_indexAddr Tryz.underlying27 ts37 (by decide) rfl hl5 rfl (Rdb.ro hw5) hx5) rfl (oD (stp_loadN (us := [_, _]) ts37 rfl (Cells.el (Rdb.ro hw5) (by decide) hx5 0 2 rfl)) rfl (oE (stpU_alloc 0 tz37 rfl) rfl ?_))
   rintro _ _ ⟨b12, rfl, rfl⟩
   obtain ⟨x13, e13, H1⟩ := bS H1
   refine oS rfl (oC2 0 ts37 rfl rfl (nn (sr (oM rfl (oM rfl ?_)))))
   obtain ⟨u14, p15, n16, c17, p18, n19, c20, hw14, hl14, hx14, rfl, hr14, rfl, hs14⟩ := ROD.get hr1_0 e13
   refine oD (stp_indexAddr Tryz.underlying27 ts37 (by decide) rfl hl14 rfl (Rdb.ro hw14) hx14) rfl (oD (stp_loadN (us := [_, _]) ts37 rfl (Cells.el (Rdb.ro hw14) (by decide) hx14 0 2 rfl)) rfl (oE (stpU_alloc 1 tz37 rfl) rfl ?_))
   rintro _ _ ⟨b21, rfl, rfl⟩
   obtain ⟨x22, e22, H1⟩ := bS H1
   refine oC2 1 ts37 rfl rfl (nn (sr (oM rfl (oB2 0 ts37 rfl (oB2 1 ts37 rfl (oE (stpU_callF (vals := [_, _]) (ca := []) (fun i => 2 + i) cf18 (fun w hw => c_i_SystemSame_1 fl w x4 x13 rfl (RO.pass hr5 hw) rfl (RO.pass hs5 hw) rfl (RO.pass hr14 hw) rfl (RO.pass hs14 hw) x22 e22) rfl (yB rfl rfl)) rfl ?_))))))
   rintro _ _ ⟨_, ⟨rfl, rfl⟩, rfl⟩
   refine oK rfl (nn (cw_cond rfl (fun h23 => ?_) (fun h23 => ?_)))
   ·have H1 := cond_t H1 h23
    refine sr (oS rfl (nn (cw_ret (kw_bl_ret (kw_nx_ret (kw_lq_ret (kw_bl_ret (kw_join_ret (kw_nx_ret ?_)))))))))
    obtain rfl := sI H1
    obtain rfl := sI H0
    exact kr Tryz.results17 (rT rfl) [] ⟨rfl, rfl⟩
   have H1 := cond_f H1 h23
   obtain ⟨x24, e24, H1⟩ := bS H1
   exact cw_skip (kw_bl_normal (kw_nx (cw_region (oP e24 rfl (oM rfl (ow_nil (kw_lqS (js := []) (fuel, x24) H1 (Nat.lt_succ_self _) ⟨rfl, rfl, rfl, rfl, rfl, trivial⟩ trivial (by decide))))))))
  have H1 := cond_f H1 h3
  refine cw_exit (kw_nx_exit (kw_lq_exit (kw_bl ?_)))
  obtain rfl := sI H1
  exact kw_joinS (js := []) v2 rfl ⟨rfl, rfl, rfl, rfl, rfl, trivial⟩ trivial (by decide)
 rintro v2 rfl
 dsimp only
 refine kw_nx (sr (oS rfl (nn (cw_ret ?_))))
 obtain rfl := sI H0
 exact kr Tryz.results17 (rT rfl) [] ⟨rfl, rfl⟩

theorem c_i_SystemSame (fl : Nat) (w : World) (a0 : Sy) (a1 : Sy) (hn0_0 : n0_0 = (a0.t.b).length) (hr0_0 : RO w (hkeys []) (RdL p0_0 c0_0 a0.t.b)) (hn0_1 : n0_1 = (a0.t.f).length) (hr0_1 : RO w (hkeys []) (RdL p0_1 c0_1 a0.t.f)) (hn0_2 : n0_2 = (a0.c).length) (hr0_2 : ROD w (hkeys []) p0_2 c0_2 a0.c) (hn1_0 : n1_0 = (a1.t.b).length) (hr1_0 : RO w (hkeys []) (RdL p1_0 c1_0 a1.t.b)) (hn1_1 : n1_1 = (a1.t.f).length) (hr1_1 : RO w (hkeys []) (RdL p1_1 c1_1 a1.t.f)) (hn1_2 : n1_2 = (a1.c).length) (hr1_2 : ROD w (hkeys []) p1_2 c1_2 a1.c) (r : Bool) (H0 : i_SystemSame fl a0 a1 = some r) :
  Ct Tryz.prog 7 [.agg #[.slice p0_0 n0_0 c0_0, .slice p0_1 n0_1 c0_1, .slice p0_2 n0_2 c0_2], .agg #[.slice p1_0 n1_0 c1_0, .slice p1_1 n1_1 c1_1, .slice p1_2 n1_2 c1_2]] w [] (fun rv h' => rv = .bool r ∧ h' = []) := by
 subst hn0_0 hn0_1 hn0_2 hn1_0 hn1_1 hn1_2
 unfold i_SystemSame at H0
 refine ct_of_cw Tryz.func7 rfl Tryz.ntmps7 rfl (Sat.refl _ _) ?_
 refine sr (oE (stpU_box 0 rfl rfl) rfl ?_)
 rintro _ _ ⟨b1, rfl, rfl⟩
 refine oE (stpU_box 1 rfl rfl) rfl ?_
 rintro _ _ ⟨b2, rfl, rfl⟩
 obtain ⟨x3, e3, H0⟩ := bS H0
 refine oS rfl (nn (sr (oA 0 Tryz.underlying29 rfl ts26 rfl (oB2 0 ts26 rfl (oA 0 Tryz.underlying29 rfl ts26 rfl (oB2 1 ts26 rfl (oE (stpU_call (fun i => 2 + i) cf16 (fun w hw => c_i_TableSame fl w a0.t a1.t rfl (RO.pass hr0_0 hw) rfl (RO.pass hr0_1 hw) rfl (RO.pass hr1_0 hw) rfl (RO.pass hr1_1 hw) x3 e3) (yB rfl rfl)) rfl ?_)))))))
 rintro _ _ ⟨_, ⟨rfl, rfl⟩, rfl⟩
 obtain ⟨y4, ey4, H0⟩ := bS H0
 refine oM rfl (ow_cutY 6 16 y4 ?_ ?_)
 ·rcases Bool.eq_false_or_eq_true x3 with hy4 | hy4
  ·have ey4 := cond_t ey4 hy4
   obtain ⟨x5, e5, ey4⟩ := bS ey4
   refine oG rfl hy4 (fA 2 Tryz.underlying29 rfl ts27 rfl rfl rfl) rfl (oG rfl hy4 (lB 0 ts27 rfl rfl rfl) rfl (oG rfl hy4 (fA 2 Tryz.underlying29 rfl ts27 rfl rfl rfl) rfl (oG rfl hy4 (lB 1 ts27 rfl rfl rfl) rfl (ow_eff (.some rfl hy4) (stpU_call (fun i => 2 + i) cf17 (fun w hw => c_slices_EqualFunc_Cpu_of_i_SystemSame_1 fl w a0.c a1.c rfl (ROD.pass hr0_2 hw) rfl (ROD.pass hr1_2 hw) x5 e5) (yC rfl rfl rfl)) rfl ?_))))
   rintro _ _ ⟨_, ⟨rfl, rfl⟩, rfl⟩
   refine oD (stp_pick_t rfl hy4 rfl) rfl ?_
   obtain rfl := sI ey4
   exact ow_nil (jy 6 0)
  have ey4 := cond_f ey4 hy4
  refine oO rfl hy4 rfl (oO rfl hy4 rfl (oO rfl hy4 rfl (oO rfl hy4 rfl (oO rfl hy4 rfl (oD (stp_pick_f rfl hy4 rfl) rfl ?_)))))
  obtain rfl := sI ey4
  exact ow_nil (jy 6 0)
 refine oS rfl (nn (cw_ret ?_))
 obtain rfl := sI H0
 exact kr Tryz.results7 (rT rfl) [] ⟨rfl, rfl⟩

theorem c_slices_Sort_Int (fl : Nat) (w : World) (a0 : (List Int)) (hn0_0 : n0_0 = (a0).length) (ho0_0 : OwnC 3 p0_0 c0_0 a0 C0_0) (hM : Sat w (hkeys [(0, C0_0)]) w [(0, C0_0)]) (r : (List Int)) (H0 : slices_Sort_Int fl a0 = some r) :
    Ct Tryz.prog 21 [.slice p0_0 n0_0 c0_0] w [(0, C0_0)] (fun rv h' => ∃ (D0 : Res), rv = .tuple #[] ∧ h' = [(0, D0)] ∧ n0_0 = (r).length ∧ OwnC 3 p0_0 c0_0 r D0) := by
  unfold slices_Sort_Int at H0
  split at H0
  · rename_i hb; obtain rfl := Option.some.inj H0
    exact sort_ct 3 w hn0_0 hb ho0_0 hM
  · cases H0

theorem c_slices_Compact_Int (fl : Nat) (w : World) (a0 : (List Int)) (hn0_0 : n0_0 = (a0).length) (ho0_0 : OwnC 3 p0_0 c0_0 a0 C0_0) (hM : Sat w (hkeys [(0, C0_0)]) w [(0, C0_0)]) (r : (List Int)) (H0 : slices_Compact_Int fl a0 = some r) :
    Ct Tryz.prog 23 [.slice p0_0 n0_0 c0_0] w [(0, C0_0)] (fun rv h' => ∃ (x1 : Option Addr) (y1 z1 : Nat) (C1 : Res), rv = .slice x1 y1 z1 ∧ h' = [(0, []), (1, C1)] ∧ y1 = (r).length ∧ OwnC 3 x1 z1 r C1) := by
  unfold slices_Compact_Int at H0
  split at H0
  · rename_i hb; obtain rfl := Option.some.inj H0
    exact compact_ct 3 w hn0_0 hb ho0_0 hM
  · cases H0

theorem c_i_HeldFrames (fl : Nat) (w : World) (a0 : Sy) (hn0_0 : n0_0 = (a0.t.b).length) (hr0_0 : RO w (hkeys []) (RdL p0_0 c0_0 a0.t.b)) (hn0_1 : n0_1 = (a0.t.f).length) (hr0_1 : RO w (hkeys []) (RdL p0_1 c0_1 a0.t.f)) (hn0_2 : n0_2 = (a0.c).length) (hr0_2 : ROD w (hkeys []) p0_2 c0_2 a0.c) (hg : RO w (hkeys []) (fun w' => w'.rangeAt 0 0 [.bool false, .int .i64 0, .int .i64 0, .int .i64 0, .int .i64 (-1)])) (r : (List Int)) (H0 : i_HeldFrames fl a0 = some r) :
  Ct Tryz.prog 8 [.agg #[.slice p0_0 n0_0 c0_0, .slice p0_1 n0_1 c0_1, .slice p0_2 n0_2 c0_2]] w [] (fun rv h' => ∃ (x0 : Option Addr) (y0 z0 : Nat) (C0 : Res), rv = .slice x0 y0 z0 ∧ h' = [(0, C0)] ∧ y0 = (r).length ∧ OwnC 3 x0 z0 r C0) := by
 subst hn0_0 hn0_1 hn0_2
 unfold i_HeldFrames at H0
 refine ct_of_cw Tryz.func8 rfl Tryz.ntmps8 rfl (Sat.refl _ _) ?_
 refine sr (oE (stpU_box 0 rfl rfl) rfl ?_)
 rintro _ _ ⟨b1, rfl, rfl⟩
 obtain ⟨x2, e2, H0⟩ := bS H0
 refine oS rfl (nn (cw_seq (sr (oB3 0 ts29 rfl (oE (stpU_call (fun i => 1 + i) cf20 (fun w hw => c_i_SystemValid fl w a0 rfl (RO.pass hr0_0 hw) rfl (RO.pass hr0_1 hw) rfl (ROD.pass hr0_2 hw) (RO.pass hg hw) x2 e2) (yA rfl)) rfl ?_)))))
 rintro _ _ ⟨_, ⟨rfl, rfl⟩, rfl⟩
 refine oK rfl (nn (cw_cond rfl (fun h3 => ?_) (fun h3 => ?_)))
 ·have H0 := cond_t H0 h3
  refine sr (oS rfl (nn (cw_ret (kw_nx_ret (kw_addNil 1 ?_)))))
  obtain rfl := sI H0
  exact kr Tryz.results8 (rT rfl) [1] ⟨_, _, _, _, rfl, rfl, rfl, (OwnC.nil _ _)⟩
 have H0 := cond_f H0 h3
 obtain ⟨o0_0, eo0_0, H0⟩ := bS H0
 refine cw_skip (kw_nx (sr (oS rfl (nn (cw_seq (sr (oA 2 Tryz.underlying29 rfl ts27 rfl (oL 0 ts27 rfl (oD (stp_len Tryz.underlying27 rfl) rfl (oM rfl (nn (cw_addNil 2 (cw_join (ι := Int × (List Int) × Option Addr × Nat × Nat × Res) (fun | (v4, v5, p6, n7, c8, C9) => o0_0 = .out (v4, v5) ∧ n7 = (v5).length ∧ OwnC 3 p6 c8 v5 C9) (fun | (v4, v5, p6, n7, c8, C9) => [(3, .slice p6 n7 c8), (12, .slice p0_2 ((a0.c).length) c0_2), (13, .int .i64 ((a0.c).length : Int)), (14, .int .i64 v4)]) (fun | (v4, v5, p6, n7, c8, C9) => [(1002, C9)]) ?_ ?_)))))))))))))
 ·refine cw_block (cw_loopS (ι := Nat × Int × (List Int) × Option Addr × Nat × Nat × Res) (js := [2]) (fun x => x.1) (fun | (fuel, v4, v5, p6, n7, c8, C9) => i_HeldFrames_L0 fl a0 fuel v4 v5 = some o0_0 ∧ n7 = (v5).length ∧ OwnC 3 p6 c8 v5 C9) (fun | (_, v4, v5, p6, n7, c8, C9) => [(3, .slice p6 n7 c8), (12, .slice p0_2 ((a0.c).length) c0_2), (13, .int .i64 ((a0.c).length : Int)), (14, .int .i64 v4)]) (fun | (_, v4, v5, p6, n7, c8, C9) => [(1002, C9)]) (fl, 0, [], none, 0, 0, []) ⟨eo0_0, rfl, (OwnC.nil _ _)⟩ ⟨rfl, rfl, rfl, rfl, trivial⟩ ⟨2, [], rfl, rfl, trivial⟩ (by decide) ?_)
  rintro ⟨fuel, v4, v5, p6, _, c8, C9⟩ ⟨H1, rfl, o9⟩
  have H1 : i_HeldFrames_L0 fl a0 fuel v4 v5 = some o0_0 := H1
  rcases fuel with _ | fuel
  ·rw [i_HeldFrames_L0.eq_1] at H1; cases H1
  rw [i_HeldFrames_L0.eq_2] at H1
  dsimp only
  refine sr (oW rfl (nn (cw_seq (cw_cond rfl (fun h10 => ?_) (fun h10 => ?_)))))
  ·have H1 := cond_t H1 h10
   obtain ⟨x11, e11, H1⟩ := bS H1
   refine cw_skip (kw_nx (cw_seq (cw_block (sr ?_))))
   obtain ⟨u12, p13, n14, c15, p16, n17, c18, hw12, hl12, hx12, rfl, hr12, rfl, hs12⟩ := ROD.get hr0_2 e11
   refine oD (stp_indexAddr Tryz.underlying27 ts37 (by decide) rfl hl12 rfl (Rdb.ro hw12) hx12) rfl (oD (stp_loadN (us := [_, _]) ts37 rfl (Cells.el (Rdb.ro hw12) (by decide) hx12 0 2 rfl)) rfl (oE (stpU_alloc 3 tz37 rfl) rfl ?_))
   rintro _ _ ⟨b19, rfl, rfl⟩
   obtain ⟨o1_1, eo1_1, H1⟩ := bS H1
   refine oC2 3 ts37 rfl rfl (nn (sr (oA 1 Tryz.underlying37 rfl ts35 rfl (oL 3 ts35 rfl (oD (stp_len Tryz.underlying35 rfl) rfl (oM rfl (nn (cw_join (ι := Int × (List Int) × Option Addr × Nat × Nat × Res) (fun | (v20, v21, p22, n23, c24, C25) => o1_1 = .out (v20, v21) ∧ n23 = (v21).length ∧ OwnC 3 p22 c24 v21 C25) (fun | (v20, v21, p22, n23, c24, C25) => [(3, .slice p22 n23 c24), (12, .slice p0_2 ((a0.c).length) c0_2), (13, .int .i64 ((a0.c).length : Int)), (14, .int .i64 v4), (19, .slice p16 ((x11.w).length) c18), (20, .int .i64 ((x11.w).length : Int)), (21, .int .i64 v20)]) (fun | (v20, v21, p22, n23, c24, C25) => [(1002, C25)]) ?_ ?_))))))))
   ·refine cw_block (cw_loopS (ι := Nat × Int × (List Int) × Option Addr × Nat × Nat × Res) (js := [1002]) (fun x => x.1) (fun | (fuel, v20, v21, p22, n23, c24, C25) => i_HeldFrames_L1 fl x11 fuel v20 v21 = some o1_1 ∧ n23 = (v21).length ∧ OwnC 3 p22 c24 v21 C25) (fun | (_, v20, v21, p22, n23, c24, C25) => [(3, .slice p22 n23 c24), (12, .slice p0_2 ((a0.c).length) c0_2), (13, .int .i64 ((a0.c).length : Int)), (14, .int .i64 v4), (19, .slice p16 ((x11.w).length) c18), (20, .int .i64 ((x11.w).length : Int)), (21, .int .i64 v20)]) (fun | (_, v20, v21, p22, n23, c24, C25) => [(1002, C25)]) (fl, 0, v5, p6, ((v5).length), c8, C9) ⟨eo1_1, rfl, o9⟩ ⟨rfl, rfl, rfl, rfl, rfl, rfl, rfl, trivial⟩ ⟨1002, [], rfl, rfl, trivial⟩ (by decide) ?_)
    rintro ⟨fuel, v20, v21, p22, _, c24, C25⟩ ⟨H2, rfl, o25⟩
    have H2 : i_HeldFrames_L1 fl x11 fuel v20 v21 = some o1_1 := H2
    rcases fuel with _ | fuel
    ·rw [i_HeldFrames_L1.eq_1] at H2; cases H2
    rw [i_HeldFrames_L1.eq_2] at H2
    dsimp only
    refine sr (oW rfl (nn (cw_seq (cw_cond rfl (fun h26 => ?_) (fun h26 => ?_)))))
    ·have H2 := cond_t H2 h26
     obtain ⟨x27, e27, H2⟩ := bS H2
     refine cw_skip (kw_nx (cw_seq (cw_block (sr (oD (stp_indexAddr Tryz.underlying35 ts52 (by decide) rfl rfl rfl (Rdb.ro hs12) e27) rfl (oD (stp_loadN (us := [_, _, _]) ts52 rfl (Cells.el (Rdb.ro hs12) (by decide) e27 0 3 rfl)) rfl (oE (stpU_alloc 4 tz52 rfl) rfl ?_)))))))
     rintro _ _ ⟨b28, rfl, rfl⟩
     refine oC3 4 ts52 rfl rfl (nn (cw_region (oM rfl (oA 2 Tryz.underlying52 rfl ts3 rfl (oL 4 ts3 rfl (oE (stpU_lit (sz := 1) (l := [x27.fr]) [.int .i64 x27.fr] sl23 5 (sevp_cons rfl sevp_nil) rfl rfl rfl rfl rfl rfl rfl rfl rfl) rfl ?_))))))
     rintro _ _ ⟨p29, C30, rfl, rfl, o30⟩
     obtain ⟨x31, e31, H2⟩ := bS H2
     refine oE (stpU_append sl23 rfl (id := 1002) rfl rfl rfl (by simp) rfl o25 (Rdb.own (id := 5) rfl o30) e31) rfl ?_
     rintro _ _ ⟨p32, c33, C34, rfl, rfl, o34⟩
     obtain ⟨x35, e35, H2⟩ := bS H2
     exact oS rfl (ow_nil (kw_bl_normal (kw_nx (cw_region (oP e35 rfl (oM rfl (ow_nil (kw_lqS (js := [1002]) (fuel, x35, x31, p32, ((x31).length), c33, C34) ⟨H2, rfl, o34⟩ (Nat.lt_succ_self _) ⟨rfl, rfl, rfl, rfl, rfl, rfl, rfl, trivial⟩ ⟨1002, [], rfl, rfl, trivial⟩ (by decide)))))))))
    have H2 := cond_f H2 h26
    refine cw_exit (kw_nx_exit (kw_lq_exit (kw_bl ?_)))
    obtain rfl := sI H2
    exact kw_joinS (js := [1002]) (v20, v21, p22, ((v21).length), c24, C25) ⟨rfl, rfl, o25⟩ ⟨rfl, rfl, rfl, rfl, rfl, rfl, rfl, trivial⟩ ⟨1002, [], rfl, rfl, trivial⟩ (by decide)
   rintro ⟨v20, v21, p22, _, c24, C25⟩ ⟨rfl, rfl, o25⟩
   dsimp only
   obtain ⟨x36, e36, H1⟩ := bS H1
   exact kw_bl_normal (kw_nx (cw_region (oP e36 rfl (oM rfl (ow_nil (kw_lqS (js := [1002]) (fuel, x36, v21, p22, ((v21).length), c24, C25) ⟨H1, rfl, o25⟩ (Nat.lt_succ_self _) ⟨rfl, rfl, rfl, rfl, trivial⟩ ⟨1002, [], rfl, rfl, trivial⟩ (by decide)))))))
  have H1 := cond_f H1 h10
  refine cw_exit (kw_nx_exit (kw_lq_exit (kw_bl ?_)))
  obtain rfl := sI H1
  exact kw_joinS (js := [1002]) (v4, v5, p6, ((v5).length), c8, C9) ⟨rfl, rfl, o9⟩ ⟨rfl, rfl, rfl, rfl, trivial⟩ ⟨1002, [], rfl, rfl, trivial⟩ (by decide)
 rintro ⟨v4, v5, p6, _, c8, C9⟩ ⟨rfl, rfl, o9⟩
 dsimp only
 obtain ⟨x37, e37, H0⟩ := bS H0
 refine kw_nx (sr (oM rfl (oE (stpU_callM (fun i => bif Nat.beq i 0 then 1002 else 6 + i) cf21 (fun w hw hb => c_slices_Sort_Int fl w v5 rfl o9 (hw.pass (js := [1002]) ⟨1002, [], rfl, rfl, trivial⟩ (by decide)) x37 e37) (yA rfl) ⟨rfl, (fun _ _ hp => by obtain ⟨_, _, rfl, _⟩ := hp; exact ⟨_, rfl⟩), trivial⟩) rfl ?_)))
 rintro _ _ ⟨_, ⟨C38, rfl, rfl, hl38, o38⟩, rfl⟩
 obtain ⟨x39, e39, H0⟩ := bS H0
 refine nn (sr (oM rfl (oE (stpU_callM (fun i => bif Nat.beq i 0 then 1002 else 7 + i) cf23 (fun w hw hb => c_slices_Compact_Int fl w x37 (by simp [hl38]) o38 (hw.pass (js := [1002]) ⟨1002, [], rfl, rfl, trivial⟩ (by decide)) x39 e39) (yA rfl) ⟨rfl, (fun _ _ hp => by obtain ⟨_, _, _, _, _, rfl, _⟩ := hp; exact ⟨_, rfl⟩), trivial⟩) rfl ?_)))
 rintro _ _ ⟨_, ⟨p40, _, c42, C43, rfl, rfl, rfl, o43⟩, rfl⟩
 refine oE (stpU_call (fun i => i) cf22 (fun w hw => c_clip22 w p40 ((x39).length) c42 (OwnC.len o43).1) (yA rfl)) rfl ?_
 rintro _ _ ⟨_, ⟨rfl, rfl⟩, rfl⟩
 refine oS rfl (nn (cw_ret ?_))
 obtain rfl := sI H0
 exact kr Tryz.results8 (rT rfl) [8] ⟨_, _, _, _, rfl, rfl, rfl, (OwnC.clip o43)⟩
end Go.Proofs.YtciliaiocakdkaaGreatDoor
