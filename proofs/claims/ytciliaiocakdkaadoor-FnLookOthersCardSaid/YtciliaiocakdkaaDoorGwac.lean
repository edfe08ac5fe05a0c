/- The walks: functions of the program return what their pure functions say. Printed by a program (gen.py). -/
import Derived.Test.YtciliaiocakdkaaDoorGp
import Derived.Test.YtciliaiocakdkaaDoorGt
import Derived.Test.YtciliaiocakdkaaDoorMan
import Derived.Test.YtciliaiocakdkaaDoorMap
import Derived.Test.YtciliaiocakdkaaDoorCpy
import Derived.Test.YtciliaiocakdkaaDoorClr
import Derived.Test.YtciliaiocakdkaaDoorDp
import Derived.Test.YtciliaiocakdkaaDoorSd
import Derived.Test.YtciliaiocakdkaaDoorGe
import Derived.Test.YtciliaiocakdkaaDoorGwaa
import Derived.Test.YtciliaiocakdkaaDoorGwab
import Derived.Test.YtciliaiocakdkaaDoorGws
set_option linter.unusedSimpArgs false
set_option linter.unusedVariables false
set_option linter.unusedSectionVars false
namespace Go.Proofs.YtciliaiocakdkaaDoor
open Go.RowKit
set_option maxHeartbeats 4000000
set_option maxRecDepth 20000
variable {p0_0 p0_1 p0_2 p1_0 p1_1 p1_2 : Option Addr} {n0_0 n0_1 n0_2 n1_0 n1_1 n1_2 : Nat} {c0_0 c0_1 c0_2 c1_0 c1_1 c1_2 : Nat} {C0_0 : Res}
theorem c_s_l8At (fl : Nat) (w : World) (a0 : (List UInt8)) (hn0_0 : n0_0 = (a0).length) (hr0_0 : RO w (hkeys []) (RdL p0_0 c0_0 a0)) (r : Sy × Int × K) (H0 : s_l8At fl a0 = some r) :
  Ct Tryd.prog 28 [.slice p0_0 n0_0 c0_0] w [] (fun rv h' => ∃ (x0 : Option Addr) (y0 z0 : Nat) (C0 : Res) (x1 : Option Addr) (y1 z1 : Nat) (C1 : Res) (x2 : Option Addr) (y2 z2 : Nat) (C2 : Res), rv = .tuple #[.agg #[.slice x0 y0 z0, .slice x1 y1 z1, .slice x2 y2 z2], .int .i64 r.2.1, .agg #[.int .i64 r.2.2.s, .int .i64 r.2.2.p]] ∧ h' = [(0, C0), (1, C1), (2, C2)] ∧ y0 = (r.1.t.b).length ∧ OwnC 3 x0 z0 r.1.t.b C0 ∧ y1 = (r.1.t.f).length ∧ OwnC 61 x1 z1 r.1.t.f C1 ∧ y2 = (r.1.c).length ∧ OwnD 43 53 x2 z2 r.1.c C2) := by
 subst hn0_0
 unfold s_l8At at H0
 refine ct_of_cw Tryd.func28 rfl Tryd.ntmps28 rfl (Sat.refl _ _) ?_
 refine sr (oE (stpU_alloc 0 tz29 rfl) rfl ?_)
 rintro _ _ ⟨b1, rfl, rfl⟩
 refine oS rfl (oE (stpU_alloc 1 tz36 rfl) rfl ?_)
 rintro _ _ ⟨b2, rfl, rfl⟩
 refine nn (sr (oM rfl (oE (stpU_call (fun i => 2 + i) cf12 (fun w hw => c_open12 w a0 p0_0 ((a0).length) c0_0 rfl (RO.cap hr0_0).1) (yA rfl)) rfl ?_)))
 rintro _ _ ⟨_, ⟨b3, rfl, rfl⟩, rfl⟩
 obtain ⟨x4, e4, H0⟩ := bS H0
 refine oS rfl (nn (sr (oM rfl (oE (stpU_callM (fun i => bif Nat.beq i 0 then 2 else 3 + i) cf13 (fun w hw hb => c_s_l8Draw fl w b3 (a0.take 2000) 0 rfl (RO.passM (RO.takeN 2000 hr0_0) hw hb) (hw.pass (js := [2]) ⟨2, [], rfl, rfl, trivial⟩ (by decide)) x4 e4) (yA rfl) ⟨rfl, (fun _ _ hp => by obtain ⟨_, _, _, _, _, _, _, _, _, _, _, _, _, rfl, _⟩ := hp; exact ⟨_, rfl⟩), trivial⟩) rfl ?_))))
 rintro _ _ ⟨_, ⟨p5, _, c7, C8, p9, _, c11, C12, p13, _, c15, C16, rfl, rfl, rfl, o8, rfl, o12, rfl, o16⟩, rfl⟩
 refine oE (stpU_alloc 7 tz29 rfl) rfl ?_
 rintro _ _ ⟨b17, rfl, rfl⟩
 obtain ⟨x18, e18, H0⟩ := bS H0
 refine oC3 7 ts29 rfl rfl (nn (sr (oM rfl (oA 2 Tryd.underlying29 rfl ts27 rfl (oL 7 ts27 rfl (oD (stp_len Tryd.underlying27 rfl) rfl (oE (stpU_callM (fun i => bif Nat.beq i 0 then 2 else 8 + i) cf14 (fun w hw hb => c_s_l12Rd_pick fl w b3 (a0.take 2000) x4.2 ((x4.1.c).length : Int) rfl (RO.passM (RO.takeN 2000 hr0_0) hw hb) (hw.pass (js := [2]) ⟨2, [], rfl, rfl, trivial⟩ (by decide)) x18 e18) (yB rfl rfl) ⟨rfl, (fun _ _ hp => by obtain ⟨_, rfl⟩ := hp; exact ⟨_, rfl⟩), trivial⟩) rfl ?_)))))))
 rintro _ _ ⟨_, ⟨rfl, rfl⟩, rfl⟩
 obtain ⟨x19, e19, H0⟩ := bS H0
 refine oS rfl (nn (sr (oM rfl (oE (stpU_callM (fun i => bif Nat.beq i 0 then 2 else 9 + i) cf57 (fun w hw hb => c_s_l2Case fl w b3 (a0.take 2000) x18.2 rfl (RO.passM (RO.takeN 2000 hr0_0) hw hb) (hw.pass (js := [2]) ⟨2, [], rfl, rfl, trivial⟩ (by decide)) x19 e19) (yA rfl) ⟨rfl, (fun _ _ hp => by obtain ⟨_, rfl⟩ := hp; exact ⟨_, rfl⟩), trivial⟩) rfl ?_))))
 rintro _ _ ⟨_, ⟨rfl, rfl⟩, rfl⟩
 refine oE (stpU_alloc 10 tz36 rfl) rfl ?_
 rintro _ _ ⟨b20, rfl, rfl⟩
 obtain ⟨x21, e21, H0⟩ := bS H0
 refine oC2 10 ts36 rfl rfl (nn (sr (oA 0 Tryd.underlying29 rfl ts26 rfl (oB2 7 ts26 rfl (oE (stpU_call (fun i => 11 + i) cf44 (fun w hw => c_s_KeysOf fl w x4.1.t rfl (OwnC.pass (id := 4) rfl o8 hw) rfl (OwnC.pass (id := 5) rfl o12 hw) x21 e21) (yA rfl)) rfl ?_)))))
 rintro _ _ ⟨_, ⟨p22, _, c24, C25, rfl, rfl, rfl, o25⟩, rfl⟩
 obtain ⟨y26, ey26, H0⟩ := bS H0
 refine oS rfl (nn (cw_seq (sr (oM rfl (oD (stp_len Tryd.underlying78 rfl) rfl (oJ rfl (oM rfl (ow_cut (ι := Unit) 4 (fun _ => True) (fun _ => [(0, .slice p0_0 ((a0).length) c0_0), (2, .pointer (some ⟨b1, 0, none⟩)), (3, .int .i64 0), (4, .pointer (some ⟨b2, 0, none⟩)), (5, .pointer (some ⟨b3, 0, none⟩)), (6, .pointer (some ⟨b17, 0, none⟩)), (7, .int .i64 x18.1), (8, .pointer (some ⟨b20, 0, none⟩)), (9, .slice p22 ((x21).length) c24), (10, .slice p0_0 ((a0).length) c0_0), (11, .pointer (some ⟨b3, 0, none⟩)), (12, .pointer (some ⟨b3, 0, none⟩)), (13, .agg #[.slice p5 ((x4.1.t.b).length) c7, .slice p9 ((x4.1.t.f).length) c11, .slice p13 ((x4.1.c).length) c15]), (14, .pointer (some ⟨b3, 0, none⟩)), (15, .pointer (some ⟨b17, 2, none⟩)), (16, .slice p13 ((x4.1.c).length) c15), (17, .int .i64 ((x4.1.c).length : Int)), (18, .int .i64 x18.1), (19, .pointer (some ⟨b3, 0, none⟩)), (20, .agg #[.int .i64 x19.1.s, .int .i64 x19.1.p]), (21, .pointer (some ⟨b17, 0, none⟩)), (22, .agg #[.slice p5 ((x4.1.t.b).length) c7, .slice p9 ((x4.1.t.f).length) c11]), (23, .slice p22 ((x21).length) c24), (24, .slice p22 ((x21).length) c24), (25, .int .i64 ((x21).length : Int)), (26, .bool (decide (0 < ((x21).length : Int)))), (27, .bool (decide (0 < ((x21).length : Int)))), (31, .bool y26.1)]) (fun _ => [(0, [(b1, .cells #[.slice none 0 0, .slice none 0 0, .slice none 0 0] 29 (0, 0))]), (1, [(b2, .cells #[.int .i64 0, .int .i64 0] 36 (0, 0))]), (2, [(b3, .cells #[.slice p0_0 (((a0.take 2000)).length) c0_0, .int .i64 y26.2] 72 (0, 0))]), (4, C8), (5, C12), (6, C16), (7, [(b17, .cells #[.slice p5 ((x4.1.t.b).length) c7, .slice p9 ((x4.1.t.f).length) c11, .slice p13 ((x4.1.c).length) c15] 29 (0, 0))]), (10, [(b20, .cells #[.int .i64 x19.1.s, .int .i64 x19.1.p] 36 (0, 0))]), (11, C25)]) ?_ (fun _ _ => ?_)))))))))
 ·rcases Bool.eq_false_or_eq_true (decide (0 < ((x21).length : Int))) with hy26 | hy26
  ·have ey26 := cond_t ey26 hy26
   obtain ⟨x27, e27, ey26⟩ := bS ey26
   refine oG rfl hy26 (mv rfl) rfl (ow_eff (.some rfl hy26) (stpU_callM (fun i => bif Nat.beq i 0 then 2 else 12 + i) cf14 (fun w hw hb => c_s_l12Rd_pick fl w b3 (a0.take 2000) x19.2 2 rfl (RO.passM (RO.takeN 2000 hr0_0) hw hb) (hw.pass (js := [2]) ⟨2, [], rfl, rfl, trivial⟩ (by decide)) x27 e27) (yB rfl rfl) ⟨rfl, (fun _ _ hp => by obtain ⟨_, rfl⟩ := hp; exact ⟨_, rfl⟩), trivial⟩) rfl ?_)
   rintro _ _ ⟨_, ⟨rfl, rfl⟩, rfl⟩
   refine oG rfl hy26 (stp_eql rfl rfl) rfl (oD (stp_pick_t rfl hy26 rfl) rfl ?_)
   obtain rfl := sI ey26
   exact ow_nil (kw_join () trivial ⟨rfl, rfl, rfl, rfl, rfl, rfl, rfl, rfl, rfl, rfl, rfl, rfl, rfl, rfl, rfl, rfl, rfl, rfl, rfl, rfl, rfl, rfl, rfl, rfl, rfl, rfl, rfl, rfl, trivial⟩ ⟨rfl, rfl, rfl, rfl, rfl, rfl, rfl, rfl, rfl, trivial⟩)
  have ey26 := cond_f ey26 hy26
  refine oO rfl hy26 rfl (oO rfl hy26 rfl (oO rfl hy26 rfl (oD (stp_pick_f rfl hy26 rfl) rfl ?_)))
  obtain rfl := sI ey26
  exact ow_nil (kw_join () trivial ⟨rfl, rfl, rfl, rfl, rfl, rfl, rfl, rfl, rfl, rfl, rfl, rfl, rfl, rfl, rfl, rfl, rfl, rfl, rfl, rfl, rfl, rfl, rfl, rfl, rfl, rfl, rfl, rfl, trivial⟩ ⟨rfl, rfl, rfl, rfl, rfl, rfl, rfl, rfl, rfl, trivial⟩)
 refine ow_nil (kw_nx (cw_cond rfl (fun h28 => ?_) (fun h28 => ?_)))
 ·have H0 := cond_t H0 h28
  obtain ⟨x29, e29, H0⟩ := bS H0
  refine cw_region (oM rfl (oM rfl (oM rfl (oD (stp_len Tryd.underlying78 rfl) rfl (oE (stpU_callM (fun i => bif Nat.beq i 0 then 2 else 13 + i) cf14 (fun w hw hb => c_s_l12Rd_pick fl w b3 (a0.take 2000) y26.2 ((x21).length : Int) rfl (RO.passM (RO.takeN 2000 hr0_0) hw hb) (hw.pass (js := [2]) ⟨2, [], rfl, rfl, trivial⟩ (by decide)) x29 e29) (yB rfl rfl) ⟨rfl, (fun _ _ hp => by obtain ⟨_, rfl⟩ := hp; exact ⟨_, rfl⟩), trivial⟩) rfl ?_)))))
  rintro _ _ ⟨_, ⟨rfl, rfl⟩, rfl⟩
  obtain ⟨x30, e30, H0⟩ := bS H0
  obtain ⟨x31, e31, H0⟩ := bS H0
  refine oD (stp_indexAddr Tryd.underlying78 ts36 (by decide) rfl rfl rfl (Rdb.own (id := 11) rfl o25) e30) rfl (oD (stp_loadN (us := [_, _]) ts36 rfl (Cells.el (Rdb.own (id := 11) rfl o25) (by decide) e30 0 2 rfl)) rfl (oC2 10 ts36 rfl rfl (nn (cw_seq (sr (oM rfl (oE (stpU_callM (fun i => bif Nat.beq i 0 then 2 else 14 + i) cf14 (fun w hw hb => c_s_l12Rd_pick fl w b3 (a0.take 2000) x29.2 20 rfl (RO.passM (RO.takeN 2000 hr0_0) hw hb) (hw.pass (js := [2]) ⟨2, [], rfl, rfl, trivial⟩ (by decide)) x31 e31) (yB rfl rfl) ⟨rfl, (fun _ _ hp => by obtain ⟨_, rfl⟩ := hp; exact ⟨_, rfl⟩), trivial⟩) rfl ?_)))))))
  rintro _ _ ⟨_, ⟨rfl, rfl⟩, rfl⟩
  refine oQ rfl (nn (cw_cond rfl (fun h32 => ?_) (fun h32 => ?_)))
  ·have H0 := cond_t H0 h32
   refine cw_region (oM rfl (oE (stpU_lit (sz := 1) (l := [(-1), 4]) [.int .i64 (-1), .int .i64 4] sl23 15 (sevp_cons rfl (sevp_cons rfl sevp_nil)) rfl rfl rfl rfl rfl rfl rfl rfl rfl) rfl ?_))
   rintro _ _ ⟨p33, C34, rfl, rfl, o34⟩
   obtain ⟨x35, e35, H0⟩ := bS H0
   refine oE (stpU_callM (fun i => bif Nat.beq i 0 then 2 else 16 + i) cf41 (fun w hw hb => c_s_l12Rd_num fl w b3 (a0.take 2000) x31.2 ([(-1), 4]) rfl (RO.passM (RO.takeN 2000 hr0_0) hw hb) (by simp) (OwnC.passM (id := 15) rfl o34 hw hb ⟨rfl, trivial⟩) (hw.pass (js := [2]) ⟨2, [], rfl, rfl, trivial⟩ (by decide)) x35 e35) (yB rfl rfl) ⟨rfl, (fun _ _ hp => by obtain ⟨_, rfl⟩ := hp; exact ⟨_, rfl⟩), trivial⟩) rfl ?_
   rintro _ _ ⟨_, ⟨rfl, rfl⟩, rfl⟩
   obtain ⟨x36, e36, H0⟩ := bS H0
   refine oS rfl (nn (cw_seq (rdq g_mixed [2, 4, 5, 6, 7, 8] [0, 1, 2, 4, 5, 6, 7, 10] { dst := dS [77, 78, 79, 80, 81, 0, 4, 0], pre := gA [] [[], [], [0, 1], [], [], [0, 1, 2], [0, 1, 2, 3, 5], rn 0 7], ids := gA [] [[], [], [2, 18, 19, 20], [], [], [0], [], [1]], rs := rL [[(5, 0)], [(6, 0)], [(76, 1), (77, 2)], [(7, 0)], [(8, 0)], [(2, 0), (78, 3)], [(79, 4)], [(4, 0), (80, 5)]], rh := rL [[], [(7, 0)], [(2, 0), (4, 0), (5, 0), (6, 0)], [], [(10, 0)], [(0, 0)], [], [(1, 0)]], V := fun i g => gA undef [.pointer (some ⟨b3, 0, none⟩), .agg #[.slice p5 ((x4.1.t.b).length) c7, .slice p9 ((x4.1.t.f).length) c11, .slice p13 ((x4.1.c).length) c15], .agg #[.slice ((g 2).A 0) ((x36.1.t.b).length) ((g 2).C 0), .slice ((g 2).A 1) ((x36.1.t.f).length) ((g 2).C 1), .slice ((g 2).A 2) ((x36.1.c).length) ((g 2).C 2)], .int .i64 x35.1, .agg #[.int .i64 x30.s, .int .i64 x30.p], undef, .int .i64 x35.1] i, U := fun i g => gA [] [[], [], [(2, [(b3, .cells #[.slice p0_0 (((a0.take 2000)).length) c0_0, .int .i64 x36.2] 72 (0, 0))]), (18, ((g 2).R 0)), (19, ((g 2).R 1)), (20, ((g 2).R 2))], [], [], [(0, [(b1, .cells #[.slice ((g 2).A 0) ((x36.1.t.b).length) ((g 2).C 0), .slice ((g 2).A 1) ((x36.1.t.f).length) ((g 2).C 1), .slice ((g 2).A 2) ((x36.1.c).length) ((g 2).C 2)] 29 (0, 0))])], [], [(1, [(b2, .cells #[.int .i64 x30.s, .int .i64 x30.p] 36 (0, 0))])]] i, Φ := fun i x => gA True [True, True, OwnC 3 (x.A 0) (x.C 0) x36.1.t.b (x.R 0) ∧ OwnC 61 (x.A 1) (x.C 1) x36.1.t.f (x.R 1) ∧ OwnD 43 53 (x.A 2) (x.C 2) x36.1.c (x.R 2)] i } ?_ ?_)))
   ·refine ⟨lM, lc rfl rfl fun hs hh => stp_loadN (us := [_, _, _]) ts29 (sv hs 6 rfl) (Cells.box (id := 7) (hh.get 7 _ rfl) 3 rfl), ?_, lM, lc rfl rfl fun hs hh => stp_loadN (us := [_, _]) ts36 (sv hs 8 rfl) (Cells.box (id := 10) (hh.get 10 _ rfl) 2 rfl), ?_, lS, ?_, trivial⟩
    ·refine le rfl rfl (fun g hΦ s h hs hh => (stpU_callM (fun i => bif Nat.beq i 0 then 2 else 17 + i) cf16 (fun w hw hb => c_s_l8Wrong fl w b3 (a0.take 2000) x35.2 x4.1 rfl (RO.passM (RO.takeN 2000 hr0_0) hw hb) rfl (OwnC.passM (id := 4) (hh.get 4 _ rfl) o8 hw hb ⟨rfl, trivial⟩) rfl (OwnC.passM (id := 5) (hh.get 5 _ rfl) o12 hw hb ⟨rfl, trivial⟩) rfl (OwnD.passM (id := 6) (hh.get 6 _ rfl) o16 hw hb ⟨rfl, trivial⟩) (hw.pass (js := [2]) ⟨2, [], rfl, (hh.get 2 _ rfl), trivial⟩ (by decide)) x36 e36) (yB (sv hs 76 rfl) (sv hs 77 rfl)) ⟨(hh.get 2 _ rfl), (fun _ _ hp => by obtain ⟨_, _, _, _, _, _, _, _, _, _, _, _, _, rfl, _⟩ := hp; exact ⟨_, rfl⟩), trivial⟩)) ?_
     rintro g _ _ ⟨_, ⟨p37, _, c39, C40, p41, _, c43, C44, p45, _, c47, C48, rfl, rfl, rfl, o40, rfl, o44, rfl, o48⟩, rfl⟩
     exact ⟨⟨[p37, p41, p45], [c39, c43, c47], [C40, C44, C48]⟩, ⟨o40, o44, o48⟩, .inr rfl, rfl⟩
    ·refine le rfl rfl (fun g hΦ s h hs hh => (stpU_store (id := 0) (cs' := [.slice ((g 2).A 0) ((x36.1.t.b).length) ((g 2).C 0), .slice ((g 2).A 1) ((x36.1.t.f).length) ((g 2).C 1), .slice ((g 2).A 2) ((x36.1.c).length) ((g 2).C 2)]) ts29 (sv hs 2 rfl) (sv hs 78 rfl) (hh.get 0 _ rfl) rfl rfl rfl rfl)) ?_
     rintro g _ _ rfl
     exact ⟨⟨[], [], []⟩, trivial, .inl rfl, rfl⟩
    refine le rfl rfl (fun g hΦ s h hs hh => (stpU_store (id := 1) (cs' := [.int .i64 x30.s, .int .i64 x30.p]) ts36 (sv hs 4 rfl) (sv hs 80 rfl) (hh.get 1 _ rfl) rfl rfl rfl rfl)) ?_
    rintro g _ _ rfl
    exact ⟨⟨[], [], []⟩, trivial, .inl rfl, rfl⟩
   intro g hΦ
   refine kw_gen (ι := Option Addr × Option Addr × Option Addr × Nat × Nat × Nat × Res × Res × Res) (((g 2).A 0), ((g 2).A 1), ((g 2).A 2), ((g 2).C 0), ((g 2).C 1), ((g 2).C 2), ((g 2).R 0), ((g 2).R 1), ((g 2).R 2)) (fun | (p37, p41, p45, c39, c43, c47, C40, C44, C48) => OwnC 3 p37 c39 x36.1.t.b C40 ∧ OwnC 61 p41 c43 x36.1.t.f C44 ∧ OwnD 43 53 p45 c47 x36.1.c C48) (fun | (p37, p41, p45, c39, c43, c47, C40, C44, C48) => [(2, .pointer (some ⟨b1, 0, none⟩)), (3, .int .i64 x35.1), (4, .pointer (some ⟨b2, 0, none⟩))]) (fun | (p37, p41, p45, c39, c43, c47, C40, C44, C48) => [(0, [(b1, .cells #[.slice p37 ((x36.1.t.b).length) c39, .slice p41 ((x36.1.t.f).length) c43, .slice p45 ((x36.1.c).length) c47] 29 (0, 0))]), (1, [(b2, .cells #[.int .i64 x30.s, .int .i64 x30.p] 36 (0, 0))]), (18, C40), (19, C44), (20, C48)]) ⟨(hΦ 2 (by decide)).1, (hΦ 2 (by decide)).2.1, (hΦ 2 (by decide)).2.2⟩ ⟨rfl, rfl, rfl, trivial⟩ ⟨rfl, rfl, rfl, rfl, rfl, trivial⟩ ?_
   rintro ⟨p37, p41, p45, c39, c43, c47, C40, C44, C48⟩ ⟨o40, o44, o48⟩
   dsimp only
   refine kw_nx (cw_ret ?_)
   obtain rfl := sI H0
   exact kr Tryd.results28 (.cons (.cellN (us := [_, _, _]) ts29 rfl (Cells.box (id := 0) rfl 3 rfl)) (.cons (.tmp rfl) (rC2 1 ts36 rfl rfl))) [18, 19, 20] ⟨_, _, _, _, _, _, _, _, _, _, _, _, rfl, rfl, rfl, o40, rfl, o44, rfl, o48⟩
  have H0 := cond_f H0 h32
  obtain ⟨x49, e49, H0⟩ := bS H0
  refine cw_skip (kw_nx (cw_seq (rdq g_mixed [2, 4, 5, 6, 7, 8] [0, 1, 2, 4, 5, 6, 7, 10] { dst := dS [77, 78, 79, 80, 81, 0, 4, 0], pre := gA [] [[], [], [0, 1], [], [], [0, 1, 2], [0, 1, 2, 3, 5], rn 0 7], ids := gA [] [[], [], [2, 22, 23, 24], [], [], [0], [], [1]], rs := rL [[(5, 0)], [(6, 0)], [(76, 1), (77, 2)], [(7, 0)], [(8, 0)], [(2, 0), (78, 3)], [(79, 4)], [(4, 0), (80, 5)]], rh := rL [[], [(7, 0)], [(2, 0), (4, 0), (5, 0), (6, 0)], [], [(10, 0)], [(0, 0)], [], [(1, 0)]], V := fun i g => gA undef [.pointer (some ⟨b3, 0, none⟩), .agg #[.slice p5 ((x4.1.t.b).length) c7, .slice p9 ((x4.1.t.f).length) c11, .slice p13 ((x4.1.c).length) c15], .agg #[.slice ((g 2).A 0) ((x49.1.t.b).length) ((g 2).C 0), .slice ((g 2).A 1) ((x49.1.t.f).length) ((g 2).C 1), .slice ((g 2).A 2) ((x49.1.c).length) ((g 2).C 2)], .int .i64 x18.1, .agg #[.int .i64 x30.s, .int .i64 x30.p], undef, .int .i64 x18.1] i, U := fun i g => gA [] [[], [], [(2, [(b3, .cells #[.slice p0_0 (((a0.take 2000)).length) c0_0, .int .i64 x49.2] 72 (0, 0))]), (22, ((g 2).R 0)), (23, ((g 2).R 1)), (24, ((g 2).R 2))], [], [], [(0, [(b1, .cells #[.slice ((g 2).A 0) ((x49.1.t.b).length) ((g 2).C 0), .slice ((g 2).A 1) ((x49.1.t.f).length) ((g 2).C 1), .slice ((g 2).A 2) ((x49.1.c).length) ((g 2).C 2)] 29 (0, 0))])], [], [(1, [(b2, .cells #[.int .i64 x30.s, .int .i64 x30.p] 36 (0, 0))])]] i, Φ := fun i x => gA True [True, True, OwnC 3 (x.A 0) (x.C 0) x49.1.t.b (x.R 0) ∧ OwnC 61 (x.A 1) (x.C 1) x49.1.t.f (x.R 1) ∧ OwnD 43 53 (x.A 2) (x.C 2) x49.1.c (x.R 2)] i } ?_ ?_)))
  ·refine ⟨lM, lc rfl rfl fun hs hh => stp_loadN (us := [_, _, _]) ts29 (sv hs 6 rfl) (Cells.box (id := 7) (hh.get 7 _ rfl) 3 rfl), ?_, lM, lc rfl rfl fun hs hh => stp_loadN (us := [_, _]) ts36 (sv hs 8 rfl) (Cells.box (id := 10) (hh.get 10 _ rfl) 2 rfl), ?_, lS, ?_, trivial⟩
   ·refine le rfl rfl (fun g hΦ s h hs hh => (stpU_callM (fun i => bif Nat.beq i 0 then 2 else 21 + i) cf16 (fun w hw hb => c_s_l8Wrong fl w b3 (a0.take 2000) x31.2 x4.1 rfl (RO.passM (RO.takeN 2000 hr0_0) hw hb) rfl (OwnC.passM (id := 4) (hh.get 4 _ rfl) o8 hw hb ⟨rfl, trivial⟩) rfl (OwnC.passM (id := 5) (hh.get 5 _ rfl) o12 hw hb ⟨rfl, trivial⟩) rfl (OwnD.passM (id := 6) (hh.get 6 _ rfl) o16 hw hb ⟨rfl, trivial⟩) (hw.pass (js := [2]) ⟨2, [], rfl, (hh.get 2 _ rfl), trivial⟩ (by decide)) x49 e49) (yB (sv hs 76 rfl) (sv hs 77 rfl)) ⟨(hh.get 2 _ rfl), (fun _ _ hp => by obtain ⟨_, _, _, _, _, _, _, _, _, _, _, _, _, rfl, _⟩ := hp; exact ⟨_, rfl⟩), trivial⟩)) ?_
    rintro g _ _ ⟨_, ⟨p50, _, c52, C53, p54, _, c56, C57, p58, _, c60, C61, rfl, rfl, rfl, o53, rfl, o57, rfl, o61⟩, rfl⟩
    exact ⟨⟨[p50, p54, p58], [c52, c56, c60], [C53, C57, C61]⟩, ⟨o53, o57, o61⟩, .inr rfl, rfl⟩
   ·refine le rfl rfl (fun g hΦ s h hs hh => (stpU_store (id := 0) (cs' := [.slice ((g 2).A 0) ((x49.1.t.b).length) ((g 2).C 0), .slice ((g 2).A 1) ((x49.1.t.f).length) ((g 2).C 1), .slice ((g 2).A 2) ((x49.1.c).length) ((g 2).C 2)]) ts29 (sv hs 2 rfl) (sv hs 78 rfl) (hh.get 0 _ rfl) rfl rfl rfl rfl)) ?_
    rintro g _ _ rfl
    exact ⟨⟨[], [], []⟩, trivial, .inl rfl, rfl⟩
   refine le rfl rfl (fun g hΦ s h hs hh => (stpU_store (id := 1) (cs' := [.int .i64 x30.s, .int .i64 x30.p]) ts36 (sv hs 4 rfl) (sv hs 80 rfl) (hh.get 1 _ rfl) rfl rfl rfl rfl)) ?_
   rintro g _ _ rfl
   exact ⟨⟨[], [], []⟩, trivial, .inl rfl, rfl⟩
  intro g hΦ
  refine kw_gen (ι := Option Addr × Option Addr × Option Addr × Nat × Nat × Nat × Res × Res × Res) (((g 2).A 0), ((g 2).A 1), ((g 2).A 2), ((g 2).C 0), ((g 2).C 1), ((g 2).C 2), ((g 2).R 0), ((g 2).R 1), ((g 2).R 2)) (fun | (p50, p54, p58, c52, c56, c60, C53, C57, C61) => OwnC 3 p50 c52 x49.1.t.b C53 ∧ OwnC 61 p54 c56 x49.1.t.f C57 ∧ OwnD 43 53 p58 c60 x49.1.c C61) (fun | (p50, p54, p58, c52, c56, c60, C53, C57, C61) => [(2, .pointer (some ⟨b1, 0, none⟩)), (3, .int .i64 x18.1), (4, .pointer (some ⟨b2, 0, none⟩))]) (fun | (p50, p54, p58, c52, c56, c60, C53, C57, C61) => [(0, [(b1, .cells #[.slice p50 ((x49.1.t.b).length) c52, .slice p54 ((x49.1.t.f).length) c56, .slice p58 ((x49.1.c).length) c60] 29 (0, 0))]), (1, [(b2, .cells #[.int .i64 x30.s, .int .i64 x30.p] 36 (0, 0))]), (22, C53), (23, C57), (24, C61)]) ⟨(hΦ 2 (by decide)).1, (hΦ 2 (by decide)).2.1, (hΦ 2 (by decide)).2.2⟩ ⟨rfl, rfl, rfl, trivial⟩ ⟨rfl, rfl, rfl, rfl, rfl, trivial⟩ ?_
  rintro ⟨p50, p54, p58, c52, c56, c60, C53, C57, C61⟩ ⟨o53, o57, o61⟩
  dsimp only
  refine kw_nx (cw_ret ?_)
  obtain rfl := sI H0
  exact kr Tryd.results28 (.cons (.cellN (us := [_, _, _]) ts29 rfl (Cells.box (id := 0) rfl 3 rfl)) (.cons (.tmp rfl) (rC2 1 ts36 rfl rfl))) [22, 23, 24] ⟨_, _, _, _, _, _, _, _, _, _, _, _, rfl, rfl, rfl, o53, rfl, o57, rfl, o61⟩
 have H0 := cond_f H0 h28
 obtain ⟨x62, e62, H0⟩ := bS H0
 refine sr (oA 2 Tryd.underlying29 rfl ts27 rfl (oL 7 ts27 rfl (oM rfl ?_)))
 obtain ⟨u63, p64, n65, c66, p67, n68, c69, hl63, hx63, rfl, rfl, hw63, hr63, hs63⟩ := OwnD.view o16 e62
 obtain ⟨y70, ey70, H0⟩ := bS H0
 refine oD (stp_indexAddr Tryd.underlying27 ts43 (by decide) rfl hl63 rfl (RdC.rdb (id := 6) hw63 rfl) hx63) rfl (oA 0 Tryd.underlying43 rfl ts41 rfl (oD (stp_load1 ts41 rfl (Cells.el (RdC.rdb (id := 6) hw63 rfl) (by decide) hx63 0 1 rfl)) rfl (oD (stp_len Tryd.underlying41 rfl) rfl (oJ rfl (oM rfl (ow_cut (ι := Unit) 4 (fun _ => True) (fun _ => [(0, .slice p0_0 ((a0).length) c0_0), (2, .pointer (some ⟨b1, 0, none⟩)), (3, .int .i64 0), (4, .pointer (some ⟨b2, 0, none⟩)), (5, .pointer (some ⟨b3, 0, none⟩)), (6, .pointer (some ⟨b17, 0, none⟩)), (7, .int .i64 x18.1), (8, .pointer (some ⟨b20, 0, none⟩)), (9, .slice p22 ((x21).length) c24), (10, .slice p0_0 ((a0).length) c0_0), (11, .pointer (some ⟨b3, 0, none⟩)), (12, .pointer (some ⟨b3, 0, none⟩)), (13, .agg #[.slice p5 ((x4.1.t.b).length) c7, .slice p9 ((x4.1.t.f).length) c11, .slice p13 ((x4.1.c).length) c15]), (14, .pointer (some ⟨b3, 0, none⟩)), (15, .pointer (some ⟨b17, 2, none⟩)), (16, .slice p13 ((x4.1.c).length) c15), (17, .int .i64 ((x4.1.c).length : Int)), (18, .int .i64 x18.1), (19, .pointer (some ⟨b3, 0, none⟩)), (20, .agg #[.int .i64 x19.1.s, .int .i64 x19.1.p]), (21, .pointer (some ⟨b17, 0, none⟩)), (22, .agg #[.slice p5 ((x4.1.t.b).length) c7, .slice p9 ((x4.1.t.f).length) c11]), (23, .slice p22 ((x21).length) c24), (24, .slice p22 ((x21).length) c24), (25, .int .i64 ((x21).length : Int)), (26, .bool (decide (0 < ((x21).length : Int)))), (27, .bool (decide (0 < ((x21).length : Int)))), (31, .bool y26.1), (39, .pointer (some ⟨b17, 2, none⟩)), (40, .slice p13 ((x4.1.c).length) c15), (41, .int .i64 x18.1), (42, .pointer (some ⟨eB p13, eO p13 + Int.toNat x18.1 * Enc.sz CpS + 0, none⟩)), (43, .pointer (some ⟨eB p13, eO p13 + Int.toNat x18.1 * Enc.sz CpS + 0, none⟩)), (44, .slice p64 ((x62.n).length) c66), (45, .int .i64 ((x62.n).length : Int)), (46, .bool (decide (0 < ((x62.n).length : Int)))), (47, .bool (decide (0 < ((x62.n).length : Int)))), (51, .bool y70.1)]) (fun _ => [(0, [(b1, .cells #[.slice none 0 0, .slice none 0 0, .slice none 0 0] 29 (0, 0))]), (1, [(b2, .cells #[.int .i64 0, .int .i64 0] 36 (0, 0))]), (2, [(b3, .cells #[.slice p0_0 (((a0.take 2000)).length) c0_0, .int .i64 y70.2] 72 (0, 0))]), (4, C8), (5, C12), (6, C16), (7, [(b17, .cells #[.slice p5 ((x4.1.t.b).length) c7, .slice p9 ((x4.1.t.f).length) c11, .slice p13 ((x4.1.c).length) c15] 29 (0, 0))]), (10, [(b20, .cells #[.int .i64 x19.1.s, .int .i64 x19.1.p] 36 (0, 0))]), (11, C25)]) ?_ (fun _ _ => ?_)))))))
 ·rcases Bool.eq_false_or_eq_true (decide (0 < ((x62.n).length : Int))) with hy70 | hy70
  ·have ey70 := cond_t ey70 hy70
   obtain ⟨x71, e71, ey70⟩ := bS ey70
   refine oG rfl hy70 (mv rfl) rfl (ow_eff (.some rfl hy70) (stpU_callM (fun i => bif Nat.beq i 0 then 2 else 25 + i) cf14 (fun w hw hb => c_s_l12Rd_pick fl w b3 (a0.take 2000) y26.2 3 rfl (RO.passM (RO.takeN 2000 hr0_0) hw hb) (hw.pass (js := [2]) ⟨2, [], rfl, rfl, trivial⟩ (by decide)) x71 e71) (yB rfl rfl) ⟨rfl, (fun _ _ hp => by obtain ⟨_, rfl⟩ := hp; exact ⟨_, rfl⟩), trivial⟩) rfl ?_)
   rintro _ _ ⟨_, ⟨rfl, rfl⟩, rfl⟩
   refine oG rfl hy70 (stp_gtr rfl rfl) rfl (oD (stp_pick_t rfl hy70 rfl) rfl ?_)
   obtain rfl := sI ey70
   exact ow_nil (kw_join () trivial ⟨rfl, rfl, rfl, rfl, rfl, rfl, rfl, rfl, rfl, rfl, rfl, rfl, rfl, rfl, rfl, rfl, rfl, rfl, rfl, rfl, rfl, rfl, rfl, rfl, rfl, rfl, rfl, rfl, rfl, rfl, rfl, rfl, rfl, rfl, rfl, rfl, rfl, rfl, trivial⟩ ⟨rfl, rfl, rfl, rfl, rfl, rfl, rfl, rfl, rfl, trivial⟩)
  have ey70 := cond_f ey70 hy70
  refine oO rfl hy70 rfl (oO rfl hy70 rfl (oO rfl hy70 rfl (oD (stp_pick_f rfl hy70 rfl) rfl ?_)))
  obtain rfl := sI ey70
  exact ow_nil (kw_join () trivial ⟨rfl, rfl, rfl, rfl, rfl, rfl, rfl, rfl, rfl, rfl, rfl, rfl, rfl, rfl, rfl, rfl, rfl, rfl, rfl, rfl, rfl, rfl, rfl, rfl, rfl, rfl, rfl, rfl, rfl, rfl, rfl, rfl, rfl, rfl, rfl, rfl, rfl, rfl, trivial⟩ ⟨rfl, rfl, rfl, rfl, rfl, rfl, rfl, rfl, rfl, trivial⟩)
 refine ow_nil (kw_nx (cw_cond rfl (fun h72 => ?_) (fun h72 => ?_)))
 ·have H0 := cond_t H0 h72
  obtain ⟨x73, e73, H0⟩ := bS H0
  obtain ⟨x74, e74, H0⟩ := bS H0
  refine rdq g_mixed [5, 6, 7, 8] [2, 6, 7, 10] { dst := dS [53, 54, 55, 56, 57, 58, 59, 60, 61, 62, 63, 64, 65, 66, 67, 68, 69, 70, 0], pre := gA [] [[], [0], [], [0, 1, 2], rn 0 4, rn 0 5, [], [], [7], [], [7, 8, 9], rn 7 4, rn 7 5, rn 7 6, rn 6 8, rn 0 15, rn 0 16, rn 0 17, rn 0 18], ids := fun i => match i with | 14 => [2] | 18 => [10] | _ => [], rs := rL [[(6, 0)], [(52, 1)], [(7, 0)], [(53, 2), (54, 3)], [(55, 4)], [(56, 5)], [(5, 0)], [(6, 0)], [(59, 8)], [(7, 0)], [(60, 9), (61, 10)], [(62, 11)], [(63, 12)], [(64, 13)], [(58, 7), (65, 14)], [(57, 6), (66, 15)], [(67, 16)], [(68, 17)], [(8, 0), (69, 18)]], rh := rL [[], [(7, 0)], [], [(6, 0)], [], [(6, 0)], [], [], [(7, 0)], [], [(6, 0)], [], [(6, 0)], [], [(2, 0)], [(6, 0)], [], [(6, 0)], [(10, 0)]], V := fun i g => gA undef [.pointer (some ⟨b17, 2, none⟩), .slice p13 ((x4.1.c).length) c15, .int .i64 x18.1, .pointer (some ⟨eB p13, eO p13 + Int.toNat x18.1 * Enc.sz CpS + 0, none⟩), .pointer (some ⟨eB p13, eO p13 + Int.toNat x18.1 * Enc.sz CpS + 0, none⟩), .slice p64 ((x62.n).length) c66, .pointer (some ⟨b3, 0, none⟩), .pointer (some ⟨b17, 2, none⟩), .slice p13 ((x4.1.c).length) c15, .int .i64 x18.1, .pointer (some ⟨eB p13, eO p13 + Int.toNat x18.1 * Enc.sz CpS + 0, none⟩), .pointer (some ⟨eB p13, eO p13 + Int.toNat x18.1 * Enc.sz CpS + 0, none⟩), .slice p64 ((x62.n).length) c66, .int .i64 ((x62.n).length : Int), .int .i64 x73.1, .pointer (some ⟨eB p64, eO p64 + Int.toNat x73.1 * Enc.sz Nt + 0, none⟩), .pointer (some ⟨eB p64, eO p64 + Int.toNat x73.1 * Enc.sz Nt + 0, none⟩), .agg #[.int .i64 x74.k.s, .int .i64 x74.k.p]] i, U := fun i g => match i with | 14 => [(2, [(b3, .cells #[.slice p0_0 (((a0.take 2000)).length) c0_0, .int .i64 x73.2] 72 (0, 0))])] | 18 => [(10, [(b20, .cells #[.int .i64 x74.k.s, .int .i64 x74.k.p] 36 (0, 0))])] | _ => [], Φ := fun _ _ => True } ?_ ?_
  ·refine ⟨lc rfl rfl fun hs hh => stp_fieldAddr (j := 2) Tryd.underlying29 rfl ts27 rfl (sv hs 6 rfl) rfl, lc rfl rfl fun hs hh => stp_load1 ts27 (sv hs 52 rfl) (Cells.box (id := 7) (hh.get 7 _ rfl) 1 rfl), lM, lc rfl rfl fun hs hh => stp_indexAddr Tryd.underlying27 ts43 (by decide) (sv hs 53 rfl) hl63 (sv hs 54 rfl) (RdC.rdb (id := 6) hw63 (hh.get 6 _ rfl)) hx63, lc rfl rfl fun hs hh => stp_fieldAddr (j := 0) Tryd.underlying43 rfl ts41 rfl (sv hs 55 rfl) rfl, lc rfl rfl fun hs hh => stp_load1 ts41 (sv hs 56 rfl) (Cells.el (RdC.rdb (id := 6) hw63 (hh.get 6 _ rfl)) (by decide) hx63 0 1 rfl), lM, lc rfl rfl fun hs hh => stp_fieldAddr (j := 2) Tryd.underlying29 rfl ts27 rfl (sv hs 6 rfl) rfl, lc rfl rfl fun hs hh => stp_load1 ts27 (sv hs 59 rfl) (Cells.box (id := 7) (hh.get 7 _ rfl) 1 rfl), lM, lc rfl rfl fun hs hh => stp_indexAddr Tryd.underlying27 ts43 (by decide) (sv hs 60 rfl) hl63 (sv hs 61 rfl) (RdC.rdb (id := 6) hw63 (hh.get 6 _ rfl)) hx63, lc rfl rfl fun hs hh => stp_fieldAddr (j := 0) Tryd.underlying43 rfl ts41 rfl (sv hs 62 rfl) rfl, lc rfl rfl fun hs hh => stp_load1 ts41 (sv hs 63 rfl) (Cells.el (RdC.rdb (id := 6) hw63 (hh.get 6 _ rfl)) (by decide) hx63 0 1 rfl), lc rfl rfl fun hs hh => stp_len Tryd.underlying41 (sv hs 64 rfl), ?_, lc rfl rfl fun hs hh => stp_indexAddr Tryd.underlying41 ts53 (by decide) (sv hs 57 rfl) rfl (sv hs 66 rfl) (RdC.rdb (id := 6) hr63 (hh.get 6 _ rfl)) e74, lc rfl rfl fun hs hh => stp_fieldAddr (j := 0) Tryd.underlying53 rfl ts36 rfl (sv hs 67 rfl) rfl, lc rfl rfl fun hs hh => stp_loadN (us := [_, _]) ts36 (sv hs 68 rfl) (Cells.el (RdC.rdb (id := 6) hr63 (hh.get 6 _ rfl)) (by decide) e74 0 2 rfl), ?_, trivial⟩
   ·refine le rfl rfl (fun g hΦ s h hs hh => (stpU_callM (fun i => bif Nat.beq i 0 then 2 else 26 + i) cf14 (fun w hw hb => c_s_l12Rd_pick fl w b3 (a0.take 2000) y70.2 ((x62.n).length : Int) rfl (RO.passM (RO.takeN 2000 hr0_0) hw hb) (hw.pass (js := [2]) ⟨2, [], rfl, (hh.get 2 _ rfl), trivial⟩ (by decide)) x73 e73) (yB (sv hs 58 rfl) (sv hs 65 rfl)) ⟨(hh.get 2 _ rfl), (fun _ _ hp => by obtain ⟨_, rfl⟩ := hp; exact ⟨_, rfl⟩), trivial⟩)) ?_
    rintro g _ _ ⟨_, ⟨rfl, rfl⟩, rfl⟩
    exact ⟨⟨[], [], []⟩, trivial, .inr rfl, rfl⟩
   refine le rfl rfl (fun g hΦ s h hs hh => (stpU_store (id := 10) (cs' := [.int .i64 x74.k.s, .int .i64 x74.k.p]) ts36 (sv hs 8 rfl) (sv hs 69 rfl) (hh.get 10 _ rfl) rfl rfl rfl rfl)) ?_
   rintro g _ _ rfl
   exact ⟨⟨[], [], []⟩, trivial, .inl rfl, rfl⟩
  intro g hΦ
  refine KW.sub (s' := [(2, .pointer (some ⟨b1, 0, none⟩)), (4, .pointer (some ⟨b2, 0, none⟩)), (5, .pointer (some ⟨b3, 0, none⟩)), (6, .pointer (some ⟨b17, 0, none⟩)), (7, .int .i64 x18.1), (8, .pointer (some ⟨b20, 0, none⟩))]) (h' := [(0, [(b1, .cells #[.slice none 0 0, .slice none 0 0, .slice none 0 0] 29 (0, 0))]), (1, [(b2, .cells #[.int .i64 0, .int .i64 0] 36 (0, 0))]), (2, [(b3, .cells #[.slice p0_0 (((a0.take 2000)).length) c0_0, .int .i64 x73.2] 72 (0, 0))]), (4, C8), (5, C12), (6, C16), (7, [(b17, .cells #[.slice p5 ((x4.1.t.b).length) c7, .slice p9 ((x4.1.t.f).length) c11, .slice p13 ((x4.1.c).length) c15] 29 (0, 0))]), (10, [(b20, .cells #[.int .i64 x74.k.s, .int .i64 x74.k.p] 36 (0, 0))])]) ?_ ⟨rfl, rfl, rfl, rfl, rfl, rfl, trivial⟩ ⟨rfl, rfl, rfl, rfl, rfl, rfl, rfl, rfl, trivial⟩
  obtain ⟨x75, e75, H0⟩ := bS H0
  refine kw_nx (cw_seq (sr (oM rfl (oE (stpU_callM (fun i => bif Nat.beq i 0 then 2 else 27 + i) cf14 (fun w hw hb => c_s_l12Rd_pick fl w b3 (a0.take 2000) x73.2 20 rfl (RO.passM (RO.takeN 2000 hr0_0) hw hb) (hw.pass (js := [2]) ⟨2, [], rfl, rfl, trivial⟩ (by decide)) x75 e75) (yB rfl rfl) ⟨rfl, (fun _ _ hp => by obtain ⟨_, rfl⟩ := hp; exact ⟨_, rfl⟩), trivial⟩) rfl ?_))))
  rintro _ _ ⟨_, ⟨rfl, rfl⟩, rfl⟩
  refine oQ rfl (nn (cw_cond rfl (fun h76 => ?_) (fun h76 => ?_)))
  ·have H0 := cond_t H0 h76
   refine cw_region (oM rfl (oE (stpU_lit (sz := 1) (l := [(-1), 4]) [.int .i64 (-1), .int .i64 4] sl23 28 (sevp_cons rfl (sevp_cons rfl sevp_nil)) rfl rfl rfl rfl rfl rfl rfl rfl rfl) rfl ?_))
   rintro _ _ ⟨p77, C78, rfl, rfl, o78⟩
   obtain ⟨x79, e79, H0⟩ := bS H0
   refine oE (stpU_callM (fun i => bif Nat.beq i 0 then 2 else 29 + i) cf41 (fun w hw hb => c_s_l12Rd_num fl w b3 (a0.take 2000) x75.2 ([(-1), 4]) rfl (RO.passM (RO.takeN 2000 hr0_0) hw hb) (by simp) (OwnC.passM (id := 28) rfl o78 hw hb ⟨rfl, trivial⟩) (hw.pass (js := [2]) ⟨2, [], rfl, rfl, trivial⟩ (by decide)) x79 e79) (yB rfl rfl) ⟨rfl, (fun _ _ hp => by obtain ⟨_, rfl⟩ := hp; exact ⟨_, rfl⟩), trivial⟩) rfl ?_
   rintro _ _ ⟨_, ⟨rfl, rfl⟩, rfl⟩
   obtain ⟨x80, e80, H0⟩ := bS H0
   refine oS rfl (nn (cw_seq (rdq g_mixed [2, 4, 5, 6, 7, 8] [0, 1, 2, 4, 5, 6, 7, 10] { dst := dS [77, 78, 79, 80, 81, 0, 4, 0], pre := gA [] [[], [], [0, 1], [], [], [0, 1, 2], [0, 1, 2, 3, 5], rn 0 7], ids := gA [] [[], [], [2, 31, 32, 33], [], [], [0], [], [1]], rs := rL [[(5, 0)], [(6, 0)], [(76, 1), (77, 2)], [(7, 0)], [(8, 0)], [(2, 0), (78, 3)], [(79, 4)], [(4, 0), (80, 5)]], rh := rL [[], [(7, 0)], [(2, 0), (4, 0), (5, 0), (6, 0)], [], [(10, 0)], [(0, 0)], [], [(1, 0)]], V := fun i g => gA undef [.pointer (some ⟨b3, 0, none⟩), .agg #[.slice p5 ((x4.1.t.b).length) c7, .slice p9 ((x4.1.t.f).length) c11, .slice p13 ((x4.1.c).length) c15], .agg #[.slice ((g 2).A 0) ((x80.1.t.b).length) ((g 2).C 0), .slice ((g 2).A 1) ((x80.1.t.f).length) ((g 2).C 1), .slice ((g 2).A 2) ((x80.1.c).length) ((g 2).C 2)], .int .i64 x79.1, .agg #[.int .i64 x74.k.s, .int .i64 x74.k.p], undef, .int .i64 x79.1] i, U := fun i g => gA [] [[], [], [(2, [(b3, .cells #[.slice p0_0 (((a0.take 2000)).length) c0_0, .int .i64 x80.2] 72 (0, 0))]), (31, ((g 2).R 0)), (32, ((g 2).R 1)), (33, ((g 2).R 2))], [], [], [(0, [(b1, .cells #[.slice ((g 2).A 0) ((x80.1.t.b).length) ((g 2).C 0), .slice ((g 2).A 1) ((x80.1.t.f).length) ((g 2).C 1), .slice ((g 2).A 2) ((x80.1.c).length) ((g 2).C 2)] 29 (0, 0))])], [], [(1, [(b2, .cells #[.int .i64 x74.k.s, .int .i64 x74.k.p] 36 (0, 0))])]] i, Φ := fun i x => gA True [True, True, OwnC 3 (x.A 0) (x.C 0) x80.1.t.b (x.R 0) ∧ OwnC 61 (x.A 1) (x.C 1) x80.1.t.f (x.R 1) ∧ OwnD 43 53 (x.A 2) (x.C 2) x80.1.c (x.R 2)] i } ?_ ?_)))
   ·refine ⟨lM, lc rfl rfl fun hs hh => stp_loadN (us := [_, _, _]) ts29 (sv hs 6 rfl) (Cells.box (id := 7) (hh.get 7 _ rfl) 3 rfl), ?_, lM, lc rfl rfl fun hs hh => stp_loadN (us := [_, _]) ts36 (sv hs 8 rfl) (Cells.box (id := 10) (hh.get 10 _ rfl) 2 rfl), ?_, lS, ?_, trivial⟩
    ·refine le rfl rfl (fun g hΦ s h hs hh => (stpU_callM (fun i => bif Nat.beq i 0 then 2 else 30 + i) cf16 (fun w hw hb => c_s_l8Wrong fl w b3 (a0.take 2000) x79.2 x4.1 rfl (RO.passM (RO.takeN 2000 hr0_0) hw hb) rfl (OwnC.passM (id := 4) (hh.get 4 _ rfl) o8 hw hb ⟨rfl, trivial⟩) rfl (OwnC.passM (id := 5) (hh.get 5 _ rfl) o12 hw hb ⟨rfl, trivial⟩) rfl (OwnD.passM (id := 6) (hh.get 6 _ rfl) o16 hw hb ⟨rfl, trivial⟩) (hw.pass (js := [2]) ⟨2, [], rfl, (hh.get 2 _ rfl), trivial⟩ (by decide)) x80 e80) (yB (sv hs 76 rfl) (sv hs 77 rfl)) ⟨(hh.get 2 _ rfl), (fun _ _ hp => by obtain ⟨_, _, _, _, _, _, _, _, _, _, _, _, _, rfl, _⟩ := hp; exact ⟨_, rfl⟩), trivial⟩)) ?_
     rintro g _ _ ⟨_, ⟨p81, _, c83, C84, p85, _, c87, C88, p89, _, c91, C92, rfl, rfl, rfl, o84, rfl, o88, rfl, o92⟩, rfl⟩
     exact ⟨⟨[p81, p85, p89], [c83, c87, c91], [C84, C88, C92]⟩, ⟨o84, o88, o92⟩, .inr rfl, rfl⟩
    ·refine le rfl rfl (fun g hΦ s h hs hh => (stpU_store (id := 0) (cs' := [.slice ((g 2).A 0) ((x80.1.t.b).length) ((g 2).C 0), .slice ((g 2).A 1) ((x80.1.t.f).length) ((g 2).C 1), .slice ((g 2).A 2) ((x80.1.c).length) ((g 2).C 2)]) ts29 (sv hs 2 rfl) (sv hs 78 rfl) (hh.get 0 _ rfl) rfl rfl rfl rfl)) ?_
     rintro g _ _ rfl
     exact ⟨⟨[], [], []⟩, trivial, .inl rfl, rfl⟩
    refine le rfl rfl (fun g hΦ s h hs hh => (stpU_store (id := 1) (cs' := [.int .i64 x74.k.s, .int .i64 x74.k.p]) ts36 (sv hs 4 rfl) (sv hs 80 rfl) (hh.get 1 _ rfl) rfl rfl rfl rfl)) ?_
    rintro g _ _ rfl
    exact ⟨⟨[], [], []⟩, trivial, .inl rfl, rfl⟩
   intro g hΦ
   refine kw_gen (ι := Option Addr × Option Addr × Option Addr × Nat × Nat × Nat × Res × Res × Res) (((g 2).A 0), ((g 2).A 1), ((g 2).A 2), ((g 2).C 0), ((g 2).C 1), ((g 2).C 2), ((g 2).R 0), ((g 2).R 1), ((g 2).R 2)) (fun | (p81, p85, p89, c83, c87, c91, C84, C88, C92) => OwnC 3 p81 c83 x80.1.t.b C84 ∧ OwnC 61 p85 c87 x80.1.t.f C88 ∧ OwnD 43 53 p89 c91 x80.1.c C92) (fun | (p81, p85, p89, c83, c87, c91, C84, C88, C92) => [(2, .pointer (some ⟨b1, 0, none⟩)), (3, .int .i64 x79.1), (4, .pointer (some ⟨b2, 0, none⟩))]) (fun | (p81, p85, p89, c83, c87, c91, C84, C88, C92) => [(0, [(b1, .cells #[.slice p81 ((x80.1.t.b).length) c83, .slice p85 ((x80.1.t.f).length) c87, .slice p89 ((x80.1.c).length) c91] 29 (0, 0))]), (1, [(b2, .cells #[.int .i64 x74.k.s, .int .i64 x74.k.p] 36 (0, 0))]), (31, C84), (32, C88), (33, C92)]) ⟨(hΦ 2 (by decide)).1, (hΦ 2 (by decide)).2.1, (hΦ 2 (by decide)).2.2⟩ ⟨rfl, rfl, rfl, trivial⟩ ⟨rfl, rfl, rfl, rfl, rfl, trivial⟩ ?_
   rintro ⟨p81, p85, p89, c83, c87, c91, C84, C88, C92⟩ ⟨o84, o88, o92⟩
   dsimp only
   refine kw_nx (cw_ret ?_)
   obtain rfl := sI H0
   exact kr Tryd.results28 (.cons (.cellN (us := [_, _, _]) ts29 rfl (Cells.box (id := 0) rfl 3 rfl)) (.cons (.tmp rfl) (rC2 1 ts36 rfl rfl))) [31, 32, 33] ⟨_, _, _, _, _, _, _, _, _, _, _, _, rfl, rfl, rfl, o84, rfl, o88, rfl, o92⟩
  have H0 := cond_f H0 h76
  obtain ⟨x93, e93, H0⟩ := bS H0
  refine cw_skip (kw_nx (cw_seq (rdq g_mixed [2, 4, 5, 6, 7, 8] [0, 1, 2, 4, 5, 6, 7, 10] { dst := dS [77, 78, 79, 80, 81, 0, 4, 0], pre := gA [] [[], [], [0, 1], [], [], [0, 1, 2], [0, 1, 2, 3, 5], rn 0 7], ids := gA [] [[], [], [2, 35, 36, 37], [], [], [0], [], [1]], rs := rL [[(5, 0)], [(6, 0)], [(76, 1), (77, 2)], [(7, 0)], [(8, 0)], [(2, 0), (78, 3)], [(79, 4)], [(4, 0), (80, 5)]], rh := rL [[], [(7, 0)], [(2, 0), (4, 0), (5, 0), (6, 0)], [], [(10, 0)], [(0, 0)], [], [(1, 0)]], V := fun i g => gA undef [.pointer (some ⟨b3, 0, none⟩), .agg #[.slice p5 ((x4.1.t.b).length) c7, .slice p9 ((x4.1.t.f).length) c11, .slice p13 ((x4.1.c).length) c15], .agg #[.slice ((g 2).A 0) ((x93.1.t.b).length) ((g 2).C 0), .slice ((g 2).A 1) ((x93.1.t.f).length) ((g 2).C 1), .slice ((g 2).A 2) ((x93.1.c).length) ((g 2).C 2)], .int .i64 x18.1, .agg #[.int .i64 x74.k.s, .int .i64 x74.k.p], undef, .int .i64 x18.1] i, U := fun i g => gA [] [[], [], [(2, [(b3, .cells #[.slice p0_0 (((a0.take 2000)).length) c0_0, .int .i64 x93.2] 72 (0, 0))]), (35, ((g 2).R 0)), (36, ((g 2).R 1)), (37, ((g 2).R 2))], [], [], [(0, [(b1, .cells #[.slice ((g 2).A 0) ((x93.1.t.b).length) ((g 2).C 0), .slice ((g 2).A 1) ((x93.1.t.f).length) ((g 2).C 1), .slice ((g 2).A 2) ((x93.1.c).length) ((g 2).C 2)] 29 (0, 0))])], [], [(1, [(b2, .cells #[.int .i64 x74.k.s, .int .i64 x74.k.p] 36 (0, 0))])]] i, Φ := fun i x => gA True [True, True, OwnC 3 (x.A 0) (x.C 0) x93.1.t.b (x.R 0) ∧ OwnC 61 (x.A 1) (x.C 1) x93.1.t.f (x.R 1) ∧ OwnD 43 53 (x.A 2) (x.C 2) x93.1.c (x.R 2)] i } ?_ ?_)))
  ·refine ⟨lM, lc rfl rfl fun hs hh => stp_loadN (us := [_, _, _]) ts29 (sv hs 6 rfl) (Cells.box (id := 7) (hh.get 7 _ rfl) 3 rfl), ?_, lM, lc rfl rfl fun hs hh => stp_loadN (us := [_, _]) ts36 (sv hs 8 rfl) (Cells.box (id := 10) (hh.get 10 _ rfl) 2 rfl), ?_, lS, ?_, trivial⟩
   ·refine le rfl rfl (fun g hΦ s h hs hh => (stpU_callM (fun i => bif Nat.beq i 0 then 2 else 34 + i) cf16 (fun w hw hb => c_s_l8Wrong fl w b3 (a0.take 2000) x75.2 x4.1 rfl (RO.passM (RO.takeN 2000 hr0_0) hw hb) rfl (OwnC.passM (id := 4) (hh.get 4 _ rfl) o8 hw hb ⟨rfl, trivial⟩) rfl (OwnC.passM (id := 5) (hh.get 5 _ rfl) o12 hw hb ⟨rfl, trivial⟩) rfl (OwnD.passM (id := 6) (hh.get 6 _ rfl) o16 hw hb ⟨rfl, trivial⟩) (hw.pass (js := [2]) ⟨2, [], rfl, (hh.get 2 _ rfl), trivial⟩ (by decide)) x93 e93) (yB (sv hs 76 rfl) (sv hs 77 rfl)) ⟨(hh.get 2 _ rfl), (fun _ _ hp => by obtain ⟨_, _, _, _, _, _, _, _, _, _, _, _, _, rfl, _⟩ := hp; exact ⟨_, rfl⟩), trivial⟩)) ?_
    rintro g _ _ ⟨_, ⟨p94, _, c96, C97, p98, _, c100, C101, p102, _, c104, C105, rfl, rfl, rfl, o97, rfl, o101, rfl, o105⟩, rfl⟩
    exact ⟨⟨[p94, p98, p102], [c96, c100, c104], [C97, C101, C105]⟩, ⟨o97, o101, o105⟩, .inr rfl, rfl⟩
   ·refine le rfl rfl (fun g hΦ s h hs hh => (stpU_store (id := 0) (cs' := [.slice ((g 2).A 0) ((x93.1.t.b).length) ((g 2).C 0), .slice ((g 2).A 1) ((x93.1.t.f).length) ((g 2).C 1), .slice ((g 2).A 2) ((x93.1.c).length) ((g 2).C 2)]) ts29 (sv hs 2 rfl) (sv hs 78 rfl) (hh.get 0 _ rfl) rfl rfl rfl rfl)) ?_
    rintro g _ _ rfl
    exact ⟨⟨[], [], []⟩, trivial, .inl rfl, rfl⟩
   refine le rfl rfl (fun g hΦ s h hs hh => (stpU_store (id := 1) (cs' := [.int .i64 x74.k.s, .int .i64 x74.k.p]) ts36 (sv hs 4 rfl) (sv hs 80 rfl) (hh.get 1 _ rfl) rfl rfl rfl rfl)) ?_
   rintro g _ _ rfl
   exact ⟨⟨[], [], []⟩, trivial, .inl rfl, rfl⟩
  intro g hΦ
  refine kw_gen (ι := Option Addr × Option Addr × Option Addr × Nat × Nat × Nat × Res × Res × Res) (((g 2).A 0), ((g 2).A 1), ((g 2).A 2), ((g 2).C 0), ((g 2).C 1), ((g 2).C 2), ((g 2).R 0), ((g 2).R 1), ((g 2).R 2)) (fun | (p94, p98, p102, c96, c100, c104, C97, C101, C105) => OwnC 3 p94 c96 x93.1.t.b C97 ∧ OwnC 61 p98 c100 x93.1.t.f C101 ∧ OwnD 43 53 p102 c104 x93.1.c C105) (fun | (p94, p98, p102, c96, c100, c104, C97, C101, C105) => [(2, .pointer (some ⟨b1, 0, none⟩)), (3, .int .i64 x18.1), (4, .pointer (some ⟨b2, 0, none⟩))]) (fun | (p94, p98, p102, c96, c100, c104, C97, C101, C105) => [(0, [(b1, .cells #[.slice p94 ((x93.1.t.b).length) c96, .slice p98 ((x93.1.t.f).length) c100, .slice p102 ((x93.1.c).length) c104] 29 (0, 0))]), (1, [(b2, .cells #[.int .i64 x74.k.s, .int .i64 x74.k.p] 36 (0, 0))]), (35, C97), (36, C101), (37, C105)]) ⟨(hΦ 2 (by decide)).1, (hΦ 2 (by decide)).2.1, (hΦ 2 (by decide)).2.2⟩ ⟨rfl, rfl, rfl, trivial⟩ ⟨rfl, rfl, rfl, rfl, rfl, trivial⟩ ?_
  rintro ⟨p94, p98, p102, c96, c100, c104, C97, C101, C105⟩ ⟨o97, o101, o105⟩
  dsimp only
  refine kw_nx (cw_ret ?_)
  obtain rfl := sI H0
  exact kr Tryd.results28 (.cons (.cellN (us := [_, _, _]) ts29 rfl (Cells.box (id := 0) rfl 3 rfl)) (.cons (.tmp rfl) (rC2 1 ts36 rfl rfl))) [35, 36, 37] ⟨_, _, _, _, _, _, _, _, _, _, _, _, rfl, rfl, rfl, o97, rfl, o101, rfl, o105⟩
 have H0 := cond_f H0 h72
 obtain ⟨x106, e106, H0⟩ := bS H0
 refine cw_skip (kw_nx (cw_seq (sr (oM rfl (oE (stpU_callM (fun i => bif Nat.beq i 0 then 2 else 38 + i) cf14 (fun w hw hb => c_s_l12Rd_pick fl w b3 (a0.take 2000) y70.2 20 rfl (RO.passM (RO.takeN 2000 hr0_0) hw hb) (hw.pass (js := [2]) ⟨2, [], rfl, rfl, trivial⟩ (by decide)) x106 e106) (yB rfl rfl) ⟨rfl, (fun _ _ hp => by obtain ⟨_, rfl⟩ := hp; exact ⟨_, rfl⟩), trivial⟩) rfl ?_)))))
 rintro _ _ ⟨_, ⟨rfl, rfl⟩, rfl⟩
 refine oQ rfl (nn (cw_cond rfl (fun h107 => ?_) (fun h107 => ?_)))
 ·have H0 := cond_t H0 h107
  refine cw_region (oM rfl (oE (stpU_lit (sz := 1) (l := [(-1), 4]) [.int .i64 (-1), .int .i64 4] sl23 39 (sevp_cons rfl (sevp_cons rfl sevp_nil)) rfl rfl rfl rfl rfl rfl rfl rfl rfl) rfl ?_))
  rintro _ _ ⟨p108, C109, rfl, rfl, o109⟩
  obtain ⟨x110, e110, H0⟩ := bS H0
  refine oE (stpU_callM (fun i => bif Nat.beq i 0 then 2 else 40 + i) cf41 (fun w hw hb => c_s_l12Rd_num fl w b3 (a0.take 2000) x106.2 ([(-1), 4]) rfl (RO.passM (RO.takeN 2000 hr0_0) hw hb) (by simp) (OwnC.passM (id := 39) rfl o109 hw hb ⟨rfl, trivial⟩) (hw.pass (js := [2]) ⟨2, [], rfl, rfl, trivial⟩ (by decide)) x110 e110) (yB rfl rfl) ⟨rfl, (fun _ _ hp => by obtain ⟨_, rfl⟩ := hp; exact ⟨_, rfl⟩), trivial⟩) rfl ?_
  rintro _ _ ⟨_, ⟨rfl, rfl⟩, rfl⟩
  obtain ⟨x111, e111, H0⟩ := bS H0
  refine oS rfl (nn (cw_seq (rdq g_mixed [2, 4, 5, 6, 7, 8] [0, 1, 2, 4, 5, 6, 7, 10] { dst := dS [77, 78, 79, 80, 81, 0, 4, 0], pre := gA [] [[], [], [0, 1], [], [], [0, 1, 2], [0, 1, 2, 3, 5], rn 0 7], ids := gA [] [[], [], [2, 42, 43, 44], [], [], [0], [], [1]], rs := rL [[(5, 0)], [(6, 0)], [(76, 1), (77, 2)], [(7, 0)], [(8, 0)], [(2, 0), (78, 3)], [(79, 4)], [(4, 0), (80, 5)]], rh := rL [[], [(7, 0)], [(2, 0), (4, 0), (5, 0), (6, 0)], [], [(10, 0)], [(0, 0)], [], [(1, 0)]], V := fun i g => gA undef [.pointer (some ⟨b3, 0, none⟩), .agg #[.slice p5 ((x4.1.t.b).length) c7, .slice p9 ((x4.1.t.f).length) c11, .slice p13 ((x4.1.c).length) c15], .agg #[.slice ((g 2).A 0) ((x111.1.t.b).length) ((g 2).C 0), .slice ((g 2).A 1) ((x111.1.t.f).length) ((g 2).C 1), .slice ((g 2).A 2) ((x111.1.c).length) ((g 2).C 2)], .int .i64 x110.1, .agg #[.int .i64 x19.1.s, .int .i64 x19.1.p], undef, .int .i64 x110.1] i, U := fun i g => gA [] [[], [], [(2, [(b3, .cells #[.slice p0_0 (((a0.take 2000)).length) c0_0, .int .i64 x111.2] 72 (0, 0))]), (42, ((g 2).R 0)), (43, ((g 2).R 1)), (44, ((g 2).R 2))], [], [], [(0, [(b1, .cells #[.slice ((g 2).A 0) ((x111.1.t.b).length) ((g 2).C 0), .slice ((g 2).A 1) ((x111.1.t.f).length) ((g 2).C 1), .slice ((g 2).A 2) ((x111.1.c).length) ((g 2).C 2)] 29 (0, 0))])], [], [(1, [(b2, .cells #[.int .i64 x19.1.s, .int .i64 x19.1.p] 36 (0, 0))])]] i, Φ := fun i x => gA True [True, True, OwnC 3 (x.A 0) (x.C 0) x111.1.t.b (x.R 0) ∧ OwnC 61 (x.A 1) (x.C 1) x111.1.t.f (x.R 1) ∧ OwnD 43 53 (x.A 2) (x.C 2) x111.1.c (x.R 2)] i } ?_ ?_)))
  ·refine ⟨lM, lc rfl rfl fun hs hh => stp_loadN (us := [_, _, _]) ts29 (sv hs 6 rfl) (Cells.box (id := 7) (hh.get 7 _ rfl) 3 rfl), ?_, lM, lc rfl rfl fun hs hh => stp_loadN (us := [_, _]) ts36 (sv hs 8 rfl) (Cells.box (id := 10) (hh.get 10 _ rfl) 2 rfl), ?_, lS, ?_, trivial⟩
   ·refine le rfl rfl (fun g hΦ s h hs hh => (stpU_callM (fun i => bif Nat.beq i 0 then 2 else 41 + i) cf16 (fun w hw hb => c_s_l8Wrong fl w b3 (a0.take 2000) x110.2 x4.1 rfl (RO.passM (RO.takeN 2000 hr0_0) hw hb) rfl (OwnC.passM (id := 4) (hh.get 4 _ rfl) o8 hw hb ⟨rfl, trivial⟩) rfl (OwnC.passM (id := 5) (hh.get 5 _ rfl) o12 hw hb ⟨rfl, trivial⟩) rfl (OwnD.passM (id := 6) (hh.get 6 _ rfl) o16 hw hb ⟨rfl, trivial⟩) (hw.pass (js := [2]) ⟨2, [], rfl, (hh.get 2 _ rfl), trivial⟩ (by decide)) x111 e111) (yB (sv hs 76 rfl) (sv hs 77 rfl)) ⟨(hh.get 2 _ rfl), (fun _ _ hp => by obtain ⟨_, _, _, _, _, _, _, _, _, _, _, _, _, rfl, _⟩ := hp; exact ⟨_, rfl⟩), trivial⟩)) ?_
    rintro g _ _ ⟨_, ⟨p112, _, c114, C115, p116, _, c118, C119, p120, _, c122, C123, rfl, rfl, rfl, o115, rfl, o119, rfl, o123⟩, rfl⟩
    exact ⟨⟨[p112, p116, p120], [c114, c118, c122], [C115, C119, C123]⟩, ⟨o115, o119, o123⟩, .inr rfl, rfl⟩
   ·refine le rfl rfl (fun g hΦ s h hs hh => (stpU_store (id := 0) (cs' := [.slice ((g 2).A 0) ((x111.1.t.b).length) ((g 2).C 0), .slice ((g 2).A 1) ((x111.1.t.f).length) ((g 2).C 1), .slice ((g 2).A 2) ((x111.1.c).length) ((g 2).C 2)]) ts29 (sv hs 2 rfl) (sv hs 78 rfl) (hh.get 0 _ rfl) rfl rfl rfl rfl)) ?_
    rintro g _ _ rfl
    exact ⟨⟨[], [], []⟩, trivial, .inl rfl, rfl⟩
   refine le rfl rfl (fun g hΦ s h hs hh => (stpU_store (id := 1) (cs' := [.int .i64 x19.1.s, .int .i64 x19.1.p]) ts36 (sv hs 4 rfl) (sv hs 80 rfl) (hh.get 1 _ rfl) rfl rfl rfl rfl)) ?_
   rintro g _ _ rfl
   exact ⟨⟨[], [], []⟩, trivial, .inl rfl, rfl⟩
  intro g hΦ
  refine kw_gen (ι := Option Addr × Option Addr × Option Addr × Nat × Nat × Nat × Res × Res × Res) (((g 2).A 0), ((g 2).A 1), ((g 2).A 2), ((g 2).C 0), ((g 2).C 1), ((g 2).C 2), ((g 2).R 0), ((g 2).R 1), ((g 2).R 2)) (fun | (p112, p116, p120, c114, c118, c122, C115, C119, C123) => OwnC 3 p112 c114 x111.1.t.b C115 ∧ OwnC 61 p116 c118 x111.1.t.f C119 ∧ OwnD 43 53 p120 c122 x111.1.c C123) (fun | (p112, p116, p120, c114, c118, c122, C115, C119, C123) => [(2, .pointer (some ⟨b1, 0, none⟩)), (3, .int .i64 x110.1), (4, .pointer (some ⟨b2, 0, none⟩))]) (fun | (p112, p116, p120, c114, c118, c122, C115, C119, C123) => [(0, [(b1, .cells #[.slice p112 ((x111.1.t.b).length) c114, .slice p116 ((x111.1.t.f).length) c118, .slice p120 ((x111.1.c).length) c122] 29 (0, 0))]), (1, [(b2, .cells #[.int .i64 x19.1.s, .int .i64 x19.1.p] 36 (0, 0))]), (42, C115), (43, C119), (44, C123)]) ⟨(hΦ 2 (by decide)).1, (hΦ 2 (by decide)).2.1, (hΦ 2 (by decide)).2.2⟩ ⟨rfl, rfl, rfl, trivial⟩ ⟨rfl, rfl, rfl, rfl, rfl, trivial⟩ ?_
  rintro ⟨p112, p116, p120, c114, c118, c122, C115, C119, C123⟩ ⟨o115, o119, o123⟩
  dsimp only
  refine kw_nx (cw_ret ?_)
  obtain rfl := sI H0
  exact kr Tryd.results28 (.cons (.cellN (us := [_, _, _]) ts29 rfl (Cells.box (id := 0) rfl 3 rfl)) (.cons (.tmp rfl) (rC2 1 ts36 rfl rfl))) [42, 43, 44] ⟨_, _, _, _, _, _, _, _, _, _, _, _, rfl, rfl, rfl, o115, rfl, o119, rfl, o123⟩
 have H0 := cond_f H0 h107
 obtain ⟨x124, e124, H0⟩ := bS H0
 refine cw_skip (kw_nx (cw_seq (rdq g_mixed [2, 4, 5, 6, 7, 8] [0, 1, 2, 4, 5, 6, 7, 10] { dst := dS [77, 78, 79, 80, 81, 0, 4, 0], pre := gA [] [[], [], [0, 1], [], [], [0, 1, 2], [0, 1, 2, 3, 5], rn 0 7], ids := gA [] [[], [], [2, 46, 47, 48], [], [], [0], [], [1]], rs := rL [[(5, 0)], [(6, 0)], [(76, 1), (77, 2)], [(7, 0)], [(8, 0)], [(2, 0), (78, 3)], [(79, 4)], [(4, 0), (80, 5)]], rh := rL [[], [(7, 0)], [(2, 0), (4, 0), (5, 0), (6, 0)], [], [(10, 0)], [(0, 0)], [], [(1, 0)]], V := fun i g => gA undef [.pointer (some ⟨b3, 0, none⟩), .agg #[.slice p5 ((x4.1.t.b).length) c7, .slice p9 ((x4.1.t.f).length) c11, .slice p13 ((x4.1.c).length) c15], .agg #[.slice ((g 2).A 0) ((x124.1.t.b).length) ((g 2).C 0), .slice ((g 2).A 1) ((x124.1.t.f).length) ((g 2).C 1), .slice ((g 2).A 2) ((x124.1.c).length) ((g 2).C 2)], .int .i64 x18.1, .agg #[.int .i64 x19.1.s, .int .i64 x19.1.p], undef, .int .i64 x18.1] i, U := fun i g => gA [] [[], [], [(2, [(b3, .cells #[.slice p0_0 (((a0.take 2000)).length) c0_0, .int .i64 x124.2] 72 (0, 0))]), (46, ((g 2).R 0)), (47, ((g 2).R 1)), (48, ((g 2).R 2))], [], [], [(0, [(b1, .cells #[.slice ((g 2).A 0) ((x124.1.t.b).length) ((g 2).C 0), .slice ((g 2).A 1) ((x124.1.t.f).length) ((g 2).C 1), .slice ((g 2).A 2) ((x124.1.c).length) ((g 2).C 2)] 29 (0, 0))])], [], [(1, [(b2, .cells #[.int .i64 x19.1.s, .int .i64 x19.1.p] 36 (0, 0))])]] i, Φ := fun i x => gA True [True, True, OwnC 3 (x.A 0) (x.C 0) x124.1.t.b (x.R 0) ∧ OwnC 61 (x.A 1) (x.C 1) x124.1.t.f (x.R 1) ∧ OwnD 43 53 (x.A 2) (x.C 2) x124.1.c (x.R 2)] i } ?_ ?_)))
 ·refine ⟨lM, lc rfl rfl fun hs hh => stp_loadN (us := [_, _, _]) ts29 (sv hs 6 rfl) (Cells.box (id := 7) (hh.get 7 _ rfl) 3 rfl), ?_, lM, lc rfl rfl fun hs hh => stp_loadN (us := [_, _]) ts36 (sv hs 8 rfl) (Cells.box (id := 10) (hh.get 10 _ rfl) 2 rfl), ?_, lS, ?_, trivial⟩
  ·refine le rfl rfl (fun g hΦ s h hs hh => (stpU_callM (fun i => bif Nat.beq i 0 then 2 else 45 + i) cf16 (fun w hw hb => c_s_l8Wrong fl w b3 (a0.take 2000) x106.2 x4.1 rfl (RO.passM (RO.takeN 2000 hr0_0) hw hb) rfl (OwnC.passM (id := 4) (hh.get 4 _ rfl) o8 hw hb ⟨rfl, trivial⟩) rfl (OwnC.passM (id := 5) (hh.get 5 _ rfl) o12 hw hb ⟨rfl, trivial⟩) rfl (OwnD.passM (id := 6) (hh.get 6 _ rfl) o16 hw hb ⟨rfl, trivial⟩) (hw.pass (js := [2]) ⟨2, [], rfl, (hh.get 2 _ rfl), trivial⟩ (by decide)) x124 e124) (yB (sv hs 76 rfl) (sv hs 77 rfl)) ⟨(hh.get 2 _ rfl), (fun _ _ hp => by obtain ⟨_, _, _, _, _, _, _, _, _, _, _, _, _, rfl, _⟩ := hp; exact ⟨_, rfl⟩), trivial⟩)) ?_
   rintro g _ _ ⟨_, ⟨p125, _, c127, C128, p129, _, c131, C132, p133, _, c135, C136, rfl, rfl, rfl, o128, rfl, o132, rfl, o136⟩, rfl⟩
   exact ⟨⟨[p125, p129, p133], [c127, c131, c135], [C128, C132, C136]⟩, ⟨o128, o132, o136⟩, .inr rfl, rfl⟩
  ·refine le rfl rfl (fun g hΦ s h hs hh => (stpU_store (id := 0) (cs' := [.slice ((g 2).A 0) ((x124.1.t.b).length) ((g 2).C 0), .slice ((g 2).A 1) ((x124.1.t.f).length) ((g 2).C 1), .slice ((g 2).A 2) ((x124.1.c).length) ((g 2).C 2)]) ts29 (sv hs 2 rfl) (sv hs 78 rfl) (hh.get 0 _ rfl) rfl rfl rfl rfl)) ?_
   rintro g _ _ rfl
   exact ⟨⟨[], [], []⟩, trivial, .inl rfl, rfl⟩
  refine le rfl rfl (fun g hΦ s h hs hh => (stpU_store (id := 1) (cs' := [.int .i64 x19.1.s, .int .i64 x19.1.p]) ts36 (sv hs 4 rfl) (sv hs 80 rfl) (hh.get 1 _ rfl) rfl rfl rfl rfl)) ?_
  rintro g _ _ rfl
  exact ⟨⟨[], [], []⟩, trivial, .inl rfl, rfl⟩
 intro g hΦ
 refine kw_gen (ι := Option Addr × Option Addr × Option Addr × Nat × Nat × Nat × Res × Res × Res) (((g 2).A 0), ((g 2).A 1), ((g 2).A 2), ((g 2).C 0), ((g 2).C 1), ((g 2).C 2), ((g 2).R 0), ((g 2).R 1), ((g 2).R 2)) (fun | (p125, p129, p133, c127, c131, c135, C128, C132, C136) => OwnC 3 p125 c127 x124.1.t.b C128 ∧ OwnC 61 p129 c131 x124.1.t.f C132 ∧ OwnD 43 53 p133 c135 x124.1.c C136) (fun | (p125, p129, p133, c127, c131, c135, C128, C132, C136) => [(2, .pointer (some ⟨b1, 0, none⟩)), (3, .int .i64 x18.1), (4, .pointer (some ⟨b2, 0, none⟩))]) (fun | (p125, p129, p133, c127, c131, c135, C128, C132, C136) => [(0, [(b1, .cells #[.slice p125 ((x124.1.t.b).length) c127, .slice p129 ((x124.1.t.f).length) c131, .slice p133 ((x124.1.c).length) c135] 29 (0, 0))]), (1, [(b2, .cells #[.int .i64 x19.1.s, .int .i64 x19.1.p] 36 (0, 0))]), (46, C128), (47, C132), (48, C136)]) ⟨(hΦ 2 (by decide)).1, (hΦ 2 (by decide)).2.1, (hΦ 2 (by decide)).2.2⟩ ⟨rfl, rfl, rfl, trivial⟩ ⟨rfl, rfl, rfl, rfl, rfl, trivial⟩ ?_
 rintro ⟨p125, p129, p133, c127, c131, c135, C128, C132, C136⟩ ⟨o128, o132, o136⟩
 dsimp only
 refine kw_nx (cw_ret ?_)
 obtain rfl := sI H0
 exact kr Tryd.results28 (.cons (.cellN (us := [_, _, _]) ts29 rfl (Cells.box (id := 0) rfl 3 rfl)) (.cons (.tmp rfl) (rC2 1 ts36 rfl rfl))) [46, 47, 48] ⟨_, _, _, _, _, _, _, _, _, _, _, _, rfl, rfl, rfl, o128, rfl, o132, rfl, o136⟩

theorem c_s_DrawLookCpu (fl : Nat) (w : World) (a0 : (List UInt8)) (hn0_0 : n0_0 = (a0).length) (hr0_0 : RO w (hkeys []) (RdL p0_0 c0_0 a0)) (r : Sy × Int × K) (H0 : s_DrawLookCpu fl a0 = some r) :
  Ct Tryd.prog 9 [.slice p0_0 n0_0 c0_0] w [] (fun rv h' => ∃ (x0 : Option Addr) (y0 z0 : Nat) (C0 : Res) (x1 : Option Addr) (y1 z1 : Nat) (C1 : Res) (x2 : Option Addr) (y2 z2 : Nat) (C2 : Res), rv = .tuple #[.agg #[.slice x0 y0 z0, .slice x1 y1 z1, .slice x2 y2 z2], .int .i64 r.2.1, .agg #[.int .i64 r.2.2.s, .int .i64 r.2.2.p]] ∧ h' = [(0, C0), (1, C1), (2, C2)] ∧ y0 = (r.1.t.b).length ∧ OwnC 3 x0 z0 r.1.t.b C0 ∧ y1 = (r.1.t.f).length ∧ OwnC 61 x1 z1 r.1.t.f C1 ∧ y2 = (r.1.c).length ∧ OwnD 43 53 x2 z2 r.1.c C2) := by
 subst hn0_0
 unfold s_DrawLookCpu at H0
 refine ct_of_cw Tryd.func9 rfl Tryd.ntmps9 rfl (Sat.refl _ _) ?_
 refine sr (oE (stpU_alloc 0 tz29 rfl) rfl ?_)
 rintro _ _ ⟨b1, rfl, rfl⟩
 refine oS rfl (oE (stpU_alloc 1 tz36 rfl) rfl ?_)
 rintro _ _ ⟨b2, rfl, rfl⟩
 obtain ⟨x3, e3, H0⟩ := bS H0
 refine nn (sr (oM rfl (oE (stpU_call (fun i => 2 + i) cf28 (fun w hw => c_s_l8At fl w a0 rfl (RO.pass hr0_0 hw) x3 e3) (yA rfl)) rfl ?_)))
 rintro _ _ ⟨_, ⟨p4, _, c6, C7, p8, _, c10, C11, p12, _, c14, C15, rfl, rfl, rfl, o7, rfl, o11, rfl, o15⟩, rfl⟩
 refine oT rfl (oT rfl (oT rfl (oC3 0 ts29 rfl rfl (oS rfl (oC2 1 ts36 rfl rfl (nn (cw_ret ?_)))))))
 obtain rfl := sI H0
 exact kr Tryd.results9 (.cons (.cellN (us := [_, _, _]) ts29 rfl (Cells.box (id := 0) rfl 3 rfl)) (.cons (.tmp rfl) (rC2 1 ts36 rfl rfl))) [2, 3, 4] ⟨_, _, _, _, _, _, _, _, _, _, _, _, rfl, rfl, rfl, o7, rfl, o11, rfl, o15⟩

theorem c_i_TableValid (fl : Nat) (w : World) (a0 : T) (hn0_0 : n0_0 = (a0.b).length) (hr0_0 : RO w (hkeys []) (RdL p0_0 c0_0 a0.b)) (hn0_1 : n0_1 = (a0.f).length) (hr0_1 : RO w (hkeys []) (RdL p0_1 c0_1 a0.f)) (hg : RO w (hkeys []) (fun w' => w'.rangeAt 0 0 [.bool false, .int .i64 0, .int .i64 0, .int .i64 0, .int .i64 (-1)])) (r : Bool) (H0 : i_TableValid fl a0 = some r) :
    Ct Tryd.prog 23 [.agg #[.slice p0_0 n0_0 c0_0, .slice p0_1 n0_1 c0_1]] w [] (fun rv h' => rv = .bool r ∧ h' = []) := by
  obtain rfl := hn0_0
  obtain rfl := hn0_1
  unfold i_TableValid at H0
  obtain rfl := Option.some.inj H0
  exact ct_of_calls (tableValid_c _ a0 w ⟨_, _, rfl, (hr0_0 w (Fr.refl _ _)).rd, (hr0_1 w (Fr.refl _ _)).rd⟩ (freeG_of (hg w (Fr.refl _ _))))

theorem c_i_within (fl : Nat) (w : World) (a0 : Int) (a1 : Int) (r : Bool) (H0 : i_within fl a0 a1 = some r) :
  Ct Tryd.prog 27 [.int .i64 a0, .int .i64 a1] w [] (fun rv h' => rv = .bool r ∧ h' = []) := by
 unfold i_within at H0
 refine ct_of_cw Tryd.func27 rfl Tryd.ntmps27 rfl (Sat.refl _ _) ?_
 obtain ⟨y1, ey1, H0⟩ := bS H0
 refine sr (oS rfl (nn (sr (oM rfl (oI rfl (oM rfl (ow_cutY 4 11 y1 ?_ ?_)))))))
 ·rcases Bool.eq_false_or_eq_true (decide (0 ≤ a0)) with hy1 | hy1
  ·have ey1 := cond_t ey1 hy1
   refine oG rfl hy1 (mv rfl) rfl (oG rfl hy1 (mv rfl) rfl (oG rfl hy1 (stp_lss rfl rfl) rfl (oD (stp_pick_t rfl hy1 rfl) rfl ?_)))
   obtain rfl := sI ey1
   exact ow_nil (jy 4 0)
  have ey1 := cond_f ey1 hy1
  refine oO rfl hy1 rfl (oO rfl hy1 rfl (oO rfl hy1 rfl (oD (stp_pick_f rfl hy1 rfl) rfl ?_)))
  obtain rfl := sI ey1
  exact ow_nil (jy 4 0)
 refine oS rfl (nn (cw_ret ?_))
 obtain rfl := sI H0
 exact kr Tryd.results27 (rT rfl) [] ⟨rfl, rfl⟩

theorem c_i_KeyValid (fl : Nat) (w : World) (a0 : K) (r : Bool) (H0 : i_KeyValid fl a0 = some r) :
  Ct Tryd.prog 30 [.agg #[.int .i64 a0.s, .int .i64 a0.p]] w [] (fun rv h' => rv = .bool r ∧ h' = []) := by
 unfold i_KeyValid at H0
 refine ct_of_cw Tryd.func30 rfl Tryd.ntmps30 rfl (Sat.refl _ _) ?_
 refine sr (oE (stpU_box 0 rfl rfl) rfl ?_)
 rintro _ _ ⟨b1, rfl, rfl⟩
 obtain ⟨x2, e2, H0⟩ := bS H0
 refine oS rfl (nn (sr (oA 0 Tryd.underlying36 rfl ts3 rfl (oL 0 ts3 rfl (oE (stpU_call (fun i => 1 + i) cf27 (fun w hw => c_i_within fl w a0.s 16 x2 e2) (yB rfl rfl)) rfl ?_)))))
 rintro _ _ ⟨_, ⟨rfl, rfl⟩, rfl⟩
 obtain ⟨y3, ey3, H0⟩ := bS H0
 refine oM rfl (ow_cutY 4 10 y3 ?_ ?_)
 ·rcases Bool.eq_false_or_eq_true x2 with hy3 | hy3
  ·have ey3 := cond_t ey3 hy3
   obtain ⟨x4, e4, ey3⟩ := bS ey3
   refine oG rfl hy3 (fA 1 Tryd.underlying36 rfl ts3 rfl rfl rfl) rfl (oG rfl hy3 (lB 0 ts3 rfl rfl rfl) rfl (ow_eff (.some rfl hy3) (stpU_call (fun i => 1 + i) cf27 (fun w hw => c_i_within fl w a0.p 256 x4 e4) (yB rfl rfl)) rfl ?_))
   rintro _ _ ⟨_, ⟨rfl, rfl⟩, rfl⟩
   refine oD (stp_pick_t rfl hy3 rfl) rfl ?_
   obtain rfl := sI ey3
   exact ow_nil (jy 4 0)
  have ey3 := cond_f ey3 hy3
  refine oO rfl hy3 rfl (oO rfl hy3 rfl (oO rfl hy3 rfl (oD (stp_pick_f rfl hy3 rfl) rfl ?_)))
  obtain rfl := sI ey3
  exact ow_nil (jy 4 0)
 refine oS rfl (nn (cw_ret ?_))
 obtain rfl := sI H0
 exact kr Tryd.results30 (rT rfl) [] ⟨rfl, rfl⟩

theorem c_i_noteOf_1 (fl : Nat) (w : World) (a0 : Nt) (qc0 : Nat) (ac0 : K) (hbac0 : RO w (hkeys []) (fun w' => w'.rangeAt qc0 0 [.int .i64 ac0.s, .int .i64 ac0.p])) (r : Bool) (H0 : i_noteOf_1 fl a0 ac0 = some r) :
  Ct Tryd.prog 56 [.agg #[.int .i64 a0.k.s, .int .i64 a0.k.p, .int .i64 a0.fr], .pointer (some ⟨qc0, 0, none⟩)] w [] (fun rv h' => rv = .bool r ∧ h' = []) := by
 unfold i_noteOf_1 at H0
 refine ct_of_cw Tryd.func56 rfl Tryd.ntmps56 rfl (Sat.refl _ _) ?_
 refine sr (oE (stpU_box 0 rfl rfl) rfl ?_)
 rintro _ _ ⟨b1, rfl, rfl⟩
 refine oS rfl (nn (sr (oA 0 Tryd.underlying53 rfl ts36 rfl (oB2 0 ts36 rfl (oD (stp_loadN (us := [_, _]) ts36 rfl (Cells.ofRO hbac0 2 rfl)) rfl (oD (stp_eqlS te36 a0.k ac0 rfl rfl) rfl (oS rfl (nn (cw_ret ?_)))))))))
 obtain rfl := sI H0
 exact kr Tryd.results56 (rT rfl) [] ⟨rfl, rfl⟩

theorem c_slices_IndexFunc_Note_of_i_noteOf_1 (fl : Nat) (w : World) (a0 : (List Nt)) (q1_0 : Nat) (a1_0 : K) (hn0_0 : n0_0 = (a0).length) (hr0_0 : RO w (hkeys []) (RdL p0_0 c0_0 a0)) (hba1_0 : RO w (hkeys []) (fun w' => w'.rangeAt q1_0 0 [.int .i64 a1_0.s, .int .i64 a1_0.p])) (r : Int) (H0 : slices_IndexFunc_Note_of_i_noteOf_1 fl a0 a1_0 = some r) :
  Ct Tryd.prog 55 [.slice p0_0 n0_0 c0_0, .func (.func 56) #[] #[.pointer (some ⟨q1_0, 0, none⟩)]] w [] (fun rv h' => rv = .int .i64 r ∧ h' = []) := by
 subst hn0_0
 unfold slices_IndexFunc_Note_of_i_noteOf_1 at H0
 refine ct_of_cw Tryd.func55 rfl Tryd.ntmps55 rfl (Sat.refl _ _) ?_
 obtain ⟨o0_0, eo0_0, H0⟩ := bS H0
 refine sr (oS rfl (nn (cw_seq (sr (oM rfl (oD (stp_len Tryd.underlying41 rfl) rfl (oM rfl (nn (cw_join (ι := Int) (fun | v1 => o0_0 = .out v1) (fun | v1 => [(0, .slice p0_0 ((a0).length) c0_0), (1, .func (.func 56) #[] #[.pointer (some ⟨q1_0, 0, none⟩)]), (7, .int .i64 ((a0).length : Int)), (8, .int .i64 v1)]) (fun | v1 => []) ?_ ?_)))))))))
 ·refine cw_block (cw_loopS (ι := Nat × Int) (js := []) (fun x => x.1) (fun | (fuel, v1) => slices_IndexFunc_Note_of_i_noteOf_1_L0 fl a0 a1_0 fuel v1 = some o0_0) (fun | (_, v1) => [(0, .slice p0_0 ((a0).length) c0_0), (1, .func (.func 56) #[] #[.pointer (some ⟨q1_0, 0, none⟩)]), (7, .int .i64 ((a0).length : Int)), (8, .int .i64 v1)]) (fun | (_, v1) => []) (fl, 0) eo0_0 ⟨rfl, rfl, rfl, rfl, trivial⟩ trivial (by decide) ?_)
  rintro ⟨fuel, v1⟩ H1
  have H1 : slices_IndexFunc_Note_of_i_noteOf_1_L0 fl a0 a1_0 fuel v1 = some o0_0 := H1
  rcases fuel with _ | fuel
  ·rw [slices_IndexFunc_Note_of_i_noteOf_1_L0.eq_1] at H1; cases H1
  rw [slices_IndexFunc_Note_of_i_noteOf_1_L0.eq_2] at H1
  dsimp only
  refine sr (oW rfl (nn (cw_seq (cw_cond rfl (fun h2 => ?_) (fun h2 => ?_)))))
  ·have H1 := cond_t H1 h2
   obtain ⟨x3, e3, H1⟩ := bS H1
   refine cw_skip (kw_nx (cw_seq (cw_block (sr (oM rfl (oS rfl (nn (sr (oM rfl (oM rfl (oM rfl (oD (stp_indexAddr Tryd.underlying41 ts53 (by decide) rfl rfl rfl (Rdb.ro hr0_0) e3) rfl (oD (stp_loadN (us := [_, _, _]) ts53 rfl (Cells.el (Rdb.ro hr0_0) (by decide) e3 0 3 rfl)) rfl ?_)))))))))))))
   obtain ⟨x4, e4, H1⟩ := bS H1
   refine oE (stpU_callF (vals := [_]) (ca := [_]) (fun i => 0 + i) cf56 (fun w hw => c_i_noteOf_1 fl w x3 q1_0 a1_0 (RO.pass hba1_0 hw) x4 e4) rfl (yA rfl)) rfl ?_
   rintro _ _ ⟨_, ⟨rfl, rfl⟩, rfl⟩
   refine nn (cw_cond rfl (fun h5 => ?_) (fun h5 => ?_))
   ·have H1 := cond_t H1 h5
    refine sr (oM rfl (oS rfl (nn (cw_ret (kw_bl_ret (kw_nx_ret (kw_lq_ret (kw_bl_ret (kw_join_ret (kw_nx_ret ?_))))))))))
    obtain rfl := sI H1
    obtain rfl := sI H0
    exact kr Tryd.results55 (rT rfl) [] ⟨rfl, rfl⟩
   have H1 := cond_f H1 h5
   obtain ⟨x6, e6, H1⟩ := bS H1
   exact cw_skip (kw_bl_normal (kw_nx (cw_region (oP e6 rfl (oM rfl (ow_nil (kw_lqS (js := []) (fuel, x6) H1 (Nat.lt_succ_self _) ⟨rfl, rfl, rfl, rfl, trivial⟩ trivial (by decide))))))))
  have H1 := cond_f H1 h2
  refine cw_exit (kw_nx_exit (kw_lq_exit (kw_bl ?_)))
  obtain rfl := sI H1
  exact kw_joinS (js := []) v1 rfl ⟨rfl, rfl, rfl, rfl, trivial⟩ trivial (by decide)
 rintro v1 rfl
 dsimp only
 refine kw_nx (sr (oS rfl (nn (cw_ret ?_))))
 obtain rfl := sI H0
 exact kr Tryd.results55 (rT rfl) [] ⟨rfl, rfl⟩

theorem c_i_noteOf (fl : Nat) (w : World) (a0 : (List Nt)) (a1 : K) (hn0_0 : n0_0 = (a0).length) (hr0_0 : RO w (hkeys []) (RdL p0_0 c0_0 a0)) (r : Int) (H0 : i_noteOf fl a0 a1 = some r) :
  Ct Tryd.prog 26 [.slice p0_0 n0_0 c0_0, .agg #[.int .i64 a1.s, .int .i64 a1.p]] w [] (fun rv h' => rv = .int .i64 r ∧ h' = []) := by
 subst hn0_0
 unfold i_noteOf at H0
 refine ct_of_cw Tryd.func26 rfl Tryd.ntmps26 rfl (Sat.refl _ _) ?_
 refine sr (oE (stpU_box 0 rfl rfl) rfl ?_)
 rintro _ _ ⟨b1, rfl, rfl⟩
 obtain ⟨x2, e2, H0⟩ := bS H0
 refine oS rfl (nn (sr (oM rfl (oD (stp_makeFunc (yA rfl)) rfl (oE (stpU_call (fun i => 1 + i) cf55 (fun w hw => c_slices_IndexFunc_Note_of_i_noteOf_1 fl w a0 b1 a1 rfl (RO.pass hr0_0 hw) (box_pass (id := 0) rfl hw) x2 e2) (yB rfl rfl)) rfl ?_)))))
 rintro _ _ ⟨_, ⟨rfl, rfl⟩, rfl⟩
 refine oS rfl (nn (cw_ret ?_))
 obtain rfl := sI H0
 exact kr Tryd.results26 (rT rfl) [] ⟨rfl, rfl⟩

theorem c_i_each (fl : Nat) (w : World) (a0 : (List Nt)) (hn0_0 : n0_0 = (a0).length) (hr0_0 : RO w (hkeys []) (RdL p0_0 c0_0 a0)) (r : Bool) (H0 : i_each fl a0 = some r) :
  Ct Tryd.prog 24 [.slice p0_0 n0_0 c0_0] w [] (fun rv h' => rv = .bool r ∧ h' = []) := by
 subst hn0_0
 unfold i_each at H0
 refine ct_of_cw Tryd.func24 rfl Tryd.ntmps24 rfl (Sat.refl _ _) ?_
 obtain ⟨o0_0, eo0_0, H0⟩ := bS H0
 refine sr (oS rfl (nn (cw_seq (sr (oM rfl (oD (stp_len Tryd.underlying41 rfl) rfl (oM rfl (nn (cw_join (ι := Int) (fun | v1 => o0_0 = .out v1) (fun | v1 => [(0, .slice p0_0 ((a0).length) c0_0), (5, .slice p0_0 ((a0).length) c0_0), (6, .int .i64 ((a0).length : Int)), (7, .int .i64 v1)]) (fun | v1 => []) ?_ ?_)))))))))
 ·refine cw_block (cw_loopS (ι := Nat × Int) (js := []) (fun x => x.1) (fun | (fuel, v1) => i_each_L0 fl a0 fuel v1 = some o0_0) (fun | (_, v1) => [(0, .slice p0_0 ((a0).length) c0_0), (5, .slice p0_0 ((a0).length) c0_0), (6, .int .i64 ((a0).length : Int)), (7, .int .i64 v1)]) (fun | (_, v1) => []) (fl, 0) eo0_0 ⟨rfl, rfl, rfl, rfl, trivial⟩ trivial (by decide) ?_)
  rintro ⟨fuel, v1⟩ H1
  have H1 : i_each_L0 fl a0 fuel v1 = some o0_0 := H1
  rcases fuel with _ | fuel
  ·rw [i_each_L0.eq_1] at H1; cases H1
  rw [i_each_L0.eq_2] at H1
  dsimp only
  refine sr (oW rfl (nn (cw_seq (cw_cond rfl (fun h2 => ?_) (fun h2 => ?_)))))
  ·have H1 := cond_t H1 h2
   obtain ⟨x3, e3, H1⟩ := bS H1
   refine cw_skip (kw_nx (cw_seq (cw_block (sr (oM rfl (oD (stp_indexAddr Tryd.underlying41 ts53 (by decide) rfl rfl rfl (Rdb.ro hr0_0) e3) rfl (oD (stp_loadN (us := [_, _, _]) ts53 rfl (Cells.el (Rdb.ro hr0_0) (by decide) e3 0 3 rfl)) rfl (oE (stpU_alloc 0 tz53 rfl) rfl ?_))))))))
   rintro _ _ ⟨b4, rfl, rfl⟩
   obtain ⟨x5, e5, H1⟩ := bS H1
   obtain ⟨y6, ey6, H1⟩ := bS H1
   refine oS rfl (oC3 0 ts53 rfl rfl (nn (cw_seq (cw_join (ι := Unit) (fun | _ => True) (fun | _ => [(0, .slice p0_0 ((a0).length) c0_0), (5, .slice p0_0 ((a0).length) c0_0), (6, .int .i64 ((a0).length : Int)), (7, .int .i64 v1), (24, .bool y6)]) (fun | _ => []) ?_ ?_))))
   ·rcases Bool.eq_false_or_eq_true (!x5) with hy6 | hy6
    ·have ey6 := cond_t ey6 hy6
     have qy6 := sI ey6
     refine rdq g_mixed [4] [0] { dst := dS [13, 14, 15, 16, 17, 18, 19, 20, 21, 22, 23, 24, 25], pre := gA [] [[], [0], [0, 1], [0, 1, 2], rn 0 4, rn 0 5, rn 0 5, rn 0 7, rn 0 5, [0, 1, 2, 3, 4, 8], rn 0 10, rn 0 11, rn 0 12], ids := fun _ => [], rs := rL [[(4, 0)], [(12, 1)], [(13, 2)], [(14, 3)], [(15, 4)], [(16, 5)], [(16, 5)], [(16, 5)], [(16, 5)], [(16, 5)], [(16, 5)], [(16, 5)], [(16, 5), (23, 12)]], rh := rL [[], [(0, 0)]], V := fun i g => gA undef [.pointer (some ⟨b4, 0, none⟩), .agg #[.int .i64 x3.k.s, .int .i64 x3.k.p], .bool x5, .bool (!x5), .bool (!x5), undef, undef, undef, undef, undef, undef, undef, .bool y6] i, U := fun _ _ => [], Φ := fun _ _ => True } ?_ ?_
     ·refine ⟨lc rfl rfl fun hs hh => stp_fieldAddr (j := 0) Tryd.underlying53 rfl ts36 rfl (sv hs 4 rfl) rfl, lc rfl rfl fun hs hh => stp_loadN (us := [_, _]) ts36 (sv hs 12 rfl) (Cells.box (id := 0) (hh.get 0 _ rfl) 2 rfl), ?_, lc rfl rfl fun hs hh => stp_not (sv hs 14 rfl), lM, lo rfl rfl 16 hy6, lo rfl rfl 16 hy6, lo rfl rfl 16 hy6, lo rfl rfl 16 hy6, lo rfl rfl 16 hy6, lo rfl rfl 16 hy6, lo rfl rfl 16 hy6, lc rfl rfl fun hs hh => stp_pick_tB (sv hs 16 rfl) hy6 rfl qy6, trivial⟩
      refine le rfl rfl (fun g hΦ s h hs hh => (stpU_call (fun i => 1 + i) cf30 (fun w hw => c_i_KeyValid fl w x3.k x5 e5) (yA (sv hs 13 rfl)))) ?_
      rintro g _ _ ⟨_, ⟨rfl, rfl⟩, rfl⟩
      exact ⟨⟨[], [], []⟩, trivial, .inr rfl, rfl⟩
     intro g hΦ
     exact kw_join () trivial ⟨rfl, rfl, rfl, rfl, rfl, trivial⟩ trivial
    have ey6 := cond_f ey6 hy6
    obtain ⟨x7, e7, ey6⟩ := bS ey6
    obtain ⟨x8, e8, ey6⟩ := bS ey6
    have qy6 := sI ey6
    refine rdq g_mixed [0, 3, 4] [0] { dst := dS [13, 14, 15, 16, 17, 18, 19, 20, 21, 22, 23, 24, 25], pre := gA [] [[], [0], [0, 1], [0, 1, 2], rn 0 4, rn 0 5, rn 0 5, rn 0 7, rn 0 5, [0, 1, 2, 3, 4, 8], rn 0 10, rn 0 11, rn 0 12], ids := fun _ => [], rs := rL [[(4, 0)], [(12, 1)], [(13, 2)], [(14, 3)], [(15, 4)], [(0, 0), (16, 5)], [(3, 0), (16, 5)], [(17, 6), (18, 7), (16, 5)], [(4, 0), (16, 5)], [(20, 9), (16, 5)], [(19, 8), (21, 10), (16, 5)], [(22, 11), (16, 5)], [(16, 5), (23, 12)]], rh := rL [[], [(0, 0)], [], [], [], [], [], [], [], [(0, 0)]], V := fun i g => gA undef [.pointer (some ⟨b4, 0, none⟩), .agg #[.int .i64 x3.k.s, .int .i64 x3.k.p], .bool x5, .bool (!x5), .bool (!x5), .slice p0_0 ((a0).length) c0_0, .int .i64 v1, .slice p0_0 ((x7).length) c0_0, .pointer (some ⟨b4, 0, none⟩), .agg #[.int .i64 x3.k.s, .int .i64 x3.k.p], .int .i64 x8, .bool (decide (0 ≤ x8)), .bool y6] i, U := fun _ _ => [], Φ := fun _ _ => True } ?_ ?_
    ·refine ⟨lc rfl rfl fun hs hh => stp_fieldAddr (j := 0) Tryd.underlying53 rfl ts36 rfl (sv hs 4 rfl) rfl, lc rfl rfl fun hs hh => stp_loadN (us := [_, _]) ts36 (sv hs 12 rfl) (Cells.box (id := 0) (hh.get 0 _ rfl) 2 rfl), ?_, lc rfl rfl fun hs hh => stp_not (sv hs 14 rfl), lM, lg rfl rfl 16 hy6 fun hs hh => stp_move (sv hs 0 rfl), lg rfl rfl 16 hy6 fun hs hh => stp_move (sv hs 3 rfl), lg rfl rfl 16 hy6 fun hs hh => stp_take Tryd.underlying41 ts53 (sv hs 17 rfl) rfl (sv hs 18 rfl) (Rdb.ro hr0_0) e7, lg rfl rfl 16 hy6 fun hs hh => stp_fieldAddr (j := 0) Tryd.underlying53 rfl ts36 rfl (sv hs 4 rfl) rfl, lg rfl rfl 16 hy6 fun hs hh => stp_loadN (us := [_, _]) ts36 (sv hs 20 rfl) (Cells.box (id := 0) (hh.get 0 _ rfl) 2 rfl), ?_, lg rfl rfl 16 hy6 fun hs hh => stp_geq (sv hs 22 rfl) rfl, lc rfl rfl fun hs hh => stp_pick_fB (sv hs 16 rfl) hy6 (sv hs 23 rfl) qy6, trivial⟩
     ·refine le rfl rfl (fun g hΦ s h hs hh => (stpU_call (fun i => 1 + i) cf30 (fun w hw => c_i_KeyValid fl w x3.k x5 e5) (yA (sv hs 13 rfl)))) ?_
      rintro g _ _ ⟨_, ⟨rfl, rfl⟩, rfl⟩
      exact ⟨⟨[], [], []⟩, trivial, .inr rfl, rfl⟩
     refine loc_eff rfl rfl (fun g hΦ s h hs hh => ⟨(.some (gval_of rfl (sv hs 16 rfl)) hy6), (stpU_call (fun i => 1 + i) cf26 (fun w hw => c_i_noteOf fl w x7 x3.k rfl (RO.pass (RO.take hr0_0 e7) hw) x8 e8) (yB (sv hs 19 rfl) (sv hs 21 rfl)))⟩) ?_
     rintro g _ _ ⟨_, ⟨rfl, rfl⟩, rfl⟩
     exact ⟨⟨[], [], []⟩, trivial, .inr rfl, rfl⟩
    intro g hΦ
    exact kw_join () trivial ⟨rfl, rfl, rfl, rfl, rfl, trivial⟩ trivial
   rintro _ -
   dsimp only
   refine kw_nx (cw_cond rfl (fun h9 => ?_) (fun h9 => ?_))
   ·have H1 := cond_t H1 h9
    refine sr (oS rfl (nn (cw_ret (kw_bl_ret (kw_nx_ret (kw_lq_ret (kw_bl_ret (kw_join_ret (kw_nx_ret ?_)))))))))
    obtain rfl := sI H1
    obtain rfl := sI H0
    exact kr Tryd.results24 (rT rfl) [] ⟨rfl, rfl⟩
   have H1 := cond_f H1 h9
   obtain ⟨x10, e10, H1⟩ := bS H1
   exact cw_skip (kw_bl_normal (kw_nx (cw_region (oP e10 rfl (oM rfl (ow_nil (kw_lqS (js := []) (fuel, x10) H1 (Nat.lt_succ_self _) ⟨rfl, rfl, rfl, rfl, trivial⟩ trivial (by decide))))))))
  have H1 := cond_f H1 h2
  refine cw_exit (kw_nx_exit (kw_lq_exit (kw_bl ?_)))
  obtain rfl := sI H1
  exact kw_joinS (js := []) v1 rfl ⟨rfl, rfl, rfl, rfl, trivial⟩ trivial (by decide)
 rintro v1 rfl
 dsimp only
 refine kw_nx (sr (oM rfl (oD (stp_len Tryd.underlying41 rfl) rfl (oV rfl (oS rfl (nn (cw_ret ?_)))))))
 obtain rfl := sI H0
 exact kr Tryd.results24 (rT rfl) [] ⟨rfl, rfl⟩

theorem c_i_Table_find_1 (fl : Nat) (w : World) (a0 : F) (qc0 : Nat) (ac0 : K) (hbac0 : RO w (hkeys []) (fun w' => w'.rangeAt qc0 0 [.int .i64 ac0.s, .int .i64 ac0.p])) (r : Bool) (H0 : i_Table_find_1 fl a0 ac0 = some r) :
  Ct Tryd.prog 54 [.agg #[.bool a0.u, .int .i64 a0.k.s, .int .i64 a0.k.p, .int .i64 a0.r, .int .i64 a0.nx], .pointer (some ⟨qc0, 0, none⟩)] w [] (fun rv h' => rv = .bool r ∧ h' = []) := by
 unfold i_Table_find_1 at H0
 refine ct_of_cw Tryd.func54 rfl Tryd.ntmps54 rfl (Sat.refl _ _) ?_
 refine sr (oE (stpU_box 0 rfl rfl) rfl ?_)
 rintro _ _ ⟨b1, rfl, rfl⟩
 obtain ⟨y2, ey2, H0⟩ := bS H0
 refine oS rfl (nn (sr (oA 0 Tryd.underlying61 rfl ts4 rfl (oL 0 ts4 rfl (oM rfl (ow_cutY 5 11 y2 ?_ ?_))))))
 ·rcases Bool.eq_false_or_eq_true a0.u with hy2 | hy2
  ·have ey2 := cond_t ey2 hy2
   refine oG rfl hy2 (fA 1 Tryd.underlying61 rfl ts36 rfl rfl rfl) rfl (oG rfl hy2 (stp_loadN (us := [_, _]) ts36 rfl (Cells.box (id := 0) rfl 2 rfl)) rfl (oG rfl hy2 (stp_loadN (us := [_, _]) ts36 rfl (Cells.ofRO hbac0 2 rfl)) rfl (oG rfl hy2 (stp_eqlS te36 a0.k ac0 rfl rfl) rfl (oD (stp_pick_t rfl hy2 rfl) rfl ?_))))
   obtain rfl := sI ey2
   exact ow_nil (jy 5 0)
  have ey2 := cond_f ey2 hy2
  refine oO rfl hy2 rfl (oO rfl hy2 rfl (oO rfl hy2 rfl (oO rfl hy2 rfl (oD (stp_pick_f rfl hy2 rfl) rfl ?_))))
  obtain rfl := sI ey2
  exact ow_nil (jy 5 0)
 refine oS rfl (nn (cw_ret ?_))
 obtain rfl := sI H0
 exact kr Tryd.results54 (rT rfl) [] ⟨rfl, rfl⟩

theorem c_slices_IndexFunc_Frame_of_i_Table_find_1 (fl : Nat) (w : World) (a0 : (List F)) (q1_0 : Nat) (a1_0 : K) (hn0_0 : n0_0 = (a0).length) (hr0_0 : RO w (hkeys []) (RdL p0_0 c0_0 a0)) (hba1_0 : RO w (hkeys []) (fun w' => w'.rangeAt q1_0 0 [.int .i64 a1_0.s, .int .i64 a1_0.p])) (r : Int) (H0 : slices_IndexFunc_Frame_of_i_Table_find_1 fl a0 a1_0 = some r) :
  Ct Tryd.prog 53 [.slice p0_0 n0_0 c0_0, .func (.func 54) #[] #[.pointer (some ⟨q1_0, 0, none⟩)]] w [] (fun rv h' => rv = .int .i64 r ∧ h' = []) := by
 subst hn0_0
 unfold slices_IndexFunc_Frame_of_i_Table_find_1 at H0
 refine ct_of_cw Tryd.func53 rfl Tryd.ntmps53 rfl (Sat.refl _ _) ?_
 obtain ⟨o0_0, eo0_0, H0⟩ := bS H0
 refine sr (oS rfl (nn (cw_seq (sr (oM rfl (oD (stp_len Tryd.underlying24 rfl) rfl (oM rfl (nn (cw_join (ι := Int) (fun | v1 => o0_0 = .out v1) (fun | v1 => [(0, .slice p0_0 ((a0).length) c0_0), (1, .func (.func 54) #[] #[.pointer (some ⟨q1_0, 0, none⟩)]), (7, .int .i64 ((a0).length : Int)), (8, .int .i64 v1)]) (fun | v1 => []) ?_ ?_)))))))))
 ·refine cw_block (cw_loopS (ι := Nat × Int) (js := []) (fun x => x.1) (fun | (fuel, v1) => slices_IndexFunc_Frame_of_i_Table_find_1_L0 fl a0 a1_0 fuel v1 = some o0_0) (fun | (_, v1) => [(0, .slice p0_0 ((a0).length) c0_0), (1, .func (.func 54) #[] #[.pointer (some ⟨q1_0, 0, none⟩)]), (7, .int .i64 ((a0).length : Int)), (8, .int .i64 v1)]) (fun | (_, v1) => []) (fl, 0) eo0_0 ⟨rfl, rfl, rfl, rfl, trivial⟩ trivial (by decide) ?_)
  rintro ⟨fuel, v1⟩ H1
  have H1 : slices_IndexFunc_Frame_of_i_Table_find_1_L0 fl a0 a1_0 fuel v1 = some o0_0 := H1
  rcases fuel with _ | fuel
  ·rw [slices_IndexFunc_Frame_of_i_Table_find_1_L0.eq_1] at H1; cases H1
  rw [slices_IndexFunc_Frame_of_i_Table_find_1_L0.eq_2] at H1
  dsimp only
  refine sr (oW rfl (nn (cw_seq (cw_cond rfl (fun h2 => ?_) (fun h2 => ?_)))))
  ·have H1 := cond_t H1 h2
   obtain ⟨x3, e3, H1⟩ := bS H1
   refine cw_skip (kw_nx (cw_seq (cw_block (sr (oM rfl (oS rfl (nn (sr (oM rfl (oM rfl (oM rfl (oD (stp_indexAddr Tryd.underlying24 ts61 (by decide) rfl rfl rfl (Rdb.ro hr0_0) e3) rfl (oD (stp_loadN (us := [_, _, _, _, _]) ts61 rfl (Cells.el (Rdb.ro hr0_0) (by decide) e3 0 5 rfl)) rfl ?_)))))))))))))
   obtain ⟨x4, e4, H1⟩ := bS H1
   refine oE (stpU_callF (vals := [_]) (ca := [_]) (fun i => 0 + i) cf54 (fun w hw => c_i_Table_find_1 fl w x3 q1_0 a1_0 (RO.pass hba1_0 hw) x4 e4) rfl (yA rfl)) rfl ?_
   rintro _ _ ⟨_, ⟨rfl, rfl⟩, rfl⟩
   refine nn (cw_cond rfl (fun h5 => ?_) (fun h5 => ?_))
   ·have H1 := cond_t H1 h5
    refine sr (oM rfl (oS rfl (nn (cw_ret (kw_bl_ret (kw_nx_ret (kw_lq_ret (kw_bl_ret (kw_join_ret (kw_nx_ret ?_))))))))))
    obtain rfl := sI H1
    obtain rfl := sI H0
    exact kr Tryd.results53 (rT rfl) [] ⟨rfl, rfl⟩
   have H1 := cond_f H1 h5
   obtain ⟨x6, e6, H1⟩ := bS H1
   exact cw_skip (kw_bl_normal (kw_nx (cw_region (oP e6 rfl (oM rfl (ow_nil (kw_lqS (js := []) (fuel, x6) H1 (Nat.lt_succ_self _) ⟨rfl, rfl, rfl, rfl, trivial⟩ trivial (by decide))))))))
  have H1 := cond_f H1 h2
  refine cw_exit (kw_nx_exit (kw_lq_exit (kw_bl ?_)))
  obtain rfl := sI H1
  exact kw_joinS (js := []) v1 rfl ⟨rfl, rfl, rfl, rfl, trivial⟩ trivial (by decide)
 rintro v1 rfl
 dsimp only
 refine kw_nx (sr (oS rfl (nn (cw_ret ?_))))
 obtain rfl := sI H0
 exact kr Tryd.results53 (rT rfl) [] ⟨rfl, rfl⟩

theorem c_i_Table_find (fl : Nat) (w : World) (a0 : T) (a1 : K) (hn0_0 : n0_0 = (a0.b).length) (hr0_0 : RO w (hkeys []) (RdL p0_0 c0_0 a0.b)) (hn0_1 : n0_1 = (a0.f).length) (hr0_1 : RO w (hkeys []) (RdL p0_1 c0_1 a0.f)) (r : Int) (H0 : i_Table_find fl a0 a1 = some r) :
  Ct Tryd.prog 25 [.agg #[.slice p0_0 n0_0 c0_0, .slice p0_1 n0_1 c0_1], .agg #[.int .i64 a1.s, .int .i64 a1.p]] w [] (fun rv h' => rv = .int .i64 r ∧ h' = []) := by
 subst hn0_0 hn0_1
 unfold i_Table_find at H0
 refine ct_of_cw Tryd.func25 rfl Tryd.ntmps25 rfl (Sat.refl _ _) ?_
 refine sr (oE (stpU_box 0 rfl rfl) rfl ?_)
 rintro _ _ ⟨b1, rfl, rfl⟩
 refine oE (stpU_box 1 rfl rfl) rfl ?_
 rintro _ _ ⟨b2, rfl, rfl⟩
 obtain ⟨x3, e3, H0⟩ := bS H0
 refine oS rfl (nn (sr (oA 1 Tryd.underlying26 rfl ts24 rfl (oL 0 ts24 rfl (oD (stp_makeFunc (yA rfl)) rfl (oE (stpU_call (fun i => 2 + i) cf53 (fun w hw => c_slices_IndexFunc_Frame_of_i_Table_find_1 fl w a0.f b2 a1 rfl (RO.pass hr0_1 hw) (box_pass (id := 1) rfl hw) x3 e3) (yB rfl rfl)) rfl ?_))))))
 rintro _ _ ⟨_, ⟨rfl, rfl⟩, rfl⟩
 refine oS rfl (nn (cw_ret ?_))
 obtain rfl := sI H0
 exact kr Tryd.results25 (rT rfl) [] ⟨rfl, rfl⟩

theorem c_i_SystemValid (fl : Nat) (w : World) (a0 : Sy) (hn0_0 : n0_0 = (a0.t.b).length) (hr0_0 : RO w (hkeys []) (RdL p0_0 c0_0 a0.t.b)) (hn0_1 : n0_1 = (a0.t.f).length) (hr0_1 : RO w (hkeys []) (RdL p0_1 c0_1 a0.t.f)) (hn0_2 : n0_2 = (a0.c).length) (hr0_2 : ROD w (hkeys []) p0_2 c0_2 a0.c) (hg : RO w (hkeys []) (fun w' => w'.rangeAt 0 0 [.bool false, .int .i64 0, .int .i64 0, .int .i64 0, .int .i64 (-1)])) (r : Bool) (H0 : i_SystemValid fl a0 = some r) :
  Ct Tryd.prog 8 [.agg #[.slice p0_0 n0_0 c0_0, .slice p0_1 n0_1 c0_1, .slice p0_2 n0_2 c0_2]] w [] (fun rv h' => rv = .bool r ∧ h' = []) := by
 subst hn0_0 hn0_1 hn0_2
 unfold i_SystemValid at H0
 refine ct_of_cw Tryd.func8 rfl Tryd.ntmps8 rfl (Sat.refl _ _) ?_
 refine sr (oE (stpU_box 0 rfl rfl) rfl ?_)
 rintro _ _ ⟨b1, rfl, rfl⟩
 obtain ⟨x2, e2, H0⟩ := bS H0
 refine oS rfl (nn (cw_seq (sr (oA 0 Tryd.underlying29 rfl ts26 rfl (oB2 0 ts26 rfl (oE (stpU_call (fun i => 1 + i) cf23 (fun w hw => c_i_TableValid fl w a0.t rfl (RO.pass hr0_0 hw) rfl (RO.pass hr0_1 hw) (RO.pass hg hw) x2 e2) (yA rfl)) rfl ?_))))))
 rintro _ _ ⟨_, ⟨rfl, rfl⟩, rfl⟩
 obtain ⟨y3, ey3, H0⟩ := bS H0
 refine oK rfl (oM rfl (ow_cutY 5 20 y3 ?_ ?_))
 ·rcases Bool.eq_false_or_eq_true (!x2) with hy3 | hy3
  ·have ey3 := cond_t ey3 hy3
   refine oO rfl hy3 rfl (oO rfl hy3 rfl (oO rfl hy3 rfl (oO rfl hy3 rfl (oD (stp_pick_t rfl hy3 rfl) rfl ?_))))
   obtain rfl := sI ey3
   exact ow_nil (jy 5 0)
  have ey3 := cond_f ey3 hy3
  refine oG rfl hy3 (fA 2 Tryd.underlying29 rfl ts27 rfl rfl rfl) rfl (oG rfl hy3 (lB 0 ts27 rfl rfl rfl) rfl (oG rfl hy3 (stp_len Tryd.underlying27 rfl) rfl (oG rfl hy3 (stp_lss rfl rfl) rfl (oD (stp_pick_f rfl hy3 rfl) rfl ?_))))
  obtain rfl := sI ey3
  exact ow_nil (jy 5 0)
 obtain ⟨y4, ey4, H0⟩ := bS H0
 refine oM rfl (ow_cutY 5 26 y4 ?_ ?_)
 ·rcases Bool.eq_false_or_eq_true y3 with hy4 | hy4
  ·have ey4 := cond_t ey4 hy4
   refine oO rfl hy4 rfl (oO rfl hy4 rfl (oO rfl hy4 rfl (oO rfl hy4 rfl (oD (stp_pick_t rfl hy4 rfl) rfl ?_))))
   obtain rfl := sI ey4
   exact ow_nil (jy 5 0)
  have ey4 := cond_f ey4 hy4
  refine oG rfl hy4 (fA 2 Tryd.underlying29 rfl ts27 rfl rfl rfl) rfl (oG rfl hy4 (lB 0 ts27 rfl rfl rfl) rfl (oG rfl hy4 (stp_len Tryd.underlying27 rfl) rfl (oG rfl hy4 (stp_gtr rfl rfl) rfl (oD (stp_pick_f rfl hy4 rfl) rfl ?_))))
  obtain rfl := sI ey4
  exact ow_nil (jy 5 0)
 refine ow_nil (kw_nx (cw_cond rfl (fun h5 => ?_) (fun h5 => ?_)))
 ·have H0 := cond_t H0 h5
  refine sr (oS rfl (nn (cw_ret (kw_nx_ret ?_))))
  obtain rfl := sI H0
  exact kr Tryd.results8 (rT rfl) [] ⟨rfl, rfl⟩
 have H0 := cond_f H0 h5
 obtain ⟨o0_0, eo0_0, H0⟩ := bS H0
 refine cw_skip (kw_nx (cw_seq (sr (oA 2 Tryd.underlying29 rfl ts27 rfl (oL 0 ts27 rfl (oD (stp_len Tryd.underlying27 rfl) rfl (oM rfl (nn (cw_join (ι := Int) (fun | v6 => o0_0 = .out v6) (fun | v6 => [(1, .pointer (some ⟨b1, 0, none⟩)), (28, .slice p0_2 ((a0.c).length) c0_2), (29, .int .i64 ((a0.c).length : Int)), (30, .int .i64 v6)]) (fun | v6 => [(0, [(b1, .cells #[.slice p0_0 ((a0.t.b).length) c0_0, .slice p0_1 ((a0.t.f).length) c0_1, .slice p0_2 ((a0.c).length) c0_2] 29 (0, 0))])]) ?_ ?_)))))))))
 ·refine cw_block (cw_loopS (ι := Nat × Int) (js := [0]) (fun x => x.1) (fun | (fuel, v6) => i_SystemValid_L0 fl a0 fuel v6 = some o0_0) (fun | (_, v6) => [(1, .pointer (some ⟨b1, 0, none⟩)), (28, .slice p0_2 ((a0.c).length) c0_2), (29, .int .i64 ((a0.c).length : Int)), (30, .int .i64 v6)]) (fun | (_, v6) => [(0, [(b1, .cells #[.slice p0_0 ((a0.t.b).length) c0_0, .slice p0_1 ((a0.t.f).length) c0_1, .slice p0_2 ((a0.c).length) c0_2] 29 (0, 0))])]) (fl, 0) eo0_0 ⟨rfl, rfl, rfl, rfl, trivial⟩ ⟨0, [], rfl, rfl, trivial⟩ (by decide) ?_)
  rintro ⟨fuel, v6⟩ H1
  have H1 : i_SystemValid_L0 fl a0 fuel v6 = some o0_0 := H1
  rcases fuel with _ | fuel
  ·rw [i_SystemValid_L0.eq_1] at H1; cases H1
  rw [i_SystemValid_L0.eq_2] at H1
  dsimp only
  refine sr (oW rfl (nn (cw_seq (cw_cond rfl (fun h7 => ?_) (fun h7 => ?_)))))
  ·have H1 := cond_t H1 h7
   obtain ⟨x8, e8, H1⟩ := bS H1
   refine cw_skip (kw_nx (cw_seq (cw_block (sr ?_))))
   obtain ⟨u9, p10, n11, c12, p13, n14, c15, hw9, hl9, hx9, rfl, hr9, rfl, hs9⟩ := ROD.get hr0_2 e8
   refine oD (stp_indexAddr Tryd.underlying27 ts43 (by decide) rfl hl9 rfl (Rdb.ro hw9) hx9) rfl (oD (stp_loadN (us := [_, _]) ts43 rfl (Cells.el (Rdb.ro hw9) (by decide) hx9 0 2 rfl)) rfl (oE (stpU_alloc 1 tz43 rfl) rfl ?_))
   rintro _ _ ⟨b16, rfl, rfl⟩
   obtain ⟨x17, e17, H1⟩ := bS H1
   refine oC2 1 ts43 rfl rfl (nn (cw_seq (sr (oA 0 Tryd.underlying43 rfl ts41 rfl (oL 1 ts41 rfl (oE (stpU_call (fun i => 2 + i) cf24 (fun w hw => c_i_each fl w x8.n rfl (RO.pass hr9 hw) x17 e17) (yA rfl)) rfl ?_))))))
   rintro _ _ ⟨_, ⟨rfl, rfl⟩, rfl⟩
   obtain ⟨y18, ey18, H1⟩ := bS H1
   refine oK rfl (oM rfl (ow_cutY 5 43 y18 ?_ ?_))
   ·rcases Bool.eq_false_or_eq_true (!x17) with hy18 | hy18
    ·have ey18 := cond_t ey18 hy18
     refine oO rfl hy18 rfl (oO rfl hy18 rfl (oO rfl hy18 rfl (oO rfl hy18 rfl (oD (stp_pick_t rfl hy18 rfl) rfl ?_))))
     obtain rfl := sI ey18
     exact ow_nil (jy 5 0)
    have ey18 := cond_f ey18 hy18
    obtain ⟨x19, e19, ey18⟩ := bS ey18
    refine oG rfl hy18 (fA 1 Tryd.underlying43 rfl ts41 rfl rfl rfl) rfl (oG rfl hy18 (lB 1 ts41 rfl rfl rfl) rfl (ow_eff (.some rfl hy18) (stpU_call (fun i => 2 + i) cf24 (fun w hw => c_i_each fl w x8.w rfl (RO.pass hs9 hw) x19 e19) (yA rfl)) rfl ?_))
    rintro _ _ ⟨_, ⟨rfl, rfl⟩, rfl⟩
    refine oG rfl hy18 (stp_not rfl) rfl (oD (stp_pick_f rfl hy18 rfl) rfl ?_)
    obtain rfl := sI ey18
    exact ow_nil (jy 5 0)
   refine ow_nil (kw_nx (cw_cond rfl (fun h20 => ?_) (fun h20 => ?_)))
   ·have H1 := cond_t H1 h20
    refine sr (oS rfl (nn (cw_ret (kw_nx_ret (kw_bl_ret (kw_nx_ret (kw_lq_ret (kw_bl_ret (kw_join_ret (kw_nx_ret ?_))))))))))
    obtain rfl := sI H1
    obtain rfl := sI H0
    exact kr Tryd.results8 (rT rfl) [] ⟨rfl, rfl⟩
   have H1 := cond_f H1 h20
   obtain ⟨o1_1, eo1_1, H1⟩ := bS H1
   refine cw_skip (kw_nx (cw_seq (sr (oA 0 Tryd.underlying43 rfl ts41 rfl (oL 1 ts41 rfl (oD (stp_len Tryd.underlying41 rfl) rfl (oM rfl (nn (cw_join (ι := Int) (fun | v21 => o1_1 = .out v21) (fun | v21 => [(1, .pointer (some ⟨b1, 0, none⟩)), (4, .pointer (some ⟨b16, 0, none⟩)), (28, .slice p0_2 ((a0.c).length) c0_2), (29, .int .i64 ((a0.c).length : Int)), (30, .int .i64 v6), (45, .slice p10 ((x8.n).length) c12), (46, .int .i64 ((x8.n).length : Int)), (47, .int .i64 v21)]) (fun | v21 => [(0, [(b1, .cells #[.slice p0_0 ((a0.t.b).length) c0_0, .slice p0_1 ((a0.t.f).length) c0_1, .slice p0_2 ((a0.c).length) c0_2] 29 (0, 0))]), (1, [(b16, .cells #[.slice p10 ((x8.n).length) c12, .slice p13 ((x8.w).length) c15] 43 (0, 0))])]) ?_ ?_)))))))))
   ·refine cw_block (cw_loopS (ι := Nat × Int) (js := [0, 1]) (fun x => x.1) (fun | (fuel, v21) => i_SystemValid_L1 fl a0 x8 fuel v21 = some o1_1) (fun | (_, v21) => [(1, .pointer (some ⟨b1, 0, none⟩)), (4, .pointer (some ⟨b16, 0, none⟩)), (28, .slice p0_2 ((a0.c).length) c0_2), (29, .int .i64 ((a0.c).length : Int)), (30, .int .i64 v6), (45, .slice p10 ((x8.n).length) c12), (46, .int .i64 ((x8.n).length : Int)), (47, .int .i64 v21)]) (fun | (_, v21) => [(0, [(b1, .cells #[.slice p0_0 ((a0.t.b).length) c0_0, .slice p0_1 ((a0.t.f).length) c0_1, .slice p0_2 ((a0.c).length) c0_2] 29 (0, 0))]), (1, [(b16, .cells #[.slice p10 ((x8.n).length) c12, .slice p13 ((x8.w).length) c15] 43 (0, 0))])]) (fl, 0) eo1_1 ⟨rfl, rfl, rfl, rfl, rfl, rfl, rfl, rfl, trivial⟩ ⟨0, [1], rfl, rfl, 1, [], rfl, rfl, trivial⟩ (by decide) ?_)
    rintro ⟨fuel, v21⟩ H2
    have H2 : i_SystemValid_L1 fl a0 x8 fuel v21 = some o1_1 := H2
    rcases fuel with _ | fuel
    ·rw [i_SystemValid_L1.eq_1] at H2; cases H2
    rw [i_SystemValid_L1.eq_2] at H2
    dsimp only
    refine sr (oW rfl (nn (cw_seq (cw_cond rfl (fun h22 => ?_) (fun h22 => ?_)))))
    ·have H2 := cond_t H2 h22
     obtain ⟨x23, e23, H2⟩ := bS H2
     refine cw_skip (kw_nx (cw_seq (cw_block (sr (oD (stp_indexAddr Tryd.underlying41 ts53 (by decide) rfl rfl rfl (Rdb.ro hr9) e23) rfl (oD (stp_loadN (us := [_, _, _]) ts53 rfl (Cells.el (Rdb.ro hr9) (by decide) e23 0 3 rfl)) rfl (oE (stpU_alloc 2 tz53 rfl) rfl ?_)))))))
     rintro _ _ ⟨b24, rfl, rfl⟩
     obtain ⟨x25, e25, H2⟩ := bS H2
     refine oC3 2 ts53 rfl rfl (nn (sr (oA 0 Tryd.underlying29 rfl ts26 rfl (oB2 0 ts26 rfl (oA 0 Tryd.underlying53 rfl ts36 rfl (oB2 2 ts36 rfl (oE (stpU_call (fun i => 3 + i) cf25 (fun w hw => c_i_Table_find fl w a0.t x23.k rfl (RO.pass hr0_0 hw) rfl (RO.pass hr0_1 hw) x25 e25) (yB rfl rfl)) rfl ?_)))))))
     rintro _ _ ⟨_, ⟨rfl, rfl⟩, rfl⟩
     obtain ⟨x26, e26, H2⟩ := bS H2
     refine oS rfl (nn (sr (oA 1 Tryd.underlying43 rfl ts41 rfl (oL 1 ts41 rfl (oA 0 Tryd.underlying53 rfl ts36 rfl (oB2 2 ts36 rfl (oE (stpU_call (fun i => 3 + i) cf26 (fun w hw => c_i_noteOf fl w x8.w x23.k rfl (RO.pass hs9 hw) x26 e26) (yB rfl rfl)) rfl ?_)))))))
     rintro _ _ ⟨_, ⟨rfl, rfl⟩, rfl⟩
     refine oS rfl (nn (sr (oM rfl (oI rfl (nn (cw_cond rfl (fun h27 => ?_) (fun h27 => ?_)))))))
     ·have H2 := cond_t H2 h27
      obtain ⟨x28, e28, H2⟩ := bS H2
      obtain ⟨y29, ey29, H2⟩ := bS H2
      refine cw_seq (cw_join (ι := Unit) (fun | _ => True) (fun | _ => [(1, .pointer (some ⟨b1, 0, none⟩)), (4, .pointer (some ⟨b16, 0, none⟩)), (28, .slice p0_2 ((a0.c).length) c0_2), (29, .int .i64 ((a0.c).length : Int)), (30, .int .i64 v6), (45, .slice p10 ((x8.n).length) c12), (46, .int .i64 ((x8.n).length : Int)), (47, .int .i64 v21), (73, .bool y29)]) (fun | _ => [(0, [(b1, .cells #[.slice p0_0 ((a0.t.b).length) c0_0, .slice p0_1 ((a0.t.f).length) c0_1, .slice p0_2 ((a0.c).length) c0_2] 29 (0, 0))]), (1, [(b16, .cells #[.slice p10 ((x8.n).length) c12, .slice p13 ((x8.w).length) c15] 43 (0, 0))])]) ?_ ?_)
      ·rcases Bool.eq_false_or_eq_true (x28 != x23) with hy29 | hy29
       ·have ey29 := cond_t ey29 hy29
        have qy29 := sI ey29
        refine rdq g_mixed [4, 6, 8] [1, 2] { dst := dS [64, 65, 66, 67, 68, 69, 70, 71, 72, 73, 74], pre := gA [] [[], [0], [], [0, 1, 2], rn 0 4, [], rn 0 6, rn 0 7, rn 0 8, rn 0 9, rn 0 10], ids := fun _ => [], rs := rL [[(4, 0)], [(63, 1)], [(8, 0)], [(64, 2), (65, 3)], [(66, 4)], [(6, 0)], [(67, 5), (68, 6)], [(69, 7)], [(70, 8)], [(70, 8)], [(70, 8), (72, 10)]], rh := rL [[], [(1, 0)], [], [], [], [(2, 0)]], V := fun i g => gA undef [.pointer (some ⟨b16, 1, none⟩), .slice p13 ((x8.w).length) c15, .int .i64 x26, .pointer (some ⟨eB p13, eO p13 + Int.toNat x26 * Enc.sz Nt + 0, none⟩), .agg #[.int .i64 x28.k.s, .int .i64 x28.k.p, .int .i64 x28.fr], .agg #[.int .i64 x23.k.s, .int .i64 x23.k.p, .int .i64 x23.fr], .bool (x28 != x23), .bool (x28 != x23), undef, undef, .bool y29] i, U := fun _ _ => [], Φ := fun _ _ => True } ?_ ?_
        ·exact ⟨lc rfl rfl fun hs hh => stp_fieldAddr (j := 1) Tryd.underlying43 rfl ts41 rfl (sv hs 4 rfl) rfl, lc rfl rfl fun hs hh => stp_load1 ts41 (sv hs 63 rfl) (Cells.box (id := 1) (hh.get 1 _ rfl) 1 rfl), lM, lc rfl rfl fun hs hh => stp_indexAddr Tryd.underlying41 ts53 (by decide) (sv hs 64 rfl) rfl (sv hs 65 rfl) (Rdb.ro hs9) e28, lc rfl rfl fun hs hh => stp_loadN (us := [_, _, _]) ts53 (sv hs 66 rfl) (Cells.el (Rdb.ro hs9) (by decide) e28 0 3 rfl), lc rfl rfl fun hs hh => stp_loadN (us := [_, _, _]) ts53 (sv hs 6 rfl) (Cells.box (id := 2) (hh.get 2 _ rfl) 3 rfl), lc rfl rfl fun hs hh => stp_neqS te53 x28 x23 (sv hs 67 rfl) (sv hs 68 rfl), lM, lo rfl rfl 70 hy29, lo rfl rfl 70 hy29, lc rfl rfl fun hs hh => stp_pick_tB (sv hs 70 rfl) hy29 rfl qy29, trivial⟩
        intro g hΦ
        exact kw_join () trivial ⟨rfl, rfl, rfl, rfl, rfl, rfl, rfl, rfl, rfl, trivial⟩ ⟨rfl, rfl, trivial⟩
       have ey29 := cond_f ey29 hy29
       have qy29 := sI ey29
       refine rdq g_mixed [4, 6, 7, 8] [1, 2] { dst := dS [64, 65, 66, 67, 68, 69, 70, 71, 72, 73, 74], pre := gA [] [[], [0], [], [0, 1, 2], rn 0 4, [], rn 0 6, rn 0 7, rn 0 8, rn 0 9, rn 0 10], ids := fun _ => [], rs := rL [[(4, 0)], [(63, 1)], [(8, 0)], [(64, 2), (65, 3)], [(66, 4)], [(6, 0)], [(67, 5), (68, 6)], [(69, 7)], [(7, 0), (70, 8)], [(71, 9), (70, 8)], [(70, 8), (72, 10)]], rh := rL [[], [(1, 0)], [], [], [], [(2, 0)]], V := fun i g => gA undef [.pointer (some ⟨b16, 1, none⟩), .slice p13 ((x8.w).length) c15, .int .i64 x26, .pointer (some ⟨eB p13, eO p13 + Int.toNat x26 * Enc.sz Nt + 0, none⟩), .agg #[.int .i64 x28.k.s, .int .i64 x28.k.p, .int .i64 x28.fr], .agg #[.int .i64 x23.k.s, .int .i64 x23.k.p, .int .i64 x23.fr], .bool (x28 != x23), .bool (x28 != x23), .int .i64 x25, .bool (decide (0 ≤ x25)), .bool y29] i, U := fun _ _ => [], Φ := fun _ _ => True } ?_ ?_
       ·exact ⟨lc rfl rfl fun hs hh => stp_fieldAddr (j := 1) Tryd.underlying43 rfl ts41 rfl (sv hs 4 rfl) rfl, lc rfl rfl fun hs hh => stp_load1 ts41 (sv hs 63 rfl) (Cells.box (id := 1) (hh.get 1 _ rfl) 1 rfl), lM, lc rfl rfl fun hs hh => stp_indexAddr Tryd.underlying41 ts53 (by decide) (sv hs 64 rfl) rfl (sv hs 65 rfl) (Rdb.ro hs9) e28, lc rfl rfl fun hs hh => stp_loadN (us := [_, _, _]) ts53 (sv hs 66 rfl) (Cells.el (Rdb.ro hs9) (by decide) e28 0 3 rfl), lc rfl rfl fun hs hh => stp_loadN (us := [_, _, _]) ts53 (sv hs 6 rfl) (Cells.box (id := 2) (hh.get 2 _ rfl) 3 rfl), lc rfl rfl fun hs hh => stp_neqS te53 x28 x23 (sv hs 67 rfl) (sv hs 68 rfl), lM, lg rfl rfl 70 hy29 fun hs hh => stp_move (sv hs 7 rfl), lg rfl rfl 70 hy29 fun hs hh => stp_geq (sv hs 71 rfl) rfl, lc rfl rfl fun hs hh => stp_pick_fB (sv hs 70 rfl) hy29 (sv hs 72 rfl) qy29, trivial⟩
       intro g hΦ
       exact kw_join () trivial ⟨rfl, rfl, rfl, rfl, rfl, rfl, rfl, rfl, rfl, trivial⟩ ⟨rfl, rfl, trivial⟩
      rintro _ -
      dsimp only
      refine kw_nx (cw_cond rfl (fun h30 => ?_) (fun h30 => ?_))
      ·have H2 := cond_t H2 h30
       refine sr (oS rfl (nn (cw_ret (kw_bl_ret (kw_nx_ret (kw_lq_ret (kw_bl_ret (kw_join_ret (kw_nx_ret (kw_bl_ret (kw_nx_ret (kw_lq_ret (kw_bl_ret ?_)))))))))))))
       refine kw_join_ret (kw_nx_ret ?_)
       obtain rfl := sI H2
       obtain rfl := sI H1
       obtain rfl := sI H0
       exact kr Tryd.results8 (rT rfl) [] ⟨rfl, rfl⟩
      have H2 := cond_f H2 h30
      obtain ⟨x31, e31, H2⟩ := bS H2
      exact cw_skip (kw_bl_normal (kw_nx (cw_region (oP e31 rfl (oM rfl (ow_nil (kw_lqS (js := [0, 1]) (fuel, x31) H2 (Nat.lt_succ_self _) ⟨rfl, rfl, rfl, rfl, rfl, rfl, rfl, rfl, trivial⟩ ⟨0, [1], rfl, rfl, 1, [], rfl, rfl, trivial⟩ (by decide))))))))
     have H2 := cond_f H2 h27
     obtain ⟨y32, ey32, H2⟩ := bS H2
     refine sr (oM rfl (oW rfl (oM rfl (ow_cutY 5 81 y32 ?_ ?_))))
     ·rcases Bool.eq_false_or_eq_true (decide (x25 < 0)) with hy32 | hy32
      ·have ey32 := cond_t ey32 hy32
       refine oO rfl hy32 rfl (oO rfl hy32 rfl (oO rfl hy32 rfl (oO rfl hy32 rfl (oD (stp_pick_t rfl hy32 rfl) rfl ?_))))
       obtain rfl := sI ey32
       exact ow_nil (jy 5 0)
      have ey32 := cond_f ey32 hy32
      refine oG rfl hy32 (mv rfl) rfl (oG rfl hy32 (fA 2 Tryd.underlying53 rfl ts3 rfl rfl rfl) rfl (oG rfl hy32 (lB 2 ts3 rfl rfl rfl) rfl (oG rfl hy32 (stp_neq rfl rfl) rfl (oD (stp_pick_f rfl hy32 rfl) rfl ?_))))
      obtain rfl := sI ey32
      exact ow_nil (jy 5 0)
     refine ow_nil (kw_nx (cw_cond rfl (fun h33 => ?_) (fun h33 => ?_)))
     ·have H2 := cond_t H2 h33
      refine sr (oS rfl (nn (cw_ret (kw_bl_ret (kw_nx_ret (kw_lq_ret (kw_bl_ret (kw_join_ret (kw_nx_ret (kw_bl_ret (kw_nx_ret (kw_lq_ret (kw_bl_ret ?_)))))))))))))
      refine kw_join_ret (kw_nx_ret ?_)
      obtain rfl := sI H2
      obtain rfl := sI H1
      obtain rfl := sI H0
      exact kr Tryd.results8 (rT rfl) [] ⟨rfl, rfl⟩
     have H2 := cond_f H2 h33
     obtain ⟨x34, e34, H2⟩ := bS H2
     exact cw_skip (kw_bl_normal (kw_nx (cw_region (oP e34 rfl (oM rfl (ow_nil (kw_lqS (js := [0, 1]) (fuel, x34) H2 (Nat.lt_succ_self _) ⟨rfl, rfl, rfl, rfl, rfl, rfl, rfl, rfl, trivial⟩ ⟨0, [1], rfl, rfl, 1, [], rfl, rfl, trivial⟩ (by decide))))))))
    have H2 := cond_f H2 h22
    refine cw_exit (kw_nx_exit (kw_lq_exit (kw_bl ?_)))
    obtain rfl := sI H2
    exact kw_joinS (js := [0, 1]) v21 rfl ⟨rfl, rfl, rfl, rfl, rfl, rfl, rfl, rfl, trivial⟩ ⟨0, [1], rfl, rfl, 1, [], rfl, rfl, trivial⟩ (by decide)
   rintro v21 rfl
   dsimp only
   obtain ⟨o1_2, eo1_2, H1⟩ := bS H1
   refine kw_nx (sr (oA 1 Tryd.underlying43 rfl ts41 rfl (oL 1 ts41 rfl (oD (stp_len Tryd.underlying41 rfl) rfl (oM rfl (nn (cw_join (ι := Int) (fun | v35 => o1_2 = .out v35) (fun | v35 => [(1, .pointer (some ⟨b1, 0, none⟩)), (4, .pointer (some ⟨b16, 0, none⟩)), (28, .slice p0_2 ((a0.c).length) c0_2), (29, .int .i64 ((a0.c).length : Int)), (30, .int .i64 v6), (84, .slice p13 ((x8.w).length) c15), (85, .int .i64 ((x8.w).length : Int)), (86, .int .i64 v35)]) (fun | v35 => [(0, [(b1, .cells #[.slice p0_0 ((a0.t.b).length) c0_0, .slice p0_1 ((a0.t.f).length) c0_1, .slice p0_2 ((a0.c).length) c0_2] 29 (0, 0))]), (1, [(b16, .cells #[.slice p10 ((x8.n).length) c12, .slice p13 ((x8.w).length) c15] 43 (0, 0))])]) ?_ ?_)))))))
   ·refine cw_block (cw_loopS (ι := Nat × Int) (js := [0, 1]) (fun x => x.1) (fun | (fuel, v35) => i_SystemValid_L2 fl a0 x8 fuel v35 = some o1_2) (fun | (_, v35) => [(1, .pointer (some ⟨b1, 0, none⟩)), (4, .pointer (some ⟨b16, 0, none⟩)), (28, .slice p0_2 ((a0.c).length) c0_2), (29, .int .i64 ((a0.c).length : Int)), (30, .int .i64 v6), (84, .slice p13 ((x8.w).length) c15), (85, .int .i64 ((x8.w).length : Int)), (86, .int .i64 v35)]) (fun | (_, v35) => [(0, [(b1, .cells #[.slice p0_0 ((a0.t.b).length) c0_0, .slice p0_1 ((a0.t.f).length) c0_1, .slice p0_2 ((a0.c).length) c0_2] 29 (0, 0))]), (1, [(b16, .cells #[.slice p10 ((x8.n).length) c12, .slice p13 ((x8.w).length) c15] 43 (0, 0))])]) (fl, 0) eo1_2 ⟨rfl, rfl, rfl, rfl, rfl, rfl, rfl, rfl, trivial⟩ ⟨0, [1], rfl, rfl, 1, [], rfl, rfl, trivial⟩ (by decide) ?_)
    rintro ⟨fuel, v35⟩ H2
    have H2 : i_SystemValid_L2 fl a0 x8 fuel v35 = some o1_2 := H2
    rcases fuel with _ | fuel
    ·rw [i_SystemValid_L2.eq_1] at H2; cases H2
    rw [i_SystemValid_L2.eq_2] at H2
    dsimp only
    refine sr (oW rfl (nn (cw_seq (cw_cond rfl (fun h36 => ?_) (fun h36 => ?_)))))
    ·have H2 := cond_t H2 h36
     obtain ⟨x37, e37, H2⟩ := bS H2
     refine cw_skip (kw_nx (cw_seq (cw_block (sr (oD (stp_indexAddr Tryd.underlying41 ts53 (by decide) rfl rfl rfl (Rdb.ro hs9) e37) rfl (oD (stp_loadN (us := [_, _, _]) ts53 rfl (Cells.el (Rdb.ro hs9) (by decide) e37 0 3 rfl)) rfl (oE (stpU_alloc 3 tz53 rfl) rfl ?_)))))))
     rintro _ _ ⟨b38, rfl, rfl⟩
     obtain ⟨x39, e39, H2⟩ := bS H2
     refine oC3 3 ts53 rfl rfl (nn (sr (oA 0 Tryd.underlying43 rfl ts41 rfl (oL 1 ts41 rfl (oA 0 Tryd.underlying53 rfl ts36 rfl (oB2 3 ts36 rfl (oE (stpU_call (fun i => 4 + i) cf26 (fun w hw => c_i_noteOf fl w x8.n x37.k rfl (RO.pass hr9 hw) x39 e39) (yB rfl rfl)) rfl ?_)))))))
     rintro _ _ ⟨_, ⟨rfl, rfl⟩, rfl⟩
     obtain ⟨y40, ey40, H2⟩ := bS H2
     refine oW rfl (oM rfl (ow_cutY 9 105 y40 ?_ ?_))
     ·rcases Bool.eq_false_or_eq_true (decide (x39 < 0)) with hy40 | hy40
      ·have ey40 := cond_t ey40 hy40
       refine oO rfl hy40 rfl (oO rfl hy40 rfl (oO rfl hy40 rfl (oO rfl hy40 rfl (oO rfl hy40 rfl (oO rfl hy40 rfl (oO rfl hy40 rfl (oO rfl hy40 rfl (oD (stp_pick_t rfl hy40 rfl) rfl ?_))))))))
       obtain rfl := sI ey40
       exact ow_nil (jy 9 0)
      have ey40 := cond_f ey40 hy40
      obtain ⟨x41, e41, ey40⟩ := bS ey40
      refine oG rfl hy40 (fA 2 Tryd.underlying53 rfl ts3 rfl rfl rfl) rfl (oG rfl hy40 (lB 3 ts3 rfl rfl rfl) rfl (oG rfl hy40 (fA 0 Tryd.underlying29 rfl ts26 rfl rfl rfl) rfl (oG rfl hy40 (fA 1 Tryd.underlying26 rfl ts24 rfl rfl rfl) rfl (oG rfl hy40 (lB 0 ts24 rfl rfl rfl) rfl (oG rfl hy40 (stp_len Tryd.underlying24 rfl) rfl (ow_eff (.some rfl hy40) (stpU_call (fun i => 4 + i) cf27 (fun w hw => c_i_within fl w x37.fr ((a0.t.f).length : Int) x41 e41) (yB rfl rfl)) rfl ?_))))))
      rintro _ _ ⟨_, ⟨rfl, rfl⟩, rfl⟩
      refine oG rfl hy40 (stp_not rfl) rfl (oD (stp_pick_f rfl hy40 rfl) rfl ?_)
      obtain rfl := sI ey40
      exact ow_nil (jy 9 0)
     obtain ⟨y42, ey42, H2⟩ := bS H2
     refine oM rfl (ow_cutY 9 115 y42 ?_ ?_)
     ·rcases Bool.eq_false_or_eq_true y40 with hy42 | hy42
      ·have ey42 := cond_t ey42 hy42
       refine oO rfl hy42 rfl (oO rfl hy42 rfl (oO rfl hy42 rfl (oO rfl hy42 rfl (oO rfl hy42 rfl (oO rfl hy42 rfl (oO rfl hy42 rfl (oO rfl hy42 rfl (oD (stp_pick_t rfl hy42 rfl) rfl ?_))))))))
       obtain rfl := sI ey42
       exact ow_nil (jy 9 0)
      have ey42 := cond_f ey42 hy42
      obtain ⟨x43, e43, ey42⟩ := bS ey42
      refine oG rfl hy42 (fA 0 Tryd.underlying29 rfl ts26 rfl rfl rfl) rfl (oG rfl hy42 (fA 1 Tryd.underlying26 rfl ts24 rfl rfl rfl) rfl (oG rfl hy42 (lB 0 ts24 rfl rfl rfl) rfl (oG rfl hy42 (fA 2 Tryd.underlying53 rfl ts3 rfl rfl rfl) rfl (oG rfl hy42 (lB 3 ts3 rfl rfl rfl) rfl (oG rfl hy42 (stp_indexAddr Tryd.underlying24 ts61 (by decide) rfl rfl rfl (Rdb.ro hr0_1) e43) rfl (oG rfl hy42 (fA 0 Tryd.underlying61 rfl ts4 rfl rfl rfl) rfl (oG rfl hy42 (stp_load1 ts4 rfl (Cells.el (Rdb.ro hr0_1) (by decide) e43 0 1 rfl)) rfl (oD (stp_pick_f rfl hy42 rfl) rfl ?_))))))))
      obtain rfl := sI ey42
      exact ow_nil (jy 9 0)
     refine ow_nil (kw_nx (cw_cond rfl (fun h44 => ?_) (fun h44 => ?_)))
     ·have H2 := cond_t H2 h44
      refine sr (oS rfl (nn (cw_ret (kw_bl_ret (kw_nx_ret (kw_lq_ret (kw_bl_ret (kw_join_ret (kw_bl_ret (kw_nx_ret (kw_lq_ret (kw_bl_ret (kw_join_ret ?_)))))))))))))
      refine kw_nx_ret ?_
      obtain rfl := sI H2
      obtain rfl := sI H1
      obtain rfl := sI H0
      exact kr Tryd.results8 (rT rfl) [] ⟨rfl, rfl⟩
     have H2 := cond_f H2 h44
     obtain ⟨x45, e45, H2⟩ := bS H2
     exact cw_skip (kw_bl_normal (kw_nx (cw_region (oP e45 rfl (oM rfl (ow_nil (kw_lqS (js := [0, 1]) (fuel, x45) H2 (Nat.lt_succ_self _) ⟨rfl, rfl, rfl, rfl, rfl, rfl, rfl, rfl, trivial⟩ ⟨0, [1], rfl, rfl, 1, [], rfl, rfl, trivial⟩ (by decide))))))))
    have H2 := cond_f H2 h36
    refine cw_exit (kw_nx_exit (kw_lq_exit (kw_bl ?_)))
    obtain rfl := sI H2
    exact kw_joinS (js := [0, 1]) v35 rfl ⟨rfl, rfl, rfl, rfl, rfl, rfl, rfl, rfl, trivial⟩ ⟨0, [1], rfl, rfl, 1, [], rfl, rfl, trivial⟩ (by decide)
   rintro v35 rfl
   dsimp only
   obtain ⟨x46, e46, H1⟩ := bS H1
   exact kw_bl_normal (kw_nx (cw_region (oP e46 rfl (oM rfl (ow_nil (kw_lqS (js := [0]) (fuel, x46) H1 (Nat.lt_succ_self _) ⟨rfl, rfl, rfl, rfl, trivial⟩ ⟨0, [], rfl, rfl, trivial⟩ (by decide)))))))
  have H1 := cond_f H1 h7
  refine cw_exit (kw_nx_exit (kw_lq_exit (kw_bl ?_)))
  obtain rfl := sI H1
  exact kw_joinS (js := [0]) v6 rfl ⟨rfl, rfl, rfl, rfl, trivial⟩ ⟨0, [], rfl, rfl, trivial⟩ (by decide)
 rintro v6 rfl
 dsimp only
 refine kw_nx (sr (oS rfl (nn (cw_ret ?_))))
 obtain rfl := sI H0
 exact kr Tryd.results8 (rT rfl) [] ⟨rfl, rfl⟩

theorem c_i_cpuOf (fl : Nat) (w : World) (a0 : Sy) (a1 : Int) (hn0_0 : n0_0 = (a0.t.b).length) (hr0_0 : RO w (hkeys []) (RdL p0_0 c0_0 a0.t.b)) (hn0_1 : n0_1 = (a0.t.f).length) (hr0_1 : RO w (hkeys []) (RdL p0_1 c0_1 a0.t.f)) (hn0_2 : n0_2 = (a0.c).length) (hr0_2 : ROD w (hkeys []) p0_2 c0_2 a0.c) (hg : RO w (hkeys []) (fun w' => w'.rangeAt 0 0 [.bool false, .int .i64 0, .int .i64 0, .int .i64 0, .int .i64 (-1)])) (r : Bool) (H0 : i_cpuOf fl a0 a1 = some r) :
  Ct Tryd.prog 29 [.agg #[.slice p0_0 n0_0 c0_0, .slice p0_1 n0_1 c0_1, .slice p0_2 n0_2 c0_2], .int .i64 a1] w [] (fun rv h' => rv = .bool r ∧ h' = []) := by
 subst hn0_0 hn0_1 hn0_2
 unfold i_cpuOf at H0
 refine ct_of_cw Tryd.func29 rfl Tryd.ntmps29 rfl (Sat.refl _ _) ?_
 refine sr (oE (stpU_box 0 rfl rfl) rfl ?_)
 rintro _ _ ⟨b1, rfl, rfl⟩
 obtain ⟨x2, e2, H0⟩ := bS H0
 refine oS rfl (nn (sr (oB3 0 ts29 rfl (oE (stpU_call (fun i => 1 + i) cf8 (fun w hw => c_i_SystemValid fl w a0 rfl (RO.pass hr0_0 hw) rfl (RO.pass hr0_1 hw) rfl (ROD.pass hr0_2 hw) (RO.pass hg hw) x2 e2) (yA rfl)) rfl ?_))))
 rintro _ _ ⟨_, ⟨rfl, rfl⟩, rfl⟩
 obtain ⟨y3, ey3, H0⟩ := bS H0
 refine oM rfl (ow_cutY 6 13 y3 ?_ ?_)
 ·rcases Bool.eq_false_or_eq_true x2 with hy3 | hy3
  ·have ey3 := cond_t ey3 hy3
   obtain ⟨x4, e4, ey3⟩ := bS ey3
   refine oG rfl hy3 (mv rfl) rfl (oG rfl hy3 (fA 2 Tryd.underlying29 rfl ts27 rfl rfl rfl) rfl (oG rfl hy3 (lB 0 ts27 rfl rfl rfl) rfl (oG rfl hy3 (stp_len Tryd.underlying27 rfl) rfl (ow_eff (.some rfl hy3) (stpU_call (fun i => 1 + i) cf27 (fun w hw => c_i_within fl w a1 ((a0.c).length : Int) x4 e4) (yB rfl rfl)) rfl ?_))))
   rintro _ _ ⟨_, ⟨rfl, rfl⟩, rfl⟩
   refine oD (stp_pick_t rfl hy3 rfl) rfl ?_
   obtain rfl := sI ey3
   exact ow_nil (jy 6 0)
  have ey3 := cond_f ey3 hy3
  refine oO rfl hy3 rfl (oO rfl hy3 rfl (oO rfl hy3 rfl (oO rfl hy3 rfl (oO rfl hy3 rfl (oD (stp_pick_f rfl hy3 rfl) rfl ?_)))))
  obtain rfl := sI ey3
  exact ow_nil (jy 6 0)
 refine oS rfl (nn (cw_ret ?_))
 obtain rfl := sI H0
 exact kr Tryd.results29 (rT rfl) [] ⟨rfl, rfl⟩

theorem c_slices_Clone_Int (fl : Nat) (w : World) (a0 : (List Int)) (hn0_0 : n0_0 = (a0).length) (hr0_0 : RO w (hkeys []) (RdL p0_0 c0_0 a0)) (r : (List Int)) (H0 : slices_Clone_Int fl a0 = some r) :
  Ct Tryd.prog 76 [.slice p0_0 n0_0 c0_0] w [] (fun rv h' => ∃ (x0 : Option Addr) (y0 z0 : Nat) (C0 : Res), rv = .slice x0 y0 z0 ∧ h' = [(0, C0)] ∧ y0 = (r).length ∧ OwnC 3 x0 z0 r C0) := by
 subst hn0_0
 unfold slices_Clone_Int at H0
 refine ct_of_cw Tryd.func76 rfl Tryd.ntmps76 rfl (Sat.refl _ _) ?_
 refine sr (oS rfl (nn (cw_seq (sr (oM rfl (oD (stp_eqlNil Tryd.underlying23 rfl) rfl (nn (cw_cond rfl (fun h1 => ?_) (fun h1 => ?_)))))))))
 ·have := True.intro
  obtain rfl : p0_0 = none := by simpa using h1
  obtain rfl : a0 = [] := nil_of_none hr0_0
  obtain rfl : r = [] := (cnt_some H0).1
  exact sr (oS rfl (nn (cw_ret (kw_nx_ret (kw_addNil 0 (kw_ret Tryd.results76 (rT rfl) [(0, [])] [0] ⟨0, [], rfl, rfl, trivial⟩ (by decide) ⟨none, 0, 0, [], rfl, rfl, rfl, (OwnC.nil _ _)⟩))))))
 have := True.intro
 refine cw_skip (kw_nx (sr (oE (stpU_lit0 sl23 1) rfl ?_)))
 rintro _ _ ⟨p2, C3, rfl, rfl, o3⟩
 refine oM rfl ?_
 have e4 : cnt (([] : List Int) ++ a0) = some r := H0
 refine oE (stpU_append sl23 rfl (id := 1) rfl (by simp) rfl rfl rfl o3 (Rdb.ro hr0_0) e4) rfl ?_
 rintro _ _ ⟨p5, c6, C7, rfl, rfl, o7⟩
 exact oS rfl (nn (cw_ret (kw_ret Tryd.results76 (rT rfl) [(0, C7)] [1] ⟨1, [], rfl, rfl, trivial⟩ (by decide) ⟨p5, ((r).length), c6, C7, rfl, rfl, rfl, o7⟩)))

theorem c_slices_Clone_Frame (fl : Nat) (w : World) (a0 : (List F)) (hn0_0 : n0_0 = (a0).length) (hr0_0 : RO w (hkeys []) (RdL p0_0 c0_0 a0)) (r : (List F)) (H0 : slices_Clone_Frame fl a0 = some r) :
  Ct Tryd.prog 78 [.slice p0_0 n0_0 c0_0] w [] (fun rv h' => ∃ (x0 : Option Addr) (y0 z0 : Nat) (C0 : Res), rv = .slice x0 y0 z0 ∧ h' = [(0, C0)] ∧ y0 = (r).length ∧ OwnC 61 x0 z0 r C0) := by
 subst hn0_0
 unfold slices_Clone_Frame at H0
 refine ct_of_cw Tryd.func78 rfl Tryd.ntmps78 rfl (Sat.refl _ _) ?_
 refine sr (oS rfl (nn (cw_seq (sr (oM rfl (oD (stp_eqlNil Tryd.underlying24 rfl) rfl (nn (cw_cond rfl (fun h1 => ?_) (fun h1 => ?_)))))))))
 ·have := True.intro
  obtain rfl : p0_0 = none := by simpa using h1
  obtain rfl : a0 = [] := nil_of_none hr0_0
  obtain rfl : r = [] := (cnt_some H0).1
  exact sr (oS rfl (nn (cw_ret (kw_nx_ret (kw_addNil 0 (kw_ret Tryd.results78 (rT rfl) [(0, [])] [0] ⟨0, [], rfl, rfl, trivial⟩ (by decide) ⟨none, 0, 0, [], rfl, rfl, rfl, (OwnC.nil _ _)⟩))))))
 have := True.intro
 refine cw_skip (kw_nx (sr (oE (stpU_lit0 sl24 1) rfl ?_)))
 rintro _ _ ⟨p2, C3, rfl, rfl, o3⟩
 refine oM rfl ?_
 have e4 : cnt (([] : List F) ++ a0) = some r := H0
 refine oE (stpU_append sl24 rfl (id := 1) rfl (by simp) rfl rfl rfl o3 (Rdb.ro hr0_0) e4) rfl ?_
 rintro _ _ ⟨p5, c6, C7, rfl, rfl, o7⟩
 exact oS rfl (nn (cw_ret (kw_ret Tryd.results78 (rT rfl) [(0, C7)] [1] ⟨1, [], rfl, rfl, trivial⟩ (by decide) ⟨p5, ((r).length), c6, C7, rfl, rfl, rfl, o7⟩)))

theorem c_i_Table_clone (fl : Nat) (w : World) (a0 : T) (hn0_0 : n0_0 = (a0.b).length) (hr0_0 : RO w (hkeys []) (RdL p0_0 c0_0 a0.b)) (hn0_1 : n0_1 = (a0.f).length) (hr0_1 : RO w (hkeys []) (RdL p0_1 c0_1 a0.f)) (r : T) (H0 : i_Table_clone fl a0 = some r) :
  Ct Tryd.prog 58 [.agg #[.slice p0_0 n0_0 c0_0, .slice p0_1 n0_1 c0_1]] w [] (fun rv h' => ∃ (x0 : Option Addr) (y0 z0 : Nat) (C0 : Res) (x1 : Option Addr) (y1 z1 : Nat) (C1 : Res), rv = .agg #[.slice x0 y0 z0, .slice x1 y1 z1] ∧ h' = [(0, C0), (1, C1)] ∧ y0 = (r.b).length ∧ OwnC 3 x0 z0 r.b C0 ∧ y1 = (r.f).length ∧ OwnC 61 x1 z1 r.f C1) := by
 subst hn0_0 hn0_1
 unfold i_Table_clone at H0
 refine ct_of_cw Tryd.func58 rfl Tryd.ntmps58 rfl (Sat.refl _ _) ?_
 refine sr (oE (stpU_box 0 rfl rfl) rfl ?_)
 rintro _ _ ⟨b1, rfl, rfl⟩
 refine oE (stpU_alloc 1 tz26 rfl) rfl ?_
 rintro _ _ ⟨b2, rfl, rfl⟩
 obtain ⟨x3, e3, H0⟩ := bS H0
 obtain ⟨x8, e8, H0⟩ := bS H0
 refine nn (cw_seq (rdq g_mixed [1, 2] [0, 1] { dst := dS [4, 5, 6, 7, 8, 9, 10, 11, 12, 0], pre := gA [] [[], [0], [0, 1], [0, 1, 2], [], [4], rn 0 6, rn 0 7, rn 0 8, rn 0 9], ids := gA [] [[], [], [2], [], [], [], [3], [], [], [1]], rs := rL [[(1, 0)], [(3, 1)], [(4, 2)], [(5, 3)], [(1, 0)], [(7, 5)], [(8, 6)], [(9, 7)], [(6, 4), (10, 8)], [(2, 0), (11, 9)]], rh := rL [[], [(0, 0)], [], [], [], [(0, 0)], [], [], [], [(1, 0)]], V := fun i g => gA undef [.pointer (some ⟨b1, 0, none⟩), .slice p0_0 ((a0.b).length) c0_0, .slice ((g 2).A 0) ((x3).length) ((g 2).C 0), .slice ((g 2).A 0) ((x3).length) ((x3).length), .pointer (some ⟨b1, 1, none⟩), .slice p0_1 ((a0.f).length) c0_1, .slice ((g 6).A 0) ((x8).length) ((g 6).C 0), .slice ((g 6).A 0) ((x8).length) ((x8).length), .agg #[.slice ((g 2).A 0) ((x3).length) ((x3).length), .slice ((g 6).A 0) ((x8).length) ((x8).length)]] i, U := fun i g => gA [] [[], [], [(2, ((g 2).R 0))], [], [], [], [(3, ((g 6).R 0))], [], [], [(1, [(b2, .cells #[.slice ((g 2).A 0) ((x3).length) ((x3).length), .slice ((g 6).A 0) ((x8).length) ((x8).length)] 26 (0, 0))])]] i, Φ := fun i x => match i with | 2 => OwnC 3 (x.A 0) (x.C 0) x3 (x.R 0) | 6 => OwnC 61 (x.A 0) (x.C 0) x8 (x.R 0) | _ => True } ?_ ?_))
 ·refine ⟨lc rfl rfl fun hs hh => stp_fieldAddr (j := 0) Tryd.underlying26 rfl ts23 rfl (sv hs 1 rfl) rfl, lc rfl rfl fun hs hh => stp_load1 ts23 (sv hs 3 rfl) (Cells.box (id := 0) (hh.get 0 _ rfl) 1 rfl), ?_, ?_, lc rfl rfl fun hs hh => stp_fieldAddr (j := 1) Tryd.underlying26 rfl ts24 rfl (sv hs 1 rfl) rfl, lc rfl rfl fun hs hh => stp_load1 ts24 (sv hs 7 rfl) (Cells.box (id := 0) (hh.get 0 _ rfl) 1 rfl), ?_, ?_, ld rfl rfl fun g hΦ s h hs hh => stp_build (cs := #[.slice ((g 2).A 0) ((x3).length) ((x3).length), .slice ((g 6).A 0) ((x8).length) ((x8).length)]) (sevp_cons (sv hs 6 rfl) (sevp_cons (sv hs 10 rfl) sevp_nil)) bt26_5, ?_, trivial⟩
  ·refine le rfl rfl (fun g hΦ s h hs hh => (stpU_call (fun i => 2 + i) cf76 (fun w hw => c_slices_Clone_Int fl w a0.b rfl (RO.pass hr0_0 hw) x3 e3) (yA (sv hs 4 rfl)))) ?_
   rintro g _ _ ⟨_, ⟨p4, _, c6, C7, rfl, rfl, rfl, o7⟩, rfl⟩
   exact ⟨⟨[p4], [c6], [C7]⟩, o7, .inr rfl, rfl⟩
  ·refine le rfl rfl (fun g hΦ s h hs hh => (stpU_call (fun i => i) cf75 (fun w hw => c_clip75 w ((g 2).A 0) ((x3).length) ((g 2).C 0) (OwnC.len (hΦ 2 rfl)).1) (yA (sv hs 5 rfl)))) ?_
   rintro g _ _ ⟨_, ⟨rfl, rfl⟩, rfl⟩
   exact ⟨⟨[], [], []⟩, trivial, .inr rfl, rfl⟩
  ·refine le rfl rfl (fun g hΦ s h hs hh => (stpU_call (fun i => 3 + i) cf78 (fun w hw => c_slices_Clone_Frame fl w a0.f rfl (RO.pass hr0_1 hw) x8 e8) (yA (sv hs 8 rfl)))) ?_
   rintro g _ _ ⟨_, ⟨p9, _, c11, C12, rfl, rfl, rfl, o12⟩, rfl⟩
   exact ⟨⟨[p9], [c11], [C12]⟩, o12, .inr rfl, rfl⟩
  ·refine le rfl rfl (fun g hΦ s h hs hh => (stpU_call (fun i => i) cf77 (fun w hw => c_clip77 w ((g 6).A 0) ((x8).length) ((g 6).C 0) (OwnC.len (hΦ 6 rfl)).1) (yA (sv hs 9 rfl)))) ?_
   rintro g _ _ ⟨_, ⟨rfl, rfl⟩, rfl⟩
   exact ⟨⟨[], [], []⟩, trivial, .inr rfl, rfl⟩
  refine le rfl rfl (fun g hΦ s h hs hh => (stpU_store (id := 1) (cs' := [.slice ((g 2).A 0) ((x3).length) ((x3).length), .slice ((g 6).A 0) ((x8).length) ((x8).length)]) ts26 (sv hs 2 rfl) (sv hs 11 rfl) (hh.get 1 _ rfl) rfl rfl rfl rfl)) ?_
  rintro g _ _ rfl
  exact ⟨⟨[], [], []⟩, trivial, .inl rfl, rfl⟩
 intro g hΦ
 refine kw_gen (ι := Option Addr × Nat × Res × Option Addr × Nat × Res) (((g 2).A 0), ((g 2).C 0), ((g 2).R 0), ((g 6).A 0), ((g 6).C 0), ((g 6).R 0)) (fun | (p4, c6, C7, p9, c11, C12) => OwnC 3 p4 c6 x3 C7 ∧ OwnC 61 p9 c11 x8 C12) (fun | (p4, c6, C7, p9, c11, C12) => [(2, .pointer (some ⟨b2, 0, none⟩))]) (fun | (p4, c6, C7, p9, c11, C12) => [(1, [(b2, .cells #[.slice p4 ((x3).length) ((x3).length), .slice p9 ((x8).length) ((x8).length)] 26 (0, 0))]), (2, C7), (3, C12)]) ⟨(hΦ 2 (by decide)), (hΦ 6 (by decide))⟩ ⟨rfl, trivial⟩ ⟨rfl, rfl, rfl, trivial⟩ ?_
 rintro ⟨p4, c6, C7, p9, c11, C12⟩ ⟨o7, o12⟩
 dsimp only
 refine kw_nx (cw_ret ?_)
 obtain rfl := sI H0
 exact kr Tryd.results58 (rC2 1 ts26 rfl rfl) [2, 3] ⟨_, _, _, _, _, _, _, _, rfl, rfl, rfl, (OwnC.clip o7), rfl, (OwnC.clip o12)⟩

theorem c_slices_Clone_Note (fl : Nat) (w : World) (a0 : (List Nt)) (hn0_0 : n0_0 = (a0).length) (hr0_0 : RO w (hkeys []) (RdL p0_0 c0_0 a0)) (r : (List Nt)) (H0 : slices_Clone_Note fl a0 = some r) :
  Ct Tryd.prog 59 [.slice p0_0 n0_0 c0_0] w [] (fun rv h' => ∃ (x0 : Option Addr) (y0 z0 : Nat) (C0 : Res), rv = .slice x0 y0 z0 ∧ h' = [(0, C0)] ∧ y0 = (r).length ∧ OwnC 53 x0 z0 r C0) := by
 subst hn0_0
 unfold slices_Clone_Note at H0
 refine ct_of_cw Tryd.func59 rfl Tryd.ntmps59 rfl (Sat.refl _ _) ?_
 refine sr (oS rfl (nn (cw_seq (sr (oM rfl (oD (stp_eqlNil Tryd.underlying41 rfl) rfl (nn (cw_cond rfl (fun h1 => ?_) (fun h1 => ?_)))))))))
 ·have := True.intro
  obtain rfl : p0_0 = none := by simpa using h1
  obtain rfl : a0 = [] := nil_of_none hr0_0
  obtain rfl : r = [] := (cnt_some H0).1
  exact sr (oS rfl (nn (cw_ret (kw_nx_ret (kw_addNil 0 (kw_ret Tryd.results59 (rT rfl) [(0, [])] [0] ⟨0, [], rfl, rfl, trivial⟩ (by decide) ⟨none, 0, 0, [], rfl, rfl, rfl, (OwnC.nil _ _)⟩))))))
 have := True.intro
 refine cw_skip (kw_nx (sr (oE (stpU_lit0 sl41 1) rfl ?_)))
 rintro _ _ ⟨p2, C3, rfl, rfl, o3⟩
 refine oM rfl ?_
 have e4 : cnt (([] : List Nt) ++ a0) = some r := H0
 refine oE (stpU_append sl41 rfl (id := 1) rfl (by simp) rfl rfl rfl o3 (Rdb.ro hr0_0) e4) rfl ?_
 rintro _ _ ⟨p5, c6, C7, rfl, rfl, o7⟩
 exact oS rfl (nn (cw_ret (kw_ret Tryd.results59 (rT rfl) [(0, C7)] [1] ⟨1, [], rfl, rfl, trivial⟩ (by decide) ⟨p5, ((r).length), c6, C7, rfl, rfl, rfl, o7⟩)))

theorem c_i_System_clone (fl : Nat) (w : World) (a0 : Sy) (hn0_0 : n0_0 = (a0.t.b).length) (hr0_0 : RO w (hkeys []) (RdL p0_0 c0_0 a0.t.b)) (hn0_1 : n0_1 = (a0.t.f).length) (hr0_1 : RO w (hkeys []) (RdL p0_1 c0_1 a0.t.f)) (hn0_2 : n0_2 = (a0.c).length) (hr0_2 : ROD w (hkeys []) p0_2 c0_2 a0.c) (r : Sy) (H0 : i_System_clone fl a0 = some r) :
  Ct Tryd.prog 31 [.agg #[.slice p0_0 n0_0 c0_0, .slice p0_1 n0_1 c0_1, .slice p0_2 n0_2 c0_2]] w [] (fun rv h' => ∃ (x0 : Option Addr) (y0 z0 : Nat) (C0 : Res) (x1 : Option Addr) (y1 z1 : Nat) (C1 : Res) (x2 : Option Addr) (y2 z2 : Nat) (C2 : Res), rv = .agg #[.slice x0 y0 z0, .slice x1 y1 z1, .slice x2 y2 z2] ∧ h' = [(0, C0), (1, C1), (2, C2)] ∧ y0 = (r.t.b).length ∧ OwnC 3 x0 z0 r.t.b C0 ∧ y1 = (r.t.f).length ∧ OwnC 61 x1 z1 r.t.f C1 ∧ y2 = (r.c).length ∧ OwnD 43 53 x2 z2 r.c C2) := by
 subst hn0_0 hn0_1 hn0_2
 unfold i_System_clone at H0
 refine ct_of_cw Tryd.func31 rfl Tryd.ntmps31 rfl (Sat.refl _ _) ?_
 refine sr (oE (stpU_box 0 rfl rfl) rfl ?_)
 rintro _ _ ⟨b1, rfl, rfl⟩
 refine oE (stpU_alloc 1 tz29 rfl) rfl ?_
 rintro _ _ ⟨b2, rfl, rfl⟩
 obtain ⟨x3, e3, H0⟩ := bS H0
 obtain ⟨x12, e12, H0⟩ := bS H0
 refine nn (cw_seq (rdq g_mixed [1] [0] { dst := dS [7, 8, 9, 10, 11, 12, 13, 14, 4, 0], pre := gA [] [[], [0], [0, 1], [], [3], [3, 4], [3, 4, 5], rn 0 7, [], rn 0 9], ids := gA [] [[], [], [2, 3], [], [], [], [4], [], [5], [5]], rs := rL [[(1, 0)], [(6, 1)], [(7, 2)], [(1, 0)], [(9, 4)], [(10, 5)], [(11, 6)], [(8, 3), (12, 7)], [], [(3, 9), (13, 8)]], rh := rL [[], [(0, 0)], [], [], [(0, 0)], [], [], [], [], [(5, 9)]], V := fun i g => gA undef [.pointer (some ⟨b1, 0, none⟩), .agg #[.slice p0_0 ((a0.t.b).length) c0_0, .slice p0_1 ((a0.t.f).length) c0_1], .agg #[.slice ((g 2).A 0) ((x3.b).length) ((g 2).C 0), .slice ((g 2).A 1) ((x3.f).length) ((g 2).C 1)], .pointer (some ⟨b1, 2, none⟩), .slice p0_2 ((a0.c).length) c0_2, .int .i64 ((a0.c).length : Int), .slice ((g 6).A 0) x12 x12, .agg #[.slice ((g 2).A 0) ((x3.b).length) ((g 2).C 0), .slice ((g 2).A 1) ((x3.f).length) ((g 2).C 1), .slice ((g 6).A 0) x12 x12], .pointer (some ⟨((g 8).C 0), 0, none⟩)] i, U := fun i g => gA [] [[], [], [(2, ((g 2).R 0)), (3, ((g 2).R 1))], [], [], [], [(4, ((g 6).R 0))], [], [(5, [(((g 8).C 0), .cells #[.slice none 0 0, .slice none 0 0, .slice none 0 0] 29 (0, 0))])], [(5, [(((g 8).C 0), .cells #[.slice ((g 2).A 0) ((x3.b).length) ((g 2).C 0), .slice ((g 2).A 1) ((x3.f).length) ((g 2).C 1), .slice ((g 6).A 0) x12 x12] 29 (0, 0))])]] i, Φ := fun i x => match i with | 2 => OwnC 3 (x.A 0) (x.C 0) x3.b (x.R 0) ∧ OwnC 61 (x.A 1) (x.C 1) x3.f (x.R 1) | 6 => OwnD 43 53 (x.A 0) x12 (List.replicate x12 (⟨[], []⟩ : Cp)) (x.R 0) | _ => True } ?_ ?_))
 ·refine ⟨lc rfl rfl fun hs hh => stp_fieldAddr (j := 0) Tryd.underlying29 rfl ts26 rfl (sv hs 1 rfl) rfl, lc rfl rfl fun hs hh => stp_loadN (us := [_, _]) ts26 (sv hs 6 rfl) (Cells.box (id := 0) (hh.get 0 _ rfl) 2 rfl), ?_, lc rfl rfl fun hs hh => stp_fieldAddr (j := 2) Tryd.underlying29 rfl ts27 rfl (sv hs 1 rfl) rfl, lc rfl rfl fun hs hh => stp_load1 ts27 (sv hs 9 rfl) (Cells.box (id := 0) (hh.get 0 _ rfl) 1 rfl), lc rfl rfl fun hs hh => stp_len Tryd.underlying27 (sv hs 10 rfl), ?_, ld rfl rfl fun g hΦ s h hs hh => stp_build (cs := #[.slice ((g 2).A 0) ((x3.b).length) ((g 2).C 0), .slice ((g 2).A 1) ((x3.f).length) ((g 2).C 1), .slice ((g 6).A 0) x12 x12]) (sevp_cons (sv hs 8 rfl) (sevp_cons (sv hs 12 rfl) sevp_nil)) bt29_3, ?_, ?_, trivial⟩
  ·refine le rfl rfl (fun g hΦ s h hs hh => (stpU_call (fun i => 2 + i) cf58 (fun w hw => c_i_Table_clone fl w a0.t rfl (RO.pass hr0_0 hw) rfl (RO.pass hr0_1 hw) x3 e3) (yA (sv hs 7 rfl)))) ?_
   rintro g _ _ ⟨_, ⟨p4, _, c6, C7, p8, _, c10, C11, rfl, rfl, rfl, o7, rfl, o11⟩, rfl⟩
   exact ⟨⟨[p4, p8], [c6, c10], [C7, C11]⟩, ⟨o7, o11⟩, .inr rfl, rfl⟩
  ·refine le rfl rfl (fun g hΦ s h hs hh => (stpU_makeD 53 sl27 rfl 4 (sv hs 11 rfl) (sv hs 11 rfl) e12)) ?_
   rintro g _ _ ⟨p13, C14, rfl, rfl, o14⟩
   exact ⟨⟨[p13], [], [C14]⟩, o14, .inr rfl, rfl⟩
  ·refine le rfl rfl (fun g hΦ s h hs hh => (stpU_alloc 5 tz29 rfl)) ?_
   rintro g _ _ ⟨b15, rfl, rfl⟩
   exact ⟨⟨[], [b15], []⟩, trivial, .inr rfl, rfl⟩
  refine le rfl rfl (fun g hΦ s h hs hh => (stpU_store (id := 5) (cs' := [.slice ((g 2).A 0) ((x3.b).length) ((g 2).C 0), .slice ((g 2).A 1) ((x3.f).length) ((g 2).C 1), .slice ((g 6).A 0) x12 x12]) ts29 (sv hs 3 rfl) (sv hs 13 rfl) (hh.get 5 _ rfl) rfl rfl rfl rfl)) ?_
  rintro g _ _ rfl
  exact ⟨⟨[], [], []⟩, trivial, .inl rfl, rfl⟩
 intro g hΦ
 refine kw_gen (ι := Option Addr × Option Addr × Nat × Nat × Res × Res × Option Addr × Res × Nat) (((g 2).A 0), ((g 2).A 1), ((g 2).C 0), ((g 2).C 1), ((g 2).R 0), ((g 2).R 1), ((g 6).A 0), ((g 6).R 0), ((g 8).C 0)) (fun | (p4, p8, c6, c10, C7, C11, p13, C14, b15) => OwnC 3 p4 c6 x3.b C7 ∧ OwnC 61 p8 c10 x3.f C11 ∧ OwnD 43 53 p13 x12 (List.replicate x12 (⟨[], []⟩ : Cp)) C14) (fun | (p4, p8, c6, c10, C7, C11, p13, C14, b15) => [(1, .pointer (some ⟨b1, 0, none⟩)), (2, .pointer (some ⟨b2, 0, none⟩)), (3, .pointer (some ⟨b15, 0, none⟩))]) (fun | (p4, p8, c6, c10, C7, C11, p13, C14, b15) => [(0, [(b1, .cells #[.slice p0_0 ((a0.t.b).length) c0_0, .slice p0_1 ((a0.t.f).length) c0_1, .slice p0_2 ((a0.c).length) c0_2] 29 (0, 0))]), (1, [(b2, .cells #[.slice none 0 0, .slice none 0 0, .slice none 0 0] 29 (0, 0))]), (2, C7), (3, C11), (4, C14), (5, [(b15, .cells #[.slice p4 ((x3.b).length) c6, .slice p8 ((x3.f).length) c10, .slice p13 x12 x12] 29 (0, 0))])]) ⟨(hΦ 2 (by decide)).1, (hΦ 2 (by decide)).2, (hΦ 6 (by decide))⟩ ⟨rfl, rfl, rfl, trivial⟩ ⟨rfl, rfl, rfl, rfl, rfl, rfl, trivial⟩ ?_
 rintro ⟨p4, p8, c6, c10, C7, C11, p13, C14, b15⟩ ⟨o7, o11, o14⟩
 dsimp only
 obtain ⟨o0_0, eo0_0, H0⟩ := bS H0
 refine kw_nx (cw_seq (sr (oA 2 Tryd.underlying29 rfl ts27 rfl (oL 0 ts27 rfl (oD (stp_len Tryd.underlying27 rfl) rfl (oM rfl (nn (cw_join (ι := (List Cp) × Int × Res) (fun | (v16, v18, C17) => o0_0 = .out (v16, v18) ∧ x12 = (v16).length ∧ OwnD 43 53 p13 x12 v16 C17) (fun | (v16, v18, C17) => [(2, .pointer (some ⟨b2, 0, none⟩)), (3, .pointer (some ⟨b15, 0, none⟩)), (15, .slice p0_2 ((a0.c).length) c0_2), (16, .int .i64 ((a0.c).length : Int)), (17, .int .i64 v18)]) (fun | (v16, v18, C17) => [(1, [(b2, .cells #[.slice none 0 0, .slice none 0 0, .slice none 0 0] 29 (0, 0))]), (2, C7), (3, C11), (4, C17), (5, [(b15, .cells #[.slice p4 ((x3.b).length) c6, .slice p8 ((x3.f).length) c10, .slice p13 x12 x12] 29 (0, 0))])]) ?_ ?_))))))))
 ·refine cw_block (cw_loopS (ι := Nat × (List Cp) × Int × Res) (js := [1, 2, 3, 4, 5]) (fun x => x.1) (fun | (fuel, v16, v18, C17) => i_System_clone_L0 fl a0 fuel v16 v18 = some o0_0 ∧ x12 = (v16).length ∧ OwnD 43 53 p13 x12 v16 C17) (fun | (_, v16, v18, C17) => [(2, .pointer (some ⟨b2, 0, none⟩)), (3, .pointer (some ⟨b15, 0, none⟩)), (15, .slice p0_2 ((a0.c).length) c0_2), (16, .int .i64 ((a0.c).length : Int)), (17, .int .i64 v18)]) (fun | (_, v16, v18, C17) => [(1, [(b2, .cells #[.slice none 0 0, .slice none 0 0, .slice none 0 0] 29 (0, 0))]), (2, C7), (3, C11), (4, C17), (5, [(b15, .cells #[.slice p4 ((x3.b).length) c6, .slice p8 ((x3.f).length) c10, .slice p13 x12 x12] 29 (0, 0))])]) (fl, (List.replicate x12 (⟨[], []⟩ : Cp)), 0, C14) ⟨eo0_0, (by simp), o14⟩ ⟨rfl, rfl, rfl, rfl, rfl, trivial⟩ ⟨1, [2, 3, 4, 5], rfl, rfl, 2, [3, 4, 5], rfl, rfl, 3, [4, 5], rfl, rfl, 4, [5], rfl, rfl, 5, [], rfl, rfl, trivial⟩ (by decide) ?_)
  rintro ⟨fuel, v16, v18, C17⟩ ⟨H1, hl17, o17⟩
  have H1 : i_System_clone_L0 fl a0 fuel v16 v18 = some o0_0 := H1
  rcases fuel with _ | fuel
  ·rw [i_System_clone_L0.eq_1] at H1; cases H1
  rw [i_System_clone_L0.eq_2] at H1
  dsimp only
  refine sr (oW rfl (nn (cw_seq (cw_cond rfl (fun h19 => ?_) (fun h19 => ?_)))))
  ·have H1 := cond_t H1 h19
   obtain ⟨x20, e20, H1⟩ := bS H1
   refine cw_skip (kw_nx (cw_seq (cw_block (sr (oM rfl ?_)))))
   obtain ⟨u21, p22, n23, c24, p25, n26, c27, hw21, hl21, hx21, rfl, hr21, rfl, hs21⟩ := ROD.get hr0_2 e20
   refine oD (stp_indexAddr Tryd.underlying27 ts43 (by decide) rfl hl21 rfl (Rdb.ro hw21) hx21) rfl (oD (stp_loadN (us := [_, _]) ts43 rfl (Cells.el (Rdb.ro hw21) (by decide) hx21 0 2 rfl)) rfl (oE (stpU_alloc 6 tz43 rfl) rfl ?_))
   rintro _ _ ⟨b28, rfl, rfl⟩
   obtain ⟨x29, e29, H1⟩ := bS H1
   obtain ⟨x34, e34, H1⟩ := bS H1
   obtain ⟨x39, e39, H1⟩ := bS H1
   refine oS rfl (oC2 6 ts43 rfl rfl (nn (cw_open 4 9 10 11 rfl o17 e39 ?_)))
   rintro u40 p41 n42 c43 p44 n45 c46 C47 C48 C49 C50 o47 hb48 hx40 rfl o49 rfl o50
   refine rdq g_mixed [3, 4, 5] [4, 5, 6] { dst := dS [23, 24, 25, 26, 27, 28, 29, 30, 31, 32, 33, 34, 35, 0], pre := gA [] [[], [0], [], [], [3], [3, 4], [3, 4, 5], [], [7], rn 3 6, rn 3 7, rn 3 8, rn 0 12, rn 0 13], ids := fun i => match i with | 5 => [7] | 9 => [8] | 13 => [4, 7, 8] | _ => [], rs := rL [[(3, 0)], [(22, 1)], [(4, 0)], [(5, 0)], [(25, 4)], [(26, 5)], [(27, 6)], [(5, 0)], [(29, 8)], [(30, 9)], [(31, 10)], [(28, 7), (32, 11)], [(23, 2), (24, 3)], [(34, 13), (33, 12)]], rh := rL [[], [(5, 0)], [], [], [(6, 0)], [], [], [], [(6, 0)], [], [], [], [(4, 0)], [(4, 0), (7, 6), (8, 10)]], V := fun i g => gA undef [.pointer (some ⟨b15, 2, none⟩), .slice p13 x12 x12, .int .i64 v18, .pointer (some ⟨b28, 0, none⟩), .slice p22 ((x20.n).length) c24, .slice ((g 5).A 0) ((x29).length) ((g 5).C 0), .slice ((g 5).A 0) ((x29).length) ((x29).length), .pointer (some ⟨b28, 1, none⟩), .slice p25 ((x20.w).length) c27, .slice ((g 9).A 0) ((x34).length) ((g 9).C 0), .slice ((g 9).A 0) ((x34).length) ((x34).length), .agg #[.slice ((g 5).A 0) ((x29).length) ((x29).length), .slice ((g 9).A 0) ((x34).length) ((x34).length)], .pointer (some ⟨eB p13, eO p13 + Int.toNat v18 * Enc.sz CpS + 0, none⟩)] i, U := fun i g => match i with | 5 => [(7, ((g 5).R 0))] | 9 => [(8, ((g 9).R 0))] | 13 => [(4, ((g 13).R 0)), (7, ((g 13).R 1)), (8, ((g 13).R 2))] | _ => [], Φ := fun i x => match i with | 5 => OwnC 53 (x.A 0) (x.C 0) x29 (x.R 0) | 9 => OwnC 53 (x.A 0) (x.C 0) x34 (x.R 0) | 13 => OwnC (α := CpS) 43 p13 x12 (u40.set (Int.toNat v18) (⟨(x.A 0), (x29).length, (x.C 0), (x.A 1), (x34).length, (x.C 1)⟩ : CpS)) (x.R 0) ∧ OwnC 53 (x.A 0) (x.C 0) x29 (x.R 1) ∧ OwnC 53 (x.A 1) (x.C 1) x34 (x.R 2) | _ => True } ?_ ?_
   ·refine ⟨lc rfl rfl fun hs hh => stp_fieldAddr (j := 2) Tryd.underlying29 rfl ts27 rfl (sv hs 3 rfl) rfl, lc rfl rfl fun hs hh => stp_load1 ts27 (sv hs 22 rfl) (Cells.box (id := 5) (hh.get 5 _ rfl) 1 rfl), lM, lc rfl rfl fun hs hh => stp_fieldAddr (j := 0) Tryd.underlying43 rfl ts41 rfl (sv hs 5 rfl) rfl, lc rfl rfl fun hs hh => stp_load1 ts41 (sv hs 25 rfl) (Cells.box (id := 6) (hh.get 6 _ rfl) 1 rfl), ?_, ?_, lc rfl rfl fun hs hh => stp_fieldAddr (j := 1) Tryd.underlying43 rfl ts41 rfl (sv hs 5 rfl) rfl, lc rfl rfl fun hs hh => stp_load1 ts41 (sv hs 29 rfl) (Cells.box (id := 6) (hh.get 6 _ rfl) 1 rfl), ?_, ?_, ld rfl rfl fun g hΦ s h hs hh => stp_build (cs := #[.slice ((g 5).A 0) ((x29).length) ((x29).length), .slice ((g 9).A 0) ((x34).length) ((x34).length)]) (sevp_cons (sv hs 28 rfl) (sevp_cons (sv hs 32 rfl) sevp_nil)) bt43_8, lc rfl rfl fun hs hh => stp_indexAddr Tryd.underlying27 ts43 (by decide) (sv hs 23 rfl) (Eq.trans (a := x12) (b := (v16).length) (by simp [hl17]) (Bun.len hb48)) (sv hs 24 rfl) (Rdb.own (id := 4) (hh.get 4 _ rfl) o47) hx40, ?_, trivial⟩
    ·refine le rfl rfl (fun g hΦ s h hs hh => (stpU_call (fun i => 7 + i) cf59 (fun w hw => c_slices_Clone_Note fl w x20.n rfl (RO.pass hr21 hw) x29 e29) (yA (sv hs 26 rfl)))) ?_
     rintro g _ _ ⟨_, ⟨p30, _, c32, C33, rfl, rfl, rfl, o33⟩, rfl⟩
     exact ⟨⟨[p30], [c32], [C33]⟩, o33, .inr rfl, rfl⟩
    ·refine le rfl rfl (fun g hΦ s h hs hh => (stpU_call (fun i => i) cf33 (fun w hw => c_clip33 w ((g 5).A 0) ((x29).length) ((g 5).C 0) (OwnC.len (hΦ 5 rfl)).1) (yA (sv hs 27 rfl)))) ?_
     rintro g _ _ ⟨_, ⟨rfl, rfl⟩, rfl⟩
     exact ⟨⟨[], [], []⟩, trivial, .inr rfl, rfl⟩
    ·refine le rfl rfl (fun g hΦ s h hs hh => (stpU_call (fun i => 8 + i) cf59 (fun w hw => c_slices_Clone_Note fl w x20.w rfl (RO.pass hs21 hw) x34 e34) (yA (sv hs 30 rfl)))) ?_
     rintro g _ _ ⟨_, ⟨p35, _, c37, C38, rfl, rfl, rfl, o38⟩, rfl⟩
     exact ⟨⟨[p35], [c37], [C38]⟩, o38, .inr rfl, rfl⟩
    ·refine le rfl rfl (fun g hΦ s h hs hh => (stpU_call (fun i => i) cf33 (fun w hw => c_clip33 w ((g 9).A 0) ((x34).length) ((g 9).C 0) (OwnC.len (hΦ 9 rfl)).1) (yA (sv hs 31 rfl)))) ?_
     rintro g _ _ ⟨_, ⟨rfl, rfl⟩, rfl⟩
     exact ⟨⟨[], [], []⟩, trivial, .inr rfl, rfl⟩
    refine le rfl rfl (fun g hΦ s h hs hh => (stpU_keep (hh.get 8 _ rfl) (stpU_keep (hh.get 7 _ rfl) (stpU_storeEl (id := 4) (i := 0) (⟨((g 5).A 0), (x29).length, (x29).length, ((g 9).A 0), (x34).length, (x34).length⟩ : CpS) (by decide) ts43 (sv hs 34 rfl) (sv hs 33 rfl) (hh.get 4 _ rfl) o47 hx40 rfl rfl rfl rfl) (by rintro _ _ ⟨_, rfl, _⟩; rfl) (OwnC.clip (hΦ 5 rfl))) (by rintro _ _ ⟨_, ⟨_, rfl, _⟩, rfl, _⟩; rfl) (OwnC.clip (hΦ 9 rfl)))) ?_
    rintro g _ _ ⟨_, ⟨_, ⟨C51, rfl, o51⟩, rfl, o54⟩, rfl, o57⟩
    exact ⟨⟨[((g 5).A 0), ((g 9).A 0)], [(x29).length, (x34).length], [C51, ((g 5).R 0), ((g 9).R 0)]⟩, ⟨o51, o54, o57⟩, .inl rfl, rfl⟩
   intro g hΦ
   refine kw_gen (ι := Option Addr × Nat × Res × Option Addr × Nat × Res × Option Addr × Option Addr × Nat × Nat × Res × Res × Res) (((g 5).A 0), ((g 5).C 0), ((g 5).R 0), ((g 9).A 0), ((g 9).C 0), ((g 9).R 0), ((g 13).A 0), ((g 13).A 1), ((g 13).C 0), ((g 13).C 1), ((g 13).R 0), ((g 13).R 1), ((g 13).R 2)) (fun | (p30, c32, C33, p35, c37, C38, p52, p55, c53, c56, C51, C54, C57) => OwnC 53 p30 c32 x29 C33 ∧ OwnC 53 p35 c37 x34 C38 ∧ OwnC (α := CpS) 43 p13 x12 (u40.set (Int.toNat v18) (⟨p52, (x29).length, c53, p55, (x34).length, c56⟩ : CpS)) C51 ∧ OwnC 53 p52 c53 x29 C54 ∧ OwnC 53 p55 c56 x34 C57) (fun | (p30, c32, C33, p35, c37, C38, p52, p55, c53, c56, C51, C54, C57) => [(2, .pointer (some ⟨b2, 0, none⟩)), (3, .pointer (some ⟨b15, 0, none⟩)), (15, .slice p0_2 ((a0.c).length) c0_2), (16, .int .i64 ((a0.c).length : Int)), (17, .int .i64 v18)]) (fun | (p30, c32, C33, p35, c37, C38, p52, p55, c53, c56, C51, C54, C57) => [(1, [(b2, .cells #[.slice none 0 0, .slice none 0 0, .slice none 0 0] 29 (0, 0))]), (2, C7), (3, C11), (4, C51), (5, [(b15, .cells #[.slice p4 ((x3.b).length) c6, .slice p8 ((x3.f).length) c10, .slice p13 x12 x12] 29 (0, 0))]), (7, C54), (8, C57), (9, C48)]) ⟨(hΦ 5 (by decide)), (hΦ 9 (by decide)), (hΦ 13 (by decide)).1, (hΦ 13 (by decide)).2.1, (hΦ 13 (by decide)).2.2⟩ ⟨rfl, rfl, rfl, rfl, rfl, trivial⟩ ⟨rfl, rfl, rfl, rfl, rfl, rfl, rfl, rfl, trivial⟩ ?_
   rintro ⟨p30, c32, C33, p35, c37, C38, p52, p55, c53, c56, C51, C54, C57⟩ ⟨o33, o38, o51, o54, o57⟩
   dsimp only
   obtain ⟨x58, e58, H1⟩ := bS H1
   refine kw_bl_normal (kw_nx (cw_region (oP e58 rfl (oM rfl (ow_nil (kw_shut 4 9 7 8 o51 (Bun.setL (Bun.set hb48 _) _) (idx_some (idx_set hx40)).2.2 (idx_setD e39 (⟨x29, x34⟩ : Cp)) rfl o54 rfl o57 ?_))))))
   rintro C59 o59
   exact kw_lqS (js := [1, 2, 3, 4, 5]) (fuel, (v16.set (Int.toNat v18) (⟨x29, x34⟩ : Cp)), x58, C59) ⟨H1, (by simp [hl17]), o59⟩ (Nat.lt_succ_self _) ⟨rfl, rfl, rfl, rfl, rfl, trivial⟩ ⟨1, [2, 3, 4, 5], rfl, rfl, 2, [3, 4, 5], rfl, rfl, 3, [4, 5], rfl, rfl, 4, [5], rfl, rfl, 5, [], rfl, rfl, trivial⟩ (by decide)
  have H1 := cond_f H1 h19
  refine cw_exit (kw_nx_exit (kw_lq_exit (kw_bl ?_)))
  obtain rfl := sI H1
  exact kw_joinS (js := [1, 2, 3, 4, 5]) (v16, v18, C17) ⟨rfl, (by simp [hl17]), o17⟩ ⟨rfl, rfl, rfl, rfl, rfl, trivial⟩ ⟨1, [2, 3, 4, 5], rfl, rfl, 2, [3, 4, 5], rfl, rfl, 3, [4, 5], rfl, rfl, 4, [5], rfl, rfl, 5, [], rfl, rfl, trivial⟩ (by decide)
 rintro ⟨v16, v18, C17⟩ ⟨rfl, hl17, o17⟩
 dsimp only
 refine kw_nx (sr (oB3 5 ts29 rfl (oC3 1 ts29 rfl rfl (nn (cw_ret ?_)))))
 obtain rfl := sI H0
 exact kr Tryd.results31 (rC3 1 ts29 rfl rfl) [2, 3, 4] ⟨_, _, _, _, _, _, _, _, _, _, _, _, rfl, rfl, rfl, o7, rfl, o11, (by simp [hl17]), o17⟩

theorem c_i_drop_1 (fl : Nat) (w : World) (a0 : Nt) (qc0 : Nat) (ac0 : K) (hbac0 : RO w (hkeys []) (fun w' => w'.rangeAt qc0 0 [.int .i64 ac0.s, .int .i64 ac0.p])) (r : Bool) (H0 : i_drop_1 fl a0 ac0 = some r) :
  Ct Tryd.prog 61 [.agg #[.int .i64 a0.k.s, .int .i64 a0.k.p, .int .i64 a0.fr], .pointer (some ⟨qc0, 0, none⟩)] w [] (fun rv h' => rv = .bool r ∧ h' = []) := by
 unfold i_drop_1 at H0
 refine ct_of_cw Tryd.func61 rfl Tryd.ntmps61 rfl (Sat.refl _ _) ?_
 refine sr (oE (stpU_box 0 rfl rfl) rfl ?_)
 rintro _ _ ⟨b1, rfl, rfl⟩
 refine oS rfl (nn (sr (oA 0 Tryd.underlying53 rfl ts36 rfl (oB2 0 ts36 rfl (oD (stp_loadN (us := [_, _]) ts36 rfl (Cells.ofRO hbac0 2 rfl)) rfl (oD (stp_eqlS te36 a0.k ac0 rfl rfl) rfl (oS rfl (nn (cw_ret ?_)))))))))
 obtain rfl := sI H0
 exact kr Tryd.results61 (rT rfl) [] ⟨rfl, rfl⟩

theorem c_slices_IndexFunc_Note_of_i_drop_1 (fl : Nat) (w : World) (a0 : (List Nt)) (q1_0 : Nat) (a1_0 : K) (hn0_0 : n0_0 = (a0).length) (hr0_0 : RO w (hkeys []) (RdL p0_0 c0_0 a0)) (hba1_0 : RO w (hkeys []) (fun w' => w'.rangeAt q1_0 0 [.int .i64 a1_0.s, .int .i64 a1_0.p])) (r : Int) (H0 : slices_IndexFunc_Note_of_i_drop_1 fl a0 a1_0 = some r) :
  Ct Tryd.prog 55 [.slice p0_0 n0_0 c0_0, .func (.func 61) #[] #[.pointer (some ⟨q1_0, 0, none⟩)]] w [] (fun rv h' => rv = .int .i64 r ∧ h' = []) := by
 subst hn0_0
 unfold slices_IndexFunc_Note_of_i_drop_1 at H0
 refine ct_of_cw Tryd.func55 rfl Tryd.ntmps55 rfl (Sat.refl _ _) ?_
 obtain ⟨o0_0, eo0_0, H0⟩ := bS H0
 refine sr (oS rfl (nn (cw_seq (sr (oM rfl (oD (stp_len Tryd.underlying41 rfl) rfl (oM rfl (nn (cw_join (ι := Int) (fun | v1 => o0_0 = .out v1) (fun | v1 => [(0, .slice p0_0 ((a0).length) c0_0), (1, .func (.func 61) #[] #[.pointer (some ⟨q1_0, 0, none⟩)]), (7, .int .i64 ((a0).length : Int)), (8, .int .i64 v1)]) (fun | v1 => []) ?_ ?_)))))))))
 ·refine cw_block (cw_loopS (ι := Nat × Int) (js := []) (fun x => x.1) (fun | (fuel, v1) => slices_IndexFunc_Note_of_i_drop_1_L0 fl a0 a1_0 fuel v1 = some o0_0) (fun | (_, v1) => [(0, .slice p0_0 ((a0).length) c0_0), (1, .func (.func 61) #[] #[.pointer (some ⟨q1_0, 0, none⟩)]), (7, .int .i64 ((a0).length : Int)), (8, .int .i64 v1)]) (fun | (_, v1) => []) (fl, 0) eo0_0 ⟨rfl, rfl, rfl, rfl, trivial⟩ trivial (by decide) ?_)
  rintro ⟨fuel, v1⟩ H1
  have H1 : slices_IndexFunc_Note_of_i_drop_1_L0 fl a0 a1_0 fuel v1 = some o0_0 := H1
  rcases fuel with _ | fuel
  ·rw [slices_IndexFunc_Note_of_i_drop_1_L0.eq_1] at H1; cases H1
  rw [slices_IndexFunc_Note_of_i_drop_1_L0.eq_2] at H1
  dsimp only
  refine sr (oW rfl (nn (cw_seq (cw_cond rfl (fun h2 => ?_) (fun h2 => ?_)))))
  ·have H1 := cond_t H1 h2
   obtain ⟨x3, e3, H1⟩ := bS H1
   refine cw_skip (kw_nx (cw_seq (cw_block (sr (oM rfl (oS rfl (nn (sr (oM rfl (oM rfl (oM rfl (oD (stp_indexAddr Tryd.underlying41 ts53 (by decide) rfl rfl rfl (Rdb.ro hr0_0) e3) rfl (oD (stp_loadN (us := [_, _, _]) ts53 rfl (Cells.el (Rdb.ro hr0_0) (by decide) e3 0 3 rfl)) rfl ?_)))))))))))))
   obtain ⟨x4, e4, H1⟩ := bS H1
   refine oE (stpU_callF (vals := [_]) (ca := [_]) (fun i => 0 + i) cf61 (fun w hw => c_i_drop_1 fl w x3 q1_0 a1_0 (RO.pass hba1_0 hw) x4 e4) rfl (yA rfl)) rfl ?_
   rintro _ _ ⟨_, ⟨rfl, rfl⟩, rfl⟩
   refine nn (cw_cond rfl (fun h5 => ?_) (fun h5 => ?_))
   ·have H1 := cond_t H1 h5
    refine sr (oM rfl (oS rfl (nn (cw_ret (kw_bl_ret (kw_nx_ret (kw_lq_ret (kw_bl_ret (kw_join_ret (kw_nx_ret ?_))))))))))
    obtain rfl := sI H1
    obtain rfl := sI H0
    exact kr Tryd.results55 (rT rfl) [] ⟨rfl, rfl⟩
   have H1 := cond_f H1 h5
   obtain ⟨x6, e6, H1⟩ := bS H1
   exact cw_skip (kw_bl_normal (kw_nx (cw_region (oP e6 rfl (oM rfl (ow_nil (kw_lqS (js := []) (fuel, x6) H1 (Nat.lt_succ_self _) ⟨rfl, rfl, rfl, rfl, trivial⟩ trivial (by decide))))))))
  have H1 := cond_f H1 h2
  refine cw_exit (kw_nx_exit (kw_lq_exit (kw_bl ?_)))
  obtain rfl := sI H1
  exact kw_joinS (js := []) v1 rfl ⟨rfl, rfl, rfl, rfl, trivial⟩ trivial (by decide)
 rintro v1 rfl
 dsimp only
 refine kw_nx (sr (oS rfl (nn (cw_ret ?_))))
 obtain rfl := sI H0
 exact kr Tryd.results55 (rT rfl) [] ⟨rfl, rfl⟩

theorem c_slices_DeleteFunc_Note_of_i_drop_1 (fl : Nat) (w : World) (a0 : (List Nt)) (q1_0 : Nat) (a1_0 : K) (hn0_0 : n0_0 = (a0).length) (ho0_0 : OwnC 53 p0_0 c0_0 a0 C0_0) (hba1_0 : RO w (hkeys [(0, C0_0)]) (fun w' => w'.rangeAt q1_0 0 [.int .i64 a1_0.s, .int .i64 a1_0.p])) (hM : Sat w (hkeys [(0, C0_0)]) w [(0, C0_0)]) (r : (List Nt)) (H0 : slices_DeleteFunc_Note_of_i_drop_1 fl a0 a1_0 = some r) :
  Ct Tryd.prog 60 [.slice p0_0 n0_0 c0_0, .func (.func 61) #[] #[.pointer (some ⟨q1_0, 0, none⟩)]] w [(0, C0_0)] (fun rv h' => ∃ (x1 : Option Addr) (y1 z1 : Nat) (C1 : Res), rv = .slice x1 y1 z1 ∧ h' = [(0, []), (1, C1)] ∧ y1 = (r).length ∧ OwnC 53 x1 z1 r C1) := by
 subst hn0_0
 unfold slices_DeleteFunc_Note_of_i_drop_1 at H0
 refine ct_of_cw Tryd.func60 rfl Tryd.ntmps60 rfl hM ?_
 obtain ⟨x1, e1, H0⟩ := bS H0
 refine sr (oS rfl (nn (sr (oM rfl (oM rfl (oE (stpU_call (fun i => 1 + i) cf55 (fun w hw => c_slices_IndexFunc_Note_of_i_drop_1 fl w a0 q1_0 a1_0 rfl (OwnC.pass (id := 0) rfl ho0_0 hw) (RO.pass hba1_0 hw) x1 e1) (yB rfl rfl)) rfl ?_))))))
 rintro _ _ ⟨_, ⟨rfl, rfl⟩, rfl⟩
 refine oS rfl (nn (cw_seq (sr (oM rfl (oQ rfl (nn (cw_cond rfl (fun h2 => ?_) (fun h2 => ?_))))))))
 ·have H0 := cond_t H0 h2
  refine sr (oM rfl (oS rfl (nn (cw_ret (kw_nx_ret (kw_addNil 1 ?_))))))
  obtain rfl := sI H0
  exact kr Tryd.results60 (rT rfl) [1, 0] ⟨_, _, _, _, rfl, rfl, rfl, ho0_0⟩
 have H0 := cond_f H0 h2
 obtain ⟨x3, e3, H0⟩ := bS H0
 obtain ⟨o0_0, eo0_0, H0⟩ := bS H0
 refine cw_skip (kw_nx (cw_seq (sr (oM rfl (oP e3 rfl (oS rfl (nn (cw_join (ι := (List Nt) × Int × Int × Res) (fun | (v4, v6, v7, C5) => o0_0 = .out (v4, v6, v7) ∧ (a0).length = (v4).length ∧ OwnC 53 p0_0 c0_0 v4 C5) (fun | (v4, v6, v7, C5) => [(0, .slice p0_0 ((a0).length) c0_0), (1, .func (.func 61) #[] #[.pointer (some ⟨q1_0, 0, none⟩)]), (5, .int .i64 v6), (6, .int .i64 v7)]) (fun | (v4, v6, v7, C5) => [(0, C5)]) ?_ ?_))))))))
 ·refine cw_block (cw_loopS (ι := Nat × (List Nt) × Int × Int × Res) (js := [0]) (fun x => x.1) (fun | (fuel, v4, v6, v7, C5) => slices_DeleteFunc_Note_of_i_drop_1_L0 fl a0 a1_0 fuel v4 v6 v7 = some o0_0 ∧ (a0).length = (v4).length ∧ OwnC 53 p0_0 c0_0 v4 C5) (fun | (_, v4, v6, v7, C5) => [(0, .slice p0_0 ((a0).length) c0_0), (1, .func (.func 61) #[] #[.pointer (some ⟨q1_0, 0, none⟩)]), (5, .int .i64 v6), (6, .int .i64 v7)]) (fun | (_, v4, v6, v7, C5) => [(0, C5)]) (fl, a0, x1, x3, C0_0) ⟨eo0_0, rfl, ho0_0⟩ ⟨rfl, rfl, rfl, rfl, trivial⟩ ⟨0, [], rfl, rfl, trivial⟩ (by decide) ?_)
  rintro ⟨fuel, v4, v6, v7, C5⟩ ⟨H1, hl5, o5⟩
  have H1 : slices_DeleteFunc_Note_of_i_drop_1_L0 fl a0 a1_0 fuel v4 v6 v7 = some o0_0 := H1
  rcases fuel with _ | fuel
  ·rw [slices_DeleteFunc_Note_of_i_drop_1_L0.eq_1] at H1; cases H1
  rw [slices_DeleteFunc_Note_of_i_drop_1_L0.eq_2] at H1
  dsimp only
  refine cw_seq (sr (oM rfl (oM rfl (oD (stp_len Tryd.underlying41 rfl) rfl (oW rfl (nn (cw_cond rfl (fun h8 => ?_) (fun h8 => ?_))))))))
  ·have H1 := cond_t H1 h8
   obtain ⟨x9, e9, H1⟩ := bS H1
   refine cw_skip (kw_nx (cw_seq (cw_block (sr (oM rfl (oM rfl (oD (stp_indexAddr Tryd.underlying41 ts53 (by decide) rfl (by simp [hl5]) rfl (Rdb.own (id := 0) rfl o5) e9) rfl (oD (stp_loadN (us := [_, _, _]) ts53 rfl (Cells.el (Rdb.own (id := 0) rfl o5) (by decide) e9 0 3 rfl)) rfl (oE (stpU_alloc 2 tz53 rfl) rfl ?_)))))))))
   rintro _ _ ⟨b10, rfl, rfl⟩
   obtain ⟨x11, e11, H1⟩ := bS H1
   refine oC3 2 ts53 rfl rfl (nn (sr (oM rfl (oB3 2 ts53 rfl (oE (stpU_callF (vals := [_]) (ca := [_]) (fun i => 3 + i) cf61 (fun w hw => c_i_drop_1 fl w x9 q1_0 a1_0 (RO.pass hba1_0 hw) x11 e11) rfl (yA rfl)) rfl ?_)))))
   rintro _ _ ⟨_, ⟨rfl, rfl⟩, rfl⟩
   refine oK rfl (nn (cw_cond rfl (fun h12 => ?_) (fun h12 => ?_)))
   ·have H1 := cond_t H1 h12
    obtain ⟨x13, e13, H1⟩ := bS H1
    refine sr (oM rfl (oM rfl (oB3 2 ts53 rfl (oD (stp_indexAddr Tryd.underlying41 ts53 (by decide) rfl (by simp [hl5]) rfl (Rdb.own (id := 0) rfl o5) e13) rfl (oF (stpU_storeEl (id := 0) (i := 0) x9 (by decide) ts53 rfl rfl rfl o5 e13 rfl rfl rfl rfl) ?_)))))
    rintro _ _ ⟨C14, rfl, o14⟩
    obtain ⟨x15, e15, H1⟩ := bS H1
    obtain ⟨x16, e16, H1⟩ := bS H1
    exact nn (cw_region (oM rfl (oP e15 rfl (oS rfl (ow_nil (kw_bl_normal (kw_nx (cw_region (oM rfl (oP e16 rfl (oS rfl (ow_nil (kw_lqS (js := [0]) (fuel, (v4.set (Int.toNat v6) x9), x15, x16, C14) ⟨H1, (by simp [hl5]), o14⟩ (Nat.lt_succ_self _) ⟨rfl, rfl, rfl, rfl, trivial⟩ ⟨0, [], rfl, rfl, trivial⟩ (by decide))))))))))))))
   have H1 := cond_f H1 h12
   obtain ⟨x17, e17, H1⟩ := bS H1
   exact cw_skip (kw_bl_normal (kw_nx (cw_region (oM rfl (oP e17 rfl (oS rfl (ow_nil (kw_lqS (js := [0]) (fuel, v4, v6, x17, C5) ⟨H1, (by simp [hl5]), o5⟩ (Nat.lt_succ_self _) ⟨rfl, rfl, rfl, rfl, trivial⟩ ⟨0, [], rfl, rfl, trivial⟩ (by decide)))))))))
  have H1 := cond_f H1 h8
  refine cw_exit (kw_nx_exit (kw_lq_exit (kw_bl ?_)))
  obtain rfl := sI H1
  exact kw_joinS (js := [0]) (v4, v6, v7, C5) ⟨rfl, (by simp [hl5]), o5⟩ ⟨rfl, rfl, rfl, rfl, trivial⟩ ⟨0, [], rfl, rfl, trivial⟩ (by decide)
 rintro ⟨v4, v6, v7, C5⟩ ⟨rfl, hl5, o5⟩
 dsimp only
 obtain ⟨x18, e18, H0⟩ := bS H0
 refine kw_nx (sr (oM rfl (oM rfl (oD (stp_drop Tryd.underlying41 ts53 rfl (by simp [hl5]) rfl (Rdb.own (id := 0) rfl o5) e18) rfl (oF (stpU_clearD (id := 0) sl41 rfl e18 rfl rfl o5) ?_)))))
 rintro _ _ ⟨C19, rfl, rfl, o19⟩
 obtain ⟨x20, e20, H0⟩ := bS H0
 refine nn (sr (oM rfl (oM rfl (oD (stp_take Tryd.underlying41 ts53 rfl (by simp [cpy_len, hl5]) rfl (Rdb.own (id := 0) rfl o19) e20) rfl (oS rfl (nn (cw_ret (kw_addNil 3 ?_))))))))
 obtain rfl := sI H0
 exact kr Tryd.results60 (rT rfl) [3, 0] ⟨_, _, _, _, rfl, rfl, rfl, (OwnC.takeO o19 e20)⟩

theorem c_i_drop (fl : Nat) (w : World) (a0 : (List Nt)) (a1 : K) (hn0_0 : n0_0 = (a0).length) (hr0_0 : RO w (hkeys []) (RdL p0_0 c0_0 a0)) (r : (List Nt)) (H0 : i_drop fl a0 a1 = some r) :
  Ct Tryd.prog 32 [.slice p0_0 n0_0 c0_0, .agg #[.int .i64 a1.s, .int .i64 a1.p]] w [] (fun rv h' => ∃ (x0 : Option Addr) (y0 z0 : Nat) (C0 : Res), rv = .slice x0 y0 z0 ∧ h' = [(0, C0)] ∧ y0 = (r).length ∧ OwnC 53 x0 z0 r C0) := by
 subst hn0_0
 unfold i_drop at H0
 refine ct_of_cw Tryd.func32 rfl Tryd.ntmps32 rfl (Sat.refl _ _) ?_
 refine sr (oE (stpU_box 0 rfl rfl) rfl ?_)
 rintro _ _ ⟨b1, rfl, rfl⟩
 obtain ⟨x2, e2, H0⟩ := bS H0
 refine oS rfl (nn (sr (oM rfl (oE (stpU_call (fun i => 1 + i) cf59 (fun w hw => c_slices_Clone_Note fl w a0 rfl (RO.pass hr0_0 hw) x2 e2) (yA rfl)) rfl ?_))))
 rintro _ _ ⟨_, ⟨p3, _, c5, C6, rfl, rfl, rfl, o6⟩, rfl⟩
 obtain ⟨x7, e7, H0⟩ := bS H0
 refine oD (stp_makeFunc (yA rfl)) rfl (oE (stpU_callM (fun i => bif Nat.beq i 0 then 1 else 2 + i) cf60 (fun w hw hb => c_slices_DeleteFunc_Note_of_i_drop_1 fl w x2 b1 a1 rfl o6 (box_passM (id := 0) rfl hw hb ⟨rfl, trivial⟩) (hw.pass (js := [1]) ⟨1, [], rfl, rfl, trivial⟩ (by decide)) x7 e7) (yB rfl rfl) ⟨rfl, (fun _ _ hp => by obtain ⟨_, _, _, _, _, rfl, _⟩ := hp; exact ⟨_, rfl⟩), trivial⟩) rfl ?_)
 rintro _ _ ⟨_, ⟨p8, _, c10, C11, rfl, rfl, rfl, o11⟩, rfl⟩
 refine oE (stpU_call (fun i => i) cf33 (fun w hw => c_clip33 w p8 ((x7).length) c10 (OwnC.len o11).1) (yA rfl)) rfl ?_
 rintro _ _ ⟨_, ⟨rfl, rfl⟩, rfl⟩
 refine oS rfl (nn (cw_ret ?_))
 obtain rfl := sI H0
 exact kr Tryd.results32 (rT rfl) [3] ⟨_, _, _, _, rfl, rfl, rfl, (OwnC.clip o11)⟩

theorem c_i_LookCpu (fl : Nat) (w : World) (a0 : Sy) (a1 : Int) (a2 : K) (hn0_0 : n0_0 = (a0.t.b).length) (hr0_0 : RO w (hkeys []) (RdL p0_0 c0_0 a0.t.b)) (hn0_1 : n0_1 = (a0.t.f).length) (hr0_1 : RO w (hkeys []) (RdL p0_1 c0_1 a0.t.f)) (hn0_2 : n0_2 = (a0.c).length) (hr0_2 : ROD w (hkeys []) p0_2 c0_2 a0.c) (hg : RO w (hkeys []) (fun w' => w'.rangeAt 0 0 [.bool false, .int .i64 0, .int .i64 0, .int .i64 0, .int .i64 (-1)])) (r : Sy × Int × Int × Bool) (H0 : i_LookCpu fl a0 a1 a2 = some r) :
  Ct Tryd.prog 10 [.agg #[.slice p0_0 n0_0 c0_0, .slice p0_1 n0_1 c0_1, .slice p0_2 n0_2 c0_2], .int .i64 a1, .agg #[.int .i64 a2.s, .int .i64 a2.p]] w [] (fun rv h' => ∃ (x0 : Option Addr) (y0 z0 : Nat) (C0 : Res) (x1 : Option Addr) (y1 z1 : Nat) (C1 : Res) (x2 : Option Addr) (y2 z2 : Nat) (C2 : Res), rv = .tuple #[.agg #[.slice x0 y0 z0, .slice x1 y1 z1, .slice x2 y2 z2], .int .i64 r.2.1, .int .i64 r.2.2.1, .bool r.2.2.2] ∧ h' = [(0, C0), (1, C1), (2, C2)] ∧ y0 = (r.1.t.b).length ∧ OwnC 3 x0 z0 r.1.t.b C0 ∧ y1 = (r.1.t.f).length ∧ OwnC 61 x1 z1 r.1.t.f C1 ∧ y2 = (r.1.c).length ∧ OwnD 43 53 x2 z2 r.1.c C2) := by
 subst hn0_0 hn0_1 hn0_2
 unfold i_LookCpu at H0
 refine ct_of_cw Tryd.func10 rfl Tryd.ntmps10 rfl (Sat.refl _ _) ?_
 refine sr (oE (stpU_box 0 rfl rfl) rfl ?_)
 rintro _ _ ⟨b1, rfl, rfl⟩
 refine oE (stpU_box 1 rfl rfl) rfl ?_
 rintro _ _ ⟨b2, rfl, rfl⟩
 refine oE (stpU_alloc 2 tz29 rfl) rfl ?_
 rintro _ _ ⟨b3, rfl, rfl⟩
 obtain ⟨x4, e4, H0⟩ := bS H0
 refine oS rfl (oS rfl (oS rfl (nn (cw_seq (sr (oB3 0 ts29 rfl (oM rfl (oE (stpU_call (fun i => 3 + i) cf29 (fun w hw => c_i_cpuOf fl w a0 a1 rfl (RO.pass hr0_0 hw) rfl (RO.pass hr0_1 hw) rfl (ROD.pass hr0_2 hw) (RO.pass hg hw) x4 e4) (yB rfl rfl)) rfl ?_))))))))
 rintro _ _ ⟨_, ⟨rfl, rfl⟩, rfl⟩
 obtain ⟨y5, ey5, H0⟩ := bS H0
 refine oK rfl (oM rfl (ow_cutY 4 23 y5 ?_ ?_))
 ·rcases Bool.eq_false_or_eq_true (!x4) with hy5 | hy5
  ·have ey5 := cond_t ey5 hy5
   refine oO rfl hy5 rfl (oO rfl hy5 rfl (oO rfl hy5 rfl (oD (stp_pick_t rfl hy5 rfl) rfl ?_)))
   obtain rfl := sI ey5
   exact ow_nil (jy 4 0)
  have ey5 := cond_f ey5 hy5
  obtain ⟨x6, e6, ey5⟩ := bS ey5
  refine oG rfl hy5 (stp_loadN (us := [_, _]) ts36 rfl (Cells.box (id := 1) rfl 2 rfl)) rfl (ow_eff (.some rfl hy5) (stpU_call (fun i => 3 + i) cf30 (fun w hw => c_i_KeyValid fl w a2 x6 e6) (yA rfl)) rfl ?_)
  rintro _ _ ⟨_, ⟨rfl, rfl⟩, rfl⟩
  refine oG rfl hy5 (stp_not rfl) rfl (oD (stp_pick_f rfl hy5 rfl) rfl ?_)
  obtain rfl := sI ey5
  exact ow_nil (jy 4 0)
 refine ow_nil (kw_nx (cw_cond rfl (fun h7 => ?_) (fun h7 => ?_)))
 ·have H0 := cond_t H0 h7
  refine sr (oD (stp_build (cs := #[.slice none 0 0, .slice none 0 0, .slice none 0 0]) sevp_nil bt29_2) rfl (oC3 2 ts29 rfl rfl (oS rfl (oS rfl (oS rfl (nn (cw_ret (kw_nx_ret (kw_addNil 3 (kw_addNil 4 (kw_addNil 5 ?_)))))))))))
  obtain rfl := sI H0
  exact kr Tryd.results10 (.cons (.cellN (us := [_, _, _]) ts29 rfl (Cells.box (id := 2) rfl 3 rfl)) (.cons (.tmp rfl) (.cons (.tmp rfl) (rT rfl)))) [3, 4, 5] ⟨_, _, _, _, _, _, _, _, _, _, _, _, rfl, rfl, rfl, (OwnC.nil _ _), rfl, (OwnC.nil _ _), rfl, (OwnD.nil _ _ _)⟩
 have H0 := cond_f H0 h7
 obtain ⟨x8, e8, H0⟩ := bS H0
 refine cw_skip (kw_nx (sr (oB3 0 ts29 rfl (oE (stpU_call (fun i => 6 + i) cf31 (fun w hw => c_i_System_clone fl w a0 rfl (RO.pass hr0_0 hw) rfl (RO.pass hr0_1 hw) rfl (ROD.pass hr0_2 hw) x8 e8) (yA rfl)) rfl ?_))))
 rintro _ _ ⟨_, ⟨p9, _, c11, C12, p13, _, c15, C16, p17, _, c19, C20, rfl, rfl, rfl, o12, rfl, o16, rfl, o20⟩, rfl⟩
 refine oE (stpU_alloc 9 tz29 rfl) rfl ?_
 rintro _ _ ⟨b21, rfl, rfl⟩
 obtain ⟨x22, e22, H0⟩ := bS H0
 refine oC3 9 ts29 rfl rfl (nn (sr (oA 2 Tryd.underlying29 rfl ts27 rfl (oL 9 ts27 rfl (oM rfl (ow_open 8 10 11 12 rfl o20 e22 ?_))))))
 rintro u23 p24 n25 c26 p27 n28 c29 C30 C31 C32 C33 o30 hb31 hx23 rfl o32 rfl o33
 obtain ⟨x34, e34, H0⟩ := bS H0
 refine oD (stp_indexAddr Tryd.underlying27 ts43 (by decide) rfl (Bun.len hb31) rfl (Rdb.own (id := 8) rfl o30) hx23) rfl (oS rfl (nn (cw_seq (cw_seq (rdq g_mixed [5, 11] [1, 8, 11] { dst := dS [32, 33, 34, 35, 36, 37, 13], pre := gA [] [[], [0], [0, 1], [0, 1, 2], [], rn 0 5, rn 0 6], ids := fun _ => [], rs := rL [[(11, 0)], [(31, 1)], [(32, 2)], [(33, 3)], [(5, 0)], [(34, 4), (35, 5)], [(36, 6)]], rh := rL [[], [], [], [(8, 0)], [(1, 0)], [(11, 0)]], V := fun i g => gA undef [.pointer (some ⟨eB p17, eO p17 + Int.toNat a1 * Enc.sz CpS + 0, none⟩), .pointer (some ⟨eB p17, eO p17 + Int.toNat a1 * Enc.sz CpS + 0, none⟩), .pointer (some ⟨eB p17, eO p17 + Int.toNat a1 * Enc.sz CpS + 0, none⟩), .slice p24 ((x22.n).length) c26, .agg #[.int .i64 a2.s, .int .i64 a2.p], .int .i64 x34, .int .i64 x34] i, U := fun _ _ => [], Φ := fun _ _ => True } ?_ ?_)))))
 ·refine ⟨lM, lc rfl rfl fun hs hh => stp_nilCheck (sv hs 31 rfl), lc rfl rfl fun hs hh => stp_fieldAddr (j := 0) Tryd.underlying43 rfl ts41 rfl (sv hs 32 rfl) rfl, lc rfl rfl fun hs hh => stp_load1 ts41 (sv hs 33 rfl) (Cells.el (Rdb.own (id := 8) (hh.get 8 _ rfl) o30) (by decide) hx23 0 1 rfl), lc rfl rfl fun hs hh => stp_loadN (us := [_, _]) ts36 (sv hs 5 rfl) (Cells.box (id := 1) (hh.get 1 _ rfl) 2 rfl), ?_, lS, trivial⟩
  refine le rfl rfl (fun g hΦ s h hs hh => (stpU_call (fun i => 13 + i) cf26 (fun w hw => c_i_noteOf fl w x22.n a2 rfl (OwnC.pass (id := 11) (hh.get 11 _ rfl) o32 hw) x34 e34) (yB (sv hs 34 rfl) (sv hs 35 rfl)))) ?_
  rintro g _ _ ⟨_, ⟨rfl, rfl⟩, rfl⟩
  exact ⟨⟨[], [], []⟩, trivial, .inr rfl, rfl⟩
 intro g hΦ
 refine KW.sub (s' := [(3, .pointer (some ⟨b1, 0, none⟩)), (5, .pointer (some ⟨b2, 0, none⟩)), (6, .pointer (some ⟨b3, 0, none⟩)), (10, .pointer (some ⟨b21, 0, none⟩)), (11, .pointer (some ⟨eB p17, eO p17 + Int.toNat a1 * Enc.sz CpS + 0, none⟩)), (12, .int .i64 x34)]) (h' := [(0, [(b1, .cells #[.slice p0_0 ((a0.t.b).length) c0_0, .slice p0_1 ((a0.t.f).length) c0_1, .slice p0_2 ((a0.c).length) c0_2] 29 (0, 0))]), (1, [(b2, .cells #[.int .i64 a2.s, .int .i64 a2.p] 36 (0, 0))]), (2, [(b3, .cells #[.slice none 0 0, .slice none 0 0, .slice none 0 0] 29 (0, 0))]), (6, C12), (7, C16), (8, C30), (9, [(b21, .cells #[.slice p9 ((x8.t.b).length) c11, .slice p13 ((x8.t.f).length) c15, .slice p17 ((x8.c).length) c19] 29 (0, 0))]), (10, C31), (11, C32), (12, C33)]) ?_ ⟨rfl, rfl, rfl, rfl, rfl, rfl, trivial⟩ ⟨rfl, rfl, rfl, rfl, rfl, rfl, rfl, rfl, rfl, rfl, trivial⟩
 refine kw_nx (sr (oM rfl (oI rfl (nn (cw_cond rfl (fun h35 => ?_) (fun h35 => ?_))))))
 ·have H0 := cond_t H0 h35
  obtain ⟨x36, e36, H0⟩ := bS H0
  refine cw_seq (rdq g_mixed [6, 10, 11, 12] [2, 8, 9, 11] { dst := dS [40, 41, 42, 43, 44, 45, 46, 47, 48, 0, 8, 9, 10], pre := gA [] [[], [], [1], [1, 2], [1, 2, 3], [], rn 1 5, rn 1 6, rn 1 7, [0], rn 0 10, rn 0 11, rn 0 12], ids := fun i => match i with | 9 => [2] | _ => [], rs := rL [[(10, 0)], [(11, 0)], [(40, 2)], [(41, 3)], [(42, 4)], [(12, 0)], [(43, 5), (44, 6)], [(45, 7)], [(46, 8)], [(6, 0), (39, 1)], [(47, 9)], [], []], rh := rL [[(9, 0)], [], [], [], [(8, 0)], [], [(11, 0)], [], [(11, 0)], [(2, 0)]], V := fun i g => gA undef [.agg #[.slice p9 ((x8.t.b).length) c11, .slice p13 ((x8.t.f).length) c15, .slice p17 ((x8.c).length) c19], .pointer (some ⟨eB p17, eO p17 + Int.toNat a1 * Enc.sz CpS + 0, none⟩), .pointer (some ⟨eB p17, eO p17 + Int.toNat a1 * Enc.sz CpS + 0, none⟩), .pointer (some ⟨eB p17, eO p17 + Int.toNat a1 * Enc.sz CpS + 0, none⟩), .slice p24 ((x22.n).length) c26, .int .i64 x34, .pointer (some ⟨eB p24, eO p24 + Int.toNat x34 * Enc.sz Nt + 0, none⟩), .pointer (some ⟨eB p24, eO p24 + Int.toNat x34 * Enc.sz Nt + 2, none⟩), .int .i64 x36.fr, undef, .int .i64 x36.fr, .int .i64 1, .bool true] i, U := fun i g => match i with | 9 => [(2, [(b3, .cells #[.slice p9 ((x8.t.b).length) c11, .slice p13 ((x8.t.f).length) c15, .slice p17 ((x8.c).length) c19] 29 (0, 0))])] | _ => [], Φ := fun _ _ => True } ?_ ?_)
  ·refine ⟨lc rfl rfl fun hs hh => stp_loadN (us := [_, _, _]) ts29 (sv hs 10 rfl) (Cells.box (id := 9) (hh.get 9 _ rfl) 3 rfl), lM, lc rfl rfl fun hs hh => stp_nilCheck (sv hs 40 rfl), lc rfl rfl fun hs hh => stp_fieldAddr (j := 0) Tryd.underlying43 rfl ts41 rfl (sv hs 41 rfl) rfl, lc rfl rfl fun hs hh => stp_load1 ts41 (sv hs 42 rfl) (Cells.el (Rdb.own (id := 8) (hh.get 8 _ rfl) o30) (by decide) hx23 0 1 rfl), lM, lc rfl rfl fun hs hh => stp_indexAddr Tryd.underlying41 ts53 (by decide) (sv hs 43 rfl) rfl (sv hs 44 rfl) (Rdb.own (id := 11) (hh.get 11 _ rfl) o32) e36, lc rfl rfl fun hs hh => stp_fieldAddr (j := 2) Tryd.underlying53 rfl ts3 rfl (sv hs 45 rfl) rfl, lc rfl rfl fun hs hh => stp_load1 ts3 (sv hs 46 rfl) (Cells.el (Rdb.own (id := 11) (hh.get 11 _ rfl) o32) (by decide) e36 2 1 rfl), ?_, lS, lc rfl rfl fun hs hh => stp_assign rfl, lc rfl rfl fun hs hh => stp_assign rfl, trivial⟩
   refine le rfl rfl (fun g hΦ s h hs hh => (stpU_store (id := 2) (cs' := [.slice p9 ((x8.t.b).length) c11, .slice p13 ((x8.t.f).length) c15, .slice p17 ((x8.c).length) c19]) ts29 (sv hs 6 rfl) (sv hs 39 rfl) (hh.get 2 _ rfl) rfl rfl rfl rfl)) ?_
   rintro g _ _ rfl
   exact ⟨⟨[], [], []⟩, trivial, .inl rfl, rfl⟩
  intro g hΦ
  refine KW.sub (s' := [(6, .pointer (some ⟨b3, 0, none⟩)), (7, .int .i64 x36.fr), (8, .int .i64 1), (9, .bool true)]) (h' := [(2, [(b3, .cells #[.slice p9 ((x8.t.b).length) c11, .slice p13 ((x8.t.f).length) c15, .slice p17 ((x8.c).length) c19] 29 (0, 0))]), (6, C12), (7, C16), (8, C30), (10, C31), (11, C32), (12, C33)]) ?_ ⟨rfl, rfl, rfl, rfl, trivial⟩ ⟨rfl, rfl, rfl, rfl, rfl, rfl, rfl, trivial⟩
  refine kw_nx (cw_ret (kw_nx_ret (kw_shut 8 10 11 12 o30 hb31 (idx_some hx23).2.2 (idx_some e22).2.2 rfl o32 rfl o33 ?_)))
  rintro C37 o37
  obtain rfl := sI H0
  exact kr Tryd.results10 (.cons (.cellN (us := [_, _, _]) ts29 rfl (Cells.box (id := 2) rfl 3 rfl)) (.cons (.tmp rfl) (.cons (.tmp rfl) (rT rfl)))) [6, 7, 8] ⟨_, _, _, _, _, _, _, _, _, _, _, _, rfl, rfl, rfl, o12, rfl, o16, rfl, o37⟩
 have H0 := cond_f H0 h35
 obtain ⟨x38, e38, H0⟩ := bS H0
 refine cw_skip (kw_nx (sr (oA 0 Tryd.underlying29 rfl ts26 rfl (oB2 0 ts26 rfl (oB2 1 ts36 rfl (oE (stpU_call (fun i => 13 + i) cf25 (fun w hw => c_i_Table_find fl w a0.t a2 rfl (RO.pass hr0_0 hw) rfl (RO.pass hr0_1 hw) x38 e38) (yB rfl rfl)) rfl ?_))))))
 rintro _ _ ⟨_, ⟨rfl, rfl⟩, rfl⟩
 refine oS rfl (nn (cw_seq (sr (oM rfl (oW rfl (nn (cw_cond rfl (fun h39 => ?_) (fun h39 => ?_))))))))
 ·have H0 := cond_t H0 h39
  refine sr (oB3 9 ts29 rfl (oC3 2 ts29 rfl rfl (oS rfl (oS rfl (oS rfl (nn (cw_ret (kw_nx_ret (kw_shut 8 10 11 12 o30 hb31 (idx_some hx23).2.2 (idx_some e22).2.2 rfl o32 rfl o33 ?_)))))))))
  rintro C40 o40
  obtain rfl := sI H0
  exact kr Tryd.results10 (.cons (.cellN (us := [_, _, _]) ts29 rfl (Cells.box (id := 2) rfl 3 rfl)) (.cons (.tmp rfl) (.cons (.tmp rfl) (rT rfl)))) [6, 7, 8] ⟨_, _, _, _, _, _, _, _, _, _, _, _, rfl, rfl, rfl, o12, rfl, o16, rfl, o40⟩
 have H0 := cond_f H0 h39
 refine cw_skip (kw_nx (cw_seq (sr (oM rfl (oZ rfl (oA 0 Tryd.underlying43 rfl ts41 rfl (oD (stp_load1 ts41 rfl (Cells.el (Rdb.own (id := 8) rfl o30) (by decide) hx23 0 1 rfl)) rfl (oD (stp_len Tryd.underlying41 rfl) rfl (oQ rfl (nn (cw_cond rfl (fun h41 => ?_) (fun h41 => ?_))))))))))))
 ·have H0 := cond_t H0 h41
  obtain ⟨x42, e42, H0⟩ := bS H0
  refine sr (oM rfl (oZ rfl (oA 0 Tryd.underlying43 rfl ts41 rfl (oD (stp_load1 ts41 rfl (Cells.el (Rdb.own (id := 8) rfl o30) (by decide) hx23 0 1 rfl)) rfl (oD (stp_indexAddr Tryd.underlying41 ts53 (by decide) rfl rfl rfl (Rdb.own (id := 11) rfl o32) e42) rfl (oA 0 Tryd.underlying53 rfl ts36 rfl (oD (stp_loadN (us := [_, _]) ts36 rfl (Cells.el (Rdb.own (id := 11) rfl o32) (by decide) e42 0 2 rfl)) rfl (oE (stpU_alloc 13 tz36 rfl) rfl ?_))))))))
  rintro _ _ ⟨b43, rfl, rfl⟩
  obtain ⟨x44, e44, H0⟩ := bS H0
  obtain ⟨x49, e49, H0⟩ := bS H0
  refine oC2 13 ts36 rfl rfl (nn (rdq g_mixed [11, 14] [8, 11, 12, 13] { dst := dS [69, 70, 71, 72, 73, 74, 75, 76, 77, 78, 79, 80, 81, 82, 83, 84, 0, 85, 86, 0], pre := gA [] [[], [], [], [2], [2, 3], [2, 3, 4], [], rn 2 5, [], [8], [8, 9], [8, 9, 10], [], rn 2 11, [0, 2, 3, 4, 5, 6, 7, 8, 9, 10, 11, 12, 13], [0, 2, 3, 4, 5, 6, 7, 8, 9, 10, 11, 12, 13, 14], [0, 2, 3, 4, 5, 6, 7, 8, 9, 10, 11, 12, 13, 14, 15], rn 0 17, rn 0 18, rn 0 19], ids := fun i => match i with | 7 => [14] | 13 => [15] | 16 => [8, 14] | 19 => [8, 14, 15] | _ => [], rs := rL [[(11, 0)], [(11, 0)], [(11, 0)], [(70, 3)], [(71, 4)], [(72, 5)], [(14, 0)], [(73, 6), (74, 7)], [(11, 0)], [(76, 9)], [(77, 10)], [(78, 11)], [(14, 0)], [(79, 12), (80, 13)], [(68, 1)], [(82, 15)], [(83, 16), (75, 8)], [(69, 2)], [(84, 18)], [(85, 19), (81, 14)]], rh := rL [[], [], [], [], [], [(8, 0)], [(13, 0)], [(11, 0)], [], [], [], [(8, 0)], [(13, 0)], [(12, 0)], [], [], [(8, 0), (14, 8)], [], [], [(8, 17), (14, 17), (15, 14)]], V := fun i g => gA undef [.pointer (some ⟨eB p17, eO p17 + Int.toNat a1 * Enc.sz CpS + 0, none⟩), .pointer (some ⟨eB p17, eO p17 + Int.toNat a1 * Enc.sz CpS + 0, none⟩), .pointer (some ⟨eB p17, eO p17 + Int.toNat a1 * Enc.sz CpS + 0, none⟩), .pointer (some ⟨eB p17, eO p17 + Int.toNat a1 * Enc.sz CpS + 0, none⟩), .pointer (some ⟨eB p17, eO p17 + Int.toNat a1 * Enc.sz CpS + 0, none⟩), .slice p24 ((x22.n).length) c26, .agg #[.int .i64 x42.k.s, .int .i64 x42.k.p], .slice ((g 7).A 0) ((x44).length) ((g 7).C 0), .pointer (some ⟨eB p17, eO p17 + Int.toNat a1 * Enc.sz CpS + 0, none⟩), .pointer (some ⟨eB p17, eO p17 + Int.toNat a1 * Enc.sz CpS + 0, none⟩), .pointer (some ⟨eB p17, eO p17 + Int.toNat a1 * Enc.sz CpS + 1, none⟩), .slice p27 ((x22.w).length) c29, .agg #[.int .i64 x42.k.s, .int .i64 x42.k.p], .slice ((g 13).A 0) ((x49).length) ((g 13).C 0), .pointer (some ⟨eB p17, eO p17 + Int.toNat a1 * Enc.sz CpS + 0, none⟩), .pointer (some ⟨eB p17, eO p17 + Int.toNat a1 * Enc.sz CpS + 0, none⟩), undef, .pointer (some ⟨eB p17, eO p17 + Int.toNat a1 * Enc.sz CpS + 0, none⟩), .pointer (some ⟨eB p17, eO p17 + Int.toNat a1 * Enc.sz CpS + 1, none⟩)] i, U := fun i g => match i with | 7 => [(14, ((g 7).R 0))] | 13 => [(15, ((g 13).R 0))] | 16 => [(8, ((g 16).R 0)), (14, ((g 16).R 1))] | 19 => [(8, ((g 19).R 0)), (14, ((g 19).R 1)), (15, ((g 19).R 2))] | _ => [], Φ := fun i x => match i with | 7 => OwnC 53 (x.A 0) (x.C 0) x44 (x.R 0) | 13 => OwnC 53 (x.A 0) (x.C 0) x49 (x.R 0) | 16 => OwnC (α := CpS) 43 p17 c19 (u23.set (Int.toNat a1) (⟨(x.A 0), (x44).length, (x.C 0), p27, (x22.w).length, c29⟩ : CpS)) (x.R 0) ∧ OwnC 53 (x.A 0) (x.C 0) x44 (x.R 1) | 19 => OwnC (α := CpS) 43 p17 c19 (u23.set (Int.toNat a1) (⟨(x.A 0), (x44).length, (x.C 0), (x.A 1), (x49).length, (x.C 1)⟩ : CpS)) (x.R 0) ∧ OwnC 53 (x.A 0) (x.C 0) x44 (x.R 1) ∧ OwnC 53 (x.A 1) (x.C 1) x49 (x.R 2) | _ => True } ?_ ?_))
  ·refine ⟨lM, lM, lM, lc rfl rfl fun hs hh => stp_nilCheck (sv hs 70 rfl), lc rfl rfl fun hs hh => stp_fieldAddr (j := 0) Tryd.underlying43 rfl ts41 rfl (sv hs 71 rfl) rfl, lc rfl rfl fun hs hh => stp_load1 ts41 (sv hs 72 rfl) (Cells.el (Rdb.own (id := 8) (hh.get 8 _ rfl) o30) (by decide) hx23 0 1 rfl), lc rfl rfl fun hs hh => stp_loadN (us := [_, _]) ts36 (sv hs 14 rfl) (Cells.box (id := 13) (hh.get 13 _ rfl) 2 rfl), ?_, lM, lc rfl rfl fun hs hh => stp_nilCheck (sv hs 76 rfl), lc rfl rfl fun hs hh => stp_fieldAddr (j := 1) Tryd.underlying43 rfl ts41 rfl (sv hs 77 rfl) rfl, lc rfl rfl fun hs hh => stp_load1 ts41 (sv hs 78 rfl) (Cells.el (Rdb.own (id := 8) (hh.get 8 _ rfl) o30) (by decide) hx23 1 1 rfl), lc rfl rfl fun hs hh => stp_loadN (us := [_, _]) ts36 (sv hs 14 rfl) (Cells.box (id := 13) (hh.get 13 _ rfl) 2 rfl), ?_, lc rfl rfl fun hs hh => stp_nilCheck (sv hs 68 rfl), lc rfl rfl fun hs hh => stp_fieldAddr (j := 0) Tryd.underlying43 rfl ts41 rfl (sv hs 82 rfl) rfl, ?_, lc rfl rfl fun hs hh => stp_nilCheck (sv hs 69 rfl), lc rfl rfl fun hs hh => stp_fieldAddr (j := 1) Tryd.underlying43 rfl ts41 rfl (sv hs 84 rfl) rfl, ?_, trivial⟩
   ·refine le rfl rfl (fun g hΦ s h hs hh => (stpU_call (fun i => 14 + i) cf32 (fun w hw => c_i_drop fl w x22.n x42.k rfl (OwnC.pass (id := 11) (hh.get 11 _ rfl) o32 hw) x44 e44) (yB (sv hs 73 rfl) (sv hs 74 rfl)))) ?_
    rintro g _ _ ⟨_, ⟨p45, _, c47, C48, rfl, rfl, rfl, o48⟩, rfl⟩
    exact ⟨⟨[p45], [c47], [C48]⟩, o48, .inr rfl, rfl⟩
   ·refine le rfl rfl (fun g hΦ s h hs hh => (stpU_call (fun i => 15 + i) cf32 (fun w hw => c_i_drop fl w x22.w x42.k rfl (OwnC.pass (id := 12) (hh.get 12 _ rfl) o33 hw) x49 e49) (yB (sv hs 79 rfl) (sv hs 80 rfl)))) ?_
    rintro g _ _ ⟨_, ⟨p50, _, c52, C53, rfl, rfl, rfl, o53⟩, rfl⟩
    exact ⟨⟨[p50], [c52], [C53]⟩, o53, .inr rfl, rfl⟩
   ·refine le rfl rfl (fun g hΦ s h hs hh => (stpU_keep (hh.get 14 _ rfl) (stpU_storeEl (id := 8) (i := 0) (⟨((g 7).A 0), (x44).length, ((g 7).C 0), p27, (x22.w).length, c29⟩ : CpS) (by decide) ts41 (sv hs 83 rfl) (sv hs 75 rfl) (hh.get 8 _ rfl) o30 hx23 rfl rfl rfl rfl) (by rintro _ _ ⟨_, rfl, _⟩; rfl) (hΦ 7 rfl))) ?_
    rintro g _ _ ⟨_, ⟨C54, rfl, o54⟩, rfl, o57⟩
    exact ⟨⟨[((g 7).A 0)], [((g 7).C 0)], [C54, ((g 7).R 0)]⟩, ⟨o54, o57⟩, .inl rfl, rfl⟩
   refine le rfl rfl (fun g hΦ s h hs hh => (stpU_keep (hh.get 15 _ rfl) (stpU_keep (hh.get 14 _ rfl) (stpU_storeElS (id := 8) (i := 1) (⟨((g 16).A 0), (x44).length, ((g 16).C 0), ((g 13).A 0), (x49).length, ((g 13).C 0)⟩ : CpS) (by decide) ts41 (sv hs 85 rfl) (sv hs 81 rfl) (hh.get 8 _ rfl) (hΦ 16 rfl).1 (idx_set hx23) rfl rfl rfl rfl) (by rintro _ _ ⟨_, rfl, _⟩; rfl) (hΦ 16 rfl).2) (by rintro _ _ ⟨_, ⟨_, rfl, _⟩, rfl, _⟩; rfl) (hΦ 13 rfl))) ?_
   rintro g _ _ ⟨_, ⟨_, ⟨C58, rfl, o58⟩, rfl, o61⟩, rfl, o64⟩
   exact ⟨⟨[((g 16).A 0), ((g 13).A 0)], [((g 16).C 0), ((g 13).C 0)], [C58, ((g 16).R 1), ((g 13).R 0)]⟩, ⟨o58, o61, o64⟩, .inl rfl, rfl⟩
  intro g hΦ
  refine kw_gen (ι := Option Addr × Nat × Res × Option Addr × Nat × Res × Option Addr × Nat × Res × Res × Option Addr × Option Addr × Nat × Nat × Res × Res × Res) (((g 7).A 0), ((g 7).C 0), ((g 7).R 0), ((g 13).A 0), ((g 13).C 0), ((g 13).R 0), ((g 16).A 0), ((g 16).C 0), ((g 16).R 0), ((g 16).R 1), ((g 19).A 0), ((g 19).A 1), ((g 19).C 0), ((g 19).C 1), ((g 19).R 0), ((g 19).R 1), ((g 19).R 2)) (fun | (p45, c47, C48, p50, c52, C53, p55, c56, C54, C57, p59, p62, c60, c63, C58, C61, C64) => OwnC 53 p45 c47 x44 C48 ∧ OwnC 53 p50 c52 x49 C53 ∧ OwnC (α := CpS) 43 p17 c19 (u23.set (Int.toNat a1) (⟨p55, (x44).length, c56, p27, (x22.w).length, c29⟩ : CpS)) C54 ∧ OwnC 53 p55 c56 x44 C57 ∧ OwnC (α := CpS) 43 p17 c19 (u23.set (Int.toNat a1) (⟨p59, (x44).length, c60, p62, (x49).length, c63⟩ : CpS)) C58 ∧ OwnC 53 p59 c60 x44 C61 ∧ OwnC 53 p62 c63 x49 C64) (fun | (p45, c47, C48, p50, c52, C53, p55, c56, C54, C57, p59, p62, c60, c63, C58, C61, C64) => [(5, .pointer (some ⟨b2, 0, none⟩)), (6, .pointer (some ⟨b3, 0, none⟩)), (10, .pointer (some ⟨b21, 0, none⟩)), (11, .pointer (some ⟨eB p17, eO p17 + Int.toNat a1 * Enc.sz CpS + 0, none⟩)), (13, .int .i64 x38)]) (fun | (p45, c47, C48, p50, c52, C53, p55, c56, C54, C57, p59, p62, c60, c63, C58, C61, C64) => [(1, [(b2, .cells #[.int .i64 a2.s, .int .i64 a2.p] 36 (0, 0))]), (2, [(b3, .cells #[.slice none 0 0, .slice none 0 0, .slice none 0 0] 29 (0, 0))]), (6, C12), (7, C16), (8, C58), (9, [(b21, .cells #[.slice p9 ((x8.t.b).length) c11, .slice p13 ((x8.t.f).length) c15, .slice p17 ((x8.c).length) c19] 29 (0, 0))]), (10, C31), (14, C61), (15, C64)]) ⟨(hΦ 7 (by decide)), (hΦ 13 (by decide)), (hΦ 16 (by decide)).1, (hΦ 16 (by decide)).2, (hΦ 19 (by decide)).1, (hΦ 19 (by decide)).2.1, (hΦ 19 (by decide)).2.2⟩ ⟨rfl, rfl, rfl, rfl, rfl, trivial⟩ ⟨rfl, rfl, rfl, rfl, rfl, rfl, rfl, rfl, rfl, trivial⟩ ?_
  rintro ⟨p45, c47, C48, p50, c52, C53, p55, c56, C54, C57, p59, p62, c60, c63, C58, C61, C64⟩ ⟨o48, o53, o54, o57, o58, o61, o64⟩
  dsimp only
  obtain ⟨x67, e67, H0⟩ := bS H0
  refine kw_nx (cw_seq (rdq g_mixed [5, 11, 13] [1, 8, 14] { dst := dS [87, 88, 89, 90, 91, 92, 93, 94, 95, 96, 97, 98, 99, 0], pre := gA [] [[], [], [1], [1, 2], [1, 2, 3], [], [], [5, 6], [5, 6, 7], rn 1 8, rn 1 9, rn 0 11, rn 0 12, rn 0 13], ids := fun i => match i with | 8 => [16] | 9 => [14] | 13 => [8, 14] | _ => [], rs := rL [[(11, 0)], [(11, 0)], [(87, 2)], [(88, 3)], [(89, 4)], [(5, 0)], [(13, 0)], [(91, 6), (92, 7)], [(93, 8)], [(90, 5), (94, 9)], [(95, 10)], [(86, 1)], [(97, 12)], [(98, 13), (96, 11)]], rh := rL [[], [], [], [], [(8, 0)], [(1, 0)], [], [], [], [(14, 0), (16, 9)], [], [], [], [(8, 0), (14, 10)]], V := fun i g => gA undef [.pointer (some ⟨eB p17, eO p17 + Int.toNat a1 * Enc.sz CpS + 0, none⟩), .pointer (some ⟨eB p17, eO p17 + Int.toNat a1 * Enc.sz CpS + 0, none⟩), .pointer (some ⟨eB p17, eO p17 + Int.toNat a1 * Enc.sz CpS + 0, none⟩), .pointer (some ⟨eB p17, eO p17 + Int.toNat a1 * Enc.sz CpS + 0, none⟩), .slice p59 ((x44).length) c60, .agg #[.int .i64 a2.s, .int .i64 a2.p], .int .i64 x38, .agg #[.int .i64 a2.s, .int .i64 a2.p, .int .i64 x38], .slice ((g 8).A 0) 1 1, .slice ((g 9).A 0) ((x67).length) ((g 9).C 0), .slice ((g 9).A 0) ((x67).length) ((x67).length), .pointer (some ⟨eB p17, eO p17 + Int.toNat a1 * Enc.sz CpS + 0, none⟩), .pointer (some ⟨eB p17, eO p17 + Int.toNat a1 * Enc.sz CpS + 0, none⟩)] i, U := fun i g => match i with | 8 => [(16, ((g 8).R 0))] | 9 => [(14, ((g 9).R 0))] | 13 => [(8, ((g 13).R 0)), (14, ((g 13).R 1))] | _ => [], Φ := fun i x => match i with | 8 => OwnC (α := Nt) 53 (x.A 0) 1 ([(⟨a2, x38⟩ : Nt)]) (x.R 0) | 9 => OwnC 53 (x.A 0) (x.C 0) x67 (x.R 0) | 13 => OwnC (α := CpS) 43 p17 c19 (u23.set (Int.toNat a1) (⟨(x.A 0), (x67).length, (x.C 0), p62, (x49).length, c63⟩ : CpS)) (x.R 0) ∧ OwnC 53 (x.A 0) (x.C 0) x67 (x.R 1) | _ => True } ?_ ?_))
  ·refine ⟨lM, lM, lc rfl rfl fun hs hh => stp_nilCheck (sv hs 87 rfl), lc rfl rfl fun hs hh => stp_fieldAddr (j := 0) Tryd.underlying43 rfl ts41 rfl (sv hs 88 rfl) rfl, lc rfl rfl fun hs hh => stp_load1 ts41 (sv hs 89 rfl) (Cells.el (Rdb.own (id := 8) (hh.get 8 _ rfl) o58) (by decide) (idx_set hx23) 0 1 rfl), lc rfl rfl fun hs hh => stp_loadN (us := [_, _]) ts36 (sv hs 5 rfl) (Cells.box (id := 1) (hh.get 1 _ rfl) 2 rfl), lM, lc rfl rfl fun hs hh => stp_build (cs := #[.int .i64 a2.s, .int .i64 a2.p, .int .i64 x38]) (sevp_cons (sv hs 91 rfl) (sevp_cons (sv hs 92 rfl) sevp_nil)) bt53_9, ?_, ?_, ?_, lc rfl rfl fun hs hh => stp_nilCheck (sv hs 86 rfl), lc rfl rfl fun hs hh => stp_fieldAddr (j := 0) Tryd.underlying43 rfl ts41 rfl (sv hs 97 rfl) rfl, ?_, trivial⟩
   ·refine le rfl rfl (fun g hΦ s h hs hh => (stpU_lit (sz := 3) (l := [(⟨a2, x38⟩ : Nt)]) [.agg #[.int .i64 a2.s, .int .i64 a2.p, .int .i64 x38]] sl41 16 (sevp_cons (sv hs 93 rfl) sevp_nil) rfl rfl rfl rfl rfl rfl rfl rfl rfl)) ?_
    rintro g _ _ ⟨p65, C66, rfl, rfl, o66⟩
    exact ⟨⟨[p65], [], [C66]⟩, o66, .inr rfl, rfl⟩
   ·refine le rfl rfl (fun g hΦ s h hs hh => (stpU_append sl41 rfl (id := 14) (sv hs 90 rfl) rfl (sv hs 94 rfl) (by simp) (hh.get 14 _ rfl) o61 (Rdb.own (id := 16) (hh.get 16 _ rfl) (hΦ 8 rfl)) e67)) ?_
    rintro g _ _ ⟨p68, c69, C70, rfl, rfl, o70⟩
    exact ⟨⟨[p68], [c69], [C70]⟩, o70, .inr rfl, rfl⟩
   ·refine le rfl rfl (fun g hΦ s h hs hh => (stpU_call (fun i => i) cf33 (fun w hw => c_clip33 w ((g 9).A 0) ((x67).length) ((g 9).C 0) (OwnC.len (hΦ 9 rfl)).1) (yA (sv hs 95 rfl)))) ?_
    rintro g _ _ ⟨_, ⟨rfl, rfl⟩, rfl⟩
    exact ⟨⟨[], [], []⟩, trivial, .inr rfl, rfl⟩
   refine le rfl rfl (fun g hΦ s h hs hh => (stpU_keep (hh.get 14 _ rfl) (stpU_storeElS (id := 8) (i := 0) (⟨((g 9).A 0), (x67).length, (x67).length, p62, (x49).length, c63⟩ : CpS) (by decide) ts41 (sv hs 98 rfl) (sv hs 96 rfl) (hh.get 8 _ rfl) o58 (idx_set hx23) rfl rfl rfl rfl) (by rintro _ _ ⟨_, rfl, _⟩; rfl) (OwnC.clip (hΦ 9 rfl)))) ?_
   rintro g _ _ ⟨_, ⟨C71, rfl, o71⟩, rfl, o74⟩
   exact ⟨⟨[((g 9).A 0)], [(x67).length], [C71, ((g 9).R 0)]⟩, ⟨o71, o74⟩, .inl rfl, rfl⟩
  intro g hΦ
  refine kw_gen (ι := Option Addr × Res × Option Addr × Nat × Res × Option Addr × Nat × Res × Res) (((g 8).A 0), ((g 8).R 0), ((g 9).A 0), ((g 9).C 0), ((g 9).R 0), ((g 13).A 0), ((g 13).C 0), ((g 13).R 0), ((g 13).R 1)) (fun | (p65, C66, p68, c69, C70, p72, c73, C71, C74) => OwnC (α := Nt) 53 p65 1 ([(⟨a2, x38⟩ : Nt)]) C66 ∧ OwnC 53 p68 c69 x67 C70 ∧ OwnC (α := CpS) 43 p17 c19 (u23.set (Int.toNat a1) (⟨p72, (x67).length, c73, p62, (x49).length, c63⟩ : CpS)) C71 ∧ OwnC 53 p72 c73 x67 C74) (fun | (p65, C66, p68, c69, C70, p72, c73, C71, C74) => [(6, .pointer (some ⟨b3, 0, none⟩)), (10, .pointer (some ⟨b21, 0, none⟩)), (13, .int .i64 x38)]) (fun | (p65, C66, p68, c69, C70, p72, c73, C71, C74) => [(2, [(b3, .cells #[.slice none 0 0, .slice none 0 0, .slice none 0 0] 29 (0, 0))]), (6, C12), (7, C16), (8, C71), (9, [(b21, .cells #[.slice p9 ((x8.t.b).length) c11, .slice p13 ((x8.t.f).length) c15, .slice p17 ((x8.c).length) c19] 29 (0, 0))]), (10, C31), (14, C74), (15, C64)]) ⟨(hΦ 8 (by decide)), (hΦ 9 (by decide)), (hΦ 13 (by decide)).1, (hΦ 13 (by decide)).2⟩ ⟨rfl, rfl, rfl, trivial⟩ ⟨rfl, rfl, rfl, rfl, rfl, rfl, rfl, rfl, trivial⟩ ?_
  rintro ⟨p65, C66, p68, c69, C70, p72, c73, C71, C74⟩ ⟨o66, o70, o71, o74⟩
  dsimp only
  refine kw_nx (sr (oB3 9 ts29 rfl (oM rfl (oC3 2 ts29 rfl rfl (oS rfl (oS rfl (oS rfl (nn (cw_ret (kw_shut 8 10 14 15 o71 (Bun.setL (Bun.set hb31 _) _) (idx_some (idx_set hx23)).2.2 (idx_setD e22 (⟨x67, x49⟩ : Cp)) rfl o74 rfl o64 ?_))))))))))
  rintro C75 o75
  obtain rfl := sI H0
  exact kr Tryd.results10 (.cons (.cellN (us := [_, _, _]) ts29 rfl (Cells.box (id := 2) rfl 3 rfl)) (.cons (.tmp rfl) (.cons (.tmp rfl) (rT rfl)))) [6, 7, 8] ⟨_, _, _, _, _, _, _, _, _, _, _, _, rfl, rfl, rfl, o12, rfl, o16, (by simp), o75⟩
 have H0 := cond_f H0 h41
 obtain ⟨x78, e78, H0⟩ := bS H0
 refine cw_skip (kw_nx (cw_seq (rdq g_mixed [5, 11, 13] [1, 8, 11] { dst := dS [87, 88, 89, 90, 91, 92, 93, 94, 95, 96, 97, 98, 99, 0], pre := gA [] [[], [], [1], [1, 2], [1, 2, 3], [], [], [5, 6], [5, 6, 7], rn 1 8, rn 1 9, rn 0 11, rn 0 12, rn 0 13], ids := fun i => match i with | 8 => [17] | 9 => [11] | 13 => [8, 11] | _ => [], rs := rL [[(11, 0)], [(11, 0)], [(87, 2)], [(88, 3)], [(89, 4)], [(5, 0)], [(13, 0)], [(91, 6), (92, 7)], [(93, 8)], [(90, 5), (94, 9)], [(95, 10)], [(86, 1)], [(97, 12)], [(98, 13), (96, 11)]], rh := rL [[], [], [], [], [(8, 0)], [(1, 0)], [], [], [], [(11, 0), (17, 9)], [], [], [], [(8, 0), (11, 10)]], V := fun i g => gA undef [.pointer (some ⟨eB p17, eO p17 + Int.toNat a1 * Enc.sz CpS + 0, none⟩), .pointer (some ⟨eB p17, eO p17 + Int.toNat a1 * Enc.sz CpS + 0, none⟩), .pointer (some ⟨eB p17, eO p17 + Int.toNat a1 * Enc.sz CpS + 0, none⟩), .pointer (some ⟨eB p17, eO p17 + Int.toNat a1 * Enc.sz CpS + 0, none⟩), .slice p24 ((x22.n).length) c26, .agg #[.int .i64 a2.s, .int .i64 a2.p], .int .i64 x38, .agg #[.int .i64 a2.s, .int .i64 a2.p, .int .i64 x38], .slice ((g 8).A 0) 1 1, .slice ((g 9).A 0) ((x78).length) ((g 9).C 0), .slice ((g 9).A 0) ((x78).length) ((x78).length), .pointer (some ⟨eB p17, eO p17 + Int.toNat a1 * Enc.sz CpS + 0, none⟩), .pointer (some ⟨eB p17, eO p17 + Int.toNat a1 * Enc.sz CpS + 0, none⟩)] i, U := fun i g => match i with | 8 => [(17, ((g 8).R 0))] | 9 => [(11, ((g 9).R 0))] | 13 => [(8, ((g 13).R 0)), (11, ((g 13).R 1))] | _ => [], Φ := fun i x => match i with | 8 => OwnC (α := Nt) 53 (x.A 0) 1 ([(⟨a2, x38⟩ : Nt)]) (x.R 0) | 9 => OwnC 53 (x.A 0) (x.C 0) x78 (x.R 0) | 13 => OwnC (α := CpS) 43 p17 c19 (u23.set (Int.toNat a1) (⟨(x.A 0), (x78).length, (x.C 0), p27, (x22.w).length, c29⟩ : CpS)) (x.R 0) ∧ OwnC 53 (x.A 0) (x.C 0) x78 (x.R 1) | _ => True } ?_ ?_)))
 ·refine ⟨lM, lM, lc rfl rfl fun hs hh => stp_nilCheck (sv hs 87 rfl), lc rfl rfl fun hs hh => stp_fieldAddr (j := 0) Tryd.underlying43 rfl ts41 rfl (sv hs 88 rfl) rfl, lc rfl rfl fun hs hh => stp_load1 ts41 (sv hs 89 rfl) (Cells.el (Rdb.own (id := 8) (hh.get 8 _ rfl) o30) (by decide) hx23 0 1 rfl), lc rfl rfl fun hs hh => stp_loadN (us := [_, _]) ts36 (sv hs 5 rfl) (Cells.box (id := 1) (hh.get 1 _ rfl) 2 rfl), lM, lc rfl rfl fun hs hh => stp_build (cs := #[.int .i64 a2.s, .int .i64 a2.p, .int .i64 x38]) (sevp_cons (sv hs 91 rfl) (sevp_cons (sv hs 92 rfl) sevp_nil)) bt53_9, ?_, ?_, ?_, lc rfl rfl fun hs hh => stp_nilCheck (sv hs 86 rfl), lc rfl rfl fun hs hh => stp_fieldAddr (j := 0) Tryd.underlying43 rfl ts41 rfl (sv hs 97 rfl) rfl, ?_, trivial⟩
  ·refine le rfl rfl (fun g hΦ s h hs hh => (stpU_lit (sz := 3) (l := [(⟨a2, x38⟩ : Nt)]) [.agg #[.int .i64 a2.s, .int .i64 a2.p, .int .i64 x38]] sl41 17 (sevp_cons (sv hs 93 rfl) sevp_nil) rfl rfl rfl rfl rfl rfl rfl rfl rfl)) ?_
   rintro g _ _ ⟨p76, C77, rfl, rfl, o77⟩
   exact ⟨⟨[p76], [], [C77]⟩, o77, .inr rfl, rfl⟩
  ·refine le rfl rfl (fun g hΦ s h hs hh => (stpU_append sl41 rfl (id := 11) (sv hs 90 rfl) rfl (sv hs 94 rfl) (by simp) (hh.get 11 _ rfl) o32 (Rdb.own (id := 17) (hh.get 17 _ rfl) (hΦ 8 rfl)) e78)) ?_
   rintro g _ _ ⟨p79, c80, C81, rfl, rfl, o81⟩
   exact ⟨⟨[p79], [c80], [C81]⟩, o81, .inr rfl, rfl⟩
  ·refine le rfl rfl (fun g hΦ s h hs hh => (stpU_call (fun i => i) cf33 (fun w hw => c_clip33 w ((g 9).A 0) ((x78).length) ((g 9).C 0) (OwnC.len (hΦ 9 rfl)).1) (yA (sv hs 95 rfl)))) ?_
   rintro g _ _ ⟨_, ⟨rfl, rfl⟩, rfl⟩
   exact ⟨⟨[], [], []⟩, trivial, .inr rfl, rfl⟩
  refine le rfl rfl (fun g hΦ s h hs hh => (stpU_keep (hh.get 11 _ rfl) (stpU_storeEl (id := 8) (i := 0) (⟨((g 9).A 0), (x78).length, (x78).length, p27, (x22.w).length, c29⟩ : CpS) (by decide) ts41 (sv hs 98 rfl) (sv hs 96 rfl) (hh.get 8 _ rfl) o30 hx23 rfl rfl rfl rfl) (by rintro _ _ ⟨_, rfl, _⟩; rfl) (OwnC.clip (hΦ 9 rfl)))) ?_
  rintro g _ _ ⟨_, ⟨C82, rfl, o82⟩, rfl, o85⟩
  exact ⟨⟨[((g 9).A 0)], [(x78).length], [C82, ((g 9).R 0)]⟩, ⟨o82, o85⟩, .inl rfl, rfl⟩
 intro g hΦ
 refine kw_gen (ι := Option Addr × Res × Option Addr × Nat × Res × Option Addr × Nat × Res × Res) (((g 8).A 0), ((g 8).R 0), ((g 9).A 0), ((g 9).C 0), ((g 9).R 0), ((g 13).A 0), ((g 13).C 0), ((g 13).R 0), ((g 13).R 1)) (fun | (p76, C77, p79, c80, C81, p83, c84, C82, C85) => OwnC (α := Nt) 53 p76 1 ([(⟨a2, x38⟩ : Nt)]) C77 ∧ OwnC 53 p79 c80 x78 C81 ∧ OwnC (α := CpS) 43 p17 c19 (u23.set (Int.toNat a1) (⟨p83, (x78).length, c84, p27, (x22.w).length, c29⟩ : CpS)) C82 ∧ OwnC 53 p83 c84 x78 C85) (fun | (p76, C77, p79, c80, C81, p83, c84, C82, C85) => [(6, .pointer (some ⟨b3, 0, none⟩)), (10, .pointer (some ⟨b21, 0, none⟩)), (13, .int .i64 x38)]) (fun | (p76, C77, p79, c80, C81, p83, c84, C82, C85) => [(2, [(b3, .cells #[.slice none 0 0, .slice none 0 0, .slice none 0 0] 29 (0, 0))]), (6, C12), (7, C16), (8, C82), (9, [(b21, .cells #[.slice p9 ((x8.t.b).length) c11, .slice p13 ((x8.t.f).length) c15, .slice p17 ((x8.c).length) c19] 29 (0, 0))]), (10, C31), (11, C85), (12, C33)]) ⟨(hΦ 8 (by decide)), (hΦ 9 (by decide)), (hΦ 13 (by decide)).1, (hΦ 13 (by decide)).2⟩ ⟨rfl, rfl, rfl, trivial⟩ ⟨rfl, rfl, rfl, rfl, rfl, rfl, rfl, rfl, trivial⟩ ?_
 rintro ⟨p76, C77, p79, c80, C81, p83, c84, C82, C85⟩ ⟨o77, o81, o82, o85⟩
 dsimp only
 refine kw_nx (sr (oB3 9 ts29 rfl (oM rfl (oC3 2 ts29 rfl rfl (oS rfl (oS rfl (oS rfl (nn (cw_ret (kw_shut 8 10 11 12 o82 (Bun.setL (Bun.set hb31 _) _) (idx_some (idx_set hx23)).2.2 (idx_setD e22 (⟨x78, x22.w⟩ : Cp)) rfl o85 rfl o33 ?_))))))))))
 rintro C86 o86
 obtain rfl := sI H0
 exact kr Tryd.results10 (.cons (.cellN (us := [_, _, _]) ts29 rfl (Cells.box (id := 2) rfl 3 rfl)) (.cons (.tmp rfl) (.cons (.tmp rfl) (rT rfl)))) [6, 7, 8] ⟨_, _, _, _, _, _, _, _, _, _, _, _, rfl, rfl, rfl, o12, rfl, o16, (by simp), o86⟩

theorem c_slices_Equal_Int (fl : Nat) (w : World) (a0 : (List Int)) (a1 : (List Int)) (hn0_0 : n0_0 = (a0).length) (hr0_0 : RO w (hkeys []) (RdL p0_0 c0_0 a0)) (hn1_0 : n1_0 = (a1).length) (hr1_0 : RO w (hkeys []) (RdL p1_0 c1_0 a1)) (r : Bool) (H0 : slices_Equal_Int fl a0 a1 = some r) :
  Ct Tryd.prog 48 [.slice p0_0 n0_0 c0_0, .slice p1_0 n1_0 c1_0] w [] (fun rv h' => rv = .bool r ∧ h' = []) := by
 subst hn0_0 hn1_0
 unfold slices_Equal_Int at H0
 refine ct_of_cw Tryd.func48 rfl Tryd.ntmps48 rfl (Sat.refl _ _) ?_
 refine sr (oS rfl (nn (cw_seq (sr (oM rfl (oD (stp_len Tryd.underlying23 rfl) rfl (oM rfl (oD (stp_len Tryd.underlying23 rfl) rfl (oU rfl (nn (cw_cond rfl (fun h1 => ?_) (fun h1 => ?_))))))))))))
 ·have H0 := cond_t H0 h1
  refine sr (oS rfl (nn (cw_ret (kw_nx_ret ?_))))
  obtain rfl := sI H0
  exact kr Tryd.results48 (rT rfl) [] ⟨rfl, rfl⟩
 have H0 := cond_f H0 h1
 obtain ⟨o0_0, eo0_0, H0⟩ := bS H0
 refine cw_skip (kw_nx (cw_seq (sr (oM rfl (oD (stp_len Tryd.underlying23 rfl) rfl (oM rfl (nn (cw_join (ι := Int) (fun | v2 => o0_0 = .out v2) (fun | v2 => [(0, .slice p0_0 ((a0).length) c0_0), (1, .slice p1_0 ((a1).length) c1_0), (12, .int .i64 ((a0).length : Int)), (13, .int .i64 v2)]) (fun | v2 => []) ?_ ?_))))))))
 ·refine cw_block (cw_loopS (ι := Nat × Int) (js := []) (fun x => x.1) (fun | (fuel, v2) => slices_Equal_Int_L0 fl a0 a1 fuel v2 = some o0_0) (fun | (_, v2) => [(0, .slice p0_0 ((a0).length) c0_0), (1, .slice p1_0 ((a1).length) c1_0), (12, .int .i64 ((a0).length : Int)), (13, .int .i64 v2)]) (fun | (_, v2) => []) (fl, 0) eo0_0 ⟨rfl, rfl, rfl, rfl, trivial⟩ trivial (by decide) ?_)
  rintro ⟨fuel, v2⟩ H1
  have H1 : slices_Equal_Int_L0 fl a0 a1 fuel v2 = some o0_0 := H1
  rcases fuel with _ | fuel
  ·rw [slices_Equal_Int_L0.eq_1] at H1; cases H1
  rw [slices_Equal_Int_L0.eq_2] at H1
  dsimp only
  refine sr (oW rfl (nn (cw_seq (cw_cond rfl (fun h3 => ?_) (fun h3 => ?_)))))
  ·have H1 := cond_t H1 h3
   obtain ⟨x4, e4, H1⟩ := bS H1
   obtain ⟨x5, e5, H1⟩ := bS H1
   refine cw_skip (kw_nx (cw_seq (cw_block (sr (oM rfl (oS rfl (nn (cw_seq (rdq g_mixed [0, 1, 5] [] { dst := dS [17, 18, 19, 20, 21, 22, 23, 24, 25], pre := gA [] [[], [], [0, 1], [0, 1, 2], [], [], [4, 5], [4, 5, 6], rn 0 8], ids := fun _ => [], rs := rL [[(0, 0)], [(5, 0)], [(16, 1), (17, 2)], [(18, 3)], [(1, 0)], [(5, 0)], [(20, 5), (21, 6)], [(22, 7)], [(19, 4), (23, 8)]], rh := fun _ => [], V := fun i g => gA undef [.slice p0_0 ((a0).length) c0_0, .int .i64 v2, .pointer (some ⟨eB p0_0, eO p0_0 + Int.toNat v2 * Enc.sz Int + 0, none⟩), .int .i64 x4, .slice p1_0 ((a1).length) c1_0, .int .i64 v2, .pointer (some ⟨eB p1_0, eO p1_0 + Int.toNat v2 * Enc.sz Int + 0, none⟩), .int .i64 x5, .bool (x4 != x5)] i, U := fun _ _ => [], Φ := fun _ _ => True } ?_ ?_)))))))))
   ·exact ⟨lM, lM, lc rfl rfl fun hs hh => stp_indexAddr Tryd.underlying23 ts3 (by decide) (sv hs 16 rfl) rfl (sv hs 17 rfl) (Rdb.ro hr0_0) e4, lc rfl rfl fun hs hh => stp_load1 ts3 (sv hs 18 rfl) (Cells.el (Rdb.ro hr0_0) (by decide) e4 0 1 rfl), lM, lM, lc rfl rfl fun hs hh => stp_indexAddr Tryd.underlying23 ts3 (by decide) (sv hs 20 rfl) rfl (sv hs 21 rfl) (Rdb.ro hr1_0) e5, lc rfl rfl fun hs hh => stp_load1 ts3 (sv hs 22 rfl) (Cells.el (Rdb.ro hr1_0) (by decide) e5 0 1 rfl), lc rfl rfl fun hs hh => stp_neq (sv hs 19 rfl) (sv hs 23 rfl), trivial⟩
   intro g hΦ
   refine KW.sub (s' := [(0, .slice p0_0 ((a0).length) c0_0), (1, .slice p1_0 ((a1).length) c1_0), (12, .int .i64 ((a0).length : Int)), (13, .int .i64 v2), (24, .bool (x4 != x5))]) (h' := []) ?_ ⟨rfl, rfl, rfl, rfl, rfl, trivial⟩ trivial
   refine kw_nx (cw_cond rfl (fun h6 => ?_) (fun h6 => ?_))
   ·have H1 := cond_t H1 h6
    refine sr (oS rfl (nn (cw_ret (kw_bl_ret (kw_nx_ret (kw_lq_ret (kw_bl_ret (kw_join_ret (kw_nx_ret ?_)))))))))
    obtain rfl := sI H1
    obtain rfl := sI H0
    exact kr Tryd.results48 (rT rfl) [] ⟨rfl, rfl⟩
   have H1 := cond_f H1 h6
   obtain ⟨x7, e7, H1⟩ := bS H1
   exact cw_skip (kw_bl_normal (kw_nx (cw_region (oP e7 rfl (oM rfl (ow_nil (kw_lqS (js := []) (fuel, x7) H1 (Nat.lt_succ_self _) ⟨rfl, rfl, rfl, rfl, trivial⟩ trivial (by decide))))))))
  have H1 := cond_f H1 h3
  refine cw_exit (kw_nx_exit (kw_lq_exit (kw_bl ?_)))
  obtain rfl := sI H1
  exact kw_joinS (js := []) v2 rfl ⟨rfl, rfl, rfl, rfl, trivial⟩ trivial (by decide)
 rintro v2 rfl
 dsimp only
 refine kw_nx (sr (oS rfl (nn (cw_ret ?_))))
 obtain rfl := sI H0
 exact kr Tryd.results48 (rT rfl) [] ⟨rfl, rfl⟩

theorem c_slices_Equal_Frame (fl : Nat) (w : World) (a0 : (List F)) (a1 : (List F)) (hn0_0 : n0_0 = (a0).length) (hr0_0 : RO w (hkeys []) (RdL p0_0 c0_0 a0)) (hn1_0 : n1_0 = (a1).length) (hr1_0 : RO w (hkeys []) (RdL p1_0 c1_0 a1)) (r : Bool) (H0 : slices_Equal_Frame fl a0 a1 = some r) :
  Ct Tryd.prog 49 [.slice p0_0 n0_0 c0_0, .slice p1_0 n1_0 c1_0] w [] (fun rv h' => rv = .bool r ∧ h' = []) := by
 subst hn0_0 hn1_0
 unfold slices_Equal_Frame at H0
 refine ct_of_cw Tryd.func49 rfl Tryd.ntmps49 rfl (Sat.refl _ _) ?_
 refine sr (oS rfl (nn (cw_seq (sr (oM rfl (oD (stp_len Tryd.underlying24 rfl) rfl (oM rfl (oD (stp_len Tryd.underlying24 rfl) rfl (oU rfl (nn (cw_cond rfl (fun h1 => ?_) (fun h1 => ?_))))))))))))
 ·have H0 := cond_t H0 h1
  refine sr (oS rfl (nn (cw_ret (kw_nx_ret ?_))))
  obtain rfl := sI H0
  exact kr Tryd.results49 (rT rfl) [] ⟨rfl, rfl⟩
 have H0 := cond_f H0 h1
 obtain ⟨o0_0, eo0_0, H0⟩ := bS H0
 refine cw_skip (kw_nx (cw_seq (sr (oM rfl (oD (stp_len Tryd.underlying24 rfl) rfl (oM rfl (nn (cw_join (ι := Int) (fun | v2 => o0_0 = .out v2) (fun | v2 => [(0, .slice p0_0 ((a0).length) c0_0), (1, .slice p1_0 ((a1).length) c1_0), (12, .int .i64 ((a0).length : Int)), (13, .int .i64 v2)]) (fun | v2 => []) ?_ ?_))))))))
 ·refine cw_block (cw_loopS (ι := Nat × Int) (js := []) (fun x => x.1) (fun | (fuel, v2) => slices_Equal_Frame_L0 fl a0 a1 fuel v2 = some o0_0) (fun | (_, v2) => [(0, .slice p0_0 ((a0).length) c0_0), (1, .slice p1_0 ((a1).length) c1_0), (12, .int .i64 ((a0).length : Int)), (13, .int .i64 v2)]) (fun | (_, v2) => []) (fl, 0) eo0_0 ⟨rfl, rfl, rfl, rfl, trivial⟩ trivial (by decide) ?_)
  rintro ⟨fuel, v2⟩ H1
  have H1 : slices_Equal_Frame_L0 fl a0 a1 fuel v2 = some o0_0 := H1
  rcases fuel with _ | fuel
  ·rw [slices_Equal_Frame_L0.eq_1] at H1; cases H1
  rw [slices_Equal_Frame_L0.eq_2] at H1
  dsimp only
  refine sr (oW rfl (nn (cw_seq (cw_cond rfl (fun h3 => ?_) (fun h3 => ?_)))))
  ·have H1 := cond_t H1 h3
   obtain ⟨x4, e4, H1⟩ := bS H1
   obtain ⟨x5, e5, H1⟩ := bS H1
   refine cw_skip (kw_nx (cw_seq (cw_block (sr (oM rfl (oS rfl (nn (cw_seq (rdq g_mixed [0, 1, 5] [] { dst := dS [17, 18, 19, 20, 21, 22, 23, 24, 25], pre := gA [] [[], [], [0, 1], [0, 1, 2], [], [], [4, 5], [4, 5, 6], rn 0 8], ids := fun _ => [], rs := rL [[(0, 0)], [(5, 0)], [(16, 1), (17, 2)], [(18, 3)], [(1, 0)], [(5, 0)], [(20, 5), (21, 6)], [(22, 7)], [(19, 4), (23, 8)]], rh := fun _ => [], V := fun i g => gA undef [.slice p0_0 ((a0).length) c0_0, .int .i64 v2, .pointer (some ⟨eB p0_0, eO p0_0 + Int.toNat v2 * Enc.sz F + 0, none⟩), .agg #[.bool x4.u, .int .i64 x4.k.s, .int .i64 x4.k.p, .int .i64 x4.r, .int .i64 x4.nx], .slice p1_0 ((a1).length) c1_0, .int .i64 v2, .pointer (some ⟨eB p1_0, eO p1_0 + Int.toNat v2 * Enc.sz F + 0, none⟩), .agg #[.bool x5.u, .int .i64 x5.k.s, .int .i64 x5.k.p, .int .i64 x5.r, .int .i64 x5.nx], .bool (x4 != x5)] i, U := fun _ _ => [], Φ := fun _ _ => True } ?_ ?_)))))))))
   ·exact ⟨lM, lM, lc rfl rfl fun hs hh => stp_indexAddr Tryd.underlying24 ts61 (by decide) (sv hs 16 rfl) rfl (sv hs 17 rfl) (Rdb.ro hr0_0) e4, lc rfl rfl fun hs hh => stp_loadN (us := [_, _, _, _, _]) ts61 (sv hs 18 rfl) (Cells.el (Rdb.ro hr0_0) (by decide) e4 0 5 rfl), lM, lM, lc rfl rfl fun hs hh => stp_indexAddr Tryd.underlying24 ts61 (by decide) (sv hs 20 rfl) rfl (sv hs 21 rfl) (Rdb.ro hr1_0) e5, lc rfl rfl fun hs hh => stp_loadN (us := [_, _, _, _, _]) ts61 (sv hs 22 rfl) (Cells.el (Rdb.ro hr1_0) (by decide) e5 0 5 rfl), lc rfl rfl fun hs hh => stp_neqS te61 x4 x5 (sv hs 19 rfl) (sv hs 23 rfl), trivial⟩
   intro g hΦ
   refine KW.sub (s' := [(0, .slice p0_0 ((a0).length) c0_0), (1, .slice p1_0 ((a1).length) c1_0), (12, .int .i64 ((a0).length : Int)), (13, .int .i64 v2), (24, .bool (x4 != x5))]) (h' := []) ?_ ⟨rfl, rfl, rfl, rfl, rfl, trivial⟩ trivial
   refine kw_nx (cw_cond rfl (fun h6 => ?_) (fun h6 => ?_))
   ·have H1 := cond_t H1 h6
    refine sr (oS rfl (nn (cw_ret (kw_bl_ret (kw_nx_ret (kw_lq_ret (kw_bl_ret (kw_join_ret (kw_nx_ret ?_)))))))))
    obtain rfl := sI H1
    obtain rfl := sI H0
    exact kr Tryd.results49 (rT rfl) [] ⟨rfl, rfl⟩
   have H1 := cond_f H1 h6
   obtain ⟨x7, e7, H1⟩ := bS H1
   exact cw_skip (kw_bl_normal (kw_nx (cw_region (oP e7 rfl (oM rfl (ow_nil (kw_lqS (js := []) (fuel, x7) H1 (Nat.lt_succ_self _) ⟨rfl, rfl, rfl, rfl, trivial⟩ trivial (by decide))))))))
  have H1 := cond_f H1 h3
  refine cw_exit (kw_nx_exit (kw_lq_exit (kw_bl ?_)))
  obtain rfl := sI H1
  exact kw_joinS (js := []) v2 rfl ⟨rfl, rfl, rfl, rfl, trivial⟩ trivial (by decide)
 rintro v2 rfl
 dsimp only
 refine kw_nx (sr (oS rfl (nn (cw_ret ?_))))
 obtain rfl := sI H0
 exact kr Tryd.results49 (rT rfl) [] ⟨rfl, rfl⟩

theorem c_i_TableSame (fl : Nat) (w : World) (a0 : T) (a1 : T) (hn0_0 : n0_0 = (a0.b).length) (hr0_0 : RO w (hkeys []) (RdL p0_0 c0_0 a0.b)) (hn0_1 : n0_1 = (a0.f).length) (hr0_1 : RO w (hkeys []) (RdL p0_1 c0_1 a0.f)) (hn1_0 : n1_0 = (a1.b).length) (hr1_0 : RO w (hkeys []) (RdL p1_0 c1_0 a1.b)) (hn1_1 : n1_1 = (a1.f).length) (hr1_1 : RO w (hkeys []) (RdL p1_1 c1_1 a1.f)) (r : Bool) (H0 : i_TableSame fl a0 a1 = some r) :
  Ct Tryd.prog 17 [.agg #[.slice p0_0 n0_0 c0_0, .slice p0_1 n0_1 c0_1], .agg #[.slice p1_0 n1_0 c1_0, .slice p1_1 n1_1 c1_1]] w [] (fun rv h' => rv = .bool r ∧ h' = []) := by
 subst hn0_0 hn0_1 hn1_0 hn1_1
 unfold i_TableSame at H0
 refine ct_of_cw Tryd.func17 rfl Tryd.ntmps17 rfl (Sat.refl _ _) ?_
 refine sr (oE (stpU_box 0 rfl rfl) rfl ?_)
 rintro _ _ ⟨b1, rfl, rfl⟩
 refine oE (stpU_box 1 rfl rfl) rfl ?_
 rintro _ _ ⟨b2, rfl, rfl⟩
 obtain ⟨x3, e3, H0⟩ := bS H0
 refine oS rfl (nn (sr (oA 0 Tryd.underlying26 rfl ts23 rfl (oL 0 ts23 rfl (oA 0 Tryd.underlying26 rfl ts23 rfl (oL 1 ts23 rfl (oE (stpU_call (fun i => 2 + i) cf48 (fun w hw => c_slices_Equal_Int fl w a0.b a1.b rfl (RO.pass hr0_0 hw) rfl (RO.pass hr1_0 hw) x3 e3) (yB rfl rfl)) rfl ?_)))))))
 rintro _ _ ⟨_, ⟨rfl, rfl⟩, rfl⟩
 obtain ⟨y4, ey4, H0⟩ := bS H0
 refine oM rfl (ow_cutY 6 16 y4 ?_ ?_)
 ·rcases Bool.eq_false_or_eq_true x3 with hy4 | hy4
  ·have ey4 := cond_t ey4 hy4
   obtain ⟨x5, e5, ey4⟩ := bS ey4
   refine oG rfl hy4 (fA 1 Tryd.underlying26 rfl ts24 rfl rfl rfl) rfl (oG rfl hy4 (lB 0 ts24 rfl rfl rfl) rfl (oG rfl hy4 (fA 1 Tryd.underlying26 rfl ts24 rfl rfl rfl) rfl (oG rfl hy4 (lB 1 ts24 rfl rfl rfl) rfl (ow_eff (.some rfl hy4) (stpU_call (fun i => 2 + i) cf49 (fun w hw => c_slices_Equal_Frame fl w a0.f a1.f rfl (RO.pass hr0_1 hw) rfl (RO.pass hr1_1 hw) x5 e5) (yB rfl rfl)) rfl ?_))))
   rintro _ _ ⟨_, ⟨rfl, rfl⟩, rfl⟩
   refine oD (stp_pick_t rfl hy4 rfl) rfl ?_
   obtain rfl := sI ey4
   exact ow_nil (jy 6 0)
  have ey4 := cond_f ey4 hy4
  refine oO rfl hy4 rfl (oO rfl hy4 rfl (oO rfl hy4 rfl (oO rfl hy4 rfl (oO rfl hy4 rfl (oD (stp_pick_f rfl hy4 rfl) rfl ?_)))))
  obtain rfl := sI ey4
  exact ow_nil (jy 6 0)
 refine oS rfl (nn (cw_ret ?_))
 obtain rfl := sI H0
 exact kr Tryd.results17 (rT rfl) [] ⟨rfl, rfl⟩

theorem c_slices_Equal_Note (fl : Nat) (w : World) (a0 : (List Nt)) (a1 : (List Nt)) (hn0_0 : n0_0 = (a0).length) (hr0_0 : RO w (hkeys []) (RdL p0_0 c0_0 a0)) (hn1_0 : n1_0 = (a1).length) (hr1_0 : RO w (hkeys []) (RdL p1_0 c1_0 a1)) (r : Bool) (H0 : slices_Equal_Note fl a0 a1 = some r) :
  Ct Tryd.prog 20 [.slice p0_0 n0_0 c0_0, .slice p1_0 n1_0 c1_0] w [] (fun rv h' => rv = .bool r ∧ h' = []) := by
 subst hn0_0 hn1_0
 unfold slices_Equal_Note at H0
 refine ct_of_cw Tryd.func20 rfl Tryd.ntmps20 rfl (Sat.refl _ _) ?_
 refine sr (oS rfl (nn (cw_seq (sr (oM rfl (oD (stp_len Tryd.underlying41 rfl) rfl (oM rfl (oD (stp_len Tryd.underlying41 rfl) rfl (oU rfl (nn (cw_cond rfl (fun h1 => ?_) (fun h1 => ?_))))))))))))
 ·have H0 := cond_t H0 h1
  refine sr (oS rfl (nn (cw_ret (kw_nx_ret ?_))))
  obtain rfl := sI H0
  exact kr Tryd.results20 (rT rfl) [] ⟨rfl, rfl⟩
 have H0 := cond_f H0 h1
 obtain ⟨o0_0, eo0_0, H0⟩ := bS H0
 refine cw_skip (kw_nx (cw_seq (sr (oM rfl (oD (stp_len Tryd.underlying41 rfl) rfl (oM rfl (nn (cw_join (ι := Int) (fun | v2 => o0_0 = .out v2) (fun | v2 => [(0, .slice p0_0 ((a0).length) c0_0), (1, .slice p1_0 ((a1).length) c1_0), (12, .int .i64 ((a0).length : Int)), (13, .int .i64 v2)]) (fun | v2 => []) ?_ ?_))))))))
 ·refine cw_block (cw_loopS (ι := Nat × Int) (js := []) (fun x => x.1) (fun | (fuel, v2) => slices_Equal_Note_L0 fl a0 a1 fuel v2 = some o0_0) (fun | (_, v2) => [(0, .slice p0_0 ((a0).length) c0_0), (1, .slice p1_0 ((a1).length) c1_0), (12, .int .i64 ((a0).length : Int)), (13, .int .i64 v2)]) (fun | (_, v2) => []) (fl, 0) eo0_0 ⟨rfl, rfl, rfl, rfl, trivial⟩ trivial (by decide) ?_)
  rintro ⟨fuel, v2⟩ H1
  have H1 : slices_Equal_Note_L0 fl a0 a1 fuel v2 = some o0_0 := H1
  rcases fuel with _ | fuel
  ·rw [slices_Equal_Note_L0.eq_1] at H1; cases H1
  rw [slices_Equal_Note_L0.eq_2] at H1
  dsimp only
  refine sr (oW rfl (nn (cw_seq (cw_cond rfl (fun h3 => ?_) (fun h3 => ?_)))))
  ·have H1 := cond_t H1 h3
   obtain ⟨x4, e4, H1⟩ := bS H1
   obtain ⟨x5, e5, H1⟩ := bS H1
   refine cw_skip (kw_nx (cw_seq (cw_block (sr (oM rfl (oS rfl (nn (cw_seq (rdq g_mixed [0, 1, 5] [] { dst := dS [17, 18, 19, 20, 21, 22, 23, 24, 25], pre := gA [] [[], [], [0, 1], [0, 1, 2], [], [], [4, 5], [4, 5, 6], rn 0 8], ids := fun _ => [], rs := rL [[(0, 0)], [(5, 0)], [(16, 1), (17, 2)], [(18, 3)], [(1, 0)], [(5, 0)], [(20, 5), (21, 6)], [(22, 7)], [(19, 4), (23, 8)]], rh := fun _ => [], V := fun i g => gA undef [.slice p0_0 ((a0).length) c0_0, .int .i64 v2, .pointer (some ⟨eB p0_0, eO p0_0 + Int.toNat v2 * Enc.sz Nt + 0, none⟩), .agg #[.int .i64 x4.k.s, .int .i64 x4.k.p, .int .i64 x4.fr], .slice p1_0 ((a1).length) c1_0, .int .i64 v2, .pointer (some ⟨eB p1_0, eO p1_0 + Int.toNat v2 * Enc.sz Nt + 0, none⟩), .agg #[.int .i64 x5.k.s, .int .i64 x5.k.p, .int .i64 x5.fr], .bool (x4 != x5)] i, U := fun _ _ => [], Φ := fun _ _ => True } ?_ ?_)))))))))
   ·exact ⟨lM, lM, lc rfl rfl fun hs hh => stp_indexAddr Tryd.underlying41 ts53 (by decide) (sv hs 16 rfl) rfl (sv hs 17 rfl) (Rdb.ro hr0_0) e4, lc rfl rfl fun hs hh => stp_loadN (us := [_, _, _]) ts53 (sv hs 18 rfl) (Cells.el (Rdb.ro hr0_0) (by decide) e4 0 3 rfl), lM, lM, lc rfl rfl fun hs hh => stp_indexAddr Tryd.underlying41 ts53 (by decide) (sv hs 20 rfl) rfl (sv hs 21 rfl) (Rdb.ro hr1_0) e5, lc rfl rfl fun hs hh => stp_loadN (us := [_, _, _]) ts53 (sv hs 22 rfl) (Cells.el (Rdb.ro hr1_0) (by decide) e5 0 3 rfl), lc rfl rfl fun hs hh => stp_neqS te53 x4 x5 (sv hs 19 rfl) (sv hs 23 rfl), trivial⟩
   intro g hΦ
   refine KW.sub (s' := [(0, .slice p0_0 ((a0).length) c0_0), (1, .slice p1_0 ((a1).length) c1_0), (12, .int .i64 ((a0).length : Int)), (13, .int .i64 v2), (24, .bool (x4 != x5))]) (h' := []) ?_ ⟨rfl, rfl, rfl, rfl, rfl, trivial⟩ trivial
   refine kw_nx (cw_cond rfl (fun h6 => ?_) (fun h6 => ?_))
   ·have H1 := cond_t H1 h6
    refine sr (oS rfl (nn (cw_ret (kw_bl_ret (kw_nx_ret (kw_lq_ret (kw_bl_ret (kw_join_ret (kw_nx_ret ?_)))))))))
    obtain rfl := sI H1
    obtain rfl := sI H0
    exact kr Tryd.results20 (rT rfl) [] ⟨rfl, rfl⟩
   have H1 := cond_f H1 h6
   obtain ⟨x7, e7, H1⟩ := bS H1
   exact cw_skip (kw_bl_normal (kw_nx (cw_region (oP e7 rfl (oM rfl (ow_nil (kw_lqS (js := []) (fuel, x7) H1 (Nat.lt_succ_self _) ⟨rfl, rfl, rfl, rfl, trivial⟩ trivial (by decide))))))))
  have H1 := cond_f H1 h3
  refine cw_exit (kw_nx_exit (kw_lq_exit (kw_bl ?_)))
  obtain rfl := sI H1
  exact kw_joinS (js := []) v2 rfl ⟨rfl, rfl, rfl, rfl, trivial⟩ trivial (by decide)
 rintro v2 rfl
 dsimp only
 refine kw_nx (sr (oS rfl (nn (cw_ret ?_))))
 obtain rfl := sI H0
 exact kr Tryd.results20 (rT rfl) [] ⟨rfl, rfl⟩

theorem c_i_SystemSame_1 (fl : Nat) (w : World) (a0 : Cp) (a1 : Cp) (hn0_0 : n0_0 = (a0.n).length) (hr0_0 : RO w (hkeys []) (RdL p0_0 c0_0 a0.n)) (hn0_1 : n0_1 = (a0.w).length) (hr0_1 : RO w (hkeys []) (RdL p0_1 c0_1 a0.w)) (hn1_0 : n1_0 = (a1.n).length) (hr1_0 : RO w (hkeys []) (RdL p1_0 c1_0 a1.n)) (hn1_1 : n1_1 = (a1.w).length) (hr1_1 : RO w (hkeys []) (RdL p1_1 c1_1 a1.w)) (r : Bool) (H0 : i_SystemSame_1 fl a0 a1 = some r) :
  Ct Tryd.prog 19 [.agg #[.slice p0_0 n0_0 c0_0, .slice p0_1 n0_1 c0_1], .agg #[.slice p1_0 n1_0 c1_0, .slice p1_1 n1_1 c1_1]] w [] (fun rv h' => rv = .bool r ∧ h' = []) := by
 subst hn0_0 hn0_1 hn1_0 hn1_1
 unfold i_SystemSame_1 at H0
 refine ct_of_cw Tryd.func19 rfl Tryd.ntmps19 rfl (Sat.refl _ _) ?_
 refine sr (oE (stpU_box 0 rfl rfl) rfl ?_)
 rintro _ _ ⟨b1, rfl, rfl⟩
 refine oE (stpU_box 1 rfl rfl) rfl ?_
 rintro _ _ ⟨b2, rfl, rfl⟩
 obtain ⟨x3, e3, H0⟩ := bS H0
 refine oS rfl (nn (sr (oA 0 Tryd.underlying43 rfl ts41 rfl (oL 0 ts41 rfl (oA 0 Tryd.underlying43 rfl ts41 rfl (oL 1 ts41 rfl (oE (stpU_call (fun i => 2 + i) cf20 (fun w hw => c_slices_Equal_Note fl w a0.n a1.n rfl (RO.pass hr0_0 hw) rfl (RO.pass hr1_0 hw) x3 e3) (yB rfl rfl)) rfl ?_)))))))
 rintro _ _ ⟨_, ⟨rfl, rfl⟩, rfl⟩
 obtain ⟨y4, ey4, H0⟩ := bS H0
 refine oM rfl (ow_cutY 6 16 y4 ?_ ?_)
 ·rcases Bool.eq_false_or_eq_true x3 with hy4 | hy4
  ·have ey4 := cond_t ey4 hy4
   obtain ⟨x5, e5, ey4⟩ := bS ey4
   refine oG rfl hy4 (fA 1 Tryd.underlying43 rfl ts41 rfl rfl rfl) rfl (oG rfl hy4 (lB 0 ts41 rfl rfl rfl) rfl (oG rfl hy4 (fA 1 Tryd.underlying43 rfl ts41 rfl rfl rfl) rfl (oG rfl hy4 (lB 1 ts41 rfl rfl rfl) rfl (ow_eff (.some rfl hy4) (stpU_call (fun i => 2 + i) cf20 (fun w hw => c_slices_Equal_Note fl w a0.w a1.w rfl (RO.pass hr0_1 hw) rfl (RO.pass hr1_1 hw) x5 e5) (yB rfl rfl)) rfl ?_))))
   rintro _ _ ⟨_, ⟨rfl, rfl⟩, rfl⟩
   refine oD (stp_pick_t rfl hy4 rfl) rfl ?_
   obtain rfl := sI ey4
   exact ow_nil (jy 6 0)
  have ey4 := cond_f ey4 hy4
  refine oO rfl hy4 rfl (oO rfl hy4 rfl (oO rfl hy4 rfl (oO rfl hy4 rfl (oO rfl hy4 rfl (oD (stp_pick_f rfl hy4 rfl) rfl ?_)))))
  obtain rfl := sI ey4
  exact ow_nil (jy 6 0)
 refine oS rfl (nn (cw_ret ?_))
 obtain rfl := sI H0
 exact kr Tryd.results19 (rT rfl) [] ⟨rfl, rfl⟩

theorem c_slices_EqualFunc_Cpu_of_i_SystemSame_1 (fl : Nat) (w : World) (a0 : (List Cp)) (a1 : (List Cp)) (hn0_0 : n0_0 = (a0).length) (hr0_0 : ROD w (hkeys []) p0_0 c0_0 a0) (hn1_0 : n1_0 = (a1).length) (hr1_0 : ROD w (hkeys []) p1_0 c1_0 a1) (r : Bool) (H0 : slices_EqualFunc_Cpu_of_i_SystemSame_1 fl a0 a1 = some r) :
  Ct Tryd.prog 18 [.slice p0_0 n0_0 c0_0, .slice p1_0 n1_0 c1_0, .func (.func 19) #[] #[]] w [] (fun rv h' => rv = .bool r ∧ h' = []) := by
 subst hn0_0 hn1_0
 unfold slices_EqualFunc_Cpu_of_i_SystemSame_1 at H0
 refine ct_of_cw Tryd.func18 rfl Tryd.ntmps18 rfl (Sat.refl _ _) ?_
 refine sr (oS rfl (nn (cw_seq (sr (oM rfl (oD (stp_len Tryd.underlying27 rfl) rfl (oM rfl (oD (stp_len Tryd.underlying27 rfl) rfl (oU rfl (nn (cw_cond rfl (fun h1 => ?_) (fun h1 => ?_))))))))))))
 ·have H0 := cond_t H0 h1
  refine sr (oS rfl (nn (cw_ret (kw_nx_ret ?_))))
  obtain rfl := sI H0
  exact kr Tryd.results18 (rT rfl) [] ⟨rfl, rfl⟩
 have H0 := cond_f H0 h1
 obtain ⟨o0_0, eo0_0, H0⟩ := bS H0
 refine cw_skip (kw_nx (cw_seq (sr (oM rfl (oD (stp_len Tryd.underlying27 rfl) rfl (oM rfl (nn (cw_join (ι := Int) (fun | v2 => o0_0 = .out v2) (fun | v2 => [(1, .slice p1_0 ((a1).length) c1_0), (2, .func (.func 19) #[] #[]), (15, .slice p0_0 ((a0).length) c0_0), (16, .int .i64 ((a0).length : Int)), (17, .int .i64 v2)]) (fun | v2 => []) ?_ ?_))))))))
 ·refine cw_block (cw_loopS (ι := Nat × Int) (js := []) (fun x => x.1) (fun | (fuel, v2) => slices_EqualFunc_Cpu_of_i_SystemSame_1_L0 fl a0 a1 fuel v2 = some o0_0) (fun | (_, v2) => [(1, .slice p1_0 ((a1).length) c1_0), (2, .func (.func 19) #[] #[]), (15, .slice p0_0 ((a0).length) c0_0), (16, .int .i64 ((a0).length : Int)), (17, .int .i64 v2)]) (fun | (_, v2) => []) (fl, 0) eo0_0 ⟨rfl, rfl, rfl, rfl, rfl, trivial⟩ trivial (by decide) ?_)
  rintro ⟨fuel, v2⟩ H1
  have H1 : slices_EqualFunc_Cpu_of_i_SystemSame_1_L0 fl a0 a1 fuel v2 = some o0_0 := H1
  rcases fuel with _ | fuel
  ·rw [slices_EqualFunc_Cpu_of_i_SystemSame_1_L0.eq_1] at H1; cases H1
  rw [slices_EqualFunc_Cpu_of_i_SystemSame_1_L0.eq_2] at H1
  dsimp only
  refine sr (oW rfl (nn (cw_seq (cw_cond rfl (fun h3 => ?_) (fun h3 => ?_)))))
  ·have H1 := cond_t H1 h3
   obtain ⟨x4, e4, H1⟩ := bS H1
   refine cw_skip (kw_nx (cw_seq (cw_block (sr (oM rfl ?_)))))
   obtain ⟨u5, p6, n7, c8, p9, n10, c11, hw5, hl5, hx5, rfl, hr5, rfl, hs5⟩ := ROD.get hr0_0 e4
   refine oD (stp_indexAddr Tryd.underlying27 ts43 (by decide) rfl hl5 rfl (Rdb.ro hw5) hx5) rfl (oD (stp_loadN (us := [_, _]) ts43 rfl (Cells.el (Rdb.ro hw5) (by decide) hx5 0 2 rfl)) rfl (oE (stpU_alloc 0 tz43 rfl) rfl ?_))
   rintro _ _ ⟨b12, rfl, rfl⟩
   obtain ⟨x13, e13, H1⟩ := bS H1
   refine oS rfl (oC2 0 ts43 rfl rfl (nn (sr (oM rfl (oM rfl ?_)))))
   obtain ⟨u14, p15, n16, c17, p18, n19, c20, hw14, hl14, hx14, rfl, hr14, rfl, hs14⟩ := ROD.get hr1_0 e13
   refine oD (stp_indexAddr Tryd.underlying27 ts43 (by decide) rfl hl14 rfl (Rdb.ro hw14) hx14) rfl (oD (stp_loadN (us := [_, _]) ts43 rfl (Cells.el (Rdb.ro hw14) (by decide) hx14 0 2 rfl)) rfl (oE (stpU_alloc 1 tz43 rfl) rfl ?_))
   rintro _ _ ⟨b21, rfl, rfl⟩
   obtain ⟨x22, e22, H1⟩ := bS H1
   refine oC2 1 ts43 rfl rfl (nn (sr (oM rfl (oB2 0 ts43 rfl (oB2 1 ts43 rfl (oE (stpU_callF (vals := [_, _]) (ca := []) (fun i => 2 + i) cf19 (fun w hw => c_i_SystemSame_1 fl w x4 x13 rfl (RO.pass hr5 hw) rfl (RO.pass hs5 hw) rfl (RO.pass hr14 hw) rfl (RO.pass hs14 hw) x22 e22) rfl (yB rfl rfl)) rfl ?_))))))
   rintro _ _ ⟨_, ⟨rfl, rfl⟩, rfl⟩
   refine oK rfl (nn (cw_cond rfl (fun h23 => ?_) (fun h23 => ?_)))
   ·have H1 := cond_t H1 h23
    refine sr (oS rfl (nn (cw_ret (kw_bl_ret (kw_nx_ret (kw_lq_ret (kw_bl_ret (kw_join_ret (kw_nx_ret ?_)))))))))
    obtain rfl := sI H1
    obtain rfl := sI H0
    exact kr Tryd.results18 (rT rfl) [] ⟨rfl, rfl⟩
   have H1 := cond_f H1 h23
   obtain ⟨x24, e24, H1⟩ := bS H1
   exact cw_skip (kw_bl_normal (kw_nx (cw_region (oP e24 rfl (oM rfl (ow_nil (kw_lqS (js := []) (fuel, x24) H1 (Nat.lt_succ_self _) ⟨rfl, rfl, rfl, rfl, rfl, trivial⟩ trivial (by decide))))))))
  have H1 := cond_f H1 h3
  refine cw_exit (kw_nx_exit (kw_lq_exit (kw_bl ?_)))
  obtain rfl := sI H1
  exact kw_joinS (js := []) v2 rfl ⟨rfl, rfl, rfl, rfl, rfl, trivial⟩ trivial (by decide)
 rintro v2 rfl
 dsimp only
 refine kw_nx (sr (oS rfl (nn (cw_ret ?_))))
 obtain rfl := sI H0
 exact kr Tryd.results18 (rT rfl) [] ⟨rfl, rfl⟩

theorem c_i_SystemSame (fl : Nat) (w : World) (a0 : Sy) (a1 : Sy) (hn0_0 : n0_0 = (a0.t.b).length) (hr0_0 : RO w (hkeys []) (RdL p0_0 c0_0 a0.t.b)) (hn0_1 : n0_1 = (a0.t.f).length) (hr0_1 : RO w (hkeys []) (RdL p0_1 c0_1 a0.t.f)) (hn0_2 : n0_2 = (a0.c).length) (hr0_2 : ROD w (hkeys []) p0_2 c0_2 a0.c) (hn1_0 : n1_0 = (a1.t.b).length) (hr1_0 : RO w (hkeys []) (RdL p1_0 c1_0 a1.t.b)) (hn1_1 : n1_1 = (a1.t.f).length) (hr1_1 : RO w (hkeys []) (RdL p1_1 c1_1 a1.t.f)) (hn1_2 : n1_2 = (a1.c).length) (hr1_2 : ROD w (hkeys []) p1_2 c1_2 a1.c) (r : Bool) (H0 : i_SystemSame fl a0 a1 = some r) :
  Ct Tryd.prog 6 [.agg #[.slice p0_0 n0_0 c0_0, .slice p0_1 n0_1 c0_1, .slice p0_2 n0_2 c0_2], .agg #[.slice p1_0 n1_0 c1_0, .slice p1_1 n1_1 c1_1, .slice p1_2 n1_2 c1_2]] w [] (fun rv h' => rv = .bool r ∧ h' = []) := by
 subst hn0_0 hn0_1 hn0_2 hn1_0 hn1_1 hn1_2
 unfold i_SystemSame at H0
 refine ct_of_cw Tryd.func6 rfl Tryd.ntmps6 rfl (Sat.refl _ _) ?_
 refine sr (oE (stpU_box 0 rfl rfl) rfl ?_)
 rintro _ _ ⟨b1, rfl, rfl⟩
 refine oE (stpU_box 1 rfl rfl) rfl ?_
 rintro _ _ ⟨b2, rfl, rfl⟩
 obtain ⟨x3, e3, H0⟩ := bS H0
 refine oS rfl (nn (sr (oA 0 Tryd.underlying29 rfl ts26 rfl (oB2 0 ts26 rfl (oA 0 Tryd.underlying29 rfl ts26 rfl (oB2 1 ts26 rfl (oE (stpU_call (fun i => 2 + i) cf17 (fun w hw => c_i_TableSame fl w a0.t a1.t rfl (RO.pass hr0_0 hw) rfl (RO.pass hr0_1 hw) rfl (RO.pass hr1_0 hw) rfl (RO.pass hr1_1 hw) x3 e3) (yB rfl rfl)) rfl ?_)))))))
 rintro _ _ ⟨_, ⟨rfl, rfl⟩, rfl⟩
 obtain ⟨y4, ey4, H0⟩ := bS H0
 refine oM rfl (ow_cutY 6 16 y4 ?_ ?_)
 ·rcases Bool.eq_false_or_eq_true x3 with hy4 | hy4
  ·have ey4 := cond_t ey4 hy4
   obtain ⟨x5, e5, ey4⟩ := bS ey4
   refine oG rfl hy4 (fA 2 Tryd.underlying29 rfl ts27 rfl rfl rfl) rfl (oG rfl hy4 (lB 0 ts27 rfl rfl rfl) rfl (oG rfl hy4 (fA 2 Tryd.underlying29 rfl ts27 rfl rfl rfl) rfl (oG rfl hy4 (lB 1 ts27 rfl rfl rfl) rfl (ow_eff (.some rfl hy4) (stpU_call (fun i => 2 + i) cf18 (fun w hw => c_slices_EqualFunc_Cpu_of_i_SystemSame_1 fl w a0.c a1.c rfl (ROD.pass hr0_2 hw) rfl (ROD.pass hr1_2 hw) x5 e5) (yC rfl rfl rfl)) rfl ?_))))
   rintro _ _ ⟨_, ⟨rfl, rfl⟩, rfl⟩
   refine oD (stp_pick_t rfl hy4 rfl) rfl ?_
   obtain rfl := sI ey4
   exact ow_nil (jy 6 0)
  have ey4 := cond_f ey4 hy4
  refine oO rfl hy4 rfl (oO rfl hy4 rfl (oO rfl hy4 rfl (oO rfl hy4 rfl (oO rfl hy4 rfl (oD (stp_pick_f rfl hy4 rfl) rfl ?_)))))
  obtain rfl := sI ey4
  exact ow_nil (jy 6 0)
 refine oS rfl (nn (cw_ret ?_))
 obtain rfl := sI H0
 exact kr Tryd.results6 (rT rfl) [] ⟨rfl, rfl⟩
end Go.Proofs.YtciliaiocakdkaaDoor
