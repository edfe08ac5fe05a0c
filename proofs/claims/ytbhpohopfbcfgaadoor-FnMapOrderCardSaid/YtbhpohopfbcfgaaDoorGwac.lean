/- The walks: functions of the program return what their pure functions say. Printed by a program (gen.py). -/
import Derived.Test.YtbhpohopfbcfgaaDoorGp
import Derived.Test.YtbhpohopfbcfgaaDoorGt
import Derived.Test.YtbhpohopfbcfgaaDoorMan
import Derived.Test.YtbhpohopfbcfgaaDoorMap
import Derived.Test.YtbhpohopfbcfgaaDoorCpy
import Derived.Test.YtbhpohopfbcfgaaDoorBits
import Derived.Test.YtbhpohopfbcfgaaDoorGwaa
import Derived.Test.YtbhpohopfbcfgaaDoorGwab
import Derived.Test.YtbhpohopfbcfgaaDoorGwad
import Derived.Test.YtbhpohopfbcfgaaDoorGwae
import Derived.Test.YtbhpohopfbcfgaaDoorGwaf
import Derived.Test.YtbhpohopfbcfgaaDoorGws
set_option linter.unusedSimpArgs false
set_option linter.unusedVariables false
set_option linter.unusedSectionVars false
namespace Go.Proofs.YtbhpohopfbcfgaaDoor
open Go.RowKit
set_option maxHeartbeats 4000000 in
set_option maxRecDepth 20000 in
theorem c_s_DrawMapPage (fl : Nat) (w : World) (a0 : (List UInt8)) (p0_0 : Option Addr) (n0_0 c0_0 : Nat) (hn0_0 : n0_0 = (a0).length) (hr0_0 : RO w (hkeys []) (RdL p0_0 c0_0 a0)) (r : T × K × Int × Int) (H0 : s_DrawMapPage fl a0 = some r) :
    Ct Tryd.prog 7 [.slice p0_0 n0_0 c0_0] w [] (fun rv h' => ∃ (x0 : Option Addr) (y0 z0 : Nat) (C0 : Res) (x1 : Option Addr) (y1 z1 : Nat) (C1 : Res), rv = .tuple #[.agg #[.slice x0 y0 z0, .slice x1 y1 z1], .agg #[.int .i64 r.2.1.s, .int .i64 r.2.1.p], .int .i64 r.2.2.1, .int .i64 r.2.2.2] ∧ h' = [(0, C0), (1, C1)] ∧ y0 = (r.1.b).length ∧ OwnC 3 x0 z0 r.1.b C0 ∧ y1 = (r.1.f).length ∧ OwnC 58 x1 z1 r.1.f C1) := by
  obtain rfl := hn0_0
  unfold s_DrawMapPage at H0
  refine ct_of_cw Tryd.func7 rfl Tryd.ntmps7 rfl (Sat.refl _ _) ?_
  refine sr (oE (stpU_alloc 0 tz26 rfl) rfl ?_)
  rintro _ _ ⟨b1, rfl, rfl⟩
  refine oE (stpU_alloc 1 tz28 rfl) rfl ?_
  rintro _ _ ⟨b2, rfl, rfl⟩
  refine oD (sg rfl) rfl (oD (sg rfl) rfl (nn (sr (oD (mv rfl) rfl (oE (stpU_call (fun i => 2 + i) cf22 (fun w hw => c_open22 w a0 p0_0 ((a0).length) c0_0 rfl (RO.cap hr0_0).1) (sevs_cons rfl sevs_nil)) rfl ?_)))))
  rintro _ _ ⟨_, ⟨b3, rfl, rfl⟩, rfl⟩
  obtain ⟨x4, e4, H0⟩ := bind_some H0
  refine oD (sg rfl) rfl (nn (sr (oD (mv rfl) rfl (oD (mv rfl) rfl (oE (stpU_callM (fun i => bif Nat.beq i 0 then 2 else 3 + i) cf24 (fun w hw hb => c_s_l3Draw fl w b3 (a0.take 2000) p0_0 (((a0.take 2000)).length) c0_0 0 rfl (RO.passM (RO.takeN 2000 hr0_0) hw hb) (hw.pass (js := [2]) ⟨2, [], rfl, rfl, trivial⟩ (by decide)) x4 e4) (sevs_cons rfl sevs_nil) ⟨rfl, (fun _ _ hp => by obtain ⟨_, _, _, _, _, _, _, _, _, rfl, _⟩ := hp; exact ⟨_, rfl⟩), trivial⟩) rfl ?_)))))
  rintro _ _ ⟨_, ⟨p5, n6, c7, C8, p9, n10, c11, C12, rfl, rfl, hnn6, o8, hnn10, o12⟩, rfl⟩
  obtain rfl := hnn6
  obtain rfl := hnn10
  obtain ⟨x13, e13, H0⟩ := bind_some H0
  refine oE (stpU_callM (fun i => bif Nat.beq i 0 then 2 else 6 + i) cf23 (fun w hw hb => c_s_l3Wrong fl w b3 (a0.take 2000) p0_0 (((a0.take 2000)).length) c0_0 x4.2 x4.1 p5 ((x4.1.b).length) c7 p9 ((x4.1.f).length) c11 rfl (RO.passM (RO.takeN 2000 hr0_0) hw hb) rfl (OwnC.passM (id := 4) rfl o8 hw hb ⟨rfl, trivial⟩) rfl (OwnC.passM (id := 5) rfl o12 hw hb ⟨rfl, trivial⟩) (hw.pass (js := [2]) ⟨2, [], rfl, rfl, trivial⟩ (by decide)) x13 e13) (sevs_cons rfl (sevs_cons rfl sevs_nil)) ⟨rfl, (fun _ _ hp => by obtain ⟨_, _, _, _, _, _, _, _, _, rfl, _⟩ := hp; exact ⟨_, rfl⟩), trivial⟩) rfl ?_
  rintro _ _ ⟨_, ⟨p14, n15, c16, C17, p18, n19, c20, C21, rfl, rfl, hnn15, o17, hnn19, o21⟩, rfl⟩
  obtain rfl := hnn15
  obtain rfl := hnn19
  refine oE (stpU_alloc 9 tz26 rfl) rfl ?_
  rintro _ _ ⟨b22, rfl, rfl⟩
  refine oF (stpU_store (id := 9) (cs' := [.slice p14 ((x13.1.b).length) c16, .slice p18 ((x13.1.f).length) c20]) ts26 rfl rfl rfl rfl rfl rfl rfl) ?_
  rintro _ _ rfl
  obtain ⟨x23, e23, H0⟩ := bind_some H0
  obtain ⟨x26, e26, H0⟩ := bind_some H0
  obtain ⟨x29, e29, H0⟩ := bind_some H0
  refine nn (cw_seq (rdr g_mixed [2, 3, 6, 7] [0, 1, 2, 9] { dst := dS [15, 16, 17, 18, 19, 20, 21, 22, 23, 0, 0, 5, 6], pre := gA [] [[], [], [1], [], [], rn 1 4, [], [], rn 1 7, rn 0 9, rn 0 10, rn 0 11, rn 0 12], ids := gA [] [[], [], [2], [], [11], [2], [], [13], [2], [0], [1]], rs := rL [[(7, 0)], [(6, 0)], [(15, 2)], [(6, 0)], [], [(17, 4), (18, 5)], [(6, 0)], [], [(20, 7), (21, 8)], [(2, 0), (14, 1)], [(3, 0), (16, 3)], [(19, 6)], [(22, 9)]], rh := rL [[(9, 0)], [], [(2, 0)], [], [], [(2, 3), (11, 5)], [], [], [(2, 6), (13, 8)], [(0, 0)], [(1, 0)]], V := fun i g => gA undef [.agg #[.slice p14 ((x13.1.b).length) c16, .slice p18 ((x13.1.f).length) c20], .pointer (some ⟨b3, 0, none⟩), .agg #[.int .i64 x23.1.s, .int .i64 x23.1.p], .pointer (some ⟨b3, 0, none⟩), .slice ((g 4).A 0) 8 8, .int .i64 x26.1, .pointer (some ⟨b3, 0, none⟩), .slice ((g 7).A 0) 4 4, .int .i64 x29.1, undef, undef, .int .i64 x26.1, .int .i64 x29.1] i, U := fun i g => gA [] [[], [], [(2, [(b3, .cells #[.slice p0_0 (((a0.take 2000)).length) c0_0, .int .i64 x23.2] 81 (0, 0))])], [], [(11, ((g 4).R 0))], [(2, [(b3, .cells #[.slice p0_0 (((a0.take 2000)).length) c0_0, .int .i64 x26.2] 81 (0, 0))])], [], [(13, ((g 7).R 0))], [(2, [(b3, .cells #[.slice p0_0 (((a0.take 2000)).length) c0_0, .int .i64 x29.2] 81 (0, 0))])], [(0, [(b1, .cells #[.slice p14 ((x13.1.b).length) c16, .slice p18 ((x13.1.f).length) c20] 26 (0, 0))])], [(1, [(b2, .cells #[.int .i64 x23.1.s, .int .i64 x23.1.p] 28 (0, 0))])]] i, Φ := fun i x => match i with | 4 => OwnC (α := Int) 3 (x.A 0) 8 ([0, 1, 2, 3, 4, 5, (-1), 16]) (x.R 0) | 7 => OwnC (α := Int) 3 (x.A 0) 4 ([3, 7, 1, 8]) (x.R 0) | _ => True } ?_ ?_))
  · refine ⟨⟨⟨⟨⟨⟨⟨⟨⟨⟨⟨⟨⟨trivial, lc rfl rfl fun hs hh => stp_loadN (us := [_, _]) ts26 (sv hs 7 rfl) (Cells.box (id := 9) (hh.get 9 _ rfl) 2 rfl)⟩, lc rfl rfl fun hs hh => stp_move (sv hs 6 rfl)⟩, ?_⟩, lc rfl rfl fun hs hh => stp_move (sv hs 6 rfl)⟩, ?_⟩, ?_⟩, lc rfl rfl fun hs hh => stp_move (sv hs 6 rfl)⟩, ?_⟩, ?_⟩, ?_⟩, ?_⟩, lc rfl rfl fun hs hh => stp_assign (sv hs 19 rfl)⟩, lc rfl rfl fun hs hh => stp_assign (sv hs 22 rfl)⟩
    · refine le rfl rfl (fun g hΦ s h hs hh => (stpU_callM (fun i => bif Nat.beq i 0 then 2 else 10 + i) cf25 (fun w hw hb => c_s_l2Case fl w b3 (a0.take 2000) p0_0 (((a0.take 2000)).length) c0_0 x13.2 rfl (RO.passM (RO.takeN 2000 hr0_0) hw hb) (hw.pass (js := [2]) ⟨2, [], rfl, (hh.get 2 _ rfl), trivial⟩ (by decide)) x23 e23) (sevs_cons (sv hs 15 rfl) sevs_nil) ⟨(hh.get 2 _ rfl), (fun _ _ hp => by obtain ⟨_, rfl⟩ := hp; exact ⟨_, rfl⟩), trivial⟩)) ?_
      rintro g _ _ ⟨_, ⟨rfl, rfl⟩, rfl⟩
      exact ⟨⟨[], [], []⟩, trivial, .inr rfl, rfl⟩
    · refine le rfl rfl (fun g hΦ s h hs hh => (stpU_lit (sz := 1) (l := [0, 1, 2, 3, 4, 5, (-1), 16]) [.int .i64 0, .int .i64 1, .int .i64 2, .int .i64 3, .int .i64 4, .int .i64 5, .int .i64 (-1), .int .i64 16] sl23 11 (sevp_cons rfl (sevp_cons rfl (sevp_cons rfl (sevp_cons rfl (sevp_cons rfl (sevp_cons rfl (sevp_cons rfl (sevp_cons rfl sevp_nil)))))))) rfl rfl rfl rfl rfl rfl rfl rfl rfl)) ?_
      rintro g _ _ ⟨p24, C25, rfl, rfl, o25⟩
      exact ⟨⟨[p24], [], [C25]⟩, o25, .inr rfl, rfl⟩
    · refine le rfl rfl (fun g hΦ s h hs hh => (stpU_callM (fun i => bif Nat.beq i 0 then 2 else 12 + i) cf26 (fun w hw hb => c_s_l12Rd_num fl w b3 (a0.take 2000) p0_0 (((a0.take 2000)).length) c0_0 x23.2 ([0, 1, 2, 3, 4, 5, (-1), 16]) ((g 4).A 0) 8 8 rfl (RO.passM (RO.takeN 2000 hr0_0) hw hb) (by simp) (OwnC.passM (id := 11) (hh.get 11 _ rfl) (hΦ 4 rfl) hw hb ⟨rfl, trivial⟩) (hw.pass (js := [2]) ⟨2, [], rfl, (hh.get 2 _ rfl), trivial⟩ (by decide)) x26 e26) (sevs_cons (sv hs 17 rfl) (sevs_cons (sv hs 18 rfl) sevs_nil)) ⟨(hh.get 2 _ rfl), (fun _ _ hp => by obtain ⟨_, rfl⟩ := hp; exact ⟨_, rfl⟩), trivial⟩)) ?_
      rintro g _ _ ⟨_, ⟨rfl, rfl⟩, rfl⟩
      exact ⟨⟨[], [], []⟩, trivial, .inr rfl, rfl⟩
    · refine le rfl rfl (fun g hΦ s h hs hh => (stpU_lit (sz := 1) (l := [3, 7, 1, 8]) [.int .i64 3, .int .i64 7, .int .i64 1, .int .i64 8] sl23 13 (sevp_cons rfl (sevp_cons rfl (sevp_cons rfl (sevp_cons rfl sevp_nil)))) rfl rfl rfl rfl rfl rfl rfl rfl rfl)) ?_
      rintro g _ _ ⟨p27, C28, rfl, rfl, o28⟩
      exact ⟨⟨[p27], [], [C28]⟩, o28, .inr rfl, rfl⟩
    · refine le rfl rfl (fun g hΦ s h hs hh => (stpU_callM (fun i => bif Nat.beq i 0 then 2 else 14 + i) cf26 (fun w hw hb => c_s_l12Rd_num fl w b3 (a0.take 2000) p0_0 (((a0.take 2000)).length) c0_0 x26.2 ([3, 7, 1, 8]) ((g 7).A 0) 4 4 rfl (RO.passM (RO.takeN 2000 hr0_0) hw hb) (by simp) (OwnC.passM (id := 13) (hh.get 13 _ rfl) (hΦ 7 rfl) hw hb ⟨rfl, trivial⟩) (hw.pass (js := [2]) ⟨2, [], rfl, (hh.get 2 _ rfl), trivial⟩ (by decide)) x29 e29) (sevs_cons (sv hs 20 rfl) (sevs_cons (sv hs 21 rfl) sevs_nil)) ⟨(hh.get 2 _ rfl), (fun _ _ hp => by obtain ⟨_, rfl⟩ := hp; exact ⟨_, rfl⟩), trivial⟩)) ?_
      rintro g _ _ ⟨_, ⟨rfl, rfl⟩, rfl⟩
      exact ⟨⟨[], [], []⟩, trivial, .inr rfl, rfl⟩
    · refine le rfl rfl (fun g hΦ s h hs hh => (stpU_store (id := 0) (cs' := [.slice p14 ((x13.1.b).length) c16, .slice p18 ((x13.1.f).length) c20]) ts26 (sv hs 2 rfl) (sv hs 14 rfl) (hh.get 0 _ rfl) rfl rfl rfl rfl)) ?_
      rintro g _ _ rfl
      exact ⟨⟨[], [], []⟩, trivial, .inl rfl, rfl⟩
    · refine le rfl rfl (fun g hΦ s h hs hh => (stpU_store (id := 1) (cs' := [.int .i64 x23.1.s, .int .i64 x23.1.p]) ts28 (sv hs 3 rfl) (sv hs 16 rfl) (hh.get 1 _ rfl) rfl rfl rfl rfl)) ?_
      rintro g _ _ rfl
      exact ⟨⟨[], [], []⟩, trivial, .inl rfl, rfl⟩
  · intro g hΦ
    refine kw_gen (ι := Option Addr × Res × Option Addr × Res) (((g 4).A 0), ((g 4).R 0), ((g 7).A 0), ((g 7).R 0)) (fun | (p24, C25, p27, C28) => OwnC (α := Int) 3 p24 8 ([0, 1, 2, 3, 4, 5, (-1), 16]) C25 ∧ OwnC (α := Int) 3 p27 4 ([3, 7, 1, 8]) C28) (fun | (p24, C25, p27, C28) => [(2, .pointer (some ⟨b1, 0, none⟩)), (3, .pointer (some ⟨b2, 0, none⟩)), (4, .int .i64 x26.1), (5, .int .i64 x29.1)]) (fun | (p24, C25, p27, C28) => [(0, [(b1, .cells #[.slice p14 ((x13.1.b).length) c16, .slice p18 ((x13.1.f).length) c20] 26 (0, 0))]), (1, [(b2, .cells #[.int .i64 x23.1.s, .int .i64 x23.1.p] 28 (0, 0))]), (7, C17), (8, C21)]) ⟨(hΦ 4 (by decide)), (hΦ 7 (by decide))⟩ ⟨rfl, rfl, rfl, rfl, trivial⟩ ⟨rfl, rfl, rfl, rfl, trivial⟩ ?_
    rintro ⟨p24, C25, p27, C28⟩ ⟨o25, o28⟩
    refine KW.sub (s' := [(2, .pointer (some ⟨b1, 0, none⟩)), (3, .pointer (some ⟨b2, 0, none⟩)), (4, .int .i64 x26.1), (5, .int .i64 x29.1)]) (h' := [(0, [(b1, .cells #[.slice p14 ((x13.1.b).length) c16, .slice p18 ((x13.1.f).length) c20] 26 (0, 0))]), (1, [(b2, .cells #[.int .i64 x23.1.s, .int .i64 x23.1.p] 28 (0, 0))]), (7, C17), (8, C21)]) ?_ ⟨rfl, rfl, rfl, rfl, trivial⟩ ⟨rfl, rfl, rfl, rfl, trivial⟩
    refine kw_nx (cw_ret ?_)
    have q0 := Option.some.inj H0
    subst q0
    exact kw_ret Tryd.results7 (.cons (.cellN (us := [_, _]) ts26 rfl (Cells.box (id := 0) rfl 2 rfl)) (.cons (.cellN (us := [_, _]) ts28 rfl (Cells.box (id := 1) rfl 2 rfl)) (.cons (.tmp rfl) (.cons (.tmp rfl) .nil)))) [(0, C17), (1, C21)] [7, 8] ⟨7, [8], rfl, rfl, 8, [], rfl, rfl, trivial⟩ (by decide) ⟨p14, ((x13.1.b).length), c16, C17, p18, ((x13.1.f).length), c20, C21, rfl, rfl, rfl, o17, rfl, o21⟩

set_option maxHeartbeats 4000000 in
set_option maxRecDepth 20000 in
theorem c_i_Table_link (fl : Nat) (w : World) (a0 : T) (p0_0 : Option Addr) (n0_0 c0_0 : Nat) (C0_0 : Res) (p0_1 : Option Addr) (n0_1 c0_1 : Nat) (C0_1 : Res) (a1 : K) (a2 : Int) (a3 : Int) (hn0_0 : n0_0 = (a0.b).length) (ho0_0 : OwnC (α := Int) 3 p0_0 c0_0 a0.b C0_0) (hn0_1 : n0_1 = (a0.f).length) (ho0_1 : OwnC (α := F) 58 p0_1 c0_1 a0.f C0_1) (hM : Sat w (hkeys [(0, C0_0), (1, C0_1)]) w [(0, C0_0), (1, C0_1)]) (r : (List Int) × (List F)) (H0 : i_Table_link fl a0 a1 a2 a3 = some r) :
    Ct Tryd.prog 32 [.agg #[.slice p0_0 n0_0 c0_0, .slice p0_1 n0_1 c0_1], .agg #[.int .i64 a1.s, .int .i64 a1.p], .int .i64 a2, .int .i64 a3] w [(0, C0_0), (1, C0_1)] (fun rv h' => ∃ (D0 : Res) (D1 : Res), rv = .tuple #[] ∧ h' = [(0, D0), (1, D1)] ∧ n0_0 = (r.1).length ∧ OwnC (α := Int) 3 p0_0 c0_0 r.1 D0 ∧ n0_1 = (r.2).length ∧ OwnC (α := F) 58 p0_1 c0_1 r.2 D1) := by
  obtain rfl := hn0_0
  obtain rfl := hn0_1
  unfold i_Table_link at H0
  refine ct_of_cw Tryd.func32 rfl Tryd.ntmps32 rfl hM ?_
  refine sr (oE (stpU_box 2 rfl rfl) rfl ?_)
  rintro _ _ ⟨b1, rfl, rfl⟩
  refine oE (stpU_box 3 rfl rfl) rfl ?_
  rintro _ _ ⟨b2, rfl, rfl⟩
  obtain ⟨x3, e3, H0⟩ := bind_some H0
  refine nn (sr (oD (stp_loadN (us := [_, _]) ts28 rfl (Cells.box (id := 3) rfl 2 rfl)) rfl (oD (fA 0 Tryd.underlying26 rfl ts23 rfl rfl rfl) rfl (oD (lB 2 ts23 rfl rfl rfl) rfl (oD (stp_len Tryd.underlying23 rfl) rfl (oE (stpU_call (fun i => 4 + i) cf41 (fun w hw => c_i_hash fl w a1 ((a0.b).length : Int) x3 e3) (sevs_cons rfl (sevs_cons rfl sevs_nil))) rfl ?_))))))
  rintro _ _ ⟨_, ⟨rfl, rfl⟩, rfl⟩
  obtain ⟨x4, e4, H0⟩ := bind_some H0
  obtain ⟨x5, e5, H0⟩ := bind_some H0
  refine oD (sg rfl) rfl (nn (cw_seq (rdr g_mixed [2, 3, 4, 5, 8] [0, 1, 2, 3] { dst := dS [15, 16, 17, 18, 19, 20, 21, 22, 23, 24, 25, 26, 0], pre := gA [] [[], [0], [], [], [], [], [5], [], [5, 6, 7], rn 5 4, rn 3 7, rn 0 11, rn 0 12], ids := fun i => match i with | 12 => [1] | _ => [], rs := rL [[(4, 0)], [(14, 1)], [(2, 0)], [(5, 0)], [(3, 0)], [(4, 0)], [(19, 6)], [(8, 0)], [(20, 7), (21, 8)], [(22, 9)], [(17, 4), (18, 5), (23, 10)], [(15, 2), (16, 3)], [(25, 12), (24, 11)]], rh := rL [[], [(2, 0)], [], [(3, 0)], [], [], [(2, 0)], [], [(0, 0)], [(0, 0)], [], [(1, 0)], [(1, 0)]], V := fun i g => gA undef [.pointer (some ⟨b1, 1, none⟩), .slice p0_1 ((a0.f).length) c0_1, .int .i64 a2, .agg #[.int .i64 a1.s, .int .i64 a1.p], .int .i64 a3, .pointer (some ⟨b1, 0, none⟩), .slice p0_0 ((a0.b).length) c0_0, .int .i64 x3, .pointer (some ⟨eB p0_0, eO p0_0 + Int.toNat x3 * Enc.sz Int + 0, none⟩), .int .i64 x4, .agg #[.bool true, .int .i64 a1.s, .int .i64 a1.p, .int .i64 a3, .int .i64 x4], .pointer (some ⟨eB p0_1, eO p0_1 + Int.toNat a2 * Enc.sz F + 0, none⟩)] i, U := fun i g => match i with | 12 => [(1, ((g 12).R 0))] | _ => [], Φ := fun i x => match i with | 12 => OwnC (α := F) 58 p0_1 c0_1 (a0.f.set (Int.toNat a2) (⟨true, a1, a3, x4⟩ : F)) (x.R 0) | _ => True } ?_ ?_)))
  · refine ⟨⟨⟨⟨⟨⟨⟨⟨⟨⟨⟨⟨⟨trivial, lc rfl rfl fun hs hh => stp_fieldAddr (j := 1) Tryd.underlying26 rfl ts24 rfl (sv hs 4 rfl) rfl⟩, lc rfl rfl fun hs hh => stp_load1 ts24 (sv hs 14 rfl) (Cells.box (id := 2) (hh.get 2 _ rfl) 1 rfl)⟩, lc rfl rfl fun hs hh => stp_move (sv hs 2 rfl)⟩, lc rfl rfl fun hs hh => stp_loadN (us := [_, _]) ts28 (sv hs 5 rfl) (Cells.box (id := 3) (hh.get 3 _ rfl) 2 rfl)⟩, lc rfl rfl fun hs hh => stp_move (sv hs 3 rfl)⟩, lc rfl rfl fun hs hh => stp_fieldAddr (j := 0) Tryd.underlying26 rfl ts23 rfl (sv hs 4 rfl) rfl⟩, lc rfl rfl fun hs hh => stp_load1 ts23 (sv hs 19 rfl) (Cells.box (id := 2) (hh.get 2 _ rfl) 1 rfl)⟩, lc rfl rfl fun hs hh => stp_move (sv hs 8 rfl)⟩, lc rfl rfl fun hs hh => stp_indexAddr Tryd.underlying23 ts3 (by decide) (sv hs 20 rfl) rfl (sv hs 21 rfl) (Rdb.own (id := 0) (hh.get 0 _ rfl) ho0_0) e4⟩, lc rfl rfl fun hs hh => stp_load1 ts3 (sv hs 22 rfl) (Cells.el (Rdb.own (id := 0) (hh.get 0 _ rfl) ho0_0) (by decide) e4 0 1 rfl)⟩, lc rfl rfl fun hs hh => stp_build (cs := #[.bool true, .int .i64 a1.s, .int .i64 a1.p, .int .i64 a3, .int .i64 x4]) (sevp_cons rfl (sevp_cons (sv hs 17 rfl) (sevp_cons (sv hs 18 rfl) (sevp_cons (sv hs 23 rfl) sevp_nil)))) bt58_4⟩, lc rfl rfl fun hs hh => stp_indexAddr Tryd.underlying24 ts58 (by decide) (sv hs 15 rfl) rfl (sv hs 16 rfl) (Rdb.own (id := 1) (hh.get 1 _ rfl) ho0_1) e5⟩, ?_⟩
    · refine le rfl rfl (fun g hΦ s h hs hh => (stpU_storeEl (id := 1) (i := 0) (⟨true, a1, a3, x4⟩ : F) (by decide) ts58 (sv hs 25 rfl) (sv hs 24 rfl) (hh.get 1 _ rfl) ho0_1 e5 rfl rfl rfl rfl)) ?_
      rintro g _ _ ⟨C6, rfl, o6⟩
      exact ⟨⟨[], [], [C6]⟩, o6, .inl rfl, rfl⟩
  · intro g hΦ
    refine kw_gen (ι := Res) ((g 12).R 0) (fun | C6 => OwnC (α := F) 58 p0_1 c0_1 (a0.f.set (Int.toNat a2) (⟨true, a1, a3, x4⟩ : F)) C6) (fun | C6 => [(2, .int .i64 a2), (4, .pointer (some ⟨b1, 0, none⟩)), (8, .int .i64 x3)]) (fun | C6 => [(0, C0_0), (1, C6), (2, [(b1, .cells #[.slice p0_0 ((a0.b).length) c0_0, .slice p0_1 ((a0.f).length) c0_1] 26 (0, 0))])]) (hΦ 12 (by decide)) ⟨rfl, rfl, rfl, trivial⟩ ⟨rfl, rfl, rfl, trivial⟩ ?_
    rintro C6 o6
    have o6 : OwnC (α := F) 58 p0_1 c0_1 (a0.f.set (Int.toNat a2) (⟨true, a1, a3, x4⟩ : F)) C6 := o6
    refine KW.sub (s' := [(2, .int .i64 a2), (4, .pointer (some ⟨b1, 0, none⟩)), (8, .int .i64 x3)]) (h' := [(0, C0_0), (1, C6), (2, [(b1, .cells #[.slice p0_0 ((a0.b).length) c0_0, .slice p0_1 ((a0.f).length) c0_1] 26 (0, 0))])]) ?_ ⟨rfl, rfl, rfl, trivial⟩ ⟨rfl, rfl, rfl, trivial⟩
    refine kw_nx (cw_region (oD (fA 0 Tryd.underlying26 rfl ts23 rfl rfl rfl) rfl (oD (lB 2 ts23 rfl rfl rfl) rfl (oD (mv rfl) rfl (oD (mv rfl) rfl (oD (stp_indexAddr Tryd.underlying23 ts3 (by decide) rfl rfl rfl (Rdb.own (id := 0) rfl ho0_0) e4) rfl (oF (stpU_storeEl (id := 0) (i := 0) a2 (by decide) ts3 rfl rfl rfl ho0_0 e4 rfl rfl rfl rfl) ?_)))))))
    rintro _ _ ⟨C7, rfl, o7⟩
    refine ow_nil ?_
    have q0 := Option.some.inj H0
    subst q0
    exact kw_end Tryd.results32 .nil [(0, C7), (1, C6)] [0, 1] ⟨0, [1], rfl, rfl, 1, [], rfl, rfl, trivial⟩ (by decide) ⟨C7, C6, rfl, rfl, (by simp), o7, (by simp), o6⟩

set_option maxHeartbeats 4000000 in
set_option maxRecDepth 20000 in
theorem c_i_MapPage (fl : Nat) (w : World) (a0 : T) (p0_0 : Option Addr) (n0_0 c0_0 : Nat) (p0_1 : Option Addr) (n0_1 c0_1 : Nat) (a1 : K) (a2 : Int) (a3 : Int) (hn0_0 : n0_0 = (a0.b).length) (hr0_0 : RO w (hkeys []) (RdL p0_0 c0_0 a0.b)) (hn0_1 : n0_1 = (a0.f).length) (hr0_1 : RO w (hkeys []) (RdL p0_1 c0_1 a0.f)) (hg : RO w (hkeys []) (fun w' => w'.rangeAt 0 0 [.bool false, .int .i64 0, .int .i64 0, .int .i64 0, .int .i64 (-1)])) (r : T × Bool) (H0 : i_MapPage fl a0 a1 a2 a3 = some r) :
    Ct Tryd.prog 8 [.agg #[.slice p0_0 n0_0 c0_0, .slice p0_1 n0_1 c0_1], .agg #[.int .i64 a1.s, .int .i64 a1.p], .int .i64 a2, .int .i64 a3] w [] (fun rv h' => ∃ (x0 : Option Addr) (y0 z0 : Nat) (C0 : Res) (x1 : Option Addr) (y1 z1 : Nat) (C1 : Res), rv = .tuple #[.agg #[.slice x0 y0 z0, .slice x1 y1 z1], .bool r.2] ∧ h' = [(0, C0), (1, C1)] ∧ y0 = (r.1.b).length ∧ OwnC 3 x0 z0 r.1.b C0 ∧ y1 = (r.1.f).length ∧ OwnC 58 x1 z1 r.1.f C1) := by
  obtain rfl := hn0_0
  obtain rfl := hn0_1
  unfold i_MapPage at H0
  refine ct_of_cw Tryd.func8 rfl Tryd.ntmps8 rfl (Sat.refl _ _) ?_
  refine sr (oE (stpU_box 0 rfl rfl) rfl ?_)
  rintro _ _ ⟨b1, rfl, rfl⟩
  refine oE (stpU_box 1 rfl rfl) rfl ?_
  rintro _ _ ⟨b2, rfl, rfl⟩
  refine oE (stpU_alloc 2 tz26 rfl) rfl ?_
  rintro _ _ ⟨b3, rfl, rfl⟩
  obtain ⟨x4, e4, H0⟩ := bind_some H0
  refine oD (sg rfl) rfl (nn (cw_seq (sr (oD (stp_loadN (us := [_, _]) ts26 rfl (Cells.box (id := 0) rfl 2 rfl)) rfl (oE (stpU_call (fun i => 3 + i) cf20 (fun w hw => c_i_TableValid fl w a0 p0_0 ((a0.b).length) c0_0 p0_1 ((a0.f).length) c0_1 rfl (RO.pass hr0_0 hw) rfl (RO.pass hr0_1 hw) (RO.pass hg hw) x4 e4) (sevs_cons rfl sevs_nil)) rfl ?_)))))
  rintro _ _ ⟨_, ⟨rfl, rfl⟩, rfl⟩
  obtain ⟨y5, ey5, H0⟩ := bind_some H0
  refine oD (stp_not rfl) rfl (oD (mv rfl) rfl (ow_cutY 4 18 y5 ?_ ?_))
  · rcases Bool.eq_false_or_eq_true (!x4) with hy5 | hy5
    · have ey5 := cond_t ey5 hy5
      refine oO rfl hy5 rfl (oO rfl hy5 rfl (oO rfl hy5 rfl (oD (stp_pick_t rfl hy5 rfl) rfl ?_)))
      obtain rfl := Option.some.inj ey5
      exact ow_nil (jy 4 0)
    · have ey5 := cond_f ey5 hy5
      obtain ⟨x6, e6, ey5⟩ := bind_some ey5
      refine oG rfl hy5 (stp_loadN (us := [_, _]) ts28 rfl (Cells.box (id := 1) rfl 2 rfl)) rfl (ow_eff (.some rfl hy5) (stpU_call (fun i => 3 + i) cf27 (fun w hw => c_i_KeyValid fl w a1 x6 e6) (sevs_cons rfl sevs_nil)) rfl ?_)
      rintro _ _ ⟨_, ⟨rfl, rfl⟩, rfl⟩
      refine oG rfl hy5 (stp_not rfl) rfl (oD (stp_pick_f rfl hy5 rfl) rfl ?_)
      obtain rfl := Option.some.inj ey5
      exact ow_nil (jy 4 0)
  · obtain ⟨y7, ey7, H0⟩ := bind_some H0
    refine oD (mv rfl) rfl (ow_cutY 5 24 y7 ?_ ?_)
    · rcases Bool.eq_false_or_eq_true y5 with hy7 | hy7
      · have ey7 := cond_t ey7 hy7
        refine oO rfl hy7 rfl (oO rfl hy7 rfl (oO rfl hy7 rfl (oO rfl hy7 rfl (oD (stp_pick_t rfl hy7 rfl) rfl ?_))))
        obtain rfl := Option.some.inj ey7
        exact ow_nil (jy 5 0)
      · have ey7 := cond_f ey7 hy7
        obtain ⟨x8, e8, ey7⟩ := bind_some ey7
        refine oG rfl hy7 (stp_loadN (us := [_, _]) ts26 rfl (Cells.box (id := 0) rfl 2 rfl)) rfl (oG rfl hy7 (stp_loadN (us := [_, _]) ts28 rfl (Cells.box (id := 1) rfl 2 rfl)) rfl (ow_eff (.some rfl hy7) (stpU_call (fun i => 3 + i) cf28 (fun w hw => c_i_Table_find fl w a0 p0_0 ((a0.b).length) c0_0 p0_1 ((a0.f).length) c0_1 a1 rfl (RO.pass hr0_0 hw) rfl (RO.pass hr0_1 hw) x8 e8) (sevs_cons rfl (sevs_cons rfl sevs_nil))) rfl ?_))
        rintro _ _ ⟨_, ⟨rfl, rfl⟩, rfl⟩
        refine oG rfl hy7 (stp_geq rfl rfl) rfl (oD (stp_pick_f rfl hy7 rfl) rfl ?_)
        obtain rfl := Option.some.inj ey7
        exact ow_nil (jy 5 0)
    · obtain ⟨y9, ey9, H0⟩ := bind_some H0
      refine oD (mv rfl) rfl (ow_cutY 7 32 y9 ?_ ?_)
      · rcases Bool.eq_false_or_eq_true y7 with hy9 | hy9
        · have ey9 := cond_t ey9 hy9
          refine oO rfl hy9 rfl (oO rfl hy9 rfl (oO rfl hy9 rfl (oO rfl hy9 rfl (oO rfl hy9 rfl (oO rfl hy9 rfl (oD (stp_pick_t rfl hy9 rfl) rfl ?_))))))
          obtain rfl := Option.some.inj ey9
          exact ow_nil (jy 7 0)
        · have ey9 := cond_f ey9 hy9
          obtain ⟨x10, e10, ey9⟩ := bind_some ey9
          refine oG rfl hy9 (mv rfl) rfl (oG rfl hy9 (fA 1 Tryd.underlying26 rfl ts24 rfl rfl rfl) rfl (oG rfl hy9 (lB 0 ts24 rfl rfl rfl) rfl (oG rfl hy9 (stp_len Tryd.underlying24 rfl) rfl (ow_eff (.some rfl hy9) (stpU_call (fun i => 3 + i) cf29 (fun w hw => c_i_within fl w a2 ((a0.f).length : Int) x10 e10) (sevs_cons rfl (sevs_cons rfl sevs_nil))) rfl ?_))))
          rintro _ _ ⟨_, ⟨rfl, rfl⟩, rfl⟩
          refine oG rfl hy9 (stp_not rfl) rfl (oD (stp_pick_f rfl hy9 rfl) rfl ?_)
          obtain rfl := Option.some.inj ey9
          exact ow_nil (jy 7 0)
      · obtain ⟨y11, ey11, H0⟩ := bind_some H0
        refine oD (mv rfl) rfl (ow_cutY 7 40 y11 ?_ ?_)
        · rcases Bool.eq_false_or_eq_true y9 with hy11 | hy11
          · have ey11 := cond_t ey11 hy11
            refine oO rfl hy11 rfl (oO rfl hy11 rfl (oO rfl hy11 rfl (oO rfl hy11 rfl (oO rfl hy11 rfl (oO rfl hy11 rfl (oD (stp_pick_t rfl hy11 rfl) rfl ?_))))))
            obtain rfl := Option.some.inj ey11
            exact ow_nil (jy 7 0)
          · have ey11 := cond_f ey11 hy11
            obtain ⟨x12, e12, ey11⟩ := bind_some ey11
            refine oG rfl hy11 (fA 1 Tryd.underlying26 rfl ts24 rfl rfl rfl) rfl (oG rfl hy11 (lB 0 ts24 rfl rfl rfl) rfl (oG rfl hy11 (mv rfl) rfl (oG rfl hy11 (stp_indexAddr Tryd.underlying24 ts58 (by decide) rfl rfl rfl (Rdb.ro hr0_1) e12) rfl (oG rfl hy11 (fA 0 Tryd.underlying58 rfl ts4 rfl rfl rfl) rfl (oG rfl hy11 (stp_load1 ts4 rfl (Cells.el (Rdb.ro hr0_1) (by decide) e12 0 1 rfl)) rfl (oD (stp_pick_f rfl hy11 rfl) rfl ?_))))))
            obtain rfl := Option.some.inj ey11
            exact ow_nil (jy 7 0)
        · obtain ⟨y13, ey13, H0⟩ := bind_some H0
          refine oD (mv rfl) rfl (ow_cutY 4 45 y13 ?_ ?_)
          · rcases Bool.eq_false_or_eq_true y11 with hy13 | hy13
            · have ey13 := cond_t ey13 hy13
              refine oO rfl hy13 rfl (oO rfl hy13 rfl (oO rfl hy13 rfl (oD (stp_pick_t rfl hy13 rfl) rfl ?_)))
              obtain rfl := Option.some.inj ey13
              exact ow_nil (jy 4 0)
            · have ey13 := cond_f ey13 hy13
              obtain ⟨x14, e14, ey13⟩ := bind_some ey13
              refine oG rfl hy13 (mv rfl) rfl (ow_eff (.some rfl hy13) (stpU_call (fun i => 3 + i) cf30 (fun w hw => c_i_RightsValid fl w a3 x14 e14) (sevs_cons rfl sevs_nil)) rfl ?_)
              rintro _ _ ⟨_, ⟨rfl, rfl⟩, rfl⟩
              refine oG rfl hy13 (stp_not rfl) rfl (oD (stp_pick_f rfl hy13 rfl) rfl ?_)
              obtain rfl := Option.some.inj ey13
              exact ow_nil (jy 4 0)
          · refine ow_nil (kw_nx (cw_cond rfl (fun h15 => ?_) (fun h15 => ?_)))
            · have H0 := cond_t H0 h15
              refine sr (oD (stp_build (cs := #[.slice none 0 0, .slice none 0 0]) sevp_nil bt26_0) rfl (oF (stpU_store (id := 2) (cs' := [.slice none 0 0, .slice none 0 0]) ts26 rfl rfl rfl rfl rfl rfl rfl) ?_))
              rintro _ _ rfl
              refine oD (sg rfl) rfl (nn (cw_ret (kw_nx_ret (kw_addNil 3 (kw_addNil 4 ?_)))))
              have q0 := Option.some.inj H0
              subst q0
              exact kw_ret Tryd.results8 (.cons (.cellN (us := [_, _]) ts26 rfl (Cells.box (id := 2) rfl 2 rfl)) (.cons (.tmp rfl) .nil)) [(0, []), (1, [])] [3, 4] ⟨3, [4], rfl, rfl, 4, [], rfl, rfl, trivial⟩ (by decide) ⟨none, 0, 0, [], none, 0, 0, [], rfl, rfl, rfl, (OwnC.nil _ _), rfl, (OwnC.nil _ _)⟩
            · have H0 := cond_f H0 h15
              obtain ⟨x16, e16, H0⟩ := bind_some H0
              refine cw_skip (kw_nx (sr (oD (stp_loadN (us := [_, _]) ts26 rfl (Cells.box (id := 0) rfl 2 rfl)) rfl (oE (stpU_call (fun i => 5 + i) cf31 (fun w hw => c_i_Table_clone fl w a0 p0_0 ((a0.b).length) c0_0 p0_1 ((a0.f).length) c0_1 rfl (RO.pass hr0_0 hw) rfl (RO.pass hr0_1 hw) x16 e16) (sevs_cons rfl sevs_nil)) rfl ?_))))
              rintro _ _ ⟨_, ⟨p17, n18, c19, C20, p21, n22, c23, C24, rfl, rfl, hnn18, o20, hnn22, o24⟩, rfl⟩
              obtain rfl := hnn18
              obtain rfl := hnn22
              refine oE (stpU_alloc 7 tz26 rfl) rfl ?_
              rintro _ _ ⟨b25, rfl, rfl⟩
              refine oF (stpU_store (id := 7) (cs' := [.slice p17 ((x16.b).length) c19, .slice p21 ((x16.f).length) c23]) ts26 rfl rfl rfl rfl rfl rfl rfl) ?_
              rintro _ _ rfl
              obtain ⟨x26, e26, H0⟩ := bind_some H0
              refine nn (sr (oD (stp_loadN (us := [_, _]) ts26 rfl (Cells.box (id := 7) rfl 2 rfl)) rfl (oD (stp_loadN (us := [_, _]) ts28 rfl (Cells.box (id := 1) rfl 2 rfl)) rfl (oD (mv rfl) rfl (oD (mv rfl) rfl (oE (stpU_callM (fun i => bif Nat.beq i 0 then 5 else bif Nat.beq i 1 then 6 else 8 + i) cf32 (fun w hw hb => c_i_Table_link fl w x16 p17 ((x16.b).length) c19 C20 p21 ((x16.f).length) c23 C24 a1 a2 a3 rfl o20 rfl o24 (hw.pass (js := [5, 6]) ⟨5, [6], rfl, rfl, 6, [], rfl, rfl, trivial⟩ (by decide)) x26 e26) (sevs_cons rfl (sevs_cons rfl (sevs_cons rfl (sevs_cons rfl sevs_nil)))) ⟨rfl, (fun _ _ hp => by obtain ⟨_, _, _, rfl, _⟩ := hp; exact ⟨_, rfl⟩), rfl, (fun _ _ hp => by obtain ⟨_, _, _, rfl, _⟩ := hp; exact ⟨_, rfl⟩), trivial⟩) rfl ?_))))))
              rintro _ _ ⟨_, ⟨C27, C28, rfl, rfl, hl27, o27, hl28, o28⟩, rfl⟩
              refine nn (sr (oD (stp_loadN (us := [_, _]) ts26 rfl (Cells.box (id := 7) rfl 2 rfl)) rfl (oF (stpU_store (id := 2) (cs' := [.slice p17 ((x16.b).length) c19, .slice p21 ((x16.f).length) c23]) ts26 rfl rfl rfl rfl rfl rfl rfl) ?_)))
              rintro _ _ rfl
              refine oD (sg rfl) rfl (nn (cw_ret ?_))
              have q0 := Option.some.inj H0
              subst q0
              exact kw_ret Tryd.results8 (.cons (.cellN (us := [_, _]) ts26 rfl (Cells.box (id := 2) rfl 2 rfl)) (.cons (.tmp rfl) .nil)) [(0, C27), (1, C28)] [5, 6] ⟨5, [6], rfl, rfl, 6, [], rfl, rfl, trivial⟩ (by decide) ⟨p17, ((x16.b).length), c19, C27, p21, ((x16.f).length), c23, C28, rfl, rfl, (by simp [hl27]), o27, (by simp [hl28]), o28⟩

set_option maxHeartbeats 4000000 in
set_option maxRecDepth 20000 in
theorem c_l_FnMapOrder (fl : Nat) (w : World) (a0 : (List UInt8)) (p0_0 : Option Addr) (n0_0 c0_0 : Nat) (hn0_0 : n0_0 = (a0).length) (hr0_0 : RO w (hkeys []) (RdL p0_0 c0_0 a0)) (hg : RO w (hkeys []) (fun w' => w'.rangeAt 0 0 [.bool false, .int .i64 0, .int .i64 0, .int .i64 0, .int .i64 (-1)])) (r : Bool) (H0 : l_FnMapOrder fl a0 = some r) :
    Ct Tryd.prog 3 [.slice p0_0 n0_0 c0_0] w [] (fun rv h' => rv = .bool r ∧ h' = []) := by
  obtain rfl := hn0_0
  unfold l_FnMapOrder at H0
  refine ct_of_cw Tryd.func3 rfl Tryd.ntmps3 rfl (Sat.refl _ _) ?_
  refine sr (oD (sg rfl) rfl (nn (cw_seq (sr (oD (mv rfl) rfl (oD (stp_len Tryd.underlying22 rfl) rfl (oD (stp_gtr rfl rfl) rfl (nn (cw_cond rfl (fun h1 => ?_) (fun h1 => ?_))))))))))
  · have H0 := cond_t H0 h1
    refine sr (oD (sg rfl) rfl (nn (cw_ret (kw_nx_ret ?_))))
    have q0 := Option.some.inj H0
    subst q0
    exact kw_ret Tryd.results3 (.cons (.tmp rfl) .nil) [] [] trivial (by decide) ⟨rfl, rfl⟩
  · have H0 := cond_f H0 h1
    obtain ⟨x2, e2, H0⟩ := bind_some H0
    refine cw_skip (kw_nx (sr (oD (mv rfl) rfl (oE (stpU_call (fun i => 0 + i) cf7 (fun w hw => c_s_DrawMapPage fl w a0 p0_0 ((a0).length) c0_0 rfl (RO.pass hr0_0 hw) x2 e2) (sevs_cons rfl sevs_nil)) rfl ?_))))
    rintro _ _ ⟨_, ⟨p3, n4, c5, C6, p7, n8, c9, C10, rfl, rfl, hnn4, o6, hnn8, o10⟩, rfl⟩
    obtain rfl := hnn4
    obtain rfl := hnn8
    refine oD (mv rfl) rfl (oD (stp_extract rfl rfl) rfl (oD (stp_extract rfl rfl) rfl (oD (stp_extract rfl rfl) rfl (oD (stp_extract rfl rfl) rfl (oE (stpU_alloc 2 tz26 rfl) rfl ?_)))))
    rintro _ _ ⟨b11, rfl, rfl⟩
    refine oE (stpU_alloc 3 tz28 rfl) rfl ?_
    rintro _ _ ⟨b12, rfl, rfl⟩
    refine oF (stpU_store (id := 2) (cs' := [.slice p3 ((x2.1.b).length) c5, .slice p7 ((x2.1.f).length) c9]) ts26 rfl rfl rfl rfl rfl rfl rfl) ?_
    rintro _ _ rfl
    refine oF (stpU_store (id := 3) (cs' := [.int .i64 x2.2.1.s, .int .i64 x2.2.1.p]) ts28 rfl rfl rfl rfl rfl rfl rfl) ?_
    rintro _ _ rfl
    obtain ⟨x13, e13, H0⟩ := bind_some H0
    refine oD (sg rfl) rfl (oD (sg rfl) rfl (nn (sr (oD (stp_loadN (us := [_, _]) ts26 rfl (Cells.box (id := 2) rfl 2 rfl)) rfl (oD (stp_loadN (us := [_, _]) ts28 rfl (Cells.box (id := 3) rfl 2 rfl)) rfl (oD (mv rfl) rfl (oD (mv rfl) rfl (oE (stpU_call (fun i => 4 + i) cf8 (fun w hw => c_i_MapPage fl w x2.1 p3 ((x2.1.b).length) c5 p7 ((x2.1.f).length) c9 x2.2.1 x2.2.2.1 x2.2.2.2 rfl (OwnC.pass (id := 0) rfl o6 hw) rfl (OwnC.pass (id := 1) rfl o10 hw) (RO.pass hg hw) x13 e13) (sevs_cons rfl (sevs_cons rfl (sevs_cons rfl (sevs_cons rfl sevs_nil))))) rfl ?_))))))))
    rintro _ _ ⟨_, ⟨p14, n15, c16, C17, p18, n19, c20, C21, rfl, rfl, hnn15, o17, hnn19, o21⟩, rfl⟩
    obtain rfl := hnn15
    obtain rfl := hnn19
    refine oD (mv rfl) rfl (oD (stp_extract rfl rfl) rfl (oD (stp_extract rfl rfl) rfl (oE (stpU_alloc 6 tz26 rfl) rfl ?_)))
    rintro _ _ ⟨b22, rfl, rfl⟩
    refine oF (stpU_store (id := 6) (cs' := [.slice p14 ((x13.1.b).length) c16, .slice p18 ((x13.1.f).length) c20]) ts26 rfl rfl rfl rfl rfl rfl rfl) ?_
    rintro _ _ rfl
    obtain ⟨x23, e23, H0⟩ := bind_some H0
    refine oD (sg rfl) rfl (nn (sr (oD (stp_loadN (us := [_, _]) ts26 rfl (Cells.box (id := 2) rfl 2 rfl)) rfl (oD (stp_loadN (us := [_, _]) ts28 rfl (Cells.box (id := 3) rfl 2 rfl)) rfl (oD (mv rfl) rfl (oD (mv rfl) rfl (oE (stpU_call (fun i => 7 + i) cf9 (fun w hw => c_s_MapPage fl w x2.1 p3 ((x2.1.b).length) c5 p7 ((x2.1.f).length) c9 x2.2.1 x2.2.2.1 x2.2.2.2 rfl (OwnC.pass (id := 0) rfl o6 hw) rfl (OwnC.pass (id := 1) rfl o10 hw) x23 e23) (sevs_cons rfl (sevs_cons rfl (sevs_cons rfl (sevs_cons rfl sevs_nil))))) rfl ?_)))))))
    rintro _ _ ⟨_, ⟨p24, n25, c26, C27, p28, n29, c30, C31, rfl, rfl, hnn25, o27, hnn29, o31⟩, rfl⟩
    obtain rfl := hnn25
    obtain rfl := hnn29
    refine oD (mv rfl) rfl (oD (stp_extract rfl rfl) rfl (oD (stp_extract rfl rfl) rfl (oE (stpU_alloc 9 tz26 rfl) rfl ?_)))
    rintro _ _ ⟨b32, rfl, rfl⟩
    refine oF (stpU_store (id := 9) (cs' := [.slice p24 ((x23.1.b).length) c26, .slice p28 ((x23.1.f).length) c30]) ts26 rfl rfl rfl rfl rfl rfl rfl) ?_
    rintro _ _ rfl
    obtain ⟨x33, e33, H0⟩ := bind_some H0
    refine oD (sg rfl) rfl (nn (cw_seq (sr (oD (stp_loadN (us := [_, _]) ts26 rfl (Cells.box (id := 6) rfl 2 rfl)) rfl (oD (stp_loadN (us := [_, _]) ts26 rfl (Cells.box (id := 9) rfl 2 rfl)) rfl (oE (stpU_call (fun i => 10 + i) cf10 (fun w hw => c_i_TableSame fl w x13.1 p14 ((x13.1.b).length) c16 p18 ((x13.1.f).length) c20 x23.1 p24 ((x23.1.b).length) c26 p28 ((x23.1.f).length) c30 rfl (OwnC.pass (id := 4) rfl o17 hw) rfl (OwnC.pass (id := 5) rfl o21 hw) rfl (OwnC.pass (id := 7) rfl o27 hw) rfl (OwnC.pass (id := 8) rfl o31 hw) x33 e33) (sevs_cons rfl (sevs_cons rfl sevs_nil))) rfl ?_))))))
    rintro _ _ ⟨_, ⟨rfl, rfl⟩, rfl⟩
    obtain ⟨y34, ey34, H0⟩ := bind_some H0
    refine oD (stp_not rfl) rfl (oD (mv rfl) rfl (ow_cutY 4 59 y34 ?_ ?_))
    · rcases Bool.eq_false_or_eq_true (!x33) with hy34 | hy34
      · have ey34 := cond_t ey34 hy34
        refine oO rfl hy34 rfl (oO rfl hy34 rfl (oO rfl hy34 rfl (oD (stp_pick_t rfl hy34 rfl) rfl ?_)))
        obtain rfl := Option.some.inj ey34
        exact ow_nil (jy 4 0)
      · have ey34 := cond_f ey34 hy34
        refine oG rfl hy34 (mv rfl) rfl (oG rfl hy34 (mv rfl) rfl (oG rfl hy34 (stp_neqB Tryd.underlying4 rfl rfl) rfl (oD (stp_pick_f rfl hy34 rfl) rfl ?_)))
        obtain rfl := Option.some.inj ey34
        exact ow_nil (jy 4 0)
    · obtain ⟨y35, ey35, H0⟩ := bind_some H0
      refine oD (mv rfl) rfl (ow_cutY 3 63 y35 ?_ ?_)
      · rcases Bool.eq_false_or_eq_true y34 with hy35 | hy35
        · have ey35 := cond_t ey35 hy35
          refine oO rfl hy35 rfl (oO rfl hy35 rfl (oD (stp_pick_t rfl hy35 rfl) rfl ?_))
          obtain rfl := Option.some.inj ey35
          exact ow_nil (jy 3 0)
        · have ey35 := cond_f ey35 hy35
          refine oG rfl hy35 (mv rfl) rfl (oG rfl hy35 (stp_not rfl) rfl (oD (stp_pick_f rfl hy35 rfl) rfl ?_))
          obtain rfl := Option.some.inj ey35
          exact ow_nil (jy 3 0)
      · refine ow_nil (kw_nx (cw_cond rfl (fun h36 => ?_) (fun h36 => ?_)))
        · have H0 := cond_t H0 h36
          refine sr (oD (stp_loadN (us := [_, _]) ts26 rfl (Cells.box (id := 6) rfl 2 rfl)) rfl (oD (stp_loadN (us := [_, _]) ts26 rfl (Cells.box (id := 9) rfl 2 rfl)) rfl (oE (stpU_call (fun i => 10 + i) cf10 (fun w hw => c_i_TableSame fl w x13.1 p14 ((x13.1.b).length) c16 p18 ((x13.1.f).length) c20 x23.1 p24 ((x23.1.b).length) c26 p28 ((x23.1.f).length) c30 rfl (OwnC.pass (id := 4) rfl o17 hw) rfl (OwnC.pass (id := 5) rfl o21 hw) rfl (OwnC.pass (id := 7) rfl o27 hw) rfl (OwnC.pass (id := 8) rfl o31 hw) x33 e33) (sevs_cons rfl (sevs_cons rfl sevs_nil))) rfl ?_)))
          rintro _ _ ⟨_, ⟨rfl, rfl⟩, rfl⟩
          obtain ⟨y37, ey37, H0⟩ := bind_some H0
          refine oD (mv rfl) rfl (ow_cutY 4 71 y37 ?_ ?_)
          · rcases Bool.eq_false_or_eq_true x33 with hy37 | hy37
            · have ey37 := cond_t ey37 hy37
              refine oG rfl hy37 (mv rfl) rfl (oG rfl hy37 (mv rfl) rfl (oG rfl hy37 (stp_eqlB Tryd.underlying4 rfl rfl) rfl (oD (stp_pick_t rfl hy37 rfl) rfl ?_)))
              obtain rfl := Option.some.inj ey37
              exact ow_nil (jy 4 0)
            · have ey37 := cond_f ey37 hy37
              refine oO rfl hy37 rfl (oO rfl hy37 rfl (oO rfl hy37 rfl (oD (stp_pick_f rfl hy37 rfl) rfl ?_)))
              obtain rfl := Option.some.inj ey37
              exact ow_nil (jy 4 0)
          · refine oD (sg rfl) rfl (nn (cw_ret (kw_nx_ret ?_)))
            have q0 := Option.some.inj H0
            subst q0
            exact kw_ret Tryd.results3 (.cons (.tmp rfl) .nil) [] [] trivial (by decide) ⟨rfl, rfl⟩
        · have H0 := cond_f H0 h36
          refine cw_skip (kw_nx (sr (oD (stp_build (cs := #[.int .i64 9, .int .i64 9]) (sevp_cons rfl (sevp_cons rfl sevp_nil)) bt28_2) rfl (oE (stpU_alloc 10 tz28 rfl) rfl ?_))))
          rintro _ _ ⟨b38, rfl, rfl⟩
          refine oF (stpU_store (id := 10) (cs' := [.int .i64 9, .int .i64 9]) ts28 rfl rfl rfl rfl rfl rfl rfl) ?_
          rintro _ _ rfl
          obtain ⟨o0_0, eo0_0, H0⟩ := bind_some H0
          refine nn (cw_seq (sr (oD (sg rfl) rfl (nn (cw_join (ι := Int) (fun | v39 => o0_0 = .out v39) (fun | v39 => [(3, .pointer (some ⟨b11, 0, none⟩)), (4, .pointer (some ⟨b12, 0, none⟩)), (5, .int .i64 x2.2.2.1), (6, .int .i64 x2.2.2.2), (7, .pointer (some ⟨b22, 0, none⟩)), (11, .pointer (some ⟨b38, 0, none⟩)), (12, .int .i64 v39)]) (fun | v39 => [(0, C6), (1, C10), (2, [(b11, .cells #[.slice p3 ((x2.1.b).length) c5, .slice p7 ((x2.1.f).length) c9] 26 (0, 0))]), (3, [(b12, .cells #[.int .i64 x2.2.1.s, .int .i64 x2.2.1.p] 28 (0, 0))]), (4, C17), (5, C21), (6, [(b22, .cells #[.slice p14 ((x13.1.b).length) c16, .slice p18 ((x13.1.f).length) c20] 26 (0, 0))]), (10, [(b38, .cells #[.int .i64 9, .int .i64 9] 28 (0, 0))])]) ?_ ?_)))))
          · refine cw_block (cw_loopS (ι := Nat × Int) (js := [0, 1, 2, 3, 4, 5, 6, 10]) (fun x => x.1) (fun | (fuel, v39) => l_FnMapOrder_L0 fl x2 x13 fuel v39 = some o0_0) (fun | (_, v39) => [(3, .pointer (some ⟨b11, 0, none⟩)), (4, .pointer (some ⟨b12, 0, none⟩)), (5, .int .i64 x2.2.2.1), (6, .int .i64 x2.2.2.2), (7, .pointer (some ⟨b22, 0, none⟩)), (11, .pointer (some ⟨b38, 0, none⟩)), (12, .int .i64 v39)]) (fun | (_, v39) => [(0, C6), (1, C10), (2, [(b11, .cells #[.slice p3 ((x2.1.b).length) c5, .slice p7 ((x2.1.f).length) c9] 26 (0, 0))]), (3, [(b12, .cells #[.int .i64 x2.2.1.s, .int .i64 x2.2.1.p] 28 (0, 0))]), (4, C17), (5, C21), (6, [(b22, .cells #[.slice p14 ((x13.1.b).length) c16, .slice p18 ((x13.1.f).length) c20] 26 (0, 0))]), (10, [(b38, .cells #[.int .i64 9, .int .i64 9] 28 (0, 0))])]) (fl, 0) eo0_0 ⟨rfl, rfl, rfl, rfl, rfl, rfl, rfl, trivial⟩ ⟨0, [1, 2, 3, 4, 5, 6, 10], rfl, rfl, 1, [2, 3, 4, 5, 6, 10], rfl, rfl, 2, [3, 4, 5, 6, 10], rfl, rfl, 3, [4, 5, 6, 10], rfl, rfl, 4, [5, 6, 10], rfl, rfl, 5, [6, 10], rfl, rfl, 6, [10], rfl, rfl, 10, [], rfl, rfl, trivial⟩ (by decide) ?_)
            rintro ⟨fuel, v39⟩ H1
            have H1 : l_FnMapOrder_L0 fl x2 x13 fuel v39 = some o0_0 := H1
            rcases fuel with _ | fuel
            · rw [l_FnMapOrder_L0.eq_1] at H1; cases H1
            rw [l_FnMapOrder_L0.eq_2] at H1
            refine CW.sub (s' := [(3, .pointer (some ⟨b11, 0, none⟩)), (4, .pointer (some ⟨b12, 0, none⟩)), (5, .int .i64 x2.2.2.1), (6, .int .i64 x2.2.2.2), (7, .pointer (some ⟨b22, 0, none⟩)), (11, .pointer (some ⟨b38, 0, none⟩)), (12, .int .i64 v39)]) (h' := [(0, C6), (1, C10), (2, [(b11, .cells #[.slice p3 ((x2.1.b).length) c5, .slice p7 ((x2.1.f).length) c9] 26 (0, 0))]), (3, [(b12, .cells #[.int .i64 x2.2.1.s, .int .i64 x2.2.1.p] 28 (0, 0))]), (4, C17), (5, C21), (6, [(b22, .cells #[.slice p14 ((x13.1.b).length) c16, .slice p18 ((x13.1.f).length) c20] 26 (0, 0))]), (10, [(b38, .cells #[.int .i64 9, .int .i64 9] 28 (0, 0))])]) ?_ ⟨rfl, rfl, rfl, rfl, rfl, rfl, rfl, trivial⟩ ⟨rfl, rfl, rfl, rfl, rfl, rfl, rfl, rfl, trivial⟩
            refine cw_seq (sr (oD (mv rfl) rfl (oD (fA 1 Tryd.underlying26 rfl ts24 rfl rfl rfl) rfl (oD (lB 6 ts24 rfl rfl rfl) rfl (oD (stp_len Tryd.underlying24 rfl) rfl (oD (stp_lss rfl rfl) rfl (nn (cw_cond rfl (fun h40 => ?_) (fun h40 => ?_)))))))))
            · have H1 := cond_t H1 h40
              obtain ⟨x41, e41, H1⟩ := bind_some H1
              refine cw_skip (kw_nx (cw_seq (cw_block (sr (oD (stp_loadN (us := [_, _]) ts26 rfl (Cells.box (id := 6) rfl 2 rfl)) rfl (oD (stp_loadN (us := [_, _]) ts28 rfl (Cells.box (id := 10) rfl 2 rfl)) rfl (oD (mv rfl) rfl (oE (stpU_call (fun i => 11 + i) cf8 (fun w hw => c_i_MapPage fl w x13.1 p14 ((x13.1.b).length) c16 p18 ((x13.1.f).length) c20 (⟨9, 9⟩ : K) v39 1 rfl (OwnC.pass (id := 4) rfl o17 hw) rfl (OwnC.pass (id := 5) rfl o21 hw) (RO.pass hg hw) x41 e41) (sevs_cons rfl (sevs_cons rfl (sevs_cons rfl (sevs_cons rfl sevs_nil))))) rfl ?_))))))))
              rintro _ _ ⟨_, ⟨p42, n43, c44, C45, p46, n47, c48, C49, rfl, rfl, hnn43, o45, hnn47, o49⟩, rfl⟩
              obtain rfl := hnn43
              obtain rfl := hnn47
              refine oD (mv rfl) rfl (oD (stp_extract rfl rfl) rfl (oD (stp_extract rfl rfl) rfl (oE (stpU_alloc 13 tz26 rfl) rfl ?_)))
              rintro _ _ ⟨b50, rfl, rfl⟩
              refine oF (stpU_store (id := 13) (cs' := [.slice p42 ((x41.1.b).length) c44, .slice p46 ((x41.1.f).length) c48]) ts26 rfl rfl rfl rfl rfl rfl rfl) ?_
              rintro _ _ rfl
              refine oD (sg rfl) rfl (nn (cw_seq (sr (oD (mv rfl) rfl (oD (stp_not rfl) rfl (nn (cw_cond rfl (fun h51 => ?_) (fun h51 => ?_))))))))
              · have H1 := cond_t H1 h51
                obtain ⟨x52, e52, H1⟩ := bind_some H1
                exact cw_exit (kw_nx_exit (kw_bl (kw_nx (cw_region (oD (mv rfl) rfl (oD (stp_add rfl rfl e52) rfl (oD (sg rfl) rfl (ow_nil (kw_lqS (js := [0, 1, 2, 3, 4, 5, 6, 10]) (fuel, x52) H1 (Nat.lt_succ_self _) ⟨rfl, rfl, rfl, rfl, rfl, rfl, rfl, trivial⟩ ⟨0, [1, 2, 3, 4, 5, 6, 10], rfl, rfl, 1, [2, 3, 4, 5, 6, 10], rfl, rfl, 2, [3, 4, 5, 6, 10], rfl, rfl, 3, [4, 5, 6, 10], rfl, rfl, 4, [5, 6, 10], rfl, rfl, 5, [6, 10], rfl, rfl, 6, [10], rfl, rfl, 10, [], rfl, rfl, trivial⟩ (by decide))))))))))
              · have H1 := cond_f H1 h51
                obtain ⟨x53, e53, H1⟩ := bind_some H1
                refine cw_skip (kw_nx (sr (oD (stp_loadN (us := [_, _]) ts26 rfl (Cells.box (id := 2) rfl 2 rfl)) rfl (oD (stp_loadN (us := [_, _]) ts28 rfl (Cells.box (id := 10) rfl 2 rfl)) rfl (oD (mv rfl) rfl (oE (stpU_call (fun i => 14 + i) cf8 (fun w hw => c_i_MapPage fl w x2.1 p3 ((x2.1.b).length) c5 p7 ((x2.1.f).length) c9 (⟨9, 9⟩ : K) v39 1 rfl (OwnC.pass (id := 0) rfl o6 hw) rfl (OwnC.pass (id := 1) rfl o10 hw) (RO.pass hg hw) x53 e53) (sevs_cons rfl (sevs_cons rfl (sevs_cons rfl (sevs_cons rfl sevs_nil))))) rfl ?_))))))
                rintro _ _ ⟨_, ⟨p54, n55, c56, C57, p58, n59, c60, C61, rfl, rfl, hnn55, o57, hnn59, o61⟩, rfl⟩
                obtain rfl := hnn55
                obtain rfl := hnn59
                refine oD (mv rfl) rfl (oD (stp_extract rfl rfl) rfl (oD (stp_extract rfl rfl) rfl (oE (stpU_alloc 16 tz26 rfl) rfl ?_)))
                rintro _ _ ⟨b62, rfl, rfl⟩
                refine oF (stpU_store (id := 16) (cs' := [.slice p54 ((x53.1.b).length) c56, .slice p58 ((x53.1.f).length) c60]) ts26 rfl rfl rfl rfl rfl rfl rfl) ?_
                rintro _ _ rfl
                obtain ⟨x63, e63, H1⟩ := bind_some H1
                refine oD (sg rfl) rfl (nn (sr (oD (stp_loadN (us := [_, _]) ts26 rfl (Cells.box (id := 16) rfl 2 rfl)) rfl (oD (stp_loadN (us := [_, _]) ts28 rfl (Cells.box (id := 3) rfl 2 rfl)) rfl (oD (mv rfl) rfl (oD (mv rfl) rfl (oE (stpU_call (fun i => 17 + i) cf8 (fun w hw => c_i_MapPage fl w x53.1 p54 ((x53.1.b).length) c56 p58 ((x53.1.f).length) c60 x2.2.1 x2.2.2.1 x2.2.2.2 rfl (OwnC.pass (id := 14) rfl o57 hw) rfl (OwnC.pass (id := 15) rfl o61 hw) (RO.pass hg hw) x63 e63) (sevs_cons rfl (sevs_cons rfl (sevs_cons rfl (sevs_cons rfl sevs_nil))))) rfl ?_)))))))
                rintro _ _ ⟨_, ⟨p64, n65, c66, C67, p68, n69, c70, C71, rfl, rfl, hnn65, o67, hnn69, o71⟩, rfl⟩
                obtain rfl := hnn65
                obtain rfl := hnn69
                refine oD (mv rfl) rfl (oD (stp_extract rfl rfl) rfl (oD (stp_extract rfl rfl) rfl (oE (stpU_alloc 19 tz26 rfl) rfl ?_)))
                rintro _ _ ⟨b72, rfl, rfl⟩
                refine oF (stpU_store (id := 19) (cs' := [.slice p64 ((x63.1.b).length) c66, .slice p68 ((x63.1.f).length) c70]) ts26 rfl rfl rfl rfl rfl rfl rfl) ?_
                rintro _ _ rfl
                obtain ⟨x73, e73, H1⟩ := bind_some H1
                refine oD (sg rfl) rfl (nn (sr (oD (stp_loadN (us := [_, _]) ts26 rfl (Cells.box (id := 13) rfl 2 rfl)) rfl (oD (stp_loadN (us := [_, _]) ts28 rfl (Cells.box (id := 10) rfl 2 rfl)) rfl (oE (stpU_call (fun i => 20 + i) cf11 (fun w hw => c_i_FindPage fl w x41.1 p42 ((x41.1.b).length) c44 p46 ((x41.1.f).length) c48 (⟨9, 9⟩ : K) rfl (OwnC.pass (id := 11) rfl o45 hw) rfl (OwnC.pass (id := 12) rfl o49 hw) (RO.pass hg hw) x73 e73) (sevs_cons rfl (sevs_cons rfl sevs_nil))) rfl ?_)))))
                rintro _ _ ⟨_, ⟨rfl, rfl⟩, rfl⟩
                obtain ⟨x74, e74, H1⟩ := bind_some H1
                refine oD (mv rfl) rfl (oD (stp_extract rfl rfl) rfl (oD (stp_extract rfl rfl) rfl (oD (stp_extract rfl rfl) rfl (oD (sg rfl) rfl (oD (sg rfl) rfl (oD (sg rfl) rfl (nn (sr (oD (stp_loadN (us := [_, _]) ts26 rfl (Cells.box (id := 19) rfl 2 rfl)) rfl (oD (stp_loadN (us := [_, _]) ts28 rfl (Cells.box (id := 10) rfl 2 rfl)) rfl (oE (stpU_call (fun i => 20 + i) cf11 (fun w hw => c_i_FindPage fl w x63.1 p64 ((x63.1.b).length) c66 p68 ((x63.1.f).length) c70 (⟨9, 9⟩ : K) rfl (OwnC.pass (id := 17) rfl o67 hw) rfl (OwnC.pass (id := 18) rfl o71 hw) (RO.pass hg hw) x74 e74) (sevs_cons rfl (sevs_cons rfl sevs_nil))) rfl ?_)))))))))))
                rintro _ _ ⟨_, ⟨rfl, rfl⟩, rfl⟩
                obtain ⟨y75, ey75, H1⟩ := bind_some H1
                obtain ⟨y76, ey76, H1⟩ := bind_some H1
                obtain ⟨y77, ey77, H1⟩ := bind_some H1
                refine oD (mv rfl) rfl (oD (stp_extract rfl rfl) rfl (oD (stp_extract rfl rfl) rfl (oD (stp_extract rfl rfl) rfl (oD (sg rfl) rfl (oD (sg rfl) rfl (oD (sg rfl) rfl (nn (cw_seq (cw_join (ι := Unit) (fun | _ => True) (fun | _ => [(2, .bool y77)]) (fun | _ => []) ?_ ?_)))))))))
                · rcases Bool.eq_false_or_eq_true x53.2 with hy75 | hy75
                  · have ey75 := cond_t ey75 hy75
                    have qy75 := Option.some.inj ey75
                    rcases Bool.eq_false_or_eq_true y75 with hy76 | hy76
                    · have ey76 := cond_t ey76 hy76
                      have qy76 := Option.some.inj ey76
                      rcases Bool.eq_false_or_eq_true y76 with hy77 | hy77
                      · have ey77 := cond_t ey77 hy77
                        obtain ⟨x78, e78, ey77⟩ := bind_some ey77
                        obtain ⟨x83, e83, ey77⟩ := bind_some ey77
                        obtain ⟨x88, e88, ey77⟩ := bind_some ey77
                        have qy77 := Option.some.inj ey77
                        refine rdr g_mixed [13, 16, 17, 18, 19, 22] [11, 12, 13, 17, 18, 19] { dst := dS [119, 120, 121, 122, 123, 124, 125, 126, 127, 128, 129, 130, 131, 132, 133, 134, 3], pre := gA [] [[], [0], [0, 1], [0, 1, 2], rn 0 4, rn 0 5, rn 0 5, rn 0 7, rn 0 8, rn 0 9, rn 0 10, rn 0 11, rn 0 10, rn 0 13, rn 0 14, rn 0 15, rn 0 16], ids := fun i => match i with | 11 => [20] | 13 => [21] | _ => [], rs := rL [[(16, 0)], [(118, 1)], [(18, 0), (119, 2)], [(119, 2), (120, 3)], [(121, 4)], [(19, 0), (122, 5)], [(22, 0), (122, 5)], [(123, 6), (124, 7), (122, 5)], [(122, 5), (125, 8)], [(126, 9)], [(13, 0), (127, 10)], [(128, 11), (127, 10)], [(17, 0), (127, 10)], [(130, 13), (127, 10)], [(129, 12), (131, 14), (127, 10)], [(127, 10), (132, 15)], [(133, 16)]], rh := rL [[], [], [], [], [], [], [], [], [], [], [(13, 0)], [(11, 0), (12, 0)], [(19, 0)], [(17, 0), (18, 0)], [(20, 12), (21, 14)]], V := fun i g => gA undef [.bool x53.2, .bool x53.2, .bool x63.2, .bool y75, .bool y75, .int .i64 x73.1, .int .i64 x74.1, .bool (x73.1 == x74.1), .bool y76, .bool y76, .agg #[.slice p42 ((x41.1.b).length) c44, .slice p46 ((x41.1.f).length) c48], .slice ((g 11).A 0) ((x78).length) ((g 11).C 0), .agg #[.slice p64 ((x63.1.b).length) c66, .slice p68 ((x63.1.f).length) c70], .slice ((g 13).A 0) ((x83).length) ((g 13).C 0), .bool x88, .bool y77, .bool y77] i, U := fun i g => match i with | 11 => [(20, ((g 11).R 0))] | 13 => [(21, ((g 13).R 0))] | _ => [], Φ := fun i x => match i with | 11 => OwnC (α := K) 28 (x.A 0) (x.C 0) x78 (x.R 0) | 13 => OwnC (α := K) 28 (x.A 0) (x.C 0) x83 (x.R 0) | _ => True } ?_ ?_
                        · refine ⟨⟨⟨⟨⟨⟨⟨⟨⟨⟨⟨⟨⟨⟨⟨⟨⟨trivial, lc rfl rfl fun hs hh => stp_move (sv hs 16 rfl)⟩, lc rfl rfl fun hs hh => stp_move (sv hs 118 rfl)⟩, lg rfl rfl 119 hy75 fun hs hh => stp_move (sv hs 18 rfl)⟩, lc rfl rfl fun hs hh => stp_pick_tB (sv hs 119 rfl) hy75 (sv hs 120 rfl) qy75⟩, lc rfl rfl fun hs hh => stp_move (sv hs 121 rfl)⟩, lg rfl rfl 122 hy76 fun hs hh => stp_move (sv hs 19 rfl)⟩, lg rfl rfl 122 hy76 fun hs hh => stp_move (sv hs 22 rfl)⟩, lg rfl rfl 122 hy76 fun hs hh => stp_eql (sv hs 123 rfl) (sv hs 124 rfl)⟩, lc rfl rfl fun hs hh => stp_pick_tB (sv hs 122 rfl) hy76 (sv hs 125 rfl) qy76⟩, lc rfl rfl fun hs hh => stp_move (sv hs 126 rfl)⟩, lg rfl rfl 127 hy77 fun hs hh => stp_loadN (us := [_, _]) ts26 (sv hs 13 rfl) (Cells.box (id := 13) (hh.get 13 _ rfl) 2 rfl)⟩, ?_⟩, lg rfl rfl 127 hy77 fun hs hh => stp_loadN (us := [_, _]) ts26 (sv hs 17 rfl) (Cells.box (id := 19) (hh.get 19 _ rfl) 2 rfl)⟩, ?_⟩, ?_⟩, lc rfl rfl fun hs hh => stp_pick_tB (sv hs 127 rfl) hy77 (sv hs 132 rfl) qy77⟩, lc rfl rfl fun hs hh => stp_assign (sv hs 133 rfl)⟩
                          · refine loc_eff rfl rfl (fun g hΦ s h hs hh => ⟨(.some (gval_of rfl (sv hs 127 rfl)) hy77), (stpU_call (fun i => 20 + i) cf13 (fun w hw => c_i_KeysOf fl w x41.1 p42 ((x41.1.b).length) c44 p46 ((x41.1.f).length) c48 rfl (OwnC.pass (id := 11) (hh.get 11 _ rfl) o45 hw) rfl (OwnC.pass (id := 12) (hh.get 12 _ rfl) o49 hw) (RO.pass hg hw) x78 e78) (sevs_cons (sv hs 128 rfl) sevs_nil))⟩) ?_
                            rintro g _ _ ⟨_, ⟨p79, n80, c81, C82, rfl, rfl, hnn80, o82⟩, rfl⟩
                            obtain rfl := hnn80
                            exact ⟨⟨[p79], [c81], [C82]⟩, o82, .inr rfl, rfl⟩
                          · refine loc_eff rfl rfl (fun g hΦ s h hs hh => ⟨(.some (gval_of rfl (sv hs 127 rfl)) hy77), (stpU_call (fun i => 21 + i) cf13 (fun w hw => c_i_KeysOf fl w x63.1 p64 ((x63.1.b).length) c66 p68 ((x63.1.f).length) c70 rfl (OwnC.pass (id := 17) (hh.get 17 _ rfl) o67 hw) rfl (OwnC.pass (id := 18) (hh.get 18 _ rfl) o71 hw) (RO.pass hg hw) x83 e83) (sevs_cons (sv hs 130 rfl) sevs_nil))⟩) ?_
                            rintro g _ _ ⟨_, ⟨p84, n85, c86, C87, rfl, rfl, hnn85, o87⟩, rfl⟩
                            obtain rfl := hnn85
                            exact ⟨⟨[p84], [c86], [C87]⟩, o87, .inr rfl, rfl⟩
                          · refine loc_eff rfl rfl (fun g hΦ s h hs hh => ⟨(.some (gval_of rfl (sv hs 127 rfl)) hy77), (stpU_call (fun i => 22 + i) cf12 (fun w hw => c_l_ipKeys fl w x78 ((g 11).A 0) ((x78).length) ((g 11).C 0) x83 ((g 13).A 0) ((x83).length) ((g 13).C 0) rfl (OwnC.pass (id := 20) (hh.get 20 _ rfl) (hΦ 11 rfl) hw) rfl (OwnC.pass (id := 21) (hh.get 21 _ rfl) (hΦ 13 rfl) hw) x88 e88) (sevs_cons (sv hs 129 rfl) (sevs_cons (sv hs 131 rfl) sevs_nil)))⟩) ?_
                            rintro g _ _ ⟨_, ⟨rfl, rfl⟩, rfl⟩
                            exact ⟨⟨[], [], []⟩, trivial, .inr rfl, rfl⟩
                        · intro g hΦ
                          exact kw_join () trivial ⟨rfl, trivial⟩ trivial
                      · have ey77 := cond_f ey77 hy77
                        have qy77 := Option.some.inj ey77
                        refine rdr g_mixed [16, 18, 19, 22] [] { dst := dS [119, 120, 121, 122, 123, 124, 125, 126, 127, 128, 129, 130, 131, 132, 133, 134, 3], pre := gA [] [[], [0], [0, 1], [0, 1, 2], rn 0 4, rn 0 5, rn 0 5, rn 0 7, rn 0 8, rn 0 9, rn 0 10, rn 0 11, rn 0 10, rn 0 13, rn 0 14, rn 0 15, rn 0 16], ids := fun _ => [], rs := rL [[(16, 0)], [(118, 1)], [(18, 0), (119, 2)], [(119, 2), (120, 3)], [(121, 4)], [(19, 0), (122, 5)], [(22, 0), (122, 5)], [(123, 6), (124, 7), (122, 5)], [(122, 5), (125, 8)], [(126, 9)], [(127, 10)], [(127, 10)], [(127, 10)], [(127, 10)], [(127, 10)], [(127, 10), (132, 15)], [(133, 16)]], rh := fun _ => [], V := fun i g => gA undef [.bool x53.2, .bool x53.2, .bool x63.2, .bool y75, .bool y75, .int .i64 x73.1, .int .i64 x74.1, .bool (x73.1 == x74.1), .bool y76, .bool y76, undef, undef, undef, undef, undef, .bool y77, .bool y77] i, U := fun _ _ => [], Φ := fun _ _ => True } ?_ ?_
                        · exact ⟨⟨⟨⟨⟨⟨⟨⟨⟨⟨⟨⟨⟨⟨⟨⟨⟨trivial, lc rfl rfl fun hs hh => stp_move (sv hs 16 rfl)⟩, lc rfl rfl fun hs hh => stp_move (sv hs 118 rfl)⟩, lg rfl rfl 119 hy75 fun hs hh => stp_move (sv hs 18 rfl)⟩, lc rfl rfl fun hs hh => stp_pick_tB (sv hs 119 rfl) hy75 (sv hs 120 rfl) qy75⟩, lc rfl rfl fun hs hh => stp_move (sv hs 121 rfl)⟩, lg rfl rfl 122 hy76 fun hs hh => stp_move (sv hs 19 rfl)⟩, lg rfl rfl 122 hy76 fun hs hh => stp_move (sv hs 22 rfl)⟩, lg rfl rfl 122 hy76 fun hs hh => stp_eql (sv hs 123 rfl) (sv hs 124 rfl)⟩, lc rfl rfl fun hs hh => stp_pick_tB (sv hs 122 rfl) hy76 (sv hs 125 rfl) qy76⟩, lc rfl rfl fun hs hh => stp_move (sv hs 126 rfl)⟩, lo rfl rfl 127 hy77⟩, lo rfl rfl 127 hy77⟩, lo rfl rfl 127 hy77⟩, lo rfl rfl 127 hy77⟩, lo rfl rfl 127 hy77⟩, lc rfl rfl fun hs hh => stp_pick_fB (sv hs 127 rfl) hy77 rfl qy77⟩, lc rfl rfl fun hs hh => stp_assign (sv hs 133 rfl)⟩
                        · intro g hΦ
                          exact kw_join () trivial ⟨rfl, trivial⟩ trivial
                    · have ey76 := cond_f ey76 hy76
                      have qy76 := Option.some.inj ey76
                      have hy77 : y76 = false := by rw [← qy76]
                      have ey77 := cond_f ey77 hy77
                      have qy77 := Option.some.inj ey77
                      refine rdr g_mixed [16, 18] [] { dst := dS [119, 120, 121, 122, 123, 124, 125, 126, 127, 128, 129, 130, 131, 132, 133, 134, 3], pre := gA [] [[], [0], [0, 1], [0, 1, 2], rn 0 4, rn 0 5, rn 0 5, rn 0 7, rn 0 8, rn 0 9, rn 0 10, rn 0 11, rn 0 10, rn 0 13, rn 0 14, rn 0 15, rn 0 16], ids := fun _ => [], rs := rL [[(16, 0)], [(118, 1)], [(18, 0), (119, 2)], [(119, 2), (120, 3)], [(121, 4)], [(122, 5)], [(122, 5)], [(122, 5)], [(122, 5), (125, 8)], [(126, 9)], [(127, 10)], [(127, 10)], [(127, 10)], [(127, 10)], [(127, 10)], [(127, 10), (132, 15)], [(133, 16)]], rh := fun _ => [], V := fun i g => gA undef [.bool x53.2, .bool x53.2, .bool x63.2, .bool y75, .bool y75, undef, undef, undef, .bool y76, .bool y76, undef, undef, undef, undef, undef, .bool y77, .bool y77] i, U := fun _ _ => [], Φ := fun _ _ => True } ?_ ?_
                      · exact ⟨⟨⟨⟨⟨⟨⟨⟨⟨⟨⟨⟨⟨⟨⟨⟨⟨trivial, lc rfl rfl fun hs hh => stp_move (sv hs 16 rfl)⟩, lc rfl rfl fun hs hh => stp_move (sv hs 118 rfl)⟩, lg rfl rfl 119 hy75 fun hs hh => stp_move (sv hs 18 rfl)⟩, lc rfl rfl fun hs hh => stp_pick_tB (sv hs 119 rfl) hy75 (sv hs 120 rfl) qy75⟩, lc rfl rfl fun hs hh => stp_move (sv hs 121 rfl)⟩, lo rfl rfl 122 hy76⟩, lo rfl rfl 122 hy76⟩, lo rfl rfl 122 hy76⟩, lc rfl rfl fun hs hh => stp_pick_fB (sv hs 122 rfl) hy76 rfl qy76⟩, lc rfl rfl fun hs hh => stp_move (sv hs 126 rfl)⟩, lo rfl rfl 127 hy77⟩, lo rfl rfl 127 hy77⟩, lo rfl rfl 127 hy77⟩, lo rfl rfl 127 hy77⟩, lo rfl rfl 127 hy77⟩, lc rfl rfl fun hs hh => stp_pick_fB (sv hs 127 rfl) hy77 rfl qy77⟩, lc rfl rfl fun hs hh => stp_assign (sv hs 133 rfl)⟩
                      · intro g hΦ
                        exact kw_join () trivial ⟨rfl, trivial⟩ trivial
                  · have ey75 := cond_f ey75 hy75
                    have qy75 := Option.some.inj ey75
                    have hy76 : y75 = false := by rw [← qy75]
                    have ey76 := cond_f ey76 hy76
                    have qy76 := Option.some.inj ey76
                    have hy77 : y76 = false := by rw [← qy76]
                    have ey77 := cond_f ey77 hy77
                    have qy77 := Option.some.inj ey77
                    refine rdr g_mixed [16] [] { dst := dS [119, 120, 121, 122, 123, 124, 125, 126, 127, 128, 129, 130, 131, 132, 133, 134, 3], pre := gA [] [[], [0], [0, 1], [0, 1, 2], rn 0 4, rn 0 5, rn 0 5, rn 0 7, rn 0 8, rn 0 9, rn 0 10, rn 0 11, rn 0 10, rn 0 13, rn 0 14, rn 0 15, rn 0 16], ids := fun _ => [], rs := rL [[(16, 0)], [(118, 1)], [(119, 2)], [(119, 2), (120, 3)], [(121, 4)], [(122, 5)], [(122, 5)], [(122, 5)], [(122, 5), (125, 8)], [(126, 9)], [(127, 10)], [(127, 10)], [(127, 10)], [(127, 10)], [(127, 10)], [(127, 10), (132, 15)], [(133, 16)]], rh := fun _ => [], V := fun i g => gA undef [.bool x53.2, .bool x53.2, undef, .bool y75, .bool y75, undef, undef, undef, .bool y76, .bool y76, undef, undef, undef, undef, undef, .bool y77, .bool y77] i, U := fun _ _ => [], Φ := fun _ _ => True } ?_ ?_
                    · exact ⟨⟨⟨⟨⟨⟨⟨⟨⟨⟨⟨⟨⟨⟨⟨⟨⟨trivial, lc rfl rfl fun hs hh => stp_move (sv hs 16 rfl)⟩, lc rfl rfl fun hs hh => stp_move (sv hs 118 rfl)⟩, lo rfl rfl 119 hy75⟩, lc rfl rfl fun hs hh => stp_pick_fB (sv hs 119 rfl) hy75 rfl qy75⟩, lc rfl rfl fun hs hh => stp_move (sv hs 121 rfl)⟩, lo rfl rfl 122 hy76⟩, lo rfl rfl 122 hy76⟩, lo rfl rfl 122 hy76⟩, lc rfl rfl fun hs hh => stp_pick_fB (sv hs 122 rfl) hy76 rfl qy76⟩, lc rfl rfl fun hs hh => stp_move (sv hs 126 rfl)⟩, lo rfl rfl 127 hy77⟩, lo rfl rfl 127 hy77⟩, lo rfl rfl 127 hy77⟩, lo rfl rfl 127 hy77⟩, lo rfl rfl 127 hy77⟩, lc rfl rfl fun hs hh => stp_pick_fB (sv hs 127 rfl) hy77 rfl qy77⟩, lc rfl rfl fun hs hh => stp_assign (sv hs 133 rfl)⟩
                    · intro g hΦ
                      exact kw_join () trivial ⟨rfl, trivial⟩ trivial
                · rintro _ -
                  refine KW.sub (s' := [(2, .bool y77)]) (h' := []) ?_ ⟨rfl, trivial⟩ trivial
                  refine kw_nx (cw_ret (kw_bl_ret (kw_nx_ret (kw_lq_ret (kw_bl_ret (kw_join_ret (kw_nx_ret ?_)))))))
                  have q1 := Option.some.inj H1
                  subst q1
                  have q0 := Option.some.inj H0
                  subst q0
                  exact kw_ret Tryd.results3 (.cons (.tmp rfl) .nil) [] [] trivial (by decide) ⟨rfl, rfl⟩
            · have H1 := cond_f H1 h40
              refine cw_exit (kw_nx_exit (kw_lq_exit (kw_bl ?_)))
              have q1 := Option.some.inj H1
              subst q1
              exact kw_joinS (js := [0, 1, 2, 3, 4, 5, 6, 10]) v39 rfl ⟨rfl, rfl, rfl, rfl, rfl, rfl, rfl, trivial⟩ ⟨0, [1, 2, 3, 4, 5, 6, 10], rfl, rfl, 1, [2, 3, 4, 5, 6, 10], rfl, rfl, 2, [3, 4, 5, 6, 10], rfl, rfl, 3, [4, 5, 6, 10], rfl, rfl, 4, [5, 6, 10], rfl, rfl, 5, [6, 10], rfl, rfl, 6, [10], rfl, rfl, 10, [], rfl, rfl, trivial⟩ (by decide)
          · rintro v39 rfl
            refine KW.sub (s' := [(3, .pointer (some ⟨b11, 0, none⟩)), (4, .pointer (some ⟨b12, 0, none⟩)), (5, .int .i64 x2.2.2.1), (6, .int .i64 x2.2.2.2), (7, .pointer (some ⟨b22, 0, none⟩)), (11, .pointer (some ⟨b38, 0, none⟩)), (12, .int .i64 v39)]) (h' := [(0, C6), (1, C10), (2, [(b11, .cells #[.slice p3 ((x2.1.b).length) c5, .slice p7 ((x2.1.f).length) c9] 26 (0, 0))]), (3, [(b12, .cells #[.int .i64 x2.2.1.s, .int .i64 x2.2.1.p] 28 (0, 0))]), (4, C17), (5, C21), (6, [(b22, .cells #[.slice p14 ((x13.1.b).length) c16, .slice p18 ((x13.1.f).length) c20] 26 (0, 0))]), (10, [(b38, .cells #[.int .i64 9, .int .i64 9] 28 (0, 0))])]) ?_ ⟨rfl, rfl, rfl, rfl, rfl, rfl, rfl, trivial⟩ ⟨rfl, rfl, rfl, rfl, rfl, rfl, rfl, rfl, trivial⟩
            refine kw_nx (sr (oD (sg rfl) rfl (nn (cw_ret ?_))))
            have q0 := Option.some.inj H0
            subst q0
            exact kw_ret Tryd.results3 (.cons (.tmp rfl) .nil) [] [] trivial (by decide) ⟨rfl, rfl⟩
end Go.Proofs.YtbhpohopfbcfgaaDoor
