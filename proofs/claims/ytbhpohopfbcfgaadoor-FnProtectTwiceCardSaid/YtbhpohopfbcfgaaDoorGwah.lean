/- The walks: functions of the program return what their pure functions say. Printed by a program (gen.py). -/
import Derived.Test.YtbhpohopfbcfgaaDoorGp
import Derived.Test.YtbhpohopfbcfgaaDoorGt
import Derived.Test.YtbhpohopfbcfgaaDoorMan
import Derived.Test.YtbhpohopfbcfgaaDoorMap
import Derived.Test.YtbhpohopfbcfgaaDoorCpy
import Derived.Test.YtbhpohopfbcfgaaDoorBits
import Derived.Test.YtbhpohopfbcfgaaDoorGwaa
import Derived.Test.YtbhpohopfbcfgaaDoorGwab
import Derived.Test.YtbhpohopfbcfgaaDoorGwad
import Derived.Test.YtbhpohopfbcfgaaDoorGwag
import Derived.Test.YtbhpohopfbcfgaaDoorGws
set_option linter.unusedSimpArgs false
set_option linter.unusedVariables false
set_option linter.unusedSectionVars false
namespace Go.Proofs.YtbhpohopfbcfgaaDoor
open Go.RowKit
set_option maxHeartbeats 4000000 in
set_option maxRecDepth 20000 in
theorem c_s_DrawProtectPage (fl : Nat) (w : World) (a0 : (List UInt8)) (p0_0 : Option Addr) (n0_0 c0_0 : Nat) (hn0_0 : n0_0 = (a0).length) (hr0_0 : RO w (hkeys []) (RdL p0_0 c0_0 a0)) (r : T × K × Int) (H0 : s_DrawProtectPage fl a0 = some r) :
    Ct Tryd.prog 14 [.slice p0_0 n0_0 c0_0] w [] (fun rv h' => ∃ (x0 : Option Addr) (y0 z0 : Nat) (C0 : Res) (x1 : Option Addr) (y1 z1 : Nat) (C1 : Res), rv = .tuple #[.agg #[.slice x0 y0 z0, .slice x1 y1 z1], .agg #[.int .i64 r.2.1.s, .int .i64 r.2.1.p], .int .i64 r.2.2] ∧ h' = [(0, C0), (1, C1)] ∧ y0 = (r.1.b).length ∧ OwnC 3 x0 z0 r.1.b C0 ∧ y1 = (r.1.f).length ∧ OwnC 58 x1 z1 r.1.f C1) := by
  obtain rfl := hn0_0
  unfold s_DrawProtectPage at H0
  refine ct_of_cw Tryd.func14 rfl Tryd.ntmps14 rfl (Sat.refl _ _) ?_
  refine sr (oE (stpU_alloc 0 tz26 rfl) rfl ?_)
  rintro _ _ ⟨b1, rfl, rfl⟩
  refine oE (stpU_alloc 1 tz28 rfl) rfl ?_
  rintro _ _ ⟨b2, rfl, rfl⟩
  refine oD (sg rfl) rfl (nn (sr (oD (mv rfl) rfl (oE (stpU_call (fun i => 2 + i) cf22 (fun w hw => c_open22 w a0 p0_0 ((a0).length) c0_0 rfl (RO.cap hr0_0).1) (sevs_cons rfl sevs_nil)) rfl ?_))))
  rintro _ _ ⟨_, ⟨b3, rfl, rfl⟩, rfl⟩
  obtain ⟨x4, e4, H0⟩ := bind_some H0
  refine oD (sg rfl) rfl (nn (sr (oD (mv rfl) rfl (oE (stpU_callM (fun i => bif Nat.beq i 0 then 2 else 3 + i) cf46 (fun w hw hb => c_s_l3At fl w b3 (a0.take 2000) p0_0 (((a0.take 2000)).length) c0_0 0 rfl (RO.passM (RO.takeN 2000 hr0_0) hw hb) (hw.pass (js := [2]) ⟨2, [], rfl, rfl, trivial⟩ (by decide)) x4 e4) (sevs_cons rfl sevs_nil) ⟨rfl, (fun _ _ hp => by obtain ⟨_, _, _, _, _, _, _, _, _, rfl, _⟩ := hp; exact ⟨_, rfl⟩), trivial⟩) rfl ?_))))
  rintro _ _ ⟨_, ⟨p5, n6, c7, C8, p9, n10, c11, C12, rfl, rfl, hnn6, o8, hnn10, o12⟩, rfl⟩
  obtain rfl := hnn6
  obtain rfl := hnn10
  refine oD (mv rfl) rfl (oD (stp_extract rfl rfl) rfl (oD (stp_extract rfl rfl) rfl (oE (stpU_alloc 6 tz26 rfl) rfl ?_)))
  rintro _ _ ⟨b13, rfl, rfl⟩
  refine oE (stpU_alloc 7 tz28 rfl) rfl ?_
  rintro _ _ ⟨b14, rfl, rfl⟩
  refine oF (stpU_store (id := 6) (cs' := [.slice p5 ((x4.1.b).length) c7, .slice p9 ((x4.1.f).length) c11]) ts26 rfl rfl rfl rfl rfl rfl rfl) ?_
  rintro _ _ rfl
  refine oF (stpU_store (id := 7) (cs' := [.int .i64 x4.2.1.s, .int .i64 x4.2.1.p]) ts28 rfl rfl rfl rfl rfl rfl rfl) ?_
  rintro _ _ rfl
  obtain ⟨x17, e17, H0⟩ := bind_some H0
  refine nn (cw_seq (rdr g_mixed [2, 3, 5, 6, 7] [0, 1, 2, 6, 7] { dst := dS [16, 17, 18, 19, 20, 0, 0, 5], pre := gA [] [[], [], [], [], [2, 3], [0, 2, 3, 4], rn 0 6, rn 0 7], ids := gA [] [[], [], [], [8], [2], [0], [1]], rs := rL [[(6, 0)], [(7, 0)], [(5, 0)], [], [(17, 3), (18, 4)], [(2, 0), (15, 1)], [(3, 0), (16, 2)], [(19, 5)]], rh := rL [[(6, 0)], [(7, 0)], [], [], [(2, 0), (8, 4)], [(0, 0)], [(1, 0)]], V := fun i g => gA undef [.agg #[.slice p5 ((x4.1.b).length) c7, .slice p9 ((x4.1.f).length) c11], .agg #[.int .i64 x4.2.1.s, .int .i64 x4.2.1.p], .pointer (some ⟨b3, 0, none⟩), .slice ((g 3).A 0) 5 5, .int .i64 x17.1, undef, undef, .int .i64 x17.1] i, U := fun i g => gA [] [[], [], [], [(8, ((g 3).R 0))], [(2, [(b3, .cells #[.slice p0_0 (((a0.take 2000)).length) c0_0, .int .i64 x17.2] 81 (0, 0))])], [(0, [(b1, .cells #[.slice p5 ((x4.1.b).length) c7, .slice p9 ((x4.1.f).length) c11] 26 (0, 0))])], [(1, [(b2, .cells #[.int .i64 x4.2.1.s, .int .i64 x4.2.1.p] 28 (0, 0))])]] i, Φ := fun i x => gA True [True, True, True, OwnC (α := Int) 3 (x.A 0) 5 ([1, 0, 7, 4, 8]) (x.R 0)] i } ?_ ?_))
  · refine ⟨⟨⟨⟨⟨⟨⟨⟨trivial, lc rfl rfl fun hs hh => stp_loadN (us := [_, _]) ts26 (sv hs 6 rfl) (Cells.box (id := 6) (hh.get 6 _ rfl) 2 rfl)⟩, lc rfl rfl fun hs hh => stp_loadN (us := [_, _]) ts28 (sv hs 7 rfl) (Cells.box (id := 7) (hh.get 7 _ rfl) 2 rfl)⟩, lc rfl rfl fun hs hh => stp_move (sv hs 5 rfl)⟩, ?_⟩, ?_⟩, ?_⟩, ?_⟩, lc rfl rfl fun hs hh => stp_assign (sv hs 19 rfl)⟩
    · refine le rfl rfl (fun g hΦ s h hs hh => (stpU_lit (sz := 1) (l := [1, 0, 7, 4, 8]) [.int .i64 1, .int .i64 0, .int .i64 7, .int .i64 4, .int .i64 8] sl23 8 (sevp_cons rfl (sevp_cons rfl (sevp_cons rfl (sevp_cons rfl (sevp_cons rfl sevp_nil))))) rfl rfl rfl rfl rfl rfl rfl rfl rfl)) ?_
      rintro g _ _ ⟨p15, C16, rfl, rfl, o16⟩
      exact ⟨⟨[p15], [], [C16]⟩, o16, .inr rfl, rfl⟩
    · refine le rfl rfl (fun g hΦ s h hs hh => (stpU_callM (fun i => bif Nat.beq i 0 then 2 else 9 + i) cf26 (fun w hw hb => c_s_l12Rd_num fl w b3 (a0.take 2000) p0_0 (((a0.take 2000)).length) c0_0 x4.2.2 ([1, 0, 7, 4, 8]) ((g 3).A 0) 5 5 rfl (RO.passM (RO.takeN 2000 hr0_0) hw hb) (by simp) (OwnC.passM (id := 8) (hh.get 8 _ rfl) (hΦ 3 rfl) hw hb ⟨rfl, trivial⟩) (hw.pass (js := [2]) ⟨2, [], rfl, (hh.get 2 _ rfl), trivial⟩ (by decide)) x17 e17) (sevs_cons (sv hs 17 rfl) (sevs_cons (sv hs 18 rfl) sevs_nil)) ⟨(hh.get 2 _ rfl), (fun _ _ hp => by obtain ⟨_, rfl⟩ := hp; exact ⟨_, rfl⟩), trivial⟩)) ?_
      rintro g _ _ ⟨_, ⟨rfl, rfl⟩, rfl⟩
      exact ⟨⟨[], [], []⟩, trivial, .inr rfl, rfl⟩
    · refine le rfl rfl (fun g hΦ s h hs hh => (stpU_store (id := 0) (cs' := [.slice p5 ((x4.1.b).length) c7, .slice p9 ((x4.1.f).length) c11]) ts26 (sv hs 2 rfl) (sv hs 15 rfl) (hh.get 0 _ rfl) rfl rfl rfl rfl)) ?_
      rintro g _ _ rfl
      exact ⟨⟨[], [], []⟩, trivial, .inl rfl, rfl⟩
    · refine le rfl rfl (fun g hΦ s h hs hh => (stpU_store (id := 1) (cs' := [.int .i64 x4.2.1.s, .int .i64 x4.2.1.p]) ts28 (sv hs 3 rfl) (sv hs 16 rfl) (hh.get 1 _ rfl) rfl rfl rfl rfl)) ?_
      rintro g _ _ rfl
      exact ⟨⟨[], [], []⟩, trivial, .inl rfl, rfl⟩
  · intro g hΦ
    refine kw_gen (ι := Option Addr × Res) (((g 3).A 0), ((g 3).R 0)) (fun | (p15, C16) => OwnC (α := Int) 3 p15 5 ([1, 0, 7, 4, 8]) C16) (fun | (p15, C16) => [(2, .pointer (some ⟨b1, 0, none⟩)), (3, .pointer (some ⟨b2, 0, none⟩)), (4, .int .i64 x17.1)]) (fun | (p15, C16) => [(0, [(b1, .cells #[.slice p5 ((x4.1.b).length) c7, .slice p9 ((x4.1.f).length) c11] 26 (0, 0))]), (1, [(b2, .cells #[.int .i64 x4.2.1.s, .int .i64 x4.2.1.p] 28 (0, 0))]), (4, C8), (5, C12)]) (hΦ 3 (by decide)) ⟨rfl, rfl, rfl, trivial⟩ ⟨rfl, rfl, rfl, rfl, trivial⟩ ?_
    rintro ⟨p15, C16⟩ o16
    have o16 : OwnC (α := Int) 3 p15 5 ([1, 0, 7, 4, 8]) C16 := o16
    refine KW.sub (s' := [(2, .pointer (some ⟨b1, 0, none⟩)), (3, .pointer (some ⟨b2, 0, none⟩)), (4, .int .i64 x17.1)]) (h' := [(0, [(b1, .cells #[.slice p5 ((x4.1.b).length) c7, .slice p9 ((x4.1.f).length) c11] 26 (0, 0))]), (1, [(b2, .cells #[.int .i64 x4.2.1.s, .int .i64 x4.2.1.p] 28 (0, 0))]), (4, C8), (5, C12)]) ?_ ⟨rfl, rfl, rfl, trivial⟩ ⟨rfl, rfl, rfl, rfl, trivial⟩
    refine kw_nx (cw_ret ?_)
    have q0 := Option.some.inj H0
    subst q0
    exact kw_ret Tryd.results14 (.cons (.cellN (us := [_, _]) ts26 rfl (Cells.box (id := 0) rfl 2 rfl)) (.cons (.cellN (us := [_, _]) ts28 rfl (Cells.box (id := 1) rfl 2 rfl)) (.cons (.tmp rfl) .nil))) [(0, C8), (1, C12)] [4, 5] ⟨4, [5], rfl, rfl, 5, [], rfl, rfl, trivial⟩ (by decide) ⟨p5, ((x4.1.b).length), c7, C8, p9, ((x4.1.f).length), c11, C12, rfl, rfl, rfl, o8, rfl, o12⟩

set_option maxHeartbeats 4000000 in
set_option maxRecDepth 20000 in
theorem c_i_ProtectPage (fl : Nat) (w : World) (a0 : T) (p0_0 : Option Addr) (n0_0 c0_0 : Nat) (p0_1 : Option Addr) (n0_1 c0_1 : Nat) (a1 : K) (a2 : Int) (hn0_0 : n0_0 = (a0.b).length) (hr0_0 : RO w (hkeys []) (RdL p0_0 c0_0 a0.b)) (hn0_1 : n0_1 = (a0.f).length) (hr0_1 : RO w (hkeys []) (RdL p0_1 c0_1 a0.f)) (hg : RO w (hkeys []) (fun w' => w'.rangeAt 0 0 [.bool false, .int .i64 0, .int .i64 0, .int .i64 0, .int .i64 (-1)])) (r : T × Bool) (H0 : i_ProtectPage fl a0 a1 a2 = some r) :
    Ct Tryd.prog 15 [.agg #[.slice p0_0 n0_0 c0_0, .slice p0_1 n0_1 c0_1], .agg #[.int .i64 a1.s, .int .i64 a1.p], .int .i64 a2] w [] (fun rv h' => ∃ (x0 : Option Addr) (y0 z0 : Nat) (C0 : Res) (x1 : Option Addr) (y1 z1 : Nat) (C1 : Res), rv = .tuple #[.agg #[.slice x0 y0 z0, .slice x1 y1 z1], .bool r.2] ∧ h' = [(0, C0), (1, C1)] ∧ y0 = (r.1.b).length ∧ OwnC 3 x0 z0 r.1.b C0 ∧ y1 = (r.1.f).length ∧ OwnC 58 x1 z1 r.1.f C1) := by
  obtain rfl := hn0_0
  obtain rfl := hn0_1
  unfold i_ProtectPage at H0
  refine ct_of_cw Tryd.func15 rfl Tryd.ntmps15 rfl (Sat.refl _ _) ?_
  refine sr (oE (stpU_box 0 rfl rfl) rfl ?_)
  rintro _ _ ⟨b1, rfl, rfl⟩
  refine oE (stpU_box 1 rfl rfl) rfl ?_
  rintro _ _ ⟨b2, rfl, rfl⟩
  refine oE (stpU_alloc 2 tz26 rfl) rfl ?_
  rintro _ _ ⟨b3, rfl, rfl⟩
  obtain ⟨x4, e4, H0⟩ := bind_some H0
  refine oD (sg rfl) rfl (nn (cw_seq (sr (oD (stp_loadN (us := [_, _]) ts26 rfl (Cells.box (id := 0) rfl 2 rfl)) rfl (oE (stpU_call (fun i => 3 + i) cf20 (fun w hw => c_i_TableValid fl w a0 p0_0 ((a0.b).length) c0_0 p0_1 ((a0.f).length) c0_1 rfl (RO.pass hr0_0 hw) rfl (RO.pass hr0_1 hw) (RO.pass hg hw) x4 e4) (sevs_cons rfl sevs_nil)) rfl ?_)))))
  rintro _ _ ⟨_, ⟨rfl, rfl⟩, rfl⟩
  obtain ⟨y5, ey5, H0⟩ := bind_some H0
  refine oD (stp_not rfl) rfl (oD (mv rfl) rfl (ow_cutY 4 16 y5 ?_ ?_))
  · rcases Bool.eq_false_or_eq_true (!x4) with hy5 | hy5
    · have ey5 := cond_t ey5 hy5
      refine oO rfl hy5 rfl (oO rfl hy5 rfl (oO rfl hy5 rfl (oD (stp_pick_t rfl hy5 rfl) rfl ?_)))
      obtain rfl := Option.some.inj ey5
      exact ow_nil (jy 4 0)
    · have ey5 := cond_f ey5 hy5
      obtain ⟨x6, e6, ey5⟩ := bind_some ey5
      refine oG rfl hy5 (stp_loadN (us := [_, _]) ts28 rfl (Cells.box (id := 1) rfl 2 rfl)) rfl (ow_eff (.some rfl hy5) (stpU_call (fun i => 3 + i) cf27 (fun w hw => c_i_KeyValid fl w a1 x6 e6) (sevs_cons rfl sevs_nil)) rfl ?_)
      rintro _ _ ⟨_, ⟨rfl, rfl⟩, rfl⟩
      refine oG rfl hy5 (stp_not rfl) rfl (oD (stp_pick_f rfl hy5 rfl) rfl ?_)
      obtain rfl := Option.some.inj ey5
      exact ow_nil (jy 4 0)
  · obtain ⟨y7, ey7, H0⟩ := bind_some H0
    refine oD (mv rfl) rfl (ow_cutY 5 22 y7 ?_ ?_)
    · rcases Bool.eq_false_or_eq_true y5 with hy7 | hy7
      · have ey7 := cond_t ey7 hy7
        refine oO rfl hy7 rfl (oO rfl hy7 rfl (oO rfl hy7 rfl (oO rfl hy7 rfl (oD (stp_pick_t rfl hy7 rfl) rfl ?_))))
        obtain rfl := Option.some.inj ey7
        exact ow_nil (jy 5 0)
      · have ey7 := cond_f ey7 hy7
        obtain ⟨x8, e8, ey7⟩ := bind_some ey7
        refine oG rfl hy7 (stp_loadN (us := [_, _]) ts26 rfl (Cells.box (id := 0) rfl 2 rfl)) rfl (oG rfl hy7 (stp_loadN (us := [_, _]) ts28 rfl (Cells.box (id := 1) rfl 2 rfl)) rfl (ow_eff (.some rfl hy7) (stpU_call (fun i => 3 + i) cf28 (fun w hw => c_i_Table_find fl w a0 p0_0 ((a0.b).length) c0_0 p0_1 ((a0.f).length) c0_1 a1 rfl (RO.pass hr0_0 hw) rfl (RO.pass hr0_1 hw) x8 e8) (sevs_cons rfl (sevs_cons rfl sevs_nil))) rfl ?_))
        rintro _ _ ⟨_, ⟨rfl, rfl⟩, rfl⟩
        refine oG rfl hy7 (stp_lss rfl rfl) rfl (oD (stp_pick_f rfl hy7 rfl) rfl ?_)
        obtain rfl := Option.some.inj ey7
        exact ow_nil (jy 5 0)
    · obtain ⟨y9, ey9, H0⟩ := bind_some H0
      refine oD (mv rfl) rfl (ow_cutY 4 27 y9 ?_ ?_)
      · rcases Bool.eq_false_or_eq_true y7 with hy9 | hy9
        · have ey9 := cond_t ey9 hy9
          refine oO rfl hy9 rfl (oO rfl hy9 rfl (oO rfl hy9 rfl (oD (stp_pick_t rfl hy9 rfl) rfl ?_)))
          obtain rfl := Option.some.inj ey9
          exact ow_nil (jy 4 0)
        · have ey9 := cond_f ey9 hy9
          obtain ⟨x10, e10, ey9⟩ := bind_some ey9
          refine oG rfl hy9 (mv rfl) rfl (ow_eff (.some rfl hy9) (stpU_call (fun i => 3 + i) cf30 (fun w hw => c_i_RightsValid fl w a2 x10 e10) (sevs_cons rfl sevs_nil)) rfl ?_)
          rintro _ _ ⟨_, ⟨rfl, rfl⟩, rfl⟩
          refine oG rfl hy9 (stp_not rfl) rfl (oD (stp_pick_f rfl hy9 rfl) rfl ?_)
          obtain rfl := Option.some.inj ey9
          exact ow_nil (jy 4 0)
      · refine ow_nil (kw_nx (cw_cond rfl (fun h11 => ?_) (fun h11 => ?_)))
        · have H0 := cond_t H0 h11
          refine sr (oD (stp_build (cs := #[.slice none 0 0, .slice none 0 0]) sevp_nil bt26_0) rfl (oF (stpU_store (id := 2) (cs' := [.slice none 0 0, .slice none 0 0]) ts26 rfl rfl rfl rfl rfl rfl rfl) ?_))
          rintro _ _ rfl
          refine oD (sg rfl) rfl (nn (cw_ret (kw_nx_ret (kw_addNil 3 (kw_addNil 4 ?_)))))
          have q0 := Option.some.inj H0
          subst q0
          exact kw_ret Tryd.results15 (.cons (.cellN (us := [_, _]) ts26 rfl (Cells.box (id := 2) rfl 2 rfl)) (.cons (.tmp rfl) .nil)) [(0, []), (1, [])] [3, 4] ⟨3, [4], rfl, rfl, 4, [], rfl, rfl, trivial⟩ (by decide) ⟨none, 0, 0, [], none, 0, 0, [], rfl, rfl, rfl, (OwnC.nil _ _), rfl, (OwnC.nil _ _)⟩
        · have H0 := cond_f H0 h11
          obtain ⟨x12, e12, H0⟩ := bind_some H0
          refine cw_skip (kw_nx (sr (oD (stp_loadN (us := [_, _]) ts26 rfl (Cells.box (id := 0) rfl 2 rfl)) rfl (oE (stpU_call (fun i => 5 + i) cf31 (fun w hw => c_i_Table_clone fl w a0 p0_0 ((a0.b).length) c0_0 p0_1 ((a0.f).length) c0_1 rfl (RO.pass hr0_0 hw) rfl (RO.pass hr0_1 hw) x12 e12) (sevs_cons rfl sevs_nil)) rfl ?_))))
          rintro _ _ ⟨_, ⟨p13, n14, c15, C16, p17, n18, c19, C20, rfl, rfl, hnn14, o16, hnn18, o20⟩, rfl⟩
          obtain rfl := hnn14
          obtain rfl := hnn18
          refine oE (stpU_alloc 7 tz26 rfl) rfl ?_
          rintro _ _ ⟨b21, rfl, rfl⟩
          refine oF (stpU_store (id := 7) (cs' := [.slice p13 ((x12.b).length) c15, .slice p17 ((x12.f).length) c19]) ts26 rfl rfl rfl rfl rfl rfl rfl) ?_
          rintro _ _ rfl
          obtain ⟨x22, e22, H0⟩ := bind_some H0
          obtain ⟨x23, e23, H0⟩ := bind_some H0
          refine nn (cw_seq (rdr g_mixed [2, 3, 4, 8] [0, 1, 6, 7] { dst := dS [32, 33, 34, 35, 36, 37, 38, 39, 0], pre := gA [] [[], [0], [], [], [2, 3], [], rn 0 6, rn 0 7, rn 0 8], ids := fun i => match i with | 8 => [6] | _ => [], rs := rL [[(8, 0)], [(31, 1)], [(3, 0)], [(4, 0)], [(33, 3), (34, 4)], [(2, 0)], [(32, 2), (35, 5)], [(37, 7)], [(38, 8), (36, 6)]], rh := rL [[], [(7, 0)], [(0, 0)], [(1, 0)], [], [], [(6, 0)], [], [(6, 0)]], V := fun i g => gA undef [.pointer (some ⟨b21, 1, none⟩), .slice p17 ((x12.f).length) c19, .agg #[.slice p0_0 ((a0.b).length) c0_0, .slice p0_1 ((a0.f).length) c0_1], .agg #[.int .i64 a1.s, .int .i64 a1.p], .int .i64 x22, .int .i64 a2, .pointer (some ⟨eB p17, eO p17 + Int.toNat x22 * Enc.sz F + 0, none⟩), .pointer (some ⟨eB p17, eO p17 + Int.toNat x22 * Enc.sz F + 3, none⟩)] i, U := fun i g => match i with | 8 => [(6, ((g 8).R 0))] | _ => [], Φ := fun i x => match i with | 8 => OwnC (α := F) 58 p17 c19 (x12.f.set (Int.toNat x22) (⟨x23.u, x23.k, a2, x23.nx⟩ : F)) (x.R 0) | _ => True } ?_ ?_))
          · refine ⟨⟨⟨⟨⟨⟨⟨⟨⟨trivial, lc rfl rfl fun hs hh => stp_fieldAddr (j := 1) Tryd.underlying26 rfl ts24 rfl (sv hs 8 rfl) rfl⟩, lc rfl rfl fun hs hh => stp_load1 ts24 (sv hs 31 rfl) (Cells.box (id := 7) (hh.get 7 _ rfl) 1 rfl)⟩, lc rfl rfl fun hs hh => stp_loadN (us := [_, _]) ts26 (sv hs 3 rfl) (Cells.box (id := 0) (hh.get 0 _ rfl) 2 rfl)⟩, lc rfl rfl fun hs hh => stp_loadN (us := [_, _]) ts28 (sv hs 4 rfl) (Cells.box (id := 1) (hh.get 1 _ rfl) 2 rfl)⟩, ?_⟩, lc rfl rfl fun hs hh => stp_move (sv hs 2 rfl)⟩, lc rfl rfl fun hs hh => stp_indexAddr Tryd.underlying24 ts58 (by decide) (sv hs 32 rfl) rfl (sv hs 35 rfl) (Rdb.own (id := 6) (hh.get 6 _ rfl) o20) e23⟩, lc rfl rfl fun hs hh => stp_fieldAddr (j := 3) Tryd.underlying58 rfl ts3 rfl (sv hs 37 rfl) rfl⟩, ?_⟩
            · refine le rfl rfl (fun g hΦ s h hs hh => (stpU_call (fun i => 8 + i) cf28 (fun w hw => c_i_Table_find fl w a0 p0_0 ((a0.b).length) c0_0 p0_1 ((a0.f).length) c0_1 a1 rfl (RO.pass hr0_0 hw) rfl (RO.pass hr0_1 hw) x22 e22) (sevs_cons (sv hs 33 rfl) (sevs_cons (sv hs 34 rfl) sevs_nil)))) ?_
              rintro g _ _ ⟨_, ⟨rfl, rfl⟩, rfl⟩
              exact ⟨⟨[], [], []⟩, trivial, .inr rfl, rfl⟩
            · refine le rfl rfl (fun g hΦ s h hs hh => (stpU_storeEl (id := 6) (i := 3) (⟨x23.u, x23.k, a2, x23.nx⟩ : F) (by decide) ts3 (sv hs 38 rfl) (sv hs 36 rfl) (hh.get 6 _ rfl) o20 e23 rfl rfl rfl rfl)) ?_
              rintro g _ _ ⟨C24, rfl, o24⟩
              exact ⟨⟨[], [], [C24]⟩, o24, .inl rfl, rfl⟩
          · intro g hΦ
            refine kw_gen (ι := Res) ((g 8).R 0) (fun | C24 => OwnC (α := F) 58 p17 c19 (x12.f.set (Int.toNat x22) (⟨x23.u, x23.k, a2, x23.nx⟩ : F)) C24) (fun | C24 => [(6, .pointer (some ⟨b3, 0, none⟩)), (8, .pointer (some ⟨b21, 0, none⟩))]) (fun | C24 => [(2, [(b3, .cells #[.slice none 0 0, .slice none 0 0] 26 (0, 0))]), (5, C16), (6, C24), (7, [(b21, .cells #[.slice p13 ((x12.b).length) c15, .slice p17 ((x12.f).length) c19] 26 (0, 0))])]) (hΦ 8 (by decide)) ⟨rfl, rfl, trivial⟩ ⟨rfl, rfl, rfl, rfl, trivial⟩ ?_
            rintro C24 o24
            have o24 : OwnC (α := F) 58 p17 c19 (x12.f.set (Int.toNat x22) (⟨x23.u, x23.k, a2, x23.nx⟩ : F)) C24 := o24
            refine KW.sub (s' := [(6, .pointer (some ⟨b3, 0, none⟩)), (8, .pointer (some ⟨b21, 0, none⟩))]) (h' := [(2, [(b3, .cells #[.slice none 0 0, .slice none 0 0] 26 (0, 0))]), (5, C16), (6, C24), (7, [(b21, .cells #[.slice p13 ((x12.b).length) c15, .slice p17 ((x12.f).length) c19] 26 (0, 0))])]) ?_ ⟨rfl, rfl, trivial⟩ ⟨rfl, rfl, rfl, rfl, trivial⟩
            refine kw_nx (sr (oD (stp_loadN (us := [_, _]) ts26 rfl (Cells.box (id := 7) rfl 2 rfl)) rfl (oF (stpU_store (id := 2) (cs' := [.slice p13 ((x12.b).length) c15, .slice p17 ((x12.f).length) c19]) ts26 rfl rfl rfl rfl rfl rfl rfl) ?_)))
            rintro _ _ rfl
            refine oD (sg rfl) rfl (nn (cw_ret ?_))
            have q0 := Option.some.inj H0
            subst q0
            exact kw_ret Tryd.results15 (.cons (.cellN (us := [_, _]) ts26 rfl (Cells.box (id := 2) rfl 2 rfl)) (.cons (.tmp rfl) .nil)) [(0, C16), (1, C24)] [5, 6] ⟨5, [6], rfl, rfl, 6, [], rfl, rfl, trivial⟩ (by decide) ⟨p13, ((x12.b).length), c15, C16, p17, ((x12.f).length), c19, C24, rfl, rfl, rfl, o16, (by simp), o24⟩

set_option maxHeartbeats 4000000 in
set_option maxRecDepth 20000 in
theorem c_s_ProtectPage (fl : Nat) (w : World) (a0 : T) (p0_0 : Option Addr) (n0_0 c0_0 : Nat) (p0_1 : Option Addr) (n0_1 c0_1 : Nat) (a1 : K) (a2 : Int) (hn0_0 : n0_0 = (a0.b).length) (hr0_0 : RO w (hkeys []) (RdL p0_0 c0_0 a0.b)) (hn0_1 : n0_1 = (a0.f).length) (hr0_1 : RO w (hkeys []) (RdL p0_1 c0_1 a0.f)) (r : T × Bool) (H0 : s_ProtectPage fl a0 a1 a2 = some r) :
    Ct Tryd.prog 16 [.agg #[.slice p0_0 n0_0 c0_0, .slice p0_1 n0_1 c0_1], .agg #[.int .i64 a1.s, .int .i64 a1.p], .int .i64 a2] w [] (fun rv h' => ∃ (x0 : Option Addr) (y0 z0 : Nat) (C0 : Res) (x1 : Option Addr) (y1 z1 : Nat) (C1 : Res), rv = .tuple #[.agg #[.slice x0 y0 z0, .slice x1 y1 z1], .bool r.2] ∧ h' = [(0, C0), (1, C1)] ∧ y0 = (r.1.b).length ∧ OwnC 3 x0 z0 r.1.b C0 ∧ y1 = (r.1.f).length ∧ OwnC 58 x1 z1 r.1.f C1) := by
  obtain rfl := hn0_0
  obtain rfl := hn0_1
  unfold s_ProtectPage at H0
  refine ct_of_cw Tryd.func16 rfl Tryd.ntmps16 rfl (Sat.refl _ _) ?_
  refine sr (oE (stpU_box 0 rfl rfl) rfl ?_)
  rintro _ _ ⟨b1, rfl, rfl⟩
  refine oE (stpU_box 1 rfl rfl) rfl ?_
  rintro _ _ ⟨b2, rfl, rfl⟩
  refine oE (stpU_alloc 2 tz26 rfl) rfl ?_
  rintro _ _ ⟨b3, rfl, rfl⟩
  obtain ⟨x4, e4, H0⟩ := bind_some H0
  refine oD (sg rfl) rfl (nn (sr (oD (stp_loadN (us := [_, _]) ts26 rfl (Cells.box (id := 0) rfl 2 rfl)) rfl (oD (stp_loadN (us := [_, _]) ts28 rfl (Cells.box (id := 1) rfl 2 rfl)) rfl (oE (stpU_call (fun i => 3 + i) cf47 (fun w hw => c_s_FindPage fl w a0 p0_0 ((a0.b).length) c0_0 p0_1 ((a0.f).length) c0_1 a1 rfl (RO.pass hr0_0 hw) rfl (RO.pass hr0_1 hw) x4 e4) (sevs_cons rfl (sevs_cons rfl sevs_nil))) rfl ?_)))))
  rintro _ _ ⟨_, ⟨rfl, rfl⟩, rfl⟩
  obtain ⟨y5, ey5, H0⟩ := bind_some H0
  refine oD (mv rfl) rfl (oD (stp_extract rfl rfl) rfl (oD (stp_extract rfl rfl) rfl (oD (stp_extract rfl rfl) rfl (oD (sg rfl) rfl (oD (sg rfl) rfl (oD (sg rfl) rfl (nn (cw_seq (sr (oD (mv rfl) rfl (oD (stp_not rfl) rfl (oD (mv rfl) rfl (ow_cutY 4 25 y5 ?_ ?_)))))))))))))
  · rcases Bool.eq_false_or_eq_true (!x4.2.2) with hy5 | hy5
    · have ey5 := cond_t ey5 hy5
      refine oO rfl hy5 rfl (oO rfl hy5 rfl (oO rfl hy5 rfl (oD (stp_pick_t rfl hy5 rfl) rfl ?_)))
      obtain rfl := Option.some.inj ey5
      exact ow_nil (jy 4 0)
    · have ey5 := cond_f ey5 hy5
      obtain ⟨x6, e6, ey5⟩ := bind_some ey5
      refine oG rfl hy5 (mv rfl) rfl (ow_eff (.some rfl hy5) (stpU_call (fun i => 3 + i) cf35 (fun w hw => c_s_RightsValid fl w a2 x6 e6) (sevs_cons rfl sevs_nil)) rfl ?_)
      rintro _ _ ⟨_, ⟨rfl, rfl⟩, rfl⟩
      refine oG rfl hy5 (stp_not rfl) rfl (oD (stp_pick_f rfl hy5 rfl) rfl ?_)
      obtain rfl := Option.some.inj ey5
      exact ow_nil (jy 4 0)
  · refine ow_nil (kw_nx (cw_cond rfl (fun h7 => ?_) (fun h7 => ?_)))
    · have H0 := cond_t H0 h7
      refine sr (oD (stp_build (cs := #[.slice none 0 0, .slice none 0 0]) sevp_nil bt26_0) rfl (oF (stpU_store (id := 2) (cs' := [.slice none 0 0, .slice none 0 0]) ts26 rfl rfl rfl rfl rfl rfl rfl) ?_))
      rintro _ _ rfl
      refine oD (sg rfl) rfl (nn (cw_ret (kw_nx_ret (kw_addNil 3 (kw_addNil 4 ?_)))))
      have q0 := Option.some.inj H0
      subst q0
      exact kw_ret Tryd.results16 (.cons (.cellN (us := [_, _]) ts26 rfl (Cells.box (id := 2) rfl 2 rfl)) (.cons (.tmp rfl) .nil)) [(0, []), (1, [])] [3, 4] ⟨3, [4], rfl, rfl, 4, [], rfl, rfl, trivial⟩ (by decide) ⟨none, 0, 0, [], none, 0, 0, [], rfl, rfl, rfl, (OwnC.nil _ _), rfl, (OwnC.nil _ _)⟩
    · have H0 := cond_f H0 h7
      obtain ⟨x8, e8, H0⟩ := bind_some H0
      refine cw_skip (kw_nx (sr (oD (stp_loadN (us := [_, _]) ts26 rfl (Cells.box (id := 0) rfl 2 rfl)) rfl (oE (stpU_call (fun i => 5 + i) cf48 (fun w hw => c_s_l3Copy fl w a0 p0_0 ((a0.b).length) c0_0 p0_1 ((a0.f).length) c0_1 rfl (RO.pass hr0_0 hw) rfl (RO.pass hr0_1 hw) x8 e8) (sevs_cons rfl sevs_nil)) rfl ?_))))
      rintro _ _ ⟨_, ⟨p9, n10, c11, C12, p13, n14, c15, C16, rfl, rfl, hnn10, o12, hnn14, o16⟩, rfl⟩
      obtain rfl := hnn10
      obtain rfl := hnn14
      refine oE (stpU_alloc 7 tz26 rfl) rfl ?_
      rintro _ _ ⟨b17, rfl, rfl⟩
      refine oF (stpU_store (id := 7) (cs' := [.slice p9 ((x8.b).length) c11, .slice p13 ((x8.f).length) c15]) ts26 rfl rfl rfl rfl rfl rfl rfl) ?_
      rintro _ _ rfl
      obtain ⟨x18, e18, H0⟩ := bind_some H0
      refine nn (sr (oD (fA 1 Tryd.underlying26 rfl ts24 rfl rfl rfl) rfl (oD (lB 7 ts24 rfl rfl rfl) rfl (oD (mv rfl) rfl (oD (mv rfl) rfl (oD (stp_indexAddr Tryd.underlying24 ts58 (by decide) rfl rfl rfl (Rdb.own (id := 6) rfl o16) e18) rfl (oD (fA 3 Tryd.underlying58 rfl ts3 rfl rfl rfl) rfl (oF (stpU_storeEl (id := 6) (i := 3) (⟨x18.u, x18.k, a2, x18.nx⟩ : F) (by decide) ts3 rfl rfl rfl o16 e18 rfl rfl rfl rfl) ?_))))))))
      rintro _ _ ⟨C19, rfl, o19⟩
      refine nn (sr (oD (stp_loadN (us := [_, _]) ts26 rfl (Cells.box (id := 7) rfl 2 rfl)) rfl (oF (stpU_store (id := 2) (cs' := [.slice p9 ((x8.b).length) c11, .slice p13 ((x8.f).length) c15]) ts26 rfl rfl rfl rfl rfl rfl rfl) ?_)))
      rintro _ _ rfl
      refine oD (sg rfl) rfl (nn (cw_ret ?_))
      have q0 := Option.some.inj H0
      subst q0
      exact kw_ret Tryd.results16 (.cons (.cellN (us := [_, _]) ts26 rfl (Cells.box (id := 2) rfl 2 rfl)) (.cons (.tmp rfl) .nil)) [(0, C12), (1, C19)] [5, 6] ⟨5, [6], rfl, rfl, 6, [], rfl, rfl, trivial⟩ (by decide) ⟨p9, ((x8.b).length), c11, C12, p13, ((x8.f).length), c15, C19, rfl, rfl, rfl, o12, (by simp), o19⟩

set_option maxHeartbeats 4000000 in
set_option maxRecDepth 20000 in
theorem c_l_FnProtectTwice (fl : Nat) (w : World) (a0 : (List UInt8)) (p0_0 : Option Addr) (n0_0 c0_0 : Nat) (hn0_0 : n0_0 = (a0).length) (hr0_0 : RO w (hkeys []) (RdL p0_0 c0_0 a0)) (hg : RO w (hkeys []) (fun w' => w'.rangeAt 0 0 [.bool false, .int .i64 0, .int .i64 0, .int .i64 0, .int .i64 (-1)])) (r : Bool) (H0 : l_FnProtectTwice fl a0 = some r) :
    Ct Tryd.prog 4 [.slice p0_0 n0_0 c0_0] w [] (fun rv h' => rv = .bool r ∧ h' = []) := by
  obtain rfl := hn0_0
  unfold l_FnProtectTwice at H0
  refine ct_of_cw Tryd.func4 rfl Tryd.ntmps4 rfl (Sat.refl _ _) ?_
  refine sr (oD (sg rfl) rfl (nn (cw_seq (sr (oD (mv rfl) rfl (oD (stp_len Tryd.underlying22 rfl) rfl (oD (stp_gtr rfl rfl) rfl (nn (cw_cond rfl (fun h1 => ?_) (fun h1 => ?_))))))))))
  · have H0 := cond_t H0 h1
    refine sr (oD (sg rfl) rfl (nn (cw_ret (kw_nx_ret ?_))))
    have q0 := Option.some.inj H0
    subst q0
    exact kw_ret Tryd.results4 (.cons (.tmp rfl) .nil) [] [] trivial (by decide) ⟨rfl, rfl⟩
  · have H0 := cond_f H0 h1
    obtain ⟨x2, e2, H0⟩ := bind_some H0
    refine cw_skip (kw_nx (sr (oD (mv rfl) rfl (oE (stpU_call (fun i => 0 + i) cf14 (fun w hw => c_s_DrawProtectPage fl w a0 p0_0 ((a0).length) c0_0 rfl (RO.pass hr0_0 hw) x2 e2) (sevs_cons rfl sevs_nil)) rfl ?_))))
    rintro _ _ ⟨_, ⟨p3, n4, c5, C6, p7, n8, c9, C10, rfl, rfl, hnn4, o6, hnn8, o10⟩, rfl⟩
    obtain rfl := hnn4
    obtain rfl := hnn8
    refine oD (mv rfl) rfl (oD (stp_extract rfl rfl) rfl (oD (stp_extract rfl rfl) rfl (oD (stp_extract rfl rfl) rfl (oE (stpU_alloc 2 tz26 rfl) rfl ?_))))
    rintro _ _ ⟨b11, rfl, rfl⟩
    refine oE (stpU_alloc 3 tz28 rfl) rfl ?_
    rintro _ _ ⟨b12, rfl, rfl⟩
    refine oF (stpU_store (id := 2) (cs' := [.slice p3 ((x2.1.b).length) c5, .slice p7 ((x2.1.f).length) c9]) ts26 rfl rfl rfl rfl rfl rfl rfl) ?_
    rintro _ _ rfl
    refine oF (stpU_store (id := 3) (cs' := [.int .i64 x2.2.1.s, .int .i64 x2.2.1.p]) ts28 rfl rfl rfl rfl rfl rfl rfl) ?_
    rintro _ _ rfl
    obtain ⟨x13, e13, H0⟩ := bind_some H0
    refine oD (sg rfl) rfl (nn (sr (oD (stp_loadN (us := [_, _]) ts26 rfl (Cells.box (id := 2) rfl 2 rfl)) rfl (oD (stp_loadN (us := [_, _]) ts28 rfl (Cells.box (id := 3) rfl 2 rfl)) rfl (oD (mv rfl) rfl (oE (stpU_call (fun i => 4 + i) cf15 (fun w hw => c_i_ProtectPage fl w x2.1 p3 ((x2.1.b).length) c5 p7 ((x2.1.f).length) c9 x2.2.1 x2.2.2 rfl (OwnC.pass (id := 0) rfl o6 hw) rfl (OwnC.pass (id := 1) rfl o10 hw) (RO.pass hg hw) x13 e13) (sevs_cons rfl (sevs_cons rfl (sevs_cons rfl sevs_nil)))) rfl ?_))))))
    rintro _ _ ⟨_, ⟨p14, n15, c16, C17, p18, n19, c20, C21, rfl, rfl, hnn15, o17, hnn19, o21⟩, rfl⟩
    obtain rfl := hnn15
    obtain rfl := hnn19
    refine oD (mv rfl) rfl (oD (stp_extract rfl rfl) rfl (oD (stp_extract rfl rfl) rfl (oE (stpU_alloc 6 tz26 rfl) rfl ?_)))
    rintro _ _ ⟨b22, rfl, rfl⟩
    refine oF (stpU_store (id := 6) (cs' := [.slice p14 ((x13.1.b).length) c16, .slice p18 ((x13.1.f).length) c20]) ts26 rfl rfl rfl rfl rfl rfl rfl) ?_
    rintro _ _ rfl
    obtain ⟨x23, e23, H0⟩ := bind_some H0
    refine oD (sg rfl) rfl (nn (sr (oD (stp_loadN (us := [_, _]) ts26 rfl (Cells.box (id := 2) rfl 2 rfl)) rfl (oD (stp_loadN (us := [_, _]) ts28 rfl (Cells.box (id := 3) rfl 2 rfl)) rfl (oD (mv rfl) rfl (oE (stpU_call (fun i => 7 + i) cf16 (fun w hw => c_s_ProtectPage fl w x2.1 p3 ((x2.1.b).length) c5 p7 ((x2.1.f).length) c9 x2.2.1 x2.2.2 rfl (OwnC.pass (id := 0) rfl o6 hw) rfl (OwnC.pass (id := 1) rfl o10 hw) x23 e23) (sevs_cons rfl (sevs_cons rfl (sevs_cons rfl sevs_nil)))) rfl ?_))))))
    rintro _ _ ⟨_, ⟨p24, n25, c26, C27, p28, n29, c30, C31, rfl, rfl, hnn25, o27, hnn29, o31⟩, rfl⟩
    obtain rfl := hnn25
    obtain rfl := hnn29
    refine oD (mv rfl) rfl (oD (stp_extract rfl rfl) rfl (oD (stp_extract rfl rfl) rfl (oE (stpU_alloc 9 tz26 rfl) rfl ?_)))
    rintro _ _ ⟨b32, rfl, rfl⟩
    refine oF (stpU_store (id := 9) (cs' := [.slice p24 ((x23.1.b).length) c26, .slice p28 ((x23.1.f).length) c30]) ts26 rfl rfl rfl rfl rfl rfl rfl) ?_
    rintro _ _ rfl
    obtain ⟨x33, e33, H0⟩ := bind_some H0
    refine oD (sg rfl) rfl (nn (cw_seq (sr (oD (stp_loadN (us := [_, _]) ts26 rfl (Cells.box (id := 6) rfl 2 rfl)) rfl (oD (stp_loadN (us := [_, _]) ts26 rfl (Cells.box (id := 9) rfl 2 rfl)) rfl (oE (stpU_call (fun i => 10 + i) cf10 (fun w hw => c_i_TableSame fl w x13.1 p14 ((x13.1.b).length) c16 p18 ((x13.1.f).length) c20 x23.1 p24 ((x23.1.b).length) c26 p28 ((x23.1.f).length) c30 rfl (OwnC.pass (id := 4) rfl o17 hw) rfl (OwnC.pass (id := 5) rfl o21 hw) rfl (OwnC.pass (id := 7) rfl o27 hw) rfl (OwnC.pass (id := 8) rfl o31 hw) x33 e33) (sevs_cons rfl (sevs_cons rfl sevs_nil))) rfl ?_))))))
    rintro _ _ ⟨_, ⟨rfl, rfl⟩, rfl⟩
    obtain ⟨y34, ey34, H0⟩ := bind_some H0
    refine oD (stp_not rfl) rfl (oD (mv rfl) rfl (ow_cutY 4 45 y34 ?_ ?_))
    · rcases Bool.eq_false_or_eq_true (!x33) with hy34 | hy34
      · have ey34 := cond_t ey34 hy34
        refine oO rfl hy34 rfl (oO rfl hy34 rfl (oO rfl hy34 rfl (oD (stp_pick_t rfl hy34 rfl) rfl ?_)))
        obtain rfl := Option.some.inj ey34
        exact ow_nil (jy 4 0)
      · have ey34 := cond_f ey34 hy34
        refine oG rfl hy34 (mv rfl) rfl (oG rfl hy34 (mv rfl) rfl (oG rfl hy34 (stp_neqB Tryd.underlying4 rfl rfl) rfl (oD (stp_pick_f rfl hy34 rfl) rfl ?_)))
        obtain rfl := Option.some.inj ey34
        exact ow_nil (jy 4 0)
    · obtain ⟨y35, ey35, H0⟩ := bind_some H0
      refine oD (mv rfl) rfl (ow_cutY 3 49 y35 ?_ ?_)
      · rcases Bool.eq_false_or_eq_true y34 with hy35 | hy35
        · have ey35 := cond_t ey35 hy35
          refine oO rfl hy35 rfl (oO rfl hy35 rfl (oD (stp_pick_t rfl hy35 rfl) rfl ?_))
          obtain rfl := Option.some.inj ey35
          exact ow_nil (jy 3 0)
        · have ey35 := cond_f ey35 hy35
          refine oG rfl hy35 (mv rfl) rfl (oG rfl hy35 (stp_not rfl) rfl (oD (stp_pick_f rfl hy35 rfl) rfl ?_))
          obtain rfl := Option.some.inj ey35
          exact ow_nil (jy 3 0)
      · refine ow_nil (kw_nx (cw_cond rfl (fun h36 => ?_) (fun h36 => ?_)))
        · have H0 := cond_t H0 h36
          refine sr (oD (stp_loadN (us := [_, _]) ts26 rfl (Cells.box (id := 6) rfl 2 rfl)) rfl (oD (stp_loadN (us := [_, _]) ts26 rfl (Cells.box (id := 9) rfl 2 rfl)) rfl (oE (stpU_call (fun i => 10 + i) cf10 (fun w hw => c_i_TableSame fl w x13.1 p14 ((x13.1.b).length) c16 p18 ((x13.1.f).length) c20 x23.1 p24 ((x23.1.b).length) c26 p28 ((x23.1.f).length) c30 rfl (OwnC.pass (id := 4) rfl o17 hw) rfl (OwnC.pass (id := 5) rfl o21 hw) rfl (OwnC.pass (id := 7) rfl o27 hw) rfl (OwnC.pass (id := 8) rfl o31 hw) x33 e33) (sevs_cons rfl (sevs_cons rfl sevs_nil))) rfl ?_)))
          rintro _ _ ⟨_, ⟨rfl, rfl⟩, rfl⟩
          obtain ⟨y37, ey37, H0⟩ := bind_some H0
          refine oD (mv rfl) rfl (ow_cutY 4 57 y37 ?_ ?_)
          · rcases Bool.eq_false_or_eq_true x33 with hy37 | hy37
            · have ey37 := cond_t ey37 hy37
              refine oG rfl hy37 (mv rfl) rfl (oG rfl hy37 (mv rfl) rfl (oG rfl hy37 (stp_eqlB Tryd.underlying4 rfl rfl) rfl (oD (stp_pick_t rfl hy37 rfl) rfl ?_)))
              obtain rfl := Option.some.inj ey37
              exact ow_nil (jy 4 0)
            · have ey37 := cond_f ey37 hy37
              refine oO rfl hy37 rfl (oO rfl hy37 rfl (oO rfl hy37 rfl (oD (stp_pick_f rfl hy37 rfl) rfl ?_)))
              obtain rfl := Option.some.inj ey37
              exact ow_nil (jy 4 0)
          · refine oD (sg rfl) rfl (nn (cw_ret (kw_nx_ret ?_)))
            have q0 := Option.some.inj H0
            subst q0
            exact kw_ret Tryd.results4 (.cons (.tmp rfl) .nil) [] [] trivial (by decide) ⟨rfl, rfl⟩
        · have H0 := cond_f H0 h36
          obtain ⟨x38, e38, H0⟩ := bind_some H0
          refine cw_skip (kw_nx (sr (oD (stp_loadN (us := [_, _]) ts26 rfl (Cells.box (id := 6) rfl 2 rfl)) rfl (oD (stp_loadN (us := [_, _]) ts28 rfl (Cells.box (id := 3) rfl 2 rfl)) rfl (oE (stpU_call (fun i => 10 + i) cf15 (fun w hw => c_i_ProtectPage fl w x13.1 p14 ((x13.1.b).length) c16 p18 ((x13.1.f).length) c20 x2.2.1 5 rfl (OwnC.pass (id := 4) rfl o17 hw) rfl (OwnC.pass (id := 5) rfl o21 hw) (RO.pass hg hw) x38 e38) (sevs_cons rfl (sevs_cons rfl (sevs_cons rfl sevs_nil)))) rfl ?_)))))
          rintro _ _ ⟨_, ⟨p39, n40, c41, C42, p43, n44, c45, C46, rfl, rfl, hnn40, o42, hnn44, o46⟩, rfl⟩
          obtain rfl := hnn40
          obtain rfl := hnn44
          refine oD (mv rfl) rfl (oD (stp_extract rfl rfl) rfl (oD (stp_extract rfl rfl) rfl (oE (stpU_alloc 12 tz26 rfl) rfl ?_)))
          rintro _ _ ⟨b47, rfl, rfl⟩
          refine oF (stpU_store (id := 12) (cs' := [.slice p39 ((x38.1.b).length) c41, .slice p43 ((x38.1.f).length) c45]) ts26 rfl rfl rfl rfl rfl rfl rfl) ?_
          rintro _ _ rfl
          obtain ⟨x48, e48, H0⟩ := bind_some H0
          refine oD (sg rfl) rfl (nn (sr (oD (stp_loadN (us := [_, _]) ts26 rfl (Cells.box (id := 2) rfl 2 rfl)) rfl (oD (stp_loadN (us := [_, _]) ts28 rfl (Cells.box (id := 3) rfl 2 rfl)) rfl (oE (stpU_call (fun i => 13 + i) cf15 (fun w hw => c_i_ProtectPage fl w x2.1 p3 ((x2.1.b).length) c5 p7 ((x2.1.f).length) c9 x2.2.1 5 rfl (OwnC.pass (id := 0) rfl o6 hw) rfl (OwnC.pass (id := 1) rfl o10 hw) (RO.pass hg hw) x48 e48) (sevs_cons rfl (sevs_cons rfl (sevs_cons rfl sevs_nil)))) rfl ?_)))))
          rintro _ _ ⟨_, ⟨p49, n50, c51, C52, p53, n54, c55, C56, rfl, rfl, hnn50, o52, hnn54, o56⟩, rfl⟩
          obtain rfl := hnn50
          obtain rfl := hnn54
          refine oD (mv rfl) rfl (oD (stp_extract rfl rfl) rfl (oD (stp_extract rfl rfl) rfl (oE (stpU_alloc 15 tz26 rfl) rfl ?_)))
          rintro _ _ ⟨b57, rfl, rfl⟩
          refine oF (stpU_store (id := 15) (cs' := [.slice p49 ((x48.1.b).length) c51, .slice p53 ((x48.1.f).length) c55]) ts26 rfl rfl rfl rfl rfl rfl rfl) ?_
          rintro _ _ rfl
          obtain ⟨y58, ey58, H0⟩ := bind_some H0
          obtain ⟨y59, ey59, H0⟩ := bind_some H0
          obtain ⟨y61, ey61, H0⟩ := bind_some H0
          refine oD (sg rfl) rfl (nn (cw_seq (cw_join (ι := Unit) (fun | _ => True) (fun | _ => [(2, .bool y61)]) (fun | _ => []) ?_ ?_)))
          · rcases Bool.eq_false_or_eq_true x38.2 with hy58 | hy58
            · have ey58 := cond_t ey58 hy58
              have qy58 := Option.some.inj ey58
              rcases Bool.eq_false_or_eq_true y58 with hy59 | hy59
              · have ey59 := cond_t ey59 hy59
                obtain ⟨x60, e60, ey59⟩ := bind_some ey59
                have qy59 := Option.some.inj ey59
                rcases Bool.eq_false_or_eq_true y59 with hy61 | hy61
                · have ey61 := cond_t ey61 hy61
                  obtain ⟨x62, e62, ey61⟩ := bind_some ey61
                  obtain ⟨x67, e67, ey61⟩ := bind_some ey61
                  obtain ⟨x72, e72, ey61⟩ := bind_some ey61
                  have qy61 := Option.some.inj ey61
                  refine rdr g_mixed [3, 6, 10, 11, 12, 13] [0, 1, 2, 4, 5, 6, 10, 11, 12, 13, 14, 15] { dst := dS [71, 72, 73, 74, 75, 76, 77, 78, 79, 80, 81, 82, 83, 84, 85, 86, 3], pre := gA [] [[], [0], [0, 1], [0, 1, 2], rn 0 4, rn 0 5, rn 0 5, rn 0 7, rn 0 8, rn 0 9, rn 0 10, rn 0 11, rn 0 10, rn 0 13, rn 0 14, rn 0 15, rn 0 16], ids := fun i => match i with | 11 => [16] | 13 => [17] | _ => [], rs := rL [[(11, 0)], [(70, 1)], [(13, 0), (71, 2)], [(71, 2), (72, 3)], [(73, 4)], [(10, 0), (74, 5)], [(12, 0), (74, 5)], [(75, 6), (76, 7), (74, 5)], [(74, 5), (77, 8)], [(78, 9)], [(6, 0), (79, 10)], [(80, 11), (79, 10)], [(3, 0), (79, 10)], [(82, 13), (79, 10)], [(81, 12), (83, 14), (79, 10)], [(79, 10), (84, 15)], [(85, 16)]], rh := rL [[], [], [], [], [], [(12, 0)], [(15, 0)], [(10, 0), (11, 0), (13, 0), (14, 0)], [], [], [(6, 0)], [(4, 0), (5, 0)], [(2, 0)], [(0, 0), (1, 0)], [(16, 12), (17, 14)]], V := fun i g => gA undef [.bool x38.2, .bool x38.2, .bool x48.2, .bool y58, .bool y58, .agg #[.slice p39 ((x38.1.b).length) c41, .slice p43 ((x38.1.f).length) c45], .agg #[.slice p49 ((x48.1.b).length) c51, .slice p53 ((x48.1.f).length) c55], .bool x60, .bool y59, .bool y59, .agg #[.slice p14 ((x13.1.b).length) c16, .slice p18 ((x13.1.f).length) c20], .slice ((g 11).A 0) ((x62).length) ((g 11).C 0), .agg #[.slice p3 ((x2.1.b).length) c5, .slice p7 ((x2.1.f).length) c9], .slice ((g 13).A 0) ((x67).length) ((g 13).C 0), .bool x72, .bool y61, .bool y61] i, U := fun i g => match i with | 11 => [(16, ((g 11).R 0))] | 13 => [(17, ((g 13).R 0))] | _ => [], Φ := fun i x => match i with | 11 => OwnC (α := K) 28 (x.A 0) (x.C 0) x62 (x.R 0) | 13 => OwnC (α := K) 28 (x.A 0) (x.C 0) x67 (x.R 0) | _ => True } ?_ ?_
                  · refine ⟨⟨⟨⟨⟨⟨⟨⟨⟨⟨⟨⟨⟨⟨⟨⟨⟨trivial, lc rfl rfl fun hs hh => stp_move (sv hs 11 rfl)⟩, lc rfl rfl fun hs hh => stp_move (sv hs 70 rfl)⟩, lg rfl rfl 71 hy58 fun hs hh => stp_move (sv hs 13 rfl)⟩, lc rfl rfl fun hs hh => stp_pick_tB (sv hs 71 rfl) hy58 (sv hs 72 rfl) qy58⟩, lc rfl rfl fun hs hh => stp_move (sv hs 73 rfl)⟩, lg rfl rfl 74 hy59 fun hs hh => stp_loadN (us := [_, _]) ts26 (sv hs 10 rfl) (Cells.box (id := 12) (hh.get 12 _ rfl) 2 rfl)⟩, lg rfl rfl 74 hy59 fun hs hh => stp_loadN (us := [_, _]) ts26 (sv hs 12 rfl) (Cells.box (id := 15) (hh.get 15 _ rfl) 2 rfl)⟩, ?_⟩, lc rfl rfl fun hs hh => stp_pick_tB (sv hs 74 rfl) hy59 (sv hs 77 rfl) qy59⟩, lc rfl rfl fun hs hh => stp_move (sv hs 78 rfl)⟩, lg rfl rfl 79 hy61 fun hs hh => stp_loadN (us := [_, _]) ts26 (sv hs 6 rfl) (Cells.box (id := 6) (hh.get 6 _ rfl) 2 rfl)⟩, ?_⟩, lg rfl rfl 79 hy61 fun hs hh => stp_loadN (us := [_, _]) ts26 (sv hs 3 rfl) (Cells.box (id := 2) (hh.get 2 _ rfl) 2 rfl)⟩, ?_⟩, ?_⟩, lc rfl rfl fun hs hh => stp_pick_tB (sv hs 79 rfl) hy61 (sv hs 84 rfl) qy61⟩, lc rfl rfl fun hs hh => stp_assign (sv hs 85 rfl)⟩
                    · refine loc_eff rfl rfl (fun g hΦ s h hs hh => ⟨(.some (gval_of rfl (sv hs 74 rfl)) hy59), (stpU_call (fun i => 16 + i) cf10 (fun w hw => c_i_TableSame fl w x38.1 p39 ((x38.1.b).length) c41 p43 ((x38.1.f).length) c45 x48.1 p49 ((x48.1.b).length) c51 p53 ((x48.1.f).length) c55 rfl (OwnC.pass (id := 10) (hh.get 10 _ rfl) o42 hw) rfl (OwnC.pass (id := 11) (hh.get 11 _ rfl) o46 hw) rfl (OwnC.pass (id := 13) (hh.get 13 _ rfl) o52 hw) rfl (OwnC.pass (id := 14) (hh.get 14 _ rfl) o56 hw) x60 e60) (sevs_cons (sv hs 75 rfl) (sevs_cons (sv hs 76 rfl) sevs_nil)))⟩) ?_
                      rintro g _ _ ⟨_, ⟨rfl, rfl⟩, rfl⟩
                      exact ⟨⟨[], [], []⟩, trivial, .inr rfl, rfl⟩
                    · refine loc_eff rfl rfl (fun g hΦ s h hs hh => ⟨(.some (gval_of rfl (sv hs 79 rfl)) hy61), (stpU_call (fun i => 16 + i) cf13 (fun w hw => c_i_KeysOf fl w x13.1 p14 ((x13.1.b).length) c16 p18 ((x13.1.f).length) c20 rfl (OwnC.pass (id := 4) (hh.get 4 _ rfl) o17 hw) rfl (OwnC.pass (id := 5) (hh.get 5 _ rfl) o21 hw) (RO.pass hg hw) x62 e62) (sevs_cons (sv hs 80 rfl) sevs_nil))⟩) ?_
                      rintro g _ _ ⟨_, ⟨p63, n64, c65, C66, rfl, rfl, hnn64, o66⟩, rfl⟩
                      obtain rfl := hnn64
                      exact ⟨⟨[p63], [c65], [C66]⟩, o66, .inr rfl, rfl⟩
                    · refine loc_eff rfl rfl (fun g hΦ s h hs hh => ⟨(.some (gval_of rfl (sv hs 79 rfl)) hy61), (stpU_call (fun i => 17 + i) cf13 (fun w hw => c_i_KeysOf fl w x2.1 p3 ((x2.1.b).length) c5 p7 ((x2.1.f).length) c9 rfl (OwnC.pass (id := 0) (hh.get 0 _ rfl) o6 hw) rfl (OwnC.pass (id := 1) (hh.get 1 _ rfl) o10 hw) (RO.pass hg hw) x67 e67) (sevs_cons (sv hs 82 rfl) sevs_nil))⟩) ?_
                      rintro g _ _ ⟨_, ⟨p68, n69, c70, C71, rfl, rfl, hnn69, o71⟩, rfl⟩
                      obtain rfl := hnn69
                      exact ⟨⟨[p68], [c70], [C71]⟩, o71, .inr rfl, rfl⟩
                    · refine loc_eff rfl rfl (fun g hΦ s h hs hh => ⟨(.some (gval_of rfl (sv hs 79 rfl)) hy61), (stpU_call (fun i => 18 + i) cf12 (fun w hw => c_l_ipKeys fl w x62 ((g 11).A 0) ((x62).length) ((g 11).C 0) x67 ((g 13).A 0) ((x67).length) ((g 13).C 0) rfl (OwnC.pass (id := 16) (hh.get 16 _ rfl) (hΦ 11 rfl) hw) rfl (OwnC.pass (id := 17) (hh.get 17 _ rfl) (hΦ 13 rfl) hw) x72 e72) (sevs_cons (sv hs 81 rfl) (sevs_cons (sv hs 83 rfl) sevs_nil)))⟩) ?_
                      rintro g _ _ ⟨_, ⟨rfl, rfl⟩, rfl⟩
                      exact ⟨⟨[], [], []⟩, trivial, .inr rfl, rfl⟩
                  · intro g hΦ
                    exact kw_join () trivial ⟨rfl, trivial⟩ trivial
                · have ey61 := cond_f ey61 hy61
                  have qy61 := Option.some.inj ey61
                  refine rdr g_mixed [10, 11, 12, 13] [10, 11, 12, 13, 14, 15] { dst := dS [71, 72, 73, 74, 75, 76, 77, 78, 79, 80, 81, 82, 83, 84, 85, 86, 3], pre := gA [] [[], [0], [0, 1], [0, 1, 2], rn 0 4, rn 0 5, rn 0 5, rn 0 7, rn 0 8, rn 0 9, rn 0 10, rn 0 11, rn 0 10, rn 0 13, rn 0 14, rn 0 15, rn 0 16], ids := fun _ => [], rs := rL [[(11, 0)], [(70, 1)], [(13, 0), (71, 2)], [(71, 2), (72, 3)], [(73, 4)], [(10, 0), (74, 5)], [(12, 0), (74, 5)], [(75, 6), (76, 7), (74, 5)], [(74, 5), (77, 8)], [(78, 9)], [(79, 10)], [(79, 10)], [(79, 10)], [(79, 10)], [(79, 10)], [(79, 10), (84, 15)], [(85, 16)]], rh := rL [[], [], [], [], [], [(12, 0)], [(15, 0)], [(10, 0), (11, 0), (13, 0), (14, 0)]], V := fun i g => gA undef [.bool x38.2, .bool x38.2, .bool x48.2, .bool y58, .bool y58, .agg #[.slice p39 ((x38.1.b).length) c41, .slice p43 ((x38.1.f).length) c45], .agg #[.slice p49 ((x48.1.b).length) c51, .slice p53 ((x48.1.f).length) c55], .bool x60, .bool y59, .bool y59, undef, undef, undef, undef, undef, .bool y61, .bool y61] i, U := fun _ _ => [], Φ := fun _ _ => True } ?_ ?_
                  · refine ⟨⟨⟨⟨⟨⟨⟨⟨⟨⟨⟨⟨⟨⟨⟨⟨⟨trivial, lc rfl rfl fun hs hh => stp_move (sv hs 11 rfl)⟩, lc rfl rfl fun hs hh => stp_move (sv hs 70 rfl)⟩, lg rfl rfl 71 hy58 fun hs hh => stp_move (sv hs 13 rfl)⟩, lc rfl rfl fun hs hh => stp_pick_tB (sv hs 71 rfl) hy58 (sv hs 72 rfl) qy58⟩, lc rfl rfl fun hs hh => stp_move (sv hs 73 rfl)⟩, lg rfl rfl 74 hy59 fun hs hh => stp_loadN (us := [_, _]) ts26 (sv hs 10 rfl) (Cells.box (id := 12) (hh.get 12 _ rfl) 2 rfl)⟩, lg rfl rfl 74 hy59 fun hs hh => stp_loadN (us := [_, _]) ts26 (sv hs 12 rfl) (Cells.box (id := 15) (hh.get 15 _ rfl) 2 rfl)⟩, ?_⟩, lc rfl rfl fun hs hh => stp_pick_tB (sv hs 74 rfl) hy59 (sv hs 77 rfl) qy59⟩, lc rfl rfl fun hs hh => stp_move (sv hs 78 rfl)⟩, lo rfl rfl 79 hy61⟩, lo rfl rfl 79 hy61⟩, lo rfl rfl 79 hy61⟩, lo rfl rfl 79 hy61⟩, lo rfl rfl 79 hy61⟩, lc rfl rfl fun hs hh => stp_pick_fB (sv hs 79 rfl) hy61 rfl qy61⟩, lc rfl rfl fun hs hh => stp_assign (sv hs 85 rfl)⟩
                    · refine loc_eff rfl rfl (fun g hΦ s h hs hh => ⟨(.some (gval_of rfl (sv hs 74 rfl)) hy59), (stpU_call (fun i => 16 + i) cf10 (fun w hw => c_i_TableSame fl w x38.1 p39 ((x38.1.b).length) c41 p43 ((x38.1.f).length) c45 x48.1 p49 ((x48.1.b).length) c51 p53 ((x48.1.f).length) c55 rfl (OwnC.pass (id := 10) (hh.get 10 _ rfl) o42 hw) rfl (OwnC.pass (id := 11) (hh.get 11 _ rfl) o46 hw) rfl (OwnC.pass (id := 13) (hh.get 13 _ rfl) o52 hw) rfl (OwnC.pass (id := 14) (hh.get 14 _ rfl) o56 hw) x60 e60) (sevs_cons (sv hs 75 rfl) (sevs_cons (sv hs 76 rfl) sevs_nil)))⟩) ?_
                      rintro g _ _ ⟨_, ⟨rfl, rfl⟩, rfl⟩
                      exact ⟨⟨[], [], []⟩, trivial, .inr rfl, rfl⟩
                  · intro g hΦ
                    exact kw_join () trivial ⟨rfl, trivial⟩ trivial
              · have ey59 := cond_f ey59 hy59
                have qy59 := Option.some.inj ey59
                have hy61 : y59 = false := by rw [← qy59]
                have ey61 := cond_f ey61 hy61
                have qy61 := Option.some.inj ey61
                refine rdr g_mixed [11, 13] [] { dst := dS [71, 72, 73, 74, 75, 76, 77, 78, 79, 80, 81, 82, 83, 84, 85, 86, 3], pre := gA [] [[], [0], [0, 1], [0, 1, 2], rn 0 4, rn 0 5, rn 0 5, rn 0 7, rn 0 8, rn 0 9, rn 0 10, rn 0 11, rn 0 10, rn 0 13, rn 0 14, rn 0 15, rn 0 16], ids := fun _ => [], rs := rL [[(11, 0)], [(70, 1)], [(13, 0), (71, 2)], [(71, 2), (72, 3)], [(73, 4)], [(74, 5)], [(74, 5)], [(74, 5)], [(74, 5), (77, 8)], [(78, 9)], [(79, 10)], [(79, 10)], [(79, 10)], [(79, 10)], [(79, 10)], [(79, 10), (84, 15)], [(85, 16)]], rh := fun _ => [], V := fun i g => gA undef [.bool x38.2, .bool x38.2, .bool x48.2, .bool y58, .bool y58, undef, undef, undef, .bool y59, .bool y59, undef, undef, undef, undef, undef, .bool y61, .bool y61] i, U := fun _ _ => [], Φ := fun _ _ => True } ?_ ?_
                · exact ⟨⟨⟨⟨⟨⟨⟨⟨⟨⟨⟨⟨⟨⟨⟨⟨⟨trivial, lc rfl rfl fun hs hh => stp_move (sv hs 11 rfl)⟩, lc rfl rfl fun hs hh => stp_move (sv hs 70 rfl)⟩, lg rfl rfl 71 hy58 fun hs hh => stp_move (sv hs 13 rfl)⟩, lc rfl rfl fun hs hh => stp_pick_tB (sv hs 71 rfl) hy58 (sv hs 72 rfl) qy58⟩, lc rfl rfl fun hs hh => stp_move (sv hs 73 rfl)⟩, lo rfl rfl 74 hy59⟩, lo rfl rfl 74 hy59⟩, lo rfl rfl 74 hy59⟩, lc rfl rfl fun hs hh => stp_pick_fB (sv hs 74 rfl) hy59 rfl qy59⟩, lc rfl rfl fun hs hh => stp_move (sv hs 78 rfl)⟩, lo rfl rfl 79 hy61⟩, lo rfl rfl 79 hy61⟩, lo rfl rfl 79 hy61⟩, lo rfl rfl 79 hy61⟩, lo rfl rfl 79 hy61⟩, lc rfl rfl fun hs hh => stp_pick_fB (sv hs 79 rfl) hy61 rfl qy61⟩, lc rfl rfl fun hs hh => stp_assign (sv hs 85 rfl)⟩
                · intro g hΦ
                  exact kw_join () trivial ⟨rfl, trivial⟩ trivial
            · have ey58 := cond_f ey58 hy58
              have qy58 := Option.some.inj ey58
              have hy59 : y58 = false := by rw [← qy58]
              have ey59 := cond_f ey59 hy59
              have qy59 := Option.some.inj ey59
              have hy61 : y59 = false := by rw [← qy59]
              have ey61 := cond_f ey61 hy61
              have qy61 := Option.some.inj ey61
              refine rdr g_mixed [11] [] { dst := dS [71, 72, 73, 74, 75, 76, 77, 78, 79, 80, 81, 82, 83, 84, 85, 86, 3], pre := gA [] [[], [0], [0, 1], [0, 1, 2], rn 0 4, rn 0 5, rn 0 5, rn 0 7, rn 0 8, rn 0 9, rn 0 10, rn 0 11, rn 0 10, rn 0 13, rn 0 14, rn 0 15, rn 0 16], ids := fun _ => [], rs := rL [[(11, 0)], [(70, 1)], [(71, 2)], [(71, 2), (72, 3)], [(73, 4)], [(74, 5)], [(74, 5)], [(74, 5)], [(74, 5), (77, 8)], [(78, 9)], [(79, 10)], [(79, 10)], [(79, 10)], [(79, 10)], [(79, 10)], [(79, 10), (84, 15)], [(85, 16)]], rh := fun _ => [], V := fun i g => gA undef [.bool x38.2, .bool x38.2, undef, .bool y58, .bool y58, undef, undef, undef, .bool y59, .bool y59, undef, undef, undef, undef, undef, .bool y61, .bool y61] i, U := fun _ _ => [], Φ := fun _ _ => True } ?_ ?_
              · exact ⟨⟨⟨⟨⟨⟨⟨⟨⟨⟨⟨⟨⟨⟨⟨⟨⟨trivial, lc rfl rfl fun hs hh => stp_move (sv hs 11 rfl)⟩, lc rfl rfl fun hs hh => stp_move (sv hs 70 rfl)⟩, lo rfl rfl 71 hy58⟩, lc rfl rfl fun hs hh => stp_pick_fB (sv hs 71 rfl) hy58 rfl qy58⟩, lc rfl rfl fun hs hh => stp_move (sv hs 73 rfl)⟩, lo rfl rfl 74 hy59⟩, lo rfl rfl 74 hy59⟩, lo rfl rfl 74 hy59⟩, lc rfl rfl fun hs hh => stp_pick_fB (sv hs 74 rfl) hy59 rfl qy59⟩, lc rfl rfl fun hs hh => stp_move (sv hs 78 rfl)⟩, lo rfl rfl 79 hy61⟩, lo rfl rfl 79 hy61⟩, lo rfl rfl 79 hy61⟩, lo rfl rfl 79 hy61⟩, lo rfl rfl 79 hy61⟩, lc rfl rfl fun hs hh => stp_pick_fB (sv hs 79 rfl) hy61 rfl qy61⟩, lc rfl rfl fun hs hh => stp_assign (sv hs 85 rfl)⟩
              · intro g hΦ
                exact kw_join () trivial ⟨rfl, trivial⟩ trivial
          · rintro _ -
            refine KW.sub (s' := [(2, .bool y61)]) (h' := []) ?_ ⟨rfl, trivial⟩ trivial
            refine kw_nx (cw_ret ?_)
            have q0 := Option.some.inj H0
            subst q0
            exact kw_ret Tryd.results4 (.cons (.tmp rfl) .nil) [] [] trivial (by decide) ⟨rfl, rfl⟩
end Go.Proofs.YtbhpohopfbcfgaaDoor
