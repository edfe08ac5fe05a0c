/- The walks: functions of the program return what their pure functions say. Printed by a program (gen.py). -/
import Derived.Test.YtbhpohopfbcfgaaDoorGp
import Derived.Test.YtbhpohopfbcfgaaDoorGt
import Derived.Test.YtbhpohopfbcfgaaDoorMan
import Derived.Test.YtbhpohopfbcfgaaDoorMap
import Derived.Test.YtbhpohopfbcfgaaDoorCpy
import Derived.Test.YtbhpohopfbcfgaaDoorBits
import Derived.Test.YtbhpohopfbcfgaaDoorGwaa
import Derived.Test.YtbhpohopfbcfgaaDoorGwab
import Derived.Test.YtbhpohopfbcfgaaDoorGwae
import Derived.Test.YtbhpohopfbcfgaaDoorGwag
import Derived.Test.YtbhpohopfbcfgaaDoorGws
set_option linter.unusedSimpArgs false
set_option linter.unusedVariables false
set_option linter.unusedSectionVars false
namespace Go.Proofs.YtbhpohopfbcfgaaDoor
open Go.RowKit
set_option maxHeartbeats 4000000 in
set_option maxRecDepth 20000 in
theorem c_s_DrawUnmapPage (fl : Nat) (w : World) (a0 : (List UInt8)) (p0_0 : Option Addr) (n0_0 c0_0 : Nat) (hn0_0 : n0_0 = (a0).length) (hr0_0 : RO w (hkeys []) (RdL p0_0 c0_0 a0)) (r : T × K) (H0 : s_DrawUnmapPage fl a0 = some r) :
    Ct Tryd.prog 17 [.slice p0_0 n0_0 c0_0] w [] (fun rv h' => ∃ (x0 : Option Addr) (y0 z0 : Nat) (C0 : Res) (x1 : Option Addr) (y1 z1 : Nat) (C1 : Res), rv = .tuple #[.agg #[.slice x0 y0 z0, .slice x1 y1 z1], .agg #[.int .i64 r.2.s, .int .i64 r.2.p]] ∧ h' = [(0, C0), (1, C1)] ∧ y0 = (r.1.b).length ∧ OwnC 3 x0 z0 r.1.b C0 ∧ y1 = (r.1.f).length ∧ OwnC 58 x1 z1 r.1.f C1) := by
  obtain rfl := hn0_0
  unfold s_DrawUnmapPage at H0
  refine ct_of_cw Tryd.func17 rfl Tryd.ntmps17 rfl (Sat.refl _ _) ?_
  refine sr (oE (stpU_alloc 0 tz26 rfl) rfl ?_)
  rintro _ _ ⟨b1, rfl, rfl⟩
  refine oE (stpU_alloc 1 tz28 rfl) rfl ?_
  rintro _ _ ⟨b2, rfl, rfl⟩
  refine nn (sr (oD (mv rfl) rfl (oE (stpU_call (fun i => 2 + i) cf22 (fun w hw => c_open22 w a0 p0_0 ((a0).length) c0_0 rfl (RO.cap hr0_0).1) (sevs_cons rfl sevs_nil)) rfl ?_)))
  rintro _ _ ⟨_, ⟨b3, rfl, rfl⟩, rfl⟩
  obtain ⟨x4, e4, H0⟩ := bind_some H0
  refine oE (stpU_callM (fun i => bif Nat.beq i 0 then 2 else 3 + i) cf46 (fun w hw hb => c_s_l3At fl w b3 (a0.take 2000) p0_0 (((a0.take 2000)).length) c0_0 0 rfl (RO.passM (RO.takeN 2000 hr0_0) hw hb) (hw.pass (js := [2]) ⟨2, [], rfl, rfl, trivial⟩ (by decide)) x4 e4) (sevs_cons rfl sevs_nil) ⟨rfl, (fun _ _ hp => by obtain ⟨_, _, _, _, _, _, _, _, _, rfl, _⟩ := hp; exact ⟨_, rfl⟩), trivial⟩) rfl ?_
  rintro _ _ ⟨_, ⟨p5, n6, c7, C8, p9, n10, c11, C12, rfl, rfl, hnn6, o8, hnn10, o12⟩, rfl⟩
  obtain rfl := hnn6
  obtain rfl := hnn10
  refine oD (stp_extract rfl rfl) rfl (oD (stp_extract rfl rfl) rfl (oF (stpU_store (id := 0) (cs' := [.slice p5 ((x4.1.b).length) c7, .slice p9 ((x4.1.f).length) c11]) ts26 rfl rfl rfl rfl rfl rfl rfl) ?_))
  rintro _ _ rfl
  refine oF (stpU_store (id := 1) (cs' := [.int .i64 x4.2.1.s, .int .i64 x4.2.1.p]) ts28 rfl rfl rfl rfl rfl rfl rfl) ?_
  rintro _ _ rfl
  refine nn (cw_ret ?_)
  have q0 := Option.some.inj H0
  subst q0
  exact kw_ret Tryd.results17 (.cons (.cellN (us := [_, _]) ts26 rfl (Cells.box (id := 0) rfl 2 rfl)) (.cons (.cellN (us := [_, _]) ts28 rfl (Cells.box (id := 1) rfl 2 rfl)) .nil)) [(0, C8), (1, C12)] [4, 5] ⟨4, [5], rfl, rfl, 5, [], rfl, rfl, trivial⟩ (by decide) ⟨p5, ((x4.1.b).length), c7, C8, p9, ((x4.1.f).length), c11, C12, rfl, rfl, rfl, o8, rfl, o12⟩

set_option maxHeartbeats 4000000 in
set_option maxRecDepth 20000 in
theorem c_i_UnmapPage (fl : Nat) (w : World) (a0 : T) (p0_0 : Option Addr) (n0_0 c0_0 : Nat) (p0_1 : Option Addr) (n0_1 c0_1 : Nat) (a1 : K) (hn0_0 : n0_0 = (a0.b).length) (hr0_0 : RO w (hkeys []) (RdL p0_0 c0_0 a0.b)) (hn0_1 : n0_1 = (a0.f).length) (hr0_1 : RO w (hkeys []) (RdL p0_1 c0_1 a0.f)) (hg : RO w (hkeys []) (fun w' => w'.rangeAt 0 0 [.bool false, .int .i64 0, .int .i64 0, .int .i64 0, .int .i64 (-1)])) (r : T × Bool) (H0 : i_UnmapPage fl a0 a1 = some r) :
    Ct Tryd.prog 18 [.agg #[.slice p0_0 n0_0 c0_0, .slice p0_1 n0_1 c0_1], .agg #[.int .i64 a1.s, .int .i64 a1.p]] w [] (fun rv h' => ∃ (x0 : Option Addr) (y0 z0 : Nat) (C0 : Res) (x1 : Option Addr) (y1 z1 : Nat) (C1 : Res), rv = .tuple #[.agg #[.slice x0 y0 z0, .slice x1 y1 z1], .bool r.2] ∧ h' = [(0, C0), (1, C1)] ∧ y0 = (r.1.b).length ∧ OwnC 3 x0 z0 r.1.b C0 ∧ y1 = (r.1.f).length ∧ OwnC 58 x1 z1 r.1.f C1) := by
  obtain rfl := hn0_0
  obtain rfl := hn0_1
  unfold i_UnmapPage at H0
  refine ct_of_cw Tryd.func18 rfl Tryd.ntmps18 rfl (Sat.refl _ _) ?_
  refine sr (oE (stpU_box 0 rfl rfl) rfl ?_)
  rintro _ _ ⟨b1, rfl, rfl⟩
  refine oE (stpU_box 1 rfl rfl) rfl ?_
  rintro _ _ ⟨b2, rfl, rfl⟩
  refine oE (stpU_alloc 2 tz26 rfl) rfl ?_
  rintro _ _ ⟨b3, rfl, rfl⟩
  obtain ⟨x4, e4, H0⟩ := bind_some H0
  refine oD (sg rfl) rfl (nn (cw_seq (sr (oD (stp_loadN (us := [_, _]) ts26 rfl (Cells.box (id := 0) rfl 2 rfl)) rfl (oE (stpU_call (fun i => 3 + i) cf20 (fun w hw => c_i_TableValid fl w a0 p0_0 ((a0.b).length) c0_0 p0_1 ((a0.f).length) c0_1 rfl (RO.pass hr0_0 hw) rfl (RO.pass hr0_1 hw) (RO.pass hg hw) x4 e4) (sevs_cons rfl sevs_nil)) rfl ?_)))))
  rintro _ _ ⟨_, ⟨rfl, rfl⟩, rfl⟩
  obtain ⟨y5, ey5, H0⟩ := bind_some H0
  refine oD (stp_not rfl) rfl (oD (mv rfl) rfl (ow_cutY 4 18 y5 ?_ ?_))
  · rcases Bool.eq_false_or_eq_true (!x4) with hy5 | hy5
    · have ey5 := cond_t ey5 hy5
      refine oO rfl hy5 rfl (oO rfl hy5 rfl (oO rfl hy5 rfl (oD (stp_pick_t rfl hy5 rfl) rfl ?_)))
      obtain rfl := Option.some.inj ey5
      exact ow_nil (jy 4 0)
    · have ey5 := cond_f ey5 hy5
      obtain ⟨x6, e6, ey5⟩ := bind_some ey5
      refine oG rfl hy5 (stp_loadN (us := [_, _]) ts28 rfl (Cells.box (id := 1) rfl 2 rfl)) rfl (ow_eff (.some rfl hy5) (stpU_call (fun i => 3 + i) cf27 (fun w hw => c_i_KeyValid fl w a1 x6 e6) (sevs_cons rfl sevs_nil)) rfl ?_)
      rintro _ _ ⟨_, ⟨rfl, rfl⟩, rfl⟩
      refine oG rfl hy5 (stp_not rfl) rfl (oD (stp_pick_f rfl hy5 rfl) rfl ?_)
      obtain rfl := Option.some.inj ey5
      exact ow_nil (jy 4 0)
  · obtain ⟨y7, ey7, H0⟩ := bind_some H0
    refine oD (mv rfl) rfl (ow_cutY 5 24 y7 ?_ ?_)
    · rcases Bool.eq_false_or_eq_true y5 with hy7 | hy7
      · have ey7 := cond_t ey7 hy7
        refine oO rfl hy7 rfl (oO rfl hy7 rfl (oO rfl hy7 rfl (oO rfl hy7 rfl (oD (stp_pick_t rfl hy7 rfl) rfl ?_))))
        obtain rfl := Option.some.inj ey7
        exact ow_nil (jy 5 0)
      · have ey7 := cond_f ey7 hy7
        obtain ⟨x8, e8, ey7⟩ := bind_some ey7
        refine oG rfl hy7 (stp_loadN (us := [_, _]) ts26 rfl (Cells.box (id := 0) rfl 2 rfl)) rfl (oG rfl hy7 (stp_loadN (us := [_, _]) ts28 rfl (Cells.box (id := 1) rfl 2 rfl)) rfl (ow_eff (.some rfl hy7) (stpU_call (fun i => 3 + i) cf28 (fun w hw => c_i_Table_find fl w a0 p0_0 ((a0.b).length) c0_0 p0_1 ((a0.f).length) c0_1 a1 rfl (RO.pass hr0_0 hw) rfl (RO.pass hr0_1 hw) x8 e8) (sevs_cons rfl (sevs_cons rfl sevs_nil))) rfl ?_))
        rintro _ _ ⟨_, ⟨rfl, rfl⟩, rfl⟩
        refine oG rfl hy7 (stp_lss rfl rfl) rfl (oD (stp_pick_f rfl hy7 rfl) rfl ?_)
        obtain rfl := Option.some.inj ey7
        exact ow_nil (jy 5 0)
    · refine ow_nil (kw_nx (cw_cond rfl (fun h9 => ?_) (fun h9 => ?_)))
      · have H0 := cond_t H0 h9
        refine sr (oD (stp_build (cs := #[.slice none 0 0, .slice none 0 0]) sevp_nil bt26_0) rfl (oF (stpU_store (id := 2) (cs' := [.slice none 0 0, .slice none 0 0]) ts26 rfl rfl rfl rfl rfl rfl rfl) ?_))
        rintro _ _ rfl
        refine oD (sg rfl) rfl (nn (cw_ret (kw_nx_ret (kw_addNil 3 (kw_addNil 4 ?_)))))
        have q0 := Option.some.inj H0
        subst q0
        exact kw_ret Tryd.results18 (.cons (.cellN (us := [_, _]) ts26 rfl (Cells.box (id := 2) rfl 2 rfl)) (.cons (.tmp rfl) .nil)) [(0, []), (1, [])] [3, 4] ⟨3, [4], rfl, rfl, 4, [], rfl, rfl, trivial⟩ (by decide) ⟨none, 0, 0, [], none, 0, 0, [], rfl, rfl, rfl, (OwnC.nil _ _), rfl, (OwnC.nil _ _)⟩
      · have H0 := cond_f H0 h9
        obtain ⟨x10, e10, H0⟩ := bind_some H0
        refine cw_skip (kw_nx (sr (oD (stp_loadN (us := [_, _]) ts26 rfl (Cells.box (id := 0) rfl 2 rfl)) rfl (oE (stpU_call (fun i => 5 + i) cf31 (fun w hw => c_i_Table_clone fl w a0 p0_0 ((a0.b).length) c0_0 p0_1 ((a0.f).length) c0_1 rfl (RO.pass hr0_0 hw) rfl (RO.pass hr0_1 hw) x10 e10) (sevs_cons rfl sevs_nil)) rfl ?_))))
        rintro _ _ ⟨_, ⟨p11, n12, c13, C14, p15, n16, c17, C18, rfl, rfl, hnn12, o14, hnn16, o18⟩, rfl⟩
        obtain rfl := hnn12
        obtain rfl := hnn16
        refine oE (stpU_alloc 7 tz26 rfl) rfl ?_
        rintro _ _ ⟨b19, rfl, rfl⟩
        refine oF (stpU_store (id := 7) (cs' := [.slice p11 ((x10.b).length) c13, .slice p15 ((x10.f).length) c17]) ts26 rfl rfl rfl rfl rfl rfl rfl) ?_
        rintro _ _ rfl
        obtain ⟨x20, e20, H0⟩ := bind_some H0
        refine nn (sr (oD (stp_loadN (us := [_, _]) ts26 rfl (Cells.box (id := 0) rfl 2 rfl)) rfl (oD (stp_loadN (us := [_, _]) ts28 rfl (Cells.box (id := 1) rfl 2 rfl)) rfl (oE (stpU_call (fun i => 8 + i) cf28 (fun w hw => c_i_Table_find fl w a0 p0_0 ((a0.b).length) c0_0 p0_1 ((a0.f).length) c0_1 a1 rfl (RO.pass hr0_0 hw) rfl (RO.pass hr0_1 hw) x20 e20) (sevs_cons rfl (sevs_cons rfl sevs_nil))) rfl ?_))))
        rintro _ _ ⟨_, ⟨rfl, rfl⟩, rfl⟩
        obtain ⟨x21, e21, H0⟩ := bind_some H0
        refine oD (sg rfl) rfl (nn (sr (oD (fA 1 Tryd.underlying26 rfl ts24 rfl rfl rfl) rfl (oD (lB 0 ts24 rfl rfl rfl) rfl (oD (mv rfl) rfl (oD (stp_indexAddr Tryd.underlying24 ts58 (by decide) rfl rfl rfl (Rdb.ro hr0_1) e21) rfl (oD (fA 4 Tryd.underlying58 rfl ts3 rfl rfl rfl) rfl (oD (stp_load1 ts3 rfl (Cells.el (Rdb.ro hr0_1) (by decide) e21 4 1 rfl)) rfl (oD (sg rfl) rfl (nn (sr (oD (stp_loadN (us := [_, _]) ts28 rfl (Cells.box (id := 1) rfl 2 rfl)) rfl (oD (fA 0 Tryd.underlying26 rfl ts23 rfl rfl rfl) rfl ?_)))))))))))))
        obtain ⟨x22, e22, H0⟩ := bind_some H0
        refine oD (lB 0 ts23 rfl rfl rfl) rfl (oD (stp_len Tryd.underlying23 rfl) rfl (oE (stpU_call (fun i => 8 + i) cf41 (fun w hw => c_i_hash fl w a1 ((a0.b).length : Int) x22 e22) (sevs_cons rfl (sevs_cons rfl sevs_nil))) rfl ?_))
        rintro _ _ ⟨_, ⟨rfl, rfl⟩, rfl⟩
        obtain ⟨x23, e23, H0⟩ := bind_some H0
        refine oD (sg rfl) rfl (nn (cw_seq (sr (oD (fA 0 Tryd.underlying26 rfl ts23 rfl rfl rfl) rfl (oD (lB 7 ts23 rfl rfl rfl) rfl (oD (mv rfl) rfl (oD (stp_indexAddr Tryd.underlying23 ts3 (by decide) rfl rfl rfl (Rdb.own (id := 5) rfl o14) e23) rfl (oD (stp_load1 ts3 rfl (Cells.el (Rdb.own (id := 5) rfl o14) (by decide) e23 0 1 rfl)) rfl (oD (mv rfl) rfl (oD (stp_eql rfl rfl) rfl (nn (cw_cond rfl (fun h24 => ?_) (fun h24 => ?_)))))))))))))
        · have H0 := cond_t H0 h24
          refine cw_region (oD (fA 0 Tryd.underlying26 rfl ts23 rfl rfl rfl) rfl (oD (lB 7 ts23 rfl rfl rfl) rfl (oD (mv rfl) rfl (oD (mv rfl) rfl (oD (stp_indexAddr Tryd.underlying23 ts3 (by decide) rfl rfl rfl (Rdb.own (id := 5) rfl o14) e23) rfl (oF (stpU_storeEl (id := 5) (i := 0) x21.nx (by decide) ts3 rfl rfl rfl o14 e23 rfl rfl rfl rfl) ?_))))))
          rintro _ _ ⟨C25, rfl, o25⟩
          obtain ⟨x26, e26, H0⟩ := bind_some H0
          refine nn (sr (oD (fA 1 Tryd.underlying26 rfl ts24 rfl rfl rfl) rfl (oD (lB 7 ts24 rfl rfl rfl) rfl (oD (mv rfl) rfl (oD (stp_loadN (us := [_, _, _, _, _]) ts58 rfl (Cells.ofRO hg 5 rfl)) rfl (oD (stp_indexAddr Tryd.underlying24 ts58 (by decide) rfl rfl rfl (Rdb.own (id := 6) rfl o18) e26) rfl (oF (stpU_storeEl (id := 6) (i := 0) (⟨false, (⟨0, 0⟩ : K), 0, (-1)⟩ : F) (by decide) ts58 rfl rfl rfl o18 e26 rfl rfl rfl rfl) ?_)))))))
          rintro _ _ ⟨C27, rfl, o27⟩
          refine nn (sr (oD (stp_loadN (us := [_, _]) ts26 rfl (Cells.box (id := 7) rfl 2 rfl)) rfl (oF (stpU_store (id := 2) (cs' := [.slice p11 ((x10.b).length) c13, .slice p15 ((x10.f).length) c17]) ts26 rfl rfl rfl rfl rfl rfl rfl) ?_)))
          rintro _ _ rfl
          refine oD (sg rfl) rfl (nn (cw_ret ?_))
          have q0 := Option.some.inj H0
          subst q0
          exact kw_ret Tryd.results18 (.cons (.cellN (us := [_, _]) ts26 rfl (Cells.box (id := 2) rfl 2 rfl)) (.cons (.tmp rfl) .nil)) [(0, C25), (1, C27)] [5, 6] ⟨5, [6], rfl, rfl, 6, [], rfl, rfl, trivial⟩ (by decide) ⟨p11, ((x10.b).length), c13, C25, p15, ((x10.f).length), c17, C27, rfl, rfl, (by simp), o25, (by simp), o27⟩
        · have H0 := cond_f H0 h24
          obtain ⟨o0_0, eo0_0, H0⟩ := bind_some H0
          refine sr (oD (fA 1 Tryd.underlying26 rfl ts24 rfl rfl rfl) rfl (oD (lB 7 ts24 rfl rfl rfl) rfl (oD (stp_len Tryd.underlying24 rfl) rfl (oD (mv rfl) rfl (nn (cw_join (ι := (List F) × Int × Res) (fun | (v28, v30, C29) => o0_0 = .out (v28, v30) ∧ (x10.f).length = (v28).length ∧ OwnC (α := F) 58 p15 c17 v28 C29) (fun | (v28, v30, C29) => [(4, .pointer (some ⟨b3, 0, none⟩)), (6, .pointer (some ⟨b19, 0, none⟩)), (7, .int .i64 x20), (8, .int .i64 x21.nx), (56, .int .i64 ((x10.f).length : Int)), (57, .int .i64 v30)]) (fun | (v28, v30, C29) => [(2, [(b3, .cells #[.slice none 0 0, .slice none 0 0] 26 (0, 0))]), (5, C14), (6, C29), (7, [(b19, .cells #[.slice p11 ((x10.b).length) c13, .slice p15 ((x10.f).length) c17] 26 (0, 0))])]) ?_ ?_))))))
          · refine cw_block (cw_loopS (ι := Nat × (List F) × Int × Res) (js := [2, 5, 6, 7]) (fun x => x.1) (fun | (fuel, v28, v30, C29) => i_UnmapPage_L0 fl x10 x20 x21 fuel v28 v30 = some o0_0 ∧ (x10.f).length = (v28).length ∧ OwnC (α := F) 58 p15 c17 v28 C29) (fun | (_, v28, v30, C29) => [(4, .pointer (some ⟨b3, 0, none⟩)), (6, .pointer (some ⟨b19, 0, none⟩)), (7, .int .i64 x20), (8, .int .i64 x21.nx), (56, .int .i64 ((x10.f).length : Int)), (57, .int .i64 v30)]) (fun | (_, v28, v30, C29) => [(2, [(b3, .cells #[.slice none 0 0, .slice none 0 0] 26 (0, 0))]), (5, C14), (6, C29), (7, [(b19, .cells #[.slice p11 ((x10.b).length) c13, .slice p15 ((x10.f).length) c17] 26 (0, 0))])]) (fl, x10.f, 0, C18) ⟨eo0_0, rfl, o18⟩ ⟨rfl, rfl, rfl, rfl, rfl, rfl, trivial⟩ ⟨2, [5, 6, 7], rfl, rfl, 5, [6, 7], rfl, rfl, 6, [7], rfl, rfl, 7, [], rfl, rfl, trivial⟩ (by decide) ?_)
            rintro ⟨fuel, v28, v30, C29⟩ ⟨H1, hl29, o29⟩
            have H1 : i_UnmapPage_L0 fl x10 x20 x21 fuel v28 v30 = some o0_0 := H1
            rcases fuel with _ | fuel
            · rw [i_UnmapPage_L0.eq_1] at H1; cases H1
            rw [i_UnmapPage_L0.eq_2] at H1
            refine CW.sub (s' := [(4, .pointer (some ⟨b3, 0, none⟩)), (6, .pointer (some ⟨b19, 0, none⟩)), (7, .int .i64 x20), (8, .int .i64 x21.nx), (56, .int .i64 ((x10.f).length : Int)), (57, .int .i64 v30)]) (h' := [(2, [(b3, .cells #[.slice none 0 0, .slice none 0 0] 26 (0, 0))]), (5, C14), (6, C29), (7, [(b19, .cells #[.slice p11 ((x10.b).length) c13, .slice p15 ((x10.f).length) c17] 26 (0, 0))])]) ?_ ⟨rfl, rfl, rfl, rfl, rfl, rfl, trivial⟩ ⟨rfl, rfl, rfl, rfl, trivial⟩
            refine sr (oD (stp_lss rfl rfl) rfl (nn (cw_seq (cw_cond rfl (fun h31 => ?_) (fun h31 => ?_)))))
            · have H1 := cond_t H1 h31
              obtain ⟨x32, e32, H1⟩ := bind_some H1
              refine cw_skip (kw_nx (cw_seq (cw_block (sr (oD (mv rfl) rfl (oD (sg rfl) rfl (nn (sr (oD (fA 1 Tryd.underlying26 rfl ts24 rfl rfl rfl) rfl (oD (lB 7 ts24 rfl rfl rfl) rfl (oD (mv rfl) rfl (oD (stp_indexAddr Tryd.underlying24 ts58 (by decide) rfl (by simp [hl29]) rfl (Rdb.own (id := 6) rfl o29) e32) rfl (oD (fA 0 Tryd.underlying58 rfl ts4 rfl rfl rfl) rfl ?_)))))))))))))
              obtain ⟨y33, ey33, H1⟩ := bind_some H1
              refine oD (stp_load1 ts4 rfl (Cells.el (Rdb.own (id := 6) rfl o29) (by decide) e32 0 1 rfl)) rfl (oD (mv rfl) rfl (ow_cutY 9 75 y33 ?_ ?_))
              · rcases Bool.eq_false_or_eq_true x32.u with hy33 | hy33
                · have ey33 := cond_t ey33 hy33
                  refine oG rfl hy33 (fA 1 Tryd.underlying26 rfl ts24 rfl rfl rfl) rfl (oG rfl hy33 (lB 7 ts24 rfl rfl rfl) rfl (oG rfl hy33 (mv rfl) rfl (oG rfl hy33 (stp_indexAddr Tryd.underlying24 ts58 (by decide) rfl (by simp [hl29]) rfl (Rdb.own (id := 6) rfl o29) e32) rfl (oG rfl hy33 (fA 4 Tryd.underlying58 rfl ts3 rfl rfl rfl) rfl (oG rfl hy33 (stp_load1 ts3 rfl (Cells.el (Rdb.own (id := 6) rfl o29) (by decide) e32 4 1 rfl)) rfl (oG rfl hy33 (mv rfl) rfl (oG rfl hy33 (stp_eql rfl rfl) rfl (oD (stp_pick_t rfl hy33 rfl) rfl ?_))))))))
                  obtain rfl := Option.some.inj ey33
                  exact ow_nil (jy 9 0)
                · have ey33 := cond_f ey33 hy33
                  refine oO rfl hy33 rfl (oO rfl hy33 rfl (oO rfl hy33 rfl (oO rfl hy33 rfl (oO rfl hy33 rfl (oO rfl hy33 rfl (oO rfl hy33 rfl (oO rfl hy33 rfl (oD (stp_pick_f rfl hy33 rfl) rfl ?_))))))))
                  obtain rfl := Option.some.inj ey33
                  exact ow_nil (jy 9 0)
              · refine ow_nil (kw_nx (cw_cond rfl (fun h34 => ?_) (fun h34 => ?_)))
                · have H1 := cond_t H1 h34
                  refine cw_region (oD (fA 1 Tryd.underlying26 rfl ts24 rfl rfl rfl) rfl (oD (lB 7 ts24 rfl rfl rfl) rfl (oD (mv rfl) rfl (oD (mv rfl) rfl (oD (stp_indexAddr Tryd.underlying24 ts58 (by decide) rfl (by simp [hl29]) rfl (Rdb.own (id := 6) rfl o29) e32) rfl (oD (fA 4 Tryd.underlying58 rfl ts3 rfl rfl rfl) rfl (oF (stpU_storeEl (id := 6) (i := 4) (⟨x32.u, x32.k, x32.r, x21.nx⟩ : F) (by decide) ts3 rfl rfl rfl o29 e32 rfl rfl rfl rfl) ?_)))))))
                  rintro _ _ ⟨C35, rfl, o35⟩
                  obtain ⟨x36, e36, H1⟩ := bind_some H1
                  exact ow_nil (kw_bl_normal (kw_nx (cw_region (oD (stp_add rfl rfl e36) rfl (oD (mv rfl) rfl (ow_nil (kw_lqS (js := [2, 5, 6, 7]) (fuel, (v28.set (Int.toNat v30) (⟨x32.u, x32.k, x32.r, x21.nx⟩ : F)), x36, C35) ⟨H1, (by simp [hl29]), o35⟩ (Nat.lt_succ_self _) ⟨rfl, rfl, rfl, rfl, rfl, rfl, trivial⟩ ⟨2, [5, 6, 7], rfl, rfl, 5, [6, 7], rfl, rfl, 6, [7], rfl, rfl, 7, [], rfl, rfl, trivial⟩ (by decide))))))))
                · have H1 := cond_f H1 h34
                  obtain ⟨x37, e37, H1⟩ := bind_some H1
                  exact cw_skip (kw_bl_normal (kw_nx (cw_region (oD (stp_add rfl rfl e37) rfl (oD (mv rfl) rfl (ow_nil (kw_lqS (js := [2, 5, 6, 7]) (fuel, v28, x37, C29) ⟨H1, (by simp [hl29]), o29⟩ (Nat.lt_succ_self _) ⟨rfl, rfl, rfl, rfl, rfl, rfl, trivial⟩ ⟨2, [5, 6, 7], rfl, rfl, 5, [6, 7], rfl, rfl, 6, [7], rfl, rfl, 7, [], rfl, rfl, trivial⟩ (by decide))))))))
            · have H1 := cond_f H1 h31
              refine cw_exit (kw_nx_exit (kw_lq_exit (kw_bl ?_)))
              have q1 := Option.some.inj H1
              subst q1
              exact kw_joinS (js := [2, 5, 6, 7]) (v28, v30, C29) ⟨rfl, (by simp [hl29]), o29⟩ ⟨rfl, rfl, rfl, rfl, rfl, rfl, trivial⟩ ⟨2, [5, 6, 7], rfl, rfl, 5, [6, 7], rfl, rfl, 6, [7], rfl, rfl, 7, [], rfl, rfl, trivial⟩ (by decide)
          · rintro ⟨v28, v30, C29⟩ ⟨rfl, hl29, o29⟩
            refine KW.sub (s' := [(4, .pointer (some ⟨b3, 0, none⟩)), (6, .pointer (some ⟨b19, 0, none⟩)), (7, .int .i64 x20), (8, .int .i64 x21.nx), (56, .int .i64 ((x10.f).length : Int)), (57, .int .i64 v30)]) (h' := [(2, [(b3, .cells #[.slice none 0 0, .slice none 0 0] 26 (0, 0))]), (5, C14), (6, C29), (7, [(b19, .cells #[.slice p11 ((x10.b).length) c13, .slice p15 ((x10.f).length) c17] 26 (0, 0))])]) ?_ ⟨rfl, rfl, rfl, rfl, rfl, rfl, trivial⟩ ⟨rfl, rfl, rfl, rfl, trivial⟩
            obtain ⟨x38, e38, H0⟩ := bind_some H0
            refine kw_nx (sr (oD (fA 1 Tryd.underlying26 rfl ts24 rfl rfl rfl) rfl (oD (lB 7 ts24 rfl rfl rfl) rfl (oD (mv rfl) rfl (oD (stp_loadN (us := [_, _, _, _, _]) ts58 rfl (Cells.ofRO hg 5 rfl)) rfl (oD (stp_indexAddr Tryd.underlying24 ts58 (by decide) rfl (by simp [hl29]) rfl (Rdb.own (id := 6) rfl o29) e38) rfl (oF (stpU_storeEl (id := 6) (i := 0) (⟨false, (⟨0, 0⟩ : K), 0, (-1)⟩ : F) (by decide) ts58 rfl rfl rfl o29 e38 rfl rfl rfl rfl) ?_)))))))
            rintro _ _ ⟨C39, rfl, o39⟩
            refine nn (sr (oD (stp_loadN (us := [_, _]) ts26 rfl (Cells.box (id := 7) rfl 2 rfl)) rfl (oF (stpU_store (id := 2) (cs' := [.slice p11 ((x10.b).length) c13, .slice p15 ((x10.f).length) c17]) ts26 rfl rfl rfl rfl rfl rfl rfl) ?_)))
            rintro _ _ rfl
            refine oD (sg rfl) rfl (nn (cw_ret ?_))
            have q0 := Option.some.inj H0
            subst q0
            exact kw_ret Tryd.results18 (.cons (.cellN (us := [_, _]) ts26 rfl (Cells.box (id := 2) rfl 2 rfl)) (.cons (.tmp rfl) .nil)) [(0, C14), (1, C39)] [5, 6] ⟨5, [6], rfl, rfl, 6, [], rfl, rfl, trivial⟩ (by decide) ⟨p11, ((x10.b).length), c13, C14, p15, ((x10.f).length), c17, C39, rfl, rfl, rfl, o14, (by simp [hl29]), o39⟩
end Go.Proofs.YtbhpohopfbcfgaaDoor
