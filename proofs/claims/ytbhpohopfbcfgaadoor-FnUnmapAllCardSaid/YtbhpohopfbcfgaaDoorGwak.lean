/- The walks: functions of the program return what their pure functions say. Printed by a program (gen.py). -/
import Derived.Test.YtbhpohopfbcfgaaDoorGp
import Derived.Test.YtbhpohopfbcfgaaDoorGt
import Derived.Test.YtbhpohopfbcfgaaDoorMan
import Derived.Test.YtbhpohopfbcfgaaDoorMap
import Derived.Test.YtbhpohopfbcfgaaDoorCpy
import Derived.Test.YtbhpohopfbcfgaaDoorBits
import Derived.Test.YtbhpohopfbcfgaaDoorGwaa
import Derived.Test.YtbhpohopfbcfgaaDoorGwab
import Derived.Test.YtbhpohopfbcfgaaDoorGwai
set_option linter.unusedSimpArgs false
set_option linter.unusedVariables false
set_option linter.unusedSectionVars false
namespace Go.Proofs.YtbhpohopfbcfgaaDoor
open Go.RowKit
set_option maxHeartbeats 4000000 in
set_option maxRecDepth 20000 in
theorem c_i_bucketsValid (fl : Nat) (w : World) (a0 : Int) (r : Bool) (H0 : i_bucketsValid fl a0 = some r) :
    Ct Tryd.prog 50 [.int .i64 a0] w [] (fun rv h' => rv = .bool r ∧ h' = []) := by
  unfold i_bucketsValid at H0
  refine ct_of_cw Tryd.func50 rfl Tryd.ntmps50 rfl (Sat.refl _ _) ?_
  obtain ⟨y1, ey1, H0⟩ := bind_some H0
  refine sr (oD (sg rfl) rfl (nn (sr (oD (mv rfl) rfl (oD (stp_geq rfl rfl) rfl (oD (mv rfl) rfl (ow_cutY 3 8 y1 ?_ ?_)))))))
  · rcases Bool.eq_false_or_eq_true (decide (1 ≤ a0)) with hy1 | hy1
    · have ey1 := cond_t ey1 hy1
      refine oG rfl hy1 (mv rfl) rfl (oG rfl hy1 (stp_leq rfl rfl) rfl (oD (stp_pick_t rfl hy1 rfl) rfl ?_))
      obtain rfl := Option.some.inj ey1
      exact ow_nil (jy 3 0)
    · have ey1 := cond_f ey1 hy1
      refine oO rfl hy1 rfl (oO rfl hy1 rfl (oD (stp_pick_f rfl hy1 rfl) rfl ?_))
      obtain rfl := Option.some.inj ey1
      exact ow_nil (jy 3 0)
  · refine oD (sg rfl) rfl (nn (cw_ret ?_))
    have q0 := Option.some.inj H0
    subst q0
    exact kw_ret Tryd.results50 (.cons (.tmp rfl) .nil) [] [] trivial (by decide) ⟨rfl, rfl⟩

set_option maxHeartbeats 4000000 in
set_option maxRecDepth 20000 in
theorem c_math_bits_Mul64 (fl : Nat) (w : World) (a0 : Int) (a1 : Int) (r : Int × Int) (H0 : math_bits_Mul64 fl a0 a1 = some r) :
    Ct Tryd.prog 84 [.int .u64 a0, .int .u64 a1] w [] (fun rv h' => rv = .tuple #[.int .u64 r.1, .int .u64 r.2] ∧ h' = []) := by
  unfold math_bits_Mul64 at H0
  refine ct_of_cw Tryd.func84 rfl Tryd.ntmps84 rfl (Sat.refl _ _) ?_
  refine sr (oD (sg rfl) rfl (oD (sg rfl) rfl (nn (sr (oD (mv rfl) rfl (oD (stp_andU rfl rfl) rfl (oD (sg rfl) rfl (nn (sr (oD (mv rfl) rfl (oD (stp_shr (d := 4294967296) (by decide) rfl rfl) rfl (oD (sg rfl) rfl (nn ?_)))))))))))))
  obtain ⟨x1, e1, H0⟩ := bind_some H0
  refine sr (oD (mv rfl) rfl (oD (stp_andU rfl rfl) rfl (oD (sg rfl) rfl (nn (sr (oD (mv rfl) rfl (oD (stp_shr (d := 4294967296) (by decide) rfl rfl) rfl (oD (sg rfl) rfl (nn (sr (oD (mv rfl) rfl (oD (mv rfl) rfl (oD (stp_mulU rfl rfl e1) rfl ?_)))))))))))))
  obtain ⟨x2, e2, H0⟩ := bind_some H0
  obtain ⟨x3, e3, H0⟩ := bind_some H0
  refine oD (sg rfl) rfl (nn (sr (oD (mv rfl) rfl (oD (mv rfl) rfl (oD (stp_mulU rfl rfl e2) rfl (oD (mv rfl) rfl (oD (stp_shr (d := 4294967296) (by decide) rfl rfl) rfl (oD (stp_addU rfl rfl e3) rfl (oD (sg rfl) rfl (nn (sr (oD (mv rfl) rfl (oD (stp_andU rfl rfl) rfl ?_)))))))))))))
  obtain ⟨x4, e4, H0⟩ := bind_some H0
  obtain ⟨x5, e5, H0⟩ := bind_some H0
  refine oD (sg rfl) rfl (nn (sr (oD (mv rfl) rfl (oD (stp_shr (d := 4294967296) (by decide) rfl rfl) rfl (oD (sg rfl) rfl (nn (sr (oD (mv rfl) rfl (oD (mv rfl) rfl (oD (mv rfl) rfl (oD (stp_mulU rfl rfl e4) rfl (oD (stp_addU rfl rfl e5) rfl (oD (sg rfl) rfl ?_)))))))))))))
  obtain ⟨x6, e6, H0⟩ := bind_some H0
  obtain ⟨x7, e7, H0⟩ := bind_some H0
  obtain ⟨x8, e8, H0⟩ := bind_some H0
  refine nn (sr (oD (mv rfl) rfl (oD (mv rfl) rfl (oD (stp_mulU rfl rfl e6) rfl (oD (mv rfl) rfl (oD (stp_addU rfl rfl e7) rfl (oD (mv rfl) rfl (oD (stp_shr (d := 4294967296) (by decide) rfl rfl) rfl (oD (stp_addU rfl rfl e8) rfl (oD (sg rfl) rfl (nn (sr (oD (mv rfl) rfl ?_)))))))))))))
  obtain ⟨x9, e9, H0⟩ := bind_some H0
  refine oD (mv rfl) rfl (oD (stp_mulU rfl rfl e9) rfl (oD (sg rfl) rfl (nn (cw_ret ?_))))
  have q0 := Option.some.inj H0
  subst q0
  exact kw_ret Tryd.results84 (.cons (.tmp rfl) (.cons (.tmp rfl) .nil)) [] [] trivial (by decide) ⟨rfl, rfl⟩

set_option maxHeartbeats 4000000 in
set_option maxRecDepth 20000 in
theorem c_math_bits_Mul (fl : Nat) (w : World) (a0 : Int) (a1 : Int) (r : Int × Int) (H0 : math_bits_Mul fl a0 a1 = some r) :
    Ct Tryd.prog 71 [.int .u64 a0, .int .u64 a1] w [] (fun rv h' => rv = .tuple #[.int .u64 r.1, .int .u64 r.2] ∧ h' = []) := by
  unfold math_bits_Mul at H0
  refine ct_of_cw Tryd.func71 rfl Tryd.ntmps71 rfl (Sat.refl _ _) ?_
  refine sr (oD (sg rfl) rfl (oD (sg rfl) rfl (nn (cw_seq (cw_cond rfl (fun h1 => ?_) (fun h1 => ?_))))))
  · cases h1
  · have H0 := cond_f H0 h1
    obtain ⟨x2, e2, H0⟩ := bind_some H0
    refine cw_skip (kw_nx (sr (oD (mv rfl) rfl (oD (mv rfl) rfl (oE (stpU_call (fun i => 0 + i) cf84 (fun w hw => c_math_bits_Mul64 fl w a0 a1 x2 e2) (sevs_cons rfl (sevs_cons rfl sevs_nil))) rfl ?_)))))
    rintro _ _ ⟨_, ⟨rfl, rfl⟩, rfl⟩
    refine oD (mv rfl) rfl (oD (stp_extract rfl rfl) rfl (oD (stp_extract rfl rfl) rfl (oD (sg rfl) rfl (oD (sg rfl) rfl (nn (sr (oD (mv rfl) rfl (oD (mv rfl) rfl (oD (sg rfl) rfl (oD (sg rfl) rfl (nn (cw_ret ?_))))))))))))
    have q0 := Option.some.inj H0
    subst q0
    exact kw_ret Tryd.results71 (.cons (.tmp rfl) (.cons (.tmp rfl) .nil)) [] [] trivial (by decide) ⟨rfl, rfl⟩

set_option maxHeartbeats 4000000 in
set_option maxRecDepth 20000 in
theorem c_slices_Repeat_Int (fl : Nat) (w : World) (a0 : (List Int)) (p0_0 : Option Addr) (n0_0 c0_0 : Nat) (a1 : Int) (hn0_0 : n0_0 = (a0).length) (hr0_0 : RO w (hkeys []) (RdL p0_0 c0_0 a0)) (r : (List Int)) (H0 : slices_Repeat_Int fl a0 a1 = some r) :
    Ct Tryd.prog 51 [.slice p0_0 n0_0 c0_0, .int .i64 a1] w [] (fun rv h' => ∃ (x0 : Option Addr) (y0 z0 : Nat) (C0 : Res), rv = .slice x0 y0 z0 ∧ h' = [(0, C0)] ∧ y0 = (r).length ∧ OwnC 3 x0 z0 r C0) := by
  obtain rfl := hn0_0
  unfold slices_Repeat_Int at H0
  refine ct_of_cw Tryd.func51 rfl Tryd.ntmps51 rfl (Sat.refl _ _) ?_
  refine sr (oD (sg rfl) rfl (nn (cw_seq (sr (oD (mv rfl) rfl (oD (stp_lss rfl rfl) rfl (nn (cw_cond rfl (fun h1 => ?_) (fun h1 => ?_)))))))))
  · have H0 := cond_t H0 h1; cases H0
  · have H0 := cond_f H0 h1
    obtain ⟨x2, e2, H0⟩ := bind_some H0
    obtain ⟨x3, e3, H0⟩ := bind_some H0
    obtain ⟨x4, e4, H0⟩ := bind_some H0
    refine cw_skip (kw_nx (sr (oD (mv rfl) rfl (oD (stp_len Tryd.underlying23 rfl) rfl (oD (stp_convU Tryd.underlying3 Tryd.underlying90 rfl e2) rfl (oD (mv rfl) rfl (oD (stp_convU Tryd.underlying3 Tryd.underlying90 rfl e3) rfl (oE (stpU_call (fun i => 0 + i) cf71 (fun w hw => c_math_bits_Mul fl w x2 x3 x4 e4) (sevs_cons rfl (sevs_cons rfl sevs_nil))) rfl ?_))))))))
    rintro _ _ ⟨_, ⟨rfl, rfl⟩, rfl⟩
    obtain ⟨y5, ey5, H0⟩ := bind_some H0
    refine oD (mv rfl) rfl (oD (stp_extract rfl rfl) rfl (oD (stp_extract rfl rfl) rfl (oD (sg rfl) rfl (oD (sg rfl) rfl (nn (cw_seq (sr (oD (mv rfl) rfl (oD (stp_gtr rfl rfl) rfl (oD (mv rfl) rfl (ow_cutY 3 26 y5 ?_ ?_)))))))))))
    · rcases Bool.eq_false_or_eq_true (decide (0 < x4.1)) with hy5 | hy5
      · have ey5 := cond_t ey5 hy5
        refine oO rfl hy5 rfl (oO rfl hy5 rfl (oD (stp_pick_t rfl hy5 rfl) rfl ?_))
        obtain rfl := Option.some.inj ey5
        exact ow_nil (jy 3 0)
      · have ey5 := cond_f ey5 hy5
        refine oG rfl hy5 (mv rfl) rfl (oG rfl hy5 (stp_gtr rfl rfl) rfl (oD (stp_pick_f rfl hy5 rfl) rfl ?_))
        obtain rfl := Option.some.inj ey5
        exact ow_nil (jy 3 0)
    · refine ow_nil (kw_nx (cw_cond rfl (fun h6 => ?_) (fun h6 => ?_)))
      · have H0 := cond_t H0 h6; cases H0
      · have H0 := cond_f H0 h6
        obtain ⟨x7, e7, H0⟩ := bind_some H0
        obtain ⟨x8, e8, H0⟩ := bind_some H0
        refine cw_skip (kw_nx (sr (oD (mv rfl) rfl (oD (stp_convI Tryd.underlying90 Tryd.underlying3 rfl e7) rfl (oE (stpU_make sl23 rfl 0 rfl rfl e8) rfl ?_)))))
        rintro _ _ ⟨p9, C10, rfl, rfl, o10⟩
        refine oD (sg rfl) rfl (nn (sr (oD (mv rfl) rfl (oD (mv rfl) rfl (oE (stpU_copyW (id := 0) sl23 rfl (by simp) rfl rfl rfl o10 (Rdb.ro hr0_0)) rfl ?_)))))
        rintro _ _ ⟨C11, rfl, rfl, o11⟩
        obtain ⟨o0_0, eo0_0, H0⟩ := bind_some H0
        refine oD (sg rfl) rfl (nn (cw_seq (cw_join (ι := (List Int) × Int × Res) (fun | (v12, v14, C13) => o0_0 = .out (v12, v14) ∧ x8 = (v12).length ∧ OwnC (α := Int) 3 p9 x8 v12 C13) (fun | (v12, v14, C13) => [(7, .slice p9 x8 x8), (8, .int .i64 v14)]) (fun | (v12, v14, C13) => [(0, C13)]) ?_ ?_)))
        · refine cw_block (cw_loopS (ι := Nat × (List Int) × Int × Res) (js := [0]) (fun x => x.1) (fun | (fuel, v12, v14, C13) => slices_Repeat_Int_L0 fl x8 fuel v12 v14 = some o0_0 ∧ x8 = (v12).length ∧ OwnC (α := Int) 3 p9 x8 v12 C13) (fun | (_, v12, v14, C13) => [(7, .slice p9 x8 x8), (8, .int .i64 v14)]) (fun | (_, v12, v14, C13) => [(0, C13)]) (fl, (cpy (List.replicate x8 (0 : Int)) 0 a0), ((min (a0).length (((List.replicate x8 (0 : Int))).length - 0) : Nat) : Int), C11) ⟨eo0_0, (by simp [cpy_len]), o11⟩ ⟨rfl, rfl, trivial⟩ ⟨0, [], rfl, rfl, trivial⟩ (by decide) ?_)
          rintro ⟨fuel, v12, v14, C13⟩ ⟨H1, hl13, o13⟩
          have H1 : slices_Repeat_Int_L0 fl x8 fuel v12 v14 = some o0_0 := H1
          rcases fuel with _ | fuel
          · rw [slices_Repeat_Int_L0.eq_1] at H1; cases H1
          rw [slices_Repeat_Int_L0.eq_2] at H1
          refine CW.sub (s' := [(7, .slice p9 x8 x8), (8, .int .i64 v14)]) (h' := [(0, C13)]) ?_ ⟨rfl, rfl, trivial⟩ ⟨rfl, trivial⟩
          refine cw_seq (sr (oD (mv rfl) rfl (oD (mv rfl) rfl (oD (stp_len Tryd.underlying23 rfl) rfl (oD (stp_lss rfl rfl) rfl (nn (cw_cond rfl (fun h15 => ?_) (fun h15 => ?_))))))))
          · have H1 := cond_t H1 h15
            obtain ⟨x16, e16, H1⟩ := bind_some H1
            obtain ⟨x17, e17, H1⟩ := bind_some H1
            obtain ⟨x19, e19, H1⟩ := bind_some H1
            refine cw_skip (kw_nx (cw_block (rdr g_mixed [7, 8] [0] { dst := dS [39, 40, 41, 42, 43, 44, 45, 46, 47, 9], pre := gA [] [[], [], [], [1, 2], [], [], [4, 5], rn 1 6, rn 0 8, rn 0 9], ids := gA [] [[], [], [], [], [], [], [], [0]], rs := rL [[(8, 0)], [(7, 0)], [(8, 0)], [(39, 2), (40, 3)], [(7, 0)], [(8, 0)], [(42, 5), (43, 6)], [(41, 4), (44, 7)], [(38, 1), (45, 8)], [(46, 9)]], rh := rL [[], [], [], [(0, 0)], [], [], [(0, 0)], [(0, 0)]], V := fun i g => gA undef [.int .i64 v14, .slice p9 x8 x8, .int .i64 v14, .slice (dropA p9 x8 v14 1) ((x16).length) (x8 - Int.toNat v14), .slice p9 x8 x8, .int .i64 v14, .slice p9 ((x17).length) x8, .int .i64 ((min (x17).length ((v12).length - (Int.toNat v14)) : Nat) : Int), .int .i64 x19, .int .i64 x19] i, U := fun i g => match i with | 7 => [(0, ((g 7).R 0))] | _ => [], Φ := fun i x => match i with | 7 => OwnC (α := Int) 3 p9 x8 (cpy v12 (Int.toNat v14) x17) (x.R 0) | _ => True } ?_ ?_)))
            · refine ⟨⟨⟨⟨⟨⟨⟨⟨⟨⟨trivial, lc rfl rfl fun hs hh => stp_move (sv hs 8 rfl)⟩, lc rfl rfl fun hs hh => stp_move (sv hs 7 rfl)⟩, lc rfl rfl fun hs hh => stp_move (sv hs 8 rfl)⟩, lc rfl rfl fun hs hh => stp_drop Tryd.underlying23 ts3 (sv hs 39 rfl) (by simp [hl13]) (sv hs 40 rfl) (Rdb.own (id := 0) (hh.get 0 _ rfl) o13) e16⟩, lc rfl rfl fun hs hh => stp_move (sv hs 7 rfl)⟩, lc rfl rfl fun hs hh => stp_move (sv hs 8 rfl)⟩, lc rfl rfl fun hs hh => stp_take Tryd.underlying23 ts3 (sv hs 42 rfl) (by simp [hl13]) (sv hs 43 rfl) (Rdb.own (id := 0) (hh.get 0 _ rfl) o13) e17⟩, ?_⟩, lc rfl rfl fun hs hh => stp_add (sv hs 38 rfl) (sv hs 45 rfl) e19⟩, lc rfl rfl fun hs hh => stp_assign (sv hs 46 rfl)⟩
              · refine le rfl rfl (fun g hΦ s h hs hh => (stpU_copyD (id := 0) sl23 (sv hs 41 rfl) e16 rfl (sv hs 44 rfl) rfl (hh.get 0 _ rfl) o13 (Rdb.take (Rdb.own (id := 0) (hh.get 0 _ rfl) o13) e17))) ?_
                rintro g _ _ ⟨C18, rfl, rfl, o18⟩
                exact ⟨⟨[], [], [C18]⟩, o18, .inr rfl, rfl⟩
            · intro g hΦ
              refine kw_gen (ι := Res) ((g 7).R 0) (fun | C18 => OwnC (α := Int) 3 p9 x8 (cpy v12 (Int.toNat v14) x17) C18) (fun | C18 => [(7, .slice p9 x8 x8), (8, .int .i64 x19)]) (fun | C18 => [(0, C18)]) (hΦ 7 (by decide)) ⟨rfl, rfl, trivial⟩ ⟨rfl, trivial⟩ ?_
              rintro C18 o18
              have o18 : OwnC (α := Int) 3 p9 x8 (cpy v12 (Int.toNat v14) x17) C18 := o18
              refine KW.sub (s' := [(7, .slice p9 x8 x8), (8, .int .i64 x19)]) (h' := [(0, C18)]) ?_ ⟨rfl, rfl, trivial⟩ ⟨rfl, trivial⟩
              exact kw_bl_normal (kw_lqS (js := [0]) (fuel, (cpy v12 (Int.toNat v14) x17), x19, C18) ⟨H1, (by simp [cpy_len, hl13]), o18⟩ (Nat.lt_succ_self _) ⟨rfl, rfl, trivial⟩ ⟨0, [], rfl, rfl, trivial⟩ (by decide))
          · have H1 := cond_f H1 h15
            refine cw_exit (kw_nx_exit (kw_lq_exit (kw_bl ?_)))
            have q1 := Option.some.inj H1
            subst q1
            exact kw_joinS (js := [0]) (v12, v14, C13) ⟨rfl, (by simp [hl13]), o13⟩ ⟨rfl, rfl, trivial⟩ ⟨0, [], rfl, rfl, trivial⟩ (by decide)
        · rintro ⟨v12, v14, C13⟩ ⟨rfl, hl13, o13⟩
          refine KW.sub (s' := [(7, .slice p9 x8 x8), (8, .int .i64 v14)]) (h' := [(0, C13)]) ?_ ⟨rfl, rfl, trivial⟩ ⟨rfl, trivial⟩
          refine kw_nx (sr (oD (mv rfl) rfl (oD (sg rfl) rfl (nn (cw_ret ?_)))))
          have q0 := Option.some.inj H0
          subst q0
          exact kw_ret Tryd.results51 (.cons (.tmp rfl) .nil) [(0, C13)] [0] ⟨0, [], rfl, rfl, trivial⟩ (by decide) ⟨p9, x8, x8, C13, rfl, rfl, (by simp [hl13]), o13⟩

set_option maxHeartbeats 4000000 in
set_option maxRecDepth 20000 in
theorem c_slices_Repeat_Frame (fl : Nat) (w : World) (a0 : (List F)) (p0_0 : Option Addr) (n0_0 c0_0 : Nat) (a1 : Int) (hn0_0 : n0_0 = (a0).length) (hr0_0 : RO w (hkeys []) (RdL p0_0 c0_0 a0)) (r : (List F)) (H0 : slices_Repeat_Frame fl a0 a1 = some r) :
    Ct Tryd.prog 52 [.slice p0_0 n0_0 c0_0, .int .i64 a1] w [] (fun rv h' => ∃ (x0 : Option Addr) (y0 z0 : Nat) (C0 : Res), rv = .slice x0 y0 z0 ∧ h' = [(0, C0)] ∧ y0 = (r).length ∧ OwnC 58 x0 z0 r C0) := by
  obtain rfl := hn0_0
  unfold slices_Repeat_Frame at H0
  refine ct_of_cw Tryd.func52 rfl Tryd.ntmps52 rfl (Sat.refl _ _) ?_
  refine sr (oD (sg rfl) rfl (nn (cw_seq (sr (oD (mv rfl) rfl (oD (stp_lss rfl rfl) rfl (nn (cw_cond rfl (fun h1 => ?_) (fun h1 => ?_)))))))))
  · have H0 := cond_t H0 h1; cases H0
  · have H0 := cond_f H0 h1
    obtain ⟨x2, e2, H0⟩ := bind_some H0
    obtain ⟨x3, e3, H0⟩ := bind_some H0
    obtain ⟨x4, e4, H0⟩ := bind_some H0
    refine cw_skip (kw_nx (sr (oD (mv rfl) rfl (oD (stp_len Tryd.underlying24 rfl) rfl (oD (stp_convU Tryd.underlying3 Tryd.underlying90 rfl e2) rfl (oD (mv rfl) rfl (oD (stp_convU Tryd.underlying3 Tryd.underlying90 rfl e3) rfl (oE (stpU_call (fun i => 0 + i) cf71 (fun w hw => c_math_bits_Mul fl w x2 x3 x4 e4) (sevs_cons rfl (sevs_cons rfl sevs_nil))) rfl ?_))))))))
    rintro _ _ ⟨_, ⟨rfl, rfl⟩, rfl⟩
    obtain ⟨y5, ey5, H0⟩ := bind_some H0
    refine oD (mv rfl) rfl (oD (stp_extract rfl rfl) rfl (oD (stp_extract rfl rfl) rfl (oD (sg rfl) rfl (oD (sg rfl) rfl (nn (cw_seq (sr (oD (mv rfl) rfl (oD (stp_gtr rfl rfl) rfl (oD (mv rfl) rfl (ow_cutY 3 26 y5 ?_ ?_)))))))))))
    · rcases Bool.eq_false_or_eq_true (decide (0 < x4.1)) with hy5 | hy5
      · have ey5 := cond_t ey5 hy5
        refine oO rfl hy5 rfl (oO rfl hy5 rfl (oD (stp_pick_t rfl hy5 rfl) rfl ?_))
        obtain rfl := Option.some.inj ey5
        exact ow_nil (jy 3 0)
      · have ey5 := cond_f ey5 hy5
        refine oG rfl hy5 (mv rfl) rfl (oG rfl hy5 (stp_gtr rfl rfl) rfl (oD (stp_pick_f rfl hy5 rfl) rfl ?_))
        obtain rfl := Option.some.inj ey5
        exact ow_nil (jy 3 0)
    · refine ow_nil (kw_nx (cw_cond rfl (fun h6 => ?_) (fun h6 => ?_)))
      · have H0 := cond_t H0 h6; cases H0
      · have H0 := cond_f H0 h6
        obtain ⟨x7, e7, H0⟩ := bind_some H0
        obtain ⟨x8, e8, H0⟩ := bind_some H0
        refine cw_skip (kw_nx (sr (oD (mv rfl) rfl (oD (stp_convI Tryd.underlying90 Tryd.underlying3 rfl e7) rfl (oE (stpU_make sl24 rfl 0 rfl rfl e8) rfl ?_)))))
        rintro _ _ ⟨p9, C10, rfl, rfl, o10⟩
        refine oD (sg rfl) rfl (nn (sr (oD (mv rfl) rfl (oD (mv rfl) rfl (oE (stpU_copyW (id := 0) sl24 rfl (by simp) rfl rfl rfl o10 (Rdb.ro hr0_0)) rfl ?_)))))
        rintro _ _ ⟨C11, rfl, rfl, o11⟩
        obtain ⟨o0_0, eo0_0, H0⟩ := bind_some H0
        refine oD (sg rfl) rfl (nn (cw_seq (cw_join (ι := (List F) × Int × Res) (fun | (v12, v14, C13) => o0_0 = .out (v12, v14) ∧ x8 = (v12).length ∧ OwnC (α := F) 58 p9 x8 v12 C13) (fun | (v12, v14, C13) => [(7, .slice p9 x8 x8), (8, .int .i64 v14)]) (fun | (v12, v14, C13) => [(0, C13)]) ?_ ?_)))
        · refine cw_block (cw_loopS (ι := Nat × (List F) × Int × Res) (js := [0]) (fun x => x.1) (fun | (fuel, v12, v14, C13) => slices_Repeat_Frame_L0 fl x8 fuel v12 v14 = some o0_0 ∧ x8 = (v12).length ∧ OwnC (α := F) 58 p9 x8 v12 C13) (fun | (_, v12, v14, C13) => [(7, .slice p9 x8 x8), (8, .int .i64 v14)]) (fun | (_, v12, v14, C13) => [(0, C13)]) (fl, (cpy (List.replicate x8 (⟨false, (⟨0, 0⟩ : K), 0, 0⟩ : F)) 0 a0), ((min (a0).length (((List.replicate x8 (⟨false, (⟨0, 0⟩ : K), 0, 0⟩ : F))).length - 0) : Nat) : Int), C11) ⟨eo0_0, (by simp [cpy_len]), o11⟩ ⟨rfl, rfl, trivial⟩ ⟨0, [], rfl, rfl, trivial⟩ (by decide) ?_)
          rintro ⟨fuel, v12, v14, C13⟩ ⟨H1, hl13, o13⟩
          have H1 : slices_Repeat_Frame_L0 fl x8 fuel v12 v14 = some o0_0 := H1
          rcases fuel with _ | fuel
          · rw [slices_Repeat_Frame_L0.eq_1] at H1; cases H1
          rw [slices_Repeat_Frame_L0.eq_2] at H1
          refine CW.sub (s' := [(7, .slice p9 x8 x8), (8, .int .i64 v14)]) (h' := [(0, C13)]) ?_ ⟨rfl, rfl, trivial⟩ ⟨rfl, trivial⟩
          refine cw_seq (sr (oD (mv rfl) rfl (oD (mv rfl) rfl (oD (stp_len Tryd.underlying24 rfl) rfl (oD (stp_lss rfl rfl) rfl (nn (cw_cond rfl (fun h15 => ?_) (fun h15 => ?_))))))))
          · have H1 := cond_t H1 h15
            obtain ⟨x16, e16, H1⟩ := bind_some H1
            obtain ⟨x17, e17, H1⟩ := bind_some H1
            obtain ⟨x19, e19, H1⟩ := bind_some H1
            refine cw_skip (kw_nx (cw_block (rdr g_mixed [7, 8] [0] { dst := dS [39, 40, 41, 42, 43, 44, 45, 46, 47, 9], pre := gA [] [[], [], [], [1, 2], [], [], [4, 5], rn 1 6, rn 0 8, rn 0 9], ids := gA [] [[], [], [], [], [], [], [], [0]], rs := rL [[(8, 0)], [(7, 0)], [(8, 0)], [(39, 2), (40, 3)], [(7, 0)], [(8, 0)], [(42, 5), (43, 6)], [(41, 4), (44, 7)], [(38, 1), (45, 8)], [(46, 9)]], rh := rL [[], [], [], [(0, 0)], [], [], [(0, 0)], [(0, 0)]], V := fun i g => gA undef [.int .i64 v14, .slice p9 x8 x8, .int .i64 v14, .slice (dropA p9 x8 v14 5) ((x16).length) (x8 - Int.toNat v14), .slice p9 x8 x8, .int .i64 v14, .slice p9 ((x17).length) x8, .int .i64 ((min (x17).length ((v12).length - (Int.toNat v14)) : Nat) : Int), .int .i64 x19, .int .i64 x19] i, U := fun i g => match i with | 7 => [(0, ((g 7).R 0))] | _ => [], Φ := fun i x => match i with | 7 => OwnC (α := F) 58 p9 x8 (cpy v12 (Int.toNat v14) x17) (x.R 0) | _ => True } ?_ ?_)))
            · refine ⟨⟨⟨⟨⟨⟨⟨⟨⟨⟨trivial, lc rfl rfl fun hs hh => stp_move (sv hs 8 rfl)⟩, lc rfl rfl fun hs hh => stp_move (sv hs 7 rfl)⟩, lc rfl rfl fun hs hh => stp_move (sv hs 8 rfl)⟩, lc rfl rfl fun hs hh => stp_drop Tryd.underlying24 ts58 (sv hs 39 rfl) (by simp [hl13]) (sv hs 40 rfl) (Rdb.own (id := 0) (hh.get 0 _ rfl) o13) e16⟩, lc rfl rfl fun hs hh => stp_move (sv hs 7 rfl)⟩, lc rfl rfl fun hs hh => stp_move (sv hs 8 rfl)⟩, lc rfl rfl fun hs hh => stp_take Tryd.underlying24 ts58 (sv hs 42 rfl) (by simp [hl13]) (sv hs 43 rfl) (Rdb.own (id := 0) (hh.get 0 _ rfl) o13) e17⟩, ?_⟩, lc rfl rfl fun hs hh => stp_add (sv hs 38 rfl) (sv hs 45 rfl) e19⟩, lc rfl rfl fun hs hh => stp_assign (sv hs 46 rfl)⟩
              · refine le rfl rfl (fun g hΦ s h hs hh => (stpU_copyD (id := 0) sl24 (sv hs 41 rfl) e16 rfl (sv hs 44 rfl) rfl (hh.get 0 _ rfl) o13 (Rdb.take (Rdb.own (id := 0) (hh.get 0 _ rfl) o13) e17))) ?_
                rintro g _ _ ⟨C18, rfl, rfl, o18⟩
                exact ⟨⟨[], [], [C18]⟩, o18, .inr rfl, rfl⟩
            · intro g hΦ
              refine kw_gen (ι := Res) ((g 7).R 0) (fun | C18 => OwnC (α := F) 58 p9 x8 (cpy v12 (Int.toNat v14) x17) C18) (fun | C18 => [(7, .slice p9 x8 x8), (8, .int .i64 x19)]) (fun | C18 => [(0, C18)]) (hΦ 7 (by decide)) ⟨rfl, rfl, trivial⟩ ⟨rfl, trivial⟩ ?_
              rintro C18 o18
              have o18 : OwnC (α := F) 58 p9 x8 (cpy v12 (Int.toNat v14) x17) C18 := o18
              refine KW.sub (s' := [(7, .slice p9 x8 x8), (8, .int .i64 x19)]) (h' := [(0, C18)]) ?_ ⟨rfl, rfl, trivial⟩ ⟨rfl, trivial⟩
              exact kw_bl_normal (kw_lqS (js := [0]) (fuel, (cpy v12 (Int.toNat v14) x17), x19, C18) ⟨H1, (by simp [cpy_len, hl13]), o18⟩ (Nat.lt_succ_self _) ⟨rfl, rfl, trivial⟩ ⟨0, [], rfl, rfl, trivial⟩ (by decide))
          · have H1 := cond_f H1 h15
            refine cw_exit (kw_nx_exit (kw_lq_exit (kw_bl ?_)))
            have q1 := Option.some.inj H1
            subst q1
            exact kw_joinS (js := [0]) (v12, v14, C13) ⟨rfl, (by simp [hl13]), o13⟩ ⟨rfl, rfl, trivial⟩ ⟨0, [], rfl, rfl, trivial⟩ (by decide)
        · rintro ⟨v12, v14, C13⟩ ⟨rfl, hl13, o13⟩
          refine KW.sub (s' := [(7, .slice p9 x8 x8), (8, .int .i64 v14)]) (h' := [(0, C13)]) ?_ ⟨rfl, rfl, trivial⟩ ⟨rfl, trivial⟩
          refine kw_nx (sr (oD (mv rfl) rfl (oD (sg rfl) rfl (nn (cw_ret ?_)))))
          have q0 := Option.some.inj H0
          subst q0
          exact kw_ret Tryd.results52 (.cons (.tmp rfl) .nil) [(0, C13)] [0] ⟨0, [], rfl, rfl, trivial⟩ (by decide) ⟨p9, x8, x8, C13, rfl, rfl, (by simp [hl13]), o13⟩

set_option maxHeartbeats 4000000 in
set_option maxRecDepth 20000 in
theorem c_i_NewTable (fl : Nat) (w : World) (a0 : Int) (a1 : Int) (hg : RO w (hkeys []) (fun w' => w'.rangeAt 0 0 [.bool false, .int .i64 0, .int .i64 0, .int .i64 0, .int .i64 (-1)])) (r : T × Bool) (H0 : i_NewTable fl a0 a1 = some r) :
    Ct Tryd.prog 21 [.int .i64 a0, .int .i64 a1] w [] (fun rv h' => ∃ (x0 : Option Addr) (y0 z0 : Nat) (C0 : Res) (x1 : Option Addr) (y1 z1 : Nat) (C1 : Res), rv = .tuple #[.agg #[.slice x0 y0 z0, .slice x1 y1 z1], .bool r.2] ∧ h' = [(0, C0), (1, C1)] ∧ y0 = (r.1.b).length ∧ OwnC 3 x0 z0 r.1.b C0 ∧ y1 = (r.1.f).length ∧ OwnC 58 x1 z1 r.1.f C1) := by
  unfold i_NewTable at H0
  refine ct_of_cw Tryd.func21 rfl Tryd.ntmps21 rfl (Sat.refl _ _) ?_
  refine sr (oE (stpU_alloc 0 tz26 rfl) rfl ?_)
  rintro _ _ ⟨b1, rfl, rfl⟩
  obtain ⟨y2, ey2, H0⟩ := bind_some H0
  refine oD (sg rfl) rfl (nn (cw_seq (sr (oD (mv rfl) rfl (oD (stp_lss rfl rfl) rfl (oD (mv rfl) rfl (ow_cutY 3 11 y2 ?_ ?_)))))))
  · rcases Bool.eq_false_or_eq_true (decide (a0 < 1)) with hy2 | hy2
    · have ey2 := cond_t ey2 hy2
      refine oO rfl hy2 rfl (oO rfl hy2 rfl (oD (stp_pick_t rfl hy2 rfl) rfl ?_))
      obtain rfl := Option.some.inj ey2
      exact ow_nil (jy 3 0)
    · have ey2 := cond_f ey2 hy2
      refine oG rfl hy2 (mv rfl) rfl (oG rfl hy2 (stp_gtr rfl rfl) rfl (oD (stp_pick_f rfl hy2 rfl) rfl ?_))
      obtain rfl := Option.some.inj ey2
      exact ow_nil (jy 3 0)
  · obtain ⟨y3, ey3, H0⟩ := bind_some H0
    refine oD (mv rfl) rfl (ow_cutY 4 16 y3 ?_ ?_)
    · rcases Bool.eq_false_or_eq_true y2 with hy3 | hy3
      · have ey3 := cond_t ey3 hy3
        refine oO rfl hy3 rfl (oO rfl hy3 rfl (oO rfl hy3 rfl (oD (stp_pick_t rfl hy3 rfl) rfl ?_)))
        obtain rfl := Option.some.inj ey3
        exact ow_nil (jy 4 0)
      · have ey3 := cond_f ey3 hy3
        obtain ⟨x4, e4, ey3⟩ := bind_some ey3
        refine oG rfl hy3 (mv rfl) rfl (ow_eff (.some rfl hy3) (stpU_call (fun i => 1 + i) cf50 (fun w hw => c_i_bucketsValid fl w a1 x4 e4) (sevs_cons rfl sevs_nil)) rfl ?_)
        rintro _ _ ⟨_, ⟨rfl, rfl⟩, rfl⟩
        refine oG rfl hy3 (stp_not rfl) rfl (oD (stp_pick_f rfl hy3 rfl) rfl ?_)
        obtain rfl := Option.some.inj ey3
        exact ow_nil (jy 4 0)
    · refine ow_nil (kw_nx (cw_cond rfl (fun h5 => ?_) (fun h5 => ?_)))
      · have H0 := cond_t H0 h5
        refine sr (oD (stp_build (cs := #[.slice none 0 0, .slice none 0 0]) sevp_nil bt26_0) rfl (oF (stpU_store (id := 0) (cs' := [.slice none 0 0, .slice none 0 0]) ts26 rfl rfl rfl rfl rfl rfl rfl) ?_))
        rintro _ _ rfl
        refine oD (sg rfl) rfl (nn (cw_ret (kw_nx_ret (kw_addNil 1 (kw_addNil 2 ?_)))))
        have q0 := Option.some.inj H0
        subst q0
        exact kw_ret Tryd.results21 (.cons (.cellN (us := [_, _]) ts26 rfl (Cells.box (id := 0) rfl 2 rfl)) (.cons (.tmp rfl) .nil)) [(0, []), (1, [])] [1, 2] ⟨1, [2], rfl, rfl, 2, [], rfl, rfl, trivial⟩ (by decide) ⟨none, 0, 0, [], none, 0, 0, [], rfl, rfl, rfl, (OwnC.nil _ _), rfl, (OwnC.nil _ _)⟩
      · have H0 := cond_f H0 h5
        obtain ⟨x8, e8, H0⟩ := bind_some H0
        obtain ⟨x15, e15, H0⟩ := bind_some H0
        refine cw_skip (kw_nx (cw_seq (rdr g_mixed [0, 1, 4] [0] { dst := dS [19, 20, 21, 22, 23, 24, 25, 26, 0, 6], pre := gA [] [[], [], [0, 1], [], [3], [], rn 0 6, rn 0 7, rn 0 8, rn 0 9], ids := gA [] [[3], [], [4], [], [5], [], [6], [], [0]], rs := rL [[], [(1, 0)], [(18, 1), (19, 2)], [], [(21, 4)], [(0, 0)], [(22, 5), (23, 6)], [(20, 3), (24, 7)], [(4, 0), (25, 8)], []], rh := rL [[], [], [(3, 1)], [], [], [], [(5, 5)], [], [(0, 0)]], V := fun i g => gA undef [.slice ((g 0).A 0) 1 1, .int .i64 a1, .slice ((g 2).A 0) ((x8).length) ((g 2).C 0), .agg #[.bool false, .int .i64 0, .int .i64 0, .int .i64 0, .int .i64 (-1)], .slice ((g 4).A 0) 1 1, .int .i64 a0, .slice ((g 6).A 0) ((x15).length) ((g 6).C 0), .agg #[.slice ((g 2).A 0) ((x8).length) ((g 2).C 0), .slice ((g 6).A 0) ((x15).length) ((g 6).C 0)], undef, .bool true] i, U := fun i g => gA [] [[(3, ((g 0).R 0))], [], [(4, ((g 2).R 0))], [], [(5, ((g 4).R 0))], [], [(6, ((g 6).R 0))], [], [(0, [(b1, .cells #[.slice ((g 2).A 0) ((x8).length) ((g 2).C 0), .slice ((g 6).A 0) ((x15).length) ((g 6).C 0)] 26 (0, 0))])]] i, Φ := fun i x => gA True [OwnC (α := Int) 3 (x.A 0) 1 ([(-1)]) (x.R 0), True, OwnC (α := Int) 3 (x.A 0) (x.C 0) x8 (x.R 0), True, OwnC (α := F) 58 (x.A 0) 1 ([(⟨false, (⟨0, 0⟩ : K), 0, (-1)⟩ : F)]) (x.R 0), True, OwnC (α := F) 58 (x.A 0) (x.C 0) x15 (x.R 0)] i } ?_ ?_)))
        · refine ⟨⟨⟨⟨⟨⟨⟨⟨⟨⟨trivial, ?_⟩, lc rfl rfl fun hs hh => stp_move (sv hs 1 rfl)⟩, ?_⟩, lc rfl rfl fun hs hh => stp_loadN (us := [_, _, _, _, _]) ts58 rfl (Cells.ofRO hg 5 rfl)⟩, ?_⟩, lc rfl rfl fun hs hh => stp_move (sv hs 0 rfl)⟩, ?_⟩, ld rfl rfl fun g hΦ s h hs hh => stp_build (cs := #[.slice ((g 2).A 0) ((x8).length) ((g 2).C 0), .slice ((g 6).A 0) ((x15).length) ((g 6).C 0)]) (sevp_cons (sv hs 20 rfl) (sevp_cons (sv hs 24 rfl) sevp_nil)) bt26_3⟩, ?_⟩, lc rfl rfl fun hs hh => stp_assign rfl⟩
          · refine le rfl rfl (fun g hΦ s h hs hh => (stpU_lit (sz := 1) (l := [(-1)]) [.int .i64 (-1)] sl23 3 (sevp_cons rfl sevp_nil) rfl rfl rfl rfl rfl rfl rfl rfl rfl)) ?_
            rintro g _ _ ⟨p6, C7, rfl, rfl, o7⟩
            exact ⟨⟨[p6], [], [C7]⟩, o7, .inr rfl, rfl⟩
          · refine le rfl rfl (fun g hΦ s h hs hh => (stpU_call (fun i => 4 + i) cf51 (fun w hw => c_slices_Repeat_Int fl w ([(-1)]) ((g 0).A 0) 1 1 a1 (by simp) (OwnC.pass (id := 3) (hh.get 3 _ rfl) (hΦ 0 rfl) hw) x8 e8) (sevs_cons (sv hs 18 rfl) (sevs_cons (sv hs 19 rfl) sevs_nil)))) ?_
            rintro g _ _ ⟨_, ⟨p9, n10, c11, C12, rfl, rfl, hnn10, o12⟩, rfl⟩
            obtain rfl := hnn10
            exact ⟨⟨[p9], [c11], [C12]⟩, o12, .inr rfl, rfl⟩
          · refine le rfl rfl (fun g hΦ s h hs hh => (stpU_lit (sz := 5) (l := [(⟨false, (⟨0, 0⟩ : K), 0, (-1)⟩ : F)]) [.agg #[.bool false, .int .i64 0, .int .i64 0, .int .i64 0, .int .i64 (-1)]] sl24 5 (sevp_cons (sv hs 21 rfl) sevp_nil) rfl rfl rfl rfl rfl rfl rfl rfl rfl)) ?_
            rintro g _ _ ⟨p13, C14, rfl, rfl, o14⟩
            exact ⟨⟨[p13], [], [C14]⟩, o14, .inr rfl, rfl⟩
          · refine le rfl rfl (fun g hΦ s h hs hh => (stpU_call (fun i => 6 + i) cf52 (fun w hw => c_slices_Repeat_Frame fl w ([(⟨false, (⟨0, 0⟩ : K), 0, (-1)⟩ : F)]) ((g 4).A 0) 1 1 a0 (by simp) (OwnC.pass (id := 5) (hh.get 5 _ rfl) (hΦ 4 rfl) hw) x15 e15) (sevs_cons (sv hs 22 rfl) (sevs_cons (sv hs 23 rfl) sevs_nil)))) ?_
            rintro g _ _ ⟨_, ⟨p16, n17, c18, C19, rfl, rfl, hnn17, o19⟩, rfl⟩
            obtain rfl := hnn17
            exact ⟨⟨[p16], [c18], [C19]⟩, o19, .inr rfl, rfl⟩
          · refine le rfl rfl (fun g hΦ s h hs hh => (stpU_store (id := 0) (cs' := [.slice ((g 2).A 0) ((x8).length) ((g 2).C 0), .slice ((g 6).A 0) ((x15).length) ((g 6).C 0)]) ts26 (sv hs 4 rfl) (sv hs 25 rfl) (hh.get 0 _ rfl) rfl rfl rfl rfl)) ?_
            rintro g _ _ rfl
            exact ⟨⟨[], [], []⟩, trivial, .inl rfl, rfl⟩
        · intro g hΦ
          refine kw_gen (ι := Option Addr × Res × Option Addr × Nat × Res × Option Addr × Res × Option Addr × Nat × Res) (((g 0).A 0), ((g 0).R 0), ((g 2).A 0), ((g 2).C 0), ((g 2).R 0), ((g 4).A 0), ((g 4).R 0), ((g 6).A 0), ((g 6).C 0), ((g 6).R 0)) (fun | (p6, C7, p9, c11, C12, p13, C14, p16, c18, C19) => OwnC (α := Int) 3 p6 1 ([(-1)]) C7 ∧ OwnC (α := Int) 3 p9 c11 x8 C12 ∧ OwnC (α := F) 58 p13 1 ([(⟨false, (⟨0, 0⟩ : K), 0, (-1)⟩ : F)]) C14 ∧ OwnC (α := F) 58 p16 c18 x15 C19) (fun | (p6, C7, p9, c11, C12, p13, C14, p16, c18, C19) => [(4, .pointer (some ⟨b1, 0, none⟩)), (5, .bool true)]) (fun | (p6, C7, p9, c11, C12, p13, C14, p16, c18, C19) => [(0, [(b1, .cells #[.slice p9 ((x8).length) c11, .slice p16 ((x15).length) c18] 26 (0, 0))]), (4, C12), (6, C19)]) ⟨(hΦ 0 (by decide)), (hΦ 2 (by decide)), (hΦ 4 (by decide)), (hΦ 6 (by decide))⟩ ⟨rfl, rfl, trivial⟩ ⟨rfl, rfl, rfl, trivial⟩ ?_
          rintro ⟨p6, C7, p9, c11, C12, p13, C14, p16, c18, C19⟩ ⟨o7, o12, o14, o19⟩
          refine KW.sub (s' := [(4, .pointer (some ⟨b1, 0, none⟩)), (5, .bool true)]) (h' := [(0, [(b1, .cells #[.slice p9 ((x8).length) c11, .slice p16 ((x15).length) c18] 26 (0, 0))]), (4, C12), (6, C19)]) ?_ ⟨rfl, rfl, trivial⟩ ⟨rfl, rfl, rfl, trivial⟩
          refine kw_nx (cw_ret ?_)
          have q0 := Option.some.inj H0
          subst q0
          exact kw_ret Tryd.results21 (.cons (.cellN (us := [_, _]) ts26 rfl (Cells.box (id := 0) rfl 2 rfl)) (.cons (.tmp rfl) .nil)) [(0, C12), (1, C19)] [4, 6] ⟨4, [6], rfl, rfl, 6, [], rfl, rfl, trivial⟩ (by decide) ⟨p9, ((x8).length), c11, C12, p16, ((x15).length), c18, C19, rfl, rfl, rfl, o12, rfl, o19⟩

set_option maxHeartbeats 4000000 in
set_option maxRecDepth 20000 in
theorem c_l_FnUnmapAll (fl : Nat) (w : World) (a0 : (List UInt8)) (p0_0 : Option Addr) (n0_0 c0_0 : Nat) (hn0_0 : n0_0 = (a0).length) (hr0_0 : RO w (hkeys []) (RdL p0_0 c0_0 a0)) (hg : RO w (hkeys []) (fun w' => w'.rangeAt 0 0 [.bool false, .int .i64 0, .int .i64 0, .int .i64 0, .int .i64 (-1)])) (r : Bool) (H0 : l_FnUnmapAll fl a0 = some r) :
    Ct Tryd.prog 6 [.slice p0_0 n0_0 c0_0] w [] (fun rv h' => rv = .bool r ∧ h' = []) := by
  obtain rfl := hn0_0
  unfold l_FnUnmapAll at H0
  refine ct_of_cw Tryd.func6 rfl Tryd.ntmps6 rfl (Sat.refl _ _) ?_
  refine sr (oD (sg rfl) rfl (nn (cw_seq (sr (oD (mv rfl) rfl (oD (stp_len Tryd.underlying22 rfl) rfl (oD (stp_gtr rfl rfl) rfl (nn (cw_cond rfl (fun h1 => ?_) (fun h1 => ?_))))))))))
  · have H0 := cond_t H0 h1
    refine sr (oD (sg rfl) rfl (nn (cw_ret (kw_nx_ret ?_))))
    have q0 := Option.some.inj H0
    subst q0
    exact kw_ret Tryd.results6 (.cons (.tmp rfl) .nil) [] [] trivial (by decide) ⟨rfl, rfl⟩
  · have H0 := cond_f H0 h1
    obtain ⟨x2, e2, H0⟩ := bind_some H0
    refine cw_skip (kw_nx (sr (oD (mv rfl) rfl (oE (stpU_call (fun i => 0 + i) cf17 (fun w hw => c_s_DrawUnmapPage fl w a0 p0_0 ((a0).length) c0_0 rfl (RO.pass hr0_0 hw) x2 e2) (sevs_cons rfl sevs_nil)) rfl ?_))))
    rintro _ _ ⟨_, ⟨p3, n4, c5, C6, p7, n8, c9, C10, rfl, rfl, hnn4, o6, hnn8, o10⟩, rfl⟩
    obtain rfl := hnn4
    obtain rfl := hnn8
    refine oD (mv rfl) rfl (oD (stp_extract rfl rfl) rfl (oD (stp_extract rfl rfl) rfl (oE (stpU_alloc 2 tz26 rfl) rfl ?_)))
    rintro _ _ ⟨b11, rfl, rfl⟩
    refine oE (stpU_alloc 3 tz28 rfl) rfl ?_
    rintro _ _ ⟨b12, rfl, rfl⟩
    refine oF (stpU_store (id := 2) (cs' := [.slice p3 ((x2.1.b).length) c5, .slice p7 ((x2.1.f).length) c9]) ts26 rfl rfl rfl rfl rfl rfl rfl) ?_
    rintro _ _ rfl
    refine oF (stpU_store (id := 3) (cs' := [.int .i64 x2.2.s, .int .i64 x2.2.p]) ts28 rfl rfl rfl rfl rfl rfl rfl) ?_
    rintro _ _ rfl
    obtain ⟨x13, e13, H0⟩ := bind_some H0
    refine nn (sr (oD (stp_loadN (us := [_, _]) ts26 rfl (Cells.box (id := 2) rfl 2 rfl)) rfl (oD (stp_loadN (us := [_, _]) ts28 rfl (Cells.box (id := 3) rfl 2 rfl)) rfl (oE (stpU_call (fun i => 4 + i) cf18 (fun w hw => c_i_UnmapPage fl w x2.1 p3 ((x2.1.b).length) c5 p7 ((x2.1.f).length) c9 x2.2 rfl (OwnC.pass (id := 0) rfl o6 hw) rfl (OwnC.pass (id := 1) rfl o10 hw) (RO.pass hg hw) x13 e13) (sevs_cons rfl (sevs_cons rfl sevs_nil))) rfl ?_))))
    rintro _ _ ⟨_, ⟨p14, n15, c16, C17, p18, n19, c20, C21, rfl, rfl, hnn15, o17, hnn19, o21⟩, rfl⟩
    obtain rfl := hnn15
    obtain rfl := hnn19
    refine oD (mv rfl) rfl (oD (stp_extract rfl rfl) rfl (oD (stp_extract rfl rfl) rfl (oE (stpU_alloc 6 tz26 rfl) rfl ?_)))
    rintro _ _ ⟨b22, rfl, rfl⟩
    refine oF (stpU_store (id := 6) (cs' := [.slice p14 ((x13.1.b).length) c16, .slice p18 ((x13.1.f).length) c20]) ts26 rfl rfl rfl rfl rfl rfl rfl) ?_
    rintro _ _ rfl
    obtain ⟨x23, e23, H0⟩ := bind_some H0
    refine oD (sg rfl) rfl (nn (sr (oD (stp_loadN (us := [_, _]) ts26 rfl (Cells.box (id := 2) rfl 2 rfl)) rfl (oD (stp_loadN (us := [_, _]) ts28 rfl (Cells.box (id := 3) rfl 2 rfl)) rfl (oE (stpU_call (fun i => 7 + i) cf19 (fun w hw => c_s_UnmapPage fl w x2.1 p3 ((x2.1.b).length) c5 p7 ((x2.1.f).length) c9 x2.2 rfl (OwnC.pass (id := 0) rfl o6 hw) rfl (OwnC.pass (id := 1) rfl o10 hw) x23 e23) (sevs_cons rfl (sevs_cons rfl sevs_nil))) rfl ?_)))))
    rintro _ _ ⟨_, ⟨p24, n25, c26, C27, p28, n29, c30, C31, rfl, rfl, hnn25, o27, hnn29, o31⟩, rfl⟩
    obtain rfl := hnn25
    obtain rfl := hnn29
    refine oD (mv rfl) rfl (oD (stp_extract rfl rfl) rfl (oD (stp_extract rfl rfl) rfl (oE (stpU_alloc 9 tz26 rfl) rfl ?_)))
    rintro _ _ ⟨b32, rfl, rfl⟩
    refine oF (stpU_store (id := 9) (cs' := [.slice p24 ((x23.1.b).length) c26, .slice p28 ((x23.1.f).length) c30]) ts26 rfl rfl rfl rfl rfl rfl rfl) ?_
    rintro _ _ rfl
    obtain ⟨x33, e33, H0⟩ := bind_some H0
    refine oD (sg rfl) rfl (nn (cw_seq (sr (oD (stp_loadN (us := [_, _]) ts26 rfl (Cells.box (id := 6) rfl 2 rfl)) rfl (oD (stp_loadN (us := [_, _]) ts26 rfl (Cells.box (id := 9) rfl 2 rfl)) rfl (oE (stpU_call (fun i => 10 + i) cf10 (fun w hw => c_i_TableSame fl w x13.1 p14 ((x13.1.b).length) c16 p18 ((x13.1.f).length) c20 x23.1 p24 ((x23.1.b).length) c26 p28 ((x23.1.f).length) c30 rfl (OwnC.pass (id := 4) rfl o17 hw) rfl (OwnC.pass (id := 5) rfl o21 hw) rfl (OwnC.pass (id := 7) rfl o27 hw) rfl (OwnC.pass (id := 8) rfl o31 hw) x33 e33) (sevs_cons rfl (sevs_cons rfl sevs_nil))) rfl ?_))))))
    rintro _ _ ⟨_, ⟨rfl, rfl⟩, rfl⟩
    obtain ⟨y34, ey34, H0⟩ := bind_some H0
    refine oD (stp_not rfl) rfl (oD (mv rfl) rfl (ow_cutY 4 43 y34 ?_ ?_))
    · rcases Bool.eq_false_or_eq_true (!x33) with hy34 | hy34
      · have ey34 := cond_t ey34 hy34
        refine oO rfl hy34 rfl (oO rfl hy34 rfl (oO rfl hy34 rfl (oD (stp_pick_t rfl hy34 rfl) rfl ?_)))
        obtain rfl := Option.some.inj ey34
        exact ow_nil (jy 4 0)
      · have ey34 := cond_f ey34 hy34
        refine oG rfl hy34 (mv rfl) rfl (oG rfl hy34 (mv rfl) rfl (oG rfl hy34 (stp_neqB Tryd.underlying4 rfl rfl) rfl (oD (stp_pick_f rfl hy34 rfl) rfl ?_)))
        obtain rfl := Option.some.inj ey34
        exact ow_nil (jy 4 0)
    · obtain ⟨y35, ey35, H0⟩ := bind_some H0
      refine oD (mv rfl) rfl (ow_cutY 3 47 y35 ?_ ?_)
      · rcases Bool.eq_false_or_eq_true y34 with hy35 | hy35
        · have ey35 := cond_t ey35 hy35
          refine oO rfl hy35 rfl (oO rfl hy35 rfl (oD (stp_pick_t rfl hy35 rfl) rfl ?_))
          obtain rfl := Option.some.inj ey35
          exact ow_nil (jy 3 0)
        · have ey35 := cond_f ey35 hy35
          refine oG rfl hy35 (mv rfl) rfl (oG rfl hy35 (stp_not rfl) rfl (oD (stp_pick_f rfl hy35 rfl) rfl ?_))
          obtain rfl := Option.some.inj ey35
          exact ow_nil (jy 3 0)
      · refine ow_nil (kw_nx (cw_cond rfl (fun h36 => ?_) (fun h36 => ?_)))
        · have H0 := cond_t H0 h36
          refine sr (oD (stp_loadN (us := [_, _]) ts26 rfl (Cells.box (id := 6) rfl 2 rfl)) rfl (oD (stp_loadN (us := [_, _]) ts26 rfl (Cells.box (id := 9) rfl 2 rfl)) rfl (oE (stpU_call (fun i => 10 + i) cf10 (fun w hw => c_i_TableSame fl w x13.1 p14 ((x13.1.b).length) c16 p18 ((x13.1.f).length) c20 x23.1 p24 ((x23.1.b).length) c26 p28 ((x23.1.f).length) c30 rfl (OwnC.pass (id := 4) rfl o17 hw) rfl (OwnC.pass (id := 5) rfl o21 hw) rfl (OwnC.pass (id := 7) rfl o27 hw) rfl (OwnC.pass (id := 8) rfl o31 hw) x33 e33) (sevs_cons rfl (sevs_cons rfl sevs_nil))) rfl ?_)))
          rintro _ _ ⟨_, ⟨rfl, rfl⟩, rfl⟩
          obtain ⟨y37, ey37, H0⟩ := bind_some H0
          refine oD (mv rfl) rfl (ow_cutY 4 55 y37 ?_ ?_)
          · rcases Bool.eq_false_or_eq_true x33 with hy37 | hy37
            · have ey37 := cond_t ey37 hy37
              refine oG rfl hy37 (mv rfl) rfl (oG rfl hy37 (mv rfl) rfl (oG rfl hy37 (stp_eqlB Tryd.underlying4 rfl rfl) rfl (oD (stp_pick_t rfl hy37 rfl) rfl ?_)))
              obtain rfl := Option.some.inj ey37
              exact ow_nil (jy 4 0)
            · have ey37 := cond_f ey37 hy37
              refine oO rfl hy37 rfl (oO rfl hy37 rfl (oO rfl hy37 rfl (oD (stp_pick_f rfl hy37 rfl) rfl ?_)))
              obtain rfl := Option.some.inj ey37
              exact ow_nil (jy 4 0)
          · refine oD (sg rfl) rfl (nn (cw_ret (kw_nx_ret ?_)))
            have q0 := Option.some.inj H0
            subst q0
            exact kw_ret Tryd.results6 (.cons (.tmp rfl) .nil) [] [] trivial (by decide) ⟨rfl, rfl⟩
        · have H0 := cond_f H0 h36
          obtain ⟨x38, e38, H0⟩ := bind_some H0
          refine cw_skip (kw_nx (sr (oD (stp_loadN (us := [_, _]) ts26 rfl (Cells.box (id := 6) rfl 2 rfl)) rfl (oE (stpU_call (fun i => 10 + i) cf13 (fun w hw => c_i_KeysOf fl w x13.1 p14 ((x13.1.b).length) c16 p18 ((x13.1.f).length) c20 rfl (OwnC.pass (id := 4) rfl o17 hw) rfl (OwnC.pass (id := 5) rfl o21 hw) (RO.pass hg hw) x38 e38) (sevs_cons rfl sevs_nil)) rfl ?_))))
          rintro _ _ ⟨_, ⟨p39, n40, c41, C42, rfl, rfl, hnn40, o42⟩, rfl⟩
          obtain rfl := hnn40
          obtain ⟨o0_0, eo0_0, H0⟩ := bind_some H0
          refine oD (sg rfl) rfl (nn (cw_seq (sr (oD (sg rfl) rfl (nn (cw_join (ι := (List Int) × (List F) × Int × Option Addr × Nat × Nat × Res × Option Addr × Nat × Nat × Res) (fun | (v43, v48, v53, p44, n45, c46, C47, p49, n50, c51, C52) => o0_0 = .out (v43, v48, v53) ∧ n45 = (v43).length ∧ OwnC (α := Int) 3 p44 c46 v43 C47 ∧ n50 = (v48).length ∧ OwnC (α := F) 58 p49 c51 v48 C52) (fun | (v43, v48, v53, p44, n45, c46, C47, p49, n50, c51, C52) => [(3, .pointer (some ⟨b11, 0, none⟩)), (5, .pointer (some ⟨b22, 0, none⟩)), (9, .slice p39 ((x38).length) c41), (10, .int .i64 v53)]) (fun | (v43, v48, v53, p44, n45, c46, C47, p49, n50, c51, C52) => [(0, C6), (1, C10), (2, [(b11, .cells #[.slice p3 ((x2.1.b).length) c5, .slice p7 ((x2.1.f).length) c9] 26 (0, 0))]), (4, C47), (5, C52), (6, [(b22, .cells #[.slice p44 n45 c46, .slice p49 n50 c51] 26 (0, 0))]), (10, C42)]) ?_ ?_))))))
          · refine cw_block (cw_loopS (ι := Nat × (List Int) × (List F) × Int × Option Addr × Nat × Nat × Res × Option Addr × Nat × Nat × Res) (js := [0, 1, 2, 4, 5, 6, 10]) (fun x => x.1) (fun | (fuel, v43, v48, v53, p44, n45, c46, C47, p49, n50, c51, C52) => l_FnUnmapAll_L0 fl x38 fuel v43 v48 v53 = some o0_0 ∧ n45 = (v43).length ∧ OwnC (α := Int) 3 p44 c46 v43 C47 ∧ n50 = (v48).length ∧ OwnC (α := F) 58 p49 c51 v48 C52) (fun | (_, v43, v48, v53, p44, n45, c46, C47, p49, n50, c51, C52) => [(3, .pointer (some ⟨b11, 0, none⟩)), (5, .pointer (some ⟨b22, 0, none⟩)), (9, .slice p39 ((x38).length) c41), (10, .int .i64 v53)]) (fun | (_, v43, v48, v53, p44, n45, c46, C47, p49, n50, c51, C52) => [(0, C6), (1, C10), (2, [(b11, .cells #[.slice p3 ((x2.1.b).length) c5, .slice p7 ((x2.1.f).length) c9] 26 (0, 0))]), (4, C47), (5, C52), (6, [(b22, .cells #[.slice p44 n45 c46, .slice p49 n50 c51] 26 (0, 0))]), (10, C42)]) (fl, x13.1.b, x13.1.f, 0, p14, ((x13.1.b).length), c16, C17, p18, ((x13.1.f).length), c20, C21) ⟨eo0_0, rfl, o17, rfl, o21⟩ ⟨rfl, rfl, rfl, rfl, trivial⟩ ⟨0, [1, 2, 4, 5, 6, 10], rfl, rfl, 1, [2, 4, 5, 6, 10], rfl, rfl, 2, [4, 5, 6, 10], rfl, rfl, 4, [5, 6, 10], rfl, rfl, 5, [6, 10], rfl, rfl, 6, [10], rfl, rfl, 10, [], rfl, rfl, trivial⟩ (by decide) ?_)
            rintro ⟨fuel, v43, v48, v53, p44, n45, c46, C47, p49, n50, c51, C52⟩ ⟨H1, hnn45, o47, hnn50, o52⟩
            obtain rfl := hnn45
            obtain rfl := hnn50
            have H1 : l_FnUnmapAll_L0 fl x38 fuel v43 v48 v53 = some o0_0 := H1
            rcases fuel with _ | fuel
            · rw [l_FnUnmapAll_L0.eq_1] at H1; cases H1
            rw [l_FnUnmapAll_L0.eq_2] at H1
            refine CW.sub (s' := [(3, .pointer (some ⟨b11, 0, none⟩)), (5, .pointer (some ⟨b22, 0, none⟩)), (9, .slice p39 ((x38).length) c41), (10, .int .i64 v53)]) (h' := [(0, C6), (1, C10), (2, [(b11, .cells #[.slice p3 ((x2.1.b).length) c5, .slice p7 ((x2.1.f).length) c9] 26 (0, 0))]), (4, C47), (5, C52), (6, [(b22, .cells #[.slice p44 ((v43).length) c46, .slice p49 ((v48).length) c51] 26 (0, 0))]), (10, C42)]) ?_ ⟨rfl, rfl, rfl, rfl, trivial⟩ ⟨rfl, rfl, rfl, rfl, rfl, rfl, rfl, trivial⟩
            refine cw_seq (sr (oD (mv rfl) rfl (oD (mv rfl) rfl (oD (stp_len Tryd.underlying37 rfl) rfl (oD (stp_lss rfl rfl) rfl (nn (cw_cond rfl (fun h54 => ?_) (fun h54 => ?_))))))))
            · have H1 := cond_t H1 h54
              obtain ⟨x55, e55, H1⟩ := bind_some H1
              obtain ⟨x56, e56, H1⟩ := bind_some H1
              refine cw_skip (kw_nx (cw_seq (cw_block (cw_seq (rdr g_mixed [5, 9, 10] [4, 5, 6, 10] { dst := dS [66, 67, 68, 69, 70, 71, 65, 72, 73, 12, 0, 13], pre := gA [] [[], [], [], [1, 2], [1, 2, 3], rn 0 5, rn 0 6, rn 0 7, rn 0 7, [], [0, 1, 2, 3, 4, 5, 6, 7, 9], rn 0 11], ids := gA [] [[], [], [], [], [], [11, 12], [], [], [], [13], [13]], rs := rL [[(5, 0)], [(9, 0)], [(10, 0)], [(66, 2), (67, 3)], [(68, 4)], [(65, 1), (69, 5)], [(70, 6)], [(64, 7)], [(64, 7)], [], [(11, 10), (71, 8)], [(72, 9)]], rh := rL [[(6, 0)], [], [], [(10, 0)], [(10, 0)], [(4, 0), (5, 0)], [], [], [], [], [(13, 10)]], V := fun i g => gA undef [.agg #[.slice p44 ((v43).length) c46, .slice p49 ((v48).length) c51], .slice p39 ((x38).length) c41, .int .i64 v53, .pointer (some ⟨eB p39, eO p39 + Int.toNat v53 * Enc.sz K + 0, none⟩), .agg #[.int .i64 x55.s, .int .i64 x55.p], .tuple #[.agg #[.slice ((g 5).A 0) ((x56.1.b).length) ((g 5).C 0), .slice ((g 5).A 1) ((x56.1.f).length) ((g 5).C 1)], .bool x56.2], .tuple #[.agg #[.slice ((g 5).A 0) ((x56.1.b).length) ((g 5).C 0), .slice ((g 5).A 1) ((x56.1.f).length) ((g 5).C 1)], .bool x56.2], .agg #[.slice ((g 5).A 0) ((x56.1.b).length) ((g 5).C 0), .slice ((g 5).A 1) ((x56.1.f).length) ((g 5).C 1)], .bool x56.2, .pointer (some ⟨((g 9).C 0), 0, none⟩), undef, .bool x56.2] i, U := fun i g => gA [] [[], [], [], [], [], [(11, ((g 5).R 0)), (12, ((g 5).R 1))], [], [], [], [(13, [(((g 9).C 0), .cells #[.slice none 0 0, .slice none 0 0] 26 (0, 0))])], [(13, [(((g 9).C 0), .cells #[.slice ((g 5).A 0) ((x56.1.b).length) ((g 5).C 0), .slice ((g 5).A 1) ((x56.1.f).length) ((g 5).C 1)] 26 (0, 0))])]] i, Φ := fun i x => match i with | 5 => OwnC (α := Int) 3 (x.A 0) (x.C 0) x56.1.b (x.R 0) ∧ OwnC (α := F) 58 (x.A 1) (x.C 1) x56.1.f (x.R 1) | _ => True } ?_ ?_)))))
              · refine ⟨⟨⟨⟨⟨⟨⟨⟨⟨⟨⟨⟨trivial, lc rfl rfl fun hs hh => stp_loadN (us := [_, _]) ts26 (sv hs 5 rfl) (Cells.box (id := 6) (hh.get 6 _ rfl) 2 rfl)⟩, lc rfl rfl fun hs hh => stp_move (sv hs 9 rfl)⟩, lc rfl rfl fun hs hh => stp_move (sv hs 10 rfl)⟩, lc rfl rfl fun hs hh => stp_indexAddr Tryd.underlying37 ts28 (by decide) (sv hs 66 rfl) rfl (sv hs 67 rfl) (Rdb.own (id := 10) (hh.get 10 _ rfl) o42) e55⟩, lc rfl rfl fun hs hh => stp_loadN (us := [_, _]) ts28 (sv hs 68 rfl) (Cells.el (Rdb.own (id := 10) (hh.get 10 _ rfl) o42) (by decide) e55 0 2 rfl)⟩, ?_⟩, lc rfl rfl fun hs hh => stp_move (sv hs 70 rfl)⟩, lc rfl rfl fun hs hh => stp_extract (sv hs 64 rfl) rfl⟩, lc rfl rfl fun hs hh => stp_extract (sv hs 64 rfl) rfl⟩, ?_⟩, ?_⟩, lc rfl rfl fun hs hh => stp_assign (sv hs 72 rfl)⟩
                · refine le rfl rfl (fun g hΦ s h hs hh => (stpU_call (fun i => 11 + i) cf18 (fun w hw => c_i_UnmapPage fl w (⟨v43, v48⟩ : T) p44 ((v43).length) c46 p49 ((v48).length) c51 x55 rfl (OwnC.pass (id := 4) (hh.get 4 _ rfl) o47 hw) rfl (OwnC.pass (id := 5) (hh.get 5 _ rfl) o52 hw) (RO.pass hg hw) x56 e56) (sevs_cons (sv hs 65 rfl) (sevs_cons (sv hs 69 rfl) sevs_nil)))) ?_
                  rintro g _ _ ⟨_, ⟨p57, n58, c59, C60, p61, n62, c63, C64, rfl, rfl, hnn58, o60, hnn62, o64⟩, rfl⟩
                  obtain rfl := hnn58
                  obtain rfl := hnn62
                  exact ⟨⟨[p57, p61], [c59, c63], [C60, C64]⟩, ⟨o60, o64⟩, .inr rfl, rfl⟩
                · refine le rfl rfl (fun g hΦ s h hs hh => (stpU_alloc 13 tz26 rfl)) ?_
                  rintro g _ _ ⟨b65, rfl, rfl⟩
                  exact ⟨⟨[], [b65], []⟩, trivial, .inr rfl, rfl⟩
                · refine le rfl rfl (fun g hΦ s h hs hh => (stpU_store (id := 13) (cs' := [.slice ((g 5).A 0) ((x56.1.b).length) ((g 5).C 0), .slice ((g 5).A 1) ((x56.1.f).length) ((g 5).C 1)]) ts26 (sv hs 11 rfl) (sv hs 71 rfl) (hh.get 13 _ rfl) rfl rfl rfl rfl)) ?_
                  rintro g _ _ rfl
                  exact ⟨⟨[], [], []⟩, trivial, .inl rfl, rfl⟩
              · intro g hΦ
                refine kw_gen (ι := Option Addr × Option Addr × Nat × Nat × Res × Res × Nat) (((g 5).A 0), ((g 5).A 1), ((g 5).C 0), ((g 5).C 1), ((g 5).R 0), ((g 5).R 1), ((g 9).C 0)) (fun | (p57, p61, c59, c63, C60, C64, b65) => OwnC (α := Int) 3 p57 c59 x56.1.b C60 ∧ OwnC (α := F) 58 p61 c63 x56.1.f C64) (fun | (p57, p61, c59, c63, C60, C64, b65) => [(3, .pointer (some ⟨b11, 0, none⟩)), (5, .pointer (some ⟨b22, 0, none⟩)), (9, .slice p39 ((x38).length) c41), (10, .int .i64 v53), (11, .pointer (some ⟨b65, 0, none⟩)), (12, .bool x56.2)]) (fun | (p57, p61, c59, c63, C60, C64, b65) => [(0, C6), (1, C10), (2, [(b11, .cells #[.slice p3 ((x2.1.b).length) c5, .slice p7 ((x2.1.f).length) c9] 26 (0, 0))]), (4, C47), (5, C52), (6, [(b22, .cells #[.slice p44 ((v43).length) c46, .slice p49 ((v48).length) c51] 26 (0, 0))]), (10, C42), (11, C60), (12, C64), (13, [(b65, .cells #[.slice p57 ((x56.1.b).length) c59, .slice p61 ((x56.1.f).length) c63] 26 (0, 0))])]) ⟨(hΦ 5 (by decide)).1, (hΦ 5 (by decide)).2⟩ ⟨rfl, rfl, rfl, rfl, rfl, rfl, trivial⟩ ⟨rfl, rfl, rfl, rfl, rfl, rfl, rfl, rfl, rfl, rfl, trivial⟩ ?_
                rintro ⟨p57, p61, c59, c63, C60, C64, b65⟩ ⟨o60, o64⟩
                refine KW.sub (s' := [(3, .pointer (some ⟨b11, 0, none⟩)), (5, .pointer (some ⟨b22, 0, none⟩)), (9, .slice p39 ((x38).length) c41), (10, .int .i64 v53), (11, .pointer (some ⟨b65, 0, none⟩)), (12, .bool x56.2)]) (h' := [(0, C6), (1, C10), (2, [(b11, .cells #[.slice p3 ((x2.1.b).length) c5, .slice p7 ((x2.1.f).length) c9] 26 (0, 0))]), (4, C47), (5, C52), (6, [(b22, .cells #[.slice p44 ((v43).length) c46, .slice p49 ((v48).length) c51] 26 (0, 0))]), (10, C42), (11, C60), (12, C64), (13, [(b65, .cells #[.slice p57 ((x56.1.b).length) c59, .slice p61 ((x56.1.f).length) c63] 26 (0, 0))])]) ?_ ⟨rfl, rfl, rfl, rfl, rfl, rfl, trivial⟩ ⟨rfl, rfl, rfl, rfl, rfl, rfl, rfl, rfl, rfl, rfl, trivial⟩
                refine kw_nx (cw_seq (sr (oD (mv rfl) rfl (oD (stp_not rfl) rfl (nn (cw_cond rfl (fun h66 => ?_) (fun h66 => ?_)))))))
                · have H1 := cond_t H1 h66
                  refine sr (oD (sg rfl) rfl (nn (cw_ret (kw_nx_ret (kw_bl_ret (kw_nx_ret (kw_lq_ret (kw_bl_ret (kw_join_ret (kw_nx_ret ?_))))))))))
                  have q1 := Option.some.inj H1
                  subst q1
                  have q0 := Option.some.inj H0
                  subst q0
                  exact kw_ret Tryd.results6 (.cons (.tmp rfl) .nil) [] [] trivial (by decide) ⟨rfl, rfl⟩
                · have H1 := cond_f H1 h66
                  refine cw_skip (kw_nx (cw_region (oD (stp_loadN (us := [_, _]) ts26 rfl (Cells.box (id := 13) rfl 2 rfl)) rfl (oF (stpU_store (id := 6) (cs' := [.slice p57 ((x56.1.b).length) c59, .slice p61 ((x56.1.f).length) c63]) ts26 rfl rfl rfl rfl rfl rfl rfl) ?_))))
                  rintro _ _ rfl
                  obtain ⟨x67, e67, H1⟩ := bind_some H1
                  exact ow_nil (kw_bl_normal (kw_nx (cw_region (oD (mv rfl) rfl (oD (stp_add rfl rfl e67) rfl (oD (sg rfl) rfl (ow_nil (kw_lqS (js := [0, 1, 2, 11, 12, 6, 10]) (fuel, x56.1.b, x56.1.f, x67, p57, ((x56.1.b).length), c59, C60, p61, ((x56.1.f).length), c63, C64) ⟨H1, rfl, o60, rfl, o64⟩ (Nat.lt_succ_self _) ⟨rfl, rfl, rfl, rfl, trivial⟩ ⟨0, [1, 2, 11, 12, 6, 10], rfl, rfl, 1, [2, 11, 12, 6, 10], rfl, rfl, 2, [11, 12, 6, 10], rfl, rfl, 11, [12, 6, 10], rfl, rfl, 12, [6, 10], rfl, rfl, 6, [10], rfl, rfl, 10, [], rfl, rfl, trivial⟩ (by decide)))))))))
            · have H1 := cond_f H1 h54
              refine cw_exit (kw_nx_exit (kw_lq_exit (kw_bl ?_)))
              have q1 := Option.some.inj H1
              subst q1
              exact kw_joinS (js := [0, 1, 2, 4, 5, 6, 10]) (v43, v48, v53, p44, ((v43).length), c46, C47, p49, ((v48).length), c51, C52) ⟨rfl, rfl, o47, rfl, o52⟩ ⟨rfl, rfl, rfl, rfl, trivial⟩ ⟨0, [1, 2, 4, 5, 6, 10], rfl, rfl, 1, [2, 4, 5, 6, 10], rfl, rfl, 2, [4, 5, 6, 10], rfl, rfl, 4, [5, 6, 10], rfl, rfl, 5, [6, 10], rfl, rfl, 6, [10], rfl, rfl, 10, [], rfl, rfl, trivial⟩ (by decide)
          · rintro ⟨v43, v48, v53, p44, n45, c46, C47, p49, n50, c51, C52⟩ ⟨rfl, hnn45, o47, hnn50, o52⟩
            obtain rfl := hnn45
            obtain rfl := hnn50
            refine KW.sub (s' := [(3, .pointer (some ⟨b11, 0, none⟩)), (5, .pointer (some ⟨b22, 0, none⟩)), (9, .slice p39 ((x38).length) c41), (10, .int .i64 v53)]) (h' := [(0, C6), (1, C10), (2, [(b11, .cells #[.slice p3 ((x2.1.b).length) c5, .slice p7 ((x2.1.f).length) c9] 26 (0, 0))]), (4, C47), (5, C52), (6, [(b22, .cells #[.slice p44 ((v43).length) c46, .slice p49 ((v48).length) c51] 26 (0, 0))]), (10, C42)]) ?_ ⟨rfl, rfl, rfl, rfl, trivial⟩ ⟨rfl, rfl, rfl, rfl, rfl, rfl, rfl, trivial⟩
            obtain ⟨x68, e68, H0⟩ := bind_some H0
            refine kw_nx (sr (oD (fA 1 Tryd.underlying26 rfl ts24 rfl rfl rfl) rfl (oD (lB 2 ts24 rfl rfl rfl) rfl (oD (stp_len Tryd.underlying24 rfl) rfl (oD (fA 0 Tryd.underlying26 rfl ts23 rfl rfl rfl) rfl (oD (lB 2 ts23 rfl rfl rfl) rfl (oD (stp_len Tryd.underlying23 rfl) rfl (oE (stpU_call (fun i => 14 + i) cf21 (fun w hw => c_i_NewTable fl w ((x2.1.f).length : Int) ((x2.1.b).length : Int) (RO.pass hg hw) x68 e68) (sevs_cons rfl (sevs_cons rfl sevs_nil))) rfl ?_))))))))
            rintro _ _ ⟨_, ⟨p69, n70, c71, C72, p73, n74, c75, C76, rfl, rfl, hnn70, o72, hnn74, o76⟩, rfl⟩
            obtain rfl := hnn70
            obtain rfl := hnn74
            refine oD (mv rfl) rfl (oD (stp_extract rfl rfl) rfl (oD (stp_extract rfl rfl) rfl (oE (stpU_alloc 16 tz26 rfl) rfl ?_)))
            rintro _ _ ⟨b77, rfl, rfl⟩
            refine oF (stpU_store (id := 16) (cs' := [.slice p69 ((x68.1.b).length) c71, .slice p73 ((x68.1.f).length) c75]) ts26 rfl rfl rfl rfl rfl rfl rfl) ?_
            rintro _ _ rfl
            obtain ⟨y78, ey78, H0⟩ := bind_some H0
            refine oD (sg rfl) rfl (nn (sr (oD (mv rfl) rfl (oD (mv rfl) rfl (ow_cutY 4 91 y78 ?_ ?_)))))
            · rcases Bool.eq_false_or_eq_true x68.2 with hy78 | hy78
              · have ey78 := cond_t ey78 hy78
                obtain ⟨x79, e79, ey78⟩ := bind_some ey78
                refine oG rfl hy78 (stp_loadN (us := [_, _]) ts26 rfl (Cells.box (id := 6) rfl 2 rfl)) rfl (oG rfl hy78 (stp_loadN (us := [_, _]) ts26 rfl (Cells.box (id := 16) rfl 2 rfl)) rfl (ow_eff (.some rfl hy78) (stpU_call (fun i => 17 + i) cf10 (fun w hw => c_i_TableSame fl w (⟨v43, v48⟩ : T) p44 ((v43).length) c46 p49 ((v48).length) c51 x68.1 p69 ((x68.1.b).length) c71 p73 ((x68.1.f).length) c75 rfl (OwnC.pass (id := 4) rfl o47 hw) rfl (OwnC.pass (id := 5) rfl o52 hw) rfl (OwnC.pass (id := 14) rfl o72 hw) rfl (OwnC.pass (id := 15) rfl o76 hw) x79 e79) (sevs_cons rfl (sevs_cons rfl sevs_nil))) rfl ?_))
                rintro _ _ ⟨_, ⟨rfl, rfl⟩, rfl⟩
                refine oD (stp_pick_t rfl hy78 rfl) rfl ?_
                obtain rfl := Option.some.inj ey78
                exact ow_nil (jy 4 0)
              · have ey78 := cond_f ey78 hy78
                refine oO rfl hy78 rfl (oO rfl hy78 rfl (oO rfl hy78 rfl (oD (stp_pick_f rfl hy78 rfl) rfl ?_)))
                obtain rfl := Option.some.inj ey78
                exact ow_nil (jy 4 0)
            · refine oD (sg rfl) rfl (nn (cw_ret ?_))
              have q0 := Option.some.inj H0
              subst q0
              exact kw_ret Tryd.results6 (.cons (.tmp rfl) .nil) [] [] trivial (by decide) ⟨rfl, rfl⟩
end Go.Proofs.YtbhpohopfbcfgaaDoor
