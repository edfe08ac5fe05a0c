/- The walks: functions of the program return what their pure functions say. Printed by a program (gen.py). -/
import Derived.Test.YtfnliecmagnkdaaDoorGp
import Derived.Test.YtfnliecmagnkdaaDoorGt
import Derived.Test.YtfnliecmagnkdaaDoorMan
import Derived.Test.YtfnliecmagnkdaaDoorMap
import Derived.Test.YtfnliecmagnkdaaDoorCpy
import Derived.Test.YtfnliecmagnkdaaDoorClr
import Derived.Test.YtfnliecmagnkdaaDoorDp
import Derived.Test.YtfnliecmagnkdaaDoorSrt
import Derived.Test.YtfnliecmagnkdaaDoorE8
set_option linter.unusedSimpArgs false
set_option linter.unusedVariables false
set_option linter.unusedSectionVars false
namespace Go.Proofs.YtfnliecmagnkdaaDoor
open Go.RowKit
set_option maxHeartbeats 4000000
set_option maxRecDepth 20000
variable {p0_0 p0_1 p0_2 : Option Addr} {n0_0 n0_1 n0_2 : Nat} {c0_0 c0_1 c0_2 : Nat} {C0_0 C0_1 C0_2 : Res}
theorem c_l_markIntS (fl : Nat) (w : World) (a0 : (List Int)) (a1 : Int) (hn0_0 : n0_0 = (a0).length) (ho0_0 : OwnC 3 p0_0 c0_0 a0 C0_0) (hM : Sat w (hkeys [(0, C0_0)]) w [(0, C0_0)]) (r : Int × (List Int)) (H0 : l_markIntS fl a0 a1 = some r) :
  Ct Tryd.prog 136 [.slice p0_0 n0_0 c0_0, .int .i64 a1] w [(0, C0_0)] (fun rv h' => ∃ (D0 : Res), rv = .int .i64 r.1 ∧ h' = [(0, D0)] ∧ n0_0 = (r.2).length ∧ OwnC 3 p0_0 c0_0 r.2 D0) := by
 subst hn0_0
 unfold l_markIntS at H0
 refine ct_of_cw Tryd.func136 rfl Tryd.ntmps136 rfl hM ?_
 obtain ⟨o0_0, eo0_0, H0⟩ := bS H0
 refine sr (oS rfl (nn (cw_seq (sr (oS rfl (nn (cw_join (ι := (List Int) × Int × Int × Res) (fun | (v1, v3, v4, C2) => o0_0 = .out (v1, v3, v4) ∧ (a0).length = (v1).length ∧ OwnC 3 p0_0 c0_0 v1 C2) (fun | (v1, v3, v4, C2) => [(0, .slice p0_0 ((a0).length) c0_0), (1, .int .i64 v3), (5, .int .i64 v4)]) (fun | (v1, v3, v4, C2) => [(0, C2)]) ?_ ?_)))))))
 ·refine cw_block (cw_loopS (ι := Nat × (List Int) × Int × Int × Res) (js := [0]) (fun x => x.1) (fun | (fuel, v1, v3, v4, C2) => l_markIntS_L0 fl a0 fuel v1 v3 v4 = some o0_0 ∧ (a0).length = (v1).length ∧ OwnC 3 p0_0 c0_0 v1 C2) (fun | (_, v1, v3, v4, C2) => [(0, .slice p0_0 ((a0).length) c0_0), (1, .int .i64 v3), (5, .int .i64 v4)]) (fun | (_, v1, v3, v4, C2) => [(0, C2)]) (fl, a0, a1, 0, C0_0) ⟨eo0_0, rfl, ho0_0⟩ ⟨rfl, rfl, rfl, trivial⟩ ⟨0, [], rfl, rfl, trivial⟩ (by decide) ?_)
  rintro ⟨fuel, v1, v3, v4, C2⟩ ⟨H1, hl2, o2⟩
  have H1 : l_markIntS_L0 fl a0 fuel v1 v3 v4 = some o0_0 := H1
  rcases fuel with _ | fuel
  ·rw [l_markIntS_L0.eq_1] at H1; cases H1
  rw [l_markIntS_L0.eq_2] at H1
  dsimp only
  refine cw_seq (sr (oM rfl (oM rfl (oD (stp_len Tryd.underlying22 rfl) rfl (oW rfl (nn (cw_cond rfl (fun h5 => ?_) (fun h5 => ?_))))))))
  ·have H1 := cond_t H1 h5
   obtain ⟨x6, e6, H1⟩ := bS H1
   refine cw_skip (kw_nx (cw_seq (cw_block (sr (oM rfl (oM rfl (oM rfl (oD (stp_indexAddr Tryd.underlying22 ts3 (by decide) rfl (by simp [hl2]) rfl (Rdb.own (id := 0) rfl o2) e6) rfl (oF (stpU_storeEl (id := 0) (i := 0) v3 (by decide) ts3 rfl rfl rfl o2 e6 rfl rfl rfl rfl) ?_)))))))))
   rintro _ _ ⟨C7, rfl, o7⟩
   obtain ⟨x8, e8, H1⟩ := bS H1
   obtain ⟨x9, e9, H1⟩ := bS H1
   exact nn (cw_region (oM rfl (oP e8 rfl (oS rfl (ow_nil (kw_bl_normal (kw_nx (cw_region (oM rfl (oP e9 rfl (oS rfl (ow_nil (kw_lqS (js := [0]) (fuel, (v1.set (Int.toNat v4) v3), x8, x9, C7) ⟨H1, (by simp [hl2]), o7⟩ (Nat.lt_succ_self _) ⟨rfl, rfl, rfl, trivial⟩ ⟨0, [], rfl, rfl, trivial⟩ (by decide))))))))))))))
  have H1 := cond_f H1 h5
  refine cw_exit (kw_nx_exit (kw_lq_exit (kw_bl ?_)))
  obtain rfl := sI H1
  exact kw_joinS (js := [0]) (v1, v3, v4, C2) ⟨rfl, (by simp [hl2]), o2⟩ ⟨rfl, rfl, rfl, trivial⟩ ⟨0, [], rfl, rfl, trivial⟩ (by decide)
 rintro ⟨v1, v3, v4, C2⟩ ⟨rfl, hl2, o2⟩
 dsimp only
 refine kw_nx (sr (oM rfl (oS rfl (nn (cw_ret ?_)))))
 obtain rfl := sI H0
 exact kr Tryd.results136 (rT rfl) [0] ⟨_, rfl, rfl, (by simp [hl2]), o2⟩

theorem c_l_markFrameS (fl : Nat) (w : World) (a0 : (List F)) (a1 : Int) (hn0_0 : n0_0 = (a0).length) (ho0_0 : OwnC 84 p0_0 c0_0 a0 C0_0) (hM : Sat w (hkeys [(0, C0_0)]) w [(0, C0_0)]) (r : Int × (List F)) (H0 : l_markFrameS fl a0 a1 = some r) :
  Ct Tryd.prog 137 [.slice p0_0 n0_0 c0_0, .int .i64 a1] w [(0, C0_0)] (fun rv h' => ∃ (D0 : Res), rv = .int .i64 r.1 ∧ h' = [(0, D0)] ∧ n0_0 = (r.2).length ∧ OwnC 84 p0_0 c0_0 r.2 D0) := by
 subst hn0_0
 unfold l_markFrameS at H0
 refine ct_of_cw Tryd.func137 rfl Tryd.ntmps137 rfl hM ?_
 obtain ⟨o0_0, eo0_0, H0⟩ := bS H0
 refine sr (oS rfl (nn (cw_seq (sr (oS rfl (nn (cw_join (ι := (List F) × Int × Int × Res) (fun | (v1, v3, v4, C2) => o0_0 = .out (v1, v3, v4) ∧ (a0).length = (v1).length ∧ OwnC 84 p0_0 c0_0 v1 C2) (fun | (v1, v3, v4, C2) => [(0, .slice p0_0 ((a0).length) c0_0), (1, .int .i64 v3), (5, .int .i64 v4)]) (fun | (v1, v3, v4, C2) => [(0, C2)]) ?_ ?_)))))))
 ·refine cw_block (cw_loopS (ι := Nat × (List F) × Int × Int × Res) (js := [0]) (fun x => x.1) (fun | (fuel, v1, v3, v4, C2) => l_markFrameS_L0 fl a0 fuel v1 v3 v4 = some o0_0 ∧ (a0).length = (v1).length ∧ OwnC 84 p0_0 c0_0 v1 C2) (fun | (_, v1, v3, v4, C2) => [(0, .slice p0_0 ((a0).length) c0_0), (1, .int .i64 v3), (5, .int .i64 v4)]) (fun | (_, v1, v3, v4, C2) => [(0, C2)]) (fl, a0, a1, 0, C0_0) ⟨eo0_0, rfl, ho0_0⟩ ⟨rfl, rfl, rfl, trivial⟩ ⟨0, [], rfl, rfl, trivial⟩ (by decide) ?_)
  rintro ⟨fuel, v1, v3, v4, C2⟩ ⟨H1, hl2, o2⟩
  have H1 : l_markFrameS_L0 fl a0 fuel v1 v3 v4 = some o0_0 := H1
  rcases fuel with _ | fuel
  ·rw [l_markFrameS_L0.eq_1] at H1; cases H1
  rw [l_markFrameS_L0.eq_2] at H1
  dsimp only
  refine cw_seq (sr (oM rfl (oM rfl (oD (stp_len Tryd.underlying31 rfl) rfl (oW rfl (nn (cw_cond rfl (fun h5 => ?_) (fun h5 => ?_))))))))
  ·have H1 := cond_t H1 h5
   obtain ⟨x6, e6, H1⟩ := bS H1
   obtain ⟨x7, e7, H1⟩ := bS H1
   refine cw_skip (kw_nx (cw_seq (cw_block (sr (oM rfl (oM rfl (oM rfl (oD (stp_rem rfl rfl e6) rfl (oQ rfl (oD (stp_indexAddr Tryd.underlying31 ts84 (by decide) rfl (by simp [hl2]) rfl (Rdb.own (id := 0) rfl o2) e7) rfl (oA 0 Tryd.underlying84 rfl ts4 rfl (oF (stpU_storeEl (id := 0) (i := 0) (⟨(x6 == 0), x7.k, x7.r, x7.nx⟩ : F) (by decide) ts4 rfl rfl rfl o2 e7 rfl rfl rfl rfl) ?_))))))))))))
   rintro _ _ ⟨C8, rfl, o8⟩
   obtain ⟨x9, e9, H1⟩ := bS H1
   obtain ⟨x10, e10, H1⟩ := bS H1
   refine nn (sr (oM rfl (oP e9 rfl (oS rfl (nn (sr (oM rfl (oM rfl (oM rfl (oD (stp_indexAddr Tryd.underlying31 ts84 (by decide) rfl (by simp [hl2]) rfl (Rdb.own (id := 0) rfl o8) e10) rfl (oA 1 Tryd.underlying84 rfl ts46 rfl (oA 0 Tryd.underlying46 rfl ts3 rfl (oF (stpU_storeEl (id := 0) (i := 1) (⟨x10.u, (⟨x9, x10.k.p⟩ : K), x10.r, x10.nx⟩ : F) (by decide) ts3 rfl rfl rfl o8 e10 rfl rfl rfl rfl) ?_)))))))))))))
   rintro _ _ ⟨C11, rfl, o11⟩
   obtain ⟨x12, e12, H1⟩ := bS H1
   obtain ⟨x13, e13, H1⟩ := bS H1
   refine nn (sr (oM rfl (oP e12 rfl (oS rfl (nn (sr (oM rfl (oM rfl (oM rfl (oD (stp_indexAddr Tryd.underlying31 ts84 (by decide) rfl (by simp [hl2]) rfl (Rdb.own (id := 0) rfl o11) e13) rfl (oA 1 Tryd.underlying84 rfl ts46 rfl (oA 1 Tryd.underlying46 rfl ts3 rfl (oF (stpU_storeEl (id := 0) (i := 2) (⟨x13.u, (⟨x13.k.s, x12⟩ : K), x13.r, x13.nx⟩ : F) (by decide) ts3 rfl rfl rfl o11 e13 rfl rfl rfl rfl) ?_)))))))))))))
   rintro _ _ ⟨C14, rfl, o14⟩
   obtain ⟨x15, e15, H1⟩ := bS H1
   obtain ⟨x16, e16, H1⟩ := bS H1
   refine nn (sr (oM rfl (oP e15 rfl (oS rfl (nn (sr (oM rfl (oM rfl (oM rfl (oD (stp_indexAddr Tryd.underlying31 ts84 (by decide) rfl (by simp [hl2]) rfl (Rdb.own (id := 0) rfl o14) e16) rfl (oA 3 Tryd.underlying84 rfl ts3 rfl (oF (stpU_storeEl (id := 0) (i := 3) (⟨x16.u, x16.k, x15, x16.nx⟩ : F) (by decide) ts3 rfl rfl rfl o14 e16 rfl rfl rfl rfl) ?_))))))))))))
   rintro _ _ ⟨C17, rfl, o17⟩
   obtain ⟨x18, e18, H1⟩ := bS H1
   obtain ⟨x19, e19, H1⟩ := bS H1
   refine nn (sr (oM rfl (oP e18 rfl (oS rfl (nn (sr (oM rfl (oM rfl (oM rfl (oD (stp_indexAddr Tryd.underlying31 ts84 (by decide) rfl (by simp [hl2]) rfl (Rdb.own (id := 0) rfl o17) e19) rfl (oA 4 Tryd.underlying84 rfl ts3 rfl (oF (stpU_storeEl (id := 0) (i := 4) (⟨x19.u, x19.k, x19.r, x18⟩ : F) (by decide) ts3 rfl rfl rfl o17 e19 rfl rfl rfl rfl) ?_))))))))))))
   rintro _ _ ⟨C20, rfl, o20⟩
   obtain ⟨x21, e21, H1⟩ := bS H1
   obtain ⟨x22, e22, H1⟩ := bS H1
   exact nn (cw_region (oM rfl (oP e21 rfl (oS rfl (ow_nil (kw_bl_normal (kw_nx (cw_region (oM rfl (oP e22 rfl (oS rfl (ow_nil (kw_lqS (js := [0]) (fuel, (((((v1.set (Int.toNat v4) (⟨(x6 == 0), x7.k, x7.r, x7.nx⟩ : F)).set (Int.toNat v4) (⟨x10.u, (⟨x9, x10.k.p⟩ : K), x10.r, x10.nx⟩ : F)).set (Int.toNat v4) (⟨x13.u, (⟨x13.k.s, x12⟩ : K), x13.r, x13.nx⟩ : F)).set (Int.toNat v4) (⟨x16.u, x16.k, x15, x16.nx⟩ : F)).set (Int.toNat v4) (⟨x19.u, x19.k, x19.r, x18⟩ : F)), x21, x22, C20) ⟨H1, (by simp [hl2]), o20⟩ (Nat.lt_succ_self _) ⟨rfl, rfl, rfl, trivial⟩ ⟨0, [], rfl, rfl, trivial⟩ (by decide))))))))))))))
  have H1 := cond_f H1 h5
  refine cw_exit (kw_nx_exit (kw_lq_exit (kw_bl ?_)))
  obtain rfl := sI H1
  exact kw_joinS (js := [0]) (v1, v3, v4, C2) ⟨rfl, (by simp [hl2]), o2⟩ ⟨rfl, rfl, rfl, trivial⟩ ⟨0, [], rfl, rfl, trivial⟩ (by decide)
 rintro ⟨v1, v3, v4, C2⟩ ⟨rfl, hl2, o2⟩
 dsimp only
 refine kw_nx (sr (oM rfl (oS rfl (nn (cw_ret ?_)))))
 obtain rfl := sI H0
 exact kr Tryd.results137 (rT rfl) [0] ⟨_, rfl, rfl, (by simp [hl2]), o2⟩

theorem c_l_markTable (fl : Nat) (w : World) (a0 : T) (a1 : Int) (hn0_0 : n0_0 = (a0.b).length) (ho0_0 : OwnC 3 p0_0 c0_0 a0.b C0_0) (hn0_1 : n0_1 = (a0.f).length) (ho0_1 : OwnC 84 p0_1 c0_1 a0.f C0_1) (hM : Sat w (hkeys [(0, C0_0), (1, C0_1)]) w [(0, C0_0), (1, C0_1)]) (r : Int × (List Int) × (List F)) (H0 : l_markTable fl a0 a1 = some r) :
  Ct Tryd.prog 89 [.agg #[.slice p0_0 n0_0 c0_0, .slice p0_1 n0_1 c0_1], .int .i64 a1] w [(0, C0_0), (1, C0_1)] (fun rv h' => ∃ (D0 : Res) (D1 : Res), rv = .int .i64 r.1 ∧ h' = [(0, D0), (1, D1)] ∧ n0_0 = (r.2.1).length ∧ OwnC 3 p0_0 c0_0 r.2.1 D0 ∧ n0_1 = (r.2.2).length ∧ OwnC 84 p0_1 c0_1 r.2.2 D1) := by
 subst hn0_0 hn0_1
 unfold l_markTable at H0
 refine ct_of_cw Tryd.func89 rfl Tryd.ntmps89 rfl hM ?_
 refine sr (oE (stpU_box 2 rfl rfl) rfl ?_)
 rintro _ _ ⟨b1, rfl, rfl⟩
 obtain ⟨x2, e2, H0⟩ := bS H0
 refine oS rfl (nn (sr (oA 0 Tryd.underlying33 rfl ts22 rfl (oL 2 ts22 rfl (oM rfl (oE (stpU_callM (fun i => bif Nat.beq i 0 then 0 else 3 + i) cf136 (fun w hw hb => c_l_markIntS fl w a0.b a1 rfl ho0_0 (hw.pass (js := [0]) ⟨0, [], rfl, rfl, trivial⟩ (by decide)) x2 e2) (yB rfl rfl) ⟨rfl, (fun _ _ hp => by obtain ⟨_, _, rfl, _⟩ := hp; exact ⟨_, rfl⟩), trivial⟩) rfl ?_))))))
 rintro _ _ ⟨_, ⟨C3, rfl, rfl, hl3, o3⟩, rfl⟩
 obtain ⟨x4, e4, H0⟩ := bS H0
 refine oS rfl (nn (sr (oA 1 Tryd.underlying33 rfl ts31 rfl (oL 2 ts31 rfl (oM rfl (oE (stpU_callM (fun i => bif Nat.beq i 0 then 1 else 4 + i) cf137 (fun w hw hb => c_l_markFrameS fl w a0.f x2.1 rfl ho0_1 (hw.pass (js := [1]) ⟨1, [], rfl, rfl, trivial⟩ (by decide)) x4 e4) (yB rfl rfl) ⟨rfl, (fun _ _ hp => by obtain ⟨_, _, rfl, _⟩ := hp; exact ⟨_, rfl⟩), trivial⟩) rfl ?_))))))
 rintro _ _ ⟨_, ⟨C5, rfl, rfl, hl5, o5⟩, rfl⟩
 refine oS rfl (nn (sr (oM rfl (oS rfl (nn (cw_ret ?_))))))
 obtain rfl := sI H0
 exact kr Tryd.results89 (rT rfl) [0, 1] ⟨_, _, rfl, rfl, (by simp [hl3]), o3, (by simp [hl5]), o5⟩

theorem c_l_markNoteS (fl : Nat) (w : World) (a0 : (List Nt)) (a1 : Int) (hn0_0 : n0_0 = (a0).length) (ho0_0 : OwnC 48 p0_0 c0_0 a0 C0_0) (hM : Sat w (hkeys [(0, C0_0)]) w [(0, C0_0)]) (r : Int × (List Nt)) (H0 : l_markNoteS fl a0 a1 = some r) :
  Ct Tryd.prog 138 [.slice p0_0 n0_0 c0_0, .int .i64 a1] w [(0, C0_0)] (fun rv h' => ∃ (D0 : Res), rv = .int .i64 r.1 ∧ h' = [(0, D0)] ∧ n0_0 = (r.2).length ∧ OwnC 48 p0_0 c0_0 r.2 D0) := by
 subst hn0_0
 unfold l_markNoteS at H0
 refine ct_of_cw Tryd.func138 rfl Tryd.ntmps138 rfl hM ?_
 obtain ⟨o0_0, eo0_0, H0⟩ := bS H0
 refine sr (oS rfl (nn (cw_seq (sr (oS rfl (nn (cw_join (ι := (List Nt) × Int × Int × Res) (fun | (v1, v3, v4, C2) => o0_0 = .out (v1, v3, v4) ∧ (a0).length = (v1).length ∧ OwnC 48 p0_0 c0_0 v1 C2) (fun | (v1, v3, v4, C2) => [(0, .slice p0_0 ((a0).length) c0_0), (1, .int .i64 v3), (5, .int .i64 v4)]) (fun | (v1, v3, v4, C2) => [(0, C2)]) ?_ ?_)))))))
 ·refine cw_block (cw_loopS (ι := Nat × (List Nt) × Int × Int × Res) (js := [0]) (fun x => x.1) (fun | (fuel, v1, v3, v4, C2) => l_markNoteS_L0 fl a0 fuel v1 v3 v4 = some o0_0 ∧ (a0).length = (v1).length ∧ OwnC 48 p0_0 c0_0 v1 C2) (fun | (_, v1, v3, v4, C2) => [(0, .slice p0_0 ((a0).length) c0_0), (1, .int .i64 v3), (5, .int .i64 v4)]) (fun | (_, v1, v3, v4, C2) => [(0, C2)]) (fl, a0, a1, 0, C0_0) ⟨eo0_0, rfl, ho0_0⟩ ⟨rfl, rfl, rfl, trivial⟩ ⟨0, [], rfl, rfl, trivial⟩ (by decide) ?_)
  rintro ⟨fuel, v1, v3, v4, C2⟩ ⟨H1, hl2, o2⟩
  have H1 : l_markNoteS_L0 fl a0 fuel v1 v3 v4 = some o0_0 := H1
  rcases fuel with _ | fuel
  ·rw [l_markNoteS_L0.eq_1] at H1; cases H1
  rw [l_markNoteS_L0.eq_2] at H1
  dsimp only
  refine cw_seq (sr (oM rfl (oM rfl (oD (stp_len Tryd.underlying42 rfl) rfl (oW rfl (nn (cw_cond rfl (fun h5 => ?_) (fun h5 => ?_))))))))
  ·have H1 := cond_t H1 h5
   obtain ⟨x6, e6, H1⟩ := bS H1
   refine cw_skip (kw_nx (cw_seq (cw_block (sr (oM rfl (oM rfl (oM rfl (oD (stp_indexAddr Tryd.underlying42 ts48 (by decide) rfl (by simp [hl2]) rfl (Rdb.own (id := 0) rfl o2) e6) rfl (oA 0 Tryd.underlying48 rfl ts46 rfl (oA 0 Tryd.underlying46 rfl ts3 rfl (oF (stpU_storeEl (id := 0) (i := 0) (⟨(⟨v3, x6.k.p⟩ : K), x6.fr⟩ : Nt) (by decide) ts3 rfl rfl rfl o2 e6 rfl rfl rfl rfl) ?_)))))))))))
   rintro _ _ ⟨C7, rfl, o7⟩
   obtain ⟨x8, e8, H1⟩ := bS H1
   obtain ⟨x9, e9, H1⟩ := bS H1
   refine nn (sr (oM rfl (oP e8 rfl (oS rfl (nn (sr (oM rfl (oM rfl (oM rfl (oD (stp_indexAddr Tryd.underlying42 ts48 (by decide) rfl (by simp [hl2]) rfl (Rdb.own (id := 0) rfl o7) e9) rfl (oA 0 Tryd.underlying48 rfl ts46 rfl (oA 1 Tryd.underlying46 rfl ts3 rfl (oF (stpU_storeEl (id := 0) (i := 1) (⟨(⟨x9.k.s, x8⟩ : K), x9.fr⟩ : Nt) (by decide) ts3 rfl rfl rfl o7 e9 rfl rfl rfl rfl) ?_)))))))))))))
   rintro _ _ ⟨C10, rfl, o10⟩
   obtain ⟨x11, e11, H1⟩ := bS H1
   obtain ⟨x12, e12, H1⟩ := bS H1
   refine nn (sr (oM rfl (oP e11 rfl (oS rfl (nn (sr (oM rfl (oM rfl (oM rfl (oD (stp_indexAddr Tryd.underlying42 ts48 (by decide) rfl (by simp [hl2]) rfl (Rdb.own (id := 0) rfl o10) e12) rfl (oA 2 Tryd.underlying48 rfl ts3 rfl (oF (stpU_storeEl (id := 0) (i := 2) (⟨x12.k, x11⟩ : Nt) (by decide) ts3 rfl rfl rfl o10 e12 rfl rfl rfl rfl) ?_))))))))))))
   rintro _ _ ⟨C13, rfl, o13⟩
   obtain ⟨x14, e14, H1⟩ := bS H1
   obtain ⟨x15, e15, H1⟩ := bS H1
   exact nn (cw_region (oM rfl (oP e14 rfl (oS rfl (ow_nil (kw_bl_normal (kw_nx (cw_region (oM rfl (oP e15 rfl (oS rfl (ow_nil (kw_lqS (js := [0]) (fuel, (((v1.set (Int.toNat v4) (⟨(⟨v3, x6.k.p⟩ : K), x6.fr⟩ : Nt)).set (Int.toNat v4) (⟨(⟨x9.k.s, x8⟩ : K), x9.fr⟩ : Nt)).set (Int.toNat v4) (⟨x12.k, x11⟩ : Nt)), x14, x15, C13) ⟨H1, (by simp [hl2]), o13⟩ (Nat.lt_succ_self _) ⟨rfl, rfl, rfl, trivial⟩ ⟨0, [], rfl, rfl, trivial⟩ (by decide))))))))))))))
  have H1 := cond_f H1 h5
  refine cw_exit (kw_nx_exit (kw_lq_exit (kw_bl ?_)))
  obtain rfl := sI H1
  exact kw_joinS (js := [0]) (v1, v3, v4, C2) ⟨rfl, (by simp [hl2]), o2⟩ ⟨rfl, rfl, rfl, trivial⟩ ⟨0, [], rfl, rfl, trivial⟩ (by decide)
 rintro ⟨v1, v3, v4, C2⟩ ⟨rfl, hl2, o2⟩
 dsimp only
 refine kw_nx (sr (oM rfl (oS rfl (nn (cw_ret ?_)))))
 obtain rfl := sI H0
 exact kr Tryd.results138 (rT rfl) [0] ⟨_, rfl, rfl, (by simp [hl2]), o2⟩

theorem c_l_markCpuS (fl : Nat) (w : World) (a0 : (List Cp)) (a1 : Int) (hn0_0 : n0_0 = (a0).length) (ho0_0 : OwnD 44 48 p0_0 c0_0 a0 C0_0) (hM : Sat w (hkeys [(0, C0_0)]) w [(0, C0_0)]) (r : Int × (List Cp)) (H0 : l_markCpuS fl a0 a1 = some r) :
  Ct Tryd.prog 90 [.slice p0_0 n0_0 c0_0, .int .i64 a1] w [(0, C0_0)] (fun rv h' => ∃ (D0 : Res), rv = .int .i64 r.1 ∧ h' = [(0, D0)] ∧ n0_0 = (r.2).length ∧ OwnD 44 48 p0_0 c0_0 r.2 D0) := by
 subst hn0_0
 unfold l_markCpuS at H0
 refine ct_of_cw Tryd.func90 rfl Tryd.ntmps90 rfl hM ?_
 obtain ⟨o0_0, eo0_0, H0⟩ := bS H0
 refine sr (oS rfl (nn (cw_seq (sr (oS rfl (nn (cw_join (ι := (List Cp) × Int × Int × Res) (fun | (v1, v3, v4, C2) => o0_0 = .out (v1, v3, v4) ∧ (a0).length = (v1).length ∧ OwnD 44 48 p0_0 c0_0 v1 C2) (fun | (v1, v3, v4, C2) => [(0, .slice p0_0 ((a0).length) c0_0), (1, .int .i64 v3), (5, .int .i64 v4)]) (fun | (v1, v3, v4, C2) => [(0, C2)]) ?_ ?_)))))))
 ·refine cw_block (cw_loopS (ι := Nat × (List Cp) × Int × Int × Res) (js := [0]) (fun x => x.1) (fun | (fuel, v1, v3, v4, C2) => l_markCpuS_L0 fl a0 fuel v1 v3 v4 = some o0_0 ∧ (a0).length = (v1).length ∧ OwnD 44 48 p0_0 c0_0 v1 C2) (fun | (_, v1, v3, v4, C2) => [(0, .slice p0_0 ((a0).length) c0_0), (1, .int .i64 v3), (5, .int .i64 v4)]) (fun | (_, v1, v3, v4, C2) => [(0, C2)]) (fl, a0, a1, 0, C0_0) ⟨eo0_0, rfl, ho0_0⟩ ⟨rfl, rfl, rfl, trivial⟩ ⟨0, [], rfl, rfl, trivial⟩ (by decide) ?_)
  rintro ⟨fuel, v1, v3, v4, C2⟩ ⟨H1, hl2, o2⟩
  have H1 : l_markCpuS_L0 fl a0 fuel v1 v3 v4 = some o0_0 := H1
  rcases fuel with _ | fuel
  ·rw [l_markCpuS_L0.eq_1] at H1; cases H1
  rw [l_markCpuS_L0.eq_2] at H1
  dsimp only
  refine cw_seq (sr (oM rfl (oM rfl (oD (stp_len Tryd.underlying34 rfl) rfl (oW rfl (nn (cw_cond rfl (fun h5 => ?_) (fun h5 => ?_))))))))
  ·have H1 := cond_t H1 h5
   obtain ⟨x6, e6, H1⟩ := bS H1
   refine cw_skip (kw_nx (cw_seq (cw_block (sr (oM rfl (oM rfl (ow_open 0 1 2 3 rfl o2 e6 ?_)))))))
   rintro u7 p8 n9 c10 p11 n12 c13 C14 C15 C16 C17 o14 hb15 hx7 rfl o16 rfl o17
   obtain ⟨x18, e18, H1⟩ := bS H1
   refine oD (stp_indexAddr Tryd.underlying34 ts44 (by decide) rfl (Eq.trans (a := (a0).length) (b := (v1).length) (by simp [hl2]) (Bun.len hb15)) rfl (Rdb.own (id := 0) rfl o14) hx7) rfl (oA 0 Tryd.underlying44 rfl ts42 rfl (oD (stp_load1 ts42 rfl (Cells.el (Rdb.own (id := 0) rfl o14) (by decide) hx7 0 1 rfl)) rfl (oM rfl (oE (stpU_callM (fun i => bif Nat.beq i 0 then 2 else 4 + i) cf138 (fun w hw hb => c_l_markNoteS fl w x6.n v3 rfl o16 (hw.pass (js := [2]) ⟨2, [], rfl, rfl, trivial⟩ (by decide)) x18 e18) (yB rfl rfl) ⟨rfl, (fun _ _ hp => by obtain ⟨_, _, rfl, _⟩ := hp; exact ⟨_, rfl⟩), trivial⟩) rfl ?_))))
   rintro _ _ ⟨_, ⟨C19, rfl, rfl, hl19, o19⟩, rfl⟩
   obtain ⟨x20, e20, H1⟩ := bS H1
   refine oS rfl (nn (cw_region (oM rfl (oM rfl (oD (stp_indexAddr Tryd.underlying34 ts44 (by decide) rfl (Eq.trans (a := (a0).length) (b := (v1).length) (by simp [hl2]) (Bun.len hb15)) rfl (Rdb.own (id := 0) rfl o14) hx7) rfl (oA 1 Tryd.underlying44 rfl ts42 rfl (oD (stp_load1 ts42 rfl (Cells.el (Rdb.own (id := 0) rfl o14) (by decide) hx7 1 1 rfl)) rfl (oM rfl (oE (stpU_callM (fun i => bif Nat.beq i 0 then 3 else 5 + i) cf138 (fun w hw hb => c_l_markNoteS fl w x6.w x18.1 rfl o17 (hw.pass (js := [3]) ⟨3, [], rfl, rfl, trivial⟩ (by decide)) x20 e20) (yB rfl rfl) ⟨rfl, (fun _ _ hp => by obtain ⟨_, _, rfl, _⟩ := hp; exact ⟨_, rfl⟩), trivial⟩) rfl ?_)))))))))
   rintro _ _ ⟨_, ⟨C21, rfl, rfl, hl21, o21⟩, rfl⟩
   obtain ⟨x22, e22, H1⟩ := bS H1
   refine oS rfl (ow_nil (kw_bl_normal (kw_nx (cw_region (oM rfl (oP e22 rfl (oS rfl (ow_nil (kw_shut 0 1 2 3 o14 (Bun.setL hb15 _) (idx_some hx7).2.2 (idx_setD e6 (⟨x18.2, x20.2⟩ : Cp)) (by simp [hl19]) o19 (by simp [hl21]) o21 ?_)))))))))
   rintro C23 o23
   exact kw_lqS (js := [0]) (fuel, (v1.set (Int.toNat v4) (⟨x18.2, x20.2⟩ : Cp)), x20.1, x22, C23) ⟨H1, (by simp [hl2]), o23⟩ (Nat.lt_succ_self _) ⟨rfl, rfl, rfl, trivial⟩ ⟨0, [], rfl, rfl, trivial⟩ (by decide)
  have H1 := cond_f H1 h5
  refine cw_exit (kw_nx_exit (kw_lq_exit (kw_bl ?_)))
  obtain rfl := sI H1
  exact kw_joinS (js := [0]) (v1, v3, v4, C2) ⟨rfl, (by simp [hl2]), o2⟩ ⟨rfl, rfl, rfl, trivial⟩ ⟨0, [], rfl, rfl, trivial⟩ (by decide)
 rintro ⟨v1, v3, v4, C2⟩ ⟨rfl, hl2, o2⟩
 dsimp only
 refine kw_nx (sr (oM rfl (oS rfl (nn (cw_ret ?_)))))
 obtain rfl := sI H0
 exact kr Tryd.results90 (rT rfl) [0] ⟨_, rfl, rfl, (by simp [hl2]), o2⟩

theorem c_l_markSystem (fl : Nat) (w : World) (a0 : Sy) (a1 : Int) (hn0_0 : n0_0 = (a0.t.b).length) (ho0_0 : OwnC 3 p0_0 c0_0 a0.t.b C0_0) (hn0_1 : n0_1 = (a0.t.f).length) (ho0_1 : OwnC 84 p0_1 c0_1 a0.t.f C0_1) (hn0_2 : n0_2 = (a0.c).length) (ho0_2 : OwnD 44 48 p0_2 c0_2 a0.c C0_2) (hM : Sat w (hkeys [(0, C0_0), (1, C0_1), (2, C0_2)]) w [(0, C0_0), (1, C0_1), (2, C0_2)]) (r : Int × (List Int) × (List F) × (List Cp)) (H0 : l_markSystem fl a0 a1 = some r) :
  Ct Tryd.prog 37 [.agg #[.slice p0_0 n0_0 c0_0, .slice p0_1 n0_1 c0_1, .slice p0_2 n0_2 c0_2], .int .i64 a1] w [(0, C0_0), (1, C0_1), (2, C0_2)] (fun rv h' => ∃ (D0 : Res) (D1 : Res) (D2 : Res), rv = .int .i64 r.1 ∧ h' = [(0, D0), (1, D1), (2, D2)] ∧ n0_0 = (r.2.1).length ∧ OwnC 3 p0_0 c0_0 r.2.1 D0 ∧ n0_1 = (r.2.2.1).length ∧ OwnC 84 p0_1 c0_1 r.2.2.1 D1 ∧ n0_2 = (r.2.2.2).length ∧ OwnD 44 48 p0_2 c0_2 r.2.2.2 D2) := by
 subst hn0_0 hn0_1 hn0_2
 unfold l_markSystem at H0
 refine ct_of_cw Tryd.func37 rfl Tryd.ntmps37 rfl hM ?_
 refine sr (oE (stpU_box 3 rfl rfl) rfl ?_)
 rintro _ _ ⟨b1, rfl, rfl⟩
 obtain ⟨x2, e2, H0⟩ := bS H0
 refine oS rfl (nn (sr (oA 0 Tryd.underlying36 rfl ts33 rfl (oB2 3 ts33 rfl (oM rfl (oE (stpU_callM (fun i => bif Nat.beq i 0 then 0 else bif Nat.beq i 1 then 1 else 4 + i) cf89 (fun w hw hb => c_l_markTable fl w a0.t a1 rfl ho0_0 rfl ho0_1 (hw.pass (js := [0, 1]) ⟨0, [1], rfl, rfl, 1, [], rfl, rfl, trivial⟩ (by decide)) x2 e2) (yB rfl rfl) ⟨rfl, (fun _ _ hp => by obtain ⟨_, _, _, rfl, _⟩ := hp; exact ⟨_, rfl⟩), rfl, (fun _ _ hp => by obtain ⟨_, _, _, rfl, _⟩ := hp; exact ⟨_, rfl⟩), trivial⟩) rfl ?_))))))
 rintro _ _ ⟨_, ⟨C3, C4, rfl, rfl, hl3, o3, hl4, o4⟩, rfl⟩
 obtain ⟨x5, e5, H0⟩ := bS H0
 refine oS rfl (nn (sr (oA 2 Tryd.underlying36 rfl ts34 rfl (oL 3 ts34 rfl (oM rfl (oE (stpU_callM (fun i => bif Nat.beq i 0 then 2 else 6 + i) cf90 (fun w hw hb => c_l_markCpuS fl w a0.c x2.1 rfl ho0_2 (hw.pass (js := [2]) ⟨2, [], rfl, rfl, trivial⟩ (by decide)) x5 e5) (yB rfl rfl) ⟨rfl, (fun _ _ hp => by obtain ⟨_, _, rfl, _⟩ := hp; exact ⟨_, rfl⟩), trivial⟩) rfl ?_))))))
 rintro _ _ ⟨_, ⟨C6, rfl, rfl, hl6, o6⟩, rfl⟩
 refine oS rfl (nn (sr (oM rfl (oS rfl (nn (cw_ret ?_))))))
 obtain rfl := sI H0
 exact kr Tryd.results37 (rT rfl) [0, 1, 2] ⟨_, _, _, rfl, rfl, (by simp [hl3]), o3, (by simp [hl4]), o4, (by simp [hl6]), o6⟩

theorem c_l_heldIntS (fl : Nat) (w : World) (a0 : (List Int)) (a1 : Int) (hn0_0 : n0_0 = (a0).length) (hr0_0 : RO w (hkeys []) (RdL p0_0 c0_0 a0)) (r : Int) (H0 : l_heldIntS fl a0 a1 = some r) :
  Ct Tryd.prog 139 [.slice p0_0 n0_0 c0_0, .int .i64 a1] w [] (fun rv h' => rv = .int .i64 r ∧ h' = []) := by
 subst hn0_0
 unfold l_heldIntS at H0
 refine ct_of_cw Tryd.func139 rfl Tryd.ntmps139 rfl (Sat.refl _ _) ?_
 obtain ⟨o0_0, eo0_0, H0⟩ := bS H0
 refine sr (oS rfl (nn (cw_seq (sr (oS rfl (nn (cw_join (ι := Int × Int) (fun | (v1, v2) => o0_0 = .out (v1, v2)) (fun | (v1, v2) => [(0, .slice p0_0 ((a0).length) c0_0), (1, .int .i64 v1), (5, .int .i64 v2)]) (fun | (v1, v2) => []) ?_ ?_)))))))
 ·refine cw_block (cw_loopS (ι := Nat × Int × Int) (js := []) (fun x => x.1) (fun | (fuel, v1, v2) => l_heldIntS_L0 fl a0 fuel v1 v2 = some o0_0) (fun | (_, v1, v2) => [(0, .slice p0_0 ((a0).length) c0_0), (1, .int .i64 v1), (5, .int .i64 v2)]) (fun | (_, v1, v2) => []) (fl, a1, 0) eo0_0 ⟨rfl, rfl, rfl, trivial⟩ trivial (by decide) ?_)
  rintro ⟨fuel, v1, v2⟩ H1
  have H1 : l_heldIntS_L0 fl a0 fuel v1 v2 = some o0_0 := H1
  rcases fuel with _ | fuel
  ·rw [l_heldIntS_L0.eq_1] at H1; cases H1
  rw [l_heldIntS_L0.eq_2] at H1
  dsimp only
  refine cw_seq (sr (oM rfl (oM rfl (oD (stp_len Tryd.underlying22 rfl) rfl (oW rfl (nn (cw_cond rfl (fun h3 => ?_) (fun h3 => ?_))))))))
  ·have H1 := cond_t H1 h3
   obtain ⟨x4, e4, H1⟩ := bS H1
   refine cw_skip (kw_nx (cw_seq (cw_block (cw_seq (sr (oM rfl (oM rfl (oD (stp_indexAddr Tryd.underlying22 ts3 (by decide) rfl rfl rfl (Rdb.ro hr0_0) e4) rfl (oD (stp_load1 ts3 rfl (Cells.el (Rdb.ro hr0_0) (by decide) e4 0 1 rfl)) rfl (oM rfl (oU rfl (nn (cw_cond rfl (fun h5 => ?_) (fun h5 => ?_))))))))))))))
   ·have H1 := cond_t H1 h5
    refine sr (oS rfl (nn (cw_ret (kw_nx_ret (kw_bl_ret (kw_nx_ret (kw_lq_ret (kw_bl_ret (kw_join_ret (kw_nx_ret ?_))))))))))
    obtain rfl := sI H1
    obtain rfl := sI H0
    exact kr Tryd.results139 (rT rfl) [] ⟨rfl, rfl⟩
   have H1 := cond_f H1 h5
   obtain ⟨x6, e6, H1⟩ := bS H1
   obtain ⟨x7, e7, H1⟩ := bS H1
   refine cw_skip (kw_nx (cw_region (oM rfl (oP e6 rfl (oS rfl (ow_nil (kw_bl_normal (kw_nx (cw_region (oM rfl (oP e7 rfl (oS rfl (ow_nil ?_)))))))))))))
   exact kw_lqS (js := []) (fuel, x6, x7) H1 (Nat.lt_succ_self _) ⟨rfl, rfl, rfl, trivial⟩ trivial (by decide)
  have H1 := cond_f H1 h3
  refine cw_exit (kw_nx_exit (kw_lq_exit (kw_bl ?_)))
  obtain rfl := sI H1
  exact kw_joinS (js := []) (v1, v2) rfl ⟨rfl, rfl, rfl, trivial⟩ trivial (by decide)
 rintro ⟨v1, v2⟩ rfl
 dsimp only
 refine kw_nx (sr (oM rfl (oS rfl (nn (cw_ret ?_)))))
 obtain rfl := sI H0
 exact kr Tryd.results139 (rT rfl) [] ⟨rfl, rfl⟩

theorem c_l_heldFrameS (fl : Nat) (w : World) (a0 : (List F)) (a1 : Int) (hn0_0 : n0_0 = (a0).length) (hr0_0 : RO w (hkeys []) (RdL p0_0 c0_0 a0)) (r : Int) (H0 : l_heldFrameS fl a0 a1 = some r) :
  Ct Tryd.prog 140 [.slice p0_0 n0_0 c0_0, .int .i64 a1] w [] (fun rv h' => rv = .int .i64 r ∧ h' = []) := by
 subst hn0_0
 unfold l_heldFrameS at H0
 refine ct_of_cw Tryd.func140 rfl Tryd.ntmps140 rfl (Sat.refl _ _) ?_
 obtain ⟨o0_0, eo0_0, H0⟩ := bS H0
 refine sr (oS rfl (nn (cw_seq (sr (oS rfl (nn (cw_join (ι := Int × Int) (fun | (v1, v2) => o0_0 = .out (v1, v2)) (fun | (v1, v2) => [(0, .slice p0_0 ((a0).length) c0_0), (1, .int .i64 v1), (5, .int .i64 v2)]) (fun | (v1, v2) => []) ?_ ?_)))))))
 ·refine cw_block (cw_loopS (ι := Nat × Int × Int) (js := []) (fun x => x.1) (fun | (fuel, v1, v2) => l_heldFrameS_L0 fl a0 fuel v1 v2 = some o0_0) (fun | (_, v1, v2) => [(0, .slice p0_0 ((a0).length) c0_0), (1, .int .i64 v1), (5, .int .i64 v2)]) (fun | (_, v1, v2) => []) (fl, a1, 0) eo0_0 ⟨rfl, rfl, rfl, trivial⟩ trivial (by decide) ?_)
  rintro ⟨fuel, v1, v2⟩ H1
  have H1 : l_heldFrameS_L0 fl a0 fuel v1 v2 = some o0_0 := H1
  rcases fuel with _ | fuel
  ·rw [l_heldFrameS_L0.eq_1] at H1; cases H1
  rw [l_heldFrameS_L0.eq_2] at H1
  dsimp only
  refine cw_seq (sr (oM rfl (oM rfl (oD (stp_len Tryd.underlying31 rfl) rfl (oW rfl (nn (cw_cond rfl (fun h3 => ?_) (fun h3 => ?_))))))))
  ·have H1 := cond_t H1 h3
   obtain ⟨x4, e4, H1⟩ := bS H1
   obtain ⟨x5, e5, H1⟩ := bS H1
   refine cw_skip (kw_nx (cw_seq (cw_block (cw_seq (sr (oM rfl (oM rfl (oD (stp_indexAddr Tryd.underlying31 ts84 (by decide) rfl rfl rfl (Rdb.ro hr0_0) e4) rfl (oA 0 Tryd.underlying84 rfl ts4 rfl (oD (stp_load1 ts4 rfl (Cells.el (Rdb.ro hr0_0) (by decide) e4 0 1 rfl)) rfl (oM rfl (oD (stp_rem rfl rfl e5) rfl (oQ rfl ?_)))))))))))))
   refine oD (stp_neqB Tryd.underlying4 rfl rfl) rfl (nn (cw_cond rfl (fun h6 => ?_) (fun h6 => ?_)))
   ·have H1 := cond_t H1 h6
    refine sr (oS rfl (nn (cw_ret (kw_nx_ret (kw_bl_ret (kw_nx_ret (kw_lq_ret (kw_bl_ret (kw_join_ret (kw_nx_ret ?_))))))))))
    obtain rfl := sI H1
    obtain rfl := sI H0
    exact kr Tryd.results140 (rT rfl) [] ⟨rfl, rfl⟩
   have H1 := cond_f H1 h6
   obtain ⟨x7, e7, H1⟩ := bS H1
   refine cw_skip (kw_nx (sr (oM rfl (oP e7 rfl (oS rfl (nn (cw_seq (sr (oM rfl (oM rfl (oD (stp_indexAddr Tryd.underlying31 ts84 (by decide) rfl rfl rfl (Rdb.ro hr0_0) e4) rfl (oA 1 Tryd.underlying84 rfl ts46 rfl (oA 0 Tryd.underlying46 rfl ts3 rfl ?_)))))))))))))
   refine oD (stp_load1 ts3 rfl (Cells.el (Rdb.ro hr0_0) (by decide) e4 1 1 rfl)) rfl (oM rfl (oU rfl (nn (cw_cond rfl (fun h8 => ?_) (fun h8 => ?_)))))
   ·have H1 := cond_t H1 h8
    refine sr (oS rfl (nn (cw_ret (kw_nx_ret (kw_bl_ret (kw_nx_ret (kw_lq_ret (kw_bl_ret (kw_join_ret (kw_nx_ret ?_))))))))))
    obtain rfl := sI H1
    obtain rfl := sI H0
    exact kr Tryd.results140 (rT rfl) [] ⟨rfl, rfl⟩
   have H1 := cond_f H1 h8
   obtain ⟨x9, e9, H1⟩ := bS H1
   refine cw_skip (kw_nx (sr (oM rfl (oP e9 rfl (oS rfl (nn (cw_seq (sr (oM rfl (oM rfl (oD (stp_indexAddr Tryd.underlying31 ts84 (by decide) rfl rfl rfl (Rdb.ro hr0_0) e4) rfl (oA 1 Tryd.underlying84 rfl ts46 rfl (oA 1 Tryd.underlying46 rfl ts3 rfl ?_)))))))))))))
   refine oD (stp_load1 ts3 rfl (Cells.el (Rdb.ro hr0_0) (by decide) e4 2 1 rfl)) rfl (oM rfl (oU rfl (nn (cw_cond rfl (fun h10 => ?_) (fun h10 => ?_)))))
   ·have H1 := cond_t H1 h10
    refine sr (oS rfl (nn (cw_ret (kw_nx_ret (kw_bl_ret (kw_nx_ret (kw_lq_ret (kw_bl_ret (kw_join_ret (kw_nx_ret ?_))))))))))
    obtain rfl := sI H1
    obtain rfl := sI H0
    exact kr Tryd.results140 (rT rfl) [] ⟨rfl, rfl⟩
   have H1 := cond_f H1 h10
   obtain ⟨x11, e11, H1⟩ := bS H1
   refine cw_skip (kw_nx (sr (oM rfl (oP e11 rfl (oS rfl (nn (cw_seq (sr (oM rfl (oM rfl (oD (stp_indexAddr Tryd.underlying31 ts84 (by decide) rfl rfl rfl (Rdb.ro hr0_0) e4) rfl (oA 3 Tryd.underlying84 rfl ts3 rfl (oD (stp_load1 ts3 rfl (Cells.el (Rdb.ro hr0_0) (by decide) e4 3 1 rfl)) rfl ?_)))))))))))))
   refine oM rfl (oU rfl (nn (cw_cond rfl (fun h12 => ?_) (fun h12 => ?_))))
   ·have H1 := cond_t H1 h12
    refine sr (oS rfl (nn (cw_ret (kw_nx_ret (kw_bl_ret (kw_nx_ret (kw_lq_ret (kw_bl_ret (kw_join_ret (kw_nx_ret ?_))))))))))
    obtain rfl := sI H1
    obtain rfl := sI H0
    exact kr Tryd.results140 (rT rfl) [] ⟨rfl, rfl⟩
   have H1 := cond_f H1 h12
   obtain ⟨x13, e13, H1⟩ := bS H1
   refine cw_skip (kw_nx (sr (oM rfl (oP e13 rfl (oS rfl (nn (cw_seq (sr (oM rfl (oM rfl (oD (stp_indexAddr Tryd.underlying31 ts84 (by decide) rfl rfl rfl (Rdb.ro hr0_0) e4) rfl (oA 4 Tryd.underlying84 rfl ts3 rfl (oD (stp_load1 ts3 rfl (Cells.el (Rdb.ro hr0_0) (by decide) e4 4 1 rfl)) rfl ?_)))))))))))))
   refine oM rfl (oU rfl (nn (cw_cond rfl (fun h14 => ?_) (fun h14 => ?_))))
   ·have H1 := cond_t H1 h14
    refine sr (oS rfl (nn (cw_ret (kw_nx_ret (kw_bl_ret (kw_nx_ret (kw_lq_ret (kw_bl_ret (kw_join_ret (kw_nx_ret ?_))))))))))
    obtain rfl := sI H1
    obtain rfl := sI H0
    exact kr Tryd.results140 (rT rfl) [] ⟨rfl, rfl⟩
   have H1 := cond_f H1 h14
   obtain ⟨x15, e15, H1⟩ := bS H1
   obtain ⟨x16, e16, H1⟩ := bS H1
   refine cw_skip (kw_nx (cw_region (oM rfl (oP e15 rfl (oS rfl (ow_nil (kw_bl_normal (kw_nx (cw_region (oM rfl (oP e16 rfl (oS rfl (ow_nil ?_)))))))))))))
   exact kw_lqS (js := []) (fuel, x15, x16) H1 (Nat.lt_succ_self _) ⟨rfl, rfl, rfl, trivial⟩ trivial (by decide)
  have H1 := cond_f H1 h3
  refine cw_exit (kw_nx_exit (kw_lq_exit (kw_bl ?_)))
  obtain rfl := sI H1
  exact kw_joinS (js := []) (v1, v2) rfl ⟨rfl, rfl, rfl, trivial⟩ trivial (by decide)
 rintro ⟨v1, v2⟩ rfl
 dsimp only
 refine kw_nx (sr (oM rfl (oS rfl (nn (cw_ret ?_)))))
 obtain rfl := sI H0
 exact kr Tryd.results140 (rT rfl) [] ⟨rfl, rfl⟩

theorem c_l_heldTable (fl : Nat) (w : World) (a0 : T) (a1 : Int) (hn0_0 : n0_0 = (a0.b).length) (hr0_0 : RO w (hkeys []) (RdL p0_0 c0_0 a0.b)) (hn0_1 : n0_1 = (a0.f).length) (hr0_1 : RO w (hkeys []) (RdL p0_1 c0_1 a0.f)) (r : Int) (H0 : l_heldTable fl a0 a1 = some r) :
  Ct Tryd.prog 91 [.agg #[.slice p0_0 n0_0 c0_0, .slice p0_1 n0_1 c0_1], .int .i64 a1] w [] (fun rv h' => rv = .int .i64 r ∧ h' = []) := by
 subst hn0_0 hn0_1
 unfold l_heldTable at H0
 refine ct_of_cw Tryd.func91 rfl Tryd.ntmps91 rfl (Sat.refl _ _) ?_
 refine sr (oE (stpU_box 0 rfl rfl) rfl ?_)
 rintro _ _ ⟨b1, rfl, rfl⟩
 obtain ⟨x2, e2, H0⟩ := bS H0
 refine oS rfl (nn (sr (oA 0 Tryd.underlying33 rfl ts22 rfl (oL 0 ts22 rfl (oM rfl (oE (stpU_call (fun i => 1 + i) cf139 (fun w hw => c_l_heldIntS fl w a0.b a1 rfl (RO.pass hr0_0 hw) x2 e2) (yB rfl rfl)) rfl ?_))))))
 rintro _ _ ⟨_, ⟨rfl, rfl⟩, rfl⟩
 refine oS rfl (nn (cw_seq (sr (oM rfl (oW rfl (nn (cw_cond rfl (fun h3 => ?_) (fun h3 => ?_))))))))
 ·have H0 := cond_t H0 h3
  refine sr (oS rfl (nn (cw_ret (kw_nx_ret ?_))))
  obtain rfl := sI H0
  exact kr Tryd.results91 (rT rfl) [] ⟨rfl, rfl⟩
 have H0 := cond_f H0 h3
 obtain ⟨x4, e4, H0⟩ := bS H0
 refine cw_skip (kw_nx (sr (oA 1 Tryd.underlying33 rfl ts31 rfl (oL 0 ts31 rfl (oM rfl (oE (stpU_call (fun i => 1 + i) cf140 (fun w hw => c_l_heldFrameS fl w a0.f x2 rfl (RO.pass hr0_1 hw) x4 e4) (yB rfl rfl)) rfl ?_))))))
 rintro _ _ ⟨_, ⟨rfl, rfl⟩, rfl⟩
 refine oS rfl (nn (cw_seq (sr (oM rfl (oW rfl (nn (cw_cond rfl (fun h5 => ?_) (fun h5 => ?_))))))))
 ·have H0 := cond_t H0 h5
  refine sr (oS rfl (nn (cw_ret (kw_nx_ret ?_))))
  obtain rfl := sI H0
  exact kr Tryd.results91 (rT rfl) [] ⟨rfl, rfl⟩
 have H0 := cond_f H0 h5
 refine cw_skip (kw_nx (sr (oM rfl (oS rfl (nn (cw_ret ?_))))))
 obtain rfl := sI H0
 exact kr Tryd.results91 (rT rfl) [] ⟨rfl, rfl⟩

theorem c_l_heldNoteS (fl : Nat) (w : World) (a0 : (List Nt)) (a1 : Int) (hn0_0 : n0_0 = (a0).length) (hr0_0 : RO w (hkeys []) (RdL p0_0 c0_0 a0)) (r : Int) (H0 : l_heldNoteS fl a0 a1 = some r) :
  Ct Tryd.prog 141 [.slice p0_0 n0_0 c0_0, .int .i64 a1] w [] (fun rv h' => rv = .int .i64 r ∧ h' = []) := by
 subst hn0_0
 unfold l_heldNoteS at H0
 refine ct_of_cw Tryd.func141 rfl Tryd.ntmps141 rfl (Sat.refl _ _) ?_
 obtain ⟨o0_0, eo0_0, H0⟩ := bS H0
 refine sr (oS rfl (nn (cw_seq (sr (oS rfl (nn (cw_join (ι := Int × Int) (fun | (v1, v2) => o0_0 = .out (v1, v2)) (fun | (v1, v2) => [(0, .slice p0_0 ((a0).length) c0_0), (1, .int .i64 v1), (5, .int .i64 v2)]) (fun | (v1, v2) => []) ?_ ?_)))))))
 ·refine cw_block (cw_loopS (ι := Nat × Int × Int) (js := []) (fun x => x.1) (fun | (fuel, v1, v2) => l_heldNoteS_L0 fl a0 fuel v1 v2 = some o0_0) (fun | (_, v1, v2) => [(0, .slice p0_0 ((a0).length) c0_0), (1, .int .i64 v1), (5, .int .i64 v2)]) (fun | (_, v1, v2) => []) (fl, a1, 0) eo0_0 ⟨rfl, rfl, rfl, trivial⟩ trivial (by decide) ?_)
  rintro ⟨fuel, v1, v2⟩ H1
  have H1 : l_heldNoteS_L0 fl a0 fuel v1 v2 = some o0_0 := H1
  rcases fuel with _ | fuel
  ·rw [l_heldNoteS_L0.eq_1] at H1; cases H1
  rw [l_heldNoteS_L0.eq_2] at H1
  dsimp only
  refine cw_seq (sr (oM rfl (oM rfl (oD (stp_len Tryd.underlying42 rfl) rfl (oW rfl (nn (cw_cond rfl (fun h3 => ?_) (fun h3 => ?_))))))))
  ·have H1 := cond_t H1 h3
   obtain ⟨x4, e4, H1⟩ := bS H1
   refine cw_skip (kw_nx (cw_seq (cw_block (cw_seq (sr (oM rfl (oM rfl (oD (stp_indexAddr Tryd.underlying42 ts48 (by decide) rfl rfl rfl (Rdb.ro hr0_0) e4) rfl (oA 0 Tryd.underlying48 rfl ts46 rfl (oA 0 Tryd.underlying46 rfl ts3 rfl (oD (stp_load1 ts3 rfl (Cells.el (Rdb.ro hr0_0) (by decide) e4 0 1 rfl)) rfl (oM rfl (oU rfl ?_)))))))))))))
   refine nn (cw_cond rfl (fun h5 => ?_) (fun h5 => ?_))
   ·have H1 := cond_t H1 h5
    refine sr (oS rfl (nn (cw_ret (kw_nx_ret (kw_bl_ret (kw_nx_ret (kw_lq_ret (kw_bl_ret (kw_join_ret (kw_nx_ret ?_))))))))))
    obtain rfl := sI H1
    obtain rfl := sI H0
    exact kr Tryd.results141 (rT rfl) [] ⟨rfl, rfl⟩
   have H1 := cond_f H1 h5
   obtain ⟨x6, e6, H1⟩ := bS H1
   refine cw_skip (kw_nx (sr (oM rfl (oP e6 rfl (oS rfl (nn (cw_seq (sr (oM rfl (oM rfl (oD (stp_indexAddr Tryd.underlying42 ts48 (by decide) rfl rfl rfl (Rdb.ro hr0_0) e4) rfl (oA 0 Tryd.underlying48 rfl ts46 rfl (oA 1 Tryd.underlying46 rfl ts3 rfl ?_)))))))))))))
   refine oD (stp_load1 ts3 rfl (Cells.el (Rdb.ro hr0_0) (by decide) e4 1 1 rfl)) rfl (oM rfl (oU rfl (nn (cw_cond rfl (fun h7 => ?_) (fun h7 => ?_)))))
   ·have H1 := cond_t H1 h7
    refine sr (oS rfl (nn (cw_ret (kw_nx_ret (kw_bl_ret (kw_nx_ret (kw_lq_ret (kw_bl_ret (kw_join_ret (kw_nx_ret ?_))))))))))
    obtain rfl := sI H1
    obtain rfl := sI H0
    exact kr Tryd.results141 (rT rfl) [] ⟨rfl, rfl⟩
   have H1 := cond_f H1 h7
   obtain ⟨x8, e8, H1⟩ := bS H1
   refine cw_skip (kw_nx (sr (oM rfl (oP e8 rfl (oS rfl (nn (cw_seq (sr (oM rfl (oM rfl (oD (stp_indexAddr Tryd.underlying42 ts48 (by decide) rfl rfl rfl (Rdb.ro hr0_0) e4) rfl (oA 2 Tryd.underlying48 rfl ts3 rfl (oD (stp_load1 ts3 rfl (Cells.el (Rdb.ro hr0_0) (by decide) e4 2 1 rfl)) rfl ?_)))))))))))))
   refine oM rfl (oU rfl (nn (cw_cond rfl (fun h9 => ?_) (fun h9 => ?_))))
   ·have H1 := cond_t H1 h9
    refine sr (oS rfl (nn (cw_ret (kw_nx_ret (kw_bl_ret (kw_nx_ret (kw_lq_ret (kw_bl_ret (kw_join_ret (kw_nx_ret ?_))))))))))
    obtain rfl := sI H1
    obtain rfl := sI H0
    exact kr Tryd.results141 (rT rfl) [] ⟨rfl, rfl⟩
   have H1 := cond_f H1 h9
   obtain ⟨x10, e10, H1⟩ := bS H1
   obtain ⟨x11, e11, H1⟩ := bS H1
   refine cw_skip (kw_nx (cw_region (oM rfl (oP e10 rfl (oS rfl (ow_nil (kw_bl_normal (kw_nx (cw_region (oM rfl (oP e11 rfl (oS rfl (ow_nil ?_)))))))))))))
   exact kw_lqS (js := []) (fuel, x10, x11) H1 (Nat.lt_succ_self _) ⟨rfl, rfl, rfl, trivial⟩ trivial (by decide)
  have H1 := cond_f H1 h3
  refine cw_exit (kw_nx_exit (kw_lq_exit (kw_bl ?_)))
  obtain rfl := sI H1
  exact kw_joinS (js := []) (v1, v2) rfl ⟨rfl, rfl, rfl, trivial⟩ trivial (by decide)
 rintro ⟨v1, v2⟩ rfl
 dsimp only
 refine kw_nx (sr (oM rfl (oS rfl (nn (cw_ret ?_)))))
 obtain rfl := sI H0
 exact kr Tryd.results141 (rT rfl) [] ⟨rfl, rfl⟩

theorem c_l_heldCpuS (fl : Nat) (w : World) (a0 : (List Cp)) (a1 : Int) (hn0_0 : n0_0 = (a0).length) (hr0_0 : ROD w (hkeys []) p0_0 c0_0 a0) (r : Int) (H0 : l_heldCpuS fl a0 a1 = some r) :
  Ct Tryd.prog 92 [.slice p0_0 n0_0 c0_0, .int .i64 a1] w [] (fun rv h' => rv = .int .i64 r ∧ h' = []) := by
 subst hn0_0
 unfold l_heldCpuS at H0
 refine ct_of_cw Tryd.func92 rfl Tryd.ntmps92 rfl (Sat.refl _ _) ?_
 obtain ⟨o0_0, eo0_0, H0⟩ := bS H0
 refine sr (oS rfl (nn (cw_seq (sr (oS rfl (nn (cw_join (ι := Int × Int) (fun | (v1, v2) => o0_0 = .out (v1, v2)) (fun | (v1, v2) => [(0, .slice p0_0 ((a0).length) c0_0), (1, .int .i64 v1), (5, .int .i64 v2)]) (fun | (v1, v2) => []) ?_ ?_)))))))
 ·refine cw_block (cw_loopS (ι := Nat × Int × Int) (js := []) (fun x => x.1) (fun | (fuel, v1, v2) => l_heldCpuS_L0 fl a0 fuel v1 v2 = some o0_0) (fun | (_, v1, v2) => [(0, .slice p0_0 ((a0).length) c0_0), (1, .int .i64 v1), (5, .int .i64 v2)]) (fun | (_, v1, v2) => []) (fl, a1, 0) eo0_0 ⟨rfl, rfl, rfl, trivial⟩ trivial (by decide) ?_)
  rintro ⟨fuel, v1, v2⟩ H1
  have H1 : l_heldCpuS_L0 fl a0 fuel v1 v2 = some o0_0 := H1
  rcases fuel with _ | fuel
  ·rw [l_heldCpuS_L0.eq_1] at H1; cases H1
  rw [l_heldCpuS_L0.eq_2] at H1
  dsimp only
  refine cw_seq (sr (oM rfl (oM rfl (oD (stp_len Tryd.underlying34 rfl) rfl (oW rfl (nn (cw_cond rfl (fun h3 => ?_) (fun h3 => ?_))))))))
  ·have H1 := cond_t H1 h3
   obtain ⟨x4, e4, H1⟩ := bS H1
   refine cw_skip (kw_nx (cw_seq (cw_block (sr (oM rfl (oM rfl ?_))))))
   obtain ⟨u5, p6, n7, c8, p9, n10, c11, hw5, hl5, hx5, rfl, hr5, rfl, hs5⟩ := ROD.get hr0_0 e4
   obtain ⟨x12, e12, H1⟩ := bS H1
   refine oD (stp_indexAddr Tryd.underlying34 ts44 (by decide) rfl hl5 rfl (Rdb.ro hw5) hx5) rfl (oA 0 Tryd.underlying44 rfl ts42 rfl (oD (stp_load1 ts42 rfl (Cells.el (Rdb.ro hw5) (by decide) hx5 0 1 rfl)) rfl (oM rfl (oE (stpU_call (fun i => 0 + i) cf141 (fun w hw => c_l_heldNoteS fl w x4.n v1 rfl (RO.pass hr5 hw) x12 e12) (yB rfl rfl)) rfl ?_))))
   rintro _ _ ⟨_, ⟨rfl, rfl⟩, rfl⟩
   refine oS rfl (nn (cw_seq (sr (oM rfl (oW rfl (nn (cw_cond rfl (fun h13 => ?_) (fun h13 => ?_))))))))
   ·have H1 := cond_t H1 h13
    refine sr (oS rfl (nn (cw_ret (kw_nx_ret (kw_bl_ret (kw_nx_ret (kw_lq_ret (kw_bl_ret (kw_join_ret (kw_nx_ret ?_))))))))))
    obtain rfl := sI H1
    obtain rfl := sI H0
    exact kr Tryd.results92 (rT rfl) [] ⟨rfl, rfl⟩
   have H1 := cond_f H1 h13
   obtain ⟨x14, e14, H1⟩ := bS H1
   refine cw_skip (kw_nx (sr (oM rfl (oM rfl (oD (stp_indexAddr Tryd.underlying34 ts44 (by decide) rfl hl5 rfl (Rdb.ro hw5) hx5) rfl (oA 1 Tryd.underlying44 rfl ts42 rfl (oD (stp_load1 ts42 rfl (Cells.el (Rdb.ro hw5) (by decide) hx5 1 1 rfl)) rfl (oM rfl (oE (stpU_call (fun i => 0 + i) cf141 (fun w hw => c_l_heldNoteS fl w x4.w x12 rfl (RO.pass hs5 hw) x14 e14) (yB rfl rfl)) rfl ?_)))))))))
   rintro _ _ ⟨_, ⟨rfl, rfl⟩, rfl⟩
   refine oS rfl (nn (sr (oM rfl (oW rfl (nn (cw_cond rfl (fun h15 => ?_) (fun h15 => ?_)))))))
   ·have H1 := cond_t H1 h15
    refine sr (oS rfl (nn (cw_ret (kw_bl_ret (kw_nx_ret (kw_lq_ret (kw_bl_ret (kw_join_ret (kw_nx_ret ?_)))))))))
    obtain rfl := sI H1
    obtain rfl := sI H0
    exact kr Tryd.results92 (rT rfl) [] ⟨rfl, rfl⟩
   have H1 := cond_f H1 h15
   obtain ⟨x16, e16, H1⟩ := bS H1
   exact cw_skip (kw_bl_normal (kw_nx (cw_region (oM rfl (oP e16 rfl (oS rfl (ow_nil (kw_lqS (js := []) (fuel, x14, x16) H1 (Nat.lt_succ_self _) ⟨rfl, rfl, rfl, trivial⟩ trivial (by decide)))))))))
  have H1 := cond_f H1 h3
  refine cw_exit (kw_nx_exit (kw_lq_exit (kw_bl ?_)))
  obtain rfl := sI H1
  exact kw_joinS (js := []) (v1, v2) rfl ⟨rfl, rfl, rfl, trivial⟩ trivial (by decide)
 rintro ⟨v1, v2⟩ rfl
 dsimp only
 refine kw_nx (sr (oM rfl (oS rfl (nn (cw_ret ?_)))))
 obtain rfl := sI H0
 exact kr Tryd.results92 (rT rfl) [] ⟨rfl, rfl⟩

theorem c_l_heldSystem (fl : Nat) (w : World) (a0 : Sy) (a1 : Int) (hn0_0 : n0_0 = (a0.t.b).length) (hr0_0 : RO w (hkeys []) (RdL p0_0 c0_0 a0.t.b)) (hn0_1 : n0_1 = (a0.t.f).length) (hr0_1 : RO w (hkeys []) (RdL p0_1 c0_1 a0.t.f)) (hn0_2 : n0_2 = (a0.c).length) (hr0_2 : ROD w (hkeys []) p0_2 c0_2 a0.c) (r : Int) (H0 : l_heldSystem fl a0 a1 = some r) :
  Ct Tryd.prog 38 [.agg #[.slice p0_0 n0_0 c0_0, .slice p0_1 n0_1 c0_1, .slice p0_2 n0_2 c0_2], .int .i64 a1] w [] (fun rv h' => rv = .int .i64 r ∧ h' = []) := by
 subst hn0_0 hn0_1 hn0_2
 unfold l_heldSystem at H0
 refine ct_of_cw Tryd.func38 rfl Tryd.ntmps38 rfl (Sat.refl _ _) ?_
 refine sr (oE (stpU_box 0 rfl rfl) rfl ?_)
 rintro _ _ ⟨b1, rfl, rfl⟩
 obtain ⟨x2, e2, H0⟩ := bS H0
 refine oS rfl (nn (sr (oA 0 Tryd.underlying36 rfl ts33 rfl (oB2 0 ts33 rfl (oM rfl (oE (stpU_call (fun i => 1 + i) cf91 (fun w hw => c_l_heldTable fl w a0.t a1 rfl (RO.pass hr0_0 hw) rfl (RO.pass hr0_1 hw) x2 e2) (yB rfl rfl)) rfl ?_))))))
 rintro _ _ ⟨_, ⟨rfl, rfl⟩, rfl⟩
 refine oS rfl (nn (cw_seq (sr (oM rfl (oW rfl (nn (cw_cond rfl (fun h3 => ?_) (fun h3 => ?_))))))))
 ·have H0 := cond_t H0 h3
  refine sr (oS rfl (nn (cw_ret (kw_nx_ret ?_))))
  obtain rfl := sI H0
  exact kr Tryd.results38 (rT rfl) [] ⟨rfl, rfl⟩
 have H0 := cond_f H0 h3
 obtain ⟨x4, e4, H0⟩ := bS H0
 refine cw_skip (kw_nx (sr (oA 2 Tryd.underlying36 rfl ts34 rfl (oL 0 ts34 rfl (oM rfl (oE (stpU_call (fun i => 1 + i) cf92 (fun w hw => c_l_heldCpuS fl w a0.c x2 rfl (ROD.pass hr0_2 hw) x4 e4) (yB rfl rfl)) rfl ?_))))))
 rintro _ _ ⟨_, ⟨rfl, rfl⟩, rfl⟩
 refine oS rfl (nn (cw_seq (sr (oM rfl (oW rfl (nn (cw_cond rfl (fun h5 => ?_) (fun h5 => ?_))))))))
 ·have H0 := cond_t H0 h5
  refine sr (oS rfl (nn (cw_ret (kw_nx_ret ?_))))
  obtain rfl := sI H0
  exact kr Tryd.results38 (rT rfl) [] ⟨rfl, rfl⟩
 have H0 := cond_f H0 h5
 refine cw_skip (kw_nx (sr (oM rfl (oS rfl (nn (cw_ret ?_))))))
 obtain rfl := sI H0
 exact kr Tryd.results38 (rT rfl) [] ⟨rfl, rfl⟩
end Go.Proofs.YtfnliecmagnkdaaDoor
