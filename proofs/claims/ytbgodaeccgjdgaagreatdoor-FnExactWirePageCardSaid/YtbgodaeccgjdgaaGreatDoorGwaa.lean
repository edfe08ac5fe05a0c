/- The walks: functions of the program return what their pure functions say. Printed by a program (gen.py). -/
import Derived.Test.YtbgodaeccgjdgaaGreatDoorGp
import Derived.Test.YtbgodaeccgjdgaaGreatDoorGt
import Derived.Test.YtbgodaeccgjdgaaGreatDoorMan
import Derived.Test.YtbgodaeccgjdgaaGreatDoorMap
set_option linter.unusedSimpArgs false
set_option linter.unusedVariables false
set_option linter.unusedSectionVars false
namespace Go.Proofs.YtbgodaeccgjdgaaGreatDoor
open Go.RowKit
set_option maxHeartbeats 4000000 in
set_option maxRecDepth 20000 in
theorem c_l_szIntS (fl : Nat) (w : World) (a0 : (List Int)) (p0_0 : Option Addr) (n0_0 c0_0 : Nat) (a1 : Int) (hn0_0 : n0_0 = (a0).length) (hr0_0 : RO w (hkeys []) (RdL p0_0 c0_0 a0)) (r : Int) (H0 : l_szIntS fl a0 a1 = some r) :
    Ct Tryz.prog 120 [.slice p0_0 n0_0 c0_0, .int .i64 a1] w [] (fun rv h' => rv = .int .i64 r ∧ h' = []) := by
  obtain rfl := hn0_0
  unfold l_szIntS at H0
  refine ct_of_cw Tryz.func120 rfl Tryz.ntmps120 rfl (Sat.refl _ _) ?_
  obtain ⟨x1, e1, H0⟩ := bind_some H0
  refine sr (oD (sg rfl) rfl (nn (sr (oD (mv rfl) rfl (oD (mv rfl) rfl (oD (stp_len Tryz.underlying22 rfl) rfl (oD (stp_sub rfl rfl e1) rfl (oD (sg rfl) rfl (nn (cw_seq (sr (oD (mv rfl) rfl (oD (stp_lss rfl rfl) rfl ?_)))))))))))))
  refine nn (cw_cond rfl (fun h2 => ?_) (fun h2 => ?_))
  · have H0 := cond_t H0 h2
    refine sr (oD (sg rfl) rfl (nn (cw_ret (kw_nx_ret ?_))))
    have q0 := Option.some.inj H0
    subst q0
    exact kw_ret Tryz.results120 (.cons (.tmp rfl) .nil) [] [] trivial (by decide) ⟨rfl, rfl⟩
  · have H0 := cond_f H0 h2
    refine cw_skip (kw_nx (sr (oD (mv rfl) rfl (oD (sg rfl) rfl (nn (cw_ret ?_))))))
    have q0 := Option.some.inj H0
    subst q0
    exact kw_ret Tryz.results120 (.cons (.tmp rfl) .nil) [] [] trivial (by decide) ⟨rfl, rfl⟩

set_option maxHeartbeats 4000000 in
set_option maxRecDepth 20000 in
theorem c_l_szFrameS (fl : Nat) (w : World) (a0 : (List F)) (p0_0 : Option Addr) (n0_0 c0_0 : Nat) (a1 : Int) (hn0_0 : n0_0 = (a0).length) (hr0_0 : RO w (hkeys []) (RdL p0_0 c0_0 a0)) (r : Int) (H0 : l_szFrameS fl a0 a1 = some r) :
    Ct Tryz.prog 121 [.slice p0_0 n0_0 c0_0, .int .i64 a1] w [] (fun rv h' => rv = .int .i64 r ∧ h' = []) := by
  obtain rfl := hn0_0
  unfold l_szFrameS at H0
  refine ct_of_cw Tryz.func121 rfl Tryz.ntmps121 rfl (Sat.refl _ _) ?_
  obtain ⟨x1, e1, H0⟩ := bind_some H0
  refine sr (oD (sg rfl) rfl (nn (sr (oD (mv rfl) rfl (oD (mv rfl) rfl (oD (stp_len Tryz.underlying23 rfl) rfl (oD (stp_sub rfl rfl e1) rfl (oD (sg rfl) rfl (nn (cw_seq (sr (oD (mv rfl) rfl (oD (stp_lss rfl rfl) rfl ?_)))))))))))))
  refine nn (cw_cond rfl (fun h2 => ?_) (fun h2 => ?_))
  · have H0 := cond_t H0 h2
    refine sr (oD (sg rfl) rfl (nn (cw_ret (kw_nx_ret ?_))))
    have q0 := Option.some.inj H0
    subst q0
    exact kw_ret Tryz.results121 (.cons (.tmp rfl) .nil) [] [] trivial (by decide) ⟨rfl, rfl⟩
  · have H0 := cond_f H0 h2
    refine cw_skip (kw_nx (sr (oD (mv rfl) rfl (oD (sg rfl) rfl (nn (cw_ret ?_))))))
    have q0 := Option.some.inj H0
    subst q0
    exact kw_ret Tryz.results121 (.cons (.tmp rfl) .nil) [] [] trivial (by decide) ⟨rfl, rfl⟩

set_option maxHeartbeats 4000000 in
set_option maxRecDepth 20000 in
theorem c_l_szTable (fl : Nat) (w : World) (a0 : T) (p0_0 : Option Addr) (n0_0 c0_0 : Nat) (p0_1 : Option Addr) (n0_1 c0_1 : Nat) (a1 : Int) (hn0_0 : n0_0 = (a0.b).length) (hr0_0 : RO w (hkeys []) (RdL p0_0 c0_0 a0.b)) (hn0_1 : n0_1 = (a0.f).length) (hr0_1 : RO w (hkeys []) (RdL p0_1 c0_1 a0.f)) (r : Int) (H0 : l_szTable fl a0 a1 = some r) :
    Ct Tryz.prog 50 [.agg #[.slice p0_0 n0_0 c0_0, .slice p0_1 n0_1 c0_1], .int .i64 a1] w [] (fun rv h' => rv = .int .i64 r ∧ h' = []) := by
  obtain rfl := hn0_0
  obtain rfl := hn0_1
  unfold l_szTable at H0
  refine ct_of_cw Tryz.func50 rfl Tryz.ntmps50 rfl (Sat.refl _ _) ?_
  refine sr (oE (stpU_box 0 rfl rfl) rfl ?_)
  rintro _ _ ⟨b1, rfl, rfl⟩
  obtain ⟨x2, e2, H0⟩ := bind_some H0
  refine oD (sg rfl) rfl (nn (sr (oD (fA 0 Tryz.underlying25 rfl ts22 rfl rfl rfl) rfl (oD (lB 0 ts22 rfl rfl rfl) rfl (oD (mv rfl) rfl (oE (stpU_call (fun i => 1 + i) cf120 (fun w hw => c_l_szIntS fl w a0.b p0_0 ((a0.b).length) c0_0 a1 rfl (RO.pass hr0_0 hw) x2 e2) (sevs_cons rfl (sevs_cons rfl sevs_nil))) rfl ?_))))))
  rintro _ _ ⟨_, ⟨rfl, rfl⟩, rfl⟩
  refine oD (sg rfl) rfl (nn (cw_seq (sr (oD (mv rfl) rfl (oD (stp_lss rfl rfl) rfl (nn (cw_cond rfl (fun h3 => ?_) (fun h3 => ?_))))))))
  · have H0 := cond_t H0 h3
    refine sr (oD (sg rfl) rfl (nn (cw_ret (kw_nx_ret ?_))))
    have q0 := Option.some.inj H0
    subst q0
    exact kw_ret Tryz.results50 (.cons (.tmp rfl) .nil) [] [] trivial (by decide) ⟨rfl, rfl⟩
  · have H0 := cond_f H0 h3
    obtain ⟨x4, e4, H0⟩ := bind_some H0
    refine cw_skip (kw_nx (sr (oD (fA 1 Tryz.underlying25 rfl ts23 rfl rfl rfl) rfl (oD (lB 0 ts23 rfl rfl rfl) rfl (oD (mv rfl) rfl (oE (stpU_call (fun i => 1 + i) cf121 (fun w hw => c_l_szFrameS fl w a0.f p0_1 ((a0.f).length) c0_1 x2 rfl (RO.pass hr0_1 hw) x4 e4) (sevs_cons rfl (sevs_cons rfl sevs_nil))) rfl ?_))))))
    rintro _ _ ⟨_, ⟨rfl, rfl⟩, rfl⟩
    refine oD (sg rfl) rfl (nn (cw_seq (sr (oD (mv rfl) rfl (oD (stp_lss rfl rfl) rfl (nn (cw_cond rfl (fun h5 => ?_) (fun h5 => ?_))))))))
    · have H0 := cond_t H0 h5
      refine sr (oD (sg rfl) rfl (nn (cw_ret (kw_nx_ret ?_))))
      have q0 := Option.some.inj H0
      subst q0
      exact kw_ret Tryz.results50 (.cons (.tmp rfl) .nil) [] [] trivial (by decide) ⟨rfl, rfl⟩
    · have H0 := cond_f H0 h5
      refine cw_skip (kw_nx (sr (oD (mv rfl) rfl (oD (sg rfl) rfl (nn (cw_ret ?_))))))
      have q0 := Option.some.inj H0
      subst q0
      exact kw_ret Tryz.results50 (.cons (.tmp rfl) .nil) [] [] trivial (by decide) ⟨rfl, rfl⟩

set_option maxHeartbeats 4000000 in
set_option maxRecDepth 20000 in
theorem c_l_szLineS (fl : Nat) (w : World) (a0 : (List Ln)) (p0_0 : Option Addr) (n0_0 c0_0 : Nat) (a1 : Int) (hn0_0 : n0_0 = (a0).length) (hr0_0 : RO w (hkeys []) (RdL p0_0 c0_0 a0)) (r : Int) (H0 : l_szLineS fl a0 a1 = some r) :
    Ct Tryz.prog 122 [.slice p0_0 n0_0 c0_0, .int .i64 a1] w [] (fun rv h' => rv = .int .i64 r ∧ h' = []) := by
  obtain rfl := hn0_0
  unfold l_szLineS at H0
  refine ct_of_cw Tryz.func122 rfl Tryz.ntmps122 rfl (Sat.refl _ _) ?_
  obtain ⟨x1, e1, H0⟩ := bind_some H0
  refine sr (oD (sg rfl) rfl (nn (sr (oD (mv rfl) rfl (oD (mv rfl) rfl (oD (stp_len Tryz.underlying26 rfl) rfl (oD (stp_sub rfl rfl e1) rfl (oD (sg rfl) rfl (nn (cw_seq (sr (oD (mv rfl) rfl (oD (stp_lss rfl rfl) rfl ?_)))))))))))))
  refine nn (cw_cond rfl (fun h2 => ?_) (fun h2 => ?_))
  · have H0 := cond_t H0 h2
    refine sr (oD (sg rfl) rfl (nn (cw_ret (kw_nx_ret ?_))))
    have q0 := Option.some.inj H0
    subst q0
    exact kw_ret Tryz.results122 (.cons (.tmp rfl) .nil) [] [] trivial (by decide) ⟨rfl, rfl⟩
  · have H0 := cond_f H0 h2
    refine cw_skip (kw_nx (sr (oD (mv rfl) rfl (oD (sg rfl) rfl (nn (cw_ret ?_))))))
    have q0 := Option.some.inj H0
    subst q0
    exact kw_ret Tryz.results122 (.cons (.tmp rfl) .nil) [] [] trivial (by decide) ⟨rfl, rfl⟩

set_option maxHeartbeats 4000000 in
set_option maxRecDepth 20000 in
theorem c_l_szCache (fl : Nat) (w : World) (a0 : Ca) (p0_0 : Option Addr) (n0_0 c0_0 : Nat) (a1 : Int) (hn0_0 : n0_0 = (a0.l).length) (hr0_0 : RO w (hkeys []) (RdL p0_0 c0_0 a0.l)) (r : Int) (H0 : l_szCache fl a0 a1 = some r) :
    Ct Tryz.prog 51 [.agg #[.slice p0_0 n0_0 c0_0, .int .i64 a0.h], .int .i64 a1] w [] (fun rv h' => rv = .int .i64 r ∧ h' = []) := by
  obtain rfl := hn0_0
  unfold l_szCache at H0
  refine ct_of_cw Tryz.func51 rfl Tryz.ntmps51 rfl (Sat.refl _ _) ?_
  refine sr (oE (stpU_box 0 rfl rfl) rfl ?_)
  rintro _ _ ⟨b1, rfl, rfl⟩
  obtain ⟨x2, e2, H0⟩ := bind_some H0
  refine oD (sg rfl) rfl (nn (sr (oD (fA 0 Tryz.underlying28 rfl ts26 rfl rfl rfl) rfl (oD (lB 0 ts26 rfl rfl rfl) rfl (oD (mv rfl) rfl (oE (stpU_call (fun i => 1 + i) cf122 (fun w hw => c_l_szLineS fl w a0.l p0_0 ((a0.l).length) c0_0 a1 rfl (RO.pass hr0_0 hw) x2 e2) (sevs_cons rfl (sevs_cons rfl sevs_nil))) rfl ?_))))))
  rintro _ _ ⟨_, ⟨rfl, rfl⟩, rfl⟩
  refine oD (sg rfl) rfl (nn (cw_seq (sr (oD (mv rfl) rfl (oD (stp_lss rfl rfl) rfl (nn (cw_cond rfl (fun h3 => ?_) (fun h3 => ?_))))))))
  · have H0 := cond_t H0 h3
    refine sr (oD (sg rfl) rfl (nn (cw_ret (kw_nx_ret ?_))))
    have q0 := Option.some.inj H0
    subst q0
    exact kw_ret Tryz.results51 (.cons (.tmp rfl) .nil) [] [] trivial (by decide) ⟨rfl, rfl⟩
  · have H0 := cond_f H0 h3
    refine cw_skip (kw_nx (sr (oD (mv rfl) rfl (oD (sg rfl) rfl (nn (cw_ret ?_))))))
    have q0 := Option.some.inj H0
    subst q0
    exact kw_ret Tryz.results51 (.cons (.tmp rfl) .nil) [] [] trivial (by decide) ⟨rfl, rfl⟩

set_option maxHeartbeats 4000000 in
set_option maxRecDepth 20000 in
theorem c_l_szOwnS (fl : Nat) (w : World) (a0 : (List Ow)) (p0_0 : Option Addr) (n0_0 c0_0 : Nat) (a1 : Int) (hn0_0 : n0_0 = (a0).length) (hr0_0 : RO w (hkeys []) (RdL p0_0 c0_0 a0)) (r : Int) (H0 : l_szOwnS fl a0 a1 = some r) :
    Ct Tryz.prog 123 [.slice p0_0 n0_0 c0_0, .int .i64 a1] w [] (fun rv h' => rv = .int .i64 r ∧ h' = []) := by
  obtain rfl := hn0_0
  unfold l_szOwnS at H0
  refine ct_of_cw Tryz.func123 rfl Tryz.ntmps123 rfl (Sat.refl _ _) ?_
  obtain ⟨x1, e1, H0⟩ := bind_some H0
  refine sr (oD (sg rfl) rfl (nn (sr (oD (mv rfl) rfl (oD (mv rfl) rfl (oD (stp_len Tryz.underlying29 rfl) rfl (oD (stp_sub rfl rfl e1) rfl (oD (sg rfl) rfl (nn (cw_seq (sr (oD (mv rfl) rfl (oD (stp_lss rfl rfl) rfl ?_)))))))))))))
  refine nn (cw_cond rfl (fun h2 => ?_) (fun h2 => ?_))
  · have H0 := cond_t H0 h2
    refine sr (oD (sg rfl) rfl (nn (cw_ret (kw_nx_ret ?_))))
    have q0 := Option.some.inj H0
    subst q0
    exact kw_ret Tryz.results123 (.cons (.tmp rfl) .nil) [] [] trivial (by decide) ⟨rfl, rfl⟩
  · have H0 := cond_f H0 h2
    refine cw_skip (kw_nx (sr (oD (mv rfl) rfl (oD (sg rfl) rfl (nn (cw_ret ?_))))))
    have q0 := Option.some.inj H0
    subst q0
    exact kw_ret Tryz.results123 (.cons (.tmp rfl) .nil) [] [] trivial (by decide) ⟨rfl, rfl⟩

set_option maxHeartbeats 4000000 in
set_option maxRecDepth 20000 in
theorem c_l_szTags (fl : Nat) (w : World) (a0 : Tg) (p0_0 : Option Addr) (n0_0 c0_0 : Nat) (a1 : Int) (hn0_0 : n0_0 = (a0.o).length) (hr0_0 : RO w (hkeys []) (RdL p0_0 c0_0 a0.o)) (r : Int) (H0 : l_szTags fl a0 a1 = some r) :
    Ct Tryz.prog 52 [.agg #[.int .i64 a0.c, .int .i64 a0.n, .int .i64 a0.r, .slice p0_0 n0_0 c0_0], .int .i64 a1] w [] (fun rv h' => rv = .int .i64 r ∧ h' = []) := by
  obtain rfl := hn0_0
  unfold l_szTags at H0
  refine ct_of_cw Tryz.func52 rfl Tryz.ntmps52 rfl (Sat.refl _ _) ?_
  refine sr (oE (stpU_box 0 rfl rfl) rfl ?_)
  rintro _ _ ⟨b1, rfl, rfl⟩
  obtain ⟨x2, e2, H0⟩ := bind_some H0
  refine oD (sg rfl) rfl (nn (sr (oD (fA 3 Tryz.underlying31 rfl ts29 rfl rfl rfl) rfl (oD (lB 0 ts29 rfl rfl rfl) rfl (oD (mv rfl) rfl (oE (stpU_call (fun i => 1 + i) cf123 (fun w hw => c_l_szOwnS fl w a0.o p0_0 ((a0.o).length) c0_0 a1 rfl (RO.pass hr0_0 hw) x2 e2) (sevs_cons rfl (sevs_cons rfl sevs_nil))) rfl ?_))))))
  rintro _ _ ⟨_, ⟨rfl, rfl⟩, rfl⟩
  refine oD (sg rfl) rfl (nn (cw_seq (sr (oD (mv rfl) rfl (oD (stp_lss rfl rfl) rfl (nn (cw_cond rfl (fun h3 => ?_) (fun h3 => ?_))))))))
  · have H0 := cond_t H0 h3
    refine sr (oD (sg rfl) rfl (nn (cw_ret (kw_nx_ret ?_))))
    have q0 := Option.some.inj H0
    subst q0
    exact kw_ret Tryz.results52 (.cons (.tmp rfl) .nil) [] [] trivial (by decide) ⟨rfl, rfl⟩
  · have H0 := cond_f H0 h3
    refine cw_skip (kw_nx (sr (oD (mv rfl) rfl (oD (sg rfl) rfl (nn (cw_ret ?_))))))
    have q0 := Option.some.inj H0
    subst q0
    exact kw_ret Tryz.results52 (.cons (.tmp rfl) .nil) [] [] trivial (by decide) ⟨rfl, rfl⟩

set_option maxHeartbeats 4000000 in
set_option maxRecDepth 20000 in
theorem c_l_szMachine (fl : Nat) (w : World) (a0 : Mc) (p0_0 : Option Addr) (n0_0 c0_0 : Nat) (p0_1 : Option Addr) (n0_1 c0_1 : Nat) (p0_2 : Option Addr) (n0_2 c0_2 : Nat) (p0_3 : Option Addr) (n0_3 c0_3 : Nat) (a1 : Int) (hn0_0 : n0_0 = (a0.t.b).length) (hr0_0 : RO w (hkeys []) (RdL p0_0 c0_0 a0.t.b)) (hn0_1 : n0_1 = (a0.t.f).length) (hr0_1 : RO w (hkeys []) (RdL p0_1 c0_1 a0.t.f)) (hn0_2 : n0_2 = (a0.c.l).length) (hr0_2 : RO w (hkeys []) (RdL p0_2 c0_2 a0.c.l)) (hn0_3 : n0_3 = (a0.g.o).length) (hr0_3 : RO w (hkeys []) (RdL p0_3 c0_3 a0.g.o)) (r : Int) (H0 : l_szMachine fl a0 a1 = some r) :
    Ct Tryz.prog 14 [.agg #[.slice p0_0 n0_0 c0_0, .slice p0_1 n0_1 c0_1, .slice p0_2 n0_2 c0_2, .int .i64 a0.c.h, .int .i64 a0.g.c, .int .i64 a0.g.n, .int .i64 a0.g.r, .slice p0_3 n0_3 c0_3, .int .i64 a0.s], .int .i64 a1] w [] (fun rv h' => rv = .int .i64 r ∧ h' = []) := by
  obtain rfl := hn0_0
  obtain rfl := hn0_1
  obtain rfl := hn0_2
  obtain rfl := hn0_3
  unfold l_szMachine at H0
  refine ct_of_cw Tryz.func14 rfl Tryz.ntmps14 rfl (Sat.refl _ _) ?_
  refine sr (oE (stpU_box 0 rfl rfl) rfl ?_)
  rintro _ _ ⟨b1, rfl, rfl⟩
  obtain ⟨x2, e2, H0⟩ := bind_some H0
  refine oD (sg rfl) rfl (nn (sr (oD (fA 0 Tryz.underlying33 rfl ts25 rfl rfl rfl) rfl (oD (stp_loadN (us := [_, _]) ts25 rfl (Cells.box (id := 0) rfl 2 rfl)) rfl (oD (mv rfl) rfl (oE (stpU_call (fun i => 1 + i) cf50 (fun w hw => c_l_szTable fl w a0.t p0_0 ((a0.t.b).length) c0_0 p0_1 ((a0.t.f).length) c0_1 a1 rfl (RO.pass hr0_0 hw) rfl (RO.pass hr0_1 hw) x2 e2) (sevs_cons rfl (sevs_cons rfl sevs_nil))) rfl ?_))))))
  rintro _ _ ⟨_, ⟨rfl, rfl⟩, rfl⟩
  refine oD (sg rfl) rfl (nn (cw_seq (sr (oD (mv rfl) rfl (oD (stp_lss rfl rfl) rfl (nn (cw_cond rfl (fun h3 => ?_) (fun h3 => ?_))))))))
  · have H0 := cond_t H0 h3
    refine sr (oD (sg rfl) rfl (nn (cw_ret (kw_nx_ret ?_))))
    have q0 := Option.some.inj H0
    subst q0
    exact kw_ret Tryz.results14 (.cons (.tmp rfl) .nil) [] [] trivial (by decide) ⟨rfl, rfl⟩
  · have H0 := cond_f H0 h3
    obtain ⟨x4, e4, H0⟩ := bind_some H0
    refine cw_skip (kw_nx (sr (oD (fA 2 Tryz.underlying33 rfl ts28 rfl rfl rfl) rfl (oD (stp_loadN (us := [_, _]) ts28 rfl (Cells.box (id := 0) rfl 2 rfl)) rfl (oD (mv rfl) rfl (oE (stpU_call (fun i => 1 + i) cf51 (fun w hw => c_l_szCache fl w a0.c p0_2 ((a0.c.l).length) c0_2 x2 rfl (RO.pass hr0_2 hw) x4 e4) (sevs_cons rfl (sevs_cons rfl sevs_nil))) rfl ?_))))))
    rintro _ _ ⟨_, ⟨rfl, rfl⟩, rfl⟩
    refine oD (sg rfl) rfl (nn (cw_seq (sr (oD (mv rfl) rfl (oD (stp_lss rfl rfl) rfl (nn (cw_cond rfl (fun h5 => ?_) (fun h5 => ?_))))))))
    · have H0 := cond_t H0 h5
      refine sr (oD (sg rfl) rfl (nn (cw_ret (kw_nx_ret ?_))))
      have q0 := Option.some.inj H0
      subst q0
      exact kw_ret Tryz.results14 (.cons (.tmp rfl) .nil) [] [] trivial (by decide) ⟨rfl, rfl⟩
    · have H0 := cond_f H0 h5
      obtain ⟨x6, e6, H0⟩ := bind_some H0
      refine cw_skip (kw_nx (sr (oD (fA 4 Tryz.underlying33 rfl ts31 rfl rfl rfl) rfl (oD (stp_loadN (us := [_, _, _, _]) ts31 rfl (Cells.box (id := 0) rfl 4 rfl)) rfl (oD (mv rfl) rfl (oE (stpU_call (fun i => 1 + i) cf52 (fun w hw => c_l_szTags fl w a0.g p0_3 ((a0.g.o).length) c0_3 x4 rfl (RO.pass hr0_3 hw) x6 e6) (sevs_cons rfl (sevs_cons rfl sevs_nil))) rfl ?_))))))
      rintro _ _ ⟨_, ⟨rfl, rfl⟩, rfl⟩
      refine oD (sg rfl) rfl (nn (cw_seq (sr (oD (mv rfl) rfl (oD (stp_lss rfl rfl) rfl (nn (cw_cond rfl (fun h7 => ?_) (fun h7 => ?_))))))))
      · have H0 := cond_t H0 h7
        refine sr (oD (sg rfl) rfl (nn (cw_ret (kw_nx_ret ?_))))
        have q0 := Option.some.inj H0
        subst q0
        exact kw_ret Tryz.results14 (.cons (.tmp rfl) .nil) [] [] trivial (by decide) ⟨rfl, rfl⟩
      · have H0 := cond_f H0 h7
        refine cw_skip (kw_nx (sr (oD (mv rfl) rfl (oD (sg rfl) rfl (nn (cw_ret ?_))))))
        have q0 := Option.some.inj H0
        subst q0
        exact kw_ret Tryz.results14 (.cons (.tmp rfl) .nil) [] [] trivial (by decide) ⟨rfl, rfl⟩

set_option maxHeartbeats 4000000 in
set_option maxRecDepth 20000 in
theorem c_l_toIntS (fl : Nat) (w : World) (a0 : (List Int)) (p0_0 : Option Addr) (n0_0 c0_0 : Nat) (hn0_0 : n0_0 = (a0).length) (hr0_0 : RO w (hkeys []) (RdL p0_0 c0_0 a0)) (r : (List Int)) (H0 : l_toIntS fl a0 = some r) :
    Ct Tryz.prog 134 [.slice p0_0 n0_0 c0_0] w [] (fun rv h' => ∃ (x0 : Option Addr) (y0 z0 : Nat) (C0 : Res), rv = .slice x0 y0 z0 ∧ h' = [(0, C0)] ∧ y0 = (r).length ∧ OwnC 3 x0 z0 r C0) := by
  obtain rfl := hn0_0
  unfold l_toIntS at H0
  refine ct_of_cw Tryz.func134 rfl Tryz.ntmps134 rfl (Sat.refl _ _) ?_
  obtain ⟨x1, e1, H0⟩ := bind_some H0
  refine sr (oD (sg rfl) rfl (nn (sr (oD (mv rfl) rfl (oD (stp_len Tryz.underlying22 rfl) rfl (oE (stpU_make sl22 rfl 0 rfl rfl e1) rfl ?_))))))
  rintro _ _ ⟨p2, C3, rfl, rfl, o3⟩
  obtain ⟨o0_0, eo0_0, H0⟩ := bind_some H0
  refine oD (sg rfl) rfl (nn (cw_seq (sr (oD (sg rfl) rfl (nn (cw_join (ι := (List Int) × Int × Res) (fun | (v4, v6, C5) => o0_0 = .out (v4, v6) ∧ x1 = (v4).length ∧ OwnC (α := Int) 3 p2 x1 v4 C5) (fun | (v4, v6, C5) => [(0, .slice p0_0 ((a0).length) c0_0), (3, .slice p2 x1 x1), (4, .int .i64 v6)]) (fun | (v4, v6, C5) => [(0, C5)]) ?_ ?_))))))
  · refine cw_block (cw_loopS (ι := Nat × (List Int) × Int × Res) (js := [0]) (fun x => x.1) (fun | (fuel, v4, v6, C5) => l_toIntS_L0 fl a0 fuel v4 v6 = some o0_0 ∧ x1 = (v4).length ∧ OwnC (α := Int) 3 p2 x1 v4 C5) (fun | (_, v4, v6, C5) => [(0, .slice p0_0 ((a0).length) c0_0), (3, .slice p2 x1 x1), (4, .int .i64 v6)]) (fun | (_, v4, v6, C5) => [(0, C5)]) (fl, (List.replicate x1 (0 : Int)), 0, C3) ⟨eo0_0, (by simp), o3⟩ ⟨rfl, rfl, rfl, trivial⟩ ⟨0, [], rfl, rfl, trivial⟩ (by decide) ?_)
    rintro ⟨fuel, v4, v6, C5⟩ ⟨H1, hl5, o5⟩
    have H1 : l_toIntS_L0 fl a0 fuel v4 v6 = some o0_0 := H1
    rcases fuel with _ | fuel
    · rw [l_toIntS_L0.eq_1] at H1; cases H1
    rw [l_toIntS_L0.eq_2] at H1
    refine CW.sub (s' := [(0, .slice p0_0 ((a0).length) c0_0), (3, .slice p2 x1 x1), (4, .int .i64 v6)]) (h' := [(0, C5)]) ?_ ⟨rfl, rfl, rfl, trivial⟩ ⟨rfl, trivial⟩
    refine cw_seq (sr (oD (mv rfl) rfl (oD (mv rfl) rfl (oD (stp_len Tryz.underlying22 rfl) rfl (oD (stp_lss rfl rfl) rfl (nn (cw_cond rfl (fun h7 => ?_) (fun h7 => ?_))))))))
    · have H1 := cond_t H1 h7
      obtain ⟨x8, e8, H1⟩ := bind_some H1
      obtain ⟨x9, e9, H1⟩ := bind_some H1
      refine cw_skip (kw_nx (cw_seq (cw_block (cw_region (oD (mv rfl) rfl (oD (mv rfl) rfl (oD (mv rfl) rfl (oD (mv rfl) rfl (oD (stp_indexAddr Tryz.underlying22 ts3 (by decide) rfl rfl rfl (Rdb.ro hr0_0) e8) rfl (oD (stp_load1 ts3 rfl (Cells.el (Rdb.ro hr0_0) (by decide) e8 0 1 rfl)) rfl (oD (stp_indexAddr Tryz.underlying22 ts3 (by decide) rfl (by simp [hl5]) rfl (Rdb.own (id := 0) rfl o5) e9) rfl (oF (stpU_storeEl (id := 0) (i := 0) x8 (by decide) ts3 rfl rfl rfl o5 e9 rfl rfl rfl rfl) ?_))))))))))))
      rintro _ _ ⟨C10, rfl, o10⟩
      obtain ⟨x11, e11, H1⟩ := bind_some H1
      exact ow_nil (kw_bl_normal (kw_nx (cw_region (oD (mv rfl) rfl (oD (stp_add rfl rfl e11) rfl (oD (sg rfl) rfl (ow_nil (kw_lqS (js := [0]) (fuel, (v4.set (Int.toNat v6) x8), x11, C10) ⟨H1, (by simp [hl5]), o10⟩ (Nat.lt_succ_self _) ⟨rfl, rfl, rfl, trivial⟩ ⟨0, [], rfl, rfl, trivial⟩ (by decide)))))))))
    · have H1 := cond_f H1 h7
      refine cw_exit (kw_nx_exit (kw_lq_exit (kw_bl ?_)))
      have q1 := Option.some.inj H1
      subst q1
      exact kw_joinS (js := [0]) (v4, v6, C5) ⟨rfl, (by simp [hl5]), o5⟩ ⟨rfl, rfl, rfl, trivial⟩ ⟨0, [], rfl, rfl, trivial⟩ (by decide)
  · rintro ⟨v4, v6, C5⟩ ⟨rfl, hl5, o5⟩
    refine KW.sub (s' := [(0, .slice p0_0 ((a0).length) c0_0), (3, .slice p2 x1 x1), (4, .int .i64 v6)]) (h' := [(0, C5)]) ?_ ⟨rfl, rfl, rfl, trivial⟩ ⟨rfl, trivial⟩
    refine kw_nx (sr (oD (mv rfl) rfl (oD (sg rfl) rfl (nn (cw_ret ?_)))))
    have q0 := Option.some.inj H0
    subst q0
    exact kw_ret Tryz.results134 (.cons (.tmp rfl) .nil) [(0, C5)] [0] ⟨0, [], rfl, rfl, trivial⟩ (by decide) ⟨p2, x1, x1, C5, rfl, rfl, (by simp [hl5]), o5⟩

set_option maxHeartbeats 4000000 in
set_option maxRecDepth 20000 in
theorem c_l_toKey (fl : Nat) (w : World) (a0 : K) (r : K) (H0 : l_toKey fl a0 = some r) :
    Ct Tryz.prog 17 [.agg #[.int .i64 a0.s, .int .i64 a0.p]] w [] (fun rv h' => rv = .agg #[.int .i64 r.s, .int .i64 r.p] ∧ h' = []) := by
  unfold l_toKey at H0
  refine ct_of_cw Tryz.func17 rfl Tryz.ntmps17 rfl (Sat.refl _ _) ?_
  refine sr (oE (stpU_box 0 rfl rfl) rfl ?_)
  rintro _ _ ⟨b1, rfl, rfl⟩
  refine oE (stpU_alloc 1 tz51 rfl) rfl ?_
  rintro _ _ ⟨b2, rfl, rfl⟩
  refine nn (sr (oE (stpU_alloc 2 tz51 rfl) rfl ?_))
  rintro _ _ ⟨b3, rfl, rfl⟩
  refine nn (sr (oD (fA 0 Tryz.underlying35 rfl ts3 rfl rfl rfl) rfl (oD (lB 0 ts3 rfl rfl rfl) rfl (oD (fA 0 Tryz.underlying51 rfl ts3 rfl rfl rfl) rfl (oF (stpU_store (id := 2) (cs' := [.int .i64 a0.s, .int .i64 0]) ts3 rfl rfl rfl rfl rfl rfl rfl) ?_)))))
  rintro _ _ rfl
  refine nn (sr (oD (fA 1 Tryz.underlying35 rfl ts3 rfl rfl rfl) rfl (oD (lB 0 ts3 rfl rfl rfl) rfl (oD (fA 1 Tryz.underlying51 rfl ts3 rfl rfl rfl) rfl (oF (stpU_store (id := 2) (cs' := [.int .i64 a0.s, .int .i64 a0.p]) ts3 rfl rfl rfl rfl rfl rfl rfl) ?_)))))
  rintro _ _ rfl
  refine nn (sr (oD (stp_loadN (us := [_, _]) ts51 rfl (Cells.box (id := 2) rfl 2 rfl)) rfl (oF (stpU_store (id := 1) (cs' := [.int .i64 a0.s, .int .i64 a0.p]) ts51 rfl rfl rfl rfl rfl rfl rfl) ?_)))
  rintro _ _ rfl
  refine nn (cw_ret ?_)
  have q0 := Option.some.inj H0
  subst q0
  exact kw_ret Tryz.results17 (.cons (.cellN (us := [_, _]) ts51 rfl (Cells.box (id := 1) rfl 2 rfl)) .nil) [] [] trivial (by decide) ⟨rfl, rfl⟩

set_option maxHeartbeats 4000000 in
set_option maxRecDepth 20000 in
theorem c_l_toFrame (fl : Nat) (w : World) (a0 : F) (r : F) (H0 : l_toFrame fl a0 = some r) :
    Ct Tryz.prog 192 [.agg #[.bool a0.u, .int .i64 a0.k.s, .int .i64 a0.k.p, .int .i64 a0.r, .int .i64 a0.nx]] w [] (fun rv h' => rv = .agg #[.bool r.u, .int .i64 r.k.s, .int .i64 r.k.p, .int .i64 r.r, .int .i64 r.nx] ∧ h' = []) := by
  unfold l_toFrame at H0
  refine ct_of_cw Tryz.func192 rfl Tryz.ntmps192 rfl (Sat.refl _ _) ?_
  refine sr (oE (stpU_box 0 rfl rfl) rfl ?_)
  rintro _ _ ⟨b1, rfl, rfl⟩
  refine oE (stpU_alloc 1 tz127 rfl) rfl ?_
  rintro _ _ ⟨b2, rfl, rfl⟩
  refine nn (sr (oE (stpU_alloc 2 tz127 rfl) rfl ?_))
  rintro _ _ ⟨b3, rfl, rfl⟩
  refine nn (sr (oD (fA 0 Tryz.underlying202 rfl ts4 rfl rfl rfl) rfl (oD (lB 0 ts4 rfl rfl rfl) rfl (oD (fA 0 Tryz.underlying127 rfl ts4 rfl rfl rfl) rfl (oF (stpU_store (id := 2) (cs' := [.bool a0.u, .int .i64 0, .int .i64 0, .int .i64 0, .int .i64 0]) ts4 rfl rfl rfl rfl rfl rfl rfl) ?_)))))
  rintro _ _ rfl
  obtain ⟨x4, e4, H0⟩ := bind_some H0
  refine nn (sr (oD (fA 1 Tryz.underlying202 rfl ts35 rfl rfl rfl) rfl (oD (stp_loadN (us := [_, _]) ts35 rfl (Cells.box (id := 0) rfl 2 rfl)) rfl (oE (stpU_call (fun i => 3 + i) cf17 (fun w hw => c_l_toKey fl w a0.k x4 e4) (sevs_cons rfl sevs_nil)) rfl ?_))))
  rintro _ _ ⟨_, ⟨rfl, rfl⟩, rfl⟩
  refine oD (fA 1 Tryz.underlying127 rfl ts51 rfl rfl rfl) rfl (oF (stpU_store (id := 2) (cs' := [.bool a0.u, .int .i64 x4.s, .int .i64 x4.p, .int .i64 0, .int .i64 0]) ts51 rfl rfl rfl rfl rfl rfl rfl) ?_)
  rintro _ _ rfl
  refine nn (sr (oD (fA 3 Tryz.underlying202 rfl ts3 rfl rfl rfl) rfl (oD (lB 0 ts3 rfl rfl rfl) rfl (oD (fA 3 Tryz.underlying127 rfl ts3 rfl rfl rfl) rfl (oF (stpU_store (id := 2) (cs' := [.bool a0.u, .int .i64 x4.s, .int .i64 x4.p, .int .i64 a0.r, .int .i64 0]) ts3 rfl rfl rfl rfl rfl rfl rfl) ?_)))))
  rintro _ _ rfl
  refine nn (sr (oD (fA 4 Tryz.underlying202 rfl ts3 rfl rfl rfl) rfl (oD (lB 0 ts3 rfl rfl rfl) rfl (oD (fA 4 Tryz.underlying127 rfl ts3 rfl rfl rfl) rfl (oF (stpU_store (id := 2) (cs' := [.bool a0.u, .int .i64 x4.s, .int .i64 x4.p, .int .i64 a0.r, .int .i64 a0.nx]) ts3 rfl rfl rfl rfl rfl rfl rfl) ?_)))))
  rintro _ _ rfl
  refine nn (sr (oD (stp_loadN (us := [_, _, _, _, _]) ts127 rfl (Cells.box (id := 2) rfl 5 rfl)) rfl (oF (stpU_store (id := 1) (cs' := [.bool a0.u, .int .i64 x4.s, .int .i64 x4.p, .int .i64 a0.r, .int .i64 a0.nx]) ts127 rfl rfl rfl rfl rfl rfl rfl) ?_)))
  rintro _ _ rfl
  refine nn (cw_ret ?_)
  have q0 := Option.some.inj H0
  subst q0
  exact kw_ret Tryz.results192 (.cons (.cellN (us := [_, _, _, _, _]) ts127 rfl (Cells.box (id := 1) rfl 5 rfl)) .nil) [] [] trivial (by decide) ⟨rfl, rfl⟩

set_option maxHeartbeats 4000000 in
set_option maxRecDepth 20000 in
theorem c_l_toFrameS (fl : Nat) (w : World) (a0 : (List F)) (p0_0 : Option Addr) (n0_0 c0_0 : Nat) (hn0_0 : n0_0 = (a0).length) (hr0_0 : RO w (hkeys []) (RdL p0_0 c0_0 a0)) (r : (List F)) (H0 : l_toFrameS fl a0 = some r) :
    Ct Tryz.prog 135 [.slice p0_0 n0_0 c0_0] w [] (fun rv h' => ∃ (x0 : Option Addr) (y0 z0 : Nat) (C0 : Res), rv = .slice x0 y0 z0 ∧ h' = [(0, C0)] ∧ y0 = (r).length ∧ OwnC 127 x0 z0 r C0) := by
  obtain rfl := hn0_0
  unfold l_toFrameS at H0
  refine ct_of_cw Tryz.func135 rfl Tryz.ntmps135 rfl (Sat.refl _ _) ?_
  obtain ⟨x1, e1, H0⟩ := bind_some H0
  refine sr (oD (sg rfl) rfl (nn (sr (oD (mv rfl) rfl (oD (stp_len Tryz.underlying23 rfl) rfl (oE (stpU_make sl37 rfl 0 rfl rfl e1) rfl ?_))))))
  rintro _ _ ⟨p2, C3, rfl, rfl, o3⟩
  obtain ⟨o0_0, eo0_0, H0⟩ := bind_some H0
  refine oD (sg rfl) rfl (nn (cw_seq (sr (oD (sg rfl) rfl (nn (cw_join (ι := (List F) × Int × Res) (fun | (v4, v6, C5) => o0_0 = .out (v4, v6) ∧ x1 = (v4).length ∧ OwnC (α := F) 127 p2 x1 v4 C5) (fun | (v4, v6, C5) => [(0, .slice p0_0 ((a0).length) c0_0), (3, .slice p2 x1 x1), (4, .int .i64 v6)]) (fun | (v4, v6, C5) => [(0, C5)]) ?_ ?_))))))
  · refine cw_block (cw_loopS (ι := Nat × (List F) × Int × Res) (js := [0]) (fun x => x.1) (fun | (fuel, v4, v6, C5) => l_toFrameS_L0 fl a0 fuel v4 v6 = some o0_0 ∧ x1 = (v4).length ∧ OwnC (α := F) 127 p2 x1 v4 C5) (fun | (_, v4, v6, C5) => [(0, .slice p0_0 ((a0).length) c0_0), (3, .slice p2 x1 x1), (4, .int .i64 v6)]) (fun | (_, v4, v6, C5) => [(0, C5)]) (fl, (List.replicate x1 (⟨false, (⟨0, 0⟩ : K), 0, 0⟩ : F)), 0, C3) ⟨eo0_0, (by simp), o3⟩ ⟨rfl, rfl, rfl, trivial⟩ ⟨0, [], rfl, rfl, trivial⟩ (by decide) ?_)
    rintro ⟨fuel, v4, v6, C5⟩ ⟨H1, hl5, o5⟩
    have H1 : l_toFrameS_L0 fl a0 fuel v4 v6 = some o0_0 := H1
    rcases fuel with _ | fuel
    · rw [l_toFrameS_L0.eq_1] at H1; cases H1
    rw [l_toFrameS_L0.eq_2] at H1
    refine CW.sub (s' := [(0, .slice p0_0 ((a0).length) c0_0), (3, .slice p2 x1 x1), (4, .int .i64 v6)]) (h' := [(0, C5)]) ?_ ⟨rfl, rfl, rfl, trivial⟩ ⟨rfl, trivial⟩
    refine cw_seq (sr (oD (mv rfl) rfl (oD (mv rfl) rfl (oD (stp_len Tryz.underlying23 rfl) rfl (oD (stp_lss rfl rfl) rfl (nn (cw_cond rfl (fun h7 => ?_) (fun h7 => ?_))))))))
    · have H1 := cond_t H1 h7
      obtain ⟨x8, e8, H1⟩ := bind_some H1
      obtain ⟨x9, e9, H1⟩ := bind_some H1
      refine cw_skip (kw_nx (cw_seq (cw_block (cw_region (oD (mv rfl) rfl (oD (mv rfl) rfl (oD (mv rfl) rfl (oD (mv rfl) rfl (oD (stp_indexAddr Tryz.underlying23 ts202 (by decide) rfl rfl rfl (Rdb.ro hr0_0) e8) rfl (oD (stp_loadN (us := [_, _, _, _, _]) ts202 rfl (Cells.el (Rdb.ro hr0_0) (by decide) e8 0 5 rfl)) rfl (oE (stpU_call (fun i => 1 + i) cf192 (fun w hw => c_l_toFrame fl w x8 x9 e9) (sevs_cons rfl sevs_nil)) rfl ?_)))))))))))
      rintro _ _ ⟨_, ⟨rfl, rfl⟩, rfl⟩
      obtain ⟨x10, e10, H1⟩ := bind_some H1
      refine oD (stp_indexAddr Tryz.underlying37 ts127 (by decide) rfl (by simp [hl5]) rfl (Rdb.own (id := 0) rfl o5) e10) rfl (oF (stpU_storeEl (id := 0) (i := 0) x9 (by decide) ts127 rfl rfl rfl o5 e10 rfl rfl rfl rfl) ?_)
      rintro _ _ ⟨C11, rfl, o11⟩
      obtain ⟨x12, e12, H1⟩ := bind_some H1
      exact ow_nil (kw_bl_normal (kw_nx (cw_region (oD (mv rfl) rfl (oD (stp_add rfl rfl e12) rfl (oD (sg rfl) rfl (ow_nil (kw_lqS (js := [0]) (fuel, (v4.set (Int.toNat v6) x9), x12, C11) ⟨H1, (by simp [hl5]), o11⟩ (Nat.lt_succ_self _) ⟨rfl, rfl, rfl, trivial⟩ ⟨0, [], rfl, rfl, trivial⟩ (by decide)))))))))
    · have H1 := cond_f H1 h7
      refine cw_exit (kw_nx_exit (kw_lq_exit (kw_bl ?_)))
      have q1 := Option.some.inj H1
      subst q1
      exact kw_joinS (js := [0]) (v4, v6, C5) ⟨rfl, (by simp [hl5]), o5⟩ ⟨rfl, rfl, rfl, trivial⟩ ⟨0, [], rfl, rfl, trivial⟩ (by decide)
  · rintro ⟨v4, v6, C5⟩ ⟨rfl, hl5, o5⟩
    refine KW.sub (s' := [(0, .slice p0_0 ((a0).length) c0_0), (3, .slice p2 x1 x1), (4, .int .i64 v6)]) (h' := [(0, C5)]) ?_ ⟨rfl, rfl, rfl, trivial⟩ ⟨rfl, trivial⟩
    refine kw_nx (sr (oD (mv rfl) rfl (oD (sg rfl) rfl (nn (cw_ret ?_)))))
    have q0 := Option.some.inj H0
    subst q0
    exact kw_ret Tryz.results135 (.cons (.tmp rfl) .nil) [(0, C5)] [0] ⟨0, [], rfl, rfl, trivial⟩ (by decide) ⟨p2, x1, x1, C5, rfl, rfl, (by simp [hl5]), o5⟩

set_option maxHeartbeats 4000000 in
set_option maxRecDepth 20000 in
theorem c_l_toTable (fl : Nat) (w : World) (a0 : T) (p0_0 : Option Addr) (n0_0 c0_0 : Nat) (p0_1 : Option Addr) (n0_1 c0_1 : Nat) (hn0_0 : n0_0 = (a0.b).length) (hr0_0 : RO w (hkeys []) (RdL p0_0 c0_0 a0.b)) (hn0_1 : n0_1 = (a0.f).length) (hr0_1 : RO w (hkeys []) (RdL p0_1 c0_1 a0.f)) (r : T) (H0 : l_toTable fl a0 = some r) :
    Ct Tryz.prog 57 [.agg #[.slice p0_0 n0_0 c0_0, .slice p0_1 n0_1 c0_1]] w [] (fun rv h' => ∃ (x0 : Option Addr) (y0 z0 : Nat) (C0 : Res) (x1 : Option Addr) (y1 z1 : Nat) (C1 : Res), rv = .agg #[.slice x0 y0 z0, .slice x1 y1 z1] ∧ h' = [(0, C0), (1, C1)] ∧ y0 = (r.b).length ∧ OwnC 3 x0 z0 r.b C0 ∧ y1 = (r.f).length ∧ OwnC 127 x1 z1 r.f C1) := by
  obtain rfl := hn0_0
  obtain rfl := hn0_1
  unfold l_toTable at H0
  refine ct_of_cw Tryz.func57 rfl Tryz.ntmps57 rfl (Sat.refl _ _) ?_
  refine sr (oE (stpU_box 0 rfl rfl) rfl ?_)
  rintro _ _ ⟨b1, rfl, rfl⟩
  refine oE (stpU_alloc 1 tz39 rfl) rfl ?_
  rintro _ _ ⟨b2, rfl, rfl⟩
  refine nn (sr (oE (stpU_alloc 2 tz39 rfl) rfl ?_))
  rintro _ _ ⟨b3, rfl, rfl⟩
  obtain ⟨x4, e4, H0⟩ := bind_some H0
  refine nn (sr (oD (fA 0 Tryz.underlying25 rfl ts22 rfl rfl rfl) rfl (oD (lB 0 ts22 rfl rfl rfl) rfl (oE (stpU_call (fun i => 3 + i) cf134 (fun w hw => c_l_toIntS fl w a0.b p0_0 ((a0.b).length) c0_0 rfl (RO.pass hr0_0 hw) x4 e4) (sevs_cons rfl sevs_nil)) rfl ?_))))
  rintro _ _ ⟨_, ⟨p5, n6, c7, C8, rfl, rfl, hnn6, o8⟩, rfl⟩
  obtain rfl := hnn6
  refine oD (fA 0 Tryz.underlying39 rfl ts22 rfl rfl rfl) rfl (oF (stpU_store (id := 2) (cs' := [.slice p5 ((x4).length) c7, .slice none 0 0]) ts22 rfl rfl rfl rfl rfl rfl rfl) ?_)
  rintro _ _ rfl
  obtain ⟨x9, e9, H0⟩ := bind_some H0
  refine nn (sr (oD (fA 1 Tryz.underlying25 rfl ts23 rfl rfl rfl) rfl (oD (lB 0 ts23 rfl rfl rfl) rfl (oE (stpU_call (fun i => 4 + i) cf135 (fun w hw => c_l_toFrameS fl w a0.f p0_1 ((a0.f).length) c0_1 rfl (RO.pass hr0_1 hw) x9 e9) (sevs_cons rfl sevs_nil)) rfl ?_))))
  rintro _ _ ⟨_, ⟨p10, n11, c12, C13, rfl, rfl, hnn11, o13⟩, rfl⟩
  obtain rfl := hnn11
  refine oD (fA 1 Tryz.underlying39 rfl ts37 rfl rfl rfl) rfl (oF (stpU_store (id := 2) (cs' := [.slice p5 ((x4).length) c7, .slice p10 ((x9).length) c12]) ts37 rfl rfl rfl rfl rfl rfl rfl) ?_)
  rintro _ _ rfl
  refine nn (sr (oD (stp_loadN (us := [_, _]) ts39 rfl (Cells.box (id := 2) rfl 2 rfl)) rfl (oF (stpU_store (id := 1) (cs' := [.slice p5 ((x4).length) c7, .slice p10 ((x9).length) c12]) ts39 rfl rfl rfl rfl rfl rfl rfl) ?_)))
  rintro _ _ rfl
  refine nn (cw_ret ?_)
  have q0 := Option.some.inj H0
  subst q0
  exact kw_ret Tryz.results57 (.cons (.cellN (us := [_, _]) ts39 rfl (Cells.box (id := 1) rfl 2 rfl)) .nil) [(0, C8), (1, C13)] [3, 4] ⟨3, [4], rfl, rfl, 4, [], rfl, rfl, trivial⟩ (by decide) ⟨p5, ((x4).length), c7, C8, p10, ((x9).length), c12, C13, rfl, rfl, rfl, o8, rfl, o13⟩

set_option maxHeartbeats 4000000 in
set_option maxRecDepth 20000 in
theorem c_l_toLine (fl : Nat) (w : World) (a0 : Ln) (r : Ln) (H0 : l_toLine fl a0 = some r) :
    Ct Tryz.prog 193 [.agg #[.bool a0.va, .int .i64 a0.tg, .int .i64 a0.pg, .int .i64 a0.fr, .int .i64 a0.ri, .bool a0.wi]] w [] (fun rv h' => rv = .agg #[.bool r.va, .int .i64 r.tg, .int .i64 r.pg, .int .i64 r.fr, .int .i64 r.ri, .bool r.wi] ∧ h' = []) := by
  unfold l_toLine at H0
  refine ct_of_cw Tryz.func193 rfl Tryz.ntmps193 rfl (Sat.refl _ _) ?_
  refine sr (oE (stpU_box 0 rfl rfl) rfl ?_)
  rintro _ _ ⟨b1, rfl, rfl⟩
  refine oE (stpU_alloc 1 tz112 rfl) rfl ?_
  rintro _ _ ⟨b2, rfl, rfl⟩
  refine nn (sr (oE (stpU_alloc 2 tz112 rfl) rfl ?_))
  rintro _ _ ⟨b3, rfl, rfl⟩
  refine nn (sr (oD (fA 0 Tryz.underlying204 rfl ts4 rfl rfl rfl) rfl (oD (lB 0 ts4 rfl rfl rfl) rfl (oD (fA 0 Tryz.underlying112 rfl ts4 rfl rfl rfl) rfl (oF (stpU_store (id := 2) (cs' := [.bool a0.va, .int .i64 0, .int .i64 0, .int .i64 0, .int .i64 0, .bool false]) ts4 rfl rfl rfl rfl rfl rfl rfl) ?_)))))
  rintro _ _ rfl
  refine nn (sr (oD (fA 1 Tryz.underlying204 rfl ts3 rfl rfl rfl) rfl (oD (lB 0 ts3 rfl rfl rfl) rfl (oD (fA 1 Tryz.underlying112 rfl ts3 rfl rfl rfl) rfl (oF (stpU_store (id := 2) (cs' := [.bool a0.va, .int .i64 a0.tg, .int .i64 0, .int .i64 0, .int .i64 0, .bool false]) ts3 rfl rfl rfl rfl rfl rfl rfl) ?_)))))
  rintro _ _ rfl
  refine nn (sr (oD (fA 2 Tryz.underlying204 rfl ts3 rfl rfl rfl) rfl (oD (lB 0 ts3 rfl rfl rfl) rfl (oD (fA 2 Tryz.underlying112 rfl ts3 rfl rfl rfl) rfl (oF (stpU_store (id := 2) (cs' := [.bool a0.va, .int .i64 a0.tg, .int .i64 a0.pg, .int .i64 0, .int .i64 0, .bool false]) ts3 rfl rfl rfl rfl rfl rfl rfl) ?_)))))
  rintro _ _ rfl
  refine nn (sr (oD (fA 3 Tryz.underlying204 rfl ts3 rfl rfl rfl) rfl (oD (lB 0 ts3 rfl rfl rfl) rfl (oD (fA 3 Tryz.underlying112 rfl ts3 rfl rfl rfl) rfl (oF (stpU_store (id := 2) (cs' := [.bool a0.va, .int .i64 a0.tg, .int .i64 a0.pg, .int .i64 a0.fr, .int .i64 0, .bool false]) ts3 rfl rfl rfl rfl rfl rfl rfl) ?_)))))
  rintro _ _ rfl
  refine nn (sr (oD (fA 4 Tryz.underlying204 rfl ts3 rfl rfl rfl) rfl (oD (lB 0 ts3 rfl rfl rfl) rfl (oD (fA 4 Tryz.underlying112 rfl ts3 rfl rfl rfl) rfl (oF (stpU_store (id := 2) (cs' := [.bool a0.va, .int .i64 a0.tg, .int .i64 a0.pg, .int .i64 a0.fr, .int .i64 a0.ri, .bool false]) ts3 rfl rfl rfl rfl rfl rfl rfl) ?_)))))
  rintro _ _ rfl
  refine nn (sr (oD (fA 5 Tryz.underlying204 rfl ts4 rfl rfl rfl) rfl (oD (lB 0 ts4 rfl rfl rfl) rfl (oD (fA 5 Tryz.underlying112 rfl ts4 rfl rfl rfl) rfl (oF (stpU_store (id := 2) (cs' := [.bool a0.va, .int .i64 a0.tg, .int .i64 a0.pg, .int .i64 a0.fr, .int .i64 a0.ri, .bool a0.wi]) ts4 rfl rfl rfl rfl rfl rfl rfl) ?_)))))
  rintro _ _ rfl
  refine nn (sr (oD (stp_loadN (us := [_, _, _, _, _, _]) ts112 rfl (Cells.box (id := 2) rfl 6 rfl)) rfl (oF (stpU_store (id := 1) (cs' := [.bool a0.va, .int .i64 a0.tg, .int .i64 a0.pg, .int .i64 a0.fr, .int .i64 a0.ri, .bool a0.wi]) ts112 rfl rfl rfl rfl rfl rfl rfl) ?_)))
  rintro _ _ rfl
  refine nn (cw_ret ?_)
  have q0 := Option.some.inj H0
  subst q0
  exact kw_ret Tryz.results193 (.cons (.cellN (us := [_, _, _, _, _, _]) ts112 rfl (Cells.box (id := 1) rfl 6 rfl)) .nil) [] [] trivial (by decide) ⟨rfl, rfl⟩

set_option maxHeartbeats 4000000 in
set_option maxRecDepth 20000 in
theorem c_l_toLineS (fl : Nat) (w : World) (a0 : (List Ln)) (p0_0 : Option Addr) (n0_0 c0_0 : Nat) (hn0_0 : n0_0 = (a0).length) (hr0_0 : RO w (hkeys []) (RdL p0_0 c0_0 a0)) (r : (List Ln)) (H0 : l_toLineS fl a0 = some r) :
    Ct Tryz.prog 136 [.slice p0_0 n0_0 c0_0] w [] (fun rv h' => ∃ (x0 : Option Addr) (y0 z0 : Nat) (C0 : Res), rv = .slice x0 y0 z0 ∧ h' = [(0, C0)] ∧ y0 = (r).length ∧ OwnC 112 x0 z0 r C0) := by
  obtain rfl := hn0_0
  unfold l_toLineS at H0
  refine ct_of_cw Tryz.func136 rfl Tryz.ntmps136 rfl (Sat.refl _ _) ?_
  obtain ⟨x1, e1, H0⟩ := bind_some H0
  refine sr (oD (sg rfl) rfl (nn (sr (oD (mv rfl) rfl (oD (stp_len Tryz.underlying26 rfl) rfl (oE (stpU_make sl40 rfl 0 rfl rfl e1) rfl ?_))))))
  rintro _ _ ⟨p2, C3, rfl, rfl, o3⟩
  obtain ⟨o0_0, eo0_0, H0⟩ := bind_some H0
  refine oD (sg rfl) rfl (nn (cw_seq (sr (oD (sg rfl) rfl (nn (cw_join (ι := (List Ln) × Int × Res) (fun | (v4, v6, C5) => o0_0 = .out (v4, v6) ∧ x1 = (v4).length ∧ OwnC (α := Ln) 112 p2 x1 v4 C5) (fun | (v4, v6, C5) => [(0, .slice p0_0 ((a0).length) c0_0), (3, .slice p2 x1 x1), (4, .int .i64 v6)]) (fun | (v4, v6, C5) => [(0, C5)]) ?_ ?_))))))
  · refine cw_block (cw_loopS (ι := Nat × (List Ln) × Int × Res) (js := [0]) (fun x => x.1) (fun | (fuel, v4, v6, C5) => l_toLineS_L0 fl a0 fuel v4 v6 = some o0_0 ∧ x1 = (v4).length ∧ OwnC (α := Ln) 112 p2 x1 v4 C5) (fun | (_, v4, v6, C5) => [(0, .slice p0_0 ((a0).length) c0_0), (3, .slice p2 x1 x1), (4, .int .i64 v6)]) (fun | (_, v4, v6, C5) => [(0, C5)]) (fl, (List.replicate x1 (⟨false, 0, 0, 0, 0, false⟩ : Ln)), 0, C3) ⟨eo0_0, (by simp), o3⟩ ⟨rfl, rfl, rfl, trivial⟩ ⟨0, [], rfl, rfl, trivial⟩ (by decide) ?_)
    rintro ⟨fuel, v4, v6, C5⟩ ⟨H1, hl5, o5⟩
    have H1 : l_toLineS_L0 fl a0 fuel v4 v6 = some o0_0 := H1
    rcases fuel with _ | fuel
    · rw [l_toLineS_L0.eq_1] at H1; cases H1
    rw [l_toLineS_L0.eq_2] at H1
    refine CW.sub (s' := [(0, .slice p0_0 ((a0).length) c0_0), (3, .slice p2 x1 x1), (4, .int .i64 v6)]) (h' := [(0, C5)]) ?_ ⟨rfl, rfl, rfl, trivial⟩ ⟨rfl, trivial⟩
    refine cw_seq (sr (oD (mv rfl) rfl (oD (mv rfl) rfl (oD (stp_len Tryz.underlying26 rfl) rfl (oD (stp_lss rfl rfl) rfl (nn (cw_cond rfl (fun h7 => ?_) (fun h7 => ?_))))))))
    · have H1 := cond_t H1 h7
      obtain ⟨x8, e8, H1⟩ := bind_some H1
      obtain ⟨x9, e9, H1⟩ := bind_some H1
      refine cw_skip (kw_nx (cw_seq (cw_block (cw_region (oD (mv rfl) rfl (oD (mv rfl) rfl (oD (mv rfl) rfl (oD (mv rfl) rfl (oD (stp_indexAddr Tryz.underlying26 ts204 (by decide) rfl rfl rfl (Rdb.ro hr0_0) e8) rfl (oD (stp_loadN (us := [_, _, _, _, _, _]) ts204 rfl (Cells.el (Rdb.ro hr0_0) (by decide) e8 0 6 rfl)) rfl (oE (stpU_call (fun i => 1 + i) cf193 (fun w hw => c_l_toLine fl w x8 x9 e9) (sevs_cons rfl sevs_nil)) rfl ?_)))))))))))
      rintro _ _ ⟨_, ⟨rfl, rfl⟩, rfl⟩
      obtain ⟨x10, e10, H1⟩ := bind_some H1
      refine oD (stp_indexAddr Tryz.underlying40 ts112 (by decide) rfl (by simp [hl5]) rfl (Rdb.own (id := 0) rfl o5) e10) rfl (oF (stpU_storeEl (id := 0) (i := 0) x9 (by decide) ts112 rfl rfl rfl o5 e10 rfl rfl rfl rfl) ?_)
      rintro _ _ ⟨C11, rfl, o11⟩
      obtain ⟨x12, e12, H1⟩ := bind_some H1
      exact ow_nil (kw_bl_normal (kw_nx (cw_region (oD (mv rfl) rfl (oD (stp_add rfl rfl e12) rfl (oD (sg rfl) rfl (ow_nil (kw_lqS (js := [0]) (fuel, (v4.set (Int.toNat v6) x9), x12, C11) ⟨H1, (by simp [hl5]), o11⟩ (Nat.lt_succ_self _) ⟨rfl, rfl, rfl, trivial⟩ ⟨0, [], rfl, rfl, trivial⟩ (by decide)))))))))
    · have H1 := cond_f H1 h7
      refine cw_exit (kw_nx_exit (kw_lq_exit (kw_bl ?_)))
      have q1 := Option.some.inj H1
      subst q1
      exact kw_joinS (js := [0]) (v4, v6, C5) ⟨rfl, (by simp [hl5]), o5⟩ ⟨rfl, rfl, rfl, trivial⟩ ⟨0, [], rfl, rfl, trivial⟩ (by decide)
  · rintro ⟨v4, v6, C5⟩ ⟨rfl, hl5, o5⟩
    refine KW.sub (s' := [(0, .slice p0_0 ((a0).length) c0_0), (3, .slice p2 x1 x1), (4, .int .i64 v6)]) (h' := [(0, C5)]) ?_ ⟨rfl, rfl, rfl, trivial⟩ ⟨rfl, trivial⟩
    refine kw_nx (sr (oD (mv rfl) rfl (oD (sg rfl) rfl (nn (cw_ret ?_)))))
    have q0 := Option.some.inj H0
    subst q0
    exact kw_ret Tryz.results136 (.cons (.tmp rfl) .nil) [(0, C5)] [0] ⟨0, [], rfl, rfl, trivial⟩ (by decide) ⟨p2, x1, x1, C5, rfl, rfl, (by simp [hl5]), o5⟩

set_option maxHeartbeats 4000000 in
set_option maxRecDepth 20000 in
theorem c_l_toCache (fl : Nat) (w : World) (a0 : Ca) (p0_0 : Option Addr) (n0_0 c0_0 : Nat) (hn0_0 : n0_0 = (a0.l).length) (hr0_0 : RO w (hkeys []) (RdL p0_0 c0_0 a0.l)) (r : Ca) (H0 : l_toCache fl a0 = some r) :
    Ct Tryz.prog 58 [.agg #[.slice p0_0 n0_0 c0_0, .int .i64 a0.h]] w [] (fun rv h' => ∃ (x0 : Option Addr) (y0 z0 : Nat) (C0 : Res), rv = .agg #[.slice x0 y0 z0, .int .i64 r.h] ∧ h' = [(0, C0)] ∧ y0 = (r.l).length ∧ OwnC 112 x0 z0 r.l C0) := by
  obtain rfl := hn0_0
  unfold l_toCache at H0
  refine ct_of_cw Tryz.func58 rfl Tryz.ntmps58 rfl (Sat.refl _ _) ?_
  refine sr (oE (stpU_box 0 rfl rfl) rfl ?_)
  rintro _ _ ⟨b1, rfl, rfl⟩
  refine oE (stpU_alloc 1 tz42 rfl) rfl ?_
  rintro _ _ ⟨b2, rfl, rfl⟩
  refine nn (sr (oE (stpU_alloc 2 tz42 rfl) rfl ?_))
  rintro _ _ ⟨b3, rfl, rfl⟩
  obtain ⟨x4, e4, H0⟩ := bind_some H0
  refine nn (sr (oD (fA 0 Tryz.underlying28 rfl ts26 rfl rfl rfl) rfl (oD (lB 0 ts26 rfl rfl rfl) rfl (oE (stpU_call (fun i => 3 + i) cf136 (fun w hw => c_l_toLineS fl w a0.l p0_0 ((a0.l).length) c0_0 rfl (RO.pass hr0_0 hw) x4 e4) (sevs_cons rfl sevs_nil)) rfl ?_))))
  rintro _ _ ⟨_, ⟨p5, n6, c7, C8, rfl, rfl, hnn6, o8⟩, rfl⟩
  obtain rfl := hnn6
  refine oD (fA 0 Tryz.underlying42 rfl ts40 rfl rfl rfl) rfl (oF (stpU_store (id := 2) (cs' := [.slice p5 ((x4).length) c7, .int .i64 0]) ts40 rfl rfl rfl rfl rfl rfl rfl) ?_)
  rintro _ _ rfl
  refine nn (sr (oD (fA 1 Tryz.underlying28 rfl ts3 rfl rfl rfl) rfl (oD (lB 0 ts3 rfl rfl rfl) rfl (oD (fA 1 Tryz.underlying42 rfl ts3 rfl rfl rfl) rfl (oF (stpU_store (id := 2) (cs' := [.slice p5 ((x4).length) c7, .int .i64 a0.h]) ts3 rfl rfl rfl rfl rfl rfl rfl) ?_)))))
  rintro _ _ rfl
  refine nn (sr (oD (stp_loadN (us := [_, _]) ts42 rfl (Cells.box (id := 2) rfl 2 rfl)) rfl (oF (stpU_store (id := 1) (cs' := [.slice p5 ((x4).length) c7, .int .i64 a0.h]) ts42 rfl rfl rfl rfl rfl rfl rfl) ?_)))
  rintro _ _ rfl
  refine nn (cw_ret ?_)
  have q0 := Option.some.inj H0
  subst q0
  exact kw_ret Tryz.results58 (.cons (.cellN (us := [_, _]) ts42 rfl (Cells.box (id := 1) rfl 2 rfl)) .nil) [(0, C8)] [3] ⟨3, [], rfl, rfl, trivial⟩ (by decide) ⟨p5, ((x4).length), c7, C8, rfl, rfl, rfl, o8⟩

set_option maxHeartbeats 4000000 in
set_option maxRecDepth 20000 in
theorem c_l_toOwn (fl : Nat) (w : World) (a0 : Ow) (r : Ow) (H0 : l_toOwn fl a0 = some r) :
    Ct Tryz.prog 194 [.agg #[.int .i64 a0.sp, .int .i64 a0.tg]] w [] (fun rv h' => rv = .agg #[.int .i64 r.sp, .int .i64 r.tg] ∧ h' = []) := by
  unfold l_toOwn at H0
  refine ct_of_cw Tryz.func194 rfl Tryz.ntmps194 rfl (Sat.refl _ _) ?_
  refine sr (oE (stpU_box 0 rfl rfl) rfl ?_)
  rintro _ _ ⟨b1, rfl, rfl⟩
  refine oE (stpU_alloc 1 tz148 rfl) rfl ?_
  rintro _ _ ⟨b2, rfl, rfl⟩
  refine nn (sr (oE (stpU_alloc 2 tz148 rfl) rfl ?_))
  rintro _ _ ⟨b3, rfl, rfl⟩
  refine nn (sr (oD (fA 0 Tryz.underlying206 rfl ts3 rfl rfl rfl) rfl (oD (lB 0 ts3 rfl rfl rfl) rfl (oD (fA 0 Tryz.underlying148 rfl ts3 rfl rfl rfl) rfl (oF (stpU_store (id := 2) (cs' := [.int .i64 a0.sp, .int .i64 0]) ts3 rfl rfl rfl rfl rfl rfl rfl) ?_)))))
  rintro _ _ rfl
  refine nn (sr (oD (fA 1 Tryz.underlying206 rfl ts3 rfl rfl rfl) rfl (oD (lB 0 ts3 rfl rfl rfl) rfl (oD (fA 1 Tryz.underlying148 rfl ts3 rfl rfl rfl) rfl (oF (stpU_store (id := 2) (cs' := [.int .i64 a0.sp, .int .i64 a0.tg]) ts3 rfl rfl rfl rfl rfl rfl rfl) ?_)))))
  rintro _ _ rfl
  refine nn (sr (oD (stp_loadN (us := [_, _]) ts148 rfl (Cells.box (id := 2) rfl 2 rfl)) rfl (oF (stpU_store (id := 1) (cs' := [.int .i64 a0.sp, .int .i64 a0.tg]) ts148 rfl rfl rfl rfl rfl rfl rfl) ?_)))
  rintro _ _ rfl
  refine nn (cw_ret ?_)
  have q0 := Option.some.inj H0
  subst q0
  exact kw_ret Tryz.results194 (.cons (.cellN (us := [_, _]) ts148 rfl (Cells.box (id := 1) rfl 2 rfl)) .nil) [] [] trivial (by decide) ⟨rfl, rfl⟩

set_option maxHeartbeats 4000000 in
set_option maxRecDepth 20000 in
theorem c_l_toOwnS (fl : Nat) (w : World) (a0 : (List Ow)) (p0_0 : Option Addr) (n0_0 c0_0 : Nat) (hn0_0 : n0_0 = (a0).length) (hr0_0 : RO w (hkeys []) (RdL p0_0 c0_0 a0)) (r : (List Ow)) (H0 : l_toOwnS fl a0 = some r) :
    Ct Tryz.prog 137 [.slice p0_0 n0_0 c0_0] w [] (fun rv h' => ∃ (x0 : Option Addr) (y0 z0 : Nat) (C0 : Res), rv = .slice x0 y0 z0 ∧ h' = [(0, C0)] ∧ y0 = (r).length ∧ OwnC 148 x0 z0 r C0) := by
  obtain rfl := hn0_0
  unfold l_toOwnS at H0
  refine ct_of_cw Tryz.func137 rfl Tryz.ntmps137 rfl (Sat.refl _ _) ?_
  obtain ⟨x1, e1, H0⟩ := bind_some H0
  refine sr (oD (sg rfl) rfl (nn (sr (oD (mv rfl) rfl (oD (stp_len Tryz.underlying29 rfl) rfl (oE (stpU_make sl43 rfl 0 rfl rfl e1) rfl ?_))))))
  rintro _ _ ⟨p2, C3, rfl, rfl, o3⟩
  obtain ⟨o0_0, eo0_0, H0⟩ := bind_some H0
  refine oD (sg rfl) rfl (nn (cw_seq (sr (oD (sg rfl) rfl (nn (cw_join (ι := (List Ow) × Int × Res) (fun | (v4, v6, C5) => o0_0 = .out (v4, v6) ∧ x1 = (v4).length ∧ OwnC (α := Ow) 148 p2 x1 v4 C5) (fun | (v4, v6, C5) => [(0, .slice p0_0 ((a0).length) c0_0), (3, .slice p2 x1 x1), (4, .int .i64 v6)]) (fun | (v4, v6, C5) => [(0, C5)]) ?_ ?_))))))
  · refine cw_block (cw_loopS (ι := Nat × (List Ow) × Int × Res) (js := [0]) (fun x => x.1) (fun | (fuel, v4, v6, C5) => l_toOwnS_L0 fl a0 fuel v4 v6 = some o0_0 ∧ x1 = (v4).length ∧ OwnC (α := Ow) 148 p2 x1 v4 C5) (fun | (_, v4, v6, C5) => [(0, .slice p0_0 ((a0).length) c0_0), (3, .slice p2 x1 x1), (4, .int .i64 v6)]) (fun | (_, v4, v6, C5) => [(0, C5)]) (fl, (List.replicate x1 (⟨0, 0⟩ : Ow)), 0, C3) ⟨eo0_0, (by simp), o3⟩ ⟨rfl, rfl, rfl, trivial⟩ ⟨0, [], rfl, rfl, trivial⟩ (by decide) ?_)
    rintro ⟨fuel, v4, v6, C5⟩ ⟨H1, hl5, o5⟩
    have H1 : l_toOwnS_L0 fl a0 fuel v4 v6 = some o0_0 := H1
    rcases fuel with _ | fuel
    · rw [l_toOwnS_L0.eq_1] at H1; cases H1
    rw [l_toOwnS_L0.eq_2] at H1
    refine CW.sub (s' := [(0, .slice p0_0 ((a0).length) c0_0), (3, .slice p2 x1 x1), (4, .int .i64 v6)]) (h' := [(0, C5)]) ?_ ⟨rfl, rfl, rfl, trivial⟩ ⟨rfl, trivial⟩
    refine cw_seq (sr (oD (mv rfl) rfl (oD (mv rfl) rfl (oD (stp_len Tryz.underlying29 rfl) rfl (oD (stp_lss rfl rfl) rfl (nn (cw_cond rfl (fun h7 => ?_) (fun h7 => ?_))))))))
    · have H1 := cond_t H1 h7
      obtain ⟨x8, e8, H1⟩ := bind_some H1
      obtain ⟨x9, e9, H1⟩ := bind_some H1
      refine cw_skip (kw_nx (cw_seq (cw_block (cw_region (oD (mv rfl) rfl (oD (mv rfl) rfl (oD (mv rfl) rfl (oD (mv rfl) rfl (oD (stp_indexAddr Tryz.underlying29 ts206 (by decide) rfl rfl rfl (Rdb.ro hr0_0) e8) rfl (oD (stp_loadN (us := [_, _]) ts206 rfl (Cells.el (Rdb.ro hr0_0) (by decide) e8 0 2 rfl)) rfl (oE (stpU_call (fun i => 1 + i) cf194 (fun w hw => c_l_toOwn fl w x8 x9 e9) (sevs_cons rfl sevs_nil)) rfl ?_)))))))))))
      rintro _ _ ⟨_, ⟨rfl, rfl⟩, rfl⟩
      obtain ⟨x10, e10, H1⟩ := bind_some H1
      refine oD (stp_indexAddr Tryz.underlying43 ts148 (by decide) rfl (by simp [hl5]) rfl (Rdb.own (id := 0) rfl o5) e10) rfl (oF (stpU_storeEl (id := 0) (i := 0) x9 (by decide) ts148 rfl rfl rfl o5 e10 rfl rfl rfl rfl) ?_)
      rintro _ _ ⟨C11, rfl, o11⟩
      obtain ⟨x12, e12, H1⟩ := bind_some H1
      exact ow_nil (kw_bl_normal (kw_nx (cw_region (oD (mv rfl) rfl (oD (stp_add rfl rfl e12) rfl (oD (sg rfl) rfl (ow_nil (kw_lqS (js := [0]) (fuel, (v4.set (Int.toNat v6) x9), x12, C11) ⟨H1, (by simp [hl5]), o11⟩ (Nat.lt_succ_self _) ⟨rfl, rfl, rfl, trivial⟩ ⟨0, [], rfl, rfl, trivial⟩ (by decide)))))))))
    · have H1 := cond_f H1 h7
      refine cw_exit (kw_nx_exit (kw_lq_exit (kw_bl ?_)))
      have q1 := Option.some.inj H1
      subst q1
      exact kw_joinS (js := [0]) (v4, v6, C5) ⟨rfl, (by simp [hl5]), o5⟩ ⟨rfl, rfl, rfl, trivial⟩ ⟨0, [], rfl, rfl, trivial⟩ (by decide)
  · rintro ⟨v4, v6, C5⟩ ⟨rfl, hl5, o5⟩
    refine KW.sub (s' := [(0, .slice p0_0 ((a0).length) c0_0), (3, .slice p2 x1 x1), (4, .int .i64 v6)]) (h' := [(0, C5)]) ?_ ⟨rfl, rfl, rfl, trivial⟩ ⟨rfl, trivial⟩
    refine kw_nx (sr (oD (mv rfl) rfl (oD (sg rfl) rfl (nn (cw_ret ?_)))))
    have q0 := Option.some.inj H0
    subst q0
    exact kw_ret Tryz.results137 (.cons (.tmp rfl) .nil) [(0, C5)] [0] ⟨0, [], rfl, rfl, trivial⟩ (by decide) ⟨p2, x1, x1, C5, rfl, rfl, (by simp [hl5]), o5⟩

set_option maxHeartbeats 4000000 in
set_option maxRecDepth 20000 in
theorem c_l_toTags (fl : Nat) (w : World) (a0 : Tg) (p0_0 : Option Addr) (n0_0 c0_0 : Nat) (hn0_0 : n0_0 = (a0.o).length) (hr0_0 : RO w (hkeys []) (RdL p0_0 c0_0 a0.o)) (r : Tg) (H0 : l_toTags fl a0 = some r) :
    Ct Tryz.prog 59 [.agg #[.int .i64 a0.c, .int .i64 a0.n, .int .i64 a0.r, .slice p0_0 n0_0 c0_0]] w [] (fun rv h' => ∃ (x0 : Option Addr) (y0 z0 : Nat) (C0 : Res), rv = .agg #[.int .i64 r.c, .int .i64 r.n, .int .i64 r.r, .slice x0 y0 z0] ∧ h' = [(0, C0)] ∧ y0 = (r.o).length ∧ OwnC 148 x0 z0 r.o C0) := by
  obtain rfl := hn0_0
  unfold l_toTags at H0
  refine ct_of_cw Tryz.func59 rfl Tryz.ntmps59 rfl (Sat.refl _ _) ?_
  refine sr (oE (stpU_box 0 rfl rfl) rfl ?_)
  rintro _ _ ⟨b1, rfl, rfl⟩
  refine oE (stpU_alloc 1 tz45 rfl) rfl ?_
  rintro _ _ ⟨b2, rfl, rfl⟩
  refine nn (sr (oE (stpU_alloc 2 tz45 rfl) rfl ?_))
  rintro _ _ ⟨b3, rfl, rfl⟩
  refine nn (sr (oD (fA 0 Tryz.underlying31 rfl ts3 rfl rfl rfl) rfl (oD (lB 0 ts3 rfl rfl rfl) rfl (oD (fA 0 Tryz.underlying45 rfl ts3 rfl rfl rfl) rfl (oF (stpU_store (id := 2) (cs' := [.int .i64 a0.c, .int .i64 0, .int .i64 0, .slice none 0 0]) ts3 rfl rfl rfl rfl rfl rfl rfl) ?_)))))
  rintro _ _ rfl
  refine nn (sr (oD (fA 1 Tryz.underlying31 rfl ts3 rfl rfl rfl) rfl (oD (lB 0 ts3 rfl rfl rfl) rfl (oD (fA 1 Tryz.underlying45 rfl ts3 rfl rfl rfl) rfl (oF (stpU_store (id := 2) (cs' := [.int .i64 a0.c, .int .i64 a0.n, .int .i64 0, .slice none 0 0]) ts3 rfl rfl rfl rfl rfl rfl rfl) ?_)))))
  rintro _ _ rfl
  refine nn (sr (oD (fA 2 Tryz.underlying31 rfl ts3 rfl rfl rfl) rfl (oD (lB 0 ts3 rfl rfl rfl) rfl (oD (fA 2 Tryz.underlying45 rfl ts3 rfl rfl rfl) rfl (oF (stpU_store (id := 2) (cs' := [.int .i64 a0.c, .int .i64 a0.n, .int .i64 a0.r, .slice none 0 0]) ts3 rfl rfl rfl rfl rfl rfl rfl) ?_)))))
  rintro _ _ rfl
  obtain ⟨x4, e4, H0⟩ := bind_some H0
  refine nn (sr (oD (fA 3 Tryz.underlying31 rfl ts29 rfl rfl rfl) rfl (oD (lB 0 ts29 rfl rfl rfl) rfl (oE (stpU_call (fun i => 3 + i) cf137 (fun w hw => c_l_toOwnS fl w a0.o p0_0 ((a0.o).length) c0_0 rfl (RO.pass hr0_0 hw) x4 e4) (sevs_cons rfl sevs_nil)) rfl ?_))))
  rintro _ _ ⟨_, ⟨p5, n6, c7, C8, rfl, rfl, hnn6, o8⟩, rfl⟩
  obtain rfl := hnn6
  refine oD (fA 3 Tryz.underlying45 rfl ts43 rfl rfl rfl) rfl (oF (stpU_store (id := 2) (cs' := [.int .i64 a0.c, .int .i64 a0.n, .int .i64 a0.r, .slice p5 ((x4).length) c7]) ts43 rfl rfl rfl rfl rfl rfl rfl) ?_)
  rintro _ _ rfl
  refine nn (sr (oD (stp_loadN (us := [_, _, _, _]) ts45 rfl (Cells.box (id := 2) rfl 4 rfl)) rfl (oF (stpU_store (id := 1) (cs' := [.int .i64 a0.c, .int .i64 a0.n, .int .i64 a0.r, .slice p5 ((x4).length) c7]) ts45 rfl rfl rfl rfl rfl rfl rfl) ?_)))
  rintro _ _ rfl
  refine nn (cw_ret ?_)
  have q0 := Option.some.inj H0
  subst q0
  exact kw_ret Tryz.results59 (.cons (.cellN (us := [_, _, _, _]) ts45 rfl (Cells.box (id := 1) rfl 4 rfl)) .nil) [(0, C8)] [3] ⟨3, [], rfl, rfl, trivial⟩ (by decide) ⟨p5, ((x4).length), c7, C8, rfl, rfl, rfl, o8⟩

set_option maxHeartbeats 4000000 in
set_option maxRecDepth 20000 in
theorem c_l_toMachine (fl : Nat) (w : World) (a0 : Mc) (p0_0 : Option Addr) (n0_0 c0_0 : Nat) (p0_1 : Option Addr) (n0_1 c0_1 : Nat) (p0_2 : Option Addr) (n0_2 c0_2 : Nat) (p0_3 : Option Addr) (n0_3 c0_3 : Nat) (hn0_0 : n0_0 = (a0.t.b).length) (hr0_0 : RO w (hkeys []) (RdL p0_0 c0_0 a0.t.b)) (hn0_1 : n0_1 = (a0.t.f).length) (hr0_1 : RO w (hkeys []) (RdL p0_1 c0_1 a0.t.f)) (hn0_2 : n0_2 = (a0.c.l).length) (hr0_2 : RO w (hkeys []) (RdL p0_2 c0_2 a0.c.l)) (hn0_3 : n0_3 = (a0.g.o).length) (hr0_3 : RO w (hkeys []) (RdL p0_3 c0_3 a0.g.o)) (r : Mc) (H0 : l_toMachine fl a0 = some r) :
    Ct Tryz.prog 16 [.agg #[.slice p0_0 n0_0 c0_0, .slice p0_1 n0_1 c0_1, .slice p0_2 n0_2 c0_2, .int .i64 a0.c.h, .int .i64 a0.g.c, .int .i64 a0.g.n, .int .i64 a0.g.r, .slice p0_3 n0_3 c0_3, .int .i64 a0.s]] w [] (fun rv h' => ∃ (x0 : Option Addr) (y0 z0 : Nat) (C0 : Res) (x1 : Option Addr) (y1 z1 : Nat) (C1 : Res) (x2 : Option Addr) (y2 z2 : Nat) (C2 : Res) (x3 : Option Addr) (y3 z3 : Nat) (C3 : Res), rv = .agg #[.slice x0 y0 z0, .slice x1 y1 z1, .slice x2 y2 z2, .int .i64 r.c.h, .int .i64 r.g.c, .int .i64 r.g.n, .int .i64 r.g.r, .slice x3 y3 z3, .int .i64 r.s] ∧ h' = [(0, C0), (1, C1), (2, C2), (3, C3)] ∧ y0 = (r.t.b).length ∧ OwnC 3 x0 z0 r.t.b C0 ∧ y1 = (r.t.f).length ∧ OwnC 127 x1 z1 r.t.f C1 ∧ y2 = (r.c.l).length ∧ OwnC 112 x2 z2 r.c.l C2 ∧ y3 = (r.g.o).length ∧ OwnC 148 x3 z3 r.g.o C3) := by
  obtain rfl := hn0_0
  obtain rfl := hn0_1
  obtain rfl := hn0_2
  obtain rfl := hn0_3
  unfold l_toMachine at H0
  refine ct_of_cw Tryz.func16 rfl Tryz.ntmps16 rfl (Sat.refl _ _) ?_
  refine sr (oE (stpU_box 0 rfl rfl) rfl ?_)
  rintro _ _ ⟨b1, rfl, rfl⟩
  refine oE (stpU_alloc 1 tz47 rfl) rfl ?_
  rintro _ _ ⟨b2, rfl, rfl⟩
  refine nn (sr (oE (stpU_alloc 2 tz47 rfl) rfl ?_))
  rintro _ _ ⟨b3, rfl, rfl⟩
  obtain ⟨x4, e4, H0⟩ := bind_some H0
  refine nn (sr (oD (fA 0 Tryz.underlying33 rfl ts25 rfl rfl rfl) rfl (oD (stp_loadN (us := [_, _]) ts25 rfl (Cells.box (id := 0) rfl 2 rfl)) rfl (oE (stpU_call (fun i => 3 + i) cf57 (fun w hw => c_l_toTable fl w a0.t p0_0 ((a0.t.b).length) c0_0 p0_1 ((a0.t.f).length) c0_1 rfl (RO.pass hr0_0 hw) rfl (RO.pass hr0_1 hw) x4 e4) (sevs_cons rfl sevs_nil)) rfl ?_))))
  rintro _ _ ⟨_, ⟨p5, n6, c7, C8, p9, n10, c11, C12, rfl, rfl, hnn6, o8, hnn10, o12⟩, rfl⟩
  obtain rfl := hnn6
  obtain rfl := hnn10
  refine oD (fA 0 Tryz.underlying47 rfl ts39 rfl rfl rfl) rfl (oF (stpU_store (id := 2) (cs' := [.slice p5 ((x4.b).length) c7, .slice p9 ((x4.f).length) c11, .slice none 0 0, .int .i64 0, .int .i64 0, .int .i64 0, .int .i64 0, .slice none 0 0, .int .i64 0]) ts39 rfl rfl rfl rfl rfl rfl rfl) ?_)
  rintro _ _ rfl
  obtain ⟨x13, e13, H0⟩ := bind_some H0
  refine nn (sr (oD (fA 2 Tryz.underlying33 rfl ts28 rfl rfl rfl) rfl (oD (stp_loadN (us := [_, _]) ts28 rfl (Cells.box (id := 0) rfl 2 rfl)) rfl (oE (stpU_call (fun i => 5 + i) cf58 (fun w hw => c_l_toCache fl w a0.c p0_2 ((a0.c.l).length) c0_2 rfl (RO.pass hr0_2 hw) x13 e13) (sevs_cons rfl sevs_nil)) rfl ?_))))
  rintro _ _ ⟨_, ⟨p14, n15, c16, C17, rfl, rfl, hnn15, o17⟩, rfl⟩
  obtain rfl := hnn15
  refine oD (fA 2 Tryz.underlying47 rfl ts42 rfl rfl rfl) rfl (oF (stpU_store (id := 2) (cs' := [.slice p5 ((x4.b).length) c7, .slice p9 ((x4.f).length) c11, .slice p14 ((x13.l).length) c16, .int .i64 x13.h, .int .i64 0, .int .i64 0, .int .i64 0, .slice none 0 0, .int .i64 0]) ts42 rfl rfl rfl rfl rfl rfl rfl) ?_)
  rintro _ _ rfl
  obtain ⟨x18, e18, H0⟩ := bind_some H0
  refine nn (sr (oD (fA 4 Tryz.underlying33 rfl ts31 rfl rfl rfl) rfl (oD (stp_loadN (us := [_, _, _, _]) ts31 rfl (Cells.box (id := 0) rfl 4 rfl)) rfl (oE (stpU_call (fun i => 6 + i) cf59 (fun w hw => c_l_toTags fl w a0.g p0_3 ((a0.g.o).length) c0_3 rfl (RO.pass hr0_3 hw) x18 e18) (sevs_cons rfl sevs_nil)) rfl ?_))))
  rintro _ _ ⟨_, ⟨p19, n20, c21, C22, rfl, rfl, hnn20, o22⟩, rfl⟩
  obtain rfl := hnn20
  refine oD (fA 4 Tryz.underlying47 rfl ts45 rfl rfl rfl) rfl (oF (stpU_store (id := 2) (cs' := [.slice p5 ((x4.b).length) c7, .slice p9 ((x4.f).length) c11, .slice p14 ((x13.l).length) c16, .int .i64 x13.h, .int .i64 x18.c, .int .i64 x18.n, .int .i64 x18.r, .slice p19 ((x18.o).length) c21, .int .i64 0]) ts45 rfl rfl rfl rfl rfl rfl rfl) ?_)
  rintro _ _ rfl
  refine nn (sr (oD (fA 8 Tryz.underlying33 rfl ts3 rfl rfl rfl) rfl (oD (lB 0 ts3 rfl rfl rfl) rfl (oD (fA 8 Tryz.underlying47 rfl ts3 rfl rfl rfl) rfl (oF (stpU_store (id := 2) (cs' := [.slice p5 ((x4.b).length) c7, .slice p9 ((x4.f).length) c11, .slice p14 ((x13.l).length) c16, .int .i64 x13.h, .int .i64 x18.c, .int .i64 x18.n, .int .i64 x18.r, .slice p19 ((x18.o).length) c21, .int .i64 a0.s]) ts3 rfl rfl rfl rfl rfl rfl rfl) ?_)))))
  rintro _ _ rfl
  refine nn (sr (oD (stp_loadN (us := [_, _, _, _, _, _, _, _, _]) ts47 rfl (Cells.box (id := 2) rfl 9 rfl)) rfl (oF (stpU_store (id := 1) (cs' := [.slice p5 ((x4.b).length) c7, .slice p9 ((x4.f).length) c11, .slice p14 ((x13.l).length) c16, .int .i64 x13.h, .int .i64 x18.c, .int .i64 x18.n, .int .i64 x18.r, .slice p19 ((x18.o).length) c21, .int .i64 a0.s]) ts47 rfl rfl rfl rfl rfl rfl rfl) ?_)))
  rintro _ _ rfl
  refine nn (cw_ret ?_)
  have q0 := Option.some.inj H0
  subst q0
  exact kw_ret Tryz.results16 (.cons (.cellN (us := [_, _, _, _, _, _, _, _, _]) ts47 rfl (Cells.box (id := 1) rfl 9 rfl)) .nil) [(0, C8), (1, C12), (2, C17), (3, C22)] [3, 4, 5, 6] ⟨3, [4, 5, 6], rfl, rfl, 4, [5, 6], rfl, rfl, 5, [6], rfl, rfl, 6, [], rfl, rfl, trivial⟩ (by decide) ⟨p5, ((x4.b).length), c7, C8, p9, ((x4.f).length), c11, C12, p14, ((x13.l).length), c16, C17, p19, ((x18.o).length), c21, C22, rfl, rfl, rfl, o8, rfl, o12, rfl, o17, rfl, o22⟩

theorem c_s_TableValid (fl : Nat) (w : World) (a0 : T) (p0_0 : Option Addr) (n0_0 c0_0 : Nat) (p0_1 : Option Addr) (n0_1 c0_1 : Nat) (hn0_0 : n0_0 = (a0.b).length) (hr0_0 : RO w (hkeys []) (RdL p0_0 c0_0 a0.b)) (hn0_1 : n0_1 = (a0.f).length) (hr0_1 : RO w (hkeys []) (RdL p0_1 c0_1 a0.f)) (r : Bool) (H0 : s_TableValid fl a0 = some r) :
    Ct Tryz.prog 124 [.agg #[.slice p0_0 n0_0 c0_0, .slice p0_1 n0_1 c0_1]] w [] (fun rv h' => rv = .bool r ∧ h' = []) := by
  obtain rfl := hn0_0
  obtain rfl := hn0_1
  unfold s_TableValid at H0
  obtain rfl := Option.some.inj H0
  exact ct_of_calls (sTableValid_c _ a0 w ⟨_, _, rfl, (hr0_0 w (Fr.refl _ _)).rd, (hr0_1 w (Fr.refl _ _)).rd⟩)

set_option maxHeartbeats 4000000 in
set_option maxRecDepth 20000 in
theorem c_s_l1Page (fl : Nat) (w : World) (a0 : Int) (r : Bool) (H0 : s_l1Page fl a0 = some r) :
    Ct Tryz.prog 82 [.int .i64 a0] w [] (fun rv h' => rv = .bool r ∧ h' = []) := by
  unfold s_l1Page at H0
  refine ct_of_cw Tryz.func82 rfl Tryz.ntmps82 rfl (Sat.refl _ _) ?_
  obtain ⟨y1, ey1, H0⟩ := bind_some H0
  refine sr (oD (sg rfl) rfl (nn (sr (oD (mv rfl) rfl (oD (stp_geq rfl rfl) rfl (oD (mv rfl) rfl (ow_cutY 3 8 y1 ?_ ?_)))))))
  · rcases Bool.eq_false_or_eq_true (decide (0 ≤ a0)) with hy1 | hy1
    · have ey1 := cond_t ey1 hy1
      refine oG rfl hy1 (mv rfl) rfl (oG rfl hy1 (stp_lss rfl rfl) rfl (oD (stp_pick_t rfl hy1 rfl) rfl ?_))
      obtain rfl := Option.some.inj ey1
      exact ow_nil (jy 3 0)
    · have ey1 := cond_f ey1 hy1
      refine oO rfl hy1 rfl (oO rfl hy1 rfl (oD (stp_pick_f rfl hy1 rfl) rfl ?_))
      obtain rfl := Option.some.inj ey1
      exact ow_nil (jy 3 0)
  · refine oD (sg rfl) rfl (nn (cw_ret ?_))
    have q0 := Option.some.inj H0
    subst q0
    exact kw_ret Tryz.results82 (.cons (.tmp rfl) .nil) [] [] trivial (by decide) ⟨rfl, rfl⟩

set_option maxHeartbeats 4000000 in
set_option maxRecDepth 20000 in
theorem c_s_RightsValid (fl : Nat) (w : World) (a0 : Int) (r : Bool) (H0 : s_RightsValid fl a0 = some r) :
    Ct Tryz.prog 83 [.int .i64 a0] w [] (fun rv h' => rv = .bool r ∧ h' = []) := by
  unfold s_RightsValid at H0
  refine ct_of_cw Tryz.func83 rfl Tryz.ntmps83 rfl (Sat.refl _ _) ?_
  obtain ⟨y1, ey1, H0⟩ := bind_some H0
  refine sr (oD (sg rfl) rfl (nn (sr (oD (mv rfl) rfl (oD (stp_geq rfl rfl) rfl (oD (mv rfl) rfl (ow_cutY 3 8 y1 ?_ ?_)))))))
  · rcases Bool.eq_false_or_eq_true (decide (0 ≤ a0)) with hy1 | hy1
    · have ey1 := cond_t ey1 hy1
      refine oG rfl hy1 (mv rfl) rfl (oG rfl hy1 (stp_leq rfl rfl) rfl (oD (stp_pick_t rfl hy1 rfl) rfl ?_))
      obtain rfl := Option.some.inj ey1
      exact ow_nil (jy 3 0)
    · have ey1 := cond_f ey1 hy1
      refine oO rfl hy1 rfl (oO rfl hy1 rfl (oD (stp_pick_f rfl hy1 rfl) rfl ?_))
      obtain rfl := Option.some.inj ey1
      exact ow_nil (jy 3 0)
  · refine oD (sg rfl) rfl (nn (cw_ret ?_))
    have q0 := Option.some.inj H0
    subst q0
    exact kw_ret Tryz.results83 (.cons (.tmp rfl) .nil) [] [] trivial (by decide) ⟨rfl, rfl⟩

set_option maxHeartbeats 4000000 in
set_option maxRecDepth 20000 in
theorem c_s_l4Line (fl : Nat) (w : World) (a0 : Ln) (r : Bool) (H0 : s_l4Line fl a0 = some r) :
    Ct Tryz.prog 190 [.agg #[.bool a0.va, .int .i64 a0.tg, .int .i64 a0.pg, .int .i64 a0.fr, .int .i64 a0.ri, .bool a0.wi]] w [] (fun rv h' => rv = .bool r ∧ h' = []) := by
  unfold s_l4Line at H0
  refine ct_of_cw Tryz.func190 rfl Tryz.ntmps190 rfl (Sat.refl _ _) ?_
  refine sr (oE (stpU_box 0 rfl rfl) rfl ?_)
  rintro _ _ ⟨b1, rfl, rfl⟩
  refine oD (sg rfl) rfl (nn (cw_seq (sr (oD (fA 0 Tryz.underlying112 rfl ts4 rfl rfl rfl) rfl (oD (lB 0 ts4 rfl rfl rfl) rfl (oD (stp_not rfl) rfl (nn (cw_cond rfl (fun h2 => ?_) (fun h2 => ?_)))))))))
  · have H0 := cond_t H0 h2
    refine sr (oD (stp_loadN (us := [_, _, _, _, _, _]) ts112 rfl (Cells.box (id := 0) rfl 6 rfl)) rfl (oD (stp_build (cs := #[.bool false, .int .i64 0, .int .i64 0, .int .i64 0, .int .i64 0, .bool false]) sevp_nil bt112_0) rfl (oD (stp_eqlS te112 a0 (⟨false, 0, 0, 0, 0, false⟩ : Ln) rfl rfl) rfl (oD (sg rfl) rfl (nn (cw_ret (kw_nx_ret ?_)))))))
    have q0 := Option.some.inj H0
    subst q0
    exact kw_ret Tryz.results190 (.cons (.tmp rfl) .nil) [] [] trivial (by decide) ⟨rfl, rfl⟩
  · have H0 := cond_f H0 h2
    obtain ⟨y3, ey3, H0⟩ := bind_some H0
    refine cw_skip (kw_nx (sr (oD (fA 1 Tryz.underlying112 rfl ts3 rfl rfl rfl) rfl (oD (lB 0 ts3 rfl rfl rfl) rfl (oD (stp_geq rfl rfl) rfl (oD (mv rfl) rfl (ow_cutY 4 16 y3 ?_ ?_)))))))
    · rcases Bool.eq_false_or_eq_true (decide ((-1) ≤ a0.tg)) with hy3 | hy3
      · have ey3 := cond_t ey3 hy3
        refine oG rfl hy3 (fA 1 Tryz.underlying112 rfl ts3 rfl rfl rfl) rfl (oG rfl hy3 (lB 0 ts3 rfl rfl rfl) rfl (oG rfl hy3 (stp_lss rfl rfl) rfl (oD (stp_pick_t rfl hy3 rfl) rfl ?_)))
        obtain rfl := Option.some.inj ey3
        exact ow_nil (jy 4 0)
      · have ey3 := cond_f ey3 hy3
        refine oO rfl hy3 rfl (oO rfl hy3 rfl (oO rfl hy3 rfl (oD (stp_pick_f rfl hy3 rfl) rfl ?_)))
        obtain rfl := Option.some.inj ey3
        exact ow_nil (jy 4 0)
    · obtain ⟨y4, ey4, H0⟩ := bind_some H0
      refine oD (mv rfl) rfl (ow_cutY 4 21 y4 ?_ ?_)
      · rcases Bool.eq_false_or_eq_true y3 with hy4 | hy4
        · have ey4 := cond_t ey4 hy4
          obtain ⟨x5, e5, ey4⟩ := bind_some ey4
          refine oG rfl hy4 (fA 2 Tryz.underlying112 rfl ts3 rfl rfl rfl) rfl (oG rfl hy4 (lB 0 ts3 rfl rfl rfl) rfl (ow_eff (.some rfl hy4) (stpU_call (fun i => 1 + i) cf82 (fun w hw => c_s_l1Page fl w a0.pg x5 e5) (sevs_cons rfl sevs_nil)) rfl ?_))
          rintro _ _ ⟨_, ⟨rfl, rfl⟩, rfl⟩
          refine oD (stp_pick_t rfl hy4 rfl) rfl ?_
          obtain rfl := Option.some.inj ey4
          exact ow_nil (jy 4 0)
        · have ey4 := cond_f ey4 hy4
          refine oO rfl hy4 rfl (oO rfl hy4 rfl (oO rfl hy4 rfl (oD (stp_pick_f rfl hy4 rfl) rfl ?_)))
          obtain rfl := Option.some.inj ey4
          exact ow_nil (jy 4 0)
      · obtain ⟨y6, ey6, H0⟩ := bind_some H0
        refine oD (mv rfl) rfl (ow_cutY 4 26 y6 ?_ ?_)
        · rcases Bool.eq_false_or_eq_true y4 with hy6 | hy6
          · have ey6 := cond_t ey6 hy6
            refine oG rfl hy6 (fA 3 Tryz.underlying112 rfl ts3 rfl rfl rfl) rfl (oG rfl hy6 (lB 0 ts3 rfl rfl rfl) rfl (oG rfl hy6 (stp_geq rfl rfl) rfl (oD (stp_pick_t rfl hy6 rfl) rfl ?_)))
            obtain rfl := Option.some.inj ey6
            exact ow_nil (jy 4 0)
          · have ey6 := cond_f ey6 hy6
            refine oO rfl hy6 rfl (oO rfl hy6 rfl (oO rfl hy6 rfl (oD (stp_pick_f rfl hy6 rfl) rfl ?_)))
            obtain rfl := Option.some.inj ey6
            exact ow_nil (jy 4 0)
        · obtain ⟨y7, ey7, H0⟩ := bind_some H0
          refine oD (mv rfl) rfl (ow_cutY 4 31 y7 ?_ ?_)
          · rcases Bool.eq_false_or_eq_true y6 with hy7 | hy7
            · have ey7 := cond_t ey7 hy7
              refine oG rfl hy7 (fA 3 Tryz.underlying112 rfl ts3 rfl rfl rfl) rfl (oG rfl hy7 (lB 0 ts3 rfl rfl rfl) rfl (oG rfl hy7 (stp_lss rfl rfl) rfl (oD (stp_pick_t rfl hy7 rfl) rfl ?_)))
              obtain rfl := Option.some.inj ey7
              exact ow_nil (jy 4 0)
            · have ey7 := cond_f ey7 hy7
              refine oO rfl hy7 rfl (oO rfl hy7 rfl (oO rfl hy7 rfl (oD (stp_pick_f rfl hy7 rfl) rfl ?_)))
              obtain rfl := Option.some.inj ey7
              exact ow_nil (jy 4 0)
          · obtain ⟨y8, ey8, H0⟩ := bind_some H0
            refine oD (mv rfl) rfl (ow_cutY 4 36 y8 ?_ ?_)
            · rcases Bool.eq_false_or_eq_true y7 with hy8 | hy8
              · have ey8 := cond_t ey8 hy8
                obtain ⟨x9, e9, ey8⟩ := bind_some ey8
                refine oG rfl hy8 (fA 4 Tryz.underlying112 rfl ts3 rfl rfl rfl) rfl (oG rfl hy8 (lB 0 ts3 rfl rfl rfl) rfl (ow_eff (.some rfl hy8) (stpU_call (fun i => 1 + i) cf83 (fun w hw => c_s_RightsValid fl w a0.ri x9 e9) (sevs_cons rfl sevs_nil)) rfl ?_))
                rintro _ _ ⟨_, ⟨rfl, rfl⟩, rfl⟩
                refine oD (stp_pick_t rfl hy8 rfl) rfl ?_
                obtain rfl := Option.some.inj ey8
                exact ow_nil (jy 4 0)
              · have ey8 := cond_f ey8 hy8
                refine oO rfl hy8 rfl (oO rfl hy8 rfl (oO rfl hy8 rfl (oD (stp_pick_f rfl hy8 rfl) rfl ?_)))
                obtain rfl := Option.some.inj ey8
                exact ow_nil (jy 4 0)
            · refine oD (sg rfl) rfl (nn (cw_ret ?_))
              have q0 := Option.some.inj H0
              subst q0
              exact kw_ret Tryz.results190 (.cons (.tmp rfl) .nil) [] [] trivial (by decide) ⟨rfl, rfl⟩

set_option maxHeartbeats 4000000 in
set_option maxRecDepth 20000 in
theorem c_s_CacheValid (fl : Nat) (w : World) (a0 : Ca) (p0_0 : Option Addr) (n0_0 c0_0 : Nat) (hn0_0 : n0_0 = (a0.l).length) (hr0_0 : RO w (hkeys []) (RdL p0_0 c0_0 a0.l)) (r : Bool) (H0 : s_CacheValid fl a0 = some r) :
    Ct Tryz.prog 125 [.agg #[.slice p0_0 n0_0 c0_0, .int .i64 a0.h]] w [] (fun rv h' => rv = .bool r ∧ h' = []) := by
  obtain rfl := hn0_0
  unfold s_CacheValid at H0
  refine ct_of_cw Tryz.func125 rfl Tryz.ntmps125 rfl (Sat.refl _ _) ?_
  refine sr (oE (stpU_box 0 rfl rfl) rfl ?_)
  rintro _ _ ⟨b1, rfl, rfl⟩
  obtain ⟨y2, ey2, H0⟩ := bind_some H0
  refine oD (sg rfl) rfl (nn (cw_seq (sr (oD (fA 0 Tryz.underlying42 rfl ts40 rfl rfl rfl) rfl (oD (lB 0 ts40 rfl rfl rfl) rfl (oD (stp_len Tryz.underlying40 rfl) rfl (oD (stp_lss rfl rfl) rfl (oD (mv rfl) rfl (ow_cutY 5 17 y2 ?_ ?_)))))))))
  · rcases Bool.eq_false_or_eq_true (decide (((a0.l).length : Int) < 1)) with hy2 | hy2
    · have ey2 := cond_t ey2 hy2
      refine oO rfl hy2 rfl (oO rfl hy2 rfl (oO rfl hy2 rfl (oO rfl hy2 rfl (oD (stp_pick_t rfl hy2 rfl) rfl ?_))))
      obtain rfl := Option.some.inj ey2
      exact ow_nil (jy 5 0)
    · have ey2 := cond_f ey2 hy2
      refine oG rfl hy2 (fA 0 Tryz.underlying42 rfl ts40 rfl rfl rfl) rfl (oG rfl hy2 (lB 0 ts40 rfl rfl rfl) rfl (oG rfl hy2 (stp_len Tryz.underlying40 rfl) rfl (oG rfl hy2 (stp_gtr rfl rfl) rfl (oD (stp_pick_f rfl hy2 rfl) rfl ?_))))
      obtain rfl := Option.some.inj ey2
      exact ow_nil (jy 5 0)
  · obtain ⟨y3, ey3, H0⟩ := bind_some H0
    refine oD (mv rfl) rfl (ow_cutY 4 22 y3 ?_ ?_)
    · rcases Bool.eq_false_or_eq_true y2 with hy3 | hy3
      · have ey3 := cond_t ey3 hy3
        refine oO rfl hy3 rfl (oO rfl hy3 rfl (oO rfl hy3 rfl (oD (stp_pick_t rfl hy3 rfl) rfl ?_)))
        obtain rfl := Option.some.inj ey3
        exact ow_nil (jy 4 0)
      · have ey3 := cond_f ey3 hy3
        refine oG rfl hy3 (fA 1 Tryz.underlying42 rfl ts3 rfl rfl rfl) rfl (oG rfl hy3 (lB 0 ts3 rfl rfl rfl) rfl (oG rfl hy3 (stp_lss rfl rfl) rfl (oD (stp_pick_f rfl hy3 rfl) rfl ?_)))
        obtain rfl := Option.some.inj ey3
        exact ow_nil (jy 4 0)
    · obtain ⟨y4, ey4, H0⟩ := bind_some H0
      refine oD (mv rfl) rfl (ow_cutY 7 30 y4 ?_ ?_)
      · rcases Bool.eq_false_or_eq_true y3 with hy4 | hy4
        · have ey4 := cond_t ey4 hy4
          refine oO rfl hy4 rfl (oO rfl hy4 rfl (oO rfl hy4 rfl (oO rfl hy4 rfl (oO rfl hy4 rfl (oO rfl hy4 rfl (oD (stp_pick_t rfl hy4 rfl) rfl ?_))))))
          obtain rfl := Option.some.inj ey4
          exact ow_nil (jy 7 0)
        · have ey4 := cond_f ey4 hy4
          refine oG rfl hy4 (fA 1 Tryz.underlying42 rfl ts3 rfl rfl rfl) rfl (oG rfl hy4 (lB 0 ts3 rfl rfl rfl) rfl (oG rfl hy4 (fA 0 Tryz.underlying42 rfl ts40 rfl rfl rfl) rfl (oG rfl hy4 (lB 0 ts40 rfl rfl rfl) rfl (oG rfl hy4 (stp_len Tryz.underlying40 rfl) rfl (oG rfl hy4 (stp_geq rfl rfl) rfl (oD (stp_pick_f rfl hy4 rfl) rfl ?_))))))
          obtain rfl := Option.some.inj ey4
          exact ow_nil (jy 7 0)
      · refine ow_nil (kw_nx (cw_cond rfl (fun h5 => ?_) (fun h5 => ?_)))
        · have H0 := cond_t H0 h5
          refine sr (oD (sg rfl) rfl (nn (cw_ret (kw_nx_ret ?_))))
          have q0 := Option.some.inj H0
          subst q0
          exact kw_ret Tryz.results125 (.cons (.tmp rfl) .nil) [] [] trivial (by decide) ⟨rfl, rfl⟩
        · have H0 := cond_f H0 h5
          obtain ⟨o0_0, eo0_0, H0⟩ := bind_some H0
          refine cw_skip (kw_nx (sr (oD (sg rfl) rfl (nn (cw_seq (sr (oD (sg rfl) rfl (nn (cw_join (ι := Int × Int) (fun | (v6, v7) => o0_0 = .out (v6, v7)) (fun | (v6, v7) => [(1, .pointer (some ⟨b1, 0, none⟩)), (3, .int .i64 v6), (4, .int .i64 v7)]) (fun | (v6, v7) => [(0, [(b1, .cells #[.slice p0_0 ((a0.l).length) c0_0, .int .i64 a0.h] 42 (0, 0))])]) ?_ ?_)))))))))
          · refine cw_block (cw_loopS (ι := Nat × Int × Int) (js := [0]) (fun x => x.1) (fun | (fuel, v6, v7) => s_CacheValid_L0 fl a0 fuel v6 v7 = some o0_0) (fun | (_, v6, v7) => [(1, .pointer (some ⟨b1, 0, none⟩)), (3, .int .i64 v6), (4, .int .i64 v7)]) (fun | (_, v6, v7) => [(0, [(b1, .cells #[.slice p0_0 ((a0.l).length) c0_0, .int .i64 a0.h] 42 (0, 0))])]) (fl, 0, 0) eo0_0 ⟨rfl, rfl, rfl, trivial⟩ ⟨0, [], rfl, rfl, trivial⟩ (by decide) ?_)
            rintro ⟨fuel, v6, v7⟩ H1
            have H1 : s_CacheValid_L0 fl a0 fuel v6 v7 = some o0_0 := H1
            rcases fuel with _ | fuel
            · rw [s_CacheValid_L0.eq_1] at H1; cases H1
            rw [s_CacheValid_L0.eq_2] at H1
            refine CW.sub (s' := [(1, .pointer (some ⟨b1, 0, none⟩)), (3, .int .i64 v6), (4, .int .i64 v7)]) (h' := [(0, [(b1, .cells #[.slice p0_0 ((a0.l).length) c0_0, .int .i64 a0.h] 42 (0, 0))])]) ?_ ⟨rfl, rfl, rfl, trivial⟩ ⟨rfl, trivial⟩
            refine cw_seq (sr (oD (mv rfl) rfl (oD (fA 0 Tryz.underlying42 rfl ts40 rfl rfl rfl) rfl (oD (lB 0 ts40 rfl rfl rfl) rfl (oD (stp_len Tryz.underlying40 rfl) rfl (oD (stp_lss rfl rfl) rfl (nn (cw_cond rfl (fun h8 => ?_) (fun h8 => ?_)))))))))
            · have H1 := cond_t H1 h8
              obtain ⟨x9, e9, H1⟩ := bind_some H1
              refine cw_skip (kw_nx (cw_seq (cw_block (sr (oD (fA 0 Tryz.underlying42 rfl ts40 rfl rfl rfl) rfl (oD (lB 0 ts40 rfl rfl rfl) rfl (oD (mv rfl) rfl (oD (stp_indexAddr Tryz.underlying40 ts112 (by decide) rfl rfl rfl (Rdb.ro hr0_0) e9) rfl (oD (stp_loadN (us := [_, _, _, _, _, _]) ts112 rfl (Cells.el (Rdb.ro hr0_0) (by decide) e9 0 6 rfl)) rfl (oE (stpU_alloc 1 tz112 rfl) rfl ?_))))))))))
              rintro _ _ ⟨b10, rfl, rfl⟩
              refine oF (stpU_store (id := 1) (cs' := [.bool x9.va, .int .i64 x9.tg, .int .i64 x9.pg, .int .i64 x9.fr, .int .i64 x9.ri, .bool x9.wi]) ts112 rfl rfl rfl rfl rfl rfl rfl) ?_
              rintro _ _ rfl
              obtain ⟨x11, e11, H1⟩ := bind_some H1
              refine nn (cw_seq (sr (oD (stp_loadN (us := [_, _, _, _, _, _]) ts112 rfl (Cells.box (id := 1) rfl 6 rfl)) rfl (oE (stpU_call (fun i => 2 + i) cf190 (fun w hw => c_s_l4Line fl w x9 x11 e11) (sevs_cons rfl sevs_nil)) rfl ?_))))
              rintro _ _ ⟨_, ⟨rfl, rfl⟩, rfl⟩
              refine oD (stp_not rfl) rfl (nn (cw_cond rfl (fun h12 => ?_) (fun h12 => ?_)))
              · have H1 := cond_t H1 h12
                refine sr (oD (sg rfl) rfl (nn (cw_ret (kw_nx_ret (kw_bl_ret (kw_nx_ret (kw_lq_ret (kw_bl_ret (kw_join_ret (kw_nx_ret ?_))))))))))
                have q1 := Option.some.inj H1
                subst q1
                have q0 := Option.some.inj H0
                subst q0
                exact kw_ret Tryz.results125 (.cons (.tmp rfl) .nil) [] [] trivial (by decide) ⟨rfl, rfl⟩
              · have H1 := cond_f H1 h12
                refine cw_skip (kw_nx (cw_seq (sr (oD (fA 5 Tryz.underlying112 rfl ts4 rfl rfl rfl) rfl (oD (lB 1 ts4 rfl rfl rfl) rfl (oD (stp_not rfl) rfl (nn (cw_cond rfl (fun h13 => ?_) (fun h13 => ?_)))))))))
                · have H1 := cond_t H1 h13
                  obtain ⟨x14, e14, H1⟩ := bind_some H1
                  obtain ⟨o1_1, eo1_1, H1⟩ := bind_some H1
                  refine cw_region (oD (mv rfl) rfl (oD (stp_add rfl rfl e14) rfl (oD (sg rfl) rfl (nn (sr (oD (sg rfl) rfl (nn (cw_join (ι := Int) (fun | v15 => o1_1 = .out v15) (fun | v15 => [(1, .pointer (some ⟨b1, 0, none⟩)), (3, .int .i64 x14), (4, .int .i64 v7), (5, .pointer (some ⟨b10, 0, none⟩)), (6, .int .i64 v15)]) (fun | v15 => [(0, [(b1, .cells #[.slice p0_0 ((a0.l).length) c0_0, .int .i64 a0.h] 42 (0, 0))]), (1, [(b10, .cells #[.bool x9.va, .int .i64 x9.tg, .int .i64 x9.pg, .int .i64 x9.fr, .int .i64 x9.ri, .bool x9.wi] 112 (0, 0))])]) ?_ ?_))))))))
                  · refine cw_block (cw_loopS (ι := Nat × Int) (js := [0, 1]) (fun x => x.1) (fun | (fuel, v15) => s_CacheValid_L1 fl a0 v7 x9 fuel v15 = some o1_1) (fun | (_, v15) => [(1, .pointer (some ⟨b1, 0, none⟩)), (3, .int .i64 x14), (4, .int .i64 v7), (5, .pointer (some ⟨b10, 0, none⟩)), (6, .int .i64 v15)]) (fun | (_, v15) => [(0, [(b1, .cells #[.slice p0_0 ((a0.l).length) c0_0, .int .i64 a0.h] 42 (0, 0))]), (1, [(b10, .cells #[.bool x9.va, .int .i64 x9.tg, .int .i64 x9.pg, .int .i64 x9.fr, .int .i64 x9.ri, .bool x9.wi] 112 (0, 0))])]) (fl, 0) eo1_1 ⟨rfl, rfl, rfl, rfl, rfl, trivial⟩ ⟨0, [1], rfl, rfl, 1, [], rfl, rfl, trivial⟩ (by decide) ?_)
                    rintro ⟨fuel, v15⟩ H2
                    have H2 : s_CacheValid_L1 fl a0 v7 x9 fuel v15 = some o1_1 := H2
                    rcases fuel with _ | fuel
                    · rw [s_CacheValid_L1.eq_1] at H2; cases H2
                    rw [s_CacheValid_L1.eq_2] at H2
                    refine CW.sub (s' := [(1, .pointer (some ⟨b1, 0, none⟩)), (3, .int .i64 x14), (4, .int .i64 v7), (5, .pointer (some ⟨b10, 0, none⟩)), (6, .int .i64 v15)]) (h' := [(0, [(b1, .cells #[.slice p0_0 ((a0.l).length) c0_0, .int .i64 a0.h] 42 (0, 0))]), (1, [(b10, .cells #[.bool x9.va, .int .i64 x9.tg, .int .i64 x9.pg, .int .i64 x9.fr, .int .i64 x9.ri, .bool x9.wi] 112 (0, 0))])]) ?_ ⟨rfl, rfl, rfl, rfl, rfl, trivial⟩ ⟨rfl, rfl, trivial⟩
                    refine cw_seq (sr (oD (mv rfl) rfl (oD (mv rfl) rfl (oD (stp_lss rfl rfl) rfl (nn (cw_cond rfl (fun h16 => ?_) (fun h16 => ?_)))))))
                    · have H2 := cond_t H2 h16
                      obtain ⟨x17, e17, H2⟩ := bind_some H2
                      refine cw_skip (kw_nx (cw_seq (cw_block (sr (oD (fA 0 Tryz.underlying42 rfl ts40 rfl rfl rfl) rfl (oD (lB 0 ts40 rfl rfl rfl) rfl (oD (mv rfl) rfl (oD (stp_indexAddr Tryz.underlying40 ts112 (by decide) rfl rfl rfl (Rdb.ro hr0_0) e17) rfl (oD (stp_loadN (us := [_, _, _, _, _, _]) ts112 rfl (Cells.el (Rdb.ro hr0_0) (by decide) e17 0 6 rfl)) rfl (oE (stpU_alloc 2 tz112 rfl) rfl ?_))))))))))
                      rintro _ _ ⟨b18, rfl, rfl⟩
                      refine oF (stpU_store (id := 2) (cs' := [.bool x17.va, .int .i64 x17.tg, .int .i64 x17.pg, .int .i64 x17.fr, .int .i64 x17.ri, .bool x17.wi]) ts112 rfl rfl rfl rfl rfl rfl rfl) ?_
                      rintro _ _ rfl
                      obtain ⟨y19, ey19, H2⟩ := bind_some H2
                      refine nn (sr (oD (fA 0 Tryz.underlying112 rfl ts4 rfl rfl rfl) rfl (oD (lB 1 ts4 rfl rfl rfl) rfl (oD (mv rfl) rfl (ow_cutY 3 66 y19 ?_ ?_)))))
                      · rcases Bool.eq_false_or_eq_true x9.va with hy19 | hy19
                        · have ey19 := cond_t ey19 hy19
                          refine oG rfl hy19 (fA 0 Tryz.underlying112 rfl ts4 rfl rfl rfl) rfl (oG rfl hy19 (lB 2 ts4 rfl rfl rfl) rfl (oD (stp_pick_t rfl hy19 rfl) rfl ?_))
                          obtain rfl := Option.some.inj ey19
                          exact ow_nil (jy 3 0)
                        · have ey19 := cond_f ey19 hy19
                          refine oO rfl hy19 rfl (oO rfl hy19 rfl (oD (stp_pick_f rfl hy19 rfl) rfl ?_))
                          obtain rfl := Option.some.inj ey19
                          exact ow_nil (jy 3 0)
                      · obtain ⟨y20, ey20, H2⟩ := bind_some H2
                        refine oD (mv rfl) rfl (ow_cutY 6 73 y20 ?_ ?_)
                        · rcases Bool.eq_false_or_eq_true y19 with hy20 | hy20
                          · have ey20 := cond_t ey20 hy20
                            refine oG rfl hy20 (fA 2 Tryz.underlying112 rfl ts3 rfl rfl rfl) rfl (oG rfl hy20 (lB 1 ts3 rfl rfl rfl) rfl (oG rfl hy20 (fA 2 Tryz.underlying112 rfl ts3 rfl rfl rfl) rfl (oG rfl hy20 (lB 2 ts3 rfl rfl rfl) rfl (oG rfl hy20 (stp_eql rfl rfl) rfl (oD (stp_pick_t rfl hy20 rfl) rfl ?_)))))
                            obtain rfl := Option.some.inj ey20
                            exact ow_nil (jy 6 0)
                          · have ey20 := cond_f ey20 hy20
                            refine oO rfl hy20 rfl (oO rfl hy20 rfl (oO rfl hy20 rfl (oO rfl hy20 rfl (oO rfl hy20 rfl (oD (stp_pick_f rfl hy20 rfl) rfl ?_)))))
                            obtain rfl := Option.some.inj ey20
                            exact ow_nil (jy 6 0)
                        · obtain ⟨y21, ey21, H2⟩ := bind_some H2
                          refine oD (mv rfl) rfl (ow_cutY 16 90 y21 ?_ ?_)
                          · rcases Bool.eq_false_or_eq_true y20 with hy21 | hy21
                            · have ey21 := cond_t ey21 hy21
                              obtain ⟨y22, ey22, ey21⟩ := bind_some ey21
                              refine oG rfl hy21 (fA 1 Tryz.underlying112 rfl ts3 rfl rfl rfl) rfl (oG rfl hy21 (lB 1 ts3 rfl rfl rfl) rfl (oG rfl hy21 (fA 1 Tryz.underlying112 rfl ts3 rfl rfl rfl) rfl (oG rfl hy21 (lB 2 ts3 rfl rfl rfl) rfl (oG rfl hy21 (stp_eql rfl rfl) rfl (oG rfl hy21 (mv rfl) rfl (ow_cutY 4 84 y22 ?_ ?_))))))
                              · rcases Bool.eq_false_or_eq_true (x9.tg == x17.tg) with hy22 | hy22
                                · have ey22 := cond_t ey22 hy22
                                  refine oO rfl hy22 rfl (oO rfl hy22 rfl (oO rfl hy22 rfl (oG rfl hy21 (stp_pick_t rfl hy22 rfl) rfl ?_)))
                                  obtain rfl := Option.some.inj ey22
                                  exact ow_nil (jy 4 0)
                                · have ey22 := cond_f ey22 hy22
                                  refine oG rfl hy22 (fA 1 Tryz.underlying112 rfl ts3 rfl rfl rfl) rfl (oG rfl hy22 (lB 1 ts3 rfl rfl rfl) rfl (oG rfl hy22 (stp_eql rfl rfl) rfl (oG rfl hy21 (stp_pick_f rfl hy22 rfl) rfl ?_)))
                                  obtain rfl := Option.some.inj ey22
                                  exact ow_nil (jy 4 0)
                              · obtain ⟨y23, ey23, ey21⟩ := bind_some ey21
                                refine oG rfl hy21 (mv rfl) rfl (ow_cutY 4 89 y23 ?_ ?_)
                                · rcases Bool.eq_false_or_eq_true y22 with hy23 | hy23
                                  · have ey23 := cond_t ey23 hy23
                                    refine oO rfl hy23 rfl (oO rfl hy23 rfl (oO rfl hy23 rfl (oG rfl hy21 (stp_pick_t rfl hy23 rfl) rfl ?_)))
                                    obtain rfl := Option.some.inj ey23
                                    exact ow_nil (jy 4 0)
                                  · have ey23 := cond_f ey23 hy23
                                    refine oG rfl hy23 (fA 1 Tryz.underlying112 rfl ts3 rfl rfl rfl) rfl (oG rfl hy23 (lB 2 ts3 rfl rfl rfl) rfl (oG rfl hy23 (stp_eql rfl rfl) rfl (oG rfl hy21 (stp_pick_f rfl hy23 rfl) rfl ?_)))
                                    obtain rfl := Option.some.inj ey23
                                    exact ow_nil (jy 4 0)
                                · refine oD (stp_pick_t rfl hy21 rfl) rfl ?_
                                  obtain rfl := Option.some.inj ey21
                                  exact ow_nil (jy 10 0)
                            · have ey21 := cond_f ey21 hy21
                              refine oO rfl hy21 rfl (oO rfl hy21 rfl (oO rfl hy21 rfl (oO rfl hy21 rfl (oO rfl hy21 rfl (oO rfl hy21 rfl (oX rfl rfl rfl (oX rfl rfl rfl (oX rfl rfl rfl (oO rfl hy21 rfl (oO rfl hy21 rfl (oX rfl rfl rfl (oX rfl rfl rfl (oX rfl rfl rfl ?_)))))))))))))
                              refine oO rfl hy21 rfl (oD (stp_pick_f rfl hy21 rfl) rfl ?_)
                              obtain rfl := Option.some.inj ey21
                              exact ow_nil (jy 16 0)
                          · refine ow_nil (kw_nx (cw_cond rfl (fun h24 => ?_) (fun h24 => ?_)))
                            · have H2 := cond_t H2 h24
                              refine sr (oD (sg rfl) rfl (nn (cw_ret (kw_bl_ret (kw_nx_ret (kw_lq_ret (kw_bl_ret (kw_join_ret (kw_bl_ret (kw_nx_ret (kw_lq_ret (kw_bl_ret (kw_join_ret ?_)))))))))))))
                              refine kw_nx_ret ?_
                              have q2 := Option.some.inj H2
                              subst q2
                              have q1 := Option.some.inj H1
                              subst q1
                              have q0 := Option.some.inj H0
                              subst q0
                              exact kw_ret Tryz.results125 (.cons (.tmp rfl) .nil) [] [] trivial (by decide) ⟨rfl, rfl⟩
                            · have H2 := cond_f H2 h24
                              obtain ⟨x25, e25, H2⟩ := bind_some H2
                              exact cw_skip (kw_bl_normal (kw_nx (cw_region (oD (mv rfl) rfl (oD (stp_add rfl rfl e25) rfl (oD (sg rfl) rfl (ow_nil (kw_lqS (js := [0, 1]) (fuel, x25) H2 (Nat.lt_succ_self _) ⟨rfl, rfl, rfl, rfl, rfl, trivial⟩ ⟨0, [1], rfl, rfl, 1, [], rfl, rfl, trivial⟩ (by decide)))))))))
                    · have H2 := cond_f H2 h16
                      refine cw_exit (kw_nx_exit (kw_lq_exit (kw_bl ?_)))
                      have q2 := Option.some.inj H2
                      subst q2
                      exact kw_joinS (js := [0, 1]) v15 rfl ⟨rfl, rfl, rfl, rfl, rfl, trivial⟩ ⟨0, [1], rfl, rfl, 1, [], rfl, rfl, trivial⟩ (by decide)
                  · rintro v15 rfl
                    refine KW.sub (s' := [(1, .pointer (some ⟨b1, 0, none⟩)), (3, .int .i64 x14), (4, .int .i64 v7), (5, .pointer (some ⟨b10, 0, none⟩)), (6, .int .i64 v15)]) (h' := [(0, [(b1, .cells #[.slice p0_0 ((a0.l).length) c0_0, .int .i64 a0.h] 42 (0, 0))]), (1, [(b10, .cells #[.bool x9.va, .int .i64 x9.tg, .int .i64 x9.pg, .int .i64 x9.fr, .int .i64 x9.ri, .bool x9.wi] 112 (0, 0))])]) ?_ ⟨rfl, rfl, rfl, rfl, rfl, trivial⟩ ⟨rfl, rfl, trivial⟩
                    obtain ⟨x26, e26, H1⟩ := bind_some H1
                    exact kw_bl_normal (kw_nx (cw_region (oD (mv rfl) rfl (oD (stp_add rfl rfl e26) rfl (oD (sg rfl) rfl (ow_nil (kw_lqS (js := [0]) (fuel, x14, x26) H1 (Nat.lt_succ_self _) ⟨rfl, rfl, rfl, trivial⟩ ⟨0, [], rfl, rfl, trivial⟩ (by decide))))))))
                · have H1 := cond_f H1 h13
                  obtain ⟨o1_2, eo1_2, H1⟩ := bind_some H1
                  refine cw_skip (kw_nx (sr (oD (sg rfl) rfl (nn (cw_join (ι := Int) (fun | v27 => o1_2 = .out v27) (fun | v27 => [(1, .pointer (some ⟨b1, 0, none⟩)), (3, .int .i64 v6), (4, .int .i64 v7), (5, .pointer (some ⟨b10, 0, none⟩)), (6, .int .i64 v27)]) (fun | v27 => [(0, [(b1, .cells #[.slice p0_0 ((a0.l).length) c0_0, .int .i64 a0.h] 42 (0, 0))]), (1, [(b10, .cells #[.bool x9.va, .int .i64 x9.tg, .int .i64 x9.pg, .int .i64 x9.fr, .int .i64 x9.ri, .bool x9.wi] 112 (0, 0))])]) ?_ ?_)))))
                  · refine cw_block (cw_loopS (ι := Nat × Int) (js := [0, 1]) (fun x => x.1) (fun | (fuel, v27) => s_CacheValid_L2 fl a0 v7 x9 fuel v27 = some o1_2) (fun | (_, v27) => [(1, .pointer (some ⟨b1, 0, none⟩)), (3, .int .i64 v6), (4, .int .i64 v7), (5, .pointer (some ⟨b10, 0, none⟩)), (6, .int .i64 v27)]) (fun | (_, v27) => [(0, [(b1, .cells #[.slice p0_0 ((a0.l).length) c0_0, .int .i64 a0.h] 42 (0, 0))]), (1, [(b10, .cells #[.bool x9.va, .int .i64 x9.tg, .int .i64 x9.pg, .int .i64 x9.fr, .int .i64 x9.ri, .bool x9.wi] 112 (0, 0))])]) (fl, 0) eo1_2 ⟨rfl, rfl, rfl, rfl, rfl, trivial⟩ ⟨0, [1], rfl, rfl, 1, [], rfl, rfl, trivial⟩ (by decide) ?_)
                    rintro ⟨fuel, v27⟩ H2
                    have H2 : s_CacheValid_L2 fl a0 v7 x9 fuel v27 = some o1_2 := H2
                    rcases fuel with _ | fuel
                    · rw [s_CacheValid_L2.eq_1] at H2; cases H2
                    rw [s_CacheValid_L2.eq_2] at H2
                    refine CW.sub (s' := [(1, .pointer (some ⟨b1, 0, none⟩)), (3, .int .i64 v6), (4, .int .i64 v7), (5, .pointer (some ⟨b10, 0, none⟩)), (6, .int .i64 v27)]) (h' := [(0, [(b1, .cells #[.slice p0_0 ((a0.l).length) c0_0, .int .i64 a0.h] 42 (0, 0))]), (1, [(b10, .cells #[.bool x9.va, .int .i64 x9.tg, .int .i64 x9.pg, .int .i64 x9.fr, .int .i64 x9.ri, .bool x9.wi] 112 (0, 0))])]) ?_ ⟨rfl, rfl, rfl, rfl, rfl, trivial⟩ ⟨rfl, rfl, trivial⟩
                    refine cw_seq (sr (oD (mv rfl) rfl (oD (mv rfl) rfl (oD (stp_lss rfl rfl) rfl (nn (cw_cond rfl (fun h28 => ?_) (fun h28 => ?_)))))))
                    · have H2 := cond_t H2 h28
                      obtain ⟨x29, e29, H2⟩ := bind_some H2
                      refine cw_skip (kw_nx (cw_seq (cw_block (sr (oD (fA 0 Tryz.underlying42 rfl ts40 rfl rfl rfl) rfl (oD (lB 0 ts40 rfl rfl rfl) rfl (oD (mv rfl) rfl (oD (stp_indexAddr Tryz.underlying40 ts112 (by decide) rfl rfl rfl (Rdb.ro hr0_0) e29) rfl (oD (stp_loadN (us := [_, _, _, _, _, _]) ts112 rfl (Cells.el (Rdb.ro hr0_0) (by decide) e29 0 6 rfl)) rfl (oE (stpU_alloc 3 tz112 rfl) rfl ?_))))))))))
                      rintro _ _ ⟨b30, rfl, rfl⟩
                      refine oF (stpU_store (id := 3) (cs' := [.bool x29.va, .int .i64 x29.tg, .int .i64 x29.pg, .int .i64 x29.fr, .int .i64 x29.ri, .bool x29.wi]) ts112 rfl rfl rfl rfl rfl rfl rfl) ?_
                      rintro _ _ rfl
                      obtain ⟨y31, ey31, H2⟩ := bind_some H2
                      refine nn (sr (oD (fA 0 Tryz.underlying112 rfl ts4 rfl rfl rfl) rfl (oD (lB 1 ts4 rfl rfl rfl) rfl (oD (mv rfl) rfl (ow_cutY 3 66 y31 ?_ ?_)))))
                      · rcases Bool.eq_false_or_eq_true x9.va with hy31 | hy31
                        · have ey31 := cond_t ey31 hy31
                          refine oG rfl hy31 (fA 0 Tryz.underlying112 rfl ts4 rfl rfl rfl) rfl (oG rfl hy31 (lB 3 ts4 rfl rfl rfl) rfl (oD (stp_pick_t rfl hy31 rfl) rfl ?_))
                          obtain rfl := Option.some.inj ey31
                          exact ow_nil (jy 3 0)
                        · have ey31 := cond_f ey31 hy31
                          refine oO rfl hy31 rfl (oO rfl hy31 rfl (oD (stp_pick_f rfl hy31 rfl) rfl ?_))
                          obtain rfl := Option.some.inj ey31
                          exact ow_nil (jy 3 0)
                      · obtain ⟨y32, ey32, H2⟩ := bind_some H2
                        refine oD (mv rfl) rfl (ow_cutY 6 73 y32 ?_ ?_)
                        · rcases Bool.eq_false_or_eq_true y31 with hy32 | hy32
                          · have ey32 := cond_t ey32 hy32
                            refine oG rfl hy32 (fA 2 Tryz.underlying112 rfl ts3 rfl rfl rfl) rfl (oG rfl hy32 (lB 1 ts3 rfl rfl rfl) rfl (oG rfl hy32 (fA 2 Tryz.underlying112 rfl ts3 rfl rfl rfl) rfl (oG rfl hy32 (lB 3 ts3 rfl rfl rfl) rfl (oG rfl hy32 (stp_eql rfl rfl) rfl (oD (stp_pick_t rfl hy32 rfl) rfl ?_)))))
                            obtain rfl := Option.some.inj ey32
                            exact ow_nil (jy 6 0)
                          · have ey32 := cond_f ey32 hy32
                            refine oO rfl hy32 rfl (oO rfl hy32 rfl (oO rfl hy32 rfl (oO rfl hy32 rfl (oO rfl hy32 rfl (oD (stp_pick_f rfl hy32 rfl) rfl ?_)))))
                            obtain rfl := Option.some.inj ey32
                            exact ow_nil (jy 6 0)
                        · obtain ⟨y33, ey33, H2⟩ := bind_some H2
                          refine oD (mv rfl) rfl (ow_cutY 16 90 y33 ?_ ?_)
                          · rcases Bool.eq_false_or_eq_true y32 with hy33 | hy33
                            · have ey33 := cond_t ey33 hy33
                              obtain ⟨y34, ey34, ey33⟩ := bind_some ey33
                              refine oG rfl hy33 (fA 1 Tryz.underlying112 rfl ts3 rfl rfl rfl) rfl (oG rfl hy33 (lB 1 ts3 rfl rfl rfl) rfl (oG rfl hy33 (fA 1 Tryz.underlying112 rfl ts3 rfl rfl rfl) rfl (oG rfl hy33 (lB 3 ts3 rfl rfl rfl) rfl (oG rfl hy33 (stp_eql rfl rfl) rfl (oG rfl hy33 (mv rfl) rfl (ow_cutY 4 84 y34 ?_ ?_))))))
                              · rcases Bool.eq_false_or_eq_true (x9.tg == x29.tg) with hy34 | hy34
                                · have ey34 := cond_t ey34 hy34
                                  refine oO rfl hy34 rfl (oO rfl hy34 rfl (oO rfl hy34 rfl (oG rfl hy33 (stp_pick_t rfl hy34 rfl) rfl ?_)))
                                  obtain rfl := Option.some.inj ey34
                                  exact ow_nil (jy 4 0)
                                · have ey34 := cond_f ey34 hy34
                                  refine oG rfl hy34 (fA 1 Tryz.underlying112 rfl ts3 rfl rfl rfl) rfl (oG rfl hy34 (lB 1 ts3 rfl rfl rfl) rfl (oG rfl hy34 (stp_eql rfl rfl) rfl (oG rfl hy33 (stp_pick_f rfl hy34 rfl) rfl ?_)))
                                  obtain rfl := Option.some.inj ey34
                                  exact ow_nil (jy 4 0)
                              · obtain ⟨y35, ey35, ey33⟩ := bind_some ey33
                                refine oG rfl hy33 (mv rfl) rfl (ow_cutY 4 89 y35 ?_ ?_)
                                · rcases Bool.eq_false_or_eq_true y34 with hy35 | hy35
                                  · have ey35 := cond_t ey35 hy35
                                    refine oO rfl hy35 rfl (oO rfl hy35 rfl (oO rfl hy35 rfl (oG rfl hy33 (stp_pick_t rfl hy35 rfl) rfl ?_)))
                                    obtain rfl := Option.some.inj ey35
                                    exact ow_nil (jy 4 0)
                                  · have ey35 := cond_f ey35 hy35
                                    refine oG rfl hy35 (fA 1 Tryz.underlying112 rfl ts3 rfl rfl rfl) rfl (oG rfl hy35 (lB 3 ts3 rfl rfl rfl) rfl (oG rfl hy35 (stp_eql rfl rfl) rfl (oG rfl hy33 (stp_pick_f rfl hy35 rfl) rfl ?_)))
                                    obtain rfl := Option.some.inj ey35
                                    exact ow_nil (jy 4 0)
                                · refine oD (stp_pick_t rfl hy33 rfl) rfl ?_
                                  obtain rfl := Option.some.inj ey33
                                  exact ow_nil (jy 10 0)
                            · have ey33 := cond_f ey33 hy33
                              refine oO rfl hy33 rfl (oO rfl hy33 rfl (oO rfl hy33 rfl (oO rfl hy33 rfl (oO rfl hy33 rfl (oO rfl hy33 rfl (oX rfl rfl rfl (oX rfl rfl rfl (oX rfl rfl rfl (oO rfl hy33 rfl (oO rfl hy33 rfl (oX rfl rfl rfl (oX rfl rfl rfl (oX rfl rfl rfl ?_)))))))))))))
                              refine oO rfl hy33 rfl (oD (stp_pick_f rfl hy33 rfl) rfl ?_)
                              obtain rfl := Option.some.inj ey33
                              exact ow_nil (jy 16 0)
                          · refine ow_nil (kw_nx (cw_cond rfl (fun h36 => ?_) (fun h36 => ?_)))
                            · have H2 := cond_t H2 h36
                              refine sr (oD (sg rfl) rfl (nn (cw_ret (kw_bl_ret (kw_nx_ret (kw_lq_ret (kw_bl_ret (kw_join_ret (kw_bl_ret (kw_nx_ret (kw_lq_ret (kw_bl_ret (kw_join_ret ?_)))))))))))))
                              refine kw_nx_ret ?_
                              have q2 := Option.some.inj H2
                              subst q2
                              have q1 := Option.some.inj H1
                              subst q1
                              have q0 := Option.some.inj H0
                              subst q0
                              exact kw_ret Tryz.results125 (.cons (.tmp rfl) .nil) [] [] trivial (by decide) ⟨rfl, rfl⟩
                            · have H2 := cond_f H2 h36
                              obtain ⟨x37, e37, H2⟩ := bind_some H2
                              exact cw_skip (kw_bl_normal (kw_nx (cw_region (oD (mv rfl) rfl (oD (stp_add rfl rfl e37) rfl (oD (sg rfl) rfl (ow_nil (kw_lqS (js := [0, 1]) (fuel, x37) H2 (Nat.lt_succ_self _) ⟨rfl, rfl, rfl, rfl, rfl, trivial⟩ ⟨0, [1], rfl, rfl, 1, [], rfl, rfl, trivial⟩ (by decide)))))))))
                    · have H2 := cond_f H2 h28
                      refine cw_exit (kw_nx_exit (kw_lq_exit (kw_bl ?_)))
                      have q2 := Option.some.inj H2
                      subst q2
                      exact kw_joinS (js := [0, 1]) v27 rfl ⟨rfl, rfl, rfl, rfl, rfl, trivial⟩ ⟨0, [1], rfl, rfl, 1, [], rfl, rfl, trivial⟩ (by decide)
                  · rintro v27 rfl
                    refine KW.sub (s' := [(1, .pointer (some ⟨b1, 0, none⟩)), (3, .int .i64 v6), (4, .int .i64 v7), (5, .pointer (some ⟨b10, 0, none⟩)), (6, .int .i64 v27)]) (h' := [(0, [(b1, .cells #[.slice p0_0 ((a0.l).length) c0_0, .int .i64 a0.h] 42 (0, 0))]), (1, [(b10, .cells #[.bool x9.va, .int .i64 x9.tg, .int .i64 x9.pg, .int .i64 x9.fr, .int .i64 x9.ri, .bool x9.wi] 112 (0, 0))])]) ?_ ⟨rfl, rfl, rfl, rfl, rfl, trivial⟩ ⟨rfl, rfl, trivial⟩
                    obtain ⟨x38, e38, H1⟩ := bind_some H1
                    exact kw_bl_normal (kw_nx (cw_region (oD (mv rfl) rfl (oD (stp_add rfl rfl e38) rfl (oD (sg rfl) rfl (ow_nil (kw_lqS (js := [0]) (fuel, v6, x38) H1 (Nat.lt_succ_self _) ⟨rfl, rfl, rfl, trivial⟩ ⟨0, [], rfl, rfl, trivial⟩ (by decide))))))))
            · have H1 := cond_f H1 h8
              refine cw_exit (kw_nx_exit (kw_lq_exit (kw_bl ?_)))
              have q1 := Option.some.inj H1
              subst q1
              exact kw_joinS (js := [0]) (v6, v7) rfl ⟨rfl, rfl, rfl, trivial⟩ ⟨0, [], rfl, rfl, trivial⟩ (by decide)
          · rintro ⟨v6, v7⟩ rfl
            refine KW.sub (s' := [(1, .pointer (some ⟨b1, 0, none⟩)), (3, .int .i64 v6), (4, .int .i64 v7)]) (h' := [(0, [(b1, .cells #[.slice p0_0 ((a0.l).length) c0_0, .int .i64 a0.h] 42 (0, 0))])]) ?_ ⟨rfl, rfl, rfl, trivial⟩ ⟨rfl, trivial⟩
            refine kw_nx (sr (oD (mv rfl) rfl (oD (stp_gtr rfl rfl) rfl (oD (sg rfl) rfl (nn (cw_ret ?_))))))
            have q0 := Option.some.inj H0
            subst q0
            exact kw_ret Tryz.results125 (.cons (.tmp rfl) .nil) [] [] trivial (by decide) ⟨rfl, rfl⟩

set_option maxHeartbeats 4000000 in
set_option maxRecDepth 20000 in
theorem c_s_l1Space (fl : Nat) (w : World) (a0 : Int) (r : Bool) (H0 : s_l1Space fl a0 = some r) :
    Ct Tryz.prog 162 [.int .i64 a0] w [] (fun rv h' => rv = .bool r ∧ h' = []) := by
  unfold s_l1Space at H0
  refine ct_of_cw Tryz.func162 rfl Tryz.ntmps162 rfl (Sat.refl _ _) ?_
  obtain ⟨y1, ey1, H0⟩ := bind_some H0
  refine sr (oD (sg rfl) rfl (nn (sr (oD (mv rfl) rfl (oD (stp_geq rfl rfl) rfl (oD (mv rfl) rfl (ow_cutY 3 8 y1 ?_ ?_)))))))
  · rcases Bool.eq_false_or_eq_true (decide (0 ≤ a0)) with hy1 | hy1
    · have ey1 := cond_t ey1 hy1
      refine oG rfl hy1 (mv rfl) rfl (oG rfl hy1 (stp_lss rfl rfl) rfl (oD (stp_pick_t rfl hy1 rfl) rfl ?_))
      obtain rfl := Option.some.inj ey1
      exact ow_nil (jy 3 0)
    · have ey1 := cond_f ey1 hy1
      refine oO rfl hy1 rfl (oO rfl hy1 rfl (oD (stp_pick_f rfl hy1 rfl) rfl ?_))
      obtain rfl := Option.some.inj ey1
      exact ow_nil (jy 3 0)
  · refine oD (sg rfl) rfl (nn (cw_ret ?_))
    have q0 := Option.some.inj H0
    subst q0
    exact kw_ret Tryz.results162 (.cons (.tmp rfl) .nil) [] [] trivial (by decide) ⟨rfl, rfl⟩

set_option maxHeartbeats 4000000 in
set_option maxRecDepth 20000 in
theorem c_s_TagsValid (fl : Nat) (w : World) (a0 : Tg) (p0_0 : Option Addr) (n0_0 c0_0 : Nat) (hn0_0 : n0_0 = (a0.o).length) (hr0_0 : RO w (hkeys []) (RdL p0_0 c0_0 a0.o)) (r : Bool) (H0 : s_TagsValid fl a0 = some r) :
    Ct Tryz.prog 126 [.agg #[.int .i64 a0.c, .int .i64 a0.n, .int .i64 a0.r, .slice p0_0 n0_0 c0_0]] w [] (fun rv h' => rv = .bool r ∧ h' = []) := by
  obtain rfl := hn0_0
  unfold s_TagsValid at H0
  refine ct_of_cw Tryz.func126 rfl Tryz.ntmps126 rfl (Sat.refl _ _) ?_
  refine sr (oE (stpU_box 0 rfl rfl) rfl ?_)
  rintro _ _ ⟨b1, rfl, rfl⟩
  obtain ⟨y2, ey2, H0⟩ := bind_some H0
  refine oD (sg rfl) rfl (nn (cw_seq (sr (oD (fA 0 Tryz.underlying45 rfl ts3 rfl rfl rfl) rfl (oD (lB 0 ts3 rfl rfl rfl) rfl (oD (stp_lss rfl rfl) rfl (oD (mv rfl) rfl (ow_cutY 4 13 y2 ?_ ?_))))))))
  · rcases Bool.eq_false_or_eq_true (decide (a0.c < 1)) with hy2 | hy2
    · have ey2 := cond_t ey2 hy2
      refine oO rfl hy2 rfl (oO rfl hy2 rfl (oO rfl hy2 rfl (oD (stp_pick_t rfl hy2 rfl) rfl ?_)))
      obtain rfl := Option.some.inj ey2
      exact ow_nil (jy 4 0)
    · have ey2 := cond_f ey2 hy2
      refine oG rfl hy2 (fA 0 Tryz.underlying45 rfl ts3 rfl rfl rfl) rfl (oG rfl hy2 (lB 0 ts3 rfl rfl rfl) rfl (oG rfl hy2 (stp_gtr rfl rfl) rfl (oD (stp_pick_f rfl hy2 rfl) rfl ?_)))
      obtain rfl := Option.some.inj ey2
      exact ow_nil (jy 4 0)
  · obtain ⟨y3, ey3, H0⟩ := bind_some H0
    refine oD (mv rfl) rfl (ow_cutY 4 18 y3 ?_ ?_)
    · rcases Bool.eq_false_or_eq_true y2 with hy3 | hy3
      · have ey3 := cond_t ey3 hy3
        refine oO rfl hy3 rfl (oO rfl hy3 rfl (oO rfl hy3 rfl (oD (stp_pick_t rfl hy3 rfl) rfl ?_)))
        obtain rfl := Option.some.inj ey3
        exact ow_nil (jy 4 0)
      · have ey3 := cond_f ey3 hy3
        refine oG rfl hy3 (fA 1 Tryz.underlying45 rfl ts3 rfl rfl rfl) rfl (oG rfl hy3 (lB 0 ts3 rfl rfl rfl) rfl (oG rfl hy3 (stp_lss rfl rfl) rfl (oD (stp_pick_f rfl hy3 rfl) rfl ?_)))
        obtain rfl := Option.some.inj ey3
        exact ow_nil (jy 4 0)
    · obtain ⟨y4, ey4, H0⟩ := bind_some H0
      refine oD (mv rfl) rfl (ow_cutY 6 25 y4 ?_ ?_)
      · rcases Bool.eq_false_or_eq_true y3 with hy4 | hy4
        · have ey4 := cond_t ey4 hy4
          refine oO rfl hy4 rfl (oO rfl hy4 rfl (oO rfl hy4 rfl (oO rfl hy4 rfl (oO rfl hy4 rfl (oD (stp_pick_t rfl hy4 rfl) rfl ?_)))))
          obtain rfl := Option.some.inj ey4
          exact ow_nil (jy 6 0)
        · have ey4 := cond_f ey4 hy4
          refine oG rfl hy4 (fA 1 Tryz.underlying45 rfl ts3 rfl rfl rfl) rfl (oG rfl hy4 (lB 0 ts3 rfl rfl rfl) rfl (oG rfl hy4 (fA 0 Tryz.underlying45 rfl ts3 rfl rfl rfl) rfl (oG rfl hy4 (lB 0 ts3 rfl rfl rfl) rfl (oG rfl hy4 (stp_gtr rfl rfl) rfl (oD (stp_pick_f rfl hy4 rfl) rfl ?_)))))
          obtain rfl := Option.some.inj ey4
          exact ow_nil (jy 6 0)
      · obtain ⟨y5, ey5, H0⟩ := bind_some H0
        refine oD (mv rfl) rfl (ow_cutY 4 30 y5 ?_ ?_)
        · rcases Bool.eq_false_or_eq_true y4 with hy5 | hy5
          · have ey5 := cond_t ey5 hy5
            refine oO rfl hy5 rfl (oO rfl hy5 rfl (oO rfl hy5 rfl (oD (stp_pick_t rfl hy5 rfl) rfl ?_)))
            obtain rfl := Option.some.inj ey5
            exact ow_nil (jy 4 0)
          · have ey5 := cond_f ey5 hy5
            refine oG rfl hy5 (fA 2 Tryz.underlying45 rfl ts3 rfl rfl rfl) rfl (oG rfl hy5 (lB 0 ts3 rfl rfl rfl) rfl (oG rfl hy5 (stp_lss rfl rfl) rfl (oD (stp_pick_f rfl hy5 rfl) rfl ?_)))
            obtain rfl := Option.some.inj ey5
            exact ow_nil (jy 4 0)
        · obtain ⟨y6, ey6, H0⟩ := bind_some H0
          refine oD (mv rfl) rfl (ow_cutY 4 35 y6 ?_ ?_)
          · rcases Bool.eq_false_or_eq_true y5 with hy6 | hy6
            · have ey6 := cond_t ey6 hy6
              refine oO rfl hy6 rfl (oO rfl hy6 rfl (oO rfl hy6 rfl (oD (stp_pick_t rfl hy6 rfl) rfl ?_)))
              obtain rfl := Option.some.inj ey6
              exact ow_nil (jy 4 0)
            · have ey6 := cond_f ey6 hy6
              refine oG rfl hy6 (fA 2 Tryz.underlying45 rfl ts3 rfl rfl rfl) rfl (oG rfl hy6 (lB 0 ts3 rfl rfl rfl) rfl (oG rfl hy6 (stp_gtr rfl rfl) rfl (oD (stp_pick_f rfl hy6 rfl) rfl ?_)))
              obtain rfl := Option.some.inj ey6
              exact ow_nil (jy 4 0)
          · obtain ⟨y7, ey7, H0⟩ := bind_some H0
            refine oD (mv rfl) rfl (ow_cutY 7 43 y7 ?_ ?_)
            · rcases Bool.eq_false_or_eq_true y6 with hy7 | hy7
              · have ey7 := cond_t ey7 hy7
                refine oO rfl hy7 rfl (oO rfl hy7 rfl (oO rfl hy7 rfl (oO rfl hy7 rfl (oO rfl hy7 rfl (oO rfl hy7 rfl (oD (stp_pick_t rfl hy7 rfl) rfl ?_))))))
                obtain rfl := Option.some.inj ey7
                exact ow_nil (jy 7 0)
              · have ey7 := cond_f ey7 hy7
                refine oG rfl hy7 (fA 3 Tryz.underlying45 rfl ts43 rfl rfl rfl) rfl (oG rfl hy7 (lB 0 ts43 rfl rfl rfl) rfl (oG rfl hy7 (stp_len Tryz.underlying43 rfl) rfl (oG rfl hy7 (fA 1 Tryz.underlying45 rfl ts3 rfl rfl rfl) rfl (oG rfl hy7 (lB 0 ts3 rfl rfl rfl) rfl (oG rfl hy7 (stp_gtr rfl rfl) rfl (oD (stp_pick_f rfl hy7 rfl) rfl ?_))))))
                obtain rfl := Option.some.inj ey7
                exact ow_nil (jy 7 0)
            · refine ow_nil (kw_nx (cw_cond rfl (fun h8 => ?_) (fun h8 => ?_)))
              · have H0 := cond_t H0 h8
                refine sr (oD (sg rfl) rfl (nn (cw_ret (kw_nx_ret ?_))))
                have q0 := Option.some.inj H0
                subst q0
                exact kw_ret Tryz.results126 (.cons (.tmp rfl) .nil) [] [] trivial (by decide) ⟨rfl, rfl⟩
              · have H0 := cond_f H0 h8
                obtain ⟨o0_0, eo0_0, H0⟩ := bind_some H0
                refine cw_skip (kw_nx (cw_seq (sr (oD (sg rfl) rfl (nn (cw_join (ι := Int) (fun | v9 => o0_0 = .out v9) (fun | v9 => [(1, .pointer (some ⟨b1, 0, none⟩)), (3, .int .i64 v9)]) (fun | v9 => [(0, [(b1, .cells #[.int .i64 a0.c, .int .i64 a0.n, .int .i64 a0.r, .slice p0_0 ((a0.o).length) c0_0] 45 (0, 0))])]) ?_ ?_))))))
                · refine cw_block (cw_loopS (ι := Nat × Int) (js := [0]) (fun x => x.1) (fun | (fuel, v9) => s_TagsValid_L0 fl a0 fuel v9 = some o0_0) (fun | (_, v9) => [(1, .pointer (some ⟨b1, 0, none⟩)), (3, .int .i64 v9)]) (fun | (_, v9) => [(0, [(b1, .cells #[.int .i64 a0.c, .int .i64 a0.n, .int .i64 a0.r, .slice p0_0 ((a0.o).length) c0_0] 45 (0, 0))])]) (fl, 0) eo0_0 ⟨rfl, rfl, trivial⟩ ⟨0, [], rfl, rfl, trivial⟩ (by decide) ?_)
                  rintro ⟨fuel, v9⟩ H1
                  have H1 : s_TagsValid_L0 fl a0 fuel v9 = some o0_0 := H1
                  rcases fuel with _ | fuel
                  · rw [s_TagsValid_L0.eq_1] at H1; cases H1
                  rw [s_TagsValid_L0.eq_2] at H1
                  refine CW.sub (s' := [(1, .pointer (some ⟨b1, 0, none⟩)), (3, .int .i64 v9)]) (h' := [(0, [(b1, .cells #[.int .i64 a0.c, .int .i64 a0.n, .int .i64 a0.r, .slice p0_0 ((a0.o).length) c0_0] 45 (0, 0))])]) ?_ ⟨rfl, rfl, trivial⟩ ⟨rfl, trivial⟩
                  refine cw_seq (sr (oD (mv rfl) rfl (oD (fA 3 Tryz.underlying45 rfl ts43 rfl rfl rfl) rfl (oD (lB 0 ts43 rfl rfl rfl) rfl (oD (stp_len Tryz.underlying43 rfl) rfl (oD (stp_lss rfl rfl) rfl (nn (cw_cond rfl (fun h10 => ?_) (fun h10 => ?_)))))))))
                  · have H1 := cond_t H1 h10
                    obtain ⟨x11, e11, H1⟩ := bind_some H1
                    refine cw_skip (kw_nx (cw_seq (cw_block (sr (oD (fA 3 Tryz.underlying45 rfl ts43 rfl rfl rfl) rfl (oD (lB 0 ts43 rfl rfl rfl) rfl (oD (mv rfl) rfl (oD (stp_indexAddr Tryz.underlying43 ts148 (by decide) rfl rfl rfl (Rdb.ro hr0_0) e11) rfl (oD (stp_loadN (us := [_, _]) ts148 rfl (Cells.el (Rdb.ro hr0_0) (by decide) e11 0 2 rfl)) rfl (oE (stpU_alloc 1 tz148 rfl) rfl ?_))))))))))
                    rintro _ _ ⟨b12, rfl, rfl⟩
                    refine oF (stpU_store (id := 1) (cs' := [.int .i64 x11.sp, .int .i64 x11.tg]) ts148 rfl rfl rfl rfl rfl rfl rfl) ?_
                    rintro _ _ rfl
                    obtain ⟨x13, e13, H1⟩ := bind_some H1
                    obtain ⟨y14, ey14, H1⟩ := bind_some H1
                    obtain ⟨y15, ey15, H1⟩ := bind_some H1
                    obtain ⟨y16, ey16, H1⟩ := bind_some H1
                    refine nn (cw_seq (cw_seq (cw_join (ι := Unit) (fun | _ => True) (fun | _ => [(1, .pointer (some ⟨b1, 0, none⟩)), (3, .int .i64 v9), (4, .pointer (some ⟨b12, 0, none⟩)), (87, .bool y16)]) (fun | _ => [(0, [(b1, .cells #[.int .i64 a0.c, .int .i64 a0.n, .int .i64 a0.r, .slice p0_0 ((a0.o).length) c0_0] 45 (0, 0))]), (1, [(b12, .cells #[.int .i64 x11.sp, .int .i64 x11.tg] 148 (0, 0))])]) ?_ ?_)))
                    · rcases Bool.eq_false_or_eq_true (!x13) with hy14 | hy14
                      · have ey14 := cond_t ey14 hy14
                        have qy14 := Option.some.inj ey14
                        have hy15 : y14 = true := by rw [← qy14]
                        have ey15 := cond_t ey15 hy15
                        have qy15 := Option.some.inj ey15
                        have hy16 : y15 = true := by rw [← qy15]
                        have ey16 := cond_t ey16 hy16
                        have qy16 := Option.some.inj ey16
                        refine rdr g_mixed [4] [1] { dst := dS [57, 58, 59, 60, 61, 62, 63, 64, 65, 66, 67, 68, 69, 70, 71, 72, 73, 74, 75, 76, 77, 78, 79, 80, 81, 82, 83, 84, 85, 86, 87, 88], pre := gA [] [[], [0], [0, 1], [0, 1, 2], rn 0 4, rn 0 5, rn 0 6, rn 0 7, rn 0 8, rn 0 9, rn 0 10, rn 0 11, rn 0 10, [0, 1, 2, 3, 4, 5, 6, 7, 8, 9, 12], rn 0 14, rn 0 15, rn 0 16, rn 0 17, rn 0 18, rn 0 19, rn 0 20, rn 0 21, rn 0 20, [0, 1, 2, 3, 4, 5, 6, 7, 8, 9, 10, 11, 12, 13, 14, 15, 16, 17, 18, 19, 22], rn 0 24, rn 0 25, rn 0 26, rn 0 20, [0, 1, 2, 3, 4, 5, 6, 7, 8, 9, 10, 11, 12, 13, 14, 15, 16, 17, 18, 19, 27], rn 0 29, rn 0 30, rn 0 31], ids := fun _ => [], rs := rL [[(4, 0)], [(56, 1)], [(57, 2)], [(58, 3)], [(59, 4)], [(60, 5)], [(60, 5)], [(60, 5)], [(60, 5), (63, 8)], [(64, 9)], [(65, 10)], [(65, 10)], [(65, 10)], [(65, 10)], [(65, 10)], [(65, 10), (70, 15)], [(71, 16)], [(72, 17)], [(72, 17)], [(72, 17)], [(75, 20)], [(75, 20)], [(75, 20)], [(75, 20)], [(75, 20)], [(75, 20)], [(75, 20)], [(75, 20)], [(75, 20)], [(75, 20)], [(72, 17)], [(72, 17), (86, 31)]], rh := rL [[], [(1, 0)]], V := fun i g => gA undef [.pointer (some ⟨b12, 0, none⟩), .int .i64 x11.sp, .bool x13, .bool (!x13), .bool (!x13), undef, undef, undef, .bool y14, .bool y14, undef, undef, undef, undef, undef, .bool y15, .bool y15, undef, undef, undef, undef, undef, undef, undef, undef, undef, undef, undef, undef, undef, undef, .bool y16] i, U := fun _ _ => [], Φ := fun _ _ => True } ?_ ?_
                        · refine ⟨⟨⟨⟨⟨⟨⟨⟨⟨⟨⟨⟨⟨⟨⟨⟨⟨⟨⟨⟨⟨⟨⟨⟨⟨⟨⟨⟨⟨⟨⟨⟨trivial, lc rfl rfl fun hs hh => stp_fieldAddr (j := 0) Tryz.underlying148 rfl ts3 rfl (sv hs 4 rfl) rfl⟩, lc rfl rfl fun hs hh => stp_load1 ts3 (sv hs 56 rfl) (Cells.box (id := 1) (hh.get 1 _ rfl) 1 rfl)⟩, ?_⟩, lc rfl rfl fun hs hh => stp_not (sv hs 58 rfl)⟩, lc rfl rfl fun hs hh => stp_move (sv hs 59 rfl)⟩, lo rfl rfl 60 hy14⟩, lo rfl rfl 60 hy14⟩, lo rfl rfl 60 hy14⟩, lc rfl rfl fun hs hh => stp_pick_tB (sv hs 60 rfl) hy14 rfl qy14⟩, lc rfl rfl fun hs hh => stp_move (sv hs 64 rfl)⟩, lo rfl rfl 65 hy15⟩, lo rfl rfl 65 hy15⟩, lo rfl rfl 65 hy15⟩, lo rfl rfl 65 hy15⟩, lo rfl rfl 65 hy15⟩, lc rfl rfl fun hs hh => stp_pick_tB (sv hs 65 rfl) hy15 rfl qy15⟩, lc rfl rfl fun hs hh => stp_move (sv hs 71 rfl)⟩, lo rfl rfl 72 hy16⟩, lo rfl rfl 72 hy16⟩, lo rfl rfl 72 hy16⟩, lx rfl rfl 75⟩, lx rfl rfl 75⟩, lx rfl rfl 75⟩, lx rfl rfl 75⟩, lx rfl rfl 75⟩, lx rfl rfl 75⟩, lx rfl rfl 75⟩, lx rfl rfl 75⟩, lx rfl rfl 75⟩, lx rfl rfl 75⟩, lo rfl rfl 72 hy16⟩, lc rfl rfl fun hs hh => stp_pick_tB (sv hs 72 rfl) hy16 rfl qy16⟩
                          · refine le rfl rfl (fun g hΦ s h hs hh => (stpU_call (fun i => 2 + i) cf162 (fun w hw => c_s_l1Space fl w x11.sp x13 e13) (sevs_cons (sv hs 57 rfl) sevs_nil))) ?_
                            rintro g _ _ ⟨_, ⟨rfl, rfl⟩, rfl⟩
                            exact ⟨⟨[], [], []⟩, trivial, .inr rfl, rfl⟩
                        · intro g hΦ
                          exact kw_join () trivial ⟨rfl, rfl, rfl, rfl, trivial⟩ ⟨rfl, rfl, trivial⟩
                      · have ey14 := cond_f ey14 hy14
                        have qy14 := Option.some.inj ey14
                        rcases Bool.eq_false_or_eq_true y14 with hy15 | hy15
                        · have ey15 := cond_t ey15 hy15
                          have qy15 := Option.some.inj ey15
                          have hy16 : y15 = true := by rw [← qy15]
                          have ey16 := cond_t ey16 hy16
                          have qy16 := Option.some.inj ey16
                          refine rdr g_mixed [4] [1] { dst := dS [57, 58, 59, 60, 61, 62, 63, 64, 65, 66, 67, 68, 69, 70, 71, 72, 73, 74, 75, 76, 77, 78, 79, 80, 81, 82, 83, 84, 85, 86, 87, 88], pre := gA [] [[], [0], [0, 1], [0, 1, 2], rn 0 4, rn 0 5, rn 0 6, rn 0 7, rn 0 8, rn 0 9, rn 0 10, rn 0 11, rn 0 10, [0, 1, 2, 3, 4, 5, 6, 7, 8, 9, 12], rn 0 14, rn 0 15, rn 0 16, rn 0 17, rn 0 18, rn 0 19, rn 0 20, rn 0 21, rn 0 20, [0, 1, 2, 3, 4, 5, 6, 7, 8, 9, 10, 11, 12, 13, 14, 15, 16, 17, 18, 19, 22], rn 0 24, rn 0 25, rn 0 26, rn 0 20, [0, 1, 2, 3, 4, 5, 6, 7, 8, 9, 10, 11, 12, 13, 14, 15, 16, 17, 18, 19, 27], rn 0 29, rn 0 30, rn 0 31], ids := fun _ => [], rs := rL [[(4, 0)], [(56, 1)], [(57, 2)], [(58, 3)], [(59, 4)], [(4, 0), (60, 5)], [(61, 6), (60, 5)], [(62, 7), (60, 5)], [(60, 5), (63, 8)], [(64, 9)], [(65, 10)], [(65, 10)], [(65, 10)], [(65, 10)], [(65, 10)], [(65, 10), (70, 15)], [(71, 16)], [(72, 17)], [(72, 17)], [(72, 17)], [(75, 20)], [(75, 20)], [(75, 20)], [(75, 20)], [(75, 20)], [(75, 20)], [(75, 20)], [(75, 20)], [(75, 20)], [(75, 20)], [(72, 17)], [(72, 17), (86, 31)]], rh := rL [[], [(1, 0)], [], [], [], [], [(1, 0)]], V := fun i g => gA undef [.pointer (some ⟨b12, 0, none⟩), .int .i64 x11.sp, .bool x13, .bool (!x13), .bool (!x13), .pointer (some ⟨b12, 1, none⟩), .int .i64 x11.tg, .bool (decide (x11.tg < 0)), .bool y14, .bool y14, undef, undef, undef, undef, undef, .bool y15, .bool y15, undef, undef, undef, undef, undef, undef, undef, undef, undef, undef, undef, undef, undef, undef, .bool y16] i, U := fun _ _ => [], Φ := fun _ _ => True } ?_ ?_
                          · refine ⟨⟨⟨⟨⟨⟨⟨⟨⟨⟨⟨⟨⟨⟨⟨⟨⟨⟨⟨⟨⟨⟨⟨⟨⟨⟨⟨⟨⟨⟨⟨⟨trivial, lc rfl rfl fun hs hh => stp_fieldAddr (j := 0) Tryz.underlying148 rfl ts3 rfl (sv hs 4 rfl) rfl⟩, lc rfl rfl fun hs hh => stp_load1 ts3 (sv hs 56 rfl) (Cells.box (id := 1) (hh.get 1 _ rfl) 1 rfl)⟩, ?_⟩, lc rfl rfl fun hs hh => stp_not (sv hs 58 rfl)⟩, lc rfl rfl fun hs hh => stp_move (sv hs 59 rfl)⟩, lg rfl rfl 60 hy14 fun hs hh => stp_fieldAddr (j := 1) Tryz.underlying148 rfl ts3 rfl (sv hs 4 rfl) rfl⟩, lg rfl rfl 60 hy14 fun hs hh => stp_load1 ts3 (sv hs 61 rfl) (Cells.box (id := 1) (hh.get 1 _ rfl) 1 rfl)⟩, lg rfl rfl 60 hy14 fun hs hh => stp_lss (sv hs 62 rfl) rfl⟩, lc rfl rfl fun hs hh => stp_pick_fB (sv hs 60 rfl) hy14 (sv hs 63 rfl) qy14⟩, lc rfl rfl fun hs hh => stp_move (sv hs 64 rfl)⟩, lo rfl rfl 65 hy15⟩, lo rfl rfl 65 hy15⟩, lo rfl rfl 65 hy15⟩, lo rfl rfl 65 hy15⟩, lo rfl rfl 65 hy15⟩, lc rfl rfl fun hs hh => stp_pick_tB (sv hs 65 rfl) hy15 rfl qy15⟩, lc rfl rfl fun hs hh => stp_move (sv hs 71 rfl)⟩, lo rfl rfl 72 hy16⟩, lo rfl rfl 72 hy16⟩, lo rfl rfl 72 hy16⟩, lx rfl rfl 75⟩, lx rfl rfl 75⟩, lx rfl rfl 75⟩, lx rfl rfl 75⟩, lx rfl rfl 75⟩, lx rfl rfl 75⟩, lx rfl rfl 75⟩, lx rfl rfl 75⟩, lx rfl rfl 75⟩, lx rfl rfl 75⟩, lo rfl rfl 72 hy16⟩, lc rfl rfl fun hs hh => stp_pick_tB (sv hs 72 rfl) hy16 rfl qy16⟩
                            · refine le rfl rfl (fun g hΦ s h hs hh => (stpU_call (fun i => 2 + i) cf162 (fun w hw => c_s_l1Space fl w x11.sp x13 e13) (sevs_cons (sv hs 57 rfl) sevs_nil))) ?_
                              rintro g _ _ ⟨_, ⟨rfl, rfl⟩, rfl⟩
                              exact ⟨⟨[], [], []⟩, trivial, .inr rfl, rfl⟩
                          · intro g hΦ
                            exact kw_join () trivial ⟨rfl, rfl, rfl, rfl, trivial⟩ ⟨rfl, rfl, trivial⟩
                        · have ey15 := cond_f ey15 hy15
                          have qy15 := Option.some.inj ey15
                          rcases Bool.eq_false_or_eq_true y15 with hy16 | hy16
                          · have ey16 := cond_t ey16 hy16
                            have qy16 := Option.some.inj ey16
                            refine rdr g_mixed [1, 4] [0, 1] { dst := dS [57, 58, 59, 60, 61, 62, 63, 64, 65, 66, 67, 68, 69, 70, 71, 72, 73, 74, 75, 76, 77, 78, 79, 80, 81, 82, 83, 84, 85, 86, 87, 88], pre := gA [] [[], [0], [0, 1], [0, 1, 2], rn 0 4, rn 0 5, rn 0 6, rn 0 7, rn 0 8, rn 0 9, rn 0 10, rn 0 11, rn 0 10, [0, 1, 2, 3, 4, 5, 6, 7, 8, 9, 12], rn 0 14, rn 0 15, rn 0 16, rn 0 17, rn 0 18, rn 0 19, rn 0 20, rn 0 21, rn 0 20, [0, 1, 2, 3, 4, 5, 6, 7, 8, 9, 10, 11, 12, 13, 14, 15, 16, 17, 18, 19, 22], rn 0 24, rn 0 25, rn 0 26, rn 0 20, [0, 1, 2, 3, 4, 5, 6, 7, 8, 9, 10, 11, 12, 13, 14, 15, 16, 17, 18, 19, 27], rn 0 29, rn 0 30, rn 0 31], ids := fun _ => [], rs := rL [[(4, 0)], [(56, 1)], [(57, 2)], [(58, 3)], [(59, 4)], [(4, 0), (60, 5)], [(61, 6), (60, 5)], [(62, 7), (60, 5)], [(60, 5), (63, 8)], [(64, 9)], [(4, 0), (65, 10)], [(66, 11), (65, 10)], [(1, 0), (65, 10)], [(68, 13), (65, 10)], [(67, 12), (69, 14), (65, 10)], [(65, 10), (70, 15)], [(71, 16)], [(72, 17)], [(72, 17)], [(72, 17)], [(75, 20)], [(75, 20)], [(75, 20)], [(75, 20)], [(75, 20)], [(75, 20)], [(75, 20)], [(75, 20)], [(75, 20)], [(75, 20)], [(72, 17)], [(72, 17), (86, 31)]], rh := rL [[], [(1, 0)], [], [], [], [], [(1, 0)], [], [], [], [], [(1, 0)], [], [(0, 0)]], V := fun i g => gA undef [.pointer (some ⟨b12, 0, none⟩), .int .i64 x11.sp, .bool x13, .bool (!x13), .bool (!x13), .pointer (some ⟨b12, 1, none⟩), .int .i64 x11.tg, .bool (decide (x11.tg < 0)), .bool y14, .bool y14, .pointer (some ⟨b12, 1, none⟩), .int .i64 x11.tg, .pointer (some ⟨b1, 1, none⟩), .int .i64 a0.n, .bool (decide (a0.n ≤ x11.tg)), .bool y15, .bool y15, undef, undef, undef, undef, undef, undef, undef, undef, undef, undef, undef, undef, undef, undef, .bool y16] i, U := fun _ _ => [], Φ := fun _ _ => True } ?_ ?_
                            · refine ⟨⟨⟨⟨⟨⟨⟨⟨⟨⟨⟨⟨⟨⟨⟨⟨⟨⟨⟨⟨⟨⟨⟨⟨⟨⟨⟨⟨⟨⟨⟨⟨trivial, lc rfl rfl fun hs hh => stp_fieldAddr (j := 0) Tryz.underlying148 rfl ts3 rfl (sv hs 4 rfl) rfl⟩, lc rfl rfl fun hs hh => stp_load1 ts3 (sv hs 56 rfl) (Cells.box (id := 1) (hh.get 1 _ rfl) 1 rfl)⟩, ?_⟩, lc rfl rfl fun hs hh => stp_not (sv hs 58 rfl)⟩, lc rfl rfl fun hs hh => stp_move (sv hs 59 rfl)⟩, lg rfl rfl 60 hy14 fun hs hh => stp_fieldAddr (j := 1) Tryz.underlying148 rfl ts3 rfl (sv hs 4 rfl) rfl⟩, lg rfl rfl 60 hy14 fun hs hh => stp_load1 ts3 (sv hs 61 rfl) (Cells.box (id := 1) (hh.get 1 _ rfl) 1 rfl)⟩, lg rfl rfl 60 hy14 fun hs hh => stp_lss (sv hs 62 rfl) rfl⟩, lc rfl rfl fun hs hh => stp_pick_fB (sv hs 60 rfl) hy14 (sv hs 63 rfl) qy14⟩, lc rfl rfl fun hs hh => stp_move (sv hs 64 rfl)⟩, lg rfl rfl 65 hy15 fun hs hh => stp_fieldAddr (j := 1) Tryz.underlying148 rfl ts3 rfl (sv hs 4 rfl) rfl⟩, lg rfl rfl 65 hy15 fun hs hh => stp_load1 ts3 (sv hs 66 rfl) (Cells.box (id := 1) (hh.get 1 _ rfl) 1 rfl)⟩, lg rfl rfl 65 hy15 fun hs hh => stp_fieldAddr (j := 1) Tryz.underlying45 rfl ts3 rfl (sv hs 1 rfl) rfl⟩, lg rfl rfl 65 hy15 fun hs hh => stp_load1 ts3 (sv hs 68 rfl) (Cells.box (id := 0) (hh.get 0 _ rfl) 1 rfl)⟩, lg rfl rfl 65 hy15 fun hs hh => stp_geq (sv hs 67 rfl) (sv hs 69 rfl)⟩, lc rfl rfl fun hs hh => stp_pick_fB (sv hs 65 rfl) hy15 (sv hs 70 rfl) qy15⟩, lc rfl rfl fun hs hh => stp_move (sv hs 71 rfl)⟩, lo rfl rfl 72 hy16⟩, lo rfl rfl 72 hy16⟩, lo rfl rfl 72 hy16⟩, lx rfl rfl 75⟩, lx rfl rfl 75⟩, lx rfl rfl 75⟩, lx rfl rfl 75⟩, lx rfl rfl 75⟩, lx rfl rfl 75⟩, lx rfl rfl 75⟩, lx rfl rfl 75⟩, lx rfl rfl 75⟩, lx rfl rfl 75⟩, lo rfl rfl 72 hy16⟩, lc rfl rfl fun hs hh => stp_pick_tB (sv hs 72 rfl) hy16 rfl qy16⟩
                              · refine le rfl rfl (fun g hΦ s h hs hh => (stpU_call (fun i => 2 + i) cf162 (fun w hw => c_s_l1Space fl w x11.sp x13 e13) (sevs_cons (sv hs 57 rfl) sevs_nil))) ?_
                                rintro g _ _ ⟨_, ⟨rfl, rfl⟩, rfl⟩
                                exact ⟨⟨[], [], []⟩, trivial, .inr rfl, rfl⟩
                            · intro g hΦ
                              exact kw_join () trivial ⟨rfl, rfl, rfl, rfl, trivial⟩ ⟨rfl, rfl, trivial⟩
                          · have ey16 := cond_f ey16 hy16
                            obtain ⟨y17, ey17, ey16⟩ := bind_some ey16
                            rcases Bool.eq_false_or_eq_true (decide (0 < v9)) with hy17 | hy17
                            · have ey17 := cond_t ey17 hy17
                              obtain ⟨x18, e18, ey17⟩ := bind_some ey17
                              obtain ⟨x19, e19, ey17⟩ := bind_some ey17
                              have qy17 := Option.some.inj ey17
                              have qy16 := Option.some.inj ey16
                              refine rdr g_mixed [1, 3, 4] [0, 1] { dst := dS [57, 58, 59, 60, 61, 62, 63, 64, 65, 66, 67, 68, 69, 70, 71, 72, 73, 74, 75, 76, 77, 78, 79, 80, 81, 82, 83, 84, 85, 86, 87, 88], pre := gA [] [[], [0], [0, 1], [0, 1, 2], rn 0 4, rn 0 5, rn 0 6, rn 0 7, rn 0 8, rn 0 9, rn 0 10, rn 0 11, rn 0 10, [0, 1, 2, 3, 4, 5, 6, 7, 8, 9, 12], rn 0 14, rn 0 15, rn 0 16, rn 0 17, rn 0 18, rn 0 19, rn 0 20, rn 0 21, rn 0 20, [0, 1, 2, 3, 4, 5, 6, 7, 8, 9, 10, 11, 12, 13, 14, 15, 16, 17, 18, 19, 22], rn 0 24, rn 0 25, rn 0 26, rn 0 20, [0, 1, 2, 3, 4, 5, 6, 7, 8, 9, 10, 11, 12, 13, 14, 15, 16, 17, 18, 19, 27], rn 0 29, rn 0 30, rn 0 31], ids := fun _ => [], rs := rL [[(4, 0)], [(56, 1)], [(57, 2)], [(58, 3)], [(59, 4)], [(4, 0), (60, 5)], [(61, 6), (60, 5)], [(62, 7), (60, 5)], [(60, 5), (63, 8)], [(64, 9)], [(4, 0), (65, 10)], [(66, 11), (65, 10)], [(1, 0), (65, 10)], [(68, 13), (65, 10)], [(67, 12), (69, 14), (65, 10)], [(65, 10), (70, 15)], [(71, 16)], [(3, 0), (72, 17)], [(73, 18), (72, 17)], [(74, 19), (72, 17)], [(1, 0), (75, 20)], [(76, 21), (75, 20)], [(3, 0), (75, 20)], [(78, 23), (75, 20)], [(77, 22), (79, 24), (75, 20)], [(80, 25), (75, 20)], [(81, 26), (75, 20)], [(4, 0), (75, 20)], [(83, 28), (75, 20)], [(82, 27), (84, 29), (75, 20)], [(75, 20), (85, 30), (72, 17)], [(72, 17), (86, 31)]], rh := rL [[], [(1, 0)], [], [], [], [], [(1, 0)], [], [], [], [], [(1, 0)], [], [(0, 0)], [], [], [], [], [], [], [], [(0, 0)], [], [], [], [], [], [], [(1, 0)]], V := fun i g => gA undef [.pointer (some ⟨b12, 0, none⟩), .int .i64 x11.sp, .bool x13, .bool (!x13), .bool (!x13), .pointer (some ⟨b12, 1, none⟩), .int .i64 x11.tg, .bool (decide (x11.tg < 0)), .bool y14, .bool y14, .pointer (some ⟨b12, 1, none⟩), .int .i64 x11.tg, .pointer (some ⟨b1, 1, none⟩), .int .i64 a0.n, .bool (decide (a0.n ≤ x11.tg)), .bool y15, .bool y15, .int .i64 v9, .bool (decide (0 < v9)), .bool (decide (0 < v9)), .pointer (some ⟨b1, 3, none⟩), .slice p0_0 ((a0.o).length) c0_0, .int .i64 v9, .int .i64 x18, .pointer (some ⟨eB p0_0, eO p0_0 + Int.toNat x18 * Enc.sz Ow + 0, none⟩), .pointer (some ⟨eB p0_0, eO p0_0 + Int.toNat x18 * Enc.sz Ow + 1, none⟩), .int .i64 x19.tg, .pointer (some ⟨b12, 1, none⟩), .int .i64 x11.tg, .bool (decide (x11.tg ≤ x19.tg)), .bool y17, .bool y16] i, U := fun _ _ => [], Φ := fun _ _ => True } ?_ ?_
                              · refine ⟨⟨⟨⟨⟨⟨⟨⟨⟨⟨⟨⟨⟨⟨⟨⟨⟨⟨⟨⟨⟨⟨⟨⟨⟨⟨⟨⟨⟨⟨⟨⟨trivial, lc rfl rfl fun hs hh => stp_fieldAddr (j := 0) Tryz.underlying148 rfl ts3 rfl (sv hs 4 rfl) rfl⟩, lc rfl rfl fun hs hh => stp_load1 ts3 (sv hs 56 rfl) (Cells.box (id := 1) (hh.get 1 _ rfl) 1 rfl)⟩, ?_⟩, lc rfl rfl fun hs hh => stp_not (sv hs 58 rfl)⟩, lc rfl rfl fun hs hh => stp_move (sv hs 59 rfl)⟩, lg rfl rfl 60 hy14 fun hs hh => stp_fieldAddr (j := 1) Tryz.underlying148 rfl ts3 rfl (sv hs 4 rfl) rfl⟩, lg rfl rfl 60 hy14 fun hs hh => stp_load1 ts3 (sv hs 61 rfl) (Cells.box (id := 1) (hh.get 1 _ rfl) 1 rfl)⟩, lg rfl rfl 60 hy14 fun hs hh => stp_lss (sv hs 62 rfl) rfl⟩, lc rfl rfl fun hs hh => stp_pick_fB (sv hs 60 rfl) hy14 (sv hs 63 rfl) qy14⟩, lc rfl rfl fun hs hh => stp_move (sv hs 64 rfl)⟩, lg rfl rfl 65 hy15 fun hs hh => stp_fieldAddr (j := 1) Tryz.underlying148 rfl ts3 rfl (sv hs 4 rfl) rfl⟩, lg rfl rfl 65 hy15 fun hs hh => stp_load1 ts3 (sv hs 66 rfl) (Cells.box (id := 1) (hh.get 1 _ rfl) 1 rfl)⟩, lg rfl rfl 65 hy15 fun hs hh => stp_fieldAddr (j := 1) Tryz.underlying45 rfl ts3 rfl (sv hs 1 rfl) rfl⟩, lg rfl rfl 65 hy15 fun hs hh => stp_load1 ts3 (sv hs 68 rfl) (Cells.box (id := 0) (hh.get 0 _ rfl) 1 rfl)⟩, lg rfl rfl 65 hy15 fun hs hh => stp_geq (sv hs 67 rfl) (sv hs 69 rfl)⟩, lc rfl rfl fun hs hh => stp_pick_fB (sv hs 65 rfl) hy15 (sv hs 70 rfl) qy15⟩, lc rfl rfl fun hs hh => stp_move (sv hs 71 rfl)⟩, lg rfl rfl 72 hy16 fun hs hh => stp_move (sv hs 3 rfl)⟩, lg rfl rfl 72 hy16 fun hs hh => stp_gtr (sv hs 73 rfl) rfl⟩, lg rfl rfl 72 hy16 fun hs hh => stp_move (sv hs 74 rfl)⟩, lg rfl rfl 75 hy17 fun hs hh => stp_fieldAddr (j := 3) Tryz.underlying45 rfl ts43 rfl (sv hs 1 rfl) rfl⟩, lg rfl rfl 75 hy17 fun hs hh => stp_load1 ts43 (sv hs 76 rfl) (Cells.box (id := 0) (hh.get 0 _ rfl) 1 rfl)⟩, lg rfl rfl 75 hy17 fun hs hh => stp_move (sv hs 3 rfl)⟩, lg rfl rfl 75 hy17 fun hs hh => stp_sub (sv hs 78 rfl) rfl e18⟩, lg rfl rfl 75 hy17 fun hs hh => stp_indexAddr Tryz.underlying43 ts148 (by decide) (sv hs 77 rfl) rfl (sv hs 79 rfl) (Rdb.ro hr0_0) e19⟩, lg rfl rfl 75 hy17 fun hs hh => stp_fieldAddr (j := 1) Tryz.underlying148 rfl ts3 rfl (sv hs 80 rfl) rfl⟩, lg rfl rfl 75 hy17 fun hs hh => stp_load1 ts3 (sv hs 81 rfl) (Cells.el (Rdb.ro hr0_0) (by decide) e19 1 1 rfl)⟩, lg rfl rfl 75 hy17 fun hs hh => stp_fieldAddr (j := 1) Tryz.underlying148 rfl ts3 rfl (sv hs 4 rfl) rfl⟩, lg rfl rfl 75 hy17 fun hs hh => stp_load1 ts3 (sv hs 83 rfl) (Cells.box (id := 1) (hh.get 1 _ rfl) 1 rfl)⟩, lg rfl rfl 75 hy17 fun hs hh => stp_geq (sv hs 82 rfl) (sv hs 84 rfl)⟩, lg rfl rfl 72 hy16 fun hs hh => stp_pick_tB (sv hs 75 rfl) hy17 (sv hs 85 rfl) qy17⟩, lc rfl rfl fun hs hh => stp_pick_fB (sv hs 72 rfl) hy16 (sv hs 86 rfl) qy16⟩
                                · refine le rfl rfl (fun g hΦ s h hs hh => (stpU_call (fun i => 2 + i) cf162 (fun w hw => c_s_l1Space fl w x11.sp x13 e13) (sevs_cons (sv hs 57 rfl) sevs_nil))) ?_
                                  rintro g _ _ ⟨_, ⟨rfl, rfl⟩, rfl⟩
                                  exact ⟨⟨[], [], []⟩, trivial, .inr rfl, rfl⟩
                              · intro g hΦ
                                exact kw_join () trivial ⟨rfl, rfl, rfl, rfl, trivial⟩ ⟨rfl, rfl, trivial⟩
                            · have ey17 := cond_f ey17 hy17
                              have qy17 := Option.some.inj ey17
                              have qy16 := Option.some.inj ey16
                              refine rdr g_mixed [1, 3, 4] [0, 1] { dst := dS [57, 58, 59, 60, 61, 62, 63, 64, 65, 66, 67, 68, 69, 70, 71, 72, 73, 74, 75, 76, 77, 78, 79, 80, 81, 82, 83, 84, 85, 86, 87, 88], pre := gA [] [[], [0], [0, 1], [0, 1, 2], rn 0 4, rn 0 5, rn 0 6, rn 0 7, rn 0 8, rn 0 9, rn 0 10, rn 0 11, rn 0 10, [0, 1, 2, 3, 4, 5, 6, 7, 8, 9, 12], rn 0 14, rn 0 15, rn 0 16, rn 0 17, rn 0 18, rn 0 19, rn 0 20, rn 0 21, rn 0 20, [0, 1, 2, 3, 4, 5, 6, 7, 8, 9, 10, 11, 12, 13, 14, 15, 16, 17, 18, 19, 22], rn 0 24, rn 0 25, rn 0 26, rn 0 20, [0, 1, 2, 3, 4, 5, 6, 7, 8, 9, 10, 11, 12, 13, 14, 15, 16, 17, 18, 19, 27], rn 0 29, rn 0 30, rn 0 31], ids := fun _ => [], rs := rL [[(4, 0)], [(56, 1)], [(57, 2)], [(58, 3)], [(59, 4)], [(4, 0), (60, 5)], [(61, 6), (60, 5)], [(62, 7), (60, 5)], [(60, 5), (63, 8)], [(64, 9)], [(4, 0), (65, 10)], [(66, 11), (65, 10)], [(1, 0), (65, 10)], [(68, 13), (65, 10)], [(67, 12), (69, 14), (65, 10)], [(65, 10), (70, 15)], [(71, 16)], [(3, 0), (72, 17)], [(73, 18), (72, 17)], [(74, 19), (72, 17)], [(75, 20)], [(75, 20)], [(75, 20)], [(75, 20)], [(75, 20)], [(75, 20)], [(75, 20)], [(75, 20)], [(75, 20)], [(75, 20)], [(75, 20), (85, 30), (72, 17)], [(72, 17), (86, 31)]], rh := rL [[], [(1, 0)], [], [], [], [], [(1, 0)], [], [], [], [], [(1, 0)], [], [(0, 0)]], V := fun i g => gA undef [.pointer (some ⟨b12, 0, none⟩), .int .i64 x11.sp, .bool x13, .bool (!x13), .bool (!x13), .pointer (some ⟨b12, 1, none⟩), .int .i64 x11.tg, .bool (decide (x11.tg < 0)), .bool y14, .bool y14, .pointer (some ⟨b12, 1, none⟩), .int .i64 x11.tg, .pointer (some ⟨b1, 1, none⟩), .int .i64 a0.n, .bool (decide (a0.n ≤ x11.tg)), .bool y15, .bool y15, .int .i64 v9, .bool (decide (0 < v9)), .bool (decide (0 < v9)), undef, undef, undef, undef, undef, undef, undef, undef, undef, undef, .bool y17, .bool y16] i, U := fun _ _ => [], Φ := fun _ _ => True } ?_ ?_
                              · refine ⟨⟨⟨⟨⟨⟨⟨⟨⟨⟨⟨⟨⟨⟨⟨⟨⟨⟨⟨⟨⟨⟨⟨⟨⟨⟨⟨⟨⟨⟨⟨⟨trivial, lc rfl rfl fun hs hh => stp_fieldAddr (j := 0) Tryz.underlying148 rfl ts3 rfl (sv hs 4 rfl) rfl⟩, lc rfl rfl fun hs hh => stp_load1 ts3 (sv hs 56 rfl) (Cells.box (id := 1) (hh.get 1 _ rfl) 1 rfl)⟩, ?_⟩, lc rfl rfl fun hs hh => stp_not (sv hs 58 rfl)⟩, lc rfl rfl fun hs hh => stp_move (sv hs 59 rfl)⟩, lg rfl rfl 60 hy14 fun hs hh => stp_fieldAddr (j := 1) Tryz.underlying148 rfl ts3 rfl (sv hs 4 rfl) rfl⟩, lg rfl rfl 60 hy14 fun hs hh => stp_load1 ts3 (sv hs 61 rfl) (Cells.box (id := 1) (hh.get 1 _ rfl) 1 rfl)⟩, lg rfl rfl 60 hy14 fun hs hh => stp_lss (sv hs 62 rfl) rfl⟩, lc rfl rfl fun hs hh => stp_pick_fB (sv hs 60 rfl) hy14 (sv hs 63 rfl) qy14⟩, lc rfl rfl fun hs hh => stp_move (sv hs 64 rfl)⟩, lg rfl rfl 65 hy15 fun hs hh => stp_fieldAddr (j := 1) Tryz.underlying148 rfl ts3 rfl (sv hs 4 rfl) rfl⟩, lg rfl rfl 65 hy15 fun hs hh => stp_load1 ts3 (sv hs 66 rfl) (Cells.box (id := 1) (hh.get 1 _ rfl) 1 rfl)⟩, lg rfl rfl 65 hy15 fun hs hh => stp_fieldAddr (j := 1) Tryz.underlying45 rfl ts3 rfl (sv hs 1 rfl) rfl⟩, lg rfl rfl 65 hy15 fun hs hh => stp_load1 ts3 (sv hs 68 rfl) (Cells.box (id := 0) (hh.get 0 _ rfl) 1 rfl)⟩, lg rfl rfl 65 hy15 fun hs hh => stp_geq (sv hs 67 rfl) (sv hs 69 rfl)⟩, lc rfl rfl fun hs hh => stp_pick_fB (sv hs 65 rfl) hy15 (sv hs 70 rfl) qy15⟩, lc rfl rfl fun hs hh => stp_move (sv hs 71 rfl)⟩, lg rfl rfl 72 hy16 fun hs hh => stp_move (sv hs 3 rfl)⟩, lg rfl rfl 72 hy16 fun hs hh => stp_gtr (sv hs 73 rfl) rfl⟩, lg rfl rfl 72 hy16 fun hs hh => stp_move (sv hs 74 rfl)⟩, lo rfl rfl 75 hy17⟩, lo rfl rfl 75 hy17⟩, lo rfl rfl 75 hy17⟩, lo rfl rfl 75 hy17⟩, lo rfl rfl 75 hy17⟩, lo rfl rfl 75 hy17⟩, lo rfl rfl 75 hy17⟩, lo rfl rfl 75 hy17⟩, lo rfl rfl 75 hy17⟩, lo rfl rfl 75 hy17⟩, lg rfl rfl 72 hy16 fun hs hh => stp_pick_fB (sv hs 75 rfl) hy17 rfl qy17⟩, lc rfl rfl fun hs hh => stp_pick_fB (sv hs 72 rfl) hy16 (sv hs 86 rfl) qy16⟩
                                · refine le rfl rfl (fun g hΦ s h hs hh => (stpU_call (fun i => 2 + i) cf162 (fun w hw => c_s_l1Space fl w x11.sp x13 e13) (sevs_cons (sv hs 57 rfl) sevs_nil))) ?_
                                  rintro g _ _ ⟨_, ⟨rfl, rfl⟩, rfl⟩
                                  exact ⟨⟨[], [], []⟩, trivial, .inr rfl, rfl⟩
                              · intro g hΦ
                                exact kw_join () trivial ⟨rfl, rfl, rfl, rfl, trivial⟩ ⟨rfl, rfl, trivial⟩
                    · rintro _ -
                      refine KW.sub (s' := [(1, .pointer (some ⟨b1, 0, none⟩)), (3, .int .i64 v9), (4, .pointer (some ⟨b12, 0, none⟩)), (87, .bool y16)]) (h' := [(0, [(b1, .cells #[.int .i64 a0.c, .int .i64 a0.n, .int .i64 a0.r, .slice p0_0 ((a0.o).length) c0_0] 45 (0, 0))]), (1, [(b12, .cells #[.int .i64 x11.sp, .int .i64 x11.tg] 148 (0, 0))])]) ?_ ⟨rfl, rfl, rfl, rfl, trivial⟩ ⟨rfl, rfl, trivial⟩
                      refine kw_nx (cw_cond rfl (fun h20 => ?_) (fun h20 => ?_))
                      · have H1 := cond_t H1 h20
                        refine sr (oD (sg rfl) rfl (nn (cw_ret (kw_nx_ret (kw_bl_ret (kw_nx_ret (kw_lq_ret (kw_bl_ret (kw_join_ret (kw_nx_ret ?_))))))))))
                        have q1 := Option.some.inj H1
                        subst q1
                        have q0 := Option.some.inj H0
                        subst q0
                        exact kw_ret Tryz.results126 (.cons (.tmp rfl) .nil) [] [] trivial (by decide) ⟨rfl, rfl⟩
                      · have H1 := cond_f H1 h20
                        obtain ⟨o1_1, eo1_1, H1⟩ := bind_some H1
                        refine cw_skip (kw_nx (sr (oD (sg rfl) rfl (nn (cw_join (ι := Int) (fun | v21 => o1_1 = .out v21) (fun | v21 => [(1, .pointer (some ⟨b1, 0, none⟩)), (3, .int .i64 v9), (4, .pointer (some ⟨b12, 0, none⟩)), (5, .int .i64 v21)]) (fun | v21 => [(0, [(b1, .cells #[.int .i64 a0.c, .int .i64 a0.n, .int .i64 a0.r, .slice p0_0 ((a0.o).length) c0_0] 45 (0, 0))]), (1, [(b12, .cells #[.int .i64 x11.sp, .int .i64 x11.tg] 148 (0, 0))])]) ?_ ?_)))))
                        · refine cw_block (cw_loopS (ι := Nat × Int) (js := [0, 1]) (fun x => x.1) (fun | (fuel, v21) => s_TagsValid_L1 fl a0 v9 x11 fuel v21 = some o1_1) (fun | (_, v21) => [(1, .pointer (some ⟨b1, 0, none⟩)), (3, .int .i64 v9), (4, .pointer (some ⟨b12, 0, none⟩)), (5, .int .i64 v21)]) (fun | (_, v21) => [(0, [(b1, .cells #[.int .i64 a0.c, .int .i64 a0.n, .int .i64 a0.r, .slice p0_0 ((a0.o).length) c0_0] 45 (0, 0))]), (1, [(b12, .cells #[.int .i64 x11.sp, .int .i64 x11.tg] 148 (0, 0))])]) (fl, 0) eo1_1 ⟨rfl, rfl, rfl, rfl, trivial⟩ ⟨0, [1], rfl, rfl, 1, [], rfl, rfl, trivial⟩ (by decide) ?_)
                          rintro ⟨fuel, v21⟩ H2
                          have H2 : s_TagsValid_L1 fl a0 v9 x11 fuel v21 = some o1_1 := H2
                          rcases fuel with _ | fuel
                          · rw [s_TagsValid_L1.eq_1] at H2; cases H2
                          rw [s_TagsValid_L1.eq_2] at H2
                          refine CW.sub (s' := [(1, .pointer (some ⟨b1, 0, none⟩)), (3, .int .i64 v9), (4, .pointer (some ⟨b12, 0, none⟩)), (5, .int .i64 v21)]) (h' := [(0, [(b1, .cells #[.int .i64 a0.c, .int .i64 a0.n, .int .i64 a0.r, .slice p0_0 ((a0.o).length) c0_0] 45 (0, 0))]), (1, [(b12, .cells #[.int .i64 x11.sp, .int .i64 x11.tg] 148 (0, 0))])]) ?_ ⟨rfl, rfl, rfl, rfl, trivial⟩ ⟨rfl, rfl, trivial⟩
                          refine cw_seq (sr (oD (mv rfl) rfl (oD (mv rfl) rfl (oD (stp_lss rfl rfl) rfl (nn (cw_cond rfl (fun h22 => ?_) (fun h22 => ?_)))))))
                          · have H2 := cond_t H2 h22
                            obtain ⟨x23, e23, H2⟩ := bind_some H2
                            refine cw_skip (kw_nx (cw_seq (cw_block (cw_seq (rdr g_mixed [1, 4, 5] [0, 1] { dst := dS [94, 95, 96, 97, 98, 99, 100, 101, 102], pre := gA [] [[], [0], [], [0, 1, 2], rn 0 4, rn 0 5, [], [6], rn 0 8], ids := fun _ => [], rs := rL [[(1, 0)], [(93, 1)], [(5, 0)], [(94, 2), (95, 3)], [(96, 4)], [(97, 5)], [(4, 0)], [(99, 7)], [(98, 6), (100, 8)]], rh := rL [[], [(0, 0)], [], [], [], [], [], [(1, 0)]], V := fun i g => gA undef [.pointer (some ⟨b1, 3, none⟩), .slice p0_0 ((a0.o).length) c0_0, .int .i64 v21, .pointer (some ⟨eB p0_0, eO p0_0 + Int.toNat v21 * Enc.sz Ow + 0, none⟩), .pointer (some ⟨eB p0_0, eO p0_0 + Int.toNat v21 * Enc.sz Ow + 0, none⟩), .int .i64 x23.sp, .pointer (some ⟨b12, 0, none⟩), .int .i64 x11.sp, .bool (x23.sp == x11.sp)] i, U := fun _ _ => [], Φ := fun _ _ => True } ?_ ?_)))))
                            · exact ⟨⟨⟨⟨⟨⟨⟨⟨⟨trivial, lc rfl rfl fun hs hh => stp_fieldAddr (j := 3) Tryz.underlying45 rfl ts43 rfl (sv hs 1 rfl) rfl⟩, lc rfl rfl fun hs hh => stp_load1 ts43 (sv hs 93 rfl) (Cells.box (id := 0) (hh.get 0 _ rfl) 1 rfl)⟩, lc rfl rfl fun hs hh => stp_move (sv hs 5 rfl)⟩, lc rfl rfl fun hs hh => stp_indexAddr Tryz.underlying43 ts148 (by decide) (sv hs 94 rfl) rfl (sv hs 95 rfl) (Rdb.ro hr0_0) e23⟩, lc rfl rfl fun hs hh => stp_fieldAddr (j := 0) Tryz.underlying148 rfl ts3 rfl (sv hs 96 rfl) rfl⟩, lc rfl rfl fun hs hh => stp_load1 ts3 (sv hs 97 rfl) (Cells.el (Rdb.ro hr0_0) (by decide) e23 0 1 rfl)⟩, lc rfl rfl fun hs hh => stp_fieldAddr (j := 0) Tryz.underlying148 rfl ts3 rfl (sv hs 4 rfl) rfl⟩, lc rfl rfl fun hs hh => stp_load1 ts3 (sv hs 99 rfl) (Cells.box (id := 1) (hh.get 1 _ rfl) 1 rfl)⟩, lc rfl rfl fun hs hh => stp_eql (sv hs 98 rfl) (sv hs 100 rfl)⟩
                            · intro g hΦ
                              refine KW.sub (s' := [(1, .pointer (some ⟨b1, 0, none⟩)), (3, .int .i64 v9), (4, .pointer (some ⟨b12, 0, none⟩)), (5, .int .i64 v21), (101, .bool (x23.sp == x11.sp))]) (h' := [(0, [(b1, .cells #[.int .i64 a0.c, .int .i64 a0.n, .int .i64 a0.r, .slice p0_0 ((a0.o).length) c0_0] 45 (0, 0))]), (1, [(b12, .cells #[.int .i64 x11.sp, .int .i64 x11.tg] 148 (0, 0))])]) ?_ ⟨rfl, rfl, rfl, rfl, rfl, trivial⟩ ⟨rfl, rfl, trivial⟩
                              refine kw_nx (cw_cond rfl (fun h24 => ?_) (fun h24 => ?_))
                              · have H2 := cond_t H2 h24
                                refine sr (oD (sg rfl) rfl (nn (cw_ret (kw_bl_ret (kw_nx_ret (kw_lq_ret (kw_bl_ret (kw_join_ret (kw_bl_ret (kw_nx_ret (kw_lq_ret (kw_bl_ret (kw_join_ret ?_)))))))))))))
                                refine kw_nx_ret ?_
                                have q2 := Option.some.inj H2
                                subst q2
                                have q1 := Option.some.inj H1
                                subst q1
                                have q0 := Option.some.inj H0
                                subst q0
                                exact kw_ret Tryz.results126 (.cons (.tmp rfl) .nil) [] [] trivial (by decide) ⟨rfl, rfl⟩
                              · have H2 := cond_f H2 h24
                                obtain ⟨x25, e25, H2⟩ := bind_some H2
                                exact cw_skip (kw_bl_normal (kw_nx (cw_region (oD (mv rfl) rfl (oD (stp_add rfl rfl e25) rfl (oD (sg rfl) rfl (ow_nil (kw_lqS (js := [0, 1]) (fuel, x25) H2 (Nat.lt_succ_self _) ⟨rfl, rfl, rfl, rfl, trivial⟩ ⟨0, [1], rfl, rfl, 1, [], rfl, rfl, trivial⟩ (by decide)))))))))
                          · have H2 := cond_f H2 h22
                            refine cw_exit (kw_nx_exit (kw_lq_exit (kw_bl ?_)))
                            have q2 := Option.some.inj H2
                            subst q2
                            exact kw_joinS (js := [0, 1]) v21 rfl ⟨rfl, rfl, rfl, rfl, trivial⟩ ⟨0, [1], rfl, rfl, 1, [], rfl, rfl, trivial⟩ (by decide)
                        · rintro v21 rfl
                          refine KW.sub (s' := [(1, .pointer (some ⟨b1, 0, none⟩)), (3, .int .i64 v9), (4, .pointer (some ⟨b12, 0, none⟩)), (5, .int .i64 v21)]) (h' := [(0, [(b1, .cells #[.int .i64 a0.c, .int .i64 a0.n, .int .i64 a0.r, .slice p0_0 ((a0.o).length) c0_0] 45 (0, 0))]), (1, [(b12, .cells #[.int .i64 x11.sp, .int .i64 x11.tg] 148 (0, 0))])]) ?_ ⟨rfl, rfl, rfl, rfl, trivial⟩ ⟨rfl, rfl, trivial⟩
                          obtain ⟨x26, e26, H1⟩ := bind_some H1
                          exact kw_bl_normal (kw_nx (cw_region (oD (mv rfl) rfl (oD (stp_add rfl rfl e26) rfl (oD (sg rfl) rfl (ow_nil (kw_lqS (js := [0]) (fuel, x26) H1 (Nat.lt_succ_self _) ⟨rfl, rfl, trivial⟩ ⟨0, [], rfl, rfl, trivial⟩ (by decide))))))))
                  · have H1 := cond_f H1 h10
                    refine cw_exit (kw_nx_exit (kw_lq_exit (kw_bl ?_)))
                    have q1 := Option.some.inj H1
                    subst q1
                    exact kw_joinS (js := [0]) v9 rfl ⟨rfl, rfl, trivial⟩ ⟨0, [], rfl, rfl, trivial⟩ (by decide)
                · rintro v9 rfl
                  refine KW.sub (s' := [(1, .pointer (some ⟨b1, 0, none⟩)), (3, .int .i64 v9)]) (h' := [(0, [(b1, .cells #[.int .i64 a0.c, .int .i64 a0.n, .int .i64 a0.r, .slice p0_0 ((a0.o).length) c0_0] 45 (0, 0))])]) ?_ ⟨rfl, rfl, trivial⟩ ⟨rfl, trivial⟩
                  refine kw_nx (sr (oD (sg rfl) rfl (nn (cw_ret ?_))))
                  have q0 := Option.some.inj H0
                  subst q0
                  exact kw_ret Tryz.results126 (.cons (.tmp rfl) .nil) [] [] trivial (by decide) ⟨rfl, rfl⟩

set_option maxHeartbeats 4000000 in
set_option maxRecDepth 20000 in
theorem c_s_l5Find (fl : Nat) (w : World) (a0 : Tg) (p0_0 : Option Addr) (n0_0 c0_0 : Nat) (a1 : Int) (hn0_0 : n0_0 = (a0.o).length) (hr0_0 : RO w (hkeys []) (RdL p0_0 c0_0 a0.o)) (r : Int) (H0 : s_l5Find fl a0 a1 = some r) :
    Ct Tryz.prog 127 [.agg #[.int .i64 a0.c, .int .i64 a0.n, .int .i64 a0.r, .slice p0_0 n0_0 c0_0], .int .i64 a1] w [] (fun rv h' => rv = .int .i64 r ∧ h' = []) := by
  obtain rfl := hn0_0
  unfold s_l5Find at H0
  refine ct_of_cw Tryz.func127 rfl Tryz.ntmps127 rfl (Sat.refl _ _) ?_
  refine sr (oE (stpU_box 0 rfl rfl) rfl ?_)
  rintro _ _ ⟨b1, rfl, rfl⟩
  obtain ⟨o0_0, eo0_0, H0⟩ := bind_some H0
  refine oD (sg rfl) rfl (nn (cw_seq (sr (oD (sg rfl) rfl (nn (cw_join (ι := Int) (fun | v2 => o0_0 = .out v2) (fun | v2 => [(1, .int .i64 a1), (2, .pointer (some ⟨b1, 0, none⟩)), (5, .int .i64 v2)]) (fun | v2 => [(0, [(b1, .cells #[.int .i64 a0.c, .int .i64 a0.n, .int .i64 a0.r, .slice p0_0 ((a0.o).length) c0_0] 45 (0, 0))])]) ?_ ?_))))))
  · refine cw_block (cw_loopS (ι := Nat × Int) (js := [0]) (fun x => x.1) (fun | (fuel, v2) => s_l5Find_L0 fl a0 a1 fuel v2 = some o0_0) (fun | (_, v2) => [(1, .int .i64 a1), (2, .pointer (some ⟨b1, 0, none⟩)), (5, .int .i64 v2)]) (fun | (_, v2) => [(0, [(b1, .cells #[.int .i64 a0.c, .int .i64 a0.n, .int .i64 a0.r, .slice p0_0 ((a0.o).length) c0_0] 45 (0, 0))])]) (fl, 0) eo0_0 ⟨rfl, rfl, rfl, trivial⟩ ⟨0, [], rfl, rfl, trivial⟩ (by decide) ?_)
    rintro ⟨fuel, v2⟩ H1
    have H1 : s_l5Find_L0 fl a0 a1 fuel v2 = some o0_0 := H1
    rcases fuel with _ | fuel
    · rw [s_l5Find_L0.eq_1] at H1; cases H1
    rw [s_l5Find_L0.eq_2] at H1
    refine CW.sub (s' := [(1, .int .i64 a1), (2, .pointer (some ⟨b1, 0, none⟩)), (5, .int .i64 v2)]) (h' := [(0, [(b1, .cells #[.int .i64 a0.c, .int .i64 a0.n, .int .i64 a0.r, .slice p0_0 ((a0.o).length) c0_0] 45 (0, 0))])]) ?_ ⟨rfl, rfl, rfl, trivial⟩ ⟨rfl, trivial⟩
    refine cw_seq (sr (oD (mv rfl) rfl (oD (fA 3 Tryz.underlying45 rfl ts43 rfl rfl rfl) rfl (oD (lB 0 ts43 rfl rfl rfl) rfl (oD (stp_len Tryz.underlying43 rfl) rfl (oD (stp_lss rfl rfl) rfl (nn (cw_cond rfl (fun h3 => ?_) (fun h3 => ?_)))))))))
    · have H1 := cond_t H1 h3
      obtain ⟨x4, e4, H1⟩ := bind_some H1
      refine cw_skip (kw_nx (cw_seq (cw_block (sr (oD (fA 3 Tryz.underlying45 rfl ts43 rfl rfl rfl) rfl (oD (lB 0 ts43 rfl rfl rfl) rfl (oD (mv rfl) rfl (oD (stp_indexAddr Tryz.underlying43 ts148 (by decide) rfl rfl rfl (Rdb.ro hr0_0) e4) rfl (oD (fA 0 Tryz.underlying148 rfl ts3 rfl rfl rfl) rfl (oD (stp_load1 ts3 rfl (Cells.el (Rdb.ro hr0_0) (by decide) e4 0 1 rfl)) rfl (oD (mv rfl) rfl (oD (stp_eql rfl rfl) rfl (nn ?_)))))))))))))
      refine cw_cond rfl (fun h5 => ?_) (fun h5 => ?_)
      · have H1 := cond_t H1 h5
        refine sr (oD (mv rfl) rfl (oD (sg rfl) rfl (nn (cw_ret (kw_bl_ret (kw_nx_ret (kw_lq_ret (kw_bl_ret (kw_join_ret (kw_nx_ret ?_))))))))))
        have q1 := Option.some.inj H1
        subst q1
        have q0 := Option.some.inj H0
        subst q0
        exact kw_ret Tryz.results127 (.cons (.tmp rfl) .nil) [] [] trivial (by decide) ⟨rfl, rfl⟩
      · have H1 := cond_f H1 h5
        obtain ⟨x6, e6, H1⟩ := bind_some H1
        exact cw_skip (kw_bl_normal (kw_nx (cw_region (oD (mv rfl) rfl (oD (stp_add rfl rfl e6) rfl (oD (sg rfl) rfl (ow_nil (kw_lqS (js := [0]) (fuel, x6) H1 (Nat.lt_succ_self _) ⟨rfl, rfl, rfl, trivial⟩ ⟨0, [], rfl, rfl, trivial⟩ (by decide)))))))))
    · have H1 := cond_f H1 h3
      refine cw_exit (kw_nx_exit (kw_lq_exit (kw_bl ?_)))
      have q1 := Option.some.inj H1
      subst q1
      exact kw_joinS (js := [0]) v2 rfl ⟨rfl, rfl, rfl, trivial⟩ ⟨0, [], rfl, rfl, trivial⟩ (by decide)
  · rintro v2 rfl
    refine KW.sub (s' := [(1, .int .i64 a1), (2, .pointer (some ⟨b1, 0, none⟩)), (5, .int .i64 v2)]) (h' := [(0, [(b1, .cells #[.int .i64 a0.c, .int .i64 a0.n, .int .i64 a0.r, .slice p0_0 ((a0.o).length) c0_0] 45 (0, 0))])]) ?_ ⟨rfl, rfl, rfl, trivial⟩ ⟨rfl, trivial⟩
    refine kw_nx (sr (oD (sg rfl) rfl (nn (cw_ret ?_))))
    have q0 := Option.some.inj H0
    subst q0
    exact kw_ret Tryz.results127 (.cons (.tmp rfl) .nil) [] [] trivial (by decide) ⟨rfl, rfl⟩

set_option maxHeartbeats 4000000 in
set_option maxRecDepth 20000 in
theorem c_s_SpaceOf (fl : Nat) (w : World) (a0 : Tg) (p0_0 : Option Addr) (n0_0 c0_0 : Nat) (a1 : Int) (hn0_0 : n0_0 = (a0.o).length) (hr0_0 : RO w (hkeys []) (RdL p0_0 c0_0 a0.o)) (r : Int × Bool) (H0 : s_SpaceOf fl a0 a1 = some r) :
    Ct Tryz.prog 191 [.agg #[.int .i64 a0.c, .int .i64 a0.n, .int .i64 a0.r, .slice p0_0 n0_0 c0_0], .int .i64 a1] w [] (fun rv h' => rv = .tuple #[.int .i64 r.1, .bool r.2] ∧ h' = []) := by
  obtain rfl := hn0_0
  unfold s_SpaceOf at H0
  refine ct_of_cw Tryz.func191 rfl Tryz.ntmps191 rfl (Sat.refl _ _) ?_
  refine sr (oE (stpU_box 0 rfl rfl) rfl ?_)
  rintro _ _ ⟨b1, rfl, rfl⟩
  obtain ⟨o0_0, eo0_0, H0⟩ := bind_some H0
  refine oD (sg rfl) rfl (oD (sg rfl) rfl (nn (cw_seq (sr (oD (sg rfl) rfl (nn (cw_join (ι := Int) (fun | v2 => o0_0 = .out v2) (fun | v2 => [(1, .int .i64 a1), (2, .pointer (some ⟨b1, 0, none⟩)), (6, .int .i64 v2)]) (fun | v2 => [(0, [(b1, .cells #[.int .i64 a0.c, .int .i64 a0.n, .int .i64 a0.r, .slice p0_0 ((a0.o).length) c0_0] 45 (0, 0))])]) ?_ ?_)))))))
  · refine cw_block (cw_loopS (ι := Nat × Int) (js := [0]) (fun x => x.1) (fun | (fuel, v2) => s_SpaceOf_L0 fl a0 a1 fuel v2 = some o0_0) (fun | (_, v2) => [(1, .int .i64 a1), (2, .pointer (some ⟨b1, 0, none⟩)), (6, .int .i64 v2)]) (fun | (_, v2) => [(0, [(b1, .cells #[.int .i64 a0.c, .int .i64 a0.n, .int .i64 a0.r, .slice p0_0 ((a0.o).length) c0_0] 45 (0, 0))])]) (fl, 0) eo0_0 ⟨rfl, rfl, rfl, trivial⟩ ⟨0, [], rfl, rfl, trivial⟩ (by decide) ?_)
    rintro ⟨fuel, v2⟩ H1
    have H1 : s_SpaceOf_L0 fl a0 a1 fuel v2 = some o0_0 := H1
    rcases fuel with _ | fuel
    · rw [s_SpaceOf_L0.eq_1] at H1; cases H1
    rw [s_SpaceOf_L0.eq_2] at H1
    refine CW.sub (s' := [(1, .int .i64 a1), (2, .pointer (some ⟨b1, 0, none⟩)), (6, .int .i64 v2)]) (h' := [(0, [(b1, .cells #[.int .i64 a0.c, .int .i64 a0.n, .int .i64 a0.r, .slice p0_0 ((a0.o).length) c0_0] 45 (0, 0))])]) ?_ ⟨rfl, rfl, rfl, trivial⟩ ⟨rfl, trivial⟩
    obtain ⟨y3, ey3, H1⟩ := bind_some H1
    refine cw_seq (sr (oD (mv rfl) rfl (oD (fA 3 Tryz.underlying45 rfl ts43 rfl rfl rfl) rfl (oD (lB 0 ts43 rfl rfl rfl) rfl (oD (stp_len Tryz.underlying43 rfl) rfl (oD (stp_lss rfl rfl) rfl (oD (mv rfl) rfl (ow_cutY 3 15 y3 ?_ ?_))))))))
    · rcases Bool.eq_false_or_eq_true (decide (v2 < ((a0.o).length : Int))) with hy3 | hy3
      · have ey3 := cond_t ey3 hy3
        obtain ⟨x4, e4, ey3⟩ := bind_some ey3
        refine oG rfl hy3 (stp_loadN (us := [_, _, _, _]) ts45 rfl (Cells.box (id := 0) rfl 4 rfl)) rfl (ow_eff (.some rfl hy3) (stpU_call (fun i => 1 + i) cf126 (fun w hw => c_s_TagsValid fl w a0 p0_0 ((a0.o).length) c0_0 rfl (RO.pass hr0_0 hw) x4 e4) (sevs_cons rfl sevs_nil)) rfl ?_)
        rintro _ _ ⟨_, ⟨rfl, rfl⟩, rfl⟩
        refine oD (stp_pick_t rfl hy3 rfl) rfl ?_
        obtain rfl := Option.some.inj ey3
        exact ow_nil (jy 3 0)
      · have ey3 := cond_f ey3 hy3
        refine oO rfl hy3 rfl (oO rfl hy3 rfl (oD (stp_pick_f rfl hy3 rfl) rfl ?_))
        obtain rfl := Option.some.inj ey3
        exact ow_nil (jy 3 0)
    · refine ow_nil (kw_nx (cw_cond rfl (fun h5 => ?_) (fun h5 => ?_)))
      · have H1 := cond_t H1 h5
        obtain ⟨x6, e6, H1⟩ := bind_some H1
        refine cw_skip (kw_nx (cw_seq (cw_block (sr (oD (fA 3 Tryz.underlying45 rfl ts43 rfl rfl rfl) rfl (oD (lB 0 ts43 rfl rfl rfl) rfl (oD (mv rfl) rfl (oD (stp_indexAddr Tryz.underlying43 ts148 (by decide) rfl rfl rfl (Rdb.ro hr0_0) e6) rfl (oD (fA 1 Tryz.underlying148 rfl ts3 rfl rfl rfl) rfl (oD (stp_load1 ts3 rfl (Cells.el (Rdb.ro hr0_0) (by decide) e6 1 1 rfl)) rfl (oD (mv rfl) rfl (oD (stp_eql rfl rfl) rfl (nn ?_)))))))))))))
        refine cw_cond rfl (fun h7 => ?_) (fun h7 => ?_)
        · have H1 := cond_t H1 h7
          refine sr (oD (fA 3 Tryz.underlying45 rfl ts43 rfl rfl rfl) rfl (oD (lB 0 ts43 rfl rfl rfl) rfl (oD (mv rfl) rfl (oD (stp_indexAddr Tryz.underlying43 ts148 (by decide) rfl rfl rfl (Rdb.ro hr0_0) e6) rfl (oD (fA 0 Tryz.underlying148 rfl ts3 rfl rfl rfl) rfl (oD (stp_load1 ts3 rfl (Cells.el (Rdb.ro hr0_0) (by decide) e6 0 1 rfl)) rfl (oD (sg rfl) rfl (oD (sg rfl) rfl (nn (cw_ret (kw_bl_ret (kw_nx_ret (kw_lq_ret ?_)))))))))))))
          refine kw_bl_ret (kw_join_ret (kw_nx_ret ?_))
          have q1 := Option.some.inj H1
          subst q1
          have q0 := Option.some.inj H0
          subst q0
          exact kw_ret Tryz.results191 (.cons (.tmp rfl) (.cons (.tmp rfl) .nil)) [] [] trivial (by decide) ⟨rfl, rfl⟩
        · have H1 := cond_f H1 h7
          obtain ⟨x8, e8, H1⟩ := bind_some H1
          exact cw_skip (kw_bl_normal (kw_nx (cw_region (oD (mv rfl) rfl (oD (stp_add rfl rfl e8) rfl (oD (sg rfl) rfl (ow_nil (kw_lqS (js := [0]) (fuel, x8) H1 (Nat.lt_succ_self _) ⟨rfl, rfl, rfl, trivial⟩ ⟨0, [], rfl, rfl, trivial⟩ (by decide)))))))))
      · have H1 := cond_f H1 h5
        refine cw_exit (kw_nx_exit (kw_lq_exit (kw_bl ?_)))
        have q1 := Option.some.inj H1
        subst q1
        exact kw_joinS (js := [0]) v2 rfl ⟨rfl, rfl, rfl, trivial⟩ ⟨0, [], rfl, rfl, trivial⟩ (by decide)
  · rintro v2 rfl
    refine KW.sub (s' := [(1, .int .i64 a1), (2, .pointer (some ⟨b1, 0, none⟩)), (6, .int .i64 v2)]) (h' := [(0, [(b1, .cells #[.int .i64 a0.c, .int .i64 a0.n, .int .i64 a0.r, .slice p0_0 ((a0.o).length) c0_0] 45 (0, 0))])]) ?_ ⟨rfl, rfl, rfl, trivial⟩ ⟨rfl, trivial⟩
    refine kw_nx (sr (oD (sg rfl) rfl (oD (sg rfl) rfl (nn (cw_ret ?_)))))
    have q0 := Option.some.inj H0
    subst q0
    exact kw_ret Tryz.results191 (.cons (.tmp rfl) (.cons (.tmp rfl) .nil)) [] [] trivial (by decide) ⟨rfl, rfl⟩

set_option maxHeartbeats 4000000 in
set_option maxRecDepth 20000 in
theorem c_s_KeyFor (fl : Nat) (w : World) (a0 : Int) (a1 : Int) (r : K) (H0 : s_KeyFor fl a0 a1 = some r) :
    Ct Tryz.prog 87 [.int .i64 a0, .int .i64 a1] w [] (fun rv h' => rv = .agg #[.int .i64 r.s, .int .i64 r.p] ∧ h' = []) := by
  unfold s_KeyFor at H0
  refine ct_of_cw Tryz.func87 rfl Tryz.ntmps87 rfl (Sat.refl _ _) ?_
  refine sr (oE (stpU_alloc 0 tz51 rfl) rfl ?_)
  rintro _ _ ⟨b1, rfl, rfl⟩
  refine nn (cw_seq (sr (oD (mv rfl) rfl (oD (stp_geq rfl rfl) rfl (nn (cw_cond rfl (fun h2 => ?_) (fun h2 => ?_)))))))
  · have H0 := cond_t H0 h2
    refine sr (oD (mv rfl) rfl (oD (stp_build (cs := #[.int .i64 0, .int .i64 a1]) (sevp_cons rfl sevp_nil) bt51_1) rfl (oF (stpU_store (id := 0) (cs' := [.int .i64 0, .int .i64 a1]) ts51 rfl rfl rfl rfl rfl rfl rfl) ?_)))
    rintro _ _ rfl
    refine nn (cw_ret (kw_nx_ret ?_))
    have q0 := Option.some.inj H0
    subst q0
    exact kw_ret Tryz.results87 (.cons (.cellN (us := [_, _]) ts51 rfl (Cells.box (id := 0) rfl 2 rfl)) .nil) [] [] trivial (by decide) ⟨rfl, rfl⟩
  · have H0 := cond_f H0 h2
    refine cw_skip (kw_nx (sr (oD (mv rfl) rfl (oD (mv rfl) rfl (oD (stp_build (cs := #[.int .i64 a0, .int .i64 a1]) (sevp_cons rfl (sevp_cons rfl sevp_nil)) bt51_2) rfl (oF (stpU_store (id := 0) (cs' := [.int .i64 a0, .int .i64 a1]) ts51 rfl rfl rfl rfl rfl rfl rfl) ?_))))))
    rintro _ _ rfl
    refine nn (cw_ret ?_)
    have q0 := Option.some.inj H0
    subst q0
    exact kw_ret Tryz.results87 (.cons (.cellN (us := [_, _]) ts51 rfl (Cells.box (id := 0) rfl 2 rfl)) .nil) [] [] trivial (by decide) ⟨rfl, rfl⟩

set_option maxHeartbeats 4000000 in
set_option maxRecDepth 20000 in
theorem c_s_l2Hash (fl : Nat) (w : World) (a0 : K) (a1 : Int) (r : Int) (H0 : s_l2Hash fl a0 a1 = some r) :
    Ct Tryz.prog 169 [.agg #[.int .i64 a0.s, .int .i64 a0.p], .int .i64 a1] w [] (fun rv h' => rv = .int .i64 r ∧ h' = []) := by
  unfold s_l2Hash at H0
  refine ct_of_cw Tryz.func169 rfl Tryz.ntmps169 rfl (Sat.refl _ _) ?_
  refine sr (oE (stpU_box 0 rfl rfl) rfl ?_)
  rintro _ _ ⟨b1, rfl, rfl⟩
  obtain ⟨x2, e2, H0⟩ := bind_some H0
  obtain ⟨x3, e3, H0⟩ := bind_some H0
  obtain ⟨x4, e4, H0⟩ := bind_some H0
  refine oD (sg rfl) rfl (nn (sr (oD (fA 0 Tryz.underlying51 rfl ts3 rfl rfl rfl) rfl (oD (lB 0 ts3 rfl rfl rfl) rfl (oD (stp_mul rfl rfl e2) rfl (oD (fA 1 Tryz.underlying51 rfl ts3 rfl rfl rfl) rfl (oD (lB 0 ts3 rfl rfl rfl) rfl (oD (stp_add rfl rfl e3) rfl (oD (sg rfl) rfl (nn (sr (oD (mv rfl) rfl (oD (stp_mul rfl rfl e4) rfl ?_)))))))))))))
  obtain ⟨x5, e5, H0⟩ := bind_some H0
  obtain ⟨x6, e6, H0⟩ := bind_some H0
  obtain ⟨x7, e7, H0⟩ := bind_some H0
  refine oD (stp_rem rfl rfl e5) rfl (oD (mv rfl) rfl (oD (stp_mul rfl rfl e6) rfl (oD (stp_quo rfl rfl e7) rfl (oD (sg rfl) rfl (nn (cw_ret ?_))))))
  have q0 := Option.some.inj H0
  subst q0
  exact kw_ret Tryz.results169 (.cons (.tmp rfl) .nil) [] [] trivial (by decide) ⟨rfl, rfl⟩

set_option maxHeartbeats 4000000 in
set_option maxRecDepth 20000 in
theorem c_s_l3Chain (fl : Nat) (w : World) (a0 : T) (p0_0 : Option Addr) (n0_0 c0_0 : Nat) (p0_1 : Option Addr) (n0_1 c0_1 : Nat) (a1 : Int) (hn0_0 : n0_0 = (a0.b).length) (hr0_0 : RO w (hkeys []) (RdL p0_0 c0_0 a0.b)) (hn0_1 : n0_1 = (a0.f).length) (hr0_1 : RO w (hkeys []) (RdL p0_1 c0_1 a0.f)) (r : (List Int) × Bool) (H0 : s_l3Chain fl a0 a1 = some r) :
    Ct Tryz.prog 168 [.agg #[.slice p0_0 n0_0 c0_0, .slice p0_1 n0_1 c0_1], .int .i64 a1] w [] (fun rv h' => ∃ (x0 : Option Addr) (y0 z0 : Nat) (C0 : Res), rv = .tuple #[.slice x0 y0 z0, .bool r.2] ∧ h' = [(0, C0)] ∧ y0 = (r.1).length ∧ OwnC 3 x0 z0 r.1 C0) := by
  obtain rfl := hn0_0
  obtain rfl := hn0_1
  unfold s_l3Chain at H0
  refine ct_of_cw Tryz.func168 rfl Tryz.ntmps168 rfl (Sat.refl _ _) ?_
  refine sr (oE (stpU_box 0 rfl rfl) rfl ?_)
  rintro _ _ ⟨b1, rfl, rfl⟩
  refine oD (sg rfl) rfl (oD (sg rfl) rfl (nn (sr (oE (stpU_lit0 sl22 1) rfl ?_))))
  rintro _ _ ⟨p2, C3, rfl, rfl, o3⟩
  obtain ⟨x4, e4, H0⟩ := bind_some H0
  obtain ⟨o0_0, eo0_0, H0⟩ := bind_some H0
  refine oD (sg rfl) rfl (nn (sr (oD (fA 0 Tryz.underlying39 rfl ts22 rfl rfl rfl) rfl (oD (lB 0 ts22 rfl rfl rfl) rfl (oD (mv rfl) rfl (oD (stp_indexAddr Tryz.underlying22 ts3 (by decide) rfl rfl rfl (Rdb.ro hr0_0) e4) rfl (oD (stp_load1 ts3 rfl (Cells.el (Rdb.ro hr0_0) (by decide) e4 0 1 rfl)) rfl (oD (sg rfl) rfl (nn (cw_seq (cw_join (ι := (List Int) × Int × Option Addr × Nat × Nat × Res) (fun | (v5, v10, p6, n7, c8, C9) => o0_0 = .out (v5, v10) ∧ n7 = (v5).length ∧ OwnC (α := Int) 3 p6 c8 v5 C9) (fun | (v5, v10, p6, n7, c8, C9) => [(2, .pointer (some ⟨b1, 0, none⟩)), (6, .slice p6 n7 c8), (7, .int .i64 v10)]) (fun | (v5, v10, p6, n7, c8, C9) => [(0, [(b1, .cells #[.slice p0_0 ((a0.b).length) c0_0, .slice p0_1 ((a0.f).length) c0_1] 39 (0, 0))]), (1, C9)]) ?_ ?_)))))))))))
  · refine cw_block (cw_loopS (ι := Nat × (List Int) × Int × Option Addr × Nat × Nat × Res) (js := [0, 1]) (fun x => x.1) (fun | (fuel, v5, v10, p6, n7, c8, C9) => s_l3Chain_L0 fl a0 fuel v5 v10 = some o0_0 ∧ n7 = (v5).length ∧ OwnC (α := Int) 3 p6 c8 v5 C9) (fun | (_, v5, v10, p6, n7, c8, C9) => [(2, .pointer (some ⟨b1, 0, none⟩)), (6, .slice p6 n7 c8), (7, .int .i64 v10)]) (fun | (_, v5, v10, p6, n7, c8, C9) => [(0, [(b1, .cells #[.slice p0_0 ((a0.b).length) c0_0, .slice p0_1 ((a0.f).length) c0_1] 39 (0, 0))]), (1, C9)]) (fl, ([] : List Int), x4, p2, 0, 0, C3) ⟨eo0_0, (by simp), o3⟩ ⟨rfl, rfl, rfl, trivial⟩ ⟨0, [1], rfl, rfl, 1, [], rfl, rfl, trivial⟩ (by decide) ?_)
    rintro ⟨fuel, v5, v10, p6, n7, c8, C9⟩ ⟨H1, hnn7, o9⟩
    obtain rfl := hnn7
    have H1 : s_l3Chain_L0 fl a0 fuel v5 v10 = some o0_0 := H1
    rcases fuel with _ | fuel
    · rw [s_l3Chain_L0.eq_1] at H1; cases H1
    rw [s_l3Chain_L0.eq_2] at H1
    refine CW.sub (s' := [(2, .pointer (some ⟨b1, 0, none⟩)), (6, .slice p6 ((v5).length) c8), (7, .int .i64 v10)]) (h' := [(0, [(b1, .cells #[.slice p0_0 ((a0.b).length) c0_0, .slice p0_1 ((a0.f).length) c0_1] 39 (0, 0))]), (1, C9)]) ?_ ⟨rfl, rfl, rfl, trivial⟩ ⟨rfl, rfl, trivial⟩
    refine cw_seq (sr (oD (mv rfl) rfl (oD (stp_neq rfl rfl) rfl (nn (cw_cond rfl (fun h11 => ?_) (fun h11 => ?_))))))
    · have H1 := cond_t H1 h11
      obtain ⟨y12, ey12, H1⟩ := bind_some H1
      refine cw_skip (kw_nx (cw_block (cw_seq (sr (oD (mv rfl) rfl (oD (stp_lss rfl rfl) rfl (oD (mv rfl) rfl (ow_cutY 6 24 y12 ?_ ?_))))))))
      · rcases Bool.eq_false_or_eq_true (decide (v10 < 0)) with hy12 | hy12
        · have ey12 := cond_t ey12 hy12
          refine oO rfl hy12 rfl (oO rfl hy12 rfl (oO rfl hy12 rfl (oO rfl hy12 rfl (oO rfl hy12 rfl (oD (stp_pick_t rfl hy12 rfl) rfl ?_)))))
          obtain rfl := Option.some.inj ey12
          exact ow_nil (jy 6 0)
        · have ey12 := cond_f ey12 hy12
          refine oG rfl hy12 (mv rfl) rfl (oG rfl hy12 (fA 1 Tryz.underlying39 rfl ts37 rfl rfl rfl) rfl (oG rfl hy12 (lB 0 ts37 rfl rfl rfl) rfl (oG rfl hy12 (stp_len Tryz.underlying37 rfl) rfl (oG rfl hy12 (stp_geq rfl rfl) rfl (oD (stp_pick_f rfl hy12 rfl) rfl ?_)))))
          obtain rfl := Option.some.inj ey12
          exact ow_nil (jy 6 0)
      · obtain ⟨y13, ey13, H1⟩ := bind_some H1
        refine oD (mv rfl) rfl (ow_cutY 7 32 y13 ?_ ?_)
        · rcases Bool.eq_false_or_eq_true y12 with hy13 | hy13
          · have ey13 := cond_t ey13 hy13
            refine oO rfl hy13 rfl (oO rfl hy13 rfl (oO rfl hy13 rfl (oO rfl hy13 rfl (oO rfl hy13 rfl (oO rfl hy13 rfl (oD (stp_pick_t rfl hy13 rfl) rfl ?_))))))
            obtain rfl := Option.some.inj ey13
            exact ow_nil (jy 7 0)
          · have ey13 := cond_f ey13 hy13
            refine oG rfl hy13 (mv rfl) rfl (oG rfl hy13 (stp_len Tryz.underlying22 rfl) rfl (oG rfl hy13 (fA 1 Tryz.underlying39 rfl ts37 rfl rfl rfl) rfl (oG rfl hy13 (lB 0 ts37 rfl rfl rfl) rfl (oG rfl hy13 (stp_len Tryz.underlying37 rfl) rfl (oG rfl hy13 (stp_geq rfl rfl) rfl (oD (stp_pick_f rfl hy13 rfl) rfl ?_))))))
            obtain rfl := Option.some.inj ey13
            exact ow_nil (jy 7 0)
        · obtain ⟨y14, ey14, H1⟩ := bind_some H1
          refine oD (mv rfl) rfl (ow_cutY 8 41 y14 ?_ ?_)
          · rcases Bool.eq_false_or_eq_true y13 with hy14 | hy14
            · have ey14 := cond_t ey14 hy14
              refine oO rfl hy14 rfl (oO rfl hy14 rfl (oO rfl hy14 rfl (oO rfl hy14 rfl (oO rfl hy14 rfl (oO rfl hy14 rfl (oO rfl hy14 rfl (oD (stp_pick_t rfl hy14 rfl) rfl ?_)))))))
              obtain rfl := Option.some.inj ey14
              exact ow_nil (jy 8 0)
            · have ey14 := cond_f ey14 hy14
              obtain ⟨x15, e15, ey14⟩ := bind_some ey14
              refine oG rfl hy14 (fA 1 Tryz.underlying39 rfl ts37 rfl rfl rfl) rfl (oG rfl hy14 (lB 0 ts37 rfl rfl rfl) rfl (oG rfl hy14 (mv rfl) rfl (oG rfl hy14 (stp_indexAddr Tryz.underlying37 ts127 (by decide) rfl rfl rfl (Rdb.ro hr0_1) e15) rfl (oG rfl hy14 (fA 0 Tryz.underlying127 rfl ts4 rfl rfl rfl) rfl (oG rfl hy14 (stp_load1 ts4 rfl (Cells.el (Rdb.ro hr0_1) (by decide) e15 0 1 rfl)) rfl (oG rfl hy14 (stp_not rfl) rfl (oD (stp_pick_f rfl hy14 rfl) rfl ?_)))))))
              obtain rfl := Option.some.inj ey14
              exact ow_nil (jy 8 0)
          · refine ow_nil (kw_nx (cw_cond rfl (fun h16 => ?_) (fun h16 => ?_)))
            · have H1 := cond_t H1 h16
              refine sr (oD (mv rfl) rfl (oD (sg rfl) rfl (oD (sg rfl) rfl (nn (cw_ret (kw_nx_ret (kw_bl_ret (kw_lq_ret (kw_bl_ret (kw_join_ret (kw_nx_ret ?_)))))))))))
              have q1 := Option.some.inj H1
              subst q1
              have q0 := Option.some.inj H0
              subst q0
              exact kw_ret Tryz.results168 (.cons (.tmp rfl) (.cons (.tmp rfl) .nil)) [(0, C9)] [1] ⟨1, [], rfl, rfl, trivial⟩ (by decide) ⟨p6, ((v5).length), c8, C9, rfl, rfl, rfl, o9⟩
            · have H1 := cond_f H1 h16
              refine cw_skip (kw_nx (sr (oD (mv rfl) rfl (oD (mv rfl) rfl (oE (stpU_lit (sz := 1) (l := [v10]) [.int .i64 v10] sl22 2 (sevp_cons rfl sevp_nil) rfl rfl rfl rfl rfl rfl rfl rfl rfl) rfl ?_)))))
              rintro _ _ ⟨p17, C18, rfl, rfl, o18⟩
              obtain ⟨x19, e19, H1⟩ := bind_some H1
              refine oE (stpU_append sl22 rfl (id := 1) rfl rfl rfl (by simp) rfl o9 (Rdb.own (id := 2) rfl o18) e19) rfl ?_
              rintro _ _ ⟨p20, c21, C22, rfl, rfl, o22⟩
              obtain ⟨x23, e23, H1⟩ := bind_some H1
              exact oD (sg rfl) rfl (nn (cw_region (oD (fA 1 Tryz.underlying39 rfl ts37 rfl rfl rfl) rfl (oD (lB 0 ts37 rfl rfl rfl) rfl (oD (mv rfl) rfl (oD (stp_indexAddr Tryz.underlying37 ts127 (by decide) rfl rfl rfl (Rdb.ro hr0_1) e23) rfl (oD (fA 4 Tryz.underlying127 rfl ts3 rfl rfl rfl) rfl (oD (stp_load1 ts3 rfl (Cells.el (Rdb.ro hr0_1) (by decide) e23 4 1 rfl)) rfl (oD (sg rfl) rfl (ow_nil (kw_bl_normal (kw_lqS (js := [0, 1]) (fuel, x19, x23.nx, p20, ((x19).length), c21, C22) ⟨H1, rfl, o22⟩ (Nat.lt_succ_self _) ⟨rfl, rfl, rfl, trivial⟩ ⟨0, [1], rfl, rfl, 1, [], rfl, rfl, trivial⟩ (by decide)))))))))))))
    · have H1 := cond_f H1 h11
      refine cw_exit (kw_nx_exit (kw_lq_exit (kw_bl ?_)))
      have q1 := Option.some.inj H1
      subst q1
      exact kw_joinS (js := [0, 1]) (v5, v10, p6, ((v5).length), c8, C9) ⟨rfl, rfl, o9⟩ ⟨rfl, rfl, rfl, trivial⟩ ⟨0, [1], rfl, rfl, 1, [], rfl, rfl, trivial⟩ (by decide)
  · rintro ⟨v5, v10, p6, n7, c8, C9⟩ ⟨rfl, hnn7, o9⟩
    obtain rfl := hnn7
    refine KW.sub (s' := [(2, .pointer (some ⟨b1, 0, none⟩)), (6, .slice p6 ((v5).length) c8), (7, .int .i64 v10)]) (h' := [(0, [(b1, .cells #[.slice p0_0 ((a0.b).length) c0_0, .slice p0_1 ((a0.f).length) c0_1] 39 (0, 0))]), (1, C9)]) ?_ ⟨rfl, rfl, rfl, trivial⟩ ⟨rfl, rfl, trivial⟩
    refine kw_nx (sr (oD (mv rfl) rfl (oD (sg rfl) rfl (oD (sg rfl) rfl (nn (cw_ret ?_))))))
    have q0 := Option.some.inj H0
    subst q0
    exact kw_ret Tryz.results168 (.cons (.tmp rfl) (.cons (.tmp rfl) .nil)) [(0, C9)] [1] ⟨1, [], rfl, rfl, trivial⟩ (by decide) ⟨p6, ((v5).length), c8, C9, rfl, rfl, rfl, o9⟩

set_option maxHeartbeats 4000000 in
set_option maxRecDepth 20000 in
theorem c_s_l3Find (fl : Nat) (w : World) (a0 : T) (p0_0 : Option Addr) (n0_0 c0_0 : Nat) (p0_1 : Option Addr) (n0_1 c0_1 : Nat) (a1 : K) (hn0_0 : n0_0 = (a0.b).length) (hr0_0 : RO w (hkeys []) (RdL p0_0 c0_0 a0.b)) (hn0_1 : n0_1 = (a0.f).length) (hr0_1 : RO w (hkeys []) (RdL p0_1 c0_1 a0.f)) (r : Int × Int) (H0 : s_l3Find fl a0 a1 = some r) :
    Ct Tryz.prog 86 [.agg #[.slice p0_0 n0_0 c0_0, .slice p0_1 n0_1 c0_1], .agg #[.int .i64 a1.s, .int .i64 a1.p]] w [] (fun rv h' => rv = .tuple #[.int .i64 r.1, .int .i64 r.2] ∧ h' = []) := by
  obtain rfl := hn0_0
  obtain rfl := hn0_1
  unfold s_l3Find at H0
  refine ct_of_cw Tryz.func86 rfl Tryz.ntmps86 rfl (Sat.refl _ _) ?_
  refine sr (oE (stpU_box 0 rfl rfl) rfl ?_)
  rintro _ _ ⟨b1, rfl, rfl⟩
  refine oE (stpU_box 1 rfl rfl) rfl ?_
  rintro _ _ ⟨b2, rfl, rfl⟩
  obtain ⟨x3, e3, H0⟩ := bind_some H0
  obtain ⟨x4, e4, H0⟩ := bind_some H0
  refine oD (sg rfl) rfl (oD (sg rfl) rfl (nn (cw_seq (rdr g_mixed [2, 3] [0, 1] { dst := dS [11, 12, 13, 14, 15, 16, 17, 10, 18, 19, 7, 8], pre := gA [] [[], [], [], [2], [2, 3], rn 1 4, rn 0 6, rn 0 7, rn 0 8, rn 0 8, rn 0 9, rn 0 11], ids := gA [] [[], [], [], [], [], [], [2]], rs := rL [[(2, 0)], [(3, 0)], [(2, 0)], [(12, 3)], [(13, 4)], [(11, 2), (14, 5)], [(10, 1), (15, 6)], [(16, 7)], [(9, 8)], [(9, 8)], [(17, 9)], [(18, 10)]], rh := rL [[(0, 0)], [(1, 0)], [], [(0, 0)]], V := fun i g => gA undef [.agg #[.slice p0_0 ((a0.b).length) c0_0, .slice p0_1 ((a0.f).length) c0_1], .agg #[.int .i64 a1.s, .int .i64 a1.p], .pointer (some ⟨b1, 0, none⟩), .slice p0_0 ((a0.b).length) c0_0, .int .i64 ((a0.b).length : Int), .int .i64 x3, .tuple #[.slice ((g 6).A 0) ((x4.1).length) ((g 6).C 0), .bool x4.2], .tuple #[.slice ((g 6).A 0) ((x4.1).length) ((g 6).C 0), .bool x4.2], .slice ((g 6).A 0) ((x4.1).length) ((g 6).C 0), .bool x4.2, .slice ((g 6).A 0) ((x4.1).length) ((g 6).C 0), .bool x4.2] i, U := fun i g => match i with | 6 => [(2, ((g 6).R 0))] | _ => [], Φ := fun i x => match i with | 6 => OwnC (α := Int) 3 (x.A 0) (x.C 0) x4.1 (x.R 0) | _ => True } ?_ ?_))))
  · refine ⟨⟨⟨⟨⟨⟨⟨⟨⟨⟨⟨⟨trivial, lc rfl rfl fun hs hh => stp_loadN (us := [_, _]) ts39 (sv hs 2 rfl) (Cells.box (id := 0) (hh.get 0 _ rfl) 2 rfl)⟩, lc rfl rfl fun hs hh => stp_loadN (us := [_, _]) ts51 (sv hs 3 rfl) (Cells.box (id := 1) (hh.get 1 _ rfl) 2 rfl)⟩, lc rfl rfl fun hs hh => stp_fieldAddr (j := 0) Tryz.underlying39 rfl ts22 rfl (sv hs 2 rfl) rfl⟩, lc rfl rfl fun hs hh => stp_load1 ts22 (sv hs 12 rfl) (Cells.box (id := 0) (hh.get 0 _ rfl) 1 rfl)⟩, lc rfl rfl fun hs hh => stp_len Tryz.underlying22 (sv hs 13 rfl)⟩, ?_⟩, ?_⟩, lc rfl rfl fun hs hh => stp_move (sv hs 16 rfl)⟩, lc rfl rfl fun hs hh => stp_extract (sv hs 9 rfl) rfl⟩, lc rfl rfl fun hs hh => stp_extract (sv hs 9 rfl) rfl⟩, lc rfl rfl fun hs hh => stp_assign (sv hs 17 rfl)⟩, lc rfl rfl fun hs hh => stp_assign (sv hs 18 rfl)⟩
    · refine le rfl rfl (fun g hΦ s h hs hh => (stpU_call (fun i => 2 + i) cf169 (fun w hw => c_s_l2Hash fl w a1 ((a0.b).length : Int) x3 e3) (sevs_cons (sv hs 11 rfl) (sevs_cons (sv hs 14 rfl) sevs_nil)))) ?_
      rintro g _ _ ⟨_, ⟨rfl, rfl⟩, rfl⟩
      exact ⟨⟨[], [], []⟩, trivial, .inr rfl, rfl⟩
    · refine le rfl rfl (fun g hΦ s h hs hh => (stpU_call (fun i => 2 + i) cf168 (fun w hw => c_s_l3Chain fl w a0 p0_0 ((a0.b).length) c0_0 p0_1 ((a0.f).length) c0_1 x3 rfl (RO.pass hr0_0 hw) rfl (RO.pass hr0_1 hw) x4 e4) (sevs_cons (sv hs 10 rfl) (sevs_cons (sv hs 15 rfl) sevs_nil)))) ?_
      rintro g _ _ ⟨_, ⟨p5, n6, c7, C8, rfl, rfl, hnn6, o8⟩, rfl⟩
      obtain rfl := hnn6
      exact ⟨⟨[p5], [c7], [C8]⟩, o8, .inr rfl, rfl⟩
  · intro g hΦ
    refine kw_gen (ι := Option Addr × Nat × Res) (((g 6).A 0), ((g 6).C 0), ((g 6).R 0)) (fun | (p5, c7, C8) => OwnC (α := Int) 3 p5 c7 x4.1 C8) (fun | (p5, c7, C8) => [(2, .pointer (some ⟨b1, 0, none⟩)), (3, .pointer (some ⟨b2, 0, none⟩)), (6, .slice p5 ((x4.1).length) c7)]) (fun | (p5, c7, C8) => [(0, [(b1, .cells #[.slice p0_0 ((a0.b).length) c0_0, .slice p0_1 ((a0.f).length) c0_1] 39 (0, 0))]), (1, [(b2, .cells #[.int .i64 a1.s, .int .i64 a1.p] 51 (0, 0))]), (2, C8)]) (hΦ 6 (by decide)) ⟨rfl, rfl, rfl, trivial⟩ ⟨rfl, rfl, rfl, trivial⟩ ?_
    rintro ⟨p5, c7, C8⟩ o8
    have o8 : OwnC (α := Int) 3 p5 c7 x4.1 C8 := o8
    refine KW.sub (s' := [(2, .pointer (some ⟨b1, 0, none⟩)), (3, .pointer (some ⟨b2, 0, none⟩)), (6, .slice p5 ((x4.1).length) c7)]) (h' := [(0, [(b1, .cells #[.slice p0_0 ((a0.b).length) c0_0, .slice p0_1 ((a0.f).length) c0_1] 39 (0, 0))]), (1, [(b2, .cells #[.int .i64 a1.s, .int .i64 a1.p] 51 (0, 0))]), (2, C8)]) ?_ ⟨rfl, rfl, rfl, trivial⟩ ⟨rfl, rfl, rfl, trivial⟩
    obtain ⟨o0_0, eo0_0, H0⟩ := bind_some H0
    refine kw_nx (cw_seq (sr (oD (sg rfl) rfl (nn (cw_join (ι := Int) (fun | v9 => o0_0 = .out v9) (fun | v9 => [(2, .pointer (some ⟨b1, 0, none⟩)), (3, .pointer (some ⟨b2, 0, none⟩)), (6, .slice p5 ((x4.1).length) c7), (8, .int .i64 v9)]) (fun | v9 => [(0, [(b1, .cells #[.slice p0_0 ((a0.b).length) c0_0, .slice p0_1 ((a0.f).length) c0_1] 39 (0, 0))]), (1, [(b2, .cells #[.int .i64 a1.s, .int .i64 a1.p] 51 (0, 0))]), (2, C8)]) ?_ ?_)))))
    · refine cw_block (cw_loopS (ι := Nat × Int) (js := [0, 1, 2]) (fun x => x.1) (fun | (fuel, v9) => s_l3Find_L0 fl a0 a1 x4 fuel v9 = some o0_0) (fun | (_, v9) => [(2, .pointer (some ⟨b1, 0, none⟩)), (3, .pointer (some ⟨b2, 0, none⟩)), (6, .slice p5 ((x4.1).length) c7), (8, .int .i64 v9)]) (fun | (_, v9) => [(0, [(b1, .cells #[.slice p0_0 ((a0.b).length) c0_0, .slice p0_1 ((a0.f).length) c0_1] 39 (0, 0))]), (1, [(b2, .cells #[.int .i64 a1.s, .int .i64 a1.p] 51 (0, 0))]), (2, C8)]) (fl, 0) eo0_0 ⟨rfl, rfl, rfl, rfl, trivial⟩ ⟨0, [1, 2], rfl, rfl, 1, [2], rfl, rfl, 2, [], rfl, rfl, trivial⟩ (by decide) ?_)
      rintro ⟨fuel, v9⟩ H1
      have H1 : s_l3Find_L0 fl a0 a1 x4 fuel v9 = some o0_0 := H1
      rcases fuel with _ | fuel
      · rw [s_l3Find_L0.eq_1] at H1; cases H1
      rw [s_l3Find_L0.eq_2] at H1
      refine CW.sub (s' := [(2, .pointer (some ⟨b1, 0, none⟩)), (3, .pointer (some ⟨b2, 0, none⟩)), (6, .slice p5 ((x4.1).length) c7), (8, .int .i64 v9)]) (h' := [(0, [(b1, .cells #[.slice p0_0 ((a0.b).length) c0_0, .slice p0_1 ((a0.f).length) c0_1] 39 (0, 0))]), (1, [(b2, .cells #[.int .i64 a1.s, .int .i64 a1.p] 51 (0, 0))]), (2, C8)]) ?_ ⟨rfl, rfl, rfl, rfl, trivial⟩ ⟨rfl, rfl, rfl, trivial⟩
      refine cw_seq (sr (oD (mv rfl) rfl (oD (mv rfl) rfl (oD (stp_len Tryz.underlying22 rfl) rfl (oD (stp_lss rfl rfl) rfl (nn (cw_cond rfl (fun h10 => ?_) (fun h10 => ?_))))))))
      · have H1 := cond_t H1 h10
        obtain ⟨x11, e11, H1⟩ := bind_some H1
        obtain ⟨x12, e12, H1⟩ := bind_some H1
        refine cw_skip (kw_nx (cw_seq (cw_block (cw_seq (rdr g_mixed [2, 3, 6, 8] [0, 1, 2] { dst := dS [26, 27, 28, 29, 30, 31, 32, 33, 34, 35, 36], pre := gA [] [[], [0], [], [], [2, 3], [2, 3, 4], rn 0 6, rn 0 7, rn 0 8, [], rn 0 10], ids := fun _ => [], rs := rL [[(2, 0)], [(25, 1)], [(6, 0)], [(8, 0)], [(27, 3), (28, 4)], [(29, 5)], [(26, 2), (30, 6)], [(31, 7)], [(32, 8)], [(3, 0)], [(33, 9), (34, 10)]], rh := rL [[], [(0, 0)], [], [], [(2, 0)], [(2, 0)], [], [], [], [(1, 0)]], V := fun i g => gA undef [.pointer (some ⟨b1, 1, none⟩), .slice p0_1 ((a0.f).length) c0_1, .slice p5 ((x4.1).length) c7, .int .i64 v9, .pointer (some ⟨eB p5, eO p5 + Int.toNat v9 * Enc.sz Int + 0, none⟩), .int .i64 x11, .pointer (some ⟨eB p0_1, eO p0_1 + Int.toNat x11 * Enc.sz F + 0, none⟩), .pointer (some ⟨eB p0_1, eO p0_1 + Int.toNat x11 * Enc.sz F + 1, none⟩), .agg #[.int .i64 x12.k.s, .int .i64 x12.k.p], .agg #[.int .i64 a1.s, .int .i64 a1.p], .bool (x12.k == a1)] i, U := fun _ _ => [], Φ := fun _ _ => True } ?_ ?_)))))
        · exact ⟨⟨⟨⟨⟨⟨⟨⟨⟨⟨⟨trivial, lc rfl rfl fun hs hh => stp_fieldAddr (j := 1) Tryz.underlying39 rfl ts37 rfl (sv hs 2 rfl) rfl⟩, lc rfl rfl fun hs hh => stp_load1 ts37 (sv hs 25 rfl) (Cells.box (id := 0) (hh.get 0 _ rfl) 1 rfl)⟩, lc rfl rfl fun hs hh => stp_move (sv hs 6 rfl)⟩, lc rfl rfl fun hs hh => stp_move (sv hs 8 rfl)⟩, lc rfl rfl fun hs hh => stp_indexAddr Tryz.underlying22 ts3 (by decide) (sv hs 27 rfl) rfl (sv hs 28 rfl) (Rdb.own (id := 2) (hh.get 2 _ rfl) o8) e11⟩, lc rfl rfl fun hs hh => stp_load1 ts3 (sv hs 29 rfl) (Cells.el (Rdb.own (id := 2) (hh.get 2 _ rfl) o8) (by decide) e11 0 1 rfl)⟩, lc rfl rfl fun hs hh => stp_indexAddr Tryz.underlying37 ts127 (by decide) (sv hs 26 rfl) rfl (sv hs 30 rfl) (Rdb.ro hr0_1) e12⟩, lc rfl rfl fun hs hh => stp_fieldAddr (j := 1) Tryz.underlying127 rfl ts51 rfl (sv hs 31 rfl) rfl⟩, lc rfl rfl fun hs hh => stp_loadN (us := [_, _]) ts51 (sv hs 32 rfl) (Cells.el (Rdb.ro hr0_1) (by decide) e12 1 2 rfl)⟩, lc rfl rfl fun hs hh => stp_loadN (us := [_, _]) ts51 (sv hs 3 rfl) (Cells.box (id := 1) (hh.get 1 _ rfl) 2 rfl)⟩, lc rfl rfl fun hs hh => stp_eqlS te51 x12.k a1 (sv hs 33 rfl) (sv hs 34 rfl)⟩
        · intro g hΦ
          refine KW.sub (s' := [(2, .pointer (some ⟨b1, 0, none⟩)), (3, .pointer (some ⟨b2, 0, none⟩)), (6, .slice p5 ((x4.1).length) c7), (8, .int .i64 v9), (35, .bool (x12.k == a1))]) (h' := [(0, [(b1, .cells #[.slice p0_0 ((a0.b).length) c0_0, .slice p0_1 ((a0.f).length) c0_1] 39 (0, 0))]), (1, [(b2, .cells #[.int .i64 a1.s, .int .i64 a1.p] 51 (0, 0))]), (2, C8)]) ?_ ⟨rfl, rfl, rfl, rfl, rfl, trivial⟩ ⟨rfl, rfl, rfl, trivial⟩
          refine kw_nx (cw_cond rfl (fun h13 => ?_) (fun h13 => ?_))
          · have H1 := cond_t H1 h13
            obtain ⟨x14, e14, H1⟩ := bind_some H1
            refine sr (oD (mv rfl) rfl (oD (mv rfl) rfl (oD (stp_indexAddr Tryz.underlying22 ts3 (by decide) rfl rfl rfl (Rdb.own (id := 2) rfl o8) e11) rfl (oD (stp_load1 ts3 rfl (Cells.el (Rdb.own (id := 2) rfl o8) (by decide) e11 0 1 rfl)) rfl (oD (mv rfl) rfl (oD (stp_add rfl rfl e14) rfl (oD (sg rfl) rfl (oD (sg rfl) rfl (nn (cw_ret (kw_bl_ret (kw_nx_ret (kw_lq_ret ?_)))))))))))))
            refine kw_bl_ret (kw_join_ret (kw_nx_ret ?_))
            have q1 := Option.some.inj H1
            subst q1
            have q0 := Option.some.inj H0
            subst q0
            exact kw_ret Tryz.results86 (.cons (.tmp rfl) (.cons (.tmp rfl) .nil)) [] [] trivial (by decide) ⟨rfl, rfl⟩
          · have H1 := cond_f H1 h13
            obtain ⟨x15, e15, H1⟩ := bind_some H1
            exact cw_skip (kw_bl_normal (kw_nx (cw_region (oD (mv rfl) rfl (oD (stp_add rfl rfl e15) rfl (oD (sg rfl) rfl (ow_nil (kw_lqS (js := [0, 1, 2]) (fuel, x15) H1 (Nat.lt_succ_self _) ⟨rfl, rfl, rfl, rfl, trivial⟩ ⟨0, [1, 2], rfl, rfl, 1, [2], rfl, rfl, 2, [], rfl, rfl, trivial⟩ (by decide)))))))))
      · have H1 := cond_f H1 h10
        refine cw_exit (kw_nx_exit (kw_lq_exit (kw_bl ?_)))
        have q1 := Option.some.inj H1
        subst q1
        exact kw_joinS (js := [0, 1, 2]) v9 rfl ⟨rfl, rfl, rfl, rfl, trivial⟩ ⟨0, [1, 2], rfl, rfl, 1, [2], rfl, rfl, 2, [], rfl, rfl, trivial⟩ (by decide)
    · rintro v9 rfl
      refine KW.sub (s' := [(2, .pointer (some ⟨b1, 0, none⟩)), (3, .pointer (some ⟨b2, 0, none⟩)), (6, .slice p5 ((x4.1).length) c7), (8, .int .i64 v9)]) (h' := [(0, [(b1, .cells #[.slice p0_0 ((a0.b).length) c0_0, .slice p0_1 ((a0.f).length) c0_1] 39 (0, 0))]), (1, [(b2, .cells #[.int .i64 a1.s, .int .i64 a1.p] 51 (0, 0))]), (2, C8)]) ?_ ⟨rfl, rfl, rfl, rfl, trivial⟩ ⟨rfl, rfl, rfl, trivial⟩
      refine kw_nx (sr (oD (mv rfl) rfl (oD (stp_len Tryz.underlying22 rfl) rfl (oD (sg rfl) rfl (oD (sg rfl) rfl (nn (cw_ret ?_)))))))
      have q0 := Option.some.inj H0
      subst q0
      exact kw_ret Tryz.results86 (.cons (.tmp rfl) (.cons (.tmp rfl) .nil)) [] [] trivial (by decide) ⟨rfl, rfl⟩
end Go.Proofs.YtbgodaeccgjdgaaGreatDoor
