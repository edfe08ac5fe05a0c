/- Plain laws: the line that is replaced, filling a line in, touching a page, both sides. -/
import Derived.Test.YtbgodaeccgjdgaaGreatDoorMi
set_option linter.unusedSimpArgs false
set_option linter.unusedVariables false
namespace Go.Proofs.YtbgodaeccgjdgaaGreatDoor
open Go.RowKit
variable {fl : Nat}
theorem clkLoop {ρ : Type} {L : Nat → Int → Option (LO Int ρ)} {l : List Ln} (step : ∀ fuel i, (h : i < l.length) → L (fuel + 1) (i : Int) = cond l[i].wi (L fuel (((i + 1) % l.length : Nat) : Int)) (some (.out (i : Int)))) :
    ∀ k fuel i, i < l.length → k < fuel → (∃ d, d < k ∧ (lnAt l ((i + d) % l.length)).wi = false) → L fuel (i : Int) = some (.out ((clk l i k : Nat) : Int)) := by
  intro k
  induction k with
  | zero => rintro fuel i _ _ ⟨d, hd, _⟩; omega
  | succ k ih =>
    rintro fuel i hi hf ⟨d, hd, hw⟩
    obtain ⟨f, rfl⟩ : ∃ f, fuel = f + 1 := ⟨fuel - 1, by omega⟩
    rw [step f i hi, clk, lnAt_lt hi]
    cases hx : l[i].wi with
    | false => rfl
    | true =>
      rw [cot, cot]
      have h0 : d ≠ 0 := by
        intro e
        subst e
        rw [Nat.add_zero, Nat.mod_eq_of_lt hi, lnAt_lt hi, hx] at hw
        cases hw
      refine ih f _ (Nat.mod_lt _ (by omega)) (by omega) ⟨d - 1, by omega, ?_⟩
      rw [Nat.mod_add_mod, show i + 1 + (d - 1) = i + d by omega]
      exact hw
theorem remO_nat {a n : Nat} (h : 0 < n) : remO (a : Int) (n : Int) = some ((a % n : Nat) : Int) := by
  unfold remO
  rw [if_neg (by omega), Int.tmod_eq_emod_of_nonneg (by omega)]; rfl
theorem iVictim {c : Ca} (h : CO c) (hf : 1048576 < fl) : i_VictimOf fl c = some ((vict c : Int), true) := by
  have n1 := h.n1
  have n2 := h.n2
  have g0 := h.h0
  have g1 := h.h1
  unfold i_VictimOf vict
  rw [iCache_eq hf, cacheOk_iff.2 h]
  simp only [obs, Bool.not_true, cof]
  have := findLoop (L := i_VictimOf_L0 fl c) (l := c.l) (p := fun x : Ln => !x.va) (res := fun i => ((i : Int), true))
    (fun fuel i h => by
      rw [i_VictimOf_L0.eq_2, decide_eq_true (by omega : (i : Int) < (c.l.length : Int)), cot, idx_nat h]
      simp only [obs]
      rw [ck_succ (by omega)]
      cases c.l[i].va <;> rfl)
    (fun fuel => by rw [i_VictimOf_L0.eq_2, decide_eq_false (by omega), cof]) fl 0 (by omega) (by omega)
  rw [show ((0 : Nat) : Int) = 0 from rfl, List.drop_zero] at this
  rw [this]
  simp only [obs]
  by_cases h0 : 0 ≤ fx (fun x : Ln => !x.va) c.l 0
  · rw [if_pos h0, if_pos h0]
  · rw [if_neg h0, if_neg h0]
    obtain ⟨a, ha⟩ : ∃ a : Nat, c.h = a := ⟨c.h.toNat, by omega⟩
    obtain ⟨j, hj, hw⟩ := h.un
    obtain ⟨d, hd, e⟩ := reach_ex (n := c.l.length) (i := a) (j := j) (by omega) hj
    have := clkLoop (L := i_VictimOf_L1 fl c) (l := c.l)
      (fun fuel i hi => by
        rw [i_VictimOf_L1.eq_2, idx_nat hi]
        simp only [obs]
        rw [ck_succ (by omega)]
        simp only [obs]
        rw [remO_nat (by omega)]
        simp only [obs]) c.l.length fl a (by omega) (by omega) ⟨d, hd, by rw [e]; exact hw⟩
    rw [ha, this]
    simp only [obs, Int.toNat_natCast]
theorem sVictim {c : Ca} (h : CO c) (hf : 1048576 < fl) : s_l4Victim fl c = some (vict c : Int) := by
  have n1 := h.n1
  have n2 := h.n2
  have g0 := h.h0
  have g1 := h.h1
  unfold s_l4Victim vict
  have := findLoop (L := s_l4Victim_L0 fl c) (l := c.l) (p := fun x : Ln => !x.va) (res := fun i => (i : Int))
    (fun fuel i h => by
      rw [s_l4Victim_L0.eq_2, decide_eq_true (by omega : (i : Int) < (c.l.length : Int)), cot, idx_nat h]
      simp only [obs]
      rw [ck_succ (by omega)]
      cases c.l[i].va <;> rfl)
    (fun fuel => by rw [s_l4Victim_L0.eq_2, decide_eq_false (by omega), cof]) fl 0 (by omega) (by omega)
  rw [show ((0 : Nat) : Int) = 0 from rfl, List.drop_zero] at this
  rw [this]
  simp only [obs]
  by_cases h0 : 0 ≤ fx (fun x : Ln => !x.va) c.l 0
  · rw [if_pos h0, if_pos h0]
  · rw [if_neg h0, if_neg h0]
    obtain ⟨a, ha⟩ : ∃ a : Nat, c.h = a := ⟨c.h.toNat, by omega⟩
    obtain ⟨j, hj, hw⟩ := h.un
    obtain ⟨d, hd, e⟩ := reach_ex (n := c.l.length) (i := a) (j := j) (by omega) hj
    have := clkLoop (L := s_l4Victim_L1 fl c) (l := c.l)
      (fun fuel i hi => by
        rw [s_l4Victim_L1.eq_2, idx_nat hi]
        simp only [obs]
        rw [ck_succ (by omega)]
        simp only [obs]
        rw [remO_nat (by omega)]
        simp only [obs]) c.l.length fl a (by omega) (by omega) ⟨d, hd, by rw [e]; exact hw⟩
    rw [ha, this]
    simp only [obs, Int.toNat_natCast]
theorem iFill {c : Ca} {x : Ln} (h : CO c) (hx : lineOk x = true) (hv : x.va = true) (hn : fx (fits x.tg x.pg) c.l 0 < 0) (ho : CO (fillC c x)) (hf : 1048576 < fl) : i_FillLine fl c x = some (fillC c x, (vict c : Int), true) := by
  have n1 := h.n1
  have n2 := h.n2
  have hvl := vict_lt h
  have hc := cacheOk_iff.2 ho
  unfold fillC at hc
  rw [lnAt_lt hvl] at hc
  unfold i_FillLine i_Cache_with slices_Clone_Line fillC
  rw [iVictim h hf, iLine_eq, hx, hv, place_eq (by omega) hf, cnt_in (by omega), lnAt_lt hvl]
  simp only [obs, Bool.not_true, cof]
  rw [decide_eq_false (by omega : ¬ 0 ≤ fx (fits x.tg x.pg) c.l 0), cof, idx_nat hvl]
  simp only [obs, Int.toNat_natCast, iCache_eq hf]
  cases hva : c.l[vict c].va with
  | true =>
    rw [hva, cot] at hc
    rw [cot, ck_succ (by omega)]
    simp only [obs]
    rw [remO_nat (by omega)]
    simp only [obs]
    rw [hc]; rfl
  | false =>
    rw [hva, cof] at hc
    rw [cof, hc]; rfl
theorem sFill {c : Ca} {x : Ln} (h : CO c) (hx : lineOk x = true) (hv : x.va = true) (hn : fx (fits x.tg x.pg) c.l 0 < 0) (ho : CO (fillC c x)) (hf : 1048576 < fl) : s_FillLine fl c x = some (fillC c x, (vict c : Int), true) := by
  have n1 := h.n1
  have n2 := h.n2
  have hvl := vict_lt h
  have hc := cacheOk_iff.2 ho
  unfold fillC at hc
  rw [lnAt_lt hvl] at hc
  unfold s_FillLine s_l4Copy fillC
  rw [sCache_eq hf, cacheOk_iff.2 h, sLine_eq, hx, hv, sVictim h hf, sPlace_eq (by omega) hf, cnt_in (by simp; omega), lnAt_lt hvl]
  simp only [obs, Bool.not_true, cof, List.nil_append]
  rw [idx_nat hvl]
  simp only [obs, Int.toNat_natCast, sCache_eq hf]
  rw [decide_eq_false (by omega : ¬ 0 ≤ fx (fits x.tg x.pg) c.l 0)]
  cases hva : c.l[vict c].va with
  | true =>
    rw [hva, cot] at hc
    rw [cot, ck_succ (by omega)]
    simp only [obs]
    rw [remO_nat (by omega)]
    simp only [obs]
    rw [hc]; rfl
  | false =>
    rw [hva, cof] at hc
    rw [cof, hc]; rfl

/-! ### rights -/
def allowsR (r nd : Int) : Bool := rightsOk r && rightsOk nd && (bAnd r nd == nd)
theorem andNot_fin : ∀ a b : Fin 8, (bAndNot ((b.val : Nat) : Int) ((a.val : Nat) : Int) == 0) = (bAnd ((a.val : Nat) : Int) ((b.val : Nat) : Int) == ((b.val : Nat) : Int)) := by decide +kernel
theorem iAllows_eq (r nd : Int) : i_Allows fl r nd = some (allowsR r nd) := by
  unfold i_Allows allowsR
  rw [iRights_eq, iRights_eq]
  cases h1 : rightsOk r with
  | false => rfl
  | true =>
    cases h2 : rightsOk nd with
    | false => rfl
    | true =>
      simp only [obs, cot, Bool.true_and]
      have b1 := rightsOk_iff.1 h1
      have b2 := rightsOk_iff.1 h2
      have := andNot_fin ⟨r.toNat, by omega⟩ ⟨nd.toNat, by omega⟩
      simp only [Int.toNat_of_nonneg b1.1, Int.toNat_of_nonneg b2.1] at this
      rw [this]
theorem sAllows_eq (r nd : Int) : s_Allows fl r nd = some (allowsR r nd) := by
  unfold s_Allows allowsR
  rw [sRights_eq, sRights_eq]
  cases rightsOk r <;> cases rightsOk nd <;> rfl

/-! ### touching -/
noncomputable def touchR (m : Mc) (pg nd : Int) : Mc × Int × Int × Bool :=
  if (machineOk m && within pg 256 && rightsOk nd) = true then
    if 0 ≤ fx (fits (tagR m m.s pg).1 pg) m.c.l 0 then
      (m, (lnAt m.c.l (fx (fits (tagR m m.s pg).1 pg) m.c.l 0).toNat).fr, cond (allowsR (lnAt m.c.l (fx (fits (tagR m m.s pg).1 pg) m.c.l 0).toNat).ri nd) 1 4, true)
    else if findF m.t.f (keyFor m.s pg) < 0 then (m, 0, 3, true)
    else (⟨m.t, fillC m.c ⟨true, (tagR m m.s pg).1, pg, findF m.t.f (keyFor m.s pg), (m.t.f.getD (findF m.t.f (keyFor m.s pg)).toNat freeF).r, false⟩, m.g, m.s⟩, findF m.t.f (keyFor m.s pg),
      cond (allowsR (m.t.f.getD (findF m.t.f (keyFor m.s pg)).toNat freeF).r nd) 2 4, true)
  else (mc0, 0, 0, false)
theorem fillC_len {c : Ca} {x : Ln} : (fillC c x).l.length = c.l.length := by simp [fillC]
theorem touchR_len {m : Mc} {pg nd : Int} (hN : mcN m ≤ 1048576) : mcN (touchR m pg nd).1 ≤ 1048576 := by
  unfold touchR
  split
  · split
    · exact hN
    · split
      · exact hN
      · unfold mcN at hN ⊢
        simp only [fillC_len]; exact hN
  · simp [mcN, mc0]
theorem MO.tag {m : Mc} (h : MO m) (pg : Int) : (tagR m m.s pg).2 = true := by
  unfold tagR
  split
  · rfl
  · rw [if_pos h.s]
theorem MO.space {m : Mc} (h : MO m) : 0 ≤ m.s ∧ m.s < 16 := by
  obtain ⟨j, hj, e, he⟩ := fx_at (p := fun o : Ow => o.sp == m.s) (l := m.g.o) h.s
  have := h.g.s1 j hj
  rw [owAt_lt hj] at this
  have e2 : m.g.o[j].sp = m.s := by simpa using he
  rw [← e2]; exact this
theorem used_rights {t : T} (h : TOk t) {i : Nat} (hi : i < t.f.length) (hu : t.f[i].u = true) : rightsOk t.f[i].r = true := by
  have := h.fr _ (List.getElem_mem hi)
  unfold frameOk at this
  rw [if_pos hu, Bool.and_eq_true] at this
  exact this.2
/-- the line that a touch fills in fits into the cache -/
theorem MO.fill {m : Mc} (h : MO m) {pg : Int} (hp : within pg 256 = true) (hn : fx (fits (tagR m m.s pg).1 pg) m.c.l 0 < 0) (hk : 0 ≤ findF m.t.f (keyFor m.s pg)) :
    lineOk ⟨true, (tagR m m.s pg).1, pg, findF m.t.f (keyFor m.s pg), (m.t.f.getD (findF m.t.f (keyFor m.s pg)).toNat freeF).r, false⟩ = true ∧
    CO (fillC m.c ⟨true, (tagR m m.s pg).1, pg, findF m.t.f (keyFor m.s pg), (m.t.f.getD (findF m.t.f (keyFor m.s pg)).toNat freeF).r, false⟩) := by
  obtain ⟨j, hj⟩ : ∃ j : Nat, findF m.t.f (keyFor m.s pg) = j := ⟨_, (Int.toNat_of_nonneg hk).symm⟩
  obtain ⟨hjl, hu, _⟩ := found_key hj
  have h16 := h.t.f2
  have hok : lineOk ⟨true, (tagR m m.s pg).1, pg, findF m.t.f (keyFor m.s pg), (m.t.f.getD (findF m.t.f (keyFor m.s pg)).toNat freeF).r, false⟩ = true := by
    unfold lineOk
    rw [cot, tagR_in h.g (h.tag pg), hp, hj, Int.toNat_natCast, show m.t.f.getD j freeF = m.t.f[j] from by simp [hjl], used_rights h.t hjl hu]
    simp only [Bool.true_and, Bool.and_true]
    rw [within_iff]; omega
  refine ⟨hok, fill_ok h.c hok rfl hn fun i hi hv hpg htg => ?_⟩
  simp only [] at hpg htg
  have hl := h.l i hi hv
  rw [lineHas_eq] at hl
  simp only [Bool.and_eq_true] at hl
  have h1 := hl.1.1.1
  have h128 : 128 ≤ pg := by
    apply Classical.byContradiction
    intro hlt
    unfold tagR at htg
    rw [if_neg hlt, if_pos h.s] at htg
    obtain ⟨q, hq, e, _⟩ := fx_at (p := fun o : Ow => o.sp == m.s) (l := m.g.o) h.s
    have e' : (ownF m.g m.s).toNat = q := by unfold ownF; rw [e]; simp
    simp only [e'] at htg
    have := h.g.ge q hq
    omega
  rw [hpg, decide_eq_true h128] at h1
  simpa using h1
theorem iTouch_eq {m : Mc} {pg nd : Int} (hN : mcN m ≤ 1048576) (hf : 1048576 < fl) : i_TouchPage fl m pg nd = some (touchR m pg nd) := by
  have hN' := hN
  unfold mcN at hN'
  unfold i_TouchPage touchR
  rw [iMachine_eq hN hf, within_eq, iRights_eq]
  cases hm : machineOk m with
  | false => simp [obs, mc0]
  | true =>
    have hM := machineOk_iff.1 hm
    cases hp : within pg 256 with
    | false => simp [obs, mc0]
    | true =>
      cases hr : rightsOk nd with
      | false => simp [obs, mc0]
      | true =>
        simp only [obs, Bool.not_true, cof, Bool.true_and, if_true]
        rw [iClone_eq hN, iTagFor hM.g (by omega) hf]
        simp only [obs]
        rw [place_eq (by omega) hf]
        simp only [obs]
        have hb := fx_bd (p := fits (tagR m m.s pg).1 pg) (l := m.c.l)
        by_cases h0 : 0 ≤ fx (fits (tagR m m.s pg).1 pg) m.c.l 0
        · rw [decide_eq_true h0, cot, if_pos h0]
          obtain ⟨j, hj⟩ : ∃ j : Nat, fx (fits (tagR m m.s pg).1 pg) m.c.l 0 = j := ⟨_, (Int.toNat_of_nonneg h0).symm⟩
          rw [hj, idx_nat (by omega), Int.toNat_natCast, lnAt_lt (by omega)]
          simp only [obs, iAllows_eq]
          cases allowsR (m.c.l[j]'(by omega)).ri nd <;> rfl
        · rw [decide_eq_false h0, cof, if_neg h0, iKeyFor]
          simp only [obs]
          rw [find_eq (by omega) hf]
          simp only [obs]
          by_cases h1 : findF m.t.f (keyFor m.s pg) < 0
          · rw [decide_eq_true h1, cot, if_pos h1]
          · rw [decide_eq_false h1, cof, if_neg h1]
            obtain ⟨hl, hc⟩ := hM.fill hp (by omega) (by omega)
            have hfb := (findF_bd (l := m.t.f) (k := keyFor m.s pg)).1
            obtain ⟨j, hj⟩ : ∃ j : Nat, findF m.t.f (keyFor m.s pg) = j := ⟨_, (Int.toNat_of_nonneg (by omega)).symm⟩
            have hjl : j < m.t.f.length := by omega
            have eg : m.t.f.getD (findF m.t.f (keyFor m.s pg)).toNat freeF = m.t.f[j] := by rw [hj, Int.toNat_natCast]; simp [hjl]
            rw [eg] at hl hc ⊢
            rw [hj, idx_nat hjl]
            rw [hj] at hl hc
            simp only [obs]
            rw [iFill hM.c hl rfl (by simpa using h0) hc hf]
            simp only [obs, iAllows_eq, Bool.not_true, cof]
            cases allowsR m.t.f[j].r nd <;> rfl
theorem sTouch_eq {m : Mc} {pg nd : Int} (hN : mcN m ≤ 1048576) (hf : 1048576 < fl) : s_TouchPage fl m pg nd = some (touchR m pg nd) := by
  have hN' := hN
  unfold mcN at hN'
  unfold s_TouchPage touchR
  rw [sMachine_eq hN hf, s1Page, sRights_eq]
  cases hm : machineOk m with
  | false => simp [obs, mc0]
  | true =>
    have hM := machineOk_iff.1 hm
    cases hp : within pg 256 with
    | false => simp [obs, mc0]
    | true =>
      cases hr : rightsOk nd with
      | false => simp [obs, mc0]
      | true =>
        simp only [obs, Bool.not_true, cof, Bool.true_and, if_true]
        rw [sCopy_eq hN, sTag6 (by omega) hf]
        simp only [obs]
        rw [sPlace_eq (by omega) hf]
        simp only [obs]
        have hb := fx_bd (p := fits (tagR m m.s pg).1 pg) (l := m.c.l)
        by_cases h0 : 0 ≤ fx (fits (tagR m m.s pg).1 pg) m.c.l 0
        · rw [decide_eq_true h0, cot, if_pos h0]
          obtain ⟨j, hjl, hj, hfit⟩ := fx_at (p := fits (tagR m m.s pg).1 pg) (l := m.c.l) h0
          rw [hj, idx_nat hjl, Int.toNat_natCast, lnAt_lt hjl]
          simp only [obs]
          have hv : m.c.l[j].va = true := by
            unfold fits at hfit
            simp only [Bool.and_eq_true] at hfit
            exact hfit.1.1
          have hl := hM.l j hjl (by rw [lnAt_lt hjl]; exact hv)
          rw [lnAt_lt hjl, lineHas_eq] at hl
          simp only [Bool.and_eq_true] at hl
          have hk := hl.2
          unfold keyHas at hk
          simp only [Bool.and_eq_true, decide_eq_true_eq, beq_iff_eq] at hk
          obtain ⟨⟨k1, k2⟩, k3⟩ := hk
          have hfb := (findF_bd (l := m.t.f) (k := keyFor (lineSpace m m.c.l[j]) m.c.l[j].pg)).1
          rw [k2] at k1 k3 hfb
          obtain ⟨q, hq⟩ : ∃ q : Nat, m.c.l[j].fr = q := ⟨_, (Int.toNat_of_nonneg k1).symm⟩
          have hql : q < m.t.f.length := by omega
          rw [hq, Int.toNat_natCast, show m.t.f.getD q freeF = m.t.f[q] from by simp [hql]] at k3
          rw [hq, idx_nat hql]
          simp only [obs, k3, sAllows_eq]
          cases allowsR m.c.l[j].ri nd <;> rfl
        · rw [decide_eq_false h0, cof, if_neg h0, sKeyFor]
          simp only [obs]
          obtain ⟨s, hs⟩ := sFind_eq (fl := fl) hM.t (keyFor_ok (p := pg) hM.space hp) hf
          rw [hs]
          simp only [obs]
          by_cases h1 : findF m.t.f (keyFor m.s pg) < 0
          · rw [decide_eq_true h1, cot, if_pos h1]
          · rw [decide_eq_false h1, cof, if_neg h1]
            obtain ⟨hl, hc⟩ := hM.fill hp (by omega) (by omega)
            have hfb := (findF_bd (l := m.t.f) (k := keyFor m.s pg)).1
            obtain ⟨j, hj⟩ : ∃ j : Nat, findF m.t.f (keyFor m.s pg) = j := ⟨_, (Int.toNat_of_nonneg (by omega)).symm⟩
            have hjl : j < m.t.f.length := by omega
            have eg : m.t.f.getD (findF m.t.f (keyFor m.s pg)).toNat freeF = m.t.f[j] := by rw [hj, Int.toNat_natCast]; simp [hjl]
            rw [eg] at hl hc ⊢
            rw [hj]
            rw [hj] at hl hc
            unfold s_l6Fill
            rw [sCopy_eq hN, idx_nat hjl]
            simp only [obs]
            rw [sFill hM.c hl rfl (by simpa using h0) hc hf]
            simp only [obs, sAllows_eq, Bool.not_true, cof]
            cases allowsR m.t.f[j].r nd <;> rfl
end Go.Proofs.YtbgodaeccgjdgaaGreatDoor
