/- Plain laws: what the machine's steps yield, both sides: putting, taking, guarding, entering, new memories. -/
import Derived.Test.YtbgodaeccgjdgaaGreatDoorMh
import Derived.Test.YtbgodaeccgjdgaaGreatDoorLg
set_option linter.unusedSimpArgs false
set_option linter.unusedVariables false
namespace Go.Proofs.YtbgodaeccgjdgaaGreatDoor
open Go.RowKit
variable {fl : Nat}
theorem MO.small {m : Mc} (h : MO m) : m.t.b.length ≤ 16 ∧ m.t.f.length ≤ 16 ∧ m.c.l.length ≤ 8 ∧ m.g.o.length ≤ 8 := by
  have h1 := h.t.f2
  have h2 := h.t.b2
  have h3 := h.c.n2
  have h4 := h.g.len
  have h5 := h.g.n2
  have h6 := h.g.c2
  omega
theorem iClone_eq {m : Mc} (hN : mcN m ≤ 1048576) : i_Machine_clone fl m = some m := by
  unfold mcN at hN
  unfold i_Machine_clone slices_Clone_Line slices_Clone_Own
  rw [clone_eq (by omega), cnt_in (by omega), cnt_in (by omega)]; rfl
theorem sCopy_eq {m : Mc} (hN : mcN m ≤ 1048576) : s_l6Copy fl m = some m := by
  unfold mcN at hN
  unfold s_l6Copy s_l4Copy s_l5Copy
  rw [copy_eq (by omega), cnt_in (by simp; omega), cnt_in (by simp; omega)]; rfl
theorem mapR_same {t : T} {k : K} {fr r : Int} (h : (mapR t k fr r).2 = true) : (mapR t k fr r).1.b.length = t.b.length ∧ (mapR t k fr r).1.f.length = t.f.length := by
  unfold mapR at h ⊢; split at h
  · rename_i c; rw [if_pos c]; simp [mapT]
  · cases h
theorem unmapR_same {t : T} {k : K} (h : (unmapR t k).2 = true) : (unmapR t k).1.b.length = t.b.length ∧ (unmapR t k).1.f.length = t.f.length ∧ keyOk k = true := by
  unfold unmapR at h ⊢; split at h
  · rename_i c
    rw [if_pos c]
    simp only [Bool.and_eq_true] at c
    exact ⟨by unfold unmapT; split <;> simp [unl], by unfold unmapT; split <;> simp [unl], c.1.2⟩
  · cases h
theorem protT_same {t : T} {k : K} {r : Int} (h : (protT t k r).2 = true) : (protT t k r).1.b.length = t.b.length ∧ (protT t k r).1.f.length = t.f.length ∧ keyOk k = true := by
  unfold protT at h ⊢; split at h
  · rename_i c
    rw [if_pos c]
    simp only [Bool.and_eq_true] at c
    exact ⟨rfl, by simp, c.1.1.2⟩
  · cases h

/-! ### putting -/
noncomputable def putR (m : Mc) (k : K) (fr r : Int) : Mc × Bool := if (machineOk m && (k == keyFor k.s k.p) && (mapR m.t k fr r).2) = true then (⟨(mapR m.t k fr r).1, m.c, m.g, m.s⟩, true) else (mc0, false)
theorem putR_len {m : Mc} {k : K} {fr r : Int} (hN : mcN m ≤ 1048576) : mcN (putR m k fr r).1 ≤ 1048576 := by
  unfold putR; split
  · rename_i c
    simp only [Bool.and_eq_true] at c
    obtain ⟨h1, h2⟩ := mapR_same c.2
    unfold mcN at hN ⊢
    simp only [h1, h2]; exact hN
  · simp [mcN, mc0]
theorem iPut_eq {m : Mc} {k : K} {fr r : Int} (hN : mcN m ≤ 1048576) (hf : 1048576 < fl) : i_PutPage fl m k fr r = some (putR m k fr r) := by
  have hN' := hN
  unfold mcN at hN'
  unfold i_PutPage putR
  rw [iMachine_eq hN hf]
  simp only [obs, iKeyFor]
  cases machineOk m with
  | false => simp [obs, mc0]
  | true =>
    unfold bne
    cases (k == keyFor k.s k.p) with
    | false => simp [obs, mc0]
    | true =>
      simp only [Bool.not_true, cof, obs, Bool.true_and]
      rw [iMap_eq (by omega) hf]
      simp only [obs]
      cases (mapR m.t k fr r).2 with
      | false => simp [mc0]
      | true =>
        rw [iClone_eq hN]; simp [obs]
theorem sPut_eq {m : Mc} {k : K} {fr r : Int} (hN : mcN m ≤ 1048576) (hf : 1048576 < fl) : s_PutPage fl m k fr r = some (putR m k fr r) := by
  unfold s_PutPage putR s_l6Shared
  rw [sMachine_eq hN hf]
  simp only [obs, sKeyFor, sKey_eq]
  cases machineOk m with
  | false => simp [obs, mc0]
  | true =>
    cases hk : keyOk k with
    | false => rw [mapR_no (by simp [hk])]; simp [obs, mc0]
    | true =>
      have e : (keyFor k.s k.p == k) = (k == keyFor k.s k.p) := by rw [Bool.eq_iff_iff]; simp only [beq_iff_eq]; exact ⟨fun h => h.symm, fun h => h.symm⟩
      rw [e]
      cases (k == keyFor k.s k.p) with
      | false => simp [obs, mc0]
      | true =>
        simp only [Bool.not_true, cof, cot, obs, Bool.true_and]
        rw [sMap_eq hf]
        simp only [obs]
        cases (mapR m.t k fr r).2 with
        | false => simp [mc0]
        | true =>
          rw [sCopy_eq hN]; simp [obs]

/-! ### forgetting a line -/
def tagR (m : Mc) (sp pg : Int) : Int × Bool := if 128 ≤ pg then (-1, true) else if 0 ≤ ownF m.g sp then ((owAt m.g.o (ownF m.g sp).toNat).tg, true) else (0, false)
def dropC (m : Mc) (k : K) : Ca := if (tagR m k.s k.p).2 = true ∧ 0 ≤ fx (fits (tagR m k.s k.p).1 k.p) m.c.l 0 then ⟨m.c.l.set (fx (fits (tagR m k.s k.p).1 k.p) m.c.l 0).toNat lnZ, m.c.h⟩ else m.c
theorem dropC_len {m : Mc} {k : K} : (dropC m k).l.length = m.c.l.length := by unfold dropC; split <;> simp
theorem iTagFor {m : Mc} {sp pg : Int} (hG : GO m.g) (hl : m.g.o.length ≤ 1048576) (hf : 1048576 < fl) : i_Machine_tagFor fl m sp pg = some (tagR m sp pg) := by
  unfold i_Machine_tagFor tagR i_TagOf
  rw [iTags_eq hl hf, own_eq hl hf, tagsOk_iff.2 hG]
  by_cases h : 128 ≤ pg
  · rw [decide_eq_true h, cot, if_pos h]
  · rw [decide_eq_false h, cof, if_neg h]
    simp only [obs, Bool.not_true, cof]
    by_cases h0 : ownF m.g sp < 0
    · rw [decide_eq_true h0, if_neg (by omega)]; simp [obs]
    · rw [decide_eq_false h0, if_pos (by omega)]
      have hb := fx_bd (p := fun o : Ow => o.sp == sp) (l := m.g.o)
      have e : ownF m.g sp = fx (fun o : Ow => o.sp == sp) m.g.o 0 := rfl
      obtain ⟨j, hj⟩ : ∃ j : Nat, ownF m.g sp = j := ⟨(ownF m.g sp).toNat, by omega⟩
      rw [hj, cof, idx_nat (by omega), Int.toNat_natCast, owAt_lt (by omega)]
      simp only [obs]
theorem sTag6 {m : Mc} {sp pg : Int} (hl : m.g.o.length ≤ 1048576) (hf : 1048576 < fl) : s_l6Tag fl m sp pg = some (tagR m sp pg) := by
  unfold s_l6Tag tagR
  rw [sOwn_eq hl hf]
  by_cases h : 128 ≤ pg
  · rw [decide_eq_true h, cot, if_pos h]
  · rw [decide_eq_false h, cof, if_neg h]
    simp only [obs]
    by_cases h0 : ownF m.g sp < 0
    · rw [decide_eq_true h0, if_neg (by omega)]; simp
    · rw [decide_eq_false h0, if_pos (by omega)]
      have hb := fx_bd (p := fun o : Ow => o.sp == sp) (l := m.g.o)
      have e : ownF m.g sp = fx (fun o : Ow => o.sp == sp) m.g.o 0 := rfl
      obtain ⟨j, hj⟩ : ∃ j : Nat, ownF m.g sp = j := ⟨(ownF m.g sp).toNat, by omega⟩
      rw [hj, cof, idx_nat (by omega), Int.toNat_natCast, owAt_lt (by omega)]
      simp only [obs]
theorem tagR_in {m : Mc} {sp pg : Int} (hG : GO m.g) (h : (tagR m sp pg).2 = true) : tagIn (tagR m sp pg).1 = true := by
  unfold tagR at h ⊢
  split at h
  · rename_i c; rw [if_pos c]; rfl
  · rename_i c
    rw [if_neg c]
    split at h
    · rename_i c2
      rw [if_pos c2]
      obtain ⟨j, hj, e, _⟩ := fx_at (p := fun o : Ow => o.sp == sp) (l := m.g.o) c2
      have e' : (ownF m.g sp).toNat = j := by unfold ownF; rw [e]; simp
      have h1 := hG.ge j hj
      have h2 := hG.tn j hj
      have h3 := hG.n2
      have h4 := hG.c2
      rw [e']
      unfold tagIn
      simp only [Bool.and_eq_true, decide_eq_true_eq]
      omega
    · cases h
theorem iDropped {m : Mc} {t : T} {k : K} (hG : GO m.g) (hN : mcN m ≤ 1048576) (hf : 1048576 < fl) : i_Machine_dropped fl m t k = some ⟨t, dropC m k, m.g, m.s⟩ := by
  have hN' := hN
  unfold mcN at hN'
  unfold i_Machine_dropped dropC
  rw [iClone_eq hN, iTagFor hG (by omega) hf]
  simp only [obs]
  cases h : (tagR m k.s k.p).2 with
  | false => simp [obs]
  | true =>
    rw [cot, place_eq (by omega) hf]
    simp only [obs]
    have hb := fx_bd (p := fits (tagR m k.s k.p).1 k.p) (l := m.c.l)
    by_cases h0 : 0 ≤ fx (fits (tagR m k.s k.p).1 k.p) m.c.l 0
    · rw [decide_eq_true h0, cot, if_pos ⟨trivial, h0⟩]
      obtain ⟨j, hj⟩ : ∃ j : Nat, fx (fits (tagR m k.s k.p).1 k.p) m.c.l 0 = j := ⟨_, (Int.toNat_of_nonneg h0).symm⟩
      rw [hj, idx_nat (by omega)]
      simp only [obs]; rfl
    · rw [decide_eq_false h0, cof, if_neg (fun hh => h0 hh.2)]
theorem sForget {m : Mc} {k : K} (hC : CO m.c) (hG : GO m.g) (hk : keyOk k = true) (hN : mcN m ≤ 1048576) (hf : 1048576 < fl) : s_l6Forget fl m k = some ⟨m.t, dropC m k, m.g, m.s⟩ := by
  have hN' := hN
  unfold mcN at hN'
  have hp : within k.p 256 = true := by rw [within_iff]; have := keyOk_iff.1 hk; omega
  unfold s_l6Forget dropC s_DropPage s_FindLine s_l4Copy s_l4Tag
  rw [sCopy_eq hN, sTag6 (by omega) hf, sCache_eq hf, cacheOk_iff.2 hC, s1Page, hp]
  simp only [obs]
  cases h : (tagR m k.s k.p).2 with
  | false => simp [obs]
  | true =>
    have ht := tagR_in hG h
    unfold tagIn at ht
    simp only [Bool.and_eq_true, decide_eq_true_eq] at ht
    rw [decide_eq_true ht.1, decide_eq_true ht.2, sPlace_eq (by omega) hf]
    simp only [Bool.not_true, cof, cot, obs]
    have hb := fx_bd (p := fits (tagR m k.s k.p).1 k.p) (l := m.c.l)
    by_cases h0 : 0 ≤ fx (fits (tagR m k.s k.p).1 k.p) m.c.l 0
    · rw [decide_eq_false (by omega : ¬ fx (fits (tagR m k.s k.p).1 k.p) m.c.l 0 < 0), if_pos ⟨trivial, h0⟩, cnt_in (by simp; omega)]
      obtain ⟨j, hj⟩ : ∃ j : Nat, fx (fits (tagR m k.s k.p).1 k.p) m.c.l 0 = j := ⟨_, (Int.toNat_of_nonneg h0).symm⟩
      simp only [obs, cof, Bool.not_true, List.nil_append]
      rw [hj, idx_nat (by omega)]
      simp only [obs, cot]; rfl
    · rw [decide_eq_true (by omega : fx (fits (tagR m k.s k.p).1 k.p) m.c.l 0 < 0), if_neg (fun hh => h0 hh.2)]
      simp [obs]

/-! ### taking and guarding -/
noncomputable def takeR (m : Mc) (k : K) : Mc × Bool := if (machineOk m && (unmapR m.t k).2) = true then (⟨(unmapR m.t k).1, dropC m k, m.g, m.s⟩, true) else (mc0, false)
noncomputable def guardR (m : Mc) (k : K) (r : Int) : Mc × Bool := if (machineOk m && (protT m.t k r).2) = true then (⟨(protT m.t k r).1, dropC m k, m.g, m.s⟩, true) else (mc0, false)
theorem takeR_len {m : Mc} {k : K} (hN : mcN m ≤ 1048576) : mcN (takeR m k).1 ≤ 1048576 := by
  unfold takeR; split
  · rename_i c
    simp only [Bool.and_eq_true] at c
    obtain ⟨h1, h2, _⟩ := unmapR_same c.2
    unfold mcN at hN ⊢
    simp only [h1, h2, dropC_len]; exact hN
  · simp [mcN, mc0]
theorem guardR_len {m : Mc} {k : K} {r : Int} (hN : mcN m ≤ 1048576) : mcN (guardR m k r).1 ≤ 1048576 := by
  unfold guardR; split
  · rename_i c
    simp only [Bool.and_eq_true] at c
    obtain ⟨h1, h2, _⟩ := protT_same c.2
    unfold mcN at hN ⊢
    simp only [h1, h2, dropC_len]; exact hN
  · simp [mcN, mc0]
theorem iTake_eq {m : Mc} {k : K} (hN : mcN m ≤ 1048576) (hf : 1048576 < fl) : i_TakePage fl m k = some (takeR m k) := by
  have hN' := hN
  unfold mcN at hN'
  unfold i_TakePage takeR
  rw [iMachine_eq hN hf]
  simp only [obs]
  cases hm : machineOk m with
  | false => simp [obs, mc0]
  | true =>
    have hM := machineOk_iff.1 hm
    simp only [Bool.not_true, cof, Bool.true_and]
    rw [iUnmap_eq (by omega) hf]
    simp only [obs]
    cases (unmapR m.t k).2 with
    | false => simp [mc0]
    | true => rw [iDropped hM.g hN hf]; simp [obs]
theorem sTake_eq {m : Mc} {k : K} (hN : mcN m ≤ 1048576) (hf : 1048576 < fl) : s_TakePage fl m k = some (takeR m k) := by
  unfold s_TakePage takeR
  rw [sMachine_eq hN hf]
  simp only [obs]
  cases hm : machineOk m with
  | false => simp [obs, mc0]
  | true =>
    have hM := machineOk_iff.1 hm
    simp only [Bool.not_true, cof, Bool.true_and]
    rw [sUnmap_eq hf]
    simp only [obs]
    cases hu : (unmapR m.t k).2 with
    | false => simp [mc0]
    | true => rw [sForget hM.c hM.g (unmapR_same hu).2.2 hN hf]; simp [obs]
theorem iGuard_eq {m : Mc} {k : K} {r : Int} (hN : mcN m ≤ 1048576) (hf : 1048576 < fl) : i_GuardPage fl m k r = some (guardR m k r) := by
  have hN' := hN
  unfold mcN at hN'
  unfold i_GuardPage guardR
  rw [iMachine_eq hN hf]
  simp only [obs]
  cases hm : machineOk m with
  | false => simp [obs, mc0]
  | true =>
    have hM := machineOk_iff.1 hm
    simp only [Bool.not_true, cof, Bool.true_and]
    rw [iProt_eq (by omega) hf]
    simp only [obs]
    cases (protT m.t k r).2 with
    | false => simp [mc0]
    | true => rw [iDropped hM.g hN hf]; simp [obs]
theorem sGuard_eq {m : Mc} {k : K} {r : Int} (hN : mcN m ≤ 1048576) (hf : 1048576 < fl) : s_GuardPage fl m k r = some (guardR m k r) := by
  unfold s_GuardPage guardR
  rw [sMachine_eq hN hf]
  simp only [obs]
  cases hm : machineOk m with
  | false => simp [obs, mc0]
  | true =>
    have hM := machineOk_iff.1 hm
    simp only [Bool.not_true, cof, Bool.true_and]
    rw [sProt_eq hf]
    simp only [obs]
    cases hu : (protT m.t k r).2 with
    | false => simp [mc0]
    | true => rw [sForget hM.c hM.g (protT_same hu).2.2 hN hf]; simp [obs]

/-! ### entering -/
def takeTagR (t : Tg) (sp : Int) : Tg × Int × Bool × Bool :=
  if (tagsOk t && within sp 16) = true then
    if 0 ≤ ownF t sp then (t, (owAt t.o (ownF t sp).toNat).tg, false, true)
    else if (t.n == t.c) = true then (if (t.r == 1000000) = true then (⟨0, 0, 0, []⟩, 0, false, false) else (⟨t.c, 1, t.r + 1, [⟨sp, 0⟩]⟩, 0, true, true))
    else (⟨t.c, t.n + 1, t.r, t.o ++ [⟨sp, t.n⟩]⟩, t.n, false, true)
  else (⟨0, 0, 0, []⟩, 0, false, false)
theorem iTakeTag {t : Tg} {sp : Int} (hl : t.o.length ≤ 1048576) (hf : 1048576 < fl) : i_TakeTag fl t sp = some (takeTagR t sp) := by
  unfold i_TakeTag takeTagR slices_Clone_Own
  rw [iTags_eq hl hf, within_eq, own_eq hl hf, cnt_in (by omega)]
  cases hT : tagsOk t with
  | false => simp [obs]
  | true =>
    have hG := tagsOk_iff.1 hT
    have g1 := hG.n1
    have g2 := hG.n2
    have g3 := hG.c2
    have g4 := hG.r1
    have g5 := hG.r2
    have g6 := hG.len
    cases within sp 16 with
    | false => simp [obs]
    | true =>
      simp only [obs, Bool.not_true, cof, Bool.true_and, if_true]
      by_cases h0 : 0 ≤ ownF t sp
      · rw [decide_eq_true h0, cot, if_pos h0]
        have hb := fx_bd (p := fun o : Ow => o.sp == sp) (l := t.o)
        have e : ownF t sp = fx (fun o : Ow => o.sp == sp) t.o 0 := rfl
        obtain ⟨j, hj⟩ : ∃ j : Nat, ownF t sp = j := ⟨(ownF t sp).toNat, by omega⟩
        rw [hj, idx_nat (by omega), Int.toNat_natCast, owAt_lt (by omega)]
        simp only [obs]
      · rw [decide_eq_false h0, cof, if_neg h0]
        cases hn : (t.n == t.c) with
        | true =>
          rw [cot, if_pos rfl]
          cases hr : (t.r == 1000000) with
          | true => simp
          | false =>
            rw [cof, if_neg (by simp), ck_in (by omega), cnt_in (by simp), ck_in (by omega)]; rfl
        | false =>
          rw [cof, if_neg (by simp), cnt_in (by simp; omega), ck_in (by omega)]; rfl
theorem sTakeTag {t : Tg} {sp : Int} (hl : t.o.length ≤ 1048576) (hf : 1048576 < fl) : s_TakeTag fl t sp = some (takeTagR t sp) := by
  unfold s_TakeTag takeTagR s_l5Copy
  rw [sTags_eq hl hf, s1Space, sOwn_eq hl hf, cnt_in (by simp; omega)]
  cases hT : tagsOk t with
  | false => simp [obs]
  | true =>
    have hG := tagsOk_iff.1 hT
    have g1 := hG.n1
    have g2 := hG.n2
    have g3 := hG.c2
    have g4 := hG.r1
    have g5 := hG.r2
    have g6 := hG.len
    cases within sp 16 with
    | false => simp [obs]
    | true =>
      simp only [obs, Bool.not_true, cof, Bool.true_and, if_true, List.nil_append]
      by_cases h0 : 0 ≤ ownF t sp
      · rw [decide_eq_true h0, cot, if_pos h0]
        have hb := fx_bd (p := fun o : Ow => o.sp == sp) (l := t.o)
        have e : ownF t sp = fx (fun o : Ow => o.sp == sp) t.o 0 := rfl
        obtain ⟨j, hj⟩ : ∃ j : Nat, ownF t sp = j := ⟨(ownF t sp).toNat, by omega⟩
        rw [hj, idx_nat (by omega), Int.toNat_natCast, owAt_lt (by omega)]
        simp only [obs]
      · rw [decide_eq_false h0, cof, if_neg h0]
        cases hn : (t.n == t.c) with
        | true =>
          rw [cot, if_pos rfl, ck_in (by omega)]
          simp only [obs]
          cases hr : (t.r == 1000000) with
          | true =>
            have : t.r = 1000000 := by simpa using hr
            rw [decide_eq_true (by omega)]; simp
          | false =>
            have : t.r ≠ 1000000 := by simpa using hr
            rw [decide_eq_false (by omega), cof, if_neg (by simp), cnt_in (by simp), ck_in (by omega)]; rfl
        | false =>
          rw [cof, if_neg (by simp), decide_eq_false (by omega), cof, cnt_in (by simp; omega), ck_in (by omega)]; rfl
theorem mapLoop {α ρ : Type} {L : Nat → List α → Int → Option (LO (List α × Int) ρ)} {l : List α} {g : α → α}
    (step : ∀ fuel v i, (h : i < l.length) → (hv : v.length = l.length) → v[i]? = some l[i] → L (fuel + 1) v (i : Int) = L fuel (v.set i (g l[i])) ((i + 1 : Nat) : Int))
    (stop : ∀ fuel v, L (fuel + 1) v (l.length : Int) = some (.out (v, (l.length : Int)))) : ∀ fuel i v, i ≤ l.length → l.length - i < fuel → v.length = l.length → (∀ j, j < i → v[j]? = (l.map g)[j]?) → (∀ j, i ≤ j → v[j]? = l[j]?) →
    L fuel v (i : Int) = some (.out (l.map g, (l.length : Int))) := by
  intro fuel
  induction fuel with
  | zero => intro i v _ h; omega
  | succ fuel ih =>
    intro i v hi hf hv h1 h2
    by_cases h : i < l.length
    · rw [step fuel v i h hv (by rw [h2 i (Nat.le_refl _), List.getElem?_eq_getElem h])]
      refine ih (i + 1) _ (by omega) (by omega) (by simp [hv]) (fun j hj => ?_) (fun j hj => ?_)
      · rw [List.getElem?_set]
        split
        · rename_i e; subst e; simp [hv, h]
        · exact h1 j (by omega)
      · rw [List.getElem?_set, if_neg (by omega)]
        exact h2 j (by omega)
    · have e : i = l.length := by omega
      subst e
      rw [stop]
      congr 3
      apply List.ext_getElem?
      intro j
      by_cases hj : j < l.length
      · exact h1 j hj
      · rw [List.getElem?_eq_none (by omega), List.getElem?_eq_none (by simp; omega)]
def frL (b : Bool) (x : Ln) : Ln := cond (b && !(x.tg == -1)) lnZ x
theorem set_same {α : Type} {v : List α} {i : Nat} {x : α} (h : v[i]? = some x) : v.set i x = v := by
  apply List.ext_getElem?
  intro j
  rw [List.getElem?_set]
  split
  · rename_i e; subst e
    have := (List.getElem?_eq_some_iff.1 h).1
    rw [if_pos this, h]
  · rfl
theorem iFresh {x5 : Tg × Int × Bool × Bool} {m : Mc} (hl : m.c.l.length ≤ 1048576) (hf : 1048576 < fl) : i_EnterSpace_L0 fl x5 m fl m.c.l 0 = some (.out (m.c.l.map (frL x5.2.2.1), (m.c.l.length : Int))) := by
  have := mapLoop (L := i_EnterSpace_L0 fl x5 m) (l := m.c.l) (g := frL x5.2.2.1)
    (fun fuel v i h hv hx => by
      rw [i_EnterSpace_L0.eq_2, decide_eq_true (by omega : (i : Int) < (m.c.l.length : Int)), cot]
      have e : idx v (i : Int) = some m.c.l[i] := by rw [idx_nat (by omega)]; rw [List.getElem?_eq_getElem (by omega)] at hx; exact hx
      rw [e, ck_succ (by omega)]
      simp only [obs]
      unfold frL bne
      cases x5.2.2.1 <;> cases (m.c.l[i].tg == -1) <;> simp [obs, set_same hx, lnZ])
    (fun fuel v => by rw [i_EnterSpace_L0.eq_2, decide_eq_false (by omega), cof]) fl 0 m.c.l (by omega) (by omega) rfl (fun j hj => by omega) (fun j hj => rfl)
  rw [show ((0 : Nat) : Int) = 0 from rfl] at this
  exact this
theorem sFresh {c : Ca} (hl : c.l.length ≤ 1048576) (hf : 1048576 < fl) : s_l6Fresh fl c = some ⟨c.l.map (frL true), c.h⟩ := by
  unfold s_l6Fresh s_l4Copy
  rw [cnt_in (by simp; omega)]
  simp only [obs, List.nil_append]
  have := mapLoop (L := s_l6Fresh_L0 fl c) (l := c.l) (g := frL true)
    (fun fuel v i h hv hx => by
      rw [s_l6Fresh_L0.eq_2, decide_eq_true (by omega : (i : Int) < (c.l.length : Int)), cot]
      have e : idx v (i : Int) = some c.l[i] := by rw [idx_nat (by omega)]; rw [List.getElem?_eq_getElem (by omega)] at hx; exact hx
      rw [e, ck_succ (by omega)]
      simp only [obs]
      unfold frL bne
      cases (c.l[i].tg == -1) <;> simp [obs, set_same hx, lnZ])
    (fun fuel v => by rw [s_l6Fresh_L0.eq_2, decide_eq_false (by omega), cof]) fl 0 c.l (by omega) (by omega) rfl (fun j hj => by omega) (fun j hj => rfl)
  rw [show ((0 : Nat) : Int) = 0 from rfl] at this
  rw [this]
  simp only [obs]
noncomputable def enterR (m : Mc) (sp : Int) : Mc × Bool := if (machineOk m && (takeTagR m.g sp).2.2.2) = true then (⟨m.t, ⟨m.c.l.map (frL (takeTagR m.g sp).2.2.1), m.c.h⟩, (takeTagR m.g sp).1, sp⟩, true) else (mc0, false)
theorem takeTag_len {t : Tg} {sp : Int} : (takeTagR t sp).1.o.length ≤ t.o.length + 1 := by
  unfold takeTagR
  split
  · split
    · simp
    · split
      · split <;> simp
      · simp
  · simp
theorem enterR_len {m : Mc} {sp : Int} : mcN (enterR m sp).1 ≤ 1048576 := by
  unfold enterR; split
  · rename_i c
    simp only [Bool.and_eq_true] at c
    obtain ⟨a, b, d, e⟩ := (machineOk_iff.1 c.1).small
    have := takeTag_len (t := m.g) (sp := sp)
    simp only [mcN, List.length_map]; omega
  · simp [mcN, mc0]
theorem iEnter_eq {m : Mc} {sp : Int} (hN : mcN m ≤ 1048576) (hf : 1048576 < fl) : i_EnterSpace fl m sp = some (enterR m sp) := by
  have hN' := hN
  unfold mcN at hN'
  unfold i_EnterSpace enterR
  rw [iMachine_eq hN hf]
  simp only [obs]
  cases hm : machineOk m with
  | false => simp [obs, mc0]
  | true =>
    simp only [Bool.not_true, cof, Bool.true_and]
    rw [iTakeTag (by omega) hf]
    simp only [obs]
    cases (takeTagR m.g sp).2.2.2 with
    | false => simp [mc0]
    | true =>
      rw [iClone_eq hN]
      simp only [obs, Bool.not_true, cof, if_true]
      rw [iFresh (by omega) hf]
      simp only [obs]
theorem frL_false (l : List Ln) : l.map (frL false) = l := by
  have : frL false = id := by funext x; simp [frL]
  rw [this, List.map_id]
theorem sEnter_eq {m : Mc} {sp : Int} (hN : mcN m ≤ 1048576) (hf : 1048576 < fl) : s_EnterSpace fl m sp = some (enterR m sp) := by
  have hN' := hN
  unfold mcN at hN'
  unfold s_EnterSpace enterR
  rw [sMachine_eq hN hf, sTakeTag (by omega) hf]
  simp only [obs]
  cases hm : machineOk m with
  | false => simp [obs, mc0]
  | true =>
    simp only [Bool.not_true, cof, Bool.true_and, obs]
    cases (takeTagR m.g sp).2.2.2 with
    | false => simp [mc0]
    | true =>
      rw [sCopy_eq hN]
      simp only [obs, Bool.not_true, cof, if_true]
      cases (takeTagR m.g sp).2.2.1 with
      | true => rw [cot, sFresh (by omega) hf]; simp only [obs]
      | false => rw [cof, frL_false]
end Go.Proofs.YtbgodaeccgjdgaaGreatDoor
