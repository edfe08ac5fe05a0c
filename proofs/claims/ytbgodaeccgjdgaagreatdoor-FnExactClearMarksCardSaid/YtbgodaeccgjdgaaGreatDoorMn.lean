/- Plain laws: valid memories, marks taken away, the clock, both sides. -/
import Derived.Test.YtbgodaeccgjdgaaGreatDoorMm
import Derived.Test.YtbgodaeccgjdgaaGreatDoorMk
set_option linter.unusedSimpArgs false
set_option linter.unusedVariables false
namespace Go.Proofs.YtbgodaeccgjdgaaGreatDoor
open Go.RowKit
variable {fl : Nat}
theorem szMemory_sub {m : Mm} {left : Int} (h1 : LM m.m.t.b.length) (h2 : LM m.m.t.f.length) (h3 : LM m.m.c.l.length) (h4 : LM m.m.g.o.length) (h5 : LM m.k.length) (h0 : 0 ≤ left ∧ left ≤ 1048576) : l_szMemory fl m left = some (sub0 left (mmN m)) := by
  unfold l_szMemory mmN
  rw [szMachine_sub h1 h2 h3 h4 h0]
  simp only [obs]
  refine sub0_step (f := fun y => Option.bind (l_szBoolS fl m.k y) fun x => cond (decide (x < 0)) (some (-1)) (some x)) h0 fun h => ?_
  rw [szBoolS_eq h5 h]
  simp only [obs]
  exact sub0_end h
theorem toMemory_eq {m : Mm} (hl : mmN m ≤ 1048576) (hf : 1048576 < fl) : l_toMemory fl m = some m := by
  unfold mmN at hl
  unfold l_toMemory
  rw [toMachine_eq (by omega) hf, toBoolS_eq (by omega) hf]; rfl
def markOk (m : Mm) (i : Nat) : Bool := !(m.k.getD i false && !(m.m.t.f.getD i freeF).u)
noncomputable def memOk (m : Mm) : Bool := machineOk m.m && ((m.k.length : Int) == (m.m.t.f.length : Int)) && within m.h m.m.t.f.length && upto (markOk m) 0 m.k.length
theorem iMarks {m : Mm} (hl : m.k.length ≤ 1048576) (he : m.k.length = m.m.t.f.length) (hf : 1048576 < fl) : i_MemoryValid_L0 fl m fl 0 = some (if upto (markOk m) 0 m.k.length then .out (m.k.length : Int) else .ret false) := by
  have := allLoop (L := i_MemoryValid_L0 fl m) (n := m.k.length) (p := markOk m) (bad := false)
    (fun fuel j hj => by
      rw [i_MemoryValid_L0.eq_2, decide_eq_true (by omega : (j : Int) < (m.k.length : Int)), cot, idx_nat hj]
      simp only [obs]
      rw [ck_succ (by omega), idx_nat (by omega : j < m.m.t.f.length)]
      unfold markOk
      rw [show m.k.getD j false = m.k[j] from by simp [hj], show m.m.t.f.getD j freeF = m.m.t.f[j] from by simp [he ▸ hj]]
      simp only [obs]
      cases m.k[j] <;> cases m.m.t.f[j].u <;> rfl)
    (fun fuel => by rw [i_MemoryValid_L0.eq_2, decide_eq_false (by omega), cof]) fl 0 (by omega) (by omega)
  rw [show ((0 : Nat) : Int) = 0 from rfl, Nat.sub_zero] at this
  exact this
theorem sMarks {m : Mm} (hl : m.k.length ≤ 1048576) (he : m.k.length = m.m.t.f.length) (hf : 1048576 < fl) : s_MemoryValid_L0 fl m fl 0 = some (if upto (markOk m) 0 m.k.length then .out (m.k.length : Int) else .ret false) := by
  have := allLoop (L := s_MemoryValid_L0 fl m) (n := m.k.length) (p := markOk m) (bad := false)
    (fun fuel j hj => by
      rw [s_MemoryValid_L0.eq_2, decide_eq_true (by omega : (j : Int) < (m.k.length : Int)), cot, idx_nat hj]
      simp only [obs]
      rw [ck_succ (by omega), idx_nat (by omega : j < m.m.t.f.length)]
      unfold markOk
      rw [show m.k.getD j false = m.k[j] from by simp [hj], show m.m.t.f.getD j freeF = m.m.t.f[j] from by simp [he ▸ hj]]
      simp only [obs]
      cases m.k[j] <;> cases m.m.t.f[j].u <;> rfl)
    (fun fuel => by rw [s_MemoryValid_L0.eq_2, decide_eq_false (by omega), cof]) fl 0 (by omega) (by omega)
  rw [show ((0 : Nat) : Int) = 0 from rfl, Nat.sub_zero] at this
  exact this
theorem iMem_eq {m : Mm} (hN : mmN m ≤ 1048576) (hf : 1048576 < fl) : i_MemoryValid fl m = some (memOk m) := by
  unfold mmN at hN
  unfold i_MemoryValid memOk
  rw [iMachine_eq (by omega) hf, within_eq]
  unfold bne
  cases machineOk m.m with
  | false => simp [obs]
  | true =>
    cases he : ((m.k.length : Int) == (m.m.t.f.length : Int)) with
    | false => simp [obs]
    | true =>
      have he' : m.k.length = m.m.t.f.length := by have : (m.k.length : Int) = (m.m.t.f.length : Int) := by simpa using he
                                                   omega
      cases within m.h m.m.t.f.length with
      | false => simp [obs]
      | true =>
        simp only [obs, Bool.not_true, cof, Bool.true_and]
        rw [iMarks (by omega) he' hf]
        simp only [obs]
        cases upto (markOk m) 0 m.k.length <;> simp
theorem sMem_eq {m : Mm} (hN : mmN m ≤ 1048576) (hf : 1048576 < fl) : s_MemoryValid fl m = some (memOk m) := by
  unfold mmN at hN
  unfold s_MemoryValid memOk
  rw [sMachine_eq (by omega) hf]
  unfold bne
  cases machineOk m.m with
  | false => simp [obs]
  | true =>
    cases he : ((m.k.length : Int) == (m.m.t.f.length : Int)) with
    | false => simp [obs]
    | true =>
      have he' : m.k.length = m.m.t.f.length := by have : (m.k.length : Int) = (m.m.t.f.length : Int) := by simpa using he
                                                   omega
      unfold within
      by_cases h1 : m.h < 0
      · rw [decide_eq_true h1, decide_eq_false (by omega : ¬ 0 ≤ m.h)]; simp [obs]
      by_cases h2 : (m.k.length : Int) ≤ m.h
      · rw [decide_eq_false h1, decide_eq_true h2, decide_eq_false (by omega : ¬ m.h < (m.m.t.f.length : Int))]; simp [obs]
      rw [decide_eq_false h1, decide_eq_false h2, decide_eq_true (by omega : 0 ≤ m.h), decide_eq_true (by omega : m.h < (m.m.t.f.length : Int))]
      simp only [obs, Bool.not_true, cof, Bool.true_and]
      rw [sMarks (by omega) he' hf]
      simp only [obs]
      cases upto (markOk m) 0 m.k.length <;> simp
theorem iMClone {m : Mm} (hN : mmN m ≤ 1048576) : i_Memory_clone fl m = some m := by
  unfold mmN at hN
  unfold i_Memory_clone slices_Clone_Bool
  rw [iClone_eq (by omega), cnt_in (by omega)]; rfl
theorem sMCopy {m : Mm} (hN : mmN m ≤ 1048576) : s_l7Copy fl m = some m := by
  unfold mmN at hN
  unfold s_l7Copy
  rw [sCopy_eq (by omega), cnt_in (by simp; omega)]; rfl
noncomputable def clearR (m : Mm) : Mm × Bool := if memOk m = true then (⟨m.m, List.replicate m.k.length false, m.h⟩, true) else (mm0, false)
theorem clearR_len {m : Mm} (hN : mmN m ≤ 1048576) : mmN (clearR m).1 ≤ 1048576 := by
  unfold clearR
  split
  · simpa [mmN] using hN
  · simp [mmN, mm0, mcN, mc0]
theorem iClear_eq {m : Mm} (hN : mmN m ≤ 1048576) (hf : 1048576 < fl) : i_ClearMarks fl m = some (clearR m) := by
  unfold i_ClearMarks clearR
  rw [iMem_eq hN hf]
  simp only [obs]
  cases memOk m with
  | false => simp [mm0, mc0]
  | true => rw [iMClone hN]; simp [obs]
theorem sClear_eq {m : Mm} (hN : mmN m ≤ 1048576) (hf : 1048576 < fl) : s_ClearMarks fl m = some (clearR m) := by
  have hN' := hN
  unfold mmN at hN'
  unfold s_ClearMarks clearR
  rw [sMem_eq hN hf]
  simp only [obs]
  cases memOk m with
  | false => simp [mm0, mc0]
  | true => rw [sMCopy hN]; simp only [obs, Bool.not_true, cof]; rw [mkO_nat (by omega)]; simp [obs]

/-! ### the clock -/
def wiredAt (m : Mc) (i : Nat) : Bool := !upto (fun j => !((lnAt m.c.l j).wi && ((lnAt m.c.l j).fr == (i : Int)))) 0 m.c.l.length
/-- the clock's hand goes on for k more steps: the frame, the hand, the marks -/
def tick (m : Mc) (n : Nat) (h : Nat) (k : List Bool) : Nat → Option (Nat × Nat × List Bool)
  | 0 => none
  | s + 1 => cond (!(m.t.f.getD h freeF).u || wiredAt m h) (tick m n ((h + 1) % n) k s)
      (cond (k.getD h false) (tick m n ((h + 1) % n) (k.set h false) s) (some (h, (h + 1) % n, k)))
theorem iWired {m : Mc} {i : Nat} (hl : m.c.l.length ≤ 1048576) (hf : 1048576 < fl) : slices_ContainsFunc_Line_of_i_FrameVictim_1 fl m.c.l (i : Int) = some (wiredAt m i) := by
  unfold slices_ContainsFunc_Line_of_i_FrameVictim_1 slices_IndexFunc_Line_of_i_FrameVictim_1
  have := findLoop (L := slices_IndexFunc_Line_of_i_FrameVictim_1_L0 fl m.c.l (i : Int)) (l := m.c.l) (p := fun x : Ln => x.wi && (x.fr == (i : Int))) (res := fun i => (i : Int))
    (fun fuel j h => by
      rw [slices_IndexFunc_Line_of_i_FrameVictim_1_L0.eq_2, decide_eq_true (by omega : (j : Int) < (m.c.l.length : Int)), cot, idx_nat h]
      simp only [obs, i_FrameVictim_1]
      rw [ck_succ (by omega)]
      cases m.c.l[j].wi <;> cases (m.c.l[j].fr == (i : Int)) <;> rfl)
    (fun fuel => by rw [slices_IndexFunc_Line_of_i_FrameVictim_1_L0.eq_2, decide_eq_false (by omega), cof]) fl 0 (by omega) (by omega)
  rw [show ((0 : Nat) : Int) = 0 from rfl, List.drop_zero] at this
  rw [this]
  simp only [obs]
  by_cases h0 : 0 ≤ fx (fun x : Ln => x.wi && (x.fr == (i : Int))) m.c.l 0
  · rw [if_pos h0]
    simp only [obs]
    obtain ⟨j, hj, e, hp⟩ := fx_at h0
    rw [decide_eq_true (by omega)]
    unfold wiredAt
    congr 1
    symm
    rw [Bool.not_eq_true']
    apply Bool.eq_false_iff.2
    intro hu
    rw [upto_iff] at hu
    have := hu j (by omega) (by omega)
    rw [lnAt_lt hj, hp] at this
    cases this
  · rw [if_neg h0]
    simp only [obs]
    rw [decide_eq_false (by omega)]
    unfold wiredAt
    congr 1
    symm
    rw [Bool.not_eq_false']
    rw [upto_iff]
    intro j _ hj
    have := fx_none (Int.not_le.1 h0) m.c.l[j] (List.getElem_mem (by omega))
    rw [lnAt_lt (by omega), this]; rfl
theorem sWired {m : Mc} (hC : CO m.c) {i : Nat} (hf : 1048576 < fl) : s_l7Wired fl m (i : Int) = some (wiredAt m i) := by
  have n2 := hC.n2
  unfold s_l7Wired
  have := allLoop (L := s_l7Wired_L0 fl m (i : Int)) (n := m.c.l.length) (p := fun j => !((lnAt m.c.l j).wi && ((lnAt m.c.l j).fr == (i : Int)))) (bad := true)
    (fun fuel j hj => by
      rw [s_l7Wired_L0.eq_2, decide_eq_true (by omega : (j : Int) < (m.c.l.length : Int)), cot, idx_nat hj]
      simp only [obs]
      rw [ck_succ (by omega)]
      have hok := hC.ok j hj
      rw [lnAt_lt hj] at hok ⊢
      cases hv : m.c.l[j].va with
      | true => cases m.c.l[j].wi <;> cases (m.c.l[j].fr == (i : Int)) <;> rfl
      | false =>
        unfold lineOk at hok
        rw [hv, cof] at hok
        have e : m.c.l[j] = lnZ := by simpa using hok
        have hw : m.c.l[j].wi = false := by rw [e]; rfl
        rw [hw]; rfl)
    (fun fuel => by rw [s_l7Wired_L0.eq_2, decide_eq_false (by omega), cof]) fl 0 (by omega) (by omega)
  rw [show ((0 : Nat) : Int) = 0 from rfl, Nat.sub_zero] at this
  rw [this]
  simp only [obs]
  unfold wiredAt
  cases upto (fun j => !((lnAt m.c.l j).wi && ((lnAt m.c.l j).fr == (i : Int)))) 0 m.c.l.length <;> rfl
theorem iTick {m : Mm} (hC : m.m.c.l.length ≤ 1048576) (he : m.k.length = m.m.t.f.length) (hn : m.k.length ≤ 16) (hf : 1048576 < fl) : ∀ s fuel h (k : List Bool) i, h < m.k.length → k.length = m.k.length → i + s = 2 * m.k.length → s < fuel →
    (∃ v, i_FrameVictim_L0 fl m ((2 * m.k.length : Nat) : Int) fuel (h : Int) k (i : Int) = some (match tick m.m m.k.length h k s with | some (a, h', k') => .ret (⟨m.m, k', (h' : Int)⟩, (a : Int), true) | none => .out v)) := by
  intro s
  induction s with
  | zero =>
    intro fuel h k i hh hk hi hfu
    obtain ⟨f, rfl⟩ : ∃ f, fuel = f + 1 := ⟨fuel - 1, by omega⟩
    rw [i_FrameVictim_L0.eq_2, decide_eq_false (by omega), cof]
    exact ⟨_, rfl⟩
  | succ s ih =>
    intro fuel h k i hh hk hi hfu
    obtain ⟨f, rfl⟩ : ∃ f, fuel = f + 1 := ⟨fuel - 1, by omega⟩
    rw [i_FrameVictim_L0.eq_2, decide_eq_true (by omega), cot, ck_succ (by omega)]
    simp only [obs]
    rw [remO_nat (by omega)]
    simp only [obs]
    rw [iWired hC hf, idx_nat (by omega : h < m.m.t.f.length)]
    simp only [obs]
    rw [tick, show m.m.t.f.getD h freeF = m.m.t.f[h] from by simp [he ▸ hh], ck_succ (by omega), idx_nat (by omega : h < k.length), show k.getD h false = k[h] from by simp [hk.symm ▸ hh]]
    have hm := Nat.mod_lt (h + 1) (show 0 < m.k.length by omega)
    obtain ⟨v1, h1⟩ := ih f _ k (i + 1) hm hk (by omega) (by omega)
    obtain ⟨v2, h2⟩ := ih f _ (k.set h false) (i + 1) hm (by simp [hk]) (by omega) (by omega)
    cases m.m.t.f[h].u with
    | false =>
      simp only [Bool.not_false, cot, obs, Bool.true_or]
      exact ⟨v1, h1⟩
    | true =>
      simp only [Bool.not_true, cof, obs, Bool.false_or]
      cases wiredAt m.m h with
      | true => simp only [cot, obs]; exact ⟨v1, h1⟩
      | false =>
        simp only [cof, obs]
        cases k[h] with
        | true => simp only [cot, Int.toNat_natCast]; exact ⟨v2, h2⟩
        | false => refine ⟨v1, ?_⟩; simp only [cof]
theorem sTick {m : Mm} (hC : CO m.m.c) (he : m.k.length = m.m.t.f.length) (hn : m.k.length ≤ 16) (hf : 1048576 < fl) : ∀ s fuel h (k : List Bool) i, h < m.k.length → k.length = m.k.length → i + s = 2 * m.k.length → s < fuel →
    (∃ v, s_l7Clock_L0 fl m fuel (h : Int) k (i : Int) = some (match tick m.m m.k.length h k s with | some (a, h', k') => .ret (⟨m.m, k', (h' : Int)⟩, (a : Int)) | none => .out v)) := by
  intro s
  induction s with
  | zero =>
    intro fuel h k i hh hk hi hfu
    obtain ⟨f, rfl⟩ : ∃ f, fuel = f + 1 := ⟨fuel - 1, by omega⟩
    rw [s_l7Clock_L0.eq_2, ck_in (by omega)]
    simp only [obs]
    rw [decide_eq_false (by omega), cof]
    exact ⟨_, rfl⟩
  | succ s ih =>
    intro fuel h k i hh hk hi hfu
    obtain ⟨f, rfl⟩ : ∃ f, fuel = f + 1 := ⟨fuel - 1, by omega⟩
    rw [s_l7Clock_L0.eq_2, ck_in (by omega)]
    simp only [obs]
    rw [decide_eq_true (by omega), cot, ck_succ (by omega)]
    simp only [obs]
    rw [remO_nat (by omega)]
    simp only [obs]
    rw [sWired hC hf, idx_nat (by omega : h < m.m.t.f.length)]
    simp only [obs]
    rw [tick, show m.m.t.f.getD h freeF = m.m.t.f[h] from by simp [he ▸ hh], ck_succ (by omega), idx_nat (by omega : h < k.length), show k.getD h false = k[h] from by simp [hk.symm ▸ hh]]
    have hm := Nat.mod_lt (h + 1) (show 0 < m.k.length by omega)
    obtain ⟨v1, h1⟩ := ih f _ k (i + 1) hm hk (by omega) (by omega)
    obtain ⟨v2, h2⟩ := ih f _ (k.set h false) (i + 1) hm (by simp [hk]) (by omega) (by omega)
    cases m.m.t.f[h].u with
    | false =>
      simp only [Bool.not_false, cot, obs, Bool.true_or]
      exact ⟨v1, h1⟩
    | true =>
      simp only [Bool.not_true, cof, obs, Bool.false_or]
      cases wiredAt m.m h with
      | true => simp only [cot, obs]; exact ⟨v1, h1⟩
      | false =>
        simp only [cof, obs]
        cases k[h] with
        | true => simp only [Bool.not_true, cof, obs, Int.toNat_natCast]; exact ⟨v2, h2⟩
        | false => refine ⟨v1, ?_⟩; simp only [Bool.not_false, cot, cof]
theorem tick_len {m : Mc} {n : Nat} : ∀ {s h : Nat} {k : List Bool} {a h' : Nat} {k' : List Bool}, tick m n h k s = some (a, h', k') → k'.length = k.length
  | 0, _, _, _, _, _, e => by cases e
  | s + 1, h, k, a, h', k', e => by
    rw [tick] at e
    cases hc : (!(m.t.f.getD h freeF).u || wiredAt m h) with
    | true => rw [hc, cot] at e; exact tick_len e
    | false =>
      rw [hc, cof] at e
      cases hk : k.getD h false with
      | true => rw [hk, cot] at e; rw [tick_len e]; simp
      | false => rw [hk, cof] at e; cases e; rfl
noncomputable def victR (m : Mm) : Mm × Int × Bool := if memOk m = true then (match tick m.m m.k.length m.h.toNat m.k (2 * m.k.length) with | some (a, h', k') => (⟨m.m, k', (h' : Int)⟩, (a : Int), true) | none => (mm0, 0, false)) else (mm0, 0, false)
theorem victR_len {m : Mm} (hN : mmN m ≤ 1048576) : mmN (victR m).1 ≤ 1048576 := by
  unfold victR
  split
  · cases h : tick m.m m.k.length m.h.toNat m.k (2 * m.k.length) with
    | none => simp [mmN, mm0, mcN, mc0]
    | some q =>
      obtain ⟨a, h', k'⟩ := q
      have := tick_len h
      simp only [mmN] at hN ⊢
      omega
  · simp [mmN, mm0, mcN, mc0]
structure NO (m : Mm) : Prop where
  mo : MO m.m
  k : m.k.length = m.m.t.f.length
  h0 : 0 ≤ m.h
  h1 : m.h < (m.m.t.f.length : Int)
theorem memOk_no {m : Mm} (h : memOk m = true) : NO m := by
  unfold memOk at h
  simp only [Bool.and_eq_true, within_iff, beq_iff_eq] at h
  obtain ⟨⟨⟨a, b⟩, c, d⟩, _⟩ := h
  exact ⟨machineOk_iff.1 a, by omega, c, d⟩
theorem iVict_eq {m : Mm} (hN : mmN m ≤ 1048576) (hf : 1048576 < fl) : i_FrameVictim fl m = some (victR m) := by
  unfold i_FrameVictim victR
  rw [iMem_eq hN hf]
  simp only [obs]
  cases hm : memOk m with
  | false => simp [mm0, mc0]
  | true =>
    have h := memOk_no hm
    obtain ⟨s1, s2, s3, s4⟩ := h.mo.small
    have e := h.k
    have g0 := h.h0
    have g1 := h.h1
    rw [iMClone hN]
    simp only [obs, Bool.not_true, cof, if_true]
    rw [ck_in (by omega)]
    simp only [obs]
    obtain ⟨a, ha⟩ : ∃ a : Nat, m.h = a := ⟨m.h.toNat, by omega⟩
    obtain ⟨v, hv⟩ := iTick (fl := fl) (m := m) (by omega) e (by omega) hf (2 * m.k.length) fl a m.k 0 (by omega) rfl (by omega) (by omega)
    rw [show ((0 : Nat) : Int) = 0 from rfl, show ((2 * m.k.length : Nat) : Int) = 2 * (m.k.length : Int) by omega] at hv
    rw [ha, hv]
    simp only [obs, Int.toNat_natCast]
    cases tick m.m m.k.length a m.k (2 * m.k.length) with
    | none => rfl
    | some q => obtain ⟨x, y, z⟩ := q; rfl
theorem sVict_eq {m : Mm} (hN : mmN m ≤ 1048576) (hf : 1048576 < fl) : s_FrameVictim fl m = some (victR m) := by
  unfold s_FrameVictim victR s_l7Clock
  rw [sMem_eq hN hf]
  simp only [obs]
  cases hm : memOk m with
  | false => simp [mm0, mc0]
  | true =>
    have h := memOk_no hm
    obtain ⟨s1, s2, s3, s4⟩ := h.mo.small
    have e := h.k
    have g0 := h.h0
    have g1 := h.h1
    rw [sMCopy hN]
    simp only [obs, Bool.not_true, cof, if_true]
    obtain ⟨a, ha⟩ : ∃ a : Nat, m.h = a := ⟨m.h.toNat, by omega⟩
    obtain ⟨v, hv⟩ := sTick (fl := fl) (m := m) h.mo.c e (by omega) hf (2 * m.k.length) fl a m.k 0 (by omega) rfl (by omega) (by omega)
    rw [show ((0 : Nat) : Int) = 0 from rfl] at hv
    rw [ha, hv]
    simp only [obs, Int.toNat_natCast]
    cases tick m.m m.k.length a m.k (2 * m.k.length) with
    | none => rfl
    | some q =>
      obtain ⟨x, y, z⟩ := q
      simp only [obs]
      rw [decide_eq_false (by omega), cof]
end Go.Proofs.YtbgodaeccgjdgaaGreatDoor
