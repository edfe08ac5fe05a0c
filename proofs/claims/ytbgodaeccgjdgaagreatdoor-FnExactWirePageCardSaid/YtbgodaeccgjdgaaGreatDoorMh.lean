/- Plain laws: valid machines, both sides. -/
import Derived.Test.YtbgodaeccgjdgaaGreatDoorMg
import Derived.Test.YtbgodaeccgjdgaaGreatDoorLn
set_option linter.unusedSimpArgs false
set_option linter.unusedVariables false
namespace Go.Proofs.YtbgodaeccgjdgaaGreatDoor
open Go.RowKit
variable {fl : Nat}
theorem iKeyFor (s p : Int) : i_KeyFor fl s p = some (keyFor s p) := by unfold i_KeyFor keyFor; cases decide (128 ≤ p) <;> rfl
theorem sKeyFor (s p : Int) : s_KeyFor fl s p = some (keyFor s p) := by unfold s_KeyFor keyFor; cases decide (128 ≤ p) <;> rfl
theorem iFrames_eq {m : Mc} (hl : m.t.f.length ≤ 1048576) (hf : 1048576 < fl) : i_MachineValid_L0 fl m fl 0 = some (if upto (fun i => frameFits (m.t.f.getD i freeF)) 0 m.t.f.length then .out (m.t.f.length : Int) else .ret false) := by
  have := allLoop (L := i_MachineValid_L0 fl m) (n := m.t.f.length) (p := fun i => frameFits (m.t.f.getD i freeF)) (bad := false)
    (fun fuel j hj => by
      rw [i_MachineValid_L0.eq_2, decide_eq_true (by omega : (j : Int) < (m.t.f.length : Int)), cot, idx_nat hj]
      simp only [obs]
      rw [show m.t.f.getD j freeF = m.t.f[j] from by simp [hj], ck_succ (by omega)]
      unfold frameFits bne
      cases m.t.f[j].u <;> cases decide (128 ≤ m.t.f[j].k.p) <;> cases (m.t.f[j].k.s == 0) <;> rfl)
    (fun fuel => by rw [i_MachineValid_L0.eq_2, decide_eq_false (by omega), cof]) fl 0 (by omega) (by omega)
  rw [show ((0 : Nat) : Int) = 0 from rfl, Nat.sub_zero] at this
  exact this
theorem sFrames_eq {m : Mc} (hl : m.t.f.length ≤ 1048576) (hf : 1048576 < fl) : s_MachineValid_L0 fl m fl 0 = some (if upto (fun i => frameFits (m.t.f.getD i freeF)) 0 m.t.f.length then .out (m.t.f.length : Int) else .ret false) := by
  have := allLoop (L := s_MachineValid_L0 fl m) (n := m.t.f.length) (p := fun i => frameFits (m.t.f.getD i freeF)) (bad := false)
    (fun fuel j hj => by
      rw [s_MachineValid_L0.eq_2, decide_eq_true (by omega : (j : Int) < (m.t.f.length : Int)), cot, idx_nat hj]
      simp only [obs]
      rw [show m.t.f.getD j freeF = m.t.f[j] from by simp [hj], ck_succ (by omega)]
      unfold frameFits bne
      cases m.t.f[j].u <;> cases decide (128 ≤ m.t.f[j].k.p) <;> cases (m.t.f[j].k.s == 0) <;> rfl)
    (fun fuel => by rw [s_MachineValid_L0.eq_2, decide_eq_false (by omega), cof]) fl 0 (by omega) (by omega)
  rw [show ((0 : Nat) : Int) = 0 from rfl, Nat.sub_zero] at this
  exact this
/-- what a line says of a key is so -/
def keyHas (m : Mc) (k : K) (fr ri : Int) : Bool := decide (0 ≤ findF m.t.f k) && (findF m.t.f k == fr) && ((m.t.f.getD (findF m.t.f k).toNat freeF).r == ri)
theorem iTail {ρ : Type} {m : Mc} {k : K} {fr ri : Int} {A B : Option ρ} (hl : m.t.f.length ≤ 1048576) (hf : 1048576 < fl) :
    (Option.bind (i_Table_find fl m.t k) fun x31 => Option.bind (cond (decide (x31 < 0)) (some true) (some (x31 != fr))) fun y32 => Option.bind (cond y32 (some true) (Option.bind (idx m.t.f x31) fun x34 => some (x34.r != ri))) fun y33 => cond y33 A B) = cond (keyHas m k fr ri) B A := by
  rw [find_eq hl hf]
  simp only [obs]
  unfold keyHas bne
  have hb := (findF_bd (l := m.t.f) (k := k)).1
  generalize findF m.t.f k = at_ at hb ⊢
  by_cases h0 : at_ < 0
  · rw [decide_eq_true h0, decide_eq_false (by omega : ¬ 0 ≤ at_)]; simp [obs]
  · rw [decide_eq_false h0, decide_eq_true (by omega : 0 ≤ at_)]
    simp only [cof, obs, Bool.true_and]
    obtain ⟨j, rfl⟩ : ∃ j : Nat, at_ = j := ⟨at_.toNat, by omega⟩
    have hj : j < m.t.f.length := by omega
    rw [idx_nat hj]
    simp only [obs, Int.toNat_natCast]
    rw [show m.t.f.getD j freeF = m.t.f[j] from by simp [hj]]
    cases ((j : Int) == fr) <;> cases (m.t.f[j].r == ri) <;> rfl
theorem sTail {m : Mc} {k : K} {fr ri : Int} {w g : Bool} (ht : TOk m.t) (hk : keyOk k = true) (hf : 1048576 < fl) :
    (Option.bind (s_l3Find fl m.t k) fun x8 => Option.bind (cond (decide (0 ≤ x8.1)) (some (x8.1 == fr)) (some false)) fun y9 => Option.bind (cond y9 (Option.bind (idx m.t.f x8.1) fun x11 => some (x11.r == ri)) (some false)) fun y10 => Option.bind (cond y10 (Option.bind (cond (!w) (some true) (some g)) fun y13 => some y13) (some false)) fun y12 => some y12) = some (keyHas m k fr ri && (!w || g)) := by
  obtain ⟨s, h⟩ := sFind_eq (fl := fl) ht hk hf
  rw [h]
  simp only [obs]
  unfold keyHas
  have hb := (findF_bd (l := m.t.f) (k := k)).1
  generalize findF m.t.f k = at_ at hb ⊢
  by_cases h0 : at_ < 0
  · rw [decide_eq_false (by omega : ¬ 0 ≤ at_)]; simp [obs]
  · rw [decide_eq_true (by omega : 0 ≤ at_)]
    simp only [cot, obs, Bool.true_and]
    obtain ⟨j, rfl⟩ : ∃ j : Nat, at_ = j := ⟨at_.toNat, by omega⟩
    have hj : j < m.t.f.length := by omega
    rw [idx_nat hj]
    simp only [obs, Int.toNat_natCast]
    rw [show m.t.f.getD j freeF = m.t.f[j] from by simp [hj]]
    cases ((j : Int) == fr) <;> cases (m.t.f[j].r == ri) <;> cases w <;> cases g <;> rfl
theorem lineHas_eq (m : Mc) (x : Ln) : lineHas m x = ((decide (128 ≤ x.pg) == (x.tg == -1)) && (!x.wi || x.tg == -1) && (x.tg == -1 || decide (0 ≤ spF m.g x.tg)) && keyHas m (keyFor (lineSpace m x) x.pg) x.fr x.ri) := by
  unfold lineHas keyHas
  simp only [Bool.and_assoc]
theorem iLines_eq {m : Mc} (hl : m.t.f.length ≤ 1048576) (hc : m.c.l.length ≤ 1048576) (hg : m.g.o.length ≤ 1048576) (hT : tagsOk m.g = true) (hf : 1048576 < fl) : i_MachineValid_L1 fl m fl 0 = some (if upto (fun i => !(lnAt m.c.l i).va || lineHas m (lnAt m.c.l i)) 0 m.c.l.length then .out (m.c.l.length : Int) else .ret false) := by
  have := allLoop (L := i_MachineValid_L1 fl m) (n := m.c.l.length) (p := fun i => !(lnAt m.c.l i).va || lineHas m (lnAt m.c.l i)) (bad := false)
    (fun fuel j hj => by
      rw [i_MachineValid_L1.eq_2, decide_eq_true (by omega : (j : Int) < (m.c.l.length : Int)), cot, idx_nat hj]
      simp only [obs]
      rw [lnAt_lt hj, ck_succ (by omega)]
      generalize m.c.l[j] = x
      cases hv : x.va with
      | false => simp [obs]
      | true =>
        simp only [Bool.not_true, cof, obs, Bool.false_or]
        rw [lineHas_eq, iSpace_eq hg hf]
        simp only [obs, iKeyFor, iTail hl hf]
        unfold lineSpace spaceR
        rw [hT]
        cases hs : decide (128 ≤ x.pg) <;> cases ht : (x.tg == -1) <;> cases hw : x.wi <;> simp [obs]
        by_cases h0 : 0 ≤ spF m.g x.tg
        · simp [h0]
        · simp [h0])
    (fun fuel => by rw [i_MachineValid_L1.eq_2, decide_eq_false (by omega), cof]) fl 0 (by omega) (by omega)
  rw [show ((0 : Nat) : Int) = 0 from rfl, Nat.sub_zero] at this
  exact this
theorem keyFor_ok {s p : Int} (hs : 0 ≤ s ∧ s < 16) (hp : within p 256 = true) : keyOk (keyFor s p) = true := by
  have := within_iff.1 hp
  rw [keyOk_iff]
  unfold keyFor
  cases decide (128 ≤ p) <;> simp <;> omega
theorem sLine6 {m : Mc} {x : Ln} (ht : TOk m.t) (hg : GO m.g) (hx : lineOk x = true) (hv : x.va = true) (hf : 1048576 < fl) : s_l6Line fl m x = some (lineHas m x) := by
  have hgl : m.g.o.length ≤ 1048576 := by have := hg.len; have := hg.n2; have := hg.c2; omega
  have hp : within x.pg 256 = true := by
    unfold lineOk at hx
    rw [hv, cot] at hx
    simp only [Bool.and_eq_true] at hx
    exact hx.1.1.2
  rw [lineHas_eq]
  unfold s_l6Line
  rw [sSpace_eq hgl hf]
  simp only [obs, sKeyFor]
  unfold lineSpace spaceR
  rw [tagsOk_iff.2 hg]
  unfold bne
  by_cases h0 : 0 ≤ spF m.g x.tg
  · obtain ⟨j, hj, e, _⟩ := fx_at (p := fun o : Ow => o.tg == x.tg) (l := m.g.o) h0
    have hsp := hg.s1 j hj
    have e' : (spF m.g x.tg).toNat = j := by unfold spF; rw [e]; simp
    rw [if_pos ⟨rfl, h0⟩, e', decide_eq_true h0]
    simp only [Bool.not_true, cof, Bool.or_true, Bool.and_true]
    rw [sTail ht (keyFor_ok hsp hp) hf, sTail ht (keyFor_ok (by omega) hp) hf]
    cases hs : decide (128 ≤ x.pg) <;> cases htg : (x.tg == -1) <;> cases hw : x.wi <;> simp
  · rw [if_neg (fun hh => h0 hh.2), decide_eq_false h0]
    simp only [Bool.not_false, cot, Bool.or_false]
    rw [sTail ht (keyFor_ok (by omega) hp) hf]
    cases hs : decide (128 ≤ x.pg) <;> cases htg : (x.tg == -1) <;> cases hw : x.wi <;> simp
theorem sLines_eq {m : Mc} (ht : TOk m.t) (hc : CO m.c) (hg : GO m.g) (hf : 1048576 < fl) : s_MachineValid_L1 fl m fl 0 = some (if upto (fun i => !(lnAt m.c.l i).va || lineHas m (lnAt m.c.l i)) 0 m.c.l.length then .out (m.c.l.length : Int) else .ret false) := by
  have h8 := hc.n2
  have := allLoop (L := s_MachineValid_L1 fl m) (n := m.c.l.length) (p := fun i => !(lnAt m.c.l i).va || lineHas m (lnAt m.c.l i)) (bad := false)
    (fun fuel j hj => by
      rw [s_MachineValid_L1.eq_2, decide_eq_true (by omega : (j : Int) < (m.c.l.length : Int)), cot, idx_nat hj]
      simp only [obs]
      have hok := hc.ok j hj
      rw [lnAt_lt hj] at hok ⊢
      rw [ck_succ (by omega)]
      cases hv : m.c.l[j].va with
      | false => simp [obs]
      | true =>
        rw [cot, sLine6 ht hg hok hv hf]
        simp only [obs, Bool.not_true, Bool.false_or]
        cases lineHas m m.c.l[j] <;> simp)
    (fun fuel => by rw [s_MachineValid_L1.eq_2, decide_eq_false (by omega), cof]) fl 0 (by omega) (by omega)
  rw [show ((0 : Nat) : Int) = 0 from rfl, Nat.sub_zero] at this
  exact this
theorem iMachine_eq {m : Mc} (hN : mcN m ≤ 1048576) (hf : 1048576 < fl) : i_MachineValid fl m = some (machineOk m) := by
  unfold mcN at hN
  unfold i_MachineValid machineOk i_TableValid
  rw [iCache_eq hf, iTags_eq (by omega) hf, own_eq (by omega) hf]
  cases hT : tableOk m.t with
  | false => simp [obs]
  | true =>
    cases hC : cacheOk m.c with
    | false => simp [obs]
    | true =>
      cases hG : tagsOk m.g with
      | false => simp [obs]
      | true =>
        simp only [obs, Bool.not_true, cof, Bool.true_and]
        by_cases h0 : ownF m.g m.s < 0
        · rw [decide_eq_true h0, decide_eq_false (by omega : ¬ 0 ≤ ownF m.g m.s)]; simp
        · rw [decide_eq_false h0, decide_eq_true (by omega : 0 ≤ ownF m.g m.s), iFrames_eq (by omega) hf]
          simp only [obs, cof, Bool.true_and]
          cases upto (fun i => frameFits (m.t.f.getD i freeF)) 0 m.t.f.length with
          | false => simp
          | true =>
            simp only [if_true, Bool.true_and]
            rw [iLines_eq (by omega) (by omega) (by omega) hG hf]
            simp only [obs]
            cases upto (fun i => !(lnAt m.c.l i).va || lineHas m (lnAt m.c.l i)) 0 m.c.l.length <;> simp
theorem sMachine_eq {m : Mc} (hN : mcN m ≤ 1048576) (hf : 1048576 < fl) : s_MachineValid fl m = some (machineOk m) := by
  unfold mcN at hN
  unfold s_MachineValid machineOk s_TableValid
  rw [sCache_eq hf, sTags_eq (by omega) hf, sOwn_eq (by omega) hf]
  cases hT : tableOk m.t with
  | false => simp [obs]
  | true =>
    cases hC : cacheOk m.c with
    | false => simp [obs]
    | true =>
      cases hG : tagsOk m.g with
      | false => simp [obs]
      | true =>
        simp only [obs, Bool.not_true, cof, Bool.true_and]
        by_cases h0 : ownF m.g m.s < 0
        · rw [decide_eq_true h0, decide_eq_false (by omega : ¬ 0 ≤ ownF m.g m.s)]; simp
        · rw [decide_eq_false h0, decide_eq_true (by omega : 0 ≤ ownF m.g m.s), sFrames_eq (by omega) hf]
          simp only [obs, cof, Bool.true_and]
          cases upto (fun i => frameFits (m.t.f.getD i freeF)) 0 m.t.f.length with
          | false => simp
          | true =>
            simp only [if_true, Bool.true_and]
            rw [sLines_eq (tableOk_iff.1 hT) (cacheOk_iff.1 hC) (tagsOk_iff.1 hG) hf]
            simp only [obs]
            cases upto (fun i => !(lnAt m.c.l i).va || lineHas m (lnAt m.c.l i)) 0 m.c.l.length <;> simp
structure MO (m : Mc) : Prop where
  t : TOk m.t
  c : CO m.c
  g : GO m.g
  s : 0 ≤ ownF m.g m.s
  f : ∀ i, i < m.t.f.length → frameFits (m.t.f.getD i freeF) = true
  l : ∀ i, i < m.c.l.length → (lnAt m.c.l i).va = true → lineHas m (lnAt m.c.l i) = true
theorem machineOk_iff {m : Mc} : machineOk m = true ↔ MO m := by
  unfold machineOk
  simp only [Bool.and_eq_true, decide_eq_true_eq, tableOk_iff, cacheOk_iff, tagsOk_iff, upto_iff, Nat.zero_add, Bool.or_eq_true, Bool.not_eq_true']
  constructor
  · rintro ⟨⟨⟨⟨⟨a, b⟩, c⟩, d⟩, e⟩, f⟩
    refine ⟨a, b, c, d, fun i hi => e i (by omega) hi, fun i hi hv => ?_⟩
    rcases f i (by omega) hi with h | h
    · rw [hv] at h; cases h
    · exact h
  · rintro ⟨a, b, c, d, e, f⟩
    refine ⟨⟨⟨⟨⟨a, b⟩, c⟩, d⟩, fun i _ hi => e i hi⟩, fun i _ hi => ?_⟩
    cases hv : (lnAt m.c.l i).va with
    | false => exact .inl rfl
    | true => exact .inr (f i hi hv)
end Go.Proofs.YtbgodaeccgjdgaaGreatDoor
