/- Plain laws: what is valid, both sides: lines, caches, tags. -/
import Derived.Test.YtbgodaeccgjdgaaGreatDoorMe
set_option linter.unusedSimpArgs false
set_option linter.unusedVariables false
namespace Go.Proofs.YtbgodaeccgjdgaaGreatDoor
open Go.RowKit
variable {fl : Nat}
/-- a loop that looks for the first place -/
theorem findLoop {α ρ : Type} {L : Nat → Int → Option (LO Int ρ)} {l : List α} {p : α → Bool} {res : Nat → ρ}
    (step : ∀ fuel i (h : i < l.length), L (fuel + 1) (i : Int) = if p l[i] then some (.ret (res i)) else L fuel ((i + 1 : Nat) : Int))
    (stop : ∀ fuel, L (fuel + 1) (l.length : Int) = some (.out (l.length : Int))) : ∀ fuel i, i ≤ l.length → l.length - i < fuel →
    L fuel (i : Int) = some (if 0 ≤ fx p (l.drop i) i then .ret (res (fx p (l.drop i) i).toNat) else .out (l.length : Int)) := by
  intro fuel
  induction fuel with
  | zero => intro i _ h; omega
  | succ fuel ih =>
    intro i hi hf
    by_cases h : i < l.length
    · rw [step fuel i h, fx_drop h]
      by_cases hp : p l[i] = true
      · rw [if_pos hp, if_pos hp, if_pos (by omega)]; simp
      · rw [if_neg hp, if_neg hp]; exact ih (i + 1) (by omega) (by omega)
    · have e : i = l.length := by omega
      subst e
      rw [stop, fx_end (Nat.le_refl _), if_neg (by omega)]
/-- a loop that looks whether each place is good -/
theorem allLoop {ρ : Type} {L : Nat → Int → Option (LO Int ρ)} {n : Nat} {p : Nat → Bool} {bad : ρ}
    (step : ∀ fuel i, i < n → L (fuel + 1) (i : Int) = if p i then L fuel ((i + 1 : Nat) : Int) else some (.ret bad))
    (stop : ∀ fuel, L (fuel + 1) (n : Int) = some (.out (n : Int))) : ∀ fuel i, i ≤ n → n - i < fuel → L fuel (i : Int) = some (if upto p i (n - i) then .out (n : Int) else .ret bad) := by
  intro fuel
  induction fuel with
  | zero => intro i _ h; omega
  | succ fuel ih =>
    intro i hi hf
    by_cases h : i < n
    · obtain ⟨k, hk⟩ : ∃ k, n - i = k + 1 := ⟨n - i - 1, by omega⟩
      have hk' : n - (i + 1) = k := by omega
      rw [step fuel i h, hk, upto]
      cases hp : p i with
      | true =>
        rw [if_pos rfl, Bool.true_and]
        have := ih (i + 1) (by omega) (by omega)
        rw [hk'] at this
        exact this
      | false => simp
    · have e : i = n := by omega
      subst e
      rw [stop, Nat.sub_self]; rfl
theorem s1Page (x : Int) : s_l1Page fl x = some (within x 256) := by
  unfold s_l1Page within; cases decide (0 ≤ x) <;> rfl
theorem s1Space (x : Int) : s_l1Space fl x = some (within x 16) := by
  unfold s_l1Space within; cases decide (0 ≤ x) <;> rfl
theorem iTag_eq (x : Int) : i_tagValid fl x = some (tagIn x) := by
  unfold i_tagValid tagIn; cases decide (-1 ≤ x) <;> rfl
theorem iLine_eq (x : Ln) : i_lineValid fl x = some (lineOk x) := by
  unfold i_lineValid lineOk
  rw [iTag_eq, within_eq, within_eq, iRights_eq]
  cases x.va <;> cases tagIn x.tg <;> cases within x.pg 256 <;> cases within x.fr 16 <;> rfl
theorem sLine_eq (x : Ln) : s_l4Line fl x = some (lineOk x) := by
  unfold s_l4Line lineOk
  rw [s1Page, sRights_eq]
  unfold tagIn
  cases x.va <;> cases decide (-1 ≤ x.tg) <;> cases decide (x.tg < 8) <;> cases within x.pg 256 <;> (unfold within; cases decide (0 ≤ x.fr) <;> cases decide (x.fr < 16) <;> rfl)
theorem iClash_eq (x y : Ln) : i_clash fl x y = some (clash x y) := by
  unfold i_clash clash
  cases x.va <;> cases y.va <;> cases (x.pg == y.pg) <;> cases (x.tg == y.tg) <;> cases (x.tg == -1) <;> rfl
theorem fits_eq (x : Ln) (tag page : Int) : i_Cache_place_1 fl x page tag = some (fits tag page x) := by
  unfold i_Cache_place_1 fits
  cases x.va <;> cases (x.pg == page) <;> cases (x.tg == tag) <;> rfl
theorem sFits_eq (x : Ln) (tag page : Int) : s_l4Fits fl x tag page = some (fits tag page x) := by
  unfold s_l4Fits fits
  cases x.va <;> cases (x.pg == page) <;> cases (x.tg == tag) <;> rfl

/-! ### the place of a line -/
theorem fx_ret {α : Type} {p : α → Bool} {l : List α} {f : Option Int → Option Int} : (match (if 0 ≤ fx p l 0 then LO.ret ((fx p l 0).toNat : Int) else LO.out (l.length : Int) : LO Int Int) with | .ret r' => some r' | .out _ => some (-1)) = some (fx p l 0) := by
  have hb := fx_bd (p := p) (l := l)
  by_cases h : 0 ≤ fx p l 0
  · rw [if_pos h]; simp only []; congr 1; omega
  · rw [if_neg h]; simp only []; congr 1; omega
theorem place_eq {c : Ca} {tag page : Int} (hl : c.l.length ≤ 1048576) (hf : 1048576 < fl) : i_Cache_place fl c tag page = some (fx (fits tag page) c.l 0) := by
  unfold i_Cache_place slices_IndexFunc_Line_of_i_Cache_place_1
  have := findLoop (L := slices_IndexFunc_Line_of_i_Cache_place_1_L0 fl c.l page tag) (l := c.l) (p := fits tag page) (res := fun i => (i : Int))
    (fun fuel i h => by
      rw [slices_IndexFunc_Line_of_i_Cache_place_1_L0.eq_2, decide_eq_true (by omega : (i : Int) < (c.l.length : Int)), cot, idx_nat h]
      simp only [obs, fits_eq]
      cases fits tag page c.l[i] with
      | true => rfl
      | false => rw [cof, ck_succ (by omega)]; rfl)
    (fun fuel => by rw [slices_IndexFunc_Line_of_i_Cache_place_1_L0.eq_2, decide_eq_false (by omega), cof]) fl 0 (by omega) (by omega)
  rw [show ((0 : Nat) : Int) = 0 from rfl, List.drop_zero] at this
  rw [this]
  simp only [obs]
  have hb := fx_bd (p := fits tag page) (l := c.l)
  by_cases h0 : 0 ≤ fx (fits tag page) c.l 0
  · rw [if_pos h0]; simp only [obs]; congr 1; omega
  · rw [if_neg h0]; simp only [obs]; congr 1; omega
theorem sPlace_eq {c : Ca} {tag page : Int} (hl : c.l.length ≤ 1048576) (hf : 1048576 < fl) : s_l4Find fl c tag page = some (fx (fits tag page) c.l 0) := by
  unfold s_l4Find
  have := findLoop (L := s_l4Find_L0 fl c tag page) (l := c.l) (p := fits tag page) (res := fun i => (i : Int))
    (fun fuel i h => by
      rw [s_l4Find_L0.eq_2, decide_eq_true (by omega : (i : Int) < (c.l.length : Int)), cot, idx_nat h]
      simp only [obs, sFits_eq]
      cases fits tag page c.l[i] with
      | true => rfl
      | false => rw [cof, ck_succ (by omega)]; rfl)
    (fun fuel => by rw [s_l4Find_L0.eq_2, decide_eq_false (by omega), cof]) fl 0 (by omega) (by omega)
  rw [show ((0 : Nat) : Int) = 0 from rfl, List.drop_zero] at this
  rw [this]
  simp only [obs]
  exact fx_ret (f := id)
theorem own_eq {t : Tg} {sp : Int} (hl : t.o.length ≤ 1048576) (hf : 1048576 < fl) : i_Tags_own fl t sp = some (ownF t sp) := by
  unfold i_Tags_own slices_IndexFunc_Own_of_i_Tags_own_1
  have := findLoop (L := slices_IndexFunc_Own_of_i_Tags_own_1_L0 fl t.o sp) (l := t.o) (p := fun o : Ow => o.sp == sp) (res := fun i => (i : Int))
    (fun fuel i h => by
      rw [slices_IndexFunc_Own_of_i_Tags_own_1_L0.eq_2, decide_eq_true (by omega : (i : Int) < (t.o.length : Int)), cot, idx_nat h]
      simp only [obs, i_Tags_own_1]
      cases (t.o[i].sp == sp) with
      | true => rfl
      | false => rw [cof, ck_succ (by omega)]; rfl)
    (fun fuel => by rw [slices_IndexFunc_Own_of_i_Tags_own_1_L0.eq_2, decide_eq_false (by omega), cof]) fl 0 (by omega) (by omega)
  rw [show ((0 : Nat) : Int) = 0 from rfl, List.drop_zero] at this
  rw [this]
  simp only [obs]
  unfold ownF
  have hb := fx_bd (p := fun o : Ow => o.sp == sp) (l := t.o)
  by_cases h0 : 0 ≤ fx (fun o : Ow => o.sp == sp) t.o 0
  · rw [if_pos h0]; simp only [obs]; congr 1; omega
  · rw [if_neg h0]; simp only [obs]; congr 1; omega
theorem sOwn_eq {t : Tg} {sp : Int} (hl : t.o.length ≤ 1048576) (hf : 1048576 < fl) : s_l5Find fl t sp = some (ownF t sp) := by
  unfold s_l5Find
  have := findLoop (L := s_l5Find_L0 fl t sp) (l := t.o) (p := fun o : Ow => o.sp == sp) (res := fun i => (i : Int))
    (fun fuel i h => by
      rw [s_l5Find_L0.eq_2, decide_eq_true (by omega : (i : Int) < (t.o.length : Int)), cot, idx_nat h]
      simp only [obs]
      cases (t.o[i].sp == sp) with
      | true => rfl
      | false => rw [cof, ck_succ (by omega)]; rfl)
    (fun fuel => by rw [s_l5Find_L0.eq_2, decide_eq_false (by omega), cof]) fl 0 (by omega) (by omega)
  rw [show ((0 : Nat) : Int) = 0 from rfl, List.drop_zero] at this
  rw [this]
  simp only [obs]
  exact fx_ret (f := id)

/-! ### valid caches -/
theorem iClashes {c : Ca} {i : Nat} {x : Ln} (h : i < c.l.length) (hl : c.l.length ≤ 8) (hf : 1048576 < fl) : i_CacheValid_L1 fl x (c.l.take i) fl 0 = some (if upto (fun j => !clash x (lnAt c.l j)) 0 i then .out (i : Int) else .ret false) := by
  have e : (c.l.take i).length = i := by rw [List.length_take]; omega
  have := allLoop (L := i_CacheValid_L1 fl x (c.l.take i)) (n := i) (p := fun j => !clash x (lnAt c.l j)) (bad := false)
    (fun fuel j hj => by
      have h2 : j < (c.l.take i).length := by omega
      rw [i_CacheValid_L1.eq_2, e, decide_eq_true (by omega : (j : Int) < (i : Int)), cot, idx_nat h2]
      simp only [obs, iClash_eq, List.getElem_take]
      rw [lnAt_lt (by omega)]
      cases clash x c.l[j] with
      | true => rfl
      | false => rw [cof, ck_succ (by omega)]; rfl)
    (fun fuel => by rw [i_CacheValid_L1.eq_2, e, decide_eq_false (by omega), cof]) fl 0 (by omega) (by omega)
  rw [show ((0 : Nat) : Int) = 0 from rfl, Nat.sub_zero] at this
  exact this
theorem takeO_nat {α : Type} {l : List α} {i : Nat} (h : i ≤ l.length) : takeO l (i : Int) = some (l.take i) := by
  unfold takeO; rw [if_pos (by omega)]; simp
theorem iCache_L0 {c : Ca} (hl : c.l.length ≤ 8) (hf : 1048576 < fl) : ∀ fuel i (b : Bool), i ≤ c.l.length → c.l.length - i < fuel →
    i_CacheValid_L0 fl c fuel (i : Int) b = some (if upto (lineGood c.l) i (c.l.length - i) then .out ((c.l.length : Int), b || !upto (fun i => (lnAt c.l i).wi) i (c.l.length - i)) else .ret false) := by
  intro fuel
  induction fuel with
  | zero => intro i b _ h; omega
  | succ fuel ih =>
    intro i b hi hfu
    rw [i_CacheValid_L0.eq_2]
    by_cases h : i < c.l.length
    · obtain ⟨k, hk⟩ : ∃ k, c.l.length - i = k + 1 := ⟨c.l.length - i - 1, by omega⟩
      have hk' : c.l.length - (i + 1) = k := by omega
      have IH := fun b => ih (i + 1) b (by omega) (by omega)
      simp only [hk'] at IH
      rw [decide_eq_true (by omega : (i : Int) < (c.l.length : Int)), cot, idx_nat h]
      simp only [obs, iLine_eq]
      rw [hk, upto, upto, lineGood, lnAt_lt h]
      cases lineOk c.l[i] with
      | false => simp [obs]
      | true =>
        simp only [Bool.not_true, cof, Bool.true_and]
        rw [takeO_nat hi]
        simp only [obs]
        rw [iClashes h hl hf]
        simp only [obs]
        cases upto (fun j => !clash c.l[i] (lnAt c.l j)) 0 i with
        | false => simp
        | true =>
          simp only [if_true, Bool.true_and]
          have : (cond b (some true) (some (!c.l[i].wi))) = some (b || !c.l[i].wi) := by cases b <;> rfl
          rw [this, ck_succ (by omega)]
          simp only [obs]
          rw [IH]
          cases b <;> cases c.l[i].wi <;> rfl
    · have e : i = c.l.length := by omega
      subst e
      rw [decide_eq_false (by omega), cof, Nat.sub_self]
      simp [upto]
theorem iCache_eq {c : Ca} (hf : 1048576 < fl) : i_CacheValid fl c = some (cacheOk c) := by
  unfold i_CacheValid cacheOk
  rw [within_eq]
  by_cases h1 : (c.l.length : Int) < 1
  · rw [decide_eq_true h1, decide_eq_false (by omega : ¬ 1 ≤ c.l.length)]; simp [obs]
  rw [decide_eq_false h1, decide_eq_true (by omega : 1 ≤ c.l.length)]
  by_cases h2 : (8 : Int) < (c.l.length : Int)
  · rw [decide_eq_true h2, decide_eq_false (by omega : ¬ c.l.length ≤ 8)]; simp [obs]
  rw [decide_eq_false h2, decide_eq_true (by omega : c.l.length ≤ 8)]
  cases hw : within c.h c.l.length with
  | false => simp [obs]
  | true =>
    simp only [cof, obs, Bool.not_true, Bool.true_and]
    have := iCache_L0 (fl := fl) (c := c) (by omega) hf fl 0 false (by omega) (by omega)
    rw [show ((0 : Nat) : Int) = 0 from rfl, Nat.sub_zero] at this
    rw [this]
    simp only [obs]
    cases upto (lineGood c.l) 0 c.l.length with
    | false => simp
    | true => simp
theorem sClash1 {c : Ca} {i : Nat} {x : Ln} (h : i < c.l.length) (hl : c.l.length ≤ 8) (hf : 1048576 < fl) : s_CacheValid_L1 fl c (i : Int) x fl 0 = some (if upto (fun j => !clash x (lnAt c.l j)) 0 i then .out (i : Int) else .ret false) := by
  have := allLoop (L := s_CacheValid_L1 fl c (i : Int) x) (n := i) (p := fun j => !clash x (lnAt c.l j)) (bad := false)
    (fun fuel j hj => by
      rw [s_CacheValid_L1.eq_2, decide_eq_true (by omega : (j : Int) < (i : Int)), cot, idx_nat (by omega : j < c.l.length)]
      simp only [obs]
      rw [lnAt_lt (by omega), ck_succ (by omega)]
      unfold clash
      cases x.va <;> cases c.l[j].va <;> cases (x.pg == c.l[j].pg) <;> cases (x.tg == c.l[j].tg) <;> cases (x.tg == -1) <;> cases (c.l[j].tg == -1) <;> rfl)
    (fun fuel => by rw [s_CacheValid_L1.eq_2, decide_eq_false (by omega), cof]) fl 0 (by omega) (by omega)
  rw [show ((0 : Nat) : Int) = 0 from rfl, Nat.sub_zero] at this
  exact this
theorem sClash2 {c : Ca} {i : Nat} {x : Ln} (h : i < c.l.length) (hl : c.l.length ≤ 8) (hf : 1048576 < fl) : s_CacheValid_L2 fl c (i : Int) x fl 0 = some (if upto (fun j => !clash x (lnAt c.l j)) 0 i then .out (i : Int) else .ret false) := by
  have := allLoop (L := s_CacheValid_L2 fl c (i : Int) x) (n := i) (p := fun j => !clash x (lnAt c.l j)) (bad := false)
    (fun fuel j hj => by
      rw [s_CacheValid_L2.eq_2, decide_eq_true (by omega : (j : Int) < (i : Int)), cot, idx_nat (by omega : j < c.l.length)]
      simp only [obs]
      rw [lnAt_lt (by omega), ck_succ (by omega)]
      unfold clash
      cases x.va <;> cases c.l[j].va <;> cases (x.pg == c.l[j].pg) <;> cases (x.tg == c.l[j].tg) <;> cases (x.tg == -1) <;> cases (c.l[j].tg == -1) <;> rfl)
    (fun fuel => by rw [s_CacheValid_L2.eq_2, decide_eq_false (by omega), cof]) fl 0 (by omega) (by omega)
  rw [show ((0 : Nat) : Int) = 0 from rfl, Nat.sub_zero] at this
  exact this
theorem sCache_L0 {c : Ca} (hl : c.l.length ≤ 8) (hf : 1048576 < fl) : ∀ fuel i (v : Nat), v ≤ i → i ≤ c.l.length → c.l.length - i < fuel →
    ∃ v' : Nat, s_CacheValid_L0 fl c fuel (v : Int) (i : Int) = some (if upto (lineGood c.l) i (c.l.length - i) then .out ((v' : Int), (c.l.length : Int)) else .ret false) ∧ decide (0 < v') = (decide (0 < v) || !upto (fun i => (lnAt c.l i).wi) i (c.l.length - i)) := by
  intro fuel
  induction fuel with
  | zero => intro i v _ _ h; omega
  | succ fuel ih =>
    intro i v hv hi hfu
    rw [s_CacheValid_L0.eq_2]
    by_cases h : i < c.l.length
    · obtain ⟨k, hk⟩ : ∃ k, c.l.length - i = k + 1 := ⟨c.l.length - i - 1, by omega⟩
      have hk' : c.l.length - (i + 1) = k := by omega
      have IH := fun v hv => ih (i + 1) v hv (by omega) (by omega)
      simp only [hk'] at IH
      rw [decide_eq_true (by omega : (i : Int) < (c.l.length : Int)), cot, idx_nat h]
      simp only [obs, sLine_eq]
      rw [hk, upto, upto, lineGood, lnAt_lt h]
      cases lineOk c.l[i] with
      | false => exact ⟨if (decide (0 < v) || !(c.l[i].wi && upto (fun i => (lnAt c.l i).wi) (i + 1) k)) then 1 else 0, by simp [obs], by split <;> simp_all⟩
      | true =>
        simp only [Bool.not_true, cof, Bool.true_and]
        cases hw : c.l[i].wi with
        | false =>
          simp only [Bool.not_false, cot]
          rw [ck_succ (by omega)]
          simp only [obs]
          rw [sClash1 h hl hf]
          simp only [obs]
          obtain ⟨v', h1, h2⟩ := IH (v + 1) (by omega)
          cases upto (fun j => !clash c.l[i] (lnAt c.l j)) 0 i with
          | false => exact ⟨1, by simp, by simp⟩
          | true =>
            simp only [if_true, Bool.true_and]
            rw [ck_succ (by omega)]
            simp only [obs]
            refine ⟨v', h1, ?_⟩
            rw [h2]; simp
        | true =>
          simp only [Bool.not_true, cof, obs]
          rw [sClash2 h hl hf]
          simp only [obs]
          obtain ⟨v', h1, h2⟩ := IH v (by omega)
          cases upto (fun j => !clash c.l[i] (lnAt c.l j)) 0 i with
          | false => exact ⟨if (decide (0 < v) || !(upto (fun i => (lnAt c.l i).wi) (i + 1) k)) then 1 else 0, by simp, by simp only [Bool.true_and]; split <;> simp_all⟩
          | true =>
            simp only [if_true, Bool.true_and]
            rw [ck_succ (by omega)]
            simp only [obs]
            exact ⟨v', h1, h2⟩
    · have e : i = c.l.length := by omega
      subst e
      rw [decide_eq_false (by omega), cof, Nat.sub_self]
      exact ⟨v, by simp [upto], by simp [upto]⟩
theorem sCache_eq {c : Ca} (hf : 1048576 < fl) : s_CacheValid fl c = some (cacheOk c) := by
  unfold s_CacheValid cacheOk within
  by_cases h1 : (c.l.length : Int) < 1
  · rw [decide_eq_true h1, decide_eq_false (by omega : ¬ 1 ≤ c.l.length)]; simp [obs]
  rw [decide_eq_false h1, decide_eq_true (by omega : 1 ≤ c.l.length)]
  by_cases h2 : (8 : Int) < (c.l.length : Int)
  · rw [decide_eq_true h2, decide_eq_false (by omega : ¬ c.l.length ≤ 8)]; simp [obs]
  rw [decide_eq_false h2, decide_eq_true (by omega : c.l.length ≤ 8)]
  by_cases h3 : c.h < 0
  · rw [decide_eq_true h3, decide_eq_false (by omega : ¬ 0 ≤ c.h)]; simp [obs]
  rw [decide_eq_false h3, decide_eq_true (by omega : 0 ≤ c.h)]
  by_cases h4 : (c.l.length : Int) ≤ c.h
  · rw [decide_eq_true h4, decide_eq_false (by omega : ¬ c.h < (c.l.length : Int))]; simp [obs]
  rw [decide_eq_false h4, decide_eq_true (by omega : c.h < (c.l.length : Int))]
  simp only [cof, obs, Bool.true_and]
  obtain ⟨v', h, he⟩ := sCache_L0 (fl := fl) (c := c) (by omega) hf fl 0 0 (by omega) (by omega) (by omega)
  rw [show ((0 : Nat) : Int) = 0 from rfl, Nat.sub_zero] at h
  rw [Nat.sub_zero] at he
  rw [h]
  simp only [obs]
  cases upto (lineGood c.l) 0 c.l.length with
  | false => simp
  | true =>
    simp only [if_true, Bool.true_and]
    rw [show decide ((0 : Int) < (v' : Int)) = decide (0 < v') from by congr 1; apply propext; omega, he]
    simp
end Go.Proofs.YtbgodaeccgjdgaaGreatDoor
