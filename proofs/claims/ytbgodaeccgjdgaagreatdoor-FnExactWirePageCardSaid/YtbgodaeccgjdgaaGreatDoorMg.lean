/- Plain laws: valid tags, valid machines, both sides. -/
import Derived.Test.YtbgodaeccgjdgaaGreatDoorMf
set_option linter.unusedSimpArgs false
set_option linter.unusedVariables false
namespace Go.Proofs.YtbgodaeccgjdgaaGreatDoor
open Go.RowKit
variable {fl : Nat}
theorem upto_mem {l : List Ow} {s : Int} {i : Nat} (h : i ≤ l.length) : upto (fun j => !((owAt l j).sp == s)) 0 i = !decide (s ∈ (l.take i).map (·.sp)) := by
  rw [Bool.eq_iff_iff, upto_iff]
  simp only [Bool.not_eq_true', beq_eq_false_iff_ne, decide_eq_false_iff_not, List.mem_map, not_exists, not_and, Nat.zero_add]
  constructor
  · intro hh o ho e
    obtain ⟨j, hj, rfl⟩ := List.getElem_of_mem ho
    have h2 : j < i := by rw [List.length_take] at hj; omega
    refine hh j (by omega) h2 ?_
    rw [owAt_lt (by omega)]
    rw [List.getElem_take] at e
    exact e
  · intro hh j _ hj e
    rw [owAt_lt (by omega)] at e
    refine hh l[j] ?_ e
    rw [List.mem_take_iff_getElem]
    exact ⟨j, by omega, rfl⟩
theorem hasO_in {l : List Int} {n : Int} (h : 0 ≤ n ∧ n < 16) : hasO l n = some (decide (n ∈ l)) := by
  unfold hasO; rw [if_pos (by omega)]
theorem addO_in {l : List Int} {n : Int} (h : 0 ≤ n ∧ n < 16) (hn : n ∉ l) : addO l n = some (l ++ [n]) := by
  unfold addO; rw [if_pos ⟨by omega, hn⟩]
theorem iTags_L0 {t : Tg} (hl : t.o.length ≤ 1048576) : ∀ fuel i, i ≤ t.o.length → t.o.length - i < fuel →
    ∃ u, i_TagsValid_L0 fl t fuel ((t.o.take i).map (·.sp)) (prevTag t.o i) (i : Int) = some (if upto (ownGood t) i (t.o.length - i) then .out u else .ret false) := by
  intro fuel
  induction fuel with
  | zero => intro i _ h; omega
  | succ fuel ih =>
    intro i hi hfu
    rw [i_TagsValid_L0.eq_2]
    by_cases h : i < t.o.length
    · obtain ⟨k, hk⟩ : ∃ k, t.o.length - i = k + 1 := ⟨t.o.length - i - 1, by omega⟩
      have hk' : t.o.length - (i + 1) = k := by omega
      obtain ⟨u, IH⟩ := ih (i + 1) (by omega) (by omega)
      rw [hk'] at IH
      refine ⟨u, ?_⟩
      rw [decide_eq_true (by omega : (i : Int) < (t.o.length : Int)), cot, idx_nat h]
      simp only [obs]
      rw [hk, upto, ownGood, owAt_lt h, within_eq]
      simp only [obs]
      by_cases h1 : prevTag t.o i < t.o[i].tg
      · rw [decide_eq_false (by omega : ¬ t.o[i].tg ≤ prevTag t.o i), decide_eq_true h1]
        by_cases h2 : t.o[i].tg < t.n
        · rw [decide_eq_false (by omega : ¬ t.n ≤ t.o[i].tg), decide_eq_true h2]
          simp only [cof, obs, Bool.true_and]
          cases hw : within t.o[i].sp 16 with
          | false => simp [obs]
          | true =>
            have hw' := within_iff.1 hw
            rw [upto_mem hi]
            simp only [Bool.not_true, cof, obs, Bool.true_and]
            rw [hasO_in hw']
            simp only [obs]
            by_cases hm : t.o[i].sp ∈ (t.o.take i).map (·.sp)
            · rw [decide_eq_true hm]; simp
            · rw [decide_eq_false hm]
              simp only [cof, Bool.not_false, Bool.true_and]
              rw [addO_in hw' hm, ck_succ (by omega)]
              simp only [obs]
              have e1 : (t.o.take i).map (·.sp) ++ [t.o[i].sp] = (t.o.take (i + 1)).map (·.sp) := by
                rw [List.take_add_one, List.getElem?_eq_getElem h, List.map_append]; rfl
              have e2 : t.o[i].tg = prevTag t.o (i + 1) := by rw [prevTag, owAt_lt h]
              rw [e1, e2]
              exact IH
        · rw [decide_eq_true (by omega : t.n ≤ t.o[i].tg), decide_eq_false h2]; simp [obs]
      · rw [decide_eq_true (by omega : t.o[i].tg ≤ prevTag t.o i), decide_eq_false h1]; simp [obs]
    · have e : i = t.o.length := by omega
      subst e
      rw [decide_eq_false (by omega), cof, Nat.sub_self]
      exact ⟨_, rfl⟩
theorem iTags_eq {t : Tg} (hl : t.o.length ≤ 1048576) (hf : 1048576 < fl) : i_TagsValid fl t = some (tagsOk t) := by
  unfold i_TagsValid tagsOk
  by_cases h1 : t.c < 1
  · rw [decide_eq_true h1, decide_eq_false (by omega : ¬ 1 ≤ t.c)]; simp [obs]
  rw [decide_eq_false h1, decide_eq_true (by omega : 1 ≤ t.c)]
  by_cases h2 : 8 < t.c
  · rw [decide_eq_true h2, decide_eq_false (by omega : ¬ t.c ≤ 8)]; simp [obs]
  rw [decide_eq_false h2, decide_eq_true (by omega : t.c ≤ 8)]
  by_cases h3 : t.n < 0
  · rw [decide_eq_true h3, decide_eq_false (by omega : ¬ 0 ≤ t.n)]; simp [obs]
  rw [decide_eq_false h3, decide_eq_true (by omega : 0 ≤ t.n)]
  by_cases h4 : t.c < t.n
  · rw [decide_eq_true h4, decide_eq_false (by omega : ¬ t.n ≤ t.c)]; simp [obs]
  rw [decide_eq_false h4, decide_eq_true (by omega : t.n ≤ t.c)]
  by_cases h5 : t.r < 0
  · rw [decide_eq_true h5, decide_eq_false (by omega : ¬ 0 ≤ t.r)]; simp [obs]
  rw [decide_eq_false h5, decide_eq_true (by omega : 0 ≤ t.r)]
  by_cases h6 : 1000000 < t.r
  · rw [decide_eq_true h6, decide_eq_false (by omega : ¬ t.r ≤ 1000000)]; simp [obs]
  rw [decide_eq_false h6, decide_eq_true (by omega : t.r ≤ 1000000)]
  simp only [cof, obs, Bool.true_and]
  obtain ⟨u, h⟩ := iTags_L0 (fl := fl) hl fl 0 (by omega) (by omega)
  rw [show ((0 : Nat) : Int) = 0 from rfl, Nat.sub_zero, List.take_zero] at h
  have h' : i_TagsValid_L0 fl t fl [] (-1) 0 = _ := h
  rw [h']
  simp only [obs]
  cases upto (ownGood t) 0 t.o.length with
  | false => simp
  | true => simp
theorem sTags_L1 {t : Tg} {i : Nat} {x : Ow} (h : i < t.o.length) (hl : t.o.length ≤ 1048576) (hf : 1048576 < fl) : s_TagsValid_L1 fl t (i : Int) x fl 0 = some (if upto (fun j => !((owAt t.o j).sp == x.sp)) 0 i then .out (i : Int) else .ret false) := by
  have := allLoop (L := s_TagsValid_L1 fl t (i : Int) x) (n := i) (p := fun j => !((owAt t.o j).sp == x.sp)) (bad := false)
    (fun fuel j hj => by
      rw [s_TagsValid_L1.eq_2, decide_eq_true (by omega : (j : Int) < (i : Int)), cot, idx_nat (by omega : j < t.o.length)]
      simp only [obs]
      rw [owAt_lt (by omega)]
      cases (t.o[j].sp == x.sp) with
      | true => rfl
      | false => rw [cof, ck_succ (by omega)]; rfl)
    (fun fuel => by rw [s_TagsValid_L1.eq_2, decide_eq_false (by omega), cof]) fl 0 (by omega) (by omega)
  rw [show ((0 : Nat) : Int) = 0 from rfl, Nat.sub_zero] at this
  exact this
theorem sTags_L0 {t : Tg} (hl : t.o.length ≤ 1048576) (hf : 1048576 < fl) : ∀ fuel i, i ≤ t.o.length → t.o.length - i < fuel → (0 < i → 0 ≤ prevTag t.o i) →
    s_TagsValid_L0 fl t fuel (i : Int) = some (if upto (ownGood t) i (t.o.length - i) then .out (t.o.length : Int) else .ret false) := by
  intro fuel
  induction fuel with
  | zero => intro i _ h; omega
  | succ fuel ih =>
    intro i hi hfu hp
    rw [s_TagsValid_L0.eq_2]
    by_cases h : i < t.o.length
    · obtain ⟨k, hk⟩ : ∃ k, t.o.length - i = k + 1 := ⟨t.o.length - i - 1, by omega⟩
      have hk' : t.o.length - (i + 1) = k := by omega
      have IH := ih (i + 1) (by omega) (by omega)
      rw [hk'] at IH
      rw [decide_eq_true (by omega : (i : Int) < (t.o.length : Int)), cot, idx_nat h]
      simp only [obs, s1Space]
      rw [hk, upto, ownGood, owAt_lt h]
      cases hw : within t.o[i].sp 16 with
      | false => simp [obs]
      | true =>
        simp only [Bool.not_true, cof, obs]
        by_cases h0 : t.o[i].tg < 0
        · have : ¬ prevTag t.o i < t.o[i].tg := by
            rcases Nat.eq_zero_or_pos i with e | e
            · subst e; simp only [prevTag]; omega
            · have := hp e; omega
          rw [decide_eq_true h0, decide_eq_false this]; simp [obs]
        rw [decide_eq_false h0]
        simp only [cof, obs]
        by_cases h2 : t.o[i].tg < t.n
        · rw [decide_eq_false (by omega : ¬ t.n ≤ t.o[i].tg), decide_eq_true h2]
          simp only [cof, obs, Bool.and_true]
          have hprev : (Option.bind (cond (decide (0 < (i : Int))) (Option.bind (ck ((i : Int) - 1)) fun x18 => Option.bind (idx t.o x18) fun x19 => some (decide (t.o[i].tg ≤ x19.tg))) (some false)) fun y17 => some y17) = some (!decide (prevTag t.o i < t.o[i].tg)) := by
            rcases i with _ | i
            · rw [decide_eq_false (by omega : ¬ (0 : Int) < ((0 : Nat) : Int)), cof]
              simp only [obs, prevTag]
              have h9 : (-1 : Int) < t.o[0].tg := by omega
              simp [h9]
            · rw [decide_eq_true (by omega : (0 : Int) < ((i + 1 : Nat) : Int)), cot, ck_in (by omega)]
              simp only [obs]
              rw [show (((i + 1 : Nat) : Int) - 1) = (i : Int) by omega, idx_nat (by omega : i < t.o.length)]
              simp only [obs]
              have hpt : prevTag t.o (i + 1) = t.o[i].tg := by rw [prevTag, owAt_lt (by omega)]
              congr 1
              rw [Bool.eq_iff_iff]
              simp only [decide_eq_true_eq, Bool.not_eq_true', decide_eq_false_iff_not]
              omega
          rw [hprev]
          simp only [obs]
          by_cases h1 : prevTag t.o i < t.o[i].tg
          · rw [decide_eq_true h1]
            simp only [Bool.not_true, cof, Bool.true_and]
            rw [sTags_L1 h hl hf]
            simp only [obs]
            cases upto (fun j => !((owAt t.o j).sp == t.o[i].sp)) 0 i with
            | false => simp
            | true =>
              simp only [if_true, Bool.true_and]
              rw [ck_succ (by omega)]
              simp only [obs]
              refine IH fun _ => ?_
              rw [prevTag, owAt_lt h]; omega
          · rw [decide_eq_false h1]; simp
        · rw [decide_eq_true (by omega : t.n ≤ t.o[i].tg), decide_eq_false h2]; simp [obs]
    · have e : i = t.o.length := by omega
      subst e
      rw [decide_eq_false (by omega), cof, Nat.sub_self]
      rfl
theorem sTags_eq {t : Tg} (hl : t.o.length ≤ 1048576) (hf : 1048576 < fl) : s_TagsValid fl t = some (tagsOk t) := by
  by_cases h7 : t.n < (t.o.length : Int)
  · have hno : tagsOk t = false := by
      apply Bool.eq_false_iff.2
      intro h
      have := (tagsOk_iff.1 h).len
      omega
    rw [hno]
    unfold s_TagsValid
    rw [decide_eq_true h7]
    cases decide (t.c < 1) <;> cases decide (8 < t.c) <;> cases decide (t.n < 0) <;> cases decide (t.c < t.n) <;> cases decide (t.r < 0) <;> cases decide (1000000 < t.r) <;> rfl
  unfold s_TagsValid tagsOk
  rw [decide_eq_false h7]
  by_cases h1 : t.c < 1
  · rw [decide_eq_true h1, decide_eq_false (by omega : ¬ 1 ≤ t.c)]; simp [obs]
  rw [decide_eq_false h1, decide_eq_true (by omega : 1 ≤ t.c)]
  by_cases h2 : 8 < t.c
  · rw [decide_eq_true h2, decide_eq_false (by omega : ¬ t.c ≤ 8)]; simp [obs]
  rw [decide_eq_false h2, decide_eq_true (by omega : t.c ≤ 8)]
  by_cases h3 : t.n < 0
  · rw [decide_eq_true h3, decide_eq_false (by omega : ¬ 0 ≤ t.n)]; simp [obs]
  rw [decide_eq_false h3, decide_eq_true (by omega : 0 ≤ t.n)]
  by_cases h4 : t.c < t.n
  · rw [decide_eq_true h4, decide_eq_false (by omega : ¬ t.n ≤ t.c)]; simp [obs]
  rw [decide_eq_false h4, decide_eq_true (by omega : t.n ≤ t.c)]
  by_cases h5 : t.r < 0
  · rw [decide_eq_true h5, decide_eq_false (by omega : ¬ 0 ≤ t.r)]; simp [obs]
  rw [decide_eq_false h5, decide_eq_true (by omega : 0 ≤ t.r)]
  by_cases h6 : 1000000 < t.r
  · rw [decide_eq_true h6, decide_eq_false (by omega : ¬ t.r ≤ 1000000)]; simp [obs]
  rw [decide_eq_false h6, decide_eq_true (by omega : t.r ≤ 1000000)]
  simp only [cof, obs, Bool.true_and]
  have h := sTags_L0 (fl := fl) hl hf fl 0 (by omega) (by omega) (by omega)
  rw [show ((0 : Nat) : Int) = 0 from rfl, Nat.sub_zero] at h
  rw [h]
  simp only [obs]
  cases upto (ownGood t) 0 t.o.length with
  | false => simp
  | true => simp

/-! ### the space of a tag -/
def spaceR (t : Tg) (tag : Int) : Int × Bool := if tagsOk t = true ∧ 0 ≤ spF t tag then ((owAt t.o (spF t tag).toNat).sp, true) else (0, false)
theorem iSpace_eq {t : Tg} {tag : Int} (hl : t.o.length ≤ 1048576) (hf : 1048576 < fl) : i_SpaceOf fl t tag = some (spaceR t tag) := by
  unfold i_SpaceOf spaceR
  rw [iTags_eq hl hf]
  simp only [obs]
  cases tagsOk t with
  | false => simp
  | true =>
    have := findLoop (L := i_SpaceOf_L0 fl t tag) (l := t.o) (p := fun o : Ow => o.tg == tag) (res := fun i => ((owAt t.o i).sp, true))
      (fun fuel i h => by
        rw [i_SpaceOf_L0.eq_2, decide_eq_true (by omega : (i : Int) < (t.o.length : Int)), cot, idx_nat h]
        simp only [obs]
        rw [owAt_lt h]
        cases (t.o[i].tg == tag) with
        | true => rfl
        | false => rw [cof, ck_succ (by omega)]; rfl)
      (fun fuel => by rw [i_SpaceOf_L0.eq_2, decide_eq_false (by omega), cof]) fl 0 (by omega) (by omega)
    rw [show ((0 : Nat) : Int) = 0 from rfl, List.drop_zero] at this
    rw [this]
    simp only [obs, Bool.not_true, cof]
    unfold spF
    by_cases h0 : 0 ≤ fx (fun o : Ow => o.tg == tag) t.o 0
    · rw [if_pos h0, if_pos ⟨trivial, h0⟩]
    · rw [if_neg h0, if_neg (fun hh => h0 hh.2)]
theorem sSpace_eq {t : Tg} {tag : Int} (hl : t.o.length ≤ 1048576) (hf : 1048576 < fl) : s_SpaceOf fl t tag = some (spaceR t tag) := by
  unfold s_SpaceOf spaceR
  cases hT : tagsOk t with
  | false =>
    obtain ⟨f, rfl⟩ : ∃ f, fl = f + 1 := ⟨fl - 1, by omega⟩
    rw [s_SpaceOf_L0.eq_2, sTags_eq hl hf, hT]
    cases decide ((0 : Int) < (t.o.length : Int)) <;> simp [obs]
  | true =>
    have := findLoop (L := s_SpaceOf_L0 fl t tag) (l := t.o) (p := fun o : Ow => o.tg == tag) (res := fun i => ((owAt t.o i).sp, true))
      (fun fuel i h => by
        rw [s_SpaceOf_L0.eq_2, decide_eq_true (by omega : (i : Int) < (t.o.length : Int)), cot, sTags_eq hl hf, hT]
        simp only [obs, cot]
        rw [idx_nat h]
        simp only [obs]
        rw [owAt_lt h]
        cases (t.o[i].tg == tag) with
        | true => rfl
        | false => rw [cof, ck_succ (by omega)]; rfl)
      (fun fuel => by rw [s_SpaceOf_L0.eq_2, decide_eq_false (by omega), cof]; simp only [obs, cof]) fl 0 (by omega) (by omega)
    rw [show ((0 : Nat) : Int) = 0 from rfl, List.drop_zero] at this
    rw [this]
    simp only [obs]
    unfold spF
    by_cases h0 : 0 ≤ fx (fun o : Ow => o.tg == tag) t.o 0
    · rw [if_pos h0, if_pos ⟨trivial, h0⟩]
    · rw [if_neg h0, if_neg (fun hh => h0 hh.2)]
end Go.Proofs.YtbgodaeccgjdgaaGreatDoor
