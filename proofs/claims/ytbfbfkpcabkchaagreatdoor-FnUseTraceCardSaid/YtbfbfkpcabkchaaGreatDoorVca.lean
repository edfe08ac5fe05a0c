/- The plain laws that useTrace_true rests on. -/
import Derived.Test.YtbfbfkpcabkchaaGreatDoorVp
import Derived.Test.YtbfbfkpcabkchaaGreatDoorPure2
import Derived.Test.YtbfbfkpcabkchaaGreatDoorCpy
set_option linter.unusedSimpArgs false
set_option linter.unusedVariables false
namespace Go.Proofs.YtbfbfkpcabkchaaGreatDoor
open Go.RowKit
variable {fl : Nat}
theorem obs {α β : Type} {x : α} {f : α → Option β} : Option.bind (some x) f = f x := by rw [Option.bind_some]
theorem cof {α : Type} {x y : α} : cond false x y = y := by rw [cond_false]
theorem cot {α : Type} {x y : α} : cond true x y = x := by rw [cond_true]
theorem c1 (n : Nat) (h : n ≤ 16777216) : ck ((n : Int) + 1) = some ((n + 1 : Nat) : Int) := by rw [ck_in (by omega)]; rfl
theorem ck_succ {n : Nat} (h : n ≤ 2097152) : ck ((n : Int) + 1) = some ((n + 1 : Nat) : Int) := by rw [ck_in (by omega)]; rfl

theorem mkO_nat {n : Nat} (h : n ≤ 1048576) : mkO (n : Int) = some n := by
 unfold mkO; rw [if_pos (by simp [maxLen]; omega)]; simp

theorem within_eq (a b : Int) : i_within fl a b = some (within a b) := by
 unfold i_within within; cases decide (0 ≤ a) <;> rfl
theorem iKey_eq (k : K) : i_KeyValid fl k = some (keyOk k) := by
 unfold i_KeyValid keyOk; rw [within_eq, within_eq]; cases within k.s 16 <;> rfl
theorem iRights_eq (r : Int) : i_RightsValid fl r = some (rightsOk r) := by
 unfold i_RightsValid rightsOk; rw [within_eq]; rfl
theorem sKey_eq (k : K) : s_KeyValid fl k = some (keyOk k) := by
 unfold s_KeyValid keyOk s_l1Space s_l1Page within
 cases decide (0 ≤ k.s) <;> cases decide (k.s < 16) <;> cases decide (0 ≤ k.p) <;> rfl
theorem sRights_eq (r : Int) : s_RightsValid fl r = some (rightsOk r) := by
 unfold s_RightsValid rightsOk within
 rw [show decide (r ≤ 7) = decide (r < 8) from by congr 1; apply propext; omega]
 cases decide (0 ≤ r) <;> rfl
theorem hash_bd {k : K} (hk : keyOk k = true) : 0 ≤ k.s * 256 ∧ k.s * 256 ≤ 3840 ∧ 0 ≤ k.s * 256 + k.p ∧ k.s * 256 + k.p ≤ 4095 := by
 rw [keyOk_iff] at hk; omega
theorem sHash_eq {k : K} {n : Int} (hk : keyOk k = true) (h1 : 1 ≤ n) (h2 : n ≤ 16) : s_l2Hash fl k n = some (hashI k n) := by
 obtain ⟨b1, b2, b3, b4⟩ := hash_bd hk
 unfold s_l2Hash hashI
 generalize hz : k.s * 256 + k.p = z at *
 rw [ck_in (by omega)]; simp only [obs]
 rw [hz, ck_in (by omega)]; simp only [obs]
 rw [ck_in (by omega)]; simp only [obs]
 have e1 : remO (z * 2654435761) 4294967296 = some (z * 2654435761 % 4294967296) := by
  unfold remO; rw [if_neg (by decide), Int.tmod_eq_emod_of_nonneg (by omega)]
 rw [e1]; simp only [obs]
 generalize hy : z * 2654435761 % 4294967296 = y
 have y1 : 0 ≤ y ∧ y < 4294967296 := by omega
 have y2 : 0 ≤ y * n := Int.mul_nonneg y1.1 (by omega)
 have y3 : y * n ≤ 4294967296 * 16 := Int.mul_le_mul (by omega) h2 (by omega) (by omega)
 rw [ck_in (by omega)]; simp only [obs]
 have e2 : quoO (y * n) 4294967296 = some (y * n / 4294967296) := by
  unfold quoO; rw [if_neg (by decide), Int.tdiv_eq_ediv_of_nonneg y2, ck_in (by omega)]
 rw [e2]; simp only [obs]
/-! ### copies -/
theorem clone_eq {t : T} (h : t.b.length + t.f.length ≤ 1048576) : i_Table_clone fl t = some t := by
 unfold i_Table_clone slices_Clone_Int slices_Clone_Frame
 rw [cnt_in (by omega), cnt_in (by omega)]; simp only [obs]
theorem copy_eq {t : T} (h : t.b.length + t.f.length ≤ 1048576) : s_l3Copy fl t = some t := by
 unfold s_l3Copy
 rw [cnt_in (by simp; omega), cnt_in (by simp; omega)]; simp only [obs, List.nil_append]

/-! ### the place of a key -/
theorem find1_eq (f : F) (k : K) : i_Table_find_1 fl f k = some (hasKey k f) := by
 unfold i_Table_find_1 hasKey
 rw [show (f.k == k) = decide (f.k = k) from rfl]
 cases f.u <;> simp
theorem indexFind_L0 {l : List F} {k : K} (hl : l.length ≤ 1048576) : ∀ (fuel i : Nat), i ≤ l.length → l.length - i < fuel → (∀ j, (h : j < l.length) → j < i → hasKey k l[j] = false) →
  (slices_IndexFunc_Frame_of_i_Table_find_1_L0 fl l k fuel i = some (.ret (findF l k))) ∨ (slices_IndexFunc_Frame_of_i_Table_find_1_L0 fl l k fuel i = some (.out (l.length : Int)) ∧ findF l k = -1) := by
 intro fuel
 induction fuel with
 | zero => intro i _ h _; omega
 | succ fuel ih =>
  intro i hi hf ht
  rw [slices_IndexFunc_Frame_of_i_Table_find_1_L0.eq_2]
  by_cases h : i < l.length
  ·rw [decide_eq_true (by omega : (i : Int) < (l.length : Int)), cot, idx_nat h]
   simp only [obs, find1_eq]
   cases hk : hasKey k l[i] with
   | true => left; rw [cot, findF_some h hk (fun j hj => ht j (by omega) hj)]
   | false =>
    rw [cof, ck_succ (by omega)]
    simp only [obs]
    refine ih (i + 1) (by omega) (by omega) fun j hj hji => ?_
    by_cases e : j = i
    ·subst e; exact hk
    ·exact ht j hj (by omega)
  ·have e : i = l.length := by omega
   subst e
   right
   simp only [Int.lt_irrefl, decide_false, cof]
   exact ⟨trivial, findF_none fun j hj => ht j hj hj⟩
theorem find_eq {t : T} {k : K} (hl : t.f.length ≤ 1048576) (hf : 1048576 < fl) : i_Table_find fl t k = some (findF t.f k) := by
 unfold i_Table_find slices_IndexFunc_Frame_of_i_Table_find_1
 rcases indexFind_L0 (fl := fl) (l := t.f) (k := k) hl fl 0 (by omega) (by omega) (fun j _ hj => by omega) with h | ⟨h, e⟩
 ·rw [show ((0 : Nat) : Int) = 0 from rfl] at h
  rw [h]; simp only [obs]
 ·rw [show ((0 : Nat) : Int) = 0 from rfl] at h
  rw [h]; simp only [obs, e]

/-! ### a chain -/
theorem chain_L0 {t : T} {b : Nat} (hl : t.f.length ≤ 1048576) : ∀ (fuel : Nat) (L : List Int) (i : Int), L.length ≤ t.f.length → t.f.length - L.length < fuel → PathL t b L i →
  s_l3Chain_L0 fl t fuel L i = some (.ret (chainL t b)) ∧ (chainL t b).2 = false ∨ s_l3Chain_L0 fl t fuel L i = some (.out ((chainL t b).1, -1)) ∧ (chainL t b).2 = true := by
 intro fuel
 induction fuel with
 | zero => intro L i _ h _; omega
 | succ fuel ih =>
  intro L i hL hf hp
  rw [s_l3Chain_L0.eq_2]
  by_cases h1 : i = -1
  ·subst h1
   right
   rw [hp.fin]
   simp
  ·rw [show (i != -1) = true from by simpa using h1, cot]
   by_cases h2 : i < 0
   ·left
    rw [decide_eq_true h2]
    simp only [cot, obs]
    rw [hp.out h1 (fun j e => by omega)]
    exact ⟨rfl, rfl⟩
   rw [decide_eq_false h2]
   simp only [cof, obs]
   by_cases h3 : (t.f.length : Int) ≤ i
   ·left
    rw [decide_eq_true h3]
    simp only [cot, obs]
    rw [hp.out h1 (fun j e hj => by omega)]
    exact ⟨rfl, rfl⟩
   rw [decide_eq_false h3]
   simp only [cof, obs]
   by_cases h4 : (t.f.length : Int) ≤ (L.length : Int)
   ·left
    rw [decide_eq_true h4]
    simp only [cot, obs]
    rw [hp.full h1 (by omega)]
    exact ⟨rfl, rfl⟩
   rw [decide_eq_false h4]
   simp only [cof, obs]
   obtain ⟨j, rfl⟩ : ∃ j : Nat, i = j := ⟨i.toNat, by omega⟩
   have hj : j < t.f.length := by omega
   rw [idx_nat hj]
   simp only [obs]
   cases hu : t.f[j].u with
   | false =>
    left
    simp only [Bool.not_false, cot]
    rw [hp.out h1 (fun j' e hj' hu' => by
     have : j' = j := by omega
     subst this
     rw [hu] at hu'; cases hu')]
    exact ⟨rfl, rfl⟩
   | true =>
    simp only [Bool.not_true, cof]
    rw [cnt_in (by simp; omega)]
    simp only [obs]
    exact ih _ _ (by simp; omega) (by simp; omega) (hp.step (by omega) hj hu)
theorem chain_eq {t : T} {b : Nat} (hb : b < t.b.length) (hl : t.f.length ≤ 1048576) (hf : 1048576 < fl) : s_l3Chain fl t (b : Int) = some (chainL t b) := by
 unfold s_l3Chain
 rw [idx_nat hb]
 simp only [obs]
 rcases chain_L0 (fl := fl) hl fl [] t.b[b] (by simp) (by simp; omega) (PathL.start hb) with ⟨h, e⟩ | ⟨h, e⟩
 ·rw [h]; simp only [obs]
 ·rw [h]; simp only [obs, ← e]

theorem sFind_L0 {t : T} {k : K} (ht : TOk t) (x4 : List Int × Bool) (hm : ∀ x ∈ x4.1, ∃ j : Nat, x = j ∧ ∃ h : j < t.f.length, t.f[j].u = true) (hl : x4.1.length ≤ 1048576) : ∀ (fuel i : Nat), i ≤ x4.1.length → x4.1.length - i < fuel → (∀ j, (h : j < x4.1.length) → j < i → ∀ h : (x4.1[j]).toNat < t.f.length, t.f[(x4.1[j]).toNat].k ≠ k) →
  (∃ s, s_l3Find_L0 fl t k x4 fuel i = some (.ret (findF t.f k, s))) ∨ (s_l3Find_L0 fl t k x4 fuel i = some (.out (x4.1.length : Int)) ∧ ∀ x ∈ x4.1, ∀ h : x.toNat < t.f.length, t.f[x.toNat].k ≠ k) := by
 intro fuel
 induction fuel with
 | zero => intro i _ h _; omega
 | succ fuel ih =>
  intro i hi hf hn
  rw [s_l3Find_L0.eq_2]
  by_cases h : i < x4.1.length
  ·obtain ⟨j, e, hj, hu⟩ := hm x4.1[i] (List.getElem_mem h)
   rw [decide_eq_true (by omega : (i : Int) < (x4.1.length : Int)), cot, idx_nat h]
   simp only [obs, e]
   rw [idx_nat hj]
   simp only [obs]
   by_cases hk : t.f[j].k = k
   ·left
    rw [show (t.f[j].k == k) = true from by simpa using hk, cot, ck_succ (by omega)]
    simp only [obs]
    rw [find_at ht.ks hj hu hk]
    exact ⟨_, rfl⟩
   ·rw [show (t.f[j].k == k) = false from by simpa using hk, cof, ck_succ (by omega)]
    simp only [obs]
    refine ih (i + 1) (by omega) (by omega) fun j' hj' hlt hb => ?_
    by_cases e' : j' = i
    ·subst e'
     have e2 : x4.1[j'].toNat = j := by rw [e]; simp
     simp only [e2]
     exact hk
    ·exact hn j' hj' (by omega) hb
  ·have e : i = x4.1.length := by omega
   subst e
   right
   simp only [Int.lt_irrefl, decide_false, cof]
   refine ⟨trivial, fun x hx hb => ?_⟩
   obtain ⟨j, hj, rfl⟩ := List.getElem_of_mem hx
   exact hn j hj hj hb
theorem sFind_eq {t : T} {k : K} (ht : TOk t) (hk : keyOk k = true) (hf : 1048576 < fl) : ∃ s, s_l3Find fl t k = some (findF t.f k, s) := by
 have h1 := ht.f1
 have h2 := ht.f2
 have h3 := ht.b1
 have h4 := ht.b2
 obtain ⟨hb, he⟩ := bucketT_lt hk h3 h4
 unfold s_l3Find
 rw [sHash_eq hk (by omega) (by omega)]
 simp only [obs, he]
 rw [chain_eq hb (by omega) hf]
 simp only [obs]
 have hlen := chainL_len (t := t) (b := bucketT t k)
 rcases sFind_L0 (fl := fl) (k := k) ht (chainL t (bucketT t k)) chainL_mem (by omega) fl 0 (by omega) (by omega) (fun j _ hj => by omega) with ⟨s, h⟩ | ⟨h, hn⟩
 ·rw [show ((0 : Nat) : Int) = 0 from rfl] at h
  rw [h]; simp only [obs]
  exact ⟨s, rfl⟩
 ·rw [show ((0 : Nat) : Int) = 0 from rfl] at h
  rw [h]; simp only [obs]
  rw [ht.none hb (L := (chainL t (bucketT t k)).1) (ok := (chainL t (bucketT t k)).2) rfl hn]
  exact ⟨_, rfl⟩
theorem findF_bd {l : List F} {k : K} : findF l k < (l.length : Int) ∧ -1 ≤ findF l k := by
 rcases findF_spec l k with ⟨e, _⟩ | ⟨i, hi, e, _, _⟩ <;> rw [e] <;> omega
theorem sFindPage_eq {t : T} {k : K} (hf : 1048576 < fl) : ∃ a s, s_FindPage fl t k = some (a, s, tableOk t && keyOk k && decide (0 ≤ findF t.f k)) ∧ ((tableOk t && keyOk k && decide (0 ≤ findF t.f k)) = true → a = findF t.f k) := by
 unfold s_FindPage s_TableValid
 simp only [obs, sKey_eq]
 cases h1 : tableOk t with
 | false => simp [obs]
 | true =>
  cases h2 : keyOk k with
  | false => simp [obs]
  | true =>
   simp only [Bool.not_true, cof, obs]
   obtain ⟨s, h⟩ := sFind_eq (fl := fl) (tableOk_iff.1 h1) h2 hf
   rw [h]
   simp only [obs]
   by_cases h3 : findF t.f k < 0
   ·rw [decide_eq_true h3, cot]
    exact ⟨0, s, by simp [h3], by simp; omega⟩
   ·rw [decide_eq_false h3, cof]
    exact ⟨findF t.f k, s, by simp; omega, fun _ => rfl⟩

theorem iHash_eq {k : K} {n : Int} (hk : keyOk k = true) (h1 : 1 ≤ n) (h2 : n ≤ 16) : i_hash fl k n = some (hashI k n) := by
 obtain ⟨b1, b2, b3, b4⟩ := hash_bd hk
 unfold i_hash hashI
 generalize hz : k.s * 256 + k.p = z at *
 rw [ck_in (by omega)]; simp only [obs]
 rw [hz, ck_in (by omega)]; simp only [obs]
 rw [ckU_in (by omega)]; simp only [obs]
 rw [ckU_in (by omega)]; simp only [obs]
 have e1 : remO (z * 2654435761) 4294967296 = some (z * 2654435761 % 4294967296) := by
  unfold remO; rw [if_neg (by decide), Int.tmod_eq_emod_of_nonneg (by omega)]
 rw [e1]; simp only [obs]
 generalize hy : z * 2654435761 % 4294967296 = y
 have y1 : 0 ≤ y ∧ y < 4294967296 := by omega
 have y2 : 0 ≤ y * n := Int.mul_nonneg y1.1 (by omega)
 have y3 : y * n ≤ 4294967296 * 16 := Int.mul_le_mul (by omega) h2 (by omega) (by omega)
 rw [ckU_in (by omega)]; simp only [obs]
 rw [ckU_in (by omega)]; simp only [obs]
 rw [ck_in (by omega)]; simp only [obs]

noncomputable def mapR (t : T) (k : K) (fr r : Int) : T × Bool :=
 if tableOk t && keyOk k && decide (findF t.f k < 0) && within fr t.f.length && !(t.f.getD fr.toNat freeF).u && rightsOk r then (mapT t k fr.toNat r, true) else (⟨[], []⟩, false)
theorem mapR_no {t : T} {k : K} {fr r : Int} (h : (tableOk t && keyOk k && decide (findF t.f k < 0) && within fr t.f.length && !(t.f.getD fr.toNat freeF).u && rightsOk r) = false) : mapR t k fr r = (⟨[], []⟩, false) := by
 unfold mapR; rw [h]; rfl
theorem mapR_yes {t : T} {k : K} {fr r : Int} (h : (tableOk t && keyOk k && decide (findF t.f k < 0) && within fr t.f.length && !(t.f.getD fr.toNat freeF).u && rightsOk r) = true) : mapR t k fr r = (mapT t k fr.toNat r, true) := by
 unfold mapR; rw [h]; rfl
theorem link_eq {t : T} {k : K} {fr : Nat} {r : Int} (ht : TOk t) (hk : keyOk k = true) (hf : fr < t.f.length) : i_Table_link fl t k fr r = some ((mapT t k fr r).b, (mapT t k fr r).f) := by
 have h3 := ht.b1
 have h4 := ht.b2
 obtain ⟨hb, he⟩ := bucketT_lt hk h3 h4
 unfold i_Table_link mapT
 rw [iHash_eq hk (by omega) (by omega)]
 simp only [obs, he]
 rw [idx_nat hb, idx_nat hf]
 simp [obs, hb]
theorem sMapIn_eq {t : T} {k : K} {fr : Nat} {r : Int} (ht : TOk t) (hk : keyOk k = true) (hf : fr < t.f.length) : s_l3Map fl t k fr r = some (mapT t k fr r) := by
 have h2 := ht.f2
 have h3 := ht.b1
 have h4 := ht.b2
 obtain ⟨hb, he⟩ := bucketT_lt hk h3 h4
 unfold s_l3Map mapT
 rw [copy_eq (by omega)]
 simp only [obs]
 rw [sHash_eq hk (by omega) (by omega)]
 simp only [obs, he]
 rw [idx_nat hb, idx_nat hf]
 simp [obs, hb]
theorem iMap_eq {t : T} {k : K} {fr r : Int} (hl : t.f.length ≤ 1048576) (hf : 1048576 < fl) : i_MapPage fl t k fr r = some (mapR t k fr r) := by
 unfold i_MapPage i_TableValid
 simp only [obs, iKey_eq, find_eq hl hf, iRights_eq, within_eq]
 cases h1 : tableOk t with
 | false => rw [mapR_no (by simp [h1])]; simp [obs]
 | true =>
  cases h2 : keyOk k with
  | false => rw [mapR_no (by simp [h2])]; simp [obs]
  | true =>
   simp only [Bool.not_true, cof, obs]
   by_cases h3 : 0 ≤ findF t.f k
   ·rw [mapR_no (by simp [show ¬ (findF t.f k < 0) from by omega])]; simp [obs, decide_eq_true h3]
   ·rw [decide_eq_false h3]
    simp only [cof, obs]
    cases h4 : within fr t.f.length with
    | false => rw [mapR_no (by simp [h4])]; simp [obs]
    | true =>
     simp only [Bool.not_true, cof, obs]
     have hw := within_iff.1 h4
     obtain ⟨i, rfl⟩ : ∃ i : Nat, fr = i := ⟨fr.toNat, by omega⟩
     have hi : i < t.f.length := by omega
     rw [idx_nat hi]
     simp only [obs]
     have hg : t.f.getD i freeF = t.f[i] := by simp [hi]
     cases h5 : t.f[i].u with
     | true => rw [mapR_no (by simp [hi, h5])]; simp [obs]
     | false =>
      simp only [cof, obs]
      cases h6 : rightsOk r with
      | false => rw [mapR_no (by simp [h6])]; simp [obs]
      | true =>
       simp only [Bool.not_true, cof, obs]
       have ht := tableOk_iff.1 h1
       have g2 := ht.f2
       have g4 := ht.b2
       rw [clone_eq (by omega)]
       simp only [obs]
       rw [link_eq ht h2 hi]
       simp only [obs]
       rw [mapR_yes (by simp [h1, h2, h4, h6, hi, h5]; omega)]
       rfl
theorem sMap_eq {t : T} {k : K} {fr r : Int} (hf : 1048576 < fl) : s_MapPage fl t k fr r = some (mapR t k fr r) := by
 unfold s_MapPage s_TableValid
 simp only [obs, sKey_eq, sRights_eq]
 cases h1 : tableOk t with
 | false => rw [mapR_no (by simp [h1])]; simp [obs]
 | true =>
  cases h2 : keyOk k with
  | false => rw [mapR_no (by simp [h2])]; simp [obs]
  | true =>
   simp only [Bool.not_true, cof, obs]
   cases h6 : rightsOk r with
   | false => rw [mapR_no (by simp [h6])]; simp [obs]
   | true =>
    simp only [Bool.not_true, cof, obs]
    by_cases c1 : fr < 0
    ·rw [mapR_no (by simp [within, show ¬ (0 ≤ fr) from by omega])]; simp [obs, decide_eq_true c1]
    rw [decide_eq_false c1]
    simp only [cof, obs]
    by_cases c2 : (t.f.length : Int) ≤ fr
    ·rw [mapR_no (by simp [within, show ¬ (fr < (t.f.length : Int)) from by omega])]; simp [obs, decide_eq_true c2]
    rw [decide_eq_false c2]
    simp only [cof, obs]
    obtain ⟨i, rfl⟩ : ∃ i : Nat, fr = i := ⟨fr.toNat, by omega⟩
    have hi : i < t.f.length := by omega
    rw [idx_nat hi]
    simp only [obs]
    cases h5 : t.f[i].u with
    | true => rw [mapR_no (by simp [hi, h5])]; simp [obs]
    | false =>
     simp only [cof, obs]
     have ht := tableOk_iff.1 h1
     obtain ⟨s, h⟩ := sFind_eq (fl := fl) ht h2 hf
     rw [h]
     simp only [obs]
     by_cases h3 : 0 ≤ findF t.f k
     ·rw [mapR_no (by simp [show ¬ (findF t.f k < 0) from by omega])]; simp [obs, decide_eq_true h3]
     ·rw [decide_eq_false h3]
      simp only [cof, obs]
      rw [sMapIn_eq ht h2 hi]
      simp only [obs]
      rw [mapR_yes (by simp [h1, h2, h6, hi, h5, within]; omega)]
      rfl

def unlF (i nx : Int) (g : F) : F := if g.u && g.nx == i then ⟨g.u, g.k, g.r, nx⟩ else g
def unl (f : List F) (i nx : Int) : List F := f.map (unlF i nx)
theorem unl_len (f : List F) (i nx : Int) : (unl f i nx).length = f.length := by simp [unl]
def unmapT (t : T) (i : Nat) : T :=
 if t.b.getD (bucketT t (t.f.getD i freeF).k) (-1) == (i : Int) then ⟨t.b.set (bucketT t (t.f.getD i freeF).k) (t.f.getD i freeF).nx, t.f.set i freeF⟩
 else ⟨t.b, (unl t.f i (t.f.getD i freeF).nx).set i freeF⟩
noncomputable def unmapR (t : T) (k : K) : T × Bool :=
 if tableOk t && keyOk k && decide (0 ≤ findF t.f k) then (unmapT t (findF t.f k).toNat, true) else (⟨[], []⟩, false)
theorem iUn_L0 {x10 : T} {i : Int} {x21 : F} (hl : x10.f.length ≤ 1048576) : ∀ (fuel j : Nat) (v : List F), v.length = x10.f.length → j ≤ x10.f.length → x10.f.length - j < fuel → (∀ m, m < j → v[m]? = (unl x10.f i x21.nx)[m]?) → (∀ m, j ≤ m → v[m]? = x10.f[m]?) →
  i_UnmapPage_L0 fl x10 i x21 fuel v j = some (.out (unl x10.f i x21.nx, (x10.f.length : Int))) := by
 intro fuel
 induction fuel with
 | zero => intro j v _ _ h _ _; omega
 | succ fuel ih =>
  intro j v hv hj hf h1 h2
  rw [i_UnmapPage_L0.eq_2]
  by_cases h : j < x10.f.length
  ·have hv' : j < v.length := by omega
   have e : v[j] = x10.f[j] := by
    have := h2 j (Nat.le_refl _)
    rw [List.getElem?_eq_getElem hv', List.getElem?_eq_getElem h] at this
    exact Option.some.inj this
   have hu : (unl x10.f i x21.nx)[j]? = some (unlF i x21.nx x10.f[j]) := by simp [unl, h]
   rw [decide_eq_true (by omega : (j : Int) < (x10.f.length : Int)), cot, idx_nat hv', ck_succ (by omega)]
   simp only [obs, e]
   have hcc : (cond x10.f[j].u (some (x10.f[j].nx == i)) (some false) : Option Bool) = some (x10.f[j].u && x10.f[j].nx == i) := by cases x10.f[j].u <;> rfl
   rw [hcc]
   simp only [obs]
   cases hc : (x10.f[j].u && x10.f[j].nx == i) with
   | true =>
    rw [cot]
    refine ih (j + 1) _ (by simp [hv]) (by omega) (by omega) (fun m hm => ?_) (fun m hm => ?_)
    ·rw [Int.toNat_natCast, List.getElem?_set]
     by_cases em : j = m
     ·subst em
      simp only [if_true, hv', hu]
      unfold unlF
      rw [hc]
      simp
     ·rw [if_neg em]; exact h1 m (by omega)
    ·rw [Int.toNat_natCast, List.getElem?_set, if_neg (by omega)]
     exact h2 m (by omega)
   | false =>
    rw [cof]
    refine ih (j + 1) _ hv (by omega) (by omega) (fun m hm => ?_) (fun m hm => h2 m (by omega))
    by_cases em : m = j
    ·subst em
     rw [hu, h2 m (Nat.le_refl _), List.getElem?_eq_getElem h]
     unfold unlF
     rw [hc]
     simp
    ·exact h1 m (by omega)
  ·have e : j = x10.f.length := by omega
   subst e
   simp only [Int.lt_irrefl, decide_false, cof]
   have : v = unl x10.f i x21.nx := by
    apply List.ext_getElem?
    intro m
    by_cases hm : m < x10.f.length
    ·exact h1 m hm
    ·rw [List.getElem?_eq_none (by omega), List.getElem?_eq_none (by rw [unl_len]; omega)]
   rw [this]
theorem sUn_L0 {t : T} {i : Nat} {x13 : F} (hl : t.f.length ≤ 1048576) (hi : i < t.f.length) (hs : (t.f[i].u && t.f[i].nx == (i : Int)) = false) : ∀ (fuel j : Nat) (v : List F), v.length = t.f.length → j ≤ t.f.length → t.f.length - j < fuel → v[i]? = some freeF → (∀ m, m ≠ i → m < j → v[m]? = (unl t.f i x13.nx)[m]?) → (∀ m, m ≠ i → j ≤ m → v[m]? = t.f[m]?) →
  s_l3Unmap_L0 fl t i x13 fuel v j = some (.out ((unl t.f i x13.nx).set i freeF, (t.f.length : Int))) := by
 intro fuel
 induction fuel with
 | zero => intro j v _ _ h _ _ _; omega
 | succ fuel ih =>
  intro j v hv hj hf h0 h1 h2
  rw [s_l3Unmap_L0.eq_2]
  by_cases h : j < t.f.length
  ·have hv' : j < v.length := by omega
   have hu : (unl t.f i x13.nx)[j]? = some (unlF i x13.nx t.f[j]) := by simp [unl, h]
   rw [decide_eq_true (by omega : (j : Int) < (t.f.length : Int)), cot, idx_nat h, idx_nat hv', ck_succ (by omega)]
   simp only [obs]
   have hcc : (cond t.f[j].u (some (t.f[j].nx == (i : Int))) (some false) : Option Bool) = some (t.f[j].u && t.f[j].nx == (i : Int)) := by cases t.f[j].u <;> rfl
   rw [hcc]
   simp only [obs]
   by_cases ei : j = i
   ·subst ei
    rw [hs, cof]
    exact ih (j + 1) _ hv (by omega) (by omega) h0 (fun m hm hlt => h1 m hm (by omega)) (fun m hm hle => h2 m hm (by omega))
   have e : v[j] = t.f[j] := by
    have := h2 j ei (Nat.le_refl _)
    rw [List.getElem?_eq_getElem hv', List.getElem?_eq_getElem h] at this
    exact Option.some.inj this
   cases hc : (t.f[j].u && t.f[j].nx == (i : Int)) with
   | true =>
    rw [cot, e]
    refine ih (j + 1) _ (by simp [hv]) (by omega) (by omega) ?_ (fun m hm hlt => ?_) (fun m hm hle => ?_)
    ·rw [Int.toNat_natCast, List.getElem?_set, if_neg ei]; exact h0
    ·rw [Int.toNat_natCast, List.getElem?_set]
     by_cases em : j = m
     ·subst em
      simp only [if_true, hv', hu]
      unfold unlF
      rw [hc]
      simp
     ·rw [if_neg em]; exact h1 m hm (by omega)
    ·rw [Int.toNat_natCast, List.getElem?_set, if_neg (by omega)]
     exact h2 m hm (by omega)
   | false =>
    rw [cof]
    refine ih (j + 1) _ hv (by omega) (by omega) h0 (fun m hm hlt => ?_) (fun m hm hle => h2 m hm (by omega))
    by_cases em : m = j
    ·subst em
     rw [hu, h2 m hm (Nat.le_refl _), List.getElem?_eq_getElem h]
     unfold unlF
     rw [hc]
     simp
    ·exact h1 m hm (by omega)
  ·have e : j = t.f.length := by omega
   subst e
   simp only [Int.lt_irrefl, decide_false, cof]
   have : v = (unl t.f i x13.nx).set i freeF := by
    apply List.ext_getElem?
    intro m
    rw [List.getElem?_set]
    by_cases em : i = m
    ·subst em
     rw [h0, if_pos rfl, if_pos (by rw [unl_len]; exact hi)]
    ·rw [if_neg em]
     by_cases hm : m < t.f.length
     ·exact h1 m (fun x => em x.symm) hm
     ·rw [List.getElem?_eq_none (by omega), List.getElem?_eq_none (by rw [unl_len]; omega)]
   rw [this]
/-- no frame of a valid table follows itself -/
theorem TOk.noself {t : T} (h : TOk t) {i : Nat} (hi : i < t.f.length) (hu : t.f[i].u = true) : t.f[i].nx ≠ (i : Int) := by
 intro e
 obtain ⟨L, hL, hm⟩ := h.inChain hi hu
 obtain ⟨A, B, rfl⟩ := List.append_of_mem hm
 obtain ⟨m, hw⟩ := walk_from hL
 obtain ⟨_, hu', hh⟩ := walk_mem hw i (by simp)
 cases m with
 | zero => simp [walk] at hw
 | succ m =>
  have hw2 := hw
  rw [walk_step hi hu' hh, e] at hw2
  cases hq : walk t.f t.b.length (bucketT t t.f[i].k) m (i : Int) with
  | none => rw [hq] at hw2; cases hw2
  | some Q =>
   rw [hq] at hw2
   simp only [Option.map_some, Option.some.injEq, List.cons.injEq, true_and] at hw2
   have := walk_some hq hw
   rw [hw2] at this
   have := congrArg List.length this
   simp at this
theorem found_key {l : List F} {k : K} {i : Nat} (h : findF l k = (i : Int)) : ∃ hi : i < l.length, l[i].u = true ∧ l[i].k = k := by
 rcases findF_spec l k with ⟨e, _⟩ | ⟨j, hj, e, h2, _⟩
 ·omega
 ·have : i = j := by omega
  subst this
  simp only [hasKey, Bool.and_eq_true, decide_eq_true_eq] at h2
  exact ⟨hj, h2.1, h2.2⟩
theorem iUnmap_eq {t : T} {k : K} (hl : t.f.length ≤ 1048576) (hf : 1048576 < fl) : i_UnmapPage fl t k = some (unmapR t k) := by
 unfold i_UnmapPage i_TableValid unmapR
 simp only [obs, iKey_eq, find_eq hl hf]
 cases h1 : tableOk t with
 | false => simp [obs]
 | true =>
  cases h2 : keyOk k with
  | false => simp [obs]
  | true =>
   simp only [Bool.not_true, cof, obs]
   by_cases h3 : findF t.f k < 0
   ·simp [obs, decide_eq_true h3, show ¬ (0 ≤ findF t.f k) from by omega]
   ·rw [decide_eq_false h3]
    simp only [cof, obs]
    have ht := tableOk_iff.1 h1
    have g2 := ht.f2
    have g3 := ht.b1
    have g4 := ht.b2
    rw [clone_eq (by omega)]
    simp only [obs]
    obtain ⟨i, hi⟩ : ∃ i : Nat, findF t.f k = i := ⟨(findF t.f k).toNat, by omega⟩
    obtain ⟨hb', hu, hk⟩ := found_key hi
    rw [hi]
    rw [idx_nat hb']
    simp only [obs]
    obtain ⟨hb, he⟩ := bucketT_lt h2 g3 g4
    rw [iHash_eq h2 (by omega) (by omega)]
    simp only [obs, he]
    rw [idx_nat hb]
    simp only [obs]
    have gD : t.f.getD i freeF = t.f[i] := by simp [hb']
    have bD : t.b.getD (bucketT t k) (-1) = t.b[bucketT t k] := by simp [hb]
    rw [if_pos (by simp)]
    unfold unmapT
    simp only [Int.toNat_natCast]
    rw [gD, hk, bD]
    cases hc : (t.b[bucketT t k] == (i : Int)) with
    | true =>
     simp only [cot, obs, Int.toNat_natCast, if_true]
     rfl
    | false =>
     rw [cof]
     have := iUn_L0 (fl := fl) (x10 := t) (i := i) (x21 := t.f[i]) hl fl 0 t.f rfl (by omega) (by omega) (fun m hm => by omega) (fun m _ => rfl)
     rw [show ((0 : Nat) : Int) = 0 from rfl] at this
     rw [this]
     simp only [obs]
     rw [idx_nat (by rw [unl_len]; exact hb')]
     simp only [obs, Int.toNat_natCast]
     rfl
theorem sUnmap_eq {t : T} {k : K} (hf : 1048576 < fl) : s_UnmapPage fl t k = some (unmapR t k) := by
 unfold s_UnmapPage unmapR
 obtain ⟨a, s, h, ha⟩ := sFindPage_eq (fl := fl) (t := t) (k := k) hf
 rw [h]
 simp only [obs]
 cases hc : (tableOk t && keyOk k && decide (0 ≤ findF t.f k)) with
 | false => simp [obs]
 | true =>
  rw [ha hc]
  simp only [Bool.not_true, cof, if_true]
  simp only [Bool.and_eq_true, decide_eq_true_eq] at hc
  have ht := tableOk_iff.1 hc.1.1
  have h2 := hc.1.2
  have g2 := ht.f2
  have g3 := ht.b1
  have g4 := ht.b2
  obtain ⟨i, hi⟩ : ∃ i : Nat, findF t.f k = i := ⟨(findF t.f k).toNat, by omega⟩
  obtain ⟨hb', hu, hk⟩ := found_key hi
  obtain ⟨hb, he⟩ := bucketT_lt h2 g3 g4
  rw [hi]
  unfold s_l3Unmap
  rw [copy_eq (by omega)]
  simp only [obs]
  rw [idx_nat hb']
  simp only [obs, hk]
  rw [sHash_eq h2 (by omega) (by omega)]
  simp only [obs, he]
  rw [idx_nat hb]
  simp only [obs, Int.toNat_natCast]
  have gD : t.f.getD i freeF = t.f[i] := by simp [hb']
  have bD : t.b.getD (bucketT t k) (-1) = t.b[bucketT t k] := by simp [hb]
  unfold unmapT
  rw [gD, hk, bD]
  cases hcc : (t.b[bucketT t k] == (i : Int)) with
  | true =>
   simp only [cot, obs, if_true]
   rfl
  | false =>
   rw [cof]
   have hns : (t.f[i].u && t.f[i].nx == (i : Int)) = false := by
    have := ht.noself hb' hu
    simp [this]
   have := sUn_L0 (fl := fl) (t := t) (i := i) (x13 := t.f[i]) (by omega) hb' hns fl 0 (t.f.set i freeF) (by simp) (by omega) (by omega) (by simp [hb']) (fun m hm hlt => by omega) (fun m hm _ => by rw [List.getElem?_set, if_neg (fun x => hm x.symm)])
   rw [show ((0 : Nat) : Int) = 0 from rfl] at this
   simp only [freeF] at this ⊢
   rw [this]
   simp only [obs]
   rfl


/-- how many elements a machine has -/
def mcN (m : Mc) : Nat := (m.t.b.length + m.t.f.length) + (m.c.l.length + m.g.o.length)

theorem bXor_nn {p q : Int} (h0 : 0 ≤ p) (h1 : p < 4611686018427387904) (h2 : 0 ≤ q) (h3 : q < 4611686018427387904) : 0 ≤ bXor p q := by
 obtain ⟨a, rfl⟩ : ∃ a : Nat, p = a := ⟨p.toNat, by omega⟩
 obtain ⟨b, rfl⟩ : ∃ b : Nat, q = b := ⟨q.toNat, by omega⟩
 have e : ∀ c : Nat, c < 4611686018427387904 → (BitVec.ofInt 64 (c : Int)).toNat = c := fun c hc => by
  rw [BitVec.toNat_ofInt]
  omega
 have ha := e a (by omega)
 have hb := e b (by omega)
 have hx : (BitVec.ofInt 64 (a : Int) ^^^ BitVec.ofInt 64 (b : Int)).toNat < 2 ^ 62 := by
  rw [BitVec.toNat_xor, ha, hb]
  exact Nat.xor_lt_two_pow (by omega) (by omega)
 unfold bXor
 rw [IntWalk.i64_left, IntWalk.wrap64_in _ (by omega)]
 omega
theorem remO_nn {a b : Int} (ha : 0 ≤ a) (hb : 0 < b) : ∃ r, remO a b = some r ∧ 0 ≤ r ∧ r < b := by
 unfold remO
 rw [if_neg (by omega)]
 exact ⟨_, rfl, Int.tmod_nonneg _ ha, Int.tmod_lt_of_pos _ hb⟩
theorem idx_in {α : Type} {l : List α} {i : Int} (h0 : 0 ≤ i) (h1 : i < (l.length : Int)) : ∃ x ∈ l, idx l i = some x := by
 obtain ⟨n, rfl⟩ : ∃ n : Nat, i = n := ⟨i.toNat, by omega⟩
 exact ⟨l[n]'(by omega), List.getElem_mem _, idx_nat (by omega)⟩
theorem u8_lt (x : UInt8) : (x.toNat : Int) ≤ 255 := by have := x.toNat_lt; omega
theorem pick_eq {l : List UInt8} {p n : Int} (hp : 0 ≤ p) (hp2 : p ≤ 1073741824) (hl : l.length ≤ 2000) : ∃ r, s_l12Rd_pick fl l p n = some (r, p + 1) ∧ (1 ≤ n → 0 ≤ r ∧ r < n) ∧ (n < 1 → r = 0) := by
 unfold s_l12Rd_pick
 rw [ck_in (by omega)]
 simp only [obs]
 by_cases hn : n < 1
 ·rw [decide_eq_true hn]
  simp only [cot, obs]
  exact ⟨0, rfl, fun h => by omega, fun _ => rfl⟩
 rw [decide_eq_false hn]
 simp only [cof, obs]
 by_cases hz : l.length = 0
 ·rw [hz]
  simp only [show (((0 : Nat) : Int) == 0) = true from rfl, cot]
  exact ⟨0, rfl, fun h => by omega, fun _ => rfl⟩
 rw [show ((l.length : Int) == 0) = false from by simpa using (fun e => hz (by rw [e]; rfl))]
 simp only [cof]
 rw [show p + 1 - 1 = p from by omega, ck_in (by omega)]
 simp only [obs]
 by_cases hlt : p < (l.length : Int)
 ·rw [decide_eq_true hlt, cot]
  obtain ⟨x, _, hx⟩ := idx_in hp hlt
  rw [hx]
  simp only [obs]
  have := u8_lt x
  rw [ck_in (by omega)]
  simp only [obs]
  obtain ⟨r, hr, r0, r1⟩ := remO_nn (a := (x.toNat : Int)) (b := n) (by omega) (by omega)
  rw [hr]
  simp only [obs]
  exact ⟨r, rfl, fun _ => ⟨r0, r1⟩, fun h => by omega⟩
 ·rw [decide_eq_false hlt, cof]
  obtain ⟨r1, h1, a1, b1⟩ := remO_nn (a := p) (b := (l.length : Int)) hp (by omega)
  rw [h1]
  simp only [obs]
  obtain ⟨x, _, hx⟩ := idx_in a1 b1
  rw [hx]
  simp only [obs]
  have u1 := u8_lt x
  rw [ck_in (by omega)]
  simp only [obs]
  rw [ck_in (by omega)]
  simp only [obs]
  rw [ck_in (by omega)]
  simp only [obs]
  rw [ck_in (by omega)]
  simp only [obs]
  obtain ⟨r2, h2, a2, b2⟩ := remO_nn (a := p * 7 + 3) (b := (l.length : Int)) (by omega) (by omega)
  rw [h2]
  simp only [obs]
  obtain ⟨y, _, hy⟩ := idx_in a2 b2
  rw [hy]
  simp only [obs]
  have u2 := u8_lt y
  rw [ck_in (by omega)]
  simp only [obs]
  rw [ck_in (by omega)]
  simp only [obs]
  rw [ck_in (by omega)]
  simp only [obs]
  rw [ck_in (by omega)]
  simp only [obs]
  rw [ck_in (by omega)]
  simp only [obs]
  have q0 : 0 ≤ p.tdiv (l.length : Int) := Int.tdiv_nonneg hp (by omega)
  have q1 : p.tdiv (l.length : Int) ≤ p := by
   rw [Int.tdiv_eq_ediv_of_nonneg hp]
   exact Int.ediv_le_self _ hp
  have hq : quoO p (l.length : Int) = some (p.tdiv (l.length : Int)) := by
   unfold quoO; rw [if_neg (by omega), ck_in (by omega)]
  rw [hq]
  simp only [obs]
  generalize p.tdiv (l.length : Int) = q at *
  rw [ck_in (by omega)]
  simp only [obs]
  rw [ck_in (by omega)]
  simp only [obs]
  generalize hz2 : (x.toNat : Int) * 131 + (y.toNat : Int) * 1117 + p * 29 + q * 53 = z
  have z0 : 0 ≤ z ∧ z < 1152921504606846976 := by omega
  have hz3 : quoO z 64 = some (z / 64) := by
   unfold quoO; rw [if_neg (by decide), Int.tdiv_eq_ediv_of_nonneg z0.1, ck_in (by omega)]
  rw [hz3]
  simp only [obs]
  have hx0 := bXor_nn (p := z) (q := z / 64) z0.1 (by omega) (by omega) (by omega)
  obtain ⟨r, hr, c0, c1⟩ := remO_nn (a := bXor z (z / 64)) (b := n) hx0 (by omega)
  rw [hr]
  simp only [obs]
  exact ⟨r, rfl, fun _ => ⟨c0, c1⟩, fun h => by omega⟩
theorem num_eq {l : List UInt8} {p : Int} {L : List Int} (hp : 0 ≤ p) (hp2 : p ≤ 1073741824) (hl : l.length ≤ 2000) (hL : 0 < L.length) : ∃ x ∈ L, s_l12Rd_num fl l p L = some (x, p + 1) := by
 unfold s_l12Rd_num
 obtain ⟨r, h, hr, _⟩ := pick_eq (fl := fl) (n := (L.length : Int)) hp hp2 hl
 rw [h]
 simp only [obs]
 obtain ⟨x, hx, e⟩ := idx_in (hr (by omega)).1 (hr (by omega)).2
 rw [e]
 simp only [obs]
 exact ⟨x, hx, rfl⟩
theorem draw2_eq {l : List UInt8} {p : Int} (hp : 0 ≤ p) (hp2 : p ≤ 1073741000) (hl : l.length ≤ 2000) : ∃ k, s_l2Draw fl l p = some (k, p + 2) := by
 unfold s_l2Draw
 obtain ⟨x, _, h⟩ := num_eq (fl := fl) (L := [0, 1, 2, 3, 1]) hp (by omega) hl (by simp)
 rw [h]
 simp only [obs]
 obtain ⟨y, _, h'⟩ := num_eq (fl := fl) (p := p + 1) (L := [0, 1, 2, 3, 4, 5, 100, 255]) (by omega) (by omega) hl (by simp)
 rw [h']
 simp only [obs]
 exact ⟨_, by rw [show p + 1 + 1 = p + 2 from by omega]⟩

theorem newB_L0 {n : Nat} (hn : n ≤ 1048576) : ∀ (fuel i : Nat), i ≤ n → n - i < fuel → s_NewTable_L0 fl (n : Int) fuel (List.replicate i (-1)) i = some (.out (List.replicate n (-1), (n : Int))) := by
 intro fuel
 induction fuel with
 | zero => intro i _ h; omega
 | succ fuel ih =>
  intro i hi hf
  rw [s_NewTable_L0.eq_2]
  by_cases h : i < n
  ·rw [decide_eq_true (by omega : (i : Int) < (n : Int)), cot, cnt_in (by simp; omega), ck_succ (by omega)]
   simp only [obs]
   have := ih (i + 1) (by omega) (by omega)
   rw [List.replicate_succ'] at this
   exact this
  ·have e : i = n := by omega
   subst e
   simp only [Int.lt_irrefl, decide_false, cof]
theorem newF_L1 {n : Nat} (hn : n ≤ 1048576) : ∀ (fuel i : Nat), i ≤ n → n - i < fuel → s_NewTable_L1 fl (n : Int) fuel (List.replicate i freeF) i = some (.out (List.replicate n freeF, (n : Int))) := by
 intro fuel
 induction fuel with
 | zero => intro i _ h; omega
 | succ fuel ih =>
  intro i hi hf
  rw [s_NewTable_L1.eq_2]
  by_cases h : i < n
  ·rw [decide_eq_true (by omega : (i : Int) < (n : Int)), cot, cnt_in (by simp; omega), ck_succ (by omega)]
   simp only [obs]
   have := ih (i + 1) (by omega) (by omega)
   rw [List.replicate_succ'] at this
   exact this
  ·have e : i = n := by omega
   subst e
   simp only [Int.lt_irrefl, decide_false, cof]
theorem sNewTable_eq {n m : Nat} (h1 : 1 ≤ n) (h2 : n ≤ 16) (h3 : 1 ≤ m) (h4 : m ≤ 16) (hf : 1048576 < fl) : s_NewTable fl n m = some (⟨List.replicate m (-1), List.replicate n freeF⟩, true) := by
 unfold s_NewTable s_l2Buckets
 rw [decide_eq_false (by omega : ¬ (n : Int) < 1), decide_eq_false (by omega : ¬ 16 < (n : Int)), decide_eq_true (by omega : 1 ≤ (m : Int)), decide_eq_true (by omega : (m : Int) ≤ 16)]
 simp only [cof, cot, obs, Bool.not_true]
 have e1 := newB_L0 (fl := fl) (n := m) (by omega) fl 0 (by omega) (by omega)
 have e2 := newF_L1 (fl := fl) (n := n) (by omega) fl 0 (by omega) (by omega)
 rw [show ((0 : Nat) : Int) = 0 from rfl, List.replicate_zero] at e1 e2
 rw [e1]
 simp only [obs]
 rw [e2]
 simp only [obs]

theorem walk_congr {fs fs' : List F} {nb b : Int} (hl : fs'.length = fs.length) : ∀ {m : Nat} {i : Int} {L : List Nat}, walk fs nb b m i = some L → (∀ x ∈ L, fs'[x]? = fs[x]?) → walk fs' nb b m i = some L
 | 0, i, L, h, _ => h
 | m + 1, i, L, h, he => by
  by_cases h1 : i = -1
  ·subst h1; rw [walk_end] at h ⊢; exact h
  ·by_cases hx : ∃ j : Nat, i = j ∧ ∃ hj : j < fs.length, fs[j].u = true ∧ hashI fs[j].k nb = b
   ·obtain ⟨j, rfl, hj, hu, hh⟩ := hx
    rw [walk_step hj hu hh] at h
    cases hw : walk fs nb b m fs[j].nx with
    | none => rw [hw] at h; cases h
    | some M =>
     rw [hw] at h
     simp only [Option.map_some, Option.some.injEq] at h
     subst h
     have e := he j (by simp)
     have hj' : j < fs'.length := by omega
     rw [List.getElem?_eq_getElem hj, List.getElem?_eq_getElem hj', Option.some.injEq] at e
     rw [walk_step hj' (by rw [e]; exact hu) (by rw [e]; exact hh), e, walk_congr hl hw (fun x hx => he x (by simp [hx]))]
     rfl
   ·rw [walk_out h1 (fun j e hj hu hh => hx ⟨j, e, hj, hu, hh⟩)] at h
    cases h
theorem walk_less {fs : List F} {nb b : Int} : ∀ {m : Nat} {i : Int} {L : List Nat}, walk fs nb b m i = some L → walk fs nb b L.length i = some L
 | 0, i, L, h => by
  simp only [walk] at h
  split at h
  ·rename_i e; subst e; simp at h; subst h; exact walk_end ..
  ·cases h
 | m + 1, i, L, h => by
  by_cases h1 : i = -1
  ·subst h1; rw [walk_end] at h; simp at h; subst h; exact walk_end ..
  ·by_cases hx : ∃ j : Nat, i = j ∧ ∃ hj : j < fs.length, fs[j].u = true ∧ hashI fs[j].k nb = b
   ·obtain ⟨j, rfl, hj, hu, hh⟩ := hx
    rw [walk_step hj hu hh] at h
    cases hw : walk fs nb b m fs[j].nx with
    | none => rw [hw] at h; cases h
    | some M =>
     rw [hw] at h
     simp only [Option.map_some, Option.some.injEq] at h
     subst h
     rw [List.length_cons, walk_step hj hu hh, walk_less hw]
     rfl
   ·rw [walk_out h1 (fun j e hj hu hh => hx ⟨j, e, hj, hu, hh⟩)] at h
    cases h
theorem usedKeys_set {l : List F} {i : Nat} (hi : i < l.length) (hu : l[i].u = false) {x : F} (hx : x.u = true) : (usedKeys (l.set i x)).Perm (x.k :: usedKeys l) := by
 have e : l = l.take i ++ l[i] :: l.drop (i + 1) := by rw [List.getElem_cons_drop, List.take_append_drop]
 have e2 : l.set i x = l.take i ++ x :: l.drop (i + 1) := List.set_eq_take_append_cons_drop .. |>.trans (by rw [if_pos hi])
 rw [e2]
 conv => rhs; rw [e]
 simp only [usedKeys, List.filter_append, List.filter_cons, hu, hx, if_true, List.map_append, List.map_cons]
 simp only [Bool.false_eq_true, if_false]
 exact List.perm_middle
theorem sum_one {f g : Nat → Nat} {h : Nat} (hh : g h = f h + 1) (ho : ∀ i, i ≠ h → g i = f i) : ∀ n, ((List.range n).map g).sum = ((List.range n).map f).sum + (if h < n then 1 else 0) := by
 intro n
 induction n with
 | zero => simp
 | succ n ih =>
  simp only [List.range_succ, List.map_append, List.map_cons, List.map_nil, List.sum_append, List.sum_cons, List.sum_nil, ih]
  by_cases e : n = h
  ·subst e; rw [hh, if_neg (by omega), if_pos (by omega)]; omega
  ·rw [ho n e]
   by_cases e2 : h < n
   ·rw [if_pos e2, if_pos (by omega)]; omega
   ·rw [if_neg e2, if_neg (by omega)]; omega

structure CanMap (t : T) (k : K) (fr : Nat) (r : Int) : Prop where
 ok : TOk t
 hk : keyOk k = true
 hr : rightsOk r = true
 hf : fr < t.f.length
 hu : t.f[fr].u = false
 hn : findF t.f k < 0
theorem CanMap.nokey {t : T} {k : K} {fr : Nat} {r : Int} (c : CanMap t k fr r) : k ∉ usedKeys t.f := by
 intro hm
 rcases findF_spec t.f k with ⟨_, h2⟩ | ⟨i, hi, e, _, _⟩
 ·unfold usedKeys at hm
  obtain ⟨g, hg, rfl⟩ := List.mem_map.1 hm
  obtain ⟨hg1, hg2⟩ := List.mem_filter.1 hg
  have := h2 g hg1
  simp [hasKey] at this
  simp [this] at hg2
 ·have := c.hn; omega
theorem CanMap.chainO {t : T} {k : K} {fr : Nat} {r : Int} (c : CanMap t k fr r) {i : Nat} (hi : i < t.b.length) (hne : i ≠ bucketT t k) : ∃ L, chain t i = some L ∧ chain (mapT t k fr r) i = some L := by
 obtain ⟨L, hL⟩ := Option.isSome_iff_exists.1 (c.ok.ch i hi)
 refine ⟨L, hL, ?_⟩
 unfold chain at hL ⊢
 have e1 : (mapT t k fr r).f.length = t.f.length := by simp [mapT]
 have e2 : (mapT t k fr r).b.length = t.b.length := by simp [mapT]
 have e3 : (mapT t k fr r).b.getD i (-1) = t.b.getD i (-1) := by
  simp only [mapT, List.getD_eq_getElem?_getD, List.getElem?_set, if_neg (fun x => hne x.symm : ¬ bucketT t k = i)]
 rw [e1, e2, e3]
 refine walk_congr e1 hL fun x hx => ?_
 obtain ⟨hx1, hx2, _⟩ := walk_mem hL x hx
 simp only [mapT, List.getElem?_set]
 split
 ·rename_i e; subst e; rw [c.hu] at hx2; cases hx2
 ·rfl
theorem CanMap.chainH {t : T} {k : K} {fr : Nat} {r : Int} (c : CanMap t k fr r) : ∃ L, chain t (bucketT t k) = some L ∧ chain (mapT t k fr r) (bucketT t k) = some (fr :: L) := by
 obtain ⟨hb, he⟩ := bucketT_lt c.hk c.ok.b1 c.ok.b2
 obtain ⟨L, hL⟩ := Option.isSome_iff_exists.1 (c.ok.ch _ hb)
 refine ⟨L, hL, ?_⟩
 have hnf : fr ∉ L := fun hm => by
  obtain ⟨_, hx2, _⟩ := walk_mem (show walk t.f t.b.length (bucketT t k) t.f.length (t.b.getD (bucketT t k) (-1)) = some L from hL) fr hm
  rw [c.hu] at hx2; cases hx2
 have hlen : L.length + 1 ≤ t.f.length := by
  have := nodup_le (L := fr :: L) (n := t.f.length) (List.nodup_cons.2 ⟨hnf, walk_nodup hL⟩) (fun x hx => by
   rcases List.mem_cons.1 hx with e | e
   ·subst e; exact c.hf
   ·exact (walk_mem hL x e).1)
  simpa using this
 unfold chain
 have e1 : (mapT t k fr r).f.length = t.f.length := by simp [mapT]
 have e2 : (mapT t k fr r).b.length = t.b.length := by simp [mapT]
 have e3 : (mapT t k fr r).b.getD (bucketT t k) (-1) = (fr : Int) := by simp [mapT, hb]
 have hfr' : fr < (mapT t k fr r).f.length := by rw [e1]; exact c.hf
 have e4 : (mapT t k fr r).f[fr] = ⟨true, k, r, t.b.getD (bucketT t k) (-1)⟩ := by simp [mapT]
 obtain ⟨m, hm⟩ : ∃ m, t.f.length = m + 1 := ⟨t.f.length - 1, by omega⟩
 rw [e1, e2, e3, hm, walk_step hfr' (by rw [e4]) (by rw [e4]; exact he), e4]
 simp only []
 have hw : walk (mapT t k fr r).f t.b.length (bucketT t k) m (t.b.getD (bucketT t k) (-1)) = some L := by
  refine walk_more (m := L.length) (by omega) (walk_congr e1 (walk_less hL) fun x hx => ?_)
  simp only [mapT, List.getElem?_set]
  split
  ·rename_i e; subst e; exact absurd hx hnf
  ·rfl
 rw [hw]; rfl
theorem CanMap.tok {t : T} {k : K} {fr : Nat} {r : Int} (c : CanMap t k fr r) : TOk (mapT t k fr r) := by
 have h := c.ok
 obtain ⟨hb, he⟩ := bucketT_lt c.hk h.b1 h.b2
 have hp : (usedKeys (mapT t k fr r).f).Perm (k :: usedKeys t.f) := usedKeys_set c.hf c.hu rfl
 have e1 : (mapT t k fr r).f.length = t.f.length := by simp [mapT]
 have e2 : (mapT t k fr r).b.length = t.b.length := by simp [mapT]
 refine ⟨by rw [e1]; exact h.f1, by rw [e1]; exact h.f2, by rw [e2]; exact h.b1, by rw [e2]; exact h.b2, fun f hf => ?_, ?_, fun i hi => ?_, ?_⟩
 ·rcases List.mem_or_eq_of_mem_set hf with e | e
  ·exact h.fr f e
  ·subst e; simp [frameOk, c.hk, c.hr]
 ·rw [hp.nodup_iff]
  exact List.nodup_cons.2 ⟨c.nokey, h.ks⟩
 ·by_cases e : i = bucketT t k
  ·subst e
   obtain ⟨L, _, hL⟩ := c.chainH
   rw [hL]; rfl
  ·obtain ⟨L, _, hL⟩ := c.chainO (by rw [e2] at hi; exact hi) e
   rw [hL]; rfl
 ·rw [hp.length_eq, List.length_cons, ← h.sum, e2]
  unfold chainsLen
  have hs : ∀ n, n ≤ t.b.length → ((List.range n).map fun i => ((chain (mapT t k fr r) i).getD []).length).sum = ((List.range n).map fun i => ((chain t i).getD []).length).sum + (if bucketT t k < n then 1 else 0) := by
   intro n
   induction n with
   | zero => intro _; simp
   | succ n ih =>
    intro hn
    simp only [List.range_succ, List.map_append, List.map_cons, List.map_nil, List.sum_append, List.sum_cons, List.sum_nil, ih (by omega)]
    by_cases e : n = bucketT t k
    ·obtain ⟨L, a1, a2⟩ := c.chainH
     rw [e, a1, a2, if_neg (by omega), if_pos (by omega)]
     simp; omega
    ·obtain ⟨L, a1, a2⟩ := c.chainO (by omega : n < t.b.length) e
     rw [a1, a2]
     by_cases e2 : bucketT t k < n
     ·rw [if_pos e2, if_pos (by omega)]; omega
     ·rw [if_neg e2, if_neg (by omega)]; omega
  rw [hs _ (Nat.le_refl _), if_pos hb]
theorem CanMap.find {t : T} {k : K} {fr : Nat} {r : Int} (c : CanMap t k fr r) : findF (mapT t k fr r).f k = fr := by
 have e1 : (mapT t k fr r).f.length = t.f.length := by simp [mapT]
 exact find_at c.tok.ks (by rw [e1]; exact c.hf) (by simp [mapT]) (by simp [mapT])

theorem iChain_L0 {t : T} {nb b : Int} : ∀ {m : Nat} {i : Int} {M : List Nat} (fuel : Nat) (acc : List Int), walk t.f nb b m i = some M → M.length < fuel → acc.length + M.length ≤ 1048576 → i_Table_chain_L0 fl t fuel acc i = some (.out (acc ++ M.map Int.ofNat, -1))
 | m, i, M, 0, acc, _, h, _ => by omega
 | 0, i, M, fuel + 1, acc, h, hf, hl => by
  rw [i_Table_chain_L0.eq_2]
  simp only [walk] at h
  split at h
  ·rename_i e
   subst e
   simp only [Option.some.injEq] at h
   subst h
   simp
  ·cases h
 | m + 1, i, M, fuel + 1, acc, h, hf, hl => by
  rw [i_Table_chain_L0.eq_2]
  by_cases h1 : i = -1
  ·subst h1
   rw [walk_end] at h
   simp only [Option.some.injEq] at h
   subst h
   simp
  ·by_cases hx : ∃ j : Nat, i = j ∧ ∃ hj : j < t.f.length, t.f[j].u = true ∧ hashI t.f[j].k nb = b
   ·obtain ⟨j, rfl, hj, hu, hh⟩ := hx
    rw [walk_step hj hu hh] at h
    cases hw : walk t.f nb b m t.f[j].nx with
    | none => rw [hw] at h; cases h
    | some M' =>
     rw [hw] at h
     simp only [Option.map_some, Option.some.injEq] at h
     subst h
     simp only [List.length_cons] at hf hl
     rw [show ((j : Int) != -1) = true from by simp, cot, cnt_in (by simp; omega)]
     simp only [obs]
     rw [idx_nat hj]
     simp only [obs]
     rw [iChain_L0 fuel (acc ++ [(j : Int)]) hw (by omega) (by simp; omega)]
     simp
   ·rw [walk_out h1 (fun j e hj hu hh => hx ⟨j, e, hj, hu, hh⟩)] at h
    cases h
theorem iChain_eq {t : T} {b : Nat} {M : List Nat} (hb : b < t.b.length) (h : chain t b = some M) (hl : M.length ≤ 1048576) (hf : 1048576 < fl) : i_Table_chain fl t (b : Int) = some (M.map Int.ofNat) := by
 unfold i_Table_chain
 rw [idx_nat hb]
 simp only [obs]
 unfold chain at h
 rw [show t.b.getD b (-1) = t.b[b] from by simp [hb]] at h
 rw [iChain_L0 fl [] h (by omega) (by simpa using hl)]
 simp only [obs, List.nil_append]


theorem iFind_L0 {t : T} {k : K} (ht : TOk t) (x : List Int) (hm : ∀ z ∈ x, ∃ j : Nat, z = j ∧ ∃ h : j < t.f.length, t.f[j].u = true) (hl : x.length ≤ 1048576) : ∀ (fuel i : Nat), i ≤ x.length → x.length - i < fuel → (∀ j, (h : j < x.length) → j < i → ∀ h : (x[j]).toNat < t.f.length, t.f[(x[j]).toNat].k ≠ k) →
  (∃ s, i_FindPage_L0 fl t k x fuel i = some (.ret (findF t.f k, s, true)) ∧ 0 ≤ findF t.f k) ∨ (i_FindPage_L0 fl t k x fuel i = some (.out (x.length : Int)) ∧ ∀ z ∈ x, ∀ h : z.toNat < t.f.length, t.f[z.toNat].k ≠ k) := by
 intro fuel
 induction fuel with
 | zero => intro i _ h; omega
 | succ fuel ih =>
  intro i hi hf hn
  rw [i_FindPage_L0.eq_2]
  by_cases h : i < x.length
  ·obtain ⟨j, e, hj, hu⟩ := hm x[i] (List.getElem_mem h)
   rw [decide_eq_true (by omega : (i : Int) < (x.length : Int)), cot, idx_nat h]
   simp only [obs, e]
   rw [idx_nat hj]
   simp only [obs]
   by_cases hk : t.f[j].k = k
   ·left
    rw [show (t.f[j].k == k) = true from by simpa using hk, cot, ck_succ (by omega)]
    simp only [obs]
    rw [find_at ht.ks hj hu hk]
    exact ⟨_, rfl, by omega⟩
   ·rw [show (t.f[j].k == k) = false from by simpa using hk, cof, ck_succ (by omega)]
    simp only [obs]
    refine ih (i + 1) (by omega) (by omega) fun j' hj' hlt hb => ?_
    by_cases e' : j' = i
    ·subst e'
     have e2 : x[j'].toNat = j := by rw [e]; simp
     simp only [e2]
     exact hk
    ·exact hn j' hj' (by omega) hb
  ·have e : i = x.length := by omega
   subst e
   right
   simp only [Int.lt_irrefl, decide_false, cof]
   refine ⟨trivial, fun z hz hb => ?_⟩
   obtain ⟨j, hj, rfl⟩ := List.getElem_of_mem hz
   exact hn j hj hj hb
theorem iFindPage_eq {t : T} {k : K} (ht : TOk t) (hk : keyOk k = true) (hf : 1048576 < fl) : ∃ s, (0 ≤ findF t.f k → i_FindPage fl t k = some (findF t.f k, s, true)) ∧ (findF t.f k < 0 → i_FindPage fl t k = some (0, s, false)) := by
 obtain ⟨hb, he⟩ := bucketT_lt hk ht.b1 ht.b2
 obtain ⟨M, hM⟩ := Option.isSome_iff_exists.1 (ht.ch _ hb)
 have hcl := chainL_chain hM
 have hL : M.length ≤ t.f.length := nodup_le (walk_nodup hM) (fun x hx => (walk_mem hM x hx).1)
 have g1 := ht.f2
 have g2 := ht.b1
 have g3 := ht.b2
 unfold i_FindPage i_TableValid
 simp only [obs, tableOk_of ht, iKey_eq, hk, Bool.not_true, cof]
 rw [iHash_eq hk (by omega) (by omega)]
 simp only [obs, he]
 rw [iChain_eq hb hM (by omega) hf]
 simp only [obs]
 have hmem : ∀ z ∈ M.map Int.ofNat, ∃ j : Nat, z = j ∧ ∃ h : j < t.f.length, t.f[j].u = true := fun z hz => chainL_mem (t := t) (b := bucketT t k) z (by rw [hcl]; exact hz)
 rcases iFind_L0 (fl := fl) (k := k) ht (M.map Int.ofNat) hmem (by simp; omega) fl 0 (by omega) (by simp; omega) (fun j _ hj => by omega) with ⟨s, h, h0⟩ | ⟨h, hn⟩
 ·rw [show ((0 : Nat) : Int) = 0 from rfl] at h
  rw [h]; simp only [obs]
  exact ⟨s, fun _ => rfl, fun h => by omega⟩
 ·rw [show ((0 : Nat) : Int) = 0 from rfl] at h
  rw [h]; simp only [obs]
  have := ht.none hb (L := M.map Int.ofNat) (ok := true) hcl hn
  exact ⟨_, fun h => by omega, fun _ => rfl⟩

/-- each of k places from i on -/
def upto (p : Nat → Bool) (i : Nat) : Nat → Bool
 | 0 => true
 | k + 1 => p i && upto p (i + 1) k
theorem upto_iff {p : Nat → Bool} : ∀ {k i : Nat}, upto p i k = true ↔ ∀ j, i ≤ j → j < i + k → p j = true
 | 0, i => ⟨fun _ j h1 h2 => by omega, fun _ => rfl⟩
 | k + 1, i => by
  rw [upto, Bool.and_eq_true, upto_iff]
  constructor
  ·rintro ⟨h0, h1⟩ j hj hk
   by_cases e : j = i
   ·subst e; exact h0
   ·exact h1 j (by omega) (by omega)
  ·intro h
   exact ⟨h i (by omega) (by omega), fun j hj hk => h j (by omega) (by omega)⟩
/-- the first place from i on -/
def fx {α : Type} (p : α → Bool) : List α → Nat → Int
 | [], _ => -1
 | x :: l, i => if p x then (i : Int) else fx p l (i + 1)
theorem fx_drop {α : Type} {p : α → Bool} {l : List α} {i : Nat} (h : i < l.length) : fx p (l.drop i) i = if p l[i] then (i : Int) else fx p (l.drop (i + 1)) (i + 1) := by
 rw [List.drop_eq_getElem_cons h, fx]
theorem fx_end {α : Type} {p : α → Bool} {l : List α} {i : Nat} (h : l.length ≤ i) : fx p (l.drop i) i = -1 := by
 rw [List.drop_eq_nil_of_le h, fx]
theorem fx_spec {α : Type} {p : α → Bool} : ∀ {l : List α} {i : Nat}, (fx p l i = -1 ∧ ∀ x ∈ l, p x = false) ∨ ∃ j, ∃ h : j < l.length, fx p l i = ((i + j : Nat) : Int) ∧ p l[j] = true ∧ ∀ m, (hm : m < j) → p (l[m]'(by omega)) = false
 | [], i => .inl ⟨rfl, by simp⟩
 | x :: l, i => by
  by_cases hx : p x = true
  ·right
   exact ⟨0, by simp, by rw [fx, if_pos hx]; simp, hx, fun m hm => by omega⟩
  ·have hx' : p x = false := by simpa using hx
   rcases fx_spec (p := p) (l := l) (i := i + 1) with ⟨h, h'⟩ | ⟨j, hj, h, h1, h2⟩
   ·left
    refine ⟨by rw [fx, if_neg hx]; exact h, fun y hy => ?_⟩
    rcases List.mem_cons.1 hy with e | e
    ·rw [e]; exact hx'
    ·exact h' y e
   ·right
    refine ⟨j + 1, by simpa using hj, by rw [fx, if_neg hx, h]; congr 1; omega, by simpa using h1, fun m hm => ?_⟩
    rcases m with _ | m
    ·exact hx'
    ·exact h2 m (by omega)
theorem fx_bd {α : Type} {p : α → Bool} {l : List α} : -1 ≤ fx p l 0 ∧ fx p l 0 < (l.length : Int) := by
 rcases fx_spec (p := p) (l := l) (i := 0) with ⟨h, _⟩ | ⟨j, hj, h, _⟩ <;> rw [h] <;> omega
theorem fx_none {α : Type} {p : α → Bool} {l : List α} (h : fx p l 0 < 0) : ∀ x ∈ l, p x = false := by
 rcases fx_spec (p := p) (l := l) (i := 0) with ⟨_, h'⟩ | ⟨j, hj, h', _⟩
 ·exact h'
 ·rw [h'] at h; omega
theorem fx_at {α : Type} {p : α → Bool} {l : List α} (h : 0 ≤ fx p l 0) : ∃ j, ∃ hj : j < l.length, fx p l 0 = (j : Int) ∧ p l[j] = true := by
 rcases fx_spec (p := p) (l := l) (i := 0) with ⟨e, _⟩ | ⟨j, hj, h', h1, _⟩
 ·rw [e] at h; omega
 ·exact ⟨j, hj, by rw [h']; congr 1; omega, h1⟩

/-! ### lines and caches -/
def lnZ : Ln := ⟨false, 0, 0, 0, 0, false⟩
def tagIn (t : Int) : Bool := decide (-1 ≤ t) && decide (t < 8)
def lineOk (x : Ln) : Bool := cond x.va (tagIn x.tg && within x.pg 256 && within x.fr 16 && rightsOk x.ri) (x == lnZ)
def clash (x y : Ln) : Bool := x.va && y.va && (x.pg == y.pg) && (x.tg == y.tg || x.tg == -1 || y.tg == -1)
def lnAt (l : List Ln) (i : Nat) : Ln := l.getD i lnZ
theorem lnAt_lt {l : List Ln} {i : Nat} (h : i < l.length) : lnAt l i = l[i] := by simp [lnAt, h]
def lineGood (l : List Ln) (i : Nat) : Bool := lineOk (lnAt l i) && upto (fun j => !clash (lnAt l i) (lnAt l j)) 0 i
def cacheOk (c : Ca) : Bool := decide (1 ≤ c.l.length) && decide (c.l.length ≤ 8) && within c.h c.l.length && upto (lineGood c.l) 0 c.l.length && !upto (fun i => (lnAt c.l i).wi) 0 c.l.length
def fits (tag page : Int) (x : Ln) : Bool := x.va && (x.pg == page) && (x.tg == tag || x.tg == -1)

/-! ### tags -/
def owZ : Ow := ⟨0, 0⟩
def owAt (l : List Ow) (i : Nat) : Ow := l.getD i owZ
theorem owAt_lt {l : List Ow} {i : Nat} (h : i < l.length) : owAt l i = l[i] := by simp [owAt, h]
def prevTag (l : List Ow) : Nat → Int
 | 0 => -1
 | i + 1 => (owAt l i).tg
def ownGood (t : Tg) (i : Nat) : Bool := decide (prevTag t.o i < (owAt t.o i).tg) && decide ((owAt t.o i).tg < t.n) && within (owAt t.o i).sp 16 && upto (fun j => !((owAt t.o j).sp == (owAt t.o i).sp)) 0 i
def tagsOk (t : Tg) : Bool := decide (1 ≤ t.c) && decide (t.c ≤ 8) && decide (0 ≤ t.n) && decide (t.n ≤ t.c) && decide (0 ≤ t.r) && decide (t.r ≤ 1000000) && upto (ownGood t) 0 t.o.length
def ownF (t : Tg) (sp : Int) : Int := fx (fun o : Ow => o.sp == sp) t.o 0
def spF (t : Tg) (tag : Int) : Int := fx (fun o : Ow => o.tg == tag) t.o 0

/-! ### machines -/
def keyFor (sp pg : Int) : K := cond (decide (128 ≤ pg)) ⟨0, pg⟩ ⟨sp, pg⟩
def frameFits (f : F) : Bool := !(f.u && decide (128 ≤ f.k.p) && !(f.k.s == 0))
def lineSpace (m : Mc) (x : Ln) : Int := cond (x.tg == -1) 0 (owAt m.g.o (spF m.g x.tg).toNat).sp
noncomputable def lineHas (m : Mc) (x : Ln) : Bool :=
 (decide (128 ≤ x.pg) == (x.tg == -1)) && (!x.wi || x.tg == -1) && (x.tg == -1 || decide (0 ≤ spF m.g x.tg)) &&
 decide (0 ≤ findF m.t.f (keyFor (lineSpace m x) x.pg)) && (findF m.t.f (keyFor (lineSpace m x) x.pg) == x.fr) && ((m.t.f.getD (findF m.t.f (keyFor (lineSpace m x) x.pg)).toNat freeF).r == x.ri)
noncomputable def machineOk (m : Mc) : Bool := tableOk m.t && cacheOk m.c && tagsOk m.g && decide (0 ≤ ownF m.g m.s) && upto (fun i => frameFits (m.t.f.getD i freeF)) 0 m.t.f.length && upto (fun i => !(lnAt m.c.l i).va || lineHas m (lnAt m.c.l i)) 0 m.c.l.length
def mc0 : Mc := ⟨⟨[], []⟩, ⟨[], 0⟩, ⟨0, 0, 0, []⟩, 0⟩

structure CO (c : Ca) : Prop where
 n1 : 1 ≤ c.l.length
 n2 : c.l.length ≤ 8
 h0 : 0 ≤ c.h
 h1 : c.h < (c.l.length : Int)
 ok : ∀ i, i < c.l.length → lineOk (lnAt c.l i) = true
 cl : ∀ i, i < c.l.length → ∀ j, j < i → clash (lnAt c.l i) (lnAt c.l j) = false
 un : ∃ i, i < c.l.length ∧ (lnAt c.l i).wi = false
theorem cacheOk_iff {c : Ca} : cacheOk c = true ↔ CO c := by
 unfold cacheOk
 simp only [Bool.and_eq_true, decide_eq_true_eq, within_iff, Bool.not_eq_true', upto_iff, Nat.zero_add, lineGood]
 constructor
 ·rintro ⟨⟨⟨⟨a, b⟩, d, e⟩, f⟩, g⟩
  refine ⟨a, b, d, e, fun i hi => (f i (by omega) hi).1, fun i hi j hj => ?_, ?_⟩
  ·have := (f i (by omega) hi).2 j (by omega) hj
   simpa using this
  ·have g' : ¬ upto (fun i => (lnAt c.l i).wi) 0 c.l.length = true := by rw [g]; simp
   rw [upto_iff] at g'
   apply Classical.byContradiction
   intro hn
   apply g'
   intro j _ hj
   have : ¬ (lnAt c.l j).wi = false := fun e => hn ⟨j, by omega, e⟩
   simpa using this
 ·rintro ⟨a, b, d, e, f, g, i, hi, hw⟩
  refine ⟨⟨⟨⟨a, b⟩, d, e⟩, fun i _ hi => ⟨f i hi, fun j _ hj => by rw [g i hi j hj]⟩⟩, ?_⟩
  apply Bool.eq_false_iff.2
  intro hu
  rw [upto_iff] at hu
  have := hu i (by omega) (by omega)
  rw [hw] at this
  cases this

/-! ### the victim -/
def clk (l : List Ln) (i : Nat) : Nat → Nat
 | 0 => i
 | k + 1 => cond (lnAt l i).wi (clk l ((i + 1) % l.length) k) i
theorem clk_lt {l : List Ln} (hn : 0 < l.length) : ∀ {k i : Nat}, i < l.length → clk l i k < l.length
 | 0, i, h => h
 | k + 1, i, h => by
  rw [clk]
  cases (lnAt l i).wi with
  | true => rw [cot]; exact clk_lt hn (Nat.mod_lt _ hn)
  | false => rw [cof]; exact h
def vict (c : Ca) : Nat := if 0 ≤ fx (fun x : Ln => !x.va) c.l 0 then (fx (fun x : Ln => !x.va) c.l 0).toNat else clk c.l c.h.toNat c.l.length
theorem vict_lt {c : Ca} (h : CO c) : vict c < c.l.length := by
 have hb := fx_bd (p := fun x : Ln => !x.va) (l := c.l)
 have h0 := h.h0
 have h1 := h.h1
 have h2 := h.n1
 unfold vict
 split
 ·omega
 ·exact clk_lt (by omega) (by omega)
theorem reach_ex {n i j : Nat} (hi : i < n) (hj : j < n) : ∃ d, d < n ∧ (i + d) % n = j := by
 by_cases h : i ≤ j
 ·exact ⟨j - i, by omega, by rw [show i + (j - i) = j by omega]; exact Nat.mod_eq_of_lt hj⟩
 ·exact ⟨j + n - i, by omega, by rw [show i + (j + n - i) = j + n by omega, Nat.add_mod_right]; exact Nat.mod_eq_of_lt hj⟩

def fillC (c : Ca) (x : Ln) : Ca := ⟨c.l.set (vict c) x, cond (lnAt c.l (vict c)).va (((vict c + 1) % c.l.length : Nat) : Int) c.h⟩
theorem lnAt_set {l : List Ln} {i j : Nat} {x : Ln} (h : j < l.length) : lnAt (l.set i x) j = if i = j then x else lnAt l j := by
 rw [lnAt_lt (by simpa using h), lnAt_lt h, List.getElem_set]
theorem clash_symm {x y : Ln} : clash x y = clash y x := by
 unfold clash
 rw [Bool.eq_iff_iff]
 simp only [Bool.and_eq_true, Bool.or_eq_true, beq_iff_eq]
 constructor <;> rintro ⟨⟨⟨a, b⟩, d⟩, (e | e) | e⟩ <;> refine ⟨⟨⟨b, a⟩, d.symm⟩, ?_⟩ <;> simp [e]
theorem fill_ok {c : Ca} {x : Ln} (h : CO c) (hx : lineOk x = true) (hw : x.wi = false) (hn : fx (fits x.tg x.pg) c.l 0 < 0) (hs : ∀ i, i < c.l.length → (lnAt c.l i).va = true → (lnAt c.l i).pg = x.pg → x.tg = -1 → (lnAt c.l i).tg = -1) : CO (fillC c x) := by
 have hv := vict_lt h
 have hno := fx_none hn
 have hcl : ∀ i, i < c.l.length → clash x (lnAt c.l i) = false := by
  intro i hi
  have h1 := hno _ (List.getElem_mem hi)
  rw [← lnAt_lt hi] at h1
  apply Bool.eq_false_iff.2
  intro hc
  unfold clash at hc
  unfold fits at h1
  simp only [Bool.and_eq_true, Bool.or_eq_true, beq_iff_eq] at hc
  obtain ⟨⟨⟨a, b⟩, d⟩, e⟩ := hc
  have hq : ((lnAt c.l i).tg == x.tg || (lnAt c.l i).tg == -1) = true := by
   rcases e with (e | e) | e
   ·simp [e]
   ·simp [hs i hi b d.symm e]
   ·simp [e]
  rw [b, hq, d] at h1
  simp at h1
 refine ⟨by simpa [fillC] using h.n1, by simpa [fillC] using h.n2, ?_, ?_, fun i hi => ?_, fun i hi j hj => ?_, ?_⟩
 ·simp only [fillC]
  cases (lnAt c.l (vict c)).va with
  | true => rw [cot]; omega
  | false => rw [cof]; exact h.h0
 ·simp only [fillC, List.length_set]
  cases (lnAt c.l (vict c)).va with
  | true =>
   rw [cot]
   have := Nat.mod_lt (vict c + 1) (show 0 < c.l.length from h.n1)
   omega
  | false => rw [cof]; exact h.h1
 ·simp only [fillC, List.length_set] at hi ⊢
  rw [lnAt_set hi]
  split
  ·exact hx
  ·exact h.ok i hi
 ·simp only [fillC, List.length_set] at hi ⊢
  rw [lnAt_set hi, lnAt_set (by omega)]
  split
  ·split
   ·omega
   ·exact hcl j (by omega)
  ·split
   ·rw [clash_symm]; exact hcl i hi
   ·exact h.cl i hi j hj
 ·refine ⟨vict c, by simpa [fillC] using hv, ?_⟩
  simp only [fillC]
  rw [lnAt_set hv, if_pos rfl, hw]

/-! ### tags -/
structure GO (t : Tg) : Prop where
 c1 : 1 ≤ t.c
 c2 : t.c ≤ 8
 n1 : 0 ≤ t.n
 n2 : t.n ≤ t.c
 r1 : 0 ≤ t.r
 r2 : t.r ≤ 1000000
 pt : ∀ i, i < t.o.length → prevTag t.o i < (owAt t.o i).tg
 tn : ∀ i, i < t.o.length → (owAt t.o i).tg < t.n
 s1 : ∀ i, i < t.o.length → 0 ≤ (owAt t.o i).sp ∧ (owAt t.o i).sp < 16
 sd : ∀ i, i < t.o.length → ∀ j, j < i → (owAt t.o j).sp ≠ (owAt t.o i).sp
theorem tagsOk_iff {t : Tg} : tagsOk t = true ↔ GO t := by
 unfold tagsOk
 simp only [Bool.and_eq_true, decide_eq_true_eq, within_iff, upto_iff, Nat.zero_add, ownGood]
 constructor
 ·rintro ⟨⟨⟨⟨⟨⟨a, b⟩, d⟩, e⟩, f⟩, g⟩, h⟩
  refine ⟨a, b, d, e, f, g, fun i hi => (h i (by omega) hi).1.1.1, fun i hi => (h i (by omega) hi).1.1.2, fun i hi => (h i (by omega) hi).1.2, fun i hi j hj => ?_⟩
  have := (h i (by omega) hi).2 j (by omega) hj
  simpa using this
 ·rintro ⟨a, b, d, e, f, g, h1, h2, h3, h4⟩
  refine ⟨⟨⟨⟨⟨⟨a, b⟩, d⟩, e⟩, f⟩, g⟩, fun i _ hi => ⟨⟨⟨h1 i hi, h2 i hi⟩, h3 i hi⟩, fun j _ hj => ?_⟩⟩
  have := h4 i hi j hj
  simpa using this
theorem GO.ge {t : Tg} (h : GO t) : ∀ i, i < t.o.length → (i : Int) ≤ (owAt t.o i).tg
 | 0, hi => by have := h.pt 0 hi; simp only [prevTag] at this; omega
 | i + 1, hi => by
  have h1 := h.pt (i + 1) hi
  have h2 := h.ge i (by omega)
  simp only [prevTag] at h1
  omega
theorem GO.len {t : Tg} (h : GO t) : (t.o.length : Int) ≤ t.n := by
 rcases Nat.eq_zero_or_pos t.o.length with e | e
 ·rw [e]; exact h.n1
 ·have h1 := h.ge (t.o.length - 1) (by omega)
  have h2 := h.tn (t.o.length - 1) (by omega)
  omega

/-- a loop that looks for the first place -/
theorem findLoop {α ρ : Type} {L : Nat → Int → Option (LO Int ρ)} {l : List α} {p : α → Bool} {res : Nat → ρ}
  (step : ∀ fuel i (h : i < l.length), L (fuel + 1) (i : Int) = if p l[i] then some (.ret (res i)) else L fuel ((i + 1 : Nat) : Int))
  (stop : ∀ fuel, L (fuel + 1) (l.length : Int) = some (.out (l.length : Int))) : ∀ fuel i, i ≤ l.length → l.length - i < fuel →
  L fuel (i : Int) = some (if 0 ≤ fx p (l.drop i) i then .ret (res (fx p (l.drop i) i).toNat) else .out (l.length : Int)) := by
 intro fuel
 induction fuel with
 | zero => intro i _ h; omega
 | succ fuel ih =>
  intro i hi hf
  by_cases h : i < l.length
  ·rw [step fuel i h, fx_drop h]
   by_cases hp : p l[i] = true
   ·rw [if_pos hp, if_pos hp, if_pos (by omega)]; simp
   ·rw [if_neg hp, if_neg hp]; exact ih (i + 1) (by omega) (by omega)
  ·have e : i = l.length := by omega
   subst e
   rw [stop, fx_end (Nat.le_refl _), if_neg (by omega)]
/-- a loop that looks whether each place is good -/
theorem allLoop {ρ : Type} {L : Nat → Int → Option (LO Int ρ)} {n : Nat} {p : Nat → Bool} {bad : ρ}
  (step : ∀ fuel i, i < n → L (fuel + 1) (i : Int) = if p i then L fuel ((i + 1 : Nat) : Int) else some (.ret bad))
  (stop : ∀ fuel, L (fuel + 1) (n : Int) = some (.out (n : Int))) : ∀ fuel i, i ≤ n → n - i < fuel → L fuel (i : Int) = some (if upto p i (n - i) then .out (n : Int) else .ret bad) := by
 intro fuel
 induction fuel with
 | zero => intro i _ h; omega
 | succ fuel ih =>
  intro i hi hf
  by_cases h : i < n
  ·obtain ⟨k, hk⟩ : ∃ k, n - i = k + 1 := ⟨n - i - 1, by omega⟩
   have hk' : n - (i + 1) = k := by omega
   rw [step fuel i h, hk, upto]
   cases hp : p i with
   | true =>
    rw [if_pos rfl, Bool.true_and]
    have := ih (i + 1) (by omega) (by omega)
    rw [hk'] at this
    exact this
   | false => simp
  ·have e : i = n := by omega
   subst e
   rw [stop, Nat.sub_self]; rfl
theorem s1Page (x : Int) : s_l1Page fl x = some (within x 256) := by
 unfold s_l1Page within; cases decide (0 ≤ x) <;> rfl
theorem s1Space (x : Int) : s_l1Space fl x = some (within x 16) := by
 unfold s_l1Space within; cases decide (0 ≤ x) <;> rfl
theorem iTag_eq (x : Int) : i_tagValid fl x = some (tagIn x) := by
 unfold i_tagValid tagIn; cases decide (-1 ≤ x) <;> rfl
theorem iLine_eq (x : Ln) : i_lineValid fl x = some (lineOk x) := by
 unfold i_lineValid lineOk
 rw [iTag_eq, within_eq, within_eq, iRights_eq]
 cases x.va <;> cases tagIn x.tg <;> cases within x.pg 256 <;> cases within x.fr 16 <;> rfl
theorem sLine_eq (x : Ln) : s_l4Line fl x = some (lineOk x) := by
 unfold s_l4Line lineOk
 rw [s1Page, sRights_eq]
 unfold tagIn
 cases x.va <;> cases decide (-1 ≤ x.tg) <;> cases decide (x.tg < 8) <;> cases within x.pg 256 <;> (unfold within; cases decide (0 ≤ x.fr) <;> cases decide (x.fr < 16) <;> rfl)
theorem iClash_eq (x y : Ln) : i_clash fl x y = some (clash x y) := by
 unfold i_clash clash
 cases x.va <;> cases y.va <;> cases (x.pg == y.pg) <;> cases (x.tg == y.tg) <;> cases (x.tg == -1) <;> rfl
theorem fits_eq (x : Ln) (tag page : Int) : i_Cache_place_1 fl x page tag = some (fits tag page x) := by
 unfold i_Cache_place_1 fits
 cases x.va <;> cases (x.pg == page) <;> cases (x.tg == tag) <;> rfl
theorem sFits_eq (x : Ln) (tag page : Int) : s_l4Fits fl x tag page = some (fits tag page x) := by
 unfold s_l4Fits fits
 cases x.va <;> cases (x.pg == page) <;> cases (x.tg == tag) <;> rfl

/-! ### the place of a line -/
theorem fx_ret {α : Type} {p : α → Bool} {l : List α} {f : Option Int → Option Int} : (match (if 0 ≤ fx p l 0 then LO.ret ((fx p l 0).toNat : Int) else LO.out (l.length : Int) : LO Int Int) with | .ret r' => some r' | .out _ => some (-1)) = some (fx p l 0) := by
 have hb := fx_bd (p := p) (l := l)
 by_cases h : 0 ≤ fx p l 0
 ·rw [if_pos h]; simp only []; congr 1; omega
 ·rw [if_neg h]; simp only []; congr 1; omega
theorem place_eq {c : Ca} {tag page : Int} (hl : c.l.length ≤ 1048576) (hf : 1048576 < fl) : i_Cache_place fl c tag page = some (fx (fits tag page) c.l 0) := by
 unfold i_Cache_place slices_IndexFunc_Line_of_i_Cache_place_1
 have := findLoop (L := slices_IndexFunc_Line_of_i_Cache_place_1_L0 fl c.l page tag) (l := c.l) (p := fits tag page) (res := fun i => (i : Int))
  (fun fuel i h => by
   rw [slices_IndexFunc_Line_of_i_Cache_place_1_L0.eq_2, decide_eq_true (by omega : (i : Int) < (c.l.length : Int)), cot, idx_nat h]
   simp only [obs, fits_eq]
   cases fits tag page c.l[i] with
   | true => rfl
   | false => rw [cof, ck_succ (by omega)]; rfl)
  (fun fuel => by rw [slices_IndexFunc_Line_of_i_Cache_place_1_L0.eq_2, decide_eq_false (by omega), cof]) fl 0 (by omega) (by omega)
 rw [show ((0 : Nat) : Int) = 0 from rfl, List.drop_zero] at this
 rw [this]
 simp only [obs]
 have hb := fx_bd (p := fits tag page) (l := c.l)
 by_cases h0 : 0 ≤ fx (fits tag page) c.l 0
 ·rw [if_pos h0]; simp only [obs]; congr 1; omega
 ·rw [if_neg h0]; simp only [obs]; congr 1; omega
theorem sPlace_eq {c : Ca} {tag page : Int} (hl : c.l.length ≤ 1048576) (hf : 1048576 < fl) : s_l4Find fl c tag page = some (fx (fits tag page) c.l 0) := by
 unfold s_l4Find
 have := findLoop (L := s_l4Find_L0 fl c tag page) (l := c.l) (p := fits tag page) (res := fun i => (i : Int))
  (fun fuel i h => by
   rw [s_l4Find_L0.eq_2, decide_eq_true (by omega : (i : Int) < (c.l.length : Int)), cot, idx_nat h]
   simp only [obs, sFits_eq]
   cases fits tag page c.l[i] with
   | true => rfl
   | false => rw [cof, ck_succ (by omega)]; rfl)
  (fun fuel => by rw [s_l4Find_L0.eq_2, decide_eq_false (by omega), cof]) fl 0 (by omega) (by omega)
 rw [show ((0 : Nat) : Int) = 0 from rfl, List.drop_zero] at this
 rw [this]
 simp only [obs]
 exact fx_ret (f := id)
theorem own_eq {t : Tg} {sp : Int} (hl : t.o.length ≤ 1048576) (hf : 1048576 < fl) : i_Tags_own fl t sp = some (ownF t sp) := by
 unfold i_Tags_own slices_IndexFunc_Own_of_i_Tags_own_1
 have := findLoop (L := slices_IndexFunc_Own_of_i_Tags_own_1_L0 fl t.o sp) (l := t.o) (p := fun o : Ow => o.sp == sp) (res := fun i => (i : Int))
  (fun fuel i h => by
   rw [slices_IndexFunc_Own_of_i_Tags_own_1_L0.eq_2, decide_eq_true (by omega : (i : Int) < (t.o.length : Int)), cot, idx_nat h]
   simp only [obs, i_Tags_own_1]
   cases (t.o[i].sp == sp) with
   | true => rfl
   | false => rw [cof, ck_succ (by omega)]; rfl)
  (fun fuel => by rw [slices_IndexFunc_Own_of_i_Tags_own_1_L0.eq_2, decide_eq_false (by omega), cof]) fl 0 (by omega) (by omega)
 rw [show ((0 : Nat) : Int) = 0 from rfl, List.drop_zero] at this
 rw [this]
 simp only [obs]
 unfold ownF
 have hb := fx_bd (p := fun o : Ow => o.sp == sp) (l := t.o)
 by_cases h0 : 0 ≤ fx (fun o : Ow => o.sp == sp) t.o 0
 ·rw [if_pos h0]; simp only [obs]; congr 1; omega
 ·rw [if_neg h0]; simp only [obs]; congr 1; omega
theorem sOwn_eq {t : Tg} {sp : Int} (hl : t.o.length ≤ 1048576) (hf : 1048576 < fl) : s_l5Find fl t sp = some (ownF t sp) := by
 unfold s_l5Find
 have := findLoop (L := s_l5Find_L0 fl t sp) (l := t.o) (p := fun o : Ow => o.sp == sp) (res := fun i => (i : Int))
  (fun fuel i h => by
   rw [s_l5Find_L0.eq_2, decide_eq_true (by omega : (i : Int) < (t.o.length : Int)), cot, idx_nat h]
   simp only [obs]
   cases (t.o[i].sp == sp) with
   | true => rfl
   | false => rw [cof, ck_succ (by omega)]; rfl)
  (fun fuel => by rw [s_l5Find_L0.eq_2, decide_eq_false (by omega), cof]) fl 0 (by omega) (by omega)
 rw [show ((0 : Nat) : Int) = 0 from rfl, List.drop_zero] at this
 rw [this]
 simp only [obs]
 exact fx_ret (f := id)

/-! ### valid caches -/
theorem iClashes {c : Ca} {i : Nat} {x : Ln} (h : i < c.l.length) (hl : c.l.length ≤ 8) (hf : 1048576 < fl) : i_CacheValid_L1 fl x (c.l.take i) fl 0 = some (if upto (fun j => !clash x (lnAt c.l j)) 0 i then .out (i : Int) else .ret false) := by
 have e : (c.l.take i).length = i := by rw [List.length_take]; omega
 have := allLoop (L := i_CacheValid_L1 fl x (c.l.take i)) (n := i) (p := fun j => !clash x (lnAt c.l j)) (bad := false)
  (fun fuel j hj => by
   have h2 : j < (c.l.take i).length := by omega
   rw [i_CacheValid_L1.eq_2, e, decide_eq_true (by omega : (j : Int) < (i : Int)), cot, idx_nat h2]
   simp only [obs, iClash_eq, List.getElem_take]
   rw [lnAt_lt (by omega)]
   cases clash x c.l[j] with
   | true => rfl
   | false => rw [cof, ck_succ (by omega)]; rfl)
  (fun fuel => by rw [i_CacheValid_L1.eq_2, e, decide_eq_false (by omega), cof]) fl 0 (by omega) (by omega)
 rw [show ((0 : Nat) : Int) = 0 from rfl, Nat.sub_zero] at this
 exact this
theorem takeO_nat {α : Type} {l : List α} {i : Nat} (h : i ≤ l.length) : takeO l (i : Int) = some (l.take i) := by
 unfold takeO; rw [if_pos (by omega)]; simp
theorem iCache_L0 {c : Ca} (hl : c.l.length ≤ 8) (hf : 1048576 < fl) : ∀ fuel i (b : Bool), i ≤ c.l.length → c.l.length - i < fuel →
  i_CacheValid_L0 fl c fuel (i : Int) b = some (if upto (lineGood c.l) i (c.l.length - i) then .out ((c.l.length : Int), b || !upto (fun i => (lnAt c.l i).wi) i (c.l.length - i)) else .ret false) := by
 intro fuel
 induction fuel with
 | zero => intro i b _ h; omega
 | succ fuel ih =>
  intro i b hi hfu
  rw [i_CacheValid_L0.eq_2]
  by_cases h : i < c.l.length
  ·obtain ⟨k, hk⟩ : ∃ k, c.l.length - i = k + 1 := ⟨c.l.length - i - 1, by omega⟩
   have hk' : c.l.length - (i + 1) = k := by omega
   have IH := fun b => ih (i + 1) b (by omega) (by omega)
   simp only [hk'] at IH
   rw [decide_eq_true (by omega : (i : Int) < (c.l.length : Int)), cot, idx_nat h]
   simp only [obs, iLine_eq]
   rw [hk, upto, upto, lineGood, lnAt_lt h]
   cases lineOk c.l[i] with
   | false => simp [obs]
   | true =>
    simp only [Bool.not_true, cof, Bool.true_and]
    rw [takeO_nat hi]
    simp only [obs]
    rw [iClashes h hl hf]
    simp only [obs]
    cases upto (fun j => !clash c.l[i] (lnAt c.l j)) 0 i with
    | false => simp
    | true =>
     simp only [if_true, Bool.true_and]
     have : (cond b (some true) (some (!c.l[i].wi))) = some (b || !c.l[i].wi) := by cases b <;> rfl
     rw [this, ck_succ (by omega)]
     simp only [obs]
     rw [IH]
     cases b <;> cases c.l[i].wi <;> rfl
  ·have e : i = c.l.length := by omega
   subst e
   rw [decide_eq_false (by omega), cof, Nat.sub_self]
   simp [upto]
theorem iCache_eq {c : Ca} (hf : 1048576 < fl) : i_CacheValid fl c = some (cacheOk c) := by
 unfold i_CacheValid cacheOk
 rw [within_eq]
 by_cases h1 : (c.l.length : Int) < 1
 ·rw [decide_eq_true h1, decide_eq_false (by omega : ¬ 1 ≤ c.l.length)]; simp [obs]
 rw [decide_eq_false h1, decide_eq_true (by omega : 1 ≤ c.l.length)]
 by_cases h2 : (8 : Int) < (c.l.length : Int)
 ·rw [decide_eq_true h2, decide_eq_false (by omega : ¬ c.l.length ≤ 8)]; simp [obs]
 rw [decide_eq_false h2, decide_eq_true (by omega : c.l.length ≤ 8)]
 cases hw : within c.h c.l.length with
 | false => simp [obs]
 | true =>
  simp only [cof, obs, Bool.not_true, Bool.true_and]
  have := iCache_L0 (fl := fl) (c := c) (by omega) hf fl 0 false (by omega) (by omega)
  rw [show ((0 : Nat) : Int) = 0 from rfl, Nat.sub_zero] at this
  rw [this]
  simp only [obs]
  cases upto (lineGood c.l) 0 c.l.length with
  | false => simp
  | true => simp
theorem sClash1 {c : Ca} {i : Nat} {x : Ln} (h : i < c.l.length) (hl : c.l.length ≤ 8) (hf : 1048576 < fl) : s_CacheValid_L1 fl c (i : Int) x fl 0 = some (if upto (fun j => !clash x (lnAt c.l j)) 0 i then .out (i : Int) else .ret false) := by
 have := allLoop (L := s_CacheValid_L1 fl c (i : Int) x) (n := i) (p := fun j => !clash x (lnAt c.l j)) (bad := false)
  (fun fuel j hj => by
   rw [s_CacheValid_L1.eq_2, decide_eq_true (by omega : (j : Int) < (i : Int)), cot, idx_nat (by omega : j < c.l.length)]
   simp only [obs]
   rw [lnAt_lt (by omega), ck_succ (by omega)]
   unfold clash
   cases x.va <;> cases c.l[j].va <;> cases (x.pg == c.l[j].pg) <;> cases (x.tg == c.l[j].tg) <;> cases (x.tg == -1) <;> cases (c.l[j].tg == -1) <;> rfl)
  (fun fuel => by rw [s_CacheValid_L1.eq_2, decide_eq_false (by omega), cof]) fl 0 (by omega) (by omega)
 rw [show ((0 : Nat) : Int) = 0 from rfl, Nat.sub_zero] at this
 exact this
theorem sClash2 {c : Ca} {i : Nat} {x : Ln} (h : i < c.l.length) (hl : c.l.length ≤ 8) (hf : 1048576 < fl) : s_CacheValid_L2 fl c (i : Int) x fl 0 = some (if upto (fun j => !clash x (lnAt c.l j)) 0 i then .out (i : Int) else .ret false) := by
 have := allLoop (L := s_CacheValid_L2 fl c (i : Int) x) (n := i) (p := fun j => !clash x (lnAt c.l j)) (bad := false)
  (fun fuel j hj => by
   rw [s_CacheValid_L2.eq_2, decide_eq_true (by omega : (j : Int) < (i : Int)), cot, idx_nat (by omega : j < c.l.length)]
   simp only [obs]
   rw [lnAt_lt (by omega), ck_succ (by omega)]
   unfold clash
   cases x.va <;> cases c.l[j].va <;> cases (x.pg == c.l[j].pg) <;> cases (x.tg == c.l[j].tg) <;> cases (x.tg == -1) <;> cases (c.l[j].tg == -1) <;> rfl)
  (fun fuel => by rw [s_CacheValid_L2.eq_2, decide_eq_false (by omega), cof]) fl 0 (by omega) (by omega)
 rw [show ((0 : Nat) : Int) = 0 from rfl, Nat.sub_zero] at this
 exact this
theorem sCache_L0 {c : Ca} (hl : c.l.length ≤ 8) (hf : 1048576 < fl) : ∀ fuel i (v : Nat), v ≤ i → i ≤ c.l.length → c.l.length - i < fuel →
  ∃ v' : Nat, s_CacheValid_L0 fl c fuel (v : Int) (i : Int) = some (if upto (lineGood c.l) i (c.l.length - i) then .out ((v' : Int), (c.l.length : Int)) else .ret false) ∧ decide (0 < v') = (decide (0 < v) || !upto (fun i => (lnAt c.l i).wi) i (c.l.length - i)) := by
 intro fuel
 induction fuel with
 | zero => intro i v _ _ h; omega
 | succ fuel ih =>
  intro i v hv hi hfu
  rw [s_CacheValid_L0.eq_2]
  by_cases h : i < c.l.length
  ·obtain ⟨k, hk⟩ : ∃ k, c.l.length - i = k + 1 := ⟨c.l.length - i - 1, by omega⟩
   have hk' : c.l.length - (i + 1) = k := by omega
   have IH := fun v hv => ih (i + 1) v hv (by omega) (by omega)
   simp only [hk'] at IH
   rw [decide_eq_true (by omega : (i : Int) < (c.l.length : Int)), cot, idx_nat h]
   simp only [obs, sLine_eq]
   rw [hk, upto, upto, lineGood, lnAt_lt h]
   cases lineOk c.l[i] with
   | false => exact ⟨if (decide (0 < v) || !(c.l[i].wi && upto (fun i => (lnAt c.l i).wi) (i + 1) k)) then 1 else 0, by simp [obs], by split <;> simp_all⟩
   | true =>
    simp only [Bool.not_true, cof, Bool.true_and]
    cases hw : c.l[i].wi with
    | false =>
     simp only [Bool.not_false, cot]
     rw [ck_succ (by omega)]
     simp only [obs]
     rw [sClash1 h hl hf]
     simp only [obs]
     obtain ⟨v', h1, h2⟩ := IH (v + 1) (by omega)
     cases upto (fun j => !clash c.l[i] (lnAt c.l j)) 0 i with
     | false => exact ⟨1, by simp, by simp⟩
     | true =>
      simp only [if_true, Bool.true_and]
      rw [ck_succ (by omega)]
      simp only [obs]
      refine ⟨v', h1, ?_⟩
      rw [h2]; simp
    | true =>
     simp only [Bool.not_true, cof, obs]
     rw [sClash2 h hl hf]
     simp only [obs]
     obtain ⟨v', h1, h2⟩ := IH v (by omega)
     cases upto (fun j => !clash c.l[i] (lnAt c.l j)) 0 i with
     | false => exact ⟨if (decide (0 < v) || !(upto (fun i => (lnAt c.l i).wi) (i + 1) k)) then 1 else 0, by simp, by simp only [Bool.true_and]; split <;> simp_all⟩
     | true =>
      simp only [if_true, Bool.true_and]
      rw [ck_succ (by omega)]
      simp only [obs]
      exact ⟨v', h1, h2⟩
  ·have e : i = c.l.length := by omega
   subst e
   rw [decide_eq_false (by omega), cof, Nat.sub_self]
   exact ⟨v, by simp [upto], by simp [upto]⟩
theorem sCache_eq {c : Ca} (hf : 1048576 < fl) : s_CacheValid fl c = some (cacheOk c) := by
 unfold s_CacheValid cacheOk within
 by_cases h1 : (c.l.length : Int) < 1
 ·rw [decide_eq_true h1, decide_eq_false (by omega : ¬ 1 ≤ c.l.length)]; simp [obs]
 rw [decide_eq_false h1, decide_eq_true (by omega : 1 ≤ c.l.length)]
 by_cases h2 : (8 : Int) < (c.l.length : Int)
 ·rw [decide_eq_true h2, decide_eq_false (by omega : ¬ c.l.length ≤ 8)]; simp [obs]
 rw [decide_eq_false h2, decide_eq_true (by omega : c.l.length ≤ 8)]
 by_cases h3 : c.h < 0
 ·rw [decide_eq_true h3, decide_eq_false (by omega : ¬ 0 ≤ c.h)]; simp [obs]
 rw [decide_eq_false h3, decide_eq_true (by omega : 0 ≤ c.h)]
 by_cases h4 : (c.l.length : Int) ≤ c.h
 ·rw [decide_eq_true h4, decide_eq_false (by omega : ¬ c.h < (c.l.length : Int))]; simp [obs]
 rw [decide_eq_false h4, decide_eq_true (by omega : c.h < (c.l.length : Int))]
 simp only [cof, obs, Bool.true_and]
 obtain ⟨v', h, he⟩ := sCache_L0 (fl := fl) (c := c) (by omega) hf fl 0 0 (by omega) (by omega) (by omega)
 rw [show ((0 : Nat) : Int) = 0 from rfl, Nat.sub_zero] at h
 rw [Nat.sub_zero] at he
 rw [h]
 simp only [obs]
 cases upto (lineGood c.l) 0 c.l.length with
 | false => simp
 | true =>
  simp only [if_true, Bool.true_and]
  rw [show decide ((0 : Int) < (v' : Int)) = decide (0 < v') from by congr 1; apply propext; omega, he]
  simp

theorem upto_mem {l : List Ow} {s : Int} {i : Nat} (h : i ≤ l.length) : upto (fun j => !((owAt l j).sp == s)) 0 i = !decide (s ∈ (l.take i).map (·.sp)) := by
 rw [Bool.eq_iff_iff, upto_iff]
 simp only [Bool.not_eq_true', beq_eq_false_iff_ne, decide_eq_false_iff_not, List.mem_map, not_exists, not_and, Nat.zero_add]
 constructor
 ·intro hh o ho e
  obtain ⟨j, hj, rfl⟩ := List.getElem_of_mem ho
  have h2 : j < i := by rw [List.length_take] at hj; omega
  refine hh j (by omega) h2 ?_
  rw [owAt_lt (by omega)]
  rw [List.getElem_take] at e
  exact e
 ·intro hh j _ hj e
  rw [owAt_lt (by omega)] at e
  refine hh l[j] ?_ e
  rw [List.mem_take_iff_getElem]
  exact ⟨j, by omega, rfl⟩
theorem hasO_in {l : List Int} {n : Int} (h : 0 ≤ n ∧ n < 16) : hasO l n = some (decide (n ∈ l)) := by
 unfold hasO; rw [if_pos (by omega)]
theorem addO_in {l : List Int} {n : Int} (h : 0 ≤ n ∧ n < 16) (hn : n ∉ l) : addO l n = some (l ++ [n]) := by
 unfold addO; rw [if_pos ⟨by omega, hn⟩]
theorem iTags_L0 {t : Tg} (hl : t.o.length ≤ 1048576) : ∀ fuel i, i ≤ t.o.length → t.o.length - i < fuel →
  ∃ u, i_TagsValid_L0 fl t fuel ((t.o.take i).map (·.sp)) (prevTag t.o i) (i : Int) = some (if upto (ownGood t) i (t.o.length - i) then .out u else .ret false) := by
 intro fuel
 induction fuel with
 | zero => intro i _ h; omega
 | succ fuel ih =>
  intro i hi hfu
  rw [i_TagsValid_L0.eq_2]
  by_cases h : i < t.o.length
  ·obtain ⟨k, hk⟩ : ∃ k, t.o.length - i = k + 1 := ⟨t.o.length - i - 1, by omega⟩
   have hk' : t.o.length - (i + 1) = k := by omega
   obtain ⟨u, IH⟩ := ih (i + 1) (by omega) (by omega)
   rw [hk'] at IH
   refine ⟨u, ?_⟩
   rw [decide_eq_true (by omega : (i : Int) < (t.o.length : Int)), cot, idx_nat h]
   simp only [obs]
   rw [hk, upto, ownGood, owAt_lt h, within_eq]
   simp only [obs]
   by_cases h1 : prevTag t.o i < t.o[i].tg
   ·rw [decide_eq_false (by omega : ¬ t.o[i].tg ≤ prevTag t.o i), decide_eq_true h1]
    by_cases h2 : t.o[i].tg < t.n
    ·rw [decide_eq_false (by omega : ¬ t.n ≤ t.o[i].tg), decide_eq_true h2]
     simp only [cof, obs, Bool.true_and]
     cases hw : within t.o[i].sp 16 with
     | false => simp [obs]
     | true =>
      have hw' := within_iff.1 hw
      rw [upto_mem hi]
      simp only [Bool.not_true, cof, obs, Bool.true_and]
      rw [hasO_in hw']
      simp only [obs]
      by_cases hm : t.o[i].sp ∈ (t.o.take i).map (·.sp)
      ·rw [decide_eq_true hm]; simp
      ·rw [decide_eq_false hm]
       simp only [cof, Bool.not_false, Bool.true_and]
       rw [addO_in hw' hm, ck_succ (by omega)]
       simp only [obs]
       have e1 : (t.o.take i).map (·.sp) ++ [t.o[i].sp] = (t.o.take (i + 1)).map (·.sp) := by
        rw [List.take_add_one, List.getElem?_eq_getElem h, List.map_append]; rfl
       have e2 : t.o[i].tg = prevTag t.o (i + 1) := by rw [prevTag, owAt_lt h]
       rw [e1, e2]
       exact IH
    ·rw [decide_eq_true (by omega : t.n ≤ t.o[i].tg), decide_eq_false h2]; simp [obs]
   ·rw [decide_eq_true (by omega : t.o[i].tg ≤ prevTag t.o i), decide_eq_false h1]; simp [obs]
  ·have e : i = t.o.length := by omega
   subst e
   rw [decide_eq_false (by omega), cof, Nat.sub_self]
   exact ⟨_, rfl⟩
theorem iTags_eq {t : Tg} (hl : t.o.length ≤ 1048576) (hf : 1048576 < fl) : i_TagsValid fl t = some (tagsOk t) := by
 unfold i_TagsValid tagsOk
 by_cases h1 : t.c < 1
 ·rw [decide_eq_true h1, decide_eq_false (by omega : ¬ 1 ≤ t.c)]; simp [obs]
 rw [decide_eq_false h1, decide_eq_true (by omega : 1 ≤ t.c)]
 by_cases h2 : 8 < t.c
 ·rw [decide_eq_true h2, decide_eq_false (by omega : ¬ t.c ≤ 8)]; simp [obs]
 rw [decide_eq_false h2, decide_eq_true (by omega : t.c ≤ 8)]
 by_cases h3 : t.n < 0
 ·rw [decide_eq_true h3, decide_eq_false (by omega : ¬ 0 ≤ t.n)]; simp [obs]
 rw [decide_eq_false h3, decide_eq_true (by omega : 0 ≤ t.n)]
 by_cases h4 : t.c < t.n
 ·rw [decide_eq_true h4, decide_eq_false (by omega : ¬ t.n ≤ t.c)]; simp [obs]
 rw [decide_eq_false h4, decide_eq_true (by omega : t.n ≤ t.c)]
 by_cases h5 : t.r < 0
 ·rw [decide_eq_true h5, decide_eq_false (by omega : ¬ 0 ≤ t.r)]; simp [obs]
 rw [decide_eq_false h5, decide_eq_true (by omega : 0 ≤ t.r)]
 by_cases h6 : 1000000 < t.r
 ·rw [decide_eq_true h6, decide_eq_false (by omega : ¬ t.r ≤ 1000000)]; simp [obs]
 rw [decide_eq_false h6, decide_eq_true (by omega : t.r ≤ 1000000)]
 simp only [cof, obs, Bool.true_and]
 obtain ⟨u, h⟩ := iTags_L0 (fl := fl) hl fl 0 (by omega) (by omega)
 rw [show ((0 : Nat) : Int) = 0 from rfl, Nat.sub_zero, List.take_zero] at h
 have h' : i_TagsValid_L0 fl t fl [] (-1) 0 = _ := h
 rw [h']
 simp only [obs]
 cases upto (ownGood t) 0 t.o.length with
 | false => simp
 | true => simp
theorem sTags_L1 {t : Tg} {i : Nat} {x : Ow} (h : i < t.o.length) (hl : t.o.length ≤ 1048576) (hf : 1048576 < fl) : s_TagsValid_L1 fl t (i : Int) x fl 0 = some (if upto (fun j => !((owAt t.o j).sp == x.sp)) 0 i then .out (i : Int) else .ret false) := by
 have := allLoop (L := s_TagsValid_L1 fl t (i : Int) x) (n := i) (p := fun j => !((owAt t.o j).sp == x.sp)) (bad := false)
  (fun fuel j hj => by
   rw [s_TagsValid_L1.eq_2, decide_eq_true (by omega : (j : Int) < (i : Int)), cot, idx_nat (by omega : j < t.o.length)]
   simp only [obs]
   rw [owAt_lt (by omega)]
   cases (t.o[j].sp == x.sp) with
   | true => rfl
   | false => rw [cof, ck_succ (by omega)]; rfl)
  (fun fuel => by rw [s_TagsValid_L1.eq_2, decide_eq_false (by omega), cof]) fl 0 (by omega) (by omega)
 rw [show ((0 : Nat) : Int) = 0 from rfl, Nat.sub_zero] at this
 exact this
theorem sTags_L0 {t : Tg} (hl : t.o.length ≤ 1048576) (hf : 1048576 < fl) : ∀ fuel i, i ≤ t.o.length → t.o.length - i < fuel → (0 < i → 0 ≤ prevTag t.o i) →
  s_TagsValid_L0 fl t fuel (i : Int) = some (if upto (ownGood t) i (t.o.length - i) then .out (t.o.length : Int) else .ret false) := by
 intro fuel
 induction fuel with
 | zero => intro i _ h; omega
 | succ fuel ih =>
  intro i hi hfu hp
  rw [s_TagsValid_L0.eq_2]
  by_cases h : i < t.o.length
  ·obtain ⟨k, hk⟩ : ∃ k, t.o.length - i = k + 1 := ⟨t.o.length - i - 1, by omega⟩
   have hk' : t.o.length - (i + 1) = k := by omega
   have IH := ih (i + 1) (by omega) (by omega)
   rw [hk'] at IH
   rw [decide_eq_true (by omega : (i : Int) < (t.o.length : Int)), cot, idx_nat h]
   simp only [obs, s1Space]
   rw [hk, upto, ownGood, owAt_lt h]
   cases hw : within t.o[i].sp 16 with
   | false => simp [obs]
   | true =>
    simp only [Bool.not_true, cof, obs]
    by_cases h0 : t.o[i].tg < 0
    ·have : ¬ prevTag t.o i < t.o[i].tg := by
      rcases Nat.eq_zero_or_pos i with e | e
      ·subst e; simp only [prevTag]; omega
      ·have := hp e; omega
     rw [decide_eq_true h0, decide_eq_false this]; simp [obs]
    rw [decide_eq_false h0]
    simp only [cof, obs]
    by_cases h2 : t.o[i].tg < t.n
    ·rw [decide_eq_false (by omega : ¬ t.n ≤ t.o[i].tg), decide_eq_true h2]
     simp only [cof, obs, Bool.and_true]
     have hprev : (Option.bind (cond (decide (0 < (i : Int))) (Option.bind (ck ((i : Int) - 1)) fun x18 => Option.bind (idx t.o x18) fun x19 => some (decide (t.o[i].tg ≤ x19.tg))) (some false)) fun y17 => some y17) = some (!decide (prevTag t.o i < t.o[i].tg)) := by
      rcases i with _ | i
      ·rw [decide_eq_false (by omega : ¬ (0 : Int) < ((0 : Nat) : Int)), cof]
       simp only [obs, prevTag]
       have h9 : (-1 : Int) < t.o[0].tg := by omega
       simp [h9]
      ·rw [decide_eq_true (by omega : (0 : Int) < ((i + 1 : Nat) : Int)), cot, ck_in (by omega)]
       simp only [obs]
       rw [show (((i + 1 : Nat) : Int) - 1) = (i : Int) by omega, idx_nat (by omega : i < t.o.length)]
       simp only [obs]
       have hpt : prevTag t.o (i + 1) = t.o[i].tg := by rw [prevTag, owAt_lt (by omega)]
       congr 1
       rw [Bool.eq_iff_iff]
       simp only [decide_eq_true_eq, Bool.not_eq_true', decide_eq_false_iff_not]
       omega
     rw [hprev]
     simp only [obs]
     by_cases h1 : prevTag t.o i < t.o[i].tg
     ·rw [decide_eq_true h1]
      simp only [Bool.not_true, cof, Bool.true_and]
      rw [sTags_L1 h hl hf]
      simp only [obs]
      cases upto (fun j => !((owAt t.o j).sp == t.o[i].sp)) 0 i with
      | false => simp
      | true =>
       simp only [if_true, Bool.true_and]
       rw [ck_succ (by omega)]
       simp only [obs]
       refine IH fun _ => ?_
       rw [prevTag, owAt_lt h]; omega
     ·rw [decide_eq_false h1]; simp
    ·rw [decide_eq_true (by omega : t.n ≤ t.o[i].tg), decide_eq_false h2]; simp [obs]
  ·have e : i = t.o.length := by omega
   subst e
   rw [decide_eq_false (by omega), cof, Nat.sub_self]
   rfl
theorem sTags_eq {t : Tg} (hl : t.o.length ≤ 1048576) (hf : 1048576 < fl) : s_TagsValid fl t = some (tagsOk t) := by
 by_cases h7 : t.n < (t.o.length : Int)
 ·have hno : tagsOk t = false := by
   apply Bool.eq_false_iff.2
   intro h
   have := (tagsOk_iff.1 h).len
   omega
  rw [hno]
  unfold s_TagsValid
  rw [decide_eq_true h7]
  cases decide (t.c < 1) <;> cases decide (8 < t.c) <;> cases decide (t.n < 0) <;> cases decide (t.c < t.n) <;> cases decide (t.r < 0) <;> cases decide (1000000 < t.r) <;> rfl
 unfold s_TagsValid tagsOk
 rw [decide_eq_false h7]
 by_cases h1 : t.c < 1
 ·rw [decide_eq_true h1, decide_eq_false (by omega : ¬ 1 ≤ t.c)]; simp [obs]
 rw [decide_eq_false h1, decide_eq_true (by omega : 1 ≤ t.c)]
 by_cases h2 : 8 < t.c
 ·rw [decide_eq_true h2, decide_eq_false (by omega : ¬ t.c ≤ 8)]; simp [obs]
 rw [decide_eq_false h2, decide_eq_true (by omega : t.c ≤ 8)]
 by_cases h3 : t.n < 0
 ·rw [decide_eq_true h3, decide_eq_false (by omega : ¬ 0 ≤ t.n)]; simp [obs]
 rw [decide_eq_false h3, decide_eq_true (by omega : 0 ≤ t.n)]
 by_cases h4 : t.c < t.n
 ·rw [decide_eq_true h4, decide_eq_false (by omega : ¬ t.n ≤ t.c)]; simp [obs]
 rw [decide_eq_false h4, decide_eq_true (by omega : t.n ≤ t.c)]
 by_cases h5 : t.r < 0
 ·rw [decide_eq_true h5, decide_eq_false (by omega : ¬ 0 ≤ t.r)]; simp [obs]
 rw [decide_eq_false h5, decide_eq_true (by omega : 0 ≤ t.r)]
 by_cases h6 : 1000000 < t.r
 ·rw [decide_eq_true h6, decide_eq_false (by omega : ¬ t.r ≤ 1000000)]; simp [obs]
 rw [decide_eq_false h6, decide_eq_true (by omega : t.r ≤ 1000000)]
 simp only [cof, obs, Bool.true_and]
 have h := sTags_L0 (fl := fl) hl hf fl 0 (by omega) (by omega) (by omega)
 rw [show ((0 : Nat) : Int) = 0 from rfl, Nat.sub_zero] at h
 rw [h]
 simp only [obs]
 cases upto (ownGood t) 0 t.o.length with
 | false => simp
 | true => simp

/-! ### the space of a tag -/
def spaceR (t : Tg) (tag : Int) : Int × Bool := if tagsOk t = true ∧ 0 ≤ spF t tag then ((owAt t.o (spF t tag).toNat).sp, true) else (0, false)
theorem iSpace_eq {t : Tg} {tag : Int} (hl : t.o.length ≤ 1048576) (hf : 1048576 < fl) : i_SpaceOf fl t tag = some (spaceR t tag) := by
 unfold i_SpaceOf spaceR
 rw [iTags_eq hl hf]
 simp only [obs]
 cases tagsOk t with
 | false => simp
 | true =>
  have := findLoop (L := i_SpaceOf_L0 fl t tag) (l := t.o) (p := fun o : Ow => o.tg == tag) (res := fun i => ((owAt t.o i).sp, true))
   (fun fuel i h => by
    rw [i_SpaceOf_L0.eq_2, decide_eq_true (by omega : (i : Int) < (t.o.length : Int)), cot, idx_nat h]
    simp only [obs]
    rw [owAt_lt h]
    cases (t.o[i].tg == tag) with
    | true => rfl
    | false => rw [cof, ck_succ (by omega)]; rfl)
   (fun fuel => by rw [i_SpaceOf_L0.eq_2, decide_eq_false (by omega), cof]) fl 0 (by omega) (by omega)
  rw [show ((0 : Nat) : Int) = 0 from rfl, List.drop_zero] at this
  rw [this]
  simp only [obs, Bool.not_true, cof]
  unfold spF
  by_cases h0 : 0 ≤ fx (fun o : Ow => o.tg == tag) t.o 0
  ·rw [if_pos h0, if_pos ⟨trivial, h0⟩]
  ·rw [if_neg h0, if_neg (fun hh => h0 hh.2)]
theorem sSpace_eq {t : Tg} {tag : Int} (hl : t.o.length ≤ 1048576) (hf : 1048576 < fl) : s_SpaceOf fl t tag = some (spaceR t tag) := by
 unfold s_SpaceOf spaceR
 cases hT : tagsOk t with
 | false =>
  obtain ⟨f, rfl⟩ : ∃ f, fl = f + 1 := ⟨fl - 1, by omega⟩
  rw [s_SpaceOf_L0.eq_2, sTags_eq hl hf, hT]
  cases decide ((0 : Int) < (t.o.length : Int)) <;> simp [obs]
 | true =>
  have := findLoop (L := s_SpaceOf_L0 fl t tag) (l := t.o) (p := fun o : Ow => o.tg == tag) (res := fun i => ((owAt t.o i).sp, true))
   (fun fuel i h => by
    rw [s_SpaceOf_L0.eq_2, decide_eq_true (by omega : (i : Int) < (t.o.length : Int)), cot, sTags_eq hl hf, hT]
    simp only [obs, cot]
    rw [idx_nat h]
    simp only [obs]
    rw [owAt_lt h]
    cases (t.o[i].tg == tag) with
    | true => rfl
    | false => rw [cof, ck_succ (by omega)]; rfl)
   (fun fuel => by rw [s_SpaceOf_L0.eq_2, decide_eq_false (by omega), cof]; simp only [obs, cof]) fl 0 (by omega) (by omega)
  rw [show ((0 : Nat) : Int) = 0 from rfl, List.drop_zero] at this
  rw [this]
  simp only [obs]
  unfold spF
  by_cases h0 : 0 ≤ fx (fun o : Ow => o.tg == tag) t.o 0
  ·rw [if_pos h0, if_pos ⟨trivial, h0⟩]
  ·rw [if_neg h0, if_neg (fun hh => h0 hh.2)]

theorem iKeyFor (s p : Int) : i_KeyFor fl s p = some (keyFor s p) := by unfold i_KeyFor keyFor; cases decide (128 ≤ p) <;> rfl
theorem sKeyFor (s p : Int) : s_KeyFor fl s p = some (keyFor s p) := by unfold s_KeyFor keyFor; cases decide (128 ≤ p) <;> rfl
theorem iFrames_eq {m : Mc} (hl : m.t.f.length ≤ 1048576) (hf : 1048576 < fl) : i_MachineValid_L0 fl m fl 0 = some (if upto (fun i => frameFits (m.t.f.getD i freeF)) 0 m.t.f.length then .out (m.t.f.length : Int) else .ret false) := by
 have := allLoop (L := i_MachineValid_L0 fl m) (n := m.t.f.length) (p := fun i => frameFits (m.t.f.getD i freeF)) (bad := false)
  (fun fuel j hj => by
   rw [i_MachineValid_L0.eq_2, decide_eq_true (by omega : (j : Int) < (m.t.f.length : Int)), cot, idx_nat hj]
   simp only [obs]
   rw [show m.t.f.getD j freeF = m.t.f[j] from by simp [hj], ck_succ (by omega)]
   unfold frameFits bne
   cases m.t.f[j].u <;> cases decide (128 ≤ m.t.f[j].k.p) <;> cases (m.t.f[j].k.s == 0) <;> rfl)
  (fun fuel => by rw [i_MachineValid_L0.eq_2, decide_eq_false (by omega), cof]) fl 0 (by omega) (by omega)
 rw [show ((0 : Nat) : Int) = 0 from rfl, Nat.sub_zero] at this
 exact this
theorem sFrames_eq {m : Mc} (hl : m.t.f.length ≤ 1048576) (hf : 1048576 < fl) : s_MachineValid_L0 fl m fl 0 = some (if upto (fun i => frameFits (m.t.f.getD i freeF)) 0 m.t.f.length then .out (m.t.f.length : Int) else .ret false) := by
 have := allLoop (L := s_MachineValid_L0 fl m) (n := m.t.f.length) (p := fun i => frameFits (m.t.f.getD i freeF)) (bad := false)
  (fun fuel j hj => by
   rw [s_MachineValid_L0.eq_2, decide_eq_true (by omega : (j : Int) < (m.t.f.length : Int)), cot, idx_nat hj]
   simp only [obs]
   rw [show m.t.f.getD j freeF = m.t.f[j] from by simp [hj], ck_succ (by omega)]
   unfold frameFits bne
   cases m.t.f[j].u <;> cases decide (128 ≤ m.t.f[j].k.p) <;> cases (m.t.f[j].k.s == 0) <;> rfl)
  (fun fuel => by rw [s_MachineValid_L0.eq_2, decide_eq_false (by omega), cof]) fl 0 (by omega) (by omega)
 rw [show ((0 : Nat) : Int) = 0 from rfl, Nat.sub_zero] at this
 exact this
/-- what a line says of a key is so -/
def keyHas (m : Mc) (k : K) (fr ri : Int) : Bool := decide (0 ≤ findF m.t.f k) && (findF m.t.f k == fr) && ((m.t.f.getD (findF m.t.f k).toNat freeF).r == ri)
theorem iTail {ρ : Type} {m : Mc} {k : K} {fr ri : Int} {A B : Option ρ} (hl : m.t.f.length ≤ 1048576) (hf : 1048576 < fl) :
  (Option.bind (i_Table_find fl m.t k) fun x31 => Option.bind (cond (decide (x31 < 0)) (some true) (some (x31 != fr))) fun y32 => Option.bind (cond y32 (some true) (Option.bind (idx m.t.f x31) fun x34 => some (x34.r != ri))) fun y33 => cond y33 A B) = cond (keyHas m k fr ri) B A := by
 rw [find_eq hl hf]
 simp only [obs]
 unfold keyHas bne
 have hb := (findF_bd (l := m.t.f) (k := k)).1
 generalize findF m.t.f k = at_ at hb ⊢
 by_cases h0 : at_ < 0
 ·rw [decide_eq_true h0, decide_eq_false (by omega : ¬ 0 ≤ at_)]; simp [obs]
 ·rw [decide_eq_false h0, decide_eq_true (by omega : 0 ≤ at_)]
  simp only [cof, obs, Bool.true_and]
  obtain ⟨j, rfl⟩ : ∃ j : Nat, at_ = j := ⟨at_.toNat, by omega⟩
  have hj : j < m.t.f.length := by omega
  rw [idx_nat hj]
  simp only [obs, Int.toNat_natCast]
  rw [show m.t.f.getD j freeF = m.t.f[j] from by simp [hj]]
  cases ((j : Int) == fr) <;> cases (m.t.f[j].r == ri) <;> rfl
theorem sTail {m : Mc} {k : K} {fr ri : Int} {w g : Bool} (ht : TOk m.t) (hk : keyOk k = true) (hf : 1048576 < fl) :
  (Option.bind (s_l3Find fl m.t k) fun x8 => Option.bind (cond (decide (0 ≤ x8.1)) (some (x8.1 == fr)) (some false)) fun y9 => Option.bind (cond y9 (Option.bind (idx m.t.f x8.1) fun x11 => some (x11.r == ri)) (some false)) fun y10 => Option.bind (cond y10 (Option.bind (cond (!w) (some true) (some g)) fun y13 => some y13) (some false)) fun y12 => some y12) = some (keyHas m k fr ri && (!w || g)) := by
 obtain ⟨s, h⟩ := sFind_eq (fl := fl) ht hk hf
 rw [h]
 simp only [obs]
 unfold keyHas
 have hb := (findF_bd (l := m.t.f) (k := k)).1
 generalize findF m.t.f k = at_ at hb ⊢
 by_cases h0 : at_ < 0
 ·rw [decide_eq_false (by omega : ¬ 0 ≤ at_)]; simp [obs]
 ·rw [decide_eq_true (by omega : 0 ≤ at_)]
  simp only [cot, obs, Bool.true_and]
  obtain ⟨j, rfl⟩ : ∃ j : Nat, at_ = j := ⟨at_.toNat, by omega⟩
  have hj : j < m.t.f.length := by omega
  rw [idx_nat hj]
  simp only [obs, Int.toNat_natCast]
  rw [show m.t.f.getD j freeF = m.t.f[j] from by simp [hj]]
  cases ((j : Int) == fr) <;> cases (m.t.f[j].r == ri) <;> cases w <;> cases g <;> rfl
theorem lineHas_eq (m : Mc) (x : Ln) : lineHas m x = ((decide (128 ≤ x.pg) == (x.tg == -1)) && (!x.wi || x.tg == -1) && (x.tg == -1 || decide (0 ≤ spF m.g x.tg)) && keyHas m (keyFor (lineSpace m x) x.pg) x.fr x.ri) := by
 unfold lineHas keyHas
 simp only [Bool.and_assoc]
theorem iLines_eq {m : Mc} (hl : m.t.f.length ≤ 1048576) (hc : m.c.l.length ≤ 1048576) (hg : m.g.o.length ≤ 1048576) (hT : tagsOk m.g = true) (hf : 1048576 < fl) : i_MachineValid_L1 fl m fl 0 = some (if upto (fun i => !(lnAt m.c.l i).va || lineHas m (lnAt m.c.l i)) 0 m.c.l.length then .out (m.c.l.length : Int) else .ret false) := by
 have := allLoop (L := i_MachineValid_L1 fl m) (n := m.c.l.length) (p := fun i => !(lnAt m.c.l i).va || lineHas m (lnAt m.c.l i)) (bad := false)
  (fun fuel j hj => by
   rw [i_MachineValid_L1.eq_2, decide_eq_true (by omega : (j : Int) < (m.c.l.length : Int)), cot, idx_nat hj]
   simp only [obs]
   rw [lnAt_lt hj, ck_succ (by omega)]
   generalize m.c.l[j] = x
   cases hv : x.va with
   | false => simp [obs]
   | true =>
    simp only [Bool.not_true, cof, obs, Bool.false_or]
    rw [lineHas_eq, iSpace_eq hg hf]
    simp only [obs, iKeyFor, iTail hl hf]
    unfold lineSpace spaceR
    rw [hT]
    cases hs : decide (128 ≤ x.pg) <;> cases ht : (x.tg == -1) <;> cases hw : x.wi <;> simp [obs]
    by_cases h0 : 0 ≤ spF m.g x.tg
    ·simp [h0]
    ·simp [h0])
  (fun fuel => by rw [i_MachineValid_L1.eq_2, decide_eq_false (by omega), cof]) fl 0 (by omega) (by omega)
 rw [show ((0 : Nat) : Int) = 0 from rfl, Nat.sub_zero] at this
 exact this
theorem keyFor_ok {s p : Int} (hs : 0 ≤ s ∧ s < 16) (hp : within p 256 = true) : keyOk (keyFor s p) = true := by
 have := within_iff.1 hp
 rw [keyOk_iff]
 unfold keyFor
 cases decide (128 ≤ p) <;> simp <;> omega
theorem sLine6 {m : Mc} {x : Ln} (ht : TOk m.t) (hg : GO m.g) (hx : lineOk x = true) (hv : x.va = true) (hf : 1048576 < fl) : s_l6Line fl m x = some (lineHas m x) := by
 have hgl : m.g.o.length ≤ 1048576 := by have := hg.len; have := hg.n2; have := hg.c2; omega
 have hp : within x.pg 256 = true := by
  unfold lineOk at hx
  rw [hv, cot] at hx
  simp only [Bool.and_eq_true] at hx
  exact hx.1.1.2
 rw [lineHas_eq]
 unfold s_l6Line
 rw [sSpace_eq hgl hf]
 simp only [obs, sKeyFor]
 unfold lineSpace spaceR
 rw [tagsOk_iff.2 hg]
 unfold bne
 by_cases h0 : 0 ≤ spF m.g x.tg
 ·obtain ⟨j, hj, e, _⟩ := fx_at (p := fun o : Ow => o.tg == x.tg) (l := m.g.o) h0
  have hsp := hg.s1 j hj
  have e' : (spF m.g x.tg).toNat = j := by unfold spF; rw [e]; simp
  rw [if_pos ⟨rfl, h0⟩, e', decide_eq_true h0]
  simp only [Bool.not_true, cof, Bool.or_true, Bool.and_true]
  rw [sTail ht (keyFor_ok hsp hp) hf, sTail ht (keyFor_ok (by omega) hp) hf]
  cases hs : decide (128 ≤ x.pg) <;> cases htg : (x.tg == -1) <;> cases hw : x.wi <;> simp
 ·rw [if_neg (fun hh => h0 hh.2), decide_eq_false h0]
  simp only [Bool.not_false, cot, Bool.or_false]
  rw [sTail ht (keyFor_ok (by omega) hp) hf]
  cases hs : decide (128 ≤ x.pg) <;> cases htg : (x.tg == -1) <;> cases hw : x.wi <;> simp
theorem sLines_eq {m : Mc} (ht : TOk m.t) (hc : CO m.c) (hg : GO m.g) (hf : 1048576 < fl) : s_MachineValid_L1 fl m fl 0 = some (if upto (fun i => !(lnAt m.c.l i).va || lineHas m (lnAt m.c.l i)) 0 m.c.l.length then .out (m.c.l.length : Int) else .ret false) := by
 have h8 := hc.n2
 have := allLoop (L := s_MachineValid_L1 fl m) (n := m.c.l.length) (p := fun i => !(lnAt m.c.l i).va || lineHas m (lnAt m.c.l i)) (bad := false)
  (fun fuel j hj => by
   rw [s_MachineValid_L1.eq_2, decide_eq_true (by omega : (j : Int) < (m.c.l.length : Int)), cot, idx_nat hj]
   simp only [obs]
   have hok := hc.ok j hj
   rw [lnAt_lt hj] at hok ⊢
   rw [ck_succ (by omega)]
   cases hv : m.c.l[j].va with
   | false => simp [obs]
   | true =>
    rw [cot, sLine6 ht hg hok hv hf]
    simp only [obs, Bool.not_true, Bool.false_or]
    cases lineHas m m.c.l[j] <;> simp)
  (fun fuel => by rw [s_MachineValid_L1.eq_2, decide_eq_false (by omega), cof]) fl 0 (by omega) (by omega)
 rw [show ((0 : Nat) : Int) = 0 from rfl, Nat.sub_zero] at this
 exact this
theorem iMachine_eq {m : Mc} (hN : mcN m ≤ 1048576) (hf : 1048576 < fl) : i_MachineValid fl m = some (machineOk m) := by
 unfold mcN at hN
 unfold i_MachineValid machineOk i_TableValid
 rw [iCache_eq hf, iTags_eq (by omega) hf, own_eq (by omega) hf]
 cases hT : tableOk m.t with
 | false => simp [obs]
 | true =>
  cases hC : cacheOk m.c with
  | false => simp [obs]
  | true =>
   cases hG : tagsOk m.g with
   | false => simp [obs]
   | true =>
    simp only [obs, Bool.not_true, cof, Bool.true_and]
    by_cases h0 : ownF m.g m.s < 0
    ·rw [decide_eq_true h0, decide_eq_false (by omega : ¬ 0 ≤ ownF m.g m.s)]; simp
    ·rw [decide_eq_false h0, decide_eq_true (by omega : 0 ≤ ownF m.g m.s), iFrames_eq (by omega) hf]
     simp only [obs, cof, Bool.true_and]
     cases upto (fun i => frameFits (m.t.f.getD i freeF)) 0 m.t.f.length with
     | false => simp
     | true =>
      simp only [if_true, Bool.true_and]
      rw [iLines_eq (by omega) (by omega) (by omega) hG hf]
      simp only [obs]
      cases upto (fun i => !(lnAt m.c.l i).va || lineHas m (lnAt m.c.l i)) 0 m.c.l.length <;> simp
theorem sMachine_eq {m : Mc} (hN : mcN m ≤ 1048576) (hf : 1048576 < fl) : s_MachineValid fl m = some (machineOk m) := by
 unfold mcN at hN
 unfold s_MachineValid machineOk s_TableValid
 rw [sCache_eq hf, sTags_eq (by omega) hf, sOwn_eq (by omega) hf]
 cases hT : tableOk m.t with
 | false => simp [obs]
 | true =>
  cases hC : cacheOk m.c with
  | false => simp [obs]
  | true =>
   cases hG : tagsOk m.g with
   | false => simp [obs]
   | true =>
    simp only [obs, Bool.not_true, cof, Bool.true_and]
    by_cases h0 : ownF m.g m.s < 0
    ·rw [decide_eq_true h0, decide_eq_false (by omega : ¬ 0 ≤ ownF m.g m.s)]; simp
    ·rw [decide_eq_false h0, decide_eq_true (by omega : 0 ≤ ownF m.g m.s), sFrames_eq (by omega) hf]
     simp only [obs, cof, Bool.true_and]
     cases upto (fun i => frameFits (m.t.f.getD i freeF)) 0 m.t.f.length with
     | false => simp
     | true =>
      simp only [if_true, Bool.true_and]
      rw [sLines_eq (tableOk_iff.1 hT) (cacheOk_iff.1 hC) (tagsOk_iff.1 hG) hf]
      simp only [obs]
      cases upto (fun i => !(lnAt m.c.l i).va || lineHas m (lnAt m.c.l i)) 0 m.c.l.length <;> simp
structure MO (m : Mc) : Prop where
 t : TOk m.t
 c : CO m.c
 g : GO m.g
 s : 0 ≤ ownF m.g m.s
 f : ∀ i, i < m.t.f.length → frameFits (m.t.f.getD i freeF) = true
 l : ∀ i, i < m.c.l.length → (lnAt m.c.l i).va = true → lineHas m (lnAt m.c.l i) = true
theorem machineOk_iff {m : Mc} : machineOk m = true ↔ MO m := by
 unfold machineOk
 simp only [Bool.and_eq_true, decide_eq_true_eq, tableOk_iff, cacheOk_iff, tagsOk_iff, upto_iff, Nat.zero_add, Bool.or_eq_true, Bool.not_eq_true']
 constructor
 ·rintro ⟨⟨⟨⟨⟨a, b⟩, c⟩, d⟩, e⟩, f⟩
  refine ⟨a, b, c, d, fun i hi => e i (by omega) hi, fun i hi hv => ?_⟩
  rcases f i (by omega) hi with h | h
  ·rw [hv] at h; cases h
  ·exact h
 ·rintro ⟨a, b, c, d, e, f⟩
  refine ⟨⟨⟨⟨⟨a, b⟩, c⟩, d⟩, fun i _ hi => e i hi⟩, fun i _ hi => ?_⟩
  cases hv : (lnAt m.c.l i).va with
  | false => exact .inl rfl
  | true => exact .inr (f i hi hv)

theorem MO.small {m : Mc} (h : MO m) : m.t.b.length ≤ 16 ∧ m.t.f.length ≤ 16 ∧ m.c.l.length ≤ 8 ∧ m.g.o.length ≤ 8 := by
 have h1 := h.t.f2
 have h2 := h.t.b2
 have h3 := h.c.n2
 have h4 := h.g.len
 have h5 := h.g.n2
 have h6 := h.g.c2
 omega
theorem iClone_eq {m : Mc} (hN : mcN m ≤ 1048576) : i_Machine_clone fl m = some m := by
 unfold mcN at hN
 unfold i_Machine_clone slices_Clone_Line slices_Clone_Own
 rw [clone_eq (by omega), cnt_in (by omega), cnt_in (by omega)]; rfl
theorem sCopy_eq {m : Mc} (hN : mcN m ≤ 1048576) : s_l6Copy fl m = some m := by
 unfold mcN at hN
 unfold s_l6Copy s_l4Copy s_l5Copy
 rw [copy_eq (by omega), cnt_in (by simp; omega), cnt_in (by simp; omega)]; rfl
theorem unmapR_same {t : T} {k : K} (h : (unmapR t k).2 = true) : (unmapR t k).1.b.length = t.b.length ∧ (unmapR t k).1.f.length = t.f.length ∧ keyOk k = true := by
 unfold unmapR at h ⊢; split at h
 ·rename_i c
  rw [if_pos c]
  simp only [Bool.and_eq_true] at c
  exact ⟨by unfold unmapT; split <;> simp [unl], by unfold unmapT; split <;> simp [unl], c.1.2⟩
 ·cases h
/-! ### putting -/
noncomputable def putR (m : Mc) (k : K) (fr r : Int) : Mc × Bool := if (machineOk m && (k == keyFor k.s k.p) && (mapR m.t k fr r).2) = true then (⟨(mapR m.t k fr r).1, m.c, m.g, m.s⟩, true) else (mc0, false)
theorem iPut_eq {m : Mc} {k : K} {fr r : Int} (hN : mcN m ≤ 1048576) (hf : 1048576 < fl) : i_PutPage fl m k fr r = some (putR m k fr r) := by
 have hN' := hN
 unfold mcN at hN'
 unfold i_PutPage putR
 rw [iMachine_eq hN hf]
 simp only [obs, iKeyFor]
 cases machineOk m with
 | false => simp [obs, mc0]
 | true =>
  unfold bne
  cases (k == keyFor k.s k.p) with
  | false => simp [obs, mc0]
  | true =>
   simp only [Bool.not_true, cof, obs, Bool.true_and]
   rw [iMap_eq (by omega) hf]
   simp only [obs]
   cases (mapR m.t k fr r).2 with
   | false => simp [mc0]
   | true =>
    rw [iClone_eq hN]; simp [obs]
theorem sPut_eq {m : Mc} {k : K} {fr r : Int} (hN : mcN m ≤ 1048576) (hf : 1048576 < fl) : s_PutPage fl m k fr r = some (putR m k fr r) := by
 unfold s_PutPage putR s_l6Shared
 rw [sMachine_eq hN hf]
 simp only [obs, sKeyFor, sKey_eq]
 cases machineOk m with
 | false => simp [obs, mc0]
 | true =>
  cases hk : keyOk k with
  | false => rw [mapR_no (by simp [hk])]; simp [obs, mc0]
  | true =>
   have e : (keyFor k.s k.p == k) = (k == keyFor k.s k.p) := by rw [Bool.eq_iff_iff]; simp only [beq_iff_eq]; exact ⟨fun h => h.symm, fun h => h.symm⟩
   rw [e]
   cases (k == keyFor k.s k.p) with
   | false => simp [obs, mc0]
   | true =>
    simp only [Bool.not_true, cof, cot, obs, Bool.true_and]
    rw [sMap_eq hf]
    simp only [obs]
    cases (mapR m.t k fr r).2 with
    | false => simp [mc0]
    | true =>
     rw [sCopy_eq hN]; simp [obs]

/-! ### forgetting a line -/
def tagR (m : Mc) (sp pg : Int) : Int × Bool := if 128 ≤ pg then (-1, true) else if 0 ≤ ownF m.g sp then ((owAt m.g.o (ownF m.g sp).toNat).tg, true) else (0, false)
def dropC (m : Mc) (k : K) : Ca := if (tagR m k.s k.p).2 = true ∧ 0 ≤ fx (fits (tagR m k.s k.p).1 k.p) m.c.l 0 then ⟨m.c.l.set (fx (fits (tagR m k.s k.p).1 k.p) m.c.l 0).toNat lnZ, m.c.h⟩ else m.c
theorem dropC_len {m : Mc} {k : K} : (dropC m k).l.length = m.c.l.length := by unfold dropC; split <;> simp
theorem iTagFor {m : Mc} {sp pg : Int} (hG : GO m.g) (hl : m.g.o.length ≤ 1048576) (hf : 1048576 < fl) : i_Machine_tagFor fl m sp pg = some (tagR m sp pg) := by
 unfold i_Machine_tagFor tagR i_TagOf
 rw [iTags_eq hl hf, own_eq hl hf, tagsOk_iff.2 hG]
 by_cases h : 128 ≤ pg
 ·rw [decide_eq_true h, cot, if_pos h]
 ·rw [decide_eq_false h, cof, if_neg h]
  simp only [obs, Bool.not_true, cof]
  by_cases h0 : ownF m.g sp < 0
  ·rw [decide_eq_true h0, if_neg (by omega)]; simp [obs]
  ·rw [decide_eq_false h0, if_pos (by omega)]
   have hb := fx_bd (p := fun o : Ow => o.sp == sp) (l := m.g.o)
   have e : ownF m.g sp = fx (fun o : Ow => o.sp == sp) m.g.o 0 := rfl
   obtain ⟨j, hj⟩ : ∃ j : Nat, ownF m.g sp = j := ⟨(ownF m.g sp).toNat, by omega⟩
   rw [hj, cof, idx_nat (by omega), Int.toNat_natCast, owAt_lt (by omega)]
   simp only [obs]
theorem sTag6 {m : Mc} {sp pg : Int} (hl : m.g.o.length ≤ 1048576) (hf : 1048576 < fl) : s_l6Tag fl m sp pg = some (tagR m sp pg) := by
 unfold s_l6Tag tagR
 rw [sOwn_eq hl hf]
 by_cases h : 128 ≤ pg
 ·rw [decide_eq_true h, cot, if_pos h]
 ·rw [decide_eq_false h, cof, if_neg h]
  simp only [obs]
  by_cases h0 : ownF m.g sp < 0
  ·rw [decide_eq_true h0, if_neg (by omega)]; simp
  ·rw [decide_eq_false h0, if_pos (by omega)]
   have hb := fx_bd (p := fun o : Ow => o.sp == sp) (l := m.g.o)
   have e : ownF m.g sp = fx (fun o : Ow => o.sp == sp) m.g.o 0 := rfl
   obtain ⟨j, hj⟩ : ∃ j : Nat, ownF m.g sp = j := ⟨(ownF m.g sp).toNat, by omega⟩
   rw [hj, cof, idx_nat (by omega), Int.toNat_natCast, owAt_lt (by omega)]
   simp only [obs]
theorem tagR_in {m : Mc} {sp pg : Int} (hG : GO m.g) (h : (tagR m sp pg).2 = true) : tagIn (tagR m sp pg).1 = true := by
 unfold tagR at h ⊢
 split at h
 ·rename_i c; rw [if_pos c]; rfl
 ·rename_i c
  rw [if_neg c]
  split at h
  ·rename_i c2
   rw [if_pos c2]
   obtain ⟨j, hj, e, _⟩ := fx_at (p := fun o : Ow => o.sp == sp) (l := m.g.o) c2
   have e' : (ownF m.g sp).toNat = j := by unfold ownF; rw [e]; simp
   have h1 := hG.ge j hj
   have h2 := hG.tn j hj
   have h3 := hG.n2
   have h4 := hG.c2
   rw [e']
   unfold tagIn
   simp only [Bool.and_eq_true, decide_eq_true_eq]
   omega
  ·cases h
theorem iDropped {m : Mc} {t : T} {k : K} (hG : GO m.g) (hN : mcN m ≤ 1048576) (hf : 1048576 < fl) : i_Machine_dropped fl m t k = some ⟨t, dropC m k, m.g, m.s⟩ := by
 have hN' := hN
 unfold mcN at hN'
 unfold i_Machine_dropped dropC
 rw [iClone_eq hN, iTagFor hG (by omega) hf]
 simp only [obs]
 cases h : (tagR m k.s k.p).2 with
 | false => simp [obs]
 | true =>
  rw [cot, place_eq (by omega) hf]
  simp only [obs]
  have hb := fx_bd (p := fits (tagR m k.s k.p).1 k.p) (l := m.c.l)
  by_cases h0 : 0 ≤ fx (fits (tagR m k.s k.p).1 k.p) m.c.l 0
  ·rw [decide_eq_true h0, cot, if_pos ⟨trivial, h0⟩]
   obtain ⟨j, hj⟩ : ∃ j : Nat, fx (fits (tagR m k.s k.p).1 k.p) m.c.l 0 = j := ⟨_, (Int.toNat_of_nonneg h0).symm⟩
   rw [hj, idx_nat (by omega)]
   simp only [obs]; rfl
  ·rw [decide_eq_false h0, cof, if_neg (fun hh => h0 hh.2)]
theorem sForget {m : Mc} {k : K} (hC : CO m.c) (hG : GO m.g) (hk : keyOk k = true) (hN : mcN m ≤ 1048576) (hf : 1048576 < fl) : s_l6Forget fl m k = some ⟨m.t, dropC m k, m.g, m.s⟩ := by
 have hN' := hN
 unfold mcN at hN'
 have hp : within k.p 256 = true := by rw [within_iff]; have := keyOk_iff.1 hk; omega
 unfold s_l6Forget dropC s_DropPage s_FindLine s_l4Copy s_l4Tag
 rw [sCopy_eq hN, sTag6 (by omega) hf, sCache_eq hf, cacheOk_iff.2 hC, s1Page, hp]
 simp only [obs]
 cases h : (tagR m k.s k.p).2 with
 | false => simp [obs]
 | true =>
  have ht := tagR_in hG h
  unfold tagIn at ht
  simp only [Bool.and_eq_true, decide_eq_true_eq] at ht
  rw [decide_eq_true ht.1, decide_eq_true ht.2, sPlace_eq (by omega) hf]
  simp only [Bool.not_true, cof, cot, obs]
  have hb := fx_bd (p := fits (tagR m k.s k.p).1 k.p) (l := m.c.l)
  by_cases h0 : 0 ≤ fx (fits (tagR m k.s k.p).1 k.p) m.c.l 0
  ·rw [decide_eq_false (by omega : ¬ fx (fits (tagR m k.s k.p).1 k.p) m.c.l 0 < 0), if_pos ⟨trivial, h0⟩, cnt_in (by simp; omega)]
   obtain ⟨j, hj⟩ : ∃ j : Nat, fx (fits (tagR m k.s k.p).1 k.p) m.c.l 0 = j := ⟨_, (Int.toNat_of_nonneg h0).symm⟩
   simp only [obs, cof, Bool.not_true, List.nil_append]
   rw [hj, idx_nat (by omega)]
   simp only [obs, cot]; rfl
  ·rw [decide_eq_true (by omega : fx (fits (tagR m k.s k.p).1 k.p) m.c.l 0 < 0), if_neg (fun hh => h0 hh.2)]
   simp [obs]

/-! ### taking and guarding -/
noncomputable def takeR (m : Mc) (k : K) : Mc × Bool := if (machineOk m && (unmapR m.t k).2) = true then (⟨(unmapR m.t k).1, dropC m k, m.g, m.s⟩, true) else (mc0, false)
theorem takeR_len {m : Mc} {k : K} (hN : mcN m ≤ 1048576) : mcN (takeR m k).1 ≤ 1048576 := by
 unfold takeR; split
 ·rename_i c
  simp only [Bool.and_eq_true] at c
  obtain ⟨h1, h2, _⟩ := unmapR_same c.2
  unfold mcN at hN ⊢
  simp only [h1, h2, dropC_len]; exact hN
 ·simp [mcN, mc0]
theorem iTake_eq {m : Mc} {k : K} (hN : mcN m ≤ 1048576) (hf : 1048576 < fl) : i_TakePage fl m k = some (takeR m k) := by
 have hN' := hN
 unfold mcN at hN'
 unfold i_TakePage takeR
 rw [iMachine_eq hN hf]
 simp only [obs]
 cases hm : machineOk m with
 | false => simp [obs, mc0]
 | true =>
  have hM := machineOk_iff.1 hm
  simp only [Bool.not_true, cof, Bool.true_and]
  rw [iUnmap_eq (by omega) hf]
  simp only [obs]
  cases (unmapR m.t k).2 with
  | false => simp [mc0]
  | true => rw [iDropped hM.g hN hf]; simp [obs]
theorem sTake_eq {m : Mc} {k : K} (hN : mcN m ≤ 1048576) (hf : 1048576 < fl) : s_TakePage fl m k = some (takeR m k) := by
 unfold s_TakePage takeR
 rw [sMachine_eq hN hf]
 simp only [obs]
 cases hm : machineOk m with
 | false => simp [obs, mc0]
 | true =>
  have hM := machineOk_iff.1 hm
  simp only [Bool.not_true, cof, Bool.true_and]
  rw [sUnmap_eq hf]
  simp only [obs]
  cases hu : (unmapR m.t k).2 with
  | false => simp [mc0]
  | true => rw [sForget hM.c hM.g (unmapR_same hu).2.2 hN hf]; simp [obs]
/-! ### entering -/
def takeTagR (t : Tg) (sp : Int) : Tg × Int × Bool × Bool :=
 if (tagsOk t && within sp 16) = true then
  if 0 ≤ ownF t sp then (t, (owAt t.o (ownF t sp).toNat).tg, false, true)
  else if (t.n == t.c) = true then (if (t.r == 1000000) = true then (⟨0, 0, 0, []⟩, 0, false, false) else (⟨t.c, 1, t.r + 1, [⟨sp, 0⟩]⟩, 0, true, true))
  else (⟨t.c, t.n + 1, t.r, t.o ++ [⟨sp, t.n⟩]⟩, t.n, false, true)
 else (⟨0, 0, 0, []⟩, 0, false, false)
theorem sTakeTag {t : Tg} {sp : Int} (hl : t.o.length ≤ 1048576) (hf : 1048576 < fl) : s_TakeTag fl t sp = some (takeTagR t sp) := by
 unfold s_TakeTag takeTagR s_l5Copy
 rw [sTags_eq hl hf, s1Space, sOwn_eq hl hf, cnt_in (by simp; omega)]
 cases hT : tagsOk t with
 | false => simp [obs]
 | true =>
  have hG := tagsOk_iff.1 hT
  have g1 := hG.n1
  have g2 := hG.n2
  have g3 := hG.c2
  have g4 := hG.r1
  have g5 := hG.r2
  have g6 := hG.len
  cases within sp 16 with
  | false => simp [obs]
  | true =>
   simp only [obs, Bool.not_true, cof, Bool.true_and, if_true, List.nil_append]
   by_cases h0 : 0 ≤ ownF t sp
   ·rw [decide_eq_true h0, cot, if_pos h0]
    have hb := fx_bd (p := fun o : Ow => o.sp == sp) (l := t.o)
    have e : ownF t sp = fx (fun o : Ow => o.sp == sp) t.o 0 := rfl
    obtain ⟨j, hj⟩ : ∃ j : Nat, ownF t sp = j := ⟨(ownF t sp).toNat, by omega⟩
    rw [hj, idx_nat (by omega), Int.toNat_natCast, owAt_lt (by omega)]
    simp only [obs]
   ·rw [decide_eq_false h0, cof, if_neg h0]
    cases hn : (t.n == t.c) with
    | true =>
     rw [cot, if_pos rfl, ck_in (by omega)]
     simp only [obs]
     cases hr : (t.r == 1000000) with
     | true =>
      have : t.r = 1000000 := by simpa using hr
      rw [decide_eq_true (by omega)]; simp
     | false =>
      have : t.r ≠ 1000000 := by simpa using hr
      rw [decide_eq_false (by omega), cof, if_neg (by simp), cnt_in (by simp), ck_in (by omega)]; rfl
    | false =>
     rw [cof, if_neg (by simp), decide_eq_false (by omega), cof, cnt_in (by simp; omega), ck_in (by omega)]; rfl
theorem mapLoop {α ρ : Type} {L : Nat → List α → Int → Option (LO (List α × Int) ρ)} {l : List α} {g : α → α}
  (step : ∀ fuel v i, (h : i < l.length) → (hv : v.length = l.length) → v[i]? = some l[i] → L (fuel + 1) v (i : Int) = L fuel (v.set i (g l[i])) ((i + 1 : Nat) : Int))
  (stop : ∀ fuel v, L (fuel + 1) v (l.length : Int) = some (.out (v, (l.length : Int)))) : ∀ fuel i v, i ≤ l.length → l.length - i < fuel → v.length = l.length → (∀ j, j < i → v[j]? = (l.map g)[j]?) → (∀ j, i ≤ j → v[j]? = l[j]?) →
  L fuel v (i : Int) = some (.out (l.map g, (l.length : Int))) := by
 intro fuel
 induction fuel with
 | zero => intro i v _ h; omega
 | succ fuel ih =>
  intro i v hi hf hv h1 h2
  by_cases h : i < l.length
  ·rw [step fuel v i h hv (by rw [h2 i (Nat.le_refl _), List.getElem?_eq_getElem h])]
   refine ih (i + 1) _ (by omega) (by omega) (by simp [hv]) (fun j hj => ?_) (fun j hj => ?_)
   ·rw [List.getElem?_set]
    split
    ·rename_i e; subst e; simp [hv, h]
    ·exact h1 j (by omega)
   ·rw [List.getElem?_set, if_neg (by omega)]
    exact h2 j (by omega)
  ·have e : i = l.length := by omega
   subst e
   rw [stop]
   congr 3
   apply List.ext_getElem?
   intro j
   by_cases hj : j < l.length
   ·exact h1 j hj
   ·rw [List.getElem?_eq_none (by omega), List.getElem?_eq_none (by simp; omega)]
def frL (b : Bool) (x : Ln) : Ln := cond (b && !(x.tg == -1)) lnZ x
theorem set_same {α : Type} {v : List α} {i : Nat} {x : α} (h : v[i]? = some x) : v.set i x = v := by
 apply List.ext_getElem?
 intro j
 rw [List.getElem?_set]
 split
 ·rename_i e; subst e
  have := (List.getElem?_eq_some_iff.1 h).1
  rw [if_pos this, h]
 ·rfl
theorem sFresh {c : Ca} (hl : c.l.length ≤ 1048576) (hf : 1048576 < fl) : s_l6Fresh fl c = some ⟨c.l.map (frL true), c.h⟩ := by
 unfold s_l6Fresh s_l4Copy
 rw [cnt_in (by simp; omega)]
 simp only [obs, List.nil_append]
 have := mapLoop (L := s_l6Fresh_L0 fl c) (l := c.l) (g := frL true)
  (fun fuel v i h hv hx => by
   rw [s_l6Fresh_L0.eq_2, decide_eq_true (by omega : (i : Int) < (c.l.length : Int)), cot]
   have e : idx v (i : Int) = some c.l[i] := by rw [idx_nat (by omega)]; rw [List.getElem?_eq_getElem (by omega)] at hx; exact hx
   rw [e, ck_succ (by omega)]
   simp only [obs]
   unfold frL bne
   cases (c.l[i].tg == -1) <;> simp [obs, set_same hx, lnZ])
  (fun fuel v => by rw [s_l6Fresh_L0.eq_2, decide_eq_false (by omega), cof]) fl 0 c.l (by omega) (by omega) rfl (fun j hj => by omega) (fun j hj => rfl)
 rw [show ((0 : Nat) : Int) = 0 from rfl] at this
 rw [this]
 simp only [obs]
noncomputable def enterR (m : Mc) (sp : Int) : Mc × Bool := if (machineOk m && (takeTagR m.g sp).2.2.2) = true then (⟨m.t, ⟨m.c.l.map (frL (takeTagR m.g sp).2.2.1), m.c.h⟩, (takeTagR m.g sp).1, sp⟩, true) else (mc0, false)
theorem frL_false (l : List Ln) : l.map (frL false) = l := by
 have : frL false = id := by funext x; simp [frL]
 rw [this, List.map_id]
theorem sEnter_eq {m : Mc} {sp : Int} (hN : mcN m ≤ 1048576) (hf : 1048576 < fl) : s_EnterSpace fl m sp = some (enterR m sp) := by
 have hN' := hN
 unfold mcN at hN'
 unfold s_EnterSpace enterR
 rw [sMachine_eq hN hf, sTakeTag (by omega) hf]
 simp only [obs]
 cases hm : machineOk m with
 | false => simp [obs, mc0]
 | true =>
  simp only [Bool.not_true, cof, Bool.true_and, obs]
  cases (takeTagR m.g sp).2.2.2 with
  | false => simp [mc0]
  | true =>
   rw [sCopy_eq hN]
   simp only [obs, Bool.not_true, cof, if_true]
   cases (takeTagR m.g sp).2.2.1 with
   | true => rw [cot, sFresh (by omega) hf]; simp only [obs]
   | false => rw [cof, frL_false]

theorem clkLoop {ρ : Type} {L : Nat → Int → Option (LO Int ρ)} {l : List Ln} (step : ∀ fuel i, (h : i < l.length) → L (fuel + 1) (i : Int) = cond l[i].wi (L fuel (((i + 1) % l.length : Nat) : Int)) (some (.out (i : Int)))) :
  ∀ k fuel i, i < l.length → k < fuel → (∃ d, d < k ∧ (lnAt l ((i + d) % l.length)).wi = false) → L fuel (i : Int) = some (.out ((clk l i k : Nat) : Int)) := by
 intro k
 induction k with
 | zero => rintro fuel i _ _ ⟨d, hd, _⟩; omega
 | succ k ih =>
  rintro fuel i hi hf ⟨d, hd, hw⟩
  obtain ⟨f, rfl⟩ : ∃ f, fuel = f + 1 := ⟨fuel - 1, by omega⟩
  rw [step f i hi, clk, lnAt_lt hi]
  cases hx : l[i].wi with
  | false => rfl
  | true =>
   rw [cot, cot]
   have h0 : d ≠ 0 := by
    intro e
    subst e
    rw [Nat.add_zero, Nat.mod_eq_of_lt hi, lnAt_lt hi, hx] at hw
    cases hw
   refine ih f _ (Nat.mod_lt _ (by omega)) (by omega) ⟨d - 1, by omega, ?_⟩
   rw [Nat.mod_add_mod, show i + 1 + (d - 1) = i + d by omega]
   exact hw
theorem remO_nat {a n : Nat} (h : 0 < n) : remO (a : Int) (n : Int) = some ((a % n : Nat) : Int) := by
 unfold remO
 rw [if_neg (by omega), Int.tmod_eq_emod_of_nonneg (by omega)]; rfl
theorem iVictim {c : Ca} (h : CO c) (hf : 1048576 < fl) : i_VictimOf fl c = some ((vict c : Int), true) := by
 have n1 := h.n1
 have n2 := h.n2
 have g0 := h.h0
 have g1 := h.h1
 unfold i_VictimOf vict
 rw [iCache_eq hf, cacheOk_iff.2 h]
 simp only [obs, Bool.not_true, cof]
 have := findLoop (L := i_VictimOf_L0 fl c) (l := c.l) (p := fun x : Ln => !x.va) (res := fun i => ((i : Int), true))
  (fun fuel i h => by
   rw [i_VictimOf_L0.eq_2, decide_eq_true (by omega : (i : Int) < (c.l.length : Int)), cot, idx_nat h]
   simp only [obs]
   rw [ck_succ (by omega)]
   cases c.l[i].va <;> rfl)
  (fun fuel => by rw [i_VictimOf_L0.eq_2, decide_eq_false (by omega), cof]) fl 0 (by omega) (by omega)
 rw [show ((0 : Nat) : Int) = 0 from rfl, List.drop_zero] at this
 rw [this]
 simp only [obs]
 by_cases h0 : 0 ≤ fx (fun x : Ln => !x.va) c.l 0
 ·rw [if_pos h0, if_pos h0]
 ·rw [if_neg h0, if_neg h0]
  obtain ⟨a, ha⟩ : ∃ a : Nat, c.h = a := ⟨c.h.toNat, by omega⟩
  obtain ⟨j, hj, hw⟩ := h.un
  obtain ⟨d, hd, e⟩ := reach_ex (n := c.l.length) (i := a) (j := j) (by omega) hj
  have := clkLoop (L := i_VictimOf_L1 fl c) (l := c.l)
   (fun fuel i hi => by
    rw [i_VictimOf_L1.eq_2, idx_nat hi]
    simp only [obs]
    rw [ck_succ (by omega)]
    simp only [obs]
    rw [remO_nat (by omega)]
    simp only [obs]) c.l.length fl a (by omega) (by omega) ⟨d, hd, by rw [e]; exact hw⟩
  rw [ha, this]
  simp only [obs, Int.toNat_natCast]
theorem sVictim {c : Ca} (h : CO c) (hf : 1048576 < fl) : s_l4Victim fl c = some (vict c : Int) := by
 have n1 := h.n1
 have n2 := h.n2
 have g0 := h.h0
 have g1 := h.h1
 unfold s_l4Victim vict
 have := findLoop (L := s_l4Victim_L0 fl c) (l := c.l) (p := fun x : Ln => !x.va) (res := fun i => (i : Int))
  (fun fuel i h => by
   rw [s_l4Victim_L0.eq_2, decide_eq_true (by omega : (i : Int) < (c.l.length : Int)), cot, idx_nat h]
   simp only [obs]
   rw [ck_succ (by omega)]
   cases c.l[i].va <;> rfl)
  (fun fuel => by rw [s_l4Victim_L0.eq_2, decide_eq_false (by omega), cof]) fl 0 (by omega) (by omega)
 rw [show ((0 : Nat) : Int) = 0 from rfl, List.drop_zero] at this
 rw [this]
 simp only [obs]
 by_cases h0 : 0 ≤ fx (fun x : Ln => !x.va) c.l 0
 ·rw [if_pos h0, if_pos h0]
 ·rw [if_neg h0, if_neg h0]
  obtain ⟨a, ha⟩ : ∃ a : Nat, c.h = a := ⟨c.h.toNat, by omega⟩
  obtain ⟨j, hj, hw⟩ := h.un
  obtain ⟨d, hd, e⟩ := reach_ex (n := c.l.length) (i := a) (j := j) (by omega) hj
  have := clkLoop (L := s_l4Victim_L1 fl c) (l := c.l)
   (fun fuel i hi => by
    rw [s_l4Victim_L1.eq_2, idx_nat hi]
    simp only [obs]
    rw [ck_succ (by omega)]
    simp only [obs]
    rw [remO_nat (by omega)]
    simp only [obs]) c.l.length fl a (by omega) (by omega) ⟨d, hd, by rw [e]; exact hw⟩
  rw [ha, this]
  simp only [obs, Int.toNat_natCast]
theorem iFill {c : Ca} {x : Ln} (h : CO c) (hx : lineOk x = true) (hv : x.va = true) (hn : fx (fits x.tg x.pg) c.l 0 < 0) (ho : CO (fillC c x)) (hf : 1048576 < fl) : i_FillLine fl c x = some (fillC c x, (vict c : Int), true) := by
 have n1 := h.n1
 have n2 := h.n2
 have hvl := vict_lt h
 have hc := cacheOk_iff.2 ho
 unfold fillC at hc
 rw [lnAt_lt hvl] at hc
 unfold i_FillLine i_Cache_with slices_Clone_Line fillC
 rw [iVictim h hf, iLine_eq, hx, hv, place_eq (by omega) hf, cnt_in (by omega), lnAt_lt hvl]
 simp only [obs, Bool.not_true, cof]
 rw [decide_eq_false (by omega : ¬ 0 ≤ fx (fits x.tg x.pg) c.l 0), cof, idx_nat hvl]
 simp only [obs, Int.toNat_natCast, iCache_eq hf]
 cases hva : c.l[vict c].va with
 | true =>
  rw [hva, cot] at hc
  rw [cot, ck_succ (by omega)]
  simp only [obs]
  rw [remO_nat (by omega)]
  simp only [obs]
  rw [hc]; rfl
 | false =>
  rw [hva, cof] at hc
  rw [cof, hc]; rfl
theorem sFill {c : Ca} {x : Ln} (h : CO c) (hx : lineOk x = true) (hv : x.va = true) (hn : fx (fits x.tg x.pg) c.l 0 < 0) (ho : CO (fillC c x)) (hf : 1048576 < fl) : s_FillLine fl c x = some (fillC c x, (vict c : Int), true) := by
 have n1 := h.n1
 have n2 := h.n2
 have hvl := vict_lt h
 have hc := cacheOk_iff.2 ho
 unfold fillC at hc
 rw [lnAt_lt hvl] at hc
 unfold s_FillLine s_l4Copy fillC
 rw [sCache_eq hf, cacheOk_iff.2 h, sLine_eq, hx, hv, sVictim h hf, sPlace_eq (by omega) hf, cnt_in (by simp; omega), lnAt_lt hvl]
 simp only [obs, Bool.not_true, cof, List.nil_append]
 rw [idx_nat hvl]
 simp only [obs, Int.toNat_natCast, sCache_eq hf]
 rw [decide_eq_false (by omega : ¬ 0 ≤ fx (fits x.tg x.pg) c.l 0)]
 cases hva : c.l[vict c].va with
 | true =>
  rw [hva, cot] at hc
  rw [cot, ck_succ (by omega)]
  simp only [obs]
  rw [remO_nat (by omega)]
  simp only [obs]
  rw [hc]; rfl
 | false =>
  rw [hva, cof] at hc
  rw [cof, hc]; rfl

/-! ### rights -/
def allowsR (r nd : Int) : Bool := rightsOk r && rightsOk nd && (bAnd r nd == nd)
theorem andNot_fin : ∀ a b : Fin 8, (bAndNot ((b.val : Nat) : Int) ((a.val : Nat) : Int) == 0) = (bAnd ((a.val : Nat) : Int) ((b.val : Nat) : Int) == ((b.val : Nat) : Int)) := by decide +kernel
theorem iAllows_eq (r nd : Int) : i_Allows fl r nd = some (allowsR r nd) := by
 unfold i_Allows allowsR
 rw [iRights_eq, iRights_eq]
 cases h1 : rightsOk r with
 | false => rfl
 | true =>
  cases h2 : rightsOk nd with
  | false => rfl
  | true =>
   simp only [obs, cot, Bool.true_and]
   have b1 := rightsOk_iff.1 h1
   have b2 := rightsOk_iff.1 h2
   have := andNot_fin ⟨r.toNat, by omega⟩ ⟨nd.toNat, by omega⟩
   simp only [Int.toNat_of_nonneg b1.1, Int.toNat_of_nonneg b2.1] at this
   rw [this]
theorem sAllows_eq (r nd : Int) : s_Allows fl r nd = some (allowsR r nd) := by
 unfold s_Allows allowsR
 rw [sRights_eq, sRights_eq]
 cases rightsOk r <;> cases rightsOk nd <;> rfl

/-! ### touching -/
noncomputable def touchR (m : Mc) (pg nd : Int) : Mc × Int × Int × Bool :=
 if (machineOk m && within pg 256 && rightsOk nd) = true then
  if 0 ≤ fx (fits (tagR m m.s pg).1 pg) m.c.l 0 then
   (m, (lnAt m.c.l (fx (fits (tagR m m.s pg).1 pg) m.c.l 0).toNat).fr, cond (allowsR (lnAt m.c.l (fx (fits (tagR m m.s pg).1 pg) m.c.l 0).toNat).ri nd) 1 4, true)
  else if findF m.t.f (keyFor m.s pg) < 0 then (m, 0, 3, true)
  else (⟨m.t, fillC m.c ⟨true, (tagR m m.s pg).1, pg, findF m.t.f (keyFor m.s pg), (m.t.f.getD (findF m.t.f (keyFor m.s pg)).toNat freeF).r, false⟩, m.g, m.s⟩, findF m.t.f (keyFor m.s pg),
   cond (allowsR (m.t.f.getD (findF m.t.f (keyFor m.s pg)).toNat freeF).r nd) 2 4, true)
 else (mc0, 0, 0, false)
theorem fillC_len {c : Ca} {x : Ln} : (fillC c x).l.length = c.l.length := by simp [fillC]
theorem touchR_len {m : Mc} {pg nd : Int} (hN : mcN m ≤ 1048576) : mcN (touchR m pg nd).1 ≤ 1048576 := by
 unfold touchR
 split
 ·split
  ·exact hN
  ·split
   ·exact hN
   ·unfold mcN at hN ⊢
    simp only [fillC_len]; exact hN
 ·simp [mcN, mc0]
theorem MO.tag {m : Mc} (h : MO m) (pg : Int) : (tagR m m.s pg).2 = true := by
 unfold tagR
 split
 ·rfl
 ·rw [if_pos h.s]
theorem MO.space {m : Mc} (h : MO m) : 0 ≤ m.s ∧ m.s < 16 := by
 obtain ⟨j, hj, e, he⟩ := fx_at (p := fun o : Ow => o.sp == m.s) (l := m.g.o) h.s
 have := h.g.s1 j hj
 rw [owAt_lt hj] at this
 have e2 : m.g.o[j].sp = m.s := by simpa using he
 rw [← e2]; exact this
theorem used_rights {t : T} (h : TOk t) {i : Nat} (hi : i < t.f.length) (hu : t.f[i].u = true) : rightsOk t.f[i].r = true := by
 have := h.fr _ (List.getElem_mem hi)
 unfold frameOk at this
 rw [if_pos hu, Bool.and_eq_true] at this
 exact this.2
/-- the line that a touch fills in fits into the cache -/
theorem MO.fill {m : Mc} (h : MO m) {pg : Int} (hp : within pg 256 = true) (hn : fx (fits (tagR m m.s pg).1 pg) m.c.l 0 < 0) (hk : 0 ≤ findF m.t.f (keyFor m.s pg)) :
  lineOk ⟨true, (tagR m m.s pg).1, pg, findF m.t.f (keyFor m.s pg), (m.t.f.getD (findF m.t.f (keyFor m.s pg)).toNat freeF).r, false⟩ = true ∧
  CO (fillC m.c ⟨true, (tagR m m.s pg).1, pg, findF m.t.f (keyFor m.s pg), (m.t.f.getD (findF m.t.f (keyFor m.s pg)).toNat freeF).r, false⟩) := by
 obtain ⟨j, hj⟩ : ∃ j : Nat, findF m.t.f (keyFor m.s pg) = j := ⟨_, (Int.toNat_of_nonneg hk).symm⟩
 obtain ⟨hjl, hu, _⟩ := found_key hj
 have h16 := h.t.f2
 have hok : lineOk ⟨true, (tagR m m.s pg).1, pg, findF m.t.f (keyFor m.s pg), (m.t.f.getD (findF m.t.f (keyFor m.s pg)).toNat freeF).r, false⟩ = true := by
  unfold lineOk
  rw [cot, tagR_in h.g (h.tag pg), hp, hj, Int.toNat_natCast, show m.t.f.getD j freeF = m.t.f[j] from by simp [hjl], used_rights h.t hjl hu]
  simp only [Bool.true_and, Bool.and_true]
  rw [within_iff]; omega
 refine ⟨hok, fill_ok h.c hok rfl hn fun i hi hv hpg htg => ?_⟩
 simp only [] at hpg htg
 have hl := h.l i hi hv
 rw [lineHas_eq] at hl
 simp only [Bool.and_eq_true] at hl
 have h1 := hl.1.1.1
 have h128 : 128 ≤ pg := by
  apply Classical.byContradiction
  intro hlt
  unfold tagR at htg
  rw [if_neg hlt, if_pos h.s] at htg
  obtain ⟨q, hq, e, _⟩ := fx_at (p := fun o : Ow => o.sp == m.s) (l := m.g.o) h.s
  have e' : (ownF m.g m.s).toNat = q := by unfold ownF; rw [e]; simp
  simp only [e'] at htg
  have := h.g.ge q hq
  omega
 rw [hpg, decide_eq_true h128] at h1
 simpa using h1
theorem iTouch_eq {m : Mc} {pg nd : Int} (hN : mcN m ≤ 1048576) (hf : 1048576 < fl) : i_TouchPage fl m pg nd = some (touchR m pg nd) := by
 have hN' := hN
 unfold mcN at hN'
 unfold i_TouchPage touchR
 rw [iMachine_eq hN hf, within_eq, iRights_eq]
 cases hm : machineOk m with
 | false => simp [obs, mc0]
 | true =>
  have hM := machineOk_iff.1 hm
  cases hp : within pg 256 with
  | false => simp [obs, mc0]
  | true =>
   cases hr : rightsOk nd with
   | false => simp [obs, mc0]
   | true =>
    simp only [obs, Bool.not_true, cof, Bool.true_and, if_true]
    rw [iClone_eq hN, iTagFor hM.g (by omega) hf]
    simp only [obs]
    rw [place_eq (by omega) hf]
    simp only [obs]
    have hb := fx_bd (p := fits (tagR m m.s pg).1 pg) (l := m.c.l)
    by_cases h0 : 0 ≤ fx (fits (tagR m m.s pg).1 pg) m.c.l 0
    ·rw [decide_eq_true h0, cot, if_pos h0]
     obtain ⟨j, hj⟩ : ∃ j : Nat, fx (fits (tagR m m.s pg).1 pg) m.c.l 0 = j := ⟨_, (Int.toNat_of_nonneg h0).symm⟩
     rw [hj, idx_nat (by omega), Int.toNat_natCast, lnAt_lt (by omega)]
     simp only [obs, iAllows_eq]
     cases allowsR (m.c.l[j]'(by omega)).ri nd <;> rfl
    ·rw [decide_eq_false h0, cof, if_neg h0, iKeyFor]
     simp only [obs]
     rw [find_eq (by omega) hf]
     simp only [obs]
     by_cases h1 : findF m.t.f (keyFor m.s pg) < 0
     ·rw [decide_eq_true h1, cot, if_pos h1]
     ·rw [decide_eq_false h1, cof, if_neg h1]
      obtain ⟨hl, hc⟩ := hM.fill hp (by omega) (by omega)
      have hfb := (findF_bd (l := m.t.f) (k := keyFor m.s pg)).1
      obtain ⟨j, hj⟩ : ∃ j : Nat, findF m.t.f (keyFor m.s pg) = j := ⟨_, (Int.toNat_of_nonneg (by omega)).symm⟩
      have hjl : j < m.t.f.length := by omega
      have eg : m.t.f.getD (findF m.t.f (keyFor m.s pg)).toNat freeF = m.t.f[j] := by rw [hj, Int.toNat_natCast]; simp [hjl]
      rw [eg] at hl hc ⊢
      rw [hj, idx_nat hjl]
      rw [hj] at hl hc
      simp only [obs]
      rw [iFill hM.c hl rfl (by simpa using h0) hc hf]
      simp only [obs, iAllows_eq, Bool.not_true, cof]
      cases allowsR m.t.f[j].r nd <;> rfl
theorem sTouch_eq {m : Mc} {pg nd : Int} (hN : mcN m ≤ 1048576) (hf : 1048576 < fl) : s_TouchPage fl m pg nd = some (touchR m pg nd) := by
 have hN' := hN
 unfold mcN at hN'
 unfold s_TouchPage touchR
 rw [sMachine_eq hN hf, s1Page, sRights_eq]
 cases hm : machineOk m with
 | false => simp [obs, mc0]
 | true =>
  have hM := machineOk_iff.1 hm
  cases hp : within pg 256 with
  | false => simp [obs, mc0]
  | true =>
   cases hr : rightsOk nd with
   | false => simp [obs, mc0]
   | true =>
    simp only [obs, Bool.not_true, cof, Bool.true_and, if_true]
    rw [sCopy_eq hN, sTag6 (by omega) hf]
    simp only [obs]
    rw [sPlace_eq (by omega) hf]
    simp only [obs]
    have hb := fx_bd (p := fits (tagR m m.s pg).1 pg) (l := m.c.l)
    by_cases h0 : 0 ≤ fx (fits (tagR m m.s pg).1 pg) m.c.l 0
    ·rw [decide_eq_true h0, cot, if_pos h0]
     obtain ⟨j, hjl, hj, hfit⟩ := fx_at (p := fits (tagR m m.s pg).1 pg) (l := m.c.l) h0
     rw [hj, idx_nat hjl, Int.toNat_natCast, lnAt_lt hjl]
     simp only [obs]
     have hv : m.c.l[j].va = true := by
      unfold fits at hfit
      simp only [Bool.and_eq_true] at hfit
      exact hfit.1.1
     have hl := hM.l j hjl (by rw [lnAt_lt hjl]; exact hv)
     rw [lnAt_lt hjl, lineHas_eq] at hl
     simp only [Bool.and_eq_true] at hl
     have hk := hl.2
     unfold keyHas at hk
     simp only [Bool.and_eq_true, decide_eq_true_eq, beq_iff_eq] at hk
     obtain ⟨⟨k1, k2⟩, k3⟩ := hk
     have hfb := (findF_bd (l := m.t.f) (k := keyFor (lineSpace m m.c.l[j]) m.c.l[j].pg)).1
     rw [k2] at k1 k3 hfb
     obtain ⟨q, hq⟩ : ∃ q : Nat, m.c.l[j].fr = q := ⟨_, (Int.toNat_of_nonneg k1).symm⟩
     have hql : q < m.t.f.length := by omega
     rw [hq, Int.toNat_natCast, show m.t.f.getD q freeF = m.t.f[q] from by simp [hql]] at k3
     rw [hq, idx_nat hql]
     simp only [obs, k3, sAllows_eq]
     cases allowsR m.c.l[j].ri nd <;> rfl
    ·rw [decide_eq_false h0, cof, if_neg h0, sKeyFor]
     simp only [obs]
     obtain ⟨s, hs⟩ := sFind_eq (fl := fl) hM.t (keyFor_ok (p := pg) hM.space hp) hf
     rw [hs]
     simp only [obs]
     by_cases h1 : findF m.t.f (keyFor m.s pg) < 0
     ·rw [decide_eq_true h1, cot, if_pos h1]
     ·rw [decide_eq_false h1, cof, if_neg h1]
      obtain ⟨hl, hc⟩ := hM.fill hp (by omega) (by omega)
      have hfb := (findF_bd (l := m.t.f) (k := keyFor m.s pg)).1
      obtain ⟨j, hj⟩ : ∃ j : Nat, findF m.t.f (keyFor m.s pg) = j := ⟨_, (Int.toNat_of_nonneg (by omega)).symm⟩
      have hjl : j < m.t.f.length := by omega
      have eg : m.t.f.getD (findF m.t.f (keyFor m.s pg)).toNat freeF = m.t.f[j] := by rw [hj, Int.toNat_natCast]; simp [hjl]
      rw [eg] at hl hc ⊢
      rw [hj]
      rw [hj] at hl hc
      unfold s_l6Fill
      rw [sCopy_eq hN, idx_nat hjl]
      simp only [obs]
      rw [sFill hM.c hl rfl (by simpa using h0) hc hf]
      simp only [obs, sAllows_eq, Bool.not_true, cof]
      cases allowsR m.t.f[j].r nd <;> rfl

def wireC (c : Ca) (i : Nat) (b : Bool) : Ca := ⟨c.l.set i ⟨(lnAt c.l i).va, (lnAt c.l i).tg, (lnAt c.l i).pg, (lnAt c.l i).fr, (lnAt c.l i).ri, b⟩, c.h⟩
def wireLR (c : Ca) (pl : Int) (b : Bool) : Ca × Bool :=
 if (cacheOk c && within pl c.l.length && (lnAt c.l pl.toNat).va && cacheOk (wireC c pl.toNat b)) = true then (wireC c pl.toNat b, true) else (⟨[], 0⟩, false)
theorem sWireLine {c : Ca} {pl : Int} {b : Bool} (hl : c.l.length ≤ 1048576) (hf : 1048576 < fl) : s_WireLine fl c pl b = some (wireLR c pl b) := by
 unfold s_WireLine wireLR s_l4Copy
 rw [sCache_eq hf]
 cases cacheOk c with
 | false => simp [obs]
 | true =>
  unfold within
  by_cases h1 : pl < 0
  ·rw [decide_eq_true h1, decide_eq_false (by omega : ¬ 0 ≤ pl)]; simp [obs]
  by_cases h2 : (c.l.length : Int) ≤ pl
  ·rw [decide_eq_false h1, decide_eq_true h2, decide_eq_false (by omega : ¬ pl < (c.l.length : Int))]; simp [obs]
  rw [decide_eq_false h1, decide_eq_false h2, decide_eq_true (by omega : 0 ≤ pl), decide_eq_true (by omega : pl < (c.l.length : Int))]
  obtain ⟨i, rfl⟩ : ∃ i : Nat, pl = i := ⟨pl.toNat, by omega⟩
  have hi : i < c.l.length := by omega
  unfold wireC
  rw [Int.toNat_natCast, lnAt_lt hi, idx_nat hi, cnt_in (by simp; omega)]
  simp only [obs, Bool.not_true, cof, Bool.true_and, List.nil_append]
  cases hv : c.l[i].va with
  | false => simp [obs]
  | true =>
   rw [idx_nat hi]
   simp only [obs, Bool.not_true, cof, Bool.true_and, sCache_eq hf, Int.toNat_natCast, hv]
   cases cacheOk (⟨c.l.set i ⟨true, c.l[i].tg, c.l[i].pg, c.l[i].fr, c.l[i].ri, b⟩, c.h⟩ : Ca) <;> rfl
noncomputable def wireR (m : Mc) (pg : Int) : Mc × Bool :=
 if ((touchR m pg 0).2.2.2 && !((touchR m pg 0).2.2.1 == 3) && !decide (pg < 128) && (wireLR (touchR m pg 0).1.c (fx (fits (-1) pg) (touchR m pg 0).1.c.l 0) true).2) = true then
  (⟨(touchR m pg 0).1.t, (wireLR (touchR m pg 0).1.c (fx (fits (-1) pg) (touchR m pg 0).1.c.l 0) true).1, (touchR m pg 0).1.g, (touchR m pg 0).1.s⟩, true)
 else (mc0, false)
theorem sWire_eq {m : Mc} {pg : Int} (hN : mcN m ≤ 1048576) (hf : 1048576 < fl) : s_WirePage fl m pg = some (wireR m pg) := by
 have hT := touchR_len (pg := pg) (nd := 0) hN
 have hT' := hT
 unfold mcN at hT'
 unfold s_WirePage wireR
 rw [sTouch_eq hN hf]
 simp only [obs]
 cases (touchR m pg 0).2.2.2 with
 | false => simp [obs, mc0]
 | true =>
  cases decide (pg < 128) with
  | true => cases ((touchR m pg 0).2.2.1 == 3) <;> simp [obs, mc0]
  | false =>
   cases ((touchR m pg 0).2.2.1 == 3) with
   | true => simp [obs, mc0]
   | false =>
    simp only [Bool.not_true, Bool.not_false, cof, obs, Bool.true_and]
    rw [sPlace_eq (by omega) hf]
    simp only [obs]
    rw [sWireLine (by omega) hf]
    simp only [obs]
    cases (wireLR (touchR m pg 0).1.c (fx (fits (-1) pg) (touchR m pg 0).1.c.l 0) true).2 <;> rfl

def mmN (m : Mm) : Nat := mcN m.m + m.k.length
def mm0 : Mm := ⟨mc0, [], 0⟩
/-! ### new memories -/
noncomputable def newMR (m : Mc) : Mm × Bool := if machineOk m = true then (⟨m, List.replicate m.t.f.length false, 0⟩, true) else (mm0, false)
theorem sNewM_eq {m : Mc} (hN : mcN m ≤ 1048576) (hf : 1048576 < fl) : s_NewMemory fl m = some (newMR m) := by
 have hN' := hN
 unfold mcN at hN'
 unfold s_NewMemory newMR
 rw [sMachine_eq hN hf, mkO_nat (by omega)]
 simp only [obs]
 cases machineOk m with
 | false => simp [mm0, mc0]
 | true => rw [sCopy_eq hN]; simp [obs]

def markOk (m : Mm) (i : Nat) : Bool := !(m.k.getD i false && !(m.m.t.f.getD i freeF).u)
noncomputable def memOk (m : Mm) : Bool := machineOk m.m && ((m.k.length : Int) == (m.m.t.f.length : Int)) && within m.h m.m.t.f.length && upto (markOk m) 0 m.k.length
theorem iMarks {m : Mm} (hl : m.k.length ≤ 1048576) (he : m.k.length = m.m.t.f.length) (hf : 1048576 < fl) : i_MemoryValid_L0 fl m fl 0 = some (if upto (markOk m) 0 m.k.length then .out (m.k.length : Int) else .ret false) := by
 have := allLoop (L := i_MemoryValid_L0 fl m) (n := m.k.length) (p := markOk m) (bad := false)
  (fun fuel j hj => by
   rw [i_MemoryValid_L0.eq_2, decide_eq_true (by omega : (j : Int) < (m.k.length : Int)), cot, idx_nat hj]
   simp only [obs]
   rw [ck_succ (by omega), idx_nat (by omega : j < m.m.t.f.length)]
   unfold markOk
   rw [show m.k.getD j false = m.k[j] from by simp [hj], show m.m.t.f.getD j freeF = m.m.t.f[j] from by simp [he ▸ hj]]
   simp only [obs]
   cases m.k[j] <;> cases m.m.t.f[j].u <;> rfl)
  (fun fuel => by rw [i_MemoryValid_L0.eq_2, decide_eq_false (by omega), cof]) fl 0 (by omega) (by omega)
 rw [show ((0 : Nat) : Int) = 0 from rfl, Nat.sub_zero] at this
 exact this
theorem sMarks {m : Mm} (hl : m.k.length ≤ 1048576) (he : m.k.length = m.m.t.f.length) (hf : 1048576 < fl) : s_MemoryValid_L0 fl m fl 0 = some (if upto (markOk m) 0 m.k.length then .out (m.k.length : Int) else .ret false) := by
 have := allLoop (L := s_MemoryValid_L0 fl m) (n := m.k.length) (p := markOk m) (bad := false)
  (fun fuel j hj => by
   rw [s_MemoryValid_L0.eq_2, decide_eq_true (by omega : (j : Int) < (m.k.length : Int)), cot, idx_nat hj]
   simp only [obs]
   rw [ck_succ (by omega), idx_nat (by omega : j < m.m.t.f.length)]
   unfold markOk
   rw [show m.k.getD j false = m.k[j] from by simp [hj], show m.m.t.f.getD j freeF = m.m.t.f[j] from by simp [he ▸ hj]]
   simp only [obs]
   cases m.k[j] <;> cases m.m.t.f[j].u <;> rfl)
  (fun fuel => by rw [s_MemoryValid_L0.eq_2, decide_eq_false (by omega), cof]) fl 0 (by omega) (by omega)
 rw [show ((0 : Nat) : Int) = 0 from rfl, Nat.sub_zero] at this
 exact this
theorem iMem_eq {m : Mm} (hN : mmN m ≤ 1048576) (hf : 1048576 < fl) : i_MemoryValid fl m = some (memOk m) := by
 unfold mmN at hN
 unfold i_MemoryValid memOk
 rw [iMachine_eq (by omega) hf, within_eq]
 unfold bne
 cases machineOk m.m with
 | false => simp [obs]
 | true =>
  cases he : ((m.k.length : Int) == (m.m.t.f.length : Int)) with
  | false => simp [obs]
  | true =>
   have he1 : (m.k.length : Int) = (m.m.t.f.length : Int) := by simpa using he
   have he' : m.k.length = m.m.t.f.length := by omega
   cases within m.h m.m.t.f.length with
   | false => simp [obs]
   | true =>
    simp only [obs, Bool.not_true, cof, Bool.true_and]
    rw [iMarks (by omega) he' hf]
    simp only [obs]
    cases upto (markOk m) 0 m.k.length <;> simp
theorem sMem_eq {m : Mm} (hN : mmN m ≤ 1048576) (hf : 1048576 < fl) : s_MemoryValid fl m = some (memOk m) := by
 unfold mmN at hN
 unfold s_MemoryValid memOk
 rw [sMachine_eq (by omega) hf]
 unfold bne
 cases machineOk m.m with
 | false => simp [obs]
 | true =>
  cases he : ((m.k.length : Int) == (m.m.t.f.length : Int)) with
  | false => simp [obs]
  | true =>
   have he1 : (m.k.length : Int) = (m.m.t.f.length : Int) := by simpa using he
   have he' : m.k.length = m.m.t.f.length := by omega
   unfold within
   by_cases h1 : m.h < 0
   ·rw [decide_eq_true h1, decide_eq_false (by omega : ¬ 0 ≤ m.h)]; simp [obs]
   by_cases h2 : (m.k.length : Int) ≤ m.h
   ·rw [decide_eq_false h1, decide_eq_true h2, decide_eq_false (by omega : ¬ m.h < (m.m.t.f.length : Int))]; simp [obs]
   rw [decide_eq_false h1, decide_eq_false h2, decide_eq_true (by omega : 0 ≤ m.h), decide_eq_true (by omega : m.h < (m.m.t.f.length : Int))]
   simp only [obs, Bool.not_true, cof, Bool.true_and]
   rw [sMarks (by omega) he' hf]
   simp only [obs]
   cases upto (markOk m) 0 m.k.length <;> simp
theorem iMClone {m : Mm} (hN : mmN m ≤ 1048576) : i_Memory_clone fl m = some m := by
 unfold mmN at hN
 unfold i_Memory_clone slices_Clone_Bool
 rw [iClone_eq (by omega), cnt_in (by omega)]; rfl
theorem sMCopy {m : Mm} (hN : mmN m ≤ 1048576) : s_l7Copy fl m = some m := by
 unfold mmN at hN
 unfold s_l7Copy
 rw [sCopy_eq (by omega), cnt_in (by simp; omega)]; rfl
noncomputable def clearR (m : Mm) : Mm × Bool := if memOk m = true then (⟨m.m, List.replicate m.k.length false, m.h⟩, true) else (mm0, false)
theorem sClear_eq {m : Mm} (hN : mmN m ≤ 1048576) (hf : 1048576 < fl) : s_ClearMarks fl m = some (clearR m) := by
 have hN' := hN
 unfold mmN at hN'
 unfold s_ClearMarks clearR
 rw [sMem_eq hN hf]
 simp only [obs]
 cases memOk m with
 | false => simp [mm0, mc0]
 | true => rw [sMCopy hN]; simp only [obs, Bool.not_true, cof]; rw [mkO_nat (by omega)]; simp [obs]

/-! ### the clock -/
def wiredAt (m : Mc) (i : Nat) : Bool := !upto (fun j => !((lnAt m.c.l j).wi && ((lnAt m.c.l j).fr == (i : Int)))) 0 m.c.l.length
/-- the clock's hand goes on for k more steps: the frame, the hand, the marks -/
def tick (m : Mc) (n : Nat) (h : Nat) (k : List Bool) : Nat → Option (Nat × Nat × List Bool)
 | 0 => none
 | s + 1 => cond (!(m.t.f.getD h freeF).u || wiredAt m h) (tick m n ((h + 1) % n) k s)
   (cond (k.getD h false) (tick m n ((h + 1) % n) (k.set h false) s) (some (h, (h + 1) % n, k)))
theorem iWired {m : Mc} {i : Nat} (hl : m.c.l.length ≤ 1048576) (hf : 1048576 < fl) : slices_ContainsFunc_Line_of_i_FrameVictim_1 fl m.c.l (i : Int) = some (wiredAt m i) := by
 unfold slices_ContainsFunc_Line_of_i_FrameVictim_1 slices_IndexFunc_Line_of_i_FrameVictim_1
 have := findLoop (L := slices_IndexFunc_Line_of_i_FrameVictim_1_L0 fl m.c.l (i : Int)) (l := m.c.l) (p := fun x : Ln => x.wi && (x.fr == (i : Int))) (res := fun i => (i : Int))
  (fun fuel j h => by
   rw [slices_IndexFunc_Line_of_i_FrameVictim_1_L0.eq_2, decide_eq_true (by omega : (j : Int) < (m.c.l.length : Int)), cot, idx_nat h]
   simp only [obs, i_FrameVictim_1]
   rw [ck_succ (by omega)]
   cases m.c.l[j].wi <;> cases (m.c.l[j].fr == (i : Int)) <;> rfl)
  (fun fuel => by rw [slices_IndexFunc_Line_of_i_FrameVictim_1_L0.eq_2, decide_eq_false (by omega), cof]) fl 0 (by omega) (by omega)
 rw [show ((0 : Nat) : Int) = 0 from rfl, List.drop_zero] at this
 rw [this]
 simp only [obs]
 by_cases h0 : 0 ≤ fx (fun x : Ln => x.wi && (x.fr == (i : Int))) m.c.l 0
 ·rw [if_pos h0]
  simp only [obs]
  obtain ⟨j, hj, e, hp⟩ := fx_at h0
  rw [decide_eq_true (by omega)]
  unfold wiredAt
  congr 1
  symm
  rw [Bool.not_eq_true']
  apply Bool.eq_false_iff.2
  intro hu
  rw [upto_iff] at hu
  have := hu j (by omega) (by omega)
  rw [lnAt_lt hj, hp] at this
  cases this
 ·rw [if_neg h0]
  simp only [obs]
  rw [decide_eq_false (by omega)]
  unfold wiredAt
  congr 1
  symm
  rw [Bool.not_eq_false']
  rw [upto_iff]
  intro j _ hj
  have := fx_none (Int.not_le.1 h0) m.c.l[j] (List.getElem_mem (by omega))
  rw [lnAt_lt (by omega), this]; rfl
theorem sWired {m : Mc} (hC : CO m.c) {i : Nat} (hf : 1048576 < fl) : s_l7Wired fl m (i : Int) = some (wiredAt m i) := by
 have n2 := hC.n2
 unfold s_l7Wired
 have := allLoop (L := s_l7Wired_L0 fl m (i : Int)) (n := m.c.l.length) (p := fun j => !((lnAt m.c.l j).wi && ((lnAt m.c.l j).fr == (i : Int)))) (bad := true)
  (fun fuel j hj => by
   rw [s_l7Wired_L0.eq_2, decide_eq_true (by omega : (j : Int) < (m.c.l.length : Int)), cot, idx_nat hj]
   simp only [obs]
   rw [ck_succ (by omega)]
   have hok := hC.ok j hj
   rw [lnAt_lt hj] at hok ⊢
   cases hv : m.c.l[j].va with
   | true => cases m.c.l[j].wi <;> cases (m.c.l[j].fr == (i : Int)) <;> rfl
   | false =>
    unfold lineOk at hok
    rw [hv, cof] at hok
    have e : m.c.l[j] = lnZ := by simpa using hok
    have hw : m.c.l[j].wi = false := by rw [e]; rfl
    rw [hw]; rfl)
  (fun fuel => by rw [s_l7Wired_L0.eq_2, decide_eq_false (by omega), cof]) fl 0 (by omega) (by omega)
 rw [show ((0 : Nat) : Int) = 0 from rfl, Nat.sub_zero] at this
 rw [this]
 simp only [obs]
 unfold wiredAt
 cases upto (fun j => !((lnAt m.c.l j).wi && ((lnAt m.c.l j).fr == (i : Int)))) 0 m.c.l.length <;> rfl
theorem iTick {m : Mm} (hC : m.m.c.l.length ≤ 1048576) (he : m.k.length = m.m.t.f.length) (hn : m.k.length ≤ 16) (hf : 1048576 < fl) : ∀ s fuel h (k : List Bool) i, h < m.k.length → k.length = m.k.length → i + s = 2 * m.k.length → s < fuel →
  (∃ v, i_FrameVictim_L0 fl m ((2 * m.k.length : Nat) : Int) fuel (h : Int) k (i : Int) = some (match tick m.m m.k.length h k s with | some (a, h', k') => .ret (⟨m.m, k', (h' : Int)⟩, (a : Int), true) | none => .out v)) := by
 intro s
 induction s with
 | zero =>
  intro fuel h k i hh hk hi hfu
  obtain ⟨f, rfl⟩ : ∃ f, fuel = f + 1 := ⟨fuel - 1, by omega⟩
  rw [i_FrameVictim_L0.eq_2, decide_eq_false (by omega), cof]
  exact ⟨_, rfl⟩
 | succ s ih =>
  intro fuel h k i hh hk hi hfu
  obtain ⟨f, rfl⟩ : ∃ f, fuel = f + 1 := ⟨fuel - 1, by omega⟩
  rw [i_FrameVictim_L0.eq_2, decide_eq_true (by omega), cot, ck_succ (by omega)]
  simp only [obs]
  rw [remO_nat (by omega)]
  simp only [obs]
  rw [iWired hC hf, idx_nat (by omega : h < m.m.t.f.length)]
  simp only [obs]
  rw [tick, show m.m.t.f.getD h freeF = m.m.t.f[h] from by simp [he ▸ hh], ck_succ (by omega), idx_nat (by omega : h < k.length), show k.getD h false = k[h] from by simp [hk.symm ▸ hh]]
  have hm := Nat.mod_lt (h + 1) (show 0 < m.k.length by omega)
  obtain ⟨v1, h1⟩ := ih f _ k (i + 1) hm hk (by omega) (by omega)
  obtain ⟨v2, h2⟩ := ih f _ (k.set h false) (i + 1) hm (by simp [hk]) (by omega) (by omega)
  cases m.m.t.f[h].u with
  | false =>
   simp only [Bool.not_false, cot, obs, Bool.true_or]
   exact ⟨v1, h1⟩
  | true =>
   simp only [Bool.not_true, cof, obs, Bool.false_or]
   cases wiredAt m.m h with
   | true => simp only [cot, obs]; exact ⟨v1, h1⟩
   | false =>
    simp only [cof, obs]
    cases k[h] with
    | true => simp only [cot, Int.toNat_natCast]; exact ⟨v2, h2⟩
    | false => refine ⟨v1, ?_⟩; simp only [cof]
theorem sTick {m : Mm} (hC : CO m.m.c) (he : m.k.length = m.m.t.f.length) (hn : m.k.length ≤ 16) (hf : 1048576 < fl) : ∀ s fuel h (k : List Bool) i, h < m.k.length → k.length = m.k.length → i + s = 2 * m.k.length → s < fuel →
  (∃ v, s_l7Clock_L0 fl m fuel (h : Int) k (i : Int) = some (match tick m.m m.k.length h k s with | some (a, h', k') => .ret (⟨m.m, k', (h' : Int)⟩, (a : Int)) | none => .out v)) := by
 intro s
 induction s with
 | zero =>
  intro fuel h k i hh hk hi hfu
  obtain ⟨f, rfl⟩ : ∃ f, fuel = f + 1 := ⟨fuel - 1, by omega⟩
  rw [s_l7Clock_L0.eq_2, ck_in (by omega)]
  simp only [obs]
  rw [decide_eq_false (by omega), cof]
  exact ⟨_, rfl⟩
 | succ s ih =>
  intro fuel h k i hh hk hi hfu
  obtain ⟨f, rfl⟩ : ∃ f, fuel = f + 1 := ⟨fuel - 1, by omega⟩
  rw [s_l7Clock_L0.eq_2, ck_in (by omega)]
  simp only [obs]
  rw [decide_eq_true (by omega), cot, ck_succ (by omega)]
  simp only [obs]
  rw [remO_nat (by omega)]
  simp only [obs]
  rw [sWired hC hf, idx_nat (by omega : h < m.m.t.f.length)]
  simp only [obs]
  rw [tick, show m.m.t.f.getD h freeF = m.m.t.f[h] from by simp [he ▸ hh], ck_succ (by omega), idx_nat (by omega : h < k.length), show k.getD h false = k[h] from by simp [hk.symm ▸ hh]]
  have hm := Nat.mod_lt (h + 1) (show 0 < m.k.length by omega)
  obtain ⟨v1, h1⟩ := ih f _ k (i + 1) hm hk (by omega) (by omega)
  obtain ⟨v2, h2⟩ := ih f _ (k.set h false) (i + 1) hm (by simp [hk]) (by omega) (by omega)
  cases m.m.t.f[h].u with
  | false =>
   simp only [Bool.not_false, cot, obs, Bool.true_or]
   exact ⟨v1, h1⟩
  | true =>
   simp only [Bool.not_true, cof, obs, Bool.false_or]
   cases wiredAt m.m h with
   | true => simp only [cot, obs]; exact ⟨v1, h1⟩
   | false =>
    simp only [cof, obs]
    cases k[h] with
    | true => simp only [Bool.not_true, cof, obs, Int.toNat_natCast]; exact ⟨v2, h2⟩
    | false => refine ⟨v1, ?_⟩; simp only [Bool.not_false, cot, cof]
noncomputable def victR (m : Mm) : Mm × Int × Bool := if memOk m = true then (match tick m.m m.k.length m.h.toNat m.k (2 * m.k.length) with | some (a, h', k') => (⟨m.m, k', (h' : Int)⟩, (a : Int), true) | none => (mm0, 0, false)) else (mm0, 0, false)
structure NO (m : Mm) : Prop where
 mo : MO m.m
 k : m.k.length = m.m.t.f.length
 h0 : 0 ≤ m.h
 h1 : m.h < (m.m.t.f.length : Int)
theorem memOk_no {m : Mm} (h : memOk m = true) : NO m := by
 unfold memOk at h
 simp only [Bool.and_eq_true, within_iff, beq_iff_eq] at h
 obtain ⟨⟨⟨a, b⟩, c, d⟩, _⟩ := h
 exact ⟨machineOk_iff.1 a, by omega, c, d⟩
theorem iVict_eq {m : Mm} (hN : mmN m ≤ 1048576) (hf : 1048576 < fl) : i_FrameVictim fl m = some (victR m) := by
 unfold i_FrameVictim victR
 rw [iMem_eq hN hf]
 simp only [obs]
 cases hm : memOk m with
 | false => simp [mm0, mc0]
 | true =>
  have h := memOk_no hm
  obtain ⟨s1, s2, s3, s4⟩ := h.mo.small
  have e := h.k
  have g0 := h.h0
  have g1 := h.h1
  rw [iMClone hN]
  simp only [obs, Bool.not_true, cof, if_true]
  rw [ck_in (by omega)]
  simp only [obs]
  obtain ⟨a, ha⟩ : ∃ a : Nat, m.h = a := ⟨m.h.toNat, by omega⟩
  obtain ⟨v, hv⟩ := iTick (fl := fl) (m := m) (by omega) e (by omega) hf (2 * m.k.length) fl a m.k 0 (by omega) rfl (by omega) (by omega)
  rw [show ((0 : Nat) : Int) = 0 from rfl, show ((2 * m.k.length : Nat) : Int) = 2 * (m.k.length : Int) by omega] at hv
  rw [ha, hv]
  simp only [obs, Int.toNat_natCast]
  cases tick m.m m.k.length a m.k (2 * m.k.length) with
  | none => rfl
  | some q => obtain ⟨x, y, z⟩ := q; rfl

/-! ### a new table -/
def newT (n m : Nat) : T := ⟨List.replicate m (-1), List.replicate n freeF⟩
def newTR (n m : Int) : T × Bool := if (decide (1 ≤ n) && decide (n ≤ 16) && decide (1 ≤ m) && decide (m ≤ 16)) = true then (newT n.toNat m.toNat, true) else (⟨[], []⟩, false)
theorem sNewTR_eq {n m : Int} (hf : 1048576 < fl) : s_NewTable fl n m = some (newTR n m) := by
 by_cases h : (decide (1 ≤ n) && decide (n ≤ 16) && decide (1 ≤ m) && decide (m ≤ 16)) = true
 ·unfold newTR
  rw [if_pos h]
  simp only [Bool.and_eq_true, decide_eq_true_eq] at h
  obtain ⟨a, rfl⟩ : ∃ a : Nat, n = a := ⟨n.toNat, by omega⟩
  obtain ⟨b, rfl⟩ : ∃ b : Nat, m = b := ⟨m.toNat, by omega⟩
  rw [sNewTable_eq (by omega) (by omega) (by omega) (by omega) hf]; rfl
 ·unfold newTR
  rw [if_neg h]
  unfold s_NewTable s_l2Buckets
  simp only [Bool.and_eq_true, decide_eq_true_eq] at h
  by_cases h1 : n < 1
  ·rw [decide_eq_true h1]; simp [obs]
  by_cases h2 : 16 < n
  ·rw [decide_eq_false h1, decide_eq_true h2]; simp [obs]
  rw [decide_eq_false h1, decide_eq_false h2]
  by_cases h3 : 1 ≤ m
  ·rw [decide_eq_true h3, decide_eq_false (by omega : ¬ m ≤ 16)]; simp [obs]
  ·rw [decide_eq_false h3]; simp [obs]
theorem newT_chain {n m i : Nat} : chain (newT n m) i = some [] := by
 unfold chain newT
 have : (List.replicate m (-1 : Int)).getD i (-1) = -1 := by
  rw [List.getD_eq_getElem?_getD, List.getElem?_replicate]; split <;> rfl
 simp only [this]
 exact walk_end _ _ _ _
theorem newT_keys (n : Nat) : usedKeys (List.replicate n freeF) = [] := by
 unfold usedKeys
 rw [List.filter_eq_nil_iff.2 (fun f hf => by obtain ⟨_, rfl⟩ := List.mem_replicate.1 hf; simp [freeF])]; rfl
theorem newT_ok {n m : Nat} (h1 : 1 ≤ n) (h2 : n ≤ 16) (h3 : 1 ≤ m) (h4 : m ≤ 16) : TOk (newT n m) := by
 refine ⟨by simpa [newT] using h1, by simpa [newT] using h2, by simpa [newT] using h3, by simpa [newT] using h4, fun f hf => ?_, ?_, fun i _ => by rw [newT_chain]; rfl, ?_⟩
 ·simp only [newT] at hf
  obtain ⟨_, rfl⟩ := List.mem_replicate.1 hf
  simp [frameOk, freeF]
 ·simp only [newT, newT_keys]; exact List.nodup_nil
 ·simp only [chainsLen, newT_chain]
  rw [show (newT n m).f = List.replicate n freeF from rfl, newT_keys]
  have hz : ∀ l : List Nat, (l.map fun _ => ((some ([] : List Nat)).getD []).length).sum = 0 := by
   intro l
   induction l with
   | nil => rfl
   | cons a l ih => simpa using ih
  exact hz _
/-! ### new caches, tags and machines -/
def newC (c : Nat) : Ca := ⟨List.replicate c lnZ, 0⟩
theorem newC_ok {c : Nat} (h1 : 1 ≤ c) (h2 : c ≤ 8) : CO (newC c) := by
 have hz : ∀ i, i < c → lnAt (newC c).l i = lnZ := fun i hi => by rw [lnAt_lt (by simpa [newC] using hi)]; simp [newC]
 refine ⟨by simpa [newC] using h1, by simpa [newC] using h2, by simp [newC], by simp only [newC, List.length_replicate]; omega, fun i hi => ?_, fun i hi j hj => ?_, ⟨0, by simp only [newC, List.length_replicate]; omega, by rw [hz 0 (by omega)]; rfl⟩⟩
 ·rw [hz i (by simpa [newC] using hi)]; rfl
 ·rw [hz i (by simpa [newC] using hi)]; rfl
def newG (g : Int) : Tg := ⟨g, 1, 0, [⟨0, 0⟩]⟩
theorem newG_ok {g : Int} (h1 : 1 ≤ g) (h2 : g ≤ 8) : GO (newG g) := by
 refine ⟨h1, h2, by simp [newG], by simpa [newG] using h1, by simp [newG], by simp [newG], ?_, ?_, ?_, ?_⟩ <;> intro i hi <;> (have : i = 0 := by simp [newG] at hi; omega) <;> subst this
 ·simp [newG, prevTag, owAt]
 ·simp [newG, owAt]
 ·simp [newG, owAt]
 ·intro j hj; omega
theorem takeTag_new {g : Int} (h1 : 1 ≤ g) (h2 : g ≤ 8) : takeTagR ⟨g, 0, 0, []⟩ 0 = (newG g, 0, false, true) := by
 have hG : tagsOk ⟨g, 0, 0, []⟩ = true := by
  rw [tagsOk_iff]
  refine ⟨h1, h2, by simp, by simp; omega, by simp, by simp, ?_, ?_, ?_, ?_⟩ <;> intro i hi <;> simp at hi
 unfold takeTagR
 rw [hG, show within 0 16 = true from rfl]
 have hn : ((0 : Int) == g) = false := by simp; omega
 simp only [Bool.true_and, if_true]
 rw [show ownF ⟨g, 0, 0, []⟩ 0 = -1 from rfl]
 simp only [hn]
 rfl
def newM (n m c : Nat) (g : Int) : Mc := ⟨newT n m, newC c, newG g, 0⟩
def newMcR (n m c g : Int) : Mc × Bool :=
 if ((decide (1 ≤ n) && decide (n ≤ 16) && decide (1 ≤ m) && decide (m ≤ 16)) && (decide (1 ≤ c) && decide (c ≤ 8)) && (decide (1 ≤ g) && decide (g ≤ 8))) = true then (newM n.toNat m.toNat c.toNat g, true) else (mc0, false)
def newCR (c : Int) : Ca × Bool := if (decide (1 ≤ c) && decide (c ≤ 8)) = true then (newC c.toNat, true) else (⟨[], 0⟩, false)
theorem sNewCache_eq {c : Int} : s_NewCache fl c = some (newCR c) := by
 unfold s_NewCache newCR
 by_cases h1 : c < 1
 ·rw [decide_eq_true h1, decide_eq_false (by omega : ¬ 1 ≤ c)]; simp [obs]
 by_cases h2 : 8 < c
 ·rw [decide_eq_true h2, decide_eq_false (by omega : ¬ c ≤ 8)]; cases decide (c < 1) <;> simp [obs]
 rw [decide_eq_false h1, decide_eq_false h2, decide_eq_true (by omega : 1 ≤ c), decide_eq_true (by omega : c ≤ 8)]
 obtain ⟨a, rfl⟩ : ∃ a : Nat, c = a := ⟨c.toNat, by omega⟩
 rw [mkO_nat (by omega)]; rfl
def newGR (g : Int) : Tg × Bool := if (decide (1 ≤ g) && decide (g ≤ 8)) = true then (⟨g, 0, 0, []⟩, true) else (⟨0, 0, 0, []⟩, false)
theorem sNewTags_eq {g : Int} : s_NewTags fl g = some (newGR g) := by
 unfold s_NewTags newGR
 by_cases h1 : g < 1
 ·rw [decide_eq_true h1, decide_eq_false (by omega : ¬ 1 ≤ g)]; simp [obs]
 by_cases h2 : 8 < g
 ·rw [decide_eq_true h2, decide_eq_false (by omega : ¬ g ≤ 8)]; cases decide (g < 1) <;> simp [obs]
 rw [decide_eq_false h1, decide_eq_false h2, decide_eq_true (by omega : 1 ≤ g), decide_eq_true (by omega : g ≤ 8)]; rfl
theorem newJoin {n m c g : Int} {A : Option (Tg × Int × Bool × Bool)} (hA : (decide (1 ≤ g) && decide (g ≤ 8)) = true → A = some (newG g, 0, false, true)) :
  (Option.bind (cond (!(newTR n m).2) (some true) (some (!(newCR c).2))) fun y24 => Option.bind (cond y24 (some true) (some (!(newGR g).2))) fun y25 => cond y25 (some (mc0, false)) (Option.bind A fun x27 => some ((⟨(newTR n m).1, (newCR c).1, x27.1, 0⟩ : Mc), true))) = some (newMcR n m c g) := by
 unfold newTR newCR newGR newMcR
 cases (decide (1 ≤ n) && decide (n ≤ 16) && decide (1 ≤ m) && decide (m ≤ 16)) with
 | false => simp [obs]
 | true =>
  cases (decide (1 ≤ c) && decide (c ≤ 8)) with
  | false => simp [obs]
  | true =>
   cases hg : (decide (1 ≤ g) && decide (g ≤ 8)) with
   | false => simp [obs]
   | true => rw [hA hg]; rfl
theorem newMc_tag {g : Int} : (decide (1 ≤ g) && decide (g ≤ 8)) = true → takeTagR (newGR g).1 0 = (newG g, 0, false, true) := by
 intro h
 unfold newGR
 rw [if_pos h]
 simp only [Bool.and_eq_true, decide_eq_true_eq] at h
 exact takeTag_new h.1 h.2
theorem newGR_len {g : Int} : (newGR g).1.o.length ≤ 1048576 := by unfold newGR; split <;> simp
theorem sNewMc_eq {n m c g : Int} (hf : 1048576 < fl) : s_NewMachine fl n m c g = some (newMcR n m c g) := by
 unfold s_NewMachine
 rw [sNewTR_eq hf, sNewCache_eq, sNewTags_eq]
 simp only [obs]
 rw [sTakeTag newGR_len hf]
 exact newJoin fun h => by rw [newMc_tag h]
theorem newM_ok {n m c : Nat} {g : Int} (h1 : 1 ≤ n) (h2 : n ≤ 16) (h3 : 1 ≤ m) (h4 : m ≤ 16) (h5 : 1 ≤ c) (h6 : c ≤ 8) (h7 : 1 ≤ g) (h8 : g ≤ 8) : MO (newM n m c g) := by
 refine ⟨newT_ok h1 h2 h3 h4, newC_ok h5 h6, newG_ok h7 h8, by simp [newM, ownF, newG, fx], fun i hi => ?_, fun i hi hv => ?_⟩
 ·have hi' : i < n := by simpa [newM, newT] using hi
  simp [newM, newT, hi', frameFits, freeF]
 ·have hi' : i < c := by simpa [newM, newC] using hi
  have : lnAt (newM n m c g).c.l i = lnZ := by rw [lnAt_lt hi]; simp [newM, newC]
  rw [this] at hv
  cases hv

theorem eqLoop {α : Type} [BEq α] [LawfulBEq α] {L : Nat → Int → Option (LO Int Bool)} {l : List α}
  (step : ∀ fuel i, (h : i < l.length) → L (fuel + 1) (i : Int) = L fuel ((i + 1 : Nat) : Int)) (stop : ∀ fuel, L (fuel + 1) (l.length : Int) = some (.out (l.length : Int))) : ∀ fuel i, i ≤ l.length → l.length - i < fuel → L fuel (i : Int) = some (.out (l.length : Int)) := by
 intro fuel
 induction fuel with
 | zero => intro i _ h; omega
 | succ fuel ih =>
  intro i hi hf
  by_cases h : i < l.length
  ·rw [step fuel i h]; exact ih (i + 1) (by omega) (by omega)
  ·have e : i = l.length := by omega
   subst e; exact stop fuel
theorem eqI_self {l : List Int} (hl : l.length ≤ 1048576) (hf : 1048576 < fl) : slices_Equal_Int fl l l = some true := by
 unfold slices_Equal_Int
 have := eqLoop (L := slices_Equal_Int_L0 fl l l) (l := l)
  (fun fuel i h => by
   rw [slices_Equal_Int_L0.eq_2, decide_eq_true (by omega : (i : Int) < (l.length : Int)), cot, idx_nat h]
   simp only [obs, bne_self_eq_false, cof]
   rw [ck_succ (by omega)]; simp only [obs])
  (fun fuel => by rw [slices_Equal_Int_L0.eq_2, decide_eq_false (by omega), cof]) fl 0 (by omega) (by omega)
 rw [show ((0 : Nat) : Int) = 0 from rfl] at this
 simp only [bne_self_eq_false, cof, this, obs]
theorem eqF_self {l : List F} (hl : l.length ≤ 1048576) (hf : 1048576 < fl) : slices_Equal_Frame fl l l = some true := by
 unfold slices_Equal_Frame
 have := eqLoop (L := slices_Equal_Frame_L0 fl l l) (l := l)
  (fun fuel i h => by
   rw [slices_Equal_Frame_L0.eq_2, decide_eq_true (by omega : (i : Int) < (l.length : Int)), cot, idx_nat h]
   simp only [obs, bne_self_eq_false, cof]
   rw [ck_succ (by omega)]; simp only [obs])
  (fun fuel => by rw [slices_Equal_Frame_L0.eq_2, decide_eq_false (by omega), cof]) fl 0 (by omega) (by omega)
 rw [show ((0 : Nat) : Int) = 0 from rfl] at this
 simp only [bne_self_eq_false, cof, this, obs]
theorem eqLn_self {l : List Ln} (hl : l.length ≤ 1048576) (hf : 1048576 < fl) : slices_Equal_Line fl l l = some true := by
 unfold slices_Equal_Line
 have := eqLoop (L := slices_Equal_Line_L0 fl l l) (l := l)
  (fun fuel i h => by
   rw [slices_Equal_Line_L0.eq_2, decide_eq_true (by omega : (i : Int) < (l.length : Int)), cot, idx_nat h]
   simp only [obs, bne_self_eq_false, cof]
   rw [ck_succ (by omega)]; simp only [obs])
  (fun fuel => by rw [slices_Equal_Line_L0.eq_2, decide_eq_false (by omega), cof]) fl 0 (by omega) (by omega)
 rw [show ((0 : Nat) : Int) = 0 from rfl] at this
 simp only [bne_self_eq_false, cof, this, obs]
theorem eqOw_self {l : List Ow} (hl : l.length ≤ 1048576) (hf : 1048576 < fl) : slices_Equal_Own fl l l = some true := by
 unfold slices_Equal_Own
 have := eqLoop (L := slices_Equal_Own_L0 fl l l) (l := l)
  (fun fuel i h => by
   rw [slices_Equal_Own_L0.eq_2, decide_eq_true (by omega : (i : Int) < (l.length : Int)), cot, idx_nat h]
   simp only [obs, bne_self_eq_false, cof]
   rw [ck_succ (by omega)]; simp only [obs])
  (fun fuel => by rw [slices_Equal_Own_L0.eq_2, decide_eq_false (by omega), cof]) fl 0 (by omega) (by omega)
 rw [show ((0 : Nat) : Int) = 0 from rfl] at this
 simp only [bne_self_eq_false, cof, this, obs]
theorem sameMc {m : Mc} (h1 : m.t.b.length ≤ 1048576) (h2 : m.t.f.length ≤ 1048576) (h3 : m.c.l.length ≤ 1048576) (h4 : m.g.o.length ≤ 1048576) (hf : 1048576 < fl) : i_MachineSame fl m m = some true := by
 unfold i_MachineSame i_TableSame i_CacheSame i_TagsSame
 rw [eqI_self h1 hf, eqF_self h2 hf, eqLn_self h3 hf, eqOw_self h4 hf]
 simp only [obs, cot, beq_self_eq_true]

/-- the sizes of what is drawn -/
def SzM (m : Mc) : Prop := 1 ≤ m.t.b.length ∧ m.t.b.length ≤ 16 ∧ m.t.f.length ≤ 16 ∧ m.c.l.length ≤ 8 ∧ m.g.o.length ≤ 9
theorem SzM.n {m : Mc} (h : SzM m) : mcN m ≤ 1048576 := by obtain ⟨a, b, c, d, e⟩ := h; unfold mcN; omega
theorem page6_eq {l : List UInt8} {p : Int} (hp : 0 ≤ p) (hp2 : p ≤ 1073741824) (hl : l.length ≤ 2000) : ∃ x, s_l6Page fl l p = some (x, p + 1) := by
 unfold s_l6Page
 obtain ⟨x, _, e⟩ := num_eq (fl := fl) (L := [1, 2, 3, 4, 200, 201, 5]) hp hp2 hl (by simp)
 rw [e]
 exact ⟨_, rfl⟩
theorem wrong3g {l : List UInt8} (hl : l.length ≤ 2000) {p : Int} (hp : 0 ≤ p) (hp2 : p ≤ 1000000) {t : T} (hb : 1 ≤ t.b.length) (hN : t.b.length + t.f.length ≤ 1000) : ∃ t' p', s_l3Wrong fl l p t = some (t', p') ∧ (1 ≤ t'.b.length ∧ t'.b.length ≤ t.b.length + 1 ∧ t'.f.length ≤ t.f.length) ∧ 0 ≤ p' ∧ p' ≤ p + 10 := by
 unfold s_l3Wrong
 rw [copy_eq (by omega)]
 simp only [obs]
 by_cases h0 : t.f.length = 0
 ·rw [show ((t.f.length : Int) == 0) = true from by rw [beq_iff_eq]; omega, cot]
  exact ⟨_, _, rfl, by omega, hp, by omega⟩
 rw [show ((t.f.length : Int) == 0) = false from by rw [beq_eq_false_iff_ne]; omega, cof]
 obtain ⟨r, e1, hr, _⟩ := pick_eq (fl := fl) (n := (t.f.length : Int)) hp (by omega) hl
 rw [e1]
 simp only [obs]
 obtain ⟨q, e2, _, _⟩ := pick_eq (fl := fl) (p := p + 1) (n := 24) (by omega) (by omega) hl
 rw [e2]
 simp only [obs]
 obtain ⟨r0, r1⟩ := hr (by omega)
 obtain ⟨g, _, hg⟩ := idx_in r0 r1
 obtain ⟨b0, _, hhb⟩ := idx_in (l := t.b) (i := (0 : Int)) (Int.le_refl 0) (by omega : (0 : Int) < (t.b.length : Int))
 rw [hg, hhb]
 simp only [obs]
 cases (q == 0) with
 | true =>
  rw [cot]
  obtain ⟨y, _, e3⟩ := num_eq (fl := fl) (p := p + 1 + 1) (L := [0, r, 16, (-1)]) (by omega) (by omega) hl (by simp)
  rw [e3]
  simp only [obs]
  exact ⟨_, _, rfl, by simp; omega, by omega, by omega⟩
 | false =>
 rw [cof]
 cases (q == 1) with
 | true => rw [cot]; exact ⟨_, _, rfl, by simp; omega, by omega, by omega⟩
 | false =>
 rw [cof]
 cases (q == 2) with
 | true =>
  rw [cot]
  obtain ⟨y, _, e3⟩ := num_eq (fl := fl) (p := p + 1 + 1) (L := [0, (-1), 16, (-2)]) (by omega) (by omega) hl (by simp)
  rw [e3]
  simp only [obs]
  exact ⟨_, _, rfl, by simp; omega, by omega, by omega⟩
 | false =>
 rw [cof]
 cases (q == 3) with
 | true =>
  rw [cot]
  obtain ⟨k, e3⟩ := draw2_eq (fl := fl) (p := p + 1 + 1) (by omega) (by omega) hl
  rw [e3]
  simp only [obs]
  exact ⟨_, _, rfl, by simp; omega, by omega, by omega⟩
 | false =>
 rw [cof]
 cases (q == 4) with
 | true =>
  rw [cot, cnt_in (by simp; omega)]
  simp only [obs]
  exact ⟨_, _, rfl, by (first | (simp; done) | (simp; omega)), by omega, by omega⟩
 | false =>
 rw [cof]
 cases (q == 5) with
 | true => rw [cot]; exact ⟨_, _, rfl, by simp; omega, by omega, by omega⟩
 | false => rw [cof]; exact ⟨_, _, rfl, by omega, by omega, by omega⟩
theorem wrong4_eq {l : List UInt8} (hl : l.length ≤ 2000) {p : Int} (hp : 0 ≤ p) (hp2 : p ≤ 1000000) {c : Ca} (hN : c.l.length ≤ 1000) : ∃ c' p', s_l4Wrong fl l p c = some (c', p') ∧ c'.l.length ≤ c.l.length ∧ 0 ≤ p' ∧ p' ≤ p + 10 := by
 unfold s_l4Wrong s_l4Copy
 rw [List.nil_append, cnt_in (by omega)]
 simp only [obs]
 by_cases h0 : c.l.length = 0
 ·rw [show ((c.l.length : Int) == 0) = true from by rw [beq_iff_eq]; omega, cot]
  exact ⟨_, _, rfl, Nat.le_refl _, hp, by omega⟩
 rw [show ((c.l.length : Int) == 0) = false from by rw [beq_eq_false_iff_ne]; omega, cof]
 obtain ⟨r, e1, hr, _⟩ := pick_eq (fl := fl) (n := (c.l.length : Int)) hp (by omega) hl
 rw [e1]
 simp only [obs]
 obtain ⟨q, e2, _, _⟩ := pick_eq (fl := fl) (p := p + 1) (n := 24) (by omega) (by omega) hl
 rw [e2]
 simp only [obs]
 obtain ⟨r0, r1⟩ := hr (by omega)
 obtain ⟨g, _, hg⟩ := idx_in r0 r1
 rw [hg]
 simp only [obs]
 cases (q == 0) with
 | true =>
  rw [cot]
  obtain ⟨y, _, e3⟩ := num_eq (fl := fl) (p := p + 1 + 1) (L := [(-1), 8, 0]) (by omega) (by omega) hl (by simp)
  rw [e3]
  simp only [obs]
  exact ⟨_, _, rfl, Nat.le_refl _, by omega, by omega⟩
 | false =>
 rw [cof]
 cases (q == 1) with
 | true => rw [cot]; exact ⟨_, _, rfl, by simp, by omega, by omega⟩
 | false =>
 rw [cof]
 cases (q == 2) with
 | true =>
  rw [cot]
  obtain ⟨y, _, e3⟩ := num_eq (fl := fl) (p := p + 1 + 1) (L := [2, 256, 3]) (by omega) (by omega) hl (by simp)
  rw [e3]
  simp only [obs]
  exact ⟨_, _, rfl, by simp, by omega, by omega⟩
 | false =>
 rw [cof]
 cases (q == 3) with
 | true =>
  rw [cot]
  obtain ⟨y, _, e3⟩ := num_eq (fl := fl) (p := p + 1 + 1) (L := [8, (-2), 0, (-1)]) (by omega) (by omega) hl (by simp)
  rw [e3]
  simp only [obs]
  exact ⟨_, _, rfl, by simp, by omega, by omega⟩
 | false =>
 rw [cof]
 cases (q == 4) with
 | true => rw [cot]; exact ⟨_, _, rfl, by simp, by omega, by omega⟩
 | false => rw [cof]; exact ⟨_, _, rfl, Nat.le_refl _, by omega, by omega⟩
theorem wrong5_eq {l : List UInt8} (hl : l.length ≤ 2000) {p : Int} (hp : 0 ≤ p) (hp2 : p ≤ 1000000) {g : Tg} (hN : g.o.length ≤ 1000) : ∃ g' p', s_l5Wrong fl l p g = some (g', p') ∧ g'.o.length ≤ g.o.length + 1 ∧ 0 ≤ p' ∧ p' ≤ p + 10 := by
 unfold s_l5Wrong s_l5Copy
 rw [List.nil_append, cnt_in (by omega)]
 simp only [obs]
 obtain ⟨q, e2, _, _⟩ := pick_eq (fl := fl) (p := p) (n := 20) (by omega) (by omega) hl
 rw [e2]
 simp only [obs]
 cases (q == 0) with
 | true =>
  rw [cot]
  obtain ⟨y, _, e3⟩ := num_eq (fl := fl) (p := p + 1) (L := [(-1), 9, 0]) (by omega) (by omega) hl (by simp)
  rw [e3]
  simp only [obs]
  exact ⟨_, _, rfl, Nat.le_succ _, by omega, by omega⟩
 | false =>
 rw [cof]
 cases (q == 1) with
 | true =>
  rw [cot]
  obtain ⟨y, _, e3⟩ := num_eq (fl := fl) (p := p + 1) (L := [0, 9, 1]) (by omega) (by omega) hl (by simp)
  rw [e3]
  simp only [obs]
  exact ⟨_, _, rfl, Nat.le_succ _, by omega, by omega⟩
 | false =>
 rw [cof]
 cases (q == 2) with
 | true =>
  rw [cot]
  obtain ⟨a, e3, _, _⟩ := pick_eq (fl := fl) (p := p + 1) (n := 3) (by omega) (by omega) hl
  rw [e3]
  simp only [obs]
  obtain ⟨b, e4, _, _⟩ := pick_eq (fl := fl) (p := p + 1 + 1) (n := 3) (by omega) (by omega) hl
  rw [e4]
  simp only [obs]
  rw [cnt_in (by simp; omega)]
  simp only [obs]
  exact ⟨_, _, rfl, by simp, by omega, by omega⟩
 | false =>
 rw [cof]
 cases (q == 3) with
 | true =>
  rw [cot]
  obtain ⟨y, _, e3⟩ := num_eq (fl := fl) (p := p + 1) (L := [(-1), 1000001, 1000000]) (by omega) (by omega) hl (by simp)
  rw [e3]
  simp only [obs]
  exact ⟨_, _, rfl, Nat.le_succ _, by omega, by omega⟩
 | false => rw [cof]; exact ⟨_, _, rfl, Nat.le_succ _, by omega, by omega⟩

theorem sameN {m : Mc} (h : mcN m ≤ 1048576) (hf : 1048576 < fl) : i_MachineSame fl m m = some true := by
 unfold mcN at h
 exact sameMc (by omega) (by omega) (by omega) (by omega) hf
theorem enterR_yes {m : Mc} {sp : Int} (h : (enterR m sp).2 = true) : machineOk m = true ∧ (takeTagR m.g sp).2.2.2 = true ∧ (enterR m sp).1 = ⟨m.t, ⟨m.c.l.map (frL (takeTagR m.g sp).2.2.1), m.c.h⟩, (takeTagR m.g sp).1, sp⟩ := by
 unfold enterR at h ⊢
 split
 ·rename_i c
  simp only [Bool.and_eq_true] at c
  exact ⟨c.1, c.2, rfl⟩
 ·rename_i hn; rw [if_neg hn] at h; cases h

theorem eqBo_self {l : List Bool} (hl : l.length ≤ 1048576) (hf : 1048576 < fl) : slices_Equal_Bool fl l l = some true := by
 unfold slices_Equal_Bool
 have := eqLoop (L := slices_Equal_Bool_L0 fl l l) (l := l)
  (fun fuel i h => by
   rw [slices_Equal_Bool_L0.eq_2, decide_eq_true (by omega : (i : Int) < (l.length : Int)), cot, idx_nat h]
   simp only [obs, bne_self_eq_false, cof]
   rw [ck_succ (by omega)]; simp only [obs])
  (fun fuel => by rw [slices_Equal_Bool_L0.eq_2, decide_eq_false (by omega), cof]) fl 0 (by omega) (by omega)
 rw [show ((0 : Nat) : Int) = 0 from rfl] at this
 simp only [bne_self_eq_false, cof, this, obs]
theorem sameMm {m : Mm} (hN : mmN m ≤ 1048576) (hf : 1048576 < fl) : i_MemorySame fl m m = some true := by
 unfold mmN at hN
 unfold i_MemorySame
 rw [sameN (by omega) hf]
 simp only [obs, cot]
 rw [eqBo_self (by omega) hf]
 simp only [obs, cot, beq_self_eq_true]

theorem frL_or (b : Bool) (x : Ln) : (frL b x = x ∧ (b = true → x.tg = -1)) ∨ frL b x = lnZ := by
 unfold frL
 cases b with
 | false => left; exact ⟨rfl, fun h => by cases h⟩
 | true =>
  cases h : (x.tg == -1) with
  | true => left; exact ⟨rfl, fun _ => by simpa using h⟩
  | false => right; rfl
theorem lnAt_frL (b : Bool) (l : List Ln) (i : Nat) : lnAt (l.map (frL b)) i = frL b (lnAt l i) := by
 unfold lnAt
 rw [List.getD_eq_getElem?_getD, List.getD_eq_getElem?_getD, List.getElem?_map]
 cases l[i]? with
 | none => show lnZ = frL b lnZ; cases b <;> rfl
 | some x => rfl
theorem CO.fr {c : Ca} (h : CO c) (b : Bool) : CO ⟨c.l.map (frL b), c.h⟩ := by
 refine ⟨by simpa using h.n1, by simpa using h.n2, h.h0, by simpa using h.h1, fun i hi => ?_, fun i hi j hj => ?_, ?_⟩
 ·simp only [List.length_map] at hi
  rw [lnAt_frL]
  rcases frL_or b (lnAt c.l i) with ⟨e, _⟩ | e <;> rw [e]
  ·exact h.ok i hi
  ·rfl
 ·simp only [List.length_map] at hi
  rw [lnAt_frL, lnAt_frL]
  rcases frL_or b (lnAt c.l i) with ⟨e, _⟩ | e <;> rw [e]
  ·rcases frL_or b (lnAt c.l j) with ⟨e, _⟩ | e <;> rw [e]
   ·exact h.cl i hi j hj
   ·unfold clash; simp [lnZ]
  ·unfold clash; simp [lnZ]
 ·obtain ⟨i, hi, hw⟩ := h.un
  refine ⟨i, by simpa using hi, ?_⟩
  simp only [lnAt_frL]
  rcases frL_or b (lnAt c.l i) with ⟨e, _⟩ | e <;> rw [e]
  ·exact hw
  ·rfl
theorem fx_append {α : Type} {p : α → Bool} {a : α} : ∀ {l : List α} {i : Nat}, 0 ≤ fx p l i → fx p (l ++ [a]) i = fx p l i
 | [], i, h => by rw [fx] at h; omega
 | x :: l, i, h => by
  rw [List.cons_append, fx, fx]
  rw [fx] at h
  by_cases hx : p x = true
  ·rw [if_pos hx, if_pos hx]
  ·rw [if_neg hx] at h ⊢
   rw [if_neg hx]
   exact fx_append h
theorem fx_append_last {α : Type} {p : α → Bool} {a : α} (ha : p a = true) : ∀ {l : List α} {i : Nat}, 0 ≤ fx p (l ++ [a]) i
 | [], i => by rw [List.nil_append, fx, if_pos ha]; omega
 | x :: l, i => by
  rw [List.cons_append, fx]
  by_cases hx : p x = true
  ·rw [if_pos hx]; omega
  ·rw [if_neg hx]; exact fx_append_last ha
theorem owAt_append {l : List Ow} {a : Ow} {i : Nat} (h : i < l.length) : owAt (l ++ [a]) i = owAt l i := by
 unfold owAt
 rw [List.getD_eq_getElem?_getD, List.getD_eq_getElem?_getD, List.getElem?_append_left h]
theorem owAt_last {l : List Ow} {a : Ow} : owAt (l ++ [a]) l.length = a := by
 unfold owAt; simp
/-- what TakeTag yields -/
theorem takeTag_ok {t : Tg} {sp : Int} (h : (takeTagR t sp).2.2.2 = true) : GO t ∧ within sp 16 = true ∧ GO (takeTagR t sp).1 ∧ 0 ≤ ownF (takeTagR t sp).1 sp ∧ ((takeTagR t sp).2.2.1 = false → (takeTagR t sp).1.r = t.r ∧ ∀ tg, 0 ≤ spF t tg → spF (takeTagR t sp).1 tg = spF t tg ∧ owAt (takeTagR t sp).1.o (spF t tg).toNat = owAt t.o (spF t tg).toNat) ∧ ((takeTagR t sp).2.2.1 = true → (takeTagR t sp).1.r ≠ t.r) := by
 unfold takeTagR at h ⊢
 split
 ·rename_i c1
  rw [if_pos c1] at h
  simp only [Bool.and_eq_true] at c1
  have hG := tagsOk_iff.1 c1.1
  have hw := within_iff.1 c1.2
  have g1 := hG.n1
  have g2 := hG.n2
  have g3 := hG.r2
  have g4 := hG.r1
  have g5 := hG.c1
  refine ⟨hG, c1.2, ?_⟩
  split
  ·rename_i c2
   exact ⟨hG, c2, fun _ => ⟨rfl, fun _ _ => ⟨rfl, rfl⟩⟩, fun h => by cases h⟩
  ·rename_i c2
   rw [if_neg c2] at h
   split
   ·rename_i c3
    rw [if_pos c3] at h
    split
    ·rename_i c4; rw [if_pos c4] at h; cases h
    ·rename_i c4
     have c4' : t.r ≠ 1000000 := by simpa using c4
     refine ⟨⟨g5, hG.c2, (by show (0 : Int) ≤ 1; decide), by simp only []; omega, by simp only []; omega, by simp only []; omega, fun i hi => ?_, fun i hi => ?_, fun i hi => ?_, fun i hi j hj => ?_⟩, ?_, fun h => (by cases h), fun _ => by simp only []; omega⟩
     ·obtain rfl : i = 0 := by simpa using hi
      show (-1 : Int) < 0
      decide
     ·obtain rfl : i = 0 := by simpa using hi
      show (0 : Int) < 1
      decide
     ·obtain rfl : i = 0 := by simpa using hi
      exact hw
     ·simp at hi; omega
     ·show 0 ≤ fx (fun o : Ow => o.sp == sp) [⟨sp, 0⟩] 0
      rw [fx, if_pos (by simp)]
      omega
   ·rename_i c3
    have c3' : t.n ≠ t.c := by simpa using c3
    have hno := fx_none (p := fun o : Ow => o.sp == sp) (l := t.o) (by unfold ownF at c2; omega)
    have ho : ∀ i, i < (t.o ++ [(⟨sp, t.n⟩ : Ow)]).length → i < t.o.length ∨ i = t.o.length := fun i hi => by
     rw [List.length_append, List.length_singleton] at hi; omega
    refine ⟨⟨g5, hG.c2, by simp only []; omega, by simp only []; omega, g4, g3, fun i hi => ?_, fun i hi => ?_, fun i hi => ?_, fun i hi j hj => ?_⟩, fx_append_last (by simp), fun _ => ⟨rfl, fun tg htg => ⟨fx_append htg, ?_⟩⟩, fun h => (by cases h)⟩
    ·simp only [] at hi ⊢
     rcases ho i hi with e | e
     ·rw [owAt_append e]
      have := hG.pt i e
      cases i with
      | zero => exact this
      | succ i => simp only [prevTag] at this ⊢; rw [owAt_append (by omega)]; exact this
     ·subst e
      rw [owAt_last]
      cases hlen : t.o.length with
      | zero => simp only [prevTag]; omega
      | succ k =>
       simp only [prevTag]
       rw [owAt_append (by omega)]
       exact hG.tn k (by omega)
    ·simp only [] at hi ⊢
     rcases ho i hi with e | e
     ·rw [owAt_append e]; have := hG.tn i e; omega
     ·subst e; rw [owAt_last]; simp only []; omega
    ·simp only [] at hi ⊢
     rcases ho i hi with e | e
     ·rw [owAt_append e]; exact hG.s1 i e
     ·subst e; rw [owAt_last]; exact hw
    ·simp only [] at hi ⊢
     rcases ho i hi with e | e
     ·rw [owAt_append e, owAt_append (by omega)]; exact hG.sd i e j hj
     ·subst e
      rw [owAt_last, owAt_append hj, owAt_lt hj]
      have := hno _ (List.getElem_mem hj)
      simpa using this
    ·have hb := (fx_bd (p := fun o : Ow => o.tg == tg) (l := t.o)).2
     unfold spF at htg ⊢
     exact owAt_append (by omega)
 ·rename_i c1; rw [if_neg c1] at h; cases h
theorem enter_ok {m : Mc} {sp : Int} (h : (enterR m sp).2 = true) : MO (enterR m sp).1 ∧ enterR (enterR m sp).1 sp = ((enterR m sp).1, true) := by
 obtain ⟨h1, h2, h3⟩ := enterR_yes h
 have hM := machineOk_iff.1 h1
 obtain ⟨k1, k2, k3, k4, k5, k6⟩ := takeTag_ok h2
 have hM' : MO (enterR m sp).1 := by
  rw [h3]
  refine ⟨hM.t, hM.c.fr _, k3, k4, hM.f, fun i hi hv => ?_⟩
  simp only [List.length_map] at hi
  simp only [lnAt_frL] at hv ⊢
  rcases frL_or (takeTagR m.g sp).2.2.1 (lnAt m.c.l i) with ⟨e, e2⟩ | e
  ·rw [e] at hv ⊢
   have hl := hM.l i hi hv
   rw [lineHas_eq] at hl ⊢
   cases hb : (takeTagR m.g sp).2.2.1 with
   | true =>
    have et := e2 hb
    simp only [lineSpace, et, beq_self_eq_true, Bool.true_or, Bool.or_true, keyHas] at hl ⊢
    exact hl
   | false =>
    cases ht : ((lnAt m.c.l i).tg == -1) with
    | true =>
     simp only [lineSpace, ht, Bool.true_or, Bool.or_true, keyHas] at hl ⊢
     exact hl
    | false =>
     simp only [ht, Bool.false_or, Bool.or_false, Bool.and_eq_true, decide_eq_true_eq] at hl
     obtain ⟨a, b⟩ := (k5 hb).2 _ hl.1.2
     simp only [lineSpace, ht, keyHas, a, b, Bool.false_or, Bool.or_false, Bool.and_eq_true, decide_eq_true_eq] at hl ⊢
     exact hl
  ·rw [e] at hv; cases hv
 refine ⟨hM', ?_⟩
 have hs : (enterR m sp).1.s = sp := by rw [h3]
 have hg : (enterR m sp).1.g = (takeTagR m.g sp).1 := by rw [h3]
 generalize (enterR m sp).1 = x at hM' hs hg
 have ht : takeTagR x.g sp = (x.g, (owAt x.g.o (ownF x.g sp).toNat).tg, false, true) := by
  unfold takeTagR
  rw [if_pos (by rw [tagsOk_iff.2 hM'.g, k2]; rfl), if_pos (by rw [hg]; exact k4)]
 unfold enterR
 rw [if_pos (by rw [machineOk_iff.2 hM', ht]; rfl), ht]
 simp only [frL_false]
 cases x with
 | mk t c g s => simp only [] at hs; subst hs; rfl

theorem mapR_canM {t : T} {k : K} {fr r : Int} (h : (mapR t k fr r).2 = true) : ∃ i : Nat, fr = i ∧ CanMap t k i r ∧ mapR t k fr r = (mapT t k i r, true) := by
 cases hc : (tableOk t && keyOk k && decide (findF t.f k < 0) && within fr t.f.length && !(t.f.getD fr.toNat freeF).u && rightsOk r) with
 | false => rw [mapR_no hc] at h; cases h
 | true =>
  have e := mapR_yes hc
  simp only [Bool.and_eq_true, decide_eq_true_eq, Bool.not_eq_true'] at hc
  obtain ⟨⟨⟨⟨⟨c1, c2⟩, c3⟩, c4⟩, c5⟩, c6⟩ := hc
  rw [within_iff] at c4
  obtain ⟨i, rfl⟩ : ∃ i : Nat, fr = i := ⟨fr.toNat, by omega⟩
  have hi : i < t.f.length := by omega
  simp only [Int.toNat_natCast] at c5 e
  exact ⟨i, rfl, ⟨tableOk_iff.1 c1, c2, c6, hi, by simpa [hi] using c5, c3⟩, e⟩
theorem putR_yes {m : Mc} {k : K} {fr r : Int} (h : (putR m k fr r).2 = true) : machineOk m = true ∧ k = keyFor k.s k.p ∧ ∃ i : Nat, fr = i ∧ CanMap m.t k i r ∧ putR m k fr r = (⟨mapT m.t k i r, m.c, m.g, m.s⟩, true) := by
 unfold putR at h ⊢
 split
 ·rename_i c
  simp only [Bool.and_eq_true, beq_iff_eq] at c
  obtain ⟨i, e1, e2, e3⟩ := mapR_canM c.2
  exact ⟨c.1.1, c.1.2, i, e1, e2, by rw [e3]⟩
 ·rename_i hn; rw [if_neg hn] at h; cases h
/-- other keys stay where they are -/
theorem CanMap.other {t : T} {k k' : K} {i : Nat} {r : Int} (c : CanMap t k i r) (h : 0 ≤ findF t.f k') : findF (mapT t k i r).f k' = findF t.f k' ∧ ((mapT t k i r).f.getD (findF t.f k').toNat freeF) = t.f.getD (findF t.f k').toNat freeF := by
 obtain ⟨j, hj⟩ : ∃ j : Nat, findF t.f k' = j := ⟨(findF t.f k').toNat, by omega⟩
 obtain ⟨hb, hu, hk⟩ := found_key hj
 have hne : ¬ i = j := fun e => by subst e; rw [c.hu] at hu; cases hu
 have hl : j < (mapT t k i r).f.length := by simpa [mapT] using hb
 have e1 : (mapT t k i r).f[j] = t.f[j] := by simp only [mapT, List.getElem_set]; rw [if_neg hne]
 rw [hj]
 refine ⟨find_at c.tok.ks hl (by rw [e1]; exact hu) (by rw [e1]; exact hk), ?_⟩
 simp only [Int.toNat_natCast]
 rw [List.getD_eq_getElem?_getD, List.getD_eq_getElem?_getD, List.getElem?_eq_getElem hl, List.getElem?_eq_getElem hb, e1]
theorem put_ok {m : Mc} {k : K} {i : Nat} {r : Int} (hM : MO m) (hk : k = keyFor k.s k.p) (c : CanMap m.t k i r) : MO ⟨mapT m.t k i r, m.c, m.g, m.s⟩ := by
 refine ⟨c.tok, hM.c, hM.g, hM.s, fun j hj => ?_, fun j hj hv => ?_⟩
 ·simp only [mapT, List.length_set] at hj ⊢
  rw [List.getD_eq_getElem?_getD, List.getElem?_set]
  by_cases e : i = j
  ·rw [if_pos e, if_pos c.hf]
   simp only [Option.getD_some, frameFits, Bool.true_and]
   by_cases h : 128 ≤ k.p
   ·have : k.s = 0 := by rw [hk]; unfold keyFor; rw [decide_eq_true h]; rfl
    simp [this]
   ·simp [h]
  ·rw [if_neg e, ← List.getD_eq_getElem?_getD]
   exact hM.f j hj
 ·have hl := hM.l j hj hv
  rw [lineHas_eq] at hl ⊢
  simp only [Bool.and_eq_true, keyHas, decide_eq_true_eq] at hl
  obtain ⟨a, b⟩ := c.other hl.2.1.1
  have e : lineSpace ⟨mapT m.t k i r, m.c, m.g, m.s⟩ (lnAt m.c.l j) = lineSpace m (lnAt m.c.l j) := rfl
  rw [e]
  simp only [Bool.and_eq_true, keyHas, decide_eq_true_eq]
  rw [a, b]
  exact hl
theorem GO.mono {t : Tg} (h : GO t) : ∀ j i, j < t.o.length → i < j → (owAt t.o i).tg < (owAt t.o j).tg := by
 intro j
 induction j with
 | zero => intro i _ h; omega
 | succ j ih =>
  intro i hj hi
  have h1 := h.pt (j + 1) hj
  simp only [prevTag] at h1
  by_cases e : i = j
  ·subst e; exact h1
  ·have := ih i (by omega) (by omega); omega
/-- the space of a tag that a space owns -/
theorem GO.space {t : Tg} (h : GO t) {sp : Int} (h0 : 0 ≤ ownF t sp) : (owAt t.o (spF t (owAt t.o (ownF t sp).toNat).tg).toNat).sp = sp := by
 obtain ⟨j, hj, e, hp⟩ := fx_at (p := fun o : Ow => o.sp == sp) h0
 have e' : ownF t sp = (j : Int) := e
 rw [e', Int.toNat_natCast]
 have hsp : (owAt t.o j).sp = sp := by rw [owAt_lt hj]; simpa using hp
 have h1 : 0 ≤ spF t (owAt t.o j).tg := by
  rcases fx_spec (p := fun o : Ow => o.tg == (owAt t.o j).tg) (l := t.o) (i := 0) with ⟨_, hn⟩ | ⟨i, hi, e2, _⟩
  ·have := hn _ (List.getElem_mem hj)
   rw [owAt_lt hj] at this
   simp at this
  ·unfold spF; rw [e2]; omega
 obtain ⟨i, hi, e2, hp2⟩ := fx_at (p := fun o : Ow => o.tg == (owAt t.o j).tg) h1
 have e2' : spF t (owAt t.o j).tg = (i : Int) := e2
 rw [e2', Int.toNat_natCast]
 have ht : (owAt t.o i).tg = (owAt t.o j).tg := by rw [owAt_lt hi]; simpa using hp2
 have : i = j := by
  rcases Nat.lt_trichotomy i j with c | c | c
  ·have := h.mono j i hj c; omega
  ·exact c
  ·have := h.mono i j hi c; omega
 subst this
 exact hsp
/-- no line of a valid machine speaks of a page that is not in the table -/
theorem no_line {m : Mc} (hM : MO m) {k : K} (hk : k = keyFor k.s k.p) (hn : findF m.t.f k < 0) : ¬ ((tagR m k.s k.p).2 = true ∧ 0 ≤ fx (fits (tagR m k.s k.p).1 k.p) m.c.l 0) := by
 rintro ⟨h1, h2⟩
 obtain ⟨j, hj, _, hp⟩ := fx_at h2
 unfold fits at hp
 simp only [Bool.and_eq_true, beq_iff_eq, Bool.or_eq_true] at hp
 obtain ⟨⟨hv, hpg⟩, htg⟩ := hp
 have hl := hM.l j hj (by rw [lnAt_lt hj]; exact hv)
 rw [lnAt_lt hj, lineHas_eq] at hl
 simp only [Bool.and_eq_true, keyHas, decide_eq_true_eq, beq_iff_eq] at hl
 have key : keyFor (lineSpace m m.c.l[j]) (m.c.l[j]).pg = k := by
  rw [hpg]
  unfold tagR at h1 htg
  by_cases h128 : 128 ≤ k.p
  ·have e : keyFor (lineSpace m m.c.l[j]) k.p = keyFor k.s k.p := by unfold keyFor; rw [decide_eq_true h128]; rfl
   exact e.trans hk.symm
  ·rw [if_neg h128] at h1 htg
   by_cases ho : 0 ≤ ownF m.g k.s
   ·rw [if_pos ho] at htg
    have h5 : ((m.c.l[j]).tg == -1) = false := by
     rw [← hl.1.1.1, hpg]; exact decide_eq_false h128
    have h6 : (m.c.l[j]).tg = (owAt m.g.o (ownF m.g k.s).toNat).tg := by
     rcases htg with e | e
     ·exact e
     ·rw [e] at h5; simp at h5
    unfold lineSpace
    rw [h5, cof, h6, hM.g.space ho]
    exact hk.symm
   ·rw [if_neg ho] at h1; cases h1
 rw [key] at hl
 have := hl.2.1.1
 omega

/-- a valid line that fits a space and a page says where the page's key lies -/
theorem fits_key {m : Mc} (hM : MO m) {sp pg : Int} (h1 : (tagR m sp pg).2 = true) {j : Nat} (hj : j < m.c.l.length) (hp : fits (tagR m sp pg).1 pg m.c.l[j] = true) :
  0 ≤ findF m.t.f (keyFor sp pg) ∧ findF m.t.f (keyFor sp pg) = (m.c.l[j]).fr ∧ (m.t.f.getD (findF m.t.f (keyFor sp pg)).toNat freeF).r = (m.c.l[j]).ri := by
 unfold fits at hp
 simp only [Bool.and_eq_true, beq_iff_eq, Bool.or_eq_true] at hp
 obtain ⟨⟨hv, hpg⟩, htg⟩ := hp
 have hl := hM.l j hj (by rw [lnAt_lt hj]; exact hv)
 rw [lnAt_lt hj, lineHas_eq] at hl
 simp only [Bool.and_eq_true, keyHas, decide_eq_true_eq, beq_iff_eq] at hl
 have key : keyFor (lineSpace m m.c.l[j]) (m.c.l[j]).pg = keyFor sp pg := by
  rw [hpg]
  unfold tagR at h1 htg
  by_cases h128 : 128 ≤ pg
  ·unfold keyFor; rw [decide_eq_true h128]; rfl
  ·rw [if_neg h128] at h1 htg
   by_cases ho : 0 ≤ ownF m.g sp
   ·rw [if_pos ho] at htg
    have h5 : ((m.c.l[j]).tg == -1) = false := by
     rw [← hl.1.1.1, hpg]; exact decide_eq_false h128
    have h6 : (m.c.l[j]).tg = (owAt m.g.o (ownF m.g sp).toNat).tg := by
     rcases htg with e | e
     ·exact e
     ·rw [e] at h5; simp at h5
    unfold lineSpace
    rw [h5, cof, h6, hM.g.space ho]
   ·rw [if_neg ho] at h1; cases h1
 rw [key] at hl
 exact ⟨hl.2.1.1, hl.2.1.2, hl.2.2⟩
theorem tagR_own {m : Mc} (hM : MO m) (pg : Int) : (tagR m m.s pg).2 = true := by
 unfold tagR
 split
 ·rfl
 ·rw [if_pos hM.s]
def lineFor (m : Mc) (pg : Int) : Ln := ⟨true, (tagR m m.s pg).1, pg, findF m.t.f (keyFor m.s pg), (m.t.f.getD (findF m.t.f (keyFor m.s pg)).toNat freeF).r, false⟩
theorem touch_cases {m : Mc} {pg nd : Int} (h : (touchR m pg nd).2.2.2 = true) : MO m ∧ within pg 256 = true ∧ rightsOk nd = true ∧
  ((0 ≤ fx (fits (tagR m m.s pg).1 pg) m.c.l 0 ∧ 0 ≤ findF m.t.f (keyFor m.s pg) ∧ touchR m pg nd = (m, findF m.t.f (keyFor m.s pg), cond (allowsR (m.t.f.getD (findF m.t.f (keyFor m.s pg)).toNat freeF).r nd) 1 4, true)) ∨
   (fx (fits (tagR m m.s pg).1 pg) m.c.l 0 < 0 ∧ findF m.t.f (keyFor m.s pg) < 0 ∧ touchR m pg nd = (m, 0, 3, true)) ∨
   (fx (fits (tagR m m.s pg).1 pg) m.c.l 0 < 0 ∧ 0 ≤ findF m.t.f (keyFor m.s pg) ∧ touchR m pg nd = (⟨m.t, fillC m.c (lineFor m pg), m.g, m.s⟩, findF m.t.f (keyFor m.s pg), cond (allowsR (m.t.f.getD (findF m.t.f (keyFor m.s pg)).toNat freeF).r nd) 2 4, true))) := by
 unfold touchR at h ⊢
 split
 ·rename_i c
  simp only [Bool.and_eq_true] at c
  have hM := machineOk_iff.1 c.1.1
  refine ⟨hM, c.1.2, c.2, ?_⟩
  by_cases h1 : 0 ≤ fx (fits (tagR m m.s pg).1 pg) m.c.l 0
  ·left
   obtain ⟨j, hj, e, hp⟩ := fx_at h1
   obtain ⟨a, b, d⟩ := fits_key hM (tagR_own hM pg) hj hp
   refine ⟨h1, a, ?_⟩
   rw [if_pos h1, e, Int.toNat_natCast, lnAt_lt hj, ← b, ← d]
  ·right
   rw [if_neg h1]
   by_cases h2 : findF m.t.f (keyFor m.s pg) < 0
   ·left; rw [if_pos h2]; exact ⟨by omega, h2, rfl⟩
   ·right; rw [if_neg h2]; exact ⟨by omega, by omega, rfl⟩
 ·rename_i hn; rw [if_neg hn] at h; cases h
theorem lineFor_has {m : Mc} (hM : MO m) {pg : Int} (hF : 0 ≤ findF m.t.f (keyFor m.s pg)) (c : Ca) : lineHas ⟨m.t, c, m.g, m.s⟩ (lineFor m pg) = true ∧ lineOk (lineFor m pg) = within pg 256 ∧ ((lineFor m pg).tg = -1 → 128 ≤ pg) := by
 obtain ⟨j, hj⟩ : ∃ j : Nat, findF m.t.f (keyFor m.s pg) = j := ⟨(findF m.t.f (keyFor m.s pg)).toNat, by omega⟩
 obtain ⟨hb, hu, hk⟩ := found_key hj
 have hfr := hM.t.fr _ (List.getElem_mem hb)
 have hr : rightsOk m.t.f[j].r = true := by
  unfold frameOk at hfr
  rw [hu] at hfr
  simp only [if_true, Bool.and_eq_true] at hfr
  exact hfr.2
 have hw : within (j : Int) 16 = true := within_iff.2 ⟨by omega, by have := hM.t.f2; omega⟩
 have gD : m.t.f.getD j freeF = m.t.f[j] := by simp [hb]
 by_cases h128 : 128 ≤ pg
 ·have et : tagR m m.s pg = (-1, true) := by unfold tagR; rw [if_pos h128]
  have ek : keyFor 0 pg = keyFor m.s pg := by unfold keyFor; rw [decide_eq_true h128]; rfl
  refine ⟨?_, ?_, fun _ => h128⟩
  ·rw [lineHas_eq]
   simp only [lineFor, et, lineSpace, beq_self_eq_true, cot, keyHas, ek, decide_eq_true h128, decide_eq_true hF, Bool.true_or, Bool.or_true, Bool.and_self]
  ·simp only [lineOk, lineFor, et, cot, hj, Int.toNat_natCast, gD, hr, hw, Bool.and_true]
   rfl
 ·have ho := hM.s
  obtain ⟨i, hi, e, hp⟩ := fx_at (p := fun o : Ow => o.sp == m.s) ho
  have e' : ownF m.g m.s = (i : Int) := e
  have h0 : 0 ≤ (owAt m.g.o i).tg := by have := hM.g.ge i hi; omega
  have h8 : (owAt m.g.o i).tg < 8 := by have := hM.g.tn i hi; have := hM.g.n2; have := hM.g.c2; omega
  have et : tagR m m.s pg = ((owAt m.g.o i).tg, true) := by unfold tagR; rw [if_neg h128, if_pos ho, e', Int.toNat_natCast]
  have hn1 : ((owAt m.g.o i).tg == -1) = false := by rw [beq_eq_false_iff_ne]; omega
  have hsp := hM.g.space ho
  rw [e', Int.toNat_natCast] at hsp
  have hs0 : 0 ≤ spF m.g (owAt m.g.o i).tg := by
   rcases fx_spec (p := fun o : Ow => o.tg == (owAt m.g.o i).tg) (l := m.g.o) (i := 0) with ⟨_, hn⟩ | ⟨q, hq, e2, _⟩
   ·have := hn _ (List.getElem_mem hi)
    rw [owAt_lt hi] at this
    simp at this
   ·unfold spF; rw [e2]; omega
  refine ⟨?_, ?_, fun h => ?_⟩
  ·rw [lineHas_eq]
   simp only [lineFor, et, lineSpace, hn1, cof, keyHas, hsp, decide_eq_false h128, decide_eq_true hF, decide_eq_true hs0, beq_self_eq_true, Bool.not_false, Bool.true_or, Bool.or_true, Bool.and_self]
  ·simp only [lineOk, lineFor, et, cot, hj, Int.toNat_natCast, gD, hr, hw, Bool.and_true, tagIn]
   rw [decide_eq_true (by omega : -1 ≤ (owAt m.g.o i).tg), decide_eq_true h8]
   rfl
  ·simp only [lineFor, et] at h
   omega
theorem fill_MO {m : Mc} (hM : MO m) {pg : Int} (hp : within pg 256 = true) (hn : fx (fits (tagR m m.s pg).1 pg) m.c.l 0 < 0) (hF : 0 ≤ findF m.t.f (keyFor m.s pg)) : MO ⟨m.t, fillC m.c (lineFor m pg), m.g, m.s⟩ := by
 obtain ⟨a, b, d⟩ := lineFor_has hM hF (fillC m.c (lineFor m pg))
 have hC : CO (fillC m.c (lineFor m pg)) := fill_ok hM.c (by rw [b]; exact hp) rfl hn (fun i hi hv hpg ht => by
  have h128 := d ht
  have hl := hM.l i hi hv
  rw [lineHas_eq] at hl
  simp only [Bool.and_eq_true, beq_iff_eq] at hl
  have h5 := hl.1.1.1
  rw [hpg] at h5
  have : (lineFor m pg).pg = pg := rfl
  rw [this, decide_eq_true h128] at h5
  simpa using h5.symm)
 refine ⟨hM.t, hC, hM.g, hM.s, hM.f, fun i hi hv => ?_⟩
 simp only [fillC, List.length_set] at hi hv ⊢
 rw [lnAt_set hi] at hv ⊢
 by_cases e : vict m.c = i
 ·rw [if_pos e]; exact a
 ·rw [if_neg e] at hv ⊢
  exact hM.l i hi hv
theorem touch_MO {m : Mc} {pg nd : Int} (h : (touchR m pg nd).2.2.2 = true) : MO (touchR m pg nd).1 := by
 obtain ⟨hM, h1, h2, ⟨_, _, e⟩ | ⟨_, _, e⟩ | ⟨a, b, e⟩⟩ := touch_cases h
 ·rw [e]; exact hM
 ·rw [e]; exact hM
 ·rw [e]; exact fill_MO hM h1 a b

/-- a valid line that speaks of a key fits it -/
theorem has_fits {m : Mc} (hM : MO m) {j : Nat} (hj : j < m.c.l.length) (hv : (m.c.l[j]).va = true) {k : K} (hk : keyFor (lineSpace m m.c.l[j]) (m.c.l[j]).pg = k) : (tagR m k.s k.p).2 = true ∧ fits (tagR m k.s k.p).1 k.p m.c.l[j] = true := by
 have hl := hM.l j hj (by rw [lnAt_lt hj]; exact hv)
 rw [lnAt_lt hj, lineHas_eq] at hl
 simp only [Bool.and_eq_true, keyHas, decide_eq_true_eq, beq_iff_eq] at hl
 have hp : (m.c.l[j]).pg = k.p := by
  rw [← hk]; unfold keyFor; cases decide (128 ≤ (m.c.l[j]).pg) <;> rfl
 unfold tagR fits
 rw [hv, hp]
 simp only [beq_self_eq_true, Bool.true_and]
 have h5 := hl.1.1.1
 rw [hp] at h5
 by_cases h128 : 128 ≤ k.p
 ·rw [if_pos h128]
  rw [decide_eq_true h128] at h5
  exact ⟨rfl, by rw [← h5]; simp⟩
 ·rw [if_neg h128]
  rw [decide_eq_false h128] at h5
  have hs : lineSpace m m.c.l[j] = k.s := by
   rw [← hk]; unfold keyFor; rw [hp, decide_eq_false h128]; rfl
  unfold lineSpace at hs
  rw [← h5, cof] at hs
  have h6 := hl.1.2
  rw [← h5, Bool.false_or, decide_eq_true_eq] at h6
  obtain ⟨i, hi, e, hq⟩ := fx_at (p := fun o : Ow => o.tg == (m.c.l[j]).tg) h6
  have e' : spF m.g (m.c.l[j]).tg = (i : Int) := e
  rw [e', Int.toNat_natCast, owAt_lt hi] at hs
  have hq' : (m.g.o[i]).tg = (m.c.l[j]).tg := by simpa using hq
  have ho : 0 ≤ ownF m.g k.s := by
   rcases fx_spec (p := fun o : Ow => o.sp == k.s) (l := m.g.o) (i := 0) with ⟨_, hn⟩ | ⟨q, hq, e2, _⟩
   ·have := hn _ (List.getElem_mem hi)
    rw [hs] at this
    simp at this
   ·unfold ownF; rw [e2]; omega
  rw [if_pos ho]
  obtain ⟨q, hq1, e2, hq2⟩ := fx_at (p := fun o : Ow => o.sp == k.s) ho
  have e2' : ownF m.g k.s = (q : Int) := e2
  have hsq : (m.g.o[q]).sp = k.s := by simpa using hq2
  have : q = i := by
   rcases Nat.lt_trichotomy q i with c | c | c
   ·have := hM.g.sd i hi q c
    rw [owAt_lt hi, owAt_lt hq1, hs, hsq] at this
    exact absurd rfl this
   ·exact c
   ·have := hM.g.sd q hq1 i c
    rw [owAt_lt hi, owAt_lt hq1, hs, hsq] at this
    exact absurd rfl this
  subst this
  rw [e2', Int.toNat_natCast, owAt_lt hq1, hq']
  exact ⟨rfl, by simp⟩
/-- once the key's line is dropped, no valid line speaks of it -/
theorem drop_none {m : Mc} (hM : MO m) {k : K} {j : Nat} (hj : j < (dropC m k).l.length) (hv : (lnAt (dropC m k).l j).va = true) : lnAt (dropC m k).l j = lnAt m.c.l j ∧ keyFor (lineSpace m (lnAt m.c.l j)) (lnAt m.c.l j).pg ≠ k := by
 rw [dropC_len] at hj
 unfold dropC at hv ⊢
 split
 ·rename_i c
  rw [if_pos c] at hv
  obtain ⟨q, hq, e, hp⟩ := fx_at c.2
  rw [e, Int.toNat_natCast] at hv ⊢
  simp only [] at hv ⊢
  rw [lnAt_set hj] at hv ⊢
  by_cases eq : q = j
  ·rw [if_pos eq] at hv; cases hv
  ·rw [if_neg eq] at hv ⊢
   refine ⟨rfl, fun hk => ?_⟩
   rw [lnAt_lt hj] at hv hk
   obtain ⟨_, hf⟩ := has_fits hM hj hv hk
   have hcl : ∀ a b, a < m.c.l.length → (hb : b < a) → clash (lnAt m.c.l a) (lnAt m.c.l b) = false := fun a b ha hb => hM.c.cl a ha b hb
   have hno : clash m.c.l[j] m.c.l[q] = false := by
    rcases Nat.lt_or_gt_of_ne eq with c | c
    ·have := hcl j q hj c
     rwa [lnAt_lt hj, lnAt_lt hq] at this
    ·have := hcl q j hq c
     rw [lnAt_lt hj, lnAt_lt hq] at this
     rw [clash_symm]; exact this
   unfold fits at hf hp
   simp only [Bool.and_eq_true, Bool.or_eq_true, beq_iff_eq] at hf hp
   unfold clash at hno
   rw [hf.1.1, hp.1.1, hf.1.2, hp.1.2] at hno
   simp only [Bool.true_and, beq_self_eq_true] at hno
   rcases hf.2 with a | a <;> rcases hp.2 with b | b <;> rw [a, b] at hno <;> simp at hno
 ·rename_i c
  rw [if_neg c] at hv
  refine ⟨rfl, fun hk => ?_⟩
  rw [lnAt_lt hj] at hv hk
  obtain ⟨h1, hf⟩ := has_fits hM hj hv hk
  apply c
  refine ⟨h1, ?_⟩
  rcases fx_spec (p := fits (tagR m k.s k.p).1 k.p) (l := m.c.l) (i := 0) with ⟨_, hn⟩ | ⟨q, hq, e2, _⟩
  ·have := hn _ (List.getElem_mem hj)
   rw [hf] at this; cases this
  ·rw [e2]; omega
theorem drop_CO {m : Mc} (hM : MO m) {k : K} : CO (dropC m k) := by
 unfold dropC
 split
 ·rename_i c
  obtain ⟨q, hq, e, hp⟩ := fx_at c.2
  rw [e, Int.toNat_natCast]
  have h := hM.c
  refine ⟨by simpa using h.n1, by simpa using h.n2, h.h0, by simpa using h.h1, fun i hi => ?_, fun i hi j hj => ?_, ?_⟩
  ·simp only [List.length_set] at hi ⊢
   rw [lnAt_set hi]
   split
   ·rfl
   ·exact h.ok i hi
  ·simp only [List.length_set] at hi ⊢
   rw [lnAt_set hi, lnAt_set (by omega)]
   split
   ·unfold clash; simp [lnZ]
   ·split
    ·unfold clash; simp [lnZ]
    ·exact h.cl i hi j hj
  ·refine ⟨q, by simpa using hq, ?_⟩
   simp only []
   rw [lnAt_set hq, if_pos rfl]
   rfl
 ·exact hM.c



theorem usedKeys_congr {l l' : List F} (h : l.map (fun g => (g.u, g.k)) = l'.map (fun g => (g.u, g.k))) : usedKeys l = usedKeys l' := by
 have e : ∀ l : List F, usedKeys l = ((l.map (fun g => (g.u, g.k))).filter (·.1)).map (·.2) := fun l => by
  unfold usedKeys
  rw [List.filter_map, List.map_map]
  rfl
 rw [e, e, h]
/-- where a link goes once frame i is gone -/
def red (f : List F) (i : Nat) (s : Int) : Int := if s = (i : Int) then (f.getD i freeF).nx else s
def unF (f : List F) (i : Nat) : List F := (unl f i (f.getD i freeF).nx).set i freeF
theorem unF_len (f : List F) (i : Nat) : (unF f i).length = f.length := by simp [unF, unl_len]
theorem unF_at {f : List F} {i j : Nat} (hj : j < f.length) (hne : j ≠ i) : (unF f i)[j]'(by rw [unF_len]; exact hj) = unlF i (f.getD i freeF).nx f[j] := by
 simp only [unF, unl, List.getElem_set, List.getElem_map]
 rw [if_neg (fun e => hne e.symm)]
theorem unlF_u (i nx : Int) (g : F) : (unlF i nx g).u = g.u ∧ (unlF i nx g).k = g.k ∧ (unlF i nx g).r = g.r := by
 unfold unlF; split <;> exact ⟨rfl, rfl, rfl⟩
theorem walk_rm {f : List F} {i : Nat} (hi : i < f.length) (hs : f[i].nx ≠ (i : Int)) {nb b : Int} : ∀ {m : Nat} {s : Int} {L : List Nat}, walk f nb b m s = some L → walk (unF f i) nb b m (red f i s) = some (L.filter fun x => decide (x ≠ i))
 | m, s, L, h => by
  have gD : f.getD i freeF = f[i] := by simp [hi]
  by_cases h1 : s = -1
  ·subst h1
   rw [walk_end] at h
   simp only [Option.some.injEq] at h
   subst h
   unfold red
   rw [if_neg (by omega), walk_end]
   rfl
  cases m with
  | zero => simp only [walk] at h; rw [if_neg h1] at h; cases h
  | succ m =>
   by_cases hx : ∃ j : Nat, s = j ∧ ∃ hj : j < f.length, f[j].u = true ∧ hashI f[j].k nb = b
   ·obtain ⟨j, rfl, hj, hu, hh⟩ := hx
    rw [walk_step hj hu hh] at h
    cases hw : walk f nb b m f[j].nx with
    | none => rw [hw] at h; cases h
    | some M =>
     rw [hw] at h
     simp only [Option.map_some, Option.some.injEq] at h
     subst h
     have ih := walk_rm hi hs hw
     by_cases e : j = i
     ·subst e
      have e1 : red f j (j : Int) = f[j].nx := by unfold red; rw [if_pos rfl, gD]
      have e2 : red f j f[j].nx = f[j].nx := by unfold red; rw [if_neg hs]
      rw [e2] at ih
      rw [e1, walk_more (by omega : m ≤ m + 1) ih]
      simp
     ·have e1 : red f i (j : Int) = (j : Int) := by unfold red; rw [if_neg (by omega)]
      have hj' : j < (unF f i).length := by rw [unF_len]; exact hj
      have ha := unF_at hj e
      obtain ⟨a1, a2, a3⟩ := unlF_u i (f.getD i freeF).nx f[j]
      have a4 : (unlF i (f.getD i freeF).nx f[j]).nx = red f i f[j].nx := by
       unfold unlF red
       rw [hu]
       by_cases e3 : f[j].nx = (i : Int)
       ·rw [if_pos (by simp [e3]), if_pos e3]
       ·rw [if_neg (by simp [e3]), if_neg e3]
      rw [e1, walk_step hj' (by rw [ha, a1]; exact hu) (by rw [ha, a2]; exact hh), ha, a4, ih]
      simp [e]
   ·rw [walk_out h1 (fun j e hj hu hh => hx ⟨j, e, hj, hu, hh⟩)] at h
    cases h
/-- where a chain begins with a frame, no used frame of the table follows on to it -/
theorem TOk.headOnly {t : T} (h : TOk t) {i c : Nat} (hc : c < t.b.length) (hb : t.b.getD c (-1) = (i : Int)) {j : Nat} (hj : j < t.f.length) (hu : t.f[j].u = true) : t.f[j].nx ≠ (i : Int) := by
 intro e
 obtain ⟨L, hL⟩ := Option.isSome_iff_exists.1 (h.ch c hc)
 have hL0 := hL
 unfold chain at hL0
 rw [hb] at hL0
 -- i heads L
 obtain ⟨n, hn⟩ : ∃ n, t.f.length = n + 1 := ⟨t.f.length - 1, by omega⟩
 have hhead : ∃ M, L = i :: M ∧ ∃ hi : i < t.f.length, t.f[i].u = true ∧ hashI t.f[i].k t.b.length = c := by
  rw [hn] at hL0
  by_cases hx : ∃ j : Nat, (i : Int) = j ∧ ∃ hj : j < t.f.length, t.f[j].u = true ∧ hashI t.f[j].k t.b.length = c
  ·obtain ⟨j', e', hj', hu', hh'⟩ := hx
   obtain rfl : i = j' := by omega
   rw [walk_step hj' hu' hh'] at hL0
   cases hw : walk t.f t.b.length c n t.f[i].nx with
   | none => rw [hw] at hL0; cases hL0
   | some M => rw [hw] at hL0; simp only [Option.map_some, Option.some.injEq] at hL0; exact ⟨M, hL0.symm, hj', hu', hh'⟩
  ·rw [walk_out (by omega) (fun j e hj hu hh => hx ⟨j, e, hj, hu, hh⟩)] at hL0
   cases hL0
 obtain ⟨M, rfl, hi, hui, hhi⟩ := hhead
 obtain ⟨L2, hL2, hm⟩ := h.inChain hj hu
 obtain ⟨A, B, rfl⟩ := List.append_of_mem hm
 obtain ⟨m, hw⟩ := walk_from hL2
 obtain ⟨_, hu', hh⟩ := walk_mem hw j (by simp)
 cases m with
 | zero => simp [walk] at hw
 | succ m =>
  rw [walk_step hj hu' hh, e] at hw
  cases hq : walk t.f t.b.length (bucketT t t.f[j].k) m (i : Int) with
  | none => rw [hq] at hw; cases hw
  | some Q =>
   rw [hq] at hw
   simp only [Option.map_some, Option.some.injEq, List.cons.injEq, true_and] at hw
   subst hw
   cases m with
   | zero => simp [walk] at hq
   | succ m =>
    have hi2 : i ∈ Q := by
     by_cases hx : ∃ j : Nat, (i : Int) = j ∧ ∃ hj : j < t.f.length, t.f[j].u = true ∧ hashI t.f[j].k t.b.length = bucketT t t.f[j].k
     ·by_cases hh2 : hashI t.f[i].k t.b.length = bucketT t t.f[j].k
      ·rw [walk_step hi hui hh2] at hq
       cases hw2 : walk t.f t.b.length (bucketT t t.f[j].k) m t.f[i].nx with
       | none => rw [hw2] at hq; cases hq
       | some R => rw [hw2] at hq; simp only [Option.map_some, Option.some.injEq] at hq; rw [← hq]; simp
      ·rw [walk_out (by omega) (fun j' e hj hu hh => by obtain rfl : i = j' := (by omega); exact hh2 hh)] at hq
       cases hq
     ·by_cases hh2 : hashI t.f[i].k t.b.length = bucketT t t.f[j].k
      ·rw [walk_step hi hui hh2] at hq
       cases hw2 : walk t.f t.b.length (bucketT t t.f[j].k) m t.f[i].nx with
       | none => rw [hw2] at hq; cases hq
       | some R => rw [hw2] at hq; simp only [Option.map_some, Option.some.injEq] at hq; rw [← hq]; simp
      ·rw [walk_out (by omega) (fun j' e hj hu hh => by obtain rfl : i = j' := (by omega); exact hh2 hh)] at hq
       cases hq
    have hbi : (c : Int) = bucketT t t.f[j].k := by
     obtain ⟨_, _, h3⟩ := walk_mem hq i hi2
     rw [← hhi, h3]
    have hc2 : c = bucketT t t.f[j].k := by omega
    rw [← hc2] at hL2
    rw [hL] at hL2
    simp only [Option.some.injEq] at hL2
    have nd := walk_nodup (show walk t.f t.b.length c t.f.length (t.b.getD c (-1)) = some (i :: M) from hL)
    cases A with
    | nil =>
     simp only [List.nil_append, List.cons.injEq] at hL2
     rw [hL2.2] at nd
     exact (List.nodup_cons.1 nd).1 hi2
    | cons a A =>
     simp only [List.cons_append, List.cons.injEq] at hL2
     rw [hL2.2] at nd
     exact (List.nodup_cons.1 nd).1 (by simp [hi2])
/-- a page that can be unmapped -/
structure CanUn (t : T) (i : Nat) : Prop where
 ok : TOk t
 hi : i < t.f.length
 hu : t.f[i].u = true
theorem CanUn.key {t : T} {i : Nat} (c : CanUn t i) : keyOk (t.f[i]'c.hi).k = true := by
 have := c.ok.fr _ (List.getElem_mem c.hi)
 unfold frameOk at this
 rw [c.hu] at this
 simp only [if_true, Bool.and_eq_true] at this
 exact this.1
theorem CanUn.eqs {t : T} {i : Nat} (c : CanUn t i) : (unmapT t i).f = unF t.f i ∧ (unmapT t i).b.length = t.b.length ∧ ∀ x, (unmapT t i).b.getD x (-1) = red t.f i (t.b.getD x (-1)) := by
 have hi := c.hi
 have gD : t.f.getD i freeF = t.f[i] := by simp [hi]
 obtain ⟨hb, he⟩ := bucketT_lt c.key c.ok.b1 c.ok.b2
 have other : ∀ x, t.b.getD x (-1) = (i : Int) → x = bucketT t t.f[i].k := fun x hx => by
  have hxl : x < t.b.length := by
   rcases Nat.lt_or_ge x t.b.length with h | h
   ·exact h
   ·rw [List.getD_eq_getElem?_getD, List.getElem?_eq_none h, Option.getD_none] at hx; omega
  obtain ⟨L, hL⟩ := Option.isSome_iff_exists.1 (c.ok.ch x hxl)
  unfold chain at hL
  rw [hx] at hL
  obtain ⟨n, hn⟩ : ∃ n, t.f.length = n + 1 := ⟨t.f.length - 1, by omega⟩
  rw [hn] at hL
  by_cases hh2 : hashI t.f[i].k t.b.length = x
  ·omega
  ·rw [walk_out (by omega) (fun j' e hj hu hh => by obtain rfl : i = j' := (by omega); exact hh2 hh)] at hL
   cases hL
 unfold unmapT
 rw [gD]
 by_cases hc : t.b.getD (bucketT t t.f[i].k) (-1) = (i : Int)
 ·rw [if_pos (by simpa using hc)]
  refine ⟨?_, by simp, fun x => ?_⟩
  ·show t.f.set i freeF = unF t.f i
   unfold unF
   rw [gD]
   congr 1
   unfold unl
   refine List.ext_getElem (by simp) fun j h1 h2 => ?_
   rw [List.getElem_map]
   unfold unlF
   rw [if_neg]
   intro hh
   simp only [Bool.and_eq_true, beq_iff_eq] at hh
   exact c.ok.headOnly hb hc h1 hh.1 hh.2
  ·simp only [List.getD_eq_getElem?_getD, List.getElem?_set]
   by_cases e : bucketT t t.f[i].k = x
   ·subst e
    rw [if_pos rfl, if_pos hb]
    unfold red
    rw [← List.getD_eq_getElem?_getD, if_pos hc, gD]
    rfl
   ·rw [if_neg e]
    unfold red
    rw [← List.getD_eq_getElem?_getD, if_neg (fun h => e (other x h).symm)]
 ·rw [if_neg (by simpa using hc)]
  refine ⟨?_, rfl, fun x => ?_⟩
  ·unfold unF; rw [gD]
  ·unfold red
   rw [if_neg (fun h => ?_)]
   have := other x h
   subst this
   exact hc h
theorem CanUn.chain {t : T} {i : Nat} (c : CanUn t i) {x : Nat} {L : List Nat} (h : Go.Proofs.YtbfbfkpcabkchaaGreatDoor.chain t x = some L) : Go.Proofs.YtbfbfkpcabkchaaGreatDoor.chain (unmapT t i) x = some (L.filter fun y => decide (y ≠ i)) := by
 obtain ⟨e1, e2, e3⟩ := c.eqs
 unfold Go.Proofs.YtbfbfkpcabkchaaGreatDoor.chain at h ⊢
 rw [e1, e2, e3, unF_len]
 exact walk_rm c.hi (c.ok.noself c.hi c.hu) h
theorem unF_keys {f : List F} {i : Nat} (hi : i < f.length) (hu : f[i].u = true) : (usedKeys f).Perm (f[i].k :: usedKeys (unF f i)) := by
 have e : usedKeys (unF f i) = usedKeys (f.set i freeF) := by
  apply usedKeys_congr
  unfold unF unl
  rw [List.map_set, List.map_set, List.map_map]
  congr 1
  apply List.map_congr_left
  intro g _
  obtain ⟨a1, a2, _⟩ := unlF_u i (f.getD i freeF).nx g
  simp only [Function.comp, a1, a2]
 have := usedKeys_set (l := f.set i freeF) (i := i) (by simpa using hi) (by simp [freeF]) (x := f[i]) hu
 rw [List.set_set, List.set_getElem_self] at this
 rw [e]
 exact this
theorem CanUn.keys {t : T} {i : Nat} (c : CanUn t i) : (usedKeys t.f).Perm ((t.f[i]'c.hi).k :: usedKeys (unmapT t i).f) := by
 rw [c.eqs.1]; exact unF_keys c.hi c.hu
theorem CanUn.tok {t : T} {i : Nat} (c : CanUn t i) : TOk (unmapT t i) := by
 obtain ⟨e1, e2, e3⟩ := c.eqs
 have h := c.ok
 have hp := c.keys
 obtain ⟨hb, he⟩ := bucketT_lt c.key c.ok.b1 c.ok.b2
 refine ⟨by rw [e1, unF_len]; exact h.f1, by rw [e1, unF_len]; exact h.f2, by rw [e2]; exact h.b1, by rw [e2]; exact h.b2, fun g hg => ?_, ?_, fun x hx => ?_, ?_⟩
 ·rw [e1] at hg
  rcases List.mem_or_eq_of_mem_set hg with e | e
  ·obtain ⟨g', hg', rfl⟩ := List.mem_map.1 e
   have := h.fr g' hg'
   unfold unlF
   split
   ·rename_i hh
    simp only [Bool.and_eq_true] at hh
    unfold frameOk at this ⊢
    simp only [hh.1, if_true] at this ⊢
    exact this
   ·exact this
  ·subst e; rfl
 ·have := hp.nodup_iff.1 h.ks
  exact (List.nodup_cons.1 this).2
 ·obtain ⟨L, hL⟩ := Option.isSome_iff_exists.1 (h.ch x (by rw [e2] at hx; exact hx))
  rw [c.chain hL]; rfl
 ·have hl := hp.length_eq
  rw [List.length_cons, ← h.sum] at hl
  rw [e2]
  have hs := sum_one (f := fun x => ((Go.Proofs.YtbfbfkpcabkchaaGreatDoor.chain (unmapT t i) x).getD []).length) (g := fun x => ((Go.Proofs.YtbfbfkpcabkchaaGreatDoor.chain t x).getD []).length) (h := bucketT t (t.f[i]'c.hi).k) ?_ ?_ t.b.length
  ·rw [if_pos hb] at hs
   unfold chainsLen at hl ⊢
   omega
  ·obtain ⟨L, hL, hm⟩ := h.inChain c.hi c.hu
   rw [hL, c.chain hL]
   have nd := walk_nodup (show walk t.f t.b.length (bucketT t (t.f[i]'c.hi).k) t.f.length _ = some L from hL)
   simp only [Option.getD_some]
   clear hL
   induction L with
   | nil => cases hm
   | cons a L ih =>
    obtain ⟨n1, n2⟩ := List.nodup_cons.1 nd
    by_cases e : a = i
    ·subst e
     have : L.filter (fun y => decide (y ≠ a)) = L := List.filter_eq_self.2 fun y hy => decide_eq_true fun e => n1 (e ▸ hy)
     rw [List.filter_cons_of_neg (by simp), this, List.length_cons]
    ·rw [List.filter_cons_of_pos (by simp [e]), List.length_cons, List.length_cons, ih ((List.mem_cons.1 hm).resolve_left (fun x => e x.symm)) n2]
  ·intro x hx
   cases hL : Go.Proofs.YtbfbfkpcabkchaaGreatDoor.chain t x with
   | none =>
    have hxl : ¬ x < t.b.length := fun h' => by have := h.ch x h'; rw [hL] at this; cases this
    exfalso
    unfold Go.Proofs.YtbfbfkpcabkchaaGreatDoor.chain at hL
    rw [List.getD_eq_getElem?_getD, List.getElem?_eq_none (by omega)] at hL
    simp only [Option.getD_none] at hL
    rw [walk_end] at hL
    cases hL
   | some L =>
    rw [c.chain hL]
    simp only [Option.getD_some]
    rw [List.filter_eq_self.2]
    intro y hy
    refine decide_eq_true fun e => ?_
    subst e
    obtain ⟨_, _, h3⟩ := walk_mem (show walk t.f t.b.length x t.f.length _ = some L from hL) y hy
    apply hx
    omega
theorem unmapR_yes {t : T} {k : K} (h : (unmapR t k).2 = true) : ∃ i, ∃ c : CanUn t i, (t.f[i]'c.hi).k = k ∧ unmapR t k = (unmapT t i, true) := by
 unfold unmapR at h ⊢
 split at h
 ·rename_i hc
  have hc' := hc
  simp only [Bool.and_eq_true, decide_eq_true_eq] at hc
  obtain ⟨i, hi⟩ : ∃ i : Nat, findF t.f k = i := ⟨(findF t.f k).toNat, by omega⟩
  obtain ⟨hb, hu, hk⟩ := found_key hi
  refine ⟨i, ⟨tableOk_iff.1 hc.1.1, hb, hu⟩, hk, ?_⟩
  rw [if_pos hc', hi, Int.toNat_natCast]
 ·cases h

theorem take_MO {m : Mc} {k : K} (h : (takeR m k).2 = true) : MO (takeR m k).1 := by
 unfold takeR at h ⊢
 split
 ·rename_i c
  simp only [Bool.and_eq_true] at c
  have hM := machineOk_iff.1 c.1
  obtain ⟨i, cu, hk, e⟩ := unmapR_yes c.2
  obtain ⟨ef, _, _⟩ := cu.eqs
  have hi := cu.hi
  rw [e]
  have hg : ∀ j, (hj : j < m.t.f.length) → j ≠ i → (unmapT m.t i).f.getD j freeF = unlF i (m.t.f.getD i freeF).nx m.t.f[j] := fun j hj hne => by
   rw [ef, ← unF_at hj hne]
   simp [unF_len, hj]
  refine ⟨cu.tok, drop_CO hM, hM.g, hM.s, fun j hj => ?_, fun j hj hv => ?_⟩
  ·simp only [] at hj ⊢
   rw [ef, unF_len] at hj
   by_cases ej : j = i
   ·subst ej
    have : (unmapT m.t j).f.getD j freeF = freeF := by rw [ef]; simp [unF, unl_len, hj]
    rw [this]; rfl
   ·rw [hg j hj ej]
    obtain ⟨q1, q2, _⟩ := unlF_u i (m.t.f.getD i freeF).nx m.t.f[j]
    unfold frameFits
    rw [q1, q2]
    have := hM.f j hj
    rw [show m.t.f.getD j freeF = m.t.f[j] from by simp [hj]] at this
    exact this
  ·obtain ⟨e1, e2⟩ := drop_none hM hj hv
   simp only [] at hv ⊢
   rw [e1] at hv ⊢
   rw [dropC_len] at hj
   have hl := hM.l j hj hv
   rw [lineHas_eq] at hl ⊢
   simp only [Bool.and_eq_true, keyHas, decide_eq_true_eq] at hl
   have e3 : lineSpace ⟨unmapT m.t i, dropC m k, m.g, m.s⟩ (lnAt m.c.l j) = lineSpace m (lnAt m.c.l j) := rfl
   rw [e3]
   generalize hK : keyFor (lineSpace m (lnAt m.c.l j)) (lnAt m.c.l j).pg = k' at hl e2 ⊢
   obtain ⟨q, hq⟩ : ∃ q : Nat, findF m.t.f k' = q := ⟨(findF m.t.f k').toNat, by omega⟩
   obtain ⟨hb, hu, hkq⟩ := found_key hq
   have hne : q ≠ i := fun e => by subst e; exact e2 (by rw [← hkq, hk])
   obtain ⟨q1, q2, q3⟩ := unlF_u i (m.t.f.getD i freeF).nx m.t.f[q]
   have hlq : q < (unmapT m.t i).f.length := by rw [ef, unF_len]; exact hb
   have eq : (unmapT m.t i).f[q] = unlF i (m.t.f.getD i freeF).nx m.t.f[q] := by
    have := hg q hb hne
    rw [show (unmapT m.t i).f.getD q freeF = (unmapT m.t i).f[q] from by simp [hlq]] at this
    exact this
   have hf : findF (unmapT m.t i).f k' = (q : Int) := find_at cu.tok.ks hlq (by rw [eq, q1]; exact hu) (by rw [eq, q2]; exact hkq)
   simp only [Bool.and_eq_true, keyHas, decide_eq_true_eq]
   rw [hf]
   rw [hq] at hl
   refine ⟨hl.1, hl.2.1, ?_⟩
   have := hl.2.2
   rw [Int.toNat_natCast] at this ⊢
   rw [hg q hb hne, q3, ← show m.t.f.getD q freeF = m.t.f[q] from by simp [hb]]
   exact this
 ·rename_i hn; rw [if_neg hn] at h; cases h
theorem wire_MO {m : Mc} {pg : Int} (h : (wireR m pg).2 = true) : MO (wireR m pg).1 := by
 unfold wireR at h ⊢
 split
 ·rename_i c
  simp only [Bool.and_eq_true] at c
  obtain ⟨⟨⟨c1, c2⟩, c3⟩, c4⟩ := c
  have hM := touch_MO c1
  generalize touchR m pg 0 = t at c1 c2 c4 hM ⊢
  generalize hp : fx (fits (-1) pg) t.1.c.l 0 = pl at c4 ⊢
  unfold wireLR at c4 ⊢
  split
  ·rename_i q
   simp only [Bool.and_eq_true, within_iff] at q
   obtain ⟨⟨⟨q1, q2⟩, q3⟩, q4⟩ := q
   obtain ⟨i, rfl⟩ : ∃ i : Nat, pl = i := ⟨pl.toNat, by omega⟩
   rw [Int.toNat_natCast] at q3 q4 ⊢
   obtain ⟨j, hj, ej, hfit⟩ := fx_at (p := fits (-1) pg) (l := t.1.c.l) (by rw [hp]; omega)
   have hij : j = i := by rw [hp] at ej; omega
   subst hij
   have htg : (lnAt t.1.c.l j).tg = -1 := by
    rw [lnAt_lt hj]
    unfold fits at hfit
    simp only [Bool.and_eq_true, Bool.or_eq_true, beq_iff_eq] at hfit
    rcases hfit.2 with e | e <;> exact e
   refine ⟨hM.t, cacheOk_iff.1 q4, hM.g, hM.s, hM.f, fun x hx hv => ?_⟩
   simp only [wireC, List.length_set] at hx hv ⊢
   rw [lnAt_set hx] at hv ⊢
   by_cases e : j = x
   ·subst e
    rw [if_pos rfl] at hv ⊢
    have hl := hM.l j hj hv
    rw [lineHas_eq] at hl ⊢
    simp only [htg, lineSpace, beq_self_eq_true, cot] at hl ⊢
    simp only [Bool.and_eq_true, Bool.or_eq_true, keyHas, beq_iff_eq, decide_eq_true_eq] at hl ⊢
    exact ⟨⟨⟨hl.1.1.1, .inr trivial⟩, .inl trivial⟩, hl.2⟩
   ·rw [if_neg e] at hv ⊢
    exact hM.l x hx hv
  ·rename_i hn; rw [if_neg hn] at c4; cases c4
 ·rename_i hn; rw [if_neg hn] at h; cases h
theorem put_MO {m : Mc} {k : K} {fr r : Int} (h : (putR m k fr r).2 = true) : MO (putR m k fr r).1 := by
 obtain ⟨h1, hk, i, _, c, e⟩ := putR_yes h
 rw [e]
 exact put_ok (machineOk_iff.1 h1) hk c
theorem MO.sz {m : Mc} (h : MO m) : SzM m := by
 obtain ⟨a, b, c, d⟩ := h.small
 exact ⟨h.t.b1, a, b, c, by omega⟩
theorem step6_ok {l : List UInt8} {p : Int} {m : Mc} (hm : MO m) (hf : 1048576 < fl) (hp : 0 ≤ p) (hp2 : p ≤ 1000000) (hl : l.length ≤ 2000) : ∃ m' p', s_l6Step fl l p m = some (m', p') ∧ MO m' ∧ p ≤ p' ∧ p' ≤ p + 10 := by
 have hN := hm.sz.n
 unfold s_l6Step
 obtain ⟨q, e0, _, _⟩ := pick_eq (fl := fl) (n := 8) hp (by omega) hl
 rw [e0]
 simp only [obs]
 cases (q == 0) with
 | true =>
  rw [cot]
  obtain ⟨x, _, e1⟩ := num_eq (fl := fl) (p := p + 1) (L := [0, 1, 2, 3]) (by omega) (by omega) hl (by simp)
  rw [e1]
  simp only [obs]
  rw [sEnter_eq hN hf]
  simp only [obs]
  cases h : (enterR m x).2 with
  | false => simp only [Bool.not_false, cot]; exact ⟨_, _, rfl, hm, by omega, by omega⟩
  | true => simp only [Bool.not_true, cof]; exact ⟨_, _, rfl, (enter_ok h).1, by omega, by omega⟩
 | false =>
 rw [cof]
 obtain ⟨y1, ey1⟩ : ∃ y, (cond (q == 1) (some (q == 1)) (cond (q == 2) (some (q == 2)) (some (q == 3)))) = some y := by cases (q == 1) <;> cases (q == 2) <;> exact ⟨_, rfl⟩
 rw [ey1]
 simp only [obs]
 cases y1 with
 | true =>
  rw [cot]
  obtain ⟨a, e1, _, _⟩ := pick_eq (fl := fl) (p := p + 1) (n := 3) (by omega) (by omega) hl
  rw [e1]
  simp only [obs]
  obtain ⟨pg, e2⟩ := page6_eq (fl := fl) (p := p + 1 + 1) (l := l) (by omega) (by omega) hl
  rw [e2]
  simp only [obs, sKeyFor]
  obtain ⟨b, e3, _, _⟩ := pick_eq (fl := fl) (p := p + 1 + 1 + 1) (n := (m.t.f.length : Int)) (by omega) (by omega) hl
  rw [e3]
  simp only [obs]
  obtain ⟨x, _, e4⟩ := num_eq (fl := fl) (p := p + 1 + 1 + 1 + 1) (L := [3, 1, 7]) (by omega) (by omega) hl (by simp)
  rw [e4]
  simp only [obs]
  rw [sPut_eq hN hf]
  simp only [obs]
  cases h : (putR m (keyFor a pg) b x).2 with
  | false => simp only [Bool.not_false, cot]; exact ⟨_, _, rfl, hm, by omega, by omega⟩
  | true => simp only [Bool.not_true, cof]; exact ⟨_, _, rfl, put_MO h, by omega, by omega⟩
 | false =>
 rw [cof]
 obtain ⟨y2, ey2⟩ : ∃ y, (cond (q == 4) (some (q == 4)) (some (q == 5))) = some y := by cases (q == 4) <;> exact ⟨_, rfl⟩
 rw [ey2]
 simp only [obs]
 cases y2 with
 | true =>
  rw [cot]
  obtain ⟨pg, e2⟩ := page6_eq (fl := fl) (p := p + 1) (l := l) (by omega) (by omega) hl
  rw [e2]
  simp only [obs]
  obtain ⟨x, _, e4⟩ := num_eq (fl := fl) (p := p + 1 + 1) (L := [1, 0, 2]) (by omega) (by omega) hl (by simp)
  rw [e4]
  simp only [obs]
  rw [sTouch_eq hN hf]
  simp only [obs]
  cases h : (touchR m pg x).2.2.2 with
  | false => simp only [Bool.not_false, cot]; exact ⟨_, _, rfl, hm, by omega, by omega⟩
  | true => simp only [Bool.not_true, cof]; exact ⟨_, _, rfl, touch_MO h, by omega, by omega⟩
 | false =>
 rw [cof]
 cases (q == 6) with
 | true =>
  rw [cot]
  obtain ⟨x, _, e4⟩ := num_eq (fl := fl) (p := p + 1) (L := [200, 201]) (by omega) (by omega) hl (by simp)
  rw [e4]
  simp only [obs]
  rw [sWire_eq hN hf]
  simp only [obs]
  cases h : (wireR m x).2 with
  | false => simp only [Bool.not_false, cot]; exact ⟨_, _, rfl, hm, by omega, by omega⟩
  | true => simp only [Bool.not_true, cof]; exact ⟨_, _, rfl, wire_MO h, by omega, by omega⟩
 | false =>
 rw [cof]
 cases (q == 7) with
 | true =>
  rw [cot]
  obtain ⟨a, e1, _, _⟩ := pick_eq (fl := fl) (p := p + 1) (n := 3) (by omega) (by omega) hl
  rw [e1]
  simp only [obs]
  obtain ⟨pg, e2⟩ := page6_eq (fl := fl) (p := p + 1 + 1) (l := l) (by omega) (by omega) hl
  rw [e2]
  simp only [obs, sKeyFor]
  rw [sTake_eq hN hf]
  simp only [obs]
  cases h : (takeR m (keyFor a pg)).2 with
  | false => simp only [Bool.not_false, cot]; exact ⟨_, _, rfl, hm, by omega, by omega⟩
  | true => simp only [Bool.not_true, cof]; exact ⟨_, _, rfl, take_MO h, by omega, by omega⟩
 | false => rw [cof]; simp only [Bool.not_false, cot]; exact ⟨_, _, rfl, hm, by omega, by omega⟩
theorem draw6_L0ok {l : List UInt8} (hl : l.length ≤ 2000) (hf : 1048576 < fl) : ∀ (fuel n : Nat) (p : Int) (m : Mc), n < fuel → n ≤ 100 → MO m → 0 ≤ p → p ≤ 10000 - 10 * (n : Int) →
  ∃ m' p' z, s_l6Draw_L0 fl l fuel p m.t.b m.t.f m.c.l m.c.h m.g.c m.g.n m.g.r m.g.o m.s n = some (.out (p', m'.t.b, m'.t.f, m'.c.l, m'.c.h, m'.g.c, m'.g.n, m'.g.r, m'.g.o, m'.s, z)) ∧ MO m' ∧ 0 ≤ p' ∧ p' ≤ 10000 := by
 intro fuel
 induction fuel with
 | zero => intro n p m h; omega
 | succ fuel ih =>
  intro n p m hn hn2 hm hp hp2
  rw [s_l6Draw_L0.eq_2]
  by_cases h0 : n = 0
  ·subst h0
   simp only [show decide (0 < ((0 : Nat) : Int)) = false from rfl, cof]
   exact ⟨m, _, _, rfl, hm, hp, by omega⟩
  ·rw [decide_eq_true (by omega : 0 < (n : Int)), cot]
   obtain ⟨m1, p1, e1, s1, a1, b1⟩ := step6_ok (fl := fl) (l := l) (p := p) hm hf hp (by omega) hl
   have e1' : s_l6Step fl l p (⟨(⟨m.t.b, m.t.f⟩ : T), (⟨m.c.l, m.c.h⟩ : Ca), (⟨m.g.c, m.g.n, m.g.r, m.g.o⟩ : Tg), m.s⟩ : Mc) = some (m1, p1) := e1
   rw [e1']
   simp only [obs]
   have hck : ck ((n : Int) - 1) = some ((n - 1 : Nat) : Int) := by rw [ck_in (by omega)]; congr 1; omega
   rw [hck]
   simp only [obs]
   exact ih (n - 1) p1 m1 (by omega) (by omega) s1 (by omega) (by omega)
theorem draw6_ok {l : List UInt8} (hl : l.length ≤ 2000) (hf : 1048576 < fl) {p : Int} (hp : 0 ≤ p) (hp2 : p ≤ 1000) : ∃ m p', s_l6Draw fl l p = some (m, p') ∧ MO m ∧ 0 ≤ p' ∧ p' ≤ 10000 := by
 unfold s_l6Draw
 obtain ⟨x, hx, e1⟩ := num_eq (fl := fl) (L := [6, 4, 8]) hp (by omega) hl (by simp)
 rw [e1]
 simp only [obs]
 obtain ⟨y, hy, e2⟩ := num_eq (fl := fl) (p := p + 1) (L := [4, 2, 1]) (by omega) (by omega) hl (by simp)
 rw [e2]
 simp only [obs]
 obtain ⟨z, hz, e3⟩ := num_eq (fl := fl) (p := p + 1 + 1) (L := [3, 2, 4, 1]) (by omega) (by omega) hl (by simp)
 rw [e3]
 simp only [obs]
 obtain ⟨u, hu, e4⟩ := num_eq (fl := fl) (p := p + 1 + 1 + 1) (L := [2, 3, 1]) (by omega) (by omega) hl (by simp)
 rw [e4]
 simp only [obs]
 rw [sNewMc_eq hf]
 simp only [obs]
 have hx' : 1 ≤ x ∧ x ≤ 8 := by simp at hx; omega
 have hy' : 1 ≤ y ∧ y ≤ 8 := by simp at hy; omega
 have hz' : 1 ≤ z ∧ z ≤ 8 := by simp at hz; omega
 have hu' : 1 ≤ u ∧ u ≤ 8 := by simp at hu; omega
 have em : newMcR x y z u = (newM x.toNat y.toNat z.toNat u, true) := by
  unfold newMcR
  rw [if_pos (by simp; omega)]
 rw [em]
 have hs : MO (newM x.toNat y.toNat z.toNat u) := newM_ok (by omega) (by omega) (by omega) (by omega) (by omega) (by omega) (by omega) (by omega)
 obtain ⟨v, e5, hv, _⟩ := pick_eq (fl := fl) (p := p + 1 + 1 + 1 + 1) (n := 10) (by omega) (by omega) hl
 have hv' := hv (by omega)
 rw [e5]
 simp only [obs]
 rw [ck_in (by omega)]
 simp only [obs]
 obtain ⟨n, hn⟩ : ∃ n : Nat, 6 + v = n := ⟨(6 + v).toNat, by omega⟩
 rw [hn]
 obtain ⟨m', p', w, e6, s1, s2, s3⟩ := draw6_L0ok (fl := fl) hl hf fl n (p + 1 + 1 + 1 + 1 + 1) _ (by omega) (by omega) hs (by omega) (by omega)
 rw [e6]
 simp only [obs]
 exact ⟨_, _, rfl, s1, s2, s3⟩

def freeI (l : List F) : Int := fx (fun f : F => !f.u) l 0
theorem iFree {m : Mm} (hl : m.m.t.f.length ≤ 1048576) (hf : 1048576 < fl) : i_FreeFrame_L0 fl m fl 0 = some (if 0 ≤ freeI m.m.t.f then .ret (((freeI m.m.t.f).toNat : Int), true) else .out (m.m.t.f.length : Int)) := by
 have := findLoop (L := i_FreeFrame_L0 fl m) (l := m.m.t.f) (p := fun f : F => !f.u) (res := fun i => ((i : Int), true))
  (fun fuel j h => by
   rw [i_FreeFrame_L0.eq_2, decide_eq_true (by omega : (j : Int) < (m.m.t.f.length : Int)), cot, idx_nat h]
   simp only [obs]
   rw [ck_succ (by omega)]
   cases m.m.t.f[j].u <;> rfl)
  (fun fuel => by rw [i_FreeFrame_L0.eq_2, decide_eq_false (by omega), cof]) fl 0 (by omega) (by omega)
 rw [show ((0 : Nat) : Int) = 0 from rfl, List.drop_zero] at this
 exact this
theorem sFree {t : T} (hl : t.f.length ≤ 1048576) (hf : 1048576 < fl) : s_l7Free fl t = some (freeI t.f) := by
 unfold s_l7Free
 have := findLoop (L := s_l7Free_L0 fl t) (l := t.f) (p := fun f : F => !f.u) (res := fun i => (i : Int))
  (fun fuel j h => by
   rw [s_l7Free_L0.eq_2, decide_eq_true (by omega : (j : Int) < (t.f.length : Int)), cot, idx_nat h]
   simp only [obs]
   rw [ck_succ (by omega)]
   cases t.f[j].u <;> rfl)
  (fun fuel => by rw [s_l7Free_L0.eq_2, decide_eq_false (by omega), cof]) fl 0 (by omega) (by omega)
 rw [show ((0 : Nat) : Int) = 0 from rfl, List.drop_zero] at this
 rw [this]
 simp only [obs]
 unfold freeI
 have hb := fx_bd (p := fun f : F => !f.u) (l := t.f)
 by_cases h : 0 ≤ fx (fun f : F => !f.u) t.f 0
 ·rw [if_pos h]; simp only []; rw [Int.toNat_of_nonneg h]
 ·rw [if_neg h]; simp only []; congr 1; omega
theorem tick_spec {m : Mc} {n : Nat} (hn : 0 < n) : ∀ {s h : Nat} {k : List Bool} {a h' : Nat} {k' : List Bool}, tick m n h k s = some (a, h', k') → h < n → k.length = n → a < n ∧ h' = (a + 1) % n ∧ (m.t.f.getD a freeF).u = true ∧ wiredAt m a = false ∧ k'.getD a false = false ∧ k'.length = k.length ∧ ∀ i, k'.getD i false = true → k.getD i false = true
 | 0, _, _, _, _, _, e, _, _ => by cases e
 | s + 1, h, k, a, h', k', e, hh, hk => by
  rw [tick] at e
  cases hc : (!(m.t.f.getD h freeF).u || wiredAt m h) with
  | true => rw [hc, cot] at e; exact tick_spec hn e (Nat.mod_lt _ hn) hk
  | false =>
   rw [hc, cof] at e
   cases hkk : k.getD h false with
   | true =>
    rw [hkk, cot] at e
    obtain ⟨q1, q2, q3, q4, q5, q6, q7⟩ := tick_spec hn e (Nat.mod_lt _ hn) (by simp [hk])
    refine ⟨q1, q2, q3, q4, q5, by simpa using q6, fun i hi => ?_⟩
    have := q7 i hi
    rw [List.getD_eq_getElem?_getD, List.getElem?_set] at this
    split at this
    ·split at this <;> simp at this
    ·rw [List.getD_eq_getElem?_getD]; exact this
   | false =>
    rw [hkk, cof] at e
    cases e
    simp only [Bool.or_eq_false_iff, Bool.not_eq_false'] at hc
    exact ⟨hh, rfl, hc.1, hc.2, hkk, rfl, fun _ h => h⟩
theorem mc0_no : machineOk mc0 = false := by
 apply Bool.eq_false_iff.2
 intro h
 have := (machineOk_iff.1 h).c.n1
 simp [mc0] at this
/-- a page is brought in -/
noncomputable def bringR (m : Mm) (pg ri : Int) : Mm × Bool :=
 if 0 ≤ freeI m.m.t.f then (if (putR m.m (keyFor m.m.s pg) (freeI m.m.t.f) ri).2 = true then (⟨(putR m.m (keyFor m.m.s pg) (freeI m.m.t.f) ri).1, m.k, m.h⟩, true) else (mm0, false))
 else match tick m.m m.k.length m.h.toNat m.k (2 * m.k.length) with
  | none => (mm0, false)
  | some (a, h', k') => if (putR (takeR m.m (m.m.t.f.getD a freeF).k).1 (keyFor m.m.s pg) a ri).2 = true then (⟨(putR (takeR m.m (m.m.t.f.getD a freeF).k).1 (keyFor m.m.s pg) a ri).1, k', (h' : Int)⟩, true) else (mm0, false)
noncomputable def useR (m : Mm) (pg nd ri : Int) : Mm × Int × Int × Bool :=
 if (memOk m && within pg 256 && rightsOk nd && rightsOk ri) = true then
  if findF m.m.t.f (keyFor m.m.s pg) < 0 then
   (if (bringR m pg ri).2 = true then
    (⟨(touchR (bringR m pg ri).1.m pg nd).1, (bringR m pg ri).1.k.set (touchR (bringR m pg ri).1.m pg nd).2.1.toNat true, (bringR m pg ri).1.h⟩, (touchR (bringR m pg ri).1.m pg nd).2.1, cond ((touchR (bringR m pg ri).1.m pg nd).2.2.1 == 2) 3 (touchR (bringR m pg ri).1.m pg nd).2.2.1, true)
    else (mm0, 0, 0, false))
  else (⟨(touchR m.m pg nd).1, m.k.set (touchR m.m pg nd).2.1.toNat true, m.h⟩, (touchR m.m pg nd).2.1, (touchR m.m pg nd).2.2.1, true)
 else (mm0, 0, 0, false)
theorem take_s {m : Mc} {k : K} (h : machineOk (takeR m k).1 = true) : (takeR m k).2 = true ∧ (takeR m k).1.s = m.s ∧ (takeR m k).1.g = m.g := by
 unfold takeR at h ⊢
 split
 ·exact ⟨rfl, rfl, rfl⟩
 ·rename_i hn; rw [if_neg hn, mc0_no] at h; cases h
theorem putR_arg {m : Mc} {k : K} {fr r : Int} (h : (putR m k fr r).2 = true) : machineOk m = true := (putR_yes h).1
/-- what is behind bringing a page -/
structure Brought (m : Mm) (pg ri : Int) (x : Mm) : Prop where
 mo : MO x.m
 len : x.k.length = m.k.length
 h0 : 0 ≤ x.h ∧ x.h < (m.k.length : Int)
 s : x.m.s = m.m.s
 g : x.m.g = m.m.g
 pre : ∃ (c : Mc) (i : Nat), MO c ∧ c.s = m.m.s ∧ c.g = m.m.g ∧ i < m.k.length ∧ c.t.f.length = m.m.t.f.length ∧ CanMap c.t (keyFor m.m.s pg) i ri ∧ x.m = ⟨mapT c.t (keyFor m.m.s pg) i ri, c.c, c.g, c.s⟩ ∧ (∀ j, j ≠ i → (m.m.t.f.getD j freeF).u = true → (c.t.f.getD j freeF).u = true) ∧ (∀ j, x.k.getD j false = true → m.k.getD j false = true) ∧
  ∀ j, j < m.m.t.f.length → (c.t.f.getD j freeF).u = true → (m.m.t.f.getD j freeF).u = true ∧ (c.t.f.getD j freeF).k = (m.m.t.f.getD j freeF).k
theorem bring_ok {m : Mm} (hN : NO m) {pg ri : Int} (h : (bringR m pg ri).2 = true) : Brought m pg ri (bringR m pg ri).1 := by
 have hk := hN.k
 have g0 := hN.h0
 have g1 := hN.h1
 unfold bringR at h ⊢
 by_cases hfr : 0 ≤ freeI m.m.t.f
 ·rw [if_pos hfr] at h ⊢
  by_cases hp : (putR m.m (keyFor m.m.s pg) (freeI m.m.t.f) ri).2 = true
  ·rw [if_pos hp]
   obtain ⟨h1, h2, i, e1, c, e⟩ := putR_yes hp
   have hi : i < m.k.length := by rw [hk]; exact c.hf
   refine ⟨put_MO hp, rfl, ⟨g0, by rw [hk]; exact g1⟩, by rw [e], by rw [e], m.m, i, machineOk_iff.1 h1, rfl, rfl, hi, rfl, c, by rw [e], fun _ _ h => h, fun _ h => h, fun _ _ h => ⟨h, rfl⟩⟩
  ·rw [if_neg hp] at h; cases h
 ·rw [if_neg hfr] at h ⊢
  cases ht : tick m.m m.k.length m.h.toNat m.k (2 * m.k.length) with
  | none => rw [ht] at h; cases h
  | some q =>
   obtain ⟨a, h', k'⟩ := q
   rw [ht] at h
   simp only [] at h ⊢
   by_cases hp : (putR (takeR m.m (m.m.t.f.getD a freeF).k).1 (keyFor m.m.s pg) a ri).2 = true
   ·rw [if_pos hp]
    obtain ⟨q1, q2, q3, q4, q5, q6, q7⟩ := tick_spec (by omega) ht (by omega) rfl
    obtain ⟨h1, h2, i, e1, c, e⟩ := putR_yes hp
    obtain rfl : a = i := by omega
    obtain ⟨t1, t2, t3⟩ := take_s h1
    have hmod := Nat.mod_lt (a + 1) (show 0 < m.k.length by omega)
    have hT := t1
    unfold takeR at hT
    have hc : (machineOk m.m && (unmapR m.m.t (m.m.t.f.getD a freeF).k).2) = true := by
     cases hc : (machineOk m.m && (unmapR m.m.t (m.m.t.f.getD a freeF).k).2) with
     | true => rfl
     | false => rw [hc] at hT; cases hT
    have eT : (takeR m.m (m.m.t.f.getD a freeF).k).1.t = (unmapR m.m.t (m.m.t.f.getD a freeF).k).1 := by unfold takeR; rw [if_pos hc]
    simp only [Bool.and_eq_true] at hc
    obtain ⟨i', cu, ek, eu⟩ := unmapR_yes hc.2
    have ef := cu.eqs.1
    have ha : a < m.m.t.f.length := by omega
    have ga : m.m.t.f.getD a freeF = m.m.t.f[a] := by simp [ha]
    have hii : i' = a := by
     have z1 := find_at hN.mo.t.ks cu.hi cu.hu ek
     have z2 := find_at hN.mo.t.ks ha (by rw [← ga]; exact q3) (show m.m.t.f[a].k = (m.m.t.f.getD a freeF).k by rw [ga])
     omega
    subst hii
    have hget : ∀ j, (hj : j < m.m.t.f.length) → j ≠ i' → (takeR m.m (m.m.t.f.getD i' freeF).k).1.t.f.getD j freeF = unlF i' (m.m.t.f.getD i' freeF).nx m.m.t.f[j] := fun j hj hne => by
     rw [eT, eu, ← unF_at hj hne]
     show (unmapT m.m.t i').f.getD j freeF = _
     rw [ef]
     simp [unF_len, hj]
    refine ⟨put_MO hp, q6, ⟨by show (0 : Int) ≤ (h' : Int); omega, by subst q2; exact Int.ofNat_lt.2 hmod⟩, by rw [e]; exact t2, by rw [e]; exact t3, _, i', machineOk_iff.1 h1, t2, t3, q1, by rw [eT]; exact (unmapR_same hc.2).2.1, c, by rw [e], fun j hj hu => ?_, q7, fun j hj hu => ?_⟩
    ·have hjl : j < m.m.t.f.length := by
      by_cases hjl : j < m.m.t.f.length
      ·exact hjl
      ·rw [List.getD_eq_getElem?_getD, List.getElem?_eq_none (by omega)] at hu; simp [freeF] at hu
     obtain ⟨z1, z2, z3⟩ := unlF_u i' (m.m.t.f.getD i' freeF).nx m.m.t.f[j]
     rw [hget j hjl hj, z1]
     rw [show m.m.t.f.getD j freeF = m.m.t.f[j] from by simp [hjl]] at hu
     exact hu
    ·have hne : j ≠ i' := fun e => by
      have hcu := c.hu
      have hcf := c.hf
      rw [e, List.getD_eq_getElem?_getD, List.getElem?_eq_getElem hcf, Option.getD_some, hcu] at hu
      cases hu
     obtain ⟨z1, z2, z3⟩ := unlF_u i' (m.m.t.f.getD i' freeF).nx m.m.t.f[j]
     rw [hget j hj hne, z1] at hu
     rw [hget j hj hne, z2, show m.m.t.f.getD j freeF = m.m.t.f[j] from by simp [hj]]
     exact ⟨hu, rfl⟩
   ·rw [if_neg hp] at h; cases h
theorem set_false {k : List Bool} {a : Nat} (h : k.getD a false = false) : k.set a false = k := by
 apply List.ext_getElem?
 intro j
 rw [List.getElem?_set]
 split
 ·rename_i e; subst e
  split
  ·rename_i hl
   rw [List.getElem?_eq_getElem hl]
   simp only [Option.some.injEq]
   have : k.getD a false = k[a] := by simp [hl]
   rw [this] at h; exact h.symm
  ·rename_i hl; rw [List.getElem?_eq_none (by omega)]
 ·rfl
theorem Brought.find {m : Mm} {pg ri : Int} {x : Mm} (h : Brought m pg ri x) : ∃ i : Nat, i < m.k.length ∧ findF x.m.t.f (keyFor x.m.s pg) = i ∧ (x.m.t.f.getD i freeF).r = ri ∧ x.m.t.f.length = m.m.t.f.length := by
 obtain ⟨c, i, hc, e1, e2, hi, hl, cm, e, _⟩ := h.pre
 refine ⟨i, hi, ?_, ?_, ?_⟩
 ·rw [h.s, e]; exact cm.find
 ·have := cm.hf
  rw [e]; simp [mapT, this]
 ·rw [e]; simp [mapT, hl]
theorem touch_found {m : Mc} (hM : MO m) {pg nd : Int} (h1 : within pg 256 = true) (h2 : rightsOk nd = true) (h3 : 0 ≤ findF m.t.f (keyFor m.s pg)) : (touchR m pg nd).2.2.2 = true ∧ (touchR m pg nd).2.1 = findF m.t.f (keyFor m.s pg) ∧ (touchR m pg nd).1.t = m.t ∧ (touchR m pg nd).1.g = m.g ∧ (touchR m pg nd).1.s = m.s ∧ ((touchR m pg nd).2.2.1 = 1 ∨ (touchR m pg nd).2.2.1 = 2 ∨ (touchR m pg nd).2.2.1 = 4) := by
 have hok : (touchR m pg nd).2.2.2 = true := by
  unfold touchR
  rw [if_pos (by rw [machineOk_iff.2 hM, h1, h2]; rfl)]
  split
  ·rfl
  ·rw [if_neg (by omega)]
 refine ⟨hok, ?_⟩
 obtain ⟨_, _, _, ⟨a, b, e⟩ | ⟨a, b, e⟩ | ⟨a, b, e⟩⟩ := touch_cases hok
 ·rw [e]; refine ⟨rfl, rfl, rfl, rfl, ?_⟩; cases allowsR _ nd <;> simp
 ·omega
 ·rw [e]; refine ⟨rfl, rfl, rfl, rfl, ?_⟩; cases allowsR _ nd <;> simp
theorem mc_len {m : Mc} (h : MO m) : mcN m ≤ 1048576 := h.sz.n
theorem sBring_eq {m : Mm} (hN : NO m) {pg ri : Int} (hf : 1048576 < fl) : ∃ m1, s_l7Bring fl m pg ri = some (m1, (bringR m pg ri).2) ∧ ((bringR m pg ri).2 = true → m1 = (bringR m pg ri).1) := by
 obtain ⟨s1, s2, s3, s4⟩ := hN.mo.small
 have hk := hN.k
 have g0 := hN.h0
 have g1 := hN.h1
 have hm : mmN m ≤ 1048576 := by simp only [mmN, mcN]; omega
 have hc : mcN m.m ≤ 1048576 := by simp only [mcN]; omega
 unfold s_l7Bring bringR
 rw [sMCopy hm]
 simp only [obs]
 rw [sFree (by omega) hf]
 simp only [obs]
 by_cases hfr : 0 ≤ freeI m.m.t.f
 ·rw [decide_eq_false (by omega), cof, if_pos hfr, sKeyFor]
  simp only [obs]
  rw [sPut_eq hc hf]
  simp only [obs]
  cases hp : (putR m.m (keyFor m.m.s pg) (freeI m.m.t.f) ri).2 with
  | true => rw [if_pos rfl]; exact ⟨_, rfl, fun _ => rfl⟩
  | false => rw [if_neg (by simp)]; exact ⟨_, rfl, fun h => by cases h⟩
 ·rw [decide_eq_true (by omega), cot, if_neg hfr]
  unfold s_l7Clock
  rw [sMCopy hm]
  simp only [obs]
  obtain ⟨a0, ha0⟩ : ∃ a : Nat, m.h = a := ⟨m.h.toNat, by omega⟩
  obtain ⟨v, hv⟩ := sTick (fl := fl) (m := m) hN.mo.c hk (by omega) hf (2 * m.k.length) fl a0 m.k 0 (by omega) rfl (by omega) (by omega)
  rw [show ((0 : Nat) : Int) = 0 from rfl] at hv
  rw [ha0, hv, Int.toNat_natCast]
  cases ht : tick m.m m.k.length a0 m.k (2 * m.k.length) with
  | none =>
   simp only [obs]
   rw [decide_eq_true (by omega : (-1 : Int) < 0), cot]
   exact ⟨_, rfl, fun h => by cases h⟩
  | some q =>
   obtain ⟨a, h', k'⟩ := q
   obtain ⟨q1, q2, q3, q4, q5, q6, q7⟩ := tick_spec (by omega) ht (by omega) rfl
   have ha : a < m.m.t.f.length := by omega
   have ga : m.m.t.f.getD a freeF = m.m.t.f[a] := by simp [ha]
   simp only [obs]
   rw [decide_eq_false (by omega), cof, idx_nat (by omega : a < k'.length), idx_nat ha]
   simp only [obs]
   rw [sTake_eq hc hf, ← ga]
   simp only [obs, sKeyFor]
   rw [sPut_eq (takeR_len hc) hf]
   simp only [obs, Int.toNat_natCast, set_false q5]
   cases hok : machineOk (takeR m.m (m.m.t.f.getD a freeF).k).1 with
   | true =>
    obtain ⟨t1, t2, t3⟩ := take_s hok
    rw [t2]
    cases hp : (putR (takeR m.m (m.m.t.f.getD a freeF).k).1 (keyFor m.m.s pg) a ri).2 with
    | true => rw [if_pos rfl]; exact ⟨_, rfl, fun _ => rfl⟩
    | false => rw [if_neg (by simp)]; exact ⟨_, rfl, fun h => by cases h⟩
   | false =>
    have hno : ∀ k, (putR (takeR m.m (m.m.t.f.getD a freeF).k).1 k a ri).2 = false := fun k => by
     cases hq : (putR (takeR m.m (m.m.t.f.getD a freeF).k).1 k a ri).2 with
     | false => rfl
     | true => rw [putR_arg hq] at hok; cases hok
    rw [hno, hno, if_neg (by simp)]
    exact ⟨_, rfl, fun h => by cases h⟩
theorem sUse_eq {m : Mm} (hN : mmN m ≤ 1048576) {pg nd ri : Int} (hf : 1048576 < fl) : s_UsePage fl m pg nd ri = some (useR m pg nd ri) := by
 unfold s_UsePage useR
 rw [sMem_eq hN hf, s1Page, sRights_eq, sRights_eq]
 cases hm : memOk m with
 | false => simp [obs, mm0, mc0]
 | true =>
  cases hp : within pg 256 with
  | false => simp [obs, mm0, mc0]
  | true =>
   cases hn : rightsOk nd with
   | false => simp [obs, mm0, mc0]
   | true =>
    cases hr : rightsOk ri with
    | false => simp [obs, mm0, mc0]
    | true =>
     have hO := memOk_no hm
     have hM := hO.mo
     simp only [obs, Bool.not_true, cof, Bool.and_self, if_true]
     rw [sMCopy hN, sKeyFor]
     simp only [obs]
     have hk : keyOk (keyFor m.m.s pg) = true := keyFor_ok hM.space hp
     obtain ⟨sx, hs⟩ := sFind_eq (fl := fl) hM.t hk hf
     rw [hs]
     simp only [obs]
     by_cases h0 : findF m.m.t.f (keyFor m.m.s pg) < 0
     ·rw [decide_eq_true h0, cot, if_pos h0]
      obtain ⟨m1, e1, e2⟩ := sBring_eq (fl := fl) hO (pg := pg) (ri := ri) hf
      rw [e1]
      simp only [obs]
      cases hb : (bringR m pg ri).2 with
      | false => simp [mm0, mc0]
      | true =>
       obtain rfl := e2 hb
       have hB := bring_ok hO hb
       obtain ⟨i, hi, hfi, _, _⟩ := hB.find
       simp only [Bool.not_true, cof, if_true]
       rw [sTouch_eq (mc_len hB.mo) hf]
       simp only [obs]
       obtain ⟨t1, t2, t3, _⟩ := touch_found hB.mo (pg := pg) (nd := nd) hp hn (by omega)
       rw [t2, hfi, idx_nat (by rw [hB.len]; exact hi)]
       simp only [obs, cot]
       cases ((touchR (bringR m pg ri).1.m pg nd).2.2.1 == 2) <;> rfl
     ·rw [decide_eq_false h0, cof, if_neg h0]
      have hc : mcN m.m ≤ 1048576 := mc_len hM
      rw [sTouch_eq hc hf]
      simp only [obs]
      obtain ⟨t1, t2, t3, _⟩ := touch_found hM (pg := pg) (nd := nd) hp hn (by omega)
      obtain ⟨i, hi⟩ : ∃ i : Nat, findF m.m.t.f (keyFor m.m.s pg) = i := ⟨(findF m.m.t.f (keyFor m.m.s pg)).toNat, by omega⟩
      obtain ⟨hb, _, _⟩ := found_key hi
      rw [t2, hi, idx_nat (by rw [hO.k]; exact hb)]
      simp only [obs, cof]

theorem memOk_iff {m : Mm} : memOk m = true ↔ NO m ∧ ∀ i, i < m.k.length → m.k.getD i false = true → (m.m.t.f.getD i freeF).u = true := by
 constructor
 ·intro h
  refine ⟨memOk_no h, fun i hi hk => ?_⟩
  unfold memOk at h
  simp only [Bool.and_eq_true, upto_iff] at h
  have := h.2 i (by omega) (by omega)
  unfold markOk at this
  rw [hk] at this
  simpa using this
 ·rintro ⟨hN, hm⟩
  unfold memOk
  simp only [Bool.and_eq_true, upto_iff, within_iff, beq_iff_eq, machineOk_iff]
  refine ⟨⟨⟨hN.mo, by rw [hN.k]⟩, hN.h0, hN.h1⟩, fun i _ hi => ?_⟩
  unfold markOk
  cases hk : m.k.getD i false with
  | false => rfl
  | true => rw [hm i (by omega) hk]; rfl
theorem getD_set {k : List Bool} {a j : Nat} {b : Bool} : (k.set a b).getD j false = if a = j ∧ a < k.length then b else k.getD j false := by
 rw [List.getD_eq_getElem?_getD, List.getD_eq_getElem?_getD, List.getElem?_set]
 by_cases e : a = j
 ·subst e
  rw [if_pos rfl]
  by_cases hl : a < k.length
  ·rw [if_pos hl, if_pos ⟨rfl, hl⟩]; rfl
  ·rw [if_neg hl, if_neg (fun h => hl h.2), List.getElem?_eq_none (by omega)]
 ·rw [if_neg e, if_neg (fun h => e h.1)]
theorem Brought.mem {m : Mm} {pg ri : Int} {x : Mm} (hm : memOk m = true) (h : Brought m pg ri x) : memOk x = true := by
 obtain ⟨hN, hmk⟩ := memOk_iff.1 hm
 obtain ⟨c, i, hc, e1, e2, hi, hl, cm, e, hu, hk, _⟩ := h.pre
 have hlen : x.m.t.f.length = m.k.length := by rw [e, hN.k]; simp [mapT, hl]
 refine memOk_iff.2 ⟨⟨h.mo, by rw [h.len, hlen], h.h0.1, by rw [hlen]; exact h.h0.2⟩, fun j hj hkj => ?_⟩
 rw [e]
 simp only [mapT]
 rw [List.getD_eq_getElem?_getD, List.getElem?_set]
 have hcf := cm.hf
 by_cases eij : i = j
 ·subst eij; rw [if_pos rfl, if_pos hcf]; rfl
 ·rw [if_neg eij, ← List.getD_eq_getElem?_getD]
  exact hu j (fun e => eij e.symm) (hmk j (by rw [← h.len]; exact hj) (hk j hkj))
/-- a page that is there is touched, and its frame is marked -/
theorem touched_mem {x : Mm} (hx : memOk x = true) {pg nd : Int} (h1 : within pg 256 = true) (h2 : rightsOk nd = true) (h3 : 0 ≤ findF x.m.t.f (keyFor x.m.s pg)) : memOk ⟨(touchR x.m pg nd).1, x.k.set (findF x.m.t.f (keyFor x.m.s pg)).toNat true, x.h⟩ = true := by
 obtain ⟨hN, hmk⟩ := memOk_iff.1 hx
 obtain ⟨t1, t2, t3, t4, t5, t6⟩ := touch_found hN.mo h1 h2 h3
 obtain ⟨i, hi⟩ : ∃ i : Nat, findF x.m.t.f (keyFor x.m.s pg) = i := ⟨(findF x.m.t.f (keyFor x.m.s pg)).toNat, by omega⟩
 obtain ⟨hb, hu, _⟩ := found_key hi
 refine memOk_iff.2 ⟨⟨touch_MO t1, by simp [t3, hN.k], hN.h0, by simp only [t3]; exact hN.h1⟩, fun j hj hkj => ?_⟩
 simp only [t3, List.length_set, hi, Int.toNat_natCast] at hj hkj ⊢
 rw [getD_set] at hkj
 by_cases e : i = j
 ·subst e; simpa [hb] using hu
 ·rw [if_neg (fun h => e h.1)] at hkj; exact hmk j hj hkj
/-- what a use that goes well has done -/
structure Used (m : Mm) (pg nd ri : Int) (x : Mm) : Prop where
 mem : memOk x = true
 s : x.m.s = m.m.s
 g : x.m.g = m.m.g
 len : x.k.length = m.k.length
 f : 0 ≤ findF x.m.t.f (keyFor x.m.s pg)
 way : (0 ≤ findF m.m.t.f (keyFor m.m.s pg) ∧ x = m ∧ useR m pg nd ri = (⟨(touchR x.m pg nd).1, x.k.set (findF x.m.t.f (keyFor x.m.s pg)).toNat true, x.h⟩, findF x.m.t.f (keyFor x.m.s pg), (touchR x.m pg nd).2.2.1, true)) ∨
  (findF m.m.t.f (keyFor m.m.s pg) < 0 ∧ Brought m pg ri x ∧ useR m pg nd ri = (⟨(touchR x.m pg nd).1, x.k.set (findF x.m.t.f (keyFor x.m.s pg)).toNat true, x.h⟩, findF x.m.t.f (keyFor x.m.s pg), cond ((touchR x.m pg nd).2.2.1 == 2) 3 (touchR x.m pg nd).2.2.1, true))
theorem use_yes {m : Mm} {pg nd ri : Int} (h : (useR m pg nd ri).2.2.2 = true) : memOk m = true ∧ within pg 256 = true ∧ rightsOk nd = true ∧ rightsOk ri = true ∧ ∃ x, Used m pg nd ri x := by
 have h' := h
 unfold useR at h
 by_cases c : (memOk m && within pg 256 && rightsOk nd && rightsOk ri) = true
 ·have c' := c
  simp only [Bool.and_eq_true] at c'
  obtain ⟨⟨⟨c1, c2⟩, c3⟩, c4⟩ := c'
  refine ⟨c1, c2, c3, c4, ?_⟩
  have hO := memOk_no c1
  rw [if_pos c] at h
  by_cases h0 : findF m.m.t.f (keyFor m.m.s pg) < 0
  ·rw [if_pos h0] at h
   by_cases hb : (bringR m pg ri).2 = true
   ·have hB := bring_ok hO hb
    obtain ⟨i, hi, hfi, _, _⟩ := hB.find
    have hx := hB.mem c1
    obtain ⟨t1, t2, t3, t4, t5, t6⟩ := touch_found (memOk_no hx).mo (pg := pg) (nd := nd) c2 c3 (by omega)
    refine ⟨(bringR m pg ri).1, hx, hB.s, hB.g, hB.len, by omega, .inr ⟨h0, hB, ?_⟩⟩
    unfold useR
    rw [if_pos c, if_pos h0, if_pos hb, t2]
   ·rw [if_neg hb] at h; cases h
  ·obtain ⟨t1, t2, t3, t4, t5, t6⟩ := touch_found hO.mo (pg := pg) (nd := nd) c2 c3 (by omega)
   refine ⟨m, c1, rfl, rfl, rfl, by omega, .inl ⟨by omega, rfl, ?_⟩⟩
   unfold useR
   rw [if_pos c, if_neg h0, t2]
 ·rw [if_neg c] at h; cases h
theorem Used.res {m : Mm} {pg nd ri : Int} {x : Mm} (h : Used m pg nd ri x) : (useR m pg nd ri).1 = ⟨(touchR x.m pg nd).1, x.k.set (findF x.m.t.f (keyFor x.m.s pg)).toNat true, x.h⟩ ∧ (useR m pg nd ri).2.1 = findF x.m.t.f (keyFor x.m.s pg) := by
 rcases h.way with ⟨_, _, e⟩ | ⟨_, _, e⟩ <;> rw [e] <;> exact ⟨rfl, rfl⟩
theorem use_mem {m : Mm} {pg nd ri : Int} (h : (useR m pg nd ri).2.2.2 = true) : memOk (useR m pg nd ri).1 = true ∧ 1 ≤ (useR m pg nd ri).2.2.1 ∧ (useR m pg nd ri).2.2.1 ≤ 4 ∧ (useR m pg nd ri).1.m.s = m.m.s ∧ (useR m pg nd ri).1.m.g = m.m.g ∧ (useR m pg nd ri).1.k.length = m.k.length := by
 obtain ⟨c1, c2, c3, c4, x, hU⟩ := use_yes h
 obtain ⟨t1, t2, t3, t4, t5, t6⟩ := touch_found (memOk_no hU.mem).mo c2 c3 hU.f
 obtain ⟨e1, e2⟩ := hU.res
 have hlen := hU.len
 refine ⟨by rw [e1]; exact touched_mem hU.mem c2 c3 hU.f, ?_, ?_, by rw [e1]; simp only [t5]; exact hU.s, by rw [e1]; simp only [t4]; exact hU.g, by rw [e1]; simpa using hlen⟩
 ·rcases hU.way with ⟨_, _, e⟩ | ⟨_, _, e⟩ <;> rw [e] <;> rcases t6 with t6 | t6 | t6 <;> simp [t6]
 ·rcases hU.way with ⟨_, _, e⟩ | ⟨_, _, e⟩ <;> rw [e] <;> rcases t6 with t6 | t6 | t6 <;> simp [t6]
theorem mem_len {m : Mm} (h : memOk m = true) : mmN m ≤ 1000 ∧ 1 ≤ m.k.length := by
 have hO := memOk_no h
 obtain ⟨s1, s2, s3, s4⟩ := hO.mo.small
 have := hO.mo.t.f1
 have := hO.k
 simp only [mmN, mcN]; omega

/-! ### pages, one after the other -/
noncomputable def useL : List Int → Mm → List Int → Option (Mm × List Int)
 | [], m, c => some (m, c)
 | p :: l, m, c => if (useR m p 1 1).2.2.2 = true then useL l (useR m p 1 1).1 (c.set (useR m p 1 1).2.2.1.toNat (c.getD (useR m p 1 1).2.2.1.toNat 0 + 1)) else none
noncomputable def usesR (m : Mm) (l : List Int) : Mm × List Int × Bool :=
 if (memOk m && !decide (64 < (l.length : Int))) = true then (match useL l m (List.replicate 5 0) with | some (m', c) => (m', c, true) | none => (mm0, [], false)) else (mm0, [], false)
theorem cnt_in5 {c : List Int} (hc : c.length = 5) {o : Int} (h1 : 1 ≤ o) (h2 : o ≤ 4) : idx c o = some (c.getD o.toNat 0) := by
 obtain ⟨n, rfl⟩ : ∃ n : Nat, o = n := ⟨o.toNat, by omega⟩
 rw [idx_nat (by omega : n < c.length), Int.toNat_natCast]
 simp [show n < c.length by omega]
theorem cnt_step {c : List Int} {i j : Nat} (hc : ∀ x ∈ c, 0 ≤ x ∧ x ≤ (i : Int)) : ∀ x ∈ c.set j (c.getD j 0 + 1), 0 ≤ x ∧ x ≤ ((i + 1 : Nat) : Int) := fun x hx => by
 rcases List.mem_or_eq_of_mem_set hx with h | h
 ·have := hc x h; omega
 ·by_cases hj : j < c.length
  ·have := hc c[j] (List.getElem_mem hj)
   rw [h, show c.getD j 0 = c[j] from by simp [hj]]; omega
  ·rw [h, List.getD_eq_getElem?_getD, List.getElem?_eq_none (by omega)]; simp; omega
theorem cnt_ck {c : List Int} {i j : Nat} (hi : i ≤ 64) (hc : ∀ x ∈ c, 0 ≤ x ∧ x ≤ (i : Int)) : ck (c.getD j 0 + 1) = some (c.getD j 0 + 1) := by
 apply ck_in
 by_cases hj : j < c.length
 ·have := hc c[j] (List.getElem_mem hj)
  rw [show c.getD j 0 = c[j] from by simp [hj]]; omega
 ·rw [List.getD_eq_getElem?_getD, List.getElem?_eq_none (by omega)]; simp
theorem sUses_L0 {l : List Int} (hl : l.length ≤ 64) (hf : 1048576 < fl) : ∀ (fuel i : Nat) (m : Mm) (c : List Int), i ≤ l.length → l.length - i < fuel → memOk m = true → c.length = 5 → (∀ x ∈ c, 0 ≤ x ∧ x ≤ (i : Int)) →
  s_UsePages_L0 fl l fuel m.m.t.b m.m.t.f m.h m.m.c.l m.m.c.h m.m.g.c m.m.g.n m.m.g.r m.m.g.o m.m.s m.k c i = some (match useL (l.drop i) m c with | some (m', c') => .out (m'.m.t.b, m'.m.t.f, m'.h, m'.m.c.l, m'.m.c.h, m'.m.g.c, m'.m.g.n, m'.m.g.r, m'.m.g.o, m'.m.s, m'.k, c', (l.length : Int)) | none => .ret (mm0, [], false)) := by
 intro fuel
 induction fuel with
 | zero => intro i m c _ h; omega
 | succ fuel ih =>
  intro i m c hi hfu hm hc hx
  rw [s_UsePages_L0.eq_2]
  by_cases h : i < l.length
  ·rw [decide_eq_true (by omega : (i : Int) < (l.length : Int)), cot, idx_nat h]
   simp only [obs]
   have e : s_UsePage fl (⟨(⟨(⟨m.m.t.b, m.m.t.f⟩ : T), (⟨m.m.c.l, m.m.c.h⟩ : Ca), (⟨m.m.g.c, m.m.g.n, m.m.g.r, m.m.g.o⟩ : Tg), m.m.s⟩ : Mc), m.k, m.h⟩ : Mm) l[i] 1 1 = some (useR m l[i] 1 1) := sUse_eq (m := m) (by have := mem_len hm; omega) hf
   rw [e, List.drop_eq_getElem_cons h]
   simp only [obs, useL]
   cases hok : (useR m l[i] 1 1).2.2.2 with
   | false => simp [mm0, mc0]
   | true =>
    obtain ⟨u1, u2, u3, _⟩ := use_mem hok
    rw [Bool.not_true, cof, cnt_in5 hc u2 u3, if_pos rfl]
    simp only [obs]
    rw [cnt_ck (by omega) hx, ck_succ (by omega)]
    simp only [obs]
    exact ih (i + 1) _ _ (by omega) (by omega) u1 (by simp [hc]) (cnt_step hx)
  ·have e : i = l.length := by omega
   subst e
   rw [decide_eq_false (by omega), cof, List.drop_length]
   rfl
theorem sUses_eq {m : Mm} {l : List Int} (hN : mmN m ≤ 1048576) (hf : 1048576 < fl) : s_UsePages fl m l = some (usesR m l) := by
 unfold s_UsePages usesR
 rw [sMem_eq hN hf]
 simp only [obs]
 cases hm : memOk m with
 | false => simp [mm0, mc0]
 | true =>
  simp only [Bool.not_true, cof, obs, Bool.true_and]
  cases hl : decide (64 < (l.length : Int)) with
  | true => simp [mm0, mc0]
  | false =>
   have hl' := of_decide_eq_false hl
   rw [cof, sMCopy hN, show (5 : Int) = ((5 : Nat) : Int) from rfl, mkO_nat (by omega)]
   simp only [obs]
   have := sUses_L0 (fl := fl) (l := l) (by omega) hf fl 0 m (List.replicate 5 0) (by omega) (by omega) hm (by simp) (by simp)
   rw [show ((0 : Nat) : Int) = 0 from rfl, List.drop_zero] at this
   rw [this]
   simp only [obs]
   cases useL l m (List.replicate 5 0) with
   | none => rfl
   | some q => obtain ⟨a, b⟩ := q; rfl
theorem useL_mem : ∀ {l : List Int} {m : Mm} {c : List Int} {m' : Mm} {c' : List Int}, memOk m = true → useL l m c = some (m', c') → memOk m' = true ∧ m'.m.s = m.m.s ∧ m'.m.g = m.m.g ∧ m'.k.length = m.k.length ∧ c'.length = c.length
 | [], _, _, _, _, hm, e => by cases e; exact ⟨hm, rfl, rfl, rfl, rfl⟩
 | p :: l, m, c, m', c', hm, e => by
  unfold useL at e
  by_cases hok : (useR m p 1 1).2.2.2 = true
  ·rw [if_pos hok] at e
   obtain ⟨u1, u2, u3, u4, u5, u6⟩ := use_mem hok
   obtain ⟨a, b, d, f, g⟩ := useL_mem u1 e
   exact ⟨a, b.trans u4, d.trans u5, f.trans u6, g.trans (by simp)⟩
  ·rw [if_neg hok] at e; cases e
theorem uses_mem {m : Mm} {l : List Int} (h : (usesR m l).2.2 = true) : memOk m = true ∧ ¬ 64 < (l.length : Int) ∧ ∃ c, useL l m (List.replicate 5 0) = some ((usesR m l).1, c) ∧ (usesR m l).2.1 = c ∧ memOk (usesR m l).1 = true := by
 unfold usesR at h ⊢
 split
 ·rename_i q
  simp only [Bool.and_eq_true, Bool.not_eq_true', decide_eq_false_iff_not] at q
  rw [if_pos (by simp [q.1, q.2])] at h
  cases hu : useL l m (List.replicate 5 0) with
  | none => rw [hu] at h; cases h
  | some r =>
   obtain ⟨a, b⟩ := r
   exact ⟨q.1, q.2, b, rfl, rfl, (useL_mem q.1 hu).1⟩
 ·rename_i hn; rw [if_neg hn] at h; cases h

/-- sizes that the spoilings keep small -/
def SzW (n : Nat) (m : Mc) : Prop := 1 ≤ m.t.b.length ∧ m.t.b.length ≤ 16 + n ∧ m.t.f.length ≤ 16 ∧ m.c.l.length ≤ 16 ∧ m.g.o.length ≤ 16 + n
theorem wrong6g {l : List UInt8} (hl : l.length ≤ 2000) {p : Int} (hp : 0 ≤ p) (hp2 : p ≤ 300000) {n : Nat} (hn : n ≤ 10) {m : Mc} (hm : SzW n m) : ∃ m' p', s_l6Wrong fl l p m = some (m', p') ∧ SzW (n + 2) m' ∧ 0 ≤ p' ∧ p' ≤ p + 100 := by
 obtain ⟨s1, s2, s3, s4, s5⟩ := hm
 have hN : mcN m ≤ 1048576 := by unfold mcN; omega
 unfold s_l6Wrong
 rw [sCopy_eq hN]
 simp only [obs]
 obtain ⟨q, e2, _, _⟩ := pick_eq (fl := fl) (p := p) (n := 24) (by omega) (by omega) hl
 rw [e2]
 simp only [obs]
 cases (q == 0) with
 | true =>
  rw [cot]
  obtain ⟨y, _, e3⟩ := num_eq (fl := fl) (p := p + 1) (L := [9, (-1), 1]) (by omega) (by omega) hl (by simp)
  rw [e3]
  simp only [obs]
  exact ⟨_, _, rfl, ⟨s1, by simp only []; omega, s3, s4, by simp only []; omega⟩, by omega, by omega⟩
 | false =>
 rw [cof]
 cases (q == 1) with
 | true =>
  rw [cot]
  obtain ⟨c1, p1, e3, a1, a2, a3⟩ := wrong4_eq (fl := fl) hl (p := p + 1) (by omega) (by omega) (c := m.c) (by omega)
  rw [e3]
  simp only [obs]
  obtain ⟨c2, p2, e4, b1, b2, b3⟩ := wrong4_eq (fl := fl) hl (p := p1) (by omega) (by omega) (c := c1) (by omega)
  rw [e4]
  simp only [obs]
  exact ⟨_, _, rfl, ⟨s1, by simp only []; omega, s3, by simp only []; omega, by simp only []; omega⟩, by omega, by omega⟩
 | false =>
 rw [cof]
 cases (q == 2) with
 | true =>
  rw [cot]
  obtain ⟨c1, p1, e3, a1, a2, a3⟩ := wrong3g (fl := fl) hl (p := p + 1) (by omega) (by omega) (t := m.t) (by omega) (by omega)
  rw [e3]
  simp only [obs]
  obtain ⟨c2, p2, e4, b1, b2, b3⟩ := wrong3g (fl := fl) hl (p := p1) (by omega) (by omega) (t := c1) (by omega) (by omega)
  rw [e4]
  simp only [obs]
  exact ⟨_, _, rfl, ⟨by simp only []; omega, by simp only []; omega, by simp only []; omega, by simp only []; omega, by simp only []; omega⟩, by omega, by omega⟩
 | false =>
 rw [cof]
 cases (q == 3) with
 | true =>
  rw [cot]
  obtain ⟨c1, p1, e3, a1, a2, a3⟩ := wrong5_eq (fl := fl) hl (p := p + 1) (by omega) (by omega) (g := m.g) (by omega)
  rw [e3]
  simp only [obs]
  obtain ⟨c2, p2, e4, b1, b2, b3⟩ := wrong5_eq (fl := fl) hl (p := p1) (by omega) (by omega) (g := c1) (by omega)
  rw [e4]
  simp only [obs]
  exact ⟨_, _, rfl, ⟨s1, by simp only []; omega, s3, s4, by simp only []; omega⟩, by omega, by omega⟩
 | false => rw [cof]; exact ⟨_, _, rfl, ⟨s1, by omega, s3, s4, by omega⟩, by omega, by omega⟩
theorem pages7_L0 {l : List UInt8} (hl : l.length ≤ 2000) : ∀ (fuel n : Nat) (p : Int) (v : List Int), n < fuel → n ≤ 100 → 0 ≤ p → p ≤ 30000 - (n : Int) → v.length + n ≤ 200 →
  ∃ p' v' z, s_l7Pages_L0 fl l fuel p v (n : Int) = some (.out (p', v', z)) ∧ 0 ≤ p' ∧ p' ≤ 30000 ∧ v'.length ≤ 200 := by
 intro fuel
 induction fuel with
 | zero => intro n p v h; omega
 | succ fuel ih =>
  intro n p v hn hn2 hp hp2 hv
  rw [s_l7Pages_L0.eq_2]
  by_cases h0 : n = 0
  ·subst h0
   simp only [show decide (0 < ((0 : Nat) : Int)) = false from rfl, cof]
   exact ⟨_, _, _, rfl, hp, by omega, by omega⟩
  ·rw [decide_eq_true (by omega : 0 < (n : Int)), cot]
   obtain ⟨x, _, e⟩ := num_eq (fl := fl) (p := p) (L := [1, 2, 3, 4, 5, 6, 7, 200, 201]) hp (by omega) hl (by simp)
   rw [e]
   simp only [obs]
   rw [cnt_in (by simp; omega)]
   simp only [obs]
   have hck : ck ((n : Int) - 1) = some ((n - 1 : Nat) : Int) := by rw [ck_in (by omega)]; congr 1; omega
   rw [hck]
   simp only [obs]
   exact ih (n - 1) (p + 1) (v ++ [x]) (by omega) (by omega) (by omega) (by omega) (by simp; omega)
theorem pages7_eq {l : List UInt8} (hl : l.length ≤ 2000) (hf : 1048576 < fl) {p : Int} (hp : 0 ≤ p) (hp2 : p ≤ 20000) : ∃ v p', s_l7Pages fl l p = some (v, p') ∧ 0 ≤ p' ∧ p' ≤ 30000 ∧ v.length ≤ 200 := by
 unfold s_l7Pages
 obtain ⟨x, hx, e⟩ := num_eq (fl := fl) (p := p) (L := [5, 3, 8, 2, 12, 0]) hp (by omega) hl (by simp)
 rw [e]
 simp only [obs]
 have hx' : 0 ≤ x ∧ x ≤ 12 := by simp at hx; omega
 obtain ⟨n, rfl⟩ : ∃ n : Nat, x = n := ⟨x.toNat, by omega⟩
 obtain ⟨p', v', z, e2, a, b, c⟩ := pages7_L0 (fl := fl) hl fl n (p + 1) [] (by omega) (by omega) (by omega) (by omega) (by simp; omega)
 rw [e2]
 exact ⟨_, _, rfl, a, b, c⟩
theorem new_mem {m : Mc} (hM : MO m) : newMR m = (⟨m, List.replicate m.t.f.length false, 0⟩, true) ∧ memOk ⟨m, List.replicate m.t.f.length false, 0⟩ = true := by
 have := hM.t.f1
 refine ⟨by unfold newMR; rw [if_pos (machineOk_iff.2 hM)], memOk_iff.2 ⟨⟨hM, by simp, by simp, by simp only []; omega⟩, fun i hi hk => ?_⟩⟩
 simp only [List.length_replicate] at hi
 simp [hi] at hk
theorem clear_mem {m : Mm} (hm : memOk m = true) : clearR m = (⟨m.m, List.replicate m.k.length false, m.h⟩, true) ∧ memOk ⟨m.m, List.replicate m.k.length false, m.h⟩ = true := by
 have hO := memOk_no hm
 refine ⟨by unfold clearR; rw [if_pos hm], memOk_iff.2 ⟨⟨hO.mo, by simpa using hO.k, hO.h0, hO.h1⟩, fun i hi hk => ?_⟩⟩
 simp only [List.length_replicate] at hi
 simp [hi] at hk
theorem draw7_ok {l : List UInt8} (hl : l.length ≤ 2000) (hf : 1048576 < fl) : ∃ m p', s_l7Draw fl l 0 = some (m, p') ∧ memOk m = true ∧ 0 ≤ p' ∧ p' ≤ 40000 := by
 unfold s_l7Draw
 obtain ⟨m, p, e, hM, a, b⟩ := draw6_ok (fl := fl) hl hf (p := 0) (by omega) (by omega)
 rw [e]
 simp only [obs]
 obtain ⟨n1, n2⟩ := new_mem hM
 rw [sNewM_eq hM.sz.n hf, n1]
 simp only [obs]
 obtain ⟨v, p1, e1, a1, b1, c1⟩ := pages7_eq (fl := fl) hl hf (p := p) a (by omega)
 rw [e1]
 simp only [obs]
 have hN0 : mmN ⟨m, List.replicate m.t.f.length false, 0⟩ ≤ 1048576 := by have := mem_len n2; omega
 rw [sUses_eq hN0 hf]
 simp only [obs]
 obtain ⟨q, e2, _, _⟩ := pick_eq (fl := fl) (p := p1) (n := 3) (by omega) (by omega) hl
 rw [e2]
 simp only [obs]
 cases hok : (usesR ⟨m, List.replicate m.t.f.length false, 0⟩ v).2.2 with
 | true =>
  obtain ⟨_, _, c, _, _, hx⟩ := uses_mem hok
  rw [cot]
  cases (q == 0) with
  | true =>
   rw [cot, sClear_eq (by have := mem_len hx; omega) hf, (clear_mem hx).1]
   simp only [obs]
   exact ⟨_, _, rfl, (clear_mem hx).2, by omega, by omega⟩
  | false => rw [cof]; exact ⟨_, _, rfl, hx, by omega, by omega⟩
 | false =>
  rw [cof]
  cases (q == 0) with
  | true =>
   rw [cot, sClear_eq hN0 hf, (clear_mem n2).1]
   simp only [obs]
   exact ⟨_, _, rfl, (clear_mem n2).2, by omega, by omega⟩
  | false => rw [cof]; exact ⟨_, _, rfl, n2, by omega, by omega⟩
theorem wrong7_eq {l : List UInt8} (hl : l.length ≤ 2000) {p : Int} (hp : 0 ≤ p) (hp2 : p ≤ 40000) {m : Mm} (hm : memOk m = true) : ∃ m' p', s_l7Wrong fl l p m = some (m', p') ∧ mmN m' ≤ 1000 := by
 obtain ⟨hN, h1⟩ := mem_len hm
 have hO := memOk_no hm
 obtain ⟨s1, s2, s3, s4⟩ := hO.mo.small
 have hk := hO.k
 have hb1 := hO.mo.t.b1
 unfold s_l7Wrong
 rw [sMCopy (by omega)]
 simp only [obs]
 obtain ⟨q, e2, _, _⟩ := pick_eq (fl := fl) (p := p) (n := 20) (by omega) (by omega) hl
 rw [e2]
 simp only [obs]
 cases (q == 0) with
 | true =>
  rw [cot]
  obtain ⟨y, _, e3⟩ := num_eq (fl := fl) (p := p + 1) (L := [(-1), 16, 0]) (by omega) (by omega) hl (by simp)
  rw [e3]
  simp only [obs]
  exact ⟨_, _, rfl, hN⟩
 | false =>
 rw [cof]
 cases (q == 1) with
 | true =>
  rw [cot, cnt_in (by simp; omega)]
  simp only [obs]
  exact ⟨_, _, rfl, by simp only [mmN, mcN, List.length_append, List.length_singleton]; omega⟩
 | false =>
 rw [cof]
 cases (q == 2) with
 | true =>
  rw [cot]
  obtain ⟨m1, p1, e3, a1, a2, a3⟩ := wrong6g (fl := fl) hl (p := p + 1) (by omega) (by omega) (n := 0) (by omega) (m := m.m) ⟨hb1, by omega, by omega, by omega, by omega⟩
  rw [e3]
  simp only [obs]
  obtain ⟨m2, p2, e4, b1, b2, b3⟩ := wrong6g (fl := fl) hl (p := p1) (by omega) (by omega) (by omega) a1
  rw [e4]
  simp only [obs]
  obtain ⟨m3, p3, e5, c1, c2, c3⟩ := wrong6g (fl := fl) hl (p := p2) (by omega) (by omega) (by omega) b1
  rw [e5]
  simp only [obs]
  obtain ⟨z1, z2, z3, z4, z5⟩ := c1
  exact ⟨_, _, rfl, by simp only [mmN, mcN]; omega⟩
 | false =>
 rw [cof]
 cases (q == 3) with
 | true =>
  rw [cot]
  obtain ⟨r, e3, hr, _⟩ := pick_eq (fl := fl) (p := p + 1) (n := (m.k.length : Int)) (by omega) (by omega) hl
  rw [e3]
  simp only [obs]
  obtain ⟨r0, r1⟩ := hr (by omega)
  obtain ⟨g, _, hg⟩ := idx_in r0 r1
  rw [hg]
  simp only [obs]
  exact ⟨_, _, rfl, by simpa [mmN] using hN⟩
 | false => rw [cof]; exact ⟨_, _, rfl, hN⟩
theorem case7_eq (hf : 1048576 < fl) (l : List UInt8) : ∃ m, s_l7Case fl l = some m ∧ mmN m ≤ 1000 := by
 unfold s_l7Case
 have hl : (l.take 2000).length ≤ 2000 := by simp; omega
 obtain ⟨m, p, e, hm, a, b⟩ := draw7_ok (fl := fl) hl hf
 rw [e]
 simp only [obs]
 obtain ⟨m', p', e', s⟩ := wrong7_eq (fl := fl) hl (p := p) a (by omega) hm
 rw [e']
 exact ⟨_, rfl, s⟩
theorem drawUses_eq (hf : 1048576 < fl) (l : List UInt8) : ∃ m v, s_DrawUsePages fl l = some (m, v) ∧ mmN m ≤ 1000 ∧ v.length ≤ 300 := by
 unfold s_DrawUsePages
 have hl : (l.take 2000).length ≤ 2000 := by simp; omega
 obtain ⟨m, e, s⟩ := case7_eq hf l
 rw [e]
 simp only [obs]
 obtain ⟨v, p1, e1, a1, b1, c1⟩ := pages7_eq (fl := fl) hl hf (p := 0) (by omega) (by omega)
 rw [e1]
 simp only [obs]
 obtain ⟨q, e2, _, _⟩ := pick_eq (fl := fl) (p := p1) (n := 16) (by omega) (by omega) hl
 rw [e2]
 simp only [obs]
 cases (q == 0) with
 | true =>
  rw [cot]
  obtain ⟨y, _, e3⟩ := num_eq (fl := fl) (p := p1 + 1) (L := [(-1), 256]) (by omega) (by omega) hl (by simp)
  rw [e3]
  simp only [obs]
  rw [cnt_in (by simp; omega)]
  exact ⟨_, _, rfl, s, by simp; omega⟩
 | false => rw [cof]; exact ⟨_, _, rfl, s, by omega⟩

theorem iUse_eq {m : Mm} (hN : mmN m ≤ 1048576) {pg nd ri : Int} (hf : 1048576 < fl) : i_UsePage fl m pg nd ri = some (useR m pg nd ri) := by
 unfold i_UsePage useR
 rw [iMem_eq hN hf, within_eq, iRights_eq, iRights_eq]
 cases hm : memOk m with
 | false => simp [obs, mm0, mc0]
 | true =>
  cases hp : within pg 256 with
  | false => simp [obs, mm0, mc0]
  | true =>
   cases hn : rightsOk nd with
   | false => simp [obs, mm0, mc0]
   | true =>
    cases hr : rightsOk ri with
    | false => simp [obs, mm0, mc0]
    | true =>
     have hO := memOk_no hm
     have hM := hO.mo
     obtain ⟨s1, s2, s3, s4⟩ := hM.small
     have hk := hO.k
     have hc : mcN m.m ≤ 1048576 := mc_len hM
     simp only [obs, Bool.not_true, cof, Bool.and_self, if_true]
     rw [iMClone hN, iKeyFor]
     simp only [obs]
     rw [find_eq (by omega) hf]
     simp only [obs]
     by_cases h0 : findF m.m.t.f (keyFor m.m.s pg) < 0
     ·rw [decide_eq_true h0, cot, if_pos h0]
      unfold i_FreeFrame
      rw [iMem_eq hN hf, hm]
      simp only [obs, Bool.not_true, cof]
      rw [iFree (by omega) hf]
      simp only [obs]
      by_cases hfr : 0 ≤ freeI m.m.t.f
      ·rw [if_pos hfr]
       simp only [obs, Bool.not_true, cof, Int.toNat_of_nonneg hfr]
       rw [iPut_eq hc hf]
       simp only [obs]
       cases hq : (putR m.m (keyFor m.m.s pg) (freeI m.m.t.f) ri).2 with
       | false =>
        have hb : (bringR m pg ri).2 = false := by unfold bringR; rw [if_pos hfr, hq]; rfl
        rw [hb]; simp [mm0, mc0]
       | true =>
        have e : bringR m pg ri = (⟨(putR m.m (keyFor m.m.s pg) (freeI m.m.t.f) ri).1, m.k, m.h⟩, true) := by unfold bringR; rw [if_pos hfr, if_pos hq]
        have hb : (bringR m pg ri).2 = true := by rw [e]
        have hB := bring_ok hO hb
        obtain ⟨i, hi, hfi, _, _⟩ := hB.find
        obtain ⟨t1, t2, t3, _⟩ := touch_found hB.mo (pg := pg) (nd := nd) hp hn (by omega)
        rw [Bool.not_true, cof, if_pos hb, t2, hfi]
        rw [e] at hB t1 t2 hfi ⊢
        simp only [] at hB t1 t2 hfi ⊢
        rw [iTouch_eq (mc_len hB.mo) hf]
        simp only [obs]
        rw [t1, t2, hfi, idx_nat (by exact hi)]
        simp only [obs, Bool.not_true, cof, cot]
        cases ((touchR (putR m.m (keyFor m.m.s pg) (freeI m.m.t.f) ri).1 pg nd).2.2.1 == 2) <;> rfl
      ·rw [if_neg hfr]
       simp only [obs, Bool.not_false, cot]
       rw [iVict_eq hN hf]
       unfold victR
       rw [if_pos hm]
       simp only [obs]
       cases ht : tick m.m m.k.length m.h.toNat m.k (2 * m.k.length) with
       | none =>
        have hb : (bringR m pg ri).2 = false := by unfold bringR; rw [if_neg hfr, ht]
        rw [hb]; simp [mm0, mc0]
       | some q =>
        obtain ⟨a, h', k'⟩ := q
        have g0 := hO.h0
        have g1 := hO.h1
        obtain ⟨q1, q2, q3, q4, q5, q6, q7⟩ := tick_spec (by omega) ht (by omega) rfl
        have ha : a < m.m.t.f.length := by omega
        have ga : m.m.t.f.getD a freeF = m.m.t.f[a] := by simp [ha]
        simp only [Bool.not_true, cof]
        rw [idx_nat ha]
        simp only [obs]
        rw [iTake_eq hc hf, ← ga]
        simp only [obs]
        cases htk : (takeR m.m (m.m.t.f.getD a freeF).k).2 with
        | false =>
         have hno : machineOk (takeR m.m (m.m.t.f.getD a freeF).k).1 = false := by
          cases h : machineOk (takeR m.m (m.m.t.f.getD a freeF).k).1 with
          | false => rfl
          | true => rw [(take_s h).1] at htk; cases htk
         have hb : (bringR m pg ri).2 = false := by
          unfold bringR
          rw [if_neg hfr, ht]
          simp only []
          cases hq : (putR (takeR m.m (m.m.t.f.getD a freeF).k).1 (keyFor m.m.s pg) a ri).2 with
          | false => rfl
          | true => rw [putR_arg hq] at hno; cases hno
         rw [hb]; simp [mm0, mc0]
        | true =>
         simp only [Bool.not_true, cof]
         rw [iPut_eq (takeR_len hc) hf]
         simp only [obs]
         cases hq : (putR (takeR m.m (m.m.t.f.getD a freeF).k).1 (keyFor m.m.s pg) a ri).2 with
         | false =>
          have hb : (bringR m pg ri).2 = false := by unfold bringR; rw [if_neg hfr, ht]; simp only []; rw [hq]; rfl
          rw [hb]; simp [mm0, mc0]
         | true =>
          have e : bringR m pg ri = (⟨(putR (takeR m.m (m.m.t.f.getD a freeF).k).1 (keyFor m.m.s pg) a ri).1, k', (h' : Int)⟩, true) := by unfold bringR; rw [if_neg hfr, ht]; simp only []; rw [if_pos hq]
          have hb : (bringR m pg ri).2 = true := by rw [e]
          have hB := bring_ok hO hb
          obtain ⟨i, hi, hfi, _, _⟩ := hB.find
          obtain ⟨t1, t2, t3, _⟩ := touch_found hB.mo (pg := pg) (nd := nd) hp hn (by omega)
          rw [Bool.not_true, cof, if_pos hb, t2, hfi]
          rw [e] at hB t1 t2 hfi ⊢
          simp only [] at hB t1 t2 hfi ⊢
          rw [iTouch_eq (mc_len hB.mo) hf]
          simp only [obs]
          rw [t1, t2, hfi, idx_nat (by rw [q6]; exact hi)]
          simp only [obs, Bool.not_true, cof, cot]
          cases ((touchR (putR (takeR m.m (m.m.t.f.getD a freeF).k).1 (keyFor m.m.s pg) a ri).1 pg nd).2.2.1 == 2) <;> rfl
     ·rw [decide_eq_false h0, cof, if_neg h0]
      rw [iTouch_eq hc hf]
      simp only [obs]
      obtain ⟨t1, t2, t3, _⟩ := touch_found hM (pg := pg) (nd := nd) hp hn (by omega)
      obtain ⟨i, hi⟩ : ∃ i : Nat, findF m.m.t.f (keyFor m.m.s pg) = i := ⟨(findF m.m.t.f (keyFor m.m.s pg)).toNat, by omega⟩
      obtain ⟨hb, _, _⟩ := found_key hi
      rw [t1, t2, hi, idx_nat (by rw [hO.k]; exact hb)]
      simp only [obs, Bool.not_true, cof]

/-- a page that was brought in has no line yet -/
theorem brought_noline {m : Mm} {pg ri : Int} {x : Mm} (h : Brought m pg ri x) : fx (fits (tagR x.m x.m.s pg).1 pg) x.m.c.l 0 < 0 := by
 obtain ⟨c, i, hc, e1, e2, hi, hl, cm, e, _⟩ := h.pre
 have hk : keyFor m.m.s pg = keyFor (keyFor m.m.s pg).s (keyFor m.m.s pg).p := by
  unfold keyFor
  by_cases h128 : 128 ≤ pg
  ·simp [h128]
  ·simp [h128]
 have hno := no_line hc hk cm.hn
 have htag : tagR x.m x.m.s pg = tagR c (keyFor m.m.s pg).s (keyFor m.m.s pg).p := by
  rw [h.s, e]
  unfold tagR keyFor
  by_cases h128 : 128 ≤ pg
  ·simp [h128]
  ·simp [h128]
 have hp : (keyFor m.m.s pg).p = pg := by unfold keyFor; cases decide (128 ≤ pg) <;> rfl
 have hown : (tagR x.m x.m.s pg).2 = true := tagR_own h.mo pg
 rw [htag] at hown ⊢
 have hcl : x.m.c = c.c := by rw [e]
 rw [hcl]
 rw [hp] at hno ⊢
 rw [hp] at hown
 have hb := (fx_bd (p := fits (tagR c (keyFor m.m.s pg).s pg).1 pg) (l := c.c.l)).1
 by_cases h0 : 0 ≤ fx (fits (tagR c (keyFor m.m.s pg).s pg).1 pg) c.c.l 0
 ·exact absurd ⟨hown, h0⟩ hno
 ·omega
theorem iUses_L0 {l : List Int} (hl : l.length ≤ 64) (hf : 1048576 < fl) : ∀ (fuel i : Nat) (m : Mm) (c : List Int), i ≤ l.length → l.length - i < fuel → memOk m = true → c.length = 5 → (∀ x ∈ c, 0 ≤ x ∧ x ≤ (i : Int)) →
  i_UsePages_L0 fl l fuel m.m.t.b m.m.t.f m.h m.m.c.l m.m.c.h m.m.g.c m.m.g.n m.m.g.r m.m.g.o m.m.s m.k c i = some (match useL (l.drop i) m c with | some (m', c') => .out (m'.m.t.b, m'.m.t.f, m'.h, m'.m.c.l, m'.m.c.h, m'.m.g.c, m'.m.g.n, m'.m.g.r, m'.m.g.o, m'.m.s, m'.k, c', (l.length : Int)) | none => .ret (mm0, [], false)) := by
 intro fuel
 induction fuel with
 | zero => intro i m c _ h; omega
 | succ fuel ih =>
  intro i m c hi hfu hm hc hx
  rw [i_UsePages_L0.eq_2]
  by_cases h : i < l.length
  ·rw [decide_eq_true (by omega : (i : Int) < (l.length : Int)), cot, idx_nat h]
   simp only [obs]
   have e : i_UsePage fl (⟨(⟨(⟨m.m.t.b, m.m.t.f⟩ : T), (⟨m.m.c.l, m.m.c.h⟩ : Ca), (⟨m.m.g.c, m.m.g.n, m.m.g.r, m.m.g.o⟩ : Tg), m.m.s⟩ : Mc), m.k, m.h⟩ : Mm) l[i] 1 1 = some (useR m l[i] 1 1) := iUse_eq (m := m) (by have := mem_len hm; omega) hf
   rw [e, List.drop_eq_getElem_cons h]
   simp only [obs, useL]
   cases hok : (useR m l[i] 1 1).2.2.2 with
   | false => simp [mm0, mc0]
   | true =>
    obtain ⟨u1, u2, u3, _⟩ := use_mem hok
    rw [Bool.not_true, cof, cnt_in5 hc u2 u3, if_pos rfl]
    simp only [obs]
    rw [cnt_ck (by omega) hx, ck_succ (by omega)]
    simp only [obs]
    exact ih (i + 1) _ _ (by omega) (by omega) u1 (by simp [hc]) (cnt_step hx)
  ·have e : i = l.length := by omega
   subst e
   rw [decide_eq_false (by omega), cof, List.drop_length]
   rfl
theorem iUses_eq {m : Mm} {l : List Int} (hN : mmN m ≤ 1048576) (hf : 1048576 < fl) : i_UsePages fl m l = some (usesR m l) := by
 unfold i_UsePages usesR
 rw [iMem_eq hN hf]
 simp only [obs]
 cases hm : memOk m with
 | false => simp [mm0, mc0]
 | true =>
  simp only [Bool.not_true, cof, obs, Bool.true_and]
  cases hl : decide (64 < (l.length : Int)) with
  | true => simp [mm0, mc0]
  | false =>
   have hl' := of_decide_eq_false hl
   rw [cof, iMClone hN, show (5 : Int) = ((5 : Nat) : Int) from rfl, mkO_nat (by omega)]
   simp only [obs]
   have := iUses_L0 (fl := fl) (l := l) (by omega) hf fl 0 m (List.replicate 5 0) (by omega) (by omega) hm (by simp) (by simp)
   rw [show ((0 : Nat) : Int) = 0 from rfl, List.drop_zero] at this
   rw [this]
   simp only [obs]
   cases useL l m (List.replicate 5 0) with
   | none => rfl
   | some q => obtain ⟨a, b⟩ := q; rfl
theorem ipInts_self {v : List Int} (h : v.length ≤ 1048576) (hf : 1048576 < fl) : l_ipInts fl v v = some true := by
 unfold l_ipInts
 have := eqLoop (L := l_ipInts_L0 fl v v) (l := v)
  (fun fuel i h => by
   rw [l_ipInts_L0.eq_2, decide_eq_true (by omega : (i : Int) < (v.length : Int)), cot, idx_nat h]
   simp only [obs, bne_self_eq_false, cof]
   rw [ck_succ (by omega)]; simp only [obs])
  (fun fuel => by rw [l_ipInts_L0.eq_2, decide_eq_false (by omega), cof]) fl 0 (by omega) (by omega)
 rw [show ((0 : Nat) : Int) = 0 from rfl] at this
 simp only [bne_self_eq_false, cof, this, obs]
theorem usesR_len {m : Mm} {l : List Int} : mmN (usesR m l).1 ≤ 1048576 ∧ (usesR m l).2.1.length ≤ 5 := by
 cases h : (usesR m l).2.2 with
 | true =>
  obtain ⟨h1, _, c, e, e2, hx⟩ := uses_mem h
  have := (mem_len hx).1
  have := (useL_mem h1 e).2.2.2.2
  rw [e2, this]
  simp; omega
 | false =>
  have e : usesR m l = (mm0, [], false) := by
   unfold usesR at h ⊢
   split
   ·rename_i c
    rw [if_pos c] at h
    cases hu : useL l m (List.replicate 5 0) with
    | none => rfl
    | some q => obtain ⟨a, b⟩ := q; rw [hu] at h; cases h
   ·rfl
  rw [e]; simp [mmN, mm0, mcN, mc0]

/-- the keys that are there -/
def has (m : Mm) (k : K) : Prop := 0 ≤ findF m.m.t.f k
theorem keyFor_inj {s p q : Int} (h : keyFor s p = keyFor s q) : p = q := by
 have e : ∀ p, (keyFor s p).p = p := fun p => by unfold keyFor; cases decide (128 ≤ p) <;> rfl
 rw [← e p, h, e]
theorem has_iff {l : List F} {k : K} : 0 ≤ findF l k ↔ ∃ j, ∃ hj : j < l.length, l[j].u = true ∧ l[j].k = k := by
 constructor
 ·intro h
  obtain ⟨i, hi⟩ : ∃ i : Nat, findF l k = i := ⟨(findF l k).toNat, by omega⟩
  obtain ⟨hb, hu, hk⟩ := found_key hi
  exact ⟨i, hb, hu, hk⟩
 ·rintro ⟨j, hj, hu, hk⟩
  rcases findF_spec l k with ⟨e, hn⟩ | ⟨q, hq, e, _⟩
  ·have := hn _ (List.getElem_mem hj)
   unfold hasKey at this
   rw [hu, hk] at this
   simp at this
  ·rw [e]; omega
/-- what is there behind a use was there, or is the page -/
theorem use_has {m : Mm} {pg nd ri : Int} (h : (useR m pg nd ri).2.2.2 = true) {k : K} (hk : has (useR m pg nd ri).1 k) : has m k ∨ k = keyFor m.m.s pg := by
 obtain ⟨c1, c2, c3, c4, x, hU⟩ := use_yes h
 obtain ⟨t1, t2, t3, t4, t5, t6⟩ := touch_found (memOk_no hU.mem).mo c2 c3 hU.f
 obtain ⟨e1, e2⟩ := hU.res
 have htf : (useR m pg nd ri).1.m.t = x.m.t := by rw [e1]; exact t3
 unfold has at hk ⊢
 rw [htf] at hk
 rcases hU.way with ⟨w1, w2, w3⟩ | ⟨w1, w2, w3⟩
 ·subst w2; exact .inl hk
 ·obtain ⟨c, i, hc, q1, q2, hi, hl, cm, e, hu, _, hcu⟩ := w2.pre
  obtain ⟨j, hj, hju, hjk⟩ := has_iff.1 hk
  have hxl : x.m.t.f.length = m.m.t.f.length := by rw [e]; simp [mapT, hl]
  by_cases eij : i = j
  ·subst eij
   right
   have hcf := cm.hf
   have : (x.m.t.f[i]).k = keyFor m.m.s pg := by simp only [e, mapT, List.getElem_set_self]
   rw [← hjk, this]
  ·left
   have hjc : j < c.t.f.length := by omega
   have : x.m.t.f[j] = c.t.f[j] := by simp only [e, mapT, List.getElem_set]; rw [if_neg eij]
   rw [this] at hju hjk
   have gc : c.t.f.getD j freeF = c.t.f[j] := by simp [hjc]
   have hjm : j < m.m.t.f.length := by omega
   have gm : m.m.t.f.getD j freeF = m.m.t.f[j] := by simp [hjm]
   obtain ⟨z1, z2⟩ := hcu j hjm (by rw [gc]; exact hju)
   rw [gm] at z1 z2
   rw [gc] at z2
   exact has_iff.2 ⟨j, hjm, z1, by rw [← z2]; exact hjk⟩
theorem use_missing {m : Mm} {pg : Int} (h : (useR m pg 1 1).2.2.2 = true) (hn : ¬ has m (keyFor m.m.s pg)) : (useR m pg 1 1).2.2.1 = 3 := by
 obtain ⟨c1, c2, c3, c4, x, hU⟩ := use_yes h
 obtain ⟨t1, t2, t3, t4, t5, t6⟩ := touch_found (memOk_no hU.mem).mo c2 c3 hU.f
 have hs : x.m.s = m.m.s := hU.s
 rcases hU.way with ⟨w1, w2, w3⟩ | ⟨w1, w2, w3⟩
 ·exact absurd w1 hn
 ·have hx := brought_noline w2
  obtain ⟨i, hi, hfi, hri, _⟩ := w2.find
  rw [w3]
  obtain ⟨_, _, _, ⟨a, b, e⟩ | ⟨a, b, e⟩ | ⟨a, b, e⟩⟩ := touch_cases t1
  ·omega
  ·have := hU.f; omega
  ·rw [e]; simp only []
   have : allowsR (x.m.t.f.getD (findF x.m.t.f (keyFor x.m.s pg)).toNat freeF).r 1 = true := by rw [hfi, Int.toNat_natCast, hri]; decide
   rw [this]; rfl
/-- how many places of a list are first uses of pages that are not there -/
def firsts (P : Int → Bool) : List Int → List Int → Nat
 | _, [] => 0
 | seen, p :: l => (if P p && !(decide (p ∈ seen)) then 1 else 0) + firsts P (p :: seen) l
theorem useL_counts {m0 : Mm} : ∀ {l : List Int} {m : Mm} {c : List Int} {m' : Mm} {c' : List Int} {seen : List Int}, memOk m = true → c.length = 5 → useL l m c = some (m', c') → m.m.s = m0.m.s → (∀ k, has m k → has m0 k ∨ ∃ q ∈ seen, k = keyFor m0.m.s q) →
  c.getD 3 0 + (firsts (fun p => decide (findF m0.m.t.f (keyFor m0.m.s p) < 0)) seen l : Nat) ≤ c'.getD 3 0
 | [], _, _, _, _, _, _, _, e, _, _ => by cases e; simp [firsts]
 | p :: l, m, c, m', c', seen, hm, hc, e, hs, hk => by
  unfold useL at e
  by_cases hok : (useR m p 1 1).2.2.2 = true
  ·rw [if_pos hok] at e
   obtain ⟨u1, u2, u3, u4, _⟩ := use_mem hok
   have ih := useL_counts (m0 := m0) (seen := p :: seen) u1 (by simp [hc]) e (by rw [u4, hs]) (fun k hk' => by
    rcases use_has hok hk' with h | h
    ·rcases hk k h with h | ⟨q, hq, e⟩
     ·exact .inl h
     ·exact .inr ⟨q, by simp [hq], e⟩
    ·exact .inr ⟨p, by simp, by rw [h, hs]⟩)
   unfold firsts
   generalize ho : (useR m p 1 1).2.2.1 = o at ih u2 u3
   have hset : (c.set o.toNat (c.getD o.toNat 0 + 1)).getD 3 0 = c.getD 3 0 + (if o = 3 then 1 else 0) := by
    rw [List.getD_eq_getElem?_getD, List.getElem?_set]
    by_cases e3 : o = 3
    ·subst e3; simp [hc]
    ·rw [if_neg (by omega), if_neg e3, ← List.getD_eq_getElem?_getD]; omega
   rw [hset] at ih
   by_cases hfst : (decide (findF m0.m.t.f (keyFor m0.m.s p) < 0) && !(decide (p ∈ seen))) = true
   ·simp only [Bool.and_eq_true, Bool.not_eq_true', decide_eq_true_eq, decide_eq_false_iff_not] at hfst
    have hno : ¬ has m (keyFor m.m.s p) := fun h => by
     rw [hs] at h
     rcases hk _ h with h | ⟨q, hq, e⟩
     ·unfold has at h; omega
     ·rw [keyFor_inj e] at hfst; exact hfst.2 hq
    have h3 := use_missing hok hno
    rw [ho] at h3
    rw [if_pos h3] at ih
    rw [if_pos (by simp [hfst.1, hfst.2])]
    omega
   ·rw [if_neg hfst]
    split at ih <;> omega
  ·rw [if_neg hok] at e; cases e
theorem trace_L1 {m : Mm} {v : List Int} (hv : v.length ≤ 1048576) {i : Nat} (hi : i < v.length) : ∀ (fuel j : Nat) (b : Bool), j ≤ i → i - j < fuel → b = !decide (v[i] ∈ v.take j) →
  l_FnUseTrace_L1 fl (m, v) (i : Int) fuel b (j : Int) = some (.out (!decide (v[i] ∈ v.take i), (i : Int))) := by
 intro fuel
 induction fuel with
 | zero => intro j b _ h; omega
 | succ fuel ih =>
  intro j b hj hfu hb
  rw [l_FnUseTrace_L1.eq_2]
  by_cases h : j < i
  ·rw [decide_eq_true (by omega : (j : Int) < (i : Int)), cot, ck_succ (by omega)]
   have hjl : j < v.length := by omega
   have e : (cond b (Option.bind (idx v (j : Int)) fun x96 => Option.bind (idx v (i : Int)) fun x97 => some (x96 != x97)) (some false)) = some (!decide (v[i] ∈ v.take (j + 1))) := by
    have hmt : v[i] ∈ v.take (j + 1) ↔ v[i] ∈ v.take j ∨ v[i] = v[j] := by rw [List.take_succ_eq_append_getElem hjl, List.mem_append, List.mem_singleton]
    rw [idx_nat hjl, idx_nat hi]
    subst hb
    by_cases h1 : v[i] ∈ v.take j
    ·simp [h1, hmt]
    ·by_cases h2 : v[i] = v[j]
     ·have h3 : v[j] = v[i] := h2.symm
      rw [decide_eq_false h1, decide_eq_true (hmt.2 (.inr h2))]
      simp [h3]
     ·have h3 : ¬ v[j] = v[i] := fun e => h2 e.symm
      rw [decide_eq_false h1, decide_eq_false (fun h => (hmt.1 h).elim h1 h2)]
      simp [h3]
   simp only [] at e ⊢
   rw [e]
   simp only [obs]
   exact ih (j + 1) _ (by omega) (by omega) rfl
  ·have : j = i := by omega
   subst this
   rw [decide_eq_false (by omega), cof, hb]
theorem trace_L0 {m : Mm} (hm : memOk m = true) {v : List Int} (hv : v.length ≤ 64) (hp : ∀ p ∈ v, within p 256 = true) (hf : 1048576 < fl) : ∀ (fuel i : Nat) (n : Nat), i ≤ v.length → v.length - i < fuel → n ≤ i →
  l_FnUseTrace_L0 fl (m, v) fuel (n : Int) (i : Int) = some (.out (((n + firsts (fun p => decide (findF m.m.t.f (keyFor m.m.s p) < 0)) (v.take i) (v.drop i) : Nat) : Int), (v.length : Int))) := by
 have hO := memOk_no hm
 intro fuel
 induction fuel with
 | zero => intro i n _ h; omega
 | succ fuel ih =>
  intro i n hi hfu hn
  rw [l_FnUseTrace_L0.eq_2]
  by_cases h : i < v.length
  ·have hmem := hp v[i] (List.getElem_mem h)
   have hk : keyOk (keyFor m.m.s v[i]) = true := keyFor_ok hO.mo.space hmem
   obtain ⟨s, f1, f2⟩ := iFindPage_eq (fl := fl) hO.mo.t hk hf
   rw [decide_eq_true (by omega : (i : Int) < (v.length : Int)), cot]
   have h1 := trace_L1 (fl := fl) (m := m) (v := v) (by omega) h fl 0 true (by omega) (by omega) (by simp)
   rw [show ((0 : Nat) : Int) = 0 from rfl] at h1
   rw [h1]
   simp only [obs]
   rw [idx_nat h]
   simp only [obs, iKeyFor]
   have hperm : ∀ (P : Int → Bool) (a b l : List Int), (∀ x, x ∈ a ↔ x ∈ b) → firsts P a l = firsts P b l := by
    intro P a b l
    induction l generalizing a b with
    | nil => intro _; rfl
    | cons q l ihl =>
     intro hab
     unfold firsts
     rw [ihl (q :: a) (q :: b) (fun x => by simp [hab x])]
     congr 1
     by_cases hq : q ∈ a
     ·simp [hq, (hab q).1 hq]
     ·have hqb : ¬ q ∈ b := fun h => hq ((hab q).2 h)
      rw [decide_eq_false hq, decide_eq_false hqb]
   have hdrop : firsts (fun p => decide (findF m.m.t.f (keyFor m.m.s p) < 0)) (v.take i) (v.drop i) = (if decide (findF m.m.t.f (keyFor m.m.s v[i]) < 0) && !(decide (v[i] ∈ v.take i)) then 1 else 0) + firsts (fun p => decide (findF m.m.t.f (keyFor m.m.s p) < 0)) (v.take (i + 1)) (v.drop (i + 1)) := by
    rw [List.drop_eq_getElem_cons h]
    conv => lhs; unfold firsts
    congr 1
    exact hperm _ _ _ _ fun x => by rw [List.take_succ_eq_append_getElem h, List.mem_append, List.mem_singleton, List.mem_cons, or_comm]
   rw [hdrop]
   by_cases h0 : findF m.m.t.f (keyFor m.m.s v[i]) < 0
   ·rw [f2 h0]
    simp only [obs, Bool.not_false]
    rw [decide_eq_true h0, Bool.true_and]
    cases hd : (!decide (v[i] ∈ v.take i)) with
    | true =>
     rw [cot]
     simp only [obs, cot]
     rw [ck_succ (by omega), ck_succ (by omega)]
     simp only [obs]
     rw [ih (i + 1) (n + 1) (by omega) (by omega) (by omega)]
     simp only [if_true]
     congr 3
     omega
    | false =>
     rw [cof]
     simp only [obs, cof]
     rw [ck_succ (by omega)]
     simp only [obs]
     rw [ih (i + 1) n (by omega) (by omega) (by omega)]
     simp
   ·rw [f1 (by omega)]
    simp only [obs, Bool.not_true]
    rw [decide_eq_false h0, Bool.false_and]
    have : (cond (!decide (v[i] ∈ v.take i)) (some false) (some false) : Option Bool) = some false := by cases (!decide (v[i] ∈ v.take i)) <;> rfl
    rw [this]
    simp only [obs, cof]
    rw [ck_succ (by omega)]
    simp only [obs]
    rw [ih (i + 1) n (by omega) (by omega) (by omega)]
    simp
  ·have e : i = v.length := by omega
   subst e
   rw [decide_eq_false (by omega : ¬ ((v.length : Int) < (v.length : Int))), cof, List.drop_length]
   simp [firsts]
theorem useL_pages : ∀ {l : List Int} {m : Mm} {c : List Int} {q : Mm × List Int}, useL l m c = some q → ∀ p ∈ l, within p 256 = true
 | [], _, _, _, _, p, h => by cases h
 | p0 :: l, m, c, q, e, p, h => by
  unfold useL at e
  by_cases hok : (useR m p0 1 1).2.2.2 = true
  ·rw [if_pos hok] at e
   rcases List.mem_cons.1 h with h | h
   ·rw [h]; exact (use_yes hok).2.1
   ·exact useL_pages e p h
  ·rw [if_neg hok] at e; cases e
theorem useTrace_true (l : List UInt8) : l_FnUseTrace 1048577 l = some true := by
 have hf : 1048576 < 1048577 := by decide
 generalize hfl : 1048577 = fl at hf
 unfold l_FnUseTrace
 by_cases hbig : 1048576 < (l.length : Int)
 ·rw [decide_eq_true hbig, cot]
 rw [decide_eq_false hbig, cof]
 obtain ⟨m, v, e, hl, hv⟩ := drawUses_eq hf l
 rw [e]
 simp only [obs]
 rw [iUses_eq (by omega) hf]
 simp only [obs]
 rw [sUses_eq (by omega) hf]
 simp only [obs]
 obtain ⟨hN, hc⟩ := usesR_len (m := m) (l := v)
 rw [sameMm hN hf]
 simp only [obs, Bool.not_true, cof]
 rw [ipInts_self (by omega) hf]
 simp only [obs, Bool.not_true, cof, bne_self_eq_false, beq_self_eq_true, cot]
 cases hy : (usesR m v).2.2 with
 | false => simp only [Bool.not_false, cot, obs]
 | true =>
  simp only [Bool.not_true, cof, obs]
  obtain ⟨h1, h2, c, e1, e2, hx⟩ := uses_mem hy
  have hlen := (useL_mem h1 e1).2.2.2.2
  have hcnt := useL_counts (m0 := m) (seen := []) h1 (by simp) e1 rfl (fun k h => .inl h)
  have := trace_L0 (fl := fl) h1 (v := v) (by omega) (useL_pages e1) hf fl 0 0 (by omega) (by omega) (by omega)
  rw [show ((0 : Nat) : Int) = 0 from rfl] at this
  rw [this]
  simp only [obs, List.take_zero, List.drop_zero, Nat.zero_add]
  rw [e2, show (3 : Int) = ((3 : Nat) : Int) from rfl, idx_nat (by rw [hlen]; simp)]
  simp only [obs]
  congr 1
  apply decide_eq_true
  have e3 : c.getD 3 0 = c[3]'(by rw [hlen]; simp) := by simp [hlen]
  rw [e3] at hcnt
  simp at hcnt
  exact hcnt
end Go.Proofs.YtbfbfkpcabkchaaGreatDoor
