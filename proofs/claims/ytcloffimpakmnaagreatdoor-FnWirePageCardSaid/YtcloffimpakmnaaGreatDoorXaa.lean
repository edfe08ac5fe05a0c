/- The plain laws that wirePage_true rests on. -/
import Derived.Test.YtcloffimpakmnaaGreatDoorXp
import Derived.Test.YtcloffimpakmnaaGreatDoorPure2
import Derived.Test.YtcloffimpakmnaaGreatDoorCpy
set_option linter.unusedSimpArgs false
set_option linter.unusedVariables false
namespace Go.Proofs.YtcloffimpakmnaaGreatDoor
open Go.RowKit
variable {fl : Nat}
theorem obs {α β : Type} {x : α} {f : α → Option β} : Option.bind (some x) f = f x := by rw [Option.bind_some]
theorem cof {α : Type} {x y : α} : cond false x y = y := by rw [cond_false]
theorem cot {α : Type} {x y : α} : cond true x y = x := by rw [cond_true]
theorem c1 (n : Nat) (h : n ≤ 16777216) : ck ((n : Int) + 1) = some ((n + 1 : Nat) : Int) := by rw [ck_in (by omega)]; rfl
theorem ck_succ {n : Nat} (h : n ≤ 2097152) : ck ((n : Int) + 1) = some ((n + 1 : Nat) : Int) := by rw [ck_in (by omega)]; rfl

theorem mkO_nat {n : Nat} (h : n ≤ 1048576) : mkO (n : Int) = some n := by
 unfold mkO; rw [if_pos (by simp [maxLen]; omega)]; simp

theorem within_eq (a b : Int) : i_within fl a b = some (within a b) := by
 unfold i_within within; cases decide (0 ≤ a) <;> rfl
theorem iRights_eq (r : Int) : i_RightsValid fl r = some (rightsOk r) := by
 unfold i_RightsValid rightsOk; rw [within_eq]; rfl
theorem sKey_eq (k : K) : s_KeyValid fl k = some (keyOk k) := by
 unfold s_KeyValid keyOk s_l1Space s_l1Page within
 cases decide (0 ≤ k.s) <;> cases decide (k.s < 16) <;> cases decide (0 ≤ k.p) <;> rfl
theorem sRights_eq (r : Int) : s_RightsValid fl r = some (rightsOk r) := by
 unfold s_RightsValid rightsOk within
 rw [show decide (r ≤ 7) = decide (r < 8) from by congr 1; apply propext; omega]
 cases decide (0 ≤ r) <;> rfl
theorem hash_bd {k : K} (hk : keyOk k = true) : 0 ≤ k.s * 256 ∧ k.s * 256 ≤ 3840 ∧ 0 ≤ k.s * 256 + k.p ∧ k.s * 256 + k.p ≤ 4095 := by
 rw [keyOk_iff] at hk; omega
theorem sHash_eq {k : K} {n : Int} (hk : keyOk k = true) (h1 : 1 ≤ n) (h2 : n ≤ 16) : s_l2Hash fl k n = some (hashI k n) := by
 obtain ⟨b1, b2, b3, b4⟩ := hash_bd hk
 unfold s_l2Hash hashI
 generalize hz : k.s * 256 + k.p = z at *
 rw [ck_in (by omega)]; simp only [obs]
 rw [hz, ck_in (by omega)]; simp only [obs]
 rw [ck_in (by omega)]; simp only [obs]
 have e1 : remO (z * 2654435761) 4294967296 = some (z * 2654435761 % 4294967296) := by
  unfold remO; rw [if_neg (by decide), Int.tmod_eq_emod_of_nonneg (by omega)]
 rw [e1]; simp only [obs]
 generalize hy : z * 2654435761 % 4294967296 = y
 have y1 : 0 ≤ y ∧ y < 4294967296 := by omega
 have y2 : 0 ≤ y * n := Int.mul_nonneg y1.1 (by omega)
 have y3 : y * n ≤ 4294967296 * 16 := Int.mul_le_mul (by omega) h2 (by omega) (by omega)
 rw [ck_in (by omega)]; simp only [obs]
 have e2 : quoO (y * n) 4294967296 = some (y * n / 4294967296) := by
  unfold quoO; rw [if_neg (by decide), Int.tdiv_eq_ediv_of_nonneg y2, ck_in (by omega)]
 rw [e2]; simp only [obs]
/-! ### copies -/
theorem clone_eq {t : T} (h : t.b.length + t.f.length ≤ 1048576) : i_Table_clone fl t = some t := by
 unfold i_Table_clone slices_Clone_Int slices_Clone_Frame
 rw [cnt_in (by omega), cnt_in (by omega)]; simp only [obs]
theorem copy_eq {t : T} (h : t.b.length + t.f.length ≤ 1048576) : s_l3Copy fl t = some t := by
 unfold s_l3Copy
 rw [cnt_in (by simp; omega), cnt_in (by simp; omega)]; simp only [obs, List.nil_append]

/-! ### the place of a key -/
theorem find1_eq (f : F) (k : K) : i_Table_find_1 fl f k = some (hasKey k f) := by
 unfold i_Table_find_1 hasKey
 rw [show (f.k == k) = decide (f.k = k) from rfl]
 cases f.u <;> simp
theorem indexFind_L0 {l : List F} {k : K} (hl : l.length ≤ 1048576) : ∀ (fuel i : Nat), i ≤ l.length → l.length - i < fuel → (∀ j, (h : j < l.length) → j < i → hasKey k l[j] = false) →
  (slices_IndexFunc_Frame_of_i_Table_find_1_L0 fl l k fuel i = some (.ret (findF l k))) ∨ (slices_IndexFunc_Frame_of_i_Table_find_1_L0 fl l k fuel i = some (.out (l.length : Int)) ∧ findF l k = -1) := by
 intro fuel
 induction fuel with
 | zero => intro i _ h _; omega
 | succ fuel ih =>
  intro i hi hf ht
  rw [slices_IndexFunc_Frame_of_i_Table_find_1_L0.eq_2]
  by_cases h : i < l.length
  ·rw [decide_eq_true (by omega : (i : Int) < (l.length : Int)), cot, idx_nat h]
   simp only [obs, find1_eq]
   cases hk : hasKey k l[i] with
   | true => left; rw [cot, findF_some h hk (fun j hj => ht j (by omega) hj)]
   | false =>
    rw [cof, ck_succ (by omega)]
    simp only [obs]
    refine ih (i + 1) (by omega) (by omega) fun j hj hji => ?_
    by_cases e : j = i
    ·subst e; exact hk
    ·exact ht j hj (by omega)
  ·have e : i = l.length := by omega
   subst e
   right
   simp only [Int.lt_irrefl, decide_false, cof]
   exact ⟨trivial, findF_none fun j hj => ht j hj hj⟩
theorem find_eq {t : T} {k : K} (hl : t.f.length ≤ 1048576) (hf : 1048576 < fl) : i_Table_find fl t k = some (findF t.f k) := by
 unfold i_Table_find slices_IndexFunc_Frame_of_i_Table_find_1
 rcases indexFind_L0 (fl := fl) (l := t.f) (k := k) hl fl 0 (by omega) (by omega) (fun j _ hj => by omega) with h | ⟨h, e⟩
 ·rw [show ((0 : Nat) : Int) = 0 from rfl] at h
  rw [h]; simp only [obs]
 ·rw [show ((0 : Nat) : Int) = 0 from rfl] at h
  rw [h]; simp only [obs, e]

/-! ### a chain -/
theorem chain_L0 {t : T} {b : Nat} (hl : t.f.length ≤ 1048576) : ∀ (fuel : Nat) (L : List Int) (i : Int), L.length ≤ t.f.length → t.f.length - L.length < fuel → PathL t b L i →
  s_l3Chain_L0 fl t fuel L i = some (.ret (chainL t b)) ∧ (chainL t b).2 = false ∨ s_l3Chain_L0 fl t fuel L i = some (.out ((chainL t b).1, -1)) ∧ (chainL t b).2 = true := by
 intro fuel
 induction fuel with
 | zero => intro L i _ h _; omega
 | succ fuel ih =>
  intro L i hL hf hp
  rw [s_l3Chain_L0.eq_2]
  by_cases h1 : i = -1
  ·subst h1
   right
   rw [hp.fin]
   simp
  ·rw [show (i != -1) = true from by simpa using h1, cot]
   by_cases h2 : i < 0
   ·left
    rw [decide_eq_true h2]
    simp only [cot, obs]
    rw [hp.out h1 (fun j e => by omega)]
    exact ⟨rfl, rfl⟩
   rw [decide_eq_false h2]
   simp only [cof, obs]
   by_cases h3 : (t.f.length : Int) ≤ i
   ·left
    rw [decide_eq_true h3]
    simp only [cot, obs]
    rw [hp.out h1 (fun j e hj => by omega)]
    exact ⟨rfl, rfl⟩
   rw [decide_eq_false h3]
   simp only [cof, obs]
   by_cases h4 : (t.f.length : Int) ≤ (L.length : Int)
   ·left
    rw [decide_eq_true h4]
    simp only [cot, obs]
    rw [hp.full h1 (by omega)]
    exact ⟨rfl, rfl⟩
   rw [decide_eq_false h4]
   simp only [cof, obs]
   obtain ⟨j, rfl⟩ : ∃ j : Nat, i = j := ⟨i.toNat, by omega⟩
   have hj : j < t.f.length := by omega
   rw [idx_nat hj]
   simp only [obs]
   cases hu : t.f[j].u with
   | false =>
    left
    simp only [Bool.not_false, cot]
    rw [hp.out h1 (fun j' e hj' hu' => by
     have : j' = j := by omega
     subst this
     rw [hu] at hu'; cases hu')]
    exact ⟨rfl, rfl⟩
   | true =>
    simp only [Bool.not_true, cof]
    rw [cnt_in (by simp; omega)]
    simp only [obs]
    exact ih _ _ (by simp; omega) (by simp; omega) (hp.step (by omega) hj hu)
theorem chain_eq {t : T} {b : Nat} (hb : b < t.b.length) (hl : t.f.length ≤ 1048576) (hf : 1048576 < fl) : s_l3Chain fl t (b : Int) = some (chainL t b) := by
 unfold s_l3Chain
 rw [idx_nat hb]
 simp only [obs]
 rcases chain_L0 (fl := fl) hl fl [] t.b[b] (by simp) (by simp; omega) (PathL.start hb) with ⟨h, e⟩ | ⟨h, e⟩
 ·rw [h]; simp only [obs]
 ·rw [h]; simp only [obs, ← e]

theorem sFind_L0 {t : T} {k : K} (ht : TOk t) (x4 : List Int × Bool) (hm : ∀ x ∈ x4.1, ∃ j : Nat, x = j ∧ ∃ h : j < t.f.length, t.f[j].u = true) (hl : x4.1.length ≤ 1048576) : ∀ (fuel i : Nat), i ≤ x4.1.length → x4.1.length - i < fuel → (∀ j, (h : j < x4.1.length) → j < i → ∀ h : (x4.1[j]).toNat < t.f.length, t.f[(x4.1[j]).toNat].k ≠ k) →
  (∃ s, s_l3Find_L0 fl t k x4 fuel i = some (.ret (findF t.f k, s))) ∨ (s_l3Find_L0 fl t k x4 fuel i = some (.out (x4.1.length : Int)) ∧ ∀ x ∈ x4.1, ∀ h : x.toNat < t.f.length, t.f[x.toNat].k ≠ k) := by
 intro fuel
 induction fuel with
 | zero => intro i _ h _; omega
 | succ fuel ih =>
  intro i hi hf hn
  rw [s_l3Find_L0.eq_2]
  by_cases h : i < x4.1.length
  ·obtain ⟨j, e, hj, hu⟩ := hm x4.1[i] (List.getElem_mem h)
   rw [decide_eq_true (by omega : (i : Int) < (x4.1.length : Int)), cot, idx_nat h]
   simp only [obs, e]
   rw [idx_nat hj]
   simp only [obs]
   by_cases hk : t.f[j].k = k
   ·left
    rw [show (t.f[j].k == k) = true from by simpa using hk, cot, ck_succ (by omega)]
    simp only [obs]
    rw [find_at ht.ks hj hu hk]
    exact ⟨_, rfl⟩
   ·rw [show (t.f[j].k == k) = false from by simpa using hk, cof, ck_succ (by omega)]
    simp only [obs]
    refine ih (i + 1) (by omega) (by omega) fun j' hj' hlt hb => ?_
    by_cases e' : j' = i
    ·subst e'
     have e2 : x4.1[j'].toNat = j := by rw [e]; simp
     simp only [e2]
     exact hk
    ·exact hn j' hj' (by omega) hb
  ·have e : i = x4.1.length := by omega
   subst e
   right
   simp only [Int.lt_irrefl, decide_false, cof]
   refine ⟨trivial, fun x hx hb => ?_⟩
   obtain ⟨j, hj, rfl⟩ := List.getElem_of_mem hx
   exact hn j hj hj hb
theorem sFind_eq {t : T} {k : K} (ht : TOk t) (hk : keyOk k = true) (hf : 1048576 < fl) : ∃ s, s_l3Find fl t k = some (findF t.f k, s) := by
 have h1 := ht.f1
 have h2 := ht.f2
 have h3 := ht.b1
 have h4 := ht.b2
 obtain ⟨hb, he⟩ := bucketT_lt hk h3 h4
 unfold s_l3Find
 rw [sHash_eq hk (by omega) (by omega)]
 simp only [obs, he]
 rw [chain_eq hb (by omega) hf]
 simp only [obs]
 have hlen := chainL_len (t := t) (b := bucketT t k)
 rcases sFind_L0 (fl := fl) (k := k) ht (chainL t (bucketT t k)) chainL_mem (by omega) fl 0 (by omega) (by omega) (fun j _ hj => by omega) with ⟨s, h⟩ | ⟨h, hn⟩
 ·rw [show ((0 : Nat) : Int) = 0 from rfl] at h
  rw [h]; simp only [obs]
  exact ⟨s, rfl⟩
 ·rw [show ((0 : Nat) : Int) = 0 from rfl] at h
  rw [h]; simp only [obs]
  rw [ht.none hb (L := (chainL t (bucketT t k)).1) (ok := (chainL t (bucketT t k)).2) rfl hn]
  exact ⟨_, rfl⟩
theorem findF_bd {l : List F} {k : K} : findF l k < (l.length : Int) ∧ -1 ≤ findF l k := by
 rcases findF_spec l k with ⟨e, _⟩ | ⟨i, hi, e, _, _⟩ <;> rw [e] <;> omega
theorem sFindPage_eq {t : T} {k : K} (hf : 1048576 < fl) : ∃ a s, s_FindPage fl t k = some (a, s, tableOk t && keyOk k && decide (0 ≤ findF t.f k)) ∧ ((tableOk t && keyOk k && decide (0 ≤ findF t.f k)) = true → a = findF t.f k) := by
 unfold s_FindPage s_TableValid
 simp only [obs, sKey_eq]
 cases h1 : tableOk t with
 | false => simp [obs]
 | true =>
  cases h2 : keyOk k with
  | false => simp [obs]
  | true =>
   simp only [Bool.not_true, cof, obs]
   obtain ⟨s, h⟩ := sFind_eq (fl := fl) (tableOk_iff.1 h1) h2 hf
   rw [h]
   simp only [obs]
   by_cases h3 : findF t.f k < 0
   ·rw [decide_eq_true h3, cot]
    exact ⟨0, s, by simp [h3], by simp; omega⟩
   ·rw [decide_eq_false h3, cof]
    exact ⟨findF t.f k, s, by simp; omega, fun _ => rfl⟩

noncomputable def mapR (t : T) (k : K) (fr r : Int) : T × Bool :=
 if tableOk t && keyOk k && decide (findF t.f k < 0) && within fr t.f.length && !(t.f.getD fr.toNat freeF).u && rightsOk r then (mapT t k fr.toNat r, true) else (⟨[], []⟩, false)
theorem mapR_no {t : T} {k : K} {fr r : Int} (h : (tableOk t && keyOk k && decide (findF t.f k < 0) && within fr t.f.length && !(t.f.getD fr.toNat freeF).u && rightsOk r) = false) : mapR t k fr r = (⟨[], []⟩, false) := by
 unfold mapR; rw [h]; rfl
theorem mapR_yes {t : T} {k : K} {fr r : Int} (h : (tableOk t && keyOk k && decide (findF t.f k < 0) && within fr t.f.length && !(t.f.getD fr.toNat freeF).u && rightsOk r) = true) : mapR t k fr r = (mapT t k fr.toNat r, true) := by
 unfold mapR; rw [h]; rfl
theorem sMapIn_eq {t : T} {k : K} {fr : Nat} {r : Int} (ht : TOk t) (hk : keyOk k = true) (hf : fr < t.f.length) : s_l3Map fl t k fr r = some (mapT t k fr r) := by
 have h2 := ht.f2
 have h3 := ht.b1
 have h4 := ht.b2
 obtain ⟨hb, he⟩ := bucketT_lt hk h3 h4
 unfold s_l3Map mapT
 rw [copy_eq (by omega)]
 simp only [obs]
 rw [sHash_eq hk (by omega) (by omega)]
 simp only [obs, he]
 rw [idx_nat hb, idx_nat hf]
 simp [obs, hb]
theorem sMap_eq {t : T} {k : K} {fr r : Int} (hf : 1048576 < fl) : s_MapPage fl t k fr r = some (mapR t k fr r) := by
 unfold s_MapPage s_TableValid
 simp only [obs, sKey_eq, sRights_eq]
 cases h1 : tableOk t with
 | false => rw [mapR_no (by simp [h1])]; simp [obs]
 | true =>
  cases h2 : keyOk k with
  | false => rw [mapR_no (by simp [h2])]; simp [obs]
  | true =>
   simp only [Bool.not_true, cof, obs]
   cases h6 : rightsOk r with
   | false => rw [mapR_no (by simp [h6])]; simp [obs]
   | true =>
    simp only [Bool.not_true, cof, obs]
    by_cases c1 : fr < 0
    ·rw [mapR_no (by simp [within, show ¬ (0 ≤ fr) from by omega])]; simp [obs, decide_eq_true c1]
    rw [decide_eq_false c1]
    simp only [cof, obs]
    by_cases c2 : (t.f.length : Int) ≤ fr
    ·rw [mapR_no (by simp [within, show ¬ (fr < (t.f.length : Int)) from by omega])]; simp [obs, decide_eq_true c2]
    rw [decide_eq_false c2]
    simp only [cof, obs]
    obtain ⟨i, rfl⟩ : ∃ i : Nat, fr = i := ⟨fr.toNat, by omega⟩
    have hi : i < t.f.length := by omega
    rw [idx_nat hi]
    simp only [obs]
    cases h5 : t.f[i].u with
    | true => rw [mapR_no (by simp [hi, h5])]; simp [obs]
    | false =>
     simp only [cof, obs]
     have ht := tableOk_iff.1 h1
     obtain ⟨s, h⟩ := sFind_eq (fl := fl) ht h2 hf
     rw [h]
     simp only [obs]
     by_cases h3 : 0 ≤ findF t.f k
     ·rw [mapR_no (by simp [show ¬ (findF t.f k < 0) from by omega])]; simp [obs, decide_eq_true h3]
     ·rw [decide_eq_false h3]
      simp only [cof, obs]
      rw [sMapIn_eq ht h2 hi]
      simp only [obs]
      rw [mapR_yes (by simp [h1, h2, h6, hi, h5, within]; omega)]
      rfl

def unlF (i nx : Int) (g : F) : F := if g.u && g.nx == i then ⟨g.u, g.k, g.r, nx⟩ else g
def unl (f : List F) (i nx : Int) : List F := f.map (unlF i nx)
theorem unl_len (f : List F) (i nx : Int) : (unl f i nx).length = f.length := by simp [unl]
def unmapT (t : T) (i : Nat) : T :=
 if t.b.getD (bucketT t (t.f.getD i freeF).k) (-1) == (i : Int) then ⟨t.b.set (bucketT t (t.f.getD i freeF).k) (t.f.getD i freeF).nx, t.f.set i freeF⟩
 else ⟨t.b, (unl t.f i (t.f.getD i freeF).nx).set i freeF⟩
noncomputable def unmapR (t : T) (k : K) : T × Bool :=
 if tableOk t && keyOk k && decide (0 ≤ findF t.f k) then (unmapT t (findF t.f k).toNat, true) else (⟨[], []⟩, false)
theorem sUn_L0 {t : T} {i : Nat} {x13 : F} (hl : t.f.length ≤ 1048576) (hi : i < t.f.length) (hs : (t.f[i].u && t.f[i].nx == (i : Int)) = false) : ∀ (fuel j : Nat) (v : List F), v.length = t.f.length → j ≤ t.f.length → t.f.length - j < fuel → v[i]? = some freeF → (∀ m, m ≠ i → m < j → v[m]? = (unl t.f i x13.nx)[m]?) → (∀ m, m ≠ i → j ≤ m → v[m]? = t.f[m]?) →
  s_l3Unmap_L0 fl t i x13 fuel v j = some (.out ((unl t.f i x13.nx).set i freeF, (t.f.length : Int))) := by
 intro fuel
 induction fuel with
 | zero => intro j v _ _ h _ _ _; omega
 | succ fuel ih =>
  intro j v hv hj hf h0 h1 h2
  rw [s_l3Unmap_L0.eq_2]
  by_cases h : j < t.f.length
  ·have hv' : j < v.length := by omega
   have hu : (unl t.f i x13.nx)[j]? = some (unlF i x13.nx t.f[j]) := by simp [unl, h]
   rw [decide_eq_true (by omega : (j : Int) < (t.f.length : Int)), cot, idx_nat h, idx_nat hv', ck_succ (by omega)]
   simp only [obs]
   have hcc : (cond t.f[j].u (some (t.f[j].nx == (i : Int))) (some false) : Option Bool) = some (t.f[j].u && t.f[j].nx == (i : Int)) := by cases t.f[j].u <;> rfl
   rw [hcc]
   simp only [obs]
   by_cases ei : j = i
   ·subst ei
    rw [hs, cof]
    exact ih (j + 1) _ hv (by omega) (by omega) h0 (fun m hm hlt => h1 m hm (by omega)) (fun m hm hle => h2 m hm (by omega))
   have e : v[j] = t.f[j] := by
    have := h2 j ei (Nat.le_refl _)
    rw [List.getElem?_eq_getElem hv', List.getElem?_eq_getElem h] at this
    exact Option.some.inj this
   cases hc : (t.f[j].u && t.f[j].nx == (i : Int)) with
   | true =>
    rw [cot, e]
    refine ih (j + 1) _ (by simp [hv]) (by omega) (by omega) ?_ (fun m hm hlt => ?_) (fun m hm hle => ?_)
    ·rw [Int.toNat_natCast, List.getElem?_set, if_neg ei]; exact h0
    ·rw [Int.toNat_natCast, List.getElem?_set]
     by_cases em : j = m
     ·subst em
      simp only [if_true, hv', hu]
      unfold unlF
      rw [hc]
      simp
     ·rw [if_neg em]; exact h1 m hm (by omega)
    ·rw [Int.toNat_natCast, List.getElem?_set, if_neg (by omega)]
     exact h2 m hm (by omega)
   | false =>
    rw [cof]
    refine ih (j + 1) _ hv (by omega) (by omega) h0 (fun m hm hlt => ?_) (fun m hm hle => h2 m hm (by omega))
    by_cases em : m = j
    ·subst em
     rw [hu, h2 m hm (Nat.le_refl _), List.getElem?_eq_getElem h]
     unfold unlF
     rw [hc]
     simp
    ·exact h1 m hm (by omega)
  ·have e : j = t.f.length := by omega
   subst e
   simp only [Int.lt_irrefl, decide_false, cof]
   have : v = (unl t.f i x13.nx).set i freeF := by
    apply List.ext_getElem?
    intro m
    rw [List.getElem?_set]
    by_cases em : i = m
    ·subst em
     rw [h0, if_pos rfl, if_pos (by rw [unl_len]; exact hi)]
    ·rw [if_neg em]
     by_cases hm : m < t.f.length
     ·exact h1 m (fun x => em x.symm) hm
     ·rw [List.getElem?_eq_none (by omega), List.getElem?_eq_none (by rw [unl_len]; omega)]
   rw [this]
/-- no frame of a valid table follows itself -/
theorem TOk.noself {t : T} (h : TOk t) {i : Nat} (hi : i < t.f.length) (hu : t.f[i].u = true) : t.f[i].nx ≠ (i : Int) := by
 intro e
 obtain ⟨L, hL, hm⟩ := h.inChain hi hu
 obtain ⟨A, B, rfl⟩ := List.append_of_mem hm
 obtain ⟨m, hw⟩ := walk_from hL
 obtain ⟨_, hu', hh⟩ := walk_mem hw i (by simp)
 cases m with
 | zero => simp [walk] at hw
 | succ m =>
  have hw2 := hw
  rw [walk_step hi hu' hh, e] at hw2
  cases hq : walk t.f t.b.length (bucketT t t.f[i].k) m (i : Int) with
  | none => rw [hq] at hw2; cases hw2
  | some Q =>
   rw [hq] at hw2
   simp only [Option.map_some, Option.some.injEq, List.cons.injEq, true_and] at hw2
   have := walk_some hq hw
   rw [hw2] at this
   have := congrArg List.length this
   simp at this
theorem found_key {l : List F} {k : K} {i : Nat} (h : findF l k = (i : Int)) : ∃ hi : i < l.length, l[i].u = true ∧ l[i].k = k := by
 rcases findF_spec l k with ⟨e, _⟩ | ⟨j, hj, e, h2, _⟩
 ·omega
 ·have : i = j := by omega
  subst this
  simp only [hasKey, Bool.and_eq_true, decide_eq_true_eq] at h2
  exact ⟨hj, h2.1, h2.2⟩
theorem sUnmap_eq {t : T} {k : K} (hf : 1048576 < fl) : s_UnmapPage fl t k = some (unmapR t k) := by
 unfold s_UnmapPage unmapR
 obtain ⟨a, s, h, ha⟩ := sFindPage_eq (fl := fl) (t := t) (k := k) hf
 rw [h]
 simp only [obs]
 cases hc : (tableOk t && keyOk k && decide (0 ≤ findF t.f k)) with
 | false => simp [obs]
 | true =>
  rw [ha hc]
  simp only [Bool.not_true, cof, if_true]
  simp only [Bool.and_eq_true, decide_eq_true_eq] at hc
  have ht := tableOk_iff.1 hc.1.1
  have h2 := hc.1.2
  have g2 := ht.f2
  have g3 := ht.b1
  have g4 := ht.b2
  obtain ⟨i, hi⟩ : ∃ i : Nat, findF t.f k = i := ⟨(findF t.f k).toNat, by omega⟩
  obtain ⟨hb', hu, hk⟩ := found_key hi
  obtain ⟨hb, he⟩ := bucketT_lt h2 g3 g4
  rw [hi]
  unfold s_l3Unmap
  rw [copy_eq (by omega)]
  simp only [obs]
  rw [idx_nat hb']
  simp only [obs, hk]
  rw [sHash_eq h2 (by omega) (by omega)]
  simp only [obs, he]
  rw [idx_nat hb]
  simp only [obs, Int.toNat_natCast]
  have gD : t.f.getD i freeF = t.f[i] := by simp [hb']
  have bD : t.b.getD (bucketT t k) (-1) = t.b[bucketT t k] := by simp [hb]
  unfold unmapT
  rw [gD, hk, bD]
  cases hcc : (t.b[bucketT t k] == (i : Int)) with
  | true =>
   simp only [cot, obs, if_true]
   rfl
  | false =>
   rw [cof]
   have hns : (t.f[i].u && t.f[i].nx == (i : Int)) = false := by
    have := ht.noself hb' hu
    simp [this]
   have := sUn_L0 (fl := fl) (t := t) (i := i) (x13 := t.f[i]) (by omega) hb' hns fl 0 (t.f.set i freeF) (by simp) (by omega) (by omega) (by simp [hb']) (fun m hm hlt => by omega) (fun m hm _ => by rw [List.getElem?_set, if_neg (fun x => hm x.symm)])
   rw [show ((0 : Nat) : Int) = 0 from rfl] at this
   simp only [freeF] at this ⊢
   rw [this]
   simp only [obs]
   rfl


/-- how many elements a machine has -/
def mcN (m : Mc) : Nat := (m.t.b.length + m.t.f.length) + (m.c.l.length + m.g.o.length)

theorem bXor_nn {p q : Int} (h0 : 0 ≤ p) (h1 : p < 4611686018427387904) (h2 : 0 ≤ q) (h3 : q < 4611686018427387904) : 0 ≤ bXor p q := by
 obtain ⟨a, rfl⟩ : ∃ a : Nat, p = a := ⟨p.toNat, by omega⟩
 obtain ⟨b, rfl⟩ : ∃ b : Nat, q = b := ⟨q.toNat, by omega⟩
 have e : ∀ c : Nat, c < 4611686018427387904 → (BitVec.ofInt 64 (c : Int)).toNat = c := fun c hc => by
  rw [BitVec.toNat_ofInt]
  omega
 have ha := e a (by omega)
 have hb := e b (by omega)
 have hx : (BitVec.ofInt 64 (a : Int) ^^^ BitVec.ofInt 64 (b : Int)).toNat < 2 ^ 62 := by
  rw [BitVec.toNat_xor, ha, hb]
  exact Nat.xor_lt_two_pow (by omega) (by omega)
 unfold bXor
 rw [IntWalk.i64_left, IntWalk.wrap64_in _ (by omega)]
 omega
theorem remO_nn {a b : Int} (ha : 0 ≤ a) (hb : 0 < b) : ∃ r, remO a b = some r ∧ 0 ≤ r ∧ r < b := by
 unfold remO
 rw [if_neg (by omega)]
 exact ⟨_, rfl, Int.tmod_nonneg _ ha, Int.tmod_lt_of_pos _ hb⟩
theorem idx_in {α : Type} {l : List α} {i : Int} (h0 : 0 ≤ i) (h1 : i < (l.length : Int)) : ∃ x ∈ l, idx l i = some x := by
 obtain ⟨n, rfl⟩ : ∃ n : Nat, i = n := ⟨i.toNat, by omega⟩
 exact ⟨l[n]'(by omega), List.getElem_mem _, idx_nat (by omega)⟩
theorem u8_lt (x : UInt8) : (x.toNat : Int) ≤ 255 := by have := x.toNat_lt; omega
theorem pick_eq {l : List UInt8} {p n : Int} (hp : 0 ≤ p) (hp2 : p ≤ 1073741824) (hl : l.length ≤ 2000) : ∃ r, s_l12Rd_pick fl l p n = some (r, p + 1) ∧ (1 ≤ n → 0 ≤ r ∧ r < n) ∧ (n < 1 → r = 0) := by
 unfold s_l12Rd_pick
 rw [ck_in (by omega)]
 simp only [obs]
 by_cases hn : n < 1
 ·rw [decide_eq_true hn]
  simp only [cot, obs]
  exact ⟨0, rfl, fun h => by omega, fun _ => rfl⟩
 rw [decide_eq_false hn]
 simp only [cof, obs]
 by_cases hz : l.length = 0
 ·rw [hz]
  simp only [show (((0 : Nat) : Int) == 0) = true from rfl, cot]
  exact ⟨0, rfl, fun h => by omega, fun _ => rfl⟩
 rw [show ((l.length : Int) == 0) = false from by simpa using (fun e => hz (by rw [e]; rfl))]
 simp only [cof]
 rw [show p + 1 - 1 = p from by omega, ck_in (by omega)]
 simp only [obs]
 by_cases hlt : p < (l.length : Int)
 ·rw [decide_eq_true hlt, cot]
  obtain ⟨x, _, hx⟩ := idx_in hp hlt
  rw [hx]
  simp only [obs]
  have := u8_lt x
  rw [ck_in (by omega)]
  simp only [obs]
  obtain ⟨r, hr, r0, r1⟩ := remO_nn (a := (x.toNat : Int)) (b := n) (by omega) (by omega)
  rw [hr]
  simp only [obs]
  exact ⟨r, rfl, fun _ => ⟨r0, r1⟩, fun h => by omega⟩
 ·rw [decide_eq_false hlt, cof]
  obtain ⟨r1, h1, a1, b1⟩ := remO_nn (a := p) (b := (l.length : Int)) hp (by omega)
  rw [h1]
  simp only [obs]
  obtain ⟨x, _, hx⟩ := idx_in a1 b1
  rw [hx]
  simp only [obs]
  have u1 := u8_lt x
  rw [ck_in (by omega)]
  simp only [obs]
  rw [ck_in (by omega)]
  simp only [obs]
  rw [ck_in (by omega)]
  simp only [obs]
  rw [ck_in (by omega)]
  simp only [obs]
  obtain ⟨r2, h2, a2, b2⟩ := remO_nn (a := p * 7 + 3) (b := (l.length : Int)) (by omega) (by omega)
  rw [h2]
  simp only [obs]
  obtain ⟨y, _, hy⟩ := idx_in a2 b2
  rw [hy]
  simp only [obs]
  have u2 := u8_lt y
  rw [ck_in (by omega)]
  simp only [obs]
  rw [ck_in (by omega)]
  simp only [obs]
  rw [ck_in (by omega)]
  simp only [obs]
  rw [ck_in (by omega)]
  simp only [obs]
  rw [ck_in (by omega)]
  simp only [obs]
  have q0 : 0 ≤ p.tdiv (l.length : Int) := Int.tdiv_nonneg hp (by omega)
  have q1 : p.tdiv (l.length : Int) ≤ p := by
   rw [Int.tdiv_eq_ediv_of_nonneg hp]
   exact Int.ediv_le_self _ hp
  have hq : quoO p (l.length : Int) = some (p.tdiv (l.length : Int)) := by
   unfold quoO; rw [if_neg (by omega), ck_in (by omega)]
  rw [hq]
  simp only [obs]
  generalize p.tdiv (l.length : Int) = q at *
  rw [ck_in (by omega)]
  simp only [obs]
  rw [ck_in (by omega)]
  simp only [obs]
  generalize hz2 : (x.toNat : Int) * 131 + (y.toNat : Int) * 1117 + p * 29 + q * 53 = z
  have z0 : 0 ≤ z ∧ z < 1152921504606846976 := by omega
  have hz3 : quoO z 64 = some (z / 64) := by
   unfold quoO; rw [if_neg (by decide), Int.tdiv_eq_ediv_of_nonneg z0.1, ck_in (by omega)]
  rw [hz3]
  simp only [obs]
  have hx0 := bXor_nn (p := z) (q := z / 64) z0.1 (by omega) (by omega) (by omega)
  obtain ⟨r, hr, c0, c1⟩ := remO_nn (a := bXor z (z / 64)) (b := n) hx0 (by omega)
  rw [hr]
  simp only [obs]
  exact ⟨r, rfl, fun _ => ⟨c0, c1⟩, fun h => by omega⟩
theorem num_eq {l : List UInt8} {p : Int} {L : List Int} (hp : 0 ≤ p) (hp2 : p ≤ 1073741824) (hl : l.length ≤ 2000) (hL : 0 < L.length) : ∃ x ∈ L, s_l12Rd_num fl l p L = some (x, p + 1) := by
 unfold s_l12Rd_num
 obtain ⟨r, h, hr, _⟩ := pick_eq (fl := fl) (n := (L.length : Int)) hp hp2 hl
 rw [h]
 simp only [obs]
 obtain ⟨x, hx, e⟩ := idx_in (hr (by omega)).1 (hr (by omega)).2
 rw [e]
 simp only [obs]
 exact ⟨x, hx, rfl⟩
theorem draw2_eq {l : List UInt8} {p : Int} (hp : 0 ≤ p) (hp2 : p ≤ 1073741000) (hl : l.length ≤ 2000) : ∃ k, s_l2Draw fl l p = some (k, p + 2) := by
 unfold s_l2Draw
 obtain ⟨x, _, h⟩ := num_eq (fl := fl) (L := [0, 1, 2, 3, 1]) hp (by omega) hl (by simp)
 rw [h]
 simp only [obs]
 obtain ⟨y, _, h'⟩ := num_eq (fl := fl) (p := p + 1) (L := [0, 1, 2, 3, 4, 5, 100, 255]) (by omega) (by omega) hl (by simp)
 rw [h']
 simp only [obs]
 exact ⟨_, by rw [show p + 1 + 1 = p + 2 from by omega]⟩

theorem newB_L0 {n : Nat} (hn : n ≤ 1048576) : ∀ (fuel i : Nat), i ≤ n → n - i < fuel → s_NewTable_L0 fl (n : Int) fuel (List.replicate i (-1)) i = some (.out (List.replicate n (-1), (n : Int))) := by
 intro fuel
 induction fuel with
 | zero => intro i _ h; omega
 | succ fuel ih =>
  intro i hi hf
  rw [s_NewTable_L0.eq_2]
  by_cases h : i < n
  ·rw [decide_eq_true (by omega : (i : Int) < (n : Int)), cot, cnt_in (by simp; omega), ck_succ (by omega)]
   simp only [obs]
   have := ih (i + 1) (by omega) (by omega)
   rw [List.replicate_succ'] at this
   exact this
  ·have e : i = n := by omega
   subst e
   simp only [Int.lt_irrefl, decide_false, cof]
theorem newF_L1 {n : Nat} (hn : n ≤ 1048576) : ∀ (fuel i : Nat), i ≤ n → n - i < fuel → s_NewTable_L1 fl (n : Int) fuel (List.replicate i freeF) i = some (.out (List.replicate n freeF, (n : Int))) := by
 intro fuel
 induction fuel with
 | zero => intro i _ h; omega
 | succ fuel ih =>
  intro i hi hf
  rw [s_NewTable_L1.eq_2]
  by_cases h : i < n
  ·rw [decide_eq_true (by omega : (i : Int) < (n : Int)), cot, cnt_in (by simp; omega), ck_succ (by omega)]
   simp only [obs]
   have := ih (i + 1) (by omega) (by omega)
   rw [List.replicate_succ'] at this
   exact this
  ·have e : i = n := by omega
   subst e
   simp only [Int.lt_irrefl, decide_false, cof]
theorem sNewTable_eq {n m : Nat} (h1 : 1 ≤ n) (h2 : n ≤ 16) (h3 : 1 ≤ m) (h4 : m ≤ 16) (hf : 1048576 < fl) : s_NewTable fl n m = some (⟨List.replicate m (-1), List.replicate n freeF⟩, true) := by
 unfold s_NewTable s_l2Buckets
 rw [decide_eq_false (by omega : ¬ (n : Int) < 1), decide_eq_false (by omega : ¬ 16 < (n : Int)), decide_eq_true (by omega : 1 ≤ (m : Int)), decide_eq_true (by omega : (m : Int) ≤ 16)]
 simp only [cof, cot, obs, Bool.not_true]
 have e1 := newB_L0 (fl := fl) (n := m) (by omega) fl 0 (by omega) (by omega)
 have e2 := newF_L1 (fl := fl) (n := n) (by omega) fl 0 (by omega) (by omega)
 rw [show ((0 : Nat) : Int) = 0 from rfl, List.replicate_zero] at e1 e2
 rw [e1]
 simp only [obs]
 rw [e2]
 simp only [obs]





/-- each of k places from i on -/
def upto (p : Nat → Bool) (i : Nat) : Nat → Bool
 | 0 => true
 | k + 1 => p i && upto p (i + 1) k
theorem upto_iff {p : Nat → Bool} : ∀ {k i : Nat}, upto p i k = true ↔ ∀ j, i ≤ j → j < i + k → p j = true
 | 0, i => ⟨fun _ j h1 h2 => by omega, fun _ => rfl⟩
 | k + 1, i => by
  rw [upto, Bool.and_eq_true, upto_iff]
  constructor
  ·rintro ⟨h0, h1⟩ j hj hk
   by_cases e : j = i
   ·subst e; exact h0
   ·exact h1 j (by omega) (by omega)
  ·intro h
   exact ⟨h i (by omega) (by omega), fun j hj hk => h j (by omega) (by omega)⟩
/-- the first place from i on -/
def fx {α : Type} (p : α → Bool) : List α → Nat → Int
 | [], _ => -1
 | x :: l, i => if p x then (i : Int) else fx p l (i + 1)
theorem fx_drop {α : Type} {p : α → Bool} {l : List α} {i : Nat} (h : i < l.length) : fx p (l.drop i) i = if p l[i] then (i : Int) else fx p (l.drop (i + 1)) (i + 1) := by
 rw [List.drop_eq_getElem_cons h, fx]
theorem fx_end {α : Type} {p : α → Bool} {l : List α} {i : Nat} (h : l.length ≤ i) : fx p (l.drop i) i = -1 := by
 rw [List.drop_eq_nil_of_le h, fx]
theorem fx_spec {α : Type} {p : α → Bool} : ∀ {l : List α} {i : Nat}, (fx p l i = -1 ∧ ∀ x ∈ l, p x = false) ∨ ∃ j, ∃ h : j < l.length, fx p l i = ((i + j : Nat) : Int) ∧ p l[j] = true ∧ ∀ m, (hm : m < j) → p (l[m]'(by omega)) = false
 | [], i => .inl ⟨rfl, by simp⟩
 | x :: l, i => by
  by_cases hx : p x = true
  ·right
   exact ⟨0, by simp, by rw [fx, if_pos hx]; simp, hx, fun m hm => by omega⟩
  ·have hx' : p x = false := by simpa using hx
   rcases fx_spec (p := p) (l := l) (i := i + 1) with ⟨h, h'⟩ | ⟨j, hj, h, h1, h2⟩
   ·left
    refine ⟨by rw [fx, if_neg hx]; exact h, fun y hy => ?_⟩
    rcases List.mem_cons.1 hy with e | e
    ·rw [e]; exact hx'
    ·exact h' y e
   ·right
    refine ⟨j + 1, by simpa using hj, by rw [fx, if_neg hx, h]; congr 1; omega, by simpa using h1, fun m hm => ?_⟩
    rcases m with _ | m
    ·exact hx'
    ·exact h2 m (by omega)
theorem fx_bd {α : Type} {p : α → Bool} {l : List α} : -1 ≤ fx p l 0 ∧ fx p l 0 < (l.length : Int) := by
 rcases fx_spec (p := p) (l := l) (i := 0) with ⟨h, _⟩ | ⟨j, hj, h, _⟩ <;> rw [h] <;> omega
theorem fx_none {α : Type} {p : α → Bool} {l : List α} (h : fx p l 0 < 0) : ∀ x ∈ l, p x = false := by
 rcases fx_spec (p := p) (l := l) (i := 0) with ⟨_, h'⟩ | ⟨j, hj, h', _⟩
 ·exact h'
 ·rw [h'] at h; omega
theorem fx_at {α : Type} {p : α → Bool} {l : List α} (h : 0 ≤ fx p l 0) : ∃ j, ∃ hj : j < l.length, fx p l 0 = (j : Int) ∧ p l[j] = true := by
 rcases fx_spec (p := p) (l := l) (i := 0) with ⟨e, _⟩ | ⟨j, hj, h', h1, _⟩
 ·rw [e] at h; omega
 ·exact ⟨j, hj, by rw [h']; congr 1; omega, h1⟩

/-! ### lines and caches -/
def lnZ : Ln := ⟨false, 0, 0, 0, 0, false⟩
def tagIn (t : Int) : Bool := decide (-1 ≤ t) && decide (t < 8)
def lineOk (x : Ln) : Bool := cond x.va (tagIn x.tg && within x.pg 256 && within x.fr 16 && rightsOk x.ri) (x == lnZ)
def clash (x y : Ln) : Bool := x.va && y.va && (x.pg == y.pg) && (x.tg == y.tg || x.tg == -1 || y.tg == -1)
def lnAt (l : List Ln) (i : Nat) : Ln := l.getD i lnZ
theorem lnAt_lt {l : List Ln} {i : Nat} (h : i < l.length) : lnAt l i = l[i] := by simp [lnAt, h]
def lineGood (l : List Ln) (i : Nat) : Bool := lineOk (lnAt l i) && upto (fun j => !clash (lnAt l i) (lnAt l j)) 0 i
def cacheOk (c : Ca) : Bool := decide (1 ≤ c.l.length) && decide (c.l.length ≤ 8) && within c.h c.l.length && upto (lineGood c.l) 0 c.l.length && !upto (fun i => (lnAt c.l i).wi) 0 c.l.length
def fits (tag page : Int) (x : Ln) : Bool := x.va && (x.pg == page) && (x.tg == tag || x.tg == -1)

/-! ### tags -/
def owZ : Ow := ⟨0, 0⟩
def owAt (l : List Ow) (i : Nat) : Ow := l.getD i owZ
theorem owAt_lt {l : List Ow} {i : Nat} (h : i < l.length) : owAt l i = l[i] := by simp [owAt, h]
def prevTag (l : List Ow) : Nat → Int
 | 0 => -1
 | i + 1 => (owAt l i).tg
def ownGood (t : Tg) (i : Nat) : Bool := decide (prevTag t.o i < (owAt t.o i).tg) && decide ((owAt t.o i).tg < t.n) && within (owAt t.o i).sp 16 && upto (fun j => !((owAt t.o j).sp == (owAt t.o i).sp)) 0 i
def tagsOk (t : Tg) : Bool := decide (1 ≤ t.c) && decide (t.c ≤ 8) && decide (0 ≤ t.n) && decide (t.n ≤ t.c) && decide (0 ≤ t.r) && decide (t.r ≤ 1000000) && upto (ownGood t) 0 t.o.length
def ownF (t : Tg) (sp : Int) : Int := fx (fun o : Ow => o.sp == sp) t.o 0
def spF (t : Tg) (tag : Int) : Int := fx (fun o : Ow => o.tg == tag) t.o 0

/-! ### machines -/
def keyFor (sp pg : Int) : K := cond (decide (128 ≤ pg)) ⟨0, pg⟩ ⟨sp, pg⟩
def frameFits (f : F) : Bool := !(f.u && decide (128 ≤ f.k.p) && !(f.k.s == 0))
def lineSpace (m : Mc) (x : Ln) : Int := cond (x.tg == -1) 0 (owAt m.g.o (spF m.g x.tg).toNat).sp
noncomputable def lineHas (m : Mc) (x : Ln) : Bool :=
 (decide (128 ≤ x.pg) == (x.tg == -1)) && (!x.wi || x.tg == -1) && (x.tg == -1 || decide (0 ≤ spF m.g x.tg)) &&
 decide (0 ≤ findF m.t.f (keyFor (lineSpace m x) x.pg)) && (findF m.t.f (keyFor (lineSpace m x) x.pg) == x.fr) && ((m.t.f.getD (findF m.t.f (keyFor (lineSpace m x) x.pg)).toNat freeF).r == x.ri)
noncomputable def machineOk (m : Mc) : Bool := tableOk m.t && cacheOk m.c && tagsOk m.g && decide (0 ≤ ownF m.g m.s) && upto (fun i => frameFits (m.t.f.getD i freeF)) 0 m.t.f.length && upto (fun i => !(lnAt m.c.l i).va || lineHas m (lnAt m.c.l i)) 0 m.c.l.length
def mc0 : Mc := ⟨⟨[], []⟩, ⟨[], 0⟩, ⟨0, 0, 0, []⟩, 0⟩

structure CO (c : Ca) : Prop where
 n1 : 1 ≤ c.l.length
 n2 : c.l.length ≤ 8
 h0 : 0 ≤ c.h
 h1 : c.h < (c.l.length : Int)
 ok : ∀ i, i < c.l.length → lineOk (lnAt c.l i) = true
 cl : ∀ i, i < c.l.length → ∀ j, j < i → clash (lnAt c.l i) (lnAt c.l j) = false
 un : ∃ i, i < c.l.length ∧ (lnAt c.l i).wi = false
theorem cacheOk_iff {c : Ca} : cacheOk c = true ↔ CO c := by
 unfold cacheOk
 simp only [Bool.and_eq_true, decide_eq_true_eq, within_iff, Bool.not_eq_true', upto_iff, Nat.zero_add, lineGood]
 constructor
 ·rintro ⟨⟨⟨⟨a, b⟩, d, e⟩, f⟩, g⟩
  refine ⟨a, b, d, e, fun i hi => (f i (by omega) hi).1, fun i hi j hj => ?_, ?_⟩
  ·have := (f i (by omega) hi).2 j (by omega) hj
   simpa using this
  ·have g' : ¬ upto (fun i => (lnAt c.l i).wi) 0 c.l.length = true := by rw [g]; simp
   rw [upto_iff] at g'
   apply Classical.byContradiction
   intro hn
   apply g'
   intro j _ hj
   have : ¬ (lnAt c.l j).wi = false := fun e => hn ⟨j, by omega, e⟩
   simpa using this
 ·rintro ⟨a, b, d, e, f, g, i, hi, hw⟩
  refine ⟨⟨⟨⟨a, b⟩, d, e⟩, fun i _ hi => ⟨f i hi, fun j _ hj => by rw [g i hi j hj]⟩⟩, ?_⟩
  apply Bool.eq_false_iff.2
  intro hu
  rw [upto_iff] at hu
  have := hu i (by omega) (by omega)
  rw [hw] at this
  cases this

/-! ### the victim -/
def clk (l : List Ln) (i : Nat) : Nat → Nat
 | 0 => i
 | k + 1 => cond (lnAt l i).wi (clk l ((i + 1) % l.length) k) i
theorem clk_lt {l : List Ln} (hn : 0 < l.length) : ∀ {k i : Nat}, i < l.length → clk l i k < l.length
 | 0, i, h => h
 | k + 1, i, h => by
  rw [clk]
  cases (lnAt l i).wi with
  | true => rw [cot]; exact clk_lt hn (Nat.mod_lt _ hn)
  | false => rw [cof]; exact h
def vict (c : Ca) : Nat := if 0 ≤ fx (fun x : Ln => !x.va) c.l 0 then (fx (fun x : Ln => !x.va) c.l 0).toNat else clk c.l c.h.toNat c.l.length
theorem vict_lt {c : Ca} (h : CO c) : vict c < c.l.length := by
 have hb := fx_bd (p := fun x : Ln => !x.va) (l := c.l)
 have h0 := h.h0
 have h1 := h.h1
 have h2 := h.n1
 unfold vict
 split
 ·omega
 ·exact clk_lt (by omega) (by omega)
theorem reach_ex {n i j : Nat} (hi : i < n) (hj : j < n) : ∃ d, d < n ∧ (i + d) % n = j := by
 by_cases h : i ≤ j
 ·exact ⟨j - i, by omega, by rw [show i + (j - i) = j by omega]; exact Nat.mod_eq_of_lt hj⟩
 ·exact ⟨j + n - i, by omega, by rw [show i + (j + n - i) = j + n by omega, Nat.add_mod_right]; exact Nat.mod_eq_of_lt hj⟩

def fillC (c : Ca) (x : Ln) : Ca := ⟨c.l.set (vict c) x, cond (lnAt c.l (vict c)).va (((vict c + 1) % c.l.length : Nat) : Int) c.h⟩
theorem lnAt_set {l : List Ln} {i j : Nat} {x : Ln} (h : j < l.length) : lnAt (l.set i x) j = if i = j then x else lnAt l j := by
 rw [lnAt_lt (by simpa using h), lnAt_lt h, List.getElem_set]
theorem clash_symm {x y : Ln} : clash x y = clash y x := by
 unfold clash
 rw [Bool.eq_iff_iff]
 simp only [Bool.and_eq_true, Bool.or_eq_true, beq_iff_eq]
 constructor <;> rintro ⟨⟨⟨a, b⟩, d⟩, (e | e) | e⟩ <;> refine ⟨⟨⟨b, a⟩, d.symm⟩, ?_⟩ <;> simp [e]
theorem fill_ok {c : Ca} {x : Ln} (h : CO c) (hx : lineOk x = true) (hw : x.wi = false) (hn : fx (fits x.tg x.pg) c.l 0 < 0) (hs : ∀ i, i < c.l.length → (lnAt c.l i).va = true → (lnAt c.l i).pg = x.pg → x.tg = -1 → (lnAt c.l i).tg = -1) : CO (fillC c x) := by
 have hv := vict_lt h
 have hno := fx_none hn
 have hcl : ∀ i, i < c.l.length → clash x (lnAt c.l i) = false := by
  intro i hi
  have h1 := hno _ (List.getElem_mem hi)
  rw [← lnAt_lt hi] at h1
  apply Bool.eq_false_iff.2
  intro hc
  unfold clash at hc
  unfold fits at h1
  simp only [Bool.and_eq_true, Bool.or_eq_true, beq_iff_eq] at hc
  obtain ⟨⟨⟨a, b⟩, d⟩, e⟩ := hc
  have hq : ((lnAt c.l i).tg == x.tg || (lnAt c.l i).tg == -1) = true := by
   rcases e with (e | e) | e
   ·simp [e]
   ·simp [hs i hi b d.symm e]
   ·simp [e]
  rw [b, hq, d] at h1
  simp at h1
 refine ⟨by simpa [fillC] using h.n1, by simpa [fillC] using h.n2, ?_, ?_, fun i hi => ?_, fun i hi j hj => ?_, ?_⟩
 ·simp only [fillC]
  cases (lnAt c.l (vict c)).va with
  | true => rw [cot]; omega
  | false => rw [cof]; exact h.h0
 ·simp only [fillC, List.length_set]
  cases (lnAt c.l (vict c)).va with
  | true =>
   rw [cot]
   have := Nat.mod_lt (vict c + 1) (show 0 < c.l.length from h.n1)
   omega
  | false => rw [cof]; exact h.h1
 ·simp only [fillC, List.length_set] at hi ⊢
  rw [lnAt_set hi]
  split
  ·exact hx
  ·exact h.ok i hi
 ·simp only [fillC, List.length_set] at hi ⊢
  rw [lnAt_set hi, lnAt_set (by omega)]
  split
  ·split
   ·omega
   ·exact hcl j (by omega)
  ·split
   ·rw [clash_symm]; exact hcl i hi
   ·exact h.cl i hi j hj
 ·refine ⟨vict c, by simpa [fillC] using hv, ?_⟩
  simp only [fillC]
  rw [lnAt_set hv, if_pos rfl, hw]

/-! ### tags -/
structure GO (t : Tg) : Prop where
 c1 : 1 ≤ t.c
 c2 : t.c ≤ 8
 n1 : 0 ≤ t.n
 n2 : t.n ≤ t.c
 r1 : 0 ≤ t.r
 r2 : t.r ≤ 1000000
 pt : ∀ i, i < t.o.length → prevTag t.o i < (owAt t.o i).tg
 tn : ∀ i, i < t.o.length → (owAt t.o i).tg < t.n
 s1 : ∀ i, i < t.o.length → 0 ≤ (owAt t.o i).sp ∧ (owAt t.o i).sp < 16
 sd : ∀ i, i < t.o.length → ∀ j, j < i → (owAt t.o j).sp ≠ (owAt t.o i).sp
theorem tagsOk_iff {t : Tg} : tagsOk t = true ↔ GO t := by
 unfold tagsOk
 simp only [Bool.and_eq_true, decide_eq_true_eq, within_iff, upto_iff, Nat.zero_add, ownGood]
 constructor
 ·rintro ⟨⟨⟨⟨⟨⟨a, b⟩, d⟩, e⟩, f⟩, g⟩, h⟩
  refine ⟨a, b, d, e, f, g, fun i hi => (h i (by omega) hi).1.1.1, fun i hi => (h i (by omega) hi).1.1.2, fun i hi => (h i (by omega) hi).1.2, fun i hi j hj => ?_⟩
  have := (h i (by omega) hi).2 j (by omega) hj
  simpa using this
 ·rintro ⟨a, b, d, e, f, g, h1, h2, h3, h4⟩
  refine ⟨⟨⟨⟨⟨⟨a, b⟩, d⟩, e⟩, f⟩, g⟩, fun i _ hi => ⟨⟨⟨h1 i hi, h2 i hi⟩, h3 i hi⟩, fun j _ hj => ?_⟩⟩
  have := h4 i hi j hj
  simpa using this
theorem GO.ge {t : Tg} (h : GO t) : ∀ i, i < t.o.length → (i : Int) ≤ (owAt t.o i).tg
 | 0, hi => by have := h.pt 0 hi; simp only [prevTag] at this; omega
 | i + 1, hi => by
  have h1 := h.pt (i + 1) hi
  have h2 := h.ge i (by omega)
  simp only [prevTag] at h1
  omega
theorem GO.len {t : Tg} (h : GO t) : (t.o.length : Int) ≤ t.n := by
 rcases Nat.eq_zero_or_pos t.o.length with e | e
 ·rw [e]; exact h.n1
 ·have h1 := h.ge (t.o.length - 1) (by omega)
  have h2 := h.tn (t.o.length - 1) (by omega)
  omega

/-- a loop that looks for the first place -/
theorem findLoop {α ρ : Type} {L : Nat → Int → Option (LO Int ρ)} {l : List α} {p : α → Bool} {res : Nat → ρ}
  (step : ∀ fuel i (h : i < l.length), L (fuel + 1) (i : Int) = if p l[i] then some (.ret (res i)) else L fuel ((i + 1 : Nat) : Int))
  (stop : ∀ fuel, L (fuel + 1) (l.length : Int) = some (.out (l.length : Int))) : ∀ fuel i, i ≤ l.length → l.length - i < fuel →
  L fuel (i : Int) = some (if 0 ≤ fx p (l.drop i) i then .ret (res (fx p (l.drop i) i).toNat) else .out (l.length : Int)) := by
 intro fuel
 induction fuel with
 | zero => intro i _ h; omega
 | succ fuel ih =>
  intro i hi hf
  by_cases h : i < l.length
  ·rw [step fuel i h, fx_drop h]
   by_cases hp : p l[i] = true
   ·rw [if_pos hp, if_pos hp, if_pos (by omega)]; simp
   ·rw [if_neg hp, if_neg hp]; exact ih (i + 1) (by omega) (by omega)
  ·have e : i = l.length := by omega
   subst e
   rw [stop, fx_end (Nat.le_refl _), if_neg (by omega)]
/-- a loop that looks whether each place is good -/
theorem allLoop {ρ : Type} {L : Nat → Int → Option (LO Int ρ)} {n : Nat} {p : Nat → Bool} {bad : ρ}
  (step : ∀ fuel i, i < n → L (fuel + 1) (i : Int) = if p i then L fuel ((i + 1 : Nat) : Int) else some (.ret bad))
  (stop : ∀ fuel, L (fuel + 1) (n : Int) = some (.out (n : Int))) : ∀ fuel i, i ≤ n → n - i < fuel → L fuel (i : Int) = some (if upto p i (n - i) then .out (n : Int) else .ret bad) := by
 intro fuel
 induction fuel with
 | zero => intro i _ h; omega
 | succ fuel ih =>
  intro i hi hf
  by_cases h : i < n
  ·obtain ⟨k, hk⟩ : ∃ k, n - i = k + 1 := ⟨n - i - 1, by omega⟩
   have hk' : n - (i + 1) = k := by omega
   rw [step fuel i h, hk, upto]
   cases hp : p i with
   | true =>
    rw [if_pos rfl, Bool.true_and]
    have := ih (i + 1) (by omega) (by omega)
    rw [hk'] at this
    exact this
   | false => simp
  ·have e : i = n := by omega
   subst e
   rw [stop, Nat.sub_self]; rfl
theorem s1Page (x : Int) : s_l1Page fl x = some (within x 256) := by
 unfold s_l1Page within; cases decide (0 ≤ x) <;> rfl
theorem s1Space (x : Int) : s_l1Space fl x = some (within x 16) := by
 unfold s_l1Space within; cases decide (0 ≤ x) <;> rfl
theorem iTag_eq (x : Int) : i_tagValid fl x = some (tagIn x) := by
 unfold i_tagValid tagIn; cases decide (-1 ≤ x) <;> rfl
theorem iLine_eq (x : Ln) : i_lineValid fl x = some (lineOk x) := by
 unfold i_lineValid lineOk
 rw [iTag_eq, within_eq, within_eq, iRights_eq]
 cases x.va <;> cases tagIn x.tg <;> cases within x.pg 256 <;> cases within x.fr 16 <;> rfl
theorem sLine_eq (x : Ln) : s_l4Line fl x = some (lineOk x) := by
 unfold s_l4Line lineOk
 rw [s1Page, sRights_eq]
 unfold tagIn
 cases x.va <;> cases decide (-1 ≤ x.tg) <;> cases decide (x.tg < 8) <;> cases within x.pg 256 <;> (unfold within; cases decide (0 ≤ x.fr) <;> cases decide (x.fr < 16) <;> rfl)
theorem iClash_eq (x y : Ln) : i_clash fl x y = some (clash x y) := by
 unfold i_clash clash
 cases x.va <;> cases y.va <;> cases (x.pg == y.pg) <;> cases (x.tg == y.tg) <;> cases (x.tg == -1) <;> rfl
theorem fits_eq (x : Ln) (tag page : Int) : i_Cache_place_1 fl x page tag = some (fits tag page x) := by
 unfold i_Cache_place_1 fits
 cases x.va <;> cases (x.pg == page) <;> cases (x.tg == tag) <;> rfl
theorem sFits_eq (x : Ln) (tag page : Int) : s_l4Fits fl x tag page = some (fits tag page x) := by
 unfold s_l4Fits fits
 cases x.va <;> cases (x.pg == page) <;> cases (x.tg == tag) <;> rfl

/-! ### the place of a line -/
theorem fx_ret {α : Type} {p : α → Bool} {l : List α} {f : Option Int → Option Int} : (match (if 0 ≤ fx p l 0 then LO.ret ((fx p l 0).toNat : Int) else LO.out (l.length : Int) : LO Int Int) with | .ret r' => some r' | .out _ => some (-1)) = some (fx p l 0) := by
 have hb := fx_bd (p := p) (l := l)
 by_cases h : 0 ≤ fx p l 0
 ·rw [if_pos h]; simp only []; congr 1; omega
 ·rw [if_neg h]; simp only []; congr 1; omega
theorem place_eq {c : Ca} {tag page : Int} (hl : c.l.length ≤ 1048576) (hf : 1048576 < fl) : i_Cache_place fl c tag page = some (fx (fits tag page) c.l 0) := by
 unfold i_Cache_place slices_IndexFunc_Line_of_i_Cache_place_1
 have := findLoop (L := slices_IndexFunc_Line_of_i_Cache_place_1_L0 fl c.l page tag) (l := c.l) (p := fits tag page) (res := fun i => (i : Int))
  (fun fuel i h => by
   rw [slices_IndexFunc_Line_of_i_Cache_place_1_L0.eq_2, decide_eq_true (by omega : (i : Int) < (c.l.length : Int)), cot, idx_nat h]
   simp only [obs, fits_eq]
   cases fits tag page c.l[i] with
   | true => rfl
   | false => rw [cof, ck_succ (by omega)]; rfl)
  (fun fuel => by rw [slices_IndexFunc_Line_of_i_Cache_place_1_L0.eq_2, decide_eq_false (by omega), cof]) fl 0 (by omega) (by omega)
 rw [show ((0 : Nat) : Int) = 0 from rfl, List.drop_zero] at this
 rw [this]
 simp only [obs]
 have hb := fx_bd (p := fits tag page) (l := c.l)
 by_cases h0 : 0 ≤ fx (fits tag page) c.l 0
 ·rw [if_pos h0]; simp only [obs]; congr 1; omega
 ·rw [if_neg h0]; simp only [obs]; congr 1; omega
theorem sPlace_eq {c : Ca} {tag page : Int} (hl : c.l.length ≤ 1048576) (hf : 1048576 < fl) : s_l4Find fl c tag page = some (fx (fits tag page) c.l 0) := by
 unfold s_l4Find
 have := findLoop (L := s_l4Find_L0 fl c tag page) (l := c.l) (p := fits tag page) (res := fun i => (i : Int))
  (fun fuel i h => by
   rw [s_l4Find_L0.eq_2, decide_eq_true (by omega : (i : Int) < (c.l.length : Int)), cot, idx_nat h]
   simp only [obs, sFits_eq]
   cases fits tag page c.l[i] with
   | true => rfl
   | false => rw [cof, ck_succ (by omega)]; rfl)
  (fun fuel => by rw [s_l4Find_L0.eq_2, decide_eq_false (by omega), cof]) fl 0 (by omega) (by omega)
 rw [show ((0 : Nat) : Int) = 0 from rfl, List.drop_zero] at this
 rw [this]
 simp only [obs]
 exact fx_ret (f := id)
theorem own_eq {t : Tg} {sp : Int} (hl : t.o.length ≤ 1048576) (hf : 1048576 < fl) : i_Tags_own fl t sp = some (ownF t sp) := by
 unfold i_Tags_own slices_IndexFunc_Own_of_i_Tags_own_1
 have := findLoop (L := slices_IndexFunc_Own_of_i_Tags_own_1_L0 fl t.o sp) (l := t.o) (p := fun o : Ow => o.sp == sp) (res := fun i => (i : Int))
  (fun fuel i h => by
   rw [slices_IndexFunc_Own_of_i_Tags_own_1_L0.eq_2, decide_eq_true (by omega : (i : Int) < (t.o.length : Int)), cot, idx_nat h]
   simp only [obs, i_Tags_own_1]
   cases (t.o[i].sp == sp) with
   | true => rfl
   | false => rw [cof, ck_succ (by omega)]; rfl)
  (fun fuel => by rw [slices_IndexFunc_Own_of_i_Tags_own_1_L0.eq_2, decide_eq_false (by omega), cof]) fl 0 (by omega) (by omega)
 rw [show ((0 : Nat) : Int) = 0 from rfl, List.drop_zero] at this
 rw [this]
 simp only [obs]
 unfold ownF
 have hb := fx_bd (p := fun o : Ow => o.sp == sp) (l := t.o)
 by_cases h0 : 0 ≤ fx (fun o : Ow => o.sp == sp) t.o 0
 ·rw [if_pos h0]; simp only [obs]; congr 1; omega
 ·rw [if_neg h0]; simp only [obs]; congr 1; omega
theorem sOwn_eq {t : Tg} {sp : Int} (hl : t.o.length ≤ 1048576) (hf : 1048576 < fl) : s_l5Find fl t sp = some (ownF t sp) := by
 unfold s_l5Find
 have := findLoop (L := s_l5Find_L0 fl t sp) (l := t.o) (p := fun o : Ow => o.sp == sp) (res := fun i => (i : Int))
  (fun fuel i h => by
   rw [s_l5Find_L0.eq_2, decide_eq_true (by omega : (i : Int) < (t.o.length : Int)), cot, idx_nat h]
   simp only [obs]
   cases (t.o[i].sp == sp) with
   | true => rfl
   | false => rw [cof, ck_succ (by omega)]; rfl)
  (fun fuel => by rw [s_l5Find_L0.eq_2, decide_eq_false (by omega), cof]) fl 0 (by omega) (by omega)
 rw [show ((0 : Nat) : Int) = 0 from rfl, List.drop_zero] at this
 rw [this]
 simp only [obs]
 exact fx_ret (f := id)

/-! ### valid caches -/
theorem iClashes {c : Ca} {i : Nat} {x : Ln} (h : i < c.l.length) (hl : c.l.length ≤ 8) (hf : 1048576 < fl) : i_CacheValid_L1 fl x (c.l.take i) fl 0 = some (if upto (fun j => !clash x (lnAt c.l j)) 0 i then .out (i : Int) else .ret false) := by
 have e : (c.l.take i).length = i := by rw [List.length_take]; omega
 have := allLoop (L := i_CacheValid_L1 fl x (c.l.take i)) (n := i) (p := fun j => !clash x (lnAt c.l j)) (bad := false)
  (fun fuel j hj => by
   have h2 : j < (c.l.take i).length := by omega
   rw [i_CacheValid_L1.eq_2, e, decide_eq_true (by omega : (j : Int) < (i : Int)), cot, idx_nat h2]
   simp only [obs, iClash_eq, List.getElem_take]
   rw [lnAt_lt (by omega)]
   cases clash x c.l[j] with
   | true => rfl
   | false => rw [cof, ck_succ (by omega)]; rfl)
  (fun fuel => by rw [i_CacheValid_L1.eq_2, e, decide_eq_false (by omega), cof]) fl 0 (by omega) (by omega)
 rw [show ((0 : Nat) : Int) = 0 from rfl, Nat.sub_zero] at this
 exact this
theorem takeO_nat {α : Type} {l : List α} {i : Nat} (h : i ≤ l.length) : takeO l (i : Int) = some (l.take i) := by
 unfold takeO; rw [if_pos (by omega)]; simp
theorem iCache_L0 {c : Ca} (hl : c.l.length ≤ 8) (hf : 1048576 < fl) : ∀ fuel i (b : Bool), i ≤ c.l.length → c.l.length - i < fuel →
  i_CacheValid_L0 fl c fuel (i : Int) b = some (if upto (lineGood c.l) i (c.l.length - i) then .out ((c.l.length : Int), b || !upto (fun i => (lnAt c.l i).wi) i (c.l.length - i)) else .ret false) := by
 intro fuel
 induction fuel with
 | zero => intro i b _ h; omega
 | succ fuel ih =>
  intro i b hi hfu
  rw [i_CacheValid_L0.eq_2]
  by_cases h : i < c.l.length
  ·obtain ⟨k, hk⟩ : ∃ k, c.l.length - i = k + 1 := ⟨c.l.length - i - 1, by omega⟩
   have hk' : c.l.length - (i + 1) = k := by omega
   have IH := fun b => ih (i + 1) b (by omega) (by omega)
   simp only [hk'] at IH
   rw [decide_eq_true (by omega : (i : Int) < (c.l.length : Int)), cot, idx_nat h]
   simp only [obs, iLine_eq]
   rw [hk, upto, upto, lineGood, lnAt_lt h]
   cases lineOk c.l[i] with
   | false => simp [obs]
   | true =>
    simp only [Bool.not_true, cof, Bool.true_and]
    rw [takeO_nat hi]
    simp only [obs]
    rw [iClashes h hl hf]
    simp only [obs]
    cases upto (fun j => !clash c.l[i] (lnAt c.l j)) 0 i with
    | false => simp
    | true =>
     simp only [if_true, Bool.true_and]
     have : (cond b (some true) (some (!c.l[i].wi))) = some (b || !c.l[i].wi) := by cases b <;> rfl
     rw [this, ck_succ (by omega)]
     simp only [obs]
     rw [IH]
     cases b <;> cases c.l[i].wi <;> rfl
  ·have e : i = c.l.length := by omega
   subst e
   rw [decide_eq_false (by omega), cof, Nat.sub_self]
   simp [upto]
theorem iCache_eq {c : Ca} (hf : 1048576 < fl) : i_CacheValid fl c = some (cacheOk c) := by
 unfold i_CacheValid cacheOk
 rw [within_eq]
 by_cases h1 : (c.l.length : Int) < 1
 ·rw [decide_eq_true h1, decide_eq_false (by omega : ¬ 1 ≤ c.l.length)]; simp [obs]
 rw [decide_eq_false h1, decide_eq_true (by omega : 1 ≤ c.l.length)]
 by_cases h2 : (8 : Int) < (c.l.length : Int)
 ·rw [decide_eq_true h2, decide_eq_false (by omega : ¬ c.l.length ≤ 8)]; simp [obs]
 rw [decide_eq_false h2, decide_eq_true (by omega : c.l.length ≤ 8)]
 cases hw : within c.h c.l.length with
 | false => simp [obs]
 | true =>
  simp only [cof, obs, Bool.not_true, Bool.true_and]
  have := iCache_L0 (fl := fl) (c := c) (by omega) hf fl 0 false (by omega) (by omega)
  rw [show ((0 : Nat) : Int) = 0 from rfl, Nat.sub_zero] at this
  rw [this]
  simp only [obs]
  cases upto (lineGood c.l) 0 c.l.length with
  | false => simp
  | true => simp
theorem sClash1 {c : Ca} {i : Nat} {x : Ln} (h : i < c.l.length) (hl : c.l.length ≤ 8) (hf : 1048576 < fl) : s_CacheValid_L1 fl c (i : Int) x fl 0 = some (if upto (fun j => !clash x (lnAt c.l j)) 0 i then .out (i : Int) else .ret false) := by
 have := allLoop (L := s_CacheValid_L1 fl c (i : Int) x) (n := i) (p := fun j => !clash x (lnAt c.l j)) (bad := false)
  (fun fuel j hj => by
   rw [s_CacheValid_L1.eq_2, decide_eq_true (by omega : (j : Int) < (i : Int)), cot, idx_nat (by omega : j < c.l.length)]
   simp only [obs]
   rw [lnAt_lt (by omega), ck_succ (by omega)]
   unfold clash
   cases x.va <;> cases c.l[j].va <;> cases (x.pg == c.l[j].pg) <;> cases (x.tg == c.l[j].tg) <;> cases (x.tg == -1) <;> cases (c.l[j].tg == -1) <;> rfl)
  (fun fuel => by rw [s_CacheValid_L1.eq_2, decide_eq_false (by omega), cof]) fl 0 (by omega) (by omega)
 rw [show ((0 : Nat) : Int) = 0 from rfl, Nat.sub_zero] at this
 exact this
theorem sClash2 {c : Ca} {i : Nat} {x : Ln} (h : i < c.l.length) (hl : c.l.length ≤ 8) (hf : 1048576 < fl) : s_CacheValid_L2 fl c (i : Int) x fl 0 = some (if upto (fun j => !clash x (lnAt c.l j)) 0 i then .out (i : Int) else .ret false) := by
 have := allLoop (L := s_CacheValid_L2 fl c (i : Int) x) (n := i) (p := fun j => !clash x (lnAt c.l j)) (bad := false)
  (fun fuel j hj => by
   rw [s_CacheValid_L2.eq_2, decide_eq_true (by omega : (j : Int) < (i : Int)), cot, idx_nat (by omega : j < c.l.length)]
   simp only [obs]
   rw [lnAt_lt (by omega), ck_succ (by omega)]
   unfold clash
   cases x.va <;> cases c.l[j].va <;> cases (x.pg == c.l[j].pg) <;> cases (x.tg == c.l[j].tg) <;> cases (x.tg == -1) <;> cases (c.l[j].tg == -1) <;> rfl)
  (fun fuel => by rw [s_CacheValid_L2.eq_2, decide_eq_false (by omega), cof]) fl 0 (by omega) (by omega)
 rw [show ((0 : Nat) : Int) = 0 from rfl, Nat.sub_zero] at this
 exact this
theorem sCache_L0 {c : Ca} (hl : c.l.length ≤ 8) (hf : 1048576 < fl) : ∀ fuel i (v : Nat), v ≤ i → i ≤ c.l.length → c.l.length - i < fuel →
  ∃ v' : Nat, s_CacheValid_L0 fl c fuel (v : Int) (i : Int) = some (if upto (lineGood c.l) i (c.l.length - i) then .out ((v' : Int), (c.l.length : Int)) else .ret false) ∧ decide (0 < v') = (decide (0 < v) || !upto (fun i => (lnAt c.l i).wi) i (c.l.length - i)) := by
 intro fuel
 induction fuel with
 | zero => intro i v _ _ h; omega
 | succ fuel ih =>
  intro i v hv hi hfu
  rw [s_CacheValid_L0.eq_2]
  by_cases h : i < c.l.length
  ·obtain ⟨k, hk⟩ : ∃ k, c.l.length - i = k + 1 := ⟨c.l.length - i - 1, by omega⟩
   have hk' : c.l.length - (i + 1) = k := by omega
   have IH := fun v hv => ih (i + 1) v hv (by omega) (by omega)
   simp only [hk'] at IH
   rw [decide_eq_true (by omega : (i : Int) < (c.l.length : Int)), cot, idx_nat h]
   simp only [obs, sLine_eq]
   rw [hk, upto, upto, lineGood, lnAt_lt h]
   cases lineOk c.l[i] with
   | false => exact ⟨if (decide (0 < v) || !(c.l[i].wi && upto (fun i => (lnAt c.l i).wi) (i + 1) k)) then 1 else 0, by simp [obs], by split <;> simp_all⟩
   | true =>
    simp only [Bool.not_true, cof, Bool.true_and]
    cases hw : c.l[i].wi with
    | false =>
     simp only [Bool.not_false, cot]
     rw [ck_succ (by omega)]
     simp only [obs]
     rw [sClash1 h hl hf]
     simp only [obs]
     obtain ⟨v', h1, h2⟩ := IH (v + 1) (by omega)
     cases upto (fun j => !clash c.l[i] (lnAt c.l j)) 0 i with
     | false => exact ⟨1, by simp, by simp⟩
     | true =>
      simp only [if_true, Bool.true_and]
      rw [ck_succ (by omega)]
      simp only [obs]
      refine ⟨v', h1, ?_⟩
      rw [h2]; simp
    | true =>
     simp only [Bool.not_true, cof, obs]
     rw [sClash2 h hl hf]
     simp only [obs]
     obtain ⟨v', h1, h2⟩ := IH v (by omega)
     cases upto (fun j => !clash c.l[i] (lnAt c.l j)) 0 i with
     | false => exact ⟨if (decide (0 < v) || !(upto (fun i => (lnAt c.l i).wi) (i + 1) k)) then 1 else 0, by simp, by simp only [Bool.true_and]; split <;> simp_all⟩
     | true =>
      simp only [if_true, Bool.true_and]
      rw [ck_succ (by omega)]
      simp only [obs]
      exact ⟨v', h1, h2⟩
  ·have e : i = c.l.length := by omega
   subst e
   rw [decide_eq_false (by omega), cof, Nat.sub_self]
   exact ⟨v, by simp [upto], by simp [upto]⟩
theorem sCache_eq {c : Ca} (hf : 1048576 < fl) : s_CacheValid fl c = some (cacheOk c) := by
 unfold s_CacheValid cacheOk within
 by_cases h1 : (c.l.length : Int) < 1
 ·rw [decide_eq_true h1, decide_eq_false (by omega : ¬ 1 ≤ c.l.length)]; simp [obs]
 rw [decide_eq_false h1, decide_eq_true (by omega : 1 ≤ c.l.length)]
 by_cases h2 : (8 : Int) < (c.l.length : Int)
 ·rw [decide_eq_true h2, decide_eq_false (by omega : ¬ c.l.length ≤ 8)]; simp [obs]
 rw [decide_eq_false h2, decide_eq_true (by omega : c.l.length ≤ 8)]
 by_cases h3 : c.h < 0
 ·rw [decide_eq_true h3, decide_eq_false (by omega : ¬ 0 ≤ c.h)]; simp [obs]
 rw [decide_eq_false h3, decide_eq_true (by omega : 0 ≤ c.h)]
 by_cases h4 : (c.l.length : Int) ≤ c.h
 ·rw [decide_eq_true h4, decide_eq_false (by omega : ¬ c.h < (c.l.length : Int))]; simp [obs]
 rw [decide_eq_false h4, decide_eq_true (by omega : c.h < (c.l.length : Int))]
 simp only [cof, obs, Bool.true_and]
 obtain ⟨v', h, he⟩ := sCache_L0 (fl := fl) (c := c) (by omega) hf fl 0 0 (by omega) (by omega) (by omega)
 rw [show ((0 : Nat) : Int) = 0 from rfl, Nat.sub_zero] at h
 rw [Nat.sub_zero] at he
 rw [h]
 simp only [obs]
 cases upto (lineGood c.l) 0 c.l.length with
 | false => simp
 | true =>
  simp only [if_true, Bool.true_and]
  rw [show decide ((0 : Int) < (v' : Int)) = decide (0 < v') from by congr 1; apply propext; omega, he]
  simp

theorem upto_mem {l : List Ow} {s : Int} {i : Nat} (h : i ≤ l.length) : upto (fun j => !((owAt l j).sp == s)) 0 i = !decide (s ∈ (l.take i).map (·.sp)) := by
 rw [Bool.eq_iff_iff, upto_iff]
 simp only [Bool.not_eq_true', beq_eq_false_iff_ne, decide_eq_false_iff_not, List.mem_map, not_exists, not_and, Nat.zero_add]
 constructor
 ·intro hh o ho e
  obtain ⟨j, hj, rfl⟩ := List.getElem_of_mem ho
  have h2 : j < i := by rw [List.length_take] at hj; omega
  refine hh j (by omega) h2 ?_
  rw [owAt_lt (by omega)]
  rw [List.getElem_take] at e
  exact e
 ·intro hh j _ hj e
  rw [owAt_lt (by omega)] at e
  refine hh l[j] ?_ e
  rw [List.mem_take_iff_getElem]
  exact ⟨j, by omega, rfl⟩
theorem hasO_in {l : List Int} {n : Int} (h : 0 ≤ n ∧ n < 16) : hasO l n = some (decide (n ∈ l)) := by
 unfold hasO; rw [if_pos (by omega)]
theorem addO_in {l : List Int} {n : Int} (h : 0 ≤ n ∧ n < 16) (hn : n ∉ l) : addO l n = some (l ++ [n]) := by
 unfold addO; rw [if_pos ⟨by omega, hn⟩]
theorem iTags_L0 {t : Tg} (hl : t.o.length ≤ 1048576) : ∀ fuel i, i ≤ t.o.length → t.o.length - i < fuel →
  ∃ u, i_TagsValid_L0 fl t fuel ((t.o.take i).map (·.sp)) (prevTag t.o i) (i : Int) = some (if upto (ownGood t) i (t.o.length - i) then .out u else .ret false) := by
 intro fuel
 induction fuel with
 | zero => intro i _ h; omega
 | succ fuel ih =>
  intro i hi hfu
  rw [i_TagsValid_L0.eq_2]
  by_cases h : i < t.o.length
  ·obtain ⟨k, hk⟩ : ∃ k, t.o.length - i = k + 1 := ⟨t.o.length - i - 1, by omega⟩
   have hk' : t.o.length - (i + 1) = k := by omega
   obtain ⟨u, IH⟩ := ih (i + 1) (by omega) (by omega)
   rw [hk'] at IH
   refine ⟨u, ?_⟩
   rw [decide_eq_true (by omega : (i : Int) < (t.o.length : Int)), cot, idx_nat h]
   simp only [obs]
   rw [hk, upto, ownGood, owAt_lt h, within_eq]
   simp only [obs]
   by_cases h1 : prevTag t.o i < t.o[i].tg
   ·rw [decide_eq_false (by omega : ¬ t.o[i].tg ≤ prevTag t.o i), decide_eq_true h1]
    by_cases h2 : t.o[i].tg < t.n
    ·rw [decide_eq_false (by omega : ¬ t.n ≤ t.o[i].tg), decide_eq_true h2]
     simp only [cof, obs, Bool.true_and]
     cases hw : within t.o[i].sp 16 with
     | false => simp [obs]
     | true =>
      have hw' := within_iff.1 hw
      rw [upto_mem hi]
      simp only [Bool.not_true, cof, obs, Bool.true_and]
      rw [hasO_in hw']
      simp only [obs]
      by_cases hm : t.o[i].sp ∈ (t.o.take i).map (·.sp)
      ·rw [decide_eq_true hm]; simp
      ·rw [decide_eq_false hm]
       simp only [cof, Bool.not_false, Bool.true_and]
       rw [addO_in hw' hm, ck_succ (by omega)]
       simp only [obs]
       have e1 : (t.o.take i).map (·.sp) ++ [t.o[i].sp] = (t.o.take (i + 1)).map (·.sp) := by
        rw [List.take_add_one, List.getElem?_eq_getElem h, List.map_append]; rfl
       have e2 : t.o[i].tg = prevTag t.o (i + 1) := by rw [prevTag, owAt_lt h]
       rw [e1, e2]
       exact IH
    ·rw [decide_eq_true (by omega : t.n ≤ t.o[i].tg), decide_eq_false h2]; simp [obs]
   ·rw [decide_eq_true (by omega : t.o[i].tg ≤ prevTag t.o i), decide_eq_false h1]; simp [obs]
  ·have e : i = t.o.length := by omega
   subst e
   rw [decide_eq_false (by omega), cof, Nat.sub_self]
   exact ⟨_, rfl⟩
theorem iTags_eq {t : Tg} (hl : t.o.length ≤ 1048576) (hf : 1048576 < fl) : i_TagsValid fl t = some (tagsOk t) := by
 unfold i_TagsValid tagsOk
 by_cases h1 : t.c < 1
 ·rw [decide_eq_true h1, decide_eq_false (by omega : ¬ 1 ≤ t.c)]; simp [obs]
 rw [decide_eq_false h1, decide_eq_true (by omega : 1 ≤ t.c)]
 by_cases h2 : 8 < t.c
 ·rw [decide_eq_true h2, decide_eq_false (by omega : ¬ t.c ≤ 8)]; simp [obs]
 rw [decide_eq_false h2, decide_eq_true (by omega : t.c ≤ 8)]
 by_cases h3 : t.n < 0
 ·rw [decide_eq_true h3, decide_eq_false (by omega : ¬ 0 ≤ t.n)]; simp [obs]
 rw [decide_eq_false h3, decide_eq_true (by omega : 0 ≤ t.n)]
 by_cases h4 : t.c < t.n
 ·rw [decide_eq_true h4, decide_eq_false (by omega : ¬ t.n ≤ t.c)]; simp [obs]
 rw [decide_eq_false h4, decide_eq_true (by omega : t.n ≤ t.c)]
 by_cases h5 : t.r < 0
 ·rw [decide_eq_true h5, decide_eq_false (by omega : ¬ 0 ≤ t.r)]; simp [obs]
 rw [decide_eq_false h5, decide_eq_true (by omega : 0 ≤ t.r)]
 by_cases h6 : 1000000 < t.r
 ·rw [decide_eq_true h6, decide_eq_false (by omega : ¬ t.r ≤ 1000000)]; simp [obs]
 rw [decide_eq_false h6, decide_eq_true (by omega : t.r ≤ 1000000)]
 simp only [cof, obs, Bool.true_and]
 obtain ⟨u, h⟩ := iTags_L0 (fl := fl) hl fl 0 (by omega) (by omega)
 rw [show ((0 : Nat) : Int) = 0 from rfl, Nat.sub_zero, List.take_zero] at h
 have h' : i_TagsValid_L0 fl t fl [] (-1) 0 = _ := h
 rw [h']
 simp only [obs]
 cases upto (ownGood t) 0 t.o.length with
 | false => simp
 | true => simp
theorem sTags_L1 {t : Tg} {i : Nat} {x : Ow} (h : i < t.o.length) (hl : t.o.length ≤ 1048576) (hf : 1048576 < fl) : s_TagsValid_L1 fl t (i : Int) x fl 0 = some (if upto (fun j => !((owAt t.o j).sp == x.sp)) 0 i then .out (i : Int) else .ret false) := by
 have := allLoop (L := s_TagsValid_L1 fl t (i : Int) x) (n := i) (p := fun j => !((owAt t.o j).sp == x.sp)) (bad := false)
  (fun fuel j hj => by
   rw [s_TagsValid_L1.eq_2, decide_eq_true (by omega : (j : Int) < (i : Int)), cot, idx_nat (by omega : j < t.o.length)]
   simp only [obs]
   rw [owAt_lt (by omega)]
   cases (t.o[j].sp == x.sp) with
   | true => rfl
   | false => rw [cof, ck_succ (by omega)]; rfl)
  (fun fuel => by rw [s_TagsValid_L1.eq_2, decide_eq_false (by omega), cof]) fl 0 (by omega) (by omega)
 rw [show ((0 : Nat) : Int) = 0 from rfl, Nat.sub_zero] at this
 exact this
theorem sTags_L0 {t : Tg} (hl : t.o.length ≤ 1048576) (hf : 1048576 < fl) : ∀ fuel i, i ≤ t.o.length → t.o.length - i < fuel → (0 < i → 0 ≤ prevTag t.o i) →
  s_TagsValid_L0 fl t fuel (i : Int) = some (if upto (ownGood t) i (t.o.length - i) then .out (t.o.length : Int) else .ret false) := by
 intro fuel
 induction fuel with
 | zero => intro i _ h; omega
 | succ fuel ih =>
  intro i hi hfu hp
  rw [s_TagsValid_L0.eq_2]
  by_cases h : i < t.o.length
  ·obtain ⟨k, hk⟩ : ∃ k, t.o.length - i = k + 1 := ⟨t.o.length - i - 1, by omega⟩
   have hk' : t.o.length - (i + 1) = k := by omega
   have IH := ih (i + 1) (by omega) (by omega)
   rw [hk'] at IH
   rw [decide_eq_true (by omega : (i : Int) < (t.o.length : Int)), cot, idx_nat h]
   simp only [obs, s1Space]
   rw [hk, upto, ownGood, owAt_lt h]
   cases hw : within t.o[i].sp 16 with
   | false => simp [obs]
   | true =>
    simp only [Bool.not_true, cof, obs]
    by_cases h0 : t.o[i].tg < 0
    ·have : ¬ prevTag t.o i < t.o[i].tg := by
      rcases Nat.eq_zero_or_pos i with e | e
      ·subst e; simp only [prevTag]; omega
      ·have := hp e; omega
     rw [decide_eq_true h0, decide_eq_false this]; simp [obs]
    rw [decide_eq_false h0]
    simp only [cof, obs]
    by_cases h2 : t.o[i].tg < t.n
    ·rw [decide_eq_false (by omega : ¬ t.n ≤ t.o[i].tg), decide_eq_true h2]
     simp only [cof, obs, Bool.and_true]
     have hprev : (Option.bind (cond (decide (0 < (i : Int))) (Option.bind (ck ((i : Int) - 1)) fun x18 => Option.bind (idx t.o x18) fun x19 => some (decide (t.o[i].tg ≤ x19.tg))) (some false)) fun y17 => some y17) = some (!decide (prevTag t.o i < t.o[i].tg)) := by
      rcases i with _ | i
      ·rw [decide_eq_false (by omega : ¬ (0 : Int) < ((0 : Nat) : Int)), cof]
       simp only [obs, prevTag]
       have h9 : (-1 : Int) < t.o[0].tg := by omega
       simp [h9]
      ·rw [decide_eq_true (by omega : (0 : Int) < ((i + 1 : Nat) : Int)), cot, ck_in (by omega)]
       simp only [obs]
       rw [show (((i + 1 : Nat) : Int) - 1) = (i : Int) by omega, idx_nat (by omega : i < t.o.length)]
       simp only [obs]
       have hpt : prevTag t.o (i + 1) = t.o[i].tg := by rw [prevTag, owAt_lt (by omega)]
       congr 1
       rw [Bool.eq_iff_iff]
       simp only [decide_eq_true_eq, Bool.not_eq_true', decide_eq_false_iff_not]
       omega
     rw [hprev]
     simp only [obs]
     by_cases h1 : prevTag t.o i < t.o[i].tg
     ·rw [decide_eq_true h1]
      simp only [Bool.not_true, cof, Bool.true_and]
      rw [sTags_L1 h hl hf]
      simp only [obs]
      cases upto (fun j => !((owAt t.o j).sp == t.o[i].sp)) 0 i with
      | false => simp
      | true =>
       simp only [if_true, Bool.true_and]
       rw [ck_succ (by omega)]
       simp only [obs]
       refine IH fun _ => ?_
       rw [prevTag, owAt_lt h]; omega
     ·rw [decide_eq_false h1]; simp
    ·rw [decide_eq_true (by omega : t.n ≤ t.o[i].tg), decide_eq_false h2]; simp [obs]
  ·have e : i = t.o.length := by omega
   subst e
   rw [decide_eq_false (by omega), cof, Nat.sub_self]
   rfl
theorem sTags_eq {t : Tg} (hl : t.o.length ≤ 1048576) (hf : 1048576 < fl) : s_TagsValid fl t = some (tagsOk t) := by
 by_cases h7 : t.n < (t.o.length : Int)
 ·have hno : tagsOk t = false := by
   apply Bool.eq_false_iff.2
   intro h
   have := (tagsOk_iff.1 h).len
   omega
  rw [hno]
  unfold s_TagsValid
  rw [decide_eq_true h7]
  cases decide (t.c < 1) <;> cases decide (8 < t.c) <;> cases decide (t.n < 0) <;> cases decide (t.c < t.n) <;> cases decide (t.r < 0) <;> cases decide (1000000 < t.r) <;> rfl
 unfold s_TagsValid tagsOk
 rw [decide_eq_false h7]
 by_cases h1 : t.c < 1
 ·rw [decide_eq_true h1, decide_eq_false (by omega : ¬ 1 ≤ t.c)]; simp [obs]
 rw [decide_eq_false h1, decide_eq_true (by omega : 1 ≤ t.c)]
 by_cases h2 : 8 < t.c
 ·rw [decide_eq_true h2, decide_eq_false (by omega : ¬ t.c ≤ 8)]; simp [obs]
 rw [decide_eq_false h2, decide_eq_true (by omega : t.c ≤ 8)]
 by_cases h3 : t.n < 0
 ·rw [decide_eq_true h3, decide_eq_false (by omega : ¬ 0 ≤ t.n)]; simp [obs]
 rw [decide_eq_false h3, decide_eq_true (by omega : 0 ≤ t.n)]
 by_cases h4 : t.c < t.n
 ·rw [decide_eq_true h4, decide_eq_false (by omega : ¬ t.n ≤ t.c)]; simp [obs]
 rw [decide_eq_false h4, decide_eq_true (by omega : t.n ≤ t.c)]
 by_cases h5 : t.r < 0
 ·rw [decide_eq_true h5, decide_eq_false (by omega : ¬ 0 ≤ t.r)]; simp [obs]
 rw [decide_eq_false h5, decide_eq_true (by omega : 0 ≤ t.r)]
 by_cases h6 : 1000000 < t.r
 ·rw [decide_eq_true h6, decide_eq_false (by omega : ¬ t.r ≤ 1000000)]; simp [obs]
 rw [decide_eq_false h6, decide_eq_true (by omega : t.r ≤ 1000000)]
 simp only [cof, obs, Bool.true_and]
 have h := sTags_L0 (fl := fl) hl hf fl 0 (by omega) (by omega) (by omega)
 rw [show ((0 : Nat) : Int) = 0 from rfl, Nat.sub_zero] at h
 rw [h]
 simp only [obs]
 cases upto (ownGood t) 0 t.o.length with
 | false => simp
 | true => simp

/-! ### the space of a tag -/
def spaceR (t : Tg) (tag : Int) : Int × Bool := if tagsOk t = true ∧ 0 ≤ spF t tag then ((owAt t.o (spF t tag).toNat).sp, true) else (0, false)
theorem iSpace_eq {t : Tg} {tag : Int} (hl : t.o.length ≤ 1048576) (hf : 1048576 < fl) : i_SpaceOf fl t tag = some (spaceR t tag) := by
 unfold i_SpaceOf spaceR
 rw [iTags_eq hl hf]
 simp only [obs]
 cases tagsOk t with
 | false => simp
 | true =>
  have := findLoop (L := i_SpaceOf_L0 fl t tag) (l := t.o) (p := fun o : Ow => o.tg == tag) (res := fun i => ((owAt t.o i).sp, true))
   (fun fuel i h => by
    rw [i_SpaceOf_L0.eq_2, decide_eq_true (by omega : (i : Int) < (t.o.length : Int)), cot, idx_nat h]
    simp only [obs]
    rw [owAt_lt h]
    cases (t.o[i].tg == tag) with
    | true => rfl
    | false => rw [cof, ck_succ (by omega)]; rfl)
   (fun fuel => by rw [i_SpaceOf_L0.eq_2, decide_eq_false (by omega), cof]) fl 0 (by omega) (by omega)
  rw [show ((0 : Nat) : Int) = 0 from rfl, List.drop_zero] at this
  rw [this]
  simp only [obs, Bool.not_true, cof]
  unfold spF
  by_cases h0 : 0 ≤ fx (fun o : Ow => o.tg == tag) t.o 0
  ·rw [if_pos h0, if_pos ⟨trivial, h0⟩]
  ·rw [if_neg h0, if_neg (fun hh => h0 hh.2)]
theorem sSpace_eq {t : Tg} {tag : Int} (hl : t.o.length ≤ 1048576) (hf : 1048576 < fl) : s_SpaceOf fl t tag = some (spaceR t tag) := by
 unfold s_SpaceOf spaceR
 cases hT : tagsOk t with
 | false =>
  obtain ⟨f, rfl⟩ : ∃ f, fl = f + 1 := ⟨fl - 1, by omega⟩
  rw [s_SpaceOf_L0.eq_2, sTags_eq hl hf, hT]
  cases decide ((0 : Int) < (t.o.length : Int)) <;> simp [obs]
 | true =>
  have := findLoop (L := s_SpaceOf_L0 fl t tag) (l := t.o) (p := fun o : Ow => o.tg == tag) (res := fun i => ((owAt t.o i).sp, true))
   (fun fuel i h => by
    rw [s_SpaceOf_L0.eq_2, decide_eq_true (by omega : (i : Int) < (t.o.length : Int)), cot, sTags_eq hl hf, hT]
    simp only [obs, cot]
    rw [idx_nat h]
    simp only [obs]
    rw [owAt_lt h]
    cases (t.o[i].tg == tag) with
    | true => rfl
    | false => rw [cof, ck_succ (by omega)]; rfl)
   (fun fuel => by rw [s_SpaceOf_L0.eq_2, decide_eq_false (by omega), cof]; simp only [obs, cof]) fl 0 (by omega) (by omega)
  rw [show ((0 : Nat) : Int) = 0 from rfl, List.drop_zero] at this
  rw [this]
  simp only [obs]
  unfold spF
  by_cases h0 : 0 ≤ fx (fun o : Ow => o.tg == tag) t.o 0
  ·rw [if_pos h0, if_pos ⟨trivial, h0⟩]
  ·rw [if_neg h0, if_neg (fun hh => h0 hh.2)]

theorem iKeyFor (s p : Int) : i_KeyFor fl s p = some (keyFor s p) := by unfold i_KeyFor keyFor; cases decide (128 ≤ p) <;> rfl
theorem sKeyFor (s p : Int) : s_KeyFor fl s p = some (keyFor s p) := by unfold s_KeyFor keyFor; cases decide (128 ≤ p) <;> rfl
theorem iFrames_eq {m : Mc} (hl : m.t.f.length ≤ 1048576) (hf : 1048576 < fl) : i_MachineValid_L0 fl m fl 0 = some (if upto (fun i => frameFits (m.t.f.getD i freeF)) 0 m.t.f.length then .out (m.t.f.length : Int) else .ret false) := by
 have := allLoop (L := i_MachineValid_L0 fl m) (n := m.t.f.length) (p := fun i => frameFits (m.t.f.getD i freeF)) (bad := false)
  (fun fuel j hj => by
   rw [i_MachineValid_L0.eq_2, decide_eq_true (by omega : (j : Int) < (m.t.f.length : Int)), cot, idx_nat hj]
   simp only [obs]
   rw [show m.t.f.getD j freeF = m.t.f[j] from by simp [hj], ck_succ (by omega)]
   unfold frameFits bne
   cases m.t.f[j].u <;> cases decide (128 ≤ m.t.f[j].k.p) <;> cases (m.t.f[j].k.s == 0) <;> rfl)
  (fun fuel => by rw [i_MachineValid_L0.eq_2, decide_eq_false (by omega), cof]) fl 0 (by omega) (by omega)
 rw [show ((0 : Nat) : Int) = 0 from rfl, Nat.sub_zero] at this
 exact this
theorem sFrames_eq {m : Mc} (hl : m.t.f.length ≤ 1048576) (hf : 1048576 < fl) : s_MachineValid_L0 fl m fl 0 = some (if upto (fun i => frameFits (m.t.f.getD i freeF)) 0 m.t.f.length then .out (m.t.f.length : Int) else .ret false) := by
 have := allLoop (L := s_MachineValid_L0 fl m) (n := m.t.f.length) (p := fun i => frameFits (m.t.f.getD i freeF)) (bad := false)
  (fun fuel j hj => by
   rw [s_MachineValid_L0.eq_2, decide_eq_true (by omega : (j : Int) < (m.t.f.length : Int)), cot, idx_nat hj]
   simp only [obs]
   rw [show m.t.f.getD j freeF = m.t.f[j] from by simp [hj], ck_succ (by omega)]
   unfold frameFits bne
   cases m.t.f[j].u <;> cases decide (128 ≤ m.t.f[j].k.p) <;> cases (m.t.f[j].k.s == 0) <;> rfl)
  (fun fuel => by rw [s_MachineValid_L0.eq_2, decide_eq_false (by omega), cof]) fl 0 (by omega) (by omega)
 rw [show ((0 : Nat) : Int) = 0 from rfl, Nat.sub_zero] at this
 exact this
/-- what a line says of a key is so -/
def keyHas (m : Mc) (k : K) (fr ri : Int) : Bool := decide (0 ≤ findF m.t.f k) && (findF m.t.f k == fr) && ((m.t.f.getD (findF m.t.f k).toNat freeF).r == ri)
theorem iTail {ρ : Type} {m : Mc} {k : K} {fr ri : Int} {A B : Option ρ} (hl : m.t.f.length ≤ 1048576) (hf : 1048576 < fl) :
  (Option.bind (i_Table_find fl m.t k) fun x31 => Option.bind (cond (decide (x31 < 0)) (some true) (some (x31 != fr))) fun y32 => Option.bind (cond y32 (some true) (Option.bind (idx m.t.f x31) fun x34 => some (x34.r != ri))) fun y33 => cond y33 A B) = cond (keyHas m k fr ri) B A := by
 rw [find_eq hl hf]
 simp only [obs]
 unfold keyHas bne
 have hb := (findF_bd (l := m.t.f) (k := k)).1
 generalize findF m.t.f k = at_ at hb ⊢
 by_cases h0 : at_ < 0
 ·rw [decide_eq_true h0, decide_eq_false (by omega : ¬ 0 ≤ at_)]; simp [obs]
 ·rw [decide_eq_false h0, decide_eq_true (by omega : 0 ≤ at_)]
  simp only [cof, obs, Bool.true_and]
  obtain ⟨j, rfl⟩ : ∃ j : Nat, at_ = j := ⟨at_.toNat, by omega⟩
  have hj : j < m.t.f.length := by omega
  rw [idx_nat hj]
  simp only [obs, Int.toNat_natCast]
  rw [show m.t.f.getD j freeF = m.t.f[j] from by simp [hj]]
  cases ((j : Int) == fr) <;> cases (m.t.f[j].r == ri) <;> rfl
theorem sTail {m : Mc} {k : K} {fr ri : Int} {w g : Bool} (ht : TOk m.t) (hk : keyOk k = true) (hf : 1048576 < fl) :
  (Option.bind (s_l3Find fl m.t k) fun x8 => Option.bind (cond (decide (0 ≤ x8.1)) (some (x8.1 == fr)) (some false)) fun y9 => Option.bind (cond y9 (Option.bind (idx m.t.f x8.1) fun x11 => some (x11.r == ri)) (some false)) fun y10 => Option.bind (cond y10 (Option.bind (cond (!w) (some true) (some g)) fun y13 => some y13) (some false)) fun y12 => some y12) = some (keyHas m k fr ri && (!w || g)) := by
 obtain ⟨s, h⟩ := sFind_eq (fl := fl) ht hk hf
 rw [h]
 simp only [obs]
 unfold keyHas
 have hb := (findF_bd (l := m.t.f) (k := k)).1
 generalize findF m.t.f k = at_ at hb ⊢
 by_cases h0 : at_ < 0
 ·rw [decide_eq_false (by omega : ¬ 0 ≤ at_)]; simp [obs]
 ·rw [decide_eq_true (by omega : 0 ≤ at_)]
  simp only [cot, obs, Bool.true_and]
  obtain ⟨j, rfl⟩ : ∃ j : Nat, at_ = j := ⟨at_.toNat, by omega⟩
  have hj : j < m.t.f.length := by omega
  rw [idx_nat hj]
  simp only [obs, Int.toNat_natCast]
  rw [show m.t.f.getD j freeF = m.t.f[j] from by simp [hj]]
  cases ((j : Int) == fr) <;> cases (m.t.f[j].r == ri) <;> cases w <;> cases g <;> rfl
theorem lineHas_eq (m : Mc) (x : Ln) : lineHas m x = ((decide (128 ≤ x.pg) == (x.tg == -1)) && (!x.wi || x.tg == -1) && (x.tg == -1 || decide (0 ≤ spF m.g x.tg)) && keyHas m (keyFor (lineSpace m x) x.pg) x.fr x.ri) := by
 unfold lineHas keyHas
 simp only [Bool.and_assoc]
theorem iLines_eq {m : Mc} (hl : m.t.f.length ≤ 1048576) (hc : m.c.l.length ≤ 1048576) (hg : m.g.o.length ≤ 1048576) (hT : tagsOk m.g = true) (hf : 1048576 < fl) : i_MachineValid_L1 fl m fl 0 = some (if upto (fun i => !(lnAt m.c.l i).va || lineHas m (lnAt m.c.l i)) 0 m.c.l.length then .out (m.c.l.length : Int) else .ret false) := by
 have := allLoop (L := i_MachineValid_L1 fl m) (n := m.c.l.length) (p := fun i => !(lnAt m.c.l i).va || lineHas m (lnAt m.c.l i)) (bad := false)
  (fun fuel j hj => by
   rw [i_MachineValid_L1.eq_2, decide_eq_true (by omega : (j : Int) < (m.c.l.length : Int)), cot, idx_nat hj]
   simp only [obs]
   rw [lnAt_lt hj, ck_succ (by omega)]
   generalize m.c.l[j] = x
   cases hv : x.va with
   | false => simp [obs]
   | true =>
    simp only [Bool.not_true, cof, obs, Bool.false_or]
    rw [lineHas_eq, iSpace_eq hg hf]
    simp only [obs, iKeyFor, iTail hl hf]
    unfold lineSpace spaceR
    rw [hT]
    cases hs : decide (128 ≤ x.pg) <;> cases ht : (x.tg == -1) <;> cases hw : x.wi <;> simp [obs]
    by_cases h0 : 0 ≤ spF m.g x.tg
    ·simp [h0]
    ·simp [h0])
  (fun fuel => by rw [i_MachineValid_L1.eq_2, decide_eq_false (by omega), cof]) fl 0 (by omega) (by omega)
 rw [show ((0 : Nat) : Int) = 0 from rfl, Nat.sub_zero] at this
 exact this
theorem keyFor_ok {s p : Int} (hs : 0 ≤ s ∧ s < 16) (hp : within p 256 = true) : keyOk (keyFor s p) = true := by
 have := within_iff.1 hp
 rw [keyOk_iff]
 unfold keyFor
 cases decide (128 ≤ p) <;> simp <;> omega
theorem sLine6 {m : Mc} {x : Ln} (ht : TOk m.t) (hg : GO m.g) (hx : lineOk x = true) (hv : x.va = true) (hf : 1048576 < fl) : s_l6Line fl m x = some (lineHas m x) := by
 have hgl : m.g.o.length ≤ 1048576 := by have := hg.len; have := hg.n2; have := hg.c2; omega
 have hp : within x.pg 256 = true := by
  unfold lineOk at hx
  rw [hv, cot] at hx
  simp only [Bool.and_eq_true] at hx
  exact hx.1.1.2
 rw [lineHas_eq]
 unfold s_l6Line
 rw [sSpace_eq hgl hf]
 simp only [obs, sKeyFor]
 unfold lineSpace spaceR
 rw [tagsOk_iff.2 hg]
 unfold bne
 by_cases h0 : 0 ≤ spF m.g x.tg
 ·obtain ⟨j, hj, e, _⟩ := fx_at (p := fun o : Ow => o.tg == x.tg) (l := m.g.o) h0
  have hsp := hg.s1 j hj
  have e' : (spF m.g x.tg).toNat = j := by unfold spF; rw [e]; simp
  rw [if_pos ⟨rfl, h0⟩, e', decide_eq_true h0]
  simp only [Bool.not_true, cof, Bool.or_true, Bool.and_true]
  rw [sTail ht (keyFor_ok hsp hp) hf, sTail ht (keyFor_ok (by omega) hp) hf]
  cases hs : decide (128 ≤ x.pg) <;> cases htg : (x.tg == -1) <;> cases hw : x.wi <;> simp
 ·rw [if_neg (fun hh => h0 hh.2), decide_eq_false h0]
  simp only [Bool.not_false, cot, Bool.or_false]
  rw [sTail ht (keyFor_ok (by omega) hp) hf]
  cases hs : decide (128 ≤ x.pg) <;> cases htg : (x.tg == -1) <;> cases hw : x.wi <;> simp
theorem sLines_eq {m : Mc} (ht : TOk m.t) (hc : CO m.c) (hg : GO m.g) (hf : 1048576 < fl) : s_MachineValid_L1 fl m fl 0 = some (if upto (fun i => !(lnAt m.c.l i).va || lineHas m (lnAt m.c.l i)) 0 m.c.l.length then .out (m.c.l.length : Int) else .ret false) := by
 have h8 := hc.n2
 have := allLoop (L := s_MachineValid_L1 fl m) (n := m.c.l.length) (p := fun i => !(lnAt m.c.l i).va || lineHas m (lnAt m.c.l i)) (bad := false)
  (fun fuel j hj => by
   rw [s_MachineValid_L1.eq_2, decide_eq_true (by omega : (j : Int) < (m.c.l.length : Int)), cot, idx_nat hj]
   simp only [obs]
   have hok := hc.ok j hj
   rw [lnAt_lt hj] at hok ⊢
   rw [ck_succ (by omega)]
   cases hv : m.c.l[j].va with
   | false => simp [obs]
   | true =>
    rw [cot, sLine6 ht hg hok hv hf]
    simp only [obs, Bool.not_true, Bool.false_or]
    cases lineHas m m.c.l[j] <;> simp)
  (fun fuel => by rw [s_MachineValid_L1.eq_2, decide_eq_false (by omega), cof]) fl 0 (by omega) (by omega)
 rw [show ((0 : Nat) : Int) = 0 from rfl, Nat.sub_zero] at this
 exact this
theorem iMachine_eq {m : Mc} (hN : mcN m ≤ 1048576) (hf : 1048576 < fl) : i_MachineValid fl m = some (machineOk m) := by
 unfold mcN at hN
 unfold i_MachineValid machineOk i_TableValid
 rw [iCache_eq hf, iTags_eq (by omega) hf, own_eq (by omega) hf]
 cases hT : tableOk m.t with
 | false => simp [obs]
 | true =>
  cases hC : cacheOk m.c with
  | false => simp [obs]
  | true =>
   cases hG : tagsOk m.g with
   | false => simp [obs]
   | true =>
    simp only [obs, Bool.not_true, cof, Bool.true_and]
    by_cases h0 : ownF m.g m.s < 0
    ·rw [decide_eq_true h0, decide_eq_false (by omega : ¬ 0 ≤ ownF m.g m.s)]; simp
    ·rw [decide_eq_false h0, decide_eq_true (by omega : 0 ≤ ownF m.g m.s), iFrames_eq (by omega) hf]
     simp only [obs, cof, Bool.true_and]
     cases upto (fun i => frameFits (m.t.f.getD i freeF)) 0 m.t.f.length with
     | false => simp
     | true =>
      simp only [if_true, Bool.true_and]
      rw [iLines_eq (by omega) (by omega) (by omega) hG hf]
      simp only [obs]
      cases upto (fun i => !(lnAt m.c.l i).va || lineHas m (lnAt m.c.l i)) 0 m.c.l.length <;> simp
theorem sMachine_eq {m : Mc} (hN : mcN m ≤ 1048576) (hf : 1048576 < fl) : s_MachineValid fl m = some (machineOk m) := by
 unfold mcN at hN
 unfold s_MachineValid machineOk s_TableValid
 rw [sCache_eq hf, sTags_eq (by omega) hf, sOwn_eq (by omega) hf]
 cases hT : tableOk m.t with
 | false => simp [obs]
 | true =>
  cases hC : cacheOk m.c with
  | false => simp [obs]
  | true =>
   cases hG : tagsOk m.g with
   | false => simp [obs]
   | true =>
    simp only [obs, Bool.not_true, cof, Bool.true_and]
    by_cases h0 : ownF m.g m.s < 0
    ·rw [decide_eq_true h0, decide_eq_false (by omega : ¬ 0 ≤ ownF m.g m.s)]; simp
    ·rw [decide_eq_false h0, decide_eq_true (by omega : 0 ≤ ownF m.g m.s), sFrames_eq (by omega) hf]
     simp only [obs, cof, Bool.true_and]
     cases upto (fun i => frameFits (m.t.f.getD i freeF)) 0 m.t.f.length with
     | false => simp
     | true =>
      simp only [if_true, Bool.true_and]
      rw [sLines_eq (tableOk_iff.1 hT) (cacheOk_iff.1 hC) (tagsOk_iff.1 hG) hf]
      simp only [obs]
      cases upto (fun i => !(lnAt m.c.l i).va || lineHas m (lnAt m.c.l i)) 0 m.c.l.length <;> simp
structure MO (m : Mc) : Prop where
 t : TOk m.t
 c : CO m.c
 g : GO m.g
 s : 0 ≤ ownF m.g m.s
 f : ∀ i, i < m.t.f.length → frameFits (m.t.f.getD i freeF) = true
 l : ∀ i, i < m.c.l.length → (lnAt m.c.l i).va = true → lineHas m (lnAt m.c.l i) = true
theorem machineOk_iff {m : Mc} : machineOk m = true ↔ MO m := by
 unfold machineOk
 simp only [Bool.and_eq_true, decide_eq_true_eq, tableOk_iff, cacheOk_iff, tagsOk_iff, upto_iff, Nat.zero_add, Bool.or_eq_true, Bool.not_eq_true']
 constructor
 ·rintro ⟨⟨⟨⟨⟨a, b⟩, c⟩, d⟩, e⟩, f⟩
  refine ⟨a, b, c, d, fun i hi => e i (by omega) hi, fun i hi hv => ?_⟩
  rcases f i (by omega) hi with h | h
  ·rw [hv] at h; cases h
  ·exact h
 ·rintro ⟨a, b, c, d, e, f⟩
  refine ⟨⟨⟨⟨⟨a, b⟩, c⟩, d⟩, fun i _ hi => e i hi⟩, fun i _ hi => ?_⟩
  cases hv : (lnAt m.c.l i).va with
  | false => exact .inl rfl
  | true => exact .inr (f i hi hv)

theorem MO.small {m : Mc} (h : MO m) : m.t.b.length ≤ 16 ∧ m.t.f.length ≤ 16 ∧ m.c.l.length ≤ 8 ∧ m.g.o.length ≤ 8 := by
 have h1 := h.t.f2
 have h2 := h.t.b2
 have h3 := h.c.n2
 have h4 := h.g.len
 have h5 := h.g.n2
 have h6 := h.g.c2
 omega
theorem iClone_eq {m : Mc} (hN : mcN m ≤ 1048576) : i_Machine_clone fl m = some m := by
 unfold mcN at hN
 unfold i_Machine_clone slices_Clone_Line slices_Clone_Own
 rw [clone_eq (by omega), cnt_in (by omega), cnt_in (by omega)]; rfl
theorem sCopy_eq {m : Mc} (hN : mcN m ≤ 1048576) : s_l6Copy fl m = some m := by
 unfold mcN at hN
 unfold s_l6Copy s_l4Copy s_l5Copy
 rw [copy_eq (by omega), cnt_in (by simp; omega), cnt_in (by simp; omega)]; rfl
theorem mapR_same {t : T} {k : K} {fr r : Int} (h : (mapR t k fr r).2 = true) : (mapR t k fr r).1.b.length = t.b.length ∧ (mapR t k fr r).1.f.length = t.f.length := by
 unfold mapR at h ⊢; split at h
 ·rename_i c; rw [if_pos c]; simp [mapT]
 ·cases h
theorem unmapR_same {t : T} {k : K} (h : (unmapR t k).2 = true) : (unmapR t k).1.b.length = t.b.length ∧ (unmapR t k).1.f.length = t.f.length ∧ keyOk k = true := by
 unfold unmapR at h ⊢; split at h
 ·rename_i c
  rw [if_pos c]
  simp only [Bool.and_eq_true] at c
  exact ⟨by unfold unmapT; split <;> simp [unl], by unfold unmapT; split <;> simp [unl], c.1.2⟩
 ·cases h
/-! ### putting -/
noncomputable def putR (m : Mc) (k : K) (fr r : Int) : Mc × Bool := if (machineOk m && (k == keyFor k.s k.p) && (mapR m.t k fr r).2) = true then (⟨(mapR m.t k fr r).1, m.c, m.g, m.s⟩, true) else (mc0, false)
theorem sPut_eq {m : Mc} {k : K} {fr r : Int} (hN : mcN m ≤ 1048576) (hf : 1048576 < fl) : s_PutPage fl m k fr r = some (putR m k fr r) := by
 unfold s_PutPage putR s_l6Shared
 rw [sMachine_eq hN hf]
 simp only [obs, sKeyFor, sKey_eq]
 cases machineOk m with
 | false => simp [obs, mc0]
 | true =>
  cases hk : keyOk k with
  | false => rw [mapR_no (by simp [hk])]; simp [obs, mc0]
  | true =>
   have e : (keyFor k.s k.p == k) = (k == keyFor k.s k.p) := by rw [Bool.eq_iff_iff]; simp only [beq_iff_eq]; exact ⟨fun h => h.symm, fun h => h.symm⟩
   rw [e]
   cases (k == keyFor k.s k.p) with
   | false => simp [obs, mc0]
   | true =>
    simp only [Bool.not_true, cof, cot, obs, Bool.true_and]
    rw [sMap_eq hf]
    simp only [obs]
    cases (mapR m.t k fr r).2 with
    | false => simp [mc0]
    | true =>
     rw [sCopy_eq hN]; simp [obs]

/-! ### forgetting a line -/
def tagR (m : Mc) (sp pg : Int) : Int × Bool := if 128 ≤ pg then (-1, true) else if 0 ≤ ownF m.g sp then ((owAt m.g.o (ownF m.g sp).toNat).tg, true) else (0, false)
def dropC (m : Mc) (k : K) : Ca := if (tagR m k.s k.p).2 = true ∧ 0 ≤ fx (fits (tagR m k.s k.p).1 k.p) m.c.l 0 then ⟨m.c.l.set (fx (fits (tagR m k.s k.p).1 k.p) m.c.l 0).toNat lnZ, m.c.h⟩ else m.c
theorem dropC_len {m : Mc} {k : K} : (dropC m k).l.length = m.c.l.length := by unfold dropC; split <;> simp
theorem iTagFor {m : Mc} {sp pg : Int} (hG : GO m.g) (hl : m.g.o.length ≤ 1048576) (hf : 1048576 < fl) : i_Machine_tagFor fl m sp pg = some (tagR m sp pg) := by
 unfold i_Machine_tagFor tagR i_TagOf
 rw [iTags_eq hl hf, own_eq hl hf, tagsOk_iff.2 hG]
 by_cases h : 128 ≤ pg
 ·rw [decide_eq_true h, cot, if_pos h]
 ·rw [decide_eq_false h, cof, if_neg h]
  simp only [obs, Bool.not_true, cof]
  by_cases h0 : ownF m.g sp < 0
  ·rw [decide_eq_true h0, if_neg (by omega)]; simp [obs]
  ·rw [decide_eq_false h0, if_pos (by omega)]
   have hb := fx_bd (p := fun o : Ow => o.sp == sp) (l := m.g.o)
   have e : ownF m.g sp = fx (fun o : Ow => o.sp == sp) m.g.o 0 := rfl
   obtain ⟨j, hj⟩ : ∃ j : Nat, ownF m.g sp = j := ⟨(ownF m.g sp).toNat, by omega⟩
   rw [hj, cof, idx_nat (by omega), Int.toNat_natCast, owAt_lt (by omega)]
   simp only [obs]
theorem sTag6 {m : Mc} {sp pg : Int} (hl : m.g.o.length ≤ 1048576) (hf : 1048576 < fl) : s_l6Tag fl m sp pg = some (tagR m sp pg) := by
 unfold s_l6Tag tagR
 rw [sOwn_eq hl hf]
 by_cases h : 128 ≤ pg
 ·rw [decide_eq_true h, cot, if_pos h]
 ·rw [decide_eq_false h, cof, if_neg h]
  simp only [obs]
  by_cases h0 : ownF m.g sp < 0
  ·rw [decide_eq_true h0, if_neg (by omega)]; simp
  ·rw [decide_eq_false h0, if_pos (by omega)]
   have hb := fx_bd (p := fun o : Ow => o.sp == sp) (l := m.g.o)
   have e : ownF m.g sp = fx (fun o : Ow => o.sp == sp) m.g.o 0 := rfl
   obtain ⟨j, hj⟩ : ∃ j : Nat, ownF m.g sp = j := ⟨(ownF m.g sp).toNat, by omega⟩
   rw [hj, cof, idx_nat (by omega), Int.toNat_natCast, owAt_lt (by omega)]
   simp only [obs]
theorem tagR_in {m : Mc} {sp pg : Int} (hG : GO m.g) (h : (tagR m sp pg).2 = true) : tagIn (tagR m sp pg).1 = true := by
 unfold tagR at h ⊢
 split at h
 ·rename_i c; rw [if_pos c]; rfl
 ·rename_i c
  rw [if_neg c]
  split at h
  ·rename_i c2
   rw [if_pos c2]
   obtain ⟨j, hj, e, _⟩ := fx_at (p := fun o : Ow => o.sp == sp) (l := m.g.o) c2
   have e' : (ownF m.g sp).toNat = j := by unfold ownF; rw [e]; simp
   have h1 := hG.ge j hj
   have h2 := hG.tn j hj
   have h3 := hG.n2
   have h4 := hG.c2
   rw [e']
   unfold tagIn
   simp only [Bool.and_eq_true, decide_eq_true_eq]
   omega
  ·cases h
theorem sForget {m : Mc} {k : K} (hC : CO m.c) (hG : GO m.g) (hk : keyOk k = true) (hN : mcN m ≤ 1048576) (hf : 1048576 < fl) : s_l6Forget fl m k = some ⟨m.t, dropC m k, m.g, m.s⟩ := by
 have hN' := hN
 unfold mcN at hN'
 have hp : within k.p 256 = true := by rw [within_iff]; have := keyOk_iff.1 hk; omega
 unfold s_l6Forget dropC s_DropPage s_FindLine s_l4Copy s_l4Tag
 rw [sCopy_eq hN, sTag6 (by omega) hf, sCache_eq hf, cacheOk_iff.2 hC, s1Page, hp]
 simp only [obs]
 cases h : (tagR m k.s k.p).2 with
 | false => simp [obs]
 | true =>
  have ht := tagR_in hG h
  unfold tagIn at ht
  simp only [Bool.and_eq_true, decide_eq_true_eq] at ht
  rw [decide_eq_true ht.1, decide_eq_true ht.2, sPlace_eq (by omega) hf]
  simp only [Bool.not_true, cof, cot, obs]
  have hb := fx_bd (p := fits (tagR m k.s k.p).1 k.p) (l := m.c.l)
  by_cases h0 : 0 ≤ fx (fits (tagR m k.s k.p).1 k.p) m.c.l 0
  ·rw [decide_eq_false (by omega : ¬ fx (fits (tagR m k.s k.p).1 k.p) m.c.l 0 < 0), if_pos ⟨trivial, h0⟩, cnt_in (by simp; omega)]
   obtain ⟨j, hj⟩ : ∃ j : Nat, fx (fits (tagR m k.s k.p).1 k.p) m.c.l 0 = j := ⟨_, (Int.toNat_of_nonneg h0).symm⟩
   simp only [obs, cof, Bool.not_true, List.nil_append]
   rw [hj, idx_nat (by omega)]
   simp only [obs, cot]; rfl
  ·rw [decide_eq_true (by omega : fx (fits (tagR m k.s k.p).1 k.p) m.c.l 0 < 0), if_neg (fun hh => h0 hh.2)]
   simp [obs]

/-! ### taking and guarding -/
noncomputable def takeR (m : Mc) (k : K) : Mc × Bool := if (machineOk m && (unmapR m.t k).2) = true then (⟨(unmapR m.t k).1, dropC m k, m.g, m.s⟩, true) else (mc0, false)
theorem sTake_eq {m : Mc} {k : K} (hN : mcN m ≤ 1048576) (hf : 1048576 < fl) : s_TakePage fl m k = some (takeR m k) := by
 unfold s_TakePage takeR
 rw [sMachine_eq hN hf]
 simp only [obs]
 cases hm : machineOk m with
 | false => simp [obs, mc0]
 | true =>
  have hM := machineOk_iff.1 hm
  simp only [Bool.not_true, cof, Bool.true_and]
  rw [sUnmap_eq hf]
  simp only [obs]
  cases hu : (unmapR m.t k).2 with
  | false => simp [mc0]
  | true => rw [sForget hM.c hM.g (unmapR_same hu).2.2 hN hf]; simp [obs]
/-! ### entering -/
def takeTagR (t : Tg) (sp : Int) : Tg × Int × Bool × Bool :=
 if (tagsOk t && within sp 16) = true then
  if 0 ≤ ownF t sp then (t, (owAt t.o (ownF t sp).toNat).tg, false, true)
  else if (t.n == t.c) = true then (if (t.r == 1000000) = true then (⟨0, 0, 0, []⟩, 0, false, false) else (⟨t.c, 1, t.r + 1, [⟨sp, 0⟩]⟩, 0, true, true))
  else (⟨t.c, t.n + 1, t.r, t.o ++ [⟨sp, t.n⟩]⟩, t.n, false, true)
 else (⟨0, 0, 0, []⟩, 0, false, false)
theorem iTakeTag {t : Tg} {sp : Int} (hl : t.o.length ≤ 1048576) (hf : 1048576 < fl) : i_TakeTag fl t sp = some (takeTagR t sp) := by
 unfold i_TakeTag takeTagR slices_Clone_Own
 rw [iTags_eq hl hf, within_eq, own_eq hl hf, cnt_in (by omega)]
 cases hT : tagsOk t with
 | false => simp [obs]
 | true =>
  have hG := tagsOk_iff.1 hT
  have g1 := hG.n1
  have g2 := hG.n2
  have g3 := hG.c2
  have g4 := hG.r1
  have g5 := hG.r2
  have g6 := hG.len
  cases within sp 16 with
  | false => simp [obs]
  | true =>
   simp only [obs, Bool.not_true, cof, Bool.true_and, if_true]
   by_cases h0 : 0 ≤ ownF t sp
   ·rw [decide_eq_true h0, cot, if_pos h0]
    have hb := fx_bd (p := fun o : Ow => o.sp == sp) (l := t.o)
    have e : ownF t sp = fx (fun o : Ow => o.sp == sp) t.o 0 := rfl
    obtain ⟨j, hj⟩ : ∃ j : Nat, ownF t sp = j := ⟨(ownF t sp).toNat, by omega⟩
    rw [hj, idx_nat (by omega), Int.toNat_natCast, owAt_lt (by omega)]
    simp only [obs]
   ·rw [decide_eq_false h0, cof, if_neg h0]
    cases hn : (t.n == t.c) with
    | true =>
     rw [cot, if_pos rfl]
     cases hr : (t.r == 1000000) with
     | true => simp
     | false =>
      rw [cof, if_neg (by simp), ck_in (by omega), cnt_in (by simp), ck_in (by omega)]; rfl
    | false =>
     rw [cof, if_neg (by simp), cnt_in (by simp; omega), ck_in (by omega)]; rfl
theorem sTakeTag {t : Tg} {sp : Int} (hl : t.o.length ≤ 1048576) (hf : 1048576 < fl) : s_TakeTag fl t sp = some (takeTagR t sp) := by
 unfold s_TakeTag takeTagR s_l5Copy
 rw [sTags_eq hl hf, s1Space, sOwn_eq hl hf, cnt_in (by simp; omega)]
 cases hT : tagsOk t with
 | false => simp [obs]
 | true =>
  have hG := tagsOk_iff.1 hT
  have g1 := hG.n1
  have g2 := hG.n2
  have g3 := hG.c2
  have g4 := hG.r1
  have g5 := hG.r2
  have g6 := hG.len
  cases within sp 16 with
  | false => simp [obs]
  | true =>
   simp only [obs, Bool.not_true, cof, Bool.true_and, if_true, List.nil_append]
   by_cases h0 : 0 ≤ ownF t sp
   ·rw [decide_eq_true h0, cot, if_pos h0]
    have hb := fx_bd (p := fun o : Ow => o.sp == sp) (l := t.o)
    have e : ownF t sp = fx (fun o : Ow => o.sp == sp) t.o 0 := rfl
    obtain ⟨j, hj⟩ : ∃ j : Nat, ownF t sp = j := ⟨(ownF t sp).toNat, by omega⟩
    rw [hj, idx_nat (by omega), Int.toNat_natCast, owAt_lt (by omega)]
    simp only [obs]
   ·rw [decide_eq_false h0, cof, if_neg h0]
    cases hn : (t.n == t.c) with
    | true =>
     rw [cot, if_pos rfl, ck_in (by omega)]
     simp only [obs]
     cases hr : (t.r == 1000000) with
     | true =>
      have : t.r = 1000000 := by simpa using hr
      rw [decide_eq_true (by omega)]; simp
     | false =>
      have : t.r ≠ 1000000 := by simpa using hr
      rw [decide_eq_false (by omega), cof, if_neg (by simp), cnt_in (by simp), ck_in (by omega)]; rfl
    | false =>
     rw [cof, if_neg (by simp), decide_eq_false (by omega), cof, cnt_in (by simp; omega), ck_in (by omega)]; rfl
theorem mapLoop {α ρ : Type} {L : Nat → List α → Int → Option (LO (List α × Int) ρ)} {l : List α} {g : α → α}
  (step : ∀ fuel v i, (h : i < l.length) → (hv : v.length = l.length) → v[i]? = some l[i] → L (fuel + 1) v (i : Int) = L fuel (v.set i (g l[i])) ((i + 1 : Nat) : Int))
  (stop : ∀ fuel v, L (fuel + 1) v (l.length : Int) = some (.out (v, (l.length : Int)))) : ∀ fuel i v, i ≤ l.length → l.length - i < fuel → v.length = l.length → (∀ j, j < i → v[j]? = (l.map g)[j]?) → (∀ j, i ≤ j → v[j]? = l[j]?) →
  L fuel v (i : Int) = some (.out (l.map g, (l.length : Int))) := by
 intro fuel
 induction fuel with
 | zero => intro i v _ h; omega
 | succ fuel ih =>
  intro i v hi hf hv h1 h2
  by_cases h : i < l.length
  ·rw [step fuel v i h hv (by rw [h2 i (Nat.le_refl _), List.getElem?_eq_getElem h])]
   refine ih (i + 1) _ (by omega) (by omega) (by simp [hv]) (fun j hj => ?_) (fun j hj => ?_)
   ·rw [List.getElem?_set]
    split
    ·rename_i e; subst e; simp [hv, h]
    ·exact h1 j (by omega)
   ·rw [List.getElem?_set, if_neg (by omega)]
    exact h2 j (by omega)
  ·have e : i = l.length := by omega
   subst e
   rw [stop]
   congr 3
   apply List.ext_getElem?
   intro j
   by_cases hj : j < l.length
   ·exact h1 j hj
   ·rw [List.getElem?_eq_none (by omega), List.getElem?_eq_none (by simp; omega)]
def frL (b : Bool) (x : Ln) : Ln := cond (b && !(x.tg == -1)) lnZ x
theorem set_same {α : Type} {v : List α} {i : Nat} {x : α} (h : v[i]? = some x) : v.set i x = v := by
 apply List.ext_getElem?
 intro j
 rw [List.getElem?_set]
 split
 ·rename_i e; subst e
  have := (List.getElem?_eq_some_iff.1 h).1
  rw [if_pos this, h]
 ·rfl
theorem iFresh {x5 : Tg × Int × Bool × Bool} {m : Mc} (hl : m.c.l.length ≤ 1048576) (hf : 1048576 < fl) : i_EnterSpace_L0 fl x5 m fl m.c.l 0 = some (.out (m.c.l.map (frL x5.2.2.1), (m.c.l.length : Int))) := by
 have := mapLoop (L := i_EnterSpace_L0 fl x5 m) (l := m.c.l) (g := frL x5.2.2.1)
  (fun fuel v i h hv hx => by
   rw [i_EnterSpace_L0.eq_2, decide_eq_true (by omega : (i : Int) < (m.c.l.length : Int)), cot]
   have e : idx v (i : Int) = some m.c.l[i] := by rw [idx_nat (by omega)]; rw [List.getElem?_eq_getElem (by omega)] at hx; exact hx
   rw [e, ck_succ (by omega)]
   simp only [obs]
   unfold frL bne
   cases x5.2.2.1 <;> cases (m.c.l[i].tg == -1) <;> simp [obs, set_same hx, lnZ])
  (fun fuel v => by rw [i_EnterSpace_L0.eq_2, decide_eq_false (by omega), cof]) fl 0 m.c.l (by omega) (by omega) rfl (fun j hj => by omega) (fun j hj => rfl)
 rw [show ((0 : Nat) : Int) = 0 from rfl] at this
 exact this
theorem sFresh {c : Ca} (hl : c.l.length ≤ 1048576) (hf : 1048576 < fl) : s_l6Fresh fl c = some ⟨c.l.map (frL true), c.h⟩ := by
 unfold s_l6Fresh s_l4Copy
 rw [cnt_in (by simp; omega)]
 simp only [obs, List.nil_append]
 have := mapLoop (L := s_l6Fresh_L0 fl c) (l := c.l) (g := frL true)
  (fun fuel v i h hv hx => by
   rw [s_l6Fresh_L0.eq_2, decide_eq_true (by omega : (i : Int) < (c.l.length : Int)), cot]
   have e : idx v (i : Int) = some c.l[i] := by rw [idx_nat (by omega)]; rw [List.getElem?_eq_getElem (by omega)] at hx; exact hx
   rw [e, ck_succ (by omega)]
   simp only [obs]
   unfold frL bne
   cases (c.l[i].tg == -1) <;> simp [obs, set_same hx, lnZ])
  (fun fuel v => by rw [s_l6Fresh_L0.eq_2, decide_eq_false (by omega), cof]) fl 0 c.l (by omega) (by omega) rfl (fun j hj => by omega) (fun j hj => rfl)
 rw [show ((0 : Nat) : Int) = 0 from rfl] at this
 rw [this]
 simp only [obs]
noncomputable def enterR (m : Mc) (sp : Int) : Mc × Bool := if (machineOk m && (takeTagR m.g sp).2.2.2) = true then (⟨m.t, ⟨m.c.l.map (frL (takeTagR m.g sp).2.2.1), m.c.h⟩, (takeTagR m.g sp).1, sp⟩, true) else (mc0, false)
theorem takeTag_len {t : Tg} {sp : Int} : (takeTagR t sp).1.o.length ≤ t.o.length + 1 := by
 unfold takeTagR
 split
 ·split
  ·simp
  ·split
   ·split <;> simp
   ·simp
 ·simp
theorem iEnter_eq {m : Mc} {sp : Int} (hN : mcN m ≤ 1048576) (hf : 1048576 < fl) : i_EnterSpace fl m sp = some (enterR m sp) := by
 have hN' := hN
 unfold mcN at hN'
 unfold i_EnterSpace enterR
 rw [iMachine_eq hN hf]
 simp only [obs]
 cases hm : machineOk m with
 | false => simp [obs, mc0]
 | true =>
  simp only [Bool.not_true, cof, Bool.true_and]
  rw [iTakeTag (by omega) hf]
  simp only [obs]
  cases (takeTagR m.g sp).2.2.2 with
  | false => simp [mc0]
  | true =>
   rw [iClone_eq hN]
   simp only [obs, Bool.not_true, cof, if_true]
   rw [iFresh (by omega) hf]
   simp only [obs]
theorem frL_false (l : List Ln) : l.map (frL false) = l := by
 have : frL false = id := by funext x; simp [frL]
 rw [this, List.map_id]
theorem sEnter_eq {m : Mc} {sp : Int} (hN : mcN m ≤ 1048576) (hf : 1048576 < fl) : s_EnterSpace fl m sp = some (enterR m sp) := by
 have hN' := hN
 unfold mcN at hN'
 unfold s_EnterSpace enterR
 rw [sMachine_eq hN hf, sTakeTag (by omega) hf]
 simp only [obs]
 cases hm : machineOk m with
 | false => simp [obs, mc0]
 | true =>
  simp only [Bool.not_true, cof, Bool.true_and, obs]
  cases (takeTagR m.g sp).2.2.2 with
  | false => simp [mc0]
  | true =>
   rw [sCopy_eq hN]
   simp only [obs, Bool.not_true, cof, if_true]
   cases (takeTagR m.g sp).2.2.1 with
   | true => rw [cot, sFresh (by omega) hf]; simp only [obs]
   | false => rw [cof, frL_false]

theorem clkLoop {ρ : Type} {L : Nat → Int → Option (LO Int ρ)} {l : List Ln} (step : ∀ fuel i, (h : i < l.length) → L (fuel + 1) (i : Int) = cond l[i].wi (L fuel (((i + 1) % l.length : Nat) : Int)) (some (.out (i : Int)))) :
  ∀ k fuel i, i < l.length → k < fuel → (∃ d, d < k ∧ (lnAt l ((i + d) % l.length)).wi = false) → L fuel (i : Int) = some (.out ((clk l i k : Nat) : Int)) := by
 intro k
 induction k with
 | zero => rintro fuel i _ _ ⟨d, hd, _⟩; omega
 | succ k ih =>
  rintro fuel i hi hf ⟨d, hd, hw⟩
  obtain ⟨f, rfl⟩ : ∃ f, fuel = f + 1 := ⟨fuel - 1, by omega⟩
  rw [step f i hi, clk, lnAt_lt hi]
  cases hx : l[i].wi with
  | false => rfl
  | true =>
   rw [cot, cot]
   have h0 : d ≠ 0 := by
    intro e
    subst e
    rw [Nat.add_zero, Nat.mod_eq_of_lt hi, lnAt_lt hi, hx] at hw
    cases hw
   refine ih f _ (Nat.mod_lt _ (by omega)) (by omega) ⟨d - 1, by omega, ?_⟩
   rw [Nat.mod_add_mod, show i + 1 + (d - 1) = i + d by omega]
   exact hw
theorem remO_nat {a n : Nat} (h : 0 < n) : remO (a : Int) (n : Int) = some ((a % n : Nat) : Int) := by
 unfold remO
 rw [if_neg (by omega), Int.tmod_eq_emod_of_nonneg (by omega)]; rfl
theorem iVictim {c : Ca} (h : CO c) (hf : 1048576 < fl) : i_VictimOf fl c = some ((vict c : Int), true) := by
 have n1 := h.n1
 have n2 := h.n2
 have g0 := h.h0
 have g1 := h.h1
 unfold i_VictimOf vict
 rw [iCache_eq hf, cacheOk_iff.2 h]
 simp only [obs, Bool.not_true, cof]
 have := findLoop (L := i_VictimOf_L0 fl c) (l := c.l) (p := fun x : Ln => !x.va) (res := fun i => ((i : Int), true))
  (fun fuel i h => by
   rw [i_VictimOf_L0.eq_2, decide_eq_true (by omega : (i : Int) < (c.l.length : Int)), cot, idx_nat h]
   simp only [obs]
   rw [ck_succ (by omega)]
   cases c.l[i].va <;> rfl)
  (fun fuel => by rw [i_VictimOf_L0.eq_2, decide_eq_false (by omega), cof]) fl 0 (by omega) (by omega)
 rw [show ((0 : Nat) : Int) = 0 from rfl, List.drop_zero] at this
 rw [this]
 simp only [obs]
 by_cases h0 : 0 ≤ fx (fun x : Ln => !x.va) c.l 0
 ·rw [if_pos h0, if_pos h0]
 ·rw [if_neg h0, if_neg h0]
  obtain ⟨a, ha⟩ : ∃ a : Nat, c.h = a := ⟨c.h.toNat, by omega⟩
  obtain ⟨j, hj, hw⟩ := h.un
  obtain ⟨d, hd, e⟩ := reach_ex (n := c.l.length) (i := a) (j := j) (by omega) hj
  have := clkLoop (L := i_VictimOf_L1 fl c) (l := c.l)
   (fun fuel i hi => by
    rw [i_VictimOf_L1.eq_2, idx_nat hi]
    simp only [obs]
    rw [ck_succ (by omega)]
    simp only [obs]
    rw [remO_nat (by omega)]
    simp only [obs]) c.l.length fl a (by omega) (by omega) ⟨d, hd, by rw [e]; exact hw⟩
  rw [ha, this]
  simp only [obs, Int.toNat_natCast]
theorem sVictim {c : Ca} (h : CO c) (hf : 1048576 < fl) : s_l4Victim fl c = some (vict c : Int) := by
 have n1 := h.n1
 have n2 := h.n2
 have g0 := h.h0
 have g1 := h.h1
 unfold s_l4Victim vict
 have := findLoop (L := s_l4Victim_L0 fl c) (l := c.l) (p := fun x : Ln => !x.va) (res := fun i => (i : Int))
  (fun fuel i h => by
   rw [s_l4Victim_L0.eq_2, decide_eq_true (by omega : (i : Int) < (c.l.length : Int)), cot, idx_nat h]
   simp only [obs]
   rw [ck_succ (by omega)]
   cases c.l[i].va <;> rfl)
  (fun fuel => by rw [s_l4Victim_L0.eq_2, decide_eq_false (by omega), cof]) fl 0 (by omega) (by omega)
 rw [show ((0 : Nat) : Int) = 0 from rfl, List.drop_zero] at this
 rw [this]
 simp only [obs]
 by_cases h0 : 0 ≤ fx (fun x : Ln => !x.va) c.l 0
 ·rw [if_pos h0, if_pos h0]
 ·rw [if_neg h0, if_neg h0]
  obtain ⟨a, ha⟩ : ∃ a : Nat, c.h = a := ⟨c.h.toNat, by omega⟩
  obtain ⟨j, hj, hw⟩ := h.un
  obtain ⟨d, hd, e⟩ := reach_ex (n := c.l.length) (i := a) (j := j) (by omega) hj
  have := clkLoop (L := s_l4Victim_L1 fl c) (l := c.l)
   (fun fuel i hi => by
    rw [s_l4Victim_L1.eq_2, idx_nat hi]
    simp only [obs]
    rw [ck_succ (by omega)]
    simp only [obs]
    rw [remO_nat (by omega)]
    simp only [obs]) c.l.length fl a (by omega) (by omega) ⟨d, hd, by rw [e]; exact hw⟩
  rw [ha, this]
  simp only [obs, Int.toNat_natCast]
theorem iFill {c : Ca} {x : Ln} (h : CO c) (hx : lineOk x = true) (hv : x.va = true) (hn : fx (fits x.tg x.pg) c.l 0 < 0) (ho : CO (fillC c x)) (hf : 1048576 < fl) : i_FillLine fl c x = some (fillC c x, (vict c : Int), true) := by
 have n1 := h.n1
 have n2 := h.n2
 have hvl := vict_lt h
 have hc := cacheOk_iff.2 ho
 unfold fillC at hc
 rw [lnAt_lt hvl] at hc
 unfold i_FillLine i_Cache_with slices_Clone_Line fillC
 rw [iVictim h hf, iLine_eq, hx, hv, place_eq (by omega) hf, cnt_in (by omega), lnAt_lt hvl]
 simp only [obs, Bool.not_true, cof]
 rw [decide_eq_false (by omega : ¬ 0 ≤ fx (fits x.tg x.pg) c.l 0), cof, idx_nat hvl]
 simp only [obs, Int.toNat_natCast, iCache_eq hf]
 cases hva : c.l[vict c].va with
 | true =>
  rw [hva, cot] at hc
  rw [cot, ck_succ (by omega)]
  simp only [obs]
  rw [remO_nat (by omega)]
  simp only [obs]
  rw [hc]; rfl
 | false =>
  rw [hva, cof] at hc
  rw [cof, hc]; rfl
theorem sFill {c : Ca} {x : Ln} (h : CO c) (hx : lineOk x = true) (hv : x.va = true) (hn : fx (fits x.tg x.pg) c.l 0 < 0) (ho : CO (fillC c x)) (hf : 1048576 < fl) : s_FillLine fl c x = some (fillC c x, (vict c : Int), true) := by
 have n1 := h.n1
 have n2 := h.n2
 have hvl := vict_lt h
 have hc := cacheOk_iff.2 ho
 unfold fillC at hc
 rw [lnAt_lt hvl] at hc
 unfold s_FillLine s_l4Copy fillC
 rw [sCache_eq hf, cacheOk_iff.2 h, sLine_eq, hx, hv, sVictim h hf, sPlace_eq (by omega) hf, cnt_in (by simp; omega), lnAt_lt hvl]
 simp only [obs, Bool.not_true, cof, List.nil_append]
 rw [idx_nat hvl]
 simp only [obs, Int.toNat_natCast, sCache_eq hf]
 rw [decide_eq_false (by omega : ¬ 0 ≤ fx (fits x.tg x.pg) c.l 0)]
 cases hva : c.l[vict c].va with
 | true =>
  rw [hva, cot] at hc
  rw [cot, ck_succ (by omega)]
  simp only [obs]
  rw [remO_nat (by omega)]
  simp only [obs]
  rw [hc]; rfl
 | false =>
  rw [hva, cof] at hc
  rw [cof, hc]; rfl

/-! ### rights -/
def allowsR (r nd : Int) : Bool := rightsOk r && rightsOk nd && (bAnd r nd == nd)
theorem andNot_fin : ∀ a b : Fin 8, (bAndNot ((b.val : Nat) : Int) ((a.val : Nat) : Int) == 0) = (bAnd ((a.val : Nat) : Int) ((b.val : Nat) : Int) == ((b.val : Nat) : Int)) := by decide +kernel
theorem iAllows_eq (r nd : Int) : i_Allows fl r nd = some (allowsR r nd) := by
 unfold i_Allows allowsR
 rw [iRights_eq, iRights_eq]
 cases h1 : rightsOk r with
 | false => rfl
 | true =>
  cases h2 : rightsOk nd with
  | false => rfl
  | true =>
   simp only [obs, cot, Bool.true_and]
   have b1 := rightsOk_iff.1 h1
   have b2 := rightsOk_iff.1 h2
   have := andNot_fin ⟨r.toNat, by omega⟩ ⟨nd.toNat, by omega⟩
   simp only [Int.toNat_of_nonneg b1.1, Int.toNat_of_nonneg b2.1] at this
   rw [this]
theorem sAllows_eq (r nd : Int) : s_Allows fl r nd = some (allowsR r nd) := by
 unfold s_Allows allowsR
 rw [sRights_eq, sRights_eq]
 cases rightsOk r <;> cases rightsOk nd <;> rfl

/-! ### touching -/
noncomputable def touchR (m : Mc) (pg nd : Int) : Mc × Int × Int × Bool :=
 if (machineOk m && within pg 256 && rightsOk nd) = true then
  if 0 ≤ fx (fits (tagR m m.s pg).1 pg) m.c.l 0 then
   (m, (lnAt m.c.l (fx (fits (tagR m m.s pg).1 pg) m.c.l 0).toNat).fr, cond (allowsR (lnAt m.c.l (fx (fits (tagR m m.s pg).1 pg) m.c.l 0).toNat).ri nd) 1 4, true)
  else if findF m.t.f (keyFor m.s pg) < 0 then (m, 0, 3, true)
  else (⟨m.t, fillC m.c ⟨true, (tagR m m.s pg).1, pg, findF m.t.f (keyFor m.s pg), (m.t.f.getD (findF m.t.f (keyFor m.s pg)).toNat freeF).r, false⟩, m.g, m.s⟩, findF m.t.f (keyFor m.s pg),
   cond (allowsR (m.t.f.getD (findF m.t.f (keyFor m.s pg)).toNat freeF).r nd) 2 4, true)
 else (mc0, 0, 0, false)
theorem fillC_len {c : Ca} {x : Ln} : (fillC c x).l.length = c.l.length := by simp [fillC]
theorem touchR_len {m : Mc} {pg nd : Int} (hN : mcN m ≤ 1048576) : mcN (touchR m pg nd).1 ≤ 1048576 := by
 unfold touchR
 split
 ·split
  ·exact hN
  ·split
   ·exact hN
   ·unfold mcN at hN ⊢
    simp only [fillC_len]; exact hN
 ·simp [mcN, mc0]
theorem MO.tag {m : Mc} (h : MO m) (pg : Int) : (tagR m m.s pg).2 = true := by
 unfold tagR
 split
 ·rfl
 ·rw [if_pos h.s]
theorem MO.space {m : Mc} (h : MO m) : 0 ≤ m.s ∧ m.s < 16 := by
 obtain ⟨j, hj, e, he⟩ := fx_at (p := fun o : Ow => o.sp == m.s) (l := m.g.o) h.s
 have := h.g.s1 j hj
 rw [owAt_lt hj] at this
 have e2 : m.g.o[j].sp = m.s := by simpa using he
 rw [← e2]; exact this
theorem used_rights {t : T} (h : TOk t) {i : Nat} (hi : i < t.f.length) (hu : t.f[i].u = true) : rightsOk t.f[i].r = true := by
 have := h.fr _ (List.getElem_mem hi)
 unfold frameOk at this
 rw [if_pos hu, Bool.and_eq_true] at this
 exact this.2
/-- the line that a touch fills in fits into the cache -/
theorem MO.fill {m : Mc} (h : MO m) {pg : Int} (hp : within pg 256 = true) (hn : fx (fits (tagR m m.s pg).1 pg) m.c.l 0 < 0) (hk : 0 ≤ findF m.t.f (keyFor m.s pg)) :
  lineOk ⟨true, (tagR m m.s pg).1, pg, findF m.t.f (keyFor m.s pg), (m.t.f.getD (findF m.t.f (keyFor m.s pg)).toNat freeF).r, false⟩ = true ∧
  CO (fillC m.c ⟨true, (tagR m m.s pg).1, pg, findF m.t.f (keyFor m.s pg), (m.t.f.getD (findF m.t.f (keyFor m.s pg)).toNat freeF).r, false⟩) := by
 obtain ⟨j, hj⟩ : ∃ j : Nat, findF m.t.f (keyFor m.s pg) = j := ⟨_, (Int.toNat_of_nonneg hk).symm⟩
 obtain ⟨hjl, hu, _⟩ := found_key hj
 have h16 := h.t.f2
 have hok : lineOk ⟨true, (tagR m m.s pg).1, pg, findF m.t.f (keyFor m.s pg), (m.t.f.getD (findF m.t.f (keyFor m.s pg)).toNat freeF).r, false⟩ = true := by
  unfold lineOk
  rw [cot, tagR_in h.g (h.tag pg), hp, hj, Int.toNat_natCast, show m.t.f.getD j freeF = m.t.f[j] from by simp [hjl], used_rights h.t hjl hu]
  simp only [Bool.true_and, Bool.and_true]
  rw [within_iff]; omega
 refine ⟨hok, fill_ok h.c hok rfl hn fun i hi hv hpg htg => ?_⟩
 simp only [] at hpg htg
 have hl := h.l i hi hv
 rw [lineHas_eq] at hl
 simp only [Bool.and_eq_true] at hl
 have h1 := hl.1.1.1
 have h128 : 128 ≤ pg := by
  apply Classical.byContradiction
  intro hlt
  unfold tagR at htg
  rw [if_neg hlt, if_pos h.s] at htg
  obtain ⟨q, hq, e, _⟩ := fx_at (p := fun o : Ow => o.sp == m.s) (l := m.g.o) h.s
  have e' : (ownF m.g m.s).toNat = q := by unfold ownF; rw [e]; simp
  simp only [e'] at htg
  have := h.g.ge q hq
  omega
 rw [hpg, decide_eq_true h128] at h1
 simpa using h1
theorem iTouch_eq {m : Mc} {pg nd : Int} (hN : mcN m ≤ 1048576) (hf : 1048576 < fl) : i_TouchPage fl m pg nd = some (touchR m pg nd) := by
 have hN' := hN
 unfold mcN at hN'
 unfold i_TouchPage touchR
 rw [iMachine_eq hN hf, within_eq, iRights_eq]
 cases hm : machineOk m with
 | false => simp [obs, mc0]
 | true =>
  have hM := machineOk_iff.1 hm
  cases hp : within pg 256 with
  | false => simp [obs, mc0]
  | true =>
   cases hr : rightsOk nd with
   | false => simp [obs, mc0]
   | true =>
    simp only [obs, Bool.not_true, cof, Bool.true_and, if_true]
    rw [iClone_eq hN, iTagFor hM.g (by omega) hf]
    simp only [obs]
    rw [place_eq (by omega) hf]
    simp only [obs]
    have hb := fx_bd (p := fits (tagR m m.s pg).1 pg) (l := m.c.l)
    by_cases h0 : 0 ≤ fx (fits (tagR m m.s pg).1 pg) m.c.l 0
    ·rw [decide_eq_true h0, cot, if_pos h0]
     obtain ⟨j, hj⟩ : ∃ j : Nat, fx (fits (tagR m m.s pg).1 pg) m.c.l 0 = j := ⟨_, (Int.toNat_of_nonneg h0).symm⟩
     rw [hj, idx_nat (by omega), Int.toNat_natCast, lnAt_lt (by omega)]
     simp only [obs, iAllows_eq]
     cases allowsR (m.c.l[j]'(by omega)).ri nd <;> rfl
    ·rw [decide_eq_false h0, cof, if_neg h0, iKeyFor]
     simp only [obs]
     rw [find_eq (by omega) hf]
     simp only [obs]
     by_cases h1 : findF m.t.f (keyFor m.s pg) < 0
     ·rw [decide_eq_true h1, cot, if_pos h1]
     ·rw [decide_eq_false h1, cof, if_neg h1]
      obtain ⟨hl, hc⟩ := hM.fill hp (by omega) (by omega)
      have hfb := (findF_bd (l := m.t.f) (k := keyFor m.s pg)).1
      obtain ⟨j, hj⟩ : ∃ j : Nat, findF m.t.f (keyFor m.s pg) = j := ⟨_, (Int.toNat_of_nonneg (by omega)).symm⟩
      have hjl : j < m.t.f.length := by omega
      have eg : m.t.f.getD (findF m.t.f (keyFor m.s pg)).toNat freeF = m.t.f[j] := by rw [hj, Int.toNat_natCast]; simp [hjl]
      rw [eg] at hl hc ⊢
      rw [hj, idx_nat hjl]
      rw [hj] at hl hc
      simp only [obs]
      rw [iFill hM.c hl rfl (by simpa using h0) hc hf]
      simp only [obs, iAllows_eq, Bool.not_true, cof]
      cases allowsR m.t.f[j].r nd <;> rfl
theorem sTouch_eq {m : Mc} {pg nd : Int} (hN : mcN m ≤ 1048576) (hf : 1048576 < fl) : s_TouchPage fl m pg nd = some (touchR m pg nd) := by
 have hN' := hN
 unfold mcN at hN'
 unfold s_TouchPage touchR
 rw [sMachine_eq hN hf, s1Page, sRights_eq]
 cases hm : machineOk m with
 | false => simp [obs, mc0]
 | true =>
  have hM := machineOk_iff.1 hm
  cases hp : within pg 256 with
  | false => simp [obs, mc0]
  | true =>
   cases hr : rightsOk nd with
   | false => simp [obs, mc0]
   | true =>
    simp only [obs, Bool.not_true, cof, Bool.true_and, if_true]
    rw [sCopy_eq hN, sTag6 (by omega) hf]
    simp only [obs]
    rw [sPlace_eq (by omega) hf]
    simp only [obs]
    have hb := fx_bd (p := fits (tagR m m.s pg).1 pg) (l := m.c.l)
    by_cases h0 : 0 ≤ fx (fits (tagR m m.s pg).1 pg) m.c.l 0
    ·rw [decide_eq_true h0, cot, if_pos h0]
     obtain ⟨j, hjl, hj, hfit⟩ := fx_at (p := fits (tagR m m.s pg).1 pg) (l := m.c.l) h0
     rw [hj, idx_nat hjl, Int.toNat_natCast, lnAt_lt hjl]
     simp only [obs]
     have hv : m.c.l[j].va = true := by
      unfold fits at hfit
      simp only [Bool.and_eq_true] at hfit
      exact hfit.1.1
     have hl := hM.l j hjl (by rw [lnAt_lt hjl]; exact hv)
     rw [lnAt_lt hjl, lineHas_eq] at hl
     simp only [Bool.and_eq_true] at hl
     have hk := hl.2
     unfold keyHas at hk
     simp only [Bool.and_eq_true, decide_eq_true_eq, beq_iff_eq] at hk
     obtain ⟨⟨k1, k2⟩, k3⟩ := hk
     have hfb := (findF_bd (l := m.t.f) (k := keyFor (lineSpace m m.c.l[j]) m.c.l[j].pg)).1
     rw [k2] at k1 k3 hfb
     obtain ⟨q, hq⟩ : ∃ q : Nat, m.c.l[j].fr = q := ⟨_, (Int.toNat_of_nonneg k1).symm⟩
     have hql : q < m.t.f.length := by omega
     rw [hq, Int.toNat_natCast, show m.t.f.getD q freeF = m.t.f[q] from by simp [hql]] at k3
     rw [hq, idx_nat hql]
     simp only [obs, k3, sAllows_eq]
     cases allowsR m.c.l[j].ri nd <;> rfl
    ·rw [decide_eq_false h0, cof, if_neg h0, sKeyFor]
     simp only [obs]
     obtain ⟨s, hs⟩ := sFind_eq (fl := fl) hM.t (keyFor_ok (p := pg) hM.space hp) hf
     rw [hs]
     simp only [obs]
     by_cases h1 : findF m.t.f (keyFor m.s pg) < 0
     ·rw [decide_eq_true h1, cot, if_pos h1]
     ·rw [decide_eq_false h1, cof, if_neg h1]
      obtain ⟨hl, hc⟩ := hM.fill hp (by omega) (by omega)
      have hfb := (findF_bd (l := m.t.f) (k := keyFor m.s pg)).1
      obtain ⟨j, hj⟩ : ∃ j : Nat, findF m.t.f (keyFor m.s pg) = j := ⟨_, (Int.toNat_of_nonneg (by omega)).symm⟩
      have hjl : j < m.t.f.length := by omega
      have eg : m.t.f.getD (findF m.t.f (keyFor m.s pg)).toNat freeF = m.t.f[j] := by rw [hj, Int.toNat_natCast]; simp [hjl]
      rw [eg] at hl hc ⊢
      rw [hj]
      rw [hj] at hl hc
      unfold s_l6Fill
      rw [sCopy_eq hN, idx_nat hjl]
      simp only [obs]
      rw [sFill hM.c hl rfl (by simpa using h0) hc hf]
      simp only [obs, sAllows_eq, Bool.not_true, cof]
      cases allowsR m.t.f[j].r nd <;> rfl

def wireC (c : Ca) (i : Nat) (b : Bool) : Ca := ⟨c.l.set i ⟨(lnAt c.l i).va, (lnAt c.l i).tg, (lnAt c.l i).pg, (lnAt c.l i).fr, (lnAt c.l i).ri, b⟩, c.h⟩
def wireLR (c : Ca) (pl : Int) (b : Bool) : Ca × Bool :=
 if (cacheOk c && within pl c.l.length && (lnAt c.l pl.toNat).va && cacheOk (wireC c pl.toNat b)) = true then (wireC c pl.toNat b, true) else (⟨[], 0⟩, false)
theorem iWireLine {c : Ca} {pl : Int} {b : Bool} (hl : c.l.length ≤ 1048576) (hf : 1048576 < fl) : i_WireLine fl c pl b = some (wireLR c pl b) := by
 unfold i_WireLine wireLR i_Cache_with slices_Clone_Line
 rw [iCache_eq hf, within_eq]
 cases cacheOk c with
 | false => simp [obs]
 | true =>
  cases hw : within pl c.l.length with
  | false => simp [obs]
  | true =>
   have hw' := within_iff.1 hw
   obtain ⟨i, rfl⟩ : ∃ i : Nat, pl = i := ⟨pl.toNat, by omega⟩
   have hi : i < c.l.length := by omega
   unfold wireC
   rw [Int.toNat_natCast, lnAt_lt hi, idx_nat hi, cnt_in (by omega)]
   simp only [obs, Bool.not_true, cof, Bool.true_and]
   cases hv : c.l[i].va with
   | false => simp [obs]
   | true =>
    rw [idx_nat hi]
    simp only [obs, Bool.not_true, cof, Bool.true_and, iCache_eq hf, Int.toNat_natCast, hv]
    cases cacheOk (⟨c.l.set i ⟨true, c.l[i].tg, c.l[i].pg, c.l[i].fr, c.l[i].ri, b⟩, c.h⟩ : Ca) <;> rfl
theorem sWireLine {c : Ca} {pl : Int} {b : Bool} (hl : c.l.length ≤ 1048576) (hf : 1048576 < fl) : s_WireLine fl c pl b = some (wireLR c pl b) := by
 unfold s_WireLine wireLR s_l4Copy
 rw [sCache_eq hf]
 cases cacheOk c with
 | false => simp [obs]
 | true =>
  unfold within
  by_cases h1 : pl < 0
  ·rw [decide_eq_true h1, decide_eq_false (by omega : ¬ 0 ≤ pl)]; simp [obs]
  by_cases h2 : (c.l.length : Int) ≤ pl
  ·rw [decide_eq_false h1, decide_eq_true h2, decide_eq_false (by omega : ¬ pl < (c.l.length : Int))]; simp [obs]
  rw [decide_eq_false h1, decide_eq_false h2, decide_eq_true (by omega : 0 ≤ pl), decide_eq_true (by omega : pl < (c.l.length : Int))]
  obtain ⟨i, rfl⟩ : ∃ i : Nat, pl = i := ⟨pl.toNat, by omega⟩
  have hi : i < c.l.length := by omega
  unfold wireC
  rw [Int.toNat_natCast, lnAt_lt hi, idx_nat hi, cnt_in (by simp; omega)]
  simp only [obs, Bool.not_true, cof, Bool.true_and, List.nil_append]
  cases hv : c.l[i].va with
  | false => simp [obs]
  | true =>
   rw [idx_nat hi]
   simp only [obs, Bool.not_true, cof, Bool.true_and, sCache_eq hf, Int.toNat_natCast, hv]
   cases cacheOk (⟨c.l.set i ⟨true, c.l[i].tg, c.l[i].pg, c.l[i].fr, c.l[i].ri, b⟩, c.h⟩ : Ca) <;> rfl
noncomputable def wireR (m : Mc) (pg : Int) : Mc × Bool :=
 if ((touchR m pg 0).2.2.2 && !((touchR m pg 0).2.2.1 == 3) && !decide (pg < 128) && (wireLR (touchR m pg 0).1.c (fx (fits (-1) pg) (touchR m pg 0).1.c.l 0) true).2) = true then
  (⟨(touchR m pg 0).1.t, (wireLR (touchR m pg 0).1.c (fx (fits (-1) pg) (touchR m pg 0).1.c.l 0) true).1, (touchR m pg 0).1.g, (touchR m pg 0).1.s⟩, true)
 else (mc0, false)
theorem wireLR_len {c : Ca} {pl : Int} {b : Bool} (h : (wireLR c pl b).2 = true) : (wireLR c pl b).1.l.length = c.l.length := by
 unfold wireLR at h ⊢
 split at h
 ·rename_i q; rw [if_pos q]; simp [wireC]
 ·cases h
theorem wireR_len {m : Mc} {pg : Int} (hN : mcN m ≤ 1048576) : mcN (wireR m pg).1 ≤ 1048576 := by
 have hT := touchR_len (pg := pg) (nd := 0) hN
 unfold wireR
 split
 ·rename_i q
  simp only [Bool.and_eq_true] at q
  have := wireLR_len q.2
  unfold mcN at hT ⊢
  simp only [this]; exact hT
 ·simp [mcN, mc0]
theorem iWire_eq {m : Mc} {pg : Int} (hN : mcN m ≤ 1048576) (hf : 1048576 < fl) : i_WirePage fl m pg = some (wireR m pg) := by
 have hT := touchR_len (pg := pg) (nd := 0) hN
 have hT' := hT
 unfold mcN at hT'
 unfold i_WirePage wireR
 rw [iTouch_eq hN hf]
 simp only [obs]
 cases (touchR m pg 0).2.2.2 with
 | false => simp [obs, mc0]
 | true =>
  cases decide (pg < 128) with
  | true => simp [obs, mc0]
  | false =>
   cases ((touchR m pg 0).2.2.1 == 3) with
   | true => simp [obs, mc0]
   | false =>
    simp only [Bool.not_true, Bool.not_false, cof, obs, Bool.true_and]
    rw [place_eq (by omega) hf]
    simp only [obs]
    rw [iWireLine (by omega) hf]
    simp only [obs]
    cases (wireLR (touchR m pg 0).1.c (fx (fits (-1) pg) (touchR m pg 0).1.c.l 0) true).2 <;> rfl
theorem sWire_eq {m : Mc} {pg : Int} (hN : mcN m ≤ 1048576) (hf : 1048576 < fl) : s_WirePage fl m pg = some (wireR m pg) := by
 have hT := touchR_len (pg := pg) (nd := 0) hN
 have hT' := hT
 unfold mcN at hT'
 unfold s_WirePage wireR
 rw [sTouch_eq hN hf]
 simp only [obs]
 cases (touchR m pg 0).2.2.2 with
 | false => simp [obs, mc0]
 | true =>
  cases decide (pg < 128) with
  | true => cases ((touchR m pg 0).2.2.1 == 3) <;> simp [obs, mc0]
  | false =>
   cases ((touchR m pg 0).2.2.1 == 3) with
   | true => simp [obs, mc0]
   | false =>
    simp only [Bool.not_true, Bool.not_false, cof, obs, Bool.true_and]
    rw [sPlace_eq (by omega) hf]
    simp only [obs]
    rw [sWireLine (by omega) hf]
    simp only [obs]
    cases (wireLR (touchR m pg 0).1.c (fx (fits (-1) pg) (touchR m pg 0).1.c.l 0) true).2 <;> rfl

/-! ### new memories -/

/-! ### the clock -/

/-! ### a new table -/
def newT (n m : Nat) : T := ⟨List.replicate m (-1), List.replicate n freeF⟩
def newTR (n m : Int) : T × Bool := if (decide (1 ≤ n) && decide (n ≤ 16) && decide (1 ≤ m) && decide (m ≤ 16)) = true then (newT n.toNat m.toNat, true) else (⟨[], []⟩, false)
theorem sNewTR_eq {n m : Int} (hf : 1048576 < fl) : s_NewTable fl n m = some (newTR n m) := by
 by_cases h : (decide (1 ≤ n) && decide (n ≤ 16) && decide (1 ≤ m) && decide (m ≤ 16)) = true
 ·unfold newTR
  rw [if_pos h]
  simp only [Bool.and_eq_true, decide_eq_true_eq] at h
  obtain ⟨a, rfl⟩ : ∃ a : Nat, n = a := ⟨n.toNat, by omega⟩
  obtain ⟨b, rfl⟩ : ∃ b : Nat, m = b := ⟨m.toNat, by omega⟩
  rw [sNewTable_eq (by omega) (by omega) (by omega) (by omega) hf]; rfl
 ·unfold newTR
  rw [if_neg h]
  unfold s_NewTable s_l2Buckets
  simp only [Bool.and_eq_true, decide_eq_true_eq] at h
  by_cases h1 : n < 1
  ·rw [decide_eq_true h1]; simp [obs]
  by_cases h2 : 16 < n
  ·rw [decide_eq_false h1, decide_eq_true h2]; simp [obs]
  rw [decide_eq_false h1, decide_eq_false h2]
  by_cases h3 : 1 ≤ m
  ·rw [decide_eq_true h3, decide_eq_false (by omega : ¬ m ≤ 16)]; simp [obs]
  ·rw [decide_eq_false h3]; simp [obs]
/-! ### new caches, tags and machines -/
def newC (c : Nat) : Ca := ⟨List.replicate c lnZ, 0⟩
def newG (g : Int) : Tg := ⟨g, 1, 0, [⟨0, 0⟩]⟩
theorem takeTag_new {g : Int} (h1 : 1 ≤ g) (h2 : g ≤ 8) : takeTagR ⟨g, 0, 0, []⟩ 0 = (newG g, 0, false, true) := by
 have hG : tagsOk ⟨g, 0, 0, []⟩ = true := by
  rw [tagsOk_iff]
  refine ⟨h1, h2, by simp, by simp; omega, by simp, by simp, ?_, ?_, ?_, ?_⟩ <;> intro i hi <;> simp at hi
 unfold takeTagR
 rw [hG, show within 0 16 = true from rfl]
 have hn : ((0 : Int) == g) = false := by simp; omega
 simp only [Bool.true_and, if_true]
 rw [show ownF ⟨g, 0, 0, []⟩ 0 = -1 from rfl]
 simp only [hn]
 rfl
def newM (n m c : Nat) (g : Int) : Mc := ⟨newT n m, newC c, newG g, 0⟩
def newMcR (n m c g : Int) : Mc × Bool :=
 if ((decide (1 ≤ n) && decide (n ≤ 16) && decide (1 ≤ m) && decide (m ≤ 16)) && (decide (1 ≤ c) && decide (c ≤ 8)) && (decide (1 ≤ g) && decide (g ≤ 8))) = true then (newM n.toNat m.toNat c.toNat g, true) else (mc0, false)
def newCR (c : Int) : Ca × Bool := if (decide (1 ≤ c) && decide (c ≤ 8)) = true then (newC c.toNat, true) else (⟨[], 0⟩, false)
theorem sNewCache_eq {c : Int} : s_NewCache fl c = some (newCR c) := by
 unfold s_NewCache newCR
 by_cases h1 : c < 1
 ·rw [decide_eq_true h1, decide_eq_false (by omega : ¬ 1 ≤ c)]; simp [obs]
 by_cases h2 : 8 < c
 ·rw [decide_eq_true h2, decide_eq_false (by omega : ¬ c ≤ 8)]; cases decide (c < 1) <;> simp [obs]
 rw [decide_eq_false h1, decide_eq_false h2, decide_eq_true (by omega : 1 ≤ c), decide_eq_true (by omega : c ≤ 8)]
 obtain ⟨a, rfl⟩ : ∃ a : Nat, c = a := ⟨c.toNat, by omega⟩
 rw [mkO_nat (by omega)]; rfl
def newGR (g : Int) : Tg × Bool := if (decide (1 ≤ g) && decide (g ≤ 8)) = true then (⟨g, 0, 0, []⟩, true) else (⟨0, 0, 0, []⟩, false)
theorem sNewTags_eq {g : Int} : s_NewTags fl g = some (newGR g) := by
 unfold s_NewTags newGR
 by_cases h1 : g < 1
 ·rw [decide_eq_true h1, decide_eq_false (by omega : ¬ 1 ≤ g)]; simp [obs]
 by_cases h2 : 8 < g
 ·rw [decide_eq_true h2, decide_eq_false (by omega : ¬ g ≤ 8)]; cases decide (g < 1) <;> simp [obs]
 rw [decide_eq_false h1, decide_eq_false h2, decide_eq_true (by omega : 1 ≤ g), decide_eq_true (by omega : g ≤ 8)]; rfl
theorem newJoin {n m c g : Int} {A : Option (Tg × Int × Bool × Bool)} (hA : (decide (1 ≤ g) && decide (g ≤ 8)) = true → A = some (newG g, 0, false, true)) :
  (Option.bind (cond (!(newTR n m).2) (some true) (some (!(newCR c).2))) fun y24 => Option.bind (cond y24 (some true) (some (!(newGR g).2))) fun y25 => cond y25 (some (mc0, false)) (Option.bind A fun x27 => some ((⟨(newTR n m).1, (newCR c).1, x27.1, 0⟩ : Mc), true))) = some (newMcR n m c g) := by
 unfold newTR newCR newGR newMcR
 cases (decide (1 ≤ n) && decide (n ≤ 16) && decide (1 ≤ m) && decide (m ≤ 16)) with
 | false => simp [obs]
 | true =>
  cases (decide (1 ≤ c) && decide (c ≤ 8)) with
  | false => simp [obs]
  | true =>
   cases hg : (decide (1 ≤ g) && decide (g ≤ 8)) with
   | false => simp [obs]
   | true => rw [hA hg]; rfl
theorem newMc_tag {g : Int} : (decide (1 ≤ g) && decide (g ≤ 8)) = true → takeTagR (newGR g).1 0 = (newG g, 0, false, true) := by
 intro h
 unfold newGR
 rw [if_pos h]
 simp only [Bool.and_eq_true, decide_eq_true_eq] at h
 exact takeTag_new h.1 h.2
theorem newGR_len {g : Int} : (newGR g).1.o.length ≤ 1048576 := by unfold newGR; split <;> simp
theorem sNewMc_eq {n m c g : Int} (hf : 1048576 < fl) : s_NewMachine fl n m c g = some (newMcR n m c g) := by
 unfold s_NewMachine
 rw [sNewTR_eq hf, sNewCache_eq, sNewTags_eq]
 simp only [obs]
 rw [sTakeTag newGR_len hf]
 exact newJoin fun h => by rw [newMc_tag h]

theorem eqLoop {α : Type} [BEq α] [LawfulBEq α] {L : Nat → Int → Option (LO Int Bool)} {l : List α}
  (step : ∀ fuel i, (h : i < l.length) → L (fuel + 1) (i : Int) = L fuel ((i + 1 : Nat) : Int)) (stop : ∀ fuel, L (fuel + 1) (l.length : Int) = some (.out (l.length : Int))) : ∀ fuel i, i ≤ l.length → l.length - i < fuel → L fuel (i : Int) = some (.out (l.length : Int)) := by
 intro fuel
 induction fuel with
 | zero => intro i _ h; omega
 | succ fuel ih =>
  intro i hi hf
  by_cases h : i < l.length
  ·rw [step fuel i h]; exact ih (i + 1) (by omega) (by omega)
  ·have e : i = l.length := by omega
   subst e; exact stop fuel
theorem eqI_self {l : List Int} (hl : l.length ≤ 1048576) (hf : 1048576 < fl) : slices_Equal_Int fl l l = some true := by
 unfold slices_Equal_Int
 have := eqLoop (L := slices_Equal_Int_L0 fl l l) (l := l)
  (fun fuel i h => by
   rw [slices_Equal_Int_L0.eq_2, decide_eq_true (by omega : (i : Int) < (l.length : Int)), cot, idx_nat h]
   simp only [obs, bne_self_eq_false, cof]
   rw [ck_succ (by omega)]; simp only [obs])
  (fun fuel => by rw [slices_Equal_Int_L0.eq_2, decide_eq_false (by omega), cof]) fl 0 (by omega) (by omega)
 rw [show ((0 : Nat) : Int) = 0 from rfl] at this
 simp only [bne_self_eq_false, cof, this, obs]
theorem eqF_self {l : List F} (hl : l.length ≤ 1048576) (hf : 1048576 < fl) : slices_Equal_Frame fl l l = some true := by
 unfold slices_Equal_Frame
 have := eqLoop (L := slices_Equal_Frame_L0 fl l l) (l := l)
  (fun fuel i h => by
   rw [slices_Equal_Frame_L0.eq_2, decide_eq_true (by omega : (i : Int) < (l.length : Int)), cot, idx_nat h]
   simp only [obs, bne_self_eq_false, cof]
   rw [ck_succ (by omega)]; simp only [obs])
  (fun fuel => by rw [slices_Equal_Frame_L0.eq_2, decide_eq_false (by omega), cof]) fl 0 (by omega) (by omega)
 rw [show ((0 : Nat) : Int) = 0 from rfl] at this
 simp only [bne_self_eq_false, cof, this, obs]
theorem eqLn_self {l : List Ln} (hl : l.length ≤ 1048576) (hf : 1048576 < fl) : slices_Equal_Line fl l l = some true := by
 unfold slices_Equal_Line
 have := eqLoop (L := slices_Equal_Line_L0 fl l l) (l := l)
  (fun fuel i h => by
   rw [slices_Equal_Line_L0.eq_2, decide_eq_true (by omega : (i : Int) < (l.length : Int)), cot, idx_nat h]
   simp only [obs, bne_self_eq_false, cof]
   rw [ck_succ (by omega)]; simp only [obs])
  (fun fuel => by rw [slices_Equal_Line_L0.eq_2, decide_eq_false (by omega), cof]) fl 0 (by omega) (by omega)
 rw [show ((0 : Nat) : Int) = 0 from rfl] at this
 simp only [bne_self_eq_false, cof, this, obs]
theorem eqOw_self {l : List Ow} (hl : l.length ≤ 1048576) (hf : 1048576 < fl) : slices_Equal_Own fl l l = some true := by
 unfold slices_Equal_Own
 have := eqLoop (L := slices_Equal_Own_L0 fl l l) (l := l)
  (fun fuel i h => by
   rw [slices_Equal_Own_L0.eq_2, decide_eq_true (by omega : (i : Int) < (l.length : Int)), cot, idx_nat h]
   simp only [obs, bne_self_eq_false, cof]
   rw [ck_succ (by omega)]; simp only [obs])
  (fun fuel => by rw [slices_Equal_Own_L0.eq_2, decide_eq_false (by omega), cof]) fl 0 (by omega) (by omega)
 rw [show ((0 : Nat) : Int) = 0 from rfl] at this
 simp only [bne_self_eq_false, cof, this, obs]
theorem sameMc {m : Mc} (h1 : m.t.b.length ≤ 1048576) (h2 : m.t.f.length ≤ 1048576) (h3 : m.c.l.length ≤ 1048576) (h4 : m.g.o.length ≤ 1048576) (hf : 1048576 < fl) : i_MachineSame fl m m = some true := by
 unfold i_MachineSame i_TableSame i_CacheSame i_TagsSame
 rw [eqI_self h1 hf, eqF_self h2 hf, eqLn_self h3 hf, eqOw_self h4 hf]
 simp only [obs, cot, beq_self_eq_true]

/-- the sizes of what is drawn -/
def SzM (m : Mc) : Prop := 1 ≤ m.t.b.length ∧ m.t.b.length ≤ 16 ∧ m.t.f.length ≤ 16 ∧ m.c.l.length ≤ 8 ∧ m.g.o.length ≤ 9
theorem SzM.n {m : Mc} (h : SzM m) : mcN m ≤ 1048576 := by obtain ⟨a, b, c, d, e⟩ := h; unfold mcN; omega
theorem SzM.same {m m' : Mc} (h : SzM m) (h1 : m'.t.b.length = m.t.b.length) (h2 : m'.t.f.length = m.t.f.length) (h3 : m'.c.l.length = m.c.l.length) (h4 : m'.g.o.length = m.g.o.length) : SzM m' := by
 unfold SzM; rw [h1, h2, h3, h4]; exact h
theorem putR_sz {m : Mc} {k : K} {fr r : Int} (hm : SzM m) (h : (putR m k fr r).2 = true) : SzM (putR m k fr r).1 := by
 unfold putR at h ⊢
 split
 ·rename_i c
  simp only [Bool.and_eq_true] at c
  obtain ⟨a, b⟩ := mapR_same c.2
  exact hm.same a b rfl rfl
 ·rename_i hn; rw [if_neg hn] at h; cases h
theorem takeR_sz {m : Mc} {k : K} (hm : SzM m) (h : (takeR m k).2 = true) : SzM (takeR m k).1 := by
 unfold takeR at h ⊢
 split
 ·rename_i c
  simp only [Bool.and_eq_true] at c
  obtain ⟨a, b, _⟩ := unmapR_same c.2
  exact hm.same a b dropC_len rfl
 ·rename_i hn; rw [if_neg hn] at h; cases h
theorem touchR_sz {m : Mc} {pg nd : Int} (hm : SzM m) (h : (touchR m pg nd).2.2.2 = true) : SzM (touchR m pg nd).1 := by
 unfold touchR at h ⊢
 split
 ·split
  ·exact hm
  ·split
   ·exact hm
   ·exact hm.same rfl rfl fillC_len rfl
 ·rename_i hn; rw [if_neg hn] at h; cases h
theorem wireR_sz {m : Mc} {pg : Int} (hm : SzM m) (h : (wireR m pg).2 = true) : SzM (wireR m pg).1 := by
 unfold wireR at h ⊢
 split
 ·rename_i c
  simp only [Bool.and_eq_true] at c
  exact (touchR_sz hm c.1.1.1).same rfl rfl (wireLR_len c.2) rfl
 ·rename_i hn; rw [if_neg hn] at h; cases h
theorem enterR_sz {m : Mc} {sp : Int} (hm : SzM m) (h : (enterR m sp).2 = true) : SzM (enterR m sp).1 := by
 unfold enterR at h ⊢
 split
 ·rename_i c
  simp only [Bool.and_eq_true] at c
  have hM := machineOk_iff.1 c.1
  obtain ⟨a, b, d, e⟩ := hM.small
  have := takeTag_len (t := m.g) (sp := sp)
  obtain ⟨s1, s2, s3, s4, s5⟩ := hm
  refine ⟨s1, s2, s3, by simpa using s4, ?_⟩
  simp only []
  omega
 ·rename_i hn; rw [if_neg hn] at h; cases h
theorem page6_eq {l : List UInt8} {p : Int} (hp : 0 ≤ p) (hp2 : p ≤ 1073741824) (hl : l.length ≤ 2000) : ∃ x, s_l6Page fl l p = some (x, p + 1) := by
 unfold s_l6Page
 obtain ⟨x, _, e⟩ := num_eq (fl := fl) (L := [1, 2, 3, 4, 200, 201, 5]) hp hp2 hl (by simp)
 rw [e]
 exact ⟨_, rfl⟩
theorem step6_eq {l : List UInt8} {p : Int} {m : Mc} (hm : SzM m) (hf : 1048576 < fl) (hp : 0 ≤ p) (hp2 : p ≤ 1000000) (hl : l.length ≤ 2000) : ∃ m' p', s_l6Step fl l p m = some (m', p') ∧ SzM m' ∧ p ≤ p' ∧ p' ≤ p + 10 := by
 have hN := hm.n
 unfold s_l6Step
 obtain ⟨q, e0, _, _⟩ := pick_eq (fl := fl) (n := 8) hp (by omega) hl
 rw [e0]
 simp only [obs]
 cases (q == 0) with
 | true =>
  rw [cot]
  obtain ⟨x, _, e1⟩ := num_eq (fl := fl) (p := p + 1) (L := [0, 1, 2, 3]) (by omega) (by omega) hl (by simp)
  rw [e1]
  simp only [obs]
  rw [sEnter_eq hN hf]
  simp only [obs]
  cases h : (enterR m x).2 with
  | false => simp only [Bool.not_false, cot]; exact ⟨_, _, rfl, hm, by omega, by omega⟩
  | true => simp only [Bool.not_true, cof]; exact ⟨_, _, rfl, enterR_sz hm h, by omega, by omega⟩
 | false =>
 rw [cof]
 obtain ⟨y1, ey1⟩ : ∃ y, (cond (q == 1) (some (q == 1)) (cond (q == 2) (some (q == 2)) (some (q == 3)))) = some y := by cases (q == 1) <;> cases (q == 2) <;> exact ⟨_, rfl⟩
 rw [ey1]
 simp only [obs]
 cases y1 with
 | true =>
  rw [cot]
  obtain ⟨a, e1, _, _⟩ := pick_eq (fl := fl) (p := p + 1) (n := 3) (by omega) (by omega) hl
  rw [e1]
  simp only [obs]
  obtain ⟨pg, e2⟩ := page6_eq (fl := fl) (p := p + 1 + 1) (l := l) (by omega) (by omega) hl
  rw [e2]
  simp only [obs, sKeyFor]
  obtain ⟨b, e3, _, _⟩ := pick_eq (fl := fl) (p := p + 1 + 1 + 1) (n := (m.t.f.length : Int)) (by omega) (by omega) hl
  rw [e3]
  simp only [obs]
  obtain ⟨x, _, e4⟩ := num_eq (fl := fl) (p := p + 1 + 1 + 1 + 1) (L := [3, 1, 7]) (by omega) (by omega) hl (by simp)
  rw [e4]
  simp only [obs]
  rw [sPut_eq hN hf]
  simp only [obs]
  cases h : (putR m (keyFor a pg) b x).2 with
  | false => simp only [Bool.not_false, cot]; exact ⟨_, _, rfl, hm, by omega, by omega⟩
  | true => simp only [Bool.not_true, cof]; exact ⟨_, _, rfl, putR_sz hm h, by omega, by omega⟩
 | false =>
 rw [cof]
 obtain ⟨y2, ey2⟩ : ∃ y, (cond (q == 4) (some (q == 4)) (some (q == 5))) = some y := by cases (q == 4) <;> exact ⟨_, rfl⟩
 rw [ey2]
 simp only [obs]
 cases y2 with
 | true =>
  rw [cot]
  obtain ⟨pg, e2⟩ := page6_eq (fl := fl) (p := p + 1) (l := l) (by omega) (by omega) hl
  rw [e2]
  simp only [obs]
  obtain ⟨x, _, e4⟩ := num_eq (fl := fl) (p := p + 1 + 1) (L := [1, 0, 2]) (by omega) (by omega) hl (by simp)
  rw [e4]
  simp only [obs]
  rw [sTouch_eq hN hf]
  simp only [obs]
  cases h : (touchR m pg x).2.2.2 with
  | false => simp only [Bool.not_false, cot]; exact ⟨_, _, rfl, hm, by omega, by omega⟩
  | true => simp only [Bool.not_true, cof]; exact ⟨_, _, rfl, touchR_sz hm h, by omega, by omega⟩
 | false =>
 rw [cof]
 cases (q == 6) with
 | true =>
  rw [cot]
  obtain ⟨x, _, e4⟩ := num_eq (fl := fl) (p := p + 1) (L := [200, 201]) (by omega) (by omega) hl (by simp)
  rw [e4]
  simp only [obs]
  rw [sWire_eq hN hf]
  simp only [obs]
  cases h : (wireR m x).2 with
  | false => simp only [Bool.not_false, cot]; exact ⟨_, _, rfl, hm, by omega, by omega⟩
  | true => simp only [Bool.not_true, cof]; exact ⟨_, _, rfl, wireR_sz hm h, by omega, by omega⟩
 | false =>
 rw [cof]
 cases (q == 7) with
 | true =>
  rw [cot]
  obtain ⟨a, e1, _, _⟩ := pick_eq (fl := fl) (p := p + 1) (n := 3) (by omega) (by omega) hl
  rw [e1]
  simp only [obs]
  obtain ⟨pg, e2⟩ := page6_eq (fl := fl) (p := p + 1 + 1) (l := l) (by omega) (by omega) hl
  rw [e2]
  simp only [obs, sKeyFor]
  rw [sTake_eq hN hf]
  simp only [obs]
  cases h : (takeR m (keyFor a pg)).2 with
  | false => simp only [Bool.not_false, cot]; exact ⟨_, _, rfl, hm, by omega, by omega⟩
  | true => simp only [Bool.not_true, cof]; exact ⟨_, _, rfl, takeR_sz hm h, by omega, by omega⟩
 | false => rw [cof]; simp only [Bool.not_false, cot]; exact ⟨_, _, rfl, hm, by omega, by omega⟩
theorem draw6_L0 {l : List UInt8} (hl : l.length ≤ 2000) (hf : 1048576 < fl) : ∀ (fuel n : Nat) (p : Int) (m : Mc), n < fuel → n ≤ 100 → SzM m → 0 ≤ p → p ≤ 10000 - 10 * (n : Int) →
  ∃ m' p' z, s_l6Draw_L0 fl l fuel p m.t.b m.t.f m.c.l m.c.h m.g.c m.g.n m.g.r m.g.o m.s n = some (.out (p', m'.t.b, m'.t.f, m'.c.l, m'.c.h, m'.g.c, m'.g.n, m'.g.r, m'.g.o, m'.s, z)) ∧ SzM m' ∧ 0 ≤ p' ∧ p' ≤ 10000 := by
 intro fuel
 induction fuel with
 | zero => intro n p m h; omega
 | succ fuel ih =>
  intro n p m hn hn2 hm hp hp2
  rw [s_l6Draw_L0.eq_2]
  by_cases h0 : n = 0
  ·subst h0
   simp only [show decide (0 < ((0 : Nat) : Int)) = false from rfl, cof]
   exact ⟨m, _, _, rfl, hm, hp, by omega⟩
  ·rw [decide_eq_true (by omega : 0 < (n : Int)), cot]
   obtain ⟨m1, p1, e1, s1, a1, b1⟩ := step6_eq (fl := fl) (l := l) (p := p) hm hf hp (by omega) hl
   have e1' : s_l6Step fl l p (⟨(⟨m.t.b, m.t.f⟩ : T), (⟨m.c.l, m.c.h⟩ : Ca), (⟨m.g.c, m.g.n, m.g.r, m.g.o⟩ : Tg), m.s⟩ : Mc) = some (m1, p1) := e1
   rw [e1']
   simp only [obs]
   have hck : ck ((n : Int) - 1) = some ((n - 1 : Nat) : Int) := by rw [ck_in (by omega)]; congr 1; omega
   rw [hck]
   simp only [obs]
   exact ih (n - 1) p1 m1 (by omega) (by omega) s1 (by omega) (by omega)
theorem draw6_eq {l : List UInt8} (hl : l.length ≤ 2000) (hf : 1048576 < fl) {p : Int} (hp : 0 ≤ p) (hp2 : p ≤ 1000) : ∃ m p', s_l6Draw fl l p = some (m, p') ∧ SzM m ∧ 0 ≤ p' ∧ p' ≤ 10000 := by
 unfold s_l6Draw
 obtain ⟨x, hx, e1⟩ := num_eq (fl := fl) (L := [6, 4, 8]) hp (by omega) hl (by simp)
 rw [e1]
 simp only [obs]
 obtain ⟨y, hy, e2⟩ := num_eq (fl := fl) (p := p + 1) (L := [4, 2, 1]) (by omega) (by omega) hl (by simp)
 rw [e2]
 simp only [obs]
 obtain ⟨z, hz, e3⟩ := num_eq (fl := fl) (p := p + 1 + 1) (L := [3, 2, 4, 1]) (by omega) (by omega) hl (by simp)
 rw [e3]
 simp only [obs]
 obtain ⟨u, hu, e4⟩ := num_eq (fl := fl) (p := p + 1 + 1 + 1) (L := [2, 3, 1]) (by omega) (by omega) hl (by simp)
 rw [e4]
 simp only [obs]
 rw [sNewMc_eq hf]
 simp only [obs]
 have hx' : 1 ≤ x ∧ x ≤ 8 := by simp at hx; omega
 have hy' : 1 ≤ y ∧ y ≤ 8 := by simp at hy; omega
 have hz' : 1 ≤ z ∧ z ≤ 8 := by simp at hz; omega
 have hu' : 1 ≤ u ∧ u ≤ 8 := by simp at hu; omega
 have em : newMcR x y z u = (newM x.toNat y.toNat z.toNat u, true) := by
  unfold newMcR
  rw [if_pos (by simp; omega)]
 rw [em]
 have hs : SzM (newM x.toNat y.toNat z.toNat u) := by
  unfold SzM newM newT newC newG
  simp
  omega
 obtain ⟨v, e5, hv, _⟩ := pick_eq (fl := fl) (p := p + 1 + 1 + 1 + 1) (n := 10) (by omega) (by omega) hl
 have hv' := hv (by omega)
 rw [e5]
 simp only [obs]
 rw [ck_in (by omega)]
 simp only [obs]
 obtain ⟨n, hn⟩ : ∃ n : Nat, 6 + v = n := ⟨(6 + v).toNat, by omega⟩
 rw [hn]
 obtain ⟨m', p', w, e6, s1, s2, s3⟩ := draw6_L0 (fl := fl) hl hf fl n (p + 1 + 1 + 1 + 1 + 1) _ (by omega) (by omega) hs (by omega) (by omega)
 rw [e6]
 simp only [obs]
 exact ⟨_, _, rfl, s1, s2, s3⟩
theorem wrong3g {l : List UInt8} (hl : l.length ≤ 2000) {p : Int} (hp : 0 ≤ p) (hp2 : p ≤ 1000000) {t : T} (hb : 1 ≤ t.b.length) (hN : t.b.length + t.f.length ≤ 1000) : ∃ t' p', s_l3Wrong fl l p t = some (t', p') ∧ (1 ≤ t'.b.length ∧ t'.b.length ≤ t.b.length + 1 ∧ t'.f.length ≤ t.f.length) ∧ 0 ≤ p' ∧ p' ≤ p + 10 := by
 unfold s_l3Wrong
 rw [copy_eq (by omega)]
 simp only [obs]
 by_cases h0 : t.f.length = 0
 ·rw [show ((t.f.length : Int) == 0) = true from by rw [beq_iff_eq]; omega, cot]
  exact ⟨_, _, rfl, by omega, hp, by omega⟩
 rw [show ((t.f.length : Int) == 0) = false from by rw [beq_eq_false_iff_ne]; omega, cof]
 obtain ⟨r, e1, hr, _⟩ := pick_eq (fl := fl) (n := (t.f.length : Int)) hp (by omega) hl
 rw [e1]
 simp only [obs]
 obtain ⟨q, e2, _, _⟩ := pick_eq (fl := fl) (p := p + 1) (n := 24) (by omega) (by omega) hl
 rw [e2]
 simp only [obs]
 obtain ⟨r0, r1⟩ := hr (by omega)
 obtain ⟨g, _, hg⟩ := idx_in r0 r1
 obtain ⟨b0, _, hhb⟩ := idx_in (l := t.b) (i := (0 : Int)) (Int.le_refl 0) (by omega : (0 : Int) < (t.b.length : Int))
 rw [hg, hhb]
 simp only [obs]
 cases (q == 0) with
 | true =>
  rw [cot]
  obtain ⟨y, _, e3⟩ := num_eq (fl := fl) (p := p + 1 + 1) (L := [0, r, 16, (-1)]) (by omega) (by omega) hl (by simp)
  rw [e3]
  simp only [obs]
  exact ⟨_, _, rfl, by simp; omega, by omega, by omega⟩
 | false =>
 rw [cof]
 cases (q == 1) with
 | true => rw [cot]; exact ⟨_, _, rfl, by simp; omega, by omega, by omega⟩
 | false =>
 rw [cof]
 cases (q == 2) with
 | true =>
  rw [cot]
  obtain ⟨y, _, e3⟩ := num_eq (fl := fl) (p := p + 1 + 1) (L := [0, (-1), 16, (-2)]) (by omega) (by omega) hl (by simp)
  rw [e3]
  simp only [obs]
  exact ⟨_, _, rfl, by simp; omega, by omega, by omega⟩
 | false =>
 rw [cof]
 cases (q == 3) with
 | true =>
  rw [cot]
  obtain ⟨k, e3⟩ := draw2_eq (fl := fl) (p := p + 1 + 1) (by omega) (by omega) hl
  rw [e3]
  simp only [obs]
  exact ⟨_, _, rfl, by simp; omega, by omega, by omega⟩
 | false =>
 rw [cof]
 cases (q == 4) with
 | true =>
  rw [cot, cnt_in (by simp; omega)]
  simp only [obs]
  exact ⟨_, _, rfl, by (first | (simp; done) | (simp; omega)), by omega, by omega⟩
 | false =>
 rw [cof]
 cases (q == 5) with
 | true => rw [cot]; exact ⟨_, _, rfl, by simp; omega, by omega, by omega⟩
 | false => rw [cof]; exact ⟨_, _, rfl, by omega, by omega, by omega⟩
theorem wrong4_eq {l : List UInt8} (hl : l.length ≤ 2000) {p : Int} (hp : 0 ≤ p) (hp2 : p ≤ 1000000) {c : Ca} (hN : c.l.length ≤ 1000) : ∃ c' p', s_l4Wrong fl l p c = some (c', p') ∧ c'.l.length ≤ c.l.length ∧ 0 ≤ p' ∧ p' ≤ p + 10 := by
 unfold s_l4Wrong s_l4Copy
 rw [List.nil_append, cnt_in (by omega)]
 simp only [obs]
 by_cases h0 : c.l.length = 0
 ·rw [show ((c.l.length : Int) == 0) = true from by rw [beq_iff_eq]; omega, cot]
  exact ⟨_, _, rfl, Nat.le_refl _, hp, by omega⟩
 rw [show ((c.l.length : Int) == 0) = false from by rw [beq_eq_false_iff_ne]; omega, cof]
 obtain ⟨r, e1, hr, _⟩ := pick_eq (fl := fl) (n := (c.l.length : Int)) hp (by omega) hl
 rw [e1]
 simp only [obs]
 obtain ⟨q, e2, _, _⟩ := pick_eq (fl := fl) (p := p + 1) (n := 24) (by omega) (by omega) hl
 rw [e2]
 simp only [obs]
 obtain ⟨r0, r1⟩ := hr (by omega)
 obtain ⟨g, _, hg⟩ := idx_in r0 r1
 rw [hg]
 simp only [obs]
 cases (q == 0) with
 | true =>
  rw [cot]
  obtain ⟨y, _, e3⟩ := num_eq (fl := fl) (p := p + 1 + 1) (L := [(-1), 8, 0]) (by omega) (by omega) hl (by simp)
  rw [e3]
  simp only [obs]
  exact ⟨_, _, rfl, Nat.le_refl _, by omega, by omega⟩
 | false =>
 rw [cof]
 cases (q == 1) with
 | true => rw [cot]; exact ⟨_, _, rfl, by simp, by omega, by omega⟩
 | false =>
 rw [cof]
 cases (q == 2) with
 | true =>
  rw [cot]
  obtain ⟨y, _, e3⟩ := num_eq (fl := fl) (p := p + 1 + 1) (L := [2, 256, 3]) (by omega) (by omega) hl (by simp)
  rw [e3]
  simp only [obs]
  exact ⟨_, _, rfl, by simp, by omega, by omega⟩
 | false =>
 rw [cof]
 cases (q == 3) with
 | true =>
  rw [cot]
  obtain ⟨y, _, e3⟩ := num_eq (fl := fl) (p := p + 1 + 1) (L := [8, (-2), 0, (-1)]) (by omega) (by omega) hl (by simp)
  rw [e3]
  simp only [obs]
  exact ⟨_, _, rfl, by simp, by omega, by omega⟩
 | false =>
 rw [cof]
 cases (q == 4) with
 | true => rw [cot]; exact ⟨_, _, rfl, by simp, by omega, by omega⟩
 | false => rw [cof]; exact ⟨_, _, rfl, Nat.le_refl _, by omega, by omega⟩
theorem wrong5_eq {l : List UInt8} (hl : l.length ≤ 2000) {p : Int} (hp : 0 ≤ p) (hp2 : p ≤ 1000000) {g : Tg} (hN : g.o.length ≤ 1000) : ∃ g' p', s_l5Wrong fl l p g = some (g', p') ∧ g'.o.length ≤ g.o.length + 1 ∧ 0 ≤ p' ∧ p' ≤ p + 10 := by
 unfold s_l5Wrong s_l5Copy
 rw [List.nil_append, cnt_in (by omega)]
 simp only [obs]
 obtain ⟨q, e2, _, _⟩ := pick_eq (fl := fl) (p := p) (n := 20) (by omega) (by omega) hl
 rw [e2]
 simp only [obs]
 cases (q == 0) with
 | true =>
  rw [cot]
  obtain ⟨y, _, e3⟩ := num_eq (fl := fl) (p := p + 1) (L := [(-1), 9, 0]) (by omega) (by omega) hl (by simp)
  rw [e3]
  simp only [obs]
  exact ⟨_, _, rfl, Nat.le_succ _, by omega, by omega⟩
 | false =>
 rw [cof]
 cases (q == 1) with
 | true =>
  rw [cot]
  obtain ⟨y, _, e3⟩ := num_eq (fl := fl) (p := p + 1) (L := [0, 9, 1]) (by omega) (by omega) hl (by simp)
  rw [e3]
  simp only [obs]
  exact ⟨_, _, rfl, Nat.le_succ _, by omega, by omega⟩
 | false =>
 rw [cof]
 cases (q == 2) with
 | true =>
  rw [cot]
  obtain ⟨a, e3, _, _⟩ := pick_eq (fl := fl) (p := p + 1) (n := 3) (by omega) (by omega) hl
  rw [e3]
  simp only [obs]
  obtain ⟨b, e4, _, _⟩ := pick_eq (fl := fl) (p := p + 1 + 1) (n := 3) (by omega) (by omega) hl
  rw [e4]
  simp only [obs]
  rw [cnt_in (by simp; omega)]
  simp only [obs]
  exact ⟨_, _, rfl, by simp, by omega, by omega⟩
 | false =>
 rw [cof]
 cases (q == 3) with
 | true =>
  rw [cot]
  obtain ⟨y, _, e3⟩ := num_eq (fl := fl) (p := p + 1) (L := [(-1), 1000001, 1000000]) (by omega) (by omega) hl (by simp)
  rw [e3]
  simp only [obs]
  exact ⟨_, _, rfl, Nat.le_succ _, by omega, by omega⟩
 | false => rw [cof]; exact ⟨_, _, rfl, Nat.le_succ _, by omega, by omega⟩
theorem wrong6_eq {l : List UInt8} (hl : l.length ≤ 2000) {p : Int} (hp : 0 ≤ p) (hp2 : p ≤ 100000) {m : Mc} (hm : SzM m) : ∃ m' p', s_l6Wrong fl l p m = some (m', p') ∧ mcN m' ≤ 1000 ∧ m'.t.f.length ≤ 16 ∧ 0 ≤ p' ∧ p' ≤ 200000 := by
 have hN := hm.n
 obtain ⟨s1, s2, s3, s4, s5⟩ := hm
 unfold s_l6Wrong
 rw [sCopy_eq hN]
 simp only [obs]
 obtain ⟨q, e2, _, _⟩ := pick_eq (fl := fl) (p := p) (n := 24) (by omega) (by omega) hl
 rw [e2]
 simp only [obs]
 cases (q == 0) with
 | true =>
  rw [cot]
  obtain ⟨y, _, e3⟩ := num_eq (fl := fl) (p := p + 1) (L := [9, (-1), 1]) (by omega) (by omega) hl (by simp)
  rw [e3]
  simp only [obs]
  exact ⟨_, _, rfl, by simp only [mcN]; omega, s3, by omega, by omega⟩
 | false =>
 rw [cof]
 cases (q == 1) with
 | true =>
  rw [cot]
  obtain ⟨c1, p1, e3, a1, a2, a3⟩ := wrong4_eq (fl := fl) hl (p := p + 1) (by omega) (by omega) (c := m.c) (by omega)
  rw [e3]
  simp only [obs]
  obtain ⟨c2, p2, e4, b1, b2, b3⟩ := wrong4_eq (fl := fl) hl (p := p1) (by omega) (by omega) (c := c1) (by omega)
  rw [e4]
  simp only [obs]
  exact ⟨_, _, rfl, by simp only [mcN]; omega, s3, by omega, by omega⟩
 | false =>
 rw [cof]
 cases (q == 2) with
 | true =>
  rw [cot]
  obtain ⟨c1, p1, e3, a1, a2, a3⟩ := wrong3g (fl := fl) hl (p := p + 1) (by omega) (by omega) (t := m.t) (by omega) (by omega)
  rw [e3]
  simp only [obs]
  obtain ⟨c2, p2, e4, b1, b2, b3⟩ := wrong3g (fl := fl) hl (p := p1) (by omega) (by omega) (t := c1) (by omega) (by omega)
  rw [e4]
  simp only [obs]
  exact ⟨_, _, rfl, by simp only [mcN]; omega, by simp only []; omega, by omega, by omega⟩
 | false =>
 rw [cof]
 cases (q == 3) with
 | true =>
  rw [cot]
  obtain ⟨c1, p1, e3, a1, a2, a3⟩ := wrong5_eq (fl := fl) hl (p := p + 1) (by omega) (by omega) (g := m.g) (by omega)
  rw [e3]
  simp only [obs]
  obtain ⟨c2, p2, e4, b1, b2, b3⟩ := wrong5_eq (fl := fl) hl (p := p1) (by omega) (by omega) (g := c1) (by omega)
  rw [e4]
  simp only [obs]
  exact ⟨_, _, rfl, by simp only [mcN]; omega, s3, by omega, by omega⟩
 | false => rw [cof]; exact ⟨_, _, rfl, by simp only [mcN]; omega, s3, by omega, by omega⟩

theorem case6_eq (hf : 1048576 < fl) (l : List UInt8) : ∃ m, s_l6Case fl l = some m ∧ mcN m ≤ 1000 ∧ m.t.f.length ≤ 16 := by
 unfold s_l6Case
 have hl : (l.take 2000).length ≤ 2000 := by simp; omega
 obtain ⟨m, p, e, s, a, b⟩ := draw6_eq (fl := fl) hl hf (p := 0) (by omega) (by omega)
 rw [e]
 simp only [obs]
 obtain ⟨m', p', e', s', f', _⟩ := wrong6_eq (fl := fl) hl (p := p) a (by omega) s
 rw [e']
 simp only [obs]
 exact ⟨_, rfl, s', f'⟩
theorem sameN {m : Mc} (h : mcN m ≤ 1048576) (hf : 1048576 < fl) : i_MachineSame fl m m = some true := by
 unfold mcN at h
 exact sameMc (by omega) (by omega) (by omega) (by omega) hf
theorem enterR_yes {m : Mc} {sp : Int} (h : (enterR m sp).2 = true) : machineOk m = true ∧ (takeTagR m.g sp).2.2.2 = true ∧ (enterR m sp).1 = ⟨m.t, ⟨m.c.l.map (frL (takeTagR m.g sp).2.2.1), m.c.h⟩, (takeTagR m.g sp).1, sp⟩ := by
 unfold enterR at h ⊢
 split
 ·rename_i c
  simp only [Bool.and_eq_true] at c
  exact ⟨c.1, c.2, rfl⟩
 ·rename_i hn; rw [if_neg hn] at h; cases h


theorem frL_or (b : Bool) (x : Ln) : (frL b x = x ∧ (b = true → x.tg = -1)) ∨ frL b x = lnZ := by
 unfold frL
 cases b with
 | false => left; exact ⟨rfl, fun h => by cases h⟩
 | true =>
  cases h : (x.tg == -1) with
  | true => left; exact ⟨rfl, fun _ => by simpa using h⟩
  | false => right; rfl
theorem lnAt_frL (b : Bool) (l : List Ln) (i : Nat) : lnAt (l.map (frL b)) i = frL b (lnAt l i) := by
 unfold lnAt
 rw [List.getD_eq_getElem?_getD, List.getD_eq_getElem?_getD, List.getElem?_map]
 cases l[i]? with
 | none => show lnZ = frL b lnZ; cases b <;> rfl
 | some x => rfl
theorem CO.fr {c : Ca} (h : CO c) (b : Bool) : CO ⟨c.l.map (frL b), c.h⟩ := by
 refine ⟨by simpa using h.n1, by simpa using h.n2, h.h0, by simpa using h.h1, fun i hi => ?_, fun i hi j hj => ?_, ?_⟩
 ·simp only [List.length_map] at hi
  rw [lnAt_frL]
  rcases frL_or b (lnAt c.l i) with ⟨e, _⟩ | e <;> rw [e]
  ·exact h.ok i hi
  ·rfl
 ·simp only [List.length_map] at hi
  rw [lnAt_frL, lnAt_frL]
  rcases frL_or b (lnAt c.l i) with ⟨e, _⟩ | e <;> rw [e]
  ·rcases frL_or b (lnAt c.l j) with ⟨e, _⟩ | e <;> rw [e]
   ·exact h.cl i hi j hj
   ·unfold clash; simp [lnZ]
  ·unfold clash; simp [lnZ]
 ·obtain ⟨i, hi, hw⟩ := h.un
  refine ⟨i, by simpa using hi, ?_⟩
  simp only [lnAt_frL]
  rcases frL_or b (lnAt c.l i) with ⟨e, _⟩ | e <;> rw [e]
  ·exact hw
  ·rfl
theorem fx_append {α : Type} {p : α → Bool} {a : α} : ∀ {l : List α} {i : Nat}, 0 ≤ fx p l i → fx p (l ++ [a]) i = fx p l i
 | [], i, h => by rw [fx] at h; omega
 | x :: l, i, h => by
  rw [List.cons_append, fx, fx]
  rw [fx] at h
  by_cases hx : p x = true
  ·rw [if_pos hx, if_pos hx]
  ·rw [if_neg hx] at h ⊢
   rw [if_neg hx]
   exact fx_append h
theorem fx_append_last {α : Type} {p : α → Bool} {a : α} (ha : p a = true) : ∀ {l : List α} {i : Nat}, 0 ≤ fx p (l ++ [a]) i
 | [], i => by rw [List.nil_append, fx, if_pos ha]; omega
 | x :: l, i => by
  rw [List.cons_append, fx]
  by_cases hx : p x = true
  ·rw [if_pos hx]; omega
  ·rw [if_neg hx]; exact fx_append_last ha
theorem owAt_append {l : List Ow} {a : Ow} {i : Nat} (h : i < l.length) : owAt (l ++ [a]) i = owAt l i := by
 unfold owAt
 rw [List.getD_eq_getElem?_getD, List.getD_eq_getElem?_getD, List.getElem?_append_left h]
theorem owAt_last {l : List Ow} {a : Ow} : owAt (l ++ [a]) l.length = a := by
 unfold owAt; simp
/-- what TakeTag yields -/
theorem takeTag_ok {t : Tg} {sp : Int} (h : (takeTagR t sp).2.2.2 = true) : GO t ∧ within sp 16 = true ∧ GO (takeTagR t sp).1 ∧ 0 ≤ ownF (takeTagR t sp).1 sp ∧ ((takeTagR t sp).2.2.1 = false → (takeTagR t sp).1.r = t.r ∧ ∀ tg, 0 ≤ spF t tg → spF (takeTagR t sp).1 tg = spF t tg ∧ owAt (takeTagR t sp).1.o (spF t tg).toNat = owAt t.o (spF t tg).toNat) ∧ ((takeTagR t sp).2.2.1 = true → (takeTagR t sp).1.r ≠ t.r) := by
 unfold takeTagR at h ⊢
 split
 ·rename_i c1
  rw [if_pos c1] at h
  simp only [Bool.and_eq_true] at c1
  have hG := tagsOk_iff.1 c1.1
  have hw := within_iff.1 c1.2
  have g1 := hG.n1
  have g2 := hG.n2
  have g3 := hG.r2
  have g4 := hG.r1
  have g5 := hG.c1
  refine ⟨hG, c1.2, ?_⟩
  split
  ·rename_i c2
   exact ⟨hG, c2, fun _ => ⟨rfl, fun _ _ => ⟨rfl, rfl⟩⟩, fun h => by cases h⟩
  ·rename_i c2
   rw [if_neg c2] at h
   split
   ·rename_i c3
    rw [if_pos c3] at h
    split
    ·rename_i c4; rw [if_pos c4] at h; cases h
    ·rename_i c4
     have c4' : t.r ≠ 1000000 := by simpa using c4
     refine ⟨⟨g5, hG.c2, (by show (0 : Int) ≤ 1; decide), by simp only []; omega, by simp only []; omega, by simp only []; omega, fun i hi => ?_, fun i hi => ?_, fun i hi => ?_, fun i hi j hj => ?_⟩, ?_, fun h => (by cases h), fun _ => by simp only []; omega⟩
     ·obtain rfl : i = 0 := by simpa using hi
      show (-1 : Int) < 0
      decide
     ·obtain rfl : i = 0 := by simpa using hi
      show (0 : Int) < 1
      decide
     ·obtain rfl : i = 0 := by simpa using hi
      exact hw
     ·simp at hi; omega
     ·show 0 ≤ fx (fun o : Ow => o.sp == sp) [⟨sp, 0⟩] 0
      rw [fx, if_pos (by simp)]
      omega
   ·rename_i c3
    have c3' : t.n ≠ t.c := by simpa using c3
    have hno := fx_none (p := fun o : Ow => o.sp == sp) (l := t.o) (by unfold ownF at c2; omega)
    have ho : ∀ i, i < (t.o ++ [(⟨sp, t.n⟩ : Ow)]).length → i < t.o.length ∨ i = t.o.length := fun i hi => by
     rw [List.length_append, List.length_singleton] at hi; omega
    refine ⟨⟨g5, hG.c2, by simp only []; omega, by simp only []; omega, g4, g3, fun i hi => ?_, fun i hi => ?_, fun i hi => ?_, fun i hi j hj => ?_⟩, fx_append_last (by simp), fun _ => ⟨rfl, fun tg htg => ⟨fx_append htg, ?_⟩⟩, fun h => (by cases h)⟩
    ·simp only [] at hi ⊢
     rcases ho i hi with e | e
     ·rw [owAt_append e]
      have := hG.pt i e
      cases i with
      | zero => exact this
      | succ i => simp only [prevTag] at this ⊢; rw [owAt_append (by omega)]; exact this
     ·subst e
      rw [owAt_last]
      cases hlen : t.o.length with
      | zero => simp only [prevTag]; omega
      | succ k =>
       simp only [prevTag]
       rw [owAt_append (by omega)]
       exact hG.tn k (by omega)
    ·simp only [] at hi ⊢
     rcases ho i hi with e | e
     ·rw [owAt_append e]; have := hG.tn i e; omega
     ·subst e; rw [owAt_last]; simp only []; omega
    ·simp only [] at hi ⊢
     rcases ho i hi with e | e
     ·rw [owAt_append e]; exact hG.s1 i e
     ·subst e; rw [owAt_last]; exact hw
    ·simp only [] at hi ⊢
     rcases ho i hi with e | e
     ·rw [owAt_append e, owAt_append (by omega)]; exact hG.sd i e j hj
     ·subst e
      rw [owAt_last, owAt_append hj, owAt_lt hj]
      have := hno _ (List.getElem_mem hj)
      simpa using this
    ·have hb := (fx_bd (p := fun o : Ow => o.tg == tg) (l := t.o)).2
     unfold spF at htg ⊢
     exact owAt_append (by omega)
 ·rename_i c1; rw [if_neg c1] at h; cases h
theorem enter_ok {m : Mc} {sp : Int} (h : (enterR m sp).2 = true) : MO (enterR m sp).1 ∧ enterR (enterR m sp).1 sp = ((enterR m sp).1, true) := by
 obtain ⟨h1, h2, h3⟩ := enterR_yes h
 have hM := machineOk_iff.1 h1
 obtain ⟨k1, k2, k3, k4, k5, k6⟩ := takeTag_ok h2
 have hM' : MO (enterR m sp).1 := by
  rw [h3]
  refine ⟨hM.t, hM.c.fr _, k3, k4, hM.f, fun i hi hv => ?_⟩
  simp only [List.length_map] at hi
  simp only [lnAt_frL] at hv ⊢
  rcases frL_or (takeTagR m.g sp).2.2.1 (lnAt m.c.l i) with ⟨e, e2⟩ | e
  ·rw [e] at hv ⊢
   have hl := hM.l i hi hv
   rw [lineHas_eq] at hl ⊢
   cases hb : (takeTagR m.g sp).2.2.1 with
   | true =>
    have et := e2 hb
    simp only [lineSpace, et, beq_self_eq_true, Bool.true_or, Bool.or_true, keyHas] at hl ⊢
    exact hl
   | false =>
    cases ht : ((lnAt m.c.l i).tg == -1) with
    | true =>
     simp only [lineSpace, ht, Bool.true_or, Bool.or_true, keyHas] at hl ⊢
     exact hl
    | false =>
     simp only [ht, Bool.false_or, Bool.or_false, Bool.and_eq_true, decide_eq_true_eq] at hl
     obtain ⟨a, b⟩ := (k5 hb).2 _ hl.1.2
     simp only [lineSpace, ht, keyHas, a, b, Bool.false_or, Bool.or_false, Bool.and_eq_true, decide_eq_true_eq] at hl ⊢
     exact hl
  ·rw [e] at hv; cases hv
 refine ⟨hM', ?_⟩
 have hs : (enterR m sp).1.s = sp := by rw [h3]
 have hg : (enterR m sp).1.g = (takeTagR m.g sp).1 := by rw [h3]
 generalize (enterR m sp).1 = x at hM' hs hg
 have ht : takeTagR x.g sp = (x.g, (owAt x.g.o (ownF x.g sp).toNat).tg, false, true) := by
  unfold takeTagR
  rw [if_pos (by rw [tagsOk_iff.2 hM'.g, k2]; rfl), if_pos (by rw [hg]; exact k4)]
 unfold enterR
 rw [if_pos (by rw [machineOk_iff.2 hM', ht]; rfl), ht]
 simp only [frL_false]
 cases x with
 | mk t c g s => simp only [] at hs; subst hs; rfl

theorem GO.mono {t : Tg} (h : GO t) : ∀ j i, j < t.o.length → i < j → (owAt t.o i).tg < (owAt t.o j).tg := by
 intro j
 induction j with
 | zero => intro i _ h; omega
 | succ j ih =>
  intro i hj hi
  have h1 := h.pt (j + 1) hj
  simp only [prevTag] at h1
  by_cases e : i = j
  ·subst e; exact h1
  ·have := ih i (by omega) (by omega); omega
/-- the space of a tag that a space owns -/
theorem GO.space {t : Tg} (h : GO t) {sp : Int} (h0 : 0 ≤ ownF t sp) : (owAt t.o (spF t (owAt t.o (ownF t sp).toNat).tg).toNat).sp = sp := by
 obtain ⟨j, hj, e, hp⟩ := fx_at (p := fun o : Ow => o.sp == sp) h0
 have e' : ownF t sp = (j : Int) := e
 rw [e', Int.toNat_natCast]
 have hsp : (owAt t.o j).sp = sp := by rw [owAt_lt hj]; simpa using hp
 have h1 : 0 ≤ spF t (owAt t.o j).tg := by
  rcases fx_spec (p := fun o : Ow => o.tg == (owAt t.o j).tg) (l := t.o) (i := 0) with ⟨_, hn⟩ | ⟨i, hi, e2, _⟩
  ·have := hn _ (List.getElem_mem hj)
   rw [owAt_lt hj] at this
   simp at this
  ·unfold spF; rw [e2]; omega
 obtain ⟨i, hi, e2, hp2⟩ := fx_at (p := fun o : Ow => o.tg == (owAt t.o j).tg) h1
 have e2' : spF t (owAt t.o j).tg = (i : Int) := e2
 rw [e2', Int.toNat_natCast]
 have ht : (owAt t.o i).tg = (owAt t.o j).tg := by rw [owAt_lt hi]; simpa using hp2
 have : i = j := by
  rcases Nat.lt_trichotomy i j with c | c | c
  ·have := h.mono j i hj c; omega
  ·exact c
  ·have := h.mono i j hi c; omega
 subst this
 exact hsp

/-- a valid line that fits a space and a page says where the page's key lies -/
theorem fits_key {m : Mc} (hM : MO m) {sp pg : Int} (h1 : (tagR m sp pg).2 = true) {j : Nat} (hj : j < m.c.l.length) (hp : fits (tagR m sp pg).1 pg m.c.l[j] = true) :
  0 ≤ findF m.t.f (keyFor sp pg) ∧ findF m.t.f (keyFor sp pg) = (m.c.l[j]).fr ∧ (m.t.f.getD (findF m.t.f (keyFor sp pg)).toNat freeF).r = (m.c.l[j]).ri := by
 unfold fits at hp
 simp only [Bool.and_eq_true, beq_iff_eq, Bool.or_eq_true] at hp
 obtain ⟨⟨hv, hpg⟩, htg⟩ := hp
 have hl := hM.l j hj (by rw [lnAt_lt hj]; exact hv)
 rw [lnAt_lt hj, lineHas_eq] at hl
 simp only [Bool.and_eq_true, keyHas, decide_eq_true_eq, beq_iff_eq] at hl
 have key : keyFor (lineSpace m m.c.l[j]) (m.c.l[j]).pg = keyFor sp pg := by
  rw [hpg]
  unfold tagR at h1 htg
  by_cases h128 : 128 ≤ pg
  ·unfold keyFor; rw [decide_eq_true h128]; rfl
  ·rw [if_neg h128] at h1 htg
   by_cases ho : 0 ≤ ownF m.g sp
   ·rw [if_pos ho] at htg
    have h5 : ((m.c.l[j]).tg == -1) = false := by
     rw [← hl.1.1.1, hpg]; exact decide_eq_false h128
    have h6 : (m.c.l[j]).tg = (owAt m.g.o (ownF m.g sp).toNat).tg := by
     rcases htg with e | e
     ·exact e
     ·rw [e] at h5; simp at h5
    unfold lineSpace
    rw [h5, cof, h6, hM.g.space ho]
   ·rw [if_neg ho] at h1; cases h1
 rw [key] at hl
 exact ⟨hl.2.1.1, hl.2.1.2, hl.2.2⟩
theorem tagR_own {m : Mc} (hM : MO m) (pg : Int) : (tagR m m.s pg).2 = true := by
 unfold tagR
 split
 ·rfl
 ·rw [if_pos hM.s]
def lineFor (m : Mc) (pg : Int) : Ln := ⟨true, (tagR m m.s pg).1, pg, findF m.t.f (keyFor m.s pg), (m.t.f.getD (findF m.t.f (keyFor m.s pg)).toNat freeF).r, false⟩
theorem touch_cases {m : Mc} {pg nd : Int} (h : (touchR m pg nd).2.2.2 = true) : MO m ∧ within pg 256 = true ∧ rightsOk nd = true ∧
  ((0 ≤ fx (fits (tagR m m.s pg).1 pg) m.c.l 0 ∧ 0 ≤ findF m.t.f (keyFor m.s pg) ∧ touchR m pg nd = (m, findF m.t.f (keyFor m.s pg), cond (allowsR (m.t.f.getD (findF m.t.f (keyFor m.s pg)).toNat freeF).r nd) 1 4, true)) ∨
   (fx (fits (tagR m m.s pg).1 pg) m.c.l 0 < 0 ∧ findF m.t.f (keyFor m.s pg) < 0 ∧ touchR m pg nd = (m, 0, 3, true)) ∨
   (fx (fits (tagR m m.s pg).1 pg) m.c.l 0 < 0 ∧ 0 ≤ findF m.t.f (keyFor m.s pg) ∧ touchR m pg nd = (⟨m.t, fillC m.c (lineFor m pg), m.g, m.s⟩, findF m.t.f (keyFor m.s pg), cond (allowsR (m.t.f.getD (findF m.t.f (keyFor m.s pg)).toNat freeF).r nd) 2 4, true))) := by
 unfold touchR at h ⊢
 split
 ·rename_i c
  simp only [Bool.and_eq_true] at c
  have hM := machineOk_iff.1 c.1.1
  refine ⟨hM, c.1.2, c.2, ?_⟩
  by_cases h1 : 0 ≤ fx (fits (tagR m m.s pg).1 pg) m.c.l 0
  ·left
   obtain ⟨j, hj, e, hp⟩ := fx_at h1
   obtain ⟨a, b, d⟩ := fits_key hM (tagR_own hM pg) hj hp
   refine ⟨h1, a, ?_⟩
   rw [if_pos h1, e, Int.toNat_natCast, lnAt_lt hj, ← b, ← d]
  ·right
   rw [if_neg h1]
   by_cases h2 : findF m.t.f (keyFor m.s pg) < 0
   ·left; rw [if_pos h2]; exact ⟨by omega, h2, rfl⟩
   ·right; rw [if_neg h2]; exact ⟨by omega, by omega, rfl⟩
 ·rename_i hn; rw [if_neg hn] at h; cases h
theorem lineFor_has {m : Mc} (hM : MO m) {pg : Int} (hF : 0 ≤ findF m.t.f (keyFor m.s pg)) (c : Ca) : lineHas ⟨m.t, c, m.g, m.s⟩ (lineFor m pg) = true ∧ lineOk (lineFor m pg) = within pg 256 ∧ ((lineFor m pg).tg = -1 → 128 ≤ pg) := by
 obtain ⟨j, hj⟩ : ∃ j : Nat, findF m.t.f (keyFor m.s pg) = j := ⟨(findF m.t.f (keyFor m.s pg)).toNat, by omega⟩
 obtain ⟨hb, hu, hk⟩ := found_key hj
 have hfr := hM.t.fr _ (List.getElem_mem hb)
 have hr : rightsOk m.t.f[j].r = true := by
  unfold frameOk at hfr
  rw [hu] at hfr
  simp only [if_true, Bool.and_eq_true] at hfr
  exact hfr.2
 have hw : within (j : Int) 16 = true := within_iff.2 ⟨by omega, by have := hM.t.f2; omega⟩
 have gD : m.t.f.getD j freeF = m.t.f[j] := by simp [hb]
 by_cases h128 : 128 ≤ pg
 ·have et : tagR m m.s pg = (-1, true) := by unfold tagR; rw [if_pos h128]
  have ek : keyFor 0 pg = keyFor m.s pg := by unfold keyFor; rw [decide_eq_true h128]; rfl
  refine ⟨?_, ?_, fun _ => h128⟩
  ·rw [lineHas_eq]
   simp only [lineFor, et, lineSpace, beq_self_eq_true, cot, keyHas, ek, decide_eq_true h128, decide_eq_true hF, Bool.true_or, Bool.or_true, Bool.and_self]
  ·simp only [lineOk, lineFor, et, cot, hj, Int.toNat_natCast, gD, hr, hw, Bool.and_true]
   rfl
 ·have ho := hM.s
  obtain ⟨i, hi, e, hp⟩ := fx_at (p := fun o : Ow => o.sp == m.s) ho
  have e' : ownF m.g m.s = (i : Int) := e
  have h0 : 0 ≤ (owAt m.g.o i).tg := by have := hM.g.ge i hi; omega
  have h8 : (owAt m.g.o i).tg < 8 := by have := hM.g.tn i hi; have := hM.g.n2; have := hM.g.c2; omega
  have et : tagR m m.s pg = ((owAt m.g.o i).tg, true) := by unfold tagR; rw [if_neg h128, if_pos ho, e', Int.toNat_natCast]
  have hn1 : ((owAt m.g.o i).tg == -1) = false := by rw [beq_eq_false_iff_ne]; omega
  have hsp := hM.g.space ho
  rw [e', Int.toNat_natCast] at hsp
  have hs0 : 0 ≤ spF m.g (owAt m.g.o i).tg := by
   rcases fx_spec (p := fun o : Ow => o.tg == (owAt m.g.o i).tg) (l := m.g.o) (i := 0) with ⟨_, hn⟩ | ⟨q, hq, e2, _⟩
   ·have := hn _ (List.getElem_mem hi)
    rw [owAt_lt hi] at this
    simp at this
   ·unfold spF; rw [e2]; omega
  refine ⟨?_, ?_, fun h => ?_⟩
  ·rw [lineHas_eq]
   simp only [lineFor, et, lineSpace, hn1, cof, keyHas, hsp, decide_eq_false h128, decide_eq_true hF, decide_eq_true hs0, beq_self_eq_true, Bool.not_false, Bool.true_or, Bool.or_true, Bool.and_self]
  ·simp only [lineOk, lineFor, et, cot, hj, Int.toNat_natCast, gD, hr, hw, Bool.and_true, tagIn]
   rw [decide_eq_true (by omega : -1 ≤ (owAt m.g.o i).tg), decide_eq_true h8]
   rfl
  ·simp only [lineFor, et] at h
   omega
theorem fill_MO {m : Mc} (hM : MO m) {pg : Int} (hp : within pg 256 = true) (hn : fx (fits (tagR m m.s pg).1 pg) m.c.l 0 < 0) (hF : 0 ≤ findF m.t.f (keyFor m.s pg)) : MO ⟨m.t, fillC m.c (lineFor m pg), m.g, m.s⟩ := by
 obtain ⟨a, b, d⟩ := lineFor_has hM hF (fillC m.c (lineFor m pg))
 have hC : CO (fillC m.c (lineFor m pg)) := fill_ok hM.c (by rw [b]; exact hp) rfl hn (fun i hi hv hpg ht => by
  have h128 := d ht
  have hl := hM.l i hi hv
  rw [lineHas_eq] at hl
  simp only [Bool.and_eq_true, beq_iff_eq] at hl
  have h5 := hl.1.1.1
  rw [hpg] at h5
  have : (lineFor m pg).pg = pg := rfl
  rw [this, decide_eq_true h128] at h5
  simpa using h5.symm)
 refine ⟨hM.t, hC, hM.g, hM.s, hM.f, fun i hi hv => ?_⟩
 simp only [fillC, List.length_set] at hi hv ⊢
 rw [lnAt_set hi] at hv ⊢
 by_cases e : vict m.c = i
 ·rw [if_pos e]; exact a
 ·rw [if_neg e] at hv ⊢
  exact hM.l i hi hv
theorem touch_MO {m : Mc} {pg nd : Int} (h : (touchR m pg nd).2.2.2 = true) : MO (touchR m pg nd).1 := by
 obtain ⟨hM, h1, h2, ⟨_, _, e⟩ | ⟨_, _, e⟩ | ⟨a, b, e⟩⟩ := touch_cases h
 ·rw [e]; exact hM
 ·rw [e]; exact hM
 ·rw [e]; exact fill_MO hM h1 a b




theorem wire_MO {m : Mc} {pg : Int} (h : (wireR m pg).2 = true) : MO (wireR m pg).1 := by
 unfold wireR at h ⊢
 split
 ·rename_i c
  simp only [Bool.and_eq_true] at c
  obtain ⟨⟨⟨c1, c2⟩, c3⟩, c4⟩ := c
  have hM := touch_MO c1
  generalize touchR m pg 0 = t at c1 c2 c4 hM ⊢
  generalize hp : fx (fits (-1) pg) t.1.c.l 0 = pl at c4 ⊢
  unfold wireLR at c4 ⊢
  split
  ·rename_i q
   simp only [Bool.and_eq_true, within_iff] at q
   obtain ⟨⟨⟨q1, q2⟩, q3⟩, q4⟩ := q
   obtain ⟨i, rfl⟩ : ∃ i : Nat, pl = i := ⟨pl.toNat, by omega⟩
   rw [Int.toNat_natCast] at q3 q4 ⊢
   obtain ⟨j, hj, ej, hfit⟩ := fx_at (p := fits (-1) pg) (l := t.1.c.l) (by rw [hp]; omega)
   have hij : j = i := by rw [hp] at ej; omega
   subst hij
   have htg : (lnAt t.1.c.l j).tg = -1 := by
    rw [lnAt_lt hj]
    unfold fits at hfit
    simp only [Bool.and_eq_true, Bool.or_eq_true, beq_iff_eq] at hfit
    rcases hfit.2 with e | e <;> exact e
   refine ⟨hM.t, cacheOk_iff.1 q4, hM.g, hM.s, hM.f, fun x hx hv => ?_⟩
   simp only [wireC, List.length_set] at hx hv ⊢
   rw [lnAt_set hx] at hv ⊢
   by_cases e : j = x
   ·subst e
    rw [if_pos rfl] at hv ⊢
    have hl := hM.l j hj hv
    rw [lineHas_eq] at hl ⊢
    simp only [htg, lineSpace, beq_self_eq_true, cot] at hl ⊢
    simp only [Bool.and_eq_true, Bool.or_eq_true, keyHas, beq_iff_eq, decide_eq_true_eq] at hl ⊢
    exact ⟨⟨⟨hl.1.1.1, .inr trivial⟩, .inl trivial⟩, hl.2⟩
   ·rw [if_neg e] at hv ⊢
    exact hM.l x hx hv
  ·rename_i hn; rw [if_neg hn] at c4; cases c4
 ·rename_i hn; rw [if_neg hn] at h; cases h
theorem MO.sz {m : Mc} (h : MO m) : SzM m := by
 obtain ⟨a, b, c, d⟩ := h.small
 exact ⟨h.t.b1, a, b, c, by omega⟩

theorem drawWire_eq (hf : 1048576 < fl) (l : List UInt8) : ∃ m pg, s_DrawWirePage fl l = some (m, pg) ∧ mcN m ≤ 1000 := by
 unfold s_DrawWirePage
 have hl : (l.take 2000).length ≤ 2000 := by simp; omega
 obtain ⟨m, e, s, _⟩ := case6_eq hf l
 rw [e]
 simp only [obs]
 obtain ⟨x, _, e2⟩ := num_eq (fl := fl) (p := 0) (L := [200, 201, 200, 1, 256]) (by omega) (by omega) hl (by simp)
 rw [e2]
 simp only [obs]
 exact ⟨_, _, rfl, s⟩
theorem takeTag_le {t : Tg} {sp : Int} (h : (takeTagR t sp).2.2.2 = true) : t.r ≤ (takeTagR t sp).1.r := by
 unfold takeTagR at h ⊢
 split
 ·rename_i c1
  rw [if_pos c1] at h
  split
  ·exact Int.le_refl _
  ·rename_i c2
   rw [if_neg c2] at h
   split
   ·rename_i c3
    rw [if_pos c3] at h
    split
    ·rename_i c4; rw [if_pos c4] at h; cases h
    ·simp only []; omega
   ·exact Int.le_refl _
 ·rename_i c1; rw [if_neg c1] at h; cases h
theorem and_zero : ∀ a : Fin 8, (bAnd ((a.val : Nat) : Int) 0 == 0) = true := by decide +kernel
theorem allows0 {r : Int} (h : rightsOk r = true) : allowsR r 0 = true := by
 have hw := within_iff.1 h
 obtain ⟨n, rfl⟩ : ∃ n : Nat, r = n := ⟨r.toNat, by omega⟩
 have := and_zero ⟨n, by omega⟩
 unfold allowsR
 rw [h, this]
 rfl
/-- a machine with a line for a shared page -/
structure Keeps (r0 pg : Int) (y : Mc) : Prop where
 mo : MO y
 r : r0 ≤ y.g.r
 f : 0 ≤ fx (fits (-1) pg) y.c.l 0
theorem fits_shared {pg : Int} {x : Ln} (h : fits (-1) pg x = true) : x.tg = -1 := by
 unfold fits at h
 simp only [Bool.and_eq_true, Bool.or_eq_true, beq_iff_eq] at h
 rcases h.2 with e | e <;> exact e
theorem Keeps.enter {r0 pg sp : Int} {y : Mc} (h : Keeps r0 pg y) (he : (enterR y sp).2 = true) : Keeps r0 pg (enterR y sp).1 := by
 obtain ⟨_, h2, h3⟩ := enterR_yes he
 have hr := takeTag_le h2
 refine ⟨(enter_ok he).1, ?_, ?_⟩
 ·rw [h3]; have := h.r; simp only []; omega
 ·rw [h3]
  obtain ⟨j, hj, _, hp⟩ := fx_at h.f
  simp only []
  apply Int.not_lt.1
  intro hn
  have := fx_none hn (frL (takeTagR y.g sp).2.2.1 y.c.l[j]) (List.mem_map.2 ⟨_, List.getElem_mem hj, rfl⟩)
  have e : frL (takeTagR y.g sp).2.2.1 y.c.l[j] = y.c.l[j] := by
   unfold frL
   rw [fits_shared hp]
   simp
  rw [e, hp] at this
  cases this
theorem Keeps.hit {r0 pg : Int} {y : Mc} (h : Keeps r0 pg y) (h1 : ¬ pg < 128) (h2 : within pg 256 = true) : (touchR y pg 0).2.2.1 = 1 ∧ (touchR y pg 0).2.2.2 = true := by
 obtain ⟨j, hj, e, hp⟩ := fx_at h.f
 have hl := h.mo.c.ok j hj
 rw [lnAt_lt hj] at hl
 have hv : y.c.l[j].va = true := by unfold fits at hp; simp only [Bool.and_eq_true] at hp; exact hp.1.1
 unfold lineOk at hl
 rw [hv, cot] at hl
 simp only [Bool.and_eq_true] at hl
 have ht : (tagR y y.s pg).1 = -1 := by unfold tagR; rw [if_pos (by omega)]
 unfold touchR
 rw [if_pos (by rw [machineOk_iff.2 h.mo, h2]; rfl), ht, if_pos h.f, e, Int.toNat_natCast, lnAt_lt hj, allows0 hl.2]
 exact ⟨rfl, rfl⟩
theorem wire_keeps {m : Mc} {pg : Int} (h : (wireR m pg).2 = true) : Keeps (wireR m pg).1.g.r pg (wireR m pg).1 ∧ ¬ pg < 128 ∧ within pg 256 = true := by
 have hM := wire_MO h
 refine ⟨⟨hM, Int.le_refl _, ?_⟩, ?_⟩
 ·unfold wireR at h ⊢
  split
  ·rename_i c
   simp only [Bool.and_eq_true] at c
   obtain ⟨_, c4⟩ := c
   generalize touchR m pg 0 = t at c4 ⊢
   generalize hp : fx (fits (-1) pg) t.1.c.l 0 = pl at c4 ⊢
   unfold wireLR at c4 ⊢
   split
   ·rename_i q
    simp only [Bool.and_eq_true, within_iff] at q
    obtain ⟨⟨⟨q1, q2⟩, q3⟩, q4⟩ := q
    obtain ⟨j, hj, ej, hfit⟩ := fx_at (p := fits (-1) pg) (l := t.1.c.l) (by rw [hp]; omega)
    have hij : pl.toNat = j := by rw [hp] at ej; omega
    rw [hij]
    simp only [wireC]
    apply Int.not_lt.1
    intro hn
    have := fx_none hn _ (List.mem_iff_getElem.2 ⟨j, by simpa using hj, rfl⟩)
    simp only [List.getElem_set_self, lnAt_lt hj] at this
    unfold fits at this hfit
    simp only [] at this
    rw [hfit] at this
    cases this
   ·rename_i hn; rw [if_neg hn] at c4; cases c4
  ·rename_i hn; rw [if_neg hn] at h; cases h
 ·unfold wireR at h
  split at h
  ·rename_i c
   simp only [Bool.and_eq_true, Bool.not_eq_true', decide_eq_false_iff_not] at c
   exact ⟨c.1.2, (touch_cases c.1.1.1).2.1⟩
  ·cases h
theorem wireLoop {r0 pg : Int} (hf : 1048576 < fl) : ∀ (fuel n : Nat) (y : Mc), n ≤ 13 → 13 - n < fuel → Keeps r0 pg y →
  ∃ (z : Mc) (k : Int), l_FnWirePage_L0 fl fuel y.t.b y.t.f y.c.l y.c.h y.g.c y.g.n y.g.r y.g.o y.s n = some (.out (z.t.b, z.t.f, z.c.l, z.c.h, z.g.c, z.g.n, z.g.r, z.g.o, z.s, k)) ∧ Keeps r0 pg z := by
 intro fuel
 induction fuel with
 | zero => intro n y _ h; omega
 | succ fuel ih =>
  intro n y hn hfu hy
  rw [l_FnWirePage_L0.eq_2]
  by_cases h : n < 13
  ·rw [decide_eq_true (by omega : (n : Int) < 13), cot]
   have e : i_EnterSpace fl (⟨(⟨y.t.b, y.t.f⟩ : T), (⟨y.c.l, y.c.h⟩ : Ca), (⟨y.g.c, y.g.n, y.g.r, y.g.o⟩ : Tg), y.s⟩ : Mc) n = some (enterR y n) := iEnter_eq (m := y) hy.mo.sz.n hf
   rw [e]
   simp only [obs]
   cases he : (enterR y n).2 with
   | false => exact ⟨y, n, rfl, hy⟩
   | true =>
    rw [Bool.not_true, cof, ck_succ (by omega)]
    simp only [obs]
    exact ih (n + 1) _ (by omega) (by omega) (hy.enter he)
  ·rw [decide_eq_false (by omega), cof]
   exact ⟨y, n, rfl, hy⟩
theorem wirePage_true (l : List UInt8) : l_FnWirePage 1048577 l = some true := by
 have hf : 1048576 < 1048577 := by decide
 generalize hfl : 1048577 = fl at hf
 unfold l_FnWirePage
 by_cases hbig : 1048576 < (l.length : Int)
 ·rw [decide_eq_true hbig, cot]
 rw [decide_eq_false hbig, cof]
 obtain ⟨m, pg, e, hl⟩ := drawWire_eq hf l
 rw [e]
 simp only [obs]
 rw [iWire_eq (by omega) hf]
 simp only [obs]
 rw [sWire_eq (by omega) hf]
 simp only [obs]
 have hN : mcN (wireR m pg).1 ≤ 1048576 := wireR_len (by omega)
 rw [sameN hN hf]
 simp only [obs, Bool.not_true, cof, bne_self_eq_false, beq_self_eq_true, cot]
 cases hy : (wireR m pg).2 with
 | false => simp only [Bool.not_false, cot, obs]
 | true =>
  simp only [Bool.not_true, cof, obs]
  obtain ⟨hK, h1, h2⟩ := wire_keeps hy
  obtain ⟨z, k, ez, hz⟩ := wireLoop (fl := fl) hf fl 4 _ (by omega) (by omega) hK
  rw [show ((4 : Nat) : Int) = 4 from rfl] at ez
  rw [ez]
  simp only [obs]
  have et : i_TouchPage fl (⟨(⟨z.t.b, z.t.f⟩ : T), (⟨z.c.l, z.c.h⟩ : Ca), (⟨z.g.c, z.g.n, z.g.r, z.g.o⟩ : Tg), z.s⟩ : Mc) pg 0 = some (touchR z pg 0) := iTouch_eq (m := z) hz.mo.sz.n hf
  rw [et]
  simp only [obs]
  rw [iMachine_eq hN hf]
  simp only [obs]
  obtain ⟨t1, t2⟩ := hz.hit h1 h2
  rw [machineOk_iff.2 hK.mo, t1, t2, decide_eq_true hz.r]
  rfl
end Go.Proofs.YtcloffimpakmnaaGreatDoor
