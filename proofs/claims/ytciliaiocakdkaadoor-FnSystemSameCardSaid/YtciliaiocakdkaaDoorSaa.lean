/- The plain laws that systemSame_true rests on. -/
import Derived.Test.YtciliaiocakdkaaDoorSp
import Derived.Test.YtciliaiocakdkaaDoorPure2
import Derived.Test.YtciliaiocakdkaaDoorCpy
set_option linter.unusedSimpArgs false
set_option linter.unusedVariables false
namespace Go.Proofs.YtciliaiocakdkaaDoor
open Go.RowKit
variable {fl : Nat}
theorem obs {α β : Type} {x : α} {f : α → Option β} : Option.bind (some x) f = f x := by rw [Option.bind_some]
theorem cof {α : Type} {x y : α} : cond false x y = y := by rw [cond_false]
theorem cot {α : Type} {x y : α} : cond true x y = x := by rw [cond_true]
theorem c1 (n : Nat) (h : n ≤ 16777216) : ck ((n : Int) + 1) = some ((n + 1 : Nat) : Int) := by rw [ck_in (by omega)]; rfl
theorem ck_succ {n : Nat} (h : n ≤ 2097152) : ck ((n : Int) + 1) = some ((n + 1 : Nat) : Int) := by rw [ck_in (by omega)]; rfl

theorem mkO_nat {n : Nat} (h : n ≤ 1048576) : mkO (n : Int) = some n := by
 unfold mkO; rw [if_pos (by simp [maxLen]; omega)]; simp

theorem within_eq (a b : Int) : i_within fl a b = some (within a b) := by
 unfold i_within within; cases decide (0 ≤ a) <;> rfl
theorem iKey_eq (k : K) : i_KeyValid fl k = some (keyOk k) := by
 unfold i_KeyValid keyOk; rw [within_eq, within_eq]; cases within k.s 16 <;> rfl
theorem sKey_eq (k : K) : s_KeyValid fl k = some (keyOk k) := by
 unfold s_KeyValid keyOk s_l1Space s_l1Page within
 cases decide (0 ≤ k.s) <;> cases decide (k.s < 16) <;> cases decide (0 ≤ k.p) <;> rfl
theorem sRights_eq (r : Int) : s_RightsValid fl r = some (rightsOk r) := by
 unfold s_RightsValid rightsOk within
 rw [show decide (r ≤ 7) = decide (r < 8) from by congr 1; apply propext; omega]
 cases decide (0 ≤ r) <;> rfl
theorem hash_bd {k : K} (hk : keyOk k = true) : 0 ≤ k.s * 256 ∧ k.s * 256 ≤ 3840 ∧ 0 ≤ k.s * 256 + k.p ∧ k.s * 256 + k.p ≤ 4095 := by
 rw [keyOk_iff] at hk; omega
theorem sHash_eq {k : K} {n : Int} (hk : keyOk k = true) (h1 : 1 ≤ n) (h2 : n ≤ 16) : s_l2Hash fl k n = some (hashI k n) := by
 obtain ⟨b1, b2, b3, b4⟩ := hash_bd hk
 unfold s_l2Hash hashI
 generalize hz : k.s * 256 + k.p = z at *
 rw [ck_in (by omega)]; simp only [obs]
 rw [hz, ck_in (by omega)]; simp only [obs]
 rw [ck_in (by omega)]; simp only [obs]
 have e1 : remO (z * 2654435761) 4294967296 = some (z * 2654435761 % 4294967296) := by
  unfold remO; rw [if_neg (by decide), Int.tmod_eq_emod_of_nonneg (by omega)]
 rw [e1]; simp only [obs]
 generalize hy : z * 2654435761 % 4294967296 = y
 have y1 : 0 ≤ y ∧ y < 4294967296 := by omega
 have y2 : 0 ≤ y * n := Int.mul_nonneg y1.1 (by omega)
 have y3 : y * n ≤ 4294967296 * 16 := Int.mul_le_mul (by omega) h2 (by omega) (by omega)
 rw [ck_in (by omega)]; simp only [obs]
 have e2 : quoO (y * n) 4294967296 = some (y * n / 4294967296) := by
  unfold quoO; rw [if_neg (by decide), Int.tdiv_eq_ediv_of_nonneg y2, ck_in (by omega)]
 rw [e2]; simp only [obs]
/-! ### copies -/
theorem copy_eq {t : T} (h : t.b.length + t.f.length ≤ 1048576) : s_l3Copy fl t = some t := by
 unfold s_l3Copy
 rw [cnt_in (by simp; omega), cnt_in (by simp; omega)]; simp only [obs, List.nil_append]

/-! ### the place of a key -/
theorem find1_eq (f : F) (k : K) : i_Table_find_1 fl f k = some (hasKey k f) := by
 unfold i_Table_find_1 hasKey
 rw [show (f.k == k) = decide (f.k = k) from rfl]
 cases f.u <;> simp
theorem indexFind_L0 {l : List F} {k : K} (hl : l.length ≤ 1048576) : ∀ (fuel i : Nat), i ≤ l.length → l.length - i < fuel → (∀ j, (h : j < l.length) → j < i → hasKey k l[j] = false) →
  (slices_IndexFunc_Frame_of_i_Table_find_1_L0 fl l k fuel i = some (.ret (findF l k))) ∨ (slices_IndexFunc_Frame_of_i_Table_find_1_L0 fl l k fuel i = some (.out (l.length : Int)) ∧ findF l k = -1) := by
 intro fuel
 induction fuel with
 | zero => intro i _ h _; omega
 | succ fuel ih =>
  intro i hi hf ht
  rw [slices_IndexFunc_Frame_of_i_Table_find_1_L0.eq_2]
  by_cases h : i < l.length
  ·rw [decide_eq_true (by omega : (i : Int) < (l.length : Int)), cot, idx_nat h]
   simp only [obs, find1_eq]
   cases hk : hasKey k l[i] with
   | true => left; rw [cot, findF_some h hk (fun j hj => ht j (by omega) hj)]
   | false =>
    rw [cof, ck_succ (by omega)]
    simp only [obs]
    refine ih (i + 1) (by omega) (by omega) fun j hj hji => ?_
    by_cases e : j = i
    ·subst e; exact hk
    ·exact ht j hj (by omega)
  ·have e : i = l.length := by omega
   subst e
   right
   simp only [Int.lt_irrefl, decide_false, cof]
   exact ⟨trivial, findF_none fun j hj => ht j hj hj⟩
theorem find_eq {t : T} {k : K} (hl : t.f.length ≤ 1048576) (hf : 1048576 < fl) : i_Table_find fl t k = some (findF t.f k) := by
 unfold i_Table_find slices_IndexFunc_Frame_of_i_Table_find_1
 rcases indexFind_L0 (fl := fl) (l := t.f) (k := k) hl fl 0 (by omega) (by omega) (fun j _ hj => by omega) with h | ⟨h, e⟩
 ·rw [show ((0 : Nat) : Int) = 0 from rfl] at h
  rw [h]; simp only [obs]
 ·rw [show ((0 : Nat) : Int) = 0 from rfl] at h
  rw [h]; simp only [obs, e]

/-! ### a chain -/
theorem chain_L0 {t : T} {b : Nat} (hl : t.f.length ≤ 1048576) : ∀ (fuel : Nat) (L : List Int) (i : Int), L.length ≤ t.f.length → t.f.length - L.length < fuel → PathL t b L i →
  s_l3Chain_L0 fl t fuel L i = some (.ret (chainL t b)) ∧ (chainL t b).2 = false ∨ s_l3Chain_L0 fl t fuel L i = some (.out ((chainL t b).1, -1)) ∧ (chainL t b).2 = true := by
 intro fuel
 induction fuel with
 | zero => intro L i _ h _; omega
 | succ fuel ih =>
  intro L i hL hf hp
  rw [s_l3Chain_L0.eq_2]
  by_cases h1 : i = -1
  ·subst h1
   right
   rw [hp.fin]
   simp
  ·rw [show (i != -1) = true from by simpa using h1, cot]
   by_cases h2 : i < 0
   ·left
    rw [decide_eq_true h2]
    simp only [cot, obs]
    rw [hp.out h1 (fun j e => by omega)]
    exact ⟨rfl, rfl⟩
   rw [decide_eq_false h2]
   simp only [cof, obs]
   by_cases h3 : (t.f.length : Int) ≤ i
   ·left
    rw [decide_eq_true h3]
    simp only [cot, obs]
    rw [hp.out h1 (fun j e hj => by omega)]
    exact ⟨rfl, rfl⟩
   rw [decide_eq_false h3]
   simp only [cof, obs]
   by_cases h4 : (t.f.length : Int) ≤ (L.length : Int)
   ·left
    rw [decide_eq_true h4]
    simp only [cot, obs]
    rw [hp.full h1 (by omega)]
    exact ⟨rfl, rfl⟩
   rw [decide_eq_false h4]
   simp only [cof, obs]
   obtain ⟨j, rfl⟩ : ∃ j : Nat, i = j := ⟨i.toNat, by omega⟩
   have hj : j < t.f.length := by omega
   rw [idx_nat hj]
   simp only [obs]
   cases hu : t.f[j].u with
   | false =>
    left
    simp only [Bool.not_false, cot]
    rw [hp.out h1 (fun j' e hj' hu' => by
     have : j' = j := by omega
     subst this
     rw [hu] at hu'; cases hu')]
    exact ⟨rfl, rfl⟩
   | true =>
    simp only [Bool.not_true, cof]
    rw [cnt_in (by simp; omega)]
    simp only [obs]
    exact ih _ _ (by simp; omega) (by simp; omega) (hp.step (by omega) hj hu)
theorem chain_eq {t : T} {b : Nat} (hb : b < t.b.length) (hl : t.f.length ≤ 1048576) (hf : 1048576 < fl) : s_l3Chain fl t (b : Int) = some (chainL t b) := by
 unfold s_l3Chain
 rw [idx_nat hb]
 simp only [obs]
 rcases chain_L0 (fl := fl) hl fl [] t.b[b] (by simp) (by simp; omega) (PathL.start hb) with ⟨h, e⟩ | ⟨h, e⟩
 ·rw [h]; simp only [obs]
 ·rw [h]; simp only [obs, ← e]

theorem sFind_L0 {t : T} {k : K} (ht : TOk t) (x4 : List Int × Bool) (hm : ∀ x ∈ x4.1, ∃ j : Nat, x = j ∧ ∃ h : j < t.f.length, t.f[j].u = true) (hl : x4.1.length ≤ 1048576) : ∀ (fuel i : Nat), i ≤ x4.1.length → x4.1.length - i < fuel → (∀ j, (h : j < x4.1.length) → j < i → ∀ h : (x4.1[j]).toNat < t.f.length, t.f[(x4.1[j]).toNat].k ≠ k) →
  (∃ s, s_l3Find_L0 fl t k x4 fuel i = some (.ret (findF t.f k, s))) ∨ (s_l3Find_L0 fl t k x4 fuel i = some (.out (x4.1.length : Int)) ∧ ∀ x ∈ x4.1, ∀ h : x.toNat < t.f.length, t.f[x.toNat].k ≠ k) := by
 intro fuel
 induction fuel with
 | zero => intro i _ h _; omega
 | succ fuel ih =>
  intro i hi hf hn
  rw [s_l3Find_L0.eq_2]
  by_cases h : i < x4.1.length
  ·obtain ⟨j, e, hj, hu⟩ := hm x4.1[i] (List.getElem_mem h)
   rw [decide_eq_true (by omega : (i : Int) < (x4.1.length : Int)), cot, idx_nat h]
   simp only [obs, e]
   rw [idx_nat hj]
   simp only [obs]
   by_cases hk : t.f[j].k = k
   ·left
    rw [show (t.f[j].k == k) = true from by simpa using hk, cot, ck_succ (by omega)]
    simp only [obs]
    rw [find_at ht.ks hj hu hk]
    exact ⟨_, rfl⟩
   ·rw [show (t.f[j].k == k) = false from by simpa using hk, cof, ck_succ (by omega)]
    simp only [obs]
    refine ih (i + 1) (by omega) (by omega) fun j' hj' hlt hb => ?_
    by_cases e' : j' = i
    ·subst e'
     have e2 : x4.1[j'].toNat = j := by rw [e]; simp
     simp only [e2]
     exact hk
    ·exact hn j' hj' (by omega) hb
  ·have e : i = x4.1.length := by omega
   subst e
   right
   simp only [Int.lt_irrefl, decide_false, cof]
   refine ⟨trivial, fun x hx hb => ?_⟩
   obtain ⟨j, hj, rfl⟩ := List.getElem_of_mem hx
   exact hn j hj hj hb
theorem sFind_eq {t : T} {k : K} (ht : TOk t) (hk : keyOk k = true) (hf : 1048576 < fl) : ∃ s, s_l3Find fl t k = some (findF t.f k, s) := by
 have h1 := ht.f1
 have h2 := ht.f2
 have h3 := ht.b1
 have h4 := ht.b2
 obtain ⟨hb, he⟩ := bucketT_lt hk h3 h4
 unfold s_l3Find
 rw [sHash_eq hk (by omega) (by omega)]
 simp only [obs, he]
 rw [chain_eq hb (by omega) hf]
 simp only [obs]
 have hlen := chainL_len (t := t) (b := bucketT t k)
 rcases sFind_L0 (fl := fl) (k := k) ht (chainL t (bucketT t k)) chainL_mem (by omega) fl 0 (by omega) (by omega) (fun j _ hj => by omega) with ⟨s, h⟩ | ⟨h, hn⟩
 ·rw [show ((0 : Nat) : Int) = 0 from rfl] at h
  rw [h]; simp only [obs]
  exact ⟨s, rfl⟩
 ·rw [show ((0 : Nat) : Int) = 0 from rfl] at h
  rw [h]; simp only [obs]
  rw [ht.none hb (L := (chainL t (bucketT t k)).1) (ok := (chainL t (bucketT t k)).2) rfl hn]
  exact ⟨_, rfl⟩
theorem sFindPage_eq {t : T} {k : K} (hf : 1048576 < fl) : ∃ a s, s_FindPage fl t k = some (a, s, tableOk t && keyOk k && decide (0 ≤ findF t.f k)) ∧ ((tableOk t && keyOk k && decide (0 ≤ findF t.f k)) = true → a = findF t.f k) := by
 unfold s_FindPage s_TableValid
 simp only [obs, sKey_eq]
 cases h1 : tableOk t with
 | false => simp [obs]
 | true =>
  cases h2 : keyOk k with
  | false => simp [obs]
  | true =>
   simp only [Bool.not_true, cof, obs]
   obtain ⟨s, h⟩ := sFind_eq (fl := fl) (tableOk_iff.1 h1) h2 hf
   rw [h]
   simp only [obs]
   by_cases h3 : findF t.f k < 0
   ·rw [decide_eq_true h3, cot]
    exact ⟨0, s, by simp [h3], by simp; omega⟩
   ·rw [decide_eq_false h3, cof]
    exact ⟨findF t.f k, s, by simp; omega, fun _ => rfl⟩

noncomputable def mapR (t : T) (k : K) (fr r : Int) : T × Bool :=
 if tableOk t && keyOk k && decide (findF t.f k < 0) && within fr t.f.length && !(t.f.getD fr.toNat freeF).u && rightsOk r then (mapT t k fr.toNat r, true) else (⟨[], []⟩, false)
theorem mapR_no {t : T} {k : K} {fr r : Int} (h : (tableOk t && keyOk k && decide (findF t.f k < 0) && within fr t.f.length && !(t.f.getD fr.toNat freeF).u && rightsOk r) = false) : mapR t k fr r = (⟨[], []⟩, false) := by
 unfold mapR; rw [h]; rfl
theorem mapR_yes {t : T} {k : K} {fr r : Int} (h : (tableOk t && keyOk k && decide (findF t.f k < 0) && within fr t.f.length && !(t.f.getD fr.toNat freeF).u && rightsOk r) = true) : mapR t k fr r = (mapT t k fr.toNat r, true) := by
 unfold mapR; rw [h]; rfl
theorem sMapIn_eq {t : T} {k : K} {fr : Nat} {r : Int} (ht : TOk t) (hk : keyOk k = true) (hf : fr < t.f.length) : s_l3Map fl t k fr r = some (mapT t k fr r) := by
 have h2 := ht.f2
 have h3 := ht.b1
 have h4 := ht.b2
 obtain ⟨hb, he⟩ := bucketT_lt hk h3 h4
 unfold s_l3Map mapT
 rw [copy_eq (by omega)]
 simp only [obs]
 rw [sHash_eq hk (by omega) (by omega)]
 simp only [obs, he]
 rw [idx_nat hb, idx_nat hf]
 simp [obs, hb]
theorem sMap_eq {t : T} {k : K} {fr r : Int} (hf : 1048576 < fl) : s_MapPage fl t k fr r = some (mapR t k fr r) := by
 unfold s_MapPage s_TableValid
 simp only [obs, sKey_eq, sRights_eq]
 cases h1 : tableOk t with
 | false => rw [mapR_no (by simp [h1])]; simp [obs]
 | true =>
  cases h2 : keyOk k with
  | false => rw [mapR_no (by simp [h2])]; simp [obs]
  | true =>
   simp only [Bool.not_true, cof, obs]
   cases h6 : rightsOk r with
   | false => rw [mapR_no (by simp [h6])]; simp [obs]
   | true =>
    simp only [Bool.not_true, cof, obs]
    by_cases c1 : fr < 0
    ·rw [mapR_no (by simp [within, show ¬ (0 ≤ fr) from by omega])]; simp [obs, decide_eq_true c1]
    rw [decide_eq_false c1]
    simp only [cof, obs]
    by_cases c2 : (t.f.length : Int) ≤ fr
    ·rw [mapR_no (by simp [within, show ¬ (fr < (t.f.length : Int)) from by omega])]; simp [obs, decide_eq_true c2]
    rw [decide_eq_false c2]
    simp only [cof, obs]
    obtain ⟨i, rfl⟩ : ∃ i : Nat, fr = i := ⟨fr.toNat, by omega⟩
    have hi : i < t.f.length := by omega
    rw [idx_nat hi]
    simp only [obs]
    cases h5 : t.f[i].u with
    | true => rw [mapR_no (by simp [hi, h5])]; simp [obs]
    | false =>
     simp only [cof, obs]
     have ht := tableOk_iff.1 h1
     obtain ⟨s, h⟩ := sFind_eq (fl := fl) ht h2 hf
     rw [h]
     simp only [obs]
     by_cases h3 : 0 ≤ findF t.f k
     ·rw [mapR_no (by simp [show ¬ (findF t.f k < 0) from by omega])]; simp [obs, decide_eq_true h3]
     ·rw [decide_eq_false h3]
      simp only [cof, obs]
      rw [sMapIn_eq ht h2 hi]
      simp only [obs]
      rw [mapR_yes (by simp [h1, h2, h6, hi, h5, within]; omega)]
      rfl

def unlF (i nx : Int) (g : F) : F := if g.u && g.nx == i then ⟨g.u, g.k, g.r, nx⟩ else g
def unl (f : List F) (i nx : Int) : List F := f.map (unlF i nx)
theorem unl_len (f : List F) (i nx : Int) : (unl f i nx).length = f.length := by simp [unl]
def unmapT (t : T) (i : Nat) : T :=
 if t.b.getD (bucketT t (t.f.getD i freeF).k) (-1) == (i : Int) then ⟨t.b.set (bucketT t (t.f.getD i freeF).k) (t.f.getD i freeF).nx, t.f.set i freeF⟩
 else ⟨t.b, (unl t.f i (t.f.getD i freeF).nx).set i freeF⟩
noncomputable def unmapR (t : T) (k : K) : T × Bool :=
 if tableOk t && keyOk k && decide (0 ≤ findF t.f k) then (unmapT t (findF t.f k).toNat, true) else (⟨[], []⟩, false)
theorem sUn_L0 {t : T} {i : Nat} {x13 : F} (hl : t.f.length ≤ 1048576) (hi : i < t.f.length) (hs : (t.f[i].u && t.f[i].nx == (i : Int)) = false) : ∀ (fuel j : Nat) (v : List F), v.length = t.f.length → j ≤ t.f.length → t.f.length - j < fuel → v[i]? = some freeF → (∀ m, m ≠ i → m < j → v[m]? = (unl t.f i x13.nx)[m]?) → (∀ m, m ≠ i → j ≤ m → v[m]? = t.f[m]?) →
  s_l3Unmap_L0 fl t i x13 fuel v j = some (.out ((unl t.f i x13.nx).set i freeF, (t.f.length : Int))) := by
 intro fuel
 induction fuel with
 | zero => intro j v _ _ h _ _ _; omega
 | succ fuel ih =>
  intro j v hv hj hf h0 h1 h2
  rw [s_l3Unmap_L0.eq_2]
  by_cases h : j < t.f.length
  ·have hv' : j < v.length := by omega
   have hu : (unl t.f i x13.nx)[j]? = some (unlF i x13.nx t.f[j]) := by simp [unl, h]
   rw [decide_eq_true (by omega : (j : Int) < (t.f.length : Int)), cot, idx_nat h, idx_nat hv', ck_succ (by omega)]
   simp only [obs]
   have hcc : (cond t.f[j].u (some (t.f[j].nx == (i : Int))) (some false) : Option Bool) = some (t.f[j].u && t.f[j].nx == (i : Int)) := by cases t.f[j].u <;> rfl
   rw [hcc]
   simp only [obs]
   by_cases ei : j = i
   ·subst ei
    rw [hs, cof]
    exact ih (j + 1) _ hv (by omega) (by omega) h0 (fun m hm hlt => h1 m hm (by omega)) (fun m hm hle => h2 m hm (by omega))
   have e : v[j] = t.f[j] := by
    have := h2 j ei (Nat.le_refl _)
    rw [List.getElem?_eq_getElem hv', List.getElem?_eq_getElem h] at this
    exact Option.some.inj this
   cases hc : (t.f[j].u && t.f[j].nx == (i : Int)) with
   | true =>
    rw [cot, e]
    refine ih (j + 1) _ (by simp [hv]) (by omega) (by omega) ?_ (fun m hm hlt => ?_) (fun m hm hle => ?_)
    ·rw [Int.toNat_natCast, List.getElem?_set, if_neg ei]; exact h0
    ·rw [Int.toNat_natCast, List.getElem?_set]
     by_cases em : j = m
     ·subst em
      simp only [if_true, hv', hu]
      unfold unlF
      rw [hc]
      simp
     ·rw [if_neg em]; exact h1 m hm (by omega)
    ·rw [Int.toNat_natCast, List.getElem?_set, if_neg (by omega)]
     exact h2 m hm (by omega)
   | false =>
    rw [cof]
    refine ih (j + 1) _ hv (by omega) (by omega) h0 (fun m hm hlt => ?_) (fun m hm hle => h2 m hm (by omega))
    by_cases em : m = j
    ·subst em
     rw [hu, h2 m hm (Nat.le_refl _), List.getElem?_eq_getElem h]
     unfold unlF
     rw [hc]
     simp
    ·exact h1 m hm (by omega)
  ·have e : j = t.f.length := by omega
   subst e
   simp only [Int.lt_irrefl, decide_false, cof]
   have : v = (unl t.f i x13.nx).set i freeF := by
    apply List.ext_getElem?
    intro m
    rw [List.getElem?_set]
    by_cases em : i = m
    ·subst em
     rw [h0, if_pos rfl, if_pos (by rw [unl_len]; exact hi)]
    ·rw [if_neg em]
     by_cases hm : m < t.f.length
     ·exact h1 m (fun x => em x.symm) hm
     ·rw [List.getElem?_eq_none (by omega), List.getElem?_eq_none (by rw [unl_len]; omega)]
   rw [this]
/-- no frame of a valid table follows itself -/
theorem TOk.noself {t : T} (h : TOk t) {i : Nat} (hi : i < t.f.length) (hu : t.f[i].u = true) : t.f[i].nx ≠ (i : Int) := by
 intro e
 obtain ⟨L, hL, hm⟩ := h.inChain hi hu
 obtain ⟨A, B, rfl⟩ := List.append_of_mem hm
 obtain ⟨m, hw⟩ := walk_from hL
 obtain ⟨_, hu', hh⟩ := walk_mem hw i (by simp)
 cases m with
 | zero => simp [walk] at hw
 | succ m =>
  have hw2 := hw
  rw [walk_step hi hu' hh, e] at hw2
  cases hq : walk t.f t.b.length (bucketT t t.f[i].k) m (i : Int) with
  | none => rw [hq] at hw2; cases hw2
  | some Q =>
   rw [hq] at hw2
   simp only [Option.map_some, Option.some.injEq, List.cons.injEq, true_and] at hw2
   have := walk_some hq hw
   rw [hw2] at this
   have := congrArg List.length this
   simp at this
theorem found_key {l : List F} {k : K} {i : Nat} (h : findF l k = (i : Int)) : ∃ hi : i < l.length, l[i].u = true ∧ l[i].k = k := by
 rcases findF_spec l k with ⟨e, _⟩ | ⟨j, hj, e, h2, _⟩
 ·omega
 ·have : i = j := by omega
  subst this
  simp only [hasKey, Bool.and_eq_true, decide_eq_true_eq] at h2
  exact ⟨hj, h2.1, h2.2⟩
theorem sUnmap_eq {t : T} {k : K} (hf : 1048576 < fl) : s_UnmapPage fl t k = some (unmapR t k) := by
 unfold s_UnmapPage unmapR
 obtain ⟨a, s, h, ha⟩ := sFindPage_eq (fl := fl) (t := t) (k := k) hf
 rw [h]
 simp only [obs]
 cases hc : (tableOk t && keyOk k && decide (0 ≤ findF t.f k)) with
 | false => simp [obs]
 | true =>
  rw [ha hc]
  simp only [Bool.not_true, cof, if_true]
  simp only [Bool.and_eq_true, decide_eq_true_eq] at hc
  have ht := tableOk_iff.1 hc.1.1
  have h2 := hc.1.2
  have g2 := ht.f2
  have g3 := ht.b1
  have g4 := ht.b2
  obtain ⟨i, hi⟩ : ∃ i : Nat, findF t.f k = i := ⟨(findF t.f k).toNat, by omega⟩
  obtain ⟨hb', hu, hk⟩ := found_key hi
  obtain ⟨hb, he⟩ := bucketT_lt h2 g3 g4
  rw [hi]
  unfold s_l3Unmap
  rw [copy_eq (by omega)]
  simp only [obs]
  rw [idx_nat hb']
  simp only [obs, hk]
  rw [sHash_eq h2 (by omega) (by omega)]
  simp only [obs, he]
  rw [idx_nat hb]
  simp only [obs, Int.toNat_natCast]
  have gD : t.f.getD i freeF = t.f[i] := by simp [hb']
  have bD : t.b.getD (bucketT t k) (-1) = t.b[bucketT t k] := by simp [hb]
  unfold unmapT
  rw [gD, hk, bD]
  cases hcc : (t.b[bucketT t k] == (i : Int)) with
  | true =>
   simp only [cot, obs, if_true]
   rfl
  | false =>
   rw [cof]
   have hns : (t.f[i].u && t.f[i].nx == (i : Int)) = false := by
    have := ht.noself hb' hu
    simp [this]
   have := sUn_L0 (fl := fl) (t := t) (i := i) (x13 := t.f[i]) (by omega) hb' hns fl 0 (t.f.set i freeF) (by simp) (by omega) (by omega) (by simp [hb']) (fun m hm hlt => by omega) (fun m hm _ => by rw [List.getElem?_set, if_neg (fun x => hm x.symm)])
   rw [show ((0 : Nat) : Int) = 0 from rfl] at this
   simp only [freeF] at this ⊢
   rw [this]
   simp only [obs]
   rfl

theorem takeO_nat {α : Type} {l : List α} {i : Nat} (h : i ≤ l.length) : takeO l (i : Int) = some (l.take i) := by
 unfold takeO; rw [if_pos (by omega)]; simp
/-! ### a new table -/
def newT (n m : Nat) : T := ⟨List.replicate m (-1), List.replicate n freeF⟩
def newTR (n m : Int) : T × Bool := if (decide (1 ≤ n) && decide (n ≤ 16) && decide (1 ≤ m) && decide (m ≤ 16)) = true then (newT n.toNat m.toNat, true) else (⟨[], []⟩, false)

theorem bXor_nn {p q : Int} (h0 : 0 ≤ p) (h1 : p < 4611686018427387904) (h2 : 0 ≤ q) (h3 : q < 4611686018427387904) : 0 ≤ bXor p q := by
 obtain ⟨a, rfl⟩ : ∃ a : Nat, p = a := ⟨p.toNat, by omega⟩
 obtain ⟨b, rfl⟩ : ∃ b : Nat, q = b := ⟨q.toNat, by omega⟩
 have e : ∀ c : Nat, c < 4611686018427387904 → (BitVec.ofInt 64 (c : Int)).toNat = c := fun c hc => by
  rw [BitVec.toNat_ofInt]
  omega
 have ha := e a (by omega)
 have hb := e b (by omega)
 have hx : (BitVec.ofInt 64 (a : Int) ^^^ BitVec.ofInt 64 (b : Int)).toNat < 2 ^ 62 := by
  rw [BitVec.toNat_xor, ha, hb]
  exact Nat.xor_lt_two_pow (by omega) (by omega)
 unfold bXor
 rw [IntWalk.i64_left, IntWalk.wrap64_in _ (by omega)]
 omega
theorem remO_nn {a b : Int} (ha : 0 ≤ a) (hb : 0 < b) : ∃ r, remO a b = some r ∧ 0 ≤ r ∧ r < b := by
 unfold remO
 rw [if_neg (by omega)]
 exact ⟨_, rfl, Int.tmod_nonneg _ ha, Int.tmod_lt_of_pos _ hb⟩
theorem idx_in {α : Type} {l : List α} {i : Int} (h0 : 0 ≤ i) (h1 : i < (l.length : Int)) : ∃ x ∈ l, idx l i = some x := by
 obtain ⟨n, rfl⟩ : ∃ n : Nat, i = n := ⟨i.toNat, by omega⟩
 exact ⟨l[n]'(by omega), List.getElem_mem _, idx_nat (by omega)⟩
theorem u8_lt (x : UInt8) : (x.toNat : Int) ≤ 255 := by have := x.toNat_lt; omega
theorem pick_eq {l : List UInt8} {p n : Int} (hp : 0 ≤ p) (hp2 : p ≤ 1073741824) (hl : l.length ≤ 2000) : ∃ r, s_l12Rd_pick fl l p n = some (r, p + 1) ∧ (1 ≤ n → 0 ≤ r ∧ r < n) ∧ (n < 1 → r = 0) := by
 unfold s_l12Rd_pick
 rw [ck_in (by omega)]
 simp only [obs]
 by_cases hn : n < 1
 ·rw [decide_eq_true hn]
  simp only [cot, obs]
  exact ⟨0, rfl, fun h => by omega, fun _ => rfl⟩
 rw [decide_eq_false hn]
 simp only [cof, obs]
 by_cases hz : l.length = 0
 ·rw [hz]
  simp only [show (((0 : Nat) : Int) == 0) = true from rfl, cot]
  exact ⟨0, rfl, fun h => by omega, fun _ => rfl⟩
 rw [show ((l.length : Int) == 0) = false from by simpa using (fun e => hz (by rw [e]; rfl))]
 simp only [cof]
 rw [show p + 1 - 1 = p from by omega, ck_in (by omega)]
 simp only [obs]
 by_cases hlt : p < (l.length : Int)
 ·rw [decide_eq_true hlt, cot]
  obtain ⟨x, _, hx⟩ := idx_in hp hlt
  rw [hx]
  simp only [obs]
  have := u8_lt x
  rw [ck_in (by omega)]
  simp only [obs]
  obtain ⟨r, hr, r0, r1⟩ := remO_nn (a := (x.toNat : Int)) (b := n) (by omega) (by omega)
  rw [hr]
  simp only [obs]
  exact ⟨r, rfl, fun _ => ⟨r0, r1⟩, fun h => by omega⟩
 ·rw [decide_eq_false hlt, cof]
  obtain ⟨r1, h1, a1, b1⟩ := remO_nn (a := p) (b := (l.length : Int)) hp (by omega)
  rw [h1]
  simp only [obs]
  obtain ⟨x, _, hx⟩ := idx_in a1 b1
  rw [hx]
  simp only [obs]
  have u1 := u8_lt x
  rw [ck_in (by omega)]
  simp only [obs]
  rw [ck_in (by omega)]
  simp only [obs]
  rw [ck_in (by omega)]
  simp only [obs]
  rw [ck_in (by omega)]
  simp only [obs]
  obtain ⟨r2, h2, a2, b2⟩ := remO_nn (a := p * 7 + 3) (b := (l.length : Int)) (by omega) (by omega)
  rw [h2]
  simp only [obs]
  obtain ⟨y, _, hy⟩ := idx_in a2 b2
  rw [hy]
  simp only [obs]
  have u2 := u8_lt y
  rw [ck_in (by omega)]
  simp only [obs]
  rw [ck_in (by omega)]
  simp only [obs]
  rw [ck_in (by omega)]
  simp only [obs]
  rw [ck_in (by omega)]
  simp only [obs]
  rw [ck_in (by omega)]
  simp only [obs]
  have q0 : 0 ≤ p.tdiv (l.length : Int) := Int.tdiv_nonneg hp (by omega)
  have q1 : p.tdiv (l.length : Int) ≤ p := by
   rw [Int.tdiv_eq_ediv_of_nonneg hp]
   exact Int.ediv_le_self _ hp
  have hq : quoO p (l.length : Int) = some (p.tdiv (l.length : Int)) := by
   unfold quoO; rw [if_neg (by omega), ck_in (by omega)]
  rw [hq]
  simp only [obs]
  generalize p.tdiv (l.length : Int) = q at *
  rw [ck_in (by omega)]
  simp only [obs]
  rw [ck_in (by omega)]
  simp only [obs]
  generalize hz2 : (x.toNat : Int) * 131 + (y.toNat : Int) * 1117 + p * 29 + q * 53 = z
  have z0 : 0 ≤ z ∧ z < 1152921504606846976 := by omega
  have hz3 : quoO z 64 = some (z / 64) := by
   unfold quoO; rw [if_neg (by decide), Int.tdiv_eq_ediv_of_nonneg z0.1, ck_in (by omega)]
  rw [hz3]
  simp only [obs]
  have hx0 := bXor_nn (p := z) (q := z / 64) z0.1 (by omega) (by omega) (by omega)
  obtain ⟨r, hr, c0, c1⟩ := remO_nn (a := bXor z (z / 64)) (b := n) hx0 (by omega)
  rw [hr]
  simp only [obs]
  exact ⟨r, rfl, fun _ => ⟨c0, c1⟩, fun h => by omega⟩
theorem num_eq {l : List UInt8} {p : Int} {L : List Int} (hp : 0 ≤ p) (hp2 : p ≤ 1073741824) (hl : l.length ≤ 2000) (hL : 0 < L.length) : ∃ x ∈ L, s_l12Rd_num fl l p L = some (x, p + 1) := by
 unfold s_l12Rd_num
 obtain ⟨r, h, hr, _⟩ := pick_eq (fl := fl) (n := (L.length : Int)) hp hp2 hl
 rw [h]
 simp only [obs]
 obtain ⟨x, hx, e⟩ := idx_in (hr (by omega)).1 (hr (by omega)).2
 rw [e]
 simp only [obs]
 exact ⟨x, hx, rfl⟩
theorem draw2_eq {l : List UInt8} {p : Int} (hp : 0 ≤ p) (hp2 : p ≤ 1073741000) (hl : l.length ≤ 2000) : ∃ k, s_l2Draw fl l p = some (k, p + 2) := by
 unfold s_l2Draw
 obtain ⟨x, _, h⟩ := num_eq (fl := fl) (L := [0, 1, 2, 3, 1]) hp (by omega) hl (by simp)
 rw [h]
 simp only [obs]
 obtain ⟨y, _, h'⟩ := num_eq (fl := fl) (p := p + 1) (L := [0, 1, 2, 3, 4, 5, 100, 255]) (by omega) (by omega) hl (by simp)
 rw [h']
 simp only [obs]
 exact ⟨_, by rw [show p + 1 + 1 = p + 2 from by omega]⟩

theorem newB_L0 {n : Nat} (hn : n ≤ 1048576) : ∀ (fuel i : Nat), i ≤ n → n - i < fuel → s_NewTable_L0 fl (n : Int) fuel (List.replicate i (-1)) i = some (.out (List.replicate n (-1), (n : Int))) := by
 intro fuel
 induction fuel with
 | zero => intro i _ h; omega
 | succ fuel ih =>
  intro i hi hf
  rw [s_NewTable_L0.eq_2]
  by_cases h : i < n
  ·rw [decide_eq_true (by omega : (i : Int) < (n : Int)), cot, cnt_in (by simp; omega), ck_succ (by omega)]
   simp only [obs]
   have := ih (i + 1) (by omega) (by omega)
   rw [List.replicate_succ'] at this
   exact this
  ·have e : i = n := by omega
   subst e
   simp only [Int.lt_irrefl, decide_false, cof]
theorem newF_L1 {n : Nat} (hn : n ≤ 1048576) : ∀ (fuel i : Nat), i ≤ n → n - i < fuel → s_NewTable_L1 fl (n : Int) fuel (List.replicate i freeF) i = some (.out (List.replicate n freeF, (n : Int))) := by
 intro fuel
 induction fuel with
 | zero => intro i _ h; omega
 | succ fuel ih =>
  intro i hi hf
  rw [s_NewTable_L1.eq_2]
  by_cases h : i < n
  ·rw [decide_eq_true (by omega : (i : Int) < (n : Int)), cot, cnt_in (by simp; omega), ck_succ (by omega)]
   simp only [obs]
   have := ih (i + 1) (by omega) (by omega)
   rw [List.replicate_succ'] at this
   exact this
  ·have e : i = n := by omega
   subst e
   simp only [Int.lt_irrefl, decide_false, cof]
theorem sNewTable_eq {n m : Nat} (h1 : 1 ≤ n) (h2 : n ≤ 16) (h3 : 1 ≤ m) (h4 : m ≤ 16) (hf : 1048576 < fl) : s_NewTable fl n m = some (⟨List.replicate m (-1), List.replicate n freeF⟩, true) := by
 unfold s_NewTable s_l2Buckets
 rw [decide_eq_false (by omega : ¬ (n : Int) < 1), decide_eq_false (by omega : ¬ 16 < (n : Int)), decide_eq_true (by omega : 1 ≤ (m : Int)), decide_eq_true (by omega : (m : Int) ≤ 16)]
 simp only [cof, cot, obs, Bool.not_true]
 have e1 := newB_L0 (fl := fl) (n := m) (by omega) fl 0 (by omega) (by omega)
 have e2 := newF_L1 (fl := fl) (n := n) (by omega) fl 0 (by omega) (by omega)
 rw [show ((0 : Nat) : Int) = 0 from rfl, List.replicate_zero] at e1 e2
 rw [e1]
 simp only [obs]
 rw [e2]
 simp only [obs]

theorem walk_congr {fs fs' : List F} {nb b : Int} (hl : fs'.length = fs.length) : ∀ {m : Nat} {i : Int} {L : List Nat}, walk fs nb b m i = some L → (∀ x ∈ L, fs'[x]? = fs[x]?) → walk fs' nb b m i = some L
 | 0, i, L, h, _ => h
 | m + 1, i, L, h, he => by
  by_cases h1 : i = -1
  ·subst h1; rw [walk_end] at h ⊢; exact h
  ·by_cases hx : ∃ j : Nat, i = j ∧ ∃ hj : j < fs.length, fs[j].u = true ∧ hashI fs[j].k nb = b
   ·obtain ⟨j, rfl, hj, hu, hh⟩ := hx
    rw [walk_step hj hu hh] at h
    cases hw : walk fs nb b m fs[j].nx with
    | none => rw [hw] at h; cases h
    | some M =>
     rw [hw] at h
     simp only [Option.map_some, Option.some.injEq] at h
     subst h
     have e := he j (by simp)
     have hj' : j < fs'.length := by omega
     rw [List.getElem?_eq_getElem hj, List.getElem?_eq_getElem hj', Option.some.injEq] at e
     rw [walk_step hj' (by rw [e]; exact hu) (by rw [e]; exact hh), e, walk_congr hl hw (fun x hx => he x (by simp [hx]))]
     rfl
   ·rw [walk_out h1 (fun j e hj hu hh => hx ⟨j, e, hj, hu, hh⟩)] at h
    cases h
theorem walk_less {fs : List F} {nb b : Int} : ∀ {m : Nat} {i : Int} {L : List Nat}, walk fs nb b m i = some L → walk fs nb b L.length i = some L
 | 0, i, L, h => by
  simp only [walk] at h
  split at h
  ·rename_i e; subst e; simp at h; subst h; exact walk_end ..
  ·cases h
 | m + 1, i, L, h => by
  by_cases h1 : i = -1
  ·subst h1; rw [walk_end] at h; simp at h; subst h; exact walk_end ..
  ·by_cases hx : ∃ j : Nat, i = j ∧ ∃ hj : j < fs.length, fs[j].u = true ∧ hashI fs[j].k nb = b
   ·obtain ⟨j, rfl, hj, hu, hh⟩ := hx
    rw [walk_step hj hu hh] at h
    cases hw : walk fs nb b m fs[j].nx with
    | none => rw [hw] at h; cases h
    | some M =>
     rw [hw] at h
     simp only [Option.map_some, Option.some.injEq] at h
     subst h
     rw [List.length_cons, walk_step hj hu hh, walk_less hw]
     rfl
   ·rw [walk_out h1 (fun j e hj hu hh => hx ⟨j, e, hj, hu, hh⟩)] at h
    cases h
theorem usedKeys_set {l : List F} {i : Nat} (hi : i < l.length) (hu : l[i].u = false) {x : F} (hx : x.u = true) : (usedKeys (l.set i x)).Perm (x.k :: usedKeys l) := by
 have e : l = l.take i ++ l[i] :: l.drop (i + 1) := by rw [List.getElem_cons_drop, List.take_append_drop]
 have e2 : l.set i x = l.take i ++ x :: l.drop (i + 1) := List.set_eq_take_append_cons_drop .. |>.trans (by rw [if_pos hi])
 rw [e2]
 conv => rhs; rw [e]
 simp only [usedKeys, List.filter_append, List.filter_cons, hu, hx, if_true, List.map_append, List.map_cons]
 simp only [Bool.false_eq_true, if_false]
 exact List.perm_middle
theorem sum_one {f g : Nat → Nat} {h : Nat} (hh : g h = f h + 1) (ho : ∀ i, i ≠ h → g i = f i) : ∀ n, ((List.range n).map g).sum = ((List.range n).map f).sum + (if h < n then 1 else 0) := by
 intro n
 induction n with
 | zero => simp
 | succ n ih =>
  simp only [List.range_succ, List.map_append, List.map_cons, List.map_nil, List.sum_append, List.sum_cons, List.sum_nil, ih]
  by_cases e : n = h
  ·subst e; rw [hh, if_neg (by omega), if_pos (by omega)]; omega
  ·rw [ho n e]
   by_cases e2 : h < n
   ·rw [if_pos e2, if_pos (by omega)]; omega
   ·rw [if_neg e2, if_neg (by omega)]; omega

structure CanMap (t : T) (k : K) (fr : Nat) (r : Int) : Prop where
 ok : TOk t
 hk : keyOk k = true
 hr : rightsOk r = true
 hf : fr < t.f.length
 hu : t.f[fr].u = false
 hn : findF t.f k < 0
theorem CanMap.nokey {t : T} {k : K} {fr : Nat} {r : Int} (c : CanMap t k fr r) : k ∉ usedKeys t.f := by
 intro hm
 rcases findF_spec t.f k with ⟨_, h2⟩ | ⟨i, hi, e, _, _⟩
 ·unfold usedKeys at hm
  obtain ⟨g, hg, rfl⟩ := List.mem_map.1 hm
  obtain ⟨hg1, hg2⟩ := List.mem_filter.1 hg
  have := h2 g hg1
  simp [hasKey] at this
  simp [this] at hg2
 ·have := c.hn; omega
theorem CanMap.chainO {t : T} {k : K} {fr : Nat} {r : Int} (c : CanMap t k fr r) {i : Nat} (hi : i < t.b.length) (hne : i ≠ bucketT t k) : ∃ L, chain t i = some L ∧ chain (mapT t k fr r) i = some L := by
 obtain ⟨L, hL⟩ := Option.isSome_iff_exists.1 (c.ok.ch i hi)
 refine ⟨L, hL, ?_⟩
 unfold chain at hL ⊢
 have e1 : (mapT t k fr r).f.length = t.f.length := by simp [mapT]
 have e2 : (mapT t k fr r).b.length = t.b.length := by simp [mapT]
 have e3 : (mapT t k fr r).b.getD i (-1) = t.b.getD i (-1) := by
  simp only [mapT, List.getD_eq_getElem?_getD, List.getElem?_set, if_neg (fun x => hne x.symm : ¬ bucketT t k = i)]
 rw [e1, e2, e3]
 refine walk_congr e1 hL fun x hx => ?_
 obtain ⟨hx1, hx2, _⟩ := walk_mem hL x hx
 simp only [mapT, List.getElem?_set]
 split
 ·rename_i e; subst e; rw [c.hu] at hx2; cases hx2
 ·rfl
theorem CanMap.chainH {t : T} {k : K} {fr : Nat} {r : Int} (c : CanMap t k fr r) : ∃ L, chain t (bucketT t k) = some L ∧ chain (mapT t k fr r) (bucketT t k) = some (fr :: L) := by
 obtain ⟨hb, he⟩ := bucketT_lt c.hk c.ok.b1 c.ok.b2
 obtain ⟨L, hL⟩ := Option.isSome_iff_exists.1 (c.ok.ch _ hb)
 refine ⟨L, hL, ?_⟩
 have hnf : fr ∉ L := fun hm => by
  obtain ⟨_, hx2, _⟩ := walk_mem (show walk t.f t.b.length (bucketT t k) t.f.length (t.b.getD (bucketT t k) (-1)) = some L from hL) fr hm
  rw [c.hu] at hx2; cases hx2
 have hlen : L.length + 1 ≤ t.f.length := by
  have := nodup_le (L := fr :: L) (n := t.f.length) (List.nodup_cons.2 ⟨hnf, walk_nodup hL⟩) (fun x hx => by
   rcases List.mem_cons.1 hx with e | e
   ·subst e; exact c.hf
   ·exact (walk_mem hL x e).1)
  simpa using this
 unfold chain
 have e1 : (mapT t k fr r).f.length = t.f.length := by simp [mapT]
 have e2 : (mapT t k fr r).b.length = t.b.length := by simp [mapT]
 have e3 : (mapT t k fr r).b.getD (bucketT t k) (-1) = (fr : Int) := by simp [mapT, hb]
 have hfr' : fr < (mapT t k fr r).f.length := by rw [e1]; exact c.hf
 have e4 : (mapT t k fr r).f[fr] = ⟨true, k, r, t.b.getD (bucketT t k) (-1)⟩ := by simp [mapT]
 obtain ⟨m, hm⟩ : ∃ m, t.f.length = m + 1 := ⟨t.f.length - 1, by omega⟩
 rw [e1, e2, e3, hm, walk_step hfr' (by rw [e4]) (by rw [e4]; exact he), e4]
 simp only []
 have hw : walk (mapT t k fr r).f t.b.length (bucketT t k) m (t.b.getD (bucketT t k) (-1)) = some L := by
  refine walk_more (m := L.length) (by omega) (walk_congr e1 (walk_less hL) fun x hx => ?_)
  simp only [mapT, List.getElem?_set]
  split
  ·rename_i e; subst e; exact absurd hx hnf
  ·rfl
 rw [hw]; rfl
theorem CanMap.tok {t : T} {k : K} {fr : Nat} {r : Int} (c : CanMap t k fr r) : TOk (mapT t k fr r) := by
 have h := c.ok
 obtain ⟨hb, he⟩ := bucketT_lt c.hk h.b1 h.b2
 have hp : (usedKeys (mapT t k fr r).f).Perm (k :: usedKeys t.f) := usedKeys_set c.hf c.hu rfl
 have e1 : (mapT t k fr r).f.length = t.f.length := by simp [mapT]
 have e2 : (mapT t k fr r).b.length = t.b.length := by simp [mapT]
 refine ⟨by rw [e1]; exact h.f1, by rw [e1]; exact h.f2, by rw [e2]; exact h.b1, by rw [e2]; exact h.b2, fun f hf => ?_, ?_, fun i hi => ?_, ?_⟩
 ·rcases List.mem_or_eq_of_mem_set hf with e | e
  ·exact h.fr f e
  ·subst e; simp [frameOk, c.hk, c.hr]
 ·rw [hp.nodup_iff]
  exact List.nodup_cons.2 ⟨c.nokey, h.ks⟩
 ·by_cases e : i = bucketT t k
  ·subst e
   obtain ⟨L, _, hL⟩ := c.chainH
   rw [hL]; rfl
  ·obtain ⟨L, _, hL⟩ := c.chainO (by rw [e2] at hi; exact hi) e
   rw [hL]; rfl
 ·rw [hp.length_eq, List.length_cons, ← h.sum, e2]
  unfold chainsLen
  have hs : ∀ n, n ≤ t.b.length → ((List.range n).map fun i => ((chain (mapT t k fr r) i).getD []).length).sum = ((List.range n).map fun i => ((chain t i).getD []).length).sum + (if bucketT t k < n then 1 else 0) := by
   intro n
   induction n with
   | zero => intro _; simp
   | succ n ih =>
    intro hn
    simp only [List.range_succ, List.map_append, List.map_cons, List.map_nil, List.sum_append, List.sum_cons, List.sum_nil, ih (by omega)]
    by_cases e : n = bucketT t k
    ·obtain ⟨L, a1, a2⟩ := c.chainH
     rw [e, a1, a2, if_neg (by omega), if_pos (by omega)]
     simp; omega
    ·obtain ⟨L, a1, a2⟩ := c.chainO (by omega : n < t.b.length) e
     rw [a1, a2]
     by_cases e2 : bucketT t k < n
     ·rw [if_pos e2, if_pos (by omega)]; omega
     ·rw [if_neg e2, if_neg (by omega)]; omega
  rw [hs _ (Nat.le_refl _), if_pos hb]


theorem before_eq (a b : K) : s_KeyBefore fl a b = some (decide (a.s < b.s) || (a.s == b.s && decide (a.p < b.p))) := by
 unfold s_KeyBefore
 cases decide (a.s < b.s) <;> cases (a.s == b.s) <;> rfl
theorem keys_L1 : ∀ (fuel i : Nat) (v : List K), i < v.length → i < fuel → v.length ≤ 1048576 → ∃ v' j, s_KeysOf_L1 fl fuel v i = some (.out (v', j)) ∧ v'.length = v.length := by
 intro fuel
 induction fuel with
 | zero => intro i v _ h; omega
 | succ fuel ih =>
  intro i v hi hf hl
  rw [s_KeysOf_L1.eq_2]
  by_cases h0 : i = 0
  ·subst h0
   simp only [show decide (0 < ((0 : Nat) : Int)) = false from rfl, cof, obs]
   exact ⟨_, _, rfl, rfl⟩
  ·have hck : ck ((i : Int) - 1) = some ((i - 1 : Nat) : Int) := by rw [ck_in (by omega)]; congr 1; omega
   rw [decide_eq_true (by omega : 0 < (i : Int)), cot, idx_nat hi, hck]
   simp only [obs]
   rw [idx_nat (by omega : i - 1 < v.length)]
   simp only [obs, before_eq]
   cases (decide (v[i].s < v[i - 1].s) || (v[i].s == v[i - 1].s && decide (v[i].p < v[i - 1].p))) with
   | false => rw [cof]; exact ⟨_, _, rfl, rfl⟩
   | true =>
    rw [cot, idx_nat (by simp; omega)]
    simp only [obs]
    obtain ⟨v', j, e, hv⟩ := ih (i - 1) ((v.set (Int.toNat (i : Int)) v[i - 1]).set (Int.toNat ((i - 1 : Nat) : Int)) v[i]) (by simp; omega) (by omega) (by simpa using hl)
    exact ⟨v', j, e, by simpa using hv⟩
theorem keys_L0 {t : T} (hl : t.f.length ≤ 1000) (hf : 1048576 < fl) : ∀ (fuel i : Nat) (v : List K), i ≤ t.f.length → t.f.length - i < fuel → v.length ≤ i → ∃ v' j, s_KeysOf_L0 fl t fuel v i = some (.out (v', j)) := by
 intro fuel
 induction fuel with
 | zero => intro i v _ h; omega
 | succ fuel ih =>
  intro i v hi hfu hv
  rw [s_KeysOf_L0.eq_2]
  unfold s_TableValid
  by_cases h : i < t.f.length
  ·rw [decide_eq_true (by omega : (i : Int) < (t.f.length : Int)), cot]
   simp only [obs]
   cases tableOk t with
   | false => rw [cof]; exact ⟨_, _, rfl⟩
   | true =>
    rw [cot, idx_nat h, ck_succ (by omega)]
    simp only [obs]
    cases t.f[i].u with
    | false =>
     simp only [Bool.not_false, cot]
     exact ih (i + 1) v (by omega) (by omega) (by omega)
    | true =>
     simp only [Bool.not_true, cof]
     rw [cnt_in (by simp; omega)]
     simp only [obs]
     have hck : ck (((v ++ [t.f[i].k]).length : Int) - 1) = some (v.length : Int) := by rw [ck_in (by simp; omega)]; congr 1; simp
     rw [hck]
     simp only [obs]
     obtain ⟨v', j, e, hv'⟩ := keys_L1 (fl := fl) fl v.length (v ++ [t.f[i].k]) (by simp) (by omega) (by simp; omega)
     rw [e]
     simp only [obs]
     exact ih (i + 1) v' (by omega) (by omega) (by rw [hv']; simp; omega)
  ·rw [decide_eq_false (by omega : ¬ (i : Int) < (t.f.length : Int))]
   simp only [cof, obs]
   exact ⟨_, _, rfl⟩
theorem keys_some {t : T} (hl : t.f.length ≤ 1000) (hf : 1048576 < fl) : ∃ L, s_KeysOf fl t = some L := by
 unfold s_KeysOf
 obtain ⟨v', j, e⟩ := keys_L0 (fl := fl) hl hf fl 0 [] (by omega) (by omega) (by simp)
 rw [show ((0 : Nat) : Int) = 0 from rfl] at e
 rw [e]
 simp only [obs]
 exact ⟨_, rfl⟩



theorem usedKeys_congr {l l' : List F} (h : l.map (fun g => (g.u, g.k)) = l'.map (fun g => (g.u, g.k))) : usedKeys l = usedKeys l' := by
 have e : ∀ l : List F, usedKeys l = ((l.map (fun g => (g.u, g.k))).filter (·.1)).map (·.2) := fun l => by
  unfold usedKeys
  rw [List.filter_map, List.map_map]
  rfl
 rw [e, e, h]
theorem CanMap.keys {t : T} {k : K} {fr : Nat} {r : Int} (c : CanMap t k fr r) : (usedKeys (mapT t k fr r).f).Perm (k :: usedKeys t.f) := usedKeys_set c.hf c.hu rfl

/-- where a link goes once frame i is gone -/
def red (f : List F) (i : Nat) (s : Int) : Int := if s = (i : Int) then (f.getD i freeF).nx else s
def unF (f : List F) (i : Nat) : List F := (unl f i (f.getD i freeF).nx).set i freeF
theorem unF_len (f : List F) (i : Nat) : (unF f i).length = f.length := by simp [unF, unl_len]
theorem unF_at {f : List F} {i j : Nat} (hj : j < f.length) (hne : j ≠ i) : (unF f i)[j]'(by rw [unF_len]; exact hj) = unlF i (f.getD i freeF).nx f[j] := by
 simp only [unF, unl, List.getElem_set, List.getElem_map]
 rw [if_neg (fun e => hne e.symm)]
theorem unlF_u (i nx : Int) (g : F) : (unlF i nx g).u = g.u ∧ (unlF i nx g).k = g.k ∧ (unlF i nx g).r = g.r := by
 unfold unlF; split <;> exact ⟨rfl, rfl, rfl⟩
theorem walk_rm {f : List F} {i : Nat} (hi : i < f.length) (hs : f[i].nx ≠ (i : Int)) {nb b : Int} : ∀ {m : Nat} {s : Int} {L : List Nat}, walk f nb b m s = some L → walk (unF f i) nb b m (red f i s) = some (L.filter fun x => decide (x ≠ i))
 | m, s, L, h => by
  have gD : f.getD i freeF = f[i] := by simp [hi]
  by_cases h1 : s = -1
  ·subst h1
   rw [walk_end] at h
   simp only [Option.some.injEq] at h
   subst h
   unfold red
   rw [if_neg (by omega), walk_end]
   rfl
  cases m with
  | zero => simp only [walk] at h; rw [if_neg h1] at h; cases h
  | succ m =>
   by_cases hx : ∃ j : Nat, s = j ∧ ∃ hj : j < f.length, f[j].u = true ∧ hashI f[j].k nb = b
   ·obtain ⟨j, rfl, hj, hu, hh⟩ := hx
    rw [walk_step hj hu hh] at h
    cases hw : walk f nb b m f[j].nx with
    | none => rw [hw] at h; cases h
    | some M =>
     rw [hw] at h
     simp only [Option.map_some, Option.some.injEq] at h
     subst h
     have ih := walk_rm hi hs hw
     by_cases e : j = i
     ·subst e
      have e1 : red f j (j : Int) = f[j].nx := by unfold red; rw [if_pos rfl, gD]
      have e2 : red f j f[j].nx = f[j].nx := by unfold red; rw [if_neg hs]
      rw [e2] at ih
      rw [e1, walk_more (by omega : m ≤ m + 1) ih]
      simp
     ·have e1 : red f i (j : Int) = (j : Int) := by unfold red; rw [if_neg (by omega)]
      have hj' : j < (unF f i).length := by rw [unF_len]; exact hj
      have ha := unF_at hj e
      obtain ⟨a1, a2, a3⟩ := unlF_u i (f.getD i freeF).nx f[j]
      have a4 : (unlF i (f.getD i freeF).nx f[j]).nx = red f i f[j].nx := by
       unfold unlF red
       rw [hu]
       by_cases e3 : f[j].nx = (i : Int)
       ·rw [if_pos (by simp [e3]), if_pos e3]
       ·rw [if_neg (by simp [e3]), if_neg e3]
      rw [e1, walk_step hj' (by rw [ha, a1]; exact hu) (by rw [ha, a2]; exact hh), ha, a4, ih]
      simp [e]
   ·rw [walk_out h1 (fun j e hj hu hh => hx ⟨j, e, hj, hu, hh⟩)] at h
    cases h
/-- where a chain begins with a frame, no used frame of the table follows on to it -/
theorem TOk.headOnly {t : T} (h : TOk t) {i c : Nat} (hc : c < t.b.length) (hb : t.b.getD c (-1) = (i : Int)) {j : Nat} (hj : j < t.f.length) (hu : t.f[j].u = true) : t.f[j].nx ≠ (i : Int) := by
 intro e
 obtain ⟨L, hL⟩ := Option.isSome_iff_exists.1 (h.ch c hc)
 have hL0 := hL
 unfold chain at hL0
 rw [hb] at hL0
 -- i heads L
 obtain ⟨n, hn⟩ : ∃ n, t.f.length = n + 1 := ⟨t.f.length - 1, by omega⟩
 have hhead : ∃ M, L = i :: M ∧ ∃ hi : i < t.f.length, t.f[i].u = true ∧ hashI t.f[i].k t.b.length = c := by
  rw [hn] at hL0
  by_cases hx : ∃ j : Nat, (i : Int) = j ∧ ∃ hj : j < t.f.length, t.f[j].u = true ∧ hashI t.f[j].k t.b.length = c
  ·obtain ⟨j', e', hj', hu', hh'⟩ := hx
   obtain rfl : i = j' := by omega
   rw [walk_step hj' hu' hh'] at hL0
   cases hw : walk t.f t.b.length c n t.f[i].nx with
   | none => rw [hw] at hL0; cases hL0
   | some M => rw [hw] at hL0; simp only [Option.map_some, Option.some.injEq] at hL0; exact ⟨M, hL0.symm, hj', hu', hh'⟩
  ·rw [walk_out (by omega) (fun j e hj hu hh => hx ⟨j, e, hj, hu, hh⟩)] at hL0
   cases hL0
 obtain ⟨M, rfl, hi, hui, hhi⟩ := hhead
 obtain ⟨L2, hL2, hm⟩ := h.inChain hj hu
 obtain ⟨A, B, rfl⟩ := List.append_of_mem hm
 obtain ⟨m, hw⟩ := walk_from hL2
 obtain ⟨_, hu', hh⟩ := walk_mem hw j (by simp)
 cases m with
 | zero => simp [walk] at hw
 | succ m =>
  rw [walk_step hj hu' hh, e] at hw
  cases hq : walk t.f t.b.length (bucketT t t.f[j].k) m (i : Int) with
  | none => rw [hq] at hw; cases hw
  | some Q =>
   rw [hq] at hw
   simp only [Option.map_some, Option.some.injEq, List.cons.injEq, true_and] at hw
   subst hw
   cases m with
   | zero => simp [walk] at hq
   | succ m =>
    have hi2 : i ∈ Q := by
     by_cases hx : ∃ j : Nat, (i : Int) = j ∧ ∃ hj : j < t.f.length, t.f[j].u = true ∧ hashI t.f[j].k t.b.length = bucketT t t.f[j].k
     ·by_cases hh2 : hashI t.f[i].k t.b.length = bucketT t t.f[j].k
      ·rw [walk_step hi hui hh2] at hq
       cases hw2 : walk t.f t.b.length (bucketT t t.f[j].k) m t.f[i].nx with
       | none => rw [hw2] at hq; cases hq
       | some R => rw [hw2] at hq; simp only [Option.map_some, Option.some.injEq] at hq; rw [← hq]; simp
      ·rw [walk_out (by omega) (fun j' e hj hu hh => by obtain rfl : i = j' := (by omega); exact hh2 hh)] at hq
       cases hq
     ·by_cases hh2 : hashI t.f[i].k t.b.length = bucketT t t.f[j].k
      ·rw [walk_step hi hui hh2] at hq
       cases hw2 : walk t.f t.b.length (bucketT t t.f[j].k) m t.f[i].nx with
       | none => rw [hw2] at hq; cases hq
       | some R => rw [hw2] at hq; simp only [Option.map_some, Option.some.injEq] at hq; rw [← hq]; simp
      ·rw [walk_out (by omega) (fun j' e hj hu hh => by obtain rfl : i = j' := (by omega); exact hh2 hh)] at hq
       cases hq
    have hbi : (c : Int) = bucketT t t.f[j].k := by
     obtain ⟨_, _, h3⟩ := walk_mem hq i hi2
     rw [← hhi, h3]
    have hc2 : c = bucketT t t.f[j].k := by omega
    rw [← hc2] at hL2
    rw [hL] at hL2
    simp only [Option.some.injEq] at hL2
    have nd := walk_nodup (show walk t.f t.b.length c t.f.length (t.b.getD c (-1)) = some (i :: M) from hL)
    cases A with
    | nil =>
     simp only [List.nil_append, List.cons.injEq] at hL2
     rw [hL2.2] at nd
     exact (List.nodup_cons.1 nd).1 hi2
    | cons a A =>
     simp only [List.cons_append, List.cons.injEq] at hL2
     rw [hL2.2] at nd
     exact (List.nodup_cons.1 nd).1 (by simp [hi2])
/-- a page that can be unmapped -/
structure CanUn (t : T) (i : Nat) : Prop where
 ok : TOk t
 hi : i < t.f.length
 hu : t.f[i].u = true
theorem CanUn.key {t : T} {i : Nat} (c : CanUn t i) : keyOk (t.f[i]'c.hi).k = true := by
 have := c.ok.fr _ (List.getElem_mem c.hi)
 unfold frameOk at this
 rw [c.hu] at this
 simp only [if_true, Bool.and_eq_true] at this
 exact this.1
theorem CanUn.eqs {t : T} {i : Nat} (c : CanUn t i) : (unmapT t i).f = unF t.f i ∧ (unmapT t i).b.length = t.b.length ∧ ∀ x, (unmapT t i).b.getD x (-1) = red t.f i (t.b.getD x (-1)) := by
 have hi := c.hi
 have gD : t.f.getD i freeF = t.f[i] := by simp [hi]
 obtain ⟨hb, he⟩ := bucketT_lt c.key c.ok.b1 c.ok.b2
 have other : ∀ x, t.b.getD x (-1) = (i : Int) → x = bucketT t t.f[i].k := fun x hx => by
  have hxl : x < t.b.length := by
   rcases Nat.lt_or_ge x t.b.length with h | h
   ·exact h
   ·rw [List.getD_eq_getElem?_getD, List.getElem?_eq_none h, Option.getD_none] at hx; omega
  obtain ⟨L, hL⟩ := Option.isSome_iff_exists.1 (c.ok.ch x hxl)
  unfold chain at hL
  rw [hx] at hL
  obtain ⟨n, hn⟩ : ∃ n, t.f.length = n + 1 := ⟨t.f.length - 1, by omega⟩
  rw [hn] at hL
  by_cases hh2 : hashI t.f[i].k t.b.length = x
  ·omega
  ·rw [walk_out (by omega) (fun j' e hj hu hh => by obtain rfl : i = j' := (by omega); exact hh2 hh)] at hL
   cases hL
 unfold unmapT
 rw [gD]
 by_cases hc : t.b.getD (bucketT t t.f[i].k) (-1) = (i : Int)
 ·rw [if_pos (by simpa using hc)]
  refine ⟨?_, by simp, fun x => ?_⟩
  ·show t.f.set i freeF = unF t.f i
   unfold unF
   rw [gD]
   congr 1
   unfold unl
   refine List.ext_getElem (by simp) fun j h1 h2 => ?_
   rw [List.getElem_map]
   unfold unlF
   rw [if_neg]
   intro hh
   simp only [Bool.and_eq_true, beq_iff_eq] at hh
   exact c.ok.headOnly hb hc h1 hh.1 hh.2
  ·simp only [List.getD_eq_getElem?_getD, List.getElem?_set]
   by_cases e : bucketT t t.f[i].k = x
   ·subst e
    rw [if_pos rfl, if_pos hb]
    unfold red
    rw [← List.getD_eq_getElem?_getD, if_pos hc, gD]
    rfl
   ·rw [if_neg e]
    unfold red
    rw [← List.getD_eq_getElem?_getD, if_neg (fun h => e (other x h).symm)]
 ·rw [if_neg (by simpa using hc)]
  refine ⟨?_, rfl, fun x => ?_⟩
  ·unfold unF; rw [gD]
  ·unfold red
   rw [if_neg (fun h => ?_)]
   have := other x h
   subst this
   exact hc h
theorem CanUn.chain {t : T} {i : Nat} (c : CanUn t i) {x : Nat} {L : List Nat} (h : Go.Proofs.YtciliaiocakdkaaDoor.chain t x = some L) : Go.Proofs.YtciliaiocakdkaaDoor.chain (unmapT t i) x = some (L.filter fun y => decide (y ≠ i)) := by
 obtain ⟨e1, e2, e3⟩ := c.eqs
 unfold Go.Proofs.YtciliaiocakdkaaDoor.chain at h ⊢
 rw [e1, e2, e3, unF_len]
 exact walk_rm c.hi (c.ok.noself c.hi c.hu) h
theorem unF_keys {f : List F} {i : Nat} (hi : i < f.length) (hu : f[i].u = true) : (usedKeys f).Perm (f[i].k :: usedKeys (unF f i)) := by
 have e : usedKeys (unF f i) = usedKeys (f.set i freeF) := by
  apply usedKeys_congr
  unfold unF unl
  rw [List.map_set, List.map_set, List.map_map]
  congr 1
  apply List.map_congr_left
  intro g _
  obtain ⟨a1, a2, _⟩ := unlF_u i (f.getD i freeF).nx g
  simp only [Function.comp, a1, a2]
 have := usedKeys_set (l := f.set i freeF) (i := i) (by simpa using hi) (by simp [freeF]) (x := f[i]) hu
 rw [List.set_set, List.set_getElem_self] at this
 rw [e]
 exact this
theorem CanUn.keys {t : T} {i : Nat} (c : CanUn t i) : (usedKeys t.f).Perm ((t.f[i]'c.hi).k :: usedKeys (unmapT t i).f) := by
 rw [c.eqs.1]; exact unF_keys c.hi c.hu
theorem CanUn.tok {t : T} {i : Nat} (c : CanUn t i) : TOk (unmapT t i) := by
 obtain ⟨e1, e2, e3⟩ := c.eqs
 have h := c.ok
 have hp := c.keys
 obtain ⟨hb, he⟩ := bucketT_lt c.key c.ok.b1 c.ok.b2
 refine ⟨by rw [e1, unF_len]; exact h.f1, by rw [e1, unF_len]; exact h.f2, by rw [e2]; exact h.b1, by rw [e2]; exact h.b2, fun g hg => ?_, ?_, fun x hx => ?_, ?_⟩
 ·rw [e1] at hg
  rcases List.mem_or_eq_of_mem_set hg with e | e
  ·obtain ⟨g', hg', rfl⟩ := List.mem_map.1 e
   have := h.fr g' hg'
   unfold unlF
   split
   ·rename_i hh
    simp only [Bool.and_eq_true] at hh
    unfold frameOk at this ⊢
    simp only [hh.1, if_true] at this ⊢
    exact this
   ·exact this
  ·subst e; rfl
 ·have := hp.nodup_iff.1 h.ks
  exact (List.nodup_cons.1 this).2
 ·obtain ⟨L, hL⟩ := Option.isSome_iff_exists.1 (h.ch x (by rw [e2] at hx; exact hx))
  rw [c.chain hL]; rfl
 ·have hl := hp.length_eq
  rw [List.length_cons, ← h.sum] at hl
  rw [e2]
  have hs := sum_one (f := fun x => ((Go.Proofs.YtciliaiocakdkaaDoor.chain (unmapT t i) x).getD []).length) (g := fun x => ((Go.Proofs.YtciliaiocakdkaaDoor.chain t x).getD []).length) (h := bucketT t (t.f[i]'c.hi).k) ?_ ?_ t.b.length
  ·rw [if_pos hb] at hs
   unfold chainsLen at hl ⊢
   omega
  ·obtain ⟨L, hL, hm⟩ := h.inChain c.hi c.hu
   rw [hL, c.chain hL]
   have nd := walk_nodup (show walk t.f t.b.length (bucketT t (t.f[i]'c.hi).k) t.f.length _ = some L from hL)
   simp only [Option.getD_some]
   clear hL
   induction L with
   | nil => cases hm
   | cons a L ih =>
    obtain ⟨n1, n2⟩ := List.nodup_cons.1 nd
    by_cases e : a = i
    ·subst e
     have : L.filter (fun y => decide (y ≠ a)) = L := List.filter_eq_self.2 fun y hy => decide_eq_true fun e => n1 (e ▸ hy)
     rw [List.filter_cons_of_neg (by simp), this, List.length_cons]
    ·rw [List.filter_cons_of_pos (by simp [e]), List.length_cons, List.length_cons, ih ((List.mem_cons.1 hm).resolve_left (fun x => e x.symm)) n2]
  ·intro x hx
   cases hL : Go.Proofs.YtciliaiocakdkaaDoor.chain t x with
   | none =>
    have hxl : ¬ x < t.b.length := fun h' => by have := h.ch x h'; rw [hL] at this; cases this
    exfalso
    unfold Go.Proofs.YtciliaiocakdkaaDoor.chain at hL
    rw [List.getD_eq_getElem?_getD, List.getElem?_eq_none (by omega)] at hL
    simp only [Option.getD_none] at hL
    rw [walk_end] at hL
    cases hL
   | some L =>
    rw [c.chain hL]
    simp only [Option.getD_some]
    rw [List.filter_eq_self.2]
    intro y hy
    refine decide_eq_true fun e => ?_
    subst e
    obtain ⟨_, _, h3⟩ := walk_mem (show walk t.f t.b.length x t.f.length _ = some L from hL) y hy
    apply hx
    omega

theorem CanUn.len {t : T} {i : Nat} (c : CanUn t i) : (unmapT t i).f.length = t.f.length := by rw [c.eqs.1, unF_len]
theorem unmapR_yes {t : T} {k : K} (h : (unmapR t k).2 = true) : ∃ i, ∃ c : CanUn t i, (t.f[i]'c.hi).k = k ∧ unmapR t k = (unmapT t i, true) := by
 unfold unmapR at h ⊢
 split at h
 ·rename_i hc
  have hc' := hc
  simp only [Bool.and_eq_true, decide_eq_true_eq] at hc
  obtain ⟨i, hi⟩ : ∃ i : Nat, findF t.f k = i := ⟨(findF t.f k).toNat, by omega⟩
  obtain ⟨hb, hu, hk⟩ := found_key hi
  refine ⟨i, ⟨tableOk_iff.1 hc.1.1, hb, hu⟩, hk, ?_⟩
  rw [if_pos hc', hi, Int.toNat_natCast]
 ·cases h
theorem CanUn.other {t : T} {i : Nat} (c : CanUn t i) {j : Nat} (hj : j < t.f.length) (hne : j ≠ i) : ∃ hj' : j < (unmapT t i).f.length, (unmapT t i).f[j].u = t.f[j].u ∧ (unmapT t i).f[j].k = t.f[j].k := by
 have e := c.eqs.1
 refine ⟨by rw [c.len]; exact hj, ?_⟩
 have ha := unF_at hj hne
 obtain ⟨a1, a2, a3⟩ := unlF_u i (t.f.getD i freeF).nx t.f[j]
 simp only [e, ha]
 exact ⟨a1, a2⟩

/-! ### notes -/
def nt0 : Nt := ⟨⟨0, 0⟩, 0⟩
def hasN (k : K) (x : Nt) : Bool := decide (x.k = k)
def noteF (l : List Nt) (k : K) : Int := match l.findIdx? (hasN k) with | some i => (i : Int) | none => -1
def kset (l : List Nt) : List K := l.map (·.k)
theorem noteF_spec (l : List Nt) (k : K) : (noteF l k = -1 ∧ ∀ x ∈ l, x.k ≠ k) ∨ ∃ i, ∃ h : i < l.length, noteF l k = (i : Int) ∧ l[i].k = k ∧ ∀ j, (hj : j < i) → (l[j]'(by omega)).k ≠ k := by
 cases h : l.findIdx? (hasN k) with
 | none =>
  left
  refine ⟨by simp [noteF, h], fun x hx => ?_⟩
  have := List.findIdx?_eq_none_iff.1 h x hx
  simpa [hasN] using this
 | some i =>
  right
  obtain ⟨hi, h1, h2⟩ := List.findIdx?_eq_some_iff_getElem.1 h
  exact ⟨i, hi, by simp [noteF, h], by simpa [hasN] using h1, fun j hj => by simpa [hasN] using h2 j hj⟩
theorem noteF_some {l : List Nt} {k : K} {i : Nat} (hi : i < l.length) (h : l[i].k = k) (h' : ∀ j, (hj : j < i) → (l[j]'(by omega)).k ≠ k) : noteF l k = (i : Int) := by
 have : l.findIdx? (hasN k) = some i := List.findIdx?_eq_some_iff_getElem.2 ⟨hi, by simp [hasN, h], fun j hj => by simpa [hasN] using h' j hj⟩
 simp [noteF, this]
theorem noteF_none {l : List Nt} {k : K} (h : ∀ x ∈ l, x.k ≠ k) : noteF l k = -1 := by
 have : l.findIdx? (hasN k) = none := List.findIdx?_eq_none_iff.2 fun x hx => by simpa [hasN] using h x hx
 simp [noteF, this]
theorem noteF_mem {l : List Nt} {k : K} : 0 ≤ noteF l k ↔ k ∈ kset l := by
 unfold kset
 rcases noteF_spec l k with ⟨e, h⟩ | ⟨i, hi, e, h, _⟩
 ·rw [e]
  constructor
  ·intro h'; omega
  ·intro h'; obtain ⟨x, hx, hk⟩ := List.mem_map.1 h'; exact absurd hk (h x hx)
 ·rw [e]
  exact ⟨fun _ => List.mem_map.2 ⟨l[i], List.getElem_mem hi, h⟩, fun _ => by omega⟩
theorem noteF_neg {l : List Nt} {k : K} : noteF l k < 0 ↔ k ∉ kset l := by rw [← noteF_mem]; omega
theorem noteF_get {l : List Nt} {k : K} (h : 0 ≤ noteF l k) : ∃ i, ∃ hi : i < l.length, noteF l k = (i : Int) ∧ l[i].k = k ∧ l.getD (noteF l k).toNat nt0 = l[i] := by
 rcases noteF_spec l k with ⟨e, _⟩ | ⟨i, hi, e, h1, _⟩
 ·omega
 ·exact ⟨i, hi, e, h1, by rw [e]; simp [hi]⟩
theorem kset_inj {l : List Nt} (hn : (kset l).Nodup) {x y : Nt} (hx : x ∈ l) (hy : y ∈ l) (h : x.k = y.k) : x = y := by
 induction l with
 | nil => cases hx
 | cons z l ih =>
  simp only [kset, List.map_cons, List.nodup_cons] at hn
  rcases List.mem_cons.1 hx with e | e <;> rcases List.mem_cons.1 hy with e' | e'
  ·rw [e, e']
  ·subst e; exact absurd (List.mem_map.2 ⟨y, e', h.symm⟩) hn.1
  ·subst e'; exact absurd (List.mem_map.2 ⟨x, e, h⟩) hn.1
  ·exact ih hn.2 e e'
def dropN (l : List Nt) (k : K) : List Nt := l.filter fun x => decide (x.k ≠ k)
theorem dropN_mem {l : List Nt} {k : K} {x : Nt} : x ∈ dropN l k ↔ x ∈ l ∧ x.k ≠ k := by simp [dropN]
theorem kset_drop {l : List Nt} {k q : K} : q ∈ kset (dropN l k) ↔ q ∈ kset l ∧ q ≠ k := by
 simp only [kset, List.mem_map, dropN_mem]
 constructor
 ·rintro ⟨x, ⟨a, b⟩, rfl⟩; exact ⟨⟨x, a, rfl⟩, b⟩
 ·rintro ⟨⟨x, a, rfl⟩, b⟩; exact ⟨x, ⟨a, b⟩, rfl⟩
theorem kset_nodup_filter {l : List Nt} {p : Nt → Bool} (h : (kset l).Nodup) : (kset (l.filter p)).Nodup := by
 unfold kset at *
 exact h.sublist (List.filter_sublist.map _)
theorem dropN_len {l : List Nt} {k : K} (hn : (kset l).Nodup) (hk : k ∈ kset l) : (dropN l k).length + 1 = l.length := by
 induction l with
 | nil => simp [kset] at hk
 | cons z l ih =>
  simp only [kset, List.map_cons, List.nodup_cons] at hn
  by_cases e : z.k = k
  ·have : dropN (z :: l) k = l := by
    simp only [dropN, List.filter_cons, e, ne_eq, not_true, decide_false]
    simp only [Bool.false_eq_true, if_false]
    apply List.filter_eq_self.2
    intro x hx
    have : x.k ≠ k := fun h => hn.1 (by rw [e, ← h]; exact List.mem_map.2 ⟨x, hx, rfl⟩)
    simpa using this
   rw [this]; simp
  ·have h1 : k ∈ kset l := by
    simp only [kset, List.map_cons, List.mem_cons] at hk
    rcases hk with h | h
    ·exact absurd h.symm e
    ·exact h
   have := ih hn.2 h1
   simp only [dropN, List.filter_cons] at this ⊢
   simp only [ne_eq, e, not_false_eq_true, decide_true, if_true, List.length_cons]
   simp only [ne_eq] at this
   omega
theorem dropN_le {l : List Nt} {k : K} : (dropN l k).length ≤ l.length := List.length_filter_le _ _
theorem dropN_none {l : List Nt} {k : K} (h : k ∉ kset l) : dropN l k = l := List.filter_eq_self.2 fun x hx => by
 have : x.k ≠ k := fun e => h (List.mem_map.2 ⟨x, hx, e⟩)
 simpa using this

/-! ### valid -/
structure COk (t : T) (c : Cp) : Prop where
 n4 : c.n.length ≤ 4
 w4 : c.w.length ≤ 4
 nk : ∀ x ∈ c.n, keyOk x.k = true
 nn : (kset c.n).Nodup
 wn : (kset c.w).Nodup
 nt : ∀ x ∈ c.n, x.k ∉ kset c.w → findF t.f x.k = x.fr ∧ 0 ≤ x.fr
 nw : ∀ x ∈ c.n, ∀ y ∈ c.w, y.k = x.k → y = x ∧ findF t.f x.k < 0
 ws : ∀ y ∈ c.w, y.k ∈ kset c.n
 wf : ∀ y ∈ c.w, (0 ≤ y.fr ∧ y.fr < t.f.length) ∧ (t.f.getD y.fr.toNat freeF).u = false
theorem COk.wsub {t : T} {c : Cp} (h : COk t c) : ∀ y ∈ c.w, y ∈ c.n := fun y hy => by
 obtain ⟨x, hx, e⟩ := List.mem_map.1 (h.ws y hy)
 rw [(h.nw x hx y hy e.symm).1]; exact hx
theorem COk.wfind {t : T} {c : Cp} (h : COk t c) {y : Nt} (hy : y ∈ c.w) : findF t.f y.k < 0 := by
 exact (h.nw y (h.wsub y hy) y hy rfl).2
structure SyOk (s : Sy) : Prop where
 t : TOk s.t
 c1 : 1 ≤ s.c.length
 c2 : s.c.length ≤ 4
 c : ∀ c ∈ s.c, COk s.t c
noncomputable def sysOk (s : Sy) : Bool := @decide (SyOk s) (Classical.propDecidable _)
theorem sysOk_iff {s : Sy} : sysOk s = true ↔ SyOk s := by unfold sysOk; exact @decide_eq_true_iff _ (Classical.propDecidable _)
/-! ### what becomes of a system -/
def sy0 : Sy := ⟨⟨[], []⟩, []⟩
def cp0 : Cp := ⟨[], []⟩
def ackC (c : Cp) : Cp := ⟨c.n.filter (fun x => decide (x.k ∉ kset c.w)), []⟩
def addC (c : Cp) (x : Nt) : Cp := if c.n.length = 4 then ⟨dropN c.n (c.n.getD 0 nt0).k ++ [x], dropN c.w (c.n.getD 0 nt0).k⟩ else ⟨c.n ++ [x], c.w⟩
noncomputable def lookR (s : Sy) (cpu : Int) (k : K) : Sy × Int × Int × Bool :=
 if sysOk s && within cpu s.c.length && keyOk k then
  if 0 ≤ noteF (s.c.getD cpu.toNat cp0).n k then (s, ((s.c.getD cpu.toNat cp0).n.getD (noteF (s.c.getD cpu.toNat cp0).n k).toNat nt0).fr, 1, true)
  else if findF s.t.f k < 0 then (s, 0, 3, true)
  else (⟨s.t, s.c.set cpu.toNat (addC (s.c.getD cpu.toNat cp0) ⟨k, findF s.t.f k⟩)⟩, findF s.t.f k, 2, true)
 else (sy0, 0, 0, false)
def heldB (s : Sy) (fr : Int) (k : K) : Bool := s.c.any fun c => c.w.any fun x => x.fr == fr || x.k == k
noncomputable def mapS (s : Sy) (k : K) (fr r : Int) : Sy × Bool :=
 if sysOk s && !heldB s fr k && (mapR s.t k fr r).2 then (⟨(mapR s.t k fr r).1, s.c⟩, true) else (sy0, false)
def unC (cpu : Int) (k : K) (i : Nat) (c : Cp) : Cp :=
 if noteF c.n k < 0 then c else if (i : Int) = cpu then ⟨dropN c.n k, c.w⟩ else ⟨c.n, c.w ++ [c.n.getD (noteF c.n k).toNat nt0]⟩
def askB (cpu : Int) (k : K) (i : Nat) (c : Cp) : Bool := decide (0 ≤ noteF c.n k) && decide ((i : Int) ≠ cpu)
def asked (cpu : Int) (k : K) (l : List Cp) : Nat := ((l.zipIdx).filter fun p => askB cpu k p.2 p.1).length
noncomputable def unmapS (s : Sy) (cpu : Int) (k : K) : Sy × Int × Bool :=
 if sysOk s && within cpu s.c.length && (unmapR s.t k).2 then (⟨(unmapR s.t k).1, s.c.mapIdx (unC cpu k)⟩, (asked cpu k s.c : Int), true) else (sy0, 0, false)
noncomputable def ackS (s : Sy) (cpu : Int) : Sy × Bool :=
 if sysOk s && within cpu s.c.length then (⟨s.t, s.c.set cpu.toNat (ackC (s.c.getD cpu.toNat cp0))⟩, true) else (sy0, false)
/-! ### they stay valid -/
theorem COk.ack {t : T} {c : Cp} (h : COk t c) : COk t (ackC c) := by
 have hm : ∀ x ∈ (ackC c).n, x ∈ c.n ∧ x.k ∉ kset c.w := fun x hx => by simpa [ackC] using hx
 refine ⟨Nat.le_trans (List.length_filter_le _ _) h.n4, by simp [ackC], fun x hx => h.nk x (hm x hx).1, kset_nodup_filter h.nn, by simp [ackC, kset], fun x hx _ => h.nt x (hm x hx).1 (hm x hx).2, fun x _ y hy => by simp [ackC] at hy, fun y hy => by simp [ackC] at hy, fun y hy => by simp [ackC] at hy⟩
theorem nodup_snoc {l : List Nt} {x : Nt} (h : (kset l).Nodup) (hx : x.k ∉ kset l) : (kset (l ++ [x])).Nodup := by
 unfold kset at *
 rw [List.map_append, List.nodup_append]
 refine ⟨h, by simp, fun a ha b hb => ?_⟩
 simp at hb
 subst hb
 exact fun e => hx (e ▸ ha)
theorem COk.snoc {t : T} {c : Cp} (h : COk t c) (hl : c.n.length ≤ 3) {k : K} (hk : keyOk k = true) (hn : k ∉ kset c.n) (hf : 0 ≤ findF t.f k) : COk t ⟨c.n ++ [⟨k, findF t.f k⟩], c.w⟩ := by
 have hm : ∀ x ∈ c.n ++ [(⟨k, findF t.f k⟩ : Nt)], x ∈ c.n ∨ x = ⟨k, findF t.f k⟩ := fun x hx => by simpa using hx
 have hkw : ∀ y ∈ c.w, y.k ≠ k := fun y hy e => hn (e ▸ h.ws y hy)
 refine ⟨by simp; omega, h.w4, fun x hx => ?_, nodup_snoc h.nn hn, h.wn, fun x hx hw => ?_, fun x hx y hy e => ?_, fun y hy => ?_, h.wf⟩
 ·rcases hm x hx with e | rfl
  ·exact h.nk x e
  ·exact hk
 ·rcases hm x hx with e | rfl
  ·exact h.nt x e hw
  ·exact ⟨rfl, hf⟩
 ·rcases hm x hx with e' | rfl
  ·exact h.nw x e' y hy e
  ·exact absurd e (hkw y hy)
 ·have := h.ws y hy
  simp only [kset, List.map_append, List.mem_append] at this ⊢
  exact .inl this
theorem COk.drop {t : T} {c : Cp} (h : COk t c) (q : K) : COk t ⟨dropN c.n q, dropN c.w q⟩ := by
 refine ⟨Nat.le_trans dropN_le h.n4, Nat.le_trans dropN_le h.w4, fun x hx => h.nk x (dropN_mem.1 hx).1, kset_nodup_filter h.nn, kset_nodup_filter h.wn, fun x hx hw => ?_, fun x hx y hy e => h.nw x (dropN_mem.1 hx).1 y (dropN_mem.1 hy).1 e, fun y hy => ?_, fun y hy => h.wf y (dropN_mem.1 hy).1⟩
 ·obtain ⟨a, b⟩ := dropN_mem.1 hx
  exact h.nt x a fun hm => hw (kset_drop.2 ⟨hm, b⟩)
 ·obtain ⟨a, b⟩ := dropN_mem.1 hy
  exact kset_drop.2 ⟨h.ws y a, b⟩
theorem COk.add {t : T} {c : Cp} (h : COk t c) {k : K} (hk : keyOk k = true) (hn : k ∉ kset c.n) (hf : 0 ≤ findF t.f k) : COk t (addC c ⟨k, findF t.f k⟩) := by
 unfold addC
 split
 ·rename_i h4
  have h0 : 0 < c.n.length := by omega
  have hm : (c.n.getD 0 nt0).k ∈ kset c.n := List.mem_map.2 ⟨c.n.getD 0 nt0, by simp [h0], rfl⟩
  have hd := dropN_len h.nn hm
  exact (h.drop (c.n.getD 0 nt0).k).snoc (by simp only []; omega) hk (fun hx => hn (kset_drop.1 hx).1) hf
 ·exact h.snoc (by have := h.n4; omega) hk hn hf
theorem COk.congr {t t' : T} {c : Cp} (h : COk t c) (hl : t'.f.length = t.f.length) (hf : ∀ x ∈ c.n, findF t'.f x.k = findF t.f x.k) (hu : ∀ y ∈ c.w, (t'.f.getD y.fr.toNat freeF).u = (t.f.getD y.fr.toNat freeF).u) : COk t' c :=
 ⟨h.n4, h.w4, h.nk, h.nn, h.wn, fun x hx hw => by rw [hf x hx]; exact h.nt x hx hw, fun x hx y hy e => by rw [hf x hx]; exact h.nw x hx y hy e, h.ws, fun y hy => by rw [hl, hu y hy]; exact h.wf y hy⟩
theorem findF_congr {l l' : List F} {k : K} (hl : l'.length = l.length) (h : ∀ j, (hj : j < l.length) → hasKey k (l'[j]'(by omega)) = hasKey k l[j]) : findF l' k = findF l k := by
 rcases findF_spec l k with ⟨e, h1⟩ | ⟨i, hi, e, h1, h2⟩
 ·rw [e]
  exact findF_none fun j hj => by rw [h j (by omega)]; exact h1 _ (List.getElem_mem _)
 ·rw [e]
  exact findF_some (by omega) (by rw [h i hi]; exact h1) fun j hj => by rw [h j (by omega)]; exact h2 j hj
theorem map_find {t : T} {k q : K} {fr : Nat} {r : Int} (hi : fr < t.f.length) (hu : t.f[fr].u = false) (hq : q ≠ k) : findF (mapT t k fr r).f q = findF t.f q := by
 refine findF_congr (by simp [mapT]) fun j hj => ?_
 simp only [mapT, List.getElem_set]
 split
 ·rename_i e; subst e; simp [hasKey, hu, Ne.symm hq]
 ·rfl
theorem COk.map {t : T} {c : Cp} (h : COk t c) {k : K} {fr : Nat} {r : Int} (hi : fr < t.f.length) (hu : t.f[fr].u = false) (hk : findF t.f k < 0) (hh : ∀ y ∈ c.w, y.fr ≠ (fr : Int) ∧ y.k ≠ k) : COk (mapT t k fr r) c := by
 refine h.congr (by simp [mapT]) (fun x hx => map_find hi hu fun e => ?_) fun y hy => ?_
 ·by_cases hw : x.k ∈ kset c.w
  ·obtain ⟨y, hy, e'⟩ := List.mem_map.1 hw
   exact (hh y hy).2 (e'.trans e)
  ·obtain ⟨a, b⟩ := h.nt x hx hw
   rw [e] at a; omega
 ·have := (h.wf y hy).1
  have hne : fr ≠ y.fr.toNat := fun e => (hh y hy).1 (by omega)
  simp [mapT, List.getD, List.getElem?_set_ne hne]
theorem findF_keys {l : List F} {k : K} (h : k ∉ usedKeys l) : findF l k = -1 := by
 refine findF_none fun j hj => ?_
 cases e : hasKey k l[j] with
 | false => rfl
 | true =>
  simp only [hasKey, Bool.and_eq_true, decide_eq_true_eq] at e
  exact absurd (List.mem_map.2 ⟨l[j], List.mem_filter.2 ⟨List.getElem_mem hj, e.1⟩, e.2⟩) h
theorem CanUn.unUsed {t : T} {i : Nat} (c : CanUn t i) {h : i < (unmapT t i).f.length} : (unmapT t i).f[i] = freeF := by
 have e := c.eqs.1
 simp only [e, unF, List.getElem_set_self]
theorem un_gone {t : T} {i : Nat} (c : CanUn t i) : findF (unmapT t i).f (t.f[i]'c.hi).k = -1 := by
 refine findF_keys fun h => ?_
 have := (c.keys.nodup_iff).1 c.ok.ks
 exact (List.nodup_cons.1 this).1 h
theorem un_find {t : T} {i : Nat} (c : CanUn t i) {q : K} (hq : q ≠ (t.f[i]'c.hi).k) : findF (unmapT t i).f q = findF t.f q := by
 refine findF_congr c.len fun j hj => ?_
 by_cases e : j = i
 ·subst e
  have h1 := c.unUsed (h := by rw [c.len]; exact hj)
  have h2 : (freeF).u = false := rfl
  simp [hasKey, h1, h2, Ne.symm hq]
 ·obtain ⟨hj', a, b⟩ := c.other hj e
  simp [hasKey, a, b]
theorem un_used {t : T} {i : Nat} (c : CanUn t i) {y : Int} (h0 : 0 ≤ y) (hl : y < t.f.length) (hu : (t.f.getD y.toNat freeF).u = false) : ((unmapT t i).f.getD y.toNat freeF).u = (t.f.getD y.toNat freeF).u := by
 have hy : y.toNat < t.f.length := by omega
 have hne : y.toNat ≠ i := fun e => by
  have := c.hu
  simp [hy] at hu
  simp only [← e] at this
  rw [hu] at this; cases this
 obtain ⟨hj, a, _⟩ := c.other hy hne
 simp [hy, hj, a]
theorem nodup_sub2 {α : Type} [DecidableEq α] : ∀ {L U : List α}, L.Nodup → (∀ x ∈ L, x ∈ U) → L.length ≤ U.length
 | [], _, _, _ => by simp
 | x :: L, U, hn, hs => by
  have h1 := List.nodup_cons.1 hn
  have hx : x ∈ U := hs x (by simp)
  have := nodup_sub2 (L := L) (U := U.erase x) h1.2 fun y hy => by
   have : y ≠ x := fun e => h1.1 (e ▸ hy)
   exact (List.mem_erase_of_ne this).2 (hs y (by simp [hy]))
  rw [List.length_erase_of_mem hx] at this
  have := List.length_pos_of_mem hx
  simp; omega
theorem kset_len (l : List Nt) : (kset l).length = l.length := by simp [kset]
theorem COk.un {t : T} {c : Cp} (h : COk t c) {i : Nat} (u : CanUn t i) (cpu : Int) (j : Nat) : COk (unmapT t i) (unC cpu (t.f[i]'u.hi).k j c) := by
 have hfk := find_at u.ok.ks u.hi u.hu rfl
 have hkw : (t.f[i]'u.hi).k ∉ kset c.w := fun hm => by
  obtain ⟨y, hy, e⟩ := List.mem_map.1 hm
  have := h.wfind hy
  rw [show y.k = _ from e, hfk] at this
  omega
 have hus : ∀ y ∈ c.w, ((unmapT t i).f.getD y.fr.toNat freeF).u = (t.f.getD y.fr.toNat freeF).u := fun y hy => un_used u (h.wf y hy).1.1 (h.wf y hy).1.2 (h.wf y hy).2
 unfold unC
 split
 ·rename_i hn
  rw [noteF_neg] at hn
  exact h.congr u.len (fun x hx => un_find u fun e => hn (e ▸ List.mem_map.2 ⟨x, hx, rfl⟩)) hus
 ·rename_i hn
  split
  ·have hd := h.drop (t.f[i]'u.hi).k
   rw [dropN_none hkw] at hd
   exact hd.congr u.len (fun x hx => un_find u (dropN_mem.1 hx).2) hus
  ·obtain ⟨m, hm, e, hk, eg⟩ := noteF_get (show 0 ≤ noteF c.n (t.f[i]'u.hi).k by omega)
   rw [eg]
   have hmem : c.n[m] ∈ c.n := List.getElem_mem hm
   have hfr : c.n[m].fr = (i : Int) := by
    have := (h.nt c.n[m] hmem (by rw [hk]; exact hkw)).1
    rw [hk, hfk] at this
    exact this.symm
   have hy : ∀ y ∈ c.w ++ [c.n[m]], y ∈ c.w ∨ y = c.n[m] := fun y hy => by simpa using hy
   have hnd : (kset (c.w ++ [c.n[m]])).Nodup := nodup_snoc h.wn (by rw [hk]; exact hkw)
   have hsub : ∀ q ∈ kset (c.w ++ [c.n[m]]), q ∈ kset c.n := fun q hq => by
    obtain ⟨y, hy', rfl⟩ := List.mem_map.1 hq
    rcases hy y hy' with a | a
    ·exact h.ws y a
    ·rw [a]; exact List.mem_map.2 ⟨_, hmem, rfl⟩
   have hlen := nodup_sub2 hnd hsub
   rw [kset_len, kset_len] at hlen
   refine ⟨h.n4, Nat.le_trans hlen h.n4, h.nk, h.nn, hnd, fun x hx hw => ?_, fun x hx y hy' e' => ?_, fun y hy' => hsub _ (List.mem_map.2 ⟨y, hy', rfl⟩), fun y hy' => ?_⟩
   ·have h1 : x.k ∉ kset c.w := fun q => hw (by simp only [kset, List.map_append, List.mem_append] at q ⊢; exact .inl q)
    have h2 : x.k ≠ (t.f[i]'u.hi).k := fun q => hw (by simp only [kset, List.map_append, List.mem_append]; right; simp [hk, q])
    rw [un_find u h2]; exact h.nt x hx h1
   ·rcases hy y hy' with a | a
    ·obtain ⟨b, d⟩ := h.nw x hx y a e'
     have : x.k ≠ (t.f[i]'u.hi).k := fun q => hkw (q ▸ e' ▸ List.mem_map.2 ⟨y, a, rfl⟩)
     rw [un_find u this]; exact ⟨b, d⟩
    ·have : x.k = (t.f[i]'u.hi).k := by rw [← e', a, hk]
     rw [this, un_gone u]
     exact ⟨by rw [a]; exact (kset_inj h.nn hx hmem (by rw [this, hk])).symm, by decide⟩
   ·rcases hy y hy' with a | a
    ·rw [u.len, hus y a]; exact h.wf y a
    ·rw [a, hfr, u.len]
     have hi := u.hi
     refine ⟨⟨by omega, by omega⟩, ?_⟩
     have h1 := u.unUsed (h := by rw [u.len]; exact hi)
     have h3 : i < (unmapT t i).f.length := by rw [u.len]; exact hi
     simp [h3, h1, freeF]

/-! ### loops -/
theorem loop_first {R : Type} {L : Nat → Int → Option (LO Int R)} {n : Nat} (p : Nat → Bool) (r : Nat → R)
  (step : ∀ fuel (i : Nat), i < n → L (fuel + 1) (i : Int) = cond (p i) (some (.ret (r i))) (L fuel ((i + 1 : Nat) : Int)))
  (fin : ∀ fuel, L (fuel + 1) (n : Int) = some (.out (n : Int))) : ∀ fuel i, i ≤ n → n - i < fuel → (∀ j, j < i → p j = false) →
  (∃ m, m < n ∧ p m = true ∧ (∀ j, j < m → p j = false) ∧ L fuel (i : Int) = some (.ret (r m))) ∨ ((∀ j, j < n → p j = false) ∧ L fuel (i : Int) = some (.out (n : Int)))
 | 0, i, _, h, _ => by omega
 | fuel + 1, i, hi, hf, ht => by
  by_cases h : i < n
  ·rw [step fuel i h]
   cases hp : p i with
   | true => left; exact ⟨i, h, hp, ht, by rw [cot]⟩
   | false =>
    rw [cof]
    exact loop_first p r step fin fuel (i + 1) (by omega) (by omega) fun j hj => by
     by_cases e : j = i
     ·subst e; exact hp
     ·exact ht j (by omega)
  ·have e : i = n := by omega
   subst e
   right; exact ⟨ht, fin fuel⟩
theorem loop_first0 {R : Type} {L : Nat → Int → Option (LO Int R)} {n : Nat} (p : Nat → Bool) (r : Nat → R) (hn : n ≤ 1048576) (hf : 1048576 < fl)
  (step : ∀ fuel (i : Nat), i < n → L (fuel + 1) (i : Int) = cond (p i) (some (.ret (r i))) (L fuel ((i + 1 : Nat) : Int)))
  (fin : ∀ fuel, L (fuel + 1) (n : Int) = some (.out (n : Int))) :
  (∃ m, m < n ∧ p m = true ∧ (∀ j, j < m → p j = false) ∧ L fl 0 = some (.ret (r m))) ∨ ((∀ j, j < n → p j = false) ∧ L fl 0 = some (.out (n : Int))) :=
 loop_first p r step fin fl 0 (by omega) (by omega) (fun j hj => by omega)
theorem loop_fold {σ O : Type} {L : Nat → σ → Int → Option O} {n : Nat} (g : Nat → σ → σ) (Inv : Nat → σ → Prop) (out : σ → O)
  (step : ∀ fuel (i : Nat) s, i < n → Inv i s → L (fuel + 1) s (i : Int) = L fuel (g i s) ((i + 1 : Nat) : Int) ∧ Inv (i + 1) (g i s))
  (fin : ∀ fuel s, Inv n s → L (fuel + 1) s (n : Int) = some (out s)) : ∀ fuel i s, i ≤ n → n - i < fuel → Inv i s → ∃ s', Inv n s' ∧ L fuel s (i : Int) = some (out s')
 | 0, i, s, _, h, _ => by omega
 | fuel + 1, i, s, hi, hf, ht => by
  by_cases h : i < n
  ·obtain ⟨h1, h2⟩ := step fuel i s h ht
   rw [h1]
   exact loop_fold g Inv out step fin fuel (i + 1) _ (by omega) (by omega) h2
  ·have e : i = n := by omega
   subst e
   exact ⟨s, ht, fin fuel s ht⟩
theorem loop_fold0 {σ O : Type} {L : Nat → σ → Int → Option O} {n : Nat} (g : Nat → σ → σ) (Inv : Nat → σ → Prop) (out : σ → O) (hn : n ≤ 1048576) (hf : 1048576 < fl) (s : σ) (h0 : Inv 0 s)
  (step : ∀ fuel (i : Nat) s, i < n → Inv i s → L (fuel + 1) s (i : Int) = L fuel (g i s) ((i + 1 : Nat) : Int) ∧ Inv (i + 1) (g i s))
  (fin : ∀ fuel s, Inv n s → L (fuel + 1) s (n : Int) = some (out s)) : ∃ s', Inv n s' ∧ L fl s 0 = some (out s') :=
 loop_fold g Inv out step fin fl 0 s (by omega) (by omega) h0
theorem lt_dec {i n : Nat} (h : i < n) : decide ((i : Int) < (n : Int)) = true := decide_eq_true (by omega)
theorem nlt_dec (n : Nat) : decide ((n : Int) < (n : Int)) = false := by simp

/-! ### notes are found -/
theorem sNote_eq {l : List Nt} {k : K} (hl : l.length ≤ 1048576) (hf : 1048576 < fl) : s_l8Find fl l k = some (noteF l k) := by
 unfold s_l8Find
 rcases loop_first0 (L := s_l8Find_L0 fl l k) (n := l.length) (fun i => (l.getD i nt0).k == k) (fun i => (i : Int)) hl hf (fun fuel i h => by
   rw [s_l8Find_L0.eq_2, lt_dec h, cot, idx_nat h, ck_succ (by omega)]
   simp only [obs, List.getD_eq_getElem?_getD, List.getElem?_eq_getElem h, Option.getD_some]) (fun fuel => by rw [s_l8Find_L0.eq_2, nlt_dec, cof]) with ⟨m, h1, h2, h3, e⟩ | ⟨h1, e⟩
 ·rw [e]; simp only [obs]
  congr 1
  refine (noteF_some h1 (by simpa [h1] using h2) fun j hj => ?_).symm
  have := h3 j hj; simpa [show j < l.length by omega] using this
 ·rw [e]; simp only [obs]
  congr 1
  refine (noteF_none fun x hx => ?_).symm
  obtain ⟨j, hj, rfl⟩ := List.getElem_of_mem hx
  have := h1 j hj; simpa [hj] using this
theorem iNote_eq {l : List Nt} {k : K} (hl : l.length ≤ 1048576) (hf : 1048576 < fl) : i_noteOf fl l k = some (noteF l k) := by
 unfold i_noteOf slices_IndexFunc_Note_of_i_noteOf_1
 rcases loop_first0 (L := slices_IndexFunc_Note_of_i_noteOf_1_L0 fl l k) (n := l.length) (fun i => (l.getD i nt0).k == k) (fun i => (i : Int)) hl hf (fun fuel i h => by
   rw [slices_IndexFunc_Note_of_i_noteOf_1_L0.eq_2, lt_dec h, cot, idx_nat h, ck_succ (by omega)]
   simp only [obs, i_noteOf_1, List.getD_eq_getElem?_getD, List.getElem?_eq_getElem h, Option.getD_some]) (fun fuel => by rw [slices_IndexFunc_Note_of_i_noteOf_1_L0.eq_2, nlt_dec, cof]) with ⟨m, h1, h2, h3, e⟩ | ⟨h1, e⟩
 ·rw [e]; simp only [obs]
  congr 1
  refine (noteF_some h1 (by simpa [h1] using h2) fun j hj => ?_).symm
  have := h3 j hj; simpa [show j < l.length by omega] using this
 ·rw [e]; simp only [obs]
  congr 1
  refine (noteF_none fun x hx => ?_).symm
  obtain ⟨j, hj, rfl⟩ := List.getElem_of_mem hx
  have := h1 j hj; simpa [hj] using this

/-! ### each once -/
def dupB (l : List Nt) (i : Nat) : Bool := decide (0 ≤ noteF (l.take i) (l.getD i nt0).k)
theorem dup_nodup {l : List Nt} : (kset l).Nodup ↔ ∀ i, i < l.length → dupB l i = false := by
 rw [List.nodup_iff_pairwise_ne, List.pairwise_iff_getElem]
 simp only [kset, List.length_map, List.getElem_map]
 constructor
 ·intro h i hi
  unfold dupB
  rw [decide_eq_false_iff_not, noteF_mem]
  intro hm
  obtain ⟨x, hx, e⟩ := List.mem_map.1 hm
  obtain ⟨j, hj, rfl⟩ := List.getElem_of_mem hx
  have hj2 : j < i := by simp at hj; omega
  have := h j i (by omega) hi hj2
  simp [hi] at e
  exact this e
 ·intro h i j hi hj hij e
  have := h j hj
  unfold dupB at this
  rw [decide_eq_false_iff_not, noteF_mem] at this
  refine this (List.mem_map.2 ⟨l[i], List.mem_take_iff_getElem.2 ⟨i, by omega, rfl⟩, ?_⟩)
  simp [hj, e]

/-! ### a processor is valid -/
def badN (t : T) (c : Cp) (i : Nat) : Bool :=
 (!keyOk (c.n.getD i nt0).k || dupB c.n i) || ((decide (noteF c.w (c.n.getD i nt0).k < 0) && (decide (findF t.f (c.n.getD i nt0).k < 0) || findF t.f (c.n.getD i nt0).k != (c.n.getD i nt0).fr)) ||
  (decide (0 ≤ noteF c.w (c.n.getD i nt0).k) && (decide (0 ≤ findF t.f (c.n.getD i nt0).k) || c.w.getD (noteF c.w (c.n.getD i nt0).k).toNat nt0 != c.n.getD i nt0)))
def badW (t : T) (c : Cp) (i : Nat) : Bool :=
 (((decide (noteF c.n (c.w.getD i nt0).k < 0) || dupB c.w i) || decide ((c.w.getD i nt0).fr < 0)) || decide ((t.f.length : Int) ≤ (c.w.getD i nt0).fr)) || (t.f.getD (c.w.getD i nt0).fr.toNat freeF).u
theorem COk_iff {t : T} {c : Cp} : COk t c ↔ (c.n.length ≤ 4 ∧ c.w.length ≤ 4) ∧ (∀ i, i < c.n.length → badN t c i = false) ∧ ∀ i, i < c.w.length → badW t c i = false := by
 constructor
 ·intro h
  refine ⟨⟨h.n4, h.w4⟩, fun i hi => ?_, fun i hi => ?_⟩
  ·have hx : c.n[i] ∈ c.n := List.getElem_mem hi
   have e : c.n.getD i nt0 = c.n[i] := by simp [hi]
   unfold badN
   rw [dup_nodup.1 h.nn i hi, e, h.nk _ hx]
   by_cases hw : noteF c.w c.n[i].k < 0
   ·obtain ⟨a, b⟩ := h.nt _ hx (noteF_neg.1 hw)
    simp [hw, a, b]
   ·obtain ⟨m, hm, e1, hk, e2⟩ := noteF_get (show 0 ≤ noteF c.w c.n[i].k by omega)
    obtain ⟨a, b⟩ := h.nw _ hx c.w[m] (List.getElem_mem hm) hk
    rw [e2, a]
    simp [hw, b]
  ·have hy : c.w[i] ∈ c.w := List.getElem_mem hi
   have e : c.w.getD i nt0 = c.w[i] := by simp [hi]
   unfold badW
   rw [dup_nodup.1 h.wn i hi, e]
   obtain ⟨⟨a, b⟩, d⟩ := h.wf _ hy
   have := noteF_mem.2 (h.ws _ hy)
   rw [d]
   simp
   omega
 ·rintro ⟨⟨h1, h2⟩, h3, h4⟩
  have hN : ∀ i, (hi : i < c.n.length) → keyOk c.n[i].k = true ∧ dupB c.n i = false ∧ (noteF c.w c.n[i].k < 0 → 0 ≤ findF t.f c.n[i].k ∧ findF t.f c.n[i].k = c.n[i].fr) ∧ (0 ≤ noteF c.w c.n[i].k → findF t.f c.n[i].k < 0 ∧ c.w.getD (noteF c.w c.n[i].k).toNat nt0 = c.n[i]) := fun i hi => by
   have e : c.n.getD i nt0 = c.n[i] := by simp [hi]
   have := h3 i hi
   unfold badN at this
   rw [e] at this
   simp only [Bool.or_eq_false_iff, Bool.and_eq_false_iff, Bool.not_eq_false', decide_eq_false_iff_not, bne_eq_false_iff_eq] at this
   obtain ⟨⟨a, b⟩, d, f⟩ := this
   refine ⟨a, b, fun hw => ?_, fun hw => ?_⟩
   ·rcases d with d | d
    ·omega
    ·exact ⟨by omega, d.2⟩
   ·rcases f with f | f
    ·omega
    ·exact ⟨by omega, f.2⟩
  have hW : ∀ i, (hi : i < c.w.length) → 0 ≤ noteF c.n c.w[i].k ∧ dupB c.w i = false ∧ (0 ≤ c.w[i].fr ∧ c.w[i].fr < t.f.length) ∧ (t.f.getD c.w[i].fr.toNat freeF).u = false := fun i hi => by
   have e : c.w.getD i nt0 = c.w[i] := by simp [hi]
   have := h4 i hi
   unfold badW at this
   rw [e] at this
   simp only [Bool.or_eq_false_iff, decide_eq_false_iff_not] at this
   obtain ⟨⟨⟨⟨a, b⟩, d⟩, f⟩, g⟩ := this
   exact ⟨by omega, b, ⟨by omega, by omega⟩, g⟩
  refine ⟨h1, h2, fun x hx => ?_, dup_nodup.2 fun i hi => (hN i hi).2.1, dup_nodup.2 fun i hi => (hW i hi).2.1, fun x hx hw => ?_, fun x hx y hy e => ?_, fun y hy => ?_, fun y hy => ?_⟩
  ·obtain ⟨i, hi, rfl⟩ := List.getElem_of_mem hx; exact (hN i hi).1
  ·obtain ⟨i, hi, rfl⟩ := List.getElem_of_mem hx
   obtain ⟨a, b⟩ := (hN i hi).2.2.1 (noteF_neg.2 hw)
   exact ⟨b, by omega⟩
  ·obtain ⟨i, hi, rfl⟩ := List.getElem_of_mem hx
   have hm : c.n[i].k ∈ kset c.w := List.mem_map.2 ⟨y, hy, e⟩
   obtain ⟨a, b⟩ := (hN i hi).2.2.2 (noteF_mem.2 hm)
   obtain ⟨m, hm', e1, hk, e2⟩ := noteF_get (noteF_mem.2 hm)
   refine ⟨?_, a⟩
   rw [e2] at b
   rw [← b]
   exact kset_inj (dup_nodup.2 fun i hi => (hW i hi).2.1) hy (List.getElem_mem hm') (e.trans hk.symm)
  ·obtain ⟨i, hi, rfl⟩ := List.getElem_of_mem hy; exact noteF_mem.1 (hW i hi).1
  ·obtain ⟨i, hi, rfl⟩ := List.getElem_of_mem hy; exact (hW i hi).2.2
noncomputable def cpuB (t : T) (c : Cp) : Bool := @decide (COk t c) (Classical.propDecidable _)
theorem cpuB_iff {t : T} {c : Cp} : cpuB t c = true ↔ COk t c := by unfold cpuB; exact @decide_eq_true_iff _ (Classical.propDecidable _)
theorem cpuB_not {t : T} {c : Cp} (h : ¬ COk t c) : cpuB t c = false := by
 cases e : cpuB t c with
 | false => rfl
 | true => exact absurd (cpuB_iff.1 e) h
theorem tk {α : Type} {l : List α} {i : Nat} (h : i < l.length) : takeO l (i : Int) = some (l.take i) := takeO_nat (by omega)
theorem len4 (n : Nat) : decide (4 < (n : Int)) = decide (4 < n) := by congr 1; apply propext; omega
theorem sCpu_eq {t : T} {c : Cp} (ht : TOk t) (hn : c.n.length ≤ 1048576) (hw : c.w.length ≤ 1048576) (hf : 1048576 < fl) : s_l8Cpu fl t c = some (cpuB t c) := by
 have g2 := ht.f2
 unfold s_l8Cpu
 rw [len4, len4]
 by_cases h1' : 4 < c.n.length
 ·rw [decide_eq_true h1', cpuB_not (fun h => by have := h.n4; omega)]; simp only [cot, obs]
 have h1 : c.n.length ≤ 4 := by omega
 by_cases h2' : 4 < c.w.length
 ·rw [decide_eq_false (by omega : ¬ 4 < c.n.length), decide_eq_true h2', cpuB_not (fun h => by have := h.w4; omega)]; simp only [cot, cof, obs]
 have h2 : c.w.length ≤ 4 := by omega
 rw [decide_eq_false (by omega : ¬ 4 < c.n.length), decide_eq_false (by omega : ¬ 4 < c.w.length)]
 simp only [cof, obs]
 rcases loop_first0 (L := s_l8Cpu_L0 fl t c) (n := c.n.length) (badN t c) (fun _ => false) hn hf (fun fuel i h => by
   rw [s_l8Cpu_L0.eq_2, lt_dec h, cot, idx_nat h, tk h, ck_succ (by omega)]
   have e : c.n.getD i nt0 = c.n[i] := by simp [h]
   unfold badN dupB
   rw [e]
   simp only [obs, sKey_eq, sNote_eq hw hf, sNote_eq (l := c.n.take i) (by simp; omega) hf]
   cases hk : keyOk c.n[i].k with
   | false => simp only [Bool.not_false, cot, obs, Bool.true_or]
   | true =>
    obtain ⟨s, hs⟩ := sFind_eq (fl := fl) ht hk hf
    simp only [Bool.not_true, cof, obs, Bool.false_or]
    cases hd : decide (0 ≤ noteF (c.n.take i) c.n[i].k) with
    | true => simp only [cot, Bool.true_or]
    | false =>
     simp only [cof, Bool.false_or, hs, obs]
     by_cases hq : noteF c.w c.n[i].k < 0
     ·rw [decide_eq_true hq, decide_eq_false (by omega : ¬ 0 ≤ noteF c.w c.n[i].k)]
      simp only [cot, cof, Bool.true_and, Bool.false_and, Bool.or_false]
      cases decide (findF t.f c.n[i].k < 0) <;> cases (findF t.f c.n[i].k != c.n[i].fr) <;> simp only [cot, cof, obs, Bool.or_true, Bool.or_false, Bool.true_or, Bool.false_or]
     ·obtain ⟨m, hm, e1, hk1, e2⟩ := noteF_get (show 0 ≤ noteF c.w c.n[i].k by omega)
      rw [decide_eq_false hq, decide_eq_true (by omega : 0 ≤ noteF c.w c.n[i].k), e2, e1, idx_nat hm]
      simp only [cot, cof, Bool.true_and, Bool.false_and, Bool.false_or, obs]
      cases decide (0 ≤ findF t.f c.n[i].k) <;> cases (c.w[m] != c.n[i]) <;> simp only [cot, cof, obs, Bool.or_true, Bool.or_false, Bool.true_or, Bool.false_or])
   (fun fuel => by rw [s_l8Cpu_L0.eq_2, nlt_dec, cof]) with ⟨m, a1, a2, _, e⟩ | ⟨a1, e⟩
 ·rw [e]; simp only [obs]
  rw [cpuB_not fun h => by have := (COk_iff.1 h).2.1 m a1; rw [a2] at this; cases this]
 rw [e]; simp only [obs]
 rcases loop_first0 (L := s_l8Cpu_L1 fl t c) (n := c.w.length) (badW t c) (fun _ => false) hw hf (fun fuel i h => by
   rw [s_l8Cpu_L1.eq_2, lt_dec h, cot, idx_nat h, tk h, ck_succ (by omega)]
   have e : c.w.getD i nt0 = c.w[i] := by simp [h]
   unfold badW dupB
   rw [e]
   simp only [obs, sNote_eq hn hf, sNote_eq (l := c.w.take i) (by simp; omega) hf]
   cases decide (noteF c.n c.w[i].k < 0) with
   | true => simp only [cot, obs, Bool.true_or]
   | false =>
    cases decide (0 ≤ noteF (c.w.take i) c.w[i].k) with
    | true => simp only [cot, cof, obs, Bool.true_or, Bool.false_or]
    | false =>
     by_cases q1 : c.w[i].fr < 0
     ·rw [decide_eq_true q1]; simp only [cot, cof, obs, Bool.true_or, Bool.false_or]
     by_cases q2 : (t.f.length : Int) ≤ c.w[i].fr
     ·rw [decide_eq_false q1, decide_eq_true q2]; simp only [cot, cof, obs, Bool.true_or, Bool.false_or]
     rw [decide_eq_false q1, decide_eq_false q2]
     obtain ⟨f, hf1⟩ : ∃ f : Nat, c.w[i].fr = f := ⟨c.w[i].fr.toNat, by omega⟩
     have hf2 : f < t.f.length := by omega
     rw [hf1, idx_nat hf2]
     simp only [cot, cof, obs, Bool.false_or, Int.toNat_natCast, List.getD_eq_getElem?_getD, List.getElem?_eq_getElem hf2, Option.getD_some])
   (fun fuel => by rw [s_l8Cpu_L1.eq_2, nlt_dec, cof]) with ⟨m, b1, b2, _, e'⟩ | ⟨b1, e'⟩
 ·rw [e']; simp only [obs]
  rw [cpuB_not fun h => by have := (COk_iff.1 h).2.2 m b1; rw [b2] at this; cases this]
 ·rw [e']; simp only [obs]
  rw [cpuB_iff.2 (COk_iff.2 ⟨⟨h1, h2⟩, a1, b1⟩)]
theorem each_eq {l : List Nt} (hl : l.length ≤ 1048576) (hf : 1048576 < fl) : ∃ b, i_each fl l = some b ∧ (b = true ↔ l.length ≤ 4 ∧ ∀ i, i < l.length → keyOk (l.getD i nt0).k = true ∧ dupB l i = false) := by
 unfold i_each
 rcases loop_first0 (L := i_each_L0 fl l) (n := l.length) (fun i => !keyOk (l.getD i nt0).k || dupB l i) (fun _ => false) hl hf (fun fuel i h => by
   rw [i_each_L0.eq_2, lt_dec h, cot, idx_nat h, tk h, ck_succ (by omega)]
   have e : l.getD i nt0 = l[i] := by simp [h]
   unfold dupB
   rw [e]
   simp only [obs, iKey_eq, iNote_eq (l := l.take i) (by simp; omega) hf]
   cases keyOk l[i].k <;> simp only [Bool.not_true, Bool.not_false, cot, cof, obs, Bool.true_or, Bool.false_or])
   (fun fuel => by rw [i_each_L0.eq_2, nlt_dec, cof]) with ⟨m, a1, a2, _, e⟩ | ⟨a1, e⟩
 ·rw [e]; simp only [obs]
  refine ⟨false, rfl, by simp, fun h => ?_⟩
  obtain ⟨b1, b2⟩ := h.2 m a1
  rw [b1, b2] at a2; cases a2
 ·rw [e]; simp only [obs]
  refine ⟨_, rfl, fun h => ⟨by have := of_decide_eq_true h; omega, fun i hi => ?_⟩, fun h => decide_eq_true (by omega)⟩
  have := a1 i hi
  simpa using this

def bad1 (t : T) (c : Cp) (i : Nat) : Bool :=
 cond (decide (0 ≤ noteF c.w (c.n.getD i nt0).k)) (c.w.getD (noteF c.w (c.n.getD i nt0).k).toNat nt0 != c.n.getD i nt0 || decide (0 ≤ findF t.f (c.n.getD i nt0).k)) (decide (findF t.f (c.n.getD i nt0).k < 0) || findF t.f (c.n.getD i nt0).k != (c.n.getD i nt0).fr)
def bad2 (t : T) (c : Cp) (i : Nat) : Bool :=
 (decide (noteF c.n (c.w.getD i nt0).k < 0) || !within (c.w.getD i nt0).fr t.f.length) || (t.f.getD (c.w.getD i nt0).fr.toNat freeF).u
theorem bad1_eq {t : T} {c : Cp} {i : Nat} : badN t c i = ((!keyOk (c.n.getD i nt0).k || dupB c.n i) || bad1 t c i) := by
 unfold badN bad1
 congr 1
 by_cases h : 0 ≤ noteF c.w (c.n.getD i nt0).k
 ·rw [decide_eq_true h, decide_eq_false (by omega : ¬ noteF c.w (c.n.getD i nt0).k < 0), cot, Bool.false_and, Bool.false_or, Bool.true_and, Bool.or_comm]
 ·rw [decide_eq_false h, decide_eq_true (by omega : noteF c.w (c.n.getD i nt0).k < 0), cof, Bool.false_and, Bool.or_false, Bool.true_and]
theorem bad2_eq {t : T} {c : Cp} {i : Nat} : badW t c i = (dupB c.w i || bad2 t c i) := by
 unfold badW bad2 within
 have e1 : decide ((c.w.getD i nt0).fr < 0) = !decide (0 ≤ (c.w.getD i nt0).fr) := by rw [← decide_not]; congr 1; apply propext; omega
 have e2 : decide ((t.f.length : Int) ≤ (c.w.getD i nt0).fr) = !decide ((c.w.getD i nt0).fr < (t.f.length : Int)) := by rw [← decide_not]; congr 1; apply propext; omega
 rw [e1, e2]
 cases decide (noteF c.n (c.w.getD i nt0).k < 0) <;> cases dupB c.w i <;> cases decide (0 ≤ (c.w.getD i nt0).fr) <;> cases decide ((c.w.getD i nt0).fr < (t.f.length : Int)) <;> rfl
theorem iL1_eq {s : Sy} {c : Cp} (ht : s.t.f.length ≤ 1048576) (hn : c.n.length ≤ 1048576) (hw : c.w.length ≤ 1048576) (hf : 1048576 < fl) :
  (∃ m, m < c.n.length ∧ bad1 s.t c m = true ∧ (∀ j, j < m → bad1 s.t c j = false) ∧ i_SystemValid_L1 fl s c fl 0 = some (.ret false)) ∨ ((∀ j, j < c.n.length → bad1 s.t c j = false) ∧ i_SystemValid_L1 fl s c fl 0 = some (.out (c.n.length : Int))) :=
 loop_first0 (L := i_SystemValid_L1 fl s c) (n := c.n.length) (bad1 s.t c) (fun _ => false) hn hf (fun fuel i h => by
   rw [i_SystemValid_L1.eq_2, lt_dec h, cot, idx_nat h, ck_succ (by omega)]
   have e : c.n.getD i nt0 = c.n[i] := by simp [h]
   unfold bad1
   rw [e]
   simp only [obs, find_eq ht hf, iNote_eq hw hf]
   by_cases hq : 0 ≤ noteF c.w c.n[i].k
   ·obtain ⟨m, hm, e1, hk1, e2⟩ := noteF_get hq
    rw [decide_eq_true hq, e2, e1, idx_nat hm]
    simp only [cot, obs]
    cases (c.w[m] != c.n[i]) <;> simp only [cot, cof, obs, Bool.true_or, Bool.false_or]
   ·rw [decide_eq_false hq]
    simp only [cof]
    cases decide (findF s.t.f c.n[i].k < 0) <;> simp only [cot, cof, obs, Bool.true_or, Bool.false_or])
   (fun fuel => by rw [i_SystemValid_L1.eq_2, nlt_dec, cof])
theorem iL2_eq {s : Sy} {c : Cp} (ht : s.t.f.length ≤ 1048576) (hn : c.n.length ≤ 1048576) (hw : c.w.length ≤ 1048576) (hf : 1048576 < fl) :
  (∃ m, m < c.w.length ∧ bad2 s.t c m = true ∧ (∀ j, j < m → bad2 s.t c j = false) ∧ i_SystemValid_L2 fl s c fl 0 = some (.ret false)) ∨ ((∀ j, j < c.w.length → bad2 s.t c j = false) ∧ i_SystemValid_L2 fl s c fl 0 = some (.out (c.w.length : Int))) :=
 loop_first0 (L := i_SystemValid_L2 fl s c) (n := c.w.length) (bad2 s.t c) (fun _ => false) hw hf (fun fuel i h => by
   rw [i_SystemValid_L2.eq_2, lt_dec h, cot, idx_nat h, ck_succ (by omega)]
   have e : c.w.getD i nt0 = c.w[i] := by simp [h]
   unfold bad2
   rw [e]
   simp only [obs, iNote_eq hn hf, within_eq]
   cases decide (noteF c.n c.w[i].k < 0) with
   | true => simp only [cot, obs, Bool.true_or]
   | false =>
    cases hq : within c.w[i].fr s.t.f.length with
    | false => simp only [cot, cof, obs, Bool.not_false, Bool.true_or, Bool.false_or]
    | true =>
     have := within_iff.1 hq
     obtain ⟨f, hf1⟩ : ∃ f : Nat, c.w[i].fr = f := ⟨c.w[i].fr.toNat, by omega⟩
     have hf2 : f < s.t.f.length := by omega
     rw [hf1, idx_nat hf2]
     simp only [cot, cof, obs, Bool.not_true, Bool.false_or, Int.toNat_natCast, List.getD_eq_getElem?_getD, List.getElem?_eq_getElem hf2, Option.getD_some])
   (fun fuel => by rw [i_SystemValid_L2.eq_2, nlt_dec, cof])
/-- small enough that nothing overflows -/
def small (s : Sy) : Prop := s.t.b.length + s.t.f.length ≤ 1048576 ∧ s.c.length ≤ 1048576 ∧ ∀ c ∈ s.c, c.n.length + c.w.length ≤ 1048576
theorem sysOk_of {s : Sy} : sysOk s = (tableOk s.t && (decide (1 ≤ s.c.length) && decide (s.c.length ≤ 4)) && (List.range s.c.length).all fun i => cpuB s.t (s.c.getD i cp0)) := by
 rw [Bool.eq_iff_iff, sysOk_iff]
 simp only [Bool.and_eq_true, decide_eq_true_eq, List.all_eq_true, List.mem_range, cpuB_iff, tableOk_iff]
 constructor
 ·intro h
  exact ⟨⟨h.t, h.c1, h.c2⟩, fun i hi => h.c _ (by simp [hi])⟩
 ·rintro ⟨⟨h1, h2, h3⟩, h4⟩
  refine ⟨h1, h2, h3, fun c hc => ?_⟩
  obtain ⟨i, hi, rfl⟩ := List.getElem_of_mem hc
  have := h4 i hi
  simpa [hi] using this
theorem valid_fin {s : Sy} (h1 : tableOk s.t = true) (h2 : 1 ≤ s.c.length) (h3 : s.c.length ≤ 4) : sysOk s = (List.range s.c.length).all fun i => cpuB s.t (s.c.getD i cp0) := by
 rw [sysOk_of, h1, decide_eq_true h2, decide_eq_true h3]; simp only [Bool.true_and]
theorem all_no {n m : Nat} {p : Nat → Bool} (h : m < n) (hp : p m = false) : (List.range n).all p = false := by
 rw [List.all_eq_false]; exact ⟨m, List.mem_range.2 h, by simp [hp]⟩
theorem all_yes {n : Nat} {p : Nat → Bool} (h : ∀ j, j < n → p j = true) : (List.range n).all p = true := by
 rw [List.all_eq_true]; exact fun x hx => h x (List.mem_range.1 hx)
theorem lt1 (n : Nat) : decide ((n : Int) < 1) = !decide (1 ≤ n) := by rw [← decide_not]; congr 1; apply propext; omega
theorem gt4 (n : Nat) : decide (4 < (n : Int)) = !decide (n ≤ 4) := by rw [← decide_not]; congr 1; apply propext; omega
theorem sValid_eq {s : Sy} (hs : small s) (hf : 1048576 < fl) : s_SystemValid fl s = some (sysOk s) := by
 unfold s_SystemValid s_TableValid
 rw [lt1, gt4]
 cases h1 : tableOk s.t with
 | false => rw [sysOk_of, h1]; simp [obs]
 | true =>
  simp only [obs, Bool.not_true, cof]
  by_cases h2 : 1 ≤ s.c.length
  case neg => rw [sysOk_of, decide_eq_false h2]; simp [obs]
  by_cases h3 : s.c.length ≤ 4
  case neg => rw [sysOk_of, decide_eq_true h2, decide_eq_false h3]; simp [obs]
  rw [valid_fin h1 h2 h3, decide_eq_true h2, decide_eq_true h3]
  simp only [Bool.not_true, cof, obs]
  rcases loop_first0 (L := s_SystemValid_L0 fl s) (n := s.c.length) (fun i => !cpuB s.t (s.c.getD i cp0)) (fun _ => false) hs.2.1 hf (fun fuel i h => by
    rw [s_SystemValid_L0.eq_2, lt_dec h, cot, idx_nat h, ck_succ (by omega)]
    have e : s.c.getD i cp0 = s.c[i] := by simp [h]
    have hc := hs.2.2 s.c[i] (List.getElem_mem h)
    rw [e]
    simp only [obs, sCpu_eq (tableOk_iff.1 h1) (by omega : s.c[i].n.length ≤ 1048576) (by omega) hf])
    (fun fuel => by rw [s_SystemValid_L0.eq_2, nlt_dec, cof]) with ⟨m, a1, a2, _, e⟩ | ⟨a1, e⟩
  ·rw [e]; simp only [obs]; rw [all_no a1 (by simpa using a2)]
  ·rw [e]; simp only [obs]; rw [all_yes (fun j hj => by simpa using a1 j hj)]
theorem iCpu_bad {t : T} {c : Cp} {b1 b2 : Bool} (e1 : b1 = true ↔ c.n.length ≤ 4 ∧ ∀ i, i < c.n.length → keyOk (c.n.getD i nt0).k = true ∧ dupB c.n i = false) (e2 : b2 = true ↔ c.w.length ≤ 4 ∧ ∀ i, i < c.w.length → keyOk (c.w.getD i nt0).k = true ∧ dupB c.w i = false) :
  COk t c ↔ b1 = true ∧ b2 = true ∧ (∀ i, i < c.n.length → bad1 t c i = false) ∧ ∀ i, i < c.w.length → bad2 t c i = false := by
 constructor
 ·intro h
  obtain ⟨⟨a, b⟩, h3, h4⟩ := COk_iff.1 h
  refine ⟨e1.2 ⟨a, fun i hi => ?_⟩, e2.2 ⟨b, fun i hi => ?_⟩, fun i hi => ?_, fun i hi => ?_⟩
  ·have := h3 i hi; rw [bad1_eq] at this; simp only [Bool.or_eq_false_iff, Bool.not_eq_false'] at this; exact this.1
  ·have := h4 i hi; rw [bad2_eq] at this; simp only [Bool.or_eq_false_iff] at this
   refine ⟨?_, this.1⟩
   have hm : c.w[i] ∈ c.w := List.getElem_mem hi
   have := h.nk _ (h.wsub _ hm)
   simpa [hi] using this
  ·have := h3 i hi; rw [bad1_eq] at this; simp only [Bool.or_eq_false_iff] at this; exact this.2
  ·have := h4 i hi; rw [bad2_eq] at this; simp only [Bool.or_eq_false_iff] at this; exact this.2
 ·rintro ⟨h1, h2, h3, h4⟩
  obtain ⟨a, a'⟩ := e1.1 h1
  obtain ⟨b, b'⟩ := e2.1 h2
  exact COk_iff.2 ⟨⟨a, b⟩, fun i hi => by rw [bad1_eq, (a' i hi).1, (a' i hi).2, h3 i hi]; rfl, fun i hi => by rw [bad2_eq, (b' i hi).2, h4 i hi]; rfl⟩
theorem iValid_eq {s : Sy} (hs : small s) (hf : 1048576 < fl) : i_SystemValid fl s = some (sysOk s) := by
 unfold i_SystemValid i_TableValid
 rw [lt1, gt4]
 cases h1 : tableOk s.t with
 | false => rw [sysOk_of, h1]; simp [obs]
 | true =>
  simp only [obs, Bool.not_true, cof]
  by_cases h2 : 1 ≤ s.c.length
  case neg => rw [sysOk_of, decide_eq_false h2]; simp [obs]
  by_cases h3 : s.c.length ≤ 4
  case neg => rw [sysOk_of, decide_eq_true h2, decide_eq_false h3]; simp [obs]
  rw [valid_fin h1 h2 h3, decide_eq_true h2, decide_eq_true h3]
  simp only [Bool.not_true, cof, obs]
  rcases loop_first0 (L := i_SystemValid_L0 fl s) (n := s.c.length) (fun i => !cpuB s.t (s.c.getD i cp0)) (fun _ => false) hs.2.1 hf (fun fuel i h => by
    rw [i_SystemValid_L0.eq_2, lt_dec h, cot, idx_nat h, ck_succ (by omega)]
    have e : s.c.getD i cp0 = s.c[i] := by simp [h]
    have hc := hs.2.2 s.c[i] (List.getElem_mem h)
    have ht : s.t.f.length ≤ 1048576 := by have := hs.1; omega
    rw [e]
    obtain ⟨b1, q1, e1⟩ := each_eq (fl := fl) (l := s.c[i].n) (by omega) hf
    obtain ⟨b2, q2, e2⟩ := each_eq (fl := fl) (l := s.c[i].w) (by omega) hf
    have key := iCpu_bad (t := s.t) e1 e2
    simp only [obs, q1, q2]
    cases b1 with
    | false => rw [cpuB_not (fun h => by cases (key.1 h).1)]; simp only [Bool.not_false, cot, obs]
    | true =>
     cases b2 with
     | false => rw [cpuB_not (fun h => by cases (key.1 h).2.1)]; simp only [Bool.not_false, Bool.not_true, cof, cot, obs]
     | true =>
      simp only [Bool.not_true, cof, obs]
      rcases iL1_eq (fl := fl) (s := s) (c := s.c[i]) ht (by omega) (by omega) hf with ⟨m, a1, a2, _, e⟩ | ⟨a1, e⟩
      ·rw [e, cpuB_not (fun h => by have := (key.1 h).2.2.1 m a1; rw [a2] at this; cases this)]; simp only [Bool.not_false, cot, obs]
      rw [e]; simp only [obs]
      rcases iL2_eq (fl := fl) (s := s) (c := s.c[i]) ht (by omega) (by omega) hf with ⟨m, a3, a4, _, e⟩ | ⟨a3, e⟩
      ·rw [e, cpuB_not (fun h => by have := (key.1 h).2.2.2 m a3; rw [a4] at this; cases this)]; simp only [Bool.not_false, cot, obs]
      rw [e, cpuB_iff.2 (key.2 ⟨rfl, rfl, a1, a3⟩)]; simp only [Bool.not_true, cof, obs])
    (fun fuel => by rw [i_SystemValid_L0.eq_2, nlt_dec, cof]) with ⟨m, a1, a2, _, e⟩ | ⟨a1, e⟩
  ·rw [e]; simp only [obs]; rw [all_no a1 (by simpa using a2)]
  ·rw [e]; simp only [obs]; rw [all_yes (fun j hj => by simpa using a1 j hj)]

def tot : List Cp → Nat
 | [] => 0
 | c :: l => c.n.length + c.w.length + tot l
theorem tot_mem {l : List Cp} {c : Cp} (h : c ∈ l) : c.n.length + c.w.length ≤ tot l := by
 induction l with
 | nil => cases h
 | cons d l ih =>
  rcases List.mem_cons.1 h with e | e
  ·subst e; simp only [tot]; omega
  ·have := ih e; simp only [tot]; omega
structure sm (s : Sy) : Prop where
 t : s.t.b.length + s.t.f.length ≤ 1048576
 c : s.c.length + tot s.c ≤ 1048576
theorem sm.small {s : Sy} (h : sm s) : small s := ⟨h.t, by have := h.c; omega, fun c hc => by have := tot_mem hc; have := h.c; omega⟩
/-! ### copies -/
theorem all_of {α : Type} {v a : List α} (hl : v.length = a.length) (h : ∀ j, j < a.length → v[j]? = a[j]?) : v = a := by
 apply List.ext_getElem?
 intro j
 by_cases hj : j < a.length
 ·exact h j hj
 ·rw [List.getElem?_eq_none (by omega), List.getElem?_eq_none (by omega)]
/-! ### equality -/

theorem take_s {α : Type} : ∀ {l : List α} {i : Nat} (h : i < l.length), l.take (i + 1) = l.take i ++ [l[i]]
 | [], i, h => by simp at h
 | x :: l, 0, h => by simp
 | x :: l, i + 1, h => by
  have := take_s (l := l) (i := i) (by simpa using h)
  simp only [List.take_succ_cons, this, List.getElem_cons_succ, List.cons_append]
/-! ### copies -/
theorem sCopy_eq {s : Sy} (h : small s) (hf : 1048576 < fl) : s_l8Copy fl s = some s := by
 unfold s_l8Copy
 rw [copy_eq h.1]
 simp only [obs]
 obtain ⟨v, h1, e⟩ := loop_fold0 (L := fun fu v i => s_l8Copy_L0 fl s fu v i) (n := s.c.length) (fun i v => v ++ [s.c.getD i cp0]) (fun i v => v = s.c.take i) (fun v => LO.out (v, (s.c.length : Int))) h.2.1 hf [] (by simp)
  (fun fuel i v hi hI => by
   subst hI
   have hc := h.2.2 s.c[i] (List.getElem_mem hi)
   have hn := h.2.1
   have eg : s.c.getD i cp0 = s.c[i] := by simp [hi]
   refine ⟨?_, by rw [take_s hi, eg]⟩
   show s_l8Copy_L0 fl s (fuel + 1) _ i = _
   rw [s_l8Copy_L0.eq_2, lt_dec hi, cot, idx_nat hi, ck_succ (by omega), eg]
   simp only [obs, List.nil_append]
   rw [cnt_in (by omega)]
   simp only [obs]
   rw [cnt_in (by omega)]
   simp only [obs]
   rw [cnt_in (by simp; omega)]
   simp only [obs])
  (fun fuel v hv => by show s_l8Copy_L0 fl s (fuel + 1) v _ = _; rw [s_l8Copy_L0.eq_2, nlt_dec, cof])
 rw [show s_l8Copy_L0 fl s fl [] 0 = _ from e]
 simp only [obs, h1, List.take_length]
/-! ### a key is dropped -/
theorem dropN_snoc {l : List Nt} {x : Nt} {k : K} : dropN (l ++ [x]) k = dropN l k ++ (if x.k = k then [] else [x]) := by
 unfold dropN
 rw [List.filter_append]
 congr 1
 by_cases h : x.k = k <;> simp [h]
theorem sDrop_eq {l : List Nt} {k : K} (hl : l.length ≤ 1048576) (hf : 1048576 < fl) : s_l8Without fl l k = some (dropN l k) := by
 unfold s_l8Without
 obtain ⟨v, h1, e⟩ := loop_fold0 (L := fun fu v i => s_l8Without_L0 fl l k fu v i) (n := l.length) (fun i v => if (l.getD i nt0).k = k then v else v ++ [l.getD i nt0]) (fun i v => v = dropN (l.take i) k) (fun v => LO.out (v, (l.length : Int))) hl hf [] (by simp [dropN])
  (fun fuel i v hi hI => by
   subst hI
   have eg : l.getD i nt0 = l[i] := by simp [hi]
   have hle : (dropN (l.take i) k).length ≤ i := Nat.le_trans dropN_le (by simp; omega)
   refine ⟨?_, ?_⟩
   ·show s_l8Without_L0 fl l k (fuel + 1) _ i = _
    rw [s_l8Without_L0.eq_2, lt_dec hi, cot, idx_nat hi, ck_succ (by omega), eg]
    simp only [obs]
    by_cases hk : l[i].k = k
    ·rw [show (l[i].k != k) = false from by simpa using hk, cof, if_pos hk]
    ·rw [show (l[i].k != k) = true from by simpa using hk, cot, if_neg hk, cnt_in (by simp; omega)]; simp only [obs]
   ·rw [take_s hi, dropN_snoc, eg]
    by_cases hk : l[i].k = k
    ·rw [if_pos hk, if_pos hk, List.append_nil]
    ·rw [if_neg hk, if_neg hk])
  (fun fuel v hv => by show s_l8Without_L0 fl l k (fuel + 1) v _ = _; rw [s_l8Without_L0.eq_2, nlt_dec, cof])
 rw [show s_l8Without_L0 fl l k fl ([] : List Nt) 0 = _ from e]
 simp only [obs, h1, List.take_length]
/-! ### giving up -/
theorem sAck_eq {c : Cp} (hn : c.n.length ≤ 1048576) (hw : c.w.length ≤ 1048576) (hf : 1048576 < fl) : s_l8Ack fl c = some (ackC c) := by
 unfold s_l8Ack
 obtain ⟨v, h1, e⟩ := loop_fold0 (L := fun fu v i => s_l8Ack_L0 fl c fu v i) (n := c.n.length) (fun i v => if noteF c.w (c.n.getD i nt0).k < 0 then v ++ [c.n.getD i nt0] else v) (fun i v => v = (c.n.take i).filter (fun x => decide (x.k ∉ kset c.w))) (fun v => LO.out (v, (c.n.length : Int))) hn hf [] (by simp)
  (fun fuel i v hi hI => by
   subst hI
   have eg : c.n.getD i nt0 = c.n[i] := by simp [hi]
   have hle : ((c.n.take i).filter (fun x => decide (x.k ∉ kset c.w))).length ≤ i := Nat.le_trans (List.length_filter_le _ _) (by simp; omega)
   refine ⟨?_, ?_⟩
   ·show s_l8Ack_L0 fl c (fuel + 1) _ i = _
    rw [s_l8Ack_L0.eq_2, lt_dec hi, cot, idx_nat hi, ck_succ (by omega), eg]
    simp only [obs, sNote_eq hw hf]
    by_cases hk : noteF c.w c.n[i].k < 0
    ·rw [decide_eq_true hk, cot, if_pos hk, cnt_in (by simp only [List.length_append, List.length_singleton]; omega)]; simp only [obs]
    ·rw [decide_eq_false hk, cof, if_neg hk]
   ·rw [take_s hi, List.filter_append, eg]
    by_cases hk : noteF c.w c.n[i].k < 0
    ·rw [if_pos hk]
     congr 1
     have := noteF_neg.1 hk
     simp [this]
    ·rw [if_neg hk]
     have : c.n[i].k ∈ kset c.w := noteF_mem.1 (by omega)
     simp [this])
  (fun fuel v hv => by show s_l8Ack_L0 fl c (fuel + 1) v _ = _; rw [s_l8Ack_L0.eq_2, nlt_dec, cof])
 rw [show s_l8Ack_L0 fl c fl [] 0 = _ from e]
 simp only [obs, h1, List.take_length]
 rfl

theorem tot_le {l : List Cp} {t : T} (h : ∀ c ∈ l, COk t c) : tot l ≤ 8 * l.length := by
 induction l with
 | nil => simp [tot]
 | cons c l ih =>
  have := ih fun d hd => h d (by simp [hd])
  have h1 := (h c (by simp)).n4
  have h2 := (h c (by simp)).w4
  simp only [tot, List.length_cons]; omega
theorem SyOk.sm {s : Sy} (h : SyOk s) : Go.Proofs.YtciliaiocakdkaaDoor.sm s := by
 have h1 := h.t.f2
 have h2 := h.t.b2
 have h3 := h.c2
 have h4 := tot_le h.c
 exact ⟨by omega, by omega⟩
theorem SyOk.ctab {s : Sy} (h : SyOk s) {i : Nat} (hi : i < s.c.length) {c : Cp} (hc : COk s.t c) : SyOk ⟨s.t, s.c.set i c⟩ :=
 ⟨h.t, by simpa using h.c1, by simpa using h.c2, fun d hd => by
  rcases List.mem_or_eq_of_mem_set hd with e | e
  ·exact h.c d e
  ·subst e; exact hc⟩
theorem wthn {a : Int} {n : Nat} (h : within a n = true) : ∃ i : Nat, a = i ∧ i < n := by
 have := within_iff.1 h
 exact ⟨a.toNat, by omega, by omega⟩
theorem right_eq {s : Sy} {cpu : Int} (hs : small s) (hf : 1048576 < fl) : s_l8Right fl s cpu = some (sysOk s && within cpu s.c.length) := by
 unfold s_l8Right within
 rw [sValid_eq hs hf]
 simp only [obs]
 cases sysOk s <;> cases decide (0 ≤ cpu) <;> simp only [cot, cof, obs, Bool.true_and, Bool.false_and]
/-! ### giving up -/
theorem sAckCpu_eq {s : Sy} {cpu : Int} (hs : small s) (hf : 1048576 < fl) : s_AckCpu fl s cpu = some (ackS s cpu) := by
 unfold s_AckCpu ackS
 rw [right_eq hs hf]
 simp only [obs]
 cases h : (sysOk s && within cpu s.c.length) with
 | false => simp [obs, sy0]
 | true =>
  simp only [Bool.and_eq_true] at h
  obtain ⟨i, rfl, hi⟩ := wthn h.2
  have hc := hs.2.2 s.c[i] (List.getElem_mem hi)
  have eg : s.c.getD i cp0 = s.c[i] := by simp [hi]
  simp only [Bool.not_true, cof, if_true, Int.toNat_natCast, eg]
  rw [sCopy_eq hs hf]
  simp only [obs]
  rw [idx_nat hi]
  simp only [obs]
  rw [sAck_eq (by omega) (by omega) hf]
  simp only [obs, Int.toNat_natCast]
theorem ackS_ok {s : Sy} {cpu : Int} (h : (ackS s cpu).2 = true) : SyOk s ∧ SyOk (ackS s cpu).1 ∧ ∃ i : Nat, cpu = i ∧ ∃ hi : i < s.c.length, ackS s cpu = (⟨s.t, s.c.set i (ackC s.c[i])⟩, true) := by
 unfold ackS at h ⊢
 split at h
 ·rename_i hc
  have hc' := hc
  simp only [Bool.and_eq_true] at hc
  have hv := sysOk_iff.1 hc.1
  obtain ⟨i, rfl, hi⟩ := wthn hc.2
  have eg : s.c.getD i cp0 = s.c[i] := by simp [hi]
  rw [if_pos hc']
  simp only [Int.toNat_natCast, eg]
  exact ⟨hv, hv.ctab hi (hv.c _ (List.getElem_mem hi)).ack, i, rfl, hi, rfl⟩
 ·cases h
/-! ### settling -/
/-! ### looking -/
theorem sLook_eq {s : Sy} {cpu : Int} {k : K} (hs : small s) (hf : 1048576 < fl) : s_LookCpu fl s cpu k = some (lookR s cpu k) := by
 unfold s_LookCpu lookR
 rw [right_eq hs hf]
 simp only [obs, sKey_eq]
 cases h : (sysOk s && within cpu s.c.length) with
 | false => simp [obs, sy0]
 | true =>
  cases hk : keyOk k with
  | false => simp [obs, sy0]
  | true =>
   simp only [Bool.and_eq_true] at h
   obtain ⟨i, rfl, hi⟩ := wthn h.2
   have hc := hs.2.2 s.c[i] (List.getElem_mem hi)
   have hvs := sysOk_iff.1 h.1
   have hv := hvs.c _ (List.getElem_mem hi)
   have eg : s.c.getD i cp0 = s.c[i] := by simp [hi]
   have ht := hs.1
   simp only [Bool.not_true, cof, obs, Bool.and_self, if_true, Int.toNat_natCast, eg]
   rw [sCopy_eq hs hf]
   simp only [obs]
   rw [idx_nat hi]
   simp only [obs, sNote_eq (by omega : s.c[i].n.length ≤ 1048576) hf]
   by_cases hn : 0 ≤ noteF s.c[i].n k
   ·obtain ⟨m, hm, e1, _, e2⟩ := noteF_get hn
    rw [decide_eq_true hn, cot, if_pos hn, e2, e1, idx_nat hm]; simp only [obs]
   ·rw [decide_eq_false hn, cof, if_neg hn]
    obtain ⟨q, hq⟩ := sFind_eq (fl := fl) hvs.t hk hf
    rw [hq]
    simp only [obs]
    by_cases hg : findF s.t.f k < 0
    ·rw [decide_eq_true hg, cot, if_pos hg]
    ·rw [decide_eq_false hg, cof, if_neg hg]
     have h4 := hv.n4
     have hw4 := hv.w4
     unfold addC
     by_cases hl : s.c[i].n.length = 4
     ·rw [show (((s.c[i].n).length : Int) == 4) = true from by rw [hl]; rfl, cot, if_pos hl]
      have h0 : 0 < s.c[i].n.length := by omega
      rw [show (0 : Int) = ((0 : Nat) : Int) from rfl, idx_nat h0]
      have eg0 : s.c[i].n.getD 0 nt0 = s.c[i].n[0] := by simp [h0]
      simp only [obs, eg0]
      rw [sDrop_eq (by omega) hf]
      simp only [obs]
      rw [sDrop_eq (by omega) hf]
      simp only [obs]
      rw [cnt_in (by have := dropN_le (l := s.c[i].n) (k := s.c[i].n[0].k); simp; omega)]
      simp only [obs, Int.toNat_natCast]
     ·rw [show (((s.c[i].n).length : Int) == 4) = false from by simp; omega, cof, if_neg hl]
      rw [cnt_in (by simp; omega)]
      simp only [obs, Int.toNat_natCast]
/-- what looking returns -/
theorem lookR_ok {s : Sy} {cpu : Int} {k : K} (h : (lookR s cpu k).2.2.2 = true) : SyOk s ∧ keyOk k = true ∧ ∃ i : Nat, cpu = i ∧ ∃ hi : i < s.c.length,
  (∃ m, ∃ hm : m < s.c[i].n.length, s.c[i].n[m].k = k ∧ lookR s cpu k = (s, s.c[i].n[m].fr, 1, true)) ∨ (k ∉ kset s.c[i].n ∧ findF s.t.f k < 0 ∧ lookR s cpu k = (s, 0, 3, true)) ∨
  (k ∉ kset s.c[i].n ∧ 0 ≤ findF s.t.f k ∧ lookR s cpu k = (⟨s.t, s.c.set i (addC s.c[i] ⟨k, findF s.t.f k⟩)⟩, findF s.t.f k, 2, true)) := by
 unfold lookR at h ⊢
 split at h
 ·rename_i hc
  have hc' := hc
  simp only [Bool.and_eq_true] at hc
  obtain ⟨⟨h1, h2⟩, h3⟩ := hc
  obtain ⟨i, rfl, hi⟩ := wthn h2
  have eg : s.c.getD i cp0 = s.c[i] := by simp [hi]
  rw [if_pos hc']
  simp only [Int.toNat_natCast, eg]
  refine ⟨sysOk_iff.1 h1, h3, i, rfl, hi, ?_⟩
  by_cases hn : 0 ≤ noteF s.c[i].n k
  ·obtain ⟨m, hm, e1, e3, e2⟩ := noteF_get hn
   left
   rw [if_pos hn, e2]
   exact ⟨m, hm, e3, rfl⟩
  ·right
   rw [if_neg hn]
   have hk : k ∉ kset s.c[i].n := noteF_neg.1 (by omega)
   by_cases hg : findF s.t.f k < 0
   ·left; rw [if_pos hg]; exact ⟨hk, hg, rfl⟩
   ·right; rw [if_neg hg]; exact ⟨hk, by omega, rfl⟩
 ·cases h
theorem lookR_valid {s : Sy} {cpu : Int} {k : K} (h : (lookR s cpu k).2.2.2 = true) : SyOk (lookR s cpu k).1 := by
 obtain ⟨hv, hk, i, rfl, hi, ⟨m, hm, _, e⟩ | ⟨_, _, e⟩ | ⟨hn, hg, e⟩⟩ := lookR_ok h
 ·rw [e]; exact hv
 ·rw [e]; exact hv
 ·rw [e]; exact hv.ctab hi ((hv.c _ (List.getElem_mem hi)).add hk hn hg)


def hitB (fr : Int) (k : K) (x : Nt) : Bool := x.fr == fr || x.k == k
theorem heldB_eq (s : Sy) (fr : Int) (k : K) : heldB s fr k = s.c.any fun c => c.w.any (hitB fr k) := rfl
theorem sHeld_L1 {s : Sy} {fr : Int} {k : K} {i : Nat} (hi : i < s.c.length) (hw : s.c[i].w.length ≤ 1048576) (hf : 1048576 < fl) :
  (s.c[i].w.any (hitB fr k) = true ∧ s_l8Held_L1 fl s fr k (i : Int) fl 0 = some (.ret true)) ∨ (s.c[i].w.any (hitB fr k) = false ∧ ∃ v, s_l8Held_L1 fl s fr k (i : Int) fl 0 = some (.out v)) := by
 rcases loop_first0 (L := s_l8Held_L1 fl s fr k (i : Int)) (n := s.c[i].w.length) (fun j => hitB fr k (s.c[i].w.getD j nt0)) (fun _ => true) hw hf (fun fuel j h => by
   rw [s_l8Held_L1.eq_2, idx_nat hi]
   simp only [obs]
   rw [lt_dec h, cot, idx_nat h, ck_succ (by omega)]
   have eg : s.c[i].w.getD j nt0 = s.c[i].w[j] := by simp [h]
   rw [eg]
   unfold hitB
   simp only [obs]
   cases (s.c[i].w[j].fr == fr) <;> simp only [cot, cof, obs, Bool.true_or, Bool.false_or]) (fun fuel => by rw [s_l8Held_L1.eq_2, idx_nat hi]; simp only [obs]; rw [nlt_dec, cof]) with ⟨m, h1, h2, h3, e⟩ | ⟨h1, e⟩
 ·left
  refine ⟨?_, e⟩
  rw [List.any_eq_true]
  exact ⟨s.c[i].w[m], List.getElem_mem h1, by simpa [h1] using h2⟩
 ·right
  refine ⟨?_, _, e⟩
  rw [List.any_eq_false]
  intro x hx
  obtain ⟨j, hj, rfl⟩ := List.getElem_of_mem hx
  have := h1 j hj
  simpa [hj] using this
theorem sHeld_eq {s : Sy} {fr : Int} {k : K} (hs : small s) (hf : 1048576 < fl) : s_l8Held fl s fr k = some (heldB s fr k) := by
 unfold s_l8Held
 rcases loop_first0 (L := s_l8Held_L0 fl s fr k) (n := s.c.length) (fun i => (s.c.getD i cp0).w.any (hitB fr k)) (fun _ => true) hs.2.1 hf (fun fuel i hi => by
   have hc := hs.2.2 s.c[i] (List.getElem_mem hi)
   have eg : s.c.getD i cp0 = s.c[i] := by simp [hi]
   rw [s_l8Held_L0.eq_2, lt_dec hi, cot, ck_succ (by have := hs.2.1; omega), eg]
   rcases sHeld_L1 (fl := fl) (fr := fr) (k := k) hi (by omega) hf with ⟨a, e⟩ | ⟨a, v, e⟩
   ·rw [e, a]; simp only [obs, cot]
   ·rw [e, a]; simp only [obs, cof]) (fun fuel => by rw [s_l8Held_L0.eq_2, nlt_dec, cof]) with ⟨m, h1, h2, h3, e⟩ | ⟨h1, e⟩
 ·rw [e]; simp only [obs]
  congr 1; symm
  rw [heldB_eq, List.any_eq_true]
  exact ⟨s.c[m], List.getElem_mem h1, by simpa [h1] using h2⟩
 ·rw [e]; simp only [obs]
  congr 1; symm
  rw [heldB_eq, List.any_eq_false]
  intro c hc
  obtain ⟨j, hj, rfl⟩ := List.getElem_of_mem hc
  have := h1 j hj
  simpa [hj] using this
theorem sMapS_eq {s : Sy} {k : K} {fr r : Int} (hs : small s) (hf : 1048576 < fl) : s_MapSystem fl s k fr r = some (mapS s k fr r) := by
 unfold s_MapSystem mapS
 rw [sValid_eq hs hf]
 simp only [obs]
 cases h : sysOk s with
 | false => simp [obs, sy0]
 | true =>
  simp only [Bool.not_true, cof, Bool.true_and]
  rw [sHeld_eq hs hf]
  simp only [obs]
  cases heldB s fr k with
  | true => simp only [cot]; rfl
  | false =>
   simp only [cof, Bool.not_false, Bool.true_and]
   rw [sMap_eq hf]
   simp only [obs]
   cases hm : (mapR s.t k fr r).2 with
   | false => simp only [Bool.not_false, cot]; rfl
   | true =>
    simp only [Bool.not_true, cof, if_true]
    rw [sCopy_eq hs hf]; simp only [obs]
theorem heldB_no {s : Sy} {fr : Int} {k : K} (h : heldB s fr k = false) : ∀ c ∈ s.c, ∀ y ∈ c.w, y.fr ≠ fr ∧ y.k ≠ k := fun c hc y hy => by
 rw [heldB_eq, List.any_eq_false] at h
 have h1 := h c hc
 rw [Bool.not_eq_true, List.any_eq_false] at h1
 have h2 := h1 y hy
 simp only [hitB, Bool.or_eq_true, beq_iff_eq, not_or] at h2
 exact h2
/-- what mapping a page of a table returns -/
theorem mapR_ok {t : T} {k : K} {fr r : Int} (h : (mapR t k fr r).2 = true) : ∃ i : Nat, fr = i ∧ CanMap t k i r ∧ mapR t k fr r = (mapT t k i r, true) := by
 unfold mapR at h ⊢
 split at h
 ·rename_i hc
  have hc' := hc
  simp only [Bool.and_eq_true, decide_eq_true_eq, Bool.not_eq_true'] at hc
  obtain ⟨⟨⟨⟨⟨h1, h2⟩, h3⟩, h4⟩, h5⟩, h6⟩ := hc
  obtain ⟨i, rfl, hi⟩ := wthn h4
  rw [if_pos hc']
  refine ⟨i, rfl, ?_, by rw [Int.toNat_natCast]⟩
  rw [Int.toNat_natCast] at h5
  have hu : t.f[i].u = false := by simpa [hi] using h5
  exact ⟨tableOk_iff.1 h1, h2, h6, hi, hu, h3⟩
 ·cases h
theorem mapS_ok {s : Sy} {k : K} {fr r : Int} (h : (mapS s k fr r).2 = true) : SyOk s ∧ heldB s fr k = false ∧ ∃ i : Nat, fr = i ∧ CanMap s.t k i r ∧ mapS s k fr r = (⟨mapT s.t k i r, s.c⟩, true) := by
 unfold mapS at h ⊢
 split at h
 ·rename_i hc
  have hc' := hc
  simp only [Bool.and_eq_true, Bool.not_eq_true'] at hc
  obtain ⟨i, e, cm, em⟩ := mapR_ok hc.2
  rw [if_pos hc', em]
  exact ⟨sysOk_iff.1 hc.1.1, hc.1.2, i, e, cm, rfl⟩
 ·cases h
theorem mapS_valid {s : Sy} {k : K} {fr r : Int} (h : (mapS s k fr r).2 = true) : SyOk (mapS s k fr r).1 := by
 obtain ⟨hv, hh, i, rfl, cm, e⟩ := mapS_ok h
 rw [e]
 exact ⟨cm.tok, hv.c1, hv.c2, fun c hc => (hv.c c hc).map cm.hf cm.hu cm.hn (heldB_no hh c hc)⟩

/-! ### unmapping -/
theorem asked_snoc (cpu : Int) (k : K) (l : List Cp) (c : Cp) : asked cpu k (l ++ [c]) = asked cpu k l + (if askB cpu k l.length c then 1 else 0) := by
 unfold asked
 rw [List.zipIdx_append, List.filter_append, List.length_append]
 congr 1
 simp only [List.zipIdx_cons, List.zipIdx_nil, Nat.zero_add, List.filter_cons, List.filter_nil]
 split <;> rfl
theorem asked_le (cpu : Int) (k : K) (l : List Cp) : asked cpu k l ≤ l.length := by
 unfold asked
 exact Nat.le_trans (List.length_filter_le _ _) (by simp)
theorem sUnS_eq {s : Sy} {cpu : Int} {k : K} (hs : small s) (hf : 1048576 < fl) : s_UnmapSystem fl s cpu k = some (unmapS s cpu k) := by
 unfold s_UnmapSystem unmapS
 rw [right_eq hs hf]
 simp only [obs]
 cases h : (sysOk s && within cpu s.c.length) with
 | false => simp [obs, sy0]
 | true =>
  simp only [Bool.not_true, cof, Bool.true_and]
  rw [sUnmap_eq hf]
  simp only [obs]
  cases hm : (unmapR s.t k).2 with
  | false => simp only [Bool.not_false, cot]; rfl
  | true =>
   simp only [Bool.not_true, cof, if_true]
   rw [sCopy_eq hs hf]
   simp only [obs]
   obtain ⟨v, ⟨h1, h2, h3⟩, e⟩ := loop_fold0 (L := fun fu (v : List Cp × Nat) i => s_UnmapSystem_L0 fl cpu k s fu v.1 (v.2 : Int) i) (n := s.c.length) (fun i v => (v.1.set i (unC cpu k i (v.1.getD i cp0)), v.2 + (if askB cpu k i (v.1.getD i cp0) then 1 else 0)))
    (fun i v => v.1.length = s.c.length ∧ (∀ j, j < s.c.length → v.1[j]? = some (if j < i then unC cpu k j (s.c.getD j cp0) else s.c.getD j cp0)) ∧ v.2 = asked cpu k (s.c.take i)) (fun v => LO.out (v.1, (v.2 : Int), (s.c.length : Int))) hs.2.1 hf (s.c, 0) ⟨rfl, fun j hj => by simp [hj], by simp [asked]⟩
    (fun fuel i v hi hI => by
     obtain ⟨q1, q2, q3⟩ := hI
     have h' : i < v.1.length := by omega
     have hc := hs.2.2 s.c[i] (List.getElem_mem hi)
     have hn := hs.2.1
     have e1 : v.1[i] = s.c[i] := by
      have := q2 i hi
      rw [List.getElem?_eq_getElem h', if_neg (by omega)] at this
      simpa [hi] using this
     have eg : v.1.getD i cp0 = s.c[i] := by rw [← e1]; simp [h']
     have hle := asked_le cpu k (s.c.take i)
     have hle2 : (s.c.take i).length ≤ i := by simp; omega
     refine ⟨?_, by simpa using q1, fun j hj => ?_, ?_⟩
     ·show s_UnmapSystem_L0 fl cpu k s (fuel + 1) v.1 (v.2 : Int) i = _
      rw [s_UnmapSystem_L0.eq_2, lt_dec hi, cot, idx_nat h', ck_succ (by omega), eg, e1]
      simp only [obs]
      rw [sNote_eq (by omega) hf]
      simp only [obs]
      unfold unC askB
      by_cases a : noteF s.c[i].n k < 0
      ·rw [decide_eq_true a, cot, if_pos a, decide_eq_false (by omega : ¬ 0 ≤ noteF s.c[i].n k), Bool.false_and]
       rw [show v.1.set i s.c[i] = v.1 from by rw [← e1]; exact List.set_getElem_self h']
       rfl
      ·rw [decide_eq_false a, cof, if_neg a, decide_eq_true (by omega : 0 ≤ noteF s.c[i].n k), Bool.true_and]
       by_cases b : (i : Int) = cpu
       ·rw [if_pos b, show ((i : Int) == cpu) = true from by simpa using b, cot, decide_eq_false (by simpa using b : ¬ (i : Int) ≠ cpu)]
        rw [sDrop_eq (by omega) hf]
        simp only [obs, Int.toNat_natCast]
        rfl
       ·obtain ⟨m, hm, em, _, e2⟩ := noteF_get (show 0 ≤ noteF s.c[i].n k by omega)
        rw [if_neg b, show ((i : Int) == cpu) = false from by simpa using b, cof, decide_eq_true b, e2, em, idx_nat hm]
        simp only [obs]
        rw [cnt_in (by simp; omega)]
        simp only [obs]
        rw [ck_succ (by omega)]
        simp only [obs, Int.toNat_natCast]
        rfl
     ·rw [List.getElem?_set]
      split
      ·rename_i e; subst e; rw [if_pos (by omega), eg]; simp [hi]
      ·rename_i e
       rw [q2 j hj]
       by_cases c : j < i
       ·rw [if_pos c, if_pos (by omega)]
       ·rw [if_neg c, if_neg (by omega)]
     ·rw [take_s hi, asked_snoc, ← q3, eg, show (s.c.take i).length = i from by simp; omega])
    (fun fuel v hv => by show s_UnmapSystem_L0 fl cpu k s (fuel + 1) v.1 (v.2 : Int) _ = _; rw [s_UnmapSystem_L0.eq_2, nlt_dec, cof])
   have e' : s_UnmapSystem_L0 fl cpu k s fl s.c 0 0 = some (LO.out (v.1, (v.2 : Int), (s.c.length : Int))) := e
   rw [e']
   simp only [obs]
   rw [h3, List.take_length, show v.1 = s.c.mapIdx (unC cpu k) from all_of (by simpa using h1) fun j hj => by
    have hj' : j < s.c.length := by simpa using hj
    rw [h2 j hj', if_pos hj']; simp [hj']]
theorem unmapS_ok {s : Sy} {cpu : Int} {k : K} (h : (unmapS s cpu k).2.2 = true) : SyOk s ∧ (∃ c : Nat, cpu = c ∧ c < s.c.length) ∧ ∃ i, ∃ u : CanUn s.t i, (s.t.f[i]'u.hi).k = k ∧ unmapS s cpu k = (⟨unmapT s.t i, s.c.mapIdx (unC cpu k)⟩, (asked cpu k s.c : Int), true) := by
 unfold unmapS at h ⊢
 split at h
 ·rename_i hc
  have hc' := hc
  simp only [Bool.and_eq_true] at hc
  obtain ⟨i, u, hk, e⟩ := unmapR_yes hc.2
  rw [if_pos hc', e]
  exact ⟨sysOk_iff.1 hc.1.1, wthn hc.1.2, i, u, hk, rfl⟩
 ·cases h
theorem SyOk.un {s : Sy} (h : SyOk s) {i : Nat} (u : CanUn s.t i) (cpu : Int) : SyOk ⟨unmapT s.t i, s.c.mapIdx (unC cpu (s.t.f[i]'u.hi).k)⟩ :=
 ⟨u.tok, by simpa using h.c1, by simpa using h.c2, fun d hd => by
  obtain ⟨j, hj, rfl⟩ := List.getElem_of_mem hd
  simp only [List.getElem_mapIdx]
  exact (h.c _ (List.getElem_mem _)).un u cpu j⟩
theorem unmapS_valid {s : Sy} {cpu : Int} {k : K} (h : (unmapS s cpu k).2.2 = true) : SyOk (unmapS s cpu k).1 := by
 obtain ⟨hv, _, i, u, rfl, e⟩ := unmapS_ok h
 rw [e]; exact hv.un u cpu
/-! ### new systems -/
def newS (n m c : Int) : Sy × Bool := if (newTR n m).2 = true ∧ 1 ≤ c ∧ c ≤ 4 then (⟨(newTR n m).1, List.replicate c.toNat cp0⟩, true) else (sy0, false)

theorem wrong3g {l : List UInt8} (hl : l.length ≤ 2000) {p : Int} (hp : 0 ≤ p) (hp2 : p ≤ 1000000) {t : T} (hb : 1 ≤ t.b.length) (hN : t.b.length + t.f.length ≤ 1000) : ∃ t' p', s_l3Wrong fl l p t = some (t', p') ∧ (1 ≤ t'.b.length ∧ t'.b.length ≤ t.b.length + 1 ∧ t'.f.length ≤ t.f.length) ∧ 0 ≤ p' ∧ p' ≤ p + 10 := by
 unfold s_l3Wrong
 rw [copy_eq (by omega)]
 simp only [obs]
 by_cases h0 : t.f.length = 0
 ·rw [show ((t.f.length : Int) == 0) = true from by rw [beq_iff_eq]; omega, cot]
  exact ⟨_, _, rfl, by omega, hp, by omega⟩
 rw [show ((t.f.length : Int) == 0) = false from by rw [beq_eq_false_iff_ne]; omega, cof]
 obtain ⟨r, e1, hr, _⟩ := pick_eq (fl := fl) (n := (t.f.length : Int)) hp (by omega) hl
 rw [e1]
 simp only [obs]
 obtain ⟨q, e2, _, _⟩ := pick_eq (fl := fl) (p := p + 1) (n := 24) (by omega) (by omega) hl
 rw [e2]
 simp only [obs]
 obtain ⟨r0, r1⟩ := hr (by omega)
 obtain ⟨g, _, hg⟩ := idx_in r0 r1
 obtain ⟨b0, _, hhb⟩ := idx_in (l := t.b) (i := (0 : Int)) (Int.le_refl 0) (by omega : (0 : Int) < (t.b.length : Int))
 rw [hg, hhb]
 simp only [obs]
 cases (q == 0) with
 | true =>
  rw [cot]
  obtain ⟨y, _, e3⟩ := num_eq (fl := fl) (p := p + 1 + 1) (L := [0, r, 16, (-1)]) (by omega) (by omega) hl (by simp)
  rw [e3]
  simp only [obs]
  exact ⟨_, _, rfl, by simp; omega, by omega, by omega⟩
 | false =>
 rw [cof]
 cases (q == 1) with
 | true => rw [cot]; exact ⟨_, _, rfl, by simp; omega, by omega, by omega⟩
 | false =>
 rw [cof]
 cases (q == 2) with
 | true =>
  rw [cot]
  obtain ⟨y, _, e3⟩ := num_eq (fl := fl) (p := p + 1 + 1) (L := [0, (-1), 16, (-2)]) (by omega) (by omega) hl (by simp)
  rw [e3]
  simp only [obs]
  exact ⟨_, _, rfl, by simp; omega, by omega, by omega⟩
 | false =>
 rw [cof]
 cases (q == 3) with
 | true =>
  rw [cot]
  obtain ⟨k, e3⟩ := draw2_eq (fl := fl) (p := p + 1 + 1) (by omega) (by omega) hl
  rw [e3]
  simp only [obs]
  exact ⟨_, _, rfl, by simp; omega, by omega, by omega⟩
 | false =>
 rw [cof]
 cases (q == 4) with
 | true =>
  rw [cot, cnt_in (by simp; omega)]
  simp only [obs]
  exact ⟨_, _, rfl, by (first | (simp; done) | (simp; omega)), by omega, by omega⟩
 | false =>
 rw [cof]
 cases (q == 5) with
 | true => rw [cot]; exact ⟨_, _, rfl, by simp; omega, by omega, by omega⟩
 | false => rw [cof]; exact ⟨_, _, rfl, by omega, by omega, by omega⟩
theorem sNewTR_eq {n m : Int} (hf : 1048576 < fl) : s_NewTable fl n m = some (newTR n m) := by
 by_cases h : (decide (1 ≤ n) && decide (n ≤ 16) && decide (1 ≤ m) && decide (m ≤ 16)) = true
 ·unfold newTR
  rw [if_pos h]
  simp only [Bool.and_eq_true, decide_eq_true_eq] at h
  obtain ⟨a, rfl⟩ : ∃ a : Nat, n = a := ⟨n.toNat, by omega⟩
  obtain ⟨b, rfl⟩ : ∃ b : Nat, m = b := ⟨m.toNat, by omega⟩
  rw [sNewTable_eq (by omega) (by omega) (by omega) (by omega) hf]; rfl
 ·unfold newTR
  rw [if_neg h]
  unfold s_NewTable s_l2Buckets
  simp only [Bool.and_eq_true, decide_eq_true_eq] at h
  by_cases h1 : n < 1
  ·rw [decide_eq_true h1]; simp [obs]
  by_cases h2 : 16 < n
  ·rw [decide_eq_false h1, decide_eq_true h2]; simp [obs]
  rw [decide_eq_false h1, decide_eq_false h2]
  by_cases h3 : 1 ≤ m
  ·rw [decide_eq_true h3, decide_eq_false (by omega : ¬ m ≤ 16)]; simp [obs]
  ·rw [decide_eq_false h3]; simp [obs]
theorem newT_chain {n m i : Nat} : chain (newT n m) i = some [] := by
 unfold chain newT
 have : (List.replicate m (-1 : Int)).getD i (-1) = -1 := by
  rw [List.getD_eq_getElem?_getD, List.getElem?_replicate]; split <;> rfl
 simp only [this]
 exact walk_end _ _ _ _
theorem newT_keys (n : Nat) : usedKeys (List.replicate n freeF) = [] := by
 unfold usedKeys
 rw [List.filter_eq_nil_iff.2 (fun f hf => by obtain ⟨_, rfl⟩ := List.mem_replicate.1 hf; simp [freeF])]; rfl
theorem newT_ok {n m : Nat} (h1 : 1 ≤ n) (h2 : n ≤ 16) (h3 : 1 ≤ m) (h4 : m ≤ 16) : TOk (newT n m) := by
 refine ⟨by simpa [newT] using h1, by simpa [newT] using h2, by simpa [newT] using h3, by simpa [newT] using h4, fun f hf => ?_, ?_, fun i _ => by rw [newT_chain]; rfl, ?_⟩
 ·simp only [newT] at hf
  obtain ⟨_, rfl⟩ := List.mem_replicate.1 hf
  simp [frameOk, freeF]
 ·simp only [newT, newT_keys]; exact List.nodup_nil
 ·simp only [chainsLen, newT_chain]
  rw [show (newT n m).f = List.replicate n freeF from rfl, newT_keys]
  have hz : ∀ l : List Nat, (l.map fun _ => ((some ([] : List Nat)).getD []).length).sum = 0 := by
   intro l
   induction l with
   | nil => rfl
   | cons a l ih => simpa using ih
  exact hz _
theorem newT_find {n : Nat} {k : K} : findF (List.replicate n freeF) k = -1 := findF_none fun j hj => by simp [hasKey, freeF]

theorem newTR_ok {n m : Int} (h : (newTR n m).2 = true) : TOk (newTR n m).1 ∧ ∀ k, findF (newTR n m).1.f k = -1 := by
 unfold newTR at h ⊢
 split at h
 ·rename_i hc
  rw [if_pos hc]
  simp only [Bool.and_eq_true, decide_eq_true_eq] at hc
  exact ⟨newT_ok (by omega) (by omega) (by omega) (by omega), fun k => newT_find⟩
 ·cases h
theorem newS_common {n m c : Int} : (Option.bind (cond (!(newTR n m).2) (some true) (some (decide (c < 1)))) fun y12 =>
  Option.bind (cond y12 (some true) (some (decide (4 < c)))) fun y13 =>
  cond y13 (some ((⟨(⟨[], []⟩ : T), []⟩ : Sy), false)) (Option.bind (mkO c) fun x15 => some ((⟨(newTR n m).1, (List.replicate x15 (⟨[], []⟩ : Cp))⟩ : Sy), true))) = some (newS n m c) := by
 unfold newS
 cases h : (newTR n m).2 with
 | false => simp [obs, sy0]
 | true =>
  simp only [Bool.not_true, cof, obs]
  by_cases h1 : c < 1
  ·rw [decide_eq_true h1, if_neg (by omega)]; simp only [cot, obs]; rfl
  rw [decide_eq_false h1]
  by_cases h2 : 4 < c
  ·rw [decide_eq_true h2, if_neg (by omega)]; simp only [cof, cot, obs]; rfl
  rw [decide_eq_false h2, if_pos ⟨trivial, by omega, by omega⟩]
  simp only [cof, obs]
  obtain ⟨a, rfl⟩ : ∃ a : Nat, c = a := ⟨c.toNat, by omega⟩
  rw [mkO_nat (by omega)]
  simp only [obs, Int.toNat_natCast]
  rfl
theorem sNewS_eq {n m c : Int} (hf : 1048576 < fl) : s_NewSystem fl n m c = some (newS n m c) := by
 unfold s_NewSystem
 rw [sNewTR_eq hf]
 simp only [obs]
 exact newS_common
theorem cp0_ok (t : T) : COk t cp0 := ⟨by simp [cp0], by simp [cp0], by simp [cp0], by simp [cp0, kset], by simp [cp0, kset], by simp [cp0], by simp [cp0], by simp [cp0], by simp [cp0]⟩
theorem newS_ok {n m c : Int} (h : (newS n m c).2 = true) : SyOk (newS n m c).1 ∧ (1 ≤ c ∧ c ≤ 4) ∧ newS n m c = (⟨(newTR n m).1, List.replicate c.toNat cp0⟩, true) ∧ ∀ k, findF (newTR n m).1.f k = -1 := by
 unfold newS at h ⊢
 split at h
 ·rename_i hc
  obtain ⟨h1, h2, h3⟩ := hc
  rw [if_pos ⟨h1, h2, h3⟩]
  obtain ⟨q1, q2⟩ := newTR_ok h1
  refine ⟨⟨q1, by simp; omega, by simp; omega, fun d hd => ?_⟩, ⟨h2, h3⟩, rfl, q2⟩
  obtain ⟨_, rfl⟩ := List.mem_replicate.1 hd
  exact cp0_ok _
 ·cases h
/-! ### drawing -/
theorem step8_eq {l : List UInt8} (hl : l.length ≤ 2000) (hf : 1048576 < fl) {p : Int} (hp : 0 ≤ p) (hp2 : p ≤ 1000000) {s : Sy} (hs : SyOk s) : ∃ s' p', s_l8Step fl l p s = some (s', p') ∧ SyOk s' ∧ 0 ≤ p' ∧ p' ≤ p + 10 := by
 have hsm := hs.sm.small
 have hff := hs.t.f2
 have hc1 := hs.c1
 unfold s_l8Step
 obtain ⟨r4, e4, _, _⟩ := pick_eq (fl := fl) (p := p) (n := (s.c.length : Int)) hp (by omega) hl
 rw [e4]
 simp only [obs]
 obtain ⟨r5, e5, _, _⟩ := pick_eq (fl := fl) (p := p + 1) (n := 6) (by omega) (by omega) hl
 rw [e5]
 simp only [obs]
 have hmap : ∃ s' p', (Option.bind (s_l2Draw fl l (p + 1 + 1)) fun x10 =>
   Option.bind (s_l12Rd_pick fl l x10.2 ((s.t.f).length : Int)) fun x11 =>
   Option.bind (s_l12Rd_num fl l x11.2 ([3, 1])) fun x14 =>
   Option.bind (s_MapSystem fl s x10.1 x11.1 x14.1) fun x15 =>
   cond (!x15.2) (some (s, x14.2)) (some (x15.1, x14.2))) = some (s', p') ∧ SyOk s' ∧ 0 ≤ p' ∧ p' ≤ p + 10 := by
  obtain ⟨k, e1⟩ := draw2_eq (fl := fl) (p := p + 1 + 1) (by omega) (by omega) hl
  rw [e1]
  simp only [obs]
  obtain ⟨r, e2, _, _⟩ := pick_eq (fl := fl) (p := p + 1 + 1 + 2) (n := (s.t.f.length : Int)) (by omega) (by omega) hl
  rw [e2]
  simp only [obs]
  obtain ⟨x, _, e3⟩ := num_eq (fl := fl) (p := p + 1 + 1 + 2 + 1) (L := [3, 1]) (by omega) (by omega) hl (by simp)
  rw [e3]
  simp only [obs]
  rw [sMapS_eq hsm hf]
  simp only [obs]
  cases h : (mapS s k r x).2 with
  | true => simp only [Bool.not_true, cof]; exact ⟨_, _, rfl, mapS_valid h, by omega, by omega⟩
  | false => simp only [Bool.not_false, cot]; exact ⟨_, _, rfl, hs, by omega, by omega⟩
 obtain ⟨L, eL⟩ := keys_some (fl := fl) (t := s.t) (by omega) hf
 have hlook : ∃ s' p', (Option.bind (s_KeysOf fl s.t) fun x33 =>
    cond (decide (0 < ((x33).length : Int)))
     (Option.bind (s_l12Rd_pick fl l (p + 1 + 1) ((x33).length : Int)) fun x39 =>
     Option.bind (idx x33 x39.1) fun x40 =>
     Option.bind (s_LookCpu fl s r4 x40) fun x41 =>
     cond (!x41.2.2.2)
      (some (s, x39.2))
      (some (x41.1, x39.2)))
     (cond (!false)
      (some (s, (p + 1 + 1)))
      (some (s, (p + 1 + 1))))) = some (s', p') ∧ SyOk s' ∧ 0 ≤ p' ∧ p' ≤ p + 10 := by
  rw [eL]
  simp only [obs]
  by_cases h0 : 0 < (L.length : Int)
  ·rw [decide_eq_true h0, cot]
   obtain ⟨r, e2, hr, _⟩ := pick_eq (fl := fl) (p := p + 1 + 1) (n := (L.length : Int)) (by omega) (by omega) hl
   rw [e2]
   simp only [obs]
   obtain ⟨z, _, ez⟩ := idx_in (hr (by omega)).1 (hr (by omega)).2
   rw [ez]
   simp only [obs]
   rw [sLook_eq hsm hf]
   simp only [obs]
   cases h : (lookR s r4 z).2.2.2 with
   | true => simp only [Bool.not_true, cof]; exact ⟨_, _, rfl, lookR_valid h, by omega, by omega⟩
   | false => simp only [Bool.not_false, cot]; exact ⟨_, _, rfl, hs, by omega, by omega⟩
  ·rw [decide_eq_false h0]; simp only [cof, cot, Bool.not_false]; exact ⟨_, _, rfl, hs, by omega, by omega⟩
 have hun : ∃ s' p', (Option.bind (s_KeysOf fl s.t) fun x57 =>
     cond (decide (0 < ((x57).length : Int)))
      (Option.bind (s_l12Rd_pick fl l (p + 1 + 1) ((x57).length : Int)) fun x63 =>
      Option.bind (idx x57 x63.1) fun x64 =>
      Option.bind (s_UnmapSystem fl s r4 x64) fun x65 =>
      cond (!x65.2.2)
       (some (s, x63.2))
       (some (x65.1, x63.2)))
      (cond (!false)
       (some (s, (p + 1 + 1)))
       (some (s, (p + 1 + 1))))) = some (s', p') ∧ SyOk s' ∧ 0 ≤ p' ∧ p' ≤ p + 10 := by
  rw [eL]
  simp only [obs]
  by_cases h0 : 0 < (L.length : Int)
  ·rw [decide_eq_true h0, cot]
   obtain ⟨r, e2, hr, _⟩ := pick_eq (fl := fl) (p := p + 1 + 1) (n := (L.length : Int)) (by omega) (by omega) hl
   rw [e2]
   simp only [obs]
   obtain ⟨z, _, ez⟩ := idx_in (hr (by omega)).1 (hr (by omega)).2
   rw [ez]
   simp only [obs]
   rw [sUnS_eq hsm hf]
   simp only [obs]
   cases h : (unmapS s r4 z).2.2 with
   | true => simp only [Bool.not_true, cof]; exact ⟨_, _, rfl, unmapS_valid h, by omega, by omega⟩
   | false => simp only [Bool.not_false, cot]; exact ⟨_, _, rfl, hs, by omega, by omega⟩
  ·rw [decide_eq_false h0]; simp only [cof, cot, Bool.not_false]; exact ⟨_, _, rfl, hs, by omega, by omega⟩
 have hack : ∃ s' p', (Option.bind (s_l12Rd_pick fl l (p + 1 + 1) 2) fun x81 =>
      cond (x81.1 == 0)
       (Option.bind (s_AckCpu fl s r4) fun x83 =>
       cond (!x83.2)
        (some (s, x81.2))
        (some (x83.1, x81.2)))
       (cond (!false)
        (some (s, x81.2))
        (some (s, x81.2)))) = some (s', p') ∧ SyOk s' ∧ 0 ≤ p' ∧ p' ≤ p + 10 := by
  obtain ⟨r, e2, _, _⟩ := pick_eq (fl := fl) (p := p + 1 + 1) (n := 2) (by omega) (by omega) hl
  rw [e2]
  simp only [obs]
  cases (r == 0) with
  | true =>
   rw [cot, sAckCpu_eq hsm hf]
   simp only [obs]
   cases h : (ackS s r4).2 with
   | true => simp only [Bool.not_true, cof]; exact ⟨_, _, rfl, (ackS_ok h).2.1, by omega, by omega⟩
   | false => simp only [Bool.not_false, cot]; exact ⟨_, _, rfl, hs, by omega, by omega⟩
  | false => simp only [cof, cot, Bool.not_false]; exact ⟨_, _, rfl, hs, by omega, by omega⟩
 have e7 : cond (r5 == 0) (some (r5 == 0)) (some (r5 == 1)) = some (r5 == 0 || r5 == 1) := by cases (r5 == 0) <;> rfl
 have e30 : cond (r5 == 2) (some (r5 == 2)) (some (r5 == 3)) = some (r5 == 2 || r5 == 3) := by cases (r5 == 2) <;> rfl
 rw [e7]
 simp only [obs]
 cases (r5 == 0 || r5 == 1) with
 | true => rw [cot]; exact hmap
 | false =>
  rw [cof, e30]
  simp only [obs]
  cases (r5 == 2 || r5 == 3) with
  | true => rw [cot]; exact hlook
  | false =>
   rw [cof]
   cases (r5 == 4) with
   | true => rw [cot]; exact hun
   | false =>
    rw [cof]
    cases (r5 == 5) with
    | true => rw [cot]; exact hack
    | false => simp only [cof, cot, Bool.not_false]; exact ⟨_, _, rfl, hs, by omega, by omega⟩
theorem draw8_L0 {l : List UInt8} (hl : l.length ≤ 2000) (hf : 1048576 < fl) : ∀ (fuel n : Nat) (p : Int) (s : Sy), n < fuel → n ≤ 100 → SyOk s → 0 ≤ p → p ≤ 10000 - 10 * (n : Int) →
  ∃ p' s' m, s_l8Draw_L0 fl l fuel p s.t.b s.t.f s.c n = some (.out (p', s'.t.b, s'.t.f, s'.c, m)) ∧ SyOk s' ∧ 0 ≤ p' ∧ p' ≤ 10000 := by
 intro fuel
 induction fuel with
 | zero => intro n p s h; omega
 | succ fuel ih =>
  intro n p s hn hn2 hs hp hp2
  rw [s_l8Draw_L0.eq_2]
  by_cases h0 : n = 0
  ·subst h0
   simp only [show decide (0 < ((0 : Nat) : Int)) = false from rfl, cof]
   exact ⟨_, s, _, rfl, hs, hp, by omega⟩
  ·rw [decide_eq_true (by omega : 0 < (n : Int)), cot]
   obtain ⟨s', p', e, h1, h2, h3⟩ := step8_eq (fl := fl) hl hf hp (by omega) hs
   rw [show (⟨(⟨s.t.b, s.t.f⟩ : T), s.c⟩ : Sy) = s from rfl, e]
   simp only [obs]
   have hck : ck ((n : Int) - 1) = some ((n - 1 : Nat) : Int) := by rw [ck_in (by omega)]; congr 1; omega
   rw [hck]
   simp only [obs]
   exact ih (n - 1) p' s' (by omega) (by omega) h1 h2 (by omega)
theorem draw8_eq {l : List UInt8} (hl : l.length ≤ 2000) (hf : 1048576 < fl) : ∃ s p', s_l8Draw fl l 0 = some (s, p') ∧ SyOk s ∧ 0 ≤ p' ∧ p' ≤ 10000 := by
 unfold s_l8Draw
 obtain ⟨x, hx, e1⟩ := num_eq (fl := fl) (p := 0) (L := [6, 4, 8]) (by omega) (by omega) hl (by simp)
 rw [e1]
 simp only [obs]
 obtain ⟨y, hy, e2⟩ := num_eq (fl := fl) (p := 0 + 1) (L := [4, 2, 1]) (by omega) (by omega) hl (by simp)
 rw [e2]
 simp only [obs]
 obtain ⟨z, hz, e3⟩ := num_eq (fl := fl) (p := 0 + 1 + 1) (L := [3, 2, 4, 1]) (by omega) (by omega) hl (by simp)
 rw [e3]
 simp only [obs]
 have hx' : 1 ≤ x ∧ x ≤ 8 := by simp at hx; omega
 have hy' : 1 ≤ y ∧ y ≤ 8 := by simp at hy; omega
 have hz' : 1 ≤ z ∧ z ≤ 4 := by simp at hz; omega
 rw [sNewS_eq hf]
 simp only [obs]
 have hok : (newS x y z).2 = true := by
  have h1 : (newTR x y).2 = true := by
   unfold newTR
   rw [decide_eq_true (by omega : 1 ≤ x), decide_eq_true (by omega : x ≤ 16), decide_eq_true (by omega : 1 ≤ y), decide_eq_true (by omega : y ≤ 16)]
   rfl
  unfold newS
  rw [if_pos ⟨h1, hz'.1, hz'.2⟩]
 have hv := (newS_ok hok).1
 obtain ⟨r, e4, hr, _⟩ := pick_eq (fl := fl) (p := 0 + 1 + 1 + 1) (n := 12) (by omega) (by omega) hl
 rw [e4]
 simp only [obs]
 obtain ⟨c, hc⟩ : ∃ c : Nat, r = c := ⟨r.toNat, by have := hr (by omega); omega⟩
 have hr' := hr (by omega)
 subst hc
 rw [ck_in (by omega), show (8 : Int) + (c : Int) = ((8 + c : Nat) : Int) from by omega]
 simp only [obs]
 obtain ⟨p', s', m, e, q1, q2, q3⟩ := draw8_L0 (fl := fl) hl hf fl (8 + c) (0 + 1 + 1 + 1 + 1) (newS x y z).1 (by omega) (by omega) hv (by omega) (by omega)
 rw [e]
 simp only [obs]
 exact ⟨_, _, rfl, q1, q2, q3⟩
def Wd (m : Nat) (s : Sy) : Prop := 1 ≤ s.t.b.length ∧ s.t.b.length + s.t.f.length ≤ 40 + 2 * m ∧ s.c.length ≤ 4 ∧ ∀ c ∈ s.c, c.n.length ≤ 4 + m ∧ c.w.length ≤ 4 + m
theorem SyOk.wd {s : Sy} (h : SyOk s) : Wd 0 s := ⟨h.t.b1, by have := h.t.b2; have := h.t.f2; omega, h.c2, fun c hc => ⟨(h.c c hc).n4, (h.c c hc).w4⟩⟩
theorem Wd.small {m : Nat} {s : Sy} (h : Wd m s) (hm : m ≤ 100) : Go.Proofs.YtciliaiocakdkaaDoor.small s := ⟨by have := h.2.1; omega, by have := h.2.2.1; omega, fun c hc => by have := h.2.2.2 c hc; omega⟩
theorem Wd.more {m : Nat} {s : Sy} (h : Wd m s) : Wd (m + 1) s := ⟨h.1, by have := h.2.1; omega, h.2.2.1, fun c hc => by have := h.2.2.2 c hc; omega⟩
theorem wrong8_eq {l : List UInt8} (hl : l.length ≤ 2000) (hf : 1048576 < fl) {p : Int} (hp : 0 ≤ p) (hp2 : p ≤ 100000) {m : Nat} (hm : m ≤ 50) {s : Sy} (hs : Wd m s) : ∃ s' p', s_l8Wrong fl l p s = some (s', p') ∧ Wd (m + 1) s' ∧ 0 ≤ p' ∧ p' ≤ p + 40 := by
 unfold s_l8Wrong
 rw [sCopy_eq (hs.small (by omega)) hf]
 simp only [obs]
 obtain ⟨h1, h2, h3, h4⟩ := id hs
 by_cases h0 : s.c.length = 0
 ·rw [show ((s.c.length : Int) == 0) = true from by rw [beq_iff_eq]; omega, cot]
  exact ⟨_, _, rfl, hs.more, hp, by omega⟩
 rw [show ((s.c.length : Int) == 0) = false from by rw [beq_eq_false_iff_ne]; omega, cof]
 obtain ⟨r, e1, hr, _⟩ := pick_eq (fl := fl) (n := (s.c.length : Int)) hp (by omega) hl
 rw [e1]
 simp only [obs]
 obtain ⟨q, e2, _, _⟩ := pick_eq (fl := fl) (p := p + 1) (n := 24) (by omega) (by omega) hl
 rw [e2]
 simp only [obs]
 obtain ⟨r0, r1⟩ := hr (by omega)
 obtain ⟨i, rfl⟩ : ∃ i : Nat, r = i := ⟨r.toNat, by omega⟩
 have hi : i < s.c.length := by omega
 have hc := h4 s.c[i] (List.getElem_mem hi)
 rw [idx_nat hi]
 simp only [obs]
 have hset : ∀ d : Cp, d.n.length ≤ 5 + m → d.w.length ≤ 5 + m → Wd (m + 1) ⟨s.t, s.c.set i d⟩ := fun d a b => ⟨h1, by simp only []; omega, by simpa using h3, fun c hc => by
  rcases List.mem_or_eq_of_mem_set hc with e | e
  ·have := h4 c e; omega
  ·subst e; omega⟩
 obtain ⟨k, e3⟩ := draw2_eq (fl := fl) (p := p + 1 + 1) (by omega) (by omega) hl
 obtain ⟨x, e4, _, _⟩ := pick_eq (fl := fl) (p := p + 1 + 1 + 2) (n := 4) (by omega) (by omega) hl
 cases (q == 0) with
 | true =>
  rw [cot, e3]
  simp only [obs]
  rw [e4]
  simp only [obs]
  rw [cnt_in (by simp; omega)]
  simp only [obs, Int.toNat_natCast]
  exact ⟨_, _, rfl, hset _ (by simp; omega) (by simp only []; omega), by omega, by omega⟩
 | false =>
 rw [cof]
 cases (q == 1) with
 | true =>
  rw [cot, e3]
  simp only [obs]
  rw [e4]
  simp only [obs]
  rw [cnt_in (by simp; omega)]
  simp only [obs, Int.toNat_natCast]
  exact ⟨_, _, rfl, hset _ (by simp only []; omega) (by simp; omega), by omega, by omega⟩
 | false =>
 rw [cof]
 cases (q == 2) with
 | true =>
  rw [cot]
  obtain ⟨t1, p1, f1, ⟨a1, a2, a3⟩, a4, a5⟩ := wrong3g (fl := fl) hl (p := p + 1 + 1) (by omega) (by omega) h1 (by omega)
  rw [f1]
  simp only [obs]
  obtain ⟨t2, p2, f2, ⟨b1, b2, b3⟩, b4, b5⟩ := wrong3g (fl := fl) hl (p := p1) a4 (by omega) a1 (by omega)
  rw [f2]
  simp only [obs]
  exact ⟨_, _, rfl, ⟨b1, by simp only []; omega, h3, fun c hc => by have := h4 c hc; omega⟩, b4, by omega⟩
 | false =>
 rw [cof]
 cases (q == 3) with
 | true => rw [cot]; exact ⟨_, _, rfl, ⟨h1, by simp only []; omega, by simp, fun c hc => by cases hc⟩, by omega, by omega⟩
 | false => rw [cof]; exact ⟨_, _, rfl, hs.more, by omega, by omega⟩

/-! ### looking again -/

noncomputable def dq {α : Type} (a b : α) : Bool := @decide (a = b) (Classical.propDecidable _)
theorem dq_iff {α : Type} {a b : α} : dq a b = true ↔ a = b := by unfold dq; exact @decide_eq_true_iff _ (Classical.propDecidable _)
theorem dq_no {α : Type} {a b : α} (h : a ≠ b) : dq a b = false := by
 cases e : dq a b with
 | false => rfl
 | true => exact absurd (dq_iff.1 e) h
theorem dq_ne {α : Type} {a b : α} (h : dq a b = false) : a ≠ b := fun e => by rw [dq_iff.2 e] at h; cases h
theorem dq_of {α : Type} {a b : α} {v : Bool} (h : v = true ↔ a = b) : v = dq a b := by
 cases v with
 | true => exact (dq_iff.2 (h.1 rfl)).symm
 | false => exact (dq_no (fun e => by have := h.2 e; cases this)).symm
/-- two lists of one length, met one element after the other -/
theorem eq2 {α : Type} {L : Nat → Int → Option (LO Int Bool)} {a b : List α} (e : α → α → Bool) (he : ∀ x ∈ a, ∀ y ∈ b, (e x y = true ↔ x = y)) (hlen : a.length = b.length) (ha : a.length ≤ 1048576) (hf : 1048576 < fl)
  (step : ∀ fuel (i : Nat) (h : i < a.length) (h' : i < b.length), L (fuel + 1) (i : Int) = cond (!(e a[i] b[i])) (some (.ret false)) (L fuel ((i + 1 : Nat) : Int)))
  (fin : ∀ fuel, L (fuel + 1) (a.length : Int) = some (.out (a.length : Int))) : (L fl 0 = some (.ret false) ∧ a ≠ b) ∨ (L fl 0 = some (.out (a.length : Int)) ∧ a = b) := by
 rcases loop_first0 (L := L) (n := a.length) (fun i => match a[i]?, b[i]? with | some x, some y => !(e x y) | _, _ => false) (fun _ => false) ha hf (fun fuel i h => by
   have h' : i < b.length := by omega
   rw [step fuel i h h', List.getElem?_eq_getElem h, List.getElem?_eq_getElem h']) fin with ⟨m, hm, hp, _, e1⟩ | ⟨hp, e1⟩
 ·have h' : m < b.length := by omega
  rw [List.getElem?_eq_getElem hm, List.getElem?_eq_getElem h'] at hp
  refine .inl ⟨e1, fun q => ?_⟩
  subst q
  have := (he _ (List.getElem_mem hm) _ (List.getElem_mem hm)).2 rfl
  simp only [this] at hp
  cases hp
 ·refine .inr ⟨e1, List.ext_getElem hlen fun i h h' => ?_⟩
  have := hp i h
  rw [List.getElem?_eq_getElem h, List.getElem?_eq_getElem h'] at this
  refine (he _ (List.getElem_mem h) _ (List.getElem_mem h')).1 ?_
  simpa using this
theorem len_ne {α : Type} {a b : List α} (h : a.length ≠ b.length) : (((a.length : Int) != (b.length : Int)) = true) ∧ dq a b = false := ⟨by simp; omega, dq_no (fun e => h (by rw [e]))⟩
theorem len_eq {α : Type} {a b : List α} (h : a.length = b.length) : ((a.length : Int) != (b.length : Int)) = false := by simp [h]
theorem eqN2 {a b : List Nt} (ha : a.length ≤ 1048576) (hf : 1048576 < fl) : slices_Equal_Note fl a b = some (dq a b) := by
 unfold slices_Equal_Note
 by_cases hl : a.length = b.length
 ·rw [len_eq hl, cof]
  rcases eq2 (L := slices_Equal_Note_L0 fl a b) (fun x y => x == y) (fun x _ y _ => beq_iff_eq) hl ha hf (fun fuel i h h' => by
   rw [slices_Equal_Note_L0.eq_2, lt_dec h, cot, idx_nat h, idx_nat h', ck_succ (by omega)]
   simp only [obs]; rfl) (fun fuel => by rw [slices_Equal_Note_L0.eq_2, nlt_dec, cof]) with ⟨e, q⟩ | ⟨e, q⟩
  ·rw [e, dq_no q]; rfl
  ·rw [e, dq_iff.2 q]; rfl
 ·rw [(len_ne hl).1, (len_ne hl).2, cot]
theorem sN2 {a b : List Nt} (ha : a.length ≤ 1048576) (hf : 1048576 < fl) : s_l8Notes fl a b = some (dq a b) := by
 unfold s_l8Notes
 by_cases hl : a.length = b.length
 ·rw [len_eq hl, cof]
  rcases eq2 (L := s_l8Notes_L0 fl a b) (fun x y => x == y) (fun x _ y _ => beq_iff_eq) hl ha hf (fun fuel i h h' => by
   rw [s_l8Notes_L0.eq_2, lt_dec h, cot, idx_nat h, idx_nat h', ck_succ (by omega)]
   simp only [obs]; rfl) (fun fuel => by rw [s_l8Notes_L0.eq_2, nlt_dec, cof]) with ⟨e, q⟩ | ⟨e, q⟩
  ·rw [e, dq_no q]; rfl
  ·rw [e, dq_iff.2 q]; rfl
 ·rw [(len_ne hl).1, (len_ne hl).2, cot]
theorem eqI2 {a b : List Int} (ha : a.length ≤ 1048576) (hf : 1048576 < fl) : slices_Equal_Int fl a b = some (dq a b) := by
 unfold slices_Equal_Int
 by_cases hl : a.length = b.length
 ·rw [len_eq hl, cof]
  rcases eq2 (L := slices_Equal_Int_L0 fl a b) (fun x y => x == y) (fun x _ y _ => beq_iff_eq) hl ha hf (fun fuel i h h' => by
   rw [slices_Equal_Int_L0.eq_2, lt_dec h, cot, idx_nat h, idx_nat h', ck_succ (by omega)]
   simp only [obs]; rfl) (fun fuel => by rw [slices_Equal_Int_L0.eq_2, nlt_dec, cof]) with ⟨e, q⟩ | ⟨e, q⟩
  ·rw [e, dq_no q]; rfl
  ·rw [e, dq_iff.2 q]; rfl
 ·rw [(len_ne hl).1, (len_ne hl).2, cot]
theorem eqF2 {a b : List F} (ha : a.length ≤ 1048576) (hf : 1048576 < fl) : slices_Equal_Frame fl a b = some (dq a b) := by
 unfold slices_Equal_Frame
 by_cases hl : a.length = b.length
 ·rw [len_eq hl, cof]
  rcases eq2 (L := slices_Equal_Frame_L0 fl a b) (fun x y => x == y) (fun x _ y _ => beq_iff_eq) hl ha hf (fun fuel i h h' => by
   rw [slices_Equal_Frame_L0.eq_2, lt_dec h, cot, idx_nat h, idx_nat h', ck_succ (by omega)]
   simp only [obs]; rfl) (fun fuel => by rw [slices_Equal_Frame_L0.eq_2, nlt_dec, cof]) with ⟨e, q⟩ | ⟨e, q⟩
  ·rw [e, dq_no q]; rfl
  ·rw [e, dq_iff.2 q]; rfl
 ·rw [(len_ne hl).1, (len_ne hl).2, cot]
theorem tEq {a b : T} : a = b ↔ a.b = b.b ∧ a.f = b.f := by cases a; cases b; simp
theorem cEq {a b : Cp} : a = b ↔ a.n = b.n ∧ a.w = b.w := by cases a; cases b; simp
theorem syEq {a b : Sy} : a = b ↔ a.t = b.t ∧ a.c = b.c := by cases a; cases b; simp
theorem tab2 {a b : T} (ha : a.b.length + a.f.length ≤ 1048576) (hf : 1048576 < fl) : i_TableSame fl a b = some (dq a b) := by
 unfold i_TableSame
 rw [eqI2 (by omega) hf]
 simp only [obs]
 cases h1 : dq a.b b.b with
 | false => rw [cof, dq_no (fun e => dq_ne h1 (by rw [e]))]; rfl
 | true =>
  rw [cot, eqF2 (by omega) hf]
  simp only [obs]
  rw [← dq_of (a := a) (b := b) (v := dq a.f b.f) (by rw [dq_iff, tEq]; exact ⟨fun h => ⟨dq_iff.1 h1, h⟩, fun h => h.2⟩)]
theorem same12 {a b : Cp} (ha : a.n.length + a.w.length ≤ 1048576) (hf : 1048576 < fl) : i_SystemSame_1 fl a b = some (dq a b) := by
 unfold i_SystemSame_1
 rw [eqN2 (by omega) hf]
 simp only [obs]
 cases h1 : dq a.n b.n with
 | false => rw [cof, dq_no (fun e => dq_ne h1 (by rw [e]))]; rfl
 | true =>
  rw [cot, eqN2 (by omega) hf]
  simp only [obs]
  rw [← dq_of (a := a) (b := b) (v := dq a.w b.w) (by rw [dq_iff, cEq]; exact ⟨fun h => ⟨dq_iff.1 h1, h⟩, fun h => h.2⟩)]
theorem cpus2 {a b : List Cp} (ha : a.length ≤ 1048576) (hc : ∀ c ∈ a, c.n.length + c.w.length ≤ 1048576) (hf : 1048576 < fl) : slices_EqualFunc_Cpu_of_i_SystemSame_1 fl a b = some (dq a b) := by
 unfold slices_EqualFunc_Cpu_of_i_SystemSame_1
 by_cases hl : a.length = b.length
 ·rw [len_eq hl, cof]
  rcases eq2 (L := slices_EqualFunc_Cpu_of_i_SystemSame_1_L0 fl a b) (fun x y => dq x y) (fun x _ y _ => dq_iff) hl ha hf (fun fuel i h h' => by
   rw [slices_EqualFunc_Cpu_of_i_SystemSame_1_L0.eq_2, lt_dec h, cot, idx_nat h, idx_nat h', ck_succ (by omega)]
   simp only [obs]
   rw [same12 (hc _ (List.getElem_mem h)) hf]
   simp only [obs]) (fun fuel => by rw [slices_EqualFunc_Cpu_of_i_SystemSame_1_L0.eq_2, nlt_dec, cof]) with ⟨e, q⟩ | ⟨e, q⟩
  ·rw [e, dq_no q]; rfl
  ·rw [e, dq_iff.2 q]; rfl
 ·rw [(len_ne hl).1, (len_ne hl).2, cot]
theorem sys2 {a b : Sy} (ha : small a) (hf : 1048576 < fl) : i_SystemSame fl a b = some (dq a b) := by
 unfold i_SystemSame
 rw [tab2 ha.1 hf]
 simp only [obs]
 cases h1 : dq a.t b.t with
 | false => rw [cof, dq_no (fun e => dq_ne h1 (by rw [e]))]; rfl
 | true =>
  rw [cot, cpus2 ha.2.1 ha.2.2 hf]
  simp only [obs]
  rw [← dq_of (a := a) (b := b) (v := dq a.c b.c) (by rw [dq_iff, syEq]; exact ⟨fun h => ⟨dq_iff.1 h1, h⟩, fun h => h.2⟩)]
theorem sTab2 {a b : T} (ha : a.b.length + a.f.length ≤ 1048576) (hf : 1048576 < fl) : s_TableSame fl a b = some (dq a b) := by
 unfold s_TableSame
 by_cases hl : a.b.length = b.b.length
 ·by_cases hl2 : a.f.length = b.f.length
  ·rw [len_eq hl, cof, len_eq hl2]
   simp only [obs, cof]
   rcases eq2 (L := s_TableSame_L0 fl a b) (fun x y => x == y) (fun x _ y _ => beq_iff_eq) hl (by omega) hf (fun fuel i h h' => by
    rw [s_TableSame_L0.eq_2, lt_dec h, cot, idx_nat h, idx_nat h', ck_succ (by omega)]
    simp only [obs]; rfl) (fun fuel => by rw [s_TableSame_L0.eq_2, nlt_dec, cof]) with ⟨e, q⟩ | ⟨e, q⟩
   ·rw [e, dq_no (fun h => q (by rw [h]))]; rfl
   ·rw [e]
    simp only [obs]
    rcases eq2 (L := s_TableSame_L1 fl a b) (fun x y => x == y) (fun x _ y _ => beq_iff_eq) hl2 (by omega) hf (fun fuel i h h' => by
     rw [s_TableSame_L1.eq_2, lt_dec h, cot, idx_nat h, idx_nat h', ck_succ (by omega)]
     simp only [obs]; rfl) (fun fuel => by rw [s_TableSame_L1.eq_2, nlt_dec, cof]) with ⟨e2, q2⟩ | ⟨e2, q2⟩
    ·rw [e2, dq_no (fun h => q2 (by rw [h]))]; rfl
    ·rw [e2, dq_iff.2 (tEq.2 ⟨q, q2⟩)]; rfl
  ·rw [len_eq hl, cof, (len_ne hl2).1]
   simp only [obs, cot]
   rw [dq_no (fun h => hl2 (by rw [h]))]
 ·rw [(len_ne hl).1, cot]
  simp only [obs, cot]
  rw [dq_no (fun h => hl (by rw [h]))]
theorem sSys2 {a b : Sy} (ha : small a) (hf : 1048576 < fl) : s_SystemSame fl a b = some (dq a b) := by
 unfold s_SystemSame
 rw [sTab2 ha.1 hf]
 simp only [obs]
 cases h1 : dq a.t b.t with
 | false =>
  simp only [Bool.not_false, cot, obs]
  rw [dq_no (fun e => dq_ne h1 (by rw [e]))]
 | true =>
  simp only [Bool.not_true, cof, obs]
  by_cases hl : a.c.length = b.c.length
  ·rw [len_eq hl, cof]
   rcases eq2 (L := s_SystemSame_L0 fl a b) (fun x y => dq x y) (fun x _ y _ => dq_iff) hl ha.2.1 hf (fun fuel i h h' => by
    have hc := ha.2.2 _ (List.getElem_mem h)
    have := ha.2.1
    rw [s_SystemSame_L0.eq_2, lt_dec h, cot, idx_nat h, idx_nat h', ck_succ (by omega)]
    simp only [obs]
    rw [sN2 (by omega) hf]
    simp only [obs]
    cases h2 : dq a.c[i].n b.c[i].n with
    | false =>
     simp only [Bool.not_false, cot, obs]
     rw [dq_no (fun e => dq_ne h2 (by rw [e]))]
     rfl
    | true =>
     simp only [Bool.not_true, cof]
     rw [sN2 (by omega) hf]
     simp only [obs]
     rw [← dq_of (a := a.c[i]) (b := b.c[i]) (v := dq a.c[i].w b.c[i].w) (by rw [dq_iff, cEq]; exact ⟨fun h => ⟨dq_iff.1 h2, h⟩, fun h => h.2⟩)]) (fun fuel => by rw [s_SystemSame_L0.eq_2, nlt_dec, cof]) with ⟨e, q⟩ | ⟨e, q⟩
   ·rw [e, dq_no (fun h => q (by rw [h]))]; rfl
   ·rw [e, dq_iff.2 (syEq.2 ⟨dq_iff.1 h1, q⟩)]; rfl
  ·rw [(len_ne hl).1, cot, dq_no (fun h => hl (by rw [h]))]
theorem drawSame_eq (hf : 1048576 < fl) (l : List UInt8) : ∃ a b, s_DrawSystemSame fl l = some (a, b) ∧ small a ∧ small b := by
 unfold s_DrawSystemSame
 have hl : (l.take 2000).length ≤ 2000 := by simp; omega
 generalize l.take 2000 = l at *
 obtain ⟨s, p, e, hs, h0, h1⟩ := draw8_eq (fl := fl) hl hf
 rw [e]
 simp only [obs]
 obtain ⟨r, e1, _, _⟩ := pick_eq (fl := fl) (p := p) (n := 3) h0 (by omega) hl
 rw [e1]
 simp only [obs]
 cases (r == 0) with
 | true =>
  rw [cot]
  obtain ⟨s2, p2, e2, hs2, a2, b2⟩ := step8_eq (fl := fl) hl hf (p := p + 1) (by omega) (by omega) hs
  rw [e2]
  simp only [obs]
  obtain ⟨s3, p3, e3, hs3, _, _⟩ := step8_eq (fl := fl) hl hf (p := p2) (by omega) (by omega) hs2
  rw [e3]
  simp only [obs]
  exact ⟨_, _, rfl, hs.sm.small, hs3.sm.small⟩
 | false =>
  rw [cof]
  obtain ⟨s2, p2, e2, hs2, a2, b2⟩ := wrong8_eq (fl := fl) hl hf (p := p + 1) (by omega) (by omega) (m := 0) (by omega) hs.wd
  rw [e2]
  simp only [obs]
  obtain ⟨s3, p3, e3, hs3, _, _⟩ := wrong8_eq (fl := fl) hl hf (p := p2) (by omega) (by omega) (m := 1) (by omega) hs2
  rw [e3]
  simp only [obs]
  exact ⟨_, _, rfl, hs.sm.small, hs3.small (by omega)⟩
theorem systemSame_true (l : List UInt8) : l_FnSystemSame 1048577 l = some true := by
 have hf : 1048576 < 1048577 := by decide
 generalize hfl : 1048577 = fl at hf
 unfold l_FnSystemSame
 cases hl : decide (1048576 < (l.length : Int)) with
 | true => rw [cot]
 | false =>
  rw [cof]
  obtain ⟨a, b, e, ha, hb⟩ := drawSame_eq (fl := fl) hf l
  rw [e]
  simp only [obs]
  rw [sys2 ha hf]
  simp only [obs]
  rw [sSys2 ha hf]
  simp only [obs, beq_self_eq_true, cot]
  rw [sys2 hb hf]
  simp only [obs]
  have hc : dq b a = dq a b := dq_of (by rw [dq_iff]; exact ⟨Eq.symm, Eq.symm⟩)
  rw [hc]
  simp only [beq_self_eq_true, cot]
  rw [sys2 ha hf, dq_iff.2 rfl]
  simp only [obs, cot]
  cases h : dq a b with
  | false => simp only [Bool.not_false, cot, obs]
  | true =>
   have hab := dq_iff.1 h
   subst hab
   simp only [Bool.not_true, cof]
   rw [iValid_eq ha hf]
   simp only [obs, beq_self_eq_true]
end Go.Proofs.YtciliaiocakdkaaDoor
