/- The plain laws that newSystem_true rests on. -/
import Derived.Test.YtfnliecmagnkdaaDoorGp
import Derived.Test.YtfnliecmagnkdaaDoorPure2
import Derived.Test.YtfnliecmagnkdaaDoorCpy
set_option linter.unusedSimpArgs false
set_option linter.unusedVariables false
namespace Go.Proofs.YtfnliecmagnkdaaDoor
open Go.RowKit
variable {fl : Nat}
theorem obs {α β : Type} {x : α} {f : α → Option β} : Option.bind (some x) f = f x := by rw [Option.bind_some]
theorem cof {α : Type} {x y : α} : cond false x y = y := by rw [cond_false]
theorem cot {α : Type} {x y : α} : cond true x y = x := by rw [cond_true]
theorem c1 (n : Nat) (h : n ≤ 16777216) : ck ((n : Int) + 1) = some ((n + 1 : Nat) : Int) := by rw [ck_in (by omega)]; rfl
theorem ck_succ {n : Nat} (h : n ≤ 2097152) : ck ((n : Int) + 1) = some ((n + 1 : Nat) : Int) := by rw [ck_in (by omega)]; rfl

theorem mkO_nat {n : Nat} (h : n ≤ 1048576) : mkO (n : Int) = some n := by
  unfold mkO; rw [if_pos (by simp [maxLen]; omega)]; simp

theorem within_eq (a b : Int) : i_within fl a b = some (within a b) := by
  unfold i_within within; cases decide (0 ≤ a) <;> rfl
theorem iKey_eq (k : K) : i_KeyValid fl k = some (keyOk k) := by
  unfold i_KeyValid keyOk; rw [within_eq, within_eq]; cases within k.s 16 <;> rfl
/-! ### copies -/
theorem clone_eq {t : T} (h : t.b.length + t.f.length ≤ 1048576) : i_Table_clone fl t = some t := by
  unfold i_Table_clone slices_Clone_Int slices_Clone_Frame
  rw [cnt_in (by omega), cnt_in (by omega)]; simp only [obs]
/-! ### the place of a key -/
theorem find1_eq (f : F) (k : K) : i_Table_find_1 fl f k = some (hasKey k f) := by
  unfold i_Table_find_1 hasKey
  rw [show (f.k == k) = decide (f.k = k) from rfl]
  cases f.u <;> simp
theorem indexFind_L0 {l : List F} {k : K} (hl : l.length ≤ 1048576) : ∀ (fuel i : Nat), i ≤ l.length → l.length - i < fuel → (∀ j, (h : j < l.length) → j < i → hasKey k l[j] = false) →
    (slices_IndexFunc_Frame_of_i_Table_find_1_L0 fl l k fuel i = some (.ret (findF l k))) ∨ (slices_IndexFunc_Frame_of_i_Table_find_1_L0 fl l k fuel i = some (.out (l.length : Int)) ∧ findF l k = -1) := by
  intro fuel
  induction fuel with
  | zero => intro i _ h _; omega
  | succ fuel ih =>
    intro i hi hf ht
    rw [slices_IndexFunc_Frame_of_i_Table_find_1_L0.eq_2]
    by_cases h : i < l.length
    · rw [decide_eq_true (by omega : (i : Int) < (l.length : Int)), cot, idx_nat h]
      simp only [obs, find1_eq]
      cases hk : hasKey k l[i] with
      | true => left; rw [cot, findF_some h hk (fun j hj => ht j (by omega) hj)]
      | false =>
        rw [cof, ck_succ (by omega)]
        simp only [obs]
        refine ih (i + 1) (by omega) (by omega) fun j hj hji => ?_
        by_cases e : j = i
        · subst e; exact hk
        · exact ht j hj (by omega)
    · have e : i = l.length := by omega
      subst e
      right
      simp only [Int.lt_irrefl, decide_false, cof]
      exact ⟨trivial, findF_none fun j hj => ht j hj hj⟩
theorem find_eq {t : T} {k : K} (hl : t.f.length ≤ 1048576) (hf : 1048576 < fl) : i_Table_find fl t k = some (findF t.f k) := by
  unfold i_Table_find slices_IndexFunc_Frame_of_i_Table_find_1
  rcases indexFind_L0 (fl := fl) (l := t.f) (k := k) hl fl 0 (by omega) (by omega) (fun j _ hj => by omega) with h | ⟨h, e⟩
  · rw [show ((0 : Nat) : Int) = 0 from rfl] at h
    rw [h]; simp only [obs]
  · rw [show ((0 : Nat) : Int) = 0 from rfl] at h
    rw [h]; simp only [obs, e]

/-! ### a chain -/




theorem takeO_nat {α : Type} {l : List α} {i : Nat} (h : i ≤ l.length) : takeO l (i : Int) = some (l.take i) := by
  unfold takeO; rw [if_pos (by omega)]; simp
theorem mul64_one : ∀ b : Fin 17, math_bits_Mul fl 1 ((b.val : Nat) : Int) = some (0, ((b.val : Nat) : Int)) := by
  unfold math_bits_Mul math_bits_Mul64
  decide +kernel
theorem dropO_nat {α : Type} {l : List α} {i : Nat} (h : i ≤ l.length) : dropO l (i : Int) = some (l.drop i) := by
  unfold dropO; rw [if_pos (by omega)]; simp
theorem cpy_rep {α : Type} {x z : α} {n b : Nat} (h : n ≤ b) : cpy (List.replicate n x ++ List.replicate (b - n) z) n ((List.replicate n x ++ List.replicate (b - n) z).take n) = List.replicate (min (2 * n) b) x ++ List.replicate (b - min (2 * n) b) z := by
  have e1 : (List.replicate n x ++ List.replicate (b - n) z).take n = List.replicate n x := by
    rw [List.take_append_of_le_length (by simp), List.take_of_length_le (by simp)]
  have e0 : (List.replicate n x ++ List.replicate (b - n) z).length = b := by simp; omega
  unfold cpy
  rw [e1, e0, List.take_replicate, List.length_replicate, List.drop_append, List.drop_of_length_le (by simp), List.nil_append, List.drop_replicate, List.length_replicate, List.replicate_append_replicate]
  congr 2 <;> omega
theorem repI_L0 {x z : Int} {b : Nat} (hb : b ≤ 16) : ∀ fuel n, n ≤ b → 1 ≤ n → b - n < fuel → slices_Repeat_Int_L0 fl b fuel (List.replicate n x ++ List.replicate (b - n) z) (n : Int) = some (.out (List.replicate b x, (b : Int))) := by
  intro fuel
  induction fuel with
  | zero => intro n _ _ h; omega
  | succ fuel ih =>
    intro n hn h1 hf
    have e0 : (List.replicate n x ++ List.replicate (b - n) z).length = b := by simp; omega
    rw [slices_Repeat_Int_L0.eq_2]
    by_cases h : n < b
    · rw [decide_eq_true (by omega : (n : Int) < (b : Int)), cot, dropO_nat (by omega), takeO_nat (by omega)]
      simp only [obs, Int.toNat_natCast, cpy_rep hn, e0, List.length_take]
      have e2 : (n : Int) + ((min (min n b) (b - n) : Nat) : Int) = ((min (2 * n) b : Nat) : Int) := by omega
      rw [e2, ck_in (by omega)]
      simp only [obs]
      exact ih _ (by omega) (by omega) (by omega)
    · have e : n = b := by omega
      subst e
      rw [decide_eq_false (by omega), cof, Nat.sub_self]; simp
theorem repF_L0 {x z : F} {b : Nat} (hb : b ≤ 16) : ∀ fuel n, n ≤ b → 1 ≤ n → b - n < fuel → slices_Repeat_Frame_L0 fl b fuel (List.replicate n x ++ List.replicate (b - n) z) (n : Int) = some (.out (List.replicate b x, (b : Int))) := by
  intro fuel
  induction fuel with
  | zero => intro n _ _ h; omega
  | succ fuel ih =>
    intro n hn h1 hf
    have e0 : (List.replicate n x ++ List.replicate (b - n) z).length = b := by simp; omega
    rw [slices_Repeat_Frame_L0.eq_2]
    by_cases h : n < b
    · rw [decide_eq_true (by omega : (n : Int) < (b : Int)), cot, dropO_nat (by omega), takeO_nat (by omega)]
      simp only [obs, Int.toNat_natCast, cpy_rep hn, e0, List.length_take]
      have e2 : (n : Int) + ((min (min n b) (b - n) : Nat) : Int) = ((min (2 * n) b : Nat) : Int) := by omega
      rw [e2, ck_in (by omega)]
      simp only [obs]
      exact ih _ (by omega) (by omega) (by omega)
    · have e : n = b := by omega
      subst e
      rw [decide_eq_false (by omega), cof, Nat.sub_self]; simp
theorem cpy_one {α : Type} {x z : α} {b : Nat} (h : 1 ≤ b) : cpy (List.replicate b z) 0 [x] = List.replicate 1 x ++ List.replicate (b - 1) z := by
  unfold cpy
  rw [List.length_replicate, List.drop_replicate, List.take_zero, List.nil_append, List.take_of_length_le (by simp; omega)]
  have : 0 + min [x].length (b - 0) = 1 := by simp; omega
  rw [this]; rfl
theorem repI_eq {x : Int} {b : Nat} (h1 : 1 ≤ b) (h2 : b ≤ 16) (hf : 1048576 < fl) : slices_Repeat_Int fl [x] b = some (List.replicate b x) := by
  unfold slices_Repeat_Int
  have hm := mul64_one (fl := fl) ⟨b, by omega⟩
  simp only [] at hm
  rw [decide_eq_false (by omega), cof, ckU_in (by simp), ckU_in (by omega)]
  simp only [obs, List.length_singleton]
  rw [show ((1 : Nat) : Int) = 1 from rfl, hm]
  simp only [obs]
  rw [decide_eq_false (by omega), cof]
  simp only [obs]
  rw [decide_eq_false (by omega), cof, ck_in (by omega)]
  simp only [obs]
  rw [mkO_nat (by omega)]
  simp only [obs, cpy_one h1, List.length_replicate]
  have e : ((min 1 (b - 0) : Nat) : Int) = ((1 : Nat) : Int) := by omega
  rw [e, repI_L0 h2 fl 1 h1 (by omega) (by omega)]
  simp only [obs]
theorem repF_eq {x : F} {b : Nat} (h1 : 1 ≤ b) (h2 : b ≤ 16) (hf : 1048576 < fl) : slices_Repeat_Frame fl [x] b = some (List.replicate b x) := by
  unfold slices_Repeat_Frame
  have hm := mul64_one (fl := fl) ⟨b, by omega⟩
  simp only [] at hm
  rw [decide_eq_false (by omega), cof, ckU_in (by simp), ckU_in (by omega)]
  simp only [obs, List.length_singleton]
  rw [show ((1 : Nat) : Int) = 1 from rfl, hm]
  simp only [obs]
  rw [decide_eq_false (by omega), cof]
  simp only [obs]
  rw [decide_eq_false (by omega), cof, ck_in (by omega)]
  simp only [obs]
  rw [mkO_nat (by omega)]
  simp only [obs, cpy_one h1, List.length_replicate]
  have e : ((min 1 (b - 0) : Nat) : Int) = ((1 : Nat) : Int) := by omega
  rw [e, repF_L0 h2 fl 1 h1 (by omega) (by omega)]
  simp only [obs]

/-! ### a new table -/
def newT (n m : Nat) : T := ⟨List.replicate m (-1), List.replicate n freeF⟩
def newTR (n m : Int) : T × Bool := if (decide (1 ≤ n) && decide (n ≤ 16) && decide (1 ≤ m) && decide (m ≤ 16)) = true then (newT n.toNat m.toNat, true) else (⟨[], []⟩, false)
theorem iNewTable_eq {n m : Int} (hf : 1048576 < fl) : i_NewTable fl n m = some (newTR n m) := by
  unfold i_NewTable newTR i_bucketsValid
  by_cases h1 : n < 1
  · rw [decide_eq_true h1, decide_eq_false (by omega : ¬ 1 ≤ n)]; simp [obs]
  rw [decide_eq_false h1, decide_eq_true (by omega : 1 ≤ n)]
  by_cases h2 : 16 < n
  · rw [decide_eq_true h2, decide_eq_false (by omega : ¬ n ≤ 16)]; simp [obs]
  rw [decide_eq_false h2, decide_eq_true (by omega : n ≤ 16)]
  by_cases h3 : 1 ≤ m
  · by_cases h4 : m ≤ 16
    · rw [decide_eq_true h3, decide_eq_true h4]
      obtain ⟨a, rfl⟩ : ∃ a : Nat, n = a := ⟨n.toNat, by omega⟩
      obtain ⟨b, rfl⟩ : ∃ b : Nat, m = b := ⟨m.toNat, by omega⟩
      simp only [cof, cot, obs, Bool.not_true, Bool.true_and, if_true]
      rw [repI_eq (by omega) (by omega) hf]
      simp only [obs]
      rw [repF_eq (by omega) (by omega) hf]
      simp only [obs]
      rfl
    · rw [decide_eq_true h3, decide_eq_false h4]; simp [obs]
  · rw [decide_eq_false h3]; simp [obs]

theorem bXor_nn {p q : Int} (h0 : 0 ≤ p) (h1 : p < 4611686018427387904) (h2 : 0 ≤ q) (h3 : q < 4611686018427387904) : 0 ≤ bXor p q := by
  obtain ⟨a, rfl⟩ : ∃ a : Nat, p = a := ⟨p.toNat, by omega⟩
  obtain ⟨b, rfl⟩ : ∃ b : Nat, q = b := ⟨q.toNat, by omega⟩
  have e : ∀ c : Nat, c < 4611686018427387904 → (BitVec.ofInt 64 (c : Int)).toNat = c := fun c hc => by
    rw [BitVec.toNat_ofInt]
    omega
  have ha := e a (by omega)
  have hb := e b (by omega)
  have hx : (BitVec.ofInt 64 (a : Int) ^^^ BitVec.ofInt 64 (b : Int)).toNat < 2 ^ 62 := by
    rw [BitVec.toNat_xor, ha, hb]
    exact Nat.xor_lt_two_pow (by omega) (by omega)
  unfold bXor
  rw [IntWalk.i64_left, IntWalk.wrap64_in _ (by omega)]
  omega
theorem remO_nn {a b : Int} (ha : 0 ≤ a) (hb : 0 < b) : ∃ r, remO a b = some r ∧ 0 ≤ r ∧ r < b := by
  unfold remO
  rw [if_neg (by omega)]
  exact ⟨_, rfl, Int.tmod_nonneg _ ha, Int.tmod_lt_of_pos _ hb⟩
theorem idx_in {α : Type} {l : List α} {i : Int} (h0 : 0 ≤ i) (h1 : i < (l.length : Int)) : ∃ x ∈ l, idx l i = some x := by
  obtain ⟨n, rfl⟩ : ∃ n : Nat, i = n := ⟨i.toNat, by omega⟩
  exact ⟨l[n]'(by omega), List.getElem_mem _, idx_nat (by omega)⟩
theorem u8_lt (x : UInt8) : (x.toNat : Int) ≤ 255 := by have := x.toNat_lt; omega
theorem pick_eq {l : List UInt8} {p n : Int} (hp : 0 ≤ p) (hp2 : p ≤ 1073741824) (hl : l.length ≤ 2000) : ∃ r, s_l12Rd_pick fl l p n = some (r, p + 1) ∧ (1 ≤ n → 0 ≤ r ∧ r < n) ∧ (n < 1 → r = 0) := by
  unfold s_l12Rd_pick
  rw [ck_in (by omega)]
  simp only [obs]
  by_cases hn : n < 1
  · rw [decide_eq_true hn]
    simp only [cot, obs]
    exact ⟨0, rfl, fun h => by omega, fun _ => rfl⟩
  rw [decide_eq_false hn]
  simp only [cof, obs]
  by_cases hz : l.length = 0
  · rw [hz]
    simp only [show (((0 : Nat) : Int) == 0) = true from rfl, cot]
    exact ⟨0, rfl, fun h => by omega, fun _ => rfl⟩
  rw [show ((l.length : Int) == 0) = false from by simpa using (fun e => hz (by rw [e]; rfl))]
  simp only [cof]
  rw [show p + 1 - 1 = p from by omega, ck_in (by omega)]
  simp only [obs]
  by_cases hlt : p < (l.length : Int)
  · rw [decide_eq_true hlt, cot]
    obtain ⟨x, _, hx⟩ := idx_in hp hlt
    rw [hx]
    simp only [obs]
    have := u8_lt x
    rw [ck_in (by omega)]
    simp only [obs]
    obtain ⟨r, hr, r0, r1⟩ := remO_nn (a := (x.toNat : Int)) (b := n) (by omega) (by omega)
    rw [hr]
    simp only [obs]
    exact ⟨r, rfl, fun _ => ⟨r0, r1⟩, fun h => by omega⟩
  · rw [decide_eq_false hlt, cof]
    obtain ⟨r1, h1, a1, b1⟩ := remO_nn (a := p) (b := (l.length : Int)) hp (by omega)
    rw [h1]
    simp only [obs]
    obtain ⟨x, _, hx⟩ := idx_in a1 b1
    rw [hx]
    simp only [obs]
    have u1 := u8_lt x
    rw [ck_in (by omega)]
    simp only [obs]
    rw [ck_in (by omega)]
    simp only [obs]
    rw [ck_in (by omega)]
    simp only [obs]
    rw [ck_in (by omega)]
    simp only [obs]
    obtain ⟨r2, h2, a2, b2⟩ := remO_nn (a := p * 7 + 3) (b := (l.length : Int)) (by omega) (by omega)
    rw [h2]
    simp only [obs]
    obtain ⟨y, _, hy⟩ := idx_in a2 b2
    rw [hy]
    simp only [obs]
    have u2 := u8_lt y
    rw [ck_in (by omega)]
    simp only [obs]
    rw [ck_in (by omega)]
    simp only [obs]
    rw [ck_in (by omega)]
    simp only [obs]
    rw [ck_in (by omega)]
    simp only [obs]
    rw [ck_in (by omega)]
    simp only [obs]
    have q0 : 0 ≤ p.tdiv (l.length : Int) := Int.tdiv_nonneg hp (by omega)
    have q1 : p.tdiv (l.length : Int) ≤ p := by
      rw [Int.tdiv_eq_ediv_of_nonneg hp]
      exact Int.ediv_le_self _ hp
    have hq : quoO p (l.length : Int) = some (p.tdiv (l.length : Int)) := by
      unfold quoO; rw [if_neg (by omega), ck_in (by omega)]
    rw [hq]
    simp only [obs]
    generalize p.tdiv (l.length : Int) = q at *
    rw [ck_in (by omega)]
    simp only [obs]
    rw [ck_in (by omega)]
    simp only [obs]
    generalize hz2 : (x.toNat : Int) * 131 + (y.toNat : Int) * 1117 + p * 29 + q * 53 = z
    have z0 : 0 ≤ z ∧ z < 1152921504606846976 := by omega
    have hz3 : quoO z 64 = some (z / 64) := by
      unfold quoO; rw [if_neg (by decide), Int.tdiv_eq_ediv_of_nonneg z0.1, ck_in (by omega)]
    rw [hz3]
    simp only [obs]
    have hx0 := bXor_nn (p := z) (q := z / 64) z0.1 (by omega) (by omega) (by omega)
    obtain ⟨r, hr, c0, c1⟩ := remO_nn (a := bXor z (z / 64)) (b := n) hx0 (by omega)
    rw [hr]
    simp only [obs]
    exact ⟨r, rfl, fun _ => ⟨c0, c1⟩, fun h => by omega⟩
theorem num_eq {l : List UInt8} {p : Int} {L : List Int} (hp : 0 ≤ p) (hp2 : p ≤ 1073741824) (hl : l.length ≤ 2000) (hL : 0 < L.length) : ∃ x ∈ L, s_l12Rd_num fl l p L = some (x, p + 1) := by
  unfold s_l12Rd_num
  obtain ⟨r, h, hr, _⟩ := pick_eq (fl := fl) (n := (L.length : Int)) hp hp2 hl
  rw [h]
  simp only [obs]
  obtain ⟨x, hx, e⟩ := idx_in (hr (by omega)).1 (hr (by omega)).2
  rw [e]
  simp only [obs]
  exact ⟨x, hx, rfl⟩

theorem newB_L0 {n : Nat} (hn : n ≤ 1048576) : ∀ (fuel i : Nat), i ≤ n → n - i < fuel → s_NewTable_L0 fl (n : Int) fuel (List.replicate i (-1)) i = some (.out (List.replicate n (-1), (n : Int))) := by
  intro fuel
  induction fuel with
  | zero => intro i _ h; omega
  | succ fuel ih =>
    intro i hi hf
    rw [s_NewTable_L0.eq_2]
    by_cases h : i < n
    · rw [decide_eq_true (by omega : (i : Int) < (n : Int)), cot, cnt_in (by simp; omega), ck_succ (by omega)]
      simp only [obs]
      have := ih (i + 1) (by omega) (by omega)
      rw [List.replicate_succ'] at this
      exact this
    · have e : i = n := by omega
      subst e
      simp only [Int.lt_irrefl, decide_false, cof]
theorem newF_L1 {n : Nat} (hn : n ≤ 1048576) : ∀ (fuel i : Nat), i ≤ n → n - i < fuel → s_NewTable_L1 fl (n : Int) fuel (List.replicate i freeF) i = some (.out (List.replicate n freeF, (n : Int))) := by
  intro fuel
  induction fuel with
  | zero => intro i _ h; omega
  | succ fuel ih =>
    intro i hi hf
    rw [s_NewTable_L1.eq_2]
    by_cases h : i < n
    · rw [decide_eq_true (by omega : (i : Int) < (n : Int)), cot, cnt_in (by simp; omega), ck_succ (by omega)]
      simp only [obs]
      have := ih (i + 1) (by omega) (by omega)
      rw [List.replicate_succ'] at this
      exact this
    · have e : i = n := by omega
      subst e
      simp only [Int.lt_irrefl, decide_false, cof]
theorem sNewTable_eq {n m : Nat} (h1 : 1 ≤ n) (h2 : n ≤ 16) (h3 : 1 ≤ m) (h4 : m ≤ 16) (hf : 1048576 < fl) : s_NewTable fl n m = some (⟨List.replicate m (-1), List.replicate n freeF⟩, true) := by
  unfold s_NewTable s_l2Buckets
  rw [decide_eq_false (by omega : ¬ (n : Int) < 1), decide_eq_false (by omega : ¬ 16 < (n : Int)), decide_eq_true (by omega : 1 ≤ (m : Int)), decide_eq_true (by omega : (m : Int) ≤ 16)]
  simp only [cof, cot, obs, Bool.not_true]
  have e1 := newB_L0 (fl := fl) (n := m) (by omega) fl 0 (by omega) (by omega)
  have e2 := newF_L1 (fl := fl) (n := n) (by omega) fl 0 (by omega) (by omega)
  rw [show ((0 : Nat) : Int) = 0 from rfl, List.replicate_zero] at e1 e2
  rw [e1]
  simp only [obs]
  rw [e2]
  simp only [obs]


theorem equalI_L0 {l : List Int} (hl : l.length ≤ 1048576) : ∀ (fuel i : Nat), i ≤ l.length → l.length - i < fuel → slices_Equal_Int_L0 fl l l fuel i = some (.out (l.length : Int)) := by
  intro fuel
  induction fuel with
  | zero => intro i _ h; omega
  | succ fuel ih =>
    intro i hi hf
    rw [slices_Equal_Int_L0.eq_2]
    by_cases h : i < l.length
    · rw [decide_eq_true (by omega : (i : Int) < (l.length : Int)), cot, idx_nat h, ck_succ (by omega)]
      simp only [obs, bne_self_eq_false, cof]
      exact ih (i + 1) (by omega) (by omega)
    · have e : i = l.length := by omega
      subst e
      simp only [Int.lt_irrefl, decide_false, cof]
theorem equalF_L0 {l : List F} (hl : l.length ≤ 1048576) : ∀ (fuel i : Nat), i ≤ l.length → l.length - i < fuel → slices_Equal_Frame_L0 fl l l fuel i = some (.out (l.length : Int)) := by
  intro fuel
  induction fuel with
  | zero => intro i _ h; omega
  | succ fuel ih =>
    intro i hi hf
    rw [slices_Equal_Frame_L0.eq_2]
    by_cases h : i < l.length
    · rw [decide_eq_true (by omega : (i : Int) < (l.length : Int)), cot, idx_nat h, ck_succ (by omega)]
      simp only [obs, bne_self_eq_false, cof]
      exact ih (i + 1) (by omega) (by omega)
    · have e : i = l.length := by omega
      subst e
      simp only [Int.lt_irrefl, decide_false, cof]
theorem same_self {t : T} (hl : t.b.length + t.f.length ≤ 1048576) (hf : 1048576 < fl) : i_TableSame fl t t = some true := by
  unfold i_TableSame slices_Equal_Int slices_Equal_Frame
  have e1 := equalI_L0 (fl := fl) (l := t.b) (by omega) fl 0 (by omega) (by omega)
  have e2 := equalF_L0 (fl := fl) (l := t.f) (by omega) fl 0 (by omega) (by omega)
  rw [show ((0 : Nat) : Int) = 0 from rfl] at e1 e2
  simp only [bne_self_eq_false, cof, e1, e2, obs, cot]







/-! ### notes -/
def nt0 : Nt := ⟨⟨0, 0⟩, 0⟩
def hasN (k : K) (x : Nt) : Bool := decide (x.k = k)
def noteF (l : List Nt) (k : K) : Int := match l.findIdx? (hasN k) with | some i => (i : Int) | none => -1
def kset (l : List Nt) : List K := l.map (·.k)
theorem noteF_spec (l : List Nt) (k : K) : (noteF l k = -1 ∧ ∀ x ∈ l, x.k ≠ k) ∨ ∃ i, ∃ h : i < l.length, noteF l k = (i : Int) ∧ l[i].k = k ∧ ∀ j, (hj : j < i) → (l[j]'(by omega)).k ≠ k := by
  cases h : l.findIdx? (hasN k) with
  | none =>
    left
    refine ⟨by simp [noteF, h], fun x hx => ?_⟩
    have := List.findIdx?_eq_none_iff.1 h x hx
    simpa [hasN] using this
  | some i =>
    right
    obtain ⟨hi, h1, h2⟩ := List.findIdx?_eq_some_iff_getElem.1 h
    exact ⟨i, hi, by simp [noteF, h], by simpa [hasN] using h1, fun j hj => by simpa [hasN] using h2 j hj⟩
theorem noteF_some {l : List Nt} {k : K} {i : Nat} (hi : i < l.length) (h : l[i].k = k) (h' : ∀ j, (hj : j < i) → (l[j]'(by omega)).k ≠ k) : noteF l k = (i : Int) := by
  have : l.findIdx? (hasN k) = some i := List.findIdx?_eq_some_iff_getElem.2 ⟨hi, by simp [hasN, h], fun j hj => by simpa [hasN] using h' j hj⟩
  simp [noteF, this]
theorem noteF_none {l : List Nt} {k : K} (h : ∀ x ∈ l, x.k ≠ k) : noteF l k = -1 := by
  have : l.findIdx? (hasN k) = none := List.findIdx?_eq_none_iff.2 fun x hx => by simpa [hasN] using h x hx
  simp [noteF, this]
theorem noteF_mem {l : List Nt} {k : K} : 0 ≤ noteF l k ↔ k ∈ kset l := by
  unfold kset
  rcases noteF_spec l k with ⟨e, h⟩ | ⟨i, hi, e, h, _⟩
  · rw [e]
    constructor
    · intro h'; omega
    · intro h'; obtain ⟨x, hx, hk⟩ := List.mem_map.1 h'; exact absurd hk (h x hx)
  · rw [e]
    exact ⟨fun _ => List.mem_map.2 ⟨l[i], List.getElem_mem hi, h⟩, fun _ => by omega⟩
theorem noteF_neg {l : List Nt} {k : K} : noteF l k < 0 ↔ k ∉ kset l := by rw [← noteF_mem]; omega
theorem noteF_get {l : List Nt} {k : K} (h : 0 ≤ noteF l k) : ∃ i, ∃ hi : i < l.length, noteF l k = (i : Int) ∧ l[i].k = k ∧ l.getD (noteF l k).toNat nt0 = l[i] := by
  rcases noteF_spec l k with ⟨e, _⟩ | ⟨i, hi, e, h1, _⟩
  · omega
  · exact ⟨i, hi, e, h1, by rw [e]; simp [hi]⟩
theorem kset_inj {l : List Nt} (hn : (kset l).Nodup) {x y : Nt} (hx : x ∈ l) (hy : y ∈ l) (h : x.k = y.k) : x = y := by
  induction l with
  | nil => cases hx
  | cons z l ih =>
    simp only [kset, List.map_cons, List.nodup_cons] at hn
    rcases List.mem_cons.1 hx with e | e <;> rcases List.mem_cons.1 hy with e' | e'
    · rw [e, e']
    · subst e; exact absurd (List.mem_map.2 ⟨y, e', h.symm⟩) hn.1
    · subst e'; exact absurd (List.mem_map.2 ⟨x, e, h⟩) hn.1
    · exact ih hn.2 e e'
def dropN (l : List Nt) (k : K) : List Nt := l.filter fun x => decide (x.k ≠ k)
theorem dropN_mem {l : List Nt} {k : K} {x : Nt} : x ∈ dropN l k ↔ x ∈ l ∧ x.k ≠ k := by simp [dropN]
theorem kset_drop {l : List Nt} {k q : K} : q ∈ kset (dropN l k) ↔ q ∈ kset l ∧ q ≠ k := by
  simp only [kset, List.mem_map, dropN_mem]
  constructor
  · rintro ⟨x, ⟨a, b⟩, rfl⟩; exact ⟨⟨x, a, rfl⟩, b⟩
  · rintro ⟨⟨x, a, rfl⟩, b⟩; exact ⟨x, ⟨a, b⟩, rfl⟩
theorem kset_nodup_filter {l : List Nt} {p : Nt → Bool} (h : (kset l).Nodup) : (kset (l.filter p)).Nodup := by
  unfold kset at *
  exact h.sublist (List.filter_sublist.map _)
theorem dropN_le {l : List Nt} {k : K} : (dropN l k).length ≤ l.length := List.length_filter_le _ _
theorem dropN_none {l : List Nt} {k : K} (h : k ∉ kset l) : dropN l k = l := List.filter_eq_self.2 fun x hx => by
  have : x.k ≠ k := fun e => h (List.mem_map.2 ⟨x, hx, e⟩)
  simpa using this

/-! ### valid -/
structure COk (t : T) (c : Cp) : Prop where
  n4 : c.n.length ≤ 4
  w4 : c.w.length ≤ 4
  nk : ∀ x ∈ c.n, keyOk x.k = true
  nn : (kset c.n).Nodup
  wn : (kset c.w).Nodup
  nt : ∀ x ∈ c.n, x.k ∉ kset c.w → findF t.f x.k = x.fr ∧ 0 ≤ x.fr
  nw : ∀ x ∈ c.n, ∀ y ∈ c.w, y.k = x.k → y = x ∧ findF t.f x.k < 0
  ws : ∀ y ∈ c.w, y.k ∈ kset c.n
  wf : ∀ y ∈ c.w, (0 ≤ y.fr ∧ y.fr < t.f.length) ∧ (t.f.getD y.fr.toNat freeF).u = false
theorem COk.wsub {t : T} {c : Cp} (h : COk t c) : ∀ y ∈ c.w, y ∈ c.n := fun y hy => by
  obtain ⟨x, hx, e⟩ := List.mem_map.1 (h.ws y hy)
  rw [(h.nw x hx y hy e.symm).1]; exact hx
structure SyOk (s : Sy) : Prop where
  t : TOk s.t
  c1 : 1 ≤ s.c.length
  c2 : s.c.length ≤ 4
  c : ∀ c ∈ s.c, COk s.t c
noncomputable def sysOk (s : Sy) : Bool := @decide (SyOk s) (Classical.propDecidable _)
theorem sysOk_iff {s : Sy} : sysOk s = true ↔ SyOk s := by unfold sysOk; exact @decide_eq_true_iff _ (Classical.propDecidable _)
/-! ### what becomes of a system -/
def sy0 : Sy := ⟨⟨[], []⟩, []⟩
def cp0 : Cp := ⟨[], []⟩
def addC (c : Cp) (x : Nt) : Cp := if c.n.length = 4 then ⟨dropN c.n (c.n.getD 0 nt0).k ++ [x], dropN c.w (c.n.getD 0 nt0).k⟩ else ⟨c.n ++ [x], c.w⟩
noncomputable def lookR (s : Sy) (cpu : Int) (k : K) : Sy × Int × Int × Bool :=
  if sysOk s && within cpu s.c.length && keyOk k then
    if 0 ≤ noteF (s.c.getD cpu.toNat cp0).n k then (s, ((s.c.getD cpu.toNat cp0).n.getD (noteF (s.c.getD cpu.toNat cp0).n k).toNat nt0).fr, 1, true)
    else if findF s.t.f k < 0 then (s, 0, 3, true)
    else (⟨s.t, s.c.set cpu.toNat (addC (s.c.getD cpu.toNat cp0) ⟨k, findF s.t.f k⟩)⟩, findF s.t.f k, 2, true)
  else (sy0, 0, 0, false)
/-! ### they stay valid -/
theorem COk.drop {t : T} {c : Cp} (h : COk t c) (q : K) : COk t ⟨dropN c.n q, dropN c.w q⟩ := by
  refine ⟨Nat.le_trans dropN_le h.n4, Nat.le_trans dropN_le h.w4, fun x hx => h.nk x (dropN_mem.1 hx).1, kset_nodup_filter h.nn, kset_nodup_filter h.wn, fun x hx hw => ?_, fun x hx y hy e => h.nw x (dropN_mem.1 hx).1 y (dropN_mem.1 hy).1 e, fun y hy => ?_, fun y hy => h.wf y (dropN_mem.1 hy).1⟩
  · obtain ⟨a, b⟩ := dropN_mem.1 hx
    exact h.nt x a fun hm => hw (kset_drop.2 ⟨hm, b⟩)
  · obtain ⟨a, b⟩ := dropN_mem.1 hy
    exact kset_drop.2 ⟨h.ws y a, b⟩
theorem COk.congr {t t' : T} {c : Cp} (h : COk t c) (hl : t'.f.length = t.f.length) (hf : ∀ x ∈ c.n, findF t'.f x.k = findF t.f x.k) (hu : ∀ y ∈ c.w, (t'.f.getD y.fr.toNat freeF).u = (t.f.getD y.fr.toNat freeF).u) : COk t' c :=
  ⟨h.n4, h.w4, h.nk, h.nn, h.wn, fun x hx hw => by rw [hf x hx]; exact h.nt x hx hw, fun x hx y hy e => by rw [hf x hx]; exact h.nw x hx y hy e, h.ws, fun y hy => by rw [hl, hu y hy]; exact h.wf y hy⟩
theorem findF_congr {l l' : List F} {k : K} (hl : l'.length = l.length) (h : ∀ j, (hj : j < l.length) → hasKey k (l'[j]'(by omega)) = hasKey k l[j]) : findF l' k = findF l k := by
  rcases findF_spec l k with ⟨e, h1⟩ | ⟨i, hi, e, h1, h2⟩
  · rw [e]
    exact findF_none fun j hj => by rw [h j (by omega)]; exact h1 _ (List.getElem_mem _)
  · rw [e]
    exact findF_some (by omega) (by rw [h i hi]; exact h1) fun j hj => by rw [h j (by omega)]; exact h2 j hj
theorem map_find {t : T} {k q : K} {fr : Nat} {r : Int} (hi : fr < t.f.length) (hu : t.f[fr].u = false) (hq : q ≠ k) : findF (mapT t k fr r).f q = findF t.f q := by
  refine findF_congr (by simp [mapT]) fun j hj => ?_
  simp only [mapT, List.getElem_set]
  split
  · rename_i e; subst e; simp [hasKey, hu, Ne.symm hq]
  · rfl
theorem COk.map {t : T} {c : Cp} (h : COk t c) {k : K} {fr : Nat} {r : Int} (hi : fr < t.f.length) (hu : t.f[fr].u = false) (hk : findF t.f k < 0) (hh : ∀ y ∈ c.w, y.fr ≠ (fr : Int) ∧ y.k ≠ k) : COk (mapT t k fr r) c := by
  refine h.congr (by simp [mapT]) (fun x hx => map_find hi hu fun e => ?_) fun y hy => ?_
  · by_cases hw : x.k ∈ kset c.w
    · obtain ⟨y, hy, e'⟩ := List.mem_map.1 hw
      exact (hh y hy).2 (e'.trans e)
    · obtain ⟨a, b⟩ := h.nt x hx hw
      rw [e] at a; omega
  · have := (h.wf y hy).1
    have hne : fr ≠ y.fr.toNat := fun e => (hh y hy).1 (by omega)
    simp [mapT, List.getD, List.getElem?_set_ne hne]

/-! ### loops -/
theorem loop_first {R : Type} {L : Nat → Int → Option (LO Int R)} {n : Nat} (p : Nat → Bool) (r : Nat → R)
    (step : ∀ fuel (i : Nat), i < n → L (fuel + 1) (i : Int) = cond (p i) (some (.ret (r i))) (L fuel ((i + 1 : Nat) : Int)))
    (fin : ∀ fuel, L (fuel + 1) (n : Int) = some (.out (n : Int))) : ∀ fuel i, i ≤ n → n - i < fuel → (∀ j, j < i → p j = false) →
    (∃ m, m < n ∧ p m = true ∧ (∀ j, j < m → p j = false) ∧ L fuel (i : Int) = some (.ret (r m))) ∨ ((∀ j, j < n → p j = false) ∧ L fuel (i : Int) = some (.out (n : Int)))
  | 0, i, _, h, _ => by omega
  | fuel + 1, i, hi, hf, ht => by
    by_cases h : i < n
    · rw [step fuel i h]
      cases hp : p i with
      | true => left; exact ⟨i, h, hp, ht, by rw [cot]⟩
      | false =>
        rw [cof]
        exact loop_first p r step fin fuel (i + 1) (by omega) (by omega) fun j hj => by
          by_cases e : j = i
          · subst e; exact hp
          · exact ht j (by omega)
    · have e : i = n := by omega
      subst e
      right; exact ⟨ht, fin fuel⟩
theorem loop_first0 {R : Type} {L : Nat → Int → Option (LO Int R)} {n : Nat} (p : Nat → Bool) (r : Nat → R) (hn : n ≤ 1048576) (hf : 1048576 < fl)
    (step : ∀ fuel (i : Nat), i < n → L (fuel + 1) (i : Int) = cond (p i) (some (.ret (r i))) (L fuel ((i + 1 : Nat) : Int)))
    (fin : ∀ fuel, L (fuel + 1) (n : Int) = some (.out (n : Int))) :
    (∃ m, m < n ∧ p m = true ∧ (∀ j, j < m → p j = false) ∧ L fl 0 = some (.ret (r m))) ∨ ((∀ j, j < n → p j = false) ∧ L fl 0 = some (.out (n : Int))) :=
  loop_first p r step fin fl 0 (by omega) (by omega) (fun j hj => by omega)
theorem loop_fold {σ O : Type} {L : Nat → σ → Int → Option O} {n : Nat} (g : Nat → σ → σ) (Inv : Nat → σ → Prop) (out : σ → O)
    (step : ∀ fuel (i : Nat) s, i < n → Inv i s → L (fuel + 1) s (i : Int) = L fuel (g i s) ((i + 1 : Nat) : Int) ∧ Inv (i + 1) (g i s))
    (fin : ∀ fuel s, Inv n s → L (fuel + 1) s (n : Int) = some (out s)) : ∀ fuel i s, i ≤ n → n - i < fuel → Inv i s → ∃ s', Inv n s' ∧ L fuel s (i : Int) = some (out s')
  | 0, i, s, _, h, _ => by omega
  | fuel + 1, i, s, hi, hf, ht => by
    by_cases h : i < n
    · obtain ⟨h1, h2⟩ := step fuel i s h ht
      rw [h1]
      exact loop_fold g Inv out step fin fuel (i + 1) _ (by omega) (by omega) h2
    · have e : i = n := by omega
      subst e
      exact ⟨s, ht, fin fuel s ht⟩
theorem loop_fold0 {σ O : Type} {L : Nat → σ → Int → Option O} {n : Nat} (g : Nat → σ → σ) (Inv : Nat → σ → Prop) (out : σ → O) (hn : n ≤ 1048576) (hf : 1048576 < fl) (s : σ) (h0 : Inv 0 s)
    (step : ∀ fuel (i : Nat) s, i < n → Inv i s → L (fuel + 1) s (i : Int) = L fuel (g i s) ((i + 1 : Nat) : Int) ∧ Inv (i + 1) (g i s))
    (fin : ∀ fuel s, Inv n s → L (fuel + 1) s (n : Int) = some (out s)) : ∃ s', Inv n s' ∧ L fl s 0 = some (out s') :=
  loop_fold g Inv out step fin fl 0 s (by omega) (by omega) h0
theorem lt_dec {i n : Nat} (h : i < n) : decide ((i : Int) < (n : Int)) = true := decide_eq_true (by omega)
theorem nlt_dec (n : Nat) : decide ((n : Int) < (n : Int)) = false := by simp

/-! ### notes are found -/
theorem iNote_eq {l : List Nt} {k : K} (hl : l.length ≤ 1048576) (hf : 1048576 < fl) : i_noteOf fl l k = some (noteF l k) := by
  unfold i_noteOf slices_IndexFunc_Note_of_i_noteOf_1
  rcases loop_first0 (L := slices_IndexFunc_Note_of_i_noteOf_1_L0 fl l k) (n := l.length) (fun i => (l.getD i nt0).k == k) (fun i => (i : Int)) hl hf (fun fuel i h => by
      rw [slices_IndexFunc_Note_of_i_noteOf_1_L0.eq_2, lt_dec h, cot, idx_nat h, ck_succ (by omega)]
      simp only [obs, i_noteOf_1, List.getD_eq_getElem?_getD, List.getElem?_eq_getElem h, Option.getD_some]) (fun fuel => by rw [slices_IndexFunc_Note_of_i_noteOf_1_L0.eq_2, nlt_dec, cof]) with ⟨m, h1, h2, h3, e⟩ | ⟨h1, e⟩
  · rw [e]; simp only [obs]
    congr 1
    refine (noteF_some h1 (by simpa [h1] using h2) fun j hj => ?_).symm
    have := h3 j hj; simpa [show j < l.length by omega] using this
  · rw [e]; simp only [obs]
    congr 1
    refine (noteF_none fun x hx => ?_).symm
    obtain ⟨j, hj, rfl⟩ := List.getElem_of_mem hx
    have := h1 j hj; simpa [hj] using this

/-! ### each once -/
def dupB (l : List Nt) (i : Nat) : Bool := decide (0 ≤ noteF (l.take i) (l.getD i nt0).k)
theorem dup_nodup {l : List Nt} : (kset l).Nodup ↔ ∀ i, i < l.length → dupB l i = false := by
  rw [List.nodup_iff_pairwise_ne, List.pairwise_iff_getElem]
  simp only [kset, List.length_map, List.getElem_map]
  constructor
  · intro h i hi
    unfold dupB
    rw [decide_eq_false_iff_not, noteF_mem]
    intro hm
    obtain ⟨x, hx, e⟩ := List.mem_map.1 hm
    obtain ⟨j, hj, rfl⟩ := List.getElem_of_mem hx
    have hj2 : j < i := by simp at hj; omega
    have := h j i (by omega) hi hj2
    simp [hi] at e
    exact this e
  · intro h i j hi hj hij e
    have := h j hj
    unfold dupB at this
    rw [decide_eq_false_iff_not, noteF_mem] at this
    refine this (List.mem_map.2 ⟨l[i], List.mem_take_iff_getElem.2 ⟨i, by omega, rfl⟩, ?_⟩)
    simp [hj, e]

/-! ### a processor is valid -/
def badN (t : T) (c : Cp) (i : Nat) : Bool :=
  (!keyOk (c.n.getD i nt0).k || dupB c.n i) || ((decide (noteF c.w (c.n.getD i nt0).k < 0) && (decide (findF t.f (c.n.getD i nt0).k < 0) || findF t.f (c.n.getD i nt0).k != (c.n.getD i nt0).fr)) ||
    (decide (0 ≤ noteF c.w (c.n.getD i nt0).k) && (decide (0 ≤ findF t.f (c.n.getD i nt0).k) || c.w.getD (noteF c.w (c.n.getD i nt0).k).toNat nt0 != c.n.getD i nt0)))
def badW (t : T) (c : Cp) (i : Nat) : Bool :=
  (((decide (noteF c.n (c.w.getD i nt0).k < 0) || dupB c.w i) || decide ((c.w.getD i nt0).fr < 0)) || decide ((t.f.length : Int) ≤ (c.w.getD i nt0).fr)) || (t.f.getD (c.w.getD i nt0).fr.toNat freeF).u
theorem COk_iff {t : T} {c : Cp} : COk t c ↔ (c.n.length ≤ 4 ∧ c.w.length ≤ 4) ∧ (∀ i, i < c.n.length → badN t c i = false) ∧ ∀ i, i < c.w.length → badW t c i = false := by
  constructor
  · intro h
    refine ⟨⟨h.n4, h.w4⟩, fun i hi => ?_, fun i hi => ?_⟩
    · have hx : c.n[i] ∈ c.n := List.getElem_mem hi
      have e : c.n.getD i nt0 = c.n[i] := by simp [hi]
      unfold badN
      rw [dup_nodup.1 h.nn i hi, e, h.nk _ hx]
      by_cases hw : noteF c.w c.n[i].k < 0
      · obtain ⟨a, b⟩ := h.nt _ hx (noteF_neg.1 hw)
        simp [hw, a, b]
      · obtain ⟨m, hm, e1, hk, e2⟩ := noteF_get (show 0 ≤ noteF c.w c.n[i].k by omega)
        obtain ⟨a, b⟩ := h.nw _ hx c.w[m] (List.getElem_mem hm) hk
        rw [e2, a]
        simp [hw, b]
    · have hy : c.w[i] ∈ c.w := List.getElem_mem hi
      have e : c.w.getD i nt0 = c.w[i] := by simp [hi]
      unfold badW
      rw [dup_nodup.1 h.wn i hi, e]
      obtain ⟨⟨a, b⟩, d⟩ := h.wf _ hy
      have := noteF_mem.2 (h.ws _ hy)
      rw [d]
      simp
      omega
  · rintro ⟨⟨h1, h2⟩, h3, h4⟩
    have hN : ∀ i, (hi : i < c.n.length) → keyOk c.n[i].k = true ∧ dupB c.n i = false ∧ (noteF c.w c.n[i].k < 0 → 0 ≤ findF t.f c.n[i].k ∧ findF t.f c.n[i].k = c.n[i].fr) ∧ (0 ≤ noteF c.w c.n[i].k → findF t.f c.n[i].k < 0 ∧ c.w.getD (noteF c.w c.n[i].k).toNat nt0 = c.n[i]) := fun i hi => by
      have e : c.n.getD i nt0 = c.n[i] := by simp [hi]
      have := h3 i hi
      unfold badN at this
      rw [e] at this
      simp only [Bool.or_eq_false_iff, Bool.and_eq_false_iff, Bool.not_eq_false', decide_eq_false_iff_not, bne_eq_false_iff_eq] at this
      obtain ⟨⟨a, b⟩, d, f⟩ := this
      refine ⟨a, b, fun hw => ?_, fun hw => ?_⟩
      · rcases d with d | d
        · omega
        · exact ⟨by omega, d.2⟩
      · rcases f with f | f
        · omega
        · exact ⟨by omega, f.2⟩
    have hW : ∀ i, (hi : i < c.w.length) → 0 ≤ noteF c.n c.w[i].k ∧ dupB c.w i = false ∧ (0 ≤ c.w[i].fr ∧ c.w[i].fr < t.f.length) ∧ (t.f.getD c.w[i].fr.toNat freeF).u = false := fun i hi => by
      have e : c.w.getD i nt0 = c.w[i] := by simp [hi]
      have := h4 i hi
      unfold badW at this
      rw [e] at this
      simp only [Bool.or_eq_false_iff, decide_eq_false_iff_not] at this
      obtain ⟨⟨⟨⟨a, b⟩, d⟩, f⟩, g⟩ := this
      exact ⟨by omega, b, ⟨by omega, by omega⟩, g⟩
    refine ⟨h1, h2, fun x hx => ?_, dup_nodup.2 fun i hi => (hN i hi).2.1, dup_nodup.2 fun i hi => (hW i hi).2.1, fun x hx hw => ?_, fun x hx y hy e => ?_, fun y hy => ?_, fun y hy => ?_⟩
    · obtain ⟨i, hi, rfl⟩ := List.getElem_of_mem hx; exact (hN i hi).1
    · obtain ⟨i, hi, rfl⟩ := List.getElem_of_mem hx
      obtain ⟨a, b⟩ := (hN i hi).2.2.1 (noteF_neg.2 hw)
      exact ⟨b, by omega⟩
    · obtain ⟨i, hi, rfl⟩ := List.getElem_of_mem hx
      have hm : c.n[i].k ∈ kset c.w := List.mem_map.2 ⟨y, hy, e⟩
      obtain ⟨a, b⟩ := (hN i hi).2.2.2 (noteF_mem.2 hm)
      obtain ⟨m, hm', e1, hk, e2⟩ := noteF_get (noteF_mem.2 hm)
      refine ⟨?_, a⟩
      rw [e2] at b
      rw [← b]
      exact kset_inj (dup_nodup.2 fun i hi => (hW i hi).2.1) hy (List.getElem_mem hm') (e.trans hk.symm)
    · obtain ⟨i, hi, rfl⟩ := List.getElem_of_mem hy; exact noteF_mem.1 (hW i hi).1
    · obtain ⟨i, hi, rfl⟩ := List.getElem_of_mem hy; exact (hW i hi).2.2
noncomputable def cpuB (t : T) (c : Cp) : Bool := @decide (COk t c) (Classical.propDecidable _)
theorem cpuB_iff {t : T} {c : Cp} : cpuB t c = true ↔ COk t c := by unfold cpuB; exact @decide_eq_true_iff _ (Classical.propDecidable _)
theorem cpuB_not {t : T} {c : Cp} (h : ¬ COk t c) : cpuB t c = false := by
  cases e : cpuB t c with
  | false => rfl
  | true => exact absurd (cpuB_iff.1 e) h
theorem tk {α : Type} {l : List α} {i : Nat} (h : i < l.length) : takeO l (i : Int) = some (l.take i) := takeO_nat (by omega)
theorem each_eq {l : List Nt} (hl : l.length ≤ 1048576) (hf : 1048576 < fl) : ∃ b, i_each fl l = some b ∧ (b = true ↔ l.length ≤ 4 ∧ ∀ i, i < l.length → keyOk (l.getD i nt0).k = true ∧ dupB l i = false) := by
  unfold i_each
  rcases loop_first0 (L := i_each_L0 fl l) (n := l.length) (fun i => !keyOk (l.getD i nt0).k || dupB l i) (fun _ => false) hl hf (fun fuel i h => by
      rw [i_each_L0.eq_2, lt_dec h, cot, idx_nat h, tk h, ck_succ (by omega)]
      have e : l.getD i nt0 = l[i] := by simp [h]
      unfold dupB
      rw [e]
      simp only [obs, iKey_eq, iNote_eq (l := l.take i) (by simp; omega) hf]
      cases keyOk l[i].k <;> simp only [Bool.not_true, Bool.not_false, cot, cof, obs, Bool.true_or, Bool.false_or])
      (fun fuel => by rw [i_each_L0.eq_2, nlt_dec, cof]) with ⟨m, a1, a2, _, e⟩ | ⟨a1, e⟩
  · rw [e]; simp only [obs]
    refine ⟨false, rfl, by simp, fun h => ?_⟩
    obtain ⟨b1, b2⟩ := h.2 m a1
    rw [b1, b2] at a2; cases a2
  · rw [e]; simp only [obs]
    refine ⟨_, rfl, fun h => ⟨by have := of_decide_eq_true h; omega, fun i hi => ?_⟩, fun h => decide_eq_true (by omega)⟩
    have := a1 i hi
    simpa using this

def bad1 (t : T) (c : Cp) (i : Nat) : Bool :=
  cond (decide (0 ≤ noteF c.w (c.n.getD i nt0).k)) (c.w.getD (noteF c.w (c.n.getD i nt0).k).toNat nt0 != c.n.getD i nt0 || decide (0 ≤ findF t.f (c.n.getD i nt0).k)) (decide (findF t.f (c.n.getD i nt0).k < 0) || findF t.f (c.n.getD i nt0).k != (c.n.getD i nt0).fr)
def bad2 (t : T) (c : Cp) (i : Nat) : Bool :=
  (decide (noteF c.n (c.w.getD i nt0).k < 0) || !within (c.w.getD i nt0).fr t.f.length) || (t.f.getD (c.w.getD i nt0).fr.toNat freeF).u
theorem bad1_eq {t : T} {c : Cp} {i : Nat} : badN t c i = ((!keyOk (c.n.getD i nt0).k || dupB c.n i) || bad1 t c i) := by
  unfold badN bad1
  congr 1
  by_cases h : 0 ≤ noteF c.w (c.n.getD i nt0).k
  · rw [decide_eq_true h, decide_eq_false (by omega : ¬ noteF c.w (c.n.getD i nt0).k < 0), cot, Bool.false_and, Bool.false_or, Bool.true_and, Bool.or_comm]
  · rw [decide_eq_false h, decide_eq_true (by omega : noteF c.w (c.n.getD i nt0).k < 0), cof, Bool.false_and, Bool.or_false, Bool.true_and]
theorem bad2_eq {t : T} {c : Cp} {i : Nat} : badW t c i = (dupB c.w i || bad2 t c i) := by
  unfold badW bad2 within
  have e1 : decide ((c.w.getD i nt0).fr < 0) = !decide (0 ≤ (c.w.getD i nt0).fr) := by rw [← decide_not]; congr 1; apply propext; omega
  have e2 : decide ((t.f.length : Int) ≤ (c.w.getD i nt0).fr) = !decide ((c.w.getD i nt0).fr < (t.f.length : Int)) := by rw [← decide_not]; congr 1; apply propext; omega
  rw [e1, e2]
  cases decide (noteF c.n (c.w.getD i nt0).k < 0) <;> cases dupB c.w i <;> cases decide (0 ≤ (c.w.getD i nt0).fr) <;> cases decide ((c.w.getD i nt0).fr < (t.f.length : Int)) <;> rfl
theorem iL1_eq {s : Sy} {c : Cp} (ht : s.t.f.length ≤ 1048576) (hn : c.n.length ≤ 1048576) (hw : c.w.length ≤ 1048576) (hf : 1048576 < fl) :
    (∃ m, m < c.n.length ∧ bad1 s.t c m = true ∧ (∀ j, j < m → bad1 s.t c j = false) ∧ i_SystemValid_L1 fl s c fl 0 = some (.ret false)) ∨ ((∀ j, j < c.n.length → bad1 s.t c j = false) ∧ i_SystemValid_L1 fl s c fl 0 = some (.out (c.n.length : Int))) :=
  loop_first0 (L := i_SystemValid_L1 fl s c) (n := c.n.length) (bad1 s.t c) (fun _ => false) hn hf (fun fuel i h => by
      rw [i_SystemValid_L1.eq_2, lt_dec h, cot, idx_nat h, ck_succ (by omega)]
      have e : c.n.getD i nt0 = c.n[i] := by simp [h]
      unfold bad1
      rw [e]
      simp only [obs, find_eq ht hf, iNote_eq hw hf]
      by_cases hq : 0 ≤ noteF c.w c.n[i].k
      · obtain ⟨m, hm, e1, hk1, e2⟩ := noteF_get hq
        rw [decide_eq_true hq, e2, e1, idx_nat hm]
        simp only [cot, obs]
        cases (c.w[m] != c.n[i]) <;> simp only [cot, cof, obs, Bool.true_or, Bool.false_or]
      · rw [decide_eq_false hq]
        simp only [cof]
        cases decide (findF s.t.f c.n[i].k < 0) <;> simp only [cot, cof, obs, Bool.true_or, Bool.false_or])
      (fun fuel => by rw [i_SystemValid_L1.eq_2, nlt_dec, cof])
theorem iL2_eq {s : Sy} {c : Cp} (ht : s.t.f.length ≤ 1048576) (hn : c.n.length ≤ 1048576) (hw : c.w.length ≤ 1048576) (hf : 1048576 < fl) :
    (∃ m, m < c.w.length ∧ bad2 s.t c m = true ∧ (∀ j, j < m → bad2 s.t c j = false) ∧ i_SystemValid_L2 fl s c fl 0 = some (.ret false)) ∨ ((∀ j, j < c.w.length → bad2 s.t c j = false) ∧ i_SystemValid_L2 fl s c fl 0 = some (.out (c.w.length : Int))) :=
  loop_first0 (L := i_SystemValid_L2 fl s c) (n := c.w.length) (bad2 s.t c) (fun _ => false) hw hf (fun fuel i h => by
      rw [i_SystemValid_L2.eq_2, lt_dec h, cot, idx_nat h, ck_succ (by omega)]
      have e : c.w.getD i nt0 = c.w[i] := by simp [h]
      unfold bad2
      rw [e]
      simp only [obs, iNote_eq hn hf, within_eq]
      cases decide (noteF c.n c.w[i].k < 0) with
      | true => simp only [cot, obs, Bool.true_or]
      | false =>
        cases hq : within c.w[i].fr s.t.f.length with
        | false => simp only [cot, cof, obs, Bool.not_false, Bool.true_or, Bool.false_or]
        | true =>
          have := within_iff.1 hq
          obtain ⟨f, hf1⟩ : ∃ f : Nat, c.w[i].fr = f := ⟨c.w[i].fr.toNat, by omega⟩
          have hf2 : f < s.t.f.length := by omega
          rw [hf1, idx_nat hf2]
          simp only [cot, cof, obs, Bool.not_true, Bool.false_or, Int.toNat_natCast, List.getD_eq_getElem?_getD, List.getElem?_eq_getElem hf2, Option.getD_some])
      (fun fuel => by rw [i_SystemValid_L2.eq_2, nlt_dec, cof])
/-- small enough that nothing overflows -/
def small (s : Sy) : Prop := s.t.b.length + s.t.f.length ≤ 1048576 ∧ s.c.length ≤ 1048576 ∧ ∀ c ∈ s.c, c.n.length + c.w.length ≤ 1048576
theorem sysOk_of {s : Sy} : sysOk s = (tableOk s.t && (decide (1 ≤ s.c.length) && decide (s.c.length ≤ 4)) && (List.range s.c.length).all fun i => cpuB s.t (s.c.getD i cp0)) := by
  rw [Bool.eq_iff_iff, sysOk_iff]
  simp only [Bool.and_eq_true, decide_eq_true_eq, List.all_eq_true, List.mem_range, cpuB_iff, tableOk_iff]
  constructor
  · intro h
    exact ⟨⟨h.t, h.c1, h.c2⟩, fun i hi => h.c _ (by simp [hi])⟩
  · rintro ⟨⟨h1, h2, h3⟩, h4⟩
    refine ⟨h1, h2, h3, fun c hc => ?_⟩
    obtain ⟨i, hi, rfl⟩ := List.getElem_of_mem hc
    have := h4 i hi
    simpa [hi] using this
theorem valid_fin {s : Sy} (h1 : tableOk s.t = true) (h2 : 1 ≤ s.c.length) (h3 : s.c.length ≤ 4) : sysOk s = (List.range s.c.length).all fun i => cpuB s.t (s.c.getD i cp0) := by
  rw [sysOk_of, h1, decide_eq_true h2, decide_eq_true h3]; simp only [Bool.true_and]
theorem all_no {n m : Nat} {p : Nat → Bool} (h : m < n) (hp : p m = false) : (List.range n).all p = false := by
  rw [List.all_eq_false]; exact ⟨m, List.mem_range.2 h, by simp [hp]⟩
theorem all_yes {n : Nat} {p : Nat → Bool} (h : ∀ j, j < n → p j = true) : (List.range n).all p = true := by
  rw [List.all_eq_true]; exact fun x hx => h x (List.mem_range.1 hx)
theorem lt1 (n : Nat) : decide ((n : Int) < 1) = !decide (1 ≤ n) := by rw [← decide_not]; congr 1; apply propext; omega
theorem gt4 (n : Nat) : decide (4 < (n : Int)) = !decide (n ≤ 4) := by rw [← decide_not]; congr 1; apply propext; omega
theorem iCpu_bad {t : T} {c : Cp} {b1 b2 : Bool} (e1 : b1 = true ↔ c.n.length ≤ 4 ∧ ∀ i, i < c.n.length → keyOk (c.n.getD i nt0).k = true ∧ dupB c.n i = false) (e2 : b2 = true ↔ c.w.length ≤ 4 ∧ ∀ i, i < c.w.length → keyOk (c.w.getD i nt0).k = true ∧ dupB c.w i = false) :
    COk t c ↔ b1 = true ∧ b2 = true ∧ (∀ i, i < c.n.length → bad1 t c i = false) ∧ ∀ i, i < c.w.length → bad2 t c i = false := by
  constructor
  · intro h
    obtain ⟨⟨a, b⟩, h3, h4⟩ := COk_iff.1 h
    refine ⟨e1.2 ⟨a, fun i hi => ?_⟩, e2.2 ⟨b, fun i hi => ?_⟩, fun i hi => ?_, fun i hi => ?_⟩
    · have := h3 i hi; rw [bad1_eq] at this; simp only [Bool.or_eq_false_iff, Bool.not_eq_false'] at this; exact this.1
    · have := h4 i hi; rw [bad2_eq] at this; simp only [Bool.or_eq_false_iff] at this
      refine ⟨?_, this.1⟩
      have hm : c.w[i] ∈ c.w := List.getElem_mem hi
      have := h.nk _ (h.wsub _ hm)
      simpa [hi] using this
    · have := h3 i hi; rw [bad1_eq] at this; simp only [Bool.or_eq_false_iff] at this; exact this.2
    · have := h4 i hi; rw [bad2_eq] at this; simp only [Bool.or_eq_false_iff] at this; exact this.2
  · rintro ⟨h1, h2, h3, h4⟩
    obtain ⟨a, a'⟩ := e1.1 h1
    obtain ⟨b, b'⟩ := e2.1 h2
    exact COk_iff.2 ⟨⟨a, b⟩, fun i hi => by rw [bad1_eq, (a' i hi).1, (a' i hi).2, h3 i hi]; rfl, fun i hi => by rw [bad2_eq, (b' i hi).2, h4 i hi]; rfl⟩
theorem iValid_eq {s : Sy} (hs : small s) (hf : 1048576 < fl) : i_SystemValid fl s = some (sysOk s) := by
  unfold i_SystemValid i_TableValid
  rw [lt1, gt4]
  cases h1 : tableOk s.t with
  | false => rw [sysOk_of, h1]; simp [obs]
  | true =>
    simp only [obs, Bool.not_true, cof]
    by_cases h2 : 1 ≤ s.c.length
    case neg => rw [sysOk_of, decide_eq_false h2]; simp [obs]
    by_cases h3 : s.c.length ≤ 4
    case neg => rw [sysOk_of, decide_eq_true h2, decide_eq_false h3]; simp [obs]
    rw [valid_fin h1 h2 h3, decide_eq_true h2, decide_eq_true h3]
    simp only [Bool.not_true, cof, obs]
    rcases loop_first0 (L := i_SystemValid_L0 fl s) (n := s.c.length) (fun i => !cpuB s.t (s.c.getD i cp0)) (fun _ => false) hs.2.1 hf (fun fuel i h => by
        rw [i_SystemValid_L0.eq_2, lt_dec h, cot, idx_nat h, ck_succ (by omega)]
        have e : s.c.getD i cp0 = s.c[i] := by simp [h]
        have hc := hs.2.2 s.c[i] (List.getElem_mem h)
        have ht : s.t.f.length ≤ 1048576 := by have := hs.1; omega
        rw [e]
        obtain ⟨b1, q1, e1⟩ := each_eq (fl := fl) (l := s.c[i].n) (by omega) hf
        obtain ⟨b2, q2, e2⟩ := each_eq (fl := fl) (l := s.c[i].w) (by omega) hf
        have key := iCpu_bad (t := s.t) e1 e2
        simp only [obs, q1, q2]
        cases b1 with
        | false => rw [cpuB_not (fun h => by cases (key.1 h).1)]; simp only [Bool.not_false, cot, obs]
        | true =>
          cases b2 with
          | false => rw [cpuB_not (fun h => by cases (key.1 h).2.1)]; simp only [Bool.not_false, Bool.not_true, cof, cot, obs]
          | true =>
            simp only [Bool.not_true, cof, obs]
            rcases iL1_eq (fl := fl) (s := s) (c := s.c[i]) ht (by omega) (by omega) hf with ⟨m, a1, a2, _, e⟩ | ⟨a1, e⟩
            · rw [e, cpuB_not (fun h => by have := (key.1 h).2.2.1 m a1; rw [a2] at this; cases this)]; simp only [Bool.not_false, cot, obs]
            rw [e]; simp only [obs]
            rcases iL2_eq (fl := fl) (s := s) (c := s.c[i]) ht (by omega) (by omega) hf with ⟨m, a3, a4, _, e⟩ | ⟨a3, e⟩
            · rw [e, cpuB_not (fun h => by have := (key.1 h).2.2.2 m a3; rw [a4] at this; cases this)]; simp only [Bool.not_false, cot, obs]
            rw [e, cpuB_iff.2 (key.2 ⟨rfl, rfl, a1, a3⟩)]; simp only [Bool.not_true, cof, obs])
        (fun fuel => by rw [i_SystemValid_L0.eq_2, nlt_dec, cof]) with ⟨m, a1, a2, _, e⟩ | ⟨a1, e⟩
    · rw [e]; simp only [obs]; rw [all_no a1 (by simpa using a2)]
    · rw [e]; simp only [obs]; rw [all_yes (fun j hj => by simpa using a1 j hj)]

def tot : List Cp → Nat
  | [] => 0
  | c :: l => c.n.length + c.w.length + tot l
theorem tot_mem {l : List Cp} {c : Cp} (h : c ∈ l) : c.n.length + c.w.length ≤ tot l := by
  induction l with
  | nil => cases h
  | cons d l ih =>
    rcases List.mem_cons.1 h with e | e
    · subst e; simp only [tot]; omega
    · have := ih e; simp only [tot]; omega
structure sm (s : Sy) : Prop where
  t : s.t.b.length + s.t.f.length ≤ 1048576
  c : s.c.length + tot s.c ≤ 1048576
theorem sm.small {s : Sy} (h : sm s) : small s := ⟨h.t, by have := h.c; omega, fun c hc => by have := tot_mem hc; have := h.c; omega⟩
/-! ### copies -/
theorem all_of {α : Type} {v a : List α} (hl : v.length = a.length) (h : ∀ j, j < a.length → v[j]? = a[j]?) : v = a := by
  apply List.ext_getElem?
  intro j
  by_cases hj : j < a.length
  · exact h j hj
  · rw [List.getElem?_eq_none (by omega), List.getElem?_eq_none (by omega)]
/-! ### equality -/

theorem take_s {α : Type} : ∀ {l : List α} {i : Nat} (h : i < l.length), l.take (i + 1) = l.take i ++ [l[i]]
  | [], i, h => by simp at h
  | x :: l, 0, h => by simp
  | x :: l, i + 1, h => by
    have := take_s (l := l) (i := i) (by simpa using h)
    simp only [List.take_succ_cons, this, List.getElem_cons_succ, List.cons_append]
/-! ### copies -/
theorem iClone_eq {s : Sy} (h : small s) (hf : 1048576 < fl) : i_System_clone fl s = some s := by
  unfold i_System_clone
  rw [clone_eq h.1, mkO_nat h.2.1]
  simp only [obs]
  obtain ⟨v, ⟨h1, h2⟩, e⟩ := loop_fold0 (L := fun fu v i => i_System_clone_L0 fl s fu v i) (n := s.c.length) (fun i v => v.set i (s.c.getD i cp0)) (fun i v => v.length = s.c.length ∧ ∀ j, j < i → v[j]? = s.c[j]?) (fun v => LO.out (v, (s.c.length : Int))) h.2.1 hf (List.replicate s.c.length (⟨[], []⟩ : Cp)) ⟨by simp, fun j hj => by omega⟩
    (fun fuel i v hi hI => by
      obtain ⟨q1, q2⟩ := hI
      have h' : i < v.length := by omega
      have hc := h.2.2 s.c[i] (List.getElem_mem hi)
      refine ⟨?_, by simpa using q1, fun j hj => ?_⟩
      · show i_System_clone_L0 fl s (fuel + 1) v i = _
        rw [i_System_clone_L0.eq_2, lt_dec hi, cot, idx_nat hi, idx_nat h', ck_succ (by have := h.2.1; omega)]
        simp only [obs, slices_Clone_Note, cnt_in (by omega : s.c[i].n.length ≤ 4294967296), cnt_in (by omega : s.c[i].w.length ≤ 4294967296), Int.toNat_natCast, List.getD_eq_getElem?_getD, List.getElem?_eq_getElem hi, Option.getD_some]
      · rw [List.getElem?_set]
        split
        · rename_i e; subst e; simp [h', hi]
        · exact q2 j (by omega))
    (fun fuel v hv => by show i_System_clone_L0 fl s (fuel + 1) v _ = _; rw [i_System_clone_L0.eq_2, nlt_dec, cof])
  rw [show i_System_clone_L0 fl s fl (List.replicate s.c.length (⟨[], []⟩ : Cp)) 0 = _ from e]
  simp only [obs, all_of h1 h2]
/-! ### a key is dropped -/
theorem dropN_snoc {l : List Nt} {x : Nt} {k : K} : dropN (l ++ [x]) k = dropN l k ++ (if x.k = k then [] else [x]) := by
  unfold dropN
  rw [List.filter_append]
  congr 1
  by_cases h : x.k = k <;> simp [h]
theorem set_take {α : Type} {v : List α} {m : Nat} {x : α} (h : m < v.length) : (v.set m x).take (m + 1) = v.take m ++ [x] := by
  rw [take_s (by simpa using h), List.getElem_set_self, List.take_set_of_le (Nat.le_refl _)]
theorem del_L0 {a : List Nt} {k : K} (hl : a.length ≤ 1048576) : ∀ (fuel i : Nat) (v : List Nt) (m : Nat), i ≤ a.length → a.length - i < fuel → v.length = a.length → m ≤ i → v.take m = dropN (a.take i) k → (∀ j, i ≤ j → v[j]? = a[j]?) →
    ∃ v' m', slices_DeleteFunc_Note_of_i_drop_1_L0 fl a k fuel v (m : Int) (i : Int) = some (.out (v', ((m' : Nat) : Int), (a.length : Int))) ∧ v'.length = a.length ∧ m' ≤ a.length ∧ v'.take m' = dropN a k := by
  intro fuel
  induction fuel with
  | zero => intro i v m _ h; omega
  | succ fuel ih =>
    intro i v m hi hf hv hm ht hr
    rw [slices_DeleteFunc_Note_of_i_drop_1_L0.eq_2]
    by_cases h : i < a.length
    · have h1 : i < v.length := by omega
      have e1 : v[i] = a[i] := by
        have := hr i (Nat.le_refl _)
        rw [List.getElem?_eq_getElem h, List.getElem?_eq_getElem h1] at this
        simpa using this
      rw [lt_dec h, cot, idx_nat h1, e1]
      simp only [obs, i_drop_1]
      by_cases hk : a[i].k = k
      · rw [show (a[i].k == k) = true from by simpa using hk, Bool.not_true, cof, ck_succ (by omega)]
        simp only [obs]
        refine ih (i + 1) v m (by omega) (by omega) hv (by omega) ?_ (fun j hj => hr j (by omega))
        rw [take_s h, dropN_snoc, if_pos hk, List.append_nil]; exact ht
      · have h2 : m < v.length := by omega
        rw [show (a[i].k == k) = false from by simpa using hk, Bool.not_false, cot, idx_nat h2, ck_succ (by omega), ck_succ (by omega)]
        simp only [obs, Int.toNat_natCast]
        refine ih (i + 1) _ (m + 1) (by omega) (by omega) (by simpa using hv) (by omega) ?_ (fun j hj => ?_)
        · rw [take_s h, dropN_snoc, if_neg hk, set_take h2, ht]
        · rw [List.getElem?_set_ne (by omega)]; exact hr j (by omega)
    · have e : i = a.length := by omega
      subst e
      rw [nlt_dec, cof]
      exact ⟨v, m, rfl, hv, hm, by rw [ht, List.take_length]⟩
theorem dropFind_eq {l : List Nt} {k : K} (hl : l.length ≤ 1048576) (hf : 1048576 < fl) : slices_IndexFunc_Note_of_i_drop_1 fl l k = some (noteF l k) := by
  unfold slices_IndexFunc_Note_of_i_drop_1
  rcases loop_first0 (L := slices_IndexFunc_Note_of_i_drop_1_L0 fl l k) (n := l.length) (fun i => (l.getD i nt0).k == k) (fun i => (i : Int)) hl hf (fun fuel i h => by
      rw [slices_IndexFunc_Note_of_i_drop_1_L0.eq_2, lt_dec h, cot, idx_nat h, ck_succ (by omega)]
      simp only [obs, i_drop_1, List.getD_eq_getElem?_getD, List.getElem?_eq_getElem h, Option.getD_some]) (fun fuel => by rw [slices_IndexFunc_Note_of_i_drop_1_L0.eq_2, nlt_dec, cof]) with ⟨m, h1, h2, h3, e⟩ | ⟨h1, e⟩
  · rw [e]; simp only [obs]
    congr 1
    refine (noteF_some h1 (by simpa [h1] using h2) fun j hj => ?_).symm
    have := h3 j hj; simpa [show j < l.length by omega] using this
  · rw [e]; simp only [obs]
    congr 1
    refine (noteF_none fun x hx => ?_).symm
    obtain ⟨j, hj, rfl⟩ := List.getElem_of_mem hx
    have := h1 j hj; simpa [hj] using this
theorem dropN_first {l : List Nt} {k : K} {i : Nat} (hi : i < l.length) (h1 : l[i].k = k) (h2 : ∀ j, (hj : j < i) → (l[j]'(by omega)).k ≠ k) : dropN (l.take (i + 1)) k = l.take i := by
  rw [take_s hi, dropN_snoc, if_pos h1, List.append_nil]
  refine dropN_none fun hm => ?_
  obtain ⟨x, hx, e⟩ := List.mem_map.1 hm
  obtain ⟨j, hj, rfl⟩ := List.getElem_of_mem hx
  simp at hj e
  exact h2 j (by omega) e
theorem cpy_take {α : Type} (v : List α) (m : Nat) (r : List α) (h : m ≤ v.length) : (cpy v m r).take m = v.take m := by
  unfold cpy
  rw [List.append_assoc, List.take_append_of_le_length (by simp; omega), List.take_take, Nat.min_self]
theorem iDrop_eq {l : List Nt} {k : K} (hl : l.length ≤ 1048576) (hf : 1048576 < fl) : i_drop fl l k = some (dropN l k) := by
  unfold i_drop slices_Clone_Note slices_DeleteFunc_Note_of_i_drop_1
  rw [cnt_in (by omega)]
  simp only [obs, dropFind_eq hl hf]
  rcases noteF_spec l k with ⟨e, h1⟩ | ⟨i, hi, e, h1, h2⟩
  · rw [e]
    simp only [beq_self_eq_true, cot, obs]
    rw [dropN_none fun hm => by
      obtain ⟨x, hx, e⟩ := List.mem_map.1 hm
      exact h1 x hx e]
  · rw [e, show ((i : Int) == -1) = false from by simp, cof, ck_succ (by omega)]
    simp only [obs]
    obtain ⟨v, m, e1, q1, q2, q3⟩ := del_L0 (fl := fl) (k := k) hl fl (i + 1) l i (by omega) (by omega) rfl (by omega) (dropN_first hi h1 h2).symm (fun j _ => rfl)
    rw [e1]
    simp only [obs]
    rw [dropO_nat (by omega)]
    simp only [obs, Int.toNat_natCast]
    rw [takeO_nat (by rw [cpy_len]; omega), cpy_take _ _ _ (by omega), q3]
    simp only [obs]
/-! ### giving up -/

theorem tot_le {l : List Cp} {t : T} (h : ∀ c ∈ l, COk t c) : tot l ≤ 8 * l.length := by
  induction l with
  | nil => simp [tot]
  | cons c l ih =>
    have := ih fun d hd => h d (by simp [hd])
    have h1 := (h c (by simp)).n4
    have h2 := (h c (by simp)).w4
    simp only [tot, List.length_cons]; omega
theorem SyOk.sm {s : Sy} (h : SyOk s) : Go.Proofs.YtfnliecmagnkdaaDoor.sm s := by
  have h1 := h.t.f2
  have h2 := h.t.b2
  have h3 := h.c2
  have h4 := tot_le h.c
  exact ⟨by omega, by omega⟩
theorem sm0 : sm sy0 := ⟨by decide, by decide⟩
theorem small0 : small sy0 := sm0.small
theorem wthn {a : Int} {n : Nat} (h : within a n = true) : ∃ i : Nat, a = i ∧ i < n := by
  have := within_iff.1 h
  exact ⟨a.toNat, by omega, by omega⟩
theorem cpuOf_eq {s : Sy} {cpu : Int} (hs : small s) (hf : 1048576 < fl) : i_cpuOf fl s cpu = some (sysOk s && within cpu s.c.length) := by
  unfold i_cpuOf
  rw [iValid_eq hs hf]
  simp only [obs, within_eq]
  cases sysOk s <;> simp only [cot, cof, obs, Bool.true_and, Bool.false_and]
/-! ### giving up -/
/-! ### settling -/
/-! ### looking -/
theorem iLook_eq {s : Sy} {cpu : Int} {k : K} (hs : small s) (hf : 1048576 < fl) : i_LookCpu fl s cpu k = some (lookR s cpu k) := by
  unfold i_LookCpu lookR
  rw [cpuOf_eq hs hf]
  simp only [obs, iKey_eq]
  cases h : (sysOk s && within cpu s.c.length) with
  | false => simp [obs, sy0]
  | true =>
    cases hk : keyOk k with
    | false => simp [obs, sy0]
    | true =>
      simp only [Bool.and_eq_true] at h
      obtain ⟨i, rfl, hi⟩ := wthn h.2
      have hc := hs.2.2 s.c[i] (List.getElem_mem hi)
      have hv := (sysOk_iff.1 h.1).c _ (List.getElem_mem hi)
      have eg : s.c.getD i cp0 = s.c[i] := by simp [hi]
      have ht := hs.1
      simp only [Bool.not_true, cof, obs, Bool.and_self, if_true, Int.toNat_natCast, eg]
      rw [iClone_eq hs hf]
      simp only [obs]
      rw [idx_nat hi]
      simp only [obs, iNote_eq (by omega : s.c[i].n.length ≤ 1048576) hf]
      by_cases hn : 0 ≤ noteF s.c[i].n k
      · obtain ⟨m, hm, e1, _, e2⟩ := noteF_get hn
        rw [decide_eq_true hn, cot, if_pos hn, e2, e1, idx_nat hm]; simp only [obs]
      · rw [decide_eq_false hn, cof, if_neg hn, find_eq (by omega) hf]
        simp only [obs]
        by_cases hg : findF s.t.f k < 0
        · rw [decide_eq_true hg, cot, if_pos hg]
        · rw [decide_eq_false hg, cof, if_neg hg]
          have h4 := hv.n4
          have hw4 := hv.w4
          unfold addC
          by_cases hl : s.c[i].n.length = 4
          · rw [show (((s.c[i].n).length : Int) == 4) = true from by rw [hl]; rfl, cot, if_pos hl]
            have h0 : 0 < s.c[i].n.length := by omega
            rw [show (0 : Int) = ((0 : Nat) : Int) from rfl, idx_nat h0]
            have eg0 : s.c[i].n.getD 0 nt0 = s.c[i].n[0] := by simp [h0]
            simp only [obs, eg0]
            rw [iDrop_eq (by omega) hf]
            simp only [obs]
            rw [iDrop_eq (by omega) hf]
            simp only [obs]
            rw [cnt_in (by have := dropN_le (l := s.c[i].n) (k := s.c[i].n[0].k); simp; omega)]
            simp only [obs, Int.toNat_natCast]
          · rw [show (((s.c[i].n).length : Int) == 4) = false from by simp; omega, cof, if_neg hl]
            rw [cnt_in (by simp; omega)]
            simp only [obs, Int.toNat_natCast]



theorem equalN_self {l : List Nt} (hl : l.length ≤ 1048576) (hf : 1048576 < fl) : slices_Equal_Note fl l l = some true := by
  unfold slices_Equal_Note
  rcases loop_first0 (L := slices_Equal_Note_L0 fl l l) (n := l.length) (fun _ => false) (fun _ => false) hl hf (fun fuel i h => by
      rw [slices_Equal_Note_L0.eq_2, lt_dec h, cot, idx_nat h, ck_succ (by omega)]
      simp only [obs, bne_self_eq_false, cof]) (fun fuel => by rw [slices_Equal_Note_L0.eq_2, nlt_dec, cof]) with ⟨_, _, h, _⟩ | ⟨_, e⟩
  · cases h
  · rw [e]; simp only [bne_self_eq_false, cof, obs]
theorem same1_self {c : Cp} (hn : c.n.length ≤ 1048576) (hw : c.w.length ≤ 1048576) (hf : 1048576 < fl) : i_SystemSame_1 fl c c = some true := by
  unfold i_SystemSame_1
  rw [equalN_self hn hf]
  simp only [obs, cot, equalN_self hw hf]
theorem sysSame_self {s : Sy} (hs : small s) (hf : 1048576 < fl) : i_SystemSame fl s s = some true := by
  unfold i_SystemSame slices_EqualFunc_Cpu_of_i_SystemSame_1
  rw [same_self hs.1 hf]
  simp only [obs, cot]
  rcases loop_first0 (L := slices_EqualFunc_Cpu_of_i_SystemSame_1_L0 fl s.c s.c) (n := s.c.length) (fun _ => false) (fun _ => false) hs.2.1 hf (fun fuel i h => by
      have hc := hs.2.2 s.c[i] (List.getElem_mem h)
      rw [slices_EqualFunc_Cpu_of_i_SystemSame_1_L0.eq_2, lt_dec h, cot, idx_nat h, ck_succ (by have := hs.2.1; omega)]
      simp only [obs, same1_self (by omega : s.c[i].n.length ≤ 1048576) (by omega) hf, Bool.not_true, cof]) (fun fuel => by rw [slices_EqualFunc_Cpu_of_i_SystemSame_1_L0.eq_2, nlt_dec, cof]) with ⟨_, _, h, _⟩ | ⟨_, e⟩
  · cases h
  · rw [e]; simp only [bne_self_eq_false, cof, obs]
/-! ### unmapping -/
/-! ### new systems -/
def newS (n m c : Int) : Sy × Bool := if (newTR n m).2 = true ∧ 1 ≤ c ∧ c ≤ 4 then (⟨(newTR n m).1, List.replicate c.toNat cp0⟩, true) else (sy0, false)

theorem sNewTR_eq {n m : Int} (hf : 1048576 < fl) : s_NewTable fl n m = some (newTR n m) := by
  by_cases h : (decide (1 ≤ n) && decide (n ≤ 16) && decide (1 ≤ m) && decide (m ≤ 16)) = true
  · unfold newTR
    rw [if_pos h]
    simp only [Bool.and_eq_true, decide_eq_true_eq] at h
    obtain ⟨a, rfl⟩ : ∃ a : Nat, n = a := ⟨n.toNat, by omega⟩
    obtain ⟨b, rfl⟩ : ∃ b : Nat, m = b := ⟨m.toNat, by omega⟩
    rw [sNewTable_eq (by omega) (by omega) (by omega) (by omega) hf]; rfl
  · unfold newTR
    rw [if_neg h]
    unfold s_NewTable s_l2Buckets
    simp only [Bool.and_eq_true, decide_eq_true_eq] at h
    by_cases h1 : n < 1
    · rw [decide_eq_true h1]; simp [obs]
    by_cases h2 : 16 < n
    · rw [decide_eq_false h1, decide_eq_true h2]; simp [obs]
    rw [decide_eq_false h1, decide_eq_false h2]
    by_cases h3 : 1 ≤ m
    · rw [decide_eq_true h3, decide_eq_false (by omega : ¬ m ≤ 16)]; simp [obs]
    · rw [decide_eq_false h3]; simp [obs]
theorem newT_chain {n m i : Nat} : chain (newT n m) i = some [] := by
  unfold chain newT
  have : (List.replicate m (-1 : Int)).getD i (-1) = -1 := by
    rw [List.getD_eq_getElem?_getD, List.getElem?_replicate]; split <;> rfl
  simp only [this]
  exact walk_end _ _ _ _
theorem newT_keys (n : Nat) : usedKeys (List.replicate n freeF) = [] := by
  unfold usedKeys
  rw [List.filter_eq_nil_iff.2 (fun f hf => by obtain ⟨_, rfl⟩ := List.mem_replicate.1 hf; simp [freeF])]; rfl
theorem newT_ok {n m : Nat} (h1 : 1 ≤ n) (h2 : n ≤ 16) (h3 : 1 ≤ m) (h4 : m ≤ 16) : TOk (newT n m) := by
  refine ⟨by simpa [newT] using h1, by simpa [newT] using h2, by simpa [newT] using h3, by simpa [newT] using h4, fun f hf => ?_, ?_, fun i _ => by rw [newT_chain]; rfl, ?_⟩
  · simp only [newT] at hf
    obtain ⟨_, rfl⟩ := List.mem_replicate.1 hf
    simp [frameOk, freeF]
  · simp only [newT, newT_keys]; exact List.nodup_nil
  · simp only [chainsLen, newT_chain]
    rw [show (newT n m).f = List.replicate n freeF from rfl, newT_keys]
    have hz : ∀ l : List Nat, (l.map fun _ => ((some ([] : List Nat)).getD []).length).sum = 0 := by
      intro l
      induction l with
      | nil => rfl
      | cons a l ih => simpa using ih
    exact hz _
theorem newT_find {n : Nat} {k : K} : findF (List.replicate n freeF) k = -1 := findF_none fun j hj => by simp [hasKey, freeF]

theorem newTR_ok {n m : Int} (h : (newTR n m).2 = true) : TOk (newTR n m).1 ∧ ∀ k, findF (newTR n m).1.f k = -1 := by
  unfold newTR at h ⊢
  split at h
  · rename_i hc
    rw [if_pos hc]
    simp only [Bool.and_eq_true, decide_eq_true_eq] at hc
    exact ⟨newT_ok (by omega) (by omega) (by omega) (by omega), fun k => newT_find⟩
  · cases h
theorem newS_common {n m c : Int} : (Option.bind (cond (!(newTR n m).2) (some true) (some (decide (c < 1)))) fun y12 =>
    Option.bind (cond y12 (some true) (some (decide (4 < c)))) fun y13 =>
    cond y13 (some ((⟨(⟨[], []⟩ : T), []⟩ : Sy), false)) (Option.bind (mkO c) fun x15 => some ((⟨(newTR n m).1, (List.replicate x15 (⟨[], []⟩ : Cp))⟩ : Sy), true))) = some (newS n m c) := by
  unfold newS
  cases h : (newTR n m).2 with
  | false => simp [obs, sy0]
  | true =>
    simp only [Bool.not_true, cof, obs]
    by_cases h1 : c < 1
    · rw [decide_eq_true h1, if_neg (by omega)]; simp only [cot, obs]; rfl
    rw [decide_eq_false h1]
    by_cases h2 : 4 < c
    · rw [decide_eq_true h2, if_neg (by omega)]; simp only [cof, cot, obs]; rfl
    rw [decide_eq_false h2, if_pos ⟨trivial, by omega, by omega⟩]
    simp only [cof, obs]
    obtain ⟨a, rfl⟩ : ∃ a : Nat, c = a := ⟨c.toNat, by omega⟩
    rw [mkO_nat (by omega)]
    simp only [obs, Int.toNat_natCast]
    rfl
theorem sNewS_eq {n m c : Int} (hf : 1048576 < fl) : s_NewSystem fl n m c = some (newS n m c) := by
  unfold s_NewSystem
  rw [sNewTR_eq hf]
  simp only [obs]
  exact newS_common
theorem iNewS_eq {n m c : Int} (hf : 1048576 < fl) : i_NewSystem fl n m c = some (newS n m c) := by
  unfold i_NewSystem
  rw [iNewTable_eq hf]
  simp only [obs]
  exact newS_common
theorem cp0_ok (t : T) : COk t cp0 := ⟨by simp [cp0], by simp [cp0], by simp [cp0], by simp [cp0, kset], by simp [cp0, kset], by simp [cp0], by simp [cp0], by simp [cp0], by simp [cp0]⟩
theorem newS_ok {n m c : Int} (h : (newS n m c).2 = true) : SyOk (newS n m c).1 ∧ (1 ≤ c ∧ c ≤ 4) ∧ newS n m c = (⟨(newTR n m).1, List.replicate c.toNat cp0⟩, true) ∧ ∀ k, findF (newTR n m).1.f k = -1 := by
  unfold newS at h ⊢
  split at h
  · rename_i hc
    obtain ⟨h1, h2, h3⟩ := hc
    rw [if_pos ⟨h1, h2, h3⟩]
    obtain ⟨q1, q2⟩ := newTR_ok h1
    refine ⟨⟨q1, by simp; omega, by simp; omega, fun d hd => ?_⟩, ⟨h2, h3⟩, rfl, q2⟩
    obtain ⟨_, rfl⟩ := List.mem_replicate.1 hd
    exact cp0_ok _
  · cases h
theorem newS_no {n m c : Int} (h : (newS n m c).2 = false) : newS n m c = (sy0, false) := by
  unfold newS at h ⊢; split at h
  · cases h
  · rw [if_neg (by assumption)]
/-! ### drawing -/
def Wd (m : Nat) (s : Sy) : Prop := 1 ≤ s.t.b.length ∧ s.t.b.length + s.t.f.length ≤ 40 + 2 * m ∧ s.c.length ≤ 4 ∧ ∀ c ∈ s.c, c.n.length ≤ 4 + m ∧ c.w.length ≤ 4 + m
theorem Wd.small {m : Nat} {s : Sy} (h : Wd m s) (hm : m ≤ 100) : Go.Proofs.YtfnliecmagnkdaaDoor.small s := ⟨by have := h.2.1; omega, by have := h.2.2.1; omega, fun c hc => by have := h.2.2.2 c hc; omega⟩

/-! ### looking again -/
theorem lookR_at {s : Sy} {i : Nat} {k : K} (hv : SyOk s) (hi : i < s.c.length) (hk : keyOk k = true) : lookR s (i : Int) k =
    if 0 ≤ noteF s.c[i].n k then (s, (s.c[i].n.getD (noteF s.c[i].n k).toNat nt0).fr, 1, true) else if findF s.t.f k < 0 then (s, 0, 3, true) else (⟨s.t, s.c.set i (addC s.c[i] ⟨k, findF s.t.f k⟩)⟩, findF s.t.f k, 2, true) := by
  unfold lookR
  have eg : s.c.getD i cp0 = s.c[i] := by simp [hi]
  rw [if_pos (by simp [sysOk_iff.2 hv, hk, within, hi])]
  simp only [Int.toNat_natCast, eg]


def waits (l : List Cp) : List Int := l.flatMap fun c => c.w.map (·.fr)
theorem iHeld_L1 {c : Cp} (hw : c.w.length ≤ 1048576) (hf : 1048576 < fl) (v : List Int) (hv : v.length ≤ 1048576) : ∃ j, i_HeldFrames_L1 fl c fl 0 v = some (.out (j, v ++ c.w.map (·.fr))) := by
  obtain ⟨u, hu, e⟩ := loop_fold0 (L := fun fu (u : List Int) j => i_HeldFrames_L1 fl c fu j u) (n := c.w.length) (fun j u => u ++ [(c.w.getD j nt0).fr]) (fun j u => u = v ++ (c.w.take j).map (·.fr)) (fun u => LO.out ((c.w.length : Int), u)) hw hf v (by simp)
    (fun fuel j u hj hI => by
      have eg : c.w.getD j nt0 = c.w[j] := by simp [hj]
      have hl : u.length ≤ 1048576 + j := by rw [hI]; simp; omega
      refine ⟨?_, by rw [hI, take_s hj, eg, List.map_append, List.append_assoc]; rfl⟩
      show i_HeldFrames_L1 fl c (fuel + 1) j u = _
      rw [i_HeldFrames_L1.eq_2, lt_dec hj, cot, idx_nat hj, ck_succ (by omega), eg]
      simp only [obs]
      rw [cnt_in (by simp; omega)]
      simp only [obs])
    (fun fuel u hu => by show i_HeldFrames_L1 fl c (fuel + 1) _ u = _; rw [i_HeldFrames_L1.eq_2, nlt_dec, cof])
  rw [List.take_length] at hu
  exact ⟨_, by rw [← hu]; exact e⟩
theorem waits_snoc (l : List Cp) (c : Cp) : waits (l ++ [c]) = waits l ++ c.w.map (·.fr) := by simp [waits]
theorem waits_le {l : List Cp} {t : T} (h : ∀ c ∈ l, COk t c) : (waits l).length ≤ 4 * l.length := by
  induction l with
  | nil => simp [waits]
  | cons c l ih =>
    have := ih fun d hd => h d (by simp [hd])
    have h1 := (h c (by simp)).w4
    simp only [waits, List.flatMap_cons, List.length_append, List.length_map, List.length_cons] at this ⊢
    omega
def heldI (s : Sy) : List Int := Lib.compact (srt (waits s.c))
noncomputable def heldR (s : Sy) : List Int := if sysOk s then heldI s else []
theorem iHeld_eq {s : Sy} (hs : small s) (hf : 1048576 < fl) : i_HeldFrames fl s = some (heldR s) := by
  unfold i_HeldFrames heldR
  rw [iValid_eq hs hf]
  simp only [obs]
  cases h : sysOk s with
  | false => simp [obs]
  | true =>
    simp only [Bool.not_true, cof, if_true]
    have hv := sysOk_iff.1 h
    have hc2 := hv.c2
    have hwl := waits_le hv.c
    obtain ⟨u, hu, e⟩ := loop_fold0 (L := fun fu (u : List Int) j => i_HeldFrames_L0 fl s fu j u) (n := s.c.length) (fun j u => u ++ (s.c.getD j cp0).w.map (·.fr)) (fun j u => u = waits (s.c.take j)) (fun u => LO.out ((s.c.length : Int), u)) (by omega) hf [] (by simp [waits])
      (fun fuel j u hj hI => by
        have eg : s.c.getD j cp0 = s.c[j] := by simp [hj]
        have hle : u.length ≤ 16 := by
          have := waits_le (l := s.c.take j) (t := s.t) fun c hc => hv.c c (List.mem_of_mem_take hc)
          rw [hI]
          have h2 : (s.c.take j).length ≤ 4 := by simp; omega
          omega
        have hw4 := (hv.c _ (List.getElem_mem hj)).w4
        refine ⟨?_, by rw [hI, take_s hj, eg, waits_snoc]⟩
        show i_HeldFrames_L0 fl s (fuel + 1) j u = _
        rw [i_HeldFrames_L0.eq_2, lt_dec hj, cot, idx_nat hj, ck_succ (by omega), eg]
        simp only [obs]
        obtain ⟨q, e2⟩ := iHeld_L1 (fl := fl) (c := s.c[j]) (by omega) hf u (by omega)
        rw [e2]
        simp only [obs])
      (fun fuel u hu => by show i_HeldFrames_L0 fl s (fuel + 1) _ u = _; rw [i_HeldFrames_L0.eq_2, nlt_dec, cof])
    rw [show i_HeldFrames_L0 fl s fl 0 [] = _ from e]
    simp only [obs]
    rw [List.take_length] at hu
    unfold slices_Sort_Int slices_Compact_Int
    rw [if_pos (by rw [hu]; omega)]
    simp only [obs]
    rw [if_pos (by rw [srt_len, hu]; omega), hu]
    simp only [obs]
    rfl
theorem compact_nil : Lib.compact ([] : List Int) = [] := List.eq_nil_of_length_eq_zero (Nat.le_zero.1 (compact_le []))
theorem srt_nil : srt [] = [] := List.eq_nil_of_length_eq_zero (srt_len [])
theorem heldI_nil {s : Sy} (h : waits s.c = []) : heldI s = [] := by unfold heldI; rw [h, srt_nil, compact_nil]
theorem waits_nil {l : List Cp} (h : ∀ c ∈ l, c.w = []) : waits l = [] := by
  unfold waits
  rw [List.flatMap_eq_nil_iff]
  intro c hc
  rw [h c hc]; rfl
theorem heldR_nil {s : Sy} (h : ∀ c ∈ s.c, c.w = []) : heldR s = [] := by
  unfold heldR; split
  · exact heldI_nil (waits_nil h)
  · rfl
theorem drawNew_eq (l : List UInt8) : ∃ a b c, s_DrawNewSystem fl l = some (a, b, c) ∧ 0 ≤ c ∧ c ≤ 5 := by
  unfold s_DrawNewSystem
  have hl : (l.take 2000).length ≤ 2000 := by simp; omega
  obtain ⟨x, _, e1⟩ := num_eq (fl := fl) (p := 0) (L := [4, 16, 1, 0]) (by omega) (by omega) hl (by simp)
  rw [e1]
  simp only [obs]
  obtain ⟨y, _, e2⟩ := num_eq (fl := fl) (p := 0 + 1) (L := [4, 1, 16, 17]) (by omega) (by omega) hl (by simp)
  rw [e2]
  simp only [obs]
  obtain ⟨z, hz, e3⟩ := num_eq (fl := fl) (p := 0 + 1 + 1) (L := [2, 4, 1, 0, 5]) (by omega) (by omega) hl (by simp)
  rw [e3]
  simp only [obs]
  exact ⟨_, _, _, rfl, by simp at hz; omega, by simp at hz; omega⟩
theorem newS_small {n m c : Int} : small (newS n m c).1 := by
  cases h : (newS n m c).2 with
  | true => exact (newS_ok h).1.sm.small
  | false => rw [newS_no h]; exact small0
theorem newSystem_true (l : List UInt8) : l_FnNewSystem 1048577 l = some true := by
  have hf : 1048576 < 1048577 := by decide
  generalize hfl : 1048577 = fl at hf
  unfold l_FnNewSystem
  cases hl : decide (1048576 < (l.length : Int)) with
  | true => rw [cot]
  | false =>
    rw [cof]
    obtain ⟨a, b, c, e, h0, h5⟩ := drawNew_eq (fl := fl) l
    rw [e]
    simp only [obs]
    rw [iNewS_eq hf]
    simp only [obs]
    rw [sNewS_eq hf]
    simp only [obs]
    rw [sysSame_self newS_small hf]
    simp only [obs, Bool.not_true, bne_self_eq_false, beq_self_eq_true, cot, cof]
    cases h : (newS a b c).2 with
    | false => simp only [Bool.not_false, cot, beq_self_eq_true, obs]
    | true =>
      simp only [Bool.not_true, cof]
      obtain ⟨hv, ⟨h1, h4⟩, e2, hfind⟩ := newS_ok h
      rw [ck_in (by omega)]
      simp only [obs]
      have hsm := hv.sm.small
      rw [iLook_eq hsm hf]
      simp only [obs]
      rw [iValid_eq hsm hf, sysOk_iff.2 hv]
      simp only [obs, cot]
      rw [iHeld_eq hsm hf]
      obtain ⟨i, hi⟩ : ∃ i : Nat, c - 1 = i := ⟨(c - 1).toNat, by omega⟩
      have hi2 : i < (newS a b c).1.c.length := by rw [e2]; simp; omega
      have hk : keyOk ⟨0, 0⟩ = true := by decide
      have hlook : lookR (newS a b c).1 (i : Int) ⟨0, 0⟩ = ((newS a b c).1, 0, 3, true) := by
        rw [lookR_at hv hi2 hk]
        have hcp : (newS a b c).1.c[i] = cp0 := by simp [e2]
        rw [hcp, show noteF cp0.n ⟨0, 0⟩ = -1 from rfl, if_neg (by omega)]
        rw [show findF (newS a b c).1.t.f ⟨0, 0⟩ = -1 from by rw [e2]; exact hfind _, if_pos (by omega)]
      rw [hi, hlook]
      rw [show (((newS a b c).1.c.length : Int) == c) = true from by rw [e2, beq_iff_eq]; simp; omega]
      rw [heldR_nil (s := (newS a b c).1) fun d hd => by
        rw [e2] at hd
        obtain ⟨_, rfl⟩ := List.mem_replicate.1 hd
        rfl]
      simp only [cot, obs, beq_self_eq_true, List.length_nil]
      rfl
end Go.Proofs.YtfnliecmagnkdaaDoor
