/- Plain laws: slices.Repeat, new tables, caches, tags, machines, both sides. -/
import Derived.Test.YtbgodaeccgjdgaaDoorMk
import Derived.Test.YtbgodaeccgjdgaaDoorLq
import Derived.Test.YtbgodaeccgjdgaaDoorCpy
set_option linter.unusedSimpArgs false
set_option linter.unusedVariables false
namespace Go.Proofs.YtbgodaeccgjdgaaDoor
open Go.RowKit
variable {fl : Nat}
theorem mul64_one : ∀ b : Fin 17, math_bits_Mul fl 1 ((b.val : Nat) : Int) = some (0, ((b.val : Nat) : Int)) := by
  unfold math_bits_Mul math_bits_Mul64
  decide +kernel
theorem dropO_nat {α : Type} {l : List α} {i : Nat} (h : i ≤ l.length) : dropO l (i : Int) = some (l.drop i) := by
  unfold dropO; rw [if_pos (by omega)]; simp
theorem cpy_rep {α : Type} {x z : α} {n b : Nat} (h : n ≤ b) : cpy (List.replicate n x ++ List.replicate (b - n) z) n ((List.replicate n x ++ List.replicate (b - n) z).take n) = List.replicate (min (2 * n) b) x ++ List.replicate (b - min (2 * n) b) z := by
  have e1 : (List.replicate n x ++ List.replicate (b - n) z).take n = List.replicate n x := by
    rw [List.take_append_of_le_length (by simp), List.take_of_length_le (by simp)]
  have e0 : (List.replicate n x ++ List.replicate (b - n) z).length = b := by simp; omega
  unfold cpy
  rw [e1, e0, List.take_replicate, List.length_replicate, List.drop_append, List.drop_of_length_le (by simp), List.nil_append, List.drop_replicate, List.length_replicate, List.replicate_append_replicate]
  congr 2 <;> omega
theorem repI_L0 {x z : Int} {b : Nat} (hb : b ≤ 16) : ∀ fuel n, n ≤ b → 1 ≤ n → b - n < fuel → slices_Repeat_Int_L0 fl b fuel (List.replicate n x ++ List.replicate (b - n) z) (n : Int) = some (.out (List.replicate b x, (b : Int))) := by
  intro fuel
  induction fuel with
  | zero => intro n _ _ h; omega
  | succ fuel ih =>
    intro n hn h1 hf
    have e0 : (List.replicate n x ++ List.replicate (b - n) z).length = b := by simp; omega
    rw [slices_Repeat_Int_L0.eq_2]
    by_cases h : n < b
    · rw [decide_eq_true (by omega : (n : Int) < (b : Int)), cot, dropO_nat (by omega), takeO_nat (by omega)]
      simp only [obs, Int.toNat_natCast, cpy_rep hn, e0, List.length_take]
      have e2 : (n : Int) + ((min (min n b) (b - n) : Nat) : Int) = ((min (2 * n) b : Nat) : Int) := by omega
      rw [e2, ck_in (by omega)]
      simp only [obs]
      exact ih _ (by omega) (by omega) (by omega)
    · have e : n = b := by omega
      subst e
      rw [decide_eq_false (by omega), cof, Nat.sub_self]; simp
theorem repF_L0 {x z : F} {b : Nat} (hb : b ≤ 16) : ∀ fuel n, n ≤ b → 1 ≤ n → b - n < fuel → slices_Repeat_Frame_L0 fl b fuel (List.replicate n x ++ List.replicate (b - n) z) (n : Int) = some (.out (List.replicate b x, (b : Int))) := by
  intro fuel
  induction fuel with
  | zero => intro n _ _ h; omega
  | succ fuel ih =>
    intro n hn h1 hf
    have e0 : (List.replicate n x ++ List.replicate (b - n) z).length = b := by simp; omega
    rw [slices_Repeat_Frame_L0.eq_2]
    by_cases h : n < b
    · rw [decide_eq_true (by omega : (n : Int) < (b : Int)), cot, dropO_nat (by omega), takeO_nat (by omega)]
      simp only [obs, Int.toNat_natCast, cpy_rep hn, e0, List.length_take]
      have e2 : (n : Int) + ((min (min n b) (b - n) : Nat) : Int) = ((min (2 * n) b : Nat) : Int) := by omega
      rw [e2, ck_in (by omega)]
      simp only [obs]
      exact ih _ (by omega) (by omega) (by omega)
    · have e : n = b := by omega
      subst e
      rw [decide_eq_false (by omega), cof, Nat.sub_self]; simp
theorem cpy_one {α : Type} {x z : α} {b : Nat} (h : 1 ≤ b) : cpy (List.replicate b z) 0 [x] = List.replicate 1 x ++ List.replicate (b - 1) z := by
  unfold cpy
  rw [List.length_replicate, List.drop_replicate, List.take_zero, List.nil_append, List.take_of_length_le (by simp; omega)]
  have : 0 + min [x].length (b - 0) = 1 := by simp; omega
  rw [this]; rfl
theorem repI_eq {x : Int} {b : Nat} (h1 : 1 ≤ b) (h2 : b ≤ 16) (hf : 1048576 < fl) : slices_Repeat_Int fl [x] b = some (List.replicate b x) := by
  unfold slices_Repeat_Int
  have hm := mul64_one (fl := fl) ⟨b, by omega⟩
  simp only [] at hm
  rw [decide_eq_false (by omega), cof, ckU_in (by simp), ckU_in (by omega)]
  simp only [obs, List.length_singleton]
  rw [show ((1 : Nat) : Int) = 1 from rfl, hm]
  simp only [obs]
  rw [decide_eq_false (by omega), cof]
  simp only [obs]
  rw [decide_eq_false (by omega), cof, ck_in (by omega)]
  simp only [obs]
  rw [mkO_nat (by omega)]
  simp only [obs, cpy_one h1, List.length_replicate]
  have e : ((min 1 (b - 0) : Nat) : Int) = ((1 : Nat) : Int) := by omega
  rw [e, repI_L0 h2 fl 1 h1 (by omega) (by omega)]
  simp only [obs]
theorem repF_eq {x : F} {b : Nat} (h1 : 1 ≤ b) (h2 : b ≤ 16) (hf : 1048576 < fl) : slices_Repeat_Frame fl [x] b = some (List.replicate b x) := by
  unfold slices_Repeat_Frame
  have hm := mul64_one (fl := fl) ⟨b, by omega⟩
  simp only [] at hm
  rw [decide_eq_false (by omega), cof, ckU_in (by simp), ckU_in (by omega)]
  simp only [obs, List.length_singleton]
  rw [show ((1 : Nat) : Int) = 1 from rfl, hm]
  simp only [obs]
  rw [decide_eq_false (by omega), cof]
  simp only [obs]
  rw [decide_eq_false (by omega), cof, ck_in (by omega)]
  simp only [obs]
  rw [mkO_nat (by omega)]
  simp only [obs, cpy_one h1, List.length_replicate]
  have e : ((min 1 (b - 0) : Nat) : Int) = ((1 : Nat) : Int) := by omega
  rw [e, repF_L0 h2 fl 1 h1 (by omega) (by omega)]
  simp only [obs]

/-! ### a new table -/
def newT (n m : Nat) : T := ⟨List.replicate m (-1), List.replicate n freeF⟩
def newTR (n m : Int) : T × Bool := if (decide (1 ≤ n) && decide (n ≤ 16) && decide (1 ≤ m) && decide (m ≤ 16)) = true then (newT n.toNat m.toNat, true) else (⟨[], []⟩, false)
theorem iNewTable_eq {n m : Int} (hf : 1048576 < fl) : i_NewTable fl n m = some (newTR n m) := by
  unfold i_NewTable newTR i_bucketsValid
  by_cases h1 : n < 1
  · rw [decide_eq_true h1, decide_eq_false (by omega : ¬ 1 ≤ n)]; simp [obs]
  rw [decide_eq_false h1, decide_eq_true (by omega : 1 ≤ n)]
  by_cases h2 : 16 < n
  · rw [decide_eq_true h2, decide_eq_false (by omega : ¬ n ≤ 16)]; simp [obs]
  rw [decide_eq_false h2, decide_eq_true (by omega : n ≤ 16)]
  by_cases h3 : 1 ≤ m
  · by_cases h4 : m ≤ 16
    · rw [decide_eq_true h3, decide_eq_true h4]
      obtain ⟨a, rfl⟩ : ∃ a : Nat, n = a := ⟨n.toNat, by omega⟩
      obtain ⟨b, rfl⟩ : ∃ b : Nat, m = b := ⟨m.toNat, by omega⟩
      simp only [cof, cot, obs, Bool.not_true, Bool.true_and, if_true]
      rw [repI_eq (by omega) (by omega) hf]
      simp only [obs]
      rw [repF_eq (by omega) (by omega) hf]
      simp only [obs]
      rfl
    · rw [decide_eq_true h3, decide_eq_false h4]; simp [obs]
  · rw [decide_eq_false h3]; simp [obs]
theorem sNewTR_eq {n m : Int} (hf : 1048576 < fl) : s_NewTable fl n m = some (newTR n m) := by
  by_cases h : (decide (1 ≤ n) && decide (n ≤ 16) && decide (1 ≤ m) && decide (m ≤ 16)) = true
  · unfold newTR
    rw [if_pos h]
    simp only [Bool.and_eq_true, decide_eq_true_eq] at h
    obtain ⟨a, rfl⟩ : ∃ a : Nat, n = a := ⟨n.toNat, by omega⟩
    obtain ⟨b, rfl⟩ : ∃ b : Nat, m = b := ⟨m.toNat, by omega⟩
    rw [sNewTable_eq (by omega) (by omega) (by omega) (by omega) hf]; rfl
  · unfold newTR
    rw [if_neg h]
    unfold s_NewTable s_l2Buckets
    simp only [Bool.and_eq_true, decide_eq_true_eq] at h
    by_cases h1 : n < 1
    · rw [decide_eq_true h1]; simp [obs]
    by_cases h2 : 16 < n
    · rw [decide_eq_false h1, decide_eq_true h2]; simp [obs]
    rw [decide_eq_false h1, decide_eq_false h2]
    by_cases h3 : 1 ≤ m
    · rw [decide_eq_true h3, decide_eq_false (by omega : ¬ m ≤ 16)]; simp [obs]
    · rw [decide_eq_false h3]; simp [obs]
theorem newT_chain {n m i : Nat} : chain (newT n m) i = some [] := by
  unfold chain newT
  have : (List.replicate m (-1 : Int)).getD i (-1) = -1 := by
    rw [List.getD_eq_getElem?_getD, List.getElem?_replicate]; split <;> rfl
  simp only [this]
  exact walk_end _ _ _ _
theorem newT_keys (n : Nat) : usedKeys (List.replicate n freeF) = [] := by
  unfold usedKeys
  rw [List.filter_eq_nil_iff.2 (fun f hf => by obtain ⟨_, rfl⟩ := List.mem_replicate.1 hf; simp [freeF])]; rfl
theorem newT_ok {n m : Nat} (h1 : 1 ≤ n) (h2 : n ≤ 16) (h3 : 1 ≤ m) (h4 : m ≤ 16) : TOk (newT n m) := by
  refine ⟨by simpa [newT] using h1, by simpa [newT] using h2, by simpa [newT] using h3, by simpa [newT] using h4, fun f hf => ?_, ?_, fun i _ => by rw [newT_chain]; rfl, ?_⟩
  · simp only [newT] at hf
    obtain ⟨_, rfl⟩ := List.mem_replicate.1 hf
    simp [frameOk, freeF]
  · simp only [newT, newT_keys]; exact List.nodup_nil
  · simp only [chainsLen, newT_chain]
    rw [show (newT n m).f = List.replicate n freeF from rfl, newT_keys]
    have hz : ∀ l : List Nat, (l.map fun _ => ((some ([] : List Nat)).getD []).length).sum = 0 := by
      intro l
      induction l with
      | nil => rfl
      | cons a l ih => simpa using ih
    exact hz _
theorem newT_find {n : Nat} {k : K} : findF (List.replicate n freeF) k = -1 := findF_none fun j hj => by simp [hasKey, freeF]

/-! ### new caches, tags and machines -/
def newC (c : Nat) : Ca := ⟨List.replicate c lnZ, 0⟩
theorem newC_ok {c : Nat} (h1 : 1 ≤ c) (h2 : c ≤ 8) : CO (newC c) := by
  have hz : ∀ i, i < c → lnAt (newC c).l i = lnZ := fun i hi => by rw [lnAt_lt (by simpa [newC] using hi)]; simp [newC]
  refine ⟨by simpa [newC] using h1, by simpa [newC] using h2, by simp [newC], by simp only [newC, List.length_replicate]; omega, fun i hi => ?_, fun i hi j hj => ?_, ⟨0, by simp only [newC, List.length_replicate]; omega, by rw [hz 0 (by omega)]; rfl⟩⟩
  · rw [hz i (by simpa [newC] using hi)]; rfl
  · rw [hz i (by simpa [newC] using hi)]; rfl
def newG (g : Int) : Tg := ⟨g, 1, 0, [⟨0, 0⟩]⟩
theorem newG_ok {g : Int} (h1 : 1 ≤ g) (h2 : g ≤ 8) : GO (newG g) := by
  refine ⟨h1, h2, by simp [newG], by simpa [newG] using h1, by simp [newG], by simp [newG], ?_, ?_, ?_, ?_⟩ <;> intro i hi <;> (have : i = 0 := by simp [newG] at hi; omega) <;> subst this
  · simp [newG, prevTag, owAt]
  · simp [newG, owAt]
  · simp [newG, owAt]
  · intro j hj; omega
theorem takeTag_new {g : Int} (h1 : 1 ≤ g) (h2 : g ≤ 8) : takeTagR ⟨g, 0, 0, []⟩ 0 = (newG g, 0, false, true) := by
  have hG : tagsOk ⟨g, 0, 0, []⟩ = true := by
    rw [tagsOk_iff]
    refine ⟨h1, h2, by simp, by simp; omega, by simp, by simp, ?_, ?_, ?_, ?_⟩ <;> intro i hi <;> simp at hi
  unfold takeTagR
  rw [hG, show within 0 16 = true from rfl]
  have hn : ((0 : Int) == g) = false := by simp; omega
  simp only [Bool.true_and, if_true]
  rw [show ownF ⟨g, 0, 0, []⟩ 0 = -1 from rfl]
  simp only [hn]
  rfl
def newM (n m c : Nat) (g : Int) : Mc := ⟨newT n m, newC c, newG g, 0⟩
def newMcR (n m c g : Int) : Mc × Bool :=
  if ((decide (1 ≤ n) && decide (n ≤ 16) && decide (1 ≤ m) && decide (m ≤ 16)) && (decide (1 ≤ c) && decide (c ≤ 8)) && (decide (1 ≤ g) && decide (g ≤ 8))) = true then (newM n.toNat m.toNat c.toNat g, true) else (mc0, false)
def newCR (c : Int) : Ca × Bool := if (decide (1 ≤ c) && decide (c ≤ 8)) = true then (newC c.toNat, true) else (⟨[], 0⟩, false)
theorem iNewCache_eq {c : Int} : i_NewCache fl c = some (newCR c) := by
  unfold i_NewCache newCR
  by_cases h1 : c < 1
  · rw [decide_eq_true h1, decide_eq_false (by omega : ¬ 1 ≤ c)]; simp [obs]
  by_cases h2 : 8 < c
  · rw [decide_eq_true h2, decide_eq_false (by omega : ¬ c ≤ 8)]; cases decide (c < 1) <;> simp [obs]
  rw [decide_eq_false h1, decide_eq_false h2, decide_eq_true (by omega : 1 ≤ c), decide_eq_true (by omega : c ≤ 8)]
  obtain ⟨a, rfl⟩ : ∃ a : Nat, c = a := ⟨c.toNat, by omega⟩
  rw [mkO_nat (by omega)]; rfl
theorem sNewCache_eq {c : Int} : s_NewCache fl c = some (newCR c) := by
  unfold s_NewCache newCR
  by_cases h1 : c < 1
  · rw [decide_eq_true h1, decide_eq_false (by omega : ¬ 1 ≤ c)]; simp [obs]
  by_cases h2 : 8 < c
  · rw [decide_eq_true h2, decide_eq_false (by omega : ¬ c ≤ 8)]; cases decide (c < 1) <;> simp [obs]
  rw [decide_eq_false h1, decide_eq_false h2, decide_eq_true (by omega : 1 ≤ c), decide_eq_true (by omega : c ≤ 8)]
  obtain ⟨a, rfl⟩ : ∃ a : Nat, c = a := ⟨c.toNat, by omega⟩
  rw [mkO_nat (by omega)]; rfl
def newGR (g : Int) : Tg × Bool := if (decide (1 ≤ g) && decide (g ≤ 8)) = true then (⟨g, 0, 0, []⟩, true) else (⟨0, 0, 0, []⟩, false)
theorem iNewTags_eq {g : Int} : i_NewTags fl g = some (newGR g) := by
  unfold i_NewTags newGR
  by_cases h1 : g < 1
  · rw [decide_eq_true h1, decide_eq_false (by omega : ¬ 1 ≤ g)]; simp [obs]
  by_cases h2 : 8 < g
  · rw [decide_eq_true h2, decide_eq_false (by omega : ¬ g ≤ 8)]; cases decide (g < 1) <;> simp [obs]
  rw [decide_eq_false h1, decide_eq_false h2, decide_eq_true (by omega : 1 ≤ g), decide_eq_true (by omega : g ≤ 8)]; rfl
theorem sNewTags_eq {g : Int} : s_NewTags fl g = some (newGR g) := by
  unfold s_NewTags newGR
  by_cases h1 : g < 1
  · rw [decide_eq_true h1, decide_eq_false (by omega : ¬ 1 ≤ g)]; simp [obs]
  by_cases h2 : 8 < g
  · rw [decide_eq_true h2, decide_eq_false (by omega : ¬ g ≤ 8)]; cases decide (g < 1) <;> simp [obs]
  rw [decide_eq_false h1, decide_eq_false h2, decide_eq_true (by omega : 1 ≤ g), decide_eq_true (by omega : g ≤ 8)]; rfl
theorem newJoin {n m c g : Int} {A : Option (Tg × Int × Bool × Bool)} (hA : (decide (1 ≤ g) && decide (g ≤ 8)) = true → A = some (newG g, 0, false, true)) :
    (Option.bind (cond (!(newTR n m).2) (some true) (some (!(newCR c).2))) fun y24 => Option.bind (cond y24 (some true) (some (!(newGR g).2))) fun y25 => cond y25 (some (mc0, false)) (Option.bind A fun x27 => some ((⟨(newTR n m).1, (newCR c).1, x27.1, 0⟩ : Mc), true))) = some (newMcR n m c g) := by
  unfold newTR newCR newGR newMcR
  cases (decide (1 ≤ n) && decide (n ≤ 16) && decide (1 ≤ m) && decide (m ≤ 16)) with
  | false => simp [obs]
  | true =>
    cases (decide (1 ≤ c) && decide (c ≤ 8)) with
    | false => simp [obs]
    | true =>
      cases hg : (decide (1 ≤ g) && decide (g ≤ 8)) with
      | false => simp [obs]
      | true => rw [hA hg]; rfl
theorem newMc_tag {g : Int} : (decide (1 ≤ g) && decide (g ≤ 8)) = true → takeTagR (newGR g).1 0 = (newG g, 0, false, true) := by
  intro h
  unfold newGR
  rw [if_pos h]
  simp only [Bool.and_eq_true, decide_eq_true_eq] at h
  exact takeTag_new h.1 h.2
theorem newGR_len {g : Int} : (newGR g).1.o.length ≤ 1048576 := by unfold newGR; split <;> simp
theorem iNewMc_eq {n m c g : Int} (hf : 1048576 < fl) : i_NewMachine fl n m c g = some (newMcR n m c g) := by
  unfold i_NewMachine
  rw [iNewTable_eq hf, iNewCache_eq, iNewTags_eq]
  simp only [obs]
  rw [iTakeTag newGR_len hf]
  exact newJoin fun h => by rw [newMc_tag h]
theorem sNewMc_eq {n m c g : Int} (hf : 1048576 < fl) : s_NewMachine fl n m c g = some (newMcR n m c g) := by
  unfold s_NewMachine
  rw [sNewTR_eq hf, sNewCache_eq, sNewTags_eq]
  simp only [obs]
  rw [sTakeTag newGR_len hf]
  exact newJoin fun h => by rw [newMc_tag h]
theorem newM_ok {n m c : Nat} {g : Int} (h1 : 1 ≤ n) (h2 : n ≤ 16) (h3 : 1 ≤ m) (h4 : m ≤ 16) (h5 : 1 ≤ c) (h6 : c ≤ 8) (h7 : 1 ≤ g) (h8 : g ≤ 8) : MO (newM n m c g) := by
  refine ⟨newT_ok h1 h2 h3 h4, newC_ok h5 h6, newG_ok h7 h8, by simp [newM, ownF, newG, fx], fun i hi => ?_, fun i hi hv => ?_⟩
  · have hi' : i < n := by simpa [newM, newT] using hi
    simp [newM, newT, hi', frameFits, freeF]
  · have hi' : i < c := by simpa [newM, newC] using hi
    have : lnAt (newM n m c g).c.l i = lnZ := by rw [lnAt_lt hi]; simp [newM, newC]
    rw [this] at hv
    cases hv
end Go.Proofs.YtbgodaeccgjdgaaDoor
