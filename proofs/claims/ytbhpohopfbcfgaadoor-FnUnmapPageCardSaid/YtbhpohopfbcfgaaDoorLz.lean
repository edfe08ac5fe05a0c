/- The pure laws of FnUnmapPage and FnUnmapAll. -/
import Derived.Test.YtbhpohopfbcfgaaDoorLy
import Derived.Test.YtbhpohopfbcfgaaDoorLo
set_option linter.unusedSimpArgs false
set_option linter.unusedVariables false
namespace Go.Proofs.YtbhpohopfbcfgaaDoor
open Go.RowKit
variable {fl : Nat}
theorem CanUn.len {t : T} {i : Nat} (c : CanUn t i) : (unmapT t i).f.length = t.f.length := by rw [c.eqs.1, unF_len]
/-- a key in use lies in a used frame -/
theorem used_at {l : List F} {k : K} (h : k ∈ usedKeys l) : ∃ j, ∃ hj : j < l.length, l[j].u = true ∧ l[j].k = k := by
  unfold usedKeys at h
  obtain ⟨g, hg, rfl⟩ := List.mem_map.1 h
  obtain ⟨h1, h2⟩ := List.mem_filter.1 hg
  obtain ⟨j, hj, rfl⟩ := List.getElem_of_mem h1
  exact ⟨j, hj, h2, rfl⟩
theorem TOk.keyOk {t : T} (h : TOk t) {k : K} (hk : k ∈ usedKeys t.f) : Go.Proofs.YtbhpohopfbcfgaaDoor.keyOk k = true := by
  obtain ⟨j, hj, hu, rfl⟩ := used_at hk
  exact CanUn.key ⟨h, hj, hu⟩
theorem iFind_used {t : T} (h : TOk t) {j : Nat} (hj : j < t.f.length) (hu : t.f[j].u = true) (hf : 1048576 < fl) : ∃ s, i_FindPage fl t t.f[j].k = some ((j : Int), s, true) := by
  obtain ⟨s, h1, _⟩ := iFindPage_eq (fl := fl) h (CanUn.key ⟨h, hj, hu⟩) hf
  have e := find_at h.ks hj hu rfl
  rw [e] at h1
  exact ⟨s, h1 (by omega)⟩
theorem unmapR_yes {t : T} {k : K} (h : (unmapR t k).2 = true) : ∃ i, ∃ c : CanUn t i, (t.f[i]'c.hi).k = k ∧ unmapR t k = (unmapT t i, true) := by
  unfold unmapR at h ⊢
  split at h
  · rename_i hc
    have hc' := hc
    simp only [Bool.and_eq_true, decide_eq_true_eq] at hc
    obtain ⟨i, hi⟩ : ∃ i : Nat, findF t.f k = i := ⟨(findF t.f k).toNat, by omega⟩
    obtain ⟨hb, hu, hk⟩ := found_key hi
    refine ⟨i, ⟨tableOk_iff.1 hc.1.1, hb, hu⟩, hk, ?_⟩
    rw [if_pos hc', hi, Int.toNat_natCast]
  · cases h
theorem CanUn.unmapR {t : T} {i : Nat} (c : CanUn t i) : Go.Proofs.YtbhpohopfbcfgaaDoor.unmapR t (t.f[i]'c.hi).k = (unmapT t i, true) := by
  unfold Go.Proofs.YtbhpohopfbcfgaaDoor.unmapR
  rw [tableOk_of c.ok, c.key, find_at c.ok.ks c.hi c.hu rfl]
  rw [if_pos (by simp), Int.toNat_natCast]
theorem CanUn.other {t : T} {i : Nat} (c : CanUn t i) {j : Nat} (hj : j < t.f.length) (hne : j ≠ i) : ∃ hj' : j < (unmapT t i).f.length, (unmapT t i).f[j].u = t.f[j].u ∧ (unmapT t i).f[j].k = t.f[j].k := by
  have e := c.eqs.1
  refine ⟨by rw [c.len]; exact hj, ?_⟩
  have ha := unF_at hj hne
  obtain ⟨a1, a2, a3⟩ := unlF_u i (t.f.getD i freeF).nx t.f[j]
  simp only [e, ha]
  exact ⟨a1, a2⟩
theorem unmapPage_L0 {t : T} {i : Nat} (c : CanUn t i) {x2 : T × K} (e2 : x2.1 = t) {M : List K} (hM : ∀ k ∈ M, k ∈ usedKeys (unmapT t i).f) (hl : M.length ≤ 1000) (hf : 1048576 < fl) : ∀ (fuel j : Nat), j ≤ M.length → M.length - j < fuel →
    l_FnUnmapPage_L0 fl x2 (unmapT t i, true) M fuel j = some (.out (M.length : Int)) := by
  intro fuel
  induction fuel with
  | zero => intro j _ h; omega
  | succ fuel ih =>
    intro j hj hfu
    rw [l_FnUnmapPage_L0.eq_2]
    by_cases h : j < M.length
    · rw [decide_eq_true (by omega : (j : Int) < (M.length : Int)), cot, idx_nat h, e2]
      simp only [obs]
      obtain ⟨m, hm, hu, hk⟩ := used_at (hM M[j] (List.getElem_mem h))
      have hm2 : m < t.f.length := by rw [c.len] at hm; exact hm
      have hne : m ≠ i := fun e => by
        subst e
        have e1 := c.eqs.1
        simp only [e1, unF, List.getElem_set_self] at hu
        cases hu
      obtain ⟨_, a1, a2⟩ := c.other hm2 hne
      obtain ⟨s1, f1⟩ := iFind_used (fl := fl) c.ok hm2 (a1 ▸ hu) hf
      obtain ⟨s2, f2⟩ := iFind_used (fl := fl) c.tok hm hu hf
      rw [← a2, hk] at f1
      rw [hk] at f2
      rw [f1, f2, ck_succ (by omega)]
      simp only [obs, Bool.not_true, cof, bne_self_eq_false]
      exact ih (j + 1) (by omega) (by omega)
    · have e : j = M.length := by omega
      subst e
      simp only [Int.lt_irrefl, decide_false, cof]
theorem unmapPage_true (l : List UInt8) : l_FnUnmapPage 1048577 l = some true := by
  have hf : 1048576 < 1048577 := by decide
  generalize hfl : 1048577 = fl at hf
  unfold l_FnUnmapPage
  by_cases hbig : 1048576 < (l.length : Int)
  · rw [decide_eq_true hbig, cot]
  rw [decide_eq_false hbig, cof]
  obtain ⟨t, k, e, hl, h12⟩ := drawUn_eq hf l
  rw [e]
  simp only [obs]
  rw [iUnmap_eq (by omega) hf]
  simp only [obs]
  rw [sUnmap_eq hf]
  simp only [obs]
  have hlen := unmapR_len (k := k) (t := t) (by omega)
  rw [same_self hlen hf]
  simp only [obs, Bool.not_true, cof, bne_self_eq_false, beq_self_eq_true, cot]
  cases hm : (unmapR t k).2 with
  | false => simp only [Bool.not_false, cot, obs]
  | true =>
    obtain ⟨i, c, rfl, e0⟩ := unmapR_yes hm
    rw [e0]
    simp only [Bool.not_true, cof, obs]
    have nd := c.keys.nodup_iff.1 c.ok.ks
    have hno := find_none (List.nodup_cons.1 nd).1
    obtain ⟨s, _, f2⟩ := iFindPage_eq (fl := fl) c.tok c.key hf
    rw [f2 hno]
    simp only [obs]
    have hle := usedKeys_len t.f
    have hle2 := c.keys.length_eq
    rw [List.length_cons] at hle2
    rw [iKeys_eq c.tok hf (by rw [c.len]; omega), iKeys_eq c.ok hf (by omega)]
    obtain ⟨M, hM, hp⟩ := sortK_some (fl := fl) hf (L := usedKeys (unmapT t i).f) (by omega)
    obtain ⟨M2, hM2, hp2⟩ := sortK_some (fl := fl) hf (L := usedKeys t.f) (by omega)
    rw [hM]
    simp only [obs]
    have := unmapPage_L0 (fl := fl) c (x2 := (t, (t.f[i]'c.hi).k)) rfl (M := M) (fun k hk => hp.mem_iff.1 hk) (by rw [hp.length_eq]; omega) hf fl 0 (by omega) (by rw [hp.length_eq]; omega)
    rw [show ((0 : Nat) : Int) = 0 from rfl] at this
    rw [this]
    simp only [obs, i_TableValid, tableOk_of c.tok, cot, Bool.not_false]
    have q1 := hp2.length_eq
    have q2 := hp.length_eq
    have hck : ck ((M2.length : Int) - 1) = some (M.length : Int) := by rw [ck_in (by omega)]; congr 1; omega
    rw [hM2]
    simp only [obs]
    rw [hck]
    simp only [obs, beq_self_eq_true, cot]
/-- a valid table without a key in use is a new table -/
theorem TOk.none_used {t : T} (h : TOk t) (hn : usedKeys t.f = []) : t = newT t.f.length t.b.length := by
  have hu : ∀ g ∈ t.f, g = freeF := fun g hg => by
    have h1 := h.fr g hg
    unfold frameOk at h1
    cases hx : g.u with
    | false => rw [hx] at h1; simpa using h1
    | true =>
      exfalso
      have : g.k ∈ usedKeys t.f := List.mem_map.2 ⟨g, List.mem_filter.2 ⟨hg, hx⟩, rfl⟩
      rw [hn] at this; cases this
  have hf : t.f = List.replicate t.f.length freeF := List.eq_replicate_iff.2 ⟨rfl, hu⟩
  have hb : t.b = List.replicate t.b.length (-1) := List.eq_replicate_iff.2 ⟨rfl, fun x hx => by
    obtain ⟨b, hb, rfl⟩ := List.getElem_of_mem hx
    obtain ⟨L, hL⟩ := Option.isSome_iff_exists.1 (h.ch b hb)
    unfold chain at hL
    rw [show t.b.getD b (-1) = t.b[b] from by simp [hb]] at hL
    by_cases h1 : t.b[b] = -1
    · exact h1
    · rw [walk_out h1 (fun j e hj hu' hh => by
        have := hu _ (List.getElem_mem hj)
        rw [this] at hu'
        cases hu')] at hL
      cases hL⟩
  cases t with
  | mk b f =>
    simp only [newT] at *
    rw [← hf, ← hb]
theorem unmapAll_L0 {M : List K} (hl : M.length ≤ 1000) (hf : 1048576 < fl) : ∀ (fuel j : Nat) (t : T), j ≤ M.length → M.length - j < fuel → TOk t → (usedKeys t.f).Perm (M.drop j) →
    ∃ t' m, l_FnUnmapAll_L0 fl M fuel t.b t.f j = some (.out (t'.b, t'.f, m)) ∧ TOk t' ∧ usedKeys t'.f = [] ∧ t'.b.length = t.b.length ∧ t'.f.length = t.f.length := by
  intro fuel
  induction fuel with
  | zero => intro j t _ h; omega
  | succ fuel ih =>
    intro j t hj hfu ht hp
    rw [l_FnUnmapAll_L0.eq_2]
    have g2 := ht.f2
    by_cases h : j < M.length
    · rw [decide_eq_true (by omega : (j : Int) < (M.length : Int)), cot, idx_nat h]
      simp only [obs]
      have hd : M.drop j = M[j] :: M.drop (j + 1) := (List.getElem_cons_drop ..).symm
      rw [hd] at hp
      obtain ⟨i, hi, hu, hk⟩ := used_at (hp.mem_iff.2 List.mem_cons_self)
      have c : CanUn t i := ⟨ht, hi, hu⟩
      have hr := c.unmapR
      rw [hk] at hr
      rw [iUnmap_eq (by show t.f.length ≤ 1048576; omega) hf]
      simp only [obs]
      rw [show unmapR (⟨t.b, t.f⟩ : T) M[j] = (unmapT t i, true) from hr]
      simp only [obs, Bool.not_true, cof]
      rw [ck_succ (by omega)]
      simp only [obs]
      have hp2 := c.keys.symm.trans hp
      rw [hk] at hp2
      obtain ⟨t', m, e, a1, a2, a3, a4⟩ := ih (j + 1) (unmapT t i) (by omega) (by omega) c.tok ((List.perm_cons _).1 hp2)
      exact ⟨t', m, e, a1, a2, by rw [a3, c.eqs.2.1], by rw [a4, c.len]⟩
    · have e : j = M.length := by omega
      subst e
      rw [List.drop_length] at hp
      simp only [Int.lt_irrefl, decide_false, cof]
      exact ⟨t, _, rfl, ht, hp.eq_nil, rfl, rfl⟩
theorem unmapAll_true (l : List UInt8) : l_FnUnmapAll 1048577 l = some true := by
  have hf : 1048576 < 1048577 := by decide
  generalize hfl : 1048577 = fl at hf
  unfold l_FnUnmapAll
  by_cases hbig : 1048576 < (l.length : Int)
  · rw [decide_eq_true hbig, cot]
  rw [decide_eq_false hbig, cof]
  obtain ⟨t, k, e, hl, h12⟩ := drawUn_eq hf l
  rw [e]
  simp only [obs]
  rw [iUnmap_eq (by omega) hf]
  simp only [obs]
  rw [sUnmap_eq hf]
  simp only [obs]
  have hlen := unmapR_len (k := k) (t := t) (by omega)
  rw [same_self hlen hf]
  simp only [obs, Bool.not_true, cof, bne_self_eq_false, beq_self_eq_true, cot]
  cases hm : (unmapR t k).2 with
  | false => simp only [Bool.not_false, cot, obs]
  | true =>
    obtain ⟨i, c, rfl, e0⟩ := unmapR_yes hm
    rw [e0]
    simp only [Bool.not_true, cof, obs]
    have hle := usedKeys_len t.f
    have hle2 := c.keys.length_eq
    rw [List.length_cons] at hle2
    rw [iKeys_eq c.tok hf (by rw [c.len]; omega)]
    obtain ⟨M, hM, hp⟩ := sortK_some (fl := fl) hf (L := usedKeys (unmapT t i).f) (by omega)
    rw [hM]
    simp only [obs]
    obtain ⟨t', m, ea, a1, a2, a3, a4⟩ := unmapAll_L0 (fl := fl) (M := M) (by rw [hp.length_eq]; omega) hf fl 0 (unmapT t i) (by omega) (by rw [hp.length_eq]; omega) c.tok (by rw [List.drop_zero]; exact hp.symm)
    rw [show ((0 : Nat) : Int) = 0 from rfl] at ea
    rw [ea]
    simp only [obs]
    have b1 := c.ok.f1
    have b2 := c.ok.f2
    have b3 := c.ok.b1
    have b4 := c.ok.b2
    have en : newTR (t.f.length : Int) (t.b.length : Int) = (newT t.f.length t.b.length, true) := by
      unfold newTR
      rw [if_pos (by simp; omega)]
      simp
    rw [iNewTable_eq hf, en]
    simp only [obs, cot]
    have et := a1.none_used a2
    rw [a3, a4, c.len, c.eqs.2.1] at et
    rw [show (⟨t'.b, t'.f⟩ : T) = newT t.f.length t.b.length from et]
    rw [same_self (by simp [newT]; omega) hf]
    simp only [obs]
end Go.Proofs.YtbhpohopfbcfgaaDoor
