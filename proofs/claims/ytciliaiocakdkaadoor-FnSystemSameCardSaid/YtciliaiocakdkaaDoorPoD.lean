/- Arguments that are slices of structs that hold slices: how they are read. No program is in sight. -/
import Derived.Test.YtciliaiocakdkaaDoorPo
import Derived.Test.YtciliaiocakdkaaDoorDp
set_option linter.unusedSimpArgs false
set_option linter.unusedVariables false
namespace Go.Proofs.YtciliaiocakdkaaDoor
open Go.ChangeShapes Go.WideShapes Go.RowKit
def GW1 (w : World) (s : CpS) (a : Cp) : Prop := (s.n = a.n.length ∧ RdL s.p s.c a.n w) ∧ s.n' = a.w.length ∧ RdL s.p' s.c' a.w w
def RDw (ao : Option Addr) (cap : Nat) (l : List Cp) (w : World) : Prop := ∃ ls : List CpS, RdL ao cap ls w ∧ l.length = ls.length ∧ ∀ (j : Nat) s c, ls[j]? = some s → l[j]? = some c → GW1 w s c
theorem RDw.ro {ao : Option Addr} {cap : Nat} {l : List Cp} {w : World} (h : RDw ao cap l w) : ROD w [] ao cap l := by
  obtain ⟨ls, h1, h2, h3⟩ := h
  refine ⟨ls, h1.ro, h2, fun j s c a b => ?_⟩
  obtain ⟨⟨q1, q2⟩, q3, q4⟩ := h3 j s c a b
  exact ⟨⟨q1, q2.ro⟩, q3, q4.ro⟩
theorem RdL.lenI {α : Type} [Enc α] {ao : Option Addr} {cap : Nat} {l : List α} {w : World} (h : RdL ao cap l w) : (l.length : Int) ≤ 9223372036854775807 := by
  have h1 := h.1; have h2 := h.2.1; simp only [maxLen] at h2; omega
theorem RDw.lenI {ao : Option Addr} {cap : Nat} {l : List Cp} {w : World} (h : RDw ao cap l w) : (l.length : Int) ≤ 9223372036854775807 ∧ ∀ c ∈ l, (c.n.length : Int) ≤ 9223372036854775807 ∧ (c.w.length : Int) ≤ 9223372036854775807 := by
  obtain ⟨ls, h1, h2, h3⟩ := h
  refine ⟨by rw [h2]; exact h1.lenI, fun c hc => ?_⟩
  obtain ⟨j, hj, rfl⟩ := List.getElem_of_mem hc
  obtain ⟨⟨_, q⟩, _, q'⟩ := h3 j _ _ (List.getElem?_eq_getElem (by omega)) (List.getElem?_eq_getElem hj)
  exact ⟨q.lenI, q'.lenI⟩
theorem slice_decD {P : Program} {t e : TypeId} {H : Type} {enc : TypeId × Value → H} {w : World} {held : Bool} {fuel : Nat} {cs : List Value} {x : DataW H × List MemPlace}
    (E : ∀ {fuel : Nat} {cs : List Value} {x : DataW H × List MemPlace}, DataW.trod enc P w 0 (fun _ => true) held fuel e cs = some x → ∃ (s : CpS) (a : Cp), cs = Enc.cells s ∧ GW1 w s a)
    (ht : P.underlying t = some (.slice e)) (hc : P.cellsOf e = Enc.sz CpS)
    (h : DataW.trod enc P w 0 (fun _ => true) held fuel t cs = some x) : ∃ ao cap, ∃ l : List Cp, cs = [.slice ao l.length cap] ∧ RDw ao cap l w := by
  have hsz : 0 < Enc.sz CpS := by decide
  rcases Go.Deep.open_slice ht h with ⟨rfl, rfl⟩ | ⟨a, len, cap, m, n, Dd, Pl, rfl, hb, hle, hcap, hm, rfl, hel⟩
  · exact ⟨none, 0, [], rfl, [], ⟨by simp, by simp [maxLen], fun _ => rfl, fun j u hu => by simp [cellsL] at hu⟩, rfl, fun j s c hj => by simp at hj⟩
  · simp only [if_true] at hm
    have hex : ∀ i, i < len → ∃ (z : CpS) (y : Cp), w.cells? 0 (a.add (i * P.cellsOf e)) (P.cellsOf e) = some (Enc.cells z) ∧ GW1 w z y := fun i hi => by
      obtain ⟨cs', h1, h2⟩ := hel i (by omega)
      obtain ⟨z, y, rfl, hg⟩ := E h2
      exact ⟨z, y, h1, hg⟩
    have hl : ∃ (l : List CpS) (l2 : List Cp), l.length = len ∧ l2.length = len ∧ (∀ i, (hi : i < l.length) → w.cells? 0 (a.add (i * P.cellsOf e)) (P.cellsOf e) = some (Enc.cells l[i])) ∧ ∀ (j : Nat) s c, l[j]? = some s → l2[j]? = some c → GW1 w s c := by
      clear hm hle hel h
      induction len with
      | zero => exact ⟨[], [], rfl, rfl, fun i hi => by simp at hi, fun j s c hj => by simp at hj⟩
      | succ len ih =>
        obtain ⟨l, l2, h1, h1', h2, h3⟩ := ih (fun i hi => hex i (by omega))
        obtain ⟨z, y, hz, hg⟩ := hex len (by omega)
        refine ⟨l ++ [z], l2 ++ [y], by simp [h1], by simp [h1'], fun i hi => ?_, fun j s c hs hc => ?_⟩
        · by_cases e' : i < l.length
          · rw [List.getElem_append_left e']; exact h2 i e'
          · have : i = len := by simp at hi; omega
            subst this
            rw [List.getElem_append_right (by omega)]
            simpa [h1] using hz
        · by_cases e' : j < l.length
          · rw [List.getElem?_append_left e'] at hs
            rw [List.getElem?_append_left (by omega)] at hc
            exact h3 j s c hs hc
          · have : j = len := by have := (List.getElem?_eq_some_iff.1 hs).1; simp at this; omega
            subst this
            rw [List.getElem?_append_right (by omega)] at hs hc
            simp [h1] at hs
            simp [h1'] at hc
            subst hs hc
            exact hg
    obtain ⟨l, l2, rfl, hl2, hall, hgw⟩ := hl
    rw [← hl2]
    refine ⟨some a, cap, l2, rfl, l, ⟨hle, hcap, (fun h => by cases h), fun j u hu => ?_⟩, hl2, hgw⟩
    have hj : j < l.length * Enc.sz CpS := by rw [← cellsL_length]; exact (List.getElem?_eq_some_iff.1 hu).1
    have hk : j / Enc.sz CpS < l.length := Nat.div_lt_of_lt_mul (by rw [Nat.mul_comm]; exact hj)
    have hr : j % Enc.sz CpS < Enc.sz CpS := Nat.mod_lt _ hsz
    have hjd : j = j / Enc.sz CpS * Enc.sz CpS + j % Enc.sz CpS := by rw [Nat.mul_comm]; exact (Nat.div_add_mod j (Enc.sz CpS)).symm
    have hl0 : 0 < l.length := Nat.lt_of_le_of_lt (Nat.zero_le _) hk
    have hc0 := World.cells?_some (hall 0 hl0)
    have hck := World.cells?_some (hall _ hk)
    have h0 := hc0.2.2 0 (by omega)
    have hu' : (Enc.cells l[j / Enc.sz CpS])[j % Enc.sz CpS]? = some u := by
      rw [hjd, cellsL_at l _ _ hr, List.getElem?_eq_getElem hk] at hu
      exact hu
    have h0' : ∃ v, w.cell? a = some v := by
      have : (Enc.cells l[0])[0]? = some (Enc.cells l[0])[0] := List.getElem?_eq_getElem (by rw [Enc.len]; exact hsz)
      rw [this] at h0
      exact ⟨_, by simpa [Addr.add] using h0⟩
    obtain ⟨v, hv⟩ := h0'
    have hs := World.cell?_spot hv
    obtain ⟨b, o, sp⟩ := a
    simp only at hs
    subst hs
    refine ⟨b, o, rfl, ?_⟩
    have := hck.2.2 (j % Enc.sz CpS) (by omega)
    rw [hu', hc] at this
    rw [← this]
    congr 1
    rw [addr_add, addr_add]
    congr 1
    omega
end Go.Proofs.YtciliaiocakdkaaDoor
