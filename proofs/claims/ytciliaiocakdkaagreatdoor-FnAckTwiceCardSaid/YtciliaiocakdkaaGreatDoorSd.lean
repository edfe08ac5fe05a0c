/- The engine, deep slices: a row that was copied from another row shares its inner slices. -/
import Derived.Test.YtciliaiocakdkaaGreatDoorDp
set_option linter.unusedSimpArgs false
set_option linter.unusedVariables false
set_option linter.unusedSectionVars false
namespace Go.Proofs.YtciliaiocakdkaaGreatDoor
open Go.RowKit
theorem OwnD.shr {e e2 : TypeId} {ao : Option Addr} {cap : Nat} {l : List Cp} {C : Res} (ho : OwnD e e2 ao cap l C) :
    ∃ ls : List CpS, l.length = ls.length ∧ RdC C ao cap ls ∧ ∀ (j : Nat) s c, ls[j]? = some s → l[j]? = some c → (s.n = c.n.length ∧ RdC C s.p s.c c.n) ∧ s.n' = c.w.length ∧ RdC C s.p' s.c' c.w := by
  obtain ⟨ls, C0, Cr, h0, ⟨hl, D, d1, d2, _⟩, _, h3⟩ := ho
  refine ⟨ls, hl, fun w hC => h0.rdl w fun p hp => hC p ((h3 p).2 (.inl hp)), fun j s c hs hc => ?_⟩
  have q1 : j < l.length := (List.getElem?_eq_some_iff.1 hc).1
  obtain ⟨⟨a, b⟩, c', d⟩ := d2 _ _ _ (by omega) hs hc
  exact ⟨⟨a, fun w hC => b.rdl w fun p hp => hC p ((h3 p).2 (.inr ((d1 p).2 ⟨_, q1, by omega, .inl hp⟩)))⟩, c', fun w hC => d.rdl w fun p hp => hC p ((h3 p).2 (.inr ((d1 p).2 ⟨_, q1, by omega, .inr hp⟩)))⟩
theorem shlen {l r : List Cp} {ls : List CpS} (hl : l.length = ls.length) (hc : cnt (([] : List Cp) ++ l) = some r) : r.length = (([] : List CpS) ++ ls).length := by
  obtain ⟨rfl, _⟩ := cnt_some hc
  simpa using hl
theorem idxSh {l r : List Cp} {ls : List CpS} {i : Int} {z : Cp} (hl : l.length = ls.length) (hc : cnt (([] : List Cp) ++ l) = some r) (hk : idx r i = some z) : ∃ u, idx (([] : List CpS) ++ ls) i = some u := by
  have h := shlen hl hc
  obtain ⟨a, b, _⟩ := idx_some hk
  exact ⟨(([] : List CpS) ++ ls)[i.toNat]'(by omega), by unfold idx; rw [if_pos a, List.getElem?_eq_getElem]⟩
/-- such a row, one element of which comes from a third row, is read -/
theorem rod_sh {w0 w : World} {M : List Nat} {h : Hp} {id id2 id3 k : Nat} {e : TypeId} {ao p p' : Option Addr} {cap c c' : Nat} {l r : List Cp} {ls : List CpS} {z : Cp} {C C2 C3 : Res} (hg : aget h id = some C) (ho : OwnC e ao cap ((([] : List CpS) ++ ls).set k ⟨p, z.n.length, c, p', z.w.length, c'⟩) C)
    (hg2 : aget h id2 = some C2) (hl : l.length = ls.length) (ha : ∀ (j : Nat) s c, ls[j]? = some s → l[j]? = some c → (s.n = c.n.length ∧ RdC C2 s.p s.c c.n) ∧ s.n' = c.w.length ∧ RdC C2 s.p' s.c' c.w) (hc : cnt (([] : List Cp) ++ l) = some r)
    (hg3 : aget h id3 = some C3) (hr : RdC C3 p c z.n) (hr' : RdC C3 p' c' z.w) (hw : Sat w0 M w h) : ROD w [] ao cap (r.set k ⟨z.n, z.w⟩) := by
  obtain ⟨rfl, _⟩ := cnt_some hc
  simp only [List.nil_append] at ho ⊢
  refine ⟨_, OwnC.pass hg ho hw, by simpa using hl, fun j s d hs hd => ?_⟩
  rw [List.getElem?_set] at hs hd
  by_cases e : k = j
  · rw [if_pos e] at hs hd
    split at hs
    · rename_i hk
      rw [if_pos (by omega)] at hd
      simp only [Option.some.injEq] at hs hd
      subst hs hd
      exact ⟨⟨rfl, RdC.pass hg3 hr hw⟩, rfl, RdC.pass hg3 hr' hw⟩
    · cases hs
  · rw [if_neg e] at hs hd
    obtain ⟨⟨a, b⟩, a', b'⟩ := ha j s d hs hd
    exact ⟨⟨a, RdC.pass hg2 b hw⟩, a', RdC.pass hg2 b' hw⟩
end Go.Proofs.YtciliaiocakdkaaGreatDoor
