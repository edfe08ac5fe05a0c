/- The pure law of FnExactUnmapPage: it returns true. -/
import Derived.Test.YtkocamaoeojfhaaDoorLg
set_option linter.unusedSimpArgs false
namespace Go.Proofs.YtkocamaoeojfhaaDoor
open Go.RowKit
theorem exactUnmap_true (t : T) (k : K) (h1 : (t.b.length : Int) ≤ 9223372036854775807) (h2 : (t.f.length : Int) ≤ 9223372036854775807) : l_FnExactUnmapPage 1048577 t k = some true := by
  have hf : 1048576 < 1048577 := by decide
  generalize hfl : 1048577 = fl at hf
  unfold l_FnExactUnmapPage
  rcases szTable_eq (fl := fl) (t := t) with ⟨hl, x, e, hx⟩ | ⟨x, e, hx⟩ | h | h
  · rw [e]
    simp only [obs, hx, cof, l_toKey]
    have hp := unmapR_len (k := k) hl
    obtain ⟨v1, b1, f1, m1, n1, _⟩ := markTable_held (fl := fl) (t := t) hl hf
    obtain ⟨v2, b2, f2, m2, n2, q2⟩ := markTable_held (fl := fl) (t := (unmapR t k).1) hp hf
    rw [toTable_eq hl hf]
    simp only [obs]
    rw [sUnmap_eq hf]
    simp only [obs]
    rw [iUnmap_eq (by omega) hf]
    simp only [obs]
    rw [eqTable_self hp hf]
    simp only [obs, Bool.not_true, bne_self_eq_false, cof]
    rw [eqTable_self hl hf]
    simp only [obs, Bool.not_true, bne_self_eq_false, cof]
    rw [m1]
    simp only [obs, n1, bne_self_eq_false, cof]
    rw [m2]
    simp only [obs]
    rw [q2]
    simp only [obs, n2, bne_self_eq_false, cof]
  · rw [e]
    simp only [obs, hx, cot]
  · omega
  · omega
end Go.Proofs.YtkocamaoeojfhaaDoor
