/- The pure law of FnExactMapPage: it returns true. -/
import Derived.Test.YtkocamaoeojfhaaDoorLd
set_option linter.unusedSimpArgs false
namespace Go.Proofs.YtkocamaoeojfhaaDoor
open Go.RowKit
theorem exactMap_true (t : T) (k : K) (fr r : Int) (h1 : (t.b.length : Int) ≤ 9223372036854775807) (h2 : (t.f.length : Int) ≤ 9223372036854775807) : l_FnExactMapPage 1048577 t k fr r = some true := by
  have hf : 1048576 < 1048577 := by decide
  generalize hfl : 1048577 = fl at hf
  unfold l_FnExactMapPage
  rcases szTable_eq (fl := fl) (t := t) with ⟨hl, x, e, hx⟩ | ⟨x, e, hx⟩ | h | h
  · rw [e]
    simp only [obs, hx, cof, l_toKey]
    have hp := mapR_len (k := k) (fr := fr) (r := r) hl
    obtain ⟨v1, b1, f1, m1, n1, _⟩ := markTable_held (fl := fl) (t := t) hl hf
    obtain ⟨v2, b2, f2, m2, n2, q2⟩ := markTable_held (fl := fl) (t := (mapR t k fr r).1) hp hf
    rw [toTable_eq hl hf]
    simp only [obs]
    rw [sMap_eq hf]
    simp only [obs]
    rw [iMap_eq (by omega) hf]
    simp only [obs]
    rw [eqTable_self hp hf]
    simp only [obs, Bool.not_true, bne_self_eq_false, cof]
    rw [eqTable_self hl hf]
    simp only [obs, Bool.not_true, bne_self_eq_false, cof]
    rw [m1]
    simp only [obs, n1, bne_self_eq_false, cof]
    rw [m2]
    simp only [obs]
    rw [q2]
    simp only [obs, n2, bne_self_eq_false, cof]
  · rw [e]
    simp only [obs, hx, cot]
  · omega
  · omega
end Go.Proofs.YtkocamaoeojfhaaDoor
