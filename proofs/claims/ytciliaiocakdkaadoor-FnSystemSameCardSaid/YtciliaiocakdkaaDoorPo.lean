/- From a row's premise to the engine's contract, and back: the arguments as they are read; what reads as it did. No program is in sight. -/
import Derived.Test.YtciliaiocakdkaaDoorE6
import Derived.Test.YtciliaiocakdkaaDoorDat
import Derived.WalkKit
import Derived.ProofKit
import Derived.OpenShut
import Derived.ReadAgain
import Derived.ChangeArms
import Derived.Deep.Slices
import Derived.Deep.DeepHandedRow
set_option linter.unusedSimpArgs false
set_option linter.unusedVariables false
namespace Go.Proofs.YtciliaiocakdkaaDoor
open Go.ChangeShapes Go.WideShapes Go.RowKit

/-! ### what a reading of cells says -/
structure DecT (P : Program) (t : TypeId) (α : Type) [Enc α] (dat : {H : Type} → α → DataW H) : Prop where
  dec : ∀ {H : Type} {enc : TypeId × Value → H} {w : World} {base : Nat} {spare : Nat → Bool} {held : Bool} {fuel : Nat} {cs : List Value} {x : DataW H × List MemPlace}, DataW.trod enc P w base spare held fuel t cs = some x → ∃ a : α, cs = Enc.cells a ∧ x.1 = dat a

theorem seg_join {cs a b : List Value} {o k1 k2 : Nat} (h1 : (cs.drop o).take k1 = a) (h2 : (cs.drop (o + k1)).take k2 = b) : (cs.drop o).take (k1 + k2) = a ++ b := by rw [List.take_add, h1, List.drop_drop, h2]
theorem seg_fin {cs a : List Value} {k : Nat} (h : (cs.drop 0).take k = a) (hl : cs.length = k) : cs = a := by
  subst hl; simpa using h
theorem fld {H : Type} {enc : TypeId × Value → H} {P : Program} {w : World} {base : Nat} {spare : Nat → Bool} {held : Bool} {n m i : Nat} {f : Field} {fs : Array Field} {cs : List Value} {xs : List (DataW H × List MemPlace)}
    (hf : ∀ (i : Nat) (f : Field), fs[i]? = some f → DataW.trod enc P w base spare held n f.type ((cs.drop f.offset).take (P.cellsOf f.type)) = xs[i]?) (hl : xs.length = fs.size) (hi : fs[i]? = some f) (hc : P.cellsOf f.type = m) :
    ∃ y, xs[i]? = some y ∧ DataW.trod enc P w base spare held n f.type ((cs.drop f.offset).take m) = some y := by
  have h := hf i f hi
  have hlt : i < xs.length := by rw [hl]; exact (Array.getElem?_eq_some_iff.1 hi).1
  rw [List.getElem?_eq_getElem hlt, hc] at h
  exact ⟨xs[i], List.getElem?_eq_getElem hlt, h⟩
def datI (k : IntKind) {H : Type} (n : Int) : DataW H := .lit (.int k n)
theorem dec_int {P : Program} {t : TypeId} (ht : P.underlying t = some (.int .i64)) : DecT P t Int (fun n => .lit (.int .i64 n)) := ⟨fun h => by
  obtain ⟨n, rfl, rfl, _⟩ := DataW.trod_int ht h; exact ⟨n, rfl, rfl⟩⟩
theorem dec_bool {P : Program} {t : TypeId} (ht : P.underlying t = some .bool) : DecT P t Bool (fun n => .lit (.bool n)) := ⟨fun h => by
  obtain ⟨n, rfl, rfl⟩ := DataW.trod_bool ht h; exact ⟨n, rfl, rfl⟩⟩
theorem dec_u8 {P : Program} {t : TypeId} (ht : P.underlying t = some (.int .u8)) : DecT P t UInt8 (fun n => .lit (.int .u8 (n.toNat : Int))) := ⟨fun h => by
  obtain ⟨n, rfl, rfl, hw⟩ := DataW.trod_int ht h
  have hb := bounds_u8 hw
  have e : ((UInt8.ofNat n.toNat).toNat : Int) = n := by
    rw [UInt8.toNat_ofNat_of_lt' (by show n.toNat < 256; omega)]; omega
  exact ⟨UInt8.ofNat n.toNat, by show _ = [Value.int .u8 _]; rw [e], by simp only [e]⟩⟩

/-- a slice of such elements is read -/
theorem slice_dec {P : Program} {t e : TypeId} {α : Type} [Enc α] {dat : {H : Type} → α → DataW H} (D : DecT P e α dat) (ht : P.underlying t = some (.slice e)) (hc : P.cellsOf e = Enc.sz α) (hsz : 0 < Enc.sz α) {H : Type} {enc : TypeId × Value → H} {w : World} {held : Bool} {fuel : Nat} {cs : List Value} {x : DataW H × List MemPlace}
    (h : DataW.trod enc P w 0 (fun _ => true) held fuel t cs = some x) : ∃ ao cap, ∃ l : List α, cs = [.slice ao l.length cap] ∧ RdL ao cap l w := by
  rcases Go.Deep.open_slice ht h with ⟨rfl, rfl⟩ | ⟨a, len, cap, m, n, Dd, Pl, rfl, hb, hle, hcap, hm, rfl, hel⟩
  · exact ⟨none, 0, [], rfl, by simp, by simp [maxLen], fun _ => rfl, fun j u hu => by simp [cellsL] at hu⟩
  · simp only [if_true] at hm
    have hex : ∀ i, i < len → ∃ z : α, w.cells? 0 (a.add (i * P.cellsOf e)) (P.cellsOf e) = some (Enc.cells z) := fun i hi => by
      obtain ⟨cs', h1, h2⟩ := hel i (by omega)
      obtain ⟨z, rfl, _⟩ := D.dec h2
      exact ⟨z, h1⟩
    have hl : ∃ l : List α, l.length = len ∧ ∀ i, (hi : i < l.length) → w.cells? 0 (a.add (i * P.cellsOf e)) (P.cellsOf e) = some (Enc.cells l[i]) := by
      clear hm hle hel h
      induction len with
      | zero => exact ⟨[], rfl, fun i hi => by simp at hi⟩
      | succ len ih =>
        obtain ⟨l, h1, h2⟩ := ih (fun i hi => hex i (by omega))
        obtain ⟨z, hz⟩ := hex len (by omega)
        refine ⟨l ++ [z], by simp [h1], fun i hi => ?_⟩
        by_cases e' : i < l.length
        · rw [List.getElem_append_left e']; exact h2 i e'
        · have : i = len := by simp at hi; omega
          subst this
          rw [List.getElem_append_right (by omega)]
          simpa [h1] using hz
    obtain ⟨l, rfl, hall⟩ := hl
    refine ⟨some a, cap, l, rfl, hle, hcap, (fun h => by cases h), fun j u hu => ?_⟩
    have hj : j < l.length * Enc.sz α := by rw [← cellsL_length]; exact (List.getElem?_eq_some_iff.1 hu).1
    have hk : j / Enc.sz α < l.length := Nat.div_lt_of_lt_mul (by rw [Nat.mul_comm]; exact hj)
    have hr : j % Enc.sz α < Enc.sz α := Nat.mod_lt _ hsz
    have hjd : j = j / Enc.sz α * Enc.sz α + j % Enc.sz α := by rw [Nat.mul_comm]; exact (Nat.div_add_mod j (Enc.sz α)).symm
    have hl0 : 0 < l.length := Nat.lt_of_le_of_lt (Nat.zero_le _) hk
    have hc0 := World.cells?_some (hall 0 hl0)
    have hck := World.cells?_some (hall _ hk)
    have h0 := hc0.2.2 0 (by omega)
    have hu' : (Enc.cells l[j / Enc.sz α])[j % Enc.sz α]? = some u := by
      rw [hjd, cellsL_at l _ _ hr, List.getElem?_eq_getElem hk] at hu
      exact hu
    have h0' : ∃ v, w.cell? a = some v := by
      have : (Enc.cells l[0])[0]? = some (Enc.cells l[0])[0] := List.getElem?_eq_getElem (by rw [Enc.len]; exact hsz)
      rw [this] at h0
      exact ⟨_, by simpa [Addr.add] using h0⟩
    obtain ⟨v, hv⟩ := h0'
    have hs := World.cell?_spot hv
    obtain ⟨b, o, sp⟩ := a
    simp only at hs
    subst hs
    refine ⟨b, o, rfl, ?_⟩
    have := hck.2.2 (j % Enc.sz α) (by omega)
    rw [hu', hc] at this
    rw [← this]
    congr 1
    rw [addr_add, addr_add]
    congr 1
    omega

/-- what is read stays so -/
theorem RdL.ro {α : Type} [Enc α] {ao : Option Addr} {cap : Nat} {l : List α} {w : World} (h : RdL ao cap l w) : RO w [] (RdL ao cap l) := fun w' hf => by
  obtain ⟨h1, h2, h3, h4⟩ := h
  refine ⟨h1, h2, h3, fun j u hu => ?_⟩
  obtain ⟨b, o, e, hc⟩ := h4 j u hu
  refine ⟨b, o, e, ?_⟩
  have hb : b < w.heap.size := World.block_lt_of_cell? _ _ hc
  rw [← hc]
  exact World.cell?_of_block (w := w) (w' := w') (a := ⟨b, o + j, none⟩) (hf.block b hb (by simp))
theorem range_ro {b : Nat} {cs : List Value} {w : World} (h : w.rangeAt b 0 cs) : RO w [] (fun w' => w'.rangeAt b 0 cs) := fun w' hf j v hv => by
  have hc := h j v hv
  have hb : b < w.heap.size := World.block_lt_of_cell? _ _ hc
  rw [← hc]
  exact World.cell?_of_block (w := w) (w' := w') (a := ⟨b, 0 + j, none⟩) (hf.block b hb (by simp))

/-! ### what reads as it did -/
section
variable {H : Type} {enc : TypeId × Value → H} {P : Program} {W W' : World} {sp : Nat → Bool}
theorem trodAll_below (hb : Below W.heap.size W W') : ∀ {ts : List TypeId} {vs : List Value} {ds : List (DataW H)} {ps : List MemPlace}, DataW.TrodAll enc P W 0 sp true ts vs ds ps → (∀ p ∈ ps, p.block < W.heap.size) → DataW.TrodAll enc P W' 0 sp true ts vs ds ps
  | [], [], [], _, h, _ => h
  | _ :: _, _ :: _, _ :: _, _, ⟨p, q, ⟨n, h1⟩, h2, e⟩, hs =>
    ⟨p, q, ⟨n, DataW.trod_carry _ _ _ _ h1 (fun x hx => hb.same (hs x (by rw [e]; exact List.mem_append_left _ hx)))⟩, trodAll_below hb h2 (fun x hx => hs x (by rw [e]; exact List.mem_append_right _ hx)), e⟩
theorem var_below (hb : Below W.heap.size W W') {n : String} {cs : Array Value} (h : W.var? P n = some cs) : W'.var? P n = some cs := by
  unfold World.var? at h ⊢
  obtain ⟨g, hg, h2⟩ := Option.bind_eq_some_iff.1 h
  rw [hg]
  simp only [Option.bind_some]
  have : g < W.heap.size := by
    rcases Nat.lt_or_ge g W.heap.size with hl | hl
    · exact hl
    · rw [Array.getElem?_eq_none hl] at h2; cases h2
  rw [hb.block g this]
  exact h2
theorem trodVars_below (K : Kids P (· < P.types.size)) (hz : ∀ t e, t < P.types.size → P.underlying t = some (.slice e) → 0 < P.cellsOf e) (hb : Below W.heap.size W W') (hg : ∀ (g : Nat) t, (P.globals[g]?).map (·.type) = some t → t < P.types.size) : ∀ {ns : List String} {ds : List (DataW H)} {ps : List MemPlace}, DataW.TrodVars enc P W (fun _ => true) ns ds ps → (∀ p ∈ ps, p.block < W.heap.size) → (∀ p ∈ ps, sp p.block = true) → DataW.TrodVars enc P W' sp ns ds ps
  | [], [], _, h, _, _ => h
  | _ :: _, _ :: _, ps, ⟨g, t, cs, fuel, p, q, h1, h2, h3, h4, h5, e⟩, hs, hsp =>
    ⟨g, t, cs, fuel, p, q, h1, h2, var_below hb h3, DataW.trod_carry _ _ _ _ (DataW.trod_respare K hz fuel t _ _ (hg g t h2) h4 (fun x hx => hsp x (by rw [e]; simp [hx]))) (fun x hx => hb.same (hs x (by rw [e]; simp [hx]))),
      trodVars_below K hz hb hg h5 (fun x hx => hs x (by rw [e]; simp [hx])) (fun x hx => hsp x (by rw [e]; simp [hx])), e⟩

/-- the result is one bool, the arguments and the variables read as they did: what a call's frame gives -/
theorem post_of_below {f : Func} {s : ChangeSpec} {apart fresh handsOn again : Bool} {args : Array Value} {r : Bool} {tb : TypeId} {ds gs : List (DataW H)} {before : List MemPlace}
    (K : Kids P (· < P.types.size)) (hz : ∀ t e, t < P.types.size → P.underlying t = some (.slice e) → 0 < P.cellsOf e) (hT : ∀ t ∈ f.params.toList, t < P.types.size) (hG : ∀ (g : Nat) t, (P.globals[g]?).map (·.type) = some t → t < P.types.size)
    (hW : DataW.Whole enc P f.params.toList s.vars apart W args.toList ds gs before) (hb : Below W.heap.size W W')
    (hs : s.fn H (ds ++ gs) = { results := [.lit (.bool r)], args := ds, vars := gs }) (hr : f.resultTypes = #[tb]) (htb : P.underlying tb = some .bool) :
    s.post enc P f apart fresh handsOn again W args (.bool r) W' := by
  obtain ⟨p, q, hA, hV, hps, hfz, hnd⟩ := id hW
  have hlt := hW.lt
  have hpl : ∀ x ∈ p, x.block < W.heap.size := fun x hx => hlt x (by rw [hps]; simp [hx])
  have hql : ∀ x ∈ q, x.block < W.heap.size := fun x hx => hlt x (by rw [hps]; simp [hx])
  have hargs : ∀ sp : Nat → Bool, (∀ x ∈ before, sp x.block = true) → DataW.TrodAll enc P W' 0 sp true f.params.toList args.toList ds p := fun sp hsp =>
    trodAll_below hb (DataW.TrodAll.respare K hz hT hA (fun x hx => hsp x (by rw [hps]; simp [hx]))) hpl
  have hvars : ∀ sp : Nat → Bool, (∀ x ∈ before, sp x.block = true) → DataW.TrodVars enc P W' sp s.vars gs q := fun sp hsp =>
    trodVars_below K hz hb hG hV hql (fun x hx => hsp x (by rw [hps]; simp [hx]))
  have hres : ∀ (b : Nat) (sp : Nat → Bool) (hd : Bool), DataW.TrodAll enc P W' b sp hd f.resultTypes.toList ((Value.bool r).resultList f.resultTypes.size) [.lit (.bool r)] [] := fun b sp hd => by
    rw [hr]
    exact trodAll_cons_mk (shut_bool htb _) trodAll_mk0
  have hold : ∀ x ∈ before, (fun b => decide (b < W.heap.size)) x.block = true := fun x hx => by simpa using hlt x hx
  refine ⟨ds, gs, before, [], p, q, hW, ?_, ?_, ?_, World.keptBut_mono (fun x hx => ⟨hx, by rw [hps, List.mem_append] at hx; exact Or.inr hx⟩) (hb.frame (· ∈ before)), fun _ => ?_⟩
  · rw [hs]; exact hres _ _ _
  · rw [hs]; exact hargs _ hold
  · rw [hs]; exact hvars _ hold
  · refine ⟨?_, _, _, ([] ++ p) ++ q, ⟨[] ++ p, q, trodAll_append (hargs _ (fun _ _ => rfl)) (hres _ _ _), hvars _ (fun _ _ => rfl), rfl, ?_, ?_⟩, ?_⟩
    · exact ok_one hr rfl (okWide_bool_mk htb _)
    · intro b off hp
      have hp' : MemPlace.cell b off ∈ before := by rw [hps]; simpa using hp
      rw [hb.frozen (p := ⟨b, off, none⟩) (hlt _ hp')]
      exact hfz b off hp'
    · intro ha
      have := hnd ha
      rw [hps] at this
      simpa using this
    · intro x hx _
      rw [hps]
      simpa using hx
end
end Go.Proofs.YtciliaiocakdkaaDoor
