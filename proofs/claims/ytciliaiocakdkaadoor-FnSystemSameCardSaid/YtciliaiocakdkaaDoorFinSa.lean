/- FnSystemSame: the walk and the pure law, joined to the row's statement and the card. Printed by a program (final.py). -/
import Derived.Test.YtciliaiocakdkaaDoorPoD
import Derived.Test.YtciliaiocakdkaaDoorSwac
import Derived.Test.YtciliaiocakdkaaDoorSaa
import Derived.Test.YtciliaiocakdkaaDoorCards
import Derived.Test.YtciliaiocakdkaaDoorTie
set_option linter.unusedSimpArgs false
set_option linter.unusedVariables false
set_option maxRecDepth 20000
set_option maxHeartbeats 4000000
namespace Go.Proofs.YtciliaiocakdkaaDoor.fnSystemSame
open Go.ChangeShapes Go.WideShapes Go.ChangeAt Go.RowKit

theorem dt4 : DecT Tryd.prog 4 Bool (fun a => .lit (.bool a)) := dec_bool Tryd.underlying4

theorem dt3 : DecT Tryd.prog 3 Int (fun a => .lit (.int .i64 a)) := dec_int Tryd.underlying3

theorem lst2 {α : Type} {xs : List α} {y0 y1 : α} (h : xs.length = 2) (g0 : xs[0]? = some y0) (g1 : xs[1]? = some y1) : xs = [y0, y1] := by
  match xs, h with
  | [b0, b1], _ => simp at g0 g1; simp [g0, g1]

theorem dt36 : DecT Tryd.prog 36 K (fun a => .agg [.lit (.int .i64 a.s), .lit (.int .i64 a.p)]) := ⟨fun {H enc w base spare held fuel cs x} h => by
  obtain ⟨xs, n, _, rfl, hl, hx, hf⟩ := DataW.trod_struct Tryd.underlying36 h
  have hl' : cs.length = 2 := hl.trans (by kernel_rfl)
  obtain ⟨y0, g0, q0⟩ := fld (m := 1) (i := 0) hf hx rfl (by kernel_rfl)
  obtain ⟨a0, e0, d0⟩ := dt3.dec q0
  obtain ⟨y1, g1, q1⟩ := fld (m := 1) (i := 1) hf hx rfl (by kernel_rfl)
  obtain ⟨a1, e1, d1⟩ := dt3.dec q1
  refine ⟨⟨a0, a1⟩, seg_fin (seg_join e0 e1) hl', ?_⟩
  rw [lst2 hx g0 g1]
  simp [d0, d1]⟩

theorem lst4 {α : Type} {xs : List α} {y0 y1 y2 y3 : α} (h : xs.length = 4) (g0 : xs[0]? = some y0) (g1 : xs[1]? = some y1) (g2 : xs[2]? = some y2) (g3 : xs[3]? = some y3) : xs = [y0, y1, y2, y3] := by
  match xs, h with
  | [b0, b1, b2, b3], _ => simp at g0 g1 g2 g3; simp [g0, g1, g2, g3]

theorem dt61 : DecT Tryd.prog 61 F (fun a => .agg [.lit (.bool a.u), .agg [.lit (.int .i64 a.k.s), .lit (.int .i64 a.k.p)], .lit (.int .i64 a.r), .lit (.int .i64 a.nx)]) := ⟨fun {H enc w base spare held fuel cs x} h => by
  obtain ⟨xs, n, _, rfl, hl, hx, hf⟩ := DataW.trod_struct Tryd.underlying61 h
  have hl' : cs.length = 5 := hl.trans (by kernel_rfl)
  obtain ⟨y0, g0, q0⟩ := fld (m := 1) (i := 0) hf hx rfl (by kernel_rfl)
  obtain ⟨a0, e0, d0⟩ := dt4.dec q0
  obtain ⟨y1, g1, q1⟩ := fld (m := 2) (i := 1) hf hx rfl (by kernel_rfl)
  obtain ⟨a1, e1, d1⟩ := dt36.dec q1
  obtain ⟨y2, g2, q2⟩ := fld (m := 1) (i := 2) hf hx rfl (by kernel_rfl)
  obtain ⟨a2, e2, d2⟩ := dt3.dec q2
  obtain ⟨y3, g3, q3⟩ := fld (m := 1) (i := 3) hf hx rfl (by kernel_rfl)
  obtain ⟨a3, e3, d3⟩ := dt3.dec q3
  refine ⟨⟨a0, a1, a2, a3⟩, seg_fin (seg_join (seg_join (seg_join e0 e1) e2) e3) hl', ?_⟩
  rw [lst4 hx g0 g1 g2 g3]
  simp [d0, d1, d2, d3]⟩

theorem gFree : Tryd.prog.globalNamed "loop.example/invertedpages/impl.free" = some 0 := by kernel_rfl

theorem gFreeType : (Tryd.prog.globals[0]?).map (·.type) = some 61 := by kernel_rfl

theorem glob {W : World} (h : laidMetH Tryd.prog Rows.fnSystemSameRow.laid W) : W.rangeAt 0 0 [.bool false, .int .i64 0, .int .i64 0, .int .i64 0, .int .i64 (-1)] := by
  have h' : laidMet Tryd.prog [("loop.example/invertedpages/impl.free", Rows.laid_loop_example_invertedpages_impl_free)] W := h
  obtain ⟨ps, ⟨g', t', cs, fuel, p, q, hg', ht', hvar, hd, _, _⟩, _⟩ := h'
  obtain rfl := Option.some.inj (gFree.symm.trans hg')
  obtain rfl := Option.some.inj (gFreeType.symm.trans ht')
  obtain ⟨f, e, d⟩ := dt61.dec hd
  have d' : Rows.laid_loop_example_invertedpages_impl_free = _ := d
  unfold Rows.laid_loop_example_invertedpages_impl_free at d'
  simp only [DataW.agg.injEq, List.cons.injEq, DataW.lit.injEq, Lit.bool.injEq, Lit.int.injEq, true_and, and_true] at d'
  obtain ⟨h1, ⟨h2, h3⟩, h4, h5⟩ := d'
  intro j v hj
  rw [Nat.zero_add, World.var?_cell gFree hvar j, ← Array.getElem?_toList, e]
  rw [show Enc.cells f = [.bool f.u, .int .i64 f.k.s, .int .i64 f.k.p, .int .i64 f.r, .int .i64 f.nx] from rfl, ← h1, ← h2, ← h3, ← h4, ← h5]
  exact hj

theorem kids : Kids Tryd.prog (· < Tryd.prog.types.size) := kids_rows (by kernel_rfl) (by kernel_rfl)

theorem full : ∀ t e, t < Tryd.prog.types.size → Tryd.prog.underlying t = some (.slice e) → 0 < Tryd.prog.cellsOf e := slices_full_of Tryd.prog (by kernel_rfl)

theorem types_size : Tryd.prog.types.size = 133 := by kernel_rfl

theorem globTypes : ∀ (g : Nat) t, (Tryd.prog.globals[g]?).map (·.type) = some t → t < Tryd.prog.types.size := by
  intro g t h
  rcases Nat.lt_or_ge g 1 with hg | hg
  · obtain rfl : g = 0 := by omega
    obtain rfl := Option.some.inj (gFreeType.symm.trans h)
    rw [types_size]; decide
  · have : Tryd.prog.globals.size = 1 := by kernel_rfl
    rw [Array.getElem?_eq_none (by omega)] at h; cases h

theorem dt5 : DecT Tryd.prog 5 UInt8 (fun a => .lit (.int .u8 (a.toNat : Int))) := dec_u8 Tryd.underlying5

theorem rt22 {H : Type} {enc : TypeId × Value → H} {w : World} {held : Bool} {fuel : Nat} {cs : List Value} {x : DataW H × List MemPlace} (h : DataW.trod enc Tryd.prog w 0 (fun _ => true) held fuel 22 cs = some x) : ∃ p0 c0, ∃ a : (List UInt8), cs = [.slice p0 ((a).length) c0] ∧ RdL p0 c0 a w := by
  obtain ⟨p, c, l, e, r⟩ := slice_dec dt5 Tryd.underlying22 (by kernel_rfl) (by decide) h
  exact ⟨p, c, l, e, r⟩

theorem contract (H : Type) (enc : TypeId × Value → H) (W : World) (base : Nat) (args : Array Value) (ds gs : List (DataW H)) (before : List MemPlace)
    (hval : ∀ (j : Nat) t v, Tryd.f3.params[j]? = some t → args[j]? = some v → Value.okWide Tryd.prog W .any base t v)
    (hW : DataW.Whole enc Tryd.prog Tryd.f3.params.toList Rows.fnSystemSameSpec.vars false W args.toList ds gs before) (hL : laidMetH Tryd.prog Rows.fnSystemSameRow.laid W) :
    Calls Tryd.prog 3 args W fun e W' => ∃ v, e = .returned v ∧ Rows.fnSystemSameSpec.post enc Tryd.prog Tryd.f3 false true false false W args v W' := by
  obtain ⟨p, q, hA, hV, _, _, _⟩ := id hW
  have hT : ∀ t ∈ Tryd.f3.params.toList, t < Tryd.prog.types.size := fun t ht => by
    have hall : (Tryd.f3.params.toList.all fun t => Nat.blt t Tryd.prog.types.size) = true := by kernel_rfl
    exact lt_of_blt (List.all_eq_true.1 hall t ht)
  rw [Tryd.params3] at hA hval
  obtain ⟨v0, vs0, d0, ds0, pp0, qq0, hv0, hd0, _, h0, r0⟩ := trodAll_cons hA
  obtain ⟨hvn, hdn, _⟩ := trodAll_nil r0
  obtain rfl : args = #[v0] := by cases args; simp_all
  obtain rfl : ds = [d0] := by simp_all
  have hgs : ∃ g1, gs = [g1] := by
    rcases gs with _ | ⟨g1, _ | ⟨g2, gs⟩⟩
    · exact absurd hV (by simp [DataW.TrodVars, Rows.fnSystemSameSpec])
    · exact ⟨g1, rfl⟩
    · obtain ⟨_, _, _, _, _, _, _, _, _, _, h5, _⟩ := hV
      exact absurd h5 (by simp [DataW.TrodVars])
  obtain ⟨g1, rfl⟩ := hgs
  obtain ⟨n0, t0⟩ := h0
  obtain ⟨ao0, ln0, cp0, rfl⟩ := okWide_slice Tryd.underlying22 (hval 0 22 v0 rfl rfl)
  obtain ⟨p0_0, c0_0, a0, e0, r0_0⟩ := rt22 t0
  have e0' : [Value.slice ao0 ln0 cp0] = _ := e0
  simp only [List.cons.injEq, Value.slice.injEq, and_true] at e0'
  obtain ⟨rfl, rfl, rfl⟩ := e0'
  refine Calls.mono (c_l_FnSystemSame 1048577 W a0 rfl (RdL.ro r0_0) (range_ro (glob hL)) true (systemSame_true a0)) ?_
  rintro e W' ⟨rv, h', rfl, ⟨rfl, rfl⟩, hs⟩
  exact ⟨_, rfl, post_of_below (f := Tryd.f3) kids full hT globTypes hW (Fr.below hs.fr) rfl (by kernel_rfl) Tryd.underlying4⟩

noncomputable def laidWorld (os : Os) : World :=
  { World.holding Tryd.prog os ⟨#[], #[], []⟩ with heap := (World.holding Tryd.prog os ⟨#[], #[], []⟩).heap.modify 0 fun
      | .cells _ t frozen => .cells #[.bool false, .int .i64 0, .int .i64 0, .int .i64 0, .int .i64 (-1)] t frozen
      | o => o }

theorem laid_met (os : Os) : laidMet Tryd.prog Rows.fnSystemSameRow.laid ((laidWorld os).forCall (fun _ _ => 0) ⟨#[], #[Value.slice none 0 0], []⟩).memory :=
  laidMet_of_run' 8 (by kernel_rfl) (by kernel_rfl)

theorem reads (os : Os) {H : Type} (enc : TypeId × Value → H) : ∃ places, DataW.whole enc Tryd.prog ((laidWorld os).forCall (fun _ _ => 0) ⟨#[], #[Value.slice none 0 0], []⟩).memory Tryd.f3.params.toList Rows.fnSystemSameSpec.vars false (#[Value.slice none 0 0] : Array Value).toList 8 = some ([.nil], [.agg [.lit (.bool false), .agg [.lit (.int .i64 0), .lit (.int .i64 0)], .lit (.int .i64 0), .lit (.int .i64 (-1))]], places) :=
  ⟨[.cell 0 0, .cell 0 1, .cell 0 2, .cell 0 3, .cell 0 4], by kernel_rfl⟩

theorem own : ownKnob Tryd.prog.godebug = none := by kernel_rfl

set_option maxRecDepth 100000 in
theorem lifted (os : Os) (started : os.Started) (H : Type) (enc : TypeId × Value → H) (F : Stop.Interp) :
    ReturnsInHanded {} Tryd.checked os 3 .any ((OpenSpec.ofChange Rows.fnSystemSameSpec).preRow enc Tryd.prog Tryd.f3 Rows.fnSystemSameRow.domain false Rows.fnSystemSameRow.laid) (((OpenSpec.ofChange Rows.fnSystemSameSpec).at F).post enc Tryd.prog Tryd.f3 false true false false) := by
  obtain ⟨places, hx⟩ := reads os enc
  refine returnsInHanded_of_row (C := Tryd.checked) (s := OpenSpec.ofChange Rows.fnSystemSameSpec) own started (by kernel_rfl) Tryd.func3
    (witness_row_at (enc := enc) (C := Tryd.checked) false (laidWorld os) #[Value.slice none 0 0] rfl (by kernel_rfl) (by kernel_rfl) (by kernel_rfl)
      (OpenSpec.preRow_of_cond 8 hx (by kernel_rfl) (fun k hk => by cases hk) (by kernel_rfl) (laid_met os))) ?_
  intro W base args ds gs before hval hW _ _ _ hL _ _
  exact contract H enc W base args ds gs before hval hW hL

theorem and2 {a b : Bool} (h1 : a = true) (h2 : b = true) : (a && b) = true := by rw [h1, h2]; rfl

theorem said : Rows.FnSystemSameSaid :=
  OpenClaim.holds_of_cond 3 Tryd.f3 rfl rfl rfl rfl rfl rfl rfl ⟨rfl, rfl, rfl, rfl, rfl⟩ rfl rfl rfl rfl rfl (by as_aux_lemma => kernel_rfl) Tryd.func3 (by unfold joinedFacts; exact (and2 (and2 (and2 (and2 (and2 (and2 (and2 (and2 (and2 (and2 (and2 (and2 (and2 (and2 (and2 (and2 (and2 (and2 (and2 (and2 (and2 (and2 (and2 (and2 (and2 (and2 (and2 (and2 (and2 (and2 (and2 (by as_aux_lemma => kernel_rfl) (by as_aux_lemma => kernel_rfl)) (by as_aux_lemma => kernel_rfl)) (by as_aux_lemma => kernel_rfl)) (by as_aux_lemma => kernel_rfl)) (by as_aux_lemma => kernel_rfl)) (by as_aux_lemma => kernel_rfl)) (by as_aux_lemma => kernel_rfl)) (by as_aux_lemma => kernel_rfl)) (by as_aux_lemma => kernel_rfl)) (by as_aux_lemma => kernel_rfl)) (by as_aux_lemma => kernel_rfl)) (by as_aux_lemma => kernel_rfl)) (by as_aux_lemma => kernel_rfl)) (by as_aux_lemma => kernel_rfl)) (by as_aux_lemma => kernel_rfl)) (by as_aux_lemma => kernel_rfl)) (by as_aux_lemma => kernel_rfl)) (by as_aux_lemma => kernel_rfl)) (by as_aux_lemma => kernel_rfl)) (by as_aux_lemma => kernel_rfl)) (by as_aux_lemma => kernel_rfl)) (by as_aux_lemma => kernel_rfl)) (by as_aux_lemma => kernel_rfl)) (by as_aux_lemma => kernel_rfl)) (by as_aux_lemma => kernel_rfl)) (by as_aux_lemma => kernel_rfl)) (by as_aux_lemma => kernel_rfl)) (by as_aux_lemma => kernel_rfl)) (by as_aux_lemma => kernel_rfl)) (by as_aux_lemma => kernel_rfl)) (by as_aux_lemma => kernel_rfl)))
    (of_decide_eq_true (by as_aux_lemma => kernel_rfl)) (by unfold Func.isWrapper; first | (rw [if_pos (by decide +kernel)]; kernel_rfl) | (rw [if_neg (by decide +kernel)]; exact ⟨rfl, rfl⟩))
    (fun os started H enc _ F => by rw [OpenClaim.pre_eq_preRow]; exact lifted os started H enc F)

theorem plain (f : FuncId) (fn : Func) (hf : Tryd.pinned.checked.prog.funcNamed "loop.example/invertedpages/laws.FnSystemSame" = some f) (hfn : Tryd.pinned.checked.prog.funcs[f]? = some fn) :
    false = Tryd.pinned.checked.prog.looks [] ∧ ∀ (j : Nat) t, fn.params[j]? = some t → Tryd.pinned.checked.prog.wantsStandIn t = false := by
  obtain rfl : f = 3 := Option.some.inj ((show Tryd.prog.funcNamed "loop.example/invertedpages/laws.FnSystemSame" = some 3 by kernel_rfl).symm.trans hf) |>.symm
  obtain rfl : fn = Tryd.f3 := (Option.some.inj (Tryd.func3.symm.trans hfn)).symm
  refine ⟨by kernel_rfl, fun j t ht => ?_⟩
  rw [Tryd.params3] at ht
  have hm : t ∈ [22] := by have := Array.mem_of_getElem? ht; simpa using this
  have hall : ([22].all fun t => !Tryd.prog.wantsStandIn t) = true := by kernel_rfl
  have := List.all_eq_true.1 hall t hm
  have h3 : Tryd.prog.wantsStandIn t = false := by simpa using this
  exact h3

/-- the card -/
theorem card : Rows.FnSystemSameCardSaid :=
  Claim7.holds_tied_plain_at .later [] _ _ _ _ said (fun _ h => by cases h) (by as_aux_lemma => kernel_rfl) (fun _ h => by cases h) fnSystemSame_row_tie rfl ⟨rfl, rfl⟩ (by as_aux_lemma => kernel_rfl) rfl plain (by as_aux_lemma => kernel_rfl)
end Go.Proofs.YtciliaiocakdkaaDoor.fnSystemSame
