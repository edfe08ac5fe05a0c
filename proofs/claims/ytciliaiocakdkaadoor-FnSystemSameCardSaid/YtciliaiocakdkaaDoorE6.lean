/- The engine, sixth part: cuts inside a region; what a loop hands on; small helpers of the printed texts; the data types. -/
import Derived.Test.YtciliaiocakdkaaDoorE5
set_option linter.unusedSimpArgs false
set_option linter.unusedVariables false
set_option linter.unusedSectionVars false
namespace Go.Proofs.YtciliaiocakdkaaDoor
open Go.RowKit

/-- what a loop's pure function yields: it went on behind the loop, or it returned -/
inductive LO (σ ρ : Type) where
  | out (s : σ)
  | ret (r : ρ)

section
variable {P : Program} {n : Nat} {w0 : World} {M : List Nat} {Q : Exit → Act → World → Prop} {s : Slots} {h : Hp} {L : Array Oper}

theorem wpList_app2 {l2 : List Oper} : ∀ (l1 : List Oper) (a : Act) (w : World), wpList P L (fun e a w => match e with | .normal => wpList P L Q l2 a w | e => Q e a w) l1 a w → wpList P L Q (l1 ++ l2) a w
  | [], a, w, h => h
  | o :: l1, a, w, h => by
    rw [List.cons_append]
    unfold wpList at h ⊢
    split
    · rename_i hw
      rw [if_pos hw] at h
      rcases h with h | ⟨h1, a₀, w₀, h2⟩
      · refine .inl ?_
        have hm : ∀ a w, wpList P L (fun e a w => match e with | .normal => wpList P L Q l2 a w | e => Q e a w) l1 a w → wpList P L Q (l1 ++ l2) a w := fun a w h => wpList_app2 l1 a w h
        unfold Oper.wp at *
        generalize (execOp a.eval o).run P w = r at *
        cases r with
        | ok m w' =>
          cases m <;> simp only [Oper.upon] at h ⊢ <;>
            first
              | exact hm _ _ h
              | exact Calls.mono h (fun e w'' he => by cases e <;> first | exact hm _ _ he | exact he)
              | exact Rows.mono h (fun _ _ he => hm _ _ he)
        | halt x w' => cases x <;> simp only [Oper.upon] at h ⊢ <;> exact h
      · exact .inr ⟨h1, a₀, w₀, h2⟩
    · rename_i hw
      rw [if_neg hw] at h
      exact wpList_app2 l1 _ _ h

/-- a cut behind the first k operations -/
theorem ow_cut {ι : Type} (k : Nat) (J : ι → Prop) (S : ι → Slots) (R : ι → Hp) {ops : List Oper} (k1 : OW P n w0 M L (JQ n w0 M Q J S R) (ops.take k) s h) (k2 : ∀ x, J x → OW P n w0 M L Q (ops.drop k) (S x) (R x)) : OW P n w0 M L Q ops s h := by
  intro a w ha hw
  rw [← List.take_append_drop k ops]
  refine wpList_app2 _ _ _ ?_
  have hmono : ∀ (l : List Oper) (Q Q' : Exit → Act → World → Prop), (∀ e a w, Q e a w → Q' e a w) → ∀ a w, wpList P L Q l a w → wpList P L Q' l a w := by
    intro l Q Q' hq
    induction l with
    | nil => intro a w h; exact hq _ _ _ h
    | cons o l ih =>
      intro a w h
      unfold wpList at h ⊢
      split
      · rename_i hw
        rw [if_pos hw] at h
        rcases h with h | ⟨h1, a₀, w₀, h2⟩
        · refine .inl ?_
          unfold Oper.wp at *
          generalize (execOp a.eval o).run P w = r at *
          cases r with
          | ok m w' =>
            cases m <;> simp only [Oper.upon] at h ⊢ <;>
              first
                | exact ih _ _ h
                | exact Calls.mono h (fun e w'' he => by cases e <;> first | exact ih _ _ he | exact hq _ _ _ he | (obtain ⟨a₀, w₀, h2⟩ := he; exact ⟨a₀, w₀, hq _ _ _ h2⟩))
                | exact Rows.mono h (fun _ _ he => ih _ _ he)
          | halt x w' => cases x <;> simp only [Oper.upon] at h ⊢ <;> first | exact hq _ _ _ h | exact h
        · exact .inr ⟨h1, a₀, w₀, hq _ _ _ h2⟩
      · rename_i hw
        rw [if_neg hw] at h
        exact ih _ _ h
  refine hmono _ _ _ (fun e a w hq => ?_) a w (k1 a w ha hw)
  cases e with
  | normal => obtain ⟨x, h1, h2, h3⟩ := hq; exact k2 x h1 a w h2 h3
  | _ => exact hq

/-- more is known -/
def Ext {α : Type} (s s' : List (Nat × α)) : Prop := ∀ i v, aget s i = some v → aget s' i = some v
theorem Ext.refl {α : Type} (s : List (Nat × α)) : Ext s s := fun _ _ h => h
theorem Ext.cons {α : Type} {s s' : List (Nat × α)} {d : Nat} {v : α} (hn : aget s d = none) (h : Ext s s') : Ext s ((d, v) :: s') := fun i u hi => by
  rw [aget_cons]
  split
  · rename_i e; subst e; rw [hn] at hi; cases hi
  · exact h i u hi
def JY (n : Nat) (w0 : World) (M : List Nat) (Q : Exit → Act → World → Prop) (s : Slots) (h : Hp) : Exit → Act → World → Prop
  | .normal, a, w => Has n a s ∧ Sat w0 M w h
  | e, a, w => Q e a w
/-- a cut behind the first k operations: a bool has been found, nothing else is kept of them -/
theorem ow_cutY (k d : Nat) (y : Bool) {ops : List Oper} (k1 : OW P n w0 M L (JY n w0 M Q ((d, .bool y) :: s) h) (ops.take k) s h) (k2 : OW P n w0 M L Q (ops.drop k) ((d, .bool y) :: s) h) : OW P n w0 M L Q ops s h := by
  refine ow_cut (ι := Unit) k (fun _ => True) (fun _ => (d, .bool y) :: s) (fun _ => h) ?_ (fun _ _ => k2)
  have e : JQ n w0 M Q (fun _ : Unit => True) (fun _ => (d, .bool y) :: s) (fun _ => h) = JY n w0 M Q ((d, .bool y) :: s) h := by
    funext e a w
    cases e <;> simp [JQ, JY]
  rw [e]
  exact k1
theorem kw_jy {s' : Slots} {h' : Hp} (hs : Ext s s') (hh : Ext h h') : KW n w0 M (JY n w0 M Q s h) .normal s' h' := fun a w ha hw => ⟨⟨ha.size, ha.defers, fun i v hi => ha.val i v (hs i v hi)⟩, hw.subg hh⟩
theorem Ext.top {s s' : Slots} {d : Nat} {v : Value} (hv : aget s' d = some v) (h : Ext s s') : Ext ((d, v) :: s) s' := fun i u hi => by
  rw [aget_cons] at hi
  split at hi
  · rename_i e; subst e; simp only [Option.some.injEq] at hi; subst hi; exact hv
  · exact h i u hi
theorem sevs_nil : sevs s [] = some [] := rfl
theorem sevs_cons {x : Operand} {xs : List Operand} {v : Value} {vs : List Value} (h1 : sev s x = some v) (h2 : sevs s xs = some vs) : sevs s (x :: xs) = some (v :: vs) := by simp [sevs, h1, h2]
theorem sevp_nil : sevp s [] = some [] := rfl
theorem sevp_cons {i : Nat} {x : Operand} {xs : List (Nat × Operand)} {v : Value} {vs : List (Nat × Value)} (h1 : sev s x = some v) (h2 : sevp s xs = some vs) : sevp s ((i, x) :: xs) = some ((i, v) :: vs) := by simp [sevp, h1, h2]
theorem kw_lq {ι : Type} {μ : ι → Nat} {x0 : ι} {J : ι → Prop} {S : ι → Slots} {R : ι → Hp} (x : ι) (hj : J x) (hm : μ x < μ x0) (hs : SubS (S x) s) (hr : SubH (R x) h) : KW n w0 M (LQ n w0 M Q μ x0 J S R) .normal s h := fun a w ha hw => ⟨x, hj, hm, ha.sub hs, hw.sub hr⟩
theorem kw_lq_ret {ι : Type} {μ : ι → Nat} {x0 : ι} {J : ι → Prop} {S : ι → Slots} {R : ι → Hp} (k : KW n w0 M Q .ret s h) : KW n w0 M (LQ n w0 M Q μ x0 J S R) .ret s h := k
theorem kw_lq_exit {ι : Type} {μ : ι → Nat} {x0 : ι} {J : ι → Prop} {S : ι → Slots} {R : ι → Hp} {id : Nat} (k : KW n w0 M Q (.exit id) s h) : KW n w0 M (LQ n w0 M Q μ x0 J S R) (.exit id) s h := k

theorem kw_lqS {ι : Type} {μ : ι → Nat} {x0 : ι} {J : ι → Prop} {S : ι → Slots} {R : ι → Hp} (x : ι) (hj : J x) (hm : μ x < μ x0) (hs : SubS (S x) s) {js : List Nat} (hr : Sel h (R x) js) (hn : js.Nodup) : KW n w0 M (LQ n w0 M Q μ x0 J S R) .normal s h := fun a w ha hw => ⟨x, hj, hm, ha.sub hs, hw.sel hr hn⟩
theorem kw_joinS {ι : Type} {J : ι → Prop} {S : ι → Slots} {R : ι → Hp} (x : ι) (hj : J x) (hs : SubS (S x) s) {js : List Nat} (hr : Sel h (R x) js) (hn : js.Nodup) : KW n w0 M (JQ n w0 M Q J S R) .normal s h := fun a w ha hw => ⟨x, hj, ha.sub hs, hw.sel hr hn⟩
theorem cw_loopS {ι : Type} {c : Code} (μ : ι → Nat) (J : ι → Prop) (S : ι → Slots) (R : ι → Hp) (x : ι) (hj : J x) (hs : SubS (S x) s) {js : List Nat} (hr : Sel h (R x) js) (hn : js.Nodup)
    (k : ∀ x, J x → CW P n w0 M c (LQ n w0 M Q μ x J S R) (S x) (R x)) : CW P n w0 M (.loop c) Q s h := fun a w ha hw =>
  cw_loop μ J S R x hj k a w (ha.sub hs) (hw.sel hr hn)

theorem sv {s s' : Slots} (hs : SubS s' s) (t : Nat) {v : Value} (hv : aget s' t = some v) : sev s (.tmp t) = some v := hs.get t v hv
theorem kw_gen {ι : Type} {e : Exit} (x : ι) (J : ι → Prop) (S : ι → Slots) (R : ι → Hp) (hj : J x) (hs : SubS (S x) s) (hr : SubH (R x) h) (k : ∀ x, J x → KW n w0 M Q e (S x) (R x)) : KW n w0 M Q e s h := fun a w ha hw => k x hj a w (ha.sub hs) (hw.sub hr)
/-- an empty resource -/
theorem Sat.addNil {w : World} (k : Sat w0 M w h) (id : Nat) : Sat w0 M w ((id, []) :: h) := by
  refine ⟨k.fr, fun i C hi => ?_, fun i C i' C' hi hi' hne => ?_⟩
  · rw [aget_cons] at hi
    split at hi
    · simp only [Option.some.injEq] at hi; subst hi; intro p hp; cases hp
    · exact k.own i C hi
  · rw [aget_cons] at hi hi'
    split at hi
    · simp only [Option.some.injEq] at hi; subst hi; intro p hp; cases hp
    · split at hi'
      · simp only [Option.some.injEq] at hi'; subst hi'; intro p hp q hq; cases hq
      · exact k.dis i C i' C' hi hi' hne
theorem ow_addNil {ops : List Oper} (id : Nat) (k : OW P n w0 M L Q ops s ((id, []) :: h)) : OW P n w0 M L Q ops s h := fun a w ha hw => k a w ha (hw.addNil id)
theorem cw_addNil {c : Code} (id : Nat) (k : CW P n w0 M c Q s ((id, []) :: h)) : CW P n w0 M c Q s h := fun a w ha hw => k a w ha (hw.addNil id)
theorem kw_addNil {e : Exit} (id : Nat) (k : KW n w0 M Q e s ((id, []) :: h)) : KW n w0 M Q e s h := fun a w ha hw => k a w ha (hw.addNil id)

/-! ### equality of two structs -/
structure TyEq (P : Program) (t : TypeId) (α : Type) [Enc α] [BEq α] : Prop where
  eq : ∀ (w : World) (x y : α), (Op.equal t (.agg (Enc.cells x).toArray) (.agg (Enc.cells y).toArray)).run P w = .ok (x == y) w
  guard : P.eqGuardType P.depth t = false
variable {α : Type} [Enc α] [BEq α] {t t' ty : TypeId} {x y : Operand}
theorem stp_eqlS (T : TyEq P t α) (p q : α) (hx : sev s x = some (.agg (Enc.cells p).toArray)) (hy : sev s y = some (.agg (Enc.cells q).toArray)) : Stp P n w0 M (.binOp .eql t x y t') ty s h (.bool (p == q)) := fun a w ha hw => by
  simp [execOp, exo, ha.ev hx, ha.ev hy, eqGuard, binOp, T.eq, T.guard]
theorem stp_neqS (T : TyEq P t α) (p q : α) (hx : sev s x = some (.agg (Enc.cells p).toArray)) (hy : sev s y = some (.agg (Enc.cells q).toArray)) : Stp P n w0 M (.binOp .neq t x y t') ty s h (.bool (p != q)) := fun a w ha hw => by
  simp [execOp, exo, ha.ev hx, ha.ev hy, eqGuard, binOp, T.eq, T.guard, bne]
end

/-! ### bytes -/
instance encU8 : Enc UInt8 := ⟨1, fun n => [.int .u8 (n.toNat : Int)], fun _ => rfl, by intro a u hu; simp at hu; subst hu; rfl⟩
end Go.Proofs.YtciliaiocakdkaaDoor
