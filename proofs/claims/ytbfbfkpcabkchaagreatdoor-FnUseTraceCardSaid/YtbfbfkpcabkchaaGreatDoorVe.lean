/- The engine, eighth part: still shorter names for the printed texts: what an operation looks up is one equation. -/
import Derived.Test.YtbfbfkpcabkchaaGreatDoorE7
set_option linter.unusedSimpArgs false
set_option linter.unusedVariables false
set_option linter.unusedSectionVars false
namespace Go.Proofs.YtbfbfkpcabkchaaGreatDoor
open Go.RowKit
theorem sI {α : Type _} {a b : α} (h : some a = some b) : a = b := Option.some.inj h
theorem bS {α β : Type} {x : Option α} {f : α → Option β} {r : β} (h : Option.bind x f = some r) : ∃ y, x = some y ∧ f y = some r := bind_some h
theorem q2 {α β : Type _} {a a' : α} {b b' : β} (h : (a, b) = (a', b')) : a = a' ∧ b = b' := Prod.mk.inj h
theorem q3 {α β γ : Type _} {a a' : α} {b b' : β} {c c' : γ} (h : (a, b, c) = (a', b', c')) : a = a' ∧ b = b' ∧ c = c' := ⟨(q2 h).1, q2 (q2 h).2⟩
theorem q4 {α β γ δ : Type _} {a a' : α} {b b' : β} {c c' : γ} {d d' : δ} (h : (a, b, c, d) = (a', b', c', d')) : a = a' ∧ b = b' ∧ c = c' ∧ d = d' := ⟨(q2 h).1, q3 (q2 h).2⟩
theorem q5 {α β γ δ ε : Type _} {a a' : α} {b b' : β} {c c' : γ} {d d' : δ} {x x' : ε} (h : (a, b, c, d, x) = (a', b', c', d', x')) : a = a' ∧ b = b' ∧ c = c' ∧ d = d' ∧ x = x' := ⟨(q2 h).1, q4 (q2 h).2⟩
theorem q6 {α β γ δ ε ζ : Type _} {a a' : α} {b b' : β} {c c' : γ} {d d' : δ} {x x' : ε} {y y' : ζ} (h : (a, b, c, d, x, y) = (a', b', c', d', x', y')) : a = a' ∧ b = b' ∧ c = c' ∧ d = d' ∧ x = x' ∧ y = y' := ⟨(q2 h).1, q5 (q2 h).2⟩
section
variable {P : Program} {n : Nat} {w0 : World} {M : List Nat} {Q : Exit → Act → World → Prop} {s : Slots} {h : Hp} {L : Array Oper} {rest : List Oper} {op : Op} {ty t t' : TypeId} {pos : String} {after : Array Edge} {d : Nat} {v : Value} {x y z : Operand} {c : Code}
theorem oM (e : (sev s x, Nat.blt d n) = (some v, true)) (k : OW P n w0 M L Q rest ((d, v) :: s) h) : OW P n w0 M L Q (⟨some d, .move x, ty, pos, after, none⟩ :: rest) s h := oD (mv (q2 e).1) (q2 e).2 k
theorem oS (e : (sev s x, Nat.blt d n) = (some v, true)) (k : OW P n w0 M L Q rest ((d, v) :: s) h) : OW P n w0 M L Q (⟨some d, .assign x, ty, pos, after, none⟩ :: rest) s h := oD (sg (q2 e).1) (q2 e).2 k
theorem oT {vs : Array Value} {i : Nat} (e : (sev s x, vs[i]?, Nat.blt d n) = (some (.tuple vs), some v, true)) (k : OW P n w0 M L Q rest ((d, v) :: s) h) : OW P n w0 M L Q (⟨some d, .extract x i, ty, pos, after, none⟩ :: rest) s h := oD (stp_extract (q3 e).1 (q3 e).2.1) (q3 e).2.2 k
theorem oZ {b o : Nat} (e : (sev s x, Nat.blt d n) = (some (.pointer (some ⟨b, o, none⟩)), true)) (k : OW P n w0 M L Q rest ((d, .pointer (some ⟨b, o, none⟩)) :: s) h) : OW P n w0 M L Q (⟨some d, .nilCheck x, ty, pos, after, none⟩ :: rest) s h := oD (stp_nilCheck (q2 e).1) (q2 e).2 k
theorem oK {b : Bool} (e : (sev s x, Nat.blt d n) = (some (.bool b), true)) (k : OW P n w0 M L Q rest ((d, .bool !b) :: s) h) : OW P n w0 M L Q (⟨some d, .unOp .not t x, ty, pos, after, none⟩ :: rest) s h := oD (stp_not (q2 e).1) (q2 e).2 k
section
variable {kk : IntKind} {p q : Int}
theorem oQ (e : (sev s x, sev s y, Nat.blt d n) = (some (.int kk p), some (.int kk q), true)) (k : OW P n w0 M L Q rest ((d, .bool (p == q)) :: s) h) : OW P n w0 M L Q (⟨some d, .binOp .eql t x y t', ty, pos, after, none⟩ :: rest) s h := oD (stp_eql (q3 e).1 (q3 e).2.1) (q3 e).2.2 k
theorem oU (e : (sev s x, sev s y, Nat.blt d n) = (some (.int kk p), some (.int kk q), true)) (k : OW P n w0 M L Q rest ((d, .bool (p != q)) :: s) h) : OW P n w0 M L Q (⟨some d, .binOp .neq t x y t', ty, pos, after, none⟩ :: rest) s h := oD (stp_neq (q3 e).1 (q3 e).2.1) (q3 e).2.2 k
theorem oW (e : (sev s x, sev s y, Nat.blt d n) = (some (.int kk p), some (.int kk q), true)) (k : OW P n w0 M L Q rest ((d, .bool (decide (p < q))) :: s) h) : OW P n w0 M L Q (⟨some d, .binOp .lss t x y t', ty, pos, after, none⟩ :: rest) s h := oD (stp_lss (q3 e).1 (q3 e).2.1) (q3 e).2.2 k
theorem oV (e : (sev s x, sev s y, Nat.blt d n) = (some (.int kk p), some (.int kk q), true)) (k : OW P n w0 M L Q rest ((d, .bool (decide (p ≤ q))) :: s) h) : OW P n w0 M L Q (⟨some d, .binOp .leq t x y t', ty, pos, after, none⟩ :: rest) s h := oD (stp_leq (q3 e).1 (q3 e).2.1) (q3 e).2.2 k
theorem oJ (e : (sev s x, sev s y, Nat.blt d n) = (some (.int kk p), some (.int kk q), true)) (k : OW P n w0 M L Q rest ((d, .bool (decide (q < p))) :: s) h) : OW P n w0 M L Q (⟨some d, .binOp .gtr t x y t', ty, pos, after, none⟩ :: rest) s h := oD (stp_gtr (q3 e).1 (q3 e).2.1) (q3 e).2.2 k
theorem oI (e : (sev s x, sev s y, Nat.blt d n) = (some (.int kk p), some (.int kk q), true)) (k : OW P n w0 M L Q rest ((d, .bool (decide (q ≤ p))) :: s) h) : OW P n w0 M L Q (⟨some d, .binOp .geq t x y t', ty, pos, after, none⟩ :: rest) s h := oD (stp_geq (q3 e).1 (q3 e).2.1) (q3 e).2.2 k
theorem oP {r : Int} (hr : ck (p + q) = some r) (e : (sev s x, sev s y, Nat.blt d n) = (some (.int .i64 p), some (.int .i64 q), true)) (k : OW P n w0 M L Q rest ((d, .int .i64 r) :: s) h) : OW P n w0 M L Q (⟨some d, .binOp .add t x y t', ty, pos, after, none⟩ :: rest) s h := oD (stp_add (q3 e).1 (q3 e).2.1 hr) (q3 e).2.2 k
end
theorem oA (j : Nat) {b o : Nat} {fs : Array Field} {f : Field} {i kz : Nat} {agg : Bool} (hu : P.underlying t = some (.struct fs)) (hf : fs[i]? = some f) (T : TyS P f.type kz agg) (e : (Nat.beq kz 0, sev s x, f.offset, Nat.blt d n) = (false, some (.pointer (some ⟨b, o, none⟩)), j, true)) (k : OW P n w0 M L Q rest ((d, .pointer (some ⟨b, o + j, none⟩)) :: s) h) :
    OW P n w0 M L Q (⟨some d, .fieldAddr t x i, ty, pos, after, none⟩ :: rest) s h := oD (fA j hu hf T (q4 e).1 (q4 e).2.1 (q4 e).2.2.1) (q4 e).2.2.2 k
theorem oL (id : Nat) {b o : Nat} {cs : Array Value} {et : TypeId} {fr : Nat × Nat} {u : Value} (T : TyS P t 1 false) (e : (sev s x, aget h id, (cs.toList.drop o).take 1, Nat.blt d n) = (some (.pointer (some ⟨b, o, none⟩)), some [(b, .cells cs et fr)], [u], true)) (k : OW P n w0 M L Q rest ((d, u) :: s) h) :
    OW P n w0 M L Q (⟨some d, .load t x, ty, pos, after, none⟩ :: rest) s h := oD (lB id T (q4 e).1 (q4 e).2.1 (q4 e).2.2.1) (q4 e).2.2.2 k
theorem oBo (id : Nat) {m b o : Nat} {cs : Array Value} {et : TypeId} {fr : Nat × Nat} {us : List Value} (T : TyS P t us.length true) (hm : us.length = m) (e : (sev s x, aget h id, (cs.toList.drop o).take m, Nat.blt d n) = (some (.pointer (some ⟨b, o, none⟩)), some [(b, .cells cs et fr)], us, true)) (k : OW P n w0 M L Q rest ((d, .agg us.toArray) :: s) h) :
    OW P n w0 M L Q (⟨some d, .load t x, ty, pos, after, none⟩ :: rest) s h := oD (stp_loadN T (q4 e).1 (Cells.box (q4 e).2.1 m (q4 e).2.2.1)) (q4 e).2.2.2 k
theorem oCo (id : Nat) {kz b o : Nat} {cs : Array Value} {et : TypeId} {u : Value} {agg : Bool} {us : List Value} (T : TyS P t kz agg) (e : (sev s x, sev s y, aget h id, u.cells.size, Nat.ble (o + kz) cs.size, u.cells.toList.all (·.oneCell')) = (some (.pointer (some ⟨b, o, none⟩)), some u, some [(b, .cells cs et (0, 0))], kz, true, true)) (hcs : splice cs.toList o u.cells.toList = us)
    (k : OW P n w0 M L Q rest s ((id, [(b, .cells us.toArray et (0, 0))]) :: h)) : OW P n w0 M L Q (⟨none, .store t x y, ty, pos, after, none⟩ :: rest) s h :=
  oF (stpU_store (id := id) T (q6 e).1 (q6 e).2.1 (q6 e).2.2.1 (q6 e).2.2.2.1 (q6 e).2.2.2.2.1 (q6 e).2.2.2.2.2 hcs) (fun _ U hU => by subst hU; exact k)
theorem oB2 (id : Nat) {b o : Nat} {cs : Array Value} {et : TypeId} {fr : Nat × Nat} {u0 u1 : Value} (T : TyS P t 2 true) (e : (sev s x, aget h id, (cs.toList.drop o).take 2, Nat.blt d n) = (some (.pointer (some ⟨b, o, none⟩)), some [(b, .cells cs et fr)], [u0, u1], true)) (k : OW P n w0 M L Q rest ((d, .agg #[u0, u1]) :: s) h) : OW P n w0 M L Q (⟨some d, .load t x, ty, pos, after, none⟩ :: rest) s h := oBo id (us := [u0, u1]) T rfl e k
theorem oB4 (id : Nat) {b o : Nat} {cs : Array Value} {et : TypeId} {fr : Nat × Nat} {u0 u1 u2 u3 : Value} (T : TyS P t 4 true) (e : (sev s x, aget h id, (cs.toList.drop o).take 4, Nat.blt d n) = (some (.pointer (some ⟨b, o, none⟩)), some [(b, .cells cs et fr)], [u0, u1, u2, u3], true)) (k : OW P n w0 M L Q rest ((d, .agg #[u0, u1, u2, u3]) :: s) h) : OW P n w0 M L Q (⟨some d, .load t x, ty, pos, after, none⟩ :: rest) s h := oBo id (us := [u0, u1, u2, u3]) T rfl e k
theorem oB6 (id : Nat) {b o : Nat} {cs : Array Value} {et : TypeId} {fr : Nat × Nat} {u0 u1 u2 u3 u4 u5 : Value} (T : TyS P t 6 true) (e : (sev s x, aget h id, (cs.toList.drop o).take 6, Nat.blt d n) = (some (.pointer (some ⟨b, o, none⟩)), some [(b, .cells cs et fr)], [u0, u1, u2, u3, u4, u5], true)) (k : OW P n w0 M L Q rest ((d, .agg #[u0, u1, u2, u3, u4, u5]) :: s) h) : OW P n w0 M L Q (⟨some d, .load t x, ty, pos, after, none⟩ :: rest) s h := oBo id (us := [u0, u1, u2, u3, u4, u5]) T rfl e k
theorem oB9 (id : Nat) {b o : Nat} {cs : Array Value} {et : TypeId} {fr : Nat × Nat} {u0 u1 u2 u3 u4 u5 u6 u7 u8 : Value} (T : TyS P t 9 true) (e : (sev s x, aget h id, (cs.toList.drop o).take 9, Nat.blt d n) = (some (.pointer (some ⟨b, o, none⟩)), some [(b, .cells cs et fr)], [u0, u1, u2, u3, u4, u5, u6, u7, u8], true)) (k : OW P n w0 M L Q rest ((d, .agg #[u0, u1, u2, u3, u4, u5, u6, u7, u8]) :: s) h) : OW P n w0 M L Q (⟨some d, .load t x, ty, pos, after, none⟩ :: rest) s h := oBo id (us := [u0, u1, u2, u3, u4, u5, u6, u7, u8]) T rfl e k
theorem oB11 (id : Nat) {b o : Nat} {cs : Array Value} {et : TypeId} {fr : Nat × Nat} {u0 u1 u2 u3 u4 u5 u6 u7 u8 u9 u10 : Value} (T : TyS P t 11 true) (e : (sev s x, aget h id, (cs.toList.drop o).take 11, Nat.blt d n) = (some (.pointer (some ⟨b, o, none⟩)), some [(b, .cells cs et fr)], [u0, u1, u2, u3, u4, u5, u6, u7, u8, u9, u10], true)) (k : OW P n w0 M L Q rest ((d, .agg #[u0, u1, u2, u3, u4, u5, u6, u7, u8, u9, u10]) :: s) h) : OW P n w0 M L Q (⟨some d, .load t x, ty, pos, after, none⟩ :: rest) s h := oBo id (us := [u0, u1, u2, u3, u4, u5, u6, u7, u8, u9, u10]) T rfl e k
theorem oC1 (id : Nat) {kz b o : Nat} {cs : Array Value} {et : TypeId} {u : Value} {agg : Bool} {u0 : Value} (T : TyS P t kz agg) (e : (sev s x, sev s y, aget h id, u.cells.size, Nat.ble (o + kz) cs.size, u.cells.toList.all (·.oneCell')) = (some (.pointer (some ⟨b, o, none⟩)), some u, some [(b, .cells cs et (0, 0))], kz, true, true)) (hcs : splice cs.toList o u.cells.toList = [u0]) (k : OW P n w0 M L Q rest s ((id, [(b, .cells #[u0] et (0, 0))]) :: h)) : OW P n w0 M L Q (⟨none, .store t x y, ty, pos, after, none⟩ :: rest) s h := oCo id T e hcs k
theorem oC2 (id : Nat) {kz b o : Nat} {cs : Array Value} {et : TypeId} {u : Value} {agg : Bool} {u0 u1 : Value} (T : TyS P t kz agg) (e : (sev s x, sev s y, aget h id, u.cells.size, Nat.ble (o + kz) cs.size, u.cells.toList.all (·.oneCell')) = (some (.pointer (some ⟨b, o, none⟩)), some u, some [(b, .cells cs et (0, 0))], kz, true, true)) (hcs : splice cs.toList o u.cells.toList = [u0, u1]) (k : OW P n w0 M L Q rest s ((id, [(b, .cells #[u0, u1] et (0, 0))]) :: h)) : OW P n w0 M L Q (⟨none, .store t x y, ty, pos, after, none⟩ :: rest) s h := oCo id T e hcs k
theorem oC4 (id : Nat) {kz b o : Nat} {cs : Array Value} {et : TypeId} {u : Value} {agg : Bool} {u0 u1 u2 u3 : Value} (T : TyS P t kz agg) (e : (sev s x, sev s y, aget h id, u.cells.size, Nat.ble (o + kz) cs.size, u.cells.toList.all (·.oneCell')) = (some (.pointer (some ⟨b, o, none⟩)), some u, some [(b, .cells cs et (0, 0))], kz, true, true)) (hcs : splice cs.toList o u.cells.toList = [u0, u1, u2, u3]) (k : OW P n w0 M L Q rest s ((id, [(b, .cells #[u0, u1, u2, u3] et (0, 0))]) :: h)) : OW P n w0 M L Q (⟨none, .store t x y, ty, pos, after, none⟩ :: rest) s h := oCo id T e hcs k
theorem oC5 (id : Nat) {kz b o : Nat} {cs : Array Value} {et : TypeId} {u : Value} {agg : Bool} {u0 u1 u2 u3 u4 : Value} (T : TyS P t kz agg) (e : (sev s x, sev s y, aget h id, u.cells.size, Nat.ble (o + kz) cs.size, u.cells.toList.all (·.oneCell')) = (some (.pointer (some ⟨b, o, none⟩)), some u, some [(b, .cells cs et (0, 0))], kz, true, true)) (hcs : splice cs.toList o u.cells.toList = [u0, u1, u2, u3, u4]) (k : OW P n w0 M L Q rest s ((id, [(b, .cells #[u0, u1, u2, u3, u4] et (0, 0))]) :: h)) : OW P n w0 M L Q (⟨none, .store t x y, ty, pos, after, none⟩ :: rest) s h := oCo id T e hcs k
theorem oC6 (id : Nat) {kz b o : Nat} {cs : Array Value} {et : TypeId} {u : Value} {agg : Bool} {u0 u1 u2 u3 u4 u5 : Value} (T : TyS P t kz agg) (e : (sev s x, sev s y, aget h id, u.cells.size, Nat.ble (o + kz) cs.size, u.cells.toList.all (·.oneCell')) = (some (.pointer (some ⟨b, o, none⟩)), some u, some [(b, .cells cs et (0, 0))], kz, true, true)) (hcs : splice cs.toList o u.cells.toList = [u0, u1, u2, u3, u4, u5]) (k : OW P n w0 M L Q rest s ((id, [(b, .cells #[u0, u1, u2, u3, u4, u5] et (0, 0))]) :: h)) : OW P n w0 M L Q (⟨none, .store t x y, ty, pos, after, none⟩ :: rest) s h := oCo id T e hcs k
theorem oC9 (id : Nat) {kz b o : Nat} {cs : Array Value} {et : TypeId} {u : Value} {agg : Bool} {u0 u1 u2 u3 u4 u5 u6 u7 u8 : Value} (T : TyS P t kz agg) (e : (sev s x, sev s y, aget h id, u.cells.size, Nat.ble (o + kz) cs.size, u.cells.toList.all (·.oneCell')) = (some (.pointer (some ⟨b, o, none⟩)), some u, some [(b, .cells cs et (0, 0))], kz, true, true)) (hcs : splice cs.toList o u.cells.toList = [u0, u1, u2, u3, u4, u5, u6, u7, u8]) (k : OW P n w0 M L Q rest s ((id, [(b, .cells #[u0, u1, u2, u3, u4, u5, u6, u7, u8] et (0, 0))]) :: h)) : OW P n w0 M L Q (⟨none, .store t x y, ty, pos, after, none⟩ :: rest) s h := oCo id T e hcs k
theorem oC11 (id : Nat) {kz b o : Nat} {cs : Array Value} {et : TypeId} {u : Value} {agg : Bool} {u0 u1 u2 u3 u4 u5 u6 u7 u8 u9 u10 : Value} (T : TyS P t kz agg) (e : (sev s x, sev s y, aget h id, u.cells.size, Nat.ble (o + kz) cs.size, u.cells.toList.all (·.oneCell')) = (some (.pointer (some ⟨b, o, none⟩)), some u, some [(b, .cells cs et (0, 0))], kz, true, true)) (hcs : splice cs.toList o u.cells.toList = [u0, u1, u2, u3, u4, u5, u6, u7, u8, u9, u10]) (k : OW P n w0 M L Q rest s ((id, [(b, .cells #[u0, u1, u2, u3, u4, u5, u6, u7, u8, u9, u10] et (0, 0))]) :: h)) : OW P n w0 M L Q (⟨none, .store t x y, ty, pos, after, none⟩ :: rest) s h := oCo id T e hcs k
theorem yA {x0 : Operand} {w0 : Value} (h0 : sev s x0 = some w0) : sevs s [x0] = some [w0] := sevs_cons h0 (sevs_nil)
theorem yB {x0 x1 : Operand} {w0 w1 : Value} (h0 : sev s x0 = some w0) (h1 : sev s x1 = some w1) : sevs s [x0, x1] = some [w0, w1] := sevs_cons h0 (sevs_cons h1 (sevs_nil))
theorem yC {x0 x1 x2 : Operand} {w0 w1 w2 : Value} (h0 : sev s x0 = some w0) (h1 : sev s x1 = some w1) (h2 : sev s x2 = some w2) : sevs s [x0, x1, x2] = some [w0, w1, w2] := sevs_cons h0 (sevs_cons h1 (sevs_cons h2 (sevs_nil)))
theorem yD {x0 x1 x2 x3 : Operand} {w0 w1 w2 w3 : Value} (h0 : sev s x0 = some w0) (h1 : sev s x1 = some w1) (h2 : sev s x2 = some w2) (h3 : sev s x3 = some w3) : sevs s [x0, x1, x2, x3] = some [w0, w1, w2, w3] := sevs_cons h0 (sevs_cons h1 (sevs_cons h2 (sevs_cons h3 (sevs_nil))))
theorem rT {c : Nat} {w : Value} (hc : aget s c = some w) : RVs P w0 M s h [.tmp c] [w] := .cons (.tmp hc) .nil
theorem rC2 (id : Nat) {c b o : Nat} {cs : Array Value} {et : TypeId} {fr : Nat × Nat} {u0 u1 : Value} (T : TyS P t 2 true) (hv : aget s c = some (.pointer (some ⟨b, o, none⟩))) (e : (aget h id, (cs.toList.drop o).take 2) = (some [(b, .cells cs et fr)], [u0, u1])) : RVs P w0 M s h [.cell c t] [.agg #[u0, u1]] := .cons (.cellN (us := [u0, u1]) T hv (Cells.box (q2 e).1 2 (q2 e).2)) .nil
theorem rC4 (id : Nat) {c b o : Nat} {cs : Array Value} {et : TypeId} {fr : Nat × Nat} {u0 u1 u2 u3 : Value} (T : TyS P t 4 true) (hv : aget s c = some (.pointer (some ⟨b, o, none⟩))) (e : (aget h id, (cs.toList.drop o).take 4) = (some [(b, .cells cs et fr)], [u0, u1, u2, u3])) : RVs P w0 M s h [.cell c t] [.agg #[u0, u1, u2, u3]] := .cons (.cellN (us := [u0, u1, u2, u3]) T hv (Cells.box (q2 e).1 4 (q2 e).2)) .nil
theorem rC9 (id : Nat) {c b o : Nat} {cs : Array Value} {et : TypeId} {fr : Nat × Nat} {u0 u1 u2 u3 u4 u5 u6 u7 u8 : Value} (T : TyS P t 9 true) (hv : aget s c = some (.pointer (some ⟨b, o, none⟩))) (e : (aget h id, (cs.toList.drop o).take 9) = (some [(b, .cells cs et fr)], [u0, u1, u2, u3, u4, u5, u6, u7, u8])) : RVs P w0 M s h [.cell c t] [.agg #[u0, u1, u2, u3, u4, u5, u6, u7, u8]] := .cons (.cellN (us := [u0, u1, u2, u3, u4, u5, u6, u7, u8]) T hv (Cells.box (q2 e).1 9 (q2 e).2)) .nil
theorem rC11 (id : Nat) {c b o : Nat} {cs : Array Value} {et : TypeId} {fr : Nat × Nat} {u0 u1 u2 u3 u4 u5 u6 u7 u8 u9 u10 : Value} (T : TyS P t 11 true) (hv : aget s c = some (.pointer (some ⟨b, o, none⟩))) (e : (aget h id, (cs.toList.drop o).take 11) = (some [(b, .cells cs et fr)], [u0, u1, u2, u3, u4, u5, u6, u7, u8, u9, u10])) : RVs P w0 M s h [.cell c t] [.agg #[u0, u1, u2, u3, u4, u5, u6, u7, u8, u9, u10]] := .cons (.cellN (us := [u0, u1, u2, u3, u4, u5, u6, u7, u8, u9, u10]) T hv (Cells.box (q2 e).1 11 (q2 e).2)) .nil
theorem kr {fn : Func} {Post : Value → Hp → Prop} {rs : Array ResultVar} {vs : List Value} {h' : Hp} (hf : fn.results = rs) (hr : RVs P w0 M s h rs.toList vs) (js : List Nat) (hp : Post (rvOf vs) h') (hs : Sel h h' js := by (repeat (first | exact trivial | refine ⟨_, _, rfl, rfl, ?_⟩))) (hn : js.Nodup := by decide) : KW n w0 M (bodyPost P fn (Lv w0 M Post)) .ret s h := kw_ret hf hr h' js hs hn hp
theorem ke {fn : Func} {Post : Value → Hp → Prop} {rs : Array ResultVar} {vs : List Value} {h' : Hp} (hf : fn.results = rs) (hr : RVs P w0 M s h rs.toList vs) (js : List Nat) (hp : Post (rvOf vs) h') (hs : Sel h h' js := by (repeat (first | exact trivial | refine ⟨_, _, rfl, rfl, ?_⟩))) (hn : js.Nodup := by decide) : KW n w0 M (bodyPost P fn (Lv w0 M Post)) .normal s h := kw_end hf hr h' js hs hn hp
end
section
variable {P : Program} {n : Nat} {w0 : World} {M : List Nat} {Q : Exit → Act → World → Prop} {s : Slots} {h : Hp} {op : Op} {ty t t' : TypeId} {pos : String} {after : Array Edge} {d : Nat} {v : Value} {x y z : Operand} {c : Code} {ops : List Oper} {D : Dt} {E : Slots → Hp → Prop} {i : Nat} {is : List Ev} {pd : Pd} {dst : Option Nat} {gd : Option (Nat × Bool)}

theorem rdt {id : Nat} {s0 : Slots} {h0 : Hp} (hm : P.follows .mixedOrders = true) (is : List Ev) (D : Dt) (k : DW P n w0 M ops D (fun s h => KW n w0 M Q .normal s h) is [] s0 h0) (hc : dchk n ops is D (clo ops ops.length 0 []) = true := by kernel_rfl) : CW P n w0 M (.region id ops.toArray true) Q s0 h0 := rdt' hm is D _ k hc
theorem dn (k : KW n w0 M Q .normal s h) : DW P n w0 M ops D (fun s h => KW n w0 M Q .normal s h) [] pd s h := by unfold DW; exact k
theorem dk {U : Hp} {l : List Nat} {p : Prop} (hk : kys U l = true) (k : p) : kys U l = true ∧ p := ⟨hk, k⟩
theorem dw_det (e : (ops[i]?, memB i D.G) = (some ⟨some d, op, ty, pos, after, gd⟩, false)) (g : GOn ops.toArray s gd) (st : Stp P n w0 M op ty s (hsel h (gA [] D.T i)) v) (k : DW P n w0 M ops D E is pd ((d, v) :: s) h) : DW P n w0 M ops D E (.n i :: is) pd s h := by
  have e1 := (q2 e).1
  have ed : dsO ops i = some d := by unfold dsO; rw [e1]
  unfold DW
  rw [(q2 e).2, ed]
  refine ⟨v, [], fun a w h' ha hh hw => ?_, rfl, k⟩
  unfold wpOp
  rw [show ops.toArray[i]? = some ⟨some d, op, ty, pos, after, gd⟩ by simpa using e1, ed]
  simp only []
  rw [if_pos (GOn.wanted (o := ⟨some d, op, ty, pos, after, gd⟩) g ha)]
  refine .inl ?_
  unfold Oper.wp
  have h1 : (execOp a.eval ⟨some d, op, ty, pos, after, gd⟩).run P w = .ok (.value v) w := st a w ha (hw.subg hh)
  rw [h1, Oper.upon_value]
  exact ⟨v, ⟨[], ⟨.inr rfl, rfl⟩, hw⟩, rfl⟩
theorem dw_off (e : (ops[i]?, memB i D.G) = (some ⟨some d, op, ty, pos, after, gd⟩, false)) (g : GOff ops.toArray s gd) (k : DW P n w0 M ops D E is pd ((d, undef) :: s) h) : DW P n w0 M ops D E (.n i :: is) pd s h := by
  have e1 := (q2 e).1
  have ed : dsO ops i = some d := by unfold dsO; rw [e1]
  unfold DW
  rw [(q2 e).2, ed]
  refine ⟨undef, [], fun a w h' ha hh hw => ?_, rfl, k⟩
  unfold wpOp
  rw [show ops.toArray[i]? = some ⟨some d, op, ty, pos, after, gd⟩ by simpa using e1, ed]
  simp only []
  rw [if_neg (by rw [GOff.wanted (o := ⟨some d, op, ty, pos, after, gd⟩) g ha]; simp)]
  exact ⟨undef, ⟨[], ⟨.inr rfl, rfl⟩, hw⟩, rfl⟩
theorem loc_eff {Ψ : Value → Hp → Prop} {hv : Hp} (e1 : ops[i]? = some ⟨dst, op, ty, pos, after, gd⟩) (g : GOn ops.toArray s gd) (st : ∀ {h'}, Ext hv h' → StpU P n w0 M op ty s h' Ψ) : LocR P n w0 M ops i s hv Ψ := fun a w h' ha hh hw => by
  have ed : dsO ops i = dst := by unfold dsO; rw [e1]
  unfold wpOp
  rw [show ops.toArray[i]? = some ⟨dst, op, ty, pos, after, gd⟩ by simpa using e1, ed]
  simp only []
  rw [if_pos (GOn.wanted (o := ⟨dst, op, ty, pos, after, gd⟩) g ha)]
  refine .inl (oper_wp_false (st hh a w ha hw ⟨dst, op, ty, pos, after, gd⟩ rfl rfl) ?_)
  rintro a' w' ⟨v, U, hv, rfl, hs⟩
  exact ⟨v, ⟨U, hv, hs⟩, rfl⟩
theorem dw_eff {Ψ : Value → Hp → Prop} (e : (ops[i]?, memB i D.G) = (some ⟨some d, op, ty, pos, after, gd⟩, true)) (g : GOn ops.toArray s gd) (st : ∀ {h'}, Ext (hsel h (gA [] D.T i)) h' → StpU P n w0 M op ty s h' Ψ) (k : ∀ v U, Ψ v U → kys U (gA [] D.I i) = true ∧ DW P n w0 M ops D E is pd ((d, v) :: s) (U ++ h)) : DW P n w0 M ops D E (.n i :: is) pd s h := by
  have ed : dsO ops i = some d := by unfold dsO; rw [(q2 e).1]
  unfold DW
  rw [(q2 e).2, ed]
  exact ⟨Ψ, loc_eff (q2 e).1 g st, k⟩
theorem dw_eff0 {Ψ : Value → Hp → Prop} (e : (ops[i]?, memB i D.G) = (some ⟨none, op, ty, pos, after, gd⟩, true)) (g : GOn ops.toArray s gd) (st : ∀ {h'}, Ext (hsel h (gA [] D.T i)) h' → StpU P n w0 M op ty s h' Ψ) (k : ∀ v U, Ψ v U → kys U (gA [] D.I i) = true ∧ DW P n w0 M ops D E is pd s (U ++ h)) : DW P n w0 M ops D E (.n i :: is) pd s h := by
  have ed : dsO ops i = none := by unfold dsO; rw [(q2 e).1]
  unfold DW
  rw [(q2 e).2, ed]
  exact ⟨Ψ, loc_eff (q2 e).1 g st, k⟩
theorem loc_mono {Ψ Ψ' : Value → Hp → Prop} {hv : Hp} (h : LocR P n w0 M ops i s hv Ψ) (k : ∀ v U, Ψ v U → Ψ' v U) : LocR P n w0 M ops i s hv Ψ' := fun a w h' ha hh hw =>
  wpOp_false' (h a w h' ha hh hw) fun _ _ ⟨v, ⟨U, h1, h2⟩, h3⟩ => ⟨v, ⟨U, k v U h1, h2⟩, h3⟩
/-- a call whose value and whose changes are known ahead -/
theorem dw_val {r : Nat → Nat} {H0 : Hp} (e : (ops[i]?, memB i D.G) = (some ⟨some d, op, ty, pos, after, gd⟩, false)) (g : GOn ops.toArray s gd) (st : ∀ {h'}, Ext (hsel h (gA [] D.T i)) h' → StpU P n w0 M op ty s h' (fun v' U => ∃ h'', (v' = v ∧ h'' = H0) ∧ U = ren r h'')) (hk : kys (ren r H0) (gA [] D.I i) = true) (k : DW P n w0 M ops D E is pd ((d, v) :: s) (ren r H0 ++ h)) : DW P n w0 M ops D E (.n i :: is) pd s h := by
  have ed : dsO ops i = some d := by unfold dsO; rw [(q2 e).1]
  unfold DW
  rw [(q2 e).2, ed]
  exact ⟨v, ren r H0, loc_mono (loc_eff (q2 e).1 g st) (by rintro _ _ ⟨_, ⟨rfl, rfl⟩, rfl⟩; exact ⟨.inr rfl, rfl⟩), hk, k⟩
theorem dw_sto {U0 : Hp} (e : (ops[i]?, memB i D.G) = (some ⟨none, op, ty, pos, after, gd⟩, false)) (g : GOn ops.toArray s gd) (st : ∀ {h'}, Ext (hsel h (gA [] D.T i)) h' → StpU P n w0 M op ty s h' (fun _ U => U = U0)) (hk : kys U0 (gA [] D.I i) = true) (k : DW P n w0 M ops D E is pd s (U0 ++ h)) : DW P n w0 M ops D E (.n i :: is) pd s h := by
  have ed : dsO ops i = none := by unfold dsO; rw [(q2 e).1]
  unfold DW
  rw [(q2 e).2, ed]
  exact ⟨undef, U0, loc_mono (loc_eff (q2 e).1 g st) (fun _ _ e => ⟨.inl rfl, e⟩), hk, k⟩

theorem LocR.ext {s' : Slots} {hv hv' : Hp} {Ψ : Value → Hp → Prop} (hs : Ext s s') (hh : Ext hv hv') (h : LocR P n w0 M ops i s hv Ψ) : LocR P n w0 M ops i s' hv' Ψ := fun a w h' ha hh' hw =>
  h a w h' ⟨ha.size, ha.defers, fun j v hj => ha.val j v (hs j v hj)⟩ (fun j v hj => hh' j v (hh j v hj)) hw
theorem DW.ext (hE : ∀ {s s' : Slots} {h h' : Hp}, Ext s s' → Ext h h' → E s h → E s' h') : ∀ {is : List Ev} {pd : Pd} {s s' : Slots} {h h' : Hp}, Ext s s' → Ext h h' → DW P n w0 M ops D E is pd s h → DW P n w0 M ops D E is pd s' h'
  | [], _, _, _, _, _, hs, hh, h => by unfold DW at h ⊢; exact hE hs hh h
  | .n i :: is, pd, s, s', h, h', hs, hh, k => by
    have ev : Ext (hsel h (gA [] D.T i)) (hsel h' (gA [] D.T i)) := hsel_ext fun x _ C hx => hh x C hx
    unfold DW at k ⊢
    cases hG : memB i D.G with
    | true =>
      rw [hG] at k
      obtain ⟨Ψ, k1, k2⟩ := k
      exact ⟨Ψ, k1.ext hs ev, fun v U hv => ⟨(k2 v U hv).1, DW.ext hE (hs.app _) (hh.app _) (k2 v U hv).2⟩⟩
    | false =>
      rw [hG] at k
      obtain ⟨v, U, k1, k2, k3⟩ := k
      exact ⟨v, U, k1.ext hs ev, k2, DW.ext hE (hs.app _) (hh.app _) k3⟩
  | .d i :: is, pd, s, s', h, h', hs, hh, k => by
    unfold DW at k ⊢
    obtain ⟨Ψ, k1, k2, k3⟩ := k
    exact ⟨Ψ, k1.ext hs (hsel_ext fun x _ C hx => hh x C hx), k2, DW.ext hE hs hh k3⟩
  | .o i :: is, pd, s, s', h, h', hs, hh, k => by
    unfold DW at k ⊢
    obtain ⟨Ψ, k1, k2⟩ := k
    exact ⟨Ψ, k1, fun v U hv => DW.ext hE (hs.app _) (hh.app _) (k2 v U hv)⟩
def Ev.now : Ev → Bool
  | .n _ => true
  | _ => false
theorem DW.cut {E1 : Slots → Hp → Prop} (hk : ∀ s h, E1 s h → DW P n w0 M ops D E is pd s h) : ∀ {l : List Ev} {s : Slots} {h : Hp}, l.all Ev.now = true → DW P n w0 M ops D E1 l pd s h → DW P n w0 M ops D E (l ++ is) pd s h
  | [], s, h, _, k => hk s h (by unfold DW at k; exact k)
  | .n i :: l, s, h, ha, k => by
    simp only [List.all_cons, Bool.and_eq_true] at ha
    rw [List.cons_append]
    unfold DW at k ⊢
    cases hG : memB i D.G with
    | true =>
      rw [hG] at k
      obtain ⟨Ψ, k1, k2⟩ := k
      exact ⟨Ψ, k1, fun v U hv => ⟨(k2 v U hv).1, DW.cut hk ha.2 (k2 v U hv).2⟩⟩
    | false =>
      rw [hG] at k
      obtain ⟨v, U, k1, k2, k3⟩ := k
      exact ⟨v, U, k1, k2, DW.cut hk ha.2 k3⟩
  | .d i :: l, s, h, ha, k => by cases ha
  | .o i :: l, s, h, ha, k => by cases ha
def JE (s0 : Slots) (h0 : Hp) (s : Slots) (h : Hp) : Prop := Ext s0 s ∧ Ext h0 h
theorem dcut {E : Slots → Hp → Prop} (hE : ∀ {s s' : Slots} {h h' : Hp}, Ext s s' → Ext h h' → E s h → E s' h') (m d : Nat) (y : Bool) (k1 : DW P n w0 M ops D (JE ((d, .bool y) :: s) h) (is.take m) pd s h) (k2 : DW P n w0 M ops D E (is.drop m) pd ((d, .bool y) :: s) h) (ha : (is.take m).all Ev.now = true) : DW P n w0 M ops D E is pd s h := by
  rw [← List.take_append_drop m is]
  exact DW.cut (fun s' h' hj => DW.ext hE hj.1 hj.2 k2) ha k1
theorem dcY (m d : Nat) (y : Bool) (k1 : DW P n w0 M ops D (JE ((d, .bool y) :: s) h) (is.take m) pd s h) (k2 : DW P n w0 M ops D (fun s h => KW n w0 M Q .normal s h) (is.drop m) pd ((d, .bool y) :: s) h) (ha : (is.take m).all Ev.now = true := by rfl) : DW P n w0 M ops D (fun s h => KW n w0 M Q .normal s h) is pd s h :=
  dcut (fun hs hh k a w ha hw => k a w ⟨ha.size, ha.defers, fun j v hj => ha.val j v (hs j v hj)⟩ (hw.subg hh)) m d y k1 k2 ha
theorem dcJ {s0 : Slots} {h0 : Hp} (m d : Nat) (y : Bool) (k1 : DW P n w0 M ops D (JE ((d, .bool y) :: s) h) (is.take m) pd s h) (k2 : DW P n w0 M ops D (JE s0 h0) (is.drop m) pd ((d, .bool y) :: s) h) (ha : (is.take m).all Ev.now = true := by rfl) : DW P n w0 M ops D (JE s0 h0) is pd s h :=
  dcut (fun hs hh k => ⟨fun j v hj => hs j v (k.1 j v hj), fun j v hj => hh j v (k.2 j v hj)⟩) m d y k1 k2 ha
theorem dy (k m : Nat) {d : Nat} {y : Bool} {s' : Slots} {h' : Hp} (hv : aget s' d = some (.bool y) := by rfl) (hs : s'.drop k = s := by rfl) (hn : (s'.take k).all (fun p => (aget s p.1).isNone) = true := by rfl) (hh : h'.drop m = h := by rfl) (hm : (h'.take m).all (fun p => (aget h p.1).isNone) = true := by rfl) :
    DW P n w0 M ops D (JE ((d, .bool y) :: s) h) [] pd s' h' := by
  have g : ∀ {α : Type} (a b : List (Nat × α)) (k : Nat), a.drop k = b → (a.take k).all (fun p => (aget b p.1).isNone) = true → Ext b a := by
    intro α a b k e q
    rw [← List.take_append_drop k a, e]
    generalize a.take k = l at q
    induction l with
    | nil => exact Ext.refl _
    | cons p l ih =>
      obtain ⟨i, u⟩ := p
      simp only [List.all_cons, Bool.and_eq_true] at q
      exact Ext.cons (by simpa using q.1) (ih q.2)
  unfold DW
  exact ⟨.top hv (g _ _ k hs hn), g _ _ m hh hm⟩

abbrev SL {α : Type} [Enc α] (e : TypeId) (l : List α) (k : Option Addr → Nat → Nat → Res → Prop) : Prop := ∃ p n c C, n = l.length ∧ OwnC e p c l C ∧ k p n c C
abbrev DL {α : Type} [Enc α] (e : TypeId) (p : Option Addr) (n c : Nat) (l : List α) (k : Res → Prop) : Prop := ∃ C, n = l.length ∧ OwnC e p c l C ∧ k C
theorem sl {α : Type} [Enc α] {e : TypeId} {l : List α} {k : Option Addr → Nat → Nat → Res → Prop} {p : Option Addr} {n c : Nat} {C : Res} (hn : n = l.length) (ho : OwnC e p c l C) (h : k p n c C) : SL e l k := ⟨p, n, c, C, hn, ho, h⟩
theorem dl {α : Type} [Enc α] {e : TypeId} {l : List α} {k : Res → Prop} {p : Option Addr} {n c : Nat} {C : Res} (hn : n = l.length) (ho : OwnC e p c l C) (h : k C) : DL e p n c l k := ⟨C, hn, ho, h⟩
def LJ (n : Nat) (w0 : World) (M : List Nat) (Q : Exit → Act → World → Prop) {τ : Type} (Lp : Nat → τ) (J : τ → Slots → Hp → Prop) (f : Nat) : Exit → Act → World → Prop
  | .normal, a, w => ∃ f' s h, f' < f ∧ J (Lp f') s h ∧ Has n a s ∧ Sat w0 M w h
  | e, a, w => Q e a w
def LX (n : Nat) (w0 : World) (M : List Nat) (Q : Exit → Act → World → Prop) {τ : Type} (Op : τ) (J : τ → Slots → Hp → Prop) : Exit → Act → World → Prop
  | .normal, a, w => ∃ s h, J Op s h ∧ Has n a s ∧ Sat w0 M w h
  | e, a, w => Q e a w
section
variable {τ : Type} {Lp : Nat → τ} {Op : τ} {J : τ → Slots → Hp → Prop} {f : Nat} {s' : Slots} {h' : Hp} {id : Nat}
theorem lp0 {c : Code} (Lp : Nat → τ) (Op : τ) (J : τ → Slots → Hp → Prop) (j : J (Lp f) s' h') (k : ∀ f s h, J (Lp f) s h → CW P n w0 M c (LJ n w0 M (Exit.inBlock id (LX n w0 M Q Op J)) Lp J f) s h)
    (kx : ∀ s h, J Op s h → KW n w0 M Q .normal s h) (ha : ∀ a, Has n a s → Has n a s') (hw : ∀ w, Sat w0 M w h → Sat w0 M w h') : CW P n w0 M (.block id (.loop c)) Q s h := by
  refine cw_join (ι := {x : Slots × Hp // J Op x.1 x.2}) (fun _ => True) (fun x => x.1.1) (fun x => x.1.2) (cw_block ?_) (fun x _ => kx _ _ x.2)
  intro a w haa hww
  have := cw_loop (P := P) (n := n) (w0 := w0) (M := M) (c := c) (Q := Exit.inBlock id (LX n w0 M Q Op J)) (ι := {x : Nat × Slots × Hp // J (Lp x.1) x.2.1 x.2.2}) (fun x => x.1.1) (fun _ => True) (fun x => x.1.2.1) (fun x => x.1.2.2) ⟨(f, s', h'), j⟩ trivial (fun x _ a w ha hw =>
    wp_mono (k x.1.1 x.1.2.1 x.1.2.2 x.2 a w ha hw) fun e a' w' hq => by
      cases e with
      | normal => obtain ⟨f', s1, h1, hf, hj, q1, q2⟩ := hq; exact ⟨⟨(f', s1, h1), hj⟩, trivial, hf, q1, q2⟩
      | _ => exact hq) a w (ha a haa) (hw w hww)
  refine wp_mono this fun e a' w' hq => ?_
  have conv : ∀ e a w, LX n w0 M Q Op J e a w → JQ n w0 M Q (fun _ : {x : Slots × Hp // J Op x.1 x.2} => True) (fun x => x.1.1) (fun x => x.1.2) e a w := fun e a w hq => by
    cases e with
    | normal => obtain ⟨s1, h1, hj, q1, q2⟩ := hq; exact ⟨⟨(s1, h1), hj⟩, trivial, q1, q2⟩
    | _ => exact hq
  cases e with
  | exit id' =>
    simp only [Exit.inBlock] at hq ⊢
    split
    · rename_i c; rw [if_pos c] at hq; exact conv _ _ _ hq
    · rename_i c; rw [if_neg c] at hq; exact hq
  | normal => exact conv .normal _ _ hq
  | _ => exact hq
theorem lp {c : Code} (Lp : Nat → τ) (Op : τ) (J : τ → Slots → Hp → Prop) (j : J (Lp f) s' h') (k : ∀ f s h, J (Lp f) s h → CW P n w0 M c (LJ n w0 M (Exit.inBlock id (LX n w0 M Q Op J)) Lp J f) s h)
    (kx : ∀ s h, J Op s h → KW n w0 M Q .normal s h) (hs : SubS s' s := by (repeat (first | exact trivial | refine ⟨rfl, ?_⟩))) (hh : SubH h' h := by (repeat (first | exact trivial | refine ⟨rfl, ?_⟩))) : CW P n w0 M (.block id (.loop c)) Q s h := lp0 Lp Op J j k kx (fun _ ha => ha.sub hs) (fun _ hw => hw.sub hh)
theorem lpS {c : Code} (Lp : Nat → τ) (Op : τ) (J : τ → Slots → Hp → Prop) (js : List Nat) (j : J (Lp f) s' h') (k : ∀ f s h, J (Lp f) s h → CW P n w0 M c (LJ n w0 M (Exit.inBlock id (LX n w0 M Q Op J)) Lp J f) s h)
    (kx : ∀ s h, J Op s h → KW n w0 M Q .normal s h) (hs : SubS s' s := by (repeat (first | exact trivial | refine ⟨rfl, ?_⟩))) (hh : Sel h h' js := by (repeat (first | exact trivial | refine ⟨_, _, rfl, rfl, ?_⟩))) (hn : js.Nodup := by decide) : CW P n w0 M (.block id (.loop c)) Q s h := lp0 Lp Op J j k kx (fun _ ha => ha.sub hs) (fun _ hw => hw.sel hh hn)
theorem ka (j : J (Lp f) s' h') (hs : SubS s' s := by (repeat (first | exact trivial | refine ⟨rfl, ?_⟩))) (hh : SubH h' h := by (repeat (first | exact trivial | refine ⟨rfl, ?_⟩))) : KW n w0 M (LJ n w0 M Q Lp J (f + 1)) .normal s h := fun _ _ ha hw => ⟨f, s', h', Nat.lt_succ_self f, j, ha.sub hs, hw.sub hh⟩
theorem kaS (js : List Nat) (j : J (Lp f) s' h') (hs : SubS s' s := by (repeat (first | exact trivial | refine ⟨rfl, ?_⟩))) (hh : Sel h h' js := by (repeat (first | exact trivial | refine ⟨_, _, rfl, rfl, ?_⟩))) (hn : js.Nodup := by decide) : KW n w0 M (LJ n w0 M Q Lp J (f + 1)) .normal s h := fun _ _ ha hw => ⟨f, s', h', Nat.lt_succ_self f, j, ha.sub hs, hw.sel hh hn⟩
theorem kx (j : J Op s' h') (hs : SubS s' s := by (repeat (first | exact trivial | refine ⟨rfl, ?_⟩))) (hh : SubH h' h := by (repeat (first | exact trivial | refine ⟨rfl, ?_⟩))) : KW n w0 M (LX n w0 M Q Op J) .normal s h := fun _ _ ha hw => ⟨s', h', j, ha.sub hs, hw.sub hh⟩
theorem ar (k : KW n w0 M Q .ret s h) : KW n w0 M (LJ n w0 M Q Lp J f) .ret s h := k
theorem ax (k : KW n w0 M Q (.exit id) s h) : KW n w0 M (LJ n w0 M Q Lp J f) (.exit id) s h := k
theorem xr (k : KW n w0 M Q .ret s h) : KW n w0 M (LX n w0 M Q Op J) .ret s h := k
end

theorem dD (e : (ops[i]?, memB i D.G) = (some ⟨some d, op, ty, pos, after, none⟩, false)) (st : Stp P n w0 M op ty s (hsel h (gA [] D.T i)) v) (k : DW P n w0 M ops D E is pd ((d, v) :: s) h) : DW P n w0 M ops D E (.n i :: is) pd s h := dw_det e .none st k
theorem dE {Ψ : Value → Hp → Prop} (e : (ops[i]?, memB i D.G) = (some ⟨some d, op, ty, pos, after, none⟩, true)) (st : ∀ {h'}, Ext (hsel h (gA [] D.T i)) h' → StpU P n w0 M op ty s h' Ψ) (k : ∀ v U, Ψ v U → kys U (gA [] D.I i) = true ∧ DW P n w0 M ops D E is pd ((d, v) :: s) (U ++ h)) : DW P n w0 M ops D E (.n i :: is) pd s h := dw_eff e .none st k
theorem dF {Ψ : Value → Hp → Prop} (e : (ops[i]?, memB i D.G) = (some ⟨none, op, ty, pos, after, none⟩, true)) (st : ∀ {h'}, Ext (hsel h (gA [] D.T i)) h' → StpU P n w0 M op ty s h' Ψ) (k : ∀ v U, Ψ v U → kys U (gA [] D.I i) = true ∧ DW P n w0 M ops D E is pd s (U ++ h)) : DW P n w0 M ops D E (.n i :: is) pd s h := dw_eff0 e .none st k
theorem dV {r : Nat → Nat} {H0 : Hp} (e : (ops[i]?, memB i D.G) = (some ⟨some d, op, ty, pos, after, none⟩, false)) (st : ∀ {h'}, Ext (hsel h (gA [] D.T i)) h' → StpU P n w0 M op ty s h' (fun v' U => ∃ h'', (v' = v ∧ h'' = H0) ∧ U = ren r h'')) (hk : kys (ren r H0) (gA [] D.I i) = true) (k : DW P n w0 M ops D E is pd ((d, v) :: s) (ren r H0 ++ h)) : DW P n w0 M ops D E (.n i :: is) pd s h := dw_val e .none st hk k
theorem dU {U0 : Hp} (e : (ops[i]?, memB i D.G) = (some ⟨none, op, ty, pos, after, none⟩, false)) (st : ∀ {h'}, Ext (hsel h (gA [] D.T i)) h' → StpU P n w0 M op ty s h' (fun _ U => U = U0)) (hk : kys U0 (gA [] D.I i) = true) (k : DW P n w0 M ops D E is pd s (U0 ++ h)) : DW P n w0 M ops D E (.n i :: is) pd s h := dw_sto e .none st hk k
theorem dG {j : Nat} {want b : Bool} (e : ((ops[i]?, memB i D.G), gval ops.toArray s j) = ((some ⟨some d, op, ty, pos, after, some (j, want)⟩, false), some b)) (he : b = want) (st : Stp P n w0 M op ty s (hsel h (gA [] D.T i)) v) (k : DW P n w0 M ops D E is pd ((d, v) :: s) h) : DW P n w0 M ops D E (.n i :: is) pd s h := dw_det (q2 e).1 (.some (q2 e).2 he) st k
theorem dVg {r : Nat → Nat} {H0 : Hp} {j : Nat} {want b : Bool} (e : ((ops[i]?, memB i D.G), gval ops.toArray s j) = ((some ⟨some d, op, ty, pos, after, some (j, want)⟩, false), some b)) (he : b = want) (st : ∀ {h'}, Ext (hsel h (gA [] D.T i)) h' → StpU P n w0 M op ty s h' (fun v' U => ∃ h'', (v' = v ∧ h'' = H0) ∧ U = ren r h'')) (hk : kys (ren r H0) (gA [] D.I i) = true) (k : DW P n w0 M ops D E is pd ((d, v) :: s) (ren r H0 ++ h)) : DW P n w0 M ops D E (.n i :: is) pd s h := dw_val (q2 e).1 (.some (q2 e).2 he) st hk k
theorem dO {j : Nat} {want b : Bool} (e : ((ops[i]?, memB i D.G), gval ops.toArray s j) = ((some ⟨some d, op, ty, pos, after, some (j, want)⟩, false), some b)) (he : b = !want) (k : DW P n w0 M ops D E is pd ((d, undef) :: s) h) : DW P n w0 M ops D E (.n i :: is) pd s h := dw_off (q2 e).1 (.some (q2 e).2 he) k
theorem dX {j d' : Nat} {want : Bool} (e : ((ops[i]?, memB i D.G), (ops.toArray[j]?).bind (·.dst), aget s d') = ((some ⟨some d, op, ty, pos, after, some (j, want)⟩, false), some d', some undef)) (k : DW P n w0 M ops D E is pd ((d, undef) :: s) h) : DW P n w0 M ops D E (.n i :: is) pd s h := dw_off (q3 e).1 (.dead (q3 e).2.1 (q3 e).2.2) k
/-- what it does is said, what it brings is met later -/
theorem dq {Ψ : Value → Hp → Prop} (e : ops[i]? = some ⟨dst, op, ty, pos, after, none⟩) (st : ∀ {h'}, Ext (hsel h (gA [] D.T i)) h' → StpU P n w0 M op ty s h' Ψ) (hk : ∀ v U, Ψ v U → kys U (gA [] D.I i) = true) (k : DW P n w0 M ops D E is ((i, Ψ) :: pd) s h) : DW P n w0 M ops D E (.d i :: is) pd s h := by
  unfold DW
  exact ⟨Ψ, loc_eff e .none st, hk, k⟩
theorem dp {Ψ : Value → Hp → Prop} (e : (aget pd i, dsO ops i) = (some Ψ, some d)) (k : ∀ v U, Ψ v U → DW P n w0 M ops D E is pd ((d, v) :: s) (U ++ h)) : DW P n w0 M ops D E (.o i :: is) pd s h := by
  unfold DW
  rw [(q2 e).2]
  exact ⟨Ψ, (q2 e).1, k⟩
theorem dM (e : ((ops[i]?, memB i D.G), sev s x) = ((some ⟨some d, .move x, ty, pos, after, none⟩, false), some v)) (k : DW P n w0 M ops D E is pd ((d, v) :: s) h) : DW P n w0 M ops D E (.n i :: is) pd s h := dD (q2 e).1 (mv (q2 e).2) k
theorem dS (e : ((ops[i]?, memB i D.G), sev s x) = ((some ⟨some d, .assign x, ty, pos, after, none⟩, false), some v)) (k : DW P n w0 M ops D E is pd ((d, v) :: s) h) : DW P n w0 M ops D E (.n i :: is) pd s h := dD (q2 e).1 (sg (q2 e).2) k
theorem dT {vs : Array Value} {j : Nat} (e : ((ops[i]?, memB i D.G), sev s x, vs[j]?) = ((some ⟨some d, .extract x j, ty, pos, after, none⟩, false), some (.tuple vs), some v)) (k : DW P n w0 M ops D E is pd ((d, v) :: s) h) : DW P n w0 M ops D E (.n i :: is) pd s h := dD (q3 e).1 (stp_extract (q3 e).2.1 (q3 e).2.2) k
theorem dZ {b o : Nat} (e : ((ops[i]?, memB i D.G), sev s x) = ((some ⟨some d, .nilCheck x, ty, pos, after, none⟩, false), some (.pointer (some ⟨b, o, none⟩)))) (k : DW P n w0 M ops D E is pd ((d, .pointer (some ⟨b, o, none⟩)) :: s) h) : DW P n w0 M ops D E (.n i :: is) pd s h := dD (q2 e).1 (stp_nilCheck (q2 e).2) k
theorem dK {b : Bool} (e : ((ops[i]?, memB i D.G), sev s x) = ((some ⟨some d, .unOp .not t x, ty, pos, after, none⟩, false), some (.bool b))) (k : DW P n w0 M ops D E is pd ((d, .bool !b) :: s) h) : DW P n w0 M ops D E (.n i :: is) pd s h := dD (q2 e).1 (stp_not (q2 e).2) k
section
variable {kk : IntKind} {p q : Int}
theorem dQ (e : ((ops[i]?, memB i D.G), sev s x, sev s y) = ((some ⟨some d, .binOp .eql t x y t', ty, pos, after, none⟩, false), some (.int kk p), some (.int kk q))) (k : DW P n w0 M ops D E is pd ((d, .bool (p == q)) :: s) h) : DW P n w0 M ops D E (.n i :: is) pd s h := dD (q3 e).1 (stp_eql (q3 e).2.1 (q3 e).2.2) k
theorem dNe (e : ((ops[i]?, memB i D.G), sev s x, sev s y) = ((some ⟨some d, .binOp .neq t x y t', ty, pos, after, none⟩, false), some (.int kk p), some (.int kk q))) (k : DW P n w0 M ops D E is pd ((d, .bool (p != q)) :: s) h) : DW P n w0 M ops D E (.n i :: is) pd s h := dD (q3 e).1 (stp_neq (q3 e).2.1 (q3 e).2.2) k
theorem dW (e : ((ops[i]?, memB i D.G), sev s x, sev s y) = ((some ⟨some d, .binOp .lss t x y t', ty, pos, after, none⟩, false), some (.int kk p), some (.int kk q))) (k : DW P n w0 M ops D E is pd ((d, .bool (decide (p < q))) :: s) h) : DW P n w0 M ops D E (.n i :: is) pd s h := dD (q3 e).1 (stp_lss (q3 e).2.1 (q3 e).2.2) k
theorem dI (e : ((ops[i]?, memB i D.G), sev s x, sev s y) = ((some ⟨some d, .binOp .geq t x y t', ty, pos, after, none⟩, false), some (.int kk p), some (.int kk q))) (k : DW P n w0 M ops D E is pd ((d, .bool (decide (q ≤ p))) :: s) h) : DW P n w0 M ops D E (.n i :: is) pd s h := dD (q3 e).1 (stp_geq (q3 e).2.1 (q3 e).2.2) k
theorem dP {r : Int} (hr : ck (p + q) = some r) (e : ((ops[i]?, memB i D.G), sev s x, sev s y) = ((some ⟨some d, .binOp .add t x y t', ty, pos, after, none⟩, false), some (.int .i64 p), some (.int .i64 q))) (k : DW P n w0 M ops D E is pd ((d, .int .i64 r) :: s) h) : DW P n w0 M ops D E (.n i :: is) pd s h := dD (q3 e).1 (stp_add (q3 e).2.1 (q3 e).2.2 hr) k
end
theorem dA (j : Nat) {b o : Nat} {fs : Array Field} {f : Field} {m kz : Nat} {agg : Bool} (e0 : (ops[i]?, memB i D.G) = (some ⟨some d, .fieldAddr t x m, ty, pos, after, none⟩, false)) (hu : P.underlying t = some (.struct fs)) (hf : fs[m]? = some f) (T : TyS P f.type kz agg) (e : (Nat.beq kz 0, sev s x, f.offset) = (false, some (.pointer (some ⟨b, o, none⟩)), j)) (k : DW P n w0 M ops D E is pd ((d, .pointer (some ⟨b, o + j, none⟩)) :: s) h) :
    DW P n w0 M ops D E (.n i :: is) pd s h := dD e0 (fA j hu hf T (q3 e).1 (q3 e).2.1 (q3 e).2.2) k
theorem dL (id : Nat) {b o : Nat} {cs : Array Value} {et : TypeId} {fr : Nat × Nat} {u : Value} (T : TyS P t 1 false) (e : ((ops[i]?, memB i D.G), sev s x, aget (hsel h (gA [] D.T i)) id, (cs.toList.drop o).take 1) = ((some ⟨some d, .load t x, ty, pos, after, none⟩, false), some (.pointer (some ⟨b, o, none⟩)), some [(b, .cells cs et fr)], [u])) (k : DW P n w0 M ops D E is pd ((d, u) :: s) h) :
    DW P n w0 M ops D E (.n i :: is) pd s h := dD (q4 e).1 (lB id T (q4 e).2.1 (q4 e).2.2.1 (q4 e).2.2.2) k
theorem dBo (id : Nat) {m b o : Nat} {cs : Array Value} {et : TypeId} {fr : Nat × Nat} {us : List Value} (T : TyS P t us.length true) (hm : us.length = m) (e : ((ops[i]?, memB i D.G), sev s x, aget (hsel h (gA [] D.T i)) id, (cs.toList.drop o).take m) = ((some ⟨some d, .load t x, ty, pos, after, none⟩, false), some (.pointer (some ⟨b, o, none⟩)), some [(b, .cells cs et fr)], us)) (k : DW P n w0 M ops D E is pd ((d, .agg us.toArray) :: s) h) :
    DW P n w0 M ops D E (.n i :: is) pd s h := dD (q4 e).1 (stp_loadN T (q4 e).2.1 (Cells.box (q4 e).2.2.1 m (q4 e).2.2.2)) k
theorem dCo (id : Nat) {kz b o : Nat} {cs : Array Value} {et : TypeId} {u : Value} {agg : Bool} {us : List Value} (T : TyS P t kz agg) (e0 : (ops[i]?, memB i D.G) = (some ⟨none, .store t x y, ty, pos, after, none⟩, false)) (e : (sev s x, sev s y, aget (hsel h (gA [] D.T i)) id, u.cells.size, Nat.ble (o + kz) cs.size, u.cells.toList.all (·.oneCell')) = (some (.pointer (some ⟨b, o, none⟩)), some u, some [(b, .cells cs et (0, 0))], kz, true, true)) (hcs : (splice cs.toList o u.cells.toList, memB id (gA [] D.I i)) = (us, true))
    (k : DW P n w0 M ops D E is pd s ((id, [(b, .cells us.toArray et (0, 0))]) :: h)) : DW P n w0 M ops D E (.n i :: is) pd s h :=
  dU e0 (fun hh => stpU_store (id := id) T (q6 e).1 (q6 e).2.1 (hh _ _ (q6 e).2.2.1) (q6 e).2.2.2.1 (q6 e).2.2.2.2.1 (q6 e).2.2.2.2.2 (q2 hcs).1) (by simp [kys, (q2 hcs).2]) k
theorem dB2 (id : Nat) {b o : Nat} {cs : Array Value} {et : TypeId} {fr : Nat × Nat} {u0 u1 : Value} (T : TyS P t 2 true) (e : ((ops[i]?, memB i D.G), sev s x, aget (hsel h (gA [] D.T i)) id, (cs.toList.drop o).take 2) = ((some ⟨some d, .load t x, ty, pos, after, none⟩, false), some (.pointer (some ⟨b, o, none⟩)), some [(b, .cells cs et fr)], [u0, u1])) (k : DW P n w0 M ops D E is pd ((d, .agg #[u0, u1]) :: s) h) : DW P n w0 M ops D E (.n i :: is) pd s h := dBo id (us := [u0, u1]) T rfl e k
theorem dB4 (id : Nat) {b o : Nat} {cs : Array Value} {et : TypeId} {fr : Nat × Nat} {u0 u1 u2 u3 : Value} (T : TyS P t 4 true) (e : ((ops[i]?, memB i D.G), sev s x, aget (hsel h (gA [] D.T i)) id, (cs.toList.drop o).take 4) = ((some ⟨some d, .load t x, ty, pos, after, none⟩, false), some (.pointer (some ⟨b, o, none⟩)), some [(b, .cells cs et fr)], [u0, u1, u2, u3])) (k : DW P n w0 M ops D E is pd ((d, .agg #[u0, u1, u2, u3]) :: s) h) : DW P n w0 M ops D E (.n i :: is) pd s h := dBo id (us := [u0, u1, u2, u3]) T rfl e k
theorem dB9 (id : Nat) {b o : Nat} {cs : Array Value} {et : TypeId} {fr : Nat × Nat} {u0 u1 u2 u3 u4 u5 u6 u7 u8 : Value} (T : TyS P t 9 true) (e : ((ops[i]?, memB i D.G), sev s x, aget (hsel h (gA [] D.T i)) id, (cs.toList.drop o).take 9) = ((some ⟨some d, .load t x, ty, pos, after, none⟩, false), some (.pointer (some ⟨b, o, none⟩)), some [(b, .cells cs et fr)], [u0, u1, u2, u3, u4, u5, u6, u7, u8])) (k : DW P n w0 M ops D E is pd ((d, .agg #[u0, u1, u2, u3, u4, u5, u6, u7, u8]) :: s) h) : DW P n w0 M ops D E (.n i :: is) pd s h := dBo id (us := [u0, u1, u2, u3, u4, u5, u6, u7, u8]) T rfl e k
theorem dB11 (id : Nat) {b o : Nat} {cs : Array Value} {et : TypeId} {fr : Nat × Nat} {u0 u1 u2 u3 u4 u5 u6 u7 u8 u9 u10 : Value} (T : TyS P t 11 true) (e : ((ops[i]?, memB i D.G), sev s x, aget (hsel h (gA [] D.T i)) id, (cs.toList.drop o).take 11) = ((some ⟨some d, .load t x, ty, pos, after, none⟩, false), some (.pointer (some ⟨b, o, none⟩)), some [(b, .cells cs et fr)], [u0, u1, u2, u3, u4, u5, u6, u7, u8, u9, u10])) (k : DW P n w0 M ops D E is pd ((d, .agg #[u0, u1, u2, u3, u4, u5, u6, u7, u8, u9, u10]) :: s) h) : DW P n w0 M ops D E (.n i :: is) pd s h := dBo id (us := [u0, u1, u2, u3, u4, u5, u6, u7, u8, u9, u10]) T rfl e k
theorem dC2 (id : Nat) {kz b o : Nat} {cs : Array Value} {et : TypeId} {u : Value} {agg : Bool} {u0 u1 : Value} (T : TyS P t kz agg) (e0 : (ops[i]?, memB i D.G) = (some ⟨none, .store t x y, ty, pos, after, none⟩, false)) (e : (sev s x, sev s y, aget (hsel h (gA [] D.T i)) id, u.cells.size, Nat.ble (o + kz) cs.size, u.cells.toList.all (·.oneCell')) = (some (.pointer (some ⟨b, o, none⟩)), some u, some [(b, .cells cs et (0, 0))], kz, true, true)) (hcs : (splice cs.toList o u.cells.toList, memB id (gA [] D.I i)) = ([u0, u1], true)) (k : DW P n w0 M ops D E is pd s ((id, [(b, .cells #[u0, u1] et (0, 0))]) :: h)) : DW P n w0 M ops D E (.n i :: is) pd s h := dCo id T e0 e hcs k
theorem dC4 (id : Nat) {kz b o : Nat} {cs : Array Value} {et : TypeId} {u : Value} {agg : Bool} {u0 u1 u2 u3 : Value} (T : TyS P t kz agg) (e0 : (ops[i]?, memB i D.G) = (some ⟨none, .store t x y, ty, pos, after, none⟩, false)) (e : (sev s x, sev s y, aget (hsel h (gA [] D.T i)) id, u.cells.size, Nat.ble (o + kz) cs.size, u.cells.toList.all (·.oneCell')) = (some (.pointer (some ⟨b, o, none⟩)), some u, some [(b, .cells cs et (0, 0))], kz, true, true)) (hcs : (splice cs.toList o u.cells.toList, memB id (gA [] D.I i)) = ([u0, u1, u2, u3], true)) (k : DW P n w0 M ops D E is pd s ((id, [(b, .cells #[u0, u1, u2, u3] et (0, 0))]) :: h)) : DW P n w0 M ops D E (.n i :: is) pd s h := dCo id T e0 e hcs k
theorem dC9 (id : Nat) {kz b o : Nat} {cs : Array Value} {et : TypeId} {u : Value} {agg : Bool} {u0 u1 u2 u3 u4 u5 u6 u7 u8 : Value} (T : TyS P t kz agg) (e0 : (ops[i]?, memB i D.G) = (some ⟨none, .store t x y, ty, pos, after, none⟩, false)) (e : (sev s x, sev s y, aget (hsel h (gA [] D.T i)) id, u.cells.size, Nat.ble (o + kz) cs.size, u.cells.toList.all (·.oneCell')) = (some (.pointer (some ⟨b, o, none⟩)), some u, some [(b, .cells cs et (0, 0))], kz, true, true)) (hcs : (splice cs.toList o u.cells.toList, memB id (gA [] D.I i)) = ([u0, u1, u2, u3, u4, u5, u6, u7, u8], true)) (k : DW P n w0 M ops D E is pd s ((id, [(b, .cells #[u0, u1, u2, u3, u4, u5, u6, u7, u8] et (0, 0))]) :: h)) : DW P n w0 M ops D E (.n i :: is) pd s h := dCo id T e0 e hcs k
theorem dC11 (id : Nat) {kz b o : Nat} {cs : Array Value} {et : TypeId} {u : Value} {agg : Bool} {u0 u1 u2 u3 u4 u5 u6 u7 u8 u9 u10 : Value} (T : TyS P t kz agg) (e0 : (ops[i]?, memB i D.G) = (some ⟨none, .store t x y, ty, pos, after, none⟩, false)) (e : (sev s x, sev s y, aget (hsel h (gA [] D.T i)) id, u.cells.size, Nat.ble (o + kz) cs.size, u.cells.toList.all (·.oneCell')) = (some (.pointer (some ⟨b, o, none⟩)), some u, some [(b, .cells cs et (0, 0))], kz, true, true)) (hcs : (splice cs.toList o u.cells.toList, memB id (gA [] D.I i)) = ([u0, u1, u2, u3, u4, u5, u6, u7, u8, u9, u10], true)) (k : DW P n w0 M ops D E is pd s ((id, [(b, .cells #[u0, u1, u2, u3, u4, u5, u6, u7, u8, u9, u10] et (0, 0))]) :: h)) : DW P n w0 M ops D E (.n i :: is) pd s h := dCo id T e0 e hcs k
end
theorem J {α : Sort _} {a : α} : a = a := rfl
abbrev I (x : Int) : Value := .int .i64 x
abbrev sN : Value := .slice none 0 0
abbrev rq (m k i : Nat) : Nat := bif Nat.beq i m then m else k + i
theorem oN0 {α : Type} [Enc α] {e : TypeId} {ao : Option Addr} : OwnC (α := α) e ao 0 [] [] := OwnC.nil e ao
section
variable {P : Program} {n : Nat} {w0 : World} {M : List Nat} {Q : Exit → Act → World → Prop} {s : Slots} {h : Hp} {L : Array Oper} {rest : List Oper} {ty t t' ty' ty'' : TypeId} {pos pos' pos'' : String} {after after' after'' : Array Edge} {d d' d'' id : Nat} {v : Value} {x y z : Operand} {c c' c'' : Code} {l : List Oper}
theorem cH {x : Operand} {b : Bool} {α : Type} {u u' r : α} (hx : sev s x = some (.bool b)) (H : cond b u u' = r) (kt : u = r → CW P n w0 M c Q s h) (kf : u' = r → CW P n w0 M c' Q s h) : CW P n w0 M (.cond x c c') Q s h :=
  cw_cond hx (fun e => kt (cond_t H e)) (fun e => kf (cond_f H e))
theorem oAL (j : Nat) {b o : Nat} {fs : Array Field} {f : Field} {i : Nat} (hu : P.underlying t = some (.struct fs)) (hf : fs[i]? = some f) (T : TyS P t' 1 false) (e : (f.type, sev s x, f.offset, Nat.blt d n) = (t', some (.pointer (some ⟨b, o, none⟩)), j, true))
    (id : Nat) {b' o' : Nat} {cs : Array Value} {et : TypeId} {fr : Nat × Nat} {u : Value} (e' : (sev ((d, .pointer (some ⟨b, o + j, none⟩)) :: s) y, aget h id, (cs.toList.drop o').take 1, Nat.blt d' n) = (some (.pointer (some ⟨b', o', none⟩)), some [(b', .cells cs et fr)], [u], true)) (k : OW P n w0 M L Q rest ((d', u) :: (d, .pointer (some ⟨b, o + j, none⟩)) :: s) h) :
    OW P n w0 M L Q (⟨some d, .fieldAddr t x i, ty, pos, after, none⟩ :: ⟨some d', .load t' y, ty', pos', after', none⟩ :: rest) s h :=
  oA j hu hf ((q4 e).1 ▸ T) (by rw [(q4 e).2.1, (q4 e).2.2.1, (q4 e).2.2.2]; rfl) (oL id T e' k)
theorem oMTT {vs vs' : Array Value} {i i' : Nat} {u u' : Value} (e : (sev s x, Nat.blt d n) = (some v, true)) (e' : (sev ((d, v) :: s) y, vs[i]?, Nat.blt d' n) = (some (.tuple vs), some u, true)) (e'' : (sev ((d', u) :: (d, v) :: s) z, vs'[i']?, Nat.blt d'' n) = (some (.tuple vs'), some u', true)) (k : OW P n w0 M L Q rest ((d'', u') :: (d', u) :: (d, v) :: s) h) :
    OW P n w0 M L Q (⟨some d, .move x, ty, pos, after, none⟩ :: ⟨some d', .extract y i, ty', pos', after', none⟩ :: ⟨some d'', .extract z i', ty'', pos'', after'', none⟩ :: rest) s h := oM e (oT e' (oT e'' k))
theorem nq {id : Nat} (k : OW P n w0 M l.toArray (nx P c (nx P c' Q)) l s h) : OW P n w0 M L (nx P (.seq (.seq (.region id l.toArray false) c) c') Q) [] s h := nn (cw_seq (sr k))
theorem ns {id : Nat} (k : OW P n w0 M l.toArray (nx P c Q) l s h) : OW P n w0 M L (nx P (.seq (.region id l.toArray false) c) Q) [] s h := nn (sr k)
theorem nr (k : KW n w0 M Q .ret s h) : OW P n w0 M L (nx P .ret Q) [] s h := nn (cw_ret k)
theorem nR (k : KW n w0 M Q .ret s h) : OW P n w0 M L (nx P .ret (nx P c Q)) [] s h := nn (cw_ret (kw_nx_ret k))
theorem csr {id : Nat} (k : OW P n w0 M l.toArray (nx P c (nx P c' Q)) l s h) : CW P n w0 M (.seq (.seq (.region id l.toArray false) c) c') Q s h := cw_seq (sr k)
theorem kz (k : CW P n w0 M c Q s h) : CW P n w0 M .skip (nx P c Q) s h := cw_skip (kw_nx k)
theorem ks {id : Nat} (k : OW P n w0 M l.toArray (nx P c Q) l s h) : CW P n w0 M .skip (nx P (.seq (.region id l.toArray false) c) Q) s h := cw_skip (kw_nx (sr k))
theorem kq (k : CW P n w0 M c (nx P c' Q) s h) : CW P n w0 M .skip (nx P (.seq c c') Q) s h := cw_skip (kw_nx (cw_seq k))
theorem kb {id : Nat} (k : CW P n w0 M c Q s h) : KW n w0 M (Exit.inBlock id (nx P c Q)) .normal s h := kw_bl_normal (kw_nx k)
theorem sn (e : (sev s x, Nat.blt d n) = (some v, true)) (k : CW P n w0 M c Q ((d, v) :: s) h) : OW P n w0 M L (nx P c Q) [⟨some d, .assign x, ty, pos, after, none⟩] s h := oS e (nn k)
theorem ss {id : Nat} (e : (sev s x, Nat.blt d n) = (some v, true)) (k : OW P n w0 M l.toArray (nx P c Q) l ((d, v) :: s) h) : OW P n w0 M L (nx P (.seq (.region id l.toArray false) c) Q) [⟨some d, .assign x, ty, pos, after, none⟩] s h := oS e (nn (sr k))
theorem sq {id : Nat} (e : (sev s x, Nat.blt d n) = (some v, true)) (k : OW P n w0 M l.toArray (nx P c (nx P c' Q)) l ((d, v) :: s) h) : OW P n w0 M L (nx P (.seq (.seq (.region id l.toArray false) c) c') Q) [⟨some d, .assign x, ty, pos, after, none⟩] s h := oS e (nn (cw_seq (sr k)))
theorem sr1 (e : (sev s x, Nat.blt d n) = (some v, true)) (k : KW n w0 M Q .ret ((d, v) :: s) h) : OW P n w0 M L (nx P .ret Q) [⟨some d, .assign x, ty, pos, after, none⟩] s h := oS e (nn (cw_ret k))
theorem sR (e : (sev s x, Nat.blt d n) = (some v, true)) (k : KW n w0 M Q .ret ((d, v) :: s) h) : OW P n w0 M L (nx P .ret (nx P c Q)) [⟨some d, .assign x, ty, pos, after, none⟩] s h := oS e (nn (cw_ret (kw_nx_ret k)))
theorem kR (k : KW n w0 M Q .ret s h) : KW n w0 M (nx P c Q) .ret s h := k
theorem kA {e : Exit} (id : Nat) (k : KW n w0 M Q e s ((id, []) :: h)) : KW n w0 M Q e s h := kw_addNil id k
theorem cq (k : CW P n w0 M c (nx P c' Q) s h) : CW P n w0 M (.seq c c') Q s h := cw_seq k
theorem cR {id : Nat} (k : OW P n w0 M l.toArray Q l s h) : CW P n w0 M (.region id l.toArray false) Q s h := cw_region k
theorem sE : sevp s [] = some [] := rfl
theorem sP {i : Nat} {x : Operand} {xs : List (Nat × Operand)} {v : Value} {vs : List (Nat × Value)} (h1 : sev s x = some v) (h2 : sevp s xs = some vs) : sevp s ((i, x) :: xs) = some ((i, v) :: vs) := sevp_cons h1 h2
theorem uC {f : FuncId} {xs : Array Operand} {ts : Array TypeId} {vals : List Value} {Post : Value → Hp → Prop} (m : Nat) (cf : CF P f) (hc : ∀ w, Sat w0 M w h → Ct P f vals w [] Post) (hx : sevs s xs.toList = some vals) :
    StpU P n w0 M (.call ⟨.value (.func f), xs, ts⟩) ty s h (fun v U => ∃ h', Post v h' ∧ U = ren (fun i => m + i) h') := stpU_call _ cf hc hx
theorem uM {f : FuncId} {xs : Array Operand} {ts : Array TypeId} {vals : List Value} {h0 : Hp} {Post : Value → Hp → Prop} (r : Nat → Nat) (cf : CF P f) (hc : ∀ w, Sat w0 M w h → Back h r Post h0 → Ct P f vals w h0 Post) (hx : sevs s xs.toList = some vals) (hb : Back h r Post h0) :
    StpU P n w0 M (.call ⟨.value (.func f), xs, ts⟩) ty s h (fun v U => ∃ h', Post v h' ∧ U = ren r h') := stpU_callM r cf hc hx hb
theorem pI {r : Nat → Nat} {i : Nat} {Post : Value → Hp → Prop} {H : Hp} {C : Res} (a : ∀ v h', Post v h' → h' = H) (e : aget (ren r H) (r i) = some C) : ∀ v h', Post v h' → ∃ C', aget (ren r h') (r i) = some C' := fun v h' hp => ⟨C, (a v h' hp) ▸ e⟩
theorem rp {φ : World → Prop} (hr : RO w0 M φ) {w : World} (hw : Sat w0 M w h) : RO w [] φ := hr.pass hw
theorem owp {α : Type} [Enc α] {e : TypeId} {ao : Option Addr} {cap : Nat} {l : List α} {C : Res} (id : Nat) (hg : aget h id = some C) (ho : OwnC e ao cap l C) {w : World} (hw : Sat w0 M w h) : RO w [] (RdL ao cap l) := OwnC.pass hg ho hw
end

end Go.Proofs.YtbfbfkpcabkchaaGreatDoor
