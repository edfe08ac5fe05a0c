/- The engine, eighth part: still shorter names for the printed texts: what an operation looks up is one equation. -/
import Derived.Test.YtciliaiocakdkaaDoorE7
set_option linter.unusedSimpArgs false
set_option linter.unusedVariables false
set_option linter.unusedSectionVars false
namespace Go.Proofs.YtciliaiocakdkaaDoor
open Go.RowKit
theorem sI {α : Type _} {a b : α} (h : some a = some b) : a = b := Option.some.inj h
theorem bS {α β : Type} {x : Option α} {f : α → Option β} {r : β} (h : Option.bind x f = some r) : ∃ y, x = some y ∧ f y = some r := bind_some h
theorem q2 {α β : Type _} {a a' : α} {b b' : β} (h : (a, b) = (a', b')) : a = a' ∧ b = b' := Prod.mk.inj h
theorem q3 {α β γ : Type _} {a a' : α} {b b' : β} {c c' : γ} (h : (a, b, c) = (a', b', c')) : a = a' ∧ b = b' ∧ c = c' := ⟨(q2 h).1, q2 (q2 h).2⟩
theorem q4 {α β γ δ : Type _} {a a' : α} {b b' : β} {c c' : γ} {d d' : δ} (h : (a, b, c, d) = (a', b', c', d')) : a = a' ∧ b = b' ∧ c = c' ∧ d = d' := ⟨(q2 h).1, q3 (q2 h).2⟩
theorem q5 {α β γ δ ε : Type _} {a a' : α} {b b' : β} {c c' : γ} {d d' : δ} {x x' : ε} (h : (a, b, c, d, x) = (a', b', c', d', x')) : a = a' ∧ b = b' ∧ c = c' ∧ d = d' ∧ x = x' := ⟨(q2 h).1, q4 (q2 h).2⟩
theorem q6 {α β γ δ ε ζ : Type _} {a a' : α} {b b' : β} {c c' : γ} {d d' : δ} {x x' : ε} {y y' : ζ} (h : (a, b, c, d, x, y) = (a', b', c', d', x', y')) : a = a' ∧ b = b' ∧ c = c' ∧ d = d' ∧ x = x' ∧ y = y' := ⟨(q2 h).1, q5 (q2 h).2⟩
section
variable {P : Program} {n : Nat} {w0 : World} {M : List Nat} {Q : Exit → Act → World → Prop} {s : Slots} {h : Hp} {L : Array Oper} {rest : List Oper} {op : Op} {ty t t' : TypeId} {pos : String} {after : Array Edge} {d : Nat} {v : Value} {x y z : Operand} {c : Code}
theorem oM (e : (sev s x, Nat.blt d n) = (some v, true)) (k : OW P n w0 M L Q rest ((d, v) :: s) h) : OW P n w0 M L Q (⟨some d, .move x, ty, pos, after, none⟩ :: rest) s h := oD (mv (q2 e).1) (q2 e).2 k
theorem oS (e : (sev s x, Nat.blt d n) = (some v, true)) (k : OW P n w0 M L Q rest ((d, v) :: s) h) : OW P n w0 M L Q (⟨some d, .assign x, ty, pos, after, none⟩ :: rest) s h := oD (sg (q2 e).1) (q2 e).2 k
theorem oT {vs : Array Value} {i : Nat} (e : (sev s x, vs[i]?, Nat.blt d n) = (some (.tuple vs), some v, true)) (k : OW P n w0 M L Q rest ((d, v) :: s) h) : OW P n w0 M L Q (⟨some d, .extract x i, ty, pos, after, none⟩ :: rest) s h := oD (stp_extract (q3 e).1 (q3 e).2.1) (q3 e).2.2 k
theorem oZ {b o : Nat} (e : (sev s x, Nat.blt d n) = (some (.pointer (some ⟨b, o, none⟩)), true)) (k : OW P n w0 M L Q rest ((d, .pointer (some ⟨b, o, none⟩)) :: s) h) : OW P n w0 M L Q (⟨some d, .nilCheck x, ty, pos, after, none⟩ :: rest) s h := oD (stp_nilCheck (q2 e).1) (q2 e).2 k
theorem oK {b : Bool} (e : (sev s x, Nat.blt d n) = (some (.bool b), true)) (k : OW P n w0 M L Q rest ((d, .bool !b) :: s) h) : OW P n w0 M L Q (⟨some d, .unOp .not t x, ty, pos, after, none⟩ :: rest) s h := oD (stp_not (q2 e).1) (q2 e).2 k
section
variable {kk : IntKind} {p q : Int}
theorem oQ (e : (sev s x, sev s y, Nat.blt d n) = (some (.int kk p), some (.int kk q), true)) (k : OW P n w0 M L Q rest ((d, .bool (p == q)) :: s) h) : OW P n w0 M L Q (⟨some d, .binOp .eql t x y t', ty, pos, after, none⟩ :: rest) s h := oD (stp_eql (q3 e).1 (q3 e).2.1) (q3 e).2.2 k
theorem oU (e : (sev s x, sev s y, Nat.blt d n) = (some (.int kk p), some (.int kk q), true)) (k : OW P n w0 M L Q rest ((d, .bool (p != q)) :: s) h) : OW P n w0 M L Q (⟨some d, .binOp .neq t x y t', ty, pos, after, none⟩ :: rest) s h := oD (stp_neq (q3 e).1 (q3 e).2.1) (q3 e).2.2 k
theorem oW (e : (sev s x, sev s y, Nat.blt d n) = (some (.int kk p), some (.int kk q), true)) (k : OW P n w0 M L Q rest ((d, .bool (decide (p < q))) :: s) h) : OW P n w0 M L Q (⟨some d, .binOp .lss t x y t', ty, pos, after, none⟩ :: rest) s h := oD (stp_lss (q3 e).1 (q3 e).2.1) (q3 e).2.2 k
theorem oV (e : (sev s x, sev s y, Nat.blt d n) = (some (.int kk p), some (.int kk q), true)) (k : OW P n w0 M L Q rest ((d, .bool (decide (p ≤ q))) :: s) h) : OW P n w0 M L Q (⟨some d, .binOp .leq t x y t', ty, pos, after, none⟩ :: rest) s h := oD (stp_leq (q3 e).1 (q3 e).2.1) (q3 e).2.2 k
theorem oJ (e : (sev s x, sev s y, Nat.blt d n) = (some (.int kk p), some (.int kk q), true)) (k : OW P n w0 M L Q rest ((d, .bool (decide (q < p))) :: s) h) : OW P n w0 M L Q (⟨some d, .binOp .gtr t x y t', ty, pos, after, none⟩ :: rest) s h := oD (stp_gtr (q3 e).1 (q3 e).2.1) (q3 e).2.2 k
theorem oI (e : (sev s x, sev s y, Nat.blt d n) = (some (.int kk p), some (.int kk q), true)) (k : OW P n w0 M L Q rest ((d, .bool (decide (q ≤ p))) :: s) h) : OW P n w0 M L Q (⟨some d, .binOp .geq t x y t', ty, pos, after, none⟩ :: rest) s h := oD (stp_geq (q3 e).1 (q3 e).2.1) (q3 e).2.2 k
theorem oP {r : Int} (hr : ck (p + q) = some r) (e : (sev s x, sev s y, Nat.blt d n) = (some (.int .i64 p), some (.int .i64 q), true)) (k : OW P n w0 M L Q rest ((d, .int .i64 r) :: s) h) : OW P n w0 M L Q (⟨some d, .binOp .add t x y t', ty, pos, after, none⟩ :: rest) s h := oD (stp_add (q3 e).1 (q3 e).2.1 hr) (q3 e).2.2 k
end
theorem oA (j : Nat) {b o : Nat} {fs : Array Field} {f : Field} {i kz : Nat} {agg : Bool} (hu : P.underlying t = some (.struct fs)) (hf : fs[i]? = some f) (T : TyS P f.type kz agg) (e : (Nat.beq kz 0, sev s x, f.offset, Nat.blt d n) = (false, some (.pointer (some ⟨b, o, none⟩)), j, true)) (k : OW P n w0 M L Q rest ((d, .pointer (some ⟨b, o + j, none⟩)) :: s) h) :
    OW P n w0 M L Q (⟨some d, .fieldAddr t x i, ty, pos, after, none⟩ :: rest) s h := oD (fA j hu hf T (q4 e).1 (q4 e).2.1 (q4 e).2.2.1) (q4 e).2.2.2 k
theorem oL (id : Nat) {b o : Nat} {cs : Array Value} {et : TypeId} {fr : Nat × Nat} {u : Value} (T : TyS P t 1 false) (e : (sev s x, aget h id, (cs.toList.drop o).take 1, Nat.blt d n) = (some (.pointer (some ⟨b, o, none⟩)), some [(b, .cells cs et fr)], [u], true)) (k : OW P n w0 M L Q rest ((d, u) :: s) h) :
    OW P n w0 M L Q (⟨some d, .load t x, ty, pos, after, none⟩ :: rest) s h := oD (lB id T (q4 e).1 (q4 e).2.1 (q4 e).2.2.1) (q4 e).2.2.2 k
theorem oBo (id : Nat) {m b o : Nat} {cs : Array Value} {et : TypeId} {fr : Nat × Nat} {us : List Value} (T : TyS P t us.length true) (hm : us.length = m) (e : (sev s x, aget h id, (cs.toList.drop o).take m, Nat.blt d n) = (some (.pointer (some ⟨b, o, none⟩)), some [(b, .cells cs et fr)], us, true)) (k : OW P n w0 M L Q rest ((d, .agg us.toArray) :: s) h) :
    OW P n w0 M L Q (⟨some d, .load t x, ty, pos, after, none⟩ :: rest) s h := oD (stp_loadN T (q4 e).1 (Cells.box (q4 e).2.1 m (q4 e).2.2.1)) (q4 e).2.2.2 k
theorem oCo (id : Nat) {kz b o : Nat} {cs : Array Value} {et : TypeId} {u : Value} {agg : Bool} {us : List Value} (T : TyS P t kz agg) (e : (sev s x, sev s y, aget h id, u.cells.size, Nat.ble (o + kz) cs.size, u.cells.toList.all (·.oneCell')) = (some (.pointer (some ⟨b, o, none⟩)), some u, some [(b, .cells cs et (0, 0))], kz, true, true)) (hcs : splice cs.toList o u.cells.toList = us)
    (k : OW P n w0 M L Q rest s ((id, [(b, .cells us.toArray et (0, 0))]) :: h)) : OW P n w0 M L Q (⟨none, .store t x y, ty, pos, after, none⟩ :: rest) s h :=
  oF (stpU_store (id := id) T (q6 e).1 (q6 e).2.1 (q6 e).2.2.1 (q6 e).2.2.2.1 (q6 e).2.2.2.2.1 (q6 e).2.2.2.2.2 hcs) (fun _ U hU => by subst hU; exact k)
theorem oB2 (id : Nat) {b o : Nat} {cs : Array Value} {et : TypeId} {fr : Nat × Nat} {u0 u1 : Value} (T : TyS P t 2 true) (e : (sev s x, aget h id, (cs.toList.drop o).take 2, Nat.blt d n) = (some (.pointer (some ⟨b, o, none⟩)), some [(b, .cells cs et fr)], [u0, u1], true)) (k : OW P n w0 M L Q rest ((d, .agg #[u0, u1]) :: s) h) : OW P n w0 M L Q (⟨some d, .load t x, ty, pos, after, none⟩ :: rest) s h := oBo id (us := [u0, u1]) T rfl e k
theorem oB3 (id : Nat) {b o : Nat} {cs : Array Value} {et : TypeId} {fr : Nat × Nat} {u0 u1 u2 : Value} (T : TyS P t 3 true) (e : (sev s x, aget h id, (cs.toList.drop o).take 3, Nat.blt d n) = (some (.pointer (some ⟨b, o, none⟩)), some [(b, .cells cs et fr)], [u0, u1, u2], true)) (k : OW P n w0 M L Q rest ((d, .agg #[u0, u1, u2]) :: s) h) : OW P n w0 M L Q (⟨some d, .load t x, ty, pos, after, none⟩ :: rest) s h := oBo id (us := [u0, u1, u2]) T rfl e k
theorem oC2 (id : Nat) {kz b o : Nat} {cs : Array Value} {et : TypeId} {u : Value} {agg : Bool} {u0 u1 : Value} (T : TyS P t kz agg) (e : (sev s x, sev s y, aget h id, u.cells.size, Nat.ble (o + kz) cs.size, u.cells.toList.all (·.oneCell')) = (some (.pointer (some ⟨b, o, none⟩)), some u, some [(b, .cells cs et (0, 0))], kz, true, true)) (hcs : splice cs.toList o u.cells.toList = [u0, u1]) (k : OW P n w0 M L Q rest s ((id, [(b, .cells #[u0, u1] et (0, 0))]) :: h)) : OW P n w0 M L Q (⟨none, .store t x y, ty, pos, after, none⟩ :: rest) s h := oCo id T e hcs k
theorem oC3 (id : Nat) {kz b o : Nat} {cs : Array Value} {et : TypeId} {u : Value} {agg : Bool} {u0 u1 u2 : Value} (T : TyS P t kz agg) (e : (sev s x, sev s y, aget h id, u.cells.size, Nat.ble (o + kz) cs.size, u.cells.toList.all (·.oneCell')) = (some (.pointer (some ⟨b, o, none⟩)), some u, some [(b, .cells cs et (0, 0))], kz, true, true)) (hcs : splice cs.toList o u.cells.toList = [u0, u1, u2]) (k : OW P n w0 M L Q rest s ((id, [(b, .cells #[u0, u1, u2] et (0, 0))]) :: h)) : OW P n w0 M L Q (⟨none, .store t x y, ty, pos, after, none⟩ :: rest) s h := oCo id T e hcs k
theorem yA {x0 : Operand} {w0 : Value} (h0 : sev s x0 = some w0) : sevs s [x0] = some [w0] := sevs_cons h0 (sevs_nil)
theorem yB {x0 x1 : Operand} {w0 w1 : Value} (h0 : sev s x0 = some w0) (h1 : sev s x1 = some w1) : sevs s [x0, x1] = some [w0, w1] := sevs_cons h0 (sevs_cons h1 (sevs_nil))
theorem yC {x0 x1 x2 : Operand} {w0 w1 w2 : Value} (h0 : sev s x0 = some w0) (h1 : sev s x1 = some w1) (h2 : sev s x2 = some w2) : sevs s [x0, x1, x2] = some [w0, w1, w2] := sevs_cons h0 (sevs_cons h1 (sevs_cons h2 (sevs_nil)))
theorem yD {x0 x1 x2 x3 : Operand} {w0 w1 w2 w3 : Value} (h0 : sev s x0 = some w0) (h1 : sev s x1 = some w1) (h2 : sev s x2 = some w2) (h3 : sev s x3 = some w3) : sevs s [x0, x1, x2, x3] = some [w0, w1, w2, w3] := sevs_cons h0 (sevs_cons h1 (sevs_cons h2 (sevs_cons h3 (sevs_nil))))
theorem rT {c : Nat} {w : Value} (hc : aget s c = some w) : RVs P w0 M s h [.tmp c] [w] := .cons (.tmp hc) .nil
theorem rC2 (id : Nat) {c b o : Nat} {cs : Array Value} {et : TypeId} {fr : Nat × Nat} {u0 u1 : Value} (T : TyS P t 2 true) (hv : aget s c = some (.pointer (some ⟨b, o, none⟩))) (e : (aget h id, (cs.toList.drop o).take 2) = (some [(b, .cells cs et fr)], [u0, u1])) : RVs P w0 M s h [.cell c t] [.agg #[u0, u1]] := .cons (.cellN (us := [u0, u1]) T hv (Cells.box (q2 e).1 2 (q2 e).2)) .nil
theorem rC3 (id : Nat) {c b o : Nat} {cs : Array Value} {et : TypeId} {fr : Nat × Nat} {u0 u1 u2 : Value} (T : TyS P t 3 true) (hv : aget s c = some (.pointer (some ⟨b, o, none⟩))) (e : (aget h id, (cs.toList.drop o).take 3) = (some [(b, .cells cs et fr)], [u0, u1, u2])) : RVs P w0 M s h [.cell c t] [.agg #[u0, u1, u2]] := .cons (.cellN (us := [u0, u1, u2]) T hv (Cells.box (q2 e).1 3 (q2 e).2)) .nil
theorem kr {fn : Func} {Post : Value → Hp → Prop} {rs : Array ResultVar} {vs : List Value} {h' : Hp} (hf : fn.results = rs) (hr : RVs P w0 M s h rs.toList vs) (js : List Nat) (hp : Post (rvOf vs) h') (hs : Sel h h' js := by (repeat (first | exact trivial | refine ⟨_, _, rfl, rfl, ?_⟩))) (hn : js.Nodup := by decide) : KW n w0 M (bodyPost P fn (Lv w0 M Post)) .ret s h := kw_ret hf hr h' js hs hn hp
variable {gd : Option (Nat × Bool)} {dst : Option Nat} {ops : List Oper} {S : RSpec} {s0 : Slots} {h0 : Hp} {i t1 : Nat}
/-- the same as AllLt, from the front -/
def AllGe (p : Nat → Prop) : Nat → Nat → Prop
  | _, 0 => True
  | i, m + 1 => p i ∧ AllGe p (i + 1) m
theorem AllGe.get {p : Nat → Prop} : ∀ {m i : Nat}, AllGe p i m → ∀ k, i ≤ k → k < i + m → p k
  | 0, _, _, k, h1, h2 => by omega
  | m + 1, i, h, k, h1, h2 => by
    by_cases e : k = i
    · subst e; exact h.1
    · exact AllGe.get h.2 k (by omega) (by omega)
theorem AllLt.mk' {p : Nat → Prop} : ∀ {m : Nat}, (∀ k, k < m → p k) → AllLt m p
  | 0, _ => trivial
  | m + 1, h => ⟨AllLt.mk' fun k hk => h k (by omega), h m (by omega)⟩
theorem rdq {id : Nat} {ops : List Oper} {s0 : Slots} {h0 : Hp} (hm : P.follows .mixedOrders = true) (ks kh : List Nat) (S : RSpec)
    (hopp : AllGe (fun i => Loc P n w0 M ops S s0 h0 i) 0 ops.length) (hfin : ∀ g, (∀ i, i < ops.length → S.Φ i (g i)) → KW n w0 M Q .normal (stS S g (fun _ => true) s0 ops.length) (stH S g (fun _ => true) h0 ops.length))
    (hchk : S.toRC.chk n ops ks kh = true := by kernel_rfl)
    (hks : ks.all (fun x => (aget s0 x).isSome) = true := by kernel_rfl) (hkh : kh.all (fun x => (aget h0 x).isSome) = true := by kernel_rfl)
    (hUU : AllLt ops.length fun i => ∀ g, (S.u i g).all (fun p => memB p.1 (S.ids i)) = true ∧ (S.rh i).all (fun p => match p with | (x, some k) => (aget (S.u k g) x).isSome | _ => true) = true := by (repeat' (first | exact trivial | exact fun _ => ⟨rfl, rfl⟩ | refine ⟨?_, ?_⟩))) :
    CW P n w0 M (.region id ops.toArray true) Q s0 h0 := region_drawn S hm ks kh hchk hks hkh hUU (AllLt.mk' fun k hk => AllGe.get hopp k (by omega) (by omega)) hfin
/-- operations of a drawn region, all looked up -/
theorem lM (ho : ops[i]? = some ⟨dst, .move (.tmp t1), ty, pos, after, none⟩ := by rfl) (hd : S.dst i = dst := by rfl) (hx : ∀ g, aget (vS S s0 g (S.rs i)) t1 = some (S.v i (upd g i default)) := by intro; rfl) (hu : ∀ g, S.u i g = [] := by intro; rfl) (hΦ : S.Φ i default := by exact trivial) : Loc P n w0 M ops S s0 h0 i :=
  lc ho hd (fun hs _ => mv (hs.get _ _ (hx _))) hu hΦ
theorem lS (ho : ops[i]? = some ⟨dst, .assign (.tmp t1), ty, pos, after, none⟩ := by rfl) (hd : S.dst i = dst := by rfl) (hx : ∀ g, aget (vS S s0 g (S.rs i)) t1 = some (S.v i (upd g i default)) := by intro; rfl) (hu : ∀ g, S.u i g = [] := by intro; rfl) (hΦ : S.Φ i default := by exact trivial) : Loc P n w0 M ops S s0 h0 i :=
  lc ho hd (fun hs _ => sg (hs.get _ _ (hx _))) hu hΦ
theorem lT {j : Nat} {vs : (Nat → Gh) → Array Value} (ho : ops[i]? = some ⟨dst, .extract (.tmp t1) j, ty, pos, after, none⟩ := by rfl) (hd : S.dst i = dst := by rfl) (hx : ∀ g, aget (vS S s0 g (S.rs i)) t1 = some (.tuple (vs g)) := by intro; rfl) (hv : ∀ g, (vs g)[j]? = some (S.v i (upd g i default)) := by intro; rfl) (hu : ∀ g, S.u i g = [] := by intro; rfl) (hΦ : S.Φ i default := by exact trivial) : Loc P n w0 M ops S s0 h0 i :=
  lc ho hd (fun {g} _ _ hs _ => stp_extract (hs.get _ _ (hx g)) (hv g)) hu hΦ
end
end Go.Proofs.YtciliaiocakdkaaDoor
