/- The reference's l3Frame and l3Chain. -/
import Derived.Test.YtciliaiocakdkaaDoorTab
import Derived.Test.YtciliaiocakdkaaDoorLeaf
import Derived.Test.YtciliaiocakdkaaDoorPure2
import Derived.Test.YtciliaiocakdkaaDoorSlInt
import Derived.Deep.LoopGhost
import Derived.Deep.RegionHeld
set_option linter.unusedSimpArgs false
set_option linter.unusedVariables false
namespace Go.Proofs.YtciliaiocakdkaaDoor
open Go.RowKit

set_option maxHeartbeats 800000 in
theorem l3Frame_c (f : F) (w : World) :
    Calls Tryd.prog 83 #[f.v] w fun x w' => x = .returned (.bool (frameOk f)) ∧ Below w.heap.size w w' := by
  obtain ⟨u, ⟨s, p⟩, r, nx⟩ := f
  unfold F.v
  go_enter Tryd.func83, Tryd.ntmps83
  cases u
  · go_wp2
    all_goals go_ret
    all_goals exact ⟨ret_bool (by rw [Bool.eq_iff_iff]; simp [frameOk, freeF, and_assoc, *]), (by (repeat (first | (with_reducible exact Below.refl _ _) | (with_reducible assumption) | (with_reducible refine Below.setCell ?_ (by first | omega | (simp; done) | (simp; omega)) _) | (with_reducible refine Below.alloc ?_ (by first | omega | (simp; done) | (simp; omega)) _) | (with_reducible refine below_drewN ?_ _) | (with_reducible refine Below.drew ?_) | (with_reducible refine Below.trans ?_ (Below.mono (by assumption) (by first | omega | (simp; done) | (simp; omega)))))))⟩
  · go_wp2_with (first | (go_at_call 35; refine (sKeyValid_c ⟨s, p⟩ _).mono ?_; rintro e w1 ⟨rfl, hbw1⟩; obtain ⟨hcw1, hfw1⟩ := bcell hbw1; have hzw1 := hbw1.size; (try simp only [World.size_alloc, World.size_setCell, World.size_drew] at hzw1); (try have q0w1 : w.heap.size < w1.heap.size := by omega); (try have q1w1 : w.heap.size + 1 < w1.heap.size := by omega); (try have q2w1 : w.heap.size + 1 + 1 < w1.heap.size := by omega); (try have q3w1 : w.heap.size + 1 + 1 + 1 < w1.heap.size := by omega); (try have q4w1 : w.heap.size + 1 + 1 + 1 + 1 < w1.heap.size := by omega)) | (go_at_call 81; refine (sRightsValid_c _ _).mono ?_; rintro e w' ⟨rfl, rfl⟩))
    all_goals go_ret
    all_goals exact ⟨ret_bool (by simp [frameOk, *]), (by (repeat (first | (with_reducible exact Below.refl _ _) | (with_reducible assumption) | (with_reducible refine Below.setCell ?_ (by first | omega | (simp; done) | (simp; omega)) _) | (with_reducible refine Below.alloc ?_ (by first | omega | (simp; done) | (simp; omega)) _) | (with_reducible refine below_drewN ?_ _) | (with_reducible refine Below.drew ?_) | (with_reducible refine Below.trans ?_ (Below.mono (by assumption) (by first | omega | (simp; done) | (simp; omega)))))))⟩

theorem rd_one {w : World} {b : Nat} {n : Int} (h : w.cell? ⟨b, 0, none⟩ = some (.int .i64 n)) : Rd w (.slice (some ⟨b, 0, none⟩) 1 1) [n] := by
  refine ⟨_, 1, rfl, by simp, by simp [maxLen], by simp, fun j u hu => ?_⟩
  cases j with
  | zero =>
    refine ⟨b, 0, rfl, ?_⟩
    simp [cellsL, Enc.cells] at hu
    subst hu
    simpa using h
  | succ j => simp [cellsL, Enc.cells] at hu

set_option maxHeartbeats 1600000 in
theorem l3Chain_c (v : Value) (t : T) (b : Nat) (w : World) (h : RdT w v t) (hbl : b < t.b.length) (hn : t.f.length ≤ 1048576) :
    Calls Tryd.prog 66 #[v, .int .i64 b] w fun x w' => ∃ v', x = .returned (.tuple #[v', .bool (chainL t b).2]) ∧ Own w.heap.size w'.heap.size 3 w' v' (chainL t b).1 ∧ Below w.heap.size w w' := by
  obtain ⟨vb, vf, rfl, hb, hf⟩ := h
  have lb := hb.le
  have lf := hf.le
  obtain ⟨ab, cb, rfl, -⟩ := id hb
  obtain ⟨af, cf, rfl, -⟩ := id hf
  obtain ⟨b1, o1, rfl, c0⟩ := hb.intAt b hbl
  have HF := Lib.hid (show ∀ W, Below w.heap.size w W → Rd W (.slice af t.f.length cf) t.f from fun W q => hf.below q)
  have i1 : (0:Int) ≤ (b:Int) := by omega
  have i2 : (b:Int) < (t.b.length : Int) := by omega
  have hb1 : b1 < w.heap.size := World.block_lt_of_cell? _ _ c0
  have P0 := Lib.hid (PathL.start hbl)
  obtain ⟨i0, hi0⟩ : ∃ i0, i0 = t.b[b] := ⟨_, rfl⟩
  rw [← hi0] at c0 P0
  clear hb hf hi0
  go_enter Tryd.func66, Tryd.ntmps66
  go_wp2
  have O0 := own_empty (α := Int) 3 (w.alloc (.cells #[.slice (some ⟨b1, o1, none⟩) t.b.length cb, .slice af t.f.length cf] 26))
  rw [World.size_alloc] at O0
  go_loopg [6, 7] t.f.length (fun g out at_ wr => ∃ (L : List Int) (i : Int), g = t.f.length - L.length ∧ at_ = .int .i64 i ∧ Own (w.heap.size + 1) wr.heap.size 3 wr out L ∧ PathL t b L i ∧ L.length ≤ t.f.length ∧
      wr.cell? ⟨w.heap.size, 0, none⟩ = some (.slice (some ⟨b1, o1, none⟩) t.b.length cb) ∧ wr.cell? ⟨w.heap.size, 1, none⟩ = some (.slice af t.f.length cf) ∧ Below w.heap.size w wr)
  case atStart => exact ⟨[], _, by simp, rfl, O0.mono (Nat.le_refl _) (by simp), P0.out, by simp, by go_simp, by go_simp, (by (repeat (first | (with_reducible exact Below.refl _ _) | (with_reducible assumption) | (with_reducible refine Below.setCell ?_ (by first | omega | (simp; done) | (simp; omega)) _) | (with_reducible refine Below.alloc ?_ (by first | omega | (simp; done) | (simp; omega)) _) | (with_reducible refine below_drewN ?_ _) | (with_reducible refine Below.drew ?_) | (with_reducible refine Below.trans ?_ (Below.mono (by assumption) (by first | omega | (simp; done) | (simp; omega)))))))⟩
  case round =>
    obtain ⟨L, i, hg, rfl, ho, hp, hl, hcb, hcf, hbl'⟩ := hrel
    have hz := hbl'.size
    have z0 : w.heap.size < wr.heap.size := World.block_lt_of_cell? _ _ hcb
    have HP := Lib.hid hp
    have HBL := Lib.hid hbl'
    have HGK := Lib.hid hg
    obtain ⟨ao, cp, rfl⟩ := ho.shape
    have HO := Lib.hid ho
    clear O0 P0 hp hg hbl' ho
    by_cases hi : i = -1
    · subst hi
      have E := Lib.hid HP.out.fin
      go_wp2
      refine bodyPost_ret (v := .tuple #[.slice ao L.length cp, .bool true]) (by simp only [results, Tryd.results66]; go_simp) rfl ?_
      rw [E.out]
      exact ⟨_, rfl, HO.out.mono (by omega) (Nat.le_refl _), HBL.out⟩
    · by_cases hw : within i t.f.length = true
      · obtain ⟨j, rfl⟩ : ∃ j : Nat, i = j := ⟨i.toNat, by have := within_iff.1 hw; omega⟩
        have hj : j < t.f.length := by have := within_iff.1 hw; omega
        have j1 : (0:Int) ≤ (j:Int) := by omega
        have j2 : (j:Int) < (t.f.length : Int) := by omega
        by_cases hfull : t.f.length ≤ L.length
        · have E := Lib.hid (HP.out.full hi hfull)
          clear hw
          go_wp2
          all_goals (refine bodyPost_ret (v := .tuple #[.slice ao L.length cp, .bool false]) (by simp only [results, Tryd.results66]; go_simp) rfl ?_)
          all_goals rw [E.out]
          all_goals exact ⟨_, rfl, HO.out.mono (by omega) (Nat.le_refl _), HBL.out⟩
        · have hfull' : (L.length : Int) < (t.f.length : Int) := by omega
          obtain ⟨bf, of, rfl, c0, c1, c2, c3, c4⟩ := (HF.out _ HBL.out).frameAt j hj
          obtain ⟨f, hf⟩ : ∃ f, f = t.f[j] := ⟨_, rfl⟩
          rw [← hf] at c0 c1 c2 c3 c4
          have HK := Lib.hid hf
          have hbf : bf < wr.heap.size := World.block_lt_of_cell? _ _ c0
          clear hf hw hfull
          obtain ⟨u, ⟨s, p⟩, r, nx⟩ := f
          simp only [] at c0 c1 c2 c3 c4
          cases u
          · have E := Lib.hid (HP.out.out hi (fun j' e h' hu => by
              obtain rfl : j = j' := by omega
              rw [← HK.out] at hu
              cases hu))
            go_wp2
            all_goals (refine bodyPost_ret (v := .tuple #[.slice ao L.length cp, .bool false]) (by simp only [results, Tryd.results66]; go_simp) rfl ?_)
            all_goals rw [E.out]
            all_goals exact ⟨_, rfl, HO.out.mono (by omega) (Nat.le_refl _), HBL.out⟩
          · have HC := Lib.hid (show ∀ W, Below w.heap.size w W → W.cell? ⟨bf, of + j * 5 + 4, none⟩ = some (.int .i64 nx) from fun W q => by
              obtain ⟨b2, o2, e2, _, _, _, _, d4⟩ := (HF.out _ q).frameAt j hj
              rw [← HK.out] at d4
              simp only [Option.some.injEq, Addr.mk.injEq, and_true] at e2
              obtain ⟨rfl, rfl⟩ := e2
              exact d4)
            have hrow : ∀ k, (Value.slice ao L.length cp).ownBlock = some k → w.heap.size + 1 ≤ k := fun k hk => (HO.out.row k hk).1
            have hfin := Lib.hid (show ∀ (x : Obj) (W : World), wr.heap.size = wr.heap.size → (wr.alloc x).grownBy W (Value.slice ao L.length cp).ownBlock → Below w.heap.size w W ∧ wr.heap.size < W.heap.size ∧ W.cell? ⟨w.heap.size, 0, none⟩ = some (.slice (some ⟨b1, o1, none⟩) t.b.length cb) ∧ W.cell? ⟨w.heap.size, 1, none⟩ = some (.slice (some ⟨bf, of, none⟩) t.f.length cf) from fun x W _ q => by
              have hs := q.size
              simp only [World.size_alloc] at hs
              refine ⟨Below.grown (w := wr.alloc x) (HBL.out.alloc (by omega) _) q (by simp; omega) (fun k hk => by have := hrow k hk; omega), by omega, q.cell (by rw [World.cell?_alloc_some _ _ _ (by rw [hcb]; rfl)]; exact hcb) ?_, q.cell (by rw [World.cell?_alloc_some _ _ _ (by rw [hcf]; rfl)]; exact hcf) ?_⟩ <;> (intro e; have := hrow _ e.symm; (try simp at this); omega))
            clear hrow
            have P1 := Lib.hid (HP.out.step (j := j) (by omega) hj (by rw [← HK.out]))
            go_wp2_with (at_builtin; refine wpList_app (m := [(j : Int)]) sltInt rfl _ _ rfl rfl rfl (HO.out.below (by (repeat (first | (with_reducible exact Below.refl _ _) | (with_reducible assumption) | (with_reducible refine Below.setCell ?_ (by first | omega | (simp; done) | (simp; omega)) _) | (with_reducible refine Below.alloc ?_ (by first | omega | (simp; done) | (simp; omega)) _) | (with_reducible refine below_drewN ?_ _) | (with_reducible refine Below.drew ?_) | (with_reducible refine Below.trans ?_ (Below.mono (by assumption) (by first | omega | (simp; done) | (simp; omega)))))))) (rd_one (by first | (simp; done) | go_simp)) (by show (L.length + 1) * 8 ≤ _; omega) (by show L.length + 1 ≤ maxLen; unfold maxLen; omega) (by simp; omega) ?_; intro v1 w1 ho1 hg1 hn1; obtain ⟨hb1, hs1, e10, e11⟩ := hfin.out _ _ (by first | rfl | (simp; done)) hg1; have c4' := HC.out _ hb1)
            go_roundg (t.f.length - (L.length + 1))
            case measure => have := HGK.out; omega
            case rel => exact ⟨L ++ [(j : Int)], nx, by simp, rfl, ho1, (by have := P1.out; rwa [← HK.out] at this), by simp; omega, e10, e11, hb1⟩
      · have E := Lib.hid (HP.out.out hi (fun j hj h _ => hw (within_iff.2 (by omega))))
        have hw' : i < 0 ∨ (t.f.length : Int) ≤ i := by
          rcases Int.lt_or_le i 0 with h | h
          · exact .inl h
          · right
            rcases Int.lt_or_le i t.f.length with h' | h'
            · exact absurd (within_iff.2 ⟨h, h'⟩) hw
            · exact h'
        clear hw
        rcases hw' with hw | hw
        · go_wp2
          all_goals (refine bodyPost_ret (v := .tuple #[.slice ao L.length cp, .bool false]) (by simp only [results, Tryd.results66]; go_simp) rfl ?_)
          all_goals rw [E.out]
          all_goals exact ⟨_, rfl, HO.out.mono (by omega) (Nat.le_refl _), HBL.out⟩
        · have hw0 : (0:Int) ≤ i := by omega
          go_wp2
          all_goals (refine bodyPost_ret (v := .tuple #[.slice ao L.length cp, .bool false]) (by simp only [results, Tryd.results66]; go_simp) rfl ?_)
          all_goals rw [E.out]
          all_goals exact ⟨_, rfl, HO.out.mono (by omega) (Nat.le_refl _), HBL.out⟩
end Go.Proofs.YtciliaiocakdkaaDoor
