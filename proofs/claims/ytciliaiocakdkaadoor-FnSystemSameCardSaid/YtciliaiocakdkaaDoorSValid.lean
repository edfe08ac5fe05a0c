/- The reference's TableValid answers whether the table is valid. -/
import Derived.Test.YtciliaiocakdkaaDoorSChain
import Derived.Deep.LoopGhost
import Derived.Deep.RegionHeld3
import Derived.Deep.DrawnRows
set_option linter.unusedSimpArgs false
set_option linter.unusedVariables false
namespace Go.Proofs.YtciliaiocakdkaaDoor
open Go.RowKit
attribute [local go_sem ↓] Go.wp_at_zero Go.wp_at_succ
theorem sNotFrame {t : T} {k : Nat} (hk : k < t.f.length) (h : frameOk t.f[k] = false) : tableOk t = false :=
  tableOk_not fun ht => by have := ht.fr _ (List.getElem_mem hk); rw [h] at this; cases this
theorem chainsLen_succ {t : T} {b : Nat} {M : List Nat} (h : chain t b = some M) : chainsLen t (b + 1) = chainsLen t b + M.length := by
  simp [chainsLen, List.range_succ, h]

set_option maxRecDepth 100000 in
set_option maxHeartbeats 1600000 in
theorem sTableValid_c (v : Value) (t : T) (w : World) (h : RdT w v t) :
    Calls Tryd.prog 71 #[v] w fun x w' => x = .returned (.bool (tableOk t)) ∧ Below w.heap.size w w' := by
  obtain ⟨vb, vf, rfl, hb, hf⟩ := h
  have lb := hb.le
  have lf := hf.le
  obtain ⟨ab, cb, rfl, -⟩ := id hb
  obtain ⟨af, cf, rfl, -⟩ := id hf
  have HB := Lib.hid (show ∀ W, Below w.heap.size w W → Rd W (.slice ab t.b.length cb) t.b from fun W q => hb.below q)
  have HF := Lib.hid (show ∀ W, Below w.heap.size w W → Rd W (.slice af t.f.length cf) t.f from fun W q => hf.below q)
  clear hb hf
  by_cases h1 : 1 ≤ t.f.length ∧ t.f.length ≤ 16
  case neg =>
    have HNO := Lib.hid (show tableOk t = false from tableOk_not fun ht => h1 ⟨ht.f1, ht.f2⟩)
    go_enter Tryd.func71, Tryd.ntmps71
    by_cases h3 : t.f.length < 1
    · have h4 : (t.f.length : Int) < 1 := by omega
      clear h1 h3
      go_wp2
      all_goals go_ret
      all_goals exact ⟨ret_bool HNO.out.symm, (by (repeat (first | (with_reducible exact Below.refl _ _) | (with_reducible assumption) | (with_reducible refine Below.setCell ?_ (by first | omega | (simp; done) | (simp; omega)) _) | (with_reducible refine Below.alloc ?_ (by first | omega | (simp; done) | (simp; omega)) _) | (with_reducible refine below_drewN ?_ _) | (with_reducible refine Below.drew ?_) | (with_reducible refine Below.trans ?_ (Below.mono (by assumption) (by first | omega | (simp; done) | (simp; omega)))))))⟩
    · have h4 : (16 : Int) < t.f.length := by omega
      have h5 : (1 : Int) ≤ t.f.length := by omega
      clear h1 h3
      go_wp2
      all_goals go_ret
      all_goals exact ⟨ret_bool HNO.out.symm, (by (repeat (first | (with_reducible exact Below.refl _ _) | (with_reducible assumption) | (with_reducible refine Below.setCell ?_ (by first | omega | (simp; done) | (simp; omega)) _) | (with_reducible refine Below.alloc ?_ (by first | omega | (simp; done) | (simp; omega)) _) | (with_reducible refine below_drewN ?_ _) | (with_reducible refine Below.drew ?_) | (with_reducible refine Below.trans ?_ (Below.mono (by assumption) (by first | omega | (simp; done) | (simp; omega)))))))⟩
  by_cases h2 : bucketsOk t.b.length = true
  case neg =>
    have HNO := Lib.hid (show tableOk t = false from tableOk_not fun ht => h2 (bucketsOk_iff.2 (by have := ht.b1; have := ht.b2; omega)))
    have h2' : bucketsOk t.b.length = false := by simpa using h2
    have h4 : (1 : Int) ≤ t.f.length := by omega
    have h5 : (t.f.length : Int) ≤ 16 := by omega
    clear h1 h2
    go_enter Tryd.func71, Tryd.ntmps71
    go_wp2_with (go_at_call 80; refine (l2Buckets_c _ _).mono ?_; rintro e w' ⟨rfl, rfl⟩)
    all_goals go_ret
    all_goals exact ⟨ret_bool HNO.out.symm, (by (repeat (first | (with_reducible exact Below.refl _ _) | (with_reducible assumption) | (with_reducible refine Below.setCell ?_ (by first | omega | (simp; done) | (simp; omega)) _) | (with_reducible refine Below.alloc ?_ (by first | omega | (simp; done) | (simp; omega)) _) | (with_reducible refine below_drewN ?_ _) | (with_reducible refine Below.drew ?_) | (with_reducible refine Below.trans ?_ (Below.mono (by assumption) (by first | omega | (simp; done) | (simp; omega)))))))⟩
  obtain ⟨h1, h1'⟩ := h1
  go_enter Tryd.func71, Tryd.ntmps71
  go_wp2_with (go_at_call 80; refine (l2Buckets_c _ _).mono ?_; rintro e w' ⟨rfl, rfl⟩)
  go_loopw [3, 4] (fun us i wr => ∃ k : Nat, k ≤ t.f.length ∧ i = .int .i64 k ∧ us = .int .i64 ((usedKeys (t.f.take k)).length : Nat) ∧ (∀ f ∈ t.f.take k, frameOk f = true) ∧ (usedKeys (t.f.take k)).Nodup ∧
      wr.cell? ⟨w.heap.size, 0, none⟩ = some (.slice ab t.b.length cb) ∧ wr.cell? ⟨w.heap.size, 1, none⟩ = some (.slice af t.f.length cf) ∧ Below w.heap.size w wr)
    (fun _ i _ => t.f.length - (intOf i).toNat)
  case atStart => exact ⟨0, by omega, rfl, by simp [usedKeys], by simp, by simp [usedKeys], by go_simp, by go_simp, (by (repeat (first | (with_reducible exact Below.refl _ _) | (with_reducible assumption) | (with_reducible refine Below.setCell ?_ (by first | omega | (simp; done) | (simp; omega)) _) | (with_reducible refine Below.alloc ?_ (by first | omega | (simp; done) | (simp; omega)) _) | (with_reducible refine below_drewN ?_ _) | (with_reducible refine Below.drew ?_) | (with_reducible refine Below.trans ?_ (Below.mono (by assumption) (by first | omega | (simp; done) | (simp; omega)))))))⟩
  case round =>
    obtain ⟨k, hk, rfl, rfl, hfo, hnd, hcb, hcf, hbl⟩ := hrel
    have z0 : w.heap.size < wr.heap.size := World.block_lt_of_cell? _ _ hcb
    obtain ⟨un, hun⟩ : ∃ un, un = (usedKeys (t.f.take k)).length := ⟨_, rfl⟩
    have hu16 : un ≤ 16 := by
      rw [hun]; unfold usedKeys; rw [List.length_map]
      exact Nat.le_trans (List.length_filter_le _ _) (by rw [List.length_take]; omega)
    rw [← hun]
    have HUN := Lib.hid hun
    have HFO := Lib.hid hfo
    have HND := Lib.hid hnd
    have HBL := Lib.hid hbl
    clear hfo hnd hbl hun
    by_cases hlt : k < t.f.length
    · obtain ⟨b1, o1, rfl, c0, c1, c2, c3, c4⟩ := (HF.out _ HBL.out).frameAt k hlt
      have hb1 : b1 < wr.heap.size := World.block_lt_of_cell? _ _ c0
      have i1 : (0:Int) ≤ (k:Int) := by omega
      have i2 : (k:Int) < (t.f.length : Int) := by omega
      obtain ⟨f, hf⟩ : ∃ f, f = t.f[k] := ⟨_, rfl⟩
      rw [← hf] at c0 c1 c2 c3 c4
      have HK := Lib.hid hf
      clear hf
      have hbl := HBL.out
      by_cases hok : frameOk f = true
      case neg =>
        have hok' : frameOk f = false := by simpa using hok
        have HNO := Lib.hid (sNotFrame hlt (by rw [← HK.out]; exact hok'))
        clear hok
        go_wp2_with (first | (go_at_call 83; refine (l3Frame_c f _).mono ?_; rintro e w1 ⟨rfl, hbw1⟩; obtain ⟨hcw1, hfw1⟩ := bcell hbw1; have hzw1 := hbw1.size; (try simp only [World.size_alloc, World.size_setCell, World.size_drew] at hzw1); (try have q0w1 : w.heap.size < w1.heap.size := by omega); (try have q1w1 : w.heap.size + 1 < w1.heap.size := by omega); (try have q2w1 : w.heap.size + 1 + 1 < w1.heap.size := by omega); (try have q3w1 : w.heap.size + 1 + 1 + 1 < w1.heap.size := by omega); (try have q4w1 : w.heap.size + 1 + 1 + 1 + 1 < w1.heap.size := by omega)))
        all_goals go_ret
        all_goals exact ⟨ret_bool HNO.out.symm, (by (repeat (first | (with_reducible exact Below.refl _ _) | (with_reducible assumption) | (with_reducible refine Below.setCell ?_ (by first | omega | (simp; done) | (simp; omega)) _) | (with_reducible refine Below.alloc ?_ (by first | omega | (simp; done) | (simp; omega)) _) | (with_reducible refine below_drewN ?_ _) | (with_reducible refine Below.drew ?_) | (with_reducible refine Below.trans ?_ (Below.mono (by assumption) (by first | omega | (simp; done) | (simp; omega)))))))⟩
      have HOK := Lib.hid hok
      obtain ⟨u, ⟨s, p⟩, r, nx⟩ := f
      simp only [] at c0 c1 c2 c3 c4
      cases u
      · go_wp2_with (first | (go_at_call 83; refine (l3Frame_c ⟨false, ⟨s, p⟩, r, nx⟩ _).mono ?_; rintro e w1 ⟨rfl, hbw1⟩; obtain ⟨hcw1, hfw1⟩ := bcell hbw1; have hzw1 := hbw1.size; (try simp only [World.size_alloc, World.size_setCell, World.size_drew] at hzw1); (try have q0w1 : w.heap.size < w1.heap.size := by omega); (try have q1w1 : w.heap.size + 1 < w1.heap.size := by omega); (try have q2w1 : w.heap.size + 1 + 1 < w1.heap.size := by omega); (try have q3w1 : w.heap.size + 1 + 1 + 1 < w1.heap.size := by omega); (try have q4w1 : w.heap.size + 1 + 1 + 1 + 1 < w1.heap.size := by omega)))
        obtain ⟨wo, rfl⟩ : ∃ wo, wo = wr := ⟨_, rfl⟩
        have B1 := Lib.hid (show Below w.heap.size w w1 from (by (repeat (first | (with_reducible exact Below.refl _ _) | (with_reducible assumption) | (with_reducible refine Below.setCell ?_ (by first | omega | (simp; done) | (simp; omega)) _) | (with_reducible refine Below.alloc ?_ (by first | omega | (simp; done) | (simp; omega)) _) | (with_reducible refine below_drewN ?_ _) | (with_reducible refine Below.drew ?_) | (with_reducible refine Below.trans ?_ (Below.mono (by assumption) (by first | omega | (simp; done) | (simp; omega))))))))
        have q1 := (hcw1 _ 0 z0).trans hcb
        have q2 := (hcw1 _ 1 z0).trans hcf
        clear hbl HBL hcb hcf c0 c1 c2 c3 c4 hcw1 hfw1 hbw1 hzw1 z0 hb1
        go_loopw [5] (fun i wi => ∃ j : Nat, j ≤ k ∧ i = .int .i64 j ∧ wi.cell? ⟨w.heap.size, 0, none⟩ = some (.slice ab t.b.length cb) ∧ wi.cell? ⟨w.heap.size, 1, none⟩ = some (.slice (some ⟨b1, o1, none⟩) t.f.length cf) ∧ Below w.heap.size w wi)
          (fun i _ => k - (intOf i).toNat)
        case atStart => exact ⟨0, by omega, rfl, q1, q2, B1.out⟩
        case round =>
          obtain ⟨j, hj, rfl, hcb, hcf, hbl⟩ := hrel
          have z0 : w.heap.size < wr.heap.size := World.block_lt_of_cell? _ _ hcb
          have HBL := Lib.hid hbl
          skip
          clear hbl B1 q1 q2
          by_cases hjl : j < k
          · obtain ⟨b2, o2, e2, c0, c1, c2, c3, c4⟩ := (HF.out _ HBL.out).frameAt k hlt
            simp only [Option.some.injEq, Addr.mk.injEq, and_true] at e2
            obtain ⟨rfl, rfl⟩ := e2
            rw [← HK.out] at c0 c1 c2 c3 c4
            obtain ⟨b2, o2, e2, d0, d1, d2, d3, d4⟩ := (HF.out _ HBL.out).frameAt j (by omega)
            simp only [Option.some.injEq, Addr.mk.injEq, and_true] at e2
            obtain ⟨rfl, rfl⟩ := e2
            obtain ⟨f', hf'⟩ : ∃ f', f' = t.f[j] := ⟨_, rfl⟩
            rw [← hf'] at d0 d1 d2 d3 d4
            have HK' := Lib.hid hf'
            clear hf'
            obtain ⟨u', ⟨s', p'⟩, r', nx'⟩ := f'
            simp only [] at c0 c1 c2 c3 c4 d0 d1 d2 d3 d4
            have j1 : (0:Int) ≤ (j:Int) := by omega
            have j2 : (j:Int) < (t.f.length : Int) := by omega
            have j3 : (j:Int) < (k : Int) := by omega
            have hbl := HBL.out
            go_wp2
            go_quiet (fail)
            go_wp2
            (first | (go_roundw; (case rel => exact ⟨j + 1, by omega, by go_num, hcb, hcf, (by (repeat (first | (with_reducible exact Below.refl _ _) | (with_reducible assumption) | (with_reducible refine Below.setCell ?_ (by first | omega | (simp; done) | (simp; omega)) _) | (with_reducible refine Below.alloc ?_ (by first | omega | (simp; done) | (simp; omega)) _) | (with_reducible refine below_drewN ?_ _) | (with_reducible refine Below.drew ?_) | (with_reducible refine Below.trans ?_ (Below.mono (by assumption) (by first | omega | (simp; done) | (simp; omega)))))))⟩); (case measure => simp [intOf]; omega)) | exact ⟨⟨j + 1, by omega, by go_num, hcb, hcf, (by (repeat (first | (with_reducible exact Below.refl _ _) | (with_reducible assumption) | (with_reducible refine Below.setCell ?_ (by first | omega | (simp; done) | (simp; omega)) _) | (with_reducible refine Below.alloc ?_ (by first | omega | (simp; done) | (simp; omega)) _) | (with_reducible refine below_drewN ?_ _) | (with_reducible refine Below.drew ?_) | (with_reducible refine Below.trans ?_ (Below.mono (by assumption) (by first | omega | (simp; done) | (simp; omega)))))))⟩, by simp [intOf]; omega⟩)
          · obtain rfl : j = k := by omega
            go_wp2
            have hu : t.f[j].u = false := by rw [← HK.out]
            have e5 := usedKeys_snoc t.f j hlt
            rw [hu] at e5
            refine ⟨⟨j + 1, by omega, by go_num, ?_, forall_take_snoc hlt HFO.out (by rw [← HK.out]; exact HOK.out), ?_, hcb, hcf, HBL.out⟩, by simp [intOf]; omega⟩
            · rw [e5, List.length_append, ← HUN.out]; simp
            · rw [e5]; simpa using HND.out
      · go_wp2_with (first | (go_at_call 83; refine (l3Frame_c ⟨true, ⟨s, p⟩, r, nx⟩ _).mono ?_; rintro e w1 ⟨rfl, hbw1⟩; obtain ⟨hcw1, hfw1⟩ := bcell hbw1; have hzw1 := hbw1.size; (try simp only [World.size_alloc, World.size_setCell, World.size_drew] at hzw1); (try have q0w1 : w.heap.size < w1.heap.size := by omega); (try have q1w1 : w.heap.size + 1 < w1.heap.size := by omega); (try have q2w1 : w.heap.size + 1 + 1 < w1.heap.size := by omega); (try have q3w1 : w.heap.size + 1 + 1 + 1 < w1.heap.size := by omega); (try have q4w1 : w.heap.size + 1 + 1 + 1 + 1 < w1.heap.size := by omega)))
        obtain ⟨wo, rfl⟩ : ∃ wo, wo = wr := ⟨_, rfl⟩
        have B1 := Lib.hid (show Below w.heap.size w w1 from (by (repeat (first | (with_reducible exact Below.refl _ _) | (with_reducible assumption) | (with_reducible refine Below.setCell ?_ (by first | omega | (simp; done) | (simp; omega)) _) | (with_reducible refine Below.alloc ?_ (by first | omega | (simp; done) | (simp; omega)) _) | (with_reducible refine below_drewN ?_ _) | (with_reducible refine Below.drew ?_) | (with_reducible refine Below.trans ?_ (Below.mono (by assumption) (by first | omega | (simp; done) | (simp; omega))))))))
        have q1 := (hcw1 _ 0 z0).trans hcb
        have q2 := (hcw1 _ 1 z0).trans hcf
        clear hbl HBL hcb hcf c0 c1 c2 c3 c4 hcw1 hfw1 hbw1 hzw1 z0 hb1
        go_loopw [5] (fun i wi => ∃ j : Nat, j ≤ k ∧ i = .int .i64 j ∧ (∀ m, (hm : m < t.f.length) → m < j → t.f[m].u = true → t.f[m].k ≠ ⟨s, p⟩) ∧ wi.cell? ⟨w.heap.size, 0, none⟩ = some (.slice ab t.b.length cb) ∧ wi.cell? ⟨w.heap.size, 1, none⟩ = some (.slice (some ⟨b1, o1, none⟩) t.f.length cf) ∧ Below w.heap.size w wi)
          (fun i _ => k - (intOf i).toNat)
        case atStart => exact ⟨0, by omega, rfl, fun m _ hm => by omega, q1, q2, B1.out⟩
        case round =>
          obtain ⟨j, hj, rfl, hne, hcb, hcf, hbl⟩ := hrel
          have z0 : w.heap.size < wr.heap.size := World.block_lt_of_cell? _ _ hcb
          have HBL := Lib.hid hbl
          have HNE := Lib.hid hne
          clear hne
          clear hbl B1 q1 q2
          by_cases hjl : j < k
          · obtain ⟨b2, o2, e2, c0, c1, c2, c3, c4⟩ := (HF.out _ HBL.out).frameAt k hlt
            simp only [Option.some.injEq, Addr.mk.injEq, and_true] at e2
            obtain ⟨rfl, rfl⟩ := e2
            rw [← HK.out] at c0 c1 c2 c3 c4
            obtain ⟨b2, o2, e2, d0, d1, d2, d3, d4⟩ := (HF.out _ HBL.out).frameAt j (by omega)
            simp only [Option.some.injEq, Addr.mk.injEq, and_true] at e2
            obtain ⟨rfl, rfl⟩ := e2
            obtain ⟨f', hf'⟩ : ∃ f', f' = t.f[j] := ⟨_, rfl⟩
            rw [← hf'] at d0 d1 d2 d3 d4
            have HK' := Lib.hid hf'
            clear hf'
            obtain ⟨u', ⟨s', p'⟩, r', nx'⟩ := f'
            simp only [] at c0 c1 c2 c3 c4 d0 d1 d2 d3 d4
            have j1 : (0:Int) ≤ (j:Int) := by omega
            have j2 : (j:Int) < (t.f.length : Int) := by omega
            have j3 : (j:Int) < (k : Int) := by omega
            have hbl := HBL.out
            cases u'
            · go_wp2
              go_quiet (fail)
              go_wp2
              (first | (go_roundw; (case rel => exact ⟨j + 1, by omega, by go_num, (fun m hm hmj hu => by by_cases e : m = j; (subst e; rw [← HK'.out] at hu; cases hu); exact HNE.out m hm (by omega) hu), hcb, hcf, (by (repeat (first | (with_reducible exact Below.refl _ _) | (with_reducible assumption) | (with_reducible refine Below.setCell ?_ (by first | omega | (simp; done) | (simp; omega)) _) | (with_reducible refine Below.alloc ?_ (by first | omega | (simp; done) | (simp; omega)) _) | (with_reducible refine below_drewN ?_ _) | (with_reducible refine Below.drew ?_) | (with_reducible refine Below.trans ?_ (Below.mono (by assumption) (by first | omega | (simp; done) | (simp; omega)))))))⟩); (case measure => simp [intOf]; omega)) | exact ⟨⟨j + 1, by omega, by go_num, (fun m hm hmj hu => by by_cases e : m = j; (subst e; rw [← HK'.out] at hu; cases hu); exact HNE.out m hm (by omega) hu), hcb, hcf, (by (repeat (first | (with_reducible exact Below.refl _ _) | (with_reducible assumption) | (with_reducible refine Below.setCell ?_ (by first | omega | (simp; done) | (simp; omega)) _) | (with_reducible refine Below.alloc ?_ (by first | omega | (simp; done) | (simp; omega)) _) | (with_reducible refine below_drewN ?_ _) | (with_reducible refine Below.drew ?_) | (with_reducible refine Below.trans ?_ (Below.mono (by assumption) (by first | omega | (simp; done) | (simp; omega)))))))⟩, by simp [intOf]; omega⟩)
            · by_cases he : s' = s ∧ p' = p
              · obtain ⟨rfl, rfl⟩ := he
                have HNO := Lib.hid (show tableOk t = false from tableOk_not fun ht => key_once ht.ks hjl hlt (by rw [← HK'.out]) (by rw [← HK.out]) (by rw [← HK'.out, ← HK.out]))
                go_wp2
                go_quiet (fail)
                go_wp2
                all_goals go_ret
                all_goals exact ⟨ret_bool HNO.out.symm, (by (repeat (first | (with_reducible exact Below.refl _ _) | (with_reducible assumption) | (with_reducible refine Below.setCell ?_ (by first | omega | (simp; done) | (simp; omega)) _) | (with_reducible refine Below.alloc ?_ (by first | omega | (simp; done) | (simp; omega)) _) | (with_reducible refine below_drewN ?_ _) | (with_reducible refine Below.drew ?_) | (with_reducible refine Below.trans ?_ (Below.mono (by assumption) (by first | omega | (simp; done) | (simp; omega)))))))⟩
              · have HE := Lib.hid (show ∀ m, (hm : m < t.f.length) → m < j + 1 → t.f[m].u = true → t.f[m].k ≠ ⟨s, p⟩ from fun m hm hmj hu => by
                  by_cases e : m = j
                  · subst e
                    rw [← HK'.out]
                    intro e2
                    simp only [K.mk.injEq] at e2
                    exact he e2
                  · exact HNE.out m hm (by omega) hu)
                by_cases hs : s' = s
                · subst hs
                  have hp : ¬ p' = p := fun e => he ⟨rfl, e⟩
                  clear he
                  go_wp2
                  go_quiet (fail)
                  go_wp2
                  (first | (go_roundw; (case rel => exact ⟨j + 1, by omega, by go_num, HE.out, hcb, hcf, (by (repeat (first | (with_reducible exact Below.refl _ _) | (with_reducible assumption) | (with_reducible refine Below.setCell ?_ (by first | omega | (simp; done) | (simp; omega)) _) | (with_reducible refine Below.alloc ?_ (by first | omega | (simp; done) | (simp; omega)) _) | (with_reducible refine below_drewN ?_ _) | (with_reducible refine Below.drew ?_) | (with_reducible refine Below.trans ?_ (Below.mono (by assumption) (by first | omega | (simp; done) | (simp; omega)))))))⟩); (case measure => simp [intOf]; omega)) | exact ⟨⟨j + 1, by omega, by go_num, HE.out, hcb, hcf, (by (repeat (first | (with_reducible exact Below.refl _ _) | (with_reducible assumption) | (with_reducible refine Below.setCell ?_ (by first | omega | (simp; done) | (simp; omega)) _) | (with_reducible refine Below.alloc ?_ (by first | omega | (simp; done) | (simp; omega)) _) | (with_reducible refine below_drewN ?_ _) | (with_reducible refine Below.drew ?_) | (with_reducible refine Below.trans ?_ (Below.mono (by assumption) (by first | omega | (simp; done) | (simp; omega)))))))⟩, by simp [intOf]; omega⟩)
                · clear he
                  go_wp2
                  go_quiet (fail)
                  go_wp2
                  (first | (go_roundw; (case rel => exact ⟨j + 1, by omega, by go_num, HE.out, hcb, hcf, (by (repeat (first | (with_reducible exact Below.refl _ _) | (with_reducible assumption) | (with_reducible refine Below.setCell ?_ (by first | omega | (simp; done) | (simp; omega)) _) | (with_reducible refine Below.alloc ?_ (by first | omega | (simp; done) | (simp; omega)) _) | (with_reducible refine below_drewN ?_ _) | (with_reducible refine Below.drew ?_) | (with_reducible refine Below.trans ?_ (Below.mono (by assumption) (by first | omega | (simp; done) | (simp; omega)))))))⟩); (case measure => simp [intOf]; omega)) | exact ⟨⟨j + 1, by omega, by go_num, HE.out, hcb, hcf, (by (repeat (first | (with_reducible exact Below.refl _ _) | (with_reducible assumption) | (with_reducible refine Below.setCell ?_ (by first | omega | (simp; done) | (simp; omega)) _) | (with_reducible refine Below.alloc ?_ (by first | omega | (simp; done) | (simp; omega)) _) | (with_reducible refine below_drewN ?_ _) | (with_reducible refine Below.drew ?_) | (with_reducible refine Below.trans ?_ (Below.mono (by assumption) (by first | omega | (simp; done) | (simp; omega)))))))⟩, by simp [intOf]; omega⟩)
          · obtain rfl : j = k := by omega
            go_wp2
            have hu : t.f[j].u = true := by rw [← HK.out]
            have e5 := usedKeys_snoc t.f j hlt
            rw [hu] at e5
            refine ⟨⟨j + 1, by omega, by go_num, ?_, forall_take_snoc hlt HFO.out (by rw [← HK.out]; exact HOK.out), ?_, hcb, hcf, HBL.out⟩, by simp [intOf]; omega⟩
            · rw [e5, List.length_append, ← HUN.out]; go_num
            · rw [e5]
              refine List.nodup_append.2 ⟨HND.out, by simp, fun a ha b hb e => ?_⟩
              simp at hb
              subst hb
              subst e
              unfold usedKeys at ha
              obtain ⟨g, hg, e⟩ := List.mem_map.1 ha
              obtain ⟨hg1, hg2⟩ := List.mem_filter.1 hg
              obtain ⟨m, hm, rfl⟩ := List.mem_take_iff_getElem.1 hg1
              refine HNE.out m (by omega) (by omega) hg2 ?_
              rw [e, ← HK.out]
    · obtain rfl : k = t.f.length := by omega
      have ALL := Lib.hid (show ∀ f ∈ t.f, frameOk f = true from by have := HFO.out; rwa [List.take_length] at this)
      have KND := Lib.hid (show (usedKeys t.f).Nodup from by have := HND.out; rwa [List.take_length] at this)
      have UN := Lib.hid (show un = (usedKeys t.f).length from by have := HUN.out; rwa [List.take_length] at this)
      have HB16 := Lib.hid (bucketsOk_iff.1 h2)
      clear HFO HND HUN
      obtain ⟨wo, rfl⟩ : ∃ wo, wo = wr := ⟨_, rfl⟩
      go_wp2
      go_loopw [6, 3] (fun i us wr => ∃ b : Nat, b ≤ t.b.length ∧ i = .int .i64 b ∧ us = .int .i64 ((un : Int) - (chainsLen t b : Nat)) ∧ (∀ j, j < b → (chain t j).isSome = true) ∧ chainsLen t b ≤ 16 * b ∧
          wr.cell? ⟨w.heap.size, 0, none⟩ = some (.slice ab t.b.length cb) ∧ wr.cell? ⟨w.heap.size, 1, none⟩ = some (.slice af t.f.length cf) ∧ Below w.heap.size w wr)
        (fun i _ _ => t.b.length - (intOf i).toNat)
      case atStart => exact ⟨0, by omega, rfl, by simp [chainsLen], fun j hj => by omega, by simp [chainsLen], hcb, hcf, HBL.out⟩
      case round =>
        obtain ⟨b, hb, rfl, rfl, hso, hcl, hcb', hcf', hbl⟩ := hrel
        clear hcb hcf HBL
        have HSO := Lib.hid hso
        have HBL := Lib.hid hbl
        have b16 : b ≤ 16 := by have := HB16.out; omega
        have z1 : w.heap.size < wr.heap.size := World.block_lt_of_cell? _ _ hcb'
        clear hso
        by_cases hlt : b < t.b.length
        · have i2 : (b:Int) < (t.b.length : Int) := by omega
          have i1 : (0:Int) ≤ (b:Int) := by omega
          have RT := Lib.hid (show RdT wr (.agg #[.slice ab t.b.length cb, .slice af t.f.length cf]) t from ⟨_, _, rfl, HB.out _ hbl, HF.out _ hbl⟩)
          have CHM := Lib.hid (chainL_mem (t := t) (b := b))
          obtain ⟨L, hL⟩ : ∃ L, L = (chainL t b).1 := ⟨_, rfl⟩
          have hLl : L.length ≤ t.f.length := by rw [hL]; exact chainL_len
          have HL := Lib.hid hL
          clear hL
          by_cases hok : (chainL t b).2 = true
          · have HOK := Lib.hid hok
            go_wp2_with (first | (go_at_call 66; refine (l3Chain_c _ t b _ RT.out hlt (by omega)).mono ?_; rintro e w1 ⟨v1, rfl, ho1, hb1⟩; rw [HOK.out]; rw [← HL.out] at ho1; obtain ⟨ao1, cp1, rfl⟩ := ho1.shape; obtain ⟨hc1, hf1⟩ := bcell hb1))
            obtain ⟨wp, rfl⟩ : ∃ wp, wp = wr := ⟨_, rfl⟩
            have B1 := Lib.hid (show Below w.heap.size w w1 from (by (repeat (first | (with_reducible exact Below.refl _ _) | (with_reducible assumption) | (with_reducible refine Below.setCell ?_ (by first | omega | (simp; done) | (simp; omega)) _) | (with_reducible refine Below.alloc ?_ (by first | omega | (simp; done) | (simp; omega)) _) | (with_reducible refine below_drewN ?_ _) | (with_reducible refine Below.drew ?_) | (with_reducible refine Below.trans ?_ (Below.mono (by assumption) (by first | omega | (simp; done) | (simp; omega))))))))
            have q1 := (hc1 _ 0 z1).trans hcb'
            have q2 := (hc1 _ 1 z1).trans hcf'
            have hRL := ho1.rd
            have HRL := Lib.hid (show ∀ W, Below w1.heap.size w1 W → Rd W (.slice ao1 L.length cp1) L from fun W q => hRL.below q)
            clear hcb' hcf' HBL hbl hc1 hf1 hb1 z1 ho1 hRL
            go_loopw [9] (fun i wi => ∃ m : Nat, m ≤ L.length ∧ i = .int .i64 m ∧ (∀ x, (hx : x < L.length) → x < m → ∀ h : L[x].toNat < t.f.length, hashI t.f[L[x].toNat].k t.b.length = b) ∧
                wi.cell? ⟨w.heap.size, 0, none⟩ = some (.slice ab t.b.length cb) ∧ wi.cell? ⟨w.heap.size, 1, none⟩ = some (.slice af t.f.length cf) ∧ Below w.heap.size w wi ∧ Below w1.heap.size w1 wi)
              (fun i _ => L.length - (intOf i).toNat)
            case atStart => exact ⟨0, by omega, rfl, fun x _ hx => by omega, q1, q2, B1.out, Below.refl _ _⟩
            case round =>
              obtain ⟨m, hm, rfl, hal, hcb, hcf, hbl, hbl1⟩ := hrel
              have HAL := Lib.hid hal
              have HBL := Lib.hid hbl
              have HBL1 := Lib.hid hbl1
              have z2 : w.heap.size < wr.heap.size := World.block_lt_of_cell? _ _ hcb
              clear hal hbl hbl1 q1 q2 B1
              by_cases hml : m < L.length
              · obtain ⟨b3, o3, rfl, d0⟩ := (HRL.out _ HBL1.out).intAt m hml
                obtain ⟨j, hjm, hj, hju⟩ := CHM.out L[m] (by rw [← HL.out]; exact List.getElem_mem hml)
                have HJM := Lib.hid hjm
                rw [hjm] at d0
                clear hjm
                have hb3 : b3 < wr.heap.size := World.block_lt_of_cell? _ _ d0
                obtain ⟨b4, o4, rfl, c0, c1, c2, c3, c4⟩ := (HF.out _ HBL.out).frameAt j hj
                have hb4 : b4 < wr.heap.size := World.block_lt_of_cell? _ _ c0
                obtain ⟨f, hf⟩ : ∃ f, f = t.f[j] := ⟨_, rfl⟩
                have hfok := ALL.out _ (List.getElem_mem hj)
                rw [← hf] at c0 c1 c2 c3 c4 hju hfok
                have HK := Lib.hid hf
                clear hf
                obtain ⟨u, ⟨s, p⟩, r, nx⟩ := f
                simp only [] at c0 c1 c2 c3 c4 hju
                subst hju
                have hkk : keyOk ⟨s, p⟩ = true := by simp [frameOk] at hfok; exact hfok.1
                have KK := Lib.hid hkk
                clear hfok hkk c0 c3 c4
                have m1 : (0:Int) ≤ (m:Int) := by omega
                have m2 : (m:Int) < (L.length : Int) := by omega
                have j1 : (0:Int) ≤ (j:Int) := by omega
                have j2 : (j:Int) < (t.f.length : Int) := by omega
                obtain ⟨hv, hhv⟩ : ∃ hv, hv = hashI ⟨s, p⟩ t.b.length := ⟨_, rfl⟩
                have HHV := Lib.hid hhv
                clear hhv
                have hbl := HBL.out
                have hbl1 := HBL1.out
                have hsz1 := hbl1.size
                by_cases he : hv = (b : Int)
                · have HE := Lib.hid (show ∀ x, (hx : x < L.length) → x < m + 1 → ∀ h : L[x].toNat < t.f.length, hashI t.f[L[x].toNat].k t.b.length = b from fun x hx hxm h => by
                    by_cases e : x = m
                    · subst e
                      have e2 : L[x].toNat = j := by have := HJM.out; omega
                      have e3 : t.f[L[x].toNat] = t.f[j] := by congr 1
                      rw [e3, ← HK.out, ← HHV.out, he]
                    · exact HAL.out x hx (by omega) h)
                  go_wp2
                  go_region_held3 (fun w' => w'.cell? ⟨w.heap.size, 0, none⟩ = some (.slice ab t.b.length cb) ∧ w'.cell? ⟨w.heap.size, 1, none⟩ = some (.slice (some ⟨b4, o4, none⟩) t.f.length cf) ∧ w'.cell? ⟨b3, o3 + m, none⟩ = some (.int .i64 (j : Int)) ∧ w'.cell? ⟨b4, o4 + j * 5 + 1, none⟩ = some (.int .i64 s) ∧ w'.cell? ⟨b4, o4 + j * 5 + 2, none⟩ = some (.int .i64 p)) (first | (go_keep; done) | (go_split_ands; refine ⟨?_, ?_, ?_, ?_, ?_⟩ <;> first | (with_reducible assumption) | (go_simp; done) | (go_keep; done) | exact (hcw2 _ _ (by first | assumption | (simp; done) | (simp; omega))).trans (by assumption))) (first | (go_at_call 67; refine (l2Hash_c ⟨s, p⟩ t.b.length _ KK.out (by have := HB16.out; omega) (by have := HB16.out; omega)).mono ?_; rw [← HHV.out]; rintro e w2 ⟨rfl, hbw2⟩; obtain ⟨hcw2, hfw2⟩ := bcell hbw2; have hzw2 := hbw2.size; (try simp only [World.size_alloc, World.size_setCell, World.size_drew] at hzw2); (try have q0w2 : w.heap.size < w2.heap.size := by omega); (try have q1w2 : w.heap.size + 1 < w2.heap.size := by omega); (try have q2w2 : w.heap.size + 1 + 1 < w2.heap.size := by omega); (try have q3w2 : w.heap.size + 1 + 1 + 1 < w2.heap.size := by omega); (try have q4w2 : w.heap.size + 1 + 1 + 1 + 1 < w2.heap.size := by omega)))
                  go_wp2
                  (first | (go_roundw; (case rel => exact ⟨m + 1, by omega, by go_num, HE.out, by first | assumption | go_simp, by first | assumption | go_simp, (by (repeat (first | (with_reducible exact Below.refl _ _) | (with_reducible assumption) | (with_reducible refine Below.setCell ?_ (by first | omega | (simp; done) | (simp; omega)) _) | (with_reducible refine Below.alloc ?_ (by first | omega | (simp; done) | (simp; omega)) _) | (with_reducible refine below_drewN ?_ _) | (with_reducible refine Below.drew ?_) | (with_reducible refine Below.trans ?_ (Below.mono (by assumption) (by first | omega | (simp; done) | (simp; omega))))))), (by (repeat (first | (with_reducible exact Below.refl _ _) | (with_reducible assumption) | (with_reducible refine Below.setCell ?_ (by first | omega | (simp; done) | (simp; omega)) _) | (with_reducible refine Below.alloc ?_ (by first | omega | (simp; done) | (simp; omega)) _) | (with_reducible refine below_drewN ?_ _) | (with_reducible refine Below.drew ?_) | (with_reducible refine Below.trans ?_ (Below.mono (by assumption) (by first | omega | (simp; done) | (simp; omega)))))))⟩); (case measure => simp [intOf]; omega)) | exact ⟨⟨m + 1, by omega, by go_num, HE.out, by first | assumption | go_simp, by first | assumption | go_simp, (by (repeat (first | (with_reducible exact Below.refl _ _) | (with_reducible assumption) | (with_reducible refine Below.setCell ?_ (by first | omega | (simp; done) | (simp; omega)) _) | (with_reducible refine Below.alloc ?_ (by first | omega | (simp; done) | (simp; omega)) _) | (with_reducible refine below_drewN ?_ _) | (with_reducible refine Below.drew ?_) | (with_reducible refine Below.trans ?_ (Below.mono (by assumption) (by first | omega | (simp; done) | (simp; omega))))))), (by (repeat (first | (with_reducible exact Below.refl _ _) | (with_reducible assumption) | (with_reducible refine Below.setCell ?_ (by first | omega | (simp; done) | (simp; omega)) _) | (with_reducible refine Below.alloc ?_ (by first | omega | (simp; done) | (simp; omega)) _) | (with_reducible refine below_drewN ?_ _) | (with_reducible refine Below.drew ?_) | (with_reducible refine Below.trans ?_ (Below.mono (by assumption) (by first | omega | (simp; done) | (simp; omega)))))))⟩, by simp [intOf]; omega⟩)
                · have HNO := Lib.hid (show tableOk t = false from noChain hlt (chainL_bad (j := j) (by rw [← HL.out, ← HJM.out]; exact List.getElem_mem hml) hj (by rw [← HK.out, ← HHV.out]; exact he)))
                  go_wp2
                  go_region_held3 (fun w' => w'.cell? ⟨w.heap.size, 0, none⟩ = some (.slice ab t.b.length cb) ∧ w'.cell? ⟨w.heap.size, 1, none⟩ = some (.slice (some ⟨b4, o4, none⟩) t.f.length cf) ∧ w'.cell? ⟨b3, o3 + m, none⟩ = some (.int .i64 (j : Int)) ∧ w'.cell? ⟨b4, o4 + j * 5 + 1, none⟩ = some (.int .i64 s) ∧ w'.cell? ⟨b4, o4 + j * 5 + 2, none⟩ = some (.int .i64 p)) (first | (go_keep; done) | (go_split_ands; refine ⟨?_, ?_, ?_, ?_, ?_⟩ <;> first | (with_reducible assumption) | (go_simp; done) | (go_keep; done) | exact (hcw2 _ _ (by first | assumption | (simp; done) | (simp; omega))).trans (by assumption))) (first | (go_at_call 67; refine (l2Hash_c ⟨s, p⟩ t.b.length _ KK.out (by have := HB16.out; omega) (by have := HB16.out; omega)).mono ?_; rw [← HHV.out]; rintro e w2 ⟨rfl, hbw2⟩; obtain ⟨hcw2, hfw2⟩ := bcell hbw2; have hzw2 := hbw2.size; (try simp only [World.size_alloc, World.size_setCell, World.size_drew] at hzw2); (try have q0w2 : w.heap.size < w2.heap.size := by omega); (try have q1w2 : w.heap.size + 1 < w2.heap.size := by omega); (try have q2w2 : w.heap.size + 1 + 1 < w2.heap.size := by omega); (try have q3w2 : w.heap.size + 1 + 1 + 1 < w2.heap.size := by omega); (try have q4w2 : w.heap.size + 1 + 1 + 1 + 1 < w2.heap.size := by omega)))
                  go_wp2
                  all_goals go_ret
                  all_goals exact ⟨ret_bool HNO.out.symm, (by (repeat (first | (with_reducible exact Below.refl _ _) | (with_reducible assumption) | (with_reducible refine Below.setCell ?_ (by first | omega | (simp; done) | (simp; omega)) _) | (with_reducible refine Below.alloc ?_ (by first | omega | (simp; done) | (simp; omega)) _) | (with_reducible refine below_drewN ?_ _) | (with_reducible refine Below.drew ?_) | (with_reducible refine Below.trans ?_ (Below.mono (by assumption) (by first | omega | (simp; done) | (simp; omega)))))))⟩
              · obtain rfl : m = L.length := by omega
                obtain ⟨M, hM, hM'⟩ := chainL_ok HOK.out (fun x hx h => by
                  rw [← HL.out] at hx
                  obtain ⟨y, hy, rfl⟩ := List.getElem_of_mem hx
                  exact HAL.out y hy hy h)
                have hlen : L.length = M.length := by rw [HL.out, hM']; simp
                have hcs := chainsLen_succ hM
                have HCS := Lib.hid hcs
                have HMM := Lib.hid hM
                have hMl : M.length ≤ 16 := by omega
                clear hM hM' hcs
                go_wp2
                refine ⟨⟨b + 1, by omega, by go_num, ?_, ?_, ?_, hcb, hcf, HBL.out⟩, by simp [intOf]; omega⟩
                · rw [HCS.out]; congr 1; simp; omega
                · intro j hj
                  by_cases e : j = b
                  · subst e; rw [HMM.out]; rfl
                  · exact HSO.out j (by omega)
                · rw [HCS.out]; omega
          · have hok' : (chainL t b).2 = false := by simpa using hok
            have HOK := Lib.hid hok'
            have HNO := Lib.hid (noChain hlt (chainL_no hok'))
            clear hok hok'
            go_wp2_with (first | (go_at_call 66; refine (l3Chain_c _ t b _ RT.out hlt (by omega)).mono ?_; rintro e w1 ⟨v1, rfl, ho1, hb1⟩; rw [HOK.out]; rw [← HL.out] at ho1; obtain ⟨ao1, cp1, rfl⟩ := ho1.shape; obtain ⟨hc1, hf1⟩ := bcell hb1))
            all_goals go_ret
            all_goals exact ⟨ret_bool HNO.out.symm, (by (repeat (first | (with_reducible exact Below.refl _ _) | (with_reducible assumption) | (with_reducible refine Below.setCell ?_ (by first | omega | (simp; done) | (simp; omega)) _) | (with_reducible refine Below.alloc ?_ (by first | omega | (simp; done) | (simp; omega)) _) | (with_reducible refine below_drewN ?_ _) | (with_reducible refine Below.drew ?_) | (with_reducible refine Below.trans ?_ (Below.mono (by assumption) (by first | omega | (simp; done) | (simp; omega)))))))⟩
        · obtain rfl : b = t.b.length := by omega
          have hr : tableOk t = decide ((un : Int) - (chainsLen t t.b.length : Nat) = 0) := by
            by_cases e : chainsLen t t.b.length = (usedKeys t.f).length
            · rw [decide_eq_true (by rw [UN.out, e]; omega)]
              have hbo := HB16.out
              exact tableOk_of ⟨h1, h1', by omega, by omega, ALL.out, KND.out, HSO.out, e⟩
            · rw [decide_eq_false (by rw [UN.out]; omega)]
              exact tableOk_not fun ht => e ht.sum
          have HR := Lib.hid hr
          clear hr
          go_wp2
          all_goals go_ret
          all_goals exact ⟨ret_bool (by rw [HR.out, Bool.eq_iff_iff, decide_eq_true_iff]; first | rw [beq_iff_eq] | simp), (by (repeat (first | (with_reducible exact Below.refl _ _) | (with_reducible assumption) | (with_reducible refine Below.setCell ?_ (by first | omega | (simp; done) | (simp; omega)) _) | (with_reducible refine Below.alloc ?_ (by first | omega | (simp; done) | (simp; omega)) _) | (with_reducible refine below_drewN ?_ _) | (with_reducible refine Below.drew ?_) | (with_reducible refine Below.trans ?_ (Below.mono (by assumption) (by first | omega | (simp; done) | (simp; omega)))))))⟩
end Go.Proofs.YtciliaiocakdkaaDoor
