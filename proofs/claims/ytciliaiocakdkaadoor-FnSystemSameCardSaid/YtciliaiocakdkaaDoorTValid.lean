/- impl.TableValid answers whether the table is valid. -/
import Derived.Test.YtciliaiocakdkaaDoorTab
import Derived.Test.YtciliaiocakdkaaDoorSet
import Derived.Test.YtciliaiocakdkaaDoorLeaf
import Derived.Test.YtciliaiocakdkaaDoorGlob
import Derived.Deep.LoopGhost
import Derived.Deep.RegionHeld3
set_option linter.unusedSimpArgs false
set_option linter.unusedVariables false
namespace Go.Proofs.YtciliaiocakdkaaDoor
open Go.RowKit

def keysV (l : List K) : List Value := l.map K.v
def intsV (l : List Nat) : List Value := l.map fun (n : Nat) => Value.int .i64 (n : Int)
theorem keysV_mem (k : K) (l : List K) : K.v k ∈ keysV l ↔ k ∈ l := by
  unfold keysV
  rw [List.mem_map]
  constructor
  · rintro ⟨⟨s, p⟩, hm, he⟩
    obtain ⟨s', p'⟩ := k
    simp [K.v] at he
    obtain ⟨rfl, rfl⟩ := he
    exact hm
  · intro h; exact ⟨k, h, rfl⟩
theorem intsV_mem (k : Nat) (l : List Nat) : Value.int .i64 (k : Int) ∈ intsV l ↔ k ∈ l := by
  unfold intsV
  rw [List.mem_map]
  constructor
  · rintro ⟨j, hm, he⟩
    have : j = k := by simp at he; omega
    subst this
    exact hm
  · intro h; exact ⟨k, h, rfl⟩
theorem notFrame {t : T} {k : Nat} (hk : k < t.f.length) (h : frameOk t.f[k] = false) : tableOk t = false :=
  tableOk_not fun ht => by have := ht.fr _ (List.getElem_mem hk); rw [h] at this; cases this
theorem zeroBool (w : World) : (zeroValue 4).run Tryd.prog w = .ok (.bool false) w := by kernel_rfl

set_option maxRecDepth 100000 in
set_option maxHeartbeats 1600000 in
theorem tableValid_c (v : Value) (t : T) (w : World) (h : RdT w v t) (hg : FreeG w) :
    Calls Tryd.prog 23 #[v] w fun x w' => x = .returned (.bool (tableOk t)) ∧ Below w.heap.size w w' := by
  obtain ⟨vb, vf, rfl, hb, hf⟩ := h
  have lb := hb.le
  have lf := hf.le
  obtain ⟨ab, cb, rfl, -⟩ := id hb
  obtain ⟨af, cf, rfl, -⟩ := id hf
  have hb1 : ∀ W, Below w.heap.size w W → Rd W (.slice ab t.b.length cb) t.b := fun W q => hb.below q
  have hf1 : ∀ W, Below w.heap.size w W → Rd W (.slice af t.f.length cf) t.f := fun W q => hf.below q
  have hg1 : ∀ W, Below w.heap.size w W → FreeG W := fun W q => hg.below q
  have HB := Lib.hid hb1
  have HF := Lib.hid hf1
  have HG := Lib.hid hg1
  clear hb1 hf1 hb hf hg1 hg
  by_cases h1 : 1 ≤ t.f.length ∧ t.f.length ≤ 16
  case neg =>
    have hno : tableOk t = false := tableOk_not fun ht => h1 ⟨ht.f1, ht.f2⟩
    have HNO := Lib.hid hno
    clear hno
    go_enter Tryd.func23, Tryd.ntmps23
    by_cases h3 : t.f.length < 1
    · have h4 : (t.f.length : Int) < 1 := by omega
      clear h1 h3
      go_wp2
      all_goals go_ret
      all_goals exact ⟨ret_bool HNO.out.symm, (by (repeat (first | (with_reducible exact Below.refl _ _) | (with_reducible assumption) | (with_reducible refine Below.setCell ?_ (by first | omega | (simp; done) | (simp; omega)) _) | (with_reducible refine Below.alloc ?_ (by first | omega | (simp; done) | (simp; omega)) _) | (with_reducible refine below_drewN ?_ _) | (with_reducible refine Below.drew ?_) | (with_reducible refine Below.trans ?_ (Below.mono (by assumption) (by first | omega | (simp; done) | (simp; omega)))))))⟩
    · have h4 : (16 : Int) < t.f.length := by omega
      have h5 : (1 : Int) ≤ t.f.length := by omega
      clear h1 h3
      go_wp2
      all_goals go_ret
      all_goals exact ⟨ret_bool HNO.out.symm, (by (repeat (first | (with_reducible exact Below.refl _ _) | (with_reducible assumption) | (with_reducible refine Below.setCell ?_ (by first | omega | (simp; done) | (simp; omega)) _) | (with_reducible refine Below.alloc ?_ (by first | omega | (simp; done) | (simp; omega)) _) | (with_reducible refine below_drewN ?_ _) | (with_reducible refine Below.drew ?_) | (with_reducible refine Below.trans ?_ (Below.mono (by assumption) (by first | omega | (simp; done) | (simp; omega)))))))⟩
  by_cases h2 : bucketsOk t.b.length = true
  case neg =>
    have hno : tableOk t = false := tableOk_not fun ht => h2 (bucketsOk_iff.2 (by have := ht.b1; have := ht.b2; omega))
    have HNO := Lib.hid hno
    have h2' : bucketsOk t.b.length = false := by simpa using h2
    have h4 : (1 : Int) ≤ t.f.length := by omega
    have h5 : (t.f.length : Int) ≤ 16 := by omega
    clear hno h1 h2
    go_enter Tryd.func23, Tryd.ntmps23
    go_wp2_with (go_at_call 50; refine (bucketsValid_c _ _).mono ?_; rintro e w' ⟨rfl, rfl⟩)
    all_goals go_ret
    all_goals exact ⟨ret_bool HNO.out.symm, (by (repeat (first | (with_reducible exact Below.refl _ _) | (with_reducible assumption) | (with_reducible refine Below.setCell ?_ (by first | omega | (simp; done) | (simp; omega)) _) | (with_reducible refine Below.alloc ?_ (by first | omega | (simp; done) | (simp; omega)) _) | (with_reducible refine below_drewN ?_ _) | (with_reducible refine Below.drew ?_) | (with_reducible refine Below.trans ?_ (Below.mono (by assumption) (by first | omega | (simp; done) | (simp; omega)))))))⟩
  obtain ⟨h1, h1'⟩ := h1
  go_enter Tryd.func23, Tryd.ntmps23
  have hmm := @run_makeMap Tryd.prog
  go_wp2_with (go_at_call 50; refine (bucketsValid_c _ _).mono ?_; rintro e w' ⟨rfl, rfl⟩)
  clear hmm
  have CB := Lib.hid (show ∀ W, Below w.heap.size w W → Rd W (.slice af t.f.length cf) t.f from HF.out)
  have HM0 := SetM.made Tryd.prog 36 (w.alloc (.cells #[.slice ab t.b.length cb, .slice af t.f.length cf] 26))
  rw [World.size_alloc] at HM0
  go_loopw [30] (fun i wr => ∃ k : Nat, k ≤ t.f.length ∧ i = .int .i64 k ∧ (∀ f ∈ t.f.take k, frameOk f = true) ∧ (usedKeys (t.f.take k)).Nodup ∧ SetM Tryd.prog 36 wr (w.heap.size + 1) (keysV (usedKeys (t.f.take k))) ∧
      wr.cell? ⟨w.heap.size, 0, none⟩ = some (.slice ab t.b.length cb) ∧ wr.cell? ⟨w.heap.size, 1, none⟩ = some (.slice af t.f.length cf) ∧ Below w.heap.size w wr)
    (fun i _ => t.f.length - (intOf i).toNat)
  case atStart => exact ⟨0, by omega, rfl, by simp, by simp [usedKeys], by simpa [usedKeys, keysV] using HM0, by go_simp, by go_simp, (by (repeat (first | (with_reducible exact Below.refl _ _) | (with_reducible assumption) | (with_reducible refine Below.setCell ?_ (by first | omega | (simp; done) | (simp; omega)) _) | (with_reducible refine Below.alloc ?_ (by first | omega | (simp; done) | (simp; omega)) _) | (with_reducible refine below_drewN ?_ _) | (with_reducible refine Below.drew ?_) | (with_reducible refine Below.trans ?_ (Below.mono (by assumption) (by first | omega | (simp; done) | (simp; omega)))))))⟩
  case round =>
    obtain ⟨k, hk, rfl, hfo, hnd, hm, hcb, hcf, hbl⟩ := hrel
    have hml := hm.lt
    have z0 : w.heap.size < wr.heap.size := by omega
    have HM := Lib.hid hm
    have HFO := Lib.hid hfo
    have HND := Lib.hid hnd
    have HBL := Lib.hid hbl
    clear hm hfo hnd hbl HM0
    by_cases hlt : k < t.f.length
    · obtain ⟨b1, o1, rfl, c0, c1, c2, c3, c4⟩ := (HF.out _ HBL.out).frameAt k hlt
      have hb1 : b1 < wr.heap.size := World.block_lt_of_cell? _ _ c0
      have i1 : (0:Int) ≤ (k:Int) := by omega
      have i2 : (k:Int) < (t.f.length : Int) := by omega
      obtain ⟨f, hf⟩ : ∃ f, f = t.f[k] := ⟨_, rfl⟩
      rw [← hf] at c0 c1 c2 c3 c4
      have HK := Lib.hid hf
      clear hf
      obtain ⟨g0, g1, g2, g3, g4⟩ := HG.out _ HBL.out
      have g00 : (0 : Nat) < wr.heap.size := World.block_lt_of_cell? _ _ g0
      obtain ⟨u, ⟨s, p⟩, r, nx⟩ := f
      simp only [] at c0 c1 c2 c3 c4
      cases u
      · by_cases hfree : (⟨false, ⟨s, p⟩, r, nx⟩ : F) = freeF
        · simp only [freeF, F.mk.injEq, K.mk.injEq, true_and] at hfree
          obtain ⟨⟨rfl, rfl⟩, rfl, rfl⟩ := hfree
          go_wp2
          have hfo := HFO.out
          have hnd := HND.out
          have hm := HM.out
          have hk' := HK.out
          have hu : t.f[k].u = false := by rw [← hk']
          refine ⟨⟨k + 1, by omega, by go_num, forall_take_snoc hlt hfo (by rw [← hk']; rfl), ?_, ?_, by go_simp, by go_simp, ?_⟩, by simp [intOf]; omega⟩
          · rw [usedKeys_snoc _ _ hlt, hu]; simpa using hnd
          · rw [usedKeys_snoc _ _ hlt, hu]; simpa using hm.below ((Below.refl _ _).alloc (Nat.le_refl _) _)
          · have := HBL.out; (repeat (first | (with_reducible exact Below.refl _ _) | (with_reducible assumption) | (with_reducible refine Below.setCell ?_ (by first | omega | (simp; done) | (simp; omega)) _) | (with_reducible refine Below.alloc ?_ (by first | omega | (simp; done) | (simp; omega)) _) | (with_reducible refine below_drewN ?_ _) | (with_reducible refine Below.drew ?_) | (with_reducible refine Below.trans ?_ (Below.mono (by assumption) (by first | omega | (simp; done) | (simp; omega))))))
        · have HN := Lib.hid hfree
          clear hfree
          have hno : tableOk t = false := notFrame hlt (by rw [← HK.out]; have := HN.out; simp [frameOk, this])
          have HBL' := HBL.out
          have hx : ¬ (s = 0 ∧ p = 0 ∧ r = 0 ∧ nx = -1) := fun e => HN.out (by obtain ⟨rfl, rfl, rfl, rfl⟩ := e; rfl)
          go_wp2
          all_goals go_ret
          all_goals exact ⟨ret_bool hno.symm, (by (repeat (first | (with_reducible exact Below.refl _ _) | (with_reducible assumption) | (with_reducible refine Below.setCell ?_ (by first | omega | (simp; done) | (simp; omega)) _) | (with_reducible refine Below.alloc ?_ (by first | omega | (simp; done) | (simp; omega)) _) | (with_reducible refine below_drewN ?_ _) | (with_reducible refine Below.drew ?_) | (with_reducible refine Below.trans ?_ (Below.mono (by assumption) (by first | omega | (simp; done) | (simp; omega)))))))⟩
      · by_cases hk1 : keyOk ⟨s, p⟩ = true
        · have hkb := keyOk_iff.1 hk1
          simp only [] at hkb
          have IK := Lib.hid (isKeyKey s p (by omega) (by omega))
          by_cases hr1 : rightsOk r = true
          · by_cases hin : (⟨s, p⟩ : K) ∈ usedKeys (t.f.take k)
            · have HL := Lib.hid (show Is true (Value.agg #[.int .i64 s, .int .i64 p] ∈ keysV (usedKeys (t.f.take k))) from .yes ((keysV_mem ⟨s, p⟩ _).2 hin))
              have hno : tableOk t = false := tableOk_not fun ht => usedKeys_dup t.f k hlt (by rw [← HK.out]) (by rw [← HK.out]; exact hin) ht.ks
              have HNO := Lib.hid hno
              clear hin hno
              have hbl := HBL.out
              go_wp2_with (first | (go_at_call 30; refine (keyValid_c ⟨s, p⟩ _).mono ?_; rintro e w1 ⟨rfl, hbw1⟩; obtain ⟨hcw1, hfw1⟩ := bcell hbw1; have hzw1 := hbw1.size; (try simp only [World.size_alloc, World.size_setCell, World.size_drew] at hzw1); (try have q0w1 : w.heap.size < w1.heap.size := by omega); (try have q1w1 : w.heap.size + 1 < w1.heap.size := by omega); (try have q2w1 : w.heap.size + 1 + 1 < w1.heap.size := by omega); (try have q3w1 : w.heap.size + 1 + 1 + 1 < w1.heap.size := by omega); (try have q4w1 : w.heap.size + 1 + 1 + 1 + 1 < w1.heap.size := by omega)) | (go_at_call 51; refine (rightsValid_c _ _).mono ?_; rintro e w' ⟨rfl, rfl⟩) | (at_lookup; refine wpList_look (by rfl) _ _ _ rfl rfl rfl (SetM.look keyKey (HM.out.below (by (repeat (first | (with_reducible exact Below.refl _ _) | (with_reducible assumption) | (with_reducible refine Below.setCell ?_ (by first | omega | (simp; done) | (simp; omega)) _) | (with_reducible refine Below.alloc ?_ (by first | omega | (simp; done) | (simp; omega)) _) | (with_reducible refine below_drewN ?_ _) | (with_reducible refine Below.drew ?_) | (with_reducible refine Below.trans ?_ (Below.mono (by assumption) (by first | omega | (simp; done) | (simp; omega)))))))) Tryd.underlying87 (zeroBool _) IK.out HL.out) ?_))
              all_goals go_ret
              all_goals exact ⟨ret_bool HNO.out.symm, (by (repeat (first | (with_reducible exact Below.refl _ _) | (with_reducible assumption) | (with_reducible refine Below.setCell ?_ (by first | omega | (simp; done) | (simp; omega)) _) | (with_reducible refine Below.alloc ?_ (by first | omega | (simp; done) | (simp; omega)) _) | (with_reducible refine below_drewN ?_ _) | (with_reducible refine Below.drew ?_) | (with_reducible refine Below.trans ?_ (Below.mono (by assumption) (by first | omega | (simp; done) | (simp; omega)))))))⟩
            · have HL := Lib.hid (show Is false (Value.agg #[.int .i64 s, .int .i64 p] ∈ keysV (usedKeys (t.f.take k))) from .no fun e => hin ((keysV_mem ⟨s, p⟩ _).1 e))
              have HI := Lib.hid hin
              clear hin
              have hbl := HBL.out
              go_wp2_with (first | (go_at_call 30; refine (keyValid_c ⟨s, p⟩ _).mono ?_; rintro e w1 ⟨rfl, hbw1⟩; obtain ⟨hcw1, hfw1⟩ := bcell hbw1; have hzw1 := hbw1.size; (try simp only [World.size_alloc, World.size_setCell, World.size_drew] at hzw1); (try have q0w1 : w.heap.size < w1.heap.size := by omega); (try have q1w1 : w.heap.size + 1 < w1.heap.size := by omega); (try have q2w1 : w.heap.size + 1 + 1 < w1.heap.size := by omega); (try have q3w1 : w.heap.size + 1 + 1 + 1 < w1.heap.size := by omega); (try have q4w1 : w.heap.size + 1 + 1 + 1 + 1 < w1.heap.size := by omega)) | (go_at_call 51; refine (rightsValid_c _ _).mono ?_; rintro e w' ⟨rfl, rfl⟩) | (at_lookup; refine wpList_look (by rfl) _ _ _ rfl rfl rfl (SetM.look keyKey (HM.out.below (by (repeat (first | (with_reducible exact Below.refl _ _) | (with_reducible assumption) | (with_reducible refine Below.setCell ?_ (by first | omega | (simp; done) | (simp; omega)) _) | (with_reducible refine Below.alloc ?_ (by first | omega | (simp; done) | (simp; omega)) _) | (with_reducible refine below_drewN ?_ _) | (with_reducible refine Below.drew ?_) | (with_reducible refine Below.trans ?_ (Below.mono (by assumption) (by first | omega | (simp; done) | (simp; omega)))))))) Tryd.underlying87 (zeroBool _) IK.out HL.out) ?_) | (at_mapUpdate; refine wpList_setAdd (key := .agg #[.int .i64 s, .int .i64 p]) keyKey (by rfl) _ _ _ _ rfl rfl rfl rfl (HM.out.below (by (repeat (first | (with_reducible exact Below.refl _ _) | (with_reducible assumption) | (with_reducible refine Below.setCell ?_ (by first | omega | (simp; done) | (simp; omega)) _) | (with_reducible refine Below.alloc ?_ (by first | omega | (simp; done) | (simp; omega)) _) | (with_reducible refine below_drewN ?_ _) | (with_reducible refine Below.drew ?_) | (with_reducible refine Below.trans ?_ (Below.mono (by assumption) (by first | omega | (simp; done) | (simp; omega)))))))) Tryd.underlying87 IK.out HL.out ?_; intro w5 hm5 hg5 hz5))
              have hk' := HK.out
              have hu : t.f[k].u = true := by rw [← hk']
              have e5 : usedKeys (t.f.take (k + 1)) = usedKeys (t.f.take k) ++ [⟨s, p⟩] := by rw [usedKeys_snoc _ _ hlt, hu, ← hk']; rfl
              refine ⟨⟨k + 1, by omega, by go_num, forall_take_snoc hlt HFO.out (by rw [← hk']; simp [frameOk, hk1, hr1]), ?_, ?_, hg5.cell (a := ⟨w.heap.size, 0, none⟩) (by go_simp) (by simp), hg5.cell (a := ⟨w.heap.size, 1, none⟩) (by go_simp) (by simp), Below.grown (w := w1) (by (repeat (first | (with_reducible exact Below.refl _ _) | (with_reducible assumption) | (with_reducible refine Below.setCell ?_ (by first | omega | (simp; done) | (simp; omega)) _) | (with_reducible refine Below.alloc ?_ (by first | omega | (simp; done) | (simp; omega)) _) | (with_reducible refine below_drewN ?_ _) | (with_reducible refine Below.drew ?_) | (with_reducible refine Below.trans ?_ (Below.mono (by assumption) (by first | omega | (simp; done) | (simp; omega))))))) hg5 (by omega) (by intro k hk; simp at hk; omega)⟩, by simp [intOf]; omega⟩
              · rw [e5]
                exact List.nodup_append.2 ⟨HND.out, by simp, fun a ha b hb => by simp at hb; subst hb; rintro rfl; exact HI.out ha⟩
              · rw [e5]
                simpa [keysV, K.v] using hm5
          · have hno : tableOk t = false := notFrame hlt (by rw [← HK.out]; simp [frameOk, hk1, hr1])
            have HNO := Lib.hid hno
            clear hno
            have hbl := HBL.out
            go_wp2_with (first | (go_at_call 30; refine (keyValid_c ⟨s, p⟩ _).mono ?_; rintro e w1 ⟨rfl, hbw1⟩; obtain ⟨hcw1, hfw1⟩ := bcell hbw1; have hzw1 := hbw1.size; (try simp only [World.size_alloc, World.size_setCell, World.size_drew] at hzw1); (try have q0w1 : w.heap.size < w1.heap.size := by omega); (try have q1w1 : w.heap.size + 1 < w1.heap.size := by omega); (try have q2w1 : w.heap.size + 1 + 1 < w1.heap.size := by omega); (try have q3w1 : w.heap.size + 1 + 1 + 1 < w1.heap.size := by omega); (try have q4w1 : w.heap.size + 1 + 1 + 1 + 1 < w1.heap.size := by omega)) | (go_at_call 51; refine (rightsValid_c _ _).mono ?_; rintro e w' ⟨rfl, rfl⟩))
            all_goals go_ret
            all_goals exact ⟨ret_bool HNO.out.symm, (by (repeat (first | (with_reducible exact Below.refl _ _) | (with_reducible assumption) | (with_reducible refine Below.setCell ?_ (by first | omega | (simp; done) | (simp; omega)) _) | (with_reducible refine Below.alloc ?_ (by first | omega | (simp; done) | (simp; omega)) _) | (with_reducible refine below_drewN ?_ _) | (with_reducible refine Below.drew ?_) | (with_reducible refine Below.trans ?_ (Below.mono (by assumption) (by first | omega | (simp; done) | (simp; omega)))))))⟩
        · have hno : tableOk t = false := notFrame hlt (by rw [← HK.out]; simp [frameOk, hk1])
          have HNO := Lib.hid hno
          clear hno
          have hbl := HBL.out
          go_wp2_with (first | (go_at_call 30; refine (keyValid_c ⟨s, p⟩ _).mono ?_; rintro e w1 ⟨rfl, hbw1⟩; obtain ⟨hcw1, hfw1⟩ := bcell hbw1; have hzw1 := hbw1.size; (try simp only [World.size_alloc, World.size_setCell, World.size_drew] at hzw1); (try have q0w1 : w.heap.size < w1.heap.size := by omega); (try have q1w1 : w.heap.size + 1 < w1.heap.size := by omega); (try have q2w1 : w.heap.size + 1 + 1 < w1.heap.size := by omega); (try have q3w1 : w.heap.size + 1 + 1 + 1 < w1.heap.size := by omega); (try have q4w1 : w.heap.size + 1 + 1 + 1 + 1 < w1.heap.size := by omega)))
          all_goals go_ret
          all_goals exact ⟨ret_bool HNO.out.symm, (by (repeat (first | (with_reducible exact Below.refl _ _) | (with_reducible assumption) | (with_reducible refine Below.setCell ?_ (by first | omega | (simp; done) | (simp; omega)) _) | (with_reducible refine Below.alloc ?_ (by first | omega | (simp; done) | (simp; omega)) _) | (with_reducible refine below_drewN ?_ _) | (with_reducible refine Below.drew ?_) | (with_reducible refine Below.trans ?_ (Below.mono (by assumption) (by first | omega | (simp; done) | (simp; omega)))))))⟩
    · obtain rfl : k = t.f.length := by omega
      have ALL := Lib.hid (show ∀ f ∈ t.f, frameOk f = true from by have := HFO.out; rwa [List.take_length] at this)
      have KND := Lib.hid (show (usedKeys t.f).Nodup from by have := HND.out; rwa [List.take_length] at this)
      have KM := Lib.hid (show SetM Tryd.prog 36 wr (w.heap.size + 1) (keysV (usedKeys t.f)) from by have := HM.out; rwa [List.take_length] at this)
      clear HFO HND HM
      have hmm := @run_makeMap Tryd.prog
      go_wp2
      clear hmm
      have MZ := Lib.hid (show w.heap.size + 1 < wr.heap.size from hml)
      have HM0 := SetM.made Tryd.prog 3 wr
      obtain ⟨mb, hmb⟩ : ∃ mb, mb = wr.heap.size := ⟨_, rfl⟩
      rw [← hmb] at HM0
      obtain ⟨wo, hwo⟩ : ∃ wo, wo = wr.alloc (.map #[] 0) := ⟨_, rfl⟩
      have K1 := Lib.hid (show SetM Tryd.prog 36 wo (w.heap.size + 1) (keysV (usedKeys t.f)) from by rw [hwo]; exact KM.out.below ((Below.refl _ _).alloc (Nat.le_refl _) _))
      have B1 := Lib.hid (show Below w.heap.size w wo from by rw [hwo]; exact HBL.out.alloc (by omega) _)
      have q1 : wo.cell? ⟨w.heap.size, 0, none⟩ = some (.slice ab t.b.length cb) := by rw [hwo]; go_simp
      have q2 : wo.cell? ⟨w.heap.size, 1, none⟩ = some (.slice af t.f.length cf) := by rw [hwo]; go_simp
      have hmw : w.heap.size + 1 < mb := by rw [hmb]; exact hml
      rw [← hwo] at HM0 ⊢
      simp only [← hmb]
      clear KM HBL hwo hmb hcb hcf hml z0
      go_loopw [75] (fun i wi => ∃ b : Nat, b ≤ t.b.length ∧ i = .int .i64 b ∧ (∀ j, j < b → (chain t j).isSome = true) ∧ (mets t b).Nodup ∧ SetM Tryd.prog 3 wi mb (intsV (mets t b)) ∧ SetM Tryd.prog 36 wi (w.heap.size + 1) (keysV (usedKeys t.f)) ∧
          wi.cell? ⟨w.heap.size, 0, none⟩ = some (.slice ab t.b.length cb) ∧ wi.cell? ⟨w.heap.size, 1, none⟩ = some (.slice af t.f.length cf) ∧ Below w.heap.size w wi)
        (fun i _ => t.b.length - (intOf i).toNat)
      case atStart => exact ⟨0, by omega, rfl, fun j hj => by omega, by simp [mets], by simpa [mets, intsV] using HM0, K1.out, q1, q2, B1.out⟩
      case round =>
        obtain ⟨b, hb, rfl, hso, hnd, hm, hkm, hcb, hcf, hbl⟩ := hrel
        have HM := Lib.hid hm
        have HKM := Lib.hid hkm
        have HND := Lib.hid hnd
        have HSO := Lib.hid hso
        have HBL := Lib.hid hbl
        clear hm hkm hnd hso hbl HM0 q1 q2 K1 B1
        by_cases hlt : b < t.b.length
        · obtain ⟨b1, o1, rfl, c0⟩ := (HB.out _ HBL.out).intAt b hlt
          have i1 : (0:Int) ≤ (b:Int) := by omega
          have i2 : (b:Int) < (t.b.length : Int) := by omega
          go_wp2
          obtain ⟨wu, rfl⟩ : ∃ wu, wu = wr := ⟨_, rfl⟩
          have P0 := Lib.hid (Path.start hlt)
          clear c0
          go_loopg [9] t.f.length (fun g at_ wk => ∃ (L : List Nat) (i : Int), g = t.f.length - L.length ∧ at_ = .int .i64 i ∧ Path t b L i ∧ (mets t b ++ L).Nodup ∧ (∀ x ∈ L, x < t.f.length) ∧ SetM Tryd.prog 3 wk mb (intsV (mets t b ++ L)) ∧
              SetM Tryd.prog 36 wk (w.heap.size + 1) (keysV (usedKeys t.f)) ∧ wk.cell? ⟨w.heap.size, 0, none⟩ = some (.slice (some ⟨b1, o1, none⟩) t.b.length cb) ∧ wk.cell? ⟨w.heap.size, 1, none⟩ = some (.slice af t.f.length cf) ∧ Below w.heap.size w wk)
          case atStart => exact ⟨[], _, by simp, rfl, P0.out, by simpa using HND.out, by simp, by simpa using HM.out, HKM.out, hcb, hcf, HBL.out⟩
          case round =>
            obtain ⟨L, i, hg, rfl, hp, hnd, hL, hm, hkm, hcb, hcf, hbl⟩ := hrel
            have hmt := hm.lt
            have HM' := Lib.hid hm
            have HKM' := Lib.hid hkm
            have HND' := Lib.hid hnd
            have HL := Lib.hid hL
            have HBL' := Lib.hid hbl
            have HP := Lib.hid hp
            have HGK := Lib.hid hg
            clear hm hkm hnd hL hbl hp P0 HM HKM HND HBL hg
            by_cases hi : i = -1
            · subst hi
              have hch := HP.out.fin
              have e6 : mets t (b + 1) = mets t b ++ L := by rw [mets_succ, hch]; rfl
              have E6 := Lib.hid e6
              have HCH := Lib.hid hch
              clear e6 hch
              go_wp2
              refine ⟨⟨b + 1, by omega, by go_num, fun j hj => ?_, by rw [E6.out]; exact HND'.out, by rw [E6.out]; exact HM'.out, HKM'.out, hcb, hcf, HBL'.out⟩, by simp [intOf]; omega⟩
              by_cases e : j = b
              · subst e; rw [HCH.out]; rfl
              · exact HSO.out j (by omega)
            · have hi1 : (i != -1) = true := by simp [hi]
              by_cases hw : within i t.f.length = true
              · obtain ⟨j, rfl⟩ : ∃ j : Nat, i = j := ⟨i.toNat, by have := within_iff.1 hw; omega⟩
                have hj : j < t.f.length := by have := within_iff.1 hw; omega
                have IK := Lib.hid (isKeyInt (j : Int) (by omega))
                by_cases hin : j ∈ mets t b ++ L
                · have hno : tableOk t = false := by
                    refine noChain hlt ?_
                    rcases List.mem_append.1 hin with hin | hin
                    · refine HP.out.out hi fun j' hj' hlt' _ hh => ?_
                      obtain rfl : j = j' := by omega
                      obtain ⟨q, hq, hx, _, hh'⟩ := mets_mem hin
                      rw [hh] at hh'
                      omega
                    · exact HP.out.rep hin
                  have HNO := Lib.hid hno
                  have hlk : ∀ n, (Instr.lookup 88 (.map (some mb)) (.int .i64 (j : Int)) false).run Tryd.prog (wr.drewN n) = .ok (.bool true) (wr.drewN n) := fun n =>
                    SetM.look keyInt (HM'.out.keep (w' := wr.drewN n) fun _ => rfl) Tryd.underlying88 (zeroBool _) IK.out (.yes ((intsV_mem j _).2 hin))
                  clear hno hin
                  have hbl := HBL'.out
                  go_wp2
                  go_quiet ((go_at_call 27; exact Calls.quiet_of_same ((within_c _ _ _).mono fun _ _ h => ⟨h.1, h.2.symm⟩)))
                  go_wp2
                  all_goals go_ret
                  all_goals exact ⟨ret_bool HNO.out.symm, (by (repeat (first | (with_reducible exact Below.refl _ _) | (with_reducible assumption) | (with_reducible refine Below.setCell ?_ (by first | omega | (simp; done) | (simp; omega)) _) | (with_reducible refine Below.alloc ?_ (by first | omega | (simp; done) | (simp; omega)) _) | (with_reducible refine below_drewN ?_ _) | (with_reducible refine Below.drew ?_) | (with_reducible refine Below.trans ?_ (Below.mono (by assumption) (by first | omega | (simp; done) | (simp; omega)))))))⟩
                · have hlk : ∀ n, (Instr.lookup 88 (.map (some mb)) (.int .i64 (j : Int)) false).run Tryd.prog (wr.drewN n) = .ok (.bool false) (wr.drewN n) := fun n =>
                    SetM.look keyInt (HM'.out.keep (w' := wr.drewN n) fun _ => rfl) Tryd.underlying88 (zeroBool _) IK.out (.no fun e => hin ((intsV_mem j _).1 e))
                  have HIN := Lib.hid hin
                  clear hin
                  obtain ⟨b2, o2, rfl, d0, d1, d2, d3, d4⟩ := (HF.out _ HBL'.out).frameAt j hj
                  have hb2 : b2 < wr.heap.size := World.block_lt_of_cell? _ _ d0
                  obtain ⟨f, hf⟩ : ∃ f, f = t.f[j] := ⟨_, rfl⟩
                  rw [← hf] at d0 d1 d2 d3 d4
                  have HK := Lib.hid hf
                  clear hf
                  have hbl := HBL'.out
                  have j1 : (0:Int) ≤ (j:Int) := by omega
                  have j2 : (j:Int) < (t.f.length : Int) := by omega
                  obtain ⟨u, ⟨s, p⟩, r, nx⟩ := f
                  simp only [] at d0 d1 d2 d3 d4
                  cases u
                  · have hno : tableOk t = false := by
                      refine noChain hlt (HP.out.out hi fun j' hj' hlt' hu _ => ?_)
                      obtain rfl : j = j' := by omega
                      rw [← HK.out] at hu
                      cases hu
                    have HNO := Lib.hid hno
                    clear hno
                    go_wp2
                    go_quiet ((go_at_call 27; exact Calls.quiet_of_same ((within_c _ _ _).mono fun _ _ h => ⟨h.1, h.2.symm⟩)))
                    go_wp2
                    all_goals go_ret
                    all_goals exact ⟨ret_bool HNO.out.symm, (by (repeat (first | (with_reducible exact Below.refl _ _) | (with_reducible assumption) | (with_reducible refine Below.setCell ?_ (by first | omega | (simp; done) | (simp; omega)) _) | (with_reducible refine Below.alloc ?_ (by first | omega | (simp; done) | (simp; omega)) _) | (with_reducible refine below_drewN ?_ _) | (with_reducible refine Below.drew ?_) | (with_reducible refine Below.trans ?_ (Below.mono (by assumption) (by first | omega | (simp; done) | (simp; omega)))))))⟩
                  · have hko : keyOk ⟨s, p⟩ = true := by
                      have := ALL.out _ (List.getElem_mem hj)
                      rw [← HK.out] at this
                      simp [frameOk] at this
                      exact this.1
                    have hbo := bucketsOk_iff.1 h2
                    have hs1 : w.heap.size < wr.heap.size := World.block_lt_of_cell? _ _ hcb
                    have NIN := Lib.hid (show Is false (Value.int .i64 (j : Int) ∈ intsV (mets t b ++ L)) from .no fun e => HIN.out ((intsV_mem j _).1 e))
                    have HH := Lib.hid (show ∀ W, Calls Tryd.prog 52 #[K.v ⟨s, p⟩, .int .i64 t.b.length] W fun x w' => x = .returned (.int .i64 (hashI ⟨s, p⟩ t.b.length)) ∧ Below W.heap.size W w' from fun W => hash_c ⟨s, p⟩ t.b.length W hko (by omega) (by omega))
                    obtain ⟨hv, hhv⟩ : ∃ hv, hv = hashI ⟨s, p⟩ t.b.length := ⟨_, rfl⟩
                    rw [← hhv] at HH
                    have HHV := Lib.hid hhv
                    clear hhv
                    have hb2w : b2 < w.heap.size := by
                      obtain ⟨b3, o3, e3, f0, _⟩ := (HF.out w (Below.refl _ _)).frameAt j hj
                      simp only [Option.some.injEq, Addr.mk.injEq, and_true] at e3
                      rw [e3.1]
                      exact World.block_lt_of_cell? _ _ f0
                    go_wp2
                    go_region_held3 (fun w' => w'.cell? ⟨w.heap.size, 0, none⟩ = some (.slice (some ⟨b1, o1, none⟩) t.b.length cb) ∧ w'.cell? ⟨w.heap.size, 1, none⟩ = some (.slice (some ⟨b2, o2, none⟩) t.f.length cf) ∧ w'.cell? ⟨b2, o2 + j * 5, none⟩ = some (.bool true) ∧ w'.cell? ⟨b2, o2 + j * 5 + 1, none⟩ = some (.int .i64 s) ∧ w'.cell? ⟨b2, o2 + j * 5 + 2, none⟩ = some (.int .i64 p) ∧ (Instr.lookup 88 (.map (some mb)) (.int .i64 (j : Int)) false).run Tryd.prog w' = .ok (.bool false) w') (first | (go_keep; done) | (go_split_ands; refine ⟨?_, ?_, ?_, ?_, ?_, ?_⟩ <;> first | (with_reducible assumption) | exact hlk 1 | exact hcb | exact hcf | exact d0 | exact d1 | exact d2 | exact (hcw2 _ _ hs1).trans (by assumption) | exact (hcw2 _ _ hb2).trans (by assumption) | exact SetM.look keyInt (HM'.out.below (by (repeat (first | (with_reducible exact Below.refl _ _) | (with_reducible assumption) | (with_reducible refine Below.setCell ?_ (by first | omega | (simp; done) | (simp; omega)) _) | (with_reducible refine Below.alloc ?_ (by first | omega | (simp; done) | (simp; omega)) _) | (with_reducible refine below_drewN ?_ _) | (with_reducible refine Below.drew ?_) | (with_reducible refine Below.trans ?_ (Below.mono (by assumption) (by first | omega | (simp; done) | (simp; omega)))))))) Tryd.underlying88 (zeroBool _) IK.out NIN.out)) (first | (go_at_call 27; refine (within_c _ _ _).mono ?_; rintro e w' ⟨rfl, rfl⟩) | (go_at_call 52; refine (HH.out _).mono ?_; rintro e w2 ⟨rfl, hbw2⟩; obtain ⟨hcw2, hfw2⟩ := bcell hbw2))
                    go_wp2_with (at_mapUpdate; refine wpList_setAdd (key := .int .i64 (j : Int)) keyInt (by rfl) _ _ _ _ rfl rfl rfl rfl (HM'.out.below (by (repeat (first | (with_reducible exact Below.refl _ _) | (with_reducible assumption) | (with_reducible refine Below.setCell ?_ (by first | omega | (simp; done) | (simp; omega)) _) | (with_reducible refine Below.alloc ?_ (by first | omega | (simp; done) | (simp; omega)) _) | (with_reducible refine below_drewN ?_ _) | (with_reducible refine Below.drew ?_) | (with_reducible refine Below.trans ?_ (Below.mono (by assumption) (by first | omega | (simp; done) | (simp; omega)))))))) Tryd.underlying88 IK.out NIN.out ?_; intro w5 hm5 hg5 hz5; have e50 := hg5.cell (a := ⟨w.heap.size, 0, none⟩) (((bcell hbw2).1 _ _ hs1).trans hcb) (by simp; omega); have e51 := hg5.cell (a := ⟨w.heap.size, 1, none⟩) (((bcell hbw2).1 _ _ hs1).trans hcf) (by simp; omega); have e54 := hg5.cell (a := ⟨b2, o2 + j * 5 + 4, none⟩) (((bcell hbw2).1 _ _ hb2).trans d4) (by simp; omega); have HM5 := Lib.hid hm5; have HG5 := Lib.hid hg5; clear hm5 hg5)
                    · go_ret
                      have hne : (hv != (b : Int)) = true := by assumption
                      have hno : tableOk t = false := by
                        refine noChain hlt (HP.out.out hi fun j' hj' hlt' _ hh' => ?_)
                        obtain rfl : j = j' := by omega
                        rw [HHV.out] at hne
                        rw [← HK.out] at hh'
                        simp [hh'] at hne
                      exact ⟨ret_bool hno.symm, (by (repeat (first | (with_reducible exact Below.refl _ _) | (with_reducible assumption) | (with_reducible refine Below.setCell ?_ (by first | omega | (simp; done) | (simp; omega)) _) | (with_reducible refine Below.alloc ?_ (by first | omega | (simp; done) | (simp; omega)) _) | (with_reducible refine below_drewN ?_ _) | (with_reducible refine Below.drew ?_) | (with_reducible refine Below.trans ?_ (Below.mono (by assumption) (by first | omega | (simp; done) | (simp; omega)))))))⟩
                    · have hev : hv = (b : Int) := by
                        by_cases h : hv = (b : Int)
                        · exact h
                        · have h1 : (hv != (b : Int)) = false := by assumption
                          simp at h1
                          exact h1
                      have hnd5 : (mets t b ++ (L ++ [j])).Nodup := by
                        rw [← List.append_assoc]
                        exact List.nodup_append.2 ⟨HND'.out, by simp, fun a ha c hc => by simp at hc; subst hc; rintro rfl; exact HIN.out ha⟩
                      have hL5 : ∀ x ∈ L ++ [j], x < t.f.length := by
                        intro x hx
                        rcases List.mem_append.1 hx with hx | hx
                        · exact HL.out x hx
                        · simp at hx; omega
                      have hlen5 := nodup_le (List.nodup_append.1 hnd5).2.1 hL5
                      simp only [List.length_append, List.length_singleton] at hlen5
                      have hgk := HGK.out
                      go_roundg (t.f.length - (L.length + 1))
                      case measure => omega
                      case rel =>
                        refine ⟨L ++ [j], nx, by simp, rfl, ?_, hnd5, hL5, ?_, (HKM'.out.below (by (repeat (first | (with_reducible exact Below.refl _ _) | (with_reducible assumption) | (with_reducible refine Below.setCell ?_ (by first | omega | (simp; done) | (simp; omega)) _) | (with_reducible refine Below.alloc ?_ (by first | omega | (simp; done) | (simp; omega)) _) | (with_reducible refine below_drewN ?_ _) | (with_reducible refine Below.drew ?_) | (with_reducible refine Below.trans ?_ (Below.mono (by assumption) (by first | omega | (simp; done) | (simp; omega)))))))).keep (fun _ => HG5.out.block _ (Nat.lt_trans hmw hmt |> fun h => Nat.lt_of_lt_of_le h hbw2.size) (by simp; omega)), e50, e51, Below.grown (w := w2) (by (repeat (first | (with_reducible exact Below.refl _ _) | (with_reducible assumption) | (with_reducible refine Below.setCell ?_ (by first | omega | (simp; done) | (simp; omega)) _) | (with_reducible refine Below.alloc ?_ (by first | omega | (simp; done) | (simp; omega)) _) | (with_reducible refine below_drewN ?_ _) | (with_reducible refine Below.drew ?_) | (with_reducible refine Below.trans ?_ (Below.mono (by assumption) (by first | omega | (simp; done) | (simp; omega))))))) HG5.out (by have := hbw2.size; simp at this; omega) (by intro k hk; simp at hk; omega)⟩
                        · have := HP.out.step (by omega) hj (by rw [← HK.out]) (by rw [← HK.out, ← hev, HHV.out])
                          rwa [← HK.out] at this
                        · have := HM5.out
                          rw [← List.append_assoc]
                          simpa [intsV] using this
              · have hno : tableOk t = false := noChain hlt (HP.out.out hi fun j hj hlt' _ _ => hw (within_iff.2 (by omega)))
                have HNO := Lib.hid hno
                have hwf : within i t.f.length = false := by simpa using hw
                clear hno hw
                have hbl := HBL'.out
                go_wp2
                go_quiet ((go_at_call 27; exact Calls.quiet_of_same ((within_c _ _ _).mono fun _ _ h => ⟨h.1, h.2.symm⟩)))
                go_wp2
                all_goals go_ret
                all_goals exact ⟨ret_bool HNO.out.symm, (by (repeat (first | (with_reducible exact Below.refl _ _) | (with_reducible assumption) | (with_reducible refine Below.setCell ?_ (by first | omega | (simp; done) | (simp; omega)) _) | (with_reducible refine Below.alloc ?_ (by first | omega | (simp; done) | (simp; omega)) _) | (with_reducible refine below_drewN ?_ _) | (with_reducible refine Below.drew ?_) | (with_reducible refine Below.trans ?_ (Below.mono (by assumption) (by first | omega | (simp; done) | (simp; omega)))))))⟩
        · obtain rfl : b = t.b.length := by omega
          have hl1 := HM.out.len Tryd.underlying88 3
          have hl2 := HKM.out.len Tryd.underlying87 3
          have hr : tableOk t = decide ((mets t t.b.length).length = (usedKeys t.f).length) := by
            rw [mets_len]
            by_cases e : chainsLen t t.b.length = (usedKeys t.f).length
            · rw [decide_eq_true e]
              have hbo := bucketsOk_iff.1 h2
              exact tableOk_of ⟨h1, h1', by omega, by omega, ALL.out, KND.out, HSO.out, e⟩
            · rw [decide_eq_false e]
              exact tableOk_not fun ht => e ht.sum
          have HR := Lib.hid hr
          clear hr
          have e1 : (intsV (mets t t.b.length)).length = (mets t t.b.length).length := by simp [intsV]
          have e2 : (keysV (usedKeys t.f)).length = (usedKeys t.f).length := by simp [keysV]
          rw [e1] at hl1
          rw [e2] at hl2
          clear e1 e2
          have hbl := HBL.out
          go_wp2
          all_goals go_ret
          all_goals refine ⟨ret_bool ?_, (by (repeat (first | (with_reducible exact Below.refl _ _) | (with_reducible assumption) | (with_reducible refine Below.setCell ?_ (by first | omega | (simp; done) | (simp; omega)) _) | (with_reducible refine Below.alloc ?_ (by first | omega | (simp; done) | (simp; omega)) _) | (with_reducible refine below_drewN ?_ _) | (with_reducible refine Below.drew ?_) | (with_reducible refine Below.trans ?_ (Below.mono (by assumption) (by first | omega | (simp; done) | (simp; omega)))))))⟩
          all_goals rw [HR.out]
          all_goals (rw [Bool.eq_iff_iff, beq_iff_eq, decide_eq_true_iff]; omega)
end Go.Proofs.YtciliaiocakdkaaDoor
