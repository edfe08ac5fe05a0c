/- The pure functions: what each function of the program computes, in plain Lean. Printed by a program (gen.py). -/
import Derived.Test.YtbhpohopfbcfgaaDoorE7
import Derived.Test.YtbhpohopfbcfgaaDoorDat
import Derived.Test.YtbhpohopfbcfgaaDoorPure
import Derived.Test.YtbhpohopfbcfgaaDoorMap
import Derived.Test.YtbhpohopfbcfgaaDoorCpy
import Derived.Test.YtbhpohopfbcfgaaDoorBits
set_option linter.unusedSimpArgs false
set_option linter.unusedVariables false
set_option linter.unusedSectionVars false
namespace Go.Proofs.YtbhpohopfbcfgaaDoor
open Go.RowKit
noncomputable section
def s_l12Rd_pick (fl : Nat) (a0_0 : (List UInt8)) (a0_1 : Int) (a1 : Int) : Option (Int × Int) :=
  Option.bind (ck (a0_1 + 1)) fun x1 =>
    Option.bind (cond (decide (a1 < 1)) (some true) (some (((a0_0).length : Int) == 0))) fun y2 =>
    cond y2
   (some (0, x1))
   (Option.bind (ck (x1 - 1)) fun x4 =>
      cond (decide (x4 < ((a0_0).length : Int)))
     (Option.bind (idx a0_0 x4) fun x6 =>
        Option.bind (ck (x6.toNat : Int)) fun x7 =>
        Option.bind (remO x7 a1) fun x8 =>
        some (x8, x1))
     (Option.bind (remO x4 ((a0_0).length : Int)) fun x9 =>
        Option.bind (idx a0_0 x9) fun x10 =>
        Option.bind (ck (x10.toNat : Int)) fun x11 =>
        Option.bind (ck (x11 * 131)) fun x12 =>
        Option.bind (ck (x4 * 7)) fun x13 =>
        Option.bind (ck (x13 + 3)) fun x14 =>
        Option.bind (remO x14 ((a0_0).length : Int)) fun x15 =>
        Option.bind (idx a0_0 x15) fun x16 =>
        Option.bind (ck (x16.toNat : Int)) fun x17 =>
        Option.bind (ck (x17 * 1117)) fun x18 =>
        Option.bind (ck (x12 + x18)) fun x19 =>
        Option.bind (ck (x4 * 29)) fun x20 =>
        Option.bind (ck (x19 + x20)) fun x21 =>
        Option.bind (quoO x4 ((a0_0).length : Int)) fun x22 =>
        Option.bind (ck (x22 * 53)) fun x23 =>
        Option.bind (ck (x21 + x23)) fun x24 =>
        Option.bind (quoO x24 64) fun x25 =>
        Option.bind (remO (bXor x24 x25) a1) fun x26 =>
        some (x26, x1)))

def s_l12Rd_num (fl : Nat) (a0_0 : (List UInt8)) (a0_1 : Int) (a1 : (List Int)) : Option (Int × Int) :=
  Option.bind (s_l12Rd_pick fl a0_0 a0_1 ((a1).length : Int)) fun x1 =>
    Option.bind (idx a1 x1.1) fun x2 =>
    some (x2, x1.2)

def s_l2Buckets (fl : Nat) (a0 : Int) : Option Bool :=
  Option.bind (cond (decide (1 ≤ a0)) (some (decide (a0 ≤ 16))) (some false)) fun y1 =>
    some y1

def s_NewTable_L0 (fl : Nat) (a1 : Int) : Nat → (List Int) → Int → Option (LO ((List Int) × Int) (T × Bool))
  | 0, _, _ => none
  | fuel + 1, v7, v12 => cond (decide (v12 < a1))
     (Option.bind (cnt (v7 ++ [(-1)])) fun x16 =>
        Option.bind (ck (v12 + 1)) fun x20 =>
        s_NewTable_L0 fl a1 fuel x16 x20)
     (some (.out (v7, v12)))
def s_NewTable_L1 (fl : Nat) (a0 : Int) : Nat → (List F) → Int → Option (LO ((List F) × Int) (T × Bool))
  | 0, _, _ => none
  | fuel + 1, v21, v26 => cond (decide (v26 < a0))
     (Option.bind (cnt (v21 ++ [(⟨false, (⟨0, 0⟩ : K), 0, (-1)⟩ : F)])) fun x30 =>
        Option.bind (ck (v26 + 1)) fun x34 =>
        s_NewTable_L1 fl a0 fuel x30 x34)
     (some (.out (v21, v26)))
def s_NewTable (fl : Nat) (a0 : Int) (a1 : Int) : Option (T × Bool) :=
  Option.bind (cond (decide (a0 < 1)) (some true) (some (decide (16 < a0)))) fun y2 =>
    Option.bind (cond y2 (some true) (Option.bind (s_l2Buckets fl a1) fun x4 =>
    some (!x4))) fun y3 =>
    cond y3
   (some ((⟨[], []⟩ : T), false))
   (Option.bind (s_NewTable_L0 fl a1 fl ([]) 0) fun o => match o with
      | .ret r' => some r'
      | .out (v7, v12) =>
      Option.bind (s_NewTable_L1 fl a0 fl ([]) 0) fun o => match o with
      | .ret r' => some r'
      | .out (v21, v26) =>
      some ((⟨v7, v21⟩ : T), true))

def s_l2Draw (fl : Nat) (a0_0 : (List UInt8)) (a0_1 : Int) : Option (K × Int) :=
  Option.bind (s_l12Rd_num fl a0_0 a0_1 ([0, 1, 2, 3, 1])) fun x4 =>
    Option.bind (s_l12Rd_num fl a0_0 x4.2 ([0, 1, 2, 3, 4, 5, 100, 255])) fun x7 =>
    some ((⟨x4.1, x7.1⟩ : K), x7.2)

def s_TableValid (fl : Nat) (a0 : T) : Option Bool := some (tableOk a0)

def s_l1Space (fl : Nat) (a0 : Int) : Option Bool :=
  Option.bind (cond (decide (0 ≤ a0)) (some (decide (a0 < 16))) (some false)) fun y1 =>
    some y1

def s_l1Page (fl : Nat) (a0 : Int) : Option Bool :=
  Option.bind (cond (decide (0 ≤ a0)) (some (decide (a0 < 256))) (some false)) fun y1 =>
    some y1

def s_KeyValid (fl : Nat) (a0 : K) : Option Bool :=
  Option.bind (s_l1Space fl a0.s) fun x2 =>
    Option.bind (cond x2 (Option.bind (s_l1Page fl a0.p) fun x4 =>
    some x4) (some false)) fun y3 =>
    some y3

def s_RightsValid (fl : Nat) (a0 : Int) : Option Bool :=
  Option.bind (cond (decide (0 ≤ a0)) (some (decide (a0 ≤ 7))) (some false)) fun y1 =>
    some y1

def s_l2Hash (fl : Nat) (a0 : K) (a1 : Int) : Option Int :=
  Option.bind (ck (a0.s * 256)) fun x2 =>
    Option.bind (ck (x2 + a0.p)) fun x3 =>
    Option.bind (ck (x3 * 2654435761)) fun x4 =>
    Option.bind (remO x4 4294967296) fun x5 =>
    Option.bind (ck (x5 * a1)) fun x6 =>
    Option.bind (quoO x6 4294967296) fun x7 =>
    some x7

def s_l3Chain_L0 (fl : Nat) (a0 : T) : Nat → (List Int) → Int → Option (LO ((List Int) × Int) ((List Int) × Bool))
  | 0, _, _ => none
  | fuel + 1, v5, v10 => cond (v10 != (-1))
     (Option.bind (cond (decide (v10 < 0)) (some true) (some (decide (((a0.f).length : Int) ≤ v10)))) fun y12 =>
        Option.bind (cond y12 (some true) (some (decide (((a0.f).length : Int) ≤ ((v5).length : Int))))) fun y13 =>
        Option.bind (cond y13 (some true) (Option.bind (idx a0.f v10) fun x15 =>
        some (!x15.u))) fun y14 =>
        cond y14
       (some (.ret (v5, false)))
       (Option.bind (cnt (v5 ++ [v10])) fun x19 =>
          Option.bind (idx a0.f v10) fun x23 =>
          s_l3Chain_L0 fl a0 fuel x19 x23.nx))
     (some (.out (v5, v10)))
def s_l3Chain (fl : Nat) (a0 : T) (a1 : Int) : Option ((List Int) × Bool) :=
  Option.bind (idx a0.b a1) fun x4 =>
    Option.bind (s_l3Chain_L0 fl a0 fl ([] : List Int) x4) fun o => match o with
    | .ret r' => some r'
    | .out (v5, v10) =>
    some (v5, true)

def s_l3Find_L0 (fl : Nat) (a0 : T) (a1 : K) (x4 : ((List Int) × Bool)) : Nat → Int → Option (LO Int (Int × Int))
  | 0, _ => none
  | fuel + 1, v9 => cond (decide (v9 < ((x4.1).length : Int)))
     (Option.bind (idx x4.1 v9) fun x11 =>
        Option.bind (idx a0.f x11) fun x12 =>
        cond (x12.k == a1)
       (Option.bind (ck (v9 + 1)) fun x14 =>
          some (.ret (x11, x14)))
       (Option.bind (ck (v9 + 1)) fun x15 =>
          s_l3Find_L0 fl a0 a1 x4 fuel x15))
     (some (.out v9))
def s_l3Find (fl : Nat) (a0 : T) (a1 : K) : Option (Int × Int) :=
  Option.bind (s_l2Hash fl a1 ((a0.b).length : Int)) fun x3 =>
    Option.bind (s_l3Chain fl a0 x3) fun x4 =>
    Option.bind (s_l3Find_L0 fl a0 a1 x4 fl 0) fun o => match o with
    | .ret r' => some r'
    | .out v9 =>
    some ((-1), ((x4.1).length : Int))

def s_l3Copy (fl : Nat) (a0 : T) : Option T :=
  Option.bind (cnt (([] : List Int) ++ a0.b)) fun x5 =>
    Option.bind (cnt (([] : List F) ++ a0.f)) fun x11 =>
    some (⟨x5, x11⟩ : T)

def s_l3Map (fl : Nat) (a0 : T) (a1 : K) (a2 : Int) (a3 : Int) : Option T :=
  Option.bind (s_l3Copy fl a0) fun x4 =>
    Option.bind (s_l2Hash fl a1 ((a0.b).length : Int)) fun x14 =>
    Option.bind (idx x4.b x14) fun x15 =>
    Option.bind (idx x4.f a2) fun x16 =>
    some (⟨(x4.b.set (Int.toNat x14) a2), (x4.f.set (Int.toNat a2) (⟨true, a1, a3, x15⟩ : F))⟩ : T)

def s_MapPage (fl : Nat) (a0 : T) (a1 : K) (a2 : Int) (a3 : Int) : Option (T × Bool) :=
  Option.bind (s_TableValid fl a0) fun x4 =>
    Option.bind (cond (!x4) (some true) (Option.bind (s_KeyValid fl a1) fun x6 =>
    some (!x6))) fun y5 =>
    Option.bind (cond y5 (some true) (Option.bind (s_RightsValid fl a3) fun x8 =>
    some (!x8))) fun y7 =>
    Option.bind (cond y7 (some true) (some (decide (a2 < 0)))) fun y9 =>
    Option.bind (cond y9 (some true) (some (decide (((a0.f).length : Int) ≤ a2)))) fun y10 =>
    Option.bind (cond y10 (some true) (Option.bind (idx a0.f a2) fun x12 =>
    some x12.u)) fun y11 =>
    cond y11
   (some ((⟨[], []⟩ : T), false))
   (Option.bind (s_l3Find fl a0 a1) fun x14 =>
      cond (decide (0 ≤ x14.1))
     (some ((⟨[], []⟩ : T), false))
     (Option.bind (s_l3Map fl a0 a1 a2 a3) fun x16 =>
        some (x16, true)))

def s_FindPage (fl : Nat) (a0 : T) (a1 : K) : Option (Int × Int × Bool) :=
  Option.bind (s_TableValid fl a0) fun x3 =>
    Option.bind (cond (!x3) (some true) (Option.bind (s_KeyValid fl a1) fun x5 =>
    some (!x5))) fun y4 =>
    cond y4
   (some (0, 0, false))
   (Option.bind (s_l3Find fl a0 a1) fun x7 =>
      cond (decide (x7.1 < 0))
     (some (0, x7.2, false))
     (some (x7.1, x7.2, true)))

def s_l3Unmap_L0 (fl : Nat) (a0 : T) (a1 : Int) (x13 : F) : Nat → (List F) → Int → Option (LO ((List F) × Int) T)
  | 0, _, _ => none
  | fuel + 1, v21, v23 => cond (decide (v23 < ((a0.f).length : Int)))
     (Option.bind (idx a0.f v23) fun x25 =>
        Option.bind (cond x25.u (some (x25.nx == a1)) (some false)) fun y26 =>
        cond y26
       (Option.bind (idx v21 v23) fun x28 =>
          Option.bind (ck (v23 + 1)) fun x30 =>
          s_l3Unmap_L0 fl a0 a1 x13 fuel (v21.set (Int.toNat v23) (⟨x28.u, x28.k, x28.r, x13.nx⟩ : F)) x30)
       (Option.bind (ck (v23 + 1)) fun x31 =>
          s_l3Unmap_L0 fl a0 a1 x13 fuel v21 x31))
     (some (.out (v21, v23)))
def s_l3Unmap (fl : Nat) (a0 : T) (a1 : Int) : Option T :=
  Option.bind (s_l3Copy fl a0) fun x3 =>
    Option.bind (idx a0.f a1) fun x13 =>
    Option.bind (s_l2Hash fl x13.k ((a0.b).length : Int)) fun x14 =>
    Option.bind (idx x3.f a1) fun x15 =>
    Option.bind (idx a0.b x14) fun x17 =>
    cond (x17 == a1)
   (Option.bind (idx x3.b x14) fun x19 =>
      some (⟨(x3.b.set (Int.toNat x14) x13.nx), (x3.f.set (Int.toNat a1) (⟨false, (⟨0, 0⟩ : K), 0, (-1)⟩ : F))⟩ : T))
   (Option.bind (s_l3Unmap_L0 fl a0 a1 x13 fl (x3.f.set (Int.toNat a1) (⟨false, (⟨0, 0⟩ : K), 0, (-1)⟩ : F)) 0) fun o => match o with
      | .ret r' => some r'
      | .out (v21, v23) =>
      some (⟨x3.b, v21⟩ : T))

def s_UnmapPage (fl : Nat) (a0 : T) (a1 : K) : Option (T × Bool) :=
  Option.bind (s_FindPage fl a0 a1) fun x4 =>
    cond (!x4.2.2)
   (some ((⟨[], []⟩ : T), false))
   (Option.bind (s_l3Unmap fl a0 x4.1) fun x6 =>
      some (x6, true))

def s_l3Draw_L0 (fl : Nat) (a0_0 : (List UInt8)) : Nat → Int → (List Int) → (List F) → Int → Option (LO (Int × (List Int) × (List F) × Int) (T × Int))
  | 0, _, _, _, _ => none
  | fuel + 1, v21, v22, v27, v32 => cond (decide (0 < v32))
     (Option.bind (s_l2Draw fl a0_0 v21) fun x34 =>
        Option.bind (s_l12Rd_pick fl a0_0 x34.2 ((v27).length : Int)) fun x35 =>
        Option.bind (s_l12Rd_num fl a0_0 x35.2 ([3, 1, 7, 5, 0])) fun x38 =>
        Option.bind (s_MapPage fl (⟨v22, v27⟩ : T) x34.1 x35.1 x38.1) fun x39 =>
        cond x39.2
       (Option.bind (s_l12Rd_pick fl a0_0 x38.2 8) fun x50 =>
          cond (x50.1 == 0)
         (Option.bind (s_l2Draw fl a0_0 x50.2) fun x52 =>
            Option.bind (s_UnmapPage fl x39.1 x52.1) fun x53 =>
            cond x53.2
           (Option.bind (ck (v32 - 1)) fun x63 =>
              s_l3Draw_L0 fl a0_0 fuel x52.2 x53.1.b x53.1.f x63)
           (Option.bind (ck (v32 - 1)) fun x64 =>
              s_l3Draw_L0 fl a0_0 fuel x52.2 x39.1.b x39.1.f x64))
         (Option.bind (ck (v32 - 1)) fun x65 =>
            s_l3Draw_L0 fl a0_0 fuel x50.2 x39.1.b x39.1.f x65))
       (Option.bind (s_l12Rd_pick fl a0_0 x38.2 8) fun x66 =>
          cond (x66.1 == 0)
         (Option.bind (s_l2Draw fl a0_0 x66.2) fun x68 =>
            Option.bind (s_UnmapPage fl (⟨v22, v27⟩ : T) x68.1) fun x69 =>
            cond x69.2
           (Option.bind (ck (v32 - 1)) fun x79 =>
              s_l3Draw_L0 fl a0_0 fuel x68.2 x69.1.b x69.1.f x79)
           (Option.bind (ck (v32 - 1)) fun x80 =>
              s_l3Draw_L0 fl a0_0 fuel x68.2 v22 v27 x80))
         (Option.bind (ck (v32 - 1)) fun x81 =>
            s_l3Draw_L0 fl a0_0 fuel x66.2 v22 v27 x81)))
     (some (.out (v21, v22, v27, v32)))
def s_l3Draw (fl : Nat) (a0_0 : (List UInt8)) (a0_1 : Int) : Option (T × Int) :=
  Option.bind (s_l12Rd_num fl a0_0 a0_1 ([6, 4, 8, 2, 1])) fun x4 =>
    Option.bind (s_l12Rd_num fl a0_0 x4.2 ([4, 2, 8, 1, 3])) fun x7 =>
    Option.bind (s_NewTable fl x4.1 x7.1) fun x8 =>
    Option.bind (s_l12Rd_num fl a0_0 x7.2 ([4, 3, 6, 1, 0])) fun x20 =>
    Option.bind (s_l3Draw_L0 fl a0_0 fl x20.2 x8.1.b x8.1.f x20.1) fun o => match o with
    | .ret r' => some r'
    | .out (v21, v22, v27, v32) =>
    some ((⟨v22, v27⟩ : T), v21)

def s_l3Wrong (fl : Nat) (a0_0 : (List UInt8)) (a0_1 : Int) (a1 : T) : Option (T × Int) :=
  Option.bind (s_l3Copy fl a1) fun x3 =>
    cond (((x3.f).length : Int) == 0)
   (some (x3, a0_1))
   (Option.bind (s_l12Rd_pick fl a0_0 a0_1 ((x3.f).length : Int)) fun x14 =>
      Option.bind (s_l12Rd_pick fl a0_0 x14.2 24) fun x15 =>
      cond (x15.1 == 0)
     (Option.bind (s_l12Rd_num fl a0_0 x15.2 ([0, x14.1, 16, (-1)])) fun x19 =>
        Option.bind (idx x3.f x14.1) fun x20 =>
        some ((⟨x3.b, (x3.f.set (Int.toNat x14.1) (⟨x20.u, x20.k, x20.r, x19.1⟩ : F))⟩ : T), x19.2))
     (cond (x15.1 == 1)
       (Option.bind (idx x3.f x14.1) fun x23 =>
          some ((⟨x3.b, (x3.f.set (Int.toNat x14.1) (⟨(!x23.u), x23.k, x23.r, x23.nx⟩ : F))⟩ : T), x15.2))
       (cond (x15.1 == 2)
         (Option.bind (s_l12Rd_num fl a0_0 x15.2 ([0, (-1), 16, (-2)])) fun x28 =>
            Option.bind (idx x3.b 0) fun x29 =>
            some ((⟨(x3.b.set (Int.toNat 0) x28.1), x3.f⟩ : T), x28.2))
         (cond (x15.1 == 3)
           (Option.bind (s_l2Draw fl a0_0 x15.2) fun x32 =>
              Option.bind (idx x3.f x14.1) fun x33 =>
              some ((⟨x3.b, (x3.f.set (Int.toNat x14.1) (⟨x33.u, x32.1, x33.r, x33.nx⟩ : F))⟩ : T), x32.2))
           (cond (x15.1 == 4)
             (Option.bind (cnt (x3.b ++ [(-1)])) fun x38 =>
                some ((⟨x38, x3.f⟩ : T), x15.2))
             (cond (x15.1 == 5)
               (some ((⟨x3.b, ([] : List F)⟩ : T), x15.2))
               (some (x3, x15.2))))))))

def s_l2Case (fl : Nat) (a0_0 : (List UInt8)) (a0_1 : Int) : Option (K × Int) :=
  Option.bind (s_l2Draw fl a0_0 a0_1) fun x2 =>
    Option.bind (s_l12Rd_pick fl a0_0 x2.2 24) fun x4 =>
    cond (x4.1 == 0)
   (Option.bind (s_l12Rd_num fl a0_0 x4.2 ([(-1), 16])) fun x8 =>
      some ((⟨x8.1, x2.1.p⟩ : K), x8.2))
   (cond (x4.1 == 1)
     (Option.bind (s_l12Rd_num fl a0_0 x4.2 ([(-1), 256])) fun x12 =>
        some ((⟨x2.1.s, x12.1⟩ : K), x12.2))
     (some (x2.1, x4.2)))

def s_DrawMapPage (fl : Nat) (a0 : (List UInt8)) : Option (T × K × Int × Int) :=
  Option.bind (s_l3Draw fl (a0.take 2000) 0) fun x4 =>
    Option.bind (s_l3Wrong fl (a0.take 2000) x4.2 x4.1) fun x13 =>
    Option.bind (s_l2Case fl (a0.take 2000) x13.2) fun x23 =>
    Option.bind (s_l12Rd_num fl (a0.take 2000) x23.2 ([0, 1, 2, 3, 4, 5, (-1), 16])) fun x26 =>
    Option.bind (s_l12Rd_num fl (a0.take 2000) x26.2 ([3, 7, 1, 8])) fun x29 =>
    some (x13.1, x23.1, x26.1, x29.1)

def i_TableValid (fl : Nat) (a0 : T) : Option Bool := some (tableOk a0)

def i_within (fl : Nat) (a0 : Int) (a1 : Int) : Option Bool :=
  Option.bind (cond (decide (0 ≤ a0)) (some (decide (a0 < a1))) (some false)) fun y1 =>
    some y1

def i_KeyValid (fl : Nat) (a0 : K) : Option Bool :=
  Option.bind (i_within fl a0.s 16) fun x2 =>
    Option.bind (cond x2 (Option.bind (i_within fl a0.p 256) fun x4 =>
    some x4) (some false)) fun y3 =>
    some y3

def i_Table_find_1 (fl : Nat) (a0 : F) (ac0 : K) : Option Bool :=
  Option.bind (cond a0.u (some (a0.k == ac0)) (some false)) fun y2 =>
    some y2

def slices_IndexFunc_Frame_of_i_Table_find_1_L0 (fl : Nat) (a0 : (List F)) (a1_0 : K) : Nat → Int → Option (LO Int Int)
  | 0, _ => none
  | fuel + 1, v1 => cond (decide (v1 < ((a0).length : Int)))
     (Option.bind (idx a0 v1) fun x3 =>
        Option.bind (i_Table_find_1 fl x3 a1_0) fun x4 =>
        cond x4
       (some (.ret v1))
       (Option.bind (ck (v1 + 1)) fun x6 =>
          slices_IndexFunc_Frame_of_i_Table_find_1_L0 fl a0 a1_0 fuel x6))
     (some (.out v1))
def slices_IndexFunc_Frame_of_i_Table_find_1 (fl : Nat) (a0 : (List F)) (a1_0 : K) : Option Int :=
  Option.bind (slices_IndexFunc_Frame_of_i_Table_find_1_L0 fl a0 a1_0 fl 0) fun o => match o with
    | .ret r' => some r'
    | .out v1 =>
    some (-1)

def i_Table_find (fl : Nat) (a0 : T) (a1 : K) : Option Int :=
  Option.bind (slices_IndexFunc_Frame_of_i_Table_find_1 fl a0.f a1) fun x3 =>
    some x3

def i_RightsValid (fl : Nat) (a0 : Int) : Option Bool :=
  Option.bind (i_within fl a0 8) fun x1 =>
    some x1

def slices_Clone_Int (fl : Nat) (a0 : (List Int)) : Option (List Int) :=
  cnt a0

def slices_Clone_Frame (fl : Nat) (a0 : (List F)) : Option (List F) :=
  cnt a0

def i_Table_clone (fl : Nat) (a0 : T) : Option T :=
  Option.bind (slices_Clone_Int fl a0.b) fun x3 =>
    Option.bind (slices_Clone_Frame fl a0.f) fun x8 =>
    some (⟨x3, x8⟩ : T)

def i_hash (fl : Nat) (a0 : K) (a1 : Int) : Option Int :=
  Option.bind (ck (a0.s * 256)) fun x2 =>
    Option.bind (ck (x2 + a0.p)) fun x3 =>
    Option.bind (ckU x3) fun x4 =>
    Option.bind (ckU (x4 * 2654435761)) fun x5 =>
    Option.bind (remO x5 4294967296) fun x6 =>
    Option.bind (ckU a1) fun x7 =>
    Option.bind (ckU (x6 * x7)) fun x8 =>
    Option.bind (ck (x8 / 4294967296)) fun x9 =>
    some x9

def i_Table_link (fl : Nat) (a0 : T) (a1 : K) (a2 : Int) (a3 : Int) : Option ((List Int) × (List F)) :=
  Option.bind (i_hash fl a1 ((a0.b).length : Int)) fun x3 =>
    Option.bind (idx a0.b x3) fun x4 =>
    Option.bind (idx a0.f a2) fun x5 =>
    some ((a0.b.set (Int.toNat x3) a2), (a0.f.set (Int.toNat a2) (⟨true, a1, a3, x4⟩ : F)))

def i_MapPage (fl : Nat) (a0 : T) (a1 : K) (a2 : Int) (a3 : Int) : Option (T × Bool) :=
  Option.bind (i_TableValid fl a0) fun x4 =>
    Option.bind (cond (!x4) (some true) (Option.bind (i_KeyValid fl a1) fun x6 =>
    some (!x6))) fun y5 =>
    Option.bind (cond y5 (some true) (Option.bind (i_Table_find fl a0 a1) fun x8 =>
    some (decide (0 ≤ x8)))) fun y7 =>
    Option.bind (cond y7 (some true) (Option.bind (i_within fl a2 ((a0.f).length : Int)) fun x10 =>
    some (!x10))) fun y9 =>
    Option.bind (cond y9 (some true) (Option.bind (idx a0.f a2) fun x12 =>
    some x12.u)) fun y11 =>
    Option.bind (cond y11 (some true) (Option.bind (i_RightsValid fl a3) fun x14 =>
    some (!x14))) fun y13 =>
    cond y13
   (some ((⟨[], []⟩ : T), false))
   (Option.bind (i_Table_clone fl a0) fun x16 =>
      Option.bind (i_Table_link fl x16 a1 a2 a3) fun x26 =>
      some ((⟨x26.1, x26.2⟩ : T), true))

def slices_Equal_Int_L0 (fl : Nat) (a0 : (List Int)) (a1 : (List Int)) : Nat → Int → Option (LO Int Bool)
  | 0, _ => none
  | fuel + 1, v2 => cond (decide (v2 < ((a0).length : Int)))
     (Option.bind (idx a0 v2) fun x4 =>
        Option.bind (idx a1 v2) fun x5 =>
        cond (x4 != x5)
       (some (.ret false))
       (Option.bind (ck (v2 + 1)) fun x7 =>
          slices_Equal_Int_L0 fl a0 a1 fuel x7))
     (some (.out v2))
def slices_Equal_Int (fl : Nat) (a0 : (List Int)) (a1 : (List Int)) : Option Bool :=
  cond (((a0).length : Int) != ((a1).length : Int))
   (some false)
   (Option.bind (slices_Equal_Int_L0 fl a0 a1 fl 0) fun o => match o with
      | .ret r' => some r'
      | .out v2 =>
      some true)

def slices_Equal_Frame_L0 (fl : Nat) (a0 : (List F)) (a1 : (List F)) : Nat → Int → Option (LO Int Bool)
  | 0, _ => none
  | fuel + 1, v2 => cond (decide (v2 < ((a0).length : Int)))
     (Option.bind (idx a0 v2) fun x4 =>
        Option.bind (idx a1 v2) fun x5 =>
        cond (x4 != x5)
       (some (.ret false))
       (Option.bind (ck (v2 + 1)) fun x7 =>
          slices_Equal_Frame_L0 fl a0 a1 fuel x7))
     (some (.out v2))
def slices_Equal_Frame (fl : Nat) (a0 : (List F)) (a1 : (List F)) : Option Bool :=
  cond (((a0).length : Int) != ((a1).length : Int))
   (some false)
   (Option.bind (slices_Equal_Frame_L0 fl a0 a1 fl 0) fun o => match o with
      | .ret r' => some r'
      | .out v2 =>
      some true)

def i_TableSame (fl : Nat) (a0 : T) (a1 : T) : Option Bool :=
  Option.bind (slices_Equal_Int fl a0.b a1.b) fun x3 =>
    Option.bind (cond x3 (Option.bind (slices_Equal_Frame fl a0.f a1.f) fun x5 =>
    some x5) (some false)) fun y4 =>
    some y4

def i_Table_chain_L0 (fl : Nat) (a0 : T) : Nat → (List Int) → Int → Option (LO ((List Int) × Int) ((List Int)))
  | 0, _, _ => none
  | fuel + 1, v3, v8 => cond (v8 != (-1))
     (Option.bind (cnt (v3 ++ [v8])) fun x12 =>
        Option.bind (idx a0.f v8) fun x16 =>
        i_Table_chain_L0 fl a0 fuel x12 x16.nx)
     (some (.out (v3, v8)))
def i_Table_chain (fl : Nat) (a0 : T) (a1 : Int) : Option (List Int) :=
  Option.bind (idx a0.b a1) fun x2 =>
    Option.bind (i_Table_chain_L0 fl a0 fl ([]) x2) fun o => match o with
    | .ret r' => some r'
    | .out (v3, v8) =>
    some v3

def i_FindPage_L0 (fl : Nat) (a0 : T) (a1 : K) (x8 : ((List Int))) : Nat → Int → Option (LO Int (Int × Int × Bool))
  | 0, _ => none
  | fuel + 1, v13 => cond (decide (v13 < ((x8).length : Int)))
     (Option.bind (idx x8 v13) fun x15 =>
        Option.bind (idx a0.f x15) fun x16 =>
        cond (x16.k == a1)
       (Option.bind (ck (v13 + 1)) fun x18 =>
          some (.ret (x15, x18, true)))
       (Option.bind (ck (v13 + 1)) fun x19 =>
          i_FindPage_L0 fl a0 a1 x8 fuel x19))
     (some (.out v13))
def i_FindPage (fl : Nat) (a0 : T) (a1 : K) : Option (Int × Int × Bool) :=
  Option.bind (i_TableValid fl a0) fun x3 =>
    Option.bind (cond (!x3) (some true) (Option.bind (i_KeyValid fl a1) fun x5 =>
    some (!x5))) fun y4 =>
    cond y4
   (some (0, 0, false))
   (Option.bind (i_hash fl a1 ((a0.b).length : Int)) fun x7 =>
      Option.bind (i_Table_chain fl a0 x7) fun x8 =>
      Option.bind (i_FindPage_L0 fl a0 a1 x8 fl 0) fun o => match o with
      | .ret r' => some r'
      | .out v13 =>
      some (0, ((x8).length : Int), false))

def math_bits_Len (fl : Nat) (a0 : Int) : Option Int := if 0 ≤ a0 ∧ a0 ≤ 18446744073709551615 then some (Lib.bitLen a0.toNat) else none

def i_KeyBefore (fl : Nat) (a0 : K) (a1 : K) : Option Bool :=
  Option.bind (cond (decide (a0.s < a1.s)) (some true) (Option.bind (cond (a0.s == a1.s) (some (decide (a0.p < a1.p))) (some false)) fun y4 =>
    some y4)) fun y3 =>
    some y3

def i_KeysOf_1 (fl : Nat) (a0 : K) (a1 : K) : Option Int :=
  Option.bind (i_KeyBefore fl a0 a1) fun x3 =>
    cond x3
   (some (-1))
   (some 1)

def slices_insertionSortCmpFunc_Key_of_i_KeysOf_1_L1 (fl : Nat) (a1 : Int) : Nat → (List K) → Int → Option (LO ((List K) × Int) ((List K)))
  | 0, _, _ => none
  | fuel + 1, v6, v8 => Option.bind (cond (decide (a1 < v8)) (Option.bind (idx v6 v8) fun x10 =>
      Option.bind (ck (v8 - 1)) fun x11 =>
      Option.bind (idx v6 x11) fun x12 =>
      Option.bind (i_KeysOf_1 fl x10 x12) fun x13 =>
      some (decide (x13 < 0))) (some false)) fun y9 =>
      cond y9
     (Option.bind (ck (v8 - 1)) fun x15 =>
        Option.bind (idx v6 x15) fun x16 =>
        Option.bind (idx v6 v8) fun x17 =>
        Option.bind (idx (v6.set (Int.toNat v8) x16) x15) fun x19 =>
        slices_insertionSortCmpFunc_Key_of_i_KeysOf_1_L1 fl a1 fuel ((v6.set (Int.toNat v8) x16).set (Int.toNat x15) x17) x15)
     (some (.out (v6, v8)))
def slices_insertionSortCmpFunc_Key_of_i_KeysOf_1_L0 (fl : Nat) (a1 : Int) (a2 : Int) : Nat → (List K) → Int → Option (LO ((List K) × Int) ((List K)))
  | 0, _, _ => none
  | fuel + 1, v2, v4 => cond (decide (v4 < a2))
     (Option.bind (slices_insertionSortCmpFunc_Key_of_i_KeysOf_1_L1 fl a1 fl v2 v4) fun o => match o with
        | .ret r' => some (.ret r')
        | .out (v6, v8) =>
        Option.bind (ck (v4 + 1)) fun x21 =>
        slices_insertionSortCmpFunc_Key_of_i_KeysOf_1_L0 fl a1 a2 fuel v6 x21)
     (some (.out (v2, v4)))
def slices_insertionSortCmpFunc_Key_of_i_KeysOf_1 (fl : Nat) (a0 : (List K)) (a1 : Int) (a2 : Int) : Option (List K) :=
  Option.bind (ck (a1 + 1)) fun x1 =>
    Option.bind (slices_insertionSortCmpFunc_Key_of_i_KeysOf_1_L0 fl a1 a2 fl a0 x1) fun o => match o with
    | .ret r' => some r'
    | .out (v2, v4) =>
    some v2

def slices_pdqsortCmpFunc_Key_of_i_KeysOf_1_L0 (fl : Nat) (a0 : (List K)) (a1 : Int) (a2 : Int) : Nat → Option (LO Unit ((List K)))
  | 0 => none
  | fuel + 1 => Option.bind (ck (a2 - a1)) fun x1 =>
      cond (decide (x1 ≤ 12))
     (Option.bind (slices_insertionSortCmpFunc_Key_of_i_KeysOf_1 fl a0 a1 a2) fun x3 =>
        some (.ret x3))
     (none)
def slices_pdqsortCmpFunc_Key_of_i_KeysOf_1 (fl : Nat) (a0 : (List K)) (a1 : Int) (a2 : Int) (a3 : Int) : Option (List K) :=
  Option.bind (slices_pdqsortCmpFunc_Key_of_i_KeysOf_1_L0 fl a0 a1 a2 fl) fun o => match o with
    | .ret r' => some r'
    | .out _ =>
    some a0

def slices_SortFunc_Key_of_i_KeysOf_1 (fl : Nat) (a0 : (List K)) : Option (List K) :=
  Option.bind (ckU ((a0).length : Int)) fun x1 =>
    Option.bind (math_bits_Len fl x1) fun x2 =>
    Option.bind (slices_pdqsortCmpFunc_Key_of_i_KeysOf_1 fl a0 0 ((a0).length : Int) x2) fun x3 =>
    some x3

def i_KeysOf_L0 (fl : Nat) (a0 : T) : Nat → Int → (List K) → Option (LO (Int × (List K)) ((List K)))
  | 0, _, _ => none
  | fuel + 1, v4, v5 => cond (decide (v4 < ((a0.f).length : Int)))
     (Option.bind (idx a0.f v4) fun x11 =>
        cond x11.u
       (Option.bind (cnt (v5 ++ [x11.k])) fun x16 =>
          Option.bind (ck (v4 + 1)) fun x20 =>
          i_KeysOf_L0 fl a0 fuel x20 x16)
       (Option.bind (ck (v4 + 1)) fun x21 =>
          i_KeysOf_L0 fl a0 fuel x21 v5))
     (some (.out (v4, v5)))
def i_KeysOf (fl : Nat) (a0 : T) : Option (List K) :=
  Option.bind (i_TableValid fl a0) fun x2 =>
    cond (!x2)
   (some ([]))
   (Option.bind (i_KeysOf_L0 fl a0 fl 0 ([])) fun o => match o with
      | .ret r' => some r'
      | .out (v4, v5) =>
      Option.bind (slices_SortFunc_Key_of_i_KeysOf_1 fl v5) fun x22 =>
      some x22)

def l_ipKeys_L0 (fl : Nat) (a0 : (List K)) (a1 : (List K)) : Nat → Int → Option (LO Int Bool)
  | 0, _ => none
  | fuel + 1, v2 => cond (decide (v2 < ((a0).length : Int)))
     (Option.bind (idx a0 v2) fun x4 =>
        Option.bind (idx a1 v2) fun x5 =>
        cond (x4 != x5)
       (some (.ret false))
       (Option.bind (ck (v2 + 1)) fun x7 =>
          l_ipKeys_L0 fl a0 a1 fuel x7))
     (some (.out v2))
def l_ipKeys (fl : Nat) (a0 : (List K)) (a1 : (List K)) : Option Bool :=
  cond (((a0).length : Int) != ((a1).length : Int))
   (some false)
   (Option.bind (l_ipKeys_L0 fl a0 a1 fl 0) fun o => match o with
      | .ret r' => some r'
      | .out v2 =>
      some true)

def l_FnMapOrder_L0 (fl : Nat) (x2 : (T × K × Int × Int)) (x13 : (T × Bool)) : Nat → Int → Option (LO Int Bool)
  | 0, _ => none
  | fuel + 1, v39 => cond (decide (v39 < ((x13.1.f).length : Int)))
     (Option.bind (i_MapPage fl x13.1 (⟨9, 9⟩ : K) v39 1) fun x41 =>
        cond (!x41.2)
       (Option.bind (ck (v39 + 1)) fun x52 =>
          l_FnMapOrder_L0 fl x2 x13 fuel x52)
       (Option.bind (i_MapPage fl x2.1 (⟨9, 9⟩ : K) v39 1) fun x53 =>
          Option.bind (i_MapPage fl x53.1 x2.2.1 x2.2.2.1 x2.2.2.2) fun x63 =>
          Option.bind (i_FindPage fl x41.1 (⟨9, 9⟩ : K)) fun x73 =>
          Option.bind (i_FindPage fl x63.1 (⟨9, 9⟩ : K)) fun x74 =>
          Option.bind (cond x53.2 (some x63.2) (some false)) fun y75 =>
          Option.bind (cond y75 (some (x73.1 == x74.1)) (some false)) fun y76 =>
          Option.bind (cond y76 (Option.bind (i_KeysOf fl x41.1) fun x78 =>
          Option.bind (i_KeysOf fl x63.1) fun x83 =>
          Option.bind (l_ipKeys fl x78 x83) fun x88 =>
          some x88) (some false)) fun y77 =>
          some (.ret y77)))
     (some (.out v39))
def l_FnMapOrder (fl : Nat) (a0 : (List UInt8)) : Option Bool :=
  cond (decide (1048576 < ((a0).length : Int)))
   (some true)
   (Option.bind (s_DrawMapPage fl a0) fun x2 =>
      Option.bind (i_MapPage fl x2.1 x2.2.1 x2.2.2.1 x2.2.2.2) fun x13 =>
      Option.bind (s_MapPage fl x2.1 x2.2.1 x2.2.2.1 x2.2.2.2) fun x23 =>
      Option.bind (i_TableSame fl x13.1 x23.1) fun x33 =>
      Option.bind (cond (!x33) (some true) (some (x13.2 != x23.2))) fun y34 =>
      Option.bind (cond y34 (some true) (some (!x13.2))) fun y35 =>
      cond y35
     (Option.bind (cond x33 (some (x13.2 == x23.2)) (some false)) fun y37 =>
        some y37)
     (Option.bind (l_FnMapOrder_L0 fl x2 x13 fl 0) fun o => match o with
        | .ret r' => some r'
        | .out v39 =>
        some true))

def s_KeyBefore (fl : Nat) (a0 : K) (a1 : K) : Option Bool :=
  Option.bind (cond (decide (a0.s < a1.s)) (some true) (Option.bind (cond (a0.s == a1.s) (some (decide (a0.p < a1.p))) (some false)) fun y4 =>
    some y4)) fun y3 =>
    some y3

def s_KeysOf_L1 (fl : Nat) : Nat → (List K) → Int → Option (LO ((List K) × Int) ((List K)))
  | 0, _, _ => none
  | fuel + 1, v23, v25 => Option.bind (cond (decide (0 < v25)) (Option.bind (idx v23 v25) fun x27 =>
      Option.bind (ck (v25 - 1)) fun x28 =>
      Option.bind (idx v23 x28) fun x29 =>
      Option.bind (s_KeyBefore fl x27 x29) fun x30 =>
      some x30) (some false)) fun y26 =>
      cond y26
     (Option.bind (idx v23 v25) fun x32 =>
        Option.bind (ck (v25 - 1)) fun x34 =>
        Option.bind (idx v23 x34) fun x35 =>
        Option.bind (idx (v23.set (Int.toNat v25) x35) x34) fun x37 =>
        s_KeysOf_L1 fl fuel ((v23.set (Int.toNat v25) x35).set (Int.toNat x34) x32) x34)
     (some (.out (v23, v25)))
def s_KeysOf_L0 (fl : Nat) (a0 : T) : Nat → (List K) → Int → Option (LO ((List K) × Int) ((List K)))
  | 0, _, _ => none
  | fuel + 1, v4, v9 => Option.bind (cond (decide (v9 < ((a0.f).length : Int))) (Option.bind (s_TableValid fl a0) fun x11 =>
      some x11) (some false)) fun y10 =>
      cond y10
     (Option.bind (idx a0.f v9) fun x13 =>
        cond (!x13.u)
       (Option.bind (ck (v9 + 1)) fun x15 =>
          s_KeysOf_L0 fl a0 fuel v4 x15)
       (Option.bind (cnt (v4 ++ [x13.k])) fun x18 =>
          Option.bind (ck (((x18).length : Int) - 1)) fun x22 =>
          Option.bind (s_KeysOf_L1 fl fl x18 x22) fun o => match o with
          | .ret r' => some (.ret r')
          | .out (v23, v25) =>
          Option.bind (ck (v9 + 1)) fun x39 =>
          s_KeysOf_L0 fl a0 fuel v23 x39))
     (some (.out (v4, v9)))
def s_KeysOf (fl : Nat) (a0 : T) : Option (List K) :=
  Option.bind (s_KeysOf_L0 fl a0 fl ([] : List K) 0) fun o => match o with
    | .ret r' => some r'
    | .out (v4, v9) =>
    some v4

def s_l3At (fl : Nat) (a0_0 : (List UInt8)) (a0_1 : Int) : Option (T × K × Int) :=
  Option.bind (s_l3Draw fl a0_0 a0_1) fun x3 =>
    Option.bind (s_KeysOf fl x3.1) fun x13 =>
    Option.bind (s_l2Case fl a0_0 x3.2) fun x18 =>
    Option.bind (cond (decide (0 < ((x13).length : Int))) (Option.bind (s_l12Rd_pick fl a0_0 x18.2 3) fun x21 =>
    some ((decide (0 < x21.1)), x21.2)) (some (false, x18.2))) fun y20 =>
    cond y20.1
   (Option.bind (s_l12Rd_pick fl a0_0 y20.2 ((x13).length : Int)) fun x23 =>
      Option.bind (idx x13 x23.1) fun x24 =>
      Option.bind (s_l3Wrong fl a0_0 x23.2 x3.1) fun x25 =>
      some (x25.1, x24, x25.2))
   (Option.bind (s_l3Wrong fl a0_0 y20.2 x3.1) fun x34 =>
      some (x34.1, x18.1, x34.2))

def s_DrawProtectPage (fl : Nat) (a0 : (List UInt8)) : Option (T × K × Int) :=
  Option.bind (s_l3At fl (a0.take 2000) 0) fun x4 =>
    Option.bind (s_l12Rd_num fl (a0.take 2000) x4.2.2 ([1, 0, 7, 4, 8])) fun x17 =>
    some (x4.1, x4.2.1, x17.1)

def i_ProtectPage (fl : Nat) (a0 : T) (a1 : K) (a2 : Int) : Option (T × Bool) :=
  Option.bind (i_TableValid fl a0) fun x4 =>
    Option.bind (cond (!x4) (some true) (Option.bind (i_KeyValid fl a1) fun x6 =>
    some (!x6))) fun y5 =>
    Option.bind (cond y5 (some true) (Option.bind (i_Table_find fl a0 a1) fun x8 =>
    some (decide (x8 < 0)))) fun y7 =>
    Option.bind (cond y7 (some true) (Option.bind (i_RightsValid fl a2) fun x10 =>
    some (!x10))) fun y9 =>
    cond y9
   (some ((⟨[], []⟩ : T), false))
   (Option.bind (i_Table_clone fl a0) fun x12 =>
      Option.bind (i_Table_find fl a0 a1) fun x22 =>
      Option.bind (idx x12.f x22) fun x23 =>
      some ((⟨x12.b, (x12.f.set (Int.toNat x22) (⟨x23.u, x23.k, a2, x23.nx⟩ : F))⟩ : T), true))

def s_ProtectPage (fl : Nat) (a0 : T) (a1 : K) (a2 : Int) : Option (T × Bool) :=
  Option.bind (s_FindPage fl a0 a1) fun x4 =>
    Option.bind (cond (!x4.2.2) (some true) (Option.bind (s_RightsValid fl a2) fun x6 =>
    some (!x6))) fun y5 =>
    cond y5
   (some ((⟨[], []⟩ : T), false))
   (Option.bind (s_l3Copy fl a0) fun x8 =>
      Option.bind (idx x8.f x4.1) fun x18 =>
      some ((⟨x8.b, (x8.f.set (Int.toNat x4.1) (⟨x18.u, x18.k, a2, x18.nx⟩ : F))⟩ : T), true))

def l_FnProtectTwice (fl : Nat) (a0 : (List UInt8)) : Option Bool :=
  cond (decide (1048576 < ((a0).length : Int)))
   (some true)
   (Option.bind (s_DrawProtectPage fl a0) fun x2 =>
      Option.bind (i_ProtectPage fl x2.1 x2.2.1 x2.2.2) fun x13 =>
      Option.bind (s_ProtectPage fl x2.1 x2.2.1 x2.2.2) fun x23 =>
      Option.bind (i_TableSame fl x13.1 x23.1) fun x33 =>
      Option.bind (cond (!x33) (some true) (some (x13.2 != x23.2))) fun y34 =>
      Option.bind (cond y34 (some true) (some (!x13.2))) fun y35 =>
      cond y35
     (Option.bind (cond x33 (some (x13.2 == x23.2)) (some false)) fun y37 =>
        some y37)
     (Option.bind (i_ProtectPage fl x13.1 x2.2.1 5) fun x38 =>
        Option.bind (i_ProtectPage fl x2.1 x2.2.1 5) fun x48 =>
        Option.bind (cond x38.2 (some x48.2) (some false)) fun y58 =>
        Option.bind (cond y58 (Option.bind (i_TableSame fl x38.1 x48.1) fun x60 =>
        some x60) (some false)) fun y59 =>
        Option.bind (cond y59 (Option.bind (i_KeysOf fl x13.1) fun x62 =>
        Option.bind (i_KeysOf fl x2.1) fun x67 =>
        Option.bind (l_ipKeys fl x62 x67) fun x72 =>
        some x72) (some false)) fun y61 =>
        some y61))

def s_DrawUnmapPage (fl : Nat) (a0 : (List UInt8)) : Option (T × K) :=
  Option.bind (s_l3At fl (a0.take 2000) 0) fun x4 =>
    some (x4.1, x4.2.1)

def i_UnmapPage_L0 (fl : Nat) (x10 : T) (x20 : Int) (x21 : F) : Nat → (List F) → Int → Option (LO ((List F) × Int) (T × Bool))
  | 0, _, _ => none
  | fuel + 1, v28, v30 => cond (decide (v30 < ((x10.f).length : Int)))
     (Option.bind (idx v28 v30) fun x32 =>
        Option.bind (cond x32.u (some (x32.nx == x20)) (some false)) fun y33 =>
        cond y33
       (Option.bind (ck (v30 + 1)) fun x36 =>
          i_UnmapPage_L0 fl x10 x20 x21 fuel (v28.set (Int.toNat v30) (⟨x32.u, x32.k, x32.r, x21.nx⟩ : F)) x36)
       (Option.bind (ck (v30 + 1)) fun x37 =>
          i_UnmapPage_L0 fl x10 x20 x21 fuel v28 x37))
     (some (.out (v28, v30)))
def i_UnmapPage (fl : Nat) (a0 : T) (a1 : K) : Option (T × Bool) :=
  Option.bind (i_TableValid fl a0) fun x4 =>
    Option.bind (cond (!x4) (some true) (Option.bind (i_KeyValid fl a1) fun x6 =>
    some (!x6))) fun y5 =>
    Option.bind (cond y5 (some true) (Option.bind (i_Table_find fl a0 a1) fun x8 =>
    some (decide (x8 < 0)))) fun y7 =>
    cond y7
   (some ((⟨[], []⟩ : T), false))
   (Option.bind (i_Table_clone fl a0) fun x10 =>
      Option.bind (i_Table_find fl a0 a1) fun x20 =>
      Option.bind (idx a0.f x20) fun x21 =>
      Option.bind (i_hash fl a1 ((a0.b).length : Int)) fun x22 =>
      Option.bind (idx x10.b x22) fun x23 =>
      cond (x23 == x20)
     (Option.bind (idx x10.f x20) fun x26 =>
        some ((⟨(x10.b.set (Int.toNat x22) x21.nx), (x10.f.set (Int.toNat x20) (⟨false, (⟨0, 0⟩ : K), 0, (-1)⟩ : F))⟩ : T), true))
     (Option.bind (i_UnmapPage_L0 fl x10 x20 x21 fl x10.f 0) fun o => match o with
        | .ret r' => some r'
        | .out (v28, v30) =>
        Option.bind (idx v28 x20) fun x38 =>
        some ((⟨x10.b, (v28.set (Int.toNat x20) (⟨false, (⟨0, 0⟩ : K), 0, (-1)⟩ : F))⟩ : T), true)))

def l_FnUnmapPage_L0 (fl : Nat) (x2 : (T × K)) (x13 : (T × Bool)) (x39 : ((List K))) : Nat → Int → Option (LO Int Bool)
  | 0, _ => none
  | fuel + 1, v44 => cond (decide (v44 < ((x39).length : Int)))
     (Option.bind (idx x39 v44) fun x46 =>
        Option.bind (i_FindPage fl x2.1 x46) fun x47 =>
        Option.bind (i_FindPage fl x13.1 x46) fun x48 =>
        Option.bind (cond (!x47.2.2) (some true) (some (!x48.2.2))) fun y49 =>
        Option.bind (cond y49 (some true) (some (x47.1 != x48.1))) fun y50 =>
        cond y50
       (some (.ret false))
       (Option.bind (ck (v44 + 1)) fun x52 =>
          l_FnUnmapPage_L0 fl x2 x13 x39 fuel x52))
     (some (.out v44))
def l_FnUnmapPage (fl : Nat) (a0 : (List UInt8)) : Option Bool :=
  cond (decide (1048576 < ((a0).length : Int)))
   (some true)
   (Option.bind (s_DrawUnmapPage fl a0) fun x2 =>
      Option.bind (i_UnmapPage fl x2.1 x2.2) fun x13 =>
      Option.bind (s_UnmapPage fl x2.1 x2.2) fun x23 =>
      Option.bind (i_TableSame fl x13.1 x23.1) fun x33 =>
      Option.bind (cond (!x33) (some true) (some (x13.2 != x23.2))) fun y34 =>
      Option.bind (cond y34 (some true) (some (!x13.2))) fun y35 =>
      cond y35
     (Option.bind (cond x33 (some (x13.2 == x23.2)) (some false)) fun y37 =>
        some y37)
     (Option.bind (i_FindPage fl x13.1 x2.2) fun x38 =>
        Option.bind (i_KeysOf fl x13.1) fun x39 =>
        Option.bind (l_FnUnmapPage_L0 fl x2 x13 x39 fl 0) fun o => match o with
        | .ret r' => some r'
        | .out v44 =>
        Option.bind (i_TableValid fl x13.1) fun x53 =>
        Option.bind (cond x53 (some (!x38.2.2)) (some false)) fun y54 =>
        Option.bind (cond y54 (Option.bind (i_KeysOf fl x2.1) fun x56 =>
        Option.bind (ck (((x56).length : Int) - 1)) fun x61 =>
        some (((x39).length : Int) == x61)) (some false)) fun y55 =>
        some y55))

def i_bucketsValid (fl : Nat) (a0 : Int) : Option Bool :=
  Option.bind (cond (decide (1 ≤ a0)) (some (decide (a0 ≤ 16))) (some false)) fun y1 =>
    some y1

def math_bits_Mul64 (fl : Nat) (a0 : Int) (a1 : Int) : Option (Int × Int) :=
  Option.bind (ckU ((bAndU a0 4294967295) * (bAndU a1 4294967295))) fun x1 =>
    Option.bind (ckU ((a0 / 4294967296) * (bAndU a1 4294967295))) fun x2 =>
    Option.bind (ckU (x2 + (x1 / 4294967296))) fun x3 =>
    Option.bind (ckU ((bAndU a0 4294967295) * (a1 / 4294967296))) fun x4 =>
    Option.bind (ckU ((bAndU x3 4294967295) + x4)) fun x5 =>
    Option.bind (ckU ((a0 / 4294967296) * (a1 / 4294967296))) fun x6 =>
    Option.bind (ckU (x6 + (x3 / 4294967296))) fun x7 =>
    Option.bind (ckU (x7 + (x5 / 4294967296))) fun x8 =>
    Option.bind (ckU (a0 * a1)) fun x9 =>
    some (x8, x9)

def math_bits_Mul (fl : Nat) (a0 : Int) (a1 : Int) : Option (Int × Int) :=
  cond false
   (none)
   (Option.bind (math_bits_Mul64 fl a0 a1) fun x2 =>
      some (x2.1, x2.2))

def slices_Repeat_Int_L0 (fl : Nat) (x8 : Nat) : Nat → (List Int) → Int → Option (LO ((List Int) × Int) ((List Int)))
  | 0, _, _ => none
  | fuel + 1, v12, v14 => cond (decide (v14 < (x8 : Int)))
     (Option.bind (dropO v12 v14) fun x16 =>
        Option.bind (takeO v12 v14) fun x17 =>
        Option.bind (ck (v14 + ((min (x17).length ((v12).length - (Int.toNat v14)) : Nat) : Int))) fun x19 =>
        slices_Repeat_Int_L0 fl x8 fuel (cpy v12 (Int.toNat v14) x17) x19)
     (some (.out (v12, v14)))
def slices_Repeat_Int (fl : Nat) (a0 : (List Int)) (a1 : Int) : Option (List Int) :=
  cond (decide (a1 < 0))
   (none)
   (Option.bind (ckU ((a0).length : Int)) fun x2 =>
      Option.bind (ckU a1) fun x3 =>
      Option.bind (math_bits_Mul fl x2 x3) fun x4 =>
      Option.bind (cond (decide (0 < x4.1)) (some true) (some (decide (9223372036854775807 < x4.2)))) fun y5 =>
      cond y5
     (none)
     (Option.bind (ck x4.2) fun x7 =>
        Option.bind (mkO x7) fun x8 =>
        Option.bind (slices_Repeat_Int_L0 fl x8 fl (cpy (List.replicate x8 (0 : Int)) 0 a0) ((min (a0).length (((List.replicate x8 (0 : Int))).length - 0) : Nat) : Int)) fun o => match o with
        | .ret r' => some r'
        | .out (v12, v14) =>
        some v12))

def slices_Repeat_Frame_L0 (fl : Nat) (x8 : Nat) : Nat → (List F) → Int → Option (LO ((List F) × Int) ((List F)))
  | 0, _, _ => none
  | fuel + 1, v12, v14 => cond (decide (v14 < (x8 : Int)))
     (Option.bind (dropO v12 v14) fun x16 =>
        Option.bind (takeO v12 v14) fun x17 =>
        Option.bind (ck (v14 + ((min (x17).length ((v12).length - (Int.toNat v14)) : Nat) : Int))) fun x19 =>
        slices_Repeat_Frame_L0 fl x8 fuel (cpy v12 (Int.toNat v14) x17) x19)
     (some (.out (v12, v14)))
def slices_Repeat_Frame (fl : Nat) (a0 : (List F)) (a1 : Int) : Option (List F) :=
  cond (decide (a1 < 0))
   (none)
   (Option.bind (ckU ((a0).length : Int)) fun x2 =>
      Option.bind (ckU a1) fun x3 =>
      Option.bind (math_bits_Mul fl x2 x3) fun x4 =>
      Option.bind (cond (decide (0 < x4.1)) (some true) (some (decide (9223372036854775807 < x4.2)))) fun y5 =>
      cond y5
     (none)
     (Option.bind (ck x4.2) fun x7 =>
        Option.bind (mkO x7) fun x8 =>
        Option.bind (slices_Repeat_Frame_L0 fl x8 fl (cpy (List.replicate x8 (⟨false, (⟨0, 0⟩ : K), 0, 0⟩ : F)) 0 a0) ((min (a0).length (((List.replicate x8 (⟨false, (⟨0, 0⟩ : K), 0, 0⟩ : F))).length - 0) : Nat) : Int)) fun o => match o with
        | .ret r' => some r'
        | .out (v12, v14) =>
        some v12))

def i_NewTable (fl : Nat) (a0 : Int) (a1 : Int) : Option (T × Bool) :=
  Option.bind (cond (decide (a0 < 1)) (some true) (some (decide (16 < a0)))) fun y2 =>
    Option.bind (cond y2 (some true) (Option.bind (i_bucketsValid fl a1) fun x4 =>
    some (!x4))) fun y3 =>
    cond y3
   (some ((⟨[], []⟩ : T), false))
   (Option.bind (slices_Repeat_Int fl ([(-1)]) a1) fun x8 =>
      Option.bind (slices_Repeat_Frame fl ([(⟨false, (⟨0, 0⟩ : K), 0, (-1)⟩ : F)]) a0) fun x15 =>
      some ((⟨x8, x15⟩ : T), true))

def l_FnUnmapAll_L0 (fl : Nat) (x38 : ((List K))) : Nat → (List Int) → (List F) → Int → Option (LO ((List Int) × (List F) × Int) Bool)
  | 0, _, _, _ => none
  | fuel + 1, v43, v48, v53 => cond (decide (v53 < ((x38).length : Int)))
     (Option.bind (idx x38 v53) fun x55 =>
        Option.bind (i_UnmapPage fl (⟨v43, v48⟩ : T) x55) fun x56 =>
        cond (!x56.2)
       (some (.ret false))
       (Option.bind (ck (v53 + 1)) fun x67 =>
          l_FnUnmapAll_L0 fl x38 fuel x56.1.b x56.1.f x67))
     (some (.out (v43, v48, v53)))
def l_FnUnmapAll (fl : Nat) (a0 : (List UInt8)) : Option Bool :=
  cond (decide (1048576 < ((a0).length : Int)))
   (some true)
   (Option.bind (s_DrawUnmapPage fl a0) fun x2 =>
      Option.bind (i_UnmapPage fl x2.1 x2.2) fun x13 =>
      Option.bind (s_UnmapPage fl x2.1 x2.2) fun x23 =>
      Option.bind (i_TableSame fl x13.1 x23.1) fun x33 =>
      Option.bind (cond (!x33) (some true) (some (x13.2 != x23.2))) fun y34 =>
      Option.bind (cond y34 (some true) (some (!x13.2))) fun y35 =>
      cond y35
     (Option.bind (cond x33 (some (x13.2 == x23.2)) (some false)) fun y37 =>
        some y37)
     (Option.bind (i_KeysOf fl x13.1) fun x38 =>
        Option.bind (l_FnUnmapAll_L0 fl x38 fl x13.1.b x13.1.f 0) fun o => match o with
        | .ret r' => some r'
        | .out (v43, v48, v53) =>
        Option.bind (i_NewTable fl ((x2.1.f).length : Int) ((x2.1.b).length : Int)) fun x68 =>
        Option.bind (cond x68.2 (Option.bind (i_TableSame fl (⟨v43, v48⟩ : T) x68.1) fun x79 =>
        some x79) (some false)) fun y78 =>
        some y78))
end
end Go.Proofs.YtbhpohopfbcfgaaDoor
