/- The pure functions: what each function of the program computes, in plain Lean. Printed by a program (gen.py). -/
import Derived.Test.YtbgodaeccgjdgaaDoorE7
import Derived.Test.YtbgodaeccgjdgaaDoorDat
import Derived.Test.YtbgodaeccgjdgaaDoorPure
import Derived.Test.YtbgodaeccgjdgaaDoorMap
import Derived.Test.YtbgodaeccgjdgaaDoorCpy
set_option linter.unusedSimpArgs false
set_option linter.unusedVariables false
set_option linter.unusedSectionVars false
namespace Go.Proofs.YtbgodaeccgjdgaaDoor
open Go.RowKit
noncomputable section
def s_l12Rd_pick (fl : Nat) (a0_0 : (List UInt8)) (a0_1 : Int) (a1 : Int) : Option (Int × Int) :=
  Option.bind (ck (a0_1 + 1)) fun x1 =>
    Option.bind (cond (decide (a1 < 1)) (some true) (some (((a0_0).length : Int) == 0))) fun y2 =>
    cond y2
   (some (0, x1))
   (Option.bind (ck (x1 - 1)) fun x4 =>
      cond (decide (x4 < ((a0_0).length : Int)))
     (Option.bind (idx a0_0 x4) fun x6 =>
        Option.bind (ck (x6.toNat : Int)) fun x7 =>
        Option.bind (remO x7 a1) fun x8 =>
        some (x8, x1))
     (Option.bind (remO x4 ((a0_0).length : Int)) fun x9 =>
        Option.bind (idx a0_0 x9) fun x10 =>
        Option.bind (ck (x10.toNat : Int)) fun x11 =>
        Option.bind (ck (x11 * 131)) fun x12 =>
        Option.bind (ck (x4 * 7)) fun x13 =>
        Option.bind (ck (x13 + 3)) fun x14 =>
        Option.bind (remO x14 ((a0_0).length : Int)) fun x15 =>
        Option.bind (idx a0_0 x15) fun x16 =>
        Option.bind (ck (x16.toNat : Int)) fun x17 =>
        Option.bind (ck (x17 * 1117)) fun x18 =>
        Option.bind (ck (x12 + x18)) fun x19 =>
        Option.bind (ck (x4 * 29)) fun x20 =>
        Option.bind (ck (x19 + x20)) fun x21 =>
        Option.bind (quoO x4 ((a0_0).length : Int)) fun x22 =>
        Option.bind (ck (x22 * 53)) fun x23 =>
        Option.bind (ck (x21 + x23)) fun x24 =>
        Option.bind (quoO x24 64) fun x25 =>
        Option.bind (remO (bXor x24 x25) a1) fun x26 =>
        some (x26, x1)))

def s_l12Rd_num (fl : Nat) (a0_0 : (List UInt8)) (a0_1 : Int) (a1 : (List Int)) : Option (Int × Int) :=
  Option.bind (s_l12Rd_pick fl a0_0 a0_1 ((a1).length : Int)) fun x1 =>
    Option.bind (idx a1 x1.1) fun x2 =>
    some (x2, x1.2)

def s_DrawNewMachine (fl : Nat) (a0 : (List UInt8)) : Option (Int × Int × Int × Int) :=
  Option.bind (s_l12Rd_num fl (a0.take 2000) 0 ([4, 16, 1, 0])) fun x4 =>
    Option.bind (s_l12Rd_num fl (a0.take 2000) x4.2 ([4, 1, 16, 17])) fun x7 =>
    Option.bind (s_l12Rd_num fl (a0.take 2000) x7.2 ([4, 1, 8, 9])) fun x10 =>
    Option.bind (s_l12Rd_num fl (a0.take 2000) x10.2 ([2, 8, 1, 0])) fun x13 =>
    some (x4.1, x7.1, x10.1, x13.1)

def i_bucketsValid (fl : Nat) (a0 : Int) : Option Bool :=
  Option.bind (cond (decide (1 ≤ a0)) (some (decide (a0 ≤ 16))) (some false)) fun y1 =>
    some y1

def math_bits_Mul64 (fl : Nat) (a0 : Int) (a1 : Int) : Option (Int × Int) :=
  Option.bind (ckU ((bAndU a0 4294967295) * (bAndU a1 4294967295))) fun x1 =>
    Option.bind (ckU ((a0 / 4294967296) * (bAndU a1 4294967295))) fun x2 =>
    Option.bind (ckU (x2 + (x1 / 4294967296))) fun x3 =>
    Option.bind (ckU ((bAndU a0 4294967295) * (a1 / 4294967296))) fun x4 =>
    Option.bind (ckU ((bAndU x3 4294967295) + x4)) fun x5 =>
    Option.bind (ckU ((a0 / 4294967296) * (a1 / 4294967296))) fun x6 =>
    Option.bind (ckU (x6 + (x3 / 4294967296))) fun x7 =>
    Option.bind (ckU (x7 + (x5 / 4294967296))) fun x8 =>
    Option.bind (ckU (a0 * a1)) fun x9 =>
    some (x8, x9)

def math_bits_Mul (fl : Nat) (a0 : Int) (a1 : Int) : Option (Int × Int) :=
  cond false
   (none)
   (Option.bind (math_bits_Mul64 fl a0 a1) fun x2 =>
      some (x2.1, x2.2))

def slices_Repeat_Int_L0 (fl : Nat) (x8 : Nat) : Nat → (List Int) → Int → Option (LO ((List Int) × Int) ((List Int)))
  | 0, _, _ => none
  | fuel + 1, v12, v14 => cond (decide (v14 < (x8 : Int)))
     (Option.bind (dropO v12 v14) fun x16 =>
        Option.bind (takeO v12 v14) fun x17 =>
        Option.bind (ck (v14 + ((min (x17).length ((v12).length - (Int.toNat v14)) : Nat) : Int))) fun x19 =>
        slices_Repeat_Int_L0 fl x8 fuel (cpy v12 (Int.toNat v14) x17) x19)
     (some (.out (v12, v14)))
def slices_Repeat_Int (fl : Nat) (a0 : (List Int)) (a1 : Int) : Option (List Int) :=
  cond (decide (a1 < 0))
   (none)
   (Option.bind (ckU ((a0).length : Int)) fun x2 =>
      Option.bind (ckU a1) fun x3 =>
      Option.bind (math_bits_Mul fl x2 x3) fun x4 =>
      Option.bind (cond (decide (0 < x4.1)) (some true) (some (decide (9223372036854775807 < x4.2)))) fun y5 =>
      cond y5
     (none)
     (Option.bind (ck x4.2) fun x7 =>
        Option.bind (mkO x7) fun x8 =>
        Option.bind (slices_Repeat_Int_L0 fl x8 fl (cpy (List.replicate x8 (0 : Int)) 0 a0) ((min (a0).length (((List.replicate x8 (0 : Int))).length - 0) : Nat) : Int)) fun o => match o with
        | .ret r' => some r'
        | .out (v12, v14) =>
        some v12))

def slices_Repeat_Frame_L0 (fl : Nat) (x8 : Nat) : Nat → (List F) → Int → Option (LO ((List F) × Int) ((List F)))
  | 0, _, _ => none
  | fuel + 1, v12, v14 => cond (decide (v14 < (x8 : Int)))
     (Option.bind (dropO v12 v14) fun x16 =>
        Option.bind (takeO v12 v14) fun x17 =>
        Option.bind (ck (v14 + ((min (x17).length ((v12).length - (Int.toNat v14)) : Nat) : Int))) fun x19 =>
        slices_Repeat_Frame_L0 fl x8 fuel (cpy v12 (Int.toNat v14) x17) x19)
     (some (.out (v12, v14)))
def slices_Repeat_Frame (fl : Nat) (a0 : (List F)) (a1 : Int) : Option (List F) :=
  cond (decide (a1 < 0))
   (none)
   (Option.bind (ckU ((a0).length : Int)) fun x2 =>
      Option.bind (ckU a1) fun x3 =>
      Option.bind (math_bits_Mul fl x2 x3) fun x4 =>
      Option.bind (cond (decide (0 < x4.1)) (some true) (some (decide (9223372036854775807 < x4.2)))) fun y5 =>
      cond y5
     (none)
     (Option.bind (ck x4.2) fun x7 =>
        Option.bind (mkO x7) fun x8 =>
        Option.bind (slices_Repeat_Frame_L0 fl x8 fl (cpy (List.replicate x8 (⟨false, (⟨0, 0⟩ : K), 0, 0⟩ : F)) 0 a0) ((min (a0).length (((List.replicate x8 (⟨false, (⟨0, 0⟩ : K), 0, 0⟩ : F))).length - 0) : Nat) : Int)) fun o => match o with
        | .ret r' => some r'
        | .out (v12, v14) =>
        some v12))

def i_NewTable (fl : Nat) (a0 : Int) (a1 : Int) : Option (T × Bool) :=
  Option.bind (cond (decide (a0 < 1)) (some true) (some (decide (16 < a0)))) fun y2 =>
    Option.bind (cond y2 (some true) (Option.bind (i_bucketsValid fl a1) fun x4 =>
    some (!x4))) fun y3 =>
    cond y3
   (some ((⟨[], []⟩ : T), false))
   (Option.bind (slices_Repeat_Int fl ([(-1)]) a1) fun x8 =>
      Option.bind (slices_Repeat_Frame fl ([(⟨false, (⟨0, 0⟩ : K), 0, (-1)⟩ : F)]) a0) fun x15 =>
      some ((⟨x8, x15⟩ : T), true))

def i_NewCache (fl : Nat) (a0 : Int) : Option (Ca × Bool) :=
  Option.bind (cond (decide (a0 < 1)) (some true) (some (decide (8 < a0)))) fun y2 =>
    cond y2
   (some ((⟨[], 0⟩ : Ca), false))
   (Option.bind (mkO a0) fun x4 =>
      some ((⟨(List.replicate x4 (⟨false, 0, 0, 0, 0, false⟩ : Ln)), 0⟩ : Ca), true))

def i_NewTags (fl : Nat) (a0 : Int) : Option (Tg × Bool) :=
  Option.bind (cond (decide (a0 < 1)) (some true) (some (decide (8 < a0)))) fun y2 =>
    cond y2
   (some ((⟨0, 0, 0, []⟩ : Tg), false))
   (some ((⟨a0, 0, 0, []⟩ : Tg), true))

def i_within (fl : Nat) (a0 : Int) (a1 : Int) : Option Bool :=
  Option.bind (cond (decide (0 ≤ a0)) (some (decide (a0 < a1))) (some false)) fun y1 =>
    some y1

def i_TagsValid_L0 (fl : Nat) (a0 : Tg) : Nat → (List Int) → Int → Int → Option (LO ((List Int) × Int × Int) Bool)
  | 0, _, _, _ => none
  | fuel + 1, v10, v12, v13 => cond (decide (v13 < ((a0.o).length : Int)))
     (Option.bind (idx a0.o v13) fun x15 =>
        Option.bind (cond (decide (x15.tg ≤ v12)) (some true) (some (decide (a0.n ≤ x15.tg)))) fun y17 =>
        Option.bind (cond y17 (some true) (Option.bind (i_within fl x15.sp 16) fun x19 =>
        some (!x19))) fun y18 =>
        Option.bind (cond y18 (some true) (Option.bind (hasO v10 x15.sp) fun x21 =>
        some x21)) fun y20 =>
        cond y20
       (some (.ret false))
       (Option.bind (addO v10 x15.sp) fun x23 =>
          Option.bind (ck (v13 + 1)) fun x25 =>
          i_TagsValid_L0 fl a0 fuel x23 x15.tg x25))
     (some (.out (v10, v12, v13)))
def i_TagsValid (fl : Nat) (a0 : Tg) : Option Bool :=
  Option.bind (cond (decide (a0.c < 1)) (some true) (some (decide (8 < a0.c)))) fun y2 =>
    Option.bind (cond y2 (some true) (some (decide (a0.n < 0)))) fun y3 =>
    Option.bind (cond y3 (some true) (some (decide (a0.c < a0.n)))) fun y4 =>
    Option.bind (cond y4 (some true) (some (decide (a0.r < 0)))) fun y5 =>
    Option.bind (cond y5 (some true) (some (decide (1000000 < a0.r)))) fun y6 =>
    cond y6
   (some false)
   (Option.bind (i_TagsValid_L0 fl a0 fl ([] : List Int) (-1) 0) fun o => match o with
      | .ret r' => some r'
      | .out (v10, v12, v13) =>
      some true)

def slices_Clone_Own (fl : Nat) (a0 : (List Ow)) : Option (List Ow) :=
  cnt a0

def i_Tags_own_1 (fl : Nat) (a0 : Ow) (ac0 : Int) : Option Bool :=
  some (a0.sp == ac0)

def slices_IndexFunc_Own_of_i_Tags_own_1_L0 (fl : Nat) (a0 : (List Ow)) (a1_0 : Int) : Nat → Int → Option (LO Int Int)
  | 0, _ => none
  | fuel + 1, v1 => cond (decide (v1 < ((a0).length : Int)))
     (Option.bind (idx a0 v1) fun x3 =>
        Option.bind (i_Tags_own_1 fl x3 a1_0) fun x4 =>
        cond x4
       (some (.ret v1))
       (Option.bind (ck (v1 + 1)) fun x6 =>
          slices_IndexFunc_Own_of_i_Tags_own_1_L0 fl a0 a1_0 fuel x6))
     (some (.out v1))
def slices_IndexFunc_Own_of_i_Tags_own_1 (fl : Nat) (a0 : (List Ow)) (a1_0 : Int) : Option Int :=
  Option.bind (slices_IndexFunc_Own_of_i_Tags_own_1_L0 fl a0 a1_0 fl 0) fun o => match o with
    | .ret r' => some r'
    | .out v1 =>
    some (-1)

def i_Tags_own (fl : Nat) (a0 : Tg) (a1 : Int) : Option Int :=
  Option.bind (slices_IndexFunc_Own_of_i_Tags_own_1 fl a0.o a1) fun x3 =>
    some x3

def i_TakeTag (fl : Nat) (a0 : Tg) (a1 : Int) : Option (Tg × Int × Bool × Bool) :=
  Option.bind (i_TagsValid fl a0) fun x3 =>
    Option.bind (cond (!x3) (some true) (Option.bind (i_within fl a1 16) fun x5 =>
    some (!x5))) fun y4 =>
    cond y4
   (some ((⟨0, 0, 0, []⟩ : Tg), 0, false, false))
   (Option.bind (slices_Clone_Own fl a0.o) fun x8 =>
      Option.bind (i_Tags_own fl a0 a1) fun x13 =>
      cond (decide (0 ≤ x13))
     (Option.bind (idx a0.o x13) fun x15 =>
        some ((⟨a0.c, a0.n, a0.r, x8⟩ : Tg), x15.tg, false, true))
     (cond (a0.n == a0.c)
       (cond (a0.r == 1000000)
         (some ((⟨0, 0, 0, []⟩ : Tg), 0, false, false))
         (Option.bind (ck (a0.r + 1)) fun x18 =>
            Option.bind (cnt (([] : List Ow) ++ [(⟨a1, 0⟩ : Ow)])) fun x21 =>
            Option.bind (ck (0 + 1)) fun x25 =>
            some ((⟨a0.c, x25, x18, x21⟩ : Tg), 0, (a0.n == a0.c), true)))
       (Option.bind (cnt (x8 ++ [(⟨a1, a0.n⟩ : Ow)])) fun x28 =>
          Option.bind (ck (a0.n + 1)) fun x32 =>
          some ((⟨a0.c, x32, a0.r, x28⟩ : Tg), a0.n, (a0.n == a0.c), true))))

def i_NewMachine (fl : Nat) (a0 : Int) (a1 : Int) (a2 : Int) (a3 : Int) : Option (Mc × Bool) :=
  Option.bind (i_NewTable fl a0 a1) fun x2 =>
    Option.bind (i_NewCache fl a2) fun x12 =>
    Option.bind (i_NewTags fl a3) fun x18 =>
    Option.bind (cond (!x2.2) (some true) (some (!x12.2))) fun y24 =>
    Option.bind (cond y24 (some true) (some (!x18.2))) fun y25 =>
    cond y25
   (some ((⟨(⟨[], []⟩ : T), (⟨[], 0⟩ : Ca), (⟨0, 0, 0, []⟩ : Tg), 0⟩ : Mc), false))
   (Option.bind (i_TakeTag fl x18.1 0) fun x27 =>
      some ((⟨x2.1, x12.1, x27.1, 0⟩ : Mc), true))

def s_l2Buckets (fl : Nat) (a0 : Int) : Option Bool :=
  Option.bind (cond (decide (1 ≤ a0)) (some (decide (a0 ≤ 16))) (some false)) fun y1 =>
    some y1

def s_NewTable_L0 (fl : Nat) (a1 : Int) : Nat → (List Int) → Int → Option (LO ((List Int) × Int) (T × Bool))
  | 0, _, _ => none
  | fuel + 1, v7, v12 => cond (decide (v12 < a1))
     (Option.bind (cnt (v7 ++ [(-1)])) fun x16 =>
        Option.bind (ck (v12 + 1)) fun x20 =>
        s_NewTable_L0 fl a1 fuel x16 x20)
     (some (.out (v7, v12)))
def s_NewTable_L1 (fl : Nat) (a0 : Int) : Nat → (List F) → Int → Option (LO ((List F) × Int) (T × Bool))
  | 0, _, _ => none
  | fuel + 1, v21, v26 => cond (decide (v26 < a0))
     (Option.bind (cnt (v21 ++ [(⟨false, (⟨0, 0⟩ : K), 0, (-1)⟩ : F)])) fun x30 =>
        Option.bind (ck (v26 + 1)) fun x34 =>
        s_NewTable_L1 fl a0 fuel x30 x34)
     (some (.out (v21, v26)))
def s_NewTable (fl : Nat) (a0 : Int) (a1 : Int) : Option (T × Bool) :=
  Option.bind (cond (decide (a0 < 1)) (some true) (some (decide (16 < a0)))) fun y2 =>
    Option.bind (cond y2 (some true) (Option.bind (s_l2Buckets fl a1) fun x4 =>
    some (!x4))) fun y3 =>
    cond y3
   (some ((⟨[], []⟩ : T), false))
   (Option.bind (s_NewTable_L0 fl a1 fl ([]) 0) fun o => match o with
      | .ret r' => some r'
      | .out (v7, v12) =>
      Option.bind (s_NewTable_L1 fl a0 fl ([]) 0) fun o => match o with
      | .ret r' => some r'
      | .out (v21, v26) =>
      some ((⟨v7, v21⟩ : T), true))

def s_NewCache (fl : Nat) (a0 : Int) : Option (Ca × Bool) :=
  Option.bind (cond (decide (a0 < 1)) (some true) (some (decide (8 < a0)))) fun y2 =>
    cond y2
   (some ((⟨[], 0⟩ : Ca), false))
   (Option.bind (mkO a0) fun x4 =>
      some ((⟨(List.replicate x4 (⟨false, 0, 0, 0, 0, false⟩ : Ln)), 0⟩ : Ca), true))

def s_NewTags (fl : Nat) (a0 : Int) : Option (Tg × Bool) :=
  Option.bind (cond (decide (a0 < 1)) (some true) (some (decide (8 < a0)))) fun y2 =>
    cond y2
   (some ((⟨0, 0, 0, []⟩ : Tg), false))
   (some ((⟨a0, 0, 0, ([] : List Ow)⟩ : Tg), true))

def s_l1Space (fl : Nat) (a0 : Int) : Option Bool :=
  Option.bind (cond (decide (0 ≤ a0)) (some (decide (a0 < 16))) (some false)) fun y1 =>
    some y1

def s_TagsValid_L1 (fl : Nat) (a0 : Tg) (v9 : Int) (x11 : Ow) : Nat → Int → Option (LO Int Bool)
  | 0, _ => none
  | fuel + 1, v21 => cond (decide (v21 < v9))
     (Option.bind (idx a0.o v21) fun x23 =>
        cond (x23.sp == x11.sp)
       (some (.ret false))
       (Option.bind (ck (v21 + 1)) fun x25 =>
          s_TagsValid_L1 fl a0 v9 x11 fuel x25))
     (some (.out v21))
def s_TagsValid_L0 (fl : Nat) (a0 : Tg) : Nat → Int → Option (LO Int Bool)
  | 0, _ => none
  | fuel + 1, v9 => cond (decide (v9 < ((a0.o).length : Int)))
     (Option.bind (idx a0.o v9) fun x11 =>
        Option.bind (s_l1Space fl x11.sp) fun x13 =>
        Option.bind (cond (!x13) (some true) (some (decide (x11.tg < 0)))) fun y14 =>
        Option.bind (cond y14 (some true) (some (decide (a0.n ≤ x11.tg)))) fun y15 =>
        Option.bind (cond y15 (some true) (Option.bind (cond (decide (0 < v9)) (Option.bind (ck (v9 - 1)) fun x18 =>
        Option.bind (idx a0.o x18) fun x19 =>
        some (decide (x11.tg ≤ x19.tg))) (some false)) fun y17 =>
        some y17)) fun y16 =>
        cond y16
       (some (.ret false))
       (Option.bind (s_TagsValid_L1 fl a0 v9 x11 fl 0) fun o => match o with
          | .ret r' => some (.ret r')
          | .out v21 =>
          Option.bind (ck (v9 + 1)) fun x26 =>
          s_TagsValid_L0 fl a0 fuel x26))
     (some (.out v9))
def s_TagsValid (fl : Nat) (a0 : Tg) : Option Bool :=
  Option.bind (cond (decide (a0.c < 1)) (some true) (some (decide (8 < a0.c)))) fun y2 =>
    Option.bind (cond y2 (some true) (some (decide (a0.n < 0)))) fun y3 =>
    Option.bind (cond y3 (some true) (some (decide (a0.c < a0.n)))) fun y4 =>
    Option.bind (cond y4 (some true) (some (decide (a0.r < 0)))) fun y5 =>
    Option.bind (cond y5 (some true) (some (decide (1000000 < a0.r)))) fun y6 =>
    Option.bind (cond y6 (some true) (some (decide (a0.n < ((a0.o).length : Int))))) fun y7 =>
    cond y7
   (some false)
   (Option.bind (s_TagsValid_L0 fl a0 fl 0) fun o => match o with
      | .ret r' => some r'
      | .out v9 =>
      some true)

def s_l5Copy (fl : Nat) (a0 : Tg) : Option Tg :=
  Option.bind (cnt (([] : List Ow) ++ a0.o)) fun x5 =>
    some (⟨a0.c, a0.n, a0.r, x5⟩ : Tg)

def s_l5Find_L0 (fl : Nat) (a0 : Tg) (a1 : Int) : Nat → Int → Option (LO Int Int)
  | 0, _ => none
  | fuel + 1, v2 => cond (decide (v2 < ((a0.o).length : Int)))
     (Option.bind (idx a0.o v2) fun x4 =>
        cond (x4.sp == a1)
       (some (.ret v2))
       (Option.bind (ck (v2 + 1)) fun x6 =>
          s_l5Find_L0 fl a0 a1 fuel x6))
     (some (.out v2))
def s_l5Find (fl : Nat) (a0 : Tg) (a1 : Int) : Option Int :=
  Option.bind (s_l5Find_L0 fl a0 a1 fl 0) fun o => match o with
    | .ret r' => some r'
    | .out v2 =>
    some (-1)

def s_TakeTag (fl : Nat) (a0 : Tg) (a1 : Int) : Option (Tg × Int × Bool × Bool) :=
  Option.bind (s_TagsValid fl a0) fun x3 =>
    Option.bind (cond (!x3) (some true) (Option.bind (s_l1Space fl a1) fun x5 =>
    some (!x5))) fun y4 =>
    cond y4
   (some ((⟨0, 0, 0, []⟩ : Tg), 0, false, false))
   (Option.bind (s_l5Copy fl a0) fun x7 =>
      Option.bind (s_l5Find fl a0 a1) fun x13 =>
      cond (decide (0 ≤ x13))
     (Option.bind (idx a0.o x13) fun x15 =>
        some (x7, x15.tg, false, true))
     (cond (a0.n == a0.c)
       (Option.bind (ck (a0.r + 1)) fun x17 =>
          cond (decide (1000000 < x17))
         (some ((⟨0, 0, 0, []⟩ : Tg), 0, false, false))
         (Option.bind (cnt (([] : List Ow) ++ [(⟨a1, 0⟩ : Ow)])) fun x23 =>
            Option.bind (ck (0 + 1)) fun x27 =>
            some ((⟨a0.c, x27, x17, x23⟩ : Tg), 0, (a0.n == a0.c), true)))
       (cond (decide (1000000 < x7.r))
         (some ((⟨0, 0, 0, []⟩ : Tg), 0, false, false))
         (Option.bind (cnt (x7.o ++ [(⟨a1, x7.n⟩ : Ow)])) fun x31 =>
            Option.bind (ck (x7.n + 1)) fun x35 =>
            some ((⟨x7.c, x35, x7.r, x31⟩ : Tg), x7.n, (a0.n == a0.c), true)))))

def s_NewMachine (fl : Nat) (a0 : Int) (a1 : Int) (a2 : Int) (a3 : Int) : Option (Mc × Bool) :=
  Option.bind (s_NewTable fl a0 a1) fun x2 =>
    Option.bind (s_NewCache fl a2) fun x12 =>
    Option.bind (s_NewTags fl a3) fun x18 =>
    Option.bind (cond (!x2.2) (some true) (some (!x12.2))) fun y24 =>
    Option.bind (cond y24 (some true) (some (!x18.2))) fun y25 =>
    cond y25
   (some ((⟨(⟨[], []⟩ : T), (⟨[], 0⟩ : Ca), (⟨0, 0, 0, []⟩ : Tg), 0⟩ : Mc), false))
   (Option.bind (s_TakeTag fl x18.1 0) fun x27 =>
      some ((⟨x2.1, x12.1, x27.1, 0⟩ : Mc), true))

def slices_Equal_Int_L0 (fl : Nat) (a0 : (List Int)) (a1 : (List Int)) : Nat → Int → Option (LO Int Bool)
  | 0, _ => none
  | fuel + 1, v2 => cond (decide (v2 < ((a0).length : Int)))
     (Option.bind (idx a0 v2) fun x4 =>
        Option.bind (idx a1 v2) fun x5 =>
        cond (x4 != x5)
       (some (.ret false))
       (Option.bind (ck (v2 + 1)) fun x7 =>
          slices_Equal_Int_L0 fl a0 a1 fuel x7))
     (some (.out v2))
def slices_Equal_Int (fl : Nat) (a0 : (List Int)) (a1 : (List Int)) : Option Bool :=
  cond (((a0).length : Int) != ((a1).length : Int))
   (some false)
   (Option.bind (slices_Equal_Int_L0 fl a0 a1 fl 0) fun o => match o with
      | .ret r' => some r'
      | .out v2 =>
      some true)

def slices_Equal_Frame_L0 (fl : Nat) (a0 : (List F)) (a1 : (List F)) : Nat → Int → Option (LO Int Bool)
  | 0, _ => none
  | fuel + 1, v2 => cond (decide (v2 < ((a0).length : Int)))
     (Option.bind (idx a0 v2) fun x4 =>
        Option.bind (idx a1 v2) fun x5 =>
        cond (x4 != x5)
       (some (.ret false))
       (Option.bind (ck (v2 + 1)) fun x7 =>
          slices_Equal_Frame_L0 fl a0 a1 fuel x7))
     (some (.out v2))
def slices_Equal_Frame (fl : Nat) (a0 : (List F)) (a1 : (List F)) : Option Bool :=
  cond (((a0).length : Int) != ((a1).length : Int))
   (some false)
   (Option.bind (slices_Equal_Frame_L0 fl a0 a1 fl 0) fun o => match o with
      | .ret r' => some r'
      | .out v2 =>
      some true)

def i_TableSame (fl : Nat) (a0 : T) (a1 : T) : Option Bool :=
  Option.bind (slices_Equal_Int fl a0.b a1.b) fun x3 =>
    Option.bind (cond x3 (Option.bind (slices_Equal_Frame fl a0.f a1.f) fun x5 =>
    some x5) (some false)) fun y4 =>
    some y4

def slices_Equal_Line_L0 (fl : Nat) (a0 : (List Ln)) (a1 : (List Ln)) : Nat → Int → Option (LO Int Bool)
  | 0, _ => none
  | fuel + 1, v2 => cond (decide (v2 < ((a0).length : Int)))
     (Option.bind (idx a0 v2) fun x4 =>
        Option.bind (idx a1 v2) fun x5 =>
        cond (x4 != x5)
       (some (.ret false))
       (Option.bind (ck (v2 + 1)) fun x7 =>
          slices_Equal_Line_L0 fl a0 a1 fuel x7))
     (some (.out v2))
def slices_Equal_Line (fl : Nat) (a0 : (List Ln)) (a1 : (List Ln)) : Option Bool :=
  cond (((a0).length : Int) != ((a1).length : Int))
   (some false)
   (Option.bind (slices_Equal_Line_L0 fl a0 a1 fl 0) fun o => match o with
      | .ret r' => some r'
      | .out v2 =>
      some true)

def i_CacheSame (fl : Nat) (a0 : Ca) (a1 : Ca) : Option Bool :=
  Option.bind (cond (a0.h == a1.h) (Option.bind (slices_Equal_Line fl a0.l a1.l) fun x4 =>
    some x4) (some false)) fun y3 =>
    some y3

def slices_Equal_Own_L0 (fl : Nat) (a0 : (List Ow)) (a1 : (List Ow)) : Nat → Int → Option (LO Int Bool)
  | 0, _ => none
  | fuel + 1, v2 => cond (decide (v2 < ((a0).length : Int)))
     (Option.bind (idx a0 v2) fun x4 =>
        Option.bind (idx a1 v2) fun x5 =>
        cond (x4 != x5)
       (some (.ret false))
       (Option.bind (ck (v2 + 1)) fun x7 =>
          slices_Equal_Own_L0 fl a0 a1 fuel x7))
     (some (.out v2))
def slices_Equal_Own (fl : Nat) (a0 : (List Ow)) (a1 : (List Ow)) : Option Bool :=
  cond (((a0).length : Int) != ((a1).length : Int))
   (some false)
   (Option.bind (slices_Equal_Own_L0 fl a0 a1 fl 0) fun o => match o with
      | .ret r' => some r'
      | .out v2 =>
      some true)

def i_TagsSame (fl : Nat) (a0 : Tg) (a1 : Tg) : Option Bool :=
  Option.bind (cond (a0.c == a1.c) (some (a0.n == a1.n)) (some false)) fun y3 =>
    Option.bind (cond y3 (some (a0.r == a1.r)) (some false)) fun y4 =>
    Option.bind (cond y4 (Option.bind (slices_Equal_Own fl a0.o a1.o) fun x6 =>
    some x6) (some false)) fun y5 =>
    some y5

def i_MachineSame (fl : Nat) (a0 : Mc) (a1 : Mc) : Option Bool :=
  Option.bind (i_TableSame fl a0.t a1.t) fun x3 =>
    Option.bind (cond x3 (Option.bind (i_CacheSame fl a0.c a1.c) fun x5 =>
    some x5) (some false)) fun y4 =>
    Option.bind (cond y4 (Option.bind (i_TagsSame fl a0.g a1.g) fun x7 =>
    some x7) (some false)) fun y6 =>
    Option.bind (cond y6 (some (a0.s == a1.s)) (some false)) fun y8 =>
    some y8

def i_TableValid (fl : Nat) (a0 : T) : Option Bool := some (tableOk a0)

def i_tagValid (fl : Nat) (a0 : Int) : Option Bool :=
  Option.bind (cond (decide ((-1) ≤ a0)) (some (decide (a0 < 8))) (some false)) fun y1 =>
    some y1

def i_RightsValid (fl : Nat) (a0 : Int) : Option Bool :=
  Option.bind (i_within fl a0 8) fun x1 =>
    some x1

def i_lineValid (fl : Nat) (a0 : Ln) : Option Bool :=
  cond (!a0.va)
   (some (a0 == (⟨false, 0, 0, 0, 0, false⟩ : Ln)))
   (Option.bind (i_tagValid fl a0.tg) fun x3 =>
      Option.bind (cond x3 (Option.bind (i_within fl a0.pg 256) fun x5 =>
      some x5) (some false)) fun y4 =>
      Option.bind (cond y4 (Option.bind (i_within fl a0.fr 16) fun x7 =>
      some x7) (some false)) fun y6 =>
      Option.bind (cond y6 (Option.bind (i_RightsValid fl a0.ri) fun x9 =>
      some x9) (some false)) fun y8 =>
      some y8)

def i_clash (fl : Nat) (a0 : Ln) (a1 : Ln) : Option Bool :=
  Option.bind (cond a0.va (some a1.va) (some false)) fun y3 =>
    Option.bind (cond y3 (some (a0.pg == a1.pg)) (some false)) fun y4 =>
    Option.bind (cond y4 (Option.bind (cond (a0.tg == a1.tg) (some true) (some (a0.tg == (-1)))) fun y6 =>
    Option.bind (cond y6 (some true) (some (a1.tg == (-1)))) fun y7 =>
    some y7) (some false)) fun y5 =>
    some y5

def i_CacheValid_L1 (fl : Nat) (x9 : Ln) (x13 : (List Ln)) : Nat → Int → Option (LO Int Bool)
  | 0, _ => none
  | fuel + 1, v14 => cond (decide (v14 < ((x13).length : Int)))
     (Option.bind (idx x13 v14) fun x16 =>
        Option.bind (i_clash fl x9 x16) fun x18 =>
        cond x18
       (some (.ret false))
       (Option.bind (ck (v14 + 1)) fun x20 =>
          i_CacheValid_L1 fl x9 x13 fuel x20))
     (some (.out v14))
def i_CacheValid_L0 (fl : Nat) (a0 : Ca) : Nat → Int → Bool → Option (LO (Int × Bool) Bool)
  | 0, _, _ => none
  | fuel + 1, v6, v7 => cond (decide (v6 < ((a0.l).length : Int)))
     (Option.bind (idx a0.l v6) fun x9 =>
        Option.bind (i_lineValid fl x9) fun x11 =>
        cond (!x11)
       (some (.ret false))
       (Option.bind (takeO a0.l v6) fun x13 =>
          Option.bind (i_CacheValid_L1 fl x9 x13 fl 0) fun o => match o with
          | .ret r' => some (.ret r')
          | .out v14 =>
          Option.bind (cond v7 (some true) (some (!x9.wi))) fun y21 =>
          Option.bind (ck (v6 + 1)) fun x22 =>
          i_CacheValid_L0 fl a0 fuel x22 y21))
     (some (.out (v6, v7)))
def i_CacheValid (fl : Nat) (a0 : Ca) : Option Bool :=
  Option.bind (cond (decide (((a0.l).length : Int) < 1)) (some true) (some (decide (8 < ((a0.l).length : Int))))) fun y2 =>
    Option.bind (cond y2 (some true) (Option.bind (i_within fl a0.h ((a0.l).length : Int)) fun x4 =>
    some (!x4))) fun y3 =>
    cond y3
   (some false)
   (Option.bind (i_CacheValid_L0 fl a0 fl 0 false) fun o => match o with
      | .ret r' => some r'
      | .out (v6, v7) =>
      some v7)

def i_SpaceOf_L0 (fl : Nat) (a0 : Tg) (a1 : Int) : Nat → Int → Option (LO Int (Int × Bool))
  | 0, _ => none
  | fuel + 1, v4 => cond (decide (v4 < ((a0.o).length : Int)))
     (Option.bind (idx a0.o v4) fun x6 =>
        cond (x6.tg == a1)
       (some (.ret (x6.sp, true)))
       (Option.bind (ck (v4 + 1)) fun x9 =>
          i_SpaceOf_L0 fl a0 a1 fuel x9))
     (some (.out v4))
def i_SpaceOf (fl : Nat) (a0 : Tg) (a1 : Int) : Option (Int × Bool) :=
  Option.bind (i_TagsValid fl a0) fun x2 =>
    cond (!x2)
   (some (0, false))
   (Option.bind (i_SpaceOf_L0 fl a0 a1 fl 0) fun o => match o with
      | .ret r' => some r'
      | .out v4 =>
      some (0, false))

def i_KeyFor (fl : Nat) (a0 : Int) (a1 : Int) : Option K :=
  cond (decide (128 ≤ a1))
   (some (⟨0, a1⟩ : K))
   (some (⟨a0, a1⟩ : K))

def i_Table_find_1 (fl : Nat) (a0 : F) (ac0 : K) : Option Bool :=
  Option.bind (cond a0.u (some (a0.k == ac0)) (some false)) fun y2 =>
    some y2

def slices_IndexFunc_Frame_of_i_Table_find_1_L0 (fl : Nat) (a0 : (List F)) (a1_0 : K) : Nat → Int → Option (LO Int Int)
  | 0, _ => none
  | fuel + 1, v1 => cond (decide (v1 < ((a0).length : Int)))
     (Option.bind (idx a0 v1) fun x3 =>
        Option.bind (i_Table_find_1 fl x3 a1_0) fun x4 =>
        cond x4
       (some (.ret v1))
       (Option.bind (ck (v1 + 1)) fun x6 =>
          slices_IndexFunc_Frame_of_i_Table_find_1_L0 fl a0 a1_0 fuel x6))
     (some (.out v1))
def slices_IndexFunc_Frame_of_i_Table_find_1 (fl : Nat) (a0 : (List F)) (a1_0 : K) : Option Int :=
  Option.bind (slices_IndexFunc_Frame_of_i_Table_find_1_L0 fl a0 a1_0 fl 0) fun o => match o with
    | .ret r' => some r'
    | .out v1 =>
    some (-1)

def i_Table_find (fl : Nat) (a0 : T) (a1 : K) : Option Int :=
  Option.bind (slices_IndexFunc_Frame_of_i_Table_find_1 fl a0.f a1) fun x3 =>
    some x3

def i_MachineValid_L0 (fl : Nat) (a0 : Mc) : Nat → Int → Option (LO Int Bool)
  | 0, _ => none
  | fuel + 1, v10 => cond (decide (v10 < ((a0.t.f).length : Int)))
     (Option.bind (idx a0.t.f v10) fun x12 =>
        Option.bind (cond x12.u (some (decide (128 ≤ x12.k.p))) (some false)) fun y14 =>
        Option.bind (cond y14 (some (x12.k.s != 0)) (some false)) fun y15 =>
        cond y15
       (some (.ret false))
       (Option.bind (ck (v10 + 1)) fun x17 =>
          i_MachineValid_L0 fl a0 fuel x17))
     (some (.out v10))
def i_MachineValid_L1 (fl : Nat) (a0 : Mc) : Nat → Int → Option (LO Int Bool)
  | 0, _ => none
  | fuel + 1, v18 => cond (decide (v18 < ((a0.c.l).length : Int)))
     (Option.bind (idx a0.c.l v18) fun x20 =>
        cond (!x20.va)
       (Option.bind (ck (v18 + 1)) fun x23 =>
          i_MachineValid_L1 fl a0 fuel x23)
       (Option.bind (cond ((decide (128 ≤ x20.pg)) != (x20.tg == (-1))) (some true) (Option.bind (cond x20.wi (some (!(decide (128 ≤ x20.pg)))) (some false)) fun y25 =>
          some y25)) fun y24 =>
          cond y24
         (some (.ret false))
         (cond (!(decide (128 ≤ x20.pg)))
           (Option.bind (i_SpaceOf fl a0.g x20.tg) fun x28 =>
              cond (!x28.2)
             (some (.ret false))
             (Option.bind (i_KeyFor fl x28.1 x20.pg) fun x30 =>
                Option.bind (i_Table_find fl a0.t x30) fun x31 =>
                Option.bind (cond (decide (x31 < 0)) (some true) (some (x31 != x20.fr))) fun y32 =>
                Option.bind (cond y32 (some true) (Option.bind (idx a0.t.f x31) fun x34 =>
                some (x34.r != x20.ri))) fun y33 =>
                cond y33
               (some (.ret false))
               (Option.bind (ck (v18 + 1)) fun x36 =>
                  i_MachineValid_L1 fl a0 fuel x36)))
           (Option.bind (i_KeyFor fl 0 x20.pg) fun x37 =>
              Option.bind (i_Table_find fl a0.t x37) fun x38 =>
              Option.bind (cond (decide (x38 < 0)) (some true) (some (x38 != x20.fr))) fun y39 =>
              Option.bind (cond y39 (some true) (Option.bind (idx a0.t.f x38) fun x41 =>
              some (x41.r != x20.ri))) fun y40 =>
              cond y40
             (some (.ret false))
             (Option.bind (ck (v18 + 1)) fun x43 =>
                i_MachineValid_L1 fl a0 fuel x43)))))
     (some (.out v18))
def i_MachineValid (fl : Nat) (a0 : Mc) : Option Bool :=
  Option.bind (i_TableValid fl a0.t) fun x2 =>
    Option.bind (cond (!x2) (some true) (Option.bind (i_CacheValid fl a0.c) fun x4 =>
    some (!x4))) fun y3 =>
    Option.bind (cond y3 (some true) (Option.bind (i_TagsValid fl a0.g) fun x6 =>
    some (!x6))) fun y5 =>
    Option.bind (cond y5 (some true) (Option.bind (i_Tags_own fl a0.g a0.s) fun x8 =>
    some (decide (x8 < 0)))) fun y7 =>
    cond y7
   (some false)
   (Option.bind (i_MachineValid_L0 fl a0 fl 0) fun o => match o with
      | .ret r' => some r'
      | .out v10 =>
      Option.bind (i_MachineValid_L1 fl a0 fl 0) fun o => match o with
      | .ret r' => some r'
      | .out v18 =>
      some true)

def slices_Clone_Int (fl : Nat) (a0 : (List Int)) : Option (List Int) :=
  cnt a0

def slices_Clone_Frame (fl : Nat) (a0 : (List F)) : Option (List F) :=
  cnt a0

def i_Table_clone (fl : Nat) (a0 : T) : Option T :=
  Option.bind (slices_Clone_Int fl a0.b) fun x3 =>
    Option.bind (slices_Clone_Frame fl a0.f) fun x8 =>
    some (⟨x3, x8⟩ : T)

def slices_Clone_Line (fl : Nat) (a0 : (List Ln)) : Option (List Ln) :=
  cnt a0

def i_Machine_clone (fl : Nat) (a0 : Mc) : Option Mc :=
  Option.bind (i_Table_clone fl a0.t) fun x3 =>
    Option.bind (slices_Clone_Line fl a0.c.l) fun x12 =>
    Option.bind (slices_Clone_Own fl a0.g.o) fun x17 =>
    some (⟨x3, (⟨x12, a0.c.h⟩ : Ca), (⟨a0.g.c, a0.g.n, a0.g.r, x17⟩ : Tg), a0.s⟩ : Mc)

def i_TagOf (fl : Nat) (a0 : Tg) (a1 : Int) : Option (Int × Bool) :=
  Option.bind (i_TagsValid fl a0) fun x2 =>
    Option.bind (cond (!x2) (some true) (Option.bind (i_Tags_own fl a0 a1) fun x4 =>
    some (decide (x4 < 0)))) fun y3 =>
    cond y3
   (some (0, false))
   (Option.bind (i_Tags_own fl a0 a1) fun x6 =>
      Option.bind (idx a0.o x6) fun x7 =>
      some (x7.tg, true))

def i_Machine_tagFor (fl : Nat) (a0 : Mc) (a1 : Int) (a2 : Int) : Option (Int × Bool) :=
  cond (decide (128 ≤ a2))
   (some ((-1), true))
   (Option.bind (i_TagOf fl a0.g a1) fun x3 =>
      some (x3.1, x3.2))

def i_Cache_place_1 (fl : Nat) (a0 : Ln) (ac0 : Int) (ac1 : Int) : Option Bool :=
  Option.bind (cond a0.va (some (a0.pg == ac0)) (some false)) fun y2 =>
    Option.bind (cond y2 (Option.bind (cond (a0.tg == ac1) (some true) (some (a0.tg == (-1)))) fun y4 =>
    some y4) (some false)) fun y3 =>
    some y3

def slices_IndexFunc_Line_of_i_Cache_place_1_L0 (fl : Nat) (a0 : (List Ln)) (a1_0 : Int) (a1_1 : Int) : Nat → Int → Option (LO Int Int)
  | 0, _ => none
  | fuel + 1, v1 => cond (decide (v1 < ((a0).length : Int)))
     (Option.bind (idx a0 v1) fun x3 =>
        Option.bind (i_Cache_place_1 fl x3 a1_0 a1_1) fun x4 =>
        cond x4
       (some (.ret v1))
       (Option.bind (ck (v1 + 1)) fun x6 =>
          slices_IndexFunc_Line_of_i_Cache_place_1_L0 fl a0 a1_0 a1_1 fuel x6))
     (some (.out v1))
def slices_IndexFunc_Line_of_i_Cache_place_1 (fl : Nat) (a0 : (List Ln)) (a1_0 : Int) (a1_1 : Int) : Option Int :=
  Option.bind (slices_IndexFunc_Line_of_i_Cache_place_1_L0 fl a0 a1_0 a1_1 fl 0) fun o => match o with
    | .ret r' => some r'
    | .out v1 =>
    some (-1)

def i_Cache_place (fl : Nat) (a0 : Ca) (a1 : Int) (a2 : Int) : Option Int :=
  Option.bind (slices_IndexFunc_Line_of_i_Cache_place_1 fl a0.l a2 a1) fun x4 =>
    some x4

def i_Allows (fl : Nat) (a0 : Int) (a1 : Int) : Option Bool :=
  Option.bind (i_RightsValid fl a0) fun x1 =>
    Option.bind (cond x1 (Option.bind (i_RightsValid fl a1) fun x3 =>
    some x3) (some false)) fun y2 =>
    Option.bind (cond y2 (some ((bAndNot a1 a0) == 0)) (some false)) fun y4 =>
    some y4

def i_VictimOf_L0 (fl : Nat) (a0 : Ca) : Nat → Int → Option (LO Int (Int × Bool))
  | 0, _ => none
  | fuel + 1, v4 => cond (decide (v4 < ((a0.l).length : Int)))
     (Option.bind (idx a0.l v4) fun x6 =>
        cond (!x6.va)
       (some (.ret (v4, true)))
       (Option.bind (ck (v4 + 1)) fun x9 =>
          i_VictimOf_L0 fl a0 fuel x9))
     (some (.out v4))
def i_VictimOf_L1 (fl : Nat) (a0 : Ca) : Nat → Int → Option (LO Int (Int × Bool))
  | 0, _ => none
  | fuel + 1, v10 => Option.bind (idx a0.l v10) fun x11 =>
      cond x11.wi
     (Option.bind (ck (v10 + 1)) fun x13 =>
        Option.bind (remO x13 ((a0.l).length : Int)) fun x14 =>
        i_VictimOf_L1 fl a0 fuel x14)
     (some (.out v10))
def i_VictimOf (fl : Nat) (a0 : Ca) : Option (Int × Bool) :=
  Option.bind (i_CacheValid fl a0) fun x2 =>
    cond (!x2)
   (some (0, false))
   (Option.bind (i_VictimOf_L0 fl a0 fl 0) fun o => match o with
      | .ret r' => some r'
      | .out v4 =>
      Option.bind (i_VictimOf_L1 fl a0 fl a0.h) fun o => match o with
      | .ret r' => some r'
      | .out v10 =>
      some (v10, true))

def i_Cache_with (fl : Nat) (a0 : Ca) (a1 : Int) (a2 : Ln) : Option Ca :=
  Option.bind (slices_Clone_Line fl a0.l) fun x4 =>
    Option.bind (idx x4 a1) fun x10 =>
    some (⟨(x4.set (Int.toNat a1) a2), a0.h⟩ : Ca)

def i_FillLine (fl : Nat) (a0 : Ca) (a1 : Ln) : Option (Ca × Int × Bool) :=
  Option.bind (i_VictimOf fl a0) fun x4 =>
    Option.bind (cond (!x4.2) (some true) (some (!a1.va))) fun y5 =>
    Option.bind (cond y5 (some true) (Option.bind (i_lineValid fl a1) fun x7 =>
    some (!x7))) fun y6 =>
    Option.bind (cond y6 (some true) (Option.bind (i_Cache_place fl a0 a1.tg a1.pg) fun x9 =>
    some (decide (0 ≤ x9)))) fun y8 =>
    cond y8
   (some ((⟨[], 0⟩ : Ca), 0, false))
   (Option.bind (i_Cache_with fl a0 x4.1 a1) fun x11 =>
      Option.bind (idx a0.l x4.1) fun x17 =>
      cond x17.va
     (Option.bind (ck (x4.1 + 1)) fun x19 =>
        Option.bind (remO x19 ((a0.l).length : Int)) fun x20 =>
        Option.bind (i_CacheValid fl (⟨x11.l, x20⟩ : Ca)) fun x21 =>
        cond (!x21)
       (some ((⟨[], 0⟩ : Ca), 0, false))
       (some ((⟨x11.l, x20⟩ : Ca), x4.1, true)))
     (Option.bind (i_CacheValid fl x11) fun x23 =>
        cond (!x23)
       (some ((⟨[], 0⟩ : Ca), 0, false))
       (some (x11, x4.1, true))))

def i_TouchPage (fl : Nat) (a0 : Mc) (a1 : Int) (a2 : Int) : Option (Mc × Int × Int × Bool) :=
  Option.bind (i_MachineValid fl a0) fun x3 =>
    Option.bind (cond (!x3) (some true) (Option.bind (i_within fl a1 256) fun x5 =>
    some (!x5))) fun y4 =>
    Option.bind (cond y4 (some true) (Option.bind (i_RightsValid fl a2) fun x7 =>
    some (!x7))) fun y6 =>
    cond y6
   (some ((⟨(⟨[], []⟩ : T), (⟨[], 0⟩ : Ca), (⟨0, 0, 0, []⟩ : Tg), 0⟩ : Mc), 0, 0, false))
   (Option.bind (i_Machine_clone fl a0) fun x9 =>
      Option.bind (i_Machine_tagFor fl a0 a0.s a1) fun x27 =>
      Option.bind (i_Cache_place fl a0.c x27.1 a1) fun x28 =>
      cond (decide (0 ≤ x28))
     (Option.bind (idx a0.c.l x28) fun x30 =>
        Option.bind (i_Allows fl x30.ri a2) fun x31 =>
        cond (!x31)
       (some (x9, x30.fr, 4, true))
       (some (x9, x30.fr, 1, true)))
     (Option.bind (i_KeyFor fl a0.s a1) fun x33 =>
        Option.bind (i_Table_find fl a0.t x33) fun x34 =>
        cond (decide (x34 < 0))
       (some (x9, 0, 3, true))
       (Option.bind (idx a0.t.f x34) fun x36 =>
          Option.bind (i_FillLine fl x9.c (⟨true, x27.1, a1, x34, x36.r, false⟩ : Ln)) fun x37 =>
          cond (!x37.2.2)
         (some ((⟨(⟨[], []⟩ : T), (⟨[], 0⟩ : Ca), (⟨0, 0, 0, []⟩ : Tg), 0⟩ : Mc), 0, 0, false))
         (Option.bind (i_Allows fl x36.r a2) fun x44 =>
            cond (!x44)
           (some ((⟨x9.t, x37.1, x9.g, x9.s⟩ : Mc), x34, 4, true))
           (some ((⟨x9.t, x37.1, x9.g, x9.s⟩ : Mc), x34, 2, true))))))

def l_FnNewMachine (fl : Nat) (a0 : (List UInt8)) : Option Bool :=
  cond (decide (1048576 < ((a0).length : Int)))
   (some true)
   (Option.bind (s_DrawNewMachine fl a0) fun x2 =>
      Option.bind (i_NewMachine fl x2.1 x2.2.1 x2.2.2.1 x2.2.2.2) fun x3 =>
      Option.bind (s_NewMachine fl x2.1 x2.2.1 x2.2.2.1 x2.2.2.2) fun x21 =>
      Option.bind (i_MachineSame fl x3.1 x21.1) fun x39 =>
      Option.bind (cond (!x39) (some true) (some (x3.2 != x21.2))) fun y40 =>
      Option.bind (cond y40 (some true) (some (!x3.2))) fun y41 =>
      cond y41
     (Option.bind (cond x39 (some (x3.2 == x21.2)) (some false)) fun y43 =>
        some y43)
     (Option.bind (i_TouchPage fl x3.1 0 0) fun x44 =>
        Option.bind (i_TouchPage fl x3.1 255 0) fun x62 =>
        Option.bind (i_MachineValid fl x3.1) fun x80 =>
        Option.bind (cond x80 (some (x3.1.s == 0)) (some false)) fun y81 =>
        Option.bind (cond y81 (some x44.2.2.2) (some false)) fun y82 =>
        Option.bind (cond y82 (some x62.2.2.2) (some false)) fun y83 =>
        Option.bind (cond y83 (some (x44.2.2.1 == 3)) (some false)) fun y84 =>
        Option.bind (cond y84 (some (x62.2.2.1 == 3)) (some false)) fun y85 =>
        some y85))
end
end Go.Proofs.YtbgodaeccgjdgaaDoor
