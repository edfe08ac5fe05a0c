/- The pure functions: what each function of the program computes, in plain Lean. Printed by a program (gen.py). -/
import Derived.Test.YtbfbfkpcabkchaaGreatDoorE7
import Derived.Test.YtbfbfkpcabkchaaGreatDoorDat
import Derived.Test.YtbfbfkpcabkchaaGreatDoorPure
import Derived.Test.YtbfbfkpcabkchaaGreatDoorMap
import Derived.Test.YtbfbfkpcabkchaaGreatDoorCpy
set_option linter.unusedSimpArgs false
set_option linter.unusedVariables false
set_option linter.unusedSectionVars false
namespace Go.Proofs.YtbfbfkpcabkchaaGreatDoor
open Go.RowKit
noncomputable section
def s_l12Rd_pick (fl : Nat) (a0_0 : (List UInt8)) (a0_1 : Int) (a1 : Int) : Option (Int × Int) :=
  Option.bind (ck (a0_1 + 1)) fun x1 =>
    Option.bind (cond (decide (a1 < 1)) (some true) (some (((a0_0).length : Int) == 0))) fun y2 =>
    cond y2
   (some (0, x1))
   (Option.bind (ck (x1 - 1)) fun x4 =>
      cond (decide (x4 < ((a0_0).length : Int)))
     (Option.bind (idx a0_0 x4) fun x6 =>
        Option.bind (ck (x6.toNat : Int)) fun x7 =>
        Option.bind (remO x7 a1) fun x8 =>
        some (x8, x1))
     (Option.bind (remO x4 ((a0_0).length : Int)) fun x9 =>
        Option.bind (idx a0_0 x9) fun x10 =>
        Option.bind (ck (x10.toNat : Int)) fun x11 =>
        Option.bind (ck (x11 * 131)) fun x12 =>
        Option.bind (ck (x4 * 7)) fun x13 =>
        Option.bind (ck (x13 + 3)) fun x14 =>
        Option.bind (remO x14 ((a0_0).length : Int)) fun x15 =>
        Option.bind (idx a0_0 x15) fun x16 =>
        Option.bind (ck (x16.toNat : Int)) fun x17 =>
        Option.bind (ck (x17 * 1117)) fun x18 =>
        Option.bind (ck (x12 + x18)) fun x19 =>
        Option.bind (ck (x4 * 29)) fun x20 =>
        Option.bind (ck (x19 + x20)) fun x21 =>
        Option.bind (quoO x4 ((a0_0).length : Int)) fun x22 =>
        Option.bind (ck (x22 * 53)) fun x23 =>
        Option.bind (ck (x21 + x23)) fun x24 =>
        Option.bind (quoO x24 64) fun x25 =>
        Option.bind (remO (bXor x24 x25) a1) fun x26 =>
        some (x26, x1)))

def s_l12Rd_num (fl : Nat) (a0_0 : (List UInt8)) (a0_1 : Int) (a1 : (List Int)) : Option (Int × Int) :=
  Option.bind (s_l12Rd_pick fl a0_0 a0_1 ((a1).length : Int)) fun x1 =>
    Option.bind (idx a1 x1.1) fun x2 =>
    some (x2, x1.2)

def s_l2Buckets (fl : Nat) (a0 : Int) : Option Bool :=
  Option.bind (cond (decide (1 ≤ a0)) (some (decide (a0 ≤ 16))) (some false)) fun y1 =>
    some y1

def s_NewTable_L0 (fl : Nat) (a1 : Int) : Nat → (List Int) → Int → Option (LO ((List Int) × Int) (T × Bool))
  | 0, _, _ => none
  | fuel + 1, v7, v12 => cond (decide (v12 < a1))
       (Option.bind (cnt (v7 ++ [(-1)])) fun x16 =>
        Option.bind (ck (v12 + 1)) fun x20 =>
        s_NewTable_L0 fl a1 fuel x16 x20)
       (some (.out (v7, v12)))
def s_NewTable_L1 (fl : Nat) (a0 : Int) : Nat → (List F) → Int → Option (LO ((List F) × Int) (T × Bool))
  | 0, _, _ => none
  | fuel + 1, v21, v26 => cond (decide (v26 < a0))
       (Option.bind (cnt (v21 ++ [(⟨false, (⟨0, 0⟩ : K), 0, (-1)⟩ : F)])) fun x30 =>
        Option.bind (ck (v26 + 1)) fun x34 =>
        s_NewTable_L1 fl a0 fuel x30 x34)
       (some (.out (v21, v26)))
def s_NewTable (fl : Nat) (a0 : Int) (a1 : Int) : Option (T × Bool) :=
  Option.bind (cond (decide (a0 < 1)) (some true) (some (decide (16 < a0)))) fun y2 =>
    Option.bind (cond y2 (some true) (Option.bind (s_l2Buckets fl a1) fun x4 =>
    some (!x4))) fun y3 =>
    cond y3
   (some ((⟨[], []⟩ : T), false))
   (Option.bind (s_NewTable_L0 fl a1 fl ([]) 0) fun o => match o with
      | .ret r' => some r'
      | .out (v7, v12) =>
      Option.bind (s_NewTable_L1 fl a0 fl ([]) 0) fun o => match o with
      | .ret r' => some r'
      | .out (v21, v26) =>
      some ((⟨v7, v21⟩ : T), true))

def s_NewCache (fl : Nat) (a0 : Int) : Option (Ca × Bool) :=
  Option.bind (cond (decide (a0 < 1)) (some true) (some (decide (8 < a0)))) fun y2 =>
    cond y2
   (some ((⟨[], 0⟩ : Ca), false))
   (Option.bind (mkO a0) fun x4 =>
      some ((⟨(List.replicate x4 (⟨false, 0, 0, 0, 0, false⟩ : Ln)), 0⟩ : Ca), true))

def s_NewTags (fl : Nat) (a0 : Int) : Option (Tg × Bool) :=
  Option.bind (cond (decide (a0 < 1)) (some true) (some (decide (8 < a0)))) fun y2 =>
    cond y2
   (some ((⟨0, 0, 0, []⟩ : Tg), false))
   (some ((⟨a0, 0, 0, ([] : List Ow)⟩ : Tg), true))

def s_l1Space (fl : Nat) (a0 : Int) : Option Bool :=
  Option.bind (cond (decide (0 ≤ a0)) (some (decide (a0 < 16))) (some false)) fun y1 =>
    some y1

def s_TagsValid_L1 (fl : Nat) (a0 : Tg) (v9 : Int) (x11 : Ow) : Nat → Int → Option (LO Int Bool)
  | 0, _ => none
  | fuel + 1, v21 => cond (decide (v21 < v9))
       (Option.bind (idx a0.o v21) fun x23 =>
        cond (x23.sp == x11.sp)
         (some (.ret false))
         (Option.bind (ck (v21 + 1)) fun x25 =>
          s_TagsValid_L1 fl a0 v9 x11 fuel x25))
       (some (.out v21))
def s_TagsValid_L0 (fl : Nat) (a0 : Tg) : Nat → Int → Option (LO Int Bool)
  | 0, _ => none
  | fuel + 1, v9 => cond (decide (v9 < ((a0.o).length : Int)))
       (Option.bind (idx a0.o v9) fun x11 =>
        Option.bind (s_l1Space fl x11.sp) fun x13 =>
        Option.bind (cond (!x13) (some true) (some (decide (x11.tg < 0)))) fun y14 =>
        Option.bind (cond y14 (some true) (some (decide (a0.n ≤ x11.tg)))) fun y15 =>
        Option.bind (cond y15 (some true) (Option.bind (cond (decide (0 < v9)) (Option.bind (ck (v9 - 1)) fun x18 =>
        Option.bind (idx a0.o x18) fun x19 =>
        some (decide (x11.tg ≤ x19.tg))) (some false)) fun y17 =>
        some y17)) fun y16 =>
        cond y16
         (some (.ret false))
         (Option.bind (s_TagsValid_L1 fl a0 v9 x11 fl 0) fun o => match o with
          | .ret r' => some (.ret r')
          | .out v21 =>
          Option.bind (ck (v9 + 1)) fun x26 =>
          s_TagsValid_L0 fl a0 fuel x26))
       (some (.out v9))
def s_TagsValid (fl : Nat) (a0 : Tg) : Option Bool :=
  Option.bind (cond (decide (a0.c < 1)) (some true) (some (decide (8 < a0.c)))) fun y2 =>
    Option.bind (cond y2 (some true) (some (decide (a0.n < 0)))) fun y3 =>
    Option.bind (cond y3 (some true) (some (decide (a0.c < a0.n)))) fun y4 =>
    Option.bind (cond y4 (some true) (some (decide (a0.r < 0)))) fun y5 =>
    Option.bind (cond y5 (some true) (some (decide (1000000 < a0.r)))) fun y6 =>
    Option.bind (cond y6 (some true) (some (decide (a0.n < ((a0.o).length : Int))))) fun y7 =>
    cond y7
   (some false)
   (Option.bind (s_TagsValid_L0 fl a0 fl 0) fun o => match o with
      | .ret r' => some r'
      | .out v9 =>
      some true)

def s_l5Copy (fl : Nat) (a0 : Tg) : Option Tg :=
  Option.bind (cnt (([] : List Ow) ++ a0.o)) fun x5 =>
    some (⟨a0.c, a0.n, a0.r, x5⟩ : Tg)

def s_l5Find_L0 (fl : Nat) (a0 : Tg) (a1 : Int) : Nat → Int → Option (LO Int Int)
  | 0, _ => none
  | fuel + 1, v2 => cond (decide (v2 < ((a0.o).length : Int)))
       (Option.bind (idx a0.o v2) fun x4 =>
        cond (x4.sp == a1)
         (some (.ret v2))
         (Option.bind (ck (v2 + 1)) fun x6 =>
          s_l5Find_L0 fl a0 a1 fuel x6))
       (some (.out v2))
def s_l5Find (fl : Nat) (a0 : Tg) (a1 : Int) : Option Int :=
  Option.bind (s_l5Find_L0 fl a0 a1 fl 0) fun o => match o with
    | .ret r' => some r'
    | .out v2 =>
    some (-1)

def s_TakeTag (fl : Nat) (a0 : Tg) (a1 : Int) : Option (Tg × Int × Bool × Bool) :=
  Option.bind (s_TagsValid fl a0) fun x3 =>
    Option.bind (cond (!x3) (some true) (Option.bind (s_l1Space fl a1) fun x5 =>
    some (!x5))) fun y4 =>
    cond y4
   (some ((⟨0, 0, 0, []⟩ : Tg), 0, false, false))
   (Option.bind (s_l5Copy fl a0) fun x7 =>
      Option.bind (s_l5Find fl a0 a1) fun x13 =>
      cond (decide (0 ≤ x13))
     (Option.bind (idx a0.o x13) fun x15 =>
        some (x7, x15.tg, false, true))
     (cond (a0.n == a0.c)
       (Option.bind (ck (a0.r + 1)) fun x17 =>
          cond (decide (1000000 < x17))
         (some ((⟨0, 0, 0, []⟩ : Tg), 0, false, false))
         (Option.bind (cnt (([] : List Ow) ++ [(⟨a1, 0⟩ : Ow)])) fun x23 =>
            Option.bind (ck (0 + 1)) fun x27 =>
            some ((⟨a0.c, x27, x17, x23⟩ : Tg), 0, (a0.n == a0.c), true)))
       (cond (decide (1000000 < x7.r))
         (some ((⟨0, 0, 0, []⟩ : Tg), 0, false, false))
         (Option.bind (cnt (x7.o ++ [(⟨a1, x7.n⟩ : Ow)])) fun x31 =>
            Option.bind (ck (x7.n + 1)) fun x35 =>
            some ((⟨x7.c, x35, x7.r, x31⟩ : Tg), x7.n, (a0.n == a0.c), true)))))

def s_NewMachine (fl : Nat) (a0 : Int) (a1 : Int) (a2 : Int) (a3 : Int) : Option (Mc × Bool) :=
  Option.bind (s_NewTable fl a0 a1) fun x2 =>
    Option.bind (s_NewCache fl a2) fun x12 =>
    Option.bind (s_NewTags fl a3) fun x18 =>
    Option.bind (cond (!x2.2) (some true) (some (!x12.2))) fun y24 =>
    Option.bind (cond y24 (some true) (some (!x18.2))) fun y25 =>
    cond y25
   (some ((⟨(⟨[], []⟩ : T), (⟨[], 0⟩ : Ca), (⟨0, 0, 0, []⟩ : Tg), 0⟩ : Mc), false))
   (Option.bind (s_TakeTag fl x18.1 0) fun x27 =>
      some ((⟨x2.1, x12.1, x27.1, 0⟩ : Mc), true))

def s_TableValid (fl : Nat) (a0 : T) : Option Bool := some (tableOk a0)

def s_l1Page (fl : Nat) (a0 : Int) : Option Bool :=
  Option.bind (cond (decide (0 ≤ a0)) (some (decide (a0 < 256))) (some false)) fun y1 =>
    some y1

def s_RightsValid (fl : Nat) (a0 : Int) : Option Bool :=
  Option.bind (cond (decide (0 ≤ a0)) (some (decide (a0 ≤ 7))) (some false)) fun y1 =>
    some y1

def s_l4Line (fl : Nat) (a0 : Ln) : Option Bool :=
  cond (!a0.va)
   (some (a0 == (⟨false, 0, 0, 0, 0, false⟩ : Ln)))
   (Option.bind (cond (decide ((-1) ≤ a0.tg)) (some (decide (a0.tg < 8))) (some false)) fun y3 =>
      Option.bind (cond y3 (Option.bind (s_l1Page fl a0.pg) fun x5 =>
      some x5) (some false)) fun y4 =>
      Option.bind (cond y4 (some (decide (0 ≤ a0.fr))) (some false)) fun y6 =>
      Option.bind (cond y6 (some (decide (a0.fr < 16))) (some false)) fun y7 =>
      Option.bind (cond y7 (Option.bind (s_RightsValid fl a0.ri) fun x9 =>
      some x9) (some false)) fun y8 =>
      some y8)

def s_CacheValid_L1 (fl : Nat) (a0 : Ca) (v7 : Int) (x9 : Ln) : Nat → Int → Option (LO Int Bool)
  | 0, _ => none
  | fuel + 1, v15 => cond (decide (v15 < v7))
       (Option.bind (idx a0.l v15) fun x17 =>
        Option.bind (cond x9.va (some x17.va) (some false)) fun y19 =>
        Option.bind (cond y19 (some (x9.pg == x17.pg)) (some false)) fun y20 =>
        Option.bind (cond y20 (Option.bind (cond (x9.tg == x17.tg) (some true) (some (x9.tg == (-1)))) fun y22 =>
        Option.bind (cond y22 (some true) (some (x17.tg == (-1)))) fun y23 =>
        some y23) (some false)) fun y21 =>
        cond y21
         (some (.ret false))
         (Option.bind (ck (v15 + 1)) fun x25 =>
          s_CacheValid_L1 fl a0 v7 x9 fuel x25))
       (some (.out v15))
def s_CacheValid_L2 (fl : Nat) (a0 : Ca) (v7 : Int) (x9 : Ln) : Nat → Int → Option (LO Int Bool)
  | 0, _ => none
  | fuel + 1, v27 => cond (decide (v27 < v7))
       (Option.bind (idx a0.l v27) fun x29 =>
        Option.bind (cond x9.va (some x29.va) (some false)) fun y31 =>
        Option.bind (cond y31 (some (x9.pg == x29.pg)) (some false)) fun y32 =>
        Option.bind (cond y32 (Option.bind (cond (x9.tg == x29.tg) (some true) (some (x9.tg == (-1)))) fun y34 =>
        Option.bind (cond y34 (some true) (some (x29.tg == (-1)))) fun y35 =>
        some y35) (some false)) fun y33 =>
        cond y33
         (some (.ret false))
         (Option.bind (ck (v27 + 1)) fun x37 =>
          s_CacheValid_L2 fl a0 v7 x9 fuel x37))
       (some (.out v27))
def s_CacheValid_L0 (fl : Nat) (a0 : Ca) : Nat → Int → Int → Option (LO (Int × Int) Bool)
  | 0, _, _ => none
  | fuel + 1, v6, v7 => cond (decide (v7 < ((a0.l).length : Int)))
       (Option.bind (idx a0.l v7) fun x9 =>
        Option.bind (s_l4Line fl x9) fun x11 =>
        cond (!x11)
         (some (.ret false))
         (cond (!x9.wi)
           (Option.bind (ck (v6 + 1)) fun x14 =>
            Option.bind (s_CacheValid_L1 fl a0 v7 x9 fl 0) fun o => match o with
            | .ret r' => some (.ret r')
            | .out v15 =>
            Option.bind (ck (v7 + 1)) fun x26 =>
            s_CacheValid_L0 fl a0 fuel x14 x26)
           (Option.bind (s_CacheValid_L2 fl a0 v7 x9 fl 0) fun o => match o with
            | .ret r' => some (.ret r')
            | .out v27 =>
            Option.bind (ck (v7 + 1)) fun x38 =>
            s_CacheValid_L0 fl a0 fuel v6 x38)))
       (some (.out (v6, v7)))
def s_CacheValid (fl : Nat) (a0 : Ca) : Option Bool :=
  Option.bind (cond (decide (((a0.l).length : Int) < 1)) (some true) (some (decide (8 < ((a0.l).length : Int))))) fun y2 =>
    Option.bind (cond y2 (some true) (some (decide (a0.h < 0)))) fun y3 =>
    Option.bind (cond y3 (some true) (some (decide (((a0.l).length : Int) ≤ a0.h)))) fun y4 =>
    cond y4
   (some false)
   (Option.bind (s_CacheValid_L0 fl a0 fl 0 0) fun o => match o with
      | .ret r' => some r'
      | .out (v6, v7) =>
      some (decide (0 < v6)))

def s_SpaceOf_L0 (fl : Nat) (a0 : Tg) (a1 : Int) : Nat → Int → Option (LO Int (Int × Bool))
  | 0, _ => none
  | fuel + 1, v2 => Option.bind (cond (decide (v2 < ((a0.o).length : Int))) (Option.bind (s_TagsValid fl a0) fun x4 =>
      some x4) (some false)) fun y3 =>
      cond y3
       (Option.bind (idx a0.o v2) fun x6 =>
        cond (x6.tg == a1)
         (some (.ret (x6.sp, true)))
         (Option.bind (ck (v2 + 1)) fun x8 =>
          s_SpaceOf_L0 fl a0 a1 fuel x8))
       (some (.out v2))
def s_SpaceOf (fl : Nat) (a0 : Tg) (a1 : Int) : Option (Int × Bool) :=
  Option.bind (s_SpaceOf_L0 fl a0 a1 fl 0) fun o => match o with
    | .ret r' => some r'
    | .out v2 =>
    some (0, false)

def s_KeyFor (fl : Nat) (a0 : Int) (a1 : Int) : Option K :=
  cond (decide (128 ≤ a1))
   (some (⟨0, a1⟩ : K))
   (some (⟨a0, a1⟩ : K))

def s_l2Hash (fl : Nat) (a0 : K) (a1 : Int) : Option Int :=
  Option.bind (ck (a0.s * 256)) fun x2 =>
    Option.bind (ck (x2 + a0.p)) fun x3 =>
    Option.bind (ck (x3 * 2654435761)) fun x4 =>
    Option.bind (remO x4 4294967296) fun x5 =>
    Option.bind (ck (x5 * a1)) fun x6 =>
    Option.bind (quoO x6 4294967296) fun x7 =>
    some x7

def s_l3Chain_L0 (fl : Nat) (a0 : T) : Nat → (List Int) → Int → Option (LO ((List Int) × Int) ((List Int) × Bool))
  | 0, _, _ => none
  | fuel + 1, v5, v10 => cond (v10 != (-1))
       (Option.bind (cond (decide (v10 < 0)) (some true) (some (decide (((a0.f).length : Int) ≤ v10)))) fun y12 =>
        Option.bind (cond y12 (some true) (some (decide (((a0.f).length : Int) ≤ ((v5).length : Int))))) fun y13 =>
        Option.bind (cond y13 (some true) (Option.bind (idx a0.f v10) fun x15 =>
        some (!x15.u))) fun y14 =>
        cond y14
         (some (.ret (v5, false)))
         (Option.bind (cnt (v5 ++ [v10])) fun x19 =>
          Option.bind (idx a0.f v10) fun x23 =>
          s_l3Chain_L0 fl a0 fuel x19 x23.nx))
       (some (.out (v5, v10)))
def s_l3Chain (fl : Nat) (a0 : T) (a1 : Int) : Option ((List Int) × Bool) :=
  Option.bind (idx a0.b a1) fun x4 =>
    Option.bind (s_l3Chain_L0 fl a0 fl ([] : List Int) x4) fun o => match o with
    | .ret r' => some r'
    | .out (v5, v10) =>
    some (v5, true)

def s_l3Find_L0 (fl : Nat) (a0 : T) (a1 : K) (x4 : ((List Int) × Bool)) : Nat → Int → Option (LO Int (Int × Int))
  | 0, _ => none
  | fuel + 1, v9 => cond (decide (v9 < ((x4.1).length : Int)))
       (Option.bind (idx x4.1 v9) fun x11 =>
        Option.bind (idx a0.f x11) fun x12 =>
        cond (x12.k == a1)
         (Option.bind (ck (v9 + 1)) fun x14 =>
          some (.ret (x11, x14)))
         (Option.bind (ck (v9 + 1)) fun x15 =>
          s_l3Find_L0 fl a0 a1 x4 fuel x15))
       (some (.out v9))
def s_l3Find (fl : Nat) (a0 : T) (a1 : K) : Option (Int × Int) :=
  Option.bind (s_l2Hash fl a1 ((a0.b).length : Int)) fun x3 =>
    Option.bind (s_l3Chain fl a0 x3) fun x4 =>
    Option.bind (s_l3Find_L0 fl a0 a1 x4 fl 0) fun o => match o with
    | .ret r' => some r'
    | .out v9 =>
    some ((-1), ((x4.1).length : Int))

def s_l6Line (fl : Nat) (a0 : Mc) (a1 : Ln) : Option Bool :=
  cond ((a1.tg == (-1)) != (decide (128 ≤ a1.pg)))
   (some false)
   (cond (a1.tg != (-1))
     (Option.bind (s_SpaceOf fl a0.g a1.tg) fun x5 =>
        cond (!x5.2)
       (some false)
       (Option.bind (s_KeyFor fl x5.1 a1.pg) fun x7 =>
          Option.bind (s_l3Find fl a0.t x7) fun x8 =>
          Option.bind (cond (decide (0 ≤ x8.1)) (some (x8.1 == a1.fr)) (some false)) fun y9 =>
          Option.bind (cond y9 (Option.bind (idx a0.t.f x8.1) fun x11 =>
          some (x11.r == a1.ri)) (some false)) fun y10 =>
          Option.bind (cond y10 (Option.bind (cond (!a1.wi) (some true) (some (a1.tg == (-1)))) fun y13 =>
          some y13) (some false)) fun y12 =>
          some y12))
     (Option.bind (s_KeyFor fl 0 a1.pg) fun x14 =>
        Option.bind (s_l3Find fl a0.t x14) fun x15 =>
        Option.bind (cond (decide (0 ≤ x15.1)) (some (x15.1 == a1.fr)) (some false)) fun y16 =>
        Option.bind (cond y16 (Option.bind (idx a0.t.f x15.1) fun x18 =>
        some (x18.r == a1.ri)) (some false)) fun y17 =>
        Option.bind (cond y17 (Option.bind (cond (!a1.wi) (some true) (some (a1.tg == (-1)))) fun y20 =>
        some y20) (some false)) fun y19 =>
        some y19))

def s_MachineValid_L0 (fl : Nat) (a0 : Mc) : Nat → Int → Option (LO Int Bool)
  | 0, _ => none
  | fuel + 1, v10 => cond (decide (v10 < ((a0.t.f).length : Int)))
       (Option.bind (idx a0.t.f v10) fun x12 =>
        Option.bind (cond x12.u (some (decide (128 ≤ x12.k.p))) (some false)) fun y14 =>
        Option.bind (cond y14 (some (x12.k.s != 0)) (some false)) fun y15 =>
        cond y15
         (some (.ret false))
         (Option.bind (ck (v10 + 1)) fun x17 =>
          s_MachineValid_L0 fl a0 fuel x17))
       (some (.out v10))
def s_MachineValid_L1 (fl : Nat) (a0 : Mc) : Nat → Int → Option (LO Int Bool)
  | 0, _ => none
  | fuel + 1, v18 => cond (decide (v18 < ((a0.c.l).length : Int)))
       (Option.bind (idx a0.c.l v18) fun x20 =>
        Option.bind (cond x20.va (Option.bind (s_l6Line fl a0 x20) fun x22 =>
        some (!x22)) (some false)) fun y21 =>
        cond y21
         (some (.ret false))
         (Option.bind (ck (v18 + 1)) fun x24 =>
          s_MachineValid_L1 fl a0 fuel x24))
       (some (.out v18))
def s_MachineValid (fl : Nat) (a0 : Mc) : Option Bool :=
  Option.bind (s_TableValid fl a0.t) fun x2 =>
    Option.bind (cond (!x2) (some true) (Option.bind (s_CacheValid fl a0.c) fun x4 =>
    some (!x4))) fun y3 =>
    Option.bind (cond y3 (some true) (Option.bind (s_TagsValid fl a0.g) fun x6 =>
    some (!x6))) fun y5 =>
    Option.bind (cond y5 (some true) (Option.bind (s_l5Find fl a0.g a0.s) fun x8 =>
    some (decide (x8 < 0)))) fun y7 =>
    cond y7
   (some false)
   (Option.bind (s_MachineValid_L0 fl a0 fl 0) fun o => match o with
      | .ret r' => some r'
      | .out v10 =>
      Option.bind (s_MachineValid_L1 fl a0 fl 0) fun o => match o with
      | .ret r' => some r'
      | .out v18 =>
      some true)

def s_l3Copy (fl : Nat) (a0 : T) : Option T :=
  Option.bind (cnt (([] : List Int) ++ a0.b)) fun x7 =>
    Option.bind (cnt (([] : List F) ++ a0.f)) fun x11 =>
    some (⟨x7, x11⟩ : T)

def s_l4Copy (fl : Nat) (a0 : Ca) : Option Ca :=
  Option.bind (cnt (([] : List Ln) ++ a0.l)) fun x5 =>
    some (⟨x5, a0.h⟩ : Ca)

def s_l6Copy (fl : Nat) (a0 : Mc) : Option Mc :=
  Option.bind (s_l3Copy fl a0.t) fun x3 =>
    Option.bind (s_l4Copy fl a0.c) fun x12 =>
    Option.bind (s_l5Copy fl a0.g) fun x17 =>
    some (⟨x3, x12, x17, a0.s⟩ : Mc)

def s_l6Fresh_L0 (fl : Nat) (x3 : Ca) : Nat → (List Ln) → Int → Option (LO ((List Ln) × Int) Ca)
  | 0, _, _ => none
  | fuel + 1, v9, v11 => cond (decide (v11 < ((x3.l).length : Int)))
       (Option.bind (idx v9 v11) fun x13 =>
        cond (x13.tg != (-1))
         (Option.bind (ck (v11 + 1)) fun x16 =>
          s_l6Fresh_L0 fl x3 fuel (v9.set (Int.toNat v11) (⟨false, 0, 0, 0, 0, false⟩ : Ln)) x16)
         (Option.bind (ck (v11 + 1)) fun x17 =>
          s_l6Fresh_L0 fl x3 fuel v9 x17))
       (some (.out (v9, v11)))
def s_l6Fresh (fl : Nat) (a0 : Ca) : Option Ca :=
  Option.bind (s_l4Copy fl a0) fun x3 =>
    Option.bind (s_l6Fresh_L0 fl x3 fl x3.l 0) fun o => match o with
    | .ret r' => some r'
    | .out (v9, v11) =>
    some (⟨v9, x3.h⟩ : Ca)

def s_EnterSpace (fl : Nat) (a0 : Mc) (a1 : Int) : Option (Mc × Bool) :=
  Option.bind (s_TakeTag fl a0.g a1) fun x3 =>
    Option.bind (s_MachineValid fl a0) fun x9 =>
    Option.bind (cond (!x9) (some true) (some (!x3.2.2.2))) fun y10 =>
    cond y10
   (some ((⟨(⟨[], []⟩ : T), (⟨[], 0⟩ : Ca), (⟨0, 0, 0, []⟩ : Tg), 0⟩ : Mc), false))
   (Option.bind (s_l6Copy fl a0) fun x12 =>
      cond x3.2.2.1
     (Option.bind (s_l6Fresh fl a0.c) fun x31 =>
        some ((⟨x12.t, x31, x3.1, a1⟩ : Mc), true))
     (some ((⟨x12.t, x12.c, x3.1, a1⟩ : Mc), true)))

def s_l6Page (fl : Nat) (a0_0 : (List UInt8)) (a0_1 : Int) : Option (Int × Int) :=
  Option.bind (s_l12Rd_num fl a0_0 a0_1 ([1, 2, 3, 4, 200, 201, 5])) fun x3 =>
    some (x3.1, x3.2)

def s_KeyValid (fl : Nat) (a0 : K) : Option Bool :=
  Option.bind (s_l1Space fl a0.s) fun x2 =>
    Option.bind (cond x2 (Option.bind (s_l1Page fl a0.p) fun x4 =>
    some x4) (some false)) fun y3 =>
    some y3

def s_l6Shared (fl : Nat) (a0 : K) : Option Bool :=
  Option.bind (s_KeyValid fl a0) fun x2 =>
    Option.bind (cond x2 (Option.bind (s_KeyFor fl a0.s a0.p) fun x4 =>
    some (x4 == a0)) (some false)) fun y3 =>
    some y3

def s_l3Map (fl : Nat) (a0 : T) (a1 : K) (a2 : Int) (a3 : Int) : Option T :=
  Option.bind (s_l3Copy fl a0) fun x4 =>
    Option.bind (s_l2Hash fl a1 ((a0.b).length : Int)) fun x14 =>
    Option.bind (idx x4.b x14) fun x15 =>
    Option.bind (idx x4.f a2) fun x16 =>
    some (⟨(x4.b.set (Int.toNat x14) a2), (x4.f.set (Int.toNat a2) (⟨true, a1, a3, x15⟩ : F))⟩ : T)

def s_MapPage (fl : Nat) (a0 : T) (a1 : K) (a2 : Int) (a3 : Int) : Option (T × Bool) :=
  Option.bind (s_TableValid fl a0) fun x4 =>
    Option.bind (cond (!x4) (some true) (Option.bind (s_KeyValid fl a1) fun x6 =>
    some (!x6))) fun y5 =>
    Option.bind (cond y5 (some true) (Option.bind (s_RightsValid fl a3) fun x8 =>
    some (!x8))) fun y7 =>
    Option.bind (cond y7 (some true) (some (decide (a2 < 0)))) fun y9 =>
    Option.bind (cond y9 (some true) (some (decide (((a0.f).length : Int) ≤ a2)))) fun y10 =>
    Option.bind (cond y10 (some true) (Option.bind (idx a0.f a2) fun x12 =>
    some x12.u)) fun y11 =>
    cond y11
   (some ((⟨[], []⟩ : T), false))
   (Option.bind (s_l3Find fl a0 a1) fun x14 =>
      cond (decide (0 ≤ x14.1))
     (some ((⟨[], []⟩ : T), false))
     (Option.bind (s_l3Map fl a0 a1 a2 a3) fun x16 =>
        some (x16, true)))

def s_PutPage (fl : Nat) (a0 : Mc) (a1 : K) (a2 : Int) (a3 : Int) : Option (Mc × Bool) :=
  Option.bind (s_MachineValid fl a0) fun x4 =>
    Option.bind (cond (!x4) (some true) (Option.bind (s_l6Shared fl a1) fun x6 =>
    some (!x6))) fun y5 =>
    cond y5
   (some ((⟨(⟨[], []⟩ : T), (⟨[], 0⟩ : Ca), (⟨0, 0, 0, []⟩ : Tg), 0⟩ : Mc), false))
   (Option.bind (s_MapPage fl a0.t a1 a2 a3) fun x8 =>
      cond (!x8.2)
     (some ((⟨(⟨[], []⟩ : T), (⟨[], 0⟩ : Ca), (⟨0, 0, 0, []⟩ : Tg), 0⟩ : Mc), false))
     (Option.bind (s_l6Copy fl a0) fun x19 =>
        some ((⟨x8.1, x19.c, x19.g, x19.s⟩ : Mc), true)))

def s_l6Tag (fl : Nat) (a0 : Mc) (a1 : Int) (a2 : Int) : Option (Int × Bool) :=
  cond (decide (128 ≤ a2))
   (some ((-1), true))
   (Option.bind (s_l5Find fl a0.g a1) fun x3 =>
      cond (decide (x3 < 0))
     (some (0, false))
     (Option.bind (idx a0.g.o x3) fun x5 =>
        some (x5.tg, true)))

def s_l4Fits (fl : Nat) (a0 : Ln) (a1 : Int) (a2 : Int) : Option Bool :=
  Option.bind (cond a0.va (some (a0.pg == a2)) (some false)) fun y2 =>
    Option.bind (cond y2 (Option.bind (cond (a0.tg == a1) (some true) (some (a0.tg == (-1)))) fun y4 =>
    some y4) (some false)) fun y3 =>
    some y3

def s_l4Find_L0 (fl : Nat) (a0 : Ca) (a1 : Int) (a2 : Int) : Nat → Int → Option (LO Int Int)
  | 0, _ => none
  | fuel + 1, v2 => cond (decide (v2 < ((a0.l).length : Int)))
       (Option.bind (idx a0.l v2) fun x4 =>
        Option.bind (s_l4Fits fl x4 a1 a2) fun x5 =>
        cond x5
         (some (.ret v2))
         (Option.bind (ck (v2 + 1)) fun x7 =>
          s_l4Find_L0 fl a0 a1 a2 fuel x7))
       (some (.out v2))
def s_l4Find (fl : Nat) (a0 : Ca) (a1 : Int) (a2 : Int) : Option Int :=
  Option.bind (s_l4Find_L0 fl a0 a1 a2 fl 0) fun o => match o with
    | .ret r' => some r'
    | .out v2 =>
    some (-1)

def s_Allows (fl : Nat) (a0 : Int) (a1 : Int) : Option Bool :=
  Option.bind (s_RightsValid fl a0) fun x1 =>
    Option.bind (cond x1 (Option.bind (s_RightsValid fl a1) fun x3 =>
    some x3) (some false)) fun y2 =>
    Option.bind (cond y2 (some ((bAnd a0 a1) == a1)) (some false)) fun y4 =>
    some y4

def s_l4Victim_L0 (fl : Nat) (a0 : Ca) : Nat → Int → Option (LO Int Int)
  | 0, _ => none
  | fuel + 1, v2 => cond (decide (v2 < ((a0.l).length : Int)))
       (Option.bind (idx a0.l v2) fun x4 =>
        cond (!x4.va)
         (some (.ret v2))
         (Option.bind (ck (v2 + 1)) fun x6 =>
          s_l4Victim_L0 fl a0 fuel x6))
       (some (.out v2))
def s_l4Victim_L1 (fl : Nat) (a0 : Ca) : Nat → Int → Option (LO Int Int)
  | 0, _ => none
  | fuel + 1, v7 => Option.bind (idx a0.l v7) fun x8 =>
      cond x8.wi
       (Option.bind (ck (v7 + 1)) fun x10 =>
        Option.bind (remO x10 ((a0.l).length : Int)) fun x11 =>
        s_l4Victim_L1 fl a0 fuel x11)
       (some (.out v7))
def s_l4Victim (fl : Nat) (a0 : Ca) : Option Int :=
  Option.bind (s_l4Victim_L0 fl a0 fl 0) fun o => match o with
    | .ret r' => some r'
    | .out v2 =>
    Option.bind (s_l4Victim_L1 fl a0 fl a0.h) fun o => match o with
    | .ret r' => some r'
    | .out v7 =>
    some v7

def s_FillLine (fl : Nat) (a0 : Ca) (a1 : Ln) : Option (Ca × Int × Bool) :=
  Option.bind (s_CacheValid fl a0) fun x4 =>
    Option.bind (cond (!x4) (some true) (some (!a1.va))) fun y5 =>
    Option.bind (cond y5 (some true) (Option.bind (s_l4Line fl a1) fun x7 =>
    some (!x7))) fun y6 =>
    cond y6
   (some ((⟨[], 0⟩ : Ca), 0, false))
   (Option.bind (s_l4Victim fl a0) fun x9 =>
      Option.bind (s_l4Copy fl a0) fun x10 =>
      Option.bind (idx a0.l x9) fun x16 =>
      cond x16.va
     (Option.bind (ck (x9 + 1)) fun x18 =>
        Option.bind (remO x18 ((a0.l).length : Int)) fun x19 =>
        Option.bind (idx x10.l x9) fun x20 =>
        Option.bind (s_CacheValid fl (⟨(x10.l.set (Int.toNat x9) a1), x19⟩ : Ca)) fun x22 =>
        Option.bind (cond (!x22) (some true) (Option.bind (s_l4Find fl a0 a1.tg a1.pg) fun x24 =>
        some (decide (0 ≤ x24)))) fun y23 =>
        cond y23
       (some ((⟨[], 0⟩ : Ca), 0, false))
       (some ((⟨(x10.l.set (Int.toNat x9) a1), x19⟩ : Ca), x9, true)))
     (Option.bind (idx x10.l x9) fun x26 =>
        Option.bind (s_CacheValid fl (⟨(x10.l.set (Int.toNat x9) a1), x10.h⟩ : Ca)) fun x28 =>
        Option.bind (cond (!x28) (some true) (Option.bind (s_l4Find fl a0 a1.tg a1.pg) fun x30 =>
        some (decide (0 ≤ x30)))) fun y29 =>
        cond y29
       (some ((⟨[], 0⟩ : Ca), 0, false))
       (some ((⟨(x10.l.set (Int.toNat x9) a1), x10.h⟩ : Ca), x9, true))))

def s_l6Fill (fl : Nat) (a0 : Mc) (a1 : Int) (a2 : Int) (a3 : Int) : Option (Mc × Int) :=
  Option.bind (s_l6Copy fl a0) fun x3 =>
    Option.bind (idx a0.t.f a2) fun x21 =>
    Option.bind (s_FillLine fl a0.c (⟨true, a3, a1, a2, x21.r, false⟩ : Ln)) fun x23 =>
    some ((⟨x3.t, x23.1, x3.g, x3.s⟩ : Mc), x23.2.1)

def s_TouchPage (fl : Nat) (a0 : Mc) (a1 : Int) (a2 : Int) : Option (Mc × Int × Int × Bool) :=
  Option.bind (s_MachineValid fl a0) fun x3 =>
    Option.bind (cond (!x3) (some true) (Option.bind (s_l1Page fl a1) fun x5 =>
    some (!x5))) fun y4 =>
    Option.bind (cond y4 (some true) (Option.bind (s_RightsValid fl a2) fun x7 =>
    some (!x7))) fun y6 =>
    cond y6
   (some ((⟨(⟨[], []⟩ : T), (⟨[], 0⟩ : Ca), (⟨0, 0, 0, []⟩ : Tg), 0⟩ : Mc), 0, 0, false))
   (Option.bind (s_l6Tag fl a0 a0.s a1) fun x9 =>
      Option.bind (s_l6Copy fl a0) fun x10 =>
      Option.bind (s_l4Find fl a0.c x9.1 a1) fun x28 =>
      cond (decide (0 ≤ x28))
     (Option.bind (idx a0.c.l x28) fun x30 =>
        Option.bind (idx a0.t.f x30.fr) fun x31 =>
        Option.bind (s_Allows fl x31.r a2) fun x32 =>
        cond (!x32)
       (some (x10, x30.fr, 4, true))
       (some (x10, x30.fr, 1, true)))
     (Option.bind (s_KeyFor fl a0.s a1) fun x34 =>
        Option.bind (s_l3Find fl a0.t x34) fun x35 =>
        cond (decide (x35.1 < 0))
       (some (x10, 0, 3, true))
       (Option.bind (s_l6Fill fl a0 a1 x35.1 x9.1) fun x37 =>
          Option.bind (idx a0.t.f x35.1) fun x54 =>
          Option.bind (s_Allows fl x54.r a2) fun x55 =>
          cond (!x55)
         (some (x37.1, x35.1, 4, true))
         (some (x37.1, x35.1, 2, true)))))

def s_WireLine (fl : Nat) (a0 : Ca) (a1 : Int) (a2 : Bool) : Option (Ca × Bool) :=
  Option.bind (s_CacheValid fl a0) fun x3 =>
    Option.bind (cond (!x3) (some true) (some (decide (a1 < 0)))) fun y4 =>
    Option.bind (cond y4 (some true) (some (decide (((a0.l).length : Int) ≤ a1)))) fun y5 =>
    Option.bind (cond y5 (some true) (Option.bind (idx a0.l a1) fun x7 =>
    some (!x7.va))) fun y6 =>
    cond y6
   (some ((⟨[], 0⟩ : Ca), false))
   (Option.bind (s_l4Copy fl a0) fun x9 =>
      Option.bind (idx x9.l a1) fun x15 =>
      Option.bind (s_CacheValid fl (⟨(x9.l.set (Int.toNat a1) (⟨x15.va, x15.tg, x15.pg, x15.fr, x15.ri, a2⟩ : Ln)), x9.h⟩ : Ca)) fun x17 =>
      cond (!x17)
     (some ((⟨[], 0⟩ : Ca), false))
     (some ((⟨(x9.l.set (Int.toNat a1) (⟨x15.va, x15.tg, x15.pg, x15.fr, x15.ri, a2⟩ : Ln)), x9.h⟩ : Ca), true)))

def s_WirePage (fl : Nat) (a0 : Mc) (a1 : Int) : Option (Mc × Bool) :=
  Option.bind (s_TouchPage fl a0 a1 0) fun x3 =>
    Option.bind (cond (!x3.2.2.2) (some true) (some (x3.2.2.1 == 3))) fun y21 =>
    Option.bind (cond y21 (some true) (some (decide (a1 < 128)))) fun y22 =>
    cond y22
   (some ((⟨(⟨[], []⟩ : T), (⟨[], 0⟩ : Ca), (⟨0, 0, 0, []⟩ : Tg), 0⟩ : Mc), false))
   (Option.bind (s_l4Find fl x3.1.c (-1) a1) fun x24 =>
      Option.bind (s_WireLine fl x3.1.c x24 true) fun x25 =>
      cond (!x25.2)
     (some ((⟨(⟨[], []⟩ : T), (⟨[], 0⟩ : Ca), (⟨0, 0, 0, []⟩ : Tg), 0⟩ : Mc), false))
     (some ((⟨x3.1.t, x25.1, x3.1.g, x3.1.s⟩ : Mc), true)))

def s_FindPage (fl : Nat) (a0 : T) (a1 : K) : Option (Int × Int × Bool) :=
  Option.bind (s_TableValid fl a0) fun x3 =>
    Option.bind (cond (!x3) (some true) (Option.bind (s_KeyValid fl a1) fun x5 =>
    some (!x5))) fun y4 =>
    cond y4
   (some (0, 0, false))
   (Option.bind (s_l3Find fl a0 a1) fun x7 =>
      cond (decide (x7.1 < 0))
     (some (0, x7.2, false))
     (some (x7.1, x7.2, true)))

def s_l3Unmap_L0 (fl : Nat) (a0 : T) (a1 : Int) (x13 : F) : Nat → (List F) → Int → Option (LO ((List F) × Int) T)
  | 0, _, _ => none
  | fuel + 1, v21, v23 => cond (decide (v23 < ((a0.f).length : Int)))
       (Option.bind (idx a0.f v23) fun x25 =>
        Option.bind (cond x25.u (some (x25.nx == a1)) (some false)) fun y26 =>
        cond y26
         (Option.bind (idx v21 v23) fun x28 =>
          Option.bind (ck (v23 + 1)) fun x30 =>
          s_l3Unmap_L0 fl a0 a1 x13 fuel (v21.set (Int.toNat v23) (⟨x28.u, x28.k, x28.r, x13.nx⟩ : F)) x30)
         (Option.bind (ck (v23 + 1)) fun x31 =>
          s_l3Unmap_L0 fl a0 a1 x13 fuel v21 x31))
       (some (.out (v21, v23)))
def s_l3Unmap (fl : Nat) (a0 : T) (a1 : Int) : Option T :=
  Option.bind (s_l3Copy fl a0) fun x3 =>
    Option.bind (idx a0.f a1) fun x13 =>
    Option.bind (s_l2Hash fl x13.k ((a0.b).length : Int)) fun x14 =>
    Option.bind (idx x3.f a1) fun x15 =>
    Option.bind (idx a0.b x14) fun x17 =>
    cond (x17 == a1)
   (Option.bind (idx x3.b x14) fun x19 =>
      some (⟨(x3.b.set (Int.toNat x14) x13.nx), (x3.f.set (Int.toNat a1) (⟨false, (⟨0, 0⟩ : K), 0, (-1)⟩ : F))⟩ : T))
   (Option.bind (s_l3Unmap_L0 fl a0 a1 x13 fl (x3.f.set (Int.toNat a1) (⟨false, (⟨0, 0⟩ : K), 0, (-1)⟩ : F)) 0) fun o => match o with
      | .ret r' => some r'
      | .out (v21, v23) =>
      some (⟨x3.b, v21⟩ : T))

def s_UnmapPage (fl : Nat) (a0 : T) (a1 : K) : Option (T × Bool) :=
  Option.bind (s_FindPage fl a0 a1) fun x4 =>
    cond (!x4.2.2)
   (some ((⟨[], []⟩ : T), false))
   (Option.bind (s_l3Unmap fl a0 x4.1) fun x6 =>
      some (x6, true))

def s_l4Tag (fl : Nat) (a0 : Int) : Option Bool :=
  Option.bind (cond (decide ((-1) ≤ a0)) (some (decide (a0 < 8))) (some false)) fun y1 =>
    some y1

def s_FindLine (fl : Nat) (a0 : Ca) (a1 : Int) (a2 : Int) : Option (Int × Bool) :=
  Option.bind (s_CacheValid fl a0) fun x2 =>
    Option.bind (cond (!x2) (some true) (Option.bind (s_l4Tag fl a1) fun x4 =>
    some (!x4))) fun y3 =>
    Option.bind (cond y3 (some true) (Option.bind (s_l1Page fl a2) fun x6 =>
    some (!x6))) fun y5 =>
    cond y5
   (some (0, false))
   (Option.bind (s_l4Find fl a0 a1 a2) fun x8 =>
      cond (decide (x8 < 0))
     (some (0, false))
     (some (x8, true)))

def s_DropPage (fl : Nat) (a0 : Ca) (a1 : Int) (a2 : Int) : Option (Ca × Bool) :=
  Option.bind (s_FindLine fl a0 a1 a2) fun x3 =>
    cond (!x3.2)
   (some ((⟨[], 0⟩ : Ca), false))
   (Option.bind (s_l4Copy fl a0) fun x5 =>
      Option.bind (idx x5.l x3.1) fun x11 =>
      some ((⟨(x5.l.set (Int.toNat x3.1) (⟨false, 0, 0, 0, 0, false⟩ : Ln)), x5.h⟩ : Ca), true))

def s_l6Forget (fl : Nat) (a0 : Mc) (a1 : K) : Option Mc :=
  Option.bind (s_l6Copy fl a0) fun x4 =>
    Option.bind (s_l6Tag fl a0 a1.s a1.p) fun x22 =>
    cond (!x22.2)
   (some x4)
   (Option.bind (s_DropPage fl a0.c x22.1 a1.p) fun x24 =>
      cond x24.2
     (some (⟨x4.t, x24.1, x4.g, x4.s⟩ : Mc))
     (some x4))

def s_TakePage (fl : Nat) (a0 : Mc) (a1 : K) : Option (Mc × Bool) :=
  Option.bind (s_MachineValid fl a0) fun x4 =>
    cond (!x4)
   (some ((⟨(⟨[], []⟩ : T), (⟨[], 0⟩ : Ca), (⟨0, 0, 0, []⟩ : Tg), 0⟩ : Mc), false))
   (Option.bind (s_UnmapPage fl a0.t a1) fun x6 =>
      cond (!x6.2)
     (some ((⟨(⟨[], []⟩ : T), (⟨[], 0⟩ : Ca), (⟨0, 0, 0, []⟩ : Tg), 0⟩ : Mc), false))
     (Option.bind (s_l6Forget fl a0 a1) fun x17 =>
        some ((⟨x6.1, x17.c, x17.g, x17.s⟩ : Mc), true)))

def s_l6Step (fl : Nat) (a0_0 : (List UInt8)) (a0_1 : Int) (a1 : Mc) : Option (Mc × Int) :=
  Option.bind (s_l12Rd_pick fl a0_0 a0_1 8) fun x4 =>
    cond (x4.1 == 0)
   (Option.bind (s_l12Rd_num fl a0_0 x4.2 ([0, 1, 2, 3])) fun x8 =>
      Option.bind (s_EnterSpace fl a1 x8.1) fun x9 =>
      cond (!x9.2)
     (some (a1, x8.2))
     (some (x9.1, x8.2)))
   (Option.bind (cond (x4.1 == 1)
     (some (x4.1 == 1))
     (cond (x4.1 == 2)
       (some (x4.1 == 2))
       (some (x4.1 == 3)))) fun y28 =>
      cond y28
     (Option.bind (s_l12Rd_pick fl a0_0 x4.2 3) fun x32 =>
        Option.bind (s_l6Page fl a0_0 x32.2) fun x33 =>
        Option.bind (s_KeyFor fl x32.1 x33.1) fun x34 =>
        Option.bind (s_l12Rd_pick fl a0_0 x33.2 ((a1.t.f).length : Int)) fun x35 =>
        Option.bind (s_l12Rd_num fl a0_0 x35.2 ([3, 1, 7])) fun x38 =>
        Option.bind (s_PutPage fl a1 x34 x35.1 x38.1) fun x39 =>
        cond (!x39.2)
       (some (a1, x38.2))
       (some (x39.1, x38.2)))
     (Option.bind (cond (x4.1 == 4)
       (some (x4.1 == 4))
       (some (x4.1 == 5))) fun y58 =>
        cond y58
       (Option.bind (s_l6Page fl a0_0 x4.2) fun x61 =>
          Option.bind (s_l12Rd_num fl a0_0 x61.2 ([1, 0, 2])) fun x64 =>
          Option.bind (s_TouchPage fl a1 x61.1 x64.1) fun x65 =>
          cond (!x65.2.2.2)
         (some (a1, x64.2))
         (some (x65.1, x64.2)))
       (cond (x4.1 == 6)
         (Option.bind (s_l12Rd_num fl a0_0 x4.2 ([200, 201])) fun x86 =>
            Option.bind (s_WirePage fl a1 x86.1) fun x87 =>
            cond (!x87.2)
           (some (a1, x86.2))
           (some (x87.1, x86.2)))
         (cond (x4.1 == 7)
           (Option.bind (s_l12Rd_pick fl a0_0 x4.2 3) fun x106 =>
              Option.bind (s_l6Page fl a0_0 x106.2) fun x107 =>
              Option.bind (s_KeyFor fl x106.1 x107.1) fun x108 =>
              Option.bind (s_TakePage fl a1 x108) fun x109 =>
              cond (!x109.2)
             (some (a1, x107.2))
             (some (x109.1, x107.2)))
           (cond (!false)
             (some (a1, x4.2))
             (some (a1, x4.2)))))))

def s_l6Draw_L0 (fl : Nat) (a0_0 : (List UInt8)) : Nat → Int → (List Int) → (List F) → (List Ln) → Int → Int → Int → Int → (List Ow) → Int → Int → Option (LO (Int × (List Int) × (List F) × (List Ln) × Int × Int × Int × Int × (List Ow) × Int × Int) (Mc × Int))
  | 0, _, _, _, _, _, _, _, _, _, _, _ => none
  | fuel + 1, v34, v35, v40, v45, v50, v51, v52, v53, v54, v59, v60 => cond (decide (0 < v60))
       (Option.bind (s_l6Step fl a0_0 v34 (⟨(⟨v35, v40⟩ : T), (⟨v45, v50⟩ : Ca), (⟨v51, v52, v53, v54⟩ : Tg), v59⟩ : Mc)) fun x62 =>
        Option.bind (ck (v60 - 1)) fun x79 =>
        s_l6Draw_L0 fl a0_0 fuel x62.2 x62.1.t.b x62.1.t.f x62.1.c.l x62.1.c.h x62.1.g.c x62.1.g.n x62.1.g.r x62.1.g.o x62.1.s x79)
       (some (.out (v34, v35, v40, v45, v50, v51, v52, v53, v54, v59, v60)))
def s_l6Draw (fl : Nat) (a0_0 : (List UInt8)) (a0_1 : Int) : Option (Mc × Int) :=
  Option.bind (s_l12Rd_num fl a0_0 a0_1 ([6, 4, 8])) fun x4 =>
    Option.bind (s_l12Rd_num fl a0_0 x4.2 ([4, 2, 1])) fun x7 =>
    Option.bind (s_l12Rd_num fl a0_0 x7.2 ([3, 2, 4, 1])) fun x10 =>
    Option.bind (s_l12Rd_num fl a0_0 x10.2 ([2, 3, 1])) fun x13 =>
    Option.bind (s_NewMachine fl x4.1 x7.1 x10.1 x13.1) fun x14 =>
    Option.bind (s_l12Rd_pick fl a0_0 x13.2 10) fun x32 =>
    Option.bind (ck (6 + x32.1)) fun x33 =>
    Option.bind (s_l6Draw_L0 fl a0_0 fl x32.2 x14.1.t.b x14.1.t.f x14.1.c.l x14.1.c.h x14.1.g.c x14.1.g.n x14.1.g.r x14.1.g.o x14.1.s x33) fun o => match o with
    | .ret r' => some r'
    | .out (v34, v35, v40, v45, v50, v51, v52, v53, v54, v59, v60) =>
    some ((⟨(⟨v35, v40⟩ : T), (⟨v45, v50⟩ : Ca), (⟨v51, v52, v53, v54⟩ : Tg), v59⟩ : Mc), v34)

def s_NewMemory (fl : Nat) (a0 : Mc) : Option (Mm × Bool) :=
  Option.bind (s_MachineValid fl a0) fun x3 =>
    cond (!x3)
   (some ((⟨(⟨(⟨[], []⟩ : T), (⟨[], 0⟩ : Ca), (⟨0, 0, 0, []⟩ : Tg), 0⟩ : Mc), [], 0⟩ : Mm), false))
   (Option.bind (s_l6Copy fl a0) fun x5 =>
      Option.bind (mkO ((a0.t.f).length : Int)) fun x22 =>
      some ((⟨x5, (List.replicate x22 false), 0⟩ : Mm), true))

def s_l7Pages_L0 (fl : Nat) (a0_0 : (List UInt8)) : Nat → Int → (List Int) → Int → Option (LO (Int × (List Int) × Int) ((List Int) × Int))
  | 0, _, _, _ => none
  | fuel + 1, v6, v7, v12 => cond (decide (0 < v12))
       (Option.bind (s_l12Rd_num fl a0_0 v6 ([1, 2, 3, 4, 5, 6, 7, 200, 201])) fun x16 =>
        Option.bind (cnt (v7 ++ [x16.1])) fun x19 =>
        Option.bind (ck (v12 - 1)) fun x23 =>
        s_l7Pages_L0 fl a0_0 fuel x16.2 x19 x23)
       (some (.out (v6, v7, v12)))
def s_l7Pages (fl : Nat) (a0_0 : (List UInt8)) (a0_1 : Int) : Option ((List Int) × Int) :=
  Option.bind (s_l12Rd_num fl a0_0 a0_1 ([5, 3, 8, 2, 12, 0])) fun x5 =>
    Option.bind (s_l7Pages_L0 fl a0_0 fl x5.2 ([] : List Int) x5.1) fun o => match o with
    | .ret r' => some r'
    | .out (v6, v7, v12) =>
    some (v7, v6)

def s_MemoryValid_L0 (fl : Nat) (a0 : Mm) : Nat → Int → Option (LO Int Bool)
  | 0, _ => none
  | fuel + 1, v7 => cond (decide (v7 < ((a0.k).length : Int)))
       (Option.bind (idx a0.k v7) fun x9 =>
        Option.bind (cond x9 (Option.bind (idx a0.m.t.f v7) fun x11 =>
        some (!x11.u)) (some false)) fun y10 =>
        cond y10
         (some (.ret false))
         (Option.bind (ck (v7 + 1)) fun x13 =>
          s_MemoryValid_L0 fl a0 fuel x13))
       (some (.out v7))
def s_MemoryValid (fl : Nat) (a0 : Mm) : Option Bool :=
  Option.bind (s_MachineValid fl a0.m) fun x2 =>
    Option.bind (cond (!x2) (some true) (some (((a0.k).length : Int) != ((a0.m.t.f).length : Int)))) fun y3 =>
    Option.bind (cond y3 (some true) (some (decide (a0.h < 0)))) fun y4 =>
    Option.bind (cond y4 (some true) (some (decide (((a0.k).length : Int) ≤ a0.h)))) fun y5 =>
    cond y5
   (some false)
   (Option.bind (s_MemoryValid_L0 fl a0 fl 0) fun o => match o with
      | .ret r' => some r'
      | .out v7 =>
      some true)

def s_l7Copy (fl : Nat) (a0 : Mm) : Option Mm :=
  Option.bind (s_l6Copy fl a0.m) fun x3 =>
    Option.bind (cnt (([] : List Bool) ++ a0.k)) fun x22 =>
    some (⟨x3, x22, a0.h⟩ : Mm)

def s_l7Free_L0 (fl : Nat) (a0 : T) : Nat → Int → Option (LO Int Int)
  | 0, _ => none
  | fuel + 1, v2 => cond (decide (v2 < ((a0.f).length : Int)))
       (Option.bind (idx a0.f v2) fun x4 =>
        cond (!x4.u)
         (some (.ret v2))
         (Option.bind (ck (v2 + 1)) fun x6 =>
          s_l7Free_L0 fl a0 fuel x6))
       (some (.out v2))
def s_l7Free (fl : Nat) (a0 : T) : Option Int :=
  Option.bind (s_l7Free_L0 fl a0 fl 0) fun o => match o with
    | .ret r' => some r'
    | .out v2 =>
    some (-1)

def s_l7Wired_L0 (fl : Nat) (a0 : Mc) (a1 : Int) : Nat → Int → Option (LO Int Bool)
  | 0, _ => none
  | fuel + 1, v2 => cond (decide (v2 < ((a0.c.l).length : Int)))
       (Option.bind (idx a0.c.l v2) fun x4 =>
        Option.bind (cond x4.va (some x4.wi) (some false)) fun y6 =>
        Option.bind (cond y6 (some (x4.fr == a1)) (some false)) fun y7 =>
        cond y7
         (some (.ret true))
         (Option.bind (ck (v2 + 1)) fun x9 =>
          s_l7Wired_L0 fl a0 a1 fuel x9))
       (some (.out v2))
def s_l7Wired (fl : Nat) (a0 : Mc) (a1 : Int) : Option Bool :=
  Option.bind (s_l7Wired_L0 fl a0 a1 fl 0) fun o => match o with
    | .ret r' => some r'
    | .out v2 =>
    some false

def s_l7Clock_L0 (fl : Nat) (x3 : Mm) : Nat → Int → (List Bool) → Int → Option (LO (Int × (List Bool) × Int) (Mm × Int))
  | 0, _, _, _ => none
  | fuel + 1, v25, v26, v28 => Option.bind (ck (2 * ((x3.k).length : Int))) fun x29 =>
      cond (decide (v28 < x29))
       (Option.bind (ck (v25 + 1)) fun x31 =>
        Option.bind (remO x31 ((x3.k).length : Int)) fun x32 =>
        Option.bind (idx x3.m.t.f v25) fun x33 =>
        Option.bind (cond (!x33.u) (some true) (Option.bind (s_l7Wired fl x3.m v25) fun x35 =>
        some x35)) fun y34 =>
        cond y34
         (Option.bind (ck (v28 + 1)) fun x37 =>
          s_l7Clock_L0 fl x3 fuel x32 v26 x37)
         (Option.bind (idx v26 v25) fun x38 =>
          cond (!x38)
           (some (.ret ((⟨x3.m, v26, x32⟩ : Mm), v25)))
           (Option.bind (ck (v28 + 1)) fun x41 =>
            s_l7Clock_L0 fl x3 fuel x32 (v26.set (Int.toNat v25) false) x41)))
       (some (.out (v25, v26, v28)))
def s_l7Clock (fl : Nat) (a0 : Mm) : Option (Mm × Int) :=
  Option.bind (s_l7Copy fl a0) fun x3 =>
    Option.bind (s_l7Clock_L0 fl x3 fl x3.h x3.k 0) fun o => match o with
    | .ret r' => some r'
    | .out (v25, v26, v28) =>
    some ((⟨x3.m, v26, v25⟩ : Mm), (-1))

def s_l7Bring (fl : Nat) (a0 : Mm) (a1 : Int) (a2 : Int) : Option (Mm × Bool) :=
  Option.bind (s_l7Copy fl a0) fun x3 =>
    Option.bind (s_l7Free fl a0.m.t) fun x25 =>
    cond (decide (x25 < 0))
   (Option.bind (s_l7Clock fl a0) fun x27 =>
      cond (decide (x27.2 < 0))
     (some ((⟨(⟨(⟨[], []⟩ : T), (⟨[], 0⟩ : Ca), (⟨0, 0, 0, []⟩ : Tg), 0⟩ : Mc), [], 0⟩ : Mm), false))
     (Option.bind (idx x27.1.k x27.2) fun x49 =>
        Option.bind (idx x27.1.m.t.f x27.2) fun x51 =>
        Option.bind (s_TakePage fl x27.1.m x51.k) fun x52 =>
        Option.bind (s_KeyFor fl x52.1.s a1) fun x70 =>
        Option.bind (s_PutPage fl x52.1 x70 x27.2 a2) fun x71 =>
        some ((⟨x71.1, (x27.1.k.set (Int.toNat x27.2) false), x27.1.h⟩ : Mm), x71.2)))
   (Option.bind (s_KeyFor fl x3.m.s a1) fun x89 =>
      Option.bind (s_PutPage fl x3.m x89 x25 a2) fun x90 =>
      some ((⟨x90.1, x3.k, x3.h⟩ : Mm), x90.2))

def s_UsePage (fl : Nat) (a0 : Mm) (a1 : Int) (a2 : Int) (a3 : Int) : Option (Mm × Int × Int × Bool) :=
  Option.bind (s_MemoryValid fl a0) fun x3 =>
    Option.bind (cond (!x3) (some true) (Option.bind (s_l1Page fl a1) fun x5 =>
    some (!x5))) fun y4 =>
    Option.bind (cond y4 (some true) (Option.bind (s_RightsValid fl a2) fun x7 =>
    some (!x7))) fun y6 =>
    Option.bind (cond y6 (some true) (Option.bind (s_RightsValid fl a3) fun x9 =>
    some (!x9))) fun y8 =>
    cond y8
   (some ((⟨(⟨(⟨[], []⟩ : T), (⟨[], 0⟩ : Ca), (⟨0, 0, 0, []⟩ : Tg), 0⟩ : Mc), [], 0⟩ : Mm), 0, 0, false))
   (Option.bind (s_l7Copy fl a0) fun x11 =>
      Option.bind (s_KeyFor fl a0.m.s a1) fun x33 =>
      Option.bind (s_l3Find fl a0.m.t x33) fun x34 =>
      cond (decide (x34.1 < 0))
     (Option.bind (s_l7Bring fl a0 a1 a3) fun x36 =>
        cond (!x36.2)
       (some ((⟨(⟨(⟨[], []⟩ : T), (⟨[], 0⟩ : Ca), (⟨0, 0, 0, []⟩ : Tg), 0⟩ : Mc), [], 0⟩ : Mm), 0, 0, false))
       (Option.bind (s_TouchPage fl x36.1.m a1 a2) fun x59 =>
          Option.bind (idx x36.1.k x59.2.1) fun x77 =>
          Option.bind (cond (decide (x34.1 < 0)) (some (x59.2.2.1 == 2)) (some false)) fun y79 =>
          cond y79
         (some ((⟨x59.1, (x36.1.k.set (Int.toNat x59.2.1) true), x36.1.h⟩ : Mm), x59.2.1, 3, true))
         (some ((⟨x59.1, (x36.1.k.set (Int.toNat x59.2.1) true), x36.1.h⟩ : Mm), x59.2.1, x59.2.2.1, true))))
     (Option.bind (s_TouchPage fl x11.m a1 a2) fun x81 =>
        Option.bind (idx x11.k x81.2.1) fun x99 =>
        Option.bind (cond (decide (x34.1 < 0)) (some (x81.2.2.1 == 2)) (some false)) fun y101 =>
        cond y101
       (some ((⟨x81.1, (x11.k.set (Int.toNat x81.2.1) true), x11.h⟩ : Mm), x81.2.1, 3, true))
       (some ((⟨x81.1, (x11.k.set (Int.toNat x81.2.1) true), x11.h⟩ : Mm), x81.2.1, x81.2.2.1, true))))

def s_UsePages_L0 (fl : Nat) (a1 : (List Int)) : Nat → (List Int) → (List F) → Int → (List Ln) → Int → Int → Int → Int → (List Ow) → Int → (List Bool) → (List Int) → Int → Option (LO ((List Int) × (List F) × Int × (List Ln) × Int × Int × Int × Int × (List Ow) × Int × (List Bool) × (List Int) × Int) (Mm × (List Int) × Bool))
  | 0, _, _, _, _, _, _, _, _, _, _, _, _, _ => none
  | fuel + 1, v33, v38, v43, v44, v49, v50, v51, v52, v53, v58, v59, v64, v66 => cond (decide (v66 < ((a1).length : Int)))
       (Option.bind (idx a1 v66) fun x68 =>
        Option.bind (s_UsePage fl (⟨(⟨(⟨v33, v38⟩ : T), (⟨v44, v49⟩ : Ca), (⟨v50, v51, v52, v53⟩ : Tg), v58⟩ : Mc), v59, v43⟩ : Mm) x68 1 1) fun x69 =>
        cond (!x69.2.2.2)
         (some (.ret ((⟨(⟨(⟨[], []⟩ : T), (⟨[], 0⟩ : Ca), (⟨0, 0, 0, []⟩ : Tg), 0⟩ : Mc), [], 0⟩ : Mm), ([] : List Int), false)))
         (Option.bind (idx v64 x69.2.2.1) fun x94 =>
          Option.bind (ck (x94 + 1)) fun x95 =>
          Option.bind (ck (v66 + 1)) fun x97 =>
          s_UsePages_L0 fl a1 fuel x69.1.m.t.b x69.1.m.t.f x69.1.h x69.1.m.c.l x69.1.m.c.h x69.1.m.g.c x69.1.m.g.n x69.1.m.g.r x69.1.m.g.o x69.1.m.s x69.1.k (v64.set (Int.toNat x69.2.2.1) x95) x97))
       (some (.out (v33, v38, v43, v44, v49, v50, v51, v52, v53, v58, v59, v64, v66)))
def s_UsePages (fl : Nat) (a0 : Mm) (a1 : (List Int)) : Option (Mm × (List Int) × Bool) :=
  Option.bind (s_MemoryValid fl a0) fun x3 =>
    Option.bind (cond (!x3) (some true) (some (decide (64 < ((a1).length : Int))))) fun y4 =>
    cond y4
   (some ((⟨(⟨(⟨[], []⟩ : T), (⟨[], 0⟩ : Ca), (⟨0, 0, 0, []⟩ : Tg), 0⟩ : Mc), [], 0⟩ : Mm), ([] : List Int), false))
   (Option.bind (s_l7Copy fl a0) fun x8 =>
      Option.bind (mkO 5) fun x30 =>
      Option.bind (s_UsePages_L0 fl a1 fl x8.m.t.b x8.m.t.f x8.h x8.m.c.l x8.m.c.h x8.m.g.c x8.m.g.n x8.m.g.r x8.m.g.o x8.m.s x8.k (List.replicate x30 (0 : Int)) 0) fun o => match o with
      | .ret r' => some r'
      | .out (v33, v38, v43, v44, v49, v50, v51, v52, v53, v58, v59, v64, v66) =>
      some ((⟨(⟨(⟨v33, v38⟩ : T), (⟨v44, v49⟩ : Ca), (⟨v50, v51, v52, v53⟩ : Tg), v58⟩ : Mc), v59, v43⟩ : Mm), v64, true))

def s_ClearMarks (fl : Nat) (a0 : Mm) : Option (Mm × Bool) :=
  Option.bind (s_MemoryValid fl a0) fun x3 =>
    cond (!x3)
   (some ((⟨(⟨(⟨[], []⟩ : T), (⟨[], 0⟩ : Ca), (⟨0, 0, 0, []⟩ : Tg), 0⟩ : Mc), [], 0⟩ : Mm), false))
   (Option.bind (s_l7Copy fl a0) fun x5 =>
      Option.bind (mkO ((a0.k).length : Int)) fun x27 =>
      some ((⟨x5.m, (List.replicate x27 false), x5.h⟩ : Mm), true))

def s_l7Draw (fl : Nat) (a0_0 : (List UInt8)) (a0_1 : Int) : Option (Mm × Int) :=
  Option.bind (s_l6Draw fl a0_0 a0_1) fun x2 =>
    Option.bind (s_NewMemory fl x2.1) fun x19 =>
    Option.bind (s_l7Pages fl a0_0 x2.2) fun x41 =>
    Option.bind (s_UsePages fl x19.1 x41.1) fun x47 =>
    cond x47.2.2
   (Option.bind (s_l12Rd_pick fl a0_0 x41.2 3) fun x73 =>
      cond (x73.1 == 0)
     (Option.bind (s_ClearMarks fl x47.1) fun x75 =>
        some (x75.1, x73.2))
     (some (x47.1, x73.2)))
   (Option.bind (s_l12Rd_pick fl a0_0 x41.2 3) fun x96 =>
      cond (x96.1 == 0)
     (Option.bind (s_ClearMarks fl x19.1) fun x98 =>
        some (x98.1, x96.2))
     (some (x19.1, x96.2)))

def s_l4Wrong (fl : Nat) (a0_0 : (List UInt8)) (a0_1 : Int) (a1 : Ca) : Option (Ca × Int) :=
  Option.bind (s_l4Copy fl a1) fun x3 =>
    cond (((x3.l).length : Int) == 0)
   (some (x3, a0_1))
   (Option.bind (s_l12Rd_pick fl a0_0 a0_1 ((x3.l).length : Int)) fun x10 =>
      Option.bind (s_l12Rd_pick fl a0_0 x10.2 24) fun x11 =>
      cond (x11.1 == 0)
     (Option.bind (s_l12Rd_num fl a0_0 x11.2 ([(-1), 8, 0])) fun x15 =>
        some ((⟨x3.l, x15.1⟩ : Ca), x15.2))
     (cond (x11.1 == 1)
       (Option.bind (idx x3.l x10.1) fun x17 =>
          some ((⟨(x3.l.set (Int.toNat x10.1) (⟨(!x17.va), x17.tg, x17.pg, x17.fr, x17.ri, x17.wi⟩ : Ln)), x3.h⟩ : Ca), x11.2))
       (cond (x11.1 == 2)
         (Option.bind (s_l12Rd_num fl a0_0 x11.2 ([2, 256, 3])) fun x22 =>
            Option.bind (idx x3.l x10.1) fun x23 =>
            some ((⟨(x3.l.set (Int.toNat x10.1) (⟨x23.va, x23.tg, x22.1, x23.fr, x23.ri, x23.wi⟩ : Ln)), x3.h⟩ : Ca), x22.2))
         (cond (x11.1 == 3)
           (Option.bind (s_l12Rd_num fl a0_0 x11.2 ([8, (-2), 0, (-1)])) fun x28 =>
              Option.bind (idx x3.l x10.1) fun x29 =>
              some ((⟨(x3.l.set (Int.toNat x10.1) (⟨x29.va, x28.1, x29.pg, x29.fr, x29.ri, x29.wi⟩ : Ln)), x3.h⟩ : Ca), x28.2))
           (cond (x11.1 == 4)
             (some ((⟨([] : List Ln), x3.h⟩ : Ca), x11.2))
             (some (x3, x11.2)))))))

def s_l2Draw (fl : Nat) (a0_0 : (List UInt8)) (a0_1 : Int) : Option (K × Int) :=
  Option.bind (s_l12Rd_num fl a0_0 a0_1 ([0, 1, 2, 3, 1])) fun x4 =>
    Option.bind (s_l12Rd_num fl a0_0 x4.2 ([0, 1, 2, 3, 4, 5, 100, 255])) fun x7 =>
    some ((⟨x4.1, x7.1⟩ : K), x7.2)

def s_l3Wrong (fl : Nat) (a0_0 : (List UInt8)) (a0_1 : Int) (a1 : T) : Option (T × Int) :=
  Option.bind (s_l3Copy fl a1) fun x3 =>
    cond (((x3.f).length : Int) == 0)
   (some (x3, a0_1))
   (Option.bind (s_l12Rd_pick fl a0_0 a0_1 ((x3.f).length : Int)) fun x14 =>
      Option.bind (s_l12Rd_pick fl a0_0 x14.2 24) fun x15 =>
      cond (x15.1 == 0)
     (Option.bind (s_l12Rd_num fl a0_0 x15.2 ([0, x14.1, 16, (-1)])) fun x19 =>
        Option.bind (idx x3.f x14.1) fun x20 =>
        some ((⟨x3.b, (x3.f.set (Int.toNat x14.1) (⟨x20.u, x20.k, x20.r, x19.1⟩ : F))⟩ : T), x19.2))
     (cond (x15.1 == 1)
       (Option.bind (idx x3.f x14.1) fun x23 =>
          some ((⟨x3.b, (x3.f.set (Int.toNat x14.1) (⟨(!x23.u), x23.k, x23.r, x23.nx⟩ : F))⟩ : T), x15.2))
       (cond (x15.1 == 2)
         (Option.bind (s_l12Rd_num fl a0_0 x15.2 ([0, (-1), 16, (-2)])) fun x28 =>
            Option.bind (idx x3.b 0) fun x29 =>
            some ((⟨(x3.b.set (Int.toNat 0) x28.1), x3.f⟩ : T), x28.2))
         (cond (x15.1 == 3)
           (Option.bind (s_l2Draw fl a0_0 x15.2) fun x32 =>
              Option.bind (idx x3.f x14.1) fun x33 =>
              some ((⟨x3.b, (x3.f.set (Int.toNat x14.1) (⟨x33.u, x32.1, x33.r, x33.nx⟩ : F))⟩ : T), x32.2))
           (cond (x15.1 == 4)
             (Option.bind (cnt (x3.b ++ [(-1)])) fun x38 =>
                some ((⟨x38, x3.f⟩ : T), x15.2))
             (cond (x15.1 == 5)
               (some ((⟨x3.b, ([] : List F)⟩ : T), x15.2))
               (some (x3, x15.2))))))))

def s_l5Wrong (fl : Nat) (a0_0 : (List UInt8)) (a0_1 : Int) (a1 : Tg) : Option (Tg × Int) :=
  Option.bind (s_l5Copy fl a1) fun x3 =>
    Option.bind (s_l12Rd_pick fl a0_0 a0_1 20) fun x9 =>
    cond (x9.1 == 0)
   (Option.bind (s_l12Rd_num fl a0_0 x9.2 ([(-1), 9, 0])) fun x13 =>
      some ((⟨x3.c, x13.1, x3.r, x3.o⟩ : Tg), x13.2))
   (cond (x9.1 == 1)
     (Option.bind (s_l12Rd_num fl a0_0 x9.2 ([0, 9, 1])) fun x17 =>
        some ((⟨x17.1, x3.n, x3.r, x3.o⟩ : Tg), x17.2))
     (cond (x9.1 == 2)
       (Option.bind (s_l12Rd_pick fl a0_0 x9.2 3) fun x19 =>
          Option.bind (s_l12Rd_pick fl a0_0 x19.2 3) fun x20 =>
          Option.bind (cnt (x3.o ++ [(⟨x19.1, x20.1⟩ : Ow)])) fun x23 =>
          some ((⟨x3.c, x3.n, x3.r, x23⟩ : Tg), x20.2))
       (cond (x9.1 == 3)
         (Option.bind (s_l12Rd_num fl a0_0 x9.2 ([(-1), 1000001, 1000000])) fun x30 =>
            some ((⟨x3.c, x3.n, x30.1, x3.o⟩ : Tg), x30.2))
         (some (x3, x9.2)))))

def s_l6Wrong (fl : Nat) (a0_0 : (List UInt8)) (a0_1 : Int) (a1 : Mc) : Option (Mc × Int) :=
  Option.bind (s_l6Copy fl a1) fun x3 =>
    Option.bind (s_l12Rd_pick fl a0_0 a0_1 24) fun x21 =>
    cond (x21.1 == 0)
   (Option.bind (s_l12Rd_num fl a0_0 x21.2 ([9, (-1), 1])) fun x25 =>
      some ((⟨x3.t, x3.c, x3.g, x25.1⟩ : Mc), x25.2))
   (cond (x21.1 == 1)
     (Option.bind (s_l4Wrong fl a0_0 x21.2 x3.c) fun x27 =>
        Option.bind (s_l4Wrong fl a0_0 x27.2 x27.1) fun x32 =>
        some ((⟨x3.t, x32.1, x3.g, x3.s⟩ : Mc), x32.2))
     (cond (x21.1 == 2)
       (Option.bind (s_l3Wrong fl a0_0 x21.2 x3.t) fun x38 =>
          Option.bind (s_l3Wrong fl a0_0 x38.2 x38.1) fun x47 =>
          some ((⟨x47.1, x3.c, x3.g, x3.s⟩ : Mc), x47.2))
       (cond (x21.1 == 3)
         (Option.bind (s_l5Wrong fl a0_0 x21.2 x3.g) fun x57 =>
            Option.bind (s_l5Wrong fl a0_0 x57.2 x57.1) fun x62 =>
            some ((⟨x3.t, x3.c, x62.1, x3.s⟩ : Mc), x62.2))
         (some (x3, x21.2)))))

def s_l7Wrong (fl : Nat) (a0_0 : (List UInt8)) (a0_1 : Int) (a1 : Mm) : Option (Mm × Int) :=
  Option.bind (s_l7Copy fl a1) fun x3 =>
    Option.bind (s_l12Rd_pick fl a0_0 a0_1 20) fun x25 =>
    cond (x25.1 == 0)
   (Option.bind (s_l12Rd_num fl a0_0 x25.2 ([(-1), 16, 0])) fun x29 =>
      some ((⟨x3.m, x3.k, x29.1⟩ : Mm), x29.2))
   (cond (x25.1 == 1)
     (Option.bind (cnt (x3.k ++ [true])) fun x33 =>
        some ((⟨x3.m, x33, x3.h⟩ : Mm), x25.2))
     (cond (x25.1 == 2)
       (Option.bind (s_l6Wrong fl a0_0 x25.2 x3.m) fun x38 =>
          Option.bind (s_l6Wrong fl a0_0 x38.2 x38.1) fun x55 =>
          Option.bind (s_l6Wrong fl a0_0 x55.2 x55.1) fun x72 =>
          some ((⟨x72.1, x3.k, x3.h⟩ : Mm), x72.2))
       (cond (x25.1 == 3)
         (Option.bind (s_l12Rd_pick fl a0_0 x25.2 ((x3.k).length : Int)) fun x90 =>
            Option.bind (idx x3.k x90.1) fun x91 =>
            some ((⟨x3.m, (x3.k.set (Int.toNat x90.1) (!x91)), x3.h⟩ : Mm), x90.2))
         (some (x3, x25.2)))))

def s_l7Case (fl : Nat) (a0 : (List UInt8)) : Option Mm :=
  Option.bind (s_l7Draw fl (a0.take 2000) 0) fun x3 =>
    Option.bind (s_l7Wrong fl (a0.take 2000) x3.2 x3.1) fun x24 =>
    some x24.1

def s_DrawUsePage (fl : Nat) (a0 : (List UInt8)) : Option (Mm × Int × Int × Int) :=
  Option.bind (s_l7Case fl a0) fun x2 =>
    Option.bind (s_l12Rd_num fl (a0.take 2000) 0 ([1, 2, 3, 9, 10, 200, 202, 256])) fun x31 =>
    Option.bind (s_l12Rd_num fl (a0.take 2000) x31.2 ([1, 0, 2, 8])) fun x32 =>
    Option.bind (s_l12Rd_num fl (a0.take 2000) x32.2 ([3, 1, 7, 8])) fun x33 =>
    some (x2, x31.1, x32.1, x33.1)

def i_TableValid (fl : Nat) (a0 : T) : Option Bool := some (tableOk a0)

def i_within (fl : Nat) (a0 : Int) (a1 : Int) : Option Bool :=
  Option.bind (cond (decide (0 ≤ a0)) (some (decide (a0 < a1))) (some false)) fun y1 =>
    some y1

def i_tagValid (fl : Nat) (a0 : Int) : Option Bool :=
  Option.bind (cond (decide ((-1) ≤ a0)) (some (decide (a0 < 8))) (some false)) fun y1 =>
    some y1

def i_RightsValid (fl : Nat) (a0 : Int) : Option Bool :=
  Option.bind (i_within fl a0 8) fun x1 =>
    some x1

def i_lineValid (fl : Nat) (a0 : Ln) : Option Bool :=
  cond (!a0.va)
   (some (a0 == (⟨false, 0, 0, 0, 0, false⟩ : Ln)))
   (Option.bind (i_tagValid fl a0.tg) fun x3 =>
      Option.bind (cond x3 (Option.bind (i_within fl a0.pg 256) fun x5 =>
      some x5) (some false)) fun y4 =>
      Option.bind (cond y4 (Option.bind (i_within fl a0.fr 16) fun x7 =>
      some x7) (some false)) fun y6 =>
      Option.bind (cond y6 (Option.bind (i_RightsValid fl a0.ri) fun x9 =>
      some x9) (some false)) fun y8 =>
      some y8)

def i_clash (fl : Nat) (a0 : Ln) (a1 : Ln) : Option Bool :=
  Option.bind (cond a0.va (some a1.va) (some false)) fun y3 =>
    Option.bind (cond y3 (some (a0.pg == a1.pg)) (some false)) fun y4 =>
    Option.bind (cond y4 (Option.bind (cond (a0.tg == a1.tg) (some true) (some (a0.tg == (-1)))) fun y6 =>
    Option.bind (cond y6 (some true) (some (a1.tg == (-1)))) fun y7 =>
    some y7) (some false)) fun y5 =>
    some y5

def i_CacheValid_L1 (fl : Nat) (x9 : Ln) (x13 : (List Ln)) : Nat → Int → Option (LO Int Bool)
  | 0, _ => none
  | fuel + 1, v14 => cond (decide (v14 < ((x13).length : Int)))
       (Option.bind (idx x13 v14) fun x16 =>
        Option.bind (i_clash fl x9 x16) fun x18 =>
        cond x18
         (some (.ret false))
         (Option.bind (ck (v14 + 1)) fun x20 =>
          i_CacheValid_L1 fl x9 x13 fuel x20))
       (some (.out v14))
def i_CacheValid_L0 (fl : Nat) (a0 : Ca) : Nat → Int → Bool → Option (LO (Int × Bool) Bool)
  | 0, _, _ => none
  | fuel + 1, v6, v7 => cond (decide (v6 < ((a0.l).length : Int)))
       (Option.bind (idx a0.l v6) fun x9 =>
        Option.bind (i_lineValid fl x9) fun x11 =>
        cond (!x11)
         (some (.ret false))
         (Option.bind (takeO a0.l v6) fun x13 =>
          Option.bind (i_CacheValid_L1 fl x9 x13 fl 0) fun o => match o with
          | .ret r' => some (.ret r')
          | .out v14 =>
          Option.bind (cond v7 (some true) (some (!x9.wi))) fun y21 =>
          Option.bind (ck (v6 + 1)) fun x22 =>
          i_CacheValid_L0 fl a0 fuel x22 y21))
       (some (.out (v6, v7)))
def i_CacheValid (fl : Nat) (a0 : Ca) : Option Bool :=
  Option.bind (cond (decide (((a0.l).length : Int) < 1)) (some true) (some (decide (8 < ((a0.l).length : Int))))) fun y2 =>
    Option.bind (cond y2 (some true) (Option.bind (i_within fl a0.h ((a0.l).length : Int)) fun x4 =>
    some (!x4))) fun y3 =>
    cond y3
   (some false)
   (Option.bind (i_CacheValid_L0 fl a0 fl 0 false) fun o => match o with
      | .ret r' => some r'
      | .out (v6, v7) =>
      some v7)

def i_TagsValid_L0 (fl : Nat) (a0 : Tg) : Nat → (List Int) → Int → Int → Option (LO ((List Int) × Int × Int) Bool)
  | 0, _, _, _ => none
  | fuel + 1, v10, v12, v13 => cond (decide (v13 < ((a0.o).length : Int)))
       (Option.bind (idx a0.o v13) fun x15 =>
        Option.bind (cond (decide (x15.tg ≤ v12)) (some true) (some (decide (a0.n ≤ x15.tg)))) fun y17 =>
        Option.bind (cond y17 (some true) (Option.bind (i_within fl x15.sp 16) fun x19 =>
        some (!x19))) fun y18 =>
        Option.bind (cond y18 (some true) (Option.bind (hasO v10 x15.sp) fun x21 =>
        some x21)) fun y20 =>
        cond y20
         (some (.ret false))
         (Option.bind (addO v10 x15.sp) fun x23 =>
          Option.bind (ck (v13 + 1)) fun x25 =>
          i_TagsValid_L0 fl a0 fuel x23 x15.tg x25))
       (some (.out (v10, v12, v13)))
def i_TagsValid (fl : Nat) (a0 : Tg) : Option Bool :=
  Option.bind (cond (decide (a0.c < 1)) (some true) (some (decide (8 < a0.c)))) fun y2 =>
    Option.bind (cond y2 (some true) (some (decide (a0.n < 0)))) fun y3 =>
    Option.bind (cond y3 (some true) (some (decide (a0.c < a0.n)))) fun y4 =>
    Option.bind (cond y4 (some true) (some (decide (a0.r < 0)))) fun y5 =>
    Option.bind (cond y5 (some true) (some (decide (1000000 < a0.r)))) fun y6 =>
    cond y6
   (some false)
   (Option.bind (i_TagsValid_L0 fl a0 fl ([] : List Int) (-1) 0) fun o => match o with
      | .ret r' => some r'
      | .out (v10, v12, v13) =>
      some true)

def i_Tags_own_1 (fl : Nat) (a0 : Ow) (ac0 : Int) : Option Bool :=
  some (a0.sp == ac0)

def slices_IndexFunc_Own_of_i_Tags_own_1_L0 (fl : Nat) (a0 : (List Ow)) (a1_0 : Int) : Nat → Int → Option (LO Int Int)
  | 0, _ => none
  | fuel + 1, v1 => cond (decide (v1 < ((a0).length : Int)))
       (Option.bind (idx a0 v1) fun x3 =>
        Option.bind (i_Tags_own_1 fl x3 a1_0) fun x4 =>
        cond x4
         (some (.ret v1))
         (Option.bind (ck (v1 + 1)) fun x6 =>
          slices_IndexFunc_Own_of_i_Tags_own_1_L0 fl a0 a1_0 fuel x6))
       (some (.out v1))
def slices_IndexFunc_Own_of_i_Tags_own_1 (fl : Nat) (a0 : (List Ow)) (a1_0 : Int) : Option Int :=
  Option.bind (slices_IndexFunc_Own_of_i_Tags_own_1_L0 fl a0 a1_0 fl 0) fun o => match o with
    | .ret r' => some r'
    | .out v1 =>
    some (-1)

def i_Tags_own (fl : Nat) (a0 : Tg) (a1 : Int) : Option Int :=
  Option.bind (slices_IndexFunc_Own_of_i_Tags_own_1 fl a0.o a1) fun x3 =>
    some x3

def i_SpaceOf_L0 (fl : Nat) (a0 : Tg) (a1 : Int) : Nat → Int → Option (LO Int (Int × Bool))
  | 0, _ => none
  | fuel + 1, v4 => cond (decide (v4 < ((a0.o).length : Int)))
       (Option.bind (idx a0.o v4) fun x6 =>
        cond (x6.tg == a1)
         (some (.ret (x6.sp, true)))
         (Option.bind (ck (v4 + 1)) fun x9 =>
          i_SpaceOf_L0 fl a0 a1 fuel x9))
       (some (.out v4))
def i_SpaceOf (fl : Nat) (a0 : Tg) (a1 : Int) : Option (Int × Bool) :=
  Option.bind (i_TagsValid fl a0) fun x2 =>
    cond (!x2)
   (some (0, false))
   (Option.bind (i_SpaceOf_L0 fl a0 a1 fl 0) fun o => match o with
      | .ret r' => some r'
      | .out v4 =>
      some (0, false))

def i_KeyFor (fl : Nat) (a0 : Int) (a1 : Int) : Option K :=
  cond (decide (128 ≤ a1))
   (some (⟨0, a1⟩ : K))
   (some (⟨a0, a1⟩ : K))

def i_Table_find_1 (fl : Nat) (a0 : F) (ac0 : K) : Option Bool :=
  Option.bind (cond a0.u (some (a0.k == ac0)) (some false)) fun y2 =>
    some y2

def slices_IndexFunc_Frame_of_i_Table_find_1_L0 (fl : Nat) (a0 : (List F)) (a1_0 : K) : Nat → Int → Option (LO Int Int)
  | 0, _ => none
  | fuel + 1, v1 => cond (decide (v1 < ((a0).length : Int)))
       (Option.bind (idx a0 v1) fun x3 =>
        Option.bind (i_Table_find_1 fl x3 a1_0) fun x4 =>
        cond x4
         (some (.ret v1))
         (Option.bind (ck (v1 + 1)) fun x6 =>
          slices_IndexFunc_Frame_of_i_Table_find_1_L0 fl a0 a1_0 fuel x6))
       (some (.out v1))
def slices_IndexFunc_Frame_of_i_Table_find_1 (fl : Nat) (a0 : (List F)) (a1_0 : K) : Option Int :=
  Option.bind (slices_IndexFunc_Frame_of_i_Table_find_1_L0 fl a0 a1_0 fl 0) fun o => match o with
    | .ret r' => some r'
    | .out v1 =>
    some (-1)

def i_Table_find (fl : Nat) (a0 : T) (a1 : K) : Option Int :=
  Option.bind (slices_IndexFunc_Frame_of_i_Table_find_1 fl a0.f a1) fun x3 =>
    some x3

def i_MachineValid_L0 (fl : Nat) (a0 : Mc) : Nat → Int → Option (LO Int Bool)
  | 0, _ => none
  | fuel + 1, v10 => cond (decide (v10 < ((a0.t.f).length : Int)))
       (Option.bind (idx a0.t.f v10) fun x12 =>
        Option.bind (cond x12.u (some (decide (128 ≤ x12.k.p))) (some false)) fun y14 =>
        Option.bind (cond y14 (some (x12.k.s != 0)) (some false)) fun y15 =>
        cond y15
         (some (.ret false))
         (Option.bind (ck (v10 + 1)) fun x17 =>
          i_MachineValid_L0 fl a0 fuel x17))
       (some (.out v10))
def i_MachineValid_L1 (fl : Nat) (a0 : Mc) : Nat → Int → Option (LO Int Bool)
  | 0, _ => none
  | fuel + 1, v18 => cond (decide (v18 < ((a0.c.l).length : Int)))
       (Option.bind (idx a0.c.l v18) fun x20 =>
        cond (!x20.va)
         (Option.bind (ck (v18 + 1)) fun x23 =>
          i_MachineValid_L1 fl a0 fuel x23)
         (Option.bind (cond ((decide (128 ≤ x20.pg)) != (x20.tg == (-1))) (some true) (Option.bind (cond x20.wi (some (!(decide (128 ≤ x20.pg)))) (some false)) fun y25 =>
          some y25)) fun y24 =>
          cond y24
           (some (.ret false))
           (cond (!(decide (128 ≤ x20.pg)))
             (Option.bind (i_SpaceOf fl a0.g x20.tg) fun x28 =>
              cond (!x28.2)
               (some (.ret false))
               (Option.bind (i_KeyFor fl x28.1 x20.pg) fun x30 =>
                Option.bind (i_Table_find fl a0.t x30) fun x31 =>
                Option.bind (cond (decide (x31 < 0)) (some true) (some (x31 != x20.fr))) fun y32 =>
                Option.bind (cond y32 (some true) (Option.bind (idx a0.t.f x31) fun x34 =>
                some (x34.r != x20.ri))) fun y33 =>
                cond y33
                 (some (.ret false))
                 (Option.bind (ck (v18 + 1)) fun x36 =>
                  i_MachineValid_L1 fl a0 fuel x36)))
             (Option.bind (i_KeyFor fl 0 x20.pg) fun x37 =>
              Option.bind (i_Table_find fl a0.t x37) fun x38 =>
              Option.bind (cond (decide (x38 < 0)) (some true) (some (x38 != x20.fr))) fun y39 =>
              Option.bind (cond y39 (some true) (Option.bind (idx a0.t.f x38) fun x41 =>
              some (x41.r != x20.ri))) fun y40 =>
              cond y40
               (some (.ret false))
               (Option.bind (ck (v18 + 1)) fun x43 =>
                i_MachineValid_L1 fl a0 fuel x43)))))
       (some (.out v18))
def i_MachineValid (fl : Nat) (a0 : Mc) : Option Bool :=
  Option.bind (i_TableValid fl a0.t) fun x2 =>
    Option.bind (cond (!x2) (some true) (Option.bind (i_CacheValid fl a0.c) fun x4 =>
    some (!x4))) fun y3 =>
    Option.bind (cond y3 (some true) (Option.bind (i_TagsValid fl a0.g) fun x6 =>
    some (!x6))) fun y5 =>
    Option.bind (cond y5 (some true) (Option.bind (i_Tags_own fl a0.g a0.s) fun x8 =>
    some (decide (x8 < 0)))) fun y7 =>
    cond y7
   (some false)
   (Option.bind (i_MachineValid_L0 fl a0 fl 0) fun o => match o with
      | .ret r' => some r'
      | .out v10 =>
      Option.bind (i_MachineValid_L1 fl a0 fl 0) fun o => match o with
      | .ret r' => some r'
      | .out v18 =>
      some true)

def i_MemoryValid_L0 (fl : Nat) (a0 : Mm) : Nat → Int → Option (LO Int Bool)
  | 0, _ => none
  | fuel + 1, v7 => cond (decide (v7 < ((a0.k).length : Int)))
       (Option.bind (idx a0.k v7) fun x9 =>
        Option.bind (cond x9 (Option.bind (idx a0.m.t.f v7) fun x11 =>
        some (!x11.u)) (some false)) fun y10 =>
        cond y10
         (some (.ret false))
         (Option.bind (ck (v7 + 1)) fun x13 =>
          i_MemoryValid_L0 fl a0 fuel x13))
       (some (.out v7))
def i_MemoryValid (fl : Nat) (a0 : Mm) : Option Bool :=
  Option.bind (i_MachineValid fl a0.m) fun x2 =>
    Option.bind (cond (!x2) (some true) (some (((a0.k).length : Int) != ((a0.m.t.f).length : Int)))) fun y3 =>
    Option.bind (cond y3 (some true) (Option.bind (i_within fl a0.h ((a0.m.t.f).length : Int)) fun x5 =>
    some (!x5))) fun y4 =>
    cond y4
   (some false)
   (Option.bind (i_MemoryValid_L0 fl a0 fl 0) fun o => match o with
      | .ret r' => some r'
      | .out v7 =>
      some true)

def slices_Clone_Int (fl : Nat) (a0 : (List Int)) : Option (List Int) :=
  cnt a0

def slices_Clone_Frame (fl : Nat) (a0 : (List F)) : Option (List F) :=
  cnt a0

def i_Table_clone (fl : Nat) (a0 : T) : Option T :=
  Option.bind (slices_Clone_Int fl a0.b) fun x3 =>
    Option.bind (slices_Clone_Frame fl a0.f) fun x8 =>
    some (⟨x3, x8⟩ : T)

def slices_Clone_Line (fl : Nat) (a0 : (List Ln)) : Option (List Ln) :=
  cnt a0

def slices_Clone_Own (fl : Nat) (a0 : (List Ow)) : Option (List Ow) :=
  cnt a0

def i_Machine_clone (fl : Nat) (a0 : Mc) : Option Mc :=
  Option.bind (i_Table_clone fl a0.t) fun x3 =>
    Option.bind (slices_Clone_Line fl a0.c.l) fun x12 =>
    Option.bind (slices_Clone_Own fl a0.g.o) fun x17 =>
    some (⟨x3, (⟨x12, a0.c.h⟩ : Ca), (⟨a0.g.c, a0.g.n, a0.g.r, x17⟩ : Tg), a0.s⟩ : Mc)

def slices_Clone_Bool (fl : Nat) (a0 : (List Bool)) : Option (List Bool) :=
  cnt a0

def i_Memory_clone (fl : Nat) (a0 : Mm) : Option Mm :=
  Option.bind (i_Machine_clone fl a0.m) fun x3 =>
    Option.bind (slices_Clone_Bool fl a0.k) fun x20 =>
    some (⟨x3, x20, a0.h⟩ : Mm)

def i_FreeFrame_L0 (fl : Nat) (a0 : Mm) : Nat → Int → Option (LO Int (Int × Bool))
  | 0, _ => none
  | fuel + 1, v4 => cond (decide (v4 < ((a0.m.t.f).length : Int)))
       (Option.bind (idx a0.m.t.f v4) fun x6 =>
        cond (!x6.u)
         (some (.ret (v4, true)))
         (Option.bind (ck (v4 + 1)) fun x9 =>
          i_FreeFrame_L0 fl a0 fuel x9))
       (some (.out v4))
def i_FreeFrame (fl : Nat) (a0 : Mm) : Option (Int × Bool) :=
  Option.bind (i_MemoryValid fl a0) fun x2 =>
    cond (!x2)
   (some (0, false))
   (Option.bind (i_FreeFrame_L0 fl a0 fl 0) fun o => match o with
      | .ret r' => some r'
      | .out v4 =>
      some (0, false))

def i_FrameVictim_1 (fl : Nat) (a0 : Ln) (ac0 : Int) : Option Bool :=
  Option.bind (cond a0.wi (some (a0.fr == ac0)) (some false)) fun y2 =>
    some y2

def slices_IndexFunc_Line_of_i_FrameVictim_1_L0 (fl : Nat) (a0 : (List Ln)) (a1_0 : Int) : Nat → Int → Option (LO Int Int)
  | 0, _ => none
  | fuel + 1, v1 => cond (decide (v1 < ((a0).length : Int)))
       (Option.bind (idx a0 v1) fun x3 =>
        Option.bind (i_FrameVictim_1 fl x3 a1_0) fun x4 =>
        cond x4
         (some (.ret v1))
         (Option.bind (ck (v1 + 1)) fun x6 =>
          slices_IndexFunc_Line_of_i_FrameVictim_1_L0 fl a0 a1_0 fuel x6))
       (some (.out v1))
def slices_IndexFunc_Line_of_i_FrameVictim_1 (fl : Nat) (a0 : (List Ln)) (a1_0 : Int) : Option Int :=
  Option.bind (slices_IndexFunc_Line_of_i_FrameVictim_1_L0 fl a0 a1_0 fl 0) fun o => match o with
    | .ret r' => some r'
    | .out v1 =>
    some (-1)

def slices_ContainsFunc_Line_of_i_FrameVictim_1 (fl : Nat) (a0 : (List Ln)) (a1_0 : Int) : Option Bool :=
  Option.bind (slices_IndexFunc_Line_of_i_FrameVictim_1 fl a0 a1_0) fun x1 =>
    some (decide (0 ≤ x1))

def i_FrameVictim_L0 (fl : Nat) (x5 : Mm) (x27 : Int) : Nat → Int → (List Bool) → Int → Option (LO (Int × (List Bool) × Int) (Mm × Int × Bool))
  | 0, _, _, _ => none
  | fuel + 1, v28, v29, v31 => cond (decide (v31 < x27))
       (Option.bind (ck (v28 + 1)) fun x34 =>
        Option.bind (remO x34 ((x5.k).length : Int)) fun x35 =>
        Option.bind (slices_ContainsFunc_Line_of_i_FrameVictim_1 fl x5.m.c.l v28) fun x36 =>
        Option.bind (idx x5.m.t.f v28) fun x37 =>
        Option.bind (cond (!x37.u) (some true) (some x36)) fun y38 =>
        cond y38
         (Option.bind (ck (v31 + 1)) fun x40 =>
          i_FrameVictim_L0 fl x5 x27 fuel x35 v29 x40)
         (Option.bind (idx v29 v28) fun x41 =>
          cond x41
           (Option.bind (ck (v31 + 1)) fun x44 =>
            i_FrameVictim_L0 fl x5 x27 fuel x35 (v29.set (Int.toNat v28) false) x44)
           (some (.ret ((⟨x5.m, v29, x35⟩ : Mm), v28, true)))))
       (some (.out (v28, v29, v31)))
def i_FrameVictim (fl : Nat) (a0 : Mm) : Option (Mm × Int × Bool) :=
  Option.bind (i_MemoryValid fl a0) fun x3 =>
    cond (!x3)
   (some ((⟨(⟨(⟨[], []⟩ : T), (⟨[], 0⟩ : Ca), (⟨0, 0, 0, []⟩ : Tg), 0⟩ : Mc), [], 0⟩ : Mm), 0, false))
   (Option.bind (i_Memory_clone fl a0) fun x5 =>
      Option.bind (ck (2 * ((x5.k).length : Int))) fun x27 =>
      Option.bind (i_FrameVictim_L0 fl x5 x27 fl x5.h x5.k 0) fun o => match o with
      | .ret r' => some r'
      | .out (v28, v29, v31) =>
      some ((⟨(⟨(⟨[], []⟩ : T), (⟨[], 0⟩ : Ca), (⟨0, 0, 0, []⟩ : Tg), 0⟩ : Mc), [], 0⟩ : Mm), 0, false))

def i_KeyValid (fl : Nat) (a0 : K) : Option Bool :=
  Option.bind (i_within fl a0.s 16) fun x2 =>
    Option.bind (cond x2 (Option.bind (i_within fl a0.p 256) fun x4 =>
    some x4) (some false)) fun y3 =>
    some y3

def i_hash (fl : Nat) (a0 : K) (a1 : Int) : Option Int :=
  Option.bind (ck (a0.s * 256)) fun x2 =>
    Option.bind (ck (x2 + a0.p)) fun x3 =>
    Option.bind (ckU x3) fun x4 =>
    Option.bind (ckU (x4 * 2654435761)) fun x5 =>
    Option.bind (remO x5 4294967296) fun x6 =>
    Option.bind (ckU a1) fun x7 =>
    Option.bind (ckU (x6 * x7)) fun x8 =>
    Option.bind (ck (x8 / 4294967296)) fun x9 =>
    some x9

def i_UnmapPage_L0 (fl : Nat) (x10 : T) (x20 : Int) (x21 : F) : Nat → (List F) → Int → Option (LO ((List F) × Int) (T × Bool))
  | 0, _, _ => none
  | fuel + 1, v28, v30 => cond (decide (v30 < ((x10.f).length : Int)))
       (Option.bind (idx v28 v30) fun x32 =>
        Option.bind (cond x32.u (some (x32.nx == x20)) (some false)) fun y33 =>
        cond y33
         (Option.bind (ck (v30 + 1)) fun x36 =>
          i_UnmapPage_L0 fl x10 x20 x21 fuel (v28.set (Int.toNat v30) (⟨x32.u, x32.k, x32.r, x21.nx⟩ : F)) x36)
         (Option.bind (ck (v30 + 1)) fun x37 =>
          i_UnmapPage_L0 fl x10 x20 x21 fuel v28 x37))
       (some (.out (v28, v30)))
def i_UnmapPage (fl : Nat) (a0 : T) (a1 : K) : Option (T × Bool) :=
  Option.bind (i_TableValid fl a0) fun x4 =>
    Option.bind (cond (!x4) (some true) (Option.bind (i_KeyValid fl a1) fun x6 =>
    some (!x6))) fun y5 =>
    Option.bind (cond y5 (some true) (Option.bind (i_Table_find fl a0 a1) fun x8 =>
    some (decide (x8 < 0)))) fun y7 =>
    cond y7
   (some ((⟨[], []⟩ : T), false))
   (Option.bind (i_Table_clone fl a0) fun x10 =>
      Option.bind (i_Table_find fl a0 a1) fun x20 =>
      Option.bind (idx a0.f x20) fun x21 =>
      Option.bind (i_hash fl a1 ((a0.b).length : Int)) fun x22 =>
      Option.bind (idx x10.b x22) fun x23 =>
      cond (x23 == x20)
     (Option.bind (idx x10.f x20) fun x26 =>
        some ((⟨(x10.b.set (Int.toNat x22) x21.nx), (x10.f.set (Int.toNat x20) (⟨false, (⟨0, 0⟩ : K), 0, (-1)⟩ : F))⟩ : T), true))
     (Option.bind (i_UnmapPage_L0 fl x10 x20 x21 fl x10.f 0) fun o => match o with
        | .ret r' => some r'
        | .out (v28, v30) =>
        Option.bind (idx v28 x20) fun x38 =>
        some ((⟨x10.b, (v28.set (Int.toNat x20) (⟨false, (⟨0, 0⟩ : K), 0, (-1)⟩ : F))⟩ : T), true)))

def i_TagOf (fl : Nat) (a0 : Tg) (a1 : Int) : Option (Int × Bool) :=
  Option.bind (i_TagsValid fl a0) fun x2 =>
    Option.bind (cond (!x2) (some true) (Option.bind (i_Tags_own fl a0 a1) fun x4 =>
    some (decide (x4 < 0)))) fun y3 =>
    cond y3
   (some (0, false))
   (Option.bind (i_Tags_own fl a0 a1) fun x6 =>
      Option.bind (idx a0.o x6) fun x7 =>
      some (x7.tg, true))

def i_Machine_tagFor (fl : Nat) (a0 : Mc) (a1 : Int) (a2 : Int) : Option (Int × Bool) :=
  cond (decide (128 ≤ a2))
   (some ((-1), true))
   (Option.bind (i_TagOf fl a0.g a1) fun x3 =>
      some (x3.1, x3.2))

def i_Cache_place_1 (fl : Nat) (a0 : Ln) (ac0 : Int) (ac1 : Int) : Option Bool :=
  Option.bind (cond a0.va (some (a0.pg == ac0)) (some false)) fun y2 =>
    Option.bind (cond y2 (Option.bind (cond (a0.tg == ac1) (some true) (some (a0.tg == (-1)))) fun y4 =>
    some y4) (some false)) fun y3 =>
    some y3

def slices_IndexFunc_Line_of_i_Cache_place_1_L0 (fl : Nat) (a0 : (List Ln)) (a1_0 : Int) (a1_1 : Int) : Nat → Int → Option (LO Int Int)
  | 0, _ => none
  | fuel + 1, v1 => cond (decide (v1 < ((a0).length : Int)))
       (Option.bind (idx a0 v1) fun x3 =>
        Option.bind (i_Cache_place_1 fl x3 a1_0 a1_1) fun x4 =>
        cond x4
         (some (.ret v1))
         (Option.bind (ck (v1 + 1)) fun x6 =>
          slices_IndexFunc_Line_of_i_Cache_place_1_L0 fl a0 a1_0 a1_1 fuel x6))
       (some (.out v1))
def slices_IndexFunc_Line_of_i_Cache_place_1 (fl : Nat) (a0 : (List Ln)) (a1_0 : Int) (a1_1 : Int) : Option Int :=
  Option.bind (slices_IndexFunc_Line_of_i_Cache_place_1_L0 fl a0 a1_0 a1_1 fl 0) fun o => match o with
    | .ret r' => some r'
    | .out v1 =>
    some (-1)

def i_Cache_place (fl : Nat) (a0 : Ca) (a1 : Int) (a2 : Int) : Option Int :=
  Option.bind (slices_IndexFunc_Line_of_i_Cache_place_1 fl a0.l a2 a1) fun x4 =>
    some x4

def i_Machine_dropped (fl : Nat) (a0 : Mc) (a1 : T) (a2 : K) : Option Mc :=
  Option.bind (i_Machine_clone fl a0) fun x5 =>
    Option.bind (i_Machine_tagFor fl a0 a2.s a2.p) fun x23 =>
    cond x23.2
   (Option.bind (i_Cache_place fl a0.c x23.1 a2.p) fun x25 =>
      cond (decide (0 ≤ x25))
     (Option.bind (idx x5.c.l x25) fun x27 =>
        some (⟨a1, (⟨(x5.c.l.set (Int.toNat x25) (⟨false, 0, 0, 0, 0, false⟩ : Ln)), x5.c.h⟩ : Ca), x5.g, x5.s⟩ : Mc))
     (some (⟨a1, x5.c, x5.g, x5.s⟩ : Mc)))
   (some (⟨a1, x5.c, x5.g, x5.s⟩ : Mc))

def i_TakePage (fl : Nat) (a0 : Mc) (a1 : K) : Option (Mc × Bool) :=
  Option.bind (i_MachineValid fl a0) fun x4 =>
    cond (!x4)
   (some ((⟨(⟨[], []⟩ : T), (⟨[], 0⟩ : Ca), (⟨0, 0, 0, []⟩ : Tg), 0⟩ : Mc), false))
   (Option.bind (i_UnmapPage fl a0.t a1) fun x6 =>
      cond (!x6.2)
     (some ((⟨(⟨[], []⟩ : T), (⟨[], 0⟩ : Ca), (⟨0, 0, 0, []⟩ : Tg), 0⟩ : Mc), false))
     (Option.bind (i_Machine_dropped fl a0 x6.1 a1) fun x17 =>
        some (x17, true)))

def i_Table_link (fl : Nat) (a0 : T) (a1 : K) (a2 : Int) (a3 : Int) : Option ((List Int) × (List F)) :=
  Option.bind (i_hash fl a1 ((a0.b).length : Int)) fun x3 =>
    Option.bind (idx a0.b x3) fun x4 =>
    Option.bind (idx a0.f a2) fun x5 =>
    some ((a0.b.set (Int.toNat x3) a2), (a0.f.set (Int.toNat a2) (⟨true, a1, a3, x4⟩ : F)))

def i_MapPage (fl : Nat) (a0 : T) (a1 : K) (a2 : Int) (a3 : Int) : Option (T × Bool) :=
  Option.bind (i_TableValid fl a0) fun x4 =>
    Option.bind (cond (!x4) (some true) (Option.bind (i_KeyValid fl a1) fun x6 =>
    some (!x6))) fun y5 =>
    Option.bind (cond y5 (some true) (Option.bind (i_Table_find fl a0 a1) fun x8 =>
    some (decide (0 ≤ x8)))) fun y7 =>
    Option.bind (cond y7 (some true) (Option.bind (i_within fl a2 ((a0.f).length : Int)) fun x10 =>
    some (!x10))) fun y9 =>
    Option.bind (cond y9 (some true) (Option.bind (idx a0.f a2) fun x12 =>
    some x12.u)) fun y11 =>
    Option.bind (cond y11 (some true) (Option.bind (i_RightsValid fl a3) fun x14 =>
    some (!x14))) fun y13 =>
    cond y13
   (some ((⟨[], []⟩ : T), false))
   (Option.bind (i_Table_clone fl a0) fun x16 =>
      Option.bind (i_Table_link fl x16 a1 a2 a3) fun x26 =>
      some ((⟨x26.1, x26.2⟩ : T), true))

def i_PutPage (fl : Nat) (a0 : Mc) (a1 : K) (a2 : Int) (a3 : Int) : Option (Mc × Bool) :=
  Option.bind (i_MachineValid fl a0) fun x4 =>
    Option.bind (cond (!x4) (some true) (Option.bind (i_KeyFor fl a1.s a1.p) fun x6 =>
    some (a1 != x6))) fun y5 =>
    cond y5
   (some ((⟨(⟨[], []⟩ : T), (⟨[], 0⟩ : Ca), (⟨0, 0, 0, []⟩ : Tg), 0⟩ : Mc), false))
   (Option.bind (i_MapPage fl a0.t a1 a2 a3) fun x8 =>
      cond (!x8.2)
     (some ((⟨(⟨[], []⟩ : T), (⟨[], 0⟩ : Ca), (⟨0, 0, 0, []⟩ : Tg), 0⟩ : Mc), false))
     (Option.bind (i_Machine_clone fl a0) fun x19 =>
        some ((⟨x8.1, x19.c, x19.g, x19.s⟩ : Mc), true)))

def i_Allows (fl : Nat) (a0 : Int) (a1 : Int) : Option Bool :=
  Option.bind (i_RightsValid fl a0) fun x1 =>
    Option.bind (cond x1 (Option.bind (i_RightsValid fl a1) fun x3 =>
    some x3) (some false)) fun y2 =>
    Option.bind (cond y2 (some ((bAndNot a1 a0) == 0)) (some false)) fun y4 =>
    some y4

def i_VictimOf_L0 (fl : Nat) (a0 : Ca) : Nat → Int → Option (LO Int (Int × Bool))
  | 0, _ => none
  | fuel + 1, v4 => cond (decide (v4 < ((a0.l).length : Int)))
       (Option.bind (idx a0.l v4) fun x6 =>
        cond (!x6.va)
         (some (.ret (v4, true)))
         (Option.bind (ck (v4 + 1)) fun x9 =>
          i_VictimOf_L0 fl a0 fuel x9))
       (some (.out v4))
def i_VictimOf_L1 (fl : Nat) (a0 : Ca) : Nat → Int → Option (LO Int (Int × Bool))
  | 0, _ => none
  | fuel + 1, v10 => Option.bind (idx a0.l v10) fun x11 =>
      cond x11.wi
       (Option.bind (ck (v10 + 1)) fun x13 =>
        Option.bind (remO x13 ((a0.l).length : Int)) fun x14 =>
        i_VictimOf_L1 fl a0 fuel x14)
       (some (.out v10))
def i_VictimOf (fl : Nat) (a0 : Ca) : Option (Int × Bool) :=
  Option.bind (i_CacheValid fl a0) fun x2 =>
    cond (!x2)
   (some (0, false))
   (Option.bind (i_VictimOf_L0 fl a0 fl 0) fun o => match o with
      | .ret r' => some r'
      | .out v4 =>
      Option.bind (i_VictimOf_L1 fl a0 fl a0.h) fun o => match o with
      | .ret r' => some r'
      | .out v10 =>
      some (v10, true))

def i_Cache_with (fl : Nat) (a0 : Ca) (a1 : Int) (a2 : Ln) : Option Ca :=
  Option.bind (slices_Clone_Line fl a0.l) fun x4 =>
    Option.bind (idx x4 a1) fun x10 =>
    some (⟨(x4.set (Int.toNat a1) a2), a0.h⟩ : Ca)

def i_FillLine (fl : Nat) (a0 : Ca) (a1 : Ln) : Option (Ca × Int × Bool) :=
  Option.bind (i_VictimOf fl a0) fun x4 =>
    Option.bind (cond (!x4.2) (some true) (some (!a1.va))) fun y5 =>
    Option.bind (cond y5 (some true) (Option.bind (i_lineValid fl a1) fun x7 =>
    some (!x7))) fun y6 =>
    Option.bind (cond y6 (some true) (Option.bind (i_Cache_place fl a0 a1.tg a1.pg) fun x9 =>
    some (decide (0 ≤ x9)))) fun y8 =>
    cond y8
   (some ((⟨[], 0⟩ : Ca), 0, false))
   (Option.bind (i_Cache_with fl a0 x4.1 a1) fun x11 =>
      Option.bind (idx a0.l x4.1) fun x17 =>
      cond x17.va
     (Option.bind (ck (x4.1 + 1)) fun x19 =>
        Option.bind (remO x19 ((a0.l).length : Int)) fun x20 =>
        Option.bind (i_CacheValid fl (⟨x11.l, x20⟩ : Ca)) fun x21 =>
        cond (!x21)
       (some ((⟨[], 0⟩ : Ca), 0, false))
       (some ((⟨x11.l, x20⟩ : Ca), x4.1, true)))
     (Option.bind (i_CacheValid fl x11) fun x23 =>
        cond (!x23)
       (some ((⟨[], 0⟩ : Ca), 0, false))
       (some (x11, x4.1, true))))

def i_TouchPage (fl : Nat) (a0 : Mc) (a1 : Int) (a2 : Int) : Option (Mc × Int × Int × Bool) :=
  Option.bind (i_MachineValid fl a0) fun x3 =>
    Option.bind (cond (!x3) (some true) (Option.bind (i_within fl a1 256) fun x5 =>
    some (!x5))) fun y4 =>
    Option.bind (cond y4 (some true) (Option.bind (i_RightsValid fl a2) fun x7 =>
    some (!x7))) fun y6 =>
    cond y6
   (some ((⟨(⟨[], []⟩ : T), (⟨[], 0⟩ : Ca), (⟨0, 0, 0, []⟩ : Tg), 0⟩ : Mc), 0, 0, false))
   (Option.bind (i_Machine_clone fl a0) fun x9 =>
      Option.bind (i_Machine_tagFor fl a0 a0.s a1) fun x27 =>
      Option.bind (i_Cache_place fl a0.c x27.1 a1) fun x28 =>
      cond (decide (0 ≤ x28))
     (Option.bind (idx a0.c.l x28) fun x30 =>
        Option.bind (i_Allows fl x30.ri a2) fun x31 =>
        cond (!x31)
       (some (x9, x30.fr, 4, true))
       (some (x9, x30.fr, 1, true)))
     (Option.bind (i_KeyFor fl a0.s a1) fun x33 =>
        Option.bind (i_Table_find fl a0.t x33) fun x34 =>
        cond (decide (x34 < 0))
       (some (x9, 0, 3, true))
       (Option.bind (idx a0.t.f x34) fun x36 =>
          Option.bind (i_FillLine fl x9.c (⟨true, x27.1, a1, x34, x36.r, false⟩ : Ln)) fun x37 =>
          cond (!x37.2.2)
         (some ((⟨(⟨[], []⟩ : T), (⟨[], 0⟩ : Ca), (⟨0, 0, 0, []⟩ : Tg), 0⟩ : Mc), 0, 0, false))
         (Option.bind (i_Allows fl x36.r a2) fun x44 =>
            cond (!x44)
           (some ((⟨x9.t, x37.1, x9.g, x9.s⟩ : Mc), x34, 4, true))
           (some ((⟨x9.t, x37.1, x9.g, x9.s⟩ : Mc), x34, 2, true))))))

def i_UsePage (fl : Nat) (a0 : Mm) (a1 : Int) (a2 : Int) (a3 : Int) : Option (Mm × Int × Int × Bool) :=
  Option.bind (i_MemoryValid fl a0) fun x3 =>
    Option.bind (cond (!x3) (some true) (Option.bind (i_within fl a1 256) fun x5 =>
    some (!x5))) fun y4 =>
    Option.bind (cond y4 (some true) (Option.bind (i_RightsValid fl a2) fun x7 =>
    some (!x7))) fun y6 =>
    Option.bind (cond y6 (some true) (Option.bind (i_RightsValid fl a3) fun x9 =>
    some (!x9))) fun y8 =>
    cond y8
   (some ((⟨(⟨(⟨[], []⟩ : T), (⟨[], 0⟩ : Ca), (⟨0, 0, 0, []⟩ : Tg), 0⟩ : Mc), [], 0⟩ : Mm), 0, 0, false))
   (Option.bind (i_Memory_clone fl a0) fun x11 =>
      Option.bind (i_KeyFor fl a0.m.s a1) fun x33 =>
      Option.bind (i_Table_find fl a0.m.t x33) fun x35 =>
      cond (decide (x35 < 0))
     (Option.bind (i_FreeFrame fl x11) fun x37 =>
        cond (!x37.2)
       (Option.bind (i_FrameVictim fl x11) fun x39 =>
          cond (!x39.2.2)
         (some ((⟨(⟨(⟨[], []⟩ : T), (⟨[], 0⟩ : Ca), (⟨0, 0, 0, []⟩ : Tg), 0⟩ : Mc), [], 0⟩ : Mm), 0, 0, false))
         (Option.bind (idx x39.1.m.t.f x39.2.1) fun x62 =>
            Option.bind (i_TakePage fl x39.1.m x62.k) fun x63 =>
            cond (!x63.2)
           (some ((⟨(⟨(⟨[], []⟩ : T), (⟨[], 0⟩ : Ca), (⟨0, 0, 0, []⟩ : Tg), 0⟩ : Mc), [], 0⟩ : Mm), 0, 0, false))
           (Option.bind (i_PutPage fl x63.1 x33 x39.2.1 a3) fun x82 =>
              cond (!x82.2)
             (some ((⟨(⟨(⟨[], []⟩ : T), (⟨[], 0⟩ : Ca), (⟨0, 0, 0, []⟩ : Tg), 0⟩ : Mc), [], 0⟩ : Mm), 0, 0, false))
             (Option.bind (i_TouchPage fl x82.1 a1 a2) fun x101 =>
                cond (!x101.2.2.2)
               (some ((⟨(⟨(⟨[], []⟩ : T), (⟨[], 0⟩ : Ca), (⟨0, 0, 0, []⟩ : Tg), 0⟩ : Mc), [], 0⟩ : Mm), 0, 0, false))
               (Option.bind (idx x39.1.k x101.2.1) fun x120 =>
                  Option.bind (cond (decide (x35 < 0)) (some (x101.2.2.1 == 2)) (some false)) fun y122 =>
                  cond y122
                 (some ((⟨x101.1, (x39.1.k.set (Int.toNat x101.2.1) true), x39.1.h⟩ : Mm), x101.2.1, 3, true))
                 (some ((⟨x101.1, (x39.1.k.set (Int.toNat x101.2.1) true), x39.1.h⟩ : Mm), x101.2.1, x101.2.2.1, true)))))))
       (Option.bind (i_PutPage fl x11.m x33 x37.1 a3) fun x124 =>
          cond (!x124.2)
         (some ((⟨(⟨(⟨[], []⟩ : T), (⟨[], 0⟩ : Ca), (⟨0, 0, 0, []⟩ : Tg), 0⟩ : Mc), [], 0⟩ : Mm), 0, 0, false))
         (Option.bind (i_TouchPage fl x124.1 a1 a2) fun x143 =>
            cond (!x143.2.2.2)
           (some ((⟨(⟨(⟨[], []⟩ : T), (⟨[], 0⟩ : Ca), (⟨0, 0, 0, []⟩ : Tg), 0⟩ : Mc), [], 0⟩ : Mm), 0, 0, false))
           (Option.bind (idx x11.k x143.2.1) fun x162 =>
              Option.bind (cond (decide (x35 < 0)) (some (x143.2.2.1 == 2)) (some false)) fun y164 =>
              cond y164
             (some ((⟨x143.1, (x11.k.set (Int.toNat x143.2.1) true), x11.h⟩ : Mm), x143.2.1, 3, true))
             (some ((⟨x143.1, (x11.k.set (Int.toNat x143.2.1) true), x11.h⟩ : Mm), x143.2.1, x143.2.2.1, true))))))
     (Option.bind (i_TouchPage fl x11.m a1 a2) fun x166 =>
        cond (!x166.2.2.2)
       (some ((⟨(⟨(⟨[], []⟩ : T), (⟨[], 0⟩ : Ca), (⟨0, 0, 0, []⟩ : Tg), 0⟩ : Mc), [], 0⟩ : Mm), 0, 0, false))
       (Option.bind (idx x11.k x166.2.1) fun x185 =>
          Option.bind (cond (decide (x35 < 0)) (some (x166.2.2.1 == 2)) (some false)) fun y187 =>
          cond y187
         (some ((⟨x166.1, (x11.k.set (Int.toNat x166.2.1) true), x11.h⟩ : Mm), x166.2.1, 3, true))
         (some ((⟨x166.1, (x11.k.set (Int.toNat x166.2.1) true), x11.h⟩ : Mm), x166.2.1, x166.2.2.1, true)))))

def slices_Equal_Int_L0 (fl : Nat) (a0 : (List Int)) (a1 : (List Int)) : Nat → Int → Option (LO Int Bool)
  | 0, _ => none
  | fuel + 1, v2 => cond (decide (v2 < ((a0).length : Int)))
       (Option.bind (idx a0 v2) fun x4 =>
        Option.bind (idx a1 v2) fun x5 =>
        cond (x4 != x5)
         (some (.ret false))
         (Option.bind (ck (v2 + 1)) fun x7 =>
          slices_Equal_Int_L0 fl a0 a1 fuel x7))
       (some (.out v2))
def slices_Equal_Int (fl : Nat) (a0 : (List Int)) (a1 : (List Int)) : Option Bool :=
  cond (((a0).length : Int) != ((a1).length : Int))
   (some false)
   (Option.bind (slices_Equal_Int_L0 fl a0 a1 fl 0) fun o => match o with
      | .ret r' => some r'
      | .out v2 =>
      some true)

def slices_Equal_Frame_L0 (fl : Nat) (a0 : (List F)) (a1 : (List F)) : Nat → Int → Option (LO Int Bool)
  | 0, _ => none
  | fuel + 1, v2 => cond (decide (v2 < ((a0).length : Int)))
       (Option.bind (idx a0 v2) fun x4 =>
        Option.bind (idx a1 v2) fun x5 =>
        cond (x4 != x5)
         (some (.ret false))
         (Option.bind (ck (v2 + 1)) fun x7 =>
          slices_Equal_Frame_L0 fl a0 a1 fuel x7))
       (some (.out v2))
def slices_Equal_Frame (fl : Nat) (a0 : (List F)) (a1 : (List F)) : Option Bool :=
  cond (((a0).length : Int) != ((a1).length : Int))
   (some false)
   (Option.bind (slices_Equal_Frame_L0 fl a0 a1 fl 0) fun o => match o with
      | .ret r' => some r'
      | .out v2 =>
      some true)

def i_TableSame (fl : Nat) (a0 : T) (a1 : T) : Option Bool :=
  Option.bind (slices_Equal_Int fl a0.b a1.b) fun x3 =>
    Option.bind (cond x3 (Option.bind (slices_Equal_Frame fl a0.f a1.f) fun x5 =>
    some x5) (some false)) fun y4 =>
    some y4

def slices_Equal_Line_L0 (fl : Nat) (a0 : (List Ln)) (a1 : (List Ln)) : Nat → Int → Option (LO Int Bool)
  | 0, _ => none
  | fuel + 1, v2 => cond (decide (v2 < ((a0).length : Int)))
       (Option.bind (idx a0 v2) fun x4 =>
        Option.bind (idx a1 v2) fun x5 =>
        cond (x4 != x5)
         (some (.ret false))
         (Option.bind (ck (v2 + 1)) fun x7 =>
          slices_Equal_Line_L0 fl a0 a1 fuel x7))
       (some (.out v2))
def slices_Equal_Line (fl : Nat) (a0 : (List Ln)) (a1 : (List Ln)) : Option Bool :=
  cond (((a0).length : Int) != ((a1).length : Int))
   (some false)
   (Option.bind (slices_Equal_Line_L0 fl a0 a1 fl 0) fun o => match o with
      | .ret r' => some r'
      | .out v2 =>
      some true)

def i_CacheSame (fl : Nat) (a0 : Ca) (a1 : Ca) : Option Bool :=
  Option.bind (cond (a0.h == a1.h) (Option.bind (slices_Equal_Line fl a0.l a1.l) fun x4 =>
    some x4) (some false)) fun y3 =>
    some y3

def slices_Equal_Own_L0 (fl : Nat) (a0 : (List Ow)) (a1 : (List Ow)) : Nat → Int → Option (LO Int Bool)
  | 0, _ => none
  | fuel + 1, v2 => cond (decide (v2 < ((a0).length : Int)))
       (Option.bind (idx a0 v2) fun x4 =>
        Option.bind (idx a1 v2) fun x5 =>
        cond (x4 != x5)
         (some (.ret false))
         (Option.bind (ck (v2 + 1)) fun x7 =>
          slices_Equal_Own_L0 fl a0 a1 fuel x7))
       (some (.out v2))
def slices_Equal_Own (fl : Nat) (a0 : (List Ow)) (a1 : (List Ow)) : Option Bool :=
  cond (((a0).length : Int) != ((a1).length : Int))
   (some false)
   (Option.bind (slices_Equal_Own_L0 fl a0 a1 fl 0) fun o => match o with
      | .ret r' => some r'
      | .out v2 =>
      some true)

def i_TagsSame (fl : Nat) (a0 : Tg) (a1 : Tg) : Option Bool :=
  Option.bind (cond (a0.c == a1.c) (some (a0.n == a1.n)) (some false)) fun y3 =>
    Option.bind (cond y3 (some (a0.r == a1.r)) (some false)) fun y4 =>
    Option.bind (cond y4 (Option.bind (slices_Equal_Own fl a0.o a1.o) fun x6 =>
    some x6) (some false)) fun y5 =>
    some y5

def i_MachineSame (fl : Nat) (a0 : Mc) (a1 : Mc) : Option Bool :=
  Option.bind (i_TableSame fl a0.t a1.t) fun x3 =>
    Option.bind (cond x3 (Option.bind (i_CacheSame fl a0.c a1.c) fun x5 =>
    some x5) (some false)) fun y4 =>
    Option.bind (cond y4 (Option.bind (i_TagsSame fl a0.g a1.g) fun x7 =>
    some x7) (some false)) fun y6 =>
    Option.bind (cond y6 (some (a0.s == a1.s)) (some false)) fun y8 =>
    some y8

def slices_Equal_Bool_L0 (fl : Nat) (a0 : (List Bool)) (a1 : (List Bool)) : Nat → Int → Option (LO Int Bool)
  | 0, _ => none
  | fuel + 1, v2 => cond (decide (v2 < ((a0).length : Int)))
       (Option.bind (idx a0 v2) fun x4 =>
        Option.bind (idx a1 v2) fun x5 =>
        cond (x4 != x5)
         (some (.ret false))
         (Option.bind (ck (v2 + 1)) fun x7 =>
          slices_Equal_Bool_L0 fl a0 a1 fuel x7))
       (some (.out v2))
def slices_Equal_Bool (fl : Nat) (a0 : (List Bool)) (a1 : (List Bool)) : Option Bool :=
  cond (((a0).length : Int) != ((a1).length : Int))
   (some false)
   (Option.bind (slices_Equal_Bool_L0 fl a0 a1 fl 0) fun o => match o with
      | .ret r' => some r'
      | .out v2 =>
      some true)

def i_MemorySame (fl : Nat) (a0 : Mm) (a1 : Mm) : Option Bool :=
  Option.bind (i_MachineSame fl a0.m a1.m) fun x3 =>
    Option.bind (cond x3 (Option.bind (slices_Equal_Bool fl a0.k a1.k) fun x5 =>
    some x5) (some false)) fun y4 =>
    Option.bind (cond y4 (some (a0.h == a1.h)) (some false)) fun y6 =>
    some y6

def i_Table_chain_L0 (fl : Nat) (a0 : T) : Nat → (List Int) → Int → Option (LO ((List Int) × Int) ((List Int)))
  | 0, _, _ => none
  | fuel + 1, v3, v8 => cond (v8 != (-1))
       (Option.bind (cnt (v3 ++ [v8])) fun x12 =>
        Option.bind (idx a0.f v8) fun x16 =>
        i_Table_chain_L0 fl a0 fuel x12 x16.nx)
       (some (.out (v3, v8)))
def i_Table_chain (fl : Nat) (a0 : T) (a1 : Int) : Option (List Int) :=
  Option.bind (idx a0.b a1) fun x2 =>
    Option.bind (i_Table_chain_L0 fl a0 fl ([]) x2) fun o => match o with
    | .ret r' => some r'
    | .out (v3, v8) =>
    some v3

def i_FindPage_L0 (fl : Nat) (a0 : T) (a1 : K) (x8 : ((List Int))) : Nat → Int → Option (LO Int (Int × Int × Bool))
  | 0, _ => none
  | fuel + 1, v13 => cond (decide (v13 < ((x8).length : Int)))
       (Option.bind (idx x8 v13) fun x15 =>
        Option.bind (idx a0.f x15) fun x16 =>
        cond (x16.k == a1)
         (Option.bind (ck (v13 + 1)) fun x18 =>
          some (.ret (x15, x18, true)))
         (Option.bind (ck (v13 + 1)) fun x19 =>
          i_FindPage_L0 fl a0 a1 x8 fuel x19))
       (some (.out v13))
def i_FindPage (fl : Nat) (a0 : T) (a1 : K) : Option (Int × Int × Bool) :=
  Option.bind (i_TableValid fl a0) fun x3 =>
    Option.bind (cond (!x3) (some true) (Option.bind (i_KeyValid fl a1) fun x5 =>
    some (!x5))) fun y4 =>
    cond y4
   (some (0, 0, false))
   (Option.bind (i_hash fl a1 ((a0.b).length : Int)) fun x7 =>
      Option.bind (i_Table_chain fl a0 x7) fun x8 =>
      Option.bind (i_FindPage_L0 fl a0 a1 x8 fl 0) fun o => match o with
      | .ret r' => some r'
      | .out v13 =>
      some (0, ((x8).length : Int), false))

def l_FnUseRights (fl : Nat) (a0 : (List UInt8)) : Option Bool :=
  cond (decide (1048576 < ((a0).length : Int)))
   (some true)
   (Option.bind (s_DrawUsePage fl a0) fun x2 =>
      Option.bind (i_UsePage fl x2.1 x2.2.1 x2.2.2.1 x2.2.2.2) fun x24 =>
      Option.bind (s_UsePage fl x2.1 x2.2.1 x2.2.2.1 x2.2.2.2) fun x46 =>
      Option.bind (i_MemorySame fl x24.1 x46.1) fun x68 =>
      Option.bind (cond (!x68) (some true) (some (x24.2.1 != x46.2.1))) fun y69 =>
      Option.bind (cond y69 (some true) (some (x24.2.2.1 != x46.2.2.1))) fun y70 =>
      Option.bind (cond y70 (some true) (some (x24.2.2.2 != x46.2.2.2))) fun y71 =>
      Option.bind (cond y71 (some true) (some (!x24.2.2.2))) fun y72 =>
      cond y72
     (Option.bind (cond x68 (some (x24.2.1 == x46.2.1)) (some false)) fun y74 =>
        Option.bind (cond y74 (some (x24.2.2.1 == x46.2.2.1)) (some false)) fun y75 =>
        Option.bind (cond y75 (some (x24.2.2.2 == x46.2.2.2)) (some false)) fun y76 =>
        some y76)
     (Option.bind (i_KeyFor fl x2.1.m.s x2.2.1) fun x77 =>
        Option.bind (i_FindPage fl x2.1.m.t x77) fun x78 =>
        Option.bind (idx x24.1.m.t.f x24.2.1) fun x79 =>
        Option.bind (cond x78.2.2 (Option.bind (idx x2.1.m.t.f x78.1) fun x81 =>
        some (x79.r == x81.r)) (some false)) fun y80 =>
        Option.bind (cond y80 (some true) (Option.bind (cond (!x78.2.2) (some (x79.r == x2.2.2.2)) (some false)) fun y83 =>
        Option.bind (cond y83 (Option.bind (cond (x24.2.2.1 == 3) (some true) (some (x24.2.2.1 == 4))) fun y85 =>
        some y85) (some false)) fun y84 =>
        some y84)) fun y82 =>
        some y82))

def s_DrawUsePages (fl : Nat) (a0 : (List UInt8)) : Option (Mm × (List Int)) :=
  Option.bind (s_l7Case fl a0) fun x2 =>
    Option.bind (s_l7Pages fl (a0.take 2000) 0) fun x25 =>
    Option.bind (s_l12Rd_pick fl (a0.take 2000) x25.2 16) fun x30 =>
    cond (x30.1 == 0)
   (Option.bind (s_l12Rd_num fl (a0.take 2000) x30.2 ([(-1), 256])) fun x34 =>
      Option.bind (cnt (x25.1 ++ [x34.1])) fun x37 =>
      some (x2, x37))
   (some (x2, x25.1))

def i_UsePages_L0 (fl : Nat) (a1 : (List Int)) : Nat → (List Int) → (List F) → Int → (List Ln) → Int → Int → Int → Int → (List Ow) → Int → (List Bool) → (List Int) → Int → Option (LO ((List Int) × (List F) × Int × (List Ln) × Int × Int × Int × Int × (List Ow) × Int × (List Bool) × (List Int) × Int) (Mm × (List Int) × Bool))
  | 0, _, _, _, _, _, _, _, _, _, _, _, _, _ => none
  | fuel + 1, v31, v36, v41, v42, v47, v48, v49, v50, v51, v56, v57, v62, v64 => cond (decide (v64 < ((a1).length : Int)))
       (Option.bind (idx a1 v64) fun x66 =>
        Option.bind (i_UsePage fl (⟨(⟨(⟨v31, v36⟩ : T), (⟨v42, v47⟩ : Ca), (⟨v48, v49, v50, v51⟩ : Tg), v56⟩ : Mc), v57, v41⟩ : Mm) x66 1 1) fun x67 =>
        cond (!x67.2.2.2)
         (some (.ret ((⟨(⟨(⟨[], []⟩ : T), (⟨[], 0⟩ : Ca), (⟨0, 0, 0, []⟩ : Tg), 0⟩ : Mc), [], 0⟩ : Mm), [], false)))
         (Option.bind (idx v62 x67.2.2.1) fun x90 =>
          Option.bind (ck (x90 + 1)) fun x91 =>
          Option.bind (ck (v64 + 1)) fun x93 =>
          i_UsePages_L0 fl a1 fuel x67.1.m.t.b x67.1.m.t.f x67.1.h x67.1.m.c.l x67.1.m.c.h x67.1.m.g.c x67.1.m.g.n x67.1.m.g.r x67.1.m.g.o x67.1.m.s x67.1.k (v62.set (Int.toNat x67.2.2.1) x91) x93))
       (some (.out (v31, v36, v41, v42, v47, v48, v49, v50, v51, v56, v57, v62, v64)))
def i_UsePages (fl : Nat) (a0 : Mm) (a1 : (List Int)) : Option (Mm × (List Int) × Bool) :=
  Option.bind (i_MemoryValid fl a0) fun x3 =>
    Option.bind (cond (!x3) (some true) (some (decide (64 < ((a1).length : Int))))) fun y4 =>
    cond y4
   (some ((⟨(⟨(⟨[], []⟩ : T), (⟨[], 0⟩ : Ca), (⟨0, 0, 0, []⟩ : Tg), 0⟩ : Mc), [], 0⟩ : Mm), [], false))
   (Option.bind (i_Memory_clone fl a0) fun x6 =>
      Option.bind (mkO 5) fun x28 =>
      Option.bind (i_UsePages_L0 fl a1 fl x6.m.t.b x6.m.t.f x6.h x6.m.c.l x6.m.c.h x6.m.g.c x6.m.g.n x6.m.g.r x6.m.g.o x6.m.s x6.k (List.replicate x28 (0 : Int)) 0) fun o => match o with
      | .ret r' => some r'
      | .out (v31, v36, v41, v42, v47, v48, v49, v50, v51, v56, v57, v62, v64) =>
      some ((⟨(⟨(⟨v31, v36⟩ : T), (⟨v42, v47⟩ : Ca), (⟨v48, v49, v50, v51⟩ : Tg), v56⟩ : Mc), v57, v41⟩ : Mm), v62, true))

def l_ipInts_L0 (fl : Nat) (a0 : (List Int)) (a1 : (List Int)) : Nat → Int → Option (LO Int Bool)
  | 0, _ => none
  | fuel + 1, v2 => cond (decide (v2 < ((a0).length : Int)))
       (Option.bind (idx a0 v2) fun x4 =>
        Option.bind (idx a1 v2) fun x5 =>
        cond (x4 != x5)
         (some (.ret false))
         (Option.bind (ck (v2 + 1)) fun x7 =>
          l_ipInts_L0 fl a0 a1 fuel x7))
       (some (.out v2))
def l_ipInts (fl : Nat) (a0 : (List Int)) (a1 : (List Int)) : Option Bool :=
  cond (((a0).length : Int) != ((a1).length : Int))
   (some false)
   (Option.bind (l_ipInts_L0 fl a0 a1 fl 0) fun o => match o with
      | .ret r' => some r'
      | .out v2 =>
      some true)

def l_FnUseMachine (fl : Nat) (a0 : (List UInt8)) : Option Bool :=
  cond (decide (1048576 < ((a0).length : Int)))
   (some true)
   (Option.bind (s_DrawUsePages fl a0) fun x2 =>
      Option.bind (i_UsePages fl x2.1 x2.2) fun x28 =>
      Option.bind (s_UsePages fl x2.1 x2.2) fun x54 =>
      Option.bind (i_MemorySame fl x28.1 x54.1) fun x80 =>
      Option.bind (cond (!x80) (some true) (Option.bind (l_ipInts fl x28.2.1 x54.2.1) fun x82 =>
      some (!x82))) fun y81 =>
      Option.bind (cond y81 (some true) (some (x28.2.2 != x54.2.2))) fun y83 =>
      Option.bind (cond y83 (some true) (some (!x28.2.2))) fun y84 =>
      cond y84
     (Option.bind (cond x80 (Option.bind (l_ipInts fl x28.2.1 x54.2.1) fun x87 =>
        some x87) (some false)) fun y86 =>
        Option.bind (cond y86 (some (x28.2.2 == x54.2.2)) (some false)) fun y88 =>
        some y88)
     (Option.bind (i_TagsSame fl x28.1.m.g x2.1.m.g) fun x89 =>
        Option.bind (cond x89 (some (x28.1.m.s == x2.1.m.s)) (some false)) fun y90 =>
        Option.bind (cond y90 (some (((x28.1.k).length : Int) == ((x2.1.k).length : Int))) (some false)) fun y91 =>
        Option.bind (cond y91 (Option.bind (cond (decide (0 < ((x2.2).length : Int))) (some true) (Option.bind (i_MemorySame fl x28.1 x2.1) fun x94 =>
        some x94)) fun y93 =>
        some y93) (some false)) fun y92 =>
        some y92))

def l_FnUseTrace_L1 (fl : Nat) (x2 : (Mm × (List Int))) (v90 : Int) : Nat → Bool → Int → Option (LO (Bool × Int) Bool)
  | 0, _, _ => none
  | fuel + 1, v92, v93 => cond (decide (v93 < v90))
       (Option.bind (cond v92 (Option.bind (idx x2.2 v93) fun x96 =>
        Option.bind (idx x2.2 v90) fun x97 =>
        some (x96 != x97)) (some false)) fun y95 =>
        Option.bind (ck (v93 + 1)) fun x98 =>
        l_FnUseTrace_L1 fl x2 v90 fuel y95 x98)
       (some (.out (v92, v93)))
def l_FnUseTrace_L0 (fl : Nat) (x2 : (Mm × (List Int))) : Nat → Int → Int → Option (LO (Int × Int) Bool)
  | 0, _, _ => none
  | fuel + 1, v89, v90 => cond (decide (v90 < ((x2.2).length : Int)))
       (Option.bind (l_FnUseTrace_L1 fl x2 v90 fl true 0) fun o => match o with
        | .ret r' => some (.ret r')
        | .out (v92, v93) =>
        Option.bind (idx x2.2 v90) fun x99 =>
        Option.bind (i_KeyFor fl x2.1.m.s x99) fun x100 =>
        Option.bind (i_FindPage fl x2.1.m.t x100) fun x101 =>
        Option.bind (cond v92 (some (!x101.2.2)) (some false)) fun y102 =>
        cond y102
         (Option.bind (ck (v89 + 1)) fun x104 =>
          Option.bind (ck (v90 + 1)) fun x105 =>
          l_FnUseTrace_L0 fl x2 fuel x104 x105)
         (Option.bind (ck (v90 + 1)) fun x106 =>
          l_FnUseTrace_L0 fl x2 fuel v89 x106))
       (some (.out (v89, v90)))
def l_FnUseTrace (fl : Nat) (a0 : (List UInt8)) : Option Bool :=
  cond (decide (1048576 < ((a0).length : Int)))
   (some true)
   (Option.bind (s_DrawUsePages fl a0) fun x2 =>
      Option.bind (i_UsePages fl x2.1 x2.2) fun x28 =>
      Option.bind (s_UsePages fl x2.1 x2.2) fun x54 =>
      Option.bind (i_MemorySame fl x28.1 x54.1) fun x80 =>
      Option.bind (cond (!x80) (some true) (Option.bind (l_ipInts fl x28.2.1 x54.2.1) fun x82 =>
      some (!x82))) fun y81 =>
      Option.bind (cond y81 (some true) (some (x28.2.2 != x54.2.2))) fun y83 =>
      Option.bind (cond y83 (some true) (some (!x28.2.2))) fun y84 =>
      cond y84
     (Option.bind (cond x80 (Option.bind (l_ipInts fl x28.2.1 x54.2.1) fun x87 =>
        some x87) (some false)) fun y86 =>
        Option.bind (cond y86 (some (x28.2.2 == x54.2.2)) (some false)) fun y88 =>
        some y88)
     (Option.bind (l_FnUseTrace_L0 fl x2 fl 0 0) fun o => match o with
        | .ret r' => some r'
        | .out (v89, v90) =>
        Option.bind (idx x28.2.1 3) fun x107 =>
        some (decide (v89 ≤ x107))))
end
end Go.Proofs.YtbfbfkpcabkchaaGreatDoor
