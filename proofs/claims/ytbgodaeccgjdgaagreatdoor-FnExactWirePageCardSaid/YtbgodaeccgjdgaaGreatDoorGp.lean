/- The pure functions: what each function of the program computes, in plain Lean. Printed by a program (gen.py). -/
import Derived.Test.YtbgodaeccgjdgaaGreatDoorE7
import Derived.Test.YtbgodaeccgjdgaaGreatDoorDat
import Derived.Test.YtbgodaeccgjdgaaGreatDoorPure
import Derived.Test.YtbgodaeccgjdgaaGreatDoorMap
set_option linter.unusedSimpArgs false
set_option linter.unusedVariables false
set_option linter.unusedSectionVars false
namespace Go.Proofs.YtbgodaeccgjdgaaGreatDoor
open Go.RowKit
noncomputable section
def l_szIntS (fl : Nat) (a0 : (List Int)) (a1 : Int) : Option Int :=
  Option.bind (ck (a1 - ((a0).length : Int))) fun x1 =>
    cond (decide (x1 < 0))
   (some (-1))
   (some x1)

def l_szFrameS (fl : Nat) (a0 : (List F)) (a1 : Int) : Option Int :=
  Option.bind (ck (a1 - ((a0).length : Int))) fun x1 =>
    cond (decide (x1 < 0))
   (some (-1))
   (some x1)

def l_szTable (fl : Nat) (a0 : T) (a1 : Int) : Option Int :=
  Option.bind (l_szIntS fl a0.b a1) fun x2 =>
    cond (decide (x2 < 0))
   (some (-1))
   (Option.bind (l_szFrameS fl a0.f x2) fun x4 =>
      cond (decide (x4 < 0))
     (some (-1))
     (some x4))

def l_szLineS (fl : Nat) (a0 : (List Ln)) (a1 : Int) : Option Int :=
  Option.bind (ck (a1 - ((a0).length : Int))) fun x1 =>
    cond (decide (x1 < 0))
   (some (-1))
   (some x1)

def l_szCache (fl : Nat) (a0 : Ca) (a1 : Int) : Option Int :=
  Option.bind (l_szLineS fl a0.l a1) fun x2 =>
    cond (decide (x2 < 0))
   (some (-1))
   (some x2)

def l_szOwnS (fl : Nat) (a0 : (List Ow)) (a1 : Int) : Option Int :=
  Option.bind (ck (a1 - ((a0).length : Int))) fun x1 =>
    cond (decide (x1 < 0))
   (some (-1))
   (some x1)

def l_szTags (fl : Nat) (a0 : Tg) (a1 : Int) : Option Int :=
  Option.bind (l_szOwnS fl a0.o a1) fun x2 =>
    cond (decide (x2 < 0))
   (some (-1))
   (some x2)

def l_szMachine (fl : Nat) (a0 : Mc) (a1 : Int) : Option Int :=
  Option.bind (l_szTable fl a0.t a1) fun x2 =>
    cond (decide (x2 < 0))
   (some (-1))
   (Option.bind (l_szCache fl a0.c x2) fun x4 =>
      cond (decide (x4 < 0))
     (some (-1))
     (Option.bind (l_szTags fl a0.g x4) fun x6 =>
        cond (decide (x6 < 0))
       (some (-1))
       (some x6)))

def l_toIntS_L0 (fl : Nat) (a0 : (List Int)) : Nat → (List Int) → Int → Option (LO ((List Int) × Int) ((List Int)))
  | 0, _, _ => none
  | fuel + 1, v4, v6 => cond (decide (v6 < ((a0).length : Int)))
     (Option.bind (idx a0 v6) fun x8 =>
        Option.bind (idx v4 v6) fun x9 =>
        Option.bind (ck (v6 + 1)) fun x11 =>
        l_toIntS_L0 fl a0 fuel (v4.set (Int.toNat v6) x8) x11)
     (some (.out (v4, v6)))
def l_toIntS (fl : Nat) (a0 : (List Int)) : Option (List Int) :=
  Option.bind (mkO ((a0).length : Int)) fun x1 =>
    Option.bind (l_toIntS_L0 fl a0 fl (List.replicate x1 (0 : Int)) 0) fun o => match o with
    | .ret r' => some r'
    | .out (v4, v6) =>
    some v4

def l_toKey (fl : Nat) (a0 : K) : Option K :=
  some a0

def l_toFrame (fl : Nat) (a0 : F) : Option F :=
  Option.bind (l_toKey fl a0.k) fun x4 =>
    some (⟨a0.u, x4, a0.r, a0.nx⟩ : F)

def l_toFrameS_L0 (fl : Nat) (a0 : (List F)) : Nat → (List F) → Int → Option (LO ((List F) × Int) ((List F)))
  | 0, _, _ => none
  | fuel + 1, v4, v6 => cond (decide (v6 < ((a0).length : Int)))
     (Option.bind (idx a0 v6) fun x8 =>
        Option.bind (l_toFrame fl x8) fun x9 =>
        Option.bind (idx v4 v6) fun x10 =>
        Option.bind (ck (v6 + 1)) fun x12 =>
        l_toFrameS_L0 fl a0 fuel (v4.set (Int.toNat v6) x9) x12)
     (some (.out (v4, v6)))
def l_toFrameS (fl : Nat) (a0 : (List F)) : Option (List F) :=
  Option.bind (mkO ((a0).length : Int)) fun x1 =>
    Option.bind (l_toFrameS_L0 fl a0 fl (List.replicate x1 (⟨false, (⟨0, 0⟩ : K), 0, 0⟩ : F)) 0) fun o => match o with
    | .ret r' => some r'
    | .out (v4, v6) =>
    some v4

def l_toTable (fl : Nat) (a0 : T) : Option T :=
  Option.bind (l_toIntS fl a0.b) fun x4 =>
    Option.bind (l_toFrameS fl a0.f) fun x9 =>
    some (⟨x4, x9⟩ : T)

def l_toLine (fl : Nat) (a0 : Ln) : Option Ln :=
  some a0

def l_toLineS_L0 (fl : Nat) (a0 : (List Ln)) : Nat → (List Ln) → Int → Option (LO ((List Ln) × Int) ((List Ln)))
  | 0, _, _ => none
  | fuel + 1, v4, v6 => cond (decide (v6 < ((a0).length : Int)))
     (Option.bind (idx a0 v6) fun x8 =>
        Option.bind (l_toLine fl x8) fun x9 =>
        Option.bind (idx v4 v6) fun x10 =>
        Option.bind (ck (v6 + 1)) fun x12 =>
        l_toLineS_L0 fl a0 fuel (v4.set (Int.toNat v6) x9) x12)
     (some (.out (v4, v6)))
def l_toLineS (fl : Nat) (a0 : (List Ln)) : Option (List Ln) :=
  Option.bind (mkO ((a0).length : Int)) fun x1 =>
    Option.bind (l_toLineS_L0 fl a0 fl (List.replicate x1 (⟨false, 0, 0, 0, 0, false⟩ : Ln)) 0) fun o => match o with
    | .ret r' => some r'
    | .out (v4, v6) =>
    some v4

def l_toCache (fl : Nat) (a0 : Ca) : Option Ca :=
  Option.bind (l_toLineS fl a0.l) fun x4 =>
    some (⟨x4, a0.h⟩ : Ca)

def l_toOwn (fl : Nat) (a0 : Ow) : Option Ow :=
  some a0

def l_toOwnS_L0 (fl : Nat) (a0 : (List Ow)) : Nat → (List Ow) → Int → Option (LO ((List Ow) × Int) ((List Ow)))
  | 0, _, _ => none
  | fuel + 1, v4, v6 => cond (decide (v6 < ((a0).length : Int)))
     (Option.bind (idx a0 v6) fun x8 =>
        Option.bind (l_toOwn fl x8) fun x9 =>
        Option.bind (idx v4 v6) fun x10 =>
        Option.bind (ck (v6 + 1)) fun x12 =>
        l_toOwnS_L0 fl a0 fuel (v4.set (Int.toNat v6) x9) x12)
     (some (.out (v4, v6)))
def l_toOwnS (fl : Nat) (a0 : (List Ow)) : Option (List Ow) :=
  Option.bind (mkO ((a0).length : Int)) fun x1 =>
    Option.bind (l_toOwnS_L0 fl a0 fl (List.replicate x1 (⟨0, 0⟩ : Ow)) 0) fun o => match o with
    | .ret r' => some r'
    | .out (v4, v6) =>
    some v4

def l_toTags (fl : Nat) (a0 : Tg) : Option Tg :=
  Option.bind (l_toOwnS fl a0.o) fun x4 =>
    some (⟨a0.c, a0.n, a0.r, x4⟩ : Tg)

def l_toMachine (fl : Nat) (a0 : Mc) : Option Mc :=
  Option.bind (l_toTable fl a0.t) fun x4 =>
    Option.bind (l_toCache fl a0.c) fun x13 =>
    Option.bind (l_toTags fl a0.g) fun x18 =>
    some (⟨x4, x13, x18, a0.s⟩ : Mc)

def s_TableValid (fl : Nat) (a0 : T) : Option Bool := some (tableOk a0)

def s_l1Page (fl : Nat) (a0 : Int) : Option Bool :=
  Option.bind (cond (decide (0 ≤ a0)) (some (decide (a0 < 256))) (some false)) fun y1 =>
    some y1

def s_RightsValid (fl : Nat) (a0 : Int) : Option Bool :=
  Option.bind (cond (decide (0 ≤ a0)) (some (decide (a0 ≤ 7))) (some false)) fun y1 =>
    some y1

def s_l4Line (fl : Nat) (a0 : Ln) : Option Bool :=
  cond (!a0.va)
   (some (a0 == (⟨false, 0, 0, 0, 0, false⟩ : Ln)))
   (Option.bind (cond (decide ((-1) ≤ a0.tg)) (some (decide (a0.tg < 8))) (some false)) fun y3 =>
      Option.bind (cond y3 (Option.bind (s_l1Page fl a0.pg) fun x5 =>
      some x5) (some false)) fun y4 =>
      Option.bind (cond y4 (some (decide (0 ≤ a0.fr))) (some false)) fun y6 =>
      Option.bind (cond y6 (some (decide (a0.fr < 16))) (some false)) fun y7 =>
      Option.bind (cond y7 (Option.bind (s_RightsValid fl a0.ri) fun x9 =>
      some x9) (some false)) fun y8 =>
      some y8)

def s_CacheValid_L1 (fl : Nat) (a0 : Ca) (v7 : Int) (x9 : Ln) : Nat → Int → Option (LO Int Bool)
  | 0, _ => none
  | fuel + 1, v15 => cond (decide (v15 < v7))
     (Option.bind (idx a0.l v15) fun x17 =>
        Option.bind (cond x9.va (some x17.va) (some false)) fun y19 =>
        Option.bind (cond y19 (some (x9.pg == x17.pg)) (some false)) fun y20 =>
        Option.bind (cond y20 (Option.bind (cond (x9.tg == x17.tg) (some true) (some (x9.tg == (-1)))) fun y22 =>
        Option.bind (cond y22 (some true) (some (x17.tg == (-1)))) fun y23 =>
        some y23) (some false)) fun y21 =>
        cond y21
       (some (.ret false))
       (Option.bind (ck (v15 + 1)) fun x25 =>
          s_CacheValid_L1 fl a0 v7 x9 fuel x25))
     (some (.out v15))
def s_CacheValid_L2 (fl : Nat) (a0 : Ca) (v7 : Int) (x9 : Ln) : Nat → Int → Option (LO Int Bool)
  | 0, _ => none
  | fuel + 1, v27 => cond (decide (v27 < v7))
     (Option.bind (idx a0.l v27) fun x29 =>
        Option.bind (cond x9.va (some x29.va) (some false)) fun y31 =>
        Option.bind (cond y31 (some (x9.pg == x29.pg)) (some false)) fun y32 =>
        Option.bind (cond y32 (Option.bind (cond (x9.tg == x29.tg) (some true) (some (x9.tg == (-1)))) fun y34 =>
        Option.bind (cond y34 (some true) (some (x29.tg == (-1)))) fun y35 =>
        some y35) (some false)) fun y33 =>
        cond y33
       (some (.ret false))
       (Option.bind (ck (v27 + 1)) fun x37 =>
          s_CacheValid_L2 fl a0 v7 x9 fuel x37))
     (some (.out v27))
def s_CacheValid_L0 (fl : Nat) (a0 : Ca) : Nat → Int → Int → Option (LO (Int × Int) Bool)
  | 0, _, _ => none
  | fuel + 1, v6, v7 => cond (decide (v7 < ((a0.l).length : Int)))
     (Option.bind (idx a0.l v7) fun x9 =>
        Option.bind (s_l4Line fl x9) fun x11 =>
        cond (!x11)
       (some (.ret false))
       (cond (!x9.wi)
         (Option.bind (ck (v6 + 1)) fun x14 =>
            Option.bind (s_CacheValid_L1 fl a0 v7 x9 fl 0) fun o => match o with
            | .ret r' => some (.ret r')
            | .out v15 =>
            Option.bind (ck (v7 + 1)) fun x26 =>
            s_CacheValid_L0 fl a0 fuel x14 x26)
         (Option.bind (s_CacheValid_L2 fl a0 v7 x9 fl 0) fun o => match o with
            | .ret r' => some (.ret r')
            | .out v27 =>
            Option.bind (ck (v7 + 1)) fun x38 =>
            s_CacheValid_L0 fl a0 fuel v6 x38)))
     (some (.out (v6, v7)))
def s_CacheValid (fl : Nat) (a0 : Ca) : Option Bool :=
  Option.bind (cond (decide (((a0.l).length : Int) < 1)) (some true) (some (decide (8 < ((a0.l).length : Int))))) fun y2 =>
    Option.bind (cond y2 (some true) (some (decide (a0.h < 0)))) fun y3 =>
    Option.bind (cond y3 (some true) (some (decide (((a0.l).length : Int) ≤ a0.h)))) fun y4 =>
    cond y4
   (some false)
   (Option.bind (s_CacheValid_L0 fl a0 fl 0 0) fun o => match o with
      | .ret r' => some r'
      | .out (v6, v7) =>
      some (decide (0 < v6)))

def s_l1Space (fl : Nat) (a0 : Int) : Option Bool :=
  Option.bind (cond (decide (0 ≤ a0)) (some (decide (a0 < 16))) (some false)) fun y1 =>
    some y1

def s_TagsValid_L1 (fl : Nat) (a0 : Tg) (v9 : Int) (x11 : Ow) : Nat → Int → Option (LO Int Bool)
  | 0, _ => none
  | fuel + 1, v21 => cond (decide (v21 < v9))
     (Option.bind (idx a0.o v21) fun x23 =>
        cond (x23.sp == x11.sp)
       (some (.ret false))
       (Option.bind (ck (v21 + 1)) fun x25 =>
          s_TagsValid_L1 fl a0 v9 x11 fuel x25))
     (some (.out v21))
def s_TagsValid_L0 (fl : Nat) (a0 : Tg) : Nat → Int → Option (LO Int Bool)
  | 0, _ => none
  | fuel + 1, v9 => cond (decide (v9 < ((a0.o).length : Int)))
     (Option.bind (idx a0.o v9) fun x11 =>
        Option.bind (s_l1Space fl x11.sp) fun x13 =>
        Option.bind (cond (!x13) (some true) (some (decide (x11.tg < 0)))) fun y14 =>
        Option.bind (cond y14 (some true) (some (decide (a0.n ≤ x11.tg)))) fun y15 =>
        Option.bind (cond y15 (some true) (Option.bind (cond (decide (0 < v9)) (Option.bind (ck (v9 - 1)) fun x18 =>
        Option.bind (idx a0.o x18) fun x19 =>
        some (decide (x11.tg ≤ x19.tg))) (some false)) fun y17 =>
        some y17)) fun y16 =>
        cond y16
       (some (.ret false))
       (Option.bind (s_TagsValid_L1 fl a0 v9 x11 fl 0) fun o => match o with
          | .ret r' => some (.ret r')
          | .out v21 =>
          Option.bind (ck (v9 + 1)) fun x26 =>
          s_TagsValid_L0 fl a0 fuel x26))
     (some (.out v9))
def s_TagsValid (fl : Nat) (a0 : Tg) : Option Bool :=
  Option.bind (cond (decide (a0.c < 1)) (some true) (some (decide (8 < a0.c)))) fun y2 =>
    Option.bind (cond y2 (some true) (some (decide (a0.n < 0)))) fun y3 =>
    Option.bind (cond y3 (some true) (some (decide (a0.c < a0.n)))) fun y4 =>
    Option.bind (cond y4 (some true) (some (decide (a0.r < 0)))) fun y5 =>
    Option.bind (cond y5 (some true) (some (decide (1000000 < a0.r)))) fun y6 =>
    Option.bind (cond y6 (some true) (some (decide (a0.n < ((a0.o).length : Int))))) fun y7 =>
    cond y7
   (some false)
   (Option.bind (s_TagsValid_L0 fl a0 fl 0) fun o => match o with
      | .ret r' => some r'
      | .out v9 =>
      some true)

def s_l5Find_L0 (fl : Nat) (a0 : Tg) (a1 : Int) : Nat → Int → Option (LO Int Int)
  | 0, _ => none
  | fuel + 1, v2 => cond (decide (v2 < ((a0.o).length : Int)))
     (Option.bind (idx a0.o v2) fun x4 =>
        cond (x4.sp == a1)
       (some (.ret v2))
       (Option.bind (ck (v2 + 1)) fun x6 =>
          s_l5Find_L0 fl a0 a1 fuel x6))
     (some (.out v2))
def s_l5Find (fl : Nat) (a0 : Tg) (a1 : Int) : Option Int :=
  Option.bind (s_l5Find_L0 fl a0 a1 fl 0) fun o => match o with
    | .ret r' => some r'
    | .out v2 =>
    some (-1)

def s_SpaceOf_L0 (fl : Nat) (a0 : Tg) (a1 : Int) : Nat → Int → Option (LO Int (Int × Bool))
  | 0, _ => none
  | fuel + 1, v2 => Option.bind (cond (decide (v2 < ((a0.o).length : Int))) (Option.bind (s_TagsValid fl a0) fun x4 =>
      some x4) (some false)) fun y3 =>
      cond y3
     (Option.bind (idx a0.o v2) fun x6 =>
        cond (x6.tg == a1)
       (some (.ret (x6.sp, true)))
       (Option.bind (ck (v2 + 1)) fun x8 =>
          s_SpaceOf_L0 fl a0 a1 fuel x8))
     (some (.out v2))
def s_SpaceOf (fl : Nat) (a0 : Tg) (a1 : Int) : Option (Int × Bool) :=
  Option.bind (s_SpaceOf_L0 fl a0 a1 fl 0) fun o => match o with
    | .ret r' => some r'
    | .out v2 =>
    some (0, false)

def s_KeyFor (fl : Nat) (a0 : Int) (a1 : Int) : Option K :=
  cond (decide (128 ≤ a1))
   (some (⟨0, a1⟩ : K))
   (some (⟨a0, a1⟩ : K))

def s_l2Hash (fl : Nat) (a0 : K) (a1 : Int) : Option Int :=
  Option.bind (ck (a0.s * 256)) fun x2 =>
    Option.bind (ck (x2 + a0.p)) fun x3 =>
    Option.bind (ck (x3 * 2654435761)) fun x4 =>
    Option.bind (remO x4 4294967296) fun x5 =>
    Option.bind (ck (x5 * a1)) fun x6 =>
    Option.bind (quoO x6 4294967296) fun x7 =>
    some x7

def s_l3Chain_L0 (fl : Nat) (a0 : T) : Nat → (List Int) → Int → Option (LO ((List Int) × Int) ((List Int) × Bool))
  | 0, _, _ => none
  | fuel + 1, v5, v10 => cond (v10 != (-1))
     (Option.bind (cond (decide (v10 < 0)) (some true) (some (decide (((a0.f).length : Int) ≤ v10)))) fun y12 =>
        Option.bind (cond y12 (some true) (some (decide (((a0.f).length : Int) ≤ ((v5).length : Int))))) fun y13 =>
        Option.bind (cond y13 (some true) (Option.bind (idx a0.f v10) fun x15 =>
        some (!x15.u))) fun y14 =>
        cond y14
       (some (.ret (v5, false)))
       (Option.bind (cnt (v5 ++ [v10])) fun x19 =>
          Option.bind (idx a0.f v10) fun x23 =>
          s_l3Chain_L0 fl a0 fuel x19 x23.nx))
     (some (.out (v5, v10)))
def s_l3Chain (fl : Nat) (a0 : T) (a1 : Int) : Option ((List Int) × Bool) :=
  Option.bind (idx a0.b a1) fun x4 =>
    Option.bind (s_l3Chain_L0 fl a0 fl ([] : List Int) x4) fun o => match o with
    | .ret r' => some r'
    | .out (v5, v10) =>
    some (v5, true)

def s_l3Find_L0 (fl : Nat) (a0 : T) (a1 : K) (x4 : ((List Int) × Bool)) : Nat → Int → Option (LO Int (Int × Int))
  | 0, _ => none
  | fuel + 1, v9 => cond (decide (v9 < ((x4.1).length : Int)))
     (Option.bind (idx x4.1 v9) fun x11 =>
        Option.bind (idx a0.f x11) fun x12 =>
        cond (x12.k == a1)
       (Option.bind (ck (v9 + 1)) fun x14 =>
          some (.ret (x11, x14)))
       (Option.bind (ck (v9 + 1)) fun x15 =>
          s_l3Find_L0 fl a0 a1 x4 fuel x15))
     (some (.out v9))
def s_l3Find (fl : Nat) (a0 : T) (a1 : K) : Option (Int × Int) :=
  Option.bind (s_l2Hash fl a1 ((a0.b).length : Int)) fun x3 =>
    Option.bind (s_l3Chain fl a0 x3) fun x4 =>
    Option.bind (s_l3Find_L0 fl a0 a1 x4 fl 0) fun o => match o with
    | .ret r' => some r'
    | .out v9 =>
    some ((-1), ((x4.1).length : Int))

def s_l6Line (fl : Nat) (a0 : Mc) (a1 : Ln) : Option Bool :=
  cond ((a1.tg == (-1)) != (decide (128 ≤ a1.pg)))
   (some false)
   (cond (a1.tg != (-1))
     (Option.bind (s_SpaceOf fl a0.g a1.tg) fun x5 =>
        cond (!x5.2)
       (some false)
       (Option.bind (s_KeyFor fl x5.1 a1.pg) fun x7 =>
          Option.bind (s_l3Find fl a0.t x7) fun x8 =>
          Option.bind (cond (decide (0 ≤ x8.1)) (some (x8.1 == a1.fr)) (some false)) fun y9 =>
          Option.bind (cond y9 (Option.bind (idx a0.t.f x8.1) fun x11 =>
          some (x11.r == a1.ri)) (some false)) fun y10 =>
          Option.bind (cond y10 (Option.bind (cond (!a1.wi) (some true) (some (a1.tg == (-1)))) fun y13 =>
          some y13) (some false)) fun y12 =>
          some y12))
     (Option.bind (s_KeyFor fl 0 a1.pg) fun x14 =>
        Option.bind (s_l3Find fl a0.t x14) fun x15 =>
        Option.bind (cond (decide (0 ≤ x15.1)) (some (x15.1 == a1.fr)) (some false)) fun y16 =>
        Option.bind (cond y16 (Option.bind (idx a0.t.f x15.1) fun x18 =>
        some (x18.r == a1.ri)) (some false)) fun y17 =>
        Option.bind (cond y17 (Option.bind (cond (!a1.wi) (some true) (some (a1.tg == (-1)))) fun y20 =>
        some y20) (some false)) fun y19 =>
        some y19))

def s_MachineValid_L0 (fl : Nat) (a0 : Mc) : Nat → Int → Option (LO Int Bool)
  | 0, _ => none
  | fuel + 1, v10 => cond (decide (v10 < ((a0.t.f).length : Int)))
     (Option.bind (idx a0.t.f v10) fun x12 =>
        Option.bind (cond x12.u (some (decide (128 ≤ x12.k.p))) (some false)) fun y14 =>
        Option.bind (cond y14 (some (x12.k.s != 0)) (some false)) fun y15 =>
        cond y15
       (some (.ret false))
       (Option.bind (ck (v10 + 1)) fun x17 =>
          s_MachineValid_L0 fl a0 fuel x17))
     (some (.out v10))
def s_MachineValid_L1 (fl : Nat) (a0 : Mc) : Nat → Int → Option (LO Int Bool)
  | 0, _ => none
  | fuel + 1, v18 => cond (decide (v18 < ((a0.c.l).length : Int)))
     (Option.bind (idx a0.c.l v18) fun x20 =>
        Option.bind (cond x20.va (Option.bind (s_l6Line fl a0 x20) fun x22 =>
        some (!x22)) (some false)) fun y21 =>
        cond y21
       (some (.ret false))
       (Option.bind (ck (v18 + 1)) fun x24 =>
          s_MachineValid_L1 fl a0 fuel x24))
     (some (.out v18))
def s_MachineValid (fl : Nat) (a0 : Mc) : Option Bool :=
  Option.bind (s_TableValid fl a0.t) fun x2 =>
    Option.bind (cond (!x2) (some true) (Option.bind (s_CacheValid fl a0.c) fun x4 =>
    some (!x4))) fun y3 =>
    Option.bind (cond y3 (some true) (Option.bind (s_TagsValid fl a0.g) fun x6 =>
    some (!x6))) fun y5 =>
    Option.bind (cond y5 (some true) (Option.bind (s_l5Find fl a0.g a0.s) fun x8 =>
    some (decide (x8 < 0)))) fun y7 =>
    cond y7
   (some false)
   (Option.bind (s_MachineValid_L0 fl a0 fl 0) fun o => match o with
      | .ret r' => some r'
      | .out v10 =>
      Option.bind (s_MachineValid_L1 fl a0 fl 0) fun o => match o with
      | .ret r' => some r'
      | .out v18 =>
      some true)

def s_KeyValid (fl : Nat) (a0 : K) : Option Bool :=
  Option.bind (s_l1Space fl a0.s) fun x2 =>
    Option.bind (cond x2 (Option.bind (s_l1Page fl a0.p) fun x4 =>
    some x4) (some false)) fun y3 =>
    some y3

def s_l6Shared (fl : Nat) (a0 : K) : Option Bool :=
  Option.bind (s_KeyValid fl a0) fun x2 =>
    Option.bind (cond x2 (Option.bind (s_KeyFor fl a0.s a0.p) fun x4 =>
    some (x4 == a0)) (some false)) fun y3 =>
    some y3

def s_l3Copy (fl : Nat) (a0 : T) : Option T :=
  Option.bind (cnt (([] : List Int) ++ a0.b)) fun x5 =>
    Option.bind (cnt (([] : List F) ++ a0.f)) fun x11 =>
    some (⟨x5, x11⟩ : T)

def s_l3Map (fl : Nat) (a0 : T) (a1 : K) (a2 : Int) (a3 : Int) : Option T :=
  Option.bind (s_l3Copy fl a0) fun x4 =>
    Option.bind (s_l2Hash fl a1 ((a0.b).length : Int)) fun x14 =>
    Option.bind (idx x4.b x14) fun x15 =>
    Option.bind (idx x4.f a2) fun x16 =>
    some (⟨(x4.b.set (Int.toNat x14) a2), (x4.f.set (Int.toNat a2) (⟨true, a1, a3, x15⟩ : F))⟩ : T)

def s_MapPage (fl : Nat) (a0 : T) (a1 : K) (a2 : Int) (a3 : Int) : Option (T × Bool) :=
  Option.bind (s_TableValid fl a0) fun x4 =>
    Option.bind (cond (!x4) (some true) (Option.bind (s_KeyValid fl a1) fun x6 =>
    some (!x6))) fun y5 =>
    Option.bind (cond y5 (some true) (Option.bind (s_RightsValid fl a3) fun x8 =>
    some (!x8))) fun y7 =>
    Option.bind (cond y7 (some true) (some (decide (a2 < 0)))) fun y9 =>
    Option.bind (cond y9 (some true) (some (decide (((a0.f).length : Int) ≤ a2)))) fun y10 =>
    Option.bind (cond y10 (some true) (Option.bind (idx a0.f a2) fun x12 =>
    some x12.u)) fun y11 =>
    cond y11
   (some ((⟨[], []⟩ : T), false))
   (Option.bind (s_l3Find fl a0 a1) fun x14 =>
      cond (decide (0 ≤ x14.1))
     (some ((⟨[], []⟩ : T), false))
     (Option.bind (s_l3Map fl a0 a1 a2 a3) fun x16 =>
        some (x16, true)))

def s_l4Copy (fl : Nat) (a0 : Ca) : Option Ca :=
  Option.bind (cnt (([] : List Ln) ++ a0.l)) fun x5 =>
    some (⟨x5, a0.h⟩ : Ca)

def s_l5Copy (fl : Nat) (a0 : Tg) : Option Tg :=
  Option.bind (cnt (([] : List Ow) ++ a0.o)) fun x5 =>
    some (⟨a0.c, a0.n, a0.r, x5⟩ : Tg)

def s_l6Copy (fl : Nat) (a0 : Mc) : Option Mc :=
  Option.bind (s_l3Copy fl a0.t) fun x3 =>
    Option.bind (s_l4Copy fl a0.c) fun x12 =>
    Option.bind (s_l5Copy fl a0.g) fun x17 =>
    some (⟨x3, x12, x17, a0.s⟩ : Mc)

def s_PutPage (fl : Nat) (a0 : Mc) (a1 : K) (a2 : Int) (a3 : Int) : Option (Mc × Bool) :=
  Option.bind (s_MachineValid fl a0) fun x4 =>
    Option.bind (cond (!x4) (some true) (Option.bind (s_l6Shared fl a1) fun x6 =>
    some (!x6))) fun y5 =>
    cond y5
   (some ((⟨(⟨[], []⟩ : T), (⟨[], 0⟩ : Ca), (⟨0, 0, 0, []⟩ : Tg), 0⟩ : Mc), false))
   (Option.bind (s_MapPage fl a0.t a1 a2 a3) fun x8 =>
      cond (!x8.2)
     (some ((⟨(⟨[], []⟩ : T), (⟨[], 0⟩ : Ca), (⟨0, 0, 0, []⟩ : Tg), 0⟩ : Mc), false))
     (Option.bind (s_l6Copy fl a0) fun x19 =>
        some ((⟨x8.1, x19.c, x19.g, x19.s⟩ : Mc), true)))

def i_TableValid (fl : Nat) (a0 : T) : Option Bool := some (tableOk a0)

def i_within (fl : Nat) (a0 : Int) (a1 : Int) : Option Bool :=
  Option.bind (cond (decide (0 ≤ a0)) (some (decide (a0 < a1))) (some false)) fun y1 =>
    some y1

def i_tagValid (fl : Nat) (a0 : Int) : Option Bool :=
  Option.bind (cond (decide ((-1) ≤ a0)) (some (decide (a0 < 8))) (some false)) fun y1 =>
    some y1

def i_RightsValid (fl : Nat) (a0 : Int) : Option Bool :=
  Option.bind (i_within fl a0 8) fun x1 =>
    some x1

def i_lineValid (fl : Nat) (a0 : Ln) : Option Bool :=
  cond (!a0.va)
   (some (a0 == (⟨false, 0, 0, 0, 0, false⟩ : Ln)))
   (Option.bind (i_tagValid fl a0.tg) fun x3 =>
      Option.bind (cond x3 (Option.bind (i_within fl a0.pg 256) fun x5 =>
      some x5) (some false)) fun y4 =>
      Option.bind (cond y4 (Option.bind (i_within fl a0.fr 16) fun x7 =>
      some x7) (some false)) fun y6 =>
      Option.bind (cond y6 (Option.bind (i_RightsValid fl a0.ri) fun x9 =>
      some x9) (some false)) fun y8 =>
      some y8)

def i_clash (fl : Nat) (a0 : Ln) (a1 : Ln) : Option Bool :=
  Option.bind (cond a0.va (some a1.va) (some false)) fun y3 =>
    Option.bind (cond y3 (some (a0.pg == a1.pg)) (some false)) fun y4 =>
    Option.bind (cond y4 (Option.bind (cond (a0.tg == a1.tg) (some true) (some (a0.tg == (-1)))) fun y6 =>
    Option.bind (cond y6 (some true) (some (a1.tg == (-1)))) fun y7 =>
    some y7) (some false)) fun y5 =>
    some y5

def i_CacheValid_L1 (fl : Nat) (x9 : Ln) (x13 : (List Ln)) : Nat → Int → Option (LO Int Bool)
  | 0, _ => none
  | fuel + 1, v14 => cond (decide (v14 < ((x13).length : Int)))
     (Option.bind (idx x13 v14) fun x16 =>
        Option.bind (i_clash fl x9 x16) fun x18 =>
        cond x18
       (some (.ret false))
       (Option.bind (ck (v14 + 1)) fun x20 =>
          i_CacheValid_L1 fl x9 x13 fuel x20))
     (some (.out v14))
def i_CacheValid_L0 (fl : Nat) (a0 : Ca) : Nat → Int → Bool → Option (LO (Int × Bool) Bool)
  | 0, _, _ => none
  | fuel + 1, v6, v7 => cond (decide (v6 < ((a0.l).length : Int)))
     (Option.bind (idx a0.l v6) fun x9 =>
        Option.bind (i_lineValid fl x9) fun x11 =>
        cond (!x11)
       (some (.ret false))
       (Option.bind (takeO a0.l v6) fun x13 =>
          Option.bind (i_CacheValid_L1 fl x9 x13 fl 0) fun o => match o with
          | .ret r' => some (.ret r')
          | .out v14 =>
          Option.bind (cond v7 (some true) (some (!x9.wi))) fun y21 =>
          Option.bind (ck (v6 + 1)) fun x22 =>
          i_CacheValid_L0 fl a0 fuel x22 y21))
     (some (.out (v6, v7)))
def i_CacheValid (fl : Nat) (a0 : Ca) : Option Bool :=
  Option.bind (cond (decide (((a0.l).length : Int) < 1)) (some true) (some (decide (8 < ((a0.l).length : Int))))) fun y2 =>
    Option.bind (cond y2 (some true) (Option.bind (i_within fl a0.h ((a0.l).length : Int)) fun x4 =>
    some (!x4))) fun y3 =>
    cond y3
   (some false)
   (Option.bind (i_CacheValid_L0 fl a0 fl 0 false) fun o => match o with
      | .ret r' => some r'
      | .out (v6, v7) =>
      some v7)

def i_TagsValid_L0 (fl : Nat) (a0 : Tg) : Nat → (List Int) → Int → Int → Option (LO ((List Int) × Int × Int) Bool)
  | 0, _, _, _ => none
  | fuel + 1, v10, v12, v13 => cond (decide (v13 < ((a0.o).length : Int)))
     (Option.bind (idx a0.o v13) fun x15 =>
        Option.bind (cond (decide (x15.tg ≤ v12)) (some true) (some (decide (a0.n ≤ x15.tg)))) fun y17 =>
        Option.bind (cond y17 (some true) (Option.bind (i_within fl x15.sp 16) fun x19 =>
        some (!x19))) fun y18 =>
        Option.bind (cond y18 (some true) (Option.bind (hasO v10 x15.sp) fun x21 =>
        some x21)) fun y20 =>
        cond y20
       (some (.ret false))
       (Option.bind (addO v10 x15.sp) fun x23 =>
          Option.bind (ck (v13 + 1)) fun x25 =>
          i_TagsValid_L0 fl a0 fuel x23 x15.tg x25))
     (some (.out (v10, v12, v13)))
def i_TagsValid (fl : Nat) (a0 : Tg) : Option Bool :=
  Option.bind (cond (decide (a0.c < 1)) (some true) (some (decide (8 < a0.c)))) fun y2 =>
    Option.bind (cond y2 (some true) (some (decide (a0.n < 0)))) fun y3 =>
    Option.bind (cond y3 (some true) (some (decide (a0.c < a0.n)))) fun y4 =>
    Option.bind (cond y4 (some true) (some (decide (a0.r < 0)))) fun y5 =>
    Option.bind (cond y5 (some true) (some (decide (1000000 < a0.r)))) fun y6 =>
    cond y6
   (some false)
   (Option.bind (i_TagsValid_L0 fl a0 fl ([] : List Int) (-1) 0) fun o => match o with
      | .ret r' => some r'
      | .out (v10, v12, v13) =>
      some true)

def i_Tags_own_1 (fl : Nat) (a0 : Ow) (ac0 : Int) : Option Bool :=
  some (a0.sp == ac0)

def slices_IndexFunc_Own_of_i_Tags_own_1_L0 (fl : Nat) (a0 : (List Ow)) (a1_0 : Int) : Nat → Int → Option (LO Int Int)
  | 0, _ => none
  | fuel + 1, v1 => cond (decide (v1 < ((a0).length : Int)))
     (Option.bind (idx a0 v1) fun x3 =>
        Option.bind (i_Tags_own_1 fl x3 a1_0) fun x4 =>
        cond x4
       (some (.ret v1))
       (Option.bind (ck (v1 + 1)) fun x6 =>
          slices_IndexFunc_Own_of_i_Tags_own_1_L0 fl a0 a1_0 fuel x6))
     (some (.out v1))
def slices_IndexFunc_Own_of_i_Tags_own_1 (fl : Nat) (a0 : (List Ow)) (a1_0 : Int) : Option Int :=
  Option.bind (slices_IndexFunc_Own_of_i_Tags_own_1_L0 fl a0 a1_0 fl 0) fun o => match o with
    | .ret r' => some r'
    | .out v1 =>
    some (-1)

def i_Tags_own (fl : Nat) (a0 : Tg) (a1 : Int) : Option Int :=
  Option.bind (slices_IndexFunc_Own_of_i_Tags_own_1 fl a0.o a1) fun x3 =>
    some x3

def i_SpaceOf_L0 (fl : Nat) (a0 : Tg) (a1 : Int) : Nat → Int → Option (LO Int (Int × Bool))
  | 0, _ => none
  | fuel + 1, v4 => cond (decide (v4 < ((a0.o).length : Int)))
     (Option.bind (idx a0.o v4) fun x6 =>
        cond (x6.tg == a1)
       (some (.ret (x6.sp, true)))
       (Option.bind (ck (v4 + 1)) fun x9 =>
          i_SpaceOf_L0 fl a0 a1 fuel x9))
     (some (.out v4))
def i_SpaceOf (fl : Nat) (a0 : Tg) (a1 : Int) : Option (Int × Bool) :=
  Option.bind (i_TagsValid fl a0) fun x2 =>
    cond (!x2)
   (some (0, false))
   (Option.bind (i_SpaceOf_L0 fl a0 a1 fl 0) fun o => match o with
      | .ret r' => some r'
      | .out v4 =>
      some (0, false))

def i_KeyFor (fl : Nat) (a0 : Int) (a1 : Int) : Option K :=
  cond (decide (128 ≤ a1))
   (some (⟨0, a1⟩ : K))
   (some (⟨a0, a1⟩ : K))

def i_Table_find_1 (fl : Nat) (a0 : F) (ac0 : K) : Option Bool :=
  Option.bind (cond a0.u (some (a0.k == ac0)) (some false)) fun y2 =>
    some y2

def slices_IndexFunc_Frame_of_i_Table_find_1_L0 (fl : Nat) (a0 : (List F)) (a1_0 : K) : Nat → Int → Option (LO Int Int)
  | 0, _ => none
  | fuel + 1, v1 => cond (decide (v1 < ((a0).length : Int)))
     (Option.bind (idx a0 v1) fun x3 =>
        Option.bind (i_Table_find_1 fl x3 a1_0) fun x4 =>
        cond x4
       (some (.ret v1))
       (Option.bind (ck (v1 + 1)) fun x6 =>
          slices_IndexFunc_Frame_of_i_Table_find_1_L0 fl a0 a1_0 fuel x6))
     (some (.out v1))
def slices_IndexFunc_Frame_of_i_Table_find_1 (fl : Nat) (a0 : (List F)) (a1_0 : K) : Option Int :=
  Option.bind (slices_IndexFunc_Frame_of_i_Table_find_1_L0 fl a0 a1_0 fl 0) fun o => match o with
    | .ret r' => some r'
    | .out v1 =>
    some (-1)

def i_Table_find (fl : Nat) (a0 : T) (a1 : K) : Option Int :=
  Option.bind (slices_IndexFunc_Frame_of_i_Table_find_1 fl a0.f a1) fun x3 =>
    some x3

def i_MachineValid_L0 (fl : Nat) (a0 : Mc) : Nat → Int → Option (LO Int Bool)
  | 0, _ => none
  | fuel + 1, v10 => cond (decide (v10 < ((a0.t.f).length : Int)))
     (Option.bind (idx a0.t.f v10) fun x12 =>
        Option.bind (cond x12.u (some (decide (128 ≤ x12.k.p))) (some false)) fun y14 =>
        Option.bind (cond y14 (some (x12.k.s != 0)) (some false)) fun y15 =>
        cond y15
       (some (.ret false))
       (Option.bind (ck (v10 + 1)) fun x17 =>
          i_MachineValid_L0 fl a0 fuel x17))
     (some (.out v10))
def i_MachineValid_L1 (fl : Nat) (a0 : Mc) : Nat → Int → Option (LO Int Bool)
  | 0, _ => none
  | fuel + 1, v18 => cond (decide (v18 < ((a0.c.l).length : Int)))
     (Option.bind (idx a0.c.l v18) fun x20 =>
        cond (!x20.va)
       (Option.bind (ck (v18 + 1)) fun x23 =>
          i_MachineValid_L1 fl a0 fuel x23)
       (Option.bind (cond ((decide (128 ≤ x20.pg)) != (x20.tg == (-1))) (some true) (Option.bind (cond x20.wi (some (!(decide (128 ≤ x20.pg)))) (some false)) fun y25 =>
          some y25)) fun y24 =>
          cond y24
         (some (.ret false))
         (cond (!(decide (128 ≤ x20.pg)))
           (Option.bind (i_SpaceOf fl a0.g x20.tg) fun x28 =>
              cond (!x28.2)
             (some (.ret false))
             (Option.bind (i_KeyFor fl x28.1 x20.pg) fun x30 =>
                Option.bind (i_Table_find fl a0.t x30) fun x31 =>
                Option.bind (cond (decide (x31 < 0)) (some true) (some (x31 != x20.fr))) fun y32 =>
                Option.bind (cond y32 (some true) (Option.bind (idx a0.t.f x31) fun x34 =>
                some (x34.r != x20.ri))) fun y33 =>
                cond y33
               (some (.ret false))
               (Option.bind (ck (v18 + 1)) fun x36 =>
                  i_MachineValid_L1 fl a0 fuel x36)))
           (Option.bind (i_KeyFor fl 0 x20.pg) fun x37 =>
              Option.bind (i_Table_find fl a0.t x37) fun x38 =>
              Option.bind (cond (decide (x38 < 0)) (some true) (some (x38 != x20.fr))) fun y39 =>
              Option.bind (cond y39 (some true) (Option.bind (idx a0.t.f x38) fun x41 =>
              some (x41.r != x20.ri))) fun y40 =>
              cond y40
             (some (.ret false))
             (Option.bind (ck (v18 + 1)) fun x43 =>
                i_MachineValid_L1 fl a0 fuel x43)))))
     (some (.out v18))
def i_MachineValid (fl : Nat) (a0 : Mc) : Option Bool :=
  Option.bind (i_TableValid fl a0.t) fun x2 =>
    Option.bind (cond (!x2) (some true) (Option.bind (i_CacheValid fl a0.c) fun x4 =>
    some (!x4))) fun y3 =>
    Option.bind (cond y3 (some true) (Option.bind (i_TagsValid fl a0.g) fun x6 =>
    some (!x6))) fun y5 =>
    Option.bind (cond y5 (some true) (Option.bind (i_Tags_own fl a0.g a0.s) fun x8 =>
    some (decide (x8 < 0)))) fun y7 =>
    cond y7
   (some false)
   (Option.bind (i_MachineValid_L0 fl a0 fl 0) fun o => match o with
      | .ret r' => some r'
      | .out v10 =>
      Option.bind (i_MachineValid_L1 fl a0 fl 0) fun o => match o with
      | .ret r' => some r'
      | .out v18 =>
      some true)

def i_KeyValid (fl : Nat) (a0 : K) : Option Bool :=
  Option.bind (i_within fl a0.s 16) fun x2 =>
    Option.bind (cond x2 (Option.bind (i_within fl a0.p 256) fun x4 =>
    some x4) (some false)) fun y3 =>
    some y3

def slices_Clone_Int (fl : Nat) (a0 : (List Int)) : Option (List Int) :=
  cnt a0

def slices_Clone_Frame (fl : Nat) (a0 : (List F)) : Option (List F) :=
  cnt a0

def i_Table_clone (fl : Nat) (a0 : T) : Option T :=
  Option.bind (slices_Clone_Int fl a0.b) fun x3 =>
    Option.bind (slices_Clone_Frame fl a0.f) fun x8 =>
    some (⟨x3, x8⟩ : T)

def i_hash (fl : Nat) (a0 : K) (a1 : Int) : Option Int :=
  Option.bind (ck (a0.s * 256)) fun x2 =>
    Option.bind (ck (x2 + a0.p)) fun x3 =>
    Option.bind (ckU x3) fun x4 =>
    Option.bind (ckU (x4 * 2654435761)) fun x5 =>
    Option.bind (remO x5 4294967296) fun x6 =>
    Option.bind (ckU a1) fun x7 =>
    Option.bind (ckU (x6 * x7)) fun x8 =>
    Option.bind (ck (x8 / 4294967296)) fun x9 =>
    some x9

def i_Table_link (fl : Nat) (a0 : T) (a1 : K) (a2 : Int) (a3 : Int) : Option ((List Int) × (List F)) :=
  Option.bind (i_hash fl a1 ((a0.b).length : Int)) fun x3 =>
    Option.bind (idx a0.b x3) fun x4 =>
    Option.bind (idx a0.f a2) fun x5 =>
    some ((a0.b.set (Int.toNat x3) a2), (a0.f.set (Int.toNat a2) (⟨true, a1, a3, x4⟩ : F)))

def i_MapPage (fl : Nat) (a0 : T) (a1 : K) (a2 : Int) (a3 : Int) : Option (T × Bool) :=
  Option.bind (i_TableValid fl a0) fun x4 =>
    Option.bind (cond (!x4) (some true) (Option.bind (i_KeyValid fl a1) fun x6 =>
    some (!x6))) fun y5 =>
    Option.bind (cond y5 (some true) (Option.bind (i_Table_find fl a0 a1) fun x8 =>
    some (decide (0 ≤ x8)))) fun y7 =>
    Option.bind (cond y7 (some true) (Option.bind (i_within fl a2 ((a0.f).length : Int)) fun x10 =>
    some (!x10))) fun y9 =>
    Option.bind (cond y9 (some true) (Option.bind (idx a0.f a2) fun x12 =>
    some x12.u)) fun y11 =>
    Option.bind (cond y11 (some true) (Option.bind (i_RightsValid fl a3) fun x14 =>
    some (!x14))) fun y13 =>
    cond y13
   (some ((⟨[], []⟩ : T), false))
   (Option.bind (i_Table_clone fl a0) fun x16 =>
      Option.bind (i_Table_link fl x16 a1 a2 a3) fun x26 =>
      some ((⟨x26.1, x26.2⟩ : T), true))

def slices_Clone_Line (fl : Nat) (a0 : (List Ln)) : Option (List Ln) :=
  cnt a0

def slices_Clone_Own (fl : Nat) (a0 : (List Ow)) : Option (List Ow) :=
  cnt a0

def i_Machine_clone (fl : Nat) (a0 : Mc) : Option Mc :=
  Option.bind (i_Table_clone fl a0.t) fun x3 =>
    Option.bind (slices_Clone_Line fl a0.c.l) fun x12 =>
    Option.bind (slices_Clone_Own fl a0.g.o) fun x17 =>
    some (⟨x3, (⟨x12, a0.c.h⟩ : Ca), (⟨a0.g.c, a0.g.n, a0.g.r, x17⟩ : Tg), a0.s⟩ : Mc)

def i_PutPage (fl : Nat) (a0 : Mc) (a1 : K) (a2 : Int) (a3 : Int) : Option (Mc × Bool) :=
  Option.bind (i_MachineValid fl a0) fun x4 =>
    Option.bind (cond (!x4) (some true) (Option.bind (i_KeyFor fl a1.s a1.p) fun x6 =>
    some (a1 != x6))) fun y5 =>
    cond y5
   (some ((⟨(⟨[], []⟩ : T), (⟨[], 0⟩ : Ca), (⟨0, 0, 0, []⟩ : Tg), 0⟩ : Mc), false))
   (Option.bind (i_MapPage fl a0.t a1 a2 a3) fun x8 =>
      cond (!x8.2)
     (some ((⟨(⟨[], []⟩ : T), (⟨[], 0⟩ : Ca), (⟨0, 0, 0, []⟩ : Tg), 0⟩ : Mc), false))
     (Option.bind (i_Machine_clone fl a0) fun x19 =>
        some ((⟨x8.1, x19.c, x19.g, x19.s⟩ : Mc), true)))

def l_eqIntS_L0 (fl : Nat) (a0 : (List Int)) (a1 : (List Int)) : Nat → Int → Option (LO Int Bool)
  | 0, _ => none
  | fuel + 1, v2 => cond (decide (v2 < ((a0).length : Int)))
     (Option.bind (idx a0 v2) fun x4 =>
        Option.bind (idx a1 v2) fun x5 =>
        cond (x4 != x5)
       (some (.ret false))
       (Option.bind (ck (v2 + 1)) fun x7 =>
          l_eqIntS_L0 fl a0 a1 fuel x7))
     (some (.out v2))
def l_eqIntS (fl : Nat) (a0 : (List Int)) (a1 : (List Int)) : Option Bool :=
  cond (((a0).length : Int) != ((a1).length : Int))
   (some false)
   (Option.bind (l_eqIntS_L0 fl a0 a1 fl 0) fun o => match o with
      | .ret r' => some r'
      | .out v2 =>
      some true)

def l_eqKey (fl : Nat) (a0 : K) (a1 : K) : Option Bool :=
  cond (a0.s != a1.s)
   (some false)
   (cond (a0.p != a1.p)
     (some false)
     (some true))

def l_eqFrame (fl : Nat) (a0 : F) (a1 : F) : Option Bool :=
  cond (a0.u != a1.u)
   (some false)
   (Option.bind (l_eqKey fl a0.k a1.k) fun x4 =>
      cond (!x4)
     (some false)
     (cond (a0.r != a1.r)
       (some false)
       (cond (a0.nx != a1.nx)
         (some false)
         (some true))))

def l_eqFrameS_L0 (fl : Nat) (a0 : (List F)) (a1 : (List F)) : Nat → Int → Option (LO Int Bool)
  | 0, _ => none
  | fuel + 1, v2 => cond (decide (v2 < ((a0).length : Int)))
     (Option.bind (idx a0 v2) fun x4 =>
        Option.bind (idx a1 v2) fun x5 =>
        Option.bind (l_eqFrame fl x4 x5) fun x6 =>
        cond (!x6)
       (some (.ret false))
       (Option.bind (ck (v2 + 1)) fun x8 =>
          l_eqFrameS_L0 fl a0 a1 fuel x8))
     (some (.out v2))
def l_eqFrameS (fl : Nat) (a0 : (List F)) (a1 : (List F)) : Option Bool :=
  cond (((a0).length : Int) != ((a1).length : Int))
   (some false)
   (Option.bind (l_eqFrameS_L0 fl a0 a1 fl 0) fun o => match o with
      | .ret r' => some r'
      | .out v2 =>
      some true)

def l_eqTable (fl : Nat) (a0 : T) (a1 : T) : Option Bool :=
  Option.bind (l_eqIntS fl a0.b a1.b) fun x3 =>
    cond (!x3)
   (some false)
   (Option.bind (l_eqFrameS fl a0.f a1.f) fun x5 =>
      cond (!x5)
     (some false)
     (some true))

def l_eqLine (fl : Nat) (a0 : Ln) (a1 : Ln) : Option Bool :=
  cond (a0.va != a1.va)
   (some false)
   (cond (a0.tg != a1.tg)
     (some false)
     (cond (a0.pg != a1.pg)
       (some false)
       (cond (a0.fr != a1.fr)
         (some false)
         (cond (a0.ri != a1.ri)
           (some false)
           (cond (a0.wi != a1.wi)
             (some false)
             (some true))))))

def l_eqLineS_L0 (fl : Nat) (a0 : (List Ln)) (a1 : (List Ln)) : Nat → Int → Option (LO Int Bool)
  | 0, _ => none
  | fuel + 1, v2 => cond (decide (v2 < ((a0).length : Int)))
     (Option.bind (idx a0 v2) fun x4 =>
        Option.bind (idx a1 v2) fun x5 =>
        Option.bind (l_eqLine fl x4 x5) fun x6 =>
        cond (!x6)
       (some (.ret false))
       (Option.bind (ck (v2 + 1)) fun x8 =>
          l_eqLineS_L0 fl a0 a1 fuel x8))
     (some (.out v2))
def l_eqLineS (fl : Nat) (a0 : (List Ln)) (a1 : (List Ln)) : Option Bool :=
  cond (((a0).length : Int) != ((a1).length : Int))
   (some false)
   (Option.bind (l_eqLineS_L0 fl a0 a1 fl 0) fun o => match o with
      | .ret r' => some r'
      | .out v2 =>
      some true)

def l_eqCache (fl : Nat) (a0 : Ca) (a1 : Ca) : Option Bool :=
  Option.bind (l_eqLineS fl a0.l a1.l) fun x3 =>
    cond (!x3)
   (some false)
   (cond (a0.h != a1.h)
     (some false)
     (some true))

def l_eqOwn (fl : Nat) (a0 : Ow) (a1 : Ow) : Option Bool :=
  cond (a0.sp != a1.sp)
   (some false)
   (cond (a0.tg != a1.tg)
     (some false)
     (some true))

def l_eqOwnS_L0 (fl : Nat) (a0 : (List Ow)) (a1 : (List Ow)) : Nat → Int → Option (LO Int Bool)
  | 0, _ => none
  | fuel + 1, v2 => cond (decide (v2 < ((a0).length : Int)))
     (Option.bind (idx a0 v2) fun x4 =>
        Option.bind (idx a1 v2) fun x5 =>
        Option.bind (l_eqOwn fl x4 x5) fun x6 =>
        cond (!x6)
       (some (.ret false))
       (Option.bind (ck (v2 + 1)) fun x8 =>
          l_eqOwnS_L0 fl a0 a1 fuel x8))
     (some (.out v2))
def l_eqOwnS (fl : Nat) (a0 : (List Ow)) (a1 : (List Ow)) : Option Bool :=
  cond (((a0).length : Int) != ((a1).length : Int))
   (some false)
   (Option.bind (l_eqOwnS_L0 fl a0 a1 fl 0) fun o => match o with
      | .ret r' => some r'
      | .out v2 =>
      some true)

def l_eqTags (fl : Nat) (a0 : Tg) (a1 : Tg) : Option Bool :=
  cond (a0.c != a1.c)
   (some false)
   (cond (a0.n != a1.n)
     (some false)
     (cond (a0.r != a1.r)
       (some false)
       (Option.bind (l_eqOwnS fl a0.o a1.o) fun x6 =>
          cond (!x6)
         (some false)
         (some true))))

def l_eqMachine (fl : Nat) (a0 : Mc) (a1 : Mc) : Option Bool :=
  Option.bind (l_eqTable fl a0.t a1.t) fun x3 =>
    cond (!x3)
   (some false)
   (Option.bind (l_eqCache fl a0.c a1.c) fun x5 =>
      cond (!x5)
     (some false)
     (Option.bind (l_eqTags fl a0.g a1.g) fun x7 =>
        cond (!x7)
       (some false)
       (cond (a0.s != a1.s)
         (some false)
         (some true))))

def l_markIntS_L0 (fl : Nat) (a0 : (List Int)) : Nat → (List Int) → Int → Int → Option (LO ((List Int) × Int × Int) (Int × (List Int)))
  | 0, _, _, _ => none
  | fuel + 1, v1, v3, v4 => cond (decide (v4 < ((a0).length : Int)))
     (Option.bind (idx v1 v4) fun x6 =>
        Option.bind (ck (v3 + 1)) fun x8 =>
        Option.bind (ck (v4 + 1)) fun x9 =>
        l_markIntS_L0 fl a0 fuel (v1.set (Int.toNat v4) v3) x8 x9)
     (some (.out (v1, v3, v4)))
def l_markIntS (fl : Nat) (a0 : (List Int)) (a1 : Int) : Option (Int × (List Int)) :=
  Option.bind (l_markIntS_L0 fl a0 fl a0 a1 0) fun o => match o with
    | .ret r' => some r'
    | .out (v1, v3, v4) =>
    some (v3, v1)

def l_markFrameS_L0 (fl : Nat) (a0 : (List F)) : Nat → (List F) → Int → Int → Option (LO ((List F) × Int × Int) (Int × (List F)))
  | 0, _, _, _ => none
  | fuel + 1, v1, v3, v4 => cond (decide (v4 < ((a0).length : Int)))
     (Option.bind (remO v3 3) fun x6 =>
        Option.bind (idx v1 v4) fun x7 =>
        Option.bind (ck (v3 + 1)) fun x9 =>
        Option.bind (idx (v1.set (Int.toNat v4) (⟨(x6 == 0), x7.k, x7.r, x7.nx⟩ : F)) v4) fun x10 =>
        Option.bind (ck (x9 + 1)) fun x12 =>
        Option.bind (idx ((v1.set (Int.toNat v4) (⟨(x6 == 0), x7.k, x7.r, x7.nx⟩ : F)).set (Int.toNat v4) (⟨x10.u, (⟨x9, x10.k.p⟩ : K), x10.r, x10.nx⟩ : F)) v4) fun x13 =>
        Option.bind (ck (x12 + 1)) fun x15 =>
        Option.bind (idx (((v1.set (Int.toNat v4) (⟨(x6 == 0), x7.k, x7.r, x7.nx⟩ : F)).set (Int.toNat v4) (⟨x10.u, (⟨x9, x10.k.p⟩ : K), x10.r, x10.nx⟩ : F)).set (Int.toNat v4) (⟨x13.u, (⟨x13.k.s, x12⟩ : K), x13.r, x13.nx⟩ : F)) v4) fun x16 =>
        Option.bind (ck (x15 + 1)) fun x18 =>
        Option.bind (idx ((((v1.set (Int.toNat v4) (⟨(x6 == 0), x7.k, x7.r, x7.nx⟩ : F)).set (Int.toNat v4) (⟨x10.u, (⟨x9, x10.k.p⟩ : K), x10.r, x10.nx⟩ : F)).set (Int.toNat v4) (⟨x13.u, (⟨x13.k.s, x12⟩ : K), x13.r, x13.nx⟩ : F)).set (Int.toNat v4) (⟨x16.u, x16.k, x15, x16.nx⟩ : F)) v4) fun x19 =>
        Option.bind (ck (x18 + 1)) fun x21 =>
        Option.bind (ck (v4 + 1)) fun x22 =>
        l_markFrameS_L0 fl a0 fuel (((((v1.set (Int.toNat v4) (⟨(x6 == 0), x7.k, x7.r, x7.nx⟩ : F)).set (Int.toNat v4) (⟨x10.u, (⟨x9, x10.k.p⟩ : K), x10.r, x10.nx⟩ : F)).set (Int.toNat v4) (⟨x13.u, (⟨x13.k.s, x12⟩ : K), x13.r, x13.nx⟩ : F)).set (Int.toNat v4) (⟨x16.u, x16.k, x15, x16.nx⟩ : F)).set (Int.toNat v4) (⟨x19.u, x19.k, x19.r, x18⟩ : F)) x21 x22)
     (some (.out (v1, v3, v4)))
def l_markFrameS (fl : Nat) (a0 : (List F)) (a1 : Int) : Option (Int × (List F)) :=
  Option.bind (l_markFrameS_L0 fl a0 fl a0 a1 0) fun o => match o with
    | .ret r' => some r'
    | .out (v1, v3, v4) =>
    some (v3, v1)

def l_markTable (fl : Nat) (a0 : T) (a1 : Int) : Option (Int × (List Int) × (List F)) :=
  Option.bind (l_markIntS fl a0.b a1) fun x2 =>
    Option.bind (l_markFrameS fl a0.f x2.1) fun x4 =>
    some (x4.1, x2.2, x4.2)

def l_markLineS_L0 (fl : Nat) (a0 : (List Ln)) : Nat → (List Ln) → Int → Int → Option (LO ((List Ln) × Int × Int) (Int × (List Ln)))
  | 0, _, _, _ => none
  | fuel + 1, v1, v3, v4 => cond (decide (v4 < ((a0).length : Int)))
     (Option.bind (remO v3 3) fun x6 =>
        Option.bind (idx v1 v4) fun x7 =>
        Option.bind (ck (v3 + 1)) fun x9 =>
        Option.bind (idx (v1.set (Int.toNat v4) (⟨(x6 == 0), x7.tg, x7.pg, x7.fr, x7.ri, x7.wi⟩ : Ln)) v4) fun x10 =>
        Option.bind (ck (x9 + 1)) fun x12 =>
        Option.bind (idx ((v1.set (Int.toNat v4) (⟨(x6 == 0), x7.tg, x7.pg, x7.fr, x7.ri, x7.wi⟩ : Ln)).set (Int.toNat v4) (⟨x10.va, x9, x10.pg, x10.fr, x10.ri, x10.wi⟩ : Ln)) v4) fun x13 =>
        Option.bind (ck (x12 + 1)) fun x15 =>
        Option.bind (idx (((v1.set (Int.toNat v4) (⟨(x6 == 0), x7.tg, x7.pg, x7.fr, x7.ri, x7.wi⟩ : Ln)).set (Int.toNat v4) (⟨x10.va, x9, x10.pg, x10.fr, x10.ri, x10.wi⟩ : Ln)).set (Int.toNat v4) (⟨x13.va, x13.tg, x12, x13.fr, x13.ri, x13.wi⟩ : Ln)) v4) fun x16 =>
        Option.bind (ck (x15 + 1)) fun x18 =>
        Option.bind (idx ((((v1.set (Int.toNat v4) (⟨(x6 == 0), x7.tg, x7.pg, x7.fr, x7.ri, x7.wi⟩ : Ln)).set (Int.toNat v4) (⟨x10.va, x9, x10.pg, x10.fr, x10.ri, x10.wi⟩ : Ln)).set (Int.toNat v4) (⟨x13.va, x13.tg, x12, x13.fr, x13.ri, x13.wi⟩ : Ln)).set (Int.toNat v4) (⟨x16.va, x16.tg, x16.pg, x15, x16.ri, x16.wi⟩ : Ln)) v4) fun x19 =>
        Option.bind (ck (x18 + 1)) fun x21 =>
        Option.bind (remO x21 3) fun x22 =>
        Option.bind (idx (((((v1.set (Int.toNat v4) (⟨(x6 == 0), x7.tg, x7.pg, x7.fr, x7.ri, x7.wi⟩ : Ln)).set (Int.toNat v4) (⟨x10.va, x9, x10.pg, x10.fr, x10.ri, x10.wi⟩ : Ln)).set (Int.toNat v4) (⟨x13.va, x13.tg, x12, x13.fr, x13.ri, x13.wi⟩ : Ln)).set (Int.toNat v4) (⟨x16.va, x16.tg, x16.pg, x15, x16.ri, x16.wi⟩ : Ln)).set (Int.toNat v4) (⟨x19.va, x19.tg, x19.pg, x19.fr, x18, x19.wi⟩ : Ln)) v4) fun x23 =>
        Option.bind (ck (x21 + 1)) fun x25 =>
        Option.bind (ck (v4 + 1)) fun x26 =>
        l_markLineS_L0 fl a0 fuel ((((((v1.set (Int.toNat v4) (⟨(x6 == 0), x7.tg, x7.pg, x7.fr, x7.ri, x7.wi⟩ : Ln)).set (Int.toNat v4) (⟨x10.va, x9, x10.pg, x10.fr, x10.ri, x10.wi⟩ : Ln)).set (Int.toNat v4) (⟨x13.va, x13.tg, x12, x13.fr, x13.ri, x13.wi⟩ : Ln)).set (Int.toNat v4) (⟨x16.va, x16.tg, x16.pg, x15, x16.ri, x16.wi⟩ : Ln)).set (Int.toNat v4) (⟨x19.va, x19.tg, x19.pg, x19.fr, x18, x19.wi⟩ : Ln)).set (Int.toNat v4) (⟨x23.va, x23.tg, x23.pg, x23.fr, x23.ri, (x22 == 0)⟩ : Ln)) x25 x26)
     (some (.out (v1, v3, v4)))
def l_markLineS (fl : Nat) (a0 : (List Ln)) (a1 : Int) : Option (Int × (List Ln)) :=
  Option.bind (l_markLineS_L0 fl a0 fl a0 a1 0) fun o => match o with
    | .ret r' => some r'
    | .out (v1, v3, v4) =>
    some (v3, v1)

def l_markCache (fl : Nat) (a0 : Ca) (a1 : Int) : Option (Int × (List Ln)) :=
  Option.bind (l_markLineS fl a0.l a1) fun x2 =>
    some (x2.1, x2.2)

def l_markOwnS_L0 (fl : Nat) (a0 : (List Ow)) : Nat → (List Ow) → Int → Int → Option (LO ((List Ow) × Int × Int) (Int × (List Ow)))
  | 0, _, _, _ => none
  | fuel + 1, v1, v3, v4 => cond (decide (v4 < ((a0).length : Int)))
     (Option.bind (idx v1 v4) fun x6 =>
        Option.bind (ck (v3 + 1)) fun x8 =>
        Option.bind (idx (v1.set (Int.toNat v4) (⟨v3, x6.tg⟩ : Ow)) v4) fun x9 =>
        Option.bind (ck (x8 + 1)) fun x11 =>
        Option.bind (ck (v4 + 1)) fun x12 =>
        l_markOwnS_L0 fl a0 fuel ((v1.set (Int.toNat v4) (⟨v3, x6.tg⟩ : Ow)).set (Int.toNat v4) (⟨x9.sp, x8⟩ : Ow)) x11 x12)
     (some (.out (v1, v3, v4)))
def l_markOwnS (fl : Nat) (a0 : (List Ow)) (a1 : Int) : Option (Int × (List Ow)) :=
  Option.bind (l_markOwnS_L0 fl a0 fl a0 a1 0) fun o => match o with
    | .ret r' => some r'
    | .out (v1, v3, v4) =>
    some (v3, v1)

def l_markTags (fl : Nat) (a0 : Tg) (a1 : Int) : Option (Int × (List Ow)) :=
  Option.bind (l_markOwnS fl a0.o a1) fun x2 =>
    some (x2.1, x2.2)

def l_markMachine (fl : Nat) (a0 : Mc) (a1 : Int) : Option (Int × (List Int) × (List F) × (List Ln) × (List Ow)) :=
  Option.bind (l_markTable fl a0.t a1) fun x2 =>
    Option.bind (l_markCache fl a0.c x2.1) fun x5 =>
    Option.bind (l_markTags fl a0.g x5.1) fun x7 =>
    some (x7.1, x2.2.1, x2.2.2, x5.2, x7.2)

def l_heldIntS_L0 (fl : Nat) (a0 : (List Int)) : Nat → Int → Int → Option (LO (Int × Int) Int)
  | 0, _, _ => none
  | fuel + 1, v1, v2 => cond (decide (v2 < ((a0).length : Int)))
     (Option.bind (idx a0 v2) fun x4 =>
        cond (x4 != v1)
       (some (.ret (-1)))
       (Option.bind (ck (v1 + 1)) fun x6 =>
          Option.bind (ck (v2 + 1)) fun x7 =>
          l_heldIntS_L0 fl a0 fuel x6 x7))
     (some (.out (v1, v2)))
def l_heldIntS (fl : Nat) (a0 : (List Int)) (a1 : Int) : Option Int :=
  Option.bind (l_heldIntS_L0 fl a0 fl a1 0) fun o => match o with
    | .ret r' => some r'
    | .out (v1, v2) =>
    some v1

def l_heldFrameS_L0 (fl : Nat) (a0 : (List F)) : Nat → Int → Int → Option (LO (Int × Int) Int)
  | 0, _, _ => none
  | fuel + 1, v1, v2 => cond (decide (v2 < ((a0).length : Int)))
     (Option.bind (idx a0 v2) fun x4 =>
        Option.bind (remO v1 3) fun x5 =>
        cond (x4.u != (x5 == 0))
       (some (.ret (-1)))
       (Option.bind (ck (v1 + 1)) fun x7 =>
          cond (x4.k.s != x7)
         (some (.ret (-1)))
         (Option.bind (ck (x7 + 1)) fun x9 =>
            cond (x4.k.p != x9)
           (some (.ret (-1)))
           (Option.bind (ck (x9 + 1)) fun x11 =>
              cond (x4.r != x11)
             (some (.ret (-1)))
             (Option.bind (ck (x11 + 1)) fun x13 =>
                cond (x4.nx != x13)
               (some (.ret (-1)))
               (Option.bind (ck (x13 + 1)) fun x15 =>
                  Option.bind (ck (v2 + 1)) fun x16 =>
                  l_heldFrameS_L0 fl a0 fuel x15 x16))))))
     (some (.out (v1, v2)))
def l_heldFrameS (fl : Nat) (a0 : (List F)) (a1 : Int) : Option Int :=
  Option.bind (l_heldFrameS_L0 fl a0 fl a1 0) fun o => match o with
    | .ret r' => some r'
    | .out (v1, v2) =>
    some v1

def l_heldTable (fl : Nat) (a0 : T) (a1 : Int) : Option Int :=
  Option.bind (l_heldIntS fl a0.b a1) fun x2 =>
    cond (decide (x2 < 0))
   (some (-1))
   (Option.bind (l_heldFrameS fl a0.f x2) fun x4 =>
      cond (decide (x4 < 0))
     (some (-1))
     (some x4))

def l_heldLineS_L0 (fl : Nat) (a0 : (List Ln)) : Nat → Int → Int → Option (LO (Int × Int) Int)
  | 0, _, _ => none
  | fuel + 1, v1, v2 => cond (decide (v2 < ((a0).length : Int)))
     (Option.bind (idx a0 v2) fun x4 =>
        Option.bind (remO v1 3) fun x5 =>
        cond (x4.va != (x5 == 0))
       (some (.ret (-1)))
       (Option.bind (ck (v1 + 1)) fun x7 =>
          cond (x4.tg != x7)
         (some (.ret (-1)))
         (Option.bind (ck (x7 + 1)) fun x9 =>
            cond (x4.pg != x9)
           (some (.ret (-1)))
           (Option.bind (ck (x9 + 1)) fun x11 =>
              cond (x4.fr != x11)
             (some (.ret (-1)))
             (Option.bind (ck (x11 + 1)) fun x13 =>
                cond (x4.ri != x13)
               (some (.ret (-1)))
               (Option.bind (ck (x13 + 1)) fun x15 =>
                  Option.bind (remO x15 3) fun x16 =>
                  cond (x4.wi != (x16 == 0))
                 (some (.ret (-1)))
                 (Option.bind (ck (x15 + 1)) fun x18 =>
                    Option.bind (ck (v2 + 1)) fun x19 =>
                    l_heldLineS_L0 fl a0 fuel x18 x19)))))))
     (some (.out (v1, v2)))
def l_heldLineS (fl : Nat) (a0 : (List Ln)) (a1 : Int) : Option Int :=
  Option.bind (l_heldLineS_L0 fl a0 fl a1 0) fun o => match o with
    | .ret r' => some r'
    | .out (v1, v2) =>
    some v1

def l_heldCache (fl : Nat) (a0 : Ca) (a1 : Int) : Option Int :=
  Option.bind (l_heldLineS fl a0.l a1) fun x2 =>
    cond (decide (x2 < 0))
   (some (-1))
   (some x2)

def l_heldOwnS_L0 (fl : Nat) (a0 : (List Ow)) : Nat → Int → Int → Option (LO (Int × Int) Int)
  | 0, _, _ => none
  | fuel + 1, v1, v2 => cond (decide (v2 < ((a0).length : Int)))
     (Option.bind (idx a0 v2) fun x4 =>
        cond (x4.sp != v1)
       (some (.ret (-1)))
       (Option.bind (ck (v1 + 1)) fun x6 =>
          cond (x4.tg != x6)
         (some (.ret (-1)))
         (Option.bind (ck (x6 + 1)) fun x8 =>
            Option.bind (ck (v2 + 1)) fun x9 =>
            l_heldOwnS_L0 fl a0 fuel x8 x9)))
     (some (.out (v1, v2)))
def l_heldOwnS (fl : Nat) (a0 : (List Ow)) (a1 : Int) : Option Int :=
  Option.bind (l_heldOwnS_L0 fl a0 fl a1 0) fun o => match o with
    | .ret r' => some r'
    | .out (v1, v2) =>
    some v1

def l_heldTags (fl : Nat) (a0 : Tg) (a1 : Int) : Option Int :=
  Option.bind (l_heldOwnS fl a0.o a1) fun x2 =>
    cond (decide (x2 < 0))
   (some (-1))
   (some x2)

def l_heldMachine (fl : Nat) (a0 : Mc) (a1 : Int) : Option Int :=
  Option.bind (l_heldTable fl a0.t a1) fun x2 =>
    cond (decide (x2 < 0))
   (some (-1))
   (Option.bind (l_heldCache fl a0.c x2) fun x4 =>
      cond (decide (x4 < 0))
     (some (-1))
     (Option.bind (l_heldTags fl a0.g x4) fun x6 =>
        cond (decide (x6 < 0))
       (some (-1))
       (some x6)))

def l_FnExactPutPage (fl : Nat) (a0 : Mc) (a1 : K) (a2 : Int) (a3 : Int) : Option Bool :=
  Option.bind (l_szMachine fl a0 1048576) fun x3 =>
    cond (decide (x3 < 0))
   (some true)
   (Option.bind (l_toMachine fl a0) fun x5 =>
      Option.bind (l_toKey fl a1) fun x22 =>
      Option.bind (s_PutPage fl x5 x22 a2 a3) fun x23 =>
      Option.bind (l_toMachine fl a0) fun x41 =>
      Option.bind (i_PutPage fl x41 x22 a2 a3) fun x59 =>
      Option.bind (l_eqMachine fl x59.1 x23.1) fun x77 =>
      Option.bind (cond (!x77) (some true) (some (x59.2 != x23.2))) fun y78 =>
      cond y78
     (some false)
     (Option.bind (l_toMachine fl a0) fun x80 =>
        Option.bind (l_eqMachine fl x41 x80) fun x97 =>
        cond (!x97)
       (some false)
       (Option.bind (l_markMachine fl x41 1) fun x99 =>
          Option.bind (cond (decide (x99.1 < 0)) (some true) (some (!x77))) fun y104 =>
          Option.bind (cond y104 (some true) (some (x59.2 != x23.2))) fun y105 =>
          cond y105
         (some false)
         (Option.bind (l_markMachine fl x59.1 1) fun x107 =>
            Option.bind (l_heldMachine fl (⟨(⟨x107.2.1, x107.2.2.1⟩ : T), (⟨x107.2.2.2.1, x59.1.c.h⟩ : Ca), (⟨x59.1.g.c, x59.1.g.n, x59.1.g.r, x107.2.2.2.2⟩ : Tg), x59.1.s⟩ : Mc) 1) fun x112 =>
            cond (decide (x112 < 0))
           (some false)
           (cond (x112 != x107.1)
             (some false)
             (Option.bind (l_toMachine fl a0) fun x115 =>
                Option.bind (i_PutPage fl x115 x22 a2 a3) fun x132 =>
                Option.bind (l_eqMachine fl x132.1 x23.1) fun x150 =>
                Option.bind (cond (!x150) (some true) (some (x132.2 != x23.2))) fun y151 =>
                cond y151
               (some false)
               (cond (decide (x112 < 0))
                 (some false)
                 (cond (x112 != x107.1)
                   (some false)
                   (some true)))))))))

def s_TakeTag (fl : Nat) (a0 : Tg) (a1 : Int) : Option (Tg × Int × Bool × Bool) :=
  Option.bind (s_TagsValid fl a0) fun x3 =>
    Option.bind (cond (!x3) (some true) (Option.bind (s_l1Space fl a1) fun x5 =>
    some (!x5))) fun y4 =>
    cond y4
   (some ((⟨0, 0, 0, []⟩ : Tg), 0, false, false))
   (Option.bind (s_l5Copy fl a0) fun x7 =>
      Option.bind (s_l5Find fl a0 a1) fun x13 =>
      cond (decide (0 ≤ x13))
     (Option.bind (idx a0.o x13) fun x15 =>
        some (x7, x15.tg, false, true))
     (cond (a0.n == a0.c)
       (Option.bind (ck (a0.r + 1)) fun x17 =>
          cond (decide (1000000 < x17))
         (some ((⟨0, 0, 0, []⟩ : Tg), 0, false, false))
         (Option.bind (cnt (([] : List Ow) ++ [(⟨a1, 0⟩ : Ow)])) fun x23 =>
            Option.bind (ck (0 + 1)) fun x27 =>
            some ((⟨a0.c, x27, x17, x23⟩ : Tg), 0, (a0.n == a0.c), true)))
       (cond (decide (1000000 < x7.r))
         (some ((⟨0, 0, 0, []⟩ : Tg), 0, false, false))
         (Option.bind (cnt (x7.o ++ [(⟨a1, x7.n⟩ : Ow)])) fun x31 =>
            Option.bind (ck (x7.n + 1)) fun x35 =>
            some ((⟨x7.c, x35, x7.r, x31⟩ : Tg), x7.n, (a0.n == a0.c), true)))))

def s_l6Fresh_L0 (fl : Nat) (x3 : Ca) : Nat → (List Ln) → Int → Option (LO ((List Ln) × Int) Ca)
  | 0, _, _ => none
  | fuel + 1, v9, v11 => cond (decide (v11 < ((x3.l).length : Int)))
     (Option.bind (idx v9 v11) fun x13 =>
        cond (x13.tg != (-1))
       (Option.bind (ck (v11 + 1)) fun x16 =>
          s_l6Fresh_L0 fl x3 fuel (v9.set (Int.toNat v11) (⟨false, 0, 0, 0, 0, false⟩ : Ln)) x16)
       (Option.bind (ck (v11 + 1)) fun x17 =>
          s_l6Fresh_L0 fl x3 fuel v9 x17))
     (some (.out (v9, v11)))
def s_l6Fresh (fl : Nat) (a0 : Ca) : Option Ca :=
  Option.bind (s_l4Copy fl a0) fun x3 =>
    Option.bind (s_l6Fresh_L0 fl x3 fl x3.l 0) fun o => match o with
    | .ret r' => some r'
    | .out (v9, v11) =>
    some (⟨v9, x3.h⟩ : Ca)

def s_EnterSpace (fl : Nat) (a0 : Mc) (a1 : Int) : Option (Mc × Bool) :=
  Option.bind (s_TakeTag fl a0.g a1) fun x3 =>
    Option.bind (s_MachineValid fl a0) fun x9 =>
    Option.bind (cond (!x9) (some true) (some (!x3.2.2.2))) fun y10 =>
    cond y10
   (some ((⟨(⟨[], []⟩ : T), (⟨[], 0⟩ : Ca), (⟨0, 0, 0, []⟩ : Tg), 0⟩ : Mc), false))
   (Option.bind (s_l6Copy fl a0) fun x12 =>
      cond x3.2.2.1
     (Option.bind (s_l6Fresh fl a0.c) fun x31 =>
        some ((⟨x12.t, x31, x3.1, a1⟩ : Mc), true))
     (some ((⟨x12.t, x12.c, x3.1, a1⟩ : Mc), true)))

def i_TakeTag (fl : Nat) (a0 : Tg) (a1 : Int) : Option (Tg × Int × Bool × Bool) :=
  Option.bind (i_TagsValid fl a0) fun x3 =>
    Option.bind (cond (!x3) (some true) (Option.bind (i_within fl a1 16) fun x5 =>
    some (!x5))) fun y4 =>
    cond y4
   (some ((⟨0, 0, 0, []⟩ : Tg), 0, false, false))
   (Option.bind (slices_Clone_Own fl a0.o) fun x8 =>
      Option.bind (i_Tags_own fl a0 a1) fun x13 =>
      cond (decide (0 ≤ x13))
     (Option.bind (idx a0.o x13) fun x15 =>
        some ((⟨a0.c, a0.n, a0.r, x8⟩ : Tg), x15.tg, false, true))
     (cond (a0.n == a0.c)
       (cond (a0.r == 1000000)
         (some ((⟨0, 0, 0, []⟩ : Tg), 0, false, false))
         (Option.bind (ck (a0.r + 1)) fun x18 =>
            Option.bind (cnt (([] : List Ow) ++ [(⟨a1, 0⟩ : Ow)])) fun x21 =>
            Option.bind (ck (0 + 1)) fun x25 =>
            some ((⟨a0.c, x25, x18, x21⟩ : Tg), 0, (a0.n == a0.c), true)))
       (Option.bind (cnt (x8 ++ [(⟨a1, a0.n⟩ : Ow)])) fun x28 =>
          Option.bind (ck (a0.n + 1)) fun x32 =>
          some ((⟨a0.c, x32, a0.r, x28⟩ : Tg), a0.n, (a0.n == a0.c), true))))

def i_EnterSpace_L0 (fl : Nat) (x5 : (Tg × Int × Bool × Bool)) (x12 : Mc) : Nat → (List Ln) → Int → Option (LO ((List Ln) × Int) (Mc × Bool))
  | 0, _, _ => none
  | fuel + 1, v30, v32 => cond (decide (v32 < ((x12.c.l).length : Int)))
     (Option.bind (idx v30 v32) fun x34 =>
        Option.bind (cond x5.2.2.1 (some (x34.tg != (-1))) (some false)) fun y36 =>
        cond y36
       (Option.bind (ck (v32 + 1)) fun x39 =>
          i_EnterSpace_L0 fl x5 x12 fuel (v30.set (Int.toNat v32) (⟨false, 0, 0, 0, 0, false⟩ : Ln)) x39)
       (Option.bind (ck (v32 + 1)) fun x40 =>
          i_EnterSpace_L0 fl x5 x12 fuel v30 x40))
     (some (.out (v30, v32)))
def i_EnterSpace (fl : Nat) (a0 : Mc) (a1 : Int) : Option (Mc × Bool) :=
  Option.bind (i_MachineValid fl a0) fun x3 =>
    cond (!x3)
   (some ((⟨(⟨[], []⟩ : T), (⟨[], 0⟩ : Ca), (⟨0, 0, 0, []⟩ : Tg), 0⟩ : Mc), false))
   (Option.bind (i_TakeTag fl a0.g a1) fun x5 =>
      cond (!x5.2.2.2)
     (some ((⟨(⟨[], []⟩ : T), (⟨[], 0⟩ : Ca), (⟨0, 0, 0, []⟩ : Tg), 0⟩ : Mc), false))
     (Option.bind (i_Machine_clone fl a0) fun x12 =>
        Option.bind (i_EnterSpace_L0 fl x5 x12 fl x12.c.l 0) fun o => match o with
        | .ret r' => some r'
        | .out (v30, v32) =>
        some ((⟨x12.t, (⟨v30, x12.c.h⟩ : Ca), x5.1, a1⟩ : Mc), true)))

def l_FnExactEnterSpace (fl : Nat) (a0 : Mc) (a1 : Int) : Option Bool :=
  Option.bind (l_szMachine fl a0 1048576) fun x2 =>
    cond (decide (x2 < 0))
   (some true)
   (Option.bind (l_toMachine fl a0) fun x4 =>
      Option.bind (s_EnterSpace fl x4 a1) fun x21 =>
      Option.bind (l_toMachine fl a0) fun x39 =>
      Option.bind (i_EnterSpace fl x39 a1) fun x57 =>
      Option.bind (l_eqMachine fl x57.1 x21.1) fun x75 =>
      Option.bind (cond (!x75) (some true) (some (x57.2 != x21.2))) fun y76 =>
      cond y76
     (some false)
     (Option.bind (l_toMachine fl a0) fun x78 =>
        Option.bind (l_eqMachine fl x39 x78) fun x95 =>
        cond (!x95)
       (some false)
       (Option.bind (l_markMachine fl x39 1) fun x97 =>
          Option.bind (cond (decide (x97.1 < 0)) (some true) (some (!x75))) fun y102 =>
          Option.bind (cond y102 (some true) (some (x57.2 != x21.2))) fun y103 =>
          cond y103
         (some false)
         (Option.bind (l_markMachine fl x57.1 1) fun x105 =>
            Option.bind (l_heldMachine fl (⟨(⟨x105.2.1, x105.2.2.1⟩ : T), (⟨x105.2.2.2.1, x57.1.c.h⟩ : Ca), (⟨x57.1.g.c, x57.1.g.n, x57.1.g.r, x105.2.2.2.2⟩ : Tg), x57.1.s⟩ : Mc) 1) fun x110 =>
            cond (decide (x110 < 0))
           (some false)
           (cond (x110 != x105.1)
             (some false)
             (Option.bind (l_toMachine fl a0) fun x113 =>
                Option.bind (i_EnterSpace fl x113 a1) fun x130 =>
                Option.bind (l_eqMachine fl x130.1 x21.1) fun x148 =>
                Option.bind (cond (!x148) (some true) (some (x130.2 != x21.2))) fun y149 =>
                cond y149
               (some false)
               (cond (decide (x110 < 0))
                 (some false)
                 (cond (x110 != x105.1)
                   (some false)
                   (some true)))))))))

def s_FindPage (fl : Nat) (a0 : T) (a1 : K) : Option (Int × Int × Bool) :=
  Option.bind (s_TableValid fl a0) fun x3 =>
    Option.bind (cond (!x3) (some true) (Option.bind (s_KeyValid fl a1) fun x5 =>
    some (!x5))) fun y4 =>
    cond y4
   (some (0, 0, false))
   (Option.bind (s_l3Find fl a0 a1) fun x7 =>
      cond (decide (x7.1 < 0))
     (some (0, x7.2, false))
     (some (x7.1, x7.2, true)))

def s_ProtectPage (fl : Nat) (a0 : T) (a1 : K) (a2 : Int) : Option (T × Bool) :=
  Option.bind (s_FindPage fl a0 a1) fun x4 =>
    Option.bind (cond (!x4.2.2) (some true) (Option.bind (s_RightsValid fl a2) fun x6 =>
    some (!x6))) fun y5 =>
    cond y5
   (some ((⟨[], []⟩ : T), false))
   (Option.bind (s_l3Copy fl a0) fun x8 =>
      Option.bind (idx x8.f x4.1) fun x18 =>
      some ((⟨x8.b, (x8.f.set (Int.toNat x4.1) (⟨x18.u, x18.k, a2, x18.nx⟩ : F))⟩ : T), true))

def s_l6Tag (fl : Nat) (a0 : Mc) (a1 : Int) (a2 : Int) : Option (Int × Bool) :=
  cond (decide (128 ≤ a2))
   (some ((-1), true))
   (Option.bind (s_l5Find fl a0.g a1) fun x3 =>
      cond (decide (x3 < 0))
     (some (0, false))
     (Option.bind (idx a0.g.o x3) fun x5 =>
        some (x5.tg, true)))

def s_l4Tag (fl : Nat) (a0 : Int) : Option Bool :=
  Option.bind (cond (decide ((-1) ≤ a0)) (some (decide (a0 < 8))) (some false)) fun y1 =>
    some y1

def s_l4Fits (fl : Nat) (a0 : Ln) (a1 : Int) (a2 : Int) : Option Bool :=
  Option.bind (cond a0.va (some (a0.pg == a2)) (some false)) fun y2 =>
    Option.bind (cond y2 (Option.bind (cond (a0.tg == a1) (some true) (some (a0.tg == (-1)))) fun y4 =>
    some y4) (some false)) fun y3 =>
    some y3

def s_l4Find_L0 (fl : Nat) (a0 : Ca) (a1 : Int) (a2 : Int) : Nat → Int → Option (LO Int Int)
  | 0, _ => none
  | fuel + 1, v2 => cond (decide (v2 < ((a0.l).length : Int)))
     (Option.bind (idx a0.l v2) fun x4 =>
        Option.bind (s_l4Fits fl x4 a1 a2) fun x5 =>
        cond x5
       (some (.ret v2))
       (Option.bind (ck (v2 + 1)) fun x7 =>
          s_l4Find_L0 fl a0 a1 a2 fuel x7))
     (some (.out v2))
def s_l4Find (fl : Nat) (a0 : Ca) (a1 : Int) (a2 : Int) : Option Int :=
  Option.bind (s_l4Find_L0 fl a0 a1 a2 fl 0) fun o => match o with
    | .ret r' => some r'
    | .out v2 =>
    some (-1)

def s_FindLine (fl : Nat) (a0 : Ca) (a1 : Int) (a2 : Int) : Option (Int × Bool) :=
  Option.bind (s_CacheValid fl a0) fun x2 =>
    Option.bind (cond (!x2) (some true) (Option.bind (s_l4Tag fl a1) fun x4 =>
    some (!x4))) fun y3 =>
    Option.bind (cond y3 (some true) (Option.bind (s_l1Page fl a2) fun x6 =>
    some (!x6))) fun y5 =>
    cond y5
   (some (0, false))
   (Option.bind (s_l4Find fl a0 a1 a2) fun x8 =>
      cond (decide (x8 < 0))
     (some (0, false))
     (some (x8, true)))

def s_DropPage (fl : Nat) (a0 : Ca) (a1 : Int) (a2 : Int) : Option (Ca × Bool) :=
  Option.bind (s_FindLine fl a0 a1 a2) fun x3 =>
    cond (!x3.2)
   (some ((⟨[], 0⟩ : Ca), false))
   (Option.bind (s_l4Copy fl a0) fun x5 =>
      Option.bind (idx x5.l x3.1) fun x11 =>
      some ((⟨(x5.l.set (Int.toNat x3.1) (⟨false, 0, 0, 0, 0, false⟩ : Ln)), x5.h⟩ : Ca), true))

def s_l6Forget (fl : Nat) (a0 : Mc) (a1 : K) : Option Mc :=
  Option.bind (s_l6Copy fl a0) fun x4 =>
    Option.bind (s_l6Tag fl a0 a1.s a1.p) fun x22 =>
    cond (!x22.2)
   (some x4)
   (Option.bind (s_DropPage fl a0.c x22.1 a1.p) fun x24 =>
      cond x24.2
     (some (⟨x4.t, x24.1, x4.g, x4.s⟩ : Mc))
     (some x4))

def s_GuardPage (fl : Nat) (a0 : Mc) (a1 : K) (a2 : Int) : Option (Mc × Bool) :=
  Option.bind (s_MachineValid fl a0) fun x4 =>
    cond (!x4)
   (some ((⟨(⟨[], []⟩ : T), (⟨[], 0⟩ : Ca), (⟨0, 0, 0, []⟩ : Tg), 0⟩ : Mc), false))
   (Option.bind (s_ProtectPage fl a0.t a1 a2) fun x6 =>
      cond (!x6.2)
     (some ((⟨(⟨[], []⟩ : T), (⟨[], 0⟩ : Ca), (⟨0, 0, 0, []⟩ : Tg), 0⟩ : Mc), false))
     (Option.bind (s_l6Forget fl a0 a1) fun x17 =>
        some ((⟨x6.1, x17.c, x17.g, x17.s⟩ : Mc), true)))

def i_ProtectPage (fl : Nat) (a0 : T) (a1 : K) (a2 : Int) : Option (T × Bool) :=
  Option.bind (i_TableValid fl a0) fun x4 =>
    Option.bind (cond (!x4) (some true) (Option.bind (i_KeyValid fl a1) fun x6 =>
    some (!x6))) fun y5 =>
    Option.bind (cond y5 (some true) (Option.bind (i_Table_find fl a0 a1) fun x8 =>
    some (decide (x8 < 0)))) fun y7 =>
    Option.bind (cond y7 (some true) (Option.bind (i_RightsValid fl a2) fun x10 =>
    some (!x10))) fun y9 =>
    cond y9
   (some ((⟨[], []⟩ : T), false))
   (Option.bind (i_Table_clone fl a0) fun x12 =>
      Option.bind (i_Table_find fl a0 a1) fun x22 =>
      Option.bind (idx x12.f x22) fun x23 =>
      some ((⟨x12.b, (x12.f.set (Int.toNat x22) (⟨x23.u, x23.k, a2, x23.nx⟩ : F))⟩ : T), true))

def i_TagOf (fl : Nat) (a0 : Tg) (a1 : Int) : Option (Int × Bool) :=
  Option.bind (i_TagsValid fl a0) fun x2 =>
    Option.bind (cond (!x2) (some true) (Option.bind (i_Tags_own fl a0 a1) fun x4 =>
    some (decide (x4 < 0)))) fun y3 =>
    cond y3
   (some (0, false))
   (Option.bind (i_Tags_own fl a0 a1) fun x6 =>
      Option.bind (idx a0.o x6) fun x7 =>
      some (x7.tg, true))

def i_Machine_tagFor (fl : Nat) (a0 : Mc) (a1 : Int) (a2 : Int) : Option (Int × Bool) :=
  cond (decide (128 ≤ a2))
   (some ((-1), true))
   (Option.bind (i_TagOf fl a0.g a1) fun x3 =>
      some (x3.1, x3.2))

def i_Cache_place_1 (fl : Nat) (a0 : Ln) (ac0 : Int) (ac1 : Int) : Option Bool :=
  Option.bind (cond a0.va (some (a0.pg == ac0)) (some false)) fun y2 =>
    Option.bind (cond y2 (Option.bind (cond (a0.tg == ac1) (some true) (some (a0.tg == (-1)))) fun y4 =>
    some y4) (some false)) fun y3 =>
    some y3

def slices_IndexFunc_Line_of_i_Cache_place_1_L0 (fl : Nat) (a0 : (List Ln)) (a1_0 : Int) (a1_1 : Int) : Nat → Int → Option (LO Int Int)
  | 0, _ => none
  | fuel + 1, v1 => cond (decide (v1 < ((a0).length : Int)))
     (Option.bind (idx a0 v1) fun x3 =>
        Option.bind (i_Cache_place_1 fl x3 a1_0 a1_1) fun x4 =>
        cond x4
       (some (.ret v1))
       (Option.bind (ck (v1 + 1)) fun x6 =>
          slices_IndexFunc_Line_of_i_Cache_place_1_L0 fl a0 a1_0 a1_1 fuel x6))
     (some (.out v1))
def slices_IndexFunc_Line_of_i_Cache_place_1 (fl : Nat) (a0 : (List Ln)) (a1_0 : Int) (a1_1 : Int) : Option Int :=
  Option.bind (slices_IndexFunc_Line_of_i_Cache_place_1_L0 fl a0 a1_0 a1_1 fl 0) fun o => match o with
    | .ret r' => some r'
    | .out v1 =>
    some (-1)

def i_Cache_place (fl : Nat) (a0 : Ca) (a1 : Int) (a2 : Int) : Option Int :=
  Option.bind (slices_IndexFunc_Line_of_i_Cache_place_1 fl a0.l a2 a1) fun x4 =>
    some x4

def i_Machine_dropped (fl : Nat) (a0 : Mc) (a1 : T) (a2 : K) : Option Mc :=
  Option.bind (i_Machine_clone fl a0) fun x5 =>
    Option.bind (i_Machine_tagFor fl a0 a2.s a2.p) fun x23 =>
    cond x23.2
   (Option.bind (i_Cache_place fl a0.c x23.1 a2.p) fun x25 =>
      cond (decide (0 ≤ x25))
     (Option.bind (idx x5.c.l x25) fun x27 =>
        some (⟨a1, (⟨(x5.c.l.set (Int.toNat x25) (⟨false, 0, 0, 0, 0, false⟩ : Ln)), x5.c.h⟩ : Ca), x5.g, x5.s⟩ : Mc))
     (some (⟨a1, x5.c, x5.g, x5.s⟩ : Mc)))
   (some (⟨a1, x5.c, x5.g, x5.s⟩ : Mc))

def i_GuardPage (fl : Nat) (a0 : Mc) (a1 : K) (a2 : Int) : Option (Mc × Bool) :=
  Option.bind (i_MachineValid fl a0) fun x4 =>
    cond (!x4)
   (some ((⟨(⟨[], []⟩ : T), (⟨[], 0⟩ : Ca), (⟨0, 0, 0, []⟩ : Tg), 0⟩ : Mc), false))
   (Option.bind (i_ProtectPage fl a0.t a1 a2) fun x6 =>
      cond (!x6.2)
     (some ((⟨(⟨[], []⟩ : T), (⟨[], 0⟩ : Ca), (⟨0, 0, 0, []⟩ : Tg), 0⟩ : Mc), false))
     (Option.bind (i_Machine_dropped fl a0 x6.1 a1) fun x17 =>
        some (x17, true)))

def l_FnExactGuardPage (fl : Nat) (a0 : Mc) (a1 : K) (a2 : Int) : Option Bool :=
  Option.bind (l_szMachine fl a0 1048576) fun x3 =>
    cond (decide (x3 < 0))
   (some true)
   (Option.bind (l_toMachine fl a0) fun x5 =>
      Option.bind (l_toKey fl a1) fun x22 =>
      Option.bind (s_GuardPage fl x5 x22 a2) fun x23 =>
      Option.bind (l_toMachine fl a0) fun x41 =>
      Option.bind (i_GuardPage fl x41 x22 a2) fun x59 =>
      Option.bind (l_eqMachine fl x59.1 x23.1) fun x77 =>
      Option.bind (cond (!x77) (some true) (some (x59.2 != x23.2))) fun y78 =>
      cond y78
     (some false)
     (Option.bind (l_toMachine fl a0) fun x80 =>
        Option.bind (l_eqMachine fl x41 x80) fun x97 =>
        cond (!x97)
       (some false)
       (Option.bind (l_markMachine fl x41 1) fun x99 =>
          Option.bind (cond (decide (x99.1 < 0)) (some true) (some (!x77))) fun y104 =>
          Option.bind (cond y104 (some true) (some (x59.2 != x23.2))) fun y105 =>
          cond y105
         (some false)
         (Option.bind (l_markMachine fl x59.1 1) fun x107 =>
            Option.bind (l_heldMachine fl (⟨(⟨x107.2.1, x107.2.2.1⟩ : T), (⟨x107.2.2.2.1, x59.1.c.h⟩ : Ca), (⟨x59.1.g.c, x59.1.g.n, x59.1.g.r, x107.2.2.2.2⟩ : Tg), x59.1.s⟩ : Mc) 1) fun x112 =>
            cond (decide (x112 < 0))
           (some false)
           (cond (x112 != x107.1)
             (some false)
             (Option.bind (l_toMachine fl a0) fun x115 =>
                Option.bind (i_GuardPage fl x115 x22 a2) fun x132 =>
                Option.bind (l_eqMachine fl x132.1 x23.1) fun x150 =>
                Option.bind (cond (!x150) (some true) (some (x132.2 != x23.2))) fun y151 =>
                cond y151
               (some false)
               (cond (decide (x112 < 0))
                 (some false)
                 (cond (x112 != x107.1)
                   (some false)
                   (some true)))))))))

def s_l3Unmap_L0 (fl : Nat) (a0 : T) (a1 : Int) (x13 : F) : Nat → (List F) → Int → Option (LO ((List F) × Int) T)
  | 0, _, _ => none
  | fuel + 1, v21, v23 => cond (decide (v23 < ((a0.f).length : Int)))
     (Option.bind (idx a0.f v23) fun x25 =>
        Option.bind (cond x25.u (some (x25.nx == a1)) (some false)) fun y26 =>
        cond y26
       (Option.bind (idx v21 v23) fun x28 =>
          Option.bind (ck (v23 + 1)) fun x30 =>
          s_l3Unmap_L0 fl a0 a1 x13 fuel (v21.set (Int.toNat v23) (⟨x28.u, x28.k, x28.r, x13.nx⟩ : F)) x30)
       (Option.bind (ck (v23 + 1)) fun x31 =>
          s_l3Unmap_L0 fl a0 a1 x13 fuel v21 x31))
     (some (.out (v21, v23)))
def s_l3Unmap (fl : Nat) (a0 : T) (a1 : Int) : Option T :=
  Option.bind (s_l3Copy fl a0) fun x3 =>
    Option.bind (idx a0.f a1) fun x13 =>
    Option.bind (s_l2Hash fl x13.k ((a0.b).length : Int)) fun x14 =>
    Option.bind (idx x3.f a1) fun x15 =>
    Option.bind (idx a0.b x14) fun x17 =>
    cond (x17 == a1)
   (Option.bind (idx x3.b x14) fun x19 =>
      some (⟨(x3.b.set (Int.toNat x14) x13.nx), (x3.f.set (Int.toNat a1) (⟨false, (⟨0, 0⟩ : K), 0, (-1)⟩ : F))⟩ : T))
   (Option.bind (s_l3Unmap_L0 fl a0 a1 x13 fl (x3.f.set (Int.toNat a1) (⟨false, (⟨0, 0⟩ : K), 0, (-1)⟩ : F)) 0) fun o => match o with
      | .ret r' => some r'
      | .out (v21, v23) =>
      some (⟨x3.b, v21⟩ : T))

def s_UnmapPage (fl : Nat) (a0 : T) (a1 : K) : Option (T × Bool) :=
  Option.bind (s_FindPage fl a0 a1) fun x4 =>
    cond (!x4.2.2)
   (some ((⟨[], []⟩ : T), false))
   (Option.bind (s_l3Unmap fl a0 x4.1) fun x6 =>
      some (x6, true))

def s_TakePage (fl : Nat) (a0 : Mc) (a1 : K) : Option (Mc × Bool) :=
  Option.bind (s_MachineValid fl a0) fun x4 =>
    cond (!x4)
   (some ((⟨(⟨[], []⟩ : T), (⟨[], 0⟩ : Ca), (⟨0, 0, 0, []⟩ : Tg), 0⟩ : Mc), false))
   (Option.bind (s_UnmapPage fl a0.t a1) fun x6 =>
      cond (!x6.2)
     (some ((⟨(⟨[], []⟩ : T), (⟨[], 0⟩ : Ca), (⟨0, 0, 0, []⟩ : Tg), 0⟩ : Mc), false))
     (Option.bind (s_l6Forget fl a0 a1) fun x17 =>
        some ((⟨x6.1, x17.c, x17.g, x17.s⟩ : Mc), true)))

def i_UnmapPage_L0 (fl : Nat) (x10 : T) (x20 : Int) (x21 : F) : Nat → (List F) → Int → Option (LO ((List F) × Int) (T × Bool))
  | 0, _, _ => none
  | fuel + 1, v28, v30 => cond (decide (v30 < ((x10.f).length : Int)))
     (Option.bind (idx v28 v30) fun x32 =>
        Option.bind (cond x32.u (some (x32.nx == x20)) (some false)) fun y33 =>
        cond y33
       (Option.bind (ck (v30 + 1)) fun x36 =>
          i_UnmapPage_L0 fl x10 x20 x21 fuel (v28.set (Int.toNat v30) (⟨x32.u, x32.k, x32.r, x21.nx⟩ : F)) x36)
       (Option.bind (ck (v30 + 1)) fun x37 =>
          i_UnmapPage_L0 fl x10 x20 x21 fuel v28 x37))
     (some (.out (v28, v30)))
def i_UnmapPage (fl : Nat) (a0 : T) (a1 : K) : Option (T × Bool) :=
  Option.bind (i_TableValid fl a0) fun x4 =>
    Option.bind (cond (!x4) (some true) (Option.bind (i_KeyValid fl a1) fun x6 =>
    some (!x6))) fun y5 =>
    Option.bind (cond y5 (some true) (Option.bind (i_Table_find fl a0 a1) fun x8 =>
    some (decide (x8 < 0)))) fun y7 =>
    cond y7
   (some ((⟨[], []⟩ : T), false))
   (Option.bind (i_Table_clone fl a0) fun x10 =>
      Option.bind (i_Table_find fl a0 a1) fun x20 =>
      Option.bind (idx a0.f x20) fun x21 =>
      Option.bind (i_hash fl a1 ((a0.b).length : Int)) fun x22 =>
      Option.bind (idx x10.b x22) fun x23 =>
      cond (x23 == x20)
     (Option.bind (idx x10.f x20) fun x26 =>
        some ((⟨(x10.b.set (Int.toNat x22) x21.nx), (x10.f.set (Int.toNat x20) (⟨false, (⟨0, 0⟩ : K), 0, (-1)⟩ : F))⟩ : T), true))
     (Option.bind (i_UnmapPage_L0 fl x10 x20 x21 fl x10.f 0) fun o => match o with
        | .ret r' => some r'
        | .out (v28, v30) =>
        Option.bind (idx v28 x20) fun x38 =>
        some ((⟨x10.b, (v28.set (Int.toNat x20) (⟨false, (⟨0, 0⟩ : K), 0, (-1)⟩ : F))⟩ : T), true)))

def i_TakePage (fl : Nat) (a0 : Mc) (a1 : K) : Option (Mc × Bool) :=
  Option.bind (i_MachineValid fl a0) fun x4 =>
    cond (!x4)
   (some ((⟨(⟨[], []⟩ : T), (⟨[], 0⟩ : Ca), (⟨0, 0, 0, []⟩ : Tg), 0⟩ : Mc), false))
   (Option.bind (i_UnmapPage fl a0.t a1) fun x6 =>
      cond (!x6.2)
     (some ((⟨(⟨[], []⟩ : T), (⟨[], 0⟩ : Ca), (⟨0, 0, 0, []⟩ : Tg), 0⟩ : Mc), false))
     (Option.bind (i_Machine_dropped fl a0 x6.1 a1) fun x17 =>
        some (x17, true)))

def l_FnExactTakePage (fl : Nat) (a0 : Mc) (a1 : K) : Option Bool :=
  Option.bind (l_szMachine fl a0 1048576) fun x3 =>
    cond (decide (x3 < 0))
   (some true)
   (Option.bind (l_toMachine fl a0) fun x5 =>
      Option.bind (l_toKey fl a1) fun x22 =>
      Option.bind (s_TakePage fl x5 x22) fun x23 =>
      Option.bind (l_toMachine fl a0) fun x41 =>
      Option.bind (i_TakePage fl x41 x22) fun x59 =>
      Option.bind (l_eqMachine fl x59.1 x23.1) fun x77 =>
      Option.bind (cond (!x77) (some true) (some (x59.2 != x23.2))) fun y78 =>
      cond y78
     (some false)
     (Option.bind (l_toMachine fl a0) fun x80 =>
        Option.bind (l_eqMachine fl x41 x80) fun x97 =>
        cond (!x97)
       (some false)
       (Option.bind (l_markMachine fl x41 1) fun x99 =>
          Option.bind (cond (decide (x99.1 < 0)) (some true) (some (!x77))) fun y104 =>
          Option.bind (cond y104 (some true) (some (x59.2 != x23.2))) fun y105 =>
          cond y105
         (some false)
         (Option.bind (l_markMachine fl x59.1 1) fun x107 =>
            Option.bind (l_heldMachine fl (⟨(⟨x107.2.1, x107.2.2.1⟩ : T), (⟨x107.2.2.2.1, x59.1.c.h⟩ : Ca), (⟨x59.1.g.c, x59.1.g.n, x59.1.g.r, x107.2.2.2.2⟩ : Tg), x59.1.s⟩ : Mc) 1) fun x112 =>
            cond (decide (x112 < 0))
           (some false)
           (cond (x112 != x107.1)
             (some false)
             (Option.bind (l_toMachine fl a0) fun x115 =>
                Option.bind (i_TakePage fl x115 x22) fun x132 =>
                Option.bind (l_eqMachine fl x132.1 x23.1) fun x150 =>
                Option.bind (cond (!x150) (some true) (some (x132.2 != x23.2))) fun y151 =>
                cond y151
               (some false)
               (cond (decide (x112 < 0))
                 (some false)
                 (cond (x112 != x107.1)
                   (some false)
                   (some true)))))))))

def s_Allows (fl : Nat) (a0 : Int) (a1 : Int) : Option Bool :=
  Option.bind (s_RightsValid fl a0) fun x1 =>
    Option.bind (cond x1 (Option.bind (s_RightsValid fl a1) fun x3 =>
    some x3) (some false)) fun y2 =>
    Option.bind (cond y2 (some ((bAnd a0 a1) == a1)) (some false)) fun y4 =>
    some y4

def s_l4Victim_L0 (fl : Nat) (a0 : Ca) : Nat → Int → Option (LO Int Int)
  | 0, _ => none
  | fuel + 1, v2 => cond (decide (v2 < ((a0.l).length : Int)))
     (Option.bind (idx a0.l v2) fun x4 =>
        cond (!x4.va)
       (some (.ret v2))
       (Option.bind (ck (v2 + 1)) fun x6 =>
          s_l4Victim_L0 fl a0 fuel x6))
     (some (.out v2))
def s_l4Victim_L1 (fl : Nat) (a0 : Ca) : Nat → Int → Option (LO Int Int)
  | 0, _ => none
  | fuel + 1, v7 => Option.bind (idx a0.l v7) fun x8 =>
      cond x8.wi
     (Option.bind (ck (v7 + 1)) fun x10 =>
        Option.bind (remO x10 ((a0.l).length : Int)) fun x11 =>
        s_l4Victim_L1 fl a0 fuel x11)
     (some (.out v7))
def s_l4Victim (fl : Nat) (a0 : Ca) : Option Int :=
  Option.bind (s_l4Victim_L0 fl a0 fl 0) fun o => match o with
    | .ret r' => some r'
    | .out v2 =>
    Option.bind (s_l4Victim_L1 fl a0 fl a0.h) fun o => match o with
    | .ret r' => some r'
    | .out v7 =>
    some v7

def s_FillLine (fl : Nat) (a0 : Ca) (a1 : Ln) : Option (Ca × Int × Bool) :=
  Option.bind (s_CacheValid fl a0) fun x4 =>
    Option.bind (cond (!x4) (some true) (some (!a1.va))) fun y5 =>
    Option.bind (cond y5 (some true) (Option.bind (s_l4Line fl a1) fun x7 =>
    some (!x7))) fun y6 =>
    cond y6
   (some ((⟨[], 0⟩ : Ca), 0, false))
   (Option.bind (s_l4Victim fl a0) fun x9 =>
      Option.bind (s_l4Copy fl a0) fun x10 =>
      Option.bind (idx a0.l x9) fun x16 =>
      cond x16.va
     (Option.bind (ck (x9 + 1)) fun x18 =>
        Option.bind (remO x18 ((a0.l).length : Int)) fun x19 =>
        Option.bind (idx x10.l x9) fun x20 =>
        Option.bind (s_CacheValid fl (⟨(x10.l.set (Int.toNat x9) a1), x19⟩ : Ca)) fun x22 =>
        Option.bind (cond (!x22) (some true) (Option.bind (s_l4Find fl a0 a1.tg a1.pg) fun x24 =>
        some (decide (0 ≤ x24)))) fun y23 =>
        cond y23
       (some ((⟨[], 0⟩ : Ca), 0, false))
       (some ((⟨(x10.l.set (Int.toNat x9) a1), x19⟩ : Ca), x9, true)))
     (Option.bind (idx x10.l x9) fun x26 =>
        Option.bind (s_CacheValid fl (⟨(x10.l.set (Int.toNat x9) a1), x10.h⟩ : Ca)) fun x28 =>
        Option.bind (cond (!x28) (some true) (Option.bind (s_l4Find fl a0 a1.tg a1.pg) fun x30 =>
        some (decide (0 ≤ x30)))) fun y29 =>
        cond y29
       (some ((⟨[], 0⟩ : Ca), 0, false))
       (some ((⟨(x10.l.set (Int.toNat x9) a1), x10.h⟩ : Ca), x9, true))))

def s_l6Fill (fl : Nat) (a0 : Mc) (a1 : Int) (a2 : Int) (a3 : Int) : Option (Mc × Int) :=
  Option.bind (s_l6Copy fl a0) fun x3 =>
    Option.bind (idx a0.t.f a2) fun x21 =>
    Option.bind (s_FillLine fl a0.c (⟨true, a3, a1, a2, x21.r, false⟩ : Ln)) fun x23 =>
    some ((⟨x3.t, x23.1, x3.g, x3.s⟩ : Mc), x23.2.1)

def s_TouchPage (fl : Nat) (a0 : Mc) (a1 : Int) (a2 : Int) : Option (Mc × Int × Int × Bool) :=
  Option.bind (s_MachineValid fl a0) fun x3 =>
    Option.bind (cond (!x3) (some true) (Option.bind (s_l1Page fl a1) fun x5 =>
    some (!x5))) fun y4 =>
    Option.bind (cond y4 (some true) (Option.bind (s_RightsValid fl a2) fun x7 =>
    some (!x7))) fun y6 =>
    cond y6
   (some ((⟨(⟨[], []⟩ : T), (⟨[], 0⟩ : Ca), (⟨0, 0, 0, []⟩ : Tg), 0⟩ : Mc), 0, 0, false))
   (Option.bind (s_l6Tag fl a0 a0.s a1) fun x9 =>
      Option.bind (s_l6Copy fl a0) fun x10 =>
      Option.bind (s_l4Find fl a0.c x9.1 a1) fun x28 =>
      cond (decide (0 ≤ x28))
     (Option.bind (idx a0.c.l x28) fun x30 =>
        Option.bind (idx a0.t.f x30.fr) fun x31 =>
        Option.bind (s_Allows fl x31.r a2) fun x32 =>
        cond (!x32)
       (some (x10, x30.fr, 4, true))
       (some (x10, x30.fr, 1, true)))
     (Option.bind (s_KeyFor fl a0.s a1) fun x34 =>
        Option.bind (s_l3Find fl a0.t x34) fun x35 =>
        cond (decide (x35.1 < 0))
       (some (x10, 0, 3, true))
       (Option.bind (s_l6Fill fl a0 a1 x35.1 x9.1) fun x37 =>
          Option.bind (idx a0.t.f x35.1) fun x54 =>
          Option.bind (s_Allows fl x54.r a2) fun x55 =>
          cond (!x55)
         (some (x37.1, x35.1, 4, true))
         (some (x37.1, x35.1, 2, true)))))

def i_Allows (fl : Nat) (a0 : Int) (a1 : Int) : Option Bool :=
  Option.bind (i_RightsValid fl a0) fun x1 =>
    Option.bind (cond x1 (Option.bind (i_RightsValid fl a1) fun x3 =>
    some x3) (some false)) fun y2 =>
    Option.bind (cond y2 (some ((bAndNot a1 a0) == 0)) (some false)) fun y4 =>
    some y4

def i_VictimOf_L0 (fl : Nat) (a0 : Ca) : Nat → Int → Option (LO Int (Int × Bool))
  | 0, _ => none
  | fuel + 1, v4 => cond (decide (v4 < ((a0.l).length : Int)))
     (Option.bind (idx a0.l v4) fun x6 =>
        cond (!x6.va)
       (some (.ret (v4, true)))
       (Option.bind (ck (v4 + 1)) fun x9 =>
          i_VictimOf_L0 fl a0 fuel x9))
     (some (.out v4))
def i_VictimOf_L1 (fl : Nat) (a0 : Ca) : Nat → Int → Option (LO Int (Int × Bool))
  | 0, _ => none
  | fuel + 1, v10 => Option.bind (idx a0.l v10) fun x11 =>
      cond x11.wi
     (Option.bind (ck (v10 + 1)) fun x13 =>
        Option.bind (remO x13 ((a0.l).length : Int)) fun x14 =>
        i_VictimOf_L1 fl a0 fuel x14)
     (some (.out v10))
def i_VictimOf (fl : Nat) (a0 : Ca) : Option (Int × Bool) :=
  Option.bind (i_CacheValid fl a0) fun x2 =>
    cond (!x2)
   (some (0, false))
   (Option.bind (i_VictimOf_L0 fl a0 fl 0) fun o => match o with
      | .ret r' => some r'
      | .out v4 =>
      Option.bind (i_VictimOf_L1 fl a0 fl a0.h) fun o => match o with
      | .ret r' => some r'
      | .out v10 =>
      some (v10, true))

def i_Cache_with (fl : Nat) (a0 : Ca) (a1 : Int) (a2 : Ln) : Option Ca :=
  Option.bind (slices_Clone_Line fl a0.l) fun x4 =>
    Option.bind (idx x4 a1) fun x10 =>
    some (⟨(x4.set (Int.toNat a1) a2), a0.h⟩ : Ca)

def i_FillLine (fl : Nat) (a0 : Ca) (a1 : Ln) : Option (Ca × Int × Bool) :=
  Option.bind (i_VictimOf fl a0) fun x4 =>
    Option.bind (cond (!x4.2) (some true) (some (!a1.va))) fun y5 =>
    Option.bind (cond y5 (some true) (Option.bind (i_lineValid fl a1) fun x7 =>
    some (!x7))) fun y6 =>
    Option.bind (cond y6 (some true) (Option.bind (i_Cache_place fl a0 a1.tg a1.pg) fun x9 =>
    some (decide (0 ≤ x9)))) fun y8 =>
    cond y8
   (some ((⟨[], 0⟩ : Ca), 0, false))
   (Option.bind (i_Cache_with fl a0 x4.1 a1) fun x11 =>
      Option.bind (idx a0.l x4.1) fun x17 =>
      cond x17.va
     (Option.bind (ck (x4.1 + 1)) fun x19 =>
        Option.bind (remO x19 ((a0.l).length : Int)) fun x20 =>
        Option.bind (i_CacheValid fl (⟨x11.l, x20⟩ : Ca)) fun x21 =>
        cond (!x21)
       (some ((⟨[], 0⟩ : Ca), 0, false))
       (some ((⟨x11.l, x20⟩ : Ca), x4.1, true)))
     (Option.bind (i_CacheValid fl x11) fun x23 =>
        cond (!x23)
       (some ((⟨[], 0⟩ : Ca), 0, false))
       (some (x11, x4.1, true))))

def i_TouchPage (fl : Nat) (a0 : Mc) (a1 : Int) (a2 : Int) : Option (Mc × Int × Int × Bool) :=
  Option.bind (i_MachineValid fl a0) fun x3 =>
    Option.bind (cond (!x3) (some true) (Option.bind (i_within fl a1 256) fun x5 =>
    some (!x5))) fun y4 =>
    Option.bind (cond y4 (some true) (Option.bind (i_RightsValid fl a2) fun x7 =>
    some (!x7))) fun y6 =>
    cond y6
   (some ((⟨(⟨[], []⟩ : T), (⟨[], 0⟩ : Ca), (⟨0, 0, 0, []⟩ : Tg), 0⟩ : Mc), 0, 0, false))
   (Option.bind (i_Machine_clone fl a0) fun x9 =>
      Option.bind (i_Machine_tagFor fl a0 a0.s a1) fun x27 =>
      Option.bind (i_Cache_place fl a0.c x27.1 a1) fun x28 =>
      cond (decide (0 ≤ x28))
     (Option.bind (idx a0.c.l x28) fun x30 =>
        Option.bind (i_Allows fl x30.ri a2) fun x31 =>
        cond (!x31)
       (some (x9, x30.fr, 4, true))
       (some (x9, x30.fr, 1, true)))
     (Option.bind (i_KeyFor fl a0.s a1) fun x33 =>
        Option.bind (i_Table_find fl a0.t x33) fun x34 =>
        cond (decide (x34 < 0))
       (some (x9, 0, 3, true))
       (Option.bind (idx a0.t.f x34) fun x36 =>
          Option.bind (i_FillLine fl x9.c (⟨true, x27.1, a1, x34, x36.r, false⟩ : Ln)) fun x37 =>
          cond (!x37.2.2)
         (some ((⟨(⟨[], []⟩ : T), (⟨[], 0⟩ : Ca), (⟨0, 0, 0, []⟩ : Tg), 0⟩ : Mc), 0, 0, false))
         (Option.bind (i_Allows fl x36.r a2) fun x44 =>
            cond (!x44)
           (some ((⟨x9.t, x37.1, x9.g, x9.s⟩ : Mc), x34, 4, true))
           (some ((⟨x9.t, x37.1, x9.g, x9.s⟩ : Mc), x34, 2, true))))))

def l_FnExactTouchPage (fl : Nat) (a0 : Mc) (a1 : Int) (a2 : Int) : Option Bool :=
  Option.bind (l_szMachine fl a0 1048576) fun x2 =>
    cond (decide (x2 < 0))
   (some true)
   (Option.bind (l_toMachine fl a0) fun x4 =>
      Option.bind (s_TouchPage fl x4 a1 a2) fun x21 =>
      Option.bind (l_toMachine fl a0) fun x39 =>
      Option.bind (i_TouchPage fl x39 a1 a2) fun x57 =>
      Option.bind (l_eqMachine fl x57.1 x21.1) fun x75 =>
      Option.bind (cond (!x75) (some true) (some (x57.2.1 != x21.2.1))) fun y76 =>
      Option.bind (cond y76 (some true) (some (x57.2.2.1 != x21.2.2.1))) fun y77 =>
      Option.bind (cond y77 (some true) (some (x57.2.2.2 != x21.2.2.2))) fun y78 =>
      cond y78
     (some false)
     (Option.bind (l_toMachine fl a0) fun x80 =>
        Option.bind (l_eqMachine fl x39 x80) fun x97 =>
        cond (!x97)
       (some false)
       (Option.bind (l_markMachine fl x39 1) fun x99 =>
          Option.bind (cond (decide (x99.1 < 0)) (some true) (some (!x75))) fun y104 =>
          Option.bind (cond y104 (some true) (some (x57.2.1 != x21.2.1))) fun y105 =>
          Option.bind (cond y105 (some true) (some (x57.2.2.1 != x21.2.2.1))) fun y106 =>
          Option.bind (cond y106 (some true) (some (x57.2.2.2 != x21.2.2.2))) fun y107 =>
          cond y107
         (some false)
         (Option.bind (l_markMachine fl x57.1 1) fun x109 =>
            Option.bind (l_heldMachine fl (⟨(⟨x109.2.1, x109.2.2.1⟩ : T), (⟨x109.2.2.2.1, x57.1.c.h⟩ : Ca), (⟨x57.1.g.c, x57.1.g.n, x57.1.g.r, x109.2.2.2.2⟩ : Tg), x57.1.s⟩ : Mc) 1) fun x114 =>
            cond (decide (x114 < 0))
           (some false)
           (cond (x114 != x109.1)
             (some false)
             (Option.bind (l_toMachine fl a0) fun x117 =>
                Option.bind (i_TouchPage fl x117 a1 a2) fun x134 =>
                Option.bind (l_eqMachine fl x134.1 x21.1) fun x152 =>
                Option.bind (cond (!x152) (some true) (some (x134.2.1 != x21.2.1))) fun y153 =>
                Option.bind (cond y153 (some true) (some (x134.2.2.1 != x21.2.2.1))) fun y154 =>
                Option.bind (cond y154 (some true) (some (x134.2.2.2 != x21.2.2.2))) fun y155 =>
                cond y155
               (some false)
               (cond (decide (x114 < 0))
                 (some false)
                 (cond (x114 != x109.1)
                   (some false)
                   (some true)))))))))

def s_WireLine (fl : Nat) (a0 : Ca) (a1 : Int) (a2 : Bool) : Option (Ca × Bool) :=
  Option.bind (s_CacheValid fl a0) fun x3 =>
    Option.bind (cond (!x3) (some true) (some (decide (a1 < 0)))) fun y4 =>
    Option.bind (cond y4 (some true) (some (decide (((a0.l).length : Int) ≤ a1)))) fun y5 =>
    Option.bind (cond y5 (some true) (Option.bind (idx a0.l a1) fun x7 =>
    some (!x7.va))) fun y6 =>
    cond y6
   (some ((⟨[], 0⟩ : Ca), false))
   (Option.bind (s_l4Copy fl a0) fun x9 =>
      Option.bind (idx x9.l a1) fun x15 =>
      Option.bind (s_CacheValid fl (⟨(x9.l.set (Int.toNat a1) (⟨x15.va, x15.tg, x15.pg, x15.fr, x15.ri, a2⟩ : Ln)), x9.h⟩ : Ca)) fun x17 =>
      cond (!x17)
     (some ((⟨[], 0⟩ : Ca), false))
     (some ((⟨(x9.l.set (Int.toNat a1) (⟨x15.va, x15.tg, x15.pg, x15.fr, x15.ri, a2⟩ : Ln)), x9.h⟩ : Ca), true)))

def s_WirePage (fl : Nat) (a0 : Mc) (a1 : Int) : Option (Mc × Bool) :=
  Option.bind (s_TouchPage fl a0 a1 0) fun x3 =>
    Option.bind (cond (!x3.2.2.2) (some true) (some (x3.2.2.1 == 3))) fun y21 =>
    Option.bind (cond y21 (some true) (some (decide (a1 < 128)))) fun y22 =>
    cond y22
   (some ((⟨(⟨[], []⟩ : T), (⟨[], 0⟩ : Ca), (⟨0, 0, 0, []⟩ : Tg), 0⟩ : Mc), false))
   (Option.bind (s_l4Find fl x3.1.c (-1) a1) fun x24 =>
      Option.bind (s_WireLine fl x3.1.c x24 true) fun x25 =>
      cond (!x25.2)
     (some ((⟨(⟨[], []⟩ : T), (⟨[], 0⟩ : Ca), (⟨0, 0, 0, []⟩ : Tg), 0⟩ : Mc), false))
     (some ((⟨x3.1.t, x25.1, x3.1.g, x3.1.s⟩ : Mc), true)))

def i_WireLine (fl : Nat) (a0 : Ca) (a1 : Int) (a2 : Bool) : Option (Ca × Bool) :=
  Option.bind (i_CacheValid fl a0) fun x3 =>
    Option.bind (cond (!x3) (some true) (Option.bind (i_within fl a1 ((a0.l).length : Int)) fun x5 =>
    some (!x5))) fun y4 =>
    Option.bind (cond y4 (some true) (Option.bind (idx a0.l a1) fun x7 =>
    some (!x7.va))) fun y6 =>
    cond y6
   (some ((⟨[], 0⟩ : Ca), false))
   (Option.bind (idx a0.l a1) fun x9 =>
      Option.bind (i_Cache_with fl a0 a1 (⟨x9.va, x9.tg, x9.pg, x9.fr, x9.ri, a2⟩ : Ln)) fun x11 =>
      Option.bind (i_CacheValid fl x11) fun x17 =>
      cond (!x17)
     (some ((⟨[], 0⟩ : Ca), false))
     (some (x11, true)))

def i_WirePage (fl : Nat) (a0 : Mc) (a1 : Int) : Option (Mc × Bool) :=
  Option.bind (i_TouchPage fl a0 a1 0) fun x3 =>
    Option.bind (cond (!x3.2.2.2) (some true) (some (decide (a1 < 128)))) fun y21 =>
    Option.bind (cond y21 (some true) (some (x3.2.2.1 == 3))) fun y22 =>
    cond y22
   (some ((⟨(⟨[], []⟩ : T), (⟨[], 0⟩ : Ca), (⟨0, 0, 0, []⟩ : Tg), 0⟩ : Mc), false))
   (Option.bind (i_Cache_place fl x3.1.c (-1) a1) fun x24 =>
      Option.bind (i_WireLine fl x3.1.c x24 true) fun x25 =>
      cond (!x25.2)
     (some ((⟨(⟨[], []⟩ : T), (⟨[], 0⟩ : Ca), (⟨0, 0, 0, []⟩ : Tg), 0⟩ : Mc), false))
     (some ((⟨x3.1.t, x25.1, x3.1.g, x3.1.s⟩ : Mc), true)))

def l_FnExactWirePage (fl : Nat) (a0 : Mc) (a1 : Int) : Option Bool :=
  Option.bind (l_szMachine fl a0 1048576) fun x2 =>
    cond (decide (x2 < 0))
   (some true)
   (Option.bind (l_toMachine fl a0) fun x4 =>
      Option.bind (s_WirePage fl x4 a1) fun x21 =>
      Option.bind (l_toMachine fl a0) fun x39 =>
      Option.bind (i_WirePage fl x39 a1) fun x57 =>
      Option.bind (l_eqMachine fl x57.1 x21.1) fun x75 =>
      Option.bind (cond (!x75) (some true) (some (x57.2 != x21.2))) fun y76 =>
      cond y76
     (some false)
     (Option.bind (l_toMachine fl a0) fun x78 =>
        Option.bind (l_eqMachine fl x39 x78) fun x95 =>
        cond (!x95)
       (some false)
       (Option.bind (l_markMachine fl x39 1) fun x97 =>
          Option.bind (cond (decide (x97.1 < 0)) (some true) (some (!x75))) fun y102 =>
          Option.bind (cond y102 (some true) (some (x57.2 != x21.2))) fun y103 =>
          cond y103
         (some false)
         (Option.bind (l_markMachine fl x57.1 1) fun x105 =>
            Option.bind (l_heldMachine fl (⟨(⟨x105.2.1, x105.2.2.1⟩ : T), (⟨x105.2.2.2.1, x57.1.c.h⟩ : Ca), (⟨x57.1.g.c, x57.1.g.n, x57.1.g.r, x105.2.2.2.2⟩ : Tg), x57.1.s⟩ : Mc) 1) fun x110 =>
            cond (decide (x110 < 0))
           (some false)
           (cond (x110 != x105.1)
             (some false)
             (Option.bind (l_toMachine fl a0) fun x113 =>
                Option.bind (i_WirePage fl x113 a1) fun x130 =>
                Option.bind (l_eqMachine fl x130.1 x21.1) fun x148 =>
                Option.bind (cond (!x148) (some true) (some (x130.2 != x21.2))) fun y149 =>
                cond y149
               (some false)
               (cond (decide (x110 < 0))
                 (some false)
                 (cond (x110 != x105.1)
                   (some false)
                   (some true)))))))))

def s_NewMemory (fl : Nat) (a0 : Mc) : Option (Mm × Bool) :=
  Option.bind (s_MachineValid fl a0) fun x3 =>
    cond (!x3)
   (some ((⟨(⟨(⟨[], []⟩ : T), (⟨[], 0⟩ : Ca), (⟨0, 0, 0, []⟩ : Tg), 0⟩ : Mc), [], 0⟩ : Mm), false))
   (Option.bind (s_l6Copy fl a0) fun x5 =>
      Option.bind (mkO ((a0.t.f).length : Int)) fun x22 =>
      some ((⟨x5, (List.replicate x22 false), 0⟩ : Mm), true))

def i_NewMemory (fl : Nat) (a0 : Mc) : Option (Mm × Bool) :=
  Option.bind (i_MachineValid fl a0) fun x3 =>
    cond (!x3)
   (some ((⟨(⟨(⟨[], []⟩ : T), (⟨[], 0⟩ : Ca), (⟨0, 0, 0, []⟩ : Tg), 0⟩ : Mc), [], 0⟩ : Mm), false))
   (Option.bind (i_Machine_clone fl a0) fun x5 =>
      Option.bind (mkO ((a0.t.f).length : Int)) fun x22 =>
      some ((⟨x5, (List.replicate x22 false), 0⟩ : Mm), true))

def l_eqBoolS_L0 (fl : Nat) (a0 : (List Bool)) (a1 : (List Bool)) : Nat → Int → Option (LO Int Bool)
  | 0, _ => none
  | fuel + 1, v2 => cond (decide (v2 < ((a0).length : Int)))
     (Option.bind (idx a0 v2) fun x4 =>
        Option.bind (idx a1 v2) fun x5 =>
        cond (x4 != x5)
       (some (.ret false))
       (Option.bind (ck (v2 + 1)) fun x7 =>
          l_eqBoolS_L0 fl a0 a1 fuel x7))
     (some (.out v2))
def l_eqBoolS (fl : Nat) (a0 : (List Bool)) (a1 : (List Bool)) : Option Bool :=
  cond (((a0).length : Int) != ((a1).length : Int))
   (some false)
   (Option.bind (l_eqBoolS_L0 fl a0 a1 fl 0) fun o => match o with
      | .ret r' => some r'
      | .out v2 =>
      some true)

def l_eqMemory (fl : Nat) (a0 : Mm) (a1 : Mm) : Option Bool :=
  Option.bind (l_eqMachine fl a0.m a1.m) fun x3 =>
    cond (!x3)
   (some false)
   (Option.bind (l_eqBoolS fl a0.k a1.k) fun x5 =>
      cond (!x5)
     (some false)
     (cond (a0.h != a1.h)
       (some false)
       (some true)))

def l_markBoolS_L0 (fl : Nat) (a0 : (List Bool)) : Nat → (List Bool) → Int → Int → Option (LO ((List Bool) × Int × Int) (Int × (List Bool)))
  | 0, _, _, _ => none
  | fuel + 1, v1, v3, v4 => cond (decide (v4 < ((a0).length : Int)))
     (Option.bind (remO v3 3) fun x6 =>
        Option.bind (idx v1 v4) fun x7 =>
        Option.bind (ck (v3 + 1)) fun x9 =>
        Option.bind (ck (v4 + 1)) fun x10 =>
        l_markBoolS_L0 fl a0 fuel (v1.set (Int.toNat v4) (x6 == 0)) x9 x10)
     (some (.out (v1, v3, v4)))
def l_markBoolS (fl : Nat) (a0 : (List Bool)) (a1 : Int) : Option (Int × (List Bool)) :=
  Option.bind (l_markBoolS_L0 fl a0 fl a0 a1 0) fun o => match o with
    | .ret r' => some r'
    | .out (v1, v3, v4) =>
    some (v3, v1)

def l_markMemory (fl : Nat) (a0 : Mm) (a1 : Int) : Option (Int × (List Int) × (List F) × (List Ln) × (List Ow) × (List Bool)) :=
  Option.bind (l_markMachine fl a0.m a1) fun x2 =>
    Option.bind (l_markBoolS fl a0.k x2.1) fun x7 =>
    some (x7.1, x2.2.1, x2.2.2.1, x2.2.2.2.1, x2.2.2.2.2, x7.2)

def l_heldBoolS_L0 (fl : Nat) (a0 : (List Bool)) : Nat → Int → Int → Option (LO (Int × Int) Int)
  | 0, _, _ => none
  | fuel + 1, v1, v2 => cond (decide (v2 < ((a0).length : Int)))
     (Option.bind (idx a0 v2) fun x4 =>
        Option.bind (remO v1 3) fun x5 =>
        cond (x4 != (x5 == 0))
       (some (.ret (-1)))
       (Option.bind (ck (v1 + 1)) fun x7 =>
          Option.bind (ck (v2 + 1)) fun x8 =>
          l_heldBoolS_L0 fl a0 fuel x7 x8))
     (some (.out (v1, v2)))
def l_heldBoolS (fl : Nat) (a0 : (List Bool)) (a1 : Int) : Option Int :=
  Option.bind (l_heldBoolS_L0 fl a0 fl a1 0) fun o => match o with
    | .ret r' => some r'
    | .out (v1, v2) =>
    some v1

def l_heldMemory (fl : Nat) (a0 : Mm) (a1 : Int) : Option Int :=
  Option.bind (l_heldMachine fl a0.m a1) fun x2 =>
    cond (decide (x2 < 0))
   (some (-1))
   (Option.bind (l_heldBoolS fl a0.k x2) fun x4 =>
      cond (decide (x4 < 0))
     (some (-1))
     (some x4))

def l_FnExactNewMemory (fl : Nat) (a0 : Mc) : Option Bool :=
  Option.bind (l_szMachine fl a0 1048576) fun x2 =>
    cond (decide (x2 < 0))
   (some true)
   (Option.bind (l_toMachine fl a0) fun x4 =>
      Option.bind (s_NewMemory fl x4) fun x21 =>
      Option.bind (l_toMachine fl a0) fun x43 =>
      Option.bind (i_NewMemory fl x43) fun x61 =>
      Option.bind (l_eqMemory fl x61.1 x21.1) fun x83 =>
      Option.bind (cond (!x83) (some true) (some (x61.2 != x21.2))) fun y84 =>
      cond y84
     (some false)
     (Option.bind (l_toMachine fl a0) fun x86 =>
        Option.bind (l_eqMachine fl x43 x86) fun x103 =>
        cond (!x103)
       (some false)
       (Option.bind (l_markMachine fl x43 1) fun x105 =>
          Option.bind (cond (decide (x105.1 < 0)) (some true) (some (!x83))) fun y110 =>
          Option.bind (cond y110 (some true) (some (x61.2 != x21.2))) fun y111 =>
          cond y111
         (some false)
         (Option.bind (l_markMemory fl x61.1 1) fun x113 =>
            Option.bind (l_heldMemory fl (⟨(⟨(⟨x113.2.1, x113.2.2.1⟩ : T), (⟨x113.2.2.2.1, x61.1.m.c.h⟩ : Ca), (⟨x61.1.m.g.c, x61.1.m.g.n, x61.1.m.g.r, x113.2.2.2.2.1⟩ : Tg), x61.1.m.s⟩ : Mc), x113.2.2.2.2.2, x61.1.h⟩ : Mm) 1) fun x119 =>
            cond (decide (x119 < 0))
           (some false)
           (cond (x119 != x113.1)
             (some false)
             (Option.bind (l_toMachine fl a0) fun x122 =>
                Option.bind (i_NewMemory fl x122) fun x139 =>
                Option.bind (l_eqMemory fl x139.1 x21.1) fun x161 =>
                Option.bind (cond (!x161) (some true) (some (x139.2 != x21.2))) fun y162 =>
                cond y162
               (some false)
               (cond (decide (x119 < 0))
                 (some false)
                 (cond (x119 != x113.1)
                   (some false)
                   (some true)))))))))

def l_szBoolS (fl : Nat) (a0 : (List Bool)) (a1 : Int) : Option Int :=
  Option.bind (ck (a1 - ((a0).length : Int))) fun x1 =>
    cond (decide (x1 < 0))
   (some (-1))
   (some x1)

def l_szMemory (fl : Nat) (a0 : Mm) (a1 : Int) : Option Int :=
  Option.bind (l_szMachine fl a0.m a1) fun x2 =>
    cond (decide (x2 < 0))
   (some (-1))
   (Option.bind (l_szBoolS fl a0.k x2) fun x4 =>
      cond (decide (x4 < 0))
     (some (-1))
     (some x4))

def l_toBoolS_L0 (fl : Nat) (a0 : (List Bool)) : Nat → (List Bool) → Int → Option (LO ((List Bool) × Int) ((List Bool)))
  | 0, _, _ => none
  | fuel + 1, v4, v6 => cond (decide (v6 < ((a0).length : Int)))
     (Option.bind (idx a0 v6) fun x8 =>
        Option.bind (idx v4 v6) fun x9 =>
        Option.bind (ck (v6 + 1)) fun x11 =>
        l_toBoolS_L0 fl a0 fuel (v4.set (Int.toNat v6) x8) x11)
     (some (.out (v4, v6)))
def l_toBoolS (fl : Nat) (a0 : (List Bool)) : Option (List Bool) :=
  Option.bind (mkO ((a0).length : Int)) fun x1 =>
    Option.bind (l_toBoolS_L0 fl a0 fl (List.replicate x1 false) 0) fun o => match o with
    | .ret r' => some r'
    | .out (v4, v6) =>
    some v4

def l_toMemory (fl : Nat) (a0 : Mm) : Option Mm :=
  Option.bind (l_toMachine fl a0.m) fun x4 =>
    Option.bind (l_toBoolS fl a0.k) fun x21 =>
    some (⟨x4, x21, a0.h⟩ : Mm)

def s_MemoryValid_L0 (fl : Nat) (a0 : Mm) : Nat → Int → Option (LO Int Bool)
  | 0, _ => none
  | fuel + 1, v7 => cond (decide (v7 < ((a0.k).length : Int)))
     (Option.bind (idx a0.k v7) fun x9 =>
        Option.bind (cond x9 (Option.bind (idx a0.m.t.f v7) fun x11 =>
        some (!x11.u)) (some false)) fun y10 =>
        cond y10
       (some (.ret false))
       (Option.bind (ck (v7 + 1)) fun x13 =>
          s_MemoryValid_L0 fl a0 fuel x13))
     (some (.out v7))
def s_MemoryValid (fl : Nat) (a0 : Mm) : Option Bool :=
  Option.bind (s_MachineValid fl a0.m) fun x2 =>
    Option.bind (cond (!x2) (some true) (some (((a0.k).length : Int) != ((a0.m.t.f).length : Int)))) fun y3 =>
    Option.bind (cond y3 (some true) (some (decide (a0.h < 0)))) fun y4 =>
    Option.bind (cond y4 (some true) (some (decide (((a0.k).length : Int) ≤ a0.h)))) fun y5 =>
    cond y5
   (some false)
   (Option.bind (s_MemoryValid_L0 fl a0 fl 0) fun o => match o with
      | .ret r' => some r'
      | .out v7 =>
      some true)

def s_l7Copy (fl : Nat) (a0 : Mm) : Option Mm :=
  Option.bind (s_l6Copy fl a0.m) fun x3 =>
    Option.bind (cnt (([] : List Bool) ++ a0.k)) fun x22 =>
    some (⟨x3, x22, a0.h⟩ : Mm)

def s_ClearMarks (fl : Nat) (a0 : Mm) : Option (Mm × Bool) :=
  Option.bind (s_MemoryValid fl a0) fun x3 =>
    cond (!x3)
   (some ((⟨(⟨(⟨[], []⟩ : T), (⟨[], 0⟩ : Ca), (⟨0, 0, 0, []⟩ : Tg), 0⟩ : Mc), [], 0⟩ : Mm), false))
   (Option.bind (s_l7Copy fl a0) fun x5 =>
      Option.bind (mkO ((a0.k).length : Int)) fun x27 =>
      some ((⟨x5.m, (List.replicate x27 false), x5.h⟩ : Mm), true))

def i_MemoryValid_L0 (fl : Nat) (a0 : Mm) : Nat → Int → Option (LO Int Bool)
  | 0, _ => none
  | fuel + 1, v7 => cond (decide (v7 < ((a0.k).length : Int)))
     (Option.bind (idx a0.k v7) fun x9 =>
        Option.bind (cond x9 (Option.bind (idx a0.m.t.f v7) fun x11 =>
        some (!x11.u)) (some false)) fun y10 =>
        cond y10
       (some (.ret false))
       (Option.bind (ck (v7 + 1)) fun x13 =>
          i_MemoryValid_L0 fl a0 fuel x13))
     (some (.out v7))
def i_MemoryValid (fl : Nat) (a0 : Mm) : Option Bool :=
  Option.bind (i_MachineValid fl a0.m) fun x2 =>
    Option.bind (cond (!x2) (some true) (some (((a0.k).length : Int) != ((a0.m.t.f).length : Int)))) fun y3 =>
    Option.bind (cond y3 (some true) (Option.bind (i_within fl a0.h ((a0.m.t.f).length : Int)) fun x5 =>
    some (!x5))) fun y4 =>
    cond y4
   (some false)
   (Option.bind (i_MemoryValid_L0 fl a0 fl 0) fun o => match o with
      | .ret r' => some r'
      | .out v7 =>
      some true)

def slices_Clone_Bool (fl : Nat) (a0 : (List Bool)) : Option (List Bool) :=
  cnt a0

def i_Memory_clone (fl : Nat) (a0 : Mm) : Option Mm :=
  Option.bind (i_Machine_clone fl a0.m) fun x3 =>
    Option.bind (slices_Clone_Bool fl a0.k) fun x20 =>
    some (⟨x3, x20, a0.h⟩ : Mm)

def i_ClearMarks (fl : Nat) (a0 : Mm) : Option (Mm × Bool) :=
  Option.bind (i_MemoryValid fl a0) fun x3 =>
    cond (!x3)
   (some ((⟨(⟨(⟨[], []⟩ : T), (⟨[], 0⟩ : Ca), (⟨0, 0, 0, []⟩ : Tg), 0⟩ : Mc), [], 0⟩ : Mm), false))
   (Option.bind (i_Memory_clone fl a0) fun x5 =>
      some ((⟨x5.m, (List.replicate (x5.k).length false), x5.h⟩ : Mm), true))

def l_FnExactClearMarks (fl : Nat) (a0 : Mm) : Option Bool :=
  Option.bind (l_szMemory fl a0 1048576) fun x2 =>
    cond (decide (x2 < 0))
   (some true)
   (Option.bind (l_toMemory fl a0) fun x4 =>
      Option.bind (s_ClearMarks fl x4) fun x25 =>
      Option.bind (l_toMemory fl a0) fun x47 =>
      Option.bind (i_ClearMarks fl x47) fun x69 =>
      Option.bind (l_eqMemory fl x69.1 x25.1) fun x91 =>
      Option.bind (cond (!x91) (some true) (some (x69.2 != x25.2))) fun y92 =>
      cond y92
     (some false)
     (Option.bind (l_toMemory fl a0) fun x94 =>
        Option.bind (l_eqMemory fl x47 x94) fun x115 =>
        cond (!x115)
       (some false)
       (Option.bind (l_markMemory fl x47 1) fun x117 =>
          Option.bind (cond (decide (x117.1 < 0)) (some true) (some (!x91))) fun y123 =>
          Option.bind (cond y123 (some true) (some (x69.2 != x25.2))) fun y124 =>
          cond y124
         (some false)
         (Option.bind (l_markMemory fl x69.1 1) fun x126 =>
            Option.bind (l_heldMemory fl (⟨(⟨(⟨x126.2.1, x126.2.2.1⟩ : T), (⟨x126.2.2.2.1, x69.1.m.c.h⟩ : Ca), (⟨x69.1.m.g.c, x69.1.m.g.n, x69.1.m.g.r, x126.2.2.2.2.1⟩ : Tg), x69.1.m.s⟩ : Mc), x126.2.2.2.2.2, x69.1.h⟩ : Mm) 1) fun x132 =>
            cond (decide (x132 < 0))
           (some false)
           (cond (x132 != x126.1)
             (some false)
             (Option.bind (l_toMemory fl a0) fun x135 =>
                Option.bind (i_ClearMarks fl x135) fun x156 =>
                Option.bind (l_eqMemory fl x156.1 x25.1) fun x178 =>
                Option.bind (cond (!x178) (some true) (some (x156.2 != x25.2))) fun y179 =>
                cond y179
               (some false)
               (cond (decide (x132 < 0))
                 (some false)
                 (cond (x132 != x126.1)
                   (some false)
                   (some true)))))))))

def s_l7Wired_L0 (fl : Nat) (a0 : Mc) (a1 : Int) : Nat → Int → Option (LO Int Bool)
  | 0, _ => none
  | fuel + 1, v2 => cond (decide (v2 < ((a0.c.l).length : Int)))
     (Option.bind (idx a0.c.l v2) fun x4 =>
        Option.bind (cond x4.va (some x4.wi) (some false)) fun y6 =>
        Option.bind (cond y6 (some (x4.fr == a1)) (some false)) fun y7 =>
        cond y7
       (some (.ret true))
       (Option.bind (ck (v2 + 1)) fun x9 =>
          s_l7Wired_L0 fl a0 a1 fuel x9))
     (some (.out v2))
def s_l7Wired (fl : Nat) (a0 : Mc) (a1 : Int) : Option Bool :=
  Option.bind (s_l7Wired_L0 fl a0 a1 fl 0) fun o => match o with
    | .ret r' => some r'
    | .out v2 =>
    some false

def s_l7Clock_L0 (fl : Nat) (x3 : Mm) : Nat → Int → (List Bool) → Int → Option (LO (Int × (List Bool) × Int) (Mm × Int))
  | 0, _, _, _ => none
  | fuel + 1, v25, v26, v28 => Option.bind (ck (2 * ((x3.k).length : Int))) fun x29 =>
      cond (decide (v28 < x29))
     (Option.bind (ck (v25 + 1)) fun x31 =>
        Option.bind (remO x31 ((x3.k).length : Int)) fun x32 =>
        Option.bind (idx x3.m.t.f v25) fun x33 =>
        Option.bind (cond (!x33.u) (some true) (Option.bind (s_l7Wired fl x3.m v25) fun x35 =>
        some x35)) fun y34 =>
        cond y34
       (Option.bind (ck (v28 + 1)) fun x37 =>
          s_l7Clock_L0 fl x3 fuel x32 v26 x37)
       (Option.bind (idx v26 v25) fun x38 =>
          cond (!x38)
         (some (.ret ((⟨x3.m, v26, x32⟩ : Mm), v25)))
         (Option.bind (ck (v28 + 1)) fun x41 =>
            s_l7Clock_L0 fl x3 fuel x32 (v26.set (Int.toNat v25) false) x41)))
     (some (.out (v25, v26, v28)))
def s_l7Clock (fl : Nat) (a0 : Mm) : Option (Mm × Int) :=
  Option.bind (s_l7Copy fl a0) fun x3 =>
    Option.bind (s_l7Clock_L0 fl x3 fl x3.h x3.k 0) fun o => match o with
    | .ret r' => some r'
    | .out (v25, v26, v28) =>
    some ((⟨x3.m, v26, v25⟩ : Mm), (-1))

def s_FrameVictim (fl : Nat) (a0 : Mm) : Option (Mm × Int × Bool) :=
  Option.bind (s_MemoryValid fl a0) fun x3 =>
    cond (!x3)
   (some ((⟨(⟨(⟨[], []⟩ : T), (⟨[], 0⟩ : Ca), (⟨0, 0, 0, []⟩ : Tg), 0⟩ : Mc), [], 0⟩ : Mm), 0, false))
   (Option.bind (s_l7Clock fl a0) fun x5 =>
      cond (decide (x5.2 < 0))
     (some ((⟨(⟨(⟨[], []⟩ : T), (⟨[], 0⟩ : Ca), (⟨0, 0, 0, []⟩ : Tg), 0⟩ : Mc), [], 0⟩ : Mm), 0, false))
     (some (x5.1, x5.2, true)))

def i_FrameVictim_1 (fl : Nat) (a0 : Ln) (ac0 : Int) : Option Bool :=
  Option.bind (cond a0.wi (some (a0.fr == ac0)) (some false)) fun y2 =>
    some y2

def slices_IndexFunc_Line_of_i_FrameVictim_1_L0 (fl : Nat) (a0 : (List Ln)) (a1_0 : Int) : Nat → Int → Option (LO Int Int)
  | 0, _ => none
  | fuel + 1, v1 => cond (decide (v1 < ((a0).length : Int)))
     (Option.bind (idx a0 v1) fun x3 =>
        Option.bind (i_FrameVictim_1 fl x3 a1_0) fun x4 =>
        cond x4
       (some (.ret v1))
       (Option.bind (ck (v1 + 1)) fun x6 =>
          slices_IndexFunc_Line_of_i_FrameVictim_1_L0 fl a0 a1_0 fuel x6))
     (some (.out v1))
def slices_IndexFunc_Line_of_i_FrameVictim_1 (fl : Nat) (a0 : (List Ln)) (a1_0 : Int) : Option Int :=
  Option.bind (slices_IndexFunc_Line_of_i_FrameVictim_1_L0 fl a0 a1_0 fl 0) fun o => match o with
    | .ret r' => some r'
    | .out v1 =>
    some (-1)

def slices_ContainsFunc_Line_of_i_FrameVictim_1 (fl : Nat) (a0 : (List Ln)) (a1_0 : Int) : Option Bool :=
  Option.bind (slices_IndexFunc_Line_of_i_FrameVictim_1 fl a0 a1_0) fun x1 =>
    some (decide (0 ≤ x1))

def i_FrameVictim_L0 (fl : Nat) (x5 : Mm) (x27 : Int) : Nat → Int → (List Bool) → Int → Option (LO (Int × (List Bool) × Int) (Mm × Int × Bool))
  | 0, _, _, _ => none
  | fuel + 1, v28, v29, v31 => cond (decide (v31 < x27))
     (Option.bind (ck (v28 + 1)) fun x34 =>
        Option.bind (remO x34 ((x5.k).length : Int)) fun x35 =>
        Option.bind (slices_ContainsFunc_Line_of_i_FrameVictim_1 fl x5.m.c.l v28) fun x36 =>
        Option.bind (idx x5.m.t.f v28) fun x37 =>
        Option.bind (cond (!x37.u) (some true) (some x36)) fun y38 =>
        cond y38
       (Option.bind (ck (v31 + 1)) fun x40 =>
          i_FrameVictim_L0 fl x5 x27 fuel x35 v29 x40)
       (Option.bind (idx v29 v28) fun x41 =>
          cond x41
         (Option.bind (ck (v31 + 1)) fun x44 =>
            i_FrameVictim_L0 fl x5 x27 fuel x35 (v29.set (Int.toNat v28) false) x44)
         (some (.ret ((⟨x5.m, v29, x35⟩ : Mm), v28, true)))))
     (some (.out (v28, v29, v31)))
def i_FrameVictim (fl : Nat) (a0 : Mm) : Option (Mm × Int × Bool) :=
  Option.bind (i_MemoryValid fl a0) fun x3 =>
    cond (!x3)
   (some ((⟨(⟨(⟨[], []⟩ : T), (⟨[], 0⟩ : Ca), (⟨0, 0, 0, []⟩ : Tg), 0⟩ : Mc), [], 0⟩ : Mm), 0, false))
   (Option.bind (i_Memory_clone fl a0) fun x5 =>
      Option.bind (ck (2 * ((x5.k).length : Int))) fun x27 =>
      Option.bind (i_FrameVictim_L0 fl x5 x27 fl x5.h x5.k 0) fun o => match o with
      | .ret r' => some r'
      | .out (v28, v29, v31) =>
      some ((⟨(⟨(⟨[], []⟩ : T), (⟨[], 0⟩ : Ca), (⟨0, 0, 0, []⟩ : Tg), 0⟩ : Mc), [], 0⟩ : Mm), 0, false))

def l_FnExactFrameVictim (fl : Nat) (a0 : Mm) : Option Bool :=
  Option.bind (l_szMemory fl a0 1048576) fun x2 =>
    cond (decide (x2 < 0))
   (some true)
   (Option.bind (l_toMemory fl a0) fun x4 =>
      Option.bind (s_FrameVictim fl x4) fun x25 =>
      Option.bind (l_toMemory fl a0) fun x47 =>
      Option.bind (i_FrameVictim fl x47) fun x69 =>
      Option.bind (l_eqMemory fl x69.1 x25.1) fun x91 =>
      Option.bind (cond (!x91) (some true) (some (x69.2.1 != x25.2.1))) fun y92 =>
      Option.bind (cond y92 (some true) (some (x69.2.2 != x25.2.2))) fun y93 =>
      cond y93
     (some false)
     (Option.bind (l_toMemory fl a0) fun x95 =>
        Option.bind (l_eqMemory fl x47 x95) fun x116 =>
        cond (!x116)
       (some false)
       (Option.bind (l_markMemory fl x47 1) fun x118 =>
          Option.bind (cond (decide (x118.1 < 0)) (some true) (some (!x91))) fun y124 =>
          Option.bind (cond y124 (some true) (some (x69.2.1 != x25.2.1))) fun y125 =>
          Option.bind (cond y125 (some true) (some (x69.2.2 != x25.2.2))) fun y126 =>
          cond y126
         (some false)
         (Option.bind (l_markMemory fl x69.1 1) fun x128 =>
            Option.bind (l_heldMemory fl (⟨(⟨(⟨x128.2.1, x128.2.2.1⟩ : T), (⟨x128.2.2.2.1, x69.1.m.c.h⟩ : Ca), (⟨x69.1.m.g.c, x69.1.m.g.n, x69.1.m.g.r, x128.2.2.2.2.1⟩ : Tg), x69.1.m.s⟩ : Mc), x128.2.2.2.2.2, x69.1.h⟩ : Mm) 1) fun x134 =>
            cond (decide (x134 < 0))
           (some false)
           (cond (x134 != x128.1)
             (some false)
             (Option.bind (l_toMemory fl a0) fun x137 =>
                Option.bind (i_FrameVictim fl x137) fun x158 =>
                Option.bind (l_eqMemory fl x158.1 x25.1) fun x180 =>
                Option.bind (cond (!x180) (some true) (some (x158.2.1 != x25.2.1))) fun y181 =>
                Option.bind (cond y181 (some true) (some (x158.2.2 != x25.2.2))) fun y182 =>
                cond y182
               (some false)
               (cond (decide (x134 < 0))
                 (some false)
                 (cond (x134 != x128.1)
                   (some false)
                   (some true)))))))))
end
end Go.Proofs.YtbgodaeccgjdgaaGreatDoor
