/- The pure functions: what each function of the program computes, in plain Lean. Printed by a program (gen.py). -/
import Derived.Test.YtciliaiocakdkaaDoorE7
import Derived.Test.YtciliaiocakdkaaDoorDat
import Derived.Test.YtciliaiocakdkaaDoorPure
import Derived.Test.YtciliaiocakdkaaDoorMap
import Derived.Test.YtciliaiocakdkaaDoorCpy
set_option linter.unusedSimpArgs false
set_option linter.unusedVariables false
set_option linter.unusedSectionVars false
namespace Go.Proofs.YtciliaiocakdkaaDoor
open Go.RowKit
noncomputable section
def s_l12Rd_pick (fl : Nat) (a0_0 : (List UInt8)) (a0_1 : Int) (a1 : Int) : Option (Int × Int) :=
  Option.bind (ck (a0_1 + 1)) fun x1 =>
    Option.bind (cond (decide (a1 < 1)) (some true) (some (((a0_0).length : Int) == 0))) fun y2 =>
    cond y2
     (some (0, x1))
     (Option.bind (ck (x1 - 1)) fun x4 =>
      cond (decide (x4 < ((a0_0).length : Int)))
       (Option.bind (idx a0_0 x4) fun x6 =>
        Option.bind (ck (x6.toNat : Int)) fun x7 =>
        Option.bind (remO x7 a1) fun x8 =>
        some (x8, x1))
       (Option.bind (remO x4 ((a0_0).length : Int)) fun x9 =>
        Option.bind (idx a0_0 x9) fun x10 =>
        Option.bind (ck (x10.toNat : Int)) fun x11 =>
        Option.bind (ck (x11 * 131)) fun x12 =>
        Option.bind (ck (x4 * 7)) fun x13 =>
        Option.bind (ck (x13 + 3)) fun x14 =>
        Option.bind (remO x14 ((a0_0).length : Int)) fun x15 =>
        Option.bind (idx a0_0 x15) fun x16 =>
        Option.bind (ck (x16.toNat : Int)) fun x17 =>
        Option.bind (ck (x17 * 1117)) fun x18 =>
        Option.bind (ck (x12 + x18)) fun x19 =>
        Option.bind (ck (x4 * 29)) fun x20 =>
        Option.bind (ck (x19 + x20)) fun x21 =>
        Option.bind (quoO x4 ((a0_0).length : Int)) fun x22 =>
        Option.bind (ck (x22 * 53)) fun x23 =>
        Option.bind (ck (x21 + x23)) fun x24 =>
        Option.bind (quoO x24 64) fun x25 =>
        Option.bind (remO (bXor x24 x25) a1) fun x26 =>
        some (x26, x1)))

def s_l12Rd_num (fl : Nat) (a0_0 : (List UInt8)) (a0_1 : Int) (a1 : (List Int)) : Option (Int × Int) :=
  Option.bind (s_l12Rd_pick fl a0_0 a0_1 ((a1).length : Int)) fun x1 =>
    Option.bind (idx a1 x1.1) fun x2 =>
    some (x2, x1.2)

def s_l2Buckets (fl : Nat) (a0 : Int) : Option Bool :=
  Option.bind (cond (decide (1 ≤ a0)) (some (decide (a0 ≤ 16))) (some false)) fun y1 =>
    some y1

def s_NewTable_L0 (fl : Nat) (a1 : Int) : Nat → (List Int) → Int → Option (LO ((List Int) × Int) (T × Bool))
  | 0, _, _ => none
  | fuel + 1, v7, v12 => cond (decide (v12 < a1))
       (Option.bind (cnt (v7 ++ [(-1)])) fun x16 =>
        Option.bind (ck (v12 + 1)) fun x20 =>
        s_NewTable_L0 fl a1 fuel x16 x20)
       (some (.out (v7, v12)))
def s_NewTable_L1 (fl : Nat) (a0 : Int) : Nat → (List F) → Int → Option (LO ((List F) × Int) (T × Bool))
  | 0, _, _ => none
  | fuel + 1, v21, v26 => cond (decide (v26 < a0))
       (Option.bind (cnt (v21 ++ [(⟨false, (⟨0, 0⟩ : K), 0, (-1)⟩ : F)])) fun x30 =>
        Option.bind (ck (v26 + 1)) fun x34 =>
        s_NewTable_L1 fl a0 fuel x30 x34)
       (some (.out (v21, v26)))
def s_NewTable (fl : Nat) (a0 : Int) (a1 : Int) : Option (T × Bool) :=
  Option.bind (cond (decide (a0 < 1)) (some true) (some (decide (16 < a0)))) fun y2 =>
    Option.bind (cond y2 (some true) (Option.bind (s_l2Buckets fl a1) fun x4 =>
    some (!x4))) fun y3 =>
    cond y3
     (some ((⟨[], []⟩ : T), false))
     (Option.bind (s_NewTable_L0 fl a1 fl ([]) 0) fun o => match o with
      | .ret r' => some r'
      | .out (v7, v12) =>
      Option.bind (s_NewTable_L1 fl a0 fl ([]) 0) fun o => match o with
      | .ret r' => some r'
      | .out (v21, v26) =>
      some ((⟨v7, v21⟩ : T), true))

def s_NewSystem (fl : Nat) (a0 : Int) (a1 : Int) (a2 : Int) : Option (Sy × Bool) :=
  Option.bind (s_NewTable fl a0 a1) fun x2 =>
    Option.bind (cond (!x2.2) (some true) (some (decide (a2 < 1)))) fun y12 =>
    Option.bind (cond y12 (some true) (some (decide (4 < a2)))) fun y13 =>
    cond y13
     (some ((⟨(⟨[], []⟩ : T), []⟩ : Sy), false))
     (Option.bind (mkO a2) fun x15 =>
      some ((⟨x2.1, (List.replicate x15 (⟨[], []⟩ : Cp))⟩ : Sy), true))

def s_l2Draw (fl : Nat) (a0_0 : (List UInt8)) (a0_1 : Int) : Option (K × Int) :=
  Option.bind (s_l12Rd_num fl a0_0 a0_1 ([0, 1, 2, 3, 1])) fun x4 =>
    Option.bind (s_l12Rd_num fl a0_0 x4.2 ([0, 1, 2, 3, 4, 5, 100, 255])) fun x7 =>
    some ((⟨x4.1, x7.1⟩ : K), x7.2)

def s_TableValid (fl : Nat) (a0 : T) : Option Bool := some (tableOk a0)

def s_l1Space (fl : Nat) (a0 : Int) : Option Bool :=
  Option.bind (cond (decide (0 ≤ a0)) (some (decide (a0 < 16))) (some false)) fun y1 =>
    some y1

def s_l1Page (fl : Nat) (a0 : Int) : Option Bool :=
  Option.bind (cond (decide (0 ≤ a0)) (some (decide (a0 < 256))) (some false)) fun y1 =>
    some y1

def s_KeyValid (fl : Nat) (a0 : K) : Option Bool :=
  Option.bind (s_l1Space fl a0.s) fun x2 =>
    Option.bind (cond x2 (Option.bind (s_l1Page fl a0.p) fun x4 =>
    some x4) (some false)) fun y3 =>
    some y3

def s_l8Find_L0 (fl : Nat) (a0 : (List Nt)) (a1 : K) : Nat → Int → Option (LO Int Int)
  | 0, _ => none
  | fuel + 1, v2 => cond (decide (v2 < ((a0).length : Int)))
       (Option.bind (idx a0 v2) fun x4 =>
        cond (x4.k == a1)
         (some (.ret v2))
         (Option.bind (ck (v2 + 1)) fun x6 =>
          s_l8Find_L0 fl a0 a1 fuel x6))
       (some (.out v2))
def s_l8Find (fl : Nat) (a0 : (List Nt)) (a1 : K) : Option Int :=
  Option.bind (s_l8Find_L0 fl a0 a1 fl 0) fun o => match o with
    | .ret r' => some r'
    | .out v2 =>
    some (-1)

def s_l2Hash (fl : Nat) (a0 : K) (a1 : Int) : Option Int :=
  Option.bind (ck (a0.s * 256)) fun x2 =>
    Option.bind (ck (x2 + a0.p)) fun x3 =>
    Option.bind (ck (x3 * 2654435761)) fun x4 =>
    Option.bind (remO x4 4294967296) fun x5 =>
    Option.bind (ck (x5 * a1)) fun x6 =>
    Option.bind (quoO x6 4294967296) fun x7 =>
    some x7

def s_l3Chain_L0 (fl : Nat) (a0 : T) : Nat → (List Int) → Int → Option (LO ((List Int) × Int) ((List Int) × Bool))
  | 0, _, _ => none
  | fuel + 1, v5, v10 => cond (v10 != (-1))
       (Option.bind (cond (decide (v10 < 0)) (some true) (some (decide (((a0.f).length : Int) ≤ v10)))) fun y12 =>
        Option.bind (cond y12 (some true) (some (decide (((a0.f).length : Int) ≤ ((v5).length : Int))))) fun y13 =>
        Option.bind (cond y13 (some true) (Option.bind (idx a0.f v10) fun x15 =>
        some (!x15.u))) fun y14 =>
        cond y14
         (some (.ret (v5, false)))
         (Option.bind (cnt (v5 ++ [v10])) fun x19 =>
          Option.bind (idx a0.f v10) fun x23 =>
          s_l3Chain_L0 fl a0 fuel x19 x23.nx))
       (some (.out (v5, v10)))
def s_l3Chain (fl : Nat) (a0 : T) (a1 : Int) : Option ((List Int) × Bool) :=
  Option.bind (idx a0.b a1) fun x4 =>
    Option.bind (s_l3Chain_L0 fl a0 fl ([] : List Int) x4) fun o => match o with
    | .ret r' => some r'
    | .out (v5, v10) =>
    some (v5, true)

def s_l3Find_L0 (fl : Nat) (a0 : T) (a1 : K) (x4 : ((List Int) × Bool)) : Nat → Int → Option (LO Int (Int × Int))
  | 0, _ => none
  | fuel + 1, v9 => cond (decide (v9 < ((x4.1).length : Int)))
       (Option.bind (idx x4.1 v9) fun x11 =>
        Option.bind (idx a0.f x11) fun x12 =>
        cond (x12.k == a1)
         (Option.bind (ck (v9 + 1)) fun x14 =>
          some (.ret (x11, x14)))
         (Option.bind (ck (v9 + 1)) fun x15 =>
          s_l3Find_L0 fl a0 a1 x4 fuel x15))
       (some (.out v9))
def s_l3Find (fl : Nat) (a0 : T) (a1 : K) : Option (Int × Int) :=
  Option.bind (s_l2Hash fl a1 ((a0.b).length : Int)) fun x3 =>
    Option.bind (s_l3Chain fl a0 x3) fun x4 =>
    Option.bind (s_l3Find_L0 fl a0 a1 x4 fl 0) fun o => match o with
    | .ret r' => some r'
    | .out v9 =>
    some ((-1), ((x4.1).length : Int))

def s_l8Cpu_L0 (fl : Nat) (a0 : T) (a1 : Cp) : Nat → Int → Option (LO Int Bool)
  | 0, _ => none
  | fuel + 1, v5 => cond (decide (v5 < ((a1.n).length : Int)))
       (Option.bind (idx a1.n v5) fun x7 =>
        Option.bind (s_KeyValid fl x7.k) fun x9 =>
        Option.bind (cond (!x9) (some true) (Option.bind (takeO a1.n v5) fun x11 =>
        Option.bind (s_l8Find fl x11 x7.k) fun x12 =>
        some (decide (0 ≤ x12)))) fun y10 =>
        cond y10
         (some (.ret false))
         (Option.bind (s_l3Find fl a0 x7.k) fun x14 =>
          Option.bind (s_l8Find fl a1.w x7.k) fun x15 =>
          Option.bind (cond (decide (x15 < 0)) (Option.bind (cond (decide (x14.1 < 0)) (some true) (some (x14.1 != x7.fr))) fun y17 =>
          some y17) (some false)) fun y16 =>
          Option.bind (cond y16 (some true) (Option.bind (cond (decide (0 ≤ x15)) (Option.bind (cond (decide (0 ≤ x14.1)) (some true) (Option.bind (idx a1.w x15) fun x21 =>
          some (x21 != x7))) fun y20 =>
          some y20) (some false)) fun y19 =>
          some y19)) fun y18 =>
          cond y18
           (some (.ret false))
           (Option.bind (ck (v5 + 1)) fun x23 =>
            s_l8Cpu_L0 fl a0 a1 fuel x23)))
       (some (.out v5))
def s_l8Cpu_L1 (fl : Nat) (a0 : T) (a1 : Cp) : Nat → Int → Option (LO Int Bool)
  | 0, _ => none
  | fuel + 1, v24 => cond (decide (v24 < ((a1.w).length : Int)))
       (Option.bind (idx a1.w v24) fun x26 =>
        Option.bind (s_l8Find fl a1.n x26.k) fun x28 =>
        Option.bind (cond (decide (x28 < 0)) (some true) (Option.bind (takeO a1.w v24) fun x30 =>
        Option.bind (s_l8Find fl x30 x26.k) fun x31 =>
        some (decide (0 ≤ x31)))) fun y29 =>
        Option.bind (cond y29 (some true) (some (decide (x26.fr < 0)))) fun y32 =>
        Option.bind (cond y32 (some true) (some (decide (((a0.f).length : Int) ≤ x26.fr)))) fun y33 =>
        Option.bind (cond y33 (some true) (Option.bind (idx a0.f x26.fr) fun x35 =>
        some x35.u)) fun y34 =>
        cond y34
         (some (.ret false))
         (Option.bind (ck (v24 + 1)) fun x37 =>
          s_l8Cpu_L1 fl a0 a1 fuel x37))
       (some (.out v24))
def s_l8Cpu (fl : Nat) (a0 : T) (a1 : Cp) : Option Bool :=
  Option.bind (cond (decide (4 < ((a1.n).length : Int))) (some true) (some (decide (4 < ((a1.w).length : Int))))) fun y3 =>
    cond y3
     (some false)
     (Option.bind (s_l8Cpu_L0 fl a0 a1 fl 0) fun o => match o with
      | .ret r' => some r'
      | .out v5 =>
      Option.bind (s_l8Cpu_L1 fl a0 a1 fl 0) fun o => match o with
      | .ret r' => some r'
      | .out v24 =>
      some true)

def s_SystemValid_L0 (fl : Nat) (a0 : Sy) : Nat → Int → Option (LO Int Bool)
  | 0, _ => none
  | fuel + 1, v6 => cond (decide (v6 < ((a0.c).length : Int)))
       (Option.bind (idx a0.c v6) fun x8 =>
        Option.bind (s_l8Cpu fl a0.t x8) fun x16 =>
        cond (!x16)
         (some (.ret false))
         (Option.bind (ck (v6 + 1)) fun x18 =>
          s_SystemValid_L0 fl a0 fuel x18))
       (some (.out v6))
def s_SystemValid (fl : Nat) (a0 : Sy) : Option Bool :=
  Option.bind (s_TableValid fl a0.t) fun x2 =>
    Option.bind (cond (!x2) (some true) (some (decide (((a0.c).length : Int) < 1)))) fun y3 =>
    Option.bind (cond y3 (some true) (some (decide (4 < ((a0.c).length : Int))))) fun y4 =>
    cond y4
     (some false)
     (Option.bind (s_SystemValid_L0 fl a0 fl 0) fun o => match o with
      | .ret r' => some r'
      | .out v6 =>
      some true)

def s_l8Held_L1 (fl : Nat) (a0 : Sy) (a1 : Int) (a2 : K) (v3 : Int) : Nat → Int → Option (LO Int Bool)
  | 0, _ => none
  | fuel + 1, v5 => Option.bind (idx a0.c v3) fun x6 =>
      cond (decide (v5 < ((x6.w).length : Int)))
       (Option.bind (idx x6.w v5) fun x15 =>
        Option.bind (cond (x15.fr == a1) (some true) (some (x15.k == a2))) fun y16 =>
        cond y16
         (some (.ret true))
         (Option.bind (ck (v5 + 1)) fun x18 =>
          s_l8Held_L1 fl a0 a1 a2 v3 fuel x18))
       (some (.out v5))
def s_l8Held_L0 (fl : Nat) (a0 : Sy) (a1 : Int) (a2 : K) : Nat → Int → Option (LO Int Bool)
  | 0, _ => none
  | fuel + 1, v3 => cond (decide (v3 < ((a0.c).length : Int)))
       (Option.bind (s_l8Held_L1 fl a0 a1 a2 v3 fl 0) fun o => match o with
        | .ret r' => some (.ret r')
        | .out v5 =>
        Option.bind (ck (v3 + 1)) fun x19 =>
        s_l8Held_L0 fl a0 a1 a2 fuel x19)
       (some (.out v3))
def s_l8Held (fl : Nat) (a0 : Sy) (a1 : Int) (a2 : K) : Option Bool :=
  Option.bind (s_l8Held_L0 fl a0 a1 a2 fl 0) fun o => match o with
    | .ret r' => some r'
    | .out v3 =>
    some false

def s_RightsValid (fl : Nat) (a0 : Int) : Option Bool :=
  Option.bind (cond (decide (0 ≤ a0)) (some (decide (a0 ≤ 7))) (some false)) fun y1 =>
    some y1

def s_l3Copy (fl : Nat) (a0 : T) : Option T :=
  Option.bind (cnt (([] : List Int) ++ a0.b)) fun x5 =>
    Option.bind (cnt (([] : List F) ++ a0.f)) fun x11 =>
    some (⟨x5, x11⟩ : T)

def s_l3Map (fl : Nat) (a0 : T) (a1 : K) (a2 : Int) (a3 : Int) : Option T :=
  Option.bind (s_l3Copy fl a0) fun x4 =>
    Option.bind (s_l2Hash fl a1 ((a0.b).length : Int)) fun x14 =>
    Option.bind (idx x4.b x14) fun x15 =>
    Option.bind (idx x4.f a2) fun x16 =>
    some (⟨(x4.b.set (Int.toNat x14) a2), (x4.f.set (Int.toNat a2) (⟨true, a1, a3, x15⟩ : F))⟩ : T)

def s_MapPage (fl : Nat) (a0 : T) (a1 : K) (a2 : Int) (a3 : Int) : Option (T × Bool) :=
  Option.bind (s_TableValid fl a0) fun x4 =>
    Option.bind (cond (!x4) (some true) (Option.bind (s_KeyValid fl a1) fun x6 =>
    some (!x6))) fun y5 =>
    Option.bind (cond y5 (some true) (Option.bind (s_RightsValid fl a3) fun x8 =>
    some (!x8))) fun y7 =>
    Option.bind (cond y7 (some true) (some (decide (a2 < 0)))) fun y9 =>
    Option.bind (cond y9 (some true) (some (decide (((a0.f).length : Int) ≤ a2)))) fun y10 =>
    Option.bind (cond y10 (some true) (Option.bind (idx a0.f a2) fun x12 =>
    some x12.u)) fun y11 =>
    cond y11
     (some ((⟨[], []⟩ : T), false))
     (Option.bind (s_l3Find fl a0 a1) fun x14 =>
      cond (decide (0 ≤ x14.1))
       (some ((⟨[], []⟩ : T), false))
       (Option.bind (s_l3Map fl a0 a1 a2 a3) fun x16 =>
        some (x16, true)))

def s_l8Copy_L0 (fl : Nat) (a0 : Sy) : Nat → (List Cp) → Int → Option (LO ((List Cp) × Int) Sy)
  | 0, _, _ => none
  | fuel + 1, v13, v18 => cond (decide (v18 < ((a0.c).length : Int)))
       (Option.bind (idx a0.c v18) fun x22 =>
        Option.bind (cnt (([] : List Nt) ++ x22.n)) fun x30 =>
        Option.bind (cnt (([] : List Nt) ++ x22.w)) fun x36 =>
        Option.bind (cnt (v13 ++ [(⟨x30, x36⟩ : Cp)])) fun x51 =>
        Option.bind (ck (v18 + 1)) fun x61 =>
        s_l8Copy_L0 fl a0 fuel x51 x61)
       (some (.out (v13, v18)))
def s_l8Copy (fl : Nat) (a0 : Sy) : Option Sy :=
  Option.bind (s_l3Copy fl a0.t) fun x3 =>
    Option.bind (s_l8Copy_L0 fl a0 fl ([]) 0) fun o => match o with
    | .ret r' => some r'
    | .out (v13, v18) =>
    some (⟨x3, v13⟩ : Sy)

def s_MapSystem (fl : Nat) (a0 : Sy) (a1 : K) (a2 : Int) (a3 : Int) : Option (Sy × Bool) :=
  Option.bind (s_SystemValid fl a0) fun x4 =>
    Option.bind (cond (!x4) (some true) (Option.bind (s_l8Held fl a0 a2 a1) fun x6 =>
    some x6)) fun y5 =>
    cond y5
     (some ((⟨(⟨[], []⟩ : T), []⟩ : Sy), false))
     (Option.bind (s_MapPage fl a0.t a1 a2 a3) fun x8 =>
      cond (!x8.2)
       (some ((⟨(⟨[], []⟩ : T), []⟩ : Sy), false))
       (Option.bind (s_l8Copy fl a0) fun x19 =>
        some ((⟨x8.1, x19.c⟩ : Sy), true)))

def s_KeyBefore (fl : Nat) (a0 : K) (a1 : K) : Option Bool :=
  Option.bind (cond (decide (a0.s < a1.s)) (some true) (Option.bind (cond (a0.s == a1.s) (some (decide (a0.p < a1.p))) (some false)) fun y4 =>
    some y4)) fun y3 =>
    some y3

def s_KeysOf_L1 (fl : Nat) : Nat → (List K) → Int → Option (LO ((List K) × Int) ((List K)))
  | 0, _, _ => none
  | fuel + 1, v23, v25 => Option.bind (cond (decide (0 < v25)) (Option.bind (idx v23 v25) fun x27 =>
      Option.bind (ck (v25 - 1)) fun x28 =>
      Option.bind (idx v23 x28) fun x29 =>
      Option.bind (s_KeyBefore fl x27 x29) fun x30 =>
      some x30) (some false)) fun y26 =>
      cond y26
       (Option.bind (idx v23 v25) fun x32 =>
        Option.bind (ck (v25 - 1)) fun x34 =>
        Option.bind (idx v23 x34) fun x35 =>
        Option.bind (idx (v23.set (Int.toNat v25) x35) x34) fun x37 =>
        s_KeysOf_L1 fl fuel ((v23.set (Int.toNat v25) x35).set (Int.toNat x34) x32) x34)
       (some (.out (v23, v25)))
def s_KeysOf_L0 (fl : Nat) (a0 : T) : Nat → (List K) → Int → Option (LO ((List K) × Int) ((List K)))
  | 0, _, _ => none
  | fuel + 1, v4, v9 => Option.bind (cond (decide (v9 < ((a0.f).length : Int))) (Option.bind (s_TableValid fl a0) fun x11 =>
      some x11) (some false)) fun y10 =>
      cond y10
       (Option.bind (idx a0.f v9) fun x13 =>
        cond (!x13.u)
         (Option.bind (ck (v9 + 1)) fun x15 =>
          s_KeysOf_L0 fl a0 fuel v4 x15)
         (Option.bind (cnt (v4 ++ [x13.k])) fun x18 =>
          Option.bind (ck (((x18).length : Int) - 1)) fun x22 =>
          Option.bind (s_KeysOf_L1 fl fl x18 x22) fun o => match o with
          | .ret r' => some (.ret r')
          | .out (v23, v25) =>
          Option.bind (ck (v9 + 1)) fun x39 =>
          s_KeysOf_L0 fl a0 fuel v23 x39))
       (some (.out (v4, v9)))
def s_KeysOf (fl : Nat) (a0 : T) : Option (List K) :=
  Option.bind (s_KeysOf_L0 fl a0 fl ([] : List K) 0) fun o => match o with
    | .ret r' => some r'
    | .out (v4, v9) =>
    some v4

def s_l8Right (fl : Nat) (a0 : Sy) (a1 : Int) : Option Bool :=
  Option.bind (s_SystemValid fl a0) fun x2 =>
    Option.bind (cond x2 (some (decide (0 ≤ a1))) (some false)) fun y3 =>
    Option.bind (cond y3 (some (decide (a1 < ((a0.c).length : Int)))) (some false)) fun y4 =>
    some y4

def s_l8Without_L0 (fl : Nat) (a0 : (List Nt)) (a1 : K) : Nat → (List Nt) → Int → Option (LO ((List Nt) × Int) ((List Nt)))
  | 0, _, _ => none
  | fuel + 1, v4, v9 => cond (decide (v9 < ((a0).length : Int)))
       (Option.bind (idx a0 v9) fun x11 =>
        cond (x11.k != a1)
         (Option.bind (cnt (v4 ++ [x11])) fun x15 =>
          Option.bind (ck (v9 + 1)) fun x19 =>
          s_l8Without_L0 fl a0 a1 fuel x15 x19)
         (Option.bind (ck (v9 + 1)) fun x20 =>
          s_l8Without_L0 fl a0 a1 fuel v4 x20))
       (some (.out (v4, v9)))
def s_l8Without (fl : Nat) (a0 : (List Nt)) (a1 : K) : Option (List Nt) :=
  Option.bind (s_l8Without_L0 fl a0 a1 fl ([] : List Nt) 0) fun o => match o with
    | .ret r' => some r'
    | .out (v4, v9) =>
    some v4

def s_LookCpu (fl : Nat) (a0 : Sy) (a1 : Int) (a2 : K) : Option (Sy × Int × Int × Bool) :=
  Option.bind (s_l8Right fl a0 a1) fun x4 =>
    Option.bind (cond (!x4) (some true) (Option.bind (s_KeyValid fl a2) fun x6 =>
    some (!x6))) fun y5 =>
    cond y5
     (some ((⟨(⟨[], []⟩ : T), []⟩ : Sy), 0, 0, false))
     (Option.bind (s_l8Copy fl a0) fun x8 =>
      Option.bind (idx a0.c a1) fun x22 =>
      Option.bind (s_l8Find fl x22.n a2) fun x30 =>
      cond (decide (0 ≤ x30))
       (Option.bind (idx x22.n x30) fun x32 =>
        some (x8, x32.fr, 1, true))
       (Option.bind (s_l3Find fl a0.t a2) fun x33 =>
        cond (decide (x33.1 < 0))
         (some (x8, 0, 3, true))
         (Option.bind (idx x8.c a1) fun x35 =>
          cond (((x35.n).length : Int) == 4)
           (Option.bind (idx x35.n 0) fun x49 =>
            Option.bind (s_l8Without fl x35.n x49.k) fun x51 =>
            Option.bind (s_l8Without fl x35.w x49.k) fun x56 =>
            Option.bind (cnt (x51 ++ [(⟨a2, x33.1⟩ : Nt)])) fun x63 =>
            some ((⟨x8.t, (x8.c.set (Int.toNat a1) (⟨x63, x56⟩ : Cp))⟩ : Sy), x33.1, 2, true))
           (Option.bind (cnt (x35.n ++ [(⟨a2, x33.1⟩ : Nt)])) fun x71 =>
            some ((⟨x8.t, (x8.c.set (Int.toNat a1) (⟨x71, x35.w⟩ : Cp))⟩ : Sy), x33.1, 2, true)))))

def s_FindPage (fl : Nat) (a0 : T) (a1 : K) : Option (Int × Int × Bool) :=
  Option.bind (s_TableValid fl a0) fun x3 =>
    Option.bind (cond (!x3) (some true) (Option.bind (s_KeyValid fl a1) fun x5 =>
    some (!x5))) fun y4 =>
    cond y4
     (some (0, 0, false))
     (Option.bind (s_l3Find fl a0 a1) fun x7 =>
      cond (decide (x7.1 < 0))
       (some (0, x7.2, false))
       (some (x7.1, x7.2, true)))

def s_l3Unmap_L0 (fl : Nat) (a0 : T) (a1 : Int) (x13 : F) : Nat → (List F) → Int → Option (LO ((List F) × Int) T)
  | 0, _, _ => none
  | fuel + 1, v21, v23 => cond (decide (v23 < ((a0.f).length : Int)))
       (Option.bind (idx a0.f v23) fun x25 =>
        Option.bind (cond x25.u (some (x25.nx == a1)) (some false)) fun y26 =>
        cond y26
         (Option.bind (idx v21 v23) fun x28 =>
          Option.bind (ck (v23 + 1)) fun x30 =>
          s_l3Unmap_L0 fl a0 a1 x13 fuel (v21.set (Int.toNat v23) (⟨x28.u, x28.k, x28.r, x13.nx⟩ : F)) x30)
         (Option.bind (ck (v23 + 1)) fun x31 =>
          s_l3Unmap_L0 fl a0 a1 x13 fuel v21 x31))
       (some (.out (v21, v23)))
def s_l3Unmap (fl : Nat) (a0 : T) (a1 : Int) : Option T :=
  Option.bind (s_l3Copy fl a0) fun x3 =>
    Option.bind (idx a0.f a1) fun x13 =>
    Option.bind (s_l2Hash fl x13.k ((a0.b).length : Int)) fun x14 =>
    Option.bind (idx x3.f a1) fun x15 =>
    Option.bind (idx a0.b x14) fun x17 =>
    cond (x17 == a1)
     (Option.bind (idx x3.b x14) fun x19 =>
      some (⟨(x3.b.set (Int.toNat x14) x13.nx), (x3.f.set (Int.toNat a1) (⟨false, (⟨0, 0⟩ : K), 0, (-1)⟩ : F))⟩ : T))
     (Option.bind (s_l3Unmap_L0 fl a0 a1 x13 fl (x3.f.set (Int.toNat a1) (⟨false, (⟨0, 0⟩ : K), 0, (-1)⟩ : F)) 0) fun o => match o with
      | .ret r' => some r'
      | .out (v21, v23) =>
      some (⟨x3.b, v21⟩ : T))

def s_UnmapPage (fl : Nat) (a0 : T) (a1 : K) : Option (T × Bool) :=
  Option.bind (s_FindPage fl a0 a1) fun x4 =>
    cond (!x4.2.2)
     (some ((⟨[], []⟩ : T), false))
     (Option.bind (s_l3Unmap fl a0 x4.1) fun x6 =>
      some (x6, true))

def s_UnmapSystem_L0 (fl : Nat) (a1 : Int) (a2 : K) (x17 : Sy) : Nat → (List Cp) → Int → Int → Option (LO ((List Cp) × Int × Int) (Sy × Int × Bool))
  | 0, _, _, _ => none
  | fuel + 1, v31, v33, v34 => cond (decide (v34 < ((x17.c).length : Int)))
       (Option.bind (idx v31 v34) fun x36 =>
        Option.bind (s_l8Find fl x36.n a2) fun x49 =>
        cond (decide (x49 < 0))
         (Option.bind (ck (v34 + 1)) fun x51 =>
          s_UnmapSystem_L0 fl a1 a2 x17 fuel v31 v33 x51)
         (cond (v34 == a1)
           (Option.bind (s_l8Without fl x36.n a2) fun x54 =>
            Option.bind (ck (v34 + 1)) fun x60 =>
            s_UnmapSystem_L0 fl a1 a2 x17 fuel (v31.set (Int.toNat v34) (⟨x54, x36.w⟩ : Cp)) v33 x60)
           (Option.bind (idx x36.n x49) fun x62 =>
            Option.bind (cnt (x36.w ++ [x62])) fun x65 =>
            Option.bind (ck (v33 + 1)) fun x69 =>
            Option.bind (ck (v34 + 1)) fun x71 =>
            s_UnmapSystem_L0 fl a1 a2 x17 fuel (v31.set (Int.toNat v34) (⟨x36.n, x65⟩ : Cp)) x69 x71)))
       (some (.out (v31, v33, v34)))
def s_UnmapSystem (fl : Nat) (a0 : Sy) (a1 : Int) (a2 : K) : Option (Sy × Int × Bool) :=
  Option.bind (s_l8Right fl a0 a1) fun x4 =>
    cond (!x4)
     (some ((⟨(⟨[], []⟩ : T), []⟩ : Sy), 0, false))
     (Option.bind (s_UnmapPage fl a0.t a2) fun x6 =>
      cond (!x6.2)
       (some ((⟨(⟨[], []⟩ : T), []⟩ : Sy), 0, false))
       (Option.bind (s_l8Copy fl a0) fun x17 =>
        Option.bind (s_UnmapSystem_L0 fl a1 a2 x17 fl x17.c 0 0) fun o => match o with
        | .ret r' => some r'
        | .out (v31, v33, v34) =>
        some ((⟨x6.1, v31⟩ : Sy), v33, true)))

def s_l8Ack_L0 (fl : Nat) (a0 : Cp) : Nat → (List Nt) → Int → Option (LO ((List Nt) × Int) Cp)
  | 0, _, _ => none
  | fuel + 1, v4, v9 => cond (decide (v9 < ((a0.n).length : Int)))
       (Option.bind (idx a0.n v9) fun x11 =>
        Option.bind (s_l8Find fl a0.w x11.k) fun x12 =>
        cond (decide (x12 < 0))
         (Option.bind (cnt (v4 ++ [x11])) fun x16 =>
          Option.bind (ck (v9 + 1)) fun x20 =>
          s_l8Ack_L0 fl a0 fuel x16 x20)
         (Option.bind (ck (v9 + 1)) fun x21 =>
          s_l8Ack_L0 fl a0 fuel v4 x21))
       (some (.out (v4, v9)))
def s_l8Ack (fl : Nat) (a0 : Cp) : Option Cp :=
  Option.bind (s_l8Ack_L0 fl a0 fl ([]) 0) fun o => match o with
    | .ret r' => some r'
    | .out (v4, v9) =>
    some (⟨v4, []⟩ : Cp)

def s_AckCpu (fl : Nat) (a0 : Sy) (a1 : Int) : Option (Sy × Bool) :=
  Option.bind (s_l8Right fl a0 a1) fun x3 =>
    cond (!x3)
     (some ((⟨(⟨[], []⟩ : T), []⟩ : Sy), false))
     (Option.bind (s_l8Copy fl a0) fun x5 =>
      Option.bind (idx x5.c a1) fun x19 =>
      Option.bind (s_l8Ack fl x19) fun x31 =>
      some ((⟨x5.t, (x5.c.set (Int.toNat a1) (⟨x31.n, x31.w⟩ : Cp))⟩ : Sy), true))

def s_l8Step (fl : Nat) (a0_0 : (List UInt8)) (a0_1 : Int) (a1 : Sy) : Option (Sy × Int) :=
  Option.bind (s_l12Rd_pick fl a0_0 a0_1 ((a1.c).length : Int)) fun x4 =>
    Option.bind (s_l12Rd_pick fl a0_0 x4.2 6) fun x5 =>
    Option.bind (cond (x5.1 == 0)
     (some (x5.1 == 0))
     (some (x5.1 == 1))) fun y7 =>
    cond y7
     (Option.bind (s_l2Draw fl a0_0 x5.2) fun x10 =>
      Option.bind (s_l12Rd_pick fl a0_0 x10.2 ((a1.t.f).length : Int)) fun x11 =>
      Option.bind (s_l12Rd_num fl a0_0 x11.2 ([3, 1])) fun x14 =>
      Option.bind (s_MapSystem fl a1 x10.1 x11.1 x14.1) fun x15 =>
      cond (!x15.2)
       (some (a1, x14.2))
       (some (x15.1, x14.2)))
     (Option.bind (cond (x5.1 == 2)
       (some (x5.1 == 2))
       (some (x5.1 == 3))) fun y30 =>
      cond y30
       (Option.bind (s_KeysOf fl a1.t) fun x33 =>
        cond (decide (0 < ((x33).length : Int)))
         (Option.bind (s_l12Rd_pick fl a0_0 x5.2 ((x33).length : Int)) fun x39 =>
          Option.bind (idx x33 x39.1) fun x40 =>
          Option.bind (s_LookCpu fl a1 x4.1 x40) fun x41 =>
          cond (!x41.2.2.2)
           (some (a1, x39.2))
           (some (x41.1, x39.2)))
         (cond (!false)
           (some (a1, x5.2))
           (some (a1, x5.2))))
       (cond (x5.1 == 4)
         (Option.bind (s_KeysOf fl a1.t) fun x57 =>
          cond (decide (0 < ((x57).length : Int)))
           (Option.bind (s_l12Rd_pick fl a0_0 x5.2 ((x57).length : Int)) fun x63 =>
            Option.bind (idx x57 x63.1) fun x64 =>
            Option.bind (s_UnmapSystem fl a1 x4.1 x64) fun x65 =>
            cond (!x65.2.2)
             (some (a1, x63.2))
             (some (x65.1, x63.2)))
           (cond (!false)
             (some (a1, x5.2))
             (some (a1, x5.2))))
         (cond (x5.1 == 5)
           (Option.bind (s_l12Rd_pick fl a0_0 x5.2 2) fun x81 =>
            cond (x81.1 == 0)
             (Option.bind (s_AckCpu fl a1 x4.1) fun x83 =>
              cond (!x83.2)
               (some (a1, x81.2))
               (some (x83.1, x81.2)))
             (cond (!false)
               (some (a1, x81.2))
               (some (a1, x81.2))))
           (cond (!false)
             (some (a1, x5.2))
             (some (a1, x5.2))))))

def s_l8Draw_L0 (fl : Nat) (a0_0 : (List UInt8)) : Nat → Int → (List Int) → (List F) → (List Cp) → Int → Option (LO (Int × (List Int) × (List F) × (List Cp) × Int) (Sy × Int))
  | 0, _, _, _, _, _ => none
  | fuel + 1, v27, v28, v33, v38, v43 => cond (decide (0 < v43))
       (Option.bind (s_l8Step fl a0_0 v27 (⟨(⟨v28, v33⟩ : T), v38⟩ : Sy)) fun x45 =>
        Option.bind (ck (v43 - 1)) fun x58 =>
        s_l8Draw_L0 fl a0_0 fuel x45.2 x45.1.t.b x45.1.t.f x45.1.c x58)
       (some (.out (v27, v28, v33, v38, v43)))
def s_l8Draw (fl : Nat) (a0_0 : (List UInt8)) (a0_1 : Int) : Option (Sy × Int) :=
  Option.bind (s_l12Rd_num fl a0_0 a0_1 ([6, 4, 8])) fun x4 =>
    Option.bind (s_l12Rd_num fl a0_0 x4.2 ([4, 2, 1])) fun x7 =>
    Option.bind (s_l12Rd_num fl a0_0 x7.2 ([3, 2, 4, 1])) fun x10 =>
    Option.bind (s_NewSystem fl x4.1 x7.1 x10.1) fun x11 =>
    Option.bind (s_l12Rd_pick fl a0_0 x10.2 12) fun x25 =>
    Option.bind (ck (8 + x25.1)) fun x26 =>
    Option.bind (s_l8Draw_L0 fl a0_0 fl x25.2 x11.1.t.b x11.1.t.f x11.1.c x26) fun o => match o with
    | .ret r' => some r'
    | .out (v27, v28, v33, v38, v43) =>
    some ((⟨(⟨v28, v33⟩ : T), v38⟩ : Sy), v27)

def s_l3Wrong (fl : Nat) (a0_0 : (List UInt8)) (a0_1 : Int) (a1 : T) : Option (T × Int) :=
  Option.bind (s_l3Copy fl a1) fun x3 =>
    cond (((x3.f).length : Int) == 0)
     (some (x3, a0_1))
     (Option.bind (s_l12Rd_pick fl a0_0 a0_1 ((x3.f).length : Int)) fun x14 =>
      Option.bind (s_l12Rd_pick fl a0_0 x14.2 24) fun x15 =>
      cond (x15.1 == 0)
       (Option.bind (s_l12Rd_num fl a0_0 x15.2 ([0, x14.1, 16, (-1)])) fun x19 =>
        Option.bind (idx x3.f x14.1) fun x20 =>
        some ((⟨x3.b, (x3.f.set (Int.toNat x14.1) (⟨x20.u, x20.k, x20.r, x19.1⟩ : F))⟩ : T), x19.2))
       (cond (x15.1 == 1)
         (Option.bind (idx x3.f x14.1) fun x23 =>
          some ((⟨x3.b, (x3.f.set (Int.toNat x14.1) (⟨(!x23.u), x23.k, x23.r, x23.nx⟩ : F))⟩ : T), x15.2))
         (cond (x15.1 == 2)
           (Option.bind (s_l12Rd_num fl a0_0 x15.2 ([0, (-1), 16, (-2)])) fun x28 =>
            Option.bind (idx x3.b 0) fun x29 =>
            some ((⟨(x3.b.set (Int.toNat 0) x28.1), x3.f⟩ : T), x28.2))
           (cond (x15.1 == 3)
             (Option.bind (s_l2Draw fl a0_0 x15.2) fun x32 =>
              Option.bind (idx x3.f x14.1) fun x33 =>
              some ((⟨x3.b, (x3.f.set (Int.toNat x14.1) (⟨x33.u, x32.1, x33.r, x33.nx⟩ : F))⟩ : T), x32.2))
             (cond (x15.1 == 4)
               (Option.bind (cnt (x3.b ++ [(-1)])) fun x38 =>
                some ((⟨x38, x3.f⟩ : T), x15.2))
               (cond (x15.1 == 5)
                 (some ((⟨x3.b, ([] : List F)⟩ : T), x15.2))
                 (some (x3, x15.2))))))))

def s_l8Wrong (fl : Nat) (a0_0 : (List UInt8)) (a0_1 : Int) (a1 : Sy) : Option (Sy × Int) :=
  Option.bind (s_l8Copy fl a1) fun x3 =>
    cond (((x3.c).length : Int) == 0)
     (some (x3, a0_1))
     (Option.bind (s_l12Rd_pick fl a0_0 a0_1 ((x3.c).length : Int)) fun x18 =>
      Option.bind (s_l12Rd_pick fl a0_0 x18.2 24) fun x19 =>
      cond (x19.1 == 0)
       (Option.bind (idx x3.c x18.1) fun x21 =>
        Option.bind (s_l2Draw fl a0_0 x19.2) fun x33 =>
        Option.bind (s_l12Rd_pick fl a0_0 x33.2 4) fun x34 =>
        Option.bind (cnt (x21.n ++ [(⟨x33.1, x34.1⟩ : Nt)])) fun x37 =>
        some ((⟨x3.t, (x3.c.set (Int.toNat x18.1) (⟨x37, x21.w⟩ : Cp))⟩ : Sy), x34.2))
       (cond (x19.1 == 1)
         (Option.bind (idx x3.c x18.1) fun x47 =>
          Option.bind (s_l2Draw fl a0_0 x19.2) fun x59 =>
          Option.bind (s_l12Rd_pick fl a0_0 x59.2 4) fun x60 =>
          Option.bind (cnt (x47.w ++ [(⟨x59.1, x60.1⟩ : Nt)])) fun x63 =>
          some ((⟨x3.t, (x3.c.set (Int.toNat x18.1) (⟨x47.n, x63⟩ : Cp))⟩ : Sy), x60.2))
         (cond (x19.1 == 2)
           (Option.bind (s_l3Wrong fl a0_0 x19.2 x3.t) fun x73 =>
            Option.bind (s_l3Wrong fl a0_0 x73.2 x73.1) fun x82 =>
            some ((⟨x82.1, x3.c⟩ : Sy), x82.2))
           (cond (x19.1 == 3)
             (some ((⟨x3.t, ([] : List Cp)⟩ : Sy), x19.2))
             (some (x3, x19.2))))))

def s_DrawSystemSame (fl : Nat) (a0 : (List UInt8)) : Option (Sy × Sy) :=
  Option.bind (s_l8Draw fl (a0.take 2000) 0) fun x4 =>
    Option.bind (s_l12Rd_pick fl (a0.take 2000) x4.2 3) fun x18 =>
    cond (x18.1 == 0)
     (Option.bind (s_l8Step fl (a0.take 2000) x18.2 x4.1) fun x20 =>
      Option.bind (s_l8Step fl (a0.take 2000) x20.2 x20.1) fun x33 =>
      some (x4.1, x33.1))
     (Option.bind (s_l8Wrong fl (a0.take 2000) x18.2 x4.1) fun x46 =>
      Option.bind (s_l8Wrong fl (a0.take 2000) x46.2 x46.1) fun x59 =>
      some (x4.1, x59.1))

def slices_Equal_Int_L0 (fl : Nat) (a0 : (List Int)) (a1 : (List Int)) : Nat → Int → Option (LO Int Bool)
  | 0, _ => none
  | fuel + 1, v2 => cond (decide (v2 < ((a0).length : Int)))
       (Option.bind (idx a0 v2) fun x4 =>
        Option.bind (idx a1 v2) fun x5 =>
        cond (x4 != x5)
         (some (.ret false))
         (Option.bind (ck (v2 + 1)) fun x7 =>
          slices_Equal_Int_L0 fl a0 a1 fuel x7))
       (some (.out v2))
def slices_Equal_Int (fl : Nat) (a0 : (List Int)) (a1 : (List Int)) : Option Bool :=
  cond (((a0).length : Int) != ((a1).length : Int))
     (some false)
     (Option.bind (slices_Equal_Int_L0 fl a0 a1 fl 0) fun o => match o with
      | .ret r' => some r'
      | .out v2 =>
      some true)

def slices_Equal_Frame_L0 (fl : Nat) (a0 : (List F)) (a1 : (List F)) : Nat → Int → Option (LO Int Bool)
  | 0, _ => none
  | fuel + 1, v2 => cond (decide (v2 < ((a0).length : Int)))
       (Option.bind (idx a0 v2) fun x4 =>
        Option.bind (idx a1 v2) fun x5 =>
        cond (x4 != x5)
         (some (.ret false))
         (Option.bind (ck (v2 + 1)) fun x7 =>
          slices_Equal_Frame_L0 fl a0 a1 fuel x7))
       (some (.out v2))
def slices_Equal_Frame (fl : Nat) (a0 : (List F)) (a1 : (List F)) : Option Bool :=
  cond (((a0).length : Int) != ((a1).length : Int))
     (some false)
     (Option.bind (slices_Equal_Frame_L0 fl a0 a1 fl 0) fun o => match o with
      | .ret r' => some r'
      | .out v2 =>
      some true)

def i_TableSame (fl : Nat) (a0 : T) (a1 : T) : Option Bool :=
  Option.bind (slices_Equal_Int fl a0.b a1.b) fun x3 =>
    Option.bind (cond x3 (Option.bind (slices_Equal_Frame fl a0.f a1.f) fun x5 =>
    some x5) (some false)) fun y4 =>
    some y4

def slices_Equal_Note_L0 (fl : Nat) (a0 : (List Nt)) (a1 : (List Nt)) : Nat → Int → Option (LO Int Bool)
  | 0, _ => none
  | fuel + 1, v2 => cond (decide (v2 < ((a0).length : Int)))
       (Option.bind (idx a0 v2) fun x4 =>
        Option.bind (idx a1 v2) fun x5 =>
        cond (x4 != x5)
         (some (.ret false))
         (Option.bind (ck (v2 + 1)) fun x7 =>
          slices_Equal_Note_L0 fl a0 a1 fuel x7))
       (some (.out v2))
def slices_Equal_Note (fl : Nat) (a0 : (List Nt)) (a1 : (List Nt)) : Option Bool :=
  cond (((a0).length : Int) != ((a1).length : Int))
     (some false)
     (Option.bind (slices_Equal_Note_L0 fl a0 a1 fl 0) fun o => match o with
      | .ret r' => some r'
      | .out v2 =>
      some true)

def i_SystemSame_1 (fl : Nat) (a0 : Cp) (a1 : Cp) : Option Bool :=
  Option.bind (slices_Equal_Note fl a0.n a1.n) fun x3 =>
    Option.bind (cond x3 (Option.bind (slices_Equal_Note fl a0.w a1.w) fun x5 =>
    some x5) (some false)) fun y4 =>
    some y4

def slices_EqualFunc_Cpu_of_i_SystemSame_1_L0 (fl : Nat) (a0 : (List Cp)) (a1 : (List Cp)) : Nat → Int → Option (LO Int Bool)
  | 0, _ => none
  | fuel + 1, v2 => cond (decide (v2 < ((a0).length : Int)))
       (Option.bind (idx a0 v2) fun x4 =>
        Option.bind (idx a1 v2) fun x13 =>
        Option.bind (i_SystemSame_1 fl x4 x13) fun x22 =>
        cond (!x22)
         (some (.ret false))
         (Option.bind (ck (v2 + 1)) fun x24 =>
          slices_EqualFunc_Cpu_of_i_SystemSame_1_L0 fl a0 a1 fuel x24))
       (some (.out v2))
def slices_EqualFunc_Cpu_of_i_SystemSame_1 (fl : Nat) (a0 : (List Cp)) (a1 : (List Cp)) : Option Bool :=
  cond (((a0).length : Int) != ((a1).length : Int))
     (some false)
     (Option.bind (slices_EqualFunc_Cpu_of_i_SystemSame_1_L0 fl a0 a1 fl 0) fun o => match o with
      | .ret r' => some r'
      | .out v2 =>
      some true)

def i_SystemSame (fl : Nat) (a0 : Sy) (a1 : Sy) : Option Bool :=
  Option.bind (i_TableSame fl a0.t a1.t) fun x3 =>
    Option.bind (cond x3 (Option.bind (slices_EqualFunc_Cpu_of_i_SystemSame_1 fl a0.c a1.c) fun x5 =>
    some x5) (some false)) fun y4 =>
    some y4

def s_TableSame_L0 (fl : Nat) (a0 : T) (a1 : T) : Nat → Int → Option (LO Int Bool)
  | 0, _ => none
  | fuel + 1, v5 => cond (decide (v5 < ((a0.b).length : Int)))
       (Option.bind (idx a0.b v5) fun x7 =>
        Option.bind (idx a1.b v5) fun x8 =>
        cond (x7 != x8)
         (some (.ret false))
         (Option.bind (ck (v5 + 1)) fun x10 =>
          s_TableSame_L0 fl a0 a1 fuel x10))
       (some (.out v5))
def s_TableSame_L1 (fl : Nat) (a0 : T) (a1 : T) : Nat → Int → Option (LO Int Bool)
  | 0, _ => none
  | fuel + 1, v11 => cond (decide (v11 < ((a0.f).length : Int)))
       (Option.bind (idx a0.f v11) fun x13 =>
        Option.bind (idx a1.f v11) fun x14 =>
        cond (x13 != x14)
         (some (.ret false))
         (Option.bind (ck (v11 + 1)) fun x16 =>
          s_TableSame_L1 fl a0 a1 fuel x16))
       (some (.out v11))
def s_TableSame (fl : Nat) (a0 : T) (a1 : T) : Option Bool :=
  Option.bind (cond (((a0.b).length : Int) != ((a1.b).length : Int)) (some true) (some (((a0.f).length : Int) != ((a1.f).length : Int)))) fun y3 =>
    cond y3
     (some false)
     (Option.bind (s_TableSame_L0 fl a0 a1 fl 0) fun o => match o with
      | .ret r' => some r'
      | .out v5 =>
      Option.bind (s_TableSame_L1 fl a0 a1 fl 0) fun o => match o with
      | .ret r' => some r'
      | .out v11 =>
      some true)

def s_l8Notes_L0 (fl : Nat) (a0 : (List Nt)) (a1 : (List Nt)) : Nat → Int → Option (LO Int Bool)
  | 0, _ => none
  | fuel + 1, v2 => cond (decide (v2 < ((a0).length : Int)))
       (Option.bind (idx a0 v2) fun x4 =>
        Option.bind (idx a1 v2) fun x5 =>
        cond (x4 != x5)
         (some (.ret false))
         (Option.bind (ck (v2 + 1)) fun x7 =>
          s_l8Notes_L0 fl a0 a1 fuel x7))
       (some (.out v2))
def s_l8Notes (fl : Nat) (a0 : (List Nt)) (a1 : (List Nt)) : Option Bool :=
  cond (((a0).length : Int) != ((a1).length : Int))
     (some false)
     (Option.bind (s_l8Notes_L0 fl a0 a1 fl 0) fun o => match o with
      | .ret r' => some r'
      | .out v2 =>
      some true)

def s_SystemSame_L0 (fl : Nat) (a0 : Sy) (a1 : Sy) : Nat → Int → Option (LO Int Bool)
  | 0, _ => none
  | fuel + 1, v6 => cond (decide (v6 < ((a0.c).length : Int)))
       (Option.bind (idx a0.c v6) fun x8 =>
        Option.bind (idx a1.c v6) fun x16 =>
        Option.bind (s_l8Notes fl x8.n x16.n) fun x24 =>
        Option.bind (cond (!x24) (some true) (Option.bind (s_l8Notes fl x8.w x16.w) fun x26 =>
        some (!x26))) fun y25 =>
        cond y25
         (some (.ret false))
         (Option.bind (ck (v6 + 1)) fun x28 =>
          s_SystemSame_L0 fl a0 a1 fuel x28))
       (some (.out v6))
def s_SystemSame (fl : Nat) (a0 : Sy) (a1 : Sy) : Option Bool :=
  Option.bind (s_TableSame fl a0.t a1.t) fun x3 =>
    Option.bind (cond (!x3) (some true) (some (((a0.c).length : Int) != ((a1.c).length : Int)))) fun y4 =>
    cond y4
     (some false)
     (Option.bind (s_SystemSame_L0 fl a0 a1 fl 0) fun o => match o with
      | .ret r' => some r'
      | .out v6 =>
      some true)

def i_TableValid (fl : Nat) (a0 : T) : Option Bool := some (tableOk a0)

def i_within (fl : Nat) (a0 : Int) (a1 : Int) : Option Bool :=
  Option.bind (cond (decide (0 ≤ a0)) (some (decide (a0 < a1))) (some false)) fun y1 =>
    some y1

def i_KeyValid (fl : Nat) (a0 : K) : Option Bool :=
  Option.bind (i_within fl a0.s 16) fun x2 =>
    Option.bind (cond x2 (Option.bind (i_within fl a0.p 256) fun x4 =>
    some x4) (some false)) fun y3 =>
    some y3

def i_noteOf_1 (fl : Nat) (a0 : Nt) (ac0 : K) : Option Bool :=
  some (a0.k == ac0)

def slices_IndexFunc_Note_of_i_noteOf_1_L0 (fl : Nat) (a0 : (List Nt)) (a1_0 : K) : Nat → Int → Option (LO Int Int)
  | 0, _ => none
  | fuel + 1, v1 => cond (decide (v1 < ((a0).length : Int)))
       (Option.bind (idx a0 v1) fun x3 =>
        Option.bind (i_noteOf_1 fl x3 a1_0) fun x4 =>
        cond x4
         (some (.ret v1))
         (Option.bind (ck (v1 + 1)) fun x6 =>
          slices_IndexFunc_Note_of_i_noteOf_1_L0 fl a0 a1_0 fuel x6))
       (some (.out v1))
def slices_IndexFunc_Note_of_i_noteOf_1 (fl : Nat) (a0 : (List Nt)) (a1_0 : K) : Option Int :=
  Option.bind (slices_IndexFunc_Note_of_i_noteOf_1_L0 fl a0 a1_0 fl 0) fun o => match o with
    | .ret r' => some r'
    | .out v1 =>
    some (-1)

def i_noteOf (fl : Nat) (a0 : (List Nt)) (a1 : K) : Option Int :=
  Option.bind (slices_IndexFunc_Note_of_i_noteOf_1 fl a0 a1) fun x2 =>
    some x2

def i_each_L0 (fl : Nat) (a0 : (List Nt)) : Nat → Int → Option (LO Int Bool)
  | 0, _ => none
  | fuel + 1, v1 => cond (decide (v1 < ((a0).length : Int)))
       (Option.bind (idx a0 v1) fun x3 =>
        Option.bind (i_KeyValid fl x3.k) fun x5 =>
        Option.bind (cond (!x5) (some true) (Option.bind (takeO a0 v1) fun x7 =>
        Option.bind (i_noteOf fl x7 x3.k) fun x8 =>
        some (decide (0 ≤ x8)))) fun y6 =>
        cond y6
         (some (.ret false))
         (Option.bind (ck (v1 + 1)) fun x10 =>
          i_each_L0 fl a0 fuel x10))
       (some (.out v1))
def i_each (fl : Nat) (a0 : (List Nt)) : Option Bool :=
  Option.bind (i_each_L0 fl a0 fl 0) fun o => match o with
    | .ret r' => some r'
    | .out v1 =>
    some (decide (((a0).length : Int) ≤ 4))

def i_Table_find_1 (fl : Nat) (a0 : F) (ac0 : K) : Option Bool :=
  Option.bind (cond a0.u (some (a0.k == ac0)) (some false)) fun y2 =>
    some y2

def slices_IndexFunc_Frame_of_i_Table_find_1_L0 (fl : Nat) (a0 : (List F)) (a1_0 : K) : Nat → Int → Option (LO Int Int)
  | 0, _ => none
  | fuel + 1, v1 => cond (decide (v1 < ((a0).length : Int)))
       (Option.bind (idx a0 v1) fun x3 =>
        Option.bind (i_Table_find_1 fl x3 a1_0) fun x4 =>
        cond x4
         (some (.ret v1))
         (Option.bind (ck (v1 + 1)) fun x6 =>
          slices_IndexFunc_Frame_of_i_Table_find_1_L0 fl a0 a1_0 fuel x6))
       (some (.out v1))
def slices_IndexFunc_Frame_of_i_Table_find_1 (fl : Nat) (a0 : (List F)) (a1_0 : K) : Option Int :=
  Option.bind (slices_IndexFunc_Frame_of_i_Table_find_1_L0 fl a0 a1_0 fl 0) fun o => match o with
    | .ret r' => some r'
    | .out v1 =>
    some (-1)

def i_Table_find (fl : Nat) (a0 : T) (a1 : K) : Option Int :=
  Option.bind (slices_IndexFunc_Frame_of_i_Table_find_1 fl a0.f a1) fun x3 =>
    some x3

def i_SystemValid_L1 (fl : Nat) (a0 : Sy) (x8 : Cp) : Nat → Int → Option (LO Int Bool)
  | 0, _ => none
  | fuel + 1, v21 => cond (decide (v21 < ((x8.n).length : Int)))
       (Option.bind (idx x8.n v21) fun x23 =>
        Option.bind (i_Table_find fl a0.t x23.k) fun x25 =>
        Option.bind (i_noteOf fl x8.w x23.k) fun x26 =>
        cond (decide (0 ≤ x26))
         (Option.bind (idx x8.w x26) fun x28 =>
          Option.bind (cond (x28 != x23) (some true) (some (decide (0 ≤ x25)))) fun y29 =>
          cond y29
           (some (.ret false))
           (Option.bind (ck (v21 + 1)) fun x31 =>
            i_SystemValid_L1 fl a0 x8 fuel x31))
         (Option.bind (cond (decide (x25 < 0)) (some true) (some (x25 != x23.fr))) fun y32 =>
          cond y32
           (some (.ret false))
           (Option.bind (ck (v21 + 1)) fun x34 =>
            i_SystemValid_L1 fl a0 x8 fuel x34)))
       (some (.out v21))
def i_SystemValid_L2 (fl : Nat) (a0 : Sy) (x8 : Cp) : Nat → Int → Option (LO Int Bool)
  | 0, _ => none
  | fuel + 1, v35 => cond (decide (v35 < ((x8.w).length : Int)))
       (Option.bind (idx x8.w v35) fun x37 =>
        Option.bind (i_noteOf fl x8.n x37.k) fun x39 =>
        Option.bind (cond (decide (x39 < 0)) (some true) (Option.bind (i_within fl x37.fr ((a0.t.f).length : Int)) fun x41 =>
        some (!x41))) fun y40 =>
        Option.bind (cond y40 (some true) (Option.bind (idx a0.t.f x37.fr) fun x43 =>
        some x43.u)) fun y42 =>
        cond y42
         (some (.ret false))
         (Option.bind (ck (v35 + 1)) fun x45 =>
          i_SystemValid_L2 fl a0 x8 fuel x45))
       (some (.out v35))
def i_SystemValid_L0 (fl : Nat) (a0 : Sy) : Nat → Int → Option (LO Int Bool)
  | 0, _ => none
  | fuel + 1, v6 => cond (decide (v6 < ((a0.c).length : Int)))
       (Option.bind (idx a0.c v6) fun x8 =>
        Option.bind (i_each fl x8.n) fun x17 =>
        Option.bind (cond (!x17) (some true) (Option.bind (i_each fl x8.w) fun x19 =>
        some (!x19))) fun y18 =>
        cond y18
         (some (.ret false))
         (Option.bind (i_SystemValid_L1 fl a0 x8 fl 0) fun o => match o with
          | .ret r' => some (.ret r')
          | .out v21 =>
          Option.bind (i_SystemValid_L2 fl a0 x8 fl 0) fun o => match o with
          | .ret r' => some (.ret r')
          | .out v35 =>
          Option.bind (ck (v6 + 1)) fun x46 =>
          i_SystemValid_L0 fl a0 fuel x46))
       (some (.out v6))
def i_SystemValid (fl : Nat) (a0 : Sy) : Option Bool :=
  Option.bind (i_TableValid fl a0.t) fun x2 =>
    Option.bind (cond (!x2) (some true) (some (decide (((a0.c).length : Int) < 1)))) fun y3 =>
    Option.bind (cond y3 (some true) (some (decide (4 < ((a0.c).length : Int))))) fun y4 =>
    cond y4
     (some false)
     (Option.bind (i_SystemValid_L0 fl a0 fl 0) fun o => match o with
      | .ret r' => some r'
      | .out v6 =>
      some true)

def l_FnSystemSame (fl : Nat) (a0 : (List UInt8)) : Option Bool :=
  cond (decide (1048576 < ((a0).length : Int)))
     (some true)
     (Option.bind (s_DrawSystemSame fl a0) fun x2 =>
      Option.bind (i_SystemSame fl x2.1 x2.2) fun x29 =>
      Option.bind (s_SystemSame fl x2.1 x2.2) fun x30 =>
      Option.bind (cond (x29 == x30) (Option.bind (i_SystemSame fl x2.2 x2.1) fun x32 =>
      some (x29 == x32)) (some false)) fun y31 =>
      Option.bind (cond y31 (Option.bind (i_SystemSame fl x2.1 x2.1) fun x34 =>
      some x34) (some false)) fun y33 =>
      Option.bind (cond y33 (Option.bind (cond (!x29) (some true) (Option.bind (i_SystemValid fl x2.1) fun x37 =>
      Option.bind (i_SystemValid fl x2.2) fun x38 =>
      some (x37 == x38))) fun y36 =>
      some y36) (some false)) fun y35 =>
      some y35)
end
end Go.Proofs.YtciliaiocakdkaaDoor
