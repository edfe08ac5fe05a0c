/- The pure functions: what each function of the program computes, in plain Lean. Printed by a program (gen.py). -/
import Derived.Test.YtkocamaoeojfhaaDoorE6
import Derived.Test.YtkocamaoeojfhaaDoorDat
import Derived.Test.YtkocamaoeojfhaaDoorPure
set_option linter.unusedSimpArgs false
set_option linter.unusedVariables false
set_option linter.unusedSectionVars false
namespace Go.Proofs.YtkocamaoeojfhaaDoor
open Go.RowKit
noncomputable section
def l_szIntS (fl : Nat) (a0 : (List Int)) (a1 : Int) : Option Int :=
  Option.bind (ck (a1 - ((a0).length : Int))) fun x1 =>
    cond (decide (x1 < 0))
   (some (-1))
   (some x1)

def l_szFrameS (fl : Nat) (a0 : (List F)) (a1 : Int) : Option Int :=
  Option.bind (ck (a1 - ((a0).length : Int))) fun x1 =>
    cond (decide (x1 < 0))
   (some (-1))
   (some x1)

def l_szTable (fl : Nat) (a0 : T) (a1 : Int) : Option Int :=
  Option.bind (l_szIntS fl a0.b a1) fun x2 =>
    cond (decide (x2 < 0))
   (some (-1))
   (Option.bind (l_szFrameS fl a0.f x2) fun x4 =>
      cond (decide (x4 < 0))
     (some (-1))
     (some x4))

def l_toIntS_L0 (fl : Nat) (a0 : (List Int)) : Nat → (List Int) → Int → Option (LO ((List Int) × Int) ((List Int)))
  | 0, _, _ => none
  | fuel + 1, v4, v6 => cond (decide (v6 < ((a0).length : Int)))
     (Option.bind (idx a0 v6) fun x8 =>
        Option.bind (idx v4 v6) fun x9 =>
        Option.bind (ck (v6 + 1)) fun x11 =>
        l_toIntS_L0 fl a0 fuel (v4.set (Int.toNat v6) x8) x11)
     (some (.out (v4, v6)))
def l_toIntS (fl : Nat) (a0 : (List Int)) : Option (List Int) :=
  Option.bind (mkO ((a0).length : Int)) fun x1 =>
    Option.bind (l_toIntS_L0 fl a0 fl (List.replicate x1 (0 : Int)) 0) fun o => match o with
    | .ret r' => some r'
    | .out (v4, v6) =>
    some v4

def l_toKey (fl : Nat) (a0 : K) : Option K :=
  some a0

def l_toFrame (fl : Nat) (a0 : F) : Option F :=
  Option.bind (l_toKey fl a0.k) fun x4 =>
    some (⟨a0.u, x4, a0.r, a0.nx⟩ : F)

def l_toFrameS_L0 (fl : Nat) (a0 : (List F)) : Nat → (List F) → Int → Option (LO ((List F) × Int) ((List F)))
  | 0, _, _ => none
  | fuel + 1, v4, v6 => cond (decide (v6 < ((a0).length : Int)))
     (Option.bind (idx a0 v6) fun x8 =>
        Option.bind (l_toFrame fl x8) fun x9 =>
        Option.bind (idx v4 v6) fun x10 =>
        Option.bind (ck (v6 + 1)) fun x12 =>
        l_toFrameS_L0 fl a0 fuel (v4.set (Int.toNat v6) x9) x12)
     (some (.out (v4, v6)))
def l_toFrameS (fl : Nat) (a0 : (List F)) : Option (List F) :=
  Option.bind (mkO ((a0).length : Int)) fun x1 =>
    Option.bind (l_toFrameS_L0 fl a0 fl (List.replicate x1 (⟨false, (⟨0, 0⟩ : K), 0, 0⟩ : F)) 0) fun o => match o with
    | .ret r' => some r'
    | .out (v4, v6) =>
    some v4

def l_toTable (fl : Nat) (a0 : T) : Option T :=
  Option.bind (l_toIntS fl a0.b) fun x4 =>
    Option.bind (l_toFrameS fl a0.f) fun x9 =>
    some (⟨x4, x9⟩ : T)

def s_TableValid (fl : Nat) (a0 : T) : Option Bool := some (tableOk a0)

def s_l1Space (fl : Nat) (a0 : Int) : Option Bool :=
  Option.bind (cond (decide (0 ≤ a0)) (some (decide (a0 < 16))) (some false)) fun y1 =>
    some y1

def s_l1Page (fl : Nat) (a0 : Int) : Option Bool :=
  Option.bind (cond (decide (0 ≤ a0)) (some (decide (a0 < 256))) (some false)) fun y1 =>
    some y1

def s_KeyValid (fl : Nat) (a0 : K) : Option Bool :=
  Option.bind (s_l1Space fl a0.s) fun x2 =>
    Option.bind (cond x2 (Option.bind (s_l1Page fl a0.p) fun x4 =>
    some x4) (some false)) fun y3 =>
    some y3

def s_l2Hash (fl : Nat) (a0 : K) (a1 : Int) : Option Int :=
  Option.bind (ck (a0.s * 256)) fun x2 =>
    Option.bind (ck (x2 + a0.p)) fun x3 =>
    Option.bind (ck (x3 * 2654435761)) fun x4 =>
    Option.bind (remO x4 4294967296) fun x5 =>
    Option.bind (ck (x5 * a1)) fun x6 =>
    Option.bind (quoO x6 4294967296) fun x7 =>
    some x7

def s_l3Chain_L0 (fl : Nat) (a0 : T) : Nat → (List Int) → Int → Option (LO ((List Int) × Int) ((List Int) × Bool))
  | 0, _, _ => none
  | fuel + 1, v5, v10 => cond (v10 != (-1))
     (Option.bind (cond (decide (v10 < 0)) (some true) (some (decide (((a0.f).length : Int) ≤ v10)))) fun y12 =>
        Option.bind (cond y12 (some true) (some (decide (((a0.f).length : Int) ≤ ((v5).length : Int))))) fun y13 =>
        Option.bind (cond y13 (some true) (Option.bind (idx a0.f v10) fun x15 =>
        some (!x15.u))) fun y14 =>
        cond y14
       (some (.ret (v5, false)))
       (Option.bind (cnt (v5 ++ [v10])) fun x19 =>
          Option.bind (idx a0.f v10) fun x23 =>
          s_l3Chain_L0 fl a0 fuel x19 x23.nx))
     (some (.out (v5, v10)))
def s_l3Chain (fl : Nat) (a0 : T) (a1 : Int) : Option ((List Int) × Bool) :=
  Option.bind (idx a0.b a1) fun x4 =>
    Option.bind (s_l3Chain_L0 fl a0 fl ([] : List Int) x4) fun o => match o with
    | .ret r' => some r'
    | .out (v5, v10) =>
    some (v5, true)

def s_l3Find_L0 (fl : Nat) (a0 : T) (a1 : K) (x4 : ((List Int) × Bool)) : Nat → Int → Option (LO Int (Int × Int))
  | 0, _ => none
  | fuel + 1, v9 => cond (decide (v9 < ((x4.1).length : Int)))
     (Option.bind (idx x4.1 v9) fun x11 =>
        Option.bind (idx a0.f x11) fun x12 =>
        cond (x12.k == a1)
       (Option.bind (ck (v9 + 1)) fun x14 =>
          some (.ret (x11, x14)))
       (Option.bind (ck (v9 + 1)) fun x15 =>
          s_l3Find_L0 fl a0 a1 x4 fuel x15))
     (some (.out v9))
def s_l3Find (fl : Nat) (a0 : T) (a1 : K) : Option (Int × Int) :=
  Option.bind (s_l2Hash fl a1 ((a0.b).length : Int)) fun x3 =>
    Option.bind (s_l3Chain fl a0 x3) fun x4 =>
    Option.bind (s_l3Find_L0 fl a0 a1 x4 fl 0) fun o => match o with
    | .ret r' => some r'
    | .out v9 =>
    some ((-1), ((x4.1).length : Int))

def s_FindPage (fl : Nat) (a0 : T) (a1 : K) : Option (Int × Int × Bool) :=
  Option.bind (s_TableValid fl a0) fun x3 =>
    Option.bind (cond (!x3) (some true) (Option.bind (s_KeyValid fl a1) fun x5 =>
    some (!x5))) fun y4 =>
    cond y4
   (some (0, 0, false))
   (Option.bind (s_l3Find fl a0 a1) fun x7 =>
      cond (decide (x7.1 < 0))
     (some (0, x7.2, false))
     (some (x7.1, x7.2, true)))

def s_RightsValid (fl : Nat) (a0 : Int) : Option Bool :=
  Option.bind (cond (decide (0 ≤ a0)) (some (decide (a0 ≤ 7))) (some false)) fun y1 =>
    some y1

def s_l3Copy (fl : Nat) (a0 : T) : Option T :=
  Option.bind (cnt (([] : List Int) ++ a0.b)) fun x5 =>
    Option.bind (cnt (([] : List F) ++ a0.f)) fun x11 =>
    some (⟨x5, x11⟩ : T)

def s_ProtectPage (fl : Nat) (a0 : T) (a1 : K) (a2 : Int) : Option (T × Bool) :=
  Option.bind (s_FindPage fl a0 a1) fun x4 =>
    Option.bind (cond (!x4.2.2) (some true) (Option.bind (s_RightsValid fl a2) fun x6 =>
    some (!x6))) fun y5 =>
    cond y5
   (some ((⟨[], []⟩ : T), false))
   (Option.bind (s_l3Copy fl a0) fun x8 =>
      Option.bind (idx x8.f x4.1) fun x18 =>
      some ((⟨x8.b, (x8.f.set (Int.toNat x4.1) (⟨x18.u, x18.k, a2, x18.nx⟩ : F))⟩ : T), true))

def i_TableValid (fl : Nat) (a0 : T) : Option Bool := some (tableOk a0)

def i_within (fl : Nat) (a0 : Int) (a1 : Int) : Option Bool :=
  Option.bind (cond (decide (0 ≤ a0)) (some (decide (a0 < a1))) (some false)) fun y1 =>
    some y1

def i_KeyValid (fl : Nat) (a0 : K) : Option Bool :=
  Option.bind (i_within fl a0.s 16) fun x2 =>
    Option.bind (cond x2 (Option.bind (i_within fl a0.p 256) fun x4 =>
    some x4) (some false)) fun y3 =>
    some y3

def i_Table_find_1 (fl : Nat) (a0 : F) (ac0 : K) : Option Bool :=
  Option.bind (cond a0.u (some (a0.k == ac0)) (some false)) fun y2 =>
    some y2

def slices_IndexFunc_Frame_of_i_Table_find_1_L0 (fl : Nat) (a0 : (List F)) (a1_0 : K) : Nat → Int → Option (LO Int Int)
  | 0, _ => none
  | fuel + 1, v1 => cond (decide (v1 < ((a0).length : Int)))
     (Option.bind (idx a0 v1) fun x3 =>
        Option.bind (i_Table_find_1 fl x3 a1_0) fun x4 =>
        cond x4
       (some (.ret v1))
       (Option.bind (ck (v1 + 1)) fun x6 =>
          slices_IndexFunc_Frame_of_i_Table_find_1_L0 fl a0 a1_0 fuel x6))
     (some (.out v1))
def slices_IndexFunc_Frame_of_i_Table_find_1 (fl : Nat) (a0 : (List F)) (a1_0 : K) : Option Int :=
  Option.bind (slices_IndexFunc_Frame_of_i_Table_find_1_L0 fl a0 a1_0 fl 0) fun o => match o with
    | .ret r' => some r'
    | .out v1 =>
    some (-1)

def i_Table_find (fl : Nat) (a0 : T) (a1 : K) : Option Int :=
  Option.bind (slices_IndexFunc_Frame_of_i_Table_find_1 fl a0.f a1) fun x3 =>
    some x3

def i_RightsValid (fl : Nat) (a0 : Int) : Option Bool :=
  Option.bind (i_within fl a0 8) fun x1 =>
    some x1

def slices_Clone_Int (fl : Nat) (a0 : (List Int)) : Option (List Int) :=
  cnt a0

def slices_Clone_Frame (fl : Nat) (a0 : (List F)) : Option (List F) :=
  cnt a0

def i_Table_clone (fl : Nat) (a0 : T) : Option T :=
  Option.bind (slices_Clone_Int fl a0.b) fun x3 =>
    Option.bind (slices_Clone_Frame fl a0.f) fun x8 =>
    some (⟨x3, x8⟩ : T)

def i_ProtectPage (fl : Nat) (a0 : T) (a1 : K) (a2 : Int) : Option (T × Bool) :=
  Option.bind (i_TableValid fl a0) fun x4 =>
    Option.bind (cond (!x4) (some true) (Option.bind (i_KeyValid fl a1) fun x6 =>
    some (!x6))) fun y5 =>
    Option.bind (cond y5 (some true) (Option.bind (i_Table_find fl a0 a1) fun x8 =>
    some (decide (x8 < 0)))) fun y7 =>
    Option.bind (cond y7 (some true) (Option.bind (i_RightsValid fl a2) fun x10 =>
    some (!x10))) fun y9 =>
    cond y9
   (some ((⟨[], []⟩ : T), false))
   (Option.bind (i_Table_clone fl a0) fun x12 =>
      Option.bind (i_Table_find fl a0 a1) fun x22 =>
      Option.bind (idx x12.f x22) fun x23 =>
      some ((⟨x12.b, (x12.f.set (Int.toNat x22) (⟨x23.u, x23.k, a2, x23.nx⟩ : F))⟩ : T), true))

def l_eqIntS_L0 (fl : Nat) (a0 : (List Int)) (a1 : (List Int)) : Nat → Int → Option (LO Int Bool)
  | 0, _ => none
  | fuel + 1, v2 => cond (decide (v2 < ((a0).length : Int)))
     (Option.bind (idx a0 v2) fun x4 =>
        Option.bind (idx a1 v2) fun x5 =>
        cond (x4 != x5)
       (some (.ret false))
       (Option.bind (ck (v2 + 1)) fun x7 =>
          l_eqIntS_L0 fl a0 a1 fuel x7))
     (some (.out v2))
def l_eqIntS (fl : Nat) (a0 : (List Int)) (a1 : (List Int)) : Option Bool :=
  cond (((a0).length : Int) != ((a1).length : Int))
   (some false)
   (Option.bind (l_eqIntS_L0 fl a0 a1 fl 0) fun o => match o with
      | .ret r' => some r'
      | .out v2 =>
      some true)

def l_eqKey (fl : Nat) (a0 : K) (a1 : K) : Option Bool :=
  cond (a0.s != a1.s)
   (some false)
   (cond (a0.p != a1.p)
     (some false)
     (some true))

def l_eqFrame (fl : Nat) (a0 : F) (a1 : F) : Option Bool :=
  cond (a0.u != a1.u)
   (some false)
   (Option.bind (l_eqKey fl a0.k a1.k) fun x4 =>
      cond (!x4)
     (some false)
     (cond (a0.r != a1.r)
       (some false)
       (cond (a0.nx != a1.nx)
         (some false)
         (some true))))

def l_eqFrameS_L0 (fl : Nat) (a0 : (List F)) (a1 : (List F)) : Nat → Int → Option (LO Int Bool)
  | 0, _ => none
  | fuel + 1, v2 => cond (decide (v2 < ((a0).length : Int)))
     (Option.bind (idx a0 v2) fun x4 =>
        Option.bind (idx a1 v2) fun x5 =>
        Option.bind (l_eqFrame fl x4 x5) fun x6 =>
        cond (!x6)
       (some (.ret false))
       (Option.bind (ck (v2 + 1)) fun x8 =>
          l_eqFrameS_L0 fl a0 a1 fuel x8))
     (some (.out v2))
def l_eqFrameS (fl : Nat) (a0 : (List F)) (a1 : (List F)) : Option Bool :=
  cond (((a0).length : Int) != ((a1).length : Int))
   (some false)
   (Option.bind (l_eqFrameS_L0 fl a0 a1 fl 0) fun o => match o with
      | .ret r' => some r'
      | .out v2 =>
      some true)

def l_eqTable (fl : Nat) (a0 : T) (a1 : T) : Option Bool :=
  Option.bind (l_eqIntS fl a0.b a1.b) fun x3 =>
    cond (!x3)
   (some false)
   (Option.bind (l_eqFrameS fl a0.f a1.f) fun x5 =>
      cond (!x5)
     (some false)
     (some true))

def l_markIntS_L0 (fl : Nat) (a0 : (List Int)) : Nat → (List Int) → Int → Int → Option (LO ((List Int) × Int × Int) (Int × (List Int)))
  | 0, _, _, _ => none
  | fuel + 1, v1, v3, v4 => cond (decide (v4 < ((a0).length : Int)))
     (Option.bind (idx v1 v4) fun x6 =>
        Option.bind (ck (v3 + 1)) fun x8 =>
        Option.bind (ck (v4 + 1)) fun x9 =>
        l_markIntS_L0 fl a0 fuel (v1.set (Int.toNat v4) v3) x8 x9)
     (some (.out (v1, v3, v4)))
def l_markIntS (fl : Nat) (a0 : (List Int)) (a1 : Int) : Option (Int × (List Int)) :=
  Option.bind (l_markIntS_L0 fl a0 fl a0 a1 0) fun o => match o with
    | .ret r' => some r'
    | .out (v1, v3, v4) =>
    some (v3, v1)

def l_markFrameS_L0 (fl : Nat) (a0 : (List F)) : Nat → (List F) → Int → Int → Option (LO ((List F) × Int × Int) (Int × (List F)))
  | 0, _, _, _ => none
  | fuel + 1, v1, v3, v4 => cond (decide (v4 < ((a0).length : Int)))
     (Option.bind (remO v3 3) fun x6 =>
        Option.bind (idx v1 v4) fun x7 =>
        Option.bind (ck (v3 + 1)) fun x9 =>
        Option.bind (idx (v1.set (Int.toNat v4) (⟨(x6 == 0), x7.k, x7.r, x7.nx⟩ : F)) v4) fun x10 =>
        Option.bind (ck (x9 + 1)) fun x12 =>
        Option.bind (idx ((v1.set (Int.toNat v4) (⟨(x6 == 0), x7.k, x7.r, x7.nx⟩ : F)).set (Int.toNat v4) (⟨x10.u, (⟨x9, x10.k.p⟩ : K), x10.r, x10.nx⟩ : F)) v4) fun x13 =>
        Option.bind (ck (x12 + 1)) fun x15 =>
        Option.bind (idx (((v1.set (Int.toNat v4) (⟨(x6 == 0), x7.k, x7.r, x7.nx⟩ : F)).set (Int.toNat v4) (⟨x10.u, (⟨x9, x10.k.p⟩ : K), x10.r, x10.nx⟩ : F)).set (Int.toNat v4) (⟨x13.u, (⟨x13.k.s, x12⟩ : K), x13.r, x13.nx⟩ : F)) v4) fun x16 =>
        Option.bind (ck (x15 + 1)) fun x18 =>
        Option.bind (idx ((((v1.set (Int.toNat v4) (⟨(x6 == 0), x7.k, x7.r, x7.nx⟩ : F)).set (Int.toNat v4) (⟨x10.u, (⟨x9, x10.k.p⟩ : K), x10.r, x10.nx⟩ : F)).set (Int.toNat v4) (⟨x13.u, (⟨x13.k.s, x12⟩ : K), x13.r, x13.nx⟩ : F)).set (Int.toNat v4) (⟨x16.u, x16.k, x15, x16.nx⟩ : F)) v4) fun x19 =>
        Option.bind (ck (x18 + 1)) fun x21 =>
        Option.bind (ck (v4 + 1)) fun x22 =>
        l_markFrameS_L0 fl a0 fuel (((((v1.set (Int.toNat v4) (⟨(x6 == 0), x7.k, x7.r, x7.nx⟩ : F)).set (Int.toNat v4) (⟨x10.u, (⟨x9, x10.k.p⟩ : K), x10.r, x10.nx⟩ : F)).set (Int.toNat v4) (⟨x13.u, (⟨x13.k.s, x12⟩ : K), x13.r, x13.nx⟩ : F)).set (Int.toNat v4) (⟨x16.u, x16.k, x15, x16.nx⟩ : F)).set (Int.toNat v4) (⟨x19.u, x19.k, x19.r, x18⟩ : F)) x21 x22)
     (some (.out (v1, v3, v4)))
def l_markFrameS (fl : Nat) (a0 : (List F)) (a1 : Int) : Option (Int × (List F)) :=
  Option.bind (l_markFrameS_L0 fl a0 fl a0 a1 0) fun o => match o with
    | .ret r' => some r'
    | .out (v1, v3, v4) =>
    some (v3, v1)

def l_markTable (fl : Nat) (a0 : T) (a1 : Int) : Option (Int × (List Int) × (List F)) :=
  Option.bind (l_markIntS fl a0.b a1) fun x2 =>
    Option.bind (l_markFrameS fl a0.f x2.1) fun x4 =>
    some (x4.1, x2.2, x4.2)

def l_heldIntS_L0 (fl : Nat) (a0 : (List Int)) : Nat → Int → Int → Option (LO (Int × Int) Int)
  | 0, _, _ => none
  | fuel + 1, v1, v2 => cond (decide (v2 < ((a0).length : Int)))
     (Option.bind (idx a0 v2) fun x4 =>
        cond (x4 != v1)
       (some (.ret (-1)))
       (Option.bind (ck (v1 + 1)) fun x6 =>
          Option.bind (ck (v2 + 1)) fun x7 =>
          l_heldIntS_L0 fl a0 fuel x6 x7))
     (some (.out (v1, v2)))
def l_heldIntS (fl : Nat) (a0 : (List Int)) (a1 : Int) : Option Int :=
  Option.bind (l_heldIntS_L0 fl a0 fl a1 0) fun o => match o with
    | .ret r' => some r'
    | .out (v1, v2) =>
    some v1

def l_heldFrameS_L0 (fl : Nat) (a0 : (List F)) : Nat → Int → Int → Option (LO (Int × Int) Int)
  | 0, _, _ => none
  | fuel + 1, v1, v2 => cond (decide (v2 < ((a0).length : Int)))
     (Option.bind (idx a0 v2) fun x4 =>
        Option.bind (remO v1 3) fun x5 =>
        cond (x4.u != (x5 == 0))
       (some (.ret (-1)))
       (Option.bind (ck (v1 + 1)) fun x7 =>
          cond (x4.k.s != x7)
         (some (.ret (-1)))
         (Option.bind (ck (x7 + 1)) fun x9 =>
            cond (x4.k.p != x9)
           (some (.ret (-1)))
           (Option.bind (ck (x9 + 1)) fun x11 =>
              cond (x4.r != x11)
             (some (.ret (-1)))
             (Option.bind (ck (x11 + 1)) fun x13 =>
                cond (x4.nx != x13)
               (some (.ret (-1)))
               (Option.bind (ck (x13 + 1)) fun x15 =>
                  Option.bind (ck (v2 + 1)) fun x16 =>
                  l_heldFrameS_L0 fl a0 fuel x15 x16))))))
     (some (.out (v1, v2)))
def l_heldFrameS (fl : Nat) (a0 : (List F)) (a1 : Int) : Option Int :=
  Option.bind (l_heldFrameS_L0 fl a0 fl a1 0) fun o => match o with
    | .ret r' => some r'
    | .out (v1, v2) =>
    some v1

def l_heldTable (fl : Nat) (a0 : T) (a1 : Int) : Option Int :=
  Option.bind (l_heldIntS fl a0.b a1) fun x2 =>
    cond (decide (x2 < 0))
   (some (-1))
   (Option.bind (l_heldFrameS fl a0.f x2) fun x4 =>
      cond (decide (x4 < 0))
     (some (-1))
     (some x4))

def l_FnExactProtectPage (fl : Nat) (a0 : T) (a1 : K) (a2 : Int) : Option Bool :=
  Option.bind (l_szTable fl a0 1048576) fun x3 =>
    cond (decide (x3 < 0))
   (some true)
   (Option.bind (l_toTable fl a0) fun x5 =>
      Option.bind (l_toKey fl a1) fun x14 =>
      Option.bind (s_ProtectPage fl x5 x14 a2) fun x15 =>
      Option.bind (l_toTable fl a0) fun x25 =>
      Option.bind (i_ProtectPage fl x25 x14 a2) fun x35 =>
      Option.bind (l_eqTable fl x35.1 x15.1) fun x45 =>
      Option.bind (cond (!x45) (some true) (some (x35.2 != x15.2))) fun y46 =>
      cond y46
     (some false)
     (Option.bind (l_toTable fl a0) fun x48 =>
        Option.bind (l_eqTable fl x25 x48) fun x57 =>
        cond (!x57)
       (some false)
       (Option.bind (l_markTable fl x25 1) fun x59 =>
          Option.bind (cond (decide (x59.1 < 0)) (some true) (some (!x45))) fun y62 =>
          Option.bind (cond y62 (some true) (some (x35.2 != x15.2))) fun y63 =>
          cond y63
         (some false)
         (Option.bind (l_markTable fl x35.1 1) fun x65 =>
            Option.bind (l_heldTable fl (⟨x65.2.1, x65.2.2⟩ : T) 1) fun x68 =>
            cond (decide (x68 < 0))
           (some false)
           (cond (x68 != x65.1)
             (some false)
             (Option.bind (l_toTable fl a0) fun x71 =>
                Option.bind (i_ProtectPage fl x71 x14 a2) fun x80 =>
                Option.bind (l_eqTable fl x80.1 x15.1) fun x90 =>
                Option.bind (cond (!x90) (some true) (some (x80.2 != x15.2))) fun y91 =>
                cond y91
               (some false)
               (cond (decide (x68 < 0))
                 (some false)
                 (cond (x68 != x65.1)
                   (some false)
                   (some true)))))))))
end
end Go.Proofs.YtkocamaoeojfhaaDoor
