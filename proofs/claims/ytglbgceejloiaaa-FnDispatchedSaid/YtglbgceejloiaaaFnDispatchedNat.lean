/- The native forms of the functions, as gen.py prints them. Conditions: none. -/
import Derived.Test.YtglbgceejloiaaaLib4
namespace Go.Ev.N
open Go Go.Ev
set_option linter.unusedVariables false
def PF (n : Int) : Int := IntKind.wrap .i64 n
abbrev jk := (List UInt8) × Int
abbrev Xm := Int × Int
abbrev Qj := Int × Int × Int
abbrev jA := Int × Int × Bool × Int
abbrev PE := Int × Int × Int × Int
abbrev O9 := Int × Int × Int × Bool × Int
abbrev gl := Int × Int × (List Int)
abbrev PB := Int × Int × (List Qj)
abbrev Wa := (List Int) × Int × Int
abbrev TV := Int × Int × (List Xm) × (List Qj) × Int
abbrev WC := Int × (List TV)
abbrev Sc := Int × Int × (List Int) × (List PB) × Int × (List TV) × (List O9) × (List PE) × (List Int) × (List Int) × Int
def Th (a0 : List Int) : Option (Bool) :=
 some (decide (((List.length a0 : Int)) > 1048576))
def SE (a0 : List Int) (x1 : Xm) : Option ((Xm) ⊕ (Xm)) :=
 (show Option (Bool) from
  bif (decide (x1.2 < ((List.length a0 : Int)))) then
   some (decide (x1.2 < 4000))
  else
   some false).bind fun (x2 : Bool) =>
 bif x2 then
  ((ND a0 x1.2)).bind fun (x3 : Int) =>
  some (.inl ((OO .i64 (PF ((PF ((PF (x1.1 * 137)) + (PF x3))) + 11)) 1073741823), (PF (x1.2 + 1))))
 else
  some (.inr (x1.1, x1.2))
def Sj (n : Nat) (a0 : List Int) : Option (Wa) :=
 (iter n (SE a0) ((PF (275275 + ((List.length a0 : Int)))), 0)).bind fun (x4 : Xm) =>
 some (a0, 0, x4.1)
def QP (a0_0 : List Int) (a0_1 : Int) (a0_2 : Int) : Option (Int × (List Int) × Int × Int) :=
 bif (decide (0 ≤ 33)) then
  bif (decide (0 ≤ 47)) then
   (show Option (Int × (List Int) × Int × Int) from
    bif (decide (a0_1 < ((List.length a0_0 : Int)))) then
     ((ND a0_0 a0_1)).bind fun (x2 : Int) =>
     some ((OO .i64 (PF ((OO .i64 (Oa .i64 (OD .i64 (PF ((PF (a0_2 * 6364136223846793005)) + 1442695040888963407)) 33) (OD .i64 (PF ((PF (a0_2 * 6364136223846793005)) + 1442695040888963407)) 47)) 255) + (PF x2))) 255), a0_0, (PF (a0_1 + 1)), (PF ((PF (a0_2 * 6364136223846793005)) + 1442695040888963407)))
    else
     some ((OO .i64 (Oa .i64 (OD .i64 (PF ((PF (a0_2 * 6364136223846793005)) + 1442695040888963407)) 33) (OD .i64 (PF ((PF (a0_2 * 6364136223846793005)) + 1442695040888963407)) 47)) 255), a0_0, a0_1, (PF ((PF (a0_2 * 6364136223846793005)) + 1442695040888963407)))).bind fun (x1 : Int × (List Int) × Int × Int) =>
   some (x1.1, x1.2.1, x1.2.2.1, x1.2.2.2)
  else
   none
 else
  none
def PK (a0_0 : List Int) (a0_1 : Int) (a0_2 : Int) (a1 : Int) : Option (Int × (List Int) × Int × Int) :=
 bif (decide (a1 ≤ 0)) then
  some (0, a0_0, a0_1, a0_2)
 else
  bif (decide (a1 ≤ 256)) then
   (QP a0_0 a0_1 a0_2).bind fun (x1 : Int × (List Int) × Int × Int) =>
   bif (a1 == 0) then
    none
   else
    some ((Int.tmod x1.1 a1), x1.2.1, x1.2.2.1, x1.2.2.2)
  else
   (QP a0_0 a0_1 a0_2).bind fun (x2 : Int × (List Int) × Int × Int) =>
   (QP x2.2.1 x2.2.2.1 x2.2.2.2).bind fun (x3 : Int × (List Int) × Int × Int) =>
   (QP x3.2.1 x3.2.2.1 x3.2.2.2).bind fun (x4 : Int × (List Int) × Int × Int) =>
   bif (a1 == 0) then
    none
   else
    some ((Int.tmod (PF ((PF ((PF (x2.1 * 65536)) + (PF (x3.1 * 256)))) + x4.1)) a1), x4.2.1, x4.2.2.1, x4.2.2.2)
def Pa (a0_0 : List Int) (a0_1 : Int) (a0_2 : Int) (a1 : Int) : Option (Bool × (List Int) × Int × Int) :=
 (PK a0_0 a0_1 a0_2 a1).bind fun (x1 : Int × (List Int) × Int × Int) =>
 some ((x1.1 == 0), x1.2.1, x1.2.2.1, x1.2.2.2)
def Sk (a0_0 : List Int) (a0_1 : Int) (a0_2 : Int) (a1 : List ((List UInt8))) : Option ((List UInt8) × (List Int) × Int × Int) :=
 (PK a0_0 a0_1 a0_2 ((List.length a1 : Int))).bind fun (x1 : Int × (List Int) × Int × Int) =>
 ((ND a1 x1.1)).bind fun (x2 : (List UInt8)) =>
 some (x2, x1.2.1, x1.2.2.1, x1.2.2.2)
def TH (a0 : List UInt8) (a1 : Int) (x1 : (List ((List UInt8))) × Int × Int) : Option (((List ((List UInt8))) × Int × Int) ⊕ ((List ((List UInt8))) × Int × Int)) :=
 bif (decide (x1.2.2 ≤ ((List.length a0 : Int)))) then
  (show Option ((List ((List UInt8))) × Int) from
   (show Option (Bool) from
    bif (x1.2.2 == ((List.length a0 : Int))) then
     some true
    else
     ((ND a0 x1.2.2)).bind fun (x3 : UInt8) =>
     some (((x3.toNat : Int)) == a1)).bind fun (x4 : Bool) =>
   bif x4 then
    bif (decide (0 ≤ x1.2.1) && decide (x1.2.1 ≤ x1.2.2) && decide (x1.2.2 ≤ ((List.length a0 : Int)))) then
     bif (decide (List.length x1.1 + List.length [(sub a0 (Int.toNat x1.2.1) (Int.toNat x1.2.2))] ≤ DZ)) then
      some ((x1.1 ++ [(sub a0 (Int.toNat x1.2.1) (Int.toNat x1.2.2))]), (PF (x1.2.2 + 1)))
     else
      none
    else
     none
   else
    some (x1.1, x1.2.1)).bind fun (x2 : (List ((List UInt8))) × Int) =>
  some (.inl (x2.1, x2.2, (PF (x1.2.2 + 1))))
 else
  some (.inr (x1.1, x1.2.1, x1.2.2))
def Rw (n : Nat) (a0 : List UInt8) (a1 : Int) : Option ((List ((List UInt8)))) :=
 (iter n (TH a0 a1) (([] : List ((List UInt8))), 0, 0)).bind fun (x5 : (List ((List UInt8))) × Int × Int) =>
 some x5.1
def PN (a0 : Int) (a1 : Int) (a2 : Int) : Option (Bool) :=
 (show Option (Bool) from
  bif (decide (a0 ≥ a1)) then
   some (decide (a0 ≤ a2))
  else
   some false).bind fun (x1 : Bool) =>
 some x1
def TO (a0 : Int) (x1 : Int) : Option ((Int) ⊕ ((Int) ⊕ (Int))) :=
 bif (decide (x1 < 5)) then
  ((ND ([35, 46, 112, 115, 99] : List UInt8) x1)).bind fun (x2 : UInt8) =>
  bif (((x2.toNat : Int)) == a0) then
   some (.inr (.inr x1))
  else
   some (.inl (PF (x1 + 1)))
 else
  some (.inr (.inl x1))
def SH (n : Nat) (a0 : Int) : Option (Int) :=
 (iter n (TO a0) 0).bind fun (x3 : (Int) ⊕ (Int)) =>
 (match x3 with
 | .inl x4 => (
  some (-1))
 | .inr x5 => (
  some x5))
def RZ (n : Nat) (x1 : (List ((List UInt8)))) (x3 : Int × Int × Int × (List Int) × Int × Int × (List Int)) (x10 : Int × Int × Int × (List Int) × Int × Int × (List Int)) : Option ((Int × Int × Int × (List Int) × Int × Int × (List Int)) ⊕ ((Int × Int × Int × (List Int) × Int × Int × (List Int)) ⊕ (Int × Int × (List Int) × Int))) :=
 bif (Of x1 x3.1) then
  ((x1[(Int.toNat x3.1)]?)).bind fun (x11 : (List UInt8)) =>
  bif (decide (x10.1 < ((List.length x11 : Int)))) then
   bif (Of x1 x3.1) then
    ((x1[(Int.toNat x3.1)]?)).bind fun (x12 : (List UInt8)) =>
    ((ND x12 x10.1)).bind fun (x13 : UInt8) =>
    (SH n ((x13.toNat : Int))).bind fun (x14 : Int) =>
    bif (decide (x14 < 0)) then
     some (.inr (.inr (0, 0, ([] : List Int), x3.1)))
    else
     bif (decide (List.length x10.2.2.2.2.2.2 + List.length [x14] ≤ DZ)) then
      some (.inl ((PF (x10.1 + 1)), x10.2.1, x10.2.2.1, x10.2.2.2.1, x10.2.2.2.2.1, x10.2.2.2.2.2.1, (x10.2.2.2.2.2.2 ++ [x14])))
     else
      none
   else
    none
  else
   some (.inr (.inl (x10.1, x10.2.1, x10.2.2.1, x10.2.2.2.1, x10.2.2.2.2.1, x10.2.2.2.2.2.1, x10.2.2.2.2.2.2)))
 else
  none
def RY (n : Nat) (x1 : (List ((List UInt8)))) (x3 : Int × Int × Int × (List Int) × Int × Int × (List Int)) : Option ((Int × Int × Int × (List Int) × Int × Int × (List Int)) ⊕ ((Int × Int × Int × (List Int) × Int × Int × (List Int)) ⊕ (Int × Int × (List Int) × Int))) :=
 bif (decide (x3.1 < ((List.length x1 : Int)))) then
  (show Option (Bool) from
   bif (x3.1 == (PF (((List.length x1 : Int)) - 1))) then
    bif (Of x1 x3.1) then
     ((x1[(Int.toNat x3.1)]?)).bind fun (x4 : (List UInt8)) =>
     bif (x4 == ([] : List UInt8)) then
      some (decide (x3.1 > 0))
     else
      some false
    else
     none
   else
    some false).bind fun (x5 : Bool) =>
  bif x5 then
   some (.inr (.inl (x3.1, x3.2.1, x3.2.2.1, x3.2.2.2.1, x3.2.2.2.2.1, x3.2.2.2.2.2.1, x3.2.2.2.2.2.2)))
  else
   (show Option (Bool) from
    bif (x3.1 == (PF (((List.length x1 : Int)) - 1))) then
     some true
    else
     bif (x3.1 == 10) then
      some true
     else
      bif (Of x1 x3.1) then
       ((x1[(Int.toNat x3.1)]?)).bind fun (x6 : (List UInt8)) =>
       (PN ((List.length x6 : Int)) 1 10).bind fun (x7 : Bool) =>
       bif (!x7) then
        some true
       else
        bif (Of x1 x3.1) then
         ((x1[(Int.toNat x3.1)]?)).bind fun (x8 : (List UInt8)) =>
         some (((List.length x8 : Int)) != x3.2.2.2.2.1)
        else
         none
      else
       none).bind fun (x9 : Bool) =>
   bif x9 then
    some (.inr (.inr (0, 0, ([] : List Int), x3.1)))
   else
    (iter n (RZ n x1 x3) (0, x3.2.1, x3.2.2.1, x3.2.2.2.1, x3.2.2.2.2.1, x3.2.2.2.2.2.1, x3.2.2.2.2.2.2)).bind fun (x15 : (Int × Int × Int × (List Int) × Int × Int × (List Int)) ⊕ (Int × Int × (List Int) × Int)) =>
    (match x15 with
    | .inl x16 => (
     some (.inl ((PF (x3.1 + 1)), x16.2.1, x16.2.2.1, x16.2.2.2.1, x16.2.2.2.2.1, (PF (x16.2.2.2.2.2.1 + 1)), x16.2.2.2.2.2.2)))
    | .inr x17 => (
     some (.inr (.inr x17))))
 else
  some (.inr (.inl (x3.1, x3.2.1, x3.2.2.1, x3.2.2.2.1, x3.2.2.2.2.1, x3.2.2.2.2.2.1, x3.2.2.2.2.2.2)))
def Pf (n : Nat) (a0 : List UInt8) : Option (Int × Int × (List Int) × Int) :=
 (Rw n a0 10).bind fun (x1 : (List ((List UInt8)))) =>
 bif (Of x1 0) then
  ((x1[(Int.toNat 0)]?)).bind fun (x2 : (List UInt8)) =>
  (iter n (RY n x1) (0, 0, 0, ([] : List Int), ((List.length x2 : Int)), 0, ([] : List Int))).bind fun (x18 : (Int × Int × Int × (List Int) × Int × Int × (List Int)) ⊕ (Int × Int × (List Int) × Int)) =>
  (match x18 with
  | .inl x19 => (
   some (x19.2.2.2.2.1, x19.2.2.2.2.2.1, x19.2.2.2.2.2.2, (-1)))
  | .inr x20 => (
   some x20))
 else
  none
def PZ (a0_0 : List Int) (a0_1 : Int) (a0_2 : Int) (a1 : List Int) : Option (Int × (List Int) × Int × Int) :=
 (PK a0_0 a0_1 a0_2 ((List.length a1 : Int))).bind fun (x1 : Int × (List Int) × Int × Int) =>
 ((ND a1 x1.1)).bind fun (x2 : Int) =>
 some (x2, x1.2.1, x1.2.2.1, x1.2.2.2)
def TG (x6 : Int × (List Int) × Int × Int × Int × Int × (List Int)) : Option ((Int × (List Int) × Int × Int × Int × Int × (List Int)) ⊕ (Int × (List Int) × Int × Int × Int × Int × (List Int))) :=
 bif (decide (x6.1 < (PF (x6.2.2.2.2.1 * x6.2.2.2.2.2.1)))) then
  (PZ x6.2.1 x6.2.2.1 x6.2.2.2.1 ([1, 1, 1, 1, 1, 1, 0, 2, 3, 4])).bind fun (x7 : Int × (List Int) × Int × Int) =>
  bif (decide (List.length x6.2.2.2.2.2.2 + List.length [x7.1] ≤ DZ)) then
   some (.inl ((PF (x6.1 + 1)), x7.2.1, x7.2.2.1, x7.2.2.2, x6.2.2.2.2.1, x6.2.2.2.2.2.1, (x6.2.2.2.2.2.2 ++ [x7.1])))
  else
   none
 else
  some (.inr (x6.1, x6.2.1, x6.2.2.1, x6.2.2.2.1, x6.2.2.2.2.1, x6.2.2.2.2.2.1, x6.2.2.2.2.2.2))
def Ru (n : Nat) (a0_0 : List Int) (a0_1 : Int) (a0_2 : Int) : Option (Int × Int × (List Int) × (List Int) × Int × Int) :=
 (Pa a0_0 a0_1 a0_2 3).bind fun (x1 : Bool × (List Int) × Int × Int) =>
 bif x1.1 then
  (Sk x1.2.1 x1.2.2.1 x1.2.2.2 ([([99, 46, 46, 46, 46, 46, 10, 46, 112, 112, 46, 112, 46, 10, 46, 112, 112, 46, 112, 46, 10, 46, 46, 46, 46, 46, 115, 10] : List UInt8), ([99, 46, 46, 10, 46, 46, 46, 10, 46, 46, 115, 10] : List UInt8), ([46, 46, 46, 46, 46, 10, 46, 112, 35, 112, 46, 10, 46, 46, 115, 46, 46, 10, 46, 112, 35, 112, 46, 10, 99, 46, 46, 46, 99, 10] : List UInt8), ([46, 46, 46, 35, 46, 46, 46, 10, 46, 46, 46, 46, 46, 46, 46, 10, 46, 46, 46, 35, 46, 46, 46, 10] : List UInt8), ([99, 46, 46, 46, 46, 46, 46, 46, 10, 46, 112, 46, 112, 46, 112, 46, 46, 10, 46, 46, 46, 46, 46, 46, 46, 115, 10, 46, 112, 46, 112, 46, 112, 46, 46, 10, 99, 46, 46, 46, 46, 46, 46, 115, 10] : List UInt8), ([46, 46, 10, 46, 46, 10] : List UInt8), ([99, 46, 35, 46, 115, 10, 46, 46, 35, 46, 46, 10] : List UInt8)])).bind fun (x2 : (List UInt8) × (List Int) × Int × Int) =>
  (Pf n x2.1).bind fun (x3 : Int × Int × (List Int) × Int) =>
  some (x3.1, x3.2.1, x3.2.2.1, x2.2.1, x2.2.2.1, x2.2.2.2)
 else
  (PK x1.2.1 x1.2.2.1 x1.2.2.2 7).bind fun (x4 : Int × (List Int) × Int × Int) =>
  (PK x4.2.1 x4.2.2.1 x4.2.2.2 6).bind fun (x5 : Int × (List Int) × Int × Int) =>
  (iter n (TG) (0, x5.2.1, x5.2.2.1, x5.2.2.2, (PF (1 + x4.1)), (PF (1 + x5.1)), ([] : List Int))).bind fun (x8 : Int × (List Int) × Int × Int × Int × Int × (List Int)) =>
  some (x8.2.2.2.2.1, x8.2.2.2.2.2.1, x8.2.2.2.2.2.2, x8.2.1, x8.2.2.1, x8.2.2.2.1)
def Sl (a0_2 : List Int) (x1 : (List Int) × Int) : Option (((List Int) × Int) ⊕ ((List Int) × Int)) :=
 bif (decide (x1.2 < ((List.length a0_2 : Int)))) then
  (show Option ((List Int)) from
   ((ND a0_2 x1.2)).bind fun (x3 : Int) =>
   bif (x3 != 0) then
    bif (decide (List.length x1.1 + List.length [x1.2] ≤ DZ)) then
     some (x1.1 ++ [x1.2])
    else
     none
   else
    some x1.1).bind fun (x2 : (List Int)) =>
  some (.inl (x2, (PF (x1.2 + 1))))
 else
  some (.inr (x1.1, x1.2))
def Re (n : Nat) (a0_0 : Int) (a0_1 : Int) (a0_2 : List Int) : Option ((List Int)) :=
 (iter n (Sl a0_2) (([] : List Int), 0)).bind fun (x4 : (List Int) × Int) =>
 some x4.1
def TQ (n : Nat) (a1_0 : Int) (a1_1 : Int) (a1_2 : List Int) (x3 : (List O9) × (List Int) × Int × (List Int) × Int × Int) : Option (((List O9) × (List Int) × Int × (List Int) × Int × Int) ⊕ ((List O9) × (List Int) × Int × (List Int) × Int × Int)) :=
 (show Option (Bool) from
  bif (decide (x3.2.2.1 > 0)) then
   bif (decide (((List.length x3.2.1 : Int)) > 0)) then
    some (decide (((List.length x3.1 : Int)) < 20))
   else
    some false
  else
   some false).bind fun (x4 : Bool) =>
 bif x4 then
  (PK x3.2.2.2.1 x3.2.2.2.2.1 x3.2.2.2.2.2 ((List.length x3.2.1 : Int))).bind fun (x5 : Int × (List Int) × Int × Int) =>
  (Re n a1_0 a1_1 a1_2).bind fun (x6 : (List Int)) =>
  bif (Of x3.2.1 x5.1) then
   ((x3.2.1[(Int.toNat x5.1)]?)).bind fun (x7 : Int) =>
   (PK x5.2.1 x5.2.2.1 x5.2.2.2 ((List.length x6 : Int))).bind fun (x8 : Int × (List Int) × Int × Int) =>
   bif (Of x6 x8.1) then
    ((x6[(Int.toNat x8.1)]?)).bind fun (x9 : Int) =>
    (Pa x8.2.1 x8.2.2.1 x8.2.2.2 3).bind fun (x10 : Bool × (List Int) × Int × Int) =>
    (PZ x10.2.1 x10.2.2.1 x10.2.2.2 ([0, 0, 1, 2, 7])).bind fun (x11 : Int × (List Int) × Int × Int) =>
    (show Option ((List Int) × Int × Int × Int × Int × Int × Bool × Int) from
     (Pa x11.2.1 x11.2.2.1 x11.2.2.2 5).bind fun (x13 : Bool × (List Int) × Int × Int) =>
     bif x13.1 then
      some (x13.2.1, x13.2.2.1, x13.2.2.2, (PF (((List.length x3.1 : Int)) + 1)), x7, (-1), x10.1, x11.1)
     else
      some (x13.2.1, x13.2.2.1, x13.2.2.2, (PF (((List.length x3.1 : Int)) + 1)), x7, x9, x10.1, x11.1)).bind fun (x12 : (List Int) × Int × Int × Int × Int × Int × Bool × Int) =>
    bif (decide (List.length x3.1 + List.length [(x12.2.2.2.1, x12.2.2.2.2.1, x12.2.2.2.2.2.1, x12.2.2.2.2.2.2.1, x12.2.2.2.2.2.2.2)] ≤ DZ)) then
     bif (decide (0 ≤ (0 : Int)) && decide ((0 : Int) ≤ x5.1) && decide (x5.1 ≤ ((List.length x3.2.1 : Int)))) then
      bif (decide (List.length ([] : List Int) + List.length (sub x3.2.1 (Int.toNat (0 : Int)) (Int.toNat x5.1)) ≤ DZ)) then
       bif (decide (0 ≤ (PF (x5.1 + 1))) && decide ((PF (x5.1 + 1)) ≤ ((List.length x3.2.1 : Int))) && decide (((List.length x3.2.1 : Int)) ≤ ((List.length x3.2.1 : Int)))) then
        bif (decide (List.length (([] : List Int) ++ (sub x3.2.1 (Int.toNat (0 : Int)) (Int.toNat x5.1))) + List.length (sub x3.2.1 (Int.toNat (PF (x5.1 + 1))) (Int.toNat ((List.length x3.2.1 : Int)))) ≤ DZ)) then
         some (.inl ((x3.1 ++ [(x12.2.2.2.1, x12.2.2.2.2.1, x12.2.2.2.2.2.1, x12.2.2.2.2.2.2.1, x12.2.2.2.2.2.2.2)]), ((([] : List Int) ++ (sub x3.2.1 (Int.toNat (0 : Int)) (Int.toNat x5.1))) ++ (sub x3.2.1 (Int.toNat (PF (x5.1 + 1))) (Int.toNat ((List.length x3.2.1 : Int))))), (PF (x3.2.2.1 - 1)), x12.1, x12.2.1, x12.2.2.1))
        else
         none
       else
        none
      else
       none
     else
      none
    else
     none
   else
    none
  else
   none
 else
  some (.inr (x3.1, x3.2.1, x3.2.2.1, x3.2.2.2.1, x3.2.2.2.2.1, x3.2.2.2.2.2))
def SQ (n : Nat) (a0_0 : List Int) (a0_1 : Int) (a0_2 : Int) (a1_0 : Int) (a1_1 : Int) (a1_2 : List Int) (a2 : Int) : Option ((List O9) × (List Int) × Int × Int) :=
 (Re n a1_0 a1_1 a1_2).bind fun (x1 : (List Int)) =>
 (PK a0_0 a0_1 a0_2 (PF (a2 + 1))).bind fun (x2 : Int × (List Int) × Int × Int) =>
 (iter n (TQ n a1_0 a1_1 a1_2) (([] : List O9), x1, x2.1, x2.2.1, x2.2.2.1, x2.2.2.2)).bind fun (x14 : (List O9) × (List Int) × Int × (List Int) × Int × Int) =>
 some (x14.1, x14.2.2.2.1, x14.2.2.2.2.1, x14.2.2.2.2.2)
def SP (a0_0 : List Int) (a0_1 : Int) (a0_2 : Int) (a1 : List O9) : Option ((List O9) × (List Int) × Int × Int) :=
 bif (decide (List.length ([] : List O9) + List.length a1 ≤ DZ)) then
  bif (((List.length (([] : List O9) ++ a1) : Int)) == 0) then
   some ((([] : List O9) ++ a1), a0_0, a0_1, a0_2)
  else
   (PK a0_0 a0_1 a0_2 ((List.length (([] : List O9) ++ a1) : Int))).bind fun (x1 : Int × (List Int) × Int × Int) =>
   (show Option ((List Int) × Int × Int × (List O9)) from
    (PK x1.2.1 x1.2.2.1 x1.2.2.2 6).bind fun (x3 : Int × (List Int) × Int × Int) =>
    bif (x3.1 == 0) then
     (PZ x3.2.1 x3.2.2.1 x3.2.2.2 ([(-1), 0, 99])).bind fun (x4 : Int × (List Int) × Int × Int) =>
     bif (Of (([] : List O9) ++ a1) x1.1) then
      some (x4.2.1, x4.2.2.1, x4.2.2.2, (List.modify (([] : List O9) ++ a1) (Int.toNat x1.1) (fun (y : O9) => (y.1, x4.1, y.2.2.1, y.2.2.2.1, y.2.2.2.2))))
     else
      none
    else
     bif (x3.1 == 1) then
      (PZ x3.2.1 x3.2.2.1 x3.2.2.2 ([(-2), 0, 100])).bind fun (x5 : Int × (List Int) × Int × Int) =>
      bif (Of (([] : List O9) ++ a1) x1.1) then
       some (x5.2.1, x5.2.2.1, x5.2.2.2, (List.modify (([] : List O9) ++ a1) (Int.toNat x1.1) (fun (y : O9) => (y.1, y.2.1, x5.1, y.2.2.2.1, y.2.2.2.2))))
      else
       none
     else
      bif (x3.1 == 2) then
       (PZ x3.2.1 x3.2.2.1 x3.2.2.2 ([0, 1, 100])).bind fun (x6 : Int × (List Int) × Int × Int) =>
       bif (Of (([] : List O9) ++ a1) x1.1) then
        some (x6.2.1, x6.2.2.1, x6.2.2.2, (List.modify (([] : List O9) ++ a1) (Int.toNat x1.1) (fun (y : O9) => (x6.1, y.2.1, y.2.2.1, y.2.2.2.1, y.2.2.2.2))))
       else
        none
      else
       bif (x3.1 == 3) then
        (PZ x3.2.1 x3.2.2.1 x3.2.2.2 ([(-1), 1000000, 1000001])).bind fun (x7 : Int × (List Int) × Int × Int) =>
        bif (Of (([] : List O9) ++ a1) x1.1) then
         some (x7.2.1, x7.2.2.1, x7.2.2.2, (List.modify (([] : List O9) ++ a1) (Int.toNat x1.1) (fun (y : O9) => (y.1, y.2.1, y.2.2.1, y.2.2.2.1, x7.1))))
        else
         none
       else
        some (x3.2.1, x3.2.2.1, x3.2.2.2, (([] : List O9) ++ a1))).bind fun (x2 : (List Int) × Int × Int × (List O9)) =>
   some (x2.2.2.2, x2.1, x2.2.1, x2.2.2.1)
 else
  none
def Qt (n : Nat) (a0_0 : List Int) (a0_1 : Int) (a0_2 : Int) : Option (Int × Int × (List Int) × (List O9) × (List Int) × Int × Int) :=
 (Ru n a0_0 a0_1 a0_2).bind fun (x1 : Int × Int × (List Int) × (List Int) × Int × Int) =>
 (PZ x1.2.2.2.1 x1.2.2.2.2.1 x1.2.2.2.2.2 ([3, 6, 12])).bind fun (x2 : Int × (List Int) × Int × Int) =>
 (SQ n x2.2.1 x2.2.2.1 x2.2.2.2 x1.1 x1.2.1 x1.2.2.1 x2.1).bind fun (x3 : (List O9) × (List Int) × Int × Int) =>
 (show Option ((List O9) × (List Int) × Int × Int) from
  (Pa x3.2.1 x3.2.2.1 x3.2.2.2 8).bind fun (x5 : Bool × (List Int) × Int × Int) =>
  bif x5.1 then
   (SP x5.2.1 x5.2.2.1 x5.2.2.2 x3.1).bind fun (x6 : (List O9) × (List Int) × Int × Int) =>
   some (x6.1, x6.2.1, x6.2.2.1, x6.2.2.2)
  else
   some (x3.1, x5.2.1, x5.2.2.1, x5.2.2.2)).bind fun (x4 : (List O9) × (List Int) × Int × Int) =>
 some (x1.1, x1.2.1, x1.2.2.1, x4.1, x4.2.1, x4.2.2.1, x4.2.2.2)
def QM (x4 : Int × (List Int) × Int × Int × Int × Int × (List Qj)) : Option ((Int × (List Int) × Int × Int × Int × Int × (List Qj)) ⊕ (Int × (List Int) × Int × Int × Int × Int × (List Qj))) :=
 bif (decide (x4.1 < 6)) then
  (show Option ((List Int) × Int × Int × Int × Int × (List Qj)) from
   (PZ x4.2.1 x4.2.2.1 x4.2.2.2.1 ([0, 0, 1, 3, 5, 12])).bind fun (x6 : Int × (List Int) × Int × Int) =>
   bif (decide (x6.1 > 0)) then
    (PK x6.2.1 x6.2.2.1 x6.2.2.2 (PF (x6.1 + 1))).bind fun (x7 : Int × (List Int) × Int × Int) =>
    (PZ x7.2.1 x7.2.2.1 x7.2.2.2 ([0, 0, 0, x7.1])).bind fun (x8 : Int × (List Int) × Int × Int) =>
    bif (decide (List.length x4.2.2.2.2.2.2 + List.length [(x4.1, x6.1, x8.1)] ≤ DZ)) then
     some (x8.2.1, x8.2.2.1, x8.2.2.2, x4.2.2.2.2.1, x4.2.2.2.2.2.1, (x4.2.2.2.2.2.2 ++ [(x4.1, x6.1, x8.1)]))
    else
     none
   else
    some (x6.2.1, x6.2.2.1, x6.2.2.2, x4.2.2.2.2.1, x4.2.2.2.2.2.1, x4.2.2.2.2.2.2)).bind fun (x5 : (List Int) × Int × Int × Int × Int × (List Qj)) =>
  some (.inl ((PF (x4.1 + 1)), x5.1, x5.2.1, x5.2.2.1, x5.2.2.2.1, x5.2.2.2.2.1, x5.2.2.2.2.2))
 else
  some (.inr (x4.1, x4.2.1, x4.2.2.1, x4.2.2.2.1, x4.2.2.2.2.1, x4.2.2.2.2.2.1, x4.2.2.2.2.2.2))
def Qs (n : Nat) (x1 : Int × (List Int) × Int × Int × (List PB)) : Option ((Int × (List Int) × Int × Int × (List PB)) ⊕ (Int × (List Int) × Int × Int × (List PB))) :=
 bif (decide (x1.1 < 6)) then
  (show Option ((List Int) × Int × Int × (List PB)) from
   (Pa x1.2.1 x1.2.2.1 x1.2.2.2.1 4).bind fun (x3 : Bool × (List Int) × Int × Int) =>
   bif x3.1 then
    some (x3.2.1, x3.2.2.1, x3.2.2.2, x1.2.2.2.2)
   else
    (iter n (QM) (1, x3.2.1, x3.2.2.1, x3.2.2.2, (PF (x1.1 * 10)), (PF (20 - x1.1)), ([] : List Qj))).bind fun (x9 : Int × (List Int) × Int × Int × Int × Int × (List Qj)) =>
    bif (decide (List.length x1.2.2.2.2 + List.length [(x9.2.2.2.2.1, x9.2.2.2.2.2.1, x9.2.2.2.2.2.2)] ≤ DZ)) then
     some (x9.2.1, x9.2.2.1, x9.2.2.2.1, (x1.2.2.2.2 ++ [(x9.2.2.2.2.1, x9.2.2.2.2.2.1, x9.2.2.2.2.2.2)]))
    else
     none).bind fun (x2 : (List Int) × Int × Int × (List PB)) =>
  some (.inl ((PF (x1.1 + 1)), x2.1, x2.2.1, x2.2.2.1, x2.2.2.2))
 else
  some (.inr (x1.1, x1.2.1, x1.2.2.1, x1.2.2.2.1, x1.2.2.2.2))
def SO (n : Nat) (a0_0 : List Int) (a0_1 : Int) (a0_2 : Int) : Option ((List PB) × (List Int) × Int × Int) :=
 (iter n (Qs n) (1, a0_0, a0_1, a0_2, ([] : List PB))).bind fun (x10 : Int × (List Int) × Int × Int × (List PB)) =>
 some (x10.2.2.2.2, x10.2.1, x10.2.2.1, x10.2.2.2.1)
def Ry (a0 : List PB) (x1 : Int × (List PB)) : Option ((Int × (List PB)) ⊕ (Int × (List PB))) :=
 bif (decide (x1.1 < ((List.length a0 : Int)))) then
  ((ND a0 x1.1)).bind fun (x2 : PB) =>
  bif (decide (List.length ([] : List Qj) + List.length x2.2.2 ≤ DZ)) then
   bif (decide (List.length x1.2 + List.length [(x2.1, x2.2.1, (([] : List Qj) ++ x2.2.2))] ≤ DZ)) then
    some (.inl ((PF (x1.1 + 1)), (x1.2 ++ [(x2.1, x2.2.1, (([] : List Qj) ++ x2.2.2))])))
   else
    none
  else
   none
 else
  some (.inr (x1.1, x1.2))
def SN (n : Nat) (a0 : List PB) : Option ((List PB)) :=
 (iter n (Ry a0) (0, ([] : List PB))).bind fun (x3 : Int × (List PB)) =>
 some x3.2
def SL (n : Nat) (a0_0 : List Int) (a0_1 : Int) (a0_2 : Int) (a1 : List PB) : Option ((List PB) × (List Int) × Int × Int) :=
 (SN n a1).bind fun (x1 : (List PB)) =>
 bif (((List.length x1 : Int)) == 0) then
  some (x1, a0_0, a0_1, a0_2)
 else
  (PK a0_0 a0_1 a0_2 ((List.length x1 : Int))).bind fun (x2 : Int × (List Int) × Int × Int) =>
  (show Option ((List Int) × Int × Int × (List PB)) from
   (PK x2.2.1 x2.2.2.1 x2.2.2.2 6).bind fun (x4 : Int × (List Int) × Int × Int) =>
   bif (x4.1 == 0) then
    (PZ x4.2.1 x4.2.2.1 x4.2.2.2 ([0, 1000, 10])).bind fun (x5 : Int × (List Int) × Int × Int) =>
    bif (Of x1 x2.1) then
     some (x5.2.1, x5.2.2.1, x5.2.2.2, (List.modify x1 (Int.toNat x2.1) (fun (y : PB) => (x5.1, y.2.1, y.2.2))))
    else
     none
   else
    bif (x4.1 == 1) then
     (PZ x4.2.1 x4.2.2.1 x4.2.2.2 ([(-1), 100, 19])).bind fun (x6 : Int × (List Int) × Int × Int) =>
     bif (Of x1 x2.1) then
      some (x6.2.1, x6.2.2.1, x6.2.2.2, (List.modify x1 (Int.toNat x2.1) (fun (y : PB) => (y.1, x6.1, y.2.2))))
     else
      none
    else
     bif (x4.1 == 2) then
      bif (Of x1 x2.1) then
       ((x1[(Int.toNat x2.1)]?)).bind fun (x7 : PB) =>
       (PZ x4.2.1 x4.2.2.1 x4.2.2.2 ([0, 1, 1001])).bind fun (x8 : Int × (List Int) × Int × Int) =>
       (PK x8.2.1 x8.2.2.1 x8.2.2.2 3).bind fun (x9 : Int × (List Int) × Int × Int) =>
       ((x1[(Int.toNat x2.1)]?)).bind fun (x10 : PB) =>
       bif (decide (List.length x10.2.2 + List.length [(9, x8.1, x9.1)] ≤ DZ)) then
        bif (Of x1 x2.1) then
         some (x9.2.1, x9.2.2.1, x9.2.2.2, (List.modify x1 (Int.toNat x2.1) (fun (y : PB) => (y.1, y.2.1, (x10.2.2 ++ [(9, x8.1, x9.1)])))))
        else
         none
       else
        none
      else
       none
     else
      bif (x4.1 == 3) then
       bif (Of x1 0) then
        ((x1[(Int.toNat 0)]?)).bind fun (x11 : PB) =>
        ((x1[(Int.toNat 0)]?)).bind fun (x12 : PB) =>
        bif (decide (List.length x1 + List.length [(x11.1, x11.2.1, x12.2.2)] ≤ DZ)) then
         some (x4.2.1, x4.2.2.1, x4.2.2.2, (x1 ++ [(x11.1, x11.2.1, x12.2.2)]))
        else
         none
       else
        none
      else
       some (x4.2.1, x4.2.2.1, x4.2.2.2, x1)).bind fun (x3 : (List Int) × Int × Int × (List PB)) =>
  some (x3.2.2.2, x3.1, x3.2.1, x3.2.2.1)
def Qr (n : Nat) (a0_0 : List Int) (a0_1 : Int) (a0_2 : Int) : Option ((List PB) × (List Int) × Int × Int) :=
 (SO n a0_0 a0_1 a0_2).bind fun (x1 : (List PB) × (List Int) × Int × Int) =>
 (show Option ((List Int) × Int × Int × (List PB)) from
  (Pa x1.2.1 x1.2.2.1 x1.2.2.2 8).bind fun (x3 : Bool × (List Int) × Int × Int) =>
  bif x3.1 then
   (SL n x3.2.1 x3.2.2.1 x3.2.2.2 x1.1).bind fun (x4 : (List PB) × (List Int) × Int × Int) =>
   some (x4.2.1, x4.2.2.1, x4.2.2.2, x4.1)
  else
   some (x3.2.1, x3.2.2.1, x3.2.2.2, x1.1)).bind fun (x2 : (List Int) × Int × Int × (List PB)) =>
 some (x2.2.2.2, x2.1, x2.2.1, x2.2.2.1)
def P0 (a0 : List PE) (x1 : Int) (x2 : PE) (x8 : Int) : Option ((Int) ⊕ ((Int) ⊕ (Bool))) :=
 bif (decide (x8 < x1)) then
  ((ND a0 x8)).bind fun (x9 : PE) =>
  (show Option (Bool) from
   bif (x9.1 == x2.1) then
    bif (x9.2.1 == x2.2.1) then
     some true
    else
     bif (!(x2.2.2.2 == 1)) then
      bif (x9.2.2.1 == x2.2.2.1) then
       some true
      else
       bif (!(x2.2.2.2 == 1)) then
        bif (x9.2.2.2 != 1) then
         some (x9.2.1 == x2.2.1)
        else
         some false
       else
        some false
     else
      bif (!(x2.2.2.2 == 1)) then
       bif (x9.2.2.2 != 1) then
        some (x9.2.1 == x2.2.1)
       else
        some false
      else
       some false
   else
    bif (!(x2.2.2.2 == 1)) then
     bif (x9.2.2.1 == x2.2.2.1) then
      some true
     else
      bif (!(x2.2.2.2 == 1)) then
       bif (x9.2.2.2 != 1) then
        some (x9.2.1 == x2.2.1)
       else
        some false
      else
       some false
    else
     bif (!(x2.2.2.2 == 1)) then
      bif (x9.2.2.2 != 1) then
       some (x9.2.1 == x2.2.1)
      else
       some false
     else
      some false).bind fun (x10 : Bool) =>
  bif x10 then
   some (.inr (.inr false))
  else
   some (.inl (PF (x8 + 1)))
 else
  some (.inr (.inl x8))
def Pz (n : Nat) (a0 : List PE) (x1 : Int) : Option ((Int) ⊕ ((Int) ⊕ (Bool))) :=
 bif (decide (x1 < ((List.length a0 : Int)))) then
  ((ND a0 x1)).bind fun (x2 : PE) =>
  (show Option (Bool) from
   (PN x2.1 1 1000000).bind fun (x3 : Bool) =>
   bif (!x3) then
    some true
   else
    (PN x2.2.1 1 999).bind fun (x4 : Bool) =>
    bif (!x4) then
     some true
    else
     (PN x2.2.2.2 1 4).bind fun (x5 : Bool) =>
     bif (!x5) then
      some true
     else
      (PN x2.2.2.1 0 99).bind fun (x6 : Bool) =>
      bif (!x6) then
       some true
      else
       some ((x2.2.2.1 == 0) != (x2.2.2.2 == 1))).bind fun (x7 : Bool) =>
  bif x7 then
   some (.inr (.inr false))
  else
   (iter n (P0 a0 x1 x2) 0).bind fun (x11 : (Int) ⊕ (Bool)) =>
   (match x11 with
   | .inl x12 => (
    some (.inl (PF (x1 + 1))))
   | .inr x13 => (
    some (.inr (.inr x13))))
 else
  some (.inr (.inl x1))
def P7 (n : Nat) (a0 : List PE) : Option (Bool) :=
 bif (decide (((List.length a0 : Int)) > 60)) then
  some false
 else
  (iter n (Pz n a0) 0).bind fun (x14 : (Int) ⊕ (Bool)) =>
  (match x14 with
  | .inl x15 => (
   some true)
  | .inr x16 => (
   some x16))
def S3 (n : Nat) (x2 : (List PE) × Int × (List Int) × Int × Int) : Option (((List PE) × Int × (List Int) × Int × Int) ⊕ ((List PE) × Int × (List Int) × Int × Int)) :=
 bif (decide (x2.2.1 > 0)) then
  (show Option ((List PE) × (List Int) × Int × Int) from
   (PK x2.2.2.1 x2.2.2.2.1 x2.2.2.2.2 4).bind fun (x4 : Int × (List Int) × Int × Int) =>
   (PK x4.2.1 x4.2.2.1 x4.2.2.2 5).bind fun (x5 : Int × (List Int) × Int × Int) =>
   (show Option ((List Int) × Int × Int × Int × Int × Int × Int) from
    (Pa x5.2.1 x5.2.2.1 x5.2.2.2 4).bind fun (x7 : Bool × (List Int) × Int × Int) =>
    bif x7.1 then
     (PK x7.2.1 x7.2.2.1 x7.2.2.2 3).bind fun (x8 : Int × (List Int) × Int × Int) =>
     (PK x8.2.1 x8.2.2.1 x8.2.2.2 6).bind fun (x9 : Int × (List Int) × Int × Int) =>
     some (x9.2.1, x9.2.2.1, x9.2.2.2, (PF (1 + x4.1)), (PF (10 * (PF (1 + x5.1)))), (PF (1 + x9.1)), (PF (2 + x8.1)))
    else
     some (x7.2.1, x7.2.2.1, x7.2.2.2, (PF (1 + x4.1)), (PF (10 * (PF (1 + x5.1)))), 0, 1)).bind fun (x6 : (List Int) × Int × Int × Int × Int × Int × Int) =>
   bif (decide (List.length ([] : List PE) + List.length x2.1 ≤ DZ)) then
    bif (decide (List.length (([] : List PE) ++ x2.1) + List.length [(x6.2.2.2.1, x6.2.2.2.2.1, x6.2.2.2.2.2.1, x6.2.2.2.2.2.2)] ≤ DZ)) then
     (show Option (Bool × (List Int) × Int × Int) from
      (P7 n ((([] : List PE) ++ x2.1) ++ [(x6.2.2.2.1, x6.2.2.2.2.1, x6.2.2.2.2.2.1, x6.2.2.2.2.2.2)])).bind fun (x10 : Bool) =>
      bif x10 then
       some (true, x6.1, x6.2.1, x6.2.2.1)
      else
       (Pa x6.1 x6.2.1 x6.2.2.1 20).bind fun (x11 : Bool × (List Int) × Int × Int) =>
       some (x11.1, x11.2.1, x11.2.2.1, x11.2.2.2)).bind fun (x12 : Bool × (List Int) × Int × Int) =>
     bif x12.1 then
      some (((([] : List PE) ++ x2.1) ++ [(x6.2.2.2.1, x6.2.2.2.2.1, x6.2.2.2.2.2.1, x6.2.2.2.2.2.2)]), x12.2.1, x12.2.2.1, x12.2.2.2)
     else
      some (x2.1, x12.2.1, x12.2.2.1, x12.2.2.2)
    else
     none
   else
    none).bind fun (x3 : (List PE) × (List Int) × Int × Int) =>
  some (.inl (x3.1, (PF (x2.2.1 - 1)), x3.2.1, x3.2.2.1, x3.2.2.2))
 else
  some (.inr (x2.1, x2.2.1, x2.2.2.1, x2.2.2.2.1, x2.2.2.2.2))
def RK (n : Nat) (a0_0 : List Int) (a0_1 : Int) (a0_2 : Int) : Option ((List PE) × (List Int) × Int × Int) :=
 (PK a0_0 a0_1 a0_2 7).bind fun (x1 : Int × (List Int) × Int × Int) =>
 (iter n (S3 n) (([] : List PE), x1.1, x1.2.1, x1.2.2.1, x1.2.2.2)).bind fun (x13 : (List PE) × Int × (List Int) × Int × Int) =>
 some (x13.1, x13.2.2.1, x13.2.2.2.1, x13.2.2.2.2)
def SG (x3 : Int × (List O9) × (List Int) × Int × Int) : Option ((Int × (List O9) × (List Int) × Int × Int) ⊕ (Int × (List O9) × (List Int) × Int × Int)) :=
 bif (decide (x3.1 < ((List.length x3.2.1 : Int)))) then
  (show Option ((List O9) × (List Int) × Int × Int) from
   (Pa x3.2.2.1 x3.2.2.2.1 x3.2.2.2.2 2).bind fun (x5 : Bool × (List Int) × Int × Int) =>
   bif x5.1 then
    bif (Of x3.2.1 x3.1) then
     bif (Of (List.modify x3.2.1 (Int.toNat x3.1) (fun (y : O9) => (y.1, y.2.1, (-1), y.2.2.2.1, y.2.2.2.2))) x3.1) then
      some ((List.modify (List.modify x3.2.1 (Int.toNat x3.1) (fun (y : O9) => (y.1, y.2.1, (-1), y.2.2.2.1, y.2.2.2.2))) (Int.toNat x3.1) (fun (y : O9) => (y.1, y.2.1, y.2.2.1, false, y.2.2.2.2))), x5.2.1, x5.2.2.1, x5.2.2.2)
     else
      none
    else
     none
   else
    some (x3.2.1, x5.2.1, x5.2.2.1, x5.2.2.2)).bind fun (x4 : (List O9) × (List Int) × Int × Int) =>
  some (.inl ((PF (x3.1 + 1)), x4.1, x4.2.1, x4.2.2.1, x4.2.2.2))
 else
  some (.inr (x3.1, x3.2.1, x3.2.2.1, x3.2.2.2.1, x3.2.2.2.2))
def P6 (n : Nat) (a0 : List Int) : Option (Int × Int × (List Int) × (List PB) × (List O9) × (List PE)) :=
 (Sj n a0).bind fun (x1 : Wa) =>
 (Qt n x1.1 x1.2.1 x1.2.2).bind fun (x2 : Int × Int × (List Int) × (List O9) × (List Int) × Int × Int) =>
 (iter n (SG) (0, x2.2.2.2.1, x2.2.2.2.2.1, x2.2.2.2.2.2.1, x2.2.2.2.2.2.2)).bind fun (x6 : Int × (List O9) × (List Int) × Int × Int) =>
 (Qr n x6.2.2.1 x6.2.2.2.1 x6.2.2.2.2).bind fun (x7 : (List PB) × (List Int) × Int × Int) =>
 (RK n x7.2.1 x7.2.2.1 x7.2.2.2).bind fun (x8 : (List PE) × (List Int) × Int × Int) =>
 some (x2.1, x2.2.1, x2.2.2.1, x7.1, x6.2.1, x8.1)
def Q9 (a0 : List O9) : Option ((List O9)) :=
 bif (decide (List.length a0 ≤ DZ)) then
  some a0
 else
  none
def Qo (a0 : List PE) : Option ((List PE)) :=
 bif (decide (List.length a0 ≤ DZ)) then
  some a0
 else
  none
def PW (a0 : Int) (a1 : Int) (a2 : Int) : Option (Bool) :=
 (show Option (Bool) from
  bif (decide (a0 ≥ a1)) then
   some (decide (a0 ≤ a2))
  else
   some false).bind fun (x1 : Bool) =>
 some x1
def UK (a0_2 : List Int) (x4 : Int) : Option ((Int) ⊕ ((Int) ⊕ (Bool))) :=
 bif (decide (x4 < ((List.length a0_2 : Int)))) then
  ((ND a0_2 x4)).bind fun (x5 : Int) =>
  (PW x5 0 4).bind fun (x6 : Bool) =>
  bif (!x6) then
   some (.inr (.inr false))
  else
   some (.inl (PF (x4 + 1)))
 else
  some (.inr (.inl x4))
def Qw (n : Nat) (a0_0 : Int) (a0_1 : Int) (a0_2 : List Int) : Option (Bool) :=
 (show Option (Bool) from
  (PW a0_0 1 10).bind fun (x1 : Bool) =>
  bif (!x1) then
   some true
  else
   (PW a0_1 1 10).bind fun (x2 : Bool) =>
   bif (!x2) then
    some true
   else
    some (((List.length a0_2 : Int)) != (PF (a0_0 * a0_1)))).bind fun (x3 : Bool) =>
 bif x3 then
  some false
 else
  (iter n (UK a0_2) 0).bind fun (x7 : (Int) ⊕ (Bool)) =>
  (match x7 with
  | .inl x8 => (
   some true)
  | .inr x9 => (
   some x9))
def SA (a0_2 : List Qj) (x4 : Int) : Option ((Int) ⊕ ((Int) ⊕ (Bool))) :=
 bif (decide (x4 < ((List.length a0_2 : Int)))) then
  ((ND a0_2 x4)).bind fun (x5 : Qj) =>
  (show Option (Bool) from
   (PW x5.1 1 50).bind fun (x6 : Bool) =>
   bif (!x6) then
    some true
   else
    (PW x5.2.1 1 1000).bind fun (x7 : Bool) =>
    bif (!x7) then
     some true
    else
     (PW x5.2.2 0 x5.2.1).bind fun (x8 : Bool) =>
     bif (!x8) then
      some true
     else
      bif (decide (x4 > 0)) then
       ((ND a0_2 (PF (x4 - 1)))).bind fun (x9 : Qj) =>
       some (decide (x9.1 ≥ x5.1))
      else
       some false).bind fun (x10 : Bool) =>
  bif x10 then
   some (.inr (.inr false))
  else
   some (.inl (PF (x4 + 1)))
 else
  some (.inr (.inl x4))
def Sf (n : Nat) (a0_0 : Int) (a0_1 : Int) (a0_2 : List Qj) : Option (Bool) :=
 (show Option (Bool) from
  (PW a0_0 1 999).bind fun (x1 : Bool) =>
  bif (!x1) then
   some true
  else
   (PW a0_1 0 99).bind fun (x2 : Bool) =>
   bif (!x2) then
    some true
   else
    some (decide (((List.length a0_2 : Int)) > 8))).bind fun (x3 : Bool) =>
 bif x3 then
  some false
 else
  (iter n (SA a0_2) 0).bind fun (x11 : (Int) ⊕ (Bool)) =>
  (match x11 with
  | .inl x12 => (
   some true)
  | .inr x13 => (
   some x13))
def QX (a0 : List PB) (x1 : Int) (x2 : PB) (x6 : Int) : Option ((Int) ⊕ ((Int) ⊕ (Bool))) :=
 bif (decide (x6 < ((List.length (sub a0 (Int.toNat (0 : Int)) (Int.toNat x1)) : Int)))) then
  ((ND (sub a0 (Int.toNat (0 : Int)) (Int.toNat x1)) x6)).bind fun (x7 : PB) =>
  bif (x7.2.1 == x2.2.1) then
   some (.inr (.inr false))
  else
   some (.inl (PF (x6 + 1)))
 else
  some (.inr (.inl x6))
def RP (n : Nat) (a0 : List PB) (x1 : Int) : Option ((Int) ⊕ ((Int) ⊕ (Bool))) :=
 bif (decide (x1 < ((List.length a0 : Int)))) then
  ((ND a0 x1)).bind fun (x2 : PB) =>
  (show Option (Bool) from
   (Sf n x2.1 x2.2.1 x2.2.2).bind fun (x3 : Bool) =>
   bif (!x3) then
    some true
   else
    bif (decide (x1 > 0)) then
     ((ND a0 (PF (x1 - 1)))).bind fun (x4 : PB) =>
     some (decide (x4.1 ≥ x2.1))
    else
     some false).bind fun (x5 : Bool) =>
  bif x5 then
   some (.inr (.inr false))
  else
   bif (decide (0 ≤ (0 : Int)) && decide ((0 : Int) ≤ x1) && decide (x1 ≤ ((List.length a0 : Int)))) then
    (iter n (QX a0 x1 x2) 0).bind fun (x8 : (Int) ⊕ (Bool)) =>
    (match x8 with
    | .inl x9 => (
     some (.inl (PF (x1 + 1))))
    | .inr x10 => (
     some (.inr (.inr x10))))
   else
    none
 else
  some (.inr (.inl x1))
def Rm (n : Nat) (a0 : List PB) : Option (Bool) :=
 (iter n (RP n a0) 0).bind fun (x11 : (Int) ⊕ (Bool)) =>
 (match x11 with
 | .inl x12 => (
  some (decide (((List.length a0 : Int)) ≤ 12)))
 | .inr x13 => (
  some x13))
def Qp (a0_0 : Int) (a0_1 : Int) (a0_2 : List Int) (a1 : Int) : Option (Bool) :=
 (PW a1 0 (PF (((List.length a0_2 : Int)) - 1))).bind fun (x1 : Bool) =>
 some x1
def QO (n : Nat) (a0_0 : Int) (a0_1 : Int) (a0_2 : List Int) (a1 : Int) : Option (Int) :=
 (show Option (Bool) from
  (Qw n a0_0 a0_1 a0_2).bind fun (x1 : Bool) =>
  bif (!x1) then
   some true
  else
   (Qp a0_0 a0_1 a0_2 a1).bind fun (x2 : Bool) =>
   some (!x2)).bind fun (x3 : Bool) =>
 bif x3 then
  some 0
 else
  ((ND a0_2 a1)).bind fun (x4 : Int) =>
  some x4
def Qe (n : Nat) (a0_0 : Int) (a0_1 : Int) (a0_2 : List Int) (a1_0 : Int) (a1_1 : Int) (a1_2 : Int) (a1_3 : Bool) (a1_4 : Int) : Option (Bool) :=
 (show Option (Bool) from
  (QO n a0_0 a0_1 a0_2 a1_1).bind fun (x1 : Int) =>
  bif (x1 != 0) then
   bif (a1_2 == (-1)) then
    some true
   else
    (QO n a0_0 a0_1 a0_2 a1_2).bind fun (x2 : Int) =>
    some (x2 != 0)
  else
   some false).bind fun (x3 : Bool) =>
 some x3
def Qm (a1 : List O9) (x3 : Int) (x4 : O9) (x12 : Int) : Option ((Int) ⊕ ((Int) ⊕ (Bool))) :=
 bif (decide (x12 < ((List.length (sub a1 (Int.toNat (0 : Int)) (Int.toNat x3)) : Int)))) then
  ((ND (sub a1 (Int.toNat (0 : Int)) (Int.toNat x3)) x12)).bind fun (x13 : O9) =>
  bif (x13.2.1 == x4.2.1) then
   some (.inr (.inr false))
  else
   some (.inl (PF (x12 + 1)))
 else
  some (.inr (.inl x12))
def Rl (n : Nat) (a0_0 : Int) (a0_1 : Int) (a0_2 : List Int) (a1 : List O9) (x3 : Int) : Option ((Int) ⊕ ((Int) ⊕ (Bool))) :=
 bif (decide (x3 < ((List.length a1 : Int)))) then
  ((ND a1 x3)).bind fun (x4 : O9) =>
  (show Option (Bool) from
   (PW x4.1 1 99).bind fun (x5 : Bool) =>
   bif (!x5) then
    some true
   else
    bif (decide (x3 > 0)) then
     ((ND a1 (PF (x3 - 1)))).bind fun (x6 : O9) =>
     bif (decide (x6.1 ≥ x4.1)) then
      some true
     else
      (Qe n a0_0 a0_1 a0_2 x4.1 x4.2.1 x4.2.2.1 x4.2.2.2.1 x4.2.2.2.2).bind fun (x7 : Bool) =>
      bif (!x7) then
       some true
      else
       (PW x4.2.2.2.2 0 1000000).bind fun (x8 : Bool) =>
       some (!x8)
    else
     (Qe n a0_0 a0_1 a0_2 x4.1 x4.2.1 x4.2.2.1 x4.2.2.2.1 x4.2.2.2.2).bind fun (x9 : Bool) =>
     bif (!x9) then
      some true
     else
      (PW x4.2.2.2.2 0 1000000).bind fun (x10 : Bool) =>
      some (!x10)).bind fun (x11 : Bool) =>
  bif x11 then
   some (.inr (.inr false))
  else
   bif (decide (0 ≤ (0 : Int)) && decide ((0 : Int) ≤ x3) && decide (x3 ≤ ((List.length a1 : Int)))) then
    (iter n (Qm a1 x3 x4) 0).bind fun (x14 : (Int) ⊕ (Bool)) =>
    (match x14 with
    | .inl x15 => (
     some (.inl (PF (x3 + 1))))
    | .inr x16 => (
     some (.inr (.inr x16))))
   else
    none
 else
  some (.inr (.inl x3))
def Ra (n : Nat) (a0_0 : Int) (a0_1 : Int) (a0_2 : List Int) (a1 : List O9) : Option (Bool) :=
 (show Option (Bool) from
  (Qw n a0_0 a0_1 a0_2).bind fun (x1 : Bool) =>
  bif (!x1) then
   some true
  else
   some (decide (((List.length a1 : Int)) > 20))).bind fun (x2 : Bool) =>
 bif x2 then
  some false
 else
  (iter n (Rl n a0_0 a0_1 a0_2 a1) 0).bind fun (x17 : (Int) ⊕ (Bool)) =>
  (match x17 with
  | .inl x18 => (
   some true)
  | .inr x19 => (
   some x19))
def Px (a0 : List PE) (x1 : Int) (x2 : PE) (x8 : Int) : Option ((Int) ⊕ ((Int) ⊕ (Bool))) :=
 bif (decide (x8 < ((List.length (sub a0 (Int.toNat (0 : Int)) (Int.toNat x1)) : Int)))) then
  ((ND (sub a0 (Int.toNat (0 : Int)) (Int.toNat x1)) x8)).bind fun (x9 : PE) =>
  (show Option (Bool) from
   bif (x2.1 == x9.1) then
    bif (x2.2.1 == x9.2.1) then
     some true
    else
     bif (!(x2.2.2.2 == 1)) then
      bif (x2.2.2.1 == x9.2.2.1) then
       some true
      else
       bif (x2.2.1 == x9.2.1) then
        some (x9.2.2.2 != 1)
       else
        some false
     else
      some false
   else
    bif (!(x2.2.2.2 == 1)) then
     bif (x2.2.2.1 == x9.2.2.1) then
      some true
     else
      bif (x2.2.1 == x9.2.1) then
       some (x9.2.2.2 != 1)
      else
       some false
    else
     some false).bind fun (x10 : Bool) =>
  bif x10 then
   some (.inr (.inr false))
  else
   some (.inl (PF (x8 + 1)))
 else
  some (.inr (.inl x8))
def Pw (n : Nat) (a0 : List PE) (x1 : Int) : Option ((Int) ⊕ ((Int) ⊕ (Bool))) :=
 bif (decide (x1 < ((List.length a0 : Int)))) then
  ((ND a0 x1)).bind fun (x2 : PE) =>
  (show Option (Bool) from
   (PW x2.1 1 1000000).bind fun (x3 : Bool) =>
   bif (!x3) then
    some true
   else
    (PW x2.2.1 1 999).bind fun (x4 : Bool) =>
    bif (!x4) then
     some true
    else
     (PW x2.2.2.2 1 4).bind fun (x5 : Bool) =>
     bif (!x5) then
      some true
     else
      bif ((x2.2.2.2 == 1) != (x2.2.2.1 == 0)) then
       some true
      else
       (PW x2.2.2.1 0 99).bind fun (x6 : Bool) =>
       some (!x6)).bind fun (x7 : Bool) =>
  bif x7 then
   some (.inr (.inr false))
  else
   bif (decide (0 ≤ (0 : Int)) && decide ((0 : Int) ≤ x1) && decide (x1 ≤ ((List.length a0 : Int)))) then
    (iter n (Px a0 x1 x2) 0).bind fun (x11 : (Int) ⊕ (Bool)) =>
    (match x11 with
    | .inl x12 => (
     some (.inl (PF (x1 + 1))))
    | .inr x13 => (
     some (.inr (.inr x13))))
   else
    none
 else
  some (.inr (.inl x1))
def Qx (n : Nat) (a0 : List PE) : Option (Bool) :=
 (iter n (Pw n a0) 0).bind fun (x14 : (Int) ⊕ (Bool)) =>
 (match x14 with
 | .inl x15 => (
  some (decide (((List.length a0 : Int)) ≤ 60)))
 | .inr x16 => (
  some x16))
def Ro (a1 : List PE) (x3 : O9) (x5 : Bool × Int) : Option ((Bool × Int) ⊕ (Bool × Int)) :=
 bif (decide (x5.2 < ((List.length a1 : Int)))) then
  ((ND a1 x5.2)).bind fun (x6 : PE) =>
  (show Option (Bool) from
   bif x5.1 then
    some (x6.2.2.1 != x3.1)
   else
    some false).bind fun (x7 : Bool) =>
  some (.inl (x7, (PF (x5.2 + 1))))
 else
  some (.inr (x5.1, x5.2))
def Rn (n : Nat) (a0 : List O9) (a1 : List PE) (x1 : (List Int) × Int) : Option (((List Int) × Int) ⊕ ((List Int) × Int)) :=
 bif (decide (x1.2 < ((List.length a0 : Int)))) then
  (show Option ((List Int)) from
   ((ND a0 x1.2)).bind fun (x3 : O9) =>
   (show Option (Bool) from
    bif (x3.2.2.1 == (-1)) then
     bif (!x3.2.2.2.1) then
      some (decide (((List.length x1.1 : Int)) < 10))
     else
      some false
    else
     some false).bind fun (x4 : Bool) =>
   (iter n (Ro a1 x3) (x4, 0)).bind fun (x8 : Bool × Int) =>
   bif x8.1 then
    bif (decide (List.length x1.1 + List.length [x1.2] ≤ DZ)) then
     some (x1.1 ++ [x1.2])
    else
     none
   else
    some x1.1).bind fun (x2 : (List Int)) =>
  some (.inl (x2, (PF (x1.2 + 1))))
 else
  some (.inr (x1.1, x1.2))
def Sz (n : Nat) (a0 : List O9) (a1 : List PE) : Option ((List Int)) :=
 (iter n (Rn n a0 a1) (([] : List Int), 0)).bind fun (x9 : (List Int) × Int) =>
 some x9.1
def Ut (a0 : List PB) (a1 : Int) (x1 : Int) : Option ((Int) ⊕ ((Int) ⊕ (Int))) :=
 bif (decide (x1 < ((List.length a0 : Int)))) then
  ((ND a0 x1)).bind fun (x2 : PB) =>
  bif (x2.1 == a1) then
   some (.inr (.inr x1))
  else
   some (.inl (PF (x1 + 1)))
 else
  some (.inr (.inl x1))
def R4 (n : Nat) (a0 : List PB) (a1 : Int) : Option (Int) :=
 (iter n (Ut a0 a1) 0).bind fun (x3 : (Int) ⊕ (Int)) =>
 (match x3 with
 | .inl x4 => (
  some (-1))
 | .inr x5 => (
  some x5))
def UY (a0 : List Int) (a1 : Int) (x1 : Int) : Option ((Int) ⊕ ((Int) ⊕ (Bool))) :=
 bif (decide (x1 < ((List.length a0 : Int)))) then
  ((ND a0 x1)).bind fun (x2 : Int) =>
  bif (x2 == a1) then
   some (.inr (.inr true))
  else
   some (.inl (PF (x1 + 1)))
 else
  some (.inr (.inl x1))
def Sq (n : Nat) (a0 : List Int) (a1 : Int) : Option (Bool) :=
 (iter n (UY a0 a1) 0).bind fun (x3 : (Int) ⊕ (Bool)) =>
 (match x3 with
 | .inl x4 => (
  some false)
 | .inr x5 => (
  some x5))
def SB (a1 : List PE) (x1 : (List Int) × Int) : Option (((List Int) × Int) ⊕ ((List Int) × Int)) :=
 bif (decide (x1.2 < ((List.length a1 : Int)))) then
  (show Option ((List Int)) from
   ((ND a1 x1.2)).bind fun (x3 : PE) =>
   bif (x3.2.2.2 != 1) then
    bif (decide (List.length x1.1 + List.length [x3.2.1] ≤ DZ)) then
     some (x1.1 ++ [x3.2.1])
    else
     none
   else
    some x1.1).bind fun (x2 : (List Int)) =>
  some (.inl (x2, (PF (x1.2 + 1))))
 else
  some (.inr (x1.1, x1.2))
def RE (n : Nat) (a0 : List PB) (a1 : List PE) (a2 : Int) (x5 : (List Int) × (List Int) × Int) : Option (((List Int) × (List Int) × Int) ⊕ ((List Int) × (List Int) × Int)) :=
 bif (decide (x5.2.2 < ((List.length a1 : Int)))) then
  (show Option ((List Int) × (List Int)) from
   ((ND a1 x5.2.2)).bind fun (x7 : PE) =>
   (show Option (Bool) from
    bif (x7.2.2.2 == 1) then
     (R4 n a0 x7.2.1).bind fun (x8 : Int) =>
     bif (decide (x8 ≥ 0)) then
      (Sq n x5.2.1 x7.2.1).bind fun (x9 : Bool) =>
      bif (!x9) then
       some (decide (((List.length x5.1 : Int)) < a2))
      else
       some false
     else
      some false
    else
     some false).bind fun (x10 : Bool) =>
   bif x10 then
    bif (decide (List.length x5.2.1 + List.length [x7.2.1] ≤ DZ)) then
     bif (decide (List.length x5.1 + List.length [x5.2.2] ≤ DZ)) then
      some ((x5.1 ++ [x5.2.2]), (x5.2.1 ++ [x7.2.1]))
     else
      none
    else
     none
   else
    some (x5.1, x5.2.1)).bind fun (x6 : (List Int) × (List Int)) =>
  some (.inl (x6.1, x6.2, (PF (x5.2.2 + 1))))
 else
  some (.inr (x5.1, x5.2.1, x5.2.2))
def Sg (n : Nat) (a0 : List PB) (a1 : List PE) (a2 : Int) : Option ((List Int)) :=
 (iter n (SB a1) (([] : List Int), 0)).bind fun (x4 : (List Int) × Int) =>
 (iter n (RE n a0 a1 a2) (([] : List Int), x4.1, 0)).bind fun (x11 : (List Int) × (List Int) × Int) =>
 some x11.1
def Sp (a0_0 : Int) (a0_1 : Int) (a0_2 : List Int) (a1 : Int) : Option ((List Int)) :=
 bif (a0_0 == 0) then
  none
 else
  bif (a0_0 == 0) then
   none
  else
   (show Option ((List Int)) from
    bif (decide ((PF (Int.tdiv a1 a0_0)) > 0)) then
     bif (decide (List.length ([] : List Int) + List.length [(PF (a1 - a0_0))] ≤ DZ)) then
      some (([] : List Int) ++ [(PF (a1 - a0_0))])
     else
      none
    else
     some ([] : List Int)).bind fun (x1 : (List Int)) =>
   (show Option ((List Int)) from
    bif (decide ((Int.tmod a1 a0_0) > 0)) then
     bif (decide (List.length x1 + List.length [(PF (a1 - 1))] ≤ DZ)) then
      some (x1 ++ [(PF (a1 - 1))])
     else
      none
    else
     some x1).bind fun (x2 : (List Int)) =>
   (show Option ((List Int)) from
    bif (decide ((Int.tmod a1 a0_0) < (PF (a0_0 - 1)))) then
     bif (decide (List.length x2 + List.length [(PF (a1 + 1))] ≤ DZ)) then
      some (x2 ++ [(PF (a1 + 1))])
     else
      none
    else
     some x2).bind fun (x3 : (List Int)) =>
   (show Option ((List Int)) from
    bif (decide ((PF (Int.tdiv a1 a0_0)) < (PF (a0_1 - 1)))) then
     bif (decide (List.length x3 + List.length [(PF (a1 + a0_0))] ≤ DZ)) then
      some (x3 ++ [(PF (a1 + a0_0))])
     else
      none
    else
     some x3).bind fun (x4 : (List Int)) =>
   some x4
def SY (a0_2 : List Int) (a2 : Bool) (x1 : (List Int)) (x2 : (List Int) × Int) : Option (((List Int) × Int) ⊕ ((List Int) × Int)) :=
 bif (decide (x2.2 < ((List.length x1 : Int)))) then
  (show Option ((List Int)) from
   bif (Of x1 x2.2) then
    ((x1[(Int.toNat x2.2)]?)).bind fun (x4 : Int) =>
    ((ND a0_2 x4)).bind fun (x5 : Int) =>
    (show Option (Bool) from
     bif (x5 != 0) then
      bif (!a2) then
       some true
      else
       some (x5 != 2)
     else
      some false).bind fun (x6 : Bool) =>
    bif x6 then
     bif (decide (List.length x2.1 + List.length [x4] ≤ DZ)) then
      some (x2.1 ++ [x4])
     else
      none
    else
     some x2.1
   else
    none).bind fun (x3 : (List Int)) =>
  some (.inl (x3, (PF (x2.2 + 1))))
 else
  some (.inr (x2.1, x2.2))
def S0 (n : Nat) (a0_0 : Int) (a0_1 : Int) (a0_2 : List Int) (a1 : Int) (a2 : Bool) : Option ((List Int)) :=
 (Sp a0_0 a0_1 a0_2 a1).bind fun (x1 : (List Int)) =>
 (iter n (SY a0_2 a2 x1) (([] : List Int), 0)).bind fun (x7 : (List Int) × Int) =>
 some x7.1
def R8 (a0_2 : List Int) (x1 : Int × (List Int)) : Option ((Int × (List Int)) ⊕ (Int × (List Int))) :=
 bif (decide (x1.1 < ((List.length (List.replicate (Int.toNat ((List.length a0_2 : Int))) (0 : Int)) : Int)))) then
  bif (Of x1.2 x1.1) then
   some (.inl ((PF (x1.1 + 1)), (CV x1.2 (Int.toNat x1.1) (-1))))
  else
   none
 else
  some (.inr (x1.1, x1.2))
def Qd (x4 : Int) (x7 : (List Int)) (x8 : (List Int) × Int × (List Int)) : Option (((List Int) × Int × (List Int)) ⊕ ((List Int) × Int × (List Int))) :=
 bif (decide (x8.2.1 < ((List.length x7 : Int)))) then
  (show Option ((List Int) × (List Int)) from
   bif (Of x7 x8.2.1) then
    ((x7[(Int.toNat x8.2.1)]?)).bind fun (x10 : Int) =>
    bif (Of x8.2.2 x10) then
     ((x8.2.2[(Int.toNat x10)]?)).bind fun (x11 : Int) =>
     bif (decide (x11 < 0)) then
      bif (Of x8.2.2 x4) then
       ((x8.2.2[(Int.toNat x4)]?)).bind fun (x12 : Int) =>
       bif (Of x8.2.2 x10) then
        bif (decide (List.length x8.1 + List.length [x10] ≤ DZ)) then
         some ((x8.1 ++ [x10]), (CV x8.2.2 (Int.toNat x10) (PF (x12 + 1))))
        else
         none
       else
        none
      else
       none
     else
      some (x8.1, x8.2.2)
    else
     none
   else
    none).bind fun (x9 : (List Int) × (List Int)) =>
  some (.inl (x9.1, (PF (x8.2.1 + 1)), x9.2))
 else
  some (.inr (x8.1, x8.2.1, x8.2.2))
def RA (n : Nat) (a0_0 : Int) (a0_1 : Int) (a0_2 : List Int) (a1 : Int) (a2 : Bool) (x3 : (List Int) × (List Int)) : Option (((List Int) × (List Int)) ⊕ ((List Int) × (List Int))) :=
 bif (decide (((List.length x3.1 : Int)) > 0)) then
  bif (Of x3.1 0) then
   ((x3.1[(Int.toNat 0)]?)).bind fun (x4 : Int) =>
   bif (decide (0 ≤ 1) && decide (1 ≤ ((List.length x3.1 : Int))) && decide (((List.length x3.1 : Int)) ≤ ((List.length x3.1 : Int)))) then
    (show Option (Bool) from
     bif a2 then
      bif (x4 != a1) then
       ((ND a0_2 x4)).bind fun (x5 : Int) =>
       some (x5 == 2)
      else
       some false
     else
      some false).bind fun (x6 : Bool) =>
    bif x6 then
     some (.inl ((sub x3.1 (Int.toNat 1) (Int.toNat ((List.length x3.1 : Int)))), x3.2))
    else
     (S0 n a0_0 a0_1 a0_2 x4 false).bind fun (x7 : (List Int)) =>
     (iter n (Qd x4 x7) ((sub x3.1 (Int.toNat 1) (Int.toNat ((List.length x3.1 : Int)))), 0, x3.2)).bind fun (x13 : (List Int) × Int × (List Int)) =>
     some (.inl (x13.1, x13.2.2))
   else
    none
  else
   none
 else
  some (.inr (x3.1, x3.2))
def R3 (n : Nat) (a0_0 : Int) (a0_1 : Int) (a0_2 : List Int) (a1 : Int) (a2 : Bool) : Option ((List Int)) :=
 bif (decide (0 ≤ ((List.length a0_2 : Int))) && decide (((List.length a0_2 : Int)) ≤ (DZ : Int)) && decide (((List.length a0_2 : Int)) = ((List.length a0_2 : Int)))) then
  (iter n (R8 a0_2) (0, (List.replicate (Int.toNat ((List.length a0_2 : Int))) (0 : Int)))).bind fun (x2 : Int × (List Int)) =>
  bif (Of x2.2 a1) then
   (iter n (RA n a0_0 a0_1 a0_2 a1 a2) ([a1], (CV x2.2 (Int.toNat a1) 0))).bind fun (x14 : (List Int) × (List Int)) =>
   some x14.2
  else
   none
 else
  none
def QR (n : Nat) (a0_0 : Int) (a0_1 : Int) (a0_2 : List Int) (a1 : Int) (a2 : Int) : Option (Int) :=
 (show Option (Bool) from
  (QO n a0_0 a0_1 a0_2 a2).bind fun (x1 : Int) =>
  bif (x1 == 0) then
   some true
  else
   (Qp a0_0 a0_1 a0_2 a1).bind fun (x2 : Bool) =>
   some (!x2)).bind fun (x3 : Bool) =>
 bif x3 then
  some (-1)
 else
  (R3 n a0_0 a0_1 a0_2 a2 false).bind fun (x4 : (List Int)) =>
  bif (Of x4 a1) then
   ((x4[(Int.toNat a1)]?)).bind fun (x5 : Int) =>
   some x5
  else
   none
def RO (x2 : (List Int)) (x6 : Int) : Option ((Int) ⊕ ((Int) ⊕ (Bool))) :=
 bif (decide (x6 < ((List.length x2 : Int)))) then
  ((ND x2 x6)).bind fun (x7 : Int) =>
  (PW x7 0 100000).bind fun (x8 : Bool) =>
  bif (!x8) then
   some (.inr (.inr false))
  else
   some (.inl (PF (x6 + 1)))
 else
  some (.inr (.inl x6))
def RN (n : Nat) (a0 : List ((List Int))) (x1 : Int) : Option ((Int) ⊕ ((Int) ⊕ (Bool))) :=
 bif (decide (x1 < ((List.length a0 : Int)))) then
  ((ND a0 x1)).bind fun (x2 : (List Int)) =>
  (show Option (Bool) from
   ((ND a0 0)).bind fun (x3 : (List Int)) =>
   bif (((List.length x2 : Int)) != ((List.length x3 : Int))) then
    some true
   else
    (PW ((List.length x2 : Int)) ((List.length a0 : Int)) 10).bind fun (x4 : Bool) =>
    some (!x4)).bind fun (x5 : Bool) =>
  bif x5 then
   some (.inr (.inr false))
  else
   (iter n (RO x2) 0).bind fun (x9 : (Int) ⊕ (Bool)) =>
   (match x9 with
   | .inl x10 => (
    some (.inl (PF (x1 + 1))))
   | .inr x11 => (
    some (.inr (.inr x11))))
 else
  some (.inr (.inl x1))
def Rk (n : Nat) (a0 : List ((List Int))) : Option (Bool) :=
 bif (decide (((List.length a0 : Int)) > 10)) then
  some false
 else
  (iter n (RN n a0) 0).bind fun (x12 : (Int) ⊕ (Bool)) =>
  (match x12 with
  | .inl x13 => (
   some true)
  | .inr x14 => (
   some x14))
def Ph (a0 : List ((List Int))) (x1 : Int) (x3 : Int × (List ((List Int)))) (x6 : Int × (List ((List Int)))) (x9 : Int × (List ((List Int)))) : Option ((Int × (List ((List Int)))) ⊕ (Int × (List ((List Int))))) :=
 bif (decide (x9.1 < x1)) then
  (show Option ((List ((List Int)))) from
   (show Option (Bool) from
    bif (decide (0 ≤ x9.1)) then
     bif ((OO .i64 (OD .i64 x6.1 x9.1) 1) == 1) then
      some true
     else
      bif (Of x9.2 (PF (x3.1 + 1))) then
       ((x9.2[(Int.toNat (PF (x3.1 + 1)))]?)).bind fun (x11 : (List Int)) =>
       bif (decide (0 ≤ x9.1)) then
        ((x9.2[(Int.toNat (PF (x3.1 + 1)))]?)).bind fun (x12 : (List Int)) =>
        bif (Of x12 (O2 .i64 x6.1 (OC .i64 1 x9.1))) then
         ((x9.2[(Int.toNat (PF (x3.1 + 1)))]?)).bind fun (x13 : (List Int)) =>
         ((x13[(Int.toNat (O2 .i64 x6.1 (OC .i64 1 x9.1)))]?)).bind fun (x14 : Int) =>
         some (decide (x14 < 0))
        else
         none
       else
        none
      else
       none
    else
     none).bind fun (x15 : Bool) =>
   bif x15 then
    some x9.2
   else
    ((ND a0 x3.1)).bind fun (x16 : (List Int)) =>
    ((ND x16 x9.1)).bind fun (x17 : Int) =>
    bif (Of x9.2 (PF (x3.1 + 1))) then
     ((x9.2[(Int.toNat (PF (x3.1 + 1)))]?)).bind fun (x18 : (List Int)) =>
     bif (decide (0 ≤ x9.1)) then
      ((x9.2[(Int.toNat (PF (x3.1 + 1)))]?)).bind fun (x19 : (List Int)) =>
      bif (Of x19 (O2 .i64 x6.1 (OC .i64 1 x9.1))) then
       ((x9.2[(Int.toNat (PF (x3.1 + 1)))]?)).bind fun (x20 : (List Int)) =>
       ((x20[(Int.toNat (O2 .i64 x6.1 (OC .i64 1 x9.1)))]?)).bind fun (x21 : Int) =>
       (show Option (Bool) from
        bif (Of x9.2 x3.1) then
         ((x9.2[(Int.toNat x3.1)]?)).bind fun (x22 : (List Int)) =>
         ((x9.2[(Int.toNat x3.1)]?)).bind fun (x23 : (List Int)) =>
         bif (Of x23 x6.1) then
          ((x9.2[(Int.toNat x3.1)]?)).bind fun (x24 : (List Int)) =>
          ((x24[(Int.toNat x6.1)]?)).bind fun (x25 : Int) =>
          bif (decide (x25 < 0)) then
           some true
          else
           bif (Of x9.2 x3.1) then
            ((x9.2[(Int.toNat x3.1)]?)).bind fun (x26 : (List Int)) =>
            ((x9.2[(Int.toNat x3.1)]?)).bind fun (x27 : (List Int)) =>
            bif (Of x27 x6.1) then
             ((x9.2[(Int.toNat x3.1)]?)).bind fun (x28 : (List Int)) =>
             ((x28[(Int.toNat x6.1)]?)).bind fun (x29 : Int) =>
             some (decide ((PF (x17 + x21)) < x29))
            else
             none
           else
            none
         else
          none
        else
         none).bind fun (x30 : Bool) =>
       bif x30 then
        bif (Of x9.2 x3.1) then
         ((x9.2[(Int.toNat x3.1)]?)).bind fun (x31 : (List Int)) =>
         ((x9.2[(Int.toNat x3.1)]?)).bind fun (x32 : (List Int)) =>
         bif (Of x32 x6.1) then
          some (List.modify x9.2 (Int.toNat x3.1) (fun (y2 : (List Int)) => (CV y2 (Int.toNat x6.1) (PF (x17 + x21)))))
         else
          none
        else
         none
       else
        some x9.2
      else
       none
     else
      none
    else
     none).bind fun (x10 : (List ((List Int)))) =>
  some (.inl ((PF (x9.1 + 1)), x10))
 else
  some (.inr (x9.1, x9.2))
def RC (n : Nat) (a0 : List ((List Int))) (x1 : Int) (x3 : Int × (List ((List Int)))) (x5 : (List Int)) (x6 : Int × (List ((List Int)))) : Option ((Int × (List ((List Int)))) ⊕ (Int × (List ((List Int))))) :=
 bif (decide (x6.1 < ((List.length x5 : Int)))) then
  bif (Of x6.2 x3.1) then
   ((x6.2[(Int.toNat x3.1)]?)).bind fun (x7 : (List Int)) =>
   ((x6.2[(Int.toNat x3.1)]?)).bind fun (x8 : (List Int)) =>
   bif (Of x8 x6.1) then
    (iter n (Ph a0 x1 x3 x6) (0, (List.modify x6.2 (Int.toNat x3.1) (fun (y2 : (List Int)) => (CV y2 (Int.toNat x6.1) (-1)))))).bind fun (x33 : Int × (List ((List Int)))) =>
    some (.inl ((PF (x6.1 + 1)), x33.2))
   else
    none
  else
   none
 else
  some (.inr (x6.1, x6.2))
def R9 (n : Nat) (a0 : List ((List Int))) (x1 : Int) (x3 : Int × (List ((List Int)))) : Option ((Int × (List ((List Int)))) ⊕ (Int × (List ((List Int))))) :=
 bif (decide (x3.1 ≥ 0)) then
  bif (decide (0 ≤ x1)) then
   bif (decide (0 ≤ (OC .i64 1 x1)) && decide ((OC .i64 1 x1) ≤ (DZ : Int)) && decide ((OC .i64 1 x1) = (OC .i64 1 x1))) then
    bif (Of x3.2 x3.1) then
     bif (Of (CV x3.2 (Int.toNat x3.1) (List.replicate (Int.toNat (OC .i64 1 x1)) (0 : Int))) x3.1) then
      (((CV x3.2 (Int.toNat x3.1) (List.replicate (Int.toNat (OC .i64 1 x1)) (0 : Int)))[(Int.toNat x3.1)]?)).bind fun (x4 : (List Int)) =>
      (((CV x3.2 (Int.toNat x3.1) (List.replicate (Int.toNat (OC .i64 1 x1)) (0 : Int)))[(Int.toNat x3.1)]?)).bind fun (x5 : (List Int)) =>
      (iter n (RC n a0 x1 x3 x5) (0, (CV x3.2 (Int.toNat x3.1) (List.replicate (Int.toNat (OC .i64 1 x1)) (0 : Int))))).bind fun (x34 : Int × (List ((List Int)))) =>
      some (.inl ((PF (x3.1 - 1)), x34.2))
     else
      none
    else
     none
   else
    none
  else
   none
 else
  some (.inr (x3.1, x3.2))
def Se (n : Nat) (a0 : List ((List Int))) : Option ((List ((List Int)))) :=
 (show Option (Int) from
  bif (decide (((List.length a0 : Int)) > 0)) then
   ((ND a0 0)).bind fun (x2 : (List Int)) =>
   some ((List.length x2 : Int))
  else
   some 0).bind fun (x1 : Int) =>
 bif (decide (0 ≤ (PF (((List.length a0 : Int)) + 1))) && decide ((PF (((List.length a0 : Int)) + 1)) ≤ (DZ : Int)) && decide ((PF (((List.length a0 : Int)) + 1)) = (PF (((List.length a0 : Int)) + 1)))) then
  bif (decide (0 ≤ x1)) then
   bif (decide (0 ≤ (OC .i64 1 x1)) && decide ((OC .i64 1 x1) ≤ (DZ : Int)) && decide ((OC .i64 1 x1) = (OC .i64 1 x1))) then
    bif (Of (List.replicate (Int.toNat (PF (((List.length a0 : Int)) + 1))) (([] : List Int) : (List Int))) ((List.length a0 : Int))) then
     (iter n (R9 n a0 x1) ((PF (((List.length a0 : Int)) - 1)), (CV (List.replicate (Int.toNat (PF (((List.length a0 : Int)) + 1))) (([] : List Int) : (List Int))) (Int.toNat ((List.length a0 : Int))) (List.replicate (Int.toNat (OC .i64 1 x1)) (0 : Int))))).bind fun (x35 : Int × (List ((List Int)))) =>
     some x35.2
    else
     none
   else
    none
  else
   none
 else
  none
def QB (x2 : (List ((List Int)))) (x3 : (List Int) × Int × Int) (x4 : (List Int)) (x5 : (List Int) × Int × Int) : Option (((List Int) × Int × Int) ⊕ ((List Int) × Int × Int)) :=
 bif (decide (x5.2.2 < ((List.length x4 : Int)))) then
  (show Option (Bool) from
   bif (decide (0 ≤ x5.2.2)) then
    bif ((OO .i64 (OD .i64 x5.2.1 x5.2.2) 1) == 1) then
     some true
    else
     bif (Of x2 (PF (x3.2.2 + 1))) then
      ((x2[(Int.toNat (PF (x3.2.2 + 1)))]?)).bind fun (x6 : (List Int)) =>
      bif (decide (0 ≤ x5.2.2)) then
       ((x2[(Int.toNat (PF (x3.2.2 + 1)))]?)).bind fun (x7 : (List Int)) =>
       bif (Of x7 (O2 .i64 x5.2.1 (OC .i64 1 x5.2.2))) then
        ((x2[(Int.toNat (PF (x3.2.2 + 1)))]?)).bind fun (x8 : (List Int)) =>
        ((x8[(Int.toNat (O2 .i64 x5.2.1 (OC .i64 1 x5.2.2)))]?)).bind fun (x9 : Int) =>
        bif (decide (x9 < 0)) then
         some true
        else
         ((ND x4 x5.2.2)).bind fun (x10 : Int) =>
         bif (Of x2 (PF (x3.2.2 + 1))) then
          ((x2[(Int.toNat (PF (x3.2.2 + 1)))]?)).bind fun (x11 : (List Int)) =>
          bif (decide (0 ≤ x5.2.2)) then
           ((x2[(Int.toNat (PF (x3.2.2 + 1)))]?)).bind fun (x12 : (List Int)) =>
           bif (Of x12 (O2 .i64 x5.2.1 (OC .i64 1 x5.2.2))) then
            ((x2[(Int.toNat (PF (x3.2.2 + 1)))]?)).bind fun (x13 : (List Int)) =>
            ((x13[(Int.toNat (O2 .i64 x5.2.1 (OC .i64 1 x5.2.2)))]?)).bind fun (x14 : Int) =>
            bif (Of x2 x3.2.2) then
             ((x2[(Int.toNat x3.2.2)]?)).bind fun (x15 : (List Int)) =>
             ((x2[(Int.toNat x3.2.2)]?)).bind fun (x16 : (List Int)) =>
             bif (Of x16 x5.2.1) then
              ((x2[(Int.toNat x3.2.2)]?)).bind fun (x17 : (List Int)) =>
              ((x17[(Int.toNat x5.2.1)]?)).bind fun (x18 : Int) =>
              some ((PF (x10 + x14)) != x18)
             else
              none
            else
             none
           else
            none
          else
           none
         else
          none
       else
        none
      else
       none
     else
      none
   else
    none).bind fun (x19 : Bool) =>
  bif x19 then
   some (.inl (x5.1, x5.2.1, (PF (x5.2.2 + 1))))
  else
   bif (decide (List.length x5.1 + List.length [x5.2.2] ≤ DZ)) then
    bif (decide (0 ≤ x5.2.2)) then
     some (.inr ((x5.1 ++ [x5.2.2]), (O2 .i64 x5.2.1 (OC .i64 1 x5.2.2)), x5.2.2))
    else
     none
   else
    none
 else
  some (.inr (x5.1, x5.2.1, x5.2.2))
def R7 (n : Nat) (a0 : List ((List Int))) (x2 : (List ((List Int)))) (x3 : (List Int) × Int × Int) : Option (((List Int) × Int × Int) ⊕ ((List Int) × Int × Int)) :=
 bif (decide (x3.2.2 < ((List.length a0 : Int)))) then
  ((ND a0 x3.2.2)).bind fun (x4 : (List Int)) =>
  (iter n (QB x2 x3 x4) (x3.1, x3.2.1, 0)).bind fun (x20 : (List Int) × Int × Int) =>
  some (.inl (x20.1, x20.2.1, (PF (x3.2.2 + 1))))
 else
  some (.inr (x3.1, x3.2.1, x3.2.2))
def R1 (n : Nat) (a0 : List ((List Int))) : Option ((List Int) × Int) :=
 (Rk n a0).bind fun (x1 : Bool) =>
 bif (!x1) then
  some (([] : List Int), (-1))
 else
  (Se n a0).bind fun (x2 : (List ((List Int)))) =>
  (iter n (R7 n a0 x2) (([] : List Int), 0, 0)).bind fun (x21 : (List Int) × Int × Int) =>
  bif (Of x2 0) then
   ((x2[(Int.toNat 0)]?)).bind fun (x22 : (List Int)) =>
   ((x2[(Int.toNat 0)]?)).bind fun (x23 : (List Int)) =>
   bif (Of x23 0) then
    ((x2[(Int.toNat 0)]?)).bind fun (x24 : (List Int)) =>
    ((x24[(Int.toNat 0)]?)).bind fun (x25 : Int) =>
    some (x21.1, x25)
   else
    none
  else
   none
def Qv (n : Nat) (a0_0 : Int) (a0_1 : Int) (a0_2 : List Int) (a1 : List PB) (a2 : List O9) (a3 : List PE) (x8 : (List Int)) (x11 : Int) (x12 : (List Int) × Int) : Option (((List Int) × Int) ⊕ ((List Int) × Int)) :=
 bif (decide (x12.2 < ((List.length x8 : Int)))) then
  bif (Of x8 x12.2) then
   ((x8[(Int.toNat x12.2)]?)).bind fun (x13 : Int) =>
   ((ND a2 x13)).bind fun (x14 : O9) =>
   ((ND a3 x11)).bind fun (x15 : PE) =>
   (R4 n a1 x15.2.1).bind fun (x16 : Int) =>
   ((ND a1 x16)).bind fun (x17 : PB) =>
   (QR n a0_0 a0_1 a0_2 x14.2.1 x17.2.1).bind fun (x18 : Int) =>
   (show Option (Int) from
    bif (decide (x18 < 0)) then
     some 100000
    else
     some x18).bind fun (x19 : Int) =>
   bif (decide (List.length x12.1 + List.length [x19] ≤ DZ)) then
    some (.inl ((x12.1 ++ [x19]), (PF (x12.2 + 1))))
   else
    none
  else
   none
 else
  some (.inr (x12.1, x12.2))
def QE (n : Nat) (a0_0 : Int) (a0_1 : Int) (a0_2 : List Int) (a1 : List PB) (a2 : List O9) (a3 : List PE) (x8 : (List Int)) (x9 : (List Int)) (x10 : (List ((List Int))) × Int) : Option (((List ((List Int))) × Int) ⊕ ((List ((List Int))) × Int)) :=
 bif (decide (x10.2 < ((List.length x9 : Int)))) then
  bif (Of x9 x10.2) then
   ((x9[(Int.toNat x10.2)]?)).bind fun (x11 : Int) =>
   (iter n (Qv n a0_0 a0_1 a0_2 a1 a2 a3 x8 x11) (([] : List Int), 0)).bind fun (x20 : (List Int) × Int) =>
   bif (decide (List.length x10.1 + List.length [x20.1] ≤ DZ)) then
    some (.inl ((x10.1 ++ [x20.1]), (PF (x10.2 + 1))))
   else
    none
  else
   none
 else
  some (.inr (x10.1, x10.2))
def Po (n : Nat) (a1 : List PB) (x8 : (List Int)) (x9 : (List Int)) (x21 : (List ((List Int))) × Int) (x22 : (List Int) × Int) (x23 : Int × (List O9) × (List PE)) : Option ((Int × (List O9) × (List PE)) ⊕ (Int × (List O9) × (List PE))) :=
 bif (decide (x23.1 < ((List.length x22.1 : Int)))) then
  (show Option ((List O9) × (List PE)) from
   bif (Of x22.1 x23.1) then
    ((x22.1[(Int.toNat x23.1)]?)).bind fun (x25 : Int) =>
    bif (Of x21.1 x23.1) then
     ((x21.1[(Int.toNat x23.1)]?)).bind fun (x26 : (List Int)) =>
     ((x21.1[(Int.toNat x23.1)]?)).bind fun (x27 : (List Int)) =>
     bif (Of x27 x25) then
      ((x21.1[(Int.toNat x23.1)]?)).bind fun (x28 : (List Int)) =>
      ((x28[(Int.toNat x25)]?)).bind fun (x29 : Int) =>
      bif (decide (x29 ≥ 100000)) then
       some (x23.2.1, x23.2.2)
      else
       bif (Of x9 x23.1) then
        ((x9[(Int.toNat x23.1)]?)).bind fun (x30 : Int) =>
        bif (Of x23.2.2 x30) then
         bif (Of x8 x25) then
          ((x8[(Int.toNat x25)]?)).bind fun (x31 : Int) =>
          bif (Of x23.2.1 x31) then
           ((x23.2.1[(Int.toNat x31)]?)).bind fun (x32 : O9) =>
           (((List.modify (List.modify x23.2.2 (Int.toNat x30) (fun (y : PE) => (y.1, y.2.1, x32.1, y.2.2.2))) (Int.toNat x30) (fun (y : PE) => (y.1, y.2.1, y.2.2.1, 2)))[(Int.toNat x30)]?)).bind fun (x33 : PE) =>
           (R4 n a1 x33.2.1).bind fun (x34 : Int) =>
           ((ND a1 x34)).bind fun (x35 : PB) =>
           some ((List.modify (List.modify x23.2.1 (Int.toNat x31) (fun (y : O9) => (y.1, y.2.1, x35.2.1, y.2.2.2.1, y.2.2.2.2))) (Int.toNat x31) (fun (y : O9) => (y.1, y.2.1, y.2.2.1, y.2.2.2.1, 0))), (List.modify (List.modify x23.2.2 (Int.toNat x30) (fun (y : PE) => (y.1, y.2.1, x32.1, y.2.2.2))) (Int.toNat x30) (fun (y : PE) => (y.1, y.2.1, y.2.2.1, 2))))
          else
           none
         else
          none
        else
         none
       else
        none
     else
      none
    else
     none
   else
    none).bind fun (x24 : (List O9) × (List PE)) =>
  some (.inl ((PF (x23.1 + 1)), x24.1, x24.2))
 else
  some (.inr (x23.1, x23.2.1, x23.2.2))
def Q8 (n : Nat) (a0_0 : Int) (a0_1 : Int) (a0_2 : List Int) (a1 : List PB) (a2 : List O9) (a3 : List PE) : Option ((List O9) × (List PE)) :=
 (Q9 a2).bind fun (x1 : (List O9)) =>
 (Qo a3).bind fun (x2 : (List PE)) =>
 (show Option (Bool) from
  (Qw n a0_0 a0_1 a0_2).bind fun (x3 : Bool) =>
  bif (!x3) then
   some true
  else
   (Rm n a1).bind fun (x4 : Bool) =>
   bif (!x4) then
    some true
   else
    (Ra n a0_0 a0_1 a0_2 a2).bind fun (x5 : Bool) =>
    bif (!x5) then
     some true
    else
     (Qx n a3).bind fun (x6 : Bool) =>
     some (!x6)).bind fun (x7 : Bool) =>
 bif x7 then
  some (x1, x2)
 else
  (Sz n a2 a3).bind fun (x8 : (List Int)) =>
  (Sg n a1 a3 ((List.length x8 : Int))).bind fun (x9 : (List Int)) =>
  (iter n (QE n a0_0 a0_1 a0_2 a1 a2 a3 x8 x9) (([] : List ((List Int))), 0)).bind fun (x21 : (List ((List Int))) × Int) =>
  (R1 n x21.1).bind fun (x22 : (List Int) × Int) =>
  (iter n (Po n a1 x8 x9 x21 x22) (0, x1, x2)).bind fun (x36 : Int × (List O9) × (List PE)) =>
  some (x36.2.1, x36.2.2)
def Q4 (a0 : List Qj) (x1 : Int) : Option ((Int) ⊕ ((Int) ⊕ (Bool))) :=
 bif (decide (x1 < ((List.length a0 : Int)))) then
  (show Option (Bool) from
   ((ND a0 x1)).bind fun (x2 : Qj) =>
   (PN x2.1 1 50).bind fun (x3 : Bool) =>
   bif (!x3) then
    some true
   else
    ((ND a0 x1)).bind fun (x4 : Qj) =>
    (PN x4.2.1 1 1000).bind fun (x5 : Bool) =>
    bif (!x5) then
     some true
    else
     ((ND a0 x1)).bind fun (x6 : Qj) =>
     ((ND a0 x1)).bind fun (x7 : Qj) =>
     (PN x6.2.2 0 x7.2.1).bind fun (x8 : Bool) =>
     bif (!x8) then
      some true
     else
      bif (decide (x1 > 0)) then
       ((ND a0 (PF (x1 - 1)))).bind fun (x9 : Qj) =>
       ((ND a0 x1)).bind fun (x10 : Qj) =>
       some (decide (x9.1 ≥ x10.1))
      else
       some false).bind fun (x11 : Bool) =>
  bif x11 then
   some (.inr (.inr false))
  else
   some (.inl (PF (x1 + 1)))
 else
  some (.inr (.inl x1))
def RL (n : Nat) (a0 : List Qj) : Option (Bool) :=
 (iter n (Q4 a0) 0).bind fun (x12 : (Int) ⊕ (Bool)) =>
 (match x12 with
 | .inl x13 => (
  some (decide (((List.length a0 : Int)) ≤ 8)))
 | .inr x14 => (
  some x14))
def Py (a0 : List PB) (x1 : Int) (x2 : PB) (x8 : Int) : Option ((Int) ⊕ ((Int) ⊕ (Bool))) :=
 bif (decide (x8 < x1)) then
  ((ND a0 x8)).bind fun (x9 : PB) =>
  bif (x9.2.1 == x2.2.1) then
   some (.inr (.inr false))
  else
   some (.inl (PF (x8 + 1)))
 else
  some (.inr (.inl x8))
def RU (n : Nat) (a0 : List PB) (x1 : Int) : Option ((Int) ⊕ ((Int) ⊕ (Bool))) :=
 bif (decide (x1 < ((List.length a0 : Int)))) then
  ((ND a0 x1)).bind fun (x2 : PB) =>
  (show Option (Bool) from
   (PN x2.1 1 999).bind fun (x3 : Bool) =>
   bif (!x3) then
    some true
   else
    (PN x2.2.1 0 99).bind fun (x4 : Bool) =>
    bif (!x4) then
     some true
    else
     (RL n x2.2.2).bind fun (x5 : Bool) =>
     bif (!x5) then
      some true
     else
      bif (decide (x1 > 0)) then
       ((ND a0 (PF (x1 - 1)))).bind fun (x6 : PB) =>
       some (decide (x6.1 ≥ x2.1))
      else
       some false).bind fun (x7 : Bool) =>
  bif x7 then
   some (.inr (.inr false))
  else
   (iter n (Py a0 x1 x2) 0).bind fun (x10 : (Int) ⊕ (Bool)) =>
   (match x10 with
   | .inl x11 => (
    some (.inl (PF (x1 + 1))))
   | .inr x12 => (
    some (.inr (.inr x12))))
 else
  some (.inr (.inl x1))
def Q1 (n : Nat) (a0 : List PB) : Option (Bool) :=
 bif (decide (((List.length a0 : Int)) > 12)) then
  some false
 else
  (iter n (RU n a0) 0).bind fun (x13 : (Int) ⊕ (Bool)) =>
  (match x13 with
  | .inl x14 => (
   some true)
  | .inr x15 => (
   some x15))
def RT (a0_2 : List Int) (x4 : Int) : Option ((Int) ⊕ ((Int) ⊕ (Bool))) :=
 bif (decide (x4 < ((List.length a0_2 : Int)))) then
  ((ND a0_2 x4)).bind fun (x5 : Int) =>
  (PN x5 0 4).bind fun (x6 : Bool) =>
  bif (!x6) then
   some (.inr (.inr false))
  else
   some (.inl (PF (x4 + 1)))
 else
  some (.inr (.inl x4))
def QS (n : Nat) (a0_0 : Int) (a0_1 : Int) (a0_2 : List Int) : Option (Bool) :=
 (show Option (Bool) from
  (PN a0_0 1 10).bind fun (x1 : Bool) =>
  bif (!x1) then
   some true
  else
   (PN a0_1 1 10).bind fun (x2 : Bool) =>
   bif (!x2) then
    some true
   else
    some (((List.length a0_2 : Int)) != (PF (a0_0 * a0_1)))).bind fun (x3 : Bool) =>
 bif x3 then
  some false
 else
  (iter n (RT a0_2) 0).bind fun (x7 : (Int) ⊕ (Bool)) =>
  (match x7 with
  | .inl x8 => (
   some true)
  | .inr x9 => (
   some x9))
def Rf (a0_0 : Int) (a0_1 : Int) (a0_2 : List Int) (a1 : Int) : Option (Bool) :=
 (show Option (Bool) from
  (PN a1 0 (PF (((List.length a0_2 : Int)) - 1))).bind fun (x1 : Bool) =>
  bif x1 then
   ((ND a0_2 a1)).bind fun (x2 : Int) =>
   some (x2 != 0)
  else
   some false).bind fun (x3 : Bool) =>
 some x3
def QH (a1 : List O9) (x3 : Int) (x4 : O9) (x13 : Int) : Option ((Int) ⊕ ((Int) ⊕ (Bool))) :=
 bif (decide (x13 < x3)) then
  ((ND a1 x13)).bind fun (x14 : O9) =>
  bif (x14.2.1 == x4.2.1) then
   some (.inr (.inr false))
  else
   some (.inl (PF (x13 + 1)))
 else
  some (.inr (.inl x13))
def Rr (n : Nat) (a0_0 : Int) (a0_1 : Int) (a0_2 : List Int) (a1 : List O9) (x3 : Int) : Option ((Int) ⊕ ((Int) ⊕ (Bool))) :=
 bif (decide (x3 < ((List.length a1 : Int)))) then
  ((ND a1 x3)).bind fun (x4 : O9) =>
  (show Option (Bool) from
   (PN x4.1 1 99).bind fun (x5 : Bool) =>
   bif (!x5) then
    some true
   else
    (Rf a0_0 a0_1 a0_2 x4.2.1).bind fun (x6 : Bool) =>
    bif (!x6) then
     some true
    else
     bif (x4.2.2.1 != (-1)) then
      (Rf a0_0 a0_1 a0_2 x4.2.2.1).bind fun (x7 : Bool) =>
      bif (!x7) then
       some true
      else
       (PN x4.2.2.2.2 0 1000000).bind fun (x8 : Bool) =>
       bif (!x8) then
        some true
       else
        bif (decide (x3 > 0)) then
         ((ND a1 (PF (x3 - 1)))).bind fun (x9 : O9) =>
         some (decide (x9.1 ≥ x4.1))
        else
         some false
     else
      (PN x4.2.2.2.2 0 1000000).bind fun (x10 : Bool) =>
      bif (!x10) then
       some true
      else
       bif (decide (x3 > 0)) then
        ((ND a1 (PF (x3 - 1)))).bind fun (x11 : O9) =>
        some (decide (x11.1 ≥ x4.1))
       else
        some false).bind fun (x12 : Bool) =>
  bif x12 then
   some (.inr (.inr false))
  else
   (iter n (QH a1 x3 x4) 0).bind fun (x15 : (Int) ⊕ (Bool)) =>
   (match x15 with
   | .inl x16 => (
    some (.inl (PF (x3 + 1))))
   | .inr x17 => (
    some (.inr (.inr x17))))
 else
  some (.inr (.inl x3))
def Rc (n : Nat) (a0_0 : Int) (a0_1 : Int) (a0_2 : List Int) (a1 : List O9) : Option (Bool) :=
 (show Option (Bool) from
  (QS n a0_0 a0_1 a0_2).bind fun (x1 : Bool) =>
  bif (!x1) then
   some true
  else
   some (decide (((List.length a1 : Int)) > 20))).bind fun (x2 : Bool) =>
 bif x2 then
  some false
 else
  (iter n (Rr n a0_0 a0_1 a0_2 a1) 0).bind fun (x18 : (Int) ⊕ (Bool)) =>
  (match x18 with
  | .inl x19 => (
   some true)
  | .inr x20 => (
   some x20))
def Qa (a0 : List O9) (a1 : List PE) (x1 : (List Int) × Int) (x7 : Bool × Int) : Option ((Bool × Int) ⊕ (Bool × Int)) :=
 bif (decide (x7.2 < ((List.length a1 : Int)))) then
  (show Option (Bool) from
   bif x7.1 then
    some true
   else
    ((ND a1 x7.2)).bind fun (x8 : PE) =>
    ((ND a0 x1.2)).bind fun (x9 : O9) =>
    some (x8.2.2.1 == x9.1)).bind fun (x10 : Bool) =>
  some (.inl (x10, (PF (x7.2 + 1))))
 else
  some (.inr (x7.1, x7.2))
def QZ (n : Nat) (a0 : List O9) (a1 : List PE) (x1 : (List Int) × Int) : Option (((List Int) × Int) ⊕ ((List Int) × Int)) :=
 (show Option (Bool) from
  bif (decide (x1.2 < ((List.length a0 : Int)))) then
   some (decide (((List.length x1.1 : Int)) < 10))
  else
   some false).bind fun (x2 : Bool) =>
 bif x2 then
  (show Option ((List Int)) from
   (show Option (Bool) from
    ((ND a0 x1.2)).bind fun (x4 : O9) =>
    bif (x4.2.2.1 != (-1)) then
     some true
    else
     ((ND a0 x1.2)).bind fun (x5 : O9) =>
     some x5.2.2.2.1).bind fun (x6 : Bool) =>
   (iter n (Qa a0 a1 x1) (x6, 0)).bind fun (x11 : Bool × Int) =>
   bif (!x11.1) then
    bif (decide (List.length x1.1 + List.length [x1.2] ≤ DZ)) then
     some (x1.1 ++ [x1.2])
    else
     none
   else
    some x1.1).bind fun (x3 : (List Int)) =>
  some (.inl (x3, (PF (x1.2 + 1))))
 else
  some (.inr (x1.1, x1.2))
def Rt (n : Nat) (a0 : List O9) (a1 : List PE) : Option ((List Int)) :=
 (iter n (QZ n a0 a1) (([] : List Int), 0)).bind fun (x12 : (List Int) × Int) =>
 some x12.1
def QC (a0 : List PB) (a1 : Int) (x1 : Int) : Option ((Int) ⊕ ((Int) ⊕ (Int))) :=
 bif (decide (x1 < ((List.length a0 : Int)))) then
  ((ND a0 x1)).bind fun (x2 : PB) =>
  bif (x2.1 == a1) then
   some (.inr (.inr x1))
  else
   some (.inl (PF (x1 + 1)))
 else
  some (.inr (.inl x1))
def Pt (n : Nat) (a0 : List PB) (a1 : Int) : Option (Int) :=
 (iter n (QC a0 a1) 0).bind fun (x3 : (Int) ⊕ (Int)) =>
 (match x3 with
 | .inl x4 => (
  some (-1))
 | .inr x5 => (
  some x5))
def RW (a0 : List Int) (a1 : Int) (x1 : Int) : Option ((Int) ⊕ ((Int) ⊕ (Bool))) :=
 bif (decide (x1 < ((List.length a0 : Int)))) then
  ((ND a0 x1)).bind fun (x2 : Int) =>
  bif (x2 == a1) then
   some (.inr (.inr true))
  else
   some (.inl (PF (x1 + 1)))
 else
  some (.inr (.inl x1))
def Pn (n : Nat) (a0 : List Int) (a1 : Int) : Option (Bool) :=
 (iter n (RW a0 a1) 0).bind fun (x3 : (Int) ⊕ (Bool)) =>
 (match x3 with
 | .inl x4 => (
  some false)
 | .inr x5 => (
  some x5))
def Q2 (a1 : List PE) (x1 : (List Int) × Int) : Option (((List Int) × Int) ⊕ ((List Int) × Int)) :=
 bif (decide (x1.2 < ((List.length a1 : Int)))) then
  (show Option ((List Int)) from
   ((ND a1 x1.2)).bind fun (x3 : PE) =>
   bif (x3.2.2.2 != 1) then
    ((ND a1 x1.2)).bind fun (x4 : PE) =>
    bif (decide (List.length x1.1 + List.length [x4.2.1] ≤ DZ)) then
     some (x1.1 ++ [x4.2.1])
    else
     none
   else
    some x1.1).bind fun (x2 : (List Int)) =>
  some (.inl (x2, (PF (x1.2 + 1))))
 else
  some (.inr (x1.1, x1.2))
def QJ (n : Nat) (a0 : List PB) (a1 : List PE) (a2 : Int) (x6 : (List Int) × (List Int) × Int) : Option (((List Int) × (List Int) × Int) ⊕ ((List Int) × (List Int) × Int)) :=
 (show Option (Bool) from
  bif (decide (x6.2.2 < ((List.length a1 : Int)))) then
   some (decide (((List.length x6.1 : Int)) < a2))
  else
   some false).bind fun (x7 : Bool) =>
 bif x7 then
  (show Option ((List Int) × (List Int)) from
   (show Option (Bool) from
    ((ND a1 x6.2.2)).bind fun (x9 : PE) =>
    bif (x9.2.2.2 == 1) then
     ((ND a1 x6.2.2)).bind fun (x10 : PE) =>
     (Pt n a0 x10.2.1).bind fun (x11 : Int) =>
     bif (decide (x11 ≥ 0)) then
      ((ND a1 x6.2.2)).bind fun (x12 : PE) =>
      (Pn n x6.2.1 x12.2.1).bind fun (x13 : Bool) =>
      some (!x13)
     else
      some false
    else
     some false).bind fun (x14 : Bool) =>
   bif x14 then
    bif (decide (List.length x6.1 + List.length [x6.2.2] ≤ DZ)) then
     ((ND a1 x6.2.2)).bind fun (x15 : PE) =>
     bif (decide (List.length x6.2.1 + List.length [x15.2.1] ≤ DZ)) then
      some ((x6.1 ++ [x6.2.2]), (x6.2.1 ++ [x15.2.1]))
     else
      none
    else
     none
   else
    some (x6.1, x6.2.1)).bind fun (x8 : (List Int) × (List Int)) =>
  some (.inl (x8.1, x8.2, (PF (x6.2.2 + 1))))
 else
  some (.inr (x6.1, x6.2.1, x6.2.2))
def RJ (n : Nat) (a0 : List PB) (a1 : List PE) (a2 : Int) : Option ((List Int)) :=
 (iter n (Q2 a1) (([] : List Int), 0)).bind fun (x5 : (List Int) × Int) =>
 (iter n (QJ n a0 a1 a2) (([] : List Int), x5.1, 0)).bind fun (x16 : (List Int) × (List Int) × Int) =>
 some x16.1
def Rd (n : Nat) (a0_0 : Int) (a0_1 : Int) (a0_2 : List Int) (a1 : Int) : Option (Bool) :=
 (show Option (Bool) from
  (QS n a0_0 a0_1 a0_2).bind fun (x1 : Bool) =>
  bif x1 then
   (PN a1 0 (PF (((List.length a0_2 : Int)) - 1))).bind fun (x2 : Bool) =>
   some x2
  else
   some false).bind fun (x3 : Bool) =>
 some x3
def Qg (a0_0 : Int) (a0_1 : Int) (a0_2 : List Int) (a1 : Int) : Option ((List Int)) :=
 bif (a0_0 == 0) then
  none
 else
  bif (a0_0 == 0) then
   none
  else
   (show Option ((List Int)) from
    bif (decide ((PF (Int.tdiv a1 a0_0)) > 0)) then
     bif (decide (List.length ([] : List Int) + List.length [(PF (a1 - a0_0))] ≤ DZ)) then
      some (([] : List Int) ++ [(PF (a1 - a0_0))])
     else
      none
    else
     some ([] : List Int)).bind fun (x1 : (List Int)) =>
   (show Option ((List Int)) from
    bif (decide ((Int.tmod a1 a0_0) > 0)) then
     bif (decide (List.length x1 + List.length [(PF (a1 - 1))] ≤ DZ)) then
      some (x1 ++ [(PF (a1 - 1))])
     else
      none
    else
     some x1).bind fun (x2 : (List Int)) =>
   (show Option ((List Int)) from
    bif (decide ((Int.tmod a1 a0_0) < (PF (a0_0 - 1)))) then
     bif (decide (List.length x2 + List.length [(PF (a1 + 1))] ≤ DZ)) then
      some (x2 ++ [(PF (a1 + 1))])
     else
      none
    else
     some x2).bind fun (x3 : (List Int)) =>
   (show Option ((List Int)) from
    bif (decide ((PF (Int.tdiv a1 a0_0)) < (PF (a0_1 - 1)))) then
     bif (decide (List.length x3 + List.length [(PF (a1 + a0_0))] ≤ DZ)) then
      some (x3 ++ [(PF (a1 + a0_0))])
     else
      none
    else
     some x3).bind fun (x4 : (List Int)) =>
   some x4
def Rv (a0_2 : List Int) (a2 : Bool) (x1 : (List Int)) (x2 : (List Int) × Int) : Option (((List Int) × Int) ⊕ ((List Int) × Int)) :=
 bif (decide (x2.2 < ((List.length x1 : Int)))) then
  (show Option ((List Int)) from
   bif (Of x1 x2.2) then
    ((x1[(Int.toNat x2.2)]?)).bind fun (x4 : Int) =>
    ((ND a0_2 x4)).bind fun (x5 : Int) =>
    (show Option (Bool) from
     bif (x5 != 0) then
      bif a2 then
       some (!(x5 == 2))
      else
       some true
     else
      some false).bind fun (x6 : Bool) =>
    bif x6 then
     bif (Of x1 x2.2) then
      ((x1[(Int.toNat x2.2)]?)).bind fun (x7 : Int) =>
      bif (decide (List.length x2.1 + List.length [x7] ≤ DZ)) then
       some (x2.1 ++ [x7])
      else
       none
     else
      none
    else
     some x2.1
   else
    none).bind fun (x3 : (List Int)) =>
  some (.inl (x3, (PF (x2.2 + 1))))
 else
  some (.inr (x2.1, x2.2))
def SJ (n : Nat) (a0_0 : Int) (a0_1 : Int) (a0_2 : List Int) (a1 : Int) (a2 : Bool) : Option ((List Int)) :=
 (Qg a0_0 a0_1 a0_2 a1).bind fun (x1 : (List Int)) =>
 (iter n (Rv a0_2 a2 x1) (([] : List Int), 0)).bind fun (x8 : (List Int) × Int) =>
 some x8.1
def Qb (a0_2 : List Int) (x1 : (List Int) × Int) : Option (((List Int) × Int) ⊕ ((List Int) × Int)) :=
 bif (decide (x1.2 < ((List.length a0_2 : Int)))) then
  bif (decide (List.length x1.1 + List.length [(-1)] ≤ DZ)) then
   some (.inl ((x1.1 ++ [(-1)]), (PF (x1.2 + 1))))
  else
   none
 else
  some (.inr (x1.1, x1.2))
def P1 (x5 : Int) (x8 : (List Int)) (x9 : (List Int) × Int × (List Int)) : Option (((List Int) × Int × (List Int)) ⊕ ((List Int) × Int × (List Int))) :=
 bif (decide (x9.2.1 < ((List.length x8 : Int)))) then
  (show Option ((List Int) × (List Int)) from
   bif (Of x8 x9.2.1) then
    ((x8[(Int.toNat x9.2.1)]?)).bind fun (x11 : Int) =>
    bif (Of x9.2.2 x11) then
     ((x9.2.2[(Int.toNat x11)]?)).bind fun (x12 : Int) =>
     bif (decide (x12 < 0)) then
      bif (Of x8 x9.2.1) then
       ((x8[(Int.toNat x9.2.1)]?)).bind fun (x13 : Int) =>
       bif (Of x9.2.2 x5) then
        ((x9.2.2[(Int.toNat x5)]?)).bind fun (x14 : Int) =>
        bif (Of x9.2.2 x13) then
         bif (Of x8 x9.2.1) then
          ((x8[(Int.toNat x9.2.1)]?)).bind fun (x15 : Int) =>
          bif (decide (List.length x9.1 + List.length [x15] ≤ DZ)) then
           some ((x9.1 ++ [x15]), (CV x9.2.2 (Int.toNat x13) (PF (x14 + 1))))
          else
           none
         else
          none
        else
         none
       else
        none
      else
       none
     else
      some (x9.1, x9.2.2)
    else
     none
   else
    none).bind fun (x10 : (List Int) × (List Int)) =>
  some (.inl (x10.1, (PF (x9.2.1 + 1)), x10.2))
 else
  some (.inr (x9.1, x9.2.1, x9.2.2))
def Qc (n : Nat) (a0_0 : Int) (a0_1 : Int) (a0_2 : List Int) (a1 : Int) (a2 : Bool) (x3 : (List Int) × Int × (List Int)) : Option (((List Int) × Int × (List Int)) ⊕ ((List Int) × Int × (List Int))) :=
 bif (decide (x3.2.1 < ((List.length x3.1 : Int)))) then
  (show Option ((List Int) × (List Int)) from
   bif (Of x3.1 x3.2.1) then
    ((x3.1[(Int.toNat x3.2.1)]?)).bind fun (x5 : Int) =>
    (show Option (Bool) from
     bif (x5 != a1) then
      bif a2 then
       ((ND a0_2 x5)).bind fun (x6 : Int) =>
       some (x6 == 2)
      else
       some false
     else
      some false).bind fun (x7 : Bool) =>
    bif x7 then
     some (x3.1, x3.2.2)
    else
     (SJ n a0_0 a0_1 a0_2 x5 false).bind fun (x8 : (List Int)) =>
     (iter n (P1 x5 x8) (x3.1, 0, x3.2.2)).bind fun (x16 : (List Int) × Int × (List Int)) =>
     some (x16.1, x16.2.2)
   else
    none).bind fun (x4 : (List Int) × (List Int)) =>
  some (.inl (x4.1, (PF (x3.2.1 + 1)), x4.2))
 else
  some (.inr (x3.1, x3.2.1, x3.2.2))
def Q3 (n : Nat) (a0_0 : Int) (a0_1 : Int) (a0_2 : List Int) (a1 : Int) (a2 : Bool) : Option ((List Int)) :=
 (iter n (Qb a0_2) (([] : List Int), 0)).bind fun (x2 : (List Int) × Int) =>
 bif (Of x2.1 a1) then
  (iter n (Qc n a0_0 a0_1 a0_2 a1 a2) ([a1], 0, (CV x2.1 (Int.toNat a1) 0))).bind fun (x17 : (List Int) × Int × (List Int)) =>
  some x17.2.2
 else
  none
def R5 (n : Nat) (a0_0 : Int) (a0_1 : Int) (a0_2 : List Int) (a1 : Int) (a2 : Bool) : Option ((List Int)) :=
 (show Option (Bool) from
  (Rd n a0_0 a0_1 a0_2 a1).bind fun (x1 : Bool) =>
  bif (!x1) then
   some true
  else
   ((ND a0_2 a1)).bind fun (x2 : Int) =>
   some (x2 == 0)).bind fun (x3 : Bool) =>
 bif x3 then
  some ([] : List Int)
 else
  (Q3 n a0_0 a0_1 a0_2 a1 a2).bind fun (x4 : (List Int)) =>
  some x4
def QT (n : Nat) (a0_0 : Int) (a0_1 : Int) (a0_2 : List Int) (a1 : Int) (a2 : Int) : Option (Int) :=
 (R5 n a0_0 a0_1 a0_2 a2 false).bind fun (x1 : (List Int)) =>
 (show Option (Bool) from
  bif (((List.length x1 : Int)) == 0) then
   some true
  else
   (Rd n a0_0 a0_1 a0_2 a1).bind fun (x2 : Bool) =>
   some (!x2)).bind fun (x3 : Bool) =>
 bif x3 then
  some (-1)
 else
  bif (Of x1 a1) then
   ((x1[(Int.toNat a1)]?)).bind fun (x4 : Int) =>
   some x4
  else
   none
def Rs (n : Nat) (a0_0 : Int) (a0_1 : Int) (a0_2 : List Int) (a1 : Int) (a2 : Int) : Option (Int) :=
 (QT n a0_0 a0_1 a0_2 a1 a2).bind fun (x1 : Int) =>
 bif (decide (x1 < 0)) then
  some 100000
 else
  some x1
def RS (a0 : List ((List Int))) (x1 : Int) (x7 : Int) : Option ((Int) ⊕ ((Int) ⊕ (Bool))) :=
 ((ND a0 x1)).bind fun (x8 : (List Int)) =>
 bif (decide (x7 < ((List.length x8 : Int)))) then
  ((ND a0 x1)).bind fun (x9 : (List Int)) =>
  ((ND x9 x7)).bind fun (x10 : Int) =>
  (PN x10 0 100000).bind fun (x11 : Bool) =>
  bif (!x11) then
   some (.inr (.inr false))
  else
   some (.inl (PF (x7 + 1)))
 else
  some (.inr (.inl x7))
def RR (n : Nat) (a0 : List ((List Int))) (x1 : Int) : Option ((Int) ⊕ ((Int) ⊕ (Bool))) :=
 bif (decide (x1 < ((List.length a0 : Int)))) then
  (show Option (Bool) from
   ((ND a0 x1)).bind fun (x2 : (List Int)) =>
   bif (decide (((List.length x2 : Int)) > 10)) then
    some true
   else
    ((ND a0 x1)).bind fun (x3 : (List Int)) =>
    ((ND a0 0)).bind fun (x4 : (List Int)) =>
    bif (((List.length x3 : Int)) != ((List.length x4 : Int))) then
     some true
    else
     ((ND a0 x1)).bind fun (x5 : (List Int)) =>
     some (decide (((List.length x5 : Int)) < ((List.length a0 : Int))))).bind fun (x6 : Bool) =>
  bif x6 then
   some (.inr (.inr false))
  else
   (iter n (RS a0 x1) 0).bind fun (x12 : (Int) ⊕ (Bool)) =>
   (match x12 with
   | .inl x13 => (
    some (.inl (PF (x1 + 1))))
   | .inr x14 => (
    some (.inr (.inr x14))))
 else
  some (.inr (.inl x1))
def Rq (n : Nat) (a0 : List ((List Int))) : Option (Bool) :=
 bif (decide (((List.length a0 : Int)) > 10)) then
  some false
 else
  (iter n (RR n a0) 0).bind fun (x15 : (Int) ⊕ (Bool)) =>
  (match x15 with
  | .inl x16 => (
   some true)
  | .inr x17 => (
   some x17))
def Qq (a4 : Int) (x1 : Int × (List Int)) : Option ((Int × (List Int)) ⊕ (Int × (List Int))) :=
 bif (decide (x1.1 ≤ a4)) then
  bif (Of x1.2 x1.1) then
   some (.inl ((PF (x1.1 + 1)), (CV x1.2 (Int.toNat x1.1) 1099511627776)))
  else
   none
 else
  some (.inr (x1.1, x1.2))
def Pe (a0 : List ((List Int))) (a4 : Int) (x3 : Int × (List Int) × (List Int) × (List Int) × (List Int) × (List Bool)) (x4 : Int) (x5 : Int × Int × Int × (List Int) × (List Int)) : Option ((Int × Int × Int × (List Int) × (List Int)) ⊕ (Int × Int × Int × (List Int) × (List Int))) :=
 bif (decide (x5.2.2.1 ≤ a4)) then
  (show Option (Int × Int × (List Int) × (List Int)) from
   bif (Of (CV x3.2.2.2.2.2 (Int.toNat x3.1) true) x5.2.2.1) then
    (((CV x3.2.2.2.2.2 (Int.toNat x3.1) true)[(Int.toNat x5.2.2.1)]?)).bind fun (x7 : Bool) =>
    bif x7 then
     some (x5.1, x5.2.1, x5.2.2.2.1, x5.2.2.2.2)
    else
     ((ND a0 (PF (x4 - 1)))).bind fun (x8 : (List Int)) =>
     ((ND x8 (PF (x5.2.2.1 - 1)))).bind fun (x9 : Int) =>
     bif (Of x3.2.1 x4) then
      ((x3.2.1[(Int.toNat x4)]?)).bind fun (x10 : Int) =>
      bif (Of x3.2.2.1 x5.2.2.1) then
       ((x3.2.2.1[(Int.toNat x5.2.2.1)]?)).bind fun (x11 : Int) =>
       (show Option ((List Int) × (List Int)) from
        bif (Of x5.2.2.2.1 x5.2.2.1) then
         ((x5.2.2.2.1[(Int.toNat x5.2.2.1)]?)).bind fun (x13 : Int) =>
         bif (decide ((PF ((PF (x9 - x10)) - x11)) < x13)) then
          bif (Of x5.2.2.2.1 x5.2.2.1) then
           bif (Of x5.2.2.2.2 x5.2.2.1) then
            some ((CV x5.2.2.2.1 (Int.toNat x5.2.2.1) (PF ((PF (x9 - x10)) - x11))), (CV x5.2.2.2.2 (Int.toNat x5.2.2.1) x3.1))
           else
            none
          else
           none
         else
          some (x5.2.2.2.1, x5.2.2.2.2)
        else
         none).bind fun (x12 : (List Int) × (List Int)) =>
       bif (Of x12.1 x5.2.2.1) then
        ((x12.1[(Int.toNat x5.2.2.1)]?)).bind fun (x14 : Int) =>
        bif (decide (x14 < x5.1)) then
         bif (Of x12.1 x5.2.2.1) then
          ((x12.1[(Int.toNat x5.2.2.1)]?)).bind fun (x15 : Int) =>
          some (x15, x5.2.2.1, x12.1, x12.2)
         else
          none
        else
         some (x5.1, x5.2.1, x12.1, x12.2)
       else
        none
      else
       none
     else
      none
   else
    none).bind fun (x6 : Int × Int × (List Int) × (List Int)) =>
  some (.inl (x6.1, x6.2.1, (PF (x5.2.2.1 + 1)), x6.2.2.1, x6.2.2.2))
 else
  some (.inr (x5.1, x5.2.1, x5.2.2.1, x5.2.2.2.1, x5.2.2.2.2))
def QL (a3 : List Int) (a4 : Int) (x3 : Int × (List Int) × (List Int) × (List Int) × (List Int) × (List Bool)) (x16 : Int × Int × Int × (List Int) × (List Int)) (x17 : Int × (List Int) × (List Int) × (List Int)) : Option ((Int × (List Int) × (List Int) × (List Int)) ⊕ (Int × (List Int) × (List Int) × (List Int))) :=
 bif (decide (x17.1 ≤ a4)) then
  (show Option ((List Int) × (List Int) × (List Int)) from
   bif (Of (CV x3.2.2.2.2.2 (Int.toNat x3.1) true) x17.1) then
    (((CV x3.2.2.2.2.2 (Int.toNat x3.1) true)[(Int.toNat x17.1)]?)).bind fun (x19 : Bool) =>
    bif x19 then
     bif (Of a3 x17.1) then
      ((a3[(Int.toNat x17.1)]?)).bind fun (x20 : Int) =>
      bif (Of a3 x17.1) then
       ((a3[(Int.toNat x17.1)]?)).bind fun (x21 : Int) =>
       bif (Of x17.2.1 x21) then
        ((x17.2.1[(Int.toNat x21)]?)).bind fun (x22 : Int) =>
        bif (Of x17.2.1 x20) then
         bif (Of x17.2.2.1 x17.1) then
          ((x17.2.2.1[(Int.toNat x17.1)]?)).bind fun (x23 : Int) =>
          bif (Of x17.2.2.1 x17.1) then
           some ((CV x17.2.1 (Int.toNat x20) (PF (x22 + x16.1))), (CV x17.2.2.1 (Int.toNat x17.1) (PF (x23 - x16.1))), x17.2.2.2)
          else
           none
         else
          none
        else
         none
       else
        none
      else
       none
     else
      none
    else
     bif (Of x17.2.2.2 x17.1) then
      ((x17.2.2.2[(Int.toNat x17.1)]?)).bind fun (x24 : Int) =>
      bif (Of x17.2.2.2 x17.1) then
       some (x17.2.1, x17.2.2.1, (CV x17.2.2.2 (Int.toNat x17.1) (PF (x24 - x16.1))))
      else
       none
     else
      none
   else
    none).bind fun (x18 : (List Int) × (List Int) × (List Int)) =>
  some (.inl ((PF (x17.1 + 1)), x18.1, x18.2.1, x18.2.2))
 else
  some (.inr (x17.1, x17.2.1, x17.2.2.1, x17.2.2.2))
def QK (n : Nat) (a0 : List ((List Int))) (a3 : List Int) (a4 : Int) (x3 : Int × (List Int) × (List Int) × (List Int) × (List Int) × (List Bool)) : Option ((Int × (List Int) × (List Int) × (List Int) × (List Int) × (List Bool)) ⊕ (Int × (List Int) × (List Int) × (List Int) × (List Int) × (List Bool))) :=
 bif (Of x3.2.2.2.2.2 x3.1) then
  bif (Of a3 x3.1) then
   ((a3[(Int.toNat x3.1)]?)).bind fun (x4 : Int) =>
   (iter n (Pe a0 a4 x3 x4) (1099511627776, 0, 1, x3.2.2.2.1, x3.2.2.2.2.1)).bind fun (x16 : Int × Int × Int × (List Int) × (List Int)) =>
   (iter n (QL a3 a4 x3 x16) (0, x3.2.1, x3.2.2.1, x16.2.2.2.1)).bind fun (x25 : Int × (List Int) × (List Int) × (List Int)) =>
   bif (Of a3 x16.2.1) then
    ((a3[(Int.toNat x16.2.1)]?)).bind fun (x26 : Int) =>
    bif (x26 == 0) then
     some (.inr (x16.2.1, x25.2.1, x25.2.2.1, x25.2.2.2, x16.2.2.2.2, (CV x3.2.2.2.2.2 (Int.toNat x3.1) true)))
    else
     some (.inl (x16.2.1, x25.2.1, x25.2.2.1, x25.2.2.2, x16.2.2.2.2, (CV x3.2.2.2.2.2 (Int.toNat x3.1) true)))
   else
    none
  else
   none
 else
  none
def Rx (x27 : Int × (List Int) × (List Int) × (List Int) × (List Int) × (List Bool)) (x28 : Int × (List Int)) : Option ((Int × (List Int)) ⊕ (Int × (List Int))) :=
 bif (x28.1 != 0) then
  bif (Of x27.2.2.2.2.1 x28.1) then
   ((x27.2.2.2.2.1[(Int.toNat x28.1)]?)).bind fun (x29 : Int) =>
   bif (Of x28.2 x29) then
    ((x28.2[(Int.toNat x29)]?)).bind fun (x30 : Int) =>
    bif (Of x28.2 x28.1) then
     some (.inl (x29, (CV x28.2 (Int.toNat x28.1) x30)))
    else
     none
   else
    none
  else
   none
 else
  some (.inr (x28.1, x28.2))
def SK (n : Nat) (a0 : List ((List Int))) (a1 : List Int) (a2 : List Int) (a3 : List Int) (a4 : Int) : Option ((List Int) × (List Int) × (List Int)) :=
 bif (decide (0 ≤ (PF (a4 + 1))) && decide ((PF (a4 + 1)) ≤ (DZ : Int)) && decide ((PF (a4 + 1)) = (PF (a4 + 1)))) then
  bif (decide (0 ≤ (PF (a4 + 1))) && decide ((PF (a4 + 1)) ≤ (DZ : Int)) && decide ((PF (a4 + 1)) = (PF (a4 + 1)))) then
   bif (decide (0 ≤ (PF (a4 + 1))) && decide ((PF (a4 + 1)) ≤ (DZ : Int)) && decide ((PF (a4 + 1)) = (PF (a4 + 1)))) then
    (iter n (Qq a4) (0, (List.replicate (Int.toNat (PF (a4 + 1))) (0 : Int)))).bind fun (x2 : Int × (List Int)) =>
    (iter n (QK n a0 a3 a4) (0, a1, a2, x2.2, (List.replicate (Int.toNat (PF (a4 + 1))) (0 : Int)), (List.replicate (Int.toNat (PF (a4 + 1))) (false : Bool)))).bind fun (x27 : Int × (List Int) × (List Int) × (List Int) × (List Int) × (List Bool)) =>
    (iter n (Rx x27) (x27.1, a3)).bind fun (x31 : Int × (List Int)) =>
    some (x27.2.1, x27.2.2.1, x31.2)
   else
    none
  else
   none
 else
  none
def RV (n : Nat) (a0 : List ((List Int))) (x1 : (List Int)) (x2 : Int × (List Int) × (List Int) × (List Int)) : Option ((Int × (List Int) × (List Int) × (List Int)) ⊕ (Int × (List Int) × (List Int) × (List Int))) :=
 bif (decide (x2.1 ≤ ((List.length a0 : Int)))) then
  bif (Of x2.2.2.2 0) then
   (SK n a0 x2.2.1 x2.2.2.1 (CV x2.2.2.2 (Int.toNat 0) x2.1) ((List.length x1 : Int))).bind fun (x3 : (List Int) × (List Int) × (List Int)) =>
   some (.inl ((PF (x2.1 + 1)), x3.1, x3.2.1, x3.2.2))
  else
   none
 else
  some (.inr (x2.1, x2.2.1, x2.2.2.1, x2.2.2.2))
def P2 (a0 : List ((List Int))) (x1 : (List Int)) (x4 : Int × (List Int) × (List Int) × (List Int)) (x5 : Xm) : Option ((Xm) ⊕ (Xm)) :=
 bif (decide (x5.2 ≤ ((List.length x1 : Int)))) then
  (show Option (Int) from
   bif (Of x4.2.2.2 x5.2) then
    ((x4.2.2.2[(Int.toNat x5.2)]?)).bind fun (x7 : Int) =>
    bif (decide (x7 > 0)) then
     bif (Of x4.2.2.2 x5.2) then
      ((x4.2.2.2[(Int.toNat x5.2)]?)).bind fun (x8 : Int) =>
      ((ND a0 (PF (x8 - 1)))).bind fun (x9 : (List Int)) =>
      ((ND x9 (PF (x5.2 - 1)))).bind fun (x10 : Int) =>
      some (PF (x5.1 + x10))
     else
      none
    else
     some x5.1
   else
    none).bind fun (x6 : Int) =>
  some (.inl (x6, (PF (x5.2 + 1))))
 else
  some (.inr (x5.1, x5.2))
def P8 (n : Nat) (a0 : List ((List Int))) : Option (Int) :=
 bif (((List.length a0 : Int)) == 0) then
  some 0
 else
  ((ND a0 0)).bind fun (x1 : (List Int)) =>
  bif (decide (0 ≤ (PF (((List.length a0 : Int)) + 1))) && decide ((PF (((List.length a0 : Int)) + 1)) ≤ (DZ : Int)) && decide ((PF (((List.length a0 : Int)) + 1)) = (PF (((List.length a0 : Int)) + 1)))) then
   bif (decide (0 ≤ (PF (((List.length x1 : Int)) + 1))) && decide ((PF (((List.length x1 : Int)) + 1)) ≤ (DZ : Int)) && decide ((PF (((List.length x1 : Int)) + 1)) = (PF (((List.length x1 : Int)) + 1)))) then
    bif (decide (0 ≤ (PF (((List.length x1 : Int)) + 1))) && decide ((PF (((List.length x1 : Int)) + 1)) ≤ (DZ : Int)) && decide ((PF (((List.length x1 : Int)) + 1)) = (PF (((List.length x1 : Int)) + 1)))) then
     (iter n (RV n a0 x1) (1, (List.replicate (Int.toNat (PF (((List.length a0 : Int)) + 1))) (0 : Int)), (List.replicate (Int.toNat (PF (((List.length x1 : Int)) + 1))) (0 : Int)), (List.replicate (Int.toNat (PF (((List.length x1 : Int)) + 1))) (0 : Int)))).bind fun (x4 : Int × (List Int) × (List Int) × (List Int)) =>
     (iter n (P2 a0 x1 x4) (0, 1)).bind fun (x11 : Xm) =>
     some x11.1
    else
     none
   else
    none
  else
   none
def Pj (a0 : List ((List Int))) (a1 : Int) (x1 : (List ((List Int))) × Int) : Option (((List ((List Int))) × Int) ⊕ ((List ((List Int))) × Int)) :=
 bif (decide (x1.2 < ((List.length a0 : Int)))) then
  ((ND a0 x1.2)).bind fun (x2 : (List Int)) =>
  bif (decide (0 ≤ (0 : Int)) && decide ((0 : Int) ≤ a1) && decide (a1 ≤ ((List.length x2 : Int)))) then
   bif (decide (List.length ([] : List Int) + List.length (sub x2 (Int.toNat (0 : Int)) (Int.toNat a1)) ≤ DZ)) then
    ((ND a0 x1.2)).bind fun (x3 : (List Int)) =>
    bif (decide (0 ≤ (PF (a1 + 1))) && decide ((PF (a1 + 1)) ≤ ((List.length x3 : Int))) && decide (((List.length x3 : Int)) ≤ ((List.length x3 : Int)))) then
     bif (decide (List.length (([] : List Int) ++ (sub x2 (Int.toNat (0 : Int)) (Int.toNat a1))) + List.length (sub x3 (Int.toNat (PF (a1 + 1))) (Int.toNat ((List.length x3 : Int)))) ≤ DZ)) then
      bif (decide (List.length x1.1 + List.length [((([] : List Int) ++ (sub x2 (Int.toNat (0 : Int)) (Int.toNat a1))) ++ (sub x3 (Int.toNat (PF (a1 + 1))) (Int.toNat ((List.length x3 : Int)))))] ≤ DZ)) then
       some (.inl ((x1.1 ++ [((([] : List Int) ++ (sub x2 (Int.toNat (0 : Int)) (Int.toNat a1))) ++ (sub x3 (Int.toNat (PF (a1 + 1))) (Int.toNat ((List.length x3 : Int)))))]), (PF (x1.2 + 1))))
      else
       none
     else
      none
    else
     none
   else
    none
  else
   none
 else
  some (.inr (x1.1, x1.2))
def Ps (n : Nat) (a0 : List ((List Int))) (a1 : Int) : Option ((List ((List Int)))) :=
 (iter n (Pj a0 a1) (([] : List ((List Int))), 1)).bind fun (x4 : (List ((List Int))) × Int) =>
 some x4.1
def RH (a0 : List ((List Int))) (x3 : (List Int) × Int) : Option (((List Int) × Int) ⊕ ((List Int) × Int)) :=
 (show Option (Bool) from
  bif (decide (((List.length a0 : Int)) > 0)) then
   ((ND a0 0)).bind fun (x4 : (List Int)) =>
   some (decide (x3.2 < ((List.length x4 : Int))))
  else
   some false).bind fun (x5 : Bool) =>
 bif x5 then
  bif (decide (List.length x3.1 + List.length [x3.2] ≤ DZ)) then
   some (.inl ((x3.1 ++ [x3.2]), (PF (x3.2 + 1))))
  else
   none
 else
  some (.inr (x3.1, x3.2))
def RI (n : Nat) (x8 : (List Int) × Int × (List ((List Int))) × (List Int) × Int) : Option (((List Int) × Int × (List ((List Int))) × (List Int) × Int) ⊕ ((List Int) × Int × (List ((List Int))) × (List Int) × Int)) :=
 ((ND x8.2.2.1 0)).bind fun (x9 : (List Int)) =>
 bif (decide (x8.2.2.2.2 < ((List.length x9 : Int)))) then
  (Ps n x8.2.2.1 x8.2.2.2.2).bind fun (x10 : (List ((List Int)))) =>
  ((ND x8.2.2.1 0)).bind fun (x11 : (List Int)) =>
  ((ND x11 x8.2.2.2.2)).bind fun (x12 : Int) =>
  (P8 n x10).bind fun (x13 : Int) =>
  bif ((PF (x12 + x13)) == x8.2.1) then
   bif (Of x8.2.2.2.1 x8.2.2.2.2) then
    ((x8.2.2.2.1[(Int.toNat x8.2.2.2.2)]?)).bind fun (x14 : Int) =>
    bif (decide (List.length x8.1 + List.length [x14] ≤ DZ)) then
     ((ND x8.2.2.1 0)).bind fun (x15 : (List Int)) =>
     ((ND x15 x8.2.2.2.2)).bind fun (x16 : Int) =>
     bif (decide (0 ≤ (0 : Int)) && decide ((0 : Int) ≤ x8.2.2.2.2) && decide (x8.2.2.2.2 ≤ ((List.length x8.2.2.2.1 : Int)))) then
      bif (decide (List.length ([] : List Int) + List.length (sub x8.2.2.2.1 (Int.toNat (0 : Int)) (Int.toNat x8.2.2.2.2)) ≤ DZ)) then
       bif (decide (0 ≤ (PF (x8.2.2.2.2 + 1))) && decide ((PF (x8.2.2.2.2 + 1)) ≤ ((List.length x8.2.2.2.1 : Int))) && decide (((List.length x8.2.2.2.1 : Int)) ≤ ((List.length x8.2.2.2.1 : Int)))) then
        bif (decide (List.length (([] : List Int) ++ (sub x8.2.2.2.1 (Int.toNat (0 : Int)) (Int.toNat x8.2.2.2.2))) + List.length (sub x8.2.2.2.1 (Int.toNat (PF (x8.2.2.2.2 + 1))) (Int.toNat ((List.length x8.2.2.2.1 : Int)))) ≤ DZ)) then
         some (.inr ((x8.1 ++ [x14]), (PF (x8.2.1 - x16)), x10, ((([] : List Int) ++ (sub x8.2.2.2.1 (Int.toNat (0 : Int)) (Int.toNat x8.2.2.2.2))) ++ (sub x8.2.2.2.1 (Int.toNat (PF (x8.2.2.2.2 + 1))) (Int.toNat ((List.length x8.2.2.2.1 : Int))))), x8.2.2.2.2))
        else
         none
       else
        none
      else
       none
     else
      none
    else
     none
   else
    none
  else
   some (.inl (x8.1, x8.2.1, x8.2.2.1, x8.2.2.2.1, (PF (x8.2.2.2.2 + 1))))
 else
  some (.inr (x8.1, x8.2.1, x8.2.2.1, x8.2.2.2.1, x8.2.2.2.2))
def SD (n : Nat) (x7 : (List Int) × Int × (List ((List Int))) × (List Int)) : Option (((List Int) × Int × (List ((List Int))) × (List Int)) ⊕ ((List Int) × Int × (List ((List Int))) × (List Int))) :=
 bif (decide (((List.length x7.2.2.1 : Int)) > 0)) then
  (iter n (RI n) (x7.1, x7.2.1, x7.2.2.1, x7.2.2.2, 0)).bind fun (x17 : (List Int) × Int × (List ((List Int))) × (List Int) × Int) =>
  some (.inl (x17.1, x17.2.1, x17.2.2.1, x17.2.2.2.1))
 else
  some (.inr (x7.1, x7.2.1, x7.2.2.1, x7.2.2.2))
def R6 (n : Nat) (a0 : List ((List Int))) : Option ((List Int) × Int) :=
 (Rq n a0).bind fun (x1 : Bool) =>
 bif (!x1) then
  some (([] : List Int), (-1))
 else
  (P8 n a0).bind fun (x2 : Int) =>
  (iter n (RH a0) (([] : List Int), 0)).bind fun (x6 : (List Int) × Int) =>
  (iter n (SD n) (([] : List Int), x2, a0, x6.1)).bind fun (x18 : (List Int) × Int × (List ((List Int))) × (List Int)) =>
  some (x18.1, x2)
def Q0 (n : Nat) (a0_0 : Int) (a0_1 : Int) (a0_2 : List Int) (a1 : List PB) (a2 : List O9) (a3 : List PE) (x5 : (List Int)) (x6 : (List Int)) (x7 : (List ((List Int))) × Int) (x8 : (List Int) × Int) : Option (((List Int) × Int) ⊕ ((List Int) × Int)) :=
 bif (decide (x8.2 < ((List.length x5 : Int)))) then
  bif (Of x5 x8.2) then
   ((x5[(Int.toNat x8.2)]?)).bind fun (x9 : Int) =>
   ((ND a2 x9)).bind fun (x10 : O9) =>
   bif (Of x6 x7.2) then
    ((x6[(Int.toNat x7.2)]?)).bind fun (x11 : Int) =>
    ((ND a3 x11)).bind fun (x12 : PE) =>
    (Pt n a1 x12.2.1).bind fun (x13 : Int) =>
    ((ND a1 x13)).bind fun (x14 : PB) =>
    (Rs n a0_0 a0_1 a0_2 x10.2.1 x14.2.1).bind fun (x15 : Int) =>
    bif (decide (List.length x8.1 + List.length [x15] ≤ DZ)) then
     some (.inl ((x8.1 ++ [x15]), (PF (x8.2 + 1))))
    else
     none
   else
    none
  else
   none
 else
  some (.inr (x8.1, x8.2))
def QI (n : Nat) (a0_0 : Int) (a0_1 : Int) (a0_2 : List Int) (a1 : List PB) (a2 : List O9) (a3 : List PE) (x5 : (List Int)) (x6 : (List Int)) (x7 : (List ((List Int))) × Int) : Option (((List ((List Int))) × Int) ⊕ ((List ((List Int))) × Int)) :=
 bif (decide (x7.2 < ((List.length x6 : Int)))) then
  (iter n (Q0 n a0_0 a0_1 a0_2 a1 a2 a3 x5 x6 x7) (([] : List Int), 0)).bind fun (x16 : (List Int) × Int) =>
  bif (decide (List.length x7.1 + List.length [x16.1] ≤ DZ)) then
   some (.inl ((x7.1 ++ [x16.1]), (PF (x7.2 + 1))))
  else
   none
 else
  some (.inr (x7.1, x7.2))
def Pp (n : Nat) (a1 : List PB) (a3 : List PE) (x5 : (List Int)) (x6 : (List Int)) (x17 : (List ((List Int))) × Int) (x18 : (List Int) × Int) (x19 : Int × (List O9) × (List PE)) : Option ((Int × (List O9) × (List PE)) ⊕ (Int × (List O9) × (List PE))) :=
 bif (decide (x19.1 < ((List.length x18.1 : Int)))) then
  (show Option ((List O9) × (List PE)) from
   bif (Of x18.1 x19.1) then
    ((x18.1[(Int.toNat x19.1)]?)).bind fun (x21 : Int) =>
    bif (Of x5 x21) then
     ((x5[(Int.toNat x21)]?)).bind fun (x22 : Int) =>
     bif (Of x17.1 x19.1) then
      ((x17.1[(Int.toNat x19.1)]?)).bind fun (x23 : (List Int)) =>
      bif (Of x18.1 x19.1) then
       ((x18.1[(Int.toNat x19.1)]?)).bind fun (x24 : Int) =>
       ((x17.1[(Int.toNat x19.1)]?)).bind fun (x25 : (List Int)) =>
       bif (Of x25 x24) then
        ((x17.1[(Int.toNat x19.1)]?)).bind fun (x26 : (List Int)) =>
        ((x26[(Int.toNat x24)]?)).bind fun (x27 : Int) =>
        bif (decide (x27 < 100000)) then
         bif (Of x6 x19.1) then
          ((x6[(Int.toNat x19.1)]?)).bind fun (x28 : Int) =>
          ((ND a3 x28)).bind fun (x29 : PE) =>
          (Pt n a1 x29.2.1).bind fun (x30 : Int) =>
          ((ND a1 x30)).bind fun (x31 : PB) =>
          bif (Of x19.2.1 x22) then
           bif (Of (List.modify x19.2.1 (Int.toNat x22) (fun (y : O9) => (y.1, y.2.1, x31.2.1, y.2.2.2.1, y.2.2.2.2))) x22) then
            bif (Of x6 x19.1) then
             ((x6[(Int.toNat x19.1)]?)).bind fun (x32 : Int) =>
             bif (Of (List.modify (List.modify x19.2.1 (Int.toNat x22) (fun (y : O9) => (y.1, y.2.1, x31.2.1, y.2.2.2.1, y.2.2.2.2))) (Int.toNat x22) (fun (y : O9) => (y.1, y.2.1, y.2.2.1, y.2.2.2.1, 0))) x22) then
              (((List.modify (List.modify x19.2.1 (Int.toNat x22) (fun (y : O9) => (y.1, y.2.1, x31.2.1, y.2.2.2.1, y.2.2.2.2))) (Int.toNat x22) (fun (y : O9) => (y.1, y.2.1, y.2.2.1, y.2.2.2.1, 0)))[(Int.toNat x22)]?)).bind fun (x33 : O9) =>
              bif (Of x19.2.2 x32) then
               bif (Of x6 x19.1) then
                ((x6[(Int.toNat x19.1)]?)).bind fun (x34 : Int) =>
                bif (Of (List.modify x19.2.2 (Int.toNat x32) (fun (y : PE) => (y.1, y.2.1, x33.1, y.2.2.2))) x34) then
                 some ((List.modify (List.modify x19.2.1 (Int.toNat x22) (fun (y : O9) => (y.1, y.2.1, x31.2.1, y.2.2.2.1, y.2.2.2.2))) (Int.toNat x22) (fun (y : O9) => (y.1, y.2.1, y.2.2.1, y.2.2.2.1, 0))), (List.modify (List.modify x19.2.2 (Int.toNat x32) (fun (y : PE) => (y.1, y.2.1, x33.1, y.2.2.2))) (Int.toNat x34) (fun (y : PE) => (y.1, y.2.1, y.2.2.1, 2))))
                else
                 none
               else
                none
              else
               none
             else
              none
            else
             none
           else
            none
          else
           none
         else
          none
        else
         some (x19.2.1, x19.2.2)
       else
        none
      else
       none
     else
      none
    else
     none
   else
    none).bind fun (x20 : (List O9) × (List PE)) =>
  some (.inl ((PF (x19.1 + 1)), x20.1, x20.2))
 else
  some (.inr (x19.1, x19.2.1, x19.2.2))
def RG (n : Nat) (a0_0 : Int) (a0_1 : Int) (a0_2 : List Int) (a1 : List PB) (a2 : List O9) (a3 : List PE) : Option ((List O9) × (List PE)) :=
 bif (decide (List.length ([] : List O9) + List.length a2 ≤ DZ)) then
  bif (decide (List.length ([] : List PE) + List.length a3 ≤ DZ)) then
   (show Option (Bool) from
    (Q1 n a1).bind fun (x1 : Bool) =>
    bif (!x1) then
     some true
    else
     (Rc n a0_0 a0_1 a0_2 a2).bind fun (x2 : Bool) =>
     bif (!x2) then
      some true
     else
      (P7 n a3).bind fun (x3 : Bool) =>
      some (!x3)).bind fun (x4 : Bool) =>
   bif x4 then
    some ((([] : List O9) ++ a2), (([] : List PE) ++ a3))
   else
    (Rt n a2 a3).bind fun (x5 : (List Int)) =>
    (RJ n a1 a3 ((List.length x5 : Int))).bind fun (x6 : (List Int)) =>
    (iter n (QI n a0_0 a0_1 a0_2 a1 a2 a3 x5 x6) (([] : List ((List Int))), 0)).bind fun (x17 : (List ((List Int))) × Int) =>
    (R6 n x17.1).bind fun (x18 : (List Int) × Int) =>
    (iter n (Pp n a1 a3 x5 x6 x17 x18) (0, (([] : List O9) ++ a2), (([] : List PE) ++ a3))).bind fun (x35 : Int × (List O9) × (List PE)) =>
    some (x35.2.1, x35.2.2)
  else
   none
 else
  none
def Qz (a0 : List O9) (a1 : List O9) (x1 : Int) : Option ((Int) ⊕ ((Int) ⊕ (Bool))) :=
 bif (decide (x1 < ((List.length a0 : Int)))) then
  ((ND a0 x1)).bind fun (x2 : O9) =>
  ((ND a1 x1)).bind fun (x3 : O9) =>
  bif (!((x2.1 == x3.1) && ((x2.2.1 == x3.2.1) && ((x2.2.2.1 == x3.2.2.1) && ((x2.2.2.2.1 == x3.2.2.2.1) && ((x2.2.2.2.2 == x3.2.2.2.2) && true)))))) then
   some (.inr (.inr false))
  else
   some (.inl (PF (x1 + 1)))
 else
  some (.inr (.inl x1))
def Qf (n : Nat) (a0 : List O9) (a1 : List O9) : Option (Bool) :=
 bif (((List.length a0 : Int)) != ((List.length a1 : Int))) then
  some false
 else
  (iter n (Qz a0 a1) 0).bind fun (x4 : (Int) ⊕ (Bool)) =>
  (match x4 with
  | .inl x5 => (
   some true)
  | .inr x6 => (
   some x6))
def Qi (a0 : List PE) (a1 : List PE) (x1 : Int) : Option ((Int) ⊕ ((Int) ⊕ (Bool))) :=
 bif (decide (x1 < ((List.length a0 : Int)))) then
  ((ND a0 x1)).bind fun (x2 : PE) =>
  ((ND a1 x1)).bind fun (x3 : PE) =>
  bif (!((x2.1 == x3.1) && ((x2.2.1 == x3.2.1) && ((x2.2.2.1 == x3.2.2.1) && ((x2.2.2.2 == x3.2.2.2) && true))))) then
   some (.inr (.inr false))
  else
   some (.inl (PF (x1 + 1)))
 else
  some (.inr (.inl x1))
def QG (n : Nat) (a0 : List PE) (a1 : List PE) : Option (Bool) :=
 bif (((List.length a0 : Int)) != ((List.length a1 : Int))) then
  some false
 else
  (iter n (Qi a0 a1) 0).bind fun (x4 : (Int) ⊕ (Bool)) =>
  (match x4 with
  | .inl x5 => (
   some true)
  | .inr x6 => (
   some x6))
def P4 (x2 : Int × Int × (List Int) × (List PB) × (List O9) × (List PE)) (x3 : (List O9) × (List PE)) (x18 : Int) : Option ((Int) ⊕ ((Int) ⊕ (Bool))) :=
 bif (decide (x18 < ((List.length x2.2.2.2.2.2 : Int)))) then
  (show Option (Bool) from
   bif (Of x2.2.2.2.2.2 x18) then
    ((x2.2.2.2.2.2[(Int.toNat x18)]?)).bind fun (x19 : PE) =>
    bif (x19.2.2.2 != 1) then
     bif (Of x3.2 x18) then
      ((x3.2[(Int.toNat x18)]?)).bind fun (x20 : PE) =>
      bif (Of x2.2.2.2.2.2 x18) then
       ((x2.2.2.2.2.2[(Int.toNat x18)]?)).bind fun (x21 : PE) =>
       some (!((x20.1 == x21.1) && ((x20.2.1 == x21.2.1) && ((x20.2.2.1 == x21.2.2.1) && ((x20.2.2.2 == x21.2.2.2) && true)))))
      else
       none
     else
      none
    else
     some false
   else
    none).bind fun (x22 : Bool) =>
  bif x22 then
   some (.inr (.inr false))
  else
   some (.inl (PF (x18 + 1)))
 else
  some (.inr (.inl x18))
def P5 (x2 : Int × Int × (List Int) × (List PB) × (List O9) × (List PE)) (x3 : (List O9) × (List PE)) (x26 : Int) : Option ((Int) ⊕ ((Int) ⊕ (Bool))) :=
 bif (decide (x26 < ((List.length x2.2.2.2.2.1 : Int)))) then
  (show Option (Bool) from
   bif (Of x2.2.2.2.2.1 x26) then
    ((x2.2.2.2.2.1[(Int.toNat x26)]?)).bind fun (x27 : O9) =>
    bif (x27.2.2.1 != (-1)) then
     bif (Of x3.1 x26) then
      ((x3.1[(Int.toNat x26)]?)).bind fun (x28 : O9) =>
      bif (Of x2.2.2.2.2.1 x26) then
       ((x2.2.2.2.2.1[(Int.toNat x26)]?)).bind fun (x29 : O9) =>
       some (!((x28.1 == x29.1) && ((x28.2.1 == x29.2.1) && ((x28.2.2.1 == x29.2.2.1) && ((x28.2.2.2.1 == x29.2.2.2.1) && ((x28.2.2.2.2 == x29.2.2.2.2) && true))))))
      else
       none
     else
      none
    else
     some false
   else
    none).bind fun (x30 : Bool) =>
  bif x30 then
   some (.inr (.inr false))
  else
   some (.inl (PF (x26 + 1)))
 else
  some (.inr (.inl x26))
def Qh (n : Nat) (a0 : List Int) : Option (Bool) :=
 (Th a0).bind fun (x1 : Bool) =>
 bif x1 then
  some true
 else
  (P6 n a0).bind fun (x2 : Int × Int × (List Int) × (List PB) × (List O9) × (List PE)) =>
  (Q8 n x2.1 x2.2.1 x2.2.2.1 x2.2.2.2.1 x2.2.2.2.2.1 x2.2.2.2.2.2).bind fun (x3 : (List O9) × (List PE)) =>
  (RG n x2.1 x2.2.1 x2.2.2.1 x2.2.2.2.1 x2.2.2.2.2.1 x2.2.2.2.2.2).bind fun (x4 : (List O9) × (List PE)) =>
  (show Option (Bool) from
   (Qf n x3.1 x4.1).bind fun (x5 : Bool) =>
   bif (!x5) then
    some true
   else
    (QG n x3.2 x4.2).bind fun (x6 : Bool) =>
    some (!x6)).bind fun (x7 : Bool) =>
  bif x7 then
   some false
  else
   (show Option (Bool) from
    (Rc n x2.1 x2.2.1 x2.2.2.1 x2.2.2.2.2.1).bind fun (x8 : Bool) =>
    bif (!x8) then
     some true
    else
     (P7 n x2.2.2.2.2.2).bind fun (x9 : Bool) =>
     bif (!x9) then
      some true
     else
      (Q1 n x2.2.2.2.1).bind fun (x10 : Bool) =>
      some (!x10)).bind fun (x11 : Bool) =>
   bif x11 then
    (show Option (Bool) from
     (Qf n x3.1 x2.2.2.2.2.1).bind fun (x12 : Bool) =>
     bif x12 then
      (QG n x3.2 x2.2.2.2.2.2).bind fun (x13 : Bool) =>
      some x13
     else
      some false).bind fun (x14 : Bool) =>
    some x14
   else
    (show Option (Bool) from
     (Qx n x3.2).bind fun (x15 : Bool) =>
     bif (!x15) then
      some true
     else
      (Ra n x2.1 x2.2.1 x2.2.2.1 x3.1).bind fun (x16 : Bool) =>
      some (!x16)).bind fun (x17 : Bool) =>
    bif x17 then
     some false
    else
     (iter n (P4 x2 x3) 0).bind fun (x23 : (Int) ⊕ (Bool)) =>
     (match x23 with
     | .inl x24 => (
      (iter n (P5 x2 x3) 0).bind fun (x31 : (Int) ⊕ (Bool)) =>
      (match x31 with
      | .inl x32 => (
       some true)
      | .inr x33 => (
       some x33)))
     | .inr x25 => (
      some x25))
end Go.Ev.N
