/- The native forms of the functions, as gen.py prints them. Conditions: none. -/
import Derived.Test.YtpanenmecamlnaaLib4
namespace Go.Ev.N
open Go Go.Ev
set_option linter.unusedVariables false

def w64 (n : Int) : Int := IntKind.wrap .i64 n

abbrev STI := (List UInt8) × Int

abbrev SII := Int × Int

abbrev SIII := Int × Int × Int

abbrev SIIBI := Int × Int × Bool × Int

abbrev SIIII := Int × Int × Int × Int

abbrev SIIIBI := Int × Int × Int × Bool × Int

abbrev SIILIJ := Int × Int × (List Int)

abbrev SIILIIIJ := Int × Int × (List SIII)

abbrev SLIJII := (List Int) × Int × Int

abbrev SIILIIJLIIIJI := Int × Int × (List SII) × (List SIII) × Int

abbrev SIILIJLIIIBIJLIJ := Int × Int × (List Int) × (List SIIIBI) × (List Int)

abbrev SILIILIIJLIIIJIJ := Int × (List SIILIIJLIIIJI)

abbrev SIILIJLIIIBIJLLIJJLIJ := Int × Int × (List Int) × (List SIIIBI) × (List ((List Int))) × (List Int)

abbrev SIILIJLIILIIIJJILIILIIJLIIIJIJLIIIBIJLIIIIJLIJLIJI := Int × Int × (List Int) × (List SIILIIIJ) × Int × (List SIILIIJLIIIJI) × (List SIIIBI) × (List SIIII) × (List Int) × (List Int) × Int

def laws_big (a0 : List Int) : Option (Bool) :=
  some (decide (((List.length a0 : Int)) > 1048576))

def spec_l1New_L1 (a0 : List Int) (x1 : SII) : Option ((SII) ⊕ (SII)) :=
  (show Option (Bool) from
    bif (decide (x1.2 < ((List.length a0 : Int)))) then
      some (decide (x1.2 < 4000))
    else
      some false).bind fun (x2 : Bool) =>
  bif x2 then
    ((getI a0 x1.2)).bind fun (x3 : Int) =>
    some (.inl ((andI .i64 (w64 ((w64 ((w64 (x1.1 * 137)) + (w64 x3))) + 11)) 1073741823), (w64 (x1.2 + 1))))
  else
    some (.inr (x1.1, x1.2))

def spec_l1New (n : Nat) (a0 : List Int) : Option (SLIJII) :=
  (iter n (spec_l1New_L1 a0) ((w64 (275275 + ((List.length a0 : Int)))), 0)).bind fun (x4 : SII) =>
  some (a0, 0, x4.1)

def spec_l1Byte (a0_0 : List Int) (a0_1 : Int) (a0_2 : Int) : Option (Int × (List Int) × Int × Int) :=
  bif (decide (0 ≤ 33)) then
    bif (decide (0 ≤ 47)) then
      (show Option (Int × (List Int) × Int × Int) from
        bif (decide (a0_1 < ((List.length a0_0 : Int)))) then
          ((getI a0_0 a0_1)).bind fun (x2 : Int) =>
          some ((andI .i64 (w64 ((andI .i64 (xorI .i64 (shrI .i64 (w64 ((w64 (a0_2 * 6364136223846793005)) + 1442695040888963407)) 33) (shrI .i64 (w64 ((w64 (a0_2 * 6364136223846793005)) + 1442695040888963407)) 47)) 255) + (w64 x2))) 255), a0_0, (w64 (a0_1 + 1)), (w64 ((w64 (a0_2 * 6364136223846793005)) + 1442695040888963407)))
        else
          some ((andI .i64 (xorI .i64 (shrI .i64 (w64 ((w64 (a0_2 * 6364136223846793005)) + 1442695040888963407)) 33) (shrI .i64 (w64 ((w64 (a0_2 * 6364136223846793005)) + 1442695040888963407)) 47)) 255), a0_0, a0_1, (w64 ((w64 (a0_2 * 6364136223846793005)) + 1442695040888963407)))).bind fun (x1 : Int × (List Int) × Int × Int) =>
      some (x1.1, x1.2.1, x1.2.2.1, x1.2.2.2)
    else
      none
  else
    none

def spec_l1Below (a0_0 : List Int) (a0_1 : Int) (a0_2 : Int) (a1 : Int) : Option (Int × (List Int) × Int × Int) :=
  bif (decide (a1 ≤ 0)) then
    some (0, a0_0, a0_1, a0_2)
  else
    bif (decide (a1 ≤ 256)) then
      (spec_l1Byte a0_0 a0_1 a0_2).bind fun (x1 : Int × (List Int) × Int × Int) =>
      bif (a1 == 0) then
        none
      else
        some ((Int.tmod x1.1 a1), x1.2.1, x1.2.2.1, x1.2.2.2)
    else
      (spec_l1Byte a0_0 a0_1 a0_2).bind fun (x2 : Int × (List Int) × Int × Int) =>
      (spec_l1Byte x2.2.1 x2.2.2.1 x2.2.2.2).bind fun (x3 : Int × (List Int) × Int × Int) =>
      (spec_l1Byte x3.2.1 x3.2.2.1 x3.2.2.2).bind fun (x4 : Int × (List Int) × Int × Int) =>
      bif (a1 == 0) then
        none
      else
        some ((Int.tmod (w64 ((w64 ((w64 (x2.1 * 65536)) + (w64 (x3.1 * 256)))) + x4.1)) a1), x4.2.1, x4.2.2.1, x4.2.2.2)

def spec_l1Once (a0_0 : List Int) (a0_1 : Int) (a0_2 : Int) (a1 : Int) : Option (Bool × (List Int) × Int × Int) :=
  (spec_l1Below a0_0 a0_1 a0_2 a1).bind fun (x1 : Int × (List Int) × Int × Int) =>
  some ((x1.1 == 0), x1.2.1, x1.2.2.1, x1.2.2.2)

def spec_l1Int (a0_0 : List Int) (a0_1 : Int) (a0_2 : Int) (a1 : List Int) : Option (Int × (List Int) × Int × Int) :=
  (spec_l1Below a0_0 a0_1 a0_2 ((List.length a1 : Int))).bind fun (x1 : Int × (List Int) × Int × Int) =>
  ((getI a1 x1.1)).bind fun (x2 : Int) =>
  some (x2, x1.2.1, x1.2.2.1, x1.2.2.2)

def spec_l5Draw_L2 (x4 : Int × (List Int) × Int × Int × Int × Int × (List SIII)) : Option ((Int × (List Int) × Int × Int × Int × Int × (List SIII)) ⊕ (Int × (List Int) × Int × Int × Int × Int × (List SIII))) :=
  bif (decide (x4.1 < 6)) then
    (show Option ((List Int) × Int × Int × Int × Int × (List SIII)) from
      (spec_l1Int x4.2.1 x4.2.2.1 x4.2.2.2.1 ([0, 0, 1, 3, 5, 12])).bind fun (x6 : Int × (List Int) × Int × Int) =>
      bif (decide (x6.1 > 0)) then
        (spec_l1Below x6.2.1 x6.2.2.1 x6.2.2.2 (w64 (x6.1 + 1))).bind fun (x7 : Int × (List Int) × Int × Int) =>
        (spec_l1Int x7.2.1 x7.2.2.1 x7.2.2.2 ([0, 0, 0, x7.1])).bind fun (x8 : Int × (List Int) × Int × Int) =>
        bif (decide (List.length x4.2.2.2.2.2.2 + List.length [(x4.1, x6.1, x8.1)] ≤ maxRow)) then
          some (x8.2.1, x8.2.2.1, x8.2.2.2, x4.2.2.2.2.1, x4.2.2.2.2.2.1, (x4.2.2.2.2.2.2 ++ [(x4.1, x6.1, x8.1)]))
        else
          none
      else
        some (x6.2.1, x6.2.2.1, x6.2.2.2, x4.2.2.2.2.1, x4.2.2.2.2.2.1, x4.2.2.2.2.2.2)).bind fun (x5 : (List Int) × Int × Int × Int × Int × (List SIII)) =>
    some (.inl ((w64 (x4.1 + 1)), x5.1, x5.2.1, x5.2.2.1, x5.2.2.2.1, x5.2.2.2.2.1, x5.2.2.2.2.2))
  else
    some (.inr (x4.1, x4.2.1, x4.2.2.1, x4.2.2.2.1, x4.2.2.2.2.1, x4.2.2.2.2.2.1, x4.2.2.2.2.2.2))

def spec_l5Draw_L1 (n : Nat) (x1 : Int × (List Int) × Int × Int × (List SIILIIIJ)) : Option ((Int × (List Int) × Int × Int × (List SIILIIIJ)) ⊕ (Int × (List Int) × Int × Int × (List SIILIIIJ))) :=
  bif (decide (x1.1 < 6)) then
    (show Option ((List Int) × Int × Int × (List SIILIIIJ)) from
      (spec_l1Once x1.2.1 x1.2.2.1 x1.2.2.2.1 4).bind fun (x3 : Bool × (List Int) × Int × Int) =>
      bif x3.1 then
        some (x3.2.1, x3.2.2.1, x3.2.2.2, x1.2.2.2.2)
      else
        (iter n (spec_l5Draw_L2) (1, x3.2.1, x3.2.2.1, x3.2.2.2, (w64 (x1.1 * 10)), (w64 (20 - x1.1)), ([] : List SIII))).bind fun (x9 : Int × (List Int) × Int × Int × Int × Int × (List SIII)) =>
        bif (decide (List.length x1.2.2.2.2 + List.length [(x9.2.2.2.2.1, x9.2.2.2.2.2.1, x9.2.2.2.2.2.2)] ≤ maxRow)) then
          some (x9.2.1, x9.2.2.1, x9.2.2.2.1, (x1.2.2.2.2 ++ [(x9.2.2.2.2.1, x9.2.2.2.2.2.1, x9.2.2.2.2.2.2)]))
        else
          none).bind fun (x2 : (List Int) × Int × Int × (List SIILIIIJ)) =>
    some (.inl ((w64 (x1.1 + 1)), x2.1, x2.2.1, x2.2.2.1, x2.2.2.2))
  else
    some (.inr (x1.1, x1.2.1, x1.2.2.1, x1.2.2.2.1, x1.2.2.2.2))

def spec_l5Draw (n : Nat) (a0_0 : List Int) (a0_1 : Int) (a0_2 : Int) : Option ((List SIILIIIJ) × (List Int) × Int × Int) :=
  (iter n (spec_l5Draw_L1 n) (1, a0_0, a0_1, a0_2, ([] : List SIILIIIJ))).bind fun (x10 : Int × (List Int) × Int × Int × (List SIILIIIJ)) =>
  some (x10.2.2.2.2, x10.2.1, x10.2.2.1, x10.2.2.2.1)

def spec_l11CopyOrder (a0_0 : Int) (a0_1 : Int) (a0_2 : List SII) (a0_3 : List SIII) (a0_4 : Int) : Option (SIILIIJLIIIJI) :=
  bif (decide (List.length ([] : List SII) + List.length a0_2 ≤ maxRow)) then
    bif (decide (List.length ([] : List SIII) + List.length a0_3 ≤ maxRow)) then
      some (a0_0, a0_1, (([] : List SII) ++ a0_2), (([] : List SIII) ++ a0_3), a0_4)
    else
      none
  else
    none

def spec_l11Copy_L1 (a0_1 : List SIILIIJLIIIJI) (x1 : Int × Int × (List SIILIIJLIIIJI)) : Option ((Int × Int × (List SIILIIJLIIIJI)) ⊕ (Int × Int × (List SIILIIJLIIIJI))) :=
  bif (decide (x1.1 < ((List.length a0_1 : Int)))) then
    ((getI a0_1 x1.1)).bind fun (x2 : SIILIIJLIIIJI) =>
    (spec_l11CopyOrder x2.1 x2.2.1 x2.2.2.1 x2.2.2.2.1 x2.2.2.2.2).bind fun (x3 : SIILIIJLIIIJI) =>
    bif (decide (List.length x1.2.2 + List.length [(x3.1, x3.2.1, x3.2.2.1, x3.2.2.2.1, x3.2.2.2.2)] ≤ maxRow)) then
      some (.inl ((w64 (x1.1 + 1)), x1.2.1, (x1.2.2 ++ [(x3.1, x3.2.1, x3.2.2.1, x3.2.2.2.1, x3.2.2.2.2)])))
    else
      none
  else
    some (.inr (x1.1, x1.2.1, x1.2.2))

def spec_l11Copy (n : Nat) (a0_0 : Int) (a0_1 : List SIILIIJLIIIJI) : Option (SILIILIIJLIIIJIJ) :=
  (iter n (spec_l11Copy_L1 a0_1) (0, a0_0, ([] : List SIILIIJLIIIJI))).bind fun (x4 : Int × Int × (List SIILIIJLIIIJI)) =>
  some (x4.2.1, x4.2.2)

def spec_l11Find_L1 (a0_1 : List SIILIIJLIIIJI) (a1 : Int) (x1 : Int) : Option ((Int) ⊕ ((Int) ⊕ (Int))) :=
  bif (decide (x1 < ((List.length a0_1 : Int)))) then
    ((getI a0_1 x1)).bind fun (x2 : SIILIIJLIIIJI) =>
    bif (x2.1 == a1) then
      some (.inr (.inr x1))
    else
      some (.inl (w64 (x1 + 1)))
  else
    some (.inr (.inl x1))

def spec_l11Find (n : Nat) (a0_0 : Int) (a0_1 : List SIILIIJLIIIJI) (a1 : Int) : Option (Int) :=
  (iter n (spec_l11Find_L1 a0_1 a1) 0).bind fun (x3 : (Int) ⊕ (Int)) =>
  (match x3 with
  | .inl x4 => (
    some (-1))
  | .inr x5 => (
    some x5))

def spec_l1In (a0 : Int) (a1 : Int) (a2 : Int) : Option (Bool) :=
  (show Option (Bool) from
    bif (decide (a0 ≥ a1)) then
      some (decide (a0 ≤ a2))
    else
      some false).bind fun (x1 : Bool) =>
  some x1

def spec_l5Stacks_L1 (a0 : List SIII) (x1 : Int) : Option ((Int) ⊕ ((Int) ⊕ (Bool))) :=
  bif (decide (x1 < ((List.length a0 : Int)))) then
    (show Option (Bool) from
      ((getI a0 x1)).bind fun (x2 : SIII) =>
      (spec_l1In x2.1 1 50).bind fun (x3 : Bool) =>
      bif (!x3) then
        some true
      else
        ((getI a0 x1)).bind fun (x4 : SIII) =>
        (spec_l1In x4.2.1 1 1000).bind fun (x5 : Bool) =>
        bif (!x5) then
          some true
        else
          ((getI a0 x1)).bind fun (x6 : SIII) =>
          ((getI a0 x1)).bind fun (x7 : SIII) =>
          (spec_l1In x6.2.2 0 x7.2.1).bind fun (x8 : Bool) =>
          bif (!x8) then
            some true
          else
            bif (decide (x1 > 0)) then
              ((getI a0 (w64 (x1 - 1)))).bind fun (x9 : SIII) =>
              ((getI a0 x1)).bind fun (x10 : SIII) =>
              some (decide (x9.1 ≥ x10.1))
            else
              some false).bind fun (x11 : Bool) =>
    bif x11 then
      some (.inr (.inr false))
    else
      some (.inl (w64 (x1 + 1)))
  else
    some (.inr (.inl x1))

def spec_l5Stacks (n : Nat) (a0 : List SIII) : Option (Bool) :=
  (iter n (spec_l5Stacks_L1 a0) 0).bind fun (x12 : (Int) ⊕ (Bool)) =>
  (match x12 with
  | .inl x13 => (
    some (decide (((List.length a0 : Int)) ≤ 8)))
  | .inr x14 => (
    some x14))

def spec_StockOk_L2 (a0 : List SIILIIIJ) (x1 : Int) (x2 : SIILIIIJ) (x8 : Int) : Option ((Int) ⊕ ((Int) ⊕ (Bool))) :=
  bif (decide (x8 < x1)) then
    ((getI a0 x8)).bind fun (x9 : SIILIIIJ) =>
    bif (x9.2.1 == x2.2.1) then
      some (.inr (.inr false))
    else
      some (.inl (w64 (x8 + 1)))
  else
    some (.inr (.inl x8))

def spec_StockOk_L1 (n : Nat) (a0 : List SIILIIIJ) (x1 : Int) : Option ((Int) ⊕ ((Int) ⊕ (Bool))) :=
  bif (decide (x1 < ((List.length a0 : Int)))) then
    ((getI a0 x1)).bind fun (x2 : SIILIIIJ) =>
    (show Option (Bool) from
      (spec_l1In x2.1 1 999).bind fun (x3 : Bool) =>
      bif (!x3) then
        some true
      else
        (spec_l1In x2.2.1 0 99).bind fun (x4 : Bool) =>
        bif (!x4) then
          some true
        else
          (spec_l5Stacks n x2.2.2).bind fun (x5 : Bool) =>
          bif (!x5) then
            some true
          else
            bif (decide (x1 > 0)) then
              ((getI a0 (w64 (x1 - 1)))).bind fun (x6 : SIILIIIJ) =>
              some (decide (x6.1 ≥ x2.1))
            else
              some false).bind fun (x7 : Bool) =>
    bif x7 then
      some (.inr (.inr false))
    else
      (iter n (spec_StockOk_L2 a0 x1 x2) 0).bind fun (x10 : (Int) ⊕ (Bool)) =>
      (match x10 with
      | .inl x11 => (
        some (.inl (w64 (x1 + 1))))
      | .inr x12 => (
        some (.inr (.inr x12))))
  else
    some (.inr (.inl x1))

def spec_StockOk (n : Nat) (a0 : List SIILIIIJ) : Option (Bool) :=
  bif (decide (((List.length a0 : Int)) > 12)) then
    some false
  else
    (iter n (spec_StockOk_L1 n a0) 0).bind fun (x13 : (Int) ⊕ (Bool)) =>
    (match x13 with
    | .inl x14 => (
      some true)
    | .inr x15 => (
      some x15))

def spec_ItemsOk_L1 (a0 : List SII) (x1 : Int) : Option ((Int) ⊕ ((Int) ⊕ (Bool))) :=
  bif (decide (x1 < ((List.length a0 : Int)))) then
    (show Option (Bool) from
      ((getI a0 x1)).bind fun (x2 : SII) =>
      (spec_l1In x2.1 1 50).bind fun (x3 : Bool) =>
      bif (!x3) then
        some true
      else
        ((getI a0 x1)).bind fun (x4 : SII) =>
        (spec_l1In x4.2 1 1000).bind fun (x5 : Bool) =>
        bif (!x5) then
          some true
        else
          bif (decide (x1 > 0)) then
            ((getI a0 (w64 (x1 - 1)))).bind fun (x6 : SII) =>
            ((getI a0 x1)).bind fun (x7 : SII) =>
            some (decide (x6.1 ≥ x7.1))
          else
            some false).bind fun (x8 : Bool) =>
    bif x8 then
      some (.inr (.inr false))
    else
      some (.inl (w64 (x1 + 1)))
  else
    some (.inr (.inl x1))

def spec_ItemsOk (n : Nat) (a0 : List SII) : Option (Bool) :=
  (iter n (spec_ItemsOk_L1 a0) 0).bind fun (x9 : (Int) ⊕ (Bool)) =>
  (match x9 with
  | .inl x10 => (
    some (decide (((List.length a0 : Int)) ≤ 6)))
  | .inr x11 => (
    some x11))

def spec_l11Sum_L1 (a0 : List SIII) (a1 : Int) (x1 : SII) : Option ((SII) ⊕ (SII)) :=
  bif (decide (x1.2 < ((List.length a0 : Int)))) then
    (show Option (Int) from
      ((getI a0 x1.2)).bind fun (x3 : SIII) =>
      bif (x3.2.1 == a1) then
        ((getI a0 x1.2)).bind fun (x4 : SIII) =>
        some (w64 (x1.1 + x4.2.2))
      else
        some x1.1).bind fun (x2 : Int) =>
    some (.inl (x2, (w64 (x1.2 + 1))))
  else
    some (.inr (x1.1, x1.2))

def spec_l11Sum (n : Nat) (a0 : List SIII) (a1 : Int) : Option (Int) :=
  (iter n (spec_l11Sum_L1 a0 a1) (0, 0)).bind fun (x5 : SII) =>
  some x5.1

def spec_l11Order_L1 (a0_2 : List SII) (x5 : SII) : Option ((SII) ⊕ (SII)) :=
  bif (decide (x5.2 < ((List.length a0_2 : Int)))) then
    ((getI a0_2 x5.2)).bind fun (x6 : SII) =>
    some (.inl ((w64 (x5.1 + x6.2)), (w64 (x5.2 + 1))))
  else
    some (.inr (x5.1, x5.2))

def spec_l11Order_L2 (a0_3 : List SIII) (x8 : SII) : Option ((SII) ⊕ ((SII) ⊕ (Bool))) :=
  bif (decide (x8.2 < ((List.length a0_3 : Int)))) then
    ((getI a0_3 x8.2)).bind fun (x9 : SIII) =>
    (show Option (Bool) from
      (spec_l1In x9.2.2 1 1000).bind fun (x10 : Bool) =>
      bif (!x10) then
        some true
      else
        (spec_l1In x9.1 1 999).bind fun (x11 : Bool) =>
        some (!x11)).bind fun (x12 : Bool) =>
    bif x12 then
      some (.inr (.inr false))
    else
      some (.inl ((w64 (x8.1 - x9.2.2)), (w64 (x8.2 + 1))))
  else
    some (.inr (.inl (x8.1, x8.2)))

def spec_l11Order_L3 (n : Nat) (a0_2 : List SII) (a0_3 : List SIII) (x16 : Int) : Option ((Int) ⊕ ((Int) ⊕ (Bool))) :=
  bif (decide (x16 < ((List.length a0_2 : Int)))) then
    ((getI a0_2 x16)).bind fun (x17 : SII) =>
    (spec_l11Sum n a0_3 x17.1).bind fun (x18 : Int) =>
    ((getI a0_2 x16)).bind fun (x19 : SII) =>
    bif (x18 != x19.2) then
      some (.inr (.inr false))
    else
      some (.inl (w64 (x16 + 1)))
  else
    some (.inr (.inl x16))

def spec_l11Order (n : Nat) (a0_0 : Int) (a0_1 : Int) (a0_2 : List SII) (a0_3 : List SIII) (a0_4 : Int) : Option (Bool) :=
  (show Option (Bool) from
    (spec_l1In a0_1 0 99).bind fun (x1 : Bool) =>
    bif (!x1) then
      some true
    else
      (spec_ItemsOk n a0_2).bind fun (x2 : Bool) =>
      bif (!x2) then
        some true
      else
        bif (((List.length a0_2 : Int)) == 0) then
          some true
        else
          (spec_l1In a0_4 1 3).bind fun (x3 : Bool) =>
          bif (!x3) then
            some true
          else
            some (decide (((List.length a0_3 : Int)) > 72))).bind fun (x4 : Bool) =>
  bif x4 then
    some false
  else
    (iter n (spec_l11Order_L1 a0_2) (0, 0)).bind fun (x7 : SII) =>
    (iter n (spec_l11Order_L2 a0_3) (x7.1, 0)).bind fun (x13 : (SII) ⊕ (Bool)) =>
    (match x13 with
    | .inl x14 => (
      (iter n (spec_l11Order_L3 n a0_2 a0_3) 0).bind fun (x20 : (Int) ⊕ (Bool)) =>
      (match x20 with
      | .inl x21 => (
        some (x14.1 == 0))
      | .inr x22 => (
        some x22)))
    | .inr x15 => (
      some x15))

def spec_BookOk_L1 (n : Nat) (a0_0 : Int) (a0_1 : List SIILIIJLIIIJI) (x3 : Int) : Option ((Int) ⊕ ((Int) ⊕ (Bool))) :=
  bif (decide (x3 < ((List.length a0_1 : Int)))) then
    (show Option (Bool) from
      ((getI a0_1 x3)).bind fun (x4 : SIILIIJLIIIJI) =>
      (spec_l11Order n x4.1 x4.2.1 x4.2.2.1 x4.2.2.2.1 x4.2.2.2.2).bind fun (x5 : Bool) =>
      bif (!x5) then
        some true
      else
        ((getI a0_1 x3)).bind fun (x6 : SIILIIJLIIIJI) =>
        (spec_l1In x6.1 1 (w64 (a0_0 - 1))).bind fun (x7 : Bool) =>
        bif (!x7) then
          some true
        else
          bif (decide (x3 > 0)) then
            ((getI a0_1 (w64 (x3 - 1)))).bind fun (x8 : SIILIIJLIIIJI) =>
            ((getI a0_1 x3)).bind fun (x9 : SIILIIJLIIIJI) =>
            some (decide (x8.1 ≥ x9.1))
          else
            some false).bind fun (x10 : Bool) =>
    bif x10 then
      some (.inr (.inr false))
    else
      some (.inl (w64 (x3 + 1)))
  else
    some (.inr (.inl x3))

def spec_BookOk (n : Nat) (a0_0 : Int) (a0_1 : List SIILIIJLIIIJI) : Option (Bool) :=
  (show Option (Bool) from
    (spec_l1In a0_0 1 1000000).bind fun (x1 : Bool) =>
    bif (!x1) then
      some true
    else
      some (decide (((List.length a0_1 : Int)) > 30))).bind fun (x2 : Bool) =>
  bif x2 then
    some false
  else
    (iter n (spec_BookOk_L1 n a0_0 a0_1) 0).bind fun (x11 : (Int) ⊕ (Bool)) =>
    (match x11 with
    | .inl x12 => (
      some true)
    | .inr x13 => (
      some x13))

def spec_l5Copy_L1 (a0 : List SIILIIIJ) (x1 : Int × (List SIILIIIJ)) : Option ((Int × (List SIILIIIJ)) ⊕ (Int × (List SIILIIIJ))) :=
  bif (decide (x1.1 < ((List.length a0 : Int)))) then
    ((getI a0 x1.1)).bind fun (x2 : SIILIIIJ) =>
    bif (decide (List.length ([] : List SIII) + List.length x2.2.2 ≤ maxRow)) then
      bif (decide (List.length x1.2 + List.length [(x2.1, x2.2.1, (([] : List SIII) ++ x2.2.2))] ≤ maxRow)) then
        some (.inl ((w64 (x1.1 + 1)), (x1.2 ++ [(x2.1, x2.2.1, (([] : List SIII) ++ x2.2.2))])))
      else
        none
    else
      none
  else
    some (.inr (x1.1, x1.2))

def spec_l5Copy (n : Nat) (a0 : List SIILIIIJ) : Option ((List SIILIIIJ)) :=
  (iter n (spec_l5Copy_L1 a0) (0, ([] : List SIILIIIJ))).bind fun (x3 : Int × (List SIILIIIJ)) =>
  some x3.2

def spec_l5Pod_L1 (a0 : List SIILIIIJ) (a1 : Int) (x1 : Int) : Option ((Int) ⊕ ((Int) ⊕ (Int))) :=
  bif (decide (x1 < ((List.length a0 : Int)))) then
    ((getI a0 x1)).bind fun (x2 : SIILIIIJ) =>
    bif (x2.1 == a1) then
      some (.inr (.inr x1))
    else
      some (.inl (w64 (x1 + 1)))
  else
    some (.inr (.inl x1))

def spec_l5Pod (n : Nat) (a0 : List SIILIIIJ) (a1 : Int) : Option (Int) :=
  (iter n (spec_l5Pod_L1 a0 a1) 0).bind fun (x3 : (Int) ⊕ (Int)) =>
  (match x3 with
  | .inl x4 => (
    some (-1))
  | .inr x5 => (
    some x5))

def spec_l5Stack_L1 (a0_2 : List SIII) (a1 : Int) (x1 : SIIII) : Option ((SIIII) ⊕ ((SIIII) ⊕ (SIII))) :=
  bif (decide (x1.1 < ((List.length a0_2 : Int)))) then
    ((getI a0_2 x1.1)).bind fun (x2 : SIII) =>
    bif (x2.1 == a1) then
      ((getI a0_2 x1.1)).bind fun (x3 : SIII) =>
      some (.inr (.inr (x3.1, x3.2.1, x3.2.2)))
    else
      some (.inl ((w64 (x1.1 + 1)), x1.2.1, x1.2.2.1, x1.2.2.2))
  else
    some (.inr (.inl (x1.1, x1.2.1, x1.2.2.1, x1.2.2.2)))

def spec_l5Stack (n : Nat) (a0_0 : Int) (a0_1 : Int) (a0_2 : List SIII) (a1 : Int) : Option (SIII) :=
  (iter n (spec_l5Stack_L1 a0_2 a1) (0, 0, 0, 0)).bind fun (x4 : (SIIII) ⊕ (SIII)) =>
  (match x4 with
  | .inl x5 => (
    some (a1, 0, 0))
  | .inr x6 => (
    some x6))

def spec_l5Call (n : Nat) (a0 : List SIILIIIJ) (a1 : Int) (a2 : Int) (a3 : Int) : Option (Int × Int × Int × Int × Int) :=
  (show Option (Bool) from
    (spec_StockOk n a0).bind fun (x1 : Bool) =>
    bif (!x1) then
      some true
    else
      (spec_l1In a2 1 50).bind fun (x2 : Bool) =>
      bif (!x2) then
        some true
      else
        (spec_l1In a3 1 1000).bind fun (x3 : Bool) =>
        some (!x3)).bind fun (x4 : Bool) =>
  bif x4 then
    some (0, 0, 0, 0, 1)
  else
    (spec_l5Pod n a0 a1).bind fun (x5 : Int) =>
    bif (decide (x5 < 0)) then
      some (0, 0, 0, 0, 2)
    else
      ((getI a0 x5)).bind fun (x6 : SIILIIIJ) =>
      (spec_l5Stack n x6.1 x6.2.1 x6.2.2 a2).bind fun (x7 : SIII) =>
      some (x5, x7.1, x7.2.1, x7.2.2, 0)

def spec_l5With_L1 (a0 : List SIII) (a1_0 : Int) (a1_1 : Int) (a1_2 : Int) (x1 : (List SIII) × Bool × Int) : Option (((List SIII) × Bool × Int) ⊕ ((List SIII) × Bool × Int)) :=
  bif (decide (x1.2.2 < ((List.length a0 : Int)))) then
    (show Option ((List SIII) × Bool) from
      (show Option ((List SIII) × Bool) from
        (show Option (Bool) from
          bif (!x1.2.1) then
            ((getI a0 x1.2.2)).bind fun (x4 : SIII) =>
            some (decide (x4.1 ≥ a1_0))
          else
            some false).bind fun (x5 : Bool) =>
        bif x5 then
          bif (decide (List.length x1.1 + List.length [(a1_0, a1_1, a1_2)] ≤ maxRow)) then
            some ((x1.1 ++ [(a1_0, a1_1, a1_2)]), true)
          else
            none
        else
          some (x1.1, x1.2.1)).bind fun (x3 : (List SIII) × Bool) =>
      ((getI a0 x1.2.2)).bind fun (x6 : SIII) =>
      bif (x6.1 != a1_0) then
        ((getI a0 x1.2.2)).bind fun (x7 : SIII) =>
        bif (decide (List.length x3.1 + List.length [(x7.1, x7.2.1, x7.2.2)] ≤ maxRow)) then
          some ((x3.1 ++ [(x7.1, x7.2.1, x7.2.2)]), x3.2)
        else
          none
      else
        some (x3.1, x3.2)).bind fun (x2 : (List SIII) × Bool) =>
    some (.inl (x2.1, x2.2, (w64 (x1.2.2 + 1))))
  else
    some (.inr (x1.1, x1.2.1, x1.2.2))

def spec_l5With (n : Nat) (a0 : List SIII) (a1_0 : Int) (a1_1 : Int) (a1_2 : Int) : Option ((List SIII)) :=
  (iter n (spec_l5With_L1 a0 a1_0 a1_1 a1_2) (([] : List SIII), (a1_1 == 0), 0)).bind fun (x8 : (List SIII) × Bool × Int) =>
  (show Option ((List SIII)) from
    bif (!x8.2.1) then
      bif (decide (List.length x8.1 + List.length [(a1_0, a1_1, a1_2)] ≤ maxRow)) then
        some (x8.1 ++ [(a1_0, a1_1, a1_2)])
      else
        none
    else
      some x8.1).bind fun (x9 : (List SIII)) =>
  some x9

def spec_l5Put (n : Nat) (a0 : List SIILIIIJ) (a1 : Int) (a2_0 : Int) (a2_1 : Int) (a2_2 : Int) : Option ((List SIILIIIJ)) :=
  (spec_l5Copy n a0).bind fun (x1 : (List SIILIIIJ)) =>
  bif (inb x1 a1) then
    ((x1[(Int.toNat a1)]?)).bind fun (x2 : SIILIIIJ) =>
    ((x1[(Int.toNat a1)]?)).bind fun (x3 : SIILIIIJ) =>
    (spec_l5With n x3.2.2 a2_0 a2_1 a2_2).bind fun (x4 : (List SIII)) =>
    bif (inb x1 a1) then
      some (List.modify x1 (Int.toNat a1) (fun (y : SIILIIIJ) => (y.1, y.2.1, x4)))
    else
      none
  else
    none

def spec_Hold (n : Nat) (a0 : List SIILIIIJ) (a1 : Int) (a2 : Int) (a3 : Int) : Option ((List SIILIIIJ) × Int) :=
  (spec_l5Call n a0 a1 a2 a3).bind fun (x1 : Int × Int × Int × Int × Int) =>
  bif (x1.2.2.2.2 != 0) then
    (spec_l5Copy n a0).bind fun (x2 : (List SIILIIIJ)) =>
    some (x2, x1.2.2.2.2)
  else
    bif (decide ((w64 (x1.2.2.1 - x1.2.2.2.1)) < a3)) then
      (spec_l5Copy n a0).bind fun (x3 : (List SIILIIIJ)) =>
      some (x3, 3)
    else
      (spec_l5Put n a0 x1.1 x1.2.1 x1.2.2.1 (w64 (x1.2.2.2.1 + a3))).bind fun (x4 : (List SIILIIIJ)) =>
      some (x4, 0)

def spec_Release (n : Nat) (a0 : List SIILIIIJ) (a1 : Int) (a2 : Int) (a3 : Int) : Option ((List SIILIIIJ) × Int) :=
  (spec_l5Call n a0 a1 a2 a3).bind fun (x1 : Int × Int × Int × Int × Int) =>
  bif (x1.2.2.2.2 != 0) then
    (spec_l5Copy n a0).bind fun (x2 : (List SIILIIIJ)) =>
    some (x2, x1.2.2.2.2)
  else
    bif (decide (x1.2.2.2.1 < a3)) then
      (spec_l5Copy n a0).bind fun (x3 : (List SIILIIIJ)) =>
      some (x3, 3)
    else
      (spec_l5Put n a0 x1.1 x1.2.1 x1.2.2.1 (w64 (x1.2.2.2.1 - a3))).bind fun (x4 : (List SIILIIIJ)) =>
      some (x4, 0)

def spec_TakeOut (n : Nat) (a0 : List SIILIIIJ) (a1 : Int) (a2 : Int) (a3 : Int) : Option ((List SIILIIIJ) × Int) :=
  (spec_l5Call n a0 a1 a2 a3).bind fun (x1 : Int × Int × Int × Int × Int) =>
  bif (x1.2.2.2.2 != 0) then
    (spec_l5Copy n a0).bind fun (x2 : (List SIILIIIJ)) =>
    some (x2, x1.2.2.2.2)
  else
    bif (decide (x1.2.2.2.1 < a3)) then
      (spec_l5Copy n a0).bind fun (x3 : (List SIILIIIJ)) =>
      some (x3, 3)
    else
      (spec_l5Put n a0 x1.1 x1.2.1 (w64 (x1.2.2.1 - a3)) (w64 (x1.2.2.2.1 - a3))).bind fun (x4 : (List SIILIIIJ)) =>
      some (x4, 0)

def spec_l6Each_L1 (n : Nat) (a0 : List SIILIIIJ) (a1 : List SIII) (a2 : Int) (x2 : Int × (List SIILIIIJ) × (List SIILIIIJ)) : Option ((Int × (List SIILIIIJ) × (List SIILIIIJ)) ⊕ ((Int × (List SIILIIIJ) × (List SIILIIIJ)) ⊕ ((List SIILIIIJ) × Bool))) :=
  bif (decide (x2.1 < ((List.length a1 : Int)))) then
    ((getI a1 x2.1)).bind fun (x3 : SIII) =>
    (show Option (Int × (List SIILIIIJ)) from
      bif (a2 == 1) then
        (spec_Hold n x2.2.2 x3.1 x3.2.1 x3.2.2).bind fun (x5 : (List SIILIIIJ) × Int) =>
        some (x5.2, x5.1)
      else
        bif (a2 == 2) then
          (spec_Release n x2.2.2 x3.1 x3.2.1 x3.2.2).bind fun (x6 : (List SIILIIIJ) × Int) =>
          some (x6.2, x6.1)
        else
          (spec_TakeOut n x2.2.2 x3.1 x3.2.1 x3.2.2).bind fun (x7 : (List SIILIIIJ) × Int) =>
          some (x7.2, x7.1)).bind fun (x4 : Int × (List SIILIIIJ)) =>
    bif (x4.1 != 0) then
      (spec_l5Copy n a0).bind fun (x8 : (List SIILIIIJ)) =>
      some (.inr (.inr (x8, false)))
    else
      some (.inl ((w64 (x2.1 + 1)), x2.2.1, x4.2))
  else
    some (.inr (.inl (x2.1, x2.2.1, x2.2.2)))

def spec_l6Each (n : Nat) (a0 : List SIILIIIJ) (a1 : List SIII) (a2 : Int) : Option ((List SIILIIIJ) × Bool) :=
  (spec_l5Copy n a0).bind fun (x1 : (List SIILIIIJ)) =>
  (iter n (spec_l6Each_L1 n a0 a1 a2) (0, ([] : List SIILIIIJ), x1)).bind fun (x9 : (Int × (List SIILIIIJ) × (List SIILIIIJ)) ⊕ ((List SIILIIIJ) × Bool)) =>
  (match x9 with
  | .inl x10 => (
    some (x10.2.2, true))
  | .inr x11 => (
    some x11))

def spec_ReleaseAll (n : Nat) (a0 : List SIILIIIJ) (a1 : List SIII) : Option ((List SIILIIIJ) × Bool) :=
  (spec_l6Each n a0 a1 2).bind fun (x1 : (List SIILIIIJ) × Bool) =>
  some (x1.1, x1.2)

def spec_Withdraw (n : Nat) (a0 : List SIILIIIJ) (a1_0 : Int) (a1_1 : List SIILIIJLIIIJI) (a2 : Int) : Option ((List SIILIIIJ) × Int × (List SIILIIJLIIIJI) × Bool) :=
  (spec_l11Copy n a1_0 a1_1).bind fun (x1 : SILIILIIJLIIIJIJ) =>
  (spec_l11Find n a1_0 a1_1 a2).bind fun (x2 : Int) =>
  (show Option (Bool) from
    (spec_StockOk n a0).bind fun (x3 : Bool) =>
    bif (!x3) then
      some true
    else
      (spec_BookOk n a1_0 a1_1).bind fun (x4 : Bool) =>
      bif (!x4) then
        some true
      else
        bif (decide (x2 < 0)) then
          some true
        else
          ((getI a1_1 x2)).bind fun (x5 : SIILIIJLIIIJI) =>
          some (x5.2.2.2.2 != 1)).bind fun (x6 : Bool) =>
  bif x6 then
    (spec_l5Copy n a0).bind fun (x7 : (List SIILIIIJ)) =>
    some (x7, x1.1, x1.2, false)
  else
    ((getI a1_1 x2)).bind fun (x8 : SIILIIJLIIIJI) =>
    (spec_ReleaseAll n a0 x8.2.2.2.1).bind fun (x9 : (List SIILIIIJ) × Bool) =>
    bif (!x9.2) then
      (spec_l5Copy n a0).bind fun (x10 : (List SIILIIIJ)) =>
      some (x10, x1.1, x1.2, false)
    else
      bif (inb x1.2 x2) then
        some (x9.1, x1.1, (List.modify x1.2 (Int.toNat x2) (fun (y : SIILIIJLIIIJI) => (y.1, y.2.1, y.2.2.1, y.2.2.2.1, 3))), true)
      else
        none

def spec_Finish (n : Nat) (a0_0 : Int) (a0_1 : List SIILIIJLIIIJI) (a1 : Int) : Option (Int × (List SIILIIJLIIIJI) × Bool) :=
  (spec_l11Copy n a0_0 a0_1).bind fun (x1 : SILIILIIJLIIIJIJ) =>
  (spec_l11Find n a0_0 a0_1 a1).bind fun (x2 : Int) =>
  (show Option (Bool) from
    (spec_BookOk n a0_0 a0_1).bind fun (x3 : Bool) =>
    bif (!x3) then
      some true
    else
      bif (decide (x2 < 0)) then
        some true
      else
        ((getI a0_1 x2)).bind fun (x4 : SIILIIJLIIIJI) =>
        some (x4.2.2.2.2 != 1)).bind fun (x5 : Bool) =>
  bif x5 then
    some (x1.1, x1.2, false)
  else
    bif (inb x1.2 x2) then
      some (x1.1, (List.modify x1.2 (Int.toNat x2) (fun (y : SIILIIJLIIIJI) => (y.1, y.2.1, y.2.2.1, y.2.2.2.1, 2))), true)
    else
      none

def spec_l6Items_L1 (x1 : (List SII) × Int × (List Int) × Int × Int) : Option (((List SII) × Int × (List Int) × Int × Int) ⊕ ((List SII) × Int × (List Int) × Int × Int)) :=
  bif (decide (x1.2.1 < 6)) then
    (show Option ((List SII) × (List Int) × Int × Int) from
      (spec_l1Once x1.2.2.1 x1.2.2.2.1 x1.2.2.2.2 4).bind fun (x3 : Bool × (List Int) × Int × Int) =>
      bif x3.1 then
        (spec_l1Int x3.2.1 x3.2.2.1 x3.2.2.2 ([1, 1, 1, 2, 3, 9])).bind fun (x4 : Int × (List Int) × Int × Int) =>
        bif (decide (List.length x1.1 + List.length [(x1.2.1, x4.1)] ≤ maxRow)) then
          some ((x1.1 ++ [(x1.2.1, x4.1)]), x4.2.1, x4.2.2.1, x4.2.2.2)
        else
          none
      else
        some (x1.1, x3.2.1, x3.2.2.1, x3.2.2.2)).bind fun (x2 : (List SII) × (List Int) × Int × Int) =>
    some (.inl (x2.1, (w64 (x1.2.1 + 1)), x2.2.1, x2.2.2.1, x2.2.2.2))
  else
    some (.inr (x1.1, x1.2.1, x1.2.2.1, x1.2.2.2.1, x1.2.2.2.2))

def spec_l6Items (n : Nat) (a0_0 : List Int) (a0_1 : Int) (a0_2 : Int) : Option ((List SII) × (List Int) × Int × Int) :=
  (iter n (spec_l6Items_L1) (([] : List SII), 1, a0_0, a0_1, a0_2)).bind fun (x5 : (List SII) × Int × (List Int) × Int × Int) =>
  some (x5.1, x5.2.2.1, x5.2.2.2.1, x5.2.2.2.2)

def spec_l6Could_L1 (n : Nat) (a0_0 : Int) (a0_1 : Int) (a0_2 : List SIII) (a1 : List SII) (x1 : (List SIII) × Int × Int) : Option (((List SIII) × Int × Int) ⊕ ((List SIII) × Int × Int)) :=
  bif (decide (x1.2.2 < ((List.length a1 : Int)))) then
    (show Option ((List SIII) × Int) from
      ((getI a1 x1.2.2)).bind fun (x3 : SII) =>
      (spec_l5Stack n a0_0 a0_1 a0_2 x3.1).bind fun (x4 : SIII) =>
      (show Option (Int) from
        ((getI a1 x1.2.2)).bind fun (x6 : SII) =>
        bif (decide (x6.2 < (w64 (x4.2.1 - x4.2.2)))) then
          ((getI a1 x1.2.2)).bind fun (x7 : SII) =>
          some x7.2
        else
          some (w64 (x4.2.1 - x4.2.2))).bind fun (x5 : Int) =>
      bif (decide (x5 > 0)) then
        ((getI a1 x1.2.2)).bind fun (x8 : SII) =>
        bif (decide (List.length x1.1 + List.length [(a0_0, x8.1, x5)] ≤ maxRow)) then
          some ((x1.1 ++ [(a0_0, x8.1, x5)]), (w64 (x1.2.1 + x5)))
        else
          none
      else
        some (x1.1, x1.2.1)).bind fun (x2 : (List SIII) × Int) =>
    some (.inl (x2.1, x2.2, (w64 (x1.2.2 + 1))))
  else
    some (.inr (x1.1, x1.2.1, x1.2.2))

def spec_l6Could (n : Nat) (a0_0 : Int) (a0_1 : Int) (a0_2 : List SIII) (a1 : List SII) : Option ((List SIII) × Int) :=
  (iter n (spec_l6Could_L1 n a0_0 a0_1 a0_2 a1) (([] : List SIII), 0, 0)).bind fun (x9 : (List SIII) × Int × Int) =>
  some (x9.1, x9.2.1)

def spec_Picks_L2 (x4 : (List SIII) × Bool × (List SIII) × (List SIII) × (List SII) × (List Bool)) (x5 : SII) : Option ((SII) ⊕ (SII)) :=
  bif (decide (x5.2 < ((List.length x4.2.2.2.2.1 : Int)))) then
    bif (inb x4.2.2.2.2.1 x5.2) then
      ((x4.2.2.2.2.1[(Int.toNat x5.2)]?)).bind fun (x6 : SII) =>
      some (.inl ((w64 (x5.1 + x6.2)), (w64 (x5.2 + 1))))
    else
      none
  else
    some (.inr (x5.1, x5.2))

def spec_Picks_L3 (n : Nat) (a0 : List SIILIIIJ) (x4 : (List SIII) × Bool × (List SIII) × (List SIII) × (List SII) × (List Bool)) (x8 : SIII) : Option ((SIII) ⊕ (SIII)) :=
  bif (decide (x8.2.2 < ((List.length a0 : Int)))) then
    (show Option (SII) from
      ((getI a0 x8.2.2)).bind fun (x10 : SIILIIIJ) =>
      (spec_l6Could n x10.1 x10.2.1 x10.2.2 x4.2.2.2.2.1).bind fun (x11 : (List SIII) × Int) =>
      (show Option (Bool) from
        bif (inb x4.2.2.2.2.2 x8.2.2) then
          ((x4.2.2.2.2.2[(Int.toNat x8.2.2)]?)).bind fun (x12 : Bool) =>
          bif (!x12) then
            some (decide (x11.2 > x8.2.1))
          else
            some false
        else
          none).bind fun (x13 : Bool) =>
      bif x13 then
        some (x8.2.2, x11.2)
      else
        some (x8.1, x8.2.1)).bind fun (x9 : SII) =>
    some (.inl (x9.1, x9.2, (w64 (x8.2.2 + 1))))
  else
    some (.inr (x8.1, x8.2.1, x8.2.2))

def spec_Picks_L5 (x16 : (List SIII) × Int) (x17 : Int × (List SII)) (x18 : Int × (List SII)) : Option ((Int × (List SII)) ⊕ (Int × (List SII))) :=
  bif (decide (x18.1 < ((List.length x18.2 : Int)))) then
    (show Option ((List SII)) from
      bif (inb x18.2 x18.1) then
        ((x18.2[(Int.toNat x18.1)]?)).bind fun (x20 : SII) =>
        bif (inb x16.1 x17.1) then
          ((x16.1[(Int.toNat x17.1)]?)).bind fun (x21 : SIII) =>
          bif (x20.1 == x21.2.1) then
            bif (inb x18.2 x18.1) then
              ((x18.2[(Int.toNat x18.1)]?)).bind fun (x22 : SII) =>
              bif (inb x16.1 x17.1) then
                ((x16.1[(Int.toNat x17.1)]?)).bind fun (x23 : SIII) =>
                bif (inb x18.2 x18.1) then
                  some (List.modify x18.2 (Int.toNat x18.1) (fun (y : SII) => (y.1, (w64 (x22.2 - x23.2.2)))))
                else
                  none
              else
                none
            else
              none
          else
            some x18.2
        else
          none
      else
        none).bind fun (x19 : (List SII)) =>
    some (.inl ((w64 (x18.1 + 1)), x19))
  else
    some (.inr (x18.1, x18.2))

def spec_Picks_L4 (n : Nat) (x16 : (List SIII) × Int) (x17 : Int × (List SII)) : Option ((Int × (List SII)) ⊕ (Int × (List SII))) :=
  bif (decide (x17.1 < ((List.length x16.1 : Int)))) then
    (iter n (spec_Picks_L5 x16 x17) (0, x17.2)).bind fun (x24 : Int × (List SII)) =>
    some (.inl ((w64 (x17.1 + 1)), x24.2))
  else
    some (.inr (x17.1, x17.2))

def spec_Picks_L1 (n : Nat) (a0 : List SIILIIIJ) (x4 : (List SIII) × Bool × (List SIII) × (List SIII) × (List SII) × (List Bool)) : Option (((List SIII) × Bool × (List SIII) × (List SIII) × (List SII) × (List Bool)) ⊕ (((List SIII) × Bool × (List SIII) × (List SIII) × (List SII) × (List Bool)) ⊕ ((List SIII) × Bool))) :=
  (iter n (spec_Picks_L2 x4) (0, 0)).bind fun (x7 : SII) =>
  bif (x7.1 == 0) then
    some (.inr (.inr (x4.2.2.1, true)))
  else
    (iter n (spec_Picks_L3 n a0 x4) ((-1), 0, 0)).bind fun (x14 : SIII) =>
    bif (decide (x14.1 < 0)) then
      some (.inr (.inr (x4.2.2.2.1, false)))
    else
      bif (inb x4.2.2.2.2.2 x14.1) then
        ((getI a0 x14.1)).bind fun (x15 : SIILIIIJ) =>
        (spec_l6Could n x15.1 x15.2.1 x15.2.2 x4.2.2.2.2.1).bind fun (x16 : (List SIII) × Int) =>
        bif (decide (List.length x4.2.2.1 + List.length x16.1 ≤ maxRow)) then
          (iter n (spec_Picks_L4 n x16) (0, x4.2.2.2.2.1)).bind fun (x25 : Int × (List SII)) =>
          some (.inl (x4.1, x4.2.1, (x4.2.2.1 ++ x16.1), x4.2.2.2.1, x25.2, (upd x4.2.2.2.2.2 (Int.toNat x14.1) true)))
        else
          none
      else
        none

def spec_Picks (n : Nat) (a0 : List SIILIIIJ) (a1 : List SII) : Option ((List SIII) × Bool) :=
  (show Option (Bool) from
    (spec_StockOk n a0).bind fun (x1 : Bool) =>
    bif (!x1) then
      some true
    else
      (spec_ItemsOk n a1).bind fun (x2 : Bool) =>
      some (!x2)).bind fun (x3 : Bool) =>
  bif x3 then
    some (([] : List SIII), false)
  else
    bif (decide (List.length ([] : List SII) + List.length a1 ≤ maxRow)) then
      bif (decide (0 ≤ ((List.length a0 : Int))) && decide (((List.length a0 : Int)) ≤ (maxRow : Int)) && decide (((List.length a0 : Int)) = ((List.length a0 : Int)))) then
        (iter n (spec_Picks_L1 n a0) (([] : List SIII), false, ([] : List SIII), ([] : List SIII), (([] : List SII) ++ a1), (List.replicate (Int.toNat ((List.length a0 : Int))) (false : Bool)))).bind fun (x26 : ((List SIII) × Bool × (List SIII) × (List SIII) × (List SII) × (List Bool)) ⊕ ((List SIII) × Bool)) =>
        (match x26 with
        | .inl x27 => (
          some (x27.1, x27.2.1))
        | .inr x28 => (
          some x28))
      else
        none
    else
      none

def spec_HoldAll (n : Nat) (a0 : List SIILIIIJ) (a1 : List SIII) : Option ((List SIILIIIJ) × Bool) :=
  (spec_l6Each n a0 a1 1).bind fun (x1 : (List SIILIIIJ) × Bool) =>
  some (x1.1, x1.2)

def spec_Accept (n : Nat) (a0 : List SIILIIIJ) (a1_0 : Int) (a1_1 : List SIILIIJLIIIJI) (a2 : Int) (a3 : List SII) : Option ((List SIILIIIJ) × Int × (List SIILIIJLIIIJI) × Int) :=
  (spec_l11Copy n a1_0 a1_1).bind fun (x1 : SILIILIIJLIIIJIJ) =>
  (show Option (Bool) from
    (spec_StockOk n a0).bind fun (x2 : Bool) =>
    bif (!x2) then
      some true
    else
      (spec_BookOk n a1_0 a1_1).bind fun (x3 : Bool) =>
      bif (!x3) then
        some true
      else
        (spec_l1In a2 0 99).bind fun (x4 : Bool) =>
        bif (!x4) then
          some true
        else
          bif (((List.length a3 : Int)) == 0) then
            some true
          else
            bif (((List.length a1_1 : Int)) == 30) then
              some true
            else
              some (a1_0 == 1000000)).bind fun (x5 : Bool) =>
  bif x5 then
    (spec_l5Copy n a0).bind fun (x6 : (List SIILIIIJ)) =>
    some (x6, x1.1, x1.2, 0)
  else
    (spec_Picks n a0 a3).bind fun (x7 : (List SIII) × Bool) =>
    bif (!x7.2) then
      (spec_l5Copy n a0).bind fun (x8 : (List SIILIIIJ)) =>
      some (x8, x1.1, x1.2, 0)
    else
      (spec_HoldAll n a0 x7.1).bind fun (x9 : (List SIILIIIJ) × Bool) =>
      bif (decide (List.length ([] : List SII) + List.length a3 ≤ maxRow)) then
        bif (decide (List.length x1.2 + List.length [(a1_0, a2, (([] : List SII) ++ a3), x7.1, 1)] ≤ maxRow)) then
          some (x9.1, (w64 (a1_0 + 1)), (x1.2 ++ [(a1_0, a2, (([] : List SII) ++ a3), x7.1, 1)]), a1_0)
        else
          none
      else
        none

def spec_l11Draw_L1 (n : Nat) (x4 : Int × (List Int) × Int × Int × (List SIILIIIJ) × Int × (List SIILIIJLIIIJI)) : Option ((Int × (List Int) × Int × Int × (List SIILIIIJ) × Int × (List SIILIIJLIIIJI)) ⊕ (Int × (List Int) × Int × Int × (List SIILIIIJ) × Int × (List SIILIIJLIIIJI))) :=
  bif (decide (x4.1 > 0)) then
    (show Option ((List Int) × Int × Int × (List SIILIIIJ) × Int × (List SIILIIJLIIIJI)) from
      (spec_l1Below x4.2.1 x4.2.2.1 x4.2.2.2.1 5).bind fun (x6 : Int × (List Int) × Int × Int) =>
      bif (x6.1 == 0) then
        (spec_l1Below x6.2.1 x6.2.2.1 x6.2.2.2 6).bind fun (x7 : Int × (List Int) × Int × Int) =>
        (spec_Withdraw n x4.2.2.2.2.1 x4.2.2.2.2.2.1 x4.2.2.2.2.2.2 x7.1).bind fun (x8 : (List SIILIIIJ) × Int × (List SIILIIJLIIIJI) × Bool) =>
        some (x7.2.1, x7.2.2.1, x7.2.2.2, x8.1, x8.2.1, x8.2.2.1)
      else
        bif (x6.1 == 1) then
          (spec_l1Below x6.2.1 x6.2.2.1 x6.2.2.2 6).bind fun (x9 : Int × (List Int) × Int × Int) =>
          (spec_Finish n x4.2.2.2.2.2.1 x4.2.2.2.2.2.2 x9.1).bind fun (x10 : Int × (List SIILIIJLIIIJI) × Bool) =>
          some (x9.2.1, x9.2.2.1, x9.2.2.2, x4.2.2.2.2.1, x10.1, x10.2.1)
        else
          (spec_l1Below x6.2.1 x6.2.2.1 x6.2.2.2 30).bind fun (x11 : Int × (List Int) × Int × Int) =>
          (spec_l6Items n x11.2.1 x11.2.2.1 x11.2.2.2).bind fun (x12 : (List SII) × (List Int) × Int × Int) =>
          (spec_Accept n x4.2.2.2.2.1 x4.2.2.2.2.2.1 x4.2.2.2.2.2.2 x11.1 x12.1).bind fun (x13 : (List SIILIIIJ) × Int × (List SIILIIJLIIIJI) × Int) =>
          some (x12.2.1, x12.2.2.1, x12.2.2.2, x13.1, x13.2.1, x13.2.2.1)).bind fun (x5 : (List Int) × Int × Int × (List SIILIIIJ) × Int × (List SIILIIJLIIIJI)) =>
    some (.inl ((w64 (x4.1 - 1)), x5.1, x5.2.1, x5.2.2.1, x5.2.2.2.1, x5.2.2.2.2.1, x5.2.2.2.2.2))
  else
    some (.inr (x4.1, x4.2.1, x4.2.2.1, x4.2.2.2.1, x4.2.2.2.2.1, x4.2.2.2.2.2.1, x4.2.2.2.2.2.2))

def spec_l11Draw (n : Nat) (a0_0 : List Int) (a0_1 : Int) (a0_2 : Int) (a1 : Int) : Option ((List SIILIIIJ) × Int × (List SIILIIJLIIIJI) × (List Int) × Int × Int) :=
  (spec_l5Draw n a0_0 a0_1 a0_2).bind fun (x1 : (List SIILIIIJ) × (List Int) × Int × Int) =>
  (spec_l1Below x1.2.1 x1.2.2.1 x1.2.2.2 3).bind fun (x2 : Int × (List Int) × Int × Int) =>
  (spec_l1Below x2.2.1 x2.2.2.1 x2.2.2.2 a1).bind fun (x3 : Int × (List Int) × Int × Int) =>
  (iter n (spec_l11Draw_L1 n) (x3.1, x3.2.1, x3.2.2.1, x3.2.2.2, x1.1, (w64 (1 + x2.1)), ([] : List SIILIIJLIIIJI))).bind fun (x14 : Int × (List Int) × Int × Int × (List SIILIIIJ) × Int × (List SIILIIJLIIIJI)) =>
  some (x14.2.2.2.2.1, x14.2.2.2.2.2.1, x14.2.2.2.2.2.2, x14.2.1, x14.2.2.1, x14.2.2.2.1)

def spec_DrawTasksOf (n : Nat) (a0 : List Int) : Option (SIILIIJLIIIJI) :=
  (spec_l1New n a0).bind fun (x1 : SLIJII) =>
  (spec_l11Draw n x1.1 x1.2.1 x1.2.2 6).bind fun (x2 : (List SIILIIIJ) × Int × (List SIILIIJLIIIJI) × (List Int) × Int × Int) =>
  bif (((List.length x2.2.2.1 : Int)) == 0) then
    some (3, 0, ([] : List SII), [(5, 1, 1)], 0)
  else
    (spec_l1Below x2.2.2.2.1 x2.2.2.2.2.1 x2.2.2.2.2.2 ((List.length x2.2.2.1 : Int))).bind fun (x3 : Int × (List Int) × Int × Int) =>
    bif (inb x2.2.2.1 x3.1) then
      ((x2.2.2.1[(Int.toNat x3.1)]?)).bind fun (x4 : SIILIIJLIIIJI) =>
      ((x2.2.2.1[(Int.toNat x3.1)]?)).bind fun (x5 : SIILIIJLIIIJI) =>
      ((x2.2.2.1[(Int.toNat x3.1)]?)).bind fun (x6 : SIILIIJLIIIJI) =>
      some (x4.1, x4.2.1, x5.2.2.1, x6.2.2.2.1, x4.2.2.2.2)
    else
      none

def impl_hasInt_L1 (a0 : List Int) (a1 : Int) (x1 : Int) : Option ((Int) ⊕ ((Int) ⊕ (Bool))) :=
  bif (decide (x1 < ((List.length a0 : Int)))) then
    ((getI a0 x1)).bind fun (x2 : Int) =>
    bif (x2 == a1) then
      some (.inr (.inr true))
    else
      some (.inl (w64 (x1 + 1)))
  else
    some (.inr (.inl x1))

def impl_hasInt (n : Nat) (a0 : List Int) (a1 : Int) : Option (Bool) :=
  (iter n (impl_hasInt_L1 a0 a1) 0).bind fun (x3 : (Int) ⊕ (Bool)) =>
  (match x3 with
  | .inl x4 => (
    some false)
  | .inr x5 => (
    some x5))

def impl_PodsOf_L1 (n : Nat) (a0 : List SIII) (x1 : (List Int) × Int) : Option (((List Int) × Int) ⊕ ((List Int) × Int)) :=
  bif (decide (x1.2 < ((List.length a0 : Int)))) then
    (show Option ((List Int)) from
      ((getI a0 x1.2)).bind fun (x3 : SIII) =>
      (impl_hasInt n x1.1 x3.1).bind fun (x4 : Bool) =>
      bif (!x4) then
        bif (decide (List.length x1.1 + List.length [x3.1] ≤ maxRow)) then
          some (x1.1 ++ [x3.1])
        else
          none
      else
        some x1.1).bind fun (x2 : (List Int)) =>
    some (.inl (x2, (w64 (x1.2 + 1))))
  else
    some (.inr (x1.1, x1.2))

def impl_PodsOf (n : Nat) (a0 : List SIII) : Option ((List Int)) :=
  (iter n (impl_PodsOf_L1 n a0) (([] : List Int), 0)).bind fun (x5 : (List Int) × Int) =>
  some x5.1

def impl_TasksOf_L1 (a0_0 : Int) (x1 : (List Int)) (x2 : (List SIIII) × Int) : Option (((List SIIII) × Int) ⊕ ((List SIIII) × Int)) :=
  bif (decide (x2.2 < ((List.length x1 : Int)))) then
    bif (inb x1 x2.2) then
      ((x1[(Int.toNat x2.2)]?)).bind fun (x3 : Int) =>
      bif (decide (List.length x2.1 + List.length [(a0_0, x3, 0, 1)] ≤ maxRow)) then
        some (.inl ((x2.1 ++ [(a0_0, x3, 0, 1)]), (w64 (x2.2 + 1))))
      else
        none
    else
      none
  else
    some (.inr (x2.1, x2.2))

def impl_TasksOf (n : Nat) (a0_0 : Int) (a0_1 : Int) (a0_2 : List SII) (a0_3 : List SIII) (a0_4 : Int) : Option ((List SIIII)) :=
  (impl_PodsOf n a0_3).bind fun (x1 : (List Int)) =>
  (iter n (impl_TasksOf_L1 a0_0 x1) (([] : List SIIII), 0)).bind fun (x4 : (List SIIII) × Int) =>
  some x4.1

def impl_PicksOf_L1 (a0_3 : List SIII) (a1 : Int) (x1 : (List SIII) × Int) : Option (((List SIII) × Int) ⊕ ((List SIII) × Int)) :=
  bif (decide (x1.2 < ((List.length a0_3 : Int)))) then
    (show Option ((List SIII)) from
      ((getI a0_3 x1.2)).bind fun (x3 : SIII) =>
      bif (x3.1 == a1) then
        bif (decide (List.length x1.1 + List.length [(x3.1, x3.2.1, x3.2.2)] ≤ maxRow)) then
          some (x1.1 ++ [(x3.1, x3.2.1, x3.2.2)])
        else
          none
      else
        some x1.1).bind fun (x2 : (List SIII)) =>
    some (.inl (x2, (w64 (x1.2 + 1))))
  else
    some (.inr (x1.1, x1.2))

def impl_PicksOf (n : Nat) (a0_0 : Int) (a0_1 : Int) (a0_2 : List SII) (a0_3 : List SIII) (a0_4 : Int) (a1 : Int) : Option ((List SIII)) :=
  (iter n (impl_PicksOf_L1 a0_3 a1) (([] : List SIII), 0)).bind fun (x4 : (List SIII) × Int) =>
  some x4.1

def laws_FnTasks_L2 (x3 : (List SIIII)) (x4 : SII) (x6 : (List SIII)) (x7 : Int) : Option ((Int) ⊕ ((Int) ⊕ (Bool))) :=
  bif (decide (x7 < ((List.length x6 : Int)))) then
    bif (inb x6 x7) then
      ((x6[(Int.toNat x7)]?)).bind fun (x8 : SIII) =>
      bif (inb x3 x4.2) then
        ((x3[(Int.toNat x4.2)]?)).bind fun (x9 : SIIII) =>
        bif (x8.1 != x9.2.1) then
          some (.inr (.inr false))
        else
          some (.inl (w64 (x7 + 1)))
      else
        none
    else
      none
  else
    some (.inr (.inl x7))

def laws_FnTasks_L1 (n : Nat) (x2 : SIILIIJLIIIJI) (x3 : (List SIIII)) (x4 : SII) : Option ((SII) ⊕ ((SII) ⊕ (Bool))) :=
  bif (decide (x4.2 < ((List.length x3 : Int)))) then
    bif (inb x3 x4.2) then
      ((x3[(Int.toNat x4.2)]?)).bind fun (x5 : SIIII) =>
      (impl_PicksOf n x2.1 x2.2.1 x2.2.2.1 x2.2.2.2.1 x2.2.2.2.2 x5.2.1).bind fun (x6 : (List SIII)) =>
      (iter n (laws_FnTasks_L2 x3 x4 x6) 0).bind fun (x10 : (Int) ⊕ (Bool)) =>
      (match x10 with
      | .inl x11 => (
        (show Option (Bool) from
          bif (((List.length x6 : Int)) == 0) then
            some true
          else
            bif (inb x3 x4.2) then
              ((x3[(Int.toNat x4.2)]?)).bind fun (x13 : SIIII) =>
              bif (x13.1 != x2.1) then
                some true
              else
                bif (inb x3 x4.2) then
                  ((x3[(Int.toNat x4.2)]?)).bind fun (x14 : SIIII) =>
                  bif (x14.2.2.2 != 1) then
                    some true
                  else
                    bif (inb x3 x4.2) then
                      ((x3[(Int.toNat x4.2)]?)).bind fun (x15 : SIIII) =>
                      some (x15.2.2.1 != 0)
                    else
                      none
                else
                  none
            else
              none).bind fun (x16 : Bool) =>
        bif x16 then
          some (.inr (.inr false))
        else
          some (.inl ((w64 (x4.1 + ((List.length x6 : Int)))), (w64 (x4.2 + 1)))))
      | .inr x12 => (
        some (.inr (.inr x12))))
    else
      none
  else
    some (.inr (.inl (x4.1, x4.2)))

def laws_FnTasks (n : Nat) (a0 : List Int) : Option (Bool) :=
  (laws_big a0).bind fun (x1 : Bool) =>
  bif x1 then
    some true
  else
    (spec_DrawTasksOf n a0).bind fun (x2 : SIILIIJLIIIJI) =>
    (impl_TasksOf n x2.1 x2.2.1 x2.2.2.1 x2.2.2.2.1 x2.2.2.2.2).bind fun (x3 : (List SIIII)) =>
    (iter n (laws_FnTasks_L1 n x2 x3) (0, 0)).bind fun (x17 : (SII) ⊕ (Bool)) =>
    (match x17 with
    | .inl x18 => (
      (show Option (Bool) from
        bif (x18.1 == ((List.length x2.2.2.2.1 : Int))) then
          (impl_PodsOf n x2.2.2.2.1).bind fun (x20 : (List Int)) =>
          some (((List.length x3 : Int)) == ((List.length x20 : Int)))
        else
          some false).bind fun (x21 : Bool) =>
      some x21)
    | .inr x19 => (
      some x19))

end Go.Ev.N
