/- The native forms of the functions, as gen.py prints them. Conditions: none. -/
import Derived.Test.YtpanenmecamlnaaLib5
namespace Go.Ev.N
open Go Go.Ev
set_option linter.unusedVariables false

def w64 (n : Int) : Int := IntKind.wrap .i64 n

abbrev STI := (List UInt8) × Int

abbrev SII := Int × Int

abbrev SIII := Int × Int × Int

abbrev SIIBI := Int × Int × Bool × Int

abbrev SIIII := Int × Int × Int × Int

abbrev SIIIBI := Int × Int × Int × Bool × Int

abbrev SIILIJ := Int × Int × (List Int)

abbrev SIILIIIJ := Int × Int × (List SIII)

abbrev SLIJII := (List Int) × Int × Int

abbrev SIILIIJLIIIJI := Int × Int × (List SII) × (List SIII) × Int

abbrev SIILIJLIIIBIJLIJ := Int × Int × (List Int) × (List SIIIBI) × (List Int)

abbrev SILIILIIJLIIIJIJ := Int × (List SIILIIJLIIIJI)

abbrev SIILIJLIIIBIJLLIJJLIJ := Int × Int × (List Int) × (List SIIIBI) × (List ((List Int))) × (List Int)

abbrev SIILIJLIILIIIJJILIILIIJLIIIJIJLIIIBIJLIIIIJLIJLIJI := Int × Int × (List Int) × (List SIILIIIJ) × Int × (List SIILIIJLIIIJI) × (List SIIIBI) × (List SIIII) × (List Int) × (List Int) × Int

def laws_szIntS (a0 : List Int) (a1 : Int) : Option (Int) :=
  bif (decide ((w64 (a1 - ((List.length a0 : Int)))) < 0)) then
    some (-1)
  else
    some (w64 (a1 - ((List.length a0 : Int))))

def laws_szFloor (a0_0 : Int) (a0_1 : Int) (a0_2 : List Int) (a1 : Int) : Option (Int) :=
  (laws_szIntS a0_2 a1).bind fun (x1 : Int) =>
  bif (decide (x1 < 0)) then
    some (-1)
  else
    some x1

def laws_szRobotS (a0 : List SIIIBI) (a1 : Int) : Option (Int) :=
  bif (decide ((w64 (a1 - ((List.length a0 : Int)))) < 0)) then
    some (-1)
  else
    some (w64 (a1 - ((List.length a0 : Int))))

def laws_toIntS_L1 (a0 : List Int) (x1 : Int × (List Int)) : Option ((Int × (List Int)) ⊕ (Int × (List Int))) :=
  bif (decide (x1.1 < ((List.length a0 : Int)))) then
    ((getI a0 x1.1)).bind fun (x2 : Int) =>
    bif (inb x1.2 x1.1) then
      some (.inl ((w64 (x1.1 + 1)), (upd x1.2 (Int.toNat x1.1) x2)))
    else
      none
  else
    some (.inr (x1.1, x1.2))

def laws_toIntS (n : Nat) (a0 : List Int) : Option ((List Int)) :=
  bif (decide (0 ≤ ((List.length a0 : Int))) && decide (((List.length a0 : Int)) ≤ (maxRow : Int)) && decide (((List.length a0 : Int)) = ((List.length a0 : Int)))) then
    (iter n (laws_toIntS_L1 a0) (0, (List.replicate (Int.toNat ((List.length a0 : Int))) (0 : Int)))).bind fun (x3 : Int × (List Int)) =>
    some x3.2
  else
    none

def laws_toFloor (n : Nat) (a0_0 : Int) (a0_1 : Int) (a0_2 : List Int) : Option (SIILIJ) :=
  (laws_toIntS n a0_2).bind fun (x1 : (List Int)) =>
  some (a0_0, a0_1, x1)

def laws_toRobot (a0_0 : Int) (a0_1 : Int) (a0_2 : Int) (a0_3 : Bool) (a0_4 : Int) : Option (SIIIBI) :=
  some (a0_0, a0_1, a0_2, a0_3, a0_4)

def laws_toRobotS_L1 (a0 : List SIIIBI) (x1 : Int × (List SIIIBI)) : Option ((Int × (List SIIIBI)) ⊕ (Int × (List SIIIBI))) :=
  bif (decide (x1.1 < ((List.length a0 : Int)))) then
    ((getI a0 x1.1)).bind fun (x2 : SIIIBI) =>
    (laws_toRobot x2.1 x2.2.1 x2.2.2.1 x2.2.2.2.1 x2.2.2.2.2).bind fun (x3 : SIIIBI) =>
    bif (inb x1.2 x1.1) then
      some (.inl ((w64 (x1.1 + 1)), (upd x1.2 (Int.toNat x1.1) (x3.1, x3.2.1, x3.2.2.1, x3.2.2.2.1, x3.2.2.2.2))))
    else
      none
  else
    some (.inr (x1.1, x1.2))

def laws_toRobotS (n : Nat) (a0 : List SIIIBI) : Option ((List SIIIBI)) :=
  bif (decide (0 ≤ ((List.length a0 : Int))) && decide (((List.length a0 : Int)) ≤ (maxRow : Int)) && decide (((List.length a0 : Int)) = ((List.length a0 : Int)))) then
    (iter n (laws_toRobotS_L1 a0) (0, (List.replicate (Int.toNat ((List.length a0 : Int))) ((0, 0, 0, false, 0) : SIIIBI)))).bind fun (x4 : Int × (List SIIIBI)) =>
    some x4.2
  else
    none

def spec_l9There (a0_0 : Int) (a0_1 : Int) (a0_2 : Int) (a0_3 : Bool) (a0_4 : Int) : Option (Bool) :=
  (show Option (Bool) from
    bif (a0_2 == (-1)) then
      some true
    else
      some (a0_1 == a0_2)).bind fun (x1 : Bool) =>
  some x1

def spec_l1In (a0 : Int) (a1 : Int) (a2 : Int) : Option (Bool) :=
  (show Option (Bool) from
    bif (decide (a0 ≥ a1)) then
      some (decide (a0 ≤ a2))
    else
      some false).bind fun (x1 : Bool) =>
  some x1

def spec_FloorOk_L1 (a0_2 : List Int) (x4 : Int) : Option ((Int) ⊕ ((Int) ⊕ (Bool))) :=
  bif (decide (x4 < ((List.length a0_2 : Int)))) then
    ((getI a0_2 x4)).bind fun (x5 : Int) =>
    (spec_l1In x5 0 4).bind fun (x6 : Bool) =>
    bif (!x6) then
      some (.inr (.inr false))
    else
      some (.inl (w64 (x4 + 1)))
  else
    some (.inr (.inl x4))

def spec_FloorOk (n : Nat) (a0_0 : Int) (a0_1 : Int) (a0_2 : List Int) : Option (Bool) :=
  (show Option (Bool) from
    (spec_l1In a0_0 1 10).bind fun (x1 : Bool) =>
    bif (!x1) then
      some true
    else
      (spec_l1In a0_1 1 10).bind fun (x2 : Bool) =>
      bif (!x2) then
        some true
      else
        some (((List.length a0_2 : Int)) != (w64 (a0_0 * a0_1)))).bind fun (x3 : Bool) =>
  bif x3 then
    some false
  else
    (iter n (spec_FloorOk_L1 a0_2) 0).bind fun (x7 : (Int) ⊕ (Bool)) =>
    (match x7 with
    | .inl x8 => (
      some true)
    | .inr x9 => (
      some x9))

def spec_l7Free (a0_0 : Int) (a0_1 : Int) (a0_2 : List Int) (a1 : Int) : Option (Bool) :=
  (show Option (Bool) from
    (spec_l1In a1 0 (w64 (((List.length a0_2 : Int)) - 1))).bind fun (x1 : Bool) =>
    bif x1 then
      ((getI a0_2 a1)).bind fun (x2 : Int) =>
      some (x2 != 0)
    else
      some false).bind fun (x3 : Bool) =>
  some x3

def spec_CrewOk_L2 (a1 : List SIIIBI) (x3 : Int) (x4 : SIIIBI) (x13 : Int) : Option ((Int) ⊕ ((Int) ⊕ (Bool))) :=
  bif (decide (x13 < x3)) then
    ((getI a1 x13)).bind fun (x14 : SIIIBI) =>
    bif (x14.2.1 == x4.2.1) then
      some (.inr (.inr false))
    else
      some (.inl (w64 (x13 + 1)))
  else
    some (.inr (.inl x13))

def spec_CrewOk_L1 (n : Nat) (a0_0 : Int) (a0_1 : Int) (a0_2 : List Int) (a1 : List SIIIBI) (x3 : Int) : Option ((Int) ⊕ ((Int) ⊕ (Bool))) :=
  bif (decide (x3 < ((List.length a1 : Int)))) then
    ((getI a1 x3)).bind fun (x4 : SIIIBI) =>
    (show Option (Bool) from
      (spec_l1In x4.1 1 99).bind fun (x5 : Bool) =>
      bif (!x5) then
        some true
      else
        (spec_l7Free a0_0 a0_1 a0_2 x4.2.1).bind fun (x6 : Bool) =>
        bif (!x6) then
          some true
        else
          bif (x4.2.2.1 != (-1)) then
            (spec_l7Free a0_0 a0_1 a0_2 x4.2.2.1).bind fun (x7 : Bool) =>
            bif (!x7) then
              some true
            else
              (spec_l1In x4.2.2.2.2 0 1000000).bind fun (x8 : Bool) =>
              bif (!x8) then
                some true
              else
                bif (decide (x3 > 0)) then
                  ((getI a1 (w64 (x3 - 1)))).bind fun (x9 : SIIIBI) =>
                  some (decide (x9.1 ≥ x4.1))
                else
                  some false
          else
            (spec_l1In x4.2.2.2.2 0 1000000).bind fun (x10 : Bool) =>
            bif (!x10) then
              some true
            else
              bif (decide (x3 > 0)) then
                ((getI a1 (w64 (x3 - 1)))).bind fun (x11 : SIIIBI) =>
                some (decide (x11.1 ≥ x4.1))
              else
                some false).bind fun (x12 : Bool) =>
    bif x12 then
      some (.inr (.inr false))
    else
      (iter n (spec_CrewOk_L2 a1 x3 x4) 0).bind fun (x15 : (Int) ⊕ (Bool)) =>
      (match x15 with
      | .inl x16 => (
        some (.inl (w64 (x3 + 1))))
      | .inr x17 => (
        some (.inr (.inr x17))))
  else
    some (.inr (.inl x3))

def spec_CrewOk (n : Nat) (a0_0 : Int) (a0_1 : Int) (a0_2 : List Int) (a1 : List SIIIBI) : Option (Bool) :=
  (show Option (Bool) from
    (spec_FloorOk n a0_0 a0_1 a0_2).bind fun (x1 : Bool) =>
    bif (!x1) then
      some true
    else
      some (decide (((List.length a1 : Int)) > 20))).bind fun (x2 : Bool) =>
  bif x2 then
    some false
  else
    (iter n (spec_CrewOk_L1 n a0_0 a0_1 a0_2 a1) 0).bind fun (x18 : (Int) ⊕ (Bool)) =>
    (match x18 with
    | .inl x19 => (
      some true)
    | .inr x20 => (
      some x20))

def spec_l1Beside (a0_0 : Int) (a0_1 : Int) (a0_2 : List Int) (a1 : Int) : Option ((List Int)) :=
  bif (a0_0 == 0) then
    none
  else
    bif (a0_0 == 0) then
      none
    else
      (show Option ((List Int)) from
        bif (decide ((w64 (Int.tdiv a1 a0_0)) > 0)) then
          bif (decide (List.length ([] : List Int) + List.length [(w64 (a1 - a0_0))] ≤ maxRow)) then
            some (([] : List Int) ++ [(w64 (a1 - a0_0))])
          else
            none
        else
          some ([] : List Int)).bind fun (x1 : (List Int)) =>
      (show Option ((List Int)) from
        bif (decide ((Int.tmod a1 a0_0) > 0)) then
          bif (decide (List.length x1 + List.length [(w64 (a1 - 1))] ≤ maxRow)) then
            some (x1 ++ [(w64 (a1 - 1))])
          else
            none
        else
          some x1).bind fun (x2 : (List Int)) =>
      (show Option ((List Int)) from
        bif (decide ((Int.tmod a1 a0_0) < (w64 (a0_0 - 1)))) then
          bif (decide (List.length x2 + List.length [(w64 (a1 + 1))] ≤ maxRow)) then
            some (x2 ++ [(w64 (a1 + 1))])
          else
            none
        else
          some x2).bind fun (x3 : (List Int)) =>
      (show Option ((List Int)) from
        bif (decide ((w64 (Int.tdiv a1 a0_0)) < (w64 (a0_1 - 1)))) then
          bif (decide (List.length x3 + List.length [(w64 (a1 + a0_0))] ≤ maxRow)) then
            some (x3 ++ [(w64 (a1 + a0_0))])
          else
            none
        else
          some x3).bind fun (x4 : (List Int)) =>
      some x4

def spec_l1Near_L1 (a0_2 : List Int) (a2 : Bool) (x1 : (List Int)) (x2 : (List Int) × Int) : Option (((List Int) × Int) ⊕ ((List Int) × Int)) :=
  bif (decide (x2.2 < ((List.length x1 : Int)))) then
    (show Option ((List Int)) from
      bif (inb x1 x2.2) then
        ((x1[(Int.toNat x2.2)]?)).bind fun (x4 : Int) =>
        ((getI a0_2 x4)).bind fun (x5 : Int) =>
        (show Option (Bool) from
          bif (x5 != 0) then
            bif a2 then
              some (!(x5 == 2))
            else
              some true
          else
            some false).bind fun (x6 : Bool) =>
        bif x6 then
          bif (inb x1 x2.2) then
            ((x1[(Int.toNat x2.2)]?)).bind fun (x7 : Int) =>
            bif (decide (List.length x2.1 + List.length [x7] ≤ maxRow)) then
              some (x2.1 ++ [x7])
            else
              none
          else
            none
        else
          some x2.1
      else
        none).bind fun (x3 : (List Int)) =>
    some (.inl (x3, (w64 (x2.2 + 1))))
  else
    some (.inr (x2.1, x2.2))

def spec_l1Near (n : Nat) (a0_0 : Int) (a0_1 : Int) (a0_2 : List Int) (a1 : Int) (a2 : Bool) : Option ((List Int)) :=
  (spec_l1Beside a0_0 a0_1 a0_2 a1).bind fun (x1 : (List Int)) =>
  (iter n (spec_l1Near_L1 a0_2 a2 x1) (([] : List Int), 0)).bind fun (x8 : (List Int) × Int) =>
  some x8.1

def spec_l2Field_L1 (a0_2 : List Int) (x1 : (List Int) × Int) : Option (((List Int) × Int) ⊕ ((List Int) × Int)) :=
  bif (decide (x1.2 < ((List.length a0_2 : Int)))) then
    bif (decide (List.length x1.1 + List.length [(-1)] ≤ maxRow)) then
      some (.inl ((x1.1 ++ [(-1)]), (w64 (x1.2 + 1))))
    else
      none
  else
    some (.inr (x1.1, x1.2))

def spec_l2Field_L3 (x5 : Int) (x8 : (List Int)) (x9 : (List Int) × Int × (List Int)) : Option (((List Int) × Int × (List Int)) ⊕ ((List Int) × Int × (List Int))) :=
  bif (decide (x9.2.1 < ((List.length x8 : Int)))) then
    (show Option ((List Int) × (List Int)) from
      bif (inb x8 x9.2.1) then
        ((x8[(Int.toNat x9.2.1)]?)).bind fun (x11 : Int) =>
        bif (inb x9.2.2 x11) then
          ((x9.2.2[(Int.toNat x11)]?)).bind fun (x12 : Int) =>
          bif (decide (x12 < 0)) then
            bif (inb x8 x9.2.1) then
              ((x8[(Int.toNat x9.2.1)]?)).bind fun (x13 : Int) =>
              bif (inb x9.2.2 x5) then
                ((x9.2.2[(Int.toNat x5)]?)).bind fun (x14 : Int) =>
                bif (inb x9.2.2 x13) then
                  bif (inb x8 x9.2.1) then
                    ((x8[(Int.toNat x9.2.1)]?)).bind fun (x15 : Int) =>
                    bif (decide (List.length x9.1 + List.length [x15] ≤ maxRow)) then
                      some ((x9.1 ++ [x15]), (upd x9.2.2 (Int.toNat x13) (w64 (x14 + 1))))
                    else
                      none
                  else
                    none
                else
                  none
              else
                none
            else
              none
          else
            some (x9.1, x9.2.2)
        else
          none
      else
        none).bind fun (x10 : (List Int) × (List Int)) =>
    some (.inl (x10.1, (w64 (x9.2.1 + 1)), x10.2))
  else
    some (.inr (x9.1, x9.2.1, x9.2.2))

def spec_l2Field_L2 (n : Nat) (a0_0 : Int) (a0_1 : Int) (a0_2 : List Int) (a1 : Int) (a2 : Bool) (x3 : (List Int) × Int × (List Int)) : Option (((List Int) × Int × (List Int)) ⊕ ((List Int) × Int × (List Int))) :=
  bif (decide (x3.2.1 < ((List.length x3.1 : Int)))) then
    (show Option ((List Int) × (List Int)) from
      bif (inb x3.1 x3.2.1) then
        ((x3.1[(Int.toNat x3.2.1)]?)).bind fun (x5 : Int) =>
        (show Option (Bool) from
          bif (x5 != a1) then
            bif a2 then
              ((getI a0_2 x5)).bind fun (x6 : Int) =>
              some (x6 == 2)
            else
              some false
          else
            some false).bind fun (x7 : Bool) =>
        bif x7 then
          some (x3.1, x3.2.2)
        else
          (spec_l1Near n a0_0 a0_1 a0_2 x5 false).bind fun (x8 : (List Int)) =>
          (iter n (spec_l2Field_L3 x5 x8) (x3.1, 0, x3.2.2)).bind fun (x16 : (List Int) × Int × (List Int)) =>
          some (x16.1, x16.2.2)
      else
        none).bind fun (x4 : (List Int) × (List Int)) =>
    some (.inl (x4.1, (w64 (x3.2.1 + 1)), x4.2))
  else
    some (.inr (x3.1, x3.2.1, x3.2.2))

def spec_l2Field (n : Nat) (a0_0 : Int) (a0_1 : Int) (a0_2 : List Int) (a1 : Int) (a2 : Bool) : Option ((List Int)) :=
  (iter n (spec_l2Field_L1 a0_2) (([] : List Int), 0)).bind fun (x2 : (List Int) × Int) =>
  bif (inb x2.1 a1) then
    (iter n (spec_l2Field_L2 n a0_0 a0_1 a0_2 a1 a2) ([a1], 0, (upd x2.1 (Int.toNat a1) 0))).bind fun (x17 : (List Int) × Int × (List Int)) =>
    some x17.2.2
  else
    none

def spec_l7Field (n : Nat) (a0_0 : Int) (a0_1 : Int) (a0_2 : List Int) (a1_0 : Int) (a1_1 : Int) (a1_2 : Int) (a1_3 : Bool) (a1_4 : Int) : Option ((List Int)) :=
  bif (decide (a1_2 < 0)) then
    some ([] : List Int)
  else
    (spec_l2Field n a0_0 a0_1 a0_2 a1_2 a1_3).bind fun (x1 : (List Int)) =>
    some x1

def spec_Turns_L2 (a0 : List SIIIBI) (x1 : (List Int) × Int) (x2 : Int × (List Int)) : Option ((Int × (List Int)) ⊕ (Int × (List Int))) :=
  (show Option (Bool) from
    bif (decide (x2.1 > 0)) then
      bif (inb x2.2 (w64 (x2.1 - 1))) then
        ((x2.2[(Int.toNat (w64 (x2.1 - 1)))]?)).bind fun (x3 : Int) =>
        ((getI a0 x3)).bind fun (x4 : SIIIBI) =>
        ((getI a0 x1.2)).bind fun (x5 : SIIIBI) =>
        bif (decide (x4.2.2.2.2 < x5.2.2.2.2)) then
          some true
        else
          bif (inb x2.2 (w64 (x2.1 - 1))) then
            ((x2.2[(Int.toNat (w64 (x2.1 - 1)))]?)).bind fun (x6 : Int) =>
            ((getI a0 x6)).bind fun (x7 : SIIIBI) =>
            ((getI a0 x1.2)).bind fun (x8 : SIIIBI) =>
            bif (x7.2.2.2.2 == x8.2.2.2.2) then
              bif (inb x2.2 (w64 (x2.1 - 1))) then
                ((x2.2[(Int.toNat (w64 (x2.1 - 1)))]?)).bind fun (x9 : Int) =>
                ((getI a0 x9)).bind fun (x10 : SIIIBI) =>
                ((getI a0 x1.2)).bind fun (x11 : SIIIBI) =>
                some (decide (x10.1 > x11.1))
              else
                none
            else
              some false
          else
            none
      else
        none
    else
      some false).bind fun (x12 : Bool) =>
  bif x12 then
    bif (inb x2.2 (w64 (x2.1 - 1))) then
      ((x2.2[(Int.toNat (w64 (x2.1 - 1)))]?)).bind fun (x13 : Int) =>
      bif (inb x2.2 x2.1) then
        some (.inl ((w64 (x2.1 - 1)), (upd x2.2 (Int.toNat x2.1) x13)))
      else
        none
    else
      none
  else
    some (.inr (x2.1, x2.2))

def spec_Turns_L1 (n : Nat) (a0 : List SIIIBI) (x1 : (List Int) × Int) : Option (((List Int) × Int) ⊕ ((List Int) × Int)) :=
  bif (decide (x1.2 < ((List.length a0 : Int)))) then
    bif (decide (List.length x1.1 + List.length [x1.2] ≤ maxRow)) then
      (iter n (spec_Turns_L2 a0 x1) (((List.length x1.1 : Int)), (x1.1 ++ [x1.2]))).bind fun (x14 : Int × (List Int)) =>
      bif (inb x14.2 x14.1) then
        some (.inl ((upd x14.2 (Int.toNat x14.1) x1.2), (w64 (x1.2 + 1))))
      else
        none
    else
      none
  else
    some (.inr (x1.1, x1.2))

def spec_Turns (n : Nat) (a0 : List SIIIBI) : Option ((List Int)) :=
  (iter n (spec_Turns_L1 n a0) (([] : List Int), 0)).bind fun (x15 : (List Int) × Int) =>
  some x15.1

def spec_l7Rank (a0_0 : Int) (a0_1 : Int) (a0_2 : Int) (a0_3 : Bool) (a0_4 : Int) (a1 : List Int) (a2 : Int) : Option (Int) :=
  bif (decide (a0_2 < 0)) then
    bif (a2 == a0_1) then
      some 0
    else
      some 1
  else
    ((getI a1 a2)).bind fun (x1 : Int) =>
    bif (decide (x1 < 0)) then
      some 1000
    else
      ((getI a1 a2)).bind fun (x2 : Int) =>
      some x2

def spec_l7Before (a0_0 : Int) (a0_1 : Int) (a0_2 : Int) (a0_3 : Bool) (a0_4 : Int) (a1 : List Int) (a2 : Int) (a3 : Int) : Option (Bool) :=
  (spec_l7Rank a0_0 a0_1 a0_2 a0_3 a0_4 a1 a2).bind fun (x1 : Int) =>
  (spec_l7Rank a0_0 a0_1 a0_2 a0_3 a0_4 a1 a3).bind fun (x2 : Int) =>
  bif (x1 != x2) then
    some (decide (x1 < x2))
  else
    bif ((a2 == a0_1) != (a3 == a0_1)) then
      some (a3 == a0_1)
    else
      some (decide (a2 < a3))

def spec_l7Choices_L1 (a0_2 : List Int) (a1_2 : Int) (a1_3 : Bool) (x1 : (List Int)) (x2 : (List Int) × Int) : Option (((List Int) × Int) ⊕ ((List Int) × Int)) :=
  bif (decide (x2.2 < ((List.length x1 : Int)))) then
    (show Option ((List Int)) from
      (show Option (Bool) from
        bif (!a1_3) then
          some true
        else
          bif (inb x1 x2.2) then
            ((x1[(Int.toNat x2.2)]?)).bind fun (x4 : Int) =>
            ((getI a0_2 x4)).bind fun (x5 : Int) =>
            bif (x5 != 2) then
              some true
            else
              bif (inb x1 x2.2) then
                ((x1[(Int.toNat x2.2)]?)).bind fun (x6 : Int) =>
                some (x6 == a1_2)
              else
                none
          else
            none).bind fun (x7 : Bool) =>
      bif x7 then
        bif (inb x1 x2.2) then
          ((x1[(Int.toNat x2.2)]?)).bind fun (x8 : Int) =>
          bif (decide (List.length x2.1 + List.length [x8] ≤ maxRow)) then
            some (x2.1 ++ [x8])
          else
            none
        else
          none
      else
        some x2.1).bind fun (x3 : (List Int)) =>
    some (.inl (x3, (w64 (x2.2 + 1))))
  else
    some (.inr (x2.1, x2.2))

def spec_l7Choices_L3 (a1_0 : Int) (a1_1 : Int) (a1_2 : Int) (a1_3 : Bool) (a1_4 : Int) (a2 : List Int) (x9 : (List Int) × Int) (x10 : (List Int) × Int) (x12 : Int × (List Int)) : Option ((Int × (List Int)) ⊕ (Int × (List Int))) :=
  (show Option (Bool) from
    bif (decide (x12.1 > 0)) then
      bif (inb (x9.1 ++ [a1_1]) x10.2) then
        (((x9.1 ++ [a1_1])[(Int.toNat x10.2)]?)).bind fun (x13 : Int) =>
        bif (inb x12.2 (w64 (x12.1 - 1))) then
          ((x12.2[(Int.toNat (w64 (x12.1 - 1)))]?)).bind fun (x14 : Int) =>
          (spec_l7Before a1_0 a1_1 a1_2 a1_3 a1_4 a2 x13 x14).bind fun (x15 : Bool) =>
          some x15
        else
          none
      else
        none
    else
      some false).bind fun (x16 : Bool) =>
  bif x16 then
    bif (inb x12.2 (w64 (x12.1 - 1))) then
      ((x12.2[(Int.toNat (w64 (x12.1 - 1)))]?)).bind fun (x17 : Int) =>
      bif (inb x12.2 x12.1) then
        some (.inl ((w64 (x12.1 - 1)), (upd x12.2 (Int.toNat x12.1) x17)))
      else
        none
    else
      none
  else
    some (.inr (x12.1, x12.2))

def spec_l7Choices_L2 (n : Nat) (a1_0 : Int) (a1_1 : Int) (a1_2 : Int) (a1_3 : Bool) (a1_4 : Int) (a2 : List Int) (x9 : (List Int) × Int) (x10 : (List Int) × Int) : Option (((List Int) × Int) ⊕ ((List Int) × Int)) :=
  bif (decide (x10.2 < ((List.length (x9.1 ++ [a1_1]) : Int)))) then
    bif (inb (x9.1 ++ [a1_1]) x10.2) then
      (((x9.1 ++ [a1_1])[(Int.toNat x10.2)]?)).bind fun (x11 : Int) =>
      bif (decide (List.length x10.1 + List.length [x11] ≤ maxRow)) then
        (iter n (spec_l7Choices_L3 a1_0 a1_1 a1_2 a1_3 a1_4 a2 x9 x10) (((List.length x10.1 : Int)), (x10.1 ++ [x11]))).bind fun (x18 : Int × (List Int)) =>
        bif (inb (x9.1 ++ [a1_1]) x10.2) then
          (((x9.1 ++ [a1_1])[(Int.toNat x10.2)]?)).bind fun (x19 : Int) =>
          bif (inb x18.2 x18.1) then
            some (.inl ((upd x18.2 (Int.toNat x18.1) x19), (w64 (x10.2 + 1))))
          else
            none
        else
          none
      else
        none
    else
      none
  else
    some (.inr (x10.1, x10.2))

def spec_l7Choices (n : Nat) (a0_0 : Int) (a0_1 : Int) (a0_2 : List Int) (a1_0 : Int) (a1_1 : Int) (a1_2 : Int) (a1_3 : Bool) (a1_4 : Int) (a2 : List Int) : Option ((List Int)) :=
  (spec_l1Near n a0_0 a0_1 a0_2 a1_1 false).bind fun (x1 : (List Int)) =>
  (iter n (spec_l7Choices_L1 a0_2 a1_2 a1_3 x1) (([] : List Int), 0)).bind fun (x9 : (List Int) × Int) =>
  bif (decide (List.length x9.1 + List.length [a1_1] ≤ maxRow)) then
    (iter n (spec_l7Choices_L2 n a1_0 a1_1 a1_2 a1_3 a1_4 a2 x9) (([] : List Int), 0)).bind fun (x20 : (List Int) × Int) =>
    some x20.1
  else
    none

def spec_l6Among_L1 (a0 : List Int) (a1 : Int) (x1 : Int) : Option ((Int) ⊕ ((Int) ⊕ (Bool))) :=
  bif (decide (x1 < ((List.length a0 : Int)))) then
    ((getI a0 x1)).bind fun (x2 : Int) =>
    bif (x2 == a1) then
      some (.inr (.inr true))
    else
      some (.inl (w64 (x1 + 1)))
  else
    some (.inr (.inl x1))

def spec_l6Among (n : Nat) (a0 : List Int) (a1 : Int) : Option (Bool) :=
  (iter n (spec_l6Among_L1 a0 a1) 0).bind fun (x3 : (Int) ⊕ (Bool)) =>
  (match x3 with
  | .inl x4 => (
    some false)
  | .inr x5 => (
    some x5))

def spec_l8Who_L1 (a0_0 : Int) (a0_1 : Int) (a0_2 : List Int) (a0_3 : List SIIIBI) (a0_4 : List ((List Int))) (a0_5 : List Int) (a1 : Int) (x1 : Int) : Option ((Int) ⊕ ((Int) ⊕ (Int × Int × Int × (List Int) × (List SIIIBI) × (List ((List Int))) × (List Int)))) :=
  bif (decide (x1 < ((List.length a0_3 : Int)))) then
    (show Option (Bool) from
      ((getI a0_3 x1)).bind fun (x2 : SIIIBI) =>
      bif (x2.2.1 == a1) then
        bif (inb a0_5 x1) then
          ((a0_5[(Int.toNat x1)]?)).bind fun (x3 : Int) =>
          some (decide (x3 < 0))
        else
          none
      else
        some false).bind fun (x4 : Bool) =>
    bif x4 then
      some (.inr (.inr (x1, a0_0, a0_1, a0_2, a0_3, a0_4, a0_5)))
    else
      some (.inl (w64 (x1 + 1)))
  else
    some (.inr (.inl x1))

def spec_l8Who (n : Nat) (a0_0 : Int) (a0_1 : Int) (a0_2 : List Int) (a0_3 : List SIIIBI) (a0_4 : List ((List Int))) (a0_5 : List Int) (a1 : Int) : Option (Int × Int × Int × (List Int) × (List SIIIBI) × (List ((List Int))) × (List Int)) :=
  (iter n (spec_l8Who_L1 a0_0 a0_1 a0_2 a0_3 a0_4 a0_5 a1) 0).bind fun (x5 : (Int) ⊕ (Int × Int × Int × (List Int) × (List SIIIBI) × (List ((List Int))) × (List Int))) =>
  (match x5 with
  | .inl x6 => (
    some ((-1), a0_0, a0_1, a0_2, a0_3, a0_4, a0_5))
  | .inr x7 => (
    some x7))

def spec_l8Choose_L1 (self : Int → Int → (List Int) → (List SIIIBI) → (List ((List Int))) → (List Int) → Int → Int → Option (Bool × Int × Int × (List Int) × (List SIIIBI) × (List ((List Int))) × (List Int))) (n : Nat) (a1 : Int) (a2 : Int) (x1 : SIIIBI) (x4 : (List Int)) (x5 : Int × Int × Int × (List Int) × (List SIIIBI) × (List ((List Int))) × (List Int)) : Option ((Int × Int × Int × (List Int) × (List SIIIBI) × (List ((List Int))) × (List Int)) ⊕ ((Int × Int × Int × (List Int) × (List SIIIBI) × (List ((List Int))) × (List Int)) ⊕ (Bool × Int × Int × (List Int) × (List SIIIBI) × (List ((List Int))) × (List Int)))) :=
  bif (decide (x5.1 < ((List.length x4 : Int)))) then
    (show Option ((SIILIJLIIIBIJLLIJJLIJ) ⊕ (Bool × Int × Int × (List Int) × (List SIIIBI) × (List ((List Int))) × (List Int))) from
      bif (inb x4 x5.1) then
        ((x4[(Int.toNat x5.1)]?)).bind fun (x7 : Int) =>
        (show Option (Bool) from
          (spec_l6Among n x5.2.2.2.2.2.2 x7).bind fun (x8 : Bool) =>
          bif x8 then
            some true
          else
            some (x7 == a2)).bind fun (x9 : Bool) =>
        bif x9 then
          some (.inl (x5.2.1, x5.2.2.1, x5.2.2.2.1, x5.2.2.2.2.1, x5.2.2.2.2.2.1, x5.2.2.2.2.2.2))
        else
          bif (inb x5.2.2.2.2.2.2 a1) then
            (spec_l8Who n x5.2.1 x5.2.2.1 x5.2.2.2.1 x5.2.2.2.2.1 x5.2.2.2.2.2.1 (upd x5.2.2.2.2.2.2 (Int.toNat a1) x7) x7).bind fun (x10 : Int × Int × Int × (List Int) × (List SIIIBI) × (List ((List Int))) × (List Int)) =>
            (show Option (Bool × Int × Int × (List Int) × (List SIIIBI) × (List ((List Int))) × (List Int)) from
              bif (decide (x10.1 ≥ 0)) then
                (self x10.2.1 x10.2.2.1 x10.2.2.2.1 x10.2.2.2.2.1 x10.2.2.2.2.2.1 x10.2.2.2.2.2.2 x10.1 x1.2.1).bind fun (x11 : Bool × Int × Int × (List Int) × (List SIIIBI) × (List ((List Int))) × (List Int)) =>
                some ((!x11.1), x11.2.1, x11.2.2.1, x11.2.2.2.1, x11.2.2.2.2.1, x11.2.2.2.2.2.1, x11.2.2.2.2.2.2)
              else
                some (false, x10.2.1, x10.2.2.1, x10.2.2.2.1, x10.2.2.2.2.1, x10.2.2.2.2.2.1, x10.2.2.2.2.2.2)).bind fun (x12 : Bool × Int × Int × (List Int) × (List SIIIBI) × (List ((List Int))) × (List Int)) =>
            bif x12.1 then
              some (.inl (x12.2.1, x12.2.2.1, x12.2.2.2.1, x12.2.2.2.2.1, x12.2.2.2.2.2.1, x12.2.2.2.2.2.2))
            else
              some (.inr (true, x12.2.1, x12.2.2.1, x12.2.2.2.1, x12.2.2.2.2.1, x12.2.2.2.2.2.1, x12.2.2.2.2.2.2))
          else
            none
      else
        none).bind fun (x6 : (SIILIJLIIIBIJLLIJJLIJ) ⊕ (Bool × Int × Int × (List Int) × (List SIIIBI) × (List ((List Int))) × (List Int))) =>
    (match x6 with
    | .inl x13 => (
      some (.inl ((w64 (x5.1 + 1)), x13.1, x13.2.1, x13.2.2.1, x13.2.2.2.1, x13.2.2.2.2.1, x13.2.2.2.2.2)))
    | .inr x14 => (
      some (.inr (.inr x14))))
  else
    some (.inr (.inl (x5.1, x5.2.1, x5.2.2.1, x5.2.2.2.1, x5.2.2.2.2.1, x5.2.2.2.2.2.1, x5.2.2.2.2.2.2)))

def spec_l8Choose : Nat → Int → Int → (List Int) → (List SIIIBI) → (List ((List Int))) → (List Int) → Int → Int → Option (Bool × Int × Int × (List Int) × (List SIIIBI) × (List ((List Int))) × (List Int))
| 0, _, _, _, _, _, _, _, _ => none
| n + 1, a0_0, a0_1, a0_2, a0_3, a0_4, a0_5, a1, a2 =>
  ((getI a0_3 a1)).bind fun (x1 : SIIIBI) =>
  bif (inb a0_4 a1) then
    ((a0_4[(Int.toNat a1)]?)).bind fun (x2 : (List Int)) =>
    ((a0_4[(Int.toNat a1)]?)).bind fun (x3 : (List Int)) =>
    (spec_l7Choices n a0_0 a0_1 a0_2 x1.1 x1.2.1 x1.2.2.1 x1.2.2.2.1 x1.2.2.2.2 x3).bind fun (x4 : (List Int)) =>
    (iter n (spec_l8Choose_L1 (spec_l8Choose n) n a1 a2 x1 x4) (0, a0_0, a0_1, a0_2, a0_3, a0_4, a0_5)).bind fun (x15 : (Int × Int × Int × (List Int) × (List SIIIBI) × (List ((List Int))) × (List Int)) ⊕ (Bool × Int × Int × (List Int) × (List SIIIBI) × (List ((List Int))) × (List Int))) =>
    (match x15 with
    | .inl x16 => (
      bif (inb x16.2.2.2.2.2.2 a1) then
        some (false, x16.2.1, x16.2.2.1, x16.2.2.2.1, x16.2.2.2.2.1, x16.2.2.2.2.2.1, (upd x16.2.2.2.2.2.2 (Int.toNat a1) x1.2.1))
      else
        none)
    | .inr x17 => (
      some x17))
  else
    none

def spec_l8Step_L1 (n : Nat) (a0_0 : Int) (a0_1 : Int) (a0_2 : List Int) (a1 : List SIIIBI) (x1 : Int × Int × Int × (List Int) × (List SIIIBI) × (List ((List Int))) × (List Int)) : Option ((Int × Int × Int × (List Int) × (List SIIIBI) × (List ((List Int))) × (List Int)) ⊕ (Int × Int × Int × (List Int) × (List SIIIBI) × (List ((List Int))) × (List Int))) :=
  bif (decide (x1.1 < ((List.length a1 : Int)))) then
    bif (decide (List.length x1.2.2.2.2.2.2 + List.length [(-1)] ≤ maxRow)) then
      ((getI a1 x1.1)).bind fun (x2 : SIIIBI) =>
      (spec_l7Field n a0_0 a0_1 a0_2 x2.1 x2.2.1 x2.2.2.1 x2.2.2.2.1 x2.2.2.2.2).bind fun (x3 : (List Int)) =>
      bif (decide (List.length x1.2.2.2.2.2.1 + List.length [x3] ≤ maxRow)) then
        some (.inl ((w64 (x1.1 + 1)), x1.2.1, x1.2.2.1, x1.2.2.2.1, x1.2.2.2.2.1, (x1.2.2.2.2.2.1 ++ [x3]), (x1.2.2.2.2.2.2 ++ [(-1)])))
      else
        none
    else
      none
  else
    some (.inr (x1.1, x1.2.1, x1.2.2.1, x1.2.2.2.1, x1.2.2.2.2.1, x1.2.2.2.2.2.1, x1.2.2.2.2.2.2))

def spec_l8Step_L2 (n : Nat) (x5 : (List Int)) (x6 : Int × Int × Int × (List Int) × (List SIIIBI) × (List ((List Int))) × (List Int)) : Option ((Int × Int × Int × (List Int) × (List SIIIBI) × (List ((List Int))) × (List Int)) ⊕ (Int × Int × Int × (List Int) × (List SIIIBI) × (List ((List Int))) × (List Int))) :=
  bif (decide (x6.1 < ((List.length x5 : Int)))) then
    (show Option (SIILIJLIIIBIJLLIJJLIJ) from
      bif (inb x5 x6.1) then
        ((x5[(Int.toNat x6.1)]?)).bind fun (x8 : Int) =>
        bif (inb x6.2.2.2.2.2.2 x8) then
          ((x6.2.2.2.2.2.2[(Int.toNat x8)]?)).bind fun (x9 : Int) =>
          bif (decide (x9 < 0)) then
            bif (inb x5 x6.1) then
              ((x5[(Int.toNat x6.1)]?)).bind fun (x10 : Int) =>
              (spec_l8Choose n x6.2.1 x6.2.2.1 x6.2.2.2.1 x6.2.2.2.2.1 x6.2.2.2.2.2.1 x6.2.2.2.2.2.2 x10 (-1)).bind fun (x11 : Bool × Int × Int × (List Int) × (List SIIIBI) × (List ((List Int))) × (List Int)) =>
              some (x11.2.1, x11.2.2.1, x11.2.2.2.1, x11.2.2.2.2.1, x11.2.2.2.2.2.1, x11.2.2.2.2.2.2)
            else
              none
          else
            some (x6.2.1, x6.2.2.1, x6.2.2.2.1, x6.2.2.2.2.1, x6.2.2.2.2.2.1, x6.2.2.2.2.2.2)
        else
          none
      else
        none).bind fun (x7 : SIILIJLIIIBIJLLIJJLIJ) =>
    some (.inl ((w64 (x6.1 + 1)), x7.1, x7.2.1, x7.2.2.1, x7.2.2.2.1, x7.2.2.2.2.1, x7.2.2.2.2.2))
  else
    some (.inr (x6.1, x6.2.1, x6.2.2.1, x6.2.2.2.1, x6.2.2.2.2.1, x6.2.2.2.2.2.1, x6.2.2.2.2.2.2))

def spec_l8Step (n : Nat) (a0_0 : Int) (a0_1 : Int) (a0_2 : List Int) (a1 : List SIIIBI) : Option ((List Int)) :=
  (iter n (spec_l8Step_L1 n a0_0 a0_1 a0_2 a1) (0, a0_0, a0_1, a0_2, a1, ([] : List ((List Int))), ([] : List Int))).bind fun (x4 : Int × Int × Int × (List Int) × (List SIIIBI) × (List ((List Int))) × (List Int)) =>
  (spec_Turns n a1).bind fun (x5 : (List Int)) =>
  (iter n (spec_l8Step_L2 n x5) (0, x4.2.1, x4.2.2.1, x4.2.2.2.1, x4.2.2.2.2.1, x4.2.2.2.2.2.1, x4.2.2.2.2.2.2)).bind fun (x12 : Int × Int × Int × (List Int) × (List SIIIBI) × (List ((List Int))) × (List Int)) =>
  some x12.2.2.2.2.2.2

def spec_l9Advance_L1 (a1 : List SIIIBI) (x1 : (List Int)) (x2 : (List SIIIBI) × Int) : Option (((List SIIIBI) × Int) ⊕ ((List SIIIBI) × Int)) :=
  bif (decide (x2.2 < ((List.length a1 : Int)))) then
    ((getI a1 x2.2)).bind fun (x3 : SIIIBI) =>
    bif (inb x1 x2.2) then
      ((x1[(Int.toNat x2.2)]?)).bind fun (x4 : Int) =>
      (show Option (SIIIBI) from
        (show Option (Bool) from
          bif (x3.2.2.1 == (-1)) then
            some true
          else
            some (x4 == x3.2.2.1)).bind fun (x6 : Bool) =>
        bif x6 then
          some (x3.1, x4, x3.2.2.1, x3.2.2.2.1, 0)
        else
          bif (decide (x3.2.2.2.2 < 1000000)) then
            some (x3.1, x4, x3.2.2.1, x3.2.2.2.1, (w64 (x3.2.2.2.2 + 1)))
          else
            some (x3.1, x4, x3.2.2.1, x3.2.2.2.1, x3.2.2.2.2)).bind fun (x5 : SIIIBI) =>
      bif (decide (List.length x2.1 + List.length [(x5.1, x5.2.1, x5.2.2.1, x5.2.2.2.1, x5.2.2.2.2)] ≤ maxRow)) then
        some (.inl ((x2.1 ++ [(x5.1, x5.2.1, x5.2.2.1, x5.2.2.2.1, x5.2.2.2.2)]), (w64 (x2.2 + 1))))
      else
        none
    else
      none
  else
    some (.inr (x2.1, x2.2))

def spec_l9Advance (n : Nat) (a0_0 : Int) (a0_1 : Int) (a0_2 : List Int) (a1 : List SIIIBI) : Option ((List SIIIBI)) :=
  (spec_l8Step n a0_0 a0_1 a0_2 a1).bind fun (x1 : (List Int)) =>
  (iter n (spec_l9Advance_L1 a1 x1) (([] : List SIIIBI), 0)).bind fun (x7 : (List SIIIBI) × Int) =>
  some x7.1

def spec_Drive_L1 (a1 : List SIIIBI) (x1 : (List Bool) × Int) : Option (((List Bool) × Int) ⊕ ((List Bool) × Int)) :=
  bif (decide (x1.2 < ((List.length a1 : Int)))) then
    ((getI a1 x1.2)).bind fun (x2 : SIIIBI) =>
    (spec_l9There x2.1 x2.2.1 x2.2.2.1 x2.2.2.2.1 x2.2.2.2.2).bind fun (x3 : Bool) =>
    bif (decide (List.length x1.1 + List.length [x3] ≤ maxRow)) then
      some (.inl ((x1.1 ++ [x3]), (w64 (x1.2 + 1))))
    else
      none
  else
    some (.inr (x1.1, x1.2))

def spec_Drive_L3 (x9 : (List SIIIBI)) (x10 : Int × (List Bool)) : Option ((Int × (List Bool)) ⊕ (Int × (List Bool))) :=
  bif (decide (x10.1 < ((List.length x9 : Int)))) then
    (show Option ((List Bool)) from
      bif (inb x10.2 x10.1) then
        ((x10.2[(Int.toNat x10.1)]?)).bind fun (x11 : Bool) =>
        bif x11 then
          bif (inb x10.2 x10.1) then
            some (upd x10.2 (Int.toNat x10.1) true)
          else
            none
        else
          bif (inb x9 x10.1) then
            ((x9[(Int.toNat x10.1)]?)).bind fun (x12 : SIIIBI) =>
            (spec_l9There x12.1 x12.2.1 x12.2.2.1 x12.2.2.2.1 x12.2.2.2.2).bind fun (x13 : Bool) =>
            bif (inb x10.2 x10.1) then
              some (upd x10.2 (Int.toNat x10.1) x13)
            else
              none
          else
            none
      else
        none).bind fun (x14 : (List Bool)) =>
    some (.inl ((w64 (x10.1 + 1)), x14))
  else
    some (.inr (x10.1, x10.2))

def spec_Drive_L2 (n : Nat) (a0_0 : Int) (a0_1 : Int) (a0_2 : List Int) (x8 : Int × (List SIIIBI) × (List Bool)) : Option ((Int × (List SIIIBI) × (List Bool)) ⊕ (Int × (List SIIIBI) × (List Bool))) :=
  bif (decide (x8.1 > 0)) then
    (spec_l9Advance n a0_0 a0_1 a0_2 x8.2.1).bind fun (x9 : (List SIIIBI)) =>
    (iter n (spec_Drive_L3 x9) (0, x8.2.2)).bind fun (x15 : Int × (List Bool)) =>
    some (.inl ((w64 (x8.1 - 1)), x9, x15.2))
  else
    some (.inr (x8.1, x8.2.1, x8.2.2))

def spec_Drive (n : Nat) (a0_0 : Int) (a0_1 : Int) (a0_2 : List Int) (a1 : List SIIIBI) (a2 : Int) : Option ((List SIIIBI) × (List Bool)) :=
  bif (decide (List.length ([] : List SIIIBI) + List.length a1 ≤ maxRow)) then
    (iter n (spec_Drive_L1 a1) (([] : List Bool), 0)).bind fun (x4 : (List Bool) × Int) =>
    (show Option (Bool) from
      (spec_l1In a2 0 1000).bind fun (x5 : Bool) =>
      bif (!x5) then
        some true
      else
        (spec_CrewOk n a0_0 a0_1 a0_2 a1).bind fun (x6 : Bool) =>
        some (!x6)).bind fun (x7 : Bool) =>
    bif x7 then
      some ((([] : List SIIIBI) ++ a1), x4.1)
    else
      (iter n (spec_Drive_L2 n a0_0 a0_1 a0_2) (a2, (([] : List SIIIBI) ++ a1), x4.1)).bind fun (x16 : Int × (List SIIIBI) × (List Bool)) =>
      some (x16.2.1, x16.2.2)
  else
    none

def impl_copyCrew (a0 : List SIIIBI) : Option ((List SIIIBI)) :=
  bif (decide (List.length a0 ≤ maxRow)) then
    some a0
  else
    none

def impl_rests (a0_0 : Int) (a0_1 : Int) (a0_2 : Int) (a0_3 : Bool) (a0_4 : Int) : Option (Bool) :=
  (show Option (Bool) from
    bif (a0_2 == (-1)) then
      some true
    else
      some (a0_1 == a0_2)).bind fun (x1 : Bool) =>
  some x1

def impl_in (a0 : Int) (a1 : Int) (a2 : Int) : Option (Bool) :=
  (show Option (Bool) from
    bif (decide (a0 ≥ a1)) then
      some (decide (a0 ≤ a2))
    else
      some false).bind fun (x1 : Bool) =>
  some x1

def impl_FloorOk_L1 (a0_2 : List Int) (x4 : Int) : Option ((Int) ⊕ ((Int) ⊕ (Bool))) :=
  bif (decide (x4 < ((List.length a0_2 : Int)))) then
    ((getI a0_2 x4)).bind fun (x5 : Int) =>
    (impl_in x5 0 4).bind fun (x6 : Bool) =>
    bif (!x6) then
      some (.inr (.inr false))
    else
      some (.inl (w64 (x4 + 1)))
  else
    some (.inr (.inl x4))

def impl_FloorOk (n : Nat) (a0_0 : Int) (a0_1 : Int) (a0_2 : List Int) : Option (Bool) :=
  (show Option (Bool) from
    (impl_in a0_0 1 10).bind fun (x1 : Bool) =>
    bif (!x1) then
      some true
    else
      (impl_in a0_1 1 10).bind fun (x2 : Bool) =>
      bif (!x2) then
        some true
      else
        some (((List.length a0_2 : Int)) != (w64 (a0_0 * a0_1)))).bind fun (x3 : Bool) =>
  bif x3 then
    some false
  else
    (iter n (impl_FloorOk_L1 a0_2) 0).bind fun (x7 : (Int) ⊕ (Bool)) =>
    (match x7 with
    | .inl x8 => (
      some true)
    | .inr x9 => (
      some x9))

def impl_isCell (a0_0 : Int) (a0_1 : Int) (a0_2 : List Int) (a1 : Int) : Option (Bool) :=
  (impl_in a1 0 (w64 (((List.length a0_2 : Int)) - 1))).bind fun (x1 : Bool) =>
  some x1

def impl_KindAt (n : Nat) (a0_0 : Int) (a0_1 : Int) (a0_2 : List Int) (a1 : Int) : Option (Int) :=
  (show Option (Bool) from
    (impl_FloorOk n a0_0 a0_1 a0_2).bind fun (x1 : Bool) =>
    bif (!x1) then
      some true
    else
      (impl_isCell a0_0 a0_1 a0_2 a1).bind fun (x2 : Bool) =>
      some (!x2)).bind fun (x3 : Bool) =>
  bif x3 then
    some 0
  else
    ((getI a0_2 a1)).bind fun (x4 : Int) =>
    some x4

def impl_standsOk (n : Nat) (a0_0 : Int) (a0_1 : Int) (a0_2 : List Int) (a1_0 : Int) (a1_1 : Int) (a1_2 : Int) (a1_3 : Bool) (a1_4 : Int) : Option (Bool) :=
  (show Option (Bool) from
    (impl_KindAt n a0_0 a0_1 a0_2 a1_1).bind fun (x1 : Int) =>
    bif (x1 != 0) then
      bif (a1_2 == (-1)) then
        some true
      else
        (impl_KindAt n a0_0 a0_1 a0_2 a1_2).bind fun (x2 : Int) =>
        some (x2 != 0)
    else
      some false).bind fun (x3 : Bool) =>
  some x3

def impl_CrewOk_L2 (a1 : List SIIIBI) (x3 : Int) (x4 : SIIIBI) (x12 : Int) : Option ((Int) ⊕ ((Int) ⊕ (Bool))) :=
  bif (decide (x12 < ((List.length (sub a1 (Int.toNat (0 : Int)) (Int.toNat x3)) : Int)))) then
    ((getI (sub a1 (Int.toNat (0 : Int)) (Int.toNat x3)) x12)).bind fun (x13 : SIIIBI) =>
    bif (x13.2.1 == x4.2.1) then
      some (.inr (.inr false))
    else
      some (.inl (w64 (x12 + 1)))
  else
    some (.inr (.inl x12))

def impl_CrewOk_L1 (n : Nat) (a0_0 : Int) (a0_1 : Int) (a0_2 : List Int) (a1 : List SIIIBI) (x3 : Int) : Option ((Int) ⊕ ((Int) ⊕ (Bool))) :=
  bif (decide (x3 < ((List.length a1 : Int)))) then
    ((getI a1 x3)).bind fun (x4 : SIIIBI) =>
    (show Option (Bool) from
      (impl_in x4.1 1 99).bind fun (x5 : Bool) =>
      bif (!x5) then
        some true
      else
        bif (decide (x3 > 0)) then
          ((getI a1 (w64 (x3 - 1)))).bind fun (x6 : SIIIBI) =>
          bif (decide (x6.1 ≥ x4.1)) then
            some true
          else
            (impl_standsOk n a0_0 a0_1 a0_2 x4.1 x4.2.1 x4.2.2.1 x4.2.2.2.1 x4.2.2.2.2).bind fun (x7 : Bool) =>
            bif (!x7) then
              some true
            else
              (impl_in x4.2.2.2.2 0 1000000).bind fun (x8 : Bool) =>
              some (!x8)
        else
          (impl_standsOk n a0_0 a0_1 a0_2 x4.1 x4.2.1 x4.2.2.1 x4.2.2.2.1 x4.2.2.2.2).bind fun (x9 : Bool) =>
          bif (!x9) then
            some true
          else
            (impl_in x4.2.2.2.2 0 1000000).bind fun (x10 : Bool) =>
            some (!x10)).bind fun (x11 : Bool) =>
    bif x11 then
      some (.inr (.inr false))
    else
      bif (decide (0 ≤ (0 : Int)) && decide ((0 : Int) ≤ x3) && decide (x3 ≤ ((List.length a1 : Int)))) then
        (iter n (impl_CrewOk_L2 a1 x3 x4) 0).bind fun (x14 : (Int) ⊕ (Bool)) =>
        (match x14 with
        | .inl x15 => (
          some (.inl (w64 (x3 + 1))))
        | .inr x16 => (
          some (.inr (.inr x16))))
      else
        none
  else
    some (.inr (.inl x3))

def impl_CrewOk (n : Nat) (a0_0 : Int) (a0_1 : Int) (a0_2 : List Int) (a1 : List SIIIBI) : Option (Bool) :=
  (show Option (Bool) from
    (impl_FloorOk n a0_0 a0_1 a0_2).bind fun (x1 : Bool) =>
    bif (!x1) then
      some true
    else
      some (decide (((List.length a1 : Int)) > 20))).bind fun (x2 : Bool) =>
  bif x2 then
    some false
  else
    (iter n (impl_CrewOk_L1 n a0_0 a0_1 a0_2 a1) 0).bind fun (x17 : (Int) ⊕ (Bool)) =>
    (match x17 with
    | .inl x18 => (
      some true)
    | .inr x19 => (
      some x19))

def impl_Turns_L1 (a0 : List SIIIBI) (x1 : Int × (List Int)) : Option ((Int × (List Int)) ⊕ (Int × (List Int))) :=
  bif (decide (x1.1 < ((List.length a0 : Int)))) then
    bif (decide (List.length x1.2 + List.length [x1.1] ≤ maxRow)) then
      some (.inl ((w64 (x1.1 + 1)), (x1.2 ++ [x1.1])))
    else
      none
  else
    some (.inr (x1.1, x1.2))

def impl_Turns (n : Nat) (a0 : List SIIIBI) : Option ((List Int)) :=
  (iter n (impl_Turns_L1 a0) (0, ([] : List Int))).bind fun (x2 : Int × (List Int)) =>
  ((sortO (ltTurns a0) x2.2)).bind fun (x3 : List Int) =>
  some x3

def impl_beside (a0_0 : Int) (a0_1 : Int) (a0_2 : List Int) (a1 : Int) : Option ((List Int)) :=
  bif (a0_0 == 0) then
    none
  else
    bif (a0_0 == 0) then
      none
    else
      (show Option ((List Int)) from
        bif (decide ((w64 (Int.tdiv a1 a0_0)) > 0)) then
          bif (decide (List.length ([] : List Int) + List.length [(w64 (a1 - a0_0))] ≤ maxRow)) then
            some (([] : List Int) ++ [(w64 (a1 - a0_0))])
          else
            none
        else
          some ([] : List Int)).bind fun (x1 : (List Int)) =>
      (show Option ((List Int)) from
        bif (decide ((Int.tmod a1 a0_0) > 0)) then
          bif (decide (List.length x1 + List.length [(w64 (a1 - 1))] ≤ maxRow)) then
            some (x1 ++ [(w64 (a1 - 1))])
          else
            none
        else
          some x1).bind fun (x2 : (List Int)) =>
      (show Option ((List Int)) from
        bif (decide ((Int.tmod a1 a0_0) < (w64 (a0_0 - 1)))) then
          bif (decide (List.length x2 + List.length [(w64 (a1 + 1))] ≤ maxRow)) then
            some (x2 ++ [(w64 (a1 + 1))])
          else
            none
        else
          some x2).bind fun (x3 : (List Int)) =>
      (show Option ((List Int)) from
        bif (decide ((w64 (Int.tdiv a1 a0_0)) < (w64 (a0_1 - 1)))) then
          bif (decide (List.length x3 + List.length [(w64 (a1 + a0_0))] ≤ maxRow)) then
            some (x3 ++ [(w64 (a1 + a0_0))])
          else
            none
        else
          some x3).bind fun (x4 : (List Int)) =>
      some x4

def impl_near_L1 (a0_2 : List Int) (a2 : Bool) (x1 : (List Int)) (x2 : (List Int) × Int) : Option (((List Int) × Int) ⊕ ((List Int) × Int)) :=
  bif (decide (x2.2 < ((List.length x1 : Int)))) then
    (show Option ((List Int)) from
      bif (inb x1 x2.2) then
        ((x1[(Int.toNat x2.2)]?)).bind fun (x4 : Int) =>
        ((getI a0_2 x4)).bind fun (x5 : Int) =>
        (show Option (Bool) from
          bif (x5 != 0) then
            bif (!a2) then
              some true
            else
              some (x5 != 2)
          else
            some false).bind fun (x6 : Bool) =>
        bif x6 then
          bif (decide (List.length x2.1 + List.length [x4] ≤ maxRow)) then
            some (x2.1 ++ [x4])
          else
            none
        else
          some x2.1
      else
        none).bind fun (x3 : (List Int)) =>
    some (.inl (x3, (w64 (x2.2 + 1))))
  else
    some (.inr (x2.1, x2.2))

def impl_near (n : Nat) (a0_0 : Int) (a0_1 : Int) (a0_2 : List Int) (a1 : Int) (a2 : Bool) : Option ((List Int)) :=
  (impl_beside a0_0 a0_1 a0_2 a1).bind fun (x1 : (List Int)) =>
  (iter n (impl_near_L1 a0_2 a2 x1) (([] : List Int), 0)).bind fun (x7 : (List Int) × Int) =>
  some x7.1

def impl_hasInt_L1 (a0 : List Int) (a1 : Int) (x1 : Int) : Option ((Int) ⊕ ((Int) ⊕ (Bool))) :=
  bif (decide (x1 < ((List.length a0 : Int)))) then
    ((getI a0 x1)).bind fun (x2 : Int) =>
    bif (x2 == a1) then
      some (.inr (.inr true))
    else
      some (.inl (w64 (x1 + 1)))
  else
    some (.inr (.inl x1))

def impl_hasInt (n : Nat) (a0 : List Int) (a1 : Int) : Option (Bool) :=
  (iter n (impl_hasInt_L1 a0 a1) 0).bind fun (x3 : (Int) ⊕ (Bool)) =>
  (match x3 with
  | .inl x4 => (
    some false)
  | .inr x5 => (
    some x5))

def impl_field_L1 (a0_2 : List Int) (x1 : Int × (List Int)) : Option ((Int × (List Int)) ⊕ (Int × (List Int))) :=
  bif (decide (x1.1 < ((List.length (List.replicate (Int.toNat ((List.length a0_2 : Int))) (0 : Int)) : Int)))) then
    bif (inb x1.2 x1.1) then
      some (.inl ((w64 (x1.1 + 1)), (upd x1.2 (Int.toNat x1.1) (-1))))
    else
      none
  else
    some (.inr (x1.1, x1.2))

def impl_field_L3 (x4 : Int) (x7 : (List Int)) (x8 : (List Int) × Int × (List Int)) : Option (((List Int) × Int × (List Int)) ⊕ ((List Int) × Int × (List Int))) :=
  bif (decide (x8.2.1 < ((List.length x7 : Int)))) then
    (show Option ((List Int) × (List Int)) from
      bif (inb x7 x8.2.1) then
        ((x7[(Int.toNat x8.2.1)]?)).bind fun (x10 : Int) =>
        bif (inb x8.2.2 x10) then
          ((x8.2.2[(Int.toNat x10)]?)).bind fun (x11 : Int) =>
          bif (decide (x11 < 0)) then
            bif (inb x8.2.2 x4) then
              ((x8.2.2[(Int.toNat x4)]?)).bind fun (x12 : Int) =>
              bif (inb x8.2.2 x10) then
                bif (decide (List.length x8.1 + List.length [x10] ≤ maxRow)) then
                  some ((x8.1 ++ [x10]), (upd x8.2.2 (Int.toNat x10) (w64 (x12 + 1))))
                else
                  none
              else
                none
            else
              none
          else
            some (x8.1, x8.2.2)
        else
          none
      else
        none).bind fun (x9 : (List Int) × (List Int)) =>
    some (.inl (x9.1, (w64 (x8.2.1 + 1)), x9.2))
  else
    some (.inr (x8.1, x8.2.1, x8.2.2))

def impl_field_L2 (n : Nat) (a0_0 : Int) (a0_1 : Int) (a0_2 : List Int) (a1 : Int) (a2 : Bool) (x3 : (List Int) × (List Int)) : Option (((List Int) × (List Int)) ⊕ ((List Int) × (List Int))) :=
  bif (decide (((List.length x3.1 : Int)) > 0)) then
    bif (inb x3.1 0) then
      ((x3.1[(Int.toNat 0)]?)).bind fun (x4 : Int) =>
      bif (decide (0 ≤ 1) && decide (1 ≤ ((List.length x3.1 : Int))) && decide (((List.length x3.1 : Int)) ≤ ((List.length x3.1 : Int)))) then
        (show Option (Bool) from
          bif a2 then
            bif (x4 != a1) then
              ((getI a0_2 x4)).bind fun (x5 : Int) =>
              some (x5 == 2)
            else
              some false
          else
            some false).bind fun (x6 : Bool) =>
        bif x6 then
          some (.inl ((sub x3.1 (Int.toNat 1) (Int.toNat ((List.length x3.1 : Int)))), x3.2))
        else
          (impl_near n a0_0 a0_1 a0_2 x4 false).bind fun (x7 : (List Int)) =>
          (iter n (impl_field_L3 x4 x7) ((sub x3.1 (Int.toNat 1) (Int.toNat ((List.length x3.1 : Int)))), 0, x3.2)).bind fun (x13 : (List Int) × Int × (List Int)) =>
          some (.inl (x13.1, x13.2.2))
      else
        none
    else
      none
  else
    some (.inr (x3.1, x3.2))

def impl_field (n : Nat) (a0_0 : Int) (a0_1 : Int) (a0_2 : List Int) (a1 : Int) (a2 : Bool) : Option ((List Int)) :=
  bif (decide (0 ≤ ((List.length a0_2 : Int))) && decide (((List.length a0_2 : Int)) ≤ (maxRow : Int)) && decide (((List.length a0_2 : Int)) = ((List.length a0_2 : Int)))) then
    (iter n (impl_field_L1 a0_2) (0, (List.replicate (Int.toNat ((List.length a0_2 : Int))) (0 : Int)))).bind fun (x2 : Int × (List Int)) =>
    bif (inb x2.2 a1) then
      (iter n (impl_field_L2 n a0_0 a0_1 a0_2 a1 a2) ([a1], (upd x2.2 (Int.toNat a1) 0))).bind fun (x14 : (List Int) × (List Int)) =>
      some x14.2
    else
      none
  else
    none

def impl_Choices_L1 (a0_2 : List Int) (x10 : Int × (List Int)) : Option ((Int × (List Int)) ⊕ (Int × (List Int))) :=
  bif (decide (x10.1 < ((List.length (List.replicate (Int.toNat ((List.length a0_2 : Int))) (0 : Int)) : Int)))) then
    bif (inb x10.2 x10.1) then
      some (.inl ((w64 (x10.1 + 1)), (upd x10.2 (Int.toNat x10.1) 1)))
    else
      none
  else
    some (.inr (x10.1, x10.2))

def impl_Choices (n : Nat) (a0_0 : Int) (a0_1 : Int) (a0_2 : List Int) (a1_0 : Int) (a1_1 : Int) (a1_2 : Int) (a1_3 : Bool) (a1_4 : Int) : Option ((List Int)) :=
  (show Option (Bool) from
    (impl_FloorOk n a0_0 a0_1 a0_2).bind fun (x1 : Bool) =>
    bif (!x1) then
      some true
    else
      (impl_standsOk n a0_0 a0_1 a0_2 a1_0 a1_1 a1_2 a1_3 a1_4).bind fun (x2 : Bool) =>
      some (!x2)).bind fun (x3 : Bool) =>
  bif x3 then
    some ([] : List Int)
  else
    (impl_near n a0_0 a0_1 a0_2 a1_1 a1_3).bind fun (x4 : (List Int)) =>
    bif (decide (List.length x4 + List.length [a1_1] ≤ maxRow)) then
      (show Option ((List Int)) from
        (show Option (Bool) from
          bif (decide (a1_2 ≥ 0)) then
            (impl_hasInt n (x4 ++ [a1_1]) a1_2).bind fun (x6 : Bool) =>
            bif (!x6) then
              (impl_beside a0_0 a0_1 a0_2 a1_1).bind fun (x7 : (List Int)) =>
              (impl_hasInt n x7 a1_2).bind fun (x8 : Bool) =>
              some x8
            else
              some false
          else
            some false).bind fun (x9 : Bool) =>
        bif x9 then
          bif (decide (List.length (x4 ++ [a1_1]) + List.length [a1_2] ≤ maxRow)) then
            some ((x4 ++ [a1_1]) ++ [a1_2])
          else
            none
        else
          some (x4 ++ [a1_1])).bind fun (x5 : (List Int)) =>
      bif (decide (0 ≤ ((List.length a0_2 : Int))) && decide (((List.length a0_2 : Int)) ≤ (maxRow : Int)) && decide (((List.length a0_2 : Int)) = ((List.length a0_2 : Int)))) then
        (iter n (impl_Choices_L1 a0_2) (0, (List.replicate (Int.toNat ((List.length a0_2 : Int))) (0 : Int)))).bind fun (x11 : Int × (List Int)) =>
        bif (inb x11.2 a1_1) then
          (show Option ((List Int)) from
            bif (decide (a1_2 ≥ 0)) then
              (impl_field n a0_0 a0_1 a0_2 a1_2 a1_3).bind fun (x13 : (List Int)) =>
              some x13
            else
              some (upd x11.2 (Int.toNat a1_1) 0)).bind fun (x12 : (List Int)) =>
          ((sortO (ltChoices x12 a0_2 a1_1) x5)).bind fun (x14 : List Int) =>
          some x14
        else
          none
      else
        none
    else
      none

def impl_mover_taken (n : Nat) (a0_0 : Int) (a0_1 : Int) (a0_2 : List Int) (a0_3 : List SIIIBI) (a0_4 : List Int) (a1 : Int) : Option (Bool × Int × Int × (List Int) × (List SIIIBI) × (List Int)) :=
  (impl_hasInt n a0_4 a1).bind fun (x1 : Bool) =>
  some (x1, a0_0, a0_1, a0_2, a0_3, a0_4)

def impl_mover_there_L1 (a0_0 : Int) (a0_1 : Int) (a0_2 : List Int) (a0_3 : List SIIIBI) (a0_4 : List Int) (a1 : Int) (a2 : Int) (x1 : Int) : Option ((Int) ⊕ ((Int) ⊕ (Int × Int × Int × (List Int) × (List SIIIBI) × (List Int)))) :=
  bif (decide (x1 < ((List.length a0_3 : Int)))) then
    ((getI a0_3 x1)).bind fun (x2 : SIIIBI) =>
    (show Option (Bool) from
      bif (x2.2.1 == a1) then
        bif (x1 != a2) then
          bif (inb a0_4 x1) then
            ((a0_4[(Int.toNat x1)]?)).bind fun (x3 : Int) =>
            some (decide (x3 < 0))
          else
            none
        else
          some false
      else
        some false).bind fun (x4 : Bool) =>
    bif x4 then
      some (.inr (.inr (x1, a0_0, a0_1, a0_2, a0_3, a0_4)))
    else
      some (.inl (w64 (x1 + 1)))
  else
    some (.inr (.inl x1))

def impl_mover_there (n : Nat) (a0_0 : Int) (a0_1 : Int) (a0_2 : List Int) (a0_3 : List SIIIBI) (a0_4 : List Int) (a1 : Int) (a2 : Int) : Option (Int × Int × Int × (List Int) × (List SIIIBI) × (List Int)) :=
  (iter n (impl_mover_there_L1 a0_0 a0_1 a0_2 a0_3 a0_4 a1 a2) 0).bind fun (x5 : (Int) ⊕ (Int × Int × Int × (List Int) × (List SIIIBI) × (List Int))) =>
  (match x5 with
  | .inl x6 => (
    some ((-1), a0_0, a0_1, a0_2, a0_3, a0_4))
  | .inr x7 => (
    some x7))

def impl_mover_choose_L1 (self : Int → Int → (List Int) → (List SIIIBI) → (List Int) → Int → Int → Option (Bool × Int × Int × (List Int) × (List SIIIBI) × (List Int))) (n : Nat) (a1 : Int) (a2 : Int) (x2 : (List Int)) (x3 : Int × Int × Int × (List Int) × (List SIIIBI) × (List Int)) : Option ((Int × Int × Int × (List Int) × (List SIIIBI) × (List Int)) ⊕ ((Int × Int × Int × (List Int) × (List SIIIBI) × (List Int)) ⊕ (Bool × Int × Int × (List Int) × (List SIIIBI) × (List Int)))) :=
  bif (decide (x3.1 < ((List.length x2 : Int)))) then
    (show Option ((SIILIJLIIIBIJLIJ) ⊕ (Bool × Int × Int × (List Int) × (List SIIIBI) × (List Int))) from
      bif (inb x2 x3.1) then
        ((x2[(Int.toNat x3.1)]?)).bind fun (x5 : Int) =>
        (show Option (Bool × Int × Int × (List Int) × (List SIIIBI) × (List Int)) from
          (impl_mover_taken n x3.2.1 x3.2.2.1 x3.2.2.2.1 x3.2.2.2.2.1 x3.2.2.2.2.2 x5).bind fun (x6 : Bool × Int × Int × (List Int) × (List SIIIBI) × (List Int)) =>
          bif x6.1 then
            some (true, x6.2.1, x6.2.2.1, x6.2.2.2.1, x6.2.2.2.2.1, x6.2.2.2.2.2)
          else
            bif (decide (a2 ≥ 0)) then
              ((getI x6.2.2.2.2.1 a2)).bind fun (x7 : SIIIBI) =>
              some ((x5 == x7.2.1), x6.2.1, x6.2.2.1, x6.2.2.2.1, x6.2.2.2.2.1, x6.2.2.2.2.2)
            else
              some (false, x6.2.1, x6.2.2.1, x6.2.2.2.1, x6.2.2.2.2.1, x6.2.2.2.2.2)).bind fun (x8 : Bool × Int × Int × (List Int) × (List SIIIBI) × (List Int)) =>
        bif x8.1 then
          some (.inl (x8.2.1, x8.2.2.1, x8.2.2.2.1, x8.2.2.2.2.1, x8.2.2.2.2.2))
        else
          bif (inb x8.2.2.2.2.2 a1) then
            (impl_mover_there n x8.2.1 x8.2.2.1 x8.2.2.2.1 x8.2.2.2.2.1 (upd x8.2.2.2.2.2 (Int.toNat a1) x5) x5 a1).bind fun (x9 : Int × Int × Int × (List Int) × (List SIIIBI) × (List Int)) =>
            (show Option (Bool × Int × Int × (List Int) × (List SIIIBI) × (List Int)) from
              bif (decide (x9.1 < 0)) then
                some (true, x9.2.1, x9.2.2.1, x9.2.2.2.1, x9.2.2.2.2.1, x9.2.2.2.2.2)
              else
                (self x9.2.1 x9.2.2.1 x9.2.2.2.1 x9.2.2.2.2.1 x9.2.2.2.2.2 x9.1 a1).bind fun (x10 : Bool × Int × Int × (List Int) × (List SIIIBI) × (List Int)) =>
                some (x10.1, x10.2.1, x10.2.2.1, x10.2.2.2.1, x10.2.2.2.2.1, x10.2.2.2.2.2)).bind fun (x11 : Bool × Int × Int × (List Int) × (List SIIIBI) × (List Int)) =>
            bif x11.1 then
              some (.inr (true, x11.2.1, x11.2.2.1, x11.2.2.2.1, x11.2.2.2.2.1, x11.2.2.2.2.2))
            else
              bif (inb x11.2.2.2.2.2 a1) then
                some (.inl (x11.2.1, x11.2.2.1, x11.2.2.2.1, x11.2.2.2.2.1, (upd x11.2.2.2.2.2 (Int.toNat a1) (-1))))
              else
                none
          else
            none
      else
        none).bind fun (x4 : (SIILIJLIIIBIJLIJ) ⊕ (Bool × Int × Int × (List Int) × (List SIIIBI) × (List Int))) =>
    (match x4 with
    | .inl x12 => (
      some (.inl ((w64 (x3.1 + 1)), x12.1, x12.2.1, x12.2.2.1, x12.2.2.2.1, x12.2.2.2.2)))
    | .inr x13 => (
      some (.inr (.inr x13))))
  else
    some (.inr (.inl (x3.1, x3.2.1, x3.2.2.1, x3.2.2.2.1, x3.2.2.2.2.1, x3.2.2.2.2.2)))

def impl_mover_choose : Nat → Int → Int → (List Int) → (List SIIIBI) → (List Int) → Int → Int → Option (Bool × Int × Int × (List Int) × (List SIIIBI) × (List Int))
| 0, _, _, _, _, _, _, _ => none
| n + 1, a0_0, a0_1, a0_2, a0_3, a0_4, a1, a2 =>
  ((getI a0_3 a1)).bind fun (x1 : SIIIBI) =>
  (impl_Choices n a0_0 a0_1 a0_2 x1.1 x1.2.1 x1.2.2.1 x1.2.2.2.1 x1.2.2.2.2).bind fun (x2 : (List Int)) =>
  (iter n (impl_mover_choose_L1 (impl_mover_choose n) n a1 a2 x2) (0, a0_0, a0_1, a0_2, a0_3, a0_4)).bind fun (x14 : (Int × Int × Int × (List Int) × (List SIIIBI) × (List Int)) ⊕ (Bool × Int × Int × (List Int) × (List SIIIBI) × (List Int))) =>
  (match x14 with
  | .inl x15 => (
    ((getI x15.2.2.2.2.1 a1)).bind fun (x17 : SIIIBI) =>
    bif (inb x15.2.2.2.2.2 a1) then
      some (false, x15.2.1, x15.2.2.1, x15.2.2.2.1, x15.2.2.2.2.1, (upd x15.2.2.2.2.2 (Int.toNat a1) x17.2.1))
    else
      none)
  | .inr x16 => (
    some x16))

def impl_Step_L1 (a1 : List SIIIBI) (x2 : Int × Int × Int × (List Int) × (List SIIIBI) × (List Int)) : Option ((Int × Int × Int × (List Int) × (List SIIIBI) × (List Int)) ⊕ (Int × Int × Int × (List Int) × (List SIIIBI) × (List Int))) :=
  bif (decide (x2.1 < ((List.length a1 : Int)))) then
    bif (decide (List.length x2.2.2.2.2.2 + List.length [(-1)] ≤ maxRow)) then
      some (.inl ((w64 (x2.1 + 1)), x2.2.1, x2.2.2.1, x2.2.2.2.1, x2.2.2.2.2.1, (x2.2.2.2.2.2 ++ [(-1)])))
    else
      none
  else
    some (.inr (x2.1, x2.2.1, x2.2.2.1, x2.2.2.2.1, x2.2.2.2.2.1, x2.2.2.2.2.2))

def impl_Step_L2 (n : Nat) (x4 : (List Int)) (x5 : Int × Int × Int × (List Int) × (List SIIIBI) × (List Int)) : Option ((Int × Int × Int × (List Int) × (List SIIIBI) × (List Int)) ⊕ (Int × Int × Int × (List Int) × (List SIIIBI) × (List Int))) :=
  bif (decide (x5.1 < ((List.length x4 : Int)))) then
    (show Option (SIILIJLIIIBIJLIJ) from
      bif (inb x4 x5.1) then
        ((x4[(Int.toNat x5.1)]?)).bind fun (x7 : Int) =>
        bif (inb x5.2.2.2.2.2 x7) then
          ((x5.2.2.2.2.2[(Int.toNat x7)]?)).bind fun (x8 : Int) =>
          bif (decide (x8 < 0)) then
            (impl_mover_choose n x5.2.1 x5.2.2.1 x5.2.2.2.1 x5.2.2.2.2.1 x5.2.2.2.2.2 x7 (-1)).bind fun (x9 : Bool × Int × Int × (List Int) × (List SIIIBI) × (List Int)) =>
            some (x9.2.1, x9.2.2.1, x9.2.2.2.1, x9.2.2.2.2.1, x9.2.2.2.2.2)
          else
            some (x5.2.1, x5.2.2.1, x5.2.2.2.1, x5.2.2.2.2.1, x5.2.2.2.2.2)
        else
          none
      else
        none).bind fun (x6 : SIILIJLIIIBIJLIJ) =>
    some (.inl ((w64 (x5.1 + 1)), x6.1, x6.2.1, x6.2.2.1, x6.2.2.2.1, x6.2.2.2.2))
  else
    some (.inr (x5.1, x5.2.1, x5.2.2.1, x5.2.2.2.1, x5.2.2.2.2.1, x5.2.2.2.2.2))

def impl_Step (n : Nat) (a0_0 : Int) (a0_1 : Int) (a0_2 : List Int) (a1 : List SIIIBI) : Option ((List Int)) :=
  (impl_CrewOk n a0_0 a0_1 a0_2 a1).bind fun (x1 : Bool) =>
  bif (!x1) then
    some ([] : List Int)
  else
    (iter n (impl_Step_L1 a1) (0, a0_0, a0_1, a0_2, a1, ([] : List Int))).bind fun (x3 : Int × Int × Int × (List Int) × (List SIIIBI) × (List Int)) =>
    (impl_Turns n a1).bind fun (x4 : (List Int)) =>
    (iter n (impl_Step_L2 n x4) (0, x3.2.1, x3.2.2.1, x3.2.2.2.1, x3.2.2.2.2.1, x3.2.2.2.2.2)).bind fun (x10 : Int × Int × Int × (List Int) × (List SIIIBI) × (List Int)) =>
    some x10.2.2.2.2.2

def impl_Advance_L1 (x3 : (List Int)) (x4 : Int × (List SIIIBI)) : Option ((Int × (List SIIIBI)) ⊕ (Int × (List SIIIBI))) :=
  bif (decide (x4.1 < ((List.length x3 : Int)))) then
    (show Option ((List SIIIBI)) from
      bif (inb x3 x4.1) then
        ((x3[(Int.toNat x4.1)]?)).bind fun (x6 : Int) =>
        bif (inb x4.2 x4.1) then
          (((List.modify x4.2 (Int.toNat x4.1) (fun (y : SIIIBI) => (y.1, x6, y.2.2.1, y.2.2.2.1, y.2.2.2.2)))[(Int.toNat x4.1)]?)).bind fun (x7 : SIIIBI) =>
          (((List.modify (List.modify x4.2 (Int.toNat x4.1) (fun (y : SIIIBI) => (y.1, x6, y.2.2.1, y.2.2.2.1, y.2.2.2.2))) (Int.toNat x4.1) (fun (y : SIIIBI) => (y.1, y.2.1, y.2.2.1, y.2.2.2.1, (minI (w64 (x7.2.2.2.2 + 1)) 1000000))))[(Int.toNat x4.1)]?)).bind fun (x8 : SIIIBI) =>
          (impl_rests x8.1 x8.2.1 x8.2.2.1 x8.2.2.2.1 x8.2.2.2.2).bind fun (x9 : Bool) =>
          bif x9 then
            some (List.modify (List.modify (List.modify x4.2 (Int.toNat x4.1) (fun (y : SIIIBI) => (y.1, x6, y.2.2.1, y.2.2.2.1, y.2.2.2.2))) (Int.toNat x4.1) (fun (y : SIIIBI) => (y.1, y.2.1, y.2.2.1, y.2.2.2.1, (minI (w64 (x7.2.2.2.2 + 1)) 1000000)))) (Int.toNat x4.1) (fun (y : SIIIBI) => (y.1, y.2.1, y.2.2.1, y.2.2.2.1, 0)))
          else
            some (List.modify (List.modify x4.2 (Int.toNat x4.1) (fun (y : SIIIBI) => (y.1, x6, y.2.2.1, y.2.2.2.1, y.2.2.2.2))) (Int.toNat x4.1) (fun (y : SIIIBI) => (y.1, y.2.1, y.2.2.1, y.2.2.2.1, (minI (w64 (x7.2.2.2.2 + 1)) 1000000))))
        else
          none
      else
        none).bind fun (x5 : (List SIIIBI)) =>
    some (.inl ((w64 (x4.1 + 1)), x5))
  else
    some (.inr (x4.1, x4.2))

def impl_Advance (n : Nat) (a0_0 : Int) (a0_1 : Int) (a0_2 : List Int) (a1 : List SIIIBI) : Option ((List SIIIBI)) :=
  (impl_copyCrew a1).bind fun (x1 : (List SIIIBI)) =>
  (impl_CrewOk n a0_0 a0_1 a0_2 a1).bind fun (x2 : Bool) =>
  bif (!x2) then
    some x1
  else
    (impl_Step n a0_0 a0_1 a0_2 a1).bind fun (x3 : (List Int)) =>
    (iter n (impl_Advance_L1 x3) (0, x1)).bind fun (x10 : Int × (List SIIIBI)) =>
    some x10.2

def impl_Drive_L1 (a1 : List SIIIBI) (x2 : (List Bool) × Int) : Option (((List Bool) × Int) ⊕ ((List Bool) × Int)) :=
  bif (decide (x2.2 < ((List.length a1 : Int)))) then
    ((getI a1 x2.2)).bind fun (x3 : SIIIBI) =>
    (impl_rests x3.1 x3.2.1 x3.2.2.1 x3.2.2.2.1 x3.2.2.2.2).bind fun (x4 : Bool) =>
    bif (decide (List.length x2.1 + List.length [x4] ≤ maxRow)) then
      some (.inl ((x2.1 ++ [x4]), (w64 (x2.2 + 1))))
    else
      none
  else
    some (.inr (x2.1, x2.2))

def impl_Drive_L3 (x8 : (List SIIIBI)) (x9 : Int × (List Bool)) : Option ((Int × (List Bool)) ⊕ (Int × (List Bool))) :=
  bif (decide (x9.1 < ((List.length x8 : Int)))) then
    bif (inb x8 x9.1) then
      ((x8[(Int.toNat x9.1)]?)).bind fun (x10 : SIIIBI) =>
      (show Option ((List Bool)) from
        bif (inb x9.2 x9.1) then
          ((x9.2[(Int.toNat x9.1)]?)).bind fun (x11 : Bool) =>
          bif x11 then
            bif (inb x9.2 x9.1) then
              some (upd x9.2 (Int.toNat x9.1) true)
            else
              none
          else
            (impl_rests x10.1 x10.2.1 x10.2.2.1 x10.2.2.2.1 x10.2.2.2.2).bind fun (x12 : Bool) =>
            bif (inb x9.2 x9.1) then
              some (upd x9.2 (Int.toNat x9.1) x12)
            else
              none
        else
          none).bind fun (x13 : (List Bool)) =>
      some (.inl ((w64 (x9.1 + 1)), x13))
    else
      none
  else
    some (.inr (x9.1, x9.2))

def impl_Drive_L2 (n : Nat) (a0_0 : Int) (a0_1 : Int) (a0_2 : List Int) (a2 : Int) (x6 : (List SIIIBI) × Int × (List Bool)) : Option (((List SIIIBI) × Int × (List Bool)) ⊕ ((List SIIIBI) × Int × (List Bool))) :=
  (show Option (Bool) from
    bif (decide (x6.2.1 < a2)) then
      some (decide (a2 ≤ 1000))
    else
      some false).bind fun (x7 : Bool) =>
  bif x7 then
    (impl_Advance n a0_0 a0_1 a0_2 x6.1).bind fun (x8 : (List SIIIBI)) =>
    (iter n (impl_Drive_L3 x8) (0, x6.2.2)).bind fun (x14 : Int × (List Bool)) =>
    some (.inl (x8, (w64 (x6.2.1 + 1)), x14.2))
  else
    some (.inr (x6.1, x6.2.1, x6.2.2))

def impl_Drive (n : Nat) (a0_0 : Int) (a0_1 : Int) (a0_2 : List Int) (a1 : List SIIIBI) (a2 : Int) : Option ((List SIIIBI) × (List Bool)) :=
  (impl_copyCrew a1).bind fun (x1 : (List SIIIBI)) =>
  (iter n (impl_Drive_L1 a1) (([] : List Bool), 0)).bind fun (x5 : (List Bool) × Int) =>
  (iter n (impl_Drive_L2 n a0_0 a0_1 a0_2 a2) (x1, 0, x5.1)).bind fun (x15 : (List SIIIBI) × Int × (List Bool)) =>
  some (x15.1, x15.2.2)

def laws_eqRobot (a0_0 : Int) (a0_1 : Int) (a0_2 : Int) (a0_3 : Bool) (a0_4 : Int) (a1_0 : Int) (a1_1 : Int) (a1_2 : Int) (a1_3 : Bool) (a1_4 : Int) : Option (Bool) :=
  bif (a0_0 != a1_0) then
    some false
  else
    bif (a0_1 != a1_1) then
      some false
    else
      bif (a0_2 != a1_2) then
        some false
      else
        bif (a0_3 != a1_3) then
          some false
        else
          bif (a0_4 != a1_4) then
            some false
          else
            some true

def laws_eqRobotS_L1 (a0 : List SIIIBI) (a1 : List SIIIBI) (x1 : Int) : Option ((Int) ⊕ ((Int) ⊕ (Bool))) :=
  bif (decide (x1 < ((List.length a0 : Int)))) then
    ((getI a0 x1)).bind fun (x2 : SIIIBI) =>
    ((getI a1 x1)).bind fun (x3 : SIIIBI) =>
    (laws_eqRobot x2.1 x2.2.1 x2.2.2.1 x2.2.2.2.1 x2.2.2.2.2 x3.1 x3.2.1 x3.2.2.1 x3.2.2.2.1 x3.2.2.2.2).bind fun (x4 : Bool) =>
    bif (!x4) then
      some (.inr (.inr false))
    else
      some (.inl (w64 (x1 + 1)))
  else
    some (.inr (.inl x1))

def laws_eqRobotS (n : Nat) (a0 : List SIIIBI) (a1 : List SIIIBI) : Option (Bool) :=
  bif (((List.length a0 : Int)) != ((List.length a1 : Int))) then
    some false
  else
    (iter n (laws_eqRobotS_L1 a0 a1) 0).bind fun (x5 : (Int) ⊕ (Bool)) =>
    (match x5 with
    | .inl x6 => (
      some true)
    | .inr x7 => (
      some x7))

def laws_eqBoolS_L1 (a0 : List Bool) (a1 : List Bool) (x1 : Int) : Option ((Int) ⊕ ((Int) ⊕ (Bool))) :=
  bif (decide (x1 < ((List.length a0 : Int)))) then
    ((getI a0 x1)).bind fun (x2 : Bool) =>
    ((getI a1 x1)).bind fun (x3 : Bool) =>
    bif (x2 != x3) then
      some (.inr (.inr false))
    else
      some (.inl (w64 (x1 + 1)))
  else
    some (.inr (.inl x1))

def laws_eqBoolS (n : Nat) (a0 : List Bool) (a1 : List Bool) : Option (Bool) :=
  bif (((List.length a0 : Int)) != ((List.length a1 : Int))) then
    some false
  else
    (iter n (laws_eqBoolS_L1 a0 a1) 0).bind fun (x4 : (Int) ⊕ (Bool)) =>
    (match x4 with
    | .inl x5 => (
      some true)
    | .inr x6 => (
      some x6))

def laws_eqIntS_L1 (a0 : List Int) (a1 : List Int) (x1 : Int) : Option ((Int) ⊕ ((Int) ⊕ (Bool))) :=
  bif (decide (x1 < ((List.length a0 : Int)))) then
    ((getI a0 x1)).bind fun (x2 : Int) =>
    ((getI a1 x1)).bind fun (x3 : Int) =>
    bif (x2 != x3) then
      some (.inr (.inr false))
    else
      some (.inl (w64 (x1 + 1)))
  else
    some (.inr (.inl x1))

def laws_eqIntS (n : Nat) (a0 : List Int) (a1 : List Int) : Option (Bool) :=
  bif (((List.length a0 : Int)) != ((List.length a1 : Int))) then
    some false
  else
    (iter n (laws_eqIntS_L1 a0 a1) 0).bind fun (x4 : (Int) ⊕ (Bool)) =>
    (match x4 with
    | .inl x5 => (
      some true)
    | .inr x6 => (
      some x6))

def laws_eqFloor (n : Nat) (a0_0 : Int) (a0_1 : Int) (a0_2 : List Int) (a1_0 : Int) (a1_1 : Int) (a1_2 : List Int) : Option (Bool) :=
  bif (a0_0 != a1_0) then
    some false
  else
    bif (a0_1 != a1_1) then
      some false
    else
      (laws_eqIntS n a0_2 a1_2).bind fun (x1 : Bool) =>
      bif (!x1) then
        some false
      else
        some true

def laws_markIntS_L1 (x1 : SIILIJ) : Option ((SIILIJ) ⊕ (SIILIJ)) :=
  bif (decide (x1.2.1 < ((List.length x1.2.2 : Int)))) then
    bif (inb x1.2.2 x1.2.1) then
      some (.inl ((w64 (x1.1 + 1)), (w64 (x1.2.1 + 1)), (upd x1.2.2 (Int.toNat x1.2.1) x1.1)))
    else
      none
  else
    some (.inr (x1.1, x1.2.1, x1.2.2))

def laws_markIntS (n : Nat) (a0 : List Int) (a1 : Int) : Option (Int × (List Int)) :=
  (iter n (laws_markIntS_L1) (a1, 0, a0)).bind fun (x2 : SIILIJ) =>
  some (x2.1, x2.2.2)

def laws_markFloor (n : Nat) (a0_0 : Int) (a0_1 : Int) (a0_2 : List Int) (a1 : Int) : Option (Int × Int × Int × (List Int)) :=
  (laws_markIntS n a0_2 a1).bind fun (x1 : Int × (List Int)) =>
  some (x1.1, a0_0, a0_1, x1.2)

def laws_markRobotS_L1 (x1 : Int × Int × (List SIIIBI)) : Option ((Int × Int × (List SIIIBI)) ⊕ (Int × Int × (List SIIIBI))) :=
  bif (decide (x1.2.1 < ((List.length x1.2.2 : Int)))) then
    bif (inb x1.2.2 x1.2.1) then
      bif (inb (List.modify x1.2.2 (Int.toNat x1.2.1) (fun (y : SIIIBI) => (x1.1, y.2.1, y.2.2.1, y.2.2.2.1, y.2.2.2.2))) x1.2.1) then
        bif (inb (List.modify (List.modify x1.2.2 (Int.toNat x1.2.1) (fun (y : SIIIBI) => (x1.1, y.2.1, y.2.2.1, y.2.2.2.1, y.2.2.2.2))) (Int.toNat x1.2.1) (fun (y : SIIIBI) => (y.1, (w64 (x1.1 + 1)), y.2.2.1, y.2.2.2.1, y.2.2.2.2))) x1.2.1) then
          bif (inb (List.modify (List.modify (List.modify x1.2.2 (Int.toNat x1.2.1) (fun (y : SIIIBI) => (x1.1, y.2.1, y.2.2.1, y.2.2.2.1, y.2.2.2.2))) (Int.toNat x1.2.1) (fun (y : SIIIBI) => (y.1, (w64 (x1.1 + 1)), y.2.2.1, y.2.2.2.1, y.2.2.2.2))) (Int.toNat x1.2.1) (fun (y : SIIIBI) => (y.1, y.2.1, (w64 ((w64 (x1.1 + 1)) + 1)), y.2.2.2.1, y.2.2.2.2))) x1.2.1) then
            bif (inb (List.modify (List.modify (List.modify (List.modify x1.2.2 (Int.toNat x1.2.1) (fun (y : SIIIBI) => (x1.1, y.2.1, y.2.2.1, y.2.2.2.1, y.2.2.2.2))) (Int.toNat x1.2.1) (fun (y : SIIIBI) => (y.1, (w64 (x1.1 + 1)), y.2.2.1, y.2.2.2.1, y.2.2.2.2))) (Int.toNat x1.2.1) (fun (y : SIIIBI) => (y.1, y.2.1, (w64 ((w64 (x1.1 + 1)) + 1)), y.2.2.2.1, y.2.2.2.2))) (Int.toNat x1.2.1) (fun (y : SIIIBI) => (y.1, y.2.1, y.2.2.1, ((Int.tmod (w64 ((w64 ((w64 (x1.1 + 1)) + 1)) + 1)) 3) == 0), y.2.2.2.2))) x1.2.1) then
              some (.inl ((w64 ((w64 ((w64 ((w64 ((w64 (x1.1 + 1)) + 1)) + 1)) + 1)) + 1)), (w64 (x1.2.1 + 1)), (List.modify (List.modify (List.modify (List.modify (List.modify x1.2.2 (Int.toNat x1.2.1) (fun (y : SIIIBI) => (x1.1, y.2.1, y.2.2.1, y.2.2.2.1, y.2.2.2.2))) (Int.toNat x1.2.1) (fun (y : SIIIBI) => (y.1, (w64 (x1.1 + 1)), y.2.2.1, y.2.2.2.1, y.2.2.2.2))) (Int.toNat x1.2.1) (fun (y : SIIIBI) => (y.1, y.2.1, (w64 ((w64 (x1.1 + 1)) + 1)), y.2.2.2.1, y.2.2.2.2))) (Int.toNat x1.2.1) (fun (y : SIIIBI) => (y.1, y.2.1, y.2.2.1, ((Int.tmod (w64 ((w64 ((w64 (x1.1 + 1)) + 1)) + 1)) 3) == 0), y.2.2.2.2))) (Int.toNat x1.2.1) (fun (y : SIIIBI) => (y.1, y.2.1, y.2.2.1, y.2.2.2.1, (w64 ((w64 ((w64 ((w64 (x1.1 + 1)) + 1)) + 1)) + 1)))))))
            else
              none
          else
            none
        else
          none
      else
        none
    else
      none
  else
    some (.inr (x1.1, x1.2.1, x1.2.2))

def laws_markRobotS (n : Nat) (a0 : List SIIIBI) (a1 : Int) : Option (Int × (List SIIIBI)) :=
  (iter n (laws_markRobotS_L1) (a1, 0, a0)).bind fun (x2 : Int × Int × (List SIIIBI)) =>
  some (x2.1, x2.2.2)

def laws_markBoolS_L1 (x1 : Int × Int × (List Bool)) : Option ((Int × Int × (List Bool)) ⊕ (Int × Int × (List Bool))) :=
  bif (decide (x1.2.1 < ((List.length x1.2.2 : Int)))) then
    bif (inb x1.2.2 x1.2.1) then
      some (.inl ((w64 (x1.1 + 1)), (w64 (x1.2.1 + 1)), (upd x1.2.2 (Int.toNat x1.2.1) ((Int.tmod x1.1 3) == 0))))
    else
      none
  else
    some (.inr (x1.1, x1.2.1, x1.2.2))

def laws_markBoolS (n : Nat) (a0 : List Bool) (a1 : Int) : Option (Int × (List Bool)) :=
  (iter n (laws_markBoolS_L1) (a1, 0, a0)).bind fun (x2 : Int × Int × (List Bool)) =>
  some (x2.1, x2.2.2)

def laws_heldRobotS_L1 (a0 : List SIIIBI) (x1 : SII) : Option ((SII) ⊕ ((SII) ⊕ (Int))) :=
  bif (decide (x1.2 < ((List.length a0 : Int)))) then
    ((getI a0 x1.2)).bind fun (x2 : SIIIBI) =>
    bif (x2.1 != x1.1) then
      some (.inr (.inr (-1)))
    else
      ((getI a0 x1.2)).bind fun (x3 : SIIIBI) =>
      bif (x3.2.1 != (w64 (x1.1 + 1))) then
        some (.inr (.inr (-1)))
      else
        ((getI a0 x1.2)).bind fun (x4 : SIIIBI) =>
        bif (x4.2.2.1 != (w64 ((w64 (x1.1 + 1)) + 1))) then
          some (.inr (.inr (-1)))
        else
          ((getI a0 x1.2)).bind fun (x5 : SIIIBI) =>
          bif (x5.2.2.2.1 != ((Int.tmod (w64 ((w64 ((w64 (x1.1 + 1)) + 1)) + 1)) 3) == 0)) then
            some (.inr (.inr (-1)))
          else
            ((getI a0 x1.2)).bind fun (x6 : SIIIBI) =>
            bif (x6.2.2.2.2 != (w64 ((w64 ((w64 ((w64 (x1.1 + 1)) + 1)) + 1)) + 1))) then
              some (.inr (.inr (-1)))
            else
              some (.inl ((w64 ((w64 ((w64 ((w64 ((w64 (x1.1 + 1)) + 1)) + 1)) + 1)) + 1)), (w64 (x1.2 + 1))))
  else
    some (.inr (.inl (x1.1, x1.2)))

def laws_heldRobotS (n : Nat) (a0 : List SIIIBI) (a1 : Int) : Option (Int) :=
  (iter n (laws_heldRobotS_L1 a0) (a1, 0)).bind fun (x7 : (SII) ⊕ (Int)) =>
  (match x7 with
  | .inl x8 => (
    some x8.1)
  | .inr x9 => (
    some x9))

def laws_heldBoolS_L1 (a0 : List Bool) (x1 : SII) : Option ((SII) ⊕ ((SII) ⊕ (Int))) :=
  bif (decide (x1.2 < ((List.length a0 : Int)))) then
    ((getI a0 x1.2)).bind fun (x2 : Bool) =>
    bif (x2 != ((Int.tmod x1.1 3) == 0)) then
      some (.inr (.inr (-1)))
    else
      some (.inl ((w64 (x1.1 + 1)), (w64 (x1.2 + 1))))
  else
    some (.inr (.inl (x1.1, x1.2)))

def laws_heldBoolS (n : Nat) (a0 : List Bool) (a1 : Int) : Option (Int) :=
  (iter n (laws_heldBoolS_L1 a0) (a1, 0)).bind fun (x3 : (SII) ⊕ (Int)) =>
  (match x3 with
  | .inl x4 => (
    some x4.1)
  | .inr x5 => (
    some x5))

def laws_FnExactDrive (n : Nat) (a0_0 : Int) (a0_1 : Int) (a0_2 : List Int) (a1 : List SIIIBI) (a2 : Int) : Option (Bool) :=
  (laws_szFloor a0_0 a0_1 a0_2 1048576).bind fun (x1 : Int) =>
  bif (decide (x1 < 0)) then
    some true
  else
    (laws_szRobotS a1 x1).bind fun (x2 : Int) =>
    bif (decide (x2 < 0)) then
      some true
    else
      (laws_toFloor n a0_0 a0_1 a0_2).bind fun (x3 : SIILIJ) =>
      (laws_toRobotS n a1).bind fun (x4 : (List SIIIBI)) =>
      (spec_Drive n x3.1 x3.2.1 x3.2.2 x4 a2).bind fun (x5 : (List SIIIBI) × (List Bool)) =>
      (laws_toFloor n a0_0 a0_1 a0_2).bind fun (x6 : SIILIJ) =>
      (laws_toRobotS n a1).bind fun (x7 : (List SIIIBI)) =>
      (impl_Drive n x6.1 x6.2.1 x6.2.2 x7 a2).bind fun (x8 : (List SIIIBI) × (List Bool)) =>
      (show Option (Bool) from
        (laws_eqRobotS n x8.1 x5.1).bind fun (x9 : Bool) =>
        bif (!x9) then
          some true
        else
          (laws_eqBoolS n x8.2 x5.2).bind fun (x10 : Bool) =>
          some (!x10)).bind fun (x11 : Bool) =>
      bif x11 then
        some false
      else
        (laws_toFloor n a0_0 a0_1 a0_2).bind fun (x12 : SIILIJ) =>
        (laws_eqFloor n x6.1 x6.2.1 x6.2.2 x12.1 x12.2.1 x12.2.2).bind fun (x13 : Bool) =>
        bif (!x13) then
          some false
        else
          (laws_toRobotS n a1).bind fun (x14 : (List SIIIBI)) =>
          (laws_eqRobotS n x7 x14).bind fun (x15 : Bool) =>
          bif (!x15) then
            some false
          else
            (laws_markFloor n x6.1 x6.2.1 x6.2.2 1).bind fun (x16 : Int × Int × Int × (List Int)) =>
            (laws_markRobotS n x7 x16.1).bind fun (x17 : Int × (List SIIIBI)) =>
            (show Option (Bool) from
              bif (decide (x17.1 < 0)) then
                some true
              else
                (laws_eqRobotS n x8.1 x5.1).bind fun (x18 : Bool) =>
                bif (!x18) then
                  some true
                else
                  (laws_eqBoolS n x8.2 x5.2).bind fun (x19 : Bool) =>
                  some (!x19)).bind fun (x20 : Bool) =>
            bif x20 then
              some false
            else
              (laws_markRobotS n x8.1 1).bind fun (x21 : Int × (List SIIIBI)) =>
              (laws_markBoolS n x8.2 x21.1).bind fun (x22 : Int × (List Bool)) =>
              (laws_heldRobotS n x21.2 1).bind fun (x23 : Int) =>
              bif (decide (x23 < 0)) then
                some false
              else
                (laws_heldBoolS n x22.2 x23).bind fun (x24 : Int) =>
                bif (decide (x24 < 0)) then
                  some false
                else
                  bif (x24 != x22.1) then
                    some false
                  else
                    (laws_toFloor n a0_0 a0_1 a0_2).bind fun (x25 : SIILIJ) =>
                    (laws_toRobotS n a1).bind fun (x26 : (List SIIIBI)) =>
                    (impl_Drive n x25.1 x25.2.1 x25.2.2 x26 a2).bind fun (x27 : (List SIIIBI) × (List Bool)) =>
                    (show Option (Bool) from
                      (laws_eqRobotS n x27.1 x5.1).bind fun (x28 : Bool) =>
                      bif (!x28) then
                        some true
                      else
                        (laws_eqBoolS n x27.2 x5.2).bind fun (x29 : Bool) =>
                        some (!x29)).bind fun (x30 : Bool) =>
                    bif x30 then
                      some false
                    else
                      (laws_heldRobotS n x21.2 1).bind fun (x31 : Int) =>
                      bif (decide (x31 < 0)) then
                        some false
                      else
                        (laws_heldBoolS n x22.2 x31).bind fun (x32 : Int) =>
                        bif (decide (x32 < 0)) then
                          some false
                        else
                          bif (x32 != x22.1) then
                            some false
                          else
                            some true

end Go.Ev.N
