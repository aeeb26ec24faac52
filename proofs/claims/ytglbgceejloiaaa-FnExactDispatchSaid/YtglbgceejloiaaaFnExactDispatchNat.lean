/- The native forms of the functions, as gen.py prints them. Conditions: none. -/
import Derived.Test.YtglbgceejloiaaaLib4
namespace Go.Ev.N
open Go Go.Ev
set_option linter.unusedVariables false

def w64 (n : Int) : Int := IntKind.wrap .i64 n

abbrev STI := (List UInt8) × Int

abbrev SII := Int × Int

abbrev SIII := Int × Int × Int

abbrev SIIBI := Int × Int × Bool × Int

abbrev SIIII := Int × Int × Int × Int

abbrev SIIIBI := Int × Int × Int × Bool × Int

abbrev SIILIJ := Int × Int × (List Int)

abbrev SIILIIIJ := Int × Int × (List SIII)

abbrev SLIJII := (List Int) × Int × Int

abbrev SIILIIJLIIIJI := Int × Int × (List SII) × (List SIII) × Int

abbrev SILIILIIJLIIIJIJ := Int × (List SIILIIJLIIIJI)

abbrev SIILIJLIILIIIJJILIILIIJLIIIJIJLIIIBIJLIIIIJLIJLIJI := Int × Int × (List Int) × (List SIILIIIJ) × Int × (List SIILIIJLIIIJI) × (List SIIIBI) × (List SIIII) × (List Int) × (List Int) × Int

def laws_szIntS (a0 : List Int) (a1 : Int) : Option (Int) :=
  bif (decide ((w64 (a1 - ((List.length a0 : Int)))) < 0)) then
    some (-1)
  else
    some (w64 (a1 - ((List.length a0 : Int))))

def laws_szFloor (a0_0 : Int) (a0_1 : Int) (a0_2 : List Int) (a1 : Int) : Option (Int) :=
  (laws_szIntS a0_2 a1).bind fun (x1 : Int) =>
  bif (decide (x1 < 0)) then
    some (-1)
  else
    some x1

def laws_szStackS (a0 : List SIII) (a1 : Int) : Option (Int) :=
  bif (decide ((w64 (a1 - ((List.length a0 : Int)))) < 0)) then
    some (-1)
  else
    some (w64 (a1 - ((List.length a0 : Int))))

def laws_szPod (a0_0 : Int) (a0_1 : Int) (a0_2 : List SIII) (a1 : Int) : Option (Int) :=
  (laws_szStackS a0_2 a1).bind fun (x1 : Int) =>
  bif (decide (x1 < 0)) then
    some (-1)
  else
    some x1

def laws_szPodS_L1 (a0 : List SIILIIIJ) (x1 : SII) : Option ((SII) ⊕ ((SII) ⊕ (Int))) :=
  bif (decide (x1.2 < ((List.length a0 : Int)))) then
    ((getI a0 x1.2)).bind fun (x2 : SIILIIIJ) =>
    (laws_szPod x2.1 x2.2.1 x2.2.2 x1.1).bind fun (x3 : Int) =>
    bif (decide (x3 < 0)) then
      some (.inr (.inr (-1)))
    else
      some (.inl (x3, (w64 (x1.2 + 1))))
  else
    some (.inr (.inl (x1.1, x1.2)))

def laws_szPodS (n : Nat) (a0 : List SIILIIIJ) (a1 : Int) : Option (Int) :=
  bif (decide ((w64 (a1 - ((List.length a0 : Int)))) < 0)) then
    some (-1)
  else
    (iter n (laws_szPodS_L1 a0) ((w64 (a1 - ((List.length a0 : Int)))), 0)).bind fun (x4 : (SII) ⊕ (Int)) =>
    (match x4 with
    | .inl x5 => (
      some x5.1)
    | .inr x6 => (
      some x6))

def laws_szStock (n : Nat) (a0 : List SIILIIIJ) (a1 : Int) : Option (Int) :=
  (laws_szPodS n a0 a1).bind fun (x1 : Int) =>
  bif (decide (x1 < 0)) then
    some (-1)
  else
    some x1

def laws_szRobotS (a0 : List SIIIBI) (a1 : Int) : Option (Int) :=
  bif (decide ((w64 (a1 - ((List.length a0 : Int)))) < 0)) then
    some (-1)
  else
    some (w64 (a1 - ((List.length a0 : Int))))

def laws_szTaskS (a0 : List SIIII) (a1 : Int) : Option (Int) :=
  bif (decide ((w64 (a1 - ((List.length a0 : Int)))) < 0)) then
    some (-1)
  else
    some (w64 (a1 - ((List.length a0 : Int))))

def laws_toIntS_L1 (a0 : List Int) (x1 : Int × (List Int)) : Option ((Int × (List Int)) ⊕ (Int × (List Int))) :=
  bif (decide (x1.1 < ((List.length a0 : Int)))) then
    ((getI a0 x1.1)).bind fun (x2 : Int) =>
    bif (inb x1.2 x1.1) then
      some (.inl ((w64 (x1.1 + 1)), (upd x1.2 (Int.toNat x1.1) x2)))
    else
      none
  else
    some (.inr (x1.1, x1.2))

def laws_toIntS (n : Nat) (a0 : List Int) : Option ((List Int)) :=
  bif (decide (0 ≤ ((List.length a0 : Int))) && decide (((List.length a0 : Int)) ≤ (maxRow : Int)) && decide (((List.length a0 : Int)) = ((List.length a0 : Int)))) then
    (iter n (laws_toIntS_L1 a0) (0, (List.replicate (Int.toNat ((List.length a0 : Int))) (0 : Int)))).bind fun (x3 : Int × (List Int)) =>
    some x3.2
  else
    none

def laws_toFloor (n : Nat) (a0_0 : Int) (a0_1 : Int) (a0_2 : List Int) : Option (SIILIJ) :=
  (laws_toIntS n a0_2).bind fun (x1 : (List Int)) =>
  some (a0_0, a0_1, x1)

def laws_toStack (a0_0 : Int) (a0_1 : Int) (a0_2 : Int) : Option (SIII) :=
  some (a0_0, a0_1, a0_2)

def laws_toStackS_L1 (a0 : List SIII) (x1 : Int × (List SIII)) : Option ((Int × (List SIII)) ⊕ (Int × (List SIII))) :=
  bif (decide (x1.1 < ((List.length a0 : Int)))) then
    ((getI a0 x1.1)).bind fun (x2 : SIII) =>
    (laws_toStack x2.1 x2.2.1 x2.2.2).bind fun (x3 : SIII) =>
    bif (inb x1.2 x1.1) then
      some (.inl ((w64 (x1.1 + 1)), (upd x1.2 (Int.toNat x1.1) (x3.1, x3.2.1, x3.2.2))))
    else
      none
  else
    some (.inr (x1.1, x1.2))

def laws_toStackS (n : Nat) (a0 : List SIII) : Option ((List SIII)) :=
  bif (decide (0 ≤ ((List.length a0 : Int))) && decide (((List.length a0 : Int)) ≤ (maxRow : Int)) && decide (((List.length a0 : Int)) = ((List.length a0 : Int)))) then
    (iter n (laws_toStackS_L1 a0) (0, (List.replicate (Int.toNat ((List.length a0 : Int))) ((0, 0, 0) : SIII)))).bind fun (x4 : Int × (List SIII)) =>
    some x4.2
  else
    none

def laws_toPod (n : Nat) (a0_0 : Int) (a0_1 : Int) (a0_2 : List SIII) : Option (SIILIIIJ) :=
  (laws_toStackS n a0_2).bind fun (x1 : (List SIII)) =>
  some (a0_0, a0_1, x1)

def laws_toPodS_L1 (n : Nat) (a0 : List SIILIIIJ) (x1 : Int × (List SIILIIIJ)) : Option ((Int × (List SIILIIIJ)) ⊕ (Int × (List SIILIIIJ))) :=
  bif (decide (x1.1 < ((List.length a0 : Int)))) then
    ((getI a0 x1.1)).bind fun (x2 : SIILIIIJ) =>
    (laws_toPod n x2.1 x2.2.1 x2.2.2).bind fun (x3 : SIILIIIJ) =>
    bif (inb x1.2 x1.1) then
      some (.inl ((w64 (x1.1 + 1)), (upd x1.2 (Int.toNat x1.1) (x3.1, x3.2.1, x3.2.2))))
    else
      none
  else
    some (.inr (x1.1, x1.2))

def laws_toPodS (n : Nat) (a0 : List SIILIIIJ) : Option ((List SIILIIIJ)) :=
  bif (decide (0 ≤ ((List.length a0 : Int))) && decide (((List.length a0 : Int)) ≤ (maxRow : Int)) && decide (((List.length a0 : Int)) = ((List.length a0 : Int)))) then
    (iter n (laws_toPodS_L1 n a0) (0, (List.replicate (Int.toNat ((List.length a0 : Int))) ((0, 0, ([] : List SIII)) : SIILIIIJ)))).bind fun (x4 : Int × (List SIILIIIJ)) =>
    some x4.2
  else
    none

def laws_toStock (n : Nat) (a0 : List SIILIIIJ) : Option ((List SIILIIIJ)) :=
  (laws_toPodS n a0).bind fun (x1 : (List SIILIIIJ)) =>
  some x1

def laws_toRobot (a0_0 : Int) (a0_1 : Int) (a0_2 : Int) (a0_3 : Bool) (a0_4 : Int) : Option (SIIIBI) :=
  some (a0_0, a0_1, a0_2, a0_3, a0_4)

def laws_toRobotS_L1 (a0 : List SIIIBI) (x1 : Int × (List SIIIBI)) : Option ((Int × (List SIIIBI)) ⊕ (Int × (List SIIIBI))) :=
  bif (decide (x1.1 < ((List.length a0 : Int)))) then
    ((getI a0 x1.1)).bind fun (x2 : SIIIBI) =>
    (laws_toRobot x2.1 x2.2.1 x2.2.2.1 x2.2.2.2.1 x2.2.2.2.2).bind fun (x3 : SIIIBI) =>
    bif (inb x1.2 x1.1) then
      some (.inl ((w64 (x1.1 + 1)), (upd x1.2 (Int.toNat x1.1) (x3.1, x3.2.1, x3.2.2.1, x3.2.2.2.1, x3.2.2.2.2))))
    else
      none
  else
    some (.inr (x1.1, x1.2))

def laws_toRobotS (n : Nat) (a0 : List SIIIBI) : Option ((List SIIIBI)) :=
  bif (decide (0 ≤ ((List.length a0 : Int))) && decide (((List.length a0 : Int)) ≤ (maxRow : Int)) && decide (((List.length a0 : Int)) = ((List.length a0 : Int)))) then
    (iter n (laws_toRobotS_L1 a0) (0, (List.replicate (Int.toNat ((List.length a0 : Int))) ((0, 0, 0, false, 0) : SIIIBI)))).bind fun (x4 : Int × (List SIIIBI)) =>
    some x4.2
  else
    none

def laws_toTask (a0_0 : Int) (a0_1 : Int) (a0_2 : Int) (a0_3 : Int) : Option (SIIII) :=
  some (a0_0, a0_1, a0_2, a0_3)

def laws_toTaskS_L1 (a0 : List SIIII) (x1 : Int × (List SIIII)) : Option ((Int × (List SIIII)) ⊕ (Int × (List SIIII))) :=
  bif (decide (x1.1 < ((List.length a0 : Int)))) then
    ((getI a0 x1.1)).bind fun (x2 : SIIII) =>
    (laws_toTask x2.1 x2.2.1 x2.2.2.1 x2.2.2.2).bind fun (x3 : SIIII) =>
    bif (inb x1.2 x1.1) then
      some (.inl ((w64 (x1.1 + 1)), (upd x1.2 (Int.toNat x1.1) (x3.1, x3.2.1, x3.2.2.1, x3.2.2.2))))
    else
      none
  else
    some (.inr (x1.1, x1.2))

def laws_toTaskS (n : Nat) (a0 : List SIIII) : Option ((List SIIII)) :=
  bif (decide (0 ≤ ((List.length a0 : Int))) && decide (((List.length a0 : Int)) ≤ (maxRow : Int)) && decide (((List.length a0 : Int)) = ((List.length a0 : Int)))) then
    (iter n (laws_toTaskS_L1 a0) (0, (List.replicate (Int.toNat ((List.length a0 : Int))) ((0, 0, 0, 0) : SIIII)))).bind fun (x4 : Int × (List SIIII)) =>
    some x4.2
  else
    none

def spec_l1In (a0 : Int) (a1 : Int) (a2 : Int) : Option (Bool) :=
  (show Option (Bool) from
    bif (decide (a0 ≥ a1)) then
      some (decide (a0 ≤ a2))
    else
      some false).bind fun (x1 : Bool) =>
  some x1

def spec_l5Stacks_L1 (a0 : List SIII) (x1 : Int) : Option ((Int) ⊕ ((Int) ⊕ (Bool))) :=
  bif (decide (x1 < ((List.length a0 : Int)))) then
    (show Option (Bool) from
      ((getI a0 x1)).bind fun (x2 : SIII) =>
      (spec_l1In x2.1 1 50).bind fun (x3 : Bool) =>
      bif (!x3) then
        some true
      else
        ((getI a0 x1)).bind fun (x4 : SIII) =>
        (spec_l1In x4.2.1 1 1000).bind fun (x5 : Bool) =>
        bif (!x5) then
          some true
        else
          ((getI a0 x1)).bind fun (x6 : SIII) =>
          ((getI a0 x1)).bind fun (x7 : SIII) =>
          (spec_l1In x6.2.2 0 x7.2.1).bind fun (x8 : Bool) =>
          bif (!x8) then
            some true
          else
            bif (decide (x1 > 0)) then
              ((getI a0 (w64 (x1 - 1)))).bind fun (x9 : SIII) =>
              ((getI a0 x1)).bind fun (x10 : SIII) =>
              some (decide (x9.1 ≥ x10.1))
            else
              some false).bind fun (x11 : Bool) =>
    bif x11 then
      some (.inr (.inr false))
    else
      some (.inl (w64 (x1 + 1)))
  else
    some (.inr (.inl x1))

def spec_l5Stacks (n : Nat) (a0 : List SIII) : Option (Bool) :=
  (iter n (spec_l5Stacks_L1 a0) 0).bind fun (x12 : (Int) ⊕ (Bool)) =>
  (match x12 with
  | .inl x13 => (
    some (decide (((List.length a0 : Int)) ≤ 8)))
  | .inr x14 => (
    some x14))

def spec_StockOk_L2 (a0 : List SIILIIIJ) (x1 : Int) (x2 : SIILIIIJ) (x8 : Int) : Option ((Int) ⊕ ((Int) ⊕ (Bool))) :=
  bif (decide (x8 < x1)) then
    ((getI a0 x8)).bind fun (x9 : SIILIIIJ) =>
    bif (x9.2.1 == x2.2.1) then
      some (.inr (.inr false))
    else
      some (.inl (w64 (x8 + 1)))
  else
    some (.inr (.inl x8))

def spec_StockOk_L1 (n : Nat) (a0 : List SIILIIIJ) (x1 : Int) : Option ((Int) ⊕ ((Int) ⊕ (Bool))) :=
  bif (decide (x1 < ((List.length a0 : Int)))) then
    ((getI a0 x1)).bind fun (x2 : SIILIIIJ) =>
    (show Option (Bool) from
      (spec_l1In x2.1 1 999).bind fun (x3 : Bool) =>
      bif (!x3) then
        some true
      else
        (spec_l1In x2.2.1 0 99).bind fun (x4 : Bool) =>
        bif (!x4) then
          some true
        else
          (spec_l5Stacks n x2.2.2).bind fun (x5 : Bool) =>
          bif (!x5) then
            some true
          else
            bif (decide (x1 > 0)) then
              ((getI a0 (w64 (x1 - 1)))).bind fun (x6 : SIILIIIJ) =>
              some (decide (x6.1 ≥ x2.1))
            else
              some false).bind fun (x7 : Bool) =>
    bif x7 then
      some (.inr (.inr false))
    else
      (iter n (spec_StockOk_L2 a0 x1 x2) 0).bind fun (x10 : (Int) ⊕ (Bool)) =>
      (match x10 with
      | .inl x11 => (
        some (.inl (w64 (x1 + 1))))
      | .inr x12 => (
        some (.inr (.inr x12))))
  else
    some (.inr (.inl x1))

def spec_StockOk (n : Nat) (a0 : List SIILIIIJ) : Option (Bool) :=
  bif (decide (((List.length a0 : Int)) > 12)) then
    some false
  else
    (iter n (spec_StockOk_L1 n a0) 0).bind fun (x13 : (Int) ⊕ (Bool)) =>
    (match x13 with
    | .inl x14 => (
      some true)
    | .inr x15 => (
      some x15))

def spec_FloorOk_L1 (a0_2 : List Int) (x4 : Int) : Option ((Int) ⊕ ((Int) ⊕ (Bool))) :=
  bif (decide (x4 < ((List.length a0_2 : Int)))) then
    ((getI a0_2 x4)).bind fun (x5 : Int) =>
    (spec_l1In x5 0 4).bind fun (x6 : Bool) =>
    bif (!x6) then
      some (.inr (.inr false))
    else
      some (.inl (w64 (x4 + 1)))
  else
    some (.inr (.inl x4))

def spec_FloorOk (n : Nat) (a0_0 : Int) (a0_1 : Int) (a0_2 : List Int) : Option (Bool) :=
  (show Option (Bool) from
    (spec_l1In a0_0 1 10).bind fun (x1 : Bool) =>
    bif (!x1) then
      some true
    else
      (spec_l1In a0_1 1 10).bind fun (x2 : Bool) =>
      bif (!x2) then
        some true
      else
        some (((List.length a0_2 : Int)) != (w64 (a0_0 * a0_1)))).bind fun (x3 : Bool) =>
  bif x3 then
    some false
  else
    (iter n (spec_FloorOk_L1 a0_2) 0).bind fun (x7 : (Int) ⊕ (Bool)) =>
    (match x7 with
    | .inl x8 => (
      some true)
    | .inr x9 => (
      some x9))

def spec_l7Free (a0_0 : Int) (a0_1 : Int) (a0_2 : List Int) (a1 : Int) : Option (Bool) :=
  (show Option (Bool) from
    (spec_l1In a1 0 (w64 (((List.length a0_2 : Int)) - 1))).bind fun (x1 : Bool) =>
    bif x1 then
      ((getI a0_2 a1)).bind fun (x2 : Int) =>
      some (x2 != 0)
    else
      some false).bind fun (x3 : Bool) =>
  some x3

def spec_CrewOk_L2 (a1 : List SIIIBI) (x3 : Int) (x4 : SIIIBI) (x13 : Int) : Option ((Int) ⊕ ((Int) ⊕ (Bool))) :=
  bif (decide (x13 < x3)) then
    ((getI a1 x13)).bind fun (x14 : SIIIBI) =>
    bif (x14.2.1 == x4.2.1) then
      some (.inr (.inr false))
    else
      some (.inl (w64 (x13 + 1)))
  else
    some (.inr (.inl x13))

def spec_CrewOk_L1 (n : Nat) (a0_0 : Int) (a0_1 : Int) (a0_2 : List Int) (a1 : List SIIIBI) (x3 : Int) : Option ((Int) ⊕ ((Int) ⊕ (Bool))) :=
  bif (decide (x3 < ((List.length a1 : Int)))) then
    ((getI a1 x3)).bind fun (x4 : SIIIBI) =>
    (show Option (Bool) from
      (spec_l1In x4.1 1 99).bind fun (x5 : Bool) =>
      bif (!x5) then
        some true
      else
        (spec_l7Free a0_0 a0_1 a0_2 x4.2.1).bind fun (x6 : Bool) =>
        bif (!x6) then
          some true
        else
          bif (x4.2.2.1 != (-1)) then
            (spec_l7Free a0_0 a0_1 a0_2 x4.2.2.1).bind fun (x7 : Bool) =>
            bif (!x7) then
              some true
            else
              (spec_l1In x4.2.2.2.2 0 1000000).bind fun (x8 : Bool) =>
              bif (!x8) then
                some true
              else
                bif (decide (x3 > 0)) then
                  ((getI a1 (w64 (x3 - 1)))).bind fun (x9 : SIIIBI) =>
                  some (decide (x9.1 ≥ x4.1))
                else
                  some false
          else
            (spec_l1In x4.2.2.2.2 0 1000000).bind fun (x10 : Bool) =>
            bif (!x10) then
              some true
            else
              bif (decide (x3 > 0)) then
                ((getI a1 (w64 (x3 - 1)))).bind fun (x11 : SIIIBI) =>
                some (decide (x11.1 ≥ x4.1))
              else
                some false).bind fun (x12 : Bool) =>
    bif x12 then
      some (.inr (.inr false))
    else
      (iter n (spec_CrewOk_L2 a1 x3 x4) 0).bind fun (x15 : (Int) ⊕ (Bool)) =>
      (match x15 with
      | .inl x16 => (
        some (.inl (w64 (x3 + 1))))
      | .inr x17 => (
        some (.inr (.inr x17))))
  else
    some (.inr (.inl x3))

def spec_CrewOk (n : Nat) (a0_0 : Int) (a0_1 : Int) (a0_2 : List Int) (a1 : List SIIIBI) : Option (Bool) :=
  (show Option (Bool) from
    (spec_FloorOk n a0_0 a0_1 a0_2).bind fun (x1 : Bool) =>
    bif (!x1) then
      some true
    else
      some (decide (((List.length a1 : Int)) > 20))).bind fun (x2 : Bool) =>
  bif x2 then
    some false
  else
    (iter n (spec_CrewOk_L1 n a0_0 a0_1 a0_2 a1) 0).bind fun (x18 : (Int) ⊕ (Bool)) =>
    (match x18 with
    | .inl x19 => (
      some true)
    | .inr x20 => (
      some x20))

def spec_TasksOk_L2 (a0 : List SIIII) (x1 : Int) (x2 : SIIII) (x8 : Int) : Option ((Int) ⊕ ((Int) ⊕ (Bool))) :=
  bif (decide (x8 < x1)) then
    ((getI a0 x8)).bind fun (x9 : SIIII) =>
    (show Option (Bool) from
      bif (x9.1 == x2.1) then
        bif (x9.2.1 == x2.2.1) then
          some true
        else
          bif (!(x2.2.2.2 == 1)) then
            bif (x9.2.2.1 == x2.2.2.1) then
              some true
            else
              bif (!(x2.2.2.2 == 1)) then
                bif (x9.2.2.2 != 1) then
                  some (x9.2.1 == x2.2.1)
                else
                  some false
              else
                some false
          else
            bif (!(x2.2.2.2 == 1)) then
              bif (x9.2.2.2 != 1) then
                some (x9.2.1 == x2.2.1)
              else
                some false
            else
              some false
      else
        bif (!(x2.2.2.2 == 1)) then
          bif (x9.2.2.1 == x2.2.2.1) then
            some true
          else
            bif (!(x2.2.2.2 == 1)) then
              bif (x9.2.2.2 != 1) then
                some (x9.2.1 == x2.2.1)
              else
                some false
            else
              some false
        else
          bif (!(x2.2.2.2 == 1)) then
            bif (x9.2.2.2 != 1) then
              some (x9.2.1 == x2.2.1)
            else
              some false
          else
            some false).bind fun (x10 : Bool) =>
    bif x10 then
      some (.inr (.inr false))
    else
      some (.inl (w64 (x8 + 1)))
  else
    some (.inr (.inl x8))

def spec_TasksOk_L1 (n : Nat) (a0 : List SIIII) (x1 : Int) : Option ((Int) ⊕ ((Int) ⊕ (Bool))) :=
  bif (decide (x1 < ((List.length a0 : Int)))) then
    ((getI a0 x1)).bind fun (x2 : SIIII) =>
    (show Option (Bool) from
      (spec_l1In x2.1 1 1000000).bind fun (x3 : Bool) =>
      bif (!x3) then
        some true
      else
        (spec_l1In x2.2.1 1 999).bind fun (x4 : Bool) =>
        bif (!x4) then
          some true
        else
          (spec_l1In x2.2.2.2 1 4).bind fun (x5 : Bool) =>
          bif (!x5) then
            some true
          else
            (spec_l1In x2.2.2.1 0 99).bind fun (x6 : Bool) =>
            bif (!x6) then
              some true
            else
              some ((x2.2.2.1 == 0) != (x2.2.2.2 == 1))).bind fun (x7 : Bool) =>
    bif x7 then
      some (.inr (.inr false))
    else
      (iter n (spec_TasksOk_L2 a0 x1 x2) 0).bind fun (x11 : (Int) ⊕ (Bool)) =>
      (match x11 with
      | .inl x12 => (
        some (.inl (w64 (x1 + 1))))
      | .inr x13 => (
        some (.inr (.inr x13))))
  else
    some (.inr (.inl x1))

def spec_TasksOk (n : Nat) (a0 : List SIIII) : Option (Bool) :=
  bif (decide (((List.length a0 : Int)) > 60)) then
    some false
  else
    (iter n (spec_TasksOk_L1 n a0) 0).bind fun (x14 : (Int) ⊕ (Bool)) =>
    (match x14 with
    | .inl x15 => (
      some true)
    | .inr x16 => (
      some x16))

def spec_l12Idle_L2 (a0 : List SIIIBI) (a1 : List SIIII) (x1 : (List Int) × Int) (x7 : Bool × Int) : Option ((Bool × Int) ⊕ (Bool × Int)) :=
  bif (decide (x7.2 < ((List.length a1 : Int)))) then
    (show Option (Bool) from
      bif x7.1 then
        some true
      else
        ((getI a1 x7.2)).bind fun (x8 : SIIII) =>
        ((getI a0 x1.2)).bind fun (x9 : SIIIBI) =>
        some (x8.2.2.1 == x9.1)).bind fun (x10 : Bool) =>
    some (.inl (x10, (w64 (x7.2 + 1))))
  else
    some (.inr (x7.1, x7.2))

def spec_l12Idle_L1 (n : Nat) (a0 : List SIIIBI) (a1 : List SIIII) (x1 : (List Int) × Int) : Option (((List Int) × Int) ⊕ ((List Int) × Int)) :=
  (show Option (Bool) from
    bif (decide (x1.2 < ((List.length a0 : Int)))) then
      some (decide (((List.length x1.1 : Int)) < 10))
    else
      some false).bind fun (x2 : Bool) =>
  bif x2 then
    (show Option ((List Int)) from
      (show Option (Bool) from
        ((getI a0 x1.2)).bind fun (x4 : SIIIBI) =>
        bif (x4.2.2.1 != (-1)) then
          some true
        else
          ((getI a0 x1.2)).bind fun (x5 : SIIIBI) =>
          some x5.2.2.2.1).bind fun (x6 : Bool) =>
      (iter n (spec_l12Idle_L2 a0 a1 x1) (x6, 0)).bind fun (x11 : Bool × Int) =>
      bif (!x11.1) then
        bif (decide (List.length x1.1 + List.length [x1.2] ≤ maxRow)) then
          some (x1.1 ++ [x1.2])
        else
          none
      else
        some x1.1).bind fun (x3 : (List Int)) =>
    some (.inl (x3, (w64 (x1.2 + 1))))
  else
    some (.inr (x1.1, x1.2))

def spec_l12Idle (n : Nat) (a0 : List SIIIBI) (a1 : List SIIII) : Option ((List Int)) :=
  (iter n (spec_l12Idle_L1 n a0 a1) (([] : List Int), 0)).bind fun (x12 : (List Int) × Int) =>
  some x12.1

def spec_l5Pod_L1 (a0 : List SIILIIIJ) (a1 : Int) (x1 : Int) : Option ((Int) ⊕ ((Int) ⊕ (Int))) :=
  bif (decide (x1 < ((List.length a0 : Int)))) then
    ((getI a0 x1)).bind fun (x2 : SIILIIIJ) =>
    bif (x2.1 == a1) then
      some (.inr (.inr x1))
    else
      some (.inl (w64 (x1 + 1)))
  else
    some (.inr (.inl x1))

def spec_l5Pod (n : Nat) (a0 : List SIILIIIJ) (a1 : Int) : Option (Int) :=
  (iter n (spec_l5Pod_L1 a0 a1) 0).bind fun (x3 : (Int) ⊕ (Int)) =>
  (match x3 with
  | .inl x4 => (
    some (-1))
  | .inr x5 => (
    some x5))

def spec_l6Among_L1 (a0 : List Int) (a1 : Int) (x1 : Int) : Option ((Int) ⊕ ((Int) ⊕ (Bool))) :=
  bif (decide (x1 < ((List.length a0 : Int)))) then
    ((getI a0 x1)).bind fun (x2 : Int) =>
    bif (x2 == a1) then
      some (.inr (.inr true))
    else
      some (.inl (w64 (x1 + 1)))
  else
    some (.inr (.inl x1))

def spec_l6Among (n : Nat) (a0 : List Int) (a1 : Int) : Option (Bool) :=
  (iter n (spec_l6Among_L1 a0 a1) 0).bind fun (x3 : (Int) ⊕ (Bool)) =>
  (match x3 with
  | .inl x4 => (
    some false)
  | .inr x5 => (
    some x5))

def spec_l12Ready_L1 (a1 : List SIIII) (x1 : (List Int) × Int) : Option (((List Int) × Int) ⊕ ((List Int) × Int)) :=
  bif (decide (x1.2 < ((List.length a1 : Int)))) then
    (show Option ((List Int)) from
      ((getI a1 x1.2)).bind fun (x3 : SIIII) =>
      bif (x3.2.2.2 != 1) then
        ((getI a1 x1.2)).bind fun (x4 : SIIII) =>
        bif (decide (List.length x1.1 + List.length [x4.2.1] ≤ maxRow)) then
          some (x1.1 ++ [x4.2.1])
        else
          none
      else
        some x1.1).bind fun (x2 : (List Int)) =>
    some (.inl (x2, (w64 (x1.2 + 1))))
  else
    some (.inr (x1.1, x1.2))

def spec_l12Ready_L2 (n : Nat) (a0 : List SIILIIIJ) (a1 : List SIIII) (a2 : Int) (x6 : (List Int) × (List Int) × Int) : Option (((List Int) × (List Int) × Int) ⊕ ((List Int) × (List Int) × Int)) :=
  (show Option (Bool) from
    bif (decide (x6.2.2 < ((List.length a1 : Int)))) then
      some (decide (((List.length x6.1 : Int)) < a2))
    else
      some false).bind fun (x7 : Bool) =>
  bif x7 then
    (show Option ((List Int) × (List Int)) from
      (show Option (Bool) from
        ((getI a1 x6.2.2)).bind fun (x9 : SIIII) =>
        bif (x9.2.2.2 == 1) then
          ((getI a1 x6.2.2)).bind fun (x10 : SIIII) =>
          (spec_l5Pod n a0 x10.2.1).bind fun (x11 : Int) =>
          bif (decide (x11 ≥ 0)) then
            ((getI a1 x6.2.2)).bind fun (x12 : SIIII) =>
            (spec_l6Among n x6.2.1 x12.2.1).bind fun (x13 : Bool) =>
            some (!x13)
          else
            some false
        else
          some false).bind fun (x14 : Bool) =>
      bif x14 then
        bif (decide (List.length x6.1 + List.length [x6.2.2] ≤ maxRow)) then
          ((getI a1 x6.2.2)).bind fun (x15 : SIIII) =>
          bif (decide (List.length x6.2.1 + List.length [x15.2.1] ≤ maxRow)) then
            some ((x6.1 ++ [x6.2.2]), (x6.2.1 ++ [x15.2.1]))
          else
            none
        else
          none
      else
        some (x6.1, x6.2.1)).bind fun (x8 : (List Int) × (List Int)) =>
    some (.inl (x8.1, x8.2, (w64 (x6.2.2 + 1))))
  else
    some (.inr (x6.1, x6.2.1, x6.2.2))

def spec_l12Ready (n : Nat) (a0 : List SIILIIIJ) (a1 : List SIIII) (a2 : Int) : Option ((List Int)) :=
  (iter n (spec_l12Ready_L1 a1) (([] : List Int), 0)).bind fun (x5 : (List Int) × Int) =>
  (iter n (spec_l12Ready_L2 n a0 a1 a2) (([] : List Int), x5.1, 0)).bind fun (x16 : (List Int) × (List Int) × Int) =>
  some x16.1

def spec_l1Cell (n : Nat) (a0_0 : Int) (a0_1 : Int) (a0_2 : List Int) (a1 : Int) : Option (Bool) :=
  (show Option (Bool) from
    (spec_FloorOk n a0_0 a0_1 a0_2).bind fun (x1 : Bool) =>
    bif x1 then
      (spec_l1In a1 0 (w64 (((List.length a0_2 : Int)) - 1))).bind fun (x2 : Bool) =>
      some x2
    else
      some false).bind fun (x3 : Bool) =>
  some x3

def spec_l1Beside (a0_0 : Int) (a0_1 : Int) (a0_2 : List Int) (a1 : Int) : Option ((List Int)) :=
  bif (a0_0 == 0) then
    none
  else
    bif (a0_0 == 0) then
      none
    else
      (show Option ((List Int)) from
        bif (decide ((w64 (Int.tdiv a1 a0_0)) > 0)) then
          bif (decide (List.length ([] : List Int) + List.length [(w64 (a1 - a0_0))] ≤ maxRow)) then
            some (([] : List Int) ++ [(w64 (a1 - a0_0))])
          else
            none
        else
          some ([] : List Int)).bind fun (x1 : (List Int)) =>
      (show Option ((List Int)) from
        bif (decide ((Int.tmod a1 a0_0) > 0)) then
          bif (decide (List.length x1 + List.length [(w64 (a1 - 1))] ≤ maxRow)) then
            some (x1 ++ [(w64 (a1 - 1))])
          else
            none
        else
          some x1).bind fun (x2 : (List Int)) =>
      (show Option ((List Int)) from
        bif (decide ((Int.tmod a1 a0_0) < (w64 (a0_0 - 1)))) then
          bif (decide (List.length x2 + List.length [(w64 (a1 + 1))] ≤ maxRow)) then
            some (x2 ++ [(w64 (a1 + 1))])
          else
            none
        else
          some x2).bind fun (x3 : (List Int)) =>
      (show Option ((List Int)) from
        bif (decide ((w64 (Int.tdiv a1 a0_0)) < (w64 (a0_1 - 1)))) then
          bif (decide (List.length x3 + List.length [(w64 (a1 + a0_0))] ≤ maxRow)) then
            some (x3 ++ [(w64 (a1 + a0_0))])
          else
            none
        else
          some x3).bind fun (x4 : (List Int)) =>
      some x4

def spec_l1Near_L1 (a0_2 : List Int) (a2 : Bool) (x1 : (List Int)) (x2 : (List Int) × Int) : Option (((List Int) × Int) ⊕ ((List Int) × Int)) :=
  bif (decide (x2.2 < ((List.length x1 : Int)))) then
    (show Option ((List Int)) from
      bif (inb x1 x2.2) then
        ((x1[(Int.toNat x2.2)]?)).bind fun (x4 : Int) =>
        ((getI a0_2 x4)).bind fun (x5 : Int) =>
        (show Option (Bool) from
          bif (x5 != 0) then
            bif a2 then
              some (!(x5 == 2))
            else
              some true
          else
            some false).bind fun (x6 : Bool) =>
        bif x6 then
          bif (inb x1 x2.2) then
            ((x1[(Int.toNat x2.2)]?)).bind fun (x7 : Int) =>
            bif (decide (List.length x2.1 + List.length [x7] ≤ maxRow)) then
              some (x2.1 ++ [x7])
            else
              none
          else
            none
        else
          some x2.1
      else
        none).bind fun (x3 : (List Int)) =>
    some (.inl (x3, (w64 (x2.2 + 1))))
  else
    some (.inr (x2.1, x2.2))

def spec_l1Near (n : Nat) (a0_0 : Int) (a0_1 : Int) (a0_2 : List Int) (a1 : Int) (a2 : Bool) : Option ((List Int)) :=
  (spec_l1Beside a0_0 a0_1 a0_2 a1).bind fun (x1 : (List Int)) =>
  (iter n (spec_l1Near_L1 a0_2 a2 x1) (([] : List Int), 0)).bind fun (x8 : (List Int) × Int) =>
  some x8.1

def spec_l2Field_L1 (a0_2 : List Int) (x1 : (List Int) × Int) : Option (((List Int) × Int) ⊕ ((List Int) × Int)) :=
  bif (decide (x1.2 < ((List.length a0_2 : Int)))) then
    bif (decide (List.length x1.1 + List.length [(-1)] ≤ maxRow)) then
      some (.inl ((x1.1 ++ [(-1)]), (w64 (x1.2 + 1))))
    else
      none
  else
    some (.inr (x1.1, x1.2))

def spec_l2Field_L3 (x5 : Int) (x8 : (List Int)) (x9 : (List Int) × Int × (List Int)) : Option (((List Int) × Int × (List Int)) ⊕ ((List Int) × Int × (List Int))) :=
  bif (decide (x9.2.1 < ((List.length x8 : Int)))) then
    (show Option ((List Int) × (List Int)) from
      bif (inb x8 x9.2.1) then
        ((x8[(Int.toNat x9.2.1)]?)).bind fun (x11 : Int) =>
        bif (inb x9.2.2 x11) then
          ((x9.2.2[(Int.toNat x11)]?)).bind fun (x12 : Int) =>
          bif (decide (x12 < 0)) then
            bif (inb x8 x9.2.1) then
              ((x8[(Int.toNat x9.2.1)]?)).bind fun (x13 : Int) =>
              bif (inb x9.2.2 x5) then
                ((x9.2.2[(Int.toNat x5)]?)).bind fun (x14 : Int) =>
                bif (inb x9.2.2 x13) then
                  bif (inb x8 x9.2.1) then
                    ((x8[(Int.toNat x9.2.1)]?)).bind fun (x15 : Int) =>
                    bif (decide (List.length x9.1 + List.length [x15] ≤ maxRow)) then
                      some ((x9.1 ++ [x15]), (upd x9.2.2 (Int.toNat x13) (w64 (x14 + 1))))
                    else
                      none
                  else
                    none
                else
                  none
              else
                none
            else
              none
          else
            some (x9.1, x9.2.2)
        else
          none
      else
        none).bind fun (x10 : (List Int) × (List Int)) =>
    some (.inl (x10.1, (w64 (x9.2.1 + 1)), x10.2))
  else
    some (.inr (x9.1, x9.2.1, x9.2.2))

def spec_l2Field_L2 (n : Nat) (a0_0 : Int) (a0_1 : Int) (a0_2 : List Int) (a1 : Int) (a2 : Bool) (x3 : (List Int) × Int × (List Int)) : Option (((List Int) × Int × (List Int)) ⊕ ((List Int) × Int × (List Int))) :=
  bif (decide (x3.2.1 < ((List.length x3.1 : Int)))) then
    (show Option ((List Int) × (List Int)) from
      bif (inb x3.1 x3.2.1) then
        ((x3.1[(Int.toNat x3.2.1)]?)).bind fun (x5 : Int) =>
        (show Option (Bool) from
          bif (x5 != a1) then
            bif a2 then
              ((getI a0_2 x5)).bind fun (x6 : Int) =>
              some (x6 == 2)
            else
              some false
          else
            some false).bind fun (x7 : Bool) =>
        bif x7 then
          some (x3.1, x3.2.2)
        else
          (spec_l1Near n a0_0 a0_1 a0_2 x5 false).bind fun (x8 : (List Int)) =>
          (iter n (spec_l2Field_L3 x5 x8) (x3.1, 0, x3.2.2)).bind fun (x16 : (List Int) × Int × (List Int)) =>
          some (x16.1, x16.2.2)
      else
        none).bind fun (x4 : (List Int) × (List Int)) =>
    some (.inl (x4.1, (w64 (x3.2.1 + 1)), x4.2))
  else
    some (.inr (x3.1, x3.2.1, x3.2.2))

def spec_l2Field (n : Nat) (a0_0 : Int) (a0_1 : Int) (a0_2 : List Int) (a1 : Int) (a2 : Bool) : Option ((List Int)) :=
  (iter n (spec_l2Field_L1 a0_2) (([] : List Int), 0)).bind fun (x2 : (List Int) × Int) =>
  bif (inb x2.1 a1) then
    (iter n (spec_l2Field_L2 n a0_0 a0_1 a0_2 a1 a2) ([a1], 0, (upd x2.1 (Int.toNat a1) 0))).bind fun (x17 : (List Int) × Int × (List Int)) =>
    some x17.2.2
  else
    none

def spec_Field (n : Nat) (a0_0 : Int) (a0_1 : Int) (a0_2 : List Int) (a1 : Int) (a2 : Bool) : Option ((List Int)) :=
  (show Option (Bool) from
    (spec_l1Cell n a0_0 a0_1 a0_2 a1).bind fun (x1 : Bool) =>
    bif (!x1) then
      some true
    else
      ((getI a0_2 a1)).bind fun (x2 : Int) =>
      some (x2 == 0)).bind fun (x3 : Bool) =>
  bif x3 then
    some ([] : List Int)
  else
    (spec_l2Field n a0_0 a0_1 a0_2 a1 a2).bind fun (x4 : (List Int)) =>
    some x4

def spec_Steps (n : Nat) (a0_0 : Int) (a0_1 : Int) (a0_2 : List Int) (a1 : Int) (a2 : Int) : Option (Int) :=
  (spec_Field n a0_0 a0_1 a0_2 a2 false).bind fun (x1 : (List Int)) =>
  (show Option (Bool) from
    bif (((List.length x1 : Int)) == 0) then
      some true
    else
      (spec_l1Cell n a0_0 a0_1 a0_2 a1).bind fun (x2 : Bool) =>
      some (!x2)).bind fun (x3 : Bool) =>
  bif x3 then
    some (-1)
  else
    bif (inb x1 a1) then
      ((x1[(Int.toNat a1)]?)).bind fun (x4 : Int) =>
      some x4
    else
      none

def spec_l12Cost (n : Nat) (a0_0 : Int) (a0_1 : Int) (a0_2 : List Int) (a1 : Int) (a2 : Int) : Option (Int) :=
  (spec_Steps n a0_0 a0_1 a0_2 a1 a2).bind fun (x1 : Int) =>
  bif (decide (x1 < 0)) then
    some 100000
  else
    some x1

def spec_CostsOk_L2 (a0 : List ((List Int))) (x1 : Int) (x7 : Int) : Option ((Int) ⊕ ((Int) ⊕ (Bool))) :=
  ((getI a0 x1)).bind fun (x8 : (List Int)) =>
  bif (decide (x7 < ((List.length x8 : Int)))) then
    ((getI a0 x1)).bind fun (x9 : (List Int)) =>
    ((getI x9 x7)).bind fun (x10 : Int) =>
    (spec_l1In x10 0 100000).bind fun (x11 : Bool) =>
    bif (!x11) then
      some (.inr (.inr false))
    else
      some (.inl (w64 (x7 + 1)))
  else
    some (.inr (.inl x7))

def spec_CostsOk_L1 (n : Nat) (a0 : List ((List Int))) (x1 : Int) : Option ((Int) ⊕ ((Int) ⊕ (Bool))) :=
  bif (decide (x1 < ((List.length a0 : Int)))) then
    (show Option (Bool) from
      ((getI a0 x1)).bind fun (x2 : (List Int)) =>
      bif (decide (((List.length x2 : Int)) > 10)) then
        some true
      else
        ((getI a0 x1)).bind fun (x3 : (List Int)) =>
        ((getI a0 0)).bind fun (x4 : (List Int)) =>
        bif (((List.length x3 : Int)) != ((List.length x4 : Int))) then
          some true
        else
          ((getI a0 x1)).bind fun (x5 : (List Int)) =>
          some (decide (((List.length x5 : Int)) < ((List.length a0 : Int))))).bind fun (x6 : Bool) =>
    bif x6 then
      some (.inr (.inr false))
    else
      (iter n (spec_CostsOk_L2 a0 x1) 0).bind fun (x12 : (Int) ⊕ (Bool)) =>
      (match x12 with
      | .inl x13 => (
        some (.inl (w64 (x1 + 1))))
      | .inr x14 => (
        some (.inr (.inr x14))))
  else
    some (.inr (.inl x1))

def spec_CostsOk (n : Nat) (a0 : List ((List Int))) : Option (Bool) :=
  bif (decide (((List.length a0 : Int)) > 10)) then
    some false
  else
    (iter n (spec_CostsOk_L1 n a0) 0).bind fun (x15 : (Int) ⊕ (Bool)) =>
    (match x15 with
    | .inl x16 => (
      some true)
    | .inr x17 => (
      some x17))

def spec_l4Grow_L1 (a4 : Int) (x1 : Int × (List Int)) : Option ((Int × (List Int)) ⊕ (Int × (List Int))) :=
  bif (decide (x1.1 ≤ a4)) then
    bif (inb x1.2 x1.1) then
      some (.inl ((w64 (x1.1 + 1)), (upd x1.2 (Int.toNat x1.1) 1099511627776)))
    else
      none
  else
    some (.inr (x1.1, x1.2))

def spec_l4Grow_L3 (a0 : List ((List Int))) (a4 : Int) (x3 : Int × (List Int) × (List Int) × (List Int) × (List Int) × (List Bool)) (x4 : Int) (x5 : Int × Int × Int × (List Int) × (List Int)) : Option ((Int × Int × Int × (List Int) × (List Int)) ⊕ (Int × Int × Int × (List Int) × (List Int))) :=
  bif (decide (x5.2.2.1 ≤ a4)) then
    (show Option (Int × Int × (List Int) × (List Int)) from
      bif (inb (upd x3.2.2.2.2.2 (Int.toNat x3.1) true) x5.2.2.1) then
        (((upd x3.2.2.2.2.2 (Int.toNat x3.1) true)[(Int.toNat x5.2.2.1)]?)).bind fun (x7 : Bool) =>
        bif x7 then
          some (x5.1, x5.2.1, x5.2.2.2.1, x5.2.2.2.2)
        else
          ((getI a0 (w64 (x4 - 1)))).bind fun (x8 : (List Int)) =>
          ((getI x8 (w64 (x5.2.2.1 - 1)))).bind fun (x9 : Int) =>
          bif (inb x3.2.1 x4) then
            ((x3.2.1[(Int.toNat x4)]?)).bind fun (x10 : Int) =>
            bif (inb x3.2.2.1 x5.2.2.1) then
              ((x3.2.2.1[(Int.toNat x5.2.2.1)]?)).bind fun (x11 : Int) =>
              (show Option ((List Int) × (List Int)) from
                bif (inb x5.2.2.2.1 x5.2.2.1) then
                  ((x5.2.2.2.1[(Int.toNat x5.2.2.1)]?)).bind fun (x13 : Int) =>
                  bif (decide ((w64 ((w64 (x9 - x10)) - x11)) < x13)) then
                    bif (inb x5.2.2.2.1 x5.2.2.1) then
                      bif (inb x5.2.2.2.2 x5.2.2.1) then
                        some ((upd x5.2.2.2.1 (Int.toNat x5.2.2.1) (w64 ((w64 (x9 - x10)) - x11))), (upd x5.2.2.2.2 (Int.toNat x5.2.2.1) x3.1))
                      else
                        none
                    else
                      none
                  else
                    some (x5.2.2.2.1, x5.2.2.2.2)
                else
                  none).bind fun (x12 : (List Int) × (List Int)) =>
              bif (inb x12.1 x5.2.2.1) then
                ((x12.1[(Int.toNat x5.2.2.1)]?)).bind fun (x14 : Int) =>
                bif (decide (x14 < x5.1)) then
                  bif (inb x12.1 x5.2.2.1) then
                    ((x12.1[(Int.toNat x5.2.2.1)]?)).bind fun (x15 : Int) =>
                    some (x15, x5.2.2.1, x12.1, x12.2)
                  else
                    none
                else
                  some (x5.1, x5.2.1, x12.1, x12.2)
              else
                none
            else
              none
          else
            none
      else
        none).bind fun (x6 : Int × Int × (List Int) × (List Int)) =>
    some (.inl (x6.1, x6.2.1, (w64 (x5.2.2.1 + 1)), x6.2.2.1, x6.2.2.2))
  else
    some (.inr (x5.1, x5.2.1, x5.2.2.1, x5.2.2.2.1, x5.2.2.2.2))

def spec_l4Grow_L4 (a3 : List Int) (a4 : Int) (x3 : Int × (List Int) × (List Int) × (List Int) × (List Int) × (List Bool)) (x16 : Int × Int × Int × (List Int) × (List Int)) (x17 : Int × (List Int) × (List Int) × (List Int)) : Option ((Int × (List Int) × (List Int) × (List Int)) ⊕ (Int × (List Int) × (List Int) × (List Int))) :=
  bif (decide (x17.1 ≤ a4)) then
    (show Option ((List Int) × (List Int) × (List Int)) from
      bif (inb (upd x3.2.2.2.2.2 (Int.toNat x3.1) true) x17.1) then
        (((upd x3.2.2.2.2.2 (Int.toNat x3.1) true)[(Int.toNat x17.1)]?)).bind fun (x19 : Bool) =>
        bif x19 then
          bif (inb a3 x17.1) then
            ((a3[(Int.toNat x17.1)]?)).bind fun (x20 : Int) =>
            bif (inb a3 x17.1) then
              ((a3[(Int.toNat x17.1)]?)).bind fun (x21 : Int) =>
              bif (inb x17.2.1 x21) then
                ((x17.2.1[(Int.toNat x21)]?)).bind fun (x22 : Int) =>
                bif (inb x17.2.1 x20) then
                  bif (inb x17.2.2.1 x17.1) then
                    ((x17.2.2.1[(Int.toNat x17.1)]?)).bind fun (x23 : Int) =>
                    bif (inb x17.2.2.1 x17.1) then
                      some ((upd x17.2.1 (Int.toNat x20) (w64 (x22 + x16.1))), (upd x17.2.2.1 (Int.toNat x17.1) (w64 (x23 - x16.1))), x17.2.2.2)
                    else
                      none
                  else
                    none
                else
                  none
              else
                none
            else
              none
          else
            none
        else
          bif (inb x17.2.2.2 x17.1) then
            ((x17.2.2.2[(Int.toNat x17.1)]?)).bind fun (x24 : Int) =>
            bif (inb x17.2.2.2 x17.1) then
              some (x17.2.1, x17.2.2.1, (upd x17.2.2.2 (Int.toNat x17.1) (w64 (x24 - x16.1))))
            else
              none
          else
            none
      else
        none).bind fun (x18 : (List Int) × (List Int) × (List Int)) =>
    some (.inl ((w64 (x17.1 + 1)), x18.1, x18.2.1, x18.2.2))
  else
    some (.inr (x17.1, x17.2.1, x17.2.2.1, x17.2.2.2))

def spec_l4Grow_L2 (n : Nat) (a0 : List ((List Int))) (a3 : List Int) (a4 : Int) (x3 : Int × (List Int) × (List Int) × (List Int) × (List Int) × (List Bool)) : Option ((Int × (List Int) × (List Int) × (List Int) × (List Int) × (List Bool)) ⊕ (Int × (List Int) × (List Int) × (List Int) × (List Int) × (List Bool))) :=
  bif (inb x3.2.2.2.2.2 x3.1) then
    bif (inb a3 x3.1) then
      ((a3[(Int.toNat x3.1)]?)).bind fun (x4 : Int) =>
      (iter n (spec_l4Grow_L3 a0 a4 x3 x4) (1099511627776, 0, 1, x3.2.2.2.1, x3.2.2.2.2.1)).bind fun (x16 : Int × Int × Int × (List Int) × (List Int)) =>
      (iter n (spec_l4Grow_L4 a3 a4 x3 x16) (0, x3.2.1, x3.2.2.1, x16.2.2.2.1)).bind fun (x25 : Int × (List Int) × (List Int) × (List Int)) =>
      bif (inb a3 x16.2.1) then
        ((a3[(Int.toNat x16.2.1)]?)).bind fun (x26 : Int) =>
        bif (x26 == 0) then
          some (.inr (x16.2.1, x25.2.1, x25.2.2.1, x25.2.2.2, x16.2.2.2.2, (upd x3.2.2.2.2.2 (Int.toNat x3.1) true)))
        else
          some (.inl (x16.2.1, x25.2.1, x25.2.2.1, x25.2.2.2, x16.2.2.2.2, (upd x3.2.2.2.2.2 (Int.toNat x3.1) true)))
      else
        none
    else
      none
  else
    none

def spec_l4Grow_L5 (x27 : Int × (List Int) × (List Int) × (List Int) × (List Int) × (List Bool)) (x28 : Int × (List Int)) : Option ((Int × (List Int)) ⊕ (Int × (List Int))) :=
  bif (x28.1 != 0) then
    bif (inb x27.2.2.2.2.1 x28.1) then
      ((x27.2.2.2.2.1[(Int.toNat x28.1)]?)).bind fun (x29 : Int) =>
      bif (inb x28.2 x29) then
        ((x28.2[(Int.toNat x29)]?)).bind fun (x30 : Int) =>
        bif (inb x28.2 x28.1) then
          some (.inl (x29, (upd x28.2 (Int.toNat x28.1) x30)))
        else
          none
      else
        none
    else
      none
  else
    some (.inr (x28.1, x28.2))

def spec_l4Grow (n : Nat) (a0 : List ((List Int))) (a1 : List Int) (a2 : List Int) (a3 : List Int) (a4 : Int) : Option ((List Int) × (List Int) × (List Int)) :=
  bif (decide (0 ≤ (w64 (a4 + 1))) && decide ((w64 (a4 + 1)) ≤ (maxRow : Int)) && decide ((w64 (a4 + 1)) = (w64 (a4 + 1)))) then
    bif (decide (0 ≤ (w64 (a4 + 1))) && decide ((w64 (a4 + 1)) ≤ (maxRow : Int)) && decide ((w64 (a4 + 1)) = (w64 (a4 + 1)))) then
      bif (decide (0 ≤ (w64 (a4 + 1))) && decide ((w64 (a4 + 1)) ≤ (maxRow : Int)) && decide ((w64 (a4 + 1)) = (w64 (a4 + 1)))) then
        (iter n (spec_l4Grow_L1 a4) (0, (List.replicate (Int.toNat (w64 (a4 + 1))) (0 : Int)))).bind fun (x2 : Int × (List Int)) =>
        (iter n (spec_l4Grow_L2 n a0 a3 a4) (0, a1, a2, x2.2, (List.replicate (Int.toNat (w64 (a4 + 1))) (0 : Int)), (List.replicate (Int.toNat (w64 (a4 + 1))) (false : Bool)))).bind fun (x27 : Int × (List Int) × (List Int) × (List Int) × (List Int) × (List Bool)) =>
        (iter n (spec_l4Grow_L5 x27) (x27.1, a3)).bind fun (x31 : Int × (List Int)) =>
        some (x27.2.1, x27.2.2.1, x31.2)
      else
        none
    else
      none
  else
    none

def spec_l4Least_L1 (n : Nat) (a0 : List ((List Int))) (x1 : (List Int)) (x2 : Int × (List Int) × (List Int) × (List Int)) : Option ((Int × (List Int) × (List Int) × (List Int)) ⊕ (Int × (List Int) × (List Int) × (List Int))) :=
  bif (decide (x2.1 ≤ ((List.length a0 : Int)))) then
    bif (inb x2.2.2.2 0) then
      (spec_l4Grow n a0 x2.2.1 x2.2.2.1 (upd x2.2.2.2 (Int.toNat 0) x2.1) ((List.length x1 : Int))).bind fun (x3 : (List Int) × (List Int) × (List Int)) =>
      some (.inl ((w64 (x2.1 + 1)), x3.1, x3.2.1, x3.2.2))
    else
      none
  else
    some (.inr (x2.1, x2.2.1, x2.2.2.1, x2.2.2.2))

def spec_l4Least_L2 (a0 : List ((List Int))) (x1 : (List Int)) (x4 : Int × (List Int) × (List Int) × (List Int)) (x5 : SII) : Option ((SII) ⊕ (SII)) :=
  bif (decide (x5.2 ≤ ((List.length x1 : Int)))) then
    (show Option (Int) from
      bif (inb x4.2.2.2 x5.2) then
        ((x4.2.2.2[(Int.toNat x5.2)]?)).bind fun (x7 : Int) =>
        bif (decide (x7 > 0)) then
          bif (inb x4.2.2.2 x5.2) then
            ((x4.2.2.2[(Int.toNat x5.2)]?)).bind fun (x8 : Int) =>
            ((getI a0 (w64 (x8 - 1)))).bind fun (x9 : (List Int)) =>
            ((getI x9 (w64 (x5.2 - 1)))).bind fun (x10 : Int) =>
            some (w64 (x5.1 + x10))
          else
            none
        else
          some x5.1
      else
        none).bind fun (x6 : Int) =>
    some (.inl (x6, (w64 (x5.2 + 1))))
  else
    some (.inr (x5.1, x5.2))

def spec_l4Least (n : Nat) (a0 : List ((List Int))) : Option (Int) :=
  bif (((List.length a0 : Int)) == 0) then
    some 0
  else
    ((getI a0 0)).bind fun (x1 : (List Int)) =>
    bif (decide (0 ≤ (w64 (((List.length a0 : Int)) + 1))) && decide ((w64 (((List.length a0 : Int)) + 1)) ≤ (maxRow : Int)) && decide ((w64 (((List.length a0 : Int)) + 1)) = (w64 (((List.length a0 : Int)) + 1)))) then
      bif (decide (0 ≤ (w64 (((List.length x1 : Int)) + 1))) && decide ((w64 (((List.length x1 : Int)) + 1)) ≤ (maxRow : Int)) && decide ((w64 (((List.length x1 : Int)) + 1)) = (w64 (((List.length x1 : Int)) + 1)))) then
        bif (decide (0 ≤ (w64 (((List.length x1 : Int)) + 1))) && decide ((w64 (((List.length x1 : Int)) + 1)) ≤ (maxRow : Int)) && decide ((w64 (((List.length x1 : Int)) + 1)) = (w64 (((List.length x1 : Int)) + 1)))) then
          (iter n (spec_l4Least_L1 n a0 x1) (1, (List.replicate (Int.toNat (w64 (((List.length a0 : Int)) + 1))) (0 : Int)), (List.replicate (Int.toNat (w64 (((List.length x1 : Int)) + 1))) (0 : Int)), (List.replicate (Int.toNat (w64 (((List.length x1 : Int)) + 1))) (0 : Int)))).bind fun (x4 : Int × (List Int) × (List Int) × (List Int)) =>
          (iter n (spec_l4Least_L2 a0 x1 x4) (0, 1)).bind fun (x11 : SII) =>
          some x11.1
        else
          none
      else
        none
    else
      none

def spec_l4Without_L1 (a0 : List ((List Int))) (a1 : Int) (x1 : (List ((List Int))) × Int) : Option (((List ((List Int))) × Int) ⊕ ((List ((List Int))) × Int)) :=
  bif (decide (x1.2 < ((List.length a0 : Int)))) then
    ((getI a0 x1.2)).bind fun (x2 : (List Int)) =>
    bif (decide (0 ≤ (0 : Int)) && decide ((0 : Int) ≤ a1) && decide (a1 ≤ ((List.length x2 : Int)))) then
      bif (decide (List.length ([] : List Int) + List.length (sub x2 (Int.toNat (0 : Int)) (Int.toNat a1)) ≤ maxRow)) then
        ((getI a0 x1.2)).bind fun (x3 : (List Int)) =>
        bif (decide (0 ≤ (w64 (a1 + 1))) && decide ((w64 (a1 + 1)) ≤ ((List.length x3 : Int))) && decide (((List.length x3 : Int)) ≤ ((List.length x3 : Int)))) then
          bif (decide (List.length (([] : List Int) ++ (sub x2 (Int.toNat (0 : Int)) (Int.toNat a1))) + List.length (sub x3 (Int.toNat (w64 (a1 + 1))) (Int.toNat ((List.length x3 : Int)))) ≤ maxRow)) then
            bif (decide (List.length x1.1 + List.length [((([] : List Int) ++ (sub x2 (Int.toNat (0 : Int)) (Int.toNat a1))) ++ (sub x3 (Int.toNat (w64 (a1 + 1))) (Int.toNat ((List.length x3 : Int)))))] ≤ maxRow)) then
              some (.inl ((x1.1 ++ [((([] : List Int) ++ (sub x2 (Int.toNat (0 : Int)) (Int.toNat a1))) ++ (sub x3 (Int.toNat (w64 (a1 + 1))) (Int.toNat ((List.length x3 : Int)))))]), (w64 (x1.2 + 1))))
            else
              none
          else
            none
        else
          none
      else
        none
    else
      none
  else
    some (.inr (x1.1, x1.2))

def spec_l4Without (n : Nat) (a0 : List ((List Int))) (a1 : Int) : Option ((List ((List Int)))) :=
  (iter n (spec_l4Without_L1 a0 a1) (([] : List ((List Int))), 1)).bind fun (x4 : (List ((List Int))) × Int) =>
  some x4.1

def spec_Match_L1 (a0 : List ((List Int))) (x3 : (List Int) × Int) : Option (((List Int) × Int) ⊕ ((List Int) × Int)) :=
  (show Option (Bool) from
    bif (decide (((List.length a0 : Int)) > 0)) then
      ((getI a0 0)).bind fun (x4 : (List Int)) =>
      some (decide (x3.2 < ((List.length x4 : Int))))
    else
      some false).bind fun (x5 : Bool) =>
  bif x5 then
    bif (decide (List.length x3.1 + List.length [x3.2] ≤ maxRow)) then
      some (.inl ((x3.1 ++ [x3.2]), (w64 (x3.2 + 1))))
    else
      none
  else
    some (.inr (x3.1, x3.2))

def spec_Match_L3 (n : Nat) (x8 : (List Int) × Int × (List ((List Int))) × (List Int) × Int) : Option (((List Int) × Int × (List ((List Int))) × (List Int) × Int) ⊕ ((List Int) × Int × (List ((List Int))) × (List Int) × Int)) :=
  ((getI x8.2.2.1 0)).bind fun (x9 : (List Int)) =>
  bif (decide (x8.2.2.2.2 < ((List.length x9 : Int)))) then
    (spec_l4Without n x8.2.2.1 x8.2.2.2.2).bind fun (x10 : (List ((List Int)))) =>
    ((getI x8.2.2.1 0)).bind fun (x11 : (List Int)) =>
    ((getI x11 x8.2.2.2.2)).bind fun (x12 : Int) =>
    (spec_l4Least n x10).bind fun (x13 : Int) =>
    bif ((w64 (x12 + x13)) == x8.2.1) then
      bif (inb x8.2.2.2.1 x8.2.2.2.2) then
        ((x8.2.2.2.1[(Int.toNat x8.2.2.2.2)]?)).bind fun (x14 : Int) =>
        bif (decide (List.length x8.1 + List.length [x14] ≤ maxRow)) then
          ((getI x8.2.2.1 0)).bind fun (x15 : (List Int)) =>
          ((getI x15 x8.2.2.2.2)).bind fun (x16 : Int) =>
          bif (decide (0 ≤ (0 : Int)) && decide ((0 : Int) ≤ x8.2.2.2.2) && decide (x8.2.2.2.2 ≤ ((List.length x8.2.2.2.1 : Int)))) then
            bif (decide (List.length ([] : List Int) + List.length (sub x8.2.2.2.1 (Int.toNat (0 : Int)) (Int.toNat x8.2.2.2.2)) ≤ maxRow)) then
              bif (decide (0 ≤ (w64 (x8.2.2.2.2 + 1))) && decide ((w64 (x8.2.2.2.2 + 1)) ≤ ((List.length x8.2.2.2.1 : Int))) && decide (((List.length x8.2.2.2.1 : Int)) ≤ ((List.length x8.2.2.2.1 : Int)))) then
                bif (decide (List.length (([] : List Int) ++ (sub x8.2.2.2.1 (Int.toNat (0 : Int)) (Int.toNat x8.2.2.2.2))) + List.length (sub x8.2.2.2.1 (Int.toNat (w64 (x8.2.2.2.2 + 1))) (Int.toNat ((List.length x8.2.2.2.1 : Int)))) ≤ maxRow)) then
                  some (.inr ((x8.1 ++ [x14]), (w64 (x8.2.1 - x16)), x10, ((([] : List Int) ++ (sub x8.2.2.2.1 (Int.toNat (0 : Int)) (Int.toNat x8.2.2.2.2))) ++ (sub x8.2.2.2.1 (Int.toNat (w64 (x8.2.2.2.2 + 1))) (Int.toNat ((List.length x8.2.2.2.1 : Int))))), x8.2.2.2.2))
                else
                  none
              else
                none
            else
              none
          else
            none
        else
          none
      else
        none
    else
      some (.inl (x8.1, x8.2.1, x8.2.2.1, x8.2.2.2.1, (w64 (x8.2.2.2.2 + 1))))
  else
    some (.inr (x8.1, x8.2.1, x8.2.2.1, x8.2.2.2.1, x8.2.2.2.2))

def spec_Match_L2 (n : Nat) (x7 : (List Int) × Int × (List ((List Int))) × (List Int)) : Option (((List Int) × Int × (List ((List Int))) × (List Int)) ⊕ ((List Int) × Int × (List ((List Int))) × (List Int))) :=
  bif (decide (((List.length x7.2.2.1 : Int)) > 0)) then
    (iter n (spec_Match_L3 n) (x7.1, x7.2.1, x7.2.2.1, x7.2.2.2, 0)).bind fun (x17 : (List Int) × Int × (List ((List Int))) × (List Int) × Int) =>
    some (.inl (x17.1, x17.2.1, x17.2.2.1, x17.2.2.2.1))
  else
    some (.inr (x7.1, x7.2.1, x7.2.2.1, x7.2.2.2))

def spec_Match (n : Nat) (a0 : List ((List Int))) : Option ((List Int) × Int) :=
  (spec_CostsOk n a0).bind fun (x1 : Bool) =>
  bif (!x1) then
    some (([] : List Int), (-1))
  else
    (spec_l4Least n a0).bind fun (x2 : Int) =>
    (iter n (spec_Match_L1 a0) (([] : List Int), 0)).bind fun (x6 : (List Int) × Int) =>
    (iter n (spec_Match_L2 n) (([] : List Int), x2, a0, x6.1)).bind fun (x18 : (List Int) × Int × (List ((List Int))) × (List Int)) =>
    some (x18.1, x2)

def spec_Dispatch_L2 (n : Nat) (a0_0 : Int) (a0_1 : Int) (a0_2 : List Int) (a1 : List SIILIIIJ) (a2 : List SIIIBI) (a3 : List SIIII) (x5 : (List Int)) (x6 : (List Int)) (x7 : (List ((List Int))) × Int) (x8 : (List Int) × Int) : Option (((List Int) × Int) ⊕ ((List Int) × Int)) :=
  bif (decide (x8.2 < ((List.length x5 : Int)))) then
    bif (inb x5 x8.2) then
      ((x5[(Int.toNat x8.2)]?)).bind fun (x9 : Int) =>
      ((getI a2 x9)).bind fun (x10 : SIIIBI) =>
      bif (inb x6 x7.2) then
        ((x6[(Int.toNat x7.2)]?)).bind fun (x11 : Int) =>
        ((getI a3 x11)).bind fun (x12 : SIIII) =>
        (spec_l5Pod n a1 x12.2.1).bind fun (x13 : Int) =>
        ((getI a1 x13)).bind fun (x14 : SIILIIIJ) =>
        (spec_l12Cost n a0_0 a0_1 a0_2 x10.2.1 x14.2.1).bind fun (x15 : Int) =>
        bif (decide (List.length x8.1 + List.length [x15] ≤ maxRow)) then
          some (.inl ((x8.1 ++ [x15]), (w64 (x8.2 + 1))))
        else
          none
      else
        none
    else
      none
  else
    some (.inr (x8.1, x8.2))

def spec_Dispatch_L1 (n : Nat) (a0_0 : Int) (a0_1 : Int) (a0_2 : List Int) (a1 : List SIILIIIJ) (a2 : List SIIIBI) (a3 : List SIIII) (x5 : (List Int)) (x6 : (List Int)) (x7 : (List ((List Int))) × Int) : Option (((List ((List Int))) × Int) ⊕ ((List ((List Int))) × Int)) :=
  bif (decide (x7.2 < ((List.length x6 : Int)))) then
    (iter n (spec_Dispatch_L2 n a0_0 a0_1 a0_2 a1 a2 a3 x5 x6 x7) (([] : List Int), 0)).bind fun (x16 : (List Int) × Int) =>
    bif (decide (List.length x7.1 + List.length [x16.1] ≤ maxRow)) then
      some (.inl ((x7.1 ++ [x16.1]), (w64 (x7.2 + 1))))
    else
      none
  else
    some (.inr (x7.1, x7.2))

def spec_Dispatch_L3 (n : Nat) (a1 : List SIILIIIJ) (a3 : List SIIII) (x5 : (List Int)) (x6 : (List Int)) (x17 : (List ((List Int))) × Int) (x18 : (List Int) × Int) (x19 : Int × (List SIIIBI) × (List SIIII)) : Option ((Int × (List SIIIBI) × (List SIIII)) ⊕ (Int × (List SIIIBI) × (List SIIII))) :=
  bif (decide (x19.1 < ((List.length x18.1 : Int)))) then
    (show Option ((List SIIIBI) × (List SIIII)) from
      bif (inb x18.1 x19.1) then
        ((x18.1[(Int.toNat x19.1)]?)).bind fun (x21 : Int) =>
        bif (inb x5 x21) then
          ((x5[(Int.toNat x21)]?)).bind fun (x22 : Int) =>
          bif (inb x17.1 x19.1) then
            ((x17.1[(Int.toNat x19.1)]?)).bind fun (x23 : (List Int)) =>
            bif (inb x18.1 x19.1) then
              ((x18.1[(Int.toNat x19.1)]?)).bind fun (x24 : Int) =>
              ((x17.1[(Int.toNat x19.1)]?)).bind fun (x25 : (List Int)) =>
              bif (inb x25 x24) then
                ((x17.1[(Int.toNat x19.1)]?)).bind fun (x26 : (List Int)) =>
                ((x26[(Int.toNat x24)]?)).bind fun (x27 : Int) =>
                bif (decide (x27 < 100000)) then
                  bif (inb x6 x19.1) then
                    ((x6[(Int.toNat x19.1)]?)).bind fun (x28 : Int) =>
                    ((getI a3 x28)).bind fun (x29 : SIIII) =>
                    (spec_l5Pod n a1 x29.2.1).bind fun (x30 : Int) =>
                    ((getI a1 x30)).bind fun (x31 : SIILIIIJ) =>
                    bif (inb x19.2.1 x22) then
                      bif (inb (List.modify x19.2.1 (Int.toNat x22) (fun (y : SIIIBI) => (y.1, y.2.1, x31.2.1, y.2.2.2.1, y.2.2.2.2))) x22) then
                        bif (inb x6 x19.1) then
                          ((x6[(Int.toNat x19.1)]?)).bind fun (x32 : Int) =>
                          bif (inb (List.modify (List.modify x19.2.1 (Int.toNat x22) (fun (y : SIIIBI) => (y.1, y.2.1, x31.2.1, y.2.2.2.1, y.2.2.2.2))) (Int.toNat x22) (fun (y : SIIIBI) => (y.1, y.2.1, y.2.2.1, y.2.2.2.1, 0))) x22) then
                            (((List.modify (List.modify x19.2.1 (Int.toNat x22) (fun (y : SIIIBI) => (y.1, y.2.1, x31.2.1, y.2.2.2.1, y.2.2.2.2))) (Int.toNat x22) (fun (y : SIIIBI) => (y.1, y.2.1, y.2.2.1, y.2.2.2.1, 0)))[(Int.toNat x22)]?)).bind fun (x33 : SIIIBI) =>
                            bif (inb x19.2.2 x32) then
                              bif (inb x6 x19.1) then
                                ((x6[(Int.toNat x19.1)]?)).bind fun (x34 : Int) =>
                                bif (inb (List.modify x19.2.2 (Int.toNat x32) (fun (y : SIIII) => (y.1, y.2.1, x33.1, y.2.2.2))) x34) then
                                  some ((List.modify (List.modify x19.2.1 (Int.toNat x22) (fun (y : SIIIBI) => (y.1, y.2.1, x31.2.1, y.2.2.2.1, y.2.2.2.2))) (Int.toNat x22) (fun (y : SIIIBI) => (y.1, y.2.1, y.2.2.1, y.2.2.2.1, 0))), (List.modify (List.modify x19.2.2 (Int.toNat x32) (fun (y : SIIII) => (y.1, y.2.1, x33.1, y.2.2.2))) (Int.toNat x34) (fun (y : SIIII) => (y.1, y.2.1, y.2.2.1, 2))))
                                else
                                  none
                              else
                                none
                            else
                              none
                          else
                            none
                        else
                          none
                      else
                        none
                    else
                      none
                  else
                    none
                else
                  some (x19.2.1, x19.2.2)
              else
                none
            else
              none
          else
            none
        else
          none
      else
        none).bind fun (x20 : (List SIIIBI) × (List SIIII)) =>
    some (.inl ((w64 (x19.1 + 1)), x20.1, x20.2))
  else
    some (.inr (x19.1, x19.2.1, x19.2.2))

def spec_Dispatch (n : Nat) (a0_0 : Int) (a0_1 : Int) (a0_2 : List Int) (a1 : List SIILIIIJ) (a2 : List SIIIBI) (a3 : List SIIII) : Option ((List SIIIBI) × (List SIIII)) :=
  bif (decide (List.length ([] : List SIIIBI) + List.length a2 ≤ maxRow)) then
    bif (decide (List.length ([] : List SIIII) + List.length a3 ≤ maxRow)) then
      (show Option (Bool) from
        (spec_StockOk n a1).bind fun (x1 : Bool) =>
        bif (!x1) then
          some true
        else
          (spec_CrewOk n a0_0 a0_1 a0_2 a2).bind fun (x2 : Bool) =>
          bif (!x2) then
            some true
          else
            (spec_TasksOk n a3).bind fun (x3 : Bool) =>
            some (!x3)).bind fun (x4 : Bool) =>
      bif x4 then
        some ((([] : List SIIIBI) ++ a2), (([] : List SIIII) ++ a3))
      else
        (spec_l12Idle n a2 a3).bind fun (x5 : (List Int)) =>
        (spec_l12Ready n a1 a3 ((List.length x5 : Int))).bind fun (x6 : (List Int)) =>
        (iter n (spec_Dispatch_L1 n a0_0 a0_1 a0_2 a1 a2 a3 x5 x6) (([] : List ((List Int))), 0)).bind fun (x17 : (List ((List Int))) × Int) =>
        (spec_Match n x17.1).bind fun (x18 : (List Int) × Int) =>
        (iter n (spec_Dispatch_L3 n a1 a3 x5 x6 x17 x18) (0, (([] : List SIIIBI) ++ a2), (([] : List SIIII) ++ a3))).bind fun (x35 : Int × (List SIIIBI) × (List SIIII)) =>
        some (x35.2.1, x35.2.2)
    else
      none
  else
    none

def impl_copyCrew (a0 : List SIIIBI) : Option ((List SIIIBI)) :=
  bif (decide (List.length a0 ≤ maxRow)) then
    some a0
  else
    none

def impl_copyTasks (a0 : List SIIII) : Option ((List SIIII)) :=
  bif (decide (List.length a0 ≤ maxRow)) then
    some a0
  else
    none

def impl_in (a0 : Int) (a1 : Int) (a2 : Int) : Option (Bool) :=
  (show Option (Bool) from
    bif (decide (a0 ≥ a1)) then
      some (decide (a0 ≤ a2))
    else
      some false).bind fun (x1 : Bool) =>
  some x1

def impl_FloorOk_L1 (a0_2 : List Int) (x4 : Int) : Option ((Int) ⊕ ((Int) ⊕ (Bool))) :=
  bif (decide (x4 < ((List.length a0_2 : Int)))) then
    ((getI a0_2 x4)).bind fun (x5 : Int) =>
    (impl_in x5 0 4).bind fun (x6 : Bool) =>
    bif (!x6) then
      some (.inr (.inr false))
    else
      some (.inl (w64 (x4 + 1)))
  else
    some (.inr (.inl x4))

def impl_FloorOk (n : Nat) (a0_0 : Int) (a0_1 : Int) (a0_2 : List Int) : Option (Bool) :=
  (show Option (Bool) from
    (impl_in a0_0 1 10).bind fun (x1 : Bool) =>
    bif (!x1) then
      some true
    else
      (impl_in a0_1 1 10).bind fun (x2 : Bool) =>
      bif (!x2) then
        some true
      else
        some (((List.length a0_2 : Int)) != (w64 (a0_0 * a0_1)))).bind fun (x3 : Bool) =>
  bif x3 then
    some false
  else
    (iter n (impl_FloorOk_L1 a0_2) 0).bind fun (x7 : (Int) ⊕ (Bool)) =>
    (match x7 with
    | .inl x8 => (
      some true)
    | .inr x9 => (
      some x9))

def impl_podOk_L1 (a0_2 : List SIII) (x4 : Int) : Option ((Int) ⊕ ((Int) ⊕ (Bool))) :=
  bif (decide (x4 < ((List.length a0_2 : Int)))) then
    ((getI a0_2 x4)).bind fun (x5 : SIII) =>
    (show Option (Bool) from
      (impl_in x5.1 1 50).bind fun (x6 : Bool) =>
      bif (!x6) then
        some true
      else
        (impl_in x5.2.1 1 1000).bind fun (x7 : Bool) =>
        bif (!x7) then
          some true
        else
          (impl_in x5.2.2 0 x5.2.1).bind fun (x8 : Bool) =>
          bif (!x8) then
            some true
          else
            bif (decide (x4 > 0)) then
              ((getI a0_2 (w64 (x4 - 1)))).bind fun (x9 : SIII) =>
              some (decide (x9.1 ≥ x5.1))
            else
              some false).bind fun (x10 : Bool) =>
    bif x10 then
      some (.inr (.inr false))
    else
      some (.inl (w64 (x4 + 1)))
  else
    some (.inr (.inl x4))

def impl_podOk (n : Nat) (a0_0 : Int) (a0_1 : Int) (a0_2 : List SIII) : Option (Bool) :=
  (show Option (Bool) from
    (impl_in a0_0 1 999).bind fun (x1 : Bool) =>
    bif (!x1) then
      some true
    else
      (impl_in a0_1 0 99).bind fun (x2 : Bool) =>
      bif (!x2) then
        some true
      else
        some (decide (((List.length a0_2 : Int)) > 8))).bind fun (x3 : Bool) =>
  bif x3 then
    some false
  else
    (iter n (impl_podOk_L1 a0_2) 0).bind fun (x11 : (Int) ⊕ (Bool)) =>
    (match x11 with
    | .inl x12 => (
      some true)
    | .inr x13 => (
      some x13))

def impl_StockOk_L2 (a0 : List SIILIIIJ) (x1 : Int) (x2 : SIILIIIJ) (x6 : Int) : Option ((Int) ⊕ ((Int) ⊕ (Bool))) :=
  bif (decide (x6 < ((List.length (sub a0 (Int.toNat (0 : Int)) (Int.toNat x1)) : Int)))) then
    ((getI (sub a0 (Int.toNat (0 : Int)) (Int.toNat x1)) x6)).bind fun (x7 : SIILIIIJ) =>
    bif (x7.2.1 == x2.2.1) then
      some (.inr (.inr false))
    else
      some (.inl (w64 (x6 + 1)))
  else
    some (.inr (.inl x6))

def impl_StockOk_L1 (n : Nat) (a0 : List SIILIIIJ) (x1 : Int) : Option ((Int) ⊕ ((Int) ⊕ (Bool))) :=
  bif (decide (x1 < ((List.length a0 : Int)))) then
    ((getI a0 x1)).bind fun (x2 : SIILIIIJ) =>
    (show Option (Bool) from
      (impl_podOk n x2.1 x2.2.1 x2.2.2).bind fun (x3 : Bool) =>
      bif (!x3) then
        some true
      else
        bif (decide (x1 > 0)) then
          ((getI a0 (w64 (x1 - 1)))).bind fun (x4 : SIILIIIJ) =>
          some (decide (x4.1 ≥ x2.1))
        else
          some false).bind fun (x5 : Bool) =>
    bif x5 then
      some (.inr (.inr false))
    else
      bif (decide (0 ≤ (0 : Int)) && decide ((0 : Int) ≤ x1) && decide (x1 ≤ ((List.length a0 : Int)))) then
        (iter n (impl_StockOk_L2 a0 x1 x2) 0).bind fun (x8 : (Int) ⊕ (Bool)) =>
        (match x8 with
        | .inl x9 => (
          some (.inl (w64 (x1 + 1))))
        | .inr x10 => (
          some (.inr (.inr x10))))
      else
        none
  else
    some (.inr (.inl x1))

def impl_StockOk (n : Nat) (a0 : List SIILIIIJ) : Option (Bool) :=
  (iter n (impl_StockOk_L1 n a0) 0).bind fun (x11 : (Int) ⊕ (Bool)) =>
  (match x11 with
  | .inl x12 => (
    some (decide (((List.length a0 : Int)) ≤ 12)))
  | .inr x13 => (
    some x13))

def impl_isCell (a0_0 : Int) (a0_1 : Int) (a0_2 : List Int) (a1 : Int) : Option (Bool) :=
  (impl_in a1 0 (w64 (((List.length a0_2 : Int)) - 1))).bind fun (x1 : Bool) =>
  some x1

def impl_KindAt (n : Nat) (a0_0 : Int) (a0_1 : Int) (a0_2 : List Int) (a1 : Int) : Option (Int) :=
  (show Option (Bool) from
    (impl_FloorOk n a0_0 a0_1 a0_2).bind fun (x1 : Bool) =>
    bif (!x1) then
      some true
    else
      (impl_isCell a0_0 a0_1 a0_2 a1).bind fun (x2 : Bool) =>
      some (!x2)).bind fun (x3 : Bool) =>
  bif x3 then
    some 0
  else
    ((getI a0_2 a1)).bind fun (x4 : Int) =>
    some x4

def impl_standsOk (n : Nat) (a0_0 : Int) (a0_1 : Int) (a0_2 : List Int) (a1_0 : Int) (a1_1 : Int) (a1_2 : Int) (a1_3 : Bool) (a1_4 : Int) : Option (Bool) :=
  (show Option (Bool) from
    (impl_KindAt n a0_0 a0_1 a0_2 a1_1).bind fun (x1 : Int) =>
    bif (x1 != 0) then
      bif (a1_2 == (-1)) then
        some true
      else
        (impl_KindAt n a0_0 a0_1 a0_2 a1_2).bind fun (x2 : Int) =>
        some (x2 != 0)
    else
      some false).bind fun (x3 : Bool) =>
  some x3

def impl_CrewOk_L2 (a1 : List SIIIBI) (x3 : Int) (x4 : SIIIBI) (x12 : Int) : Option ((Int) ⊕ ((Int) ⊕ (Bool))) :=
  bif (decide (x12 < ((List.length (sub a1 (Int.toNat (0 : Int)) (Int.toNat x3)) : Int)))) then
    ((getI (sub a1 (Int.toNat (0 : Int)) (Int.toNat x3)) x12)).bind fun (x13 : SIIIBI) =>
    bif (x13.2.1 == x4.2.1) then
      some (.inr (.inr false))
    else
      some (.inl (w64 (x12 + 1)))
  else
    some (.inr (.inl x12))

def impl_CrewOk_L1 (n : Nat) (a0_0 : Int) (a0_1 : Int) (a0_2 : List Int) (a1 : List SIIIBI) (x3 : Int) : Option ((Int) ⊕ ((Int) ⊕ (Bool))) :=
  bif (decide (x3 < ((List.length a1 : Int)))) then
    ((getI a1 x3)).bind fun (x4 : SIIIBI) =>
    (show Option (Bool) from
      (impl_in x4.1 1 99).bind fun (x5 : Bool) =>
      bif (!x5) then
        some true
      else
        bif (decide (x3 > 0)) then
          ((getI a1 (w64 (x3 - 1)))).bind fun (x6 : SIIIBI) =>
          bif (decide (x6.1 ≥ x4.1)) then
            some true
          else
            (impl_standsOk n a0_0 a0_1 a0_2 x4.1 x4.2.1 x4.2.2.1 x4.2.2.2.1 x4.2.2.2.2).bind fun (x7 : Bool) =>
            bif (!x7) then
              some true
            else
              (impl_in x4.2.2.2.2 0 1000000).bind fun (x8 : Bool) =>
              some (!x8)
        else
          (impl_standsOk n a0_0 a0_1 a0_2 x4.1 x4.2.1 x4.2.2.1 x4.2.2.2.1 x4.2.2.2.2).bind fun (x9 : Bool) =>
          bif (!x9) then
            some true
          else
            (impl_in x4.2.2.2.2 0 1000000).bind fun (x10 : Bool) =>
            some (!x10)).bind fun (x11 : Bool) =>
    bif x11 then
      some (.inr (.inr false))
    else
      bif (decide (0 ≤ (0 : Int)) && decide ((0 : Int) ≤ x3) && decide (x3 ≤ ((List.length a1 : Int)))) then
        (iter n (impl_CrewOk_L2 a1 x3 x4) 0).bind fun (x14 : (Int) ⊕ (Bool)) =>
        (match x14 with
        | .inl x15 => (
          some (.inl (w64 (x3 + 1))))
        | .inr x16 => (
          some (.inr (.inr x16))))
      else
        none
  else
    some (.inr (.inl x3))

def impl_CrewOk (n : Nat) (a0_0 : Int) (a0_1 : Int) (a0_2 : List Int) (a1 : List SIIIBI) : Option (Bool) :=
  (show Option (Bool) from
    (impl_FloorOk n a0_0 a0_1 a0_2).bind fun (x1 : Bool) =>
    bif (!x1) then
      some true
    else
      some (decide (((List.length a1 : Int)) > 20))).bind fun (x2 : Bool) =>
  bif x2 then
    some false
  else
    (iter n (impl_CrewOk_L1 n a0_0 a0_1 a0_2 a1) 0).bind fun (x17 : (Int) ⊕ (Bool)) =>
    (match x17 with
    | .inl x18 => (
      some true)
    | .inr x19 => (
      some x19))

def impl_TasksOk_L2 (a0 : List SIIII) (x1 : Int) (x2 : SIIII) (x8 : Int) : Option ((Int) ⊕ ((Int) ⊕ (Bool))) :=
  bif (decide (x8 < ((List.length (sub a0 (Int.toNat (0 : Int)) (Int.toNat x1)) : Int)))) then
    ((getI (sub a0 (Int.toNat (0 : Int)) (Int.toNat x1)) x8)).bind fun (x9 : SIIII) =>
    (show Option (Bool) from
      bif (x2.1 == x9.1) then
        bif (x2.2.1 == x9.2.1) then
          some true
        else
          bif (!(x2.2.2.2 == 1)) then
            bif (x2.2.2.1 == x9.2.2.1) then
              some true
            else
              bif (x2.2.1 == x9.2.1) then
                some (x9.2.2.2 != 1)
              else
                some false
          else
            some false
      else
        bif (!(x2.2.2.2 == 1)) then
          bif (x2.2.2.1 == x9.2.2.1) then
            some true
          else
            bif (x2.2.1 == x9.2.1) then
              some (x9.2.2.2 != 1)
            else
              some false
        else
          some false).bind fun (x10 : Bool) =>
    bif x10 then
      some (.inr (.inr false))
    else
      some (.inl (w64 (x8 + 1)))
  else
    some (.inr (.inl x8))

def impl_TasksOk_L1 (n : Nat) (a0 : List SIIII) (x1 : Int) : Option ((Int) ⊕ ((Int) ⊕ (Bool))) :=
  bif (decide (x1 < ((List.length a0 : Int)))) then
    ((getI a0 x1)).bind fun (x2 : SIIII) =>
    (show Option (Bool) from
      (impl_in x2.1 1 1000000).bind fun (x3 : Bool) =>
      bif (!x3) then
        some true
      else
        (impl_in x2.2.1 1 999).bind fun (x4 : Bool) =>
        bif (!x4) then
          some true
        else
          (impl_in x2.2.2.2 1 4).bind fun (x5 : Bool) =>
          bif (!x5) then
            some true
          else
            bif ((x2.2.2.2 == 1) != (x2.2.2.1 == 0)) then
              some true
            else
              (impl_in x2.2.2.1 0 99).bind fun (x6 : Bool) =>
              some (!x6)).bind fun (x7 : Bool) =>
    bif x7 then
      some (.inr (.inr false))
    else
      bif (decide (0 ≤ (0 : Int)) && decide ((0 : Int) ≤ x1) && decide (x1 ≤ ((List.length a0 : Int)))) then
        (iter n (impl_TasksOk_L2 a0 x1 x2) 0).bind fun (x11 : (Int) ⊕ (Bool)) =>
        (match x11 with
        | .inl x12 => (
          some (.inl (w64 (x1 + 1))))
        | .inr x13 => (
          some (.inr (.inr x13))))
      else
        none
  else
    some (.inr (.inl x1))

def impl_TasksOk (n : Nat) (a0 : List SIIII) : Option (Bool) :=
  (iter n (impl_TasksOk_L1 n a0) 0).bind fun (x14 : (Int) ⊕ (Bool)) =>
  (match x14 with
  | .inl x15 => (
    some (decide (((List.length a0 : Int)) ≤ 60)))
  | .inr x16 => (
    some x16))

def impl_idle_L2 (a1 : List SIIII) (x3 : SIIIBI) (x5 : Bool × Int) : Option ((Bool × Int) ⊕ (Bool × Int)) :=
  bif (decide (x5.2 < ((List.length a1 : Int)))) then
    ((getI a1 x5.2)).bind fun (x6 : SIIII) =>
    (show Option (Bool) from
      bif x5.1 then
        some (x6.2.2.1 != x3.1)
      else
        some false).bind fun (x7 : Bool) =>
    some (.inl (x7, (w64 (x5.2 + 1))))
  else
    some (.inr (x5.1, x5.2))

def impl_idle_L1 (n : Nat) (a0 : List SIIIBI) (a1 : List SIIII) (x1 : (List Int) × Int) : Option (((List Int) × Int) ⊕ ((List Int) × Int)) :=
  bif (decide (x1.2 < ((List.length a0 : Int)))) then
    (show Option ((List Int)) from
      ((getI a0 x1.2)).bind fun (x3 : SIIIBI) =>
      (show Option (Bool) from
        bif (x3.2.2.1 == (-1)) then
          bif (!x3.2.2.2.1) then
            some (decide (((List.length x1.1 : Int)) < 10))
          else
            some false
        else
          some false).bind fun (x4 : Bool) =>
      (iter n (impl_idle_L2 a1 x3) (x4, 0)).bind fun (x8 : Bool × Int) =>
      bif x8.1 then
        bif (decide (List.length x1.1 + List.length [x1.2] ≤ maxRow)) then
          some (x1.1 ++ [x1.2])
        else
          none
      else
        some x1.1).bind fun (x2 : (List Int)) =>
    some (.inl (x2, (w64 (x1.2 + 1))))
  else
    some (.inr (x1.1, x1.2))

def impl_idle (n : Nat) (a0 : List SIIIBI) (a1 : List SIIII) : Option ((List Int)) :=
  (iter n (impl_idle_L1 n a0 a1) (([] : List Int), 0)).bind fun (x9 : (List Int) × Int) =>
  some x9.1

def impl_podAt_L1 (a0 : List SIILIIIJ) (a1 : Int) (x1 : Int) : Option ((Int) ⊕ ((Int) ⊕ (Int))) :=
  bif (decide (x1 < ((List.length a0 : Int)))) then
    ((getI a0 x1)).bind fun (x2 : SIILIIIJ) =>
    bif (x2.1 == a1) then
      some (.inr (.inr x1))
    else
      some (.inl (w64 (x1 + 1)))
  else
    some (.inr (.inl x1))

def impl_podAt (n : Nat) (a0 : List SIILIIIJ) (a1 : Int) : Option (Int) :=
  (iter n (impl_podAt_L1 a0 a1) 0).bind fun (x3 : (Int) ⊕ (Int)) =>
  (match x3 with
  | .inl x4 => (
    some (-1))
  | .inr x5 => (
    some x5))

def impl_hasInt_L1 (a0 : List Int) (a1 : Int) (x1 : Int) : Option ((Int) ⊕ ((Int) ⊕ (Bool))) :=
  bif (decide (x1 < ((List.length a0 : Int)))) then
    ((getI a0 x1)).bind fun (x2 : Int) =>
    bif (x2 == a1) then
      some (.inr (.inr true))
    else
      some (.inl (w64 (x1 + 1)))
  else
    some (.inr (.inl x1))

def impl_hasInt (n : Nat) (a0 : List Int) (a1 : Int) : Option (Bool) :=
  (iter n (impl_hasInt_L1 a0 a1) 0).bind fun (x3 : (Int) ⊕ (Bool)) =>
  (match x3 with
  | .inl x4 => (
    some false)
  | .inr x5 => (
    some x5))

def impl_ready_L1 (a1 : List SIIII) (x1 : (List Int) × Int) : Option (((List Int) × Int) ⊕ ((List Int) × Int)) :=
  bif (decide (x1.2 < ((List.length a1 : Int)))) then
    (show Option ((List Int)) from
      ((getI a1 x1.2)).bind fun (x3 : SIIII) =>
      bif (x3.2.2.2 != 1) then
        bif (decide (List.length x1.1 + List.length [x3.2.1] ≤ maxRow)) then
          some (x1.1 ++ [x3.2.1])
        else
          none
      else
        some x1.1).bind fun (x2 : (List Int)) =>
    some (.inl (x2, (w64 (x1.2 + 1))))
  else
    some (.inr (x1.1, x1.2))

def impl_ready_L2 (n : Nat) (a0 : List SIILIIIJ) (a1 : List SIIII) (a2 : Int) (x5 : (List Int) × (List Int) × Int) : Option (((List Int) × (List Int) × Int) ⊕ ((List Int) × (List Int) × Int)) :=
  bif (decide (x5.2.2 < ((List.length a1 : Int)))) then
    (show Option ((List Int) × (List Int)) from
      ((getI a1 x5.2.2)).bind fun (x7 : SIIII) =>
      (show Option (Bool) from
        bif (x7.2.2.2 == 1) then
          (impl_podAt n a0 x7.2.1).bind fun (x8 : Int) =>
          bif (decide (x8 ≥ 0)) then
            (impl_hasInt n x5.2.1 x7.2.1).bind fun (x9 : Bool) =>
            bif (!x9) then
              some (decide (((List.length x5.1 : Int)) < a2))
            else
              some false
          else
            some false
        else
          some false).bind fun (x10 : Bool) =>
      bif x10 then
        bif (decide (List.length x5.2.1 + List.length [x7.2.1] ≤ maxRow)) then
          bif (decide (List.length x5.1 + List.length [x5.2.2] ≤ maxRow)) then
            some ((x5.1 ++ [x5.2.2]), (x5.2.1 ++ [x7.2.1]))
          else
            none
        else
          none
      else
        some (x5.1, x5.2.1)).bind fun (x6 : (List Int) × (List Int)) =>
    some (.inl (x6.1, x6.2, (w64 (x5.2.2 + 1))))
  else
    some (.inr (x5.1, x5.2.1, x5.2.2))

def impl_ready (n : Nat) (a0 : List SIILIIIJ) (a1 : List SIIII) (a2 : Int) : Option ((List Int)) :=
  (iter n (impl_ready_L1 a1) (([] : List Int), 0)).bind fun (x4 : (List Int) × Int) =>
  (iter n (impl_ready_L2 n a0 a1 a2) (([] : List Int), x4.1, 0)).bind fun (x11 : (List Int) × (List Int) × Int) =>
  some x11.1

def impl_beside (a0_0 : Int) (a0_1 : Int) (a0_2 : List Int) (a1 : Int) : Option ((List Int)) :=
  bif (a0_0 == 0) then
    none
  else
    bif (a0_0 == 0) then
      none
    else
      (show Option ((List Int)) from
        bif (decide ((w64 (Int.tdiv a1 a0_0)) > 0)) then
          bif (decide (List.length ([] : List Int) + List.length [(w64 (a1 - a0_0))] ≤ maxRow)) then
            some (([] : List Int) ++ [(w64 (a1 - a0_0))])
          else
            none
        else
          some ([] : List Int)).bind fun (x1 : (List Int)) =>
      (show Option ((List Int)) from
        bif (decide ((Int.tmod a1 a0_0) > 0)) then
          bif (decide (List.length x1 + List.length [(w64 (a1 - 1))] ≤ maxRow)) then
            some (x1 ++ [(w64 (a1 - 1))])
          else
            none
        else
          some x1).bind fun (x2 : (List Int)) =>
      (show Option ((List Int)) from
        bif (decide ((Int.tmod a1 a0_0) < (w64 (a0_0 - 1)))) then
          bif (decide (List.length x2 + List.length [(w64 (a1 + 1))] ≤ maxRow)) then
            some (x2 ++ [(w64 (a1 + 1))])
          else
            none
        else
          some x2).bind fun (x3 : (List Int)) =>
      (show Option ((List Int)) from
        bif (decide ((w64 (Int.tdiv a1 a0_0)) < (w64 (a0_1 - 1)))) then
          bif (decide (List.length x3 + List.length [(w64 (a1 + a0_0))] ≤ maxRow)) then
            some (x3 ++ [(w64 (a1 + a0_0))])
          else
            none
        else
          some x3).bind fun (x4 : (List Int)) =>
      some x4

def impl_near_L1 (a0_2 : List Int) (a2 : Bool) (x1 : (List Int)) (x2 : (List Int) × Int) : Option (((List Int) × Int) ⊕ ((List Int) × Int)) :=
  bif (decide (x2.2 < ((List.length x1 : Int)))) then
    (show Option ((List Int)) from
      bif (inb x1 x2.2) then
        ((x1[(Int.toNat x2.2)]?)).bind fun (x4 : Int) =>
        ((getI a0_2 x4)).bind fun (x5 : Int) =>
        (show Option (Bool) from
          bif (x5 != 0) then
            bif (!a2) then
              some true
            else
              some (x5 != 2)
          else
            some false).bind fun (x6 : Bool) =>
        bif x6 then
          bif (decide (List.length x2.1 + List.length [x4] ≤ maxRow)) then
            some (x2.1 ++ [x4])
          else
            none
        else
          some x2.1
      else
        none).bind fun (x3 : (List Int)) =>
    some (.inl (x3, (w64 (x2.2 + 1))))
  else
    some (.inr (x2.1, x2.2))

def impl_near (n : Nat) (a0_0 : Int) (a0_1 : Int) (a0_2 : List Int) (a1 : Int) (a2 : Bool) : Option ((List Int)) :=
  (impl_beside a0_0 a0_1 a0_2 a1).bind fun (x1 : (List Int)) =>
  (iter n (impl_near_L1 a0_2 a2 x1) (([] : List Int), 0)).bind fun (x7 : (List Int) × Int) =>
  some x7.1

def impl_field_L1 (a0_2 : List Int) (x1 : Int × (List Int)) : Option ((Int × (List Int)) ⊕ (Int × (List Int))) :=
  bif (decide (x1.1 < ((List.length (List.replicate (Int.toNat ((List.length a0_2 : Int))) (0 : Int)) : Int)))) then
    bif (inb x1.2 x1.1) then
      some (.inl ((w64 (x1.1 + 1)), (upd x1.2 (Int.toNat x1.1) (-1))))
    else
      none
  else
    some (.inr (x1.1, x1.2))

def impl_field_L3 (x4 : Int) (x7 : (List Int)) (x8 : (List Int) × Int × (List Int)) : Option (((List Int) × Int × (List Int)) ⊕ ((List Int) × Int × (List Int))) :=
  bif (decide (x8.2.1 < ((List.length x7 : Int)))) then
    (show Option ((List Int) × (List Int)) from
      bif (inb x7 x8.2.1) then
        ((x7[(Int.toNat x8.2.1)]?)).bind fun (x10 : Int) =>
        bif (inb x8.2.2 x10) then
          ((x8.2.2[(Int.toNat x10)]?)).bind fun (x11 : Int) =>
          bif (decide (x11 < 0)) then
            bif (inb x8.2.2 x4) then
              ((x8.2.2[(Int.toNat x4)]?)).bind fun (x12 : Int) =>
              bif (inb x8.2.2 x10) then
                bif (decide (List.length x8.1 + List.length [x10] ≤ maxRow)) then
                  some ((x8.1 ++ [x10]), (upd x8.2.2 (Int.toNat x10) (w64 (x12 + 1))))
                else
                  none
              else
                none
            else
              none
          else
            some (x8.1, x8.2.2)
        else
          none
      else
        none).bind fun (x9 : (List Int) × (List Int)) =>
    some (.inl (x9.1, (w64 (x8.2.1 + 1)), x9.2))
  else
    some (.inr (x8.1, x8.2.1, x8.2.2))

def impl_field_L2 (n : Nat) (a0_0 : Int) (a0_1 : Int) (a0_2 : List Int) (a1 : Int) (a2 : Bool) (x3 : (List Int) × (List Int)) : Option (((List Int) × (List Int)) ⊕ ((List Int) × (List Int))) :=
  bif (decide (((List.length x3.1 : Int)) > 0)) then
    bif (inb x3.1 0) then
      ((x3.1[(Int.toNat 0)]?)).bind fun (x4 : Int) =>
      bif (decide (0 ≤ 1) && decide (1 ≤ ((List.length x3.1 : Int))) && decide (((List.length x3.1 : Int)) ≤ ((List.length x3.1 : Int)))) then
        (show Option (Bool) from
          bif a2 then
            bif (x4 != a1) then
              ((getI a0_2 x4)).bind fun (x5 : Int) =>
              some (x5 == 2)
            else
              some false
          else
            some false).bind fun (x6 : Bool) =>
        bif x6 then
          some (.inl ((sub x3.1 (Int.toNat 1) (Int.toNat ((List.length x3.1 : Int)))), x3.2))
        else
          (impl_near n a0_0 a0_1 a0_2 x4 false).bind fun (x7 : (List Int)) =>
          (iter n (impl_field_L3 x4 x7) ((sub x3.1 (Int.toNat 1) (Int.toNat ((List.length x3.1 : Int)))), 0, x3.2)).bind fun (x13 : (List Int) × Int × (List Int)) =>
          some (.inl (x13.1, x13.2.2))
      else
        none
    else
      none
  else
    some (.inr (x3.1, x3.2))

def impl_field (n : Nat) (a0_0 : Int) (a0_1 : Int) (a0_2 : List Int) (a1 : Int) (a2 : Bool) : Option ((List Int)) :=
  bif (decide (0 ≤ ((List.length a0_2 : Int))) && decide (((List.length a0_2 : Int)) ≤ (maxRow : Int)) && decide (((List.length a0_2 : Int)) = ((List.length a0_2 : Int)))) then
    (iter n (impl_field_L1 a0_2) (0, (List.replicate (Int.toNat ((List.length a0_2 : Int))) (0 : Int)))).bind fun (x2 : Int × (List Int)) =>
    bif (inb x2.2 a1) then
      (iter n (impl_field_L2 n a0_0 a0_1 a0_2 a1 a2) ([a1], (upd x2.2 (Int.toNat a1) 0))).bind fun (x14 : (List Int) × (List Int)) =>
      some x14.2
    else
      none
  else
    none

def impl_Steps (n : Nat) (a0_0 : Int) (a0_1 : Int) (a0_2 : List Int) (a1 : Int) (a2 : Int) : Option (Int) :=
  (show Option (Bool) from
    (impl_KindAt n a0_0 a0_1 a0_2 a2).bind fun (x1 : Int) =>
    bif (x1 == 0) then
      some true
    else
      (impl_isCell a0_0 a0_1 a0_2 a1).bind fun (x2 : Bool) =>
      some (!x2)).bind fun (x3 : Bool) =>
  bif x3 then
    some (-1)
  else
    (impl_field n a0_0 a0_1 a0_2 a2 false).bind fun (x4 : (List Int)) =>
    bif (inb x4 a1) then
      ((x4[(Int.toNat a1)]?)).bind fun (x5 : Int) =>
      some x5
    else
      none

def impl_CostsOk_L2 (x2 : (List Int)) (x6 : Int) : Option ((Int) ⊕ ((Int) ⊕ (Bool))) :=
  bif (decide (x6 < ((List.length x2 : Int)))) then
    ((getI x2 x6)).bind fun (x7 : Int) =>
    (impl_in x7 0 100000).bind fun (x8 : Bool) =>
    bif (!x8) then
      some (.inr (.inr false))
    else
      some (.inl (w64 (x6 + 1)))
  else
    some (.inr (.inl x6))

def impl_CostsOk_L1 (n : Nat) (a0 : List ((List Int))) (x1 : Int) : Option ((Int) ⊕ ((Int) ⊕ (Bool))) :=
  bif (decide (x1 < ((List.length a0 : Int)))) then
    ((getI a0 x1)).bind fun (x2 : (List Int)) =>
    (show Option (Bool) from
      ((getI a0 0)).bind fun (x3 : (List Int)) =>
      bif (((List.length x2 : Int)) != ((List.length x3 : Int))) then
        some true
      else
        (impl_in ((List.length x2 : Int)) ((List.length a0 : Int)) 10).bind fun (x4 : Bool) =>
        some (!x4)).bind fun (x5 : Bool) =>
    bif x5 then
      some (.inr (.inr false))
    else
      (iter n (impl_CostsOk_L2 x2) 0).bind fun (x9 : (Int) ⊕ (Bool)) =>
      (match x9 with
      | .inl x10 => (
        some (.inl (w64 (x1 + 1))))
      | .inr x11 => (
        some (.inr (.inr x11))))
  else
    some (.inr (.inl x1))

def impl_CostsOk (n : Nat) (a0 : List ((List Int))) : Option (Bool) :=
  bif (decide (((List.length a0 : Int)) > 10)) then
    some false
  else
    (iter n (impl_CostsOk_L1 n a0) 0).bind fun (x12 : (Int) ⊕ (Bool)) =>
    (match x12 with
    | .inl x13 => (
      some true)
    | .inr x14 => (
      some x14))

def impl_least_L3 (a0 : List ((List Int))) (x1 : Int) (x3 : Int × (List ((List Int)))) (x6 : Int × (List ((List Int)))) (x9 : Int × (List ((List Int)))) : Option ((Int × (List ((List Int)))) ⊕ (Int × (List ((List Int))))) :=
  bif (decide (x9.1 < x1)) then
    (show Option ((List ((List Int)))) from
      (show Option (Bool) from
        bif (decide (0 ≤ x9.1)) then
          bif ((andI .i64 (shrI .i64 x6.1 x9.1) 1) == 1) then
            some true
          else
            bif (inb x9.2 (w64 (x3.1 + 1))) then
              ((x9.2[(Int.toNat (w64 (x3.1 + 1)))]?)).bind fun (x11 : (List Int)) =>
              bif (decide (0 ≤ x9.1)) then
                ((x9.2[(Int.toNat (w64 (x3.1 + 1)))]?)).bind fun (x12 : (List Int)) =>
                bif (inb x12 (orI .i64 x6.1 (shlI .i64 1 x9.1))) then
                  ((x9.2[(Int.toNat (w64 (x3.1 + 1)))]?)).bind fun (x13 : (List Int)) =>
                  ((x13[(Int.toNat (orI .i64 x6.1 (shlI .i64 1 x9.1)))]?)).bind fun (x14 : Int) =>
                  some (decide (x14 < 0))
                else
                  none
              else
                none
            else
              none
        else
          none).bind fun (x15 : Bool) =>
      bif x15 then
        some x9.2
      else
        ((getI a0 x3.1)).bind fun (x16 : (List Int)) =>
        ((getI x16 x9.1)).bind fun (x17 : Int) =>
        bif (inb x9.2 (w64 (x3.1 + 1))) then
          ((x9.2[(Int.toNat (w64 (x3.1 + 1)))]?)).bind fun (x18 : (List Int)) =>
          bif (decide (0 ≤ x9.1)) then
            ((x9.2[(Int.toNat (w64 (x3.1 + 1)))]?)).bind fun (x19 : (List Int)) =>
            bif (inb x19 (orI .i64 x6.1 (shlI .i64 1 x9.1))) then
              ((x9.2[(Int.toNat (w64 (x3.1 + 1)))]?)).bind fun (x20 : (List Int)) =>
              ((x20[(Int.toNat (orI .i64 x6.1 (shlI .i64 1 x9.1)))]?)).bind fun (x21 : Int) =>
              (show Option (Bool) from
                bif (inb x9.2 x3.1) then
                  ((x9.2[(Int.toNat x3.1)]?)).bind fun (x22 : (List Int)) =>
                  ((x9.2[(Int.toNat x3.1)]?)).bind fun (x23 : (List Int)) =>
                  bif (inb x23 x6.1) then
                    ((x9.2[(Int.toNat x3.1)]?)).bind fun (x24 : (List Int)) =>
                    ((x24[(Int.toNat x6.1)]?)).bind fun (x25 : Int) =>
                    bif (decide (x25 < 0)) then
                      some true
                    else
                      bif (inb x9.2 x3.1) then
                        ((x9.2[(Int.toNat x3.1)]?)).bind fun (x26 : (List Int)) =>
                        ((x9.2[(Int.toNat x3.1)]?)).bind fun (x27 : (List Int)) =>
                        bif (inb x27 x6.1) then
                          ((x9.2[(Int.toNat x3.1)]?)).bind fun (x28 : (List Int)) =>
                          ((x28[(Int.toNat x6.1)]?)).bind fun (x29 : Int) =>
                          some (decide ((w64 (x17 + x21)) < x29))
                        else
                          none
                      else
                        none
                  else
                    none
                else
                  none).bind fun (x30 : Bool) =>
              bif x30 then
                bif (inb x9.2 x3.1) then
                  ((x9.2[(Int.toNat x3.1)]?)).bind fun (x31 : (List Int)) =>
                  ((x9.2[(Int.toNat x3.1)]?)).bind fun (x32 : (List Int)) =>
                  bif (inb x32 x6.1) then
                    some (List.modify x9.2 (Int.toNat x3.1) (fun (y2 : (List Int)) => (upd y2 (Int.toNat x6.1) (w64 (x17 + x21)))))
                  else
                    none
                else
                  none
              else
                some x9.2
            else
              none
          else
            none
        else
          none).bind fun (x10 : (List ((List Int)))) =>
    some (.inl ((w64 (x9.1 + 1)), x10))
  else
    some (.inr (x9.1, x9.2))

def impl_least_L2 (n : Nat) (a0 : List ((List Int))) (x1 : Int) (x3 : Int × (List ((List Int)))) (x5 : (List Int)) (x6 : Int × (List ((List Int)))) : Option ((Int × (List ((List Int)))) ⊕ (Int × (List ((List Int))))) :=
  bif (decide (x6.1 < ((List.length x5 : Int)))) then
    bif (inb x6.2 x3.1) then
      ((x6.2[(Int.toNat x3.1)]?)).bind fun (x7 : (List Int)) =>
      ((x6.2[(Int.toNat x3.1)]?)).bind fun (x8 : (List Int)) =>
      bif (inb x8 x6.1) then
        (iter n (impl_least_L3 a0 x1 x3 x6) (0, (List.modify x6.2 (Int.toNat x3.1) (fun (y2 : (List Int)) => (upd y2 (Int.toNat x6.1) (-1)))))).bind fun (x33 : Int × (List ((List Int)))) =>
        some (.inl ((w64 (x6.1 + 1)), x33.2))
      else
        none
    else
      none
  else
    some (.inr (x6.1, x6.2))

def impl_least_L1 (n : Nat) (a0 : List ((List Int))) (x1 : Int) (x3 : Int × (List ((List Int)))) : Option ((Int × (List ((List Int)))) ⊕ (Int × (List ((List Int))))) :=
  bif (decide (x3.1 ≥ 0)) then
    bif (decide (0 ≤ x1)) then
      bif (decide (0 ≤ (shlI .i64 1 x1)) && decide ((shlI .i64 1 x1) ≤ (maxRow : Int)) && decide ((shlI .i64 1 x1) = (shlI .i64 1 x1))) then
        bif (inb x3.2 x3.1) then
          bif (inb (upd x3.2 (Int.toNat x3.1) (List.replicate (Int.toNat (shlI .i64 1 x1)) (0 : Int))) x3.1) then
            (((upd x3.2 (Int.toNat x3.1) (List.replicate (Int.toNat (shlI .i64 1 x1)) (0 : Int)))[(Int.toNat x3.1)]?)).bind fun (x4 : (List Int)) =>
            (((upd x3.2 (Int.toNat x3.1) (List.replicate (Int.toNat (shlI .i64 1 x1)) (0 : Int)))[(Int.toNat x3.1)]?)).bind fun (x5 : (List Int)) =>
            (iter n (impl_least_L2 n a0 x1 x3 x5) (0, (upd x3.2 (Int.toNat x3.1) (List.replicate (Int.toNat (shlI .i64 1 x1)) (0 : Int))))).bind fun (x34 : Int × (List ((List Int)))) =>
            some (.inl ((w64 (x3.1 - 1)), x34.2))
          else
            none
        else
          none
      else
        none
    else
      none
  else
    some (.inr (x3.1, x3.2))

def impl_least (n : Nat) (a0 : List ((List Int))) : Option ((List ((List Int)))) :=
  (show Option (Int) from
    bif (decide (((List.length a0 : Int)) > 0)) then
      ((getI a0 0)).bind fun (x2 : (List Int)) =>
      some ((List.length x2 : Int))
    else
      some 0).bind fun (x1 : Int) =>
  bif (decide (0 ≤ (w64 (((List.length a0 : Int)) + 1))) && decide ((w64 (((List.length a0 : Int)) + 1)) ≤ (maxRow : Int)) && decide ((w64 (((List.length a0 : Int)) + 1)) = (w64 (((List.length a0 : Int)) + 1)))) then
    bif (decide (0 ≤ x1)) then
      bif (decide (0 ≤ (shlI .i64 1 x1)) && decide ((shlI .i64 1 x1) ≤ (maxRow : Int)) && decide ((shlI .i64 1 x1) = (shlI .i64 1 x1))) then
        bif (inb (List.replicate (Int.toNat (w64 (((List.length a0 : Int)) + 1))) (([] : List Int) : (List Int))) ((List.length a0 : Int))) then
          (iter n (impl_least_L1 n a0 x1) ((w64 (((List.length a0 : Int)) - 1)), (upd (List.replicate (Int.toNat (w64 (((List.length a0 : Int)) + 1))) (([] : List Int) : (List Int))) (Int.toNat ((List.length a0 : Int))) (List.replicate (Int.toNat (shlI .i64 1 x1)) (0 : Int))))).bind fun (x35 : Int × (List ((List Int)))) =>
          some x35.2
        else
          none
      else
        none
    else
      none
  else
    none

def impl_Match_L2 (x2 : (List ((List Int)))) (x3 : (List Int) × Int × Int) (x4 : (List Int)) (x5 : (List Int) × Int × Int) : Option (((List Int) × Int × Int) ⊕ ((List Int) × Int × Int)) :=
  bif (decide (x5.2.2 < ((List.length x4 : Int)))) then
    (show Option (Bool) from
      bif (decide (0 ≤ x5.2.2)) then
        bif ((andI .i64 (shrI .i64 x5.2.1 x5.2.2) 1) == 1) then
          some true
        else
          bif (inb x2 (w64 (x3.2.2 + 1))) then
            ((x2[(Int.toNat (w64 (x3.2.2 + 1)))]?)).bind fun (x6 : (List Int)) =>
            bif (decide (0 ≤ x5.2.2)) then
              ((x2[(Int.toNat (w64 (x3.2.2 + 1)))]?)).bind fun (x7 : (List Int)) =>
              bif (inb x7 (orI .i64 x5.2.1 (shlI .i64 1 x5.2.2))) then
                ((x2[(Int.toNat (w64 (x3.2.2 + 1)))]?)).bind fun (x8 : (List Int)) =>
                ((x8[(Int.toNat (orI .i64 x5.2.1 (shlI .i64 1 x5.2.2)))]?)).bind fun (x9 : Int) =>
                bif (decide (x9 < 0)) then
                  some true
                else
                  ((getI x4 x5.2.2)).bind fun (x10 : Int) =>
                  bif (inb x2 (w64 (x3.2.2 + 1))) then
                    ((x2[(Int.toNat (w64 (x3.2.2 + 1)))]?)).bind fun (x11 : (List Int)) =>
                    bif (decide (0 ≤ x5.2.2)) then
                      ((x2[(Int.toNat (w64 (x3.2.2 + 1)))]?)).bind fun (x12 : (List Int)) =>
                      bif (inb x12 (orI .i64 x5.2.1 (shlI .i64 1 x5.2.2))) then
                        ((x2[(Int.toNat (w64 (x3.2.2 + 1)))]?)).bind fun (x13 : (List Int)) =>
                        ((x13[(Int.toNat (orI .i64 x5.2.1 (shlI .i64 1 x5.2.2)))]?)).bind fun (x14 : Int) =>
                        bif (inb x2 x3.2.2) then
                          ((x2[(Int.toNat x3.2.2)]?)).bind fun (x15 : (List Int)) =>
                          ((x2[(Int.toNat x3.2.2)]?)).bind fun (x16 : (List Int)) =>
                          bif (inb x16 x5.2.1) then
                            ((x2[(Int.toNat x3.2.2)]?)).bind fun (x17 : (List Int)) =>
                            ((x17[(Int.toNat x5.2.1)]?)).bind fun (x18 : Int) =>
                            some ((w64 (x10 + x14)) != x18)
                          else
                            none
                        else
                          none
                      else
                        none
                    else
                      none
                  else
                    none
              else
                none
            else
              none
          else
            none
      else
        none).bind fun (x19 : Bool) =>
    bif x19 then
      some (.inl (x5.1, x5.2.1, (w64 (x5.2.2 + 1))))
    else
      bif (decide (List.length x5.1 + List.length [x5.2.2] ≤ maxRow)) then
        bif (decide (0 ≤ x5.2.2)) then
          some (.inr ((x5.1 ++ [x5.2.2]), (orI .i64 x5.2.1 (shlI .i64 1 x5.2.2)), x5.2.2))
        else
          none
      else
        none
  else
    some (.inr (x5.1, x5.2.1, x5.2.2))

def impl_Match_L1 (n : Nat) (a0 : List ((List Int))) (x2 : (List ((List Int)))) (x3 : (List Int) × Int × Int) : Option (((List Int) × Int × Int) ⊕ ((List Int) × Int × Int)) :=
  bif (decide (x3.2.2 < ((List.length a0 : Int)))) then
    ((getI a0 x3.2.2)).bind fun (x4 : (List Int)) =>
    (iter n (impl_Match_L2 x2 x3 x4) (x3.1, x3.2.1, 0)).bind fun (x20 : (List Int) × Int × Int) =>
    some (.inl (x20.1, x20.2.1, (w64 (x3.2.2 + 1))))
  else
    some (.inr (x3.1, x3.2.1, x3.2.2))

def impl_Match (n : Nat) (a0 : List ((List Int))) : Option ((List Int) × Int) :=
  (impl_CostsOk n a0).bind fun (x1 : Bool) =>
  bif (!x1) then
    some (([] : List Int), (-1))
  else
    (impl_least n a0).bind fun (x2 : (List ((List Int)))) =>
    (iter n (impl_Match_L1 n a0 x2) (([] : List Int), 0, 0)).bind fun (x21 : (List Int) × Int × Int) =>
    bif (inb x2 0) then
      ((x2[(Int.toNat 0)]?)).bind fun (x22 : (List Int)) =>
      ((x2[(Int.toNat 0)]?)).bind fun (x23 : (List Int)) =>
      bif (inb x23 0) then
        ((x2[(Int.toNat 0)]?)).bind fun (x24 : (List Int)) =>
        ((x24[(Int.toNat 0)]?)).bind fun (x25 : Int) =>
        some (x21.1, x25)
      else
        none
    else
      none

def impl_Dispatch_L2 (n : Nat) (a0_0 : Int) (a0_1 : Int) (a0_2 : List Int) (a1 : List SIILIIIJ) (a2 : List SIIIBI) (a3 : List SIIII) (x8 : (List Int)) (x11 : Int) (x12 : (List Int) × Int) : Option (((List Int) × Int) ⊕ ((List Int) × Int)) :=
  bif (decide (x12.2 < ((List.length x8 : Int)))) then
    bif (inb x8 x12.2) then
      ((x8[(Int.toNat x12.2)]?)).bind fun (x13 : Int) =>
      ((getI a2 x13)).bind fun (x14 : SIIIBI) =>
      ((getI a3 x11)).bind fun (x15 : SIIII) =>
      (impl_podAt n a1 x15.2.1).bind fun (x16 : Int) =>
      ((getI a1 x16)).bind fun (x17 : SIILIIIJ) =>
      (impl_Steps n a0_0 a0_1 a0_2 x14.2.1 x17.2.1).bind fun (x18 : Int) =>
      (show Option (Int) from
        bif (decide (x18 < 0)) then
          some 100000
        else
          some x18).bind fun (x19 : Int) =>
      bif (decide (List.length x12.1 + List.length [x19] ≤ maxRow)) then
        some (.inl ((x12.1 ++ [x19]), (w64 (x12.2 + 1))))
      else
        none
    else
      none
  else
    some (.inr (x12.1, x12.2))

def impl_Dispatch_L1 (n : Nat) (a0_0 : Int) (a0_1 : Int) (a0_2 : List Int) (a1 : List SIILIIIJ) (a2 : List SIIIBI) (a3 : List SIIII) (x8 : (List Int)) (x9 : (List Int)) (x10 : (List ((List Int))) × Int) : Option (((List ((List Int))) × Int) ⊕ ((List ((List Int))) × Int)) :=
  bif (decide (x10.2 < ((List.length x9 : Int)))) then
    bif (inb x9 x10.2) then
      ((x9[(Int.toNat x10.2)]?)).bind fun (x11 : Int) =>
      (iter n (impl_Dispatch_L2 n a0_0 a0_1 a0_2 a1 a2 a3 x8 x11) (([] : List Int), 0)).bind fun (x20 : (List Int) × Int) =>
      bif (decide (List.length x10.1 + List.length [x20.1] ≤ maxRow)) then
        some (.inl ((x10.1 ++ [x20.1]), (w64 (x10.2 + 1))))
      else
        none
    else
      none
  else
    some (.inr (x10.1, x10.2))

def impl_Dispatch_L3 (n : Nat) (a1 : List SIILIIIJ) (x8 : (List Int)) (x9 : (List Int)) (x21 : (List ((List Int))) × Int) (x22 : (List Int) × Int) (x23 : Int × (List SIIIBI) × (List SIIII)) : Option ((Int × (List SIIIBI) × (List SIIII)) ⊕ (Int × (List SIIIBI) × (List SIIII))) :=
  bif (decide (x23.1 < ((List.length x22.1 : Int)))) then
    (show Option ((List SIIIBI) × (List SIIII)) from
      bif (inb x22.1 x23.1) then
        ((x22.1[(Int.toNat x23.1)]?)).bind fun (x25 : Int) =>
        bif (inb x21.1 x23.1) then
          ((x21.1[(Int.toNat x23.1)]?)).bind fun (x26 : (List Int)) =>
          ((x21.1[(Int.toNat x23.1)]?)).bind fun (x27 : (List Int)) =>
          bif (inb x27 x25) then
            ((x21.1[(Int.toNat x23.1)]?)).bind fun (x28 : (List Int)) =>
            ((x28[(Int.toNat x25)]?)).bind fun (x29 : Int) =>
            bif (decide (x29 ≥ 100000)) then
              some (x23.2.1, x23.2.2)
            else
              bif (inb x9 x23.1) then
                ((x9[(Int.toNat x23.1)]?)).bind fun (x30 : Int) =>
                bif (inb x23.2.2 x30) then
                  bif (inb x8 x25) then
                    ((x8[(Int.toNat x25)]?)).bind fun (x31 : Int) =>
                    bif (inb x23.2.1 x31) then
                      ((x23.2.1[(Int.toNat x31)]?)).bind fun (x32 : SIIIBI) =>
                      (((List.modify (List.modify x23.2.2 (Int.toNat x30) (fun (y : SIIII) => (y.1, y.2.1, x32.1, y.2.2.2))) (Int.toNat x30) (fun (y : SIIII) => (y.1, y.2.1, y.2.2.1, 2)))[(Int.toNat x30)]?)).bind fun (x33 : SIIII) =>
                      (impl_podAt n a1 x33.2.1).bind fun (x34 : Int) =>
                      ((getI a1 x34)).bind fun (x35 : SIILIIIJ) =>
                      some ((List.modify (List.modify x23.2.1 (Int.toNat x31) (fun (y : SIIIBI) => (y.1, y.2.1, x35.2.1, y.2.2.2.1, y.2.2.2.2))) (Int.toNat x31) (fun (y : SIIIBI) => (y.1, y.2.1, y.2.2.1, y.2.2.2.1, 0))), (List.modify (List.modify x23.2.2 (Int.toNat x30) (fun (y : SIIII) => (y.1, y.2.1, x32.1, y.2.2.2))) (Int.toNat x30) (fun (y : SIIII) => (y.1, y.2.1, y.2.2.1, 2))))
                    else
                      none
                  else
                    none
                else
                  none
              else
                none
          else
            none
        else
          none
      else
        none).bind fun (x24 : (List SIIIBI) × (List SIIII)) =>
    some (.inl ((w64 (x23.1 + 1)), x24.1, x24.2))
  else
    some (.inr (x23.1, x23.2.1, x23.2.2))

def impl_Dispatch (n : Nat) (a0_0 : Int) (a0_1 : Int) (a0_2 : List Int) (a1 : List SIILIIIJ) (a2 : List SIIIBI) (a3 : List SIIII) : Option ((List SIIIBI) × (List SIIII)) :=
  (impl_copyCrew a2).bind fun (x1 : (List SIIIBI)) =>
  (impl_copyTasks a3).bind fun (x2 : (List SIIII)) =>
  (show Option (Bool) from
    (impl_FloorOk n a0_0 a0_1 a0_2).bind fun (x3 : Bool) =>
    bif (!x3) then
      some true
    else
      (impl_StockOk n a1).bind fun (x4 : Bool) =>
      bif (!x4) then
        some true
      else
        (impl_CrewOk n a0_0 a0_1 a0_2 a2).bind fun (x5 : Bool) =>
        bif (!x5) then
          some true
        else
          (impl_TasksOk n a3).bind fun (x6 : Bool) =>
          some (!x6)).bind fun (x7 : Bool) =>
  bif x7 then
    some (x1, x2)
  else
    (impl_idle n a2 a3).bind fun (x8 : (List Int)) =>
    (impl_ready n a1 a3 ((List.length x8 : Int))).bind fun (x9 : (List Int)) =>
    (iter n (impl_Dispatch_L1 n a0_0 a0_1 a0_2 a1 a2 a3 x8 x9) (([] : List ((List Int))), 0)).bind fun (x21 : (List ((List Int))) × Int) =>
    (impl_Match n x21.1).bind fun (x22 : (List Int) × Int) =>
    (iter n (impl_Dispatch_L3 n a1 x8 x9 x21 x22) (0, x1, x2)).bind fun (x36 : Int × (List SIIIBI) × (List SIIII)) =>
    some (x36.2.1, x36.2.2)

def laws_eqRobot (a0_0 : Int) (a0_1 : Int) (a0_2 : Int) (a0_3 : Bool) (a0_4 : Int) (a1_0 : Int) (a1_1 : Int) (a1_2 : Int) (a1_3 : Bool) (a1_4 : Int) : Option (Bool) :=
  bif (a0_0 != a1_0) then
    some false
  else
    bif (a0_1 != a1_1) then
      some false
    else
      bif (a0_2 != a1_2) then
        some false
      else
        bif (a0_3 != a1_3) then
          some false
        else
          bif (a0_4 != a1_4) then
            some false
          else
            some true

def laws_eqRobotS_L1 (a0 : List SIIIBI) (a1 : List SIIIBI) (x1 : Int) : Option ((Int) ⊕ ((Int) ⊕ (Bool))) :=
  bif (decide (x1 < ((List.length a0 : Int)))) then
    ((getI a0 x1)).bind fun (x2 : SIIIBI) =>
    ((getI a1 x1)).bind fun (x3 : SIIIBI) =>
    (laws_eqRobot x2.1 x2.2.1 x2.2.2.1 x2.2.2.2.1 x2.2.2.2.2 x3.1 x3.2.1 x3.2.2.1 x3.2.2.2.1 x3.2.2.2.2).bind fun (x4 : Bool) =>
    bif (!x4) then
      some (.inr (.inr false))
    else
      some (.inl (w64 (x1 + 1)))
  else
    some (.inr (.inl x1))

def laws_eqRobotS (n : Nat) (a0 : List SIIIBI) (a1 : List SIIIBI) : Option (Bool) :=
  bif (((List.length a0 : Int)) != ((List.length a1 : Int))) then
    some false
  else
    (iter n (laws_eqRobotS_L1 a0 a1) 0).bind fun (x5 : (Int) ⊕ (Bool)) =>
    (match x5 with
    | .inl x6 => (
      some true)
    | .inr x7 => (
      some x7))

def laws_eqTask (a0_0 : Int) (a0_1 : Int) (a0_2 : Int) (a0_3 : Int) (a1_0 : Int) (a1_1 : Int) (a1_2 : Int) (a1_3 : Int) : Option (Bool) :=
  bif (a0_0 != a1_0) then
    some false
  else
    bif (a0_1 != a1_1) then
      some false
    else
      bif (a0_2 != a1_2) then
        some false
      else
        bif (a0_3 != a1_3) then
          some false
        else
          some true

def laws_eqTaskS_L1 (a0 : List SIIII) (a1 : List SIIII) (x1 : Int) : Option ((Int) ⊕ ((Int) ⊕ (Bool))) :=
  bif (decide (x1 < ((List.length a0 : Int)))) then
    ((getI a0 x1)).bind fun (x2 : SIIII) =>
    ((getI a1 x1)).bind fun (x3 : SIIII) =>
    (laws_eqTask x2.1 x2.2.1 x2.2.2.1 x2.2.2.2 x3.1 x3.2.1 x3.2.2.1 x3.2.2.2).bind fun (x4 : Bool) =>
    bif (!x4) then
      some (.inr (.inr false))
    else
      some (.inl (w64 (x1 + 1)))
  else
    some (.inr (.inl x1))

def laws_eqTaskS (n : Nat) (a0 : List SIIII) (a1 : List SIIII) : Option (Bool) :=
  bif (((List.length a0 : Int)) != ((List.length a1 : Int))) then
    some false
  else
    (iter n (laws_eqTaskS_L1 a0 a1) 0).bind fun (x5 : (Int) ⊕ (Bool)) =>
    (match x5 with
    | .inl x6 => (
      some true)
    | .inr x7 => (
      some x7))

def laws_eqIntS_L1 (a0 : List Int) (a1 : List Int) (x1 : Int) : Option ((Int) ⊕ ((Int) ⊕ (Bool))) :=
  bif (decide (x1 < ((List.length a0 : Int)))) then
    ((getI a0 x1)).bind fun (x2 : Int) =>
    ((getI a1 x1)).bind fun (x3 : Int) =>
    bif (x2 != x3) then
      some (.inr (.inr false))
    else
      some (.inl (w64 (x1 + 1)))
  else
    some (.inr (.inl x1))

def laws_eqIntS (n : Nat) (a0 : List Int) (a1 : List Int) : Option (Bool) :=
  bif (((List.length a0 : Int)) != ((List.length a1 : Int))) then
    some false
  else
    (iter n (laws_eqIntS_L1 a0 a1) 0).bind fun (x4 : (Int) ⊕ (Bool)) =>
    (match x4 with
    | .inl x5 => (
      some true)
    | .inr x6 => (
      some x6))

def laws_eqFloor (n : Nat) (a0_0 : Int) (a0_1 : Int) (a0_2 : List Int) (a1_0 : Int) (a1_1 : Int) (a1_2 : List Int) : Option (Bool) :=
  bif (a0_0 != a1_0) then
    some false
  else
    bif (a0_1 != a1_1) then
      some false
    else
      (laws_eqIntS n a0_2 a1_2).bind fun (x1 : Bool) =>
      bif (!x1) then
        some false
      else
        some true

def laws_eqStack (a0_0 : Int) (a0_1 : Int) (a0_2 : Int) (a1_0 : Int) (a1_1 : Int) (a1_2 : Int) : Option (Bool) :=
  bif (a0_0 != a1_0) then
    some false
  else
    bif (a0_1 != a1_1) then
      some false
    else
      bif (a0_2 != a1_2) then
        some false
      else
        some true

def laws_eqStackS_L1 (a0 : List SIII) (a1 : List SIII) (x1 : Int) : Option ((Int) ⊕ ((Int) ⊕ (Bool))) :=
  bif (decide (x1 < ((List.length a0 : Int)))) then
    ((getI a0 x1)).bind fun (x2 : SIII) =>
    ((getI a1 x1)).bind fun (x3 : SIII) =>
    (laws_eqStack x2.1 x2.2.1 x2.2.2 x3.1 x3.2.1 x3.2.2).bind fun (x4 : Bool) =>
    bif (!x4) then
      some (.inr (.inr false))
    else
      some (.inl (w64 (x1 + 1)))
  else
    some (.inr (.inl x1))

def laws_eqStackS (n : Nat) (a0 : List SIII) (a1 : List SIII) : Option (Bool) :=
  bif (((List.length a0 : Int)) != ((List.length a1 : Int))) then
    some false
  else
    (iter n (laws_eqStackS_L1 a0 a1) 0).bind fun (x5 : (Int) ⊕ (Bool)) =>
    (match x5 with
    | .inl x6 => (
      some true)
    | .inr x7 => (
      some x7))

def laws_eqPod (n : Nat) (a0_0 : Int) (a0_1 : Int) (a0_2 : List SIII) (a1_0 : Int) (a1_1 : Int) (a1_2 : List SIII) : Option (Bool) :=
  bif (a0_0 != a1_0) then
    some false
  else
    bif (a0_1 != a1_1) then
      some false
    else
      (laws_eqStackS n a0_2 a1_2).bind fun (x1 : Bool) =>
      bif (!x1) then
        some false
      else
        some true

def laws_eqPodS_L1 (n : Nat) (a0 : List SIILIIIJ) (a1 : List SIILIIIJ) (x1 : Int) : Option ((Int) ⊕ ((Int) ⊕ (Bool))) :=
  bif (decide (x1 < ((List.length a0 : Int)))) then
    ((getI a0 x1)).bind fun (x2 : SIILIIIJ) =>
    ((getI a1 x1)).bind fun (x3 : SIILIIIJ) =>
    (laws_eqPod n x2.1 x2.2.1 x2.2.2 x3.1 x3.2.1 x3.2.2).bind fun (x4 : Bool) =>
    bif (!x4) then
      some (.inr (.inr false))
    else
      some (.inl (w64 (x1 + 1)))
  else
    some (.inr (.inl x1))

def laws_eqPodS (n : Nat) (a0 : List SIILIIIJ) (a1 : List SIILIIIJ) : Option (Bool) :=
  bif (((List.length a0 : Int)) != ((List.length a1 : Int))) then
    some false
  else
    (iter n (laws_eqPodS_L1 n a0 a1) 0).bind fun (x5 : (Int) ⊕ (Bool)) =>
    (match x5 with
    | .inl x6 => (
      some true)
    | .inr x7 => (
      some x7))

def laws_eqStock (n : Nat) (a0 : List SIILIIIJ) (a1 : List SIILIIIJ) : Option (Bool) :=
  (laws_eqPodS n a0 a1).bind fun (x1 : Bool) =>
  bif (!x1) then
    some false
  else
    some true

def laws_markIntS_L1 (x1 : SIILIJ) : Option ((SIILIJ) ⊕ (SIILIJ)) :=
  bif (decide (x1.2.1 < ((List.length x1.2.2 : Int)))) then
    bif (inb x1.2.2 x1.2.1) then
      some (.inl ((w64 (x1.1 + 1)), (w64 (x1.2.1 + 1)), (upd x1.2.2 (Int.toNat x1.2.1) x1.1)))
    else
      none
  else
    some (.inr (x1.1, x1.2.1, x1.2.2))

def laws_markIntS (n : Nat) (a0 : List Int) (a1 : Int) : Option (Int × (List Int)) :=
  (iter n (laws_markIntS_L1) (a1, 0, a0)).bind fun (x2 : SIILIJ) =>
  some (x2.1, x2.2.2)

def laws_markFloor (n : Nat) (a0_0 : Int) (a0_1 : Int) (a0_2 : List Int) (a1 : Int) : Option (Int × Int × Int × (List Int)) :=
  (laws_markIntS n a0_2 a1).bind fun (x1 : Int × (List Int)) =>
  some (x1.1, a0_0, a0_1, x1.2)

def laws_markStackS_L1 (x1 : SIILIIIJ) : Option ((SIILIIIJ) ⊕ (SIILIIIJ)) :=
  bif (decide (x1.2.1 < ((List.length x1.2.2 : Int)))) then
    bif (inb x1.2.2 x1.2.1) then
      bif (inb (List.modify x1.2.2 (Int.toNat x1.2.1) (fun (y : SIII) => (x1.1, y.2.1, y.2.2))) x1.2.1) then
        bif (inb (List.modify (List.modify x1.2.2 (Int.toNat x1.2.1) (fun (y : SIII) => (x1.1, y.2.1, y.2.2))) (Int.toNat x1.2.1) (fun (y : SIII) => (y.1, (w64 (x1.1 + 1)), y.2.2))) x1.2.1) then
          some (.inl ((w64 ((w64 ((w64 (x1.1 + 1)) + 1)) + 1)), (w64 (x1.2.1 + 1)), (List.modify (List.modify (List.modify x1.2.2 (Int.toNat x1.2.1) (fun (y : SIII) => (x1.1, y.2.1, y.2.2))) (Int.toNat x1.2.1) (fun (y : SIII) => (y.1, (w64 (x1.1 + 1)), y.2.2))) (Int.toNat x1.2.1) (fun (y : SIII) => (y.1, y.2.1, (w64 ((w64 (x1.1 + 1)) + 1)))))))
        else
          none
      else
        none
    else
      none
  else
    some (.inr (x1.1, x1.2.1, x1.2.2))

def laws_markStackS (n : Nat) (a0 : List SIII) (a1 : Int) : Option (Int × (List SIII)) :=
  (iter n (laws_markStackS_L1) (a1, 0, a0)).bind fun (x2 : SIILIIIJ) =>
  some (x2.1, x2.2.2)

def laws_markPodS_L1 (n : Nat) (x1 : Int × Int × (List SIILIIIJ)) : Option ((Int × Int × (List SIILIIIJ)) ⊕ (Int × Int × (List SIILIIIJ))) :=
  bif (decide (x1.2.1 < ((List.length x1.2.2 : Int)))) then
    bif (inb x1.2.2 x1.2.1) then
      bif (inb (List.modify x1.2.2 (Int.toNat x1.2.1) (fun (y : SIILIIIJ) => (x1.1, y.2.1, y.2.2))) x1.2.1) then
        bif (inb (List.modify (List.modify x1.2.2 (Int.toNat x1.2.1) (fun (y : SIILIIIJ) => (x1.1, y.2.1, y.2.2))) (Int.toNat x1.2.1) (fun (y : SIILIIIJ) => (y.1, (w64 (x1.1 + 1)), y.2.2))) x1.2.1) then
          (((List.modify (List.modify x1.2.2 (Int.toNat x1.2.1) (fun (y : SIILIIIJ) => (x1.1, y.2.1, y.2.2))) (Int.toNat x1.2.1) (fun (y : SIILIIIJ) => (y.1, (w64 (x1.1 + 1)), y.2.2)))[(Int.toNat x1.2.1)]?)).bind fun (x2 : SIILIIIJ) =>
          (((List.modify (List.modify x1.2.2 (Int.toNat x1.2.1) (fun (y : SIILIIIJ) => (x1.1, y.2.1, y.2.2))) (Int.toNat x1.2.1) (fun (y : SIILIIIJ) => (y.1, (w64 (x1.1 + 1)), y.2.2)))[(Int.toNat x1.2.1)]?)).bind fun (x3 : SIILIIIJ) =>
          (laws_markStackS n x3.2.2 (w64 ((w64 (x1.1 + 1)) + 1))).bind fun (x4 : Int × (List SIII)) =>
          some (.inl (x4.1, (w64 (x1.2.1 + 1)), (List.modify (List.modify (List.modify x1.2.2 (Int.toNat x1.2.1) (fun (y : SIILIIIJ) => (x1.1, y.2.1, y.2.2))) (Int.toNat x1.2.1) (fun (y : SIILIIIJ) => (y.1, (w64 (x1.1 + 1)), y.2.2))) (Int.toNat x1.2.1) (fun (y1 : SIILIIIJ) => (y1.1, y1.2.1, x4.2)))))
        else
          none
      else
        none
    else
      none
  else
    some (.inr (x1.1, x1.2.1, x1.2.2))

def laws_markPodS (n : Nat) (a0 : List SIILIIIJ) (a1 : Int) : Option (Int × (List SIILIIIJ)) :=
  (iter n (laws_markPodS_L1 n) (a1, 0, a0)).bind fun (x5 : Int × Int × (List SIILIIIJ)) =>
  some (x5.1, x5.2.2)

def laws_markStock (n : Nat) (a0 : List SIILIIIJ) (a1 : Int) : Option (Int × (List SIILIIIJ)) :=
  (laws_markPodS n a0 a1).bind fun (x1 : Int × (List SIILIIIJ)) =>
  some (x1.1, x1.2)

def laws_markRobotS_L1 (x1 : Int × Int × (List SIIIBI)) : Option ((Int × Int × (List SIIIBI)) ⊕ (Int × Int × (List SIIIBI))) :=
  bif (decide (x1.2.1 < ((List.length x1.2.2 : Int)))) then
    bif (inb x1.2.2 x1.2.1) then
      bif (inb (List.modify x1.2.2 (Int.toNat x1.2.1) (fun (y : SIIIBI) => (x1.1, y.2.1, y.2.2.1, y.2.2.2.1, y.2.2.2.2))) x1.2.1) then
        bif (inb (List.modify (List.modify x1.2.2 (Int.toNat x1.2.1) (fun (y : SIIIBI) => (x1.1, y.2.1, y.2.2.1, y.2.2.2.1, y.2.2.2.2))) (Int.toNat x1.2.1) (fun (y : SIIIBI) => (y.1, (w64 (x1.1 + 1)), y.2.2.1, y.2.2.2.1, y.2.2.2.2))) x1.2.1) then
          bif (inb (List.modify (List.modify (List.modify x1.2.2 (Int.toNat x1.2.1) (fun (y : SIIIBI) => (x1.1, y.2.1, y.2.2.1, y.2.2.2.1, y.2.2.2.2))) (Int.toNat x1.2.1) (fun (y : SIIIBI) => (y.1, (w64 (x1.1 + 1)), y.2.2.1, y.2.2.2.1, y.2.2.2.2))) (Int.toNat x1.2.1) (fun (y : SIIIBI) => (y.1, y.2.1, (w64 ((w64 (x1.1 + 1)) + 1)), y.2.2.2.1, y.2.2.2.2))) x1.2.1) then
            bif (inb (List.modify (List.modify (List.modify (List.modify x1.2.2 (Int.toNat x1.2.1) (fun (y : SIIIBI) => (x1.1, y.2.1, y.2.2.1, y.2.2.2.1, y.2.2.2.2))) (Int.toNat x1.2.1) (fun (y : SIIIBI) => (y.1, (w64 (x1.1 + 1)), y.2.2.1, y.2.2.2.1, y.2.2.2.2))) (Int.toNat x1.2.1) (fun (y : SIIIBI) => (y.1, y.2.1, (w64 ((w64 (x1.1 + 1)) + 1)), y.2.2.2.1, y.2.2.2.2))) (Int.toNat x1.2.1) (fun (y : SIIIBI) => (y.1, y.2.1, y.2.2.1, ((Int.tmod (w64 ((w64 ((w64 (x1.1 + 1)) + 1)) + 1)) 3) == 0), y.2.2.2.2))) x1.2.1) then
              some (.inl ((w64 ((w64 ((w64 ((w64 ((w64 (x1.1 + 1)) + 1)) + 1)) + 1)) + 1)), (w64 (x1.2.1 + 1)), (List.modify (List.modify (List.modify (List.modify (List.modify x1.2.2 (Int.toNat x1.2.1) (fun (y : SIIIBI) => (x1.1, y.2.1, y.2.2.1, y.2.2.2.1, y.2.2.2.2))) (Int.toNat x1.2.1) (fun (y : SIIIBI) => (y.1, (w64 (x1.1 + 1)), y.2.2.1, y.2.2.2.1, y.2.2.2.2))) (Int.toNat x1.2.1) (fun (y : SIIIBI) => (y.1, y.2.1, (w64 ((w64 (x1.1 + 1)) + 1)), y.2.2.2.1, y.2.2.2.2))) (Int.toNat x1.2.1) (fun (y : SIIIBI) => (y.1, y.2.1, y.2.2.1, ((Int.tmod (w64 ((w64 ((w64 (x1.1 + 1)) + 1)) + 1)) 3) == 0), y.2.2.2.2))) (Int.toNat x1.2.1) (fun (y : SIIIBI) => (y.1, y.2.1, y.2.2.1, y.2.2.2.1, (w64 ((w64 ((w64 ((w64 (x1.1 + 1)) + 1)) + 1)) + 1)))))))
            else
              none
          else
            none
        else
          none
      else
        none
    else
      none
  else
    some (.inr (x1.1, x1.2.1, x1.2.2))

def laws_markRobotS (n : Nat) (a0 : List SIIIBI) (a1 : Int) : Option (Int × (List SIIIBI)) :=
  (iter n (laws_markRobotS_L1) (a1, 0, a0)).bind fun (x2 : Int × Int × (List SIIIBI)) =>
  some (x2.1, x2.2.2)

def laws_markTaskS_L1 (x1 : Int × Int × (List SIIII)) : Option ((Int × Int × (List SIIII)) ⊕ (Int × Int × (List SIIII))) :=
  bif (decide (x1.2.1 < ((List.length x1.2.2 : Int)))) then
    bif (inb x1.2.2 x1.2.1) then
      bif (inb (List.modify x1.2.2 (Int.toNat x1.2.1) (fun (y : SIIII) => (x1.1, y.2.1, y.2.2.1, y.2.2.2))) x1.2.1) then
        bif (inb (List.modify (List.modify x1.2.2 (Int.toNat x1.2.1) (fun (y : SIIII) => (x1.1, y.2.1, y.2.2.1, y.2.2.2))) (Int.toNat x1.2.1) (fun (y : SIIII) => (y.1, (w64 (x1.1 + 1)), y.2.2.1, y.2.2.2))) x1.2.1) then
          bif (inb (List.modify (List.modify (List.modify x1.2.2 (Int.toNat x1.2.1) (fun (y : SIIII) => (x1.1, y.2.1, y.2.2.1, y.2.2.2))) (Int.toNat x1.2.1) (fun (y : SIIII) => (y.1, (w64 (x1.1 + 1)), y.2.2.1, y.2.2.2))) (Int.toNat x1.2.1) (fun (y : SIIII) => (y.1, y.2.1, (w64 ((w64 (x1.1 + 1)) + 1)), y.2.2.2))) x1.2.1) then
            some (.inl ((w64 ((w64 ((w64 ((w64 (x1.1 + 1)) + 1)) + 1)) + 1)), (w64 (x1.2.1 + 1)), (List.modify (List.modify (List.modify (List.modify x1.2.2 (Int.toNat x1.2.1) (fun (y : SIIII) => (x1.1, y.2.1, y.2.2.1, y.2.2.2))) (Int.toNat x1.2.1) (fun (y : SIIII) => (y.1, (w64 (x1.1 + 1)), y.2.2.1, y.2.2.2))) (Int.toNat x1.2.1) (fun (y : SIIII) => (y.1, y.2.1, (w64 ((w64 (x1.1 + 1)) + 1)), y.2.2.2))) (Int.toNat x1.2.1) (fun (y : SIIII) => (y.1, y.2.1, y.2.2.1, (w64 ((w64 ((w64 (x1.1 + 1)) + 1)) + 1)))))))
          else
            none
        else
          none
      else
        none
    else
      none
  else
    some (.inr (x1.1, x1.2.1, x1.2.2))

def laws_markTaskS (n : Nat) (a0 : List SIIII) (a1 : Int) : Option (Int × (List SIIII)) :=
  (iter n (laws_markTaskS_L1) (a1, 0, a0)).bind fun (x2 : Int × Int × (List SIIII)) =>
  some (x2.1, x2.2.2)

def laws_heldRobotS_L1 (a0 : List SIIIBI) (x1 : SII) : Option ((SII) ⊕ ((SII) ⊕ (Int))) :=
  bif (decide (x1.2 < ((List.length a0 : Int)))) then
    ((getI a0 x1.2)).bind fun (x2 : SIIIBI) =>
    bif (x2.1 != x1.1) then
      some (.inr (.inr (-1)))
    else
      ((getI a0 x1.2)).bind fun (x3 : SIIIBI) =>
      bif (x3.2.1 != (w64 (x1.1 + 1))) then
        some (.inr (.inr (-1)))
      else
        ((getI a0 x1.2)).bind fun (x4 : SIIIBI) =>
        bif (x4.2.2.1 != (w64 ((w64 (x1.1 + 1)) + 1))) then
          some (.inr (.inr (-1)))
        else
          ((getI a0 x1.2)).bind fun (x5 : SIIIBI) =>
          bif (x5.2.2.2.1 != ((Int.tmod (w64 ((w64 ((w64 (x1.1 + 1)) + 1)) + 1)) 3) == 0)) then
            some (.inr (.inr (-1)))
          else
            ((getI a0 x1.2)).bind fun (x6 : SIIIBI) =>
            bif (x6.2.2.2.2 != (w64 ((w64 ((w64 ((w64 (x1.1 + 1)) + 1)) + 1)) + 1))) then
              some (.inr (.inr (-1)))
            else
              some (.inl ((w64 ((w64 ((w64 ((w64 ((w64 (x1.1 + 1)) + 1)) + 1)) + 1)) + 1)), (w64 (x1.2 + 1))))
  else
    some (.inr (.inl (x1.1, x1.2)))

def laws_heldRobotS (n : Nat) (a0 : List SIIIBI) (a1 : Int) : Option (Int) :=
  (iter n (laws_heldRobotS_L1 a0) (a1, 0)).bind fun (x7 : (SII) ⊕ (Int)) =>
  (match x7 with
  | .inl x8 => (
    some x8.1)
  | .inr x9 => (
    some x9))

def laws_heldTaskS_L1 (a0 : List SIIII) (x1 : SII) : Option ((SII) ⊕ ((SII) ⊕ (Int))) :=
  bif (decide (x1.2 < ((List.length a0 : Int)))) then
    ((getI a0 x1.2)).bind fun (x2 : SIIII) =>
    bif (x2.1 != x1.1) then
      some (.inr (.inr (-1)))
    else
      ((getI a0 x1.2)).bind fun (x3 : SIIII) =>
      bif (x3.2.1 != (w64 (x1.1 + 1))) then
        some (.inr (.inr (-1)))
      else
        ((getI a0 x1.2)).bind fun (x4 : SIIII) =>
        bif (x4.2.2.1 != (w64 ((w64 (x1.1 + 1)) + 1))) then
          some (.inr (.inr (-1)))
        else
          ((getI a0 x1.2)).bind fun (x5 : SIIII) =>
          bif (x5.2.2.2 != (w64 ((w64 ((w64 (x1.1 + 1)) + 1)) + 1))) then
            some (.inr (.inr (-1)))
          else
            some (.inl ((w64 ((w64 ((w64 ((w64 (x1.1 + 1)) + 1)) + 1)) + 1)), (w64 (x1.2 + 1))))
  else
    some (.inr (.inl (x1.1, x1.2)))

def laws_heldTaskS (n : Nat) (a0 : List SIIII) (a1 : Int) : Option (Int) :=
  (iter n (laws_heldTaskS_L1 a0) (a1, 0)).bind fun (x6 : (SII) ⊕ (Int)) =>
  (match x6 with
  | .inl x7 => (
    some x7.1)
  | .inr x8 => (
    some x8))

def laws_FnExactDispatch (n : Nat) (a0_0 : Int) (a0_1 : Int) (a0_2 : List Int) (a1 : List SIILIIIJ) (a2 : List SIIIBI) (a3 : List SIIII) : Option (Bool) :=
  (laws_szFloor a0_0 a0_1 a0_2 1048576).bind fun (x1 : Int) =>
  bif (decide (x1 < 0)) then
    some true
  else
    (laws_szStock n a1 x1).bind fun (x2 : Int) =>
    bif (decide (x2 < 0)) then
      some true
    else
      (laws_szRobotS a2 x2).bind fun (x3 : Int) =>
      bif (decide (x3 < 0)) then
        some true
      else
        (laws_szTaskS a3 x3).bind fun (x4 : Int) =>
        bif (decide (x4 < 0)) then
          some true
        else
          (laws_toFloor n a0_0 a0_1 a0_2).bind fun (x5 : SIILIJ) =>
          (laws_toStock n a1).bind fun (x6 : (List SIILIIIJ)) =>
          (laws_toRobotS n a2).bind fun (x7 : (List SIIIBI)) =>
          (laws_toTaskS n a3).bind fun (x8 : (List SIIII)) =>
          (spec_Dispatch n x5.1 x5.2.1 x5.2.2 x6 x7 x8).bind fun (x9 : (List SIIIBI) × (List SIIII)) =>
          (laws_toFloor n a0_0 a0_1 a0_2).bind fun (x10 : SIILIJ) =>
          (laws_toStock n a1).bind fun (x11 : (List SIILIIIJ)) =>
          (laws_toRobotS n a2).bind fun (x12 : (List SIIIBI)) =>
          (laws_toTaskS n a3).bind fun (x13 : (List SIIII)) =>
          (impl_Dispatch n x10.1 x10.2.1 x10.2.2 x11 x12 x13).bind fun (x14 : (List SIIIBI) × (List SIIII)) =>
          (show Option (Bool) from
            (laws_eqRobotS n x14.1 x9.1).bind fun (x15 : Bool) =>
            bif (!x15) then
              some true
            else
              (laws_eqTaskS n x14.2 x9.2).bind fun (x16 : Bool) =>
              some (!x16)).bind fun (x17 : Bool) =>
          bif x17 then
            some false
          else
            (laws_toFloor n a0_0 a0_1 a0_2).bind fun (x18 : SIILIJ) =>
            (laws_eqFloor n x10.1 x10.2.1 x10.2.2 x18.1 x18.2.1 x18.2.2).bind fun (x19 : Bool) =>
            bif (!x19) then
              some false
            else
              (laws_toStock n a1).bind fun (x20 : (List SIILIIIJ)) =>
              (laws_eqStock n x11 x20).bind fun (x21 : Bool) =>
              bif (!x21) then
                some false
              else
                (laws_toRobotS n a2).bind fun (x22 : (List SIIIBI)) =>
                (laws_eqRobotS n x12 x22).bind fun (x23 : Bool) =>
                bif (!x23) then
                  some false
                else
                  (laws_toTaskS n a3).bind fun (x24 : (List SIIII)) =>
                  (laws_eqTaskS n x13 x24).bind fun (x25 : Bool) =>
                  bif (!x25) then
                    some false
                  else
                    (laws_markFloor n x10.1 x10.2.1 x10.2.2 1).bind fun (x26 : Int × Int × Int × (List Int)) =>
                    (laws_markStock n x11 x26.1).bind fun (x27 : Int × (List SIILIIIJ)) =>
                    (laws_markRobotS n x12 x27.1).bind fun (x28 : Int × (List SIIIBI)) =>
                    (laws_markTaskS n x13 x28.1).bind fun (x29 : Int × (List SIIII)) =>
                    (show Option (Bool) from
                      bif (decide (x29.1 < 0)) then
                        some true
                      else
                        (laws_eqRobotS n x14.1 x9.1).bind fun (x30 : Bool) =>
                        bif (!x30) then
                          some true
                        else
                          (laws_eqTaskS n x14.2 x9.2).bind fun (x31 : Bool) =>
                          some (!x31)).bind fun (x32 : Bool) =>
                    bif x32 then
                      some false
                    else
                      (laws_markRobotS n x14.1 1).bind fun (x33 : Int × (List SIIIBI)) =>
                      (laws_markTaskS n x14.2 x33.1).bind fun (x34 : Int × (List SIIII)) =>
                      (laws_heldRobotS n x33.2 1).bind fun (x35 : Int) =>
                      bif (decide (x35 < 0)) then
                        some false
                      else
                        (laws_heldTaskS n x34.2 x35).bind fun (x36 : Int) =>
                        bif (decide (x36 < 0)) then
                          some false
                        else
                          bif (x36 != x34.1) then
                            some false
                          else
                            (laws_toFloor n a0_0 a0_1 a0_2).bind fun (x37 : SIILIJ) =>
                            (laws_toStock n a1).bind fun (x38 : (List SIILIIIJ)) =>
                            (laws_toRobotS n a2).bind fun (x39 : (List SIIIBI)) =>
                            (laws_toTaskS n a3).bind fun (x40 : (List SIIII)) =>
                            (impl_Dispatch n x37.1 x37.2.1 x37.2.2 x38 x39 x40).bind fun (x41 : (List SIIIBI) × (List SIIII)) =>
                            (show Option (Bool) from
                              (laws_eqRobotS n x41.1 x9.1).bind fun (x42 : Bool) =>
                              bif (!x42) then
                                some true
                              else
                                (laws_eqTaskS n x41.2 x9.2).bind fun (x43 : Bool) =>
                                some (!x43)).bind fun (x44 : Bool) =>
                            bif x44 then
                              some false
                            else
                              (laws_heldRobotS n x33.2 1).bind fun (x45 : Int) =>
                              bif (decide (x45 < 0)) then
                                some false
                              else
                                (laws_heldTaskS n x34.2 x45).bind fun (x46 : Int) =>
                                bif (decide (x46 < 0)) then
                                  some false
                                else
                                  bif (x46 != x34.1) then
                                    some false
                                  else
                                    some true

end Go.Ev.N
