/- The native forms of the functions, as gen.py prints them. Conditions: none. -/
import Derived.Test.YtjbfgbgibmebfaaLib4
namespace Go.Ev.N
open Go Go.Ev
set_option linter.unusedVariables false

def w64 (n : Int) : Int := IntKind.wrap .i64 n

abbrev STI := (List UInt8) × Int

abbrev SII := Int × Int

abbrev SIII := Int × Int × Int

abbrev SBII := Bool × Int × Int

abbrev SIIBI := Int × Int × Bool × Int

abbrev SIIII := Int × Int × Int × Int

abbrev SIIIBI := Int × Int × Int × Bool × Int

abbrev SIILIJ := Int × Int × (List Int)

abbrev SIILIIIJ := Int × Int × (List SIII)

abbrev SLIJII := (List Int) × Int × Int

abbrev SIILIIJLIIIJI := Int × Int × (List SII) × (List SIII) × Int

abbrev SIILIJLIIIBIJLIJ := Int × Int × (List Int) × (List SIIIBI) × (List Int)

abbrev SLIJIBIIILIJLBIIJ := (List Int) × Int × Bool × Int × Int × Int × (List Int) × (List SBII)

abbrev SILIILIIJLIIIJIJ := Int × (List SIILIIJLIIIJI)

abbrev SIILIJLIIIBIJLLIJJLIJ := Int × Int × (List Int) × (List SIIIBI) × (List ((List Int))) × (List Int)

abbrev SIILIJLIILIIIJJILIILIIJLIIIJIJLIIIBIJLIIIIJLIJLIJI := Int × Int × (List Int) × (List SIILIIIJ) × Int × (List SIILIIJLIIIJI) × (List SIIIBI) × (List SIIII) × (List Int) × (List Int) × Int

def laws_szIntS (a0 : List Int) (a1 : Int) : Option (Int) :=
  bif (decide ((w64 (a1 - ((List.length a0 : Int)))) < 0)) then
    some (-1)
  else
    some (w64 (a1 - ((List.length a0 : Int))))

def laws_szFloor (a0_0 : Int) (a0_1 : Int) (a0_2 : List Int) (a1 : Int) : Option (Int) :=
  (laws_szIntS a0_2 a1).bind fun (x1 : Int) =>
  bif (decide (x1 < 0)) then
    some (-1)
  else
    some x1

def laws_szStackS (a0 : List SIII) (a1 : Int) : Option (Int) :=
  bif (decide ((w64 (a1 - ((List.length a0 : Int)))) < 0)) then
    some (-1)
  else
    some (w64 (a1 - ((List.length a0 : Int))))

def laws_szPod (a0_0 : Int) (a0_1 : Int) (a0_2 : List SIII) (a1 : Int) : Option (Int) :=
  (laws_szStackS a0_2 a1).bind fun (x1 : Int) =>
  bif (decide (x1 < 0)) then
    some (-1)
  else
    some x1

def laws_szPodS_L1 (a0 : List SIILIIIJ) (x1 : SII) : Option ((SII) ⊕ ((SII) ⊕ (Int))) :=
  bif (decide (x1.2 < ((List.length a0 : Int)))) then
    ((getI a0 x1.2)).bind fun (x2 : SIILIIIJ) =>
    (laws_szPod x2.1 x2.2.1 x2.2.2 x1.1).bind fun (x3 : Int) =>
    bif (decide (x3 < 0)) then
      some (.inr (.inr (-1)))
    else
      some (.inl (x3, (w64 (x1.2 + 1))))
  else
    some (.inr (.inl (x1.1, x1.2)))

def laws_szPodS (n : Nat) (a0 : List SIILIIIJ) (a1 : Int) : Option (Int) :=
  bif (decide ((w64 (a1 - ((List.length a0 : Int)))) < 0)) then
    some (-1)
  else
    (iter n (laws_szPodS_L1 a0) ((w64 (a1 - ((List.length a0 : Int)))), 0)).bind fun (x4 : (SII) ⊕ (Int)) =>
    (match x4 with
    | .inl x5 => (
      some x5.1)
    | .inr x6 => (
      some x6))

def laws_szStock (n : Nat) (a0 : List SIILIIIJ) (a1 : Int) : Option (Int) :=
  (laws_szPodS n a0 a1).bind fun (x1 : Int) =>
  bif (decide (x1 < 0)) then
    some (-1)
  else
    some x1

def laws_toIntS_L1 (a0 : List Int) (x1 : Int × (List Int)) : Option ((Int × (List Int)) ⊕ (Int × (List Int))) :=
  bif (decide (x1.1 < ((List.length a0 : Int)))) then
    ((getI a0 x1.1)).bind fun (x2 : Int) =>
    bif (inb x1.2 x1.1) then
      some (.inl ((w64 (x1.1 + 1)), (upd x1.2 (Int.toNat x1.1) x2)))
    else
      none
  else
    some (.inr (x1.1, x1.2))

def laws_toIntS (n : Nat) (a0 : List Int) : Option ((List Int)) :=
  bif (decide (0 ≤ ((List.length a0 : Int))) && decide (((List.length a0 : Int)) ≤ (maxRow : Int)) && decide (((List.length a0 : Int)) = ((List.length a0 : Int)))) then
    (iter n (laws_toIntS_L1 a0) (0, (List.replicate (Int.toNat ((List.length a0 : Int))) (0 : Int)))).bind fun (x3 : Int × (List Int)) =>
    some x3.2
  else
    none

def laws_toFloor (n : Nat) (a0_0 : Int) (a0_1 : Int) (a0_2 : List Int) : Option (SIILIJ) :=
  (laws_toIntS n a0_2).bind fun (x1 : (List Int)) =>
  some (a0_0, a0_1, x1)

def laws_toStack (a0_0 : Int) (a0_1 : Int) (a0_2 : Int) : Option (SIII) :=
  some (a0_0, a0_1, a0_2)

def laws_toStackS_L1 (a0 : List SIII) (x1 : Int × (List SIII)) : Option ((Int × (List SIII)) ⊕ (Int × (List SIII))) :=
  bif (decide (x1.1 < ((List.length a0 : Int)))) then
    ((getI a0 x1.1)).bind fun (x2 : SIII) =>
    (laws_toStack x2.1 x2.2.1 x2.2.2).bind fun (x3 : SIII) =>
    bif (inb x1.2 x1.1) then
      some (.inl ((w64 (x1.1 + 1)), (upd x1.2 (Int.toNat x1.1) (x3.1, x3.2.1, x3.2.2))))
    else
      none
  else
    some (.inr (x1.1, x1.2))

def laws_toStackS (n : Nat) (a0 : List SIII) : Option ((List SIII)) :=
  bif (decide (0 ≤ ((List.length a0 : Int))) && decide (((List.length a0 : Int)) ≤ (maxRow : Int)) && decide (((List.length a0 : Int)) = ((List.length a0 : Int)))) then
    (iter n (laws_toStackS_L1 a0) (0, (List.replicate (Int.toNat ((List.length a0 : Int))) ((0, 0, 0) : SIII)))).bind fun (x4 : Int × (List SIII)) =>
    some x4.2
  else
    none

def laws_toPod (n : Nat) (a0_0 : Int) (a0_1 : Int) (a0_2 : List SIII) : Option (SIILIIIJ) :=
  (laws_toStackS n a0_2).bind fun (x1 : (List SIII)) =>
  some (a0_0, a0_1, x1)

def laws_toPodS_L1 (n : Nat) (a0 : List SIILIIIJ) (x1 : Int × (List SIILIIIJ)) : Option ((Int × (List SIILIIIJ)) ⊕ (Int × (List SIILIIIJ))) :=
  bif (decide (x1.1 < ((List.length a0 : Int)))) then
    ((getI a0 x1.1)).bind fun (x2 : SIILIIIJ) =>
    (laws_toPod n x2.1 x2.2.1 x2.2.2).bind fun (x3 : SIILIIIJ) =>
    bif (inb x1.2 x1.1) then
      some (.inl ((w64 (x1.1 + 1)), (upd x1.2 (Int.toNat x1.1) (x3.1, x3.2.1, x3.2.2))))
    else
      none
  else
    some (.inr (x1.1, x1.2))

def laws_toPodS (n : Nat) (a0 : List SIILIIIJ) : Option ((List SIILIIIJ)) :=
  bif (decide (0 ≤ ((List.length a0 : Int))) && decide (((List.length a0 : Int)) ≤ (maxRow : Int)) && decide (((List.length a0 : Int)) = ((List.length a0 : Int)))) then
    (iter n (laws_toPodS_L1 n a0) (0, (List.replicate (Int.toNat ((List.length a0 : Int))) ((0, 0, ([] : List SIII)) : SIILIIIJ)))).bind fun (x4 : Int × (List SIILIIIJ)) =>
    some x4.2
  else
    none

def laws_toStock (n : Nat) (a0 : List SIILIIIJ) : Option ((List SIILIIIJ)) :=
  (laws_toPodS n a0).bind fun (x1 : (List SIILIIIJ)) =>
  some x1

def spec_l1In (a0 : Int) (a1 : Int) (a2 : Int) : Option (Bool) :=
  (show Option (Bool) from
    bif (decide (a0 ≥ a1)) then
      some (decide (a0 ≤ a2))
    else
      some false).bind fun (x1 : Bool) =>
  some x1

def spec_FloorOk_L1 (a0_2 : List Int) (x4 : Int) : Option ((Int) ⊕ ((Int) ⊕ (Bool))) :=
  bif (decide (x4 < ((List.length a0_2 : Int)))) then
    ((getI a0_2 x4)).bind fun (x5 : Int) =>
    (spec_l1In x5 0 4).bind fun (x6 : Bool) =>
    bif (!x6) then
      some (.inr (.inr false))
    else
      some (.inl (w64 (x4 + 1)))
  else
    some (.inr (.inl x4))

def spec_FloorOk (n : Nat) (a0_0 : Int) (a0_1 : Int) (a0_2 : List Int) : Option (Bool) :=
  (show Option (Bool) from
    (spec_l1In a0_0 1 10).bind fun (x1 : Bool) =>
    bif (!x1) then
      some true
    else
      (spec_l1In a0_1 1 10).bind fun (x2 : Bool) =>
      bif (!x2) then
        some true
      else
        some (((List.length a0_2 : Int)) != (w64 (a0_0 * a0_1)))).bind fun (x3 : Bool) =>
  bif x3 then
    some false
  else
    (iter n (spec_FloorOk_L1 a0_2) 0).bind fun (x7 : (Int) ⊕ (Bool)) =>
    (match x7 with
    | .inl x8 => (
      some true)
    | .inr x9 => (
      some x9))

def spec_l5Stacks_L1 (a0 : List SIII) (x1 : Int) : Option ((Int) ⊕ ((Int) ⊕ (Bool))) :=
  bif (decide (x1 < ((List.length a0 : Int)))) then
    (show Option (Bool) from
      ((getI a0 x1)).bind fun (x2 : SIII) =>
      (spec_l1In x2.1 1 50).bind fun (x3 : Bool) =>
      bif (!x3) then
        some true
      else
        ((getI a0 x1)).bind fun (x4 : SIII) =>
        (spec_l1In x4.2.1 1 1000).bind fun (x5 : Bool) =>
        bif (!x5) then
          some true
        else
          ((getI a0 x1)).bind fun (x6 : SIII) =>
          ((getI a0 x1)).bind fun (x7 : SIII) =>
          (spec_l1In x6.2.2 0 x7.2.1).bind fun (x8 : Bool) =>
          bif (!x8) then
            some true
          else
            bif (decide (x1 > 0)) then
              ((getI a0 (w64 (x1 - 1)))).bind fun (x9 : SIII) =>
              ((getI a0 x1)).bind fun (x10 : SIII) =>
              some (decide (x9.1 ≥ x10.1))
            else
              some false).bind fun (x11 : Bool) =>
    bif x11 then
      some (.inr (.inr false))
    else
      some (.inl (w64 (x1 + 1)))
  else
    some (.inr (.inl x1))

def spec_l5Stacks (n : Nat) (a0 : List SIII) : Option (Bool) :=
  (iter n (spec_l5Stacks_L1 a0) 0).bind fun (x12 : (Int) ⊕ (Bool)) =>
  (match x12 with
  | .inl x13 => (
    some (decide (((List.length a0 : Int)) ≤ 8)))
  | .inr x14 => (
    some x14))

def spec_StockOk_L2 (a0 : List SIILIIIJ) (x1 : Int) (x2 : SIILIIIJ) (x8 : Int) : Option ((Int) ⊕ ((Int) ⊕ (Bool))) :=
  bif (decide (x8 < x1)) then
    ((getI a0 x8)).bind fun (x9 : SIILIIIJ) =>
    bif (x9.2.1 == x2.2.1) then
      some (.inr (.inr false))
    else
      some (.inl (w64 (x8 + 1)))
  else
    some (.inr (.inl x8))

def spec_StockOk_L1 (n : Nat) (a0 : List SIILIIIJ) (x1 : Int) : Option ((Int) ⊕ ((Int) ⊕ (Bool))) :=
  bif (decide (x1 < ((List.length a0 : Int)))) then
    ((getI a0 x1)).bind fun (x2 : SIILIIIJ) =>
    (show Option (Bool) from
      (spec_l1In x2.1 1 999).bind fun (x3 : Bool) =>
      bif (!x3) then
        some true
      else
        (spec_l1In x2.2.1 0 99).bind fun (x4 : Bool) =>
        bif (!x4) then
          some true
        else
          (spec_l5Stacks n x2.2.2).bind fun (x5 : Bool) =>
          bif (!x5) then
            some true
          else
            bif (decide (x1 > 0)) then
              ((getI a0 (w64 (x1 - 1)))).bind fun (x6 : SIILIIIJ) =>
              some (decide (x6.1 ≥ x2.1))
            else
              some false).bind fun (x7 : Bool) =>
    bif x7 then
      some (.inr (.inr false))
    else
      (iter n (spec_StockOk_L2 a0 x1 x2) 0).bind fun (x10 : (Int) ⊕ (Bool)) =>
      (match x10 with
      | .inl x11 => (
        some (.inl (w64 (x1 + 1))))
      | .inr x12 => (
        some (.inr (.inr x12))))
  else
    some (.inr (.inl x1))

def spec_StockOk (n : Nat) (a0 : List SIILIIIJ) : Option (Bool) :=
  bif (decide (((List.length a0 : Int)) > 12)) then
    some false
  else
    (iter n (spec_StockOk_L1 n a0) 0).bind fun (x13 : (Int) ⊕ (Bool)) =>
    (match x13 with
    | .inl x14 => (
      some true)
    | .inr x15 => (
      some x15))

def spec_l1Copy (a0_0 : Int) (a0_1 : Int) (a0_2 : List Int) : Option (SIILIJ) :=
  bif (decide (List.length ([] : List Int) + List.length a0_2 ≤ maxRow)) then
    some (a0_0, a0_1, (([] : List Int) ++ a0_2))
  else
    none

def spec_l5Copy_L1 (a0 : List SIILIIIJ) (x1 : Int × (List SIILIIIJ)) : Option ((Int × (List SIILIIIJ)) ⊕ (Int × (List SIILIIIJ))) :=
  bif (decide (x1.1 < ((List.length a0 : Int)))) then
    ((getI a0 x1.1)).bind fun (x2 : SIILIIIJ) =>
    bif (decide (List.length ([] : List SIII) + List.length x2.2.2 ≤ maxRow)) then
      bif (decide (List.length x1.2 + List.length [(x2.1, x2.2.1, (([] : List SIII) ++ x2.2.2))] ≤ maxRow)) then
        some (.inl ((w64 (x1.1 + 1)), (x1.2 ++ [(x2.1, x2.2.1, (([] : List SIII) ++ x2.2.2))])))
      else
        none
    else
      none
  else
    some (.inr (x1.1, x1.2))

def spec_l5Copy (n : Nat) (a0 : List SIILIIIJ) : Option ((List SIILIIIJ)) :=
  (iter n (spec_l5Copy_L1 a0) (0, ([] : List SIILIIIJ))).bind fun (x3 : Int × (List SIILIIIJ)) =>
  some x3.2

def spec_l5Stack_L1 (a0_2 : List SIII) (a1 : Int) (x1 : SIIII) : Option ((SIIII) ⊕ ((SIIII) ⊕ (SIII))) :=
  bif (decide (x1.1 < ((List.length a0_2 : Int)))) then
    ((getI a0_2 x1.1)).bind fun (x2 : SIII) =>
    bif (x2.1 == a1) then
      ((getI a0_2 x1.1)).bind fun (x3 : SIII) =>
      some (.inr (.inr (x3.1, x3.2.1, x3.2.2)))
    else
      some (.inl ((w64 (x1.1 + 1)), x1.2.1, x1.2.2.1, x1.2.2.2))
  else
    some (.inr (.inl (x1.1, x1.2.1, x1.2.2.1, x1.2.2.2)))

def spec_l5Stack (n : Nat) (a0_0 : Int) (a0_1 : Int) (a0_2 : List SIII) (a1 : Int) : Option (SIII) :=
  (iter n (spec_l5Stack_L1 a0_2 a1) (0, 0, 0, 0)).bind fun (x4 : (SIIII) ⊕ (SIII)) =>
  (match x4 with
  | .inl x5 => (
    some (a1, 0, 0))
  | .inr x6 => (
    some x6))

def spec_Count_L1 (n : Nat) (a0 : List SIILIIIJ) (a1 : Int) (x1 : SII) : Option ((SII) ⊕ (SII)) :=
  (show Option (Bool) from
    bif (decide (x1.2 < ((List.length a0 : Int)))) then
      (spec_StockOk n a0).bind fun (x2 : Bool) =>
      some x2
    else
      some false).bind fun (x3 : Bool) =>
  bif x3 then
    ((getI a0 x1.2)).bind fun (x4 : SIILIIIJ) =>
    (spec_l5Stack n x4.1 x4.2.1 x4.2.2 a1).bind fun (x5 : SIII) =>
    some (.inl ((w64 (x1.1 + x5.2.1)), (w64 (x1.2 + 1))))
  else
    some (.inr (x1.1, x1.2))

def spec_Count (n : Nat) (a0 : List SIILIIIJ) (a1 : Int) : Option (Int) :=
  (iter n (spec_Count_L1 n a0 a1) (0, 0)).bind fun (x6 : SII) =>
  some x6.1

def spec_CellsOf_L1 (n : Nat) (a0_0 : Int) (a0_1 : Int) (a0_2 : List Int) (a1 : Int) (x1 : (List Int) × Int) : Option (((List Int) × Int) ⊕ ((List Int) × Int)) :=
  (show Option (Bool) from
    bif (decide (x1.2 < ((List.length a0_2 : Int)))) then
      (spec_FloorOk n a0_0 a0_1 a0_2).bind fun (x2 : Bool) =>
      some x2
    else
      some false).bind fun (x3 : Bool) =>
  bif x3 then
    (show Option ((List Int)) from
      ((getI a0_2 x1.2)).bind fun (x5 : Int) =>
      bif (x5 == a1) then
        bif (decide (List.length x1.1 + List.length [x1.2] ≤ maxRow)) then
          some (x1.1 ++ [x1.2])
        else
          none
      else
        some x1.1).bind fun (x4 : (List Int)) =>
    some (.inl (x4, (w64 (x1.2 + 1))))
  else
    some (.inr (x1.1, x1.2))

def spec_CellsOf (n : Nat) (a0_0 : Int) (a0_1 : Int) (a0_2 : List Int) (a1 : Int) : Option ((List Int)) :=
  (iter n (spec_CellsOf_L1 n a0_0 a0_1 a0_2 a1) (([] : List Int), 0)).bind fun (x6 : (List Int) × Int) =>
  some x6.1

def spec_DepotNew_L2 (a1 : List SIILIIIJ) (x6 : Int × Int × Int × (List Int) × (List SIILIIIJ) × Int × (List SIILIIJLIIIJI) × (List SIIIBI) × (List SIIII) × (List Int) × (List Int) × Int) (x12 : Int × Int × Int × (List Int) × (List SIILIIIJ) × Int × (List SIILIIJLIIIJI) × (List SIIIBI) × (List SIIII) × (List Int) × (List Int) × Int) : Option ((Int × Int × Int × (List Int) × (List SIILIIIJ) × Int × (List SIILIIJLIIIJI) × (List SIIIBI) × (List SIIII) × (List Int) × (List Int) × Int) ⊕ ((Int × Int × Int × (List Int) × (List SIILIIIJ) × Int × (List SIILIIJLIIIJI) × (List SIIIBI) × (List SIIII) × (List Int) × (List Int) × Int) ⊕ (Int × Int × (List Int) × (List SIILIIIJ) × Int × (List SIILIIJLIIIJI) × (List SIIIBI) × (List SIIII) × (List Int) × (List Int) × Int × Bool))) :=
  ((getI a1 x6.1)).bind fun (x13 : SIILIIIJ) =>
  bif (decide (x12.1 < ((List.length x13.2.2 : Int)))) then
    ((getI a1 x6.1)).bind fun (x14 : SIILIIIJ) =>
    ((getI x14.2.2 x12.1)).bind fun (x15 : SIII) =>
    bif (decide (x15.2.2 > 0)) then
      some (.inr (.inr (0, 0, ([] : List Int), ([] : List SIILIIIJ), 0, ([] : List SIILIIJLIIIJI), ([] : List SIIIBI), ([] : List SIIII), ([] : List Int), ([] : List Int), 0, false)))
    else
      some (.inl ((w64 (x12.1 + 1)), x12.2.1, x12.2.2.1, x12.2.2.2.1, x12.2.2.2.2.1, x12.2.2.2.2.2.1, x12.2.2.2.2.2.2.1, x12.2.2.2.2.2.2.2.1, x12.2.2.2.2.2.2.2.2.1, x12.2.2.2.2.2.2.2.2.2.1, x12.2.2.2.2.2.2.2.2.2.2.1, x12.2.2.2.2.2.2.2.2.2.2.2))
  else
    some (.inr (.inl (x12.1, x12.2.1, x12.2.2.1, x12.2.2.2.1, x12.2.2.2.2.1, x12.2.2.2.2.2.1, x12.2.2.2.2.2.2.1, x12.2.2.2.2.2.2.2.1, x12.2.2.2.2.2.2.2.2.1, x12.2.2.2.2.2.2.2.2.2.1, x12.2.2.2.2.2.2.2.2.2.2.1, x12.2.2.2.2.2.2.2.2.2.2.2)))

def spec_DepotNew_L1 (n : Nat) (a0_2 : List Int) (a1 : List SIILIIIJ) (x6 : Int × Int × Int × (List Int) × (List SIILIIIJ) × Int × (List SIILIIJLIIIJI) × (List SIIIBI) × (List SIIII) × (List Int) × (List Int) × Int) : Option ((Int × Int × Int × (List Int) × (List SIILIIIJ) × Int × (List SIILIIJLIIIJI) × (List SIIIBI) × (List SIIII) × (List Int) × (List Int) × Int) ⊕ ((Int × Int × Int × (List Int) × (List SIILIIIJ) × Int × (List SIILIIJLIIIJI) × (List SIIIBI) × (List SIIII) × (List Int) × (List Int) × Int) ⊕ (Int × Int × (List Int) × (List SIILIIIJ) × Int × (List SIILIIJLIIIJI) × (List SIIIBI) × (List SIIII) × (List Int) × (List Int) × Int × Bool))) :=
  bif (decide (x6.1 < ((List.length a1 : Int)))) then
    (show Option (Bool) from
      ((getI a1 x6.1)).bind fun (x7 : SIILIIIJ) =>
      (spec_l1In x7.2.1 0 (w64 (((List.length a0_2 : Int)) - 1))).bind fun (x8 : Bool) =>
      bif (!x8) then
        some true
      else
        ((getI a1 x6.1)).bind fun (x9 : SIILIIIJ) =>
        ((getI a0_2 x9.2.1)).bind fun (x10 : Int) =>
        some (x10 != 2)).bind fun (x11 : Bool) =>
    bif x11 then
      some (.inr (.inr (0, 0, ([] : List Int), ([] : List SIILIIIJ), 0, ([] : List SIILIIJLIIIJI), ([] : List SIIIBI), ([] : List SIIII), ([] : List Int), ([] : List Int), 0, false)))
    else
      (iter n (spec_DepotNew_L2 a1 x6) (0, x6.2.1, x6.2.2.1, x6.2.2.2.1, x6.2.2.2.2.1, x6.2.2.2.2.2.1, x6.2.2.2.2.2.2.1, x6.2.2.2.2.2.2.2.1, x6.2.2.2.2.2.2.2.2.1, x6.2.2.2.2.2.2.2.2.2.1, x6.2.2.2.2.2.2.2.2.2.2.1, x6.2.2.2.2.2.2.2.2.2.2.2)).bind fun (x16 : (Int × Int × Int × (List Int) × (List SIILIIIJ) × Int × (List SIILIIJLIIIJI) × (List SIIIBI) × (List SIIII) × (List Int) × (List Int) × Int) ⊕ (Int × Int × (List Int) × (List SIILIIIJ) × Int × (List SIILIIJLIIIJI) × (List SIIIBI) × (List SIIII) × (List Int) × (List Int) × Int × Bool)) =>
      (match x16 with
      | .inl x17 => (
        some (.inl ((w64 (x6.1 + 1)), x17.2.1, x17.2.2.1, x17.2.2.2.1, x17.2.2.2.2.1, x17.2.2.2.2.2.1, x17.2.2.2.2.2.2.1, x17.2.2.2.2.2.2.2.1, x17.2.2.2.2.2.2.2.2.1, x17.2.2.2.2.2.2.2.2.2.1, x17.2.2.2.2.2.2.2.2.2.2.1, x17.2.2.2.2.2.2.2.2.2.2.2)))
      | .inr x18 => (
        some (.inr (.inr x18))))
  else
    some (.inr (.inl (x6.1, x6.2.1, x6.2.2.1, x6.2.2.2.1, x6.2.2.2.2.1, x6.2.2.2.2.2.1, x6.2.2.2.2.2.2.1, x6.2.2.2.2.2.2.2.1, x6.2.2.2.2.2.2.2.2.1, x6.2.2.2.2.2.2.2.2.2.1, x6.2.2.2.2.2.2.2.2.2.2.1, x6.2.2.2.2.2.2.2.2.2.2.2)))

def spec_DepotNew_L3 (n : Nat) (a1 : List SIILIIIJ) (x22 : Int × Int × Int × (List Int) × (List SIILIIIJ) × Int × (List SIILIIJLIIIJI) × (List SIIIBI) × (List SIIII) × (List Int) × (List Int) × Int) : Option ((Int × Int × Int × (List Int) × (List SIILIIIJ) × Int × (List SIILIIJLIIIJI) × (List SIIIBI) × (List SIIII) × (List Int) × (List Int) × Int) ⊕ (Int × Int × Int × (List Int) × (List SIILIIIJ) × Int × (List SIILIIJLIIIJI) × (List SIIIBI) × (List SIIII) × (List Int) × (List Int) × Int)) :=
  bif (decide (x22.1 ≤ 50)) then
    (spec_Count n a1 x22.1).bind fun (x23 : Int) =>
    bif (inb x22.2.2.2.2.2.2.2.2.2.1 x22.1) then
      some (.inl ((w64 (x22.1 + 1)), x22.2.1, x22.2.2.1, x22.2.2.2.1, x22.2.2.2.2.1, x22.2.2.2.2.2.1, x22.2.2.2.2.2.2.1, x22.2.2.2.2.2.2.2.1, x22.2.2.2.2.2.2.2.2.1, (upd x22.2.2.2.2.2.2.2.2.2.1 (Int.toNat x22.1) x23), x22.2.2.2.2.2.2.2.2.2.2.1, x22.2.2.2.2.2.2.2.2.2.2.2))
    else
      none
  else
    some (.inr (x22.1, x22.2.1, x22.2.2.1, x22.2.2.2.1, x22.2.2.2.2.1, x22.2.2.2.2.2.1, x22.2.2.2.2.2.2.1, x22.2.2.2.2.2.2.2.1, x22.2.2.2.2.2.2.2.2.1, x22.2.2.2.2.2.2.2.2.2.1, x22.2.2.2.2.2.2.2.2.2.2.1, x22.2.2.2.2.2.2.2.2.2.2.2))

def spec_DepotNew_L4 (x25 : (List Int)) (x26 : Int × Int × Int × (List Int) × (List SIILIIIJ) × Int × (List SIILIIJLIIIJI) × (List SIIIBI) × (List SIIII) × (List Int) × (List Int) × Int) : Option ((Int × Int × Int × (List Int) × (List SIILIIIJ) × Int × (List SIILIIJLIIIJI) × (List SIIIBI) × (List SIIII) × (List Int) × (List Int) × Int) ⊕ (Int × Int × Int × (List Int) × (List SIILIIIJ) × Int × (List SIILIIJLIIIJI) × (List SIIIBI) × (List SIIII) × (List Int) × (List Int) × Int)) :=
  (show Option (Bool) from
    bif (decide (x26.1 < ((List.length x25 : Int)))) then
      some (decide (x26.1 < 20))
    else
      some false).bind fun (x27 : Bool) =>
  bif x27 then
    bif (inb x25 x26.1) then
      ((x25[(Int.toNat x26.1)]?)).bind fun (x28 : Int) =>
      bif (decide (List.length x26.2.2.2.2.2.2.2.1 + List.length [((w64 (x26.1 + 1)), x28, (-1), false, 0)] ≤ maxRow)) then
        some (.inl ((w64 (x26.1 + 1)), x26.2.1, x26.2.2.1, x26.2.2.2.1, x26.2.2.2.2.1, x26.2.2.2.2.2.1, x26.2.2.2.2.2.2.1, (x26.2.2.2.2.2.2.2.1 ++ [((w64 (x26.1 + 1)), x28, (-1), false, 0)]), x26.2.2.2.2.2.2.2.2.1, x26.2.2.2.2.2.2.2.2.2.1, x26.2.2.2.2.2.2.2.2.2.2.1, x26.2.2.2.2.2.2.2.2.2.2.2))
      else
        none
    else
      none
  else
    some (.inr (x26.1, x26.2.1, x26.2.2.1, x26.2.2.2.1, x26.2.2.2.2.1, x26.2.2.2.2.2.1, x26.2.2.2.2.2.2.1, x26.2.2.2.2.2.2.2.1, x26.2.2.2.2.2.2.2.2.1, x26.2.2.2.2.2.2.2.2.2.1, x26.2.2.2.2.2.2.2.2.2.2.1, x26.2.2.2.2.2.2.2.2.2.2.2))

def spec_DepotNew (n : Nat) (a0_0 : Int) (a0_1 : Int) (a0_2 : List Int) (a1 : List SIILIIIJ) : Option (Int × Int × (List Int) × (List SIILIIIJ) × Int × (List SIILIIJLIIIJI) × (List SIIIBI) × (List SIIII) × (List Int) × (List Int) × Int × Bool) :=
  (show Option (Bool) from
    (spec_FloorOk n a0_0 a0_1 a0_2).bind fun (x1 : Bool) =>
    bif (!x1) then
      some true
    else
      (spec_StockOk n a1).bind fun (x2 : Bool) =>
      some (!x2)).bind fun (x3 : Bool) =>
  bif x3 then
    some (0, 0, ([] : List Int), ([] : List SIILIIIJ), 0, ([] : List SIILIIJLIIIJI), ([] : List SIIIBI), ([] : List SIIII), ([] : List Int), ([] : List Int), 0, false)
  else
    (spec_l1Copy a0_0 a0_1 a0_2).bind fun (x4 : SIILIJ) =>
    (spec_l5Copy n a1).bind fun (x5 : (List SIILIIIJ)) =>
    bif (decide (0 ≤ 51) && decide (51 ≤ (maxRow : Int)) && decide (51 = 51)) then
      bif (decide (0 ≤ 51) && decide (51 ≤ (maxRow : Int)) && decide (51 = 51)) then
        (iter n (spec_DepotNew_L1 n a0_2 a1) (0, 0, 0, ([] : List Int), ([] : List SIILIIIJ), 0, ([] : List SIILIIJLIIIJI), ([] : List SIIIBI), ([] : List SIIII), ([] : List Int), ([] : List Int), 0)).bind fun (x19 : (Int × Int × Int × (List Int) × (List SIILIIIJ) × Int × (List SIILIIJLIIIJI) × (List SIIIBI) × (List SIIII) × (List Int) × (List Int) × Int) ⊕ (Int × Int × (List Int) × (List SIILIIIJ) × Int × (List SIILIIJLIIIJI) × (List SIIIBI) × (List SIIII) × (List Int) × (List Int) × Int × Bool)) =>
        (match x19 with
        | .inl x20 => (
          (iter n (spec_DepotNew_L3 n a1) (1, x4.1, x4.2.1, x4.2.2, x5, 1, ([] : List SIILIIJLIIIJI), ([] : List SIIIBI), ([] : List SIIII), (List.replicate (Int.toNat 51) (0 : Int)), (List.replicate (Int.toNat 51) (0 : Int)), 0)).bind fun (x24 : Int × Int × Int × (List Int) × (List SIILIIIJ) × Int × (List SIILIIJLIIIJI) × (List SIIIBI) × (List SIIII) × (List Int) × (List Int) × Int) =>
          (spec_CellsOf n a0_0 a0_1 a0_2 4).bind fun (x25 : (List Int)) =>
          (iter n (spec_DepotNew_L4 x25) (0, x24.2.1, x24.2.2.1, x24.2.2.2.1, x24.2.2.2.2.1, x24.2.2.2.2.2.1, x24.2.2.2.2.2.2.1, x24.2.2.2.2.2.2.2.1, x24.2.2.2.2.2.2.2.2.1, x24.2.2.2.2.2.2.2.2.2.1, x24.2.2.2.2.2.2.2.2.2.2.1, x24.2.2.2.2.2.2.2.2.2.2.2)).bind fun (x29 : Int × Int × Int × (List Int) × (List SIILIIIJ) × Int × (List SIILIIJLIIIJI) × (List SIIIBI) × (List SIIII) × (List Int) × (List Int) × Int) =>
          some (x29.2.1, x29.2.2.1, x29.2.2.2.1, x29.2.2.2.2.1, x29.2.2.2.2.2.1, x29.2.2.2.2.2.2.1, x29.2.2.2.2.2.2.2.1, x29.2.2.2.2.2.2.2.2.1, x29.2.2.2.2.2.2.2.2.2.1, x29.2.2.2.2.2.2.2.2.2.2.1, x29.2.2.2.2.2.2.2.2.2.2.2, true))
        | .inr x21 => (
          some x21))
      else
        none
    else
      none

def impl_in (a0 : Int) (a1 : Int) (a2 : Int) : Option (Bool) :=
  (show Option (Bool) from
    bif (decide (a0 ≥ a1)) then
      some (decide (a0 ≤ a2))
    else
      some false).bind fun (x1 : Bool) =>
  some x1

def impl_FloorOk_L1 (a0_2 : List Int) (x4 : Int) : Option ((Int) ⊕ ((Int) ⊕ (Bool))) :=
  bif (decide (x4 < ((List.length a0_2 : Int)))) then
    ((getI a0_2 x4)).bind fun (x5 : Int) =>
    (impl_in x5 0 4).bind fun (x6 : Bool) =>
    bif (!x6) then
      some (.inr (.inr false))
    else
      some (.inl (w64 (x4 + 1)))
  else
    some (.inr (.inl x4))

def impl_FloorOk (n : Nat) (a0_0 : Int) (a0_1 : Int) (a0_2 : List Int) : Option (Bool) :=
  (show Option (Bool) from
    (impl_in a0_0 1 10).bind fun (x1 : Bool) =>
    bif (!x1) then
      some true
    else
      (impl_in a0_1 1 10).bind fun (x2 : Bool) =>
      bif (!x2) then
        some true
      else
        some (((List.length a0_2 : Int)) != (w64 (a0_0 * a0_1)))).bind fun (x3 : Bool) =>
  bif x3 then
    some false
  else
    (iter n (impl_FloorOk_L1 a0_2) 0).bind fun (x7 : (Int) ⊕ (Bool)) =>
    (match x7 with
    | .inl x8 => (
      some true)
    | .inr x9 => (
      some x9))

def impl_podOk_L1 (a0_2 : List SIII) (x4 : Int) : Option ((Int) ⊕ ((Int) ⊕ (Bool))) :=
  bif (decide (x4 < ((List.length a0_2 : Int)))) then
    ((getI a0_2 x4)).bind fun (x5 : SIII) =>
    (show Option (Bool) from
      (impl_in x5.1 1 50).bind fun (x6 : Bool) =>
      bif (!x6) then
        some true
      else
        (impl_in x5.2.1 1 1000).bind fun (x7 : Bool) =>
        bif (!x7) then
          some true
        else
          (impl_in x5.2.2 0 x5.2.1).bind fun (x8 : Bool) =>
          bif (!x8) then
            some true
          else
            bif (decide (x4 > 0)) then
              ((getI a0_2 (w64 (x4 - 1)))).bind fun (x9 : SIII) =>
              some (decide (x9.1 ≥ x5.1))
            else
              some false).bind fun (x10 : Bool) =>
    bif x10 then
      some (.inr (.inr false))
    else
      some (.inl (w64 (x4 + 1)))
  else
    some (.inr (.inl x4))

def impl_podOk (n : Nat) (a0_0 : Int) (a0_1 : Int) (a0_2 : List SIII) : Option (Bool) :=
  (show Option (Bool) from
    (impl_in a0_0 1 999).bind fun (x1 : Bool) =>
    bif (!x1) then
      some true
    else
      (impl_in a0_1 0 99).bind fun (x2 : Bool) =>
      bif (!x2) then
        some true
      else
        some (decide (((List.length a0_2 : Int)) > 8))).bind fun (x3 : Bool) =>
  bif x3 then
    some false
  else
    (iter n (impl_podOk_L1 a0_2) 0).bind fun (x11 : (Int) ⊕ (Bool)) =>
    (match x11 with
    | .inl x12 => (
      some true)
    | .inr x13 => (
      some x13))

def impl_StockOk_L2 (a0 : List SIILIIIJ) (x1 : Int) (x2 : SIILIIIJ) (x6 : Int) : Option ((Int) ⊕ ((Int) ⊕ (Bool))) :=
  bif (decide (x6 < ((List.length (sub a0 (Int.toNat (0 : Int)) (Int.toNat x1)) : Int)))) then
    ((getI (sub a0 (Int.toNat (0 : Int)) (Int.toNat x1)) x6)).bind fun (x7 : SIILIIIJ) =>
    bif (x7.2.1 == x2.2.1) then
      some (.inr (.inr false))
    else
      some (.inl (w64 (x6 + 1)))
  else
    some (.inr (.inl x6))

def impl_StockOk_L1 (n : Nat) (a0 : List SIILIIIJ) (x1 : Int) : Option ((Int) ⊕ ((Int) ⊕ (Bool))) :=
  bif (decide (x1 < ((List.length a0 : Int)))) then
    ((getI a0 x1)).bind fun (x2 : SIILIIIJ) =>
    (show Option (Bool) from
      (impl_podOk n x2.1 x2.2.1 x2.2.2).bind fun (x3 : Bool) =>
      bif (!x3) then
        some true
      else
        bif (decide (x1 > 0)) then
          ((getI a0 (w64 (x1 - 1)))).bind fun (x4 : SIILIIIJ) =>
          some (decide (x4.1 ≥ x2.1))
        else
          some false).bind fun (x5 : Bool) =>
    bif x5 then
      some (.inr (.inr false))
    else
      bif (decide (0 ≤ (0 : Int)) && decide ((0 : Int) ≤ x1) && decide (x1 ≤ ((List.length a0 : Int)))) then
        (iter n (impl_StockOk_L2 a0 x1 x2) 0).bind fun (x8 : (Int) ⊕ (Bool)) =>
        (match x8 with
        | .inl x9 => (
          some (.inl (w64 (x1 + 1))))
        | .inr x10 => (
          some (.inr (.inr x10))))
      else
        none
  else
    some (.inr (.inl x1))

def impl_StockOk (n : Nat) (a0 : List SIILIIIJ) : Option (Bool) :=
  (iter n (impl_StockOk_L1 n a0) 0).bind fun (x11 : (Int) ⊕ (Bool)) =>
  (match x11 with
  | .inl x12 => (
    some (decide (((List.length a0 : Int)) ≤ 12)))
  | .inr x13 => (
    some x13))

def impl_anyHeld_L2 (x2 : SIILIIIJ) (x3 : Int) : Option ((Int) ⊕ ((Int) ⊕ (Bool))) :=
  bif (decide (x3 < ((List.length x2.2.2 : Int)))) then
    ((getI x2.2.2 x3)).bind fun (x4 : SIII) =>
    bif (decide (x4.2.2 > 0)) then
      some (.inr (.inr true))
    else
      some (.inl (w64 (x3 + 1)))
  else
    some (.inr (.inl x3))

def impl_anyHeld_L1 (n : Nat) (a0 : List SIILIIIJ) (x1 : Int) : Option ((Int) ⊕ ((Int) ⊕ (Bool))) :=
  bif (decide (x1 < ((List.length a0 : Int)))) then
    ((getI a0 x1)).bind fun (x2 : SIILIIIJ) =>
    (iter n (impl_anyHeld_L2 x2) 0).bind fun (x5 : (Int) ⊕ (Bool)) =>
    (match x5 with
    | .inl x6 => (
      some (.inl (w64 (x1 + 1))))
    | .inr x7 => (
      some (.inr (.inr x7))))
  else
    some (.inr (.inl x1))

def impl_anyHeld (n : Nat) (a0 : List SIILIIIJ) : Option (Bool) :=
  (iter n (impl_anyHeld_L1 n a0) 0).bind fun (x8 : (Int) ⊕ (Bool)) =>
  (match x8 with
  | .inl x9 => (
    some false)
  | .inr x10 => (
    some x10))

def impl_isCell (a0_0 : Int) (a0_1 : Int) (a0_2 : List Int) (a1 : Int) : Option (Bool) :=
  (impl_in a1 0 (w64 (((List.length a0_2 : Int)) - 1))).bind fun (x1 : Bool) =>
  some x1

def impl_KindAt (n : Nat) (a0_0 : Int) (a0_1 : Int) (a0_2 : List Int) (a1 : Int) : Option (Int) :=
  (show Option (Bool) from
    (impl_FloorOk n a0_0 a0_1 a0_2).bind fun (x1 : Bool) =>
    bif (!x1) then
      some true
    else
      (impl_isCell a0_0 a0_1 a0_2 a1).bind fun (x2 : Bool) =>
      some (!x2)).bind fun (x3 : Bool) =>
  bif x3 then
    some 0
  else
    ((getI a0_2 a1)).bind fun (x4 : Int) =>
    some x4

def impl_copyInts (a0 : List Int) : Option ((List Int)) :=
  bif (decide (List.length a0 ≤ maxRow)) then
    some a0
  else
    none

def impl_copyFloor (a0_0 : Int) (a0_1 : Int) (a0_2 : List Int) : Option (SIILIJ) :=
  (impl_copyInts a0_2).bind fun (x1 : (List Int)) =>
  some (a0_0, a0_1, x1)

def impl_copyStock_L1 (a0 : List SIILIIIJ) (x1 : Int × (List SIILIIIJ)) : Option ((Int × (List SIILIIIJ)) ⊕ (Int × (List SIILIIIJ))) :=
  bif (decide (x1.1 < ((List.length a0 : Int)))) then
    ((getI a0 x1.1)).bind fun (x2 : SIILIIIJ) =>
    bif (decide (List.length x2.2.2 ≤ maxRow)) then
      bif (decide (List.length x1.2 + List.length [(x2.1, x2.2.1, x2.2.2)] ≤ maxRow)) then
        some (.inl ((w64 (x1.1 + 1)), (x1.2 ++ [(x2.1, x2.2.1, x2.2.2)])))
      else
        none
    else
      none
  else
    some (.inr (x1.1, x1.2))

def impl_copyStock (n : Nat) (a0 : List SIILIIIJ) : Option ((List SIILIIIJ)) :=
  (iter n (impl_copyStock_L1 a0) (0, ([] : List SIILIIIJ))).bind fun (x3 : Int × (List SIILIIIJ)) =>
  some x3.2

def impl_CellsOf_L1 (a0_2 : List Int) (a1 : Int) (x2 : (List Int) × Int) : Option (((List Int) × Int) ⊕ ((List Int) × Int)) :=
  bif (decide (x2.2 < ((List.length a0_2 : Int)))) then
    (show Option ((List Int)) from
      ((getI a0_2 x2.2)).bind fun (x4 : Int) =>
      bif (x4 == a1) then
        bif (decide (List.length x2.1 + List.length [x2.2] ≤ maxRow)) then
          some (x2.1 ++ [x2.2])
        else
          none
      else
        some x2.1).bind fun (x3 : (List Int)) =>
    some (.inl (x3, (w64 (x2.2 + 1))))
  else
    some (.inr (x2.1, x2.2))

def impl_CellsOf (n : Nat) (a0_0 : Int) (a0_1 : Int) (a0_2 : List Int) (a1 : Int) : Option ((List Int)) :=
  (impl_FloorOk n a0_0 a0_1 a0_2).bind fun (x1 : Bool) =>
  bif (!x1) then
    some ([] : List Int)
  else
    (iter n (impl_CellsOf_L1 a0_2 a1) (([] : List Int), 0)).bind fun (x5 : (List Int) × Int) =>
    some x5.1

def impl_stackAt_L1 (a0_2 : List SIII) (a1 : Int) (x1 : Int) : Option ((Int) ⊕ (Int)) :=
  (show Option (Bool) from
    bif (decide (x1 < ((List.length a0_2 : Int)))) then
      ((getI a0_2 x1)).bind fun (x2 : SIII) =>
      some (decide (x2.1 < a1))
    else
      some false).bind fun (x3 : Bool) =>
  bif x3 then
    some (.inl (w64 (x1 + 1)))
  else
    some (.inr x1)

def impl_stackAt (n : Nat) (a0_0 : Int) (a0_1 : Int) (a0_2 : List SIII) (a1 : Int) : Option (Int × Bool) :=
  (iter n (impl_stackAt_L1 a0_2 a1) 0).bind fun (x4 : Int) =>
  (show Option (Int × Bool) from
    bif (decide (x4 < ((List.length a0_2 : Int)))) then
      ((getI a0_2 x4)).bind fun (x5 : SIII) =>
      some (x4, (x5.1 == a1))
    else
      some (x4, false)).bind fun (x6 : Int × Bool) =>
  some (x6.1, x6.2)

def impl_Count_L1 (n : Nat) (a0 : List SIILIIIJ) (a1 : Int) (x2 : SII) : Option ((SII) ⊕ (SII)) :=
  bif (decide (x2.2 < ((List.length a0 : Int)))) then
    (show Option (Int) from
      ((getI a0 x2.2)).bind fun (x4 : SIILIIIJ) =>
      (impl_stackAt n x4.1 x4.2.1 x4.2.2 a1).bind fun (x5 : Int × Bool) =>
      bif x5.2 then
        ((getI x4.2.2 x5.1)).bind fun (x6 : SIII) =>
        some (w64 (x2.1 + x6.2.1))
      else
        some x2.1).bind fun (x3 : Int) =>
    some (.inl (x3, (w64 (x2.2 + 1))))
  else
    some (.inr (x2.1, x2.2))

def impl_Count (n : Nat) (a0 : List SIILIIIJ) (a1 : Int) : Option (Int) :=
  (impl_StockOk n a0).bind fun (x1 : Bool) =>
  bif (!x1) then
    some 0
  else
    (iter n (impl_Count_L1 n a0 a1) (0, 0)).bind fun (x7 : SII) =>
    some x7.1

def impl_DepotNew_L1 (n : Nat) (a0_0 : Int) (a0_1 : Int) (a0_2 : List Int) (a1 : List SIILIIIJ) (x5 : Int × Int × Int × (List Int) × (List SIILIIIJ) × Int × (List SIILIIJLIIIJI) × (List SIIIBI) × (List SIIII) × (List Int) × (List Int) × Int) : Option ((Int × Int × Int × (List Int) × (List SIILIIIJ) × Int × (List SIILIIJLIIIJI) × (List SIIIBI) × (List SIIII) × (List Int) × (List Int) × Int) ⊕ ((Int × Int × Int × (List Int) × (List SIILIIIJ) × Int × (List SIILIIJLIIIJI) × (List SIIIBI) × (List SIIII) × (List Int) × (List Int) × Int) ⊕ (Int × Int × (List Int) × (List SIILIIIJ) × Int × (List SIILIIJLIIIJI) × (List SIIIBI) × (List SIIII) × (List Int) × (List Int) × Int × Bool))) :=
  bif (decide (x5.1 < ((List.length a1 : Int)))) then
    ((getI a1 x5.1)).bind fun (x6 : SIILIIIJ) =>
    (impl_KindAt n a0_0 a0_1 a0_2 x6.2.1).bind fun (x7 : Int) =>
    bif (x7 != 2) then
      some (.inr (.inr (0, 0, ([] : List Int), ([] : List SIILIIIJ), 0, ([] : List SIILIIJLIIIJI), ([] : List SIIIBI), ([] : List SIIII), ([] : List Int), ([] : List Int), 0, false)))
    else
      some (.inl ((w64 (x5.1 + 1)), x5.2.1, x5.2.2.1, x5.2.2.2.1, x5.2.2.2.2.1, x5.2.2.2.2.2.1, x5.2.2.2.2.2.2.1, x5.2.2.2.2.2.2.2.1, x5.2.2.2.2.2.2.2.2.1, x5.2.2.2.2.2.2.2.2.2.1, x5.2.2.2.2.2.2.2.2.2.2.1, x5.2.2.2.2.2.2.2.2.2.2.2))
  else
    some (.inr (.inl (x5.1, x5.2.1, x5.2.2.1, x5.2.2.2.1, x5.2.2.2.2.1, x5.2.2.2.2.2.1, x5.2.2.2.2.2.2.1, x5.2.2.2.2.2.2.2.1, x5.2.2.2.2.2.2.2.2.1, x5.2.2.2.2.2.2.2.2.2.1, x5.2.2.2.2.2.2.2.2.2.2.1, x5.2.2.2.2.2.2.2.2.2.2.2)))

def impl_DepotNew_L2 (x13 : (List Int)) (x14 : Int × Int × Int × (List Int) × (List SIILIIIJ) × Int × (List SIILIIJLIIIJI) × (List SIIIBI) × (List SIIII) × (List Int) × (List Int) × Int) : Option ((Int × Int × Int × (List Int) × (List SIILIIIJ) × Int × (List SIILIIJLIIIJI) × (List SIIIBI) × (List SIIII) × (List Int) × (List Int) × Int) ⊕ (Int × Int × Int × (List Int) × (List SIILIIIJ) × Int × (List SIILIIJLIIIJI) × (List SIIIBI) × (List SIIII) × (List Int) × (List Int) × Int)) :=
  bif (decide (x14.1 < ((List.length x13 : Int)))) then
    (show Option (SIILIJLIILIIIJJILIILIIJLIIIJIJLIIIBIJLIIIIJLIJLIJI) from
      bif (inb x13 x14.1) then
        ((x13[(Int.toNat x14.1)]?)).bind fun (x16 : Int) =>
        bif (decide (x14.1 < 20)) then
          bif (decide (List.length x14.2.2.2.2.2.2.2.1 + List.length [((w64 (x14.1 + 1)), x16, (-1), false, 0)] ≤ maxRow)) then
            some (x14.2.1, x14.2.2.1, x14.2.2.2.1, x14.2.2.2.2.1, x14.2.2.2.2.2.1, x14.2.2.2.2.2.2.1, (x14.2.2.2.2.2.2.2.1 ++ [((w64 (x14.1 + 1)), x16, (-1), false, 0)]), x14.2.2.2.2.2.2.2.2.1, x14.2.2.2.2.2.2.2.2.2.1, x14.2.2.2.2.2.2.2.2.2.2.1, x14.2.2.2.2.2.2.2.2.2.2.2)
          else
            none
        else
          some (x14.2.1, x14.2.2.1, x14.2.2.2.1, x14.2.2.2.2.1, x14.2.2.2.2.2.1, x14.2.2.2.2.2.2.1, x14.2.2.2.2.2.2.2.1, x14.2.2.2.2.2.2.2.2.1, x14.2.2.2.2.2.2.2.2.2.1, x14.2.2.2.2.2.2.2.2.2.2.1, x14.2.2.2.2.2.2.2.2.2.2.2)
      else
        none).bind fun (x15 : SIILIJLIILIIIJJILIILIIJLIIIJIJLIIIBIJLIIIIJLIJLIJI) =>
    some (.inl ((w64 (x14.1 + 1)), x15.1, x15.2.1, x15.2.2.1, x15.2.2.2.1, x15.2.2.2.2.1, x15.2.2.2.2.2.1, x15.2.2.2.2.2.2.1, x15.2.2.2.2.2.2.2.1, x15.2.2.2.2.2.2.2.2.1, x15.2.2.2.2.2.2.2.2.2.1, x15.2.2.2.2.2.2.2.2.2.2))
  else
    some (.inr (x14.1, x14.2.1, x14.2.2.1, x14.2.2.2.1, x14.2.2.2.2.1, x14.2.2.2.2.2.1, x14.2.2.2.2.2.2.1, x14.2.2.2.2.2.2.2.1, x14.2.2.2.2.2.2.2.2.1, x14.2.2.2.2.2.2.2.2.2.1, x14.2.2.2.2.2.2.2.2.2.2.1, x14.2.2.2.2.2.2.2.2.2.2.2))

def impl_DepotNew_L3 (n : Nat) (a1 : List SIILIIIJ) (x18 : Int × Int × Int × (List Int) × (List SIILIIIJ) × Int × (List SIILIIJLIIIJI) × (List SIIIBI) × (List SIIII) × (List Int) × (List Int) × Int) : Option ((Int × Int × Int × (List Int) × (List SIILIIIJ) × Int × (List SIILIIJLIIIJI) × (List SIIIBI) × (List SIIII) × (List Int) × (List Int) × Int) ⊕ (Int × Int × Int × (List Int) × (List SIILIIIJ) × Int × (List SIILIIJLIIIJI) × (List SIIIBI) × (List SIIII) × (List Int) × (List Int) × Int)) :=
  bif (decide (x18.1 ≤ 50)) then
    (impl_Count n a1 x18.1).bind fun (x19 : Int) =>
    bif (inb x18.2.2.2.2.2.2.2.2.2.1 x18.1) then
      some (.inl ((w64 (x18.1 + 1)), x18.2.1, x18.2.2.1, x18.2.2.2.1, x18.2.2.2.2.1, x18.2.2.2.2.2.1, x18.2.2.2.2.2.2.1, x18.2.2.2.2.2.2.2.1, x18.2.2.2.2.2.2.2.2.1, (upd x18.2.2.2.2.2.2.2.2.2.1 (Int.toNat x18.1) x19), x18.2.2.2.2.2.2.2.2.2.2.1, x18.2.2.2.2.2.2.2.2.2.2.2))
    else
      none
  else
    some (.inr (x18.1, x18.2.1, x18.2.2.1, x18.2.2.2.1, x18.2.2.2.2.1, x18.2.2.2.2.2.1, x18.2.2.2.2.2.2.1, x18.2.2.2.2.2.2.2.1, x18.2.2.2.2.2.2.2.2.1, x18.2.2.2.2.2.2.2.2.2.1, x18.2.2.2.2.2.2.2.2.2.2.1, x18.2.2.2.2.2.2.2.2.2.2.2))

def impl_DepotNew (n : Nat) (a0_0 : Int) (a0_1 : Int) (a0_2 : List Int) (a1 : List SIILIIIJ) : Option (Int × Int × (List Int) × (List SIILIIIJ) × Int × (List SIILIIJLIIIJI) × (List SIIIBI) × (List SIIII) × (List Int) × (List Int) × Int × Bool) :=
  (show Option (Bool) from
    (impl_FloorOk n a0_0 a0_1 a0_2).bind fun (x1 : Bool) =>
    bif (!x1) then
      some true
    else
      (impl_StockOk n a1).bind fun (x2 : Bool) =>
      bif (!x2) then
        some true
      else
        (impl_anyHeld n a1).bind fun (x3 : Bool) =>
        some x3).bind fun (x4 : Bool) =>
  bif x4 then
    some (0, 0, ([] : List Int), ([] : List SIILIIIJ), 0, ([] : List SIILIIJLIIIJI), ([] : List SIIIBI), ([] : List SIIII), ([] : List Int), ([] : List Int), 0, false)
  else
    (iter n (impl_DepotNew_L1 n a0_0 a0_1 a0_2 a1) (0, 0, 0, ([] : List Int), ([] : List SIILIIIJ), 0, ([] : List SIILIIJLIIIJI), ([] : List SIIIBI), ([] : List SIIII), ([] : List Int), ([] : List Int), 0)).bind fun (x8 : (Int × Int × Int × (List Int) × (List SIILIIIJ) × Int × (List SIILIIJLIIIJI) × (List SIIIBI) × (List SIIII) × (List Int) × (List Int) × Int) ⊕ (Int × Int × (List Int) × (List SIILIIIJ) × Int × (List SIILIIJLIIIJI) × (List SIIIBI) × (List SIIII) × (List Int) × (List Int) × Int × Bool)) =>
    (match x8 with
    | .inl x9 => (
      (impl_copyFloor a0_0 a0_1 a0_2).bind fun (x11 : SIILIJ) =>
      (impl_copyStock n a1).bind fun (x12 : (List SIILIIIJ)) =>
      bif (decide (0 ≤ 51) && decide (51 ≤ (maxRow : Int)) && decide (51 = 51)) then
        bif (decide (0 ≤ 51) && decide (51 ≤ (maxRow : Int)) && decide (51 = 51)) then
          (impl_CellsOf n a0_0 a0_1 a0_2 4).bind fun (x13 : (List Int)) =>
          (iter n (impl_DepotNew_L2 x13) (0, x11.1, x11.2.1, x11.2.2, x12, 1, ([] : List SIILIIJLIIIJI), ([] : List SIIIBI), ([] : List SIIII), (List.replicate (Int.toNat 51) (0 : Int)), (List.replicate (Int.toNat 51) (0 : Int)), 0)).bind fun (x17 : Int × Int × Int × (List Int) × (List SIILIIIJ) × Int × (List SIILIIJLIIIJI) × (List SIIIBI) × (List SIIII) × (List Int) × (List Int) × Int) =>
          (iter n (impl_DepotNew_L3 n a1) (1, x17.2.1, x17.2.2.1, x17.2.2.2.1, x17.2.2.2.2.1, x17.2.2.2.2.2.1, x17.2.2.2.2.2.2.1, x17.2.2.2.2.2.2.2.1, x17.2.2.2.2.2.2.2.2.1, x17.2.2.2.2.2.2.2.2.2.1, x17.2.2.2.2.2.2.2.2.2.2.1, x17.2.2.2.2.2.2.2.2.2.2.2)).bind fun (x20 : Int × Int × Int × (List Int) × (List SIILIIIJ) × Int × (List SIILIIJLIIIJI) × (List SIIIBI) × (List SIIII) × (List Int) × (List Int) × Int) =>
          some (x20.2.1, x20.2.2.1, x20.2.2.2.1, x20.2.2.2.2.1, x20.2.2.2.2.2.1, x20.2.2.2.2.2.2.1, x20.2.2.2.2.2.2.2.1, x20.2.2.2.2.2.2.2.2.1, x20.2.2.2.2.2.2.2.2.2.1, x20.2.2.2.2.2.2.2.2.2.2.1, x20.2.2.2.2.2.2.2.2.2.2.2, true)
        else
          none
      else
        none)
    | .inr x10 => (
      some x10))

def laws_eqIntS_L1 (a0 : List Int) (a1 : List Int) (x1 : Int) : Option ((Int) ⊕ ((Int) ⊕ (Bool))) :=
  bif (decide (x1 < ((List.length a0 : Int)))) then
    ((getI a0 x1)).bind fun (x2 : Int) =>
    ((getI a1 x1)).bind fun (x3 : Int) =>
    bif (x2 != x3) then
      some (.inr (.inr false))
    else
      some (.inl (w64 (x1 + 1)))
  else
    some (.inr (.inl x1))

def laws_eqIntS (n : Nat) (a0 : List Int) (a1 : List Int) : Option (Bool) :=
  bif (((List.length a0 : Int)) != ((List.length a1 : Int))) then
    some false
  else
    (iter n (laws_eqIntS_L1 a0 a1) 0).bind fun (x4 : (Int) ⊕ (Bool)) =>
    (match x4 with
    | .inl x5 => (
      some true)
    | .inr x6 => (
      some x6))

def laws_eqFloor (n : Nat) (a0_0 : Int) (a0_1 : Int) (a0_2 : List Int) (a1_0 : Int) (a1_1 : Int) (a1_2 : List Int) : Option (Bool) :=
  bif (a0_0 != a1_0) then
    some false
  else
    bif (a0_1 != a1_1) then
      some false
    else
      (laws_eqIntS n a0_2 a1_2).bind fun (x1 : Bool) =>
      bif (!x1) then
        some false
      else
        some true

def laws_eqStack (a0_0 : Int) (a0_1 : Int) (a0_2 : Int) (a1_0 : Int) (a1_1 : Int) (a1_2 : Int) : Option (Bool) :=
  bif (a0_0 != a1_0) then
    some false
  else
    bif (a0_1 != a1_1) then
      some false
    else
      bif (a0_2 != a1_2) then
        some false
      else
        some true

def laws_eqStackS_L1 (a0 : List SIII) (a1 : List SIII) (x1 : Int) : Option ((Int) ⊕ ((Int) ⊕ (Bool))) :=
  bif (decide (x1 < ((List.length a0 : Int)))) then
    ((getI a0 x1)).bind fun (x2 : SIII) =>
    ((getI a1 x1)).bind fun (x3 : SIII) =>
    (laws_eqStack x2.1 x2.2.1 x2.2.2 x3.1 x3.2.1 x3.2.2).bind fun (x4 : Bool) =>
    bif (!x4) then
      some (.inr (.inr false))
    else
      some (.inl (w64 (x1 + 1)))
  else
    some (.inr (.inl x1))

def laws_eqStackS (n : Nat) (a0 : List SIII) (a1 : List SIII) : Option (Bool) :=
  bif (((List.length a0 : Int)) != ((List.length a1 : Int))) then
    some false
  else
    (iter n (laws_eqStackS_L1 a0 a1) 0).bind fun (x5 : (Int) ⊕ (Bool)) =>
    (match x5 with
    | .inl x6 => (
      some true)
    | .inr x7 => (
      some x7))

def laws_eqPod (n : Nat) (a0_0 : Int) (a0_1 : Int) (a0_2 : List SIII) (a1_0 : Int) (a1_1 : Int) (a1_2 : List SIII) : Option (Bool) :=
  bif (a0_0 != a1_0) then
    some false
  else
    bif (a0_1 != a1_1) then
      some false
    else
      (laws_eqStackS n a0_2 a1_2).bind fun (x1 : Bool) =>
      bif (!x1) then
        some false
      else
        some true

def laws_eqPodS_L1 (n : Nat) (a0 : List SIILIIIJ) (a1 : List SIILIIIJ) (x1 : Int) : Option ((Int) ⊕ ((Int) ⊕ (Bool))) :=
  bif (decide (x1 < ((List.length a0 : Int)))) then
    ((getI a0 x1)).bind fun (x2 : SIILIIIJ) =>
    ((getI a1 x1)).bind fun (x3 : SIILIIIJ) =>
    (laws_eqPod n x2.1 x2.2.1 x2.2.2 x3.1 x3.2.1 x3.2.2).bind fun (x4 : Bool) =>
    bif (!x4) then
      some (.inr (.inr false))
    else
      some (.inl (w64 (x1 + 1)))
  else
    some (.inr (.inl x1))

def laws_eqPodS (n : Nat) (a0 : List SIILIIIJ) (a1 : List SIILIIIJ) : Option (Bool) :=
  bif (((List.length a0 : Int)) != ((List.length a1 : Int))) then
    some false
  else
    (iter n (laws_eqPodS_L1 n a0 a1) 0).bind fun (x5 : (Int) ⊕ (Bool)) =>
    (match x5 with
    | .inl x6 => (
      some true)
    | .inr x7 => (
      some x7))

def laws_eqStock (n : Nat) (a0 : List SIILIIIJ) (a1 : List SIILIIIJ) : Option (Bool) :=
  (laws_eqPodS n a0 a1).bind fun (x1 : Bool) =>
  bif (!x1) then
    some false
  else
    some true

def laws_eqItem (a0_0 : Int) (a0_1 : Int) (a1_0 : Int) (a1_1 : Int) : Option (Bool) :=
  bif (a0_0 != a1_0) then
    some false
  else
    bif (a0_1 != a1_1) then
      some false
    else
      some true

def laws_eqItemS_L1 (a0 : List SII) (a1 : List SII) (x1 : Int) : Option ((Int) ⊕ ((Int) ⊕ (Bool))) :=
  bif (decide (x1 < ((List.length a0 : Int)))) then
    ((getI a0 x1)).bind fun (x2 : SII) =>
    ((getI a1 x1)).bind fun (x3 : SII) =>
    (laws_eqItem x2.1 x2.2 x3.1 x3.2).bind fun (x4 : Bool) =>
    bif (!x4) then
      some (.inr (.inr false))
    else
      some (.inl (w64 (x1 + 1)))
  else
    some (.inr (.inl x1))

def laws_eqItemS (n : Nat) (a0 : List SII) (a1 : List SII) : Option (Bool) :=
  bif (((List.length a0 : Int)) != ((List.length a1 : Int))) then
    some false
  else
    (iter n (laws_eqItemS_L1 a0 a1) 0).bind fun (x5 : (Int) ⊕ (Bool)) =>
    (match x5 with
    | .inl x6 => (
      some true)
    | .inr x7 => (
      some x7))

def laws_eqPick (a0_0 : Int) (a0_1 : Int) (a0_2 : Int) (a1_0 : Int) (a1_1 : Int) (a1_2 : Int) : Option (Bool) :=
  bif (a0_0 != a1_0) then
    some false
  else
    bif (a0_1 != a1_1) then
      some false
    else
      bif (a0_2 != a1_2) then
        some false
      else
        some true

def laws_eqPickS_L1 (a0 : List SIII) (a1 : List SIII) (x1 : Int) : Option ((Int) ⊕ ((Int) ⊕ (Bool))) :=
  bif (decide (x1 < ((List.length a0 : Int)))) then
    ((getI a0 x1)).bind fun (x2 : SIII) =>
    ((getI a1 x1)).bind fun (x3 : SIII) =>
    (laws_eqPick x2.1 x2.2.1 x2.2.2 x3.1 x3.2.1 x3.2.2).bind fun (x4 : Bool) =>
    bif (!x4) then
      some (.inr (.inr false))
    else
      some (.inl (w64 (x1 + 1)))
  else
    some (.inr (.inl x1))

def laws_eqPickS (n : Nat) (a0 : List SIII) (a1 : List SIII) : Option (Bool) :=
  bif (((List.length a0 : Int)) != ((List.length a1 : Int))) then
    some false
  else
    (iter n (laws_eqPickS_L1 a0 a1) 0).bind fun (x5 : (Int) ⊕ (Bool)) =>
    (match x5 with
    | .inl x6 => (
      some true)
    | .inr x7 => (
      some x7))

def laws_eqOrder (n : Nat) (a0_0 : Int) (a0_1 : Int) (a0_2 : List SII) (a0_3 : List SIII) (a0_4 : Int) (a1_0 : Int) (a1_1 : Int) (a1_2 : List SII) (a1_3 : List SIII) (a1_4 : Int) : Option (Bool) :=
  bif (a0_0 != a1_0) then
    some false
  else
    bif (a0_1 != a1_1) then
      some false
    else
      (laws_eqItemS n a0_2 a1_2).bind fun (x1 : Bool) =>
      bif (!x1) then
        some false
      else
        (laws_eqPickS n a0_3 a1_3).bind fun (x2 : Bool) =>
        bif (!x2) then
          some false
        else
          bif (a0_4 != a1_4) then
            some false
          else
            some true

def laws_eqOrderS_L1 (n : Nat) (a0 : List SIILIIJLIIIJI) (a1 : List SIILIIJLIIIJI) (x1 : Int) : Option ((Int) ⊕ ((Int) ⊕ (Bool))) :=
  bif (decide (x1 < ((List.length a0 : Int)))) then
    ((getI a0 x1)).bind fun (x2 : SIILIIJLIIIJI) =>
    ((getI a1 x1)).bind fun (x3 : SIILIIJLIIIJI) =>
    (laws_eqOrder n x2.1 x2.2.1 x2.2.2.1 x2.2.2.2.1 x2.2.2.2.2 x3.1 x3.2.1 x3.2.2.1 x3.2.2.2.1 x3.2.2.2.2).bind fun (x4 : Bool) =>
    bif (!x4) then
      some (.inr (.inr false))
    else
      some (.inl (w64 (x1 + 1)))
  else
    some (.inr (.inl x1))

def laws_eqOrderS (n : Nat) (a0 : List SIILIIJLIIIJI) (a1 : List SIILIIJLIIIJI) : Option (Bool) :=
  bif (((List.length a0 : Int)) != ((List.length a1 : Int))) then
    some false
  else
    (iter n (laws_eqOrderS_L1 n a0 a1) 0).bind fun (x5 : (Int) ⊕ (Bool)) =>
    (match x5 with
    | .inl x6 => (
      some true)
    | .inr x7 => (
      some x7))

def laws_eqBook (n : Nat) (a0_0 : Int) (a0_1 : List SIILIIJLIIIJI) (a1_0 : Int) (a1_1 : List SIILIIJLIIIJI) : Option (Bool) :=
  bif (a0_0 != a1_0) then
    some false
  else
    (laws_eqOrderS n a0_1 a1_1).bind fun (x1 : Bool) =>
    bif (!x1) then
      some false
    else
      some true

def laws_eqRobot (a0_0 : Int) (a0_1 : Int) (a0_2 : Int) (a0_3 : Bool) (a0_4 : Int) (a1_0 : Int) (a1_1 : Int) (a1_2 : Int) (a1_3 : Bool) (a1_4 : Int) : Option (Bool) :=
  bif (a0_0 != a1_0) then
    some false
  else
    bif (a0_1 != a1_1) then
      some false
    else
      bif (a0_2 != a1_2) then
        some false
      else
        bif (a0_3 != a1_3) then
          some false
        else
          bif (a0_4 != a1_4) then
            some false
          else
            some true

def laws_eqRobotS_L1 (a0 : List SIIIBI) (a1 : List SIIIBI) (x1 : Int) : Option ((Int) ⊕ ((Int) ⊕ (Bool))) :=
  bif (decide (x1 < ((List.length a0 : Int)))) then
    ((getI a0 x1)).bind fun (x2 : SIIIBI) =>
    ((getI a1 x1)).bind fun (x3 : SIIIBI) =>
    (laws_eqRobot x2.1 x2.2.1 x2.2.2.1 x2.2.2.2.1 x2.2.2.2.2 x3.1 x3.2.1 x3.2.2.1 x3.2.2.2.1 x3.2.2.2.2).bind fun (x4 : Bool) =>
    bif (!x4) then
      some (.inr (.inr false))
    else
      some (.inl (w64 (x1 + 1)))
  else
    some (.inr (.inl x1))

def laws_eqRobotS (n : Nat) (a0 : List SIIIBI) (a1 : List SIIIBI) : Option (Bool) :=
  bif (((List.length a0 : Int)) != ((List.length a1 : Int))) then
    some false
  else
    (iter n (laws_eqRobotS_L1 a0 a1) 0).bind fun (x5 : (Int) ⊕ (Bool)) =>
    (match x5 with
    | .inl x6 => (
      some true)
    | .inr x7 => (
      some x7))

def laws_eqTask (a0_0 : Int) (a0_1 : Int) (a0_2 : Int) (a0_3 : Int) (a1_0 : Int) (a1_1 : Int) (a1_2 : Int) (a1_3 : Int) : Option (Bool) :=
  bif (a0_0 != a1_0) then
    some false
  else
    bif (a0_1 != a1_1) then
      some false
    else
      bif (a0_2 != a1_2) then
        some false
      else
        bif (a0_3 != a1_3) then
          some false
        else
          some true

def laws_eqTaskS_L1 (a0 : List SIIII) (a1 : List SIIII) (x1 : Int) : Option ((Int) ⊕ ((Int) ⊕ (Bool))) :=
  bif (decide (x1 < ((List.length a0 : Int)))) then
    ((getI a0 x1)).bind fun (x2 : SIIII) =>
    ((getI a1 x1)).bind fun (x3 : SIIII) =>
    (laws_eqTask x2.1 x2.2.1 x2.2.2.1 x2.2.2.2 x3.1 x3.2.1 x3.2.2.1 x3.2.2.2).bind fun (x4 : Bool) =>
    bif (!x4) then
      some (.inr (.inr false))
    else
      some (.inl (w64 (x1 + 1)))
  else
    some (.inr (.inl x1))

def laws_eqTaskS (n : Nat) (a0 : List SIIII) (a1 : List SIIII) : Option (Bool) :=
  bif (((List.length a0 : Int)) != ((List.length a1 : Int))) then
    some false
  else
    (iter n (laws_eqTaskS_L1 a0 a1) 0).bind fun (x5 : (Int) ⊕ (Bool)) =>
    (match x5 with
    | .inl x6 => (
      some true)
    | .inr x7 => (
      some x7))

def laws_eqDepot (n : Nat) (a0_0 : Int) (a0_1 : Int) (a0_2 : List Int) (a0_3 : List SIILIIIJ) (a0_4 : Int) (a0_5 : List SIILIIJLIIIJI) (a0_6 : List SIIIBI) (a0_7 : List SIIII) (a0_8 : List Int) (a0_9 : List Int) (a0_10 : Int) (a1_0 : Int) (a1_1 : Int) (a1_2 : List Int) (a1_3 : List SIILIIIJ) (a1_4 : Int) (a1_5 : List SIILIIJLIIIJI) (a1_6 : List SIIIBI) (a1_7 : List SIIII) (a1_8 : List Int) (a1_9 : List Int) (a1_10 : Int) : Option (Bool) :=
  (laws_eqFloor n a0_0 a0_1 a0_2 a1_0 a1_1 a1_2).bind fun (x1 : Bool) =>
  bif (!x1) then
    some false
  else
    (laws_eqStock n a0_3 a1_3).bind fun (x2 : Bool) =>
    bif (!x2) then
      some false
    else
      (laws_eqBook n a0_4 a0_5 a1_4 a1_5).bind fun (x3 : Bool) =>
      bif (!x3) then
        some false
      else
        (laws_eqRobotS n a0_6 a1_6).bind fun (x4 : Bool) =>
        bif (!x4) then
          some false
        else
          (laws_eqTaskS n a0_7 a1_7).bind fun (x5 : Bool) =>
          bif (!x5) then
            some false
          else
            (laws_eqIntS n a0_8 a1_8).bind fun (x6 : Bool) =>
            bif (!x6) then
              some false
            else
              (laws_eqIntS n a0_9 a1_9).bind fun (x7 : Bool) =>
              bif (!x7) then
                some false
              else
                bif (a0_10 != a1_10) then
                  some false
                else
                  some true

def laws_markIntS_L1 (x1 : SIILIJ) : Option ((SIILIJ) ⊕ (SIILIJ)) :=
  bif (decide (x1.2.1 < ((List.length x1.2.2 : Int)))) then
    bif (inb x1.2.2 x1.2.1) then
      some (.inl ((w64 (x1.1 + 1)), (w64 (x1.2.1 + 1)), (upd x1.2.2 (Int.toNat x1.2.1) x1.1)))
    else
      none
  else
    some (.inr (x1.1, x1.2.1, x1.2.2))

def laws_markIntS (n : Nat) (a0 : List Int) (a1 : Int) : Option (Int × (List Int)) :=
  (iter n (laws_markIntS_L1) (a1, 0, a0)).bind fun (x2 : SIILIJ) =>
  some (x2.1, x2.2.2)

def laws_markFloor (n : Nat) (a0_0 : Int) (a0_1 : Int) (a0_2 : List Int) (a1 : Int) : Option (Int × Int × Int × (List Int)) :=
  (laws_markIntS n a0_2 a1).bind fun (x1 : Int × (List Int)) =>
  some (x1.1, a0_0, a0_1, x1.2)

def laws_markStackS_L1 (x1 : SIILIIIJ) : Option ((SIILIIIJ) ⊕ (SIILIIIJ)) :=
  bif (decide (x1.2.1 < ((List.length x1.2.2 : Int)))) then
    bif (inb x1.2.2 x1.2.1) then
      bif (inb (List.modify x1.2.2 (Int.toNat x1.2.1) (fun (y : SIII) => (x1.1, y.2.1, y.2.2))) x1.2.1) then
        bif (inb (List.modify (List.modify x1.2.2 (Int.toNat x1.2.1) (fun (y : SIII) => (x1.1, y.2.1, y.2.2))) (Int.toNat x1.2.1) (fun (y : SIII) => (y.1, (w64 (x1.1 + 1)), y.2.2))) x1.2.1) then
          some (.inl ((w64 ((w64 ((w64 (x1.1 + 1)) + 1)) + 1)), (w64 (x1.2.1 + 1)), (List.modify (List.modify (List.modify x1.2.2 (Int.toNat x1.2.1) (fun (y : SIII) => (x1.1, y.2.1, y.2.2))) (Int.toNat x1.2.1) (fun (y : SIII) => (y.1, (w64 (x1.1 + 1)), y.2.2))) (Int.toNat x1.2.1) (fun (y : SIII) => (y.1, y.2.1, (w64 ((w64 (x1.1 + 1)) + 1)))))))
        else
          none
      else
        none
    else
      none
  else
    some (.inr (x1.1, x1.2.1, x1.2.2))

def laws_markStackS (n : Nat) (a0 : List SIII) (a1 : Int) : Option (Int × (List SIII)) :=
  (iter n (laws_markStackS_L1) (a1, 0, a0)).bind fun (x2 : SIILIIIJ) =>
  some (x2.1, x2.2.2)

def laws_markPodS_L1 (n : Nat) (x1 : Int × Int × (List SIILIIIJ)) : Option ((Int × Int × (List SIILIIIJ)) ⊕ (Int × Int × (List SIILIIIJ))) :=
  bif (decide (x1.2.1 < ((List.length x1.2.2 : Int)))) then
    bif (inb x1.2.2 x1.2.1) then
      bif (inb (List.modify x1.2.2 (Int.toNat x1.2.1) (fun (y : SIILIIIJ) => (x1.1, y.2.1, y.2.2))) x1.2.1) then
        bif (inb (List.modify (List.modify x1.2.2 (Int.toNat x1.2.1) (fun (y : SIILIIIJ) => (x1.1, y.2.1, y.2.2))) (Int.toNat x1.2.1) (fun (y : SIILIIIJ) => (y.1, (w64 (x1.1 + 1)), y.2.2))) x1.2.1) then
          (((List.modify (List.modify x1.2.2 (Int.toNat x1.2.1) (fun (y : SIILIIIJ) => (x1.1, y.2.1, y.2.2))) (Int.toNat x1.2.1) (fun (y : SIILIIIJ) => (y.1, (w64 (x1.1 + 1)), y.2.2)))[(Int.toNat x1.2.1)]?)).bind fun (x2 : SIILIIIJ) =>
          (((List.modify (List.modify x1.2.2 (Int.toNat x1.2.1) (fun (y : SIILIIIJ) => (x1.1, y.2.1, y.2.2))) (Int.toNat x1.2.1) (fun (y : SIILIIIJ) => (y.1, (w64 (x1.1 + 1)), y.2.2)))[(Int.toNat x1.2.1)]?)).bind fun (x3 : SIILIIIJ) =>
          (laws_markStackS n x3.2.2 (w64 ((w64 (x1.1 + 1)) + 1))).bind fun (x4 : Int × (List SIII)) =>
          some (.inl (x4.1, (w64 (x1.2.1 + 1)), (List.modify (List.modify (List.modify x1.2.2 (Int.toNat x1.2.1) (fun (y : SIILIIIJ) => (x1.1, y.2.1, y.2.2))) (Int.toNat x1.2.1) (fun (y : SIILIIIJ) => (y.1, (w64 (x1.1 + 1)), y.2.2))) (Int.toNat x1.2.1) (fun (y1 : SIILIIIJ) => (y1.1, y1.2.1, x4.2)))))
        else
          none
      else
        none
    else
      none
  else
    some (.inr (x1.1, x1.2.1, x1.2.2))

def laws_markPodS (n : Nat) (a0 : List SIILIIIJ) (a1 : Int) : Option (Int × (List SIILIIIJ)) :=
  (iter n (laws_markPodS_L1 n) (a1, 0, a0)).bind fun (x5 : Int × Int × (List SIILIIIJ)) =>
  some (x5.1, x5.2.2)

def laws_markStock (n : Nat) (a0 : List SIILIIIJ) (a1 : Int) : Option (Int × (List SIILIIIJ)) :=
  (laws_markPodS n a0 a1).bind fun (x1 : Int × (List SIILIIIJ)) =>
  some (x1.1, x1.2)

def laws_markItemS_L1 (x1 : Int × Int × (List SII)) : Option ((Int × Int × (List SII)) ⊕ (Int × Int × (List SII))) :=
  bif (decide (x1.2.1 < ((List.length x1.2.2 : Int)))) then
    bif (inb x1.2.2 x1.2.1) then
      bif (inb (List.modify x1.2.2 (Int.toNat x1.2.1) (fun (y : SII) => (x1.1, y.2))) x1.2.1) then
        some (.inl ((w64 ((w64 (x1.1 + 1)) + 1)), (w64 (x1.2.1 + 1)), (List.modify (List.modify x1.2.2 (Int.toNat x1.2.1) (fun (y : SII) => (x1.1, y.2))) (Int.toNat x1.2.1) (fun (y : SII) => (y.1, (w64 (x1.1 + 1)))))))
      else
        none
    else
      none
  else
    some (.inr (x1.1, x1.2.1, x1.2.2))

def laws_markItemS (n : Nat) (a0 : List SII) (a1 : Int) : Option (Int × (List SII)) :=
  (iter n (laws_markItemS_L1) (a1, 0, a0)).bind fun (x2 : Int × Int × (List SII)) =>
  some (x2.1, x2.2.2)

def laws_markPickS_L1 (x1 : Int × Int × (List SIII)) : Option ((Int × Int × (List SIII)) ⊕ (Int × Int × (List SIII))) :=
  bif (decide (x1.2.1 < ((List.length x1.2.2 : Int)))) then
    bif (inb x1.2.2 x1.2.1) then
      bif (inb (List.modify x1.2.2 (Int.toNat x1.2.1) (fun (y : SIII) => (x1.1, y.2.1, y.2.2))) x1.2.1) then
        bif (inb (List.modify (List.modify x1.2.2 (Int.toNat x1.2.1) (fun (y : SIII) => (x1.1, y.2.1, y.2.2))) (Int.toNat x1.2.1) (fun (y : SIII) => (y.1, (w64 (x1.1 + 1)), y.2.2))) x1.2.1) then
          some (.inl ((w64 ((w64 ((w64 (x1.1 + 1)) + 1)) + 1)), (w64 (x1.2.1 + 1)), (List.modify (List.modify (List.modify x1.2.2 (Int.toNat x1.2.1) (fun (y : SIII) => (x1.1, y.2.1, y.2.2))) (Int.toNat x1.2.1) (fun (y : SIII) => (y.1, (w64 (x1.1 + 1)), y.2.2))) (Int.toNat x1.2.1) (fun (y : SIII) => (y.1, y.2.1, (w64 ((w64 (x1.1 + 1)) + 1)))))))
        else
          none
      else
        none
    else
      none
  else
    some (.inr (x1.1, x1.2.1, x1.2.2))

def laws_markPickS (n : Nat) (a0 : List SIII) (a1 : Int) : Option (Int × (List SIII)) :=
  (iter n (laws_markPickS_L1) (a1, 0, a0)).bind fun (x2 : Int × Int × (List SIII)) =>
  some (x2.1, x2.2.2)

def laws_markOrderS_L1 (n : Nat) (x1 : Int × Int × (List SIILIIJLIIIJI)) : Option ((Int × Int × (List SIILIIJLIIIJI)) ⊕ (Int × Int × (List SIILIIJLIIIJI))) :=
  bif (decide (x1.2.1 < ((List.length x1.2.2 : Int)))) then
    bif (inb x1.2.2 x1.2.1) then
      bif (inb (List.modify x1.2.2 (Int.toNat x1.2.1) (fun (y : SIILIIJLIIIJI) => (x1.1, y.2.1, y.2.2.1, y.2.2.2.1, y.2.2.2.2))) x1.2.1) then
        bif (inb (List.modify (List.modify x1.2.2 (Int.toNat x1.2.1) (fun (y : SIILIIJLIIIJI) => (x1.1, y.2.1, y.2.2.1, y.2.2.2.1, y.2.2.2.2))) (Int.toNat x1.2.1) (fun (y : SIILIIJLIIIJI) => (y.1, (w64 (x1.1 + 1)), y.2.2.1, y.2.2.2.1, y.2.2.2.2))) x1.2.1) then
          (((List.modify (List.modify x1.2.2 (Int.toNat x1.2.1) (fun (y : SIILIIJLIIIJI) => (x1.1, y.2.1, y.2.2.1, y.2.2.2.1, y.2.2.2.2))) (Int.toNat x1.2.1) (fun (y : SIILIIJLIIIJI) => (y.1, (w64 (x1.1 + 1)), y.2.2.1, y.2.2.2.1, y.2.2.2.2)))[(Int.toNat x1.2.1)]?)).bind fun (x2 : SIILIIJLIIIJI) =>
          (((List.modify (List.modify x1.2.2 (Int.toNat x1.2.1) (fun (y : SIILIIJLIIIJI) => (x1.1, y.2.1, y.2.2.1, y.2.2.2.1, y.2.2.2.2))) (Int.toNat x1.2.1) (fun (y : SIILIIJLIIIJI) => (y.1, (w64 (x1.1 + 1)), y.2.2.1, y.2.2.2.1, y.2.2.2.2)))[(Int.toNat x1.2.1)]?)).bind fun (x3 : SIILIIJLIIIJI) =>
          (laws_markItemS n x3.2.2.1 (w64 ((w64 (x1.1 + 1)) + 1))).bind fun (x4 : Int × (List SII)) =>
          bif (inb (List.modify (List.modify (List.modify x1.2.2 (Int.toNat x1.2.1) (fun (y : SIILIIJLIIIJI) => (x1.1, y.2.1, y.2.2.1, y.2.2.2.1, y.2.2.2.2))) (Int.toNat x1.2.1) (fun (y : SIILIIJLIIIJI) => (y.1, (w64 (x1.1 + 1)), y.2.2.1, y.2.2.2.1, y.2.2.2.2))) (Int.toNat x1.2.1) (fun (y1 : SIILIIJLIIIJI) => (y1.1, y1.2.1, x4.2, y1.2.2.2.1, y1.2.2.2.2))) x1.2.1) then
            (((List.modify (List.modify (List.modify x1.2.2 (Int.toNat x1.2.1) (fun (y : SIILIIJLIIIJI) => (x1.1, y.2.1, y.2.2.1, y.2.2.2.1, y.2.2.2.2))) (Int.toNat x1.2.1) (fun (y : SIILIIJLIIIJI) => (y.1, (w64 (x1.1 + 1)), y.2.2.1, y.2.2.2.1, y.2.2.2.2))) (Int.toNat x1.2.1) (fun (y1 : SIILIIJLIIIJI) => (y1.1, y1.2.1, x4.2, y1.2.2.2.1, y1.2.2.2.2)))[(Int.toNat x1.2.1)]?)).bind fun (x5 : SIILIIJLIIIJI) =>
            (((List.modify (List.modify (List.modify x1.2.2 (Int.toNat x1.2.1) (fun (y : SIILIIJLIIIJI) => (x1.1, y.2.1, y.2.2.1, y.2.2.2.1, y.2.2.2.2))) (Int.toNat x1.2.1) (fun (y : SIILIIJLIIIJI) => (y.1, (w64 (x1.1 + 1)), y.2.2.1, y.2.2.2.1, y.2.2.2.2))) (Int.toNat x1.2.1) (fun (y1 : SIILIIJLIIIJI) => (y1.1, y1.2.1, x4.2, y1.2.2.2.1, y1.2.2.2.2)))[(Int.toNat x1.2.1)]?)).bind fun (x6 : SIILIIJLIIIJI) =>
            (laws_markPickS n x6.2.2.2.1 x4.1).bind fun (x7 : Int × (List SIII)) =>
            bif (inb (List.modify (List.modify (List.modify (List.modify x1.2.2 (Int.toNat x1.2.1) (fun (y : SIILIIJLIIIJI) => (x1.1, y.2.1, y.2.2.1, y.2.2.2.1, y.2.2.2.2))) (Int.toNat x1.2.1) (fun (y : SIILIIJLIIIJI) => (y.1, (w64 (x1.1 + 1)), y.2.2.1, y.2.2.2.1, y.2.2.2.2))) (Int.toNat x1.2.1) (fun (y1 : SIILIIJLIIIJI) => (y1.1, y1.2.1, x4.2, y1.2.2.2.1, y1.2.2.2.2))) (Int.toNat x1.2.1) (fun (y1 : SIILIIJLIIIJI) => (y1.1, y1.2.1, y1.2.2.1, x7.2, y1.2.2.2.2))) x1.2.1) then
              some (.inl ((w64 (x7.1 + 1)), (w64 (x1.2.1 + 1)), (List.modify (List.modify (List.modify (List.modify (List.modify x1.2.2 (Int.toNat x1.2.1) (fun (y : SIILIIJLIIIJI) => (x1.1, y.2.1, y.2.2.1, y.2.2.2.1, y.2.2.2.2))) (Int.toNat x1.2.1) (fun (y : SIILIIJLIIIJI) => (y.1, (w64 (x1.1 + 1)), y.2.2.1, y.2.2.2.1, y.2.2.2.2))) (Int.toNat x1.2.1) (fun (y1 : SIILIIJLIIIJI) => (y1.1, y1.2.1, x4.2, y1.2.2.2.1, y1.2.2.2.2))) (Int.toNat x1.2.1) (fun (y1 : SIILIIJLIIIJI) => (y1.1, y1.2.1, y1.2.2.1, x7.2, y1.2.2.2.2))) (Int.toNat x1.2.1) (fun (y : SIILIIJLIIIJI) => (y.1, y.2.1, y.2.2.1, y.2.2.2.1, x7.1)))))
            else
              none
          else
            none
        else
          none
      else
        none
    else
      none
  else
    some (.inr (x1.1, x1.2.1, x1.2.2))

def laws_markOrderS (n : Nat) (a0 : List SIILIIJLIIIJI) (a1 : Int) : Option (SILIILIIJLIIIJIJ) :=
  (iter n (laws_markOrderS_L1 n) (a1, 0, a0)).bind fun (x8 : Int × Int × (List SIILIIJLIIIJI)) =>
  some (x8.1, x8.2.2)

def laws_markBook (n : Nat) (a0_0 : Int) (a0_1 : List SIILIIJLIIIJI) (a1 : Int) : Option (Int × Int × (List SIILIIJLIIIJI)) :=
  (laws_markOrderS n a0_1 a1).bind fun (x1 : SILIILIIJLIIIJIJ) =>
  some (x1.1, a0_0, x1.2)

def laws_markRobotS_L1 (x1 : Int × Int × (List SIIIBI)) : Option ((Int × Int × (List SIIIBI)) ⊕ (Int × Int × (List SIIIBI))) :=
  bif (decide (x1.2.1 < ((List.length x1.2.2 : Int)))) then
    bif (inb x1.2.2 x1.2.1) then
      bif (inb (List.modify x1.2.2 (Int.toNat x1.2.1) (fun (y : SIIIBI) => (x1.1, y.2.1, y.2.2.1, y.2.2.2.1, y.2.2.2.2))) x1.2.1) then
        bif (inb (List.modify (List.modify x1.2.2 (Int.toNat x1.2.1) (fun (y : SIIIBI) => (x1.1, y.2.1, y.2.2.1, y.2.2.2.1, y.2.2.2.2))) (Int.toNat x1.2.1) (fun (y : SIIIBI) => (y.1, (w64 (x1.1 + 1)), y.2.2.1, y.2.2.2.1, y.2.2.2.2))) x1.2.1) then
          bif (inb (List.modify (List.modify (List.modify x1.2.2 (Int.toNat x1.2.1) (fun (y : SIIIBI) => (x1.1, y.2.1, y.2.2.1, y.2.2.2.1, y.2.2.2.2))) (Int.toNat x1.2.1) (fun (y : SIIIBI) => (y.1, (w64 (x1.1 + 1)), y.2.2.1, y.2.2.2.1, y.2.2.2.2))) (Int.toNat x1.2.1) (fun (y : SIIIBI) => (y.1, y.2.1, (w64 ((w64 (x1.1 + 1)) + 1)), y.2.2.2.1, y.2.2.2.2))) x1.2.1) then
            bif (inb (List.modify (List.modify (List.modify (List.modify x1.2.2 (Int.toNat x1.2.1) (fun (y : SIIIBI) => (x1.1, y.2.1, y.2.2.1, y.2.2.2.1, y.2.2.2.2))) (Int.toNat x1.2.1) (fun (y : SIIIBI) => (y.1, (w64 (x1.1 + 1)), y.2.2.1, y.2.2.2.1, y.2.2.2.2))) (Int.toNat x1.2.1) (fun (y : SIIIBI) => (y.1, y.2.1, (w64 ((w64 (x1.1 + 1)) + 1)), y.2.2.2.1, y.2.2.2.2))) (Int.toNat x1.2.1) (fun (y : SIIIBI) => (y.1, y.2.1, y.2.2.1, ((Int.tmod (w64 ((w64 ((w64 (x1.1 + 1)) + 1)) + 1)) 3) == 0), y.2.2.2.2))) x1.2.1) then
              some (.inl ((w64 ((w64 ((w64 ((w64 ((w64 (x1.1 + 1)) + 1)) + 1)) + 1)) + 1)), (w64 (x1.2.1 + 1)), (List.modify (List.modify (List.modify (List.modify (List.modify x1.2.2 (Int.toNat x1.2.1) (fun (y : SIIIBI) => (x1.1, y.2.1, y.2.2.1, y.2.2.2.1, y.2.2.2.2))) (Int.toNat x1.2.1) (fun (y : SIIIBI) => (y.1, (w64 (x1.1 + 1)), y.2.2.1, y.2.2.2.1, y.2.2.2.2))) (Int.toNat x1.2.1) (fun (y : SIIIBI) => (y.1, y.2.1, (w64 ((w64 (x1.1 + 1)) + 1)), y.2.2.2.1, y.2.2.2.2))) (Int.toNat x1.2.1) (fun (y : SIIIBI) => (y.1, y.2.1, y.2.2.1, ((Int.tmod (w64 ((w64 ((w64 (x1.1 + 1)) + 1)) + 1)) 3) == 0), y.2.2.2.2))) (Int.toNat x1.2.1) (fun (y : SIIIBI) => (y.1, y.2.1, y.2.2.1, y.2.2.2.1, (w64 ((w64 ((w64 ((w64 (x1.1 + 1)) + 1)) + 1)) + 1)))))))
            else
              none
          else
            none
        else
          none
      else
        none
    else
      none
  else
    some (.inr (x1.1, x1.2.1, x1.2.2))

def laws_markRobotS (n : Nat) (a0 : List SIIIBI) (a1 : Int) : Option (Int × (List SIIIBI)) :=
  (iter n (laws_markRobotS_L1) (a1, 0, a0)).bind fun (x2 : Int × Int × (List SIIIBI)) =>
  some (x2.1, x2.2.2)

def laws_markTaskS_L1 (x1 : Int × Int × (List SIIII)) : Option ((Int × Int × (List SIIII)) ⊕ (Int × Int × (List SIIII))) :=
  bif (decide (x1.2.1 < ((List.length x1.2.2 : Int)))) then
    bif (inb x1.2.2 x1.2.1) then
      bif (inb (List.modify x1.2.2 (Int.toNat x1.2.1) (fun (y : SIIII) => (x1.1, y.2.1, y.2.2.1, y.2.2.2))) x1.2.1) then
        bif (inb (List.modify (List.modify x1.2.2 (Int.toNat x1.2.1) (fun (y : SIIII) => (x1.1, y.2.1, y.2.2.1, y.2.2.2))) (Int.toNat x1.2.1) (fun (y : SIIII) => (y.1, (w64 (x1.1 + 1)), y.2.2.1, y.2.2.2))) x1.2.1) then
          bif (inb (List.modify (List.modify (List.modify x1.2.2 (Int.toNat x1.2.1) (fun (y : SIIII) => (x1.1, y.2.1, y.2.2.1, y.2.2.2))) (Int.toNat x1.2.1) (fun (y : SIIII) => (y.1, (w64 (x1.1 + 1)), y.2.2.1, y.2.2.2))) (Int.toNat x1.2.1) (fun (y : SIIII) => (y.1, y.2.1, (w64 ((w64 (x1.1 + 1)) + 1)), y.2.2.2))) x1.2.1) then
            some (.inl ((w64 ((w64 ((w64 ((w64 (x1.1 + 1)) + 1)) + 1)) + 1)), (w64 (x1.2.1 + 1)), (List.modify (List.modify (List.modify (List.modify x1.2.2 (Int.toNat x1.2.1) (fun (y : SIIII) => (x1.1, y.2.1, y.2.2.1, y.2.2.2))) (Int.toNat x1.2.1) (fun (y : SIIII) => (y.1, (w64 (x1.1 + 1)), y.2.2.1, y.2.2.2))) (Int.toNat x1.2.1) (fun (y : SIIII) => (y.1, y.2.1, (w64 ((w64 (x1.1 + 1)) + 1)), y.2.2.2))) (Int.toNat x1.2.1) (fun (y : SIIII) => (y.1, y.2.1, y.2.2.1, (w64 ((w64 ((w64 (x1.1 + 1)) + 1)) + 1)))))))
          else
            none
        else
          none
      else
        none
    else
      none
  else
    some (.inr (x1.1, x1.2.1, x1.2.2))

def laws_markTaskS (n : Nat) (a0 : List SIIII) (a1 : Int) : Option (Int × (List SIIII)) :=
  (iter n (laws_markTaskS_L1) (a1, 0, a0)).bind fun (x2 : Int × Int × (List SIIII)) =>
  some (x2.1, x2.2.2)

def laws_markDepot (n : Nat) (a0_0 : Int) (a0_1 : Int) (a0_2 : List Int) (a0_3 : List SIILIIIJ) (a0_4 : Int) (a0_5 : List SIILIIJLIIIJI) (a0_6 : List SIIIBI) (a0_7 : List SIIII) (a0_8 : List Int) (a0_9 : List Int) (a0_10 : Int) (a1 : Int) : Option (Int × Int × Int × (List Int) × (List SIILIIIJ) × Int × (List SIILIIJLIIIJI) × (List SIIIBI) × (List SIIII) × (List Int) × (List Int) × Int) :=
  (laws_markFloor n a0_0 a0_1 a0_2 a1).bind fun (x1 : Int × Int × Int × (List Int)) =>
  (laws_markStock n a0_3 x1.1).bind fun (x2 : Int × (List SIILIIIJ)) =>
  (laws_markBook n a0_4 a0_5 x2.1).bind fun (x3 : Int × Int × (List SIILIIJLIIIJI)) =>
  (laws_markRobotS n a0_6 x3.1).bind fun (x4 : Int × (List SIIIBI)) =>
  (laws_markTaskS n a0_7 x4.1).bind fun (x5 : Int × (List SIIII)) =>
  (laws_markIntS n a0_8 x5.1).bind fun (x6 : Int × (List Int)) =>
  (laws_markIntS n a0_9 x6.1).bind fun (x7 : Int × (List Int)) =>
  some (x7.1, a0_0, a0_1, x1.2.2.2, x2.2, a0_4, x3.2.2, x4.2, x5.2, x6.2, x7.2, a0_10)

def laws_heldIntS_L1 (a0 : List Int) (x1 : SII) : Option ((SII) ⊕ ((SII) ⊕ (Int))) :=
  bif (decide (x1.2 < ((List.length a0 : Int)))) then
    ((getI a0 x1.2)).bind fun (x2 : Int) =>
    bif (x2 != x1.1) then
      some (.inr (.inr (-1)))
    else
      some (.inl ((w64 (x1.1 + 1)), (w64 (x1.2 + 1))))
  else
    some (.inr (.inl (x1.1, x1.2)))

def laws_heldIntS (n : Nat) (a0 : List Int) (a1 : Int) : Option (Int) :=
  (iter n (laws_heldIntS_L1 a0) (a1, 0)).bind fun (x3 : (SII) ⊕ (Int)) =>
  (match x3 with
  | .inl x4 => (
    some x4.1)
  | .inr x5 => (
    some x5))

def laws_heldFloor (n : Nat) (a0_0 : Int) (a0_1 : Int) (a0_2 : List Int) (a1 : Int) : Option (Int) :=
  (laws_heldIntS n a0_2 a1).bind fun (x1 : Int) =>
  bif (decide (x1 < 0)) then
    some (-1)
  else
    some x1

def laws_heldStackS_L1 (a0 : List SIII) (x1 : SII) : Option ((SII) ⊕ ((SII) ⊕ (Int))) :=
  bif (decide (x1.2 < ((List.length a0 : Int)))) then
    ((getI a0 x1.2)).bind fun (x2 : SIII) =>
    bif (x2.1 != x1.1) then
      some (.inr (.inr (-1)))
    else
      ((getI a0 x1.2)).bind fun (x3 : SIII) =>
      bif (x3.2.1 != (w64 (x1.1 + 1))) then
        some (.inr (.inr (-1)))
      else
        ((getI a0 x1.2)).bind fun (x4 : SIII) =>
        bif (x4.2.2 != (w64 ((w64 (x1.1 + 1)) + 1))) then
          some (.inr (.inr (-1)))
        else
          some (.inl ((w64 ((w64 ((w64 (x1.1 + 1)) + 1)) + 1)), (w64 (x1.2 + 1))))
  else
    some (.inr (.inl (x1.1, x1.2)))

def laws_heldStackS (n : Nat) (a0 : List SIII) (a1 : Int) : Option (Int) :=
  (iter n (laws_heldStackS_L1 a0) (a1, 0)).bind fun (x5 : (SII) ⊕ (Int)) =>
  (match x5 with
  | .inl x6 => (
    some x6.1)
  | .inr x7 => (
    some x7))

def laws_heldPodS_L1 (n : Nat) (a0 : List SIILIIIJ) (x1 : SII) : Option ((SII) ⊕ ((SII) ⊕ (Int))) :=
  bif (decide (x1.2 < ((List.length a0 : Int)))) then
    ((getI a0 x1.2)).bind fun (x2 : SIILIIIJ) =>
    bif (x2.1 != x1.1) then
      some (.inr (.inr (-1)))
    else
      ((getI a0 x1.2)).bind fun (x3 : SIILIIIJ) =>
      bif (x3.2.1 != (w64 (x1.1 + 1))) then
        some (.inr (.inr (-1)))
      else
        ((getI a0 x1.2)).bind fun (x4 : SIILIIIJ) =>
        (laws_heldStackS n x4.2.2 (w64 ((w64 (x1.1 + 1)) + 1))).bind fun (x5 : Int) =>
        bif (decide (x5 < 0)) then
          some (.inr (.inr (-1)))
        else
          some (.inl (x5, (w64 (x1.2 + 1))))
  else
    some (.inr (.inl (x1.1, x1.2)))

def laws_heldPodS (n : Nat) (a0 : List SIILIIIJ) (a1 : Int) : Option (Int) :=
  (iter n (laws_heldPodS_L1 n a0) (a1, 0)).bind fun (x6 : (SII) ⊕ (Int)) =>
  (match x6 with
  | .inl x7 => (
    some x7.1)
  | .inr x8 => (
    some x8))

def laws_heldStock (n : Nat) (a0 : List SIILIIIJ) (a1 : Int) : Option (Int) :=
  (laws_heldPodS n a0 a1).bind fun (x1 : Int) =>
  bif (decide (x1 < 0)) then
    some (-1)
  else
    some x1

def laws_heldItemS_L1 (a0 : List SII) (x1 : SII) : Option ((SII) ⊕ ((SII) ⊕ (Int))) :=
  bif (decide (x1.2 < ((List.length a0 : Int)))) then
    ((getI a0 x1.2)).bind fun (x2 : SII) =>
    bif (x2.1 != x1.1) then
      some (.inr (.inr (-1)))
    else
      ((getI a0 x1.2)).bind fun (x3 : SII) =>
      bif (x3.2 != (w64 (x1.1 + 1))) then
        some (.inr (.inr (-1)))
      else
        some (.inl ((w64 ((w64 (x1.1 + 1)) + 1)), (w64 (x1.2 + 1))))
  else
    some (.inr (.inl (x1.1, x1.2)))

def laws_heldItemS (n : Nat) (a0 : List SII) (a1 : Int) : Option (Int) :=
  (iter n (laws_heldItemS_L1 a0) (a1, 0)).bind fun (x4 : (SII) ⊕ (Int)) =>
  (match x4 with
  | .inl x5 => (
    some x5.1)
  | .inr x6 => (
    some x6))

def laws_heldPickS_L1 (a0 : List SIII) (x1 : SII) : Option ((SII) ⊕ ((SII) ⊕ (Int))) :=
  bif (decide (x1.2 < ((List.length a0 : Int)))) then
    ((getI a0 x1.2)).bind fun (x2 : SIII) =>
    bif (x2.1 != x1.1) then
      some (.inr (.inr (-1)))
    else
      ((getI a0 x1.2)).bind fun (x3 : SIII) =>
      bif (x3.2.1 != (w64 (x1.1 + 1))) then
        some (.inr (.inr (-1)))
      else
        ((getI a0 x1.2)).bind fun (x4 : SIII) =>
        bif (x4.2.2 != (w64 ((w64 (x1.1 + 1)) + 1))) then
          some (.inr (.inr (-1)))
        else
          some (.inl ((w64 ((w64 ((w64 (x1.1 + 1)) + 1)) + 1)), (w64 (x1.2 + 1))))
  else
    some (.inr (.inl (x1.1, x1.2)))

def laws_heldPickS (n : Nat) (a0 : List SIII) (a1 : Int) : Option (Int) :=
  (iter n (laws_heldPickS_L1 a0) (a1, 0)).bind fun (x5 : (SII) ⊕ (Int)) =>
  (match x5 with
  | .inl x6 => (
    some x6.1)
  | .inr x7 => (
    some x7))

def laws_heldOrderS_L1 (n : Nat) (a0 : List SIILIIJLIIIJI) (x1 : SII) : Option ((SII) ⊕ ((SII) ⊕ (Int))) :=
  bif (decide (x1.2 < ((List.length a0 : Int)))) then
    ((getI a0 x1.2)).bind fun (x2 : SIILIIJLIIIJI) =>
    bif (x2.1 != x1.1) then
      some (.inr (.inr (-1)))
    else
      ((getI a0 x1.2)).bind fun (x3 : SIILIIJLIIIJI) =>
      bif (x3.2.1 != (w64 (x1.1 + 1))) then
        some (.inr (.inr (-1)))
      else
        ((getI a0 x1.2)).bind fun (x4 : SIILIIJLIIIJI) =>
        (laws_heldItemS n x4.2.2.1 (w64 ((w64 (x1.1 + 1)) + 1))).bind fun (x5 : Int) =>
        bif (decide (x5 < 0)) then
          some (.inr (.inr (-1)))
        else
          ((getI a0 x1.2)).bind fun (x6 : SIILIIJLIIIJI) =>
          (laws_heldPickS n x6.2.2.2.1 x5).bind fun (x7 : Int) =>
          bif (decide (x7 < 0)) then
            some (.inr (.inr (-1)))
          else
            ((getI a0 x1.2)).bind fun (x8 : SIILIIJLIIIJI) =>
            bif (x8.2.2.2.2 != x7) then
              some (.inr (.inr (-1)))
            else
              some (.inl ((w64 (x7 + 1)), (w64 (x1.2 + 1))))
  else
    some (.inr (.inl (x1.1, x1.2)))

def laws_heldOrderS (n : Nat) (a0 : List SIILIIJLIIIJI) (a1 : Int) : Option (Int) :=
  (iter n (laws_heldOrderS_L1 n a0) (a1, 0)).bind fun (x9 : (SII) ⊕ (Int)) =>
  (match x9 with
  | .inl x10 => (
    some x10.1)
  | .inr x11 => (
    some x11))

def laws_heldBook (n : Nat) (a0_0 : Int) (a0_1 : List SIILIIJLIIIJI) (a1 : Int) : Option (Int) :=
  (laws_heldOrderS n a0_1 a1).bind fun (x1 : Int) =>
  bif (decide (x1 < 0)) then
    some (-1)
  else
    some x1

def laws_heldRobotS_L1 (a0 : List SIIIBI) (x1 : SII) : Option ((SII) ⊕ ((SII) ⊕ (Int))) :=
  bif (decide (x1.2 < ((List.length a0 : Int)))) then
    ((getI a0 x1.2)).bind fun (x2 : SIIIBI) =>
    bif (x2.1 != x1.1) then
      some (.inr (.inr (-1)))
    else
      ((getI a0 x1.2)).bind fun (x3 : SIIIBI) =>
      bif (x3.2.1 != (w64 (x1.1 + 1))) then
        some (.inr (.inr (-1)))
      else
        ((getI a0 x1.2)).bind fun (x4 : SIIIBI) =>
        bif (x4.2.2.1 != (w64 ((w64 (x1.1 + 1)) + 1))) then
          some (.inr (.inr (-1)))
        else
          ((getI a0 x1.2)).bind fun (x5 : SIIIBI) =>
          bif (x5.2.2.2.1 != ((Int.tmod (w64 ((w64 ((w64 (x1.1 + 1)) + 1)) + 1)) 3) == 0)) then
            some (.inr (.inr (-1)))
          else
            ((getI a0 x1.2)).bind fun (x6 : SIIIBI) =>
            bif (x6.2.2.2.2 != (w64 ((w64 ((w64 ((w64 (x1.1 + 1)) + 1)) + 1)) + 1))) then
              some (.inr (.inr (-1)))
            else
              some (.inl ((w64 ((w64 ((w64 ((w64 ((w64 (x1.1 + 1)) + 1)) + 1)) + 1)) + 1)), (w64 (x1.2 + 1))))
  else
    some (.inr (.inl (x1.1, x1.2)))

def laws_heldRobotS (n : Nat) (a0 : List SIIIBI) (a1 : Int) : Option (Int) :=
  (iter n (laws_heldRobotS_L1 a0) (a1, 0)).bind fun (x7 : (SII) ⊕ (Int)) =>
  (match x7 with
  | .inl x8 => (
    some x8.1)
  | .inr x9 => (
    some x9))

def laws_heldTaskS_L1 (a0 : List SIIII) (x1 : SII) : Option ((SII) ⊕ ((SII) ⊕ (Int))) :=
  bif (decide (x1.2 < ((List.length a0 : Int)))) then
    ((getI a0 x1.2)).bind fun (x2 : SIIII) =>
    bif (x2.1 != x1.1) then
      some (.inr (.inr (-1)))
    else
      ((getI a0 x1.2)).bind fun (x3 : SIIII) =>
      bif (x3.2.1 != (w64 (x1.1 + 1))) then
        some (.inr (.inr (-1)))
      else
        ((getI a0 x1.2)).bind fun (x4 : SIIII) =>
        bif (x4.2.2.1 != (w64 ((w64 (x1.1 + 1)) + 1))) then
          some (.inr (.inr (-1)))
        else
          ((getI a0 x1.2)).bind fun (x5 : SIIII) =>
          bif (x5.2.2.2 != (w64 ((w64 ((w64 (x1.1 + 1)) + 1)) + 1))) then
            some (.inr (.inr (-1)))
          else
            some (.inl ((w64 ((w64 ((w64 ((w64 (x1.1 + 1)) + 1)) + 1)) + 1)), (w64 (x1.2 + 1))))
  else
    some (.inr (.inl (x1.1, x1.2)))

def laws_heldTaskS (n : Nat) (a0 : List SIIII) (a1 : Int) : Option (Int) :=
  (iter n (laws_heldTaskS_L1 a0) (a1, 0)).bind fun (x6 : (SII) ⊕ (Int)) =>
  (match x6 with
  | .inl x7 => (
    some x7.1)
  | .inr x8 => (
    some x8))

def laws_heldDepot (n : Nat) (a0_0 : Int) (a0_1 : Int) (a0_2 : List Int) (a0_3 : List SIILIIIJ) (a0_4 : Int) (a0_5 : List SIILIIJLIIIJI) (a0_6 : List SIIIBI) (a0_7 : List SIIII) (a0_8 : List Int) (a0_9 : List Int) (a0_10 : Int) (a1 : Int) : Option (Int) :=
  (laws_heldFloor n a0_0 a0_1 a0_2 a1).bind fun (x1 : Int) =>
  bif (decide (x1 < 0)) then
    some (-1)
  else
    (laws_heldStock n a0_3 x1).bind fun (x2 : Int) =>
    bif (decide (x2 < 0)) then
      some (-1)
    else
      (laws_heldBook n a0_4 a0_5 x2).bind fun (x3 : Int) =>
      bif (decide (x3 < 0)) then
        some (-1)
      else
        (laws_heldRobotS n a0_6 x3).bind fun (x4 : Int) =>
        bif (decide (x4 < 0)) then
          some (-1)
        else
          (laws_heldTaskS n a0_7 x4).bind fun (x5 : Int) =>
          bif (decide (x5 < 0)) then
            some (-1)
          else
            (laws_heldIntS n a0_8 x5).bind fun (x6 : Int) =>
            bif (decide (x6 < 0)) then
              some (-1)
            else
              (laws_heldIntS n a0_9 x6).bind fun (x7 : Int) =>
              bif (decide (x7 < 0)) then
                some (-1)
              else
                some x7

def laws_FnExactDepotNew (n : Nat) (a0_0 : Int) (a0_1 : Int) (a0_2 : List Int) (a1 : List SIILIIIJ) : Option (Bool) :=
  (laws_szFloor a0_0 a0_1 a0_2 1048576).bind fun (x1 : Int) =>
  bif (decide (x1 < 0)) then
    some true
  else
    (laws_szStock n a1 x1).bind fun (x2 : Int) =>
    bif (decide (x2 < 0)) then
      some true
    else
      (laws_toFloor n a0_0 a0_1 a0_2).bind fun (x3 : SIILIJ) =>
      (laws_toStock n a1).bind fun (x4 : (List SIILIIIJ)) =>
      (spec_DepotNew n x3.1 x3.2.1 x3.2.2 x4).bind fun (x5 : Int × Int × (List Int) × (List SIILIIIJ) × Int × (List SIILIIJLIIIJI) × (List SIIIBI) × (List SIIII) × (List Int) × (List Int) × Int × Bool) =>
      (laws_toFloor n a0_0 a0_1 a0_2).bind fun (x6 : SIILIJ) =>
      (laws_toStock n a1).bind fun (x7 : (List SIILIIIJ)) =>
      (impl_DepotNew n x6.1 x6.2.1 x6.2.2 x7).bind fun (x8 : Int × Int × (List Int) × (List SIILIIIJ) × Int × (List SIILIIJLIIIJI) × (List SIIIBI) × (List SIIII) × (List Int) × (List Int) × Int × Bool) =>
      (show Option (Bool) from
        (laws_eqDepot n x8.1 x8.2.1 x8.2.2.1 x8.2.2.2.1 x8.2.2.2.2.1 x8.2.2.2.2.2.1 x8.2.2.2.2.2.2.1 x8.2.2.2.2.2.2.2.1 x8.2.2.2.2.2.2.2.2.1 x8.2.2.2.2.2.2.2.2.2.1 x8.2.2.2.2.2.2.2.2.2.2.1 x5.1 x5.2.1 x5.2.2.1 x5.2.2.2.1 x5.2.2.2.2.1 x5.2.2.2.2.2.1 x5.2.2.2.2.2.2.1 x5.2.2.2.2.2.2.2.1 x5.2.2.2.2.2.2.2.2.1 x5.2.2.2.2.2.2.2.2.2.1 x5.2.2.2.2.2.2.2.2.2.2.1).bind fun (x9 : Bool) =>
        bif (!x9) then
          some true
        else
          some (x8.2.2.2.2.2.2.2.2.2.2.2 != x5.2.2.2.2.2.2.2.2.2.2.2)).bind fun (x10 : Bool) =>
      bif x10 then
        some false
      else
        (laws_toFloor n a0_0 a0_1 a0_2).bind fun (x11 : SIILIJ) =>
        (laws_eqFloor n x6.1 x6.2.1 x6.2.2 x11.1 x11.2.1 x11.2.2).bind fun (x12 : Bool) =>
        bif (!x12) then
          some false
        else
          (laws_toStock n a1).bind fun (x13 : (List SIILIIIJ)) =>
          (laws_eqStock n x7 x13).bind fun (x14 : Bool) =>
          bif (!x14) then
            some false
          else
            (laws_markFloor n x6.1 x6.2.1 x6.2.2 1).bind fun (x15 : Int × Int × Int × (List Int)) =>
            (laws_markStock n x7 x15.1).bind fun (x16 : Int × (List SIILIIIJ)) =>
            (show Option (Bool) from
              bif (decide (x16.1 < 0)) then
                some true
              else
                (laws_eqDepot n x8.1 x8.2.1 x8.2.2.1 x8.2.2.2.1 x8.2.2.2.2.1 x8.2.2.2.2.2.1 x8.2.2.2.2.2.2.1 x8.2.2.2.2.2.2.2.1 x8.2.2.2.2.2.2.2.2.1 x8.2.2.2.2.2.2.2.2.2.1 x8.2.2.2.2.2.2.2.2.2.2.1 x5.1 x5.2.1 x5.2.2.1 x5.2.2.2.1 x5.2.2.2.2.1 x5.2.2.2.2.2.1 x5.2.2.2.2.2.2.1 x5.2.2.2.2.2.2.2.1 x5.2.2.2.2.2.2.2.2.1 x5.2.2.2.2.2.2.2.2.2.1 x5.2.2.2.2.2.2.2.2.2.2.1).bind fun (x17 : Bool) =>
                bif (!x17) then
                  some true
                else
                  some (x8.2.2.2.2.2.2.2.2.2.2.2 != x5.2.2.2.2.2.2.2.2.2.2.2)).bind fun (x18 : Bool) =>
            bif x18 then
              some false
            else
              (laws_markDepot n x8.1 x8.2.1 x8.2.2.1 x8.2.2.2.1 x8.2.2.2.2.1 x8.2.2.2.2.2.1 x8.2.2.2.2.2.2.1 x8.2.2.2.2.2.2.2.1 x8.2.2.2.2.2.2.2.2.1 x8.2.2.2.2.2.2.2.2.2.1 x8.2.2.2.2.2.2.2.2.2.2.1 1).bind fun (x19 : Int × Int × Int × (List Int) × (List SIILIIIJ) × Int × (List SIILIIJLIIIJI) × (List SIIIBI) × (List SIIII) × (List Int) × (List Int) × Int) =>
              (laws_heldDepot n x8.1 x8.2.1 x19.2.2.2.1 x19.2.2.2.2.1 x8.2.2.2.2.1 x19.2.2.2.2.2.2.1 x19.2.2.2.2.2.2.2.1 x19.2.2.2.2.2.2.2.2.1 x19.2.2.2.2.2.2.2.2.2.1 x19.2.2.2.2.2.2.2.2.2.2.1 x8.2.2.2.2.2.2.2.2.2.2.1 1).bind fun (x20 : Int) =>
              bif (decide (x20 < 0)) then
                some false
              else
                bif (x20 != x19.1) then
                  some false
                else
                  (laws_toFloor n a0_0 a0_1 a0_2).bind fun (x21 : SIILIJ) =>
                  (laws_toStock n a1).bind fun (x22 : (List SIILIIIJ)) =>
                  (impl_DepotNew n x21.1 x21.2.1 x21.2.2 x22).bind fun (x23 : Int × Int × (List Int) × (List SIILIIIJ) × Int × (List SIILIIJLIIIJI) × (List SIIIBI) × (List SIIII) × (List Int) × (List Int) × Int × Bool) =>
                  (show Option (Bool) from
                    (laws_eqDepot n x23.1 x23.2.1 x23.2.2.1 x23.2.2.2.1 x23.2.2.2.2.1 x23.2.2.2.2.2.1 x23.2.2.2.2.2.2.1 x23.2.2.2.2.2.2.2.1 x23.2.2.2.2.2.2.2.2.1 x23.2.2.2.2.2.2.2.2.2.1 x23.2.2.2.2.2.2.2.2.2.2.1 x5.1 x5.2.1 x5.2.2.1 x5.2.2.2.1 x5.2.2.2.2.1 x5.2.2.2.2.2.1 x5.2.2.2.2.2.2.1 x5.2.2.2.2.2.2.2.1 x5.2.2.2.2.2.2.2.2.1 x5.2.2.2.2.2.2.2.2.2.1 x5.2.2.2.2.2.2.2.2.2.2.1).bind fun (x24 : Bool) =>
                    bif (!x24) then
                      some true
                    else
                      some (x23.2.2.2.2.2.2.2.2.2.2.2 != x5.2.2.2.2.2.2.2.2.2.2.2)).bind fun (x25 : Bool) =>
                  bif x25 then
                    some false
                  else
                    (laws_heldDepot n x8.1 x8.2.1 x19.2.2.2.1 x19.2.2.2.2.1 x8.2.2.2.2.1 x19.2.2.2.2.2.2.1 x19.2.2.2.2.2.2.2.1 x19.2.2.2.2.2.2.2.2.1 x19.2.2.2.2.2.2.2.2.2.1 x19.2.2.2.2.2.2.2.2.2.2.1 x8.2.2.2.2.2.2.2.2.2.2.1 1).bind fun (x26 : Int) =>
                    bif (decide (x26 < 0)) then
                      some false
                    else
                      bif (x26 != x19.1) then
                        some false
                      else
                        some true

end Go.Ev.N
