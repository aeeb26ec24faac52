/- The native forms of the functions, as gen.py prints them. Conditions: none. -/
import Derived.Test.YtcilnijdhaidjaaLib3
namespace Go.Ev.N
open Go Go.Ev
set_option linter.unusedVariables false

def w64 (n : Int) : Int := IntKind.wrap .i64 n

abbrev STI := (List UInt8) × Int

abbrev SII := Int × Int

abbrev SIII := Int × Int × Int

abbrev SBII := Bool × Int × Int

abbrev SIIBI := Int × Int × Bool × Int

abbrev SIIII := Int × Int × Int × Int

abbrev SIIIBI := Int × Int × Int × Bool × Int

abbrev SIILIJ := Int × Int × (List Int)

abbrev SIILIIIJ := Int × Int × (List SIII)

abbrev SIILIIJLIIIJI := Int × Int × (List SII) × (List SIII) × Int

abbrev SLIJIBIIILIJLBIIJ := (List Int) × Int × Bool × Int × Int × Int × (List Int) × (List SBII)

abbrev SILIILIIJLIIIJIJ := Int × (List SIILIIJLIIIJI)

abbrev SIILIJLIILIIIJJILIILIIJLIIIJIJLIIIBIJLIIIIJLIJLIJI := Int × Int × (List Int) × (List SIILIIIJ) × Int × (List SIILIIJLIIIJI) × (List SIIIBI) × (List SIIII) × (List Int) × (List Int) × Int

def laws_szIntS (a0 : List Int) (a1 : Int) : Option (Int) :=
  bif (decide ((w64 (a1 - ((List.length a0 : Int)))) < 0)) then
    some (-1)
  else
    some (w64 (a1 - ((List.length a0 : Int))))

def laws_szFloor (a0_0 : Int) (a0_1 : Int) (a0_2 : List Int) (a1 : Int) : Option (Int) :=
  (laws_szIntS a0_2 a1).bind fun (x1 : Int) =>
  bif (decide (x1 < 0)) then
    some (-1)
  else
    some x1

def laws_szStackS (a0 : List SIII) (a1 : Int) : Option (Int) :=
  bif (decide ((w64 (a1 - ((List.length a0 : Int)))) < 0)) then
    some (-1)
  else
    some (w64 (a1 - ((List.length a0 : Int))))

def laws_szPod (a0_0 : Int) (a0_1 : Int) (a0_2 : List SIII) (a1 : Int) : Option (Int) :=
  (laws_szStackS a0_2 a1).bind fun (x1 : Int) =>
  bif (decide (x1 < 0)) then
    some (-1)
  else
    some x1

def laws_szPodS_L1 (a0 : List SIILIIIJ) (x1 : SII) : Option ((SII) ⊕ ((SII) ⊕ (Int))) :=
  bif (decide (x1.2 < ((List.length a0 : Int)))) then
    ((getI a0 x1.2)).bind fun (x2 : SIILIIIJ) =>
    (laws_szPod x2.1 x2.2.1 x2.2.2 x1.1).bind fun (x3 : Int) =>
    bif (decide (x3 < 0)) then
      some (.inr (.inr (-1)))
    else
      some (.inl (x3, (w64 (x1.2 + 1))))
  else
    some (.inr (.inl (x1.1, x1.2)))

def laws_szPodS (n : Nat) (a0 : List SIILIIIJ) (a1 : Int) : Option (Int) :=
  bif (decide ((w64 (a1 - ((List.length a0 : Int)))) < 0)) then
    some (-1)
  else
    (iter n (laws_szPodS_L1 a0) ((w64 (a1 - ((List.length a0 : Int)))), 0)).bind fun (x4 : (SII) ⊕ (Int)) =>
    (match x4 with
    | .inl x5 => (
      some x5.1)
    | .inr x6 => (
      some x6))

def laws_szStock (n : Nat) (a0 : List SIILIIIJ) (a1 : Int) : Option (Int) :=
  (laws_szPodS n a0 a1).bind fun (x1 : Int) =>
  bif (decide (x1 < 0)) then
    some (-1)
  else
    some x1

def laws_szItemS (a0 : List SII) (a1 : Int) : Option (Int) :=
  bif (decide ((w64 (a1 - ((List.length a0 : Int)))) < 0)) then
    some (-1)
  else
    some (w64 (a1 - ((List.length a0 : Int))))

def laws_szPickS (a0 : List SIII) (a1 : Int) : Option (Int) :=
  bif (decide ((w64 (a1 - ((List.length a0 : Int)))) < 0)) then
    some (-1)
  else
    some (w64 (a1 - ((List.length a0 : Int))))

def laws_szOrder (a0_0 : Int) (a0_1 : Int) (a0_2 : List SII) (a0_3 : List SIII) (a0_4 : Int) (a1 : Int) : Option (Int) :=
  (laws_szItemS a0_2 a1).bind fun (x1 : Int) =>
  bif (decide (x1 < 0)) then
    some (-1)
  else
    (laws_szPickS a0_3 x1).bind fun (x2 : Int) =>
    bif (decide (x2 < 0)) then
      some (-1)
    else
      some x2

def laws_szOrderS_L1 (a0 : List SIILIIJLIIIJI) (x1 : SII) : Option ((SII) ⊕ ((SII) ⊕ (Int))) :=
  bif (decide (x1.2 < ((List.length a0 : Int)))) then
    ((getI a0 x1.2)).bind fun (x2 : SIILIIJLIIIJI) =>
    (laws_szOrder x2.1 x2.2.1 x2.2.2.1 x2.2.2.2.1 x2.2.2.2.2 x1.1).bind fun (x3 : Int) =>
    bif (decide (x3 < 0)) then
      some (.inr (.inr (-1)))
    else
      some (.inl (x3, (w64 (x1.2 + 1))))
  else
    some (.inr (.inl (x1.1, x1.2)))

def laws_szOrderS (n : Nat) (a0 : List SIILIIJLIIIJI) (a1 : Int) : Option (Int) :=
  bif (decide ((w64 (a1 - ((List.length a0 : Int)))) < 0)) then
    some (-1)
  else
    (iter n (laws_szOrderS_L1 a0) ((w64 (a1 - ((List.length a0 : Int)))), 0)).bind fun (x4 : (SII) ⊕ (Int)) =>
    (match x4 with
    | .inl x5 => (
      some x5.1)
    | .inr x6 => (
      some x6))

def laws_szBook (n : Nat) (a0_0 : Int) (a0_1 : List SIILIIJLIIIJI) (a1 : Int) : Option (Int) :=
  (laws_szOrderS n a0_1 a1).bind fun (x1 : Int) =>
  bif (decide (x1 < 0)) then
    some (-1)
  else
    some x1

def laws_szRobotS (a0 : List SIIIBI) (a1 : Int) : Option (Int) :=
  bif (decide ((w64 (a1 - ((List.length a0 : Int)))) < 0)) then
    some (-1)
  else
    some (w64 (a1 - ((List.length a0 : Int))))

def laws_szTaskS (a0 : List SIIII) (a1 : Int) : Option (Int) :=
  bif (decide ((w64 (a1 - ((List.length a0 : Int)))) < 0)) then
    some (-1)
  else
    some (w64 (a1 - ((List.length a0 : Int))))

def laws_szDepot (n : Nat) (a0_0 : Int) (a0_1 : Int) (a0_2 : List Int) (a0_3 : List SIILIIIJ) (a0_4 : Int) (a0_5 : List SIILIIJLIIIJI) (a0_6 : List SIIIBI) (a0_7 : List SIIII) (a0_8 : List Int) (a0_9 : List Int) (a0_10 : Int) (a1 : Int) : Option (Int) :=
  (laws_szFloor a0_0 a0_1 a0_2 a1).bind fun (x1 : Int) =>
  bif (decide (x1 < 0)) then
    some (-1)
  else
    (laws_szStock n a0_3 x1).bind fun (x2 : Int) =>
    bif (decide (x2 < 0)) then
      some (-1)
    else
      (laws_szBook n a0_4 a0_5 x2).bind fun (x3 : Int) =>
      bif (decide (x3 < 0)) then
        some (-1)
      else
        (laws_szRobotS a0_6 x3).bind fun (x4 : Int) =>
        bif (decide (x4 < 0)) then
          some (-1)
        else
          (laws_szTaskS a0_7 x4).bind fun (x5 : Int) =>
          bif (decide (x5 < 0)) then
            some (-1)
          else
            (laws_szIntS a0_8 x5).bind fun (x6 : Int) =>
            bif (decide (x6 < 0)) then
              some (-1)
            else
              (laws_szIntS a0_9 x6).bind fun (x7 : Int) =>
              bif (decide (x7 < 0)) then
                some (-1)
              else
                some x7

def laws_toIntS_L1 (a0 : List Int) (x1 : Int × (List Int)) : Option ((Int × (List Int)) ⊕ (Int × (List Int))) :=
  bif (decide (x1.1 < ((List.length a0 : Int)))) then
    ((getI a0 x1.1)).bind fun (x2 : Int) =>
    bif (inb x1.2 x1.1) then
      some (.inl ((w64 (x1.1 + 1)), (upd x1.2 (Int.toNat x1.1) x2)))
    else
      none
  else
    some (.inr (x1.1, x1.2))

def laws_toIntS (n : Nat) (a0 : List Int) : Option ((List Int)) :=
  bif (decide (0 ≤ ((List.length a0 : Int))) && decide (((List.length a0 : Int)) ≤ (maxRow : Int)) && decide (((List.length a0 : Int)) = ((List.length a0 : Int)))) then
    (iter n (laws_toIntS_L1 a0) (0, (List.replicate (Int.toNat ((List.length a0 : Int))) (0 : Int)))).bind fun (x3 : Int × (List Int)) =>
    some x3.2
  else
    none

def laws_toFloor (n : Nat) (a0_0 : Int) (a0_1 : Int) (a0_2 : List Int) : Option (SIILIJ) :=
  (laws_toIntS n a0_2).bind fun (x1 : (List Int)) =>
  some (a0_0, a0_1, x1)

def laws_toStack (a0_0 : Int) (a0_1 : Int) (a0_2 : Int) : Option (SIII) :=
  some (a0_0, a0_1, a0_2)

def laws_toStackS_L1 (a0 : List SIII) (x1 : Int × (List SIII)) : Option ((Int × (List SIII)) ⊕ (Int × (List SIII))) :=
  bif (decide (x1.1 < ((List.length a0 : Int)))) then
    ((getI a0 x1.1)).bind fun (x2 : SIII) =>
    (laws_toStack x2.1 x2.2.1 x2.2.2).bind fun (x3 : SIII) =>
    bif (inb x1.2 x1.1) then
      some (.inl ((w64 (x1.1 + 1)), (upd x1.2 (Int.toNat x1.1) (x3.1, x3.2.1, x3.2.2))))
    else
      none
  else
    some (.inr (x1.1, x1.2))

def laws_toStackS (n : Nat) (a0 : List SIII) : Option ((List SIII)) :=
  bif (decide (0 ≤ ((List.length a0 : Int))) && decide (((List.length a0 : Int)) ≤ (maxRow : Int)) && decide (((List.length a0 : Int)) = ((List.length a0 : Int)))) then
    (iter n (laws_toStackS_L1 a0) (0, (List.replicate (Int.toNat ((List.length a0 : Int))) ((0, 0, 0) : SIII)))).bind fun (x4 : Int × (List SIII)) =>
    some x4.2
  else
    none

def laws_toPod (n : Nat) (a0_0 : Int) (a0_1 : Int) (a0_2 : List SIII) : Option (SIILIIIJ) :=
  (laws_toStackS n a0_2).bind fun (x1 : (List SIII)) =>
  some (a0_0, a0_1, x1)

def laws_toPodS_L1 (n : Nat) (a0 : List SIILIIIJ) (x1 : Int × (List SIILIIIJ)) : Option ((Int × (List SIILIIIJ)) ⊕ (Int × (List SIILIIIJ))) :=
  bif (decide (x1.1 < ((List.length a0 : Int)))) then
    ((getI a0 x1.1)).bind fun (x2 : SIILIIIJ) =>
    (laws_toPod n x2.1 x2.2.1 x2.2.2).bind fun (x3 : SIILIIIJ) =>
    bif (inb x1.2 x1.1) then
      some (.inl ((w64 (x1.1 + 1)), (upd x1.2 (Int.toNat x1.1) (x3.1, x3.2.1, x3.2.2))))
    else
      none
  else
    some (.inr (x1.1, x1.2))

def laws_toPodS (n : Nat) (a0 : List SIILIIIJ) : Option ((List SIILIIIJ)) :=
  bif (decide (0 ≤ ((List.length a0 : Int))) && decide (((List.length a0 : Int)) ≤ (maxRow : Int)) && decide (((List.length a0 : Int)) = ((List.length a0 : Int)))) then
    (iter n (laws_toPodS_L1 n a0) (0, (List.replicate (Int.toNat ((List.length a0 : Int))) ((0, 0, ([] : List SIII)) : SIILIIIJ)))).bind fun (x4 : Int × (List SIILIIIJ)) =>
    some x4.2
  else
    none

def laws_toStock (n : Nat) (a0 : List SIILIIIJ) : Option ((List SIILIIIJ)) :=
  (laws_toPodS n a0).bind fun (x1 : (List SIILIIIJ)) =>
  some x1

def laws_toItem (a0_0 : Int) (a0_1 : Int) : Option (SII) :=
  some (a0_0, a0_1)

def laws_toItemS_L1 (a0 : List SII) (x1 : Int × (List SII)) : Option ((Int × (List SII)) ⊕ (Int × (List SII))) :=
  bif (decide (x1.1 < ((List.length a0 : Int)))) then
    ((getI a0 x1.1)).bind fun (x2 : SII) =>
    (laws_toItem x2.1 x2.2).bind fun (x3 : SII) =>
    bif (inb x1.2 x1.1) then
      some (.inl ((w64 (x1.1 + 1)), (upd x1.2 (Int.toNat x1.1) (x3.1, x3.2))))
    else
      none
  else
    some (.inr (x1.1, x1.2))

def laws_toItemS (n : Nat) (a0 : List SII) : Option ((List SII)) :=
  bif (decide (0 ≤ ((List.length a0 : Int))) && decide (((List.length a0 : Int)) ≤ (maxRow : Int)) && decide (((List.length a0 : Int)) = ((List.length a0 : Int)))) then
    (iter n (laws_toItemS_L1 a0) (0, (List.replicate (Int.toNat ((List.length a0 : Int))) ((0, 0) : SII)))).bind fun (x4 : Int × (List SII)) =>
    some x4.2
  else
    none

def laws_toPick (a0_0 : Int) (a0_1 : Int) (a0_2 : Int) : Option (SIII) :=
  some (a0_0, a0_1, a0_2)

def laws_toPickS_L1 (a0 : List SIII) (x1 : Int × (List SIII)) : Option ((Int × (List SIII)) ⊕ (Int × (List SIII))) :=
  bif (decide (x1.1 < ((List.length a0 : Int)))) then
    ((getI a0 x1.1)).bind fun (x2 : SIII) =>
    (laws_toPick x2.1 x2.2.1 x2.2.2).bind fun (x3 : SIII) =>
    bif (inb x1.2 x1.1) then
      some (.inl ((w64 (x1.1 + 1)), (upd x1.2 (Int.toNat x1.1) (x3.1, x3.2.1, x3.2.2))))
    else
      none
  else
    some (.inr (x1.1, x1.2))

def laws_toPickS (n : Nat) (a0 : List SIII) : Option ((List SIII)) :=
  bif (decide (0 ≤ ((List.length a0 : Int))) && decide (((List.length a0 : Int)) ≤ (maxRow : Int)) && decide (((List.length a0 : Int)) = ((List.length a0 : Int)))) then
    (iter n (laws_toPickS_L1 a0) (0, (List.replicate (Int.toNat ((List.length a0 : Int))) ((0, 0, 0) : SIII)))).bind fun (x4 : Int × (List SIII)) =>
    some x4.2
  else
    none

def laws_toOrder (n : Nat) (a0_0 : Int) (a0_1 : Int) (a0_2 : List SII) (a0_3 : List SIII) (a0_4 : Int) : Option (SIILIIJLIIIJI) :=
  (laws_toItemS n a0_2).bind fun (x1 : (List SII)) =>
  (laws_toPickS n a0_3).bind fun (x2 : (List SIII)) =>
  some (a0_0, a0_1, x1, x2, a0_4)

def laws_toOrderS_L1 (n : Nat) (a0 : List SIILIIJLIIIJI) (x1 : SILIILIIJLIIIJIJ) : Option ((SILIILIIJLIIIJIJ) ⊕ (SILIILIIJLIIIJIJ)) :=
  bif (decide (x1.1 < ((List.length a0 : Int)))) then
    ((getI a0 x1.1)).bind fun (x2 : SIILIIJLIIIJI) =>
    (laws_toOrder n x2.1 x2.2.1 x2.2.2.1 x2.2.2.2.1 x2.2.2.2.2).bind fun (x3 : SIILIIJLIIIJI) =>
    bif (inb x1.2 x1.1) then
      some (.inl ((w64 (x1.1 + 1)), (upd x1.2 (Int.toNat x1.1) (x3.1, x3.2.1, x3.2.2.1, x3.2.2.2.1, x3.2.2.2.2))))
    else
      none
  else
    some (.inr (x1.1, x1.2))

def laws_toOrderS (n : Nat) (a0 : List SIILIIJLIIIJI) : Option ((List SIILIIJLIIIJI)) :=
  bif (decide (0 ≤ ((List.length a0 : Int))) && decide (((List.length a0 : Int)) ≤ (maxRow : Int)) && decide (((List.length a0 : Int)) = ((List.length a0 : Int)))) then
    (iter n (laws_toOrderS_L1 n a0) (0, (List.replicate (Int.toNat ((List.length a0 : Int))) ((0, 0, ([] : List SII), ([] : List SIII), 0) : SIILIIJLIIIJI)))).bind fun (x4 : SILIILIIJLIIIJIJ) =>
    some x4.2
  else
    none

def laws_toBook (n : Nat) (a0_0 : Int) (a0_1 : List SIILIIJLIIIJI) : Option (SILIILIIJLIIIJIJ) :=
  (laws_toOrderS n a0_1).bind fun (x1 : (List SIILIIJLIIIJI)) =>
  some (a0_0, x1)

def laws_toRobot (a0_0 : Int) (a0_1 : Int) (a0_2 : Int) (a0_3 : Bool) (a0_4 : Int) : Option (SIIIBI) :=
  some (a0_0, a0_1, a0_2, a0_3, a0_4)

def laws_toRobotS_L1 (a0 : List SIIIBI) (x1 : Int × (List SIIIBI)) : Option ((Int × (List SIIIBI)) ⊕ (Int × (List SIIIBI))) :=
  bif (decide (x1.1 < ((List.length a0 : Int)))) then
    ((getI a0 x1.1)).bind fun (x2 : SIIIBI) =>
    (laws_toRobot x2.1 x2.2.1 x2.2.2.1 x2.2.2.2.1 x2.2.2.2.2).bind fun (x3 : SIIIBI) =>
    bif (inb x1.2 x1.1) then
      some (.inl ((w64 (x1.1 + 1)), (upd x1.2 (Int.toNat x1.1) (x3.1, x3.2.1, x3.2.2.1, x3.2.2.2.1, x3.2.2.2.2))))
    else
      none
  else
    some (.inr (x1.1, x1.2))

def laws_toRobotS (n : Nat) (a0 : List SIIIBI) : Option ((List SIIIBI)) :=
  bif (decide (0 ≤ ((List.length a0 : Int))) && decide (((List.length a0 : Int)) ≤ (maxRow : Int)) && decide (((List.length a0 : Int)) = ((List.length a0 : Int)))) then
    (iter n (laws_toRobotS_L1 a0) (0, (List.replicate (Int.toNat ((List.length a0 : Int))) ((0, 0, 0, false, 0) : SIIIBI)))).bind fun (x4 : Int × (List SIIIBI)) =>
    some x4.2
  else
    none

def laws_toTask (a0_0 : Int) (a0_1 : Int) (a0_2 : Int) (a0_3 : Int) : Option (SIIII) :=
  some (a0_0, a0_1, a0_2, a0_3)

def laws_toTaskS_L1 (a0 : List SIIII) (x1 : Int × (List SIIII)) : Option ((Int × (List SIIII)) ⊕ (Int × (List SIIII))) :=
  bif (decide (x1.1 < ((List.length a0 : Int)))) then
    ((getI a0 x1.1)).bind fun (x2 : SIIII) =>
    (laws_toTask x2.1 x2.2.1 x2.2.2.1 x2.2.2.2).bind fun (x3 : SIIII) =>
    bif (inb x1.2 x1.1) then
      some (.inl ((w64 (x1.1 + 1)), (upd x1.2 (Int.toNat x1.1) (x3.1, x3.2.1, x3.2.2.1, x3.2.2.2))))
    else
      none
  else
    some (.inr (x1.1, x1.2))

def laws_toTaskS (n : Nat) (a0 : List SIIII) : Option ((List SIIII)) :=
  bif (decide (0 ≤ ((List.length a0 : Int))) && decide (((List.length a0 : Int)) ≤ (maxRow : Int)) && decide (((List.length a0 : Int)) = ((List.length a0 : Int)))) then
    (iter n (laws_toTaskS_L1 a0) (0, (List.replicate (Int.toNat ((List.length a0 : Int))) ((0, 0, 0, 0) : SIIII)))).bind fun (x4 : Int × (List SIIII)) =>
    some x4.2
  else
    none

def laws_toDepot (n : Nat) (a0_0 : Int) (a0_1 : Int) (a0_2 : List Int) (a0_3 : List SIILIIIJ) (a0_4 : Int) (a0_5 : List SIILIIJLIIIJI) (a0_6 : List SIIIBI) (a0_7 : List SIIII) (a0_8 : List Int) (a0_9 : List Int) (a0_10 : Int) : Option (SIILIJLIILIIIJJILIILIIJLIIIJIJLIIIBIJLIIIIJLIJLIJI) :=
  (laws_toFloor n a0_0 a0_1 a0_2).bind fun (x1 : SIILIJ) =>
  (laws_toStock n a0_3).bind fun (x2 : (List SIILIIIJ)) =>
  (laws_toBook n a0_4 a0_5).bind fun (x3 : SILIILIIJLIIIJIJ) =>
  (laws_toRobotS n a0_6).bind fun (x4 : (List SIIIBI)) =>
  (laws_toTaskS n a0_7).bind fun (x5 : (List SIIII)) =>
  (laws_toIntS n a0_8).bind fun (x6 : (List Int)) =>
  (laws_toIntS n a0_9).bind fun (x7 : (List Int)) =>
  some (x1.1, x1.2.1, x1.2.2, x2, x3.1, x3.2, x4, x5, x6, x7, a0_10)

def spec_l1In (a0 : Int) (a1 : Int) (a2 : Int) : Option (Bool) :=
  (show Option (Bool) from
    bif (decide (a0 ≥ a1)) then
      some (decide (a0 ≤ a2))
    else
      some false).bind fun (x1 : Bool) =>
  some x1

def spec_l5Stacks_L1 (a0 : List SIII) (x1 : Int) : Option ((Int) ⊕ ((Int) ⊕ (Bool))) :=
  bif (decide (x1 < ((List.length a0 : Int)))) then
    (show Option (Bool) from
      ((getI a0 x1)).bind fun (x2 : SIII) =>
      (spec_l1In x2.1 1 50).bind fun (x3 : Bool) =>
      bif (!x3) then
        some true
      else
        ((getI a0 x1)).bind fun (x4 : SIII) =>
        (spec_l1In x4.2.1 1 1000).bind fun (x5 : Bool) =>
        bif (!x5) then
          some true
        else
          ((getI a0 x1)).bind fun (x6 : SIII) =>
          ((getI a0 x1)).bind fun (x7 : SIII) =>
          (spec_l1In x6.2.2 0 x7.2.1).bind fun (x8 : Bool) =>
          bif (!x8) then
            some true
          else
            bif (decide (x1 > 0)) then
              ((getI a0 (w64 (x1 - 1)))).bind fun (x9 : SIII) =>
              ((getI a0 x1)).bind fun (x10 : SIII) =>
              some (decide (x9.1 ≥ x10.1))
            else
              some false).bind fun (x11 : Bool) =>
    bif x11 then
      some (.inr (.inr false))
    else
      some (.inl (w64 (x1 + 1)))
  else
    some (.inr (.inl x1))

def spec_l5Stacks (n : Nat) (a0 : List SIII) : Option (Bool) :=
  (iter n (spec_l5Stacks_L1 a0) 0).bind fun (x12 : (Int) ⊕ (Bool)) =>
  (match x12 with
  | .inl x13 => (
    some (decide (((List.length a0 : Int)) ≤ 8)))
  | .inr x14 => (
    some x14))

def spec_StockOk_L2 (a0 : List SIILIIIJ) (x1 : Int) (x2 : SIILIIIJ) (x8 : Int) : Option ((Int) ⊕ ((Int) ⊕ (Bool))) :=
  bif (decide (x8 < x1)) then
    ((getI a0 x8)).bind fun (x9 : SIILIIIJ) =>
    bif (x9.2.1 == x2.2.1) then
      some (.inr (.inr false))
    else
      some (.inl (w64 (x8 + 1)))
  else
    some (.inr (.inl x8))

def spec_StockOk_L1 (n : Nat) (a0 : List SIILIIIJ) (x1 : Int) : Option ((Int) ⊕ ((Int) ⊕ (Bool))) :=
  bif (decide (x1 < ((List.length a0 : Int)))) then
    ((getI a0 x1)).bind fun (x2 : SIILIIIJ) =>
    (show Option (Bool) from
      (spec_l1In x2.1 1 999).bind fun (x3 : Bool) =>
      bif (!x3) then
        some true
      else
        (spec_l1In x2.2.1 0 99).bind fun (x4 : Bool) =>
        bif (!x4) then
          some true
        else
          (spec_l5Stacks n x2.2.2).bind fun (x5 : Bool) =>
          bif (!x5) then
            some true
          else
            bif (decide (x1 > 0)) then
              ((getI a0 (w64 (x1 - 1)))).bind fun (x6 : SIILIIIJ) =>
              some (decide (x6.1 ≥ x2.1))
            else
              some false).bind fun (x7 : Bool) =>
    bif x7 then
      some (.inr (.inr false))
    else
      (iter n (spec_StockOk_L2 a0 x1 x2) 0).bind fun (x10 : (Int) ⊕ (Bool)) =>
      (match x10 with
      | .inl x11 => (
        some (.inl (w64 (x1 + 1))))
      | .inr x12 => (
        some (.inr (.inr x12))))
  else
    some (.inr (.inl x1))

def spec_StockOk (n : Nat) (a0 : List SIILIIIJ) : Option (Bool) :=
  bif (decide (((List.length a0 : Int)) > 12)) then
    some false
  else
    (iter n (spec_StockOk_L1 n a0) 0).bind fun (x13 : (Int) ⊕ (Bool)) =>
    (match x13 with
    | .inl x14 => (
      some true)
    | .inr x15 => (
      some x15))

def spec_l5Stack_L1 (a0_2 : List SIII) (a1 : Int) (x1 : SIIII) : Option ((SIIII) ⊕ ((SIIII) ⊕ (SIII))) :=
  bif (decide (x1.1 < ((List.length a0_2 : Int)))) then
    ((getI a0_2 x1.1)).bind fun (x2 : SIII) =>
    bif (x2.1 == a1) then
      ((getI a0_2 x1.1)).bind fun (x3 : SIII) =>
      some (.inr (.inr (x3.1, x3.2.1, x3.2.2)))
    else
      some (.inl ((w64 (x1.1 + 1)), x1.2.1, x1.2.2.1, x1.2.2.2))
  else
    some (.inr (.inl (x1.1, x1.2.1, x1.2.2.1, x1.2.2.2)))

def spec_l5Stack (n : Nat) (a0_0 : Int) (a0_1 : Int) (a0_2 : List SIII) (a1 : Int) : Option (SIII) :=
  (iter n (spec_l5Stack_L1 a0_2 a1) (0, 0, 0, 0)).bind fun (x4 : (SIIII) ⊕ (SIII)) =>
  (match x4 with
  | .inl x5 => (
    some (a1, 0, 0))
  | .inr x6 => (
    some x6))

def spec_Count_L1 (n : Nat) (a0 : List SIILIIIJ) (a1 : Int) (x1 : SII) : Option ((SII) ⊕ (SII)) :=
  (show Option (Bool) from
    bif (decide (x1.2 < ((List.length a0 : Int)))) then
      (spec_StockOk n a0).bind fun (x2 : Bool) =>
      some x2
    else
      some false).bind fun (x3 : Bool) =>
  bif x3 then
    ((getI a0 x1.2)).bind fun (x4 : SIILIIIJ) =>
    (spec_l5Stack n x4.1 x4.2.1 x4.2.2 a1).bind fun (x5 : SIII) =>
    some (.inl ((w64 (x1.1 + x5.2.1)), (w64 (x1.2 + 1))))
  else
    some (.inr (x1.1, x1.2))

def spec_Count (n : Nat) (a0 : List SIILIIIJ) (a1 : Int) : Option (Int) :=
  (iter n (spec_Count_L1 n a0 a1) (0, 0)).bind fun (x6 : SII) =>
  some x6.1

def spec_Pieces_L1 (n : Nat) (a0_3 : List SIILIIIJ) (a0_8 : List Int) (a0_9 : List Int) (x1 : Int) : Option ((Int) ⊕ ((Int) ⊕ (Bool))) :=
  bif (decide (x1 ≤ 50)) then
    (show Option (Bool) from
      bif (decide (x1 ≥ ((List.length a0_8 : Int)))) then
        some true
      else
        bif (decide (x1 ≥ ((List.length a0_9 : Int)))) then
          some true
        else
          ((getI a0_9 x1)).bind fun (x2 : Int) =>
          (spec_l1In x2 0 1000000).bind fun (x3 : Bool) =>
          bif (!x3) then
            some true
          else
            (spec_Count n a0_3 x1).bind fun (x4 : Int) =>
            ((getI a0_9 x1)).bind fun (x5 : Int) =>
            ((getI a0_8 x1)).bind fun (x6 : Int) =>
            some ((w64 (x4 + x5)) != x6)).bind fun (x7 : Bool) =>
    bif x7 then
      some (.inr (.inr false))
    else
      some (.inl (w64 (x1 + 1)))
  else
    some (.inr (.inl x1))

def spec_Pieces (n : Nat) (a0_0 : Int) (a0_1 : Int) (a0_2 : List Int) (a0_3 : List SIILIIIJ) (a0_4 : Int) (a0_5 : List SIILIIJLIIIJI) (a0_6 : List SIIIBI) (a0_7 : List SIIII) (a0_8 : List Int) (a0_9 : List Int) (a0_10 : Int) : Option (Bool) :=
  (iter n (spec_Pieces_L1 n a0_3 a0_8 a0_9) 1).bind fun (x8 : (Int) ⊕ (Bool)) =>
  (match x8 with
  | .inl x9 => (
    some true)
  | .inr x10 => (
    some x10))

def impl_in (a0 : Int) (a1 : Int) (a2 : Int) : Option (Bool) :=
  (show Option (Bool) from
    bif (decide (a0 ≥ a1)) then
      some (decide (a0 ≤ a2))
    else
      some false).bind fun (x1 : Bool) =>
  some x1

def impl_podOk_L1 (a0_2 : List SIII) (x4 : Int) : Option ((Int) ⊕ ((Int) ⊕ (Bool))) :=
  bif (decide (x4 < ((List.length a0_2 : Int)))) then
    ((getI a0_2 x4)).bind fun (x5 : SIII) =>
    (show Option (Bool) from
      (impl_in x5.1 1 50).bind fun (x6 : Bool) =>
      bif (!x6) then
        some true
      else
        (impl_in x5.2.1 1 1000).bind fun (x7 : Bool) =>
        bif (!x7) then
          some true
        else
          (impl_in x5.2.2 0 x5.2.1).bind fun (x8 : Bool) =>
          bif (!x8) then
            some true
          else
            bif (decide (x4 > 0)) then
              ((getI a0_2 (w64 (x4 - 1)))).bind fun (x9 : SIII) =>
              some (decide (x9.1 ≥ x5.1))
            else
              some false).bind fun (x10 : Bool) =>
    bif x10 then
      some (.inr (.inr false))
    else
      some (.inl (w64 (x4 + 1)))
  else
    some (.inr (.inl x4))

def impl_podOk (n : Nat) (a0_0 : Int) (a0_1 : Int) (a0_2 : List SIII) : Option (Bool) :=
  (show Option (Bool) from
    (impl_in a0_0 1 999).bind fun (x1 : Bool) =>
    bif (!x1) then
      some true
    else
      (impl_in a0_1 0 99).bind fun (x2 : Bool) =>
      bif (!x2) then
        some true
      else
        some (decide (((List.length a0_2 : Int)) > 8))).bind fun (x3 : Bool) =>
  bif x3 then
    some false
  else
    (iter n (impl_podOk_L1 a0_2) 0).bind fun (x11 : (Int) ⊕ (Bool)) =>
    (match x11 with
    | .inl x12 => (
      some true)
    | .inr x13 => (
      some x13))

def impl_StockOk_L2 (a0 : List SIILIIIJ) (x1 : Int) (x2 : SIILIIIJ) (x6 : Int) : Option ((Int) ⊕ ((Int) ⊕ (Bool))) :=
  bif (decide (x6 < ((List.length (sub a0 (Int.toNat (0 : Int)) (Int.toNat x1)) : Int)))) then
    ((getI (sub a0 (Int.toNat (0 : Int)) (Int.toNat x1)) x6)).bind fun (x7 : SIILIIIJ) =>
    bif (x7.2.1 == x2.2.1) then
      some (.inr (.inr false))
    else
      some (.inl (w64 (x6 + 1)))
  else
    some (.inr (.inl x6))

def impl_StockOk_L1 (n : Nat) (a0 : List SIILIIIJ) (x1 : Int) : Option ((Int) ⊕ ((Int) ⊕ (Bool))) :=
  bif (decide (x1 < ((List.length a0 : Int)))) then
    ((getI a0 x1)).bind fun (x2 : SIILIIIJ) =>
    (show Option (Bool) from
      (impl_podOk n x2.1 x2.2.1 x2.2.2).bind fun (x3 : Bool) =>
      bif (!x3) then
        some true
      else
        bif (decide (x1 > 0)) then
          ((getI a0 (w64 (x1 - 1)))).bind fun (x4 : SIILIIIJ) =>
          some (decide (x4.1 ≥ x2.1))
        else
          some false).bind fun (x5 : Bool) =>
    bif x5 then
      some (.inr (.inr false))
    else
      bif (decide (0 ≤ (0 : Int)) && decide ((0 : Int) ≤ x1) && decide (x1 ≤ ((List.length a0 : Int)))) then
        (iter n (impl_StockOk_L2 a0 x1 x2) 0).bind fun (x8 : (Int) ⊕ (Bool)) =>
        (match x8 with
        | .inl x9 => (
          some (.inl (w64 (x1 + 1))))
        | .inr x10 => (
          some (.inr (.inr x10))))
      else
        none
  else
    some (.inr (.inl x1))

def impl_StockOk (n : Nat) (a0 : List SIILIIIJ) : Option (Bool) :=
  (iter n (impl_StockOk_L1 n a0) 0).bind fun (x11 : (Int) ⊕ (Bool)) =>
  (match x11 with
  | .inl x12 => (
    some (decide (((List.length a0 : Int)) ≤ 12)))
  | .inr x13 => (
    some x13))

def impl_stackAt_L1 (a0_2 : List SIII) (a1 : Int) (x1 : Int) : Option ((Int) ⊕ (Int)) :=
  (show Option (Bool) from
    bif (decide (x1 < ((List.length a0_2 : Int)))) then
      ((getI a0_2 x1)).bind fun (x2 : SIII) =>
      some (decide (x2.1 < a1))
    else
      some false).bind fun (x3 : Bool) =>
  bif x3 then
    some (.inl (w64 (x1 + 1)))
  else
    some (.inr x1)

def impl_stackAt (n : Nat) (a0_0 : Int) (a0_1 : Int) (a0_2 : List SIII) (a1 : Int) : Option (Int × Bool) :=
  (iter n (impl_stackAt_L1 a0_2 a1) 0).bind fun (x4 : Int) =>
  (show Option (Int × Bool) from
    bif (decide (x4 < ((List.length a0_2 : Int)))) then
      ((getI a0_2 x4)).bind fun (x5 : SIII) =>
      some (x4, (x5.1 == a1))
    else
      some (x4, false)).bind fun (x6 : Int × Bool) =>
  some (x6.1, x6.2)

def impl_Count_L1 (n : Nat) (a0 : List SIILIIIJ) (a1 : Int) (x2 : SII) : Option ((SII) ⊕ (SII)) :=
  bif (decide (x2.2 < ((List.length a0 : Int)))) then
    (show Option (Int) from
      ((getI a0 x2.2)).bind fun (x4 : SIILIIIJ) =>
      (impl_stackAt n x4.1 x4.2.1 x4.2.2 a1).bind fun (x5 : Int × Bool) =>
      bif x5.2 then
        ((getI x4.2.2 x5.1)).bind fun (x6 : SIII) =>
        some (w64 (x2.1 + x6.2.1))
      else
        some x2.1).bind fun (x3 : Int) =>
    some (.inl (x3, (w64 (x2.2 + 1))))
  else
    some (.inr (x2.1, x2.2))

def impl_Count (n : Nat) (a0 : List SIILIIIJ) (a1 : Int) : Option (Int) :=
  (impl_StockOk n a0).bind fun (x1 : Bool) =>
  bif (!x1) then
    some 0
  else
    (iter n (impl_Count_L1 n a0 a1) (0, 0)).bind fun (x7 : SII) =>
    some x7.1

def impl_Pieces_L1 (n : Nat) (a0_3 : List SIILIIIJ) (a0_8 : List Int) (a0_9 : List Int) (x1 : Int) : Option ((Int) ⊕ ((Int) ⊕ (Bool))) :=
  bif (decide (x1 ≤ 50)) then
    (show Option (Bool) from
      bif (decide (x1 ≥ ((List.length a0_8 : Int)))) then
        some true
      else
        bif (decide (x1 ≥ ((List.length a0_9 : Int)))) then
          some true
        else
          ((getI a0_9 x1)).bind fun (x2 : Int) =>
          (impl_in x2 0 1000000).bind fun (x3 : Bool) =>
          bif (!x3) then
            some true
          else
            (impl_Count n a0_3 x1).bind fun (x4 : Int) =>
            ((getI a0_9 x1)).bind fun (x5 : Int) =>
            ((getI a0_8 x1)).bind fun (x6 : Int) =>
            some ((w64 (x4 + x5)) != x6)).bind fun (x7 : Bool) =>
    bif x7 then
      some (.inr (.inr false))
    else
      some (.inl (w64 (x1 + 1)))
  else
    some (.inr (.inl x1))

def impl_Pieces (n : Nat) (a0_0 : Int) (a0_1 : Int) (a0_2 : List Int) (a0_3 : List SIILIIIJ) (a0_4 : Int) (a0_5 : List SIILIIJLIIIJI) (a0_6 : List SIIIBI) (a0_7 : List SIIII) (a0_8 : List Int) (a0_9 : List Int) (a0_10 : Int) : Option (Bool) :=
  (iter n (impl_Pieces_L1 n a0_3 a0_8 a0_9) 1).bind fun (x8 : (Int) ⊕ (Bool)) =>
  (match x8 with
  | .inl x9 => (
    some true)
  | .inr x10 => (
    some x10))

def laws_eqIntS_L1 (a0 : List Int) (a1 : List Int) (x1 : Int) : Option ((Int) ⊕ ((Int) ⊕ (Bool))) :=
  bif (decide (x1 < ((List.length a0 : Int)))) then
    ((getI a0 x1)).bind fun (x2 : Int) =>
    ((getI a1 x1)).bind fun (x3 : Int) =>
    bif (x2 != x3) then
      some (.inr (.inr false))
    else
      some (.inl (w64 (x1 + 1)))
  else
    some (.inr (.inl x1))

def laws_eqIntS (n : Nat) (a0 : List Int) (a1 : List Int) : Option (Bool) :=
  bif (((List.length a0 : Int)) != ((List.length a1 : Int))) then
    some false
  else
    (iter n (laws_eqIntS_L1 a0 a1) 0).bind fun (x4 : (Int) ⊕ (Bool)) =>
    (match x4 with
    | .inl x5 => (
      some true)
    | .inr x6 => (
      some x6))

def laws_eqFloor (n : Nat) (a0_0 : Int) (a0_1 : Int) (a0_2 : List Int) (a1_0 : Int) (a1_1 : Int) (a1_2 : List Int) : Option (Bool) :=
  bif (a0_0 != a1_0) then
    some false
  else
    bif (a0_1 != a1_1) then
      some false
    else
      (laws_eqIntS n a0_2 a1_2).bind fun (x1 : Bool) =>
      bif (!x1) then
        some false
      else
        some true

def laws_eqStack (a0_0 : Int) (a0_1 : Int) (a0_2 : Int) (a1_0 : Int) (a1_1 : Int) (a1_2 : Int) : Option (Bool) :=
  bif (a0_0 != a1_0) then
    some false
  else
    bif (a0_1 != a1_1) then
      some false
    else
      bif (a0_2 != a1_2) then
        some false
      else
        some true

def laws_eqStackS_L1 (a0 : List SIII) (a1 : List SIII) (x1 : Int) : Option ((Int) ⊕ ((Int) ⊕ (Bool))) :=
  bif (decide (x1 < ((List.length a0 : Int)))) then
    ((getI a0 x1)).bind fun (x2 : SIII) =>
    ((getI a1 x1)).bind fun (x3 : SIII) =>
    (laws_eqStack x2.1 x2.2.1 x2.2.2 x3.1 x3.2.1 x3.2.2).bind fun (x4 : Bool) =>
    bif (!x4) then
      some (.inr (.inr false))
    else
      some (.inl (w64 (x1 + 1)))
  else
    some (.inr (.inl x1))

def laws_eqStackS (n : Nat) (a0 : List SIII) (a1 : List SIII) : Option (Bool) :=
  bif (((List.length a0 : Int)) != ((List.length a1 : Int))) then
    some false
  else
    (iter n (laws_eqStackS_L1 a0 a1) 0).bind fun (x5 : (Int) ⊕ (Bool)) =>
    (match x5 with
    | .inl x6 => (
      some true)
    | .inr x7 => (
      some x7))

def laws_eqPod (n : Nat) (a0_0 : Int) (a0_1 : Int) (a0_2 : List SIII) (a1_0 : Int) (a1_1 : Int) (a1_2 : List SIII) : Option (Bool) :=
  bif (a0_0 != a1_0) then
    some false
  else
    bif (a0_1 != a1_1) then
      some false
    else
      (laws_eqStackS n a0_2 a1_2).bind fun (x1 : Bool) =>
      bif (!x1) then
        some false
      else
        some true

def laws_eqPodS_L1 (n : Nat) (a0 : List SIILIIIJ) (a1 : List SIILIIIJ) (x1 : Int) : Option ((Int) ⊕ ((Int) ⊕ (Bool))) :=
  bif (decide (x1 < ((List.length a0 : Int)))) then
    ((getI a0 x1)).bind fun (x2 : SIILIIIJ) =>
    ((getI a1 x1)).bind fun (x3 : SIILIIIJ) =>
    (laws_eqPod n x2.1 x2.2.1 x2.2.2 x3.1 x3.2.1 x3.2.2).bind fun (x4 : Bool) =>
    bif (!x4) then
      some (.inr (.inr false))
    else
      some (.inl (w64 (x1 + 1)))
  else
    some (.inr (.inl x1))

def laws_eqPodS (n : Nat) (a0 : List SIILIIIJ) (a1 : List SIILIIIJ) : Option (Bool) :=
  bif (((List.length a0 : Int)) != ((List.length a1 : Int))) then
    some false
  else
    (iter n (laws_eqPodS_L1 n a0 a1) 0).bind fun (x5 : (Int) ⊕ (Bool)) =>
    (match x5 with
    | .inl x6 => (
      some true)
    | .inr x7 => (
      some x7))

def laws_eqStock (n : Nat) (a0 : List SIILIIIJ) (a1 : List SIILIIIJ) : Option (Bool) :=
  (laws_eqPodS n a0 a1).bind fun (x1 : Bool) =>
  bif (!x1) then
    some false
  else
    some true

def laws_eqItem (a0_0 : Int) (a0_1 : Int) (a1_0 : Int) (a1_1 : Int) : Option (Bool) :=
  bif (a0_0 != a1_0) then
    some false
  else
    bif (a0_1 != a1_1) then
      some false
    else
      some true

def laws_eqItemS_L1 (a0 : List SII) (a1 : List SII) (x1 : Int) : Option ((Int) ⊕ ((Int) ⊕ (Bool))) :=
  bif (decide (x1 < ((List.length a0 : Int)))) then
    ((getI a0 x1)).bind fun (x2 : SII) =>
    ((getI a1 x1)).bind fun (x3 : SII) =>
    (laws_eqItem x2.1 x2.2 x3.1 x3.2).bind fun (x4 : Bool) =>
    bif (!x4) then
      some (.inr (.inr false))
    else
      some (.inl (w64 (x1 + 1)))
  else
    some (.inr (.inl x1))

def laws_eqItemS (n : Nat) (a0 : List SII) (a1 : List SII) : Option (Bool) :=
  bif (((List.length a0 : Int)) != ((List.length a1 : Int))) then
    some false
  else
    (iter n (laws_eqItemS_L1 a0 a1) 0).bind fun (x5 : (Int) ⊕ (Bool)) =>
    (match x5 with
    | .inl x6 => (
      some true)
    | .inr x7 => (
      some x7))

def laws_eqPick (a0_0 : Int) (a0_1 : Int) (a0_2 : Int) (a1_0 : Int) (a1_1 : Int) (a1_2 : Int) : Option (Bool) :=
  bif (a0_0 != a1_0) then
    some false
  else
    bif (a0_1 != a1_1) then
      some false
    else
      bif (a0_2 != a1_2) then
        some false
      else
        some true

def laws_eqPickS_L1 (a0 : List SIII) (a1 : List SIII) (x1 : Int) : Option ((Int) ⊕ ((Int) ⊕ (Bool))) :=
  bif (decide (x1 < ((List.length a0 : Int)))) then
    ((getI a0 x1)).bind fun (x2 : SIII) =>
    ((getI a1 x1)).bind fun (x3 : SIII) =>
    (laws_eqPick x2.1 x2.2.1 x2.2.2 x3.1 x3.2.1 x3.2.2).bind fun (x4 : Bool) =>
    bif (!x4) then
      some (.inr (.inr false))
    else
      some (.inl (w64 (x1 + 1)))
  else
    some (.inr (.inl x1))

def laws_eqPickS (n : Nat) (a0 : List SIII) (a1 : List SIII) : Option (Bool) :=
  bif (((List.length a0 : Int)) != ((List.length a1 : Int))) then
    some false
  else
    (iter n (laws_eqPickS_L1 a0 a1) 0).bind fun (x5 : (Int) ⊕ (Bool)) =>
    (match x5 with
    | .inl x6 => (
      some true)
    | .inr x7 => (
      some x7))

def laws_eqOrder (n : Nat) (a0_0 : Int) (a0_1 : Int) (a0_2 : List SII) (a0_3 : List SIII) (a0_4 : Int) (a1_0 : Int) (a1_1 : Int) (a1_2 : List SII) (a1_3 : List SIII) (a1_4 : Int) : Option (Bool) :=
  bif (a0_0 != a1_0) then
    some false
  else
    bif (a0_1 != a1_1) then
      some false
    else
      (laws_eqItemS n a0_2 a1_2).bind fun (x1 : Bool) =>
      bif (!x1) then
        some false
      else
        (laws_eqPickS n a0_3 a1_3).bind fun (x2 : Bool) =>
        bif (!x2) then
          some false
        else
          bif (a0_4 != a1_4) then
            some false
          else
            some true

def laws_eqOrderS_L1 (n : Nat) (a0 : List SIILIIJLIIIJI) (a1 : List SIILIIJLIIIJI) (x1 : Int) : Option ((Int) ⊕ ((Int) ⊕ (Bool))) :=
  bif (decide (x1 < ((List.length a0 : Int)))) then
    ((getI a0 x1)).bind fun (x2 : SIILIIJLIIIJI) =>
    ((getI a1 x1)).bind fun (x3 : SIILIIJLIIIJI) =>
    (laws_eqOrder n x2.1 x2.2.1 x2.2.2.1 x2.2.2.2.1 x2.2.2.2.2 x3.1 x3.2.1 x3.2.2.1 x3.2.2.2.1 x3.2.2.2.2).bind fun (x4 : Bool) =>
    bif (!x4) then
      some (.inr (.inr false))
    else
      some (.inl (w64 (x1 + 1)))
  else
    some (.inr (.inl x1))

def laws_eqOrderS (n : Nat) (a0 : List SIILIIJLIIIJI) (a1 : List SIILIIJLIIIJI) : Option (Bool) :=
  bif (((List.length a0 : Int)) != ((List.length a1 : Int))) then
    some false
  else
    (iter n (laws_eqOrderS_L1 n a0 a1) 0).bind fun (x5 : (Int) ⊕ (Bool)) =>
    (match x5 with
    | .inl x6 => (
      some true)
    | .inr x7 => (
      some x7))

def laws_eqBook (n : Nat) (a0_0 : Int) (a0_1 : List SIILIIJLIIIJI) (a1_0 : Int) (a1_1 : List SIILIIJLIIIJI) : Option (Bool) :=
  bif (a0_0 != a1_0) then
    some false
  else
    (laws_eqOrderS n a0_1 a1_1).bind fun (x1 : Bool) =>
    bif (!x1) then
      some false
    else
      some true

def laws_eqRobot (a0_0 : Int) (a0_1 : Int) (a0_2 : Int) (a0_3 : Bool) (a0_4 : Int) (a1_0 : Int) (a1_1 : Int) (a1_2 : Int) (a1_3 : Bool) (a1_4 : Int) : Option (Bool) :=
  bif (a0_0 != a1_0) then
    some false
  else
    bif (a0_1 != a1_1) then
      some false
    else
      bif (a0_2 != a1_2) then
        some false
      else
        bif (a0_3 != a1_3) then
          some false
        else
          bif (a0_4 != a1_4) then
            some false
          else
            some true

def laws_eqRobotS_L1 (a0 : List SIIIBI) (a1 : List SIIIBI) (x1 : Int) : Option ((Int) ⊕ ((Int) ⊕ (Bool))) :=
  bif (decide (x1 < ((List.length a0 : Int)))) then
    ((getI a0 x1)).bind fun (x2 : SIIIBI) =>
    ((getI a1 x1)).bind fun (x3 : SIIIBI) =>
    (laws_eqRobot x2.1 x2.2.1 x2.2.2.1 x2.2.2.2.1 x2.2.2.2.2 x3.1 x3.2.1 x3.2.2.1 x3.2.2.2.1 x3.2.2.2.2).bind fun (x4 : Bool) =>
    bif (!x4) then
      some (.inr (.inr false))
    else
      some (.inl (w64 (x1 + 1)))
  else
    some (.inr (.inl x1))

def laws_eqRobotS (n : Nat) (a0 : List SIIIBI) (a1 : List SIIIBI) : Option (Bool) :=
  bif (((List.length a0 : Int)) != ((List.length a1 : Int))) then
    some false
  else
    (iter n (laws_eqRobotS_L1 a0 a1) 0).bind fun (x5 : (Int) ⊕ (Bool)) =>
    (match x5 with
    | .inl x6 => (
      some true)
    | .inr x7 => (
      some x7))

def laws_eqTask (a0_0 : Int) (a0_1 : Int) (a0_2 : Int) (a0_3 : Int) (a1_0 : Int) (a1_1 : Int) (a1_2 : Int) (a1_3 : Int) : Option (Bool) :=
  bif (a0_0 != a1_0) then
    some false
  else
    bif (a0_1 != a1_1) then
      some false
    else
      bif (a0_2 != a1_2) then
        some false
      else
        bif (a0_3 != a1_3) then
          some false
        else
          some true

def laws_eqTaskS_L1 (a0 : List SIIII) (a1 : List SIIII) (x1 : Int) : Option ((Int) ⊕ ((Int) ⊕ (Bool))) :=
  bif (decide (x1 < ((List.length a0 : Int)))) then
    ((getI a0 x1)).bind fun (x2 : SIIII) =>
    ((getI a1 x1)).bind fun (x3 : SIIII) =>
    (laws_eqTask x2.1 x2.2.1 x2.2.2.1 x2.2.2.2 x3.1 x3.2.1 x3.2.2.1 x3.2.2.2).bind fun (x4 : Bool) =>
    bif (!x4) then
      some (.inr (.inr false))
    else
      some (.inl (w64 (x1 + 1)))
  else
    some (.inr (.inl x1))

def laws_eqTaskS (n : Nat) (a0 : List SIIII) (a1 : List SIIII) : Option (Bool) :=
  bif (((List.length a0 : Int)) != ((List.length a1 : Int))) then
    some false
  else
    (iter n (laws_eqTaskS_L1 a0 a1) 0).bind fun (x5 : (Int) ⊕ (Bool)) =>
    (match x5 with
    | .inl x6 => (
      some true)
    | .inr x7 => (
      some x7))

def laws_eqDepot (n : Nat) (a0_0 : Int) (a0_1 : Int) (a0_2 : List Int) (a0_3 : List SIILIIIJ) (a0_4 : Int) (a0_5 : List SIILIIJLIIIJI) (a0_6 : List SIIIBI) (a0_7 : List SIIII) (a0_8 : List Int) (a0_9 : List Int) (a0_10 : Int) (a1_0 : Int) (a1_1 : Int) (a1_2 : List Int) (a1_3 : List SIILIIIJ) (a1_4 : Int) (a1_5 : List SIILIIJLIIIJI) (a1_6 : List SIIIBI) (a1_7 : List SIIII) (a1_8 : List Int) (a1_9 : List Int) (a1_10 : Int) : Option (Bool) :=
  (laws_eqFloor n a0_0 a0_1 a0_2 a1_0 a1_1 a1_2).bind fun (x1 : Bool) =>
  bif (!x1) then
    some false
  else
    (laws_eqStock n a0_3 a1_3).bind fun (x2 : Bool) =>
    bif (!x2) then
      some false
    else
      (laws_eqBook n a0_4 a0_5 a1_4 a1_5).bind fun (x3 : Bool) =>
      bif (!x3) then
        some false
      else
        (laws_eqRobotS n a0_6 a1_6).bind fun (x4 : Bool) =>
        bif (!x4) then
          some false
        else
          (laws_eqTaskS n a0_7 a1_7).bind fun (x5 : Bool) =>
          bif (!x5) then
            some false
          else
            (laws_eqIntS n a0_8 a1_8).bind fun (x6 : Bool) =>
            bif (!x6) then
              some false
            else
              (laws_eqIntS n a0_9 a1_9).bind fun (x7 : Bool) =>
              bif (!x7) then
                some false
              else
                bif (a0_10 != a1_10) then
                  some false
                else
                  some true

def laws_FnExactPieces (n : Nat) (a0_0 : Int) (a0_1 : Int) (a0_2 : List Int) (a0_3 : List SIILIIIJ) (a0_4 : Int) (a0_5 : List SIILIIJLIIIJI) (a0_6 : List SIIIBI) (a0_7 : List SIIII) (a0_8 : List Int) (a0_9 : List Int) (a0_10 : Int) : Option (Bool) :=
  (laws_szDepot n a0_0 a0_1 a0_2 a0_3 a0_4 a0_5 a0_6 a0_7 a0_8 a0_9 a0_10 1048576).bind fun (x1 : Int) =>
  bif (decide (x1 < 0)) then
    some true
  else
    (laws_toDepot n a0_0 a0_1 a0_2 a0_3 a0_4 a0_5 a0_6 a0_7 a0_8 a0_9 a0_10).bind fun (x2 : SIILIJLIILIIIJJILIILIIJLIIIJIJLIIIBIJLIIIIJLIJLIJI) =>
    (spec_Pieces n x2.1 x2.2.1 x2.2.2.1 x2.2.2.2.1 x2.2.2.2.2.1 x2.2.2.2.2.2.1 x2.2.2.2.2.2.2.1 x2.2.2.2.2.2.2.2.1 x2.2.2.2.2.2.2.2.2.1 x2.2.2.2.2.2.2.2.2.2.1 x2.2.2.2.2.2.2.2.2.2.2).bind fun (x3 : Bool) =>
    (laws_toDepot n a0_0 a0_1 a0_2 a0_3 a0_4 a0_5 a0_6 a0_7 a0_8 a0_9 a0_10).bind fun (x4 : SIILIJLIILIIIJJILIILIIJLIIIJIJLIIIBIJLIIIIJLIJLIJI) =>
    (impl_Pieces n x4.1 x4.2.1 x4.2.2.1 x4.2.2.2.1 x4.2.2.2.2.1 x4.2.2.2.2.2.1 x4.2.2.2.2.2.2.1 x4.2.2.2.2.2.2.2.1 x4.2.2.2.2.2.2.2.2.1 x4.2.2.2.2.2.2.2.2.2.1 x4.2.2.2.2.2.2.2.2.2.2).bind fun (x5 : Bool) =>
    bif (x5 != x3) then
      some false
    else
      (laws_toDepot n a0_0 a0_1 a0_2 a0_3 a0_4 a0_5 a0_6 a0_7 a0_8 a0_9 a0_10).bind fun (x6 : SIILIJLIILIIIJJILIILIIJLIIIJIJLIIIBIJLIIIIJLIJLIJI) =>
      (laws_eqDepot n x4.1 x4.2.1 x4.2.2.1 x4.2.2.2.1 x4.2.2.2.2.1 x4.2.2.2.2.2.1 x4.2.2.2.2.2.2.1 x4.2.2.2.2.2.2.2.1 x4.2.2.2.2.2.2.2.2.1 x4.2.2.2.2.2.2.2.2.2.1 x4.2.2.2.2.2.2.2.2.2.2 x6.1 x6.2.1 x6.2.2.1 x6.2.2.2.1 x6.2.2.2.2.1 x6.2.2.2.2.2.1 x6.2.2.2.2.2.2.1 x6.2.2.2.2.2.2.2.1 x6.2.2.2.2.2.2.2.2.1 x6.2.2.2.2.2.2.2.2.2.1 x6.2.2.2.2.2.2.2.2.2.2).bind fun (x7 : Bool) =>
      bif (!x7) then
        some false
      else
        some true

end Go.Ev.N
