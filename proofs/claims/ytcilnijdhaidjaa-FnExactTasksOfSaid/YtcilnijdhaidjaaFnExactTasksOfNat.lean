/- The native forms of the functions, as gen.py prints them. Conditions: none. -/
import Derived.Test.YtcilnijdhaidjaaLib3
namespace Go.Ev.N
open Go Go.Ev
set_option linter.unusedVariables false

def w64 (n : Int) : Int := IntKind.wrap .i64 n

abbrev STI := (List UInt8) × Int

abbrev SII := Int × Int

abbrev SIII := Int × Int × Int

abbrev SBII := Bool × Int × Int

abbrev SIIBI := Int × Int × Bool × Int

abbrev SIIII := Int × Int × Int × Int

abbrev SIIIBI := Int × Int × Int × Bool × Int

abbrev SIILIJ := Int × Int × (List Int)

abbrev SIILIIIJ := Int × Int × (List SIII)

abbrev SIILIIJLIIIJI := Int × Int × (List SII) × (List SIII) × Int

abbrev SLIJIBIIILIJLBIIJ := (List Int) × Int × Bool × Int × Int × Int × (List Int) × (List SBII)

abbrev SILIILIIJLIIIJIJ := Int × (List SIILIIJLIIIJI)

abbrev SIILIJLIILIIIJJILIILIIJLIIIJIJLIIIBIJLIIIIJLIJLIJI := Int × Int × (List Int) × (List SIILIIIJ) × Int × (List SIILIIJLIIIJI) × (List SIIIBI) × (List SIIII) × (List Int) × (List Int) × Int

def laws_szItemS (a0 : List SII) (a1 : Int) : Option (Int) :=
  bif (decide ((w64 (a1 - ((List.length a0 : Int)))) < 0)) then
    some (-1)
  else
    some (w64 (a1 - ((List.length a0 : Int))))

def laws_szPickS (a0 : List SIII) (a1 : Int) : Option (Int) :=
  bif (decide ((w64 (a1 - ((List.length a0 : Int)))) < 0)) then
    some (-1)
  else
    some (w64 (a1 - ((List.length a0 : Int))))

def laws_szOrder (a0_0 : Int) (a0_1 : Int) (a0_2 : List SII) (a0_3 : List SIII) (a0_4 : Int) (a1 : Int) : Option (Int) :=
  (laws_szItemS a0_2 a1).bind fun (x1 : Int) =>
  bif (decide (x1 < 0)) then
    some (-1)
  else
    (laws_szPickS a0_3 x1).bind fun (x2 : Int) =>
    bif (decide (x2 < 0)) then
      some (-1)
    else
      some x2

def laws_toItem (a0_0 : Int) (a0_1 : Int) : Option (SII) :=
  some (a0_0, a0_1)

def laws_toItemS_L1 (a0 : List SII) (x1 : Int × (List SII)) : Option ((Int × (List SII)) ⊕ (Int × (List SII))) :=
  bif (decide (x1.1 < ((List.length a0 : Int)))) then
    ((getI a0 x1.1)).bind fun (x2 : SII) =>
    (laws_toItem x2.1 x2.2).bind fun (x3 : SII) =>
    bif (inb x1.2 x1.1) then
      some (.inl ((w64 (x1.1 + 1)), (upd x1.2 (Int.toNat x1.1) (x3.1, x3.2))))
    else
      none
  else
    some (.inr (x1.1, x1.2))

def laws_toItemS (n : Nat) (a0 : List SII) : Option ((List SII)) :=
  bif (decide (0 ≤ ((List.length a0 : Int))) && decide (((List.length a0 : Int)) ≤ (maxRow : Int)) && decide (((List.length a0 : Int)) = ((List.length a0 : Int)))) then
    (iter n (laws_toItemS_L1 a0) (0, (List.replicate (Int.toNat ((List.length a0 : Int))) ((0, 0) : SII)))).bind fun (x4 : Int × (List SII)) =>
    some x4.2
  else
    none

def laws_toPick (a0_0 : Int) (a0_1 : Int) (a0_2 : Int) : Option (SIII) :=
  some (a0_0, a0_1, a0_2)

def laws_toPickS_L1 (a0 : List SIII) (x1 : Int × (List SIII)) : Option ((Int × (List SIII)) ⊕ (Int × (List SIII))) :=
  bif (decide (x1.1 < ((List.length a0 : Int)))) then
    ((getI a0 x1.1)).bind fun (x2 : SIII) =>
    (laws_toPick x2.1 x2.2.1 x2.2.2).bind fun (x3 : SIII) =>
    bif (inb x1.2 x1.1) then
      some (.inl ((w64 (x1.1 + 1)), (upd x1.2 (Int.toNat x1.1) (x3.1, x3.2.1, x3.2.2))))
    else
      none
  else
    some (.inr (x1.1, x1.2))

def laws_toPickS (n : Nat) (a0 : List SIII) : Option ((List SIII)) :=
  bif (decide (0 ≤ ((List.length a0 : Int))) && decide (((List.length a0 : Int)) ≤ (maxRow : Int)) && decide (((List.length a0 : Int)) = ((List.length a0 : Int)))) then
    (iter n (laws_toPickS_L1 a0) (0, (List.replicate (Int.toNat ((List.length a0 : Int))) ((0, 0, 0) : SIII)))).bind fun (x4 : Int × (List SIII)) =>
    some x4.2
  else
    none

def laws_toOrder (n : Nat) (a0_0 : Int) (a0_1 : Int) (a0_2 : List SII) (a0_3 : List SIII) (a0_4 : Int) : Option (SIILIIJLIIIJI) :=
  (laws_toItemS n a0_2).bind fun (x1 : (List SII)) =>
  (laws_toPickS n a0_3).bind fun (x2 : (List SIII)) =>
  some (a0_0, a0_1, x1, x2, a0_4)

def spec_l6Among_L1 (a0 : List Int) (a1 : Int) (x1 : Int) : Option ((Int) ⊕ ((Int) ⊕ (Bool))) :=
  bif (decide (x1 < ((List.length a0 : Int)))) then
    ((getI a0 x1)).bind fun (x2 : Int) =>
    bif (x2 == a1) then
      some (.inr (.inr true))
    else
      some (.inl (w64 (x1 + 1)))
  else
    some (.inr (.inl x1))

def spec_l6Among (n : Nat) (a0 : List Int) (a1 : Int) : Option (Bool) :=
  (iter n (spec_l6Among_L1 a0 a1) 0).bind fun (x3 : (Int) ⊕ (Bool)) =>
  (match x3 with
  | .inl x4 => (
    some false)
  | .inr x5 => (
    some x5))

def spec_PodsOf_L1 (n : Nat) (a0 : List SIII) (x1 : (List Int) × Int) : Option (((List Int) × Int) ⊕ ((List Int) × Int)) :=
  bif (decide (x1.2 < ((List.length a0 : Int)))) then
    (show Option ((List Int)) from
      ((getI a0 x1.2)).bind fun (x3 : SIII) =>
      (spec_l6Among n x1.1 x3.1).bind fun (x4 : Bool) =>
      bif (!x4) then
        ((getI a0 x1.2)).bind fun (x5 : SIII) =>
        bif (decide (List.length x1.1 + List.length [x5.1] ≤ maxRow)) then
          some (x1.1 ++ [x5.1])
        else
          none
      else
        some x1.1).bind fun (x2 : (List Int)) =>
    some (.inl (x2, (w64 (x1.2 + 1))))
  else
    some (.inr (x1.1, x1.2))

def spec_PodsOf (n : Nat) (a0 : List SIII) : Option ((List Int)) :=
  (iter n (spec_PodsOf_L1 n a0) (([] : List Int), 0)).bind fun (x6 : (List Int) × Int) =>
  some x6.1

def spec_TasksOf_L1 (a0_0 : Int) (x1 : (List Int)) (x2 : (List SIIII) × Int) : Option (((List SIIII) × Int) ⊕ ((List SIIII) × Int)) :=
  bif (decide (x2.2 < ((List.length x1 : Int)))) then
    bif (inb x1 x2.2) then
      ((x1[(Int.toNat x2.2)]?)).bind fun (x3 : Int) =>
      bif (decide (List.length x2.1 + List.length [(a0_0, x3, 0, 1)] ≤ maxRow)) then
        some (.inl ((x2.1 ++ [(a0_0, x3, 0, 1)]), (w64 (x2.2 + 1))))
      else
        none
    else
      none
  else
    some (.inr (x2.1, x2.2))

def spec_TasksOf (n : Nat) (a0_0 : Int) (a0_1 : Int) (a0_2 : List SII) (a0_3 : List SIII) (a0_4 : Int) : Option ((List SIIII)) :=
  (spec_PodsOf n a0_3).bind fun (x1 : (List Int)) =>
  (iter n (spec_TasksOf_L1 a0_0 x1) (([] : List SIIII), 0)).bind fun (x4 : (List SIIII) × Int) =>
  some x4.1

def impl_hasInt_L1 (a0 : List Int) (a1 : Int) (x1 : Int) : Option ((Int) ⊕ ((Int) ⊕ (Bool))) :=
  bif (decide (x1 < ((List.length a0 : Int)))) then
    ((getI a0 x1)).bind fun (x2 : Int) =>
    bif (x2 == a1) then
      some (.inr (.inr true))
    else
      some (.inl (w64 (x1 + 1)))
  else
    some (.inr (.inl x1))

def impl_hasInt (n : Nat) (a0 : List Int) (a1 : Int) : Option (Bool) :=
  (iter n (impl_hasInt_L1 a0 a1) 0).bind fun (x3 : (Int) ⊕ (Bool)) =>
  (match x3 with
  | .inl x4 => (
    some false)
  | .inr x5 => (
    some x5))

def impl_PodsOf_L1 (n : Nat) (a0 : List SIII) (x1 : (List Int) × Int) : Option (((List Int) × Int) ⊕ ((List Int) × Int)) :=
  bif (decide (x1.2 < ((List.length a0 : Int)))) then
    (show Option ((List Int)) from
      ((getI a0 x1.2)).bind fun (x3 : SIII) =>
      (impl_hasInt n x1.1 x3.1).bind fun (x4 : Bool) =>
      bif (!x4) then
        bif (decide (List.length x1.1 + List.length [x3.1] ≤ maxRow)) then
          some (x1.1 ++ [x3.1])
        else
          none
      else
        some x1.1).bind fun (x2 : (List Int)) =>
    some (.inl (x2, (w64 (x1.2 + 1))))
  else
    some (.inr (x1.1, x1.2))

def impl_PodsOf (n : Nat) (a0 : List SIII) : Option ((List Int)) :=
  (iter n (impl_PodsOf_L1 n a0) (([] : List Int), 0)).bind fun (x5 : (List Int) × Int) =>
  some x5.1

def impl_TasksOf_L1 (a0_0 : Int) (x1 : (List Int)) (x2 : (List SIIII) × Int) : Option (((List SIIII) × Int) ⊕ ((List SIIII) × Int)) :=
  bif (decide (x2.2 < ((List.length x1 : Int)))) then
    bif (inb x1 x2.2) then
      ((x1[(Int.toNat x2.2)]?)).bind fun (x3 : Int) =>
      bif (decide (List.length x2.1 + List.length [(a0_0, x3, 0, 1)] ≤ maxRow)) then
        some (.inl ((x2.1 ++ [(a0_0, x3, 0, 1)]), (w64 (x2.2 + 1))))
      else
        none
    else
      none
  else
    some (.inr (x2.1, x2.2))

def impl_TasksOf (n : Nat) (a0_0 : Int) (a0_1 : Int) (a0_2 : List SII) (a0_3 : List SIII) (a0_4 : Int) : Option ((List SIIII)) :=
  (impl_PodsOf n a0_3).bind fun (x1 : (List Int)) =>
  (iter n (impl_TasksOf_L1 a0_0 x1) (([] : List SIIII), 0)).bind fun (x4 : (List SIIII) × Int) =>
  some x4.1

def laws_eqTask (a0_0 : Int) (a0_1 : Int) (a0_2 : Int) (a0_3 : Int) (a1_0 : Int) (a1_1 : Int) (a1_2 : Int) (a1_3 : Int) : Option (Bool) :=
  bif (a0_0 != a1_0) then
    some false
  else
    bif (a0_1 != a1_1) then
      some false
    else
      bif (a0_2 != a1_2) then
        some false
      else
        bif (a0_3 != a1_3) then
          some false
        else
          some true

def laws_eqTaskS_L1 (a0 : List SIIII) (a1 : List SIIII) (x1 : Int) : Option ((Int) ⊕ ((Int) ⊕ (Bool))) :=
  bif (decide (x1 < ((List.length a0 : Int)))) then
    ((getI a0 x1)).bind fun (x2 : SIIII) =>
    ((getI a1 x1)).bind fun (x3 : SIIII) =>
    (laws_eqTask x2.1 x2.2.1 x2.2.2.1 x2.2.2.2 x3.1 x3.2.1 x3.2.2.1 x3.2.2.2).bind fun (x4 : Bool) =>
    bif (!x4) then
      some (.inr (.inr false))
    else
      some (.inl (w64 (x1 + 1)))
  else
    some (.inr (.inl x1))

def laws_eqTaskS (n : Nat) (a0 : List SIIII) (a1 : List SIIII) : Option (Bool) :=
  bif (((List.length a0 : Int)) != ((List.length a1 : Int))) then
    some false
  else
    (iter n (laws_eqTaskS_L1 a0 a1) 0).bind fun (x5 : (Int) ⊕ (Bool)) =>
    (match x5 with
    | .inl x6 => (
      some true)
    | .inr x7 => (
      some x7))

def laws_eqItem (a0_0 : Int) (a0_1 : Int) (a1_0 : Int) (a1_1 : Int) : Option (Bool) :=
  bif (a0_0 != a1_0) then
    some false
  else
    bif (a0_1 != a1_1) then
      some false
    else
      some true

def laws_eqItemS_L1 (a0 : List SII) (a1 : List SII) (x1 : Int) : Option ((Int) ⊕ ((Int) ⊕ (Bool))) :=
  bif (decide (x1 < ((List.length a0 : Int)))) then
    ((getI a0 x1)).bind fun (x2 : SII) =>
    ((getI a1 x1)).bind fun (x3 : SII) =>
    (laws_eqItem x2.1 x2.2 x3.1 x3.2).bind fun (x4 : Bool) =>
    bif (!x4) then
      some (.inr (.inr false))
    else
      some (.inl (w64 (x1 + 1)))
  else
    some (.inr (.inl x1))

def laws_eqItemS (n : Nat) (a0 : List SII) (a1 : List SII) : Option (Bool) :=
  bif (((List.length a0 : Int)) != ((List.length a1 : Int))) then
    some false
  else
    (iter n (laws_eqItemS_L1 a0 a1) 0).bind fun (x5 : (Int) ⊕ (Bool)) =>
    (match x5 with
    | .inl x6 => (
      some true)
    | .inr x7 => (
      some x7))

def laws_eqPick (a0_0 : Int) (a0_1 : Int) (a0_2 : Int) (a1_0 : Int) (a1_1 : Int) (a1_2 : Int) : Option (Bool) :=
  bif (a0_0 != a1_0) then
    some false
  else
    bif (a0_1 != a1_1) then
      some false
    else
      bif (a0_2 != a1_2) then
        some false
      else
        some true

def laws_eqPickS_L1 (a0 : List SIII) (a1 : List SIII) (x1 : Int) : Option ((Int) ⊕ ((Int) ⊕ (Bool))) :=
  bif (decide (x1 < ((List.length a0 : Int)))) then
    ((getI a0 x1)).bind fun (x2 : SIII) =>
    ((getI a1 x1)).bind fun (x3 : SIII) =>
    (laws_eqPick x2.1 x2.2.1 x2.2.2 x3.1 x3.2.1 x3.2.2).bind fun (x4 : Bool) =>
    bif (!x4) then
      some (.inr (.inr false))
    else
      some (.inl (w64 (x1 + 1)))
  else
    some (.inr (.inl x1))

def laws_eqPickS (n : Nat) (a0 : List SIII) (a1 : List SIII) : Option (Bool) :=
  bif (((List.length a0 : Int)) != ((List.length a1 : Int))) then
    some false
  else
    (iter n (laws_eqPickS_L1 a0 a1) 0).bind fun (x5 : (Int) ⊕ (Bool)) =>
    (match x5 with
    | .inl x6 => (
      some true)
    | .inr x7 => (
      some x7))

def laws_eqOrder (n : Nat) (a0_0 : Int) (a0_1 : Int) (a0_2 : List SII) (a0_3 : List SIII) (a0_4 : Int) (a1_0 : Int) (a1_1 : Int) (a1_2 : List SII) (a1_3 : List SIII) (a1_4 : Int) : Option (Bool) :=
  bif (a0_0 != a1_0) then
    some false
  else
    bif (a0_1 != a1_1) then
      some false
    else
      (laws_eqItemS n a0_2 a1_2).bind fun (x1 : Bool) =>
      bif (!x1) then
        some false
      else
        (laws_eqPickS n a0_3 a1_3).bind fun (x2 : Bool) =>
        bif (!x2) then
          some false
        else
          bif (a0_4 != a1_4) then
            some false
          else
            some true

def laws_markItemS_L1 (x1 : Int × Int × (List SII)) : Option ((Int × Int × (List SII)) ⊕ (Int × Int × (List SII))) :=
  bif (decide (x1.2.1 < ((List.length x1.2.2 : Int)))) then
    bif (inb x1.2.2 x1.2.1) then
      bif (inb (List.modify x1.2.2 (Int.toNat x1.2.1) (fun (y : SII) => (x1.1, y.2))) x1.2.1) then
        some (.inl ((w64 ((w64 (x1.1 + 1)) + 1)), (w64 (x1.2.1 + 1)), (List.modify (List.modify x1.2.2 (Int.toNat x1.2.1) (fun (y : SII) => (x1.1, y.2))) (Int.toNat x1.2.1) (fun (y : SII) => (y.1, (w64 (x1.1 + 1)))))))
      else
        none
    else
      none
  else
    some (.inr (x1.1, x1.2.1, x1.2.2))

def laws_markItemS (n : Nat) (a0 : List SII) (a1 : Int) : Option (Int × (List SII)) :=
  (iter n (laws_markItemS_L1) (a1, 0, a0)).bind fun (x2 : Int × Int × (List SII)) =>
  some (x2.1, x2.2.2)

def laws_markPickS_L1 (x1 : Int × Int × (List SIII)) : Option ((Int × Int × (List SIII)) ⊕ (Int × Int × (List SIII))) :=
  bif (decide (x1.2.1 < ((List.length x1.2.2 : Int)))) then
    bif (inb x1.2.2 x1.2.1) then
      bif (inb (List.modify x1.2.2 (Int.toNat x1.2.1) (fun (y : SIII) => (x1.1, y.2.1, y.2.2))) x1.2.1) then
        bif (inb (List.modify (List.modify x1.2.2 (Int.toNat x1.2.1) (fun (y : SIII) => (x1.1, y.2.1, y.2.2))) (Int.toNat x1.2.1) (fun (y : SIII) => (y.1, (w64 (x1.1 + 1)), y.2.2))) x1.2.1) then
          some (.inl ((w64 ((w64 ((w64 (x1.1 + 1)) + 1)) + 1)), (w64 (x1.2.1 + 1)), (List.modify (List.modify (List.modify x1.2.2 (Int.toNat x1.2.1) (fun (y : SIII) => (x1.1, y.2.1, y.2.2))) (Int.toNat x1.2.1) (fun (y : SIII) => (y.1, (w64 (x1.1 + 1)), y.2.2))) (Int.toNat x1.2.1) (fun (y : SIII) => (y.1, y.2.1, (w64 ((w64 (x1.1 + 1)) + 1)))))))
        else
          none
      else
        none
    else
      none
  else
    some (.inr (x1.1, x1.2.1, x1.2.2))

def laws_markPickS (n : Nat) (a0 : List SIII) (a1 : Int) : Option (Int × (List SIII)) :=
  (iter n (laws_markPickS_L1) (a1, 0, a0)).bind fun (x2 : Int × Int × (List SIII)) =>
  some (x2.1, x2.2.2)

def laws_markOrder (n : Nat) (a0_0 : Int) (a0_1 : Int) (a0_2 : List SII) (a0_3 : List SIII) (a0_4 : Int) (a1 : Int) : Option (Int × Int × Int × (List SII) × (List SIII) × Int) :=
  (laws_markItemS n a0_2 a1).bind fun (x1 : Int × (List SII)) =>
  (laws_markPickS n a0_3 x1.1).bind fun (x2 : Int × (List SIII)) =>
  some (x2.1, a0_0, a0_1, x1.2, x2.2, a0_4)

def laws_markTaskS_L1 (x1 : Int × Int × (List SIIII)) : Option ((Int × Int × (List SIIII)) ⊕ (Int × Int × (List SIIII))) :=
  bif (decide (x1.2.1 < ((List.length x1.2.2 : Int)))) then
    bif (inb x1.2.2 x1.2.1) then
      bif (inb (List.modify x1.2.2 (Int.toNat x1.2.1) (fun (y : SIIII) => (x1.1, y.2.1, y.2.2.1, y.2.2.2))) x1.2.1) then
        bif (inb (List.modify (List.modify x1.2.2 (Int.toNat x1.2.1) (fun (y : SIIII) => (x1.1, y.2.1, y.2.2.1, y.2.2.2))) (Int.toNat x1.2.1) (fun (y : SIIII) => (y.1, (w64 (x1.1 + 1)), y.2.2.1, y.2.2.2))) x1.2.1) then
          bif (inb (List.modify (List.modify (List.modify x1.2.2 (Int.toNat x1.2.1) (fun (y : SIIII) => (x1.1, y.2.1, y.2.2.1, y.2.2.2))) (Int.toNat x1.2.1) (fun (y : SIIII) => (y.1, (w64 (x1.1 + 1)), y.2.2.1, y.2.2.2))) (Int.toNat x1.2.1) (fun (y : SIIII) => (y.1, y.2.1, (w64 ((w64 (x1.1 + 1)) + 1)), y.2.2.2))) x1.2.1) then
            some (.inl ((w64 ((w64 ((w64 ((w64 (x1.1 + 1)) + 1)) + 1)) + 1)), (w64 (x1.2.1 + 1)), (List.modify (List.modify (List.modify (List.modify x1.2.2 (Int.toNat x1.2.1) (fun (y : SIIII) => (x1.1, y.2.1, y.2.2.1, y.2.2.2))) (Int.toNat x1.2.1) (fun (y : SIIII) => (y.1, (w64 (x1.1 + 1)), y.2.2.1, y.2.2.2))) (Int.toNat x1.2.1) (fun (y : SIIII) => (y.1, y.2.1, (w64 ((w64 (x1.1 + 1)) + 1)), y.2.2.2))) (Int.toNat x1.2.1) (fun (y : SIIII) => (y.1, y.2.1, y.2.2.1, (w64 ((w64 ((w64 (x1.1 + 1)) + 1)) + 1)))))))
          else
            none
        else
          none
      else
        none
    else
      none
  else
    some (.inr (x1.1, x1.2.1, x1.2.2))

def laws_markTaskS (n : Nat) (a0 : List SIIII) (a1 : Int) : Option (Int × (List SIIII)) :=
  (iter n (laws_markTaskS_L1) (a1, 0, a0)).bind fun (x2 : Int × Int × (List SIIII)) =>
  some (x2.1, x2.2.2)

def laws_heldTaskS_L1 (a0 : List SIIII) (x1 : SII) : Option ((SII) ⊕ ((SII) ⊕ (Int))) :=
  bif (decide (x1.2 < ((List.length a0 : Int)))) then
    ((getI a0 x1.2)).bind fun (x2 : SIIII) =>
    bif (x2.1 != x1.1) then
      some (.inr (.inr (-1)))
    else
      ((getI a0 x1.2)).bind fun (x3 : SIIII) =>
      bif (x3.2.1 != (w64 (x1.1 + 1))) then
        some (.inr (.inr (-1)))
      else
        ((getI a0 x1.2)).bind fun (x4 : SIIII) =>
        bif (x4.2.2.1 != (w64 ((w64 (x1.1 + 1)) + 1))) then
          some (.inr (.inr (-1)))
        else
          ((getI a0 x1.2)).bind fun (x5 : SIIII) =>
          bif (x5.2.2.2 != (w64 ((w64 ((w64 (x1.1 + 1)) + 1)) + 1))) then
            some (.inr (.inr (-1)))
          else
            some (.inl ((w64 ((w64 ((w64 ((w64 (x1.1 + 1)) + 1)) + 1)) + 1)), (w64 (x1.2 + 1))))
  else
    some (.inr (.inl (x1.1, x1.2)))

def laws_heldTaskS (n : Nat) (a0 : List SIIII) (a1 : Int) : Option (Int) :=
  (iter n (laws_heldTaskS_L1 a0) (a1, 0)).bind fun (x6 : (SII) ⊕ (Int)) =>
  (match x6 with
  | .inl x7 => (
    some x7.1)
  | .inr x8 => (
    some x8))

def laws_FnExactTasksOf (n : Nat) (a0_0 : Int) (a0_1 : Int) (a0_2 : List SII) (a0_3 : List SIII) (a0_4 : Int) : Option (Bool) :=
  (laws_szOrder a0_0 a0_1 a0_2 a0_3 a0_4 1048576).bind fun (x1 : Int) =>
  bif (decide (x1 < 0)) then
    some true
  else
    (laws_toOrder n a0_0 a0_1 a0_2 a0_3 a0_4).bind fun (x2 : SIILIIJLIIIJI) =>
    (spec_TasksOf n x2.1 x2.2.1 x2.2.2.1 x2.2.2.2.1 x2.2.2.2.2).bind fun (x3 : (List SIIII)) =>
    (laws_toOrder n a0_0 a0_1 a0_2 a0_3 a0_4).bind fun (x4 : SIILIIJLIIIJI) =>
    (impl_TasksOf n x4.1 x4.2.1 x4.2.2.1 x4.2.2.2.1 x4.2.2.2.2).bind fun (x5 : (List SIIII)) =>
    (laws_eqTaskS n x5 x3).bind fun (x6 : Bool) =>
    bif (!x6) then
      some false
    else
      (laws_toOrder n a0_0 a0_1 a0_2 a0_3 a0_4).bind fun (x7 : SIILIIJLIIIJI) =>
      (laws_eqOrder n x4.1 x4.2.1 x4.2.2.1 x4.2.2.2.1 x4.2.2.2.2 x7.1 x7.2.1 x7.2.2.1 x7.2.2.2.1 x7.2.2.2.2).bind fun (x8 : Bool) =>
      bif (!x8) then
        some false
      else
        (laws_markOrder n x4.1 x4.2.1 x4.2.2.1 x4.2.2.2.1 x4.2.2.2.2 1).bind fun (x9 : Int × Int × Int × (List SII) × (List SIII) × Int) =>
        (show Option (Bool) from
          bif (decide (x9.1 < 0)) then
            some true
          else
            (laws_eqTaskS n x5 x3).bind fun (x10 : Bool) =>
            some (!x10)).bind fun (x11 : Bool) =>
        bif x11 then
          some false
        else
          (laws_markTaskS n x5 1).bind fun (x12 : Int × (List SIIII)) =>
          (laws_heldTaskS n x12.2 1).bind fun (x13 : Int) =>
          bif (decide (x13 < 0)) then
            some false
          else
            bif (x13 != x12.1) then
              some false
            else
              (laws_toOrder n a0_0 a0_1 a0_2 a0_3 a0_4).bind fun (x14 : SIILIIJLIIIJI) =>
              (impl_TasksOf n x14.1 x14.2.1 x14.2.2.1 x14.2.2.2.1 x14.2.2.2.2).bind fun (x15 : (List SIIII)) =>
              (laws_eqTaskS n x15 x3).bind fun (x16 : Bool) =>
              bif (!x16) then
                some false
              else
                (laws_heldTaskS n x12.2 1).bind fun (x17 : Int) =>
                bif (decide (x17 < 0)) then
                  some false
                else
                  bif (x17 != x12.1) then
                    some false
                  else
                    some true

end Go.Ev.N
