/- The native forms of the functions, as gen.py prints them. Conditions: none. -/
import Derived.Test.YtcilnijdhaidjaaLib3
namespace Go.Ev.N
open Go Go.Ev
set_option linter.unusedVariables false

def w64 (n : Int) : Int := IntKind.wrap .i64 n

abbrev STI := (List UInt8) × Int

abbrev SII := Int × Int

abbrev SIII := Int × Int × Int

abbrev SBII := Bool × Int × Int

abbrev SIIBI := Int × Int × Bool × Int

abbrev SIIII := Int × Int × Int × Int

abbrev SIIIBI := Int × Int × Int × Bool × Int

abbrev SIILIJ := Int × Int × (List Int)

abbrev SIILIIIJ := Int × Int × (List SIII)

abbrev SIILIIJLIIIJI := Int × Int × (List SII) × (List SIII) × Int

abbrev SLIJIBIIILIJLBIIJ := (List Int) × Int × Bool × Int × Int × Int × (List Int) × (List SBII)

abbrev SILIILIIJLIIIJIJ := Int × (List SIILIIJLIIIJI)

abbrev SIILIJLIILIIIJJILIILIIJLIIIJIJLIIIBIJLIIIIJLIJLIJI := Int × Int × (List Int) × (List SIILIIIJ) × Int × (List SIILIIJLIIIJI) × (List SIIIBI) × (List SIIII) × (List Int) × (List Int) × Int

def laws_szItemS (a0 : List SII) (a1 : Int) : Option (Int) :=
  bif (decide ((w64 (a1 - ((List.length a0 : Int)))) < 0)) then
    some (-1)
  else
    some (w64 (a1 - ((List.length a0 : Int))))

def laws_szPickS (a0 : List SIII) (a1 : Int) : Option (Int) :=
  bif (decide ((w64 (a1 - ((List.length a0 : Int)))) < 0)) then
    some (-1)
  else
    some (w64 (a1 - ((List.length a0 : Int))))

def laws_szOrder (a0_0 : Int) (a0_1 : Int) (a0_2 : List SII) (a0_3 : List SIII) (a0_4 : Int) (a1 : Int) : Option (Int) :=
  (laws_szItemS a0_2 a1).bind fun (x1 : Int) =>
  bif (decide (x1 < 0)) then
    some (-1)
  else
    (laws_szPickS a0_3 x1).bind fun (x2 : Int) =>
    bif (decide (x2 < 0)) then
      some (-1)
    else
      some x2

def laws_szOrderS_L1 (a0 : List SIILIIJLIIIJI) (x1 : SII) : Option ((SII) ⊕ ((SII) ⊕ (Int))) :=
  bif (decide (x1.2 < ((List.length a0 : Int)))) then
    ((getI a0 x1.2)).bind fun (x2 : SIILIIJLIIIJI) =>
    (laws_szOrder x2.1 x2.2.1 x2.2.2.1 x2.2.2.2.1 x2.2.2.2.2 x1.1).bind fun (x3 : Int) =>
    bif (decide (x3 < 0)) then
      some (.inr (.inr (-1)))
    else
      some (.inl (x3, (w64 (x1.2 + 1))))
  else
    some (.inr (.inl (x1.1, x1.2)))

def laws_szOrderS (n : Nat) (a0 : List SIILIIJLIIIJI) (a1 : Int) : Option (Int) :=
  bif (decide ((w64 (a1 - ((List.length a0 : Int)))) < 0)) then
    some (-1)
  else
    (iter n (laws_szOrderS_L1 a0) ((w64 (a1 - ((List.length a0 : Int)))), 0)).bind fun (x4 : (SII) ⊕ (Int)) =>
    (match x4 with
    | .inl x5 => (
      some x5.1)
    | .inr x6 => (
      some x6))

def laws_szBook (n : Nat) (a0_0 : Int) (a0_1 : List SIILIIJLIIIJI) (a1 : Int) : Option (Int) :=
  (laws_szOrderS n a0_1 a1).bind fun (x1 : Int) =>
  bif (decide (x1 < 0)) then
    some (-1)
  else
    some x1

def laws_toItem (a0_0 : Int) (a0_1 : Int) : Option (SII) :=
  some (a0_0, a0_1)

def laws_toItemS_L1 (a0 : List SII) (x1 : Int × (List SII)) : Option ((Int × (List SII)) ⊕ (Int × (List SII))) :=
  bif (decide (x1.1 < ((List.length a0 : Int)))) then
    ((getI a0 x1.1)).bind fun (x2 : SII) =>
    (laws_toItem x2.1 x2.2).bind fun (x3 : SII) =>
    bif (inb x1.2 x1.1) then
      some (.inl ((w64 (x1.1 + 1)), (upd x1.2 (Int.toNat x1.1) (x3.1, x3.2))))
    else
      none
  else
    some (.inr (x1.1, x1.2))

def laws_toItemS (n : Nat) (a0 : List SII) : Option ((List SII)) :=
  bif (decide (0 ≤ ((List.length a0 : Int))) && decide (((List.length a0 : Int)) ≤ (maxRow : Int)) && decide (((List.length a0 : Int)) = ((List.length a0 : Int)))) then
    (iter n (laws_toItemS_L1 a0) (0, (List.replicate (Int.toNat ((List.length a0 : Int))) ((0, 0) : SII)))).bind fun (x4 : Int × (List SII)) =>
    some x4.2
  else
    none

def laws_toPick (a0_0 : Int) (a0_1 : Int) (a0_2 : Int) : Option (SIII) :=
  some (a0_0, a0_1, a0_2)

def laws_toPickS_L1 (a0 : List SIII) (x1 : Int × (List SIII)) : Option ((Int × (List SIII)) ⊕ (Int × (List SIII))) :=
  bif (decide (x1.1 < ((List.length a0 : Int)))) then
    ((getI a0 x1.1)).bind fun (x2 : SIII) =>
    (laws_toPick x2.1 x2.2.1 x2.2.2).bind fun (x3 : SIII) =>
    bif (inb x1.2 x1.1) then
      some (.inl ((w64 (x1.1 + 1)), (upd x1.2 (Int.toNat x1.1) (x3.1, x3.2.1, x3.2.2))))
    else
      none
  else
    some (.inr (x1.1, x1.2))

def laws_toPickS (n : Nat) (a0 : List SIII) : Option ((List SIII)) :=
  bif (decide (0 ≤ ((List.length a0 : Int))) && decide (((List.length a0 : Int)) ≤ (maxRow : Int)) && decide (((List.length a0 : Int)) = ((List.length a0 : Int)))) then
    (iter n (laws_toPickS_L1 a0) (0, (List.replicate (Int.toNat ((List.length a0 : Int))) ((0, 0, 0) : SIII)))).bind fun (x4 : Int × (List SIII)) =>
    some x4.2
  else
    none

def laws_toOrder (n : Nat) (a0_0 : Int) (a0_1 : Int) (a0_2 : List SII) (a0_3 : List SIII) (a0_4 : Int) : Option (SIILIIJLIIIJI) :=
  (laws_toItemS n a0_2).bind fun (x1 : (List SII)) =>
  (laws_toPickS n a0_3).bind fun (x2 : (List SIII)) =>
  some (a0_0, a0_1, x1, x2, a0_4)

def laws_toOrderS_L1 (n : Nat) (a0 : List SIILIIJLIIIJI) (x1 : SILIILIIJLIIIJIJ) : Option ((SILIILIIJLIIIJIJ) ⊕ (SILIILIIJLIIIJIJ)) :=
  bif (decide (x1.1 < ((List.length a0 : Int)))) then
    ((getI a0 x1.1)).bind fun (x2 : SIILIIJLIIIJI) =>
    (laws_toOrder n x2.1 x2.2.1 x2.2.2.1 x2.2.2.2.1 x2.2.2.2.2).bind fun (x3 : SIILIIJLIIIJI) =>
    bif (inb x1.2 x1.1) then
      some (.inl ((w64 (x1.1 + 1)), (upd x1.2 (Int.toNat x1.1) (x3.1, x3.2.1, x3.2.2.1, x3.2.2.2.1, x3.2.2.2.2))))
    else
      none
  else
    some (.inr (x1.1, x1.2))

def laws_toOrderS (n : Nat) (a0 : List SIILIIJLIIIJI) : Option ((List SIILIIJLIIIJI)) :=
  bif (decide (0 ≤ ((List.length a0 : Int))) && decide (((List.length a0 : Int)) ≤ (maxRow : Int)) && decide (((List.length a0 : Int)) = ((List.length a0 : Int)))) then
    (iter n (laws_toOrderS_L1 n a0) (0, (List.replicate (Int.toNat ((List.length a0 : Int))) ((0, 0, ([] : List SII), ([] : List SIII), 0) : SIILIIJLIIIJI)))).bind fun (x4 : SILIILIIJLIIIJIJ) =>
    some x4.2
  else
    none

def laws_toBook (n : Nat) (a0_0 : Int) (a0_1 : List SIILIIJLIIIJI) : Option (SILIILIIJLIIIJIJ) :=
  (laws_toOrderS n a0_1).bind fun (x1 : (List SIILIIJLIIIJI)) =>
  some (a0_0, x1)

def spec_l11Find_L1 (a0_1 : List SIILIIJLIIIJI) (a1 : Int) (x1 : Int) : Option ((Int) ⊕ ((Int) ⊕ (Int))) :=
  bif (decide (x1 < ((List.length a0_1 : Int)))) then
    ((getI a0_1 x1)).bind fun (x2 : SIILIIJLIIIJI) =>
    bif (x2.1 == a1) then
      some (.inr (.inr x1))
    else
      some (.inl (w64 (x1 + 1)))
  else
    some (.inr (.inl x1))

def spec_l11Find (n : Nat) (a0_0 : Int) (a0_1 : List SIILIIJLIIIJI) (a1 : Int) : Option (Int) :=
  (iter n (spec_l11Find_L1 a0_1 a1) 0).bind fun (x3 : (Int) ⊕ (Int)) =>
  (match x3 with
  | .inl x4 => (
    some (-1))
  | .inr x5 => (
    some x5))

def spec_l11CopyOrder (a0_0 : Int) (a0_1 : Int) (a0_2 : List SII) (a0_3 : List SIII) (a0_4 : Int) : Option (SIILIIJLIIIJI) :=
  bif (decide (List.length ([] : List SII) + List.length a0_2 ≤ maxRow)) then
    bif (decide (List.length ([] : List SIII) + List.length a0_3 ≤ maxRow)) then
      some (a0_0, a0_1, (([] : List SII) ++ a0_2), (([] : List SIII) ++ a0_3), a0_4)
    else
      none
  else
    none

def spec_OrderOf (n : Nat) (a0_0 : Int) (a0_1 : List SIILIIJLIIIJI) (a1 : Int) : Option (Int × Int × (List SII) × (List SIII) × Int × Bool) :=
  (spec_l11Find n a0_0 a0_1 a1).bind fun (x1 : Int) =>
  bif (decide (x1 < 0)) then
    some (0, 0, ([] : List SII), ([] : List SIII), 0, false)
  else
    ((getI a0_1 x1)).bind fun (x2 : SIILIIJLIIIJI) =>
    (spec_l11CopyOrder x2.1 x2.2.1 x2.2.2.1 x2.2.2.2.1 x2.2.2.2.2).bind fun (x3 : SIILIIJLIIIJI) =>
    some (x3.1, x3.2.1, x3.2.2.1, x3.2.2.2.1, x3.2.2.2.2, true)

def impl_orderAt_L1 (a0_1 : List SIILIIJLIIIJI) (a1 : Int) (x1 : Int) : Option ((Int) ⊕ ((Int) ⊕ (Int))) :=
  bif (decide (x1 < ((List.length a0_1 : Int)))) then
    ((getI a0_1 x1)).bind fun (x2 : SIILIIJLIIIJI) =>
    bif (x2.1 == a1) then
      some (.inr (.inr x1))
    else
      some (.inl (w64 (x1 + 1)))
  else
    some (.inr (.inl x1))

def impl_orderAt (n : Nat) (a0_0 : Int) (a0_1 : List SIILIIJLIIIJI) (a1 : Int) : Option (Int) :=
  (iter n (impl_orderAt_L1 a0_1 a1) 0).bind fun (x3 : (Int) ⊕ (Int)) =>
  (match x3 with
  | .inl x4 => (
    some (-1))
  | .inr x5 => (
    some x5))

def impl_copyItems (a0 : List SII) : Option ((List SII)) :=
  bif (decide (List.length a0 ≤ maxRow)) then
    some a0
  else
    none

def impl_copyPicks (a0 : List SIII) : Option ((List SIII)) :=
  bif (decide (List.length a0 ≤ maxRow)) then
    some a0
  else
    none

def impl_copyOrder (a0_0 : Int) (a0_1 : Int) (a0_2 : List SII) (a0_3 : List SIII) (a0_4 : Int) : Option (SIILIIJLIIIJI) :=
  (impl_copyItems a0_2).bind fun (x1 : (List SII)) =>
  (impl_copyPicks a0_3).bind fun (x2 : (List SIII)) =>
  some (a0_0, a0_1, x1, x2, a0_4)

def impl_OrderOf (n : Nat) (a0_0 : Int) (a0_1 : List SIILIIJLIIIJI) (a1 : Int) : Option (Int × Int × (List SII) × (List SIII) × Int × Bool) :=
  (impl_orderAt n a0_0 a0_1 a1).bind fun (x1 : Int) =>
  bif (decide (x1 < 0)) then
    some (0, 0, ([] : List SII), ([] : List SIII), 0, false)
  else
    ((getI a0_1 x1)).bind fun (x2 : SIILIIJLIIIJI) =>
    (impl_copyOrder x2.1 x2.2.1 x2.2.2.1 x2.2.2.2.1 x2.2.2.2.2).bind fun (x3 : SIILIIJLIIIJI) =>
    some (x3.1, x3.2.1, x3.2.2.1, x3.2.2.2.1, x3.2.2.2.2, true)

def laws_eqItem (a0_0 : Int) (a0_1 : Int) (a1_0 : Int) (a1_1 : Int) : Option (Bool) :=
  bif (a0_0 != a1_0) then
    some false
  else
    bif (a0_1 != a1_1) then
      some false
    else
      some true

def laws_eqItemS_L1 (a0 : List SII) (a1 : List SII) (x1 : Int) : Option ((Int) ⊕ ((Int) ⊕ (Bool))) :=
  bif (decide (x1 < ((List.length a0 : Int)))) then
    ((getI a0 x1)).bind fun (x2 : SII) =>
    ((getI a1 x1)).bind fun (x3 : SII) =>
    (laws_eqItem x2.1 x2.2 x3.1 x3.2).bind fun (x4 : Bool) =>
    bif (!x4) then
      some (.inr (.inr false))
    else
      some (.inl (w64 (x1 + 1)))
  else
    some (.inr (.inl x1))

def laws_eqItemS (n : Nat) (a0 : List SII) (a1 : List SII) : Option (Bool) :=
  bif (((List.length a0 : Int)) != ((List.length a1 : Int))) then
    some false
  else
    (iter n (laws_eqItemS_L1 a0 a1) 0).bind fun (x5 : (Int) ⊕ (Bool)) =>
    (match x5 with
    | .inl x6 => (
      some true)
    | .inr x7 => (
      some x7))

def laws_eqPick (a0_0 : Int) (a0_1 : Int) (a0_2 : Int) (a1_0 : Int) (a1_1 : Int) (a1_2 : Int) : Option (Bool) :=
  bif (a0_0 != a1_0) then
    some false
  else
    bif (a0_1 != a1_1) then
      some false
    else
      bif (a0_2 != a1_2) then
        some false
      else
        some true

def laws_eqPickS_L1 (a0 : List SIII) (a1 : List SIII) (x1 : Int) : Option ((Int) ⊕ ((Int) ⊕ (Bool))) :=
  bif (decide (x1 < ((List.length a0 : Int)))) then
    ((getI a0 x1)).bind fun (x2 : SIII) =>
    ((getI a1 x1)).bind fun (x3 : SIII) =>
    (laws_eqPick x2.1 x2.2.1 x2.2.2 x3.1 x3.2.1 x3.2.2).bind fun (x4 : Bool) =>
    bif (!x4) then
      some (.inr (.inr false))
    else
      some (.inl (w64 (x1 + 1)))
  else
    some (.inr (.inl x1))

def laws_eqPickS (n : Nat) (a0 : List SIII) (a1 : List SIII) : Option (Bool) :=
  bif (((List.length a0 : Int)) != ((List.length a1 : Int))) then
    some false
  else
    (iter n (laws_eqPickS_L1 a0 a1) 0).bind fun (x5 : (Int) ⊕ (Bool)) =>
    (match x5 with
    | .inl x6 => (
      some true)
    | .inr x7 => (
      some x7))

def laws_eqOrder (n : Nat) (a0_0 : Int) (a0_1 : Int) (a0_2 : List SII) (a0_3 : List SIII) (a0_4 : Int) (a1_0 : Int) (a1_1 : Int) (a1_2 : List SII) (a1_3 : List SIII) (a1_4 : Int) : Option (Bool) :=
  bif (a0_0 != a1_0) then
    some false
  else
    bif (a0_1 != a1_1) then
      some false
    else
      (laws_eqItemS n a0_2 a1_2).bind fun (x1 : Bool) =>
      bif (!x1) then
        some false
      else
        (laws_eqPickS n a0_3 a1_3).bind fun (x2 : Bool) =>
        bif (!x2) then
          some false
        else
          bif (a0_4 != a1_4) then
            some false
          else
            some true

def laws_eqOrderS_L1 (n : Nat) (a0 : List SIILIIJLIIIJI) (a1 : List SIILIIJLIIIJI) (x1 : Int) : Option ((Int) ⊕ ((Int) ⊕ (Bool))) :=
  bif (decide (x1 < ((List.length a0 : Int)))) then
    ((getI a0 x1)).bind fun (x2 : SIILIIJLIIIJI) =>
    ((getI a1 x1)).bind fun (x3 : SIILIIJLIIIJI) =>
    (laws_eqOrder n x2.1 x2.2.1 x2.2.2.1 x2.2.2.2.1 x2.2.2.2.2 x3.1 x3.2.1 x3.2.2.1 x3.2.2.2.1 x3.2.2.2.2).bind fun (x4 : Bool) =>
    bif (!x4) then
      some (.inr (.inr false))
    else
      some (.inl (w64 (x1 + 1)))
  else
    some (.inr (.inl x1))

def laws_eqOrderS (n : Nat) (a0 : List SIILIIJLIIIJI) (a1 : List SIILIIJLIIIJI) : Option (Bool) :=
  bif (((List.length a0 : Int)) != ((List.length a1 : Int))) then
    some false
  else
    (iter n (laws_eqOrderS_L1 n a0 a1) 0).bind fun (x5 : (Int) ⊕ (Bool)) =>
    (match x5 with
    | .inl x6 => (
      some true)
    | .inr x7 => (
      some x7))

def laws_eqBook (n : Nat) (a0_0 : Int) (a0_1 : List SIILIIJLIIIJI) (a1_0 : Int) (a1_1 : List SIILIIJLIIIJI) : Option (Bool) :=
  bif (a0_0 != a1_0) then
    some false
  else
    (laws_eqOrderS n a0_1 a1_1).bind fun (x1 : Bool) =>
    bif (!x1) then
      some false
    else
      some true

def laws_markItemS_L1 (x1 : Int × Int × (List SII)) : Option ((Int × Int × (List SII)) ⊕ (Int × Int × (List SII))) :=
  bif (decide (x1.2.1 < ((List.length x1.2.2 : Int)))) then
    bif (inb x1.2.2 x1.2.1) then
      bif (inb (List.modify x1.2.2 (Int.toNat x1.2.1) (fun (y : SII) => (x1.1, y.2))) x1.2.1) then
        some (.inl ((w64 ((w64 (x1.1 + 1)) + 1)), (w64 (x1.2.1 + 1)), (List.modify (List.modify x1.2.2 (Int.toNat x1.2.1) (fun (y : SII) => (x1.1, y.2))) (Int.toNat x1.2.1) (fun (y : SII) => (y.1, (w64 (x1.1 + 1)))))))
      else
        none
    else
      none
  else
    some (.inr (x1.1, x1.2.1, x1.2.2))

def laws_markItemS (n : Nat) (a0 : List SII) (a1 : Int) : Option (Int × (List SII)) :=
  (iter n (laws_markItemS_L1) (a1, 0, a0)).bind fun (x2 : Int × Int × (List SII)) =>
  some (x2.1, x2.2.2)

def laws_markPickS_L1 (x1 : Int × Int × (List SIII)) : Option ((Int × Int × (List SIII)) ⊕ (Int × Int × (List SIII))) :=
  bif (decide (x1.2.1 < ((List.length x1.2.2 : Int)))) then
    bif (inb x1.2.2 x1.2.1) then
      bif (inb (List.modify x1.2.2 (Int.toNat x1.2.1) (fun (y : SIII) => (x1.1, y.2.1, y.2.2))) x1.2.1) then
        bif (inb (List.modify (List.modify x1.2.2 (Int.toNat x1.2.1) (fun (y : SIII) => (x1.1, y.2.1, y.2.2))) (Int.toNat x1.2.1) (fun (y : SIII) => (y.1, (w64 (x1.1 + 1)), y.2.2))) x1.2.1) then
          some (.inl ((w64 ((w64 ((w64 (x1.1 + 1)) + 1)) + 1)), (w64 (x1.2.1 + 1)), (List.modify (List.modify (List.modify x1.2.2 (Int.toNat x1.2.1) (fun (y : SIII) => (x1.1, y.2.1, y.2.2))) (Int.toNat x1.2.1) (fun (y : SIII) => (y.1, (w64 (x1.1 + 1)), y.2.2))) (Int.toNat x1.2.1) (fun (y : SIII) => (y.1, y.2.1, (w64 ((w64 (x1.1 + 1)) + 1)))))))
        else
          none
      else
        none
    else
      none
  else
    some (.inr (x1.1, x1.2.1, x1.2.2))

def laws_markPickS (n : Nat) (a0 : List SIII) (a1 : Int) : Option (Int × (List SIII)) :=
  (iter n (laws_markPickS_L1) (a1, 0, a0)).bind fun (x2 : Int × Int × (List SIII)) =>
  some (x2.1, x2.2.2)

def laws_markOrderS_L1 (n : Nat) (x1 : Int × Int × (List SIILIIJLIIIJI)) : Option ((Int × Int × (List SIILIIJLIIIJI)) ⊕ (Int × Int × (List SIILIIJLIIIJI))) :=
  bif (decide (x1.2.1 < ((List.length x1.2.2 : Int)))) then
    bif (inb x1.2.2 x1.2.1) then
      bif (inb (List.modify x1.2.2 (Int.toNat x1.2.1) (fun (y : SIILIIJLIIIJI) => (x1.1, y.2.1, y.2.2.1, y.2.2.2.1, y.2.2.2.2))) x1.2.1) then
        bif (inb (List.modify (List.modify x1.2.2 (Int.toNat x1.2.1) (fun (y : SIILIIJLIIIJI) => (x1.1, y.2.1, y.2.2.1, y.2.2.2.1, y.2.2.2.2))) (Int.toNat x1.2.1) (fun (y : SIILIIJLIIIJI) => (y.1, (w64 (x1.1 + 1)), y.2.2.1, y.2.2.2.1, y.2.2.2.2))) x1.2.1) then
          (((List.modify (List.modify x1.2.2 (Int.toNat x1.2.1) (fun (y : SIILIIJLIIIJI) => (x1.1, y.2.1, y.2.2.1, y.2.2.2.1, y.2.2.2.2))) (Int.toNat x1.2.1) (fun (y : SIILIIJLIIIJI) => (y.1, (w64 (x1.1 + 1)), y.2.2.1, y.2.2.2.1, y.2.2.2.2)))[(Int.toNat x1.2.1)]?)).bind fun (x2 : SIILIIJLIIIJI) =>
          (((List.modify (List.modify x1.2.2 (Int.toNat x1.2.1) (fun (y : SIILIIJLIIIJI) => (x1.1, y.2.1, y.2.2.1, y.2.2.2.1, y.2.2.2.2))) (Int.toNat x1.2.1) (fun (y : SIILIIJLIIIJI) => (y.1, (w64 (x1.1 + 1)), y.2.2.1, y.2.2.2.1, y.2.2.2.2)))[(Int.toNat x1.2.1)]?)).bind fun (x3 : SIILIIJLIIIJI) =>
          (laws_markItemS n x3.2.2.1 (w64 ((w64 (x1.1 + 1)) + 1))).bind fun (x4 : Int × (List SII)) =>
          bif (inb (List.modify (List.modify (List.modify x1.2.2 (Int.toNat x1.2.1) (fun (y : SIILIIJLIIIJI) => (x1.1, y.2.1, y.2.2.1, y.2.2.2.1, y.2.2.2.2))) (Int.toNat x1.2.1) (fun (y : SIILIIJLIIIJI) => (y.1, (w64 (x1.1 + 1)), y.2.2.1, y.2.2.2.1, y.2.2.2.2))) (Int.toNat x1.2.1) (fun (y1 : SIILIIJLIIIJI) => (y1.1, y1.2.1, x4.2, y1.2.2.2.1, y1.2.2.2.2))) x1.2.1) then
            (((List.modify (List.modify (List.modify x1.2.2 (Int.toNat x1.2.1) (fun (y : SIILIIJLIIIJI) => (x1.1, y.2.1, y.2.2.1, y.2.2.2.1, y.2.2.2.2))) (Int.toNat x1.2.1) (fun (y : SIILIIJLIIIJI) => (y.1, (w64 (x1.1 + 1)), y.2.2.1, y.2.2.2.1, y.2.2.2.2))) (Int.toNat x1.2.1) (fun (y1 : SIILIIJLIIIJI) => (y1.1, y1.2.1, x4.2, y1.2.2.2.1, y1.2.2.2.2)))[(Int.toNat x1.2.1)]?)).bind fun (x5 : SIILIIJLIIIJI) =>
            (((List.modify (List.modify (List.modify x1.2.2 (Int.toNat x1.2.1) (fun (y : SIILIIJLIIIJI) => (x1.1, y.2.1, y.2.2.1, y.2.2.2.1, y.2.2.2.2))) (Int.toNat x1.2.1) (fun (y : SIILIIJLIIIJI) => (y.1, (w64 (x1.1 + 1)), y.2.2.1, y.2.2.2.1, y.2.2.2.2))) (Int.toNat x1.2.1) (fun (y1 : SIILIIJLIIIJI) => (y1.1, y1.2.1, x4.2, y1.2.2.2.1, y1.2.2.2.2)))[(Int.toNat x1.2.1)]?)).bind fun (x6 : SIILIIJLIIIJI) =>
            (laws_markPickS n x6.2.2.2.1 x4.1).bind fun (x7 : Int × (List SIII)) =>
            bif (inb (List.modify (List.modify (List.modify (List.modify x1.2.2 (Int.toNat x1.2.1) (fun (y : SIILIIJLIIIJI) => (x1.1, y.2.1, y.2.2.1, y.2.2.2.1, y.2.2.2.2))) (Int.toNat x1.2.1) (fun (y : SIILIIJLIIIJI) => (y.1, (w64 (x1.1 + 1)), y.2.2.1, y.2.2.2.1, y.2.2.2.2))) (Int.toNat x1.2.1) (fun (y1 : SIILIIJLIIIJI) => (y1.1, y1.2.1, x4.2, y1.2.2.2.1, y1.2.2.2.2))) (Int.toNat x1.2.1) (fun (y1 : SIILIIJLIIIJI) => (y1.1, y1.2.1, y1.2.2.1, x7.2, y1.2.2.2.2))) x1.2.1) then
              some (.inl ((w64 (x7.1 + 1)), (w64 (x1.2.1 + 1)), (List.modify (List.modify (List.modify (List.modify (List.modify x1.2.2 (Int.toNat x1.2.1) (fun (y : SIILIIJLIIIJI) => (x1.1, y.2.1, y.2.2.1, y.2.2.2.1, y.2.2.2.2))) (Int.toNat x1.2.1) (fun (y : SIILIIJLIIIJI) => (y.1, (w64 (x1.1 + 1)), y.2.2.1, y.2.2.2.1, y.2.2.2.2))) (Int.toNat x1.2.1) (fun (y1 : SIILIIJLIIIJI) => (y1.1, y1.2.1, x4.2, y1.2.2.2.1, y1.2.2.2.2))) (Int.toNat x1.2.1) (fun (y1 : SIILIIJLIIIJI) => (y1.1, y1.2.1, y1.2.2.1, x7.2, y1.2.2.2.2))) (Int.toNat x1.2.1) (fun (y : SIILIIJLIIIJI) => (y.1, y.2.1, y.2.2.1, y.2.2.2.1, x7.1)))))
            else
              none
          else
            none
        else
          none
      else
        none
    else
      none
  else
    some (.inr (x1.1, x1.2.1, x1.2.2))

def laws_markOrderS (n : Nat) (a0 : List SIILIIJLIIIJI) (a1 : Int) : Option (SILIILIIJLIIIJIJ) :=
  (iter n (laws_markOrderS_L1 n) (a1, 0, a0)).bind fun (x8 : Int × Int × (List SIILIIJLIIIJI)) =>
  some (x8.1, x8.2.2)

def laws_markBook (n : Nat) (a0_0 : Int) (a0_1 : List SIILIIJLIIIJI) (a1 : Int) : Option (Int × Int × (List SIILIIJLIIIJI)) :=
  (laws_markOrderS n a0_1 a1).bind fun (x1 : SILIILIIJLIIIJIJ) =>
  some (x1.1, a0_0, x1.2)

def laws_markOrder (n : Nat) (a0_0 : Int) (a0_1 : Int) (a0_2 : List SII) (a0_3 : List SIII) (a0_4 : Int) (a1 : Int) : Option (Int × Int × Int × (List SII) × (List SIII) × Int) :=
  (laws_markItemS n a0_2 a1).bind fun (x1 : Int × (List SII)) =>
  (laws_markPickS n a0_3 x1.1).bind fun (x2 : Int × (List SIII)) =>
  some (x2.1, a0_0, a0_1, x1.2, x2.2, a0_4)

def laws_heldItemS_L1 (a0 : List SII) (x1 : SII) : Option ((SII) ⊕ ((SII) ⊕ (Int))) :=
  bif (decide (x1.2 < ((List.length a0 : Int)))) then
    ((getI a0 x1.2)).bind fun (x2 : SII) =>
    bif (x2.1 != x1.1) then
      some (.inr (.inr (-1)))
    else
      ((getI a0 x1.2)).bind fun (x3 : SII) =>
      bif (x3.2 != (w64 (x1.1 + 1))) then
        some (.inr (.inr (-1)))
      else
        some (.inl ((w64 ((w64 (x1.1 + 1)) + 1)), (w64 (x1.2 + 1))))
  else
    some (.inr (.inl (x1.1, x1.2)))

def laws_heldItemS (n : Nat) (a0 : List SII) (a1 : Int) : Option (Int) :=
  (iter n (laws_heldItemS_L1 a0) (a1, 0)).bind fun (x4 : (SII) ⊕ (Int)) =>
  (match x4 with
  | .inl x5 => (
    some x5.1)
  | .inr x6 => (
    some x6))

def laws_heldPickS_L1 (a0 : List SIII) (x1 : SII) : Option ((SII) ⊕ ((SII) ⊕ (Int))) :=
  bif (decide (x1.2 < ((List.length a0 : Int)))) then
    ((getI a0 x1.2)).bind fun (x2 : SIII) =>
    bif (x2.1 != x1.1) then
      some (.inr (.inr (-1)))
    else
      ((getI a0 x1.2)).bind fun (x3 : SIII) =>
      bif (x3.2.1 != (w64 (x1.1 + 1))) then
        some (.inr (.inr (-1)))
      else
        ((getI a0 x1.2)).bind fun (x4 : SIII) =>
        bif (x4.2.2 != (w64 ((w64 (x1.1 + 1)) + 1))) then
          some (.inr (.inr (-1)))
        else
          some (.inl ((w64 ((w64 ((w64 (x1.1 + 1)) + 1)) + 1)), (w64 (x1.2 + 1))))
  else
    some (.inr (.inl (x1.1, x1.2)))

def laws_heldPickS (n : Nat) (a0 : List SIII) (a1 : Int) : Option (Int) :=
  (iter n (laws_heldPickS_L1 a0) (a1, 0)).bind fun (x5 : (SII) ⊕ (Int)) =>
  (match x5 with
  | .inl x6 => (
    some x6.1)
  | .inr x7 => (
    some x7))

def laws_heldOrder (n : Nat) (a0_0 : Int) (a0_1 : Int) (a0_2 : List SII) (a0_3 : List SIII) (a0_4 : Int) (a1 : Int) : Option (Int) :=
  (laws_heldItemS n a0_2 a1).bind fun (x1 : Int) =>
  bif (decide (x1 < 0)) then
    some (-1)
  else
    (laws_heldPickS n a0_3 x1).bind fun (x2 : Int) =>
    bif (decide (x2 < 0)) then
      some (-1)
    else
      some x2

def laws_FnExactOrderOf (n : Nat) (a0_0 : Int) (a0_1 : List SIILIIJLIIIJI) (a1 : Int) : Option (Bool) :=
  (laws_szBook n a0_0 a0_1 1048576).bind fun (x1 : Int) =>
  bif (decide (x1 < 0)) then
    some true
  else
    (laws_toBook n a0_0 a0_1).bind fun (x2 : SILIILIIJLIIIJIJ) =>
    (spec_OrderOf n x2.1 x2.2 a1).bind fun (x3 : Int × Int × (List SII) × (List SIII) × Int × Bool) =>
    (laws_toBook n a0_0 a0_1).bind fun (x4 : SILIILIIJLIIIJIJ) =>
    (impl_OrderOf n x4.1 x4.2 a1).bind fun (x5 : Int × Int × (List SII) × (List SIII) × Int × Bool) =>
    (show Option (Bool) from
      (laws_eqOrder n x5.1 x5.2.1 x5.2.2.1 x5.2.2.2.1 x5.2.2.2.2.1 x3.1 x3.2.1 x3.2.2.1 x3.2.2.2.1 x3.2.2.2.2.1).bind fun (x6 : Bool) =>
      bif (!x6) then
        some true
      else
        some (x5.2.2.2.2.2 != x3.2.2.2.2.2)).bind fun (x7 : Bool) =>
    bif x7 then
      some false
    else
      (laws_toBook n a0_0 a0_1).bind fun (x8 : SILIILIIJLIIIJIJ) =>
      (laws_eqBook n x4.1 x4.2 x8.1 x8.2).bind fun (x9 : Bool) =>
      bif (!x9) then
        some false
      else
        (laws_markBook n x4.1 x4.2 1).bind fun (x10 : Int × Int × (List SIILIIJLIIIJI)) =>
        (show Option (Bool) from
          bif (decide (x10.1 < 0)) then
            some true
          else
            (laws_eqOrder n x5.1 x5.2.1 x5.2.2.1 x5.2.2.2.1 x5.2.2.2.2.1 x3.1 x3.2.1 x3.2.2.1 x3.2.2.2.1 x3.2.2.2.2.1).bind fun (x11 : Bool) =>
            bif (!x11) then
              some true
            else
              some (x5.2.2.2.2.2 != x3.2.2.2.2.2)).bind fun (x12 : Bool) =>
        bif x12 then
          some false
        else
          (laws_markOrder n x5.1 x5.2.1 x5.2.2.1 x5.2.2.2.1 x5.2.2.2.2.1 1).bind fun (x13 : Int × Int × Int × (List SII) × (List SIII) × Int) =>
          (laws_heldOrder n x5.1 x5.2.1 x13.2.2.2.1 x13.2.2.2.2.1 x5.2.2.2.2.1 1).bind fun (x14 : Int) =>
          bif (decide (x14 < 0)) then
            some false
          else
            bif (x14 != x13.1) then
              some false
            else
              (laws_toBook n a0_0 a0_1).bind fun (x15 : SILIILIIJLIIIJIJ) =>
              (impl_OrderOf n x15.1 x15.2 a1).bind fun (x16 : Int × Int × (List SII) × (List SIII) × Int × Bool) =>
              (show Option (Bool) from
                (laws_eqOrder n x16.1 x16.2.1 x16.2.2.1 x16.2.2.2.1 x16.2.2.2.2.1 x3.1 x3.2.1 x3.2.2.1 x3.2.2.2.1 x3.2.2.2.2.1).bind fun (x17 : Bool) =>
                bif (!x17) then
                  some true
                else
                  some (x16.2.2.2.2.2 != x3.2.2.2.2.2)).bind fun (x18 : Bool) =>
              bif x18 then
                some false
              else
                (laws_heldOrder n x5.1 x5.2.1 x13.2.2.2.1 x13.2.2.2.2.1 x5.2.2.2.2.1 1).bind fun (x19 : Int) =>
                bif (decide (x19 < 0)) then
                  some false
                else
                  bif (x19 != x13.1) then
                    some false
                  else
                    some true

end Go.Ev.N
