/- The native forms of the functions, as gen.py prints them. Conditions: none. -/
import Derived.Test.YtcilnijdhaidjaaLib3
namespace Go.Ev.N
open Go Go.Ev
set_option linter.unusedVariables false

def w64 (n : Int) : Int := IntKind.wrap .i64 n

abbrev STI := (List UInt8) × Int

abbrev SII := Int × Int

abbrev SIII := Int × Int × Int

abbrev SBII := Bool × Int × Int

abbrev SIIBI := Int × Int × Bool × Int

abbrev SIIII := Int × Int × Int × Int

abbrev SIIIBI := Int × Int × Int × Bool × Int

abbrev SIILIJ := Int × Int × (List Int)

abbrev SIILIIIJ := Int × Int × (List SIII)

abbrev SIILIIJLIIIJI := Int × Int × (List SII) × (List SIII) × Int

abbrev SLIJIBIIILIJLBIIJ := (List Int) × Int × Bool × Int × Int × Int × (List Int) × (List SBII)

abbrev SILIILIIJLIIIJIJ := Int × (List SIILIIJLIIIJI)

abbrev SIILIJLIILIIIJJILIILIIJLIIIJIJLIIIBIJLIIIIJLIJLIJI := Int × Int × (List Int) × (List SIILIIIJ) × Int × (List SIILIIJLIIIJI) × (List SIIIBI) × (List SIIII) × (List Int) × (List Int) × Int

def spec_LinkNew : Option (SLIJIBIIILIJLBIIJ) :=
  some (([] : List Int), 0, false, 0, 0, 1, ([] : List Int), ([] : List SBII))

def impl_LinkNew : Option (SLIJIBIIILIJLBIIJ) :=
  some (([] : List Int), 0, false, 0, 0, 1, ([] : List Int), ([] : List SBII))

def laws_eqIntS_L1 (a0 : List Int) (a1 : List Int) (x1 : Int) : Option ((Int) ⊕ ((Int) ⊕ (Bool))) :=
  bif (decide (x1 < ((List.length a0 : Int)))) then
    ((getI a0 x1)).bind fun (x2 : Int) =>
    ((getI a1 x1)).bind fun (x3 : Int) =>
    bif (x2 != x3) then
      some (.inr (.inr false))
    else
      some (.inl (w64 (x1 + 1)))
  else
    some (.inr (.inl x1))

def laws_eqIntS (n : Nat) (a0 : List Int) (a1 : List Int) : Option (Bool) :=
  bif (((List.length a0 : Int)) != ((List.length a1 : Int))) then
    some false
  else
    (iter n (laws_eqIntS_L1 a0 a1) 0).bind fun (x4 : (Int) ⊕ (Bool)) =>
    (match x4 with
    | .inl x5 => (
      some true)
    | .inr x6 => (
      some x6))

def laws_eqWord (a0_0 : Bool) (a0_1 : Int) (a0_2 : Int) (a1_0 : Bool) (a1_1 : Int) (a1_2 : Int) : Option (Bool) :=
  bif (a0_0 != a1_0) then
    some false
  else
    bif (a0_1 != a1_1) then
      some false
    else
      bif (a0_2 != a1_2) then
        some false
      else
        some true

def laws_eqWordS_L1 (a0 : List SBII) (a1 : List SBII) (x1 : Int) : Option ((Int) ⊕ ((Int) ⊕ (Bool))) :=
  bif (decide (x1 < ((List.length a0 : Int)))) then
    ((getI a0 x1)).bind fun (x2 : SBII) =>
    ((getI a1 x1)).bind fun (x3 : SBII) =>
    (laws_eqWord x2.1 x2.2.1 x2.2.2 x3.1 x3.2.1 x3.2.2).bind fun (x4 : Bool) =>
    bif (!x4) then
      some (.inr (.inr false))
    else
      some (.inl (w64 (x1 + 1)))
  else
    some (.inr (.inl x1))

def laws_eqWordS (n : Nat) (a0 : List SBII) (a1 : List SBII) : Option (Bool) :=
  bif (((List.length a0 : Int)) != ((List.length a1 : Int))) then
    some false
  else
    (iter n (laws_eqWordS_L1 a0 a1) 0).bind fun (x5 : (Int) ⊕ (Bool)) =>
    (match x5 with
    | .inl x6 => (
      some true)
    | .inr x7 => (
      some x7))

def laws_eqLink (n : Nat) (a0_0 : List Int) (a0_1 : Int) (a0_2 : Bool) (a0_3 : Int) (a0_4 : Int) (a0_5 : Int) (a0_6 : List Int) (a0_7 : List SBII) (a1_0 : List Int) (a1_1 : Int) (a1_2 : Bool) (a1_3 : Int) (a1_4 : Int) (a1_5 : Int) (a1_6 : List Int) (a1_7 : List SBII) : Option (Bool) :=
  (laws_eqIntS n a0_0 a1_0).bind fun (x1 : Bool) =>
  bif (!x1) then
    some false
  else
    bif (a0_1 != a1_1) then
      some false
    else
      bif (a0_2 != a1_2) then
        some false
      else
        bif (a0_3 != a1_3) then
          some false
        else
          bif (a0_4 != a1_4) then
            some false
          else
            bif (a0_5 != a1_5) then
              some false
            else
              (laws_eqIntS n a0_6 a1_6).bind fun (x2 : Bool) =>
              bif (!x2) then
                some false
              else
                (laws_eqWordS n a0_7 a1_7).bind fun (x3 : Bool) =>
                bif (!x3) then
                  some false
                else
                  some true

def laws_markIntS_L1 (x1 : SIILIJ) : Option ((SIILIJ) ⊕ (SIILIJ)) :=
  bif (decide (x1.2.1 < ((List.length x1.2.2 : Int)))) then
    bif (inb x1.2.2 x1.2.1) then
      some (.inl ((w64 (x1.1 + 1)), (w64 (x1.2.1 + 1)), (upd x1.2.2 (Int.toNat x1.2.1) x1.1)))
    else
      none
  else
    some (.inr (x1.1, x1.2.1, x1.2.2))

def laws_markIntS (n : Nat) (a0 : List Int) (a1 : Int) : Option (Int × (List Int)) :=
  (iter n (laws_markIntS_L1) (a1, 0, a0)).bind fun (x2 : SIILIJ) =>
  some (x2.1, x2.2.2)

def laws_markWordS_L1 (x1 : Int × Int × (List SBII)) : Option ((Int × Int × (List SBII)) ⊕ (Int × Int × (List SBII))) :=
  bif (decide (x1.2.1 < ((List.length x1.2.2 : Int)))) then
    bif (inb x1.2.2 x1.2.1) then
      bif (inb (List.modify x1.2.2 (Int.toNat x1.2.1) (fun (y : SBII) => (((Int.tmod x1.1 3) == 0), y.2.1, y.2.2))) x1.2.1) then
        bif (inb (List.modify (List.modify x1.2.2 (Int.toNat x1.2.1) (fun (y : SBII) => (((Int.tmod x1.1 3) == 0), y.2.1, y.2.2))) (Int.toNat x1.2.1) (fun (y : SBII) => (y.1, (w64 (x1.1 + 1)), y.2.2))) x1.2.1) then
          some (.inl ((w64 ((w64 ((w64 (x1.1 + 1)) + 1)) + 1)), (w64 (x1.2.1 + 1)), (List.modify (List.modify (List.modify x1.2.2 (Int.toNat x1.2.1) (fun (y : SBII) => (((Int.tmod x1.1 3) == 0), y.2.1, y.2.2))) (Int.toNat x1.2.1) (fun (y : SBII) => (y.1, (w64 (x1.1 + 1)), y.2.2))) (Int.toNat x1.2.1) (fun (y : SBII) => (y.1, y.2.1, (w64 ((w64 (x1.1 + 1)) + 1)))))))
        else
          none
      else
        none
    else
      none
  else
    some (.inr (x1.1, x1.2.1, x1.2.2))

def laws_markWordS (n : Nat) (a0 : List SBII) (a1 : Int) : Option (Int × (List SBII)) :=
  (iter n (laws_markWordS_L1) (a1, 0, a0)).bind fun (x2 : Int × Int × (List SBII)) =>
  some (x2.1, x2.2.2)

def laws_markLink (n : Nat) (a0_0 : List Int) (a0_1 : Int) (a0_2 : Bool) (a0_3 : Int) (a0_4 : Int) (a0_5 : Int) (a0_6 : List Int) (a0_7 : List SBII) (a1 : Int) : Option (Int × (List Int) × Int × Bool × Int × Int × Int × (List Int) × (List SBII)) :=
  (laws_markIntS n a0_0 a1).bind fun (x1 : Int × (List Int)) =>
  (laws_markIntS n a0_6 x1.1).bind fun (x2 : Int × (List Int)) =>
  (laws_markWordS n a0_7 x2.1).bind fun (x3 : Int × (List SBII)) =>
  some (x3.1, x1.2, a0_1, a0_2, a0_3, a0_4, a0_5, x2.2, x3.2)

def laws_heldIntS_L1 (a0 : List Int) (x1 : SII) : Option ((SII) ⊕ ((SII) ⊕ (Int))) :=
  bif (decide (x1.2 < ((List.length a0 : Int)))) then
    ((getI a0 x1.2)).bind fun (x2 : Int) =>
    bif (x2 != x1.1) then
      some (.inr (.inr (-1)))
    else
      some (.inl ((w64 (x1.1 + 1)), (w64 (x1.2 + 1))))
  else
    some (.inr (.inl (x1.1, x1.2)))

def laws_heldIntS (n : Nat) (a0 : List Int) (a1 : Int) : Option (Int) :=
  (iter n (laws_heldIntS_L1 a0) (a1, 0)).bind fun (x3 : (SII) ⊕ (Int)) =>
  (match x3 with
  | .inl x4 => (
    some x4.1)
  | .inr x5 => (
    some x5))

def laws_heldWordS_L1 (a0 : List SBII) (x1 : SII) : Option ((SII) ⊕ ((SII) ⊕ (Int))) :=
  bif (decide (x1.2 < ((List.length a0 : Int)))) then
    ((getI a0 x1.2)).bind fun (x2 : SBII) =>
    bif (x2.1 != ((Int.tmod x1.1 3) == 0)) then
      some (.inr (.inr (-1)))
    else
      ((getI a0 x1.2)).bind fun (x3 : SBII) =>
      bif (x3.2.1 != (w64 (x1.1 + 1))) then
        some (.inr (.inr (-1)))
      else
        ((getI a0 x1.2)).bind fun (x4 : SBII) =>
        bif (x4.2.2 != (w64 ((w64 (x1.1 + 1)) + 1))) then
          some (.inr (.inr (-1)))
        else
          some (.inl ((w64 ((w64 ((w64 (x1.1 + 1)) + 1)) + 1)), (w64 (x1.2 + 1))))
  else
    some (.inr (.inl (x1.1, x1.2)))

def laws_heldWordS (n : Nat) (a0 : List SBII) (a1 : Int) : Option (Int) :=
  (iter n (laws_heldWordS_L1 a0) (a1, 0)).bind fun (x5 : (SII) ⊕ (Int)) =>
  (match x5 with
  | .inl x6 => (
    some x6.1)
  | .inr x7 => (
    some x7))

def laws_heldLink (n : Nat) (a0_0 : List Int) (a0_1 : Int) (a0_2 : Bool) (a0_3 : Int) (a0_4 : Int) (a0_5 : Int) (a0_6 : List Int) (a0_7 : List SBII) (a1 : Int) : Option (Int) :=
  (laws_heldIntS n a0_0 a1).bind fun (x1 : Int) =>
  bif (decide (x1 < 0)) then
    some (-1)
  else
    (laws_heldIntS n a0_6 x1).bind fun (x2 : Int) =>
    bif (decide (x2 < 0)) then
      some (-1)
    else
      (laws_heldWordS n a0_7 x2).bind fun (x3 : Int) =>
      bif (decide (x3 < 0)) then
        some (-1)
      else
        some x3

def laws_FnExactLinkNew (n : Nat) : Option (Bool) :=
  (spec_LinkNew).bind fun (x1 : SLIJIBIIILIJLBIIJ) =>
  (impl_LinkNew).bind fun (x2 : SLIJIBIIILIJLBIIJ) =>
  (laws_eqLink n x2.1 x2.2.1 x2.2.2.1 x2.2.2.2.1 x2.2.2.2.2.1 x2.2.2.2.2.2.1 x2.2.2.2.2.2.2.1 x2.2.2.2.2.2.2.2 x1.1 x1.2.1 x1.2.2.1 x1.2.2.2.1 x1.2.2.2.2.1 x1.2.2.2.2.2.1 x1.2.2.2.2.2.2.1 x1.2.2.2.2.2.2.2).bind fun (x3 : Bool) =>
  bif (!x3) then
    some false
  else
    (laws_markLink n x2.1 x2.2.1 x2.2.2.1 x2.2.2.2.1 x2.2.2.2.2.1 x2.2.2.2.2.2.1 x2.2.2.2.2.2.2.1 x2.2.2.2.2.2.2.2 1).bind fun (x4 : Int × (List Int) × Int × Bool × Int × Int × Int × (List Int) × (List SBII)) =>
    (laws_heldLink n x4.2.1 x2.2.1 x2.2.2.1 x2.2.2.2.1 x2.2.2.2.2.1 x2.2.2.2.2.2.1 x4.2.2.2.2.2.2.2.1 x4.2.2.2.2.2.2.2.2 1).bind fun (x5 : Int) =>
    bif (decide (x5 < 0)) then
      some false
    else
      bif (x5 != x4.1) then
        some false
      else
        (impl_LinkNew).bind fun (x6 : SLIJIBIIILIJLBIIJ) =>
        (laws_eqLink n x6.1 x6.2.1 x6.2.2.1 x6.2.2.2.1 x6.2.2.2.2.1 x6.2.2.2.2.2.1 x6.2.2.2.2.2.2.1 x6.2.2.2.2.2.2.2 x1.1 x1.2.1 x1.2.2.1 x1.2.2.2.1 x1.2.2.2.2.1 x1.2.2.2.2.2.1 x1.2.2.2.2.2.2.1 x1.2.2.2.2.2.2.2).bind fun (x7 : Bool) =>
        bif (!x7) then
          some false
        else
          (laws_heldLink n x4.2.1 x2.2.1 x2.2.2.1 x2.2.2.2.1 x2.2.2.2.2.1 x2.2.2.2.2.2.1 x4.2.2.2.2.2.2.2.1 x4.2.2.2.2.2.2.2.2 1).bind fun (x8 : Int) =>
          bif (decide (x8 < 0)) then
            some false
          else
            bif (x8 != x4.1) then
              some false
            else
              some true

end Go.Ev.N
