/- The native forms of the functions, as gen.py prints them. Conditions: none. -/
import Derived.Test.YtjbfgbgibmebfaaLib3
namespace Go.Ev.N
open Go Go.Ev
set_option linter.unusedVariables false

def w64 (n : Int) : Int := IntKind.wrap .i64 n

abbrev STI := (List UInt8) × Int

abbrev SII := Int × Int

abbrev SIII := Int × Int × Int

abbrev SBII := Bool × Int × Int

abbrev SIIBI := Int × Int × Bool × Int

abbrev SIIII := Int × Int × Int × Int

abbrev SIIIBI := Int × Int × Int × Bool × Int

abbrev SIILIJ := Int × Int × (List Int)

abbrev SIILIIIJ := Int × Int × (List SIII)

abbrev SLIJII := (List Int) × Int × Int

abbrev SIILIIJLIIIJI := Int × Int × (List SII) × (List SIII) × Int

abbrev SIILIJLIIIBIJLIJ := Int × Int × (List Int) × (List SIIIBI) × (List Int)

abbrev SLIJIBIIILIJLBIIJ := (List Int) × Int × Bool × Int × Int × Int × (List Int) × (List SBII)

abbrev SILIILIIJLIIIJIJ := Int × (List SIILIIJLIIIJI)

abbrev SIILIJLIIIBIJLLIJJLIJ := Int × Int × (List Int) × (List SIIIBI) × (List ((List Int))) × (List Int)

abbrev SIILIJLIILIIIJJILIILIIJLIIIJIJLIIIBIJLIIIIJLIJLIJI := Int × Int × (List Int) × (List SIILIIIJ) × Int × (List SIILIIJLIIIJI) × (List SIIIBI) × (List SIIII) × (List Int) × (List Int) × Int

def laws_szIntS (a0 : List Int) (a1 : Int) : Option (Int) :=
  bif (decide ((w64 (a1 - ((List.length a0 : Int)))) < 0)) then
    some (-1)
  else
    some (w64 (a1 - ((List.length a0 : Int))))

def laws_szWordS (a0 : List SBII) (a1 : Int) : Option (Int) :=
  bif (decide ((w64 (a1 - ((List.length a0 : Int)))) < 0)) then
    some (-1)
  else
    some (w64 (a1 - ((List.length a0 : Int))))

def laws_szLink (a0_0 : List Int) (a0_1 : Int) (a0_2 : Bool) (a0_3 : Int) (a0_4 : Int) (a0_5 : Int) (a0_6 : List Int) (a0_7 : List SBII) (a1 : Int) : Option (Int) :=
  (laws_szIntS a0_0 a1).bind fun (x1 : Int) =>
  bif (decide (x1 < 0)) then
    some (-1)
  else
    (laws_szIntS a0_6 x1).bind fun (x2 : Int) =>
    bif (decide (x2 < 0)) then
      some (-1)
    else
      (laws_szWordS a0_7 x2).bind fun (x3 : Int) =>
      bif (decide (x3 < 0)) then
        some (-1)
      else
        some x3

def laws_toIntS_L1 (a0 : List Int) (x1 : Int × (List Int)) : Option ((Int × (List Int)) ⊕ (Int × (List Int))) :=
  bif (decide (x1.1 < ((List.length a0 : Int)))) then
    ((getI a0 x1.1)).bind fun (x2 : Int) =>
    bif (inb x1.2 x1.1) then
      some (.inl ((w64 (x1.1 + 1)), (upd x1.2 (Int.toNat x1.1) x2)))
    else
      none
  else
    some (.inr (x1.1, x1.2))

def laws_toIntS (n : Nat) (a0 : List Int) : Option ((List Int)) :=
  bif (decide (0 ≤ ((List.length a0 : Int))) && decide (((List.length a0 : Int)) ≤ (maxRow : Int)) && decide (((List.length a0 : Int)) = ((List.length a0 : Int)))) then
    (iter n (laws_toIntS_L1 a0) (0, (List.replicate (Int.toNat ((List.length a0 : Int))) (0 : Int)))).bind fun (x3 : Int × (List Int)) =>
    some x3.2
  else
    none

def laws_toWord (a0_0 : Bool) (a0_1 : Int) (a0_2 : Int) : Option (SBII) :=
  some (a0_0, a0_1, a0_2)

def laws_toWordS_L1 (a0 : List SBII) (x1 : Int × (List SBII)) : Option ((Int × (List SBII)) ⊕ (Int × (List SBII))) :=
  bif (decide (x1.1 < ((List.length a0 : Int)))) then
    ((getI a0 x1.1)).bind fun (x2 : SBII) =>
    (laws_toWord x2.1 x2.2.1 x2.2.2).bind fun (x3 : SBII) =>
    bif (inb x1.2 x1.1) then
      some (.inl ((w64 (x1.1 + 1)), (upd x1.2 (Int.toNat x1.1) (x3.1, x3.2.1, x3.2.2))))
    else
      none
  else
    some (.inr (x1.1, x1.2))

def laws_toWordS (n : Nat) (a0 : List SBII) : Option ((List SBII)) :=
  bif (decide (0 ≤ ((List.length a0 : Int))) && decide (((List.length a0 : Int)) ≤ (maxRow : Int)) && decide (((List.length a0 : Int)) = ((List.length a0 : Int)))) then
    (iter n (laws_toWordS_L1 a0) (0, (List.replicate (Int.toNat ((List.length a0 : Int))) ((false, 0, 0) : SBII)))).bind fun (x4 : Int × (List SBII)) =>
    some x4.2
  else
    none

def laws_toLink (n : Nat) (a0_0 : List Int) (a0_1 : Int) (a0_2 : Bool) (a0_3 : Int) (a0_4 : Int) (a0_5 : Int) (a0_6 : List Int) (a0_7 : List SBII) : Option (SLIJIBIIILIJLBIIJ) :=
  (laws_toIntS n a0_0).bind fun (x1 : (List Int)) =>
  (laws_toIntS n a0_6).bind fun (x2 : (List Int)) =>
  (laws_toWordS n a0_7).bind fun (x3 : (List SBII)) =>
  some (x1, a0_1, a0_2, a0_3, a0_4, a0_5, x2, x3)

def spec_l10Copy (a0_0 : List Int) (a0_1 : Int) (a0_2 : Bool) (a0_3 : Int) (a0_4 : Int) (a0_5 : Int) (a0_6 : List Int) (a0_7 : List SBII) : Option (SLIJIBIIILIJLBIIJ) :=
  bif (decide (List.length ([] : List Int) + List.length a0_0 ≤ maxRow)) then
    bif (decide (List.length ([] : List Int) + List.length a0_6 ≤ maxRow)) then
      bif (decide (List.length ([] : List SBII) + List.length a0_7 ≤ maxRow)) then
        some ((([] : List Int) ++ a0_0), a0_1, a0_2, a0_3, a0_4, a0_5, (([] : List Int) ++ a0_6), (([] : List SBII) ++ a0_7))
      else
        none
    else
      none
  else
    none

def spec_l1In (a0 : Int) (a1 : Int) (a2 : Int) : Option (Bool) :=
  (show Option (Bool) from
    bif (decide (a0 ≥ a1)) then
      some (decide (a0 ≤ a2))
    else
      some false).bind fun (x1 : Bool) =>
  some x1

def spec_l10Whats_L1 (a0 : List Int) (x1 : Int) : Option ((Int) ⊕ ((Int) ⊕ (Bool))) :=
  bif (decide (x1 < ((List.length a0 : Int)))) then
    ((getI a0 x1)).bind fun (x2 : Int) =>
    (spec_l1In x2 0 9999).bind fun (x3 : Bool) =>
    bif (!x3) then
      some (.inr (.inr false))
    else
      some (.inl (w64 (x1 + 1)))
  else
    some (.inr (.inl x1))

def spec_l10Whats (n : Nat) (a0 : List Int) : Option (Bool) :=
  (iter n (spec_l10Whats_L1 a0) 0).bind fun (x4 : (Int) ⊕ (Bool)) =>
  (match x4 with
  | .inl x5 => (
    some true)
  | .inr x6 => (
    some x6))

def spec_LinkOk_L1 (a0_7 : List SBII) (x7 : Int) : Option ((Int) ⊕ ((Int) ⊕ (Bool))) :=
  bif (decide (x7 < ((List.length a0_7 : Int)))) then
    ((getI a0_7 x7)).bind fun (x8 : SBII) =>
    (show Option (Bool) from
      (spec_l1In x8.2.1 1 1000001).bind fun (x9 : Bool) =>
      bif (!x9) then
        some true
      else
        (spec_l1In x8.2.2 0 9999).bind fun (x10 : Bool) =>
        bif (!x10) then
          some true
        else
          bif x8.1 then
            some (x8.2.2 != 0)
          else
            some false).bind fun (x11 : Bool) =>
    bif x11 then
      some (.inr (.inr false))
    else
      some (.inl (w64 (x7 + 1)))
  else
    some (.inr (.inl x7))

def spec_LinkOk (n : Nat) (a0_0 : List Int) (a0_1 : Int) (a0_2 : Bool) (a0_3 : Int) (a0_4 : Int) (a0_5 : Int) (a0_6 : List Int) (a0_7 : List SBII) : Option (Bool) :=
  (show Option (Bool) from
    bif (decide (((List.length a0_0 : Int)) > 40)) then
      some true
    else
      bif (decide (((List.length a0_6 : Int)) > 10000)) then
        some true
      else
        bif (decide (((List.length a0_7 : Int)) > 30)) then
          some true
        else
          (spec_l1In a0_1 0 1000000).bind fun (x1 : Bool) =>
          bif (!x1) then
            some true
          else
            (spec_l1In a0_4 0 10000000).bind fun (x2 : Bool) =>
            bif (!x2) then
              some true
            else
              (spec_l1In a0_3 0 10000000).bind fun (x3 : Bool) =>
              bif (!x3) then
                some true
              else
                (spec_l10Whats n a0_0).bind fun (x4 : Bool) =>
                bif (!x4) then
                  some true
                else
                  (spec_l10Whats n a0_6).bind fun (x5 : Bool) =>
                  some (!x5)).bind fun (x6 : Bool) =>
  bif x6 then
    some false
  else
    (iter n (spec_LinkOk_L1 a0_7) 0).bind fun (x12 : (Int) ⊕ (Bool)) =>
    (match x12 with
    | .inl x13 => (
      (show Option (Bool) from
        bif (a0_5 == a0_1) then
          bif (((List.length a0_6 : Int)) == (w64 (a0_5 - 1))) then
            bif (!a0_2) then
              some true
            else
              some (decide (((List.length a0_0 : Int)) > 0))
          else
            some false
        else
          bif (a0_5 == (w64 (a0_1 + 1))) then
            bif (((List.length a0_6 : Int)) == (w64 (a0_5 - 1))) then
              bif (!a0_2) then
                some true
              else
                some (decide (((List.length a0_0 : Int)) > 0))
            else
              some false
          else
            some false).bind fun (x15 : Bool) =>
      some x15)
    | .inr x14 => (
      some x14))

def spec_l10Says (a0_0 : List Int) (a0_1 : Int) (a0_2 : Bool) (a0_3 : Int) (a0_4 : Int) (a0_5 : Int) (a0_6 : List Int) (a0_7 : List SBII) (a1_0 : Bool) (a1_1 : Int) (a1_2 : Int) : Option (SLIJIBIIILIJLBIIJ) :=
  bif (decide (((List.length a0_7 : Int)) < 30)) then
    bif (decide (List.length a0_7 + List.length [(a1_0, a1_1, a1_2)] ≤ maxRow)) then
      some (a0_0, a0_1, a0_2, a0_3, a0_4, a0_5, a0_6, (a0_7 ++ [(a1_0, a1_1, a1_2)]))
    else
      none
  else
    some (a0_0, a0_1, a0_2, a0_3, a0_4, a0_5, a0_6, a0_7)

def spec_l10Tick (a0_0 : List Int) (a0_1 : Int) (a0_2 : Bool) (a0_3 : Int) (a0_4 : Int) (a0_5 : Int) (a0_6 : List Int) (a0_7 : List SBII) : Option (SLIJIBIIILIJLBIIJ) :=
  (show Option (SLIJIBIIILIJLBIIJ) from
    bif (decide (a0_4 < 9999997)) then
      some (a0_0, a0_1, a0_2, a0_3, (w64 (a0_4 + 1)), a0_5, a0_6, a0_7)
    else
      some (a0_0, a0_1, a0_2, a0_3, a0_4, a0_5, a0_6, a0_7)).bind fun (x1 : SLIJIBIIILIJLBIIJ) =>
  (show Option (Bool) from
    bif (!x1.2.2.1) then
      bif (decide (((List.length x1.1 : Int)) > 0)) then
        some (decide (x1.2.1 < 1000000))
      else
        some false
    else
      some false).bind fun (x2 : Bool) =>
  bif x2 then
    bif (inb x1.1 0) then
      ((x1.1[(Int.toNat 0)]?)).bind fun (x3 : Int) =>
      (spec_l10Says x1.1 (w64 (x1.2.1 + 1)) true (w64 (x1.2.2.2.2.1 + 3)) x1.2.2.2.2.1 x1.2.2.2.2.2.1 x1.2.2.2.2.2.2.1 x1.2.2.2.2.2.2.2 false (w64 (x1.2.1 + 1)) x3).bind fun (x4 : SLIJIBIIILIJLBIIJ) =>
      some (x4.1, x4.2.1, x4.2.2.1, x4.2.2.2.1, x4.2.2.2.2.1, x4.2.2.2.2.2.1, x4.2.2.2.2.2.2.1, x4.2.2.2.2.2.2.2)
    else
      none
  else
    (show Option (Bool) from
      bif x1.2.2.1 then
        some (decide (x1.2.2.2.2.1 ≥ x1.2.2.2.1))
      else
        some false).bind fun (x5 : Bool) =>
    bif x5 then
      bif (inb x1.1 0) then
        ((x1.1[(Int.toNat 0)]?)).bind fun (x6 : Int) =>
        (spec_l10Says x1.1 x1.2.1 x1.2.2.1 (w64 (x1.2.2.2.2.1 + 3)) x1.2.2.2.2.1 x1.2.2.2.2.2.1 x1.2.2.2.2.2.2.1 x1.2.2.2.2.2.2.2 false x1.2.1 x6).bind fun (x7 : SLIJIBIIILIJLBIIJ) =>
        some (x7.1, x7.2.1, x7.2.2.1, x7.2.2.2.1, x7.2.2.2.2.1, x7.2.2.2.2.2.1, x7.2.2.2.2.2.2.1, x7.2.2.2.2.2.2.2)
      else
        none
    else
      some (x1.1, x1.2.1, x1.2.2.1, x1.2.2.2.1, x1.2.2.2.2.1, x1.2.2.2.2.2.1, x1.2.2.2.2.2.2.1, x1.2.2.2.2.2.2.2)

def spec_l10Hear (a0_0 : List Int) (a0_1 : Int) (a0_2 : Bool) (a0_3 : Int) (a0_4 : Int) (a0_5 : Int) (a0_6 : List Int) (a0_7 : List SBII) (a1_0 : Bool) (a1_1 : Int) (a1_2 : Int) : Option (SLIJIBIIILIJLBIIJ) :=
  bif a1_0 then
    (show Option (Bool) from
      bif a0_2 then
        some (a1_1 == a0_1)
      else
        some false).bind fun (x1 : Bool) =>
    bif x1 then
      bif (decide (0 ≤ 1) && decide (1 ≤ ((List.length a0_0 : Int))) && decide (((List.length a0_0 : Int)) ≤ ((List.length a0_0 : Int)))) then
        bif (decide (List.length ([] : List Int) + List.length (sub a0_0 (Int.toNat 1) (Int.toNat ((List.length a0_0 : Int)))) ≤ maxRow)) then
          some ((([] : List Int) ++ (sub a0_0 (Int.toNat 1) (Int.toNat ((List.length a0_0 : Int))))), a0_1, false, a0_3, a0_4, a0_5, a0_6, a0_7)
        else
          none
      else
        none
    else
      some (a0_0, a0_1, a0_2, a0_3, a0_4, a0_5, a0_6, a0_7)
  else
    (show Option (SLIJIBIIILIJLBIIJ) from
      (show Option (Bool) from
        bif (a1_1 == a0_5) then
          some (decide (((List.length a0_6 : Int)) < 10000))
        else
          some false).bind fun (x3 : Bool) =>
      bif x3 then
        bif (decide (List.length a0_6 + List.length [a1_2] ≤ maxRow)) then
          some (a0_0, a0_1, a0_2, a0_3, a0_4, (w64 (a0_5 + 1)), (a0_6 ++ [a1_2]), a0_7)
        else
          none
      else
        some (a0_0, a0_1, a0_2, a0_3, a0_4, a0_5, a0_6, a0_7)).bind fun (x2 : SLIJIBIIILIJLBIIJ) =>
    bif (decide (a1_1 < x2.2.2.2.2.2.1)) then
      (spec_l10Says x2.1 x2.2.1 x2.2.2.1 x2.2.2.2.1 x2.2.2.2.2.1 x2.2.2.2.2.2.1 x2.2.2.2.2.2.2.1 x2.2.2.2.2.2.2.2 true a1_1 0).bind fun (x4 : SLIJIBIIILIJLBIIJ) =>
      some (x4.1, x4.2.1, x4.2.2.1, x4.2.2.2.1, x4.2.2.2.2.1, x4.2.2.2.2.2.1, x4.2.2.2.2.2.2.1, x4.2.2.2.2.2.2.2)
    else
      some (x2.1, x2.2.1, x2.2.2.1, x2.2.2.2.1, x2.2.2.2.2.1, x2.2.2.2.2.2.1, x2.2.2.2.2.2.2.1, x2.2.2.2.2.2.2.2)

def spec_l10Do (a0_0 : List Int) (a0_1 : Int) (a0_2 : Bool) (a0_3 : Int) (a0_4 : Int) (a0_5 : Int) (a0_6 : List Int) (a0_7 : List SBII) (a1 : Int) (a2 : Int) : Option (Bool × (List Int) × Int × Bool × Int × Int × Int × (List Int) × (List SBII)) :=
  bif (a1 == 1) then
    (spec_l10Tick a0_0 a0_1 a0_2 a0_3 a0_4 a0_5 a0_6 a0_7).bind fun (x1 : SLIJIBIIILIJLBIIJ) =>
    some (true, x1.1, x1.2.1, x1.2.2.1, x1.2.2.2.1, x1.2.2.2.2.1, x1.2.2.2.2.2.1, x1.2.2.2.2.2.2.1, x1.2.2.2.2.2.2.2)
  else
    (show Option (Bool) from
      (spec_l1In a1 2 4).bind fun (x2 : Bool) =>
      bif (!x2) then
        some true
      else
        (spec_l1In a2 0 (w64 (((List.length a0_7 : Int)) - 1))).bind fun (x3 : Bool) =>
        bif (!x3) then
          some true
        else
          bif (a1 == 4) then
            some (((List.length a0_7 : Int)) == 30)
          else
            some false).bind fun (x4 : Bool) =>
    bif x4 then
      some (false, a0_0, a0_1, a0_2, a0_3, a0_4, a0_5, a0_6, a0_7)
    else
      bif (inb a0_7 a2) then
        ((a0_7[(Int.toNat a2)]?)).bind fun (x5 : SBII) =>
        bif (a1 == 4) then
          bif (decide (List.length a0_7 + List.length [(x5.1, x5.2.1, x5.2.2)] ≤ maxRow)) then
            some (true, a0_0, a0_1, a0_2, a0_3, a0_4, a0_5, a0_6, (a0_7 ++ [(x5.1, x5.2.1, x5.2.2)]))
          else
            none
        else
          bif (decide (0 ≤ (0 : Int)) && decide ((0 : Int) ≤ a2) && decide (a2 ≤ ((List.length a0_7 : Int)))) then
            bif (decide (List.length ([] : List SBII) + List.length (sub a0_7 (Int.toNat (0 : Int)) (Int.toNat a2)) ≤ maxRow)) then
              bif (decide (0 ≤ (w64 (a2 + 1))) && decide ((w64 (a2 + 1)) ≤ ((List.length a0_7 : Int))) && decide (((List.length a0_7 : Int)) ≤ ((List.length a0_7 : Int)))) then
                bif (decide (List.length (([] : List SBII) ++ (sub a0_7 (Int.toNat (0 : Int)) (Int.toNat a2))) + List.length (sub a0_7 (Int.toNat (w64 (a2 + 1))) (Int.toNat ((List.length a0_7 : Int)))) ≤ maxRow)) then
                  (show Option (SLIJIBIIILIJLBIIJ) from
                    bif (a1 == 2) then
                      (spec_l10Hear a0_0 a0_1 a0_2 a0_3 a0_4 a0_5 a0_6 ((([] : List SBII) ++ (sub a0_7 (Int.toNat (0 : Int)) (Int.toNat a2))) ++ (sub a0_7 (Int.toNat (w64 (a2 + 1))) (Int.toNat ((List.length a0_7 : Int))))) x5.1 x5.2.1 x5.2.2).bind fun (x7 : SLIJIBIIILIJLBIIJ) =>
                      some (x7.1, x7.2.1, x7.2.2.1, x7.2.2.2.1, x7.2.2.2.2.1, x7.2.2.2.2.2.1, x7.2.2.2.2.2.2.1, x7.2.2.2.2.2.2.2)
                    else
                      some (a0_0, a0_1, a0_2, a0_3, a0_4, a0_5, a0_6, ((([] : List SBII) ++ (sub a0_7 (Int.toNat (0 : Int)) (Int.toNat a2))) ++ (sub a0_7 (Int.toNat (w64 (a2 + 1))) (Int.toNat ((List.length a0_7 : Int))))))).bind fun (x6 : SLIJIBIIILIJLBIIJ) =>
                  some (true, x6.1, x6.2.1, x6.2.2.1, x6.2.2.2.1, x6.2.2.2.2.1, x6.2.2.2.2.2.1, x6.2.2.2.2.2.2.1, x6.2.2.2.2.2.2.2)
                else
                  none
              else
                none
            else
              none
          else
            none
      else
        none

def spec_Calm_L2 (x6 : Int × (List Int) × Int × Bool × Int × Int × Int × (List Int) × (List SBII)) : Option ((Int × (List Int) × Int × Bool × Int × Int × Int × (List Int) × (List SBII)) ⊕ (Int × (List Int) × Int × Bool × Int × Int × Int × (List Int) × (List SBII))) :=
  (show Option (Bool) from
    bif (decide (x6.1 < 60)) then
      some (decide (((List.length x6.2.2.2.2.2.2.2.2 : Int)) > 0))
    else
      some false).bind fun (x7 : Bool) =>
  bif x7 then
    (spec_l10Do x6.2.1 x6.2.2.1 x6.2.2.2.1 x6.2.2.2.2.1 x6.2.2.2.2.2.1 x6.2.2.2.2.2.2.1 x6.2.2.2.2.2.2.2.1 x6.2.2.2.2.2.2.2.2 2 0).bind fun (x8 : Bool × (List Int) × Int × Bool × Int × Int × Int × (List Int) × (List SBII)) =>
    some (.inl ((w64 (x6.1 + 1)), x8.2.1, x8.2.2.1, x8.2.2.2.1, x8.2.2.2.2.1, x8.2.2.2.2.2.1, x8.2.2.2.2.2.2.1, x8.2.2.2.2.2.2.2.1, x8.2.2.2.2.2.2.2.2))
  else
    some (.inr (x6.1, x6.2.1, x6.2.2.1, x6.2.2.2.1, x6.2.2.2.2.1, x6.2.2.2.2.2.1, x6.2.2.2.2.2.2.1, x6.2.2.2.2.2.2.2.1, x6.2.2.2.2.2.2.2.2))

def spec_Calm_L1 (n : Nat) (a0_0 : List Int) (a0_1 : Int) (a0_2 : Bool) (a0_3 : Int) (a0_4 : Int) (a0_5 : Int) (a0_6 : List Int) (a0_7 : List SBII) (x2 : Int × (List Int) × Int × Bool × Int × Int × Int × (List Int) × (List SBII)) : Option ((Int × (List Int) × Int × Bool × Int × Int × Int × (List Int) × (List SBII)) ⊕ (Int × (List Int) × Int × Bool × Int × Int × Int × (List Int) × (List SBII))) :=
  (show Option (Bool) from
    bif (decide (x2.1 < 200)) then
      (spec_LinkOk n a0_0 a0_1 a0_2 a0_3 a0_4 a0_5 a0_6 a0_7).bind fun (x3 : Bool) =>
      bif x3 then
        bif (decide (((List.length x2.2.1 : Int)) > 0)) then
          some true
        else
          some (decide (((List.length x2.2.2.2.2.2.2.2.2 : Int)) > 0))
      else
        some false
    else
      some false).bind fun (x4 : Bool) =>
  bif x4 then
    (spec_l10Tick x2.2.1 x2.2.2.1 x2.2.2.2.1 x2.2.2.2.2.1 x2.2.2.2.2.2.1 x2.2.2.2.2.2.2.1 x2.2.2.2.2.2.2.2.1 x2.2.2.2.2.2.2.2.2).bind fun (x5 : SLIJIBIIILIJLBIIJ) =>
    (iter n (spec_Calm_L2) (0, x5.1, x5.2.1, x5.2.2.1, x5.2.2.2.1, x5.2.2.2.2.1, x5.2.2.2.2.2.1, x5.2.2.2.2.2.2.1, x5.2.2.2.2.2.2.2)).bind fun (x9 : Int × (List Int) × Int × Bool × Int × Int × Int × (List Int) × (List SBII)) =>
    some (.inl ((w64 (x2.1 + 1)), x9.2.1, x9.2.2.1, x9.2.2.2.1, x9.2.2.2.2.1, x9.2.2.2.2.2.1, x9.2.2.2.2.2.2.1, x9.2.2.2.2.2.2.2.1, x9.2.2.2.2.2.2.2.2))
  else
    some (.inr (x2.1, x2.2.1, x2.2.2.1, x2.2.2.2.1, x2.2.2.2.2.1, x2.2.2.2.2.2.1, x2.2.2.2.2.2.2.1, x2.2.2.2.2.2.2.2.1, x2.2.2.2.2.2.2.2.2))

def spec_Calm (n : Nat) (a0_0 : List Int) (a0_1 : Int) (a0_2 : Bool) (a0_3 : Int) (a0_4 : Int) (a0_5 : Int) (a0_6 : List Int) (a0_7 : List SBII) : Option (SLIJIBIIILIJLBIIJ) :=
  (spec_l10Copy a0_0 a0_1 a0_2 a0_3 a0_4 a0_5 a0_6 a0_7).bind fun (x1 : SLIJIBIIILIJLBIIJ) =>
  (iter n (spec_Calm_L1 n a0_0 a0_1 a0_2 a0_3 a0_4 a0_5 a0_6 a0_7) (0, x1.1, x1.2.1, x1.2.2.1, x1.2.2.2.1, x1.2.2.2.2.1, x1.2.2.2.2.2.1, x1.2.2.2.2.2.2.1, x1.2.2.2.2.2.2.2)).bind fun (x10 : Int × (List Int) × Int × Bool × Int × Int × Int × (List Int) × (List SBII)) =>
  some (x10.2.1, x10.2.2.1, x10.2.2.2.1, x10.2.2.2.2.1, x10.2.2.2.2.2.1, x10.2.2.2.2.2.2.1, x10.2.2.2.2.2.2.2.1, x10.2.2.2.2.2.2.2.2)

def impl_copyInts (a0 : List Int) : Option ((List Int)) :=
  bif (decide (List.length a0 ≤ maxRow)) then
    some a0
  else
    none

def impl_copyLink (a0_0 : List Int) (a0_1 : Int) (a0_2 : Bool) (a0_3 : Int) (a0_4 : Int) (a0_5 : Int) (a0_6 : List Int) (a0_7 : List SBII) : Option (SLIJIBIIILIJLBIIJ) :=
  (impl_copyInts a0_0).bind fun (x1 : (List Int)) =>
  (impl_copyInts a0_6).bind fun (x2 : (List Int)) =>
  bif (decide (List.length a0_7 ≤ maxRow)) then
    some (x1, a0_1, a0_2, a0_3, a0_4, a0_5, x2, a0_7)
  else
    none

def impl_in (a0 : Int) (a1 : Int) (a2 : Int) : Option (Bool) :=
  (show Option (Bool) from
    bif (decide (a0 ≥ a1)) then
      some (decide (a0 ≤ a2))
    else
      some false).bind fun (x1 : Bool) =>
  some x1

def impl_whatsOk_L1 (a0 : List Int) (x1 : Int) : Option ((Int) ⊕ ((Int) ⊕ (Bool))) :=
  bif (decide (x1 < ((List.length a0 : Int)))) then
    ((getI a0 x1)).bind fun (x2 : Int) =>
    (impl_in x2 0 9999).bind fun (x3 : Bool) =>
    bif (!x3) then
      some (.inr (.inr false))
    else
      some (.inl (w64 (x1 + 1)))
  else
    some (.inr (.inl x1))

def impl_whatsOk (n : Nat) (a0 : List Int) : Option (Bool) :=
  (iter n (impl_whatsOk_L1 a0) 0).bind fun (x4 : (Int) ⊕ (Bool)) =>
  (match x4 with
  | .inl x5 => (
    some true)
  | .inr x6 => (
    some x6))

def impl_airOk_L1 (a0 : List SBII) (x1 : Int) : Option ((Int) ⊕ ((Int) ⊕ (Bool))) :=
  bif (decide (x1 < ((List.length a0 : Int)))) then
    ((getI a0 x1)).bind fun (x2 : SBII) =>
    (show Option (Bool) from
      (impl_in x2.2.1 1 1000001).bind fun (x3 : Bool) =>
      bif (!x3) then
        some true
      else
        (impl_in x2.2.2 0 9999).bind fun (x4 : Bool) =>
        bif (!x4) then
          some true
        else
          bif x2.1 then
            some (x2.2.2 != 0)
          else
            some false).bind fun (x5 : Bool) =>
    bif x5 then
      some (.inr (.inr false))
    else
      some (.inl (w64 (x1 + 1)))
  else
    some (.inr (.inl x1))

def impl_airOk (n : Nat) (a0 : List SBII) : Option (Bool) :=
  (iter n (impl_airOk_L1 a0) 0).bind fun (x6 : (Int) ⊕ (Bool)) =>
  (match x6 with
  | .inl x7 => (
    some (decide (((List.length a0 : Int)) ≤ 30)))
  | .inr x8 => (
    some x8))

def impl_LinkOk (n : Nat) (a0_0 : List Int) (a0_1 : Int) (a0_2 : Bool) (a0_3 : Int) (a0_4 : Int) (a0_5 : Int) (a0_6 : List Int) (a0_7 : List SBII) : Option (Bool) :=
  (show Option (Bool) from
    bif (decide (((List.length a0_0 : Int)) > 40)) then
      some true
    else
      bif (decide (((List.length a0_6 : Int)) > 10000)) then
        some true
      else
        (impl_whatsOk n a0_0).bind fun (x1 : Bool) =>
        bif (!x1) then
          some true
        else
          (impl_whatsOk n a0_6).bind fun (x2 : Bool) =>
          bif (!x2) then
            some true
          else
            (impl_airOk n a0_7).bind fun (x3 : Bool) =>
            some (!x3)).bind fun (x4 : Bool) =>
  bif x4 then
    some false
  else
    (show Option (Bool) from
      (impl_in a0_1 0 1000000).bind fun (x5 : Bool) =>
      bif (!x5) then
        some true
      else
        (impl_in a0_5 0 1000000).bind fun (x6 : Bool) =>
        bif (!x6) then
          some true
        else
          (impl_in a0_4 0 10000000).bind fun (x7 : Bool) =>
          bif (!x7) then
            some true
          else
            (impl_in a0_3 0 10000000).bind fun (x8 : Bool) =>
            some (!x8)).bind fun (x9 : Bool) =>
    bif x9 then
      some false
    else
      (show Option (Bool) from
        (impl_in (w64 (a0_5 - a0_1)) 0 1).bind fun (x10 : Bool) =>
        bif x10 then
          bif (((List.length a0_6 : Int)) == (w64 (a0_5 - 1))) then
            bif (!a0_2) then
              some true
            else
              some (decide (((List.length a0_0 : Int)) > 0))
          else
            some false
        else
          some false).bind fun (x11 : Bool) =>
      some x11

def impl_Link_say (a0_0 : List Int) (a0_1 : Int) (a0_2 : Bool) (a0_3 : Int) (a0_4 : Int) (a0_5 : Int) (a0_6 : List Int) (a0_7 : List SBII) (a1_0 : Bool) (a1_1 : Int) (a1_2 : Int) : Option (SLIJIBIIILIJLBIIJ) :=
  bif (decide (((List.length a0_7 : Int)) < 30)) then
    bif (decide (List.length a0_7 + List.length [(a1_0, a1_1, a1_2)] ≤ maxRow)) then
      some (a0_0, a0_1, a0_2, a0_3, a0_4, a0_5, a0_6, (a0_7 ++ [(a1_0, a1_1, a1_2)]))
    else
      none
  else
    some (a0_0, a0_1, a0_2, a0_3, a0_4, a0_5, a0_6, a0_7)

def impl_Link_tick (a0_0 : List Int) (a0_1 : Int) (a0_2 : Bool) (a0_3 : Int) (a0_4 : Int) (a0_5 : Int) (a0_6 : List Int) (a0_7 : List SBII) : Option (SLIJIBIIILIJLBIIJ) :=
  (show Option (SLIJIBIIILIJLBIIJ) from
    bif (decide (a0_4 < 9999997)) then
      some (a0_0, a0_1, a0_2, a0_3, (w64 (a0_4 + 1)), a0_5, a0_6, a0_7)
    else
      some (a0_0, a0_1, a0_2, a0_3, a0_4, a0_5, a0_6, a0_7)).bind fun (x1 : SLIJIBIIILIJLBIIJ) =>
  (show Option ((SLIJIBIIILIJLBIIJ) ⊕ (SLIJIBIIILIJLBIIJ)) from
    (show Option (Bool) from
      bif (!x1.2.2.1) then
        bif (decide (((List.length x1.1 : Int)) > 0)) then
          some (decide (x1.2.1 < 1000000))
        else
          some false
      else
        some false).bind fun (x3 : Bool) =>
    bif x3 then
      some (.inl (x1.1, (w64 (x1.2.1 + 1)), true, x1.2.2.2.1, x1.2.2.2.2.1, x1.2.2.2.2.2.1, x1.2.2.2.2.2.2.1, x1.2.2.2.2.2.2.2))
    else
      (show Option (Bool) from
        bif x1.2.2.1 then
          some (decide (x1.2.2.2.2.1 ≥ x1.2.2.2.1))
        else
          some false).bind fun (x4 : Bool) =>
      bif x4 then
        some (.inl (x1.1, x1.2.1, x1.2.2.1, x1.2.2.2.1, x1.2.2.2.2.1, x1.2.2.2.2.2.1, x1.2.2.2.2.2.2.1, x1.2.2.2.2.2.2.2))
      else
        some (.inr (x1.1, x1.2.1, x1.2.2.1, x1.2.2.2.1, x1.2.2.2.2.1, x1.2.2.2.2.2.1, x1.2.2.2.2.2.2.1, x1.2.2.2.2.2.2.2))).bind fun (x2 : (SLIJIBIIILIJLBIIJ) ⊕ (SLIJIBIIILIJLBIIJ)) =>
  (match x2 with
  | .inl x5 => (
    bif (inb x5.1 0) then
      ((x5.1[(Int.toNat 0)]?)).bind fun (x7 : Int) =>
      (impl_Link_say x5.1 x5.2.1 x5.2.2.1 (w64 (x5.2.2.2.2.1 + 3)) x5.2.2.2.2.1 x5.2.2.2.2.2.1 x5.2.2.2.2.2.2.1 x5.2.2.2.2.2.2.2 false x5.2.1 x7).bind fun (x8 : SLIJIBIIILIJLBIIJ) =>
      some (x8.1, x8.2.1, x8.2.2.1, x8.2.2.2.1, x8.2.2.2.2.1, x8.2.2.2.2.2.1, x8.2.2.2.2.2.2.1, x8.2.2.2.2.2.2.2)
    else
      none)
  | .inr x6 => (
    some x6))

def impl_Link_drop (a0_0 : List Int) (a0_1 : Int) (a0_2 : Bool) (a0_3 : Int) (a0_4 : Int) (a0_5 : Int) (a0_6 : List Int) (a0_7 : List SBII) (a1 : Int) : Option (Bool × Int × Int × (List Int) × Int × Bool × Int × Int × Int × (List Int) × (List SBII)) :=
  bif (inb a0_7 a1) then
    ((a0_7[(Int.toNat a1)]?)).bind fun (x1 : SBII) =>
    bif (decide (0 ≤ (0 : Int)) && decide ((0 : Int) ≤ a1) && decide (a1 ≤ ((List.length a0_7 : Int)))) then
      bif (decide (List.length (sub a0_7 (Int.toNat (0 : Int)) (Int.toNat a1)) ≤ maxRow)) then
        bif (decide (0 ≤ (w64 (a1 + 1))) && decide ((w64 (a1 + 1)) ≤ ((List.length a0_7 : Int))) && decide (((List.length a0_7 : Int)) ≤ ((List.length a0_7 : Int)))) then
          bif (decide (List.length (sub a0_7 (Int.toNat (0 : Int)) (Int.toNat a1)) + List.length (sub a0_7 (Int.toNat (w64 (a1 + 1))) (Int.toNat ((List.length a0_7 : Int)))) ≤ maxRow)) then
            some (x1.1, x1.2.1, x1.2.2, a0_0, a0_1, a0_2, a0_3, a0_4, a0_5, a0_6, ((sub a0_7 (Int.toNat (0 : Int)) (Int.toNat a1)) ++ (sub a0_7 (Int.toNat (w64 (a1 + 1))) (Int.toNat ((List.length a0_7 : Int))))))
          else
            none
        else
          none
      else
        none
    else
      none
  else
    none

def impl_Link_hear (a0_0 : List Int) (a0_1 : Int) (a0_2 : Bool) (a0_3 : Int) (a0_4 : Int) (a0_5 : Int) (a0_6 : List Int) (a0_7 : List SBII) (a1 : Int) : Option (SLIJIBIIILIJLBIIJ) :=
  (impl_Link_drop a0_0 a0_1 a0_2 a0_3 a0_4 a0_5 a0_6 a0_7 a1).bind fun (x1 : Bool × Int × Int × (List Int) × Int × Bool × Int × Int × Int × (List Int) × (List SBII)) =>
  (show Option (Bool) from
    bif x1.1 then
      bif x1.2.2.2.2.2.1 then
        some (x1.2.1 == x1.2.2.2.2.1)
      else
        some false
    else
      some false).bind fun (x2 : Bool) =>
  bif x2 then
    bif (decide (0 ≤ 1) && decide (1 ≤ ((List.length x1.2.2.2.1 : Int))) && decide (((List.length x1.2.2.2.1 : Int)) ≤ ((List.length x1.2.2.2.1 : Int)))) then
      (impl_copyInts (sub x1.2.2.2.1 (Int.toNat 1) (Int.toNat ((List.length x1.2.2.2.1 : Int))))).bind fun (x3 : (List Int)) =>
      some (x3, x1.2.2.2.2.1, false, x1.2.2.2.2.2.2.1, x1.2.2.2.2.2.2.2.1, x1.2.2.2.2.2.2.2.2.1, x1.2.2.2.2.2.2.2.2.2.1, x1.2.2.2.2.2.2.2.2.2.2)
    else
      none
  else
    bif (!x1.1) then
      (show Option (SLIJIBIIILIJLBIIJ) from
        (show Option (Bool) from
          bif (x1.2.1 == x1.2.2.2.2.2.2.2.2.1) then
            some (decide (((List.length x1.2.2.2.2.2.2.2.2.2.1 : Int)) < 10000))
          else
            some false).bind fun (x5 : Bool) =>
        bif x5 then
          bif (decide (List.length x1.2.2.2.2.2.2.2.2.2.1 + List.length [x1.2.2.1] ≤ maxRow)) then
            some (x1.2.2.2.1, x1.2.2.2.2.1, x1.2.2.2.2.2.1, x1.2.2.2.2.2.2.1, x1.2.2.2.2.2.2.2.1, (w64 (x1.2.2.2.2.2.2.2.2.1 + 1)), (x1.2.2.2.2.2.2.2.2.2.1 ++ [x1.2.2.1]), x1.2.2.2.2.2.2.2.2.2.2)
          else
            none
        else
          some (x1.2.2.2.1, x1.2.2.2.2.1, x1.2.2.2.2.2.1, x1.2.2.2.2.2.2.1, x1.2.2.2.2.2.2.2.1, x1.2.2.2.2.2.2.2.2.1, x1.2.2.2.2.2.2.2.2.2.1, x1.2.2.2.2.2.2.2.2.2.2)).bind fun (x4 : SLIJIBIIILIJLBIIJ) =>
      bif (decide (x1.2.1 < x4.2.2.2.2.2.1)) then
        (impl_Link_say x4.1 x4.2.1 x4.2.2.1 x4.2.2.2.1 x4.2.2.2.2.1 x4.2.2.2.2.2.1 x4.2.2.2.2.2.2.1 x4.2.2.2.2.2.2.2 true x1.2.1 0).bind fun (x6 : SLIJIBIIILIJLBIIJ) =>
        some (x6.1, x6.2.1, x6.2.2.1, x6.2.2.2.1, x6.2.2.2.2.1, x6.2.2.2.2.2.1, x6.2.2.2.2.2.2.1, x6.2.2.2.2.2.2.2)
      else
        some (x4.1, x4.2.1, x4.2.2.1, x4.2.2.2.1, x4.2.2.2.2.1, x4.2.2.2.2.2.1, x4.2.2.2.2.2.2.1, x4.2.2.2.2.2.2.2)
    else
      some (x1.2.2.2.1, x1.2.2.2.2.1, x1.2.2.2.2.2.1, x1.2.2.2.2.2.2.1, x1.2.2.2.2.2.2.2.1, x1.2.2.2.2.2.2.2.2.1, x1.2.2.2.2.2.2.2.2.2.1, x1.2.2.2.2.2.2.2.2.2.2)

def impl_Calm_L2 (x6 : Int × (List Int) × Int × Bool × Int × Int × Int × (List Int) × (List SBII)) : Option ((Int × (List Int) × Int × Bool × Int × Int × Int × (List Int) × (List SBII)) ⊕ (Int × (List Int) × Int × Bool × Int × Int × Int × (List Int) × (List SBII))) :=
  (show Option (Bool) from
    bif (decide (x6.1 < 60)) then
      some (decide (((List.length x6.2.2.2.2.2.2.2.2 : Int)) > 0))
    else
      some false).bind fun (x7 : Bool) =>
  bif x7 then
    (impl_Link_hear x6.2.1 x6.2.2.1 x6.2.2.2.1 x6.2.2.2.2.1 x6.2.2.2.2.2.1 x6.2.2.2.2.2.2.1 x6.2.2.2.2.2.2.2.1 x6.2.2.2.2.2.2.2.2 0).bind fun (x8 : SLIJIBIIILIJLBIIJ) =>
    some (.inl ((w64 (x6.1 + 1)), x8.1, x8.2.1, x8.2.2.1, x8.2.2.2.1, x8.2.2.2.2.1, x8.2.2.2.2.2.1, x8.2.2.2.2.2.2.1, x8.2.2.2.2.2.2.2))
  else
    some (.inr (x6.1, x6.2.1, x6.2.2.1, x6.2.2.2.1, x6.2.2.2.2.1, x6.2.2.2.2.2.1, x6.2.2.2.2.2.2.1, x6.2.2.2.2.2.2.2.1, x6.2.2.2.2.2.2.2.2))

def impl_Calm_L1 (n : Nat) (x3 : Int × (List Int) × Int × Bool × Int × Int × Int × (List Int) × (List SBII)) : Option ((Int × (List Int) × Int × Bool × Int × Int × Int × (List Int) × (List SBII)) ⊕ (Int × (List Int) × Int × Bool × Int × Int × Int × (List Int) × (List SBII))) :=
  (show Option (Bool) from
    bif (decide (x3.1 < 200)) then
      bif (decide (((List.length x3.2.1 : Int)) > 0)) then
        some true
      else
        some (decide (((List.length x3.2.2.2.2.2.2.2.2 : Int)) > 0))
    else
      some false).bind fun (x4 : Bool) =>
  bif x4 then
    (impl_Link_tick x3.2.1 x3.2.2.1 x3.2.2.2.1 x3.2.2.2.2.1 x3.2.2.2.2.2.1 x3.2.2.2.2.2.2.1 x3.2.2.2.2.2.2.2.1 x3.2.2.2.2.2.2.2.2).bind fun (x5 : SLIJIBIIILIJLBIIJ) =>
    (iter n (impl_Calm_L2) (0, x5.1, x5.2.1, x5.2.2.1, x5.2.2.2.1, x5.2.2.2.2.1, x5.2.2.2.2.2.1, x5.2.2.2.2.2.2.1, x5.2.2.2.2.2.2.2)).bind fun (x9 : Int × (List Int) × Int × Bool × Int × Int × Int × (List Int) × (List SBII)) =>
    some (.inl ((w64 (x3.1 + 1)), x9.2.1, x9.2.2.1, x9.2.2.2.1, x9.2.2.2.2.1, x9.2.2.2.2.2.1, x9.2.2.2.2.2.2.1, x9.2.2.2.2.2.2.2.1, x9.2.2.2.2.2.2.2.2))
  else
    some (.inr (x3.1, x3.2.1, x3.2.2.1, x3.2.2.2.1, x3.2.2.2.2.1, x3.2.2.2.2.2.1, x3.2.2.2.2.2.2.1, x3.2.2.2.2.2.2.2.1, x3.2.2.2.2.2.2.2.2))

def impl_Calm (n : Nat) (a0_0 : List Int) (a0_1 : Int) (a0_2 : Bool) (a0_3 : Int) (a0_4 : Int) (a0_5 : Int) (a0_6 : List Int) (a0_7 : List SBII) : Option (SLIJIBIIILIJLBIIJ) :=
  (impl_copyLink a0_0 a0_1 a0_2 a0_3 a0_4 a0_5 a0_6 a0_7).bind fun (x1 : SLIJIBIIILIJLBIIJ) =>
  (impl_LinkOk n a0_0 a0_1 a0_2 a0_3 a0_4 a0_5 a0_6 a0_7).bind fun (x2 : Bool) =>
  bif (!x2) then
    some (x1.1, x1.2.1, x1.2.2.1, x1.2.2.2.1, x1.2.2.2.2.1, x1.2.2.2.2.2.1, x1.2.2.2.2.2.2.1, x1.2.2.2.2.2.2.2)
  else
    (iter n (impl_Calm_L1 n) (0, x1.1, x1.2.1, x1.2.2.1, x1.2.2.2.1, x1.2.2.2.2.1, x1.2.2.2.2.2.1, x1.2.2.2.2.2.2.1, x1.2.2.2.2.2.2.2)).bind fun (x10 : Int × (List Int) × Int × Bool × Int × Int × Int × (List Int) × (List SBII)) =>
    some (x10.2.1, x10.2.2.1, x10.2.2.2.1, x10.2.2.2.2.1, x10.2.2.2.2.2.1, x10.2.2.2.2.2.2.1, x10.2.2.2.2.2.2.2.1, x10.2.2.2.2.2.2.2.2)

def laws_eqIntS_L1 (a0 : List Int) (a1 : List Int) (x1 : Int) : Option ((Int) ⊕ ((Int) ⊕ (Bool))) :=
  bif (decide (x1 < ((List.length a0 : Int)))) then
    ((getI a0 x1)).bind fun (x2 : Int) =>
    ((getI a1 x1)).bind fun (x3 : Int) =>
    bif (x2 != x3) then
      some (.inr (.inr false))
    else
      some (.inl (w64 (x1 + 1)))
  else
    some (.inr (.inl x1))

def laws_eqIntS (n : Nat) (a0 : List Int) (a1 : List Int) : Option (Bool) :=
  bif (((List.length a0 : Int)) != ((List.length a1 : Int))) then
    some false
  else
    (iter n (laws_eqIntS_L1 a0 a1) 0).bind fun (x4 : (Int) ⊕ (Bool)) =>
    (match x4 with
    | .inl x5 => (
      some true)
    | .inr x6 => (
      some x6))

def laws_eqWord (a0_0 : Bool) (a0_1 : Int) (a0_2 : Int) (a1_0 : Bool) (a1_1 : Int) (a1_2 : Int) : Option (Bool) :=
  bif (a0_0 != a1_0) then
    some false
  else
    bif (a0_1 != a1_1) then
      some false
    else
      bif (a0_2 != a1_2) then
        some false
      else
        some true

def laws_eqWordS_L1 (a0 : List SBII) (a1 : List SBII) (x1 : Int) : Option ((Int) ⊕ ((Int) ⊕ (Bool))) :=
  bif (decide (x1 < ((List.length a0 : Int)))) then
    ((getI a0 x1)).bind fun (x2 : SBII) =>
    ((getI a1 x1)).bind fun (x3 : SBII) =>
    (laws_eqWord x2.1 x2.2.1 x2.2.2 x3.1 x3.2.1 x3.2.2).bind fun (x4 : Bool) =>
    bif (!x4) then
      some (.inr (.inr false))
    else
      some (.inl (w64 (x1 + 1)))
  else
    some (.inr (.inl x1))

def laws_eqWordS (n : Nat) (a0 : List SBII) (a1 : List SBII) : Option (Bool) :=
  bif (((List.length a0 : Int)) != ((List.length a1 : Int))) then
    some false
  else
    (iter n (laws_eqWordS_L1 a0 a1) 0).bind fun (x5 : (Int) ⊕ (Bool)) =>
    (match x5 with
    | .inl x6 => (
      some true)
    | .inr x7 => (
      some x7))

def laws_eqLink (n : Nat) (a0_0 : List Int) (a0_1 : Int) (a0_2 : Bool) (a0_3 : Int) (a0_4 : Int) (a0_5 : Int) (a0_6 : List Int) (a0_7 : List SBII) (a1_0 : List Int) (a1_1 : Int) (a1_2 : Bool) (a1_3 : Int) (a1_4 : Int) (a1_5 : Int) (a1_6 : List Int) (a1_7 : List SBII) : Option (Bool) :=
  (laws_eqIntS n a0_0 a1_0).bind fun (x1 : Bool) =>
  bif (!x1) then
    some false
  else
    bif (a0_1 != a1_1) then
      some false
    else
      bif (a0_2 != a1_2) then
        some false
      else
        bif (a0_3 != a1_3) then
          some false
        else
          bif (a0_4 != a1_4) then
            some false
          else
            bif (a0_5 != a1_5) then
              some false
            else
              (laws_eqIntS n a0_6 a1_6).bind fun (x2 : Bool) =>
              bif (!x2) then
                some false
              else
                (laws_eqWordS n a0_7 a1_7).bind fun (x3 : Bool) =>
                bif (!x3) then
                  some false
                else
                  some true

def laws_markIntS_L1 (x1 : SIILIJ) : Option ((SIILIJ) ⊕ (SIILIJ)) :=
  bif (decide (x1.2.1 < ((List.length x1.2.2 : Int)))) then
    bif (inb x1.2.2 x1.2.1) then
      some (.inl ((w64 (x1.1 + 1)), (w64 (x1.2.1 + 1)), (upd x1.2.2 (Int.toNat x1.2.1) x1.1)))
    else
      none
  else
    some (.inr (x1.1, x1.2.1, x1.2.2))

def laws_markIntS (n : Nat) (a0 : List Int) (a1 : Int) : Option (Int × (List Int)) :=
  (iter n (laws_markIntS_L1) (a1, 0, a0)).bind fun (x2 : SIILIJ) =>
  some (x2.1, x2.2.2)

def laws_markWordS_L1 (x1 : Int × Int × (List SBII)) : Option ((Int × Int × (List SBII)) ⊕ (Int × Int × (List SBII))) :=
  bif (decide (x1.2.1 < ((List.length x1.2.2 : Int)))) then
    bif (inb x1.2.2 x1.2.1) then
      bif (inb (List.modify x1.2.2 (Int.toNat x1.2.1) (fun (y : SBII) => (((Int.tmod x1.1 3) == 0), y.2.1, y.2.2))) x1.2.1) then
        bif (inb (List.modify (List.modify x1.2.2 (Int.toNat x1.2.1) (fun (y : SBII) => (((Int.tmod x1.1 3) == 0), y.2.1, y.2.2))) (Int.toNat x1.2.1) (fun (y : SBII) => (y.1, (w64 (x1.1 + 1)), y.2.2))) x1.2.1) then
          some (.inl ((w64 ((w64 ((w64 (x1.1 + 1)) + 1)) + 1)), (w64 (x1.2.1 + 1)), (List.modify (List.modify (List.modify x1.2.2 (Int.toNat x1.2.1) (fun (y : SBII) => (((Int.tmod x1.1 3) == 0), y.2.1, y.2.2))) (Int.toNat x1.2.1) (fun (y : SBII) => (y.1, (w64 (x1.1 + 1)), y.2.2))) (Int.toNat x1.2.1) (fun (y : SBII) => (y.1, y.2.1, (w64 ((w64 (x1.1 + 1)) + 1)))))))
        else
          none
      else
        none
    else
      none
  else
    some (.inr (x1.1, x1.2.1, x1.2.2))

def laws_markWordS (n : Nat) (a0 : List SBII) (a1 : Int) : Option (Int × (List SBII)) :=
  (iter n (laws_markWordS_L1) (a1, 0, a0)).bind fun (x2 : Int × Int × (List SBII)) =>
  some (x2.1, x2.2.2)

def laws_markLink (n : Nat) (a0_0 : List Int) (a0_1 : Int) (a0_2 : Bool) (a0_3 : Int) (a0_4 : Int) (a0_5 : Int) (a0_6 : List Int) (a0_7 : List SBII) (a1 : Int) : Option (Int × (List Int) × Int × Bool × Int × Int × Int × (List Int) × (List SBII)) :=
  (laws_markIntS n a0_0 a1).bind fun (x1 : Int × (List Int)) =>
  (laws_markIntS n a0_6 x1.1).bind fun (x2 : Int × (List Int)) =>
  (laws_markWordS n a0_7 x2.1).bind fun (x3 : Int × (List SBII)) =>
  some (x3.1, x1.2, a0_1, a0_2, a0_3, a0_4, a0_5, x2.2, x3.2)

def laws_heldIntS_L1 (a0 : List Int) (x1 : SII) : Option ((SII) ⊕ ((SII) ⊕ (Int))) :=
  bif (decide (x1.2 < ((List.length a0 : Int)))) then
    ((getI a0 x1.2)).bind fun (x2 : Int) =>
    bif (x2 != x1.1) then
      some (.inr (.inr (-1)))
    else
      some (.inl ((w64 (x1.1 + 1)), (w64 (x1.2 + 1))))
  else
    some (.inr (.inl (x1.1, x1.2)))

def laws_heldIntS (n : Nat) (a0 : List Int) (a1 : Int) : Option (Int) :=
  (iter n (laws_heldIntS_L1 a0) (a1, 0)).bind fun (x3 : (SII) ⊕ (Int)) =>
  (match x3 with
  | .inl x4 => (
    some x4.1)
  | .inr x5 => (
    some x5))

def laws_heldWordS_L1 (a0 : List SBII) (x1 : SII) : Option ((SII) ⊕ ((SII) ⊕ (Int))) :=
  bif (decide (x1.2 < ((List.length a0 : Int)))) then
    ((getI a0 x1.2)).bind fun (x2 : SBII) =>
    bif (x2.1 != ((Int.tmod x1.1 3) == 0)) then
      some (.inr (.inr (-1)))
    else
      ((getI a0 x1.2)).bind fun (x3 : SBII) =>
      bif (x3.2.1 != (w64 (x1.1 + 1))) then
        some (.inr (.inr (-1)))
      else
        ((getI a0 x1.2)).bind fun (x4 : SBII) =>
        bif (x4.2.2 != (w64 ((w64 (x1.1 + 1)) + 1))) then
          some (.inr (.inr (-1)))
        else
          some (.inl ((w64 ((w64 ((w64 (x1.1 + 1)) + 1)) + 1)), (w64 (x1.2 + 1))))
  else
    some (.inr (.inl (x1.1, x1.2)))

def laws_heldWordS (n : Nat) (a0 : List SBII) (a1 : Int) : Option (Int) :=
  (iter n (laws_heldWordS_L1 a0) (a1, 0)).bind fun (x5 : (SII) ⊕ (Int)) =>
  (match x5 with
  | .inl x6 => (
    some x6.1)
  | .inr x7 => (
    some x7))

def laws_heldLink (n : Nat) (a0_0 : List Int) (a0_1 : Int) (a0_2 : Bool) (a0_3 : Int) (a0_4 : Int) (a0_5 : Int) (a0_6 : List Int) (a0_7 : List SBII) (a1 : Int) : Option (Int) :=
  (laws_heldIntS n a0_0 a1).bind fun (x1 : Int) =>
  bif (decide (x1 < 0)) then
    some (-1)
  else
    (laws_heldIntS n a0_6 x1).bind fun (x2 : Int) =>
    bif (decide (x2 < 0)) then
      some (-1)
    else
      (laws_heldWordS n a0_7 x2).bind fun (x3 : Int) =>
      bif (decide (x3 < 0)) then
        some (-1)
      else
        some x3

def laws_FnExactCalm (n : Nat) (a0_0 : List Int) (a0_1 : Int) (a0_2 : Bool) (a0_3 : Int) (a0_4 : Int) (a0_5 : Int) (a0_6 : List Int) (a0_7 : List SBII) : Option (Bool) :=
  (laws_szLink a0_0 a0_1 a0_2 a0_3 a0_4 a0_5 a0_6 a0_7 1048576).bind fun (x1 : Int) =>
  bif (decide (x1 < 0)) then
    some true
  else
    (laws_toLink n a0_0 a0_1 a0_2 a0_3 a0_4 a0_5 a0_6 a0_7).bind fun (x2 : SLIJIBIIILIJLBIIJ) =>
    (spec_Calm n x2.1 x2.2.1 x2.2.2.1 x2.2.2.2.1 x2.2.2.2.2.1 x2.2.2.2.2.2.1 x2.2.2.2.2.2.2.1 x2.2.2.2.2.2.2.2).bind fun (x3 : SLIJIBIIILIJLBIIJ) =>
    (laws_toLink n a0_0 a0_1 a0_2 a0_3 a0_4 a0_5 a0_6 a0_7).bind fun (x4 : SLIJIBIIILIJLBIIJ) =>
    (impl_Calm n x4.1 x4.2.1 x4.2.2.1 x4.2.2.2.1 x4.2.2.2.2.1 x4.2.2.2.2.2.1 x4.2.2.2.2.2.2.1 x4.2.2.2.2.2.2.2).bind fun (x5 : SLIJIBIIILIJLBIIJ) =>
    (laws_eqLink n x5.1 x5.2.1 x5.2.2.1 x5.2.2.2.1 x5.2.2.2.2.1 x5.2.2.2.2.2.1 x5.2.2.2.2.2.2.1 x5.2.2.2.2.2.2.2 x3.1 x3.2.1 x3.2.2.1 x3.2.2.2.1 x3.2.2.2.2.1 x3.2.2.2.2.2.1 x3.2.2.2.2.2.2.1 x3.2.2.2.2.2.2.2).bind fun (x6 : Bool) =>
    bif (!x6) then
      some false
    else
      (laws_toLink n a0_0 a0_1 a0_2 a0_3 a0_4 a0_5 a0_6 a0_7).bind fun (x7 : SLIJIBIIILIJLBIIJ) =>
      (laws_eqLink n x4.1 x4.2.1 x4.2.2.1 x4.2.2.2.1 x4.2.2.2.2.1 x4.2.2.2.2.2.1 x4.2.2.2.2.2.2.1 x4.2.2.2.2.2.2.2 x7.1 x7.2.1 x7.2.2.1 x7.2.2.2.1 x7.2.2.2.2.1 x7.2.2.2.2.2.1 x7.2.2.2.2.2.2.1 x7.2.2.2.2.2.2.2).bind fun (x8 : Bool) =>
      bif (!x8) then
        some false
      else
        (laws_markLink n x4.1 x4.2.1 x4.2.2.1 x4.2.2.2.1 x4.2.2.2.2.1 x4.2.2.2.2.2.1 x4.2.2.2.2.2.2.1 x4.2.2.2.2.2.2.2 1).bind fun (x9 : Int × (List Int) × Int × Bool × Int × Int × Int × (List Int) × (List SBII)) =>
        (show Option (Bool) from
          bif (decide (x9.1 < 0)) then
            some true
          else
            (laws_eqLink n x5.1 x5.2.1 x5.2.2.1 x5.2.2.2.1 x5.2.2.2.2.1 x5.2.2.2.2.2.1 x5.2.2.2.2.2.2.1 x5.2.2.2.2.2.2.2 x3.1 x3.2.1 x3.2.2.1 x3.2.2.2.1 x3.2.2.2.2.1 x3.2.2.2.2.2.1 x3.2.2.2.2.2.2.1 x3.2.2.2.2.2.2.2).bind fun (x10 : Bool) =>
            some (!x10)).bind fun (x11 : Bool) =>
        bif x11 then
          some false
        else
          (laws_markLink n x5.1 x5.2.1 x5.2.2.1 x5.2.2.2.1 x5.2.2.2.2.1 x5.2.2.2.2.2.1 x5.2.2.2.2.2.2.1 x5.2.2.2.2.2.2.2 1).bind fun (x12 : Int × (List Int) × Int × Bool × Int × Int × Int × (List Int) × (List SBII)) =>
          (laws_heldLink n x12.2.1 x5.2.1 x5.2.2.1 x5.2.2.2.1 x5.2.2.2.2.1 x5.2.2.2.2.2.1 x12.2.2.2.2.2.2.2.1 x12.2.2.2.2.2.2.2.2 1).bind fun (x13 : Int) =>
          bif (decide (x13 < 0)) then
            some false
          else
            bif (x13 != x12.1) then
              some false
            else
              (laws_toLink n a0_0 a0_1 a0_2 a0_3 a0_4 a0_5 a0_6 a0_7).bind fun (x14 : SLIJIBIIILIJLBIIJ) =>
              (impl_Calm n x14.1 x14.2.1 x14.2.2.1 x14.2.2.2.1 x14.2.2.2.2.1 x14.2.2.2.2.2.1 x14.2.2.2.2.2.2.1 x14.2.2.2.2.2.2.2).bind fun (x15 : SLIJIBIIILIJLBIIJ) =>
              (laws_eqLink n x15.1 x15.2.1 x15.2.2.1 x15.2.2.2.1 x15.2.2.2.2.1 x15.2.2.2.2.2.1 x15.2.2.2.2.2.2.1 x15.2.2.2.2.2.2.2 x3.1 x3.2.1 x3.2.2.1 x3.2.2.2.1 x3.2.2.2.2.1 x3.2.2.2.2.2.1 x3.2.2.2.2.2.2.1 x3.2.2.2.2.2.2.2).bind fun (x16 : Bool) =>
              bif (!x16) then
                some false
              else
                (laws_heldLink n x12.2.1 x5.2.1 x5.2.2.1 x5.2.2.2.1 x5.2.2.2.2.1 x5.2.2.2.2.2.1 x12.2.2.2.2.2.2.2.1 x12.2.2.2.2.2.2.2.2 1).bind fun (x17 : Int) =>
                bif (decide (x17 < 0)) then
                  some false
                else
                  bif (x17 != x12.1) then
                    some false
                  else
                    some true

end Go.Ev.N
