/- The native forms of the functions, as gen.py prints them. Conditions: none. -/
import Derived.Test.YtafobglpmhfcgaaLib4
namespace Go.Ev.N
open Go Go.Ev
set_option linter.unusedVariables false

def w64 (n : Int) : Int := IntKind.wrap .i64 n

abbrev STI := (List UInt8) × Int

abbrev SBII := Bool × Int × Int

abbrev SIIBI := Int × Int × Bool × Int

abbrev SLIJII := (List Int) × Int × Int

abbrev SLIJIBIIILIJLBIIJ := (List Int) × Int × Bool × Int × Int × Int × (List Int) × (List SBII)

def laws_big (a0 : List Int) : Option (Bool) :=
  some (decide (((List.length a0 : Int)) > 1048576))

def spec_l1New_L1 (a0 : List Int) (x1 : Int × Int) : Option ((Int × Int) ⊕ (Int × Int)) :=
  (show Option (Bool) from
    bif (decide (x1.2 < ((List.length a0 : Int)))) then
      some (decide (x1.2 < 4000))
    else
      some false).bind fun (x2 : Bool) =>
  bif x2 then
    ((getI a0 x1.2)).bind fun (x3 : Int) =>
    some (.inl ((andI .i64 (w64 ((w64 ((w64 (x1.1 * 137)) + (w64 x3))) + 11)) 1073741823), (w64 (x1.2 + 1))))
  else
    some (.inr (x1.1, x1.2))

def spec_l1New (n : Nat) (a0 : List Int) : Option (SLIJII) :=
  (iter n (spec_l1New_L1 a0) ((w64 (275275 + ((List.length a0 : Int)))), 0)).bind fun (x4 : Int × Int) =>
  some (a0, 0, x4.1)

def spec_l1Size (a0 : List Int) (a1 : Int) : Option (Int) :=
  bif (decide ((w64 (3 + (w64 (Int.tdiv ((List.length a0 : Int)) 12)))) > a1)) then
    some a1
  else
    some (w64 (3 + (w64 (Int.tdiv ((List.length a0 : Int)) 12))))

def spec_LinkNew : Option (SLIJIBIIILIJLBIIJ) :=
  some (([] : List Int), 0, false, 0, 0, 1, ([] : List Int), ([] : List SBII))

def spec_l1Byte (a0_0 : List Int) (a0_1 : Int) (a0_2 : Int) : Option (Int × (List Int) × Int × Int) :=
  bif (decide (0 ≤ 33)) then
    bif (decide (0 ≤ 47)) then
      (show Option (Int × (List Int) × Int × Int) from
        bif (decide (a0_1 < ((List.length a0_0 : Int)))) then
          ((getI a0_0 a0_1)).bind fun (x2 : Int) =>
          some ((andI .i64 (w64 ((andI .i64 (xorI .i64 (shrI .i64 (w64 ((w64 (a0_2 * 6364136223846793005)) + 1442695040888963407)) 33) (shrI .i64 (w64 ((w64 (a0_2 * 6364136223846793005)) + 1442695040888963407)) 47)) 255) + (w64 x2))) 255), a0_0, (w64 (a0_1 + 1)), (w64 ((w64 (a0_2 * 6364136223846793005)) + 1442695040888963407)))
        else
          some ((andI .i64 (xorI .i64 (shrI .i64 (w64 ((w64 (a0_2 * 6364136223846793005)) + 1442695040888963407)) 33) (shrI .i64 (w64 ((w64 (a0_2 * 6364136223846793005)) + 1442695040888963407)) 47)) 255), a0_0, a0_1, (w64 ((w64 (a0_2 * 6364136223846793005)) + 1442695040888963407)))).bind fun (x1 : Int × (List Int) × Int × Int) =>
      some (x1.1, x1.2.1, x1.2.2.1, x1.2.2.2)
    else
      none
  else
    none

def spec_l1Below (a0_0 : List Int) (a0_1 : Int) (a0_2 : Int) (a1 : Int) : Option (Int × (List Int) × Int × Int) :=
  bif (decide (a1 ≤ 0)) then
    some (0, a0_0, a0_1, a0_2)
  else
    bif (decide (a1 ≤ 256)) then
      (spec_l1Byte a0_0 a0_1 a0_2).bind fun (x1 : Int × (List Int) × Int × Int) =>
      bif (a1 == 0) then
        none
      else
        some ((Int.tmod x1.1 a1), x1.2.1, x1.2.2.1, x1.2.2.2)
    else
      (spec_l1Byte a0_0 a0_1 a0_2).bind fun (x2 : Int × (List Int) × Int × Int) =>
      (spec_l1Byte x2.2.1 x2.2.2.1 x2.2.2.2).bind fun (x3 : Int × (List Int) × Int × Int) =>
      (spec_l1Byte x3.2.1 x3.2.2.1 x3.2.2.2).bind fun (x4 : Int × (List Int) × Int × Int) =>
      bif (a1 == 0) then
        none
      else
        some ((Int.tmod (w64 ((w64 ((w64 (x2.1 * 65536)) + (w64 (x3.1 * 256)))) + x4.1)) a1), x4.2.1, x4.2.2.1, x4.2.2.2)

def spec_l10Copy (a0_0 : List Int) (a0_1 : Int) (a0_2 : Bool) (a0_3 : Int) (a0_4 : Int) (a0_5 : Int) (a0_6 : List Int) (a0_7 : List SBII) : Option (SLIJIBIIILIJLBIIJ) :=
  bif (decide (List.length ([] : List Int) + List.length a0_0 ≤ maxRow)) then
    bif (decide (List.length ([] : List Int) + List.length a0_6 ≤ maxRow)) then
      bif (decide (List.length ([] : List SBII) + List.length a0_7 ≤ maxRow)) then
        some ((([] : List Int) ++ a0_0), a0_1, a0_2, a0_3, a0_4, a0_5, (([] : List Int) ++ a0_6), (([] : List SBII) ++ a0_7))
      else
        none
    else
      none
  else
    none

def spec_l1In (a0 : Int) (a1 : Int) (a2 : Int) : Option (Bool) :=
  (show Option (Bool) from
    bif (decide (a0 ≥ a1)) then
      some (decide (a0 ≤ a2))
    else
      some false).bind fun (x1 : Bool) =>
  some x1

def spec_l10Whats_L1 (a0 : List Int) (x1 : Int) : Option ((Int) ⊕ ((Int) ⊕ (Bool))) :=
  bif (decide (x1 < ((List.length a0 : Int)))) then
    ((getI a0 x1)).bind fun (x2 : Int) =>
    (spec_l1In x2 0 9999).bind fun (x3 : Bool) =>
    bif (!x3) then
      some (.inr (.inr false))
    else
      some (.inl (w64 (x1 + 1)))
  else
    some (.inr (.inl x1))

def spec_l10Whats (n : Nat) (a0 : List Int) : Option (Bool) :=
  (iter n (spec_l10Whats_L1 a0) 0).bind fun (x4 : (Int) ⊕ (Bool)) =>
  (match x4 with
  | .inl x5 => (
    some true)
  | .inr x6 => (
    some x6))

def spec_LinkOk_L1 (a0_7 : List SBII) (x7 : Int) : Option ((Int) ⊕ ((Int) ⊕ (Bool))) :=
  bif (decide (x7 < ((List.length a0_7 : Int)))) then
    ((getI a0_7 x7)).bind fun (x8 : SBII) =>
    (show Option (Bool) from
      (spec_l1In x8.2.1 1 1000001).bind fun (x9 : Bool) =>
      bif (!x9) then
        some true
      else
        (spec_l1In x8.2.2 0 9999).bind fun (x10 : Bool) =>
        bif (!x10) then
          some true
        else
          bif x8.1 then
            some (x8.2.2 != 0)
          else
            some false).bind fun (x11 : Bool) =>
    bif x11 then
      some (.inr (.inr false))
    else
      some (.inl (w64 (x7 + 1)))
  else
    some (.inr (.inl x7))

def spec_LinkOk (n : Nat) (a0_0 : List Int) (a0_1 : Int) (a0_2 : Bool) (a0_3 : Int) (a0_4 : Int) (a0_5 : Int) (a0_6 : List Int) (a0_7 : List SBII) : Option (Bool) :=
  (show Option (Bool) from
    bif (decide (((List.length a0_0 : Int)) > 40)) then
      some true
    else
      bif (decide (((List.length a0_6 : Int)) > 10000)) then
        some true
      else
        bif (decide (((List.length a0_7 : Int)) > 30)) then
          some true
        else
          (spec_l1In a0_1 0 1000000).bind fun (x1 : Bool) =>
          bif (!x1) then
            some true
          else
            (spec_l1In a0_4 0 10000000).bind fun (x2 : Bool) =>
            bif (!x2) then
              some true
            else
              (spec_l1In a0_3 0 10000000).bind fun (x3 : Bool) =>
              bif (!x3) then
                some true
              else
                (spec_l10Whats n a0_0).bind fun (x4 : Bool) =>
                bif (!x4) then
                  some true
                else
                  (spec_l10Whats n a0_6).bind fun (x5 : Bool) =>
                  some (!x5)).bind fun (x6 : Bool) =>
  bif x6 then
    some false
  else
    (iter n (spec_LinkOk_L1 a0_7) 0).bind fun (x12 : (Int) ⊕ (Bool)) =>
    (match x12 with
    | .inl x13 => (
      (show Option (Bool) from
        bif (a0_5 == a0_1) then
          bif (((List.length a0_6 : Int)) == (w64 (a0_5 - 1))) then
            bif (!a0_2) then
              some true
            else
              some (decide (((List.length a0_0 : Int)) > 0))
          else
            some false
        else
          bif (a0_5 == (w64 (a0_1 + 1))) then
            bif (((List.length a0_6 : Int)) == (w64 (a0_5 - 1))) then
              bif (!a0_2) then
                some true
              else
                some (decide (((List.length a0_0 : Int)) > 0))
            else
              some false
          else
            some false).bind fun (x15 : Bool) =>
      some x15)
    | .inr x14 => (
      some x14))

def spec_Tell (n : Nat) (a0_0 : List Int) (a0_1 : Int) (a0_2 : Bool) (a0_3 : Int) (a0_4 : Int) (a0_5 : Int) (a0_6 : List Int) (a0_7 : List SBII) (a1 : Int) : Option ((List Int) × Int × Bool × Int × Int × Int × (List Int) × (List SBII) × Bool) :=
  (spec_l10Copy a0_0 a0_1 a0_2 a0_3 a0_4 a0_5 a0_6 a0_7).bind fun (x1 : SLIJIBIIILIJLBIIJ) =>
  (show Option (Bool) from
    (spec_LinkOk n a0_0 a0_1 a0_2 a0_3 a0_4 a0_5 a0_6 a0_7).bind fun (x2 : Bool) =>
    bif (!x2) then
      some true
    else
      (spec_l1In a1 0 9999).bind fun (x3 : Bool) =>
      bif (!x3) then
        some true
      else
        some (((List.length a0_0 : Int)) == 40)).bind fun (x4 : Bool) =>
  bif x4 then
    some (x1.1, x1.2.1, x1.2.2.1, x1.2.2.2.1, x1.2.2.2.2.1, x1.2.2.2.2.2.1, x1.2.2.2.2.2.2.1, x1.2.2.2.2.2.2.2, false)
  else
    bif (decide (List.length x1.1 + List.length [a1] ≤ maxRow)) then
      some ((x1.1 ++ [a1]), x1.2.1, x1.2.2.1, x1.2.2.2.1, x1.2.2.2.2.1, x1.2.2.2.2.2.1, x1.2.2.2.2.2.2.1, x1.2.2.2.2.2.2.2, true)
    else
      none

def spec_l10Says (a0_0 : List Int) (a0_1 : Int) (a0_2 : Bool) (a0_3 : Int) (a0_4 : Int) (a0_5 : Int) (a0_6 : List Int) (a0_7 : List SBII) (a1_0 : Bool) (a1_1 : Int) (a1_2 : Int) : Option (SLIJIBIIILIJLBIIJ) :=
  bif (decide (((List.length a0_7 : Int)) < 30)) then
    bif (decide (List.length a0_7 + List.length [(a1_0, a1_1, a1_2)] ≤ maxRow)) then
      some (a0_0, a0_1, a0_2, a0_3, a0_4, a0_5, a0_6, (a0_7 ++ [(a1_0, a1_1, a1_2)]))
    else
      none
  else
    some (a0_0, a0_1, a0_2, a0_3, a0_4, a0_5, a0_6, a0_7)

def spec_l10Tick (a0_0 : List Int) (a0_1 : Int) (a0_2 : Bool) (a0_3 : Int) (a0_4 : Int) (a0_5 : Int) (a0_6 : List Int) (a0_7 : List SBII) : Option (SLIJIBIIILIJLBIIJ) :=
  (show Option (SLIJIBIIILIJLBIIJ) from
    bif (decide (a0_4 < 9999997)) then
      some (a0_0, a0_1, a0_2, a0_3, (w64 (a0_4 + 1)), a0_5, a0_6, a0_7)
    else
      some (a0_0, a0_1, a0_2, a0_3, a0_4, a0_5, a0_6, a0_7)).bind fun (x1 : SLIJIBIIILIJLBIIJ) =>
  (show Option (Bool) from
    bif (!x1.2.2.1) then
      bif (decide (((List.length x1.1 : Int)) > 0)) then
        some (decide (x1.2.1 < 1000000))
      else
        some false
    else
      some false).bind fun (x2 : Bool) =>
  bif x2 then
    bif (inb x1.1 0) then
      ((x1.1[(Int.toNat 0)]?)).bind fun (x3 : Int) =>
      (spec_l10Says x1.1 (w64 (x1.2.1 + 1)) true (w64 (x1.2.2.2.2.1 + 3)) x1.2.2.2.2.1 x1.2.2.2.2.2.1 x1.2.2.2.2.2.2.1 x1.2.2.2.2.2.2.2 false (w64 (x1.2.1 + 1)) x3).bind fun (x4 : SLIJIBIIILIJLBIIJ) =>
      some (x4.1, x4.2.1, x4.2.2.1, x4.2.2.2.1, x4.2.2.2.2.1, x4.2.2.2.2.2.1, x4.2.2.2.2.2.2.1, x4.2.2.2.2.2.2.2)
    else
      none
  else
    (show Option (Bool) from
      bif x1.2.2.1 then
        some (decide (x1.2.2.2.2.1 ≥ x1.2.2.2.1))
      else
        some false).bind fun (x5 : Bool) =>
    bif x5 then
      bif (inb x1.1 0) then
        ((x1.1[(Int.toNat 0)]?)).bind fun (x6 : Int) =>
        (spec_l10Says x1.1 x1.2.1 x1.2.2.1 (w64 (x1.2.2.2.2.1 + 3)) x1.2.2.2.2.1 x1.2.2.2.2.2.1 x1.2.2.2.2.2.2.1 x1.2.2.2.2.2.2.2 false x1.2.1 x6).bind fun (x7 : SLIJIBIIILIJLBIIJ) =>
        some (x7.1, x7.2.1, x7.2.2.1, x7.2.2.2.1, x7.2.2.2.2.1, x7.2.2.2.2.2.1, x7.2.2.2.2.2.2.1, x7.2.2.2.2.2.2.2)
      else
        none
    else
      some (x1.1, x1.2.1, x1.2.2.1, x1.2.2.2.1, x1.2.2.2.2.1, x1.2.2.2.2.2.1, x1.2.2.2.2.2.2.1, x1.2.2.2.2.2.2.2)

def spec_l10Hear (a0_0 : List Int) (a0_1 : Int) (a0_2 : Bool) (a0_3 : Int) (a0_4 : Int) (a0_5 : Int) (a0_6 : List Int) (a0_7 : List SBII) (a1_0 : Bool) (a1_1 : Int) (a1_2 : Int) : Option (SLIJIBIIILIJLBIIJ) :=
  bif a1_0 then
    (show Option (Bool) from
      bif a0_2 then
        some (a1_1 == a0_1)
      else
        some false).bind fun (x1 : Bool) =>
    bif x1 then
      bif (decide (0 ≤ 1) && decide (1 ≤ ((List.length a0_0 : Int))) && decide (((List.length a0_0 : Int)) ≤ ((List.length a0_0 : Int)))) then
        bif (decide (List.length ([] : List Int) + List.length (sub a0_0 (Int.toNat 1) (Int.toNat ((List.length a0_0 : Int)))) ≤ maxRow)) then
          some ((([] : List Int) ++ (sub a0_0 (Int.toNat 1) (Int.toNat ((List.length a0_0 : Int))))), a0_1, false, a0_3, a0_4, a0_5, a0_6, a0_7)
        else
          none
      else
        none
    else
      some (a0_0, a0_1, a0_2, a0_3, a0_4, a0_5, a0_6, a0_7)
  else
    (show Option (SLIJIBIIILIJLBIIJ) from
      (show Option (Bool) from
        bif (a1_1 == a0_5) then
          some (decide (((List.length a0_6 : Int)) < 10000))
        else
          some false).bind fun (x3 : Bool) =>
      bif x3 then
        bif (decide (List.length a0_6 + List.length [a1_2] ≤ maxRow)) then
          some (a0_0, a0_1, a0_2, a0_3, a0_4, (w64 (a0_5 + 1)), (a0_6 ++ [a1_2]), a0_7)
        else
          none
      else
        some (a0_0, a0_1, a0_2, a0_3, a0_4, a0_5, a0_6, a0_7)).bind fun (x2 : SLIJIBIIILIJLBIIJ) =>
    bif (decide (a1_1 < x2.2.2.2.2.2.1)) then
      (spec_l10Says x2.1 x2.2.1 x2.2.2.1 x2.2.2.2.1 x2.2.2.2.2.1 x2.2.2.2.2.2.1 x2.2.2.2.2.2.2.1 x2.2.2.2.2.2.2.2 true a1_1 0).bind fun (x4 : SLIJIBIIILIJLBIIJ) =>
      some (x4.1, x4.2.1, x4.2.2.1, x4.2.2.2.1, x4.2.2.2.2.1, x4.2.2.2.2.2.1, x4.2.2.2.2.2.2.1, x4.2.2.2.2.2.2.2)
    else
      some (x2.1, x2.2.1, x2.2.2.1, x2.2.2.2.1, x2.2.2.2.2.1, x2.2.2.2.2.2.1, x2.2.2.2.2.2.2.1, x2.2.2.2.2.2.2.2)

def spec_l10Do (a0_0 : List Int) (a0_1 : Int) (a0_2 : Bool) (a0_3 : Int) (a0_4 : Int) (a0_5 : Int) (a0_6 : List Int) (a0_7 : List SBII) (a1 : Int) (a2 : Int) : Option (Bool × (List Int) × Int × Bool × Int × Int × Int × (List Int) × (List SBII)) :=
  bif (a1 == 1) then
    (spec_l10Tick a0_0 a0_1 a0_2 a0_3 a0_4 a0_5 a0_6 a0_7).bind fun (x1 : SLIJIBIIILIJLBIIJ) =>
    some (true, x1.1, x1.2.1, x1.2.2.1, x1.2.2.2.1, x1.2.2.2.2.1, x1.2.2.2.2.2.1, x1.2.2.2.2.2.2.1, x1.2.2.2.2.2.2.2)
  else
    (show Option (Bool) from
      (spec_l1In a1 2 4).bind fun (x2 : Bool) =>
      bif (!x2) then
        some true
      else
        (spec_l1In a2 0 (w64 (((List.length a0_7 : Int)) - 1))).bind fun (x3 : Bool) =>
        bif (!x3) then
          some true
        else
          bif (a1 == 4) then
            some (((List.length a0_7 : Int)) == 30)
          else
            some false).bind fun (x4 : Bool) =>
    bif x4 then
      some (false, a0_0, a0_1, a0_2, a0_3, a0_4, a0_5, a0_6, a0_7)
    else
      bif (inb a0_7 a2) then
        ((a0_7[(Int.toNat a2)]?)).bind fun (x5 : SBII) =>
        bif (a1 == 4) then
          bif (decide (List.length a0_7 + List.length [(x5.1, x5.2.1, x5.2.2)] ≤ maxRow)) then
            some (true, a0_0, a0_1, a0_2, a0_3, a0_4, a0_5, a0_6, (a0_7 ++ [(x5.1, x5.2.1, x5.2.2)]))
          else
            none
        else
          bif (decide (0 ≤ (0 : Int)) && decide ((0 : Int) ≤ a2) && decide (a2 ≤ ((List.length a0_7 : Int)))) then
            bif (decide (List.length ([] : List SBII) + List.length (sub a0_7 (Int.toNat (0 : Int)) (Int.toNat a2)) ≤ maxRow)) then
              bif (decide (0 ≤ (w64 (a2 + 1))) && decide ((w64 (a2 + 1)) ≤ ((List.length a0_7 : Int))) && decide (((List.length a0_7 : Int)) ≤ ((List.length a0_7 : Int)))) then
                bif (decide (List.length (([] : List SBII) ++ (sub a0_7 (Int.toNat (0 : Int)) (Int.toNat a2))) + List.length (sub a0_7 (Int.toNat (w64 (a2 + 1))) (Int.toNat ((List.length a0_7 : Int)))) ≤ maxRow)) then
                  (show Option (SLIJIBIIILIJLBIIJ) from
                    bif (a1 == 2) then
                      (spec_l10Hear a0_0 a0_1 a0_2 a0_3 a0_4 a0_5 a0_6 ((([] : List SBII) ++ (sub a0_7 (Int.toNat (0 : Int)) (Int.toNat a2))) ++ (sub a0_7 (Int.toNat (w64 (a2 + 1))) (Int.toNat ((List.length a0_7 : Int))))) x5.1 x5.2.1 x5.2.2).bind fun (x7 : SLIJIBIIILIJLBIIJ) =>
                      some (x7.1, x7.2.1, x7.2.2.1, x7.2.2.2.1, x7.2.2.2.2.1, x7.2.2.2.2.2.1, x7.2.2.2.2.2.2.1, x7.2.2.2.2.2.2.2)
                    else
                      some (a0_0, a0_1, a0_2, a0_3, a0_4, a0_5, a0_6, ((([] : List SBII) ++ (sub a0_7 (Int.toNat (0 : Int)) (Int.toNat a2))) ++ (sub a0_7 (Int.toNat (w64 (a2 + 1))) (Int.toNat ((List.length a0_7 : Int))))))).bind fun (x6 : SLIJIBIIILIJLBIIJ) =>
                  some (true, x6.1, x6.2.1, x6.2.2.1, x6.2.2.2.1, x6.2.2.2.2.1, x6.2.2.2.2.2.1, x6.2.2.2.2.2.2.1, x6.2.2.2.2.2.2.2)
                else
                  none
              else
                none
            else
              none
          else
            none
      else
        none

def spec_l10Draw_L1 (n : Nat) (x3 : (List Int) × Int × (List Int) × Int × Int × (List Int) × Int × Bool × Int × Int × Int × (List Int) × (List SBII)) : Option (((List Int) × Int × (List Int) × Int × Int × (List Int) × Int × Bool × Int × Int × Int × (List Int) × (List SBII)) ⊕ ((List Int) × Int × (List Int) × Int × Int × (List Int) × Int × Bool × Int × Int × Int × (List Int) × (List SBII))) :=
  bif (decide (x3.2.1 > 0)) then
    (show Option ((List Int) × (List Int) × Int × Int × (List Int) × Int × Bool × Int × Int × Int × (List Int) × (List SBII)) from
      (spec_l1Below x3.2.2.1 x3.2.2.2.1 x3.2.2.2.2.1 8).bind fun (x5 : Int × (List Int) × Int × Int) =>
      (show Option (Bool) from
        bif (x5.1 == 0) then
          some (x5.1 == 0)
        else
          some (x5.1 == 1)).bind fun (x6 : Bool) =>
      bif x6 then
        (spec_l1Below x5.2.1 x5.2.2.1 x5.2.2.2 50).bind fun (x7 : Int × (List Int) × Int × Int) =>
        (spec_Tell n x3.2.2.2.2.2.1 x3.2.2.2.2.2.2.1 x3.2.2.2.2.2.2.2.1 x3.2.2.2.2.2.2.2.2.1 x3.2.2.2.2.2.2.2.2.2.1 x3.2.2.2.2.2.2.2.2.2.2.1 x3.2.2.2.2.2.2.2.2.2.2.2.1 x3.2.2.2.2.2.2.2.2.2.2.2.2 x7.1).bind fun (x8 : (List Int) × Int × Bool × Int × Int × Int × (List Int) × (List SBII) × Bool) =>
        bif x8.2.2.2.2.2.2.2.2 then
          bif (decide (List.length x3.1 + List.length [x7.1] ≤ maxRow)) then
            some ((x3.1 ++ [x7.1]), x7.2.1, x7.2.2.1, x7.2.2.2, x8.1, x8.2.1, x8.2.2.1, x8.2.2.2.1, x8.2.2.2.2.1, x8.2.2.2.2.2.1, x8.2.2.2.2.2.2.1, x8.2.2.2.2.2.2.2.1)
          else
            none
        else
          some (x3.1, x7.2.1, x7.2.2.1, x7.2.2.2, x3.2.2.2.2.2.1, x3.2.2.2.2.2.2.1, x3.2.2.2.2.2.2.2.1, x3.2.2.2.2.2.2.2.2.1, x3.2.2.2.2.2.2.2.2.2.1, x3.2.2.2.2.2.2.2.2.2.2.1, x3.2.2.2.2.2.2.2.2.2.2.2.1, x3.2.2.2.2.2.2.2.2.2.2.2.2)
      else
        (show Option (Bool) from
          bif (x5.1 == 2) then
            some (x5.1 == 2)
          else
            some (x5.1 == 3)).bind fun (x9 : Bool) =>
        bif x9 then
          (spec_l10Do x3.2.2.2.2.2.1 x3.2.2.2.2.2.2.1 x3.2.2.2.2.2.2.2.1 x3.2.2.2.2.2.2.2.2.1 x3.2.2.2.2.2.2.2.2.2.1 x3.2.2.2.2.2.2.2.2.2.2.1 x3.2.2.2.2.2.2.2.2.2.2.2.1 x3.2.2.2.2.2.2.2.2.2.2.2.2 1 0).bind fun (x10 : Bool × (List Int) × Int × Bool × Int × Int × Int × (List Int) × (List SBII)) =>
          some (x3.1, x5.2.1, x5.2.2.1, x5.2.2.2, x10.2.1, x10.2.2.1, x10.2.2.2.1, x10.2.2.2.2.1, x10.2.2.2.2.2.1, x10.2.2.2.2.2.2.1, x10.2.2.2.2.2.2.2.1, x10.2.2.2.2.2.2.2.2)
        else
          bif (x5.1 == 4) then
            (spec_l1Below x5.2.1 x5.2.2.1 x5.2.2.2 4).bind fun (x11 : Int × (List Int) × Int × Int) =>
            (spec_l10Do x3.2.2.2.2.2.1 x3.2.2.2.2.2.2.1 x3.2.2.2.2.2.2.2.1 x3.2.2.2.2.2.2.2.2.1 x3.2.2.2.2.2.2.2.2.2.1 x3.2.2.2.2.2.2.2.2.2.2.1 x3.2.2.2.2.2.2.2.2.2.2.2.1 x3.2.2.2.2.2.2.2.2.2.2.2.2 3 x11.1).bind fun (x12 : Bool × (List Int) × Int × Bool × Int × Int × Int × (List Int) × (List SBII)) =>
            some (x3.1, x11.2.1, x11.2.2.1, x11.2.2.2, x12.2.1, x12.2.2.1, x12.2.2.2.1, x12.2.2.2.2.1, x12.2.2.2.2.2.1, x12.2.2.2.2.2.2.1, x12.2.2.2.2.2.2.2.1, x12.2.2.2.2.2.2.2.2)
          else
            bif (x5.1 == 5) then
              (spec_l1Below x5.2.1 x5.2.2.1 x5.2.2.2 4).bind fun (x13 : Int × (List Int) × Int × Int) =>
              (spec_l10Do x3.2.2.2.2.2.1 x3.2.2.2.2.2.2.1 x3.2.2.2.2.2.2.2.1 x3.2.2.2.2.2.2.2.2.1 x3.2.2.2.2.2.2.2.2.2.1 x3.2.2.2.2.2.2.2.2.2.2.1 x3.2.2.2.2.2.2.2.2.2.2.2.1 x3.2.2.2.2.2.2.2.2.2.2.2.2 4 x13.1).bind fun (x14 : Bool × (List Int) × Int × Bool × Int × Int × Int × (List Int) × (List SBII)) =>
              some (x3.1, x13.2.1, x13.2.2.1, x13.2.2.2, x14.2.1, x14.2.2.1, x14.2.2.2.1, x14.2.2.2.2.1, x14.2.2.2.2.2.1, x14.2.2.2.2.2.2.1, x14.2.2.2.2.2.2.2.1, x14.2.2.2.2.2.2.2.2)
            else
              (spec_l1Below x5.2.1 x5.2.2.1 x5.2.2.2 4).bind fun (x15 : Int × (List Int) × Int × Int) =>
              (spec_l10Do x3.2.2.2.2.2.1 x3.2.2.2.2.2.2.1 x3.2.2.2.2.2.2.2.1 x3.2.2.2.2.2.2.2.2.1 x3.2.2.2.2.2.2.2.2.2.1 x3.2.2.2.2.2.2.2.2.2.2.1 x3.2.2.2.2.2.2.2.2.2.2.2.1 x3.2.2.2.2.2.2.2.2.2.2.2.2 2 x15.1).bind fun (x16 : Bool × (List Int) × Int × Bool × Int × Int × Int × (List Int) × (List SBII)) =>
              some (x3.1, x15.2.1, x15.2.2.1, x15.2.2.2, x16.2.1, x16.2.2.1, x16.2.2.2.1, x16.2.2.2.2.1, x16.2.2.2.2.2.1, x16.2.2.2.2.2.2.1, x16.2.2.2.2.2.2.2.1, x16.2.2.2.2.2.2.2.2)).bind fun (x4 : (List Int) × (List Int) × Int × Int × (List Int) × Int × Bool × Int × Int × Int × (List Int) × (List SBII)) =>
    some (.inl (x4.1, (w64 (x3.2.1 - 1)), x4.2.1, x4.2.2.1, x4.2.2.2.1, x4.2.2.2.2.1, x4.2.2.2.2.2.1, x4.2.2.2.2.2.2.1, x4.2.2.2.2.2.2.2.1, x4.2.2.2.2.2.2.2.2.1, x4.2.2.2.2.2.2.2.2.2.1, x4.2.2.2.2.2.2.2.2.2.2.1, x4.2.2.2.2.2.2.2.2.2.2.2))
  else
    some (.inr (x3.1, x3.2.1, x3.2.2.1, x3.2.2.2.1, x3.2.2.2.2.1, x3.2.2.2.2.2.1, x3.2.2.2.2.2.2.1, x3.2.2.2.2.2.2.2.1, x3.2.2.2.2.2.2.2.2.1, x3.2.2.2.2.2.2.2.2.2.1, x3.2.2.2.2.2.2.2.2.2.2.1, x3.2.2.2.2.2.2.2.2.2.2.2.1, x3.2.2.2.2.2.2.2.2.2.2.2.2))

def spec_l10Draw (n : Nat) (a0_0 : List Int) (a0_1 : Int) (a0_2 : Int) (a1 : Int) : Option ((List Int) × Int × Bool × Int × Int × Int × (List Int) × (List SBII) × (List Int) × (List Int) × Int × Int) :=
  (spec_LinkNew).bind fun (x1 : SLIJIBIIILIJLBIIJ) =>
  (spec_l1Below a0_0 a0_1 a0_2 a1).bind fun (x2 : Int × (List Int) × Int × Int) =>
  (iter n (spec_l10Draw_L1 n) (([] : List Int), x2.1, x2.2.1, x2.2.2.1, x2.2.2.2, x1.1, x1.2.1, x1.2.2.1, x1.2.2.2.1, x1.2.2.2.2.1, x1.2.2.2.2.2.1, x1.2.2.2.2.2.2.1, x1.2.2.2.2.2.2.2)).bind fun (x17 : (List Int) × Int × (List Int) × Int × Int × (List Int) × Int × Bool × Int × Int × Int × (List Int) × (List SBII)) =>
  some (x17.2.2.2.2.2.1, x17.2.2.2.2.2.2.1, x17.2.2.2.2.2.2.2.1, x17.2.2.2.2.2.2.2.2.1, x17.2.2.2.2.2.2.2.2.2.1, x17.2.2.2.2.2.2.2.2.2.2.1, x17.2.2.2.2.2.2.2.2.2.2.2.1, x17.2.2.2.2.2.2.2.2.2.2.2.2, x17.1, x17.2.2.1, x17.2.2.2.1, x17.2.2.2.2.1)

def spec_DrawLink (n : Nat) (a0 : List Int) : Option ((List Int) × Int × Bool × Int × Int × Int × (List Int) × (List SBII) × (List Int)) :=
  (spec_l1New n a0).bind fun (x1 : SLIJII) =>
  (spec_l1Size a0 80).bind fun (x2 : Int) =>
  (spec_l10Draw n x1.1 x1.2.1 x1.2.2 (w64 (20 + x2))).bind fun (x3 : (List Int) × Int × Bool × Int × Int × Int × (List Int) × (List SBII) × (List Int) × (List Int) × Int × Int) =>
  some (x3.1, x3.2.1, x3.2.2.1, x3.2.2.2.1, x3.2.2.2.2.1, x3.2.2.2.2.2.1, x3.2.2.2.2.2.2.1, x3.2.2.2.2.2.2.2.1, x3.2.2.2.2.2.2.2.2.1)

def impl_copyInts (a0 : List Int) : Option ((List Int)) :=
  bif (decide (List.length a0 ≤ maxRow)) then
    some a0
  else
    none

def impl_copyLink (a0_0 : List Int) (a0_1 : Int) (a0_2 : Bool) (a0_3 : Int) (a0_4 : Int) (a0_5 : Int) (a0_6 : List Int) (a0_7 : List SBII) : Option (SLIJIBIIILIJLBIIJ) :=
  (impl_copyInts a0_0).bind fun (x1 : (List Int)) =>
  (impl_copyInts a0_6).bind fun (x2 : (List Int)) =>
  bif (decide (List.length a0_7 ≤ maxRow)) then
    some (x1, a0_1, a0_2, a0_3, a0_4, a0_5, x2, a0_7)
  else
    none

def impl_in (a0 : Int) (a1 : Int) (a2 : Int) : Option (Bool) :=
  (show Option (Bool) from
    bif (decide (a0 ≥ a1)) then
      some (decide (a0 ≤ a2))
    else
      some false).bind fun (x1 : Bool) =>
  some x1

def impl_whatsOk_L1 (a0 : List Int) (x1 : Int) : Option ((Int) ⊕ ((Int) ⊕ (Bool))) :=
  bif (decide (x1 < ((List.length a0 : Int)))) then
    ((getI a0 x1)).bind fun (x2 : Int) =>
    (impl_in x2 0 9999).bind fun (x3 : Bool) =>
    bif (!x3) then
      some (.inr (.inr false))
    else
      some (.inl (w64 (x1 + 1)))
  else
    some (.inr (.inl x1))

def impl_whatsOk (n : Nat) (a0 : List Int) : Option (Bool) :=
  (iter n (impl_whatsOk_L1 a0) 0).bind fun (x4 : (Int) ⊕ (Bool)) =>
  (match x4 with
  | .inl x5 => (
    some true)
  | .inr x6 => (
    some x6))

def impl_airOk_L1 (a0 : List SBII) (x1 : Int) : Option ((Int) ⊕ ((Int) ⊕ (Bool))) :=
  bif (decide (x1 < ((List.length a0 : Int)))) then
    ((getI a0 x1)).bind fun (x2 : SBII) =>
    (show Option (Bool) from
      (impl_in x2.2.1 1 1000001).bind fun (x3 : Bool) =>
      bif (!x3) then
        some true
      else
        (impl_in x2.2.2 0 9999).bind fun (x4 : Bool) =>
        bif (!x4) then
          some true
        else
          bif x2.1 then
            some (x2.2.2 != 0)
          else
            some false).bind fun (x5 : Bool) =>
    bif x5 then
      some (.inr (.inr false))
    else
      some (.inl (w64 (x1 + 1)))
  else
    some (.inr (.inl x1))

def impl_airOk (n : Nat) (a0 : List SBII) : Option (Bool) :=
  (iter n (impl_airOk_L1 a0) 0).bind fun (x6 : (Int) ⊕ (Bool)) =>
  (match x6 with
  | .inl x7 => (
    some (decide (((List.length a0 : Int)) ≤ 30)))
  | .inr x8 => (
    some x8))

def impl_LinkOk (n : Nat) (a0_0 : List Int) (a0_1 : Int) (a0_2 : Bool) (a0_3 : Int) (a0_4 : Int) (a0_5 : Int) (a0_6 : List Int) (a0_7 : List SBII) : Option (Bool) :=
  (show Option (Bool) from
    bif (decide (((List.length a0_0 : Int)) > 40)) then
      some true
    else
      bif (decide (((List.length a0_6 : Int)) > 10000)) then
        some true
      else
        (impl_whatsOk n a0_0).bind fun (x1 : Bool) =>
        bif (!x1) then
          some true
        else
          (impl_whatsOk n a0_6).bind fun (x2 : Bool) =>
          bif (!x2) then
            some true
          else
            (impl_airOk n a0_7).bind fun (x3 : Bool) =>
            some (!x3)).bind fun (x4 : Bool) =>
  bif x4 then
    some false
  else
    (show Option (Bool) from
      (impl_in a0_1 0 1000000).bind fun (x5 : Bool) =>
      bif (!x5) then
        some true
      else
        (impl_in a0_5 0 1000000).bind fun (x6 : Bool) =>
        bif (!x6) then
          some true
        else
          (impl_in a0_4 0 10000000).bind fun (x7 : Bool) =>
          bif (!x7) then
            some true
          else
            (impl_in a0_3 0 10000000).bind fun (x8 : Bool) =>
            some (!x8)).bind fun (x9 : Bool) =>
    bif x9 then
      some false
    else
      (show Option (Bool) from
        (impl_in (w64 (a0_5 - a0_1)) 0 1).bind fun (x10 : Bool) =>
        bif x10 then
          bif (((List.length a0_6 : Int)) == (w64 (a0_5 - 1))) then
            bif (!a0_2) then
              some true
            else
              some (decide (((List.length a0_0 : Int)) > 0))
          else
            some false
        else
          some false).bind fun (x11 : Bool) =>
      some x11

def impl_Link_say (a0_0 : List Int) (a0_1 : Int) (a0_2 : Bool) (a0_3 : Int) (a0_4 : Int) (a0_5 : Int) (a0_6 : List Int) (a0_7 : List SBII) (a1_0 : Bool) (a1_1 : Int) (a1_2 : Int) : Option (SLIJIBIIILIJLBIIJ) :=
  bif (decide (((List.length a0_7 : Int)) < 30)) then
    bif (decide (List.length a0_7 + List.length [(a1_0, a1_1, a1_2)] ≤ maxRow)) then
      some (a0_0, a0_1, a0_2, a0_3, a0_4, a0_5, a0_6, (a0_7 ++ [(a1_0, a1_1, a1_2)]))
    else
      none
  else
    some (a0_0, a0_1, a0_2, a0_3, a0_4, a0_5, a0_6, a0_7)

def impl_Link_tick (a0_0 : List Int) (a0_1 : Int) (a0_2 : Bool) (a0_3 : Int) (a0_4 : Int) (a0_5 : Int) (a0_6 : List Int) (a0_7 : List SBII) : Option (SLIJIBIIILIJLBIIJ) :=
  (show Option (SLIJIBIIILIJLBIIJ) from
    bif (decide (a0_4 < 9999997)) then
      some (a0_0, a0_1, a0_2, a0_3, (w64 (a0_4 + 1)), a0_5, a0_6, a0_7)
    else
      some (a0_0, a0_1, a0_2, a0_3, a0_4, a0_5, a0_6, a0_7)).bind fun (x1 : SLIJIBIIILIJLBIIJ) =>
  (show Option ((SLIJIBIIILIJLBIIJ) ⊕ (SLIJIBIIILIJLBIIJ)) from
    (show Option (Bool) from
      bif (!x1.2.2.1) then
        bif (decide (((List.length x1.1 : Int)) > 0)) then
          some (decide (x1.2.1 < 1000000))
        else
          some false
      else
        some false).bind fun (x3 : Bool) =>
    bif x3 then
      some (.inl (x1.1, (w64 (x1.2.1 + 1)), true, x1.2.2.2.1, x1.2.2.2.2.1, x1.2.2.2.2.2.1, x1.2.2.2.2.2.2.1, x1.2.2.2.2.2.2.2))
    else
      (show Option (Bool) from
        bif x1.2.2.1 then
          some (decide (x1.2.2.2.2.1 ≥ x1.2.2.2.1))
        else
          some false).bind fun (x4 : Bool) =>
      bif x4 then
        some (.inl (x1.1, x1.2.1, x1.2.2.1, x1.2.2.2.1, x1.2.2.2.2.1, x1.2.2.2.2.2.1, x1.2.2.2.2.2.2.1, x1.2.2.2.2.2.2.2))
      else
        some (.inr (x1.1, x1.2.1, x1.2.2.1, x1.2.2.2.1, x1.2.2.2.2.1, x1.2.2.2.2.2.1, x1.2.2.2.2.2.2.1, x1.2.2.2.2.2.2.2))).bind fun (x2 : (SLIJIBIIILIJLBIIJ) ⊕ (SLIJIBIIILIJLBIIJ)) =>
  (match x2 with
  | .inl x5 => (
    bif (inb x5.1 0) then
      ((x5.1[(Int.toNat 0)]?)).bind fun (x7 : Int) =>
      (impl_Link_say x5.1 x5.2.1 x5.2.2.1 (w64 (x5.2.2.2.2.1 + 3)) x5.2.2.2.2.1 x5.2.2.2.2.2.1 x5.2.2.2.2.2.2.1 x5.2.2.2.2.2.2.2 false x5.2.1 x7).bind fun (x8 : SLIJIBIIILIJLBIIJ) =>
      some (x8.1, x8.2.1, x8.2.2.1, x8.2.2.2.1, x8.2.2.2.2.1, x8.2.2.2.2.2.1, x8.2.2.2.2.2.2.1, x8.2.2.2.2.2.2.2)
    else
      none)
  | .inr x6 => (
    some x6))

def impl_Link_drop (a0_0 : List Int) (a0_1 : Int) (a0_2 : Bool) (a0_3 : Int) (a0_4 : Int) (a0_5 : Int) (a0_6 : List Int) (a0_7 : List SBII) (a1 : Int) : Option (Bool × Int × Int × (List Int) × Int × Bool × Int × Int × Int × (List Int) × (List SBII)) :=
  bif (inb a0_7 a1) then
    ((a0_7[(Int.toNat a1)]?)).bind fun (x1 : SBII) =>
    bif (decide (0 ≤ (0 : Int)) && decide ((0 : Int) ≤ a1) && decide (a1 ≤ ((List.length a0_7 : Int)))) then
      bif (decide (List.length (sub a0_7 (Int.toNat (0 : Int)) (Int.toNat a1)) ≤ maxRow)) then
        bif (decide (0 ≤ (w64 (a1 + 1))) && decide ((w64 (a1 + 1)) ≤ ((List.length a0_7 : Int))) && decide (((List.length a0_7 : Int)) ≤ ((List.length a0_7 : Int)))) then
          bif (decide (List.length (sub a0_7 (Int.toNat (0 : Int)) (Int.toNat a1)) + List.length (sub a0_7 (Int.toNat (w64 (a1 + 1))) (Int.toNat ((List.length a0_7 : Int)))) ≤ maxRow)) then
            some (x1.1, x1.2.1, x1.2.2, a0_0, a0_1, a0_2, a0_3, a0_4, a0_5, a0_6, ((sub a0_7 (Int.toNat (0 : Int)) (Int.toNat a1)) ++ (sub a0_7 (Int.toNat (w64 (a1 + 1))) (Int.toNat ((List.length a0_7 : Int))))))
          else
            none
        else
          none
      else
        none
    else
      none
  else
    none

def impl_Link_hear (a0_0 : List Int) (a0_1 : Int) (a0_2 : Bool) (a0_3 : Int) (a0_4 : Int) (a0_5 : Int) (a0_6 : List Int) (a0_7 : List SBII) (a1 : Int) : Option (SLIJIBIIILIJLBIIJ) :=
  (impl_Link_drop a0_0 a0_1 a0_2 a0_3 a0_4 a0_5 a0_6 a0_7 a1).bind fun (x1 : Bool × Int × Int × (List Int) × Int × Bool × Int × Int × Int × (List Int) × (List SBII)) =>
  (show Option (Bool) from
    bif x1.1 then
      bif x1.2.2.2.2.2.1 then
        some (x1.2.1 == x1.2.2.2.2.1)
      else
        some false
    else
      some false).bind fun (x2 : Bool) =>
  bif x2 then
    bif (decide (0 ≤ 1) && decide (1 ≤ ((List.length x1.2.2.2.1 : Int))) && decide (((List.length x1.2.2.2.1 : Int)) ≤ ((List.length x1.2.2.2.1 : Int)))) then
      (impl_copyInts (sub x1.2.2.2.1 (Int.toNat 1) (Int.toNat ((List.length x1.2.2.2.1 : Int))))).bind fun (x3 : (List Int)) =>
      some (x3, x1.2.2.2.2.1, false, x1.2.2.2.2.2.2.1, x1.2.2.2.2.2.2.2.1, x1.2.2.2.2.2.2.2.2.1, x1.2.2.2.2.2.2.2.2.2.1, x1.2.2.2.2.2.2.2.2.2.2)
    else
      none
  else
    bif (!x1.1) then
      (show Option (SLIJIBIIILIJLBIIJ) from
        (show Option (Bool) from
          bif (x1.2.1 == x1.2.2.2.2.2.2.2.2.1) then
            some (decide (((List.length x1.2.2.2.2.2.2.2.2.2.1 : Int)) < 10000))
          else
            some false).bind fun (x5 : Bool) =>
        bif x5 then
          bif (decide (List.length x1.2.2.2.2.2.2.2.2.2.1 + List.length [x1.2.2.1] ≤ maxRow)) then
            some (x1.2.2.2.1, x1.2.2.2.2.1, x1.2.2.2.2.2.1, x1.2.2.2.2.2.2.1, x1.2.2.2.2.2.2.2.1, (w64 (x1.2.2.2.2.2.2.2.2.1 + 1)), (x1.2.2.2.2.2.2.2.2.2.1 ++ [x1.2.2.1]), x1.2.2.2.2.2.2.2.2.2.2)
          else
            none
        else
          some (x1.2.2.2.1, x1.2.2.2.2.1, x1.2.2.2.2.2.1, x1.2.2.2.2.2.2.1, x1.2.2.2.2.2.2.2.1, x1.2.2.2.2.2.2.2.2.1, x1.2.2.2.2.2.2.2.2.2.1, x1.2.2.2.2.2.2.2.2.2.2)).bind fun (x4 : SLIJIBIIILIJLBIIJ) =>
      bif (decide (x1.2.1 < x4.2.2.2.2.2.1)) then
        (impl_Link_say x4.1 x4.2.1 x4.2.2.1 x4.2.2.2.1 x4.2.2.2.2.1 x4.2.2.2.2.2.1 x4.2.2.2.2.2.2.1 x4.2.2.2.2.2.2.2 true x1.2.1 0).bind fun (x6 : SLIJIBIIILIJLBIIJ) =>
        some (x6.1, x6.2.1, x6.2.2.1, x6.2.2.2.1, x6.2.2.2.2.1, x6.2.2.2.2.2.1, x6.2.2.2.2.2.2.1, x6.2.2.2.2.2.2.2)
      else
        some (x4.1, x4.2.1, x4.2.2.1, x4.2.2.2.1, x4.2.2.2.2.1, x4.2.2.2.2.2.1, x4.2.2.2.2.2.2.1, x4.2.2.2.2.2.2.2)
    else
      some (x1.2.2.2.1, x1.2.2.2.2.1, x1.2.2.2.2.2.1, x1.2.2.2.2.2.2.1, x1.2.2.2.2.2.2.2.1, x1.2.2.2.2.2.2.2.2.1, x1.2.2.2.2.2.2.2.2.2.1, x1.2.2.2.2.2.2.2.2.2.2)

def impl_Calm_L2 (x6 : Int × (List Int) × Int × Bool × Int × Int × Int × (List Int) × (List SBII)) : Option ((Int × (List Int) × Int × Bool × Int × Int × Int × (List Int) × (List SBII)) ⊕ (Int × (List Int) × Int × Bool × Int × Int × Int × (List Int) × (List SBII))) :=
  (show Option (Bool) from
    bif (decide (x6.1 < 60)) then
      some (decide (((List.length x6.2.2.2.2.2.2.2.2 : Int)) > 0))
    else
      some false).bind fun (x7 : Bool) =>
  bif x7 then
    (impl_Link_hear x6.2.1 x6.2.2.1 x6.2.2.2.1 x6.2.2.2.2.1 x6.2.2.2.2.2.1 x6.2.2.2.2.2.2.1 x6.2.2.2.2.2.2.2.1 x6.2.2.2.2.2.2.2.2 0).bind fun (x8 : SLIJIBIIILIJLBIIJ) =>
    some (.inl ((w64 (x6.1 + 1)), x8.1, x8.2.1, x8.2.2.1, x8.2.2.2.1, x8.2.2.2.2.1, x8.2.2.2.2.2.1, x8.2.2.2.2.2.2.1, x8.2.2.2.2.2.2.2))
  else
    some (.inr (x6.1, x6.2.1, x6.2.2.1, x6.2.2.2.1, x6.2.2.2.2.1, x6.2.2.2.2.2.1, x6.2.2.2.2.2.2.1, x6.2.2.2.2.2.2.2.1, x6.2.2.2.2.2.2.2.2))

def impl_Calm_L1 (n : Nat) (x3 : Int × (List Int) × Int × Bool × Int × Int × Int × (List Int) × (List SBII)) : Option ((Int × (List Int) × Int × Bool × Int × Int × Int × (List Int) × (List SBII)) ⊕ (Int × (List Int) × Int × Bool × Int × Int × Int × (List Int) × (List SBII))) :=
  (show Option (Bool) from
    bif (decide (x3.1 < 200)) then
      bif (decide (((List.length x3.2.1 : Int)) > 0)) then
        some true
      else
        some (decide (((List.length x3.2.2.2.2.2.2.2.2 : Int)) > 0))
    else
      some false).bind fun (x4 : Bool) =>
  bif x4 then
    (impl_Link_tick x3.2.1 x3.2.2.1 x3.2.2.2.1 x3.2.2.2.2.1 x3.2.2.2.2.2.1 x3.2.2.2.2.2.2.1 x3.2.2.2.2.2.2.2.1 x3.2.2.2.2.2.2.2.2).bind fun (x5 : SLIJIBIIILIJLBIIJ) =>
    (iter n (impl_Calm_L2) (0, x5.1, x5.2.1, x5.2.2.1, x5.2.2.2.1, x5.2.2.2.2.1, x5.2.2.2.2.2.1, x5.2.2.2.2.2.2.1, x5.2.2.2.2.2.2.2)).bind fun (x9 : Int × (List Int) × Int × Bool × Int × Int × Int × (List Int) × (List SBII)) =>
    some (.inl ((w64 (x3.1 + 1)), x9.2.1, x9.2.2.1, x9.2.2.2.1, x9.2.2.2.2.1, x9.2.2.2.2.2.1, x9.2.2.2.2.2.2.1, x9.2.2.2.2.2.2.2.1, x9.2.2.2.2.2.2.2.2))
  else
    some (.inr (x3.1, x3.2.1, x3.2.2.1, x3.2.2.2.1, x3.2.2.2.2.1, x3.2.2.2.2.2.1, x3.2.2.2.2.2.2.1, x3.2.2.2.2.2.2.2.1, x3.2.2.2.2.2.2.2.2))

def impl_Calm (n : Nat) (a0_0 : List Int) (a0_1 : Int) (a0_2 : Bool) (a0_3 : Int) (a0_4 : Int) (a0_5 : Int) (a0_6 : List Int) (a0_7 : List SBII) : Option (SLIJIBIIILIJLBIIJ) :=
  (impl_copyLink a0_0 a0_1 a0_2 a0_3 a0_4 a0_5 a0_6 a0_7).bind fun (x1 : SLIJIBIIILIJLBIIJ) =>
  (impl_LinkOk n a0_0 a0_1 a0_2 a0_3 a0_4 a0_5 a0_6 a0_7).bind fun (x2 : Bool) =>
  bif (!x2) then
    some (x1.1, x1.2.1, x1.2.2.1, x1.2.2.2.1, x1.2.2.2.2.1, x1.2.2.2.2.2.1, x1.2.2.2.2.2.2.1, x1.2.2.2.2.2.2.2)
  else
    (iter n (impl_Calm_L1 n) (0, x1.1, x1.2.1, x1.2.2.1, x1.2.2.2.1, x1.2.2.2.2.1, x1.2.2.2.2.2.1, x1.2.2.2.2.2.2.1, x1.2.2.2.2.2.2.2)).bind fun (x10 : Int × (List Int) × Int × Bool × Int × Int × Int × (List Int) × (List SBII)) =>
    some (x10.2.1, x10.2.2.1, x10.2.2.2.1, x10.2.2.2.2.1, x10.2.2.2.2.2.1, x10.2.2.2.2.2.2.1, x10.2.2.2.2.2.2.2.1, x10.2.2.2.2.2.2.2.2)

def laws_sameInts_L1 (a0 : List Int) (a1 : List Int) (x1 : Int) : Option ((Int) ⊕ ((Int) ⊕ (Bool))) :=
  bif (decide (x1 < ((List.length a0 : Int)))) then
    ((getI a0 x1)).bind fun (x2 : Int) =>
    ((getI a1 x1)).bind fun (x3 : Int) =>
    bif (x2 != x3) then
      some (.inr (.inr false))
    else
      some (.inl (w64 (x1 + 1)))
  else
    some (.inr (.inl x1))

def laws_sameInts (n : Nat) (a0 : List Int) (a1 : List Int) : Option (Bool) :=
  bif (((List.length a0 : Int)) != ((List.length a1 : Int))) then
    some false
  else
    (iter n (laws_sameInts_L1 a0 a1) 0).bind fun (x4 : (Int) ⊕ (Bool)) =>
    (match x4 with
    | .inl x5 => (
      some true)
    | .inr x6 => (
      some x6))

def impl_Tell (n : Nat) (a0_0 : List Int) (a0_1 : Int) (a0_2 : Bool) (a0_3 : Int) (a0_4 : Int) (a0_5 : Int) (a0_6 : List Int) (a0_7 : List SBII) (a1 : Int) : Option ((List Int) × Int × Bool × Int × Int × Int × (List Int) × (List SBII) × Bool) :=
  (impl_copyLink a0_0 a0_1 a0_2 a0_3 a0_4 a0_5 a0_6 a0_7).bind fun (x1 : SLIJIBIIILIJLBIIJ) =>
  (show Option (Bool) from
    (impl_LinkOk n a0_0 a0_1 a0_2 a0_3 a0_4 a0_5 a0_6 a0_7).bind fun (x2 : Bool) =>
    bif (!x2) then
      some true
    else
      (impl_in a1 0 9999).bind fun (x3 : Bool) =>
      bif (!x3) then
        some true
      else
        some (decide (((List.length a0_0 : Int)) ≥ 40))).bind fun (x4 : Bool) =>
  bif x4 then
    some (x1.1, x1.2.1, x1.2.2.1, x1.2.2.2.1, x1.2.2.2.2.1, x1.2.2.2.2.2.1, x1.2.2.2.2.2.2.1, x1.2.2.2.2.2.2.2, false)
  else
    bif (decide (List.length x1.1 + List.length [a1] ≤ maxRow)) then
      some ((x1.1 ++ [a1]), x1.2.1, x1.2.2.1, x1.2.2.2.1, x1.2.2.2.2.1, x1.2.2.2.2.2.1, x1.2.2.2.2.2.2.1, x1.2.2.2.2.2.2.2, true)
    else
      none

def laws_FnCalm (n : Nat) (a0 : List Int) : Option (Bool) :=
  (laws_big a0).bind fun (x1 : Bool) =>
  bif x1 then
    some true
  else
    (spec_DrawLink n a0).bind fun (x2 : (List Int) × Int × Bool × Int × Int × Int × (List Int) × (List SBII) × (List Int)) =>
    (impl_Calm n x2.1 x2.2.1 x2.2.2.1 x2.2.2.2.1 x2.2.2.2.2.1 x2.2.2.2.2.2.1 x2.2.2.2.2.2.2.1 x2.2.2.2.2.2.2.2.1).bind fun (x3 : SLIJIBIIILIJLBIIJ) =>
    (show Option (Bool) from
      (laws_sameInts n x3.2.2.2.2.2.2.1 x2.2.2.2.2.2.2.2.2).bind fun (x4 : Bool) =>
      bif (!x4) then
        some true
      else
        bif (((List.length x3.1 : Int)) != 0) then
          some true
        else
          bif (((List.length x3.2.2.2.2.2.2.2 : Int)) != 0) then
            some true
          else
            (impl_LinkOk n x3.1 x3.2.1 x3.2.2.1 x3.2.2.2.1 x3.2.2.2.2.1 x3.2.2.2.2.2.1 x3.2.2.2.2.2.2.1 x3.2.2.2.2.2.2.2).bind fun (x5 : Bool) =>
            some (!x5)).bind fun (x6 : Bool) =>
    bif x6 then
      some false
    else
      (impl_Tell n x3.1 x3.2.1 x3.2.2.1 x3.2.2.2.1 x3.2.2.2.2.1 x3.2.2.2.2.2.1 x3.2.2.2.2.2.2.1 x3.2.2.2.2.2.2.2 77).bind fun (x7 : (List Int) × Int × Bool × Int × Int × Int × (List Int) × (List SBII) × Bool) =>
      (impl_Calm n x7.1 x7.2.1 x7.2.2.1 x7.2.2.2.1 x7.2.2.2.2.1 x7.2.2.2.2.2.1 x7.2.2.2.2.2.2.1 x7.2.2.2.2.2.2.2.1).bind fun (x8 : SLIJIBIIILIJLBIIJ) =>
      (show Option (Bool) from
        bif x7.2.2.2.2.2.2.2.2 then
          bif (((List.length x8.2.2.2.2.2.2.1 : Int)) == (w64 (((List.length x2.2.2.2.2.2.2.2.2 : Int)) + 1))) then
            bif (inb x8.2.2.2.2.2.2.1 ((List.length x2.2.2.2.2.2.2.2.2 : Int))) then
              ((x8.2.2.2.2.2.2.1[(Int.toNat ((List.length x2.2.2.2.2.2.2.2.2 : Int)))]?)).bind fun (x9 : Int) =>
              some (x9 == 77)
            else
              none
          else
            some false
        else
          some false).bind fun (x10 : Bool) =>
      some x10

end Go.Ev.N
