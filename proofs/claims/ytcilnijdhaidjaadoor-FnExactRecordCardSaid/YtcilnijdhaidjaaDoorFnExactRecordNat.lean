/- The native forms of the functions, as gen.py prints them. Conditions: none. -/
import Derived.Test.YtcilnijdhaidjaaDoorLib4
namespace Go.Ev.N
open Go Go.Ev
set_option linter.unusedVariables false

def w64 (n : Int) : Int := IntKind.wrap .i64 n

abbrev STI := (List UInt8) × Int

abbrev SII := Int × Int

abbrev SIIBI := Int × Int × Bool × Int

abbrev SIILIIJIIII := Int × Int × (List SII) × Int × Int × Int × Int

def laws_szItemS (a0 : List SII) (a1 : Int) : Option (Int) :=
  bif (decide ((w64 (a1 - ((List.length a0 : Int)))) < 0)) then
    some (-1)
  else
    some (w64 (a1 - ((List.length a0 : Int))))

def laws_szAct (a0_0 : Int) (a0_1 : Int) (a0_2 : List SII) (a0_3 : Int) (a0_4 : Int) (a0_5 : Int) (a0_6 : Int) (a1 : Int) : Option (Int) :=
  (laws_szItemS a0_2 a1).bind fun (x1 : Int) =>
  bif (decide (x1 < 0)) then
    some (-1)
  else
    some x1

def laws_toItem (a0_0 : Int) (a0_1 : Int) : Option (SII) :=
  some (a0_0, a0_1)

def laws_toItemS_L1 (a0 : List SII) (x1 : Int × (List SII)) : Option ((Int × (List SII)) ⊕ (Int × (List SII))) :=
  bif (decide (x1.1 < ((List.length a0 : Int)))) then
    ((getI a0 x1.1)).bind fun (x2 : SII) =>
    (laws_toItem x2.1 x2.2).bind fun (x3 : SII) =>
    bif (inb x1.2 x1.1) then
      some (.inl ((w64 (x1.1 + 1)), (upd x1.2 (Int.toNat x1.1) (x3.1, x3.2))))
    else
      none
  else
    some (.inr (x1.1, x1.2))

def laws_toItemS (n : Nat) (a0 : List SII) : Option ((List SII)) :=
  bif (decide (0 ≤ ((List.length a0 : Int))) && decide (((List.length a0 : Int)) ≤ (maxRow : Int)) && decide (((List.length a0 : Int)) = ((List.length a0 : Int)))) then
    (iter n (laws_toItemS_L1 a0) (0, (List.replicate (Int.toNat ((List.length a0 : Int))) ((0, 0) : SII)))).bind fun (x4 : Int × (List SII)) =>
    some x4.2
  else
    none

def laws_toAct (n : Nat) (a0_0 : Int) (a0_1 : Int) (a0_2 : List SII) (a0_3 : Int) (a0_4 : Int) (a0_5 : Int) (a0_6 : Int) : Option (SIILIIJIIII) :=
  (laws_toItemS n a0_2).bind fun (x1 : (List SII)) =>
  some (a0_0, a0_1, x1, a0_3, a0_4, a0_5, a0_6)

def spec_l14Only (a0_0 : Int) (a0_1 : Int) (a0_2 : List SII) (a0_3 : Int) (a0_4 : Int) (a0_5 : Int) (a0_6 : Int) (a1 : Bool) (a2 : Bool) (a3 : Bool) (a4 : Bool) : Option (Bool) :=
  (show Option (Bool) from
    bif a1 then
      bif a2 then
        bif a3 then
          bif a4 then
            some true
          else
            some (a0_6 == 0)
        else
          bif (a0_4 == 0) then
            bif (a0_5 == 0) then
              bif a4 then
                some true
              else
                some (a0_6 == 0)
            else
              some false
          else
            some false
      else
        bif (a0_3 == 0) then
          bif a3 then
            bif a4 then
              some true
            else
              some (a0_6 == 0)
          else
            bif (a0_4 == 0) then
              bif (a0_5 == 0) then
                bif a4 then
                  some true
                else
                  some (a0_6 == 0)
              else
                some false
            else
              some false
        else
          some false
    else
      bif (a0_1 == 0) then
        bif (((List.length a0_2 : Int)) == 0) then
          bif a2 then
            bif a3 then
              bif a4 then
                some true
              else
                some (a0_6 == 0)
            else
              bif (a0_4 == 0) then
                bif (a0_5 == 0) then
                  bif a4 then
                    some true
                  else
                    some (a0_6 == 0)
                else
                  some false
              else
                some false
          else
            bif (a0_3 == 0) then
              bif a3 then
                bif a4 then
                  some true
                else
                  some (a0_6 == 0)
              else
                bif (a0_4 == 0) then
                  bif (a0_5 == 0) then
                    bif a4 then
                      some true
                    else
                      some (a0_6 == 0)
                  else
                    some false
                else
                  some false
            else
              some false
        else
          some false
      else
        some false).bind fun (x1 : Bool) =>
  some x1

def spec_l1In (a0 : Int) (a1 : Int) (a2 : Int) : Option (Bool) :=
  (show Option (Bool) from
    bif (decide (a0 ≥ a1)) then
      some (decide (a0 ≤ a2))
    else
      some false).bind fun (x1 : Bool) =>
  some x1

def spec_ItemsOk_L1 (a0 : List SII) (x1 : Int) : Option ((Int) ⊕ ((Int) ⊕ (Bool))) :=
  bif (decide (x1 < ((List.length a0 : Int)))) then
    (show Option (Bool) from
      ((getI a0 x1)).bind fun (x2 : SII) =>
      (spec_l1In x2.1 1 50).bind fun (x3 : Bool) =>
      bif (!x3) then
        some true
      else
        ((getI a0 x1)).bind fun (x4 : SII) =>
        (spec_l1In x4.2 1 1000).bind fun (x5 : Bool) =>
        bif (!x5) then
          some true
        else
          bif (decide (x1 > 0)) then
            ((getI a0 (w64 (x1 - 1)))).bind fun (x6 : SII) =>
            ((getI a0 x1)).bind fun (x7 : SII) =>
            some (decide (x6.1 ≥ x7.1))
          else
            some false).bind fun (x8 : Bool) =>
    bif x8 then
      some (.inr (.inr false))
    else
      some (.inl (w64 (x1 + 1)))
  else
    some (.inr (.inl x1))

def spec_ItemsOk (n : Nat) (a0 : List SII) : Option (Bool) :=
  (iter n (spec_ItemsOk_L1 a0) 0).bind fun (x9 : (Int) ⊕ (Bool)) =>
  (match x9 with
  | .inl x10 => (
    some (decide (((List.length a0 : Int)) ≤ 6)))
  | .inr x11 => (
    some x11))

def spec_ActOk (n : Nat) (a0_0 : Int) (a0_1 : Int) (a0_2 : List SII) (a0_3 : Int) (a0_4 : Int) (a0_5 : Int) (a0_6 : Int) : Option (Bool) :=
  bif (a0_0 == 1) then
    (show Option (Bool) from
      (spec_l14Only a0_0 a0_1 a0_2 a0_3 a0_4 a0_5 a0_6 true false false false).bind fun (x1 : Bool) =>
      bif x1 then
        (spec_l1In a0_1 0 99).bind fun (x2 : Bool) =>
        bif x2 then
          (spec_ItemsOk n a0_2).bind fun (x3 : Bool) =>
          bif x3 then
            some (decide (((List.length a0_2 : Int)) > 0))
          else
            some false
        else
          some false
      else
        some false).bind fun (x4 : Bool) =>
    some x4
  else
    bif (a0_0 == 2) then
      (show Option (Bool) from
        (spec_l14Only a0_0 a0_1 a0_2 a0_3 a0_4 a0_5 a0_6 false true false false).bind fun (x5 : Bool) =>
        bif x5 then
          (spec_l1In a0_3 1 999999).bind fun (x6 : Bool) =>
          some x6
        else
          some false).bind fun (x7 : Bool) =>
      some x7
    else
      bif (a0_0 == 3) then
        (show Option (Bool) from
          (spec_l14Only a0_0 a0_1 a0_2 a0_3 a0_4 a0_5 a0_6 false false true true).bind fun (x8 : Bool) =>
          bif x8 then
            (spec_l1In a0_4 1 999).bind fun (x9 : Bool) =>
            bif x9 then
              (spec_l1In a0_5 1 50).bind fun (x10 : Bool) =>
              bif x10 then
                (spec_l1In a0_6 1 1000).bind fun (x11 : Bool) =>
                some x11
              else
                some false
            else
              some false
          else
            some false).bind fun (x12 : Bool) =>
        some x12
      else
        bif (a0_0 == 4) then
          (show Option (Bool) from
            (spec_l14Only a0_0 a0_1 a0_2 a0_3 a0_4 a0_5 a0_6 false false false true).bind fun (x13 : Bool) =>
            bif x13 then
              (spec_l1In a0_6 1 50).bind fun (x14 : Bool) =>
              some x14
            else
              some false).bind fun (x15 : Bool) =>
          some x15
        else
          some false

def spec_l14Text : Nat → Int → Option ((List UInt8))
| 0, _ => none
| n + 1, a0 =>
  bif (decide (a0 < 0)) then
    (spec_l14Text n (IntKind.wrap .i64 (negI a0))).bind fun (x1 : (List UInt8)) =>
    bif (decide (List.length ([45] : List UInt8) + List.length x1 ≤ 4611686018427387904)) then
      some (([45] : List UInt8) ++ x1)
    else
      none
  else
    bif (decide (a0 < 10)) then
      some (bytesOf [(IntKind.wrap .u8 (w64 (48 + a0)))])
    else
      (spec_l14Text n (w64 (Int.tdiv a0 10))).bind fun (x2 : (List UInt8)) =>
      bif (decide (List.length x2 + List.length (bytesOf [(IntKind.wrap .u8 (w64 (48 + (Int.tmod a0 10))))]) ≤ 4611686018427387904)) then
        some (x2 ++ (bytesOf [(IntKind.wrap .u8 (w64 (48 + (Int.tmod a0 10))))]))
      else
        none

def spec_ActText_L1 (n : Nat) (a0_2 : List SII) (x3 : (List UInt8) × Int) : Option (((List UInt8) × Int) ⊕ ((List UInt8) × Int)) :=
  bif (decide (x3.2 < ((List.length a0_2 : Int)))) then
    bif (decide (List.length x3.1 + List.length ([32] : List UInt8) ≤ 4611686018427387904)) then
      ((getI a0_2 x3.2)).bind fun (x4 : SII) =>
      (spec_l14Text n x4.1).bind fun (x5 : (List UInt8)) =>
      bif (decide (List.length (x3.1 ++ ([32] : List UInt8)) + List.length x5 ≤ 4611686018427387904)) then
        bif (decide (List.length ((x3.1 ++ ([32] : List UInt8)) ++ x5) + List.length ([58] : List UInt8) ≤ 4611686018427387904)) then
          ((getI a0_2 x3.2)).bind fun (x6 : SII) =>
          (spec_l14Text n x6.2).bind fun (x7 : (List UInt8)) =>
          bif (decide (List.length (((x3.1 ++ ([32] : List UInt8)) ++ x5) ++ ([58] : List UInt8)) + List.length x7 ≤ 4611686018427387904)) then
            some (.inl (((((x3.1 ++ ([32] : List UInt8)) ++ x5) ++ ([58] : List UInt8)) ++ x7), (w64 (x3.2 + 1))))
          else
            none
        else
          none
      else
        none
    else
      none
  else
    some (.inr (x3.1, x3.2))

def spec_ActText (n : Nat) (a0_0 : Int) (a0_1 : Int) (a0_2 : List SII) (a0_3 : Int) (a0_4 : Int) (a0_5 : Int) (a0_6 : Int) : Option ((List UInt8)) :=
  (spec_ActOk n a0_0 a0_1 a0_2 a0_3 a0_4 a0_5 a0_6).bind fun (x1 : Bool) =>
  bif (!x1) then
    some ([] : List UInt8)
  else
    bif (a0_0 == 1) then
      (spec_l14Text n a0_1).bind fun (x2 : (List UInt8)) =>
      bif (decide (List.length ([111, 114, 100, 101, 114, 32] : List UInt8) + List.length x2 ≤ 4611686018427387904)) then
        (iter n (spec_ActText_L1 n a0_2) ((([111, 114, 100, 101, 114, 32] : List UInt8) ++ x2), 0)).bind fun (x8 : (List UInt8) × Int) =>
        some x8.1
      else
        none
    else
      bif (a0_0 == 2) then
        (spec_l14Text n a0_3).bind fun (x9 : (List UInt8)) =>
        bif (decide (List.length ([98, 97, 99, 107, 32] : List UInt8) + List.length x9 ≤ 4611686018427387904)) then
          some (([98, 97, 99, 107, 32] : List UInt8) ++ x9)
        else
          none
      else
        bif (a0_0 == 3) then
          (spec_l14Text n a0_4).bind fun (x10 : (List UInt8)) =>
          bif (decide (List.length ([112, 117, 116, 32] : List UInt8) + List.length x10 ≤ 4611686018427387904)) then
            bif (decide (List.length (([112, 117, 116, 32] : List UInt8) ++ x10) + List.length ([32] : List UInt8) ≤ 4611686018427387904)) then
              (spec_l14Text n a0_5).bind fun (x11 : (List UInt8)) =>
              bif (decide (List.length ((([112, 117, 116, 32] : List UInt8) ++ x10) ++ ([32] : List UInt8)) + List.length x11 ≤ 4611686018427387904)) then
                bif (decide (List.length (((([112, 117, 116, 32] : List UInt8) ++ x10) ++ ([32] : List UInt8)) ++ x11) + List.length ([32] : List UInt8) ≤ 4611686018427387904)) then
                  (spec_l14Text n a0_6).bind fun (x12 : (List UInt8)) =>
                  bif (decide (List.length ((((([112, 117, 116, 32] : List UInt8) ++ x10) ++ ([32] : List UInt8)) ++ x11) ++ ([32] : List UInt8)) + List.length x12 ≤ 4611686018427387904)) then
                    some (((((([112, 117, 116, 32] : List UInt8) ++ x10) ++ ([32] : List UInt8)) ++ x11) ++ ([32] : List UInt8)) ++ x12)
                  else
                    none
                else
                  none
              else
                none
            else
              none
          else
            none
        else
          (spec_l14Text n a0_6).bind fun (x13 : (List UInt8)) =>
          bif (decide (List.length ([116, 105, 99, 107, 32] : List UInt8) + List.length x13 ≤ 4611686018427387904)) then
            some (([116, 105, 99, 107, 32] : List UInt8) ++ x13)
          else
            none

def spec_CheckOf_L1 (a0 : List UInt8) (x1 : SII) : Option ((SII) ⊕ (SII)) :=
  bif (decide (x1.2 < ((List.length a0 : Int)))) then
    ((getI a0 x1.2)).bind fun (x2 : UInt8) =>
    some (.inl ((Int.tmod (w64 ((w64 (x1.1 * 31)) + (w64 ((x2.toNat : Int))))) 9973), (w64 (x1.2 + 1))))
  else
    some (.inr (x1.1, x1.2))

def spec_CheckOf (n : Nat) (a0 : List UInt8) : Option (Int) :=
  (iter n (spec_CheckOf_L1 a0) (0, 0)).bind fun (x3 : SII) =>
  some x3.1

def spec_Record (n : Nat) (a0_0 : Int) (a0_1 : Int) (a0_2 : List SII) (a0_3 : Int) (a0_4 : Int) (a0_5 : Int) (a0_6 : Int) : Option ((List UInt8)) :=
  (spec_ActText n a0_0 a0_1 a0_2 a0_3 a0_4 a0_5 a0_6).bind fun (x1 : (List UInt8)) =>
  bif (x1 == ([] : List UInt8)) then
    some ([] : List UInt8)
  else
    (spec_CheckOf n x1).bind fun (x2 : Int) =>
    bif (decide (List.length x1 + List.length ([42] : List UInt8) ≤ 4611686018427387904)) then
      (spec_l14Text n (w64 (Int.tdiv x2 1000))).bind fun (x3 : (List UInt8)) =>
      bif (decide (List.length (x1 ++ ([42] : List UInt8)) + List.length x3 ≤ 4611686018427387904)) then
        (spec_l14Text n (Int.tmod (w64 (Int.tdiv x2 100)) 10)).bind fun (x4 : (List UInt8)) =>
        bif (decide (List.length ((x1 ++ ([42] : List UInt8)) ++ x3) + List.length x4 ≤ 4611686018427387904)) then
          (spec_l14Text n (Int.tmod (w64 (Int.tdiv x2 10)) 10)).bind fun (x5 : (List UInt8)) =>
          bif (decide (List.length (((x1 ++ ([42] : List UInt8)) ++ x3) ++ x4) + List.length x5 ≤ 4611686018427387904)) then
            (spec_l14Text n (Int.tmod x2 10)).bind fun (x6 : (List UInt8)) =>
            bif (decide (List.length ((((x1 ++ ([42] : List UInt8)) ++ x3) ++ x4) ++ x5) + List.length x6 ≤ 4611686018427387904)) then
              bif (decide (List.length (((((x1 ++ ([42] : List UInt8)) ++ x3) ++ x4) ++ x5) ++ x6) + List.length ([10] : List UInt8) ≤ 4611686018427387904)) then
                some ((((((x1 ++ ([42] : List UInt8)) ++ x3) ++ x4) ++ x5) ++ x6) ++ ([10] : List UInt8))
              else
                none
            else
              none
          else
            none
        else
          none
      else
        none
    else
      none

def impl_in (a0 : Int) (a1 : Int) (a2 : Int) : Option (Bool) :=
  (show Option (Bool) from
    bif (decide (a0 ≥ a1)) then
      some (decide (a0 ≤ a2))
    else
      some false).bind fun (x1 : Bool) =>
  some x1

def impl_ItemsOk_L1 (a0 : List SII) (x1 : Int) : Option ((Int) ⊕ ((Int) ⊕ (Bool))) :=
  bif (decide (x1 < ((List.length a0 : Int)))) then
    ((getI a0 x1)).bind fun (x2 : SII) =>
    (show Option (Bool) from
      (impl_in x2.1 1 50).bind fun (x3 : Bool) =>
      bif (!x3) then
        some true
      else
        (impl_in x2.2 1 1000).bind fun (x4 : Bool) =>
        bif (!x4) then
          some true
        else
          bif (decide (x1 > 0)) then
            ((getI a0 (w64 (x1 - 1)))).bind fun (x5 : SII) =>
            some (decide (x5.1 ≥ x2.1))
          else
            some false).bind fun (x6 : Bool) =>
    bif x6 then
      some (.inr (.inr false))
    else
      some (.inl (w64 (x1 + 1)))
  else
    some (.inr (.inl x1))

def impl_ItemsOk (n : Nat) (a0 : List SII) : Option (Bool) :=
  (iter n (impl_ItemsOk_L1 a0) 0).bind fun (x7 : (Int) ⊕ (Bool)) =>
  (match x7 with
  | .inl x8 => (
    some (decide (((List.length a0 : Int)) ≤ 6)))
  | .inr x9 => (
    some x9))

def impl_orderAct (n : Nat) (a0_0 : Int) (a0_1 : Int) (a0_2 : List SII) (a0_3 : Int) (a0_4 : Int) (a0_5 : Int) (a0_6 : Int) : Option (Bool) :=
  (show Option (Bool) from
    (impl_in a0_1 0 99).bind fun (x1 : Bool) =>
    bif x1 then
      bif (decide (((List.length a0_2 : Int)) > 0)) then
        (impl_ItemsOk n a0_2).bind fun (x2 : Bool) =>
        bif x2 then
          bif (a0_3 == 0) then
            bif (a0_4 == 0) then
              bif (a0_5 == 0) then
                some (a0_6 == 0)
              else
                some false
            else
              some false
          else
            some false
        else
          some false
      else
        some false
    else
      some false).bind fun (x3 : Bool) =>
  some x3

def impl_ActOk (n : Nat) (a0_0 : Int) (a0_1 : Int) (a0_2 : List SII) (a0_3 : Int) (a0_4 : Int) (a0_5 : Int) (a0_6 : Int) : Option (Bool) :=
  (show Option (Bool) from
    bif (a0_1 == 0) then
      some (((List.length a0_2 : Int)) == 0)
    else
      some false).bind fun (x1 : Bool) =>
  bif (a0_0 == 1) then
    (impl_orderAct n a0_0 a0_1 a0_2 a0_3 a0_4 a0_5 a0_6).bind fun (x2 : Bool) =>
    some x2
  else
    bif (a0_0 == 2) then
      (show Option (Bool) from
        bif x1 then
          (impl_in a0_3 1 999999).bind fun (x3 : Bool) =>
          bif x3 then
            bif (a0_4 == 0) then
              bif (a0_5 == 0) then
                some (a0_6 == 0)
              else
                some false
            else
              some false
          else
            some false
        else
          some false).bind fun (x4 : Bool) =>
      some x4
    else
      bif (a0_0 == 3) then
        (show Option (Bool) from
          bif x1 then
            bif (a0_3 == 0) then
              (impl_in a0_4 1 999).bind fun (x5 : Bool) =>
              bif x5 then
                (impl_in a0_5 1 50).bind fun (x6 : Bool) =>
                bif x6 then
                  (impl_in a0_6 1 1000).bind fun (x7 : Bool) =>
                  some x7
                else
                  some false
              else
                some false
            else
              some false
          else
            some false).bind fun (x8 : Bool) =>
        some x8
      else
        bif (a0_0 == 4) then
          (show Option (Bool) from
            bif x1 then
              bif (a0_3 == 0) then
                bif (a0_4 == 0) then
                  bif (a0_5 == 0) then
                    (impl_in a0_6 1 50).bind fun (x9 : Bool) =>
                    some x9
                  else
                    some false
                else
                  some false
              else
                some false
            else
              some false).bind fun (x10 : Bool) =>
          some x10
        else
          some false

def impl_ActText_L1 (a0_2 : List SII) (x3 : (List UInt8) × Int) : Option (((List UInt8) × Int) ⊕ ((List UInt8) × Int)) :=
  bif (decide (x3.2 < ((List.length a0_2 : Int)))) then
    ((getI a0_2 x3.2)).bind fun (x4 : SII) =>
    (itoaN x4.1).bind fun (x5 : (List UInt8)) =>
    bif (decide (List.length ([32] : List UInt8) + List.length x5 ≤ 4611686018427387904)) then
      bif (decide (List.length (([32] : List UInt8) ++ x5) + List.length ([58] : List UInt8) ≤ 4611686018427387904)) then
        (itoaN x4.2).bind fun (x6 : (List UInt8)) =>
        bif (decide (List.length ((([32] : List UInt8) ++ x5) ++ ([58] : List UInt8)) + List.length x6 ≤ 4611686018427387904)) then
          bif (decide (List.length x3.1 + List.length (((([32] : List UInt8) ++ x5) ++ ([58] : List UInt8)) ++ x6) ≤ 4611686018427387904)) then
            some (.inl ((x3.1 ++ (((([32] : List UInt8) ++ x5) ++ ([58] : List UInt8)) ++ x6)), (w64 (x3.2 + 1))))
          else
            none
        else
          none
      else
        none
    else
      none
  else
    some (.inr (x3.1, x3.2))

def impl_ActText (n : Nat) (a0_0 : Int) (a0_1 : Int) (a0_2 : List SII) (a0_3 : Int) (a0_4 : Int) (a0_5 : Int) (a0_6 : Int) : Option ((List UInt8)) :=
  (impl_ActOk n a0_0 a0_1 a0_2 a0_3 a0_4 a0_5 a0_6).bind fun (x1 : Bool) =>
  bif (!x1) then
    some ([] : List UInt8)
  else
    bif (a0_0 == 1) then
      (itoaN a0_1).bind fun (x2 : (List UInt8)) =>
      bif (decide (List.length ([111, 114, 100, 101, 114, 32] : List UInt8) + List.length x2 ≤ 4611686018427387904)) then
        (iter n (impl_ActText_L1 a0_2) ((([111, 114, 100, 101, 114, 32] : List UInt8) ++ x2), 0)).bind fun (x7 : (List UInt8) × Int) =>
        some x7.1
      else
        none
    else
      bif (a0_0 == 2) then
        (itoaN a0_3).bind fun (x8 : (List UInt8)) =>
        bif (decide (List.length ([98, 97, 99, 107, 32] : List UInt8) + List.length x8 ≤ 4611686018427387904)) then
          some (([98, 97, 99, 107, 32] : List UInt8) ++ x8)
        else
          none
      else
        bif (a0_0 == 3) then
          (itoaN a0_4).bind fun (x9 : (List UInt8)) =>
          bif (decide (List.length ([112, 117, 116, 32] : List UInt8) + List.length x9 ≤ 4611686018427387904)) then
            bif (decide (List.length (([112, 117, 116, 32] : List UInt8) ++ x9) + List.length ([32] : List UInt8) ≤ 4611686018427387904)) then
              (itoaN a0_5).bind fun (x10 : (List UInt8)) =>
              bif (decide (List.length ((([112, 117, 116, 32] : List UInt8) ++ x9) ++ ([32] : List UInt8)) + List.length x10 ≤ 4611686018427387904)) then
                bif (decide (List.length (((([112, 117, 116, 32] : List UInt8) ++ x9) ++ ([32] : List UInt8)) ++ x10) + List.length ([32] : List UInt8) ≤ 4611686018427387904)) then
                  (itoaN a0_6).bind fun (x11 : (List UInt8)) =>
                  bif (decide (List.length ((((([112, 117, 116, 32] : List UInt8) ++ x9) ++ ([32] : List UInt8)) ++ x10) ++ ([32] : List UInt8)) + List.length x11 ≤ 4611686018427387904)) then
                    some (((((([112, 117, 116, 32] : List UInt8) ++ x9) ++ ([32] : List UInt8)) ++ x10) ++ ([32] : List UInt8)) ++ x11)
                  else
                    none
                else
                  none
              else
                none
            else
              none
          else
            none
        else
          (itoaN a0_6).bind fun (x12 : (List UInt8)) =>
          bif (decide (List.length ([116, 105, 99, 107, 32] : List UInt8) + List.length x12 ≤ 4611686018427387904)) then
            some (([116, 105, 99, 107, 32] : List UInt8) ++ x12)
          else
            none

def impl_CheckOf_L1 (a0 : List UInt8) (x1 : SII) : Option ((SII) ⊕ (SII)) :=
  bif (decide (x1.2 < ((List.length a0 : Int)))) then
    ((getI a0 x1.2)).bind fun (x2 : UInt8) =>
    some (.inl ((Int.tmod (w64 ((w64 (31 * x1.1)) + (w64 ((x2.toNat : Int))))) 9973), (w64 (x1.2 + 1))))
  else
    some (.inr (x1.1, x1.2))

def impl_CheckOf (n : Nat) (a0 : List UInt8) : Option (Int) :=
  (iter n (impl_CheckOf_L1 a0) (0, 0)).bind fun (x3 : SII) =>
  some x3.1

def impl_Record (n : Nat) (a0_0 : Int) (a0_1 : Int) (a0_2 : List SII) (a0_3 : Int) (a0_4 : Int) (a0_5 : Int) (a0_6 : Int) : Option ((List UInt8)) :=
  (impl_ActText n a0_0 a0_1 a0_2 a0_3 a0_4 a0_5 a0_6).bind fun (x1 : (List UInt8)) =>
  bif (x1 == ([] : List UInt8)) then
    some ([] : List UInt8)
  else
    (impl_CheckOf n x1).bind fun (x2 : Int) =>
    (itoaN x2).bind fun (x3 : (List UInt8)) =>
    bif (decide (List.length ([48, 48, 48] : List UInt8) + List.length x3 ≤ 4611686018427387904)) then
      bif (decide (List.length x1 + List.length ([42] : List UInt8) ≤ 4611686018427387904)) then
        bif (decide (0 ≤ (w64 (((List.length (([48, 48, 48] : List UInt8) ++ x3) : Int)) - 4))) && decide ((w64 (((List.length (([48, 48, 48] : List UInt8) ++ x3) : Int)) - 4)) ≤ ((List.length (([48, 48, 48] : List UInt8) ++ x3) : Int))) && decide (((List.length (([48, 48, 48] : List UInt8) ++ x3) : Int)) ≤ ((List.length (([48, 48, 48] : List UInt8) ++ x3) : Int)))) then
          bif (decide (List.length (x1 ++ ([42] : List UInt8)) + List.length (sub (([48, 48, 48] : List UInt8) ++ x3) (Int.toNat (w64 (((List.length (([48, 48, 48] : List UInt8) ++ x3) : Int)) - 4))) (Int.toNat ((List.length (([48, 48, 48] : List UInt8) ++ x3) : Int)))) ≤ 4611686018427387904)) then
            bif (decide (List.length ((x1 ++ ([42] : List UInt8)) ++ (sub (([48, 48, 48] : List UInt8) ++ x3) (Int.toNat (w64 (((List.length (([48, 48, 48] : List UInt8) ++ x3) : Int)) - 4))) (Int.toNat ((List.length (([48, 48, 48] : List UInt8) ++ x3) : Int))))) + List.length ([10] : List UInt8) ≤ 4611686018427387904)) then
              some (((x1 ++ ([42] : List UInt8)) ++ (sub (([48, 48, 48] : List UInt8) ++ x3) (Int.toNat (w64 (((List.length (([48, 48, 48] : List UInt8) ++ x3) : Int)) - 4))) (Int.toNat ((List.length (([48, 48, 48] : List UInt8) ++ x3) : Int))))) ++ ([10] : List UInt8))
            else
              none
          else
            none
        else
          none
      else
        none
    else
      none

def laws_eqItem (a0_0 : Int) (a0_1 : Int) (a1_0 : Int) (a1_1 : Int) : Option (Bool) :=
  bif (a0_0 != a1_0) then
    some false
  else
    bif (a0_1 != a1_1) then
      some false
    else
      some true

def laws_eqItemS_L1 (a0 : List SII) (a1 : List SII) (x1 : Int) : Option ((Int) ⊕ ((Int) ⊕ (Bool))) :=
  bif (decide (x1 < ((List.length a0 : Int)))) then
    ((getI a0 x1)).bind fun (x2 : SII) =>
    ((getI a1 x1)).bind fun (x3 : SII) =>
    (laws_eqItem x2.1 x2.2 x3.1 x3.2).bind fun (x4 : Bool) =>
    bif (!x4) then
      some (.inr (.inr false))
    else
      some (.inl (w64 (x1 + 1)))
  else
    some (.inr (.inl x1))

def laws_eqItemS (n : Nat) (a0 : List SII) (a1 : List SII) : Option (Bool) :=
  bif (((List.length a0 : Int)) != ((List.length a1 : Int))) then
    some false
  else
    (iter n (laws_eqItemS_L1 a0 a1) 0).bind fun (x5 : (Int) ⊕ (Bool)) =>
    (match x5 with
    | .inl x6 => (
      some true)
    | .inr x7 => (
      some x7))

def laws_eqAct (n : Nat) (a0_0 : Int) (a0_1 : Int) (a0_2 : List SII) (a0_3 : Int) (a0_4 : Int) (a0_5 : Int) (a0_6 : Int) (a1_0 : Int) (a1_1 : Int) (a1_2 : List SII) (a1_3 : Int) (a1_4 : Int) (a1_5 : Int) (a1_6 : Int) : Option (Bool) :=
  bif (a0_0 != a1_0) then
    some false
  else
    bif (a0_1 != a1_1) then
      some false
    else
      (laws_eqItemS n a0_2 a1_2).bind fun (x1 : Bool) =>
      bif (!x1) then
        some false
      else
        bif (a0_3 != a1_3) then
          some false
        else
          bif (a0_4 != a1_4) then
            some false
          else
            bif (a0_5 != a1_5) then
              some false
            else
              bif (a0_6 != a1_6) then
                some false
              else
                some true

def laws_FnExactRecord (n : Nat) (a0_0 : Int) (a0_1 : Int) (a0_2 : List SII) (a0_3 : Int) (a0_4 : Int) (a0_5 : Int) (a0_6 : Int) : Option (Bool) :=
  (laws_szAct a0_0 a0_1 a0_2 a0_3 a0_4 a0_5 a0_6 1048576).bind fun (x1 : Int) =>
  bif (decide (x1 < 0)) then
    some true
  else
    (laws_toAct n a0_0 a0_1 a0_2 a0_3 a0_4 a0_5 a0_6).bind fun (x2 : SIILIIJIIII) =>
    (spec_Record n x2.1 x2.2.1 x2.2.2.1 x2.2.2.2.1 x2.2.2.2.2.1 x2.2.2.2.2.2.1 x2.2.2.2.2.2.2).bind fun (x3 : (List UInt8)) =>
    (laws_toAct n a0_0 a0_1 a0_2 a0_3 a0_4 a0_5 a0_6).bind fun (x4 : SIILIIJIIII) =>
    (impl_Record n x4.1 x4.2.1 x4.2.2.1 x4.2.2.2.1 x4.2.2.2.2.1 x4.2.2.2.2.2.1 x4.2.2.2.2.2.2).bind fun (x5 : (List UInt8)) =>
    bif (!(x5 == x3)) then
      some false
    else
      (laws_toAct n a0_0 a0_1 a0_2 a0_3 a0_4 a0_5 a0_6).bind fun (x6 : SIILIIJIIII) =>
      (laws_eqAct n x4.1 x4.2.1 x4.2.2.1 x4.2.2.2.1 x4.2.2.2.2.1 x4.2.2.2.2.2.1 x4.2.2.2.2.2.2 x6.1 x6.2.1 x6.2.2.1 x6.2.2.2.1 x6.2.2.2.2.1 x6.2.2.2.2.2.1 x6.2.2.2.2.2.2).bind fun (x7 : Bool) =>
      bif (!x7) then
        some false
      else
        some true

end Go.Ev.N
