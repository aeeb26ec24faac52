/- The native forms of the functions, as gen.py prints them. Conditions: none. -/
import Derived.Test.YtcjameniijmodaaLib3
namespace Go.Ev.N
open Go Go.Ev
set_option linter.unusedVariables false

def w64 (n : Int) : Int := IntKind.wrap .i64 n

abbrev S0 := (List UInt8) × Int

abbrev S1 := Int × Int

abbrev S2 := Bool × Int × Int

abbrev S3 := Int × Int × Int

abbrev S4 := Int × Int × Bool × Int

abbrev S5 := Int × Int × Int × Int

abbrev S6 := Int × Int × (List S1) × (List S3) × Int

abbrev S7 := Int × Int × (List S1) × Int × Int × Int × Int

abbrev S8 := (List Int) × Int × Bool × Int × Int × Int × (List Int) × (List S2)

def laws_szTaskS (a0 : List S5) (a1 : Int) : Option (Int) :=
  bif (decide ((w64 (a1 - ((List.length a0 : Int)))) < 0)) then
    some (-1)
  else
    some (w64 (a1 - ((List.length a0 : Int))))

def laws_toTask (a0_0 : Int) (a0_1 : Int) (a0_2 : Int) (a0_3 : Int) : Option (S5) :=
  some (a0_0, a0_1, a0_2, a0_3)

def laws_toTaskS_L1 (a0 : List S5) (x1 : Int × (List S5)) : Option ((Int × (List S5)) ⊕ (Int × (List S5))) :=
  bif (decide (x1.1 < ((List.length a0 : Int)))) then
    ((getI a0 x1.1)).bind fun (x2 : S5) =>
    (laws_toTask x2.1 x2.2.1 x2.2.2.1 x2.2.2.2).bind fun (x3 : S5) =>
    bif (inb x1.2 x1.1) then
      some (.inl ((w64 (x1.1 + 1)), (upd x1.2 (Int.toNat x1.1) (x3.1, x3.2.1, x3.2.2.1, x3.2.2.2))))
    else
      none
  else
    some (.inr (x1.1, x1.2))

def laws_toTaskS (n : Nat) (a0 : List S5) : Option ((List S5)) :=
  bif (decide (0 ≤ ((List.length a0 : Int))) && decide (((List.length a0 : Int)) ≤ (maxRow : Int)) && decide (((List.length a0 : Int)) = ((List.length a0 : Int)))) then
    (iter n (laws_toTaskS_L1 a0) (0, (List.replicate (Int.toNat ((List.length a0 : Int))) ((0, 0, 0, 0) : S5)))).bind fun (x4 : Int × (List S5)) =>
    some x4.2
  else
    none

def spec_l1In (a0 : Int) (a1 : Int) (a2 : Int) : Option (Bool) :=
  (show Option (Bool) from
    bif (decide (a0 ≥ a1)) then
      some (decide (a0 ≤ a2))
    else
      some false).bind fun (x1 : Bool) =>
  some x1

def spec_TasksOk_L2 (a0 : List S5) (x1 : Int) (x2 : S5) (x8 : Int) : Option ((Int) ⊕ ((Int) ⊕ (Bool))) :=
  bif (decide (x8 < x1)) then
    ((getI a0 x8)).bind fun (x9 : S5) =>
    (show Option (Bool) from
      bif (x9.1 == x2.1) then
        bif (x9.2.1 == x2.2.1) then
          some true
        else
          bif (!(x2.2.2.2 == 1)) then
            bif (x9.2.2.1 == x2.2.2.1) then
              some true
            else
              bif (!(x2.2.2.2 == 1)) then
                bif (x9.2.2.2 != 1) then
                  some (x9.2.1 == x2.2.1)
                else
                  some false
              else
                some false
          else
            bif (!(x2.2.2.2 == 1)) then
              bif (x9.2.2.2 != 1) then
                some (x9.2.1 == x2.2.1)
              else
                some false
            else
              some false
      else
        bif (!(x2.2.2.2 == 1)) then
          bif (x9.2.2.1 == x2.2.2.1) then
            some true
          else
            bif (!(x2.2.2.2 == 1)) then
              bif (x9.2.2.2 != 1) then
                some (x9.2.1 == x2.2.1)
              else
                some false
            else
              some false
        else
          bif (!(x2.2.2.2 == 1)) then
            bif (x9.2.2.2 != 1) then
              some (x9.2.1 == x2.2.1)
            else
              some false
          else
            some false).bind fun (x10 : Bool) =>
    bif x10 then
      some (.inr (.inr false))
    else
      some (.inl (w64 (x8 + 1)))
  else
    some (.inr (.inl x8))

def spec_TasksOk_L1 (n : Nat) (a0 : List S5) (x1 : Int) : Option ((Int) ⊕ ((Int) ⊕ (Bool))) :=
  bif (decide (x1 < ((List.length a0 : Int)))) then
    ((getI a0 x1)).bind fun (x2 : S5) =>
    (show Option (Bool) from
      (spec_l1In x2.1 1 1000000).bind fun (x3 : Bool) =>
      bif (!x3) then
        some true
      else
        (spec_l1In x2.2.1 1 999).bind fun (x4 : Bool) =>
        bif (!x4) then
          some true
        else
          (spec_l1In x2.2.2.2 1 4).bind fun (x5 : Bool) =>
          bif (!x5) then
            some true
          else
            (spec_l1In x2.2.2.1 0 99).bind fun (x6 : Bool) =>
            bif (!x6) then
              some true
            else
              some ((x2.2.2.1 == 0) != (x2.2.2.2 == 1))).bind fun (x7 : Bool) =>
    bif x7 then
      some (.inr (.inr false))
    else
      (iter n (spec_TasksOk_L2 a0 x1 x2) 0).bind fun (x11 : (Int) ⊕ (Bool)) =>
      (match x11 with
      | .inl x12 => (
        some (.inl (w64 (x1 + 1))))
      | .inr x13 => (
        some (.inr (.inr x13))))
  else
    some (.inr (.inl x1))

def spec_TasksOk (n : Nat) (a0 : List S5) : Option (Bool) :=
  bif (decide (((List.length a0 : Int)) > 60)) then
    some false
  else
    (iter n (spec_TasksOk_L1 n a0) 0).bind fun (x14 : (Int) ⊕ (Bool)) =>
    (match x14 with
    | .inl x15 => (
      some true)
    | .inr x16 => (
      some x16))

def impl_in (a0 : Int) (a1 : Int) (a2 : Int) : Option (Bool) :=
  (show Option (Bool) from
    bif (decide (a0 ≥ a1)) then
      some (decide (a0 ≤ a2))
    else
      some false).bind fun (x1 : Bool) =>
  some x1

def impl_TasksOk_L2 (a0 : List S5) (x1 : Int) (x2 : S5) (x8 : Int) : Option ((Int) ⊕ ((Int) ⊕ (Bool))) :=
  bif (decide (x8 < ((List.length (sub a0 (Int.toNat (0 : Int)) (Int.toNat x1)) : Int)))) then
    ((getI (sub a0 (Int.toNat (0 : Int)) (Int.toNat x1)) x8)).bind fun (x9 : S5) =>
    (show Option (Bool) from
      bif (x2.1 == x9.1) then
        bif (x2.2.1 == x9.2.1) then
          some true
        else
          bif (!(x2.2.2.2 == 1)) then
            bif (x2.2.2.1 == x9.2.2.1) then
              some true
            else
              bif (x2.2.1 == x9.2.1) then
                some (x9.2.2.2 != 1)
              else
                some false
          else
            some false
      else
        bif (!(x2.2.2.2 == 1)) then
          bif (x2.2.2.1 == x9.2.2.1) then
            some true
          else
            bif (x2.2.1 == x9.2.1) then
              some (x9.2.2.2 != 1)
            else
              some false
        else
          some false).bind fun (x10 : Bool) =>
    bif x10 then
      some (.inr (.inr false))
    else
      some (.inl (w64 (x8 + 1)))
  else
    some (.inr (.inl x8))

def impl_TasksOk_L1 (n : Nat) (a0 : List S5) (x1 : Int) : Option ((Int) ⊕ ((Int) ⊕ (Bool))) :=
  bif (decide (x1 < ((List.length a0 : Int)))) then
    ((getI a0 x1)).bind fun (x2 : S5) =>
    (show Option (Bool) from
      (impl_in x2.1 1 1000000).bind fun (x3 : Bool) =>
      bif (!x3) then
        some true
      else
        (impl_in x2.2.1 1 999).bind fun (x4 : Bool) =>
        bif (!x4) then
          some true
        else
          (impl_in x2.2.2.2 1 4).bind fun (x5 : Bool) =>
          bif (!x5) then
            some true
          else
            bif ((x2.2.2.2 == 1) != (x2.2.2.1 == 0)) then
              some true
            else
              (impl_in x2.2.2.1 0 99).bind fun (x6 : Bool) =>
              some (!x6)).bind fun (x7 : Bool) =>
    bif x7 then
      some (.inr (.inr false))
    else
      bif (decide (0 ≤ (0 : Int)) && decide ((0 : Int) ≤ x1) && decide (x1 ≤ ((List.length a0 : Int)))) then
        (iter n (impl_TasksOk_L2 a0 x1 x2) 0).bind fun (x11 : (Int) ⊕ (Bool)) =>
        (match x11 with
        | .inl x12 => (
          some (.inl (w64 (x1 + 1))))
        | .inr x13 => (
          some (.inr (.inr x13))))
      else
        none
  else
    some (.inr (.inl x1))

def impl_TasksOk (n : Nat) (a0 : List S5) : Option (Bool) :=
  (iter n (impl_TasksOk_L1 n a0) 0).bind fun (x14 : (Int) ⊕ (Bool)) =>
  (match x14 with
  | .inl x15 => (
    some (decide (((List.length a0 : Int)) ≤ 60)))
  | .inr x16 => (
    some x16))

def laws_eqTask (a0_0 : Int) (a0_1 : Int) (a0_2 : Int) (a0_3 : Int) (a1_0 : Int) (a1_1 : Int) (a1_2 : Int) (a1_3 : Int) : Option (Bool) :=
  bif (a0_0 != a1_0) then
    some false
  else
    bif (a0_1 != a1_1) then
      some false
    else
      bif (a0_2 != a1_2) then
        some false
      else
        bif (a0_3 != a1_3) then
          some false
        else
          some true

def laws_eqTaskS_L1 (a0 : List S5) (a1 : List S5) (x1 : Int) : Option ((Int) ⊕ ((Int) ⊕ (Bool))) :=
  bif (decide (x1 < ((List.length a0 : Int)))) then
    ((getI a0 x1)).bind fun (x2 : S5) =>
    ((getI a1 x1)).bind fun (x3 : S5) =>
    (laws_eqTask x2.1 x2.2.1 x2.2.2.1 x2.2.2.2 x3.1 x3.2.1 x3.2.2.1 x3.2.2.2).bind fun (x4 : Bool) =>
    bif (!x4) then
      some (.inr (.inr false))
    else
      some (.inl (w64 (x1 + 1)))
  else
    some (.inr (.inl x1))

def laws_eqTaskS (n : Nat) (a0 : List S5) (a1 : List S5) : Option (Bool) :=
  bif (((List.length a0 : Int)) != ((List.length a1 : Int))) then
    some false
  else
    (iter n (laws_eqTaskS_L1 a0 a1) 0).bind fun (x5 : (Int) ⊕ (Bool)) =>
    (match x5 with
    | .inl x6 => (
      some true)
    | .inr x7 => (
      some x7))

def laws_FnExactTasksOk (n : Nat) (a0 : List S5) : Option (Bool) :=
  (laws_szTaskS a0 1048576).bind fun (x1 : Int) =>
  bif (decide (x1 < 0)) then
    some true
  else
    (laws_toTaskS n a0).bind fun (x2 : (List S5)) =>
    (spec_TasksOk n x2).bind fun (x3 : Bool) =>
    (laws_toTaskS n a0).bind fun (x4 : (List S5)) =>
    (impl_TasksOk n x4).bind fun (x5 : Bool) =>
    bif (x5 != x3) then
      some false
    else
      (laws_toTaskS n a0).bind fun (x6 : (List S5)) =>
      (laws_eqTaskS n x4 x6).bind fun (x7 : Bool) =>
      bif (!x7) then
        some false
      else
        some true

end Go.Ev.N
