/- The native forms of the functions,as gen.py prints them. Conditions: none. -/
import Derived.Test.YtglbgceejloiaaaLib4
namespace Go.Ev.N
open Go Go.Ev
set_option linter.unusedVariables false
def Pe (n:Int):Int:=IntKind.wrap .i64 n
abbrev ky:=(List UInt8)×Int
abbrev PH:=Int×Int
abbrev PB:=Int×Int×Int
abbrev kC:=Int×Int×Bool×Int
abbrev VU:=Int×Int×Int×Int
abbrev Zf:=Int×Int×Int×Bool×Int
abbrev iU:=Int×Int×(List Int)
abbrev O9:=Int×Int×(List PB)
abbrev XA:=(List Int)×Int×Int
abbrev PA:=Int×Int×(List PH)×(List PB)×Int
abbrev Pg:=Int×(List PA)
abbrev SJ:=Int×Int×(List Int)×(List O9)×Int×(List PA)×(List Zf)×(List VU)×(List Int)×(List Int)×Int
def Tk (a0:List Int):Option (Bool) :=
 some (decide (((List.length a0:Int))>1048576))
def R1 (a0:List Int) (x1:PH):Option ((PH)⊕(PH)) :=
 (show Option (Bool) from
  bif (decide (x1.2<((List.length a0:Int)))) then
   some (decide (x1.2<4000))
  else
   some false).bind fun (x2:Bool) =>
 bif x2 then
  ((ND a0 x1.2)).bind fun (x3:Int) =>
  some (.inl ((OO .i64 (Pe ((Pe ((Pe (x1.1 * 137))+(Pe x3)))+11)) 1073741823),(Pe (x1.2+1))))
 else
  some (.inr (x1.1,x1.2))
def SP (n:Nat) (a0:List Int):Option (XA) :=
 (iter n (R1 a0) ((Pe (275275+((List.length a0:Int)))),0)).bind fun (x4:PH) =>
 some (a0,0,x4.1)
def R6 (a0:List Int) (a1:Int):Option (Int) :=
 bif (decide ((Pe (3+(Pe (Int.tdiv ((List.length a0:Int)) 12))))>a1)) then
  some a1
 else
  some (Pe (3+(Pe (Int.tdiv ((List.length a0:Int)) 12))))
def QS (a0_0:List Int) (a0_1:Int) (a0_2:Int):Option (Int×(List Int)×Int×Int) :=
 bif (decide (0≤33)) then
  bif (decide (0≤47)) then
   (show Option (Int×(List Int)×Int×Int) from
    bif (decide (a0_1<((List.length a0_0:Int)))) then
     ((ND a0_0 a0_1)).bind fun (x2:Int) =>
     some ((OO .i64 (Pe ((OO .i64 (Oa .i64 (OD .i64 (Pe ((Pe (a0_2 * 6364136223846793005))+1442695040888963407)) 33) (OD .i64 (Pe ((Pe (a0_2 * 6364136223846793005))+1442695040888963407)) 47)) 255)+(Pe x2))) 255),a0_0,(Pe (a0_1+1)),(Pe ((Pe (a0_2 * 6364136223846793005))+1442695040888963407)))
    else
     some ((OO .i64 (Oa .i64 (OD .i64 (Pe ((Pe (a0_2 * 6364136223846793005))+1442695040888963407)) 33) (OD .i64 (Pe ((Pe (a0_2 * 6364136223846793005))+1442695040888963407)) 47)) 255),a0_0,a0_1,(Pe ((Pe (a0_2 * 6364136223846793005))+1442695040888963407)))).bind fun (x1:Int×(List Int)×Int×Int) =>
   some (x1.1,x1.2.1,x1.2.2.1,x1.2.2.2)
  else
   none
 else
  none
def PQ (a0_0:List Int) (a0_1:Int) (a0_2:Int) (a1:Int):Option (Int×(List Int)×Int×Int) :=
 bif (decide (a1≤0)) then
  some (0,a0_0,a0_1,a0_2)
 else
  bif (decide (a1≤256)) then
   (QS a0_0 a0_1 a0_2).bind fun (x1:Int×(List Int)×Int×Int) =>
   bif (a1==0) then
    none
   else
    some ((Int.tmod x1.1 a1),x1.2.1,x1.2.2.1,x1.2.2.2)
  else
   (QS a0_0 a0_1 a0_2).bind fun (x2:Int×(List Int)×Int×Int) =>
   (QS x2.2.1 x2.2.2.1 x2.2.2.2).bind fun (x3:Int×(List Int)×Int×Int) =>
   (QS x3.2.1 x3.2.2.1 x3.2.2.2).bind fun (x4:Int×(List Int)×Int×Int) =>
   bif (a1==0) then
    none
   else
    some ((Int.tmod (Pe ((Pe ((Pe (x2.1 * 65536))+(Pe (x3.1 * 256))))+x4.1)) a1),x4.2.1,x4.2.2.1,x4.2.2.2)
def RZ (a0_0:List Int) (a0_1:Int) (a0_2:Int) (a1:Int):Option (Bool×(List Int)×Int×Int) :=
 (PQ a0_0 a0_1 a0_2 a1).bind fun (x1:Int×(List Int)×Int×Int) =>
 some ((x1.1==0),x1.2.1,x1.2.2.1,x1.2.2.2)
def Ph (a0_0:List Int) (a0_1:Int) (a0_2:Int) (a1:List Int):Option (Int×(List Int)×Int×Int) :=
 (PQ a0_0 a0_1 a0_2 ((List.length a1:Int))).bind fun (x1:Int×(List Int)×Int×Int) =>
 ((ND a1 x1.1)).bind fun (x2:Int) =>
 some (x2,x1.2.1,x1.2.2.1,x1.2.2.2)
def QR (x4:Int×(List Int)×Int×Int×Int×Int×(List PB)):Option ((Int×(List Int)×Int×Int×Int×Int×(List PB))⊕(Int×(List Int)×Int×Int×Int×Int×(List PB))) :=
 bif (decide (x4.1<6)) then
  (show Option ((List Int)×Int×Int×Int×Int×(List PB)) from
   (Ph x4.2.1 x4.2.2.1 x4.2.2.2.1 ([0,0,1,3,5,12])).bind fun (x6:Int×(List Int)×Int×Int) =>
   bif (decide (x6.1>0)) then
    (PQ x6.2.1 x6.2.2.1 x6.2.2.2 (Pe (x6.1+1))).bind fun (x7:Int×(List Int)×Int×Int) =>
    (Ph x7.2.1 x7.2.2.1 x7.2.2.2 ([0,0,0,x7.1])).bind fun (x8:Int×(List Int)×Int×Int) =>
    bif (decide (List.length x4.2.2.2.2.2.2+List.length [(x4.1,x6.1,x8.1)]≤DZ)) then
     some (x8.2.1,x8.2.2.1,x8.2.2.2,x4.2.2.2.2.1,x4.2.2.2.2.2.1,(x4.2.2.2.2.2.2++[(x4.1,x6.1,x8.1)]))
    else
     none
   else
    some (x6.2.1,x6.2.2.1,x6.2.2.2,x4.2.2.2.2.1,x4.2.2.2.2.2.1,x4.2.2.2.2.2.2)).bind fun (x5:(List Int)×Int×Int×Int×Int×(List PB)) =>
  some (.inl ((Pe (x4.1+1)),x5.1,x5.2.1,x5.2.2.1,x5.2.2.2.1,x5.2.2.2.2.1,x5.2.2.2.2.2))
 else
  some (.inr (x4.1,x4.2.1,x4.2.2.1,x4.2.2.2.1,x4.2.2.2.2.1,x4.2.2.2.2.2.1,x4.2.2.2.2.2.2))
def Qu (n:Nat) (x1:Int×(List Int)×Int×Int×(List O9)):Option ((Int×(List Int)×Int×Int×(List O9))⊕(Int×(List Int)×Int×Int×(List O9))) :=
 bif (decide (x1.1<6)) then
  (show Option ((List Int)×Int×Int×(List O9)) from
   (RZ x1.2.1 x1.2.2.1 x1.2.2.2.1 4).bind fun (x3:Bool×(List Int)×Int×Int) =>
   bif x3.1 then
    some (x3.2.1,x3.2.2.1,x3.2.2.2,x1.2.2.2.2)
   else
    (iter n (QR) (1,x3.2.1,x3.2.2.1,x3.2.2.2,(Pe (x1.1 * 10)),(Pe (20 - x1.1)),([]:List PB))).bind fun (x9:Int×(List Int)×Int×Int×Int×Int×(List PB)) =>
    bif (decide (List.length x1.2.2.2.2+List.length [(x9.2.2.2.2.1,x9.2.2.2.2.2.1,x9.2.2.2.2.2.2)]≤DZ)) then
     some (x9.2.1,x9.2.2.1,x9.2.2.2.1,(x1.2.2.2.2++[(x9.2.2.2.2.1,x9.2.2.2.2.2.1,x9.2.2.2.2.2.2)]))
    else
     none).bind fun (x2:(List Int)×Int×Int×(List O9)) =>
  some (.inl ((Pe (x1.1+1)),x2.1,x2.2.1,x2.2.2.1,x2.2.2.2))
 else
  some (.inr (x1.1,x1.2.1,x1.2.2.1,x1.2.2.2.1,x1.2.2.2.2))
def R8 (n:Nat) (a0_0:List Int) (a0_1:Int) (a0_2:Int):Option ((List O9)×(List Int)×Int×Int) :=
 (iter n (Qu n) (1,a0_0,a0_1,a0_2,([]:List O9))).bind fun (x10:Int×(List Int)×Int×Int×(List O9)) =>
 some (x10.2.2.2.2,x10.2.1,x10.2.2.1,x10.2.2.2.1)
def QJ (a0_0:Int) (a0_1:Int) (a0_2:List PH) (a0_3:List PB) (a0_4:Int):Option (PA) :=
 bif (decide (List.length ([]:List PH)+List.length a0_2≤DZ)) then
  bif (decide (List.length ([]:List PB)+List.length a0_3≤DZ)) then
   some (a0_0,a0_1,(([]:List PH)++a0_2),(([]:List PB)++a0_3),a0_4)
  else
   none
 else
  none
def RO (a0_1:List PA) (x1:Int×Int×(List PA)):Option ((Int×Int×(List PA))⊕(Int×Int×(List PA))) :=
 bif (decide (x1.1<((List.length a0_1:Int)))) then
  ((ND a0_1 x1.1)).bind fun (x2:PA) =>
  (QJ x2.1 x2.2.1 x2.2.2.1 x2.2.2.2.1 x2.2.2.2.2).bind fun (x3:PA) =>
  bif (decide (List.length x1.2.2+List.length [(x3.1,x3.2.1,x3.2.2.1,x3.2.2.2.1,x3.2.2.2.2)]≤DZ)) then
   some (.inl ((Pe (x1.1+1)),x1.2.1,(x1.2.2++[(x3.1,x3.2.1,x3.2.2.1,x3.2.2.2.1,x3.2.2.2.2)])))
  else
   none
 else
  some (.inr (x1.1,x1.2.1,x1.2.2))
def QX (n:Nat) (a0_0:Int) (a0_1:List PA):Option (Pg) :=
 (iter n (RO a0_1) (0,a0_0,([]:List PA))).bind fun (x4:Int×Int×(List PA)) =>
 some (x4.2.1,x4.2.2)
def RR (a0_1:List PA) (a1:Int) (x1:Int):Option ((Int)⊕((Int)⊕(Int))) :=
 bif (decide (x1<((List.length a0_1:Int)))) then
  ((ND a0_1 x1)).bind fun (x2:PA) =>
  bif (x2.1==a1) then
   some (.inr (.inr x1))
  else
   some (.inl (Pe (x1+1)))
 else
  some (.inr (.inl x1))
def QY (n:Nat) (a0_0:Int) (a0_1:List PA) (a1:Int):Option (Int) :=
 (iter n (RR a0_1 a1) 0).bind fun (x3:(Int)⊕(Int)) =>
 (match x3 with
 | .inl x4=>(
  some (-1))
 | .inr x5=>(
  some x5))
def Pd (a0:Int) (a1:Int) (a2:Int):Option (Bool) :=
 (show Option (Bool) from
  bif (decide (a0≥a1)) then
   some (decide (a0≤a2))
  else
   some false).bind fun (x1:Bool) =>
 some x1
def Q4 (a0:List PB) (x1:Int):Option ((Int)⊕((Int)⊕(Bool))) :=
 bif (decide (x1<((List.length a0:Int)))) then
  (show Option (Bool) from
   ((ND a0 x1)).bind fun (x2:PB) =>
   (Pd x2.1 1 50).bind fun (x3:Bool) =>
   bif (!x3) then
    some true
   else
    ((ND a0 x1)).bind fun (x4:PB) =>
    (Pd x4.2.1 1 1000).bind fun (x5:Bool) =>
    bif (!x5) then
     some true
    else
     ((ND a0 x1)).bind fun (x6:PB) =>
     ((ND a0 x1)).bind fun (x7:PB) =>
     (Pd x6.2.2 0 x7.2.1).bind fun (x8:Bool) =>
     bif (!x8) then
      some true
     else
      bif (decide (x1>0)) then
       ((ND a0 (Pe (x1 - 1)))).bind fun (x9:PB) =>
       ((ND a0 x1)).bind fun (x10:PB) =>
       some (decide (x9.1≥x10.1))
      else
       some false).bind fun (x11:Bool) =>
  bif x11 then
   some (.inr (.inr false))
  else
   some (.inl (Pe (x1+1)))
 else
  some (.inr (.inl x1))
def RF (n:Nat) (a0:List PB):Option (Bool) :=
 (iter n (Q4 a0) 0).bind fun (x12:(Int)⊕(Bool)) =>
 (match x12 with
 | .inl x13=>(
  some (decide (((List.length a0:Int))≤8)))
 | .inr x14=>(
  some x14))
def QD (a0:List O9) (x1:Int) (x2:O9) (x8:Int):Option ((Int)⊕((Int)⊕(Bool))) :=
 bif (decide (x8<x1)) then
  ((ND a0 x8)).bind fun (x9:O9) =>
  bif (x9.2.1==x2.2.1) then
   some (.inr (.inr false))
  else
   some (.inl (Pe (x8+1)))
 else
  some (.inr (.inl x8))
def RN (n:Nat) (a0:List O9) (x1:Int):Option ((Int)⊕((Int)⊕(Bool))) :=
 bif (decide (x1<((List.length a0:Int)))) then
  ((ND a0 x1)).bind fun (x2:O9) =>
  (show Option (Bool) from
   (Pd x2.1 1 999).bind fun (x3:Bool) =>
   bif (!x3) then
    some true
   else
    (Pd x2.2.1 0 99).bind fun (x4:Bool) =>
    bif (!x4) then
     some true
    else
     (RF n x2.2.2).bind fun (x5:Bool) =>
     bif (!x5) then
      some true
     else
      bif (decide (x1>0)) then
       ((ND a0 (Pe (x1 - 1)))).bind fun (x6:O9) =>
       some (decide (x6.1≥x2.1))
      else
       some false).bind fun (x7:Bool) =>
  bif x7 then
   some (.inr (.inr false))
  else
   (iter n (QD a0 x1 x2) 0).bind fun (x10:(Int)⊕(Bool)) =>
   (match x10 with
   | .inl x11=>(
    some (.inl (Pe (x1+1))))
   | .inr x12=>(
    some (.inr (.inr x12))))
 else
  some (.inr (.inl x1))
def QI (n:Nat) (a0:List O9):Option (Bool) :=
 bif (decide (((List.length a0:Int))>12)) then
  some false
 else
  (iter n (RN n a0) 0).bind fun (x13:(Int)⊕(Bool)) =>
  (match x13 with
  | .inl x14=>(
   some true)
  | .inr x15=>(
   some x15))
def PX (a0:List PH) (x1:Int):Option ((Int)⊕((Int)⊕(Bool))) :=
 bif (decide (x1<((List.length a0:Int)))) then
  (show Option (Bool) from
   ((ND a0 x1)).bind fun (x2:PH) =>
   (Pd x2.1 1 50).bind fun (x3:Bool) =>
   bif (!x3) then
    some true
   else
    ((ND a0 x1)).bind fun (x4:PH) =>
    (Pd x4.2 1 1000).bind fun (x5:Bool) =>
    bif (!x5) then
     some true
    else
     bif (decide (x1>0)) then
      ((ND a0 (Pe (x1 - 1)))).bind fun (x6:PH) =>
      ((ND a0 x1)).bind fun (x7:PH) =>
      some (decide (x6.1≥x7.1))
     else
      some false).bind fun (x8:Bool) =>
  bif x8 then
   some (.inr (.inr false))
  else
   some (.inl (Pe (x1+1)))
 else
  some (.inr (.inl x1))
def Pk (n:Nat) (a0:List PH):Option (Bool) :=
 (iter n (PX a0) 0).bind fun (x9:(Int)⊕(Bool)) =>
 (match x9 with
 | .inl x10=>(
  some (decide (((List.length a0:Int))≤6)))
 | .inr x11=>(
  some x11))
def QA (a0:List PB) (a1:Int) (x1:PH):Option ((PH)⊕(PH)) :=
 bif (decide (x1.2<((List.length a0:Int)))) then
  (show Option (Int) from
   ((ND a0 x1.2)).bind fun (x3:PB) =>
   bif (x3.2.1==a1) then
    ((ND a0 x1.2)).bind fun (x4:PB) =>
    some (Pe (x1.1+x4.2.2))
   else
    some x1.1).bind fun (x2:Int) =>
  some (.inl (x2,(Pe (x1.2+1))))
 else
  some (.inr (x1.1,x1.2))
def Qt (n:Nat) (a0:List PB) (a1:Int):Option (Int) :=
 (iter n (QA a0 a1) (0,0)).bind fun (x5:PH) =>
 some x5.1
def Pn (a0_2:List PH) (x5:PH):Option ((PH)⊕(PH)) :=
 bif (decide (x5.2<((List.length a0_2:Int)))) then
  ((ND a0_2 x5.2)).bind fun (x6:PH) =>
  some (.inl ((Pe (x5.1+x6.2)),(Pe (x5.2+1))))
 else
  some (.inr (x5.1,x5.2))
def Po (a0_3:List PB) (x8:PH):Option ((PH)⊕((PH)⊕(Bool))) :=
 bif (decide (x8.2<((List.length a0_3:Int)))) then
  ((ND a0_3 x8.2)).bind fun (x9:PB) =>
  (show Option (Bool) from
   (Pd x9.2.2 1 1000).bind fun (x10:Bool) =>
   bif (!x10) then
    some true
   else
    (Pd x9.1 1 999).bind fun (x11:Bool) =>
    some (!x11)).bind fun (x12:Bool) =>
  bif x12 then
   some (.inr (.inr false))
  else
   some (.inl ((Pe (x8.1 - x9.2.2)),(Pe (x8.2+1))))
 else
  some (.inr (.inl (x8.1,x8.2)))
def Ps (n:Nat) (a0_2:List PH) (a0_3:List PB) (x16:Int):Option ((Int)⊕((Int)⊕(Bool))) :=
 bif (decide (x16<((List.length a0_2:Int)))) then
  ((ND a0_2 x16)).bind fun (x17:PH) =>
  (Qt n a0_3 x17.1).bind fun (x18:Int) =>
  ((ND a0_2 x16)).bind fun (x19:PH) =>
  bif (x18 != x19.2) then
   some (.inr (.inr false))
  else
   some (.inl (Pe (x16+1)))
 else
  some (.inr (.inl x16))
def QN (n:Nat) (a0_0:Int) (a0_1:Int) (a0_2:List PH) (a0_3:List PB) (a0_4:Int):Option (Bool) :=
 (show Option (Bool) from
  (Pd a0_1 0 99).bind fun (x1:Bool) =>
  bif (!x1) then
   some true
  else
   (Pk n a0_2).bind fun (x2:Bool) =>
   bif (!x2) then
    some true
   else
    bif (((List.length a0_2:Int))==0) then
     some true
    else
     (Pd a0_4 1 3).bind fun (x3:Bool) =>
     bif (!x3) then
      some true
     else
      some (decide (((List.length a0_3:Int))>72))).bind fun (x4:Bool) =>
 bif x4 then
  some false
 else
  (iter n (Pn a0_2) (0,0)).bind fun (x7:PH) =>
  (iter n (Po a0_3) (x7.1,0)).bind fun (x13:(PH)⊕(Bool)) =>
  (match x13 with
  | .inl x14=>(
   (iter n (Ps n a0_2 a0_3) 0).bind fun (x20:(Int)⊕(Bool)) =>
   (match x20 with
   | .inl x21=>(
    some (x14.1==0))
   | .inr x22=>(
    some x22)))
  | .inr x15=>(
   some x15))
def P8 (n:Nat) (a0_0:Int) (a0_1:List PA) (x3:Int):Option ((Int)⊕((Int)⊕(Bool))) :=
 bif (decide (x3<((List.length a0_1:Int)))) then
  (show Option (Bool) from
   ((ND a0_1 x3)).bind fun (x4:PA) =>
   (QN n x4.1 x4.2.1 x4.2.2.1 x4.2.2.2.1 x4.2.2.2.2).bind fun (x5:Bool) =>
   bif (!x5) then
    some true
   else
    ((ND a0_1 x3)).bind fun (x6:PA) =>
    (Pd x6.1 1 (Pe (a0_0 - 1))).bind fun (x7:Bool) =>
    bif (!x7) then
     some true
    else
     bif (decide (x3>0)) then
      ((ND a0_1 (Pe (x3 - 1)))).bind fun (x8:PA) =>
      ((ND a0_1 x3)).bind fun (x9:PA) =>
      some (decide (x8.1≥x9.1))
     else
      some false).bind fun (x10:Bool) =>
  bif x10 then
   some (.inr (.inr false))
  else
   some (.inl (Pe (x3+1)))
 else
  some (.inr (.inl x3))
def Py (n:Nat) (a0_0:Int) (a0_1:List PA):Option (Bool) :=
 (show Option (Bool) from
  (Pd a0_0 1 1000000).bind fun (x1:Bool) =>
  bif (!x1) then
   some true
  else
   some (decide (((List.length a0_1:Int))>30))).bind fun (x2:Bool) =>
 bif x2 then
  some false
 else
  (iter n (P8 n a0_0 a0_1) 0).bind fun (x11:(Int)⊕(Bool)) =>
  (match x11 with
  | .inl x12=>(
   some true)
  | .inr x13=>(
   some x13))
def Rp (a0:List O9) (x1:Int×(List O9)):Option ((Int×(List O9))⊕(Int×(List O9))) :=
 bif (decide (x1.1<((List.length a0:Int)))) then
  ((ND a0 x1.1)).bind fun (x2:O9) =>
  bif (decide (List.length ([]:List PB)+List.length x2.2.2≤DZ)) then
   bif (decide (List.length x1.2+List.length [(x2.1,x2.2.1,(([]:List PB)++x2.2.2))]≤DZ)) then
    some (.inl ((Pe (x1.1+1)),(x1.2++[(x2.1,x2.2.1,(([]:List PB)++x2.2.2))])))
   else
    none
  else
   none
 else
  some (.inr (x1.1,x1.2))
def PW (n:Nat) (a0:List O9):Option ((List O9)) :=
 (iter n (Rp a0) (0,([]:List O9))).bind fun (x3:Int×(List O9)) =>
 some x3.2
def Pq (a0:List O9) (a1:Int) (x1:Int):Option ((Int)⊕((Int)⊕(Int))) :=
 bif (decide (x1<((List.length a0:Int)))) then
  ((ND a0 x1)).bind fun (x2:O9) =>
  bif (x2.1==a1) then
   some (.inr (.inr x1))
  else
   some (.inl (Pe (x1+1)))
 else
  some (.inr (.inl x1))
def P0 (n:Nat) (a0:List O9) (a1:Int):Option (Int) :=
 (iter n (Pq a0 a1) 0).bind fun (x3:(Int)⊕(Int)) =>
 (match x3 with
 | .inl x4=>(
  some (-1))
 | .inr x5=>(
  some x5))
def Qf (a0_2:List PB) (a1:Int) (x1:VU):Option ((VU)⊕((VU)⊕(PB))) :=
 bif (decide (x1.1<((List.length a0_2:Int)))) then
  ((ND a0_2 x1.1)).bind fun (x2:PB) =>
  bif (x2.1==a1) then
   ((ND a0_2 x1.1)).bind fun (x3:PB) =>
   some (.inr (.inr (x3.1,x3.2.1,x3.2.2)))
  else
   some (.inl ((Pe (x1.1+1)),x1.2.1,x1.2.2.1,x1.2.2.2))
 else
  some (.inr (.inl (x1.1,x1.2.1,x1.2.2.1,x1.2.2.2)))
def Q3 (n:Nat) (a0_0:Int) (a0_1:Int) (a0_2:List PB) (a1:Int):Option (PB) :=
 (iter n (Qf a0_2 a1) (0,0,0,0)).bind fun (x4:(VU)⊕(PB)) =>
 (match x4 with
 | .inl x5=>(
  some (a1,0,0))
 | .inr x6=>(
  some x6))
def P6 (n:Nat) (a0:List O9) (a1:Int) (a2:Int) (a3:Int):Option (Int×Int×Int×Int×Int) :=
 (show Option (Bool) from
  (QI n a0).bind fun (x1:Bool) =>
  bif (!x1) then
   some true
  else
   (Pd a2 1 50).bind fun (x2:Bool) =>
   bif (!x2) then
    some true
   else
    (Pd a3 1 1000).bind fun (x3:Bool) =>
    some (!x3)).bind fun (x4:Bool) =>
 bif x4 then
  some (0,0,0,0,1)
 else
  (P0 n a0 a1).bind fun (x5:Int) =>
  bif (decide (x5<0)) then
   some (0,0,0,0,2)
  else
   ((ND a0 x5)).bind fun (x6:O9) =>
   (Q3 n x6.1 x6.2.1 x6.2.2 a2).bind fun (x7:PB) =>
   some (x5,x7.1,x7.2.1,x7.2.2,0)
def Rq (a0:List PB) (a1_0:Int) (a1_1:Int) (a1_2:Int) (x1:(List PB)×Bool×Int):Option (((List PB)×Bool×Int)⊕((List PB)×Bool×Int)) :=
 bif (decide (x1.2.2<((List.length a0:Int)))) then
  (show Option ((List PB)×Bool) from
   (show Option ((List PB)×Bool) from
    (show Option (Bool) from
     bif (!x1.2.1) then
      ((ND a0 x1.2.2)).bind fun (x4:PB) =>
      some (decide (x4.1≥a1_0))
     else
      some false).bind fun (x5:Bool) =>
    bif x5 then
     bif (decide (List.length x1.1+List.length [(a1_0,a1_1,a1_2)]≤DZ)) then
      some ((x1.1++[(a1_0,a1_1,a1_2)]),true)
     else
      none
    else
     some (x1.1,x1.2.1)).bind fun (x3:(List PB)×Bool) =>
   ((ND a0 x1.2.2)).bind fun (x6:PB) =>
   bif (x6.1 != a1_0) then
    ((ND a0 x1.2.2)).bind fun (x7:PB) =>
    bif (decide (List.length x3.1+List.length [(x7.1,x7.2.1,x7.2.2)]≤DZ)) then
     some ((x3.1++[(x7.1,x7.2.1,x7.2.2)]),x3.2)
    else
     none
   else
    some (x3.1,x3.2)).bind fun (x2:(List PB)×Bool) =>
  some (.inl (x2.1,x2.2,(Pe (x1.2.2+1))))
 else
  some (.inr (x1.1,x1.2.1,x1.2.2))
def R9 (n:Nat) (a0:List PB) (a1_0:Int) (a1_1:Int) (a1_2:Int):Option ((List PB)) :=
 (iter n (Rq a0 a1_0 a1_1 a1_2) (([]:List PB),(a1_1==0),0)).bind fun (x8:(List PB)×Bool×Int) =>
 (show Option ((List PB)) from
  bif (!x8.2.1) then
   bif (decide (List.length x8.1+List.length [(a1_0,a1_1,a1_2)]≤DZ)) then
    some (x8.1++[(a1_0,a1_1,a1_2)])
   else
    none
  else
   some x8.1).bind fun (x9:(List PB)) =>
 some x9
def QZ (n:Nat) (a0:List O9) (a1:Int) (a2_0:Int) (a2_1:Int) (a2_2:Int):Option ((List O9)) :=
 (PW n a0).bind fun (x1:(List O9)) =>
 bif (Of x1 a1) then
  ((x1[(Int.toNat a1)]?)).bind fun (x2:O9) =>
  ((x1[(Int.toNat a1)]?)).bind fun (x3:O9) =>
  (R9 n x3.2.2 a2_0 a2_1 a2_2).bind fun (x4:(List PB)) =>
  bif (Of x1 a1) then
   some (List.modify x1 (Int.toNat a1) (fun (y:O9)=>(y.1,y.2.1,x4)))
  else
   none
 else
  none
def Rv (n:Nat) (a0:List O9) (a1:Int) (a2:Int) (a3:Int):Option ((List O9)×Int) :=
 (P6 n a0 a1 a2 a3).bind fun (x1:Int×Int×Int×Int×Int) =>
 bif (x1.2.2.2.2 != 0) then
  (PW n a0).bind fun (x2:(List O9)) =>
  some (x2,x1.2.2.2.2)
 else
  bif (decide ((Pe (x1.2.2.1 - x1.2.2.2.1))<a3)) then
   (PW n a0).bind fun (x3:(List O9)) =>
   some (x3,3)
  else
   (QZ n a0 x1.1 x1.2.1 x1.2.2.1 (Pe (x1.2.2.2.1+a3))).bind fun (x4:(List O9)) =>
   some (x4,0)
def Rn (n:Nat) (a0:List O9) (a1:Int) (a2:Int) (a3:Int):Option ((List O9)×Int) :=
 (P6 n a0 a1 a2 a3).bind fun (x1:Int×Int×Int×Int×Int) =>
 bif (x1.2.2.2.2 != 0) then
  (PW n a0).bind fun (x2:(List O9)) =>
  some (x2,x1.2.2.2.2)
 else
  bif (decide (x1.2.2.2.1<a3)) then
   (PW n a0).bind fun (x3:(List O9)) =>
   some (x3,3)
  else
   (QZ n a0 x1.1 x1.2.1 x1.2.2.1 (Pe (x1.2.2.2.1 - a3))).bind fun (x4:(List O9)) =>
   some (x4,0)
def Sw (n:Nat) (a0:List O9) (a1:Int) (a2:Int) (a3:Int):Option ((List O9)×Int) :=
 (P6 n a0 a1 a2 a3).bind fun (x1:Int×Int×Int×Int×Int) =>
 bif (x1.2.2.2.2 != 0) then
  (PW n a0).bind fun (x2:(List O9)) =>
  some (x2,x1.2.2.2.2)
 else
  bif (decide (x1.2.2.2.1<a3)) then
   (PW n a0).bind fun (x3:(List O9)) =>
   some (x3,3)
  else
   (QZ n a0 x1.1 x1.2.1 (Pe (x1.2.2.1 - a3)) (Pe (x1.2.2.2.1 - a3))).bind fun (x4:(List O9)) =>
   some (x4,0)
def QB (n:Nat) (a0:List O9) (a1:List PB) (a2:Int) (x2:Int×(List O9)×(List O9)):Option ((Int×(List O9)×(List O9))⊕((Int×(List O9)×(List O9))⊕((List O9)×Bool))) :=
 bif (decide (x2.1<((List.length a1:Int)))) then
  ((ND a1 x2.1)).bind fun (x3:PB) =>
  (show Option (Int×(List O9)) from
   bif (a2==1) then
    (Rv n x2.2.2 x3.1 x3.2.1 x3.2.2).bind fun (x5:(List O9)×Int) =>
    some (x5.2,x5.1)
   else
    bif (a2==2) then
     (Rn n x2.2.2 x3.1 x3.2.1 x3.2.2).bind fun (x6:(List O9)×Int) =>
     some (x6.2,x6.1)
    else
     (Sw n x2.2.2 x3.1 x3.2.1 x3.2.2).bind fun (x7:(List O9)×Int) =>
     some (x7.2,x7.1)).bind fun (x4:Int×(List O9)) =>
  bif (x4.1 != 0) then
   (PW n a0).bind fun (x8:(List O9)) =>
   some (.inr (.inr (x8,false)))
  else
   some (.inl ((Pe (x2.1+1)),x2.2.1,x4.2))
 else
  some (.inr (.inl (x2.1,x2.2.1,x2.2.2)))
def Qv (n:Nat) (a0:List O9) (a1:List PB) (a2:Int):Option ((List O9)×Bool) :=
 (PW n a0).bind fun (x1:(List O9)) =>
 (iter n (QB n a0 a1 a2) (0,([]:List O9),x1)).bind fun (x9:(Int×(List O9)×(List O9))⊕((List O9)×Bool)) =>
 (match x9 with
 | .inl x10=>(
  some (x10.2.2,true))
 | .inr x11=>(
  some x11))
def RM (n:Nat) (a0:List O9) (a1:List PB):Option ((List O9)×Bool) :=
 (Qv n a0 a1 2).bind fun (x1:(List O9)×Bool) =>
 some (x1.1,x1.2)
def RE (n:Nat) (a0:List O9) (a1_0:Int) (a1_1:List PA) (a2:Int):Option ((List O9)×Int×(List PA)×Bool) :=
 (QX n a1_0 a1_1).bind fun (x1:Pg) =>
 (QY n a1_0 a1_1 a2).bind fun (x2:Int) =>
 (show Option (Bool) from
  (QI n a0).bind fun (x3:Bool) =>
  bif (!x3) then
   some true
  else
   (Py n a1_0 a1_1).bind fun (x4:Bool) =>
   bif (!x4) then
    some true
   else
    bif (decide (x2<0)) then
     some true
    else
     ((ND a1_1 x2)).bind fun (x5:PA) =>
     some (x5.2.2.2.2 != 1)).bind fun (x6:Bool) =>
 bif x6 then
  (PW n a0).bind fun (x7:(List O9)) =>
  some (x7,x1.1,x1.2,false)
 else
  ((ND a1_1 x2)).bind fun (x8:PA) =>
  (RM n a0 x8.2.2.2.1).bind fun (x9:(List O9)×Bool) =>
  bif (!x9.2) then
   (PW n a0).bind fun (x10:(List O9)) =>
   some (x10,x1.1,x1.2,false)
  else
   bif (Of x1.2 x2) then
    some (x9.1,x1.1,(List.modify x1.2 (Int.toNat x2) (fun (y:PA)=>(y.1,y.2.1,y.2.2.1,y.2.2.2.1,3))),true)
   else
    none
def R5 (n:Nat) (a0_0:Int) (a0_1:List PA) (a1:Int):Option (Int×(List PA)×Bool) :=
 (QX n a0_0 a0_1).bind fun (x1:Pg) =>
 (QY n a0_0 a0_1 a1).bind fun (x2:Int) =>
 (show Option (Bool) from
  (Py n a0_0 a0_1).bind fun (x3:Bool) =>
  bif (!x3) then
   some true
  else
   bif (decide (x2<0)) then
    some true
   else
    ((ND a0_1 x2)).bind fun (x4:PA) =>
    some (x4.2.2.2.2 != 1)).bind fun (x5:Bool) =>
 bif x5 then
  some (x1.1,x1.2,false)
 else
  bif (Of x1.2 x2) then
   some (x1.1,(List.modify x1.2 (Int.toNat x2) (fun (y:PA)=>(y.1,y.2.1,y.2.2.1,y.2.2.2.1,2))),true)
  else
   none
def Qh (x1:(List PH)×Int×(List Int)×Int×Int):Option (((List PH)×Int×(List Int)×Int×Int)⊕((List PH)×Int×(List Int)×Int×Int)) :=
 bif (decide (x1.2.1<6)) then
  (show Option ((List PH)×(List Int)×Int×Int) from
   (RZ x1.2.2.1 x1.2.2.2.1 x1.2.2.2.2 4).bind fun (x3:Bool×(List Int)×Int×Int) =>
   bif x3.1 then
    (Ph x3.2.1 x3.2.2.1 x3.2.2.2 ([1,1,1,2,3,9])).bind fun (x4:Int×(List Int)×Int×Int) =>
    bif (decide (List.length x1.1+List.length [(x1.2.1,x4.1)]≤DZ)) then
     some ((x1.1++[(x1.2.1,x4.1)]),x4.2.1,x4.2.2.1,x4.2.2.2)
    else
     none
   else
    some (x1.1,x3.2.1,x3.2.2.1,x3.2.2.2)).bind fun (x2:(List PH)×(List Int)×Int×Int) =>
  some (.inl (x2.1,(Pe (x1.2.1+1)),x2.2.1,x2.2.2.1,x2.2.2.2))
 else
  some (.inr (x1.1,x1.2.1,x1.2.2.1,x1.2.2.2.1,x1.2.2.2.2))
def Q6 (n:Nat) (a0_0:List Int) (a0_1:Int) (a0_2:Int):Option ((List PH)×(List Int)×Int×Int) :=
 (iter n (Qh) (([]:List PH),1,a0_0,a0_1,a0_2)).bind fun (x5:(List PH)×Int×(List Int)×Int×Int) =>
 some (x5.1,x5.2.2.1,x5.2.2.2.1,x5.2.2.2.2)
def RT (n:Nat) (a0_0:Int) (a0_1:Int) (a0_2:List PB) (a1:List PH) (x1:(List PB)×Int×Int):Option (((List PB)×Int×Int)⊕((List PB)×Int×Int)) :=
 bif (decide (x1.2.2<((List.length a1:Int)))) then
  (show Option ((List PB)×Int) from
   ((ND a1 x1.2.2)).bind fun (x3:PH) =>
   (Q3 n a0_0 a0_1 a0_2 x3.1).bind fun (x4:PB) =>
   (show Option (Int) from
    ((ND a1 x1.2.2)).bind fun (x6:PH) =>
    bif (decide (x6.2<(Pe (x4.2.1 - x4.2.2)))) then
     ((ND a1 x1.2.2)).bind fun (x7:PH) =>
     some x7.2
    else
     some (Pe (x4.2.1 - x4.2.2))).bind fun (x5:Int) =>
   bif (decide (x5>0)) then
    ((ND a1 x1.2.2)).bind fun (x8:PH) =>
    bif (decide (List.length x1.1+List.length [(a0_0,x8.1,x5)]≤DZ)) then
     some ((x1.1++[(a0_0,x8.1,x5)]),(Pe (x1.2.1+x5)))
    else
     none
   else
    some (x1.1,x1.2.1)).bind fun (x2:(List PB)×Int) =>
  some (.inl (x2.1,x2.2,(Pe (x1.2.2+1))))
 else
  some (.inr (x1.1,x1.2.1,x1.2.2))
def Q5 (n:Nat) (a0_0:Int) (a0_1:Int) (a0_2:List PB) (a1:List PH):Option ((List PB)×Int) :=
 (iter n (RT n a0_0 a0_1 a0_2 a1) (([]:List PB),0,0)).bind fun (x9:(List PB)×Int×Int) =>
 some (x9.1,x9.2.1)
def Q9 (x4:(List PB)×Bool×(List PB)×(List PB)×(List PH)×(List Bool)) (x5:PH):Option ((PH)⊕(PH)) :=
 bif (decide (x5.2<((List.length x4.2.2.2.2.1:Int)))) then
  bif (Of x4.2.2.2.2.1 x5.2) then
   ((x4.2.2.2.2.1[(Int.toNat x5.2)]?)).bind fun (x6:PH) =>
   some (.inl ((Pe (x5.1+x6.2)),(Pe (x5.2+1))))
  else
   none
 else
  some (.inr (x5.1,x5.2))
def P5 (n:Nat) (a0:List O9) (x4:(List PB)×Bool×(List PB)×(List PB)×(List PH)×(List Bool)) (x8:PB):Option ((PB)⊕(PB)) :=
 bif (decide (x8.2.2<((List.length a0:Int)))) then
  (show Option (PH) from
   ((ND a0 x8.2.2)).bind fun (x10:O9) =>
   (Q5 n x10.1 x10.2.1 x10.2.2 x4.2.2.2.2.1).bind fun (x11:(List PB)×Int) =>
   (show Option (Bool) from
    bif (Of x4.2.2.2.2.2 x8.2.2) then
     ((x4.2.2.2.2.2[(Int.toNat x8.2.2)]?)).bind fun (x12:Bool) =>
     bif (!x12) then
      some (decide (x11.2>x8.2.1))
     else
      some false
    else
     none).bind fun (x13:Bool) =>
   bif x13 then
    some (x8.2.2,x11.2)
   else
    some (x8.1,x8.2.1)).bind fun (x9:PH) =>
  some (.inl (x9.1,x9.2,(Pe (x8.2.2+1))))
 else
  some (.inr (x8.1,x8.2.1,x8.2.2))
def RC (x16:(List PB)×Int) (x17:Int×(List PH)) (x18:Int×(List PH)):Option ((Int×(List PH))⊕(Int×(List PH))) :=
 bif (decide (x18.1<((List.length x18.2:Int)))) then
  (show Option ((List PH)) from
   bif (Of x18.2 x18.1) then
    ((x18.2[(Int.toNat x18.1)]?)).bind fun (x20:PH) =>
    bif (Of x16.1 x17.1) then
     ((x16.1[(Int.toNat x17.1)]?)).bind fun (x21:PB) =>
     bif (x20.1==x21.2.1) then
      bif (Of x18.2 x18.1) then
       ((x18.2[(Int.toNat x18.1)]?)).bind fun (x22:PH) =>
       bif (Of x16.1 x17.1) then
        ((x16.1[(Int.toNat x17.1)]?)).bind fun (x23:PB) =>
        bif (Of x18.2 x18.1) then
         some (List.modify x18.2 (Int.toNat x18.1) (fun (y:PH)=>(y.1,(Pe (x22.2 - x23.2.2)))))
        else
         none
       else
        none
      else
       none
     else
      some x18.2
    else
     none
   else
    none).bind fun (x19:(List PH)) =>
  some (.inl ((Pe (x18.1+1)),x19))
 else
  some (.inr (x18.1,x18.2))
def RA (n:Nat) (x16:(List PB)×Int) (x17:Int×(List PH)):Option ((Int×(List PH))⊕(Int×(List PH))) :=
 bif (decide (x17.1<((List.length x16.1:Int)))) then
  (iter n (RC x16 x17) (0,x17.2)).bind fun (x24:Int×(List PH)) =>
  some (.inl ((Pe (x17.1+1)),x24.2))
 else
  some (.inr (x17.1,x17.2))
def QM (n:Nat) (a0:List O9) (x4:(List PB)×Bool×(List PB)×(List PB)×(List PH)×(List Bool)):Option (((List PB)×Bool×(List PB)×(List PB)×(List PH)×(List Bool))⊕(((List PB)×Bool×(List PB)×(List PB)×(List PH)×(List Bool))⊕((List PB)×Bool))) :=
 (iter n (Q9 x4) (0,0)).bind fun (x7:PH) =>
 bif (x7.1==0) then
  some (.inr (.inr (x4.2.2.1,true)))
 else
  (iter n (P5 n a0 x4) ((-1),0,0)).bind fun (x14:PB) =>
  bif (decide (x14.1<0)) then
   some (.inr (.inr (x4.2.2.2.1,false)))
  else
   bif (Of x4.2.2.2.2.2 x14.1) then
    ((ND a0 x14.1)).bind fun (x15:O9) =>
    (Q5 n x15.1 x15.2.1 x15.2.2 x4.2.2.2.2.1).bind fun (x16:(List PB)×Int) =>
    bif (decide (List.length x4.2.2.1+List.length x16.1≤DZ)) then
     (iter n (RA n x16) (0,x4.2.2.2.2.1)).bind fun (x25:Int×(List PH)) =>
     some (.inl (x4.1,x4.2.1,(x4.2.2.1++x16.1),x4.2.2.2.1,x25.2,(CV x4.2.2.2.2.2 (Int.toNat x14.1) true)))
    else
     none
   else
    none
def P9 (n:Nat) (a0:List O9) (a1:List PH):Option ((List PB)×Bool) :=
 (show Option (Bool) from
  (QI n a0).bind fun (x1:Bool) =>
  bif (!x1) then
   some true
  else
   (Pk n a1).bind fun (x2:Bool) =>
   some (!x2)).bind fun (x3:Bool) =>
 bif x3 then
  some (([]:List PB),false)
 else
  bif (decide (List.length ([]:List PH)+List.length a1≤DZ)) then
   bif (decide (0≤((List.length a0:Int)))&&decide (((List.length a0:Int))≤(DZ:Int))&&decide (((List.length a0:Int))=((List.length a0:Int)))) then
    (iter n (QM n a0) (([]:List PB),false,([]:List PB),([]:List PB),(([]:List PH)++a1),(List.replicate (Int.toNat ((List.length a0:Int))) (false:Bool)))).bind fun (x26:((List PB)×Bool×(List PB)×(List PB)×(List PH)×(List Bool))⊕((List PB)×Bool)) =>
    (match x26 with
    | .inl x27=>(
     some (x27.1,x27.2.1))
    | .inr x28=>(
     some x28))
   else
    none
  else
   none
def Q2 (n:Nat) (a0:List O9) (a1:List PB):Option ((List O9)×Bool) :=
 (Qv n a0 a1 1).bind fun (x1:(List O9)×Bool) =>
 some (x1.1,x1.2)
def QH (n:Nat) (a0:List O9) (a1_0:Int) (a1_1:List PA) (a2:Int) (a3:List PH):Option ((List O9)×Int×(List PA)×Int) :=
 (QX n a1_0 a1_1).bind fun (x1:Pg) =>
 (show Option (Bool) from
  (QI n a0).bind fun (x2:Bool) =>
  bif (!x2) then
   some true
  else
   (Py n a1_0 a1_1).bind fun (x3:Bool) =>
   bif (!x3) then
    some true
   else
    (Pd a2 0 99).bind fun (x4:Bool) =>
    bif (!x4) then
     some true
    else
     bif (((List.length a3:Int))==0) then
      some true
     else
      bif (((List.length a1_1:Int))==30) then
       some true
      else
       some (a1_0==1000000)).bind fun (x5:Bool) =>
 bif x5 then
  (PW n a0).bind fun (x6:(List O9)) =>
  some (x6,x1.1,x1.2,0)
 else
  (P9 n a0 a3).bind fun (x7:(List PB)×Bool) =>
  bif (!x7.2) then
   (PW n a0).bind fun (x8:(List O9)) =>
   some (x8,x1.1,x1.2,0)
  else
   (Q2 n a0 x7.1).bind fun (x9:(List O9)×Bool) =>
   bif (decide (List.length ([]:List PH)+List.length a3≤DZ)) then
    bif (decide (List.length x1.2+List.length [(a1_0,a2,(([]:List PH)++a3),x7.1,1)]≤DZ)) then
     some (x9.1,(Pe (a1_0+1)),(x1.2++[(a1_0,a2,(([]:List PH)++a3),x7.1,1)]),a1_0)
    else
     none
   else
    none
def RQ (n:Nat) (x4:Int×(List Int)×Int×Int×(List O9)×Int×(List PA)):Option ((Int×(List Int)×Int×Int×(List O9)×Int×(List PA))⊕(Int×(List Int)×Int×Int×(List O9)×Int×(List PA))) :=
 bif (decide (x4.1>0)) then
  (show Option ((List Int)×Int×Int×(List O9)×Int×(List PA)) from
   (PQ x4.2.1 x4.2.2.1 x4.2.2.2.1 5).bind fun (x6:Int×(List Int)×Int×Int) =>
   bif (x6.1==0) then
    (PQ x6.2.1 x6.2.2.1 x6.2.2.2 6).bind fun (x7:Int×(List Int)×Int×Int) =>
    (RE n x4.2.2.2.2.1 x4.2.2.2.2.2.1 x4.2.2.2.2.2.2 x7.1).bind fun (x8:(List O9)×Int×(List PA)×Bool) =>
    some (x7.2.1,x7.2.2.1,x7.2.2.2,x8.1,x8.2.1,x8.2.2.1)
   else
    bif (x6.1==1) then
     (PQ x6.2.1 x6.2.2.1 x6.2.2.2 6).bind fun (x9:Int×(List Int)×Int×Int) =>
     (R5 n x4.2.2.2.2.2.1 x4.2.2.2.2.2.2 x9.1).bind fun (x10:Int×(List PA)×Bool) =>
     some (x9.2.1,x9.2.2.1,x9.2.2.2,x4.2.2.2.2.1,x10.1,x10.2.1)
    else
     (PQ x6.2.1 x6.2.2.1 x6.2.2.2 30).bind fun (x11:Int×(List Int)×Int×Int) =>
     (Q6 n x11.2.1 x11.2.2.1 x11.2.2.2).bind fun (x12:(List PH)×(List Int)×Int×Int) =>
     (QH n x4.2.2.2.2.1 x4.2.2.2.2.2.1 x4.2.2.2.2.2.2 x11.1 x12.1).bind fun (x13:(List O9)×Int×(List PA)×Int) =>
     some (x12.2.1,x12.2.2.1,x12.2.2.2,x13.1,x13.2.1,x13.2.2.1)).bind fun (x5:(List Int)×Int×Int×(List O9)×Int×(List PA)) =>
  some (.inl ((Pe (x4.1 - 1)),x5.1,x5.2.1,x5.2.2.1,x5.2.2.2.1,x5.2.2.2.2.1,x5.2.2.2.2.2))
 else
  some (.inr (x4.1,x4.2.1,x4.2.2.1,x4.2.2.2.1,x4.2.2.2.2.1,x4.2.2.2.2.2.1,x4.2.2.2.2.2.2))
def Ro (n:Nat) (a0_0:List Int) (a0_1:Int) (a0_2:Int) (a1:Int):Option ((List O9)×Int×(List PA)×(List Int)×Int×Int) :=
 (R8 n a0_0 a0_1 a0_2).bind fun (x1:(List O9)×(List Int)×Int×Int) =>
 (PQ x1.2.1 x1.2.2.1 x1.2.2.2 3).bind fun (x2:Int×(List Int)×Int×Int) =>
 (PQ x2.2.1 x2.2.2.1 x2.2.2.2 a1).bind fun (x3:Int×(List Int)×Int×Int) =>
 (iter n (RQ n) (x3.1,x3.2.1,x3.2.2.1,x3.2.2.2,x1.1,(Pe (1+x2.1)),([]:List PA))).bind fun (x14:Int×(List Int)×Int×Int×(List O9)×Int×(List PA)) =>
 some (x14.2.2.2.2.1,x14.2.2.2.2.2.1,x14.2.2.2.2.2.2,x14.2.1,x14.2.2.1,x14.2.2.2.1)
def R7 (n:Nat) (a0_0:List Int) (a0_1:Int) (a0_2:Int) (a1:List O9):Option ((List O9)×(List Int)×Int×Int) :=
 (PW n a1).bind fun (x1:(List O9)) =>
 bif (((List.length x1:Int))==0) then
  some (x1,a0_0,a0_1,a0_2)
 else
  (PQ a0_0 a0_1 a0_2 ((List.length x1:Int))).bind fun (x2:Int×(List Int)×Int×Int) =>
  (show Option ((List Int)×Int×Int×(List O9)) from
   (PQ x2.2.1 x2.2.2.1 x2.2.2.2 6).bind fun (x4:Int×(List Int)×Int×Int) =>
   bif (x4.1==0) then
    (Ph x4.2.1 x4.2.2.1 x4.2.2.2 ([0,1000,10])).bind fun (x5:Int×(List Int)×Int×Int) =>
    bif (Of x1 x2.1) then
     some (x5.2.1,x5.2.2.1,x5.2.2.2,(List.modify x1 (Int.toNat x2.1) (fun (y:O9)=>(x5.1,y.2.1,y.2.2))))
    else
     none
   else
    bif (x4.1==1) then
     (Ph x4.2.1 x4.2.2.1 x4.2.2.2 ([(-1),100,19])).bind fun (x6:Int×(List Int)×Int×Int) =>
     bif (Of x1 x2.1) then
      some (x6.2.1,x6.2.2.1,x6.2.2.2,(List.modify x1 (Int.toNat x2.1) (fun (y:O9)=>(y.1,x6.1,y.2.2))))
     else
      none
    else
     bif (x4.1==2) then
      bif (Of x1 x2.1) then
       ((x1[(Int.toNat x2.1)]?)).bind fun (x7:O9) =>
       (Ph x4.2.1 x4.2.2.1 x4.2.2.2 ([0,1,1001])).bind fun (x8:Int×(List Int)×Int×Int) =>
       (PQ x8.2.1 x8.2.2.1 x8.2.2.2 3).bind fun (x9:Int×(List Int)×Int×Int) =>
       ((x1[(Int.toNat x2.1)]?)).bind fun (x10:O9) =>
       bif (decide (List.length x10.2.2+List.length [(9,x8.1,x9.1)]≤DZ)) then
        bif (Of x1 x2.1) then
         some (x9.2.1,x9.2.2.1,x9.2.2.2,(List.modify x1 (Int.toNat x2.1) (fun (y:O9)=>(y.1,y.2.1,(x10.2.2++[(9,x8.1,x9.1)])))))
        else
         none
       else
        none
      else
       none
     else
      bif (x4.1==3) then
       bif (Of x1 0) then
        ((x1[(Int.toNat 0)]?)).bind fun (x11:O9) =>
        ((x1[(Int.toNat 0)]?)).bind fun (x12:O9) =>
        bif (decide (List.length x1+List.length [(x11.1,x11.2.1,x12.2.2)]≤DZ)) then
         some (x4.2.1,x4.2.2.1,x4.2.2.2,(x1++[(x11.1,x11.2.1,x12.2.2)]))
        else
         none
       else
        none
      else
       some (x4.2.1,x4.2.2.1,x4.2.2.2,x1)).bind fun (x3:(List Int)×Int×Int×(List O9)) =>
  some (x3.2.2.2,x3.1,x3.2.1,x3.2.2.1)
def Qe (n:Nat) (a0_0:List Int) (a0_1:Int) (a0_2:Int) (a1:Int):Option ((List O9)×Int×(List PA)×(List Int)×Int×Int) :=
 (Ro n a0_0 a0_1 a0_2 a1).bind fun (x1:(List O9)×Int×(List PA)×(List Int)×Int×Int) =>
 (show Option ((List Int)×Int×Int×(List O9)×Int×(List PA)) from
  (PQ x1.2.2.2.1 x1.2.2.2.2.1 x1.2.2.2.2.2 12).bind fun (x3:Int×(List Int)×Int×Int) =>
  bif (x3.1==0) then
   (Ph x3.2.1 x3.2.2.1 x3.2.2.2 ([0,1,1000000,1000001])).bind fun (x4:Int×(List Int)×Int×Int) =>
   some (x4.2.1,x4.2.2.1,x4.2.2.2,x1.1,x4.1,x1.2.2.1)
  else
   bif (x3.1==1) then
    bif (decide (((List.length x1.2.2.1:Int))>0)) then
     bif (Of x1.2.2.1 0) then
      ((x1.2.2.1[(Int.toNat 0)]?)).bind fun (x5:PA) =>
      ((x1.2.2.1[(Int.toNat 0)]?)).bind fun (x6:PA) =>
      bif (decide (List.length x6.2.2.2.1+List.length [(10,1,1)]≤DZ)) then
       bif (Of x1.2.2.1 0) then
        some (x3.2.1,x3.2.2.1,x3.2.2.2,x1.1,x1.2.1,(List.modify x1.2.2.1 (Int.toNat 0) (fun (y:PA)=>(y.1,y.2.1,y.2.2.1,(x6.2.2.2.1++[(10,1,1)]),y.2.2.2.2))))
       else
        none
      else
       none
     else
      none
    else
     some (x3.2.1,x3.2.2.1,x3.2.2.2,x1.1,x1.2.1,x1.2.2.1)
   else
    bif (x3.1==2) then
     (R7 n x3.2.1 x3.2.2.1 x3.2.2.2 x1.1).bind fun (x7:(List O9)×(List Int)×Int×Int) =>
     some (x7.2.1,x7.2.2.1,x7.2.2.2,x7.1,x1.2.1,x1.2.2.1)
    else
     bif (x3.1==3) then
      bif (decide (((List.length x1.2.2.1:Int))>0)) then
       (Ph x3.2.1 x3.2.2.1 x3.2.2.2 ([0,1,2,4])).bind fun (x8:Int×(List Int)×Int×Int) =>
       bif (Of x1.2.2.1 0) then
        some (x8.2.1,x8.2.2.1,x8.2.2.2,x1.1,x1.2.1,(List.modify x1.2.2.1 (Int.toNat 0) (fun (y:PA)=>(y.1,y.2.1,y.2.2.1,y.2.2.2.1,x8.1))))
       else
        none
      else
       some (x3.2.1,x3.2.2.1,x3.2.2.2,x1.1,x1.2.1,x1.2.2.1)
     else
      some (x3.2.1,x3.2.2.1,x3.2.2.2,x1.1,x1.2.1,x1.2.2.1)).bind fun (x2:(List Int)×Int×Int×(List O9)×Int×(List PA)) =>
 some (x2.2.2.2.1,x2.2.2.2.2.1,x2.2.2.2.2.2,x2.1,x2.2.1,x2.2.2.1)
def Qg (n:Nat) (a0_0:List Int) (a0_1:Int) (a0_2:Int):Option ((List PH)×(List Int)×Int×Int) :=
 (Q6 n a0_0 a0_1 a0_2).bind fun (x1:(List PH)×(List Int)×Int×Int) =>
 (show Option ((List PH)×(List Int)×Int×Int) from
  (PQ x1.2.1 x1.2.2.1 x1.2.2.2 10).bind fun (x3:Int×(List Int)×Int×Int) =>
  bif (x3.1==0) then
   (Ph x3.2.1 x3.2.2.1 x3.2.2.2 ([0,1,50,51])).bind fun (x4:Int×(List Int)×Int×Int) =>
   (Ph x4.2.1 x4.2.2.1 x4.2.2.2 ([0,1,1001])).bind fun (x5:Int×(List Int)×Int×Int) =>
   bif (decide (List.length x1.1+List.length [(x4.1,x5.1)]≤DZ)) then
    some ((x1.1++[(x4.1,x5.1)]),x5.2.1,x5.2.2.1,x5.2.2.2)
   else
    none
  else
   some (x1.1,x3.2.1,x3.2.2.1,x3.2.2.2)).bind fun (x2:(List PH)×(List Int)×Int×Int) =>
 some (x2.1,x2.2.1,x2.2.2.1,x2.2.2.2)
def Qd (n:Nat) (a0:List Int):Option ((List O9)×Int×(List PA)×Int×(List PH)) :=
 (SP n a0).bind fun (x1:XA) =>
 (R6 a0 10).bind fun (x2:Int) =>
 (Qe n x1.1 x1.2.1 x1.2.2 x2).bind fun (x3:(List O9)×Int×(List PA)×(List Int)×Int×Int) =>
 (Ph x3.2.2.2.1 x3.2.2.2.2.1 x3.2.2.2.2.2 ([5,5,5,0,99,100,(-1)])).bind fun (x4:Int×(List Int)×Int×Int) =>
 (Qg n x4.2.1 x4.2.2.1 x4.2.2.2).bind fun (x5:(List PH)×(List Int)×Int×Int) =>
 some (x3.1,x3.2.1,x3.2.2.1,x4.1,x5.1)
def Pr (a0:Int) (a1:Int) (a2:Int):Option (Bool) :=
 (show Option (Bool) from
  bif (decide (a0≥a1)) then
   some (decide (a0≤a2))
  else
   some false).bind fun (x1:Bool) =>
 some x1
def R0 (a0_2:List PB) (x4:Int):Option ((Int)⊕((Int)⊕(Bool))) :=
 bif (decide (x4<((List.length a0_2:Int)))) then
  ((ND a0_2 x4)).bind fun (x5:PB) =>
  (show Option (Bool) from
   (Pr x5.1 1 50).bind fun (x6:Bool) =>
   bif (!x6) then
    some true
   else
    (Pr x5.2.1 1 1000).bind fun (x7:Bool) =>
    bif (!x7) then
     some true
    else
     (Pr x5.2.2 0 x5.2.1).bind fun (x8:Bool) =>
     bif (!x8) then
      some true
     else
      bif (decide (x4>0)) then
       ((ND a0_2 (Pe (x4 - 1)))).bind fun (x9:PB) =>
       some (decide (x9.1≥x5.1))
      else
       some false).bind fun (x10:Bool) =>
  bif x10 then
   some (.inr (.inr false))
  else
   some (.inl (Pe (x4+1)))
 else
  some (.inr (.inl x4))
def SO (n:Nat) (a0_0:Int) (a0_1:Int) (a0_2:List PB):Option (Bool) :=
 (show Option (Bool) from
  (Pr a0_0 1 999).bind fun (x1:Bool) =>
  bif (!x1) then
   some true
  else
   (Pr a0_1 0 99).bind fun (x2:Bool) =>
   bif (!x2) then
    some true
   else
    some (decide (((List.length a0_2:Int))>8))).bind fun (x3:Bool) =>
 bif x3 then
  some false
 else
  (iter n (R0 a0_2) 0).bind fun (x11:(Int)⊕(Bool)) =>
  (match x11 with
  | .inl x12=>(
   some true)
  | .inr x13=>(
   some x13))
def Qb (a0:List O9) (x1:Int) (x2:O9) (x6:Int):Option ((Int)⊕((Int)⊕(Bool))) :=
 bif (decide (x6<((List.length (sub a0 (Int.toNat (0:Int)) (Int.toNat x1)):Int)))) then
  ((ND (sub a0 (Int.toNat (0:Int)) (Int.toNat x1)) x6)).bind fun (x7:O9) =>
  bif (x7.2.1==x2.2.1) then
   some (.inr (.inr false))
  else
   some (.inl (Pe (x6+1)))
 else
  some (.inr (.inl x6))
def RG (n:Nat) (a0:List O9) (x1:Int):Option ((Int)⊕((Int)⊕(Bool))) :=
 bif (decide (x1<((List.length a0:Int)))) then
  ((ND a0 x1)).bind fun (x2:O9) =>
  (show Option (Bool) from
   (SO n x2.1 x2.2.1 x2.2.2).bind fun (x3:Bool) =>
   bif (!x3) then
    some true
   else
    bif (decide (x1>0)) then
     ((ND a0 (Pe (x1 - 1)))).bind fun (x4:O9) =>
     some (decide (x4.1≥x2.1))
    else
     some false).bind fun (x5:Bool) =>
  bif x5 then
   some (.inr (.inr false))
  else
   bif (decide (0≤(0:Int))&&decide ((0:Int)≤x1)&&decide (x1≤((List.length a0:Int)))) then
    (iter n (Qb a0 x1 x2) 0).bind fun (x8:(Int)⊕(Bool)) =>
    (match x8 with
    | .inl x9=>(
     some (.inl (Pe (x1+1))))
    | .inr x10=>(
     some (.inr (.inr x10))))
   else
    none
 else
  some (.inr (.inl x1))
def P1 (n:Nat) (a0:List O9):Option (Bool) :=
 (iter n (RG n a0) 0).bind fun (x11:(Int)⊕(Bool)) =>
 (match x11 with
 | .inl x12=>(
  some (decide (((List.length a0:Int))≤12)))
 | .inr x13=>(
  some x13))
def SB (a0:List PH) (x1:Int):Option ((Int)⊕((Int)⊕(Bool))) :=
 bif (decide (x1<((List.length a0:Int)))) then
  ((ND a0 x1)).bind fun (x2:PH) =>
  (show Option (Bool) from
   (Pr x2.1 1 50).bind fun (x3:Bool) =>
   bif (!x3) then
    some true
   else
    (Pr x2.2 1 1000).bind fun (x4:Bool) =>
    bif (!x4) then
     some true
    else
     bif (decide (x1>0)) then
      ((ND a0 (Pe (x1 - 1)))).bind fun (x5:PH) =>
      some (decide (x5.1≥x2.1))
     else
      some false).bind fun (x6:Bool) =>
  bif x6 then
   some (.inr (.inr false))
  else
   some (.inl (Pe (x1+1)))
 else
  some (.inr (.inl x1))
def QE (n:Nat) (a0:List PH):Option (Bool) :=
 (iter n (SB a0) 0).bind fun (x7:(Int)⊕(Bool)) =>
 (match x7 with
 | .inl x8=>(
  some (decide (((List.length a0:Int))≤6)))
 | .inr x9=>(
  some x9))
def Pj (a0:List PH):Option ((List PH)) :=
 bif (decide (List.length a0≤DZ)) then
  some a0
 else
  none
def RI (x2:Int×(List PH)) (x3:PB) (x4:Bool×Int×(List PH)):Option ((Bool×Int×(List PH))⊕(Bool×Int×(List PH))) :=
 bif (decide (x4.2.1<((List.length x2.2:Int)))) then
  (show Option (Bool) from
   bif (Of x4.2.2 x4.2.1) then
    ((x4.2.2[(Int.toNat x4.2.1)]?)).bind fun (x5:PH) =>
    bif (x5.1==x3.2.1) then
     bif (Of x4.2.2 x4.2.1) then
      ((x4.2.2[(Int.toNat x4.2.1)]?)).bind fun (x6:PH) =>
      (Pr x3.2.2 1 x6.2).bind fun (x7:Bool) =>
      some x7
     else
      none
    else
     some false
   else
    none).bind fun (x8:Bool) =>
  bif x8 then
   bif (Of x4.2.2 x4.2.1) then
    ((x4.2.2[(Int.toNat x4.2.1)]?)).bind fun (x9:PH) =>
    bif (Of x4.2.2 x4.2.1) then
     some (.inr (true,x4.2.1,(List.modify x4.2.2 (Int.toNat x4.2.1) (fun (y:PH)=>(y.1,(Pe (x9.2 - x3.2.2)))))))
    else
     none
   else
    none
  else
   some (.inl (x4.1,(Pe (x4.2.1+1)),x4.2.2))
 else
  some (.inr (x4.1,x4.2.1,x4.2.2))
def RH (n:Nat) (a0:List PB) (x2:Int×(List PH)):Option ((Int×(List PH))⊕((Int×(List PH))⊕(Bool))) :=
 bif (decide (x2.1<((List.length a0:Int)))) then
  ((ND a0 x2.1)).bind fun (x3:PB) =>
  (iter n (RI x2 x3) (false,0,x2.2)).bind fun (x10:Bool×Int×(List PH)) =>
  bif (!x10.1) then
   some (.inr (.inr false))
  else
   some (.inl ((Pe (x2.1+1)),x10.2.2))
 else
  some (.inr (.inl (x2.1,x2.2)))
def RJ (x12:Int×(List PH)) (x14:Int):Option ((Int)⊕((Int)⊕(Bool))) :=
 bif (decide (x14<((List.length x12.2:Int)))) then
  bif (Of x12.2 x14) then
   ((x12.2[(Int.toNat x14)]?)).bind fun (x15:PH) =>
   bif (x15.2 != 0) then
    some (.inr (.inr false))
   else
    some (.inl (Pe (x14+1)))
  else
   none
 else
  some (.inr (.inl x14))
def Q0 (n:Nat) (a0:List PB) (a1:List PH):Option (Bool) :=
 (Pj a1).bind fun (x1:(List PH)) =>
 (iter n (RH n a0) (0,x1)).bind fun (x11:(Int×(List PH))⊕(Bool)) =>
 (match x11 with
 | .inl x12=>(
  (iter n (RJ x12) 0).bind fun (x16:(Int)⊕(Bool)) =>
  (match x16 with
  | .inl x17=>(
   some true)
  | .inr x18=>(
   some x18)))
 | .inr x13=>(
  some x13))
def Rf (n:Nat) (a0_0:Int) (a0_1:List PA) (x3:Int):Option ((Int)⊕((Int)⊕(Bool))) :=
 bif (decide (x3<((List.length a0_1:Int)))) then
  ((ND a0_1 x3)).bind fun (x4:PA) =>
  (show Option (Bool) from
   (Pr x4.1 1 (Pe (a0_0 - 1))).bind fun (x5:Bool) =>
   bif (!x5) then
    some true
   else
    bif (decide (x3>0)) then
     ((ND a0_1 (Pe (x3 - 1)))).bind fun (x6:PA) =>
     bif (decide (x6.1≥x4.1)) then
      some true
     else
      (Pr x4.2.1 0 99).bind fun (x7:Bool) =>
      bif (!x7) then
       some true
      else
       (Pr x4.2.2.2.2 1 3).bind fun (x8:Bool) =>
       some (!x8)
    else
     (Pr x4.2.1 0 99).bind fun (x9:Bool) =>
     bif (!x9) then
      some true
     else
      (Pr x4.2.2.2.2 1 3).bind fun (x10:Bool) =>
      some (!x10)).bind fun (x11:Bool) =>
  bif x11 then
   some (.inr (.inr false))
  else
   (show Option (Bool) from
    bif (((List.length x4.2.2.1:Int))==0) then
     some true
    else
     (QE n x4.2.2.1).bind fun (x12:Bool) =>
     bif (!x12) then
      some true
     else
      (Q0 n x4.2.2.2.1 x4.2.2.1).bind fun (x13:Bool) =>
      some (!x13)).bind fun (x14:Bool) =>
   bif x14 then
    some (.inr (.inr false))
   else
    some (.inl (Pe (x3+1)))
 else
  some (.inr (.inl x3))
def Px (n:Nat) (a0_0:Int) (a0_1:List PA):Option (Bool) :=
 (show Option (Bool) from
  (Pr a0_0 1 1000000).bind fun (x1:Bool) =>
  bif (!x1) then
   some true
  else
   some (decide (((List.length a0_1:Int))>30))).bind fun (x2:Bool) =>
 bif x2 then
  some false
 else
  (iter n (Rf n a0_0 a0_1) 0).bind fun (x15:(Int)⊕(Bool)) =>
  (match x15 with
  | .inl x16=>(
   some true)
  | .inr x17=>(
   some x17))
def Qj (a0:List O9) (x1:Int×(List O9)):Option ((Int×(List O9))⊕(Int×(List O9))) :=
 bif (decide (x1.1<((List.length a0:Int)))) then
  ((ND a0 x1.1)).bind fun (x2:O9) =>
  bif (decide (List.length x2.2.2≤DZ)) then
   bif (decide (List.length x1.2+List.length [(x2.1,x2.2.1,x2.2.2)]≤DZ)) then
    some (.inl ((Pe (x1.1+1)),(x1.2++[(x2.1,x2.2.1,x2.2.2)])))
   else
    none
  else
   none
 else
  some (.inr (x1.1,x1.2))
def PR (n:Nat) (a0:List O9):Option ((List O9)) :=
 (iter n (Qj a0) (0,([]:List O9))).bind fun (x3:Int×(List O9)) =>
 some x3.2
def Rj (a0:List PB):Option ((List PB)) :=
 bif (decide (List.length a0≤DZ)) then
  some a0
 else
  none
def QP (a0_0:Int) (a0_1:Int) (a0_2:List PH) (a0_3:List PB) (a0_4:Int):Option (PA) :=
 (Pj a0_2).bind fun (x1:(List PH)) =>
 (Rj a0_3).bind fun (x2:(List PB)) =>
 some (a0_0,a0_1,x1,x2,a0_4)
def Qz (a0_1:List PA) (x1:Int×Int×(List PA)):Option ((Int×Int×(List PA))⊕(Int×Int×(List PA))) :=
 bif (decide (x1.1<((List.length a0_1:Int)))) then
  ((ND a0_1 x1.1)).bind fun (x2:PA) =>
  (QP x2.1 x2.2.1 x2.2.2.1 x2.2.2.2.1 x2.2.2.2.2).bind fun (x3:PA) =>
  bif (decide (List.length x1.2.2+List.length [(x3.1,x3.2.1,x3.2.2.1,x3.2.2.2.1,x3.2.2.2.2)]≤DZ)) then
   some (.inl ((Pe (x1.1+1)),x1.2.1,(x1.2.2++[(x3.1,x3.2.1,x3.2.2.1,x3.2.2.2.1,x3.2.2.2.2)])))
  else
   none
 else
  some (.inr (x1.1,x1.2.1,x1.2.2))
def Pt (n:Nat) (a0_0:Int) (a0_1:List PA):Option (Pg) :=
 (iter n (Qz a0_1) (0,a0_0,([]:List PA))).bind fun (x4:Int×Int×(List PA)) =>
 some (x4.2.1,x4.2.2)
def RK (a0_2:List PB) (a1:Int) (x1:Int):Option ((Int)⊕(Int)) :=
 (show Option (Bool) from
  bif (decide (x1<((List.length a0_2:Int)))) then
   ((ND a0_2 x1)).bind fun (x2:PB) =>
   some (decide (x2.1<a1))
  else
   some false).bind fun (x3:Bool) =>
 bif x3 then
  some (.inl (Pe (x1+1)))
 else
  some (.inr x1)
def QV (n:Nat) (a0_0:Int) (a0_1:Int) (a0_2:List PB) (a1:Int):Option (Int×Bool) :=
 (iter n (RK a0_2 a1) 0).bind fun (x4:Int) =>
 (show Option (Int×Bool) from
  bif (decide (x4<((List.length a0_2:Int)))) then
   ((ND a0_2 x4)).bind fun (x5:PB) =>
   some (x4,(x5.1==a1))
  else
   some (x4,false)).bind fun (x6:Int×Bool) =>
 some (x6.1,x6.2)
def Rz (n:Nat) (a0_0:Int) (a0_1:Int) (a0_2:List PB) (a1:List PH) (x1:(List PB)×Int×Int):Option (((List PB)×Int×Int)⊕((List PB)×Int×Int)) :=
 bif (decide (x1.2.2<((List.length a1:Int)))) then
  (show Option ((List PB)×Int) from
   ((ND a1 x1.2.2)).bind fun (x3:PH) =>
   (QV n a0_0 a0_1 a0_2 x3.1).bind fun (x4:Int×Bool) =>
   bif (!x4.2) then
    some (x1.1,x1.2.1)
   else
    ((ND a0_2 x4.1)).bind fun (x5:PB) =>
    ((ND a0_2 x4.1)).bind fun (x6:PB) =>
    bif (decide ((NK x3.2 (Pe (x5.2.1 - x6.2.2)))>0)) then
     bif (decide (List.length x1.1+List.length [(a0_0,x3.1,(NK x3.2 (Pe (x5.2.1 - x6.2.2))))]≤DZ)) then
      some ((x1.1++[(a0_0,x3.1,(NK x3.2 (Pe (x5.2.1 - x6.2.2))))]),(Pe (x1.2.1+(NK x3.2 (Pe (x5.2.1 - x6.2.2))))))
     else
      none
    else
     some (x1.1,x1.2.1)).bind fun (x2:(List PB)×Int) =>
  some (.inl (x2.1,x2.2,(Pe (x1.2.2+1))))
 else
  some (.inr (x1.1,x1.2.1,x1.2.2))
def SL (n:Nat) (a0_0:Int) (a0_1:Int) (a0_2:List PB) (a1:List PH):Option ((List PB)×Int) :=
 (iter n (Rz n a0_0 a0_1 a0_2 a1) (([]:List PB),0,0)).bind fun (x7:(List PB)×Int×Int) =>
 some (x7.1,x7.2.1)
def Uq (a0:List O9) (a1:Int) (x1:Int):Option ((Int)⊕((Int)⊕(Int))) :=
 bif (decide (x1<((List.length a0:Int)))) then
  ((ND a0 x1)).bind fun (x2:O9) =>
  bif (x2.1==a1) then
   some (.inr (.inr x1))
  else
   some (.inl (Pe (x1+1)))
 else
  some (.inr (.inl x1))
def Sp (n:Nat) (a0:List O9) (a1:Int):Option (Int) :=
 (iter n (Uq a0 a1) 0).bind fun (x3:(Int)⊕(Int)) =>
 (match x3 with
 | .inl x4=>(
  some (-1))
 | .inr x5=>(
  some x5))
def SN (n:Nat) (a0:List O9) (a1:Int) (a2:Int) (a3:Int):Option (PH) :=
 (show Option (Bool) from
  (P1 n a0).bind fun (x1:Bool) =>
  bif (!x1) then
   some true
  else
   (Pr a2 1 50).bind fun (x2:Bool) =>
   bif (!x2) then
    some true
   else
    (Pr a3 1 1000).bind fun (x3:Bool) =>
    some (!x3)).bind fun (x4:Bool) =>
 bif x4 then
  some ((-1),1)
 else
  (Sp n a0 a1).bind fun (x5:Int) =>
  bif (decide (x5≥0)) then
   some (x5,0)
  else
   some ((-1),2)
def RX (n:Nat) (a0:List O9) (a1:Int) (a2:Int) (a3:Int) (a4:Int):Option ((List O9)×Int) :=
 (PR n a0).bind fun (x1:(List O9)) =>
 (SN n a0 a1 a2 a3).bind fun (x2:PH) =>
 bif (x2.2 != 0) then
  some (x1,x2.2)
 else
  bif (Of x1 x2.1) then
   ((x1[(Int.toNat x2.1)]?)).bind fun (x3:O9) =>
   ((x1[(Int.toNat x2.1)]?)).bind fun (x4:O9) =>
   (QV n x3.1 x3.2.1 x4.2.2 a2).bind fun (x5:Int×Bool) =>
   bif (!x5.2) then
    some (x1,3)
   else
    bif (Of x1 x2.1) then
     ((x1[(Int.toNat x2.1)]?)).bind fun (x6:O9) =>
     ((x1[(Int.toNat x2.1)]?)).bind fun (x7:O9) =>
     bif (Of x7.2.2 x5.1) then
      ((x1[(Int.toNat x2.1)]?)).bind fun (x8:O9) =>
      ((x8.2.2[(Int.toNat x5.1)]?)).bind fun (x9:PB) =>
      ((x1[(Int.toNat x2.1)]?)).bind fun (x10:O9) =>
      ((x10.2.2[(Int.toNat x5.1)]?)).bind fun (x11:PB) =>
      (Pr (Pe (x9.2.2+a4)) 0 x11.2.1).bind fun (x12:Bool) =>
      bif (!x12) then
       some (x1,3)
      else
       ((x1[(Int.toNat x2.1)]?)).bind fun (x13:O9) =>
       ((x13.2.2[(Int.toNat x5.1)]?)).bind fun (x14:PB) =>
       some ((List.modify x1 (Int.toNat x2.1) (fun (y2:O9)=>(y2.1,y2.2.1,(List.modify y2.2.2 (Int.toNat x5.1) (fun (y:PB)=>(y.1,y.2.1,(Pe (x14.2.2+a4)))))))),0)
     else
      none
    else
     none
  else
   none
def Sa (n:Nat) (a0:List O9) (a1:Int) (a2:Int) (a3:Int):Option ((List O9)×Int) :=
 (RX n a0 a1 a2 a3 a3).bind fun (x1:(List O9)×Int) =>
 some (x1.1,x1.2)
def Qk (n:Nat) (a0:List O9) (a1:List PB) (x2:Int×(List O9)×(List O9)):Option ((Int×(List O9)×(List O9))⊕((Int×(List O9)×(List O9))⊕((List O9)×Bool))) :=
 bif (decide (x2.1<((List.length a1:Int)))) then
  ((ND a1 x2.1)).bind fun (x3:PB) =>
  (Sa n x2.2.2 x3.1 x3.2.1 x3.2.2).bind fun (x4:(List O9)×Int) =>
  bif (x4.2 != 0) then
   (PR n a0).bind fun (x5:(List O9)) =>
   some (.inr (.inr (x5,false)))
  else
   some (.inl ((Pe (x2.1+1)),x2.2.1,x4.1))
 else
  some (.inr (.inl (x2.1,x2.2.1,x2.2.2)))
def Rk (n:Nat) (a0:List O9) (a1:List PB):Option ((List O9)×Bool) :=
 (PR n a0).bind fun (x1:(List O9)) =>
 (iter n (Qk n a0 a1) (0,([]:List O9),x1)).bind fun (x6:(Int×(List O9)×(List O9))⊕((List O9)×Bool)) =>
 (match x6 with
 | .inl x7=>(
  some (x7.2.2,true))
 | .inr x8=>(
  some x8))
def Qx (n:Nat) (a0:List O9) (a1:List PB):Option ((List O9)×Bool) :=
 (Rk n a0 a1).bind fun (x1:(List O9)×Bool) =>
 some (x1.1,x1.2)
def Rl (a1:List PB) (x4:PB):Option ((PB)⊕(PB)) :=
 bif (decide (x4.1<((List.length a1:Int)))) then
  (show Option (PH) from
   ((ND a1 x4.1)).bind fun (x6:PB) =>
   bif (x6.2.1==x4.2.1) then
    some (x4.2.1,(Pe (x4.2.2 - x6.2.2)))
   else
    some (x4.2.1,x4.2.2)).bind fun (x5:PH) =>
  some (.inl ((Pe (x4.1+1)),x5.1,x5.2))
 else
  some (.inr (x4.1,x4.2.1,x4.2.2))
def SE (n:Nat) (a0:List PH) (a1:List PB) (x1:(List PH)×Int):Option (((List PH)×Int)⊕((List PH)×Int)) :=
 bif (decide (x1.2<((List.length a0:Int)))) then
  (show Option ((List PH)) from
   ((ND a0 x1.2)).bind fun (x3:PH) =>
   (iter n (Rl a1) (0,x3.1,x3.2)).bind fun (x7:PB) =>
   bif (decide (x7.2.2>0)) then
    bif (decide (List.length x1.1+List.length [(x7.2.1,x7.2.2)]≤DZ)) then
     some (x1.1++[(x7.2.1,x7.2.2)])
    else
     none
   else
    some x1.1).bind fun (x2:(List PH)) =>
  some (.inl (x2,(Pe (x1.2+1))))
 else
  some (.inr (x1.1,x1.2))
def Sd (n:Nat) (a0:List PH) (a1:List PB):Option ((List PH)) :=
 (iter n (SE n a0 a1) (([]:List PH),0)).bind fun (x8:(List PH)×Int) =>
 some x8.1
def Ry (n:Nat) (x6:(List PB)×(List PH)×(List O9)) (x7:(List PB)×Int×Int):Option (((List PB)×Int×Int)⊕((List PB)×Int×Int)) :=
 bif (decide (x7.2.2<((List.length x6.2.2:Int)))) then
  (show Option ((List PB)×Int) from
   ((ND x6.2.2 x7.2.2)).bind fun (x9:O9) =>
   (SL n x9.1 x9.2.1 x9.2.2 x6.2.1).bind fun (x10:(List PB)×Int) =>
   bif (decide (x10.2>x7.2.1)) then
    some (x10.1,x10.2)
   else
    some (x7.1,x7.2.1)).bind fun (x8:(List PB)×Int) =>
  some (.inl (x8.1,x8.2,(Pe (x7.2.2+1))))
 else
  some (.inr (x7.1,x7.2.1,x7.2.2))
def Rx (n:Nat) (x6:(List PB)×(List PH)×(List O9)):Option (((List PB)×(List PH)×(List O9))⊕(((List PB)×(List PH)×(List O9))⊕((List PB)×Bool))) :=
 bif (decide (((List.length x6.2.1:Int))>0)) then
  (iter n (Ry n x6) (([]:List PB),0,0)).bind fun (x11:(List PB)×Int×Int) =>
  bif (x11.2.1==0) then
   some (.inr (.inr (([]:List PB),false)))
  else
   bif (decide (List.length x6.1+List.length x11.1≤DZ)) then
    (Qx n x6.2.2 x11.1).bind fun (x12:(List O9)×Bool) =>
    (Sd n x6.2.1 x11.1).bind fun (x13:(List PH)) =>
    some (.inl ((x6.1++x11.1),x13,x12.1))
   else
    none
 else
  some (.inr (.inl (x6.1,x6.2.1,x6.2.2)))
def QU (n:Nat) (a0:List O9) (a1:List PH):Option ((List PB)×Bool) :=
 (show Option (Bool) from
  (P1 n a0).bind fun (x1:Bool) =>
  bif (!x1) then
   some true
  else
   (QE n a1).bind fun (x2:Bool) =>
   some (!x2)).bind fun (x3:Bool) =>
 bif x3 then
  some (([]:List PB),false)
 else
  (PR n a0).bind fun (x4:(List O9)) =>
  (Pj a1).bind fun (x5:(List PH)) =>
  (iter n (Rx n) (([]:List PB),x5,x4)).bind fun (x14:((List PB)×(List PH)×(List O9))⊕((List PB)×Bool)) =>
  (match x14 with
  | .inl x15=>(
   some (x15.1,true))
  | .inr x16=>(
   some x16))
def RW (n:Nat) (a0:List O9) (a1_0:Int) (a1_1:List PA) (a2:Int) (a3:List PH):Option ((List O9)×Int×(List PA)×Int) :=
 (show Option (Bool) from
  (P1 n a0).bind fun (x1:Bool) =>
  bif (!x1) then
   some true
  else
   (Px n a1_0 a1_1).bind fun (x2:Bool) =>
   bif (!x2) then
    some true
   else
    (Pr a2 0 99).bind fun (x3:Bool) =>
    bif (!x3) then
     some true
    else
     bif (((List.length a3:Int))==0) then
      some true
     else
      (QE n a3).bind fun (x4:Bool) =>
      bif (!x4) then
       some true
      else
       bif (decide (((List.length a1_1:Int))≥30)) then
        some true
       else
        some (decide (a1_0≥1000000))).bind fun (x5:Bool) =>
 bif x5 then
  (PR n a0).bind fun (x6:(List O9)) =>
  (Pt n a1_0 a1_1).bind fun (x7:Pg) =>
  some (x6,x7.1,x7.2,0)
 else
  (QU n a0 a3).bind fun (x8:(List PB)×Bool) =>
  (Qx n a0 x8.1).bind fun (x9:(List O9)×Bool) =>
  (show Option (Bool) from
   bif (!x8.2) then
    some true
   else
    some (!x9.2)).bind fun (x10:Bool) =>
  bif x10 then
   (PR n a0).bind fun (x11:(List O9)) =>
   (Pt n a1_0 a1_1).bind fun (x12:Pg) =>
   some (x11,x12.1,x12.2,0)
  else
   (Pt n a1_0 a1_1).bind fun (x13:Pg) =>
   (Pj a3).bind fun (x14:(List PH)) =>
   bif (decide (List.length x13.2+List.length [(a1_0,a2,x14,x8.1,1)]≤DZ)) then
    some (x9.1,(Pe (x13.1+1)),(x13.2++[(a1_0,a2,x14,x8.1,1)]),a1_0)
   else
    none
def Qn (x2:O9) (x3:O9) (x5:Int):Option ((Int)⊕((Int)⊕(Bool))) :=
 bif (decide (x5<((List.length x2.2.2:Int)))) then
  ((ND x2.2.2 x5)).bind fun (x6:PB) =>
  ((ND x3.2.2 x5)).bind fun (x7:PB) =>
  bif (!((x6.1==x7.1)&&((x6.2.1==x7.2.1)&&((x6.2.2==x7.2.2)&&true)))) then
   some (.inr (.inr false))
  else
   some (.inl (Pe (x5+1)))
 else
  some (.inr (.inl x5))
def Qm (n:Nat) (a0:List O9) (a1:List O9) (x1:Int):Option ((Int)⊕((Int)⊕(Bool))) :=
 bif (decide (x1<((List.length a0:Int)))) then
  ((ND a0 x1)).bind fun (x2:O9) =>
  ((ND a1 x1)).bind fun (x3:O9) =>
  (show Option (Bool) from
   bif (x2.1 != x3.1) then
    some true
   else
    bif (x2.2.1 != x3.2.1) then
     some true
    else
     some (((List.length x2.2.2:Int)) != ((List.length x3.2.2:Int)))).bind fun (x4:Bool) =>
  bif x4 then
   some (.inr (.inr false))
  else
   (iter n (Qn x2 x3) 0).bind fun (x8:(Int)⊕(Bool)) =>
   (match x8 with
   | .inl x9=>(
    some (.inl (Pe (x1+1))))
   | .inr x10=>(
    some (.inr (.inr x10))))
 else
  some (.inr (.inl x1))
def QQ (n:Nat) (a0:List O9) (a1:List O9):Option (Bool) :=
 bif (((List.length a0:Int)) != ((List.length a1:Int))) then
  some false
 else
  (iter n (Qm n a0 a1) 0).bind fun (x11:(Int)⊕(Bool)) =>
  (match x11 with
  | .inl x12=>(
   some true)
  | .inr x13=>(
   some x13))
def QC (a0_1:List PA) (a1:Int) (x1:Int):Option ((Int)⊕((Int)⊕(Int))) :=
 bif (decide (x1<((List.length a0_1:Int)))) then
  ((ND a0_1 x1)).bind fun (x2:PA) =>
  bif (x2.1==a1) then
   some (.inr (.inr x1))
  else
   some (.inl (Pe (x1+1)))
 else
  some (.inr (.inl x1))
def Pv (n:Nat) (a0_0:Int) (a0_1:List PA) (a1:Int):Option (Int) :=
 (iter n (QC a0_1 a1) 0).bind fun (x3:(Int)⊕(Int)) =>
 (match x3 with
 | .inl x4=>(
  some (-1))
 | .inr x5=>(
  some x5))
def Rh (n:Nat) (a0_0:Int) (a0_1:List PA) (a1:Int):Option (Int×Int×(List PH)×(List PB)×Int×Bool) :=
 (Pv n a0_0 a0_1 a1).bind fun (x1:Int) =>
 bif (decide (x1<0)) then
  some (0,0,([]:List PH),([]:List PB),0,false)
 else
  ((ND a0_1 x1)).bind fun (x2:PA) =>
  (QP x2.1 x2.2.1 x2.2.2.1 x2.2.2.2.1 x2.2.2.2.2).bind fun (x3:PA) =>
  some (x3.1,x3.2.1,x3.2.2.1,x3.2.2.2.1,x3.2.2.2.2,true)
def SD (n:Nat) (a0:List O9) (a1:Int) (x2:PH):Option ((PH)⊕(PH)) :=
 bif (decide (x2.2<((List.length a0:Int)))) then
  (show Option (Int) from
   ((ND a0 x2.2)).bind fun (x4:O9) =>
   (QV n x4.1 x4.2.1 x4.2.2 a1).bind fun (x5:Int×Bool) =>
   bif x5.2 then
    ((ND x4.2.2 x5.1)).bind fun (x6:PB) =>
    ((ND x4.2.2 x5.1)).bind fun (x7:PB) =>
    some (Pe (x2.1+(Pe (x6.2.1 - x7.2.2))))
   else
    some x2.1).bind fun (x3:Int) =>
  some (.inl (x3,(Pe (x2.2+1))))
 else
  some (.inr (x2.1,x2.2))
def SH (n:Nat) (a0:List O9) (a1:Int):Option (Int) :=
 (P1 n a0).bind fun (x1:Bool) =>
 bif (!x1) then
  some 0
 else
  (iter n (SD n a0 a1) (0,0)).bind fun (x8:PH) =>
  some x8.1
def Qq (n:Nat) (a0_0:Int) (a0_1:List PA) (a1:Int) (a2:Int):Option (Int×(List PA)×Bool) :=
 (Pt n a0_0 a0_1).bind fun (x1:Pg) =>
 (Pv n a0_0 a0_1 a1).bind fun (x2:Int) =>
 (show Option (Bool) from
  (Px n a0_0 a0_1).bind fun (x3:Bool) =>
  bif (!x3) then
   some true
  else
   bif (decide (x2<0)) then
    some true
   else
    ((ND a0_1 x2)).bind fun (x4:PA) =>
    some (x4.2.2.2.2 != 1)).bind fun (x5:Bool) =>
 bif x5 then
  some (x1.1,x1.2,false)
 else
  bif (Of x1.2 x2) then
   some (x1.1,(List.modify x1.2 (Int.toNat x2) (fun (y:PA)=>(y.1,y.2.1,y.2.2.1,y.2.2.2.1,a2))),true)
  else
   none
def Ri (n:Nat) (a0:List O9) (a1:Int) (a2:Int) (a3:Int):Option ((List O9)×Int) :=
 (Pr a3 1 1000).bind fun (x1:Bool) =>
 bif (!x1) then
  (PR n a0).bind fun (x2:(List O9)) =>
  some (x2,1)
 else
  (RX n a0 a1 a2 a3 (IntKind.wrap .i64 (N1 a3))).bind fun (x3:(List O9)×Int) =>
  some (x3.1,x3.2)
def QF (n:Nat) (a0:List O9) (a1:List PB) (x2:Int×(List O9)×(List O9)):Option ((Int×(List O9)×(List O9))⊕((Int×(List O9)×(List O9))⊕((List O9)×Bool))) :=
 bif (decide (x2.1<((List.length a1:Int)))) then
  ((ND a1 x2.1)).bind fun (x3:PB) =>
  (Ri n x2.2.2 x3.1 x3.2.1 x3.2.2).bind fun (x4:(List O9)×Int) =>
  bif (x4.2 != 0) then
   (PR n a0).bind fun (x5:(List O9)) =>
   some (.inr (.inr (x5,false)))
  else
   some (.inl ((Pe (x2.1+1)),x2.2.1,x4.1))
 else
  some (.inr (.inl (x2.1,x2.2.1,x2.2.2)))
def Ql (n:Nat) (a0:List O9) (a1:List PB):Option ((List O9)×Bool) :=
 (PR n a0).bind fun (x1:(List O9)) =>
 (iter n (QF n a0 a1) (0,([]:List O9),x1)).bind fun (x6:(Int×(List O9)×(List O9))⊕((List O9)×Bool)) =>
 (match x6 with
 | .inl x7=>(
  some (x7.2.2,true))
 | .inr x8=>(
  some x8))
def Qa (n:Nat) (a0:List O9) (a1:List PB):Option ((List O9)×Bool) :=
 (Ql n a0 a1).bind fun (x1:(List O9)×Bool) =>
 some (x1.1,x1.2)
def P3 (n:Nat) (a0:List O9) (a1_0:Int) (a1_1:List PA) (a2:Int):Option ((List O9)×Int×(List PA)×Bool) :=
 (Qq n a1_0 a1_1 a2 3).bind fun (x1:Int×(List PA)×Bool) =>
 bif (!x1.2.2) then
  (PR n a0).bind fun (x2:(List O9)) =>
  some (x2,x1.1,x1.2.1,false)
 else
  (Pv n a1_0 a1_1 a2).bind fun (x3:Int) =>
  ((ND a1_1 x3)).bind fun (x4:PA) =>
  (Qa n a0 x4.2.2.2.1).bind fun (x5:(List O9)×Bool) =>
  bif (!x5.2) then
   (PR n a0).bind fun (x6:(List O9)) =>
   (Pt n a1_0 a1_1).bind fun (x7:Pg) =>
   some (x6,x7.1,x7.2,false)
  else
   some (x5.1,x1.1,x1.2.1,true)
def R4 (n:Nat) (a0_0:Int) (a0_1:List PA) (a1:Int):Option (Int×(List PA)×Bool) :=
 (Qq n a0_0 a0_1 a1 2).bind fun (x1:Int×(List PA)×Bool) =>
 some (x1.1,x1.2.1,x1.2.2)
def P7 (n:Nat) (x2:(List O9)×Int×(List PA)×Int×(List PH)) (x3:(List O9)×Int×(List PA)×Int) (x11:Int):Option ((Int)⊕((Int)⊕(Bool))) :=
 bif (decide (x11<((List.length x2.2.2.2.2:Int)))) then
  bif (Of x2.2.2.2.2 x11) then
   ((x2.2.2.2.2[(Int.toNat x11)]?)).bind fun (x12:PH) =>
   (SH n x3.1 x12.1).bind fun (x13:Int) =>
   bif (Of x2.2.2.2.2 x11) then
    ((x2.2.2.2.2[(Int.toNat x11)]?)).bind fun (x14:PH) =>
    (SH n x2.1 x14.1).bind fun (x15:Int) =>
    bif (Of x2.2.2.2.2 x11) then
     ((x2.2.2.2.2[(Int.toNat x11)]?)).bind fun (x16:PH) =>
     bif (x13 != (Pe (x15 - x16.2))) then
      some (.inr (.inr false))
     else
      some (.inl (Pe (x11+1)))
    else
     none
   else
    none
  else
   none
 else
  some (.inr (.inl x11))
def RL (n:Nat) (a0:List Int):Option (Bool) :=
 (Tk a0).bind fun (x1:Bool) =>
 bif x1 then
  some true
 else
  (Qd n a0).bind fun (x2:(List O9)×Int×(List PA)×Int×(List PH)) =>
  (RW n x2.1 x2.2.1 x2.2.2.1 x2.2.2.2.1 x2.2.2.2.2).bind fun (x3:(List O9)×Int×(List PA)×Int) =>
  (QH n x2.1 x2.2.1 x2.2.2.1 x2.2.2.2.1 x2.2.2.2.2).bind fun (x4:(List O9)×Int×(List PA)×Int) =>
  bif (x3.2.2.2 != x4.2.2.2) then
   some false
  else
   bif (x3.2.2.2==0) then
    (show Option (Bool) from
     (QQ n x3.1 x2.1).bind fun (x5:Bool) =>
     bif x5 then
      bif (((List.length x3.2.2.1:Int))==((List.length x2.2.2.1:Int))) then
       some (x3.2.1==x2.2.1)
      else
       some false
     else
      some false).bind fun (x6:Bool) =>
    some x6
   else
    (Rh n x3.2.1 x3.2.2.1 x3.2.2.2).bind fun (x7:Int×Int×(List PH)×(List PB)×Int×Bool) =>
    (show Option (Bool) from
     bif (!x7.2.2.2.2.2) then
      some true
     else
      bif (x3.2.2.2 != x2.2.1) then
       some true
      else
       bif (x3.2.1 != (Pe (x2.2.1+1))) then
        some true
       else
        bif (x7.2.2.2.2.1 != 1) then
         some true
        else
         bif (x7.2.1 != x2.2.2.2.1) then
          some true
         else
          (Px n x3.2.1 x3.2.2.1).bind fun (x8:Bool) =>
          bif (!x8) then
           some true
          else
           (P1 n x3.1).bind fun (x9:Bool) =>
           some (!x9)).bind fun (x10:Bool) =>
    bif x10 then
     some false
    else
     (iter n (P7 n x2 x3) 0).bind fun (x17:(Int)⊕(Bool)) =>
     (match x17 with
     | .inl x18=>(
      (P3 n x3.1 x3.2.1 x3.2.2.1 x3.2.2.2).bind fun (x20:(List O9)×Int×(List PA)×Bool) =>
      (P3 n x20.1 x20.2.1 x20.2.2.1 x3.2.2.2).bind fun (x21:(List O9)×Int×(List PA)×Bool) =>
      (R4 n x20.2.1 x20.2.2.1 x3.2.2.2).bind fun (x22:Int×(List PA)×Bool) =>
      (show Option (Bool) from
       bif x20.2.2.2 then
        (QQ n x20.1 x2.1).bind fun (x23:Bool) =>
        bif x23 then
         bif (!x21.2.2.2) then
          some (!x22.2.2)
         else
          some false
        else
         some false
       else
        some false).bind fun (x24:Bool) =>
      some x24)
     | .inr x19=>(
      some x19))
end Go.Ev.N
