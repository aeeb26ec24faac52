/- The native forms of the functions,as gen.py prints them. Conditions: none. -/
import Derived.Test.YtglbgceejloiaaaLib4
namespace Go.Ev.N
open Go Go.Ev
set_option linter.unusedVariables false
def PL (n:Int):Int:=IntKind.wrap .i64 n
abbrev gI:=(List UInt8)×Int
abbrev RL:=Int×Int
abbrev PH:=Int×Int×Int
abbrev eU:=Int×Int×Bool×Int
abbrev PD:=Int×Int×Int×Int
abbrev PC:=Int×Int×Int×Bool×Int
abbrev TH:=Int×Int×(List Int)
abbrev PA:=Int×Int×(List PH)
abbrev Ut:=(List Int)×Int×Int
abbrev O9:=Int×Int×(List RL)×(List PH)×Int
abbrev Ue:=Int×(List O9)
abbrev PQ:=Int×Int×(List Int)×(List PA)×Int×(List O9)×(List PC)×(List PD)×(List Int)×(List Int)×Int
def Sc (a0:List Int):Option (Bool) :=
 some (decide (((List.length a0:Int))>1048576))
def Q9 (a0:List Int) (x1:RL):Option ((RL)⊕(RL)) :=
 (show Option (Bool) from
  bif (decide (x1.2<((List.length a0:Int)))) then
   some (decide (x1.2<4000))
  else
   some false).bind fun (x2:Bool) =>
 bif x2 then
  ((ND a0 x1.2)).bind fun (x3:Int) =>
  some (.inl ((OO .i64 (PL ((PL ((PL (x1.1 * 137))+(PL x3)))+11)) 1073741823),(PL (x1.2+1))))
 else
  some (.inr (x1.1,x1.2))
def RZ (n:Nat) (a0:List Int):Option (Ut) :=
 (iter n (Q9 a0) ((PL (275275+((List.length a0:Int)))),0)).bind fun (x4:RL) =>
 some (a0,0,x4.1)
def Pz (a0_0:List Int) (a0_1:Int) (a0_2:Int):Option (Int×(List Int)×Int×Int) :=
 bif (decide (0≤33)) then
  bif (decide (0≤47)) then
   (show Option (Int×(List Int)×Int×Int) from
    bif (decide (a0_1<((List.length a0_0:Int)))) then
     ((ND a0_0 a0_1)).bind fun (x2:Int) =>
     some ((OO .i64 (PL ((OO .i64 (Oa .i64 (OD .i64 (PL ((PL (a0_2 * 6364136223846793005))+1442695040888963407)) 33) (OD .i64 (PL ((PL (a0_2 * 6364136223846793005))+1442695040888963407)) 47)) 255)+(PL x2))) 255),a0_0,(PL (a0_1+1)),(PL ((PL (a0_2 * 6364136223846793005))+1442695040888963407)))
    else
     some ((OO .i64 (Oa .i64 (OD .i64 (PL ((PL (a0_2 * 6364136223846793005))+1442695040888963407)) 33) (OD .i64 (PL ((PL (a0_2 * 6364136223846793005))+1442695040888963407)) 47)) 255),a0_0,a0_1,(PL ((PL (a0_2 * 6364136223846793005))+1442695040888963407)))).bind fun (x1:Int×(List Int)×Int×Int) =>
   some (x1.1,x1.2.1,x1.2.2.1,x1.2.2.2)
  else
   none
 else
  none
def PK (a0_0:List Int) (a0_1:Int) (a0_2:Int) (a1:Int):Option (Int×(List Int)×Int×Int) :=
 bif (decide (a1≤0)) then
  some (0,a0_0,a0_1,a0_2)
 else
  bif (decide (a1≤256)) then
   (Pz a0_0 a0_1 a0_2).bind fun (x1:Int×(List Int)×Int×Int) =>
   bif (a1==0) then
    none
   else
    some ((Int.tmod x1.1 a1),x1.2.1,x1.2.2.1,x1.2.2.2)
  else
   (Pz a0_0 a0_1 a0_2).bind fun (x2:Int×(List Int)×Int×Int) =>
   (Pz x2.2.1 x2.2.2.1 x2.2.2.2).bind fun (x3:Int×(List Int)×Int×Int) =>
   (Pz x3.2.1 x3.2.2.1 x3.2.2.2).bind fun (x4:Int×(List Int)×Int×Int) =>
   bif (a1==0) then
    none
   else
    some ((Int.tmod (PL ((PL ((PL (x2.1 * 65536))+(PL (x3.1 * 256))))+x4.1)) a1),x4.2.1,x4.2.2.1,x4.2.2.2)
def Pg (a0_0:List Int) (a0_1:Int) (a0_2:Int) (a1:Int):Option (Bool×(List Int)×Int×Int) :=
 (PK a0_0 a0_1 a0_2 a1).bind fun (x1:Int×(List Int)×Int×Int) =>
 some ((x1.1==0),x1.2.1,x1.2.2.1,x1.2.2.2)
def Ra (a0_0:List Int) (a0_1:Int) (a0_2:Int) (a1:List ((List UInt8))):Option ((List UInt8)×(List Int)×Int×Int) :=
 (PK a0_0 a0_1 a0_2 ((List.length a1:Int))).bind fun (x1:Int×(List Int)×Int×Int) =>
 ((ND a1 x1.1)).bind fun (x2:(List UInt8)) =>
 some (x2,x1.2.1,x1.2.2.1,x1.2.2.2)
def R8 (a0:List UInt8) (a1:Int) (x1:(List ((List UInt8)))×Int×Int):Option (((List ((List UInt8)))×Int×Int)⊕((List ((List UInt8)))×Int×Int)) :=
 bif (decide (x1.2.2≤((List.length a0:Int)))) then
  (show Option ((List ((List UInt8)))×Int) from
   (show Option (Bool) from
    bif (x1.2.2==((List.length a0:Int))) then
     some true
    else
     ((ND a0 x1.2.2)).bind fun (x3:UInt8) =>
     some (((x3.toNat:Int))==a1)).bind fun (x4:Bool) =>
   bif x4 then
    bif (decide (0≤x1.2.1)&&decide (x1.2.1≤x1.2.2)&&decide (x1.2.2≤((List.length a0:Int)))) then
     bif (decide (List.length x1.1+List.length [(sub a0 (Int.toNat x1.2.1) (Int.toNat x1.2.2))]≤DZ)) then
      some ((x1.1++[(sub a0 (Int.toNat x1.2.1) (Int.toNat x1.2.2))]),(PL (x1.2.2+1)))
     else
      none
    else
     none
   else
    some (x1.1,x1.2.1)).bind fun (x2:(List ((List UInt8)))×Int) =>
  some (.inl (x2.1,x2.2,(PL (x1.2.2+1))))
 else
  some (.inr (x1.1,x1.2.1,x1.2.2))
def Qy (n:Nat) (a0:List UInt8) (a1:Int):Option ((List ((List UInt8)))) :=
 (iter n (R8 a0 a1) (([]:List ((List UInt8))),0,0)).bind fun (x5:(List ((List UInt8)))×Int×Int) =>
 some x5.1
def Pb (a0:Int) (a1:Int) (a2:Int):Option (Bool) :=
 (show Option (Bool) from
  bif (decide (a0≥a1)) then
   some (decide (a0≤a2))
  else
   some false).bind fun (x1:Bool) =>
 some x1
def SH (a0:Int) (x1:Int):Option ((Int)⊕((Int)⊕(Int))) :=
 bif (decide (x1<5)) then
  ((ND ([35,46,112,115,99]:List UInt8) x1)).bind fun (x2:UInt8) =>
  bif (((x2.toNat:Int))==a0) then
   some (.inr (.inr x1))
  else
   some (.inl (PL (x1+1)))
 else
  some (.inr (.inl x1))
def RF (n:Nat) (a0:Int):Option (Int) :=
 (iter n (SH a0) 0).bind fun (x3:(Int)⊕(Int)) =>
 (match x3 with
 | .inl x4=>(
  some (-1))
 | .inr x5=>(
  some x5))
def Qe (n:Nat) (x1:(List ((List UInt8)))) (x3:Int×Int×Int×(List Int)×Int×Int×(List Int)) (x10:Int×Int×Int×(List Int)×Int×Int×(List Int)):Option ((Int×Int×Int×(List Int)×Int×Int×(List Int))⊕((Int×Int×Int×(List Int)×Int×Int×(List Int))⊕(Int×Int×(List Int)×Int))) :=
 bif (Of x1 x3.1) then
  ((x1[(Int.toNat x3.1)]?)).bind fun (x11:(List UInt8)) =>
  bif (decide (x10.1<((List.length x11:Int)))) then
   bif (Of x1 x3.1) then
    ((x1[(Int.toNat x3.1)]?)).bind fun (x12:(List UInt8)) =>
    ((ND x12 x10.1)).bind fun (x13:UInt8) =>
    (RF n ((x13.toNat:Int))).bind fun (x14:Int) =>
    bif (decide (x14<0)) then
     some (.inr (.inr (0,0,([]:List Int),x3.1)))
    else
     bif (decide (List.length x10.2.2.2.2.2.2+List.length [x14]≤DZ)) then
      some (.inl ((PL (x10.1+1)),x10.2.1,x10.2.2.1,x10.2.2.2.1,x10.2.2.2.2.1,x10.2.2.2.2.2.1,(x10.2.2.2.2.2.2++[x14])))
     else
      none
   else
    none
  else
   some (.inr (.inl (x10.1,x10.2.1,x10.2.2.1,x10.2.2.2.1,x10.2.2.2.2.1,x10.2.2.2.2.2.1,x10.2.2.2.2.2.2)))
 else
  none
def Qd (n:Nat) (x1:(List ((List UInt8)))) (x3:Int×Int×Int×(List Int)×Int×Int×(List Int)):Option ((Int×Int×Int×(List Int)×Int×Int×(List Int))⊕((Int×Int×Int×(List Int)×Int×Int×(List Int))⊕(Int×Int×(List Int)×Int))) :=
 bif (decide (x3.1<((List.length x1:Int)))) then
  (show Option (Bool) from
   bif (x3.1==(PL (((List.length x1:Int)) - 1))) then
    bif (Of x1 x3.1) then
     ((x1[(Int.toNat x3.1)]?)).bind fun (x4:(List UInt8)) =>
     bif (x4==([]:List UInt8)) then
      some (decide (x3.1>0))
     else
      some false
    else
     none
   else
    some false).bind fun (x5:Bool) =>
  bif x5 then
   some (.inr (.inl (x3.1,x3.2.1,x3.2.2.1,x3.2.2.2.1,x3.2.2.2.2.1,x3.2.2.2.2.2.1,x3.2.2.2.2.2.2)))
  else
   (show Option (Bool) from
    bif (x3.1==(PL (((List.length x1:Int)) - 1))) then
     some true
    else
     bif (x3.1==10) then
      some true
     else
      bif (Of x1 x3.1) then
       ((x1[(Int.toNat x3.1)]?)).bind fun (x6:(List UInt8)) =>
       (Pb ((List.length x6:Int)) 1 10).bind fun (x7:Bool) =>
       bif (!x7) then
        some true
       else
        bif (Of x1 x3.1) then
         ((x1[(Int.toNat x3.1)]?)).bind fun (x8:(List UInt8)) =>
         some (((List.length x8:Int)) != x3.2.2.2.2.1)
        else
         none
      else
       none).bind fun (x9:Bool) =>
   bif x9 then
    some (.inr (.inr (0,0,([]:List Int),x3.1)))
   else
    (iter n (Qe n x1 x3) (0,x3.2.1,x3.2.2.1,x3.2.2.2.1,x3.2.2.2.2.1,x3.2.2.2.2.2.1,x3.2.2.2.2.2.2)).bind fun (x15:(Int×Int×Int×(List Int)×Int×Int×(List Int))⊕(Int×Int×(List Int)×Int)) =>
    (match x15 with
    | .inl x16=>(
     some (.inl ((PL (x3.1+1)),x16.2.1,x16.2.2.1,x16.2.2.2.1,x16.2.2.2.2.1,(PL (x16.2.2.2.2.2.1+1)),x16.2.2.2.2.2.2)))
    | .inr x17=>(
     some (.inr (.inr x17))))
 else
  some (.inr (.inl (x3.1,x3.2.1,x3.2.2.1,x3.2.2.2.1,x3.2.2.2.2.1,x3.2.2.2.2.2.1,x3.2.2.2.2.2.2)))
def Pd (n:Nat) (a0:List UInt8):Option (Int×Int×(List Int)×Int) :=
 (Qy n a0 10).bind fun (x1:(List ((List UInt8)))) =>
 bif (Of x1 0) then
  ((x1[(Int.toNat 0)]?)).bind fun (x2:(List UInt8)) =>
  (iter n (Qd n x1) (0,0,0,([]:List Int),((List.length x2:Int)),0,([]:List Int))).bind fun (x18:(Int×Int×Int×(List Int)×Int×Int×(List Int))⊕(Int×Int×(List Int)×Int)) =>
  (match x18 with
  | .inl x19=>(
   some (x19.2.2.2.2.1,x19.2.2.2.2.2.1,x19.2.2.2.2.2.2,(-1)))
  | .inr x20=>(
   some x20))
 else
  none
def PX (a0_0:List Int) (a0_1:Int) (a0_2:Int) (a1:List Int):Option (Int×(List Int)×Int×Int) :=
 (PK a0_0 a0_1 a0_2 ((List.length a1:Int))).bind fun (x1:Int×(List Int)×Int×Int) =>
 ((ND a1 x1.1)).bind fun (x2:Int) =>
 some (x2,x1.2.1,x1.2.2.1,x1.2.2.2)
def R7 (x6:Int×(List Int)×Int×Int×Int×Int×(List Int)):Option ((Int×(List Int)×Int×Int×Int×Int×(List Int))⊕(Int×(List Int)×Int×Int×Int×Int×(List Int))) :=
 bif (decide (x6.1<(PL (x6.2.2.2.2.1 * x6.2.2.2.2.2.1)))) then
  (PX x6.2.1 x6.2.2.1 x6.2.2.2.1 ([1,1,1,1,1,1,0,2,3,4])).bind fun (x7:Int×(List Int)×Int×Int) =>
  bif (decide (List.length x6.2.2.2.2.2.2+List.length [x7.1]≤DZ)) then
   some (.inl ((PL (x6.1+1)),x7.2.1,x7.2.2.1,x7.2.2.2,x6.2.2.2.2.1,x6.2.2.2.2.2.1,(x6.2.2.2.2.2.2++[x7.1])))
  else
   none
 else
  some (.inr (x6.1,x6.2.1,x6.2.2.1,x6.2.2.2.1,x6.2.2.2.2.1,x6.2.2.2.2.2.1,x6.2.2.2.2.2.2))
def Qx (n:Nat) (a0_0:List Int) (a0_1:Int) (a0_2:Int):Option (Int×Int×(List Int)×(List Int)×Int×Int) :=
 (Pg a0_0 a0_1 a0_2 3).bind fun (x1:Bool×(List Int)×Int×Int) =>
 bif x1.1 then
  (Ra x1.2.1 x1.2.2.1 x1.2.2.2 ([([99,46,46,46,46,46,10,46,112,112,46,112,46,10,46,112,112,46,112,46,10,46,46,46,46,46,115,10]:List UInt8),([99,46,46,10,46,46,46,10,46,46,115,10]:List UInt8),([46,46,46,46,46,10,46,112,35,112,46,10,46,46,115,46,46,10,46,112,35,112,46,10,99,46,46,46,99,10]:List UInt8),([46,46,46,35,46,46,46,10,46,46,46,46,46,46,46,10,46,46,46,35,46,46,46,10]:List UInt8),([99,46,46,46,46,46,46,46,10,46,112,46,112,46,112,46,46,10,46,46,46,46,46,46,46,115,10,46,112,46,112,46,112,46,46,10,99,46,46,46,46,46,46,115,10]:List UInt8),([46,46,10,46,46,10]:List UInt8),([99,46,35,46,115,10,46,46,35,46,46,10]:List UInt8)])).bind fun (x2:(List UInt8)×(List Int)×Int×Int) =>
  (Pd n x2.1).bind fun (x3:Int×Int×(List Int)×Int) =>
  some (x3.1,x3.2.1,x3.2.2.1,x2.2.1,x2.2.2.1,x2.2.2.2)
 else
  (PK x1.2.1 x1.2.2.1 x1.2.2.2 7).bind fun (x4:Int×(List Int)×Int×Int) =>
  (PK x4.2.1 x4.2.2.1 x4.2.2.2 6).bind fun (x5:Int×(List Int)×Int×Int) =>
  (iter n (R7) (0,x5.2.1,x5.2.2.1,x5.2.2.2,(PL (1+x4.1)),(PL (1+x5.1)),([]:List Int))).bind fun (x8:Int×(List Int)×Int×Int×Int×Int×(List Int)) =>
  some (x8.2.2.2.2.1,x8.2.2.2.2.2.1,x8.2.2.2.2.2.2,x8.2.1,x8.2.2.1,x8.2.2.2.1)
def Qh (a0_0:Int) (a0_1:Int) (a0_2:List Int):Option (TH) :=
 bif (decide (List.length ([]:List Int)+List.length a0_2≤DZ)) then
  some (a0_0,a0_1,(([]:List Int)++a0_2))
 else
  none
def P4 (n:Nat) (a0_0:List Int) (a0_1:Int) (a0_2:Int):Option (Int×Int×(List Int)×(List Int)×Int×Int) :=
 (Qx n a0_0 a0_1 a0_2).bind fun (x1:Int×Int×(List Int)×(List Int)×Int×Int) =>
 (show Option ((List Int)×Int×Int×Int×Int×(List Int)) from
  (PK x1.2.2.2.1 x1.2.2.2.2.1 x1.2.2.2.2.2 14).bind fun (x3:Int×(List Int)×Int×Int) =>
  bif (x3.1==0) then
   (PX x3.2.1 x3.2.2.1 x3.2.2.2 ([0,11,(-1),(PL (x1.1+1))])).bind fun (x4:Int×(List Int)×Int×Int) =>
   some (x4.2.1,x4.2.2.1,x4.2.2.2,x4.1,x1.2.1,x1.2.2.1)
  else
   bif (x3.1==1) then
    bif (decide (List.length ([]:List Int)+List.length x1.2.2.1≤DZ)) then
     bif (decide (List.length (([]:List Int)++x1.2.2.1)+List.length [1]≤DZ)) then
      some (x3.2.1,x3.2.2.1,x3.2.2.2,x1.1,x1.2.1,((([]:List Int)++x1.2.2.1)++[1]))
     else
      none
    else
     none
   else
    bif (x3.1==2) then
     (Qh x1.1 x1.2.1 x1.2.2.1).bind fun (x5:TH) =>
     (PX x3.2.1 x3.2.2.1 x3.2.2.2 ([(-1),5])).bind fun (x6:Int×(List Int)×Int×Int) =>
     bif (Of x5.2.2 0) then
      some (x6.2.1,x6.2.2.1,x6.2.2.2,x5.1,x5.2.1,(CV x5.2.2 (Int.toNat 0) x6.1))
     else
      none
    else
     some (x3.2.1,x3.2.2.1,x3.2.2.2,x1.1,x1.2.1,x1.2.2.1)).bind fun (x2:(List Int)×Int×Int×Int×Int×(List Int)) =>
 some (x2.2.2.2.1,x2.2.2.2.2.1,x2.2.2.2.2.2,x2.1,x2.2.1,x2.2.2.1)
def Py (x4:Int×(List Int)×Int×Int×Int×Int×(List PH)):Option ((Int×(List Int)×Int×Int×Int×Int×(List PH))⊕(Int×(List Int)×Int×Int×Int×Int×(List PH))) :=
 bif (decide (x4.1<6)) then
  (show Option ((List Int)×Int×Int×Int×Int×(List PH)) from
   (PX x4.2.1 x4.2.2.1 x4.2.2.2.1 ([0,0,1,3,5,12])).bind fun (x6:Int×(List Int)×Int×Int) =>
   bif (decide (x6.1>0)) then
    (PK x6.2.1 x6.2.2.1 x6.2.2.2 (PL (x6.1+1))).bind fun (x7:Int×(List Int)×Int×Int) =>
    (PX x7.2.1 x7.2.2.1 x7.2.2.2 ([0,0,0,x7.1])).bind fun (x8:Int×(List Int)×Int×Int) =>
    bif (decide (List.length x4.2.2.2.2.2.2+List.length [(x4.1,x6.1,x8.1)]≤DZ)) then
     some (x8.2.1,x8.2.2.1,x8.2.2.2,x4.2.2.2.2.1,x4.2.2.2.2.2.1,(x4.2.2.2.2.2.2++[(x4.1,x6.1,x8.1)]))
    else
     none
   else
    some (x6.2.1,x6.2.2.1,x6.2.2.2,x4.2.2.2.2.1,x4.2.2.2.2.2.1,x4.2.2.2.2.2.2)).bind fun (x5:(List Int)×Int×Int×Int×Int×(List PH)) =>
  some (.inl ((PL (x4.1+1)),x5.1,x5.2.1,x5.2.2.1,x5.2.2.2.1,x5.2.2.2.2.1,x5.2.2.2.2.2))
 else
  some (.inr (x4.1,x4.2.1,x4.2.2.1,x4.2.2.2.1,x4.2.2.2.2.1,x4.2.2.2.2.2.1,x4.2.2.2.2.2.2))
def QI (n:Nat) (x1:Int×(List Int)×Int×Int×(List PA)):Option ((Int×(List Int)×Int×Int×(List PA))⊕(Int×(List Int)×Int×Int×(List PA))) :=
 bif (decide (x1.1<6)) then
  (show Option ((List Int)×Int×Int×(List PA)) from
   (Pg x1.2.1 x1.2.2.1 x1.2.2.2.1 4).bind fun (x3:Bool×(List Int)×Int×Int) =>
   bif x3.1 then
    some (x3.2.1,x3.2.2.1,x3.2.2.2,x1.2.2.2.2)
   else
    (iter n (Py) (1,x3.2.1,x3.2.2.1,x3.2.2.2,(PL (x1.1 * 10)),(PL (20 - x1.1)),([]:List PH))).bind fun (x9:Int×(List Int)×Int×Int×Int×Int×(List PH)) =>
    bif (decide (List.length x1.2.2.2.2+List.length [(x9.2.2.2.2.1,x9.2.2.2.2.2.1,x9.2.2.2.2.2.2)]≤DZ)) then
     some (x9.2.1,x9.2.2.1,x9.2.2.2.1,(x1.2.2.2.2++[(x9.2.2.2.2.1,x9.2.2.2.2.2.1,x9.2.2.2.2.2.2)]))
    else
     none).bind fun (x2:(List Int)×Int×Int×(List PA)) =>
  some (.inl ((PL (x1.1+1)),x2.1,x2.2.1,x2.2.2.1,x2.2.2.2))
 else
  some (.inr (x1.1,x1.2.1,x1.2.2.1,x1.2.2.2.1,x1.2.2.2.2))
def RH (n:Nat) (a0_0:List Int) (a0_1:Int) (a0_2:Int):Option ((List PA)×(List Int)×Int×Int) :=
 (iter n (QI n) (1,a0_0,a0_1,a0_2,([]:List PA))).bind fun (x10:Int×(List Int)×Int×Int×(List PA)) =>
 some (x10.2.2.2.2,x10.2.1,x10.2.2.1,x10.2.2.2.1)
def Qz (a0:List PA) (x1:Int×(List PA)):Option ((Int×(List PA))⊕(Int×(List PA))) :=
 bif (decide (x1.1<((List.length a0:Int)))) then
  ((ND a0 x1.1)).bind fun (x2:PA) =>
  bif (decide (List.length ([]:List PH)+List.length x2.2.2≤DZ)) then
   bif (decide (List.length x1.2+List.length [(x2.1,x2.2.1,(([]:List PH)++x2.2.2))]≤DZ)) then
    some (.inl ((PL (x1.1+1)),(x1.2++[(x2.1,x2.2.1,(([]:List PH)++x2.2.2))])))
   else
    none
  else
   none
 else
  some (.inr (x1.1,x1.2))
def Qi (n:Nat) (a0:List PA):Option ((List PA)) :=
 (iter n (Qz a0) (0,([]:List PA))).bind fun (x3:Int×(List PA)) =>
 some x3.2
def RG (n:Nat) (a0_0:List Int) (a0_1:Int) (a0_2:Int) (a1:List PA):Option ((List PA)×(List Int)×Int×Int) :=
 (Qi n a1).bind fun (x1:(List PA)) =>
 bif (((List.length x1:Int))==0) then
  some (x1,a0_0,a0_1,a0_2)
 else
  (PK a0_0 a0_1 a0_2 ((List.length x1:Int))).bind fun (x2:Int×(List Int)×Int×Int) =>
  (show Option ((List Int)×Int×Int×(List PA)) from
   (PK x2.2.1 x2.2.2.1 x2.2.2.2 6).bind fun (x4:Int×(List Int)×Int×Int) =>
   bif (x4.1==0) then
    (PX x4.2.1 x4.2.2.1 x4.2.2.2 ([0,1000,10])).bind fun (x5:Int×(List Int)×Int×Int) =>
    bif (Of x1 x2.1) then
     some (x5.2.1,x5.2.2.1,x5.2.2.2,(List.modify x1 (Int.toNat x2.1) (fun (y:PA)=>(x5.1,y.2.1,y.2.2))))
    else
     none
   else
    bif (x4.1==1) then
     (PX x4.2.1 x4.2.2.1 x4.2.2.2 ([(-1),100,19])).bind fun (x6:Int×(List Int)×Int×Int) =>
     bif (Of x1 x2.1) then
      some (x6.2.1,x6.2.2.1,x6.2.2.2,(List.modify x1 (Int.toNat x2.1) (fun (y:PA)=>(y.1,x6.1,y.2.2))))
     else
      none
    else
     bif (x4.1==2) then
      bif (Of x1 x2.1) then
       ((x1[(Int.toNat x2.1)]?)).bind fun (x7:PA) =>
       (PX x4.2.1 x4.2.2.1 x4.2.2.2 ([0,1,1001])).bind fun (x8:Int×(List Int)×Int×Int) =>
       (PK x8.2.1 x8.2.2.1 x8.2.2.2 3).bind fun (x9:Int×(List Int)×Int×Int) =>
       ((x1[(Int.toNat x2.1)]?)).bind fun (x10:PA) =>
       bif (decide (List.length x10.2.2+List.length [(9,x8.1,x9.1)]≤DZ)) then
        bif (Of x1 x2.1) then
         some (x9.2.1,x9.2.2.1,x9.2.2.2,(List.modify x1 (Int.toNat x2.1) (fun (y:PA)=>(y.1,y.2.1,(x10.2.2++[(9,x8.1,x9.1)])))))
        else
         none
       else
        none
      else
       none
     else
      bif (x4.1==3) then
       bif (Of x1 0) then
        ((x1[(Int.toNat 0)]?)).bind fun (x11:PA) =>
        ((x1[(Int.toNat 0)]?)).bind fun (x12:PA) =>
        bif (decide (List.length x1+List.length [(x11.1,x11.2.1,x12.2.2)]≤DZ)) then
         some (x4.2.1,x4.2.2.1,x4.2.2.2,(x1++[(x11.1,x11.2.1,x12.2.2)]))
        else
         none
       else
        none
      else
       some (x4.2.1,x4.2.2.1,x4.2.2.2,x1)).bind fun (x3:(List Int)×Int×Int×(List PA)) =>
  some (x3.2.2.2,x3.1,x3.2.1,x3.2.2.1)
def QH (n:Nat) (a0_0:List Int) (a0_1:Int) (a0_2:Int):Option ((List PA)×(List Int)×Int×Int) :=
 (RH n a0_0 a0_1 a0_2).bind fun (x1:(List PA)×(List Int)×Int×Int) =>
 (show Option ((List Int)×Int×Int×(List PA)) from
  (Pg x1.2.1 x1.2.2.1 x1.2.2.2 8).bind fun (x3:Bool×(List Int)×Int×Int) =>
  bif x3.1 then
   (RG n x3.2.1 x3.2.2.1 x3.2.2.2 x1.1).bind fun (x4:(List PA)×(List Int)×Int×Int) =>
   some (x4.2.1,x4.2.2.1,x4.2.2.2,x4.1)
  else
   some (x3.2.1,x3.2.2.1,x3.2.2.2,x1.1)).bind fun (x2:(List Int)×Int×Int×(List PA)) =>
 some (x2.2.2.2,x2.1,x2.2.1,x2.2.2.1)
def Qb (a0_2:List Int) (x4:Int):Option ((Int)⊕((Int)⊕(Bool))) :=
 bif (decide (x4<((List.length a0_2:Int)))) then
  ((ND a0_2 x4)).bind fun (x5:Int) =>
  (Pb x5 0 4).bind fun (x6:Bool) =>
  bif (!x6) then
   some (.inr (.inr false))
  else
   some (.inl (PL (x4+1)))
 else
  some (.inr (.inl x4))
def Pn (n:Nat) (a0_0:Int) (a0_1:Int) (a0_2:List Int):Option (Bool) :=
 (show Option (Bool) from
  (Pb a0_0 1 10).bind fun (x1:Bool) =>
  bif (!x1) then
   some true
  else
   (Pb a0_1 1 10).bind fun (x2:Bool) =>
   bif (!x2) then
    some true
   else
    some (((List.length a0_2:Int)) != (PL (a0_0 * a0_1)))).bind fun (x3:Bool) =>
 bif x3 then
  some false
 else
  (iter n (Qb a0_2) 0).bind fun (x7:(Int)⊕(Bool)) =>
  (match x7 with
  | .inl x8=>(
   some true)
  | .inr x9=>(
   some x9))
def P3 (n:Nat) (a0_0:Int) (a0_1:Int) (a0_2:List Int) (a1:Int) (x1:(List Int)×Int):Option (((List Int)×Int)⊕((List Int)×Int)) :=
 (show Option (Bool) from
  bif (decide (x1.2<((List.length a0_2:Int)))) then
   (Pn n a0_0 a0_1 a0_2).bind fun (x2:Bool) =>
   some x2
  else
   some false).bind fun (x3:Bool) =>
 bif x3 then
  (show Option ((List Int)) from
   ((ND a0_2 x1.2)).bind fun (x5:Int) =>
   bif (x5==a1) then
    bif (decide (List.length x1.1+List.length [x1.2]≤DZ)) then
     some (x1.1++[x1.2])
    else
     none
   else
    some x1.1).bind fun (x4:(List Int)) =>
  some (.inl (x4,(PL (x1.2+1))))
 else
  some (.inr (x1.1,x1.2))
def QN (n:Nat) (a0_0:Int) (a0_1:Int) (a0_2:List Int) (a1:Int):Option ((List Int)) :=
 (iter n (P3 n a0_0 a0_1 a0_2 a1) (([]:List Int),0)).bind fun (x6:(List Int)×Int) =>
 some x6.1
def RK (x5:Int×(List Int)×Int×Int×Int×Int×(List PH)):Option ((Int×(List Int)×Int×Int×Int×Int×(List PH))⊕(Int×(List Int)×Int×Int×Int×Int×(List PH))) :=
 bif (decide (x5.1<5)) then
  (show Option ((List Int)×Int×Int×Int×Int×(List PH)) from
   (PX x5.2.1 x5.2.2.1 x5.2.2.2.1 ([0,1,3,5])).bind fun (x7:Int×(List Int)×Int×Int) =>
   bif (decide (x7.1>0)) then
    bif (decide (List.length x5.2.2.2.2.2.2+List.length [(x5.1,x7.1,0)]≤DZ)) then
     some (x7.2.1,x7.2.2.1,x7.2.2.2,x5.2.2.2.2.1,x5.2.2.2.2.2.1,(x5.2.2.2.2.2.2++[(x5.1,x7.1,0)]))
    else
     none
   else
    some (x7.2.1,x7.2.2.1,x7.2.2.2,x5.2.2.2.2.1,x5.2.2.2.2.2.1,x5.2.2.2.2.2.2)).bind fun (x6:(List Int)×Int×Int×Int×Int×(List PH)) =>
  some (.inl ((PL (x5.1+1)),x6.1,x6.2.1,x6.2.2.1,x6.2.2.2.1,x6.2.2.2.2.1,x6.2.2.2.2.2))
 else
  some (.inr (x5.1,x5.2.1,x5.2.2.1,x5.2.2.2.1,x5.2.2.2.2.1,x5.2.2.2.2.2.1,x5.2.2.2.2.2.2))
def R6 (n:Nat) (x1:(List Int)) (x2:Int×(List Int)×Int×Int×(List PA)):Option ((Int×(List Int)×Int×Int×(List PA))⊕(Int×(List Int)×Int×Int×(List PA))) :=
 (show Option (Bool) from
  bif (decide (x2.1<((List.length x1:Int)))) then
   some (decide (x2.1<8))
  else
   some false).bind fun (x3:Bool) =>
 bif x3 then
  bif (Of x1 x2.1) then
   ((x1[(Int.toNat x2.1)]?)).bind fun (x4:Int) =>
   (iter n (RK) (1,x2.2.1,x2.2.2.1,x2.2.2.2.1,(PL (x2.1+1)),x4,([]:List PH))).bind fun (x8:Int×(List Int)×Int×Int×Int×Int×(List PH)) =>
   bif (decide (List.length x2.2.2.2.2+List.length [(x8.2.2.2.2.1,x8.2.2.2.2.2.1,x8.2.2.2.2.2.2)]≤DZ)) then
    some (.inl ((PL (x2.1+1)),x8.2.1,x8.2.2.1,x8.2.2.2.1,(x2.2.2.2.2++[(x8.2.2.2.2.1,x8.2.2.2.2.2.1,x8.2.2.2.2.2.2)])))
   else
    none
  else
   none
 else
  some (.inr (x2.1,x2.2.1,x2.2.2.1,x2.2.2.2.1,x2.2.2.2.2))
def Qw (n:Nat) (a0_0:List Int) (a0_1:Int) (a0_2:Int) (a1_0:Int) (a1_1:Int) (a1_2:List Int):Option ((List PA)×(List Int)×Int×Int) :=
 (QN n a1_0 a1_1 a1_2 2).bind fun (x1:(List Int)) =>
 (iter n (R6 n x1) (0,a0_0,a0_1,a0_2,([]:List PA))).bind fun (x9:Int×(List Int)×Int×Int×(List PA)) =>
 some (x9.2.2.2.2,x9.2.1,x9.2.2.1,x9.2.2.2.1)
def Pm (n:Nat) (a0:List Int):Option (Int×Int×(List Int)×(List PA)) :=
 (RZ n a0).bind fun (x1:Ut) =>
 (P4 n x1.1 x1.2.1 x1.2.2).bind fun (x2:Int×Int×(List Int)×(List Int)×Int×Int) =>
 (QH n x2.2.2.2.1 x2.2.2.2.2.1 x2.2.2.2.2.2).bind fun (x3:(List PA)×(List Int)×Int×Int) =>
 (show Option (Int×Int×(List Int)×(List PA)×(List Int)×Int×Int) from
  (show Option (Bool×(List Int)×Int×Int) from
   (Pn n x2.1 x2.2.1 x2.2.2.1).bind fun (x5:Bool) =>
   bif x5 then
    (Pg x3.2.1 x3.2.2.1 x3.2.2.2 3).bind fun (x6:Bool×(List Int)×Int×Int) =>
    some ((!x6.1),x6.2.1,x6.2.2.1,x6.2.2.2)
   else
    some (false,x3.2.1,x3.2.2.1,x3.2.2.2)).bind fun (x7:Bool×(List Int)×Int×Int) =>
  bif x7.1 then
   (Qw n x7.2.1 x7.2.2.1 x7.2.2.2 x2.1 x2.2.1 x2.2.2.1).bind fun (x8:(List PA)×(List Int)×Int×Int) =>
   some (x2.1,x2.2.1,x2.2.2.1,x8.1,x8.2.1,x8.2.2.1,x8.2.2.2)
  else
   some (x2.1,x2.2.1,x2.2.2.1,x3.1,x7.2.1,x7.2.2.1,x7.2.2.2)).bind fun (x4:Int×Int×(List Int)×(List PA)×(List Int)×Int×Int) =>
 some (x4.1,x4.2.1,x4.2.2.1,x4.2.2.2.1)
def PJ (a0:Int) (a1:Int) (a2:Int):Option (Bool) :=
 (show Option (Bool) from
  bif (decide (a0≥a1)) then
   some (decide (a0≤a2))
  else
   some false).bind fun (x1:Bool) =>
 some x1
def Sx (a0_2:List Int) (x4:Int):Option ((Int)⊕((Int)⊕(Bool))) :=
 bif (decide (x4<((List.length a0_2:Int)))) then
  ((ND a0_2 x4)).bind fun (x5:Int) =>
  (PJ x5 0 4).bind fun (x6:Bool) =>
  bif (!x6) then
   some (.inr (.inr false))
  else
   some (.inl (PL (x4+1)))
 else
  some (.inr (.inl x4))
def Pk (n:Nat) (a0_0:Int) (a0_1:Int) (a0_2:List Int):Option (Bool) :=
 (show Option (Bool) from
  (PJ a0_0 1 10).bind fun (x1:Bool) =>
  bif (!x1) then
   some true
  else
   (PJ a0_1 1 10).bind fun (x2:Bool) =>
   bif (!x2) then
    some true
   else
    some (((List.length a0_2:Int)) != (PL (a0_0 * a0_1)))).bind fun (x3:Bool) =>
 bif x3 then
  some false
 else
  (iter n (Sx a0_2) 0).bind fun (x7:(Int)⊕(Bool)) =>
  (match x7 with
  | .inl x8=>(
   some true)
  | .inr x9=>(
   some x9))
def Q8 (a0_2:List PH) (x4:Int):Option ((Int)⊕((Int)⊕(Bool))) :=
 bif (decide (x4<((List.length a0_2:Int)))) then
  ((ND a0_2 x4)).bind fun (x5:PH) =>
  (show Option (Bool) from
   (PJ x5.1 1 50).bind fun (x6:Bool) =>
   bif (!x6) then
    some true
   else
    (PJ x5.2.1 1 1000).bind fun (x7:Bool) =>
    bif (!x7) then
     some true
    else
     (PJ x5.2.2 0 x5.2.1).bind fun (x8:Bool) =>
     bif (!x8) then
      some true
     else
      bif (decide (x4>0)) then
       ((ND a0_2 (PL (x4 - 1)))).bind fun (x9:PH) =>
       some (decide (x9.1≥x5.1))
      else
       some false).bind fun (x10:Bool) =>
  bif x10 then
   some (.inr (.inr false))
  else
   some (.inl (PL (x4+1)))
 else
  some (.inr (.inl x4))
def RX (n:Nat) (a0_0:Int) (a0_1:Int) (a0_2:List PH):Option (Bool) :=
 (show Option (Bool) from
  (PJ a0_0 1 999).bind fun (x1:Bool) =>
  bif (!x1) then
   some true
  else
   (PJ a0_1 0 99).bind fun (x2:Bool) =>
   bif (!x2) then
    some true
   else
    some (decide (((List.length a0_2:Int))>8))).bind fun (x3:Bool) =>
 bif x3 then
  some false
 else
  (iter n (Q8 a0_2) 0).bind fun (x11:(Int)⊕(Bool)) =>
  (match x11 with
  | .inl x12=>(
   some true)
  | .inr x13=>(
   some x13))
def P2 (a0:List PA) (x1:Int) (x2:PA) (x6:Int):Option ((Int)⊕((Int)⊕(Bool))) :=
 bif (decide (x6<((List.length (sub a0 (Int.toNat (0:Int)) (Int.toNat x1)):Int)))) then
  ((ND (sub a0 (Int.toNat (0:Int)) (Int.toNat x1)) x6)).bind fun (x7:PA) =>
  bif (x7.2.1==x2.2.1) then
   some (.inr (.inr false))
  else
   some (.inl (PL (x6+1)))
 else
  some (.inr (.inl x6))
def QW (n:Nat) (a0:List PA) (x1:Int):Option ((Int)⊕((Int)⊕(Bool))) :=
 bif (decide (x1<((List.length a0:Int)))) then
  ((ND a0 x1)).bind fun (x2:PA) =>
  (show Option (Bool) from
   (RX n x2.1 x2.2.1 x2.2.2).bind fun (x3:Bool) =>
   bif (!x3) then
    some true
   else
    bif (decide (x1>0)) then
     ((ND a0 (PL (x1 - 1)))).bind fun (x4:PA) =>
     some (decide (x4.1≥x2.1))
    else
     some false).bind fun (x5:Bool) =>
  bif x5 then
   some (.inr (.inr false))
  else
   bif (decide (0≤(0:Int))&&decide ((0:Int)≤x1)&&decide (x1≤((List.length a0:Int)))) then
    (iter n (P2 a0 x1 x2) 0).bind fun (x8:(Int)⊕(Bool)) =>
    (match x8 with
    | .inl x9=>(
     some (.inl (PL (x1+1))))
    | .inr x10=>(
     some (.inr (.inr x10))))
   else
    none
 else
  some (.inr (.inl x1))
def P0 (n:Nat) (a0:List PA):Option (Bool) :=
 (iter n (QW n a0) 0).bind fun (x11:(Int)⊕(Bool)) =>
 (match x11 with
 | .inl x12=>(
  some (decide (((List.length a0:Int))≤12)))
 | .inr x13=>(
  some x13))
def QY (x2:PA) (x3:Int):Option ((Int)⊕((Int)⊕(Bool))) :=
 bif (decide (x3<((List.length x2.2.2:Int)))) then
  ((ND x2.2.2 x3)).bind fun (x4:PH) =>
  bif (decide (x4.2.2>0)) then
   some (.inr (.inr true))
  else
   some (.inl (PL (x3+1)))
 else
  some (.inr (.inl x3))
def QX (n:Nat) (a0:List PA) (x1:Int):Option ((Int)⊕((Int)⊕(Bool))) :=
 bif (decide (x1<((List.length a0:Int)))) then
  ((ND a0 x1)).bind fun (x2:PA) =>
  (iter n (QY x2) 0).bind fun (x5:(Int)⊕(Bool)) =>
  (match x5 with
  | .inl x6=>(
   some (.inl (PL (x1+1))))
  | .inr x7=>(
   some (.inr (.inr x7))))
 else
  some (.inr (.inl x1))
def Qr (n:Nat) (a0:List PA):Option (Bool) :=
 (iter n (QX n a0) 0).bind fun (x8:(Int)⊕(Bool)) =>
 (match x8 with
 | .inl x9=>(
  some false)
 | .inr x10=>(
  some x10))
def RE (a0_0:Int) (a0_1:Int) (a0_2:List Int) (a1:Int):Option (Bool) :=
 (PJ a1 0 (PL (((List.length a0_2:Int)) - 1))).bind fun (x1:Bool) =>
 some x1
def Pl (n:Nat) (a0_0:Int) (a0_1:Int) (a0_2:List Int) (a1:Int):Option (Int) :=
 (show Option (Bool) from
  (Pk n a0_0 a0_1 a0_2).bind fun (x1:Bool) =>
  bif (!x1) then
   some true
  else
   (RE a0_0 a0_1 a0_2 a1).bind fun (x2:Bool) =>
   some (!x2)).bind fun (x3:Bool) =>
 bif x3 then
  some 0
 else
  ((ND a0_2 a1)).bind fun (x4:Int) =>
  some x4
def Q7 (a0:List Int):Option ((List Int)) :=
 bif (decide (List.length a0≤DZ)) then
  some a0
 else
  none
def QF (a0_0:Int) (a0_1:Int) (a0_2:List Int):Option (TH) :=
 (Q7 a0_2).bind fun (x1:(List Int)) =>
 some (a0_0,a0_1,x1)
def QA (a0:List PA) (x1:Int×(List PA)):Option ((Int×(List PA))⊕(Int×(List PA))) :=
 bif (decide (x1.1<((List.length a0:Int)))) then
  ((ND a0 x1.1)).bind fun (x2:PA) =>
  bif (decide (List.length x2.2.2≤DZ)) then
   bif (decide (List.length x1.2+List.length [(x2.1,x2.2.1,x2.2.2)]≤DZ)) then
    some (.inl ((PL (x1.1+1)),(x1.2++[(x2.1,x2.2.1,x2.2.2)])))
   else
    none
  else
   none
 else
  some (.inr (x1.1,x1.2))
def QG (n:Nat) (a0:List PA):Option ((List PA)) :=
 (iter n (QA a0) (0,([]:List PA))).bind fun (x3:Int×(List PA)) =>
 some x3.2
def P1 (a0_2:List Int) (a1:Int) (x2:(List Int)×Int):Option (((List Int)×Int)⊕((List Int)×Int)) :=
 bif (decide (x2.2<((List.length a0_2:Int)))) then
  (show Option ((List Int)) from
   ((ND a0_2 x2.2)).bind fun (x4:Int) =>
   bif (x4==a1) then
    bif (decide (List.length x2.1+List.length [x2.2]≤DZ)) then
     some (x2.1++[x2.2])
    else
     none
   else
    some x2.1).bind fun (x3:(List Int)) =>
  some (.inl (x3,(PL (x2.2+1))))
 else
  some (.inr (x2.1,x2.2))
def QJ (n:Nat) (a0_0:Int) (a0_1:Int) (a0_2:List Int) (a1:Int):Option ((List Int)) :=
 (Pk n a0_0 a0_1 a0_2).bind fun (x1:Bool) =>
 bif (!x1) then
  some ([]:List Int)
 else
  (iter n (P1 a0_2 a1) (([]:List Int),0)).bind fun (x5:(List Int)×Int) =>
  some x5.1
def QZ (a0_2:List PH) (a1:Int) (x1:Int):Option ((Int)⊕(Int)) :=
 (show Option (Bool) from
  bif (decide (x1<((List.length a0_2:Int)))) then
   ((ND a0_2 x1)).bind fun (x2:PH) =>
   some (decide (x2.1<a1))
  else
   some false).bind fun (x3:Bool) =>
 bif x3 then
  some (.inl (PL (x1+1)))
 else
  some (.inr x1)
def QM (n:Nat) (a0_0:Int) (a0_1:Int) (a0_2:List PH) (a1:Int):Option (Int×Bool) :=
 (iter n (QZ a0_2 a1) 0).bind fun (x4:Int) =>
 (show Option (Int×Bool) from
  bif (decide (x4<((List.length a0_2:Int)))) then
   ((ND a0_2 x4)).bind fun (x5:PH) =>
   some (x4,(x5.1==a1))
  else
   some (x4,false)).bind fun (x6:Int×Bool) =>
 some (x6.1,x6.2)
def Q4 (n:Nat) (a0:List PA) (a1:Int) (x2:RL):Option ((RL)⊕(RL)) :=
 bif (decide (x2.2<((List.length a0:Int)))) then
  (show Option (Int) from
   ((ND a0 x2.2)).bind fun (x4:PA) =>
   (QM n x4.1 x4.2.1 x4.2.2 a1).bind fun (x5:Int×Bool) =>
   bif x5.2 then
    ((ND x4.2.2 x5.1)).bind fun (x6:PH) =>
    some (PL (x2.1+x6.2.1))
   else
    some x2.1).bind fun (x3:Int) =>
  some (.inl (x3,(PL (x2.2+1))))
 else
  some (.inr (x2.1,x2.2))
def Q2 (n:Nat) (a0:List PA) (a1:Int):Option (Int) :=
 (P0 n a0).bind fun (x1:Bool) =>
 bif (!x1) then
  some 0
 else
  (iter n (Q4 n a0 a1) (0,0)).bind fun (x7:RL) =>
  some x7.1
def Pp (n:Nat) (a0_0:Int) (a0_1:Int) (a0_2:List Int) (a1:List PA) (x5:Int×Int×Int×(List Int)×(List PA)×Int×(List O9)×(List PC)×(List PD)×(List Int)×(List Int)×Int):Option ((Int×Int×Int×(List Int)×(List PA)×Int×(List O9)×(List PC)×(List PD)×(List Int)×(List Int)×Int)⊕((Int×Int×Int×(List Int)×(List PA)×Int×(List O9)×(List PC)×(List PD)×(List Int)×(List Int)×Int)⊕(Int×Int×(List Int)×(List PA)×Int×(List O9)×(List PC)×(List PD)×(List Int)×(List Int)×Int×Bool))) :=
 bif (decide (x5.1<((List.length a1:Int)))) then
  ((ND a1 x5.1)).bind fun (x6:PA) =>
  (Pl n a0_0 a0_1 a0_2 x6.2.1).bind fun (x7:Int) =>
  bif (x7 != 2) then
   some (.inr (.inr (0,0,([]:List Int),([]:List PA),0,([]:List O9),([]:List PC),([]:List PD),([]:List Int),([]:List Int),0,false)))
  else
   some (.inl ((PL (x5.1+1)),x5.2.1,x5.2.2.1,x5.2.2.2.1,x5.2.2.2.2.1,x5.2.2.2.2.2.1,x5.2.2.2.2.2.2.1,x5.2.2.2.2.2.2.2.1,x5.2.2.2.2.2.2.2.2.1,x5.2.2.2.2.2.2.2.2.2.1,x5.2.2.2.2.2.2.2.2.2.2.1,x5.2.2.2.2.2.2.2.2.2.2.2))
 else
  some (.inr (.inl (x5.1,x5.2.1,x5.2.2.1,x5.2.2.2.1,x5.2.2.2.2.1,x5.2.2.2.2.2.1,x5.2.2.2.2.2.2.1,x5.2.2.2.2.2.2.2.1,x5.2.2.2.2.2.2.2.2.1,x5.2.2.2.2.2.2.2.2.2.1,x5.2.2.2.2.2.2.2.2.2.2.1,x5.2.2.2.2.2.2.2.2.2.2.2)))
def Pq (x13:(List Int)) (x14:Int×Int×Int×(List Int)×(List PA)×Int×(List O9)×(List PC)×(List PD)×(List Int)×(List Int)×Int):Option ((Int×Int×Int×(List Int)×(List PA)×Int×(List O9)×(List PC)×(List PD)×(List Int)×(List Int)×Int)⊕(Int×Int×Int×(List Int)×(List PA)×Int×(List O9)×(List PC)×(List PD)×(List Int)×(List Int)×Int)) :=
 bif (decide (x14.1<((List.length x13:Int)))) then
  (show Option (PQ) from
   bif (Of x13 x14.1) then
    ((x13[(Int.toNat x14.1)]?)).bind fun (x16:Int) =>
    bif (decide (x14.1<20)) then
     bif (decide (List.length x14.2.2.2.2.2.2.2.1+List.length [((PL (x14.1+1)),x16,(-1),false,0)]≤DZ)) then
      some (x14.2.1,x14.2.2.1,x14.2.2.2.1,x14.2.2.2.2.1,x14.2.2.2.2.2.1,x14.2.2.2.2.2.2.1,(x14.2.2.2.2.2.2.2.1++[((PL (x14.1+1)),x16,(-1),false,0)]),x14.2.2.2.2.2.2.2.2.1,x14.2.2.2.2.2.2.2.2.2.1,x14.2.2.2.2.2.2.2.2.2.2.1,x14.2.2.2.2.2.2.2.2.2.2.2)
     else
      none
    else
     some (x14.2.1,x14.2.2.1,x14.2.2.2.1,x14.2.2.2.2.1,x14.2.2.2.2.2.1,x14.2.2.2.2.2.2.1,x14.2.2.2.2.2.2.2.1,x14.2.2.2.2.2.2.2.2.1,x14.2.2.2.2.2.2.2.2.2.1,x14.2.2.2.2.2.2.2.2.2.2.1,x14.2.2.2.2.2.2.2.2.2.2.2)
   else
    none).bind fun (x15:PQ) =>
  some (.inl ((PL (x14.1+1)),x15.1,x15.2.1,x15.2.2.1,x15.2.2.2.1,x15.2.2.2.2.1,x15.2.2.2.2.2.1,x15.2.2.2.2.2.2.1,x15.2.2.2.2.2.2.2.1,x15.2.2.2.2.2.2.2.2.1,x15.2.2.2.2.2.2.2.2.2.1,x15.2.2.2.2.2.2.2.2.2.2))
 else
  some (.inr (x14.1,x14.2.1,x14.2.2.1,x14.2.2.2.1,x14.2.2.2.2.1,x14.2.2.2.2.2.1,x14.2.2.2.2.2.2.1,x14.2.2.2.2.2.2.2.1,x14.2.2.2.2.2.2.2.2.1,x14.2.2.2.2.2.2.2.2.2.1,x14.2.2.2.2.2.2.2.2.2.2.1,x14.2.2.2.2.2.2.2.2.2.2.2))
def Pr (n:Nat) (a1:List PA) (x18:Int×Int×Int×(List Int)×(List PA)×Int×(List O9)×(List PC)×(List PD)×(List Int)×(List Int)×Int):Option ((Int×Int×Int×(List Int)×(List PA)×Int×(List O9)×(List PC)×(List PD)×(List Int)×(List Int)×Int)⊕(Int×Int×Int×(List Int)×(List PA)×Int×(List O9)×(List PC)×(List PD)×(List Int)×(List Int)×Int)) :=
 bif (decide (x18.1≤50)) then
  (Q2 n a1 x18.1).bind fun (x19:Int) =>
  bif (Of x18.2.2.2.2.2.2.2.2.2.1 x18.1) then
   some (.inl ((PL (x18.1+1)),x18.2.1,x18.2.2.1,x18.2.2.2.1,x18.2.2.2.2.1,x18.2.2.2.2.2.1,x18.2.2.2.2.2.2.1,x18.2.2.2.2.2.2.2.1,x18.2.2.2.2.2.2.2.2.1,(CV x18.2.2.2.2.2.2.2.2.2.1 (Int.toNat x18.1) x19),x18.2.2.2.2.2.2.2.2.2.2.1,x18.2.2.2.2.2.2.2.2.2.2.2))
  else
   none
 else
  some (.inr (x18.1,x18.2.1,x18.2.2.1,x18.2.2.2.1,x18.2.2.2.2.1,x18.2.2.2.2.2.1,x18.2.2.2.2.2.2.1,x18.2.2.2.2.2.2.2.1,x18.2.2.2.2.2.2.2.2.1,x18.2.2.2.2.2.2.2.2.2.1,x18.2.2.2.2.2.2.2.2.2.2.1,x18.2.2.2.2.2.2.2.2.2.2.2))
def QS (n:Nat) (a0_0:Int) (a0_1:Int) (a0_2:List Int) (a1:List PA):Option (Int×Int×(List Int)×(List PA)×Int×(List O9)×(List PC)×(List PD)×(List Int)×(List Int)×Int×Bool) :=
 (show Option (Bool) from
  (Pk n a0_0 a0_1 a0_2).bind fun (x1:Bool) =>
  bif (!x1) then
   some true
  else
   (P0 n a1).bind fun (x2:Bool) =>
   bif (!x2) then
    some true
   else
    (Qr n a1).bind fun (x3:Bool) =>
    some x3).bind fun (x4:Bool) =>
 bif x4 then
  some (0,0,([]:List Int),([]:List PA),0,([]:List O9),([]:List PC),([]:List PD),([]:List Int),([]:List Int),0,false)
 else
  (iter n (Pp n a0_0 a0_1 a0_2 a1) (0,0,0,([]:List Int),([]:List PA),0,([]:List O9),([]:List PC),([]:List PD),([]:List Int),([]:List Int),0)).bind fun (x8:(Int×Int×Int×(List Int)×(List PA)×Int×(List O9)×(List PC)×(List PD)×(List Int)×(List Int)×Int)⊕(Int×Int×(List Int)×(List PA)×Int×(List O9)×(List PC)×(List PD)×(List Int)×(List Int)×Int×Bool)) =>
  (match x8 with
  | .inl x9=>(
   (QF a0_0 a0_1 a0_2).bind fun (x11:TH) =>
   (QG n a1).bind fun (x12:(List PA)) =>
   bif (decide (0≤51)&&decide (51≤(DZ:Int))&&decide (51=51)) then
    bif (decide (0≤51)&&decide (51≤(DZ:Int))&&decide (51=51)) then
     (QJ n a0_0 a0_1 a0_2 4).bind fun (x13:(List Int)) =>
     (iter n (Pq x13) (0,x11.1,x11.2.1,x11.2.2,x12,1,([]:List O9),([]:List PC),([]:List PD),(List.replicate (Int.toNat 51) (0:Int)),(List.replicate (Int.toNat 51) (0:Int)),0)).bind fun (x17:Int×Int×Int×(List Int)×(List PA)×Int×(List O9)×(List PC)×(List PD)×(List Int)×(List Int)×Int) =>
     (iter n (Pr n a1) (1,x17.2.1,x17.2.2.1,x17.2.2.2.1,x17.2.2.2.2.1,x17.2.2.2.2.2.1,x17.2.2.2.2.2.2.1,x17.2.2.2.2.2.2.2.1,x17.2.2.2.2.2.2.2.2.1,x17.2.2.2.2.2.2.2.2.2.1,x17.2.2.2.2.2.2.2.2.2.2.1,x17.2.2.2.2.2.2.2.2.2.2.2)).bind fun (x20:Int×Int×Int×(List Int)×(List PA)×Int×(List O9)×(List PC)×(List PD)×(List Int)×(List Int)×Int) =>
     some (x20.2.1,x20.2.2.1,x20.2.2.2.1,x20.2.2.2.2.1,x20.2.2.2.2.2.1,x20.2.2.2.2.2.2.1,x20.2.2.2.2.2.2.2.1,x20.2.2.2.2.2.2.2.2.1,x20.2.2.2.2.2.2.2.2.2.1,x20.2.2.2.2.2.2.2.2.2.2.1,x20.2.2.2.2.2.2.2.2.2.2.2,true)
    else
     none
   else
    none)
  | .inr x10=>(
   some x10))
def QP (a0:List PH) (x1:Int):Option ((Int)⊕((Int)⊕(Bool))) :=
 bif (decide (x1<((List.length a0:Int)))) then
  (show Option (Bool) from
   ((ND a0 x1)).bind fun (x2:PH) =>
   (Pb x2.1 1 50).bind fun (x3:Bool) =>
   bif (!x3) then
    some true
   else
    ((ND a0 x1)).bind fun (x4:PH) =>
    (Pb x4.2.1 1 1000).bind fun (x5:Bool) =>
    bif (!x5) then
     some true
    else
     ((ND a0 x1)).bind fun (x6:PH) =>
     ((ND a0 x1)).bind fun (x7:PH) =>
     (Pb x6.2.2 0 x7.2.1).bind fun (x8:Bool) =>
     bif (!x8) then
      some true
     else
      bif (decide (x1>0)) then
       ((ND a0 (PL (x1 - 1)))).bind fun (x9:PH) =>
       ((ND a0 x1)).bind fun (x10:PH) =>
       some (decide (x9.1≥x10.1))
      else
       some false).bind fun (x11:Bool) =>
  bif x11 then
   some (.inr (.inr false))
  else
   some (.inl (PL (x1+1)))
 else
  some (.inr (.inl x1))
def QU (n:Nat) (a0:List PH):Option (Bool) :=
 (iter n (QP a0) 0).bind fun (x12:(Int)⊕(Bool)) =>
 (match x12 with
 | .inl x13=>(
  some (decide (((List.length a0:Int))≤8)))
 | .inr x14=>(
  some x14))
def Pj (a0:List PA) (x1:Int) (x2:PA) (x8:Int):Option ((Int)⊕((Int)⊕(Bool))) :=
 bif (decide (x8<x1)) then
  ((ND a0 x8)).bind fun (x9:PA) =>
  bif (x9.2.1==x2.2.1) then
   some (.inr (.inr false))
  else
   some (.inl (PL (x8+1)))
 else
  some (.inr (.inl x8))
def Qc (n:Nat) (a0:List PA) (x1:Int):Option ((Int)⊕((Int)⊕(Bool))) :=
 bif (decide (x1<((List.length a0:Int)))) then
  ((ND a0 x1)).bind fun (x2:PA) =>
  (show Option (Bool) from
   (Pb x2.1 1 999).bind fun (x3:Bool) =>
   bif (!x3) then
    some true
   else
    (Pb x2.2.1 0 99).bind fun (x4:Bool) =>
    bif (!x4) then
     some true
    else
     (QU n x2.2.2).bind fun (x5:Bool) =>
     bif (!x5) then
      some true
     else
      bif (decide (x1>0)) then
       ((ND a0 (PL (x1 - 1)))).bind fun (x6:PA) =>
       some (decide (x6.1≥x2.1))
      else
       some false).bind fun (x7:Bool) =>
  bif x7 then
   some (.inr (.inr false))
  else
   (iter n (Pj a0 x1 x2) 0).bind fun (x10:(Int)⊕(Bool)) =>
   (match x10 with
   | .inl x11=>(
    some (.inl (PL (x1+1))))
   | .inr x12=>(
    some (.inr (.inr x12))))
 else
  some (.inr (.inl x1))
def QO (n:Nat) (a0:List PA):Option (Bool) :=
 bif (decide (((List.length a0:Int))>12)) then
  some false
 else
  (iter n (Qc n a0) 0).bind fun (x13:(Int)⊕(Bool)) =>
  (match x13 with
  | .inl x14=>(
   some true)
  | .inr x15=>(
   some x15))
def P5 (a0_2:List PH) (a1:Int) (x1:PD):Option ((PD)⊕((PD)⊕(PH))) :=
 bif (decide (x1.1<((List.length a0_2:Int)))) then
  ((ND a0_2 x1.1)).bind fun (x2:PH) =>
  bif (x2.1==a1) then
   ((ND a0_2 x1.1)).bind fun (x3:PH) =>
   some (.inr (.inr (x3.1,x3.2.1,x3.2.2)))
  else
   some (.inl ((PL (x1.1+1)),x1.2.1,x1.2.2.1,x1.2.2.2))
 else
  some (.inr (.inl (x1.1,x1.2.1,x1.2.2.1,x1.2.2.2)))
def Q0 (n:Nat) (a0_0:Int) (a0_1:Int) (a0_2:List PH) (a1:Int):Option (PH) :=
 (iter n (P5 a0_2 a1) (0,0,0,0)).bind fun (x4:(PD)⊕(PH)) =>
 (match x4 with
 | .inl x5=>(
  some (a1,0,0))
 | .inr x6=>(
  some x6))
def P9 (n:Nat) (a0:List PA) (a1:Int) (x1:RL):Option ((RL)⊕(RL)) :=
 (show Option (Bool) from
  bif (decide (x1.2<((List.length a0:Int)))) then
   (QO n a0).bind fun (x2:Bool) =>
   some x2
  else
   some false).bind fun (x3:Bool) =>
 bif x3 then
  ((ND a0 x1.2)).bind fun (x4:PA) =>
  (Q0 n x4.1 x4.2.1 x4.2.2 a1).bind fun (x5:PH) =>
  some (.inl ((PL (x1.1+x5.2.1)),(PL (x1.2+1))))
 else
  some (.inr (x1.1,x1.2))
def RY (n:Nat) (a0:List PA) (a1:Int):Option (Int) :=
 (iter n (P9 n a0 a1) (0,0)).bind fun (x6:RL) =>
 some x6.1
def Pv (a1:List PA) (x6:Int×Int×Int×(List Int)×(List PA)×Int×(List O9)×(List PC)×(List PD)×(List Int)×(List Int)×Int) (x12:Int×Int×Int×(List Int)×(List PA)×Int×(List O9)×(List PC)×(List PD)×(List Int)×(List Int)×Int):Option ((Int×Int×Int×(List Int)×(List PA)×Int×(List O9)×(List PC)×(List PD)×(List Int)×(List Int)×Int)⊕((Int×Int×Int×(List Int)×(List PA)×Int×(List O9)×(List PC)×(List PD)×(List Int)×(List Int)×Int)⊕(Int×Int×(List Int)×(List PA)×Int×(List O9)×(List PC)×(List PD)×(List Int)×(List Int)×Int×Bool))) :=
 ((ND a1 x6.1)).bind fun (x13:PA) =>
 bif (decide (x12.1<((List.length x13.2.2:Int)))) then
  ((ND a1 x6.1)).bind fun (x14:PA) =>
  ((ND x14.2.2 x12.1)).bind fun (x15:PH) =>
  bif (decide (x15.2.2>0)) then
   some (.inr (.inr (0,0,([]:List Int),([]:List PA),0,([]:List O9),([]:List PC),([]:List PD),([]:List Int),([]:List Int),0,false)))
  else
   some (.inl ((PL (x12.1+1)),x12.2.1,x12.2.2.1,x12.2.2.2.1,x12.2.2.2.2.1,x12.2.2.2.2.2.1,x12.2.2.2.2.2.2.1,x12.2.2.2.2.2.2.2.1,x12.2.2.2.2.2.2.2.2.1,x12.2.2.2.2.2.2.2.2.2.1,x12.2.2.2.2.2.2.2.2.2.2.1,x12.2.2.2.2.2.2.2.2.2.2.2))
 else
  some (.inr (.inl (x12.1,x12.2.1,x12.2.2.1,x12.2.2.2.1,x12.2.2.2.2.1,x12.2.2.2.2.2.1,x12.2.2.2.2.2.2.1,x12.2.2.2.2.2.2.2.1,x12.2.2.2.2.2.2.2.2.1,x12.2.2.2.2.2.2.2.2.2.1,x12.2.2.2.2.2.2.2.2.2.2.1,x12.2.2.2.2.2.2.2.2.2.2.2)))
def Pt (n:Nat) (a0_2:List Int) (a1:List PA) (x6:Int×Int×Int×(List Int)×(List PA)×Int×(List O9)×(List PC)×(List PD)×(List Int)×(List Int)×Int):Option ((Int×Int×Int×(List Int)×(List PA)×Int×(List O9)×(List PC)×(List PD)×(List Int)×(List Int)×Int)⊕((Int×Int×Int×(List Int)×(List PA)×Int×(List O9)×(List PC)×(List PD)×(List Int)×(List Int)×Int)⊕(Int×Int×(List Int)×(List PA)×Int×(List O9)×(List PC)×(List PD)×(List Int)×(List Int)×Int×Bool))) :=
 bif (decide (x6.1<((List.length a1:Int)))) then
  (show Option (Bool) from
   ((ND a1 x6.1)).bind fun (x7:PA) =>
   (Pb x7.2.1 0 (PL (((List.length a0_2:Int)) - 1))).bind fun (x8:Bool) =>
   bif (!x8) then
    some true
   else
    ((ND a1 x6.1)).bind fun (x9:PA) =>
    ((ND a0_2 x9.2.1)).bind fun (x10:Int) =>
    some (x10 != 2)).bind fun (x11:Bool) =>
  bif x11 then
   some (.inr (.inr (0,0,([]:List Int),([]:List PA),0,([]:List O9),([]:List PC),([]:List PD),([]:List Int),([]:List Int),0,false)))
  else
   (iter n (Pv a1 x6) (0,x6.2.1,x6.2.2.1,x6.2.2.2.1,x6.2.2.2.2.1,x6.2.2.2.2.2.1,x6.2.2.2.2.2.2.1,x6.2.2.2.2.2.2.2.1,x6.2.2.2.2.2.2.2.2.1,x6.2.2.2.2.2.2.2.2.2.1,x6.2.2.2.2.2.2.2.2.2.2.1,x6.2.2.2.2.2.2.2.2.2.2.2)).bind fun (x16:(Int×Int×Int×(List Int)×(List PA)×Int×(List O9)×(List PC)×(List PD)×(List Int)×(List Int)×Int)⊕(Int×Int×(List Int)×(List PA)×Int×(List O9)×(List PC)×(List PD)×(List Int)×(List Int)×Int×Bool)) =>
   (match x16 with
   | .inl x17=>(
    some (.inl ((PL (x6.1+1)),x17.2.1,x17.2.2.1,x17.2.2.2.1,x17.2.2.2.2.1,x17.2.2.2.2.2.1,x17.2.2.2.2.2.2.1,x17.2.2.2.2.2.2.2.1,x17.2.2.2.2.2.2.2.2.1,x17.2.2.2.2.2.2.2.2.2.1,x17.2.2.2.2.2.2.2.2.2.2.1,x17.2.2.2.2.2.2.2.2.2.2.2)))
   | .inr x18=>(
    some (.inr (.inr x18))))
 else
  some (.inr (.inl (x6.1,x6.2.1,x6.2.2.1,x6.2.2.2.1,x6.2.2.2.2.1,x6.2.2.2.2.2.1,x6.2.2.2.2.2.2.1,x6.2.2.2.2.2.2.2.1,x6.2.2.2.2.2.2.2.2.1,x6.2.2.2.2.2.2.2.2.2.1,x6.2.2.2.2.2.2.2.2.2.2.1,x6.2.2.2.2.2.2.2.2.2.2.2)))
def Pw (n:Nat) (a1:List PA) (x22:Int×Int×Int×(List Int)×(List PA)×Int×(List O9)×(List PC)×(List PD)×(List Int)×(List Int)×Int):Option ((Int×Int×Int×(List Int)×(List PA)×Int×(List O9)×(List PC)×(List PD)×(List Int)×(List Int)×Int)⊕(Int×Int×Int×(List Int)×(List PA)×Int×(List O9)×(List PC)×(List PD)×(List Int)×(List Int)×Int)) :=
 bif (decide (x22.1≤50)) then
  (RY n a1 x22.1).bind fun (x23:Int) =>
  bif (Of x22.2.2.2.2.2.2.2.2.2.1 x22.1) then
   some (.inl ((PL (x22.1+1)),x22.2.1,x22.2.2.1,x22.2.2.2.1,x22.2.2.2.2.1,x22.2.2.2.2.2.1,x22.2.2.2.2.2.2.1,x22.2.2.2.2.2.2.2.1,x22.2.2.2.2.2.2.2.2.1,(CV x22.2.2.2.2.2.2.2.2.2.1 (Int.toNat x22.1) x23),x22.2.2.2.2.2.2.2.2.2.2.1,x22.2.2.2.2.2.2.2.2.2.2.2))
  else
   none
 else
  some (.inr (x22.1,x22.2.1,x22.2.2.1,x22.2.2.2.1,x22.2.2.2.2.1,x22.2.2.2.2.2.1,x22.2.2.2.2.2.2.1,x22.2.2.2.2.2.2.2.1,x22.2.2.2.2.2.2.2.2.1,x22.2.2.2.2.2.2.2.2.2.1,x22.2.2.2.2.2.2.2.2.2.2.1,x22.2.2.2.2.2.2.2.2.2.2.2))
def Px (x25:(List Int)) (x26:Int×Int×Int×(List Int)×(List PA)×Int×(List O9)×(List PC)×(List PD)×(List Int)×(List Int)×Int):Option ((Int×Int×Int×(List Int)×(List PA)×Int×(List O9)×(List PC)×(List PD)×(List Int)×(List Int)×Int)⊕(Int×Int×Int×(List Int)×(List PA)×Int×(List O9)×(List PC)×(List PD)×(List Int)×(List Int)×Int)) :=
 (show Option (Bool) from
  bif (decide (x26.1<((List.length x25:Int)))) then
   some (decide (x26.1<20))
  else
   some false).bind fun (x27:Bool) =>
 bif x27 then
  bif (Of x25 x26.1) then
   ((x25[(Int.toNat x26.1)]?)).bind fun (x28:Int) =>
   bif (decide (List.length x26.2.2.2.2.2.2.2.1+List.length [((PL (x26.1+1)),x28,(-1),false,0)]≤DZ)) then
    some (.inl ((PL (x26.1+1)),x26.2.1,x26.2.2.1,x26.2.2.2.1,x26.2.2.2.2.1,x26.2.2.2.2.2.1,x26.2.2.2.2.2.2.1,(x26.2.2.2.2.2.2.2.1++[((PL (x26.1+1)),x28,(-1),false,0)]),x26.2.2.2.2.2.2.2.2.1,x26.2.2.2.2.2.2.2.2.2.1,x26.2.2.2.2.2.2.2.2.2.2.1,x26.2.2.2.2.2.2.2.2.2.2.2))
   else
    none
  else
   none
 else
  some (.inr (x26.1,x26.2.1,x26.2.2.1,x26.2.2.2.1,x26.2.2.2.2.1,x26.2.2.2.2.2.1,x26.2.2.2.2.2.2.1,x26.2.2.2.2.2.2.2.1,x26.2.2.2.2.2.2.2.2.1,x26.2.2.2.2.2.2.2.2.2.1,x26.2.2.2.2.2.2.2.2.2.2.1,x26.2.2.2.2.2.2.2.2.2.2.2))
def QT (n:Nat) (a0_0:Int) (a0_1:Int) (a0_2:List Int) (a1:List PA):Option (Int×Int×(List Int)×(List PA)×Int×(List O9)×(List PC)×(List PD)×(List Int)×(List Int)×Int×Bool) :=
 (show Option (Bool) from
  (Pn n a0_0 a0_1 a0_2).bind fun (x1:Bool) =>
  bif (!x1) then
   some true
  else
   (QO n a1).bind fun (x2:Bool) =>
   some (!x2)).bind fun (x3:Bool) =>
 bif x3 then
  some (0,0,([]:List Int),([]:List PA),0,([]:List O9),([]:List PC),([]:List PD),([]:List Int),([]:List Int),0,false)
 else
  (Qh a0_0 a0_1 a0_2).bind fun (x4:TH) =>
  (Qi n a1).bind fun (x5:(List PA)) =>
  bif (decide (0≤51)&&decide (51≤(DZ:Int))&&decide (51=51)) then
   bif (decide (0≤51)&&decide (51≤(DZ:Int))&&decide (51=51)) then
    (iter n (Pt n a0_2 a1) (0,0,0,([]:List Int),([]:List PA),0,([]:List O9),([]:List PC),([]:List PD),([]:List Int),([]:List Int),0)).bind fun (x19:(Int×Int×Int×(List Int)×(List PA)×Int×(List O9)×(List PC)×(List PD)×(List Int)×(List Int)×Int)⊕(Int×Int×(List Int)×(List PA)×Int×(List O9)×(List PC)×(List PD)×(List Int)×(List Int)×Int×Bool)) =>
    (match x19 with
    | .inl x20=>(
     (iter n (Pw n a1) (1,x4.1,x4.2.1,x4.2.2,x5,1,([]:List O9),([]:List PC),([]:List PD),(List.replicate (Int.toNat 51) (0:Int)),(List.replicate (Int.toNat 51) (0:Int)),0)).bind fun (x24:Int×Int×Int×(List Int)×(List PA)×Int×(List O9)×(List PC)×(List PD)×(List Int)×(List Int)×Int) =>
     (QN n a0_0 a0_1 a0_2 4).bind fun (x25:(List Int)) =>
     (iter n (Px x25) (0,x24.2.1,x24.2.2.1,x24.2.2.2.1,x24.2.2.2.2.1,x24.2.2.2.2.2.1,x24.2.2.2.2.2.2.1,x24.2.2.2.2.2.2.2.1,x24.2.2.2.2.2.2.2.2.1,x24.2.2.2.2.2.2.2.2.2.1,x24.2.2.2.2.2.2.2.2.2.2.1,x24.2.2.2.2.2.2.2.2.2.2.2)).bind fun (x29:Int×Int×Int×(List Int)×(List PA)×Int×(List O9)×(List PC)×(List PD)×(List Int)×(List Int)×Int) =>
     some (x29.2.1,x29.2.2.1,x29.2.2.2.1,x29.2.2.2.2.1,x29.2.2.2.2.2.1,x29.2.2.2.2.2.2.1,x29.2.2.2.2.2.2.2.1,x29.2.2.2.2.2.2.2.2.1,x29.2.2.2.2.2.2.2.2.2.1,x29.2.2.2.2.2.2.2.2.2.2.1,x29.2.2.2.2.2.2.2.2.2.2.2,true))
    | .inr x21=>(
     some x21))
   else
    none
  else
   none
def Sy (a0:List RL) (x1:Int):Option ((Int)⊕((Int)⊕(Bool))) :=
 bif (decide (x1<((List.length a0:Int)))) then
  ((ND a0 x1)).bind fun (x2:RL) =>
  (show Option (Bool) from
   (PJ x2.1 1 50).bind fun (x3:Bool) =>
   bif (!x3) then
    some true
   else
    (PJ x2.2 1 1000).bind fun (x4:Bool) =>
    bif (!x4) then
     some true
    else
     bif (decide (x1>0)) then
      ((ND a0 (PL (x1 - 1)))).bind fun (x5:RL) =>
      some (decide (x5.1≥x2.1))
     else
      some false).bind fun (x6:Bool) =>
  bif x6 then
   some (.inr (.inr false))
  else
   some (.inl (PL (x1+1)))
 else
  some (.inr (.inl x1))
def Rv (n:Nat) (a0:List RL):Option (Bool) :=
 (iter n (Sy a0) 0).bind fun (x7:(Int)⊕(Bool)) =>
 (match x7 with
 | .inl x8=>(
  some (decide (((List.length a0:Int))≤6)))
 | .inr x9=>(
  some x9))
def Qs (a0:List RL):Option ((List RL)) :=
 bif (decide (List.length a0≤DZ)) then
  some a0
 else
  none
def TB (x2:Int×(List RL)) (x3:PH) (x4:Bool×Int×(List RL)):Option ((Bool×Int×(List RL))⊕(Bool×Int×(List RL))) :=
 bif (decide (x4.2.1<((List.length x2.2:Int)))) then
  (show Option (Bool) from
   bif (Of x4.2.2 x4.2.1) then
    ((x4.2.2[(Int.toNat x4.2.1)]?)).bind fun (x5:RL) =>
    bif (x5.1==x3.2.1) then
     bif (Of x4.2.2 x4.2.1) then
      ((x4.2.2[(Int.toNat x4.2.1)]?)).bind fun (x6:RL) =>
      (PJ x3.2.2 1 x6.2).bind fun (x7:Bool) =>
      some x7
     else
      none
    else
     some false
   else
    none).bind fun (x8:Bool) =>
  bif x8 then
   bif (Of x4.2.2 x4.2.1) then
    ((x4.2.2[(Int.toNat x4.2.1)]?)).bind fun (x9:RL) =>
    bif (Of x4.2.2 x4.2.1) then
     some (.inr (true,x4.2.1,(List.modify x4.2.2 (Int.toNat x4.2.1) (fun (y:RL)=>(y.1,(PL (x9.2 - x3.2.2)))))))
    else
     none
   else
    none
  else
   some (.inl (x4.1,(PL (x4.2.1+1)),x4.2.2))
 else
  some (.inr (x4.1,x4.2.1,x4.2.2))
def TA (n:Nat) (a0:List PH) (x2:Int×(List RL)):Option ((Int×(List RL))⊕((Int×(List RL))⊕(Bool))) :=
 bif (decide (x2.1<((List.length a0:Int)))) then
  ((ND a0 x2.1)).bind fun (x3:PH) =>
  (iter n (TB x2 x3) (false,0,x2.2)).bind fun (x10:Bool×Int×(List RL)) =>
  bif (!x10.1) then
   some (.inr (.inr false))
  else
   some (.inl ((PL (x2.1+1)),x10.2.2))
 else
  some (.inr (.inl (x2.1,x2.2)))
def TC (x12:Int×(List RL)) (x14:Int):Option ((Int)⊕((Int)⊕(Bool))) :=
 bif (decide (x14<((List.length x12.2:Int)))) then
  bif (Of x12.2 x14) then
   ((x12.2[(Int.toNat x14)]?)).bind fun (x15:RL) =>
   bif (x15.2 != 0) then
    some (.inr (.inr false))
   else
    some (.inl (PL (x14+1)))
  else
   none
 else
  some (.inr (.inl x14))
def Ry (n:Nat) (a0:List PH) (a1:List RL):Option (Bool) :=
 (Qs a1).bind fun (x1:(List RL)) =>
 (iter n (TA n a0) (0,x1)).bind fun (x11:(Int×(List RL))⊕(Bool)) =>
 (match x11 with
 | .inl x12=>(
  (iter n (TC x12) 0).bind fun (x16:(Int)⊕(Bool)) =>
  (match x16 with
  | .inl x17=>(
   some true)
  | .inr x18=>(
   some x18)))
 | .inr x13=>(
  some x13))
def TS (n:Nat) (a0_0:Int) (a0_1:List O9) (x3:Int):Option ((Int)⊕((Int)⊕(Bool))) :=
 bif (decide (x3<((List.length a0_1:Int)))) then
  ((ND a0_1 x3)).bind fun (x4:O9) =>
  (show Option (Bool) from
   (PJ x4.1 1 (PL (a0_0 - 1))).bind fun (x5:Bool) =>
   bif (!x5) then
    some true
   else
    bif (decide (x3>0)) then
     ((ND a0_1 (PL (x3 - 1)))).bind fun (x6:O9) =>
     bif (decide (x6.1≥x4.1)) then
      some true
     else
      (PJ x4.2.1 0 99).bind fun (x7:Bool) =>
      bif (!x7) then
       some true
      else
       (PJ x4.2.2.2.2 1 3).bind fun (x8:Bool) =>
       some (!x8)
    else
     (PJ x4.2.1 0 99).bind fun (x9:Bool) =>
     bif (!x9) then
      some true
     else
      (PJ x4.2.2.2.2 1 3).bind fun (x10:Bool) =>
      some (!x10)).bind fun (x11:Bool) =>
  bif x11 then
   some (.inr (.inr false))
  else
   (show Option (Bool) from
    bif (((List.length x4.2.2.1:Int))==0) then
     some true
    else
     (Rv n x4.2.2.1).bind fun (x12:Bool) =>
     bif (!x12) then
      some true
     else
      (Ry n x4.2.2.2.1 x4.2.2.1).bind fun (x13:Bool) =>
      some (!x13)).bind fun (x14:Bool) =>
   bif x14 then
    some (.inr (.inr false))
   else
    some (.inl (PL (x3+1)))
 else
  some (.inr (.inl x3))
def Rd (n:Nat) (a0_0:Int) (a0_1:List O9):Option (Bool) :=
 (show Option (Bool) from
  (PJ a0_0 1 1000000).bind fun (x1:Bool) =>
  bif (!x1) then
   some true
  else
   some (decide (((List.length a0_1:Int))>30))).bind fun (x2:Bool) =>
 bif x2 then
  some false
 else
  (iter n (TS n a0_0 a0_1) 0).bind fun (x15:(Int)⊕(Bool)) =>
  (match x15 with
  | .inl x16=>(
   some true)
  | .inr x17=>(
   some x17))
def P8 (n:Nat) (a0_0:Int) (a0_1:Int) (a0_2:List Int) (a1_0:Int) (a1_1:Int) (a1_2:Int) (a1_3:Bool) (a1_4:Int):Option (Bool) :=
 (show Option (Bool) from
  (Pl n a0_0 a0_1 a0_2 a1_1).bind fun (x1:Int) =>
  bif (x1 != 0) then
   bif (a1_2==(-1)) then
    some true
   else
    (Pl n a0_0 a0_1 a0_2 a1_2).bind fun (x2:Int) =>
    some (x2 != 0)
  else
   some false).bind fun (x3:Bool) =>
 some x3
def QD (a1:List PC) (x3:Int) (x4:PC) (x12:Int):Option ((Int)⊕((Int)⊕(Bool))) :=
 bif (decide (x12<((List.length (sub a1 (Int.toNat (0:Int)) (Int.toNat x3)):Int)))) then
  ((ND (sub a1 (Int.toNat (0:Int)) (Int.toNat x3)) x12)).bind fun (x13:PC) =>
  bif (x13.2.1==x4.2.1) then
   some (.inr (.inr false))
  else
   some (.inl (PL (x12+1)))
 else
  some (.inr (.inl x12))
def Qn (n:Nat) (a0_0:Int) (a0_1:Int) (a0_2:List Int) (a1:List PC) (x3:Int):Option ((Int)⊕((Int)⊕(Bool))) :=
 bif (decide (x3<((List.length a1:Int)))) then
  ((ND a1 x3)).bind fun (x4:PC) =>
  (show Option (Bool) from
   (PJ x4.1 1 99).bind fun (x5:Bool) =>
   bif (!x5) then
    some true
   else
    bif (decide (x3>0)) then
     ((ND a1 (PL (x3 - 1)))).bind fun (x6:PC) =>
     bif (decide (x6.1≥x4.1)) then
      some true
     else
      (P8 n a0_0 a0_1 a0_2 x4.1 x4.2.1 x4.2.2.1 x4.2.2.2.1 x4.2.2.2.2).bind fun (x7:Bool) =>
      bif (!x7) then
       some true
      else
       (PJ x4.2.2.2.2 0 1000000).bind fun (x8:Bool) =>
       some (!x8)
    else
     (P8 n a0_0 a0_1 a0_2 x4.1 x4.2.1 x4.2.2.1 x4.2.2.2.1 x4.2.2.2.2).bind fun (x9:Bool) =>
     bif (!x9) then
      some true
     else
      (PJ x4.2.2.2.2 0 1000000).bind fun (x10:Bool) =>
      some (!x10)).bind fun (x11:Bool) =>
  bif x11 then
   some (.inr (.inr false))
  else
   bif (decide (0≤(0:Int))&&decide ((0:Int)≤x3)&&decide (x3≤((List.length a1:Int)))) then
    (iter n (QD a1 x3 x4) 0).bind fun (x14:(Int)⊕(Bool)) =>
    (match x14 with
    | .inl x15=>(
     some (.inl (PL (x3+1))))
    | .inr x16=>(
     some (.inr (.inr x16))))
   else
    none
 else
  some (.inr (.inl x3))
def Qg (n:Nat) (a0_0:Int) (a0_1:Int) (a0_2:List Int) (a1:List PC):Option (Bool) :=
 (show Option (Bool) from
  (Pk n a0_0 a0_1 a0_2).bind fun (x1:Bool) =>
  bif (!x1) then
   some true
  else
   some (decide (((List.length a1:Int))>20))).bind fun (x2:Bool) =>
 bif x2 then
  some false
 else
  (iter n (Qn n a0_0 a0_1 a0_2 a1) 0).bind fun (x17:(Int)⊕(Bool)) =>
  (match x17 with
  | .inl x18=>(
   some true)
  | .inr x19=>(
   some x19))
def S7 (a0:List PD) (x1:Int) (x2:PD) (x8:Int):Option ((Int)⊕((Int)⊕(Bool))) :=
 bif (decide (x8<((List.length (sub a0 (Int.toNat (0:Int)) (Int.toNat x1)):Int)))) then
  ((ND (sub a0 (Int.toNat (0:Int)) (Int.toNat x1)) x8)).bind fun (x9:PD) =>
  (show Option (Bool) from
   bif (x2.1==x9.1) then
    bif (x2.2.1==x9.2.1) then
     some true
    else
     bif (!(x2.2.2.2==1)) then
      bif (x2.2.2.1==x9.2.2.1) then
       some true
      else
       bif (x2.2.1==x9.2.1) then
        some (x9.2.2.2 != 1)
       else
        some false
     else
      some false
   else
    bif (!(x2.2.2.2==1)) then
     bif (x2.2.2.1==x9.2.2.1) then
      some true
     else
      bif (x2.2.1==x9.2.1) then
       some (x9.2.2.2 != 1)
      else
       some false
    else
     some false).bind fun (x10:Bool) =>
  bif x10 then
   some (.inr (.inr false))
  else
   some (.inl (PL (x8+1)))
 else
  some (.inr (.inl x8))
def S6 (n:Nat) (a0:List PD) (x1:Int):Option ((Int)⊕((Int)⊕(Bool))) :=
 bif (decide (x1<((List.length a0:Int)))) then
  ((ND a0 x1)).bind fun (x2:PD) =>
  (show Option (Bool) from
   (PJ x2.1 1 1000000).bind fun (x3:Bool) =>
   bif (!x3) then
    some true
   else
    (PJ x2.2.1 1 999).bind fun (x4:Bool) =>
    bif (!x4) then
     some true
    else
     (PJ x2.2.2.2 1 4).bind fun (x5:Bool) =>
     bif (!x5) then
      some true
     else
      bif ((x2.2.2.2==1) != (x2.2.2.1==0)) then
       some true
      else
       (PJ x2.2.2.1 0 99).bind fun (x6:Bool) =>
       some (!x6)).bind fun (x7:Bool) =>
  bif x7 then
   some (.inr (.inr false))
  else
   bif (decide (0≤(0:Int))&&decide ((0:Int)≤x1)&&decide (x1≤((List.length a0:Int)))) then
    (iter n (S7 a0 x1 x2) 0).bind fun (x11:(Int)⊕(Bool)) =>
    (match x11 with
    | .inl x12=>(
     some (.inl (PL (x1+1))))
    | .inr x13=>(
     some (.inr (.inr x13))))
   else
    none
 else
  some (.inr (.inl x1))
def RP (n:Nat) (a0:List PD):Option (Bool) :=
 (iter n (S6 n a0) 0).bind fun (x14:(Int)⊕(Bool)) =>
 (match x14 with
 | .inl x15=>(
  some (decide (((List.length a0:Int))≤60)))
 | .inr x16=>(
  some x16))
def QL (a0:List Int) (x1:Int):Option ((Int)⊕((Int)⊕(Bool))) :=
 bif (decide (x1<((List.length a0:Int)))) then
  ((ND a0 x1)).bind fun (x2:Int) =>
  (show Option (Bool) from
   (PJ x2 0 1000000).bind fun (x3:Bool) =>
   bif (!x3) then
    some true
   else
    bif (x1==0) then
     some (x2 != 0)
    else
     some false).bind fun (x4:Bool) =>
  bif x4 then
   some (.inr (.inr false))
  else
   some (.inl (PL (x1+1)))
 else
  some (.inr (.inl x1))
def P7 (n:Nat) (a0:List Int):Option (Bool) :=
 (iter n (QL a0) 0).bind fun (x5:(Int)⊕(Bool)) =>
 (match x5 with
 | .inl x6=>(
  some (((List.length a0:Int))==51))
 | .inr x7=>(
  some x7))
def S9 (a0_1:List O9) (a1:Int) (x1:Int):Option ((Int)⊕((Int)⊕(Int))) :=
 bif (decide (x1<((List.length a0_1:Int)))) then
  ((ND a0_1 x1)).bind fun (x2:O9) =>
  bif (x2.1==a1) then
   some (.inr (.inr x1))
  else
   some (.inl (PL (x1+1)))
 else
  some (.inr (.inl x1))
def Qt (n:Nat) (a0_0:Int) (a0_1:List O9) (a1:Int):Option (Int) :=
 (iter n (S9 a0_1 a1) 0).bind fun (x3:(Int)⊕(Int)) =>
 (match x3 with
 | .inl x4=>(
  some (-1))
 | .inr x5=>(
  some x5))
def To (a0:List PA) (a1:Int) (x1:Int):Option ((Int)⊕((Int)⊕(Int))) :=
 bif (decide (x1<((List.length a0:Int)))) then
  ((ND a0 x1)).bind fun (x2:PA) =>
  bif (x2.1==a1) then
   some (.inr (.inr x1))
  else
   some (.inl (PL (x1+1)))
 else
  some (.inr (.inl x1))
def Rz (n:Nat) (a0:List PA) (a1:Int):Option (Int) :=
 (iter n (To a0 a1) 0).bind fun (x3:(Int)⊕(Int)) =>
 (match x3 with
 | .inl x4=>(
  some (-1))
 | .inr x5=>(
  some x5))
def Ta (a0:List Int) (a1:Int) (x1:Int):Option ((Int)⊕((Int)⊕(Bool))) :=
 bif (decide (x1<((List.length a0:Int)))) then
  ((ND a0 x1)).bind fun (x2:Int) =>
  bif (x2==a1) then
   some (.inr (.inr true))
  else
   some (.inl (PL (x1+1)))
 else
  some (.inr (.inl x1))
def Re (n:Nat) (a0:List Int) (a1:Int):Option (Bool) :=
 (iter n (Ta a0 a1) 0).bind fun (x3:(Int)⊕(Bool)) =>
 (match x3 with
 | .inl x4=>(
  some false)
 | .inr x5=>(
  some x5))
def TY (n:Nat) (a0:List PH) (x1:(List Int)×Int):Option (((List Int)×Int)⊕((List Int)×Int)) :=
 bif (decide (x1.2<((List.length a0:Int)))) then
  (show Option ((List Int)) from
   ((ND a0 x1.2)).bind fun (x3:PH) =>
   (Re n x1.1 x3.1).bind fun (x4:Bool) =>
   bif (!x4) then
    bif (decide (List.length x1.1+List.length [x3.1]≤DZ)) then
     some (x1.1++[x3.1])
    else
     none
   else
    some x1.1).bind fun (x2:(List Int)) =>
  some (.inl (x2,(PL (x1.2+1))))
 else
  some (.inr (x1.1,x1.2))
def SD (n:Nat) (a0:List PH):Option ((List Int)) :=
 (iter n (TY n a0) (([]:List Int),0)).bind fun (x5:(List Int)×Int) =>
 some x5.1
def TD (a0:List PC) (a1:Int) (x1:Int):Option ((Int)⊕((Int)⊕(Int))) :=
 bif (decide (x1<((List.length a0:Int)))) then
  ((ND a0 x1)).bind fun (x2:PC) =>
  bif (x2.1==a1) then
   some (.inr (.inr x1))
  else
   some (.inl (PL (x1+1)))
 else
  some (.inr (.inl x1))
def R0 (n:Nat) (a0:List PC) (a1:Int):Option (Int) :=
 (iter n (TD a0 a1) 0).bind fun (x3:(Int)⊕(Int)) =>
 (match x3 with
 | .inl x4=>(
  some (-1))
 | .inr x5=>(
  some x5))
def SE (n:Nat) (a0_0:Int) (a0_1:Int) (a0_2:List Int) (a0_3:List PA) (a0_4:Int) (a0_5:List O9) (a0_6:List PC) (a0_7:List PD) (a0_8:List Int) (a0_9:List Int) (a0_10:Int) (a1_0:Int) (a1_1:Int) (a1_2:Int) (a1_3:Int):Option (Int) :=
 bif (a1_3==3) then
  (Qt n a0_4 a0_5 a1_0).bind fun (x1:Int) =>
  ((ND a0_5 x1)).bind fun (x2:O9) =>
  some x2.2.1
 else
  (Rz n a0_3 a1_1).bind fun (x3:Int) =>
  ((ND a0_3 x3)).bind fun (x4:PA) =>
  some x4.2.1
def SF (n:Nat) (a0_0:Int) (a0_1:Int) (a0_2:List Int) (a0_3:List PA) (a0_4:Int) (a0_5:List O9) (a0_6:List PC) (a0_7:List PD) (a0_8:List Int) (a0_9:List Int) (a0_10:Int) (a1_0:Int) (a1_1:Int) (a1_2:Int) (a1_3:Int):Option (Bool) :=
 (Qt n a0_4 a0_5 a1_0).bind fun (x1:Int) =>
 (show Option (Bool) from
  bif (decide (x1<0)) then
   some true
  else
   ((ND a0_5 x1)).bind fun (x2:O9) =>
   bif (x2.2.2.2.2 != 1) then
    some true
   else
    (Rz n a0_3 a1_1).bind fun (x3:Int) =>
    bif (decide (x3<0)) then
     some true
    else
     ((ND a0_5 x1)).bind fun (x4:O9) =>
     (SD n x4.2.2.2.1).bind fun (x5:(List Int)) =>
     (Re n x5 a1_1).bind fun (x6:Bool) =>
     some (!x6)).bind fun (x7:Bool) =>
 bif x7 then
  some false
 else
  bif (a1_2==0) then
   some true
  else
   (R0 n a0_6 a1_2).bind fun (x8:Int) =>
   (show Option (Bool) from
    bif (decide (x8≥0)) then
     ((ND a0_6 x8)).bind fun (x9:PC) =>
     (SE n a0_0 a0_1 a0_2 a0_3 a0_4 a0_5 a0_6 a0_7 a0_8 a0_9 a0_10 a1_0 a1_1 a1_2 a1_3).bind fun (x10:Int) =>
     bif (x9.2.2.1==x10) then
      ((ND a0_6 x8)).bind fun (x11:PC) =>
      bif (a1_3==3) then
       some (x11.2.2.2.1==true)
      else
       some (x11.2.2.2.1==(a1_3==4))
     else
      some false
    else
     some false).bind fun (x12:Bool) =>
   some x12
def Sw (n:Nat) (a0_0:Int) (a0_1:Int) (a0_2:List Int) (a0_3:List PA) (a0_4:Int) (a0_5:List O9) (a0_6:List PC) (a0_7:List PD) (a0_8:List Int) (a0_9:List Int) (a0_10:Int) (x10:Int):Option ((Int)⊕((Int)⊕(Bool))) :=
 bif (decide (x10<((List.length a0_7:Int)))) then
  ((ND a0_7 x10)).bind fun (x11:PD) =>
  (SF n a0_0 a0_1 a0_2 a0_3 a0_4 a0_5 a0_6 a0_7 a0_8 a0_9 a0_10 x11.1 x11.2.1 x11.2.2.1 x11.2.2.2).bind fun (x12:Bool) =>
  bif (!x12) then
   some (.inr (.inr false))
  else
   some (.inl (PL (x10+1)))
 else
  some (.inr (.inl x10))
def QK (n:Nat) (a0_0:Int) (a0_1:Int) (a0_2:List Int) (a0_3:List PA) (a0_4:Int) (a0_5:List O9) (a0_6:List PC) (a0_7:List PD) (a0_8:List Int) (a0_9:List Int) (a0_10:Int):Option (Bool) :=
 (show Option (Bool) from
  (Pk n a0_0 a0_1 a0_2).bind fun (x1:Bool) =>
  bif (!x1) then
   some true
  else
   (P0 n a0_3).bind fun (x2:Bool) =>
   bif (!x2) then
    some true
   else
    (Rd n a0_4 a0_5).bind fun (x3:Bool) =>
    bif (!x3) then
     some true
    else
     (Qg n a0_0 a0_1 a0_2 a0_6).bind fun (x4:Bool) =>
     bif (!x4) then
      some true
     else
      (RP n a0_7).bind fun (x5:Bool) =>
      bif (!x5) then
       some true
      else
       (P7 n a0_8).bind fun (x6:Bool) =>
       bif (!x6) then
        some true
       else
        (P7 n a0_9).bind fun (x7:Bool) =>
        bif (!x7) then
         some true
        else
         (PJ a0_10 0 1000000).bind fun (x8:Bool) =>
         some (!x8)).bind fun (x9:Bool) =>
 bif x9 then
  some false
 else
  (iter n (Sw n a0_0 a0_1 a0_2 a0_3 a0_4 a0_5 a0_6 a0_7 a0_8 a0_9 a0_10) 0).bind fun (x13:(Int)⊕(Bool)) =>
  (match x13 with
  | .inl x14=>(
   some true)
  | .inr x15=>(
   some x15))
def Qp (n:Nat) (a0_3:List PA) (a0_8:List Int) (a0_9:List Int) (x1:Int):Option ((Int)⊕((Int)⊕(Bool))) :=
 bif (decide (x1≤50)) then
  (show Option (Bool) from
   bif (decide (x1≥((List.length a0_8:Int)))) then
    some true
   else
    bif (decide (x1≥((List.length a0_9:Int)))) then
     some true
    else
     ((ND a0_9 x1)).bind fun (x2:Int) =>
     (PJ x2 0 1000000).bind fun (x3:Bool) =>
     bif (!x3) then
      some true
     else
      (Q2 n a0_3 x1).bind fun (x4:Int) =>
      ((ND a0_9 x1)).bind fun (x5:Int) =>
      ((ND a0_8 x1)).bind fun (x6:Int) =>
      some ((PL (x4+x5)) != x6)).bind fun (x7:Bool) =>
  bif x7 then
   some (.inr (.inr false))
  else
   some (.inl (PL (x1+1)))
 else
  some (.inr (.inl x1))
def RA (n:Nat) (a0_0:Int) (a0_1:Int) (a0_2:List Int) (a0_3:List PA) (a0_4:Int) (a0_5:List O9) (a0_6:List PC) (a0_7:List PD) (a0_8:List Int) (a0_9:List Int) (a0_10:Int):Option (Bool) :=
 (iter n (Qp n a0_3 a0_8 a0_9) 1).bind fun (x8:(Int)⊕(Bool)) =>
 (match x8 with
 | .inl x9=>(
  some true)
 | .inr x10=>(
  some x10))
def RW (a0:List PH):Option ((List PH)) :=
 bif (decide (List.length a0≤DZ)) then
  some a0
 else
  none
def RV (a0_0:Int) (a0_1:Int) (a0_2:List RL) (a0_3:List PH) (a0_4:Int):Option (O9) :=
 (Qs a0_2).bind fun (x1:(List RL)) =>
 (RW a0_3).bind fun (x2:(List PH)) =>
 some (a0_0,a0_1,x1,x2,a0_4)
def Rw (n:Nat) (a0_0:Int) (a0_1:List O9) (a1:Int):Option (Int×Int×(List RL)×(List PH)×Int×Bool) :=
 (Qt n a0_0 a0_1 a1).bind fun (x1:Int) =>
 bif (decide (x1<0)) then
  some (0,0,([]:List RL),([]:List PH),0,false)
 else
  ((ND a0_1 x1)).bind fun (x2:O9) =>
  (RV x2.1 x2.2.1 x2.2.2.1 x2.2.2.2.1 x2.2.2.2.2).bind fun (x3:O9) =>
  some (x3.1,x3.2.1,x3.2.2.1,x3.2.2.2.1,x3.2.2.2.2,true)
def S0 (a0_3:List PH) (a1:Int) (x1:(List PH)×Int):Option (((List PH)×Int)⊕((List PH)×Int)) :=
 bif (decide (x1.2<((List.length a0_3:Int)))) then
  (show Option ((List PH)) from
   ((ND a0_3 x1.2)).bind fun (x3:PH) =>
   bif (x3.1==a1) then
    bif (decide (List.length x1.1+List.length [(x3.1,x3.2.1,x3.2.2)]≤DZ)) then
     some (x1.1++[(x3.1,x3.2.1,x3.2.2)])
    else
     none
   else
    some x1.1).bind fun (x2:(List PH)) =>
  some (.inl (x2,(PL (x1.2+1))))
 else
  some (.inr (x1.1,x1.2))
def Rx (n:Nat) (a0_0:Int) (a0_1:Int) (a0_2:List RL) (a0_3:List PH) (a0_4:Int) (a1:Int):Option ((List PH)) :=
 (iter n (S0 a0_3 a1) (([]:List PH),0)).bind fun (x4:(List PH)×Int) =>
 some x4.1
def Tc (a2:Int) (x7:(List PH)) (x8:RL):Option ((RL)⊕(RL)) :=
 bif (decide (x8.2<((List.length x7:Int)))) then
  (show Option (Int) from
   bif (Of x7 x8.2) then
    ((x7[(Int.toNat x8.2)]?)).bind fun (x10:PH) =>
    (show Option (Bool) from
     bif (x10.2.1==a2) then
      (PJ x10.2.2 0 1000).bind fun (x11:Bool) =>
      some x11
     else
      some false).bind fun (x12:Bool) =>
    bif x12 then
     some (PL (x8.1+x10.2.2))
    else
     some x8.1
   else
    none).bind fun (x9:Int) =>
  some (.inl (x9,(PL (x8.2+1))))
 else
  some (.inr (x8.1,x8.2))
def Tb (n:Nat) (a0_4:Int) (a0_5:List O9) (a0_7:List PD) (a1:Int) (a2:Int) (x1:RL):Option ((RL)⊕(RL)) :=
 bif (decide (x1.2<((List.length a0_7:Int)))) then
  (show Option (Int) from
   ((ND a0_7 x1.2)).bind fun (x3:PD) =>
   (Rw n a0_4 a0_5 x3.1).bind fun (x4:Int×Int×(List RL)×(List PH)×Int×Bool) =>
   (show Option (Bool) from
    bif (!x4.2.2.2.2.2) then
     some true
    else
     bif (x3.2.1 != a1) then
      some true
     else
      (PJ x3.2.2.2 1 3).bind fun (x5:Bool) =>
      some (!x5)).bind fun (x6:Bool) =>
   bif x6 then
    some x1.1
   else
    (Rx n x4.1 x4.2.1 x4.2.2.1 x4.2.2.2.1 x4.2.2.2.2.1 a1).bind fun (x7:(List PH)) =>
    (iter n (Tc a2 x7) (x1.1,0)).bind fun (x13:RL) =>
    some x13.1).bind fun (x2:Int) =>
  some (.inl (x2,(PL (x1.2+1))))
 else
  some (.inr (x1.1,x1.2))
def Rf (n:Nat) (a0_0:Int) (a0_1:Int) (a0_2:List Int) (a0_3:List PA) (a0_4:Int) (a0_5:List O9) (a0_6:List PC) (a0_7:List PD) (a0_8:List Int) (a0_9:List Int) (a0_10:Int) (a1:Int) (a2:Int):Option (Int) :=
 (iter n (Tb n a0_4 a0_5 a0_7 a1 a2) (0,0)).bind fun (x14:RL) =>
 some x14.1
def Q6 (n:Nat) (a0_0:Int) (a0_1:Int) (a0_2:List Int) (a0_3:List PA) (a0_4:Int) (a0_5:List O9) (a0_6:List PC) (a0_7:List PD) (a0_8:List Int) (a0_9:List Int) (a0_10:Int) (x2:PA) (x3:Int):Option ((Int)⊕((Int)⊕(Bool))) :=
 bif (decide (x3≤50)) then
  (show Option (Int) from
   (QM n x2.1 x2.2.1 x2.2.2 x3).bind fun (x5:Int×Bool) =>
   bif x5.2 then
    ((ND x2.2.2 x5.1)).bind fun (x6:PH) =>
    some x6.2.2
   else
    some 0).bind fun (x4:Int) =>
  (Rf n a0_0 a0_1 a0_2 a0_3 a0_4 a0_5 a0_6 a0_7 a0_8 a0_9 a0_10 x2.1 x3).bind fun (x7:Int) =>
  bif (x4 != x7) then
   some (.inr (.inr false))
  else
   some (.inl (PL (x3+1)))
 else
  some (.inr (.inl x3))
def Q5 (n:Nat) (a0_0:Int) (a0_1:Int) (a0_2:List Int) (a0_3:List PA) (a0_4:Int) (a0_5:List O9) (a0_6:List PC) (a0_7:List PD) (a0_8:List Int) (a0_9:List Int) (a0_10:Int) (x1:Int):Option ((Int)⊕((Int)⊕(Bool))) :=
 bif (decide (x1<((List.length a0_3:Int)))) then
  ((ND a0_3 x1)).bind fun (x2:PA) =>
  (iter n (Q6 n a0_0 a0_1 a0_2 a0_3 a0_4 a0_5 a0_6 a0_7 a0_8 a0_9 a0_10 x2) 1).bind fun (x8:(Int)⊕(Bool)) =>
  (match x8 with
  | .inl x9=>(
   some (.inl (PL (x1+1))))
  | .inr x10=>(
   some (.inr (.inr x10))))
 else
  some (.inr (.inl x1))
def RU (n:Nat) (a0_0:Int) (a0_1:Int) (a0_2:List Int) (a0_3:List PA) (a0_4:Int) (a0_5:List O9) (a0_6:List PC) (a0_7:List PD) (a0_8:List Int) (a0_9:List Int) (a0_10:Int):Option (Bool) :=
 (iter n (Q5 n a0_0 a0_1 a0_2 a0_3 a0_4 a0_5 a0_6 a0_7 a0_8 a0_9 a0_10) 0).bind fun (x11:(Int)⊕(Bool)) =>
 (match x11 with
 | .inl x12=>(
  some true)
 | .inr x13=>(
  some x13))
def QE (a0_7:List PD) (x3:PC) (x4:Bool×Int):Option ((Bool×Int)⊕(Bool×Int)) :=
 bif (decide (x4.2<((List.length a0_7:Int)))) then
  ((ND a0_7 x4.2)).bind fun (x5:PD) =>
  (show Option (Bool) from
   bif x4.1 then
    some true
   else
    bif (x5.2.2.1==x3.1) then
     bif (x5.2.2.2==3) then
      some true
     else
      some (x5.2.2.2==4)
    else
     some false).bind fun (x6:Bool) =>
  some (.inl (x6,(PL (x4.2+1))))
 else
  some (.inr (x4.1,x4.2))
def Qq (n:Nat) (a0_6:List PC) (a0_7:List PD) (x2:Int):Option ((Int)⊕((Int)⊕(Bool))) :=
 bif (decide (x2<((List.length a0_6:Int)))) then
  ((ND a0_6 x2)).bind fun (x3:PC) =>
  (iter n (QE a0_7 x3) (false,0)).bind fun (x7:Bool×Int) =>
  (show Option (Bool) from
   bif x3.2.2.2.1 then
    some (!x7.1)
   else
    some false).bind fun (x8:Bool) =>
  bif x8 then
   some (.inr (.inr false))
  else
   some (.inl (PL (x2+1)))
 else
  some (.inr (.inl x2))
def RC (n:Nat) (a0_0:Int) (a0_1:Int) (a0_2:List Int) (a0_3:List PA) (a0_4:Int) (a0_5:List O9) (a0_6:List PC) (a0_7:List PD) (a0_8:List Int) (a0_9:List Int) (a0_10:Int):Option (Bool) :=
 (Qg n a0_0 a0_1 a0_2 a0_6).bind fun (x1:Bool) =>
 bif (!x1) then
  some false
 else
  (iter n (Qq n a0_6 a0_7) 0).bind fun (x9:(Int)⊕(Bool)) =>
  (match x9 with
  | .inl x10=>(
   some true)
  | .inr x11=>(
   some x11))
def Qo (a0_7:List PD) (x2:O9) (x3:Bool×Int):Option ((Bool×Int)⊕(Bool×Int)) :=
 bif (decide (x3.2<((List.length a0_7:Int)))) then
  ((ND a0_7 x3.2)).bind fun (x4:PD) =>
  (show Option (Bool) from
   bif x3.1 then
    some true
   else
    some (x4.1==x2.1)).bind fun (x5:Bool) =>
  some (.inl (x5,(PL (x3.2+1))))
 else
  some (.inr (x3.1,x3.2))
def RN (n:Nat) (a0_5:List O9) (a0_7:List PD) (x1:Int):Option ((Int)⊕((Int)⊕(Bool))) :=
 bif (decide (x1<((List.length a0_5:Int)))) then
  ((ND a0_5 x1)).bind fun (x2:O9) =>
  (iter n (Qo a0_7 x2) (false,0)).bind fun (x6:Bool×Int) =>
  bif (x6.1 != (x2.2.2.2.2==1)) then
   some (.inr (.inr false))
  else
   some (.inl (PL (x1+1)))
 else
  some (.inr (.inl x1))
def Rn (n:Nat) (a0_0:Int) (a0_1:Int) (a0_2:List Int) (a0_3:List PA) (a0_4:Int) (a0_5:List O9) (a0_6:List PC) (a0_7:List PD) (a0_8:List Int) (a0_9:List Int) (a0_10:Int):Option (Bool) :=
 (iter n (RN n a0_5 a0_7) 0).bind fun (x7:(Int)⊕(Bool)) =>
 (match x7 with
 | .inl x8=>(
  some true)
 | .inr x9=>(
  some x9))
def Rp (n:Nat) (a0_0:Int) (a0_1:Int) (a0_2:List Int) (a0_3:List PA) (a0_4:Int) (a0_5:List O9) (a0_6:List PC) (a0_7:List PD) (a0_8:List Int) (a0_9:List Int) (a0_10:Int):Option (Int) :=
 (QK n a0_0 a0_1 a0_2 a0_3 a0_4 a0_5 a0_6 a0_7 a0_8 a0_9 a0_10).bind fun (x1:Bool) =>
 bif (!x1) then
  some 1
 else
  (RA n a0_0 a0_1 a0_2 a0_3 a0_4 a0_5 a0_6 a0_7 a0_8 a0_9 a0_10).bind fun (x2:Bool) =>
  bif (!x2) then
   some 2
  else
   (RU n a0_0 a0_1 a0_2 a0_3 a0_4 a0_5 a0_6 a0_7 a0_8 a0_9 a0_10).bind fun (x3:Bool) =>
   bif (!x3) then
    some 3
   else
    (RC n a0_0 a0_1 a0_2 a0_3 a0_4 a0_5 a0_6 a0_7 a0_8 a0_9 a0_10).bind fun (x4:Bool) =>
    bif (!x4) then
     some 4
    else
     (Rn n a0_0 a0_1 a0_2 a0_3 a0_4 a0_5 a0_6 a0_7 a0_8 a0_9 a0_10).bind fun (x5:Bool) =>
     bif (!x5) then
      some 5
     else
      some 0
def RO (a0_6:List PC) (x1:Int):Option ((Int)⊕((Int)⊕(Bool))) :=
 bif (decide (x1<((List.length a0_6:Int)))) then
  ((ND a0_6 x1)).bind fun (x2:PC) =>
  bif (x2.2.2.1 != (-1)) then
   some (.inr (.inr false))
  else
   some (.inl (PL (x1+1)))
 else
  some (.inr (.inl x1))
def Ro (n:Nat) (a0_0:Int) (a0_1:Int) (a0_2:List Int) (a0_3:List PA) (a0_4:Int) (a0_5:List O9) (a0_6:List PC) (a0_7:List PD) (a0_8:List Int) (a0_9:List Int) (a0_10:Int):Option (Bool) :=
 (iter n (RO a0_6) 0).bind fun (x3:(Int)⊕(Bool)) =>
 (match x3 with
 | .inl x4=>(
  some (((List.length a0_7:Int))==0))
 | .inr x5=>(
  some x5))
def QC (x2:PA) (x3:PA) (x5:Int):Option ((Int)⊕((Int)⊕(Bool))) :=
 bif (decide (x5<((List.length x2.2.2:Int)))) then
  ((ND x2.2.2 x5)).bind fun (x6:PH) =>
  ((ND x3.2.2 x5)).bind fun (x7:PH) =>
  bif (!((x6.1==x7.1)&&((x6.2.1==x7.2.1)&&((x6.2.2==x7.2.2)&&true)))) then
   some (.inr (.inr false))
  else
   some (.inl (PL (x5+1)))
 else
  some (.inr (.inl x5))
def QB (n:Nat) (a0:List PA) (a1:List PA) (x1:Int):Option ((Int)⊕((Int)⊕(Bool))) :=
 bif (decide (x1<((List.length a0:Int)))) then
  ((ND a0 x1)).bind fun (x2:PA) =>
  ((ND a1 x1)).bind fun (x3:PA) =>
  (show Option (Bool) from
   bif (x2.1 != x3.1) then
    some true
   else
    bif (x2.2.1 != x3.2.1) then
     some true
    else
     some (((List.length x2.2.2:Int)) != ((List.length x3.2.2:Int)))).bind fun (x4:Bool) =>
  bif x4 then
   some (.inr (.inr false))
  else
   (iter n (QC x2 x3) 0).bind fun (x8:(Int)⊕(Bool)) =>
   (match x8 with
   | .inl x9=>(
    some (.inl (PL (x1+1))))
   | .inr x10=>(
    some (.inr (.inr x10))))
 else
  some (.inr (.inl x1))
def Ps (n:Nat) (a0:List PA) (a1:List PA):Option (Bool) :=
 bif (((List.length a0:Int)) != ((List.length a1:Int))) then
  some false
 else
  (iter n (QB n a0 a1) 0).bind fun (x11:(Int)⊕(Bool)) =>
  (match x11 with
  | .inl x12=>(
   some true)
  | .inr x13=>(
   some x13))
def Qa (x3:Int×Int×(List Int)×(List PA)×Int×(List O9)×(List PC)×(List PD)×(List Int)×(List Int)×Int×Bool) (x7:(List Int)) (x8:Int):Option ((Int)⊕((Int)⊕(Bool))) :=
 bif (decide (x8<((List.length x3.2.2.2.2.2.2.1:Int)))) then
  (show Option (Bool) from
   bif (Of x3.2.2.2.2.2.2.1 x8) then
    ((x3.2.2.2.2.2.2.1[(Int.toNat x8)]?)).bind fun (x9:PC) =>
    bif (Of x7 x8) then
     ((x7[(Int.toNat x8)]?)).bind fun (x10:Int) =>
     bif (x9.2.1 != x10) then
      some true
     else
      bif (Of x3.2.2.2.2.2.2.1 x8) then
       ((x3.2.2.2.2.2.2.1[(Int.toNat x8)]?)).bind fun (x11:PC) =>
       some (x11.1 != (PL (x8+1)))
      else
       none
    else
     none
   else
    none).bind fun (x12:Bool) =>
  bif x12 then
   some (.inr (.inr false))
  else
   some (.inl (PL (x8+1)))
 else
  some (.inr (.inl x8))
def RQ (n:Nat) (a0:List Int):Option (Bool) :=
 (Sc a0).bind fun (x1:Bool) =>
 bif x1 then
  some true
 else
  (Pm n a0).bind fun (x2:Int×Int×(List Int)×(List PA)) =>
  (QS n x2.1 x2.2.1 x2.2.2.1 x2.2.2.2).bind fun (x3:Int×Int×(List Int)×(List PA)×Int×(List O9)×(List PC)×(List PD)×(List Int)×(List Int)×Int×Bool) =>
  (QT n x2.1 x2.2.1 x2.2.2.1 x2.2.2.2).bind fun (x4:Int×Int×(List Int)×(List PA)×Int×(List O9)×(List PC)×(List PD)×(List Int)×(List Int)×Int×Bool) =>
  (show Option (Bool) from
   bif (x3.2.2.2.2.2.2.2.2.2.2.2 != x4.2.2.2.2.2.2.2.2.2.2.2) then
    some true
   else
    some (!x3.2.2.2.2.2.2.2.2.2.2.2)).bind fun (x5:Bool) =>
  bif x5 then
   (show Option (Bool) from
    bif (x3.2.2.2.2.2.2.2.2.2.2.2==x4.2.2.2.2.2.2.2.2.2.2.2) then
     some (((List.length x3.2.2.2.2.2.2.1:Int))==0)
    else
     some false).bind fun (x6:Bool) =>
   some x6
  else
   (QJ n x2.1 x2.2.1 x2.2.2.1 4).bind fun (x7:(List Int)) =>
   (iter n (Qa x3 x7) 0).bind fun (x13:(Int)⊕(Bool)) =>
   (match x13 with
   | .inl x14=>(
    (show Option (Bool) from
     (QK n x3.1 x3.2.1 x3.2.2.1 x3.2.2.2.1 x3.2.2.2.2.1 x3.2.2.2.2.2.1 x3.2.2.2.2.2.2.1 x3.2.2.2.2.2.2.2.1 x3.2.2.2.2.2.2.2.2.1 x3.2.2.2.2.2.2.2.2.2.1 x3.2.2.2.2.2.2.2.2.2.2.1).bind fun (x16:Bool) =>
     bif x16 then
      (Rp n x3.1 x3.2.1 x3.2.2.1 x3.2.2.2.1 x3.2.2.2.2.1 x3.2.2.2.2.2.1 x3.2.2.2.2.2.2.1 x3.2.2.2.2.2.2.2.1 x3.2.2.2.2.2.2.2.2.1 x3.2.2.2.2.2.2.2.2.2.1 x3.2.2.2.2.2.2.2.2.2.2.1).bind fun (x17:Int) =>
      bif (x17==0) then
       (Ro n x3.1 x3.2.1 x3.2.2.1 x3.2.2.2.1 x3.2.2.2.2.1 x3.2.2.2.2.2.1 x3.2.2.2.2.2.2.1 x3.2.2.2.2.2.2.2.1 x3.2.2.2.2.2.2.2.2.1 x3.2.2.2.2.2.2.2.2.2.1 x3.2.2.2.2.2.2.2.2.2.2.1).bind fun (x18:Bool) =>
       bif x18 then
        bif (((List.length x3.2.2.2.2.2.2.1:Int))==((List.length x7:Int))) then
         (Ps n x3.2.2.2.1 x2.2.2.2).bind fun (x19:Bool) =>
         some x19
        else
         bif (((List.length x3.2.2.2.2.2.2.1:Int))==20) then
          (Ps n x3.2.2.2.1 x2.2.2.2).bind fun (x20:Bool) =>
          some x20
         else
          some false
       else
        some false
      else
       some false
     else
      some false).bind fun (x21:Bool) =>
    some x21)
   | .inr x15=>(
    some x15))
end Go.Ev.N
