/- FnRestocked,as a plain law ot native forms: what the program's function answers is what the reference's answers. Conditions: none but the lengths' and numbers' bounds. -/
import Derived.Test.YthlchdmdanagkaaGreatFnRestockedPureA
set_option linter.all false
namespace Go.Ev.N
open Go Go.Ev
variable {w h k Pu nx id:Int}{c b:By}{a:It}{prs:List (Nat×Nat)}{i:Nat}{β:Type}{crew':ADX}{x p:Ph}{want:ADZ}{o ps:AAB}{ts:AAH}{t:P6}
theorem kS(hc:c.length<=1048576)(hf:P3 w h c=true)(ha:a.length<=1048576){crew:ADX}(hcr:crew.length<=1048576){l:AAH}(hl:l.length<=60)(n:Nat)(hn:Ps<=n):
  iter n (Si n w h c a crew l (Pp (P2 crew l)) (Pp (QW a l (P2 crew l).length))) ([],0)=some (VW w h c a crew l,((QW a l (P2 crew l).length).length:Int)):=by
 generalize hwho:P2 crew l=who;generalize hwhat:QW a l who.length=what;have h10:who.length<=10:=by rw[<-hwho];exact Xv crew l
 have hwl:what.length<=10:=by rw[<-hwhat];exact AAv (ZH a l _ _ _) h10
 have hlw:(Pp who).length=who.length:=by simp[Pp]
 have zA:(Pp what).length=what.length:=by simp[Pp]
 have:=Y1 (Si n w h c a crew l (Pp who) (Pp what)) (λi=>who.map λk=>R8 w h c (YH crew k).2.1 (QY a (XA l (what.getD i 0)).2.1)) what.length (λi hi=>by
  have hd:decide ((i:Int)<((Pp what).length:Int))=true:=by rw[AAf,zA];clear hn;omega
  obtain⟨t1,t2⟩:=WA hi;have htm:what.getD i 0∈QW a l who.length:=by rw[hwhat];exact VY hi
  obtain⟨f1,f2,f3,p,hp,f4,f5,f6⟩:=YR ha htm;generalize what.getD i 0=t at t2 htm f1 f2 f3 f4 f5 f6;generalize hout:(List.range i).map (λi=>who.map λk=>R8 w h c (YH crew k).2.1 (QY a (XA l (what.getD i 0)).2.1))=out;have hol:out.length=i:=by rw[<-hout];simp
  have yt:=Y1 (UO n w h c a crew l (Pp who) (Pp what) (out,(i:Int))) (λk=>R8 w h c (YH crew (who.getD k 0)).2.1 (QY a (XA l t).2.1)) who.length (λk hk=>by
   have hd2:decide ((k:Int)<((Pp who).length:Int))=true:=by rw[AAf,hlw];clear hn;omega
   obtain⟨w1,w2⟩:=WA hk;have hkm:who.getD k 0∈P2 crew l:=by rw[hwho];exact VY hk
   obtain⟨g1,g2⟩:=Y5 hkm;have hg:JQ crew ((who.getD k 0:Nat):Int)=some (YH crew (who.getD k 0)):=by rw[RU];exact iD g1
   have hgt:JQ l ((t:Nat):Int)=some (XA l t):=by rw[RU];exact dh f1
   have hgp:JQ a ((p:Nat):Int)=some a[p]:=Pk hp
   have hcost:Xf n w h c (YH crew (who.getD k 0)).2.1 (QY a (XA l t).2.1)=some (R8 w h c (YH crew (who.getD k 0)).2.1 (QY a (XA l t).2.1)):=by
    unfold Xf R8;rw[(bL hc hf _ _ n hn).1,ABT];by_cases q:UZ w h c (YH crew (who.getD k 0)).2.1 (QY a (XA l t).2.1)<0
    ·grind
    ·grind
   have yz:∀x:Int,decide (((List.range k).map λk=>R8 w h c (YH crew (who.getD k 0)).2.1 (QY a (XA l t).2.1)).length+[x].length<=Dj)=true:=λx=>Ru No;simp only[UO,hd2,ABU,w1,w2,t1,t2,ABX,ABT,hg,hgt,(RE a ha _ n hn).1,f4,hgp,<-f6,hcost,yz,Pj hk (show who.length<=9223372036854775807 by omega)]) (by
   have hd2:decide ((who.length:Int)<((Pp who).length:Int))=false:=by rw[AAl,hlw];clear hn;omega
   simp only[UO,hd2,ABV]) n ADd
  rw[Vp (λk=>R8 w h c (YH crew k).2.1 (QY a (XA l t).2.1)) who]at yt;have yz:∀x:By,decide (out.length+[x].length<=Dj)=true:=λx=>Ru J;simp only[Si,hd,ABU,yt,ABT,yz,Pj hi (show what.length<=9223372036854775807 by omega)]) (by
  have hd:decide ((what.length:Int)<((Pp what).length:Int))=false:=by rw[AAl,zA];clear hn;omega
  simp only[Si,hd,ABV]) n ADd
 rw[this,Vp (λt=>who.map λk=>R8 w h c (YH crew k).2.1 (QY a (XA l t).2.1)) what,<-hwhat,<-hwho];rfl
theorem ju(hc:c.length<=1048576)(hf:P3 w h c=true)(ha:a.length<=1048576){crew:ADX}(hcr:crew.length<=1048576){l:AAH}(hl:l.length<=60)(n:Nat)(hn:Ps<=n):
  iter n (SV n w h c a crew l (Pp (P2 crew l)) (Pp (QW a l (P2 crew l).length))) ([],0)=some (VW w h c a crew l,((QW a l (P2 crew l).length).length:Int)):=by
 generalize hwho:P2 crew l=who;generalize hwhat:QW a l who.length=what;have h10:who.length<=10:=by rw[<-hwho];exact Xv crew l
 have hwl:what.length<=10:=by rw[<-hwhat];exact AAv (ZH a l _ _ _) h10
 have hlw:(Pp who).length=who.length:=by simp[Pp]
 have zA:(Pp what).length=what.length:=by simp[Pp]
 have:=Y1 (SV n w h c a crew l (Pp who) (Pp what)) (λi=>who.map λk=>R8 w h c (YH crew k).2.1 (QY a (XA l (what.getD i 0)).2.1)) what.length (λi hi=>by
  have hd:decide ((i:Int)<((Pp what).length:Int))=true:=by rw[AAf,zA];clear hn;omega
  obtain⟨t1,t2⟩:=WA hi;have htm:what.getD i 0∈QW a l who.length:=by rw[hwhat];exact VY hi
  obtain⟨f1,f2,f3,p,hp,f4,f5,f6⟩:=YR ha htm;generalize what.getD i 0=t at t2 htm f1 f2 f3 f4 f5 f6;generalize hout:(List.range i).map (λi=>who.map λk=>R8 w h c (YH crew k).2.1 (QY a (XA l (what.getD i 0)).2.1))=out;have hol:out.length=i:=by rw[<-hout];simp
  have yt:=Y1 (UC n w h c a crew l (Pp who) (t:Int)) (λk=>R8 w h c (YH crew (who.getD k 0)).2.1 (QY a (XA l t).2.1)) who.length (λk hk=>by
   have hd2:decide ((k:Int)<((Pp who).length:Int))=true:=by rw[AAf,hlw];clear hn;omega
   obtain⟨w1,w2⟩:=WA hk;have hkm:who.getD k 0∈P2 crew l:=by rw[hwho];exact VY hk
   obtain⟨g1,g2⟩:=Y5 hkm;have hg:JQ crew ((who.getD k 0:Nat):Int)=some (YH crew (who.getD k 0)):=by rw[RU];exact iD g1
   have hgt:JQ l ((t:Nat):Int)=some (XA l t):=by rw[RU];exact dh f1
   have hgp:JQ a ((p:Nat):Int)=some a[p]:=Pk hp
   have hcost:(bif decide (UZ w h c (YH crew (who.getD k 0)).2.1 (QY a (XA l t).2.1)<0)then some (100000:Int)else some (UZ w h c (YH crew (who.getD k 0)).2.1 (QY a (XA l t).2.1)))=some (R8 w h c (YH crew (who.getD k 0)).2.1 (QY a (XA l t).2.1)):=by
    unfold R8;by_cases q:UZ w h c (YH crew (who.getD k 0)).2.1 (QY a (XA l t).2.1)<0
    ·grind
    ·grind
   have yz:∀x:Int,decide (((List.range k).map λk=>R8 w h c (YH crew (who.getD k 0)).2.1 (QY a (XA l t).2.1)).length+[x].length<=Dj)=true:=λx=>Ru No;simp only[UC,W0,hd2,ABU,w1,w2,ABX,ABT,hg,hgt,(RE a ha _ n hn).1,f4,hgp,<-f6,(bL hc hf _ _ n hn).2.1,hcost,yz,Pj hk (show who.length<=9223372036854775807 by omega)]) (by
   have hd2:decide ((who.length:Int)<((Pp who).length:Int))=false:=by rw[AAl,hlw];clear hn;omega
   simp only[UC,hd2,ABV]) n ADd
  rw[Vp (λk=>R8 w h c (YH crew k).2.1 (QY a (XA l t).2.1)) who]at yt;have yz:∀x:By,decide (out.length+[x].length<=Dj)=true:=λx=>Ru J;simp only[SV,hd,ABU,t1,t2,ABX,yt,ABT,yz,Pj hi (show what.length<=9223372036854775807 by omega)]) (by
  have hd:decide ((what.length:Int)<((Pp what).length:Int))=false:=by rw[AAl,zA];clear hn;omega
  simp only[SV,hd,ABV]) n ADd
 rw[this,Vp (λt=>who.map λk=>R8 w h c (YH crew k).2.1 (QY a (XA l t).2.1)) what,<-hwhat,<-hwho];rfl
theorem al(hc:c.length<=1048576)(hf:P3 w h c=true)(a:It)(crew:ADX)(l:AAH):(Qm w h c a crew l).length=(QW a l (P2 crew l).length).length/\(Qm w h c a crew l).Nodup/\∀k∈Qm w h c a crew l,k<(P2 crew l).length:=by
 have hcm:=dr hc hf a crew l;obtain⟨p1,p2,p3⟩:=pY (Pv (VW w h c a crew l)) (List.range (P2 crew l).length) AB7 (by rw[List.length_range];simpa[Pv]using hcm.nm);refine⟨by unfold Qm;rw[p1];simp[Pv,VW],p2,λk hk=>AAX.1 (p3 k hk)⟩
theorem ed(hc:c.length<=1048576)(hf:P3 w h c=true)(ha:a.length<=1048576){crew:ADX}{l:AAH}{j:Nat}(hj:j<(Qm w h c a crew l).length):
  ∃(q k t p:Nat) (row:By),(Pp (Qm w h c a crew l))[j]?=some (q:Int)/\O3 (Pp (Qm w h c a crew l)) (j:Int)=true/\O3 (Pp (P2 crew l)) (q:Int)=true/\(Pp (P2 crew l))[q]?=some (k:Int)/\
   O3 (VW w h c a crew l) (j:Int)=true/\(VW w h c a crew l)[j]?=some row/\O3 row (q:Int)=true/\row[q]?=some (R8 w h c (YH crew k).2.1 (QY a (XA l t).2.1))/\
   O3 (Pp (QW a l (P2 crew l).length)) (j:Int)=true/\(Pp (QW a l (P2 crew l).length))[j]?=some (t:Int)/\k<crew.length/\t<l.length/\
   SO a (XA l t).2.1=(p:Int)/\(∃x,JQ a (p:Int)=some x/\x.2.1=QY a (XA l t).2.1)/\
   X3 w h c a crew l j=if R8 w h c (YH crew k).2.1 (QY a (XA l t).2.1)<100000 then some (t,k)else none:=by
 obtain⟨c1,c2,c3⟩:=al hc hf a crew l;have hq:=c3 _ (VY hj);have hw:j<(QW a l (P2 crew l).length).length:=J
 obtain⟨a1,a2⟩:=WA hj;obtain⟨b1,b2⟩:=WA hq;obtain⟨d1,d2⟩:=WA hw;obtain⟨f1,f2,f3,p,hp,f4,f5,f6⟩:=YR ha (VY hw);obtain⟨g1,_⟩:=Y5 (VY hq);have hM:j<(VW w h c a crew l).length:=by simpa[VW]using hw
 have yz:(VW w h c a crew l)[j]?=some ((P2 crew l).map λk=>R8 w h c (YH crew k).2.1 (QY a (XA l ((QW a l (P2 crew l).length).getD j 0)).2.1)):=by unfold VW;rw[AAb,AAI hw,List.getD,AAI hw];rfl
 refine⟨(Qm w h c a crew l).getD j 0,(P2 crew l).getD ((Qm w h c a crew l).getD j 0) 0,(QW a l (P2 crew l).length).getD j 0,p,_,a2,a1,b1,b2,Po hM,yz,Po (by simpa using hq),?_,d1,d2,g1,f1,f4,⟨a[p],Pk hp,f6.symm⟩,rfl⟩;grind
theorem gb(a:It)(crew:ADX)(l:AAH)(w h:Int)(c:By)(j:Nat):sendAll a crew l ((List.range (j+1)).filterMap (X3 w h c a crew l))=match X3 w h c a crew l j with
  |some p=>RY a crew l p (sendAll a crew l ((List.range j).filterMap (X3 w h c a crew l)))
  |none=>sendAll a crew l ((List.range j).filterMap (X3 w h c a crew l)):=by
 unfold sendAll;rw[AB3,List.filterMap_append,List.foldl_append];grind
theorem mZ(hc:c.length<=1048576)(hf:P3 w h c=true)(ha:a.length<=1048576){crew:ADX}(hcr:crew.length<=1048576){l:AAH}(hl:l.length<=60)(s x:Int)(n:Nat)(hn:Ps<=n):
  iter n (Rk n a l (Pp (P2 crew l)) (Pp (QW a l (P2 crew l).length)) (VW w h c a crew l,x) (Pp (Qm w h c a crew l),s)) (0,crew,l)=some (((Qm w h c a crew l).length:Int),sendAll a crew l (QR w h c a crew l)):=by
 have h10:=Xv crew l;obtain⟨c1,c2,c3⟩:=al hc hf a crew l;have hcl:(Qm w h c a crew l).length<=10:=by rw[c1];exact AAv (ZH a l _ _ _) h10
 have:=P8 (Rk n a l (Pp (P2 crew l)) (Pp (QW a l (P2 crew l).length)) (VW w h c a crew l,x) (Pp (Qm w h c a crew l),s)) (λj=>((j:Int),sendAll a crew l ((List.range j).filterMap (X3 w h c a crew l)))) (Qm w h c a crew l).length (((Qm w h c a crew l).length:Int),sendAll a crew l (QR w h c a crew l)) (λj hj=>by
  obtain⟨q,k,t,p,row,e1,e2,e3,e4,e5,e6,e7,e8,e9,e10,e11,e12,e13,⟨y,e14,e15⟩,e16⟩:=ed hc hf ha hj;have hlc:(Pp (Qm w h c a crew l)).length=(Qm w h c a crew l).length:=by simp[Pp]
  have hd:decide ((j:Int)<((Pp (Qm w h c a crew l)).length:Int))=true:=by rw[AAf,hlc];clear hn;omega
  rw[gb,e16];have hsi:SI crew l (sendAll a crew l ((List.range j).filterMap (X3 w h c a crew l))):=SI.all _ _ (SI.first crew l);generalize sendAll a crew l ((List.range j).filterMap (X3 w h c a crew l))=st at hsi;obtain⟨cr,tk⟩:=st;have hgt:JQ l (t:Int)=some (XA l t):=by rw[RU];exact dh e12
  have hw:Pn ((j:Int)+1)=((j+1:Nat):Int):=Pj hj J;by_cases hcost:R8 w h c (YH crew k).2.1 (QY a (XA l t).2.1)<100000
  ·rw[AAP hcost];obtain⟨r,r1,r2⟩:=hsi.id k e11;have l1:=hsi.l1;have l2:=hsi.l2;dsimp only at r1 l1 l2;have i1:O3 cr (k:Int)=true:=Po J;have i2:∀f,O3 (List.modify cr k f) (k:Int)=true:=λf=>Po No;have i3:∀f g,O3 (List.modify (List.modify cr k f) k g) (k:Int)=true:=λf g=>Po No;have i4:O3 tk (t:Int)=true:=Po J;have i5:∀f,O3 (List.modify tk t f) (t:Int)=true:=λf=>Po No
   have g1:∀f g,(List.modify (List.modify cr k f) k g)[k]?=some (g (f r)):=λf g=>No
   simp only[Rk,hd,ABU,ABX,e1,e2,e3,e4,e5,e6,e7,e8,e9,e10,ABT,ABZ hcost,hgt,(RE a ha _ n hn).1,e13,e14,e15,i1,i2,i3,i4,i5,g1,hw,RY,r2]
  ·rw[AAQ hcost];simp only[Rk,hd,ABU,ABV,ABX,e1,e2,e3,e4,e5,e6,e7,e8,e9,e10,ABT,ABd hcost,hw]) (by
  have hlc:(Pp (Qm w h c a crew l)).length=(Qm w h c a crew l).length:=by simp[Pp]
  have hd:decide (((Qm w h c a crew l).length:Int)<((Pp (Qm w h c a crew l)).length:Int))=false:=by rw[AAl,hlc];clear hn;omega
  simp only[Rk,hd,ABV];rfl) n ADd
 exact this
theorem ly(hc:c.length<=1048576)(hf:P3 w h c=true)(ha:a.length<=1048576){crew:ADX}(hcr:crew.length<=1048576){l:AAH}(hl:l.length<=60)(s x:Int)(n:Nat)(hn:Ps<=n):
  iter n (Rj n a (Pp (P2 crew l)) (Pp (QW a l (P2 crew l).length)) (VW w h c a crew l,x) (Pp (Qm w h c a crew l),s)) (0,crew,l)=some (((Qm w h c a crew l).length:Int),sendAll a crew l (QR w h c a crew l)):=by
 have h10:=Xv crew l;obtain⟨c1,c2,c3⟩:=al hc hf a crew l;have hcl:(Qm w h c a crew l).length<=10:=by rw[c1];exact AAv (ZH a l _ _ _) h10
 have:=P8 (Rj n a (Pp (P2 crew l)) (Pp (QW a l (P2 crew l).length)) (VW w h c a crew l,x) (Pp (Qm w h c a crew l),s)) (λj=>((j:Int),sendAll a crew l ((List.range j).filterMap (X3 w h c a crew l)))) (Qm w h c a crew l).length (((Qm w h c a crew l).length:Int),sendAll a crew l (QR w h c a crew l)) (λj hj=>by
  obtain⟨q,k,t,p,row,e1,e2,e3,e4,e5,e6,e7,e8,e9,e10,e11,e12,e13,⟨y,e14,e15⟩,e16⟩:=ed hc hf ha hj;have hlc:(Pp (Qm w h c a crew l)).length=(Qm w h c a crew l).length:=by simp[Pp]
  have hd:decide ((j:Int)<((Pp (Qm w h c a crew l)).length:Int))=true:=by rw[AAf,hlc];clear hn;omega
  rw[gb,e16];have hsi:SI crew l (sendAll a crew l ((List.range j).filterMap (X3 w h c a crew l))):=SI.all _ _ (SI.first crew l);generalize sendAll a crew l ((List.range j).filterMap (X3 w h c a crew l))=st at hsi;obtain⟨cr,tk⟩:=st;have hw:Pn ((j:Int)+1)=((j+1:Nat):Int):=Pj hj J;by_cases hcost:R8 w h c (YH crew k).2.1 (QY a (XA l t).2.1)<100000
  ·rw[AAP hcost];have zu:decide (R8 w h c (YH crew k).2.1 (QY a (XA l t).2.1)>=100000)=false:=ABd J;obtain⟨r,r1,r2⟩:=hsi.id k e11;obtain⟨u,u1,u2⟩:=hsi.Pu t e12;have l1:=hsi.l1;have l2:=hsi.l2;dsimp only at r1 u1 l1 l2;have i1:O3 cr (k:Int)=true:=Po J;have i4:O3 tk (t:Int)=true:=Po J
   have g1:∀f g,(List.modify (List.modify tk t f) t g)[t]?=some (g (f u)):=λf g=>No
   simp only[Rj,W0,hd,ABU,ABV,ABX,e1,e2,e3,e4,e5,e6,e7,e8,e9,e10,ABT,zu,i1,i4,r1,g1,u2,(RE a ha _ n hn).1,e13,e14,e15,hw,RY,r2]
  ·rw[AAQ hcost];have zu:decide (R8 w h c (YH crew k).2.1 (QY a (XA l t).2.1)>=100000)=true:=ABZ J;simp only[Rj,hd,ABU,ABX,e1,e2,e3,e4,e5,e6,e7,e8,ABT,zu,hw]) (by
  have hlc:(Pp (Qm w h c a crew l)).length=(Qm w h c a crew l).length:=by simp[Pp]
  have hd:decide (((Qm w h c a crew l).length:Int)<((Pp (Qm w h c a crew l)).length:Int))=false:=by rw[AAl,hlc];clear hn;omega
  simp only[Rj,hd,ABV];rfl) n ADd
 exact this
theorem dx{crew:ADX}(hk:Tl w h c crew=true):P3 w h c=true:=by unfold Tl at hk;grind
theorem cL(hc:c.length<=1048576)(ha:P4 a){crew:ADX}(hcr:crew.length<=1048576){l:AAH}(hl:l.length<=1048576)(n:Nat)(hn:Ps<=n):Wg n w h c a crew l=some (gI w h c a crew l):=by
 have r1:decide (([]:ADX).length+crew.length<=Dj)=true:=by rw[AAf];simp[Dj];clear hn;omega
 have r2:decide (([]:AAH).length+l.length<=Dj)=true:=by rw[AAf];simp[Dj];clear hn;omega
 have hal:a.length<=1048576:=ha.1;unfold Wg gI gu;simp only[r1,r2,ABU,Qa a ha n hn,X9 w h c hc crew hcr n hn,ZT l hl n hn,ABT,AA0];cases hs:QP a with
 |false=>rfl
 |true=>cases hk:Tl w h c crew with
  |false=>rfl
  |true=>cases ht:SU l with
   |false=>rfl
   |true=>
    have hf:=dx hk
    have h60:l.length<=60:=by unfold SU at ht;simp only[AAJ,AAf]at ht;exact ht.1
    have hil:(Pp (P2 crew l)).length=(P2 crew l).length:=by simp[Pp]
    obtain⟨s,s2⟩:=kU (dr hc hf a crew l) n hn;simp only[ABc,ABV,ABT,iG crew hcr l hl n hn,hil,fy a hal l h60 _ n hn,kS hc hf hal hcr h60 n hn,s2,ACE,ABU];rw[show Pp (pk (Pv (VW w h c a crew l)) (List.range (P2 crew l).length))=Pp (Qm w h c a crew l)from rfl,mZ hc hf hal hcr h60 _ _ n hn];rfl
theorem ba(hc:c.length<=1048576)(ha:P4 a){crew:ADX}(hcr:crew.length<=1048576){l:AAH}(hl:l.length<=1048576)(n:Nat)(hn:Ps<=n):WT n w h c a crew l=some (gI w h c a crew l):=by
 have r1:decide (crew.length<=Dj)=true:=by rw[AAf];simp[Dj];clear hn;omega
 have r2:decide (l.length<=Dj)=true:=by rw[AAf];simp[Dj];clear hn;omega
 have hal:a.length<=1048576:=ha.1;have c1:RL crew=some crew:=by unfold RL;rw[r1];rfl
 have c2:Q0 l=some l:=by unfold Q0;rw[r2];rfl
 unfold WT gI gu;rw[Yn];simp only[c1,c2,QT w h c hc n hn,Qq a ha n hn,Vc w h c hc crew hcr n hn,ZQ l hl n hn,ABT];cases hk:Tl w h c crew with
 |false=>grind
 |true=>
  have hf:=dx hk;rw[hf];cases hs:QP a with
  |false=>rfl
  |true=>cases ht:SU l with
   |false=>rfl
   |true=>
    have h60:l.length<=60:=by unfold SU at ht;simp only[AAJ,AAf]at ht;exact ht.1
    have hil:(Pp (P2 crew l)).length=(P2 crew l).length:=by simp[Pp]
    obtain⟨s,s1,_⟩:=jl (dr hc hf a crew l) n hn;simp only[ABc,ABV,ABT,gx crew hcr l hl n hn,hil,fX a hal l h60 _ n hn,ju hc hf hal hcr h60 n hn,s1,ACE,ABU];rw[show Pp (pk (Pv (VW w h c a crew l)) (List.range (P2 crew l).length))=Pp (Qm w h c a crew l)from rfl,ly hc hf hal hcr h60 _ _ n hn];rfl
structure TP(l:AAH):Prop where
 len:l.length<=60
 p8:∀i (h:i<l.length),Qe l[i]=true
 apart:∀i j (hi:i<l.length) (hj:j<i),QG l[i] l[j]=false
theorem dC:∀(l p:AAH),SK p l=true↔(∀x∈l,Qe x=true)/\(∀x∈l,∀u∈p,QG x u=false)/\l.Pairwise λu x=>QG x u=false
 | [],p=>by simp[SK]
 |x::l,p=>by simp only[SK,AAJ,dC l (p++[x]),AAW,AAU,ABl];grind
theorem W9{l:AAH}:SU l=true↔TP l:=by
 unfold SU;rw[AAJ,AAf,dC];constructor
 ·rintro ⟨h1,h2,_,h3⟩
  exact⟨h1,λi h=>h2 _ (ABW h),λi j hi hj=>ABR.1 h3 j i J hi hj⟩
 ·rintro ⟨h1,h2,h3⟩
  refine⟨h1,λx hx=>?_,λ_ _ _ h=>ADl,ABR.2 λa b ha hb hab=>h3 b a hb hab⟩;obtain⟨i,hi,rfl⟩:=ABY.1 hx;exact h2 i hi
theorem lC(a:It)(crew:ADX)(l:AAH):∀(prs:List (Nat×Nat)) (st:ADX×AAH),(prs.map (·.1)).Nodup->(prs.map (·.2)).Nodup->
  (∀k,((prs.foldl (λst p=>RY a crew l p st) st).1)[k]?=match prs.find? (λp=>p.2==k)with
   |some p=>(st.1[k]?).map λy=>(y.1,y.2.1,QY a (XA l p.1).2.1,y.2.2.2.1,0)
   |none=>st.1[k]?)/\
  (∀i,((prs.foldl (λst p=>RY a crew l p st) st).2)[i]?=match prs.find? (λp=>p.1==i)with
   |some p=>(st.2[i]?).map λy=>(y.1,y.2.1,(YH crew p.2).1,2)
   |none=>st.2[i]?)
 | [],st,_,_=>⟨λk=>rfl,λi=>rfl⟩
 |p::prs,st,h1,h2=>by
  obtain⟨a1,a2⟩:=AAa.1 h1;obtain⟨b1,b2⟩:=AAa.1 h2;obtain⟨q1,q2⟩:=lC a crew l prs (RY a crew l p st) a2 b2;refine⟨λk=>?_,λi=>?_⟩
  ·rw[List.foldl_cons,q1 k,List.find?_cons];by_cases e:p.2=k
   ·have hn:prs.find? (λp=>p.2==k)=none:=ACH.2 λx hx hb=>b1 (AAt.2 ⟨x,hx,(by simpa using hb:x.2=k).trans e.symm⟩);rw[hn,show(p.2==k)=true by simpa using e];simp only[RY,ABf,e,if_true];grind
   ·rw[show(p.2==k)=false by simpa using e]
    have he:(RY a crew l p st).1[k]?=st.1[k]?:=by simp only[RY,ABf,e,if_false];grind
    rw[he]
  ·rw[List.foldl_cons,q2 i,List.find?_cons];by_cases e:p.1=i
   ·have hn:prs.find? (λp=>p.1==i)=none:=ACH.2 λx hx hb=>a1 (AAt.2 ⟨x,hx,(by simpa using hb:x.1=i).trans e.symm⟩);rw[hn,show(p.1==i)=true by simpa using e];simp only[RY,ABf,e,if_true];grind
   ·rw[show(p.1==i)=false by simpa using e]
    have he:(RY a crew l p st).2[i]?=st.2[i]?:=by simp only[RY,ABf,e,if_false];grind
    rw[he]
structure mm(w h:Int)(c:By)(a:It)(crew:ADX)(l:AAH)(prs:List (Nat×Nat)):Prop where
 n1:(prs.map (·.1)).Nodup
 n2:(prs.map (·.2)).Nodup
 bD:∀p∈prs,p.1∈QW a l (P2 crew l).length
 w9:∀p∈prs,p.2∈P2 crew l
 yo:∀p∈prs,0<=UZ w h c (YH crew p.2).2.1 (QY a (XA l p.1).2.1)
theorem dy(hc:c.length<=1048576)(hf:P3 w h c=true)(a:It)(crew:ADX)(l:AAH):mm w h c a crew l (QR w h c a crew l):=by
 obtain⟨c1,c2,c3⟩:=al hc hf a crew l;have hready:(QW a l (P2 crew l).length).Nodup:=List.Pairwise.imp (fun {x y} h=>by have:=h.1;omega) (eZ a l _ (UX l) 0)
 have hpd:∀j p,X3 w h c a crew l j=some p->p.1=(QW a l (P2 crew l).length).getD j 0/\p.2=(P2 crew l).getD ((Qm w h c a crew l).getD j 0) 0/\0<=UZ w h c (YH crew p.2).2.1 (QY a (XA l p.1).2.1):=λj p hp=>by
  unfold X3 at hp;split at hp
  ·rename_i zA;injection hp with hp
   subst hp;refine⟨rfl,rfl,?_⟩;dsimp only;unfold R8 at zA;by_cases q:UZ w h c (YH crew ((P2 crew l).getD ((Qm w h c a crew l).getD j 0) 0)).2.1 (QY a (XA l ((QW a l (P2 crew l).length).getD j 0)).2.1)<0
   ·rw[AAP q]at zA;omega
   ·omega
  ·cases hp
 have hmem:∀p∈QR w h c a crew l,∃j,j<(Qm w h c a crew l).length/\X3 w h c a crew l j=some p:=λp hp=>by obtain⟨j,hj,e⟩:=List.mem_filterMap.1 hp;exact⟨j,AAX.1 hj,e⟩
 have at_ne:∀(s:Is),s.Nodup->∀i j,i<s.length->j<s.length->i≠j->s.getD i 0≠s.getD j 0:=λs hs i j hi hj zD e=>by rw[List.getD,List.getD,AAI hi,AAI hj]at e;exact zD (eV hs hi hj e)
 have pw:(QR w h c a crew l).Pairwise λp q=>p.1≠q.1/\p.2≠q.2:=by unfold QR;rw[List.pairwise_filterMap];refine ACN (fun {i j} hi hj hij p hp q hq=>?_) (List.pairwise_lt_range (n:=(Qm w h c a crew l).length));rw[AAX]at hi hj;obtain⟨p1,p2,_⟩:=hpd i p hp;obtain⟨q1,q2,_⟩:=hpd j q hq;rw[p1,p2,q1,q2];refine⟨at_ne _ hready i j J J J,at_ne _ (lp crew l) _ _ (c3 _ (VY hi)) (c3 _ (VY hj)) (at_ne _ c2 i j hi hj J)⟩
 refine⟨?_,?_,λp hp=>?_,λp hp=>?_,λp hp=>?_⟩
 ·unfold List.Nodup;rw[ABk];exact pw.imp λh=>h.1
 all_goals grind
theorem kY(hc:c.length<=1048576)(hf:P3 w h c=true){a b:Int}(hs:0<=UZ w h c a b):Qy c b=true:=by
 cases hb:Qy c b with
 |true=>rfl
 |false=>
  exfalso;obtain⟨_,e,_,_⟩:=bL hc hf a b Ps (AAc _);obtain⟨k,k1,k2⟩:=Tp w h c hc hf b Ps (AAc _);rw[hb]at k2;have k3:(k==0)=true:=by simpa using k2
  unfold Tq at e;grind
structure ji(a:It)(crew:ADX)(l:AAH)(prs:List (Nat×Nat))(crew':ADX)(l':AAH):Prop where
 l1:crew'.length=crew.length
 l2:l'.length=l.length
 rb:∀k (h:k<crew.length) (h':k<crew'.length),(∃p∈prs,p.2=k/\crew'[k]=(crew[k].1,crew[k].2.1,QY a (XA l p.1).2.1,crew[k].2.2.2.1,0))\/((∀p∈prs,p.2≠k)/\crew'[k]=crew[k])
 tk:∀i (h:i<l.length) (h':i<l'.length),(∃p∈prs,p.1=i/\l'[i]=(l[i].1,l[i].2.1,(YH crew p.2).1,2))\/((∀p∈prs,p.1≠i)/\l'[i]=l[i])
theorem ZI{crew:ADX}{l:AAH}(h1:(prs.map (·.1)).Nodup)(h2:(prs.map (·.2)).Nodup):ji a crew l prs (sendAll a crew l prs).1 (sendAll a crew l prs).2:=by
 obtain⟨q1,q2⟩:=lC a crew l prs (crew,l) h1 h2;have hsi:=SI.all (a:=a) prs _ (SI.first crew l);have hfind:∀(P:Nat×Nat->Bool),prs.find? P=none->∀p∈prs,P p=false:=λP h p hp=>No
 refine⟨hsi.l1,hsi.l2,λk hk hk'=>?_,λi hi hi'=>?_⟩
 ·have:=q1 k;change (sendAll a crew l prs).1[k]?=_ at this;grind
 ·have:=q2 i;change (sendAll a crew l prs).2[i]?=_ at this;grind
theorem cZ{l:AAH}(h:i<l.length):XA l i=l[i]:=by unfold XA;grind
theorem cE{crew:ADX}(h:i<crew.length):YH crew i=crew[i]:=by unfold YH;grind
theorem bO{x u:P6}:QG x u=false↔¬(x.1=u.1/\x.2.1=u.2.1)/\(x.2.2.2≠1->x.2.2.1≠u.2.2.1/\(x.2.1=u.2.1->u.2.2.2=1)):=by unfold QG;grind
structure CW(c:By)(crew:ADX):Prop where
 n20:crew.length<=20
 qA:∀r∈crew,1<=r.1/\r.1<=99
 mb:∀r∈crew,Qy c r.2.1=true
 goal:∀r∈crew,r.2.2.1 = -1\/Qy c r.2.2.1=true
 pq:∀r∈crew,0<=r.2.2.2.2/\r.2.2.2.2<=1000000
 ids:crew.Pairwise λr s=>r.1<s.1
 fN:crew.Pairwise λr s=>r.2.1≠s.2.1
theorem X5(f:β->Int)(l:List β)(h:∀i (hi:i+1<l.length),f l[i]<f l[i+1]):l.Pairwise λx y=>f x<f y:=by
 rw[ABR]
 have key:∀d i (hj:i+d+1<l.length),f (l[i]'(by omega))<f l[i+d+1]:=by
  intro d
  induction d with
  |zero=>intro i hj;exact h i hj
  |succ d ih=>
   intro i hj;have h1:=ih i J;have h2:=h (i+d+1) J;have e:i+(d+1)+1=i+d+1+1:=J
   simp only[e];omega
 intro i j hi hj hij;have:=key (j-i-1) i J;grind
theorem gY{crew:ADX}(hi:i<crew.length):ny c crew i=true↔(1<=crew[i].1/\crew[i].1<=99)/\Qy c crew[i].2.1=true/\(crew[i].2.2.1 = -1\/Qy c crew[i].2.2.1=true)/\(0<=crew[i].2.2.2.2/\crew[i].2.2.2.2<=1000000)/\
  (∀j (hj:j+1=i),(crew[j]'(by omega)).1<crew[i].1)/\∀j (hj:j<i),(crew[j]'(by omega)).2.1≠crew[i].2.1:=by
 have hp:RJ (·.1) crew i crew[i]=true↔∀j (hj:j+1=i),(crew[j]'(by omega)).1<crew[i].1:=by
  cases i with
  |zero=>exact⟨λ_ j hj=>J,λ_=>rfl⟩
  |succ k=>
   simp only[RJ,AAI (show k<crew.length by omega),AAU,AAl]
   exact⟨λh j hj=>by
    have:j=k:=J
    subst this;omega,λh=>by have:=h k rfl;omega⟩
 have ha:((crew.take i).all λy => !(y.2.1==crew[i].2.1))=true↔∀j (hj:j<i),(crew[j]'(by omega)).2.1≠crew[i].2.1:=by
  rw[AAW];constructor
  ·intro h j hj;have:=h crew[j] (ABY.2 ⟨j,ADg,OF⟩);simpa using this
  ·intro h y hy;obtain⟨j,hj,rfl⟩:=ABY.1 hy;have hji:j<i:=by simp at hj;omega
   have:=h j hji;simpa using this
 unfold ny;rw[AAI hi];simp only[AAJ,hp,ha,AAe,AAT];unfold Qg;grind
theorem WB{crew:ADX}:Tl w h c crew=true↔P3 w h c=true/\CW c crew:=by
 unfold Tl;simp only[AAJ,AAf,AAW,AAX];constructor
 ·rintro ⟨⟨hf,hn⟩,zq⟩
  have hr:∀i (hi:i<crew.length),_:=λi hi=>(gY hi).1 (zq i hi)
  refine⟨hf,⟨hn,λr zk=>?_,λr zk=>?_,λr zk=>?_,λr zk=>?_,X5 _ _ λi hi=>(hr (i+1) hi).2.2.2.2.1 i rfl,ABR.2 λi j hi hj hij=>(hr j hj).2.2.2.2.2 i hij⟩⟩ <;>
   (obtain⟨i,hi,rfl⟩:=ABY.1 zk)
  ·exact(hr i hi).1
  ·exact(hr i hi).2.1
  ·exact(hr i hi).2.2.1
  ·exact(hr i hi).2.2.2.1
 ·rintro ⟨hf,hw⟩
  refine⟨⟨hf,hw.n20⟩,λi hi=>(gY hi).2 ?_⟩;have hm:=ABW hi;exact⟨hw.qA _ hm,hw.mb _ hm,hw.goal _ hm,hw.pq _ hm,λj hj=>ABR.1 hw.ids j i J hi J,λj hj=>ABR.1 hw.fN j i J hi hj⟩
theorem mm.ea{crew:ADX}{l:AAH}(hd:mm w h c a crew l prs)(hc:CW c crew){p:Nat×Nat}(hp:p∈prs):∃hk:p.2<crew.length,1<=crew[p.2].1/\crew[p.2].1<=99/\crew[p.2].2.2.1 = -1/\crew[p.2].2.2.2.1=false/\∀j (hj:j<l.length),l[j].2.2.1≠crew[p.2].1:=by obtain⟨hk,hi⟩:=Y5 (hd.w9 p hp);have h1:=hc.qA _ (ABW hk);unfold eL at hi;grind
theorem mm.XJ(ha:a.length<=1048576){crew:ADX}{l:AAH}(hd:mm w h c a crew l prs){p:Nat×Nat}(hp:p∈prs):∃hk:p.1<l.length,l[p.1].2.2.2=1/\l[p.1].2.1∉UX l/\∃i,∃hi:i<a.length,SO a l[p.1].2.1=(i:Int)/\a[i].1=l[p.1].2.1/\QY a l[p.1].2.1=a[i].2.1:=by obtain⟨q1,q2,q3,q4⟩:=YR ha (hd.bD p hp);rw[cZ q1]at q2 q3 q4;grind
theorem iU{l:AAH}{j:Nat}(hj:j<l.length)(zD:l[j].2.2.2≠1):l[j].2.1∈UX l:=by unfold UX;grind
theorem mm.two(ha:a.length<=1048576){crew:ADX}{l:AAH}(hd:mm w h c a crew l prs)(hc:CW c crew){p q:Nat×Nat}(hp:p∈prs)(hq:q∈prs)(zD:p.1≠q.1):
  (YH crew p.2).1≠(YH crew q.2).1/\(XA l p.1).2.1≠(XA l q.1).2.1:=by
 obtain⟨r1,_⟩:=hd.ea hc hp;obtain⟨r2,_⟩:=hd.ea hc hq;obtain⟨i,hi,rfl⟩:=ABY.1 hp;obtain⟨j,hj,rfl⟩:=ABY.1 hq;have hij:i≠j:=λq=>zD (by subst q;rfl)
 have h2:prs[i].2≠prs[j].2:=λe=>hij (by
  have h2:=hd.n2;have e2:(prs.map (·.2))[i]'(by grind)=(prs.map (·.2))[j]'(by grind):=by rw[ABj,ABj];exact e
  exact eV h2 _ _ e2)
 refine⟨λe=>h2 ?_,?_⟩
 ·rw[cE r1,cE r2]at e;rcases ABg prs[i].2 prs[j].2 with zA|zA|zA
  ·have:=ABR.1 hc.ids _ _ r1 r2 zA;omega
  ·exact zA
  ·have:=ABR.1 hc.ids _ _ r2 r1 zA;omega
 ·have pw:=eZ a l (P2 crew l).length (UX l) 0;obtain⟨t1,_⟩:=hd.XJ ha hp;obtain⟨t2,_⟩:=hd.XJ ha hq;have m1:=hd.bD _ hp;have m2:=hd.bD _ hq;rw[cZ t1,cZ t2];obtain⟨x,hx,ex⟩:=ABY.1 m1;obtain⟨y,hy,ey⟩:=ABY.1 m2
  have fwd:∀(x y:Nat) (hx:x<(QW a l (P2 crew l).length).length) (hy:y<(QW a l (P2 crew l).length).length) (s t:Nat) (hs:s<l.length) (ht:t<l.length),(QW a l (P2 crew l).length)[x]=s->(QW a l (P2 crew l).length)[y]=t->x<y->l[s].2.1≠l[t].2.1:=by intro x y hx hy s t hs ht es et zA;have:=(ABR.1 pw x y hx hy zA).2;have es':(Go.Ev.N.bD a (P2 crew l).length (UX l) 0 l)[x]'hx=s:=es;have et':(Go.Ev.N.bD a (P2 crew l).length (UX l) 0 l)[y]'hy=t:=et;simp only[es',et',Nat.sub_zero]at this;exact this hs ht
  grind
theorem ji.tasks(ha:a.length<=1048576){crew:ADX}{l:AAH}{l':AAH}(hs:ji a crew l prs crew' l')(hd:mm w h c a crew l prs)(ht:TP l)(hc:CW c crew):TP l':=by
 have hl2:=hs.l2;refine⟨by rw[hl2];exact ht.len,λi hi=>?_,λi j hi hj=>?_⟩
 ·have hil:i<l.length:=J
  rcases hs.tk i hil hi with⟨p,hp,rfl,e⟩|⟨_,e⟩
  ·obtain⟨hk,r1,r2,_⟩:=hd.ea hc hp;have hg:=ht.p8 p.1 hil;obtain⟨t1,t2,_⟩:=hd.XJ ha hp;rw[e,cE hk];unfold Qe at hg ⊢;grind
  ·rw[e];exact ht.p8 i hil
 ·have hil:i<l.length:=J
  have hjl:j<l.length:=J
  have hold:=bO.1 (ht.apart i j hil hj);rw[bO];rcases hs.tk i hil hi with⟨p,hp,rfl,e⟩|⟨hno,e⟩
  ·obtain⟨hk,r1,r2,r3,r4,r5⟩:=hd.ea hc hp;obtain⟨t1,t2,t3,_⟩:=hd.XJ ha hp;rcases hs.tk j hjl J with⟨q,hq,rfl,e2⟩|⟨hno2,e2⟩
   ·obtain⟨n1,n2⟩:=hd.two ha hc hp hq J;rw[cZ hil,cZ hjl]at n2;grind
   ·rw[e,e2,cE hk];refine⟨hold.1,λ_=>⟨λq=>r5 j hjl q.symm,λq=>?_⟩⟩;refine AAp λzD=>t3 ?_;have q:l[p.1].2.1=l[j].2.1:=q;rw[q];exact iU hjl zD
  ·rcases hs.tk j hjl J with⟨q,hq,rfl,e2⟩|⟨hno2,e2⟩
   ·obtain⟨hk,r1,r2,r3,r4,r5⟩:=hd.ea hc hq;obtain⟨t1,t2,t3,_⟩:=hd.XJ ha hq;rw[e,e2,cE hk];refine⟨hold.1,λzD=>⟨r5 i hil,λq2=>?_⟩⟩;have q2:l[i].2.1=l[q.1].2.1:=q2;exact absurd (q2▸iU hil zD) t3
   grind
theorem ji.crew(hcl:c.length<=1048576)(hf:P3 w h c=true){crew:ADX}{l:AAH}{l':AAH}(hs:ji a crew l prs crew' l')(hd:mm w h c a crew l prs)(hc:CW c crew):CW c crew':=by
 have hl1:=hs.l1
 have each:∀k (h:k<crew.length) (h':k<crew'.length),crew'[k].1=crew[k].1/\crew'[k].2.1=crew[k].2.1/\(crew'[k].2.2.1 = -1\/Qy c crew'[k].2.2.1=true)/\0<=crew'[k].2.2.2.2/\crew'[k].2.2.2.2<=1000000:=λk hk hk'=>by
  rcases hs.rb k hk hk' with⟨p,hp,rfl,e⟩|⟨_,e⟩
  ·rw[e];exact⟨rfl,rfl,.inr (kY hcl hf (hd.yo p hp)),No,No⟩
  ·rw[e];have hm:=ABW hk;exact⟨rfl,rfl,hc.goal _ hm,hc.pq _ hm⟩
 have mem:∀r∈crew',∃k,∃h:k<crew.length,∃h':k<crew'.length,crew'[k]=r:=λr hr=>by obtain⟨k,hk,rfl⟩:=ABY.1 hr;grind
 refine⟨by rw[hl1];exact hc.n20,λr hr=>?_,λr hr=>?_,λr hr=>?_,λr hr=>?_,?_,?_⟩
 ·obtain⟨k,h,h',rfl⟩:=mem r hr;rw[(each k h h').1];exact hc.qA _ (ABW h)
 ·obtain⟨k,h,h',rfl⟩:=mem r hr;rw[(each k h h').2.1];exact hc.mb _ (ABW h)
 ·grind
 ·grind
 ·refine ABR.2 λi j hi hj hij=>?_;rw[(each i J hi).1,(each j J hj).1];exact ABR.1 hc.ids i j J J hij
 ·refine ABR.2 λi j hi hj hij=>?_;rw[(each i J hi).2.1,(each j J hj).2.1];exact ABR.1 hc.fN i j J J hij
theorem YQ(key:β->Int)(a:List β)(i:Nat)(hi:i<a.length):RJ key a i a[i]=true↔∀j (hj:j+1=i),key (a[j]'(by omega))<key a[i]:=by
 cases i with
 |zero=>exact⟨λ_ j hj=>J,λ_=>rfl⟩
 |succ k=>
  simp only[RJ,AAI (show k<a.length by omega),AAU,AAl];grind
theorem iJ{l:AAB}:RF l=true↔VU l:=by
 constructor
 ·intro h;unfold RF at h;simp only[AAJ,AAW,AAX,AAf]at h;obtain⟨h1,h2⟩:=h
  have each:∀i (hi:i<l.length),(1<=l[i].1/\l[i].1<=50)/\(1<=l[i].2.1/\l[i].2.1<=1000)/\(0<=l[i].2.2/\l[i].2.2<=l[i].2.1)/\∀j (hj:j+1=i),(l[j]'(by omega)).1<l[i].1:=λi hi=>by have:=h1 i hi;unfold Wv at this;rw[AAI hi]at this;unfold Qg at this;simp only[AAJ,AAf,YQ (·.1) l i hi]at this;exact⟨this.1.1.1,this.1.1.2,this.1.2,this.2⟩
  refine⟨X5 _ _ λi hi=>(each (i+1) hi).2.2.2 i rfl,λx hx=>?_,h2⟩;obtain⟨i,hi,rfl⟩:=ABY.1 hx;obtain⟨e1,e2,e3,_⟩:=each i hi;omega
 ·exact VU.ok
theorem QS:QP a=true↔Py a:=by
 constructor
 ·intro h;unfold QP at h;simp only[AAJ,AAW,AAX,AAf]at h;obtain⟨h1,h2⟩:=h
  have each:∀i (hi:i<a.length),(1<=a[i].1/\a[i].1<=999)/\(0<=a[i].2.1/\a[i].2.1<=99)/\VU a[i].2.2/\(∀j (hj:j+1=i),(a[j]'(by omega)).1<a[i].1)/\∀j (hj:j<i),(a[j]'(by omega)).2.1≠a[i].2.1:=λi hi=>by have:=h2 i hi;unfold cz at this;rw[AAI hi]at this;unfold Qg at this;simp only[AAJ,AAf,YQ (·.1) a i hi,iJ,AAW]at this;refine⟨this.1.1.1.1,this.1.1.1.2,this.1.1.2,this.1.2,λj hj=>?_⟩;have:=this.2 (a[j]'(by omega)) (ABY.2 ⟨j,ADg,OF⟩);simpa using this
  have ids:=X5 (λx:Pt=>x.1) a λi hi=>(each (i+1) hi).2.2.2.1 i rfl;refine⟨h1,ABR.2 λi j hi hj hij=>⟨ABR.1 ids i j hi hj hij,(each j hj).2.2.2.2 i hij⟩,λp hp=>?_⟩;obtain⟨i,hi,rfl⟩:=ABY.1 hp;obtain⟨e1,e2,e3,_⟩:=each i hi;grind
 ·exact Py.ok
def SP(l:AAB)(k:Int)(f:Ph->Ph):AAB:=l.map λy=>bif y.1==k then f y else y
def XB(a:It)(Pu:Int)(f:AAB->AAB):It:=a.map λp=>bif p.1==Pu then(p.1,p.2.1,f p.2.2)else p
theorem WM(h:Py a)(hi:i<a.length)(f:AAB->AAB):a.modify i (λp=>(p.1,p.2.1,f p.2.2))=XB a a[i].1 f:=by
 apply ABt;intro j;unfold XB;rw[ABf,AAb];by_cases hj:j<a.length
 ·rw[AAI hj];by_cases e:i=j
  ·subst e;simp
  ·have zD:(a[j].1==a[i].1)=false:=by
    rw[ABa];intro q;rcases ABg i j with hl|hl|hl
    ·have:=(ABR.1 h.2.1 i j hi hj hl).1;omega
    ·exact e hl
    ·have:=(ABR.1 h.2.1 j i hj hi hl).1;omega
   simp[e,zD]
 grind
theorem lD{l:AAB}(h:VU l)(hi:i<l.length)(f:Ph->Ph):l.modify i f=SP l l[i].1 f:=by
 apply ABt;intro j;unfold SP;rw[ABf,AAb];by_cases hj:j<l.length
 ·rw[AAI hj];by_cases e:i=j
  ·subst e;simp
  ·have zD:(l[j].1==l[i].1)=false:=by
    rw[ABa];intro q;rcases ABg i j with hl|hl|hl
    ·have:=ABR.1 h.1 i j hi hj hl;omega
    ·exact e hl
    ·have:=ABR.1 h.1 j i hj hi hl;omega
   simp[e,zD]
 grind
theorem TA{l:AAB}(h:VU l)(hx:x∈l):Px l x.1=x:=by
 unfold Px;cases hf:l.find? λy=>y.1==x.1 with
 |none=>grind
 |some y=>
  have hy:=ABq hf;have he:y.1=x.1:=by simpa using ACU hf
  obtain⟨i,hi,rfl⟩:=ABY.1 hx;obtain⟨j,hj,rfl⟩:=ABY.1 hy;rcases ABg i j with hl|hl|hl
  ·have:=ABR.1 h.1 i j hi hj hl;omega
  ·subst hl;rfl
  ·have:=ABR.1 h.1 j i hj hi hl;omega
theorem Rq{l:AAB}(h:∀x∈l,x.1≠k):Px l k=(k,0,0):=by unfold Px;grind
theorem Sv{l:AAB}(h:VU l)(k:Int):0<=(Px l k).2.1/\(Px l k).2.1<=1000/\0<=(Px l k).2.2/\(Px l k).2.2<=(Px l k).2.1/\(Px l k).1=k:=by
 unfold Px;cases hf:l.find? λy=>y.1==k with
 |none=>grind
 |some y=>
  have:=h.2.1 y (ABq hf);grind
theorem nu{l:AAB}(h:VU l)(hk:∃z∈l,z.1=k)(d:Int):fj (k,(Px l k).2.1,(Px l k).2.2+d) l=SP l k λy=>(y.1,y.2.1,y.2.2+d):=by
 unfold fj SP;refine AB4 λy hy=>?_;by_cases e:y.1=k
 ·subst e;rw[TA h hy]
 grind
theorem jd{l:AAB}(h:VU l)(k d:Int)(hd:∀y∈l,y.1=k->0<=y.2.2+d/\y.2.2+d<=y.2.1):VU (SP l k λy=>(y.1,y.2.1,y.2.2+d)):=by
 have key:∀y:Ph,(bif y.1==k then(y.1,y.2.1,y.2.2+d)else y).1=y.1:=λy=>No
 refine⟨?_,λz hz=>?_,by unfold SP;rw[ABB];exact h.2.2⟩
 ·unfold SP;rw[ABk];exact h.1.imp λh=>No
 ·unfold SP at hz;obtain⟨y,hy,rfl⟩:=AAt.1 hz;have hy2:=h.2.1 y hy;grind
theorem fK(h:Py a)(Pu:Int)(f:AAB->AAB)(hf:∀p∈a,p.1=Pu->VU (f p.2.2)):Py (XB a Pu f):=by
 have key:∀p:Pt,(bif p.1==Pu then(p.1,p.2.1,f p.2.2)else p).1=p.1/\(bif p.1==Pu then(p.1,p.2.1,f p.2.2)else p).2.1=p.2.1:=λp=>No
 refine⟨by unfold XB;rw[ABB];exact h.1,?_,λz hz=>?_⟩
 ·unfold XB;rw[ABk];exact h.2.1.imp λh=>No
 ·unfold XB at hz;obtain⟨p,hp,rfl⟩:=AAt.1 hz;have hp2:=h.2.2 p hp;grind
def Rr(a:It)(Pu k:Int):Ph:=match a[(SO a Pu).toNat]? with
 |some p=>Px p.2.2 k
 |none=>(k,0,0)
def QQ(a:It)(Pu k m:Int):Int:=bif QP a&&(Qg k 1 50&&Qg m 1 1000)then(if SO a Pu<0 then 2 else 0)else 1
def Ww(a:It)(Pu k d:Int):It:=XB a Pu λl=>SP l k λy=>(y.1,y.2.1,y.2.2+d)
def aF(a:It)(Pu k m:Int):It×Int:=if QQ a Pu k m≠0 then(a,QQ a Pu k m)else if(Rr a Pu k).2.1-(Rr a Pu k).2.2<m then(a,3)else(Ww a Pu k m,0)
def Zr(a:It)(Pu k m:Int):It×Int:=if QQ a Pu k m≠0 then(a,QQ a Pu k m)else if(Rr a Pu k).2.2<m then(a,3)else(Ww a Pu k (-m),0)
theorem Qn{m:Int}(h:QQ a Pu k m=0):Py a/\(1<=k/\k<=50)/\(1<=m/\m<=1000)/\∃i,∃hi:i<a.length,SO a Pu=(i:Int)/\a[i].1=Pu/\Rr a Pu k=Px a[i].2.2 k:=by
 unfold QQ at h;cases hs:(QP a&&(Qg k 1 50&&Qg m 1 1000))with
 |false=>grind
 |true=>
  rw[hs,ABU]at h;unfold Qg at hs;simp only[AAJ,AAf]at hs;have hS:=QS.1 hs.1;refine⟨hS,hs.2.1,hs.2.2,?_⟩;have h12:=hS.1;rcases(RE a J Pu Ps (AAc _)).2 with⟨e,_⟩|⟨i,hi,e,e2⟩
  ·omega
  ·refine⟨i,hi,e,e2,?_⟩;unfold Rr;grind
theorem gn(h:Py a)(Pu k d:Int)(hd:∀p∈a,p.1=Pu->∀y∈p.2.2,y.1=k->0<=y.2.2+d/\y.2.2+d<=y.2.1):Py (Ww a Pu k d):=fK h Pu _ λp hp e=>jd (h.2.2 p hp).2.2 k d (hd p hp e)
theorem W4(h:Py a)(hi:i<a.length){p:Pt}(hp:p∈a)(e:p.1=a[i].1):p=a[i]:=by
 obtain⟨j,hj,rfl⟩:=ABY.1 hp;rcases ABg i j with hl|hl|hl
 ·have:=(ABR.1 h.2.1 i j hi hj hl).1;omega
 ·subst hl;rfl
 ·have:=(ABR.1 h.2.1 j i hj hi hl).1;omega
theorem ic(h:Py a)(Pu k m:Int):Py (aF a Pu k m).1:=by
 unfold aF;split
 ·exact h
 ·rename_i hc;split
  ·exact h
  ·rename_i zA;obtain⟨_,hk,hm,i,hi,e1,e2,e3⟩:=Qn (by omega:QQ a Pu k m=0);refine gn h Pu k m λp hp ep y hy ey=>?_;have:p=a[i]:=W4 h hi hp (ep.trans e2.symm);subst this;have hst:=(h.2.2 _ (ABW hi)).2.2;have hyb:=hst.2.1 y hy;rw[e3,<-ey,TA hst hy]at zA;omega
theorem lB(h:Py a)(Pu k m:Int):Py (Zr a Pu k m).1:=by
 unfold Zr;split
 ·exact h
 ·rename_i hc;split
  ·exact h
  ·rename_i zA;obtain⟨_,hk,hm,i,hi,e1,e2,e3⟩:=Qn (by omega:QQ a Pu k m=0);refine gn h Pu k (-m) λp hp ep y hy ey=>?_;have:p=a[i]:=W4 h hi hp (ep.trans e2.symm);subst this;have hst:=(h.2.2 _ (ABW hi)).2.2;have hyb:=hst.2.1 y hy;rw[e3,<-ey,TA hst hy]at zA;omega
theorem ZD(a:It)(hs:P4 a)(Pu k m:Int)(n:Nat)(hn:Ps<=n):T6 n a Pu k m=some (if QQ a Pu k m≠0 then(0,0,0,0,QQ a Pu k m)else(SO a Pu,(Rr a Pu k).1,(Rr a Pu k).2.1,(Rr a Pu k).2.2,0)):=by
 have hl:a.length<=1048576:=hs.1;unfold T6;rw[Qa a hs n hn];simp only[ABT,Q8];by_cases hc:QQ a Pu k m=0
 ·rw[AAQ (by rw[hc];simp)];obtain⟨h,hk,hm,i,hi,e1,e2,e3⟩:=Qn hc;rw[QS.2 h,show Qg k 1 50=true by unfold Qg;grind,show Qg m 1 1000=true by unfold Qg;rw[ABZ hm.1,ABZ hm.2];rfl];have hd:decide (SO a Pu<0)=false:=by rw[e1,AAl];clear hn;omega
  simp only[ABc,ABV,ABT,(RE a hl Pu n hn).1,hd];rw[e3,e1,Pk hi,ABT,ct a[i] (by have:=(h.2.2 _ (ABW hi)).2.2.2.2;omega) k n hn];rfl
 ·rw[AAP hc];unfold QQ at hc ⊢;cases h1:QP a with
  |false=>rfl
  |true=>cases h2:Qg k 1 50 with
   |false=>rfl
   |true=>cases h3:Qg m 1 1000 with
    |false=>rfl
    |true=>
     rw[h1,h2,h3]at hc;simp only[ACE,ABU]at hc ⊢
     have zA:SO a Pu<0:=by refine AAp λq=>hc ?_;rw[AAQ q]
     simp only[ABc,ABV,ABT,(RE a hl Pu n hn).1,ABZ zA,ABU,AAP zA]
theorem gT(h:Py a)(hi:i<a.length)(d:Int)(hz:∃z∈a[i].2.2,z.1=k)(n:Nat)(hn:Ps<=n):
  S9 n a (i:Int) k (Px a[i].2.2 k).2.1 ((Px a[i].2.2 k).2.2+d)=some (Ww a a[i].1 k d):=by
 have hst:=(h.2.2 _ (ABW hi)).2.2;obtain⟨z,hz1,hz2⟩:=hz
 have hpos:((Px a[i].2.2 k).2.1==0)=false:=by rw[<-hz2,TA hst hz1,ABa];have:=hst.2.1 z hz1;clear hn;omega
 unfold S9;rw[P0 a h.sm n hn,ABT,Po hi,ABU];have hg:a[(i:Int).toNat]?=some a[i]:=by simp[hi]
 have hw:=l9 a[i].2.2 hst (k,(Px a[i].2.2 k).2.1,(Px a[i].2.2 k).2.2+d) ⟨z,hz1,hz2⟩ hpos n hn;dsimp only at hw;rw[hg,ABT,ABT,hw,ABT,ABU,nu hst ⟨z,hz1,hz2⟩,ABX];unfold Ww;rw[<-WM h hi];congr 1;apply ABt;grind
theorem fu(a:It)(hs:P4 a)(Pu k m:Int)(n:Nat)(hn:Ps<=n):Z7 n a Pu k m=some (aF a Pu k m):=by
 unfold Z7 aF;rw[ZD a hs Pu k m n hn,ABT];by_cases hc:QQ a Pu k m=0
 ·rw[AAQ (by rw[hc];simp),AAQ (by rw[hc];simp)];obtain⟨h,hk,hm,i,hi,e1,e2,e3⟩:=Qn hc;have hst:=(h.2.2 _ (ABW hi)).2.2;obtain⟨b1,b2,b3,b4,b5⟩:=Sv hst k;dsimp only;rw[show((0:Int) != 0)=false from rfl,ABV,e3,Pr J J];by_cases zA:(Px a[i].2.2 k).2.1-(Px a[i].2.2 k).2.2<m
  ·rw[ABZ zA,AAP zA,ABU,P0 a hs n hn];rfl
  ·rw[ABd zA,AAQ zA,ABV,Pr J J,e1,b5]
   have hz:∃z∈a[i].2.2,z.1=k:=by refine AAp λq=>?_;rw[Rq λx hx e=>q ⟨x,hx,e⟩]at zA;dsimp only at zA;clear hn;omega
   rw[gT h hi m hz n hn,e2];rfl
 ·rw[AAP hc,AAP hc];dsimp only;rw[show(QQ a Pu k m != 0)=true by grind,ABU,P0 a hs n hn];rfl
theorem cN(a:It)(hs:P4 a)(Pu k m:Int)(n:Nat)(hn:Ps<=n):Xc n a Pu k m=some (Zr a Pu k m):=by
 unfold Xc Zr;rw[ZD a hs Pu k m n hn,ABT];by_cases hc:QQ a Pu k m=0
 ·rw[AAQ (by rw[hc];simp),AAQ (by rw[hc];simp)];obtain⟨h,hk,hm,i,hi,e1,e2,e3⟩:=Qn hc;have hst:=(h.2.2 _ (ABW hi)).2.2;obtain⟨b1,b2,b3,b4,b5⟩:=Sv hst k;dsimp only;rw[show((0:Int) != 0)=false from rfl,ABV,e3];by_cases zA:(Px a[i].2.2 k).2.2<m
  ·rw[ABZ zA,AAP zA,ABU,P0 a hs n hn];rfl
  ·rw[ABd zA,AAQ zA,ABV,Pr J J,e1,b5]
   have hz:∃z∈a[i].2.2,z.1=k:=by refine AAp λq=>?_;rw[Rq λx hx e=>q ⟨x,hx,e⟩]at zA;dsimp only at zA;clear hn;omega
   rw[show(Px a[i].2.2 k).2.2-m=(Px a[i].2.2 k).2.2 + -m by omega,gT h hi (-m) hz n hn,e2];rfl
 ·rw[AAP hc,AAP hc];dsimp only;rw[show(QQ a Pu k m != 0)=true by grind,ABU,P0 a hs n hn];rfl
theorem Zx{l:AAB}(hs:VU l)(p0 p1 k:Int)(n:Nat)(hn:Ps<=n):
  ∃(j:Nat) (b:Bool),Qr n p0 p1 l k=some ((j:Int),b)/\(b=true->∃h:j<l.length,l[j].1=k/\Px l k=l[j])/\(b=false->(∀x∈l,x.1≠k)/\Px l k=(k,0,0)):=by
 have h8:=hs.2.2
 obtain⟨j,h1,h2,h3,h4⟩:=aj (Qj l k) l.length (λi=>decide ((l.getD i (0,0,0)).1<k)) (λi hi=>by
  simp only[Qj,Pk hi,ABT,Pj hi (show l.length<=9223372036854775807 by clear hn;omega)];grind) (by simp[Qj]) n ADd
 have hlow:∀i (hi:i<l.length),i<j->l[i].1<k:=by intro i hi hij;have:=h3 i hij;simpa[hi]using this
 unfold Qr;rw[h2];by_cases hj:j<l.length
 ·have zu:=h4 hj;have zu:k<=l[j].1:=by simpa[hj]using zu
  refine⟨j,l[j].1==k,?_,λhb=>?_,λhb=>?_⟩
  ·simp[hj,Pk hj]
  ·have e:l[j].1=k:=AD9
   exact⟨hj,e,by rw[<-e];exact TA hs (ABW hj)⟩
  ·have hno:∀x∈l,x.1≠k:=λx hx=>by
    obtain⟨i,hi,rfl⟩:=AB5 hx;have zD:l[j].1≠k:=AD9
    rcases ABg i j with q|q|q
    ·grind
    ·grind
    ·have:=ABR.1 hs.1 j i hj hi q;omega
   exact⟨hno,Rq hno⟩
 ·have hno:∀x∈l,x.1≠k:=λx hx=>by obtain⟨i,hi,rfl⟩:=AB5 hx;have:=hlow i hi ADb;clear hn;omega
  refine⟨j,false,?_,λhb=>(by cases hb),λ_=>⟨hno,Rq hno⟩⟩;grind
theorem X0(a:It)(hs:P4 a)(Pu k m:Int)(n:Nat)(hn:Ps<=n):Xz n a Pu k m=some (if QQ a Pu k m≠0 then(-1,QQ a Pu k m)else(SO a Pu,0)):=by
 have hl:a.length<=1048576:=hs.1;unfold Xz;rw[Qq a hs n hn,W0];simp only[ABT,V9,Q8];by_cases hc:QQ a Pu k m=0
 ·rw[AAQ (by rw[hc];simp)];obtain⟨h,hk,hm,i,hi,e1,e2,e3⟩:=Qn hc;rw[QS.2 h,show Qg k 1 50=true by unfold Qg;grind,show Qg m 1 1000=true by unfold Qg;rw[ABZ hm.1,ABZ hm.2];rfl];have hd:decide (SO a Pu>=0)=true:=by rw[e1,AAf];clear hn;omega
  simp only[ABc,ABV,ABT,(RE a hl Pu n hn).1,hd,ABU]
 ·rw[AAP hc];unfold QQ at hc ⊢;cases h1:QP a with
  |false=>rfl
  |true=>cases h2:Qg k 1 50 with
   |false=>rfl
   |true=>cases h3:Qg m 1 1000 with
    |false=>rfl
    |true=>
     rw[h1,h2,h3]at hc;simp only[ACE,ABU]at hc ⊢
     have zA:SO a Pu<0:=by refine AAp λq=>hc ?_;rw[AAQ q]
     have hd:decide (SO a Pu>=0)=false:=by rw[AAl];clear hn;omega
     simp only[ABc,ABV,ABT,(RE a hl Pu n hn).1,hd,AAP zA]
theorem aH(a:It)(hs:P4 a)(Pu k m d:Int)(hd : -1000<=d/\d<=1000)(n:Nat)(hn:Ps<=n):WG n a Pu k m d=some (if QQ a Pu k m≠0 then(a,QQ a Pu k m)else
  if(∃z,z∈(a.getD (SO a Pu).toNat (0,0,[])).2.2/\z.1=k)/\0<=(Rr a Pu k).2.2+d/\(Rr a Pu k).2.2+d<=(Rr a Pu k).2.1 then(Ww a Pu k d,0)else(a,3)):=by
 unfold WG;rw[QL a hs n hn,X0 a hs Pu k m n hn];simp only[ABT];by_cases hc:QQ a Pu k m=0
 ·rw[AAQ (by rw[hc];simp),AAQ (by rw[hc];simp)];obtain⟨h,hk,hm,i,hi,e1,e2,e3⟩:=Qn hc;have hst:=(h.2.2 _ (ABW hi)).2.2;obtain⟨b1,b2,b3,b4,b5⟩:=Sv hst k;dsimp only;have hgD:a.getD (SO a Pu).toNat (0,0,[])=a[i]:=by rw[e1,ABX,List.getD,AAI hi];rfl
  rw[hgD,e3,e1];have yt:O3 a (i:Int)=true:=Po hi;have hg:a[(i:Int).toNat]?=some a[i]:=by simp[hi]
  obtain⟨j,b,s1,s2,s3⟩:=Zx hst a[i].1 a[i].2.1 k n hn;rw[show((0:Int) != 0)=false from rfl];simp only[ABV,yt,ABU,hg,ABT,s1];cases b with
  |false=>
   obtain⟨q1,q2⟩:=s3 rfl;rw[AAQ (λhh=>by obtain⟨⟨z,z1,z2⟩,_⟩:=hh;exact q1 z z1 z2)];rfl
  |true=>
   obtain⟨hj,q1,q2⟩:=s2 rfl;have hjn:O3 a[i].2.2 (j:Int)=true:=Po hj;have hjg:a[i].2.2[(j:Int).toNat]?=some a[i].2.2[j]:=by simp[hj]
   rw[q2]at b1 b2 b3 b4 ⊢;have hw:Pn (a[i].2.2[j].2.2+d)=a[i].2.2[j].2.2+d:=Pr ADb ADb;simp only[ABc,ABV,hjn,ABU,hjg,ABT,hw,V9,Q8];have hiff:Qg (a[i].2.2[j].2.2+d) 0 a[i].2.2[j].2.1=true↔0<=a[i].2.2[j].2.2+d/\a[i].2.2[j].2.2+d<=a[i].2.2[j].2.1:=by unfold Qg;simp
   cases hb:Qg (a[i].2.2[j].2.2+d) 0 a[i].2.2[j].2.1 with
   |false=>
    rw[AAQ (λhh=>by rw[hiff.2 hh.2]at hb;cases hb)];rfl
   |true=>
    rw[AAP ⟨⟨_,ABW hj,q1⟩,hiff.1 hb⟩];simp only[ABc,ABV];congr 2;unfold Ww;rw[<-e2,<-WM h hi];apply ABt;intro u;rw[ABf,ABf,ABX]
    have key:a[i].2.2.modify (j:Int).toNat (λy=>(y.1,y.2.1,a[i].2.2[j].2.2+d))=SP a[i].2.2 k λy=>(y.1,y.2.1,y.2.2+d):=by
     rw[<-q1,<-lD hst hj,ABX];apply ABt;intro v;rw[ABf,ABf];by_cases e':j=v
     ·subst e';simp[hj]
     ·simp[e']
    by_cases e:i=u
    ·subst e;rw[AAI hi];simp only[if_true,Option.map_eq_map,AA6,key]
    ·simp[e]
 grind
theorem fQ(a:It)(hs:P4 a)(Pu k m:Int)(n:Nat)(hn:Ps<=n):bc n a Pu k m=some (aF a Pu k m):=by
 unfold bc aF;by_cases hc:QQ a Pu k m=0
 ·obtain⟨h,hk,hm,i,hi,e1,e2,e3⟩:=Qn hc;rw[aH a hs Pu k m m J n hn];simp only[hc,ne_eq,not_true_eq_false,if_false,ABT];have hst:=(h.2.2 _ (ABW hi)).2.2;obtain⟨b1,b2,b3,b4,b5⟩:=Sv hst k;have hgD:a.getD (SO a Pu).toNat (0,0,[])=a[i]:=by rw[e1,ABX,List.getD,AAI hi];rfl
  rw[hgD,e3];by_cases zA:(Px a[i].2.2 k).2.1-(Px a[i].2.2 k).2.2<m
  ·grind
  ·rw[AAQ zA,AAP];refine⟨?_,ADb,ADb⟩;refine AAp λq=>?_;rw[Rq λx hx e=>q ⟨x,hx,e⟩]at zA;grind
 ·have hk:WG n a Pu k m m=some (a,QQ a Pu k m):=by unfold WG;rw[QL a hs n hn,X0 a hs Pu k m n hn,AAP hc];simp only[ABT,show(QQ a Pu k m != 0)=true by simpa using hc,ABU]
  grind
theorem bf(a:It)(hs:P4 a)(Pu k m:Int)(n:Nat)(hn:Ps<=n):XQ n a Pu k m=some (Zr a Pu k m):=by
 unfold XQ Zr;simp only[V9,Q8,ABT];cases hm1:Qg m 1 1000 with
 |false=>
  have hc:QQ a Pu k m=1:=by unfold QQ;rw[hm1];simp
  rw[AAP J,hc];simp only[ABu,ABU,QL a hs n hn,ABT]
 |true=>
  have hm:1<=m/\m<=1000:=by unfold Qg at hm1;simpa using hm1
  have hneg:IntKind.wrap .i64 (OM m) = -m:=by show Pn (0-m) = -m;rw[Pr ADb ADb];clear hn;omega
  simp only[ABc,ABV,hneg];rw[aH a hs Pu k m (-m) ADb n hn,ABT];by_cases hc:QQ a Pu k m=0
  ·obtain⟨h,hk,hm,i,hi,e1,e2,e3⟩:=Qn hc;simp only[hc,ne_eq,not_true_eq_false,if_false];have hst:=(h.2.2 _ (ABW hi)).2.2;obtain⟨b1,b2,b3,b4,b5⟩:=Sv hst k;have hgD:a.getD (SO a Pu).toNat (0,0,[])=a[i]:=by rw[e1,ABX,List.getD,AAI hi];rfl
   rw[hgD,e3];by_cases zA:(Px a[i].2.2 k).2.2<m
   ·rw[AAP zA,AAQ (λhh=>by have:=hh.2.1;clear hn;omega)]
   ·rw[AAQ zA,AAP];refine⟨?_,ADb,ADb⟩;refine AAp λq=>?_;rw[Rq λx hx e=>q ⟨x,hx,e⟩]at zA;dsimp only at zA;clear hn;omega
  grind
def YJ(f:It->Ph->It×Int):AAB->It->Option It
 | [],s=>some s
 |p::ps,s=>if(f s p).2≠0 then none else YJ f ps (f s p).1
def RT(f:It->Ph->It×Int)(a:It)(ps:AAB):It×Bool:=match YJ f ps a with
 |some s=>(s,true)
 |none=>(a,false)
def Wx(s:It)(p:Ph):It×Int:=aF s p.1 p.2.1 p.2.2
def cF(s:It)(p:Ph):It×Int:=Zr s p.1 p.2.1 p.2.2
theorem ig(h:P4 a)(Pu k m:Int):P4 (aF a Pu k m).1:=by
 by_cases hc:QQ a Pu k m=0
 ·exact(ic (Qn hc).1 Pu k m).sm
 ·unfold aF;grind
theorem ow(h:P4 a)(Pu k m:Int):P4 (Zr a Pu k m).1:=by
 by_cases hc:QQ a Pu k m=0
 ·exact(lB (Qn hc).1 Pu k m).sm
 ·unfold Zr;grind
theorem cg{f:It->Ph->It×Int}{P:It->Prop}(hf:∀s p,P s->P (f s p).1):∀(ps:AAB)(s t:It),P s->YJ f ps s=some t->P t
 | [],s,t,h,e=>by injection e with e;grind
 |p::ps,s,t,h,e=>by
  unfold YJ at e;split at e
  ·cases e
  ·exact cg hf ps _ t (hf s p h) e
theorem kh{f:It->Ph->It×Int}{P:It->Prop}(hf:∀s p,P s->P (f s p).1)(h:P a)(ps:AAB):P (RT f a ps).1:=by
 unfold RT;cases e:YJ f ps a with
 |none=>exact h
 |some t=>exact cg hf ps a t h e
theorem Ym(L:Int×It×It->Option ((Int×It×It)⊕((Int×It×It)⊕(It×Bool))))(f:It->Ph->It×Int)(a:It)(ps:AAB)(hf:∀s p,P4 s->P4 (f s p).1)(ha:P4 a)
  (hL:∀(i:Nat)(s:It)(hi:i<ps.length),P4 s->L ((i:Int),[],s)=some (bif(f s ps[i]).2 != 0 then .inr (.inr (a,false))else .inl (((i+1:Nat):Int),[],(f s ps[i]).1)))
  (he:∀s,L ((ps.length:Int),[],s)=some (.inr (.inl ((ps.length:Int),[],s)))) (n:Nat) (hn:ps.length<n):
  iter n L (0,[],a)=some (match YJ f ps a with|some t=>.inl ((ps.length:Int),[],t)|none=>.inr (a,false)):=by
 refine QA (σ:=It) L (λi s=>((i:Int),[],s)) ps (λl s=>match YJ f l s with|some t=>.inl ((ps.length:Int),[],t)|none=>.inr (a,false)) (λi s=>P4 s)
  (λs _=>by rw[he];rfl) (λi p l s h1 h2 h3 h4 h5=>?_) n hn a ha
 have hp:ps[i]=p:=by rw[AAI h1]at h2;exact Option.some.inj h2
 rw[hL i s h1 h5,hp];cases hc:((f s p).2 != 0)with
 |true=>
  right;unfold YJ;grind
 |false=>
  left;refine⟨(f s p).1,rfl,hf s p h5,?_⟩
  have e:YJ f (p::l) s=YJ f l (f s p).1:=by rw[YJ,AAQ AD0]
  grind
theorem cM(a:It)(ha:P4 a)(ps:AAB)(hp:ps.length<=1048576)(n:Nat)(hn:Ps<=n):XZ n a ps=some (RT Wx a ps):=by
 have h1:=Ym (Qp n a ps 1) Wx a ps (λs p hs=>ig hs _ _ _) ha (λi s hi hs=>by
  have hd:decide ((i:Int)<(ps.length:Int))=true:=ADm
  simp only[Qp,hd,ABU,Pk hi,ABT,fu s hs _ _ _ n hn,ABi,P0 a ha n hn,Pj hi (show ps.length<=9223372036854775807 by clear hn;omega)];show(bif(Wx s ps[i]).2 != 0 then _ else _)=_;cases((Wx s ps[i]).2 != 0)<;>rfl) (λs=>by simp[Qp]) n ADd
 unfold XZ Sy;rw[P0 a ha n hn,ABT,h1,ABT];unfold RT;grind
theorem aB(a:It)(ha:P4 a)(ps:AAB)(hp:ps.length<=1048576)(n:Nat)(hn:Ps<=n):U5 n a ps=some (RT cF a ps):=by
 have h1:=Ym (Qp n a ps 2) cF a ps (λs p hs=>ow hs _ _ _) ha (λi s hi hs=>by
  have hd:decide ((i:Int)<(ps.length:Int))=true:=ADm
  simp only[Qp,hd,ABU,ABV,Pk hi,ABT,cN s hs _ _ _ n hn,ABi,show((2:Int)==1)=false from rfl,P0 a ha n hn,Pj hi (show ps.length<=9223372036854775807 by clear hn;omega)];show(bif(cF s ps[i]).2 != 0 then _ else _)=_;cases((cF s ps[i]).2 != 0)<;>rfl) (λs=>by simp[Qp]) n ADd
 unfold U5 Sy;rw[P0 a ha n hn,ABT,h1,ABT];unfold RT;grind
theorem Yo(a:It)(ha:P4 a)(ps:AAB)(hp:ps.length<=1048576)(n:Nat)(hn:Ps<=n):XO n a ps=some (RT Wx a ps):=by
 have h1:=Ym (TY n a ps) Wx a ps (λs p hs=>ig hs _ _ _) ha (λi s hi hs=>by
  have hd:decide ((i:Int)<(ps.length:Int))=true:=ADm
  simp only[TY,hd,ABU,Pk hi,ABT,fQ s hs _ _ _ n hn,QL a ha n hn,Pj hi (show ps.length<=9223372036854775807 by clear hn;omega)];show(bif(Wx s ps[i]).2 != 0 then _ else _)=_;cases((Wx s ps[i]).2 != 0)<;>rfl) (λs=>by simp[TY]) n ADd
 unfold XO Zf;rw[QL a ha n hn,ABT,h1,ABT];unfold RT;grind
def Yt(a:It)(Pu:Int):Option Pt:=a.find? λp=>p.1==Pu
def YI(l:ADZ):Prop:=l.Pairwise (λa b=>a.1<b.1)/\(∀x∈l,1<=x.1/\x.1<=50/\1<=x.2/\x.2<=1000)/\l.length<=6
theorem YI.ok{l:ADZ}(h:YI l)(n:Nat)(hn:Ps<=n):Rc n l=some true:=by
 obtain⟨h1,h2,h3⟩:=h
 have:=RQ (Qs l) (λi=>(i:Int)) l.length (λ_=>true) (λi hi=>by
  have hp:(bif decide ((i:Int)>0)then(JQ l (Pn ((i:Int)-1))).bind (λy=>some (decide (y.1>=l[i].1)))else some false)=some (!RJ (·.1) l i l[i]):=Yi (·.1) l l[i] i hi J some;obtain⟨a1,a2,a3,a4⟩:=h2 _ (ABW hi);rw[Zq h1 (λx y h=>h) i hi]at hp;simp only[Qs,Pk hi,ABT,Q8,Pj hi J,hp];rw[show decide ((i:Int)<(l.length:Int))=true by simpa using hi,show Qg l[i].1 1 50=true by simp[Qg];omega,show Qg l[i].2 1 1000=true by simp[Qg];omega];rfl) (by simp[Qs]) n ADd
 unfold Rc;grind
def Tf(k:Int):AAB->Int
 | []=>0
 |p::r=>(bif p.2.1==k then p.2.2 else 0)+Tf k r
theorem dm(k:Int):∀(x y:AAB),Tf k (x++y)=Tf k x+Tf k y
 | [],y=>by simp[Tf]
 |p::x,y=>by simp only[ABH,Tf,dm k x y];omega
theorem Yg(k:Int):∀(x:AAB),(∀p∈x,1<=p.2.2)->0<=Tf k x
 | [],_=>by simp[Tf]
 |p::x,h=>by have h1:=Yg k x λq hq=>h q (AAM _ hq);have h2:=h p AAg;simp only[Tf];grind
theorem kg(k:Int):∀(x:AAB),(∀p∈x,p.2.1≠k)->Tf k x=0
 | [],_=>rfl
 |p::x,h=>by
  have h1:=kg k x λq hq=>h q (AAM _ hq);have h2:(p.2.1==k)=false:=by simpa using h p AAg
  simp only[Tf,h1,h2,ABV];rfl
def Xo:AAB->Int
 | []=>0
 |p::r=>p.2.2+Xo r
def Qb(m f:Int):Int:=bif decide (m<f)then m else f
def QE(pid:Int)(fr:Int->Int):ADZ->AAB
 | []=>[]
 |y::r=>bif decide (Qb y.2 (fr y.1)>0)then(pid,y.1,Qb y.2 (fr y.1))::QE pid fr r else QE pid fr r
theorem aO(pid:Int)(fr:Int->Int):∀l,(QE pid fr l).length<=l.length
 | []=>by simp[QE]
 |y::r=>by have:=aO pid fr r;simp only[QE];grind
theorem WL(m f:Int):Qb m f<=m/\Qb m f<=f:=by unfold Qb;grind
theorem Xu(pid:Int)(fr:Int->Int):∀l,∀p∈QE pid fr l,p.1=pid/\1<=p.2.2/\∃y∈l,y.1=p.2.1/\p.2.2<=y.2
 | [],p,h=>by cases h
 |y::r,p,h=>by
  simp only[QE]at h;have up:=λh=>let ⟨a,b,z,hz,h1,h2⟩:=Xu pid fr r p h;(⟨a,b,z,AAM _ hz,h1,h2⟩:p.1=pid/\1<=p.2.2/\∃w∈y::r,w.1=p.2.1/\p.2.2<=w.2)
  by_cases hg:Qb y.2 (fr y.1)>0
  ·rw[show decide (Qb y.2 (fr y.1)>0)=true by simpa using hg,ABU]at h;rcases AAd.1 h with h|h
   ·subst h;exact⟨rfl,by show 1<=Qb y.2 (fr y.1);omega,y,AAg,rfl,(WL _ _).1⟩
   ·exact up h
  grind
theorem aP(pid:Int)(fr:Int->Int):∀(l:ADZ),l.Pairwise (λa b=>a.1<b.1)->(∀y∈l,0<=y.2)->∀y∈l,Tf y.1 (QE pid fr l)<=y.2
 | [],_,_,y,hy=>by cases hy
 |z::r,hp,h0,y,hy=>by
  obtain⟨h1,h2⟩:=ABl.1 hp;have hz0:=h0 z AAg;have hle:=(WL z.2 (fr z.1)).1;simp only[QE];rcases AAd.1 hy with e|hy
  ·subst e
   have hn:Tf y.1 (QE pid fr r)=0:=kg _ _ λp hp'=>by obtain⟨_,_,w,hw,e,_⟩:=Xu pid fr r p hp';grind
   cases decide (Qb y.2 (fr y.1)>0)with
   |true=>simp only[ABU,Tf,ABi,hn];omega
   |false=>grind
  ·have ih:=aP pid fr r h2 (λw hw=>h0 w (AAM _ hw)) y hy;have zD:(z.1==y.1)=false:=by have:=h1 y hy;rw[<-ABw];simp;omega
   cases decide (Qb z.2 (fr z.1)>0)with
   |true=>simp only[ABU,Tf,zD,ABV];omega
   |false=>grind
def Pz(p:Pt)(k:Int):Int:=(Px p.2.2 k).2.1-(Px p.2.2 k).2.2
theorem Zz(p:Pt)(h:VU p.2.2)(k:Int):0<=Pz p k/\Pz p k<=1000:=by
 unfold Pz Px;cases hf:p.2.2.find? (λx=>x.1==k)with
 |none=>simp
 |some x=>
  have:=h.2.1 x (ABq hf);grind
def ca(l:ADZ):Prop:=l.Pairwise (λa b=>a.1<b.1)/\(∀y∈l,0<=y.2/\y.2<=1000)/\l.length<=6
theorem eP(p:Pt)(h:VU p.2.2)(l:ADZ)(hl:ca l)(n:Nat)(hn:Ps<=n):V2 n p.1 p.2.1 p.2.2 l=some (QE p.1 (Pz p) l,Xo (QE p.1 (Pz p) l)):=by
 have h6:=hl.2.2
 have hc:=QA (σ:=AAB×Int) (VB n p.1 p.2.1 p.2.2 l) (λi s=>(s.1,s.2,(i:Int))) l (λr s=>(s.1++QE p.1 (Pz p) r,s.2+Xo (QE p.1 (Pz p) r),(l.length:Int)))
  (λi s=>s.1.length<=i/\0<=s.2/\s.2<=1000*(i:Int)/\i<=6)
  (λs hs=>by simp[VB,QE,Xo])
  (λi y r s h1 h2 h3 h4 h5=>by
   left;have hy:l[i]=y:=by rw[AAI h1]at h2;exact Option.some.inj h2
   obtain⟨out,sum⟩:=s;obtain⟨q1,q2,q3,q4⟩:=h5;dsimp only at q1 q2 q3;have hy2:=hl.2.1 y (by rw[<-hy];exact ABW h1);have zt:=Zz p h y.1;unfold VB;dsimp only;rw[show decide ((i:Int)<(l.length:Int))=true by simpa using h1,ABU,Pk h1,hy,Pj h1 J];simp only[ABT];rw[ct p (by have:=h.2.2;omega) y.1 n hn,ABT]
   have hw:Pn ((Px p.2.2 y.1).2.1-(Px p.2.2 y.1).2.2)=Pz p y.1:=by unfold Pz at zt ⊢;rw[Pr J J]
   rw[hw];have hls:(bif decide (y.2<Pz p y.1)then some y.2 else some (Pz p y.1))=some (Qb y.2 (Pz p y.1)):=lX _ _ _;rw[hls,ABT];have hle:=WL y.2 (Pz p y.1);by_cases hg:Qb y.2 (Pz p y.1)>0
   ·rw[show decide (Qb y.2 (Pz p y.1)>0)=true by simpa using hg,ABU,show decide (out.length+[(p.1,y.1,Qb y.2 (Pz p y.1))].length<=Dj)=true from Ru J,ABU,ABT];rw[Pr (n:=sum+Qb y.2 (Pz p y.1)) J J];refine⟨(out++[(p.1,y.1,Qb y.2 (Pz p y.1))],sum+Qb y.2 (Pz p y.1)),rfl,⟨by show(out++[_]).length<=i+1;rw[AAz,ABb];omega,by show 0<=sum+Qb y.2 (Pz p y.1);omega,by show sum+Qb y.2 (Pz p y.1)<=1000*((i+1:Nat):Int);omega,J⟩,?_⟩;simp only[QE];rw[show decide (Qb y.2 (Pz p y.1)>0)=true by simpa using hg,ABU];simp only[Xo,ABo,ACB,ACc]
   ·rw[show decide (Qb y.2 (Pz p y.1)>0)=false by simpa using hg,ABV,ABT];refine⟨(out,sum),rfl,⟨by show out.length<=i+1;omega,q2,by show sum<=1000*((i+1:Nat):Int);omega,J⟩,?_⟩;simp only[QE];rw[show decide (Qb y.2 (Pz p y.1)>0)=false by simpa using hg,ABV])
  n ADd (([]:AAB),(0:Int)) ⟨OF,OF,OF,J⟩
 unfold V2;grind
def dW(p:Ph)(l:ADZ):ADZ:=l.map λy=>bif y.1==p.2.1 then(y.1,Pn (y.2-p.2.2))else y
def ay{β:Type}(f:β->β)(l:List β)(i:Nat):List β:=(l.take i).map f++l.drop i
theorem hY(f:β->β)(l:List β)(m k:Nat):(ay f l m)[k]?=(l[k]?).map λa=>if k<m then f a else a:=by unfold ay;grind
theorem jD(f:β->β)(l:List β)(i:Nat):(ay f l i).length=l.length:=by unfold ay;simp;omega
theorem jE(f g:β->β)(l:List β)(i:Nat)(hi:i<l.length)(hg:g l[i]=f l[i]):(ay f l i).modify i g=ay f l (i+1):=by
 apply ABt;intro j;rw[ABf,hY,hY];by_cases hj:j<l.length
 all_goals grind
theorem mF(f:β->β)(l:List β)(i:Nat)(hi:i<l.length)(hf:f l[i]=l[i]):ay f l i=ay f l (i+1):=by have:=jE f id l i hi hf.symm;rw[<-this];apply ABt;grind
theorem nQ(f:β->β)(l:List β):ay f l l.length=l.map f:=by unfold ay;simp
theorem ns(bt:AAB)(sm:Int)(z:ADZ)(k:Nat)(hk:k<bt.length)(l:ADZ)(hl:l.length<=6)(n:Nat)(hn:Ps<=n):
  iter n (Un (bt,sm) ((k:Int),z)) (0,l)=some ((l.length:Int),dW bt[k] l):=by
 have:=P8 (Un (bt,sm) ((k:Int),z)) (λi=>((i:Int),ay (λy=>bif y.1==bt[k].2.1 then(y.1,Pn (y.2-bt[k].2.2))else y) l i)) l.length ((l.length:Int),dW bt[k] l) (λi hi=>by
  have hg:=hY (λy=>bif y.1==bt[k].2.1 then(y.1,Pn (y.2-bt[k].2.2))else y) l i i;rw[AAI hi]at hg;simp only[AA6,Nat.lt_irrefl,if_false]at hg;have hlen:=jD (λy=>bif y.1==bt[k].2.1 then(y.1,Pn (y.2-bt[k].2.2))else y) l i;unfold Un;dsimp only;rw[hlen,show decide ((i:Int)<(l.length:Int))=true by simpa using hi,ABU];have yt:O3 (ay (λy=>bif y.1==bt[k].2.1 then(y.1,Pn (y.2-bt[k].2.2))else y) l i) (i:Int)=true:=Po (by rw[hlen];exact hi);have hbt:bt[(k:Int).toNat]?=some bt[k]:=by simp[hk]
  simp only[yt,Po hk,ABU,ABX,hg,ABT,AAI hk];rw[Pj hi J];cases hq:(l[i].1==bt[k].2.1)with
  |true=>
   rw[ABU,ABT,jE _ _ l i hi (by rw[hq];rfl)]
  |false=>
   rw[ABV,ABT,<-mF _ l i hi (by rw[hq];rfl)]) (by
  unfold Un;dsimp only;rw[jD,nQ];simp[dW]) n ADd
 have h0:ay (λy=>bif y.1==bt[k].2.1 then(y.1,Pn (y.2-bt[k].2.2))else y) l 0=l:=by unfold ay;simp
 grind
theorem oG(p:Ph)(l:ADZ):(dW p l).length=l.length:=by unfold dW;simp
theorem nr(bt:AAB)(hbt:bt.length<=6)(sm:Int)(l:ADZ)(hl:l.length<=6)(n:Nat)(hn:Ps<=n):
  iter n (Um n (bt,sm)) (0,l)=some ((bt.length:Int),bt.foldl (λl p=>dW p l) l):=by
 have:=QA (σ:=ADZ) (Um n (bt,sm)) (λi s=>((i:Int),s)) bt (λr s=>((bt.length:Int),r.foldl (λl p=>dW p l) s)) (λi s=>s.length<=6)
  (λs hs=>by unfold Um;simp) (λi p r s h1 h2 h3 h4 h5=>by
   left;have hp:bt[i]=p:=by rw[AAI h1]at h2;exact Option.some.inj h2
   refine⟨dW p s,?_,by rw[oG];exact h5,rfl⟩;unfold Um;dsimp only;rw[show decide ((i:Int)<(bt.length:Int))=true by grind,ABU,ns bt sm s i h1 s h5 n hn,ABT,Pj h1 J,hp])
  n ADd l hl
 exact this
theorem lH:∀(bt:AAB)(l:ADZ),(∀p∈bt,1<=p.2.2)->(∀y∈l,Tf y.1 bt<=y.2/\y.2<=1000)->bt.foldl (λl p=>dW p l) l=l.map λy=>(y.1,y.2-Tf y.1 bt)
 | [],l,_,_=>by simp[Tf]
 |p::bt,l,h1,h2=>by
  have hp:=h1 p AAg;have hr:=λq hq=>h1 q (AAM p hq)
  have e:dW p l=l.map λy=>(y.1,y.2-bif p.2.1==y.1 then p.2.2 else 0):=by
   unfold dW;refine AB4 λy hy=>?_;obtain⟨q1,q2⟩:=h2 y hy;have hpos:=Yg y.1 bt hr;simp only[Tf]at q1;have hc:(y.1==p.2.1)=(p.2.1==y.1):=by rw[ABy];simp;exact eq_comm
   rw[hc];cases hq:(p.2.1==y.1)with
   |true=>
    rw[hq]at q1;simp only[ABU]at q1 ⊢;rw[Pr J J]
   |false=>simp
  rw[List.foldl_cons,e,lH bt _ hr,List.map_map]
  ·refine AB4 λy hy=>?_;simp only[Function.comp_apply,Tf];grind
  ·intro y hy;obtain⟨z,hz,rfl⟩:=AAt.1 hy;obtain⟨q1,q2⟩:=h2 z hz;simp only[Tf]at q1;grind
def V4:ADZ->Int
 | []=>0
 |y::r=>y.2+V4 r
theorem cX:∀(l:ADZ),(∀y∈l,0<=y.2)->0<=V4 l/\(V4 l=0->∀y∈l,y.2=0)
 | [],_=>⟨by simp[V4],λ_ y hy=>by cases hy⟩
 |z::r,h=>by obtain⟨h1,h2⟩:=cX r λy hy=>h y (AAM _ hy);have hz:=h z AAg;refine⟨by simp only[V4];omega,λe y hy=>?_⟩;simp only[V4]at e;grind
theorem nq(x:AAB×Bool×AAB×AAB×ADZ×ADp)(hl:ca x.2.2.2.2.1)(n:Nat)(hn:Ps<=n):iter n (Ul x) (0,0)=some (V4 x.2.2.2.2.1,(x.2.2.2.2.1.length:Int)):=by
 obtain⟨x1,x2,x3,x4,l,x6⟩:=x;dsimp only at hl ⊢;have h6:=hl.2.2
 have:=QA (σ:=Int) (Ul (x1,x2,x3,x4,l,x6)) (λi s=>(s,(i:Int))) l (λr s=>(s+V4 r,(l.length:Int))) (λi s=>0<=s/\s<=1000*(i:Int)/\i<=6)
  (λs hs=>by unfold Ul;simp[V4]) (λi y r s h1 h2 h3 h4 h5=>by
   left;have hy:l[i]=y:=by rw[AAI h1]at h2;exact Option.some.inj h2
   have hy2:=hl.2.1 y (by rw[<-hy];exact ABW h1);refine⟨s+y.2,?_,⟨J,J,J⟩,by simp only[V4,ACc]⟩;unfold Ul;dsimp only;rw[show decide ((i:Int)<(l.length:Int))=true by simpa using h1,ABU,Po h1,ABU,ABX,h2,ABT,Pj h1 J,Pr (n:=s+y.2) J J])
  n ADd 0 ⟨J,J,J⟩
 grind
def PG(o:AAB)(want:ADZ):Prop:=(∀p∈o,1<=p.2.2/\∃y∈want,y.1=p.2.1)/\∀y∈want,Tf y.1 o=y.2
def XE:ADp->Nat
 | []=>0
 |b::r=>(bif b then 0 else 1)+XE r
theorem aS:∀(u:ADp)(j:Nat),u[j]?=some false->XE (Ca u j true)+1=XE u/\(Ca u j true).length=u.length
 | [],j,h=>ADl
 |b::r,0,h=>by simp at h;subst h;simp[Ca,XE];omega
 |b::r,j+1,h=>by obtain⟨h1,h2⟩:=aS r j ADn;simp only[Ca,XE,ABG,h2,and_true];omega
theorem aR:∀n,XE (List.replicate n false)=n
 |0=>rfl
 |n+1=>by rw[List.replicate_succ];simp only[XE,aR n,ABV];omega
def leftOf(want:ADZ)(o:AAB):ADZ:=want.map λy=>(y.1,y.2-Tf y.1 o)
theorem iy(h:YI want)(h1:∀p∈o,1<=p.2.2)(h2:∀y∈want,Tf y.1 o<=y.2):ca (leftOf want o):=by
 refine⟨?_,λy hy=>?_,by unfold leftOf;rw[ABB];exact h.2.2⟩
 ·unfold leftOf;rw[ABk];exact h.1
 ·unfold leftOf at hy;obtain⟨z,hz,rfl⟩:=AAt.1 hy;have q1:=h2 z hz;have q2:=Yg z.1 o h1;have q3:=h.2.1 z hz;omega
def tp:AAB->Int->Int->Int
 | [],_,_=>0
 |p::r,Pu,k=>(if p.1=Pu/\p.2.1=k then p.2.2 else 0)+tp r Pu k
theorem ai:∀(x y:AAB)(Pu k:Int),tp (x++y) Pu k=tp x Pu k+tp y Pu k
 | [],y,Pu,k=>by simp[tp]
 |p::x,y,Pu,k=>by simp only[ABH,tp,ai x y Pu k];omega
theorem iM:∀(x:AAB),(∀p∈x,1<=p.2.2)->∀Pu k,0<=tp x Pu k
 | [],_,_,_=>by simp[tp]
 |p::x,h,Pu,k=>by have h1:=iM x (λq hq=>h q (AAM _ hq)) Pu k;have h2:=h p AAg;simp only[tp];omega
theorem pc:∀(x:AAB)(Pu k:Int),(∀p∈x,p.1=Pu->p.2.1≠k)->tp x Pu k=0
 | [],_,_,_=>rfl
 |p::x,Pu,k,h=>by have h1:=pc x Pu k λq hq=>h q (AAM _ hq);have h2:=h p AAg;simp only[tp,h1];omega
def lN(f:Int->Int->Int)(p:Pt):Pt:=(p.1,p.2.1,p.2.2.map λy=>(y.1,y.2.1,y.2.2+f p.1 y.1))
def QM(a:It)(f:Int->Int->Int):It:=a.map (lN f)
theorem Zd(a:It)(f:Int->Int->Int)(h:∀Pu k,f Pu k=0):QM a f=a:=by
 unfold QM
 have:lN f=id:=funext λp=>by
  unfold lN;have:(λy:Ph=>(y.1,y.2.1,y.2.2+f p.1 y.1))=id:=funext λy=>by rw[h];simp
  rw[this,List.map_id];rfl
 rw[this,List.map_id]
theorem gv(a:It){f g:Int->Int->Int}(h:∀Pu k,f Pu k=g Pu k):QM a f=QM a g:=by rw[show f=g from funext λp=>funext λk=>h p k]
theorem aV(a:It)(f:Int->Int->Int):(QM a f).length=a.length:=by unfold QM;grind
theorem gL{f:Int->Int->Int}(h:i<(QM a f).length):(QM a f)[i]=lN f (a[i]'(by rw[aV]at h;exact h)):=ABj (lN f)
theorem pC(p:Ph)(rs:AAB):tp (p::rs) p.1 p.2.1=p.2.2+tp rs p.1 p.2.1:=by show(if p.1=p.1/\p.2.1=p.2.1 then p.2.2 else 0)+tp rs p.1 p.2.1=_;omega
theorem oP(a:It)(f:Int->Int->Int)(Pu k d:Int):Ww (QM a f) Pu k d=QM a λp s=>f p s+if p=Pu/\s=k then d else 0:=by
 unfold Ww XB QM SP;rw[List.map_map];refine AB4 λp _=>?_;simp only[Function.comp,lN];by_cases hp:p.1=Pu
 ·rw[show(p.1==Pu)=true from AAT.2 hp,ABU,List.map_map];refine congrArg (λl=>(p.1,p.2.1,l)) (AB4 λy _=>?_);simp only[Function.comp];by_cases hy:y.1=k
  ·rw[show(y.1==k)=true from AAT.2 hy,ABU,AAP ⟨hp,hy⟩,ACc]
  ·rw[show(y.1==k)=false from ABa.2 hy,ABV,AAQ (λh=>hy h.2),Int.add_zero]
 grind
theorem kX(l:AAB)(g:Int->Int)(k:Int):Px (l.map λy=>(y.1,y.2.1,y.2.2+g y.1)) k=match l.find? (λx=>x.1==k)with
  |some x=>(x.1,x.2.1,x.2.2+g k)
  |none=>(k,0,0):=by
 unfold Px;rw[List.find?_map];have:((λx:Ph=>x.1==k) ∘ λy:Ph=>(y.1,y.2.1,y.2.2+g y.1))=λx:Ph=>x.1==k:=rfl;grind
theorem ld(p:Pt)(f:Int->Int->Int)(k:Int)(h0:Pz p k=0->f p.1 k=0):Pz (lN f p) k=Pz p k-f p.1 k:=by unfold Pz at h0 ⊢;unfold lN;rw[kX p.2.2 (f p.1) k];unfold Px at h0 ⊢;grind
theorem nG(h:Py a)(hi:i<a.length){m:Int}(hk:1<=k/\k<=50)(hm:1<=m/\m<=1000):QQ a a[i].1 k m=0/\Rr a a[i].1 k=Px a[i].2.2 k:=by
 have h12:=h.1;rcases(RE a J a[i].1 Ps (AAc _)).2 with⟨_,e⟩|⟨j,hj,e,e2⟩
 ·grind
 ·have eij:a[j]=a[i]:=W4 h hi (ABW hj) e2;refine⟨?_,?_⟩
  ·unfold QQ Qg;rw[QS.2 h,ABZ hk.1,ABZ hk.2,ABZ hm.1,ABZ hm.2,e];simp
  ·unfold Rr;grind
structure Fits(a:It)(ps:AAB):Prop where
 each:∀p∈ps,(1<=p.2.1/\p.2.1<=50)/\(1<=p.2.2/\p.2.2<=1000)/\∃i,∃h:i<a.length,a[i].1=p.1
 free:∀q∈a,∀k,tp ps q.1 k<=Pz q k
theorem Fits.pos(h:Fits a ps)(Pu k:Int):0<=tp ps Pu k:=iM ps (λp hp=>(h.each p hp).2.1.1) Pu k
theorem Fits.init{qs rs:AAB}(h:Fits a (qs++rs)):Fits a qs:=by have h1:=λp hp=>h.each p (AAV rs hp);refine⟨h1,λq hq k=>?_⟩;have h2:=h.free q hq k;have h3:=iM rs (λp hp=>(h.each p (AAS qs hp)).2.1.1) q.1 k;rw[ai]at h2;omega
theorem Fits.to(h:Fits a ps)(ha:Py a){q:Pt}(hq:q∈a)(k:Int):Pz (lN (tp ps) q) k=Pz q k-tp ps q.1 k:=by refine ld q (tp ps) k λe=>?_;have h1:=h.free q hq k;have h2:=h.pos q.1 k;omega
theorem gw{a:It}(ha:Py a):∀(rs qs:AAB),Py (QM a (tp qs))->Fits a (qs++rs)->YJ Wx rs (QM a (tp qs))=some (QM a (tp (qs++rs)))/\Py (QM a (tp (qs++rs)))
 | [],qs,hs,_=>by rw[ABn];exact⟨rfl,hs⟩
 |p::rs,qs,hs,hf=>by
  obtain⟨hk,hm,i,hi,e⟩:=hf.each p (AAS _ AAg);have hi2:i<(QM a (tp qs)).length:=by rw[aV];exact hi
  have hat:=gL hi2;have hid:(QM a (tp qs))[i].1=p.1:=by rw[hat];exact e
  obtain⟨c1,c2⟩:=nG hs hi2 hk hm;rw[hid]at c1 c2;have hfree:=hf.free _ (ABW hi) p.2.1;have hto:=hf.init.to ha (ABW hi) p.2.1;have hrs:=iM rs (λq hq=>(hf.each q (AAS _ (AAM _ hq))).2.1.1) p.1 p.2.1;rw[ai,e,pC]at hfree;rw[e]at hto;have zu:p.2.2<=Pz (lN (tp qs) a[i]) p.2.1:=J
  have hneg:¬((Px (lN (tp qs) a[i]).2.2 p.2.1).2.1-(Px (lN (tp qs) a[i]).2.2 p.2.1).2.2<p.2.2):=by unfold Pz at zu;omega
  have hh:Wx (QM a (tp qs)) p=(QM a (tp (qs++[p])),0):=by
   unfold Wx aF;rw[c1,AAQ J,c2,hat,AAQ hneg,oP];refine congrArg (λs=>(s,(0:Int))) (gv a λPu k=>?_);rw[ai];simp only[tp]
   have:(if Pu=p.1/\k=p.2.1 then p.2.2 else 0)=(if p.1=Pu/\p.2.1=k then p.2.2 else 0:Int):=by
    by_cases hc:p.1=Pu/\p.2.1=k
    ·rw[AAP hc,AAP ⟨hc.1.symm,hc.2.symm⟩]
    ·rw[AAQ hc,AAQ (λh=>hc ⟨h.1.symm,h.2.symm⟩)]
   rw[this];omega
  have hS:Py (QM a (tp (qs++[p]))):=by have:=ic hs p.1 p.2.1 p.2.2;unfold Wx at hh;rw[hh]at this;exact this
  have ih:=gw ha rs (qs++[p]) hS No;rw[ABo]at ih;rw[YJ,hh,AAQ OF];exact ih
theorem gM(ha:Py a)(hf:Fits a ps):RT Wx a ps=(QM a (tp ps),true)/\Py (QM a (tp ps)):=by have h0:QM a (tp [])=a:=Zd a _ λ_ _=>rfl;have:=gw ha ps [] (by rw[h0];exact ha) hf;rw[h0,AA0]at this;unfold RT;grind
theorem gN(ha:Py a){qs rs:AAB}(hs:Py (QM a (tp qs)))(hf:Fits a (qs++rs)):RT Wx (QM a (tp qs)) rs=(QM a (tp (qs++rs)),true)/\Py (QM a (tp (qs++rs))):=by have:=gw ha rs qs hs hf;unfold RT;grind
def oT(a:It)(k:Int):Int:=match a with
 | []=>0
 |p::r=>Pz p k+oT r k
def Zn(a:It)(p:Ph)(k:Int):Int:=match a with
 | []=>0
 |q::r=>(if p.1=q.1/\p.2.1=k then p.2.2 else 0)+Zn r p k
theorem gV(p:Ph)(k:Int):∀(a:It),(∀q∈a,q.1≠p.1)->Zn a p k=0
 | [],_=>rfl
 |q::r,h=>by have h1:=h q AAg;have h2:=gV p k r λz hz=>h z (AAM _ hz);simp only[Zn,h2];omega
theorem gW(p:Ph)(k:Int):∀(a:It),a.Pairwise (λx y=>x.1≠y.1)->(∃q∈a,q.1=p.1)->Zn a p k=bif p.2.1==k then p.2.2 else 0
 | [],_,⟨q,hq,_⟩=>by cases hq
 |q::r,hp,⟨z,hz,ez⟩=>by
  obtain⟨h1,h2⟩:=ABl.1 hp;simp only[Zn];by_cases hq:q.1=p.1
  ·rw[gV p k r λy hy e=>h1 y hy (hq.trans e.symm)];grind
  ·rcases AAd.1 hz with e|hz
   ·grind
   ·rw[AAQ (λh=>hq h.1.symm),gW p k r h2 ⟨z,hz,ez⟩];omega
def bp(l:ADZ)(i:Nat):Bool:=match l[i]? with
 |some x=>Qg x.1 1 50&&Qg x.2 1 1000&&RJ (·.1) l i x
 |none=>false
def WH(l:ADZ):Bool:=(List.range l.length).all (bp l)&&decide (l.length<=6)
theorem WI{l:ADZ}:WH l=true↔YI l:=by
 constructor
 ·intro h;unfold WH at h;simp only[AAJ,AAf,AAW,AAX]at h;obtain⟨zq,h6⟩:=h
  have hi:∀i (hi:i<l.length),(1<=l[i].1/\l[i].1<=50)/\(1<=l[i].2/\l[i].2<=1000)/\RJ (·.1) l i l[i]=true:=by intro i hi;have:=zq i hi;unfold bp Qg at this;rw[AAI hi]at this;simp only[AAJ,AAf]at this;exact⟨this.1.1,this.1.2,this.2⟩
  refine⟨X5 _ _ λi hi2=>(YQ (·.1) l (i+1) hi2).1 (hi (i+1) hi2).2.2 i rfl,λx hx=>?_,h6⟩;obtain⟨i,hi2,rfl⟩:=ABY.1 hx;grind
 ·rintro ⟨h1,h2,h3⟩
  unfold WH;simp only[AAJ,AAf,AAW,AAX];refine⟨λi hi=>?_,h3⟩;obtain⟨a1,a2,a3,a4⟩:=h2 _ (ABW hi);unfold bp Qg;rw[AAI hi];simp only[AAJ,AAf];exact⟨⟨⟨a1,a2⟩,a3,a4⟩,Zq h1 (λx y h=>h) i hi⟩
theorem WO(l:ADZ)(hl:l.length<=1048576)(n:Nat)(hn:Ps<=n):Rc n l=some (WH l):=by
 have:=RQ (Qs l) (λi=>(i:Int)) l.length (bp l) (λi hi=>by
  have hp:(bif decide ((i:Int)>0)then(JQ l (Pn ((i:Int)-1))).bind (λy=>some (decide (y.1>=l[i].1)))else some false)=some (!RJ (·.1) l i l[i]):=Yi (·.1) l l[i] i hi hl some;unfold bp;rw[AAI hi];simp only[Qs,Pk hi,ABT,Q8,Pj hi (show l.length<=9223372036854775807 by clear hn;omega),hp];grind) (by simp[Qs]) n ADd
 unfold Rc WH;rw[show((0:Nat):Int)=0 from rfl]at this;rw[this,ABT];cases(List.range l.length).all (bp l)with
 |false=>rfl
 |true=>
  rw[ABU,ABx];show some (decide ((l.length:Int)<=6))=_;rw[show decide ((l.length:Int)<=6)=decide (l.length<=6) by rw[decide_eq_decide];clear hn;omega]
theorem SX(l:ADZ)(hl:l.length<=1048576)(n:Nat)(hn:Ps<=n):S2 n l=some (WH l):=by rw[jw,WO l hl n hn]
theorem jC(m f:Int):Nc m f=Qb m f:=by unfold Nc Qb;grind
theorem eG(p:Pt)(h:VU p.2.2)(l:ADZ)(hl:ca l)(n:Nat)(hn:Ps<=n):aX n p.1 p.2.1 p.2.2 l=some (QE p.1 (Pz p) l,Xo (QE p.1 (Pz p) l)):=by
 have h6:=hl.2.2
 have hc:=QA (σ:=AAB×Int) (WY n p.1 p.2.1 p.2.2 l) (λi s=>(s.1,s.2,(i:Int))) l (λr s=>(s.1++QE p.1 (Pz p) r,s.2+Xo (QE p.1 (Pz p) r),(l.length:Int)))
  (λi s=>s.1.length<=i/\0<=s.2/\s.2<=1000*(i:Int)/\i<=6)
  (λs hs=>by simp[WY,QE,Xo])
  (λi y r s h1 h2 h3 h4 h5=>by
   left;have hy:l[i]=y:=by rw[AAI h1]at h2;exact Option.some.inj h2
   obtain⟨out,sum⟩:=s;obtain⟨q1,q2,q3,q4⟩:=h5;dsimp only at q1 q2 q3;have hy2:=hl.2.1 y (by rw[<-hy];exact ABW h1);have zt:=Zz p h y.1;obtain⟨j,b,e,e1,e2⟩:=Zx h p.1 p.2.1 y.1 n hn;have hle:=WL y.2 (Pz p y.1);unfold WY;dsimp only;rw[show decide ((i:Int)<(l.length:Int))=true by simpa using h1,ABU,Pk h1,hy,Pj h1 (show l.length<=9223372036854775807 by clear hn;omega)];simp only[ABT];rw[e,ABT];dsimp only;cases b with
   |false=>
    have hz:Pz p y.1=0:=by unfold Pz;rw[(e2 rfl).2];rfl
    have hng:¬Qb y.2 (Pz p y.1)>0:=ADb
    refine⟨(out,sum),rfl,⟨by show out.length<=i+1;clear hn;omega,q2,by show sum<=1000*((i+1:Nat):Int);clear hn;omega,ADb⟩,?_⟩;simp only[QE];rw[ABd hng,ABV]
   |true=>
    obtain⟨hj,_,ej⟩:=e1 rfl
    have hw:Pn (p.2.2[j].2.1-p.2.2[j].2.2)=Pz p y.1:=by
     unfold Pz at zt ⊢;rw[ej]at zt ⊢;rw[Pr ADb ADb]
    simp only[ABc,ABV,Pk hj,ABT,hw,jC];by_cases hg:Qb y.2 (Pz p y.1)>0
    ·rw[ABZ hg,ABU,show decide (out.length+[(p.1,y.1,Qb y.2 (Pz p y.1))].length<=Dj)=true from Ru ADb,ABU,ABT];rw[Pr (n:=sum+Qb y.2 (Pz p y.1)) ADb ADb];refine⟨(out++[(p.1,y.1,Qb y.2 (Pz p y.1))],sum+Qb y.2 (Pz p y.1)),rfl,⟨by show(out++[_]).length<=i+1;rw[AAz,ABb];clear hn;omega,by show 0<=sum+Qb y.2 (Pz p y.1);clear hn;omega,by show sum+Qb y.2 (Pz p y.1)<=1000*((i+1:Nat):Int);clear hn;omega,ADb⟩,?_⟩;simp only[QE];rw[ABZ hg,ABU];simp only[Xo,ABo,ACB,ACc]
    ·rw[ABd hg,ABV,ABT];refine⟨(out,sum),rfl,⟨by show out.length<=i+1;clear hn;omega,q2,by show sum<=1000*((i+1:Nat):Int);clear hn;omega,ADb⟩,?_⟩;simp only[QE];rw[ABd hg,ABV])
  n ADd (([]:AAB),(0:Int)) ⟨OF,OF,OF,J⟩
 unfold aX;grind
def aZ(l:ADZ)(bt:AAB):ADZ:=(l.map λy=>(y.1,y.2-Tf y.1 bt)).filter λy=>decide (y.2>0)
theorem gy(bt:AAB)(hb:bt.length<=72)(h1:∀p∈bt,1<=p.2.2)(k m:Int)(ht:Tf k bt<=m)(hm:m<=1000)(n:Nat)(hn:Ps<=n):
  iter n (Vm bt) (0,k,m)=some ((bt.length:Int),k,m-Tf k bt):=by
 have hc:=QA (σ:=Int) (Vm bt) (λi s=>((i:Int),k,s)) bt (λr s=>((bt.length:Int),k,s-Tf k r)) (λi s=>Tf k (bt.drop i)<=s/\s<=1000)
  (λs hs=>by unfold Vm;simp[Tf])
  (λi p r s g1 g2 g3 g4 g5=>by
   left;have hp:bt[i]=p:=by rw[AAI g1]at g2;exact Option.some.inj g2
   have hmem:p∈bt:=by rw[<-hp];exact ABW g1
   have hpp:=h1 p hmem;have hrp:=Yg k r λq hq=>h1 q (ACK (i:=i) No);obtain⟨g5,g6⟩:=g5;rw[g3]at g5;simp only[Tf]at g5;rw[g4];unfold Vm;dsimp only;rw[show decide ((i:Int)<(bt.length:Int))=true by grind,ABU,Pk g1,hp,ABT,Pj g1 (show bt.length<=9223372036854775807 by omega)];simp only[Tf];cases hq:(p.2.1==k)with
   |true=>
    rw[hq,ABU]at g5;rw[ABU,ABT,Pr (n:=s-p.2.2) ADb ADb];grind
   |false=>
    rw[hq,ABV]at g5;rw[ABV,ABT];grind)
  n ADd m ⟨ht,hm⟩
 exact hc
theorem fU(l:ADZ)(hl:l.length<=6)(bt:AAB)(hb:bt.length<=72)(h1:∀p∈bt,1<=p.2.2)(ht:∀y∈l,Tf y.1 bt<=y.2/\y.2<=1000)(n:Nat)(hn:Ps<=n):bl n l bt=some (aZ l bt):=by
 have hc:=QA (σ:=ADZ) (XU n l bt) (λi s=>(s,(i:Int))) l (λr s=>(s++aZ r bt,(l.length:Int))) (λi s=>s.length<=i)
  (λs hs=>by unfold XU;simp[aZ])
  (λi y r s g1 g2 g3 g4 g5=>by
   left;have hy:l[i]=y:=by rw[AAI g1]at g2;exact Option.some.inj g2
   obtain⟨t1,t2⟩:=ht y (by rw[<-hy];exact ABW g1);unfold XU;dsimp only;rw[show decide ((i:Int)<(l.length:Int))=true by rw[AAf];clear hn;omega,ABU,Pk g1,hy,ABT,Pj g1 (show l.length<=9223372036854775807 by clear hn;omega),gy bt hb h1 y.1 y.2 t1 t2 n hn,ABT];dsimp only;by_cases hg:y.2-Tf y.1 bt>0
   ·rw[ABZ hg,ABU,show decide (s.length+[(y.1,y.2-Tf y.1 bt)].length<=Dj)=true from Ru ADb,ABU,ABT];refine⟨s++[(y.1,y.2-Tf y.1 bt)],rfl,by rw[AAz,ABb];clear hn;omega,?_⟩;unfold aZ;rw[ABK,AB9,AAP (by rw[AAf];exact hg),ABo,ACB]
   ·rw[ABd hg,ABV,ABT];refine⟨s,rfl,ADb,?_⟩;unfold aZ;rw[ABK,AB9,AAQ (by rw[AAf];exact hg)])
  n ADd [] OF
 unfold bl;grind
theorem aE(pid:Int)(fr:Int->Int):∀l:ADZ,QE pid fr (l.filter λy=>decide (y.2>0))=QE pid fr l
 | []=>rfl
 |y::r=>by
  have ih:=aE pid fr r;rw[AB9];by_cases h:y.2>0
  ·rw[AAP No];simp only[QE,ih]
  ·rw[AAQ (by rw[AAf];exact h)];have:=(WL y.2 (fr y.1)).1;simp only[QE,ih];grind
theorem dt(pid:Int)(fr:Int->Int):∀l:ADZ,(∀y∈l,0<y.2->fr y.1<=0)->QE pid fr l=[]
 | [],_=>rfl
 |y::r,h=>by have ih:=dt pid fr r λz hz=>h z (AAM _ hz);have h1:=h y AAg;have h2:=WL y.2 (fr y.1);simp only[QE,ih];grind
theorem gr(pid:Int){f g:Int->Int}(h:∀k,f k=g k)(l:ADZ):QE pid f l=QE pid g l:=by rw[show f=g from funext h]
theorem gH(pid:Int)(fr:Int->Int)(zt:∀k,0<=fr k):∀(l:ADZ),l.Pairwise (λa b=>a.1<b.1)->(∀y∈l,0<=y.2)->(∀k,tp (QE pid fr l) pid k=Tf k (QE pid fr l)/\Tf k (QE pid fr l)<=fr k)/\∀y∈l,Tf y.1 (QE pid fr l)=Qb y.2 (fr y.1)
 | [],_,_=>⟨λk=>⟨rfl,by simp only[QE,Tf];exact zt k⟩,λy hy=>by cases hy⟩
 |z::r,hp,h0=>by
  obtain⟨h1,h2⟩:=ABl.1 hp;obtain⟨i1,i2⟩:=gH pid fr zt r h2 λy hy=>h0 y (AAM _ hy);have hz0:=h0 z AAg;have hfz:=zt z.1
  have hno:Tf z.1 (QE pid fr r)=0:=kg _ _ λp hp'=>by obtain⟨_,_,w,hw,e,_⟩:=Xu pid fr r p hp';have:=h1 w hw;omega
  have hlz:0<=Qb z.2 (fr z.1):=by unfold Qb;by_cases h:z.2<fr z.1<;>simp[h]<;>omega
  have hle:=WL z.2 (fr z.1);simp only[QE];by_cases hg:Qb z.2 (fr z.1)>0
  ·rw[ABZ hg,ABU];refine⟨λk=>?_,λy hy=>?_⟩
   ·obtain⟨j1,j2⟩:=i1 k;simp only[tp,Tf];by_cases hk:z.1=k
    ·subst hk;rw[AAP ⟨trivial,rfl⟩,ABi,ABU,j1];exact⟨rfl,J⟩
    ·rw[AAQ (λh=>hk h.2),show(z.1==k)=false from ABa.2 hk,ABV,j1];exact⟨rfl,J⟩
   ·simp only[Tf];rcases AAd.1 hy with e|hy
    ·subst e;rw[ABi,ABU,hno];omega
    ·have:=h1 y hy;rw[show(z.1==y.1)=false from ABa.2 J,ABV,i2 y hy];omega
  grind
theorem YK{β:Type}(P:β->Bool)(f:β->β):∀l:List β,(∀y∈l,P y=false->P (f y)=false)->((l.filter P).map f).filter P=(l.map f).filter P
 | [],_=>rfl
 |y::r,h=>by have ih:=YK P f r λz hz=>h z (AAM _ hz);grind
theorem mQ{a:It}(ha:Py a){work:It}(hwl:work.length=a.length)(hw:Py work)(x1:AAB)(x2:Bool)(o x4:AAB){l left:ADZ}(hl:ca l)(hleft:ca left){u:ADp}(hu:u.length=a.length)
  (hc:∀k (h:k<a.length) (h2:k<work.length),(u[k]?=some false->QE work[k].1 (Pz work[k]) left=QE a[k].1 (Pz a[k]) l)/\(u[k]?=some true->QE work[k].1 (Pz work[k]) left=[])) (n:Nat) (hn:Ps<=n):
  ∃(best most:Int) (bt:AAB),iter n (Wk n a (x1,x2,o,x4,l,u)) ((-1),0,0)=some (best,most,(a.length:Int))/\iter n (WW n (o,left,work)) (([]:AAB),0,0)=some (bt,most,(a.length:Int))/\
   (best = -1/\most=0/\bt=[]\/∃j,∃h:j<a.length,best=(j:Int)/\u[j]?=some false/\bt=QE a[j].1 (Pz a[j]) l/\0<most):=by
 have h12:=ha.1
 obtain⟨z,w,hS,e1,e2⟩:=Zj (f:=Wk n a (x1,x2,o,x4,l,u)) (g:=WW n (o,left,work))
  (λs t=>∃k:Nat,k<=a.length/\s.2.2=(k:Int)/\t.2.2=(k:Int)/\t.2.1=s.2.1/\(s.1 = -1/\s.2.1=0/\t.1=[]\/∃j,∃h:j<a.length,s.1=(j:Int)/\u[j]?=some false/\t.1=QE a[j].1 (Pz a[j]) l/\0<s.2.1))
  (λz w=>z.2.2=(a.length:Int)/\w.2.2=(a.length:Int)/\w.2.1=z.2.1/\(z.1 = -1/\z.2.1=0/\w.1=[]\/∃j,∃h:j<a.length,z.1=(j:Int)/\u[j]?=some false/\w.1=QE a[j].1 (Pz a[j]) l/\0<z.2.1))
  (λs=>((a.length:Int)-s.2.2).toNat) (λs t hR=>by
   obtain⟨b,m,i⟩:=s;obtain⟨bt,m2,i2⟩:=t;obtain⟨k,hk,h1,h2,h3,h4⟩:=hR;dsimp only at h1 h2 h3 h4;subst h1;subst h2;subst h3
   have hm0:0<=m2:=by
    rcases h4 with⟨_,h,_⟩|⟨_,_,_,_,_,h⟩<;>(clear hn;omega)
   unfold Wk WW;dsimp only;rw[hwl];by_cases zA:k<a.length
   ·right;have hkw:k<work.length:=ADb
    have hst:=(ha.2.2 _ (ABW zA)).2.2;have hst2:=(hw.2.2 _ (ABW hkw)).2.2;obtain⟨c1,c2⟩:=hc k zA hkw;rw[show decide ((k:Int)<(a.length:Int))=true by rw[AAf];clear hn;omega,ABU,ABU,Pk zA,ABT,eP a[k] hst l hl n hn,ABT,Po ADb,ABU,ABX,AAI (show k<u.length by clear hn;omega),ABT,Pj zA (show a.length<=9223372036854775807 by clear hn;omega)];rw[Pk hkw,ABT,eG work[k] hst2 left hleft n hn,ABT];rw[AAI (show k<u.length by clear hn;omega)]at c1 c2;have hμ:((a.length:Int)-((k+1:Nat):Int)).toNat<((a.length:Int)-(k:Int)).toNat:=ADb
    dsimp only;cases hui:u[k]'(by clear hn;omega)with
    |true=>
     rw[c2 (by rw[hui])];simp only[ABc,ABV,ABT];rw[show decide (Xo []>m2)=false by rw[AAl];simp only[Xo];clear hn;omega];exact⟨_,_,rfl,rfl,⟨k+1,zA,rfl,rfl,rfl,h4⟩,hμ⟩
    |false=>
     rw[c1 (by rw[hui])];simp only[ABu,ABU,ABT];by_cases hg:Xo (QE a[k].1 (Pz a[k]) l)>m2
     ·rw[ABZ hg];exact⟨_,_,rfl,rfl,⟨k+1,zA,rfl,rfl,rfl,.inr ⟨k,zA,rfl,by rw[AAI (show k<u.length by clear hn;omega),hui],rfl,by show 0<Xo _;clear hn;omega⟩⟩,hμ⟩
     ·rw[ABd hg];exact⟨_,_,rfl,rfl,⟨k+1,zA,rfl,rfl,rfl,h4⟩,hμ⟩
   ·left;have:k=a.length:=ADb
    subst this;rw[show decide ((a.length:Int)<(a.length:Int))=false by rw[AAl];clear hn;omega];exact⟨_,_,rfl,rfl,rfl,rfl,rfl,h4⟩) n ((-1),0,0) (([]:AAB),0,0) ⟨0,Nat.zero_le _,rfl,rfl,rfl,.inl ⟨rfl,rfl,rfl⟩⟩ (by show((a.length:Int)-0).toNat<n;unfold Ps at hn;omega)
 grind
def SD(want:ADZ)(o:AAB):ADZ:=(leftOf want o).filter λy=>decide (y.2>0)
theorem mC(h:ca (leftOf want o)):ca (SD want o):=⟨h.1.filter _,λy hy=>h.2.1 y (ABm.1 hy).1,AAv (ABs _ _) h.2.2⟩
structure PI(a:It)(want:ADZ)(o:AAB)(u:ADp):Prop where
 ul:u.length=a.length
 ol:o.length+6*XE u<=72
 wy:∀y∈want,Tf y.1 o<=y.2
 mem:∀p∈o,1<=p.2.2/\∃y∈want,y.1=p.2.1
 fits:Fits a o
 tT:Py (QM a (tp o))
 off:∀k (h:k<a.length),u[k]?=some false->∀s,tp o a[k].1 s=0
 on:∀k (h:k<a.length),u[k]?=some true->∀y∈want,Tf y.1 o<y.2->Pz a[k] y.1-tp o a[k].1 y.1<=0
theorem dB:∀(l:ADZ),(∀y∈l,0<=y.2)->(V4 l=0↔(l.filter λy=>decide (y.2>0))=[])
 | [],_=>⟨λ_=>rfl,λ_=>rfl⟩
 |y::r,h=>by have ih:=dB r λz hz=>h z (AAM _ hz);have h1:=h y AAg;have h2:=(cX r λz hz=>h z (AAM _ hz)).1;rw[AB9];simp only[V4];grind
theorem eS(want:ADZ)(o bt:AAB):(leftOf want o).map (λy=>(y.1,y.2-Tf y.1 bt))=leftOf want (o++bt):=by unfold leftOf;rw[List.map_map];refine AB4 λy _=>?_;simp only[Function.comp,dm,Int.sub_sub]
theorem PI.step(ha:Py a)(hw:YI want){u:ADp}(h:PI a want o u){j:Nat}(hj:j<a.length)(hu:u[j]?=some false):PI a want (o++QE a[j].1 (Pz a[j]) (leftOf want o)) (Ca u j true):=by
 have hL:=iy hw (λp hp=>(h.mem p hp).1) h.wy;obtain⟨f1,f2⟩:=aS u j hu;have hst:=(ha.2.2 _ (ABW hj)).2.2;have hcl:=aO a[j].1 (Pz a[j]) (leftOf want o);have hll:(leftOf want o).length<=6:=hL.2.2;have hcm:=Xu a[j].1 (Pz a[j]) (leftOf want o);have hct:=aP a[j].1 (Pz a[j]) (leftOf want o) hL.1 (λy hy=>(hL.2.1 y hy).1);obtain⟨t1,t2⟩:=gH a[j].1 (Pz a[j]) (λk=>(Zz a[j] hst k).1) (leftOf want o) hL.1 (λy hy=>(hL.2.1 y hy).1);generalize hbt:QE a[j].1 (Pz a[j]) (leftOf want o)=bt at hcl hcm hct t1 t2;have hlm:∀y∈want,(y.1,y.2-Tf y.1 o)∈leftOf want o:=λy hy=>by unfold leftOf;grind
 have hbm:∀p∈bt,1<=p.2.2/\p.2.2<=1000/\∃y∈want,y.1=p.2.1:=λp hp=>by obtain⟨_,q1,y,hy,q2,q3⟩:=hcm p hp;have:=(hL.2.1 y hy).2;unfold leftOf at hy;grind
 have hother:∀k (hk:k<a.length),k≠j->∀s,tp bt a[k].1 s=0:=λk hk zD s=>pc bt _ s λp hp e=>by
  have e2:a[j].1=a[k].1:=(hcm p hp).1.symm.trans e;exfalso;rcases ABg j k with hl|hl|hl
  ·have:=(ABR.1 ha.2.1 j k hj hk hl).1;omega
  ·omega
  ·have:=(ABR.1 ha.2.1 k j hk hj hl).1;omega
 have hF:Fits a (o++bt):=by
  refine⟨λp hp=>?_,λq hq k=>?_⟩
  ·rcases ABL.1 hp with hp|hp
   ·exact h.fits.each p hp
   ·obtain⟨q1,q2,y,hy,q3⟩:=hbm p hp;have hyb:=hw.2.1 y hy;grind
  ·obtain⟨i,hi,rfl⟩:=ABY.1 hq;rw[ai];by_cases hij:i=j
   ·subst hij;rw[h.off i hi hu k,(t1 k).1];grind
   ·rw[hother i hi hij k];have:=h.fits.free _ (ABW hi) k;omega
 have hug:∀k,(Ca u j true)[k]?=if j=k then some true else u[k]?:=λk=>by rw[QX,ACJ];grind
 refine⟨by rw[f2];exact h.ul,?_,λy hy=>?_,λp hp=>?_,hF,(gN ha h.tT hF).2,λk hk e s=>?_,λk hk e y hy zA=>?_⟩
 ·have:=h.ol;grind
 ·have:=hct _ (hlm y hy);dsimp only at this;rw[dm];omega
 ·rcases ABL.1 hp with hp|hp
  ·exact h.mem p hp
  grind
 ·rw[hug]at e;by_cases hjk:j=k
  ·grind
  ·rw[AAQ hjk]at e;rw[ai,h.off k hk e s,hother k hk (λq=>hjk q.symm) s];rfl
 ·rw[dm]at zA;rw[hug]at e;rw[ai];by_cases hjk:j=k
  ·subst hjk;have e3:=t2 _ (hlm y hy);dsimp only at e3;rw[h.off j hk hu y.1,(t1 y.1).1,e3];rw[e3]at zA;unfold Qb at zA ⊢;grind
  ·rw[AAQ hjk]at e;have hb0:=Yg y.1 bt λp hp=>(hbm p hp).1;rw[hother k hk (λq=>hjk q.symm) y.1];have:=h.on k hk e y hy J;omega
abbrev tX:=AAB×Bool×AAB×AAB×ADZ×ADp
abbrev tV:=AAB×ADZ×It
def tW(a:It)(want:ADZ)(x:tX)(y:tV):Prop:=x.2.2.2.1=[]/\x.2.2.2.2.1=leftOf want x.2.2.1/\PI a want x.2.2.1 x.2.2.2.2.2/\y=(x.2.2.1,SD want x.2.2.1,QM a (tp x.2.2.1))
def wc(a:It)(want:ADZ)(z:tX⊕(AAB×Bool))(w:tV⊕(AAB×Bool)):Prop:=∃o b,z=.inr (o,b)/\(b=true->PG o want/\Fits a o/\o.length<=72)/\(b=false->o=[])/\(w=.inr (o,b)\/b=true/\∃l s,w=.inl (o,l,s))
theorem kE{y:QB}(hy:y∈want)(o:AAB):(y.1,y.2-Tf y.1 o)∈leftOf want o:=by unfold leftOf;grind
theorem kF{bt:AAB}(hb:∀p∈bt,1<=p.2.2):aZ (SD want o) bt=SD want (o++bt):=by
 unfold aZ SD
 rw[YK (λy:QB=>decide (y.2>0)) (λy=>(y.1,y.2-Tf y.1 bt)) (leftOf want o) λy _ hp=>by
  have:=Yg y.1 bt hb;grind,eS]
theorem PI.qc(ha:Py a){u:ADp}(hI:PI a want o u)(k:Nat)(hk:k<a.length)(hk2:k<(QM a (tp o)).length):
  (u[k]?=some false->QE (QM a (tp o))[k].1 (Pz (QM a (tp o))[k]) (SD want o)=QE a[k].1 (Pz a[k]) (leftOf want o))/\(u[k]?=some true->QE (QM a (tp o))[k].1 (Pz (QM a (tp o))[k]) (SD want o)=[]):=by
 rw[gL hk2];have hto:=hI.fits.to ha (ABW hk);refine⟨λe=>?_,λe=>?_⟩
 ·unfold SD;rw[aE];exact gr _ (λs=>by rw[hto s,hI.off k hk e s,Int.sub_zero]) _
 ·refine dt _ _ _ λy hy hpos=>?_;unfold SD leftOf at hy;obtain⟨z,hz,rfl⟩:=AAt.1 (ABm.1 hy).1;show Pz (lN (tp o) a[k]) z.1<=0;rw[hto];exact hI.on k hk e z hz J
theorem kN(ha:Py a)(hw:YI want)(n:Nat)(hn:Ps<=n)(x:tX)(y:tV)(hR:tW a want x y):
  (∃z w,Wj n a x=some (.inr z)/\WV n y=some (.inr w)/\wc a want z w)\/(∃x' y',Wj n a x=some (.inl x')/\WV n y=some (.inl y')/\tW a want x' y'/\XE x'.2.2.2.2.2<XE x.2.2.2.2.2):=by
 obtain⟨x1,x2,o,nn,l,u⟩:=x;obtain⟨g1,g2,hI,g4⟩:=hR;dsimp only at g1 g2 hI g4;subst g1;subst g2;subst g4;have hol:=hI.ol;have hL:=iy hw (λp hp=>(hI.mem p hp).1) hI.wy;have hLP:=mC hL;have h0:=dB (leftOf want o) λy hy=>(hL.2.1 y hy).1;unfold Wj WV;rw[nq (x1,x2,o,[],leftOf want o,u) hL n hn,ABT];dsimp only;by_cases hz:V4 (leftOf want o)=0
 ·left;have hnil:SD want o=[]:=h0.1 hz;rw[hz,hnil];refine⟨_,_,rfl,rfl,o,true,rfl,λ_=>⟨⟨hI.mem,λy hy=>?_⟩,hI.fits,ADb⟩,(λe=>by cases e),.inr ⟨rfl,_,_,rfl⟩⟩;have:=(cX (leftOf want o) λy hy=>(hL.2.1 y hy).1).2 hz _ (kE hy o);omega
 ·have zD:SD want o≠[]:=λe=>hz (h0.2 e)
  have hpos:0<(SD want o).length:=by
   cases hq:SD want o with
   |nil=>grind
   |cons _ _=>simp
  rw[show(V4 (leftOf want o)==0)=false from ABa.2 hz,ABV,show decide (((SD want o).length:Int)>0)=true by grind,ABU];obtain⟨best,most,bt,e1,e2,hb⟩:=mQ ha (aV a (tp o)) hI.tT x1 x2 o [] hL hLP hI.ul (λk hk hk2=>hI.qc ha k hk hk2) n hn;rw[e1,e2,ABT,ABT];dsimp only;rcases hb with⟨rfl,rfl,rfl⟩|⟨j,hj,rfl,hu,hbt,hm⟩
  ·left;exact⟨_,_,rfl,rfl,[],false,rfl,(λe=>by cases e),λ_=>rfl,.inl rfl⟩
  ·right;have hju:j<u.length:=by rw[hI.ul];exact hj
   have hst:=(ha.2.2 _ (ABW hj)).2.2;have hcl:=aO a[j].1 (Pz a[j]) (leftOf want o);have hll:(leftOf want o).length<=6:=hL.2.2;have hcm:=Xu a[j].1 (Pz a[j]) (leftOf want o);have hct:=aP a[j].1 (Pz a[j]) (leftOf want o) hL.1 (λy hy=>(hL.2.1 y hy).1);have hstep:=hI.step ha hw hj hu;have hc:=eP a[j] hst (leftOf want o) hL n hn;have hpg:∀p∈bt,1<=p.2.2:=λp hp=>No
   have zr:=lH bt (leftOf want o) hpg (λy hy=>⟨No,(hL.2.1 y hy).2⟩);rw[<-hbt]at hcl hct hstep hc;have hH:=gN ha hI.tT hstep.fits;have hHA:=Yo (QM a (tp o)) hI.tT.sm bt J n hn;rw[hH.1]at hHA
   have hle:=fU (SD want o) hLP.2.2 bt J hpg (λy hy=>by
    have hy2:=(ABm.1 hy).1;exact⟨hct y hy2,(hL.2.1 y hy2).2⟩) n hn
   rw[kF hpg]at hle;have yz:decide (o.length+bt.length<=Dj)=true:=VI J;have h4:=nr bt J (Xo bt) (leftOf want o) hll n hn;rw[show decide ((j:Int)<0)=false by simp,ABV,Po hju,ABU,Pk hj,ABT,hc,ABT];dsimp only;rw[show(most==0)=false from ABa.2 J,ABV,yz,ABU,ABU,h4,ABT,hHA,ABT,hle,ABT,ABX];refine⟨_,_,rfl,rfl,⟨rfl,?_,hstep,rfl⟩,by have:=(aS u j hu).1;grind⟩;show bt.foldl (λl p=>dW p l) (leftOf want o)=leftOf want (o++bt);rw[zr,eS]
theorem PI.init(ha:Py a)(hw:YI want):PI a want [] (List.replicate a.length false):=by
 have h0:QM a (tp [])=a:=Zd a _ λ_ _=>rfl;have h12:=ha.1;refine⟨OF,by rw[aR];simp;omega,λy hy=>?_,(λp hp=>by cases hp),⟨(λp hp=>by cases hp),λq hq k=>?_⟩,by rw[h0];exact ha,λk hk _ s=>rfl,λk hk e=>?_⟩
 ·have:=hw.2.1 y hy;simp only[Tf];omega
 ·exact(Zz q (ha.2.2 q hq).2.2 k).1
 grind
theorem iz(hw:YI want):SD want []=want:=by
 have:leftOf want []=want:=by unfold leftOf;simp[Tf]
 unfold SD;rw[this];exact ACL.2 λy hy=>by have:=hw.2.1 y hy;grind
theorem jh(ha:Py a)(hw:YI want)(n:Nat)(hn:Ps<=n):∃o b,Tw n a want=some (o,b)/\VG n a want=some (o,b)/\(b=true->PG o want/\Fits a o/\o.length<=72)/\(b=false->o=[]):=by
 have h12:=ha.1;have h6:=hw.2.2;have h0:QM a (tp [])=a:=Zd a _ λ_ _=>rfl
 obtain⟨z,w,hS,e1,e2⟩:=Zj (tW a want) (wc a want) (λx=>XE x.2.2.2.2.2) (λx y hR=>kN ha hw n hn x y hR) n
  (([]:AAB),false,([]:AAB),([]:AAB),want,List.replicate a.length (false:Bool)) (([]:AAB),want,a)
  ⟨rfl,by show want=leftOf want [];unfold leftOf;simp[Tf],PI.init ha hw,by rw[iz hw,h0]⟩ (by show XE (List.replicate a.length false)<n;rw[aR];unfold Ps at hn;omega)
 obtain⟨o,b,rfl,q1,q2,q3⟩:=hS;refine⟨o,b,?_,?_,q1,q2⟩
 ·unfold Tw;rw[Qa a ha.sm n hn,ha.ok,hw.ok n hn];simp only[ABT,ABc,ABV];rw[show decide (([]:ADZ).length+want.length<=Dj)=true from VI No,ABU];rw[show(decide (0<=(a.length:Int))&&decide ((a.length:Int)<=(Dj:Int))&&decide True)=true by rw[show decide ((a.length:Int)<=(Dj:Int))=true by rw[AAf];unfold Dj;clear hn;omega];simp,ABU,AA0,ABX,e1,ABT]
 ·unfold VG Qz;rw[Qq a ha.sm n hn,ha.ok,SX want ADb n hn,WI.2 hw,QL a ha.sm n hn,VI (show want.length<=1048576 by clear hn;omega)];grind
theorem lT(a:It)(hs:P4 a)(want:ADZ)(hl:want.length<=1048576)(n:Nat)(hn:Ps<=n):∃o b,Tw n a want=some (o,b)/\VG n a want=some (o,b)/\(b=true->Py a/\YI want/\PG o want/\Fits a o/\o.length<=72)/\(b=false->o=[]):=by
 cases h1:QP a with
 |false=>
  refine⟨[],false,?_,?_,(λe=>by cases e),λ_=>rfl⟩
  ·unfold Tw;rw[Qa a hs n hn,h1];rfl
  ·unfold VG;rw[Qq a hs n hn,h1];rfl
 |true=>
  cases h2:WH want with
  |false=>
   refine⟨[],false,?_,?_,(λe=>by cases e),λ_=>rfl⟩
   ·unfold Tw;rw[Qa a hs n hn,h1,WO want hl n hn,h2];rfl
   ·unfold VG;rw[Qq a hs n hn,h1,SX want hl n hn,h2];rfl
  |true=>
   have ha:=QS.1 h1;have hw:=WI.1 h2;obtain⟨o,b,e1,e2,q1,q2⟩:=jh ha hw n hn;grind
def ao(p:Ph)(y:QB):Bool:=y.1==p.2.1&&Qg p.2.2 1 y.2
def Zy(p:Ph)(l:ADZ):ADZ:=l.map λy=>bif y.1==p.2.1 then(y.1,y.2-p.2.2)else y
def foldI:AAB->ADZ->Option ADZ
 | [],l=>some l
 |p::r,l=>if l.any (ao p)then foldI r (Zy p l)else none
def X4(ps:AAB)(l:ADZ):Bool:=match foldI ps l with
 |some z=>z.all λy=>y.2==0
 |none=>false
theorem aq{y:QB}:ao p y=true↔y.1=p.2.1/\1<=p.2.2/\p.2.2<=y.2:=by unfold ao Qg;grind
theorem jX(p:Ph)(l:ADZ):(Zy p l).length=l.length:=by unfold Zy;grind
theorem lF{l:ADZ}(h:l.Pairwise λa b=>a.1<b.1):(Zy p l).Pairwise λa b=>a.1<b.1:=by unfold Zy;grind
theorem fE{l:ADZ}{y:QB}(h:y∈Zy p l):∃z∈l,y.1=z.1/\y.2=if z.1=p.2.1 then z.2-p.2.2 else z.2:=by unfold Zy at h;grind
theorem lE{l:ADZ}{z:QB}(h:z∈l):(z.1,if z.1=p.2.1 then z.2-p.2.2 else z.2)∈Zy p l:=by unfold Zy;grind
theorem nK{l:ADZ}(h:l.Pairwise λa b=>a.1<b.1){y z:QB}(hy:y∈l)(hz:z∈l)(e:y.1=z.1):y=z:=by
 obtain⟨i,hi,rfl⟩:=ABY.1 hy;obtain⟨j,hj,rfl⟩:=ABY.1 hz;rcases ABg i j with hl|hl|hl
 ·have:=ABR.1 h i j hi hj hl;omega
 ·subst hl;rfl
 ·have:=ABR.1 h j i hj hi hl;omega
theorem ZF:∀(ps:AAB)(l:ADZ),l.Pairwise (λa b=>a.1<b.1)->(X4 ps l=true↔PG ps l)
 | [],l,hl=>by
  show(l.all λy=>y.2==0)=true↔_;rw[AAW];constructor
  ·intro h;refine⟨(λp hp=>by cases hp),λy hy=>?_⟩;have:=h y hy;rw[AAT]at this;rw[this];rfl
  ·intro h y hy;rw[AAT];exact(h.2 y hy).symm
 |p::ps,l,hl=>by
  have ih:=ZF ps (Zy p l) (lF hl)
  have hun:X4 (p::ps) l=(if l.any (ao p)then X4 ps (Zy p l)else false):=by unfold X4;rw[foldI];grind
  rw[hun];by_cases ha:l.any (ao p)=true
  ·rw[AAP ha,ih];obtain⟨y,hy,hh⟩:=AA3.1 ha;obtain⟨h1,h2,h3⟩:=aq.1 hh;constructor
   ·rintro ⟨g1,g2⟩
    refine⟨λq hq=>?_,λz hz=>?_⟩
    ·rcases AAd.1 hq with rfl|hq
     ·grind
     ·obtain⟨a1,v,hv,a2⟩:=g1 q hq;obtain⟨w,hw,b1,_⟩:=fE hv;grind
    ·have:=g2 _ (lE (p:=p) hz);dsimp only at this;simp only[Tf];grind
   ·rintro ⟨g1,g2⟩
    refine⟨λq hq=>?_,λz hz=>?_⟩
    ·obtain⟨a1,v,hv,a2⟩:=g1 q (AAM _ hq);exact⟨a1,_,lE (p:=p) hv,a2⟩
    ·obtain⟨w,hw,b1,b2⟩:=fE hz;have:=g2 w hw;simp only[Tf]at this;grind
  ·rw[AAQ ha];refine⟨(λe=>by cases e),λ⟨g1,g2⟩=>(ha ?_).elim⟩;obtain⟨a1,y,hy,a2⟩:=g1 p AAg;have h3:=g2 y hy;have h4:=Yg y.1 ps λq hq=>(g1 q (AAM _ hq)).1;simp only[Tf]at h3;rw[show(p.2.1==y.1)=true from AAT.2 a2.symm,ABU]at h3;exact AA3.2 ⟨y,hy,aq.2 ⟨a2,a1,J⟩⟩
def lS(l:ADZ):Prop:=l.Pairwise (λa b=>a.1<b.1)/\(∀y∈l,0<=y.2/\y.2<=1000)/\l.length<=6
theorem lS.sub{l:ADZ}(h:lS l)(ha:l.any (ao p)=true):lS (Zy p l):=by
 obtain⟨y,hy,hh⟩:=AA3.1 ha;obtain⟨h1,h2,h3⟩:=aq.1 hh;refine⟨lF h.1,λz hz=>?_,by rw[jX];exact h.2.2⟩;obtain⟨w,hw,b1,b2⟩:=fE hz;have hwb:=h.2.1 w hw;rw[b2];split
 ·rename_i e;have:w=y:=nK h.1 hw hy (e.trans h1.symm);grind
 ·exact hwb
theorem jF{l:ADZ}(h:l.Pairwise λa b=>a.1<b.1)(hi:i<l.length)(e:l[i].1=p.2.1):l.modify i (λy=>(y.1,l[i].2-p.2.2))=Zy p l:=by
 apply ABt;intro k;unfold Zy;rw[ABf,AAb];by_cases hk:k<l.length
 ·rw[AAI hk];by_cases hik:i=k
  ·subst hik;rw[Option.map_eq_map,AA6,AA6,AAP rfl,show(l[i].1==p.2.1)=true from AAT.2 e,ABU]
  ·rw[Option.map_eq_map,AA6,AA6,AAQ hik]
   have:l[k].1≠p.2.1:=λe2=>by
    rcases ABg i k with hl|hl|hl
    ·have:=ABR.1 h i k hi hk hl;omega
    ·exact hik hl
    ·have:=ABR.1 h k i hk hi hl;omega
   rw[show(l[k].1==p.2.1)=false from ABa.2 this,ABV]
 grind
theorem kM(k:Int)(l:ADZ)(hl:lS l)(p:Ph)(n:Nat)(hn:Ps<=n):∃i:Int,iter n (Uz (k,l) p) (false,0,l)=some (bif l.any (ao p)then(true,i,Zy p l)else(false,i,l)):=by
 have h6:=hl.2.2
 obtain⟨z,hS,e⟩:=Ys (f:=Uz (k,l) p) (λx=>x.1=false/\x.2.2=l/\∃m:Nat,m<=l.length/\x.2.1=(m:Int)/\∀i (h:i<l.length),i<m->ao p l[i]=false)
  (λz=>z.1=false/\z.2.2=l/\l.any (ao p)=false\/z.1=true/\z.2.2=Zy p l/\l.any (ao p)=true) (λx=>((l.length:Int)-x.2.1).toNat) (λx hR=>by
   obtain⟨b,i,l'⟩:=x;obtain⟨h1,h2,m,hm,h3,h4⟩:=hR;dsimp only at h1 h2 h3;subst h1;subst h2;subst h3;unfold Uz;dsimp only;by_cases zA:m<l'.length
   ·have hyb:=hl.2.1 _ (ABW zA);rw[show decide ((m:Int)<(l'.length:Int))=true by rw[AAf];clear hn;omega,ABU,Po zA,ABX,AAI zA];simp only[ABU,ABT,V9,Q8]
    have hx:(bif l'[m].1==p.2.1 then some (Qg p.2.2 1 l'[m].2)else some false)=some (ao p l'[m]):=by
     unfold ao;cases(l'[m].1==p.2.1)<;>rfl
    rw[hx,ABT];cases hh:ao p l'[m]with
    |true=>
     obtain⟨a1,a2,a3⟩:=aq.1 hh;left;refine⟨_,rfl,.inr ⟨rfl,?_,AA3.2 ⟨_,ABW zA,hh⟩⟩⟩;show l'.modify m (λy=>(y.1,Pn (l'[m].2-p.2.2)))=_;rw[Pr (n:=l'[m].2-p.2.2) ADb ADb,jF hl.1 zA a1]
    |false=>
     right;rw[ABV,Pj zA (show l'.length<=9223372036854775807 by clear hn;omega)];refine⟨_,rfl,⟨rfl,rfl,m+1,zA,rfl,λi hi him=>?_⟩,by show((l'.length:Int)-((m+1:Nat):Int)).toNat<((l'.length:Int)-(m:Int)).toNat;clear hn;omega⟩;by_cases e:i=m
     ·subst e;exact hh
     ·exact h4 i hi ADb
   ·left;rw[show decide ((m:Int)<(l'.length:Int))=false by rw[AAl];clear hn;omega];refine⟨_,rfl,.inl ⟨rfl,rfl,?_⟩⟩;rw[<-ABw];intro ha;obtain⟨y,hy,hh⟩:=AA3.1 ha;obtain⟨i,hi,rfl⟩:=ABY.1 hy;rw[h4 i hi ADb]at hh;cases hh) n (false,0,l) ⟨rfl,rfl,0,Nat.zero_le _,rfl,λi _ h=>J⟩ (by show((l.length:Int)-0).toNat<n;unfold Ps at hn;omega)
 grind
theorem bm(ps:AAB)(hp:ps.length<=1048576)(l:ADZ)(hl:lS l)(n:Nat)(hn:Ps<=n):Vn n ps l=some (X4 ps l):=by
 have h6:=hl.2.2
 have hc:=QA (σ:=ADZ) (Uy n ps) (λi s=>((i:Int),s)) ps (λr s=>match foldI r s with|some z=>.inl ((ps.length:Int),z)|none=>.inr false) (λi s=>lS s)
  (λs hs=>by unfold Uy;simp[foldI])
  (λi p r s g1 g2 g3 g4 g5=>by
   have hpi:ps[i]=p:=by rw[AAI g1]at g2;exact Option.some.inj g2
   obtain⟨j,e⟩:=kM (i:Int) s g5 p n hn;unfold Uy;dsimp only;rw[show decide ((i:Int)<(ps.length:Int))=true by grind,ABU,Pk g1,hpi,ABT,e,ABT,Pj g1 (show ps.length<=9223372036854775807 by omega)];cases ha:s.any (ao p)with
   |true=>
    left;refine⟨Zy p s,rfl,g5.sub ha,?_⟩;rw[foldI,AAP ha]
   |false=>
    right;rw[foldI,AAQ (by rw[ha];simp)];rfl)
  n ADd l hl
 unfold Vn Qz;rw[VI (show l.length<=1048576 by omega),ABU,ABT];rw[show((0:Nat):Int)=0 from rfl]at hc;rw[hc,ABT];unfold X4;cases hf:foldI ps l with
 |none=>rfl
 |some z=>
  have hzl:z.length<=6:=by
   have:∀(ps:AAB)(l z:ADZ),foldI ps l=some z->z.length=l.length:=by
    intro ps
    induction ps with
    |nil=>intro l z e;injection e with e;rw[e]
    |cons p ps ih=>
     intro l z e;rw[foldI]at e;split at e
     ·rw[ih _ _ e,jX]
     ·cases e
   rw[this ps l z hf];exact h6
  have h3:=Rl (U0 ((ps.length:Int),z)) z (λy=>y.2==0) (λi x hi hx=>by
   obtain⟨_,rfl⟩:=AAK.1 hx;unfold U0;dsimp only;rw[show decide ((i:Int)<(z.length:Int))=true by rw[AAf];clear hn;omega,ABU,Po hi,ABX,AAI hi,ABU,ABT,Pj hi (show z.length<=9223372036854775807 by clear hn;omega)];simp only[bne];cases(z[i].2==0)<;>rfl) (by unfold U0;simp) n ADd
  grind
abbrev QH:=Int×Int×ADZ×AAB×Int
abbrev ADY:=List QH
theorem TH(nx:Int)(l:ADY)(h:RZ (nx,l))(n:Nat)(hn:Ps<=n):SE n nx l=some (nx,l):=by
 have hl:l.length<=1048576:=h.1
 have hc:=QA (σ:=ADY) (U7 l) (λi s=>((i:Int),nx,s)) l (λr s=>((l.length:Int),nx,s++r)) (λi s=>s.length<=i)
  (λs hs=>by simp[U7]) (λi y r s h1 h2 h3 h4 h5=>by
   left;have hy:l[i]=y:=by rw[AAI h1]at h2;exact Option.some.inj h2
   refine⟨s++[y],?_,by rw[AAz,ABb];omega,OF⟩;unfold U7;dsimp only;rw[show decide ((i:Int)<(l.length:Int))=true by simpa using h1,ABU,Pk h1,hy,ABT,Zt y (h.2 y (by rw[<-hy];exact ABW h1)),ABT,Pj h1 J];rw[show decide (s.length+[(y.1,y.2.1,y.2.2.1,y.2.2.2.1,y.2.2.2.2)].length<=Dj)=true from Ru J,ABU])
  n ADd [] OF
 unfold SE;grind
theorem UG(nx:Int)(l:ADY)(h:RZ (nx,l))(n:Nat)(hn:Ps<=n):RK n nx l=some (nx,l):=by
 have hl:l.length<=1048576:=h.1
 have hc:=QA (σ:=ADY) (UF l) (λi s=>((i:Int),nx,s)) l (λr s=>((l.length:Int),nx,s++r)) (λi s=>s.length<=i)
  (λs hs=>by simp[UF]) (λi y r s h1 h2 h3 h4 h5=>by
   left;have hy:l[i]=y:=by rw[AAI h1]at h2;exact Option.some.inj h2
   refine⟨s++[y],?_,by rw[AAz,ABb];omega,OF⟩;unfold UF;dsimp only;rw[show decide ((i:Int)<(l.length:Int))=true by simpa using h1,ABU,Pk h1,hy,ABT,Vi y (h.2 y (by rw[<-hy];exact ABW h1)),ABT,Pj h1 J];have hr:decide (s.length+1<=Dj)=true:=Ru J;simp only[ABb,hr,ABU])
  n ADd [] OF
 unfold RK;grind
def Rt(l:ADY):ADY:=l.filter λo=>o.2.2.2.2==1
theorem ia{β:Type}(f:Int->Option (Int⊕(Int⊕Int)))(xs:List β)(P:β->Bool)(hs:∀(i:Nat)(x:β),i<xs.length->xs[i]?=some x->f (i:Int)=some (bif P x then .inr (.inr (i:Int))else .inl ((i+1:Nat):Int)))
  (j:Nat) (hj:j<xs.length) (hP:P xs[j]=true):∀n,xs.length<n->∃i,∃h:i<xs.length,P xs[i]=true/\iter n f 0=some (.inr (i:Int)):=by
 have key:∀d i n,i+d=j->d<n->∃k,∃h:k<xs.length,P xs[k]=true/\iter n f (i:Int)=some (.inr (k:Int)):=by
  intro d
  induction d with
  |zero=>
   intro i n hi hn;obtain⟨n,rfl⟩:∃k,n=k+1:=⟨n-1,J⟩;have:i=j:=J
   subst this;have hf:=hs i xs[i] hj (AAI hj);rw[hP,ABU]at hf;exact⟨i,hj,hP,QO hf n⟩
  |succ d ih=>
   intro i n hi hn;obtain⟨n,rfl⟩:∃k,n=k+1:=⟨n-1,J⟩;have zA:i<xs.length:=J
   have hf:=hs i xs[i] zA (AAI zA);cases hp:P xs[i]with
   |true=>rw[hp,ABU]at hf;exact⟨i,zA,hp,QO hf n⟩
   |false=>rw[hp,ABV]at hf;rw[S4 hf n];exact ih (i+1) n J J
 exactλn hn=>key j 0 n J J
theorem Zp(nx:Int)(l:ADY)(hl:l.length<=1048576)(hp:l.Pairwise (λa b=>a.1<b.1))(i:Nat)(hi:i<l.length)(n:Nat)(hn:Ps<=n):RN n nx l l[i].1=some (i:Int):=by
 obtain⟨j,hj,hP,e⟩:=ia (Ry l l[i].1) l (λx=>x.1==l[i].1) (λm x h1 h2=>by
  have hx:l[m]=x:=by rw[AAI h1]at h2;exact Option.some.inj h2
  simp only[Ry,Pk h1,hx,ABT,Pj h1 J];grind) i hi OF n ADd
 have hji:j=i:=by
  have hP:l[j].1=l[i].1:=by simpa using hP
  rcases ABg j i with q|q|q
  ·have:=ABR.1 hp j i hj hi q;omega
  ·exact q
  ·have:=ABR.1 hp i j hi hj q;omega
 subst hji;unfold RN;rw[e];rfl
theorem Vr(nx:Int)(l:ADY)(hl:l.length<=1048576)(c:Int)(hc:∀x∈l,x.1≠c)(n:Nat)(hn:Ps<=n):RN n nx l c=some (-1):=by
 have:=gK (Ry l c) l (λx=>x.1==c) (λm x h1 h2=>by
  have hx:l[m]=x:=by rw[AAI h1]at h2;exact Option.some.inj h2
  simp only[Ry,Pk h1,hx,ABT,Pj h1 J];rw[show decide ((m:Int)<(l.length:Int))=true by simpa using h1];cases hq:(x.1==c)<;>rfl) (by simp[Ry]) n ADd
 unfold RN;grind
def cY(l:ADZ)(ps:AAB):Int:=match l with
 | []=>0
 |y::r=>Tf y.1 ps+cY r ps
theorem jZ:∀l:ADZ,cY l []=0
 | []=>rfl
 |y::r=>by simp only[cY,jZ r,Tf];rfl
theorem fH(p:Ph)(ps:AAB):∀l:ADZ,(∀y∈l,y.1≠p.2.1)->cY l (p::ps)=cY l ps
 | [],_=>rfl
 |y::r,h=>by have h1:=h y AAg;simp only[cY,Tf,fH p ps r λz hz=>h z (AAM _ hz)];grind
theorem lI(p:Ph)(ps:AAB):∀l:ADZ,l.Pairwise (λa b=>a.1<b.1)->(∃y∈l,y.1=p.2.1)->cY l (p::ps)=p.2.2+cY l ps
 | [],_,⟨y,hy,_⟩=>by cases hy
 |y::r,hl,⟨z,hz,e⟩=>by
  obtain⟨h1,h2⟩:=ABl.1 hl;simp only[cY,Tf];by_cases hy:y.1=p.2.1
  ·rw[fH p ps r λw hw=>No,show(p.2.1==y.1)=true from AAT.2 hy.symm,ABU];omega
  ·rcases AAd.1 hz with e2|hz
   ·grind
   ·rw[lI p ps r h2 ⟨z,hz,e⟩,show(p.2.1==y.1)=false from ABa.2 λe=>hy e.symm,ABV];omega
theorem fG{l:ADZ}(hl:l.Pairwise λa b=>a.1<b.1):∀ps:AAB,(∀p∈ps,1<=p.2.2)->cY l ps<=Xo ps/\(cY l ps=Xo ps↔∀p∈ps,∃y∈l,y.1=p.2.1)
 | [],_=>by rw[jZ];exact⟨by simp[Xo],⟨λ_ p hp=>(by cases hp),λ_=>rfl⟩⟩
 |p::ps,h=>by
  obtain⟨i1,i2⟩:=fG hl ps λq hq=>h q (AAM _ hq);have hp:=h p AAg;simp only[Xo];by_cases hy:∃y∈l,y.1=p.2.1
  ·rw[lI p ps l hl hy];grind
  ·rw[fH p ps l λy hy2 e=>hy ⟨y,hy2,e⟩];grind
theorem iK(ps:AAB):∀l:ADZ,(∀y∈l,Tf y.1 ps=y.2)->cY l ps=V4 l
 | [],_=>rfl
 |y::r,h=>by simp only[cY,V4,h y AAg,iK ps r λz hz=>h z (AAM _ hz)]
theorem lO(h:∀p∈ps,1<=p.2.2)(hp:p∈ps):p.2.2<=Tf p.2.1 ps:=by
 induction ps with
 |nil=>cases hp
 |cons q r ih=>
  have h1:=Yg p.2.1 r λz hz=>h z (AAM _ hz);have h2:=h q AAg;simp only[Tf];grind
theorem mP{l:ADZ}(hl:YI l):((∀p∈ps,1<=p.2.2/\p.2.2<=1000)/\(∀y∈l,Tf y.1 ps=y.2)/\V4 l-Xo ps=0)↔PG ps l:=by
 constructor
 ·rintro ⟨h1,h2,h3⟩
  have hs:=(fG hl.1 ps λp hp=>(h1 p hp).1).2.1 (by rw[iK ps l h2];omega);exact⟨λp hp=>⟨(h1 p hp).1,hs p hp⟩,h2⟩
 ·rintro ⟨h1,h2⟩
  have hs:=(fG hl.1 ps λp hp=>(h1 p hp).1).2.2 λp hp=>(h1 p hp).2;refine⟨λp hp=>⟨(h1 p hp).1,?_⟩,h2,by rw[iK ps l h2]at hs;omega⟩;obtain⟨y,hy,e⟩:=(h1 p hp).2;have:=lO (λq hq=>(h1 q hq).1) hp;have h4:=h2 y hy;have h5:=hl.2.1 y hy;grind
def jg(nx:Int)(o:QH):Prop:=(1<=o.1/\o.1<=nx-1)/\(0<=o.2.1/\o.2.1<=99)/\(YI o.2.2.1/\0<o.2.2.1.length)/\PG o.2.2.2.1 o.2.2.1/\(1<=o.2.2.2.2/\o.2.2.2.2<=3)
def XL(nx:Int)(l:ADY):Prop:=(1<=nx/\nx<=1000000)/\l.length<=30/\l.Pairwise (λa b=>a.1<b.1)/\∀o∈l,jg nx o
def gk(l:ADY):Prop:=∀o∈l,∀p∈o.2.2.2.1,1<=p.1/\p.1<=999
def aJ(nx:Int)(l:ADY)(i:Nat):Bool:=match l[i]? with
 |some o=>Qg o.1 1 (nx-1)&&RJ (·.1) l i o&&Qg o.2.1 0 99&&Qg o.2.2.2.2 1 3 && !((o.2.2.1.length:Int)==0)&&WH o.2.2.1&&X4 o.2.2.2.1 o.2.2.1
 |none=>false
theorem mL{l:ADY}(hi:i<l.length):aJ nx l i=true↔jg nx l[i]/\RJ (·.1) l i l[i]=true:=by
 unfold aJ jg;rw[AAI hi];simp only[AAJ,WI,AAU,ABa];have yt:∀a b c:Int,Qg a b c=true↔b<=a/\a<=c:=λa b c=>by unfold Qg;grind
 rw[yt,yt,yt];constructor
 ·rintro ⟨⟨⟨⟨⟨⟨h1,h2⟩,h3⟩,h4⟩,h5⟩,h6⟩,h7⟩
  exact⟨⟨h1,h3,⟨h6,J⟩,(ZF _ _ h6.1).1 h7,h4⟩,h2⟩
 ·rintro ⟨⟨h1,h3,⟨h6,h5⟩,h7,h4⟩,h2⟩
  exact⟨⟨⟨⟨⟨⟨h1,h2⟩,h3⟩,h4⟩,J⟩,h6⟩,(ZF _ _ h6.1).2 h7⟩
theorem iT{l:ADY}(hn:1<=nx/\nx<=1000000)(h30:l.length<=30):(List.range l.length).all (aJ nx l)=true↔XL nx l:=by
 rw[AAW];have hat:∀i (hi:i<l.length),aJ nx l i=true↔jg nx l[i]/\RJ (·.1) l i l[i]=true:=λi hi=>mL hi;constructor
 ·intro h;have hi:∀i (hi:i<l.length),jg nx l[i]/\RJ (·.1) l i l[i]=true:=λi hi=>(hat i hi).1 (h i (AAX.2 hi));refine⟨hn,h30,X5 _ _ λi hi2=>(YQ (·.1) l (i+1) hi2).1 (hi (i+1) hi2).2 i rfl,λo ho=>?_⟩;obtain⟨i,hi2,rfl⟩:=ABY.1 ho;grind
 ·rintro ⟨_,_,h3,h4⟩ i hi
  have hi:=AAX.1 hi;exact(hat i hi).2 ⟨h4 _ (ABW hi),Zq h3 (λx y h=>h) i hi⟩
theorem dU(ps:AAB)(h72:ps.length<=72)(hN:∀p∈ps,1<=p.2.2/\p.2.2<=1000)(k:Int)(n:Nat)(hn:Ps<=n):YV n ps k=some (Tf k ps):=by
 have hc:=QA (σ:=Int) (Vx ps k) (λi s=>(s,(i:Int))) ps (λr s=>(s+Tf k r,(ps.length:Int))) (λi s=>0<=s/\s<=1000*(i:Int))
  (λs hs=>by unfold Vx;simp[Tf])
  (λi p r s g1 g2 g3 g4 g5=>by
   left;have hp:ps[i]=p:=by rw[AAI g1]at g2;exact Option.some.inj g2
   have hpN:=hN p (by rw[<-hp];exact ABW g1);unfold Vx;dsimp only;rw[show decide ((i:Int)<(ps.length:Int))=true by rw[AAf];clear hn;omega,ABU,Pk g1,hp,Pj g1 (show ps.length<=9223372036854775807 by clear hn;omega)];simp only[ABT,Tf];cases(p.2.1==k)with
   |true=>
    rw[ABU,ABT,Pr (n:=s+p.2.2) ADb ADb];exact⟨s+p.2.2,rfl,⟨ADb,ADb⟩,by rw[ABU,ACc]⟩
   |false=>
    rw[ABV,ABT];exact⟨s,rfl,⟨g5.1,ADb⟩,by rw[ABV,Int.zero_add]⟩)
  n ADd 0 ⟨J,J⟩
 unfold YV;grind
theorem nk(l:ADZ)(hl:YI l)(n:Nat)(hn:Ps<=n):iter n (Sj l) (0,0)=some (V4 l,(l.length:Int)):=by
 have h6:=hl.2.2
 have hc:=QA (σ:=Int) (Sj l) (λi s=>(s,(i:Int))) l (λr s=>(s+V4 r,(l.length:Int))) (λi s=>0<=s/\s<=1000*(i:Int))
  (λs hs=>by unfold Sj;simp[V4])
  (λi y r s g1 g2 g3 g4 g5=>by
   left;have hy:l[i]=y:=by rw[AAI g1]at g2;exact Option.some.inj g2
   have hyb:=hl.2.1 y (by rw[<-hy];exact ABW g1);refine⟨s+y.2,?_,⟨ADb,ADb⟩,by simp only[V4,ACc]⟩;unfold Sj;dsimp only;rw[show decide ((i:Int)<(l.length:Int))=true by rw[AAf];clear hn;omega,ABU,Pk g1,hy,ABT,Pj g1 (show l.length<=9223372036854775807 by clear hn;omega),Pr (n:=s+y.2) ADb ADb])
  n ADd 0 ⟨J,J⟩
 grind
theorem np(ps:AAB)(h72:ps.length<=72)(hP:∀p∈ps,1<=p.1/\p.1<=999)(s0:Int)(hs0:0<=s0/\s0<=6000)(n:Nat)(hn:Ps<=n):
  iter n (Sk ps) (s0,0)=some (if ∀p∈ps,1<=p.2.2/\p.2.2<=1000 then .inl (s0-Xo ps,(ps.length:Int))else .inr false):=by
 have hc:=QA (σ:=Int) (Sk ps) (λi s=>(s,(i:Int))) ps (λr s=>if ∀p∈r,1<=p.2.2/\p.2.2<=1000 then .inl (s-Xo r,(ps.length:Int))else .inr false) (λi s => -1000*(i:Int)<=s/\s<=6000)
  (λs hs=>by
   rw[AAP (λp hp=>by cases hp)];unfold Sk;simp[Xo])
  (λi p r s g1 g2 g3 g4 g5=>by
   have hp:ps[i]=p:=by rw[AAI g1]at g2;exact Option.some.inj g2
   have hpP:=hP p (by rw[<-hp];exact ABW g1);unfold Sk;dsimp only;rw[show decide ((i:Int)<(ps.length:Int))=true by rw[AAf];clear hn;omega,ABU,Pk g1,hp,Pj g1 (show ps.length<=9223372036854775807 by clear hn;omega)];simp only[ABT,Q8];rw[show Qg p.1 1 999=true by unfold Qg;rw[ABZ hpP.1,ABZ hpP.2];rfl];by_cases hb:1<=p.2.2/\p.2.2<=1000
   ·left;rw[show Qg p.2.2 1 1000=true by unfold Qg;rw[ABZ hb.1,ABZ hb.2];rfl];simp only[ABc,ABV,ABT];rw[Pr (n:=s-p.2.2) ADb ADb];refine⟨s-p.2.2,rfl,⟨ADb,ADb⟩,?_⟩;simp only[List.forall_mem_cons,hb,and_self,true_and,Xo,Int.sub_sub]
   ·right
    rw[show Qg p.2.2 1 1000=false by
     unfold Qg;rw[ACR,AAl,AAl];by_cases h:1<=p.2.2
     ·exact .inr λq=>hb ⟨h,q⟩
     ·exact .inl h]
    rw[AAQ (λq=>hb (q p AAg))];rfl)
  n ADd s0 ⟨J,J⟩
 omega
theorem bI(o:QH)(h1:o.2.2.1.length<=1048576)(hP:∀p∈o.2.2.2.1,1<=p.1/\p.1<=999)(n:Nat)(hn:Ps<=n):
  Wo n o.1 o.2.1 o.2.2.1 o.2.2.2.1 o.2.2.2.2=some (Qg o.2.1 0 99&&Qg o.2.2.2.2 1 3 && !((o.2.2.1.length:Int)==0)&&WH o.2.2.1&&(decide (o.2.2.2.1.length<=72)&&X4 o.2.2.2.1 o.2.2.1)):=by
 obtain⟨id,desk,it,pk,st⟩:=o;dsimp only at h1 hP ⊢;unfold Wo;simp only[Q8,WO it h1 n hn,ABT];by_cases h72:pk.length<=72
 case neg=>
  grind
 rw[show decide ((pk.length:Int)>72)=false by grind,ABZ h72,ABx];cases Qg desk 0 99 with
 |false=>rfl
 |true=>
 cases hi:WH it with
 |false=>grind
 |true=>
 cases((it.length:Int)==0)with
 |true=>grind
 |false=>
 cases Qg st 1 3 with
 |false=>rfl
 |true=>
 have hI:=WI.1 hi;have h6:=hI.2.2
 have hs0:0<=V4 it/\V4 it<=6000:=by
  have:∀l:ADZ,(∀y∈l,1<=y.2/\y.2<=1000)->0<=V4 l/\V4 l<=1000*(l.length:Int):=by
   intro l
   induction l with
   |nil=>intro _;simp[V4]
   |cons y r ih=>
    intro h;have a1:=ih λz hz=>h z (AAM _ hz);have a2:=h y AAg;simp only[V4,ABG];clear hn;omega
  have:=this it λy hy=>⟨(hI.2.1 y hy).2.2.1,(hI.2.1 y hy).2.2.2⟩;clear hn;omega
 have hask:=mP hI (ps:=pk);have hpb:=ZF pk it hI.1;simp only[ABc,ABu,ABV,ACD,ABx,ABT];rw[nk it hI n hn,ABT];dsimp only;rw[np pk h72 hP (V4 it) hs0 n hn,ABT];by_cases hN:∀p∈pk,1<=p.2.2/\p.2.2<=1000
 ·rw[AAP hN]
  have h3:=Rl (UQ n it pk) it (λy=>Tf y.1 pk==y.2) (λi x hi hx=>by
   obtain⟨_,rfl⟩:=AAK.1 hx;unfold UQ;rw[show decide ((i:Int)<(it.length:Int))=true by rw[AAf];clear hn;omega,ABU,Pk hi,ABT,dU pk h72 hN it[i].1 n hn,ABT,ABT,Pj hi (show it.length<=9223372036854775807 by clear hn;omega)];simp only[bne];cases(Tf it[i].1 pk==it[i].2)<;>rfl) (by unfold UQ;simp) n ADd
  dsimp only;rw[h3];cases ha:it.all (λy=>Tf y.1 pk==y.2)with
  |false=>
   rw[ABV,ABT];show some false=_
   rw[show X4 pk it=false by
    rw[<-ABw];intro h;have:=(hask.2 (hpb.1 h)).2.1;rw[<-ABw]at ha;exact ha (AAW.2 λy hy=>AAT.2 (this y hy))]
  |true=>
   rw[ABU,ABT];show some (V4 it-Xo pk==0)=_;refine congrArg some ?_;rw[ABy,hpb,<-hask,AAT];exact⟨λh=>⟨hN,λy hy=>AAT.1 (AAW.1 ha y hy),h⟩,λh=>h.2.2⟩
 grind
def jA(l:ADY)(i:Nat):Bool:=match l[i]? with
 |some o=>decide (o.2.2.2.1.length<=72)
 |none=>false
theorem ZR{l:ADY}(h:RZ (nx,l))(hp:gk l)(n:Nat)(hn:Ps<=n):∃b,RP n nx l=some b/\(b=true↔XL nx l/\∀o∈l,o.2.2.2.1.length<=72):=by
 have hl:l.length<=1048576:=h.1;unfold RP;simp only[Q8,ABT];by_cases hx:1<=nx/\nx<=1000000
 ·rw[show Qg nx 1 1000000=true by unfold Qg;rw[ABZ hx.1,ABZ hx.2];rfl];simp only[ABc,ABV,ABT];by_cases h30:l.length<=30
  ·rw[show decide ((l.length:Int)>30)=false by grind,ABV]
   have:=RQ (Vt n nx l) (λi=>(i:Int)) l.length (λi=>aJ nx l i&&jA l i) (λi hi=>by
    have hm:=ABW hi;have hpr:(bif decide ((i:Int)>0)then(JQ l (Pn ((i:Int)-1))).bind (λy=>some (decide (y.1>=l[i].1)))else some false)=some (!RJ (·.1) l i l[i]):=Yi (·.1) l l[i] i hi hl some;have hov:=bI l[i] (h.2 _ hm).1 (hp _ hm) n hn;simp only[Vt,Pk hi,ABT,Q8,Pj hi (show l.length<=9223372036854775807 by clear hn;omega),hpr,hov];rw[show decide ((i:Int)<(l.length:Int))=true by rw[AAf];clear hn;omega,Pr (n:=nx-1) ADb ADb];unfold aJ jA;grind) (by simp[Vt]) n ADd
   rw[show((0:Nat):Int)=0 from rfl]at this;rw[this,ABT];refine⟨(List.range l.length).all (λi=>aJ nx l i&&jA l i),?_,?_⟩
   ·grind
   ·rw[<-iT hx h30,AAW,AAW];simp only[AAJ];constructor
    ·intro q;refine⟨λi hi=>(q i hi).1,λo ho=>?_⟩;obtain⟨i,hi,rfl⟩:=ABY.1 ho;have:=(q i (AAX.2 hi)).2;unfold jA at this;grind
    ·rintro ⟨q1,q2⟩ i hi
     refine⟨q1 i hi,?_⟩;have hi:=AAX.1 hi;unfold jA;grind
  ·rw[show decide ((l.length:Int)>30)=true by grind,ABU];exact⟨false,rfl,(λe=>by cases e),λhb=>(h30 hb.1.2.1).elim⟩
 ·rw[show Qg nx 1 1000000=false by
   unfold Qg;rw[ACR,AAl,AAl];by_cases h:1<=nx
   ·exact .inr λq=>hx ⟨h,q⟩
   ·exact .inl h]
  exact⟨false,rfl,(λe=>by cases e),λhb=>(hx hb.1.1).elim⟩
theorem XF{l:ADY}(h:RZ (nx,l))(n:Nat)(hn:Ps<=n):∃b,Rf n nx l=some b/\(b=true↔XL nx l):=by
 have hl:l.length<=1048576:=h.1;unfold Rf;simp only[V9,Q8,ABT];by_cases hx:1<=nx/\nx<=1000000
 ·rw[show Qg nx 1 1000000=true by unfold Qg;rw[ABZ hx.1,ABZ hx.2];rfl];simp only[ABc,ABV,ABT];by_cases h30:l.length<=30
  ·rw[show decide ((l.length:Int)>30)=false by rw[AAl];clear hn;omega,ABV]
   have:=RQ (Va n nx l) (λi=>(i:Int)) l.length (aJ nx l) (λi hi=>by
    have hm:=ABW hi;have hpr:∀C:Option Bool,(bif decide ((i:Int)>0)then(JQ l (Pn ((i:Int)-1))).bind (λy=>bif decide (y.1>=l[i].1)then some true else C)else C)=bif !RJ (·.1) l i l[i]then some true else C:=λC=>Yi (·.1) l l[i] i hi hl λb=>bif b then some true else C;have hit:l[i].2.2.1.length<=1048576:=(h.2 _ hm).1;have hpk:l[i].2.2.2.1.length<=1048576:=(h.2 _ hm).2
    have hpo:WH l[i].2.2.1=true->Vn n l[i].2.2.2.1 l[i].2.2.1=some (X4 l[i].2.2.2.1 l[i].2.2.1):=λe=>by
     have hI:=WI.1 e;exact bm _ hpk _ ⟨hI.1,λy hy=>by have:=hI.2.1 y hy;clear hn;omega,hI.2.2⟩ n hn
    simp only[Va,Pk hi,ABT,V9,Q8,Pj hi (show l.length<=9223372036854775807 by clear hn;omega),hpr,SX _ hit n hn];rw[show decide ((i:Int)<(l.length:Int))=true by rw[AAf];clear hn;omega,Pr (n:=nx-1) ADb ADb];unfold aJ;rw[AAI hi];dsimp only;cases hib:WH l[i].2.2.1 with
    |false=>cases Qg l[i].1 1 (nx-1)<;>cases RJ (·.1) l i l[i]<;>cases Qg l[i].2.1 0 99<;>cases Qg l[i].2.2.2.2 1 3<;>cases((l[i].2.2.1.length:Int)==0)<;>rfl
    |true=>
     rw[hpo hib];cases Qg l[i].1 1 (nx-1)<;>cases RJ (·.1) l i l[i]<;>cases Qg l[i].2.1 0 99<;>cases Qg l[i].2.2.2.2 1 3<;>cases((l[i].2.2.1.length:Int)==0)<;>cases X4 l[i].2.2.2.1 l[i].2.2.1<;>rfl) (by simp[Va]) n ADd
   rw[show((0:Nat):Int)=0 from rfl]at this;rw[this,ABT];refine⟨(List.range l.length).all (aJ nx l),?_,iT hx h30⟩;grind
  ·rw[show decide ((l.length:Int)>30)=true by grind,ABU];exact⟨false,rfl,(λe=>by cases e),λhb=>(h30 hb.2.1).elim⟩
 ·rw[show Qg nx 1 1000000=false by
   unfold Qg;rw[ACR,AAl,AAl];by_cases h:1<=nx
   ·exact .inr λq=>hx ⟨h,q⟩
   ·exact .inl h]
  exact⟨false,rfl,(λe=>by cases e),λhb=>(hx hb.1).elim⟩
def Ok{α:Type}(x:Option α)(P:α->Prop):Prop:=∃r,x=some r/\P r
section
variable {α β γ:Type}{P:α->Prop}{Q:β->Prop}
theorem Ok.pure{r:α}(h:P r):Ok (some r) P:=⟨r,rfl,h⟩
theorem Ok.bind{x:Option α}{f:α->Option β}(h:Ok x P)(hf:∀r,P r->Ok (f r) Q):Ok (x.bind f) Q:=by obtain⟨r,rfl,hr⟩:=h;exact hf r hr
theorem Ok.cond{b:Bool}{x y:Option α}(h1:b=true->Ok x P)(h2:b=false->Ok y P):Ok (bif b then x else y) P:=No
theorem Ok.guard{b:Bool}{x y:Option α}(hb:b=true)(h:Ok x P):Ok (bif b then x else y) P:=No
theorem Ok.JQ{xs:List α}{i:Int}(h:0<=i/\i<(xs.length:Int)):Ok (Go.Ev.JQ xs i) λr=>xs[i.toNat]?=some r:=by
 obtain⟨m,rfl⟩:∃m:Nat,i=m:=⟨i.toNat,J⟩;have hm:m<xs.length:=J
 exact⟨xs[m],Pk hm,by simp[hm]⟩
theorem Ok.get{xs:List α}{i:Nat}(h:i<xs.length):Ok xs[i]? λr=>xs[i]?=some r:=⟨xs[i],AAI h,AAI h⟩
theorem ZC{xs:List α}{i:Int}(h:0<=i/\i<(xs.length:Int)):O3 xs i=true:=by unfold O3;grind
theorem Ok.iter{f:α->Option (α⊕γ)}{S:γ->Prop}(R:Nat->α->Prop)
  (h:∀k x,R k x->Ok (f x) λy=>(∃x',y=.inl x'/\∃k',R k' x'/\k'<k)\/∃z,y=.inr z/\S z) {n k:Nat} {x:α} (hR:R k x) (hk:k<n):Ok (Go.Ev.iter n f x) S:=by
 obtain⟨z,hz,e⟩:=UJ R S (λk x hx=>by
  obtain⟨y,e,hy⟩:=h k x hx;rcases hy with⟨x',rfl,k',h1,h2⟩|⟨z,rfl,h1⟩
  ·exact .inr ⟨x',k',e,h1,h2⟩
  grind) n k x hR hk
 exact⟨z,e,hz⟩
end
def Qw{α:Type}(g:Nat->Option α):Prop:=∀n m r,n<=m->g n=some r->g m=some r
theorem Qw.const{α:Type}(x:Option α):Qw λ_=>x:=λ_ _ _ _ h=>h
theorem Qw.bind{α β:Type}{g:Nat->Option α}{f:Nat->α->Option β}(hg:Qw g)(hf:∀x,Qw λn=>f n x):Qw λn=>(g n).bind (f n):=by
 intro n m r hnm h;cases hx:g n with
 |none=>grind
 |some x=>
  simp only[hx,ABT]at h;simp only[hg n m x hnm hx,ABT];exact hf x n m r hnm h
theorem Qw.cond{α:Type}{b:Bool}{g h:Nat->Option α}(hg:Qw g)(hh:Qw h):Qw λn=>bif b then g n else h n:=by
 cases b with
 |true=>exact hg
 |false=>exact hh
theorem Qw.iter{α γ:Type}{L:Nat->α->Option (α⊕γ)}(hL:∀x,Qw λn=>L n x)(x0:α):Qw λn=>Go.Ev.iter n (L n) x0:=by
 have key:∀(k n m:Nat)(x:α)(r:γ),n<=m->k<=k+0->Go.Ev.iter k (L n) x=some r->∀j,k<=j->Go.Ev.iter j (L m) x=some r:=by
  intro k
  induction k with
  |zero=>intro n m x r _ _ h;simp[Go.Ev.iter]at h
  |succ k ih=>
   intro n m x r hnm _ h j hj;obtain⟨j,rfl⟩:∃i,j=i+1:=⟨j-1,J⟩;simp only[Go.Ev.iter]at h ⊢;cases hx:L n x with
   |none=>rw[hx]at h;cases h
   |some y=>
    rw[hx]at h;have h2:L m x=some y:=hL x n m y hnm hx;rw[h2];cases y with
    |inl x'=>exact ih n m x' r hnm J h j J
    |inr z=>exact h
 intro n m r hnm h;grind
def Cu(b:By)(i:Int):Prop:=b.length<=1048576/\0<=i
theorem Ql{i c:Int}(h:Cu b i)(m:Int):Ok (P1 b i c m) λx=>Cu x.2.1 x.2.2.1/\0<=x.1/\(0<m->x.1<m):=by obtain⟨x,i',h',e,h1,h2,h3⟩:=eN b i c h.2 h.1 m;exact⟨_,e,⟨h.1,h1⟩,h2,λhm=>J⟩
theorem bA{i c:Int}(h:Cu b i)(m:Int):Ok (Sx b i c m) λx=>Cu x.2.1 x.2.2.1:=by unfold Sx;exact(Ql h m).bind λr hr=>Ok.pure hr.1
theorem ok_int{i c:Int}(h:Cu b i){xs:By}(hx:0<xs.length):Ok (Qi b i c xs) λx=>Cu x.2.1 x.2.2.1/\x.1∈xs:=by unfold Qi;refine(Ql h _).bind λr hr=>(Ok.JQ ⟨hr.2.1,hr.2.2 J⟩).bind λv hv=>Ok.pure ⟨hr.1,AAN hv⟩
theorem nj{i c:Int}(h:Cu b i){xs:List ADi}(hx:0<xs.length):Ok (YF b i c xs) λx=>Cu x.2.1 x.2.2.1/\x.1∈xs:=by unfold YF;refine(Ql h _).bind λr hr=>(Ok.JQ ⟨hr.2.1,hr.2.2 J⟩).bind λv hv=>Ok.pure ⟨hr.1,AAN hv⟩
theorem kV(s:ADi)(b:Int):Qw λn=>Xn n s b:=by unfold Xn;exact Qw.bind (Qw.iter (L:=λ_=>ZX s b) (λ_=>Qw.const _) _) λ_=>Qw.const _
theorem mE(c:Int):Qw λn=>YX n c:=by unfold YX;exact Qw.bind (Qw.iter (L:=λ_=>Zw c) (λ_=>Qw.const _) _) λx=>Qw.const _
theorem kL(s:ADi):Qw λn=>Q9 n s:=by unfold Q9;refine Qw.bind (kV s 10) λx1=>Qw.cond (Qw.bind (Qw.const _) λx2=>Qw.bind (Qw.iter (L:=λn=>VJ n x1) (λx3=>?_) _) λ_=>Qw.const _) (Qw.const _);unfold VJ;refine Qw.cond (Qw.bind (Qw.const _) λx5=>Qw.cond (Qw.const _) (Qw.bind (Qw.const _) λx9=>Qw.cond (Qw.const _) (Qw.bind (Qw.iter (L:=λn=>VK n x1 x3) (λx10=>?_) _) λ_=>Qw.const _))) (Qw.const _);unfold VK;refine Qw.cond (Qw.bind (Qw.const _) λ_=>Qw.cond (Qw.cond (Qw.bind (Qw.const _) λ_=>Qw.bind (Qw.const _) λ_=>Qw.bind (mE _) λ_=>Qw.const _) (Qw.const _)) (Qw.const _)) (Qw.const _)
def aU:List ADi:=[[99,46,46,46,46,46,10,46,112,112,46,112,46,10,46,112,112,46,112,46,10,46,46,46,46,46,115,10],[99,46,46,10,46,46,46,10,46,46,115,10],[46,46,46,46,46,10,46,112,35,112,46,10,46,46,115,46,46,10,46,112,35,112,46,10,99,46,46,46,99,10],[46,46,46,35,46,46,46,10,46,46,46,46,46,46,46,10,46,46,46,35,46,46,46,10],[99,46,46,46,46,46,46,46,10,46,112,46,112,46,112,46,46,10,46,46,46,46,46,46,46,115,10,46,112,46,112,46,112,46,46,10,99,46,46,46,46,46,46,115,10],[46,46,10,46,46,10],[99,46,35,46,115,10,46,46,35,46,46,10]]
def de(s:ADi):Bool:=match Q9 60 s with
 |some (w,h,c,b)=>P3 w h c&&b == -1&&decide (0<c.length)
 |none=>false
theorem fP:aU.all de=true:=by kernel_rfl
theorem jL{s:ADi}(h:de s=true)(n:Nat)(hn:Ps<=n):Ok (Q9 n s) λx=>P3 x.1 x.2.1 x.2.2.1=true/\x.2.2.2 = -1/\0<x.2.2.1.length:=by
 unfold de at h;cases hp:Q9 60 s with
 |none=>grind
 |some x=>
  rw[hp]at h;obtain⟨w,q,c,b⟩:=x;simp only[AAJ,AAT,AAf]at h;exact⟨_,kL s 60 n _ ADd hp,h.1.1,h.1.2,h.2⟩
theorem j5(n:Nat)(hn:Ps<=n){i c:Int}(h:Cu b i):Ok (Vy n b i c) λx=>P3 x.1 x.2.1 x.2.2.1=true/\0<x.2.2.1.length/\Cu x.2.2.2.1 x.2.2.2.2.1:=by
 unfold Vy;refine(bA h 3).bind λr hr=>Ok.cond (λ_=>?_) λ_=>?_
 ·refine(nj hr (xs:=aU) (by simp[aU])).bind λt ht=>?_;refine(jL (AAW.1 fP _ ht.2) n hn).bind λx hx=>Ok.pure ⟨hx.1,hx.2.2,ht.1⟩
 ·refine(Ql hr 7).bind λx hx=>(Ql hx.1 6).bind λy hy=>?_;have x1:=hx.2.2 J;have y1:=hy.2.2 J;have x0:=hx.2.1;have y0:=hy.2.1;rw[Pr (n:=1+x.1) J J,Pr (n:=1+y.1) J J];generalize hW:1+x.1=W;generalize hH:1+y.1=H
  have hWH:W*H<=100/\1<=W*H:=by
   have a1:1<=W:=J
   have a2:W<=10:=J
   have a3:1<=H:=J
   have a4:H<=10:=J
   have h1:W*H<=10*H:=Int.mul_le_mul_of_nonneg_right a2 J;have h2:1*H<=W*H:=Int.mul_le_mul_of_nonneg_right a1 J;omega
  refine Ok.bind (P:=λz=>P3 W H z.2.2.2.2.2.2=true/\0<z.2.2.2.2.2.2.length/\z.2.2.2.2.1=W/\z.2.2.2.2.2.1=H/\Cu z.2.1 z.2.2.1) (Ok.iter (λk z=>z.1+(k:Int)=W*H/\0<=z.1/\(z.2.2.2.2.2.2.length:Int)=z.1/\(z.2.2.2.2.2.2.all λk=>Qg k 0 4)=true/\z.2.2.2.2.1=W/\z.2.2.2.2.2.1=H/\Cu z.2.1 z.2.2.1) (λk z hz=>?_) (k:=(W*H).toNat) ⟨J,J,rfl,rfl,rfl,rfl,hy.1⟩ ADd) λz hz=>?_
  ·obtain⟨z1,z2,z3,z4,z5,z6,z7⟩:=hz;unfold ZW;rw[z5,z6,Pr (n:=W*H) J J];refine Ok.cond (λhb=>?_) λhb=>?_
   ·have hb:=AAs hb;refine(ok_int z7 OF).bind λv hv=>Ok.guard (Ru J) (Ok.pure (.inl ⟨_,rfl,k-1,⟨?_,?_,?_,?_,rfl,rfl,hv.1⟩,J⟩))
    ·show Pn (z.1+1)+_=_;rw[Pr J J];omega
    ·show 0<=Pn (z.1+1);rw[Pr J J];omega
    ·show((z.2.2.2.2.2.2++[v.1]).length:Int)=Pn (z.1+1);rw[Pr J J];simp;omega
    ·show((z.2.2.2.2.2.2++[v.1]).all λk=>Qg k 0 4)=true;rw[List.all_append,z4];have hv2:=hv.2;simp only[AAd,List.not_mem_nil,or_false]at hv2;rcases hv2 with e|e|e|e|e|e|e|e|e|e<;>rw[e]<;>rfl
   ·have hb:=of_decide_eq_false hb;refine Ok.pure (.inr ⟨_,rfl,?_,?_,z5,z6,z7⟩)
    ·show P3 W H z.2.2.2.2.2.2=true;unfold P3;rw[z4,Pr (n:=W*H) J J,show((z.2.2.2.2.2.2.length:Int)==W*H)=true by rw[AAT];omega];unfold Qg;rw[ABZ (show 1<=W by omega),ABZ (show W<=10 by omega),ABZ (show 1<=H by omega),ABZ (show H<=10 by omega)];rfl
    grind
  ·obtain⟨z1,z2,z3,z4,z5⟩:=hz;refine Ok.pure ⟨?_,z2,z5⟩;grind
theorem mA{i q:Int}(hcu:Cu b i)(crew:ADX)(hl:crew.length<=1000):Ok (Yb b i q crew) λx=>x.1.length=crew.length/\Cu x.2.1 x.2.2.1:=by
 unfold Yb;rw[AA0];refine Ok.guard (by rw[AAf];simp[Dj];omega) (Ok.cond (λ_=>Ok.pure ⟨rfl,hcu⟩) λzD=>?_)
 have h0:0<crew.length:=by
  rcases ACX crew.length with e|e
  ·grind
  ·exact e
 refine(Ql hcu _).bind λr hr=>?_;have hi:=ZC (xs:=crew) ⟨hr.2.1,hr.2.2 J⟩;refine Ok.bind (P:=λx=>x.2.2.2.length=crew.length/\Cu x.1 x.2.1) ((Ql hr.1 6).bind λy hy=>Ok.cond (λ_=>(ok_int hy.1 OF).bind λv hv=>Ok.guard hi (Ok.pure ⟨OF,hv.1⟩)) λ_=>Ok.cond (λ_=>(ok_int hy.1 OF).bind λv hv=>Ok.guard hi (Ok.pure ⟨OF,hv.1⟩)) λ_=>Ok.cond (λ_=>(ok_int hy.1 OF).bind λv hv=>Ok.guard hi (Ok.pure ⟨OF,hv.1⟩)) λ_=>Ok.cond (λ_=>(ok_int hy.1 OF).bind λv hv=>Ok.guard hi (Ok.pure ⟨OF,hv.1⟩)) λ_=>Ok.pure ⟨rfl,hy.1⟩) λx hx=>Ok.pure hx
theorem kB(k:Nat)(hk:k<=100000)(n:Nat)(hn:Ps<=n){i q:Int}(hcu:Cu b i)(a:It)(ha:a.length<=k)(hs:∀p∈a,p.2.2.length<=k):Ok (Ya n b i q a) λx=>(x.1.length<=a.length+1/\∀p∈x.1,p.2.2.length<=k+1)/\Cu x.2.1 x.2.2.1:=by
 have hsm:P4 a:=⟨J,λy hy=>by show y.2.2.length<=_;grind⟩;unfold Ya;rw[P0 a hsm n hn,ABT];have Wz:a.length<=a.length+1/\∀p∈a,p.2.2.length<=k+1:=⟨J,λp hp=>No⟩;refine Ok.cond (λ_=>Ok.pure ⟨Wz,hcu⟩) λzD=>?_
 have h0:0<a.length:=by
  rcases ACX a.length with e|e
  ·grind
  ·exact e
 refine(Ql hcu _).bind λr hr=>?_;have hr2:=hr.2.2 J;have hi:=ZC (xs:=a) ⟨hr.2.1,hr2⟩;obtain⟨m,hm⟩:∃m:Nat,r.1=(m:Int):=⟨r.1.toNat,J⟩;have hml:m<a.length:=ADb
 rw[hm]at hi ⊢;rw[ABX]
 have modK:∀(f:Pt->Pt),(∀p∈a,(f p).2.2.length<=k+1)->(a.modify m f).length<=a.length+1/\∀p∈a.modify m f,p.2.2.length<=k+1:=λf hf=>by refine⟨OF,λp hp=>?_⟩;obtain⟨j,hj,rfl⟩:=ABY.1 hp;grind
 have row:∀p∈a,∀x:Ph,decide (p.2.2.length+[x].length<=Dj)=true:=λp hp x=>Ru No;refine Ok.bind (P:=λx=>(x.2.2.2.length<=a.length+1/\∀p∈x.2.2.2,p.2.2.length<=k+1)/\Cu x.1 x.2.1) ((Ql hr.1 6).bind λy hy=>Ok.cond (λ_=>(ok_int hy.1 OF).bind λv hv=>Ok.guard hi (Ok.pure ⟨modK (λy=>(v.1,y.2.1,y.2.2)) λp hp=>Wz.2 p hp,hv.1⟩)) λ_=>Ok.cond (λ_=>(ok_int hy.1 OF).bind λv hv=>Ok.guard hi (Ok.pure ⟨modK (λy=>(y.1,v.1,y.2.2)) λp hp=>Wz.2 p hp,hv.1⟩)) λ_=>Ok.cond (λ_=>Ok.guard hi ?_) λ_=>Ok.cond (λ_=>Ok.guard (ZC ⟨J,J⟩) ?_) λ_=>Ok.pure ⟨Wz,hy.1⟩) λx hx=>Ok.pure hx
 ·refine(Ok.get hml).bind λp0 hp0=>(ok_int hy.1 OF).bind λv hv=>(Ql hv.1 3).bind λu hu=>(Ok.get hml).bind λp hp=>?_;have hpm:p∈a:=AAN hp;refine Ok.guard (row p hpm (9,v.1,u.1)) (Ok.guard hi (Ok.pure ⟨modK _ λp' _=>?_,hu.1⟩));grind
 ·rw[ACQ];refine(Ok.get h0).bind λp hp=>(Ok.get h0).bind λp2 hp2=>Ok.guard (Ru ADb) (Ok.pure ⟨⟨by rw[AAz,ABb];exact AAc _,λx hx=>?_⟩,hy.1⟩);grind
def Qx(c:By)(k:Int):Nat->By
 |0=>[]
 |i+1=>bif c.getD i 0==k then Qx c k i++[(i:Int)]else Qx c k i
theorem aM(c:By)(k:Int):∀i,(Qx c k i).length<=i
 |0=>AAc _
 |i+1=>by have:=aM c k i;unfold Qx;grind
theorem Xt{c:By}{k x:Int}:∀ {i},x∈Qx c k i->∃j:Nat,x=(j:Int)/\j<i/\c.getD j 0=k
 |0,h=>by cases h
 |i+1,h=>by
  unfold Qx at h;cases hb:(c.getD i 0==k)with
  |false=>
   rw[hb,ABV]at h;obtain⟨j,h1,h2,h3⟩:=Xt h;grind
  |true=>
   rw[hb,ABU,ABL,AA5]at h;rcases h with h|h
   ·obtain⟨j,h1,h2,h3⟩:=Xt h;exact⟨j,h1,J,h3⟩
   grind
theorem bS(c:By)(k:Int):∀i,(Qx c k i).Pairwise (· < ·)
 |0=>List.Pairwise.nil
 |i+1=>by
  have hp:=bS c k i;unfold Qx;cases hb:(c.getD i 0==k)with
  |false=>grind
  |true=>
   rw[ABU,ABp];refine⟨hp,List.pairwise_singleton _ _,λx hx y hy=>?_⟩;obtain⟨j,h1,h2,_⟩:=Xt hx;grind
theorem lW(hi:i<c.length):Qx c k (i+1)=bif c[i]==k then Qx c k i++[(i:Int)]else Qx c k i:=by rw[Qx,show c.getD i 0=c[i] by simp[hi]]
theorem WN(w h:Int)(c:By)(hl:c.length<=1048576)(hf:P3 w h c=true)(k:Int)(n:Nat)(hn:Ps<=n):S5 n w h c k=some (Qx c k c.length):=by
 have hs:=QT w h c hl n hn
 have h1:iter n (TF n w h c k) (([]:By),(0:Int))=some (Qx c k c.length,(c.length:Int)):=P8 (TF n w h c k) (λi=>(Qx c k i,(i:Int))) c.length (Qx c k c.length,(c.length:Int)) (λi hi=>by
  have hr:decide ((Qx c k i).length+1<=Dj)=true:=Ru (by have:=aM c k i;clear hn;omega);unfold TF;rw[hs,hf];dsimp only;rw[show decide ((i:Int)<(c.length:Int))=true by rw[AAf];clear hn;omega,lW hi];simp only[ABU,ABT,Pk hi,Pj hi (show c.length<=9223372036854775807 by clear hn;omega),ABb,hr];grind) (by unfold TF;grind) n ADd
 unfold S5;rw[h1];rfl
def aI(w h:Int)(c:By)(a:It):Bool:=P3 w h c&&QP a&&(List.range a.length).all (Y4 a)&&(List.range a.length).all (aW c a)
def QZ(c:By):By:=Qx c 4 c.length
theorem mx(k:Int):∀(l:It)(z:Int),(∀p∈l,0<=Tk p.2.2 k/\Tk p.2.2 k<=1000)->z<=(l.map λp=>Tk p.2.2 k).foldl (· + ·) z/\(l.map λp=>Tk p.2.2 k).foldl (· + ·) z<=z+1000*(l.length:Int)
 | [],z,_=>OF
 |p::l,z,h=>by have h1:=h p AAg;have h2:=mx k l (z+Tk p.2.2 k) λq hq=>h q (AAM _ hq);grind
theorem aQ(a:It)(k:Int):0<=Qf a k/\Qf a k<=12000:=by
 unfold Qf;cases h:QP a with
 |false=>grind
 |true=>
  rw[ABU];obtain⟨h1,h2⟩:=iB h
  have:=mx k a 0 λp hp=>by obtain⟨i,hi,rfl⟩:=ABY.1 hp;exact cV (h2 i hi) k
  omega
theorem dA(a:It):∀m,m<=50->∀j,j<=50->(SS a m)[j]?=some (bif decide (1<=j)&&decide (j<=m)then Qf a (j:Int)else 0)
 |0,_,j,hj=>by
  have:(decide (1<=j)&&decide (j<=0))=false:=by rw[ACR,AAl,AAl];omega
  rw[this,ABV];show(List.replicate 51 (0:Int))[j]?=some 0;grind
 |m+1,hm,j,hj=>by have hi:=dA a m J j hj;show((SS a m).set (m+1) (Qf a ((m+1:Nat):Int)))[j]?=_;grind
theorem dv(ds:By):∀m i,i<m->(Sz ds m)[i]?=some (((i+1:Nat):Int),ds.getD i 0, -1,false,0)
 |0,i,h=>J
 |m+1,i,h=>by
  rw[Sz,List.getElem?_append,VF];by_cases hi:i<m
  ·rw[AAP hi];exact dv ds m i hi
  grind
theorem Yl{ds:By}{m:Nat}(h:i<(Sz ds m).length):(Sz ds m)[i]=(((i+1:Nat):Int),ds.getD i 0, -1,false,0):=by have:=dv ds m i (by rw[VF]at h;exact h);grind
theorem jn(hi:i<(QZ c).length):Qy c ((QZ c).getD i 0)=true:=by rw[show(QZ c).getD i 0=(QZ c)[i] by simp[hi]];obtain⟨j,h1,h2,h3⟩:=Xt (ABW hi);rw[h1];unfold Qy Qg;grind
theorem pv(c:By):CW c (Sz (QZ c) (min (QZ c).length 20)):=by
 have key:∀r∈Sz (QZ c) (min (QZ c).length 20),∃i:Nat,i<(QZ c).length/\i<20/\r=(((i+1:Nat):Int),(QZ c).getD i 0, -1,false,0):=by intro r hr;obtain⟨i,hi,rfl⟩:=ABY.1 hr;have hi2:=hi;rw[VF]at hi2;exact⟨i,J,J,Yl hi⟩
 have hpw:=bS c 4 c.length;refine⟨by rw[VF];omega,λr hr=>?_,λr hr=>?_,λr hr=>?_,λr hr=>?_,?_,?_⟩
 ·grind
 ·obtain⟨i,h1,h2,rfl⟩:=key r hr;exact jn h1
 ·grind
 ·grind
 ·refine ABR.2 λi j hi hj hij=>?_;rw[Yl hi,Yl hj];omega
 ·refine ABR.2 λi j hi hj hij=>?_;have hi2:=hi;have hj2:=hj;rw[VF]at hi2 hj2;have hdi:i<(QZ c).length:=J
  have hdj:j<(QZ c).length:=J
  rw[Yl hi,Yl hj];show(QZ c).getD i 0≠(QZ c).getD j 0;have:(QZ c)[i]<(QZ c)[j]:=ABR.1 hpw i j hdi hdj hij;grind
theorem cu(zh:aI w h c a=true):P3 w h c=true/\QP a=true/\(∀p∈a,∀s∈p.2.2,s.2.2<=0)/\∀p∈a,Qg p.2.1 0 ((c.length:Int)-1)=true/\c.getD p.2.1.toNat 0=2:=by
 unfold aI at zh;simp only[AAJ,AAW,AAX]at zh;obtain⟨⟨⟨h1,h2⟩,h3⟩,h4⟩:=zh;refine⟨h1,h2,λp hp s hs=>?_,λp hp=>?_⟩
 ·obtain⟨i,hi,rfl⟩:=ABY.1 hp;obtain⟨k,hk,rfl⟩:=ABY.1 hs;have:=h3 i hi;unfold Y4 at this;rw[AAI hi]at this;have:=AAW.1 this k (AAX.2 hk);grind
 ·obtain⟨i,hi,rfl⟩:=ABY.1 hp;have:=h4 i hi;unfold aW at this;grind
theorem jW(a:It){j:Nat}(hj:j<=50):(SS a 50)[j]?=some (bif decide (1<=j)then Qf a (j:Int)else 0):=by rw[dA a 50 J j hj,ABZ (show j<=50 from hj),ACD]
theorem iF(a:It)(ha:P4 a)(n:Nat)(hn:Ps<=n):Vo n a a=some true:=by
 have hl:a.length<=1048576:=ha.1
 have h1:=Rl (TZ n a a) a (λ_=>true) (λi x hi hx=>by
  obtain⟨_,rfl⟩:=AAK.1 hx;have hpl:a[i].2.2.length<=1048576:=ha.2 _ (ABW hi)
  have h2:=Rl (Ta a[i] a[i]) a[i].2.2 (λ_=>true) (λj y hj hy=>by
   obtain⟨_,rfl⟩:=AAK.1 hy;have hd:decide ((j:Int)<(a[i].2.2.length:Int))=true:=by rw[AAf];clear hn;omega
   simp only[Ta,hd,ABU,Pk hj,ABT,ABi,ACE,ABc,ABV,Pj hj (show a[i].2.2.length<=9223372036854775807 by clear hn;omega)]) (by simp[Ta]) n ADd
  have zq:a[i].2.2.all (λ_=>true)=true:=OF
  rw[zq,ABU]at h2;have hd:decide ((i:Int)<(a.length:Int))=true:=by rw[AAf];clear hn;omega
  simp only[TZ,hd,ABU,Pk hi,ABT,bne_self_eq_false,ABV,h2,Pj hi (show a.length<=9223372036854775807 by clear hn;omega)]) (by simp[TZ]) n ADd
 unfold Vo;grind
structure qR(nx:Int)(l:ADY):Prop where
 sm:RZ (nx,l)
 len:l.length<=29
 Tu:gk l
 eQ:XL nx l->∀o∈l,o.2.2.2.1.length<=72
theorem qR.both{l:ADY}(h:qR nx l)(n:Nat)(hn:Ps<=n):∃b,RP n nx l=some b/\Rf n nx l=some b/\(b=true↔XL nx l):=by
 obtain⟨b1,e1,i1⟩:=ZR h.sm h.Tu n hn;obtain⟨b2,e2,i2⟩:=XF h.sm n hn
 have:b1=b2:=by rw[ABy,i1,i2];exact⟨λq=>q.1,λq=>⟨q,h.eQ q⟩⟩
 grind
abbrev wb:=It×Int×ADY×Int
structure gB(s:It)(nx:Int)(l:ADY)(desk:Int)(it:ADZ)(o:AAB):Prop where
 st:Py s
 im:YI it
 ne:0<it.length
 dk:0<=desk/\desk<=99
 bk:XL nx l
 lt:nx<1000000
 fit:Fits s o
 pg:PG o it
 eQ:o.length<=72
def tN(s:It)(nx:Int)(l:ADY)(desk:Int)(it:ADZ)(o:AAB):wb:=(QM s (tp o),nx+1,l++[(nx,desk,it,o,1)],nx)
def tU(s:It)(nx:Int)(l:ADY)(desk:Int)(it:ADZ)(r:wb):Prop:=r=(s,nx,l,0)\/∃o,gB s nx l desk it o/\r=tN s nx l desk it o
theorem cI(s:It)(hs:P4 s){l:ADY}(hq:qR nx l)(desk:Int)(it:ADZ)(hit:it.length<=1000)(n:Nat)(hn:Ps<=n)(b:Bool)(eb:RP n nx l=some b)(o:AAB)(pb:Bool)(ep:Tw n s it=some (o,pb)):
  Tv n s nx l desk it=some (bif QP s&&b&&Qg desk 0 99 && !((it.length:Int)==0) && !(nx==1000000)&&pb then((RT Wx s o).1,Pn (nx+1),l++[(nx,desk,it,o,1)],nx)else(s,nx,l,0))\/1048576<o.length:=by
 by_cases ho:1048576<o.length
 ·exact .inr ho
 left;have h29:=hq.len;unfold Tv;rw[TH nx l hq.sm n hn,ABT,Qa s hs n hn,eb];simp only[ABT,Q8,P0 s hs n hn,ep];rw[show((l.length:Int)==30)=false by rw[ABa];clear hn;omega];have h1:decide (([]:ADZ).length+it.length<=Dj)=true:=VI No;have h2:decide (l.length+1<=Dj)=true:=Ru J;cases QP s with
 |false=>rfl
 |true=>
 cases b with
 |false=>rfl
 |true=>
 cases Qg desk 0 99 with
 |false=>rfl
 |true=>
 cases((it.length:Int)==0)with
 |true=>rfl
 |false=>
 cases(nx==1000000)with
 |true=>rfl
 |false=>
 cases pb with
 |false=>rfl
 |true=>
  simp only[ABc,ABu,ABV,ABU,ABT,ACE,ABb,h1,h2,AA0];rw[cM s hs o J n hn];rfl
theorem bY(s:It)(hs:P4 s){l:ADY}(hq:qR nx l)(desk:Int)(it:ADZ)(hit:it.length<=1000)(n:Nat)(hn:Ps<=n)(b:Bool)(eb:Rf n nx l=some b)(o:AAB)(ho:o.length<=1048576)(pb:Bool)(ep:VG n s it=some (o,pb)):
  VM n s nx l desk it=some (bif QP s&&b&&Qg desk 0 99 && !((it.length:Int)==0)&&WH it && !(decide (nx>=1000000))&&(pb&&(RT Wx s o).2)then((RT Wx s o).1,Pn (nx+1),l++[(nx,desk,it,o,1)],nx)else(s,nx,l,0)):=by
 have h29:=hq.len;unfold VM;rw[Qq s hs n hn,eb];simp only[ABT,V9,Q8,QL s hs n hn,UG nx l hq.sm n hn,ep,Yo s hs o ho n hn,SX it (show it.length<=1048576 by omega) n hn];rw[show decide ((l.length:Int)>=30)=false by rw[AAl];clear hn;omega];have h1:decide (it.length<=Dj)=true:=VI J;have h2:decide (l.length+1<=Dj)=true:=Ru J;unfold Qz;simp only[h1,ABb,h2,ABU,ABT];cases QP s with
 |false=>rfl
 |true=>
 grind
theorem iP(s:It)(hs:P4 s){l:ADY}(hq:qR nx l)(desk:Int)(it:ADZ)(hit:it.length<=1000)(n:Nat)(hn:Ps<=n):∃r,Tv n s nx l desk it=some r/\VM n s nx l desk it=some r/\tU s nx l desk it r:=by
 obtain⟨b,eb1,eb2,hb⟩:=hq.both n hn;obtain⟨o,pb,ep1,ep2,hp1,hp2⟩:=lT s hs it J n hn
 have ho:o.length<=72:=by
  cases pb with
  |true=>grind
  |false=>grind
 have e1:=(cI s hs hq desk it hit n hn b eb1 o pb ep1).resolve_right J;have e2:=bY s hs hq desk it hit n hn b eb2 o J pb ep2;cases pb with
 |false=>
  refine⟨(s,nx,l,0),?_,?_,.inl rfl⟩
  all_goals grind
 |true=>
  obtain⟨hS,hI,hpg,hft,_⟩:=hp1 rfl;have hH:=gM hS hft;rw[hH.1]at e1 e2;rw[WI.2 hI]at e2;by_cases hB:XL nx l
  ·have hnx:=hB.1;rw[hb.2 hB]at e1 e2
   have zD:(!(nx==1000000)) = !(decide (nx>=1000000)):=by
    by_cases h:nx=1000000
    ·rw[h];rfl
    ·grind
   rw[zD]at e1;by_cases zh:(Qg desk 0 99 && !((it.length:Int)==0) && !(decide (nx>=1000000)))=true
   ·have hfull:(QP s&&true&&Qg desk 0 99 && !((it.length:Int)==0) && !(decide (nx>=1000000))&&true)=true:=by rw[QS.2 hS];simp only[ACD,ABx];exact zh
    have hfull2:(QP s&&true&&Qg desk 0 99 && !((it.length:Int)==0)&&true && !(decide (nx>=1000000))&&(true&&true))=true:=by rw[QS.2 hS];simp only[ACD,ABx];exact zh
    rw[hfull,ABU]at e1;dsimp only at e2;rw[hfull2,ABU]at e2;simp only[AAJ,AAU,ABa,AAl]at zh
    have hdk:0<=desk/\desk<=99:=by have:=zh.1.1;unfold Qg at this;simp only[AAJ,AAf]at this;exact this
    have hw:Pn (nx+1)=nx+1:=Pr J J;rw[hw]at e1 e2;exact⟨_,e1,e2,.inr ⟨o,⟨hS,hI,J,hdk,hB,J,hft,hpg,ho⟩,rfl⟩⟩
   ·have hno:(QP s&&true&&Qg desk 0 99 && !((it.length:Int)==0) && !(decide (nx>=1000000))&&true)=false:=by rw[<-ABw,QS.2 hS];simp only[ACD,ABx];exact zh
    have hno2:(QP s&&true&&Qg desk 0 99 && !((it.length:Int)==0)&&true && !(decide (nx>=1000000))&&(true&&true))=false:=by rw[<-ABw,QS.2 hS];simp only[ACD,ABx];exact zh
    rw[hno,ABV]at e1;dsimp only at e2;rw[hno2,ABV]at e2;exact⟨_,e1,e2,.inl rfl⟩
  ·have hbf:b=false:=by
    cases b with
    |true=>grind
    |false=>rfl
   rw[hbf,Bool.and_false,ACA,ACA,ACA,ACA,ABV]at e1;rw[hbf,Bool.and_false,ACA,ACA,ACA,ACA,ACA,ABV]at e2;exact⟨_,e1,e2,.inl rfl⟩
theorem gB.book{s:It}{l:ADY}{desk:Int}{it:ADZ}(h:gB s nx l desk it o)(h29:l.length<=29):XL (nx+1) (l++[(nx,desk,it,o,1)]):=by
 have hb:=h.bk;have zA:=h.lt;refine⟨⟨by have:=hb.1;omega,J⟩,No,?_,λq hq=>?_⟩
 ·refine ABp.2 ⟨hb.2.2.1,List.pairwise_singleton _ _,λx hx y hy=>?_⟩;rw[AA5.1 hy];have:=(hb.2.2.2 x hx).1;omega
 ·rcases ABL.1 hq with hq|hq
  ·obtain⟨⟨q1,q2⟩,q3⟩:=hb.2.2.2 q hq;exact⟨⟨q1,J⟩,q3⟩
  ·rw[AA5.1 hq];exact⟨⟨by show 1<=nx;have:=hb.1;omega,J⟩,h.dk,⟨h.im,h.ne⟩,h.pg,⟨No,No⟩⟩
theorem jT{m:Int}{l:ADY}(h:RZ (nx,l))(hl:l.length<=1000)(x:QH)(hi:x.2.2.1.length<=1000)(hp:x.2.2.2.1.length<=1000):RZ (m,l++[x]):=by
 refine⟨No,λo ho=>?_⟩;rcases ABL.1 ho with ho|ho
 ·exact h.2 o ho
 ·rw[AA5.1 ho];exact⟨by show x.2.2.1.length<=_;omega,by show x.2.2.2.1.length<=_;omega⟩
def Qo(l:ADY)(id:Int):Option QH:=l.find? λo=>o.1==id
theorem AEB{p:Prop}(h:p:=by unfold Qo at ho;grind):p:=h
def Tb(crew:ADX)(id:Int):Option P9:=crew.find? λr=>r.1==id
def Uc(a:It)(l:ADY)(t:P6):Int:=if t.2.2.2=3 then(match Qo l t.1 with|some o=>o.2.1|none=>0)else(match Yt a t.2.1 with|some p=>p.2.1|none=>0)
structure Ua(a:It)(l:ADY)(crew:ADX)(t:P6):Prop where
 ord:∃o,Qo l t.1=some o/\o.2.2.2.2=1/\∃p∈o.2.2.2.1,p.1=t.2.1
 Pu:∃q,Yt a t.2.1=some q
 ea:t.2.2.2≠1->∃r,Tb crew t.2.2.1=some r/\r.2.2.1=Uc a l t/\r.2.2.2.1=decide (2<t.2.2.2)
structure DI(w h:Int)(c:By)(a:It)(nx:Int)(l:ADY)(crew:ADX)(ts:AAH):Prop where
 fl:P3 w h c=true
 st:Py a
 hm:∀p∈a,Qy c p.2.1=true
 bk:XL nx l
 Kc:gk l
 eQ:∀o∈l,o.2.2.2.1.length<=72
 dk:∀o∈l,Qy c o.2.1=true
 cw:CW c crew
 XJ:TP ts
 tk:∀t∈ts,Ua a l crew t
structure DW(w h:Int)(c:By)(a:It)(l:ADY)(crew:ADX)(ts:AAH):Prop where
 fl:P3 w h c=true
 st:Py a
 cw:CW c crew
 XJ:TP ts
 tk:∀t∈ts,Ua a l crew t
theorem DI.dw{l:ADY}{crew:ADX}(d:DI w h c a nx l crew ts):DW w h c a l crew ts:=⟨d.fl,d.st,d.cw,d.XJ,d.tk⟩
def Xs(a b:It):Prop:=∀id,(Yt b id).map (·.2.1)=(Yt a id).map (·.2.1)
theorem Xs.goal{b:It}(h:Xs a b){l k:ADY}(ho:Qo k t.1=Qo l t.1):Uc b k t=Uc a l t:=by
 unfold Uc;rw[ho];split
 ·rfl
 ·have:=h t.2.1;grind
theorem Ua.same{b:It}(h:Xs a b){l k:ADY}{crew:ADX}(ho:Qo k t.1=Qo l t.1)(ht:Ua a l crew t):Ua b k crew t:=by
 refine⟨by rw[ho];exact ht.ord,?_,λe=>?_⟩
 ·obtain⟨q,hq⟩:=ht.Pu;have:=h t.2.1;rw[hq]at this;cases e1:Yt b t.2.1 with
  |none=>grind
  |some q2=>grind
 ·rw[h.goal ho];exact ht.ea e
theorem oA(a:It)(f:Int->Int->Int):Xs a (QM a f):=by intro id;unfold Yt QM;rw[List.find?_map,Option.map_map];rfl
theorem mM{l:ADY}{o:QH}(h:Qo l id=some o)(x:QH):Qo (l++[x]) id=Qo l id:=by unfold Qo at h ⊢;grind
theorem kJ{l:ADY}{x:QH}(h:∀o∈l,o.1<x.1):Qo (l++[x]) x.1=some x:=by unfold Qo;grind
theorem RH{l:ADY}{o:QH}(h:Qo l id=some o):o∈l/\o.1=id:=⟨ABq h,by simpa using ACU h⟩
theorem UL{p:Pt}(h:Yt a id=some p):p∈a/\p.1=id:=⟨ABq h,by simpa using ACU h⟩
theorem ZG(h:∃p∈a,p.1=id):∃q,Yt a id=some q:=by
 obtain⟨p,hp,e⟩:=h;unfold Yt;cases hq:a.find? λp=>p.1==id with
 |some q=>grind
 |none=>
  grind
theorem iA:∀(ps:AAB)(s:By),s.Nodup->(ps.foldl W5 s).Nodup/\∀x,x∈ps.foldl W5 s↔x∈s\/∃p∈ps,p.1=x
 | [],s,hs=>⟨hs,λx=>OF⟩
 |p::ps,s,hs=>by
  have hn:(W5 s p).Nodup/\∀x,x∈W5 s p↔x∈s\/p.1=x:=by
   unfold W5;cases ha:s.any λy=>y==p.1 with
   |true=>
    rw[ABU];obtain⟨y,hy,e⟩:=AA3.1 ha;have e:=AAT.1 e
    exact⟨hs,λx=>⟨λh=>.inl h,λh=>by
     rcases h with h|h
     ·exact h
     ·rw[<-h,<-e];exact hy⟩⟩
   |false=>
    rw[ABV]
    have hno:p.1∉s:=λhm=>by rw[<-ABw]at ha;exact ha (AA3.2 ⟨p.1,hm,ABi _⟩)
    refine⟨AAZ.2 ⟨hs,OF,λx hx y hy e=>?_⟩,λx=>?_⟩
    ·rw[AA5.1 hy]at e;exact hno (e▸hx)
    ·rw[ABL,AA5];exact⟨λh=>h.imp id λe=>e.symm,λh=>h.imp id λe=>e.symm⟩
  obtain⟨i1,i2⟩:=iA ps (W5 s p) hn.1;grind
theorem Yv{x:Int}:x∈Tu ps↔∃p∈ps,p.1=x:=by have:=(iA ps [] AAR).2 x;unfold Tu;grind
theorem kO(ps:AAB):(Tu ps).Nodup:=(iA ps [] AAR).1
theorem Q6{l:AAH}:TP l↔l.length<=60/\(∀x∈l,Qe x=true)/\l.Pairwise λu x=>QG x u=false:=by
 constructor
 ·intro h
  exact⟨h.len,λx hx=>by
   obtain⟨i,hi,rfl⟩:=ABY.1 hx;exact h.p8 i hi,ABR.2 λi j hi hj hij=>h.apart j i hj hij⟩
 ·rintro ⟨h1,h2,h3⟩
  exact⟨h1,λi hi=>h2 _ (ABW hi),λi j hi hj=>ABR.1 h3 j i J hi hj⟩
theorem dq{x u:P6}(hx:x.2.2.2=1)(h:x.1≠u.1\/x.2.1≠u.2.1):QG x u=false:=by unfold QG;grind
theorem DI.take{l:ADY}{crew:ADX}(d:DI w h c a nx l crew ts){desk:Int}{it:ADZ}(T:gB a nx l desk it o)(hdk:Qy c desk=true)(h29:l.length<=29)(hlen:ts.length+(Tu o).length<=60):
  DI w h c (QM a (tp o)) (nx+1) (l++[(nx,desk,it,o,1)]) crew (ts++(Tu o).map λx=>(nx,x,(0:Int),(1:Int))):=by
 have hnx:=T.bk.1;have zA:=T.lt;have hids:∀y∈l,y.1<nx:=λy hy=>by have:=(T.bk.2.2.2 y hy).1;omega
 have hpo:∀p∈o,1<=p.1/\p.1<=999:=λp hp=>by obtain⟨_,_,i,hi,e⟩:=T.fit.each p hp;have:=(T.st.2.2 _ (ABW hi)).1;omega
 refine {fl:=d.fl,st:=(gM T.st T.fit).2,hm:=λp hp=>?_,bk:=T.book h29,Kc:=λq hq=>?_,eQ:=λq hq=>?_,dk:=λq hq=>?_,cw:=d.cw,XJ:=?_,tk:=λt ht=>?_ }
 ·unfold QM at hp;obtain⟨q,hq,rfl⟩:=AAt.1 hp;exact d.hm q hq
 ·rcases ABL.1 hq with hq|hq
  ·exact d.Kc q hq
  grind
 ·rcases ABL.1 hq with hq|hq
  ·exact d.eQ q hq
  ·rw[AA5.1 hq];exact T.eQ
 ·rcases ABL.1 hq with hq|hq
  ·exact d.dk q hq
  grind
 ·obtain⟨t1,t2,t3⟩:=Q6.1 d.XJ;refine Q6.2 ⟨No,λx hx=>?_,ABp.2 ⟨t3,?_,λu hu x hx=>?_⟩⟩
  ·rcases ABL.1 hx with hx|hx
   ·exact t2 x hx
   ·obtain⟨y,hy,rfl⟩:=AAt.1 hx;obtain⟨p,hp,e⟩:=Yv.1 hy;have:=hpo p hp;rw[e]at this;unfold Qe;grind
  ·rw[ABk];exact(kO o).imp fun {x y} zD=>dq rfl (.inr λe=>zD e.symm)
  ·obtain⟨y,hy,rfl⟩:=AAt.1 hx;refine dq rfl (.inl ?_);obtain⟨oo,ho,_⟩:=(d.tk u hu).ord;obtain⟨hm,e⟩:=RH ho;grind
 ·rcases ABL.1 ht with ht|ht
  ·have hd:=d.tk t ht;obtain⟨oo,ho,_⟩:=hd.ord;exact hd.same (oA a (tp o)) (mM ho _)
  ·obtain⟨y,hy,rfl⟩:=AAt.1 ht;obtain⟨p,hp,e⟩:=Yv.1 hy;refine⟨⟨_,kJ (x:=(nx,desk,it,o,1)) hids,rfl,p,hp,e⟩,?_,λe=>(e rfl).elim⟩;obtain⟨_,_,i,hi,e2⟩:=T.fit.each p hp;refine ZG ⟨lN (tp o) a[i],?_,e2.trans e⟩;unfold QM;grind
def XK(crew:ADX)(id:Int)(f:P9->P9):ADX:=crew.map λr=>bif r.1==id then f r else r
theorem fL(crew:ADX)(id:Int)(f:P9->P9):(XK crew id f).length=crew.length:=by unfold XK;grind
theorem QK{crew:ADX}{r:P9}(h:Tb crew id=some r):r∈crew/\r.1=id:=⟨ABq h,by simpa using ACU h⟩
theorem jO{crew:ADX}(h:crew.Pairwise λr s=>r.1<s.1){r s:P9}(hr:r∈crew)(hs:s∈crew)(e:r.1=s.1):r=s:=by
 obtain⟨i,hi,rfl⟩:=ABY.1 hr;obtain⟨j,hj,rfl⟩:=ABY.1 hs;rcases ABg i j with hl|hl|hl
 ·have:=ABR.1 h i j hi hj hl;omega
 ·subst hl;rfl
 ·have:=ABR.1 h j i hj hi hl;omega
theorem cG{crew:ADX}{f:P9->P9}(hf:∀r,(f r).1=r.1)(k:Int):Tb (XK crew id f) k=(Tb crew k).map λr=>bif r.1==id then f r else r:=by
 unfold Tb XK;rw[List.find?_map]
 have:((λr:P9=>r.1==k) ∘ λr:P9=>bif r.1==id then f r else r)=λr:P9=>r.1==k:=funext λr=>No
 rw[this]
theorem CW.Ca{crew:ADX}(h:CW c crew){f:P9->P9}(hf:∀r,(f r).1=r.1/\(f r).2.1=r.2.1)(hg:∀r∈crew,r.1=id->((f r).2.2.1 = -1\/Qy c (f r).2.2.1=true)/\0<=(f r).2.2.2.2/\(f r).2.2.2.2<=1000000):CW c (XK crew id f):=by
 have key:∀r,(bif r.1==id then f r else r:P9).1=r.1/\(bif r.1==id then f r else r:P9).2.1=r.2.1:=λr=>No
 have mem:∀s∈XK crew id f,∃r∈crew,s=(bif r.1==id then f r else r:P9):=λs hs=>by unfold XK at hs;obtain⟨r,hr,e⟩:=AAt.1 hs;grind
 refine⟨by rw[fL];exact h.n20,λs hs=>?_,λs hs=>?_,λs hs=>?_,λs hs=>?_,?_,?_⟩
 ·obtain⟨r,hr,rfl⟩:=mem s hs;rw[(key r).1];exact h.qA r hr
 ·obtain⟨r,hr,rfl⟩:=mem s hs;rw[(key r).2];exact h.mb r hr
 ·obtain⟨r,hr,rfl⟩:=mem s hs;by_cases e:r.1=id
  ·grind
  ·rw[show(r.1==id)=false from ABa.2 e];exact h.goal r hr
 ·obtain⟨r,hr,rfl⟩:=mem s hs;by_cases e:r.1=id
  ·grind
  ·rw[show(r.1==id)=false from ABa.2 e];exact h.pq r hr
 ·unfold XK;rw[ABk];exact h.ids.imp fun {r s} hrs=>No
 ·unfold XK;rw[ABk];exact h.fN.imp fun {r s} hrs=>No
theorem gG{x u:P6}(h:QG x u=false)(hx:x.2.2.2≠1):x.2.2.1≠u.2.2.1:=λe=>by unfold QG at h;grind
theorem cd{s:Int}(ht:t.2.2.2≠1)(hs:s≠1)(u:P6):QG (t.1,t.2.1,t.2.2.1,s) u=QG t u/\QG u (t.1,t.2.1,t.2.2.1,s)=QG u t:=by unfold QG;grind
theorem js{s:Int}(h:Qe t=true)(ht:t.2.2.2≠1)(hs:2<=s/\s<=4):Qe (t.1,t.2.1,t.2.2.1,s)=true:=by unfold Qe at h ⊢;grind
theorem TP.pZ{x y:AAH}(h:TP (x++t::y))(ht:t.2.2.2≠1){s:Int}(hs:2<=s/\s<=4):TP (x++(t.1,t.2.1,t.2.2.1,s)::y):=by
 obtain⟨t1,t2,t3⟩:=Q6.1 h;obtain⟨p1,p2,p3⟩:=ABp.1 t3;obtain⟨p4,p5⟩:=ABl.1 p2;have hs1:s≠1:=J
 refine Q6.2 ⟨No,λu hu=>?_,ABp.2 ⟨p1,ABl.2 ⟨λu hu=>?_,p5⟩,λu hu v hv=>?_⟩⟩
 ·rcases ABL.1 hu with hu|hu
  ·grind
  ·rcases AAd.1 hu with rfl|hu
   ·exact js (t2 t (AAS _ AAg)) ht hs
   grind
 ·rw[(cd ht hs1 u).2];exact p4 u hu
 ·rcases AAd.1 hv with rfl|hv
  ·rw[(cd ht hs1 u).1];exact p3 u hu t AAg
  grind
theorem TP.sub{x y:AAH}(h:TP y)(hs:x.Sublist y):TP x:=by obtain⟨t1,t2,t3⟩:=Q6.1 h;exact Q6.2 ⟨AAv hs.length_le t1,λu hu=>t2 u (hs.subset hu),t3.sublist hs⟩
theorem TP.two{x y:AAH}(h:TP (x++t::y))(ht:t.2.2.2≠1){u:P6}(hu:u∈x\/u∈y)(hu1:u.2.2.2≠1):u.2.2.1≠t.2.2.1:=by
 obtain⟨_,_,t3⟩:=Q6.1 h;obtain⟨p1,p2,p3⟩:=ABp.1 t3;obtain⟨p4,p5⟩:=ABl.1 p2;rcases hu with hu|hu
 ·exactλe=>gG (p3 u hu t AAg) ht e.symm
 ·exact gG (p4 u hu) hu1
theorem Ua.other{b:It}(hsp:Xs a b){l:ADY}{crew:ADX}{u:P6}(h:Ua a l crew u){f:P9->P9}(hf:∀r,(f r).1=r.1)(zD:u.2.2.2≠1->u.2.2.1≠id):Ua b l (XK crew id f) u:=by have h2:=h.same hsp (k:=l) rfl;refine⟨h2.ord,h2.Pu,λe=>?_⟩;obtain⟨r,q1,q2⟩:=h2.ea e;refine⟨r,?_,q2⟩;rw[cG hf,q1,AA6,show(r.1==id)=false from ABa.2 λe2=>zD e ((QK q1).2.symm.trans e2),ABV]
theorem DI.nD{w h:Int}{c:By}{a:It}{nx:Int}{l:ADY}{crew:ADX}{x y:AAH}{t:P6}(d:DI w h c a nx l crew (x++t::y))(ht:t.2.2.2≠1){b:It}(hb:Py b)(hsp:Xs a b)(hbm:∀p∈b,Qy c p.2.1=true){s:Int}(hs:2<=s/\s<=4){f:P9->P9}(hf:∀r,(f r).1=r.1/\(f r).2.1=r.2.1)
  (zt:∀r,Tb crew t.2.2.1=some r->(f r).2.2.1=Uc b l (t.1,t.2.1,t.2.2.1,s)/\(f r).2.2.2.1=decide (2<s)/\0<=(f r).2.2.2.2/\(f r).2.2.2.2<=1000000):DI w h c b nx l (XK crew t.2.2.1 f) (x++(t.1,t.2.1,t.2.2.1,s)::y):=by
 have hT:=d.tk t (AAS _ AAg);obtain⟨o,ho,hst,hpk⟩:=hT.ord;obtain⟨r0,hr0,_,_⟩:=hT.ea ht;obtain⟨q,hq⟩:=(hT.same hsp (k:=l) rfl).Pu
 have hgoal:Qy c (Uc b l (t.1,t.2.1,t.2.2.1,s))=true:=by
  unfold Uc;dsimp only;split
  ·rw[ho];exact d.dk o (RH ho).1
  ·rw[hq];exact hbm q (UL hq).1
 refine {fl:=d.fl,st:=hb,hm:=hbm,bk:=d.bk,Kc:=d.Kc,eQ:=d.eQ,dk:=d.dk,cw:=d.cw.Ca hf λr hr e=>?_,XJ:=d.XJ.pZ ht hs,tk:=λu hu=>?_ }
 ·have hrr:r=r0:=jO d.cw.ids hr (QK hr0).1 (e.trans (QK hr0).2.symm);grind
 ·have hoth:∀u,u∈x\/u∈y->Ua b l (XK crew t.2.2.1 f) u:=λu hu=>(d.tk u (by
   grind)).other hsp (λr=>(hf r).1) λe=>d.XJ.two ht hu e
  rcases ABL.1 hu with hu|hu
  ·grind
  ·rcases AAd.1 hu with rfl|hu
   ·refine⟨⟨o,ho,hst,hpk⟩,⟨q,hq⟩,λ_=>⟨f r0,?_,(zt r0 hr0).1,(zt r0 hr0).2.1⟩⟩;rw[cG λr=>(hf r).1];show(Tb crew t.2.2.1).map _=_;rw[hr0,AA6,show(r0.1==t.2.2.1)=true from AAT.2 (QK hr0).2,ABU]
   grind
theorem DI.gone{l:ADY}{crew:ADX}{x y:AAH}(d:DI w h c a nx l crew (x++t::y))(ht:t.2.2.2≠1){f:P9->P9}(hf:∀r,(f r).1=r.1/\(f r).2.1=r.2.1)(zt:∀r,(f r).2.2.1 = -1/\0<=(f r).2.2.2.2/\(f r).2.2.2.2<=1000000):DI w h c a nx l (XK crew t.2.2.1 f) (x++y):=by
 refine {fl:=d.fl,st:=d.st,hm:=d.hm,bk:=d.bk,Kc:=d.Kc,eQ:=d.eQ,dk:=d.dk,cw:=d.cw.Ca hf λr hr e=>⟨.inl (zt r).1,(zt r).2⟩,XJ:=d.XJ.sub ((List.Sublist.refl x).append (List.sublist_cons_self t y)),tk:=λu hu=>?_ };have hu2:=ABL.1 hu
 exact(d.tk u (by
  grind)).other (λ_=>rfl) (λr=>(hf r).1) λe=>d.XJ.two ht hu2 e
def RW(l:ADY)(id st:Int):ADY:=l.map λo=>bif o.1==id then(o.1,o.2.1,o.2.2.1,o.2.2.2.1,st)else o
theorem eX(l:ADY)(id st k:Int)(hk:k≠id):Qo (RW l id st) k=Qo l k:=by
 unfold Qo RW;rw[List.find?_map]
 have:((λo:QH=>o.1==k) ∘ λo:QH=>bif o.1==id then(o.1,o.2.1,o.2.2.1,o.2.2.2.1,st)else o)=λo:QH=>o.1==k:=funext λo=>No
 rw[this];cases h:l.find? λo=>o.1==k with
 |none=>rfl
 |some o=>
  grind
theorem DI.Ds{l:ADY}{crew:ADX}(d:DI w h c a nx l crew ts){b:It}(hb:Py b)(hsp:Xs a b)(hbm:∀p∈b,Qy c p.2.1=true){st:Int}(hst:1<=st/\st<=3){us:AAH}(zr:us.Sublist ts)(hno:∀t∈us,t.1≠id):DI w h c b nx (RW l id st) crew us:=by
 have mem:∀q∈RW l id st,∃o∈l,q=(bif o.1==id then(o.1,o.2.1,o.2.2.1,o.2.2.2.1,st)else o:QH):=λq hq=>by unfold RW at hq;grind
 have key:∀o:QH,(bif o.1==id then(o.1,o.2.1,o.2.2.1,o.2.2.2.1,st)else o:QH).1=o.1/\(bif o.1==id then(o.1,o.2.1,o.2.2.1,o.2.2.2.1,st)else o:QH).2.1=o.2.1/\(bif o.1==id then(o.1,o.2.1,o.2.2.1,o.2.2.2.1,st)else o:QH).2.2.1=o.2.2.1/\(bif o.1==id then(o.1,o.2.1,o.2.2.1,o.2.2.2.1,st)else o:QH).2.2.2.1=o.2.2.2.1:=λo=>No
 obtain⟨b1,b2,b3,b4⟩:=d.bk;refine {fl:=d.fl,st:=hb,hm:=hbm,bk:=⟨b1,by unfold RW;grind,?_,λq hq=>?_⟩,Kc:=λq hq=>?_,eQ:=λq hq=>?_,dk:=λq hq=>?_,cw:=d.cw,XJ:=d.XJ.sub zr,tk:=λt ht=>(d.tk t (zr.subset ht)).same hsp (eX l id st t.1 (hno t ht)) }
 ·unfold RW;rw[ABk];exact b3.imp fun {x y} hxy=>No
 ·obtain⟨o,ho,rfl⟩:=mem q hq;obtain⟨k1,k2,k3,k4⟩:=key o;obtain⟨g1,g2,g3,g4,g5⟩:=b4 o ho;unfold jg;rw[k1,k2,k3,k4];refine⟨g1,g2,g3,g4,?_⟩;cases(o.1==id)
  all_goals grind
 ·obtain⟨o,ho,rfl⟩:=mem q hq;rw[(key o).2.2.2];exact d.Kc o ho
 ·obtain⟨o,ho,rfl⟩:=mem q hq;rw[(key o).2.2.2];exact d.eQ o ho
 ·obtain⟨o,ho,rfl⟩:=mem q hq;rw[(key o).2.1];exact d.dk o ho
theorem DI.tJ{l:ADY}{crew:ADX}(d:DI w h c a nx l crew ts){b:It}(hb:Py b)(hsp:Xs a b)(hbm:∀p∈b,Qy c p.2.1=true):DI w h c b nx l crew ts:=
 { d with st:=hb,hm:=hbm,tk:=λt ht=>(d.tk t ht).same hsp rfl }
theorem DW.step{l:ADY}{crew:ADX}(d:DW w h c a l crew ts)(hc:CW c crew')(hs:∀id,(Tb crew' id).map (λr=>(r.2.2.1,r.2.2.2.1))=(Tb crew id).map (λr=>(r.2.2.1,r.2.2.2.1))):DW w h c a l crew' ts:=
 have key:∀t∈ts,Ua a l crew' t:=λt ht=>by
  have hT:=d.tk t ht;refine⟨hT.ord,hT.Pu,λe=>?_⟩;obtain⟨r,q1,q2,q3⟩:=hT.ea e;have:=hs t.2.2.1;rw[q1]at this;cases e1:Tb crew' t.2.2.1 with
  |none=>grind
  |some r'=>
   grind
 { d with cw:=hc,tk:=key }
theorem mG{α β:Type}{f:α->β}{l:List α}(h:(l.map f).Nodup){x y:α}(hx:x∈l)(hy:y∈l)(e:f x=f y):x=y:=by
 obtain⟨i,hi,rfl⟩:=ABY.1 hx;obtain⟨j,hj,rfl⟩:=ABY.1 hy;have hp:=ABk.1 h;rcases ABg i j with hl|hl|hl
 ·exact(ABR.1 hp i j hi hj hl e).elim
 ·subst hl;rfl
 ·exact(ABR.1 hp j i hj hi hl e.symm).elim
theorem X6{crew:ADX}(h:crew.Pairwise λr s=>r.1<s.1){k:Nat}(hk:k<crew.length):Tb crew crew[k].1=some crew[k]:=by
 cases hq:Tb crew crew[k].1 with
 |none=>
  unfold Tb at hq;have:=ACH.1 hq _ (ABW hk);simp at this
 |some r=>rw[jO h (QK hq).1 (ABW hk) (QK hq).2]
theorem bW(ha:Py a){l:ADY}(h3:t.2.2.2≠3)(hi:i<a.length)(e:a[i].1=t.2.1):Uc a l t=a[i].2.1:=by obtain⟨q,hq⟩:=ZG (a:=a) (id:=t.2.1) ⟨_,ABW hi,e⟩;have:q=a[i]:=W4 ha hi (UL hq).1 ((UL hq).2.trans e.symm);unfold Uc;grind
theorem DW.kQ{l:ADY}{crew:ADX}(d:DW w h c a l crew ts)(hd:mm w h c a crew ts prs){ts':AAH}(hs:ji a crew ts prs crew' ts'):DW w h c a l crew' ts':=by
 have hcl:c.length<=1048576:=by have:=(WC d.fl).le;omega
 have hal:a.length<=1048576:=by have:=d.st.1;omega
 have hcw:CW c crew':=hs.crew hcl d.fl hd d.cw
 have key:∀t∈ts',Ua a l crew' t:=λt ht=>by
  obtain⟨i,hi',rfl⟩:=ABY.1 ht;have hi:i<ts.length:=by rw[<-hs.l2];exact hi'
  have hT:=d.tk _ (ABW hi);rcases hs.tk i hi hi' with⟨p,hp,e1,e2⟩|⟨hno,e2⟩
  ·rw[e2];obtain⟨hk,r1,r2,r3,r4,r5⟩:=hd.ea d.cw hp;have hk':p.2<crew'.length:=by rw[hs.l1];exact hk
   refine⟨hT.ord,hT.Pu,λ_=>?_⟩;rcases hs.rb p.2 hk hk' with⟨p',hp',e3,e4⟩|⟨hno,_⟩
   ·have hpp:p'=p:=mG hd.n2 hp' hp e3;subst hpp;obtain⟨q1,q2,q3,j,hj,q4,q5,q6⟩:=hd.XJ hal hp';subst e1;rw[cZ q1]at e4;refine⟨crew'[p'.2],?_,?_,?_⟩
    ·show Tb crew' (YH crew p'.2).1=_;rw[cE hk];have:=X6 hcw.ids hk';rw[e4]at this ⊢;exact this
    ·rw[e4];show QY a ts[p'.1].2.1=_;rw[q6];exact(bW (t:=(ts[p'.1].1,ts[p'.1].2.1,(YH crew p'.2).1,2)) d.st (by show(2:Int)≠3;omega) hj q5).symm
    ·rw[e4];show crew[p'.2].2.2.2.1=decide ((2:Int)<2);rw[r4];rfl
   grind
  ·rw[e2];refine⟨hT.ord,hT.Pu,λe=>?_⟩;obtain⟨r,g1,g2,g3⟩:=hT.ea e;obtain⟨k,hk,hr⟩:=ABY.1 (QK g1).1;have hk':k<crew'.length:=by rw[hs.l1];exact hk
   have hid:crew[k].1=ts[i].2.2.1:=by rw[hr];exact(QK g1).2
   rcases hs.rb k hk hk' with⟨p,hp,e3,_⟩|⟨_,e4⟩
   ·obtain⟨hk2,_,_,_,_,r5⟩:=hd.ea d.cw hp;grind
   ·have:=X6 hcw.ids hk';grind
 exact { d with cw:=hcw,XJ:=hs.tasks hal hd d.XJ d.cw,tk:=key }
theorem DI.kQ{l:ADY}{crew:ADX}(d:DI w h c a nx l crew ts)(hd:mm w h c a crew ts prs){ts':AAH}(hs:ji a crew ts prs crew' ts'):DI w h c a nx l crew' ts':=
 { d with cw:=(d.dw.kQ hd hs).cw,XJ:=(d.dw.kQ hd hs).XJ,tk:=(d.dw.kQ hd hs).tk }
theorem DW.qX{l:ADY}{crew:ADX}(d:DW w h c a l crew ts)(hc:CW c crew')(hl:crew'.length=crew.length)(hs:∀k (h1:k<crew.length) (h2:k<crew'.length),crew'[k].1=crew[k].1/\crew'[k].2.2.1=crew[k].2.2.1/\crew'[k].2.2.2.1=crew[k].2.2.2.1):DW w h c a l crew' ts:=by
 refine d.step hc λid=>?_;cases hq:Tb crew id with
 |some r=>
  obtain⟨k,hk,hr⟩:=ABY.1 (QK hq).1;have hk2:k<crew'.length:=by rw[hl];exact hk
  obtain⟨e1,e2,e3⟩:=hs k hk hk2;have:=X6 hc.ids hk2;rw[e1,hr,(QK hq).2]at this;grind
 |none=>
  cases hq2:Tb crew' id with
  |none=>rfl
  |some r=>
   obtain⟨k,hk,hr⟩:=ABY.1 (QK hq2).1;have hk2:k<crew.length:=by rw[<-hl];exact hk
   obtain⟨e1,_,_⟩:=hs k hk2 hk;unfold Tb at hq;have:=ACH.1 hq _ (ABW hk2);rw[<-e1,hr,(QK hq2).2]at this;simp at this
theorem DI.qX{l:ADY}{crew:ADX}(d:DI w h c a nx l crew ts)(hc:CW c crew')(hl:crew'.length=crew.length)(hs:∀k (h1:k<crew.length) (h2:k<crew'.length),crew'[k].1=crew[k].1/\crew'[k].2.2.1=crew[k].2.2.1/\crew'[k].2.2.2.1=crew[k].2.2.2.1):DI w h c a nx l crew' ts:=
 { d with cw:=hc,tk:=(d.dw.qX hc hl hs).tk }
def Vq(x:Ph)(l:AAB)(m:AAB):AAB:=(l.filter λy=>decide (y.1<x.1))++(m++l.filter λy=>decide (x.1<y.1))
def Yz(x:Ph)(l:AAB):AAB:=Vq x l (bif x.2.1==0 then []else [x])
theorem eT{x:Ph}:∀ {l:AAB},l.Pairwise (λa b=>a.1<b.1)->l.filter (λy=>y.1 != x.1)=Vq x l []
 | [],_=>rfl
 |y::r,h=>by
  obtain⟨h1,h2⟩:=ABl.1 h;have ih:=eT (x:=x) h2;unfold Vq at ih ⊢;rw[AA0]at ih ⊢;rw[AB9,AB9,AB9];rcases Int.lt_trichotomy y.1 x.1 with hl|hl|hl
  ·grind
  ·grind
  ·have hr:r.filter (λz=>decide (z.1<x.1))=[]:=AB6.2 λz hz=>by have:=h1 z hz;simp;omega
   grind
theorem oY{l:AAB}(h:∀y∈l,y.1<x.1)(m:AAB):Vq x l m=l++m:=by unfold Vq;rw[ACL.2 λy hy=>No,AB6.2 λy hy=>No,ABn]
theorem nO{l:AAB}(h:∀y∈l,x.1<=y.1)(hp:l.Pairwise λa b=>a.1<b.1)(m:AAB):Vq x l m=m++l.filter λy=>y.1 != x.1:=by rw[eT hp];unfold Vq;rw[AB6.2 λy hy=>by have:=h y hy;simp;omega];rfl
theorem nN{y:Ph}{r:AAB}(h:y.1<x.1)(m:AAB):Vq x (y::r) m=y::Vq x r m:=by unfold Vq;grind
theorem hX{l m:AAB}{z:Ph}(h:z∈Vq x l m):(z∈l/\z.1≠x.1)\/z∈m:=by unfold Vq at h;grind
theorem nP{l:AAB}(h:l.Pairwise λa b=>a.1<b.1){m:AAB}(hm:m=[]\/m=[x]):(Vq x l m).Pairwise λa b=>a.1<b.1:=by
 unfold Vq
 have hmx:∀z∈m,z.1=x.1:=λz hz=>by
  rcases hm with rfl|rfl
  ·cases hz
  ·rw[AA5.1 hz]
 refine ABp.2 ⟨h.filter _,ABp.2 ⟨by rcases hm with rfl|rfl<;>simp,h.filter _,λa ha b hb=>?_⟩,λa ha b hb=>?_⟩
 all_goals grind
theorem kt{l:AAB}(h:l.Pairwise λa b=>a.1<b.1)(m:AAB):(Vq x l m).length=(l.filter λy=>y.1 != x.1).length+m.length:=by rw[eT h];unfold Vq;grind
theorem je{l:AAB}(h:VU l)(hx:(x.2.1==0)=false->1<=x.1/\x.1<=50/\1<=x.2.1/\x.2.1<=1000/\0<=x.2.2/\x.2.2<=x.2.1)(hl:(x.2.1==0)=true\/(∃z∈l,z.1=x.1)\/l.length<8):VU (Yz x l):=by
 obtain⟨h1,h2,h3⟩:=h;have hf:(l.filter λy=>y.1 != x.1).length<=l.length:=ABs _ _;unfold Yz;cases hz:(x.2.1==0)with
 |true=>
  rw[ABU];refine⟨nP h1 (.inl rfl),λz hm=>?_,by rw[kt h1];simp only[List.length_nil];omega⟩;rcases hX hm with hm|hm
  all_goals grind
 |false=>
  rw[ABV];refine⟨nP h1 (.inr rfl),λz hm=>?_,?_⟩
  ·rcases hX hm with hm|hm
   all_goals grind
  ·rw[kt h1,ABb];rcases hl with hl|⟨z,hzm,e⟩|hl
   ·grind
   ·have:(l.filter λy=>y.1 != x.1).length<l.length:=by rw[List.length_filter_lt_length_iff_exists];exact⟨z,hzm,by simp[e]⟩
    omega
   ·omega
theorem kC(l:AAB)(h:VU l)(x0 x1 x2:Int)(n:Nat)(hn:Ps<=n):VS n l x0 x1 x2=some (Yz (x0,x1,x2) l):=by
 have h8:=h.2.2
 have hc:=QA (σ:=AAB×Bool) (Rp l x0 x1 x2) (λi s=>(s.1,s.2,(i:Int))) l
  (λr s=>(s.1++(bif s.2 then r.filter (λy=>y.1 != x0)else bif r.any (λy=>decide (y.1>=x0))then Vq (x0,x1,x2) r [(x0,x1,x2)]else r),s.2||r.any (λy=>decide (y.1>=x0)),(l.length:Int)))
  (λi s=>s.1.length<=i+1/\(s.2=false->s.1.length<=i))
  (λs hs=>by
   unfold Rp;grind)
  (λi y r s h1 h2 h3 h4 h5=>by
   left;have hy:l[i]=y:=by rw[AAI h1]at h2;exact Option.some.inj h2
   obtain⟨out,put⟩:=s;dsimp only at h5 ⊢;have hpw:(y::r).Pairwise (λa b=>a.1<b.1):=h3▸h.1.drop;obtain⟨hyr,hpr⟩:=ABl.1 hpw;unfold Rp;dsimp only;rw[show decide ((i:Int)<(l.length:Int))=true by grind,ABU,Pk h1,hy,Pj h1 (show l.length<=9223372036854775807 by omega)];simp only[ABT];have r1:∀(o:AAB)(z:Ph),o.length<=i+2->decide (o.length+[z].length<=Dj)=true:=λo z ho=>Ru J;cases put with
   |true=>
    simp only[ABc,ABV,ABU,ABT,Bool.true_or];by_cases he:y.1=x0
    ·rw[show(y.1 != x0)=false by simp[he]];simp only[ABV,ABT];exact⟨(out,true),rfl,⟨No,λe=>by cases e⟩,No⟩
    ·have hb:(y.1 != x0)=true:=AD1
     rw[hb,ABU,r1 out _ J,ABU,ABT];exact⟨(out++[y],true),rfl,⟨No,λe=>by cases e⟩,No⟩
   |false=>
    have h5i:=h5.2 rfl;simp only[ABu,ABU,ABV,ABT,Bool.false_or];by_cases zu:y.1>=x0
    ·have hany:(y::r).any (λy=>decide (y.1>=x0))=true:=No
     have hhi:=nO (x:=(x0,x1,x2)) (l:=y::r) (λz hz=>by
      grind) hpw [(x0,x1,x2)]
     rw[ABZ zu,ABU,r1 out _ J,ABU,ABT,hany,hhi];dsimp only;by_cases he:y.1=x0
     ·rw[show(y.1 != x0)=false by simp[he]];simp only[ABV,ABT];exact⟨(out++[(x0,x1,x2)],true),rfl,⟨No,λe=>by cases e⟩,No⟩
     ·have hb:(y.1 != x0)=true:=AD1
      rw[hb,ABU,r1 (out++[_]) _ No,ABU,ABT];exact⟨(out++[(x0,x1,x2)]++[y],true),rfl,⟨No,λe=>by cases e⟩,No⟩
    ·have hany:(y::r).any (λy=>decide (y.1>=x0))=r.any (λy=>decide (y.1>=x0)):=by rw[List.any_cons,ABd zu,Bool.false_or]
     have zA:y.1<x0:=ADb
     have hb:(y.1 != x0)=true:=by rw[AB2];clear hn;omega
     rw[ABd zu,ABV,ABT,hany,nN (x:=(x0,x1,x2)) zA];dsimp only;rw[hb,ABU,r1 out _ ADb,ABU,ABT];refine⟨(out++[y],false),rfl,⟨by show(out++[y]).length<=i+1+1;rw[AAz,ABb];clear hn;omega,λ_=>by show(out++[y]).length<=i+1;rw[AAz,ABb];clear hn;omega⟩,?_⟩;grind)
  n ADd (([]:AAB),x1==0) ⟨OF,λ_=>OF⟩
 unfold VS Yz;rw[show((0:Nat):Int)=0 from rfl]at hc;dsimp only at hc ⊢;rw[hc,ABT];dsimp only;cases hx1:(x1==0)with
 |true=>
  simp only[ABU,Bool.true_or,ABc,ABV,ABT,AA0];rw[eT (x:=(x0,x1,x2)) h.1]
 |false=>
  simp only[ABV,Bool.false_or,AA0];cases ha:l.any (λy=>decide (y.1>=x0))with
  |true=>rfl
  |false=>
   simp only[ABV,ABu,ABU]
   rw[show decide (l.length+[(x0,x1,x2)].length<=Dj)=true from Ru J,ABU,ABT,oY (x:=(x0,x1,x2)) λy hy=>by
    rw[<-ABw]at ha;have:¬y.1>=x0:=λq=>ha (AA3.2 ⟨y,hy,ABZ q⟩);show y.1<x0;clear hn;omega]
def fi(a:It)(Pu:Int)(x:Ph):It:=XB a Pu (Yz x)
theorem Z5(h:Py a)(hi:i<a.length)(x0 x1 x2:Int)(n:Nat)(hn:Ps<=n):S9 n a (i:Int) x0 x1 x2=some (fi a a[i].1 (x0,x1,x2)):=by
 have hst:=(h.2.2 _ (ABW hi)).2.2;unfold S9;rw[P0 a h.sm n hn,ABT,Po hi,ABU];have hg:a[(i:Int).toNat]?=some a[i]:=by simp[hi]
 rw[hg,ABT,ABT,kC a[i].2.2 hst x0 x1 x2 n hn,ABT,ABU,ABX];unfold fi;rw[<-WM h hi];congr 1;apply ABt;grind
theorem cH(a:It)(Pu:Int)(f:AAB->AAB):Xs a (XB a Pu f):=by
 intro id;unfold Yt XB;rw[List.find?_map]
 have:((λp:Pt=>p.1==id) ∘ λp:Pt=>bif p.1==Pu then(p.1,p.2.1,f p.2.2)else p)=λp:Pt=>p.1==id:=funext λp=>No
 rw[this,Option.map_map];cases a.find? λp=>p.1==id with
 |none=>rfl
 |some p=>
  grind
theorem eB{f:AAB->AAB}{p:Pt}(h:p∈XB a Pu f):∃q∈a,p.2.1=q.2.1:=by unfold XB at h;grind
def aC(a:It)(Pu k m:Int):It×Int:=if QQ a Pu k m≠0 then(a,QQ a Pu k m)else if(Rr a Pu k).2.2<m then(a,3)else(fi a Pu (k,(Rr a Pu k).2.1-m,(Rr a Pu k).2.2-m),0)
theorem lL(h:Py a)(Pu k m:Int):Py (aC a Pu k m).1/\Xs a (aC a Pu k m).1/\∀p∈(aC a Pu k m).1,∃q∈a,p.2.1=q.2.1:=by
 have same:Py a/\Xs a a/\∀p∈a,∃q∈a,p.2.1=q.2.1:=⟨h,λ_=>rfl,λp hp=>⟨p,hp,rfl⟩⟩;unfold aC;split
 ·exact same
 ·rename_i hc;split
  ·exact same
  ·rename_i zA;obtain⟨_,hk,hm,i,hi,e1,e2,e3⟩:=Qn (by omega:QQ a Pu k m=0);refine⟨?_,cH a Pu _,λp hp=>eB hp⟩;refine fK h Pu _ λp hp ep=>?_;have:p=a[i]:=W4 h hi hp (ep.trans e2.symm);subst this;have hst:=(h.2.2 _ (ABW hi)).2.2;obtain⟨b1,b2,b3,b4,b5⟩:=Sv hst k;rw[e3]at zA ⊢
   have hz:∃z∈a[i].2.2,z.1=k:=by refine AAp λq=>?_;rw[Rq λx hx e=>q ⟨x,hx,e⟩]at zA;dsimp only at zA;omega
   refine je hst (λzD=>?_) (.inr (.inl hz));grind
theorem lM(h:P4 a)(Pu k m:Int):P4 (aC a Pu k m).1:=by
 by_cases hc:QQ a Pu k m=0
 ·exact(lL (Qn hc).1 Pu k m).1.sm
 ·unfold aC;grind
theorem cP(a:It)(hs:P4 a)(Pu k m:Int)(n:Nat)(hn:Ps<=n):Xd n a Pu k m=some (aC a Pu k m):=by
 unfold Xd aC;rw[ZD a hs Pu k m n hn,ABT];by_cases hc:QQ a Pu k m=0
 ·rw[AAQ (by rw[hc];simp),AAQ (by rw[hc];simp)];obtain⟨h,hk,hm,i,hi,e1,e2,e3⟩:=Qn hc;have hst:=(h.2.2 _ (ABW hi)).2.2;obtain⟨b1,b2,b3,b4,b5⟩:=Sv hst k;dsimp only;rw[show((0:Int) != 0)=false from rfl,ABV,e3];by_cases zA:(Px a[i].2.2 k).2.2<m
  ·rw[ABZ zA,AAP zA,ABU,P0 a hs n hn];rfl
  ·rw[ABd zA,AAQ zA,ABV,Pr (n:=(Px a[i].2.2 k).2.1-m) J J,Pr (n:=(Px a[i].2.2 k).2.2-m) J J,e1,b5];rw[Z5 h hi _ _ _ n hn,e2];rfl
 ·rw[AAP hc,AAP hc];dsimp only;rw[show(QQ a Pu k m != 0)=true by grind,ABU,P0 a hs n hn];rfl
def V5(s:It)(p:Ph):It×Int:=aC s p.1 p.2.1 p.2.2
theorem cO(a:It)(ha:P4 a)(ps:AAB)(hp:ps.length<=1048576)(n:Nat)(hn:Ps<=n):Sy n a ps 3=some (RT V5 a ps):=by
 have h1:=Ym (Qp n a ps 3) V5 a ps (λs p hs=>lM hs _ _ _) ha (λi s hi hs=>by
  have hd:decide ((i:Int)<(ps.length:Int))=true:=ADm
  simp only[Qp,hd,ABU,Pk hi,ABT,cP s hs _ _ _ n hn,P0 a ha n hn,Pj hi (show ps.length<=9223372036854775807 by clear hn;omega)];rw[show((3:Int)==1)=false from rfl,show((3:Int)==2)=false from rfl];show(bif(V5 s ps[i]).2 != 0 then _ else _)=_;cases((V5 s ps[i]).2 != 0)<;>rfl) (λs=>by simp[Qp]) n ADd
 unfold Sy;rw[P0 a ha n hn,ABT,h1,ABT];unfold RT;grind
theorem ZN(h:Py a)(ps:AAB):Py (RT V5 a ps).1/\Xs a (RT V5 a ps).1/\∀p∈(RT V5 a ps).1,∃q∈a,p.2.1=q.2.1:=
 kh (P:=λs=>Py s/\Xs a s/\∀p∈s,∃q∈a,p.2.1=q.2.1) (λs p hs=>by
  obtain⟨h1,h2,h3⟩:=hs;obtain⟨g1,g2,g3⟩:=lL h1 p.1 p.2.1 p.2.2;refine⟨g1,λid=>(g2 id).trans (h2 id),λq hq=>?_⟩;obtain⟨r,hr,e⟩:=g3 q hq;grind) ⟨h,λ_=>rfl,λp hp=>⟨p,hp,rfl⟩⟩ ps
def P5(l:ADY)(t:P6):AAB:=match Qo l t.1 with
 |some o=>o.2.2.2.1.filter λp=>p.1==t.2.1
 |none=>[]
def VC(t:P6)(s:Int):P6:=(t.1,t.2.1,t.2.2.1,s)
def mN(ou:By)(ps:AAB):By:=ps.foldl (λou p=>if ou.getD p.2.1.toNat 0+p.2.2<=1000000 then ou.set p.2.1.toNat (ou.getD p.2.1.toNat 0+p.2.2)else ou) ou
def Qk(a:It)(ou:By)(l:ADY)(crew:ADX)(t:P6):It×By×ADX×Option P6:=
 if t.2.2.2=2 then(a,ou,XK crew t.2.2.1 (λr=>(r.1,r.2.1,Uc a l (VC t 3),true,0)),some (VC t 3))
 else if t.2.2.2=3 then
  ((RT V5 a (P5 l t)).1,(bif(RT V5 a (P5 l t)).2 then mN ou (P5 l t)else ou),XK crew t.2.2.1 (λr=>(r.1,r.2.1,Uc (RT V5 a (P5 l t)).1 l (VC t 4),r.2.2.2.1,0)),some (VC t 4))
 else(a,ou,XK crew t.2.2.1 (λr=>(r.1,r.2.1, -1,false,0)),none)
def dN:Option P6->AAH
 |some t=>[t]
 |none=>[]
theorem DI.jr{l:ADY}{crew:ADX}{x y:AAH}(d:DI w h c a nx l crew (x++t::y))(ht:t.2.2.2≠1)(ou:By):
  DI w h c (Qk a ou l crew t).1 nx l (Qk a ou l crew t).2.2.1 (x++(dN (Qk a ou l crew t).2.2.2++y)):=by
 have hT:=d.tk t (AAS _ AAg);unfold Qk;by_cases h2:t.2.2.2=2
 ·rw[AAP h2];exact d.nD ht d.st (λ_=>rfl) d.hm (s:=3) ⟨J,J⟩ (λr=>⟨rfl,rfl⟩) λr hr=>⟨rfl,rfl,No,No⟩
 ·rw[AAQ h2];by_cases h3:t.2.2.2=3
  ·rw[AAP h3];obtain⟨g1,g2,g3⟩:=ZN d.st (P5 l t);refine d.nD ht g1 g2 (λp hp=>?_) (s:=4) ⟨J,J⟩ (λr=>⟨rfl,rfl⟩) λr hr=>⟨rfl,?_,No,No⟩
   ·obtain⟨q,hq,e⟩:=g3 p hp;rw[e];exact d.hm q hq
   ·obtain⟨r',q1,_,q3⟩:=hT.ea ht;grind
  ·rw[AAQ h3];exact d.gone ht (λr=>⟨rfl,rfl⟩) λr=>⟨rfl,No,No⟩
abbrev pF:=It×By×ADX×AAH×By
def TW(crew:ADX)(t:P6):Bool := !(t.2.2.2==1)&&match Tb crew t.2.2.1 with
 |some r=>r.2.1==r.2.2.1
 |none=>false
def Re(l:ADY)(t:P6)(s:pF):pF:=
 if TW s.2.2.1 t=true then
  ((Qk s.1 s.2.1 l s.2.2.1 t).1,(Qk s.1 s.2.1 l s.2.2.1 t).2.1,(Qk s.1 s.2.1 l s.2.2.1 t).2.2.1,s.2.2.2.1++dN (Qk s.1 s.2.1 l s.2.2.1 t).2.2.2,match(Qk s.1 s.2.1 l s.2.2.1 t).2.2.2 with|some _=>s.2.2.2.2|none=>s.2.2.2.2++[t.1])
 else(s.1,s.2.1,s.2.2.1,s.2.2.2.1++[t],s.2.2.2.2)
def Q5(l:ADY)(ts:AAH)(s:pF):pF:=ts.foldl (λs t=>Re l t s) s
theorem DI.Q5{w h:Int}{c:By}{nx:Int}{l:ADY}:∀(ts:AAH)(s:pF),DI w h c s.1 nx l s.2.2.1 (s.2.2.2.1++ts)->DI w h c (Q5 l ts s).1 nx l (Q5 l ts s).2.2.1 (Q5 l ts s).2.2.2.1
 | [],s,d=>by rw[ABn]at d;exact d
 |t::ts,s,d=>by
  have hstep:DI w h c (Re l t s).1 nx l (Re l t s).2.2.1 ((Re l t s).2.2.2.1++ts):=by
   unfold Re;by_cases hg:TW s.2.2.1 t=true
   ·rw[AAP hg]
    have ht:t.2.2.2≠1:=λe=>by unfold TW at hg;rw[show(t.2.2.2==1)=true from AAT.2 e]at hg;simp at hg
    have:=d.jr ht s.2.1;grind
   ·grind
  exact DI.Q5 ts (Re l t s) hstep
def Ro(l:ADY)(id:Int):Bool:=match Qo l id with
 |some o=>o.2.2.2.2==1
 |none=>false
def oS(ts:AAH)(ended:By)(l:ADY):ADY:=ended.foldl (λl id=>bif(ts.any λt=>t.1==id) || !Ro l id then l else RW l id 2) l
theorem DI.fin{w h:Int}{c:By}{a:It}{nx:Int}{crew:ADX}{ts:AAH}:∀(ended:By)(l:ADY),DI w h c a nx l crew ts->DI w h c a nx (oS ts ended l) crew ts
 | [],_,d=>d
 |id::ended,l,d=>by
  have hstep:DI w h c a nx (bif(ts.any λt=>t.1==id) || !Ro l id then l else RW l id 2) crew ts:=by
   cases hb:(ts.any λt=>t.1==id) || !Ro l id with
   |true=>exact d
   |false=>
    rw[ABV];have hno:=(AAj.1 hb).1;refine d.Ds d.st (λ_=>rfl) d.hm ⟨J,J⟩ (List.Sublist.refl ts) λt ht e=>?_;grind
  exact DI.fin ended _ hstep
def R9(a:It)(ou:By)(l:ADY)(crew:ADX)(ts:AAH):It×By×ADY×ADX×AAH:=
 ((Q5 l ts (a,ou,crew,[],[])).1,(Q5 l ts (a,ou,crew,[],[])).2.1,oS (Q5 l ts (a,ou,crew,[],[])).2.2.2.1 (Q5 l ts (a,ou,crew,[],[])).2.2.2.2 l,(Q5 l ts (a,ou,crew,[],[])).2.2.1,(Q5 l ts (a,ou,crew,[],[])).2.2.2.1)
theorem DI.R9{l:ADY}{crew:ADX}(d:DI w h c a nx l crew ts)(ou:By):DI w h c (R9 a ou l crew ts).1 nx (R9 a ou l crew ts).2.2.1 (R9 a ou l crew ts).2.2.2.1 (R9 a ou l crew ts).2.2.2.2:=
 DI.fin _ l (DI.Q5 ts (a,ou,crew,[],[]) d)
theorem VO(crew:ADX)(hl:crew.length<=1048576)(id:Int)(n:Nat)(hn:Ps<=n):(SC n crew id=some (-1)/\∀r∈crew,r.1≠id)\/∃k,∃h:k<crew.length,crew[k].1=id/\SC n crew id=some (k:Int):=by
 have hs:∀(m:Nat)(x:P9),m<crew.length->crew[m]?=some x->Rz crew id (m:Int)=some (bif x.1==id then .inr (.inr (m:Int))else .inl ((m+1:Nat):Int)):=λm x h1 h2=>by
  have hx:crew[m]=x:=by rw[AAI h1]at h2;exact Option.some.inj h2
  simp only[Rz,Pk h1,hx,ABT,Pj h1 (show crew.length<=9223372036854775807 by clear hn;omega)];grind
 unfold SC;by_cases h:∃r∈crew,r.1=id
 ·right;obtain⟨r,hr,e⟩:=h;obtain⟨j,hj,rfl⟩:=ABY.1 hr;obtain⟨i,hi,hP,e2⟩:=ia (Rz crew id) crew (λx=>x.1==id) hs j hj (AAT.2 e) n ADd;grind
 ·left;refine⟨?_,λr hr e=>h ⟨r,hr,e⟩⟩;rcases gK (Rz crew id) crew (λx=>x.1==id) hs (by simp[Rz]) n ADd with e|⟨i,hi,hP,e⟩
  all_goals grind
theorem dz(h:Qe t=true):(1<=t.2.2.2/\t.2.2.2<=4)/\(t.2.2.1=0↔t.2.2.2=1):=by unfold Qe at h;grind
theorem dM(w h:Int)(c:By)(ha:Py a){l:ADY}(hb:XL nx l)(hsm:RZ (nx,l)){crew:ADX}(hc:CW c crew)(ts:AAH)(st ou:By)(nw:Int)(hg:Qe t=true)(n:Nat)(hn:Ps<=n):
  ∃b,Tt n w h c a nx l crew ts st ou nw t.1 t.2.1 t.2.2.1 t.2.2.2=some b/\(b=true↔Ua a l crew t):=by
 have hal:=ha.1;have hcl:=hc.n20;obtain⟨⟨s1,s4⟩,hrz⟩:=dz hg;cases ho:Qo l t.1 with
 |none=>
  have hm:∀x∈l,x.1≠t.1:=λx hx e=>AEB
  refine⟨false,?_,(λe=>by cases e),λhT=>?_⟩
  ·unfold Tt;rw[Vr nx l hsm.1 t.1 hm n hn];rfl
  ·obtain⟨o,e,_⟩:=hT.ord;grind
 |some o=>
  obtain⟨hom,hoe⟩:=RH ho;obtain⟨i,hi,rfl⟩:=ABY.1 hom;have hat:=Zp nx l hsm.1 hb.2.2.1 i hi n hn;rw[hoe]at hat;have hpl:l[i].2.2.2.1.length<=1048576:=(hsm.2 _ hom).2
  have hplen:(Tu l[i].2.2.2.1).length<=1048576:=by have:=Yu l[i].2.2.2.1 [];unfold Tu;simp only[List.length_nil]at this;clear hn;omega
  have hpo:=Ze l[i].2.2.2.1 hpl n hn;have hhi:Q7 n (Tu l[i].2.2.2.1) t.2.1=some ((Tu l[i].2.2.2.1).any λx=>x==t.2.1):=by rw[VL];exact QU _ hplen _ n hn
  have hpx:=RE a J t.2.1 n hn;unfold Tt;rw[hat,ABT,show decide ((i:Int)<0)=false by grind,ABV];simp only[Pk hi,ABT,W0,hpx.1,hpo,hhi];by_cases hst:l[i].2.2.2.2=1
  case neg=>
   rw[show(l[i].2.2.2.2 != 1)=true from AB2.2 hst];refine⟨false,rfl,(λe=>by cases e),λhT=>?_⟩;obtain⟨o2,e,e2,_⟩:=hT.ord;grind
  rw[show(l[i].2.2.2.2 != 1)=false by rw[hst];rfl,ABV];rcases hpx.2 with⟨e,hno⟩|⟨j,hj,e,ej⟩
  ·rw[e];refine⟨false,rfl,(λe=>by cases e),λhT=>?_⟩;obtain⟨q,hq⟩:=hT.Pu;exact(hno q (UL hq).1 (UL hq).2).elim
  rw[e,show decide ((j:Int)<0)=false by grind,ABV,ABT];cases hany:(Tu l[i].2.2.2.1).any (λx=>x==t.2.1)with
  |false=>
   refine⟨false,rfl,(λe=>by cases e),λhT=>?_⟩;obtain⟨o2,e,_,p,hp,ep⟩:=hT.ord;rw[ho]at e;injection e with e
   rw[<-e]at hp;rw[<-ABw]at hany;exact(hany (AA3.2 ⟨_,Yv.2 ⟨p,hp,rfl⟩,AAT.2 ep⟩)).elim
  |true=>
   obtain⟨y,hy,ey⟩:=AA3.1 hany;obtain⟨p,hp,ep⟩:=Yv.1 hy;have hord:∃o,Qo l t.1=some o/\o.2.2.2.2=1/\∃p∈o.2.2.2.1,p.1=t.2.1:=⟨_,ho,hst,p,hp,ep.trans (AAT.1 ey)⟩;have hpod:∃q,Yt a t.2.1=some q:=ZG ⟨_,ABW hj,ej⟩;rw[ABc,ABV];by_cases hr0:t.2.2.1=0
   ·rw[show(t.2.2.1==0)=true from AAT.2 hr0,ABU];exact⟨true,rfl,λ_=>⟨hord,hpod,λe=>(e (hrz.1 hr0)).elim⟩,λ_=>rfl⟩
   ·rw[show(t.2.2.1==0)=false from ABa.2 hr0,ABV];have hst1:t.2.2.2≠1:=λe=>hr0 (hrz.2 e)
    have hgoal:Tr n w h c a nx l crew ts st ou nw t.1 t.2.1 t.2.2.1 t.2.2.2=some (Uc a l t):=by
     unfold Tr;by_cases h3:t.2.2.2=3
     ·rw[show(t.2.2.2==3)=true from AAT.2 h3,ABU,hat,ABT,Pk hi,ABT];unfold Uc;grind
     ·rw[show(t.2.2.2==3)=false from ABa.2 h3,ABV,W0,hpx.1,e,ABT,Pk hj,ABT,bW ha h3 hj ej]
    rcases VO crew J t.2.2.1 n hn with⟨e1,hno⟩|⟨k,hk,ek,e1⟩
    ·rw[e1];refine⟨false,rfl,(λe=>by cases e),λhT=>?_⟩;obtain⟨r,q1,_⟩:=hT.ea hst1;exact(hno r (QK q1).1 (QK q1).2).elim
    ·have hro:=X6 hc.ids hk;rw[ek]at hro;rw[e1,ABT,show decide ((k:Int)>=0)=true by rw[AAf];clear hn;omega,ABU];simp only[Pk hk,ABT,hgoal]
     have hT:Ua a l crew t↔crew[k].2.2.1=Uc a l t/\crew[k].2.2.2.1=decide (2<t.2.2.2):=by
      constructor
      ·intro hT;obtain⟨r,q1,q2,q3⟩:=hT.ea hst1;rw[hro]at q1;injection q1 with q1
       rw[q1];exact⟨q2,q3⟩
      ·rintro ⟨q2,q3⟩
       exact⟨hord,hpod,λ_=>⟨_,hro,q2,q3⟩⟩
     grind
theorem DI.new(zh:aI w h c a=true):DI w h c a 1 [] (Sz (QZ c) (min (QZ c).length 20)) []:=by obtain⟨hf,hk,h0,hho⟩:=cu zh;refine {fl:=hf,st:=QS.1 hk,hm:=λp hp=>?_,bk:=⟨⟨J,J⟩,OF,List.Pairwise.nil,(λo ho=>by cases ho)⟩,Kc:=(λo ho=>by cases ho),eQ:=(λo ho=>by cases ho),dk:=(λo ho=>by cases ho),cw:=pv c,XJ:=Q6.2 ⟨OF,(λx hx=>by cases hx),List.Pairwise.nil⟩,tk:=(λt ht=>by cases ht) };obtain⟨h1,h2⟩:=hho p hp;unfold Qy;grind
def Ti(l:By):Prop:=l.length=51/\(∀x∈l,0<=x/\x<=1000000)/\l[0]?=some 0
def cf(l:By)(i:Nat):Bool:=match l[i]? with
 |some x=>Qg x 0 1000000&&(!((i:Int)==0)||x==0)
 |none=>false
theorem YO{a b c:Int}:Qg a b c=true↔b<=a/\a<=c:=by unfold Qg;grind
theorem db{l:By}:((List.range l.length).all (cf l)&&((l.length:Int)==51))=true↔Ti l:=by
 rw[AAJ,AAW,AAT]
 have hat:∀i (hi:i<l.length),cf l i=true↔(0<=l[i]/\l[i]<=1000000)/\(i=0->l[i]=0):=λi hi=>by unfold cf;rw[AAI hi];simp only[AAJ,YO,AAe,AAU,ABa,AAT];omega
 constructor
 ·rintro ⟨h1,h2⟩
  have h51:l.length=51:=J
  have hi:=λi (hi:i<l.length)=>(hat i hi).1 (h1 i (AAX.2 hi));refine⟨h51,λx hx=>?_,?_⟩
  ·obtain⟨i,hi2,rfl⟩:=ABY.1 hx;exact(hi i hi2).1
  grind
 ·rintro ⟨h1,h2,h3⟩
  grind
theorem YN(l:By)(hl:l.length<=1048576)(n:Nat)(hn:Ps<=n):Uf n l=some ((List.range l.length).all (cf l)&&((l.length:Int)==51)):=by
 have h1:=RQ (UH l) (λk=>(k:Int)) l.length (cf l) (λi hi=>by
  unfold UH cf;dsimp only;rw[show decide ((i:Int)<(l.length:Int))=true by rw[AAf];clear hn;omega,AAI hi];simp only[ABU,Pk hi,ABT,V9,Q8,Pj hi (show l.length<=9223372036854775807 by clear hn;omega),bne];cases Qg l[i] 0 1000000<;>cases((i:Int)==0)<;>cases(l[i]==0)<;>rfl) (by unfold UH;simp) n ADd
 rw[show((0:Nat):Int)=0 from rfl]at h1;unfold Uf;grind
structure ml(w h:Int)(c:By)(a:It)(nx:Int)(l:ADY)(crew:ADX)(ts:AAH)(st ou:By)(nw:Int):Prop where
 fl:P3 w h c=true
 oC:Py a
 bk:XL nx l
 cw:CW c crew
 XJ:TP ts
 c1:Ti st
 c2:Ti ou
 now:0<=nw/\nw<=1000000
 tk:∀t∈ts,Ua a l crew t
theorem WE(w h:Int)(c:By)(hc:c.length<=1048576)(a:It)(ha:P4 a)(nx:Int)(l:ADY)(hl:RZ (nx,l))(crew:ADX)(hcr:crew.length<=1048576)(ts:AAH)(hts:ts.length<=1048576)(st ou:By)(hst:st.length<=1048576)(hou:ou.length<=1048576)(nw:Int)(n:Nat)(hn:Ps<=n):
  ∃b,SA n w h c a nx l crew ts st ou nw=some b/\(b=true↔ml w h c a nx l crew ts st ou nw):=by
 obtain⟨bb,eb,ib⟩:=XF hl n hn;unfold SA;rw[Yn,QT w h c hc n hn,Qq a ha n hn,eb,Vc w h c hc crew hcr n hn,ZQ ts hts n hn,YN st hst n hn,YN ou hou n hn];simp only[ABT,V9,Q8];have no:∀ {P:Prop},¬P->∃b,(some false:Option Bool)=some b/\(b=true↔P):=λhp=>⟨false,rfl,(λe=>by cases e),λq=>(hp q).elim⟩;cases e1:P3 w h c with
 |false=>exact no λd=>by rw[d.fl]at e1;cases e1
 |true=>
 cases e2:QP a with
 |false=>exact no λd=>by rw[QS.2 d.oC]at e2;cases e2
 |true=>
 cases e3:bb with
 |false=>exact no λd=>by rw[ib.2 d.bk]at e3;cases e3
 |true=>
 cases e4:Tl w h c crew with
 |false=>exact no λd=>by rw[WB.2 ⟨d.fl,d.cw⟩]at e4;cases e4
 |true=>
 cases e5:SU ts with
 |false=>exact no λd=>by rw[W9.2 d.XJ]at e5;cases e5
 |true=>
 cases e6:((List.range st.length).all (cf st)&&((st.length:Int)==51))with
 |false=>exact no λd=>by rw[db.2 d.c1]at e6;cases e6
 |true=>
 cases e7:((List.range ou.length).all (cf ou)&&((ou.length:Int)==51))with
 |false=>exact no λd=>by rw[db.2 d.c2]at e7;cases e7
 |true=>
 cases e8:Qg nw 0 1000000 with
 |false=>exact no λd=>by rw[YO.2 d.now]at e8;cases e8
 |true=>
 have hS:=QS.1 e2;have hB:=ib.1 e3;have hC:=(WB.1 e4).2;have hT:=W9.1 e5;have hgood:=(Q6.1 hT).2.1;simp only[ABc,ABV,ABT]
 let val:Nat->Bool:=λi=>match ts[i]? with
  |some t=>(Tt n w h c a nx l crew ts st ou nw t.1 t.2.1 t.2.2.1 t.2.2.2).getD false
  |none=>false
 have hval:∀i (hi:i<ts.length),Tt n w h c a nx l crew ts st ou nw ts[i].1 ts[i].2.1 ts[i].2.2.1 ts[i].2.2.2=some (val i)/\(val i=true↔Ua a l crew ts[i]):=λi hi=>by obtain⟨b,e,ib⟩:=dM w h c hS hB hl hC ts st ou nw (hgood _ (ABW hi)) n hn;grind
 have h1:=RQ (Uv n w h c a nx l crew ts st ou nw) (λk=>(k:Int)) ts.length val (λi hi=>by
  unfold Uv;rw[show decide ((i:Int)<(ts.length:Int))=true by rw[AAf];clear hn;omega,ABU,Pk hi,ABT,(hval i hi).1,ABT,Pj hi (show ts.length<=9223372036854775807 by clear hn;omega)];grind) (by unfold Uv;simp) n ADd
 rw[show((0:Nat):Int)=0 from rfl]at h1;rw[h1];refine⟨(List.range ts.length).all val,No,?_⟩;rw[AAW];constructor
 ·intro q;refine⟨e1,hS,hB,hC,hT,db.1 e6,db.1 e7,YO.1 e8,λt ht=>?_⟩;obtain⟨i,hi,rfl⟩:=ABY.1 ht;grind
 ·intro d i hi;have hi:=AAX.1 hi;exact(hval i hi).2.2 (d.tk _ (ABW hi))
def VV(a b:It):Prop:=Py b/\Xs a b/\∀p∈b,∃q∈a,p.2.1=q.2.1
theorem VV.refl(h:Py a):VV a a:=⟨h,λ_=>rfl,λp hp=>⟨p,hp,rfl⟩⟩
theorem VV.trans{b d:It}(h:VV a b)(g:VV b d):VV a d:=⟨g.1,λid=>(g.2.1 id).trans (h.2.1 id),λp hp=>by
 obtain⟨q,hq,e⟩:=g.2.2 p hp;obtain⟨r,hr,e2⟩:=h.2.2 q hq;grind⟩
theorem mu{d:Int}(h:Py (Ww a Pu k d)):VV a (Ww a Pu k d):=⟨h,cH a Pu _,λp hp=>eB hp⟩
theorem ox(h:Py a)(Pu k m:Int):VV a (Zr a Pu k m).1:=by
 have ho:=lB h Pu k m;unfold Zr at ho ⊢;split
 ·exact VV.refl h
 ·rename_i hc;rw[AAQ hc]at ho;split
  ·exact VV.refl h
  ·rename_i zA;rw[AAQ zA]at ho;exact mu ho
theorem oQ{f:It->Ph->It×Int}(hf:∀s p,Py s->VV s (f s p).1)(h:Py a)(ps:AAB):VV a (RT f a ps).1:=
 kh (P:=λs=>VV a s) (λs p hs=>hs.trans (hf s p hs.1)) (VV.refl h) ps
theorem mT(h:Py a)(ps:AAB):VV a (RT cF a ps).1:=oQ (λs p hs=>ox hs _ _ _) h ps
def cW(a:It)(Pu:Int):Nat:=match a[(SO a Pu).toNat]? with
 |some p=>p.2.2.length
 |none=>0
def UY(a:It)(Pu k m:Int):It×Int:=if QQ a Pu k m≠0 then(a,QQ a Pu k m)
 else if(Rr a Pu k).2.1+m>1000\/((Rr a Pu k).2.1=0/\cW a Pu=8)then(a,4)
 else(fi a Pu (k,(Rr a Pu k).2.1+m,(Rr a Pu k).2.2),0)
theorem kz(h:Py a)(Pu k m:Int):VV a (UY a Pu k m).1:=by
 unfold UY;split
 ·exact VV.refl h
 ·rename_i hc;split
  ·exact VV.refl h
  ·rename_i hno;obtain⟨_,hk,hm,i,hi,e1,e2,e3⟩:=Qn (by omega:QQ a Pu k m=0);refine⟨?_,cH a Pu _,λp hp=>eB hp⟩;refine fK h Pu _ λp hp ep=>?_;have:p=a[i]:=W4 h hi hp (ep.trans e2.symm);subst this;have hst:=(h.2.2 _ (ABW hi)).2.2;obtain⟨b1,b2,b3,b4,b5⟩:=Sv hst k;unfold cW at hno;rw[e1,ABX,AAI hi,e3]at hno;rw[e3];dsimp only at hno;refine je hst (λzD=>?_) ?_
   ·grind
   ·by_cases hz:∃z∈a[i].2.2,z.1=k
    ·grind
    ·have h0:=Rq (l:=a[i].2.2) (k:=k) λx hx e=>hz ⟨x,hx,e⟩;rw[h0]at hno;dsimp only at hno;have h8:=hst.2.2;omega
theorem kK{l:ADY}{o:QH}(h:Qo l id=some o)(hs:o.2.2.2.2=1)(hp:l.Pairwise λa b=>a.1<b.1):Qo (Rt l) id=some o:=by
 obtain⟨hm,e⟩:=RH h
 have hmo:o∈Rt l:=by unfold Rt;exact ABm.2 ⟨hm,AAT.2 hs⟩
 cases hq:Qo (Rt l) id with
 |none=>
  unfold Qo at hq;grind
 |some q=>
  obtain⟨h1,h2⟩:=RH hq;unfold Rt at h1;have hqm:=(ABm.1 h1).1
  have:q=o:=by
   obtain⟨i,hi,rfl⟩:=ABY.1 hqm;obtain⟨j,hj,rfl⟩:=ABY.1 hm;rcases ABg i j with hl|hl|hl
   ·have:=ABR.1 hp i j hi hj hl;omega
   ·subst hl;rfl
   ·have:=ABR.1 hp j i hj hi hl;omega
  rw[this]
theorem DI.lK{l:ADY}{crew:ADX}(d:DI w h c a nx l crew ts):DI w h c a nx (Rt l) crew ts:=by
 obtain⟨b1,b2,b3,b4⟩:=d.bk
 have hm:∀o∈Rt l,o∈l:=λo ho=>by unfold Rt at ho;grind
 have key:∀t∈ts,Ua a (Rt l) crew t:=λt ht=>by have hT:=d.tk t ht;obtain⟨o,ho,hs,_⟩:=hT.ord;exact hT.same (λ_=>rfl) ((kK ho hs b3).trans ho.symm)
 exact { d with bk:=⟨b1,by unfold Rt;grind,by unfold Rt;grind,λo ho=>b4 o (hm o ho)⟩,Kc:=λo ho=>d.Kc o (hm o ho),eQ:=λo ho=>d.eQ o (hm o ho),dk:=λo ho=>d.dk o (hm o ho),tk:=key }
theorem DI.home{l:ADY}{crew:ADX}(d:DI w h c a nx l crew ts){b:It}(hb:VV a b):∀p∈b,Qy c p.2.1=true:=λp hp=>by obtain⟨q,hq,e⟩:=hb.2.2 p hp;rw[e];exact d.hm q hq
theorem DI.back{l:ADY}{crew:ADX}(d:DI w h c a nx l crew ts)(id:Int)(ps:AAB):DI w h c (RT cF a ps).1 nx (RW l id 3) crew (ts.filter λt => !(t.1==id)):=by have hb:=mT d.st ps;refine d.Ds hb.1 hb.2.1 (d.home hb) ⟨J,J⟩ List.filter_sublist λt ht e=>?_;grind
theorem DI.iE{l:ADY}{crew:ADX}(d:DI w h c a nx l crew ts)(Pu k m:Int):DI w h c (UY a Pu k m).1 nx l crew ts:=by have hb:=kz d.st Pu k m;exact d.tJ hb.1 hb.2.1 (d.home hb)
theorem iu(n:Nat)(hn:Ps<=n){i q:Int}(hcu:Cu b i)(id home:Int):Ok (iter n (XI) (1,b,i,q,id,home,([]:AAB))) λx=>(VU x.2.2.2.2.2.2/\∀y∈x.2.2.2.2.2.2,y.2.2=0)/\x.2.2.2.2.1=id/\x.2.2.2.2.2.1=home/\Cu x.2.1 x.2.2.1:=by
 refine Ok.iter (λk x=>x.1+(k:Int)=5/\1<=x.1/\x.2.2.2.2.2.2.length+k<=4/\(x.2.2.2.2.2.2.Pairwise (λa b=>a.1<b.1)/\∀y∈x.2.2.2.2.2.2,1<=y.1/\y.1<x.1/\1<=y.2.1/\y.2.1<=5/\y.2.2=0)/\x.2.2.2.2.1=id/\x.2.2.2.2.2.1=home/\Cu x.2.1 x.2.2.1) (λk x hx=>?_) (k:=4) ⟨OF,OF,OF,⟨List.Pairwise.nil,(λy hy=>by cases hy)⟩,rfl,rfl,hcu⟩ ADd;obtain⟨h1,h0,h2,⟨h4,h5⟩,h6,h7,h3⟩:=hx;unfold XI;refine Ok.cond (λhb=>?_) λhb=>Ok.pure (.inr ⟨_,rfl,⟨⟨h4,λy hy=>?_,by show x.2.2.2.2.2.2.length<=8;clear hn;omega⟩,λy hy=>(h5 y hy).2.2.2.2⟩,h6,h7,h3⟩)
 ·have hb:=AAs hb;refine Ok.bind (P:=λz=>(z.2.2.2.2.2.length<=x.2.2.2.2.2.2.length+1/\z.2.2.2.2.2.Pairwise (λa b=>a.1<b.1)/\∀y∈z.2.2.2.2.2,1<=y.1/\y.1<x.1+1/\1<=y.2.1/\y.2.1<=5/\y.2.2=0)/\z.2.2.2.1=id/\z.2.2.2.2.1=home/\Cu z.1 z.2.1) ((ok_int h3 OF).bind λv hv=>Ok.cond (λhg=>Ok.guard (Ru ADb) (Ok.pure ⟨⟨by show(x.2.2.2.2.2.2++[_]).length<=_;simp,?_,λy hy=>?_⟩,h6,h7,hv.1⟩)) λ_=>Ok.pure ⟨⟨by show x.2.2.2.2.2.2.length<=_;omega,h4,λy hy=>?_⟩,h6,h7,hv.1⟩) λz hz=>Ok.pure (.inl ⟨_,rfl,k-1,⟨?_,?_,?_,⟨hz.1.2.1,λy hy=>?_⟩,hz.2.1,hz.2.2.1,hz.2.2.2⟩,ADb⟩)
  ·refine ABp.2 ⟨h4,List.pairwise_singleton _ _,λy hy z hz=>?_⟩;rw[AA5.1 hz];exact(h5 y hy).2.1
  ·rcases ABL.1 hy with hy|hy
   ·obtain⟨g1,g2,g3,g4,g5⟩:=h5 y hy;exact⟨g1,ADb,g3,g4,g5⟩
   ·rw[AA5.1 hy];have hg:=AAs hg;have hm:=hv.2;simp only[AAd,List.not_mem_nil,or_false]at hm;refine⟨h0,by show x.1<x.1+1;clear hn;omega,by show 1<=v.1;clear hn;omega,by show v.1<=5;clear hn;omega,rfl⟩
  ·obtain⟨g1,g2,g3,g4,g5⟩:=h5 y hy;exact⟨g1,ADb,g3,g4,g5⟩
  ·show Pn (x.1+1)+_=_;rw[Pr ADb ADb];clear hn;omega
  ·show 1<=Pn (x.1+1);rw[Pr ADb ADb];clear hn;omega
  ·have:=hz.1.1;show z.2.2.2.2.2.length+(k-1)<=4;clear hn;omega
  ·obtain⟨g1,g2,g3,g4,g5⟩:=hz.1.2.2 y hy;refine⟨g1,?_,g3,g4,g5⟩;show y.1<Pn (x.1+1);rw[Pr ADb ADb];exact g2
 grind
theorem iq(n:Nat)(hn:Ps<=n){i q:Int}(hcu:Cu b i)(w h:Int)(c:By)(hf:P3 w h c=true):Ok (Xl n b i q w h c) λx=>aI w h c x.1=true/\Cu x.2.1 x.2.2.1:=by
 have h100:=(WC hf).le;have hc:c.length<=1048576:=ADb
 unfold Xl;rw[WN w h c hc hf 2 n hn,ABT]
 refine Ok.bind (P:=λz=>(z.2.2.2.2.length<=8/\z.2.2.2.2.length<=(Qx c 2 c.length).length/\∀(j:Nat)(hj:j<z.2.2.2.2.length),z.2.2.2.2[j].1=(j:Int)+1/\z.2.2.2.2[j].2.1=(Qx c 2 c.length).getD j 0/\VU z.2.2.2.2[j].2.2/\∀y∈z.2.2.2.2[j].2.2,y.2.2=0)/\Cu z.2.1 z.2.2.1)
  (Ok.iter (λk x=>x.1+(k:Int)=8/\0<=x.1/\(x.2.2.2.2.length:Int)=x.1/\(x.2.2.2.2.length<=(Qx c 2 c.length).length/\∀(j:Nat)(hj:j<x.2.2.2.2.length),x.2.2.2.2[j].1=(j:Int)+1/\x.2.2.2.2[j].2.1=(Qx c 2 c.length).getD j 0/\VU x.2.2.2.2[j].2.2/\∀y∈x.2.2.2.2[j].2.2,y.2.2=0)/\Cu x.2.1 x.2.2.1) (λk x hx=>?_) (k:=8) ⟨OF,OF,OF,⟨OF,λj hj=>ADu⟩,hcu⟩ ADd) λz hz=>Ok.pure ⟨?_,hz.2⟩
 ·obtain⟨h1,h0,h2,⟨h4,h5⟩,h3⟩:=hx;unfold ZV;refine Ok.bind (P:=λv=>v=true->x.1<((Qx c 2 c.length).length:Int)/\x.1<8) (Ok.cond (λhb=>Ok.pure λe=>⟨AAs hb,AAs e⟩) λ_=>Ok.pure λe=>by cases e) λv hv=>Ok.cond (λhb=>?_) λhb=>Ok.pure (.inr ⟨_,rfl,⟨No,h4,h5⟩,h3⟩);obtain⟨a1,a2⟩:=hv hb;refine Ok.guard (ZC ⟨h0,a1⟩) ((Ok.get J).bind λhm zM=>(iu n hn h3 _ _).bind λu hu=>Ok.guard (Ru J) (Ok.pure (.inl ⟨_,rfl,k-1,⟨?_,?_,?_,⟨?_,λj hj=>?_⟩,hu.2.2.2⟩,J⟩)))
  ·show Pn (x.1+1)+_=_;rw[Pr ADb ADb];omega
  ·show 0<=Pn (x.1+1);rw[Pr ADb ADb];omega
  ·show(((x.2.2.2.2++[_]).length:Nat):Int)=Pn (x.1+1);rw[Pr ADb ADb,AAz,ABb];omega
  ·grind
  ·have hj2:j<x.2.2.2.2.length+1:=by have:=hj;change j<(x.2.2.2.2++[_]).length at this;rw[AAz,ABb]at this;exact this
   show(x.2.2.2.2++[(u.2.2.2.2.1,u.2.2.2.2.2.1,u.2.2.2.2.2.2)])[j].1=_/\(x.2.2.2.2++[(u.2.2.2.2.1,u.2.2.2.2.2.1,u.2.2.2.2.2.2)])[j].2.1=_/\VU (x.2.2.2.2++[(u.2.2.2.2.1,u.2.2.2.2.2.1,u.2.2.2.2.2.2)])[j].2.2/\∀y∈(x.2.2.2.2++[(u.2.2.2.2.1,u.2.2.2.2.2.1,u.2.2.2.2.2.2)])[j].2.2,y.2.2=0;rw[List.getElem_append];by_cases e:j<x.2.2.2.2.length
   ·grind
   ·rw[dif_neg e];have ej:j=x.2.2.2.2.length:=ADb
    simp only[List.getElem_singleton];refine⟨?_,?_,hu.1.1,hu.1.2⟩
    ·rw[hu.2.1,Pr ADb ADb];clear hn;omega
    grind
 ·obtain⟨⟨z1,z2,z3⟩,_⟩:=hz;have hpw:=bS c 2 c.length
  have zP:∀(j:Nat)(hj:j<z.2.2.2.2.length),∃m:Nat,z.2.2.2.2[j].2.1=(m:Int)/\m<c.length/\c.getD m 0=2:=λj hj=>by
   have hj2:j<(Qx c 2 c.length).length:=ADb
   rw[(z3 j hj).2.1,show(Qx c 2 c.length).getD j 0=(Qx c 2 c.length)[j] by simp[hj2]];exact Xt (ABW hj2)
  have hS:Py z.2.2.2.2:=by
   refine⟨J,ABR.2 λa b ha hb hab=>?_,λp hp=>?_⟩
   ·have q1:=z3 a ha;have q2:=z3 b hb;have hal:a<(Qx c 2 c.length).length:=ADb
    have hbl:b<(Qx c 2 c.length).length:=ADb
    have zA:=ABR.1 hpw a b hal hbl hab;grind
   ·obtain⟨j,hj,rfl⟩:=ABY.1 hp;grind
  show aI w h c z.2.2.2.2=true;unfold aI;rw[hf,QS.2 hS];simp only[ABx,AAJ,AAW,AAX];refine⟨λj hj=>?_,λj hj=>?_⟩
  ·unfold Y4;grind
  ·obtain⟨m,e,hm,h2⟩:=zP j hj;unfold aW;rw[AAI hj];dsimp only;rw[e,show(m:Int).toNat=m by clear hn;omega,h2];unfold Qg;grind
abbrev wg:=It×By×ADX×AAH×ADY
theorem Ti.set{l:By}(h:Ti l)(hi:0<i){x:Int}(hx:0<=x/\x<=1000000):Ti (l.set i x):=by
 obtain⟨h1,h2,h3⟩:=h;refine⟨by rw[ACC];exact h1,λy hy=>?_,?_⟩
 all_goals grind
theorem jI:∀(ps:AAB)(ou:By),(∀p∈ps,1<=p.2.1/\1<=p.2.2)->Ti ou->Ti (mN ou ps)
 | [],ou,_,h=>h
 |p::ps,ou,hp,h=>by
  obtain⟨q1,q2⟩:=hp p AAg
  have hstep:Ti (if ou.getD p.2.1.toNat 0+p.2.2<=1000000 then ou.set p.2.1.toNat (ou.getD p.2.1.toNat 0+p.2.2)else ou):=by
   split
   ·rename_i hle
    have h0:0<=ou.getD p.2.1.toNat 0:=by
     rw[List.getD];cases hq:ou[p.2.1.toNat]? with
     |none=>simp
     |some y=>exact(h.2.1 y (AAN hq)).1
    exact h.set J ⟨J,hle⟩
   ·exact h
  exact jI ps _ (λq hq=>hp q (AAM _ hq)) hstep
theorem fg{l:ADY}{crew:ADX}(d:DI w h c a nx l crew ts)(t:P6):∀p∈P5 l t,1<=p.2.1/\1<=p.2.2:=λp hp=>by
 unfold P5 at hp;cases ho:Qo l t.1 with
 |none=>grind
 |some o=>
  rw[ho]at hp;have hpm:=(ABm.1 hp).1;obtain⟨_,_,⟨hI,_⟩,hpg,_⟩:=d.bk.2.2.2 o (RH ho).1;obtain⟨q1,y,hy,e⟩:=hpg.1 p hpm;have:=hI.2.1 y hy;omega
theorem DI.nF{l:ADY}{crew:ADX}(d:DI w h c a nx l crew ts)(t:P6){ou:By}(ho:Ti ou):Ti (Qk a ou l crew t).2.1:=by
 unfold Qk;split
 ·exact ho
 ·split
  ·dsimp only;cases(RT V5 a (P5 l t)).2
   ·exact ho
   ·exact jI _ ou (fg d t) ho
  ·exact ho
theorem DI.fI{w h:Int}{c:By}{nx:Int}{l:ADY}:∀(ts:AAH)(s:pF),DI w h c s.1 nx l s.2.2.1 (s.2.2.2.1++ts)->Ti s.2.1->Ti (N.Q5 l ts s).2.1
 | [],s,_,ho=>ho
 |t::ts,s,d,ho=>by
  have h1:DI w h c (Re l t s).1 nx l (Re l t s).2.2.1 ((Re l t s).2.2.2.1++ts)/\Ti (Re l t s).2.1:=by
   unfold Re;by_cases hg:TW s.2.2.1 t=true
   ·rw[AAP hg]
    have ht:t.2.2.2≠1:=λe=>by unfold TW at hg;rw[show(t.2.2.2==1)=true from AAT.2 e]at hg;simp at hg
    refine⟨?_,d.nF t ho⟩;have:=d.jr ht s.2.1;grind
   ·grind
  exact DI.fI ts (Re l t s) h1.1 h1.2
theorem nB(x:Ph)(m:AAB)(j:Int)(hj:j≠x.1)(hm:∀z∈m,z.1=x.1)(l:AAB)(hp:l.Pairwise λa b=>a.1<b.1):(Vq x l m).find? (λy=>y.1==j)=l.find? (λy=>y.1==j):=by
 have hmn:m.find? (λy=>y.1==j)=none:=ACH.2 λz hz=>by rw[hm z hz];simp;omega
 have h1:(Vq x l m).find? (λy=>y.1==j)=(Vq x l []).find? (λy=>y.1==j):=by unfold Vq;simp only[List.find?_append,hmn,Option.none_or,List.find?_nil]
 rw[h1,<-eT hp,List.find?_filter];grind
theorem iI{l:AAB}(h:VU l)(x:Ph)(hx:x.2.1=0->x.2.2=0)(j:Int):(Px (Yz x l) j).2.1=(if j=x.1 then x.2.1 else(Px l j).2.1)/\(Px (Yz x l) j).2.2=(if j=x.1 then x.2.2 else(Px l j).2.2):=by
 by_cases e:j=x.1
 ·rw[AAP e,AAP e];unfold Yz;by_cases h0:x.2.1=0
  ·rw[show(x.2.1==0)=true from AAT.2 h0,ABU]
   have hno:∀y∈Vq x l [],y.1≠j:=λy hy=>by
    rcases hX hy with hy|hy
    ·rw[e];exact hy.2
    ·cases hy
   rw[Rq hno];grind
  ·rw[show(x.2.1==0)=false from ABa.2 h0,ABV]
   have hf:(Vq x l [x]).find? (λy=>y.1==j)=some x:=by
    unfold Vq
    have h1:(l.filter λy=>decide (y.1<x.1)).find? (λy=>y.1==j)=none:=ACH.2 λz hz=>by have:=AAs (ABm.1 hz).2;simp;omega
    rw[List.find?_append,h1,Option.none_or,ACB,List.find?_cons,e,ABi]
   unfold Px;grind
 ·rw[AAQ e,AAQ e];unfold Px Yz
  rw[nB x _ j e (λz hz=>by
   cases hq:(x.2.1==0)with
   |true=>rw[hq,ABU]at hz;cases hz
   |false=>rw[hq,ABV]at hz;rw[AA5.1 hz]) l h.1]
  omega
def qU(p:Pt)(k:Int):Int:=(Px p.2.2 k).2.1
def tc(p:Pt)(k:Int):Int:=(Px p.2.2 k).2.2
theorem Xr(a:It)(Pu:Int)(f:AAB->AAB):(XB a Pu f).length=a.length:=by unfold XB;grind
theorem oL{f:AAB->AAB}(h:i<(XB a Pu f).length):(XB a Pu f)[i]=(bif(a[i]'(by rw[Xr]at h;exact h)).1==Pu then((a[i]'(by rw[Xr]at h;exact h)).1,(a[i]'(by rw[Xr]at h;exact h)).2.1,f (a[i]'(by rw[Xr]at h;exact h)).2.2)else(a[i]'(by rw[Xr]at h;exact h)):Pt):=ABj _
theorem mS(ha:Py a)(Pu k m:Int)(hc:(UY a Pu k m).2=0):∀i (h:i<a.length) (h2:i<(UY a Pu k m).1.length),(UY a Pu k m).1[i].1=a[i].1/\∀j,tc (UY a Pu k m).1[i] j=tc a[i] j/\qU (UY a Pu k m).1[i] j=qU a[i] j+if a[i].1=Pu/\j=k then m else 0:=by
 unfold UY at hc ⊢;split at hc
 ·omega
 ·rename_i h1;split at hc
  ·simp at hc
  ·rename_i hno;simp only[AAQ h1,AAQ hno];obtain⟨_,hk,hm,i0,hi0,e1,e2,e3⟩:=Qn (by omega:QQ a Pu k m=0);have hst:=(ha.2.2 _ (ABW hi0)).2.2;obtain⟨b1,b2,b3,b4,b5⟩:=Sv hst k;intro q hq hq2;have hat:(fi a Pu (k,(Rr a Pu k).2.1+m,(Rr a Pu k).2.2))[q]=_:=oL (a:=a) (f:=Yz (k,(Rr a Pu k).2.1+m,(Rr a Pu k).2.2)) hq2;rw[hat];by_cases e:a[q].1=Pu
   ·have eq:a[q]=a[i0]:=W4 ha hi0 (ABW hq) (e.trans e2.symm);rw[show(a[q].1==Pu)=true from AAT.2 e,ABU];refine⟨rfl,λj=>?_⟩;obtain⟨s1,s2⟩:=iI (by rw[eq];exact hst:VU a[q].2.2) (k,(Rr a Pu k).2.1+m,(Rr a Pu k).2.2) (λh0=>by dsimp only at h0 ⊢;rw[e3]at h0 ⊢;omega) j;unfold qU tc;dsimp only at s1 s2 ⊢;rw[s1,s2,e3,eq];by_cases ej:j=k
    ·subst ej;rw[AAP rfl,AAP rfl,AAP ⟨e2,rfl⟩];exact⟨rfl,rfl⟩
    ·rw[AAQ ej,AAQ ej,AAQ (λh=>ej h.2),Int.add_zero];exact⟨rfl,rfl⟩
   grind
theorem nt(a:It)(Pu k m:Int):(UY a Pu k m).1.length=a.length:=by
 unfold UY;split
 ·rfl
 ·split
  ·rfl
  ·exact Xr a Pu _
def jG(a:It)(k:Int):Int:=(a.map λp=>qU p k).foldr (· + ·) 0
theorem qa(l:AAB)(k:Int):Tk l k=(Px l k).2.1:=by unfold Tk Px;grind
theorem ck:∀(l:By)(z:Int),l.foldl (· + ·) z=z+l.foldr (· + ·) 0
 | [],z=>OF
 |x::l,z=>by rw[List.foldl_cons,ck l,List.foldr_cons];omega
theorem ko(ha:Py a)(k:Int):Qf a k=jG a k:=by unfold Qf jG;rw[ha.ok,ABU,ck,Int.zero_add];refine congrArg (λl=>List.foldr (· + ·) 0 l) (AB4 λp _=>qa p.2.2 k)
theorem gU(p:Ph)(j:Int):∀(a b:It),b.length=a.length->(∀i (h:i<a.length) (h2:i<b.length),qU b[i] j=qU a[i] j+if p.1=a[i].1/\p.2.1=j then p.2.2 else 0)->jG b j=jG a j+Zn a p j
 | [],b,hl,_=>by have:b=[]:=List.length_eq_zero_iff.1 hl;rw[this];simp[jG,Zn]
 |x::a,[],hl,_=>ADz
 |x::a,y::b,hl,h=>by
  have h0:=h 0 OF OF
  have ih:=gU p j a b No λi hi hi2=>by have:=h (i+1) (by simp;exact hi) (by simp;exact hi2);grind
  simp only[ACO]at h0;unfold jG at ih ⊢;simp only[ABK,List.foldr_cons,Zn];omega
theorem gX{m:Int}(hc:(UY a Pu k m).2=0):QQ a Pu k m=0:=by unfold UY at hc;grind
theorem nR(ha:Py a){m:Int}(hc:(UY a Pu k m).2=0)(j:Int):jG (UY a Pu k m).1 j=jG a j+bif k==j then m else 0:=by
 obtain⟨_,_,_,i,hi,_,e2,_⟩:=Qn (gX hc)
 rw[gU (Pu,k,m) j a _ (nt a Pu k m) λq hq hq2=>by
  rw[((mS ha Pu k m hc q hq hq2).2 j).2];by_cases e:a[q].1=Pu/\j=k
  ·rw[AAP e,AAP ⟨e.1.symm,e.2.symm⟩]
  ·rw[AAQ e,AAQ λh=>e ⟨h.1.symm,h.2.symm⟩]]
 rw[gW (Pu,k,m) j a (ha.2.1.imp λh=>by omega) ⟨_,ABW hi,e2⟩]
end Go.Ev.N
