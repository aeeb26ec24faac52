/- A plain law. Conditions: none. -/
import Derived.Test.YthlchdmdanagkaaGreatFnRunsPureA
set_option linter.all false
namespace Go.Ev.N
open Go Go.Ev
variable {w h k nx id:Int}{c b:By}{β:Type}{i:Nat}{a:Is}{prs:List (Nat×Nat)}{AAI:ADS}{x p:O0}{want:ADT}{o ps:OF}{ts:AAM}{t:PH}
def VA(w h:Int)(c:By)(a:Is)(crew:ADS)(l:AAM):List By:=
 (Pv a l (PO crew l).length).map λt=>(PO crew l).map λk=>RY w h c (X3 crew k).2.1 (Px a (Wp l t).2.1)
def QC(w h:Int)(c:By)(a:Is)(crew:ADS)(l:AAM):It:=pk (PJ (VA w h c a crew l)) (List.range (PO crew l).length)
def Xo(w h:Int)(c:By)(a:Is)(crew:ADS)(l:AAM)(j:Nat):Option (Nat×Nat):=
 if RY w h c (X3 crew ((PO crew l).getD ((QC w h c a crew l).getD j 0) 0)).2.1 (Px a (Wp l ((Pv a l (PO crew l).length).getD j 0)).2.1)<100000
 then some ((Pv a l (PO crew l).length).getD j 0,(PO crew l).getD ((QC w h c a crew l).getD j 0) 0)else none
def Pa(w h:Int)(c:By)(a:Is)(crew:ADS)(l:AAM):List (Nat×Nat):=(List.range (QC w h c a crew l).length).filterMap (Xo w h c a crew l)
def jC(w h:Int)(c:By)(a:Is)(crew:ADS)(l:AAM):Bool:=Pr a&&Sw w h c crew&&Ru l
def iB(w h:Int)(c:By)(a:Is)(crew:ADS)(l:AAM):ADS×AAM:=bif jC w h c a crew l then sendAll a crew l (Pa w h c a crew l)else(crew,l)
theorem pn(hc:c.length<=1048576)(hf:PU w h c=true)(a b:Int):0<=RY w h c a b/\RY w h c a b<=100000:=by obtain⟨_,_,h1,h2⟩:=bT hc hf a b PE (AAi _);unfold RY;omega
theorem eL(hc:c.length<=1048576)(hf:PU w h c=true)(a:Is)(crew:ADS)(l:AAM):CM (VA w h c a crew l) (PO crew l).length:=by
 refine⟨λr hr=>?_,?_,Xh crew l,λr hr x hx=>?_⟩
 ·obtain⟨t,_,rfl⟩:=AAx.1 hr;simp
 ·unfold VA;rw[ABm];exact Y5 a l _ _ _
 ·obtain⟨t,_,rfl⟩:=AAx.1 hr;obtain⟨k,_,rfl⟩:=AAx.1 hx;exact pn hc hf _ _
theorem mC{M:List By}{m:Nat}(hc:CM M m)(n:Nat)(hn:PE<=n):∃s,V5 n M=some (O7 (pk (PJ M) (List.range m)),s):=by
 by_cases h0:M=[]
 ·subst h0;have hc0:CM [] 0:=⟨AAB,AAB,J,AAB⟩;obtain⟨s,s1,_⟩:=WR hc0 (λ_=>rfl) n hn;exact⟨s,s1⟩
 ·obtain⟨s,s1,_⟩:=WR hc (λe=>absurd e h0) n hn;exact⟨s,s1⟩
theorem lM{M:List By}{m:Nat}(hc:CM M m)(n:Nat)(hn:PE<=n):∃s,Xi n M=some (O7 (pk (PJ M) (List.range m)),s)/\V5 n M=some (O7 (pk (PJ M) (List.range m)),s):=by
 by_cases h0:M=[]
 ·subst h0;have hc0:CM [] 0:=⟨AAB,AAB,J,AAB⟩;obtain⟨s,s1,s2⟩:=aD hc0 (λ_=>rfl) n hn;obtain⟨s',s3,s4⟩:=WR hc0 (λ_=>rfl) n hn;rw[s2]at s4;injection s4 with s4
  subst s4;exact⟨s,s1,s3⟩
 ·obtain⟨s,s1,s2⟩:=aD hc (λe=>absurd e h0) n hn;obtain⟨s',s3,s4⟩:=WR hc (λe=>absurd e h0) n hn;grind
theorem VY(F:Nat->β)(s:It):(List.range s.length).map (λi=>F (s.getD i 0))=s.map F:=by apply AB1 AAB;grind
theorem Vw{s:It}(h:i<s.length):ON (O7 s) (i:Int)=true/\(O7 s)[i]?=some ((s.getD i 0:Nat):Int):=by refine⟨O6 (by simpa[O7]using h),?_⟩;unfold O7;grind
theorem VC{s:It}(h:i<s.length):s.getD i 0∈s:=No
theorem YG(ha:a.length<=1048576){l:AAM}{M t:Nat}(h:t∈Pv a l M):t<l.length/\(Wp l t).2.2.2=1/\(Wp l t).2.1∉T9 l/\∃i,∃hi:i<a.length,Rq a (Wp l t).2.1=(i:Int)/\a[i].1=(Wp l t).2.1/\Px a (Wp l t).2.1=a[i].2.1:=by
 obtain⟨_,h2,h3,h4,h5⟩:=fU a l M (T9 l) 0 t h;simp only[Nat.sub_zero]at h2 h3 h4 h5;have e:Wp l t=l[t]:=by unfold Wp;rw[List.getD,AAN h2];rfl
 rw[e];refine⟨h2,h3,h5,?_⟩;rcases(Qg a ha l[t].2.1 PE (AAi _)).2 with⟨q,_⟩|⟨i,hi,q,q2⟩
 ·omega
 ·refine⟨i,hi,q,q2,?_⟩;unfold Px;grind
theorem mA(hc:c.length<=1048576)(hf:PU w h c=true)(ha:a.length<=1048576){crew:ADS}(hcr:crew.length<=1048576){l:AAM}(hl:l.length<=60)(n:Nat)(hn:PE<=n):
  iter n (R9 n w h c a crew l (O7 (PO crew l)) (O7 (Pv a l (PO crew l).length))) ([],0)=some (VA w h c a crew l,((Pv a l (PO crew l).length).length:Int)):=by
 generalize hwho:PO crew l=who;generalize hwhat:Pv a l who.length=what;have h10:who.length<=10:=by rw[<-hwho];exact Xh crew l
 have hwl:what.length<=10:=by rw[<-hwhat];exact AA3 (Y5 a l _ _ _) h10
 have hlw:(O7 who).length=who.length:=by simp[O7]
 have hlt:(O7 what).length=what.length:=by simp[O7]
 have:=Yp (R9 n w h c a crew l (O7 who) (O7 what)) (λi=>who.map λk=>RY w h c (X3 crew k).2.1 (Px a (Wp l (what.getD i 0)).2.1)) what.length (λi hi=>by
  have hd:decide ((i:Int)<((O7 what).length:Int))=true:=by rw[AAk,hlt];clear hn;omega
  obtain⟨t1,t2⟩:=Vw hi;have htm:what.getD i 0∈Pv a l who.length:=by rw[hwhat];exact VC hi
  obtain⟨f1,f2,f3,p,hp,f4,f5,f6⟩:=YG ha htm;generalize what.getD i 0=t at t2 htm f1 f2 f3 f4 f5 f6;generalize hout:(List.range i).map (λi=>who.map λk=>RY w h c (X3 crew k).2.1 (Px a (Wp l (what.getD i 0)).2.1))=out;have hol:out.length=i:=by rw[<-hout];simp
  have hin:=Yp (Tv n w h c a crew l (O7 who) (O7 what) (out,(i:Int))) (λk=>RY w h c (X3 crew (who.getD k 0)).2.1 (Px a (Wp l t).2.1)) who.length (λk hk=>by
   have hd2:decide ((k:Int)<((O7 who).length:Int))=true:=by rw[AAk,hlw];clear hn;omega
   obtain⟨w1,w2⟩:=Vw hk;have hkm:who.getD k 0∈PO crew l:=by rw[hwho];exact VC hk
   obtain⟨g1,g2⟩:=Yu hkm;have hg:Iv crew ((who.getD k 0:Nat):Int)=some (X3 crew (who.getD k 0)):=by rw[Qy];exact jW g1
   have hgt:Iv l ((t:Nat):Int)=some (Wp l t):=by rw[Qy];exact eG f1
   have hgp:Iv a ((p:Nat):Int)=some a[p]:=O3 hp
   have hcost:XS n w h c (X3 crew (who.getD k 0)).2.1 (Px a (Wp l t).2.1)=some (RY w h c (X3 crew (who.getD k 0)).2.1 (Px a (Wp l t).2.1)):=by
    unfold XS RY;rw[(bT hc hf _ _ n hn).1,ABQ];by_cases q:UA w h c (X3 crew (who.getD k 0)).2.1 (Px a (Wp l t).2.1)<0
    ·grind
    ·grind
   have hrow:∀x:Int,decide (((List.range k).map λk=>RY w h c (X3 crew (who.getD k 0)).2.1 (Px a (Wp l t).2.1)).length+[x].length<=E7)=true:=λx=>Re No;simp only[Tv,hd2,ABR,w1,w2,t1,t2,ABU,ABQ,hg,hgt,(Qg a ha _ n hn).1,f4,hgp,<-f6,hcost,hrow,O1 hk (show who.length<=9223372036854775807 by omega)]) (by
   have hd2:decide ((who.length:Int)<((O7 who).length:Int))=false:=by rw[AAs,hlw];clear hn;omega
   simp only[Tv,hd2,ABS]) n ADV
  rw[VY (λk=>RY w h c (X3 crew k).2.1 (Px a (Wp l t).2.1)) who]at hin;have hrow:∀x:By,decide (out.length+[x].length<=E7)=true:=λx=>Re J;simp only[R9,hd,ABR,hin,ABQ,hrow,O1 hi (show what.length<=9223372036854775807 by omega)]) (by
  have hd:decide ((what.length:Int)<((O7 what).length:Int))=false:=by rw[AAs,hlt];clear hn;omega
  simp only[R9,hd,ABS]) n ADV
 rw[this,VY (λt=>who.map λk=>RY w h c (X3 crew k).2.1 (Px a (Wp l t).2.1)) what,<-hwhat,<-hwho];rfl
theorem lT(hc:c.length<=1048576)(hf:PU w h c=true)(ha:a.length<=1048576){crew:ADS}(hcr:crew.length<=1048576){l:AAM}(hl:l.length<=60)(n:Nat)(hn:PE<=n):
  iter n (Rw n w h c a crew l (O7 (PO crew l)) (O7 (Pv a l (PO crew l).length))) ([],0)=some (VA w h c a crew l,((Pv a l (PO crew l).length).length:Int)):=by
 generalize hwho:PO crew l=who;generalize hwhat:Pv a l who.length=what;have h10:who.length<=10:=by rw[<-hwho];exact Xh crew l
 have hwl:what.length<=10:=by rw[<-hwhat];exact AA3 (Y5 a l _ _ _) h10
 have hlw:(O7 who).length=who.length:=by simp[O7]
 have hlt:(O7 what).length=what.length:=by simp[O7]
 have:=Yp (Rw n w h c a crew l (O7 who) (O7 what)) (λi=>who.map λk=>RY w h c (X3 crew k).2.1 (Px a (Wp l (what.getD i 0)).2.1)) what.length (λi hi=>by
  have hd:decide ((i:Int)<((O7 what).length:Int))=true:=by rw[AAk,hlt];clear hn;omega
  obtain⟨t1,t2⟩:=Vw hi;have htm:what.getD i 0∈Pv a l who.length:=by rw[hwhat];exact VC hi
  obtain⟨f1,f2,f3,p,hp,f4,f5,f6⟩:=YG ha htm;generalize what.getD i 0=t at t2 htm f1 f2 f3 f4 f5 f6;generalize hout:(List.range i).map (λi=>who.map λk=>RY w h c (X3 crew k).2.1 (Px a (Wp l (what.getD i 0)).2.1))=out;have hol:out.length=i:=by rw[<-hout];simp
  have hin:=Yp (Tk n w h c a crew l (O7 who) (t:Int)) (λk=>RY w h c (X3 crew (who.getD k 0)).2.1 (Px a (Wp l t).2.1)) who.length (λk hk=>by
   have hd2:decide ((k:Int)<((O7 who).length:Int))=true:=by rw[AAk,hlw];clear hn;omega
   obtain⟨w1,w2⟩:=Vw hk;have hkm:who.getD k 0∈PO crew l:=by rw[hwho];exact VC hk
   obtain⟨g1,g2⟩:=Yu hkm;have hg:Iv crew ((who.getD k 0:Nat):Int)=some (X3 crew (who.getD k 0)):=by rw[Qy];exact jW g1
   have hgt:Iv l ((t:Nat):Int)=some (Wp l t):=by rw[Qy];exact eG f1
   have hgp:Iv a ((p:Nat):Int)=some a[p]:=O3 hp
   have hcost:(bif decide (UA w h c (X3 crew (who.getD k 0)).2.1 (Px a (Wp l t).2.1)<0)then some (100000:Int)else some (UA w h c (X3 crew (who.getD k 0)).2.1 (Px a (Wp l t).2.1)))=some (RY w h c (X3 crew (who.getD k 0)).2.1 (Px a (Wp l t).2.1)):=by
    unfold RY;by_cases q:UA w h c (X3 crew (who.getD k 0)).2.1 (Px a (Wp l t).2.1)<0
    ·grind
    ·grind
   have hrow:∀x:Int,decide (((List.range k).map λk=>RY w h c (X3 crew (who.getD k 0)).2.1 (Px a (Wp l t).2.1)).length+[x].length<=E7)=true:=λx=>Re No;simp only[Tk,Wj,hd2,ABR,w1,w2,ABU,ABQ,hg,hgt,(Qg a ha _ n hn).1,f4,hgp,<-f6,(bT hc hf _ _ n hn).2.1,hcost,hrow,O1 hk (show who.length<=9223372036854775807 by omega)]) (by
   have hd2:decide ((who.length:Int)<((O7 who).length:Int))=false:=by rw[AAs,hlw];clear hn;omega
   simp only[Tk,hd2,ABS]) n ADV
  rw[VY (λk=>RY w h c (X3 crew k).2.1 (Px a (Wp l t).2.1)) who]at hin;have hrow:∀x:By,decide (out.length+[x].length<=E7)=true:=λx=>Re J;simp only[Rw,hd,ABR,t1,t2,ABU,hin,ABQ,hrow,O1 hi (show what.length<=9223372036854775807 by omega)]) (by
  have hd:decide ((what.length:Int)<((O7 what).length:Int))=false:=by rw[AAs,hlt];clear hn;omega
  simp only[Rw,hd,ABS]) n ADV
 rw[this,VY (λt=>who.map λk=>RY w h c (X3 crew k).2.1 (Px a (Wp l t).2.1)) what,<-hwhat,<-hwho];rfl
theorem au(hc:c.length<=1048576)(hf:PU w h c=true)(a:Is)(crew:ADS)(l:AAM):(QC w h c a crew l).length=(Pv a l (PO crew l).length).length/\(QC w h c a crew l).Nodup/\∀k∈QC w h c a crew l,k<(PO crew l).length:=by
 have hcm:=eL hc hf a crew l;obtain⟨p1,p2,p3⟩:=qw (PJ (VA w h c a crew l)) (List.range (PO crew l).length) AB4 (by rw[List.length_range];simpa[PJ]using hcm.nm);refine⟨by unfold QC;rw[p1];simp[PJ,VA],p2,λk hk=>AAc.1 (p3 k hk)⟩
theorem fZ(hc:c.length<=1048576)(hf:PU w h c=true)(ha:a.length<=1048576){crew:ADS}{l:AAM}{j:Nat}(hj:j<(QC w h c a crew l).length):
  ∃(q k t p:Nat) (row:By),(O7 (QC w h c a crew l))[j]?=some (q:Int)/\ON (O7 (QC w h c a crew l)) (j:Int)=true/\ON (O7 (PO crew l)) (q:Int)=true/\(O7 (PO crew l))[q]?=some (k:Int)/\
   ON (VA w h c a crew l) (j:Int)=true/\(VA w h c a crew l)[j]?=some row/\ON row (q:Int)=true/\row[q]?=some (RY w h c (X3 crew k).2.1 (Px a (Wp l t).2.1))/\
   ON (O7 (Pv a l (PO crew l).length)) (j:Int)=true/\(O7 (Pv a l (PO crew l).length))[j]?=some (t:Int)/\k<crew.length/\t<l.length/\
   Rq a (Wp l t).2.1=(p:Int)/\(∃x,Iv a (p:Int)=some x/\x.2.1=Px a (Wp l t).2.1)/\
   Xo w h c a crew l j=if RY w h c (X3 crew k).2.1 (Px a (Wp l t).2.1)<100000 then some (t,k)else none:=by
 obtain⟨c1,c2,c3⟩:=au hc hf a crew l;have hq:=c3 _ (VC hj);have hw:j<(Pv a l (PO crew l).length).length:=J
 obtain⟨a1,a2⟩:=Vw hj;obtain⟨b1,b2⟩:=Vw hq;obtain⟨d1,d2⟩:=Vw hw;obtain⟨f1,f2,f3,p,hp,f4,f5,f6⟩:=YG ha (VC hw);obtain⟨g1,_⟩:=Yu (VC hq);have hM:j<(VA w h c a crew l).length:=by simpa[VA]using hw
 have hrow:(VA w h c a crew l)[j]?=some ((PO crew l).map λk=>RY w h c (X3 crew k).2.1 (Px a (Wp l ((Pv a l (PO crew l).length).getD j 0)).2.1)):=by unfold VA;rw[AAf,AAN hw,List.getD,AAN hw];rfl
 refine⟨(QC w h c a crew l).getD j 0,(PO crew l).getD ((QC w h c a crew l).getD j 0) 0,(Pv a l (PO crew l).length).getD j 0,p,_,a2,a1,b1,b2,O6 hM,hrow,O6 (by simpa using hq),?_,d1,d2,g1,f1,f4,⟨a[p],O3 hp,f6.symm⟩,rfl⟩;grind
theorem iX(a:Is)(crew:ADS)(l:AAM)(w h:Int)(c:By)(j:Nat):sendAll a crew l ((List.range (j+1)).filterMap (Xo w h c a crew l))=match Xo w h c a crew l j with
  |some p=>Q1 a crew l p (sendAll a crew l ((List.range j).filterMap (Xo w h c a crew l)))
  |none=>sendAll a crew l ((List.range j).filterMap (Xo w h c a crew l)):=by
 unfold sendAll;rw[AB3,List.filterMap_append,List.foldl_append];grind
theorem nu(hc:c.length<=1048576)(hf:PU w h c=true)(ha:a.length<=1048576){crew:ADS}(hcr:crew.length<=1048576){l:AAM}(hl:l.length<=60)(s x:Int)(n:Nat)(hn:PE<=n):
  iter n (RA n a l (O7 (PO crew l)) (O7 (Pv a l (PO crew l).length)) (VA w h c a crew l,x) (O7 (QC w h c a crew l),s)) (0,crew,l)=some (((QC w h c a crew l).length:Int),sendAll a crew l (Pa w h c a crew l)):=by
 have h10:=Xh crew l;obtain⟨c1,c2,c3⟩:=au hc hf a crew l;have hcl:(QC w h c a crew l).length<=10:=by rw[c1];exact AA3 (Y5 a l _ _ _) h10
 have:=Pb (RA n a l (O7 (PO crew l)) (O7 (Pv a l (PO crew l).length)) (VA w h c a crew l,x) (O7 (QC w h c a crew l),s)) (λj=>((j:Int),sendAll a crew l ((List.range j).filterMap (Xo w h c a crew l)))) (QC w h c a crew l).length (((QC w h c a crew l).length:Int),sendAll a crew l (Pa w h c a crew l)) (λj hj=>by
  obtain⟨q,k,t,p,row,e1,e2,e3,e4,e5,e6,e7,e8,e9,e10,e11,e12,e13,⟨y,e14,e15⟩,e16⟩:=fZ hc hf ha hj;have hlc:(O7 (QC w h c a crew l)).length=(QC w h c a crew l).length:=by simp[O7]
  have hd:decide ((j:Int)<((O7 (QC w h c a crew l)).length:Int))=true:=by rw[AAk,hlc];clear hn;omega
  rw[iX,e16];have hsi:SI crew l (sendAll a crew l ((List.range j).filterMap (Xo w h c a crew l))):=SI.all _ _ (SI.first crew l);generalize sendAll a crew l ((List.range j).filterMap (Xo w h c a crew l))=st at hsi;obtain⟨cr,tk⟩:=st;have hgt:Iv l (t:Int)=some (Wp l t):=by rw[Qy];exact eG e12
  have hw:O5 ((j:Int)+1)=((j+1:Nat):Int):=O1 hj J;by_cases hcost:RY w h c (X3 crew k).2.1 (Px a (Wp l t).2.1)<100000
  ·rw[AAT hcost];obtain⟨r,r1,r2⟩:=hsi.id k e11;have l1:=hsi.l1;have l2:=hsi.l2;dsimp only at r1 l1 l2;have i1:ON cr (k:Int)=true:=O6 J;have i2:∀f,ON (List.modify cr k f) (k:Int)=true:=λf=>O6 No;have i3:∀f g,ON (List.modify (List.modify cr k f) k g) (k:Int)=true:=λf g=>O6 No;have i4:ON tk (t:Int)=true:=O6 J;have i5:∀f,ON (List.modify tk t f) (t:Int)=true:=λf=>O6 No
   have g1:∀f g,(List.modify (List.modify cr k f) k g)[k]?=some (g (f r)):=λf g=>No
   simp only[RA,hd,ABR,ABU,e1,e2,e3,e4,e5,e6,e7,e8,e9,e10,ABQ,ABW hcost,hgt,(Qg a ha _ n hn).1,e13,e14,e15,i1,i2,i3,i4,i5,g1,hw,Q1,r2]
  ·rw[AAU hcost];simp only[RA,hd,ABR,ABS,ABU,e1,e2,e3,e4,e5,e6,e7,e8,e9,e10,ABQ,ABa hcost,hw]) (by
  have hlc:(O7 (QC w h c a crew l)).length=(QC w h c a crew l).length:=by simp[O7]
  have hd:decide (((QC w h c a crew l).length:Int)<((O7 (QC w h c a crew l)).length:Int))=false:=by rw[AAs,hlc];clear hn;omega
  simp only[RA,hd,ABS];rfl) n ADV
 exact this
theorem nF(hc:c.length<=1048576)(hf:PU w h c=true)(ha:a.length<=1048576){crew:ADS}(hcr:crew.length<=1048576){l:AAM}(hl:l.length<=60)(s x:Int)(n:Nat)(hn:PE<=n):
  iter n (Q9 n a (O7 (PO crew l)) (O7 (Pv a l (PO crew l).length)) (VA w h c a crew l,x) (O7 (QC w h c a crew l),s)) (0,crew,l)=some (((QC w h c a crew l).length:Int),sendAll a crew l (Pa w h c a crew l)):=by
 have h10:=Xh crew l;obtain⟨c1,c2,c3⟩:=au hc hf a crew l;have hcl:(QC w h c a crew l).length<=10:=by rw[c1];exact AA3 (Y5 a l _ _ _) h10
 have:=Pb (Q9 n a (O7 (PO crew l)) (O7 (Pv a l (PO crew l).length)) (VA w h c a crew l,x) (O7 (QC w h c a crew l),s)) (λj=>((j:Int),sendAll a crew l ((List.range j).filterMap (Xo w h c a crew l)))) (QC w h c a crew l).length (((QC w h c a crew l).length:Int),sendAll a crew l (Pa w h c a crew l)) (λj hj=>by
  obtain⟨q,k,t,p,row,e1,e2,e3,e4,e5,e6,e7,e8,e9,e10,e11,e12,e13,⟨y,e14,e15⟩,e16⟩:=fZ hc hf ha hj;have hlc:(O7 (QC w h c a crew l)).length=(QC w h c a crew l).length:=by simp[O7]
  have hd:decide ((j:Int)<((O7 (QC w h c a crew l)).length:Int))=true:=by rw[AAk,hlc];clear hn;omega
  rw[iX,e16];have hsi:SI crew l (sendAll a crew l ((List.range j).filterMap (Xo w h c a crew l))):=SI.all _ _ (SI.first crew l);generalize sendAll a crew l ((List.range j).filterMap (Xo w h c a crew l))=st at hsi;obtain⟨cr,tk⟩:=st;have hw:O5 ((j:Int)+1)=((j+1:Nat):Int):=O1 hj J;by_cases hcost:RY w h c (X3 crew k).2.1 (Px a (Wp l t).2.1)<100000
  ·rw[AAT hcost];have hge:decide (RY w h c (X3 crew k).2.1 (Px a (Wp l t).2.1)>=100000)=false:=ABa J;obtain⟨r,r1,r2⟩:=hsi.id k e11;obtain⟨u,u1,u2⟩:=hsi.PB t e12;have l1:=hsi.l1;have l2:=hsi.l2;dsimp only at r1 u1 l1 l2;have i1:ON cr (k:Int)=true:=O6 J;have i4:ON tk (t:Int)=true:=O6 J
   have g1:∀f g,(List.modify (List.modify tk t f) t g)[t]?=some (g (f u)):=λf g=>No
   simp only[Q9,Wj,hd,ABR,ABS,ABU,e1,e2,e3,e4,e5,e6,e7,e8,e9,e10,ABQ,hge,i1,i4,r1,g1,u2,(Qg a ha _ n hn).1,e13,e14,e15,hw,Q1,r2]
  ·rw[AAU hcost];have hge:decide (RY w h c (X3 crew k).2.1 (Px a (Wp l t).2.1)>=100000)=true:=ABW J;simp only[Q9,hd,ABR,ABU,e1,e2,e3,e4,e5,e6,e7,e8,ABQ,hge,hw]) (by
  have hlc:(O7 (QC w h c a crew l)).length=(QC w h c a crew l).length:=by simp[O7]
  have hd:decide (((QC w h c a crew l).length:Int)<((O7 (QC w h c a crew l)).length:Int))=false:=by rw[AAs,hlc];clear hn;omega
  simp only[Q9,hd,ABS];rfl) n ADV
 exact this
theorem eQ{crew:ADS}(hk:Sw w h c crew=true):PU w h c=true:=by unfold Sw at hk;grind
theorem cW(hc:c.length<=1048576)(ha:PZ a){crew:ADS}(hcr:crew.length<=1048576){l:AAM}(hl:l.length<=1048576)(n:Nat)(hn:PE<=n):WO n w h c a crew l=some (iB w h c a crew l):=by
 have r1:decide (([]:ADS).length+crew.length<=E7)=true:=by rw[AAk];simp[E7];clear hn;omega
 have r2:decide (([]:AAM).length+l.length<=E7)=true:=by rw[AAk];simp[E7];clear hn;omega
 have hal:a.length<=1048576:=ha.1;unfold WO iB jC;simp only[r1,r2,ABR,P1 a ha n hn,Xv w h c hc crew hcr n hn,ZJ l hl n hn,ABQ,AA2];cases hs:Pr a with
 |false=>rfl
 |true=>cases hk:Sw w h c crew with
  |false=>rfl
  |true=>cases ht:Ru l with
   |false=>rfl
   |true=>
    have hf:=eQ hk
    have h60:l.length<=60:=by unfold Ru at ht;simp only[AAO,AAk]at ht;exact ht.1
    have hil:(O7 (PO crew l)).length=(PO crew l).length:=by simp[O7]
    obtain⟨s,s2⟩:=mC (eL hc hf a crew l) n hn;simp only[ABY,ABS,ABQ,jc crew hcr l hl n hn,hil,gx a hal l h60 _ n hn,mA hc hf hal hcr h60 n hn,s2,AB2,ABR];rw[show O7 (pk (PJ (VA w h c a crew l)) (List.range (PO crew l).length))=O7 (QC w h c a crew l)from rfl,nu hc hf hal hcr h60 _ _ n hn];rfl
theorem bz(hc:c.length<=1048576)(ha:PZ a){crew:ADS}(hcr:crew.length<=1048576){l:AAM}(hl:l.length<=1048576)(n:Nat)(hn:PE<=n):V9 n w h c a crew l=some (iB w h c a crew l):=by
 have r1:decide (crew.length<=E7)=true:=by rw[AAk];simp[E7];clear hn;omega
 have r2:decide (l.length<=E7)=true:=by rw[AAk];simp[E7];clear hn;omega
 have hal:a.length<=1048576:=ha.1;have c1:Qn crew=some crew:=by unfold Qn;rw[r1];rfl
 have c2:QT l=some l:=by unfold QT;rw[r2];rfl
 unfold V9 iB jC;rw[Yb];simp only[c1,c2,Pn w h c hc n hn,QH a ha n hn,TG w h c hc crew hcr n hn,ZG l hl n hn,ABQ];cases hk:Sw w h c crew with
 |false=>grind
 |true=>
  have hf:=eQ hk;rw[hf];cases hs:Pr a with
  |false=>rfl
  |true=>cases ht:Ru l with
   |false=>rfl
   |true=>
    have h60:l.length<=60:=by unfold Ru at ht;simp only[AAO,AAk]at ht;exact ht.1
    have hil:(O7 (PO crew l)).length=(PO crew l).length:=by simp[O7]
    obtain⟨s,s1,_⟩:=lM (eL hc hf a crew l) n hn;simp only[ABY,ABS,ABQ,jL crew hcr l hl n hn,hil,gf a hal l h60 _ n hn,lT hc hf hal hcr h60 n hn,s1,AB2,ABR];rw[show O7 (pk (PJ (VA w h c a crew l)) (List.range (PO crew l).length))=O7 (QC w h c a crew l)from rfl,nF hc hf hal hcr h60 _ _ n hn];rfl
structure TP(l:AAM):Prop where
 len:l.length<=60
 rL:∀i (h:i<l.length),P7 l[i]=true
 apart:∀i j (hi:i<l.length) (hj:j<i),Pg l[i] l[j]=false
theorem dN:∀(l p:AAM),Rl p l=true↔(∀x∈l,P7 x=true)/\(∀x∈l,∀u∈p,Pg x u=false)/\l.Pairwise λu x=>Pg x u=false
 | [],p=>by simp[Rl]
 |x::l,p=>by simp only[Rl,AAO,dN l (p++[x]),AAa,AAb,ABo];grind
theorem Wo{l:AAM}:Ru l=true↔TP l:=by
 unfold Ru;rw[AAO,AAk,dN];constructor
 ·rintro ⟨h1,h2,_,h3⟩
  exact⟨h1,λi h=>h2 _ (ABT h),λi j hi hj=>ABN.1 h3 j i J hi hj⟩
 ·rintro ⟨h1,h2,h3⟩
  refine⟨h1,λx hx=>?_,λ_ _ _ h=>ADf,ABN.2 λa b ha hb hab=>h3 b a hb hab⟩;obtain⟨i,hi,rfl⟩:=ABV.1 hx;exact h2 i hi
theorem mX(a:Is)(crew:ADS)(l:AAM):∀(prs:List (Nat×Nat)) (st:ADS×AAM),(prs.map (·.1)).Nodup->(prs.map (·.2)).Nodup->
  (∀k,((prs.foldl (λst p=>Q1 a crew l p st) st).1)[k]?=match prs.find? (λp=>p.2==k)with
   |some p=>(st.1[k]?).map λy=>(y.1,y.2.1,Px a (Wp l p.1).2.1,y.2.2.2.1,0)
   |none=>st.1[k]?)/\
  (∀i,((prs.foldl (λst p=>Q1 a crew l p st) st).2)[i]?=match prs.find? (λp=>p.1==i)with
   |some p=>(st.2[i]?).map λy=>(y.1,y.2.1,(X3 crew p.2).1,2)
   |none=>st.2[i]?)
 | [],st,_,_=>⟨λk=>rfl,λi=>rfl⟩
 |p::prs,st,h1,h2=>by
  obtain⟨a1,a2⟩:=AAg.1 h1;obtain⟨b1,b2⟩:=AAg.1 h2;obtain⟨q1,q2⟩:=mX a crew l prs (Q1 a crew l p st) a2 b2;refine⟨λk=>?_,λi=>?_⟩
  ·rw[List.foldl_cons,q1 k,List.find?_cons];by_cases e:p.2=k
   ·have hn:prs.find? (λp=>p.2==k)=none:=ACC.2 λx hx hb=>b1 (AAx.2 ⟨x,hx,(by simpa using hb:x.2=k).trans e.symm⟩);rw[hn,show(p.2==k)=true by simpa using e];simp only[Q1,ABf,e,if_true];grind
   ·rw[show(p.2==k)=false by simpa using e]
    have he:(Q1 a crew l p st).1[k]?=st.1[k]?:=by simp only[Q1,ABf,e,if_false];grind
    rw[he]
  ·rw[List.foldl_cons,q2 i,List.find?_cons];by_cases e:p.1=i
   ·have hn:prs.find? (λp=>p.1==i)=none:=ACC.2 λx hx hb=>a1 (AAx.2 ⟨x,hx,(by simpa using hb:x.1=i).trans e.symm⟩);rw[hn,show(p.1==i)=true by simpa using e];simp only[Q1,ABf,e,if_true];grind
   ·rw[show(p.1==i)=false by simpa using e]
    have he:(Q1 a crew l p st).2[i]?=st.2[i]?:=by simp only[Q1,ABf,e,if_false];grind
    rw[he]
structure oD(w h:Int)(c:By)(a:Is)(crew:ADS)(l:AAM)(prs:List (Nat×Nat)):Prop where
 n1:(prs.map (·.1)).Nodup
 n2:(prs.map (·.2)).Nodup
 bJ:∀p∈prs,p.1∈Pv a l (PO crew l).length
 yL:∀p∈prs,p.2∈PO crew l
 way:∀p∈prs,0<=UA w h c (X3 crew p.2).2.1 (Px a (Wp l p.1).2.1)
theorem YZ(hc:c.length<=1048576)(hf:PU w h c=true)(a:Is)(crew:ADS)(l:AAM):oD w h c a crew l (Pa w h c a crew l):=by
 obtain⟨c1,c2,c3⟩:=au hc hf a crew l;have hready:(Pv a l (PO crew l).length).Nodup:=List.Pairwise.imp (fun {x y} h=>by have:=h.1;omega) (fV a l _ (T9 l) 0)
 have hpd:∀j p,Xo w h c a crew l j=some p->p.1=(Pv a l (PO crew l).length).getD j 0/\p.2=(PO crew l).getD ((QC w h c a crew l).getD j 0) 0/\0<=UA w h c (X3 crew p.2).2.1 (Px a (Wp l p.1).2.1):=λj p hp=>by
  unfold Xo at hp;split at hp
  ·rename_i hlt;injection hp with hp
   subst hp;refine⟨rfl,rfl,?_⟩;dsimp only;unfold RY at hlt;by_cases q:UA w h c (X3 crew ((PO crew l).getD ((QC w h c a crew l).getD j 0) 0)).2.1 (Px a (Wp l ((Pv a l (PO crew l).length).getD j 0)).2.1)<0
   ·rw[AAT q]at hlt;omega
   ·omega
  ·cases hp
 have hmem:∀p∈Pa w h c a crew l,∃j,j<(QC w h c a crew l).length/\Xo w h c a crew l j=some p:=λp hp=>by obtain⟨j,hj,e⟩:=List.mem_filterMap.1 hp;exact⟨j,AAc.1 hj,e⟩
 have at_ne:∀(s:It),s.Nodup->∀i j,i<s.length->j<s.length->i≠j->s.getD i 0≠s.getD j 0:=λs hs i j hi hj hne e=>by rw[List.getD,List.getD,AAN hi,AAN hj]at e;exact hne (fN hs hi hj e)
 have pw:(Pa w h c a crew l).Pairwise λp q=>p.1≠q.1/\p.2≠q.2:=by unfold Pa;rw[List.pairwise_filterMap];refine AB8 (fun {i j} hi hj hij p hp q hq=>?_) (List.pairwise_lt_range (n:=(QC w h c a crew l).length));rw[AAc]at hi hj;obtain⟨p1,p2,_⟩:=hpd i p hp;obtain⟨q1,q2,_⟩:=hpd j q hq;rw[p1,p2,q1,q2];refine⟨at_ne _ hready i j J J J,at_ne _ (nC crew l) _ _ (c3 _ (VC hi)) (c3 _ (VC hj)) (at_ne _ c2 i j hi hj J)⟩
 refine⟨?_,?_,λp hp=>?_,λp hp=>?_,λp hp=>?_⟩
 ·unfold List.Nodup;rw[ABl];exact pw.imp λh=>h.1
 all_goals grind
theorem mF(hc:c.length<=1048576)(hf:PU w h c=true){a b:Int}(hs:0<=UA w h c a b):QO c b=true:=by
 cases hb:QO c b with
 |true=>rfl
 |false=>
  exfalso;obtain⟨_,e,_,_⟩:=bT hc hf a b PE (AAi _);obtain⟨k,k1,k2⟩:=TH w h c hc hf b PE (AAi _);rw[hb]at k2;have k3:(k==0)=true:=by simpa using k2
  unfold TJ at e;grind
structure dR(a:Is)(crew:ADS)(l:AAM)(prs:List (Nat×Nat))(AAI:ADS)(l':AAM):Prop where
 l1:AAI.length=crew.length
 l2:l'.length=l.length
 rb:∀k (h:k<crew.length) (h':k<AAI.length),(∃p∈prs,p.2=k/\AAI[k]=(crew[k].1,crew[k].2.1,Px a (Wp l p.1).2.1,crew[k].2.2.2.1,0))\/((∀p∈prs,p.2≠k)/\AAI[k]=crew[k])
 tk:∀i (h:i<l.length) (h':i<l'.length),(∃p∈prs,p.1=i/\l'[i]=(l[i].1,l[i].2.1,(X3 crew p.2).1,2))\/((∀p∈prs,p.1≠i)/\l'[i]=l[i])
theorem Tt{crew:ADS}{l:AAM}(h1:(prs.map (·.1)).Nodup)(h2:(prs.map (·.2)).Nodup):dR a crew l prs (sendAll a crew l prs).1 (sendAll a crew l prs).2:=by
 obtain⟨q1,q2⟩:=mX a crew l prs (crew,l) h1 h2;have hsi:=SI.all (a:=a) prs _ (SI.first crew l);have hfind:∀(P:Nat×Nat->Bool),prs.find? P=none->∀p∈prs,P p=false:=λP h p hp=>No
 refine⟨hsi.l1,hsi.l2,λk hk hk'=>?_,λi hi hi'=>?_⟩
 ·have:=q1 k;change (sendAll a crew l prs).1[k]?=_ at this;grind
 ·have:=q2 i;change (sendAll a crew l prs).2[i]?=_ at this;grind
theorem dA{l:AAM}(h:i<l.length):Wp l i=l[i]:=by unfold Wp;grind
theorem cR{crew:ADS}(h:i<crew.length):X3 crew i=crew[i]:=by unfold X3;grind
theorem bW{x u:PH}:Pg x u=false↔¬(x.1=u.1/\x.2.1=u.2.1)/\(x.2.2.2≠1->x.2.2.1≠u.2.2.1/\(x.2.1=u.2.1->u.2.2.2=1)):=by unfold Pg;grind
structure CW(c:By)(crew:ADS):Prop where
 n20:crew.length<=20
 rP:∀r∈crew,1<=r.1/\r.1<=99
 nv:∀r∈crew,QO c r.2.1=true
 goal:∀r∈crew,r.2.2.1 = -1\/QO c r.2.2.1=true
 rD:∀r∈crew,0<=r.2.2.2.2/\r.2.2.2.2<=1000000
 ids:crew.Pairwise λr s=>r.1<s.1
 gO:crew.Pairwise λr s=>r.2.1≠s.2.1
theorem Xr(f:β->Int)(l:List β)(h:∀i (hi:i+1<l.length),f l[i]<f l[i+1]):l.Pairwise λx y=>f x<f y:=by
 rw[ABN]
 have key:∀d i (hj:i+d+1<l.length),f (l[i]'(by omega))<f l[i+d+1]:=by
  intro d
  induction d with
  |zero=>intro i hj;exact h i hj
  |succ d ih=>
   intro i hj;have h1:=ih i J;have h2:=h (i+d+1) J;have e:i+(d+1)+1=i+d+1+1:=J
   simp only[e];omega
 intro i j hi hj hij;have:=key (j-i-1) i J;grind
theorem iV{crew:ADS}(hi:i<crew.length):pI c crew i=true↔(1<=crew[i].1/\crew[i].1<=99)/\QO c crew[i].2.1=true/\(crew[i].2.2.1 = -1\/QO c crew[i].2.2.1=true)/\(0<=crew[i].2.2.2.2/\crew[i].2.2.2.2<=1000000)/\
  (∀j (hj:j+1=i),(crew[j]'(by omega)).1<crew[i].1)/\∀j (hj:j<i),(crew[j]'(by omega)).2.1≠crew[i].2.1:=by
 have hp:Ql (·.1) crew i crew[i]=true↔∀j (hj:j+1=i),(crew[j]'(by omega)).1<crew[i].1:=by
  cases i with
  |zero=>exact⟨λ_ j hj=>J,λ_=>rfl⟩
  |succ k=>
   simp only[Ql,AAN (show k<crew.length by omega),AAb,AAs]
   exact⟨λh j hj=>by
    have:j=k:=J
    subst this;omega,λh=>by have:=h k rfl;omega⟩
 have ha:((crew.take i).all λy => !(y.2.1==crew[i].2.1))=true↔∀j (hj:j<i),(crew[j]'(by omega)).2.1≠crew[i].2.1:=by
  rw[AAa];constructor
  ·intro h j hj;have:=h crew[j] (ABV.2 ⟨j,ADa,AAB⟩);simpa using this
  ·intro h y hy;obtain⟨j,hj,rfl⟩:=ABV.1 hy;have hji:j<i:=by simp at hj;omega
   have:=h j hji;simpa using this
 unfold pI;rw[AAN hi];simp only[AAO,hp,ha,AAh,AAY];unfold P5;grind
theorem Ux{crew:ADS}:Sw w h c crew=true↔PU w h c=true/\CW c crew:=by
 unfold Sw;simp only[AAO,AAk,AAa,AAc];constructor
 ·rintro ⟨⟨hf,hn⟩,hall⟩
  have hr:∀i (hi:i<crew.length),_:=λi hi=>(iV hi).1 (hall i hi)
  refine⟨hf,⟨hn,λr hr'=>?_,λr hr'=>?_,λr hr'=>?_,λr hr'=>?_,Xr _ _ λi hi=>(hr (i+1) hi).2.2.2.2.1 i rfl,ABN.2 λi j hi hj hij=>(hr j hj).2.2.2.2.2 i hij⟩⟩ <;>
   (obtain⟨i,hi,rfl⟩:=ABV.1 hr')
  ·exact(hr i hi).1
  ·exact(hr i hi).2.1
  ·exact(hr i hi).2.2.1
  ·exact(hr i hi).2.2.2.1
 ·rintro ⟨hf,hw⟩
  refine⟨⟨hf,hw.n20⟩,λi hi=>(iV hi).2 ?_⟩;have hm:=ABT hi;exact⟨hw.rP _ hm,hw.nv _ hm,hw.goal _ hm,hw.rD _ hm,λj hj=>ABN.1 hw.ids j i J hi J,λj hj=>ABN.1 hw.gO j i J hi hj⟩
theorem oD.fW{crew:ADS}{l:AAM}(hd:oD w h c a crew l prs)(hc:CW c crew){p:Nat×Nat}(hp:p∈prs):∃hk:p.2<crew.length,1<=crew[p.2].1/\crew[p.2].1<=99/\crew[p.2].2.2.1 = -1/\crew[p.2].2.2.2.1=false/\∀j (hj:j<l.length),l[j].2.2.1≠crew[p.2].1:=by obtain⟨hk,hi⟩:=Yu (hd.yL p hp);have h1:=hc.rP _ (ABT hk);unfold fC at hi;grind
theorem oD.Vs(ha:a.length<=1048576){crew:ADS}{l:AAM}(hd:oD w h c a crew l prs){p:Nat×Nat}(hp:p∈prs):∃hk:p.1<l.length,l[p.1].2.2.2=1/\l[p.1].2.1∉T9 l/\∃i,∃hi:i<a.length,Rq a l[p.1].2.1=(i:Int)/\a[i].1=l[p.1].2.1/\Px a l[p.1].2.1=a[i].2.1:=by obtain⟨q1,q2,q3,q4⟩:=YG ha (hd.bJ p hp);rw[dA q1]at q2 q3 q4;grind
theorem jv{l:AAM}{j:Nat}(hj:j<l.length)(hne:l[j].2.2.2≠1):l[j].2.1∈T9 l:=by unfold T9;grind
theorem oD.two(ha:a.length<=1048576){crew:ADS}{l:AAM}(hd:oD w h c a crew l prs)(hc:CW c crew){p q:Nat×Nat}(hp:p∈prs)(hq:q∈prs)(hne:p.1≠q.1):
  (X3 crew p.2).1≠(X3 crew q.2).1/\(Wp l p.1).2.1≠(Wp l q.1).2.1:=by
 obtain⟨r1,_⟩:=hd.fW hc hp;obtain⟨r2,_⟩:=hd.fW hc hq;obtain⟨i,hi,rfl⟩:=ABV.1 hp;obtain⟨j,hj,rfl⟩:=ABV.1 hq;have hij:i≠j:=λq=>hne (by subst q;rfl)
 have h2:prs[i].2≠prs[j].2:=λe=>hij (by
  have h2:=hd.n2;have e2:(prs.map (·.2))[i]'(by grind)=(prs.map (·.2))[j]'(by grind):=by rw[ABh,ABh];exact e
  exact fN h2 _ _ e2)
 refine⟨λe=>h2 ?_,?_⟩
 ·rw[cR r1,cR r2]at e;rcases ABe prs[i].2 prs[j].2 with hlt|hlt|hlt
  ·have:=ABN.1 hc.ids _ _ r1 r2 hlt;omega
  ·exact hlt
  ·have:=ABN.1 hc.ids _ _ r2 r1 hlt;omega
 ·have pw:=fV a l (PO crew l).length (T9 l) 0;obtain⟨t1,_⟩:=hd.Vs ha hp;obtain⟨t2,_⟩:=hd.Vs ha hq;have m1:=hd.bJ _ hp;have m2:=hd.bJ _ hq;rw[dA t1,dA t2];obtain⟨x,hx,ex⟩:=ABV.1 m1;obtain⟨y,hy,ey⟩:=ABV.1 m2
  have fwd:∀(x y:Nat) (hx:x<(Pv a l (PO crew l).length).length) (hy:y<(Pv a l (PO crew l).length).length) (s t:Nat) (hs:s<l.length) (ht:t<l.length),(Pv a l (PO crew l).length)[x]=s->(Pv a l (PO crew l).length)[y]=t->x<y->l[s].2.1≠l[t].2.1:=by intro x y hx hy s t hs ht es et hlt;have:=(ABN.1 pw x y hx hy hlt).2;have es':(Go.Ev.N.bJ a (PO crew l).length (T9 l) 0 l)[x]'hx=s:=es;have et':(Go.Ev.N.bJ a (PO crew l).length (T9 l) 0 l)[y]'hy=t:=et;simp only[es',et',Nat.sub_zero]at this;exact this hs ht
  grind
theorem dR.tasks(ha:a.length<=1048576){crew:ADS}{l:AAM}{l':AAM}(hs:dR a crew l prs AAI l')(hd:oD w h c a crew l prs)(ht:TP l)(hc:CW c crew):TP l':=by
 have hl2:=hs.l2;refine⟨by rw[hl2];exact ht.len,λi hi=>?_,λi j hi hj=>?_⟩
 ·have hil:i<l.length:=J
  rcases hs.tk i hil hi with⟨p,hp,rfl,e⟩|⟨_,e⟩
  ·obtain⟨hk,r1,r2,_⟩:=hd.fW hc hp;have hg:=ht.rL p.1 hil;obtain⟨t1,t2,_⟩:=hd.Vs ha hp;rw[e,cR hk];unfold P7 at hg ⊢;grind
  ·rw[e];exact ht.rL i hil
 ·have hil:i<l.length:=J
  have hjl:j<l.length:=J
  have hold:=bW.1 (ht.apart i j hil hj);rw[bW];rcases hs.tk i hil hi with⟨p,hp,rfl,e⟩|⟨hno,e⟩
  ·obtain⟨hk,r1,r2,r3,r4,r5⟩:=hd.fW hc hp;obtain⟨t1,t2,t3,_⟩:=hd.Vs ha hp;rcases hs.tk j hjl J with⟨q,hq,rfl,e2⟩|⟨hno2,e2⟩
   ·obtain⟨n1,n2⟩:=hd.two ha hc hp hq J;rw[dA hil,dA hjl]at n2;grind
   ·rw[e,e2,cR hk];refine⟨hold.1,λ_=>⟨λq=>r5 j hjl q.symm,λq=>?_⟩⟩;refine AAq λhne=>t3 ?_;have q:l[p.1].2.1=l[j].2.1:=q;rw[q];exact jv hjl hne
  ·rcases hs.tk j hjl J with⟨q,hq,rfl,e2⟩|⟨hno2,e2⟩
   ·obtain⟨hk,r1,r2,r3,r4,r5⟩:=hd.fW hc hq;obtain⟨t1,t2,t3,_⟩:=hd.Vs ha hq;rw[e,e2,cR hk];refine⟨hold.1,λhne=>⟨r5 i hil,λq2=>?_⟩⟩;have q2:l[i].2.1=l[q.1].2.1:=q2;exact absurd (q2▸jv hil hne) t3
   grind
theorem dR.crew(hcl:c.length<=1048576)(hf:PU w h c=true){crew:ADS}{l:AAM}{l':AAM}(hs:dR a crew l prs AAI l')(hd:oD w h c a crew l prs)(hc:CW c crew):CW c AAI:=by
 have hl1:=hs.l1
 have each:∀k (h:k<crew.length) (h':k<AAI.length),AAI[k].1=crew[k].1/\AAI[k].2.1=crew[k].2.1/\(AAI[k].2.2.1 = -1\/QO c AAI[k].2.2.1=true)/\0<=AAI[k].2.2.2.2/\AAI[k].2.2.2.2<=1000000:=λk hk hk'=>by
  rcases hs.rb k hk hk' with⟨p,hp,rfl,e⟩|⟨_,e⟩
  ·rw[e];exact⟨rfl,rfl,.inr (mF hcl hf (hd.way p hp)),No,No⟩
  ·rw[e];have hm:=ABT hk;exact⟨rfl,rfl,hc.goal _ hm,hc.rD _ hm⟩
 have mem:∀r∈AAI,∃k,∃h:k<crew.length,∃h':k<AAI.length,AAI[k]=r:=λr hr=>by obtain⟨k,hk,rfl⟩:=ABV.1 hr;grind
 refine⟨by rw[hl1];exact hc.n20,λr hr=>?_,λr hr=>?_,λr hr=>?_,λr hr=>?_,?_,?_⟩
 ·obtain⟨k,h,h',rfl⟩:=mem r hr;rw[(each k h h').1];exact hc.rP _ (ABT h)
 ·obtain⟨k,h,h',rfl⟩:=mem r hr;rw[(each k h h').2.1];exact hc.nv _ (ABT h)
 ·grind
 ·grind
 ·refine ABN.2 λi j hi hj hij=>?_;rw[(each i J hi).1,(each j J hj).1];exact ABN.1 hc.ids i j J J hij
 ·refine ABN.2 λi j hi hj hij=>?_;rw[(each i J hi).2.1,(each j J hj).2.1];exact ABN.1 hc.gO i j J J hij
theorem YF(key:β->Int)(a:List β)(i:Nat)(hi:i<a.length):Ql key a i a[i]=true↔∀j (hj:j+1=i),key (a[j]'(by omega))<key a[i]:=by
 cases i with
 |zero=>exact⟨λ_ j hj=>J,λ_=>rfl⟩
 |succ k=>
  simp only[Ql,AAN (show k<a.length by omega),AAb,AAs];grind
theorem je{l:OF}:Qh l=true↔Um l:=by
 constructor
 ·intro h;unfold Qh at h;simp only[AAO,AAa,AAc,AAk]at h;obtain⟨h1,h2⟩:=h
  have each:∀i (hi:i<l.length),(1<=l[i].1/\l[i].1<=50)/\(1<=l[i].2.1/\l[i].2.1<=1000)/\(0<=l[i].2.2/\l[i].2.2<=l[i].2.1)/\∀j (hj:j+1=i),(l[j]'(by omega)).1<l[i].1:=λi hi=>by have:=h1 i hi;unfold We at this;rw[AAN hi]at this;unfold P5 at this;simp only[AAO,AAk,YF (·.1) l i hi]at this;exact⟨this.1.1.1,this.1.1.2,this.1.2,this.2⟩
  refine⟨Xr _ _ λi hi=>(each (i+1) hi).2.2.2 i rfl,λx hx=>?_,h2⟩;obtain⟨i,hi,rfl⟩:=ABV.1 hx;obtain⟨e1,e2,e3,_⟩:=each i hi;omega
 ·exact Um.ok
theorem Pq:Pr a=true↔PF a:=by
 constructor
 ·intro h;unfold Pr at h;simp only[AAO,AAa,AAc,AAk]at h;obtain⟨h1,h2⟩:=h
  have each:∀i (hi:i<a.length),(1<=a[i].1/\a[i].1<=999)/\(0<=a[i].2.1/\a[i].2.1<=99)/\Um a[i].2.2/\(∀j (hj:j+1=i),(a[j]'(by omega)).1<a[i].1)/\∀j (hj:j<i),(a[j]'(by omega)).2.1≠a[i].2.1:=λi hi=>by have:=h2 i hi;unfold dK at this;rw[AAN hi]at this;unfold P5 at this;simp only[AAO,AAk,YF (·.1) a i hi,je,AAa]at this;refine⟨this.1.1.1.1,this.1.1.1.2,this.1.1.2,this.1.2,λj hj=>?_⟩;have:=this.2 (a[j]'(by omega)) (ABV.2 ⟨j,ADa,AAB⟩);simpa using this
  have ids:=Xr (λx:PD=>x.1) a λi hi=>(each (i+1) hi).2.2.2.1 i rfl;refine⟨h1,ABN.2 λi j hi hj hij=>⟨ABN.1 ids i j hi hj hij,(each j hj).2.2.2.2 i hij⟩,λp hp=>?_⟩;obtain⟨i,hi,rfl⟩:=ABV.1 hp;obtain⟨e1,e2,e3,_⟩:=each i hi;grind
 ·exact PF.ok
def Q8(l:OF)(k:Int)(f:O0->O0):OF:=l.map λy=>bif y.1==k then f y else y
def Wq(a:Is)(PB:Int)(f:OF->OF):Is:=a.map λp=>bif p.1==PB then(p.1,p.2.1,f p.2.2)else p
theorem Xm(h:PF a)(hi:i<a.length)(f:OF->OF):a.modify i (λp=>(p.1,p.2.1,f p.2.2))=Wq a a[i].1 f:=by
 apply ABv;intro j;unfold Wq;rw[ABf,AAf];by_cases hj:j<a.length
 ·rw[AAN hj];by_cases e:i=j
  ·subst e;simp
  ·have hne:(a[j].1==a[i].1)=false:=by
    rw[ABX];intro q;rcases ABe i j with hl|hl|hl
    ·have:=(ABN.1 h.2.1 i j hi hj hl).1;omega
    ·exact e hl
    ·have:=(ABN.1 h.2.1 j i hj hi hl).1;omega
   simp[e,hne]
 grind
theorem mY{l:OF}(h:Um l)(hi:i<l.length)(f:O0->O0):l.modify i f=Q8 l l[i].1 f:=by
 apply ABv;intro j;unfold Q8;rw[ABf,AAf];by_cases hj:j<l.length
 ·rw[AAN hj];by_cases e:i=j
  ·subst e;simp
  ·have hne:(l[j].1==l[i].1)=false:=by
    rw[ABX];intro q;rcases ABe i j with hl|hl|hl
    ·have:=ABN.1 h.1 i j hi hj hl;omega
    ·exact e hl
    ·have:=ABN.1 h.1 j i hj hi hl;omega
   simp[e,hne]
 grind
theorem Te{l:OF}(h:Um l)(hx:x∈l):PC l x.1=x:=by
 unfold PC;cases hf:l.find? λy=>y.1==x.1 with
 |none=>grind
 |some y=>
  have hy:=ABn hf;have he:y.1=x.1:=by simpa using ACK hf
  obtain⟨i,hi,rfl⟩:=ABV.1 hx;obtain⟨j,hj,rfl⟩:=ABV.1 hy;rcases ABe i j with hl|hl|hl
  ·have:=ABN.1 h.1 i j hi hj hl;omega
  ·subst hl;rfl
  ·have:=ABN.1 h.1 j i hj hi hl;omega
theorem RG{l:OF}(h:∀x∈l,x.1≠k):PC l k=(k,0,0):=by unfold PC;grind
theorem Qk{l:OF}(h:Um l)(k:Int):0<=(PC l k).2.1/\(PC l k).2.1<=1000/\0<=(PC l k).2.2/\(PC l k).2.2<=(PC l k).2.1/\(PC l k).1=k:=by
 unfold PC;cases hf:l.find? λy=>y.1==k with
 |none=>grind
 |some y=>
  have:=h.2.1 y (ABn hf);grind
theorem pH{l:OF}(h:Um l)(hk:∃z∈l,z.1=k)(d:Int):gn (k,(PC l k).2.1,(PC l k).2.2+d) l=Q8 l k λy=>(y.1,y.2.1,y.2.2+d):=by
 unfold gn Q8;refine ABg λy hy=>?_;by_cases e:y.1=k
 ·subst e;rw[Te h hy]
 grind
theorem lD{l:OF}(h:Um l)(k d:Int)(hd:∀y∈l,y.1=k->0<=y.2.2+d/\y.2.2+d<=y.2.1):Um (Q8 l k λy=>(y.1,y.2.1,y.2.2+d)):=by
 have key:∀y:O0,(bif y.1==k then(y.1,y.2.1,y.2.2+d)else y).1=y.1:=λy=>No
 refine⟨?_,λz hz=>?_,by unfold Q8;rw[ABm];exact h.2.2⟩
 ·unfold Q8;rw[ABl];exact h.1.imp λh=>No
 ·unfold Q8 at hz;obtain⟨y,hy,rfl⟩:=AAx.1 hz;have hy2:=h.2.1 y hy;grind
theorem gM(h:PF a)(PB:Int)(f:OF->OF)(hf:∀p∈a,p.1=PB->Um (f p.2.2)):PF (Wq a PB f):=by
 have key:∀p:PD,(bif p.1==PB then(p.1,p.2.1,f p.2.2)else p).1=p.1/\(bif p.1==PB then(p.1,p.2.1,f p.2.2)else p).2.1=p.2.1:=λp=>No
 refine⟨by unfold Wq;rw[ABm];exact h.1,?_,λz hz=>?_⟩
 ·unfold Wq;rw[ABl];exact h.2.1.imp λh=>No
 ·unfold Wq at hz;obtain⟨p,hp,rfl⟩:=AAx.1 hz;have hp2:=h.2.2 p hp;grind
def RH(a:Is)(PB k:Int):O0:=match a[(Rq a PB).toNat]? with
 |some p=>PC p.2.2 k
 |none=>(k,0,0)
def Pz(a:Is)(PB k m:Int):Int:=bif Pr a&&(P5 k 1 50&&P5 m 1 1000)then(if Rq a PB<0 then 2 else 0)else 1
def UC(a:Is)(PB k d:Int):Is:=Wq a PB λl=>Q8 l k λy=>(y.1,y.2.1,y.2.2+d)
def aC(a:Is)(PB k m:Int):Is×Int:=if Pz a PB k m≠0 then(a,Pz a PB k m)else if(RH a PB k).2.1-(RH a PB k).2.2<m then(a,3)else(UC a PB k m,0)
def XI(a:Is)(PB k m:Int):Is×Int:=if Pz a PB k m≠0 then(a,Pz a PB k m)else if(RH a PB k).2.2<m then(a,3)else(UC a PB k (-m),0)
theorem QE{PB m:Int}(h:Pz a PB k m=0):PF a/\(1<=k/\k<=50)/\(1<=m/\m<=1000)/\∃i,∃hi:i<a.length,Rq a PB=(i:Int)/\a[i].1=PB/\RH a PB k=PC a[i].2.2 k:=by
 unfold Pz at h;cases hs:(Pr a&&(P5 k 1 50&&P5 m 1 1000))with
 |false=>grind
 |true=>
  rw[hs,ABR]at h;unfold P5 at hs;simp only[AAO,AAk]at hs;have hS:=Pq.1 hs.1;refine⟨hS,hs.2.1,hs.2.2,?_⟩;have h12:=hS.1;rcases(Qg a J PB PE (AAi _)).2 with⟨e,_⟩|⟨i,hi,e,e2⟩
  ·omega
  ·refine⟨i,hi,e,e2,?_⟩;unfold RH;grind
theorem iy(h:PF a)(PB k d:Int)(hd:∀p∈a,p.1=PB->∀y∈p.2.2,y.1=k->0<=y.2.2+d/\y.2.2+d<=y.2.1):PF (UC a PB k d):=gM h PB _ λp hp e=>lD (h.2.2 p hp).2.2 k d (hd p hp e)
theorem UK(h:PF a)(hi:i<a.length){p:PD}(hp:p∈a)(e:p.1=a[i].1):p=a[i]:=by
 obtain⟨j,hj,rfl⟩:=ABV.1 hp;rcases ABe i j with hl|hl|hl
 ·have:=(ABN.1 h.2.1 i j hi hj hl).1;omega
 ·subst hl;rfl
 ·have:=(ABN.1 h.2.1 j i hj hi hl).1;omega
theorem j8(h:PF a)(PB k m:Int):PF (aC a PB k m).1:=by
 unfold aC;split
 ·exact h
 ·rename_i hc;split
  ·exact h
  ·rename_i hlt;obtain⟨_,hk,hm,i,hi,e1,e2,e3⟩:=QE (by omega:Pz a PB k m=0);refine iy h PB k m λp hp ep y hy ey=>?_;have:p=a[i]:=UK h hi hp (ep.trans e2.symm);subst this;have hst:=(h.2.2 _ (ABT hi)).2.2;have hyb:=hst.2.1 y hy;rw[e3,<-ey,Te hst hy]at hlt;omega
theorem jX(h:PF a)(PB k m:Int):PF (XI a PB k m).1:=by
 unfold XI;split
 ·exact h
 ·rename_i hc;split
  ·exact h
  ·rename_i hlt;obtain⟨_,hk,hm,i,hi,e1,e2,e3⟩:=QE (by omega:Pz a PB k m=0);refine iy h PB k (-m) λp hp ep y hy ey=>?_;have:p=a[i]:=UK h hi hp (ep.trans e2.symm);subst this;have hst:=(h.2.2 _ (ABT hi)).2.2;have hyb:=hst.2.1 y hy;rw[e3,<-ey,Te hst hy]at hlt;omega
theorem Y1(a:Is)(hs:PZ a)(PB k m:Int)(n:Nat)(hn:PE<=n):Tc n a PB k m=some (if Pz a PB k m≠0 then(0,0,0,0,Pz a PB k m)else(Rq a PB,(RH a PB k).1,(RH a PB k).2.1,(RH a PB k).2.2,0)):=by
 have hl:a.length<=1048576:=hs.1;unfold Tc;rw[P1 a hs n hn];simp only[ABQ,QP];by_cases hc:Pz a PB k m=0
 ·rw[AAU (by rw[hc];simp)];obtain⟨h,hk,hm,i,hi,e1,e2,e3⟩:=QE hc;rw[Pq.2 h,show P5 k 1 50=true by unfold P5;grind,show P5 m 1 1000=true by unfold P5;rw[ABW hm.1,ABW hm.2];rfl];have hd:decide (Rq a PB<0)=false:=by rw[e1,AAs];clear hn;omega
  simp only[ABY,ABS,ABQ,(Qg a hl PB n hn).1,hd];rw[e3,e1,O3 hi,ABQ,dI a[i] (by have:=(h.2.2 _ (ABT hi)).2.2.2.2;omega) k n hn];rfl
 ·rw[AAT hc];unfold Pz at hc ⊢;cases h1:Pr a with
  |false=>rfl
  |true=>cases h2:P5 k 1 50 with
   |false=>rfl
   |true=>cases h3:P5 m 1 1000 with
    |false=>rfl
    |true=>
     rw[h1,h2,h3]at hc;simp only[AB2,ABR]at hc ⊢
     have hlt:Rq a PB<0:=by refine AAq λq=>hc ?_;rw[AAU q]
     simp only[ABY,ABS,ABQ,(Qg a hl PB n hn).1,ABW hlt,ABR,AAT hlt]
theorem iO(h:PF a)(hi:i<a.length)(d:Int)(hz:∃z∈a[i].2.2,z.1=k)(n:Nat)(hn:PE<=n):
  SU n a (i:Int) k (PC a[i].2.2 k).2.1 ((PC a[i].2.2 k).2.2+d)=some (UC a a[i].1 k d):=by
 have hst:=(h.2.2 _ (ABT hi)).2.2;obtain⟨z,hz1,hz2⟩:=hz
 have hpos:((PC a[i].2.2 k).2.1==0)=false:=by rw[<-hz2,Te hst hz1,ABX];have:=hst.2.1 z hz1;clear hn;omega
 unfold SU;rw[PQ a h.sm n hn,ABQ,O6 hi,ABR];have hg:a[(i:Int).toNat]?=some a[i]:=by simp[hi]
 have hw:=nL a[i].2.2 hst (k,(PC a[i].2.2 k).2.1,(PC a[i].2.2 k).2.2+d) ⟨z,hz1,hz2⟩ hpos n hn;dsimp only at hw;rw[hg,ABQ,ABQ,hw,ABQ,ABR,pH hst ⟨z,hz1,hz2⟩,ABU];unfold UC;rw[<-Xm h hi];congr 1;apply ABv;grind
theorem gu(a:Is)(hs:PZ a)(PB k m:Int)(n:Nat)(hn:PE<=n):Z4 n a PB k m=some (aC a PB k m):=by
 unfold Z4 aC;rw[Y1 a hs PB k m n hn,ABQ];by_cases hc:Pz a PB k m=0
 ·rw[AAU (by rw[hc];simp),AAU (by rw[hc];simp)];obtain⟨h,hk,hm,i,hi,e1,e2,e3⟩:=QE hc;have hst:=(h.2.2 _ (ABT hi)).2.2;obtain⟨b1,b2,b3,b4,b5⟩:=Qk hst k;dsimp only;rw[show((0:Int) != 0)=false from rfl,ABS,e3,PA J J];by_cases hlt:(PC a[i].2.2 k).2.1-(PC a[i].2.2 k).2.2<m
  ·rw[ABW hlt,AAT hlt,ABR,PQ a hs n hn];rfl
  ·rw[ABa hlt,AAU hlt,ABS,PA J J,e1,b5]
   have hz:∃z∈a[i].2.2,z.1=k:=by refine AAq λq=>?_;rw[RG λx hx e=>q ⟨x,hx,e⟩]at hlt;dsimp only at hlt;clear hn;omega
   rw[iO h hi m hz n hn,e2];rfl
 ·rw[AAT hc,AAT hc];dsimp only;rw[show(Pz a PB k m != 0)=true by grind,ABR,PQ a hs n hn];rfl
theorem cY(a:Is)(hs:PZ a)(PB k m:Int)(n:Nat)(hn:PE<=n):XO n a PB k m=some (XI a PB k m):=by
 unfold XO XI;rw[Y1 a hs PB k m n hn,ABQ];by_cases hc:Pz a PB k m=0
 ·rw[AAU (by rw[hc];simp),AAU (by rw[hc];simp)];obtain⟨h,hk,hm,i,hi,e1,e2,e3⟩:=QE hc;have hst:=(h.2.2 _ (ABT hi)).2.2;obtain⟨b1,b2,b3,b4,b5⟩:=Qk hst k;dsimp only;rw[show((0:Int) != 0)=false from rfl,ABS,e3];by_cases hlt:(PC a[i].2.2 k).2.2<m
  ·rw[ABW hlt,AAT hlt,ABR,PQ a hs n hn];rfl
  ·rw[ABa hlt,AAU hlt,ABS,PA J J,e1,b5]
   have hz:∃z∈a[i].2.2,z.1=k:=by refine AAq λq=>?_;rw[RG λx hx e=>q ⟨x,hx,e⟩]at hlt;dsimp only at hlt;clear hn;omega
   rw[show(PC a[i].2.2 k).2.2-m=(PC a[i].2.2 k).2.2 + -m by omega,iO h hi (-m) hz n hn,e2];rfl
 ·rw[AAT hc,AAT hc];dsimp only;rw[show(Pz a PB k m != 0)=true by grind,ABR,PQ a hs n hn];rfl
theorem YQ{l:OF}(hs:Um l)(p0 p1 k:Int)(n:Nat)(hn:PE<=n):
  ∃(j:Nat) (b:Bool),Qq n p0 p1 l k=some ((j:Int),b)/\(b=true->∃h:j<l.length,l[j].1=k/\PC l k=l[j])/\(b=false->(∀x∈l,x.1≠k)/\PC l k=(k,0,0)):=by
 have h8:=hs.2.2
 obtain⟨j,h1,h2,h3,h4⟩:=gN (Qw l k) l.length (λi=>decide ((l.getD i (0,0,0)).1<k)) (λi hi=>by
  simp only[Qw,O3 hi,ABQ,O1 hi (show l.length<=9223372036854775807 by clear hn;omega)];grind) (by simp[Qw]) n ADV
 have hlow:∀i (hi:i<l.length),i<j->l[i].1<k:=by intro i hi hij;have:=h3 i hij;simpa[hi]using this
 unfold Qq;rw[h2];by_cases hj:j<l.length
 ·have hge:=h4 hj;have hge:k<=l[j].1:=by simpa[hj]using hge
  refine⟨j,l[j].1==k,?_,λhb=>?_,λhb=>?_⟩
  ·simp[hj,O3 hj]
  ·have e:l[j].1=k:=by simpa using hb
   exact⟨hj,e,by rw[<-e];exact Te hs (ABT hj)⟩
  ·have hno:∀x∈l,x.1≠k:=λx hx=>by
    obtain⟨i,hi,rfl⟩:=ACA hx;have hne:l[j].1≠k:=by simpa using hb
    rcases ABe i j with q|q|q
    ·grind
    ·grind
    ·have:=ABN.1 hs.1 j i hj hi q;omega
   exact⟨hno,RG hno⟩
 ·have hno:∀x∈l,x.1≠k:=λx hx=>by obtain⟨i,hi,rfl⟩:=ACA hx;have:=hlow i hi ADX;clear hn;omega
  refine⟨j,false,?_,λhb=>(by cases hb),λ_=>⟨hno,RG hno⟩⟩;grind
theorem ZY(a:Is)(hs:PZ a)(PB k m:Int)(n:Nat)(hn:PE<=n):Yy n a PB k m=some (if Pz a PB k m≠0 then(-1,Pz a PB k m)else(Rq a PB,0)):=by
 have hl:a.length<=1048576:=hs.1;unfold Yy;rw[QH a hs n hn,Wj];simp only[ABQ,U0,QP];by_cases hc:Pz a PB k m=0
 ·rw[AAU (by rw[hc];simp)];obtain⟨h,hk,hm,i,hi,e1,e2,e3⟩:=QE hc;rw[Pq.2 h,show P5 k 1 50=true by unfold P5;grind,show P5 m 1 1000=true by unfold P5;rw[ABW hm.1,ABW hm.2];rfl];have hd:decide (Rq a PB>=0)=true:=by rw[e1,AAk];clear hn;omega
  simp only[ABY,ABS,ABQ,(Qg a hl PB n hn).1,hd,ABR]
 ·rw[AAT hc];unfold Pz at hc ⊢;cases h1:Pr a with
  |false=>rfl
  |true=>cases h2:P5 k 1 50 with
   |false=>rfl
   |true=>cases h3:P5 m 1 1000 with
    |false=>rfl
    |true=>
     rw[h1,h2,h3]at hc;simp only[AB2,ABR]at hc ⊢
     have hlt:Rq a PB<0:=by refine AAq λq=>hc ?_;rw[AAU q]
     have hd:decide (Rq a PB>=0)=false:=by rw[AAs];clear hn;omega
     simp only[ABY,ABS,ABQ,(Qg a hl PB n hn).1,hd,AAT hlt]
theorem aE(a:Is)(hs:PZ a)(PB k m d:Int)(hd : -1000<=d/\d<=1000)(n:Nat)(hn:PE<=n):Vx n a PB k m d=some (if Pz a PB k m≠0 then(a,Pz a PB k m)else
  if(∃z,z∈(a.getD (Rq a PB).toNat (0,0,[])).2.2/\z.1=k)/\0<=(RH a PB k).2.2+d/\(RH a PB k).2.2+d<=(RH a PB k).2.1 then(UC a PB k d,0)else(a,3)):=by
 unfold Vx;rw[Po a hs n hn,ZY a hs PB k m n hn];simp only[ABQ];by_cases hc:Pz a PB k m=0
 ·rw[AAU (by rw[hc];simp),AAU (by rw[hc];simp)];obtain⟨h,hk,hm,i,hi,e1,e2,e3⟩:=QE hc;have hst:=(h.2.2 _ (ABT hi)).2.2;obtain⟨b1,b2,b3,b4,b5⟩:=Qk hst k;dsimp only;have hgD:a.getD (Rq a PB).toNat (0,0,[])=a[i]:=by rw[e1,ABU,List.getD,AAN hi];rfl
  rw[hgD,e3,e1];have hin:ON a (i:Int)=true:=O6 hi;have hg:a[(i:Int).toNat]?=some a[i]:=by simp[hi]
  obtain⟨j,b,s1,s2,s3⟩:=YQ hst a[i].1 a[i].2.1 k n hn;rw[show((0:Int) != 0)=false from rfl];simp only[ABS,hin,ABR,hg,ABQ,s1];cases b with
  |false=>
   obtain⟨q1,q2⟩:=s3 rfl;rw[AAU (λhh=>by obtain⟨⟨z,z1,z2⟩,_⟩:=hh;exact q1 z z1 z2)];rfl
  |true=>
   obtain⟨hj,q1,q2⟩:=s2 rfl;have hjn:ON a[i].2.2 (j:Int)=true:=O6 hj;have hjg:a[i].2.2[(j:Int).toNat]?=some a[i].2.2[j]:=by simp[hj]
   rw[q2]at b1 b2 b3 b4 ⊢;have hw:O5 (a[i].2.2[j].2.2+d)=a[i].2.2[j].2.2+d:=PA ADX ADX;simp only[ABY,ABS,hjn,ABR,hjg,ABQ,hw,U0,QP];have hiff:P5 (a[i].2.2[j].2.2+d) 0 a[i].2.2[j].2.1=true↔0<=a[i].2.2[j].2.2+d/\a[i].2.2[j].2.2+d<=a[i].2.2[j].2.1:=by unfold P5;simp
   cases hb:P5 (a[i].2.2[j].2.2+d) 0 a[i].2.2[j].2.1 with
   |false=>
    rw[AAU (λhh=>by rw[hiff.2 hh.2]at hb;cases hb)];rfl
   |true=>
    rw[AAT ⟨⟨_,ABT hj,q1⟩,hiff.1 hb⟩];simp only[ABY,ABS];congr 2;unfold UC;rw[<-e2,<-Xm h hi];apply ABv;intro u;rw[ABf,ABf,ABU]
    have key:a[i].2.2.modify (j:Int).toNat (λy=>(y.1,y.2.1,a[i].2.2[j].2.2+d))=Q8 a[i].2.2 k λy=>(y.1,y.2.1,y.2.2+d):=by
     rw[<-q1,<-mY hst hj,ABU];apply ABv;intro v;rw[ABf,ABf];by_cases e':j=v
     ·subst e';simp[hj]
     ·simp[e']
    by_cases e:i=u
    ·subst e;rw[AAN hi];simp only[if_true,Option.map_eq_map,AA8,key]
    ·simp[e]
 grind
theorem gT(a:Is)(hs:PZ a)(PB k m:Int)(n:Nat)(hn:PE<=n):b9 n a PB k m=some (aC a PB k m):=by
 unfold b9 aC;by_cases hc:Pz a PB k m=0
 ·obtain⟨h,hk,hm,i,hi,e1,e2,e3⟩:=QE hc;rw[aE a hs PB k m m J n hn];simp only[hc,ne_eq,not_true_eq_false,if_false,ABQ];have hst:=(h.2.2 _ (ABT hi)).2.2;obtain⟨b1,b2,b3,b4,b5⟩:=Qk hst k;have hgD:a.getD (Rq a PB).toNat (0,0,[])=a[i]:=by rw[e1,ABU,List.getD,AAN hi];rfl
  rw[hgD,e3];by_cases hlt:(PC a[i].2.2 k).2.1-(PC a[i].2.2 k).2.2<m
  ·grind
  ·rw[AAU hlt,AAT];refine⟨?_,ADX,ADX⟩;refine AAq λq=>?_;rw[RG λx hx e=>q ⟨x,hx,e⟩]at hlt;grind
 ·have hk:Vx n a PB k m m=some (a,Pz a PB k m):=by unfold Vx;rw[Po a hs n hn,ZY a hs PB k m n hn,AAT hc];simp only[ABQ,show(Pz a PB k m != 0)=true by simpa using hc,ABR]
  grind
theorem cA(a:Is)(hs:PZ a)(PB k m:Int)(n:Nat)(hn:PE<=n):XC n a PB k m=some (XI a PB k m):=by
 unfold XC XI;simp only[U0,QP,ABQ];cases hm1:P5 m 1 1000 with
 |false=>
  have hc:Pz a PB k m=1:=by unfold Pz;rw[hm1];simp
  rw[AAT J,hc];simp only[ABr,ABR,Po a hs n hn,ABQ]
 |true=>
  have hm:1<=m/\m<=1000:=by unfold P5 at hm1;simpa using hm1
  have hneg:IntKind.wrap .i64 (Nd m) = -m:=by show O5 (0-m) = -m;rw[PA ADX ADX];clear hn;omega
  simp only[ABY,ABS,hneg];rw[aE a hs PB k m (-m) ADX n hn,ABQ];by_cases hc:Pz a PB k m=0
  ·obtain⟨h,hk,hm,i,hi,e1,e2,e3⟩:=QE hc;simp only[hc,ne_eq,not_true_eq_false,if_false];have hst:=(h.2.2 _ (ABT hi)).2.2;obtain⟨b1,b2,b3,b4,b5⟩:=Qk hst k;have hgD:a.getD (Rq a PB).toNat (0,0,[])=a[i]:=by rw[e1,ABU,List.getD,AAN hi];rfl
   rw[hgD,e3];by_cases hlt:(PC a[i].2.2 k).2.2<m
   ·rw[AAT hlt,AAU (λhh=>by have:=hh.2.1;clear hn;omega)]
   ·rw[AAU hlt,AAT];refine⟨?_,ADX,ADX⟩;refine AAq λq=>?_;rw[RG λx hx e=>q ⟨x,hx,e⟩]at hlt;dsimp only at hlt;clear hn;omega
  grind
def Vv(f:Is->O0->Is×Int):OF->Is->Option Is
 | [],s=>some s
 |p::ps,s=>if(f s p).2≠0 then none else Vv f ps (f s p).1
def Qe(f:Is->O0->Is×Int)(a:Is)(ps:OF):Is×Bool:=match Vv f ps a with
 |some s=>(s,true)
 |none=>(a,false)
def Wf(s:Is)(p:O0):Is×Int:=aC s p.1 p.2.1 p.2.2
def Zl(s:Is)(p:O0):Is×Int:=XI s p.1 p.2.1 p.2.2
theorem kA(h:PZ a)(PB k m:Int):PZ (aC a PB k m).1:=by
 by_cases hc:Pz a PB k m=0
 ·exact(j8 (QE hc).1 PB k m).sm
 ·unfold aC;grind
theorem qH(h:PZ a)(PB k m:Int):PZ (XI a PB k m).1:=by
 by_cases hc:Pz a PB k m=0
 ·exact(jX (QE hc).1 PB k m).sm
 ·unfold XI;grind
theorem dF{f:Is->O0->Is×Int}{P:Is->Prop}(hf:∀s p,P s->P (f s p).1):∀(ps:OF)(s t:Is),P s->Vv f ps s=some t->P t
 | [],s,t,h,e=>by injection e with e;grind
 |p::ps,s,t,h,e=>by
  unfold Vv at e;split at e
  ·cases e
  ·exact dF hf ps _ t (hf s p h) e
theorem mJ{f:Is->O0->Is×Int}{P:Is->Prop}(hf:∀s p,P s->P (f s p).1)(h:P a)(ps:OF):P (Qe f a ps).1:=by
 unfold Qe;cases e:Vv f ps a with
 |none=>exact h
 |some t=>exact dF hf ps a t h e
theorem Ya(L:Int×Is×Is->Option ((Int×Is×Is)⊕((Int×Is×Is)⊕(Is×Bool))))(f:Is->O0->Is×Int)(a:Is)(ps:OF)(hf:∀s p,PZ s->PZ (f s p).1)(ha:PZ a)
  (hL:∀(i:Nat)(s:Is)(hi:i<ps.length),PZ s->L ((i:Int),[],s)=some (bif(f s ps[i]).2 != 0 then .inr (.inr (a,false))else .inl (((i+1:Nat):Int),[],(f s ps[i]).1)))
  (he:∀s,L ((ps.length:Int),[],s)=some (.inr (.inl ((ps.length:Int),[],s)))) (n:Nat) (hn:ps.length<n):
  iter n L (0,[],a)=some (match Vv f ps a with|some t=>.inl ((ps.length:Int),[],t)|none=>.inr (a,false)):=by
 refine PW (σ:=Is) L (λi s=>((i:Int),[],s)) ps (λl s=>match Vv f l s with|some t=>.inl ((ps.length:Int),[],t)|none=>.inr (a,false)) (λi s=>PZ s)
  (λs _=>by rw[he];rfl) (λi p l s h1 h2 h3 h4 h5=>?_) n hn a ha
 have hp:ps[i]=p:=by rw[AAN h1]at h2;exact Option.some.inj h2
 rw[hL i s h1 h5,hp];cases hc:((f s p).2 != 0)with
 |true=>
  right;unfold Vv;grind
 |false=>
  left;refine⟨(f s p).1,rfl,hf s p h5,?_⟩
  have e:Vv f (p::l) s=Vv f l (f s p).1:=by rw[Vv,AAU ADt]
  grind
theorem cX(a:Is)(ha:PZ a)(ps:OF)(hp:ps.length<=1048576)(n:Nat)(hn:PE<=n):XL n a ps=some (Qe Wf a ps):=by
 have h1:=Ya (QF n a ps 1) Wf a ps (λs p hs=>kA hs _ _ _) ha (λi s hi hs=>by
  have hd:decide ((i:Int)<(ps.length:Int))=true:=ADh
  simp only[QF,hd,ABR,O3 hi,ABQ,gu s hs _ _ _ n hn,ABq,PQ a ha n hn,O1 hi (show ps.length<=9223372036854775807 by clear hn;omega)];show(bif(Wf s ps[i]).2 != 0 then _ else _)=_;cases((Wf s ps[i]).2 != 0)<;>rfl) (λs=>by simp[QF]) n ADV
 unfold XL SL;rw[PQ a ha n hn,ABQ,h1,ABQ];unfold Qe;grind
theorem Z9(a:Is)(ha:PZ a)(ps:OF)(hp:ps.length<=1048576)(n:Nat)(hn:PE<=n):Ug n a ps=some (Qe Zl a ps):=by
 have h1:=Ya (QF n a ps 2) Zl a ps (λs p hs=>qH hs _ _ _) ha (λi s hi hs=>by
  have hd:decide ((i:Int)<(ps.length:Int))=true:=ADh
  simp only[QF,hd,ABR,ABS,O3 hi,ABQ,cY s hs _ _ _ n hn,ABq,show((2:Int)==1)=false from rfl,PQ a ha n hn,O1 hi (show ps.length<=9223372036854775807 by clear hn;omega)];show(bif(Zl s ps[i]).2 != 0 then _ else _)=_;cases((Zl s ps[i]).2 != 0)<;>rfl) (λs=>by simp[QF]) n ADV
 unfold Ug SL;rw[PQ a ha n hn,ABQ,h1,ABQ];unfold Qe;grind
theorem Ye(a:Is)(ha:PZ a)(ps:OF)(hp:ps.length<=1048576)(n:Nat)(hn:PE<=n):XA n a ps=some (Qe Wf a ps):=by
 have h1:=Ya (S2 n a ps) Wf a ps (λs p hs=>kA hs _ _ _) ha (λi s hi hs=>by
  have hd:decide ((i:Int)<(ps.length:Int))=true:=ADh
  simp only[S2,hd,ABR,O3 hi,ABQ,gT s hs _ _ _ n hn,Po a ha n hn,O1 hi (show ps.length<=9223372036854775807 by clear hn;omega)];show(bif(Wf s ps[i]).2 != 0 then _ else _)=_;cases((Wf s ps[i]).2 != 0)<;>rfl) (λs=>by simp[S2]) n ADV
 unfold XA ZW;rw[Po a ha n hn,ABQ,h1,ABQ];unfold Qe;grind
def YE(a:Is)(PB:Int):Option PD:=a.find? λp=>p.1==PB
theorem lE{l:OF}(h:Um l)(k d j:Int):PC (Q8 l k λy=>(y.1,y.2.1,y.2.2+d)) j=if j=k/\(∃z∈l,z.1=k)then((PC l k).1,(PC l k).2.1,(PC l k).2.2+d)else PC l j:=by
 have hk1:∀y:O0,(bif y.1==k then(y.1,y.2.1,y.2.2+d)else y).1=y.1:=λy=>No
 have hf:(Q8 l k λy=>(y.1,y.2.1,y.2.2+d)).find? (λx=>x.1==j)=(l.find? λx=>x.1==j).map λy=>bif y.1==k then(y.1,y.2.1,y.2.2+d)else y:=by unfold Q8;rw[ACI];congr 1;refine congrArg (λq=>List.find? q l) (funext λx=>?_);simp only[Function.comp,hk1]
 unfold PC;rw[hf];cases hq:l.find? λx=>x.1==j with
 |none=>
  grind
 |some y=>
  have hy:=ABn hq;have ey:y.1=j:=by simpa using ACK hq
  by_cases e:j=k
  ·subst e;rw[AAT ⟨rfl,y,hy,ey⟩,hq];simp[ey]
  grind
def X6(l:ADT):Prop:=l.Pairwise (λa b=>a.1<b.1)/\(∀x∈l,1<=x.1/\x.1<=50/\1<=x.2/\x.2<=1000)/\l.length<=6
theorem X6.ok{l:ADT}(h:X6 l)(n:Nat)(hn:PE<=n):Q2 n l=some true:=by
 obtain⟨h1,h2,h3⟩:=h
 have:=QZ (QI l) (λi=>(i:Int)) l.length (λ_=>true) (λi hi=>by
  have hp:(bif decide ((i:Int)>0)then(Iv l (O5 ((i:Int)-1))).bind (λy=>some (decide (y.1>=l[i].1)))else some false)=some (!Ql (·.1) l i l[i]):=YW (·.1) l l[i] i hi J some;obtain⟨a1,a2,a3,a4⟩:=h2 _ (ABT hi);rw[Zk h1 (λx y h=>h) i hi]at hp;simp only[QI,O3 hi,ABQ,QP,O1 hi J,hp];rw[show decide ((i:Int)<(l.length:Int))=true by simpa using hi,show P5 l[i].1 1 50=true by simp[P5];omega,show P5 l[i].2 1 1000=true by simp[P5];omega];rfl) (by simp[QI]) n ADV
 unfold Q2;grind
def Q4(k:Int):OF->Int
 | []=>0
 |p::r=>(bif p.2.1==k then p.2.2 else 0)+Q4 k r
theorem eH(k:Int):∀(x y:OF),Q4 k (x++y)=Q4 k x+Q4 k y
 | [],y=>by simp[Q4]
 |p::x,y=>by simp only[ABH,Q4,eH k x y];omega
theorem Vq(k:Int):∀(x:OF),(∀p∈x,1<=p.2.2)->0<=Q4 k x
 | [],_=>by simp[Q4]
 |p::x,h=>by have h1:=Vq k x λq hq=>h q (AAR _ hq);have h2:=h p AAp;simp only[Q4];grind
theorem mI(k:Int):∀(x:OF),(∀p∈x,p.2.1≠k)->Q4 k x=0
 | [],_=>rfl
 |p::x,h=>by
  have h1:=mI k x λq hq=>h q (AAR _ hq);have h2:(p.2.1==k)=false:=by simpa using h p AAp
  simp only[Q4,h1,h2,ABS];rfl
def Xa:OF->Int
 | []=>0
 |p::r=>p.2.2+Xa r
def P3(m f:Int):Int:=bif decide (m<f)then m else f
def Pf(pid:Int)(fr:Int->Int):ADT->OF
 | []=>[]
 |y::r=>bif decide (P3 y.2 (fr y.1)>0)then(pid,y.1,P3 y.2 (fr y.1))::Pf pid fr r else Pf pid fr r
theorem aO(pid:Int)(fr:Int->Int):∀l,(Pf pid fr l).length<=l.length
 | []=>by simp[Pf]
 |y::r=>by have:=aO pid fr r;simp only[Pf];grind
theorem V1(m f:Int):P3 m f<=m/\P3 m f<=f:=by unfold P3;grind
theorem Xg(pid:Int)(fr:Int->Int):∀l,∀p∈Pf pid fr l,p.1=pid/\1<=p.2.2/\∃y∈l,y.1=p.2.1/\p.2.2<=y.2
 | [],p,h=>by cases h
 |y::r,p,h=>by
  simp only[Pf]at h;have up:=λh=>let ⟨a,b,z,hz,h1,h2⟩:=Xg pid fr r p h;(⟨a,b,z,AAR _ hz,h1,h2⟩:p.1=pid/\1<=p.2.2/\∃w∈y::r,w.1=p.2.1/\p.2.2<=w.2)
  by_cases hg:P3 y.2 (fr y.1)>0
  ·rw[show decide (P3 y.2 (fr y.1)>0)=true by simpa using hg,ABR]at h;rcases AAj.1 h with h|h
   ·subst h;exact⟨rfl,by show 1<=P3 y.2 (fr y.1);omega,y,AAp,rfl,(V1 _ _).1⟩
   ·exact up h
  grind
theorem aP(pid:Int)(fr:Int->Int):∀(l:ADT),l.Pairwise (λa b=>a.1<b.1)->(∀y∈l,0<=y.2)->∀y∈l,Q4 y.1 (Pf pid fr l)<=y.2
 | [],_,_,y,hy=>by cases hy
 |z::r,hp,h0,y,hy=>by
  obtain⟨h1,h2⟩:=ABo.1 hp;have hz0:=h0 z AAp;have hle:=(V1 z.2 (fr z.1)).1;simp only[Pf];rcases AAj.1 hy with e|hy
  ·subst e
   have hn:Q4 y.1 (Pf pid fr r)=0:=mI _ _ λp hp'=>by obtain⟨_,_,w,hw,e,_⟩:=Xg pid fr r p hp';grind
   cases decide (P3 y.2 (fr y.1)>0)with
   |true=>simp only[ABR,Q4,ABq,hn];omega
   |false=>grind
  ·have ih:=aP pid fr r h2 (λw hw=>h0 w (AAR _ hw)) y hy;have hne:(z.1==y.1)=false:=by have:=h1 y hy;rw[<-ABt];simp;omega
   cases decide (P3 z.2 (fr z.1)>0)with
   |true=>simp only[ABR,Q4,hne,ABS];omega
   |false=>grind
def PL(p:PD)(k:Int):Int:=(PC p.2.2 k).2.1-(PC p.2.2 k).2.2
theorem Zt(p:PD)(h:Um p.2.2)(k:Int):0<=PL p k/\PL p k<=1000:=by
 unfold PL PC;cases hf:p.2.2.find? (λx=>x.1==k)with
 |none=>simp
 |some x=>
  have:=h.2.1 x (ABn hf);grind
def dB(l:ADT):Prop:=l.Pairwise (λa b=>a.1<b.1)/\(∀y∈l,0<=y.2/\y.2<=1000)/\l.length<=6
theorem fG(p:PD)(h:Um p.2.2)(l:ADT)(hl:dB l)(n:Nat)(hn:PE<=n):Vn n p.1 p.2.1 p.2.2 l=some (Pf p.1 (PL p) l,Xa (Pf p.1 (PL p) l)):=by
 have h6:=hl.2.2
 have hc:=PW (σ:=OF×Int) (Ul n p.1 p.2.1 p.2.2 l) (λi s=>(s.1,s.2,(i:Int))) l (λr s=>(s.1++Pf p.1 (PL p) r,s.2+Xa (Pf p.1 (PL p) r),(l.length:Int)))
  (λi s=>s.1.length<=i/\0<=s.2/\s.2<=1000*(i:Int)/\i<=6)
  (λs hs=>by simp[Ul,Pf,Xa])
  (λi y r s h1 h2 h3 h4 h5=>by
   left;have hy:l[i]=y:=by rw[AAN h1]at h2;exact Option.some.inj h2
   obtain⟨out,sum⟩:=s;obtain⟨q1,q2,q3,q4⟩:=h5;dsimp only at q1 q2 q3;have hy2:=hl.2.1 y (by rw[<-hy];exact ABT h1);have hfr:=Zt p h y.1;unfold Ul;dsimp only;rw[show decide ((i:Int)<(l.length:Int))=true by simpa using h1,ABR,O3 h1,hy,O1 h1 J];simp only[ABQ];rw[dI p (by have:=h.2.2;omega) y.1 n hn,ABQ]
   have hw:O5 ((PC p.2.2 y.1).2.1-(PC p.2.2 y.1).2.2)=PL p y.1:=by unfold PL at hfr ⊢;rw[PA J J]
   rw[hw];have hls:(bif decide (y.2<PL p y.1)then some y.2 else some (PL p y.1))=some (P3 y.2 (PL p y.1)):=mw _ _ _;rw[hls,ABQ];have hle:=V1 y.2 (PL p y.1);by_cases hg:P3 y.2 (PL p y.1)>0
   ·rw[show decide (P3 y.2 (PL p y.1)>0)=true by simpa using hg,ABR,show decide (out.length+[(p.1,y.1,P3 y.2 (PL p y.1))].length<=E7)=true from Re J,ABR,ABQ];rw[PA (n:=sum+P3 y.2 (PL p y.1)) J J];refine⟨(out++[(p.1,y.1,P3 y.2 (PL p y.1))],sum+P3 y.2 (PL p y.1)),rfl,⟨by show(out++[_]).length<=i+1;rw[ABD,ABZ];omega,by show 0<=sum+P3 y.2 (PL p y.1);omega,by show sum+P3 y.2 (PL p y.1)<=1000*((i+1:Nat):Int);omega,J⟩,?_⟩;simp only[Pf];rw[show decide (P3 y.2 (PL p y.1)>0)=true by simpa using hg,ABR];simp only[Xa,ABk,AB6,ACJ]
   ·rw[show decide (P3 y.2 (PL p y.1)>0)=false by simpa using hg,ABS,ABQ];refine⟨(out,sum),rfl,⟨by show out.length<=i+1;omega,q2,by show sum<=1000*((i+1:Nat):Int);omega,J⟩,?_⟩;simp only[Pf];rw[show decide (P3 y.2 (PL p y.1)>0)=false by simpa using hg,ABS])
  n ADV (([]:OF),(0:Int)) ⟨AAB,AAB,AAB,J⟩
 unfold Vn;grind
def du(p:O0)(l:ADT):ADT:=l.map λy=>bif y.1==p.2.1 then(y.1,O5 (y.2-p.2.2))else y
def bC{β:Type}(f:β->β)(l:List β)(i:Nat):List β:=(l.take i).map f++l.drop i
theorem jQ(f:β->β)(l:List β)(m k:Nat):(bC f l m)[k]?=(l[k]?).map λa=>if k<m then f a else a:=by unfold bC;grind
theorem kO(f:β->β)(l:List β)(i:Nat):(bC f l i).length=l.length:=by unfold bC;simp;omega
theorem kP(f g:β->β)(l:List β)(i:Nat)(hi:i<l.length)(hg:g l[i]=f l[i]):(bC f l i).modify i g=bC f l (i+1):=by
 apply ABv;intro j;rw[ABf,jQ,jQ];by_cases hj:j<l.length
 all_goals grind
theorem nQ(f:β->β)(l:List β)(i:Nat)(hi:i<l.length)(hf:f l[i]=l[i]):bC f l i=bC f l (i+1):=by have:=kP f id l i hi hf.symm;rw[<-this];apply ABv;grind
theorem ot(f:β->β)(l:List β):bC f l l.length=l.map f:=by unfold bC;simp
theorem pG(bt:OF)(sm:Int)(z:ADT)(k:Nat)(hk:k<bt.length)(l:ADT)(hl:l.length<=6)(n:Nat)(hn:PE<=n):
  iter n (UP (bt,sm) ((k:Int),z)) (0,l)=some ((l.length:Int),du bt[k] l):=by
 have:=Pb (UP (bt,sm) ((k:Int),z)) (λi=>((i:Int),bC (λy=>bif y.1==bt[k].2.1 then(y.1,O5 (y.2-bt[k].2.2))else y) l i)) l.length ((l.length:Int),du bt[k] l) (λi hi=>by
  have hg:=jQ (λy=>bif y.1==bt[k].2.1 then(y.1,O5 (y.2-bt[k].2.2))else y) l i i;rw[AAN hi]at hg;simp only[AA8,Nat.lt_irrefl,if_false]at hg;have hlen:=kO (λy=>bif y.1==bt[k].2.1 then(y.1,O5 (y.2-bt[k].2.2))else y) l i;unfold UP;dsimp only;rw[hlen,show decide ((i:Int)<(l.length:Int))=true by simpa using hi,ABR];have hin:ON (bC (λy=>bif y.1==bt[k].2.1 then(y.1,O5 (y.2-bt[k].2.2))else y) l i) (i:Int)=true:=O6 (by rw[hlen];exact hi);have hbt:bt[(k:Int).toNat]?=some bt[k]:=by simp[hk]
  simp only[hin,O6 hk,ABR,ABU,hg,ABQ,AAN hk];rw[O1 hi J];cases hq:(l[i].1==bt[k].2.1)with
  |true=>
   rw[ABR,ABQ,kP _ _ l i hi (by rw[hq];rfl)]
  |false=>
   rw[ABS,ABQ,<-nQ _ l i hi (by rw[hq];rfl)]) (by
  unfold UP;dsimp only;rw[kO,ot];simp[du]) n ADV
 have h0:bC (λy=>bif y.1==bt[k].2.1 then(y.1,O5 (y.2-bt[k].2.2))else y) l 0=l:=by unfold bC;simp
 grind
theorem pU(p:O0)(l:ADT):(du p l).length=l.length:=by unfold du;simp
theorem pF(bt:OF)(hbt:bt.length<=6)(sm:Int)(l:ADT)(hl:l.length<=6)(n:Nat)(hn:PE<=n):
  iter n (UO n (bt,sm)) (0,l)=some ((bt.length:Int),bt.foldl (λl p=>du p l) l):=by
 have:=PW (σ:=ADT) (UO n (bt,sm)) (λi s=>((i:Int),s)) bt (λr s=>((bt.length:Int),r.foldl (λl p=>du p l) s)) (λi s=>s.length<=6)
  (λs hs=>by unfold UO;simp) (λi p r s h1 h2 h3 h4 h5=>by
   left;have hp:bt[i]=p:=by rw[AAN h1]at h2;exact Option.some.inj h2
   refine⟨du p s,?_,by rw[pU];exact h5,rfl⟩;unfold UO;dsimp only;rw[show decide ((i:Int)<(bt.length:Int))=true by grind,ABR,pG bt sm s i h1 s h5 n hn,ABQ,O1 h1 J,hp])
  n ADV l hl
 exact this
theorem mc:∀(bt:OF)(l:ADT),(∀p∈bt,1<=p.2.2)->(∀y∈l,Q4 y.1 bt<=y.2/\y.2<=1000)->bt.foldl (λl p=>du p l) l=l.map λy=>(y.1,y.2-Q4 y.1 bt)
 | [],l,_,_=>by simp[Q4]
 |p::bt,l,h1,h2=>by
  have hp:=h1 p AAp;have hr:=λq hq=>h1 q (AAR p hq)
  have e:du p l=l.map λy=>(y.1,y.2-bif p.2.1==y.1 then p.2.2 else 0):=by
   unfold du;refine ABg λy hy=>?_;obtain⟨q1,q2⟩:=h2 y hy;have hpos:=Vq y.1 bt hr;simp only[Q4]at q1;have hc:(y.1==p.2.1)=(p.2.1==y.1):=by rw[ABz];simp;exact eq_comm
   rw[hc];cases hq:(p.2.1==y.1)with
   |true=>
    rw[hq]at q1;simp only[ABR]at q1 ⊢;rw[PA J J]
   |false=>simp
  rw[List.foldl_cons,e,mc bt _ hr,ACL]
  ·refine ABg λy hy=>?_;simp only[Function.comp_apply,Q4];grind
  ·intro y hy;obtain⟨z,hz,rfl⟩:=AAx.1 hy;obtain⟨q1,q2⟩:=h2 z hz;simp only[Q4]at q1;grind
def Vp:ADT->Int
 | []=>0
 |y::r=>y.2+Vp r
theorem cy:∀(l:ADT),(∀y∈l,0<=y.2)->0<=Vp l/\(Vp l=0->∀y∈l,y.2=0)
 | [],_=>⟨by simp[Vp],λ_ y hy=>by cases hy⟩
 |z::r,h=>by obtain⟨h1,h2⟩:=cy r λy hy=>h y (AAR _ hy);have hz:=h z AAp;refine⟨by simp only[Vp];omega,λe y hy=>?_⟩;simp only[Vp]at e;grind
theorem pE(x:OF×Bool×OF×OF×ADT×ADj)(hl:dB x.2.2.2.2.1)(n:Nat)(hn:PE<=n):iter n (UN x) (0,0)=some (Vp x.2.2.2.2.1,(x.2.2.2.2.1.length:Int)):=by
 obtain⟨x1,x2,x3,x4,l,x6⟩:=x;dsimp only at hl ⊢;have h6:=hl.2.2
 have:=PW (σ:=Int) (UN (x1,x2,x3,x4,l,x6)) (λi s=>(s,(i:Int))) l (λr s=>(s+Vp r,(l.length:Int))) (λi s=>0<=s/\s<=1000*(i:Int)/\i<=6)
  (λs hs=>by unfold UN;simp[Vp]) (λi y r s h1 h2 h3 h4 h5=>by
   left;have hy:l[i]=y:=by rw[AAN h1]at h2;exact Option.some.inj h2
   have hy2:=hl.2.1 y (by rw[<-hy];exact ABT h1);refine⟨s+y.2,?_,⟨J,J,J⟩,by simp only[Vp,ACJ]⟩;unfold UN;dsimp only;rw[show decide ((i:Int)<(l.length:Int))=true by simpa using h1,ABR,O6 h1,ABR,ABU,h2,ABQ,O1 h1 J,PA (n:=s+y.2) J J])
  n ADV 0 ⟨J,J,J⟩
 grind
def PG(o:OF)(want:ADT):Prop:=(∀p∈o,1<=p.2.2/\∃y∈want,y.1=p.2.1)/\∀y∈want,Q4 y.1 o=y.2
def Wv:ADj->Nat
 | []=>0
 |b::r=>(bif b then 0 else 1)+Wv r
theorem aR:∀(u:ADj)(j:Nat),u[j]?=some false->Wv (DL u j true)+1=Wv u/\(DL u j true).length=u.length
 | [],j,h=>ADf
 |b::r,0,h=>by simp at h;subst h;simp[DL,Wv];omega
 |b::r,j+1,h=>by obtain⟨h1,h2⟩:=aR r j ADi;simp only[DL,Wv,ABG,h2,and_true];omega
theorem aQ:∀n,Wv (List.replicate n false)=n
 |0=>rfl
 |n+1=>by rw[List.replicate_succ];simp only[Wv,aQ n,ABS];omega
def leftOf(want:ADT)(o:OF):ADT:=want.map λy=>(y.1,y.2-Q4 y.1 o)
theorem kJ(h:X6 want)(h1:∀p∈o,1<=p.2.2)(h2:∀y∈want,Q4 y.1 o<=y.2):dB (leftOf want o):=by
 refine⟨?_,λy hy=>?_,by unfold leftOf;rw[ABm];exact h.2.2⟩
 ·unfold leftOf;rw[ABl];exact h.1
 ·unfold leftOf at hy;obtain⟨z,hz,rfl⟩:=AAx.1 hy;have q1:=h2 z hz;have q2:=Vq z.1 o h1;have q3:=h.2.1 z hz;omega
def tp:OF->Int->Int->Int
 | [],_,_=>0
 |p::r,PB,k=>(if p.1=PB/\p.2.1=k then p.2.2 else 0)+tp r PB k
theorem al:∀(x y:OF)(PB k:Int),tp (x++y) PB k=tp x PB k+tp y PB k
 | [],y,PB,k=>by simp[tp]
 |p::x,y,PB,k=>by simp only[ABH,tp,al x y PB k];omega
theorem ao:∀(x:OF),(∀p∈x,1<=p.2.2)->∀PB k,0<=tp x PB k
 | [],_,_,_=>by simp[tp]
 |p::x,h,PB,k=>by have h1:=ao x (λq hq=>h q (AAR _ hq)) PB k;have h2:=h p AAp;simp only[tp];omega
theorem lB:∀(x:OF)(PB k:Int),(∀p∈x,p.1=PB->p.2.1≠k)->tp x PB k=0
 | [],_,_,_=>rfl
 |p::x,PB,k,h=>by have h1:=lB x PB k λq hq=>h q (AAR _ hq);have h2:=h p AAp;simp only[tp,h1];omega
def jq(f:Int->Int->Int)(p:PD):PD:=(p.1,p.2.1,p.2.2.map λy=>(y.1,y.2.1,y.2.2+f p.1 y.1))
def Pj(a:Is)(f:Int->Int->Int):Is:=a.map (jq f)
theorem ZS(a:Is)(f:Int->Int->Int)(h:∀PB k,f PB k=0):Pj a f=a:=by
 unfold Pj
 have:jq f=id:=funext λp=>by
  unfold jq;have:(λy:O0=>(y.1,y.2.1,y.2.2+f p.1 y.1))=id:=funext λy=>by rw[h];simp
  rw[this,List.map_id];rfl
 rw[this,List.map_id]
theorem jH(a:Is){f g:Int->Int->Int}(h:∀PB k,f PB k=g PB k):Pj a f=Pj a g:=by rw[show f=g from funext λp=>funext λk=>h p k]
theorem aU(a:Is)(f:Int->Int->Int):(Pj a f).length=a.length:=by unfold Pj;grind
theorem iF{f:Int->Int->Int}(h:i<(Pj a f).length):(Pj a f)[i]=jq f (a[i]'(by rw[aU]at h;exact h)):=ABh (jq f)
theorem jl(p:O0)(rs:OF):tp (p::rs) p.1 p.2.1=p.2.2+tp rs p.1 p.2.1:=by show(if p.1=p.1/\p.2.1=p.2.1 then p.2.2 else 0)+tp rs p.1 p.2.1=_;omega
theorem pf(a:Is)(f:Int->Int->Int)(PB k d:Int):UC (Pj a f) PB k d=Pj a λp s=>f p s+if p=PB/\s=k then d else 0:=by
 unfold UC Wq Pj Q8;rw[ACL];refine ABg λp _=>?_;simp only[Function.comp,jq];by_cases hp:p.1=PB
 ·rw[show(p.1==PB)=true from AAY.2 hp,ABR,ACL];refine congrArg (λl=>(p.1,p.2.1,l)) (ABg λy _=>?_);simp only[Function.comp];by_cases hy:y.1=k
  ·rw[show(y.1==k)=true from AAY.2 hy,ABR,AAT ⟨hp,hy⟩,ACJ]
  ·rw[show(y.1==k)=false from ABX.2 hy,ABS,AAU (λh=>hy h.2),Int.add_zero]
 grind
theorem aj(l:OF)(g:Int->Int)(k:Int):PC (l.map λy=>(y.1,y.2.1,y.2.2+g y.1)) k=match l.find? (λx=>x.1==k)with
  |some x=>(x.1,x.2.1,x.2.2+g k)
  |none=>(k,0,0):=by
 unfold PC;rw[ACI];have:((λx:O0=>x.1==k) ∘ λy:O0=>(y.1,y.2.1,y.2.2+g y.1))=λx:O0=>x.1==k:=rfl;grind
theorem mz(p:PD)(f:Int->Int->Int)(k:Int)(h0:PL p k=0->f p.1 k=0):PL (jq f p) k=PL p k-f p.1 k:=by unfold PL at h0 ⊢;unfold jq;rw[aj p.2.2 (f p.1) k];unfold PC at h0 ⊢;grind
theorem eV(h:PF a)(hi:i<a.length){m:Int}(hk:1<=k/\k<=50)(hm:1<=m/\m<=1000):Pz a a[i].1 k m=0/\RH a a[i].1 k=PC a[i].2.2 k:=by
 have h12:=h.1;rcases(Qg a J a[i].1 PE (AAi _)).2 with⟨_,e⟩|⟨j,hj,e,e2⟩
 ·grind
 ·have eij:a[j]=a[i]:=UK h hi (ABT hj) e2;refine⟨?_,?_⟩
  ·unfold Pz P5;rw[Pq.2 h,ABW hk.1,ABW hk.2,ABW hm.1,ABW hm.2,e];simp
  ·unfold RH;grind
structure Fits(a:Is)(ps:OF):Prop where
 each:∀p∈ps,(1<=p.2.1/\p.2.1<=50)/\(1<=p.2.2/\p.2.2<=1000)/\∃i,∃h:i<a.length,a[i].1=p.1
 free:∀q∈a,∀k,tp ps q.1 k<=PL q k
theorem Fits.pos(h:Fits a ps)(PB k:Int):0<=tp ps PB k:=ao ps (λp hp=>(h.each p hp).2.1.1) PB k
theorem Fits.init{qs rs:OF}(h:Fits a (qs++rs)):Fits a qs:=by have h1:=λp hp=>h.each p (AAZ rs hp);refine⟨h1,λq hq k=>?_⟩;have h2:=h.free q hq k;have h3:=ao rs (λp hp=>(h.each p (AAW qs hp)).2.1.1) q.1 k;rw[al]at h2;omega
theorem Fits.to(h:Fits a ps)(ha:PF a){q:PD}(hq:q∈a)(k:Int):PL (jq (tp ps) q) k=PL q k-tp ps q.1 k:=by refine mz q (tp ps) k λe=>?_;have h1:=h.free q hq k;have h2:=h.pos q.1 k;omega
theorem jI{a:Is}(ha:PF a):∀(rs qs:OF),PF (Pj a (tp qs))->Fits a (qs++rs)->Vv Wf rs (Pj a (tp qs))=some (Pj a (tp (qs++rs)))/\PF (Pj a (tp (qs++rs)))
 | [],qs,hs,_=>by rw[ABi];exact⟨rfl,hs⟩
 |p::rs,qs,hs,hf=>by
  obtain⟨hk,hm,i,hi,e⟩:=hf.each p (AAW _ AAp);have hi2:i<(Pj a (tp qs)).length:=by rw[aU];exact hi
  have hat:=iF hi2;have hid:(Pj a (tp qs))[i].1=p.1:=by rw[hat];exact e
  obtain⟨c1,c2⟩:=eV hs hi2 hk hm;rw[hid]at c1 c2;have hfree:=hf.free _ (ABT hi) p.2.1;have hto:=hf.init.to ha (ABT hi) p.2.1;have hrs:=ao rs (λq hq=>(hf.each q (AAW _ (AAR _ hq))).2.1.1) p.1 p.2.1;rw[al,e,jl]at hfree;rw[e]at hto;have hge:p.2.2<=PL (jq (tp qs) a[i]) p.2.1:=J
  have hneg:¬((PC (jq (tp qs) a[i]).2.2 p.2.1).2.1-(PC (jq (tp qs) a[i]).2.2 p.2.1).2.2<p.2.2):=by unfold PL at hge;omega
  have hh:Wf (Pj a (tp qs)) p=(Pj a (tp (qs++[p])),0):=by
   unfold Wf aC;rw[c1,AAU J,c2,hat,AAU hneg,pf];refine congrArg (λs=>(s,(0:Int))) (jH a λPB k=>?_);rw[al];simp only[tp]
   have:(if PB=p.1/\k=p.2.1 then p.2.2 else 0)=(if p.1=PB/\p.2.1=k then p.2.2 else 0:Int):=by
    by_cases hc:p.1=PB/\p.2.1=k
    ·rw[AAT hc,AAT ⟨hc.1.symm,hc.2.symm⟩]
    ·rw[AAU hc,AAU (λh=>hc ⟨h.1.symm,h.2.symm⟩)]
   rw[this];omega
  have hS:PF (Pj a (tp (qs++[p]))):=by have:=j8 hs p.1 p.2.1 p.2.2;unfold Wf at hh;rw[hh]at this;exact this
  have ih:=jI ha rs (qs++[p]) hS No;rw[ABk]at ih;rw[Vv,hh,AAU AAB];exact ih
theorem iG(ha:PF a)(hf:Fits a ps):Qe Wf a ps=(Pj a (tp ps),true)/\PF (Pj a (tp ps)):=by have h0:Pj a (tp [])=a:=ZS a _ λ_ _=>rfl;have:=jI ha ps [] (by rw[h0];exact ha) hf;rw[h0,AA2]at this;unfold Qe;grind
theorem iH(ha:PF a){qs rs:OF}(hs:PF (Pj a (tp qs)))(hf:Fits a (qs++rs)):Qe Wf (Pj a (tp qs)) rs=(Pj a (tp (qs++rs)),true)/\PF (Pj a (tp (qs++rs))):=by have:=jI ha rs qs hs hf;unfold Qe;grind
def pr(a:Is)(k:Int):Int:=match a with
 | []=>0
 |p::r=>PL p k+pr r k
def aJ(a:Is)(ps:OF)(k:Int):Int:=match a with
 | []=>0
 |p::r=>tp ps p.1 k+aJ r ps k
def YV(a:Is)(p:O0)(k:Int):Int:=match a with
 | []=>0
 |q::r=>(if p.1=q.1/\p.2.1=k then p.2.2 else 0)+YV r p k
theorem iS(p:O0)(k:Int):∀(a:Is),(∀q∈a,q.1≠p.1)->YV a p k=0
 | [],_=>rfl
 |q::r,h=>by have h1:=h q AAp;have h2:=iS p k r λz hz=>h z (AAR _ hz);simp only[YV,h2];omega
theorem cM(p:O0)(k:Int):∀(a:Is),a.Pairwise (λx y=>x.1≠y.1)->(∃q∈a,q.1=p.1)->YV a p k=bif p.2.1==k then p.2.2 else 0
 | [],_,⟨q,hq,_⟩=>by cases hq
 |q::r,hp,⟨z,hz,ez⟩=>by
  obtain⟨h1,h2⟩:=ABo.1 hp;simp only[YV];by_cases hq:q.1=p.1
  ·rw[iS p k r λy hy e=>h1 y hy (hq.trans e.symm)];grind
  ·rcases AAj.1 hz with e|hz
   ·grind
   ·rw[AAU (λh=>hq h.1.symm),cM p k r h2 ⟨z,hz,ez⟩];omega
theorem gH(p:O0)(ps:OF)(k:Int):∀(a:Is),aJ a (p::ps) k=YV a p k+aJ a ps k
 | []=>rfl
 |q::r=>by simp only[aJ,YV,gH p ps k r,tp];omega
theorem ij(k:Int):∀(a:Is),aJ a [] k=0
 | []=>rfl
 |q::r=>by simp only[aJ,ij k r,tp];rfl
theorem gI(k:Int)(a:Is)(ha:a.Pairwise λx y=>x.1≠y.1):∀(ps:OF),(∀p∈ps,∃q∈a,q.1=p.1)->aJ a ps k=Q4 k ps
 | [],_=>ij k a
 |p::ps,h=>by rw[gH,cM p k a ha (h p AAp),gI k a ha ps λq hq=>h q (AAR _ hq)];rfl
def cG(l:ADT)(i:Nat):Bool:=match l[i]? with
 |some x=>P5 x.1 1 50&&P5 x.2 1 1000&&Ql (·.1) l i x
 |none=>false
def Vy(l:ADT):Bool:=(List.range l.length).all (cG l)&&decide (l.length<=6)
theorem Vz{l:ADT}:Vy l=true↔X6 l:=by
 constructor
 ·intro h;unfold Vy at h;simp only[AAO,AAk,AAa,AAc]at h;obtain⟨hall,h6⟩:=h
  have hi:∀i (hi:i<l.length),(1<=l[i].1/\l[i].1<=50)/\(1<=l[i].2/\l[i].2<=1000)/\Ql (·.1) l i l[i]=true:=by intro i hi;have:=hall i hi;unfold cG P5 at this;rw[AAN hi]at this;simp only[AAO,AAk]at this;exact⟨this.1.1,this.1.2,this.2⟩
  refine⟨Xr _ _ λi hi2=>(YF (·.1) l (i+1) hi2).1 (hi (i+1) hi2).2.2 i rfl,λx hx=>?_,h6⟩;obtain⟨i,hi2,rfl⟩:=ABV.1 hx;grind
 ·rintro ⟨h1,h2,h3⟩
  unfold Vy;simp only[AAO,AAk,AAa,AAc];refine⟨λi hi=>?_,h3⟩;obtain⟨a1,a2,a3,a4⟩:=h2 _ (ABT hi);unfold cG P5;rw[AAN hi];simp only[AAO,AAk];exact⟨⟨⟨a1,a2⟩,a3,a4⟩,Zk h1 (λx y h=>h) i hi⟩
theorem V4(l:ADT)(hl:l.length<=1048576)(n:Nat)(hn:PE<=n):Q2 n l=some (Vy l):=by
 have:=QZ (QI l) (λi=>(i:Int)) l.length (cG l) (λi hi=>by
  have hp:(bif decide ((i:Int)>0)then(Iv l (O5 ((i:Int)-1))).bind (λy=>some (decide (y.1>=l[i].1)))else some false)=some (!Ql (·.1) l i l[i]):=YW (·.1) l l[i] i hi hl some;unfold cG;rw[AAN hi];simp only[QI,O3 hi,ABQ,QP,O1 hi (show l.length<=9223372036854775807 by clear hn;omega),hp];grind) (by simp[QI]) n ADV
 unfold Q2 Vy;rw[show((0:Nat):Int)=0 from rfl]at this;rw[this,ABQ];cases(List.range l.length).all (cG l)with
 |false=>rfl
 |true=>
  rw[ABR,ABx];show some (decide ((l.length:Int)<=6))=_;rw[show decide ((l.length:Int)<=6)=decide (l.length<=6) by rw[decide_eq_decide];clear hn;omega]
theorem Rx(l:ADT)(hl:l.length<=1048576)(n:Nat)(hn:PE<=n):SO n l=some (Vy l):=by rw[lV,V4 l hl n hn]
theorem kN(m f:Int):Mx m f=P3 m f:=by unfold Mx P3;grind
theorem ee(p:PD)(h:Um p.2.2)(l:ADT)(hl:dB l)(n:Nat)(hn:PE<=n):aY n p.1 p.2.1 p.2.2 l=some (Pf p.1 (PL p) l,Xa (Pf p.1 (PL p) l)):=by
 have h6:=hl.2.2
 have hc:=PW (σ:=OF×Int) (WH n p.1 p.2.1 p.2.2 l) (λi s=>(s.1,s.2,(i:Int))) l (λr s=>(s.1++Pf p.1 (PL p) r,s.2+Xa (Pf p.1 (PL p) r),(l.length:Int)))
  (λi s=>s.1.length<=i/\0<=s.2/\s.2<=1000*(i:Int)/\i<=6)
  (λs hs=>by simp[WH,Pf,Xa])
  (λi y r s h1 h2 h3 h4 h5=>by
   left;have hy:l[i]=y:=by rw[AAN h1]at h2;exact Option.some.inj h2
   obtain⟨out,sum⟩:=s;obtain⟨q1,q2,q3,q4⟩:=h5;dsimp only at q1 q2 q3;have hy2:=hl.2.1 y (by rw[<-hy];exact ABT h1);have hfr:=Zt p h y.1;obtain⟨j,b,e,e1,e2⟩:=YQ h p.1 p.2.1 y.1 n hn;have hle:=V1 y.2 (PL p y.1);unfold WH;dsimp only;rw[show decide ((i:Int)<(l.length:Int))=true by simpa using h1,ABR,O3 h1,hy,O1 h1 (show l.length<=9223372036854775807 by clear hn;omega)];simp only[ABQ];rw[e,ABQ];dsimp only;cases b with
   |false=>
    have hz:PL p y.1=0:=by unfold PL;rw[(e2 rfl).2];rfl
    have hng:¬P3 y.2 (PL p y.1)>0:=ADX
    refine⟨(out,sum),rfl,⟨by show out.length<=i+1;clear hn;omega,q2,by show sum<=1000*((i+1:Nat):Int);clear hn;omega,ADX⟩,?_⟩;simp only[Pf];rw[ABa hng,ABS]
   |true=>
    obtain⟨hj,_,ej⟩:=e1 rfl
    have hw:O5 (p.2.2[j].2.1-p.2.2[j].2.2)=PL p y.1:=by
     unfold PL at hfr ⊢;rw[ej]at hfr ⊢;rw[PA ADX ADX]
    simp only[ABY,ABS,O3 hj,ABQ,hw,kN];by_cases hg:P3 y.2 (PL p y.1)>0
    ·rw[ABW hg,ABR,show decide (out.length+[(p.1,y.1,P3 y.2 (PL p y.1))].length<=E7)=true from Re ADX,ABR,ABQ];rw[PA (n:=sum+P3 y.2 (PL p y.1)) ADX ADX];refine⟨(out++[(p.1,y.1,P3 y.2 (PL p y.1))],sum+P3 y.2 (PL p y.1)),rfl,⟨by show(out++[_]).length<=i+1;rw[ABD,ABZ];clear hn;omega,by show 0<=sum+P3 y.2 (PL p y.1);clear hn;omega,by show sum+P3 y.2 (PL p y.1)<=1000*((i+1:Nat):Int);clear hn;omega,ADX⟩,?_⟩;simp only[Pf];rw[ABW hg,ABR];simp only[Xa,ABk,AB6,ACJ]
    ·rw[ABa hg,ABS,ABQ];refine⟨(out,sum),rfl,⟨by show out.length<=i+1;clear hn;omega,q2,by show sum<=1000*((i+1:Nat):Int);clear hn;omega,ADX⟩,?_⟩;simp only[Pf];rw[ABa hg,ABS])
  n ADV (([]:OF),(0:Int)) ⟨AAB,AAB,AAB,J⟩
 unfold aY;grind
def aa(l:ADT)(bt:OF):ADT:=(l.map λy=>(y.1,y.2-Q4 y.1 bt)).filter λy=>decide (y.2>0)
theorem jM(bt:OF)(hb:bt.length<=72)(h1:∀p∈bt,1<=p.2.2)(k m:Int)(ht:Q4 k bt<=m)(hm:m<=1000)(n:Nat)(hn:PE<=n):
  iter n (VS bt) (0,k,m)=some ((bt.length:Int),k,m-Q4 k bt):=by
 have hc:=PW (σ:=Int) (VS bt) (λi s=>((i:Int),k,s)) bt (λr s=>((bt.length:Int),k,s-Q4 k r)) (λi s=>Q4 k (bt.drop i)<=s/\s<=1000)
  (λs hs=>by unfold VS;simp[Q4])
  (λi p r s g1 g2 g3 g4 g5=>by
   left;have hp:bt[i]=p:=by rw[AAN g1]at g2;exact Option.some.inj g2
   have hmem:p∈bt:=by rw[<-hp];exact ABT g1
   have hpp:=h1 p hmem;have hrp:=Vq k r λq hq=>h1 q (ACH (i:=i) No);obtain⟨g5,g6⟩:=g5;rw[g3]at g5;simp only[Q4]at g5;rw[g4];unfold VS;dsimp only;rw[show decide ((i:Int)<(bt.length:Int))=true by grind,ABR,O3 g1,hp,ABQ,O1 g1 (show bt.length<=9223372036854775807 by omega)];simp only[Q4];cases hq:(p.2.1==k)with
   |true=>
    rw[hq,ABR]at g5;rw[ABR,ABQ,PA (n:=s-p.2.2) ADX ADX];grind
   |false=>
    rw[hq,ABS]at g5;rw[ABS,ABQ];grind)
  n ADV m ⟨ht,hm⟩
 exact hc
theorem gY(l:ADT)(hl:l.length<=6)(bt:OF)(hb:bt.length<=72)(h1:∀p∈bt,1<=p.2.2)(ht:∀y∈l,Q4 y.1 bt<=y.2/\y.2<=1000)(n:Nat)(hn:PE<=n):cE n l bt=some (aa l bt):=by
 have hc:=PW (σ:=ADT) (XF n l bt) (λi s=>(s,(i:Int))) l (λr s=>(s++aa r bt,(l.length:Int))) (λi s=>s.length<=i)
  (λs hs=>by unfold XF;simp[aa])
  (λi y r s g1 g2 g3 g4 g5=>by
   left;have hy:l[i]=y:=by rw[AAN g1]at g2;exact Option.some.inj g2
   obtain⟨t1,t2⟩:=ht y (by rw[<-hy];exact ABT g1);unfold XF;dsimp only;rw[show decide ((i:Int)<(l.length:Int))=true by rw[AAk];clear hn;omega,ABR,O3 g1,hy,ABQ,O1 g1 (show l.length<=9223372036854775807 by clear hn;omega),jM bt hb h1 y.1 y.2 t1 t2 n hn,ABQ];dsimp only;by_cases hg:y.2-Q4 y.1 bt>0
   ·rw[ABW hg,ABR,show decide (s.length+[(y.1,y.2-Q4 y.1 bt)].length<=E7)=true from Re ADX,ABR,ABQ];refine⟨s++[(y.1,y.2-Q4 y.1 bt)],rfl,by rw[ABD,ABZ];clear hn;omega,?_⟩;unfold aa;rw[ABI,ABw,AAT (by rw[AAk];exact hg),ABk,AB6]
   ·rw[ABa hg,ABS,ABQ];refine⟨s,rfl,ADX,?_⟩;unfold aa;rw[ABI,ABw,AAU (by rw[AAk];exact hg)])
  n ADV [] AAB
 unfold cE;grind
theorem aB(pid:Int)(fr:Int->Int):∀l:ADT,Pf pid fr (l.filter λy=>decide (y.2>0))=Pf pid fr l
 | []=>rfl
 |y::r=>by
  have ih:=aB pid fr r;rw[ABw];by_cases h:y.2>0
  ·rw[AAT No];simp only[Pf,ih]
  ·rw[AAU (by rw[AAk];exact h)];have:=(V1 y.2 (fr y.1)).1;simp only[Pf,ih];grind
theorem eM(pid:Int)(fr:Int->Int):∀l:ADT,(∀y∈l,0<y.2->fr y.1<=0)->Pf pid fr l=[]
 | [],_=>rfl
 |y::r,h=>by have ih:=eM pid fr r λz hz=>h z (AAR _ hz);have h1:=h y AAp;have h2:=V1 y.2 (fr y.1);simp only[Pf,ih];grind
theorem jB(pid:Int){f g:Int->Int}(h:∀k,f k=g k)(l:ADT):Pf pid f l=Pf pid g l:=by rw[show f=g from funext h]
theorem iA(pid:Int)(fr:Int->Int)(hfr:∀k,0<=fr k):∀(l:ADT),l.Pairwise (λa b=>a.1<b.1)->(∀y∈l,0<=y.2)->(∀k,tp (Pf pid fr l) pid k=Q4 k (Pf pid fr l)/\Q4 k (Pf pid fr l)<=fr k)/\∀y∈l,Q4 y.1 (Pf pid fr l)=P3 y.2 (fr y.1)
 | [],_,_=>⟨λk=>⟨rfl,by simp only[Pf,Q4];exact hfr k⟩,λy hy=>by cases hy⟩
 |z::r,hp,h0=>by
  obtain⟨h1,h2⟩:=ABo.1 hp;obtain⟨i1,i2⟩:=iA pid fr hfr r h2 λy hy=>h0 y (AAR _ hy);have hz0:=h0 z AAp;have hfz:=hfr z.1
  have hno:Q4 z.1 (Pf pid fr r)=0:=mI _ _ λp hp'=>by obtain⟨_,_,w,hw,e,_⟩:=Xg pid fr r p hp';have:=h1 w hw;omega
  have hlz:0<=P3 z.2 (fr z.1):=by unfold P3;by_cases h:z.2<fr z.1<;>simp[h]<;>omega
  have hle:=V1 z.2 (fr z.1);simp only[Pf];by_cases hg:P3 z.2 (fr z.1)>0
  ·rw[ABW hg,ABR];refine⟨λk=>?_,λy hy=>?_⟩
   ·obtain⟨j1,j2⟩:=i1 k;simp only[tp,Q4];by_cases hk:z.1=k
    ·subst hk;rw[AAT ⟨trivial,rfl⟩,ABq,ABR,j1];exact⟨rfl,J⟩
    ·rw[AAU (λh=>hk h.2),show(z.1==k)=false from ABX.2 hk,ABS,j1];exact⟨rfl,J⟩
   ·simp only[Q4];rcases AAj.1 hy with e|hy
    ·subst e;rw[ABq,ABR,hno];omega
    ·have:=h1 y hy;rw[show(z.1==y.1)=false from ABX.2 J,ABS,i2 y hy];omega
  grind
theorem X7{β:Type}(P:β->Bool)(f:β->β):∀l:List β,(∀y∈l,P y=false->P (f y)=false)->((l.filter P).map f).filter P=(l.map f).filter P
 | [],_=>rfl
 |y::r,h=>by have ih:=X7 P f r λz hz=>h z (AAR _ hz);grind
theorem ng{a:Is}(ha:PF a){work:Is}(hwl:work.length=a.length)(hw:PF work)(x1:OF)(x2:Bool)(o x4:OF){l left:ADT}(hl:dB l)(hleft:dB left){u:ADj}(hu:u.length=a.length)
  (hc:∀k (h:k<a.length) (h2:k<work.length),(u[k]?=some false->Pf work[k].1 (PL work[k]) left=Pf a[k].1 (PL a[k]) l)/\(u[k]?=some true->Pf work[k].1 (PL work[k]) left=[])) (n:Nat) (hn:PE<=n):
  ∃(best most:Int) (bt:OF),iter n (WT n a (x1,x2,o,x4,l,u)) ((-1),0,0)=some (best,most,(a.length:Int))/\iter n (WE n (o,left,work)) (([]:OF),0,0)=some (bt,most,(a.length:Int))/\
   (best = -1/\most=0/\bt=[]\/∃j,∃h:j<a.length,best=(j:Int)/\u[j]?=some false/\bt=Pf a[j].1 (PL a[j]) l/\0<most):=by
 have h12:=ha.1
 obtain⟨z,w,hS,e1,e2⟩:=Zc (f:=WT n a (x1,x2,o,x4,l,u)) (g:=WE n (o,left,work))
  (λs t=>∃k:Nat,k<=a.length/\s.2.2=(k:Int)/\t.2.2=(k:Int)/\t.2.1=s.2.1/\(s.1 = -1/\s.2.1=0/\t.1=[]\/∃j,∃h:j<a.length,s.1=(j:Int)/\u[j]?=some false/\t.1=Pf a[j].1 (PL a[j]) l/\0<s.2.1))
  (λz w=>z.2.2=(a.length:Int)/\w.2.2=(a.length:Int)/\w.2.1=z.2.1/\(z.1 = -1/\z.2.1=0/\w.1=[]\/∃j,∃h:j<a.length,z.1=(j:Int)/\u[j]?=some false/\w.1=Pf a[j].1 (PL a[j]) l/\0<z.2.1))
  (λs=>((a.length:Int)-s.2.2).toNat) (λs t hR=>by
   obtain⟨b,m,i⟩:=s;obtain⟨bt,m2,i2⟩:=t;obtain⟨k,hk,h1,h2,h3,h4⟩:=hR;dsimp only at h1 h2 h3 h4;subst h1;subst h2;subst h3
   have hm0:0<=m2:=by
    rcases h4 with⟨_,h,_⟩|⟨_,_,_,_,_,h⟩<;>(clear hn;omega)
   unfold WT WE;dsimp only;rw[hwl];by_cases hlt:k<a.length
   ·right;have hkw:k<work.length:=ADX
    have hst:=(ha.2.2 _ (ABT hlt)).2.2;have hst2:=(hw.2.2 _ (ABT hkw)).2.2;obtain⟨c1,c2⟩:=hc k hlt hkw;rw[show decide ((k:Int)<(a.length:Int))=true by rw[AAk];clear hn;omega,ABR,ABR,O3 hlt,ABQ,fG a[k] hst l hl n hn,ABQ,O6 ADX,ABR,ABU,AAN (show k<u.length by clear hn;omega),ABQ,O1 hlt (show a.length<=9223372036854775807 by clear hn;omega)];rw[O3 hkw,ABQ,ee work[k] hst2 left hleft n hn,ABQ];rw[AAN (show k<u.length by clear hn;omega)]at c1 c2;have hμ:((a.length:Int)-((k+1:Nat):Int)).toNat<((a.length:Int)-(k:Int)).toNat:=ADX
    dsimp only;cases hui:u[k]'(by clear hn;omega)with
    |true=>
     rw[c2 (by rw[hui])];simp only[ABY,ABS,ABQ];rw[show decide (Xa []>m2)=false by rw[AAs];simp only[Xa];clear hn;omega];exact⟨_,_,rfl,rfl,⟨k+1,hlt,rfl,rfl,rfl,h4⟩,hμ⟩
    |false=>
     rw[c1 (by rw[hui])];simp only[ABr,ABR,ABQ];by_cases hg:Xa (Pf a[k].1 (PL a[k]) l)>m2
     ·rw[ABW hg];exact⟨_,_,rfl,rfl,⟨k+1,hlt,rfl,rfl,rfl,.inr ⟨k,hlt,rfl,by rw[AAN (show k<u.length by clear hn;omega),hui],rfl,by show 0<Xa _;clear hn;omega⟩⟩,hμ⟩
     ·rw[ABa hg];exact⟨_,_,rfl,rfl,⟨k+1,hlt,rfl,rfl,rfl,h4⟩,hμ⟩
   ·left;have:k=a.length:=ADX
    subst this;rw[show decide ((a.length:Int)<(a.length:Int))=false by rw[AAs];clear hn;omega];exact⟨_,_,rfl,rfl,rfl,rfl,rfl,h4⟩) n ((-1),0,0) (([]:OF),0,0) ⟨0,Nat.zero_le _,rfl,rfl,rfl,.inl ⟨rfl,rfl,rfl⟩⟩ (by show((a.length:Int)-0).toNat<n;unfold PE at hn;omega)
 grind
def Rd(want:ADT)(o:OF):ADT:=(leftOf want o).filter λy=>decide (y.2>0)
theorem nN(h:dB (leftOf want o)):dB (Rd want o):=⟨h.1.filter _,λy hy=>h.2.1 y (ABd.1 hy).1,AA3 (ABp _ _) h.2.2⟩
structure PI(a:Is)(want:ADT)(o:OF)(u:ADj):Prop where
 ul:u.length=a.length
 ol:o.length+6*Wv u<=72
 yH:∀y∈want,Q4 y.1 o<=y.2
 mem:∀p∈o,1<=p.2.2/\∃y∈want,y.1=p.2.1
 fits:Fits a o
 vG:PF (Pj a (tp o))
 off:∀k (h:k<a.length),u[k]?=some false->∀s,tp o a[k].1 s=0
 on:∀k (h:k<a.length),u[k]?=some true->∀y∈want,Q4 y.1 o<y.2->PL a[k] y.1-tp o a[k].1 y.1<=0
theorem dM:∀(l:ADT),(∀y∈l,0<=y.2)->(Vp l=0↔(l.filter λy=>decide (y.2>0))=[])
 | [],_=>⟨λ_=>rfl,λ_=>rfl⟩
 |y::r,h=>by have ih:=dM r λz hz=>h z (AAR _ hz);have h1:=h y AAp;have h2:=(cy r λz hz=>h z (AAR _ hz)).1;rw[ABw];simp only[Vp];grind
theorem fJ(want:ADT)(o bt:OF):(leftOf want o).map (λy=>(y.1,y.2-Q4 y.1 bt))=leftOf want (o++bt):=by unfold leftOf;rw[ACL];refine ABg λy _=>?_;simp only[Function.comp,eH,Int.sub_sub]
theorem PI.step(ha:PF a)(hw:X6 want){u:ADj}(h:PI a want o u){j:Nat}(hj:j<a.length)(hu:u[j]?=some false):PI a want (o++Pf a[j].1 (PL a[j]) (leftOf want o)) (DL u j true):=by
 have hL:=kJ hw (λp hp=>(h.mem p hp).1) h.yH;obtain⟨f1,f2⟩:=aR u j hu;have hst:=(ha.2.2 _ (ABT hj)).2.2;have hcl:=aO a[j].1 (PL a[j]) (leftOf want o);have hll:(leftOf want o).length<=6:=hL.2.2;have hcm:=Xg a[j].1 (PL a[j]) (leftOf want o);have hct:=aP a[j].1 (PL a[j]) (leftOf want o) hL.1 (λy hy=>(hL.2.1 y hy).1);obtain⟨t1,t2⟩:=iA a[j].1 (PL a[j]) (λk=>(Zt a[j] hst k).1) (leftOf want o) hL.1 (λy hy=>(hL.2.1 y hy).1);generalize hbt:Pf a[j].1 (PL a[j]) (leftOf want o)=bt at hcl hcm hct t1 t2;have hlm:∀y∈want,(y.1,y.2-Q4 y.1 o)∈leftOf want o:=λy hy=>by unfold leftOf;grind
 have hbm:∀p∈bt,1<=p.2.2/\p.2.2<=1000/\∃y∈want,y.1=p.2.1:=λp hp=>by obtain⟨_,q1,y,hy,q2,q3⟩:=hcm p hp;have:=(hL.2.1 y hy).2;unfold leftOf at hy;grind
 have hother:∀k (hk:k<a.length),k≠j->∀s,tp bt a[k].1 s=0:=λk hk hne s=>lB bt _ s λp hp e=>by
  have e2:a[j].1=a[k].1:=(hcm p hp).1.symm.trans e;exfalso;rcases ABe j k with hl|hl|hl
  ·have:=(ABN.1 ha.2.1 j k hj hk hl).1;omega
  ·omega
  ·have:=(ABN.1 ha.2.1 k j hk hj hl).1;omega
 have hF:Fits a (o++bt):=by
  refine⟨λp hp=>?_,λq hq k=>?_⟩
  ·rcases ABJ.1 hp with hp|hp
   ·exact h.fits.each p hp
   ·obtain⟨q1,q2,y,hy,q3⟩:=hbm p hp;have hyb:=hw.2.1 y hy;grind
  ·obtain⟨i,hi,rfl⟩:=ABV.1 hq;rw[al];by_cases hij:i=j
   ·subst hij;rw[h.off i hi hu k,(t1 k).1];grind
   ·rw[hother i hi hij k];have:=h.fits.free _ (ABT hi) k;omega
 have hug:∀k,(DL u j true)[k]?=if j=k then some true else u[k]?:=λk=>by rw[Py,ACG];grind
 refine⟨by rw[f2];exact h.ul,?_,λy hy=>?_,λp hp=>?_,hF,(iH ha h.vG hF).2,λk hk e s=>?_,λk hk e y hy hlt=>?_⟩
 ·have:=h.ol;grind
 ·have:=hct _ (hlm y hy);dsimp only at this;rw[eH];omega
 ·rcases ABJ.1 hp with hp|hp
  ·exact h.mem p hp
  grind
 ·rw[hug]at e;by_cases hjk:j=k
  ·grind
  ·rw[AAU hjk]at e;rw[al,h.off k hk e s,hother k hk (λq=>hjk q.symm) s];rfl
 ·rw[eH]at hlt;rw[hug]at e;rw[al];by_cases hjk:j=k
  ·subst hjk;have e3:=t2 _ (hlm y hy);dsimp only at e3;rw[h.off j hk hu y.1,(t1 y.1).1,e3];rw[e3]at hlt;unfold P3 at hlt ⊢;grind
  ·rw[AAU hjk]at e;have hb0:=Vq y.1 bt λp hp=>(hbm p hp).1;rw[hother k hk (λq=>hjk q.symm) y.1];have:=h.on k hk e y hy J;omega
abbrev vL:=OF×Bool×OF×OF×ADT×ADj
abbrev vJ:=OF×ADT×Is
def vK(a:Is)(want:ADT)(x:vL)(y:vJ):Prop:=x.2.2.2.1=[]/\x.2.2.2.2.1=leftOf want x.2.2.1/\PI a want x.2.2.1 x.2.2.2.2.2/\y=(x.2.2.1,Rd want x.2.2.1,Pj a (tp x.2.2.1))
def xw(a:Is)(want:ADT)(z:vL⊕(OF×Bool))(w:vJ⊕(OF×Bool)):Prop:=∃o b,z=.inr (o,b)/\(b=true->PG o want/\Fits a o/\o.length<=72)/\(b=false->o=[])/\(w=.inr (o,b)\/b=true/\∃l s,w=.inl (o,l,s))
theorem lr{y:Pd}(hy:y∈want)(o:OF):(y.1,y.2-Q4 y.1 o)∈leftOf want o:=by unfold leftOf;grind
theorem ly{bt:OF}(hb:∀p∈bt,1<=p.2.2):aa (Rd want o) bt=Rd want (o++bt):=by
 unfold aa Rd
 rw[X7 (λy:Pd=>decide (y.2>0)) (λy=>(y.1,y.2-Q4 y.1 bt)) (leftOf want o) λy _ hp=>by
  have:=Vq y.1 bt hb;grind,fJ]
theorem PI.sH(ha:PF a){u:ADj}(hI:PI a want o u)(k:Nat)(hk:k<a.length)(hk2:k<(Pj a (tp o)).length):
  (u[k]?=some false->Pf (Pj a (tp o))[k].1 (PL (Pj a (tp o))[k]) (Rd want o)=Pf a[k].1 (PL a[k]) (leftOf want o))/\(u[k]?=some true->Pf (Pj a (tp o))[k].1 (PL (Pj a (tp o))[k]) (Rd want o)=[]):=by
 rw[iF hk2];have hto:=hI.fits.to ha (ABT hk);refine⟨λe=>?_,λe=>?_⟩
 ·unfold Rd;rw[aB];exact jB _ (λs=>by rw[hto s,hI.off k hk e s,Int.sub_zero]) _
 ·refine eM _ _ _ λy hy hpos=>?_;unfold Rd leftOf at hy;obtain⟨z,hz,rfl⟩:=AAx.1 (ABd.1 hy).1;show PL (jq (tp o) a[k]) z.1<=0;rw[hto];exact hI.on k hk e z hz J
theorem l8(ha:PF a)(hw:X6 want)(n:Nat)(hn:PE<=n)(x:vL)(y:vJ)(hR:vK a want x y):
  (∃z w,WS n a x=some (.inr z)/\WD n y=some (.inr w)/\xw a want z w)\/(∃x' y',WS n a x=some (.inl x')/\WD n y=some (.inl y')/\vK a want x' y'/\Wv x'.2.2.2.2.2<Wv x.2.2.2.2.2):=by
 obtain⟨x1,x2,o,nn,l,u⟩:=x;obtain⟨g1,g2,hI,g4⟩:=hR;dsimp only at g1 g2 hI g4;subst g1;subst g2;subst g4;have hol:=hI.ol;have hL:=kJ hw (λp hp=>(hI.mem p hp).1) hI.yH;have hLP:=nN hL;have h0:=dM (leftOf want o) λy hy=>(hL.2.1 y hy).1;unfold WS WD;rw[pE (x1,x2,o,[],leftOf want o,u) hL n hn,ABQ];dsimp only;by_cases hz:Vp (leftOf want o)=0
 ·left;have hnil:Rd want o=[]:=h0.1 hz;rw[hz,hnil];refine⟨_,_,rfl,rfl,o,true,rfl,λ_=>⟨⟨hI.mem,λy hy=>?_⟩,hI.fits,ADX⟩,(λe=>by cases e),.inr ⟨rfl,_,_,rfl⟩⟩;have:=(cy (leftOf want o) λy hy=>(hL.2.1 y hy).1).2 hz _ (lr hy o);omega
 ·have hne:Rd want o≠[]:=λe=>hz (h0.2 e)
  have hpos:0<(Rd want o).length:=by
   cases hq:Rd want o with
   |nil=>grind
   |cons _ _=>simp
  rw[show(Vp (leftOf want o)==0)=false from ABX.2 hz,ABS,show decide (((Rd want o).length:Int)>0)=true by grind,ABR];obtain⟨best,most,bt,e1,e2,hb⟩:=ng ha (aU a (tp o)) hI.vG x1 x2 o [] hL hLP hI.ul (λk hk hk2=>hI.sH ha k hk hk2) n hn;rw[e1,e2,ABQ,ABQ];dsimp only;rcases hb with⟨rfl,rfl,rfl⟩|⟨j,hj,rfl,hu,hbt,hm⟩
  ·left;exact⟨_,_,rfl,rfl,[],false,rfl,(λe=>by cases e),λ_=>rfl,.inl rfl⟩
  ·right;have hju:j<u.length:=by rw[hI.ul];exact hj
   have hst:=(ha.2.2 _ (ABT hj)).2.2;have hcl:=aO a[j].1 (PL a[j]) (leftOf want o);have hll:(leftOf want o).length<=6:=hL.2.2;have hcm:=Xg a[j].1 (PL a[j]) (leftOf want o);have hct:=aP a[j].1 (PL a[j]) (leftOf want o) hL.1 (λy hy=>(hL.2.1 y hy).1);have hstep:=hI.step ha hw hj hu;have hc:=fG a[j] hst (leftOf want o) hL n hn;have hpg:∀p∈bt,1<=p.2.2:=λp hp=>No
   have hsub:=mc bt (leftOf want o) hpg (λy hy=>⟨No,(hL.2.1 y hy).2⟩);rw[<-hbt]at hcl hct hstep hc;have hH:=iH ha hI.vG hstep.fits;have hHA:=Ye (Pj a (tp o)) hI.vG.sm bt J n hn;rw[hH.1]at hHA
   have hle:=gY (Rd want o) hLP.2.2 bt J hpg (λy hy=>by
    have hy2:=(ABd.1 hy).1;exact⟨hct y hy2,(hL.2.1 y hy2).2⟩) n hn
   rw[ly hpg]at hle;have hrow:decide (o.length+bt.length<=E7)=true:=Ut J;have h4:=pF bt J (Xa bt) (leftOf want o) hll n hn;rw[show decide ((j:Int)<0)=false by simp,ABS,O6 hju,ABR,O3 hj,ABQ,hc,ABQ];dsimp only;rw[show(most==0)=false from ABX.2 J,ABS,hrow,ABR,ABR,h4,ABQ,hHA,ABQ,hle,ABQ,ABU];refine⟨_,_,rfl,rfl,⟨rfl,?_,hstep,rfl⟩,by have:=(aR u j hu).1;grind⟩;show bt.foldl (λl p=>du p l) (leftOf want o)=leftOf want (o++bt);rw[hsub,fJ]
theorem PI.init(ha:PF a)(hw:X6 want):PI a want [] (List.replicate a.length false):=by
 have h0:Pj a (tp [])=a:=ZS a _ λ_ _=>rfl;have h12:=ha.1;refine⟨AAB,by rw[aQ];simp;omega,λy hy=>?_,(λp hp=>by cases hp),⟨(λp hp=>by cases hp),λq hq k=>?_⟩,by rw[h0];exact ha,λk hk _ s=>rfl,λk hk e=>?_⟩
 ·have:=hw.2.1 y hy;simp only[Q4];omega
 ·exact(Zt q (ha.2.2 q hq).2.2 k).1
 grind
theorem kK(hw:X6 want):Rd want []=want:=by
 have:leftOf want []=want:=by unfold leftOf;simp[Q4]
 unfold Rd;rw[this];exact List.filter_eq_self.2 λy hy=>by have:=hw.2.1 y hy;grind
theorem lJ(ha:PF a)(hw:X6 want)(n:Nat)(hn:PE<=n):∃o b,TV n a want=some (o,b)/\Ur n a want=some (o,b)/\(b=true->PG o want/\Fits a o/\o.length<=72)/\(b=false->o=[]):=by
 have h12:=ha.1;have h6:=hw.2.2;have h0:Pj a (tp [])=a:=ZS a _ λ_ _=>rfl
 obtain⟨z,w,hS,e1,e2⟩:=Zc (vK a want) (xw a want) (λx=>Wv x.2.2.2.2.2) (λx y hR=>l8 ha hw n hn x y hR) n
  (([]:OF),false,([]:OF),([]:OF),want,List.replicate a.length (false:Bool)) (([]:OF),want,a)
  ⟨rfl,by show want=leftOf want [];unfold leftOf;simp[Q4],PI.init ha hw,by rw[kK hw,h0]⟩ (by show Wv (List.replicate a.length false)<n;rw[aQ];unfold PE at hn;omega)
 obtain⟨o,b,rfl,q1,q2,q3⟩:=hS;refine⟨o,b,?_,?_,q1,q2⟩
 ·unfold TV;rw[P1 a ha.sm n hn,ha.ok,hw.ok n hn];simp only[ABQ,ABY,ABS];rw[show decide (([]:ADT).length+want.length<=E7)=true from Ut No,ABR];rw[show(decide (0<=(a.length:Int))&&decide ((a.length:Int)<=(E7:Int))&&decide True)=true by rw[show decide ((a.length:Int)<=(E7:Int))=true by rw[AAk];unfold E7;clear hn;omega];simp,ABR,AA2,ABU,e1,ABQ]
 ·unfold Ur QS;rw[QH a ha.sm n hn,ha.ok,Rx want ADX n hn,Vz.2 hw,Po a ha.sm n hn,Ut (show want.length<=1048576 by clear hn;omega)];grind
theorem mn(a:Is)(hs:PZ a)(want:ADT)(hl:want.length<=1048576)(n:Nat)(hn:PE<=n):∃o b,TV n a want=some (o,b)/\Ur n a want=some (o,b)/\(b=true->PF a/\X6 want/\PG o want/\Fits a o/\o.length<=72)/\(b=false->o=[]):=by
 cases h1:Pr a with
 |false=>
  refine⟨[],false,?_,?_,(λe=>by cases e),λ_=>rfl⟩
  ·unfold TV;rw[P1 a hs n hn,h1];rfl
  ·unfold Ur;rw[QH a hs n hn,h1];rfl
 |true=>
  cases h2:Vy want with
  |false=>
   refine⟨[],false,?_,?_,(λe=>by cases e),λ_=>rfl⟩
   ·unfold TV;rw[P1 a hs n hn,h1,V4 want hl n hn,h2];rfl
   ·unfold Ur;rw[QH a hs n hn,h1,Rx want hl n hn,h2];rfl
  |true=>
   have ha:=Pq.1 h1;have hw:=Vz.1 h2;obtain⟨o,b,e1,e2,q1,q2⟩:=lJ ha hw n hn;grind
def ax(p:O0)(y:Pd):Bool:=y.1==p.2.1&&P5 p.2.2 1 y.2
def Zq(p:O0)(l:ADT):ADT:=l.map λy=>bif y.1==p.2.1 then(y.1,y.2-p.2.2)else y
def foldI:OF->ADT->Option ADT
 | [],l=>some l
 |p::r,l=>if l.any (ax p)then foldI r (Zq p l)else none
def Xp(ps:OF)(l:ADT):Bool:=match foldI ps l with
 |some z=>z.all λy=>y.2==0
 |none=>false
theorem ay{y:Pd}:ax p y=true↔y.1=p.2.1/\1<=p.2.2/\p.2.2<=y.2:=by unfold ax P5;grind
theorem kt(p:O0)(l:ADT):(Zq p l).length=l.length:=by unfold Zq;grind
theorem ma{l:ADT}(h:l.Pairwise λa b=>a.1<b.1):(Zq p l).Pairwise λa b=>a.1<b.1:=by unfold Zq;grind
theorem fy{l:ADT}{y:Pd}(h:y∈Zq p l):∃z∈l,y.1=z.1/\y.2=if z.1=p.2.1 then z.2-p.2.2 else z.2:=by unfold Zq at h;grind
theorem mZ{l:ADT}{z:Pd}(h:z∈l):(z.1,if z.1=p.2.1 then z.2-p.2.2 else z.2)∈Zq p l:=by unfold Zq;grind
theorem od{l:ADT}(h:l.Pairwise λa b=>a.1<b.1){y z:Pd}(hy:y∈l)(hz:z∈l)(e:y.1=z.1):y=z:=by
 obtain⟨i,hi,rfl⟩:=ABV.1 hy;obtain⟨j,hj,rfl⟩:=ABV.1 hz;rcases ABe i j with hl|hl|hl
 ·have:=ABN.1 h i j hi hj hl;omega
 ·subst hl;rfl
 ·have:=ABN.1 h j i hj hi hl;omega
theorem Y3:∀(ps:OF)(l:ADT),l.Pairwise (λa b=>a.1<b.1)->(Xp ps l=true↔PG ps l)
 | [],l,hl=>by
  show(l.all λy=>y.2==0)=true↔_;rw[AAa];constructor
  ·intro h;refine⟨(λp hp=>by cases hp),λy hy=>?_⟩;have:=h y hy;rw[AAY]at this;rw[this];rfl
  ·intro h y hy;rw[AAY];exact(h.2 y hy).symm
 |p::ps,l,hl=>by
  have ih:=Y3 ps (Zq p l) (ma hl)
  have hun:Xp (p::ps) l=(if l.any (ax p)then Xp ps (Zq p l)else false):=by unfold Xp;rw[foldI];grind
  rw[hun];by_cases ha:l.any (ax p)=true
  ·rw[AAT ha,ih];obtain⟨y,hy,hh⟩:=AA6.1 ha;obtain⟨h1,h2,h3⟩:=ay.1 hh;constructor
   ·rintro ⟨g1,g2⟩
    refine⟨λq hq=>?_,λz hz=>?_⟩
    ·rcases AAj.1 hq with rfl|hq
     ·grind
     ·obtain⟨a1,v,hv,a2⟩:=g1 q hq;obtain⟨w,hw,b1,_⟩:=fy hv;grind
    ·have:=g2 _ (mZ (p:=p) hz);dsimp only at this;simp only[Q4];grind
   ·rintro ⟨g1,g2⟩
    refine⟨λq hq=>?_,λz hz=>?_⟩
    ·obtain⟨a1,v,hv,a2⟩:=g1 q (AAR _ hq);exact⟨a1,_,mZ (p:=p) hv,a2⟩
    ·obtain⟨w,hw,b1,b2⟩:=fy hz;have:=g2 w hw;simp only[Q4]at this;grind
  ·rw[AAU ha];refine⟨(λe=>by cases e),λ⟨g1,g2⟩=>(ha ?_).elim⟩;obtain⟨a1,y,hy,a2⟩:=g1 p AAp;have h3:=g2 y hy;have h4:=Vq y.1 ps λq hq=>(g1 q (AAR _ hq)).1;simp only[Q4]at h3;rw[show(p.2.1==y.1)=true from AAY.2 a2.symm,ABR]at h3;exact AA6.2 ⟨y,hy,ay.2 ⟨a2,a1,J⟩⟩
def mm(l:ADT):Prop:=l.Pairwise (λa b=>a.1<b.1)/\(∀y∈l,0<=y.2/\y.2<=1000)/\l.length<=6
theorem mm.sub{l:ADT}(h:mm l)(ha:l.any (ax p)=true):mm (Zq p l):=by
 obtain⟨y,hy,hh⟩:=AA6.1 ha;obtain⟨h1,h2,h3⟩:=ay.1 hh;refine⟨ma h.1,λz hz=>?_,by rw[kt];exact h.2.2⟩;obtain⟨w,hw,b1,b2⟩:=fy hz;have hwb:=h.2.1 w hw;rw[b2];split
 ·rename_i e;have:w=y:=od h.1 hw hy (e.trans h1.symm);grind
 ·exact hwb
theorem kQ{l:ADT}(h:l.Pairwise λa b=>a.1<b.1)(hi:i<l.length)(e:l[i].1=p.2.1):l.modify i (λy=>(y.1,l[i].2-p.2.2))=Zq p l:=by
 apply ABv;intro k;unfold Zq;rw[ABf,AAf];by_cases hk:k<l.length
 ·rw[AAN hk];by_cases hik:i=k
  ·subst hik;rw[Option.map_eq_map,AA8,AA8,AAT rfl,show(l[i].1==p.2.1)=true from AAY.2 e,ABR]
  ·rw[Option.map_eq_map,AA8,AA8,AAU hik]
   have:l[k].1≠p.2.1:=λe2=>by
    rcases ABe i k with hl|hl|hl
    ·have:=ABN.1 h i k hi hk hl;omega
    ·exact hik hl
    ·have:=ABN.1 h k i hk hi hl;omega
   rw[show(l[k].1==p.2.1)=false from ABX.2 this,ABS]
 grind
theorem l7(k:Int)(l:ADT)(hl:mm l)(p:O0)(n:Nat)(hn:PE<=n):∃i:Int,iter n (Ua (k,l) p) (false,0,l)=some (bif l.any (ax p)then(true,i,Zq p l)else(false,i,l)):=by
 have h6:=hl.2.2
 obtain⟨z,hS,e⟩:=Yj (f:=Ua (k,l) p) (λx=>x.1=false/\x.2.2=l/\∃m:Nat,m<=l.length/\x.2.1=(m:Int)/\∀i (h:i<l.length),i<m->ax p l[i]=false)
  (λz=>z.1=false/\z.2.2=l/\l.any (ax p)=false\/z.1=true/\z.2.2=Zq p l/\l.any (ax p)=true) (λx=>((l.length:Int)-x.2.1).toNat) (λx hR=>by
   obtain⟨b,i,l'⟩:=x;obtain⟨h1,h2,m,hm,h3,h4⟩:=hR;dsimp only at h1 h2 h3;subst h1;subst h2;subst h3;unfold Ua;dsimp only;by_cases hlt:m<l'.length
   ·have hyb:=hl.2.1 _ (ABT hlt);rw[show decide ((m:Int)<(l'.length:Int))=true by rw[AAk];clear hn;omega,ABR,O6 hlt,ABU,AAN hlt];simp only[ABR,ABQ,U0,QP]
    have hx:(bif l'[m].1==p.2.1 then some (P5 p.2.2 1 l'[m].2)else some false)=some (ax p l'[m]):=by
     unfold ax;cases(l'[m].1==p.2.1)<;>rfl
    rw[hx,ABQ];cases hh:ax p l'[m]with
    |true=>
     obtain⟨a1,a2,a3⟩:=ay.1 hh;left;refine⟨_,rfl,.inr ⟨rfl,?_,AA6.2 ⟨_,ABT hlt,hh⟩⟩⟩;show l'.modify m (λy=>(y.1,O5 (l'[m].2-p.2.2)))=_;rw[PA (n:=l'[m].2-p.2.2) ADX ADX,kQ hl.1 hlt a1]
    |false=>
     right;rw[ABS,O1 hlt (show l'.length<=9223372036854775807 by clear hn;omega)];refine⟨_,rfl,⟨rfl,rfl,m+1,hlt,rfl,λi hi him=>?_⟩,by show((l'.length:Int)-((m+1:Nat):Int)).toNat<((l'.length:Int)-(m:Int)).toNat;clear hn;omega⟩;by_cases e:i=m
     ·subst e;exact hh
     ·exact h4 i hi ADX
   ·left;rw[show decide ((m:Int)<(l'.length:Int))=false by rw[AAs];clear hn;omega];refine⟨_,rfl,.inl ⟨rfl,rfl,?_⟩⟩;rw[<-ABt];intro ha;obtain⟨y,hy,hh⟩:=AA6.1 ha;obtain⟨i,hi,rfl⟩:=ABV.1 hy;rw[h4 i hi ADX]at hh;cases hh) n (false,0,l) ⟨rfl,rfl,0,Nat.zero_le _,rfl,λi _ h=>J⟩ (by show((l.length:Int)-0).toNat<n;unfold PE at hn;omega)
 grind
theorem cF(ps:OF)(hp:ps.length<=1048576)(l:ADT)(hl:mm l)(n:Nat)(hn:PE<=n):VT n ps l=some (Xp ps l):=by
 have h6:=hl.2.2
 have hc:=PW (σ:=ADT) (UZ n ps) (λi s=>((i:Int),s)) ps (λr s=>match foldI r s with|some z=>.inl ((ps.length:Int),z)|none=>.inr false) (λi s=>mm s)
  (λs hs=>by unfold UZ;simp[foldI])
  (λi p r s g1 g2 g3 g4 g5=>by
   have hpi:ps[i]=p:=by rw[AAN g1]at g2;exact Option.some.inj g2
   obtain⟨j,e⟩:=l7 (i:Int) s g5 p n hn;unfold UZ;dsimp only;rw[show decide ((i:Int)<(ps.length:Int))=true by grind,ABR,O3 g1,hpi,ABQ,e,ABQ,O1 g1 (show ps.length<=9223372036854775807 by omega)];cases ha:s.any (ax p)with
   |true=>
    left;refine⟨Zq p s,rfl,g5.sub ha,?_⟩;rw[foldI,AAT ha]
   |false=>
    right;rw[foldI,AAU (by rw[ha];simp)];rfl)
  n ADV l hl
 unfold VT QS;rw[Ut (show l.length<=1048576 by omega),ABR,ABQ];rw[show((0:Nat):Int)=0 from rfl]at hc;rw[hc,ABQ];unfold Xp;cases hf:foldI ps l with
 |none=>rfl
 |some z=>
  have hzl:z.length<=6:=by
   have:∀(ps:OF)(l z:ADT),foldI ps l=some z->z.length=l.length:=by
    intro ps
    induction ps with
    |nil=>intro l z e;injection e with e;rw[e]
    |cons p ps ih=>
     intro l z e;rw[foldI]at e;split at e
     ·rw[ih _ _ e,kt]
     ·cases e
   rw[this ps l z hf];exact h6
  have h3:=QN (Ub ((ps.length:Int),z)) z (λy=>y.2==0) (λi x hi hx=>by
   obtain⟨_,rfl⟩:=AAP.1 hx;unfold Ub;dsimp only;rw[show decide ((i:Int)<(z.length:Int))=true by rw[AAk];clear hn;omega,ABR,O6 hi,ABU,AAN hi,ABR,ABQ,O1 hi (show z.length<=9223372036854775807 by clear hn;omega)];simp only[bne];cases(z[i].2==0)<;>rfl) (by unfold Ub;simp) n ADV
  grind
abbrev PS:=Int×Int×ADT×OF×Int
abbrev ADR:=List PS
theorem Sg(nx:Int)(l:ADR)(h:QU (nx,l))(n:Nat)(hn:PE<=n):Rf n nx l=some (nx,l):=by
 have hl:l.length<=1048576:=h.1
 have hc:=PW (σ:=ADR) (Ui l) (λi s=>((i:Int),nx,s)) l (λr s=>((l.length:Int),nx,s++r)) (λi s=>s.length<=i)
  (λs hs=>by simp[Ui]) (λi y r s h1 h2 h3 h4 h5=>by
   left;have hy:l[i]=y:=by rw[AAN h1]at h2;exact Option.some.inj h2
   refine⟨s++[y],?_,by rw[ABD,ABZ];omega,AAB⟩;unfold Ui;dsimp only;rw[show decide ((i:Int)<(l.length:Int))=true by simpa using h1,ABR,O3 h1,hy,ABQ,Zm y (h.2 y (by rw[<-hy];exact ABT h1)),ABQ,O1 h1 J];rw[show decide (s.length+[(y.1,y.2.1,y.2.2.1,y.2.2.2.1,y.2.2.2.2)].length<=E7)=true from Re J,ABR])
  n ADV [] AAB
 unfold Rf;grind
theorem Tn(nx:Int)(l:ADR)(h:QU (nx,l))(n:Nat)(hn:PE<=n):Qm n nx l=some (nx,l):=by
 have hl:l.length<=1048576:=h.1
 have hc:=PW (σ:=ADR) (Tm l) (λi s=>((i:Int),nx,s)) l (λr s=>((l.length:Int),nx,s++r)) (λi s=>s.length<=i)
  (λs hs=>by simp[Tm]) (λi y r s h1 h2 h3 h4 h5=>by
   left;have hy:l[i]=y:=by rw[AAN h1]at h2;exact Option.some.inj h2
   refine⟨s++[y],?_,by rw[ABD,ABZ];omega,AAB⟩;unfold Tm;dsimp only;rw[show decide ((i:Int)<(l.length:Int))=true by simpa using h1,ABR,O3 h1,hy,ABQ,S0 y (h.2 y (by rw[<-hy];exact ABT h1)),ABQ,O1 h1 J];have hr:decide (s.length+1<=E7)=true:=Re J;simp only[ABZ,hr,ABR])
  n ADV [] AAB
 unfold Qm;grind
def Q7(l:ADR):ADR:=l.filter λo=>o.2.2.2.2==1
theorem j7{β:Type}(f:Int->Option (Int⊕(Int⊕Int)))(xs:List β)(P:β->Bool)(hs:∀(i:Nat)(x:β),i<xs.length->xs[i]?=some x->f (i:Int)=some (bif P x then .inr (.inr (i:Int))else .inl ((i+1:Nat):Int)))
  (j:Nat) (hj:j<xs.length) (hP:P xs[j]=true):∀n,xs.length<n->∃i,∃h:i<xs.length,P xs[i]=true/\iter n f 0=some (.inr (i:Int)):=by
 have key:∀d i n,i+d=j->d<n->∃k,∃h:k<xs.length,P xs[k]=true/\iter n f (i:Int)=some (.inr (k:Int)):=by
  intro d
  induction d with
  |zero=>
   intro i n hi hn;obtain⟨n,rfl⟩:∃k,n=k+1:=⟨n-1,J⟩;have:i=j:=J
   subst this;have hf:=hs i xs[i] hj (AAN hj);rw[hP,ABR]at hf;exact⟨i,hj,hP,Pp hf n⟩
  |succ d ih=>
   intro i n hi hn;obtain⟨n,rfl⟩:∃k,n=k+1:=⟨n-1,J⟩;have hlt:i<xs.length:=J
   have hf:=hs i xs[i] hlt (AAN hlt);cases hp:P xs[i]with
   |true=>rw[hp,ABR]at hf;exact⟨i,hlt,hp,Pp hf n⟩
   |false=>rw[hp,ABS]at hf;rw[SQ hf n];exact ih (i+1) n J J
 exactλn hn=>key j 0 n J J
theorem YD(nx:Int)(l:ADR)(hl:l.length<=1048576)(hp:l.Pairwise (λa b=>a.1<b.1))(i:Nat)(hi:i<l.length)(n:Nat)(hn:PE<=n):Qp n nx l l[i].1=some (i:Int):=by
 obtain⟨j,hj,hP,e⟩:=j7 (RP l l[i].1) l (λx=>x.1==l[i].1) (λm x h1 h2=>by
  have hx:l[m]=x:=by rw[AAN h1]at h2;exact Option.some.inj h2
  simp only[RP,O3 h1,hx,ABQ,O1 h1 J];grind) i hi AAB n ADV
 have hji:j=i:=by
  have hP:l[j].1=l[i].1:=by simpa using hP
  rcases ABe j i with q|q|q
  ·have:=ABN.1 hp j i hj hi q;omega
  ·exact q
  ·have:=ABN.1 hp i j hi hj q;omega
 subst hji;unfold Qp;rw[e];rfl
theorem VZ(nx:Int)(l:ADR)(hl:l.length<=1048576)(c:Int)(hc:∀x∈l,x.1≠c)(n:Nat)(hn:PE<=n):Qp n nx l c=some (-1):=by
 have:=iD (RP l c) l (λx=>x.1==c) (λm x h1 h2=>by
  have hx:l[m]=x:=by rw[AAN h1]at h2;exact Option.some.inj h2
  simp only[RP,O3 h1,hx,ABQ,O1 h1 J];rw[show decide ((m:Int)<(l.length:Int))=true by simpa using h1];cases hq:(x.1==c)<;>rfl) (by simp[RP]) n ADV
 unfold Qp;grind
def cz(l:ADT)(ps:OF):Int:=match l with
 | []=>0
 |y::r=>Q4 y.1 ps+cz r ps
theorem kv:∀l:ADT,cz l []=0
 | []=>rfl
 |y::r=>by simp only[cz,kv r,Q4];rfl
theorem gC(p:O0)(ps:OF):∀l:ADT,(∀y∈l,y.1≠p.2.1)->cz l (p::ps)=cz l ps
 | [],_=>rfl
 |y::r,h=>by have h1:=h y AAp;simp only[cz,Q4,gC p ps r λz hz=>h z (AAR _ hz)];grind
theorem me(p:O0)(ps:OF):∀l:ADT,l.Pairwise (λa b=>a.1<b.1)->(∃y∈l,y.1=p.2.1)->cz l (p::ps)=p.2.2+cz l ps
 | [],_,⟨y,hy,_⟩=>by cases hy
 |y::r,hl,⟨z,hz,e⟩=>by
  obtain⟨h1,h2⟩:=ABo.1 hl;simp only[cz,Q4];by_cases hy:y.1=p.2.1
  ·rw[gC p ps r λw hw=>No,show(p.2.1==y.1)=true from AAY.2 hy.symm,ABR];omega
  ·rcases AAj.1 hz with e2|hz
   ·grind
   ·rw[me p ps r h2 ⟨z,hz,e⟩,show(p.2.1==y.1)=false from ABX.2 λe=>hy e.symm,ABS];omega
theorem gB{l:ADT}(hl:l.Pairwise λa b=>a.1<b.1):∀ps:OF,(∀p∈ps,1<=p.2.2)->cz l ps<=Xa ps/\(cz l ps=Xa ps↔∀p∈ps,∃y∈l,y.1=p.2.1)
 | [],_=>by rw[kv];exact⟨by simp[Xa],⟨λ_ p hp=>(by cases hp),λ_=>rfl⟩⟩
 |p::ps,h=>by
  obtain⟨i1,i2⟩:=gB hl ps λq hq=>h q (AAR _ hq);have hp:=h p AAp;simp only[Xa];by_cases hy:∃y∈l,y.1=p.2.1
  ·rw[me p ps l hl hy];grind
  ·rw[gC p ps l λy hy2 e=>hy ⟨y,hy2,e⟩];grind
theorem jg(ps:OF):∀l:ADT,(∀y∈l,Q4 y.1 ps=y.2)->cz l ps=Vp l
 | [],_=>rfl
 |y::r,h=>by simp only[cz,Vp,h y AAp,jg ps r λz hz=>h z (AAR _ hz)]
theorem jk(h:∀p∈ps,1<=p.2.2)(hp:p∈ps):p.2.2<=Q4 p.2.1 ps:=by
 induction ps with
 |nil=>cases hp
 |cons q r ih=>
  have h1:=Vq p.2.1 r λz hz=>h z (AAR _ hz);have h2:=h q AAp;simp only[Q4];grind
theorem nc{l:ADT}(hl:X6 l):((∀p∈ps,1<=p.2.2/\p.2.2<=1000)/\(∀y∈l,Q4 y.1 ps=y.2)/\Vp l-Xa ps=0)↔PG ps l:=by
 constructor
 ·rintro ⟨h1,h2,h3⟩
  have hs:=(gB hl.1 ps λp hp=>(h1 p hp).1).2.1 (by rw[jg ps l h2];omega);exact⟨λp hp=>⟨(h1 p hp).1,hs p hp⟩,h2⟩
 ·rintro ⟨h1,h2⟩
  have hs:=(gB hl.1 ps λp hp=>(h1 p hp).1).2.2 λp hp=>(h1 p hp).2;refine⟨λp hp=>⟨(h1 p hp).1,?_⟩,h2,by rw[jg ps l h2]at hs;omega⟩;obtain⟨y,hy,e⟩:=(h1 p hp).2;have:=jk (λq hq=>(h1 q hq).1) hp;have h4:=h2 y hy;have h5:=hl.2.1 y hy;grind
def lI(nx:Int)(o:PS):Prop:=(1<=o.1/\o.1<=nx-1)/\(0<=o.2.1/\o.2.1<=99)/\(X6 o.2.2.1/\0<o.2.2.1.length)/\PG o.2.2.2.1 o.2.2.1/\(1<=o.2.2.2.2/\o.2.2.2.2<=3)
def W4(nx:Int)(l:ADR):Prop:=(1<=nx/\nx<=1000000)/\l.length<=30/\l.Pairwise (λa b=>a.1<b.1)/\∀o∈l,lI nx o
def iv(l:ADR):Prop:=∀o∈l,∀p∈o.2.2.2.1,1<=p.1/\p.1<=999
def aF(nx:Int)(l:ADR)(i:Nat):Bool:=match l[i]? with
 |some o=>P5 o.1 1 (nx-1)&&Ql (·.1) l i o&&P5 o.2.1 0 99&&P5 o.2.2.2.2 1 3 && !((o.2.2.1.length:Int)==0)&&Vy o.2.2.1&&Xp o.2.2.2.1 o.2.2.1
 |none=>false
theorem nZ{l:ADR}(hi:i<l.length):aF nx l i=true↔lI nx l[i]/\Ql (·.1) l i l[i]=true:=by
 unfold aF lI;rw[AAN hi];simp only[AAO,Vz,AAb,ABX];have hin:∀a b c:Int,P5 a b c=true↔b<=a/\a<=c:=λa b c=>by unfold P5;grind
 rw[hin,hin,hin];constructor
 ·rintro ⟨⟨⟨⟨⟨⟨h1,h2⟩,h3⟩,h4⟩,h5⟩,h6⟩,h7⟩
  exact⟨⟨h1,h3,⟨h6,J⟩,(Y3 _ _ h6.1).1 h7,h4⟩,h2⟩
 ·rintro ⟨⟨h1,h3,⟨h6,h5⟩,h7,h4⟩,h2⟩
  exact⟨⟨⟨⟨⟨⟨h1,h2⟩,h3⟩,h4⟩,J⟩,h6⟩,(Y3 _ _ h6.1).2 h7⟩
theorem ju{l:ADR}(hn:1<=nx/\nx<=1000000)(h30:l.length<=30):(List.range l.length).all (aF nx l)=true↔W4 nx l:=by
 rw[AAa];have hat:∀i (hi:i<l.length),aF nx l i=true↔lI nx l[i]/\Ql (·.1) l i l[i]=true:=λi hi=>nZ hi;constructor
 ·intro h;have hi:∀i (hi:i<l.length),lI nx l[i]/\Ql (·.1) l i l[i]=true:=λi hi=>(hat i hi).1 (h i (AAc.2 hi));refine⟨hn,h30,Xr _ _ λi hi2=>(YF (·.1) l (i+1) hi2).1 (hi (i+1) hi2).2 i rfl,λo ho=>?_⟩;obtain⟨i,hi2,rfl⟩:=ABV.1 ho;grind
 ·rintro ⟨_,_,h3,h4⟩ i hi
  have hi:=AAc.1 hi;exact(hat i hi).2 ⟨h4 _ (ABT hi),Zk h3 (λx y h=>h) i hi⟩
theorem dr(ps:OF)(h72:ps.length<=72)(hN:∀p∈ps,1<=p.2.2/\p.2.2<=1000)(k:Int)(n:Nat)(hn:PE<=n):YK n ps k=some (Q4 k ps):=by
 have hc:=PW (σ:=Int) (Vi ps k) (λi s=>(s,(i:Int))) ps (λr s=>(s+Q4 k r,(ps.length:Int))) (λi s=>0<=s/\s<=1000*(i:Int))
  (λs hs=>by unfold Vi;simp[Q4])
  (λi p r s g1 g2 g3 g4 g5=>by
   left;have hp:ps[i]=p:=by rw[AAN g1]at g2;exact Option.some.inj g2
   have hpN:=hN p (by rw[<-hp];exact ABT g1);unfold Vi;dsimp only;rw[show decide ((i:Int)<(ps.length:Int))=true by rw[AAk];clear hn;omega,ABR,O3 g1,hp,O1 g1 (show ps.length<=9223372036854775807 by clear hn;omega)];simp only[ABQ,Q4];cases(p.2.1==k)with
   |true=>
    rw[ABR,ABQ,PA (n:=s+p.2.2) ADX ADX];exact⟨s+p.2.2,rfl,⟨ADX,ADX⟩,by rw[ABR,ACJ]⟩
   |false=>
    rw[ABS,ABQ];exact⟨s,rfl,⟨g5.1,ADX⟩,by rw[ABS,Int.zero_add]⟩)
  n ADV 0 ⟨J,J⟩
 unfold YK;grind
theorem pB(l:ADT)(hl:X6 l)(n:Nat)(hn:PE<=n):iter n (SA l) (0,0)=some (Vp l,(l.length:Int)):=by
 have h6:=hl.2.2
 have hc:=PW (σ:=Int) (SA l) (λi s=>(s,(i:Int))) l (λr s=>(s+Vp r,(l.length:Int))) (λi s=>0<=s/\s<=1000*(i:Int))
  (λs hs=>by unfold SA;simp[Vp])
  (λi y r s g1 g2 g3 g4 g5=>by
   left;have hy:l[i]=y:=by rw[AAN g1]at g2;exact Option.some.inj g2
   have hyb:=hl.2.1 y (by rw[<-hy];exact ABT g1);refine⟨s+y.2,?_,⟨ADX,ADX⟩,by simp only[Vp,ACJ]⟩;unfold SA;dsimp only;rw[show decide ((i:Int)<(l.length:Int))=true by rw[AAk];clear hn;omega,ABR,O3 g1,hy,ABQ,O1 g1 (show l.length<=9223372036854775807 by clear hn;omega),PA (n:=s+y.2) ADX ADX])
  n ADV 0 ⟨J,J⟩
 grind
theorem pC(ps:OF)(h72:ps.length<=72)(hP:∀p∈ps,1<=p.1/\p.1<=999)(s0:Int)(hs0:0<=s0/\s0<=6000)(n:Nat)(hn:PE<=n):
  iter n (SB ps) (s0,0)=some (if ∀p∈ps,1<=p.2.2/\p.2.2<=1000 then .inl (s0-Xa ps,(ps.length:Int))else .inr false):=by
 have hc:=PW (σ:=Int) (SB ps) (λi s=>(s,(i:Int))) ps (λr s=>if ∀p∈r,1<=p.2.2/\p.2.2<=1000 then .inl (s-Xa r,(ps.length:Int))else .inr false) (λi s => -1000*(i:Int)<=s/\s<=6000)
  (λs hs=>by
   rw[AAT (λp hp=>by cases hp)];unfold SB;simp[Xa])
  (λi p r s g1 g2 g3 g4 g5=>by
   have hp:ps[i]=p:=by rw[AAN g1]at g2;exact Option.some.inj g2
   have hpP:=hP p (by rw[<-hp];exact ABT g1);unfold SB;dsimp only;rw[show decide ((i:Int)<(ps.length:Int))=true by rw[AAk];clear hn;omega,ABR,O3 g1,hp,O1 g1 (show ps.length<=9223372036854775807 by clear hn;omega)];simp only[ABQ,QP];rw[show P5 p.1 1 999=true by unfold P5;rw[ABW hpP.1,ABW hpP.2];rfl];by_cases hb:1<=p.2.2/\p.2.2<=1000
   ·left;rw[show P5 p.2.2 1 1000=true by unfold P5;rw[ABW hb.1,ABW hb.2];rfl];simp only[ABY,ABS,ABQ];rw[PA (n:=s-p.2.2) ADX ADX];refine⟨s-p.2.2,rfl,⟨ADX,ADX⟩,?_⟩;simp only[List.forall_mem_cons,hb,and_self,true_and,Xa,Int.sub_sub]
   ·right
    rw[show P5 p.2.2 1 1000=false by
     unfold P5;rw[ACO,AAs,AAs];by_cases h:1<=p.2.2
     ·exact .inr λq=>hb ⟨h,q⟩
     ·exact .inl h]
    rw[AAU (λq=>hb (q p AAp))];rfl)
  n ADV s0 ⟨J,J⟩
 omega
theorem bP(o:PS)(h1:o.2.2.1.length<=1048576)(hP:∀p∈o.2.2.2.1,1<=p.1/\p.1<=999)(n:Nat)(hn:PE<=n):
  WX n o.1 o.2.1 o.2.2.1 o.2.2.2.1 o.2.2.2.2=some (P5 o.2.1 0 99&&P5 o.2.2.2.2 1 3 && !((o.2.2.1.length:Int)==0)&&Vy o.2.2.1&&(decide (o.2.2.2.1.length<=72)&&Xp o.2.2.2.1 o.2.2.1)):=by
 obtain⟨id,desk,it,pk,st⟩:=o;dsimp only at h1 hP ⊢;unfold WX;simp only[QP,V4 it h1 n hn,ABQ];by_cases h72:pk.length<=72
 case neg=>
  grind
 rw[show decide ((pk.length:Int)>72)=false by grind,ABW h72,ABx];cases P5 desk 0 99 with
 |false=>rfl
 |true=>
 cases hi:Vy it with
 |false=>grind
 |true=>
 cases((it.length:Int)==0)with
 |true=>grind
 |false=>
 cases P5 st 1 3 with
 |false=>rfl
 |true=>
 have hI:=Vz.1 hi;have h6:=hI.2.2
 have hs0:0<=Vp it/\Vp it<=6000:=by
  have:∀l:ADT,(∀y∈l,1<=y.2/\y.2<=1000)->0<=Vp l/\Vp l<=1000*(l.length:Int):=by
   intro l
   induction l with
   |nil=>intro _;simp[Vp]
   |cons y r ih=>
    intro h;have a1:=ih λz hz=>h z (AAR _ hz);have a2:=h y AAp;simp only[Vp,ABG];clear hn;omega
  have:=this it λy hy=>⟨(hI.2.1 y hy).2.2.1,(hI.2.1 y hy).2.2.2⟩;clear hn;omega
 have hask:=nc hI (ps:=pk);have hpb:=Y3 pk it hI.1;simp only[ABY,ABr,ABS,AB9,ABx,ABQ];rw[pB it hI n hn,ABQ];dsimp only;rw[pC pk h72 hP (Vp it) hs0 n hn,ABQ];by_cases hN:∀p∈pk,1<=p.2.2/\p.2.2<=1000
 ·rw[AAT hN]
  have h3:=QN (Tw n it pk) it (λy=>Q4 y.1 pk==y.2) (λi x hi hx=>by
   obtain⟨_,rfl⟩:=AAP.1 hx;unfold Tw;rw[show decide ((i:Int)<(it.length:Int))=true by rw[AAk];clear hn;omega,ABR,O3 hi,ABQ,dr pk h72 hN it[i].1 n hn,ABQ,ABQ,O1 hi (show it.length<=9223372036854775807 by clear hn;omega)];simp only[bne];cases(Q4 it[i].1 pk==it[i].2)<;>rfl) (by unfold Tw;simp) n ADV
  dsimp only;rw[h3];cases ha:it.all (λy=>Q4 y.1 pk==y.2)with
  |false=>
   rw[ABS,ABQ];show some false=_
   rw[show Xp pk it=false by
    rw[<-ABt];intro h;have:=(hask.2 (hpb.1 h)).2.1;rw[<-ABt]at ha;exact ha (AAa.2 λy hy=>AAY.2 (this y hy))]
  |true=>
   rw[ABR,ABQ];show some (Vp it-Xa pk==0)=_;refine congrArg some ?_;rw[ABz,hpb,<-hask,AAY];exact⟨λh=>⟨hN,λy hy=>AAY.1 (AAa.1 ha y hy),h⟩,λh=>h.2.2⟩
 grind
def kL(l:ADR)(i:Nat):Bool:=match l[i]? with
 |some o=>decide (o.2.2.2.1.length<=72)
 |none=>false
theorem ZH{l:ADR}(h:QU (nx,l))(hp:iv l)(n:Nat)(hn:PE<=n):∃b,Qt n nx l=some b/\(b=true↔W4 nx l/\∀o∈l,o.2.2.2.1.length<=72):=by
 have hl:l.length<=1048576:=h.1;unfold Qt;simp only[QP,ABQ];by_cases hx:1<=nx/\nx<=1000000
 ·rw[show P5 nx 1 1000000=true by unfold P5;rw[ABW hx.1,ABW hx.2];rfl];simp only[ABY,ABS,ABQ];by_cases h30:l.length<=30
  ·rw[show decide ((l.length:Int)>30)=false by grind,ABS]
   have:=QZ (Vc n nx l) (λi=>(i:Int)) l.length (λi=>aF nx l i&&kL l i) (λi hi=>by
    have hm:=ABT hi;have hpr:(bif decide ((i:Int)>0)then(Iv l (O5 ((i:Int)-1))).bind (λy=>some (decide (y.1>=l[i].1)))else some false)=some (!Ql (·.1) l i l[i]):=YW (·.1) l l[i] i hi hl some;have hov:=bP l[i] (h.2 _ hm).1 (hp _ hm) n hn;simp only[Vc,O3 hi,ABQ,QP,O1 hi (show l.length<=9223372036854775807 by clear hn;omega),hpr,hov];rw[show decide ((i:Int)<(l.length:Int))=true by rw[AAk];clear hn;omega,PA (n:=nx-1) ADX ADX];unfold aF kL;grind) (by simp[Vc]) n ADV
   rw[show((0:Nat):Int)=0 from rfl]at this;rw[this,ABQ];refine⟨(List.range l.length).all (λi=>aF nx l i&&kL l i),?_,?_⟩
   ·grind
   ·rw[<-ju hx h30,AAa,AAa];simp only[AAO];constructor
    ·intro q;refine⟨λi hi=>(q i hi).1,λo ho=>?_⟩;obtain⟨i,hi,rfl⟩:=ABV.1 ho;have:=(q i (AAc.2 hi)).2;unfold kL at this;grind
    ·rintro ⟨q1,q2⟩ i hi
     refine⟨q1 i hi,?_⟩;have hi:=AAc.1 hi;unfold kL;grind
  ·rw[show decide ((l.length:Int)>30)=true by grind,ABR];exact⟨false,rfl,(λe=>by cases e),λhb=>(h30 hb.1.2.1).elim⟩
 ·rw[show P5 nx 1 1000000=false by
   unfold P5;rw[ACO,AAs,AAs];by_cases h:1<=nx
   ·exact .inr λq=>hx ⟨h,q⟩
   ·exact .inl h]
  exact⟨false,rfl,(λe=>by cases e),λhb=>(hx hb.1.1).elim⟩
theorem Ww{l:ADR}(h:QU (nx,l))(n:Nat)(hn:PE<=n):∃b,Q5 n nx l=some b/\(b=true↔W4 nx l):=by
 have hl:l.length<=1048576:=h.1;unfold Q5;simp only[U0,QP,ABQ];by_cases hx:1<=nx/\nx<=1000000
 ·rw[show P5 nx 1 1000000=true by unfold P5;rw[ABW hx.1,ABW hx.2];rfl];simp only[ABY,ABS,ABQ];by_cases h30:l.length<=30
  ·rw[show decide ((l.length:Int)>30)=false by rw[AAs];clear hn;omega,ABS]
   have:=QZ (VE n nx l) (λi=>(i:Int)) l.length (aF nx l) (λi hi=>by
    have hm:=ABT hi;have hpr:∀C:Option Bool,(bif decide ((i:Int)>0)then(Iv l (O5 ((i:Int)-1))).bind (λy=>bif decide (y.1>=l[i].1)then some true else C)else C)=bif !Ql (·.1) l i l[i]then some true else C:=λC=>YW (·.1) l l[i] i hi hl λb=>bif b then some true else C;have hit:l[i].2.2.1.length<=1048576:=(h.2 _ hm).1;have hpk:l[i].2.2.2.1.length<=1048576:=(h.2 _ hm).2
    have hpo:Vy l[i].2.2.1=true->VT n l[i].2.2.2.1 l[i].2.2.1=some (Xp l[i].2.2.2.1 l[i].2.2.1):=λe=>by
     have hI:=Vz.1 e;exact cF _ hpk _ ⟨hI.1,λy hy=>by have:=hI.2.1 y hy;clear hn;omega,hI.2.2⟩ n hn
    simp only[VE,O3 hi,ABQ,U0,QP,O1 hi (show l.length<=9223372036854775807 by clear hn;omega),hpr,Rx _ hit n hn];rw[show decide ((i:Int)<(l.length:Int))=true by rw[AAk];clear hn;omega,PA (n:=nx-1) ADX ADX];unfold aF;rw[AAN hi];dsimp only;cases hib:Vy l[i].2.2.1 with
    |false=>cases P5 l[i].1 1 (nx-1)<;>cases Ql (·.1) l i l[i]<;>cases P5 l[i].2.1 0 99<;>cases P5 l[i].2.2.2.2 1 3<;>cases((l[i].2.2.1.length:Int)==0)<;>rfl
    |true=>
     rw[hpo hib];cases P5 l[i].1 1 (nx-1)<;>cases Ql (·.1) l i l[i]<;>cases P5 l[i].2.1 0 99<;>cases P5 l[i].2.2.2.2 1 3<;>cases((l[i].2.2.1.length:Int)==0)<;>cases Xp l[i].2.2.2.1 l[i].2.2.1<;>rfl) (by simp[VE]) n ADV
   rw[show((0:Nat):Int)=0 from rfl]at this;rw[this,ABQ];refine⟨(List.range l.length).all (aF nx l),?_,ju hx h30⟩;grind
  ·rw[show decide ((l.length:Int)>30)=true by grind,ABR];exact⟨false,rfl,(λe=>by cases e),λhb=>(h30 hb.2.1).elim⟩
 ·rw[show P5 nx 1 1000000=false by
   unfold P5;rw[ACO,AAs,AAs];by_cases h:1<=nx
   ·exact .inr λq=>hx ⟨h,q⟩
   ·exact .inl h]
  exact⟨false,rfl,(λe=>by cases e),λhb=>(hx hb.1).elim⟩
def Ok{α:Type}(x:Option α)(P:α->Prop):Prop:=∃r,x=some r/\P r
section
variable {α β γ:Type}{P:α->Prop}{Q:β->Prop}
theorem Ok.pure{r:α}(h:P r):Ok (some r) P:=⟨r,rfl,h⟩
theorem Ok.bind{x:Option α}{f:α->Option β}(h:Ok x P)(hf:∀r,P r->Ok (f r) Q):Ok (x.bind f) Q:=by obtain⟨r,rfl,hr⟩:=h;exact hf r hr
theorem Ok.cond{b:Bool}{x y:Option α}(h1:b=true->Ok x P)(h2:b=false->Ok y P):Ok (bif b then x else y) P:=No
theorem Ok.guard{b:Bool}{x y:Option α}(hb:b=true)(h:Ok x P):Ok (bif b then x else y) P:=No
theorem Ok.Iv{xs:List α}{i:Int}(h:0<=i/\i<(xs.length:Int)):Ok (Go.Ev.Iv xs i) λr=>xs[i.toNat]?=some r:=by
 obtain⟨m,rfl⟩:∃m:Nat,i=m:=⟨i.toNat,J⟩;have hm:m<xs.length:=J
 exact⟨xs[m],O3 hm,by simp[hm]⟩
theorem Ok.get{xs:List α}{i:Nat}(h:i<xs.length):Ok xs[i]? λr=>xs[i]?=some r:=⟨xs[i],AAN h,AAN h⟩
theorem fA{xs:List α}{i:Int}(h:0<=i/\i<(xs.length:Int)):ON xs i=true:=by unfold ON;grind
theorem Ok.iter{f:α->Option (α⊕γ)}{S:γ->Prop}(R:Nat->α->Prop)
  (h:∀k x,R k x->Ok (f x) λy=>(∃x',y=.inl x'/\∃k',R k' x'/\k'<k)\/∃z,y=.inr z/\S z) {n k:Nat} {x:α} (hR:R k x) (hk:k<n):Ok (Go.Ev.iter n f x) S:=by
 obtain⟨z,hz,e⟩:=Tq R S (λk x hx=>by
  obtain⟨y,e,hy⟩:=h k x hx;rcases hy with⟨x',rfl,k',h1,h2⟩|⟨z,rfl,h1⟩
  ·exact .inr ⟨x',k',e,h1,h2⟩
  grind) n k x hR hk
 exact⟨z,e,hz⟩
end
def QQ{α:Type}(g:Nat->Option α):Prop:=∀n m r,n<=m->g n=some r->g m=some r
theorem QQ.const{α:Type}(x:Option α):QQ λ_=>x:=λ_ _ _ _ h=>h
theorem QQ.bind{α β:Type}{g:Nat->Option α}{f:Nat->α->Option β}(hg:QQ g)(hf:∀x,QQ λn=>f n x):QQ λn=>(g n).bind (f n):=by
 intro n m r hnm h;cases hx:g n with
 |none=>grind
 |some x=>
  simp only[hx,ABQ]at h;simp only[hg n m x hnm hx,ABQ];exact hf x n m r hnm h
theorem QQ.cond{α:Type}{b:Bool}{g h:Nat->Option α}(hg:QQ g)(hh:QQ h):QQ λn=>bif b then g n else h n:=by
 cases b with
 |true=>exact hg
 |false=>exact hh
theorem QQ.iter{α γ:Type}{L:Nat->α->Option (α⊕γ)}(hL:∀x,QQ λn=>L n x)(x0:α):QQ λn=>Go.Ev.iter n (L n) x0:=by
 have key:∀(k n m:Nat)(x:α)(r:γ),n<=m->k<=k+0->Go.Ev.iter k (L n) x=some r->∀j,k<=j->Go.Ev.iter j (L m) x=some r:=by
  intro k
  induction k with
  |zero=>intro n m x r _ _ h;simp[Go.Ev.iter]at h
  |succ k ih=>
   intro n m x r hnm _ h j hj;obtain⟨j,rfl⟩:∃i,j=i+1:=⟨j-1,J⟩;simp only[Go.Ev.iter]at h ⊢;cases hx:L n x with
   |none=>rw[hx]at h;cases h
   |some y=>
    rw[hx]at h;have h2:L m x=some y:=hL x n m y hnm hx;rw[h2];cases y with
    |inl x'=>exact ih n m x' r hnm J h j J
    |inr z=>exact h
 intro n m r hnm h;grind
def Cu(b:By)(i:Int):Prop:=b.length<=1048576/\0<=i
theorem R1{i c:Int}(h:Cu b i)(m:Int):Ok (Pl b i c m) λx=>Cu x.2.1 x.2.2.1/\0<=x.1/\(0<m->x.1<m):=by obtain⟨x,i',h',e,h1,h2,h3⟩:=fE b i c h.2 h.1 m;exact⟨_,e,⟨h.1,h1⟩,h2,λhm=>J⟩
theorem eE{i c:Int}(h:Cu b i)(m:Int):Ok (Ta b i c m) λx=>Cu x.2.1 x.2.2.1:=by unfold Ta;exact(R1 h m).bind λr hr=>Ok.pure hr.1
theorem ok_int{i c:Int}(h:Cu b i){xs:By}(hx:0<xs.length):Ok (V6 b i c xs) λx=>Cu x.2.1 x.2.2.1/\x.1∈xs:=by unfold V6;refine(R1 h _).bind λr hr=>(Ok.Iv ⟨hr.2.1,hr.2.2 J⟩).bind λv hv=>Ok.pure ⟨hr.1,AAS hv⟩
theorem o9{i c:Int}(h:Cu b i){xs:List ADc}(hx:0<xs.length):Ok (X1 b i c xs) λx=>Cu x.2.1 x.2.2.1/\x.1∈xs:=by unfold X1;refine(R1 h _).bind λr hr=>(Ok.Iv ⟨hr.2.1,hr.2.2 J⟩).bind λv hv=>Ok.pure ⟨hr.1,AAS hv⟩
theorem mD(s:ADc)(b:Int):QQ λn=>XZ n s b:=by unfold XZ;exact QQ.bind (QQ.iter (L:=λ_=>ZN s b) (λ_=>QQ.const _) _) λ_=>QQ.const _
theorem nP(c:Int):QQ λn=>YM n c:=by unfold YM;exact QQ.bind (QQ.iter (L:=λ_=>Zp c) (λ_=>QQ.const _) _) λx=>QQ.const _
theorem l6(s:ADc):QQ λn=>Qb n s:=by unfold Qb;refine QQ.bind (mD s 10) λx1=>QQ.cond (QQ.bind (QQ.const _) λx2=>QQ.bind (QQ.iter (L:=λn=>Uu n x1) (λx3=>?_) _) λ_=>QQ.const _) (QQ.const _);unfold Uu;refine QQ.cond (QQ.bind (QQ.const _) λx5=>QQ.cond (QQ.const _) (QQ.bind (QQ.const _) λx9=>QQ.cond (QQ.const _) (QQ.bind (QQ.iter (L:=λn=>Uv n x1 x3) (λx10=>?_) _) λ_=>QQ.const _))) (QQ.const _);unfold Uv;refine QQ.cond (QQ.bind (QQ.const _) λ_=>QQ.cond (QQ.cond (QQ.bind (QQ.const _) λ_=>QQ.bind (QQ.const _) λ_=>QQ.bind (nP _) λ_=>QQ.const _) (QQ.const _)) (QQ.const _)) (QQ.const _)
def aT:List ADc:=[[99,46,46,46,46,46,10,46,112,112,46,112,46,10,46,112,112,46,112,46,10,46,46,46,46,46,115,10],[99,46,46,10,46,46,46,10,46,46,115,10],[46,46,46,46,46,10,46,112,35,112,46,10,46,46,115,46,46,10,46,112,35,112,46,10,99,46,46,46,99,10],[46,46,46,35,46,46,46,10,46,46,46,46,46,46,46,10,46,46,46,35,46,46,46,10],[99,46,46,46,46,46,46,46,10,46,112,46,112,46,112,46,46,10,46,46,46,46,46,46,46,115,10,46,112,46,112,46,112,46,46,10,99,46,46,46,46,46,46,115,10],[46,46,10,46,46,10],[99,46,35,46,115,10,46,46,35,46,46,10]]
def eD(s:ADc):Bool:=match Qb 60 s with
 |some (w,h,c,b)=>PU w h c&&b == -1&&decide (0<c.length)
 |none=>false
theorem gQ:aT.all eD=true:=by kernel_rfl
theorem kV{s:ADc}(h:eD s=true)(n:Nat)(hn:PE<=n):Ok (Qb n s) λx=>PU x.1 x.2.1 x.2.2.1=true/\x.2.2.2 = -1/\0<x.2.2.1.length:=by
 unfold eD at h;cases hp:Qb 60 s with
 |none=>grind
 |some x=>
  rw[hp]at h;obtain⟨w,q,c,b⟩:=x;simp only[AAO,AAY,AAk]at h;exact⟨_,l6 s 60 n _ ADV hp,h.1.1,h.1.2,h.2⟩
theorem lY(n:Nat)(hn:PE<=n){i c:Int}(h:Cu b i):Ok (Vj n b i c) λx=>PU x.1 x.2.1 x.2.2.1=true/\0<x.2.2.1.length/\Cu x.2.2.2.1 x.2.2.2.2.1:=by
 unfold Vj;refine(eE h 3).bind λr hr=>Ok.cond (λ_=>?_) λ_=>?_
 ·refine(o9 hr (xs:=aT) (by simp[aT])).bind λt ht=>?_;refine(kV (AAa.1 gQ _ ht.2) n hn).bind λx hx=>Ok.pure ⟨hx.1,hx.2.2,ht.1⟩
 ·refine(R1 hr 7).bind λx hx=>(R1 hx.1 6).bind λy hy=>?_;have x1:=hx.2.2 J;have y1:=hy.2.2 J;have x0:=hx.2.1;have y0:=hy.2.1;rw[PA (n:=1+x.1) J J,PA (n:=1+y.1) J J];generalize hW:1+x.1=W;generalize hH:1+y.1=H
  have hWH:W*H<=100/\1<=W*H:=by
   have a1:1<=W:=J
   have a2:W<=10:=J
   have a3:1<=H:=J
   have a4:H<=10:=J
   have h1:W*H<=10*H:=Int.mul_le_mul_of_nonneg_right a2 J;have h2:1*H<=W*H:=Int.mul_le_mul_of_nonneg_right a1 J;omega
  refine Ok.bind (P:=λz=>PU W H z.2.2.2.2.2.2=true/\0<z.2.2.2.2.2.2.length/\z.2.2.2.2.1=W/\z.2.2.2.2.2.1=H/\Cu z.2.1 z.2.2.1) (Ok.iter (λk z=>z.1+(k:Int)=W*H/\0<=z.1/\(z.2.2.2.2.2.2.length:Int)=z.1/\(z.2.2.2.2.2.2.all λk=>P5 k 0 4)=true/\z.2.2.2.2.1=W/\z.2.2.2.2.2.1=H/\Cu z.2.1 z.2.2.1) (λk z hz=>?_) (k:=(W*H).toNat) ⟨J,J,rfl,rfl,rfl,rfl,hy.1⟩ ADV) λz hz=>?_
  ·obtain⟨z1,z2,z3,z4,z5,z6,z7⟩:=hz;unfold ZM;rw[z5,z6,PA (n:=W*H) J J];refine Ok.cond (λhb=>?_) λhb=>?_
   ·have hb:=AAy hb;refine(ok_int z7 AAB).bind λv hv=>Ok.guard (Re J) (Ok.pure (.inl ⟨_,rfl,k-1,⟨?_,?_,?_,?_,rfl,rfl,hv.1⟩,J⟩))
    ·show O5 (z.1+1)+_=_;rw[PA J J];omega
    ·show 0<=O5 (z.1+1);rw[PA J J];omega
    ·show((z.2.2.2.2.2.2++[v.1]).length:Int)=O5 (z.1+1);rw[PA J J];simp;omega
    ·show((z.2.2.2.2.2.2++[v.1]).all λk=>P5 k 0 4)=true;rw[List.all_append,z4];have hv2:=hv.2;simp only[AAj,List.not_mem_nil,or_false]at hv2;rcases hv2 with e|e|e|e|e|e|e|e|e|e<;>rw[e]<;>rfl
   ·have hb:=of_decide_eq_false hb;refine Ok.pure (.inr ⟨_,rfl,?_,?_,z5,z6,z7⟩)
    ·show PU W H z.2.2.2.2.2.2=true;unfold PU;rw[z4,PA (n:=W*H) J J,show((z.2.2.2.2.2.2.length:Int)==W*H)=true by rw[AAY];omega];unfold P5;rw[ABW (show 1<=W by omega),ABW (show W<=10 by omega),ABW (show 1<=H by omega),ABW (show H<=10 by omega)];rfl
    grind
  ·obtain⟨z1,z2,z3,z4,z5⟩:=hz;refine Ok.pure ⟨?_,z2,z5⟩;grind
theorem kf(a:ADS)(ha:a.length<=1048576)(n:Nat)(hn:PE<=n):WM n a a=some true:=by
 have h1:=QN (Tr a a) a (λ_=>true) (λi x hi hx=>by
  obtain⟨_,rfl⟩:=AAP.1 hx;have hd:decide ((i:Int)<(a.length:Int))=true:=by rw[AAk];clear hn;omega
  simp only[Tr,hd,ABR,O3 hi,ABQ,ABq,AB2,ABY,ABS,O1 hi (show a.length<=9223372036854775807 by clear hn;omega)]) (by simp[Tr]) n ADV
 unfold WM;grind
theorem ja(a:AAM)(ha:a.length<=1048576)(n:Nat)(hn:PE<=n):VX n a a=some true:=by
 have h1:=QN (S6 a a) a (λ_=>true) (λi x hi hx=>by
  obtain⟨_,rfl⟩:=AAP.1 hx;have hd:decide ((i:Int)<(a.length:Int))=true:=by rw[AAk];clear hn;omega
  simp only[S6,hd,ABR,O3 hi,ABQ,ABq,AB2,ABY,ABS,O1 hi (show a.length<=9223372036854775807 by clear hn;omega)]) (by simp[S6]) n ADV
 unfold VX;grind
def QR(c:By)(k:Int):Nat->By
 |0=>[]
 |i+1=>bif c.getD i 0==k then QR c k i++[(i:Int)]else QR c k i
theorem aM(c:By)(k:Int):∀i,(QR c k i).length<=i
 |0=>AAi _
 |i+1=>by have:=aM c k i;unfold QR;grind
theorem Xf{c:By}{k x:Int}:∀ {i},x∈QR c k i->∃j:Nat,x=(j:Int)/\j<i/\c.getD j 0=k
 |0,h=>by cases h
 |i+1,h=>by
  unfold QR at h;cases hb:(c.getD i 0==k)with
  |false=>
   rw[hb,ABS]at h;obtain⟨j,h1,h2,h3⟩:=Xf h;grind
  |true=>
   rw[hb,ABR,ABJ,ABb]at h;rcases h with h|h
   ·obtain⟨j,h1,h2,h3⟩:=Xf h;exact⟨j,h1,J,h3⟩
   grind
theorem bf(c:By)(k:Int):∀i,(QR c k i).Pairwise (· < ·)
 |0=>List.Pairwise.nil
 |i+1=>by
  have hp:=bf c k i;unfold QR;cases hb:(c.getD i 0==k)with
  |false=>grind
  |true=>
   rw[ABR,ABs];refine⟨hp,List.pairwise_singleton _ _,λx hx y hy=>?_⟩;obtain⟨j,h1,h2,_⟩:=Xf hx;grind
theorem mv(hi:i<c.length):QR c k (i+1)=bif c[i]==k then QR c k i++[(i:Int)]else QR c k i:=by rw[QR,show c.getD i 0=c[i] by simp[hi]]
theorem V2(w h:Int)(c:By)(hl:c.length<=1048576)(hf:PU w h c=true)(k:Int)(n:Nat)(hn:PE<=n):SR n w h c k=some (QR c k c.length):=by
 have hs:=Pn w h c hl n hn
 have h1:iter n (Se n w h c k) (([]:By),(0:Int))=some (QR c k c.length,(c.length:Int)):=Pb (Se n w h c k) (λi=>(QR c k i,(i:Int))) c.length (QR c k c.length,(c.length:Int)) (λi hi=>by
  have hr:decide ((QR c k i).length+1<=E7)=true:=Re (by have:=aM c k i;clear hn;omega);unfold Se;rw[hs,hf];dsimp only;rw[show decide ((i:Int)<(c.length:Int))=true by rw[AAk];clear hn;omega,mv hi];simp only[ABR,ABQ,O3 hi,O1 hi (show c.length<=9223372036854775807 by clear hn;omega),ABZ,hr];grind) (by unfold Se;grind) n ADV
 unfold SR;rw[h1];rfl
def Zf(w h:Int)(c:By)(a:Is):Bool:=PU w h c&&Pr a&&(List.range a.length).all (Yt a)&&(List.range a.length).all (aV c a)
def Pu(c:By):By:=QR c 4 c.length
theorem oQ(k:Int):∀(l:Is)(z:Int),(∀p∈l,0<=TC p.2.2 k/\TC p.2.2 k<=1000)->z<=(l.map λp=>TC p.2.2 k).foldl (· + ·) z/\(l.map λp=>TC p.2.2 k).foldl (· + ·) z<=z+1000*(l.length:Int)
 | [],z,_=>AAB
 |p::l,z,h=>by have h1:=h p AAp;have h2:=oQ k l (z+TC p.2.2 k) λq hq=>h q (AAR _ hq);grind
theorem eN(a:Is)(k:Int):0<=Sy a k/\Sy a k<=12000:=by
 unfold Sy;cases h:Pr a with
 |false=>grind
 |true=>
  rw[ABR];obtain⟨h1,h2⟩:=jU h
  have:=oQ k a 0 λp hp=>by obtain⟨i,hi,rfl⟩:=ABV.1 hp;exact cu (h2 i hi) k
  omega
theorem dL(a:Is):∀m,m<=50->∀j,j<=50->(Rt a m)[j]?=some (bif decide (1<=j)&&decide (j<=m)then Sy a (j:Int)else 0)
 |0,_,j,hj=>by
  have:(decide (1<=j)&&decide (j<=0))=false:=by rw[ACO,AAs,AAs];omega
  rw[this,ABS];show(List.replicate 51 (0:Int))[j]?=some 0;grind
 |m+1,hm,j,hj=>by have hi:=dL a m J j hj;show((Rt a m).set (m+1) (Sy a ((m+1:Nat):Int)))[j]?=_;grind
theorem eP(ds:By):∀m i,i<m->(Rv ds m)[i]?=some (((i+1:Nat):Int),ds.getD i 0, -1,false,0)
 |0,i,h=>J
 |m+1,i,h=>by
  rw[Rv,List.getElem?_append,Uq];by_cases hi:i<m
  ·rw[AAT hi];exact eP ds m i hi
  grind
theorem Xc{ds:By}{m:Nat}(h:i<(Rv ds m).length):(Rv ds m)[i]=(((i+1:Nat):Int),ds.getD i 0, -1,false,0):=by have:=eP ds m i (by rw[Uq]at h;exact h);grind
theorem lO(hi:i<(Pu c).length):QO c ((Pu c).getD i 0)=true:=by rw[show(Pu c).getD i 0=(Pu c)[i] by simp[hi]];obtain⟨j,h1,h2,h3⟩:=Xf (ABT hi);rw[h1];unfold QO P5;grind
theorem rG(c:By):CW c (Rv (Pu c) (min (Pu c).length 20)):=by
 have key:∀r∈Rv (Pu c) (min (Pu c).length 20),∃i:Nat,i<(Pu c).length/\i<20/\r=(((i+1:Nat):Int),(Pu c).getD i 0, -1,false,0):=by intro r hr;obtain⟨i,hi,rfl⟩:=ABV.1 hr;have hi2:=hi;rw[Uq]at hi2;exact⟨i,J,J,Xc hi⟩
 have hpw:=bf c 4 c.length;refine⟨by rw[Uq];omega,λr hr=>?_,λr hr=>?_,λr hr=>?_,λr hr=>?_,?_,?_⟩
 ·grind
 ·obtain⟨i,h1,h2,rfl⟩:=key r hr;exact lO h1
 ·grind
 ·grind
 ·refine ABN.2 λi j hi hj hij=>?_;rw[Xc hi,Xc hj];omega
 ·refine ABN.2 λi j hi hj hij=>?_;have hi2:=hi;have hj2:=hj;rw[Uq]at hi2 hj2;have hdi:i<(Pu c).length:=J
  have hdj:j<(Pu c).length:=J
  rw[Xc hi,Xc hj];show(Pu c).getD i 0≠(Pu c).getD j 0;have:(Pu c)[i]<(Pu c)[j]:=ABN.1 hpw i j hdi hdj hij;grind
theorem Zg(hok:Zf w h c a=true):PU w h c=true/\Pr a=true/\(∀p∈a,∀s∈p.2.2,s.2.2<=0)/\∀p∈a,P5 p.2.1 0 ((c.length:Int)-1)=true/\c.getD p.2.1.toNat 0=2:=by
 unfold Zf at hok;simp only[AAO,AAa,AAc]at hok;obtain⟨⟨⟨h1,h2⟩,h3⟩,h4⟩:=hok;refine⟨h1,h2,λp hp s hs=>?_,λp hp=>?_⟩
 ·obtain⟨i,hi,rfl⟩:=ABV.1 hp;obtain⟨k,hk,rfl⟩:=ABV.1 hs;have:=h3 i hi;unfold Yt at this;rw[AAN hi]at this;have:=AAa.1 this k (AAc.2 hk);grind
 ·obtain⟨i,hi,rfl⟩:=ABV.1 hp;have:=h4 i hi;unfold aV at this;grind
theorem fx(a:Is){j:Nat}(hj:j<=50):(Rt a 50)[j]?=some (bif decide (1<=j)then Sy a (j:Int)else 0):=by rw[dL a 50 J j hj,ABW (show j<=50 from hj),AB9]
theorem jZ(a:Is)(ha:PZ a)(n:Nat)(hn:PE<=n):VW n a a=some true:=by
 have hl:a.length<=1048576:=ha.1
 have h1:=QN (S4 n a a) a (λ_=>true) (λi x hi hx=>by
  obtain⟨_,rfl⟩:=AAP.1 hx;have hpl:a[i].2.2.length<=1048576:=ha.2 _ (ABT hi)
  have h2:=QN (S5 a[i] a[i]) a[i].2.2 (λ_=>true) (λj y hj hy=>by
   obtain⟨_,rfl⟩:=AAP.1 hy;have hd:decide ((j:Int)<(a[i].2.2.length:Int))=true:=by rw[AAk];clear hn;omega
   simp only[S5,hd,ABR,O3 hj,ABQ,ABq,AB2,ABY,ABS,O1 hj (show a[i].2.2.length<=9223372036854775807 by clear hn;omega)]) (by simp[S5]) n ADV
  have hall:a[i].2.2.all (λ_=>true)=true:=AAB
  rw[hall,ABR]at h2;have hd:decide ((i:Int)<(a.length:Int))=true:=by rw[AAk];clear hn;omega
  simp only[S4,hd,ABR,O3 hi,ABQ,ACV,ABS,h2,O1 hi (show a.length<=9223372036854775807 by clear hn;omega)]) (by simp[S4]) n ADV
 unfold VW;grind
structure r7(nx:Int)(l:ADR):Prop where
 sm:QU (nx,l)
 len:l.length<=29
 RL:iv l
 dc:W4 nx l->∀o∈l,o.2.2.2.1.length<=72
theorem r7.both{l:ADR}(h:r7 nx l)(n:Nat)(hn:PE<=n):∃b,Qt n nx l=some b/\Q5 n nx l=some b/\(b=true↔W4 nx l):=by
 obtain⟨b1,e1,i1⟩:=ZH h.sm h.RL n hn;obtain⟨b2,e2,i2⟩:=Ww h.sm n hn
 have:b1=b2:=by rw[ABz,i1,i2];exact⟨λq=>q.1,λq=>⟨q,h.dc q⟩⟩
 grind
abbrev xv:=Is×Int×ADR×Int
structure dC(s:Is)(nx:Int)(l:ADR)(desk:Int)(it:ADT)(o:OF):Prop where
 st:PF s
 im:X6 it
 ne:0<it.length
 dk:0<=desk/\desk<=99
 bk:W4 nx l
 lt:nx<1000000
 fit:Fits s o
 pg:PG o it
 dc:o.length<=72
def uz(s:Is)(nx:Int)(l:ADR)(desk:Int)(it:ADT)(o:OF):xv:=(Pj s (tp o),nx+1,l++[(nx,desk,it,o,1)],nx)
def vI(s:Is)(nx:Int)(l:ADR)(desk:Int)(it:ADT)(r:xv):Prop:=r=(s,nx,l,0)\/∃o,dC s nx l desk it o/\r=uz s nx l desk it o
theorem cT(s:Is)(hs:PZ s){l:ADR}(hq:r7 nx l)(desk:Int)(it:ADT)(hit:it.length<=1000)(n:Nat)(hn:PE<=n)(b:Bool)(eb:Qt n nx l=some b)(o:OF)(pb:Bool)(ep:TV n s it=some (o,pb)):
  TS n s nx l desk it=some (bif Pr s&&b&&P5 desk 0 99 && !((it.length:Int)==0) && !(nx==1000000)&&pb then((Qe Wf s o).1,O5 (nx+1),l++[(nx,desk,it,o,1)],nx)else(s,nx,l,0))\/1048576<o.length:=by
 by_cases ho:1048576<o.length
 ·exact .inr ho
 left;have h29:=hq.len;unfold TS;rw[Sg nx l hq.sm n hn,ABQ,P1 s hs n hn,eb];simp only[ABQ,QP,PQ s hs n hn,ep];rw[show((l.length:Int)==30)=false by rw[ABX];clear hn;omega];have h1:decide (([]:ADT).length+it.length<=E7)=true:=Ut No;have h2:decide (l.length+1<=E7)=true:=Re J;cases Pr s with
 |false=>rfl
 |true=>
 cases b with
 |false=>rfl
 |true=>
 cases P5 desk 0 99 with
 |false=>rfl
 |true=>
 cases((it.length:Int)==0)with
 |true=>rfl
 |false=>
 cases(nx==1000000)with
 |true=>rfl
 |false=>
 cases pb with
 |false=>rfl
 |true=>
  simp only[ABY,ABr,ABS,ABR,ABQ,AB2,ABZ,h1,h2,AA2];rw[cX s hs o J n hn];rfl
theorem bq(s:Is)(hs:PZ s){l:ADR}(hq:r7 nx l)(desk:Int)(it:ADT)(hit:it.length<=1000)(n:Nat)(hn:PE<=n)(b:Bool)(eb:Q5 n nx l=some b)(o:OF)(ho:o.length<=1048576)(pb:Bool)(ep:Ur n s it=some (o,pb)):
  Uz n s nx l desk it=some (bif Pr s&&b&&P5 desk 0 99 && !((it.length:Int)==0)&&Vy it && !(decide (nx>=1000000))&&(pb&&(Qe Wf s o).2)then((Qe Wf s o).1,O5 (nx+1),l++[(nx,desk,it,o,1)],nx)else(s,nx,l,0)):=by
 have h29:=hq.len;unfold Uz;rw[QH s hs n hn,eb];simp only[ABQ,U0,QP,Po s hs n hn,Tn nx l hq.sm n hn,ep,Ye s hs o ho n hn,Rx it (show it.length<=1048576 by omega) n hn];rw[show decide ((l.length:Int)>=30)=false by rw[AAs];clear hn;omega];have h1:decide (it.length<=E7)=true:=Ut J;have h2:decide (l.length+1<=E7)=true:=Re J;unfold QS;simp only[h1,ABZ,h2,ABR,ABQ];cases Pr s with
 |false=>rfl
 |true=>
 grind
theorem jr(s:Is)(hs:PZ s){l:ADR}(hq:r7 nx l)(desk:Int)(it:ADT)(hit:it.length<=1000)(n:Nat)(hn:PE<=n):∃r,TS n s nx l desk it=some r/\Uz n s nx l desk it=some r/\vI s nx l desk it r:=by
 obtain⟨b,eb1,eb2,hb⟩:=hq.both n hn;obtain⟨o,pb,ep1,ep2,hp1,hp2⟩:=mn s hs it J n hn
 have ho:o.length<=72:=by
  cases pb with
  |true=>grind
  |false=>grind
 have e1:=(cT s hs hq desk it hit n hn b eb1 o pb ep1).resolve_right J;have e2:=bq s hs hq desk it hit n hn b eb2 o J pb ep2;cases pb with
 |false=>
  refine⟨(s,nx,l,0),?_,?_,.inl rfl⟩
  all_goals grind
 |true=>
  obtain⟨hS,hI,hpg,hft,_⟩:=hp1 rfl;have hH:=iG hS hft;rw[hH.1]at e1 e2;rw[Vz.2 hI]at e2;by_cases hB:W4 nx l
  ·have hnx:=hB.1;rw[hb.2 hB]at e1 e2
   have hne:(!(nx==1000000)) = !(decide (nx>=1000000)):=by
    by_cases h:nx=1000000
    ·rw[h];rfl
    ·grind
   rw[hne]at e1;by_cases hok:(P5 desk 0 99 && !((it.length:Int)==0) && !(decide (nx>=1000000)))=true
   ·have hfull:(Pr s&&true&&P5 desk 0 99 && !((it.length:Int)==0) && !(decide (nx>=1000000))&&true)=true:=by rw[Pq.2 hS];simp only[AB9,ABx];exact hok
    have hfull2:(Pr s&&true&&P5 desk 0 99 && !((it.length:Int)==0)&&true && !(decide (nx>=1000000))&&(true&&true))=true:=by rw[Pq.2 hS];simp only[AB9,ABx];exact hok
    rw[hfull,ABR]at e1;dsimp only at e2;rw[hfull2,ABR]at e2;simp only[AAO,AAb,ABX,AAs]at hok
    have hdk:0<=desk/\desk<=99:=by have:=hok.1.1;unfold P5 at this;simp only[AAO,AAk]at this;exact this
    have hw:O5 (nx+1)=nx+1:=PA J J;rw[hw]at e1 e2;exact⟨_,e1,e2,.inr ⟨o,⟨hS,hI,J,hdk,hB,J,hft,hpg,ho⟩,rfl⟩⟩
   ·have hno:(Pr s&&true&&P5 desk 0 99 && !((it.length:Int)==0) && !(decide (nx>=1000000))&&true)=false:=by rw[<-ABt,Pq.2 hS];simp only[AB9,ABx];exact hok
    have hno2:(Pr s&&true&&P5 desk 0 99 && !((it.length:Int)==0)&&true && !(decide (nx>=1000000))&&(true&&true))=false:=by rw[<-ABt,Pq.2 hS];simp only[AB9,ABx];exact hok
    rw[hno,ABS]at e1;dsimp only at e2;rw[hno2,ABS]at e2;exact⟨_,e1,e2,.inl rfl⟩
  ·have hbf:b=false:=by
    cases b with
    |true=>grind
    |false=>rfl
   rw[hbf,Bool.and_false,AB5,AB5,AB5,AB5,ABS]at e1;rw[hbf,Bool.and_false,AB5,AB5,AB5,AB5,AB5,ABS]at e2;exact⟨_,e1,e2,.inl rfl⟩
theorem dC.book{s:Is}{l:ADR}{desk:Int}{it:ADT}(h:dC s nx l desk it o)(h29:l.length<=29):W4 (nx+1) (l++[(nx,desk,it,o,1)]):=by
 have hb:=h.bk;have hlt:=h.lt;refine⟨⟨by have:=hb.1;omega,J⟩,No,?_,λq hq=>?_⟩
 ·refine ABs.2 ⟨hb.2.2.1,List.pairwise_singleton _ _,λx hx y hy=>?_⟩;rw[ABb.1 hy];have:=(hb.2.2.2 x hx).1;omega
 ·rcases ABJ.1 hq with hq|hq
  ·obtain⟨⟨q1,q2⟩,q3⟩:=hb.2.2.2 q hq;exact⟨⟨q1,J⟩,q3⟩
  ·rw[ABb.1 hq];exact⟨⟨by show 1<=nx;have:=hb.1;omega,J⟩,h.dk,⟨h.im,h.ne⟩,h.pg,⟨No,No⟩⟩
theorem kp{m:Int}{l:ADR}(h:QU (nx,l))(hl:l.length<=1000)(x:PS)(hi:x.2.2.1.length<=1000)(hp:x.2.2.2.1.length<=1000):QU (m,l++[x]):=by
 refine⟨No,λo ho=>?_⟩;rcases ABJ.1 ho with ho|ho
 ·exact h.2 o ho
 ·rw[ABb.1 ho];exact⟨by show x.2.2.1.length<=_;omega,by show x.2.2.2.1.length<=_;omega⟩
def P0(l:ADR)(id:Int):Option PS:=l.find? λo=>o.1==id
theorem AD0{p:Prop}(h:p:=by unfold P0 at ho;grind):p:=h
def Sd(crew:ADS)(id:Int):Option PR:=crew.find? λr=>r.1==id
def Sz(a:Is)(l:ADR)(t:PH):Int:=if t.2.2.2=3 then(match P0 l t.1 with|some o=>o.2.1|none=>0)else(match YE a t.2.1 with|some p=>p.2.1|none=>0)
structure UB(a:Is)(l:ADR)(crew:ADS)(t:PH):Prop where
 ord:∃o,P0 l t.1=some o/\o.2.2.2.2=1/\∃p∈o.2.2.2.1,p.1=t.2.1
 PB:∃q,YE a t.2.1=some q
 fW:t.2.2.2≠1->∃r,Sd crew t.2.2.1=some r/\r.2.2.1=Sz a l t/\r.2.2.2.1=decide (2<t.2.2.2)
structure DI(w h:Int)(c:By)(a:Is)(nx:Int)(l:ADR)(crew:ADS)(ts:AAM):Prop where
 fl:PU w h c=true
 st:PF a
 hm:∀p∈a,QO c p.2.1=true
 bk:W4 nx l
 LG:iv l
 dc:∀o∈l,o.2.2.2.1.length<=72
 dk:∀o∈l,QO c o.2.1=true
 cw:CW c crew
 Vs:TP ts
 tk:∀t∈ts,UB a l crew t
structure DW(w h:Int)(c:By)(a:Is)(l:ADR)(crew:ADS)(ts:AAM):Prop where
 fl:PU w h c=true
 st:PF a
 cw:CW c crew
 Vs:TP ts
 tk:∀t∈ts,UB a l crew t
theorem DI.dw{l:ADR}{crew:ADS}(d:DI w h c a nx l crew ts):DW w h c a l crew ts:=⟨d.fl,d.st,d.cw,d.Vs,d.tk⟩
def Xe(a b:Is):Prop:=∀id,(YE b id).map (·.2.1)=(YE a id).map (·.2.1)
theorem Xe.goal{b:Is}(h:Xe a b){l k:ADR}(ho:P0 k t.1=P0 l t.1):Sz b k t=Sz a l t:=by
 unfold Sz;rw[ho];split
 ·rfl
 ·have:=h t.2.1;grind
theorem UB.same{b:Is}(h:Xe a b){l k:ADR}{crew:ADS}(ho:P0 k t.1=P0 l t.1)(ht:UB a l crew t):UB b k crew t:=by
 refine⟨by rw[ho];exact ht.ord,?_,λe=>?_⟩
 ·obtain⟨q,hq⟩:=ht.PB;have:=h t.2.1;rw[hq]at this;cases e1:YE b t.2.1 with
  |none=>grind
  |some q2=>grind
 ·rw[h.goal ho];exact ht.fW e
theorem pM(a:Is)(f:Int->Int->Int):Xe a (Pj a f):=by intro id;unfold YE Pj;rw[ACI,Option.map_map];rfl
theorem iT{l:ADR}{o:PS}(h:P0 l id=some o)(x:PS):P0 (l++[x]) id=P0 l id:=by unfold P0 at h ⊢;grind
theorem fO{l:ADR}{x:PS}(h:∀o∈l,o.1<x.1):P0 (l++[x]) x.1=some x:=by unfold P0;grind
theorem QB{l:ADR}{o:PS}(h:P0 l id=some o):o∈l/\o.1=id:=⟨ABn h,by simpa using ACK h⟩
theorem Ss{p:PD}(h:YE a id=some p):p∈a/\p.1=id:=⟨ABn h,by simpa using ACK h⟩
theorem Y4(h:∃p∈a,p.1=id):∃q,YE a id=some q:=by
 obtain⟨p,hp,e⟩:=h;unfold YE;cases hq:a.find? λp=>p.1==id with
 |some q=>grind
 |none=>
  grind
theorem jT:∀(ps:OF)(s:By),s.Nodup->(ps.foldl Wk s).Nodup/\∀x,x∈ps.foldl Wk s↔x∈s\/∃p∈ps,p.1=x
 | [],s,hs=>⟨hs,λx=>AAB⟩
 |p::ps,s,hs=>by
  have hn:(Wk s p).Nodup/\∀x,x∈Wk s p↔x∈s\/p.1=x:=by
   unfold Wk;cases ha:s.any λy=>y==p.1 with
   |true=>
    rw[ABR];obtain⟨y,hy,e⟩:=AA6.1 ha;have e:=AAY.1 e
    exact⟨hs,λx=>⟨λh=>.inl h,λh=>by
     rcases h with h|h
     ·exact h
     ·rw[<-h,<-e];exact hy⟩⟩
   |false=>
    rw[ABS]
    have hno:p.1∉s:=λhm=>by rw[<-ABt]at ha;exact ha (AA6.2 ⟨p.1,hm,ABq _⟩)
    refine⟨AAd.2 ⟨hs,AAB,λx hx y hy e=>?_⟩,λx=>?_⟩
    ·rw[ABb.1 hy]at e;exact hno (e▸hx)
    ·rw[ABJ,ABb];exact⟨λh=>h.imp id λe=>e.symm,λh=>h.imp id λe=>e.symm⟩
  obtain⟨i1,i2⟩:=jT ps (Wk s p) hn.1;grind
theorem TR{x:Int}:x∈RL ps↔∃p∈ps,p.1=x:=by have:=(jT ps [] AAX).2 x;unfold RL;grind
theorem fT(ps:OF):(RL ps).Nodup:=(jT ps [] AAX).1
theorem QM{l:AAM}:TP l↔l.length<=60/\(∀x∈l,P7 x=true)/\l.Pairwise λu x=>Pg x u=false:=by
 constructor
 ·intro h
  exact⟨h.len,λx hx=>by
   obtain⟨i,hi,rfl⟩:=ABV.1 hx;exact h.rL i hi,ABN.2 λi j hi hj hij=>h.apart j i hj hij⟩
 ·rintro ⟨h1,h2,h3⟩
  exact⟨h1,λi hi=>h2 _ (ABT hi),λi j hi hj=>ABN.1 h3 j i J hi hj⟩
theorem eK{x u:PH}(hx:x.2.2.2=1)(h:x.1≠u.1\/x.2.1≠u.2.1):Pg x u=false:=by unfold Pg;grind
theorem DI.take{l:ADR}{crew:ADS}(d:DI w h c a nx l crew ts){desk:Int}{it:ADT}(T:dC a nx l desk it o)(hdk:QO c desk=true)(h29:l.length<=29)(hlen:ts.length+(RL o).length<=60):
  DI w h c (Pj a (tp o)) (nx+1) (l++[(nx,desk,it,o,1)]) crew (ts++(RL o).map λx=>(nx,x,(0:Int),(1:Int))):=by
 have hnx:=T.bk.1;have hlt:=T.lt;have hids:∀y∈l,y.1<nx:=λy hy=>by have:=(T.bk.2.2.2 y hy).1;omega
 have hpo:∀p∈o,1<=p.1/\p.1<=999:=λp hp=>by obtain⟨_,_,i,hi,e⟩:=T.fit.each p hp;have:=(T.st.2.2 _ (ABT hi)).1;omega
 refine {fl:=d.fl,st:=(iG T.st T.fit).2,hm:=λp hp=>?_,bk:=T.book h29,LG:=λq hq=>?_,dc:=λq hq=>?_,dk:=λq hq=>?_,cw:=d.cw,Vs:=?_,tk:=λt ht=>?_ }
 ·unfold Pj at hp;obtain⟨q,hq,rfl⟩:=AAx.1 hp;exact d.hm q hq
 ·rcases ABJ.1 hq with hq|hq
  ·exact d.LG q hq
  grind
 ·rcases ABJ.1 hq with hq|hq
  ·exact d.dc q hq
  ·rw[ABb.1 hq];exact T.dc
 ·rcases ABJ.1 hq with hq|hq
  ·exact d.dk q hq
  grind
 ·obtain⟨t1,t2,t3⟩:=QM.1 d.Vs;refine QM.2 ⟨No,λx hx=>?_,ABs.2 ⟨t3,?_,λu hu x hx=>?_⟩⟩
  ·rcases ABJ.1 hx with hx|hx
   ·exact t2 x hx
   ·obtain⟨y,hy,rfl⟩:=AAx.1 hx;obtain⟨p,hp,e⟩:=TR.1 hy;have:=hpo p hp;rw[e]at this;unfold P7;grind
  ·rw[ABl];exact(fT o).imp fun {x y} hne=>eK rfl (.inr λe=>hne e.symm)
  ·obtain⟨y,hy,rfl⟩:=AAx.1 hx;refine eK rfl (.inl ?_);obtain⟨oo,ho,_⟩:=(d.tk u hu).ord;obtain⟨hm,e⟩:=QB ho;grind
 ·rcases ABJ.1 ht with ht|ht
  ·have hd:=d.tk t ht;obtain⟨oo,ho,_⟩:=hd.ord;exact hd.same (pM a (tp o)) (iT ho _)
  ·obtain⟨y,hy,rfl⟩:=AAx.1 ht;obtain⟨p,hp,e⟩:=TR.1 hy;refine⟨⟨_,fO (x:=(nx,desk,it,o,1)) hids,rfl,p,hp,e⟩,?_,λe=>(e rfl).elim⟩;obtain⟨_,_,i,hi,e2⟩:=T.fit.each p hp;refine Y4 ⟨jq (tp o) a[i],?_,e2.trans e⟩;unfold Pj;grind
def Vr(crew:ADS)(id:Int)(f:PR->PR):ADS:=crew.map λr=>bif r.1==id then f r else r
theorem ba(crew:ADS)(id:Int)(f:PR->PR):(Vr crew id f).length=crew.length:=by unfold Vr;grind
theorem Pk{crew:ADS}{r:PR}(h:Sd crew id=some r):r∈crew/\r.1=id:=⟨ABn h,by simpa using ACK h⟩
theorem kY{crew:ADS}(h:crew.Pairwise λr s=>r.1<s.1){r s:PR}(hr:r∈crew)(hs:s∈crew)(e:r.1=s.1):r=s:=by
 obtain⟨i,hi,rfl⟩:=ABV.1 hr;obtain⟨j,hj,rfl⟩:=ABV.1 hs;rcases ABe i j with hl|hl|hl
 ·have:=ABN.1 h i j hi hj hl;omega
 ·subst hl;rfl
 ·have:=ABN.1 h j i hj hi hl;omega
theorem Z1{crew:ADS}{f:PR->PR}(hf:∀r,(f r).1=r.1)(k:Int):Sd (Vr crew id f) k=(Sd crew k).map λr=>bif r.1==id then f r else r:=by
 unfold Sd Vr;rw[ACI]
 have:((λr:PR=>r.1==k) ∘ λr:PR=>bif r.1==id then f r else r)=λr:PR=>r.1==k:=funext λr=>No
 rw[this]
theorem CW.DL{crew:ADS}(h:CW c crew){f:PR->PR}(hf:∀r,(f r).1=r.1/\(f r).2.1=r.2.1)(hg:∀r∈crew,r.1=id->((f r).2.2.1 = -1\/QO c (f r).2.2.1=true)/\0<=(f r).2.2.2.2/\(f r).2.2.2.2<=1000000):CW c (Vr crew id f):=by
 have key:∀r,(bif r.1==id then f r else r:PR).1=r.1/\(bif r.1==id then f r else r:PR).2.1=r.2.1:=λr=>No
 have mem:∀s∈Vr crew id f,∃r∈crew,s=(bif r.1==id then f r else r:PR):=λs hs=>by unfold Vr at hs;obtain⟨r,hr,e⟩:=AAx.1 hs;grind
 refine⟨by rw[ba];exact h.n20,λs hs=>?_,λs hs=>?_,λs hs=>?_,λs hs=>?_,?_,?_⟩
 ·obtain⟨r,hr,rfl⟩:=mem s hs;rw[(key r).1];exact h.rP r hr
 ·obtain⟨r,hr,rfl⟩:=mem s hs;rw[(key r).2];exact h.nv r hr
 ·obtain⟨r,hr,rfl⟩:=mem s hs;by_cases e:r.1=id
  ·grind
  ·rw[show(r.1==id)=false from ABX.2 e];exact h.goal r hr
 ·obtain⟨r,hr,rfl⟩:=mem s hs;by_cases e:r.1=id
  ·grind
  ·rw[show(r.1==id)=false from ABX.2 e];exact h.rD r hr
 ·unfold Vr;rw[ABl];exact h.ids.imp fun {r s} hrs=>No
 ·unfold Vr;rw[ABl];exact h.gO.imp fun {r s} hrs=>No
theorem hZ{x u:PH}(h:Pg x u=false)(hx:x.2.2.2≠1):x.2.2.1≠u.2.2.1:=λe=>by unfold Pg at h;grind
theorem dD{s:Int}(ht:t.2.2.2≠1)(hs:s≠1)(u:PH):Pg (t.1,t.2.1,t.2.2.1,s) u=Pg t u/\Pg u (t.1,t.2.1,t.2.2.1,s)=Pg u t:=by unfold Pg;grind
theorem lR{s:Int}(h:P7 t=true)(ht:t.2.2.2≠1)(hs:2<=s/\s<=4):P7 (t.1,t.2.1,t.2.2.1,s)=true:=by unfold P7 at h ⊢;grind
theorem TP.qx{x y:AAM}(h:TP (x++t::y))(ht:t.2.2.2≠1){s:Int}(hs:2<=s/\s<=4):TP (x++(t.1,t.2.1,t.2.2.1,s)::y):=by
 obtain⟨t1,t2,t3⟩:=QM.1 h;obtain⟨p1,p2,p3⟩:=ABs.1 t3;obtain⟨p4,p5⟩:=ABo.1 p2;have hs1:s≠1:=J
 refine QM.2 ⟨No,λu hu=>?_,ABs.2 ⟨p1,ABo.2 ⟨λu hu=>?_,p5⟩,λu hu v hv=>?_⟩⟩
 ·rcases ABJ.1 hu with hu|hu
  ·grind
  ·rcases AAj.1 hu with rfl|hu
   ·exact lR (t2 t (AAW _ AAp)) ht hs
   grind
 ·rw[(dD ht hs1 u).2];exact p4 u hu
 ·rcases AAj.1 hv with rfl|hv
  ·rw[(dD ht hs1 u).1];exact p3 u hu t AAp
  grind
theorem TP.sub{x y:AAM}(h:TP y)(hs:x.Sublist y):TP x:=by obtain⟨t1,t2,t3⟩:=QM.1 h;exact QM.2 ⟨AA3 hs.length_le t1,λu hu=>t2 u (hs.subset hu),t3.sublist hs⟩
theorem TP.two{x y:AAM}(h:TP (x++t::y))(ht:t.2.2.2≠1){u:PH}(hu:u∈x\/u∈y)(hu1:u.2.2.2≠1):u.2.2.1≠t.2.2.1:=by
 obtain⟨_,_,t3⟩:=QM.1 h;obtain⟨p1,p2,p3⟩:=ABs.1 t3;obtain⟨p4,p5⟩:=ABo.1 p2;rcases hu with hu|hu
 ·exactλe=>hZ (p3 u hu t AAp) ht e.symm
 ·exact hZ (p4 u hu) hu1
theorem UB.other{b:Is}(hsp:Xe a b){l:ADR}{crew:ADS}{u:PH}(h:UB a l crew u){f:PR->PR}(hf:∀r,(f r).1=r.1)(hne:u.2.2.2≠1->u.2.2.1≠id):UB b l (Vr crew id f) u:=by have h2:=h.same hsp (k:=l) rfl;refine⟨h2.ord,h2.PB,λe=>?_⟩;obtain⟨r,q1,q2⟩:=h2.fW e;refine⟨r,?_,q2⟩;rw[Z1 hf,q1,AA8,show(r.1==id)=false from ABX.2 λe2=>hne e ((Pk q1).2.symm.trans e2),ABS]
theorem DI.oW{w h:Int}{c:By}{a:Is}{nx:Int}{l:ADR}{crew:ADS}{x y:AAM}{t:PH}(d:DI w h c a nx l crew (x++t::y))(ht:t.2.2.2≠1){b:Is}(hb:PF b)(hsp:Xe a b)(hbm:∀p∈b,QO c p.2.1=true){s:Int}(hs:2<=s/\s<=4){f:PR->PR}(hf:∀r,(f r).1=r.1/\(f r).2.1=r.2.1)
  (hfr:∀r,Sd crew t.2.2.1=some r->(f r).2.2.1=Sz b l (t.1,t.2.1,t.2.2.1,s)/\(f r).2.2.2.1=decide (2<s)/\0<=(f r).2.2.2.2/\(f r).2.2.2.2<=1000000):DI w h c b nx l (Vr crew t.2.2.1 f) (x++(t.1,t.2.1,t.2.2.1,s)::y):=by
 have hT:=d.tk t (AAW _ AAp);obtain⟨o,ho,hst,hpk⟩:=hT.ord;obtain⟨r0,hr0,_,_⟩:=hT.fW ht;obtain⟨q,hq⟩:=(hT.same hsp (k:=l) rfl).PB
 have hgoal:QO c (Sz b l (t.1,t.2.1,t.2.2.1,s))=true:=by
  unfold Sz;dsimp only;split
  ·rw[ho];exact d.dk o (QB ho).1
  ·rw[hq];exact hbm q (Ss hq).1
 refine {fl:=d.fl,st:=hb,hm:=hbm,bk:=d.bk,LG:=d.LG,dc:=d.dc,dk:=d.dk,cw:=d.cw.DL hf λr hr e=>?_,Vs:=d.Vs.qx ht hs,tk:=λu hu=>?_ }
 ·have hrr:r=r0:=kY d.cw.ids hr (Pk hr0).1 (e.trans (Pk hr0).2.symm);grind
 ·have hoth:∀u,u∈x\/u∈y->UB b l (Vr crew t.2.2.1 f) u:=λu hu=>(d.tk u (by
   grind)).other hsp (λr=>(hf r).1) λe=>d.Vs.two ht hu e
  rcases ABJ.1 hu with hu|hu
  ·grind
  ·rcases AAj.1 hu with rfl|hu
   ·refine⟨⟨o,ho,hst,hpk⟩,⟨q,hq⟩,λ_=>⟨f r0,?_,(hfr r0 hr0).1,(hfr r0 hr0).2.1⟩⟩;rw[Z1 λr=>(hf r).1];show(Sd crew t.2.2.1).map _=_;rw[hr0,AA8,show(r0.1==t.2.2.1)=true from AAY.2 (Pk hr0).2,ABR]
   grind
theorem DI.gone{l:ADR}{crew:ADS}{x y:AAM}(d:DI w h c a nx l crew (x++t::y))(ht:t.2.2.2≠1){f:PR->PR}(hf:∀r,(f r).1=r.1/\(f r).2.1=r.2.1)(hfr:∀r,(f r).2.2.1 = -1/\0<=(f r).2.2.2.2/\(f r).2.2.2.2<=1000000):DI w h c a nx l (Vr crew t.2.2.1 f) (x++y):=by
 refine {fl:=d.fl,st:=d.st,hm:=d.hm,bk:=d.bk,LG:=d.LG,dc:=d.dc,dk:=d.dk,cw:=d.cw.DL hf λr hr e=>⟨.inl (hfr r).1,(hfr r).2⟩,Vs:=d.Vs.sub ((List.Sublist.refl x).append (List.sublist_cons_self t y)),tk:=λu hu=>?_ };have hu2:=ABJ.1 hu
 exact(d.tk u (by
  grind)).other (λ_=>rfl) (λr=>(hf r).1) λe=>d.Vs.two ht hu2 e
def QA(l:ADR)(id st:Int):ADR:=l.map λo=>bif o.1==id then(o.1,o.2.1,o.2.2.1,o.2.2.2.1,st)else o
theorem fQ(l:ADR)(id st k:Int)(hk:k≠id):P0 (QA l id st) k=P0 l k:=by
 unfold P0 QA;rw[ACI]
 have:((λo:PS=>o.1==k) ∘ λo:PS=>bif o.1==id then(o.1,o.2.1,o.2.2.1,o.2.2.2.1,st)else o)=λo:PS=>o.1==k:=funext λo=>No
 rw[this];cases h:l.find? λo=>o.1==k with
 |none=>rfl
 |some o=>
  grind
theorem DI.Dg{l:ADR}{crew:ADS}(d:DI w h c a nx l crew ts){b:Is}(hb:PF b)(hsp:Xe a b)(hbm:∀p∈b,QO c p.2.1=true){st:Int}(hst:1<=st/\st<=3){us:AAM}(hsub:us.Sublist ts)(hno:∀t∈us,t.1≠id):DI w h c b nx (QA l id st) crew us:=by
 have mem:∀q∈QA l id st,∃o∈l,q=(bif o.1==id then(o.1,o.2.1,o.2.2.1,o.2.2.2.1,st)else o:PS):=λq hq=>by unfold QA at hq;grind
 have key:∀o:PS,(bif o.1==id then(o.1,o.2.1,o.2.2.1,o.2.2.2.1,st)else o:PS).1=o.1/\(bif o.1==id then(o.1,o.2.1,o.2.2.1,o.2.2.2.1,st)else o:PS).2.1=o.2.1/\(bif o.1==id then(o.1,o.2.1,o.2.2.1,o.2.2.2.1,st)else o:PS).2.2.1=o.2.2.1/\(bif o.1==id then(o.1,o.2.1,o.2.2.1,o.2.2.2.1,st)else o:PS).2.2.2.1=o.2.2.2.1:=λo=>No
 obtain⟨b1,b2,b3,b4⟩:=d.bk;refine {fl:=d.fl,st:=hb,hm:=hbm,bk:=⟨b1,by unfold QA;grind,?_,λq hq=>?_⟩,LG:=λq hq=>?_,dc:=λq hq=>?_,dk:=λq hq=>?_,cw:=d.cw,Vs:=d.Vs.sub hsub,tk:=λt ht=>(d.tk t (hsub.subset ht)).same hsp (fQ l id st t.1 (hno t ht)) }
 ·unfold QA;rw[ABl];exact b3.imp fun {x y} hxy=>No
 ·obtain⟨o,ho,rfl⟩:=mem q hq;obtain⟨k1,k2,k3,k4⟩:=key o;obtain⟨g1,g2,g3,g4,g5⟩:=b4 o ho;unfold lI;rw[k1,k2,k3,k4];refine⟨g1,g2,g3,g4,?_⟩;cases(o.1==id)
  all_goals grind
 ·obtain⟨o,ho,rfl⟩:=mem q hq;rw[(key o).2.2.2];exact d.LG o ho
 ·obtain⟨o,ho,rfl⟩:=mem q hq;rw[(key o).2.2.2];exact d.dc o ho
 ·obtain⟨o,ho,rfl⟩:=mem q hq;rw[(key o).2.1];exact d.dk o ho
theorem DI.um{l:ADR}{crew:ADS}(d:DI w h c a nx l crew ts){b:Is}(hb:PF b)(hsp:Xe a b)(hbm:∀p∈b,QO c p.2.1=true):DI w h c b nx l crew ts:=
 { d with st:=hb,hm:=hbm,tk:=λt ht=>(d.tk t ht).same hsp rfl }
theorem DW.step{l:ADR}{crew:ADS}(d:DW w h c a l crew ts)(hc:CW c AAI)(hs:∀id,(Sd AAI id).map (λr=>(r.2.2.1,r.2.2.2.1))=(Sd crew id).map (λr=>(r.2.2.1,r.2.2.2.1))):DW w h c a l AAI ts:=
 have key:∀t∈ts,UB a l AAI t:=λt ht=>by
  have hT:=d.tk t ht;refine⟨hT.ord,hT.PB,λe=>?_⟩;obtain⟨r,q1,q2,q3⟩:=hT.fW e;have:=hs t.2.2.1;rw[q1]at this;cases e1:Sd AAI t.2.2.1 with
  |none=>grind
  |some r'=>
   grind
 { d with cw:=hc,tk:=key }
theorem nR{α β:Type}{f:α->β}{l:List α}(h:(l.map f).Nodup){x y:α}(hx:x∈l)(hy:y∈l)(e:f x=f y):x=y:=by
 obtain⟨i,hi,rfl⟩:=ABV.1 hx;obtain⟨j,hj,rfl⟩:=ABV.1 hy;have hp:=ABl.1 h;rcases ABe i j with hl|hl|hl
 ·exact(ABN.1 hp i j hi hj hl e).elim
 ·subst hl;rfl
 ·exact(ABN.1 hp j i hj hi hl e.symm).elim
theorem Xs{crew:ADS}(h:crew.Pairwise λr s=>r.1<s.1){k:Nat}(hk:k<crew.length):Sd crew crew[k].1=some crew[k]:=by
 cases hq:Sd crew crew[k].1 with
 |none=>
  unfold Sd at hq;have:=ACC.1 hq _ (ABT hk);simp at this
 |some r=>rw[kY h (Pk hq).1 (ABT hk) (Pk hq).2]
theorem bm(ha:PF a){l:ADR}(h3:t.2.2.2≠3)(hi:i<a.length)(e:a[i].1=t.2.1):Sz a l t=a[i].2.1:=by obtain⟨q,hq⟩:=Y4 (a:=a) (id:=t.2.1) ⟨_,ABT hi,e⟩;have:q=a[i]:=UK ha hi (Ss hq).1 ((Ss hq).2.trans e.symm);unfold Sz;grind
theorem DW.fe{l:ADR}{crew:ADS}(d:DW w h c a l crew ts)(hd:oD w h c a crew ts prs){ts':AAM}(hs:dR a crew ts prs AAI ts'):DW w h c a l AAI ts':=by
 have hcl:c.length<=1048576:=by have:=(TD d.fl).le;omega
 have hal:a.length<=1048576:=by have:=d.st.1;omega
 have hcw:CW c AAI:=hs.crew hcl d.fl hd d.cw
 have key:∀t∈ts',UB a l AAI t:=λt ht=>by
  obtain⟨i,hi',rfl⟩:=ABV.1 ht;have hi:i<ts.length:=by rw[<-hs.l2];exact hi'
  have hT:=d.tk _ (ABT hi);rcases hs.tk i hi hi' with⟨p,hp,e1,e2⟩|⟨hno,e2⟩
  ·rw[e2];obtain⟨hk,r1,r2,r3,r4,r5⟩:=hd.fW d.cw hp;have hk':p.2<AAI.length:=by rw[hs.l1];exact hk
   refine⟨hT.ord,hT.PB,λ_=>?_⟩;rcases hs.rb p.2 hk hk' with⟨p',hp',e3,e4⟩|⟨hno,_⟩
   ·have hpp:p'=p:=nR hd.n2 hp' hp e3;subst hpp;obtain⟨q1,q2,q3,j,hj,q4,q5,q6⟩:=hd.Vs hal hp';subst e1;rw[dA q1]at e4;refine⟨AAI[p'.2],?_,?_,?_⟩
    ·show Sd AAI (X3 crew p'.2).1=_;rw[cR hk];have:=Xs hcw.ids hk';rw[e4]at this ⊢;exact this
    ·rw[e4];show Px a ts[p'.1].2.1=_;rw[q6];exact(bm (t:=(ts[p'.1].1,ts[p'.1].2.1,(X3 crew p'.2).1,2)) d.st (by show(2:Int)≠3;omega) hj q5).symm
    ·rw[e4];show crew[p'.2].2.2.2.1=decide ((2:Int)<2);rw[r4];rfl
   grind
  ·rw[e2];refine⟨hT.ord,hT.PB,λe=>?_⟩;obtain⟨r,g1,g2,g3⟩:=hT.fW e;obtain⟨k,hk,hr⟩:=ABV.1 (Pk g1).1;have hk':k<AAI.length:=by rw[hs.l1];exact hk
   have hid:crew[k].1=ts[i].2.2.1:=by rw[hr];exact(Pk g1).2
   rcases hs.rb k hk hk' with⟨p,hp,e3,_⟩|⟨_,e4⟩
   ·obtain⟨hk2,_,_,_,_,r5⟩:=hd.fW d.cw hp;grind
   ·have:=Xs hcw.ids hk';grind
 exact { d with cw:=hcw,Vs:=hs.tasks hal hd d.Vs d.cw,tk:=key }
theorem DI.fe{l:ADR}{crew:ADS}(d:DI w h c a nx l crew ts)(hd:oD w h c a crew ts prs){ts':AAM}(hs:dR a crew ts prs AAI ts'):DI w h c a nx l AAI ts':=
 { d with cw:=(d.dw.fe hd hs).cw,Vs:=(d.dw.fe hd hs).Vs,tk:=(d.dw.fe hd hs).tk }
theorem DW.oN{l:ADR}{crew:ADS}(d:DW w h c a l crew ts)(hc:CW c AAI)(hl:AAI.length=crew.length)(hs:∀k (h1:k<crew.length) (h2:k<AAI.length),AAI[k].1=crew[k].1/\AAI[k].2.2.1=crew[k].2.2.1/\AAI[k].2.2.2.1=crew[k].2.2.2.1):DW w h c a l AAI ts:=by
 refine d.step hc λid=>?_;cases hq:Sd crew id with
 |some r=>
  obtain⟨k,hk,hr⟩:=ABV.1 (Pk hq).1;have hk2:k<AAI.length:=by rw[hl];exact hk
  obtain⟨e1,e2,e3⟩:=hs k hk hk2;have:=Xs hc.ids hk2;rw[e1,hr,(Pk hq).2]at this;grind
 |none=>
  cases hq2:Sd AAI id with
  |none=>rfl
  |some r=>
   obtain⟨k,hk,hr⟩:=ABV.1 (Pk hq2).1;have hk2:k<crew.length:=by rw[<-hl];exact hk
   obtain⟨e1,_,_⟩:=hs k hk2 hk;unfold Sd at hq;have:=ACC.1 hq _ (ABT hk2);rw[<-e1,hr,(Pk hq2).2]at this;simp at this
theorem DI.oN{l:ADR}{crew:ADS}(d:DI w h c a nx l crew ts)(hc:CW c AAI)(hl:AAI.length=crew.length)(hs:∀k (h1:k<crew.length) (h2:k<AAI.length),AAI[k].1=crew[k].1/\AAI[k].2.2.1=crew[k].2.2.1/\AAI[k].2.2.2.1=crew[k].2.2.2.1):DI w h c a nx l AAI ts:=
 { d with cw:=hc,tk:=(d.dw.oN hc hl hs).tk }
def Wi(x:O0)(l:OF)(m:OF):OF:=(l.filter λy=>decide (y.1<x.1))++(m++l.filter λy=>decide (x.1<y.1))
def Yn(x:O0)(l:OF):OF:=Wi x l (bif x.2.1==0 then []else [x])
theorem fL{x:O0}:∀ {l:OF},l.Pairwise (λa b=>a.1<b.1)->l.filter (λy=>y.1 != x.1)=Wi x l []
 | [],_=>rfl
 |y::r,h=>by
  obtain⟨h1,h2⟩:=ABo.1 h;have ih:=fL (x:=x) h2;unfold Wi at ih ⊢;rw[AA2]at ih ⊢;rw[ABw,ABw,ABw];rcases Int.lt_trichotomy y.1 x.1 with hl|hl|hl
  ·grind
  ·grind
  ·have hr:r.filter (λz=>decide (z.1<x.1))=[]:=ACN.2 λz hz=>by have:=h1 z hz;simp;omega
   grind
theorem pz{l:OF}(h:∀y∈l,y.1<x.1)(m:OF):Wi x l m=l++m:=by unfold Wi;rw[List.filter_eq_self.2 λy hy=>No,ACN.2 λy hy=>No,ABi]
theorem oh{l:OF}(h:∀y∈l,x.1<=y.1)(hp:l.Pairwise λa b=>a.1<b.1)(m:OF):Wi x l m=m++l.filter λy=>y.1 != x.1:=by rw[fL hp];unfold Wi;rw[ACN.2 λy hy=>by have:=h y hy;simp;omega];rfl
theorem og{y:O0}{r:OF}(h:y.1<x.1)(m:OF):Wi x (y::r) m=y::Wi x r m:=by unfold Wi;grind
theorem jP{l m:OF}{z:O0}(h:z∈Wi x l m):(z∈l/\z.1≠x.1)\/z∈m:=by unfold Wi at h;grind
theorem oq{l:OF}(h:l.Pairwise λa b=>a.1<b.1){m:OF}(hm:m=[]\/m=[x]):(Wi x l m).Pairwise λa b=>a.1<b.1:=by
 unfold Wi
 have hmx:∀z∈m,z.1=x.1:=λz hz=>by
  rcases hm with rfl|rfl
  ·cases hz
  ·rw[ABb.1 hz]
 refine ABs.2 ⟨h.filter _,ABs.2 ⟨by rcases hm with rfl|rfl<;>simp,h.filter _,λa ha b hb=>?_⟩,λa ha b hb=>?_⟩
 all_goals grind
theorem mP{l:OF}(h:l.Pairwise λa b=>a.1<b.1)(m:OF):(Wi x l m).length=(l.filter λy=>y.1 != x.1).length+m.length:=by rw[fL h];unfold Wi;grind
theorem lF{l:OF}(h:Um l)(hx:(x.2.1==0)=false->1<=x.1/\x.1<=50/\1<=x.2.1/\x.2.1<=1000/\0<=x.2.2/\x.2.2<=x.2.1)(hl:(x.2.1==0)=true\/(∃z∈l,z.1=x.1)\/l.length<8):Um (Yn x l):=by
 obtain⟨h1,h2,h3⟩:=h;have hf:(l.filter λy=>y.1 != x.1).length<=l.length:=ABp _ _;unfold Yn;cases hz:(x.2.1==0)with
 |true=>
  rw[ABR];refine⟨oq h1 (.inl rfl),λz hm=>?_,by rw[mP h1];simp only[List.length_nil];omega⟩;rcases jP hm with hm|hm
  all_goals grind
 |false=>
  rw[ABS];refine⟨oq h1 (.inr rfl),λz hm=>?_,?_⟩
  ·rcases jP hm with hm|hm
   all_goals grind
  ·rw[mP h1,ABZ];rcases hl with hl|⟨z,hzm,e⟩|hl
   ·grind
   ·have:(l.filter λy=>y.1 != x.1).length<l.length:=by rw[List.length_filter_lt_length_iff_exists];exact⟨z,hzm,by simp[e]⟩
    omega
   ·omega
theorem ln(l:OF)(h:Um l)(x0 x1 x2:Int)(n:Nat)(hn:PE<=n):U5 n l x0 x1 x2=some (Yn (x0,x1,x2) l):=by
 have h8:=h.2.2
 have hc:=PW (σ:=OF×Bool) (RF l x0 x1 x2) (λi s=>(s.1,s.2,(i:Int))) l
  (λr s=>(s.1++(bif s.2 then r.filter (λy=>y.1 != x0)else bif r.any (λy=>decide (y.1>=x0))then Wi (x0,x1,x2) r [(x0,x1,x2)]else r),s.2||r.any (λy=>decide (y.1>=x0)),(l.length:Int)))
  (λi s=>s.1.length<=i+1/\(s.2=false->s.1.length<=i))
  (λs hs=>by
   unfold RF;grind)
  (λi y r s h1 h2 h3 h4 h5=>by
   left;have hy:l[i]=y:=by rw[AAN h1]at h2;exact Option.some.inj h2
   obtain⟨out,put⟩:=s;dsimp only at h5 ⊢;have hpw:(y::r).Pairwise (λa b=>a.1<b.1):=h3▸h.1.drop;obtain⟨hyr,hpr⟩:=ABo.1 hpw;unfold RF;dsimp only;rw[show decide ((i:Int)<(l.length:Int))=true by grind,ABR,O3 h1,hy,O1 h1 (show l.length<=9223372036854775807 by omega)];simp only[ABQ];have r1:∀(o:OF)(z:O0),o.length<=i+2->decide (o.length+[z].length<=E7)=true:=λo z ho=>Re J;cases put with
   |true=>
    simp only[ABY,ABS,ABR,ABQ,Bool.true_or];by_cases he:y.1=x0
    ·rw[show(y.1 != x0)=false by simp[he]];simp only[ABS,ABQ];exact⟨(out,true),rfl,⟨No,λe=>by cases e⟩,No⟩
    ·have hb:(y.1 != x0)=true:=ADu
     rw[hb,ABR,r1 out _ J,ABR,ABQ];exact⟨(out++[y],true),rfl,⟨No,λe=>by cases e⟩,No⟩
   |false=>
    have h5i:=h5.2 rfl;simp only[ABr,ABR,ABS,ABQ,Bool.false_or];by_cases hge:y.1>=x0
    ·have hany:(y::r).any (λy=>decide (y.1>=x0))=true:=No
     have hhi:=oh (x:=(x0,x1,x2)) (l:=y::r) (λz hz=>by
      grind) hpw [(x0,x1,x2)]
     rw[ABW hge,ABR,r1 out _ J,ABR,ABQ,hany,hhi];dsimp only;by_cases he:y.1=x0
     ·rw[show(y.1 != x0)=false by simp[he]];simp only[ABS,ABQ];exact⟨(out++[(x0,x1,x2)],true),rfl,⟨No,λe=>by cases e⟩,No⟩
     ·have hb:(y.1 != x0)=true:=ADu
      rw[hb,ABR,r1 (out++[_]) _ No,ABR,ABQ];exact⟨(out++[(x0,x1,x2)]++[y],true),rfl,⟨No,λe=>by cases e⟩,No⟩
    ·have hany:(y::r).any (λy=>decide (y.1>=x0))=r.any (λy=>decide (y.1>=x0)):=by rw[ACX,ABa hge,Bool.false_or]
     have hlt:y.1<x0:=ADX
     have hb:(y.1 != x0)=true:=by rw[AB7];clear hn;omega
     rw[ABa hge,ABS,ABQ,hany,og (x:=(x0,x1,x2)) hlt];dsimp only;rw[hb,ABR,r1 out _ ADX,ABR,ABQ];refine⟨(out++[y],false),rfl,⟨by show(out++[y]).length<=i+1+1;rw[ABD,ABZ];clear hn;omega,λ_=>by show(out++[y]).length<=i+1;rw[ABD,ABZ];clear hn;omega⟩,?_⟩;grind)
  n ADV (([]:OF),x1==0) ⟨AAB,λ_=>AAB⟩
 unfold U5 Yn;rw[show((0:Nat):Int)=0 from rfl]at hc;dsimp only at hc ⊢;rw[hc,ABQ];dsimp only;cases hx1:(x1==0)with
 |true=>
  simp only[ABR,Bool.true_or,ABY,ABS,ABQ,AA2];rw[fL (x:=(x0,x1,x2)) h.1]
 |false=>
  simp only[ABS,Bool.false_or,AA2];cases ha:l.any (λy=>decide (y.1>=x0))with
  |true=>rfl
  |false=>
   simp only[ABS,ABr,ABR]
   rw[show decide (l.length+[(x0,x1,x2)].length<=E7)=true from Re J,ABR,ABQ,pz (x:=(x0,x1,x2)) λy hy=>by
    rw[<-ABt]at ha;have:¬y.1>=x0:=λq=>ha (AA6.2 ⟨y,hy,ABW q⟩);show y.1<x0;clear hn;omega]
def ag(a:Is)(PB:Int)(x:O0):Is:=Wq a PB (Yn x)
theorem Z0(h:PF a)(hi:i<a.length)(x0 x1 x2:Int)(n:Nat)(hn:PE<=n):SU n a (i:Int) x0 x1 x2=some (ag a a[i].1 (x0,x1,x2)):=by
 have hst:=(h.2.2 _ (ABT hi)).2.2;unfold SU;rw[PQ a h.sm n hn,ABQ,O6 hi,ABR];have hg:a[(i:Int).toNat]?=some a[i]:=by simp[hi]
 rw[hg,ABQ,ABQ,ln a[i].2.2 hst x0 x1 x2 n hn,ABQ,ABR,ABU];unfold ag;rw[<-Xm h hi];congr 1;apply ABv;grind
theorem cS(a:Is)(PB:Int)(f:OF->OF):Xe a (Wq a PB f):=by
 intro id;unfold YE Wq;rw[ACI]
 have:((λp:PD=>p.1==id) ∘ λp:PD=>bif p.1==PB then(p.1,p.2.1,f p.2.2)else p)=λp:PD=>p.1==id:=funext λp=>No
 rw[this,Option.map_map];cases a.find? λp=>p.1==id with
 |none=>rfl
 |some p=>
  grind
theorem eX{PB:Int}{f:OF->OF}{p:PD}(h:p∈Wq a PB f):∃q∈a,p.2.1=q.2.1:=by unfold Wq at h;grind
def X5(a:Is)(PB k m:Int):Is×Int:=if Pz a PB k m≠0 then(a,Pz a PB k m)else if(RH a PB k).2.2<m then(a,3)else(ag a PB (k,(RH a PB k).2.1-m,(RH a PB k).2.2-m),0)
theorem jh(h:PF a)(PB k m:Int):PF (X5 a PB k m).1/\Xe a (X5 a PB k m).1/\∀p∈(X5 a PB k m).1,∃q∈a,p.2.1=q.2.1:=by
 have same:PF a/\Xe a a/\∀p∈a,∃q∈a,p.2.1=q.2.1:=⟨h,λ_=>rfl,λp hp=>⟨p,hp,rfl⟩⟩;unfold X5;split
 ·exact same
 ·rename_i hc;split
  ·exact same
  ·rename_i hlt;obtain⟨_,hk,hm,i,hi,e1,e2,e3⟩:=QE (by omega:Pz a PB k m=0);refine⟨?_,cS a PB _,λp hp=>eX hp⟩;refine gM h PB _ λp hp ep=>?_;have:p=a[i]:=UK h hi hp (ep.trans e2.symm);subst this;have hst:=(h.2.2 _ (ABT hi)).2.2;obtain⟨b1,b2,b3,b4,b5⟩:=Qk hst k;rw[e3]at hlt ⊢
   have hz:∃z∈a[i].2.2,z.1=k:=by refine AAq λq=>?_;rw[RG λx hx e=>q ⟨x,hx,e⟩]at hlt;dsimp only at hlt;omega
   refine lF hst (λhne=>?_) (.inr (.inl hz));grind
theorem mg(h:PZ a)(PB k m:Int):PZ (X5 a PB k m).1:=by
 by_cases hc:Pz a PB k m=0
 ·exact(jh (QE hc).1 PB k m).1.sm
 ·unfold X5;grind
theorem cd(a:Is)(hs:PZ a)(PB k m:Int)(n:Nat)(hn:PE<=n):XQ n a PB k m=some (X5 a PB k m):=by
 unfold XQ X5;rw[Y1 a hs PB k m n hn,ABQ];by_cases hc:Pz a PB k m=0
 ·rw[AAU (by rw[hc];simp),AAU (by rw[hc];simp)];obtain⟨h,hk,hm,i,hi,e1,e2,e3⟩:=QE hc;have hst:=(h.2.2 _ (ABT hi)).2.2;obtain⟨b1,b2,b3,b4,b5⟩:=Qk hst k;dsimp only;rw[show((0:Int) != 0)=false from rfl,ABS,e3];by_cases hlt:(PC a[i].2.2 k).2.2<m
  ·rw[ABW hlt,AAT hlt,ABR,PQ a hs n hn];rfl
  ·rw[ABa hlt,AAU hlt,ABS,PA (n:=(PC a[i].2.2 k).2.1-m) J J,PA (n:=(PC a[i].2.2 k).2.2-m) J J,e1,b5];rw[Z0 h hi _ _ _ n hn,e2];rfl
 ·rw[AAT hc,AAT hc];dsimp only;rw[show(Pz a PB k m != 0)=true by grind,ABR,PQ a hs n hn];rfl
def Uw(s:Is)(p:O0):Is×Int:=X5 s p.1 p.2.1 p.2.2
theorem ca(a:Is)(ha:PZ a)(ps:OF)(hp:ps.length<=1048576)(n:Nat)(hn:PE<=n):SL n a ps 3=some (Qe Uw a ps):=by
 have h1:=Ya (QF n a ps 3) Uw a ps (λs p hs=>mg hs _ _ _) ha (λi s hi hs=>by
  have hd:decide ((i:Int)<(ps.length:Int))=true:=ADh
  simp only[QF,hd,ABR,O3 hi,ABQ,cd s hs _ _ _ n hn,PQ a ha n hn,O1 hi (show ps.length<=9223372036854775807 by clear hn;omega)];rw[show((3:Int)==1)=false from rfl,show((3:Int)==2)=false from rfl];show(bif(Uw s ps[i]).2 != 0 then _ else _)=_;cases((Uw s ps[i]).2 != 0)<;>rfl) (λs=>by simp[QF]) n ADV
 unfold SL;rw[PQ a ha n hn,ABQ,h1,ABQ];unfold Qe;grind
theorem ZA(h:PF a)(ps:OF):PF (Qe Uw a ps).1/\Xe a (Qe Uw a ps).1/\∀p∈(Qe Uw a ps).1,∃q∈a,p.2.1=q.2.1:=
 mJ (P:=λs=>PF s/\Xe a s/\∀p∈s,∃q∈a,p.2.1=q.2.1) (λs p hs=>by
  obtain⟨h1,h2,h3⟩:=hs;obtain⟨g1,g2,g3⟩:=jh h1 p.1 p.2.1 p.2.2;refine⟨g1,λid=>(g2 id).trans (h2 id),λq hq=>?_⟩;obtain⟨r,hr,e⟩:=g3 q hq;grind) ⟨h,λ_=>rfl,λp hp=>⟨p,hp,rfl⟩⟩ ps
def O9(l:ADR)(t:PH):OF:=match P0 l t.1 with
 |some o=>o.2.2.2.1.filter λp=>p.1==t.2.1
 |none=>[]
def RJ(t:PH)(s:Int):PH:=(t.1,t.2.1,t.2.2.1,s)
def af(ou:By)(ps:OF):By:=ps.foldl (λou p=>if ou.getD p.2.1.toNat 0+p.2.2<=1000000 then ou.set p.2.1.toNat (ou.getD p.2.1.toNat 0+p.2.2)else ou) ou
def PN(a:Is)(ou:By)(l:ADR)(crew:ADS)(t:PH):Is×By×ADS×Option PH:=
 if t.2.2.2=2 then(a,ou,Vr crew t.2.2.1 (λr=>(r.1,r.2.1,Sz a l (RJ t 3),true,0)),some (RJ t 3))
 else if t.2.2.2=3 then
  ((Qe Uw a (O9 l t)).1,(bif(Qe Uw a (O9 l t)).2 then af ou (O9 l t)else ou),Vr crew t.2.2.1 (λr=>(r.1,r.2.1,Sz (Qe Uw a (O9 l t)).1 l (RJ t 4),r.2.2.2.1,0)),some (RJ t 4))
 else(a,ou,Vr crew t.2.2.1 (λr=>(r.1,r.2.1, -1,false,0)),none)
def Xq:Option PH->AAM
 |some t=>[t]
 |none=>[]
theorem DI.aw{l:ADR}{crew:ADS}{x y:AAM}(d:DI w h c a nx l crew (x++t::y))(ht:t.2.2.2≠1)(ou:By):
  DI w h c (PN a ou l crew t).1 nx l (PN a ou l crew t).2.2.1 (x++(Xq (PN a ou l crew t).2.2.2++y)):=by
 have hT:=d.tk t (AAW _ AAp);unfold PN;by_cases h2:t.2.2.2=2
 ·rw[AAT h2];exact d.oW ht d.st (λ_=>rfl) d.hm (s:=3) ⟨J,J⟩ (λr=>⟨rfl,rfl⟩) λr hr=>⟨rfl,rfl,No,No⟩
 ·rw[AAU h2];by_cases h3:t.2.2.2=3
  ·rw[AAT h3];obtain⟨g1,g2,g3⟩:=ZA d.st (O9 l t);refine d.oW ht g1 g2 (λp hp=>?_) (s:=4) ⟨J,J⟩ (λr=>⟨rfl,rfl⟩) λr hr=>⟨rfl,?_,No,No⟩
   ·obtain⟨q,hq,e⟩:=g3 p hp;rw[e];exact d.hm q hq
   ·obtain⟨r',q1,_,q3⟩:=hT.fW ht;grind
  ·rw[AAU h3];exact d.gone ht (λr=>⟨rfl,rfl⟩) λr=>⟨rfl,No,No⟩
abbrev mr:=Is×By×ADS×AAM×By
def P8(crew:ADS)(t:PH):Bool := !(t.2.2.2==1)&&match Sd crew t.2.2.1 with
 |some r=>r.2.1==r.2.2.1
 |none=>false
def PX(l:ADR)(t:PH)(s:mr):mr:=
 if P8 s.2.2.1 t=true then
  ((PN s.1 s.2.1 l s.2.2.1 t).1,(PN s.1 s.2.1 l s.2.2.1 t).2.1,(PN s.1 s.2.1 l s.2.2.1 t).2.2.1,s.2.2.2.1++Xq (PN s.1 s.2.1 l s.2.2.1 t).2.2.2,match(PN s.1 s.2.1 l s.2.2.1 t).2.2.2 with|some _=>s.2.2.2.2|none=>s.2.2.2.2++[t.1])
 else(s.1,s.2.1,s.2.2.1,s.2.2.2.1++[t],s.2.2.2.2)
def Pc(l:ADR)(ts:AAM)(s:mr):mr:=ts.foldl (λs t=>PX l t s) s
theorem DI.Pc{w h:Int}{c:By}{nx:Int}{l:ADR}:∀(ts:AAM)(s:mr),DI w h c s.1 nx l s.2.2.1 (s.2.2.2.1++ts)->DI w h c (Pc l ts s).1 nx l (Pc l ts s).2.2.1 (Pc l ts s).2.2.2.1
 | [],s,d=>by rw[ABi]at d;exact d
 |t::ts,s,d=>by
  have hstep:DI w h c (PX l t s).1 nx l (PX l t s).2.2.1 ((PX l t s).2.2.2.1++ts):=by
   unfold PX;by_cases hg:P8 s.2.2.1 t=true
   ·rw[AAT hg]
    have ht:t.2.2.2≠1:=λe=>by unfold P8 at hg;rw[show(t.2.2.2==1)=true from AAY.2 e]at hg;simp at hg
    have:=d.aw ht s.2.1;grind
   ·grind
  exact DI.Pc ts (PX l t s) hstep
def P2(l:ADR)(id:Int):Bool:=match P0 l id with
 |some o=>o.2.2.2.2==1
 |none=>false
def jG(ts:AAM)(ended:By)(l:ADR):ADR:=ended.foldl (λl id=>bif(ts.any λt=>t.1==id) || !P2 l id then l else QA l id 2) l
theorem DI.fin{w h:Int}{c:By}{a:Is}{nx:Int}{crew:ADS}{ts:AAM}:∀(ended:By)(l:ADR),DI w h c a nx l crew ts->DI w h c a nx (jG ts ended l) crew ts
 | [],_,d=>d
 |id::ended,l,d=>by
  have hstep:DI w h c a nx (bif(ts.any λt=>t.1==id) || !P2 l id then l else QA l id 2) crew ts:=by
   cases hb:(ts.any λt=>t.1==id) || !P2 l id with
   |true=>exact d
   |false=>
    rw[ABS];have hno:=(AAn.1 hb).1;refine d.Dg d.st (λ_=>rfl) d.hm ⟨J,J⟩ (List.Sublist.refl ts) λt ht e=>?_;grind
  exact DI.fin ended _ hstep
def PY(a:Is)(ou:By)(l:ADR)(crew:ADS)(ts:AAM):Is×By×ADR×ADS×AAM:=
 ((Pc l ts (a,ou,crew,[],[])).1,(Pc l ts (a,ou,crew,[],[])).2.1,jG (Pc l ts (a,ou,crew,[],[])).2.2.2.1 (Pc l ts (a,ou,crew,[],[])).2.2.2.2 l,(Pc l ts (a,ou,crew,[],[])).2.2.1,(Pc l ts (a,ou,crew,[],[])).2.2.2.1)
theorem DI.PY{l:ADR}{crew:ADS}(d:DI w h c a nx l crew ts)(ou:By):DI w h c (PY a ou l crew ts).1 nx (PY a ou l crew ts).2.2.1 (PY a ou l crew ts).2.2.2.1 (PY a ou l crew ts).2.2.2.2:=
 DI.fin _ l (DI.Pc ts (a,ou,crew,[],[]) d)
theorem U2(crew:ADS)(hl:crew.length<=1048576)(id:Int)(n:Nat)(hn:PE<=n):(Rc n crew id=some (-1)/\∀r∈crew,r.1≠id)\/∃k,∃h:k<crew.length,crew[k].1=id/\Rc n crew id=some (k:Int):=by
 have hs:∀(m:Nat)(x:PR),m<crew.length->crew[m]?=some x->RQ crew id (m:Int)=some (bif x.1==id then .inr (.inr (m:Int))else .inl ((m+1:Nat):Int)):=λm x h1 h2=>by
  have hx:crew[m]=x:=by rw[AAN h1]at h2;exact Option.some.inj h2
  simp only[RQ,O3 h1,hx,ABQ,O1 h1 (show crew.length<=9223372036854775807 by clear hn;omega)];grind
 unfold Rc;by_cases h:∃r∈crew,r.1=id
 ·right;obtain⟨r,hr,e⟩:=h;obtain⟨j,hj,rfl⟩:=ABV.1 hr;obtain⟨i,hi,hP,e2⟩:=j7 (RQ crew id) crew (λx=>x.1==id) hs j hj (AAY.2 e) n ADV;grind
 ·left;refine⟨?_,λr hr e=>h ⟨r,hr,e⟩⟩;rcases iD (RQ crew id) crew (λx=>x.1==id) hs (by simp[RQ]) n ADV with e|⟨i,hi,hP,e⟩
  all_goals grind
theorem Ys(h:P7 t=true):(1<=t.2.2.2/\t.2.2.2<=4)/\(t.2.2.1=0↔t.2.2.2=1):=by unfold P7 at h;grind
theorem db(w h:Int)(c:By)(ha:PF a){l:ADR}(hb:W4 nx l)(hsm:QU (nx,l)){crew:ADS}(hc:CW c crew)(ts:AAM)(st ou:By)(nw:Int)(hg:P7 t=true)(n:Nat)(hn:PE<=n):
  ∃b,TM n w h c a nx l crew ts st ou nw t.1 t.2.1 t.2.2.1 t.2.2.2=some b/\(b=true↔UB a l crew t):=by
 have hal:=ha.1;have hcl:=hc.n20;obtain⟨⟨s1,s4⟩,hrz⟩:=Ys hg;cases ho:P0 l t.1 with
 |none=>
  have hm:∀x∈l,x.1≠t.1:=λx hx e=>AD0
  refine⟨false,?_,(λe=>by cases e),λhT=>?_⟩
  ·unfold TM;rw[VZ nx l hsm.1 t.1 hm n hn];rfl
  ·obtain⟨o,e,_⟩:=hT.ord;grind
 |some o=>
  obtain⟨hom,hoe⟩:=QB ho;obtain⟨i,hi,rfl⟩:=ABV.1 hom;have hat:=YD nx l hsm.1 hb.2.2.1 i hi n hn;rw[hoe]at hat;have hpl:l[i].2.2.2.1.length<=1048576:=(hsm.2 _ hom).2
  have hplen:(RL l[i].2.2.2.1).length<=1048576:=by have:=Yk l[i].2.2.2.1 [];unfold RL;simp only[List.length_nil]at this;clear hn;omega
  have hpo:=ZV l[i].2.2.2.1 hpl n hn;have hhi:Qa n (RL l[i].2.2.2.1) t.2.1=some ((RL l[i].2.2.2.1).any λx=>x==t.2.1):=by rw[Uy];exact Ps _ hplen _ n hn
  have hpx:=Qg a J t.2.1 n hn;unfold TM;rw[hat,ABQ,show decide ((i:Int)<0)=false by grind,ABS];simp only[O3 hi,ABQ,Wj,hpx.1,hpo,hhi];by_cases hst:l[i].2.2.2.2=1
  case neg=>
   rw[show(l[i].2.2.2.2 != 1)=true from AB7.2 hst];refine⟨false,rfl,(λe=>by cases e),λhT=>?_⟩;obtain⟨o2,e,e2,_⟩:=hT.ord;grind
  rw[show(l[i].2.2.2.2 != 1)=false by rw[hst];rfl,ABS];rcases hpx.2 with⟨e,hno⟩|⟨j,hj,e,ej⟩
  ·rw[e];refine⟨false,rfl,(λe=>by cases e),λhT=>?_⟩;obtain⟨q,hq⟩:=hT.PB;exact(hno q (Ss hq).1 (Ss hq).2).elim
  rw[e,show decide ((j:Int)<0)=false by grind,ABS,ABQ];cases hany:(RL l[i].2.2.2.1).any (λx=>x==t.2.1)with
  |false=>
   refine⟨false,rfl,(λe=>by cases e),λhT=>?_⟩;obtain⟨o2,e,_,p,hp,ep⟩:=hT.ord;rw[ho]at e;injection e with e
   rw[<-e]at hp;rw[<-ABt]at hany;exact(hany (AA6.2 ⟨_,TR.2 ⟨p,hp,rfl⟩,AAY.2 ep⟩)).elim
  |true=>
   obtain⟨y,hy,ey⟩:=AA6.1 hany;obtain⟨p,hp,ep⟩:=TR.1 hy;have hord:∃o,P0 l t.1=some o/\o.2.2.2.2=1/\∃p∈o.2.2.2.1,p.1=t.2.1:=⟨_,ho,hst,p,hp,ep.trans (AAY.1 ey)⟩;have hpod:∃q,YE a t.2.1=some q:=Y4 ⟨_,ABT hj,ej⟩;rw[ABY,ABS];by_cases hr0:t.2.2.1=0
   ·rw[show(t.2.2.1==0)=true from AAY.2 hr0,ABR];exact⟨true,rfl,λ_=>⟨hord,hpod,λe=>(e (hrz.1 hr0)).elim⟩,λ_=>rfl⟩
   ·rw[show(t.2.2.1==0)=false from ABX.2 hr0,ABS];have hst1:t.2.2.2≠1:=λe=>hr0 (hrz.2 e)
    have hgoal:TK n w h c a nx l crew ts st ou nw t.1 t.2.1 t.2.2.1 t.2.2.2=some (Sz a l t):=by
     unfold TK;by_cases h3:t.2.2.2=3
     ·rw[show(t.2.2.2==3)=true from AAY.2 h3,ABR,hat,ABQ,O3 hi,ABQ];unfold Sz;grind
     ·rw[show(t.2.2.2==3)=false from ABX.2 h3,ABS,Wj,hpx.1,e,ABQ,O3 hj,ABQ,bm ha h3 hj ej]
    rcases U2 crew J t.2.2.1 n hn with⟨e1,hno⟩|⟨k,hk,ek,e1⟩
    ·rw[e1];refine⟨false,rfl,(λe=>by cases e),λhT=>?_⟩;obtain⟨r,q1,_⟩:=hT.fW hst1;exact(hno r (Pk q1).1 (Pk q1).2).elim
    ·have hro:=Xs hc.ids hk;rw[ek]at hro;rw[e1,ABQ,show decide ((k:Int)>=0)=true by rw[AAk];clear hn;omega,ABR];simp only[O3 hk,ABQ,hgoal]
     have hT:UB a l crew t↔crew[k].2.2.1=Sz a l t/\crew[k].2.2.2.1=decide (2<t.2.2.2):=by
      constructor
      ·intro hT;obtain⟨r,q1,q2,q3⟩:=hT.fW hst1;rw[hro]at q1;injection q1 with q1
       rw[q1];exact⟨q2,q3⟩
      ·rintro ⟨q2,q3⟩
       exact⟨hord,hpod,λ_=>⟨_,hro,q2,q3⟩⟩
     grind
theorem DI.new(hok:Zf w h c a=true):DI w h c a 1 [] (Rv (Pu c) (min (Pu c).length 20)) []:=by obtain⟨hf,hk,h0,hho⟩:=Zg hok;refine {fl:=hf,st:=Pq.1 hk,hm:=λp hp=>?_,bk:=⟨⟨J,J⟩,AAB,List.Pairwise.nil,(λo ho=>by cases ho)⟩,LG:=(λo ho=>by cases ho),dc:=(λo ho=>by cases ho),dk:=(λo ho=>by cases ho),cw:=rG c,Vs:=QM.2 ⟨AAB,(λx hx=>by cases hx),List.Pairwise.nil⟩,tk:=(λt ht=>by cases ht) };obtain⟨h1,h2⟩:=hho p hp;unfold QO;grind
def Tf(l:By):Prop:=l.length=51/\(∀x∈l,0<=x/\x<=1000000)/\l[0]?=some 0
def dE(l:By)(i:Nat):Bool:=match l[i]? with
 |some x=>P5 x 0 1000000&&(!((i:Int)==0)||x==0)
 |none=>false
theorem S3{a b c:Int}:P5 a b c=true↔b<=a/\a<=c:=by unfold P5;grind
theorem eA{l:By}:((List.range l.length).all (dE l)&&((l.length:Int)==51))=true↔Tf l:=by
 rw[AAO,AAa,AAY]
 have hat:∀i (hi:i<l.length),dE l i=true↔(0<=l[i]/\l[i]<=1000000)/\(i=0->l[i]=0):=λi hi=>by unfold dE;rw[AAN hi];simp only[AAO,S3,AAh,AAb,ABX,AAY];omega
 constructor
 ·rintro ⟨h1,h2⟩
  have h51:l.length=51:=J
  have hi:=λi (hi:i<l.length)=>(hat i hi).1 (h1 i (AAc.2 hi));refine⟨h51,λx hx=>?_,?_⟩
  ·obtain⟨i,hi2,rfl⟩:=ABV.1 hx;exact(hi i hi2).1
  grind
 ·rintro ⟨h1,h2,h3⟩
  grind
theorem YB(l:By)(hl:l.length<=1048576)(n:Nat)(hn:PE<=n):UF n l=some ((List.range l.length).all (dE l)&&((l.length:Int)==51)):=by
 have h1:=QZ (To l) (λk=>(k:Int)) l.length (dE l) (λi hi=>by
  unfold To dE;dsimp only;rw[show decide ((i:Int)<(l.length:Int))=true by rw[AAk];clear hn;omega,AAN hi];simp only[ABR,O3 hi,ABQ,U0,QP,O1 hi (show l.length<=9223372036854775807 by clear hn;omega),bne];cases P5 l[i] 0 1000000<;>cases((i:Int)==0)<;>cases(l[i]==0)<;>rfl) (by unfold To;simp) n ADV
 rw[show((0:Nat):Int)=0 from rfl]at h1;unfold UF;grind
structure r8(w h:Int)(c:By)(a:Is)(nx:Int)(l:ADR)(crew:ADS)(ts:AAM)(st ou:By)(nw:Int):Prop where
 fl:PU w h c=true
 xt:PF a
 bk:W4 nx l
 cw:CW c crew
 Vs:TP ts
 c1:Tf st
 c2:Tf ou
 now:0<=nw/\nw<=1000000
 tk:∀t∈ts,UB a l crew t
theorem DI.ok{l:ADR}{crew:ADS}(d:DI w h c a nx l crew ts){st ou:By}(h1:Tf st)(h2:Tf ou){nw:Int}(h3:0<=nw/\nw<=1000000):r8 w h c a nx l crew ts st ou nw:=
 ⟨d.fl,d.st,d.bk,d.cw,d.Vs,h1,h2,h3,d.tk⟩
theorem Yd(w h:Int)(c:By)(hc:c.length<=1048576)(a:Is)(ha:PZ a)(nx:Int)(l:ADR)(hl:QU (nx,l))(crew:ADS)(hcr:crew.length<=1048576)(ts:AAM)(hts:ts.length<=1048576)(st ou:By)(hst:st.length<=1048576)(hou:ou.length<=1048576)(nw:Int)(n:Nat)(hn:PE<=n):
  ∃b,RZ n w h c a nx l crew ts st ou nw=some b/\(b=true↔r8 w h c a nx l crew ts st ou nw):=by
 obtain⟨bb,eb,ib⟩:=Ww hl n hn;unfold RZ;rw[Yb,Pn w h c hc n hn,QH a ha n hn,eb,TG w h c hc crew hcr n hn,ZG ts hts n hn,YB st hst n hn,YB ou hou n hn];simp only[ABQ,U0,QP];have no:∀ {P:Prop},¬P->∃b,(some false:Option Bool)=some b/\(b=true↔P):=λhp=>⟨false,rfl,(λe=>by cases e),λq=>(hp q).elim⟩;cases e1:PU w h c with
 |false=>exact no λd=>by rw[d.fl]at e1;cases e1
 |true=>
 cases e2:Pr a with
 |false=>exact no λd=>by rw[Pq.2 d.xt]at e2;cases e2
 |true=>
 cases e3:bb with
 |false=>exact no λd=>by rw[ib.2 d.bk]at e3;cases e3
 |true=>
 cases e4:Sw w h c crew with
 |false=>exact no λd=>by rw[Ux.2 ⟨d.fl,d.cw⟩]at e4;cases e4
 |true=>
 cases e5:Ru ts with
 |false=>exact no λd=>by rw[Wo.2 d.Vs]at e5;cases e5
 |true=>
 cases e6:((List.range st.length).all (dE st)&&((st.length:Int)==51))with
 |false=>exact no λd=>by rw[eA.2 d.c1]at e6;cases e6
 |true=>
 cases e7:((List.range ou.length).all (dE ou)&&((ou.length:Int)==51))with
 |false=>exact no λd=>by rw[eA.2 d.c2]at e7;cases e7
 |true=>
 cases e8:P5 nw 0 1000000 with
 |false=>exact no λd=>by rw[S3.2 d.now]at e8;cases e8
 |true=>
 have hS:=Pq.1 e2;have hB:=ib.1 e3;have hC:=(Ux.1 e4).2;have hT:=Wo.1 e5;have hgood:=(QM.1 hT).2.1;simp only[ABY,ABS,ABQ]
 let val:Nat->Bool:=λi=>match ts[i]? with
  |some t=>(TM n w h c a nx l crew ts st ou nw t.1 t.2.1 t.2.2.1 t.2.2.2).getD false
  |none=>false
 have hval:∀i (hi:i<ts.length),TM n w h c a nx l crew ts st ou nw ts[i].1 ts[i].2.1 ts[i].2.2.1 ts[i].2.2.2=some (val i)/\(val i=true↔UB a l crew ts[i]):=λi hi=>by obtain⟨b,e,ib⟩:=db w h c hS hB hl hC ts st ou nw (hgood _ (ABT hi)) n hn;grind
 have h1:=QZ (UX n w h c a nx l crew ts st ou nw) (λk=>(k:Int)) ts.length val (λi hi=>by
  unfold UX;rw[show decide ((i:Int)<(ts.length:Int))=true by rw[AAk];clear hn;omega,ABR,O3 hi,ABQ,(hval i hi).1,ABQ,O1 hi (show ts.length<=9223372036854775807 by clear hn;omega)];grind) (by unfold UX;simp) n ADV
 rw[show((0:Nat):Int)=0 from rfl]at h1;rw[h1];refine⟨(List.range ts.length).all val,No,?_⟩;rw[AAa];constructor
 ·intro q;refine⟨e1,hS,hB,hC,hT,eA.1 e6,eA.1 e7,S3.1 e8,λt ht=>?_⟩;obtain⟨i,hi,rfl⟩:=ABV.1 ht;grind
 ·intro d i hi;have hi:=AAc.1 hi;exact(hval i hi).2.2 (d.tk _ (ABT hi))
def U9(a b:Is):Prop:=PF b/\Xe a b/\∀p∈b,∃q∈a,p.2.1=q.2.1
theorem U9.refl(h:PF a):U9 a a:=⟨h,λ_=>rfl,λp hp=>⟨p,hp,rfl⟩⟩
theorem U9.trans{b d:Is}(h:U9 a b)(g:U9 b d):U9 a d:=⟨g.1,λid=>(g.2.1 id).trans (h.2.1 id),λp hp=>by
 obtain⟨q,hq,e⟩:=g.2.2 p hp;obtain⟨r,hr,e2⟩:=h.2.2 q hq;grind⟩
theorem oM{PB d:Int}(h:PF (UC a PB k d)):U9 a (UC a PB k d):=⟨h,cS a PB _,λp hp=>eX hp⟩
theorem qI(h:PF a)(PB k m:Int):U9 a (XI a PB k m).1:=by
 have ho:=jX h PB k m;unfold XI at ho ⊢;split
 ·exact U9.refl h
 ·rename_i hc;rw[AAU hc]at ho;split
  ·exact U9.refl h
  ·rename_i hlt;rw[AAU hlt]at ho;exact oM ho
theorem ph{f:Is->O0->Is×Int}(hf:∀s p,PF s->U9 s (f s p).1)(h:PF a)(ps:OF):U9 a (Qe f a ps).1:=
 mJ (P:=λs=>U9 a s) (λs p hs=>hs.trans (hf s p hs.1)) (U9.refl h) ps
theorem ni(h:PF a)(ps:OF):U9 a (Qe Zl a ps).1:=ph (λs p hs=>qI hs _ _ _) h ps
def jf(a:Is)(PB:Int):Nat:=match a[(Rq a PB).toNat]? with
 |some p=>p.2.2.length
 |none=>0
def Va(a:Is)(PB k m:Int):Is×Int:=if Pz a PB k m≠0 then(a,Pz a PB k m)
 else if(RH a PB k).2.1+m>1000\/((RH a PB k).2.1=0/\jf a PB=8)then(a,4)
 else(ag a PB (k,(RH a PB k).2.1+m,(RH a PB k).2.2),0)
theorem qF(h:PF a)(PB k m:Int):U9 a (Va a PB k m).1:=by
 unfold Va;split
 ·exact U9.refl h
 ·rename_i hc;split
  ·exact U9.refl h
  ·rename_i hno;obtain⟨_,hk,hm,i,hi,e1,e2,e3⟩:=QE (by omega:Pz a PB k m=0);refine⟨?_,cS a PB _,λp hp=>eX hp⟩;refine gM h PB _ λp hp ep=>?_;have:p=a[i]:=UK h hi hp (ep.trans e2.symm);subst this;have hst:=(h.2.2 _ (ABT hi)).2.2;obtain⟨b1,b2,b3,b4,b5⟩:=Qk hst k;unfold jf at hno;rw[e1,ABU,AAN hi,e3]at hno;rw[e3];dsimp only at hno;refine lF hst (λhne=>?_) ?_
   ·grind
   ·by_cases hz:∃z∈a[i].2.2,z.1=k
    ·grind
    ·have h0:=RG (l:=a[i].2.2) (k:=k) λx hx e=>hz ⟨x,hx,e⟩;rw[h0]at hno;dsimp only at hno;have h8:=hst.2.2;omega
theorem fP{l:ADR}{o:PS}(h:P0 l id=some o)(hs:o.2.2.2.2=1)(hp:l.Pairwise λa b=>a.1<b.1):P0 (Q7 l) id=some o:=by
 obtain⟨hm,e⟩:=QB h
 have hmo:o∈Q7 l:=by unfold Q7;exact ABd.2 ⟨hm,AAY.2 hs⟩
 cases hq:P0 (Q7 l) id with
 |none=>
  unfold P0 at hq;grind
 |some q=>
  obtain⟨h1,h2⟩:=QB hq;unfold Q7 at h1;have hqm:=(ABd.1 h1).1
  have:q=o:=by
   obtain⟨i,hi,rfl⟩:=ABV.1 hqm;obtain⟨j,hj,rfl⟩:=ABV.1 hm;rcases ABe i j with hl|hl|hl
   ·have:=ABN.1 hp i j hi hj hl;omega
   ·subst hl;rfl
   ·have:=ABN.1 hp j i hj hi hl;omega
  rw[this]
theorem DI.iZ{l:ADR}{crew:ADS}(d:DI w h c a nx l crew ts):DI w h c a nx (Q7 l) crew ts:=by
 obtain⟨b1,b2,b3,b4⟩:=d.bk
 have hm:∀o∈Q7 l,o∈l:=λo ho=>by unfold Q7 at ho;grind
 have key:∀t∈ts,UB a (Q7 l) crew t:=λt ht=>by have hT:=d.tk t ht;obtain⟨o,ho,hs,_⟩:=hT.ord;exact hT.same (λ_=>rfl) ((fP ho hs b3).trans ho.symm)
 exact { d with bk:=⟨b1,by unfold Q7;grind,by unfold Q7;grind,λo ho=>b4 o (hm o ho)⟩,LG:=λo ho=>d.LG o (hm o ho),dc:=λo ho=>d.dc o (hm o ho),dk:=λo ho=>d.dk o (hm o ho),tk:=key }
theorem DI.home{l:ADR}{crew:ADS}(d:DI w h c a nx l crew ts){b:Is}(hb:U9 a b):∀p∈b,QO c p.2.1=true:=λp hp=>by obtain⟨q,hq,e⟩:=hb.2.2 p hp;rw[e];exact d.hm q hq
theorem DI.back{l:ADR}{crew:ADS}(d:DI w h c a nx l crew ts)(id:Int)(ps:OF):DI w h c (Qe Zl a ps).1 nx (QA l id 3) crew (ts.filter λt => !(t.1==id)):=by have hb:=ni d.st ps;refine d.Dg hb.1 hb.2.1 (d.home hb) ⟨J,J⟩ List.filter_sublist λt ht e=>?_;grind
theorem DI.bK{l:ADR}{crew:ADS}(d:DI w h c a nx l crew ts)(PB k m:Int):DI w h c (Va a PB k m).1 nx l crew ts:=by have hb:=qF d.st PB k m;exact d.um hb.1 hb.2.1 (d.home hb)
theorem kF(n:Nat)(hn:PE<=n){i q:Int}(hcu:Cu b i)(id home:Int):Ok (iter n (W0) (1,b,i,q,id,home,([]:OF))) λx=>(Um x.2.2.2.2.2.2/\∀y∈x.2.2.2.2.2.2,y.2.2=0)/\x.2.2.2.2.1=id/\x.2.2.2.2.2.1=home/\Cu x.2.1 x.2.2.1:=by
 refine Ok.iter (λk x=>x.1+(k:Int)=5/\1<=x.1/\x.2.2.2.2.2.2.length+k<=4/\(x.2.2.2.2.2.2.Pairwise (λa b=>a.1<b.1)/\∀y∈x.2.2.2.2.2.2,1<=y.1/\y.1<x.1/\1<=y.2.1/\y.2.1<=5/\y.2.2=0)/\x.2.2.2.2.1=id/\x.2.2.2.2.2.1=home/\Cu x.2.1 x.2.2.1) (λk x hx=>?_) (k:=4) ⟨AAB,AAB,AAB,⟨List.Pairwise.nil,(λy hy=>by cases hy)⟩,rfl,rfl,hcu⟩ ADV;obtain⟨h1,h0,h2,⟨h4,h5⟩,h6,h7,h3⟩:=hx;unfold W0;refine Ok.cond (λhb=>?_) λhb=>Ok.pure (.inr ⟨_,rfl,⟨⟨h4,λy hy=>?_,by show x.2.2.2.2.2.2.length<=8;clear hn;omega⟩,λy hy=>(h5 y hy).2.2.2.2⟩,h6,h7,h3⟩)
 ·have hb:=AAy hb;refine Ok.bind (P:=λz=>(z.2.2.2.2.2.length<=x.2.2.2.2.2.2.length+1/\z.2.2.2.2.2.Pairwise (λa b=>a.1<b.1)/\∀y∈z.2.2.2.2.2,1<=y.1/\y.1<x.1+1/\1<=y.2.1/\y.2.1<=5/\y.2.2=0)/\z.2.2.2.1=id/\z.2.2.2.2.1=home/\Cu z.1 z.2.1) ((ok_int h3 AAB).bind λv hv=>Ok.cond (λhg=>Ok.guard (Re ADX) (Ok.pure ⟨⟨by show(x.2.2.2.2.2.2++[_]).length<=_;simp,?_,λy hy=>?_⟩,h6,h7,hv.1⟩)) λ_=>Ok.pure ⟨⟨by show x.2.2.2.2.2.2.length<=_;omega,h4,λy hy=>?_⟩,h6,h7,hv.1⟩) λz hz=>Ok.pure (.inl ⟨_,rfl,k-1,⟨?_,?_,?_,⟨hz.1.2.1,λy hy=>?_⟩,hz.2.1,hz.2.2.1,hz.2.2.2⟩,ADX⟩)
  ·refine ABs.2 ⟨h4,List.pairwise_singleton _ _,λy hy z hz=>?_⟩;rw[ABb.1 hz];exact(h5 y hy).2.1
  ·rcases ABJ.1 hy with hy|hy
   ·obtain⟨g1,g2,g3,g4,g5⟩:=h5 y hy;exact⟨g1,ADX,g3,g4,g5⟩
   ·rw[ABb.1 hy];have hg:=AAy hg;have hm:=hv.2;simp only[AAj,List.not_mem_nil,or_false]at hm;refine⟨h0,by show x.1<x.1+1;clear hn;omega,by show 1<=v.1;clear hn;omega,by show v.1<=5;clear hn;omega,rfl⟩
  ·obtain⟨g1,g2,g3,g4,g5⟩:=h5 y hy;exact⟨g1,ADX,g3,g4,g5⟩
  ·show O5 (x.1+1)+_=_;rw[PA ADX ADX];clear hn;omega
  ·show 1<=O5 (x.1+1);rw[PA ADX ADX];clear hn;omega
  ·have:=hz.1.1;show z.2.2.2.2.2.length+(k-1)<=4;clear hn;omega
  ·obtain⟨g1,g2,g3,g4,g5⟩:=hz.1.2.2 y hy;refine⟨g1,?_,g3,g4,g5⟩;show y.1<O5 (x.1+1);rw[PA ADX ADX];exact g2
 grind
theorem kE(n:Nat)(hn:PE<=n){i q:Int}(hcu:Cu b i)(w h:Int)(c:By)(hf:PU w h c=true):Ok (XX n b i q w h c) λx=>Zf w h c x.1=true/\Cu x.2.1 x.2.2.1:=by
 have h100:=(TD hf).le;have hc:c.length<=1048576:=ADX
 unfold XX;rw[V2 w h c hc hf 2 n hn,ABQ]
 refine Ok.bind (P:=λz=>(z.2.2.2.2.length<=8/\z.2.2.2.2.length<=(QR c 2 c.length).length/\∀(j:Nat)(hj:j<z.2.2.2.2.length),z.2.2.2.2[j].1=(j:Int)+1/\z.2.2.2.2[j].2.1=(QR c 2 c.length).getD j 0/\Um z.2.2.2.2[j].2.2/\∀y∈z.2.2.2.2[j].2.2,y.2.2=0)/\Cu z.2.1 z.2.2.1)
  (Ok.iter (λk x=>x.1+(k:Int)=8/\0<=x.1/\(x.2.2.2.2.length:Int)=x.1/\(x.2.2.2.2.length<=(QR c 2 c.length).length/\∀(j:Nat)(hj:j<x.2.2.2.2.length),x.2.2.2.2[j].1=(j:Int)+1/\x.2.2.2.2[j].2.1=(QR c 2 c.length).getD j 0/\Um x.2.2.2.2[j].2.2/\∀y∈x.2.2.2.2[j].2.2,y.2.2=0)/\Cu x.2.1 x.2.2.1) (λk x hx=>?_) (k:=8) ⟨AAB,AAB,AAB,⟨AAB,λj hj=>ADr⟩,hcu⟩ ADV) λz hz=>Ok.pure ⟨?_,hz.2⟩
 ·obtain⟨h1,h0,h2,⟨h4,h5⟩,h3⟩:=hx;unfold ZL;refine Ok.bind (P:=λv=>v=true->x.1<((QR c 2 c.length).length:Int)/\x.1<8) (Ok.cond (λhb=>Ok.pure λe=>⟨AAy hb,AAy e⟩) λ_=>Ok.pure λe=>by cases e) λv hv=>Ok.cond (λhb=>?_) λhb=>Ok.pure (.inr ⟨_,rfl,⟨No,h4,h5⟩,h3⟩);obtain⟨a1,a2⟩:=hv hb;refine Ok.guard (fA ⟨h0,a1⟩) ((Ok.get J).bind λhm hget=>(kF n hn h3 _ _).bind λu hu=>Ok.guard (Re J) (Ok.pure (.inl ⟨_,rfl,k-1,⟨?_,?_,?_,⟨?_,λj hj=>?_⟩,hu.2.2.2⟩,J⟩)))
  ·show O5 (x.1+1)+_=_;rw[PA ADX ADX];omega
  ·show 0<=O5 (x.1+1);rw[PA ADX ADX];omega
  ·show(((x.2.2.2.2++[_]).length:Nat):Int)=O5 (x.1+1);rw[PA ADX ADX,ABD,ABZ];omega
  ·grind
  ·have hj2:j<x.2.2.2.2.length+1:=by have:=hj;change j<(x.2.2.2.2++[_]).length at this;rw[ABD,ABZ]at this;exact this
   show(x.2.2.2.2++[(u.2.2.2.2.1,u.2.2.2.2.2.1,u.2.2.2.2.2.2)])[j].1=_/\(x.2.2.2.2++[(u.2.2.2.2.1,u.2.2.2.2.2.1,u.2.2.2.2.2.2)])[j].2.1=_/\Um (x.2.2.2.2++[(u.2.2.2.2.1,u.2.2.2.2.2.1,u.2.2.2.2.2.2)])[j].2.2/\∀y∈(x.2.2.2.2++[(u.2.2.2.2.1,u.2.2.2.2.2.1,u.2.2.2.2.2.2)])[j].2.2,y.2.2=0;rw[List.getElem_append];by_cases e:j<x.2.2.2.2.length
   ·grind
   ·rw[dif_neg e];have ej:j=x.2.2.2.2.length:=ADX
    simp only[List.getElem_singleton];refine⟨?_,?_,hu.1.1,hu.1.2⟩
    ·rw[hu.2.1,PA ADX ADX];clear hn;omega
    grind
 ·obtain⟨⟨z1,z2,z3⟩,_⟩:=hz;have hpw:=bf c 2 c.length
  have hcell:∀(j:Nat)(hj:j<z.2.2.2.2.length),∃m:Nat,z.2.2.2.2[j].2.1=(m:Int)/\m<c.length/\c.getD m 0=2:=λj hj=>by
   have hj2:j<(QR c 2 c.length).length:=ADX
   rw[(z3 j hj).2.1,show(QR c 2 c.length).getD j 0=(QR c 2 c.length)[j] by simp[hj2]];exact Xf (ABT hj2)
  have hS:PF z.2.2.2.2:=by
   refine⟨J,ABN.2 λa b ha hb hab=>?_,λp hp=>?_⟩
   ·have q1:=z3 a ha;have q2:=z3 b hb;have hal:a<(QR c 2 c.length).length:=ADX
    have hbl:b<(QR c 2 c.length).length:=ADX
    have hlt:=ABN.1 hpw a b hal hbl hab;grind
   ·obtain⟨j,hj,rfl⟩:=ABV.1 hp;grind
  show Zf w h c z.2.2.2.2=true;unfold Zf;rw[hf,Pq.2 hS];simp only[ABx,AAO,AAa,AAc];refine⟨λj hj=>?_,λj hj=>?_⟩
  ·unfold Yt;grind
  ·obtain⟨m,e,hm,h2⟩:=hcell j hj;unfold aV;rw[AAN hj];dsimp only;rw[e,show(m:Int).toNat=m by clear hn;omega,h2];unfold P5;grind
def Qc(l:ADR)(P:Int->Bool):ADR:=l.map λo=>bif P o.1 then(o.1,o.2.1,o.2.2.1,o.2.2.2.1,2)else o
theorem gJ(l:ADR)(P:Int->Bool)(h:∀id,P id=false):Qc l P=l:=by
 unfold Qc;rw[ABg (g:=id) λo _=>by rw[h];rfl,List.map_id]
theorem Zr(l:ADR){P Q:Int->Bool}(h:∀id,P id=Q id):Qc l P=Qc l Q:=by rw[show P=Q from funext h]
theorem jm(l:ADR)(P:Int->Bool)(id:Int):QA (Qc l P) id 2=Qc l λk=>P k||k==id:=by unfold QA Qc;rw[ACL];refine ABg λo _=>?_;grind
theorem jR(l:ADR)(P:Int->Bool)(id:Int):P0 (Qc l P) id=(P0 l id).map λo=>bif P id then(o.1,o.2.1,o.2.2.1,o.2.2.2.1,2)else o:=by
 unfold P0 Qc;rw[ACI]
 have:((λo:PS=>o.1==id) ∘ λo:PS=>bif P o.1 then(o.1,o.2.1,o.2.2.1,o.2.2.2.1,2)else o)=λo:PS=>o.1==id:=funext λo=>No
 rw[this];cases h:l.find? λo=>o.1==id with
 |none=>rfl
 |some o=>
  grind
theorem kC{l:ADR}{P:Int->Bool}(h:P2 l id=true):P2 (Qc l P) id = !P id:=by unfold P2 at h ⊢;rw[jR];grind
theorem rK(a:Is)(l:ADR)(P:Int->Bool)(t:PH):Sz a (Qc l P) t=Sz a l t:=by unfold Sz;rw[jR];grind
theorem fS(l:ADR)(P:Int->Bool)(t:PH):O9 (Qc l P) t=O9 l t:=by unfold O9;rw[jR];grind
theorem oY(a:Is)(ou:By)(l:ADR)(P:Int->Bool)(crew:ADS)(t:PH):PN a ou (Qc l P) crew t=PN a ou l crew t:=by unfold PN;simp only[rK,fS]
theorem eB(left:AAM)(l:ADR):∀(ended:By)(P:Int->Bool),(∀id∈ended,P2 l id=true)->jG left ended (Qc l P)=Qc l λk=>P k||((ended.any λe=>e==k) && !(left.any λt=>t.1==k))
 | [],P,_=>by
  show Qc l P=_;exact Zr l λk=>AAB
 |id::ended,P,h=>by
  have ho:=kC (P:=P) (h id AAp);have h2:=λe he=>h e (AAR id he);have hun:jG left (id::ended) (Qc l P)=jG left ended (bif(left.any λt=>t.1==id) || !P2 (Qc l P) id then Qc l P else QA (Qc l P) id 2):=rfl;rw[hun,ho,Bool.not_not];cases hb:((left.any λt=>t.1==id)||P id)with
  |true=>
   rw[ABR,eB left l ended P h2];grind
  |false=>
   obtain⟨hb1,hb2⟩:=AAn.1 hb;rw[ABS,jm,eB left l ended _ h2];refine Zr l λk=>?_;rw[ACX];by_cases e:id=k
   ·subst e;grind
   ·rw[show(id==k)=false from ABX.2 e,show(k==id)=false from ABX.2 λq=>e q.symm,Bool.false_or,Bool.or_false]
end Go.Ev.N
