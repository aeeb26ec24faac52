/- FnTop,as a plain law oZ native forms: what the program's function answers is what the reference's answers. Conditions: none but the lengths' and numbers' bounds. -/
import Derived.Test.YthlchdmdanagkaaGreatFnTopPureA
set_option linter.all false
namespace Go.Ev.N
open Go Go.Ev
def U2(w h:Int)(c:By)(a:Is)(crew:ADQ)(l:AAL):List By:=
 (Pv a l (PO crew l).length).map λt=>(PO crew l).map λk=>Ra w h c (Xs crew k).2.1 (Py a (Wf l t).2.1)
def QC(w h:Int)(c:By)(a:Is)(crew:ADQ)(l:AAL):It:=pk (PJ (U2 w h c a crew l)) (List.range (PO crew l).length)
def Xd(w h:Int)(c:By)(a:Is)(crew:ADQ)(l:AAL)(j:Nat):Option (Nat×Nat):=
 if Ra w h c (Xs crew ((PO crew l).getD ((QC w h c a crew l).getD j 0) 0)).2.1 (Py a (Wf l ((Pv a l (PO crew l).length).getD j 0)).2.1)<100000
 then some ((Pv a l (PO crew l).length).getD j 0,(PO crew l).getD ((QC w h c a crew l).getD j 0) 0)else none
def PZ(w h:Int)(c:By)(a:Is)(crew:ADQ)(l:AAL):List (Nat×Nat):=(List.range (QC w h c a crew l).length).filterMap (Xd w h c a crew l)
def iV(w h:Int)(c:By)(a:Is)(crew:ADQ)(l:AAL):Bool:=Pq a&&Sx w h c crew&&Rv l
def gh(w h:Int)(c:By)(a:Is)(crew:ADQ)(l:AAL):ADQ×AAL:=bif iV w h c a crew l then sendAll a crew l (PZ w h c a crew l)else(crew,l)
theorem pK{w h:Int}{c:By}(hc:c.length<=1048576)(hf:PW w h c=true)(a b:Int):0<=Ra w h c a b/\Ra w h c a b<=100000:=by obtain⟨_,_,h1,h2⟩:=bG hc hf a b PE (AAh _);unfold Ra;omega
theorem dz{w h:Int}{c:By}(hc:c.length<=1048576)(hf:PW w h c=true)(a:Is)(crew:ADQ)(l:AAL):CM (U2 w h c a crew l) (PO crew l).length:=by
 refine⟨λr hr=>?_,?_,XV crew l,λr hr x hx=>?_⟩
 ·obtain⟨t,_,rfl⟩:=AAw.1 hr;simp
 ·unfold U2;rw[ABl];exact Yx a l _ _ _
 ·obtain⟨t,_,rfl⟩:=AAw.1 hr;obtain⟨k,_,rfl⟩:=AAw.1 hx;exact pK hc hf _ _
theorem lQ{M:List By}{m:Nat}(hc:CM M m)(n:Nat)(hn:PE<=n):∃s,Vt n M=some (O7 (pk (PJ M) (List.range m)),s):=by
 by_cases h0:M=[]
 ·subst h0;have hc0:CM [] 0:=⟨AAA,AAA,J,AAA⟩;obtain⟨s,s1,_⟩:=WD hc0 (λ_=>rfl) n hn;exact⟨s,s1⟩
 ·obtain⟨s,s1,_⟩:=WD hc (λe=>absurd e h0) n hn;exact⟨s,s1⟩
theorem kY{M:List By}{m:Nat}(hc:CM M m)(n:Nat)(hn:PE<=n):∃s,XX n M=some (O7 (pk (PJ M) (List.range m)),s)/\Vt n M=some (O7 (pk (PJ M) (List.range m)),s):=by
 by_cases h0:M=[]
 ·subst h0;have hc0:CM [] 0:=⟨AAA,AAA,J,AAA⟩;obtain⟨s,s1,s2⟩:=Z2 hc0 (λ_=>rfl) n hn;obtain⟨s',s3,s4⟩:=WD hc0 (λ_=>rfl) n hn;rw[s2]at s4;injection s4 with s4
  subst s4;exact⟨s,s1,s3⟩
 ·obtain⟨s,s1,s2⟩:=Z2 hc (λe=>absurd e h0) n hn;obtain⟨s',s3,s4⟩:=WD hc (λe=>absurd e h0) n hn;grind
theorem VM{β:Type}(F:Nat->β)(s:It):(List.range s.length).map (λi=>F (s.getD i 0))=s.map F:=by apply AB0 AAA;grind
theorem Vl{s:It}{i:Nat}(h:i<s.length):ON (O7 s) (i:Int)=true/\(O7 s)[i]?=some ((s.getD i 0:Nat):Int):=by refine⟨O6 (by simpa[O7]using h),?_⟩;unfold O7;grind
theorem U4{s:It}{i:Nat}(h:i<s.length):s.getD i 0∈s:=No
theorem X5{a:Is}(ha:a.length<=1048576){l:AAL}{M t:Nat}(h:t∈Pv a l M):t<l.length/\(Wf l t).2.2.2=1/\(Wf l t).2.1∉Tx l/\∃i,∃hi:i<a.length,Rq a (Wf l t).2.1=(i:Int)/\a[i].1=(Wf l t).2.1/\Py a (Wf l t).2.1=a[i].2.1:=by
 obtain⟨_,h2,h3,h4,h5⟩:=fF a l M (Tx l) 0 t h;simp only[Nat.sub_zero]at h2 h3 h4 h5;have e:Wf l t=l[t]:=by unfold Wf;rw[List.getD,AAM h2];rfl
 rw[e];refine⟨h2,h3,h5,?_⟩;rcases(Qf a ha l[t].2.1 PE (AAh _)).2 with⟨q,_⟩|⟨i,hi,q,q2⟩
 ·omega
 ·refine⟨i,hi,q,q2,?_⟩;unfold Py;grind
theorem lO{w h:Int}{c:By}(hc:c.length<=1048576)(hf:PW w h c=true){a:Is}(ha:a.length<=1048576){crew:ADQ}(hcr:crew.length<=1048576){l:AAL}(hl:l.length<=60)(n:Nat)(hn:PE<=n):
  iter n (SA n w h c a crew l (O7 (PO crew l)) (O7 (Pv a l (PO crew l).length))) ([],0)=some (U2 w h c a crew l,((Pv a l (PO crew l).length).length:Int)):=by
 generalize hwho:PO crew l=who;generalize hwhat:Pv a l who.length=what;have h10:who.length<=10:=by rw[<-hwho];exact XV crew l
 have hwl:what.length<=10:=by rw[<-hwhat];exact AA2 (Yx a l _ _ _) h10
 have hlw:(O7 who).length=who.length:=by simp[O7]
 have zj:(O7 what).length=what.length:=by simp[O7]
 have:=Yg (SA n w h c a crew l (O7 who) (O7 what)) (λi=>who.map λk=>Ra w h c (Xs crew k).2.1 (Py a (Wf l (what.getD i 0)).2.1)) what.length (λi hi=>by
  have hd:decide ((i:Int)<((O7 what).length:Int))=true:=by rw[AAj,zj];clear hn;omega
  obtain⟨t1,t2⟩:=Vl hi;have htm:what.getD i 0∈Pv a l who.length:=by rw[hwhat];exact U4 hi
  obtain⟨f1,f2,f3,p,hp,f4,f5,f6⟩:=X5 ha htm;generalize what.getD i 0=t at t2 htm f1 f2 f3 f4 f5 f6;generalize hout:(List.range i).map (λi=>who.map λk=>Ra w h c (Xs crew k).2.1 (Py a (Wf l (what.getD i 0)).2.1))=out;have hol:out.length=i:=by rw[<-hout];simp
  have zg:=Yg (To n w h c a crew l (O7 who) (O7 what) (out,(i:Int))) (λk=>Ra w h c (Xs crew (who.getD k 0)).2.1 (Py a (Wf l t).2.1)) who.length (λk hk=>by
   have hd2:decide ((k:Int)<((O7 who).length:Int))=true:=by rw[AAj,hlw];clear hn;omega
   obtain⟨w1,w2⟩:=Vl hk;have hkm:who.getD k 0∈PO crew l:=by rw[hwho];exact U4 hk
   obtain⟨g1,g2⟩:=Yl hkm;have hg:Iv crew ((who.getD k 0:Nat):Int)=some (Xs crew (who.getD k 0)):=by rw[RC];exact jC g1
   have hgt:Iv l ((t:Nat):Int)=some (Wf l t):=by rw[RC];exact dt f1
   have hgp:Iv a ((p:Nat):Int)=some a[p]:=O3 hp
   have hcost:XG n w h c (Xs crew (who.getD k 0)).2.1 (Py a (Wf l t).2.1)=some (Ra w h c (Xs crew (who.getD k 0)).2.1 (Py a (Wf l t).2.1)):=by
    unfold XG Ra;rw[(bG hc hf _ _ n hn).1,ABP];by_cases q:T3 w h c (Xs crew (who.getD k 0)).2.1 (Py a (Wf l t).2.1)<0
    ·grind
    ·grind
   have zo:∀x:Int,decide (((List.range k).map λk=>Ra w h c (Xs crew (who.getD k 0)).2.1 (Py a (Wf l t).2.1)).length+[x].length<=E7)=true:=λx=>Rr No;simp only[To,hd2,ABQ,w1,w2,t1,t2,ABT,ABP,hg,hgt,(Qf a ha _ n hn).1,f4,hgp,<-f6,hcost,zo,O1 hk (show who.length<=9223372036854775807 by omega)]) (by
   have hd2:decide ((who.length:Int)<((O7 who).length:Int))=false:=by rw[AAr,hlw];clear hn;omega
   simp only[To,hd2,ABS]) n ADU
  rw[VM (λk=>Ra w h c (Xs crew k).2.1 (Py a (Wf l t).2.1)) who]at zg;have zo:∀x:By,decide (out.length+[x].length<=E7)=true:=λx=>Rr J;simp only[SA,hd,ABQ,zg,ABP,zo,O1 hi (show what.length<=9223372036854775807 by omega)]) (by
  have hd:decide ((what.length:Int)<((O7 what).length:Int))=false:=by rw[AAr,zj];clear hn;omega
  simp only[SA,hd,ABS]) n ADU
 rw[this,VM (λt=>who.map λk=>Ra w h c (Xs crew k).2.1 (Py a (Wf l t).2.1)) what,<-hwhat,<-hwho];rfl
theorem kp{w h:Int}{c:By}(hc:c.length<=1048576)(hf:PW w h c=true){a:Is}(ha:a.length<=1048576){crew:ADQ}(hcr:crew.length<=1048576){l:AAL}(hl:l.length<=60)(n:Nat)(hn:PE<=n):
  iter n (Rx n w h c a crew l (O7 (PO crew l)) (O7 (Pv a l (PO crew l).length))) ([],0)=some (U2 w h c a crew l,((Pv a l (PO crew l).length).length:Int)):=by
 generalize hwho:PO crew l=who;generalize hwhat:Pv a l who.length=what;have h10:who.length<=10:=by rw[<-hwho];exact XV crew l
 have hwl:what.length<=10:=by rw[<-hwhat];exact AA2 (Yx a l _ _ _) h10
 have hlw:(O7 who).length=who.length:=by simp[O7]
 have zj:(O7 what).length=what.length:=by simp[O7]
 have:=Yg (Rx n w h c a crew l (O7 who) (O7 what)) (λi=>who.map λk=>Ra w h c (Xs crew k).2.1 (Py a (Wf l (what.getD i 0)).2.1)) what.length (λi hi=>by
  have hd:decide ((i:Int)<((O7 what).length:Int))=true:=by rw[AAj,zj];clear hn;omega
  obtain⟨t1,t2⟩:=Vl hi;have htm:what.getD i 0∈Pv a l who.length:=by rw[hwhat];exact U4 hi
  obtain⟨f1,f2,f3,p,hp,f4,f5,f6⟩:=X5 ha htm;generalize what.getD i 0=t at t2 htm f1 f2 f3 f4 f5 f6;generalize hout:(List.range i).map (λi=>who.map λk=>Ra w h c (Xs crew k).2.1 (Py a (Wf l (what.getD i 0)).2.1))=out;have hol:out.length=i:=by rw[<-hout];simp
  have zg:=Yg (Td n w h c a crew l (O7 who) (t:Int)) (λk=>Ra w h c (Xs crew (who.getD k 0)).2.1 (Py a (Wf l t).2.1)) who.length (λk hk=>by
   have hd2:decide ((k:Int)<((O7 who).length:Int))=true:=by rw[AAj,hlw];clear hn;omega
   obtain⟨w1,w2⟩:=Vl hk;have hkm:who.getD k 0∈PO crew l:=by rw[hwho];exact U4 hk
   obtain⟨g1,g2⟩:=Yl hkm;have hg:Iv crew ((who.getD k 0:Nat):Int)=some (Xs crew (who.getD k 0)):=by rw[RC];exact jC g1
   have hgt:Iv l ((t:Nat):Int)=some (Wf l t):=by rw[RC];exact dt f1
   have hgp:Iv a ((p:Nat):Int)=some a[p]:=O3 hp
   have hcost:(bif decide (T3 w h c (Xs crew (who.getD k 0)).2.1 (Py a (Wf l t).2.1)<0)then some (100000:Int)else some (T3 w h c (Xs crew (who.getD k 0)).2.1 (Py a (Wf l t).2.1)))=some (Ra w h c (Xs crew (who.getD k 0)).2.1 (Py a (Wf l t).2.1)):=by
    unfold Ra;by_cases q:T3 w h c (Xs crew (who.getD k 0)).2.1 (Py a (Wf l t).2.1)<0
    ·grind
    ·grind
   have zo:∀x:Int,decide (((List.range k).map λk=>Ra w h c (Xs crew (who.getD k 0)).2.1 (Py a (Wf l t).2.1)).length+[x].length<=E7)=true:=λx=>Rr No;simp only[Td,WY,hd2,ABQ,w1,w2,ABT,ABP,hg,hgt,(Qf a ha _ n hn).1,f4,hgp,<-f6,(bG hc hf _ _ n hn).2.1,hcost,zo,O1 hk (show who.length<=9223372036854775807 by omega)]) (by
   have hd2:decide ((who.length:Int)<((O7 who).length:Int))=false:=by rw[AAr,hlw];clear hn;omega
   simp only[Td,hd2,ABS]) n ADU
  rw[VM (λk=>Ra w h c (Xs crew k).2.1 (Py a (Wf l t).2.1)) who]at zg;have zo:∀x:By,decide (out.length+[x].length<=E7)=true:=λx=>Rr J;simp only[Rx,hd,ABQ,t1,t2,ABT,zg,ABP,zo,O1 hi (show what.length<=9223372036854775807 by omega)]) (by
  have hd:decide ((what.length:Int)<((O7 what).length:Int))=false:=by rw[AAr,zj];clear hn;omega
  simp only[Rx,hd,ABS]) n ADU
 rw[this,VM (λt=>who.map λk=>Ra w h c (Xs crew k).2.1 (Py a (Wf l t).2.1)) what,<-hwhat,<-hwho];rfl
theorem aZ{w h:Int}{c:By}(hc:c.length<=1048576)(hf:PW w h c=true)(a:Is)(crew:ADQ)(l:AAL):(QC w h c a crew l).length=(Pv a l (PO crew l).length).length/\(QC w h c a crew l).Nodup/\∀k∈QC w h c a crew l,k<(PO crew l).length:=by
 have hcm:=dz hc hf a crew l;obtain⟨p1,p2,p3⟩:=qT (PJ (U2 w h c a crew l)) (List.range (PO crew l).length) AB2 (by rw[List.length_range];simpa[PJ]using hcm.nm);refine⟨by unfold QC;rw[p1];simp[PJ,U2],p2,λk hk=>AAb.1 (p3 k hk)⟩
theorem fJ{w h:Int}{c:By}(hc:c.length<=1048576)(hf:PW w h c=true){a:Is}(ha:a.length<=1048576){crew:ADQ}{l:AAL}{j:Nat}(hj:j<(QC w h c a crew l).length):
  ∃(q k t p:Nat) (row:By),(O7 (QC w h c a crew l))[j]?=some (q:Int)/\ON (O7 (QC w h c a crew l)) (j:Int)=true/\ON (O7 (PO crew l)) (q:Int)=true/\(O7 (PO crew l))[q]?=some (k:Int)/\
   ON (U2 w h c a crew l) (j:Int)=true/\(U2 w h c a crew l)[j]?=some row/\ON row (q:Int)=true/\row[q]?=some (Ra w h c (Xs crew k).2.1 (Py a (Wf l t).2.1))/\
   ON (O7 (Pv a l (PO crew l).length)) (j:Int)=true/\(O7 (Pv a l (PO crew l).length))[j]?=some (t:Int)/\k<crew.length/\t<l.length/\
   Rq a (Wf l t).2.1=(p:Int)/\(∃x,Iv a (p:Int)=some x/\x.2.1=Py a (Wf l t).2.1)/\
   Xd w h c a crew l j=if Ra w h c (Xs crew k).2.1 (Py a (Wf l t).2.1)<100000 then some (t,k)else none:=by
 obtain⟨c1,c2,c3⟩:=aZ hc hf a crew l;have hq:=c3 _ (U4 hj);have hw:j<(Pv a l (PO crew l).length).length:=J
 obtain⟨a1,a2⟩:=Vl hj;obtain⟨b1,b2⟩:=Vl hq;obtain⟨d1,d2⟩:=Vl hw;obtain⟨f1,f2,f3,p,hp,f4,f5,f6⟩:=X5 ha (U4 hw);obtain⟨g1,_⟩:=Yl (U4 hq);have hM:j<(U2 w h c a crew l).length:=by simpa[U2]using hw
 have zo:(U2 w h c a crew l)[j]?=some ((PO crew l).map λk=>Ra w h c (Xs crew k).2.1 (Py a (Wf l ((Pv a l (PO crew l).length).getD j 0)).2.1)):=by unfold U2;rw[AAe,AAM hw,List.getD,AAM hw];rfl
 refine⟨(QC w h c a crew l).getD j 0,(PO crew l).getD ((QC w h c a crew l).getD j 0) 0,(Pv a l (PO crew l).length).getD j 0,p,_,a2,a1,b1,b2,O6 hM,zo,O6 (by simpa using hq),?_,d1,d2,g1,f1,f4,⟨a[p],O3 hp,f6.symm⟩,rfl⟩;grind
theorem iD(a:Is)(crew:ADQ)(l:AAL)(w h:Int)(c:By)(j:Nat):sendAll a crew l ((List.range (j+1)).filterMap (Xd w h c a crew l))=match Xd w h c a crew l j with
  |some p=>Qz a crew l p (sendAll a crew l ((List.range j).filterMap (Xd w h c a crew l)))
  |none=>sendAll a crew l ((List.range j).filterMap (Xd w h c a crew l)):=by
 unfold sendAll;rw[AB1,List.filterMap_append,List.foldl_append];grind
theorem nL{w h:Int}{c:By}(hc:c.length<=1048576)(hf:PW w h c=true){a:Is}(ha:a.length<=1048576){crew:ADQ}(hcr:crew.length<=1048576){l:AAL}(hl:l.length<=60)(s x:Int)(n:Nat)(hn:PE<=n):
  iter n (Q9 n a l (O7 (PO crew l)) (O7 (Pv a l (PO crew l).length)) (U2 w h c a crew l,x) (O7 (QC w h c a crew l),s)) (0,crew,l)=some (((QC w h c a crew l).length:Int),sendAll a crew l (PZ w h c a crew l)):=by
 have h10:=XV crew l;obtain⟨c1,c2,c3⟩:=aZ hc hf a crew l;have hcl:(QC w h c a crew l).length<=10:=by rw[c1];exact AA2 (Yx a l _ _ _) h10
 have:=Pa (Q9 n a l (O7 (PO crew l)) (O7 (Pv a l (PO crew l).length)) (U2 w h c a crew l,x) (O7 (QC w h c a crew l),s)) (λj=>((j:Int),sendAll a crew l ((List.range j).filterMap (Xd w h c a crew l)))) (QC w h c a crew l).length (((QC w h c a crew l).length:Int),sendAll a crew l (PZ w h c a crew l)) (λj hj=>by
  obtain⟨q,k,t,p,row,e1,e2,e3,e4,e5,e6,e7,e8,e9,e10,e11,e12,e13,⟨y,e14,e15⟩,e16⟩:=fJ hc hf ha hj;have hlc:(O7 (QC w h c a crew l)).length=(QC w h c a crew l).length:=by simp[O7]
  have hd:decide ((j:Int)<((O7 (QC w h c a crew l)).length:Int))=true:=by rw[AAj,hlc];clear hn;omega
  rw[iD,e16];have hsi:SI crew l (sendAll a crew l ((List.range j).filterMap (Xd w h c a crew l))):=SI.all _ _ (SI.first crew l);generalize sendAll a crew l ((List.range j).filterMap (Xd w h c a crew l))=st at hsi;obtain⟨cr,tk⟩:=st;have hgt:Iv l (t:Int)=some (Wf l t):=by rw[RC];exact dt e12
  have hw:O5 ((j:Int)+1)=((j+1:Nat):Int):=O1 hj J;by_cases hcost:Ra w h c (Xs crew k).2.1 (Py a (Wf l t).2.1)<100000
  ·rw[AAS hcost];obtain⟨r,r1,r2⟩:=hsi.id k e11;have l1:=hsi.l1;have l2:=hsi.l2;dsimp only at r1 l1 l2;have i1:ON cr (k:Int)=true:=O6 J;have i2:∀f,ON (List.modify cr k f) (k:Int)=true:=λf=>O6 No;have i3:∀f g,ON (List.modify (List.modify cr k f) k g) (k:Int)=true:=λf g=>O6 No;have i4:ON tk (t:Int)=true:=O6 J;have i5:∀f,ON (List.modify tk t f) (t:Int)=true:=λf=>O6 No
   have g1:∀f g,(List.modify (List.modify cr k f) k g)[k]?=some (g (f r)):=λf g=>No
   simp only[Q9,hd,ABQ,ABT,e1,e2,e3,e4,e5,e6,e7,e8,e9,e10,ABP,ABV hcost,hgt,(Qf a ha _ n hn).1,e13,e14,e15,i1,i2,i3,i4,i5,g1,hw,Qz,r2]
  ·rw[AAT hcost];simp only[Q9,hd,ABQ,ABS,ABT,e1,e2,e3,e4,e5,e6,e7,e8,e9,e10,ABP,ABZ hcost,hw]) (by
  have hlc:(O7 (QC w h c a crew l)).length=(QC w h c a crew l).length:=by simp[O7]
  have hd:decide (((QC w h c a crew l).length:Int)<((O7 (QC w h c a crew l)).length:Int))=false:=by rw[AAr,hlc];clear hn;omega
  simp only[Q9,hd,ABS];rfl) n ADU
 exact this
theorem ma{w h:Int}{c:By}(hc:c.length<=1048576)(hf:PW w h c=true){a:Is}(ha:a.length<=1048576){crew:ADQ}(hcr:crew.length<=1048576){l:AAL}(hl:l.length<=60)(s x:Int)(n:Nat)(hn:PE<=n):
  iter n (Q8 n a (O7 (PO crew l)) (O7 (Pv a l (PO crew l).length)) (U2 w h c a crew l,x) (O7 (QC w h c a crew l),s)) (0,crew,l)=some (((QC w h c a crew l).length:Int),sendAll a crew l (PZ w h c a crew l)):=by
 have h10:=XV crew l;obtain⟨c1,c2,c3⟩:=aZ hc hf a crew l;have hcl:(QC w h c a crew l).length<=10:=by rw[c1];exact AA2 (Yx a l _ _ _) h10
 have:=Pa (Q8 n a (O7 (PO crew l)) (O7 (Pv a l (PO crew l).length)) (U2 w h c a crew l,x) (O7 (QC w h c a crew l),s)) (λj=>((j:Int),sendAll a crew l ((List.range j).filterMap (Xd w h c a crew l)))) (QC w h c a crew l).length (((QC w h c a crew l).length:Int),sendAll a crew l (PZ w h c a crew l)) (λj hj=>by
  obtain⟨q,k,t,p,row,e1,e2,e3,e4,e5,e6,e7,e8,e9,e10,e11,e12,e13,⟨y,e14,e15⟩,e16⟩:=fJ hc hf ha hj;have hlc:(O7 (QC w h c a crew l)).length=(QC w h c a crew l).length:=by simp[O7]
  have hd:decide ((j:Int)<((O7 (QC w h c a crew l)).length:Int))=true:=by rw[AAj,hlc];clear hn;omega
  rw[iD,e16];have hsi:SI crew l (sendAll a crew l ((List.range j).filterMap (Xd w h c a crew l))):=SI.all _ _ (SI.first crew l);generalize sendAll a crew l ((List.range j).filterMap (Xd w h c a crew l))=st at hsi;obtain⟨cr,tk⟩:=st;have hw:O5 ((j:Int)+1)=((j+1:Nat):Int):=O1 hj J;by_cases hcost:Ra w h c (Xs crew k).2.1 (Py a (Wf l t).2.1)<100000
  ·rw[AAS hcost];have hge:decide (Ra w h c (Xs crew k).2.1 (Py a (Wf l t).2.1)>=100000)=false:=ABZ J;obtain⟨r,r1,r2⟩:=hsi.id k e11;obtain⟨u,u1,u2⟩:=hsi.PB t e12;have l1:=hsi.l1;have l2:=hsi.l2;dsimp only at r1 u1 l1 l2;have i1:ON cr (k:Int)=true:=O6 J;have i4:ON tk (t:Int)=true:=O6 J
   have g1:∀f g,(List.modify (List.modify tk t f) t g)[t]?=some (g (f u)):=λf g=>No
   simp only[Q8,WY,hd,ABQ,ABS,ABT,e1,e2,e3,e4,e5,e6,e7,e8,e9,e10,ABP,hge,i1,i4,r1,g1,u2,(Qf a ha _ n hn).1,e13,e14,e15,hw,Qz,r2]
  ·rw[AAT hcost];have hge:decide (Ra w h c (Xs crew k).2.1 (Py a (Wf l t).2.1)>=100000)=true:=ABV J;simp only[Q8,hd,ABQ,ABT,e1,e2,e3,e4,e5,e6,e7,e8,ABP,hge,hw]) (by
  have hlc:(O7 (QC w h c a crew l)).length=(QC w h c a crew l).length:=by simp[O7]
  have hd:decide (((QC w h c a crew l).length:Int)<((O7 (QC w h c a crew l)).length:Int))=false:=by rw[AAr,hlc];clear hn;omega
  simp only[Q8,hd,ABS];rfl) n ADU
 exact this
theorem eE{w h:Int}{c:By}{crew:ADQ}(hk:Sx w h c crew=true):PW w h c=true:=by unfold Sx at hk;grind
theorem cI{w h:Int}{c:By}(hc:c.length<=1048576){a:Is}(ha:Pb a){crew:ADQ}(hcr:crew.length<=1048576){l:AAL}(hl:l.length<=1048576)(n:Nat)(hn:PE<=n):WB n w h c a crew l=some (gh w h c a crew l):=by
 have r1:decide (([]:ADQ).length+crew.length<=E7)=true:=by rw[AAj];simp[E7];clear hn;omega
 have r2:decide (([]:AAL).length+l.length<=E7)=true:=by rw[AAj];simp[E7];clear hn;omega
 have hal:a.length<=1048576:=ha.1;unfold WB gh iV;simp only[r1,r2,ABQ,P2 a ha n hn,Xk w h c hc crew hcr n hn,ZC l hl n hn,ABP,AA1];cases hs:Pq a with
 |false=>rfl
 |true=>cases hk:Sx w h c crew with
  |false=>rfl
  |true=>cases ht:Rv l with
   |false=>rfl
   |true=>
    have hf:=eE hk
    have h60:l.length<=60:=by unfold Rv at ht;simp only[AAN,AAj]at ht;exact ht.1
    have hil:(O7 (PO crew l)).length=(PO crew l).length:=by simp[O7]
    obtain⟨s,s2⟩:=lQ (dz hc hf a crew l) n hn;simp only[ABX,ABS,ABP,jF crew hcr l hl n hn,hil,gV a hal l h60 _ n hn,lO hc hf hal hcr h60 n hn,s2,ACC,ABQ];rw[show O7 (pk (PJ (U2 w h c a crew l)) (List.range (PO crew l).length))=O7 (QC w h c a crew l)from rfl,nL hc hf hal hcr h60 _ _ n hn];rfl
theorem bY{w h:Int}{c:By}(hc:c.length<=1048576){a:Is}(ha:Pb a){crew:ADQ}(hcr:crew.length<=1048576){l:AAL}(hl:l.length<=1048576)(n:Nat)(hn:PE<=n):Vy n w h c a crew l=some (gh w h c a crew l):=by
 have r1:decide (crew.length<=E7)=true:=by rw[AAj];simp[E7];clear hn;omega
 have r2:decide (l.length<=E7)=true:=by rw[AAj];simp[E7];clear hn;omega
 have hal:a.length<=1048576:=ha.1;have c1:Qm crew=some crew:=by unfold Qm;rw[r1];rfl
 have c2:QS l=some l:=by unfold QS;rw[r2];rfl
 unfold Vy gh iV;rw[YR];simp only[c1,c2,Pr w h c hc n hn,QH a ha n hn,TC w h c hc crew hcr n hn,Y9 l hl n hn,ABP];cases hk:Sx w h c crew with
 |false=>grind
 |true=>
  have hf:=eE hk;rw[hf];cases hs:Pq a with
  |false=>rfl
  |true=>cases ht:Rv l with
   |false=>rfl
   |true=>
    have h60:l.length<=60:=by unfold Rv at ht;simp only[AAN,AAj]at ht;exact ht.1
    have hil:(O7 (PO crew l)).length=(PO crew l).length:=by simp[O7]
    obtain⟨s,s1,_⟩:=kY (dz hc hf a crew l) n hn;simp only[ABX,ABS,ABP,ij crew hcr l hl n hn,hil,gI a hal l h60 _ n hn,kp hc hf hal hcr h60 n hn,s1,ACC,ABQ];rw[show O7 (pk (PJ (U2 w h c a crew l)) (List.range (PO crew l).length))=O7 (QC w h c a crew l)from rfl,ma hc hf hal hcr h60 _ _ n hn];rfl
structure TP(l:AAL):Prop where
 len:l.length<=60
 qk:∀i (h:i<l.length),P7 l[i]=true
 apart:∀i j (hi:i<l.length) (hj:j<i),Pg l[i] l[j]=false
theorem cz:∀(l p:AAL),Rl p l=true↔(∀x∈l,P7 x=true)/\(∀x∈l,∀u∈p,Pg x u=false)/\l.Pairwise λu x=>Pg x u=false
 | [],p=>by simp[Rl]
 |x::l,p=>by simp only[Rl,AAN,cz l (p++[x]),AAZ,AAa,ABn];grind
theorem We{l:AAL}:Rv l=true↔TP l:=by
 unfold Rv;rw[AAN,AAj,cz];constructor
 ·rintro ⟨h1,h2,_,h3⟩
  exact⟨h1,λi h=>h2 _ (ABR h),λi j hi hj=>ABM.1 h3 j i J hi hj⟩
 ·rintro ⟨h1,h2,h3⟩
  refine⟨h1,λx hx=>?_,λ_ _ _ h=>ADd,ABM.2 λa b ha hb hab=>h3 b a hb hab⟩;obtain⟨i,hi,rfl⟩:=ABU.1 hx;exact h2 i hi
theorem l9(a:Is)(crew:ADQ)(l:AAL):∀(prs:List (Nat×Nat)) (st:ADQ×AAL),(prs.map (·.1)).Nodup->(prs.map (·.2)).Nodup->
  (∀k,((prs.foldl (λst p=>Qz a crew l p st) st).1)[k]?=match prs.find? (λp=>p.2==k)with
   |some p=>(st.1[k]?).map λy=>(y.1,y.2.1,Py a (Wf l p.1).2.1,y.2.2.2.1,0)
   |none=>st.1[k]?)/\
  (∀i,((prs.foldl (λst p=>Qz a crew l p st) st).2)[i]?=match prs.find? (λp=>p.1==i)with
   |some p=>(st.2[i]?).map λy=>(y.1,y.2.1,(Xs crew p.2).1,2)
   |none=>st.2[i]?)
 | [],st,_,_=>⟨λk=>rfl,λi=>rfl⟩
 |p::prs,st,h1,h2=>by
  obtain⟨a1,a2⟩:=AAf.1 h1;obtain⟨b1,b2⟩:=AAf.1 h2;obtain⟨q1,q2⟩:=l9 a crew l prs (Qz a crew l p st) a2 b2;refine⟨λk=>?_,λi=>?_⟩
  ·rw[List.foldl_cons,q1 k,List.find?_cons];by_cases e:p.2=k
   ·have hn:prs.find? (λp=>p.2==k)=none:=ACA.2 λx hx hb=>b1 (AAw.2 ⟨x,hx,(by simpa using hb:x.2=k).trans e.symm⟩);rw[hn,show(p.2==k)=true by simpa using e];simp only[Qz,ABd,e,if_true];grind
   ·rw[show(p.2==k)=false by simpa using e]
    have he:(Qz a crew l p st).1[k]?=st.1[k]?:=by simp only[Qz,ABd,e,if_false];grind
    rw[he]
  ·rw[List.foldl_cons,q2 i,List.find?_cons];by_cases e:p.1=i
   ·have hn:prs.find? (λp=>p.1==i)=none:=ACA.2 λx hx hb=>a1 (AAw.2 ⟨x,hx,(by simpa using hb:x.1=i).trans e.symm⟩);rw[hn,show(p.1==i)=true by simpa using e];simp only[Qz,ABd,e,if_true];grind
   ·rw[show(p.1==i)=false by simpa using e]
    have he:(Qz a crew l p st).2[i]?=st.2[i]?:=by simp only[Qz,ABd,e,if_false];grind
    rw[he]
structure nV(w h:Int)(c:By)(a:Is)(crew:ADQ)(l:AAL)(prs:List (Nat×Nat)):Prop where
 n1:(prs.map (·.1)).Nodup
 n2:(prs.map (·.2)).Nodup
 ax:∀p∈prs,p.1∈Pv a l (PO crew l).length
 xl:∀p∈prs,p.2∈PO crew l
 zb:∀p∈prs,0<=T3 w h c (Xs crew p.2).2.1 (Py a (Wf l p.1).2.1)
theorem YP{w h:Int}{c:By}(hc:c.length<=1048576)(hf:PW w h c=true)(a:Is)(crew:ADQ)(l:AAL):nV w h c a crew l (PZ w h c a crew l):=by
 obtain⟨c1,c2,c3⟩:=aZ hc hf a crew l;have hready:(Pv a l (PO crew l).length).Nodup:=List.Pairwise.imp (fun {x y} h=>by have:=h.1;omega) (fG a l _ (Tx l) 0)
 have hpd:∀j p,Xd w h c a crew l j=some p->p.1=(Pv a l (PO crew l).length).getD j 0/\p.2=(PO crew l).getD ((QC w h c a crew l).getD j 0) 0/\0<=T3 w h c (Xs crew p.2).2.1 (Py a (Wf l p.1).2.1):=λj p hp=>by
  unfold Xd at hp;split at hp
  ·rename_i zj;injection hp with hp
   subst hp;refine⟨rfl,rfl,?_⟩;dsimp only;unfold Ra at zj;by_cases q:T3 w h c (Xs crew ((PO crew l).getD ((QC w h c a crew l).getD j 0) 0)).2.1 (Py a (Wf l ((Pv a l (PO crew l).length).getD j 0)).2.1)<0
   ·rw[AAS q]at zj;omega
   ·omega
  ·cases hp
 have hmem:∀p∈PZ w h c a crew l,∃j,j<(QC w h c a crew l).length/\Xd w h c a crew l j=some p:=λp hp=>by obtain⟨j,hj,e⟩:=List.mem_filterMap.1 hp;exact⟨j,AAb.1 hj,e⟩
 have at_ne:∀(s:It),s.Nodup->∀i j,i<s.length->j<s.length->i≠j->s.getD i 0≠s.getD j 0:=λs hs i j hi hj zp e=>by rw[List.getD,List.getD,AAM hi,AAM hj]at e;exact zp (eu hs hi hj e)
 have pw:(PZ w h c a crew l).Pairwise λp q=>p.1≠q.1/\p.2≠q.2:=by unfold PZ;rw[List.pairwise_filterMap];refine AB6 (fun {i j} hi hj hij p hp q hq=>?_) (List.pairwise_lt_range (n:=(QC w h c a crew l).length));rw[AAb]at hi hj;obtain⟨p1,p2,_⟩:=hpd i p hp;obtain⟨q1,q2,_⟩:=hpd j q hq;rw[p1,p2,q1,q2];refine⟨at_ne _ hready i j J J J,at_ne _ (mY crew l) _ _ (c3 _ (U4 hi)) (c3 _ (U4 hj)) (at_ne _ c2 i j hi hj J)⟩
 refine⟨?_,?_,λp hp=>?_,λp hp=>?_,λp hp=>?_⟩
 ·unfold List.Nodup;rw[ABk];exact pw.imp λh=>h.1
 all_goals grind
theorem lT{w h:Int}{c:By}(hc:c.length<=1048576)(hf:PW w h c=true){a b:Int}(hs:0<=T3 w h c a b):QN c b=true:=by
 cases hb:QN c b with
 |true=>rfl
 |false=>
  exfalso;obtain⟨_,e,_,_⟩:=bG hc hf a b PE (AAh _);obtain⟨k,k1,k2⟩:=TD w h c hc hf b PE (AAh _);rw[hb]at k2;have k3:(k==0)=true:=by simpa using k2
  unfold TF at e;grind
structure dD(a:Is)(crew:ADQ)(l:AAL)(prs:List (Nat×Nat))(AAH:ADQ)(l':AAL):Prop where
 l1:AAH.length=crew.length
 l2:l'.length=l.length
 rb:∀k (h:k<crew.length) (h':k<AAH.length),(∃p∈prs,p.2=k/\AAH[k]=(crew[k].1,crew[k].2.1,Py a (Wf l p.1).2.1,crew[k].2.2.2.1,0))\/((∀p∈prs,p.2≠k)/\AAH[k]=crew[k])
 tk:∀i (h:i<l.length) (h':i<l'.length),(∃p∈prs,p.1=i/\l'[i]=(l[i].1,l[i].2.1,(Xs crew p.2).1,2))\/((∀p∈prs,p.1≠i)/\l'[i]=l[i])
theorem Tm{a:Is}{crew:ADQ}{l:AAL}{prs:List (Nat×Nat)}(h1:(prs.map (·.1)).Nodup)(h2:(prs.map (·.2)).Nodup):dD a crew l prs (sendAll a crew l prs).1 (sendAll a crew l prs).2:=by
 obtain⟨q1,q2⟩:=l9 a crew l prs (crew,l) h1 h2;have hsi:=SI.all (a:=a) prs _ (SI.first crew l);have hfind:∀(P:Nat×Nat->Bool),prs.find? P=none->∀p∈prs,P p=false:=λP h p hp=>No
 refine⟨hsi.l1,hsi.l2,λk hk hk'=>?_,λi hi hi'=>?_⟩
 ·have:=q1 k;change (sendAll a crew l prs).1[k]?=_ at this;grind
 ·have:=q2 i;change (sendAll a crew l prs).2[i]?=_ at this;grind
theorem cW{l:AAL}{i:Nat}(h:i<l.length):Wf l i=l[i]:=by unfold Wf;grind
theorem cB{crew:ADQ}{i:Nat}(h:i<crew.length):Xs crew i=crew[i]:=by unfold Xs;grind
theorem bJ{x u:PH}:Pg x u=false↔¬(x.1=u.1/\x.2.1=u.2.1)/\(x.2.2.2≠1->x.2.2.1≠u.2.2.1/\(x.2.1=u.2.1->u.2.2.2=1)):=by unfold Pg;grind
structure CW(c:By)(crew:ADQ):Prop where
 n20:crew.length<=20
 qt:∀r∈crew,1<=r.1/\r.1<=99
 nM:∀r∈crew,QN c r.2.1=true
 goal:∀r∈crew,r.2.2.1 = -1\/QN c r.2.2.1=true
 qZ:∀r∈crew,0<=r.2.2.2.2/\r.2.2.2.2<=1000000
 ids:crew.Pairwise λr s=>r.1<s.1
 fv:crew.Pairwise λr s=>r.2.1≠s.2.1
theorem Xg{β:Type}(f:β->Int)(l:List β)(h:∀i (hi:i+1<l.length),f l[i]<f l[i+1]):l.Pairwise λx y=>f x<f y:=by
 rw[ABM]
 have key:∀d i (hj:i+d+1<l.length),f (l[i]'(by omega))<f l[i+d+1]:=by
  intro d
  induction d with
  |zero=>intro i hj;exact h i hj
  |succ d ih=>
   intro i hj;have h1:=ih i J;have h2:=h (i+d+1) J;have e:i+(d+1)+1=i+d+1+1:=J
   simp only[e];omega
 intro i j hi hj hij;have:=key (j-i-1) i J;grind
theorem iB{c:By}{crew:ADQ}{i:Nat}(hi:i<crew.length):oh c crew i=true↔(1<=crew[i].1/\crew[i].1<=99)/\QN c crew[i].2.1=true/\(crew[i].2.2.1 = -1\/QN c crew[i].2.2.1=true)/\(0<=crew[i].2.2.2.2/\crew[i].2.2.2.2<=1000000)/\
  (∀j (hj:j+1=i),(crew[j]'(by omega)).1<crew[i].1)/\∀j (hj:j<i),(crew[j]'(by omega)).2.1≠crew[i].2.1:=by
 have hp:Qk (·.1) crew i crew[i]=true↔∀j (hj:j+1=i),(crew[j]'(by omega)).1<crew[i].1:=by
  cases i with
  |zero=>exact⟨λ_ j hj=>J,λ_=>rfl⟩
  |succ k=>
   simp only[Qk,AAM (show k<crew.length by omega),AAa,AAr]
   exact⟨λh j hj=>by
    have:j=k:=J
    subst this;omega,λh=>by have:=h k rfl;omega⟩
 have ha:((crew.take i).all λy => !(y.2.1==crew[i].2.1))=true↔∀j (hj:j<i),(crew[j]'(by omega)).2.1≠crew[i].2.1:=by
  rw[AAZ];constructor
  ·intro h j hj;have:=h crew[j] (ABU.2 ⟨j,ADY,AAA⟩);simpa using this
  ·intro h y hy;obtain⟨j,hj,rfl⟩:=ABU.1 hy;have hji:j<i:=by simp at hj;omega
   have:=h j hji;simpa using this
 unfold oh;rw[AAM hi];simp only[AAN,hp,ha,AAg,AAX];unfold P5;grind
theorem Uq{w h:Int}{c:By}{crew:ADQ}:Sx w h c crew=true↔PW w h c=true/\CW c crew:=by
 unfold Sx;simp only[AAN,AAj,AAZ,AAb];constructor
 ·rintro ⟨⟨hf,hn⟩,hall⟩
  have hr:∀i (hi:i<crew.length),_:=λi hi=>(iB hi).1 (hall i hi)
  refine⟨hf,⟨hn,λr hr'=>?_,λr hr'=>?_,λr hr'=>?_,λr hr'=>?_,Xg _ _ λi hi=>(hr (i+1) hi).2.2.2.2.1 i rfl,ABM.2 λi j hi hj hij=>(hr j hj).2.2.2.2.2 i hij⟩⟩ <;>
   (obtain⟨i,hi,rfl⟩:=ABU.1 hr')
  ·exact(hr i hi).1
  ·exact(hr i hi).2.1
  ·exact(hr i hi).2.2.1
  ·exact(hr i hi).2.2.2.1
 ·rintro ⟨hf,hw⟩
  refine⟨⟨hf,hw.n20⟩,λi hi=>(iB hi).2 ?_⟩;have hm:=ABR hi;exact⟨hw.qt _ hm,hw.nM _ hm,hw.goal _ hm,hw.qZ _ hm,λj hj=>ABM.1 hw.ids j i J hi J,λj hj=>ABM.1 hw.fv j i J hi hj⟩
theorem nV.fH{w h:Int}{c:By}{a:Is}{crew:ADQ}{l:AAL}{prs:List (Nat×Nat)}(hd:nV w h c a crew l prs)(hc:CW c crew){p:Nat×Nat}(hp:p∈prs):∃hk:p.2<crew.length,1<=crew[p.2].1/\crew[p.2].1<=99/\crew[p.2].2.2.1 = -1/\crew[p.2].2.2.2.1=false/\∀j (hj:j<l.length),l[j].2.2.1≠crew[p.2].1:=by obtain⟨hk,hi⟩:=Yl (hd.xl p hp);have h1:=hc.qt _ (ABR hk);unfold eW at hi;grind
theorem nV.Vg{w h:Int}{c:By}{a:Is}(ha:a.length<=1048576){crew:ADQ}{l:AAL}{prs:List (Nat×Nat)}(hd:nV w h c a crew l prs){p:Nat×Nat}(hp:p∈prs):∃hk:p.1<l.length,l[p.1].2.2.2=1/\l[p.1].2.1∉Tx l/\∃i,∃hi:i<a.length,Rq a l[p.1].2.1=(i:Int)/\a[i].1=l[p.1].2.1/\Py a l[p.1].2.1=a[i].2.1:=by obtain⟨q1,q2,q3,q4⟩:=X5 ha (hd.ax p hp);rw[cW q1]at q2 q3 q4;grind
theorem jW{l:AAL}{j:Nat}(hj:j<l.length)(zp:l[j].2.2.2≠1):l[j].2.1∈Tx l:=by unfold Tx;grind
theorem nV.two{w h:Int}{c:By}{a:Is}(ha:a.length<=1048576){crew:ADQ}{l:AAL}{prs:List (Nat×Nat)}(hd:nV w h c a crew l prs)(hc:CW c crew){p q:Nat×Nat}(hp:p∈prs)(hq:q∈prs)(zp:p.1≠q.1):
  (Xs crew p.2).1≠(Xs crew q.2).1/\(Wf l p.1).2.1≠(Wf l q.1).2.1:=by
 obtain⟨r1,_⟩:=hd.fH hc hp;obtain⟨r2,_⟩:=hd.fH hc hq;obtain⟨i,hi,rfl⟩:=ABU.1 hp;obtain⟨j,hj,rfl⟩:=ABU.1 hq;have hij:i≠j:=λq=>zp (by subst q;rfl)
 have h2:prs[i].2≠prs[j].2:=λe=>hij (by
  have h2:=hd.n2;have e2:(prs.map (·.2))[i]'(by grind)=(prs.map (·.2))[j]'(by grind):=by rw[ABh,ABh];exact e
  exact eu h2 _ _ e2)
 refine⟨λe=>h2 ?_,?_⟩
 ·rw[cB r1,cB r2]at e;rcases ABe prs[i].2 prs[j].2 with zj|zj|zj
  ·have:=ABM.1 hc.ids _ _ r1 r2 zj;omega
  ·exact zj
  ·have:=ABM.1 hc.ids _ _ r2 r1 zj;omega
 ·have pw:=fG a l (PO crew l).length (Tx l) 0;obtain⟨t1,_⟩:=hd.Vg ha hp;obtain⟨t2,_⟩:=hd.Vg ha hq;have m1:=hd.ax _ hp;have m2:=hd.ax _ hq;rw[cW t1,cW t2];obtain⟨x,hx,ex⟩:=ABU.1 m1;obtain⟨y,hy,ey⟩:=ABU.1 m2
  have fwd:∀(x y:Nat) (hx:x<(Pv a l (PO crew l).length).length) (hy:y<(Pv a l (PO crew l).length).length) (s t:Nat) (hs:s<l.length) (ht:t<l.length),(Pv a l (PO crew l).length)[x]=s->(Pv a l (PO crew l).length)[y]=t->x<y->l[s].2.1≠l[t].2.1:=by intro x y hx hy s t hs ht es et zj;have:=(ABM.1 pw x y hx hy zj).2;have es':(Go.Ev.N.ax a (PO crew l).length (Tx l) 0 l)[x]'hx=s:=es;have et':(Go.Ev.N.ax a (PO crew l).length (Tx l) 0 l)[y]'hy=t:=et;simp only[es',et',Nat.sub_zero]at this;exact this hs ht
  grind
theorem dD.tasks{w h:Int}{c:By}{a:Is}(ha:a.length<=1048576){crew:ADQ}{l:AAL}{prs:List (Nat×Nat)}{AAH:ADQ}{l':AAL}(hs:dD a crew l prs AAH l')(hd:nV w h c a crew l prs)(ht:TP l)(hc:CW c crew):TP l':=by
 have hl2:=hs.l2;refine⟨by rw[hl2];exact ht.len,λi hi=>?_,λi j hi hj=>?_⟩
 ·have hil:i<l.length:=J
  rcases hs.tk i hil hi with⟨p,hp,rfl,e⟩|⟨_,e⟩
  ·obtain⟨hk,r1,r2,_⟩:=hd.fH hc hp;have hg:=ht.qk p.1 hil;obtain⟨t1,t2,_⟩:=hd.Vg ha hp;rw[e,cB hk];unfold P7 at hg ⊢;grind
  ·rw[e];exact ht.qk i hil
 ·have hil:i<l.length:=J
  have hjl:j<l.length:=J
  have hold:=bJ.1 (ht.apart i j hil hj);rw[bJ];rcases hs.tk i hil hi with⟨p,hp,rfl,e⟩|⟨hno,e⟩
  ·obtain⟨hk,r1,r2,r3,r4,r5⟩:=hd.fH hc hp;obtain⟨t1,t2,t3,_⟩:=hd.Vg ha hp;rcases hs.tk j hjl J with⟨q,hq,rfl,e2⟩|⟨hno2,e2⟩
   ·obtain⟨n1,n2⟩:=hd.two ha hc hp hq J;rw[cW hil,cW hjl]at n2;grind
   ·rw[e,e2,cB hk];refine⟨hold.1,λ_=>⟨λq=>r5 j hjl q.symm,λq=>?_⟩⟩;refine AAp λzp=>t3 ?_;have q:l[p.1].2.1=l[j].2.1:=q;rw[q];exact jW hjl zp
  ·rcases hs.tk j hjl J with⟨q,hq,rfl,e2⟩|⟨hno2,e2⟩
   ·obtain⟨hk,r1,r2,r3,r4,r5⟩:=hd.fH hc hq;obtain⟨t1,t2,t3,_⟩:=hd.Vg ha hq;rw[e,e2,cB hk];refine⟨hold.1,λzp=>⟨r5 i hil,λq2=>?_⟩⟩;have q2:l[i].2.1=l[q.1].2.1:=q2;exact absurd (q2▸jW hil zp) t3
   grind
theorem dD.crew{w h:Int}{c:By}(hcl:c.length<=1048576)(hf:PW w h c=true){a:Is}{crew:ADQ}{l:AAL}{prs:List (Nat×Nat)}{AAH:ADQ}{l':AAL}(hs:dD a crew l prs AAH l')(hd:nV w h c a crew l prs)(hc:CW c crew):CW c AAH:=by
 have hl1:=hs.l1
 have each:∀k (h:k<crew.length) (h':k<AAH.length),AAH[k].1=crew[k].1/\AAH[k].2.1=crew[k].2.1/\(AAH[k].2.2.1 = -1\/QN c AAH[k].2.2.1=true)/\0<=AAH[k].2.2.2.2/\AAH[k].2.2.2.2<=1000000:=λk hk hk'=>by
  rcases hs.rb k hk hk' with⟨p,hp,rfl,e⟩|⟨_,e⟩
  ·rw[e];exact⟨rfl,rfl,.inr (lT hcl hf (hd.zb p hp)),No,No⟩
  ·rw[e];have hm:=ABR hk;exact⟨rfl,rfl,hc.goal _ hm,hc.qZ _ hm⟩
 have mem:∀r∈AAH,∃k,∃h:k<crew.length,∃h':k<AAH.length,AAH[k]=r:=λr hr=>by obtain⟨k,hk,rfl⟩:=ABU.1 hr;grind
 refine⟨by rw[hl1];exact hc.n20,λr hr=>?_,λr hr=>?_,λr hr=>?_,λr hr=>?_,?_,?_⟩
 ·obtain⟨k,h,h',rfl⟩:=mem r hr;rw[(each k h h').1];exact hc.qt _ (ABR h)
 ·obtain⟨k,h,h',rfl⟩:=mem r hr;rw[(each k h h').2.1];exact hc.nM _ (ABR h)
 ·grind
 ·grind
 ·refine ABM.2 λi j hi hj hij=>?_;rw[(each i J hi).1,(each j J hj).1];exact ABM.1 hc.ids i j J J hij
 ·refine ABM.2 λi j hi hj hij=>?_;rw[(each i J hi).2.1,(each j J hj).2.1];exact ABM.1 hc.fv i j J J hij
theorem X4{β:Type}(key:β->Int)(a:List β)(i:Nat)(hi:i<a.length):Qk key a i a[i]=true↔∀j (hj:j+1=i),key (a[j]'(by omega))<key a[i]:=by
 cases i with
 |zero=>exact⟨λ_ j hj=>J,λ_=>rfl⟩
 |succ k=>
  simp only[Qk,AAM (show k<a.length by omega),AAa,AAr];grind
theorem jH{l:OF}:Qg l=true↔Uh l:=by
 constructor
 ·intro h;unfold Qg at h;simp only[AAN,AAZ,AAb,AAj]at h;obtain⟨h1,h2⟩:=h
  have each:∀i (hi:i<l.length),(1<=l[i].1/\l[i].1<=50)/\(1<=l[i].2.1/\l[i].2.1<=1000)/\(0<=l[i].2.2/\l[i].2.2<=l[i].2.1)/\∀j (hj:j+1=i),(l[j]'(by omega)).1<l[i].1:=λi hi=>by have:=h1 i hi;unfold WR at this;rw[AAM hi]at this;unfold P5 at this;simp only[AAN,AAj,X4 (·.1) l i hi]at this;exact⟨this.1.1.1,this.1.1.2,this.1.2,this.2⟩
  refine⟨Xg _ _ λi hi=>(each (i+1) hi).2.2.2 i rfl,λx hx=>?_,h2⟩;obtain⟨i,hi,rfl⟩:=ABU.1 hx;obtain⟨e1,e2,e3,_⟩:=each i hi;omega
 ·exact Uh.ok
theorem Pp{a:Is}:Pq a=true↔PF a:=by
 constructor
 ·intro h;unfold Pq at h;simp only[AAN,AAZ,AAb,AAj]at h;obtain⟨h1,h2⟩:=h
  have each:∀i (hi:i<a.length),(1<=a[i].1/\a[i].1<=999)/\(0<=a[i].2.1/\a[i].2.1<=99)/\Uh a[i].2.2/\(∀j (hj:j+1=i),(a[j]'(by omega)).1<a[i].1)/\∀j (hj:j<i),(a[j]'(by omega)).2.1≠a[i].2.1:=λi hi=>by have:=h2 i hi;unfold ct at this;rw[AAM hi]at this;unfold P5 at this;simp only[AAN,AAj,X4 (·.1) a i hi,jH,AAZ]at this;refine⟨this.1.1.1.1,this.1.1.1.2,this.1.1.2,this.1.2,λj hj=>?_⟩;have:=this.2 (a[j]'(by omega)) (ABU.2 ⟨j,ADY,AAA⟩);simpa using this
  have ids:=Xg (λx:PD=>x.1) a λi hi=>(each (i+1) hi).2.2.2.1 i rfl;refine⟨h1,ABM.2 λi j hi hj hij=>⟨ABM.1 ids i j hi hj hij,(each j hj).2.2.2.2 i hij⟩,λp hp=>?_⟩;obtain⟨i,hi,rfl⟩:=ABU.1 hp;obtain⟨e1,e2,e3,_⟩:=each i hi;grind
 ·exact PF.ok
def Q7(l:OF)(k:Int)(f:O0->O0):OF:=l.map λy=>bif y.1==k then f y else y
def Wg(a:Is)(PB:Int)(f:OF->OF):Is:=a.map λp=>bif p.1==PB then(p.1,p.2.1,f p.2.2)else p
theorem Xb{a:Is}(h:PF a){i:Nat}(hi:i<a.length)(f:OF->OF):a.modify i (λp=>(p.1,p.2.1,f p.2.2))=Wg a a[i].1 f:=by
 apply ABt;intro j;unfold Wg;rw[ABd,AAe];by_cases hj:j<a.length
 ·rw[AAM hj];by_cases e:i=j
  ·subst e;simp
  ·have zp:(a[j].1==a[i].1)=false:=by
    rw[ABW];intro q;rcases ABe i j with hl|hl|hl
    ·have:=(ABM.1 h.2.1 i j hi hj hl).1;omega
    ·exact e hl
    ·have:=(ABM.1 h.2.1 j i hj hi hl).1;omega
   simp[e,zp]
 grind
theorem mA{l:OF}(h:Uh l){i:Nat}(hi:i<l.length)(f:O0->O0):l.modify i f=Q7 l l[i].1 f:=by
 apply ABt;intro j;unfold Q7;rw[ABd,AAe];by_cases hj:j<l.length
 ·rw[AAM hj];by_cases e:i=j
  ·subst e;simp
  ·have zp:(l[j].1==l[i].1)=false:=by
    rw[ABW];intro q;rcases ABe i j with hl|hl|hl
    ·have:=ABM.1 h.1 i j hi hj hl;omega
    ·exact e hl
    ·have:=ABM.1 h.1 j i hj hi hl;omega
   simp[e,zp]
 grind
theorem TY{l:OF}(h:Uh l){x:O0}(hx:x∈l):PC l x.1=x:=by
 unfold PC;cases hf:l.find? λy=>y.1==x.1 with
 |none=>grind
 |some y=>
  have hy:=ABm hf;have he:y.1=x.1:=by simpa using ACJ hf
  obtain⟨i,hi,rfl⟩:=ABU.1 hx;obtain⟨j,hj,rfl⟩:=ABU.1 hy;rcases ABe i j with hl|hl|hl
  ·have:=ABM.1 h.1 i j hi hj hl;omega
  ·subst hl;rfl
  ·have:=ABM.1 h.1 j i hj hi hl;omega
theorem RH{l:OF}{k:Int}(h:∀x∈l,x.1≠k):PC l k=(k,0,0):=by unfold PC;grind
theorem Qj{l:OF}(h:Uh l)(k:Int):0<=(PC l k).2.1/\(PC l k).2.1<=1000/\0<=(PC l k).2.2/\(PC l k).2.2<=(PC l k).2.1/\(PC l k).1=k:=by
 unfold PC;cases hf:l.find? λy=>y.1==k with
 |none=>grind
 |some y=>
  have:=h.2.1 y (ABm hf);grind
theorem og{l:OF}(h:Uh l){k:Int}(hk:∃z∈l,z.1=k)(d:Int):gN (k,(PC l k).2.1,(PC l k).2.2+d) l=Q7 l k λy=>(y.1,y.2.1,y.2.2+d):=by
 unfold gN Q7;refine ABg λy hy=>?_;by_cases e:y.1=k
 ·subst e;rw[TY h hy]
 grind
theorem kQ{l:OF}(h:Uh l)(k d:Int)(hd:∀y∈l,y.1=k->0<=y.2.2+d/\y.2.2+d<=y.2.1):Uh (Q7 l k λy=>(y.1,y.2.1,y.2.2+d)):=by
 have key:∀y:O0,(bif y.1==k then(y.1,y.2.1,y.2.2+d)else y).1=y.1:=λy=>No
 refine⟨?_,λz hz=>?_,by unfold Q7;rw[ABl];exact h.2.2⟩
 ·unfold Q7;rw[ABk];exact h.1.imp λh=>No
 ·unfold Q7 at hz;obtain⟨y,hy,rfl⟩:=AAw.1 hz;have hy2:=h.2.1 y hy;grind
theorem fq{a:Is}(h:PF a)(PB:Int)(f:OF->OF)(hf:∀p∈a,p.1=PB->Uh (f p.2.2)):PF (Wg a PB f):=by
 have key:∀p:PD,(bif p.1==PB then(p.1,p.2.1,f p.2.2)else p).1=p.1/\(bif p.1==PB then(p.1,p.2.1,f p.2.2)else p).2.1=p.2.1:=λp=>No
 refine⟨by unfold Wg;rw[ABl];exact h.1,?_,λz hz=>?_⟩
 ·unfold Wg;rw[ABk];exact h.2.1.imp λh=>No
 ·unfold Wg at hz;obtain⟨p,hp,rfl⟩:=AAw.1 hz;have hp2:=h.2.2 p hp;grind
def RI(a:Is)(PB k:Int):O0:=match a[(Rq a PB).toNat]? with
 |some p=>PC p.2.2 k
 |none=>(k,0,0)
def Pw(a:Is)(PB k m:Int):Int:=bif Pq a&&(P5 k 1 50&&P5 m 1 1000)then(if Rq a PB<0 then 2 else 0)else 1
def T6(a:Is)(PB k d:Int):Is:=Wg a PB λl=>Q7 l k λy=>(y.1,y.2.1,y.2.2+d)
def Z1(a:Is)(PB k m:Int):Is×Int:=if Pw a PB k m≠0 then(a,Pw a PB k m)else if(RI a PB k).2.1-(RI a PB k).2.2<m then(a,3)else(T6 a PB k m,0)
def W6(a:Is)(PB k m:Int):Is×Int:=if Pw a PB k m≠0 then(a,Pw a PB k m)else if(RI a PB k).2.2<m then(a,3)else(T6 a PB k (-m),0)
theorem QE{a:Is}{PB k m:Int}(h:Pw a PB k m=0):PF a/\(1<=k/\k<=50)/\(1<=m/\m<=1000)/\∃i,∃hi:i<a.length,Rq a PB=(i:Int)/\a[i].1=PB/\RI a PB k=PC a[i].2.2 k:=by
 unfold Pw at h;cases hs:(Pq a&&(P5 k 1 50&&P5 m 1 1000))with
 |false=>grind
 |true=>
  rw[hs,ABQ]at h;unfold P5 at hs;simp only[AAN,AAj]at hs;have hS:=Pp.1 hs.1;refine⟨hS,hs.2.1,hs.2.2,?_⟩;have h12:=hS.1;rcases(Qf a J PB PE (AAh _)).2 with⟨e,_⟩|⟨i,hi,e,e2⟩
  ·omega
  ·refine⟨i,hi,e,e2,?_⟩;unfold RI;grind
theorem iR{a:Is}(h:PF a)(PB k d:Int)(hd:∀p∈a,p.1=PB->∀y∈p.2.2,y.1=k->0<=y.2.2+d/\y.2.2+d<=y.2.1):PF (T6 a PB k d):=fq h PB _ λp hp e=>kQ (h.2.2 p hp).2.2 k d (hd p hp e)
theorem UD{a:Is}(h:PF a){i:Nat}(hi:i<a.length){p:PD}(hp:p∈a)(e:p.1=a[i].1):p=a[i]:=by
 obtain⟨j,hj,rfl⟩:=ABU.1 hp;rcases ABe i j with hl|hl|hl
 ·have:=(ABM.1 h.2.1 i j hi hj hl).1;omega
 ·subst hl;rfl
 ·have:=(ABM.1 h.2.1 j i hj hi hl).1;omega
theorem je{a:Is}(h:PF a)(PB k m:Int):PF (Z1 a PB k m).1:=by
 unfold Z1;split
 ·exact h
 ·rename_i hc;split
  ·exact h
  ·rename_i zj;obtain⟨_,hk,hm,i,hi,e1,e2,e3⟩:=QE (by omega:Pw a PB k m=0);refine iR h PB k m λp hp ep y hy ey=>?_;have:p=a[i]:=UD h hi hp (ep.trans e2.symm);subst this;have hst:=(h.2.2 _ (ABR hi)).2.2;have hyb:=hst.2.1 y hy;rw[e3,<-ey,TY hst hy]at zj;omega
theorem jD{a:Is}(h:PF a)(PB k m:Int):PF (W6 a PB k m).1:=by
 unfold W6;split
 ·exact h
 ·rename_i hc;split
  ·exact h
  ·rename_i zj;obtain⟨_,hk,hm,i,hi,e1,e2,e3⟩:=QE (by omega:Pw a PB k m=0);refine iR h PB k (-m) λp hp ep y hy ey=>?_;have:p=a[i]:=UD h hi hp (ep.trans e2.symm);subst this;have hst:=(h.2.2 _ (ABR hi)).2.2;have hyb:=hst.2.1 y hy;rw[e3,<-ey,TY hst hy]at zj;omega
theorem Yt(a:Is)(hs:Pb a)(PB k m:Int)(n:Nat)(hn:PE<=n):TW n a PB k m=some (if Pw a PB k m≠0 then(0,0,0,0,Pw a PB k m)else(Rq a PB,(RI a PB k).1,(RI a PB k).2.1,(RI a PB k).2.2,0)):=by
 have hl:a.length<=1048576:=hs.1;unfold TW;rw[P2 a hs n hn];simp only[ABP,QO];by_cases hc:Pw a PB k m=0
 ·rw[AAT (by rw[hc];simp)];obtain⟨h,hk,hm,i,hi,e1,e2,e3⟩:=QE hc;rw[Pp.2 h,show P5 k 1 50=true by unfold P5;grind,show P5 m 1 1000=true by unfold P5;rw[ABV hm.1,ABV hm.2];rfl];have hd:decide (Rq a PB<0)=false:=by rw[e1,AAr];clear hn;omega
  simp only[ABX,ABS,ABP,(Qf a hl PB n hn).1,hd];rw[e3,e1,O3 hi,ABP,ck a[i] (by have:=(h.2.2 _ (ABR hi)).2.2.2.2;omega) k n hn];rfl
 ·rw[AAS hc];unfold Pw at hc ⊢;cases h1:Pq a with
  |false=>rfl
  |true=>cases h2:P5 k 1 50 with
   |false=>rfl
   |true=>cases h3:P5 m 1 1000 with
    |false=>rfl
    |true=>
     rw[h1,h2,h3]at hc;simp only[ACC,ABQ]at hc ⊢
     have zj:Rq a PB<0:=by refine AAp λq=>hc ?_;rw[AAT q]
     simp only[ABX,ABS,ABP,(Qf a hl PB n hn).1,ABV zj,ABQ,AAS zj]
theorem gx{a:Is}(h:PF a){i:Nat}(hi:i<a.length){k:Int}(d:Int)(hz:∃z∈a[i].2.2,z.1=k)(n:Nat)(hn:PE<=n):
  SX n a (i:Int) k (PC a[i].2.2 k).2.1 ((PC a[i].2.2 k).2.2+d)=some (T6 a a[i].1 k d):=by
 have hst:=(h.2.2 _ (ABR hi)).2.2;obtain⟨z,hz1,hz2⟩:=hz
 have hpos:((PC a[i].2.2 k).2.1==0)=false:=by rw[<-hz2,TY hst hz1,ABW];have:=hst.2.1 z hz1;clear hn;omega
 unfold SX;rw[PQ a h.sm n hn,ABP,O6 hi,ABQ];have hg:a[(i:Int).toNat]?=some a[i]:=by simp[hi]
 have hw:=mg a[i].2.2 hst (k,(PC a[i].2.2 k).2.1,(PC a[i].2.2 k).2.2+d) ⟨z,hz1,hz2⟩ hpos n hn;dsimp only at hw;rw[hg,ABP,ABP,hw,ABP,ABQ,og hst ⟨z,hz1,hz2⟩,ABT];unfold T6;rw[<-Xb h hi];congr 1;apply ABt;grind
theorem gR(a:Is)(hs:Pb a)(PB k m:Int)(n:Nat)(hn:PE<=n):Zu n a PB k m=some (Z1 a PB k m):=by
 unfold Zu Z1;rw[Yt a hs PB k m n hn,ABP];by_cases hc:Pw a PB k m=0
 ·rw[AAT (by rw[hc];simp),AAT (by rw[hc];simp)];obtain⟨h,hk,hm,i,hi,e1,e2,e3⟩:=QE hc;have hst:=(h.2.2 _ (ABR hi)).2.2;obtain⟨b1,b2,b3,b4,b5⟩:=Qj hst k;dsimp only;rw[show((0:Int) != 0)=false from rfl,ABS,e3,PA J J];by_cases zj:(PC a[i].2.2 k).2.1-(PC a[i].2.2 k).2.2<m
  ·rw[ABV zj,AAS zj,ABQ,PQ a hs n hn];rfl
  ·rw[ABZ zj,AAT zj,ABS,PA J J,e1,b5]
   have hz:∃z∈a[i].2.2,z.1=k:=by refine AAp λq=>?_;rw[RH λx hx e=>q ⟨x,hx,e⟩]at zj;dsimp only at zj;clear hn;omega
   rw[gx h hi m hz n hn,e2];rfl
 ·rw[AAS hc,AAS hc];dsimp only;rw[show(Pw a PB k m != 0)=true by grind,ABQ,PQ a hs n hn];rfl
theorem cK(a:Is)(hs:Pb a)(PB k m:Int)(n:Nat)(hn:PE<=n):XC n a PB k m=some (W6 a PB k m):=by
 unfold XC W6;rw[Yt a hs PB k m n hn,ABP];by_cases hc:Pw a PB k m=0
 ·rw[AAT (by rw[hc];simp),AAT (by rw[hc];simp)];obtain⟨h,hk,hm,i,hi,e1,e2,e3⟩:=QE hc;have hst:=(h.2.2 _ (ABR hi)).2.2;obtain⟨b1,b2,b3,b4,b5⟩:=Qj hst k;dsimp only;rw[show((0:Int) != 0)=false from rfl,ABS,e3];by_cases zj:(PC a[i].2.2 k).2.2<m
  ·rw[ABV zj,AAS zj,ABQ,PQ a hs n hn];rfl
  ·rw[ABZ zj,AAT zj,ABS,PA J J,e1,b5]
   have hz:∃z∈a[i].2.2,z.1=k:=by refine AAp λq=>?_;rw[RH λx hx e=>q ⟨x,hx,e⟩]at zj;dsimp only at zj;clear hn;omega
   rw[show(PC a[i].2.2 k).2.2-m=(PC a[i].2.2 k).2.2 + -m by omega,gx h hi (-m) hz n hn,e2];rfl
 ·rw[AAS hc,AAS hc];dsimp only;rw[show(Pw a PB k m != 0)=true by grind,ABQ,PQ a hs n hn];rfl
theorem YF{l:OF}(hs:Uh l)(p0 p1 k:Int)(n:Nat)(hn:PE<=n):
  ∃(j:Nat) (b:Bool),Qp n p0 p1 l k=some ((j:Int),b)/\(b=true->∃h:j<l.length,l[j].1=k/\PC l k=l[j])/\(b=false->(∀x∈l,x.1≠k)/\PC l k=(k,0,0)):=by
 have h8:=hs.2.2
 obtain⟨j,h1,h2,h3,h4⟩:=fu (Qu l k) l.length (λi=>decide ((l.getD i (0,0,0)).1<k)) (λi hi=>by
  simp only[Qu,O3 hi,ABP,O1 hi (show l.length<=9223372036854775807 by clear hn;omega)];grind) (by simp[Qu]) n ADU
 have hlow:∀i (hi:i<l.length),i<j->l[i].1<k:=by intro i hi hij;have:=h3 i hij;simpa[hi]using this
 unfold Qp;rw[h2];by_cases hj:j<l.length
 ·have hge:=h4 hj;have hge:k<=l[j].1:=by simpa[hj]using hge
  refine⟨j,l[j].1==k,?_,λhb=>?_,λhb=>?_⟩
  ·simp[hj,O3 hj]
  ·have e:l[j].1=k:=by simpa using hb
   exact⟨hj,e,by rw[<-e];exact TY hs (ABR hj)⟩
  ·have hno:∀x∈l,x.1≠k:=λx hx=>by
    obtain⟨i,hi,rfl⟩:=AB8 hx;have zp:l[j].1≠k:=by simpa using hb
    rcases ABe i j with q|q|q
    ·grind
    ·grind
    ·have:=ABM.1 hs.1 j i hj hi q;omega
   exact⟨hno,RH hno⟩
 ·have hno:∀x∈l,x.1≠k:=λx hx=>by obtain⟨i,hi,rfl⟩:=AB8 hx;have:=hlow i hi ADS;clear hn;omega
  refine⟨j,false,?_,λhb=>(by cases hb),λ_=>⟨hno,RH hno⟩⟩;grind
theorem ZQ(a:Is)(hs:Pb a)(PB k m:Int)(n:Nat)(hn:PE<=n):Yq n a PB k m=some (if Pw a PB k m≠0 then(-1,Pw a PB k m)else(Rq a PB,0)):=by
 have hl:a.length<=1048576:=hs.1;unfold Yq;rw[QH a hs n hn,WY];simp only[ABP,Ut,QO];by_cases hc:Pw a PB k m=0
 ·rw[AAT (by rw[hc];simp)];obtain⟨h,hk,hm,i,hi,e1,e2,e3⟩:=QE hc;rw[Pp.2 h,show P5 k 1 50=true by unfold P5;grind,show P5 m 1 1000=true by unfold P5;rw[ABV hm.1,ABV hm.2];rfl];have hd:decide (Rq a PB>=0)=true:=by rw[e1,AAj];clear hn;omega
  simp only[ABX,ABS,ABP,(Qf a hl PB n hn).1,hd,ABQ]
 ·rw[AAS hc];unfold Pw at hc ⊢;cases h1:Pq a with
  |false=>rfl
  |true=>cases h2:P5 k 1 50 with
   |false=>rfl
   |true=>cases h3:P5 m 1 1000 with
    |false=>rfl
    |true=>
     rw[h1,h2,h3]at hc;simp only[ACC,ABQ]at hc ⊢
     have zj:Rq a PB<0:=by refine AAp λq=>hc ?_;rw[AAT q]
     have hd:decide (Rq a PB>=0)=false:=by rw[AAr];clear hn;omega
     simp only[ABX,ABS,ABP,(Qf a hl PB n hn).1,hd,AAS zj]
theorem Z3(a:Is)(hs:Pb a)(PB k m d:Int)(hd : -1000<=d/\d<=1000)(n:Nat)(hn:PE<=n):Vm n a PB k m d=some (if Pw a PB k m≠0 then(a,Pw a PB k m)else
  if(∃z,z∈(a.getD (Rq a PB).toNat (0,0,[])).2.2/\z.1=k)/\0<=(RI a PB k).2.2+d/\(RI a PB k).2.2+d<=(RI a PB k).2.1 then(T6 a PB k d,0)else(a,3)):=by
 unfold Vm;rw[Pn a hs n hn,ZQ a hs PB k m n hn];simp only[ABP];by_cases hc:Pw a PB k m=0
 ·rw[AAT (by rw[hc];simp),AAT (by rw[hc];simp)];obtain⟨h,hk,hm,i,hi,e1,e2,e3⟩:=QE hc;have hst:=(h.2.2 _ (ABR hi)).2.2;obtain⟨b1,b2,b3,b4,b5⟩:=Qj hst k;dsimp only;have hgD:a.getD (Rq a PB).toNat (0,0,[])=a[i]:=by rw[e1,ABT,List.getD,AAM hi];rfl
  rw[hgD,e3,e1];have zg:ON a (i:Int)=true:=O6 hi;have hg:a[(i:Int).toNat]?=some a[i]:=by simp[hi]
  obtain⟨j,b,s1,s2,s3⟩:=YF hst a[i].1 a[i].2.1 k n hn;rw[show((0:Int) != 0)=false from rfl];simp only[ABS,zg,ABQ,hg,ABP,s1];cases b with
  |false=>
   obtain⟨q1,q2⟩:=s3 rfl;rw[AAT (λhh=>by obtain⟨⟨z,z1,z2⟩,_⟩:=hh;exact q1 z z1 z2)];rfl
  |true=>
   obtain⟨hj,q1,q2⟩:=s2 rfl;have hjn:ON a[i].2.2 (j:Int)=true:=O6 hj;have hjg:a[i].2.2[(j:Int).toNat]?=some a[i].2.2[j]:=by simp[hj]
   rw[q2]at b1 b2 b3 b4 ⊢;have hw:O5 (a[i].2.2[j].2.2+d)=a[i].2.2[j].2.2+d:=PA ADS ADS;simp only[ABX,ABS,hjn,ABQ,hjg,ABP,hw,Ut,QO];have hiff:P5 (a[i].2.2[j].2.2+d) 0 a[i].2.2[j].2.1=true↔0<=a[i].2.2[j].2.2+d/\a[i].2.2[j].2.2+d<=a[i].2.2[j].2.1:=by unfold P5;simp
   cases hb:P5 (a[i].2.2[j].2.2+d) 0 a[i].2.2[j].2.1 with
   |false=>
    rw[AAT (λhh=>by rw[hiff.2 hh.2]at hb;cases hb)];rfl
   |true=>
    rw[AAS ⟨⟨_,ABR hj,q1⟩,hiff.1 hb⟩];simp only[ABX,ABS];congr 2;unfold T6;rw[<-e2,<-Xb h hi];apply ABt;intro u;rw[ABd,ABd,ABT]
    have key:a[i].2.2.modify (j:Int).toNat (λy=>(y.1,y.2.1,a[i].2.2[j].2.2+d))=Q7 a[i].2.2 k λy=>(y.1,y.2.1,y.2.2+d):=by
     rw[<-q1,<-mA hst hj,ABT];apply ABt;intro v;rw[ABd,ABd];by_cases e':j=v
     ·subst e';simp[hj]
     ·simp[e']
    by_cases e:i=u
    ·subst e;rw[AAM hi];simp only[if_true,Option.map_eq_map,AA7,key]
    ·simp[e]
 grind
theorem gB(a:Is)(hs:Pb a)(PB k m:Int)(n:Nat)(hn:PE<=n):bZ n a PB k m=some (Z1 a PB k m):=by
 unfold bZ Z1;by_cases hc:Pw a PB k m=0
 ·obtain⟨h,hk,hm,i,hi,e1,e2,e3⟩:=QE hc;rw[Z3 a hs PB k m m J n hn];simp only[hc,ne_eq,not_true_eq_false,if_false,ABP];have hst:=(h.2.2 _ (ABR hi)).2.2;obtain⟨b1,b2,b3,b4,b5⟩:=Qj hst k;have hgD:a.getD (Rq a PB).toNat (0,0,[])=a[i]:=by rw[e1,ABT,List.getD,AAM hi];rfl
  rw[hgD,e3];by_cases zj:(PC a[i].2.2 k).2.1-(PC a[i].2.2 k).2.2<m
  ·grind
  ·rw[AAT zj,AAS];refine⟨?_,ADS,ADS⟩;refine AAp λq=>?_;rw[RH λx hx e=>q ⟨x,hx,e⟩]at zj;grind
 ·have hk:Vm n a PB k m m=some (a,Pw a PB k m):=by unfold Vm;rw[Pn a hs n hn,ZQ a hs PB k m n hn,AAS hc];simp only[ABP,show(Pw a PB k m != 0)=true by simpa using hc,ABQ]
  grind
theorem ba(a:Is)(hs:Pb a)(PB k m:Int)(n:Nat)(hn:PE<=n):Wx n a PB k m=some (W6 a PB k m):=by
 unfold Wx W6;simp only[Ut,QO,ABP];cases hm1:P5 m 1 1000 with
 |false=>
  have hc:Pw a PB k m=1:=by unfold Pw;rw[hm1];simp
  rw[AAS J,hc];simp only[ABp,ABQ,Pn a hs n hn,ABP]
 |true=>
  have hm:1<=m/\m<=1000:=by unfold P5 at hm1;simpa using hm1
  have hneg:IntKind.wrap .i64 (Nd m) = -m:=by show O5 (0-m) = -m;rw[PA ADS ADS];clear hn;omega
  simp only[ABX,ABS,hneg];rw[Z3 a hs PB k m (-m) ADS n hn,ABP];by_cases hc:Pw a PB k m=0
  ·obtain⟨h,hk,hm,i,hi,e1,e2,e3⟩:=QE hc;simp only[hc,ne_eq,not_true_eq_false,if_false];have hst:=(h.2.2 _ (ABR hi)).2.2;obtain⟨b1,b2,b3,b4,b5⟩:=Qj hst k;have hgD:a.getD (Rq a PB).toNat (0,0,[])=a[i]:=by rw[e1,ABT,List.getD,AAM hi];rfl
   rw[hgD,e3];by_cases zj:(PC a[i].2.2 k).2.2<m
   ·rw[AAS zj,AAT (λhh=>by have:=hh.2.1;clear hn;omega)]
   ·rw[AAT zj,AAS];refine⟨?_,ADS,ADS⟩;refine AAp λq=>?_;rw[RH λx hx e=>q ⟨x,hx,e⟩]at zj;dsimp only at zj;clear hn;omega
  grind
def Vk(f:Is->O0->Is×Int):OF->Is->Option Is
 | [],s=>some s
 |p::ps,s=>if(f s p).2≠0 then none else Vk f ps (f s p).1
def Qc(f:Is->O0->Is×Int)(a:Is)(ps:OF):Is×Bool:=match Vk f ps a with
 |some s=>(s,true)
 |none=>(a,false)
def WS(s:Is)(p:O0):Is×Int:=Z1 s p.1 p.2.1 p.2.2
def Zd(s:Is)(p:O0):Is×Int:=W6 s p.1 p.2.1 p.2.2
theorem jf{a:Is}(h:Pb a)(PB k m:Int):Pb (Z1 a PB k m).1:=by
 by_cases hc:Pw a PB k m=0
 ·exact(je (QE hc).1 PB k m).sm
 ·unfold Z1;grind
theorem pd{a:Is}(h:Pb a)(PB k m:Int):Pb (W6 a PB k m).1:=by
 by_cases hc:Pw a PB k m=0
 ·exact(jD (QE hc).1 PB k m).sm
 ·unfold W6;grind
theorem cd{f:Is->O0->Is×Int}{P:Is->Prop}(hf:∀s p,P s->P (f s p).1):∀(ps:OF)(s t:Is),P s->Vk f ps s=some t->P t
 | [],s,t,h,e=>by injection e with e;grind
 |p::ps,s,t,h,e=>by
  unfold Vk at e;split at e
  ·cases e
  ·exact cd hf ps _ t (hf s p h) e
theorem lX{f:Is->O0->Is×Int}{P:Is->Prop}(hf:∀s p,P s->P (f s p).1){a:Is}(h:P a)(ps:OF):P (Qc f a ps).1:=by
 unfold Qc;cases e:Vk f ps a with
 |none=>exact h
 |some t=>exact cd hf ps a t h e
theorem YQ(L:Int×Is×Is->Option ((Int×Is×Is)⊕((Int×Is×Is)⊕(Is×Bool))))(f:Is->O0->Is×Int)(a:Is)(ps:OF)(hf:∀s p,Pb s->Pb (f s p).1)(ha:Pb a)
  (hL:∀(i:Nat)(s:Is)(hi:i<ps.length),Pb s->L ((i:Int),[],s)=some (bif(f s ps[i]).2 != 0 then .inr (.inr (a,false))else .inl (((i+1:Nat):Int),[],(f s ps[i]).1)))
  (he:∀s,L ((ps.length:Int),[],s)=some (.inr (.inl ((ps.length:Int),[],s)))) (n:Nat) (hn:ps.length<n):
  iter n L (0,[],a)=some (match Vk f ps a with|some t=>.inl ((ps.length:Int),[],t)|none=>.inr (a,false)):=by
 refine PV (σ:=Is) L (λi s=>((i:Int),[],s)) ps (λl s=>match Vk f l s with|some t=>.inl ((ps.length:Int),[],t)|none=>.inr (a,false)) (λi s=>Pb s)
  (λs _=>by rw[he];rfl) (λi p l s h1 h2 h3 h4 h5=>?_) n hn a ha
 have hp:ps[i]=p:=by rw[AAM h1]at h2;exact Option.some.inj h2
 rw[hL i s h1 h5,hp];cases hc:((f s p).2 != 0)with
 |true=>
  right;unfold Vk;grind
 |false=>
  left;refine⟨(f s p).1,rfl,hf s p h5,?_⟩
  have e:Vk f (p::l) s=Vk f l (f s p).1:=by rw[Vk,AAT ADr]
  grind
theorem cJ(a:Is)(ha:Pb a)(ps:OF)(hp:ps.length<=1048576)(n:Nat)(hn:PE<=n):W9 n a ps=some (Qc WS a ps):=by
 have h1:=YQ (QF n a ps 1) WS a ps (λs p hs=>jf hs _ _ _) ha (λi s hi hs=>by
  have hd:decide ((i:Int)<(ps.length:Int))=true:=ADf
  simp only[QF,hd,ABQ,O3 hi,ABP,gR s hs _ _ _ n hn,ABu,PQ a ha n hn,O1 hi (show ps.length<=9223372036854775807 by clear hn;omega)];show(bif(WS s ps[i]).2 != 0 then _ else _)=_;cases((WS s ps[i]).2 != 0)<;>rfl) (λs=>by simp[QF]) n ADU
 unfold W9 SM;rw[PQ a ha n hn,ABP,h1,ABP];unfold Qc;grind
theorem Zz(a:Is)(ha:Pb a)(ps:OF)(hp:ps.length<=1048576)(n:Nat)(hn:PE<=n):Ub n a ps=some (Qc Zd a ps):=by
 have h1:=YQ (QF n a ps 2) Zd a ps (λs p hs=>pd hs _ _ _) ha (λi s hi hs=>by
  have hd:decide ((i:Int)<(ps.length:Int))=true:=ADf
  simp only[QF,hd,ABQ,ABS,O3 hi,ABP,cK s hs _ _ _ n hn,ABu,show((2:Int)==1)=false from rfl,PQ a ha n hn,O1 hi (show ps.length<=9223372036854775807 by clear hn;omega)];show(bif(Zd s ps[i]).2 != 0 then _ else _)=_;cases((Zd s ps[i]).2 != 0)<;>rfl) (λs=>by simp[QF]) n ADU
 unfold Ub SM;rw[PQ a ha n hn,ABP,h1,ABP];unfold Qc;grind
theorem YV(a:Is)(ha:Pb a)(ps:OF)(hp:ps.length<=1048576)(n:Nat)(hn:PE<=n):Ww n a ps=some (Qc WS a ps):=by
 have h1:=YQ (S2 n a ps) WS a ps (λs p hs=>jf hs _ _ _) ha (λi s hi hs=>by
  have hd:decide ((i:Int)<(ps.length:Int))=true:=ADf
  simp only[S2,hd,ABQ,O3 hi,ABP,gB s hs _ _ _ n hn,Pn a ha n hn,O1 hi (show ps.length<=9223372036854775807 by clear hn;omega)];show(bif(WS s ps[i]).2 != 0 then _ else _)=_;cases((WS s ps[i]).2 != 0)<;>rfl) (λs=>by simp[S2]) n ADU
 unfold Ww ZO;rw[Pn a ha n hn,ABP,h1,ABP];unfold Qc;grind
def X3(a:Is)(PB:Int):Option PD:=a.find? λp=>p.1==PB
theorem kR{l:OF}(h:Uh l)(k d j:Int):PC (Q7 l k λy=>(y.1,y.2.1,y.2.2+d)) j=if j=k/\(∃z∈l,z.1=k)then((PC l k).1,(PC l k).2.1,(PC l k).2.2+d)else PC l j:=by
 have hk1:∀y:O0,(bif y.1==k then(y.1,y.2.1,y.2.2+d)else y).1=y.1:=λy=>No
 have hf:(Q7 l k λy=>(y.1,y.2.1,y.2.2+d)).find? (λx=>x.1==j)=(l.find? λx=>x.1==j).map λy=>bif y.1==k then(y.1,y.2.1,y.2.2+d)else y:=by unfold Q7;rw[ACH];congr 1;refine congrArg (λq=>List.find? q l) (funext λx=>?_);simp only[Function.comp,hk1]
 unfold PC;rw[hf];cases hq:l.find? λx=>x.1==j with
 |none=>
  grind
 |some y=>
  have hy:=ABm hq;have ey:y.1=j:=by simpa using ACJ hq
  by_cases e:j=k
  ·subst e;rw[AAS ⟨rfl,y,hy,ey⟩,hq];simp[ey]
  grind
def Xu(l:ADR):Prop:=l.Pairwise (λa b=>a.1<b.1)/\(∀x∈l,1<=x.1/\x.1<=50/\1<=x.2/\x.2<=1000)/\l.length<=6
theorem Xu.ok{l:ADR}(h:Xu l)(n:Nat)(hn:PE<=n):Q1 n l=some true:=by
 obtain⟨h1,h2,h3⟩:=h
 have:=QY (QI l) (λi=>(i:Int)) l.length (λ_=>true) (λi hi=>by
  have hp:(bif decide ((i:Int)>0)then(Iv l (O5 ((i:Int)-1))).bind (λy=>some (decide (y.1>=l[i].1)))else some false)=some (!Qk (·.1) l i l[i]):=YL (·.1) l l[i] i hi J some;obtain⟨a1,a2,a3,a4⟩:=h2 _ (ABR hi);rw[Zc h1 (λx y h=>h) i hi]at hp;simp only[QI,O3 hi,ABP,QO,O1 hi J,hp];rw[show decide ((i:Int)<(l.length:Int))=true by simpa using hi,show P5 l[i].1 1 50=true by simp[P5];omega,show P5 l[i].2 1 1000=true by simp[P5];omega];rfl) (by simp[QI]) n ADU
 unfold Q1;grind
def Q3(k:Int):OF->Int
 | []=>0
 |p::r=>(bif p.2.1==k then p.2.2 else 0)+Q3 k r
theorem du(k:Int):∀(x y:OF),Q3 k (x++y)=Q3 k x+Q3 k y
 | [],y=>by simp[Q3]
 |p::x,y=>by simp only[ABG,Q3,du k x y];omega
theorem Ve(k:Int):∀(x:OF),(∀p∈x,1<=p.2.2)->0<=Q3 k x
 | [],_=>by simp[Q3]
 |p::x,h=>by have h1:=Ve k x λq hq=>h q (AAQ _ hq);have h2:=h p AAo;simp only[Q3];grind
theorem lW(k:Int):∀(x:OF),(∀p∈x,p.2.1≠k)->Q3 k x=0
 | [],_=>rfl
 |p::x,h=>by
  have h1:=lW k x λq hq=>h q (AAQ _ hq);have h2:(p.2.1==k)=false:=by simpa using h p AAo
  simp only[Q3,h1,h2,ABS];rfl
def XO:OF->Int
 | []=>0
 |p::r=>p.2.2+XO r
def P3(m f:Int):Int:=bif decide (m<f)then m else f
def Pf(pid:Int)(fr:Int->Int):ADR->OF
 | []=>[]
 |y::r=>bif decide (P3 y.2 (fr y.1)>0)then(pid,y.1,P3 y.2 (fr y.1))::Pf pid fr r else Pf pid fr r
theorem aC(pid:Int)(fr:Int->Int):∀l,(Pf pid fr l).length<=l.length
 | []=>by simp[Pf]
 |y::r=>by have:=aC pid fr r;simp only[Pf];grind
theorem Vq(m f:Int):P3 m f<=m/\P3 m f<=f:=by unfold P3;grind
theorem XU(pid:Int)(fr:Int->Int):∀l,∀p∈Pf pid fr l,p.1=pid/\1<=p.2.2/\∃y∈l,y.1=p.2.1/\p.2.2<=y.2
 | [],p,h=>by cases h
 |y::r,p,h=>by
  simp only[Pf]at h;have up:=λh=>let ⟨a,b,z,hz,h1,h2⟩:=XU pid fr r p h;(⟨a,b,z,AAQ _ hz,h1,h2⟩:p.1=pid/\1<=p.2.2/\∃w∈y::r,w.1=p.2.1/\p.2.2<=w.2)
  by_cases hg:P3 y.2 (fr y.1)>0
  ·rw[show decide (P3 y.2 (fr y.1)>0)=true by simpa using hg,ABQ]at h;rcases AAi.1 h with h|h
   ·subst h;exact⟨rfl,by show 1<=P3 y.2 (fr y.1);omega,y,AAo,rfl,(Vq _ _).1⟩
   ·exact up h
  grind
theorem aD(pid:Int)(fr:Int->Int):∀(l:ADR),l.Pairwise (λa b=>a.1<b.1)->(∀y∈l,0<=y.2)->∀y∈l,Q3 y.1 (Pf pid fr l)<=y.2
 | [],_,_,y,hy=>by cases hy
 |z::r,hp,h0,y,hy=>by
  obtain⟨h1,h2⟩:=ABn.1 hp;have hz0:=h0 z AAo;have hle:=(Vq z.2 (fr z.1)).1;simp only[Pf];rcases AAi.1 hy with e|hy
  ·subst e
   have hn:Q3 y.1 (Pf pid fr r)=0:=lW _ _ λp hp'=>by obtain⟨_,_,w,hw,e,_⟩:=XU pid fr r p hp';grind
   cases decide (P3 y.2 (fr y.1)>0)with
   |true=>simp only[ABQ,Q3,ABu,hn];omega
   |false=>grind
  ·have ih:=aD pid fr r h2 (λw hw=>h0 w (AAQ _ hw)) y hy;have zp:(z.1==y.1)=false:=by have:=h1 y hy;rw[<-ABr];simp;omega
   cases decide (P3 z.2 (fr z.1)>0)with
   |true=>simp only[ABQ,Q3,zp,ABS];omega
   |false=>grind
def PL(p:PD)(k:Int):Int:=(PC p.2.2 k).2.1-(PC p.2.2 k).2.2
theorem Zl(p:PD)(h:Uh p.2.2)(k:Int):0<=PL p k/\PL p k<=1000:=by
 unfold PL PC;cases hf:p.2.2.find? (λx=>x.1==k)with
 |none=>simp
 |some x=>
  have:=h.2.1 x (ABm hf);grind
def cX(l:ADR):Prop:=l.Pairwise (λa b=>a.1<b.1)/\(∀y∈l,0<=y.2/\y.2<=1000)/\l.length<=6
theorem ea(p:PD)(h:Uh p.2.2)(l:ADR)(hl:cX l)(n:Nat)(hn:PE<=n):Vb n p.1 p.2.1 p.2.2 l=some (Pf p.1 (PL p) l,XO (Pf p.1 (PL p) l)):=by
 have h6:=hl.2.2
 have hc:=PV (σ:=OF×Int) (Ug n p.1 p.2.1 p.2.2 l) (λi s=>(s.1,s.2,(i:Int))) l (λr s=>(s.1++Pf p.1 (PL p) r,s.2+XO (Pf p.1 (PL p) r),(l.length:Int)))
  (λi s=>s.1.length<=i/\0<=s.2/\s.2<=1000*(i:Int)/\i<=6)
  (λs hs=>by simp[Ug,Pf,XO])
  (λi y r s h1 h2 h3 h4 h5=>by
   left;have hy:l[i]=y:=by rw[AAM h1]at h2;exact Option.some.inj h2
   obtain⟨out,sum⟩:=s;obtain⟨q1,q2,q3,q4⟩:=h5;dsimp only at q1 q2 q3;have hy2:=hl.2.1 y (by rw[<-hy];exact ABR h1);have hfr:=Zl p h y.1;unfold Ug;dsimp only;rw[show decide ((i:Int)<(l.length:Int))=true by simpa using h1,ABQ,O3 h1,hy,O1 h1 J];simp only[ABP];rw[ck p (by have:=h.2.2;omega) y.1 n hn,ABP]
   have hw:O5 ((PC p.2.2 y.1).2.1-(PC p.2.2 y.1).2.2)=PL p y.1:=by unfold PL at hfr ⊢;rw[PA J J]
   rw[hw];have hls:(bif decide (y.2<PL p y.1)then some y.2 else some (PL p y.1))=some (P3 y.2 (PL p y.1)):=mS _ _ _;rw[hls,ABP];have hle:=Vq y.2 (PL p y.1);by_cases hg:P3 y.2 (PL p y.1)>0
   ·rw[show decide (P3 y.2 (PL p y.1)>0)=true by simpa using hg,ABQ,show decide (out.length+[(p.1,y.1,P3 y.2 (PL p y.1))].length<=E7)=true from Rr J,ABQ,ABP];rw[PA (n:=sum+P3 y.2 (PL p y.1)) J J];refine⟨(out++[(p.1,y.1,P3 y.2 (PL p y.1))],sum+P3 y.2 (PL p y.1)),rfl,⟨by show(out++[_]).length<=i+1;rw[ABC,ABY];omega,by show 0<=sum+P3 y.2 (PL p y.1);omega,by show sum+P3 y.2 (PL p y.1)<=1000*((i+1:Nat):Int);omega,J⟩,?_⟩;simp only[Pf];rw[show decide (P3 y.2 (PL p y.1)>0)=true by simpa using hg,ABQ];simp only[XO,ABj,AB4,ACI]
   ·rw[show decide (P3 y.2 (PL p y.1)>0)=false by simpa using hg,ABS,ABP];refine⟨(out,sum),rfl,⟨by show out.length<=i+1;omega,q2,by show sum<=1000*((i+1:Nat):Int);omega,J⟩,?_⟩;simp only[Pf];rw[show decide (P3 y.2 (PL p y.1)>0)=false by simpa using hg,ABS])
  n ADU (([]:OF),(0:Int)) ⟨AAA,AAA,AAA,J⟩
 unfold Vb;grind
def dX(p:O0)(l:ADR):ADR:=l.map λy=>bif y.1==p.2.1 then(y.1,O5 (y.2-p.2.2))else y
def al{β:Type}(f:β->β)(l:List β)(i:Nat):List β:=(l.take i).map f++l.drop i
theorem iw{β:Type}(f:β->β)(l:List β)(m k:Nat):(al f l m)[k]?=(l[k]?).map λa=>if k<m then f a else a:=by unfold al;grind
theorem jv{β:Type}(f:β->β)(l:List β)(i:Nat):(al f l i).length=l.length:=by unfold al;simp;omega
theorem jw{β:Type}(f g:β->β)(l:List β)(i:Nat)(hi:i<l.length)(hg:g l[i]=f l[i]):(al f l i).modify i g=al f l (i+1):=by
 apply ABt;intro j;rw[ABd,iw,iw];by_cases hj:j<l.length
 all_goals grind
theorem mm{β:Type}(f:β->β)(l:List β)(i:Nat)(hi:i<l.length)(hf:f l[i]=l[i]):al f l i=al f l (i+1):=by have:=jw f id l i hi hf.symm;rw[<-this];apply ABt;grind
theorem oJ{β:Type}(f:β->β)(l:List β):al f l l.length=l.map f:=by unfold al;simp
theorem od(bt:OF)(sm:Int)(z:ADR)(k:Nat)(hk:k<bt.length)(l:ADR)(hl:l.length<=6)(n:Nat)(hn:PE<=n):
  iter n (UI (bt,sm) ((k:Int),z)) (0,l)=some ((l.length:Int),dX bt[k] l):=by
 have:=Pa (UI (bt,sm) ((k:Int),z)) (λi=>((i:Int),al (λy=>bif y.1==bt[k].2.1 then(y.1,O5 (y.2-bt[k].2.2))else y) l i)) l.length ((l.length:Int),dX bt[k] l) (λi hi=>by
  have hg:=iw (λy=>bif y.1==bt[k].2.1 then(y.1,O5 (y.2-bt[k].2.2))else y) l i i;rw[AAM hi]at hg;simp only[AA7,Nat.lt_irrefl,if_false]at hg;have hlen:=jv (λy=>bif y.1==bt[k].2.1 then(y.1,O5 (y.2-bt[k].2.2))else y) l i;unfold UI;dsimp only;rw[hlen,show decide ((i:Int)<(l.length:Int))=true by simpa using hi,ABQ];have zg:ON (al (λy=>bif y.1==bt[k].2.1 then(y.1,O5 (y.2-bt[k].2.2))else y) l i) (i:Int)=true:=O6 (by rw[hlen];exact hi);have hbt:bt[(k:Int).toNat]?=some bt[k]:=by simp[hk]
  simp only[zg,O6 hk,ABQ,ABT,hg,ABP,AAM hk];rw[O1 hi J];cases hq:(l[i].1==bt[k].2.1)with
  |true=>
   rw[ABQ,ABP,jw _ _ l i hi (by rw[hq];rfl)]
  |false=>
   rw[ABS,ABP,<-mm _ l i hi (by rw[hq];rfl)]) (by
  unfold UI;dsimp only;rw[jv,oJ];simp[dX]) n ADU
 have h0:al (λy=>bif y.1==bt[k].2.1 then(y.1,O5 (y.2-bt[k].2.2))else y) l 0=l:=by unfold al;simp
 grind
theorem o7(p:O0)(l:ADR):(dX p l).length=l.length:=by unfold dX;simp
theorem oc(bt:OF)(hbt:bt.length<=6)(sm:Int)(l:ADR)(hl:l.length<=6)(n:Nat)(hn:PE<=n):
  iter n (UH n (bt,sm)) (0,l)=some ((bt.length:Int),bt.foldl (λl p=>dX p l) l):=by
 have:=PV (σ:=ADR) (UH n (bt,sm)) (λi s=>((i:Int),s)) bt (λr s=>((bt.length:Int),r.foldl (λl p=>dX p l) s)) (λi s=>s.length<=6)
  (λs hs=>by unfold UH;simp) (λi p r s h1 h2 h3 h4 h5=>by
   left;have hp:bt[i]=p:=by rw[AAM h1]at h2;exact Option.some.inj h2
   refine⟨dX p s,?_,by rw[o7];exact h5,rfl⟩;unfold UH;dsimp only;rw[show decide ((i:Int)<(bt.length:Int))=true by grind,ABQ,od bt sm s i h1 s h5 n hn,ABP,O1 h1 J,hp])
  n ADU l hl
 exact this
theorem mE:∀(bt:OF)(l:ADR),(∀p∈bt,1<=p.2.2)->(∀y∈l,Q3 y.1 bt<=y.2/\y.2<=1000)->bt.foldl (λl p=>dX p l) l=l.map λy=>(y.1,y.2-Q3 y.1 bt)
 | [],l,_,_=>by simp[Q3]
 |p::bt,l,h1,h2=>by
  have hp:=h1 p AAo;have hr:=λq hq=>h1 q (AAQ p hq)
  have e:dX p l=l.map λy=>(y.1,y.2-bif p.2.1==y.1 then p.2.2 else 0):=by
   unfold dX;refine ABg λy hy=>?_;obtain⟨q1,q2⟩:=h2 y hy;have hpos:=Ve y.1 bt hr;simp only[Q3]at q1;have hc:(y.1==p.2.1)=(p.2.1==y.1):=by rw[ABy];simp;exact eq_comm
   rw[hc];cases hq:(p.2.1==y.1)with
   |true=>
    rw[hq]at q1;simp only[ABQ]at q1 ⊢;rw[PA J J]
   |false=>simp
  rw[List.foldl_cons,e,mE bt _ hr,ACK]
  ·refine ABg λy hy=>?_;simp only[Function.comp_apply,Q3];grind
  ·intro y hy;obtain⟨z,hz,rfl⟩:=AAw.1 hy;obtain⟨q1,q2⟩:=h2 z hz;simp only[Q3]at q1;grind
def Vd:ADR->Int
 | []=>0
 |y::r=>y.2+Vd r
theorem cU:∀(l:ADR),(∀y∈l,0<=y.2)->0<=Vd l/\(Vd l=0->∀y∈l,y.2=0)
 | [],_=>⟨by simp[Vd],λ_ y hy=>by cases hy⟩
 |z::r,h=>by obtain⟨h1,h2⟩:=cU r λy hy=>h y (AAQ _ hy);have hz:=h z AAo;refine⟨by simp only[Vd];omega,λe y hy=>?_⟩;simp only[Vd]at e;grind
theorem oa(x:OF×Bool×OF×OF×ADR×ADh)(hl:cX x.2.2.2.2.1)(n:Nat)(hn:PE<=n):iter n (UG x) (0,0)=some (Vd x.2.2.2.2.1,(x.2.2.2.2.1.length:Int)):=by
 obtain⟨x1,x2,x3,x4,l,x6⟩:=x;dsimp only at hl ⊢;have h6:=hl.2.2
 have:=PV (σ:=Int) (UG (x1,x2,x3,x4,l,x6)) (λi s=>(s,(i:Int))) l (λr s=>(s+Vd r,(l.length:Int))) (λi s=>0<=s/\s<=1000*(i:Int)/\i<=6)
  (λs hs=>by unfold UG;simp[Vd]) (λi y r s h1 h2 h3 h4 h5=>by
   left;have hy:l[i]=y:=by rw[AAM h1]at h2;exact Option.some.inj h2
   have hy2:=hl.2.1 y (by rw[<-hy];exact ABR h1);refine⟨s+y.2,?_,⟨J,J,J⟩,by simp only[Vd,ACI]⟩;unfold UG;dsimp only;rw[show decide ((i:Int)<(l.length:Int))=true by simpa using h1,ABQ,O6 h1,ABQ,ABT,h2,ABP,O1 h1 J,PA (n:=s+y.2) J J])
  n ADU 0 ⟨J,J,J⟩
 grind
def PG(o:OF)(want:ADR):Prop:=(∀p∈o,1<=p.2.2/\∃y∈want,y.1=p.2.1)/\∀y∈want,Q3 y.1 o=y.2
def Wj:ADh->Nat
 | []=>0
 |b::r=>(bif b then 0 else 1)+Wj r
theorem aF:∀(u:ADh)(j:Nat),u[j]?=some false->Wj (DL u j true)+1=Wj u/\(DL u j true).length=u.length
 | [],j,h=>ADd
 |b::r,0,h=>by simp at h;subst h;simp[DL,Wj];omega
 |b::r,j+1,h=>by obtain⟨h1,h2⟩:=aF r j ADg;simp only[DL,Wj,ABF,h2,and_true];omega
theorem aE:∀n,Wj (List.replicate n false)=n
 |0=>rfl
 |n+1=>by rw[List.replicate_succ];simp only[Wj,aE n,ABS];omega
def leftOf(want:ADR)(o:OF):ADR:=want.map λy=>(y.1,y.2-Q3 y.1 o)
theorem jq{want:ADR}(h:Xu want){o:OF}(h1:∀p∈o,1<=p.2.2)(h2:∀y∈want,Q3 y.1 o<=y.2):cX (leftOf want o):=by
 refine⟨?_,λy hy=>?_,by unfold leftOf;rw[ABl];exact h.2.2⟩
 ·unfold leftOf;rw[ABk];exact h.1
 ·unfold leftOf at hy;obtain⟨z,hz,rfl⟩:=AAw.1 hy;have q1:=h2 z hz;have q2:=Ve z.1 o h1;have q3:=h.2.1 z hz;omega
def tp:OF->Int->Int->Int
 | [],_,_=>0
 |p::r,PB,k=>(if p.1=PB/\p.2.1=k then p.2.2 else 0)+tp r PB k
theorem aV:∀(x y:OF)(PB k:Int),tp (x++y) PB k=tp x PB k+tp y PB k
 | [],y,PB,k=>by simp[tp]
 |p::x,y,PB,k=>by simp only[ABG,tp,aV x y PB k];omega
theorem aW:∀(x:OF),(∀p∈x,1<=p.2.2)->∀PB k,0<=tp x PB k
 | [],_,_,_=>by simp[tp]
 |p::x,h,PB,k=>by have h1:=aW x (λq hq=>h q (AAQ _ hq)) PB k;have h2:=h p AAo;simp only[tp];omega
theorem kO:∀(x:OF)(PB k:Int),(∀p∈x,p.1=PB->p.2.1≠k)->tp x PB k=0
 | [],_,_,_=>rfl
 |p::x,PB,k,h=>by have h1:=kO x PB k λq hq=>h q (AAQ _ hq);have h2:=h p AAo;simp only[tp,h1];omega
def jR(f:Int->Int->Int)(p:PD):PD:=(p.1,p.2.1,p.2.2.map λy=>(y.1,y.2.1,y.2.2+f p.1 y.1))
def Pj(a:Is)(f:Int->Int->Int):Is:=a.map (jR f)
theorem ZL(a:Is)(f:Int->Int->Int)(h:∀PB k,f PB k=0):Pj a f=a:=by
 unfold Pj
 have:jR f=id:=funext λp=>by
  unfold jR;have:(λy:O0=>(y.1,y.2.1,y.2.2+f p.1 y.1))=id:=funext λy=>by rw[h];simp
  rw[this,List.map_id];rfl
 rw[this,List.map_id]
theorem ia(a:Is){f g:Int->Int->Int}(h:∀PB k,f PB k=g PB k):Pj a f=Pj a g:=by rw[show f=g from funext λp=>funext λk=>h p k]
theorem aI(a:Is)(f:Int->Int->Int):(Pj a f).length=a.length:=by unfold Pj;grind
theorem gn{a:Is}{f:Int->Int->Int}{i:Nat}(h:i<(Pj a f).length):(Pj a f)[i]=jR f (a[i]'(by rw[aI]at h;exact h)):=ABh (jR f)
theorem jN(p:O0)(rs:OF):tp (p::rs) p.1 p.2.1=p.2.2+tp rs p.1 p.2.1:=by show(if p.1=p.1/\p.2.1=p.2.1 then p.2.2 else 0)+tp rs p.1 p.2.1=_;omega
theorem pH(a:Is)(f:Int->Int->Int)(PB k d:Int):T6 (Pj a f) PB k d=Pj a λp s=>f p s+if p=PB/\s=k then d else 0:=by
 unfold T6 Wg Pj Q7;rw[ACK];refine ABg λp _=>?_;simp only[Function.comp,jR];by_cases hp:p.1=PB
 ·rw[show(p.1==PB)=true from AAX.2 hp,ABQ,ACK];refine congrArg (λl=>(p.1,p.2.1,l)) (ABg λy _=>?_);simp only[Function.comp];by_cases hy:y.1=k
  ·rw[show(y.1==k)=true from AAX.2 hy,ABQ,AAS ⟨hp,hy⟩,ACI]
  ·rw[show(y.1==k)=false from ABW.2 hy,ABS,AAT (λh=>hy h.2),Int.add_zero]
 grind
theorem aT(l:OF)(g:Int->Int)(k:Int):PC (l.map λy=>(y.1,y.2.1,y.2.2+g y.1)) k=match l.find? (λx=>x.1==k)with
  |some x=>(x.1,x.2.1,x.2.2+g k)
  |none=>(k,0,0):=by
 unfold PC;rw[ACH];have:((λx:O0=>x.1==k) ∘ λy:O0=>(y.1,y.2.1,y.2.2+g y.1))=λx:O0=>x.1==k:=rfl;grind
theorem mV(p:PD)(f:Int->Int->Int)(k:Int)(h0:PL p k=0->f p.1 k=0):PL (jR f p) k=PL p k-f p.1 k:=by unfold PL at h0 ⊢;unfold jR;rw[aT p.2.2 (f p.1) k];unfold PC at h0 ⊢;grind
theorem eI{a:Is}(h:PF a){i:Nat}(hi:i<a.length){k m:Int}(hk:1<=k/\k<=50)(hm:1<=m/\m<=1000):Pw a a[i].1 k m=0/\RI a a[i].1 k=PC a[i].2.2 k:=by
 have h12:=h.1;rcases(Qf a J a[i].1 PE (AAh _)).2 with⟨_,e⟩|⟨j,hj,e,e2⟩
 ·grind
 ·have eij:a[j]=a[i]:=UD h hi (ABR hj) e2;refine⟨?_,?_⟩
  ·unfold Pw P5;rw[Pp.2 h,ABV hk.1,ABV hk.2,ABV hm.1,ABV hm.2,e];simp
  ·unfold RI;grind
structure Fits(a:Is)(ps:OF):Prop where
 each:∀p∈ps,(1<=p.2.1/\p.2.1<=50)/\(1<=p.2.2/\p.2.2<=1000)/\∃i,∃h:i<a.length,a[i].1=p.1
 free:∀q∈a,∀k,tp ps q.1 k<=PL q k
theorem Fits.pos{a:Is}{ps:OF}(h:Fits a ps)(PB k:Int):0<=tp ps PB k:=aW ps (λp hp=>(h.each p hp).2.1.1) PB k
theorem Fits.init{a:Is}{qs rs:OF}(h:Fits a (qs++rs)):Fits a qs:=by have h1:=λp hp=>h.each p (AAY rs hp);refine⟨h1,λq hq k=>?_⟩;have h2:=h.free q hq k;have h3:=aW rs (λp hp=>(h.each p (AAV qs hp)).2.1.1) q.1 k;rw[aV]at h2;omega
theorem Fits.to{a:Is}{ps:OF}(h:Fits a ps)(ha:PF a){q:PD}(hq:q∈a)(k:Int):PL (jR (tp ps) q) k=PL q k-tp ps q.1 k:=by refine mV q (tp ps) k λe=>?_;have h1:=h.free q hq k;have h2:=h.pos q.1 k;omega
theorem ic{a:Is}(ha:PF a):∀(rs qs:OF),PF (Pj a (tp qs))->Fits a (qs++rs)->Vk WS rs (Pj a (tp qs))=some (Pj a (tp (qs++rs)))/\PF (Pj a (tp (qs++rs)))
 | [],qs,hs,_=>by rw[ABf];exact⟨rfl,hs⟩
 |p::rs,qs,hs,hf=>by
  obtain⟨hk,hm,i,hi,e⟩:=hf.each p (AAV _ AAo);have hi2:i<(Pj a (tp qs)).length:=by rw[aI];exact hi
  have hat:=gn hi2;have hid:(Pj a (tp qs))[i].1=p.1:=by rw[hat];exact e
  obtain⟨c1,c2⟩:=eI hs hi2 hk hm;rw[hid]at c1 c2;have hfree:=hf.free _ (ABR hi) p.2.1;have hto:=hf.init.to ha (ABR hi) p.2.1;have hrs:=aW rs (λq hq=>(hf.each q (AAV _ (AAQ _ hq))).2.1.1) p.1 p.2.1;rw[aV,e,jN]at hfree;rw[e]at hto;have hge:p.2.2<=PL (jR (tp qs) a[i]) p.2.1:=J
  have hneg:¬((PC (jR (tp qs) a[i]).2.2 p.2.1).2.1-(PC (jR (tp qs) a[i]).2.2 p.2.1).2.2<p.2.2):=by unfold PL at hge;omega
  have hh:WS (Pj a (tp qs)) p=(Pj a (tp (qs++[p])),0):=by
   unfold WS Z1;rw[c1,AAT J,c2,hat,AAT hneg,pH];refine congrArg (λs=>(s,(0:Int))) (ia a λPB k=>?_);rw[aV];simp only[tp]
   have:(if PB=p.1/\k=p.2.1 then p.2.2 else 0)=(if p.1=PB/\p.2.1=k then p.2.2 else 0:Int):=by
    by_cases hc:p.1=PB/\p.2.1=k
    ·rw[AAS hc,AAS ⟨hc.1.symm,hc.2.symm⟩]
    ·rw[AAT hc,AAT (λh=>hc ⟨h.1.symm,h.2.symm⟩)]
   rw[this];omega
  have hS:PF (Pj a (tp (qs++[p]))):=by have:=je hs p.1 p.2.1 p.2.2;unfold WS at hh;rw[hh]at this;exact this
  have ih:=ic ha rs (qs++[p]) hS No;rw[ABj]at ih;rw[Vk,hh,AAT AAA];exact ih
theorem gp{a:Is}(ha:PF a){ps:OF}(hf:Fits a ps):Qc WS a ps=(Pj a (tp ps),true)/\PF (Pj a (tp ps)):=by have h0:Pj a (tp [])=a:=ZL a _ λ_ _=>rfl;have:=ic ha ps [] (by rw[h0];exact ha) hf;rw[h0,AA1]at this;unfold Qc;grind
theorem gq{a:Is}(ha:PF a){qs rs:OF}(hs:PF (Pj a (tp qs)))(hf:Fits a (qs++rs)):Qc WS (Pj a (tp qs)) rs=(Pj a (tp (qs++rs)),true)/\PF (Pj a (tp (qs++rs))):=by have:=ic ha rs qs hs hf;unfold Qc;grind
def pL(a:Is)(k:Int):Int:=match a with
 | []=>0
 |p::r=>PL p k+pL r k
def Z7(a:Is)(ps:OF)(k:Int):Int:=match a with
 | []=>0
 |p::r=>tp ps p.1 k+Z7 r ps k
def YK(a:Is)(p:O0)(k:Int):Int:=match a with
 | []=>0
 |q::r=>(if p.1=q.1/\p.2.1=k then p.2.2 else 0)+YK r p k
theorem hY(p:O0)(k:Int):∀(a:Is),(∀q∈a,q.1≠p.1)->YK a p k=0
 | [],_=>rfl
 |q::r,h=>by have h1:=h q AAo;have h2:=hY p k r λz hz=>h z (AAQ _ hz);simp only[YK,h2];omega
theorem bw(p:O0)(k:Int):∀(a:Is),a.Pairwise (λx y=>x.1≠y.1)->(∃q∈a,q.1=p.1)->YK a p k=bif p.2.1==k then p.2.2 else 0
 | [],_,⟨q,hq,_⟩=>by cases hq
 |q::r,hp,⟨z,hz,ez⟩=>by
  obtain⟨h1,h2⟩:=ABn.1 hp;simp only[YK];by_cases hq:q.1=p.1
  ·rw[hY p k r λy hy e=>h1 y hy (hq.trans e.symm)];grind
  ·rcases AAi.1 hz with e|hz
   ·grind
   ·rw[AAT (λh=>hq h.1.symm),bw p k r h2 ⟨z,hz,ez⟩];omega
theorem fi(p:O0)(ps:OF)(k:Int):∀(a:Is),Z7 a (p::ps) k=YK a p k+Z7 a ps k
 | []=>rfl
 |q::r=>by simp only[Z7,YK,fi p ps k r,tp];omega
theorem iJ(k:Int):∀(a:Is),Z7 a [] k=0
 | []=>rfl
 |q::r=>by simp only[Z7,iJ k r,tp];rfl
theorem fj(k:Int)(a:Is)(ha:a.Pairwise λx y=>x.1≠y.1):∀(ps:OF),(∀p∈ps,∃q∈a,q.1=p.1)->Z7 a ps k=Q3 k ps
 | [],_=>iJ k a
 |p::ps,h=>by rw[fi,bw p k a ha (h p AAo),fj k a ha ps λq hq=>h q (AAQ _ hq)];rfl
def bj(l:ADR)(i:Nat):Bool:=match l[i]? with
 |some x=>P5 x.1 1 50&&P5 x.2 1 1000&&Qk (·.1) l i x
 |none=>false
def Vn(l:ADR):Bool:=(List.range l.length).all (bj l)&&decide (l.length<=6)
theorem Vo{l:ADR}:Vn l=true↔Xu l:=by
 constructor
 ·intro h;unfold Vn at h;simp only[AAN,AAj,AAZ,AAb]at h;obtain⟨hall,h6⟩:=h
  have hi:∀i (hi:i<l.length),(1<=l[i].1/\l[i].1<=50)/\(1<=l[i].2/\l[i].2<=1000)/\Qk (·.1) l i l[i]=true:=by intro i hi;have:=hall i hi;unfold bj P5 at this;rw[AAM hi]at this;simp only[AAN,AAj]at this;exact⟨this.1.1,this.1.2,this.2⟩
  refine⟨Xg _ _ λi hi2=>(X4 (·.1) l (i+1) hi2).1 (hi (i+1) hi2).2.2 i rfl,λx hx=>?_,h6⟩;obtain⟨i,hi2,rfl⟩:=ABU.1 hx;grind
 ·rintro ⟨h1,h2,h3⟩
  unfold Vn;simp only[AAN,AAj,AAZ,AAb];refine⟨λi hi=>?_,h3⟩;obtain⟨a1,a2,a3,a4⟩:=h2 _ (ABR hi);unfold bj P5;rw[AAM hi];simp only[AAN,AAj];exact⟨⟨⟨a1,a2⟩,a3,a4⟩,Zc h1 (λx y h=>h) i hi⟩
theorem Vs(l:ADR)(hl:l.length<=1048576)(n:Nat)(hn:PE<=n):Q1 n l=some (Vn l):=by
 have:=QY (QI l) (λi=>(i:Int)) l.length (bj l) (λi hi=>by
  have hp:(bif decide ((i:Int)>0)then(Iv l (O5 ((i:Int)-1))).bind (λy=>some (decide (y.1>=l[i].1)))else some false)=some (!Qk (·.1) l i l[i]):=YL (·.1) l l[i] i hi hl some;unfold bj;rw[AAM hi];simp only[QI,O3 hi,ABP,QO,O1 hi (show l.length<=9223372036854775807 by clear hn;omega),hp];grind) (by simp[QI]) n ADU
 unfold Q1 Vn;rw[show((0:Nat):Int)=0 from rfl]at this;rw[this,ABP];cases(List.range l.length).all (bj l)with
 |false=>rfl
 |true=>
  rw[ABQ,ABw];show some (decide ((l.length:Int)<=6))=_;rw[show decide ((l.length:Int)<=6)=decide (l.length<=6) by rw[decide_eq_decide];clear hn;omega]
theorem Ry(l:ADR)(hl:l.length<=1048576)(n:Nat)(hn:PE<=n):SP n l=some (Vn l):=by rw[kt,Vs l hl n hn]
theorem ju(m f:Int):Mx m f=P3 m f:=by unfold Mx P3;grind
theorem eP(p:PD)(h:Uh p.2.2)(l:ADR)(hl:cX l)(n:Nat)(hn:PE<=n):aK n p.1 p.2.1 p.2.2 l=some (Pf p.1 (PL p) l,XO (Pf p.1 (PL p) l)):=by
 have h6:=hl.2.2
 have hc:=PV (σ:=OF×Int) (V5 n p.1 p.2.1 p.2.2 l) (λi s=>(s.1,s.2,(i:Int))) l (λr s=>(s.1++Pf p.1 (PL p) r,s.2+XO (Pf p.1 (PL p) r),(l.length:Int)))
  (λi s=>s.1.length<=i/\0<=s.2/\s.2<=1000*(i:Int)/\i<=6)
  (λs hs=>by simp[V5,Pf,XO])
  (λi y r s h1 h2 h3 h4 h5=>by
   left;have hy:l[i]=y:=by rw[AAM h1]at h2;exact Option.some.inj h2
   obtain⟨out,sum⟩:=s;obtain⟨q1,q2,q3,q4⟩:=h5;dsimp only at q1 q2 q3;have hy2:=hl.2.1 y (by rw[<-hy];exact ABR h1);have hfr:=Zl p h y.1;obtain⟨j,b,e,e1,e2⟩:=YF h p.1 p.2.1 y.1 n hn;have hle:=Vq y.2 (PL p y.1);unfold V5;dsimp only;rw[show decide ((i:Int)<(l.length:Int))=true by simpa using h1,ABQ,O3 h1,hy,O1 h1 (show l.length<=9223372036854775807 by clear hn;omega)];simp only[ABP];rw[e,ABP];dsimp only;cases b with
   |false=>
    have hz:PL p y.1=0:=by unfold PL;rw[(e2 rfl).2];rfl
    have hng:¬P3 y.2 (PL p y.1)>0:=ADS
    refine⟨(out,sum),rfl,⟨by show out.length<=i+1;clear hn;omega,q2,by show sum<=1000*((i+1:Nat):Int);clear hn;omega,ADS⟩,?_⟩;simp only[Pf];rw[ABZ hng,ABS]
   |true=>
    obtain⟨hj,_,ej⟩:=e1 rfl
    have hw:O5 (p.2.2[j].2.1-p.2.2[j].2.2)=PL p y.1:=by
     unfold PL at hfr ⊢;rw[ej]at hfr ⊢;rw[PA ADS ADS]
    simp only[ABX,ABS,O3 hj,ABP,hw,ju];by_cases hg:P3 y.2 (PL p y.1)>0
    ·rw[ABV hg,ABQ,show decide (out.length+[(p.1,y.1,P3 y.2 (PL p y.1))].length<=E7)=true from Rr ADS,ABQ,ABP];rw[PA (n:=sum+P3 y.2 (PL p y.1)) ADS ADS];refine⟨(out++[(p.1,y.1,P3 y.2 (PL p y.1))],sum+P3 y.2 (PL p y.1)),rfl,⟨by show(out++[_]).length<=i+1;rw[ABC,ABY];clear hn;omega,by show 0<=sum+P3 y.2 (PL p y.1);clear hn;omega,by show sum+P3 y.2 (PL p y.1)<=1000*((i+1:Nat):Int);clear hn;omega,ADS⟩,?_⟩;simp only[Pf];rw[ABV hg,ABQ];simp only[XO,ABj,AB4,ACI]
    ·rw[ABZ hg,ABS,ABP];refine⟨(out,sum),rfl,⟨by show out.length<=i+1;clear hn;omega,q2,by show sum<=1000*((i+1:Nat):Int);clear hn;omega,ADS⟩,?_⟩;simp only[Pf];rw[ABZ hg,ABS])
  n ADU (([]:OF),(0:Int)) ⟨AAA,AAA,AAA,J⟩
 unfold aK;grind
def aN(l:ADR)(bt:OF):ADR:=(l.map λy=>(y.1,y.2-Q3 y.1 bt)).filter λy=>decide (y.2>0)
theorem ik(bt:OF)(hb:bt.length<=72)(h1:∀p∈bt,1<=p.2.2)(k m:Int)(ht:Q3 k bt<=m)(hm:m<=1000)(n:Nat)(hn:PE<=n):
  iter n (VJ bt) (0,k,m)=some ((bt.length:Int),k,m-Q3 k bt):=by
 have hc:=PV (σ:=Int) (VJ bt) (λi s=>((i:Int),k,s)) bt (λr s=>((bt.length:Int),k,s-Q3 k r)) (λi s=>Q3 k (bt.drop i)<=s/\s<=1000)
  (λs hs=>by unfold VJ;simp[Q3])
  (λi p r s g1 g2 g3 g4 g5=>by
   left;have hp:bt[i]=p:=by rw[AAM g1]at g2;exact Option.some.inj g2
   have hmem:p∈bt:=by rw[<-hp];exact ABR g1
   have hpp:=h1 p hmem;have hrp:=Ve k r λq hq=>h1 q (ACG (i:=i) No);obtain⟨g5,g6⟩:=g5;rw[g3]at g5;simp only[Q3]at g5;rw[g4];unfold VJ;dsimp only;rw[show decide ((i:Int)<(bt.length:Int))=true by grind,ABQ,O3 g1,hp,ABP,O1 g1 (show bt.length<=9223372036854775807 by omega)];simp only[Q3];cases hq:(p.2.1==k)with
   |true=>
    rw[hq,ABQ]at g5;rw[ABQ,ABP,PA (n:=s-p.2.2) ADS ADS];grind
   |false=>
    rw[hq,ABS]at g5;rw[ABS,ABP];grind)
  n ADU m ⟨ht,hm⟩
 exact hc
theorem gF(l:ADR)(hl:l.length<=6)(bt:OF)(hb:bt.length<=72)(h1:∀p∈bt,1<=p.2.2)(ht:∀y∈l,Q3 y.1 bt<=y.2/\y.2<=1000)(n:Nat)(hn:PE<=n):bf n l bt=some (aN l bt):=by
 have hc:=PV (σ:=ADR) (W0 n l bt) (λi s=>(s,(i:Int))) l (λr s=>(s++aN r bt,(l.length:Int))) (λi s=>s.length<=i)
  (λs hs=>by unfold W0;simp[aN])
  (λi y r s g1 g2 g3 g4 g5=>by
   left;have hy:l[i]=y:=by rw[AAM g1]at g2;exact Option.some.inj g2
   obtain⟨t1,t2⟩:=ht y (by rw[<-hy];exact ABR g1);unfold W0;dsimp only;rw[show decide ((i:Int)<(l.length:Int))=true by rw[AAj];clear hn;omega,ABQ,O3 g1,hy,ABP,O1 g1 (show l.length<=9223372036854775807 by clear hn;omega),ik bt hb h1 y.1 y.2 t1 t2 n hn,ABP];dsimp only;by_cases hg:y.2-Q3 y.1 bt>0
   ·rw[ABV hg,ABQ,show decide (s.length+[(y.1,y.2-Q3 y.1 bt)].length<=E7)=true from Rr ADS,ABQ,ABP];refine⟨s++[(y.1,y.2-Q3 y.1 bt)],rfl,by rw[ABC,ABY];clear hn;omega,?_⟩;unfold aN;rw[ABH,ABv,AAS (by rw[AAj];exact hg),ABj,AB4]
   ·rw[ABZ hg,ABS,ABP];refine⟨s,rfl,ADS,?_⟩;unfold aN;rw[ABH,ABv,AAT (by rw[AAj];exact hg)])
  n ADU [] AAA
 unfold bf;grind
theorem Z0(pid:Int)(fr:Int->Int):∀l:ADR,Pf pid fr (l.filter λy=>decide (y.2>0))=Pf pid fr l
 | []=>rfl
 |y::r=>by
  have ih:=Z0 pid fr r;rw[ABv];by_cases h:y.2>0
  ·rw[AAS No];simp only[Pf,ih]
  ·rw[AAT (by rw[AAj];exact h)];have:=(Vq y.2 (fr y.1)).1;simp only[Pf,ih];grind
theorem eA(pid:Int)(fr:Int->Int):∀l:ADR,(∀y∈l,0<y.2->fr y.1<=0)->Pf pid fr l=[]
 | [],_=>rfl
 |y::r,h=>by have ih:=eA pid fr r λz hz=>h z (AAQ _ hz);have h1:=h y AAo;have h2:=Vq y.2 (fr y.1);simp only[Pf,ih];grind
theorem iU(pid:Int){f g:Int->Int}(h:∀k,f k=g k)(l:ADR):Pf pid f l=Pf pid g l:=by rw[show f=g from funext h]
theorem gf(pid:Int)(fr:Int->Int)(hfr:∀k,0<=fr k):∀(l:ADR),l.Pairwise (λa b=>a.1<b.1)->(∀y∈l,0<=y.2)->(∀k,tp (Pf pid fr l) pid k=Q3 k (Pf pid fr l)/\Q3 k (Pf pid fr l)<=fr k)/\∀y∈l,Q3 y.1 (Pf pid fr l)=P3 y.2 (fr y.1)
 | [],_,_=>⟨λk=>⟨rfl,by simp only[Pf,Q3];exact hfr k⟩,λy hy=>by cases hy⟩
 |z::r,hp,h0=>by
  obtain⟨h1,h2⟩:=ABn.1 hp;obtain⟨i1,i2⟩:=gf pid fr hfr r h2 λy hy=>h0 y (AAQ _ hy);have hz0:=h0 z AAo;have hfz:=hfr z.1
  have hno:Q3 z.1 (Pf pid fr r)=0:=lW _ _ λp hp'=>by obtain⟨_,_,w,hw,e,_⟩:=XU pid fr r p hp';have:=h1 w hw;omega
  have hlz:0<=P3 z.2 (fr z.1):=by unfold P3;by_cases h:z.2<fr z.1<;>simp[h]<;>omega
  have hle:=Vq z.2 (fr z.1);simp only[Pf];by_cases hg:P3 z.2 (fr z.1)>0
  ·rw[ABV hg,ABQ];refine⟨λk=>?_,λy hy=>?_⟩
   ·obtain⟨j1,j2⟩:=i1 k;simp only[tp,Q3];by_cases hk:z.1=k
    ·subst hk;rw[AAS ⟨trivial,rfl⟩,ABu,ABQ,j1];exact⟨rfl,J⟩
    ·rw[AAT (λh=>hk h.2),show(z.1==k)=false from ABW.2 hk,ABS,j1];exact⟨rfl,J⟩
   ·simp only[Q3];rcases AAi.1 hy with e|hy
    ·subst e;rw[ABu,ABQ,hno];omega
    ·have:=h1 y hy;rw[show(z.1==y.1)=false from ABW.2 J,ABS,i2 y hy];omega
  grind
theorem Xv{β:Type}(P:β->Bool)(f:β->β):∀l:List β,(∀y∈l,P y=false->P (f y)=false)->((l.filter P).map f).filter P=(l.map f).filter P
 | [],_=>rfl
 |y::r,h=>by have ih:=Xv P f r λz hz=>h z (AAQ _ hz);grind
theorem nA{a:Is}(ha:PF a){work:Is}(hwl:work.length=a.length)(hw:PF work)(x1:OF)(x2:Bool)(o x4:OF){l left:ADR}(hl:cX l)(hleft:cX left){u:ADh}(hu:u.length=a.length)
  (hc:∀k (h:k<a.length) (h2:k<work.length),(u[k]?=some false->Pf work[k].1 (PL work[k]) left=Pf a[k].1 (PL a[k]) l)/\(u[k]?=some true->Pf work[k].1 (PL work[k]) left=[])) (n:Nat) (hn:PE<=n):
  ∃(best most:Int) (bt:OF),iter n (WG n a (x1,x2,o,x4,l,u)) ((-1),0,0)=some (best,most,(a.length:Int))/\iter n (V3 n (o,left,work)) (([]:OF),0,0)=some (bt,most,(a.length:Int))/\
   (best = -1/\most=0/\bt=[]\/∃j,∃h:j<a.length,best=(j:Int)/\u[j]?=some false/\bt=Pf a[j].1 (PL a[j]) l/\0<most):=by
 have h12:=ha.1
 obtain⟨z,w,hS,e1,e2⟩:=ZT (f:=WG n a (x1,x2,o,x4,l,u)) (g:=V3 n (o,left,work))
  (λs t=>∃k:Nat,k<=a.length/\s.2.2=(k:Int)/\t.2.2=(k:Int)/\t.2.1=s.2.1/\(s.1 = -1/\s.2.1=0/\t.1=[]\/∃j,∃h:j<a.length,s.1=(j:Int)/\u[j]?=some false/\t.1=Pf a[j].1 (PL a[j]) l/\0<s.2.1))
  (λz w=>z.2.2=(a.length:Int)/\w.2.2=(a.length:Int)/\w.2.1=z.2.1/\(z.1 = -1/\z.2.1=0/\w.1=[]\/∃j,∃h:j<a.length,z.1=(j:Int)/\u[j]?=some false/\w.1=Pf a[j].1 (PL a[j]) l/\0<z.2.1))
  (λs=>((a.length:Int)-s.2.2).toNat) (λs t hR=>by
   obtain⟨b,m,i⟩:=s;obtain⟨bt,m2,i2⟩:=t;obtain⟨k,hk,h1,h2,h3,h4⟩:=hR;dsimp only at h1 h2 h3 h4;subst h1;subst h2;subst h3
   have hm0:0<=m2:=by
    rcases h4 with⟨_,h,_⟩|⟨_,_,_,_,_,h⟩<;>(clear hn;omega)
   unfold WG V3;dsimp only;rw[hwl];by_cases zj:k<a.length
   ·right;have hkw:k<work.length:=ADS
    have hst:=(ha.2.2 _ (ABR zj)).2.2;have hst2:=(hw.2.2 _ (ABR hkw)).2.2;obtain⟨c1,c2⟩:=hc k zj hkw;rw[show decide ((k:Int)<(a.length:Int))=true by rw[AAj];clear hn;omega,ABQ,ABQ,O3 zj,ABP,ea a[k] hst l hl n hn,ABP,O6 ADS,ABQ,ABT,AAM (show k<u.length by clear hn;omega),ABP,O1 zj (show a.length<=9223372036854775807 by clear hn;omega)];rw[O3 hkw,ABP,eP work[k] hst2 left hleft n hn,ABP];rw[AAM (show k<u.length by clear hn;omega)]at c1 c2;have hμ:((a.length:Int)-((k+1:Nat):Int)).toNat<((a.length:Int)-(k:Int)).toNat:=ADS
    dsimp only;cases hui:u[k]'(by clear hn;omega)with
    |true=>
     rw[c2 (by rw[hui])];simp only[ABX,ABS,ABP];rw[show decide (XO []>m2)=false by rw[AAr];simp only[XO];clear hn;omega];exact⟨_,_,rfl,rfl,⟨k+1,zj,rfl,rfl,rfl,h4⟩,hμ⟩
    |false=>
     rw[c1 (by rw[hui])];simp only[ABp,ABQ,ABP];by_cases hg:XO (Pf a[k].1 (PL a[k]) l)>m2
     ·rw[ABV hg];exact⟨_,_,rfl,rfl,⟨k+1,zj,rfl,rfl,rfl,.inr ⟨k,zj,rfl,by rw[AAM (show k<u.length by clear hn;omega),hui],rfl,by show 0<XO _;clear hn;omega⟩⟩,hμ⟩
     ·rw[ABZ hg];exact⟨_,_,rfl,rfl,⟨k+1,zj,rfl,rfl,rfl,h4⟩,hμ⟩
   ·left;have:k=a.length:=ADS
    subst this;rw[show decide ((a.length:Int)<(a.length:Int))=false by rw[AAr];clear hn;omega];exact⟨_,_,rfl,rfl,rfl,rfl,rfl,h4⟩) n ((-1),0,0) (([]:OF),0,0) ⟨0,Nat.zero_le _,rfl,rfl,rfl,.inl ⟨rfl,rfl,rfl⟩⟩ (by show((a.length:Int)-0).toNat<n;unfold PE at hn;omega)
 grind
def Re(want:ADR)(o:OF):ADR:=(leftOf want o).filter λy=>decide (y.2>0)
theorem mi{want:ADR}{o:OF}(h:cX (leftOf want o)):cX (Re want o):=⟨h.1.filter _,λy hy=>h.2.1 y (ABb.1 hy).1,AA2 (ABo _ _) h.2.2⟩
structure PI(a:Is)(want:ADR)(o:OF)(u:ADh):Prop where
 ul:u.length=a.length
 ol:o.length+6*Wj u<=72
 xe:∀y∈want,Q3 y.1 o<=y.2
 mem:∀p∈o,1<=p.2.2/\∃y∈want,y.1=p.2.1
 fits:Fits a o
 ue:PF (Pj a (tp o))
 off:∀k (h:k<a.length),u[k]?=some false->∀s,tp o a[k].1 s=0
 on:∀k (h:k<a.length),u[k]?=some true->∀y∈want,Q3 y.1 o<y.2->PL a[k] y.1-tp o a[k].1 y.1<=0
theorem cy:∀(l:ADR),(∀y∈l,0<=y.2)->(Vd l=0↔(l.filter λy=>decide (y.2>0))=[])
 | [],_=>⟨λ_=>rfl,λ_=>rfl⟩
 |y::r,h=>by have ih:=cy r λz hz=>h z (AAQ _ hz);have h1:=h y AAo;have h2:=(cU r λz hz=>h z (AAQ _ hz)).1;rw[ABv];simp only[Vd];grind
theorem ed(want:ADR)(o bt:OF):(leftOf want o).map (λy=>(y.1,y.2-Q3 y.1 bt))=leftOf want (o++bt):=by unfold leftOf;rw[ACK];refine ABg λy _=>?_;simp only[Function.comp,du,Int.sub_sub]
theorem PI.step{a:Is}(ha:PF a){want:ADR}(hw:Xu want){o:OF}{u:ADh}(h:PI a want o u){j:Nat}(hj:j<a.length)(hu:u[j]?=some false):PI a want (o++Pf a[j].1 (PL a[j]) (leftOf want o)) (DL u j true):=by
 have hL:=jq hw (λp hp=>(h.mem p hp).1) h.xe;obtain⟨f1,f2⟩:=aF u j hu;have hst:=(ha.2.2 _ (ABR hj)).2.2;have hcl:=aC a[j].1 (PL a[j]) (leftOf want o);have hll:(leftOf want o).length<=6:=hL.2.2;have hcm:=XU a[j].1 (PL a[j]) (leftOf want o);have hct:=aD a[j].1 (PL a[j]) (leftOf want o) hL.1 (λy hy=>(hL.2.1 y hy).1);obtain⟨t1,t2⟩:=gf a[j].1 (PL a[j]) (λk=>(Zl a[j] hst k).1) (leftOf want o) hL.1 (λy hy=>(hL.2.1 y hy).1);generalize hbt:Pf a[j].1 (PL a[j]) (leftOf want o)=bt at hcl hcm hct t1 t2;have hlm:∀y∈want,(y.1,y.2-Q3 y.1 o)∈leftOf want o:=λy hy=>by unfold leftOf;grind
 have hbm:∀p∈bt,1<=p.2.2/\p.2.2<=1000/\∃y∈want,y.1=p.2.1:=λp hp=>by obtain⟨_,q1,y,hy,q2,q3⟩:=hcm p hp;have:=(hL.2.1 y hy).2;unfold leftOf at hy;grind
 have hother:∀k (hk:k<a.length),k≠j->∀s,tp bt a[k].1 s=0:=λk hk zp s=>kO bt _ s λp hp e=>by
  have e2:a[j].1=a[k].1:=(hcm p hp).1.symm.trans e;exfalso;rcases ABe j k with hl|hl|hl
  ·have:=(ABM.1 ha.2.1 j k hj hk hl).1;omega
  ·omega
  ·have:=(ABM.1 ha.2.1 k j hk hj hl).1;omega
 have hF:Fits a (o++bt):=by
  refine⟨λp hp=>?_,λq hq k=>?_⟩
  ·rcases ABI.1 hp with hp|hp
   ·exact h.fits.each p hp
   ·obtain⟨q1,q2,y,hy,q3⟩:=hbm p hp;have hyb:=hw.2.1 y hy;grind
  ·obtain⟨i,hi,rfl⟩:=ABU.1 hq;rw[aV];by_cases hij:i=j
   ·subst hij;rw[h.off i hi hu k,(t1 k).1];grind
   ·rw[hother i hi hij k];have:=h.fits.free _ (ABR hi) k;omega
 have hug:∀k,(DL u j true)[k]?=if j=k then some true else u[k]?:=λk=>by rw[Pz,ACF];grind
 refine⟨by rw[f2];exact h.ul,?_,λy hy=>?_,λp hp=>?_,hF,(gq ha h.ue hF).2,λk hk e s=>?_,λk hk e y hy zj=>?_⟩
 ·have:=h.ol;grind
 ·have:=hct _ (hlm y hy);dsimp only at this;rw[du];omega
 ·rcases ABI.1 hp with hp|hp
  ·exact h.mem p hp
  grind
 ·rw[hug]at e;by_cases hjk:j=k
  ·grind
  ·rw[AAT hjk]at e;rw[aV,h.off k hk e s,hother k hk (λq=>hjk q.symm) s];rfl
 ·rw[du]at zj;rw[hug]at e;rw[aV];by_cases hjk:j=k
  ·subst hjk;have e3:=t2 _ (hlm y hy);dsimp only at e3;rw[h.off j hk hu y.1,(t1 y.1).1,e3];rw[e3]at zj;unfold P3 at zj ⊢;grind
  ·rw[AAT hjk]at e;have hb0:=Ve y.1 bt λp hp=>(hbm p hp).1;rw[hother k hk (λq=>hjk q.symm) y.1];have:=h.on k hk e y hy J;omega
abbrev um:=OF×Bool×OF×OF×ADR×ADh
abbrev uh:=OF×ADR×Is
def uk(a:Is)(want:ADR)(x:um)(y:uh):Prop:=x.2.2.2.1=[]/\x.2.2.2.2.1=leftOf want x.2.2.1/\PI a want x.2.2.1 x.2.2.2.2.2/\y=(x.2.2.1,Re want x.2.2.1,Pj a (tp x.2.2.1))
def xT(a:Is)(want:ADR)(z:um⊕(OF×Bool))(w:uh⊕(OF×Bool)):Prop:=∃o b,z=.inr (o,b)/\(b=true->PG o want/\Fits a o/\o.length<=72)/\(b=false->o=[])/\(w=.inr (o,b)\/b=true/\∃l s,w=.inl (o,l,s))
theorem lG{want:ADR}{y:Pd}(hy:y∈want)(o:OF):(y.1,y.2-Q3 y.1 o)∈leftOf want o:=by unfold leftOf;grind
theorem lH{want:ADR}{o bt:OF}(hb:∀p∈bt,1<=p.2.2):aN (Re want o) bt=Re want (o++bt):=by
 unfold aN Re
 rw[Xv (λy:Pd=>decide (y.2>0)) (λy=>(y.1,y.2-Q3 y.1 bt)) (leftOf want o) λy _ hp=>by
  have:=Ve y.1 bt hb;grind,ed]
theorem PI.rY{a:Is}(ha:PF a){want:ADR}{o:OF}{u:ADh}(hI:PI a want o u)(k:Nat)(hk:k<a.length)(hk2:k<(Pj a (tp o)).length):
  (u[k]?=some false->Pf (Pj a (tp o))[k].1 (PL (Pj a (tp o))[k]) (Re want o)=Pf a[k].1 (PL a[k]) (leftOf want o))/\(u[k]?=some true->Pf (Pj a (tp o))[k].1 (PL (Pj a (tp o))[k]) (Re want o)=[]):=by
 rw[gn hk2];have hto:=hI.fits.to ha (ABR hk);refine⟨λe=>?_,λe=>?_⟩
 ·unfold Re;rw[Z0];exact iU _ (λs=>by rw[hto s,hI.off k hk e s,Int.sub_zero]) _
 ·refine eA _ _ _ λy hy hpos=>?_;unfold Re leftOf at hy;obtain⟨z,hz,rfl⟩:=AAw.1 (ABb.1 hy).1;show PL (jR (tp o) a[k]) z.1<=0;rw[hto];exact hI.on k hk e z hz J
theorem lM{a:Is}(ha:PF a){want:ADR}(hw:Xu want)(n:Nat)(hn:PE<=n)(x:um)(y:uh)(hR:uk a want x y):
  (∃z w,WE n a x=some (.inr z)/\V2 n y=some (.inr w)/\xT a want z w)\/(∃x' y',WE n a x=some (.inl x')/\V2 n y=some (.inl y')/\uk a want x' y'/\Wj x'.2.2.2.2.2<Wj x.2.2.2.2.2):=by
 obtain⟨x1,x2,o,nn,l,u⟩:=x;obtain⟨g1,g2,hI,g4⟩:=hR;dsimp only at g1 g2 hI g4;subst g1;subst g2;subst g4;have hol:=hI.ol;have hL:=jq hw (λp hp=>(hI.mem p hp).1) hI.xe;have hLP:=mi hL;have h0:=cy (leftOf want o) λy hy=>(hL.2.1 y hy).1;unfold WE V2;rw[oa (x1,x2,o,[],leftOf want o,u) hL n hn,ABP];dsimp only;by_cases hz:Vd (leftOf want o)=0
 ·left;have hnil:Re want o=[]:=h0.1 hz;rw[hz,hnil];refine⟨_,_,rfl,rfl,o,true,rfl,λ_=>⟨⟨hI.mem,λy hy=>?_⟩,hI.fits,ADS⟩,(λe=>by cases e),.inr ⟨rfl,_,_,rfl⟩⟩;have:=(cU (leftOf want o) λy hy=>(hL.2.1 y hy).1).2 hz _ (lG hy o);omega
 ·have zp:Re want o≠[]:=λe=>hz (h0.2 e)
  have hpos:0<(Re want o).length:=by
   cases hq:Re want o with
   |nil=>grind
   |cons _ _=>simp
  rw[show(Vd (leftOf want o)==0)=false from ABW.2 hz,ABS,show decide (((Re want o).length:Int)>0)=true by grind,ABQ];obtain⟨best,most,bt,e1,e2,hb⟩:=nA ha (aI a (tp o)) hI.ue x1 x2 o [] hL hLP hI.ul (λk hk hk2=>hI.rY ha k hk hk2) n hn;rw[e1,e2,ABP,ABP];dsimp only;rcases hb with⟨rfl,rfl,rfl⟩|⟨j,hj,rfl,hu,hbt,hm⟩
  ·left;exact⟨_,_,rfl,rfl,[],false,rfl,(λe=>by cases e),λ_=>rfl,.inl rfl⟩
  ·right;have hju:j<u.length:=by rw[hI.ul];exact hj
   have hst:=(ha.2.2 _ (ABR hj)).2.2;have hcl:=aC a[j].1 (PL a[j]) (leftOf want o);have hll:(leftOf want o).length<=6:=hL.2.2;have hcm:=XU a[j].1 (PL a[j]) (leftOf want o);have hct:=aD a[j].1 (PL a[j]) (leftOf want o) hL.1 (λy hy=>(hL.2.1 y hy).1);have hstep:=hI.step ha hw hj hu;have hc:=ea a[j] hst (leftOf want o) hL n hn;have hpg:∀p∈bt,1<=p.2.2:=λp hp=>No
   have hsub:=mE bt (leftOf want o) hpg (λy hy=>⟨No,(hL.2.1 y hy).2⟩);rw[<-hbt]at hcl hct hstep hc;have hH:=gq ha hI.ue hstep.fits;have hHA:=YV (Pj a (tp o)) hI.ue.sm bt J n hn;rw[hH.1]at hHA
   have hle:=gF (Re want o) hLP.2.2 bt J hpg (λy hy=>by
    have hy2:=(ABb.1 hy).1;exact⟨hct y hy2,(hL.2.1 y hy2).2⟩) n hn
   rw[lH hpg]at hle;have zo:decide (o.length+bt.length<=E7)=true:=Um J;have h4:=oc bt J (XO bt) (leftOf want o) hll n hn;rw[show decide ((j:Int)<0)=false by simp,ABS,O6 hju,ABQ,O3 hj,ABP,hc,ABP];dsimp only;rw[show(most==0)=false from ABW.2 J,ABS,zo,ABQ,ABQ,h4,ABP,hHA,ABP,hle,ABP,ABT];refine⟨_,_,rfl,rfl,⟨rfl,?_,hstep,rfl⟩,by have:=(aF u j hu).1;grind⟩;show bt.foldl (λl p=>dX p l) (leftOf want o)=leftOf want (o++bt);rw[hsub,ed]
theorem PI.init{a:Is}(ha:PF a){want:ADR}(hw:Xu want):PI a want [] (List.replicate a.length false):=by
 have h0:Pj a (tp [])=a:=ZL a _ λ_ _=>rfl;have h12:=ha.1;refine⟨AAA,by rw[aE];simp;omega,λy hy=>?_,(λp hp=>by cases hp),⟨(λp hp=>by cases hp),λq hq k=>?_⟩,by rw[h0];exact ha,λk hk _ s=>rfl,λk hk e=>?_⟩
 ·have:=hw.2.1 y hy;simp only[Q3];omega
 ·exact(Zl q (ha.2.2 q hq).2.2 k).1
 grind
theorem jr{want:ADR}(hw:Xu want):Re want []=want:=by
 have:leftOf want []=want:=by unfold leftOf;simp[Q3]
 unfold Re;rw[this];exact List.filter_eq_self.2 λy hy=>by have:=hw.2.1 y hy;grind
theorem kV{a:Is}(ha:PF a){want:ADR}(hw:Xu want)(n:Nat)(hn:PE<=n):∃o b,TN n a want=some (o,b)/\Uk n a want=some (o,b)/\(b=true->PG o want/\Fits a o/\o.length<=72)/\(b=false->o=[]):=by
 have h12:=ha.1;have h6:=hw.2.2;have h0:Pj a (tp [])=a:=ZL a _ λ_ _=>rfl
 obtain⟨z,w,hS,e1,e2⟩:=ZT (uk a want) (xT a want) (λx=>Wj x.2.2.2.2.2) (λx y hR=>lM ha hw n hn x y hR) n
  (([]:OF),false,([]:OF),([]:OF),want,List.replicate a.length (false:Bool)) (([]:OF),want,a)
  ⟨rfl,by show want=leftOf want [];unfold leftOf;simp[Q3],PI.init ha hw,by rw[jr hw,h0]⟩ (by show Wj (List.replicate a.length false)<n;rw[aE];unfold PE at hn;omega)
 obtain⟨o,b,rfl,q1,q2,q3⟩:=hS;refine⟨o,b,?_,?_,q1,q2⟩
 ·unfold TN;rw[P2 a ha.sm n hn,ha.ok,hw.ok n hn];simp only[ABP,ABX,ABS];rw[show decide (([]:ADR).length+want.length<=E7)=true from Um No,ABQ];rw[show(decide (0<=(a.length:Int))&&decide ((a.length:Int)<=(E7:Int))&&decide True)=true by rw[show decide ((a.length:Int)<=(E7:Int))=true by rw[AAj];unfold E7;clear hn;omega];simp,ABQ,AA1,ABT,e1,ABP]
 ·unfold Uk QR;rw[QH a ha.sm n hn,ha.ok,Ry want ADS n hn,Vo.2 hw,Pn a ha.sm n hn,Um (show want.length<=1048576 by clear hn;omega)];grind
theorem mN(a:Is)(hs:Pb a)(want:ADR)(hl:want.length<=1048576)(n:Nat)(hn:PE<=n):∃o b,TN n a want=some (o,b)/\Uk n a want=some (o,b)/\(b=true->PF a/\Xu want/\PG o want/\Fits a o/\o.length<=72)/\(b=false->o=[]):=by
 cases h1:Pq a with
 |false=>
  refine⟨[],false,?_,?_,(λe=>by cases e),λ_=>rfl⟩
  ·unfold TN;rw[P2 a hs n hn,h1];rfl
  ·unfold Uk;rw[QH a hs n hn,h1];rfl
 |true=>
  cases h2:Vn want with
  |false=>
   refine⟨[],false,?_,?_,(λe=>by cases e),λ_=>rfl⟩
   ·unfold TN;rw[P2 a hs n hn,h1,Vs want hl n hn,h2];rfl
   ·unfold Uk;rw[QH a hs n hn,h1,Ry want hl n hn,h2];rfl
  |true=>
   have ha:=Pp.1 h1;have hw:=Vo.1 h2;obtain⟨o,b,e1,e2,q1,q2⟩:=kV ha hw n hn;grind
def ab(p:O0)(y:Pd):Bool:=y.1==p.2.1&&P5 p.2.2 1 y.2
def Zi(p:O0)(l:ADR):ADR:=l.map λy=>bif y.1==p.2.1 then(y.1,y.2-p.2.2)else y
def foldI:OF->ADR->Option ADR
 | [],l=>some l
 |p::r,l=>if l.any (ab p)then foldI r (Zi p l)else none
def Xe(ps:OF)(l:ADR):Bool:=match foldI ps l with
 |some z=>z.all λy=>y.2==0
 |none=>false
theorem ae{p:O0}{y:Pd}:ab p y=true↔y.1=p.2.1/\1<=p.2.2/\p.2.2<=y.2:=by unfold ab P5;grind
theorem kI(p:O0)(l:ADR):(Zi p l).length=l.length:=by unfold Zi;grind
theorem mC{p:O0}{l:ADR}(h:l.Pairwise λa b=>a.1<b.1):(Zi p l).Pairwise λa b=>a.1<b.1:=by unfold Zi;grind
theorem fU{p:O0}{l:ADR}{y:Pd}(h:y∈Zi p l):∃z∈l,y.1=z.1/\y.2=if z.1=p.2.1 then z.2-p.2.2 else z.2:=by unfold Zi at h;grind
theorem mB{p:O0}{l:ADR}{z:Pd}(h:z∈l):(z.1,if z.1=p.2.1 then z.2-p.2.2 else z.2)∈Zi p l:=by unfold Zi;grind
theorem oE{l:ADR}(h:l.Pairwise λa b=>a.1<b.1){y z:Pd}(hy:y∈l)(hz:z∈l)(e:y.1=z.1):y=z:=by
 obtain⟨i,hi,rfl⟩:=ABU.1 hy;obtain⟨j,hj,rfl⟩:=ABU.1 hz;rcases ABe i j with hl|hl|hl
 ·have:=ABM.1 h i j hi hj hl;omega
 ·subst hl;rfl
 ·have:=ABM.1 h j i hj hi hl;omega
theorem Yv:∀(ps:OF)(l:ADR),l.Pairwise (λa b=>a.1<b.1)->(Xe ps l=true↔PG ps l)
 | [],l,hl=>by
  show(l.all λy=>y.2==0)=true↔_;rw[AAZ];constructor
  ·intro h;refine⟨(λp hp=>by cases hp),λy hy=>?_⟩;have:=h y hy;rw[AAX]at this;rw[this];rfl
  ·intro h y hy;rw[AAX];exact(h.2 y hy).symm
 |p::ps,l,hl=>by
  have ih:=Yv ps (Zi p l) (mC hl)
  have hun:Xe (p::ps) l=(if l.any (ab p)then Xe ps (Zi p l)else false):=by unfold Xe;rw[foldI];grind
  rw[hun];by_cases ha:l.any (ab p)=true
  ·rw[AAS ha,ih];obtain⟨y,hy,hh⟩:=AA5.1 ha;obtain⟨h1,h2,h3⟩:=ae.1 hh;constructor
   ·rintro ⟨g1,g2⟩
    refine⟨λq hq=>?_,λz hz=>?_⟩
    ·rcases AAi.1 hq with rfl|hq
     ·grind
     ·obtain⟨a1,v,hv,a2⟩:=g1 q hq;obtain⟨w,hw,b1,_⟩:=fU hv;grind
    ·have:=g2 _ (mB (p:=p) hz);dsimp only at this;simp only[Q3];grind
   ·rintro ⟨g1,g2⟩
    refine⟨λq hq=>?_,λz hz=>?_⟩
    ·obtain⟨a1,v,hv,a2⟩:=g1 q (AAQ _ hq);exact⟨a1,_,mB (p:=p) hv,a2⟩
    ·obtain⟨w,hw,b1,b2⟩:=fU hz;have:=g2 w hw;simp only[Q3]at this;grind
  ·rw[AAT ha];refine⟨(λe=>by cases e),λ⟨g1,g2⟩=>(ha ?_).elim⟩;obtain⟨a1,y,hy,a2⟩:=g1 p AAo;have h3:=g2 y hy;have h4:=Ve y.1 ps λq hq=>(g1 q (AAQ _ hq)).1;simp only[Q3]at h3;rw[show(p.2.1==y.1)=true from AAX.2 a2.symm,ABQ]at h3;exact AA5.2 ⟨y,hy,ae.2 ⟨a2,a1,J⟩⟩
def mM(l:ADR):Prop:=l.Pairwise (λa b=>a.1<b.1)/\(∀y∈l,0<=y.2/\y.2<=1000)/\l.length<=6
theorem mM.sub{p:O0}{l:ADR}(h:mM l)(ha:l.any (ab p)=true):mM (Zi p l):=by
 obtain⟨y,hy,hh⟩:=AA5.1 ha;obtain⟨h1,h2,h3⟩:=ae.1 hh;refine⟨mC h.1,λz hz=>?_,by rw[kI];exact h.2.2⟩;obtain⟨w,hw,b1,b2⟩:=fU hz;have hwb:=h.2.1 w hw;rw[b2];split
 ·rename_i e;have:w=y:=oE h.1 hw hy (e.trans h1.symm);grind
 ·exact hwb
theorem jx{l:ADR}(h:l.Pairwise λa b=>a.1<b.1){i:Nat}(hi:i<l.length){p:O0}(e:l[i].1=p.2.1):l.modify i (λy=>(y.1,l[i].2-p.2.2))=Zi p l:=by
 apply ABt;intro k;unfold Zi;rw[ABd,AAe];by_cases hk:k<l.length
 ·rw[AAM hk];by_cases hik:i=k
  ·subst hik;rw[Option.map_eq_map,AA7,AA7,AAS rfl,show(l[i].1==p.2.1)=true from AAX.2 e,ABQ]
  ·rw[Option.map_eq_map,AA7,AA7,AAT hik]
   have:l[k].1≠p.2.1:=λe2=>by
    rcases ABe i k with hl|hl|hl
    ·have:=ABM.1 h i k hi hk hl;omega
    ·exact hik hl
    ·have:=ABM.1 h k i hk hi hl;omega
   rw[show(l[k].1==p.2.1)=false from ABW.2 this,ABS]
 grind
theorem lL(k:Int)(l:ADR)(hl:mM l)(p:O0)(n:Nat)(hn:PE<=n):∃i:Int,iter n (UU (k,l) p) (false,0,l)=some (bif l.any (ab p)then(true,i,Zi p l)else(false,i,l)):=by
 have h6:=hl.2.2
 obtain⟨z,hS,e⟩:=Ya (f:=UU (k,l) p) (λx=>x.1=false/\x.2.2=l/\∃m:Nat,m<=l.length/\x.2.1=(m:Int)/\∀i (h:i<l.length),i<m->ab p l[i]=false)
  (λz=>z.1=false/\z.2.2=l/\l.any (ab p)=false\/z.1=true/\z.2.2=Zi p l/\l.any (ab p)=true) (λx=>((l.length:Int)-x.2.1).toNat) (λx hR=>by
   obtain⟨b,i,l'⟩:=x;obtain⟨h1,h2,m,hm,h3,h4⟩:=hR;dsimp only at h1 h2 h3;subst h1;subst h2;subst h3;unfold UU;dsimp only;by_cases zj:m<l'.length
   ·have hyb:=hl.2.1 _ (ABR zj);rw[show decide ((m:Int)<(l'.length:Int))=true by rw[AAj];clear hn;omega,ABQ,O6 zj,ABT,AAM zj];simp only[ABQ,ABP,Ut,QO]
    have hx:(bif l'[m].1==p.2.1 then some (P5 p.2.2 1 l'[m].2)else some false)=some (ab p l'[m]):=by
     unfold ab;cases(l'[m].1==p.2.1)<;>rfl
    rw[hx,ABP];cases hh:ab p l'[m]with
    |true=>
     obtain⟨a1,a2,a3⟩:=ae.1 hh;left;refine⟨_,rfl,.inr ⟨rfl,?_,AA5.2 ⟨_,ABR zj,hh⟩⟩⟩;show l'.modify m (λy=>(y.1,O5 (l'[m].2-p.2.2)))=_;rw[PA (n:=l'[m].2-p.2.2) ADS ADS,jx hl.1 zj a1]
    |false=>
     right;rw[ABS,O1 zj (show l'.length<=9223372036854775807 by clear hn;omega)];refine⟨_,rfl,⟨rfl,rfl,m+1,zj,rfl,λi hi him=>?_⟩,by show((l'.length:Int)-((m+1:Nat):Int)).toNat<((l'.length:Int)-(m:Int)).toNat;clear hn;omega⟩;by_cases e:i=m
     ·subst e;exact hh
     ·exact h4 i hi ADS
   ·left;rw[show decide ((m:Int)<(l'.length:Int))=false by rw[AAr];clear hn;omega];refine⟨_,rfl,.inl ⟨rfl,rfl,?_⟩⟩;rw[<-ABr];intro ha;obtain⟨y,hy,hh⟩:=AA5.1 ha;obtain⟨i,hi,rfl⟩:=ABU.1 hy;rw[h4 i hi ADS]at hh;cases hh) n (false,0,l) ⟨rfl,rfl,0,Nat.zero_le _,rfl,λi _ h=>J⟩ (by show((l.length:Int)-0).toNat<n;unfold PE at hn;omega)
 grind
theorem bh(ps:OF)(hp:ps.length<=1048576)(l:ADR)(hl:mM l)(n:Nat)(hn:PE<=n):VK n ps l=some (Xe ps l):=by
 have h6:=hl.2.2
 have hc:=PV (σ:=ADR) (UT n ps) (λi s=>((i:Int),s)) ps (λr s=>match foldI r s with|some z=>.inl ((ps.length:Int),z)|none=>.inr false) (λi s=>mM s)
  (λs hs=>by unfold UT;simp[foldI])
  (λi p r s g1 g2 g3 g4 g5=>by
   have hpi:ps[i]=p:=by rw[AAM g1]at g2;exact Option.some.inj g2
   obtain⟨j,e⟩:=lL (i:Int) s g5 p n hn;unfold UT;dsimp only;rw[show decide ((i:Int)<(ps.length:Int))=true by grind,ABQ,O3 g1,hpi,ABP,e,ABP,O1 g1 (show ps.length<=9223372036854775807 by omega)];cases ha:s.any (ab p)with
   |true=>
    left;refine⟨Zi p s,rfl,g5.sub ha,?_⟩;rw[foldI,AAS ha]
   |false=>
    right;rw[foldI,AAT (by rw[ha];simp)];rfl)
  n ADU l hl
 unfold VK QR;rw[Um (show l.length<=1048576 by omega),ABQ,ABP];rw[show((0:Nat):Int)=0 from rfl]at hc;rw[hc,ABP];unfold Xe;cases hf:foldI ps l with
 |none=>rfl
 |some z=>
  have hzl:z.length<=6:=by
   have:∀(ps:OF)(l z:ADR),foldI ps l=some z->z.length=l.length:=by
    intro ps
    induction ps with
    |nil=>intro l z e;injection e with e;rw[e]
    |cons p ps ih=>
     intro l z e;rw[foldI]at e;split at e
     ·rw[ih _ _ e,kI]
     ·cases e
   rw[this ps l z hf];exact h6
  have h3:=RZ (UW ((ps.length:Int),z)) z (λy=>y.2==0) (λi x hi hx=>by
   obtain⟨_,rfl⟩:=AAO.1 hx;unfold UW;dsimp only;rw[show decide ((i:Int)<(z.length:Int))=true by rw[AAj];clear hn;omega,ABQ,O6 hi,ABT,AAM hi,ABQ,ABP,O1 hi (show z.length<=9223372036854775807 by clear hn;omega)];simp only[bne];cases(z[i].2==0)<;>rfl) (by unfold UW;simp) n ADU
  grind
abbrev PS:=Int×Int×ADR×OF×Int
abbrev ADP:=List PS
theorem Sh(nx:Int)(l:ADP)(h:QT (nx,l))(n:Nat)(hn:PE<=n):Rf n nx l=some (nx,l):=by
 have hl:l.length<=1048576:=h.1
 have hc:=PV (σ:=ADP) (Ud l) (λi s=>((i:Int),nx,s)) l (λr s=>((l.length:Int),nx,s++r)) (λi s=>s.length<=i)
  (λs hs=>by simp[Ud]) (λi y r s h1 h2 h3 h4 h5=>by
   left;have hy:l[i]=y:=by rw[AAM h1]at h2;exact Option.some.inj h2
   refine⟨s++[y],?_,by rw[ABC,ABY];omega,AAA⟩;unfold Ud;dsimp only;rw[show decide ((i:Int)<(l.length:Int))=true by simpa using h1,ABQ,O3 h1,hy,ABP,Ze y (h.2 y (by rw[<-hy];exact ABR h1)),ABP,O1 h1 J];rw[show decide (s.length+[(y.1,y.2.1,y.2.2.1,y.2.2.2.1,y.2.2.2.2)].length<=E7)=true from Rr J,ABQ])
  n ADU [] AAA
 unfold Rf;grind
theorem Th(nx:Int)(l:ADP)(h:QT (nx,l))(n:Nat)(hn:PE<=n):Ql n nx l=some (nx,l):=by
 have hl:l.length<=1048576:=h.1
 have hc:=PV (σ:=ADP) (Tf l) (λi s=>((i:Int),nx,s)) l (λr s=>((l.length:Int),nx,s++r)) (λi s=>s.length<=i)
  (λs hs=>by simp[Tf]) (λi y r s h1 h2 h3 h4 h5=>by
   left;have hy:l[i]=y:=by rw[AAM h1]at h2;exact Option.some.inj h2
   refine⟨s++[y],?_,by rw[ABC,ABY];omega,AAA⟩;unfold Tf;dsimp only;rw[show decide ((i:Int)<(l.length:Int))=true by simpa using h1,ABQ,O3 h1,hy,ABP,S0 y (h.2 y (by rw[<-hy];exact ABR h1)),ABP,O1 h1 J];have hr:decide (s.length+1<=E7)=true:=Rr J;simp only[ABY,hr,ABQ])
  n ADU [] AAA
 unfold Ql;grind
def Q6(l:ADP):ADP:=l.filter λo=>o.2.2.2.2==1
theorem jd{β:Type}(f:Int->Option (Int⊕(Int⊕Int)))(xs:List β)(P:β->Bool)(hs:∀(i:Nat)(x:β),i<xs.length->xs[i]?=some x->f (i:Int)=some (bif P x then .inr (.inr (i:Int))else .inl ((i+1:Nat):Int)))
  (j:Nat) (hj:j<xs.length) (hP:P xs[j]=true):∀n,xs.length<n->∃i,∃h:i<xs.length,P xs[i]=true/\iter n f 0=some (.inr (i:Int)):=by
 have key:∀d i n,i+d=j->d<n->∃k,∃h:k<xs.length,P xs[k]=true/\iter n f (i:Int)=some (.inr (k:Int)):=by
  intro d
  induction d with
  |zero=>
   intro i n hi hn;obtain⟨n,rfl⟩:∃k,n=k+1:=⟨n-1,J⟩;have:i=j:=J
   subst this;have hf:=hs i xs[i] hj (AAM hj);rw[hP,ABQ]at hf;exact⟨i,hj,hP,Po hf n⟩
  |succ d ih=>
   intro i n hi hn;obtain⟨n,rfl⟩:∃k,n=k+1:=⟨n-1,J⟩;have zj:i<xs.length:=J
   have hf:=hs i xs[i] zj (AAM zj);cases hp:P xs[i]with
   |true=>rw[hp,ABQ]at hf;exact⟨i,zj,hp,Po hf n⟩
   |false=>rw[hp,ABS]at hf;rw[SR hf n];exact ih (i+1) n J J
 exactλn hn=>key j 0 n J J
theorem X2(nx:Int)(l:ADP)(hl:l.length<=1048576)(hp:l.Pairwise (λa b=>a.1<b.1))(i:Nat)(hi:i<l.length)(n:Nat)(hn:PE<=n):Qo n nx l l[i].1=some (i:Int):=by
 obtain⟨j,hj,hP,e⟩:=jd (RQ l l[i].1) l (λx=>x.1==l[i].1) (λm x h1 h2=>by
  have hx:l[m]=x:=by rw[AAM h1]at h2;exact Option.some.inj h2
  simp only[RQ,O3 h1,hx,ABP,O1 h1 J];grind) i hi AAA n ADU
 have hji:j=i:=by
  have hP:l[j].1=l[i].1:=by simpa using hP
  rcases ABe j i with q|q|q
  ·have:=ABM.1 hp j i hj hi q;omega
  ·exact q
  ·have:=ABM.1 hp i j hi hj q;omega
 subst hji;unfold Qo;rw[e];rfl
theorem VN(nx:Int)(l:ADP)(hl:l.length<=1048576)(c:Int)(hc:∀x∈l,x.1≠c)(n:Nat)(hn:PE<=n):Qo n nx l c=some (-1):=by
 have:=gl (RQ l c) l (λx=>x.1==c) (λm x h1 h2=>by
  have hx:l[m]=x:=by rw[AAM h1]at h2;exact Option.some.inj h2
  simp only[RQ,O3 h1,hx,ABP,O1 h1 J];rw[show decide ((m:Int)<(l.length:Int))=true by simpa using h1];cases hq:(x.1==c)<;>rfl) (by simp[RQ]) n ADU
 unfold Qo;grind
def cV(l:ADR)(ps:OF):Int:=match l with
 | []=>0
 |y::r=>Q3 y.1 ps+cV r ps
theorem kK:∀l:ADR,cV l []=0
 | []=>rfl
 |y::r=>by simp only[cV,kK r,Q3];rfl
theorem fX(p:O0)(ps:OF):∀l:ADR,(∀y∈l,y.1≠p.2.1)->cV l (p::ps)=cV l ps
 | [],_=>rfl
 |y::r,h=>by have h1:=h y AAo;simp only[cV,Q3,fX p ps r λz hz=>h z (AAQ _ hz)];grind
theorem mF(p:O0)(ps:OF):∀l:ADR,l.Pairwise (λa b=>a.1<b.1)->(∃y∈l,y.1=p.2.1)->cV l (p::ps)=p.2.2+cV l ps
 | [],_,⟨y,hy,_⟩=>by cases hy
 |y::r,hl,⟨z,hz,e⟩=>by
  obtain⟨h1,h2⟩:=ABn.1 hl;simp only[cV,Q3];by_cases hy:y.1=p.2.1
  ·rw[fX p ps r λw hw=>No,show(p.2.1==y.1)=true from AAX.2 hy.symm,ABQ];omega
  ·rcases AAi.1 hz with e2|hz
   ·grind
   ·rw[mF p ps r h2 ⟨z,hz,e⟩,show(p.2.1==y.1)=false from ABW.2 λe=>hy e.symm,ABS];omega
theorem fW{l:ADR}(hl:l.Pairwise λa b=>a.1<b.1):∀ps:OF,(∀p∈ps,1<=p.2.2)->cV l ps<=XO ps/\(cV l ps=XO ps↔∀p∈ps,∃y∈l,y.1=p.2.1)
 | [],_=>by rw[kK];exact⟨by simp[XO],⟨λ_ p hp=>(by cases hp),λ_=>rfl⟩⟩
 |p::ps,h=>by
  obtain⟨i1,i2⟩:=fW hl ps λq hq=>h q (AAQ _ hq);have hp:=h p AAo;simp only[XO];by_cases hy:∃y∈l,y.1=p.2.1
  ·rw[mF p ps l hl hy];grind
  ·rw[fX p ps l λy hy2 e=>hy ⟨y,hy2,e⟩];grind
theorem jJ(ps:OF):∀l:ADR,(∀y∈l,Q3 y.1 ps=y.2)->cV l ps=Vd l
 | [],_=>rfl
 |y::r,h=>by simp only[cV,Vd,h y AAo,jJ ps r λz hz=>h z (AAQ _ hz)]
theorem jM{ps:OF}(h:∀p∈ps,1<=p.2.2){p:O0}(hp:p∈ps):p.2.2<=Q3 p.2.1 ps:=by
 induction ps with
 |nil=>cases hp
 |cons q r ih=>
  have h1:=Ve p.2.1 r λz hz=>h z (AAQ _ hz);have h2:=h q AAo;simp only[Q3];grind
theorem mz{l:ADR}(hl:Xu l){ps:OF}:((∀p∈ps,1<=p.2.2/\p.2.2<=1000)/\(∀y∈l,Q3 y.1 ps=y.2)/\Vd l-XO ps=0)↔PG ps l:=by
 constructor
 ·rintro ⟨h1,h2,h3⟩
  have hs:=(fW hl.1 ps λp hp=>(h1 p hp).1).2.1 (by rw[jJ ps l h2];omega);exact⟨λp hp=>⟨(h1 p hp).1,hs p hp⟩,h2⟩
 ·rintro ⟨h1,h2⟩
  have hs:=(fW hl.1 ps λp hp=>(h1 p hp).1).2.2 λp hp=>(h1 p hp).2;refine⟨λp hp=>⟨(h1 p hp).1,?_⟩,h2,by rw[jJ ps l h2]at hs;omega⟩;obtain⟨y,hy,e⟩:=(h1 p hp).2;have:=jM (λq hq=>(h1 q hq).1) hp;have h4:=h2 y hy;have h5:=hl.2.1 y hy;grind
def kU(nx:Int)(o:PS):Prop:=(1<=o.1/\o.1<=nx-1)/\(0<=o.2.1/\o.2.1<=99)/\(Xu o.2.2.1/\0<o.2.2.1.length)/\PG o.2.2.2.1 o.2.2.1/\(1<=o.2.2.2.2/\o.2.2.2.2<=3)
def Wp(nx:Int)(l:ADP):Prop:=(1<=nx/\nx<=1000000)/\l.length<=30/\l.Pairwise (λa b=>a.1<b.1)/\∀o∈l,kU nx o
def iO(l:ADP):Prop:=∀o∈l,∀p∈o.2.2.2.1,1<=p.1/\p.1<=999
def Z4(nx:Int)(l:ADP)(i:Nat):Bool:=match l[i]? with
 |some o=>P5 o.1 1 (nx-1)&&Qk (·.1) l i o&&P5 o.2.1 0 99&&P5 o.2.2.2.2 1 3 && !((o.2.2.1.length:Int)==0)&&Vn o.2.2.1&&Xe o.2.2.2.1 o.2.2.1
 |none=>false
theorem mx{nx:Int}{l:ADP}{i:Nat}(hi:i<l.length):Z4 nx l i=true↔kU nx l[i]/\Qk (·.1) l i l[i]=true:=by
 unfold Z4 kU;rw[AAM hi];simp only[AAN,Vo,AAa,ABW];have zg:∀a b c:Int,P5 a b c=true↔b<=a/\a<=c:=λa b c=>by unfold P5;grind
 rw[zg,zg,zg];constructor
 ·rintro ⟨⟨⟨⟨⟨⟨h1,h2⟩,h3⟩,h4⟩,h5⟩,h6⟩,h7⟩
  exact⟨⟨h1,h3,⟨h6,J⟩,(Yv _ _ h6.1).1 h7,h4⟩,h2⟩
 ·rintro ⟨⟨h1,h3,⟨h6,h5⟩,h7,h4⟩,h2⟩
  exact⟨⟨⟨⟨⟨⟨h1,h2⟩,h3⟩,h4⟩,J⟩,h6⟩,(Yv _ _ h6.1).2 h7⟩
theorem jV{nx:Int}{l:ADP}(hn:1<=nx/\nx<=1000000)(h30:l.length<=30):(List.range l.length).all (Z4 nx l)=true↔Wp nx l:=by
 rw[AAZ];have hat:∀i (hi:i<l.length),Z4 nx l i=true↔kU nx l[i]/\Qk (·.1) l i l[i]=true:=λi hi=>mx hi;constructor
 ·intro h;have hi:∀i (hi:i<l.length),kU nx l[i]/\Qk (·.1) l i l[i]=true:=λi hi=>(hat i hi).1 (h i (AAb.2 hi));refine⟨hn,h30,Xg _ _ λi hi2=>(X4 (·.1) l (i+1) hi2).1 (hi (i+1) hi2).2 i rfl,λo ho=>?_⟩;obtain⟨i,hi2,rfl⟩:=ABU.1 ho;grind
 ·rintro ⟨_,_,h3,h4⟩ i hi
  have hi:=AAb.1 hi;exact(hat i hi).2 ⟨h4 _ (ABR hi),Zc h3 (λx y h=>h) i hi⟩
theorem dV(ps:OF)(h72:ps.length<=72)(hN:∀p∈ps,1<=p.2.2/\p.2.2<=1000)(k:Int)(n:Nat)(hn:PE<=n):X9 n ps k=some (Q3 k ps):=by
 have hc:=PV (σ:=Int) (VW ps k) (λi s=>(s,(i:Int))) ps (λr s=>(s+Q3 k r,(ps.length:Int))) (λi s=>0<=s/\s<=1000*(i:Int))
  (λs hs=>by unfold VW;simp[Q3])
  (λi p r s g1 g2 g3 g4 g5=>by
   left;have hp:ps[i]=p:=by rw[AAM g1]at g2;exact Option.some.inj g2
   have hpN:=hN p (by rw[<-hp];exact ABR g1);unfold VW;dsimp only;rw[show decide ((i:Int)<(ps.length:Int))=true by rw[AAj];clear hn;omega,ABQ,O3 g1,hp,O1 g1 (show ps.length<=9223372036854775807 by clear hn;omega)];simp only[ABP,Q3];cases(p.2.1==k)with
   |true=>
    rw[ABQ,ABP,PA (n:=s+p.2.2) ADS ADS];exact⟨s+p.2.2,rfl,⟨ADS,ADS⟩,by rw[ABQ,ACI]⟩
   |false=>
    rw[ABS,ABP];exact⟨s,rfl,⟨g5.1,ADS⟩,by rw[ABS,Int.zero_add]⟩)
  n ADU 0 ⟨J,J⟩
 unfold X9;grind
theorem oX(l:ADR)(hl:Xu l)(n:Nat)(hn:PE<=n):iter n (SB l) (0,0)=some (Vd l,(l.length:Int)):=by
 have h6:=hl.2.2
 have hc:=PV (σ:=Int) (SB l) (λi s=>(s,(i:Int))) l (λr s=>(s+Vd r,(l.length:Int))) (λi s=>0<=s/\s<=1000*(i:Int))
  (λs hs=>by unfold SB;simp[Vd])
  (λi y r s g1 g2 g3 g4 g5=>by
   left;have hy:l[i]=y:=by rw[AAM g1]at g2;exact Option.some.inj g2
   have hyb:=hl.2.1 y (by rw[<-hy];exact ABR g1);refine⟨s+y.2,?_,⟨ADS,ADS⟩,by simp only[Vd,ACI]⟩;unfold SB;dsimp only;rw[show decide ((i:Int)<(l.length:Int))=true by rw[AAj];clear hn;omega,ABQ,O3 g1,hy,ABP,O1 g1 (show l.length<=9223372036854775807 by clear hn;omega),PA (n:=s+y.2) ADS ADS])
  n ADU 0 ⟨J,J⟩
 grind
theorem oY(ps:OF)(h72:ps.length<=72)(hP:∀p∈ps,1<=p.1/\p.1<=999)(s0:Int)(hs0:0<=s0/\s0<=6000)(n:Nat)(hn:PE<=n):
  iter n (SC ps) (s0,0)=some (if ∀p∈ps,1<=p.2.2/\p.2.2<=1000 then .inl (s0-XO ps,(ps.length:Int))else .inr false):=by
 have hc:=PV (σ:=Int) (SC ps) (λi s=>(s,(i:Int))) ps (λr s=>if ∀p∈r,1<=p.2.2/\p.2.2<=1000 then .inl (s-XO r,(ps.length:Int))else .inr false) (λi s => -1000*(i:Int)<=s/\s<=6000)
  (λs hs=>by
   rw[AAS (λp hp=>by cases hp)];unfold SC;simp[XO])
  (λi p r s g1 g2 g3 g4 g5=>by
   have hp:ps[i]=p:=by rw[AAM g1]at g2;exact Option.some.inj g2
   have hpP:=hP p (by rw[<-hp];exact ABR g1);unfold SC;dsimp only;rw[show decide ((i:Int)<(ps.length:Int))=true by rw[AAj];clear hn;omega,ABQ,O3 g1,hp,O1 g1 (show ps.length<=9223372036854775807 by clear hn;omega)];simp only[ABP,QO];rw[show P5 p.1 1 999=true by unfold P5;rw[ABV hpP.1,ABV hpP.2];rfl];by_cases hb:1<=p.2.2/\p.2.2<=1000
   ·left;rw[show P5 p.2.2 1 1000=true by unfold P5;rw[ABV hb.1,ABV hb.2];rfl];simp only[ABX,ABS,ABP];rw[PA (n:=s-p.2.2) ADS ADS];refine⟨s-p.2.2,rfl,⟨ADS,ADS⟩,?_⟩;simp only[List.forall_mem_cons,hb,and_self,true_and,XO,Int.sub_sub]
   ·right
    rw[show P5 p.2.2 1 1000=false by
     unfold P5;rw[ACN,AAr,AAr];by_cases h:1<=p.2.2
     ·exact .inr λq=>hb ⟨h,q⟩
     ·exact .inl h]
    rw[AAT (λq=>hb (q p AAo))];rfl)
  n ADU s0 ⟨J,J⟩
 omega
theorem bC(o:PS)(h1:o.2.2.1.length<=1048576)(hP:∀p∈o.2.2.2.1,1<=p.1/\p.1<=999)(n:Nat)(hn:PE<=n):
  WK n o.1 o.2.1 o.2.2.1 o.2.2.2.1 o.2.2.2.2=some (P5 o.2.1 0 99&&P5 o.2.2.2.2 1 3 && !((o.2.2.1.length:Int)==0)&&Vn o.2.2.1&&(decide (o.2.2.2.1.length<=72)&&Xe o.2.2.2.1 o.2.2.1)):=by
 obtain⟨id,desk,it,pk,st⟩:=o;dsimp only at h1 hP ⊢;unfold WK;simp only[QO,Vs it h1 n hn,ABP];by_cases h72:pk.length<=72
 case neg=>
  grind
 rw[show decide ((pk.length:Int)>72)=false by grind,ABV h72,ABw];cases P5 desk 0 99 with
 |false=>rfl
 |true=>
 cases hi:Vn it with
 |false=>grind
 |true=>
 cases((it.length:Int)==0)with
 |true=>grind
 |false=>
 cases P5 st 1 3 with
 |false=>rfl
 |true=>
 have hI:=Vo.1 hi;have h6:=hI.2.2
 have hs0:0<=Vd it/\Vd it<=6000:=by
  have:∀l:ADR,(∀y∈l,1<=y.2/\y.2<=1000)->0<=Vd l/\Vd l<=1000*(l.length:Int):=by
   intro l
   induction l with
   |nil=>intro _;simp[Vd]
   |cons y r ih=>
    intro h;have a1:=ih λz hz=>h z (AAQ _ hz);have a2:=h y AAo;simp only[Vd,ABF];clear hn;omega
  have:=this it λy hy=>⟨(hI.2.1 y hy).2.2.1,(hI.2.1 y hy).2.2.2⟩;clear hn;omega
 have hask:=mz hI (ps:=pk);have hpb:=Yv pk it hI.1;simp only[ABX,ABp,ABS,AB7,ABw,ABP];rw[oX it hI n hn,ABP];dsimp only;rw[oY pk h72 hP (Vd it) hs0 n hn,ABP];by_cases hN:∀p∈pk,1<=p.2.2/\p.2.2<=1000
 ·rw[AAS hN]
  have h3:=RZ (Tp n it pk) it (λy=>Q3 y.1 pk==y.2) (λi x hi hx=>by
   obtain⟨_,rfl⟩:=AAO.1 hx;unfold Tp;rw[show decide ((i:Int)<(it.length:Int))=true by rw[AAj];clear hn;omega,ABQ,O3 hi,ABP,dV pk h72 hN it[i].1 n hn,ABP,ABP,O1 hi (show it.length<=9223372036854775807 by clear hn;omega)];simp only[bne];cases(Q3 it[i].1 pk==it[i].2)<;>rfl) (by unfold Tp;simp) n ADU
  dsimp only;rw[h3];cases ha:it.all (λy=>Q3 y.1 pk==y.2)with
  |false=>
   rw[ABS,ABP];show some false=_
   rw[show Xe pk it=false by
    rw[<-ABr];intro h;have:=(hask.2 (hpb.1 h)).2.1;rw[<-ABr]at ha;exact ha (AAZ.2 λy hy=>AAX.2 (this y hy))]
  |true=>
   rw[ABQ,ABP];show some (Vd it-XO pk==0)=_;refine congrArg some ?_;rw[ABy,hpb,<-hask,AAX];exact⟨λh=>⟨hN,λy hy=>AAX.1 (AAZ.1 ha y hy),h⟩,λh=>h.2.2⟩
 grind
def js(l:ADP)(i:Nat):Bool:=match l[i]? with
 |some o=>decide (o.2.2.2.1.length<=72)
 |none=>false
theorem ZA{nx:Int}{l:ADP}(h:QT (nx,l))(hp:iO l)(n:Nat)(hn:PE<=n):∃b,Qr n nx l=some b/\(b=true↔Wp nx l/\∀o∈l,o.2.2.2.1.length<=72):=by
 have hl:l.length<=1048576:=h.1;unfold Qr;simp only[QO,ABP];by_cases hx:1<=nx/\nx<=1000000
 ·rw[show P5 nx 1 1000000=true by unfold P5;rw[ABV hx.1,ABV hx.2];rfl];simp only[ABX,ABS,ABP];by_cases h30:l.length<=30
  ·rw[show decide ((l.length:Int)>30)=false by grind,ABS]
   have:=QY (VR n nx l) (λi=>(i:Int)) l.length (λi=>Z4 nx l i&&js l i) (λi hi=>by
    have hm:=ABR hi;have hpr:(bif decide ((i:Int)>0)then(Iv l (O5 ((i:Int)-1))).bind (λy=>some (decide (y.1>=l[i].1)))else some false)=some (!Qk (·.1) l i l[i]):=YL (·.1) l l[i] i hi hl some;have hov:=bC l[i] (h.2 _ hm).1 (hp _ hm) n hn;simp only[VR,O3 hi,ABP,QO,O1 hi (show l.length<=9223372036854775807 by clear hn;omega),hpr,hov];rw[show decide ((i:Int)<(l.length:Int))=true by rw[AAj];clear hn;omega,PA (n:=nx-1) ADS ADS];unfold Z4 js;grind) (by simp[VR]) n ADU
   rw[show((0:Nat):Int)=0 from rfl]at this;rw[this,ABP];refine⟨(List.range l.length).all (λi=>Z4 nx l i&&js l i),?_,?_⟩
   ·grind
   ·rw[<-jV hx h30,AAZ,AAZ];simp only[AAN];constructor
    ·intro q;refine⟨λi hi=>(q i hi).1,λo ho=>?_⟩;obtain⟨i,hi,rfl⟩:=ABU.1 ho;have:=(q i (AAb.2 hi)).2;unfold js at this;grind
    ·rintro ⟨q1,q2⟩ i hi
     refine⟨q1 i hi,?_⟩;have hi:=AAb.1 hi;unfold js;grind
  ·rw[show decide ((l.length:Int)>30)=true by grind,ABQ];exact⟨false,rfl,(λe=>by cases e),λhb=>(h30 hb.1.2.1).elim⟩
 ·rw[show P5 nx 1 1000000=false by
   unfold P5;rw[ACN,AAr,AAr];by_cases h:1<=nx
   ·exact .inr λq=>hx ⟨h,q⟩
   ·exact .inl h]
  exact⟨false,rfl,(λe=>by cases e),λhb=>(hx hb.1.1).elim⟩
theorem Wk{nx:Int}{l:ADP}(h:QT (nx,l))(n:Nat)(hn:PE<=n):∃b,Q4 n nx l=some b/\(b=true↔Wp nx l):=by
 have hl:l.length<=1048576:=h.1;unfold Q4;simp only[Ut,QO,ABP];by_cases hx:1<=nx/\nx<=1000000
 ·rw[show P5 nx 1 1000000=true by unfold P5;rw[ABV hx.1,ABV hx.2];rfl];simp only[ABX,ABS,ABP];by_cases h30:l.length<=30
  ·rw[show decide ((l.length:Int)>30)=false by rw[AAr];clear hn;omega,ABS]
   have:=QY (U6 n nx l) (λi=>(i:Int)) l.length (Z4 nx l) (λi hi=>by
    have hm:=ABR hi;have hpr:∀C:Option Bool,(bif decide ((i:Int)>0)then(Iv l (O5 ((i:Int)-1))).bind (λy=>bif decide (y.1>=l[i].1)then some true else C)else C)=bif !Qk (·.1) l i l[i]then some true else C:=λC=>YL (·.1) l l[i] i hi hl λb=>bif b then some true else C;have hit:l[i].2.2.1.length<=1048576:=(h.2 _ hm).1;have hpk:l[i].2.2.2.1.length<=1048576:=(h.2 _ hm).2
    have hpo:Vn l[i].2.2.1=true->VK n l[i].2.2.2.1 l[i].2.2.1=some (Xe l[i].2.2.2.1 l[i].2.2.1):=λe=>by
     have hI:=Vo.1 e;exact bh _ hpk _ ⟨hI.1,λy hy=>by have:=hI.2.1 y hy;clear hn;omega,hI.2.2⟩ n hn
    simp only[U6,O3 hi,ABP,Ut,QO,O1 hi (show l.length<=9223372036854775807 by clear hn;omega),hpr,Ry _ hit n hn];rw[show decide ((i:Int)<(l.length:Int))=true by rw[AAj];clear hn;omega,PA (n:=nx-1) ADS ADS];unfold Z4;rw[AAM hi];dsimp only;cases hib:Vn l[i].2.2.1 with
    |false=>cases P5 l[i].1 1 (nx-1)<;>cases Qk (·.1) l i l[i]<;>cases P5 l[i].2.1 0 99<;>cases P5 l[i].2.2.2.2 1 3<;>cases((l[i].2.2.1.length:Int)==0)<;>rfl
    |true=>
     rw[hpo hib];cases P5 l[i].1 1 (nx-1)<;>cases Qk (·.1) l i l[i]<;>cases P5 l[i].2.1 0 99<;>cases P5 l[i].2.2.2.2 1 3<;>cases((l[i].2.2.1.length:Int)==0)<;>cases Xe l[i].2.2.2.1 l[i].2.2.1<;>rfl) (by simp[U6]) n ADU
   rw[show((0:Nat):Int)=0 from rfl]at this;rw[this,ABP];refine⟨(List.range l.length).all (Z4 nx l),?_,jV hx h30⟩;grind
  ·rw[show decide ((l.length:Int)>30)=true by grind,ABQ];exact⟨false,rfl,(λe=>by cases e),λhb=>(h30 hb.2.1).elim⟩
 ·rw[show P5 nx 1 1000000=false by
   unfold P5;rw[ACN,AAr,AAr];by_cases h:1<=nx
   ·exact .inr λq=>hx ⟨h,q⟩
   ·exact .inl h]
  exact⟨false,rfl,(λe=>by cases e),λhb=>(hx hb.1).elim⟩
def Ok{α:Type}(x:Option α)(P:α->Prop):Prop:=∃r,x=some r/\P r
section
variable {α β γ:Type}{P:α->Prop}{Q:β->Prop}
theorem Ok.pure{r:α}(h:P r):Ok (some r) P:=⟨r,rfl,h⟩
theorem Ok.bind{x:Option α}{f:α->Option β}(h:Ok x P)(hf:∀r,P r->Ok (f r) Q):Ok (x.bind f) Q:=by obtain⟨r,rfl,hr⟩:=h;exact hf r hr
theorem Ok.cond{b:Bool}{x y:Option α}(h1:b=true->Ok x P)(h2:b=false->Ok y P):Ok (bif b then x else y) P:=No
theorem Ok.guard{b:Bool}{x y:Option α}(hb:b=true)(h:Ok x P):Ok (bif b then x else y) P:=No
theorem Ok.Iv{xs:List α}{i:Int}(h:0<=i/\i<(xs.length:Int)):Ok (Go.Ev.Iv xs i) λr=>xs[i.toNat]?=some r:=by
 obtain⟨m,rfl⟩:∃m:Nat,i=m:=⟨i.toNat,J⟩;have hm:m<xs.length:=J
 exact⟨xs[m],O3 hm,by simp[hm]⟩
theorem Ok.get{xs:List α}{i:Nat}(h:i<xs.length):Ok xs[i]? λr=>xs[i]?=some r:=⟨xs[i],AAM h,AAM h⟩
theorem eU{xs:List α}{i:Int}(h:0<=i/\i<(xs.length:Int)):ON xs i=true:=by unfold ON;grind
theorem Ok.iter{f:α->Option (α⊕γ)}{S:γ->Prop}(R:Nat->α->Prop)
  (h:∀k x,R k x->Ok (f x) λy=>(∃x',y=.inl x'/\∃k',R k' x'/\k'<k)\/∃z,y=.inr z/\S z) {n k:Nat} {x:α} (hR:R k x) (hk:k<n):Ok (Go.Ev.iter n f x) S:=by
 obtain⟨z,hz,e⟩:=Tl R S (λk x hx=>by
  obtain⟨y,e,hy⟩:=h k x hx;rcases hy with⟨x',rfl,k',h1,h2⟩|⟨z,rfl,h1⟩
  ·exact .inr ⟨x',k',e,h1,h2⟩
  grind) n k x hR hk
 exact⟨z,e,hz⟩
end
def QP{α:Type}(g:Nat->Option α):Prop:=∀n m r,n<=m->g n=some r->g m=some r
theorem QP.const{α:Type}(x:Option α):QP λ_=>x:=λ_ _ _ _ h=>h
theorem QP.bind{α β:Type}{g:Nat->Option α}{f:Nat->α->Option β}(hg:QP g)(hf:∀x,QP λn=>f n x):QP λn=>(g n).bind (f n):=by
 intro n m r hnm h;cases hx:g n with
 |none=>grind
 |some x=>
  simp only[hx,ABP]at h;simp only[hg n m x hnm hx,ABP];exact hf x n m r hnm h
theorem QP.cond{α:Type}{b:Bool}{g h:Nat->Option α}(hg:QP g)(hh:QP h):QP λn=>bif b then g n else h n:=by
 cases b with
 |true=>exact hg
 |false=>exact hh
theorem QP.iter{α γ:Type}{L:Nat->α->Option (α⊕γ)}(hL:∀x,QP λn=>L n x)(x0:α):QP λn=>Go.Ev.iter n (L n) x0:=by
 have key:∀(k n m:Nat)(x:α)(r:γ),n<=m->k<=k+0->Go.Ev.iter k (L n) x=some r->∀j,k<=j->Go.Ev.iter j (L m) x=some r:=by
  intro k
  induction k with
  |zero=>intro n m x r _ _ h;simp[Go.Ev.iter]at h
  |succ k ih=>
   intro n m x r hnm _ h j hj;obtain⟨j,rfl⟩:∃i,j=i+1:=⟨j-1,J⟩;simp only[Go.Ev.iter]at h ⊢;cases hx:L n x with
   |none=>rw[hx]at h;cases h
   |some y=>
    rw[hx]at h;have h2:L m x=some y:=hL x n m y hnm hx;rw[h2];cases y with
    |inl x'=>exact ih n m x' r hnm J h j J
    |inr z=>exact h
 intro n m r hnm h;grind
def Cu(b:By)(i:Int):Prop:=b.length<=1048576/\0<=i
theorem R3{b:By}{i c:Int}(h:Cu b i)(m:Int):Ok (Pl b i c m) λx=>Cu x.2.1 x.2.2.1/\0<=x.1/\(0<m->x.1<m):=by obtain⟨x,i',h',e,h1,h2,h3⟩:=eY b i c h.2 h.1 m;exact⟨_,e,⟨h.1,h1⟩,h2,λhm=>J⟩
theorem dq{b:By}{i c:Int}(h:Cu b i)(m:Int):Ok (TU b i c m) λx=>Cu x.2.1 x.2.2.1:=by unfold TU;exact(R3 h m).bind λr hr=>Ok.pure hr.1
theorem ok_int{b:By}{i c:Int}(h:Cu b i){xs:By}(hx:0<xs.length):Ok (Vu b i c xs) λx=>Cu x.2.1 x.2.2.1/\x.1∈xs:=by unfold Vu;refine(R3 h _).bind λr hr=>(Ok.Iv ⟨hr.2.1,hr.2.2 J⟩).bind λv hv=>Ok.pure ⟨hr.1,AAR hv⟩
theorem oW{b:By}{i c:Int}(h:Cu b i){xs:List ADa}(hx:0<xs.length):Ok (Xq b i c xs) λx=>Cu x.2.1 x.2.2.1/\x.1∈xs:=by unfold Xq;refine(R3 h _).bind λr hr=>(Ok.Iv ⟨hr.2.1,hr.2.2 J⟩).bind λv hv=>Ok.pure ⟨hr.1,AAR hv⟩
theorem lR(s:ADa)(b:Int):QP λn=>XN n s b:=by unfold XN;exact QP.bind (QP.iter (L:=λ_=>ZG s b) (λ_=>QP.const _) _) λ_=>QP.const _
theorem ml(c:Int):QP λn=>YB n c:=by unfold YB;exact QP.bind (QP.iter (L:=λ_=>Zh c) (λ_=>QP.const _) _) λx=>QP.const _
theorem lK(s:ADa):QP λn=>Qa n s:=by unfold Qa;refine QP.bind (lR s 10) λx1=>QP.cond (QP.bind (QP.const _) λx2=>QP.bind (QP.iter (L:=λn=>Un n x1) (λx3=>?_) _) λ_=>QP.const _) (QP.const _);unfold Un;refine QP.cond (QP.bind (QP.const _) λx5=>QP.cond (QP.const _) (QP.bind (QP.const _) λx9=>QP.cond (QP.const _) (QP.bind (QP.iter (L:=λn=>Uo n x1 x3) (λx10=>?_) _) λ_=>QP.const _))) (QP.const _);unfold Uo;refine QP.cond (QP.bind (QP.const _) λ_=>QP.cond (QP.cond (QP.bind (QP.const _) λ_=>QP.bind (QP.const _) λ_=>QP.bind (ml _) λ_=>QP.const _) (QP.const _)) (QP.const _)) (QP.const _)
def aH:List ADa:=[[99,46,46,46,46,46,10,46,112,112,46,112,46,10,46,112,112,46,112,46,10,46,46,46,46,46,115,10],[99,46,46,10,46,46,46,10,46,46,115,10],[46,46,46,46,46,10,46,112,35,112,46,10,46,46,115,46,46,10,46,112,35,112,46,10,99,46,46,46,99,10],[46,46,46,35,46,46,46,10,46,46,46,46,46,46,46,10,46,46,46,35,46,46,46,10],[99,46,46,46,46,46,46,46,10,46,112,46,112,46,112,46,46,10,46,46,46,46,46,46,46,115,10,46,112,46,112,46,112,46,46,10,99,46,46,46,46,46,46,115,10],[46,46,10,46,46,10],[99,46,35,46,115,10,46,46,35,46,46,10]]
def dm(s:ADa):Bool:=match Qa 60 s with
 |some (w,h,c,b)=>PW w h c&&b == -1&&decide (0<c.length)
 |none=>false
theorem fy:aH.all dm=true:=by kernel_rfl
theorem j7{s:ADa}(h:dm s=true)(n:Nat)(hn:PE<=n):Ok (Qa n s) λx=>PW x.1 x.2.1 x.2.2.1=true/\x.2.2.2 = -1/\0<x.2.2.1.length:=by
 unfold dm at h;cases hp:Qa 60 s with
 |none=>grind
 |some x=>
  rw[hp]at h;obtain⟨w,q,c,b⟩:=x;simp only[AAN,AAX,AAj]at h;exact⟨_,lK s 60 n _ ADU hp,h.1.1,h.1.2,h.2⟩
theorem ky(n:Nat)(hn:PE<=n){b:By}{i c:Int}(h:Cu b i):Ok (VX n b i c) λx=>PW x.1 x.2.1 x.2.2.1=true/\0<x.2.2.1.length/\Cu x.2.2.2.1 x.2.2.2.2.1:=by
 unfold VX;refine(dq h 3).bind λr hr=>Ok.cond (λ_=>?_) λ_=>?_
 ·refine(oW hr (xs:=aH) (by simp[aH])).bind λt ht=>?_;refine(j7 (AAZ.1 fy _ ht.2) n hn).bind λx hx=>Ok.pure ⟨hx.1,hx.2.2,ht.1⟩
 ·refine(R3 hr 7).bind λx hx=>(R3 hx.1 6).bind λy hy=>?_;have x1:=hx.2.2 J;have y1:=hy.2.2 J;have x0:=hx.2.1;have y0:=hy.2.1;rw[PA (n:=1+x.1) J J,PA (n:=1+y.1) J J];generalize hW:1+x.1=W;generalize hH:1+y.1=H
  have hWH:W*H<=100/\1<=W*H:=by
   have a1:1<=W:=J
   have a2:W<=10:=J
   have a3:1<=H:=J
   have a4:H<=10:=J
   have h1:W*H<=10*H:=Int.mul_le_mul_of_nonneg_right a2 J;have h2:1*H<=W*H:=Int.mul_le_mul_of_nonneg_right a1 J;omega
  refine Ok.bind (P:=λz=>PW W H z.2.2.2.2.2.2=true/\0<z.2.2.2.2.2.2.length/\z.2.2.2.2.1=W/\z.2.2.2.2.2.1=H/\Cu z.2.1 z.2.2.1) (Ok.iter (λk z=>z.1+(k:Int)=W*H/\0<=z.1/\(z.2.2.2.2.2.2.length:Int)=z.1/\(z.2.2.2.2.2.2.all λk=>P5 k 0 4)=true/\z.2.2.2.2.1=W/\z.2.2.2.2.2.1=H/\Cu z.2.1 z.2.2.1) (λk z hz=>?_) (k:=(W*H).toNat) ⟨J,J,rfl,rfl,rfl,rfl,hy.1⟩ ADU) λz hz=>?_
  ·obtain⟨z1,z2,z3,z4,z5,z6,z7⟩:=hz;unfold ZF;rw[z5,z6,PA (n:=W*H) J J];refine Ok.cond (λhb=>?_) λhb=>?_
   ·have hb:=AAx hb;refine(ok_int z7 AAA).bind λv hv=>Ok.guard (Rr J) (Ok.pure (.inl ⟨_,rfl,k-1,⟨?_,?_,?_,?_,rfl,rfl,hv.1⟩,J⟩))
    ·show O5 (z.1+1)+_=_;rw[PA J J];omega
    ·show 0<=O5 (z.1+1);rw[PA J J];omega
    ·show((z.2.2.2.2.2.2++[v.1]).length:Int)=O5 (z.1+1);rw[PA J J];simp;omega
    ·show((z.2.2.2.2.2.2++[v.1]).all λk=>P5 k 0 4)=true;rw[List.all_append,z4];have hv2:=hv.2;simp only[AAi,List.not_mem_nil,or_false]at hv2;rcases hv2 with e|e|e|e|e|e|e|e|e|e<;>rw[e]<;>rfl
   ·have hb:=of_decide_eq_false hb;refine Ok.pure (.inr ⟨_,rfl,?_,?_,z5,z6,z7⟩)
    ·show PW W H z.2.2.2.2.2.2=true;unfold PW;rw[z4,PA (n:=W*H) J J,show((z.2.2.2.2.2.2.length:Int)==W*H)=true by rw[AAX];omega];unfold P5;rw[ABV (show 1<=W by omega),ABV (show W<=10 by omega),ABV (show 1<=H by omega),ABV (show H<=10 by omega)];rfl
    grind
  ·obtain⟨z1,z2,z3,z4,z5⟩:=hz;refine Ok.pure ⟨?_,z2,z5⟩;grind
def QQ(c:By)(k:Int):Nat->By
 |0=>[]
 |i+1=>bif c.getD i 0==k then QQ c k i++[(i:Int)]else QQ c k i
theorem aA(c:By)(k:Int):∀i,(QQ c k i).length<=i
 |0=>AAh _
 |i+1=>by have:=aA c k i;unfold QQ;grind
theorem XT{c:By}{k x:Int}:∀ {i},x∈QQ c k i->∃j:Nat,x=(j:Int)/\j<i/\c.getD j 0=k
 |0,h=>by cases h
 |i+1,h=>by
  unfold QQ at h;cases hb:(c.getD i 0==k)with
  |false=>
   rw[hb,ABS]at h;obtain⟨j,h1,h2,h3⟩:=XT h;grind
  |true=>
   rw[hb,ABQ,ABI,ABa]at h;rcases h with h|h
   ·obtain⟨j,h1,h2,h3⟩:=XT h;exact⟨j,h1,J,h3⟩
   grind
theorem bQ(c:By)(k:Int):∀i,(QQ c k i).Pairwise (· < ·)
 |0=>List.Pairwise.nil
 |i+1=>by
  have hp:=bQ c k i;unfold QQ;cases hb:(c.getD i 0==k)with
  |false=>grind
  |true=>
   rw[ABQ,ABq];refine⟨hp,List.pairwise_singleton _ _,λx hx y hy=>?_⟩;obtain⟨j,h1,h2,_⟩:=XT hx;grind
theorem mR{c:By}{k:Int}{i:Nat}(hi:i<c.length):QQ c k (i+1)=bif c[i]==k then QQ c k i++[(i:Int)]else QQ c k i:=by rw[QQ,show c.getD i 0=c[i] by simp[hi]]
theorem Vr(w h:Int)(c:By)(hl:c.length<=1048576)(hf:PW w h c=true)(k:Int)(n:Nat)(hn:PE<=n):SS n w h c k=some (QQ c k c.length):=by
 have hs:=Pr w h c hl n hn
 have h1:iter n (Sf n w h c k) (([]:By),(0:Int))=some (QQ c k c.length,(c.length:Int)):=Pa (Sf n w h c k) (λi=>(QQ c k i,(i:Int))) c.length (QQ c k c.length,(c.length:Int)) (λi hi=>by
  have hr:decide ((QQ c k i).length+1<=E7)=true:=Rr (by have:=aA c k i;clear hn;omega);unfold Sf;rw[hs,hf];dsimp only;rw[show decide ((i:Int)<(c.length:Int))=true by rw[AAj];clear hn;omega,mR hi];simp only[ABQ,ABP,O3 hi,O1 hi (show c.length<=9223372036854775807 by clear hn;omega),ABY,hr];grind) (by unfold Sf;grind) n ADU
 unfold SS;rw[h1];rfl
def ZV(w h:Int)(c:By)(a:Is):Bool:=PW w h c&&Pq a&&(List.range a.length).all (Yk a)&&(List.range a.length).all (aJ c a)
def Pu(c:By):By:=QQ c 4 c.length
theorem ns(k:Int):∀(l:Is)(z:Int),(∀p∈l,0<=S9 p.2.2 k/\S9 p.2.2 k<=1000)->z<=(l.map λp=>S9 p.2.2 k).foldl (· + ·) z/\(l.map λp=>S9 p.2.2 k).foldl (· + ·) z<=z+1000*(l.length:Int)
 | [],z,_=>AAA
 |p::l,z,h=>by have h1:=h p AAo;have h2:=ns k l (z+S9 p.2.2 k) λq hq=>h q (AAQ _ hq);grind
theorem eB(a:Is)(k:Int):0<=Sy a k/\Sy a k<=12000:=by
 unfold Sy;cases h:Pq a with
 |false=>grind
 |true=>
  rw[ABQ];obtain⟨h1,h2⟩:=jA h
  have:=ns k a 0 λp hp=>by obtain⟨i,hi,rfl⟩:=ABU.1 hp;exact cT (h2 i hi) k
  omega
theorem cu(a:Is):∀m,m<=50->∀j,j<=50->(Ru a m)[j]?=some (bif decide (1<=j)&&decide (j<=m)then Sy a (j:Int)else 0)
 |0,_,j,hj=>by
  have:(decide (1<=j)&&decide (j<=0))=false:=by rw[ACN,AAr,AAr];omega
  rw[this,ABS];show(List.replicate 51 (0:Int))[j]?=some 0;grind
 |m+1,hm,j,hj=>by have hi:=cu a m J j hj;show((Ru a m).set (m+1) (Sy a ((m+1:Nat):Int)))[j]?=_;grind
theorem eD(ds:By):∀m i,i<m->(Rw ds m)[i]?=some (((i+1:Nat):Int),ds.getD i 0, -1,false,0)
 |0,i,h=>J
 |m+1,i,h=>by
  rw[Rw,List.getElem?_append,Uj];by_cases hi:i<m
  ·rw[AAS hi];exact eD ds m i hi
  grind
theorem XQ{ds:By}{m i:Nat}(h:i<(Rw ds m).length):(Rw ds m)[i]=(((i+1:Nat):Int),ds.getD i 0, -1,false,0):=by have:=eD ds m i (by rw[Uj]at h;exact h);grind
theorem kf{c:By}{i:Nat}(hi:i<(Pu c).length):QN c ((Pu c).getD i 0)=true:=by rw[show(Pu c).getD i 0=(Pu c)[i] by simp[hi]];obtain⟨j,h1,h2,h3⟩:=XT (ABR hi);rw[h1];unfold QN P5;grind
theorem qe(c:By):CW c (Rw (Pu c) (min (Pu c).length 20)):=by
 have key:∀r∈Rw (Pu c) (min (Pu c).length 20),∃i:Nat,i<(Pu c).length/\i<20/\r=(((i+1:Nat):Int),(Pu c).getD i 0, -1,false,0):=by intro r hr;obtain⟨i,hi,rfl⟩:=ABU.1 hr;have hi2:=hi;rw[Uj]at hi2;exact⟨i,J,J,XQ hi⟩
 have hpw:=bQ c 4 c.length;refine⟨by rw[Uj];omega,λr hr=>?_,λr hr=>?_,λr hr=>?_,λr hr=>?_,?_,?_⟩
 ·grind
 ·obtain⟨i,h1,h2,rfl⟩:=key r hr;exact kf h1
 ·grind
 ·grind
 ·refine ABM.2 λi j hi hj hij=>?_;rw[XQ hi,XQ hj];omega
 ·refine ABM.2 λi j hi hj hij=>?_;have hi2:=hi;have hj2:=hj;rw[Uj]at hi2 hj2;have hdi:i<(Pu c).length:=J
  have hdj:j<(Pu c).length:=J
  rw[XQ hi,XQ hj];show(Pu c).getD i 0≠(Pu c).getD j 0;have:(Pu c)[i]<(Pu c)[j]:=ABM.1 hpw i j hdi hdj hij;grind
theorem ZW{w h:Int}{c:By}{a:Is}(hok:ZV w h c a=true):PW w h c=true/\Pq a=true/\(∀p∈a,∀s∈p.2.2,s.2.2<=0)/\∀p∈a,P5 p.2.1 0 ((c.length:Int)-1)=true/\c.getD p.2.1.toNat 0=2:=by
 unfold ZV at hok;simp only[AAN,AAZ,AAb]at hok;obtain⟨⟨⟨h1,h2⟩,h3⟩,h4⟩:=hok;refine⟨h1,h2,λp hp s hs=>?_,λp hp=>?_⟩
 ·obtain⟨i,hi,rfl⟩:=ABU.1 hp;obtain⟨k,hk,rfl⟩:=ABU.1 hs;have:=h3 i hi;unfold Yk at this;rw[AAM hi]at this;have:=AAZ.1 this k (AAb.2 hk);grind
 ·obtain⟨i,hi,rfl⟩:=ABU.1 hp;have:=h4 i hi;unfold aJ at this;grind
theorem fT(a:Is){j:Nat}(hj:j<=50):(Ru a 50)[j]?=some (bif decide (1<=j)then Sy a (j:Int)else 0):=by rw[cu a 50 J j hj,ABV (show j<=50 from hj),AB7]
structure rO(nx:Int)(l:ADP):Prop where
 sm:QT (nx,l)
 len:l.length<=29
 RM:iO l
 dN:Wp nx l->∀o∈l,o.2.2.2.1.length<=72
theorem rO.both{nx:Int}{l:ADP}(h:rO nx l)(n:Nat)(hn:PE<=n):∃b,Qr n nx l=some b/\Q4 n nx l=some b/\(b=true↔Wp nx l):=by
 obtain⟨b1,e1,i1⟩:=ZA h.sm h.RM n hn;obtain⟨b2,e2,i2⟩:=Wk h.sm n hn
 have:b1=b2:=by rw[ABy,i1,i2];exact⟨λq=>q.1,λq=>⟨q,h.dN q⟩⟩
 grind
abbrev xS:=Is×Int×ADP×Int
structure cY(s:Is)(nx:Int)(l:ADP)(desk:Int)(it:ADR)(o:OF):Prop where
 st:PF s
 im:Xu it
 ne:0<it.length
 dk:0<=desk/\desk<=99
 bk:Wp nx l
 lt:nx<1000000
 fit:Fits s o
 pg:PG o it
 dN:o.length<=72
def uW(s:Is)(nx:Int)(l:ADP)(desk:Int)(it:ADR)(o:OF):xS:=(Pj s (tp o),nx+1,l++[(nx,desk,it,o,1)],nx)
def ug(s:Is)(nx:Int)(l:ADP)(desk:Int)(it:ADR)(r:xS):Prop:=r=(s,nx,l,0)\/∃o,cY s nx l desk it o/\r=uW s nx l desk it o
theorem cF(s:Is)(hs:Pb s){nx:Int}{l:ADP}(hq:rO nx l)(desk:Int)(it:ADR)(hit:it.length<=1000)(n:Nat)(hn:PE<=n)(b:Bool)(eb:Qr n nx l=some b)(o:OF)(pb:Bool)(ep:TN n s it=some (o,pb)):
  TM n s nx l desk it=some (bif Pq s&&b&&P5 desk 0 99 && !((it.length:Int)==0) && !(nx==1000000)&&pb then((Qc WS s o).1,O5 (nx+1),l++[(nx,desk,it,o,1)],nx)else(s,nx,l,0))\/1048576<o.length:=by
 by_cases ho:1048576<o.length
 ·exact .inr ho
 left;have h29:=hq.len;unfold TM;rw[Sh nx l hq.sm n hn,ABP,P2 s hs n hn,eb];simp only[ABP,QO,PQ s hs n hn,ep];rw[show((l.length:Int)==30)=false by rw[ABW];clear hn;omega];have h1:decide (([]:ADR).length+it.length<=E7)=true:=Um No;have h2:decide (l.length+1<=E7)=true:=Rr J;cases Pq s with
 |false=>rfl
 |true=>
 cases b with
 |false=>rfl
 |true=>
 cases P5 desk 0 99 with
 |false=>rfl
 |true=>
 cases((it.length:Int)==0)with
 |true=>rfl
 |false=>
 cases(nx==1000000)with
 |true=>rfl
 |false=>
 cases pb with
 |false=>rfl
 |true=>
  simp only[ABX,ABp,ABS,ABQ,ABP,ACC,ABY,h1,h2,AA1];rw[cJ s hs o J n hn];rfl
theorem bW(s:Is)(hs:Pb s){nx:Int}{l:ADP}(hq:rO nx l)(desk:Int)(it:ADR)(hit:it.length<=1000)(n:Nat)(hn:PE<=n)(b:Bool)(eb:Q4 n nx l=some b)(o:OF)(ho:o.length<=1048576)(pb:Bool)(ep:Uk n s it=some (o,pb)):
  Us n s nx l desk it=some (bif Pq s&&b&&P5 desk 0 99 && !((it.length:Int)==0)&&Vn it && !(decide (nx>=1000000))&&(pb&&(Qc WS s o).2)then((Qc WS s o).1,O5 (nx+1),l++[(nx,desk,it,o,1)],nx)else(s,nx,l,0)):=by
 have h29:=hq.len;unfold Us;rw[QH s hs n hn,eb];simp only[ABP,Ut,QO,Pn s hs n hn,Th nx l hq.sm n hn,ep,YV s hs o ho n hn,Ry it (show it.length<=1048576 by omega) n hn];rw[show decide ((l.length:Int)>=30)=false by rw[AAr];clear hn;omega];have h1:decide (it.length<=E7)=true:=Um J;have h2:decide (l.length+1<=E7)=true:=Rr J;unfold QR;simp only[h1,ABY,h2,ABQ,ABP];cases Pq s with
 |false=>rfl
 |true=>
 grind
theorem jS(s:Is)(hs:Pb s){nx:Int}{l:ADP}(hq:rO nx l)(desk:Int)(it:ADR)(hit:it.length<=1000)(n:Nat)(hn:PE<=n):∃r,TM n s nx l desk it=some r/\Us n s nx l desk it=some r/\ug s nx l desk it r:=by
 obtain⟨b,eb1,eb2,hb⟩:=hq.both n hn;obtain⟨o,pb,ep1,ep2,hp1,hp2⟩:=mN s hs it J n hn
 have ho:o.length<=72:=by
  cases pb with
  |true=>grind
  |false=>grind
 have e1:=(cF s hs hq desk it hit n hn b eb1 o pb ep1).resolve_right J;have e2:=bW s hs hq desk it hit n hn b eb2 o J pb ep2;cases pb with
 |false=>
  refine⟨(s,nx,l,0),?_,?_,.inl rfl⟩
  all_goals grind
 |true=>
  obtain⟨hS,hI,hpg,hft,_⟩:=hp1 rfl;have hH:=gp hS hft;rw[hH.1]at e1 e2;rw[Vo.2 hI]at e2;by_cases hB:Wp nx l
  ·have hnx:=hB.1;rw[hb.2 hB]at e1 e2
   have zp:(!(nx==1000000)) = !(decide (nx>=1000000)):=by
    by_cases h:nx=1000000
    ·rw[h];rfl
    ·grind
   rw[zp]at e1;by_cases hok:(P5 desk 0 99 && !((it.length:Int)==0) && !(decide (nx>=1000000)))=true
   ·have hfull:(Pq s&&true&&P5 desk 0 99 && !((it.length:Int)==0) && !(decide (nx>=1000000))&&true)=true:=by rw[Pp.2 hS];simp only[AB7,ABw];exact hok
    have hfull2:(Pq s&&true&&P5 desk 0 99 && !((it.length:Int)==0)&&true && !(decide (nx>=1000000))&&(true&&true))=true:=by rw[Pp.2 hS];simp only[AB7,ABw];exact hok
    rw[hfull,ABQ]at e1;dsimp only at e2;rw[hfull2,ABQ]at e2;simp only[AAN,AAa,ABW,AAr]at hok
    have hdk:0<=desk/\desk<=99:=by have:=hok.1.1;unfold P5 at this;simp only[AAN,AAj]at this;exact this
    have hw:O5 (nx+1)=nx+1:=PA J J;rw[hw]at e1 e2;exact⟨_,e1,e2,.inr ⟨o,⟨hS,hI,J,hdk,hB,J,hft,hpg,ho⟩,rfl⟩⟩
   ·have hno:(Pq s&&true&&P5 desk 0 99 && !((it.length:Int)==0) && !(decide (nx>=1000000))&&true)=false:=by rw[<-ABr,Pp.2 hS];simp only[AB7,ABw];exact hok
    have hno2:(Pq s&&true&&P5 desk 0 99 && !((it.length:Int)==0)&&true && !(decide (nx>=1000000))&&(true&&true))=false:=by rw[<-ABr,Pp.2 hS];simp only[AB7,ABw];exact hok
    rw[hno,ABS]at e1;dsimp only at e2;rw[hno2,ABS]at e2;exact⟨_,e1,e2,.inl rfl⟩
  ·have hbf:b=false:=by
    cases b with
    |true=>grind
    |false=>rfl
   rw[hbf,Bool.and_false,AB3,AB3,AB3,AB3,ABS]at e1;rw[hbf,Bool.and_false,AB3,AB3,AB3,AB3,AB3,ABS]at e2;exact⟨_,e1,e2,.inl rfl⟩
theorem cY.book{s:Is}{nx:Int}{l:ADP}{desk:Int}{it:ADR}{o:OF}(h:cY s nx l desk it o)(h29:l.length<=29):Wp (nx+1) (l++[(nx,desk,it,o,1)]):=by
 have hb:=h.bk;have zj:=h.lt;refine⟨⟨by have:=hb.1;omega,J⟩,No,?_,λq hq=>?_⟩
 ·refine ABq.2 ⟨hb.2.2.1,List.pairwise_singleton _ _,λx hx y hy=>?_⟩;rw[ABa.1 hy];have:=(hb.2.2.2 x hx).1;omega
 ·rcases ABI.1 hq with hq|hq
  ·obtain⟨⟨q1,q2⟩,q3⟩:=hb.2.2.2 q hq;exact⟨⟨q1,J⟩,q3⟩
  ·rw[ABa.1 hq];exact⟨⟨by show 1<=nx;have:=hb.1;omega,J⟩,h.dk,⟨h.im,h.ne⟩,h.pg,⟨No,No⟩⟩
theorem kG{nx m:Int}{l:ADP}(h:QT (nx,l))(hl:l.length<=1000)(x:PS)(hi:x.2.2.1.length<=1000)(hp:x.2.2.2.1.length<=1000):QT (m,l++[x]):=by
 refine⟨No,λo ho=>?_⟩;rcases ABI.1 ho with ho|ho
 ·exact h.2 o ho
 ·rw[ABa.1 ho];exact⟨by show x.2.2.1.length<=_;omega,by show x.2.2.2.1.length<=_;omega⟩
def P0(l:ADP)(id:Int):Option PS:=l.find? λo=>o.1==id
theorem ADy{p:Prop}(h:p:=by unfold P0 at ho;grind):p:=h
def Se(crew:ADQ)(id:Int):Option PR:=crew.find? λr=>r.1==id
def Sz(a:Is)(l:ADP)(t:PH):Int:=if t.2.2.2=3 then(match P0 l t.1 with|some o=>o.2.1|none=>0)else(match X3 a t.2.1 with|some p=>p.2.1|none=>0)
structure T5(a:Is)(l:ADP)(crew:ADQ)(t:PH):Prop where
 ord:∃o,P0 l t.1=some o/\o.2.2.2.2=1/\∃p∈o.2.2.2.1,p.1=t.2.1
 PB:∃q,X3 a t.2.1=some q
 fH:t.2.2.2≠1->∃r,Se crew t.2.2.1=some r/\r.2.2.1=Sz a l t/\r.2.2.2.1=decide (2<t.2.2.2)
structure DI(w h:Int)(c:By)(a:Is)(nx:Int)(l:ADP)(crew:ADQ)(ts:AAL):Prop where
 fl:PW w h c=true
 st:PF a
 hm:∀p∈a,QN c p.2.1=true
 bk:Wp nx l
 LG:iO l
 dN:∀o∈l,o.2.2.2.1.length<=72
 dk:∀o∈l,QN c o.2.1=true
 cw:CW c crew
 Vg:TP ts
 tk:∀t∈ts,T5 a l crew t
structure DW(w h:Int)(c:By)(a:Is)(l:ADP)(crew:ADQ)(ts:AAL):Prop where
 fl:PW w h c=true
 st:PF a
 cw:CW c crew
 Vg:TP ts
 tk:∀t∈ts,T5 a l crew t
theorem DI.dw{w h:Int}{c:By}{a:Is}{nx:Int}{l:ADP}{crew:ADQ}{ts:AAL}(d:DI w h c a nx l crew ts):DW w h c a l crew ts:=⟨d.fl,d.st,d.cw,d.Vg,d.tk⟩
def XS(a b:Is):Prop:=∀id,(X3 b id).map (·.2.1)=(X3 a id).map (·.2.1)
theorem XS.goal{a b:Is}(h:XS a b){l k:ADP}{t:PH}(ho:P0 k t.1=P0 l t.1):Sz b k t=Sz a l t:=by
 unfold Sz;rw[ho];split
 ·rfl
 ·have:=h t.2.1;grind
theorem T5.same{a b:Is}(h:XS a b){l k:ADP}{crew:ADQ}{t:PH}(ho:P0 k t.1=P0 l t.1)(ht:T5 a l crew t):T5 b k crew t:=by
 refine⟨by rw[ho];exact ht.ord,?_,λe=>?_⟩
 ·obtain⟨q,hq⟩:=ht.PB;have:=h t.2.1;rw[hq]at this;cases e1:X3 b t.2.1 with
  |none=>grind
  |some q2=>grind
 ·rw[h.goal ho];exact ht.fH e
theorem ow(a:Is)(f:Int->Int->Int):XS a (Pj a f):=by intro id;unfold X3 Pj;rw[ACH,Option.map_map];rfl
theorem hZ{l:ADP}{id:Int}{o:PS}(h:P0 l id=some o)(x:PS):P0 (l++[x]) id=P0 l id:=by unfold P0 at h ⊢;grind
theorem ew{l:ADP}{x:PS}(h:∀o∈l,o.1<x.1):P0 (l++[x]) x.1=some x:=by unfold P0;grind
theorem QB{l:ADP}{id:Int}{o:PS}(h:P0 l id=some o):o∈l/\o.1=id:=⟨ABm h,by simpa using ACJ h⟩
theorem Su{a:Is}{id:Int}{p:PD}(h:X3 a id=some p):p∈a/\p.1=id:=⟨ABm h,by simpa using ACJ h⟩
theorem Yw{a:Is}{id:Int}(h:∃p∈a,p.1=id):∃q,X3 a id=some q:=by
 obtain⟨p,hp,e⟩:=h;unfold X3;cases hq:a.find? λp=>p.1==id with
 |some q=>grind
 |none=>
  grind
theorem iz:∀(ps:OF)(s:By),s.Nodup->(ps.foldl WZ s).Nodup/\∀x,x∈ps.foldl WZ s↔x∈s\/∃p∈ps,p.1=x
 | [],s,hs=>⟨hs,λx=>AAA⟩
 |p::ps,s,hs=>by
  have hn:(WZ s p).Nodup/\∀x,x∈WZ s p↔x∈s\/p.1=x:=by
   unfold WZ;cases ha:s.any λy=>y==p.1 with
   |true=>
    rw[ABQ];obtain⟨y,hy,e⟩:=AA5.1 ha;have e:=AAX.1 e
    exact⟨hs,λx=>⟨λh=>.inl h,λh=>by
     rcases h with h|h
     ·exact h
     ·rw[<-h,<-e];exact hy⟩⟩
   |false=>
    rw[ABS]
    have hno:p.1∉s:=λhm=>by rw[<-ABr]at ha;exact ha (AA5.2 ⟨p.1,hm,ABu _⟩)
    refine⟨AAc.2 ⟨hs,AAA,λx hx y hy e=>?_⟩,λx=>?_⟩
    ·rw[ABa.1 hy]at e;exact hno (e▸hx)
    ·rw[ABI,ABa];exact⟨λh=>h.imp id λe=>e.symm,λh=>h.imp id λe=>e.symm⟩
  obtain⟨i1,i2⟩:=iz ps (WZ s p) hn.1;grind
theorem TL{ps:OF}{x:Int}:x∈RM ps↔∃p∈ps,p.1=x:=by have:=(iz ps [] AAW).2 x;unfold RM;grind
theorem fE(ps:OF):(RM ps).Nodup:=(iz ps [] AAW).1
theorem QL{l:AAL}:TP l↔l.length<=60/\(∀x∈l,P7 x=true)/\l.Pairwise λu x=>Pg x u=false:=by
 constructor
 ·intro h
  exact⟨h.len,λx hx=>by
   obtain⟨i,hi,rfl⟩:=ABU.1 hx;exact h.qk i hi,ABM.2 λi j hi hj hij=>h.apart j i hj hij⟩
 ·rintro ⟨h1,h2,h3⟩
  exact⟨h1,λi hi=>h2 _ (ABR hi),λi j hi hj=>ABM.1 h3 j i J hi hj⟩
theorem dy{x u:PH}(hx:x.2.2.2=1)(h:x.1≠u.1\/x.2.1≠u.2.1):Pg x u=false:=by unfold Pg;grind
theorem DI.take{w h:Int}{c:By}{a:Is}{nx:Int}{l:ADP}{crew:ADQ}{ts:AAL}(d:DI w h c a nx l crew ts){desk:Int}{it:ADR}{o:OF}(T:cY a nx l desk it o)(hdk:QN c desk=true)(h29:l.length<=29)(hlen:ts.length+(RM o).length<=60):
  DI w h c (Pj a (tp o)) (nx+1) (l++[(nx,desk,it,o,1)]) crew (ts++(RM o).map λx=>(nx,x,(0:Int),(1:Int))):=by
 have hnx:=T.bk.1;have zj:=T.lt;have hids:∀y∈l,y.1<nx:=λy hy=>by have:=(T.bk.2.2.2 y hy).1;omega
 have hpo:∀p∈o,1<=p.1/\p.1<=999:=λp hp=>by obtain⟨_,_,i,hi,e⟩:=T.fit.each p hp;have:=(T.st.2.2 _ (ABR hi)).1;omega
 refine {fl:=d.fl,st:=(gp T.st T.fit).2,hm:=λp hp=>?_,bk:=T.book h29,LG:=λq hq=>?_,dN:=λq hq=>?_,dk:=λq hq=>?_,cw:=d.cw,Vg:=?_,tk:=λt ht=>?_ }
 ·unfold Pj at hp;obtain⟨q,hq,rfl⟩:=AAw.1 hp;exact d.hm q hq
 ·rcases ABI.1 hq with hq|hq
  ·exact d.LG q hq
  grind
 ·rcases ABI.1 hq with hq|hq
  ·exact d.dN q hq
  ·rw[ABa.1 hq];exact T.dN
 ·rcases ABI.1 hq with hq|hq
  ·exact d.dk q hq
  grind
 ·obtain⟨t1,t2,t3⟩:=QL.1 d.Vg;refine QL.2 ⟨No,λx hx=>?_,ABq.2 ⟨t3,?_,λu hu x hx=>?_⟩⟩
  ·rcases ABI.1 hx with hx|hx
   ·exact t2 x hx
   ·obtain⟨y,hy,rfl⟩:=AAw.1 hx;obtain⟨p,hp,e⟩:=TL.1 hy;have:=hpo p hp;rw[e]at this;unfold P7;grind
  ·rw[ABk];exact(fE o).imp fun {x y} zp=>dy rfl (.inr λe=>zp e.symm)
  ·obtain⟨y,hy,rfl⟩:=AAw.1 hx;refine dy rfl (.inl ?_);obtain⟨oo,ho,_⟩:=(d.tk u hu).ord;obtain⟨hm,e⟩:=QB ho;grind
 ·rcases ABI.1 ht with ht|ht
  ·have hd:=d.tk t ht;obtain⟨oo,ho,_⟩:=hd.ord;exact hd.same (ow a (tp o)) (hZ ho _)
  ·obtain⟨y,hy,rfl⟩:=AAw.1 ht;obtain⟨p,hp,e⟩:=TL.1 hy;refine⟨⟨_,ew (x:=(nx,desk,it,o,1)) hids,rfl,p,hp,e⟩,?_,λe=>(e rfl).elim⟩;obtain⟨_,_,i,hi,e2⟩:=T.fit.each p hp;refine Yw ⟨jR (tp o) a[i],?_,e2.trans e⟩;unfold Pj;grind
def Vf(crew:ADQ)(id:Int)(f:PR->PR):ADQ:=crew.map λr=>bif r.1==id then f r else r
theorem bN(crew:ADQ)(id:Int)(f:PR->PR):(Vf crew id f).length=crew.length:=by unfold Vf;grind
theorem Pk{crew:ADQ}{id:Int}{r:PR}(h:Se crew id=some r):r∈crew/\r.1=id:=⟨ABm h,by simpa using ACJ h⟩
theorem kB{crew:ADQ}(h:crew.Pairwise λr s=>r.1<s.1){r s:PR}(hr:r∈crew)(hs:s∈crew)(e:r.1=s.1):r=s:=by
 obtain⟨i,hi,rfl⟩:=ABU.1 hr;obtain⟨j,hj,rfl⟩:=ABU.1 hs;rcases ABe i j with hl|hl|hl
 ·have:=ABM.1 h i j hi hj hl;omega
 ·subst hl;rfl
 ·have:=ABM.1 h j i hj hi hl;omega
theorem Zs{crew:ADQ}{id:Int}{f:PR->PR}(hf:∀r,(f r).1=r.1)(k:Int):Se (Vf crew id f) k=(Se crew k).map λr=>bif r.1==id then f r else r:=by
 unfold Se Vf;rw[ACH]
 have:((λr:PR=>r.1==k) ∘ λr:PR=>bif r.1==id then f r else r)=λr:PR=>r.1==k:=funext λr=>No
 rw[this]
theorem CW.DL{c:By}{crew:ADQ}(h:CW c crew){id:Int}{f:PR->PR}(hf:∀r,(f r).1=r.1/\(f r).2.1=r.2.1)(hg:∀r∈crew,r.1=id->((f r).2.2.1 = -1\/QN c (f r).2.2.1=true)/\0<=(f r).2.2.2.2/\(f r).2.2.2.2<=1000000):CW c (Vf crew id f):=by
 have key:∀r,(bif r.1==id then f r else r:PR).1=r.1/\(bif r.1==id then f r else r:PR).2.1=r.2.1:=λr=>No
 have mem:∀s∈Vf crew id f,∃r∈crew,s=(bif r.1==id then f r else r:PR):=λs hs=>by unfold Vf at hs;obtain⟨r,hr,e⟩:=AAw.1 hs;grind
 refine⟨by rw[bN];exact h.n20,λs hs=>?_,λs hs=>?_,λs hs=>?_,λs hs=>?_,?_,?_⟩
 ·obtain⟨r,hr,rfl⟩:=mem s hs;rw[(key r).1];exact h.qt r hr
 ·obtain⟨r,hr,rfl⟩:=mem s hs;rw[(key r).2];exact h.nM r hr
 ·obtain⟨r,hr,rfl⟩:=mem s hs;by_cases e:r.1=id
  ·grind
  ·rw[show(r.1==id)=false from ABW.2 e];exact h.goal r hr
 ·obtain⟨r,hr,rfl⟩:=mem s hs;by_cases e:r.1=id
  ·grind
  ·rw[show(r.1==id)=false from ABW.2 e];exact h.qZ r hr
 ·unfold Vf;rw[ABk];exact h.ids.imp fun {r s} hrs=>No
 ·unfold Vf;rw[ABk];exact h.fv.imp fun {r s} hrs=>No
theorem gb{x u:PH}(h:Pg x u=false)(hx:x.2.2.2≠1):x.2.2.1≠u.2.2.1:=λe=>by unfold Pg at h;grind
theorem cZ{t:PH}{s:Int}(ht:t.2.2.2≠1)(hs:s≠1)(u:PH):Pg (t.1,t.2.1,t.2.2.1,s) u=Pg t u/\Pg u (t.1,t.2.1,t.2.2.1,s)=Pg u t:=by unfold Pg;grind
theorem km{t:PH}{s:Int}(h:P7 t=true)(ht:t.2.2.2≠1)(hs:2<=s/\s<=4):P7 (t.1,t.2.1,t.2.2.1,s)=true:=by unfold P7 at h ⊢;grind
theorem TP.qU{x y:AAL}{t:PH}(h:TP (x++t::y))(ht:t.2.2.2≠1){s:Int}(hs:2<=s/\s<=4):TP (x++(t.1,t.2.1,t.2.2.1,s)::y):=by
 obtain⟨t1,t2,t3⟩:=QL.1 h;obtain⟨p1,p2,p3⟩:=ABq.1 t3;obtain⟨p4,p5⟩:=ABn.1 p2;have hs1:s≠1:=J
 refine QL.2 ⟨No,λu hu=>?_,ABq.2 ⟨p1,ABn.2 ⟨λu hu=>?_,p5⟩,λu hu v hv=>?_⟩⟩
 ·rcases ABI.1 hu with hu|hu
  ·grind
  ·rcases AAi.1 hu with rfl|hu
   ·exact km (t2 t (AAV _ AAo)) ht hs
   grind
 ·rw[(cZ ht hs1 u).2];exact p4 u hu
 ·rcases AAi.1 hv with rfl|hv
  ·rw[(cZ ht hs1 u).1];exact p3 u hu t AAo
  grind
theorem TP.sub{x y:AAL}(h:TP y)(hs:x.Sublist y):TP x:=by obtain⟨t1,t2,t3⟩:=QL.1 h;exact QL.2 ⟨AA2 hs.length_le t1,λu hu=>t2 u (hs.subset hu),t3.sublist hs⟩
theorem TP.two{x y:AAL}{t:PH}(h:TP (x++t::y))(ht:t.2.2.2≠1){u:PH}(hu:u∈x\/u∈y)(hu1:u.2.2.2≠1):u.2.2.1≠t.2.2.1:=by
 obtain⟨_,_,t3⟩:=QL.1 h;obtain⟨p1,p2,p3⟩:=ABq.1 t3;obtain⟨p4,p5⟩:=ABn.1 p2;rcases hu with hu|hu
 ·exactλe=>gb (p3 u hu t AAo) ht e.symm
 ·exact gb (p4 u hu) hu1
theorem T5.other{a b:Is}(hsp:XS a b){l:ADP}{crew:ADQ}{u:PH}(h:T5 a l crew u){id:Int}{f:PR->PR}(hf:∀r,(f r).1=r.1)(zp:u.2.2.2≠1->u.2.2.1≠id):T5 b l (Vf crew id f) u:=by have h2:=h.same hsp (k:=l) rfl;refine⟨h2.ord,h2.PB,λe=>?_⟩;obtain⟨r,q1,q2⟩:=h2.fH e;refine⟨r,?_,q2⟩;rw[Zs hf,q1,AA7,show(r.1==id)=false from ABW.2 λe2=>zp e ((Pk q1).2.symm.trans e2),ABS]
theorem DI.n7{w h:Int}{c:By}{a:Is}{nx:Int}{l:ADP}{crew:ADQ}{x y:AAL}{t:PH}(d:DI w h c a nx l crew (x++t::y))(ht:t.2.2.2≠1){b:Is}(hb:PF b)(hsp:XS a b)(hbm:∀p∈b,QN c p.2.1=true){s:Int}(hs:2<=s/\s<=4){f:PR->PR}(hf:∀r,(f r).1=r.1/\(f r).2.1=r.2.1)
  (hfr:∀r,Se crew t.2.2.1=some r->(f r).2.2.1=Sz b l (t.1,t.2.1,t.2.2.1,s)/\(f r).2.2.2.1=decide (2<s)/\0<=(f r).2.2.2.2/\(f r).2.2.2.2<=1000000):DI w h c b nx l (Vf crew t.2.2.1 f) (x++(t.1,t.2.1,t.2.2.1,s)::y):=by
 have hT:=d.tk t (AAV _ AAo);obtain⟨o,ho,hst,hpk⟩:=hT.ord;obtain⟨r0,hr0,_,_⟩:=hT.fH ht;obtain⟨q,hq⟩:=(hT.same hsp (k:=l) rfl).PB
 have hgoal:QN c (Sz b l (t.1,t.2.1,t.2.2.1,s))=true:=by
  unfold Sz;dsimp only;split
  ·rw[ho];exact d.dk o (QB ho).1
  ·rw[hq];exact hbm q (Su hq).1
 refine {fl:=d.fl,st:=hb,hm:=hbm,bk:=d.bk,LG:=d.LG,dN:=d.dN,dk:=d.dk,cw:=d.cw.DL hf λr hr e=>?_,Vg:=d.Vg.qU ht hs,tk:=λu hu=>?_ }
 ·have hrr:r=r0:=kB d.cw.ids hr (Pk hr0).1 (e.trans (Pk hr0).2.symm);grind
 ·have hoth:∀u,u∈x\/u∈y->T5 b l (Vf crew t.2.2.1 f) u:=λu hu=>(d.tk u (by
   grind)).other hsp (λr=>(hf r).1) λe=>d.Vg.two ht hu e
  rcases ABI.1 hu with hu|hu
  ·grind
  ·rcases AAi.1 hu with rfl|hu
   ·refine⟨⟨o,ho,hst,hpk⟩,⟨q,hq⟩,λ_=>⟨f r0,?_,(hfr r0 hr0).1,(hfr r0 hr0).2.1⟩⟩;rw[Zs λr=>(hf r).1];show(Se crew t.2.2.1).map _=_;rw[hr0,AA7,show(r0.1==t.2.2.1)=true from AAX.2 (Pk hr0).2,ABQ]
   grind
theorem DI.gone{w h:Int}{c:By}{a:Is}{nx:Int}{l:ADP}{crew:ADQ}{x y:AAL}{t:PH}(d:DI w h c a nx l crew (x++t::y))(ht:t.2.2.2≠1){f:PR->PR}(hf:∀r,(f r).1=r.1/\(f r).2.1=r.2.1)(hfr:∀r,(f r).2.2.1 = -1/\0<=(f r).2.2.2.2/\(f r).2.2.2.2<=1000000):DI w h c a nx l (Vf crew t.2.2.1 f) (x++y):=by
 refine {fl:=d.fl,st:=d.st,hm:=d.hm,bk:=d.bk,LG:=d.LG,dN:=d.dN,dk:=d.dk,cw:=d.cw.DL hf λr hr e=>⟨.inl (hfr r).1,(hfr r).2⟩,Vg:=d.Vg.sub ((List.Sublist.refl x).append (List.sublist_cons_self t y)),tk:=λu hu=>?_ };have hu2:=ABI.1 hu
 exact(d.tk u (by
  grind)).other (λ_=>rfl) (λr=>(hf r).1) λe=>d.Vg.two ht hu2 e
def QA(l:ADP)(id st:Int):ADP:=l.map λo=>bif o.1==id then(o.1,o.2.1,o.2.2.1,o.2.2.2.1,st)else o
theorem fB(l:ADP)(id st k:Int)(hk:k≠id):P0 (QA l id st) k=P0 l k:=by
 unfold P0 QA;rw[ACH]
 have:((λo:PS=>o.1==k) ∘ λo:PS=>bif o.1==id then(o.1,o.2.1,o.2.2.1,o.2.2.2.1,st)else o)=λo:PS=>o.1==k:=funext λo=>No
 rw[this];cases h:l.find? λo=>o.1==k with
 |none=>rfl
 |some o=>
  grind
theorem DI.Dg{w h:Int}{c:By}{a:Is}{nx:Int}{l:ADP}{crew:ADQ}{ts:AAL}(d:DI w h c a nx l crew ts){b:Is}(hb:PF b)(hsp:XS a b)(hbm:∀p∈b,QN c p.2.1=true){id st:Int}(hst:1<=st/\st<=3){us:AAL}(hsub:us.Sublist ts)(hno:∀t∈us,t.1≠id):DI w h c b nx (QA l id st) crew us:=by
 have mem:∀q∈QA l id st,∃o∈l,q=(bif o.1==id then(o.1,o.2.1,o.2.2.1,o.2.2.2.1,st)else o:PS):=λq hq=>by unfold QA at hq;grind
 have key:∀o:PS,(bif o.1==id then(o.1,o.2.1,o.2.2.1,o.2.2.2.1,st)else o:PS).1=o.1/\(bif o.1==id then(o.1,o.2.1,o.2.2.1,o.2.2.2.1,st)else o:PS).2.1=o.2.1/\(bif o.1==id then(o.1,o.2.1,o.2.2.1,o.2.2.2.1,st)else o:PS).2.2.1=o.2.2.1/\(bif o.1==id then(o.1,o.2.1,o.2.2.1,o.2.2.2.1,st)else o:PS).2.2.2.1=o.2.2.2.1:=λo=>No
 obtain⟨b1,b2,b3,b4⟩:=d.bk;refine {fl:=d.fl,st:=hb,hm:=hbm,bk:=⟨b1,by unfold QA;grind,?_,λq hq=>?_⟩,LG:=λq hq=>?_,dN:=λq hq=>?_,dk:=λq hq=>?_,cw:=d.cw,Vg:=d.Vg.sub hsub,tk:=λt ht=>(d.tk t (hsub.subset ht)).same hsp (fB l id st t.1 (hno t ht)) }
 ·unfold QA;rw[ABk];exact b3.imp fun {x y} hxy=>No
 ·obtain⟨o,ho,rfl⟩:=mem q hq;obtain⟨k1,k2,k3,k4⟩:=key o;obtain⟨g1,g2,g3,g4,g5⟩:=b4 o ho;unfold kU;rw[k1,k2,k3,k4];refine⟨g1,g2,g3,g4,?_⟩;cases(o.1==id)
  all_goals grind
 ·obtain⟨o,ho,rfl⟩:=mem q hq;rw[(key o).2.2.2];exact d.LG o ho
 ·obtain⟨o,ho,rfl⟩:=mem q hq;rw[(key o).2.2.2];exact d.dN o ho
 ·obtain⟨o,ho,rfl⟩:=mem q hq;rw[(key o).2.1];exact d.dk o ho
theorem DI.uR{w h:Int}{c:By}{a:Is}{nx:Int}{l:ADP}{crew:ADQ}{ts:AAL}(d:DI w h c a nx l crew ts){b:Is}(hb:PF b)(hsp:XS a b)(hbm:∀p∈b,QN c p.2.1=true):DI w h c b nx l crew ts:=
 { d with st:=hb,hm:=hbm,tk:=λt ht=>(d.tk t ht).same hsp rfl }
theorem DW.step{w h:Int}{c:By}{a:Is}{l:ADP}{crew:ADQ}{ts:AAL}(d:DW w h c a l crew ts){AAH:ADQ}(hc:CW c AAH)(hs:∀id,(Se AAH id).map (λr=>(r.2.2.1,r.2.2.2.1))=(Se crew id).map (λr=>(r.2.2.1,r.2.2.2.1))):DW w h c a l AAH ts:=
 have key:∀t∈ts,T5 a l AAH t:=λt ht=>by
  have hT:=d.tk t ht;refine⟨hT.ord,hT.PB,λe=>?_⟩;obtain⟨r,q1,q2,q3⟩:=hT.fH e;have:=hs t.2.2.1;rw[q1]at this;cases e1:Se AAH t.2.2.1 with
  |none=>grind
  |some r'=>
   grind
 { d with cw:=hc,tk:=key }
theorem mn{α β:Type}{f:α->β}{l:List α}(h:(l.map f).Nodup){x y:α}(hx:x∈l)(hy:y∈l)(e:f x=f y):x=y:=by
 obtain⟨i,hi,rfl⟩:=ABU.1 hx;obtain⟨j,hj,rfl⟩:=ABU.1 hy;have hp:=ABk.1 h;rcases ABe i j with hl|hl|hl
 ·exact(ABM.1 hp i j hi hj hl e).elim
 ·subst hl;rfl
 ·exact(ABM.1 hp j i hj hi hl e.symm).elim
theorem Xh{crew:ADQ}(h:crew.Pairwise λr s=>r.1<s.1){k:Nat}(hk:k<crew.length):Se crew crew[k].1=some crew[k]:=by
 cases hq:Se crew crew[k].1 with
 |none=>
  unfold Se at hq;have:=ACA.1 hq _ (ABR hk);simp at this
 |some r=>rw[kB h (Pk hq).1 (ABR hk) (Pk hq).2]
theorem bU{a:Is}(ha:PF a){l:ADP}{t:PH}(h3:t.2.2.2≠3){i:Nat}(hi:i<a.length)(e:a[i].1=t.2.1):Sz a l t=a[i].2.1:=by obtain⟨q,hq⟩:=Yw (a:=a) (id:=t.2.1) ⟨_,ABR hi,e⟩;have:q=a[i]:=UD ha hi (Su hq).1 ((Su hq).2.trans e.symm);unfold Sz;grind
theorem DW.fK{w h:Int}{c:By}{a:Is}{l:ADP}{crew:ADQ}{ts:AAL}(d:DW w h c a l crew ts){prs:List (Nat×Nat)}(hd:nV w h c a crew ts prs){AAH:ADQ}{ts':AAL}(hs:dD a crew ts prs AAH ts'):DW w h c a l AAH ts':=by
 have hcl:c.length<=1048576:=by have:=(Tz d.fl).le;omega
 have hal:a.length<=1048576:=by have:=d.st.1;omega
 have hcw:CW c AAH:=hs.crew hcl d.fl hd d.cw
 have key:∀t∈ts',T5 a l AAH t:=λt ht=>by
  obtain⟨i,hi',rfl⟩:=ABU.1 ht;have hi:i<ts.length:=by rw[<-hs.l2];exact hi'
  have hT:=d.tk _ (ABR hi);rcases hs.tk i hi hi' with⟨p,hp,e1,e2⟩|⟨hno,e2⟩
  ·rw[e2];obtain⟨hk,r1,r2,r3,r4,r5⟩:=hd.fH d.cw hp;have hk':p.2<AAH.length:=by rw[hs.l1];exact hk
   refine⟨hT.ord,hT.PB,λ_=>?_⟩;rcases hs.rb p.2 hk hk' with⟨p',hp',e3,e4⟩|⟨hno,_⟩
   ·have hpp:p'=p:=mn hd.n2 hp' hp e3;subst hpp;obtain⟨q1,q2,q3,j,hj,q4,q5,q6⟩:=hd.Vg hal hp';subst e1;rw[cW q1]at e4;refine⟨AAH[p'.2],?_,?_,?_⟩
    ·show Se AAH (Xs crew p'.2).1=_;rw[cB hk];have:=Xh hcw.ids hk';rw[e4]at this ⊢;exact this
    ·rw[e4];show Py a ts[p'.1].2.1=_;rw[q6];exact(bU (t:=(ts[p'.1].1,ts[p'.1].2.1,(Xs crew p'.2).1,2)) d.st (by show(2:Int)≠3;omega) hj q5).symm
    ·rw[e4];show crew[p'.2].2.2.2.1=decide ((2:Int)<2);rw[r4];rfl
   grind
  ·rw[e2];refine⟨hT.ord,hT.PB,λe=>?_⟩;obtain⟨r,g1,g2,g3⟩:=hT.fH e;obtain⟨k,hk,hr⟩:=ABU.1 (Pk g1).1;have hk':k<AAH.length:=by rw[hs.l1];exact hk
   have hid:crew[k].1=ts[i].2.2.1:=by rw[hr];exact(Pk g1).2
   rcases hs.rb k hk hk' with⟨p,hp,e3,_⟩|⟨_,e4⟩
   ·obtain⟨hk2,_,_,_,_,r5⟩:=hd.fH d.cw hp;grind
   ·have:=Xh hcw.ids hk';grind
 exact { d with cw:=hcw,Vg:=hs.tasks hal hd d.Vg d.cw,tk:=key }
theorem DI.fK{w h:Int}{c:By}{a:Is}{nx:Int}{l:ADP}{crew:ADQ}{ts:AAL}(d:DI w h c a nx l crew ts){prs:List (Nat×Nat)}(hd:nV w h c a crew ts prs){AAH:ADQ}{ts':AAL}(hs:dD a crew ts prs AAH ts'):DI w h c a nx l AAH ts':=
 { d with cw:=(d.dw.fK hd hs).cw,Vg:=(d.dw.fK hd hs).Vg,tk:=(d.dw.fK hd hs).tk }
theorem DW.np{w h:Int}{c:By}{a:Is}{l:ADP}{crew:ADQ}{ts:AAL}(d:DW w h c a l crew ts){AAH:ADQ}(hc:CW c AAH)(hl:AAH.length=crew.length)(hs:∀k (h1:k<crew.length) (h2:k<AAH.length),AAH[k].1=crew[k].1/\AAH[k].2.2.1=crew[k].2.2.1/\AAH[k].2.2.2.1=crew[k].2.2.2.1):DW w h c a l AAH ts:=by
 refine d.step hc λid=>?_;cases hq:Se crew id with
 |some r=>
  obtain⟨k,hk,hr⟩:=ABU.1 (Pk hq).1;have hk2:k<AAH.length:=by rw[hl];exact hk
  obtain⟨e1,e2,e3⟩:=hs k hk hk2;have:=Xh hc.ids hk2;rw[e1,hr,(Pk hq).2]at this;grind
 |none=>
  cases hq2:Se AAH id with
  |none=>rfl
  |some r=>
   obtain⟨k,hk,hr⟩:=ABU.1 (Pk hq2).1;have hk2:k<crew.length:=by rw[<-hl];exact hk
   obtain⟨e1,_,_⟩:=hs k hk2 hk;unfold Se at hq;have:=ACA.1 hq _ (ABR hk2);rw[<-e1,hr,(Pk hq2).2]at this;simp at this
theorem DI.np{w h:Int}{c:By}{a:Is}{nx:Int}{l:ADP}{crew:ADQ}{ts:AAL}(d:DI w h c a nx l crew ts){AAH:ADQ}(hc:CW c AAH)(hl:AAH.length=crew.length)(hs:∀k (h1:k<crew.length) (h2:k<AAH.length),AAH[k].1=crew[k].1/\AAH[k].2.2.1=crew[k].2.2.1/\AAH[k].2.2.2.1=crew[k].2.2.2.1):DI w h c a nx l AAH ts:=
 { d with cw:=hc,tk:=(d.dw.np hc hl hs).tk }
def WX(x:O0)(l:OF)(m:OF):OF:=(l.filter λy=>decide (y.1<x.1))++(m++l.filter λy=>decide (x.1<y.1))
def Ye(x:O0)(l:OF):OF:=WX x l (bif x.2.1==0 then []else [x])
theorem eh{x:O0}:∀ {l:OF},l.Pairwise (λa b=>a.1<b.1)->l.filter (λy=>y.1 != x.1)=WX x l []
 | [],_=>rfl
 |y::r,h=>by
  obtain⟨h1,h2⟩:=ABn.1 h;have ih:=eh (x:=x) h2;unfold WX at ih ⊢;rw[AA1]at ih ⊢;rw[ABv,ABv,ABv];rcases Int.lt_trichotomy y.1 x.1 with hl|hl|hl
  ·grind
  ·grind
  ·have hr:r.filter (λz=>decide (z.1<x.1))=[]:=ACL.2 λz hz=>by have:=h1 z hz;simp;omega
   grind
theorem pP{x:O0}{l:OF}(h:∀y∈l,y.1<x.1)(m:OF):WX x l m=l++m:=by unfold WX;rw[List.filter_eq_self.2 λy hy=>No,ACL.2 λy hy=>No,ABf]
theorem oH{x:O0}{l:OF}(h:∀y∈l,x.1<=y.1)(hp:l.Pairwise λa b=>a.1<b.1)(m:OF):WX x l m=m++l.filter λy=>y.1 != x.1:=by rw[eh hp];unfold WX;rw[ACL.2 λy hy=>by have:=h y hy;simp;omega];rfl
theorem oG{x:O0}{y:O0}{r:OF}(h:y.1<x.1)(m:OF):WX x (y::r) m=y::WX x r m:=by unfold WX;grind
theorem iv{x:O0}{l m:OF}{z:O0}(h:z∈WX x l m):(z∈l/\z.1≠x.1)\/z∈m:=by unfold WX at h;grind
theorem oI{x:O0}{l:OF}(h:l.Pairwise λa b=>a.1<b.1){m:OF}(hm:m=[]\/m=[x]):(WX x l m).Pairwise λa b=>a.1<b.1:=by
 unfold WX
 have hmx:∀z∈m,z.1=x.1:=λz hz=>by
  rcases hm with rfl|rfl
  ·cases hz
  ·rw[ABa.1 hz]
 refine ABq.2 ⟨h.filter _,ABq.2 ⟨by rcases hm with rfl|rfl<;>simp,h.filter _,λa ha b hb=>?_⟩,λa ha b hb=>?_⟩
 all_goals grind
theorem ln{x:O0}{l:OF}(h:l.Pairwise λa b=>a.1<b.1)(m:OF):(WX x l m).length=(l.filter λy=>y.1 != x.1).length+m.length:=by rw[eh h];unfold WX;grind
theorem kS{l:OF}(h:Uh l){x:O0}(hx:(x.2.1==0)=false->1<=x.1/\x.1<=50/\1<=x.2.1/\x.2.1<=1000/\0<=x.2.2/\x.2.2<=x.2.1)(hl:(x.2.1==0)=true\/(∃z∈l,z.1=x.1)\/l.length<8):Uh (Ye x l):=by
 obtain⟨h1,h2,h3⟩:=h;have hf:(l.filter λy=>y.1 != x.1).length<=l.length:=ABo _ _;unfold Ye;cases hz:(x.2.1==0)with
 |true=>
  rw[ABQ];refine⟨oI h1 (.inl rfl),λz hm=>?_,by rw[ln h1];simp only[List.length_nil];omega⟩;rcases iv hm with hm|hm
  all_goals grind
 |false=>
  rw[ABS];refine⟨oI h1 (.inr rfl),λz hm=>?_,?_⟩
  ·rcases iv hm with hm|hm
   all_goals grind
  ·rw[ln h1,ABY];rcases hl with hl|⟨z,hzm,e⟩|hl
   ·grind
   ·have:(l.filter λy=>y.1 != x.1).length<l.length:=by rw[List.length_filter_lt_length_iff_exists];exact⟨z,hzm,by simp[e]⟩
    omega
   ·omega
theorem lD(l:OF)(h:Uh l)(x0 x1 x2:Int)(n:Nat)(hn:PE<=n):Uy n l x0 x1 x2=some (Ye (x0,x1,x2) l):=by
 have h8:=h.2.2
 have hc:=PV (σ:=OF×Bool) (RG l x0 x1 x2) (λi s=>(s.1,s.2,(i:Int))) l
  (λr s=>(s.1++(bif s.2 then r.filter (λy=>y.1 != x0)else bif r.any (λy=>decide (y.1>=x0))then WX (x0,x1,x2) r [(x0,x1,x2)]else r),s.2||r.any (λy=>decide (y.1>=x0)),(l.length:Int)))
  (λi s=>s.1.length<=i+1/\(s.2=false->s.1.length<=i))
  (λs hs=>by
   unfold RG;grind)
  (λi y r s h1 h2 h3 h4 h5=>by
   left;have hy:l[i]=y:=by rw[AAM h1]at h2;exact Option.some.inj h2
   obtain⟨out,put⟩:=s;dsimp only at h5 ⊢;have hpw:(y::r).Pairwise (λa b=>a.1<b.1):=h3▸h.1.drop;obtain⟨hyr,hpr⟩:=ABn.1 hpw;unfold RG;dsimp only;rw[show decide ((i:Int)<(l.length:Int))=true by grind,ABQ,O3 h1,hy,O1 h1 (show l.length<=9223372036854775807 by omega)];simp only[ABP];have r1:∀(o:OF)(z:O0),o.length<=i+2->decide (o.length+[z].length<=E7)=true:=λo z ho=>Rr J;cases put with
   |true=>
    simp only[ABX,ABS,ABQ,ABP,Bool.true_or];by_cases he:y.1=x0
    ·rw[show(y.1 != x0)=false by simp[he]];simp only[ABS,ABP];exact⟨(out,true),rfl,⟨No,λe=>by cases e⟩,No⟩
    ·have hb:(y.1 != x0)=true:=ADs
     rw[hb,ABQ,r1 out _ J,ABQ,ABP];exact⟨(out++[y],true),rfl,⟨No,λe=>by cases e⟩,No⟩
   |false=>
    have h5i:=h5.2 rfl;simp only[ABp,ABQ,ABS,ABP,Bool.false_or];by_cases hge:y.1>=x0
    ·have hany:(y::r).any (λy=>decide (y.1>=x0))=true:=No
     have hhi:=oH (x:=(x0,x1,x2)) (l:=y::r) (λz hz=>by
      grind) hpw [(x0,x1,x2)]
     rw[ABV hge,ABQ,r1 out _ J,ABQ,ABP,hany,hhi];dsimp only;by_cases he:y.1=x0
     ·rw[show(y.1 != x0)=false by simp[he]];simp only[ABS,ABP];exact⟨(out++[(x0,x1,x2)],true),rfl,⟨No,λe=>by cases e⟩,No⟩
     ·have hb:(y.1 != x0)=true:=ADs
      rw[hb,ABQ,r1 (out++[_]) _ No,ABQ,ABP];exact⟨(out++[(x0,x1,x2)]++[y],true),rfl,⟨No,λe=>by cases e⟩,No⟩
    ·have hany:(y::r).any (λy=>decide (y.1>=x0))=r.any (λy=>decide (y.1>=x0)):=by rw[ACV,ABZ hge,Bool.false_or]
     have zj:y.1<x0:=ADS
     have hb:(y.1 != x0)=true:=by rw[AB5];clear hn;omega
     rw[ABZ hge,ABS,ABP,hany,oG (x:=(x0,x1,x2)) zj];dsimp only;rw[hb,ABQ,r1 out _ ADS,ABQ,ABP];refine⟨(out++[y],false),rfl,⟨by show(out++[y]).length<=i+1+1;rw[ABC,ABY];clear hn;omega,λ_=>by show(out++[y]).length<=i+1;rw[ABC,ABY];clear hn;omega⟩,?_⟩;grind)
  n ADU (([]:OF),x1==0) ⟨AAA,λ_=>AAA⟩
 unfold Uy Ye;rw[show((0:Nat):Int)=0 from rfl]at hc;dsimp only at hc ⊢;rw[hc,ABP];dsimp only;cases hx1:(x1==0)with
 |true=>
  simp only[ABQ,Bool.true_or,ABX,ABS,ABP,AA1];rw[eh (x:=(x0,x1,x2)) h.1]
 |false=>
  simp only[ABS,Bool.false_or,AA1];cases ha:l.any (λy=>decide (y.1>=x0))with
  |true=>rfl
  |false=>
   simp only[ABS,ABp,ABQ]
   rw[show decide (l.length+[(x0,x1,x2)].length<=E7)=true from Rr J,ABQ,ABP,pP (x:=(x0,x1,x2)) λy hy=>by
    rw[<-ABr]at ha;have:¬y.1>=x0:=λq=>ha (AA5.2 ⟨y,hy,ABV q⟩);show y.1<x0;clear hn;omega]
def aQ(a:Is)(PB:Int)(x:O0):Is:=Wg a PB (Ye x)
theorem Zr{a:Is}(h:PF a){i:Nat}(hi:i<a.length)(x0 x1 x2:Int)(n:Nat)(hn:PE<=n):SX n a (i:Int) x0 x1 x2=some (aQ a a[i].1 (x0,x1,x2)):=by
 have hst:=(h.2.2 _ (ABR hi)).2.2;unfold SX;rw[PQ a h.sm n hn,ABP,O6 hi,ABQ];have hg:a[(i:Int).toNat]?=some a[i]:=by simp[hi]
 rw[hg,ABP,ABP,lD a[i].2.2 hst x0 x1 x2 n hn,ABP,ABQ,ABT];unfold aQ;rw[<-Xb h hi];congr 1;apply ABt;grind
theorem cE(a:Is)(PB:Int)(f:OF->OF):XS a (Wg a PB f):=by
 intro id;unfold X3 Wg;rw[ACH]
 have:((λp:PD=>p.1==id) ∘ λp:PD=>bif p.1==PB then(p.1,p.2.1,f p.2.2)else p)=λp:PD=>p.1==id:=funext λp=>No
 rw[this,Option.map_map];cases a.find? λp=>p.1==id with
 |none=>rfl
 |some p=>
  grind
theorem eK{a:Is}{PB:Int}{f:OF->OF}{p:PD}(h:p∈Wg a PB f):∃q∈a,p.2.1=q.2.1:=by unfold Wg at h;grind
def Xt(a:Is)(PB k m:Int):Is×Int:=if Pw a PB k m≠0 then(a,Pw a PB k m)else if(RI a PB k).2.2<m then(a,3)else(aQ a PB (k,(RI a PB k).2.1-m,(RI a PB k).2.2-m),0)
theorem jK{a:Is}(h:PF a)(PB k m:Int):PF (Xt a PB k m).1/\XS a (Xt a PB k m).1/\∀p∈(Xt a PB k m).1,∃q∈a,p.2.1=q.2.1:=by
 have same:PF a/\XS a a/\∀p∈a,∃q∈a,p.2.1=q.2.1:=⟨h,λ_=>rfl,λp hp=>⟨p,hp,rfl⟩⟩;unfold Xt;split
 ·exact same
 ·rename_i hc;split
  ·exact same
  ·rename_i zj;obtain⟨_,hk,hm,i,hi,e1,e2,e3⟩:=QE (by omega:Pw a PB k m=0);refine⟨?_,cE a PB _,λp hp=>eK hp⟩;refine fq h PB _ λp hp ep=>?_;have:p=a[i]:=UD h hi hp (ep.trans e2.symm);subst this;have hst:=(h.2.2 _ (ABR hi)).2.2;obtain⟨b1,b2,b3,b4,b5⟩:=Qj hst k;rw[e3]at zj ⊢
   have hz:∃z∈a[i].2.2,z.1=k:=by refine AAp λq=>?_;rw[RH λx hx e=>q ⟨x,hx,e⟩]at zj;dsimp only at zj;omega
   refine kS hst (λzp=>?_) (.inr (.inl hz));grind
theorem mH{a:Is}(h:Pb a)(PB k m:Int):Pb (Xt a PB k m).1:=by
 by_cases hc:Pw a PB k m=0
 ·exact(jK (QE hc).1 PB k m).1.sm
 ·unfold Xt;grind
theorem cN(a:Is)(hs:Pb a)(PB k m:Int)(n:Nat)(hn:PE<=n):XE n a PB k m=some (Xt a PB k m):=by
 unfold XE Xt;rw[Yt a hs PB k m n hn,ABP];by_cases hc:Pw a PB k m=0
 ·rw[AAT (by rw[hc];simp),AAT (by rw[hc];simp)];obtain⟨h,hk,hm,i,hi,e1,e2,e3⟩:=QE hc;have hst:=(h.2.2 _ (ABR hi)).2.2;obtain⟨b1,b2,b3,b4,b5⟩:=Qj hst k;dsimp only;rw[show((0:Int) != 0)=false from rfl,ABS,e3];by_cases zj:(PC a[i].2.2 k).2.2<m
  ·rw[ABV zj,AAS zj,ABQ,PQ a hs n hn];rfl
  ·rw[ABZ zj,AAT zj,ABS,PA (n:=(PC a[i].2.2 k).2.1-m) J J,PA (n:=(PC a[i].2.2 k).2.2-m) J J,e1,b5];rw[Zr h hi _ _ _ n hn,e2];rfl
 ·rw[AAS hc,AAS hc];dsimp only;rw[show(Pw a PB k m != 0)=true by grind,ABQ,PQ a hs n hn];rfl
def UM(s:Is)(p:O0):Is×Int:=Xt s p.1 p.2.1 p.2.2
theorem cM(a:Is)(ha:Pb a)(ps:OF)(hp:ps.length<=1048576)(n:Nat)(hn:PE<=n):SM n a ps 3=some (Qc UM a ps):=by
 have h1:=YQ (QF n a ps 3) UM a ps (λs p hs=>mH hs _ _ _) ha (λi s hi hs=>by
  have hd:decide ((i:Int)<(ps.length:Int))=true:=ADf
  simp only[QF,hd,ABQ,O3 hi,ABP,cN s hs _ _ _ n hn,PQ a ha n hn,O1 hi (show ps.length<=9223372036854775807 by clear hn;omega)];rw[show((3:Int)==1)=false from rfl,show((3:Int)==2)=false from rfl];show(bif(UM s ps[i]).2 != 0 then _ else _)=_;cases((UM s ps[i]).2 != 0)<;>rfl) (λs=>by simp[QF]) n ADU
 unfold SM;rw[PQ a ha n hn,ABP,h1,ABP];unfold Qc;grind
theorem Y2{a:Is}(h:PF a)(ps:OF):PF (Qc UM a ps).1/\XS a (Qc UM a ps).1/\∀p∈(Qc UM a ps).1,∃q∈a,p.2.1=q.2.1:=
 lX (P:=λs=>PF s/\XS a s/\∀p∈s,∃q∈a,p.2.1=q.2.1) (λs p hs=>by
  obtain⟨h1,h2,h3⟩:=hs;obtain⟨g1,g2,g3⟩:=jK h1 p.1 p.2.1 p.2.2;refine⟨g1,λid=>(g2 id).trans (h2 id),λq hq=>?_⟩;obtain⟨r,hr,e⟩:=g3 q hq;grind) ⟨h,λ_=>rfl,λp hp=>⟨p,hp,rfl⟩⟩ ps
def O8(l:ADP)(t:PH):OF:=match P0 l t.1 with
 |some o=>o.2.2.2.1.filter λp=>p.1==t.2.1
 |none=>[]
def RK(t:PH)(s:Int):PH:=(t.1,t.2.1,t.2.2.1,s)
def aP(ou:By)(ps:OF):By:=ps.foldl (λou p=>if ou.getD p.2.1.toNat 0+p.2.2<=1000000 then ou.set p.2.1.toNat (ou.getD p.2.1.toNat 0+p.2.2)else ou) ou
def PN(a:Is)(ou:By)(l:ADP)(crew:ADQ)(t:PH):Is×By×ADQ×Option PH:=
 if t.2.2.2=2 then(a,ou,Vf crew t.2.2.1 (λr=>(r.1,r.2.1,Sz a l (RK t 3),true,0)),some (RK t 3))
 else if t.2.2.2=3 then
  ((Qc UM a (O8 l t)).1,(bif(Qc UM a (O8 l t)).2 then aP ou (O8 l t)else ou),Vf crew t.2.2.1 (λr=>(r.1,r.2.1,Sz (Qc UM a (O8 l t)).1 l (RK t 4),r.2.2.2.1,0)),some (RK t 4))
 else(a,ou,Vf crew t.2.2.1 (λr=>(r.1,r.2.1, -1,false,0)),none)
def Xf:Option PH->AAL
 |some t=>[t]
 |none=>[]
theorem DI.aa{w h:Int}{c:By}{a:Is}{nx:Int}{l:ADP}{crew:ADQ}{x y:AAL}{t:PH}(d:DI w h c a nx l crew (x++t::y))(ht:t.2.2.2≠1)(ou:By):
  DI w h c (PN a ou l crew t).1 nx l (PN a ou l crew t).2.2.1 (x++(Xf (PN a ou l crew t).2.2.2++y)):=by
 have hT:=d.tk t (AAV _ AAo);unfold PN;by_cases h2:t.2.2.2=2
 ·rw[AAS h2];exact d.n7 ht d.st (λ_=>rfl) d.hm (s:=3) ⟨J,J⟩ (λr=>⟨rfl,rfl⟩) λr hr=>⟨rfl,rfl,No,No⟩
 ·rw[AAT h2];by_cases h3:t.2.2.2=3
  ·rw[AAS h3];obtain⟨g1,g2,g3⟩:=Y2 d.st (O8 l t);refine d.n7 ht g1 g2 (λp hp=>?_) (s:=4) ⟨J,J⟩ (λr=>⟨rfl,rfl⟩) λr hr=>⟨rfl,?_,No,No⟩
   ·obtain⟨q,hq,e⟩:=g3 p hp;rw[e];exact d.hm q hq
   ·obtain⟨r',q1,_,q3⟩:=hT.fH ht;grind
  ·rw[AAT h3];exact d.gone ht (λr=>⟨rfl,rfl⟩) λr=>⟨rfl,No,No⟩
abbrev mP:=Is×By×ADQ×AAL×By
def P8(crew:ADQ)(t:PH):Bool := !(t.2.2.2==1)&&match Se crew t.2.2.1 with
 |some r=>r.2.1==r.2.2.1
 |none=>false
def PX(l:ADP)(t:PH)(s:mP):mP:=
 if P8 s.2.2.1 t=true then
  ((PN s.1 s.2.1 l s.2.2.1 t).1,(PN s.1 s.2.1 l s.2.2.1 t).2.1,(PN s.1 s.2.1 l s.2.2.1 t).2.2.1,s.2.2.2.1++Xf (PN s.1 s.2.1 l s.2.2.1 t).2.2.2,match(PN s.1 s.2.1 l s.2.2.1 t).2.2.2 with|some _=>s.2.2.2.2|none=>s.2.2.2.2++[t.1])
 else(s.1,s.2.1,s.2.2.1,s.2.2.2.1++[t],s.2.2.2.2)
def Pc(l:ADP)(ts:AAL)(s:mP):mP:=ts.foldl (λs t=>PX l t s) s
theorem DI.Pc{w h:Int}{c:By}{nx:Int}{l:ADP}:∀(ts:AAL)(s:mP),DI w h c s.1 nx l s.2.2.1 (s.2.2.2.1++ts)->DI w h c (Pc l ts s).1 nx l (Pc l ts s).2.2.1 (Pc l ts s).2.2.2.1
 | [],s,d=>by rw[ABf]at d;exact d
 |t::ts,s,d=>by
  have hstep:DI w h c (PX l t s).1 nx l (PX l t s).2.2.1 ((PX l t s).2.2.2.1++ts):=by
   unfold PX;by_cases hg:P8 s.2.2.1 t=true
   ·rw[AAS hg]
    have ht:t.2.2.2≠1:=λe=>by unfold P8 at hg;rw[show(t.2.2.2==1)=true from AAX.2 e]at hg;simp at hg
    have:=d.aa ht s.2.1;grind
   ·grind
  exact DI.Pc ts (PX l t s) hstep
def P1(l:ADP)(id:Int):Bool:=match P0 l id with
 |some o=>o.2.2.2.2==1
 |none=>false
def iZ(ts:AAL)(ended:By)(l:ADP):ADP:=ended.foldl (λl id=>bif(ts.any λt=>t.1==id) || !P1 l id then l else QA l id 2) l
theorem DI.fin{w h:Int}{c:By}{a:Is}{nx:Int}{crew:ADQ}{ts:AAL}:∀(ended:By)(l:ADP),DI w h c a nx l crew ts->DI w h c a nx (iZ ts ended l) crew ts
 | [],_,d=>d
 |id::ended,l,d=>by
  have hstep:DI w h c a nx (bif(ts.any λt=>t.1==id) || !P1 l id then l else QA l id 2) crew ts:=by
   cases hb:(ts.any λt=>t.1==id) || !P1 l id with
   |true=>exact d
   |false=>
    rw[ABS];have hno:=(AAm.1 hb).1;refine d.Dg d.st (λ_=>rfl) d.hm ⟨J,J⟩ (List.Sublist.refl ts) λt ht e=>?_;grind
  exact DI.fin ended _ hstep
def PY(a:Is)(ou:By)(l:ADP)(crew:ADQ)(ts:AAL):Is×By×ADP×ADQ×AAL:=
 ((Pc l ts (a,ou,crew,[],[])).1,(Pc l ts (a,ou,crew,[],[])).2.1,iZ (Pc l ts (a,ou,crew,[],[])).2.2.2.1 (Pc l ts (a,ou,crew,[],[])).2.2.2.2 l,(Pc l ts (a,ou,crew,[],[])).2.2.1,(Pc l ts (a,ou,crew,[],[])).2.2.2.1)
theorem DI.PY{w h:Int}{c:By}{a:Is}{nx:Int}{l:ADP}{crew:ADQ}{ts:AAL}(d:DI w h c a nx l crew ts)(ou:By):DI w h c (PY a ou l crew ts).1 nx (PY a ou l crew ts).2.2.1 (PY a ou l crew ts).2.2.2.1 (PY a ou l crew ts).2.2.2.2:=
 DI.fin _ l (DI.Pc ts (a,ou,crew,[],[]) d)
theorem Uv(crew:ADQ)(hl:crew.length<=1048576)(id:Int)(n:Nat)(hn:PE<=n):(Rd n crew id=some (-1)/\∀r∈crew,r.1≠id)\/∃k,∃h:k<crew.length,crew[k].1=id/\Rd n crew id=some (k:Int):=by
 have hs:∀(m:Nat)(x:PR),m<crew.length->crew[m]?=some x->RR crew id (m:Int)=some (bif x.1==id then .inr (.inr (m:Int))else .inl ((m+1:Nat):Int)):=λm x h1 h2=>by
  have hx:crew[m]=x:=by rw[AAM h1]at h2;exact Option.some.inj h2
  simp only[RR,O3 h1,hx,ABP,O1 h1 (show crew.length<=9223372036854775807 by clear hn;omega)];grind
 unfold Rd;by_cases h:∃r∈crew,r.1=id
 ·right;obtain⟨r,hr,e⟩:=h;obtain⟨j,hj,rfl⟩:=ABU.1 hr;obtain⟨i,hi,hP,e2⟩:=jd (RR crew id) crew (λx=>x.1==id) hs j hj (AAX.2 e) n ADU;grind
 ·left;refine⟨?_,λr hr e=>h ⟨r,hr,e⟩⟩;rcases gl (RR crew id) crew (λx=>x.1==id) hs (by simp[RR]) n ADU with e|⟨i,hi,hP,e⟩
  all_goals grind
theorem Yj{t:PH}(h:P7 t=true):(1<=t.2.2.2/\t.2.2.2<=4)/\(t.2.2.1=0↔t.2.2.2=1):=by unfold P7 at h;grind
theorem dM(w h:Int)(c:By){a:Is}(ha:PF a){nx:Int}{l:ADP}(hb:Wp nx l)(hsm:QT (nx,l)){crew:ADQ}(hc:CW c crew)(ts:AAL)(st ou:By)(nw:Int){t:PH}(hg:P7 t=true)(n:Nat)(hn:PE<=n):
  ∃b,TI n w h c a nx l crew ts st ou nw t.1 t.2.1 t.2.2.1 t.2.2.2=some b/\(b=true↔T5 a l crew t):=by
 have hal:=ha.1;have hcl:=hc.n20;obtain⟨⟨s1,s4⟩,hrz⟩:=Yj hg;cases ho:P0 l t.1 with
 |none=>
  have hm:∀x∈l,x.1≠t.1:=λx hx e=>ADy
  refine⟨false,?_,(λe=>by cases e),λhT=>?_⟩
  ·unfold TI;rw[VN nx l hsm.1 t.1 hm n hn];rfl
  ·obtain⟨o,e,_⟩:=hT.ord;grind
 |some o=>
  obtain⟨hom,hoe⟩:=QB ho;obtain⟨i,hi,rfl⟩:=ABU.1 hom;have hat:=X2 nx l hsm.1 hb.2.2.1 i hi n hn;rw[hoe]at hat;have hpl:l[i].2.2.2.1.length<=1048576:=(hsm.2 _ hom).2
  have hplen:(RM l[i].2.2.2.1).length<=1048576:=by have:=Yb l[i].2.2.2.1 [];unfold RM;simp only[List.length_nil]at this;clear hn;omega
  have hpo:=ZN l[i].2.2.2.1 hpl n hn;have hhi:QZ n (RM l[i].2.2.2.1) t.2.1=some ((RM l[i].2.2.2.1).any λx=>x==t.2.1):=by rw[Ur];exact Ps _ hplen _ n hn
  have hpx:=Qf a J t.2.1 n hn;unfold TI;rw[hat,ABP,show decide ((i:Int)<0)=false by grind,ABS];simp only[O3 hi,ABP,WY,hpx.1,hpo,hhi];by_cases hst:l[i].2.2.2.2=1
  case neg=>
   rw[show(l[i].2.2.2.2 != 1)=true from AB5.2 hst];refine⟨false,rfl,(λe=>by cases e),λhT=>?_⟩;obtain⟨o2,e,e2,_⟩:=hT.ord;grind
  rw[show(l[i].2.2.2.2 != 1)=false by rw[hst];rfl,ABS];rcases hpx.2 with⟨e,hno⟩|⟨j,hj,e,ej⟩
  ·rw[e];refine⟨false,rfl,(λe=>by cases e),λhT=>?_⟩;obtain⟨q,hq⟩:=hT.PB;exact(hno q (Su hq).1 (Su hq).2).elim
  rw[e,show decide ((j:Int)<0)=false by grind,ABS,ABP];cases hany:(RM l[i].2.2.2.1).any (λx=>x==t.2.1)with
  |false=>
   refine⟨false,rfl,(λe=>by cases e),λhT=>?_⟩;obtain⟨o2,e,_,p,hp,ep⟩:=hT.ord;rw[ho]at e;injection e with e
   rw[<-e]at hp;rw[<-ABr]at hany;exact(hany (AA5.2 ⟨_,TL.2 ⟨p,hp,rfl⟩,AAX.2 ep⟩)).elim
  |true=>
   obtain⟨y,hy,ey⟩:=AA5.1 hany;obtain⟨p,hp,ep⟩:=TL.1 hy;have hord:∃o,P0 l t.1=some o/\o.2.2.2.2=1/\∃p∈o.2.2.2.1,p.1=t.2.1:=⟨_,ho,hst,p,hp,ep.trans (AAX.1 ey)⟩;have hpod:∃q,X3 a t.2.1=some q:=Yw ⟨_,ABR hj,ej⟩;rw[ABX,ABS];by_cases hr0:t.2.2.1=0
   ·rw[show(t.2.2.1==0)=true from AAX.2 hr0,ABQ];exact⟨true,rfl,λ_=>⟨hord,hpod,λe=>(e (hrz.1 hr0)).elim⟩,λ_=>rfl⟩
   ·rw[show(t.2.2.1==0)=false from ABW.2 hr0,ABS];have hst1:t.2.2.2≠1:=λe=>hr0 (hrz.2 e)
    have hgoal:TG n w h c a nx l crew ts st ou nw t.1 t.2.1 t.2.2.1 t.2.2.2=some (Sz a l t):=by
     unfold TG;by_cases h3:t.2.2.2=3
     ·rw[show(t.2.2.2==3)=true from AAX.2 h3,ABQ,hat,ABP,O3 hi,ABP];unfold Sz;grind
     ·rw[show(t.2.2.2==3)=false from ABW.2 h3,ABS,WY,hpx.1,e,ABP,O3 hj,ABP,bU ha h3 hj ej]
    rcases Uv crew J t.2.2.1 n hn with⟨e1,hno⟩|⟨k,hk,ek,e1⟩
    ·rw[e1];refine⟨false,rfl,(λe=>by cases e),λhT=>?_⟩;obtain⟨r,q1,_⟩:=hT.fH hst1;exact(hno r (Pk q1).1 (Pk q1).2).elim
    ·have hro:=Xh hc.ids hk;rw[ek]at hro;rw[e1,ABP,show decide ((k:Int)>=0)=true by rw[AAj];clear hn;omega,ABQ];simp only[O3 hk,ABP,hgoal]
     have hT:T5 a l crew t↔crew[k].2.2.1=Sz a l t/\crew[k].2.2.2.1=decide (2<t.2.2.2):=by
      constructor
      ·intro hT;obtain⟨r,q1,q2,q3⟩:=hT.fH hst1;rw[hro]at q1;injection q1 with q1
       rw[q1];exact⟨q2,q3⟩
      ·rintro ⟨q2,q3⟩
       exact⟨hord,hpod,λ_=>⟨_,hro,q2,q3⟩⟩
     grind
theorem DI.new{w h:Int}{c:By}{a:Is}(hok:ZV w h c a=true):DI w h c a 1 [] (Rw (Pu c) (min (Pu c).length 20)) []:=by obtain⟨hf,hk,h0,hho⟩:=ZW hok;refine {fl:=hf,st:=Pp.1 hk,hm:=λp hp=>?_,bk:=⟨⟨J,J⟩,AAA,List.Pairwise.nil,(λo ho=>by cases ho)⟩,LG:=(λo ho=>by cases ho),dN:=(λo ho=>by cases ho),dk:=(λo ho=>by cases ho),cw:=qe c,Vg:=QL.2 ⟨AAA,(λx hx=>by cases hx),List.Pairwise.nil⟩,tk:=(λt ht=>by cases ht) };obtain⟨h1,h2⟩:=hho p hp;unfold QN;grind
def TZ(l:By):Prop:=l.length=51/\(∀x∈l,0<=x/\x<=1000000)/\l[0]?=some 0
def ca(l:By)(i:Nat):Bool:=match l[i]? with
 |some x=>P5 x 0 1000000&&(!((i:Int)==0)||x==0)
 |none=>false
theorem Tk{a b c:Int}:P5 a b c=true↔b<=a/\a<=c:=by unfold P5;grind
theorem de{l:By}:((List.range l.length).all (ca l)&&((l.length:Int)==51))=true↔TZ l:=by
 rw[AAN,AAZ,AAX]
 have hat:∀i (hi:i<l.length),ca l i=true↔(0<=l[i]/\l[i]<=1000000)/\(i=0->l[i]=0):=λi hi=>by unfold ca;rw[AAM hi];simp only[AAN,Tk,AAg,AAa,ABW,AAX];omega
 constructor
 ·rintro ⟨h1,h2⟩
  have h51:l.length=51:=J
  have hi:=λi (hi:i<l.length)=>(hat i hi).1 (h1 i (AAb.2 hi));refine⟨h51,λx hx=>?_,?_⟩
  ·obtain⟨i,hi2,rfl⟩:=ABU.1 hx;exact(hi i hi2).1
  grind
 ·rintro ⟨h1,h2,h3⟩
  grind
theorem Xz(l:By)(hl:l.length<=1048576)(n:Nat)(hn:PE<=n):T9 n l=some ((List.range l.length).all (ca l)&&((l.length:Int)==51)):=by
 have h1:=QY (Ti l) (λk=>(k:Int)) l.length (ca l) (λi hi=>by
  unfold Ti ca;dsimp only;rw[show decide ((i:Int)<(l.length:Int))=true by rw[AAj];clear hn;omega,AAM hi];simp only[ABQ,O3 hi,ABP,Ut,QO,O1 hi (show l.length<=9223372036854775807 by clear hn;omega),bne];cases P5 l[i] 0 1000000<;>cases((i:Int)==0)<;>cases(l[i]==0)<;>rfl) (by unfold Ti;simp) n ADU
 rw[show((0:Nat):Int)=0 from rfl]at h1;unfold T9;grind
structure rP(w h:Int)(c:By)(a:Is)(nx:Int)(l:ADP)(crew:ADQ)(ts:AAL)(st ou:By)(nw:Int):Prop where
 fl:PW w h c=true
 xQ:PF a
 bk:Wp nx l
 cw:CW c crew
 Vg:TP ts
 c1:TZ st
 c2:TZ ou
 now:0<=nw/\nw<=1000000
 tk:∀t∈ts,T5 a l crew t
theorem DI.ok{w h:Int}{c:By}{a:Is}{nx:Int}{l:ADP}{crew:ADQ}{ts:AAL}(d:DI w h c a nx l crew ts){st ou:By}(h1:TZ st)(h2:TZ ou){nw:Int}(h3:0<=nw/\nw<=1000000):rP w h c a nx l crew ts st ou nw:=
 ⟨d.fl,d.st,d.bk,d.cw,d.Vg,h1,h2,h3,d.tk⟩
theorem YT(w h:Int)(c:By)(hc:c.length<=1048576)(a:Is)(ha:Pb a)(nx:Int)(l:ADP)(hl:QT (nx,l))(crew:ADQ)(hcr:crew.length<=1048576)(ts:AAL)(hts:ts.length<=1048576)(st ou:By)(hst:st.length<=1048576)(hou:ou.length<=1048576)(nw:Int)(n:Nat)(hn:PE<=n):
  ∃b,Qw n w h c a nx l crew ts st ou nw=some b/\(b=true↔rP w h c a nx l crew ts st ou nw):=by
 obtain⟨bb,eb,ib⟩:=Wk hl n hn;unfold Qw;rw[YR,Pr w h c hc n hn,QH a ha n hn,eb,TC w h c hc crew hcr n hn,Y9 ts hts n hn,Xz st hst n hn,Xz ou hou n hn];simp only[ABP,Ut,QO];have no:∀ {P:Prop},¬P->∃b,(some false:Option Bool)=some b/\(b=true↔P):=λhp=>⟨false,rfl,(λe=>by cases e),λq=>(hp q).elim⟩;cases e1:PW w h c with
 |false=>exact no λd=>by rw[d.fl]at e1;cases e1
 |true=>
 cases e2:Pq a with
 |false=>exact no λd=>by rw[Pp.2 d.xQ]at e2;cases e2
 |true=>
 cases e3:bb with
 |false=>exact no λd=>by rw[ib.2 d.bk]at e3;cases e3
 |true=>
 cases e4:Sx w h c crew with
 |false=>exact no λd=>by rw[Uq.2 ⟨d.fl,d.cw⟩]at e4;cases e4
 |true=>
 cases e5:Rv ts with
 |false=>exact no λd=>by rw[We.2 d.Vg]at e5;cases e5
 |true=>
 cases e6:((List.range st.length).all (ca st)&&((st.length:Int)==51))with
 |false=>exact no λd=>by rw[de.2 d.c1]at e6;cases e6
 |true=>
 cases e7:((List.range ou.length).all (ca ou)&&((ou.length:Int)==51))with
 |false=>exact no λd=>by rw[de.2 d.c2]at e7;cases e7
 |true=>
 cases e8:P5 nw 0 1000000 with
 |false=>exact no λd=>by rw[Tk.2 d.now]at e8;cases e8
 |true=>
 have hS:=Pp.1 e2;have hB:=ib.1 e3;have hC:=(Uq.1 e4).2;have hT:=We.1 e5;have hgood:=(QL.1 hT).2.1;simp only[ABX,ABS,ABP]
 let val:Nat->Bool:=λi=>match ts[i]? with
  |some t=>(TI n w h c a nx l crew ts st ou nw t.1 t.2.1 t.2.2.1 t.2.2.2).getD false
  |none=>false
 have hval:∀i (hi:i<ts.length),TI n w h c a nx l crew ts st ou nw ts[i].1 ts[i].2.1 ts[i].2.2.1 ts[i].2.2.2=some (val i)/\(val i=true↔T5 a l crew ts[i]):=λi hi=>by obtain⟨b,e,ib⟩:=dM w h c hS hB hl hC ts st ou nw (hgood _ (ABR hi)) n hn;grind
 have h1:=QY (UR n w h c a nx l crew ts st ou nw) (λk=>(k:Int)) ts.length val (λi hi=>by
  unfold UR;rw[show decide ((i:Int)<(ts.length:Int))=true by rw[AAj];clear hn;omega,ABQ,O3 hi,ABP,(hval i hi).1,ABP,O1 hi (show ts.length<=9223372036854775807 by clear hn;omega)];grind) (by unfold UR;simp) n ADU
 rw[show((0:Nat):Int)=0 from rfl]at h1;rw[h1];refine⟨(List.range ts.length).all val,No,?_⟩;rw[AAZ];constructor
 ·intro q;refine⟨e1,hS,hB,hC,hT,de.1 e6,de.1 e7,Tk.1 e8,λt ht=>?_⟩;obtain⟨i,hi,rfl⟩:=ABU.1 ht;grind
 ·intro d i hi;have hi:=AAb.1 hi;exact(hval i hi).2.2 (d.tk _ (ABR hi))
def U1(a b:Is):Prop:=PF b/\XS a b/\∀p∈b,∃q∈a,p.2.1=q.2.1
theorem U1.refl{a:Is}(h:PF a):U1 a a:=⟨h,λ_=>rfl,λp hp=>⟨p,hp,rfl⟩⟩
theorem U1.trans{a b d:Is}(h:U1 a b)(g:U1 b d):U1 a d:=⟨g.1,λid=>(g.2.1 id).trans (h.2.1 id),λp hp=>by
 obtain⟨q,hq,e⟩:=g.2.2 p hp;obtain⟨r,hr,e2⟩:=h.2.2 q hq;grind⟩
theorem nk{a:Is}{PB k d:Int}(h:PF (T6 a PB k d)):U1 a (T6 a PB k d):=⟨h,cE a PB _,λp hp=>eK hp⟩
theorem pe{a:Is}(h:PF a)(PB k m:Int):U1 a (W6 a PB k m).1:=by
 have ho:=jD h PB k m;unfold W6 at ho ⊢;split
 ·exact U1.refl h
 ·rename_i hc;rw[AAT hc]at ho;split
  ·exact U1.refl h
  ·rename_i zj;rw[AAT zj]at ho;exact nk ho
theorem pI{f:Is->O0->Is×Int}(hf:∀s p,PF s->U1 s (f s p).1){a:Is}(h:PF a)(ps:OF):U1 a (Qc f a ps).1:=
 lX (P:=λs=>U1 a s) (λs p hs=>hs.trans (hf s p hs.1)) (U1.refl h) ps
theorem nC{a:Is}(h:PF a)(ps:OF):U1 a (Qc Zd a ps).1:=pI (λs p hs=>pe hs _ _ _) h ps
def jI(a:Is)(PB:Int):Nat:=match a[(Rq a PB).toNat]? with
 |some p=>p.2.2.length
 |none=>0
def VO(a:Is)(PB k m:Int):Is×Int:=if Pw a PB k m≠0 then(a,Pw a PB k m)
 else if(RI a PB k).2.1+m>1000\/((RI a PB k).2.1=0/\jI a PB=8)then(a,4)
 else(aQ a PB (k,(RI a PB k).2.1+m,(RI a PB k).2.2),0)
theorem pZ{a:Is}(h:PF a)(PB k m:Int):U1 a (VO a PB k m).1:=by
 unfold VO;split
 ·exact U1.refl h
 ·rename_i hc;split
  ·exact U1.refl h
  ·rename_i hno;obtain⟨_,hk,hm,i,hi,e1,e2,e3⟩:=QE (by omega:Pw a PB k m=0);refine⟨?_,cE a PB _,λp hp=>eK hp⟩;refine fq h PB _ λp hp ep=>?_;have:p=a[i]:=UD h hi hp (ep.trans e2.symm);subst this;have hst:=(h.2.2 _ (ABR hi)).2.2;obtain⟨b1,b2,b3,b4,b5⟩:=Qj hst k;unfold jI at hno;rw[e1,ABT,AAM hi,e3]at hno;rw[e3];dsimp only at hno;refine kS hst (λzp=>?_) ?_
   ·grind
   ·by_cases hz:∃z∈a[i].2.2,z.1=k
    ·grind
    ·have h0:=RH (l:=a[i].2.2) (k:=k) λx hx e=>hz ⟨x,hx,e⟩;rw[h0]at hno;dsimp only at hno;have h8:=hst.2.2;omega
theorem fA{l:ADP}{id:Int}{o:PS}(h:P0 l id=some o)(hs:o.2.2.2.2=1)(hp:l.Pairwise λa b=>a.1<b.1):P0 (Q6 l) id=some o:=by
 obtain⟨hm,e⟩:=QB h
 have hmo:o∈Q6 l:=by unfold Q6;exact ABb.2 ⟨hm,AAX.2 hs⟩
 cases hq:P0 (Q6 l) id with
 |none=>
  unfold P0 at hq;grind
 |some q=>
  obtain⟨h1,h2⟩:=QB hq;unfold Q6 at h1;have hqm:=(ABb.1 h1).1
  have:q=o:=by
   obtain⟨i,hi,rfl⟩:=ABU.1 hqm;obtain⟨j,hj,rfl⟩:=ABU.1 hm;rcases ABe i j with hl|hl|hl
   ·have:=ABM.1 hp i j hi hj hl;omega
   ·subst hl;rfl
   ·have:=ABM.1 hp j i hj hi hl;omega
  rw[this]
theorem DI.iF{w h:Int}{c:By}{a:Is}{nx:Int}{l:ADP}{crew:ADQ}{ts:AAL}(d:DI w h c a nx l crew ts):DI w h c a nx (Q6 l) crew ts:=by
 obtain⟨b1,b2,b3,b4⟩:=d.bk
 have hm:∀o∈Q6 l,o∈l:=λo ho=>by unfold Q6 at ho;grind
 have key:∀t∈ts,T5 a (Q6 l) crew t:=λt ht=>by have hT:=d.tk t ht;obtain⟨o,ho,hs,_⟩:=hT.ord;exact hT.same (λ_=>rfl) ((fA ho hs b3).trans ho.symm)
 exact { d with bk:=⟨b1,by unfold Q6;grind,by unfold Q6;grind,λo ho=>b4 o (hm o ho)⟩,LG:=λo ho=>d.LG o (hm o ho),dN:=λo ho=>d.dN o (hm o ho),dk:=λo ho=>d.dk o (hm o ho),tk:=key }
theorem DI.home{w h:Int}{c:By}{a:Is}{nx:Int}{l:ADP}{crew:ADQ}{ts:AAL}(d:DI w h c a nx l crew ts){b:Is}(hb:U1 a b):∀p∈b,QN c p.2.1=true:=λp hp=>by obtain⟨q,hq,e⟩:=hb.2.2 p hp;rw[e];exact d.hm q hq
theorem DI.back{w h:Int}{c:By}{a:Is}{nx:Int}{l:ADP}{crew:ADQ}{ts:AAL}(d:DI w h c a nx l crew ts)(id:Int)(ps:OF):DI w h c (Qc Zd a ps).1 nx (QA l id 3) crew (ts.filter λt => !(t.1==id)):=by have hb:=nC d.st ps;refine d.Dg hb.1 hb.2.1 (d.home hb) ⟨J,J⟩ List.filter_sublist λt ht e=>?_;grind
theorem DI.ay{w h:Int}{c:By}{a:Is}{nx:Int}{l:ADP}{crew:ADQ}{ts:AAL}(d:DI w h c a nx l crew ts)(PB k m:Int):DI w h c (VO a PB k m).1 nx l crew ts:=by have hb:=pZ d.st PB k m;exact d.uR hb.1 hb.2.1 (d.home hb)
theorem jl(n:Nat)(hn:PE<=n){b:By}{i q:Int}(hcu:Cu b i)(id home:Int):Ok (iter n (Wo) (1,b,i,q,id,home,([]:OF))) λx=>(Uh x.2.2.2.2.2.2/\∀y∈x.2.2.2.2.2.2,y.2.2=0)/\x.2.2.2.2.1=id/\x.2.2.2.2.2.1=home/\Cu x.2.1 x.2.2.1:=by
 refine Ok.iter (λk x=>x.1+(k:Int)=5/\1<=x.1/\x.2.2.2.2.2.2.length+k<=4/\(x.2.2.2.2.2.2.Pairwise (λa b=>a.1<b.1)/\∀y∈x.2.2.2.2.2.2,1<=y.1/\y.1<x.1/\1<=y.2.1/\y.2.1<=5/\y.2.2=0)/\x.2.2.2.2.1=id/\x.2.2.2.2.2.1=home/\Cu x.2.1 x.2.2.1) (λk x hx=>?_) (k:=4) ⟨AAA,AAA,AAA,⟨List.Pairwise.nil,(λy hy=>by cases hy)⟩,rfl,rfl,hcu⟩ ADU;obtain⟨h1,h0,h2,⟨h4,h5⟩,h6,h7,h3⟩:=hx;unfold Wo;refine Ok.cond (λhb=>?_) λhb=>Ok.pure (.inr ⟨_,rfl,⟨⟨h4,λy hy=>?_,by show x.2.2.2.2.2.2.length<=8;clear hn;omega⟩,λy hy=>(h5 y hy).2.2.2.2⟩,h6,h7,h3⟩)
 ·have hb:=AAx hb;refine Ok.bind (P:=λz=>(z.2.2.2.2.2.length<=x.2.2.2.2.2.2.length+1/\z.2.2.2.2.2.Pairwise (λa b=>a.1<b.1)/\∀y∈z.2.2.2.2.2,1<=y.1/\y.1<x.1+1/\1<=y.2.1/\y.2.1<=5/\y.2.2=0)/\z.2.2.2.1=id/\z.2.2.2.2.1=home/\Cu z.1 z.2.1) ((ok_int h3 AAA).bind λv hv=>Ok.cond (λhg=>Ok.guard (Rr ADS) (Ok.pure ⟨⟨by show(x.2.2.2.2.2.2++[_]).length<=_;simp,?_,λy hy=>?_⟩,h6,h7,hv.1⟩)) λ_=>Ok.pure ⟨⟨by show x.2.2.2.2.2.2.length<=_;omega,h4,λy hy=>?_⟩,h6,h7,hv.1⟩) λz hz=>Ok.pure (.inl ⟨_,rfl,k-1,⟨?_,?_,?_,⟨hz.1.2.1,λy hy=>?_⟩,hz.2.1,hz.2.2.1,hz.2.2.2⟩,ADS⟩)
  ·refine ABq.2 ⟨h4,List.pairwise_singleton _ _,λy hy z hz=>?_⟩;rw[ABa.1 hz];exact(h5 y hy).2.1
  ·rcases ABI.1 hy with hy|hy
   ·obtain⟨g1,g2,g3,g4,g5⟩:=h5 y hy;exact⟨g1,ADS,g3,g4,g5⟩
   ·rw[ABa.1 hy];have hg:=AAx hg;have hm:=hv.2;simp only[AAi,List.not_mem_nil,or_false]at hm;refine⟨h0,by show x.1<x.1+1;clear hn;omega,by show 1<=v.1;clear hn;omega,by show v.1<=5;clear hn;omega,rfl⟩
  ·obtain⟨g1,g2,g3,g4,g5⟩:=h5 y hy;exact⟨g1,ADS,g3,g4,g5⟩
  ·show O5 (x.1+1)+_=_;rw[PA ADS ADS];clear hn;omega
  ·show 1<=O5 (x.1+1);rw[PA ADS ADS];clear hn;omega
  ·have:=hz.1.1;show z.2.2.2.2.2.length+(k-1)<=4;clear hn;omega
  ·obtain⟨g1,g2,g3,g4,g5⟩:=hz.1.2.2 y hy;refine⟨g1,?_,g3,g4,g5⟩;show y.1<O5 (x.1+1);rw[PA ADS ADS];exact g2
 grind
theorem jk(n:Nat)(hn:PE<=n){b:By}{i q:Int}(hcu:Cu b i)(w h:Int)(c:By)(hf:PW w h c=true):Ok (XL n b i q w h c) λx=>ZV w h c x.1=true/\Cu x.2.1 x.2.2.1:=by
 have h100:=(Tz hf).le;have hc:c.length<=1048576:=ADS
 unfold XL;rw[Vr w h c hc hf 2 n hn,ABP]
 refine Ok.bind (P:=λz=>(z.2.2.2.2.length<=8/\z.2.2.2.2.length<=(QQ c 2 c.length).length/\∀(j:Nat)(hj:j<z.2.2.2.2.length),z.2.2.2.2[j].1=(j:Int)+1/\z.2.2.2.2[j].2.1=(QQ c 2 c.length).getD j 0/\Uh z.2.2.2.2[j].2.2/\∀y∈z.2.2.2.2[j].2.2,y.2.2=0)/\Cu z.2.1 z.2.2.1)
  (Ok.iter (λk x=>x.1+(k:Int)=8/\0<=x.1/\(x.2.2.2.2.length:Int)=x.1/\(x.2.2.2.2.length<=(QQ c 2 c.length).length/\∀(j:Nat)(hj:j<x.2.2.2.2.length),x.2.2.2.2[j].1=(j:Int)+1/\x.2.2.2.2[j].2.1=(QQ c 2 c.length).getD j 0/\Uh x.2.2.2.2[j].2.2/\∀y∈x.2.2.2.2[j].2.2,y.2.2=0)/\Cu x.2.1 x.2.2.1) (λk x hx=>?_) (k:=8) ⟨AAA,AAA,AAA,⟨AAA,λj hj=>ADp⟩,hcu⟩ ADU) λz hz=>Ok.pure ⟨?_,hz.2⟩
 ·obtain⟨h1,h0,h2,⟨h4,h5⟩,h3⟩:=hx;unfold ZE;refine Ok.bind (P:=λv=>v=true->x.1<((QQ c 2 c.length).length:Int)/\x.1<8) (Ok.cond (λhb=>Ok.pure λe=>⟨AAx hb,AAx e⟩) λ_=>Ok.pure λe=>by cases e) λv hv=>Ok.cond (λhb=>?_) λhb=>Ok.pure (.inr ⟨_,rfl,⟨No,h4,h5⟩,h3⟩);obtain⟨a1,a2⟩:=hv hb;refine Ok.guard (eU ⟨h0,a1⟩) ((Ok.get J).bind λhm zw=>(jl n hn h3 _ _).bind λu hu=>Ok.guard (Rr J) (Ok.pure (.inl ⟨_,rfl,k-1,⟨?_,?_,?_,⟨?_,λj hj=>?_⟩,hu.2.2.2⟩,J⟩)))
  ·show O5 (x.1+1)+_=_;rw[PA ADS ADS];omega
  ·show 0<=O5 (x.1+1);rw[PA ADS ADS];omega
  ·show(((x.2.2.2.2++[_]).length:Nat):Int)=O5 (x.1+1);rw[PA ADS ADS,ABC,ABY];omega
  ·grind
  ·have hj2:j<x.2.2.2.2.length+1:=by have:=hj;change j<(x.2.2.2.2++[_]).length at this;rw[ABC,ABY]at this;exact this
   show(x.2.2.2.2++[(u.2.2.2.2.1,u.2.2.2.2.2.1,u.2.2.2.2.2.2)])[j].1=_/\(x.2.2.2.2++[(u.2.2.2.2.1,u.2.2.2.2.2.1,u.2.2.2.2.2.2)])[j].2.1=_/\Uh (x.2.2.2.2++[(u.2.2.2.2.1,u.2.2.2.2.2.1,u.2.2.2.2.2.2)])[j].2.2/\∀y∈(x.2.2.2.2++[(u.2.2.2.2.1,u.2.2.2.2.2.1,u.2.2.2.2.2.2)])[j].2.2,y.2.2=0;rw[List.getElem_append];by_cases e:j<x.2.2.2.2.length
   ·grind
   ·rw[dif_neg e];have ej:j=x.2.2.2.2.length:=ADS
    simp only[List.getElem_singleton];refine⟨?_,?_,hu.1.1,hu.1.2⟩
    ·rw[hu.2.1,PA ADS ADS];clear hn;omega
    grind
 ·obtain⟨⟨z1,z2,z3⟩,_⟩:=hz;have hpw:=bQ c 2 c.length
  have hcell:∀(j:Nat)(hj:j<z.2.2.2.2.length),∃m:Nat,z.2.2.2.2[j].2.1=(m:Int)/\m<c.length/\c.getD m 0=2:=λj hj=>by
   have hj2:j<(QQ c 2 c.length).length:=ADS
   rw[(z3 j hj).2.1,show(QQ c 2 c.length).getD j 0=(QQ c 2 c.length)[j] by simp[hj2]];exact XT (ABR hj2)
  have hS:PF z.2.2.2.2:=by
   refine⟨J,ABM.2 λa b ha hb hab=>?_,λp hp=>?_⟩
   ·have q1:=z3 a ha;have q2:=z3 b hb;have hal:a<(QQ c 2 c.length).length:=ADS
    have hbl:b<(QQ c 2 c.length).length:=ADS
    have zj:=ABM.1 hpw a b hal hbl hab;grind
   ·obtain⟨j,hj,rfl⟩:=ABU.1 hp;grind
  show ZV w h c z.2.2.2.2=true;unfold ZV;rw[hf,Pp.2 hS];simp only[ABw,AAN,AAZ,AAb];refine⟨λj hj=>?_,λj hj=>?_⟩
  ·unfold Yk;grind
  ·obtain⟨m,e,hm,h2⟩:=hcell j hj;unfold aJ;rw[AAM hj];dsimp only;rw[e,show(m:Int).toNat=m by clear hn;omega,h2];unfold P5;grind
def Qb(l:ADP)(P:Int->Bool):ADP:=l.map λo=>bif P o.1 then(o.1,o.2.1,o.2.2.1,o.2.2.2.1,2)else o
theorem fk(l:ADP)(P:Int->Bool)(h:∀id,P id=false):Qb l P=l:=by
 unfold Qb;rw[ABg (g:=id) λo _=>by rw[h];rfl,List.map_id]
theorem Zj(l:ADP){P Q:Int->Bool}(h:∀id,P id=Q id):Qb l P=Qb l Q:=by rw[show P=Q from funext h]
theorem jO(l:ADP)(P:Int->Bool)(id:Int):QA (Qb l P) id 2=Qb l λk=>P k||k==id:=by unfold QA Qb;rw[ACK];refine ABg λo _=>?_;grind
theorem ix(l:ADP)(P:Int->Bool)(id:Int):P0 (Qb l P) id=(P0 l id).map λo=>bif P id then(o.1,o.2.1,o.2.2.1,o.2.2.2.1,2)else o:=by
 unfold P0 Qb;rw[ACH]
 have:((λo:PS=>o.1==id) ∘ λo:PS=>bif P o.1 then(o.1,o.2.1,o.2.2.1,o.2.2.2.1,2)else o)=λo:PS=>o.1==id:=funext λo=>No
 rw[this];cases h:l.find? λo=>o.1==id with
 |none=>rfl
 |some o=>
  grind
theorem jh{l:ADP}{P:Int->Bool}{id:Int}(h:P1 l id=true):P1 (Qb l P) id = !P id:=by unfold P1 at h ⊢;rw[ix];grind
theorem qj(a:Is)(l:ADP)(P:Int->Bool)(t:PH):Sz a (Qb l P) t=Sz a l t:=by unfold Sz;rw[ix];grind
theorem fD(l:ADP)(P:Int->Bool)(t:PH):O8 (Qb l P) t=O8 l t:=by unfold O8;rw[ix];grind
theorem oA(a:Is)(ou:By)(l:ADP)(P:Int->Bool)(crew:ADQ)(t:PH):PN a ou (Qb l P) crew t=PN a ou l crew t:=by unfold PN;simp only[qj,fD]
theorem dg(left:AAL)(l:ADP):∀(ended:By)(P:Int->Bool),(∀id∈ended,P1 l id=true)->iZ left ended (Qb l P)=Qb l λk=>P k||((ended.any λe=>e==k) && !(left.any λt=>t.1==k))
 | [],P,_=>by
  show Qb l P=_;exact Zj l λk=>AAA
 |id::ended,P,h=>by
  have ho:=jh (P:=P) (h id AAo);have h2:=λe he=>h e (AAQ id he);have hun:iZ left (id::ended) (Qb l P)=iZ left ended (bif(left.any λt=>t.1==id) || !P1 (Qb l P) id then Qb l P else QA (Qb l P) id 2):=rfl;rw[hun,ho,Bool.not_not];cases hb:((left.any λt=>t.1==id)||P id)with
  |true=>
   rw[ABQ,dg left l ended P h2];grind
  |false=>
   obtain⟨hb1,hb2⟩:=AAm.1 hb;rw[ABS,jO,dg left l ended _ h2];refine Zj l λk=>?_;rw[ACV];by_cases e:id=k
   ·subst e;grind
   ·rw[show(id==k)=false from ABW.2 e,show(k==id)=false from ABW.2 λq=>e q.symm,Bool.false_or,Bool.or_false]
end Go.Ev.N
