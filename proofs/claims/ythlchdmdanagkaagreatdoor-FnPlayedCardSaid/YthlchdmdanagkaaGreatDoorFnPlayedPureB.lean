/- A plain law. Conditions: none. -/
import Derived.Test.YthlchdmdanagkaaGreatDoorFnPlayedPureA
set_option linter.all false
namespace Go.Ev.N
open Go Go.Ev
variable {w h k nx id:Int}{c:By}{a b:Is}{prs:List (Nat×Nat)}{i:Nat}{β:Type}{AAJ:ADS}{x p:O8}{want:ADT}{o ps:OF}{f:Int->Int->Int}{ts:AAA}{t:PV}
theorem lF(hc:c.length<=1048576)(hf:PY w h c=true)(ha:a.length<=1048576){crew:ADS}(hcr:crew.length<=1048576){l:AAA}(hl:l.length<=60)(n:Nat)(hn:PO<=n):
  iter n (Rx n w h c a crew l (PR (Pj crew l)) (PR (QL a l (Pj crew l).length))) ([],0)=some (XE w h c a crew l,((QL a l (Pj crew l).length).length:Int)):=by
 generalize hwho:Pj crew l=who;generalize hwhat:QL a l who.length=what;have h10:who.length<=10:=by rw[<-hwho];exact aI crew l
 have hwl:what.length<=10:=by rw[<-hwhat];exact AA5 (a8 a l _ _ _) h10
 have hlw:(PR who).length=who.length:=by simp[PR]
 have xz:(PR what).length=what.length:=by simp[PR]
 have:=dy (Rx n w h c a crew l (PR who) (PR what)) (λi=>who.map λk=>UY w h c (Zn crew k).2.1 (QY a (YL l (what.getD i 0)).2.1)) what.length (λi hi=>by
  have hd:decide ((i:Int)<((PR what).length:Int))=true:=by rw[AAh,xz];clear hn;omega
  obtain⟨t1,t2⟩:=X8 hi;have htm:what.getD i 0∈QL a l who.length:=by rw[hwhat];exact XG hi
  obtain⟨f1,f2,f3,p,hp,f4,f5,f6⟩:=ZL ha htm;generalize what.getD i 0=t at t2 htm f1 f2 f3 f4 f5 f6;generalize zt:(List.range i).map (λi=>who.map λk=>UY w h c (Zn crew k).2.1 (QY a (YL l (what.getD i 0)).2.1))=out;have hol:out.length=i:=by rw[<-zt];simp
  have xv:=dy (TV n w h c a crew l (PR who) (t:Int)) (λk=>UY w h c (Zn crew (who.getD k 0)).2.1 (QY a (YL l t).2.1)) who.length (λk hk=>by
   have hd2:decide ((k:Int)<((PR who).length:Int))=true:=by rw[AAh,hlw];clear hn;omega
   obtain⟨w1,w2⟩:=X8 hk;have hkm:who.getD k 0∈Pj crew l:=by rw[hwho];exact XG hk
   obtain⟨g1,g2⟩:=aJ hkm;have hg:Iz crew ((who.getD k 0:Nat):Int)=some (Zn crew (who.getD k 0)):=by rw[RY];exact mP g1
   have hgt:Iz l ((t:Nat):Int)=some (YL l t):=by rw[RY];exact ma f1
   have hgp:Iz a ((p:Nat):Int)=some a[p]:=PA hp
   have hcost:(bif decide (UX w h c (Zn crew (who.getD k 0)).2.1 (QY a (YL l t).2.1)<0)then some (100000:Int)else some (UX w h c (Zn crew (who.getD k 0)).2.1 (QY a (YL l t).2.1)))=some (UY w h c (Zn crew (who.getD k 0)).2.1 (QY a (YL l t).2.1)):=by
    unfold UY;by_cases q:UX w h c (Zn crew (who.getD k 0)).2.1 (QY a (YL l t).2.1)<0
    ·grind
    ·grind
   have yE:∀x:Int,decide (((List.range k).map λk=>UY w h c (Zn crew (who.getD k 0)).2.1 (QY a (YL l t).2.1)).length+[x].length<=E8)=true:=λx=>SV No;simp only[TV,WL,hd2,ABT,w1,w2,ABW,ABS,hg,hgt,(RE a ha _ n hn).1,f4,hgp,<-f6,(fX hc hf _ _ n hn).2.1,hcost,yE,O9 hk (show who.length<=9223372036854775807 by omega)]) (by
   have hd2:decide ((who.length:Int)<((PR who).length:Int))=false:=by rw[AAr,hlw];clear hn;omega
   simp only[TV,hd2,ABV]) n ADW
  rw[ZD (λk=>UY w h c (Zn crew k).2.1 (QY a (YL l t).2.1)) who]at xv;have yE:∀x:By,decide (out.length+[x].length<=E8)=true:=λx=>SV J;simp only[Rx,hd,ABT,t1,t2,ABW,xv,ABS,yE,O9 hi (show what.length<=9223372036854775807 by omega)]) (by
  have hd:decide ((what.length:Int)<((PR what).length:Int))=false:=by rw[AAr,xz];clear hn;omega
  simp only[Rx,hd,ABV]) n ADW
 rw[this,ZD (λt=>who.map λk=>UY w h c (Zn crew k).2.1 (QY a (YL l t).2.1)) what,<-hwhat,<-hwho];rfl
theorem eA(hc:c.length<=1048576)(hf:PY w h c=true)(a:Is)(crew:ADS)(l:AAA):(RL w h c a crew l).length=(QL a l (Pj crew l).length).length/\(RL w h c a crew l).Nodup/\∀k∈RL w h c a crew l,k<(Pj crew l).length:=by
 have hcm:=jf hc hf a crew l;obtain⟨p1,p2,p3⟩:=qe (PU (XE w h c a crew l)) (List.range (Pj crew l).length) AB8 (by rw[List.length_range];simpa[PU]using hcm.nm);refine⟨by unfold RL;rw[p1];simp[PU,XE],p2,λk hk=>AAb.1 (p3 k hk)⟩
theorem lk(hc:c.length<=1048576)(hf:PY w h c=true)(ha:a.length<=1048576){crew:ADS}{l:AAA}{j:Nat}(hj:j<(RL w h c a crew l).length):
  ∃(q k t p:Nat) (row:By),(PR (RL w h c a crew l))[j]?=some (q:Int)/\OU (PR (RL w h c a crew l)) (j:Int)=true/\OU (PR (Pj crew l)) (q:Int)=true/\(PR (Pj crew l))[q]?=some (k:Int)/\
   OU (XE w h c a crew l) (j:Int)=true/\(XE w h c a crew l)[j]?=some row/\OU row (q:Int)=true/\row[q]?=some (UY w h c (Zn crew k).2.1 (QY a (YL l t).2.1))/\
   OU (PR (QL a l (Pj crew l).length)) (j:Int)=true/\(PR (QL a l (Pj crew l).length))[j]?=some (t:Int)/\k<crew.length/\t<l.length/\
   Rh a (YL l t).2.1=(p:Int)/\(∃x,Iz a (p:Int)=some x/\x.2.1=QY a (YL l t).2.1)/\
   Yt w h c a crew l j=if UY w h c (Zn crew k).2.1 (QY a (YL l t).2.1)<100000 then some (t,k)else none:=by
 obtain⟨c1,c2,c3⟩:=eA hc hf a crew l;have hq:=c3 _ (XG hj);have hw:j<(QL a l (Pj crew l).length).length:=J
 obtain⟨a1,a2⟩:=X8 hj;obtain⟨b1,b2⟩:=X8 hq;obtain⟨d1,d2⟩:=X8 hw;obtain⟨f1,f2,f3,p,hp,f4,f5,f6⟩:=ZL ha (XG hw);obtain⟨g1,_⟩:=aJ (XG hq);have hM:j<(XE w h c a crew l).length:=by simpa[XE]using hw
 have yE:(XE w h c a crew l)[j]?=some ((Pj crew l).map λk=>UY w h c (Zn crew k).2.1 (QY a (YL l ((QL a l (Pj crew l).length).getD j 0)).2.1)):=by unfold XE;rw[AAe,AAM hw,List.getD,AAM hw];rfl
 refine⟨(RL w h c a crew l).getD j 0,(Pj crew l).getD ((RL w h c a crew l).getD j 0) 0,(QL a l (Pj crew l).length).getD j 0,p,_,a2,a1,b1,b2,PE hM,yE,PE (by simpa using hq),?_,d1,d2,g1,f1,f4,⟨a[p],PA hp,f6.symm⟩,rfl⟩;grind
theorem nZ(a:Is)(crew:ADS)(l:AAA)(w h:Int)(c:By)(j:Nat):sendAll a crew l ((List.range (j+1)).filterMap (Yt w h c a crew l))=match Yt w h c a crew l j with
  |some p=>RJ a crew l p (sendAll a crew l ((List.range j).filterMap (Yt w h c a crew l)))
  |none=>sendAll a crew l ((List.range j).filterMap (Yt w h c a crew l)):=by
 unfold sendAll;rw[ACB,List.filterMap_append,List.foldl_append];grind
theorem mx(hc:c.length<=1048576)(hf:PY w h c=true)(ha:a.length<=1048576){crew:ADS}(hcr:crew.length<=1048576){l:AAA}(hl:l.length<=60)(s x:Int)(n:Nat)(hn:PO<=n):
  iter n (Q8 n a (PR (Pj crew l)) (PR (QL a l (Pj crew l).length)) (XE w h c a crew l,x) (PR (RL w h c a crew l),s)) (0,crew,l)=some (((RL w h c a crew l).length:Int),sendAll a crew l (Pt w h c a crew l)):=by
 have h10:=aI crew l;obtain⟨c1,c2,c3⟩:=eA hc hf a crew l;have hcl:(RL w h c a crew l).length<=10:=by rw[c1];exact AA5 (a8 a l _ _ _) h10
 have:=Pc (Q8 n a (PR (Pj crew l)) (PR (QL a l (Pj crew l).length)) (XE w h c a crew l,x) (PR (RL w h c a crew l),s)) (λj=>((j:Int),sendAll a crew l ((List.range j).filterMap (Yt w h c a crew l)))) (RL w h c a crew l).length (((RL w h c a crew l).length:Int),sendAll a crew l (Pt w h c a crew l)) (λj hj=>by
  obtain⟨q,k,t,p,row,e1,e2,e3,e4,e5,e6,e7,e8,e9,e10,e11,e12,e13,⟨y,e14,e15⟩,e16⟩:=lk hc hf ha hj;have hlc:(PR (RL w h c a crew l)).length=(RL w h c a crew l).length:=by simp[PR]
  have hd:decide ((j:Int)<((PR (RL w h c a crew l)).length:Int))=true:=by rw[AAh,hlc];clear hn;omega
  rw[nZ,e16];have hsi:SI crew l (sendAll a crew l ((List.range j).filterMap (Yt w h c a crew l))):=SI.all _ _ (SI.first crew l);generalize sendAll a crew l ((List.range j).filterMap (Yt w h c a crew l))=st at hsi;obtain⟨cr,tk⟩:=st;have hw:PB ((j:Int)+1)=((j+1:Nat):Int):=O9 hj J;by_cases hcost:UY w h c (Zn crew k).2.1 (QY a (YL l t).2.1)<100000
  ·rw[AAS hcost];have yx:decide (UY w h c (Zn crew k).2.1 (QY a (YL l t).2.1)>=100000)=false:=ABc J;obtain⟨r,r1,r2⟩:=hsi.id k e11;obtain⟨u,u1,u2⟩:=hsi.PH t e12;have l1:=hsi.l1;have l2:=hsi.l2;dsimp only at r1 u1 l1 l2;have i1:OU cr (k:Int)=true:=PE J;have i4:OU tk (t:Int)=true:=PE J
   have g1:∀f g,(List.modify (List.modify tk t f) t g)[t]?=some (g (f u)):=λf g=>No
   simp only[Q8,WL,hd,ABT,ABV,ABW,e1,e2,e3,e4,e5,e6,e7,e8,e9,e10,ABS,yx,i1,i4,r1,g1,u2,(RE a ha _ n hn).1,e13,e14,e15,hw,RJ,r2]
  ·rw[AAT hcost];have yx:decide (UY w h c (Zn crew k).2.1 (QY a (YL l t).2.1)>=100000)=true:=ABY J;simp only[Q8,hd,ABT,ABW,e1,e2,e3,e4,e5,e6,e7,e8,ABS,yx,hw]) (by
  have hlc:(PR (RL w h c a crew l)).length=(RL w h c a crew l).length:=by simp[PR]
  have hd:decide (((RL w h c a crew l).length:Int)<((PR (RL w h c a crew l)).length:Int))=false:=by rw[AAr,hlc];clear hn;omega
  simp only[Q8,hd,ABV];rfl) n ADW
 exact this
theorem kv{crew:ADS}(hk:S1 w h c crew=true):PY w h c=true:=by unfold S1 at hk;grind
theorem bc(hc:c.length<=1048576)(ha:Pf a){crew:ADS}(hcr:crew.length<=1048576){l:AAA}(hl:l.length<=1048576)(n:Nat)(hn:PO<=n):Vr n w h c a crew l=some (mD w h c a crew l):=by
 have r1:decide (crew.length<=E8)=true:=by rw[AAh];simp[E8];clear hn;omega
 have r2:decide (l.length<=E8)=true:=by rw[AAh];simp[E8];clear hn;omega
 have hal:a.length<=1048576:=ha.1;have c1:Qp crew=some crew:=by unfold Qp;rw[r1];rfl
 have c2:Qb l=some l:=by unfold Qb;rw[r2];rfl
 unfold Vr mD ky;rw[X9];simp only[c1,c2,Ps w h c hc n hn,QK a ha n hn,S5 w h c hc crew hcr n hn,Ys l hl n hn,ABS];cases hk:S1 w h c crew with
 |false=>grind
 |true=>
  have hf:=kv hk;rw[hf];cases hs:Pw a with
  |false=>rfl
  |true=>cases ht:Sy l with
   |false=>rfl
   |true=>
    have h60:l.length<=60:=by unfold Sy at ht;simp only[AAN,AAh]at ht;exact ht.1
    have hil:(PR (Pj crew l)).length=(Pj crew l).length:=by simp[PR]
    obtain⟨s,s1,_⟩:=kt (jf hc hf a crew l) n hn;simp only[ABa,ABV,ABS,ik crew hcr l hl n hn,hil,gM a hal l h60 _ n hn,lF hc hf hal hcr h60 n hn,s1,AB7,ABT];rw[show PR (pk (PU (XE w h c a crew l)) (List.range (Pj crew l).length))=PR (RL w h c a crew l)from rfl,mx hc hf hal hcr h60 _ _ n hn];rfl
structure TP(l:AAA):Prop where
 len:l.length<=60
 qz:∀i (h:i<l.length),QA l[i]=true
 apart:∀i j (hi:i<l.length) (hj:j<i),Po l[i] l[j]=false
theorem dC:∀(l p:AAA),Rm p l=true↔(∀x∈l,QA x=true)/\(∀x∈l,∀u∈p,Po x u=false)/\l.Pairwise λu x=>Po x u=false
 | [],p=>by simp[Rm]
 |x::l,p=>by simp only[Rm,AAN,dC l (p++[x]),AAZ,AAa,ABq];grind
theorem WR{l:AAA}:Sy l=true↔TP l:=by
 unfold Sy;rw[AAN,AAh,dC];constructor
 ·rintro ⟨h1,h2,_,h3⟩
  exact⟨h1,λi h=>h2 _ (ABU h),λi j hi hj=>ABP.1 h3 j i J hi hj⟩
 ·rintro ⟨h1,h2,h3⟩
  refine⟨h1,λx hx=>?_,λ_ _ _ h=>ADf,ABP.2 λa b ha hb hab=>h3 b a hb hab⟩;obtain⟨i,hi,rfl⟩:=ABX.1 hx;exact h2 i hi
theorem mR(a:Is)(crew:ADS)(l:AAA):∀(prs:List (Nat×Nat)) (st:ADS×AAA),(prs.map (·.1)).Nodup->(prs.map (·.2)).Nodup->
  (∀k,((prs.foldl (λst p=>RJ a crew l p st) st).1)[k]?=match prs.find? (λp=>p.2==k)with
   |some p=>(st.1[k]?).map λy=>(y.1,y.2.1,QY a (YL l p.1).2.1,y.2.2.2.1,0)
   |none=>st.1[k]?)/\
  (∀i,((prs.foldl (λst p=>RJ a crew l p st) st).2)[i]?=match prs.find? (λp=>p.1==i)with
   |some p=>(st.2[i]?).map λy=>(y.1,y.2.1,(Zn crew p.2).1,2)
   |none=>st.2[i]?)
 | [],st,_,_=>⟨λk=>rfl,λi=>rfl⟩
 |p::prs,st,h1,h2=>by
  obtain⟨a1,a2⟩:=AAf.1 h1;obtain⟨b1,b2⟩:=AAf.1 h2;obtain⟨q1,q2⟩:=mR a crew l prs (RJ a crew l p st) a2 b2;refine⟨λk=>?_,λi=>?_⟩
  ·rw[List.foldl_cons,q1 k,List.find?_cons];by_cases e:p.2=k
   ·have hn:prs.find? (λp=>p.2==k)=none:=AB9.2 λx hx hb=>b1 (AAw.2 ⟨x,hx,(by simpa using hb:x.2=k).trans e.symm⟩);rw[hn,show(p.2==k)=true by simpa using e];simp only[RJ,ABf,e,if_true];grind
   ·rw[show(p.2==k)=false by simpa using e]
    have he:(RJ a crew l p st).1[k]?=st.1[k]?:=by simp only[RJ,ABf,e,if_false];grind
    rw[he]
  ·rw[List.foldl_cons,q2 i,List.find?_cons];by_cases e:p.1=i
   ·have hn:prs.find? (λp=>p.1==i)=none:=AB9.2 λx hx hb=>a1 (AAw.2 ⟨x,hx,(by simpa using hb:x.1=i).trans e.symm⟩);rw[hn,show(p.1==i)=true by simpa using e];simp only[RJ,ABf,e,if_true];grind
   ·rw[show(p.1==i)=false by simpa using e]
    have he:(RJ a crew l p st).2[i]?=st.2[i]?:=by simp only[RJ,ABf,e,if_false];grind
    rw[he]
structure nu(w h:Int)(c:By)(a:Is)(crew:ADS)(l:AAA)(prs:List (Nat×Nat)):Prop where
 n1:(prs.map (·.1)).Nodup
 n2:(prs.map (·.2)).Nodup
 az:∀p∈prs,p.1∈QL a l (Pj crew l).length
 wM:∀p∈prs,p.2∈Pj crew l
 xo:∀p∈prs,0<=UX w h c (Zn crew p.2).2.1 (QY a (YL l p.1).2.1)
theorem Y4(hc:c.length<=1048576)(hf:PY w h c=true)(a:Is)(crew:ADS)(l:AAA):nu w h c a crew l (Pt w h c a crew l):=by
 obtain⟨c1,c2,c3⟩:=eA hc hf a crew l;have hready:(QL a l (Pj crew l).length).Nodup:=List.Pairwise.imp (fun {x y} h=>by have:=h.1;omega) (fM a l _ (Ul l) 0)
 have hpd:∀j p,Yt w h c a crew l j=some p->p.1=(QL a l (Pj crew l).length).getD j 0/\p.2=(Pj crew l).getD ((RL w h c a crew l).getD j 0) 0/\0<=UX w h c (Zn crew p.2).2.1 (QY a (YL l p.1).2.1):=λj p hp=>by
  unfold Yt at hp;split at hp
  ·rename_i xz;injection hp with hp
   subst hp;refine⟨rfl,rfl,?_⟩;dsimp only;unfold UY at xz;by_cases q:UX w h c (Zn crew ((Pj crew l).getD ((RL w h c a crew l).getD j 0) 0)).2.1 (QY a (YL l ((QL a l (Pj crew l).length).getD j 0)).2.1)<0
   ·rw[AAS q]at xz;omega
   ·omega
  ·cases hp
 have hmem:∀p∈Pt w h c a crew l,∃j,j<(RL w h c a crew l).length/\Yt w h c a crew l j=some p:=λp hp=>by obtain⟨j,hj,e⟩:=List.mem_filterMap.1 hp;exact⟨j,AAb.1 hj,e⟩
 have at_ne:∀(s:It),s.Nodup->∀i j,i<s.length->j<s.length->i≠j->s.getD i 0≠s.getD j 0:=λs hs i j hi hj yF e=>by rw[List.getD,List.getD,AAM hi,AAM hj]at e;exact yF (fB hs hi hj e)
 have pw:(Pt w h c a crew l).Pairwise λp q=>p.1≠q.1/\p.2≠q.2:=by unfold Pt;rw[List.pairwise_filterMap];refine ACF (fun {i j} hi hj hij p hp q hq=>?_) (List.pairwise_lt_range (n:=(RL w h c a crew l).length));rw[AAb]at hi hj;obtain⟨p1,p2,_⟩:=hpd i p hp;obtain⟨q1,q2,_⟩:=hpd j q hq;rw[p1,p2,q1,q2];refine⟨at_ne _ hready i j J J J,at_ne _ (mv crew l) _ _ (c3 _ (XG hi)) (c3 _ (XG hj)) (at_ne _ c2 i j hi hj J)⟩
 refine⟨?_,?_,λp hp=>?_,λp hp=>?_,λp hp=>?_⟩
 ·unfold List.Nodup;rw[ABm];exact pw.imp λh=>h.1
 all_goals grind
theorem lz(hc:c.length<=1048576)(hf:PY w h c=true){a b:Int}(hs:0<=UX w h c a b):QU c b=true:=by
 cases hb:QU c b with
 |true=>rfl
 |false=>
  exfalso;obtain⟨_,e,_,_⟩:=fX hc hf a b PO (AAi _);obtain⟨k,k1,k2⟩:=S6 w h c hc hf b PO (AAi _);rw[hb]at k2;have k3:(k==0)=true:=by simpa using k2
  unfold S9 at e;grind
structure dG(a:Is)(crew:ADS)(l:AAA)(prs:List (Nat×Nat))(AAJ:ADS)(l':AAA):Prop where
 l1:AAJ.length=crew.length
 l2:l'.length=l.length
 rb:∀k (h:k<crew.length) (h':k<AAJ.length),(∃p∈prs,p.2=k/\AAJ[k]=(crew[k].1,crew[k].2.1,QY a (YL l p.1).2.1,crew[k].2.2.2.1,0))\/((∀p∈prs,p.2≠k)/\AAJ[k]=crew[k])
 tk:∀i (h:i<l.length) (h':i<l'.length),(∃p∈prs,p.1=i/\l'[i]=(l[i].1,l[i].2.1,(Zn crew p.2).1,2))\/((∀p∈prs,p.1≠i)/\l'[i]=l[i])
theorem VE{crew:ADS}{l:AAA}(h1:(prs.map (·.1)).Nodup)(h2:(prs.map (·.2)).Nodup):dG a crew l prs (sendAll a crew l prs).1 (sendAll a crew l prs).2:=by
 obtain⟨q1,q2⟩:=mR a crew l prs (crew,l) h1 h2;have hsi:=SI.all (a:=a) prs _ (SI.first crew l);have hfind:∀(P:Nat×Nat->Bool),prs.find? P=none->∀p∈prs,P p=false:=λP h p hp=>No
 refine⟨hsi.l1,hsi.l2,λk hk zJ=>?_,λi hi zc=>?_⟩
 ·have:=q1 k;change (sendAll a crew l prs).1[k]?=_ at this;grind
 ·have:=q2 i;change (sendAll a crew l prs).2[i]?=_ at this;grind
theorem cY{l:AAA}(h:i<l.length):YL l i=l[i]:=by unfold YL;grind
theorem cF{crew:ADS}(h:i<crew.length):Zn crew i=crew[i]:=by unfold Zn;grind
theorem bL{x u:PV}:Po x u=false↔¬(x.1=u.1/\x.2.1=u.2.1)/\(x.2.2.2≠1->x.2.2.1≠u.2.2.1/\(x.2.1=u.2.1->u.2.2.2=1)):=by unfold Po;grind
structure CW(c:By)(crew:ADS):Prop where
 n20:crew.length<=20
 rC:∀r∈crew,1<=r.1/\r.1<=99
 ni:∀r∈crew,QU c r.2.1=true
 goal:∀r∈crew,r.2.2.1 = -1\/QU c r.2.2.1=true
 qn:∀r∈crew,0<=r.2.2.2.2/\r.2.2.2.2<=1000000
 ids:crew.Pairwise λr s=>r.1<s.1
 gA:crew.Pairwise λr s=>r.2.1≠s.2.1
theorem XS(f:β->Int)(l:List β)(h:∀i (hi:i+1<l.length),f l[i]<f l[i+1]):l.Pairwise λx y=>f x<f y:=by
 rw[ABP]
 have key:∀d i (hj:i+d+1<l.length),f (l[i]'(by omega))<f l[i+d+1]:=by
  intro d
  induction d with
  |zero=>intro i hj;exact h i hj
  |succ d ih=>
   intro i hj;have h1:=ih i J;have h2:=h (i+d+1) J;have e:i+(d+1)+1=i+d+1+1:=J
   simp only[e];omega
 intro i j hi hj hij;have:=key (j-i-1) i J;grind
theorem iF{crew:ADS}(hi:i<crew.length):pD c crew i=true↔(1<=crew[i].1/\crew[i].1<=99)/\QU c crew[i].2.1=true/\(crew[i].2.2.1 = -1\/QU c crew[i].2.2.1=true)/\(0<=crew[i].2.2.2.2/\crew[i].2.2.2.2<=1000000)/\
  (∀j (hj:j+1=i),(crew[j]'(by omega)).1<crew[i].1)/\∀j (hj:j<i),(crew[j]'(by omega)).2.1≠crew[i].2.1:=by
 have hp:Qo (·.1) crew i crew[i]=true↔∀j (hj:j+1=i),(crew[j]'(by omega)).1<crew[i].1:=by
  cases i with
  |zero=>exact⟨λ_ j hj=>J,λ_=>rfl⟩
  |succ k=>
   simp only[Qo,AAM (show k<crew.length by omega),AAa,AAr]
   exact⟨λh j hj=>by
    have:j=k:=J
    subst this;omega,λh=>by have:=h k rfl;omega⟩
 have ha:((crew.take i).all λy => !(y.2.1==crew[i].2.1))=true↔∀j (hj:j<i),(crew[j]'(by omega)).2.1≠crew[i].2.1:=by
  rw[AAZ];constructor
  ·intro h j hj;have:=h crew[j] (ABX.2 ⟨j,ADb,so⟩);simpa using this
  ·intro h y hy;obtain⟨j,hj,rfl⟩:=ABX.1 hy;have hji:j<i:=by simp at hj;omega
   have:=h j hji;simpa using this
 unfold pD;rw[AAM hi];simp only[AAN,hp,ha,AAg,AAX];unfold P7;grind
theorem UZ{crew:ADS}:S1 w h c crew=true↔PY w h c=true/\CW c crew:=by
 unfold S1;simp only[AAN,AAh,AAZ,AAb];constructor
 ·rintro ⟨⟨hf,hn⟩,zA⟩
  have hr:∀i (hi:i<crew.length),_:=λi hi=>(iF hi).1 (zA i hi)
  refine⟨hf,⟨hn,λr yi=>?_,λr yi=>?_,λr yi=>?_,λr yi=>?_,XS _ _ λi hi=>(hr (i+1) hi).2.2.2.2.1 i rfl,ABP.2 λi j hi hj hij=>(hr j hj).2.2.2.2.2 i hij⟩⟩ <;>
   (obtain⟨i,hi,rfl⟩:=ABX.1 yi)
  ·exact(hr i hi).1
  ·exact(hr i hi).2.1
  ·exact(hr i hi).2.2.1
  ·exact(hr i hi).2.2.2.1
 ·rintro ⟨hf,hw⟩
  refine⟨⟨hf,hw.n20⟩,λi hi=>(iF hi).2 ?_⟩;have hm:=ABU hi;exact⟨hw.rC _ hm,hw.ni _ hm,hw.goal _ hm,hw.qn _ hm,λj hj=>ABP.1 hw.ids j i J hi J,λj hj=>ABP.1 hw.gA j i J hi hj⟩
theorem nu.gU{crew:ADS}{l:AAA}(hd:nu w h c a crew l prs)(hc:CW c crew){p:Nat×Nat}(hp:p∈prs):∃hk:p.2<crew.length,1<=crew[p.2].1/\crew[p.2].1<=99/\crew[p.2].2.2.1 = -1/\crew[p.2].2.2.2.1=false/\∀j (hj:j<l.length),l[j].2.2.1≠crew[p.2].1:=by obtain⟨hk,hi⟩:=aJ (hd.wM p hp);have h1:=hc.rC _ (ABU hk);unfold iw at hi;grind
theorem nu.WT(ha:a.length<=1048576){crew:ADS}{l:AAA}(hd:nu w h c a crew l prs){p:Nat×Nat}(hp:p∈prs):∃hk:p.1<l.length,l[p.1].2.2.2=1/\l[p.1].2.1∉Ul l/\∃i,∃hi:i<a.length,Rh a l[p.1].2.1=(i:Int)/\a[i].1=l[p.1].2.1/\QY a l[p.1].2.1=a[i].2.1:=by obtain⟨q1,q2,q3,q4⟩:=ZL ha (hd.az p hp);rw[cY q1]at q2 q3 q4;grind
theorem jc{l:AAA}{j:Nat}(hj:j<l.length)(yF:l[j].2.2.2≠1):l[j].2.1∈Ul l:=by unfold Ul;grind
theorem nu.two(ha:a.length<=1048576){crew:ADS}{l:AAA}(hd:nu w h c a crew l prs)(hc:CW c crew){p q:Nat×Nat}(hp:p∈prs)(hq:q∈prs)(yF:p.1≠q.1):
  (Zn crew p.2).1≠(Zn crew q.2).1/\(YL l p.1).2.1≠(YL l q.1).2.1:=by
 obtain⟨r1,_⟩:=hd.gU hc hp;obtain⟨r2,_⟩:=hd.gU hc hq;obtain⟨i,hi,rfl⟩:=ABX.1 hp;obtain⟨j,hj,rfl⟩:=ABX.1 hq;have hij:i≠j:=λq=>yF (by subst q;rfl)
 have h2:prs[i].2≠prs[j].2:=λe=>hij (by
  have h2:=hd.n2;have e2:(prs.map (·.2))[i]'(by grind)=(prs.map (·.2))[j]'(by grind):=by rw[ABi,ABi];exact e
  exact fB h2 _ _ e2)
 refine⟨λe=>h2 ?_,?_⟩
 ·rw[cF r1,cF r2]at e;rcases ABe prs[i].2 prs[j].2 with xz|xz|xz
  ·have:=ABP.1 hc.ids _ _ r1 r2 xz;omega
  ·exact xz
  ·have:=ABP.1 hc.ids _ _ r2 r1 xz;omega
 ·have pw:=fM a l (Pj crew l).length (Ul l) 0;obtain⟨t1,_⟩:=hd.WT ha hp;obtain⟨t2,_⟩:=hd.WT ha hq;have m1:=hd.az _ hp;have m2:=hd.az _ hq;rw[cY t1,cY t2];obtain⟨x,hx,ex⟩:=ABX.1 m1;obtain⟨y,hy,ey⟩:=ABX.1 m2
  have fwd:∀(x y:Nat) (hx:x<(QL a l (Pj crew l).length).length) (hy:y<(QL a l (Pj crew l).length).length) (s t:Nat) (hs:s<l.length) (ht:t<l.length),(QL a l (Pj crew l).length)[x]=s->(QL a l (Pj crew l).length)[y]=t->x<y->l[s].2.1≠l[t].2.1:=by intro x y hx hy s t hs ht es et xz;have:=(ABP.1 pw x y hx hy xz).2;have es':(Go.Ev.N.az a (Pj crew l).length (Ul l) 0 l)[x]'hx=s:=es;have et':(Go.Ev.N.az a (Pj crew l).length (Ul l) 0 l)[y]'hy=t:=et;simp only[es',et',Nat.sub_zero]at this;exact this hs ht
  grind
theorem dG.tasks(ha:a.length<=1048576){crew:ADS}{l:AAA}{l':AAA}(hs:dG a crew l prs AAJ l')(hd:nu w h c a crew l prs)(ht:TP l)(hc:CW c crew):TP l':=by
 have hl2:=hs.l2;refine⟨by rw[hl2];exact ht.len,λi hi=>?_,λi j hi hj=>?_⟩
 ·have hil:i<l.length:=J
  rcases hs.tk i hil hi with⟨p,hp,rfl,e⟩|⟨_,e⟩
  ·obtain⟨hk,r1,r2,_⟩:=hd.gU hc hp;have hg:=ht.qz p.1 hil;obtain⟨t1,t2,_⟩:=hd.WT ha hp;rw[e,cF hk];unfold QA at hg ⊢;grind
  ·rw[e];exact ht.qz i hil
 ·have hil:i<l.length:=J
  have hjl:j<l.length:=J
  have hold:=bL.1 (ht.apart i j hil hj);rw[bL];rcases hs.tk i hil hi with⟨p,hp,rfl,e⟩|⟨hno,e⟩
  ·obtain⟨hk,r1,r2,r3,r4,r5⟩:=hd.gU hc hp;obtain⟨t1,t2,t3,_⟩:=hd.WT ha hp;rcases hs.tk j hjl J with⟨q,hq,rfl,e2⟩|⟨hno2,e2⟩
   ·obtain⟨n1,n2⟩:=hd.two ha hc hp hq J;rw[cY hil,cY hjl]at n2;grind
   ·rw[e,e2,cF hk];refine⟨hold.1,λ_=>⟨λq=>r5 j hjl q.symm,λq=>?_⟩⟩;refine AAp λyF=>t3 ?_;have q:l[p.1].2.1=l[j].2.1:=q;rw[q];exact jc hjl yF
  ·rcases hs.tk j hjl J with⟨q,hq,rfl,e2⟩|⟨hno2,e2⟩
   ·obtain⟨hk,r1,r2,r3,r4,r5⟩:=hd.gU hc hq;obtain⟨t1,t2,t3,_⟩:=hd.WT ha hq;rw[e,e2,cF hk];refine⟨hold.1,λyF=>⟨r5 i hil,λq2=>?_⟩⟩;have q2:l[i].2.1=l[q.1].2.1:=q2;exact absurd (q2▸jc hil yF) t3
   grind
theorem dG.crew(hcl:c.length<=1048576)(hf:PY w h c=true){crew:ADS}{l:AAA}{l':AAA}(hs:dG a crew l prs AAJ l')(hd:nu w h c a crew l prs)(hc:CW c crew):CW c AAJ:=by
 have zx:=hs.l1
 have each:∀k (h:k<crew.length) (h':k<AAJ.length),AAJ[k].1=crew[k].1/\AAJ[k].2.1=crew[k].2.1/\(AAJ[k].2.2.1 = -1\/QU c AAJ[k].2.2.1=true)/\0<=AAJ[k].2.2.2.2/\AAJ[k].2.2.2.2<=1000000:=λk hk zJ=>by
  rcases hs.rb k hk zJ with⟨p,hp,rfl,e⟩|⟨_,e⟩
  ·rw[e];exact⟨rfl,rfl,.inr (lz hcl hf (hd.xo p hp)),No,No⟩
  ·rw[e];have hm:=ABU hk;exact⟨rfl,rfl,hc.goal _ hm,hc.qn _ hm⟩
 have mem:∀r∈AAJ,∃k,∃h:k<crew.length,∃h':k<AAJ.length,AAJ[k]=r:=λr hr=>by obtain⟨k,hk,rfl⟩:=ABX.1 hr;grind
 refine⟨by rw[zx];exact hc.n20,λr hr=>?_,λr hr=>?_,λr hr=>?_,λr hr=>?_,?_,?_⟩
 ·obtain⟨k,h,h',rfl⟩:=mem r hr;rw[(each k h h').1];exact hc.rC _ (ABU h)
 ·obtain⟨k,h,h',rfl⟩:=mem r hr;rw[(each k h h').2.1];exact hc.ni _ (ABU h)
 ·grind
 ·grind
 ·refine ABP.2 λi j hi hj hij=>?_;rw[(each i J hi).1,(each j J hj).1];exact ABP.1 hc.ids i j J J hij
 ·refine ABP.2 λi j hi hj hij=>?_;rw[(each i J hi).2.1,(each j J hj).2.1];exact ABP.1 hc.gA i j J J hij
theorem Xj(key:β->Int)(a:List β)(i:Nat)(hi:i<a.length):Qo key a i a[i]=true↔∀j (hj:j+1=i),key (a[j]'(by omega))<key a[i]:=by
 cases i with
 |zero=>exact⟨λ_ j hj=>J,λ_=>rfl⟩
 |succ k=>
  simp only[Qo,AAM (show k<a.length by omega),AAa,AAr];grind
theorem jN{l:OF}:Ql l=true↔Tl l:=by
 constructor
 ·intro h;unfold Ql at h;simp only[AAN,AAZ,AAb,AAh]at h;obtain⟨h1,h2⟩:=h
  have each:∀i (hi:i<l.length),(1<=l[i].1/\l[i].1<=50)/\(1<=l[i].2.1/\l[i].2.1<=1000)/\(0<=l[i].2.2/\l[i].2.2<=l[i].2.1)/\∀j (hj:j+1=i),(l[j]'(by omega)).1<l[i].1:=λi hi=>by have:=h1 i hi;unfold WH at this;rw[AAM hi]at this;unfold P7 at this;simp only[AAN,AAh,Xj (·.1) l i hi]at this;exact⟨this.1.1.1,this.1.1.2,this.1.2,this.2⟩
  refine⟨XS _ _ λi hi=>(each (i+1) hi).2.2.2 i rfl,λx hx=>?_,h2⟩;obtain⟨i,hi,rfl⟩:=ABX.1 hx;obtain⟨e1,e2,e3,_⟩:=each i hi;omega
 ·exact Tl.ok
theorem Pz:Pw a=true↔PQ a:=by
 constructor
 ·intro h;unfold Pw at h;simp only[AAN,AAZ,AAb,AAh]at h;obtain⟨h1,h2⟩:=h
  have each:∀i (hi:i<a.length),(1<=a[i].1/\a[i].1<=999)/\(0<=a[i].2.1/\a[i].2.1<=99)/\Tl a[i].2.2/\(∀j (hj:j+1=i),(a[j]'(by omega)).1<a[i].1)/\∀j (hj:j<i),(a[j]'(by omega)).2.1≠a[i].2.1:=λi hi=>by have:=h2 i hi;unfold cy at this;rw[AAM hi]at this;unfold P7 at this;simp only[AAN,AAh,Xj (·.1) a i hi,jN,AAZ]at this;refine⟨this.1.1.1.1,this.1.1.1.2,this.1.1.2,this.1.2,λj hj=>?_⟩;have:=this.2 (a[j]'(by omega)) (ABX.2 ⟨j,ADb,so⟩);simpa using this
  have ids:=XS (λx:PK=>x.1) a λi hi=>(each (i+1) hi).2.2.2.1 i rfl;refine⟨h1,ABP.2 λi j hi hj hij=>⟨ABP.1 ids i j hi hj hij,(each j hj).2.2.2.2 i hij⟩,λp hp=>?_⟩;obtain⟨i,hi,rfl⟩:=ABX.1 hp;obtain⟨e1,e2,e3,_⟩:=each i hi;grind
 ·exact PQ.ok
def Q7(l:OF)(k:Int)(f:O8->O8):OF:=l.map λy=>bif y.1==k then f y else y
def WS(a:Is)(PH:Int)(f:OF->OF):Is:=a.map λp=>bif p.1==PH then(p.1,p.2.1,f p.2.2)else p
theorem Vj(h:PQ a)(hi:i<a.length)(f:OF->OF):a.modify i (λp=>(p.1,p.2.1,f p.2.2))=WS a a[i].1 f:=by
 apply ABx;intro j;unfold WS;rw[ABf,AAe];by_cases hj:j<a.length
 ·rw[AAM hj];by_cases e:i=j
  ·subst e;simp
  ·have yF:(a[j].1==a[i].1)=false:=by
    rw[ABZ];intro q;rcases ABe i j with hl|hl|hl
    ·have:=(ABP.1 h.2.1 i j hi hj hl).1;omega
    ·exact e hl
    ·have:=(ABP.1 h.2.1 j i hj hi hl).1;omega
   simp[e,yF]
 grind
theorem mS{l:OF}(h:Tl l)(hi:i<l.length)(f:O8->O8):l.modify i f=Q7 l l[i].1 f:=by
 apply ABx;intro j;unfold Q7;rw[ABf,AAe];by_cases hj:j<l.length
 ·rw[AAM hj];by_cases e:i=j
  ·subst e;simp
  ·have yF:(l[j].1==l[i].1)=false:=by
    rw[ABZ];intro q;rcases ABe i j with hl|hl|hl
    ·have:=ABP.1 h.1 i j hi hj hl;omega
    ·exact e hl
    ·have:=ABP.1 h.1 j i hj hi hl;omega
   simp[e,yF]
 grind
theorem SM{l:OF}(h:Tl l)(hx:x∈l):PL l x.1=x:=by
 unfold PL;cases hf:l.find? λy=>y.1==x.1 with
 |none=>grind
 |some y=>
  have hy:=ABo hf;have he:y.1=x.1:=by simpa using ACQ hf
  obtain⟨i,hi,rfl⟩:=ABX.1 hx;obtain⟨j,hj,rfl⟩:=ABX.1 hy;rcases ABe i j with hl|hl|hl
  ·have:=ABP.1 h.1 i j hi hj hl;omega
  ·subst hl;rfl
  ·have:=ABP.1 h.1 j i hj hi hl;omega
theorem RG{l:OF}(h:∀x∈l,x.1≠k):PL l k=(k,0,0):=by unfold PL;grind
theorem RA{l:OF}(h:Tl l)(k:Int):0<=(PL l k).2.1/\(PL l k).2.1<=1000/\0<=(PL l k).2.2/\(PL l k).2.2<=(PL l k).2.1/\(PL l k).1=k:=by
 unfold PL;cases hf:l.find? λy=>y.1==k with
 |none=>grind
 |some y=>
  have:=h.2.1 y (ABo hf);grind
theorem pC{l:OF}(h:Tl l)(hk:∃z∈l,z.1=k)(d:Int):gR (k,(PL l k).2.1,(PL l k).2.2+d) l=Q7 l k λy=>(y.1,y.2.1,y.2.2+d):=by
 unfold gR Q7;refine ABh λy hy=>?_;by_cases e:y.1=k
 ·subst e;rw[SM h hy]
 grind
theorem kW{l:OF}(h:Tl l)(k d:Int)(hd:∀y∈l,y.1=k->0<=y.2.2+d/\y.2.2+d<=y.2.1):Tl (Q7 l k λy=>(y.1,y.2.1,y.2.2+d)):=by
 have key:∀y:O8,(bif y.1==k then(y.1,y.2.1,y.2.2+d)else y).1=y.1:=λy=>No
 refine⟨?_,λz hz=>?_,by unfold Q7;rw[ABp];exact h.2.2⟩
 ·unfold Q7;rw[ABm];exact h.1.imp λh=>No
 ·unfold Q7 at hz;obtain⟨y,hy,rfl⟩:=AAw.1 hz;have hy2:=h.2.1 y hy;grind
theorem fy(h:PQ a)(PH:Int)(f:OF->OF)(hf:∀p∈a,p.1=PH->Tl (f p.2.2)):PQ (WS a PH f):=by
 have key:∀p:PK,(bif p.1==PH then(p.1,p.2.1,f p.2.2)else p).1=p.1/\(bif p.1==PH then(p.1,p.2.1,f p.2.2)else p).2.1=p.2.1:=λp=>No
 refine⟨by unfold WS;rw[ABp];exact h.1,?_,λz hz=>?_⟩
 ·unfold WS;rw[ABm];exact h.2.1.imp λh=>No
 ·unfold WS at hz;obtain⟨p,hp,rfl⟩:=AAw.1 hz;have hp2:=h.2.2 p hp;grind
def RH(a:Is)(PH k:Int):O8:=match a[(Rh a PH).toNat]? with
 |some p=>PL p.2.2 k
 |none=>(k,0,0)
def P1(a:Is)(PH k m:Int):Int:=bif Pw a&&(P7 k 1 50&&P7 m 1 1000)then(if Rh a PH<0 then 2 else 0)else 1
def Tn(a:Is)(PH k d:Int):Is:=WS a PH λl=>Q7 l k λy=>(y.1,y.2.1,y.2.2+d)
def Zx(a:Is)(PH k m:Int):Is×Int:=if P1 a PH k m≠0 then(a,P1 a PH k m)else if(RH a PH k).2.1-(RH a PH k).2.2<m then(a,3)else(Tn a PH k m,0)
def Xa(a:Is)(PH k m:Int):Is×Int:=if P1 a PH k m≠0 then(a,P1 a PH k m)else if(RH a PH k).2.2<m then(a,3)else(Tn a PH k (-m),0)
theorem QQ{PH m:Int}(h:P1 a PH k m=0):PQ a/\(1<=k/\k<=50)/\(1<=m/\m<=1000)/\∃i,∃hi:i<a.length,Rh a PH=(i:Int)/\a[i].1=PH/\RH a PH k=PL a[i].2.2 k:=by
 unfold P1 at h;cases hs:(Pw a&&(P7 k 1 50&&P7 m 1 1000))with
 |false=>grind
 |true=>
  rw[hs,ABT]at h;unfold P7 at hs;simp only[AAN,AAh]at hs;have hS:=Pz.1 hs.1;refine⟨hS,hs.2.1,hs.2.2,?_⟩;have h12:=hS.1;rcases(RE a J PH PO (AAi _)).2 with⟨e,_⟩|⟨i,hi,e,e2⟩
  ·omega
  ·refine⟨i,hi,e,e2,?_⟩;unfold RH;grind
theorem iU(h:PQ a)(PH k d:Int)(hd:∀p∈a,p.1=PH->∀y∈p.2.2,y.1=k->0<=y.2.2+d/\y.2.2+d<=y.2.1):PQ (Tn a PH k d):=fy h PH _ λp hp e=>kW (h.2.2 p hp).2.2 k d (hd p hp e)
theorem Tw(h:PQ a)(hi:i<a.length){p:PK}(hp:p∈a)(e:p.1=a[i].1):p=a[i]:=by
 obtain⟨j,hj,rfl⟩:=ABX.1 hp;rcases ABe i j with hl|hl|hl
 ·have:=(ABP.1 h.2.1 i j hi hj hl).1;omega
 ·subst hl;rfl
 ·have:=(ABP.1 h.2.1 j i hj hi hl).1;omega
theorem jk(h:PQ a)(PH k m:Int):PQ (Zx a PH k m).1:=by
 unfold Zx;split
 ·exact h
 ·rename_i hc;split
  ·exact h
  ·rename_i xz;obtain⟨_,hk,hm,i,hi,e1,e2,e3⟩:=QQ (by omega:P1 a PH k m=0);refine iU h PH k m λp hp ep y hy ey=>?_;have:p=a[i]:=Tw h hi hp (ep.trans e2.symm);subst this;have hst:=(h.2.2 _ (ABU hi)).2.2;have hyb:=hst.2.1 y hy;rw[e3,<-ey,SM hst hy]at xz;omega
theorem jG(h:PQ a)(PH k m:Int):PQ (Xa a PH k m).1:=by
 unfold Xa;split
 ·exact h
 ·rename_i hc;split
  ·exact h
  ·rename_i xz;obtain⟨_,hk,hm,i,hi,e1,e2,e3⟩:=QQ (by omega:P1 a PH k m=0);refine iU h PH k (-m) λp hp ep y hy ey=>?_;have:p=a[i]:=Tw h hi hp (ep.trans e2.symm);subst this;have hst:=(h.2.2 _ (ABU hi)).2.2;have hyb:=hst.2.1 y hy;rw[e3,<-ey,SM hst hy]at xz;omega
theorem ed(a:Is)(hs:Pf a)(PH k m:Int)(n:Nat)(hn:PO<=n):Uh n a PH k m=some (if P1 a PH k m≠0 then(0,0,0,0,P1 a PH k m)else(Rh a PH,(RH a PH k).1,(RH a PH k).2.1,(RH a PH k).2.2,0)):=by
 have hl:a.length<=1048576:=hs.1;unfold Uh;rw[QM a hs n hn];simp only[ABS,QR];by_cases hc:P1 a PH k m=0
 ·rw[AAT (by rw[hc];simp)];obtain⟨h,hk,hm,i,hi,e1,e2,e3⟩:=QQ hc;rw[Pz.2 h,show P7 k 1 50=true by unfold P7;grind,show P7 m 1 1000=true by unfold P7;rw[ABY hm.1,ABY hm.2];rfl];have hd:decide (Rh a PH<0)=false:=by rw[e1,AAr];clear hn;omega
  simp only[ABa,ABV,ABS,(RE a hl PH n hn).1,hd];rw[e3,e1,PA hi,ABS,ct a[i] (by have:=(h.2.2 _ (ABU hi)).2.2.2.2;omega) k n hn];rfl
 ·rw[AAS hc];unfold P1 at hc ⊢;cases h1:Pw a with
  |false=>rfl
  |true=>cases h2:P7 k 1 50 with
   |false=>rfl
   |true=>cases h3:P7 m 1 1000 with
    |false=>rfl
    |true=>
     rw[h1,h2,h3]at hc;simp only[AB7,ABT]at hc ⊢
     have xz:Rh a PH<0:=by refine AAp λq=>hc ?_;rw[AAT q]
     simp only[ABa,ABV,ABS,(RE a hl PH n hn).1,ABY xz,ABT,AAS xz]
theorem nD(h:PQ a)(hi:i<a.length)(d:Int)(hz:∃z∈a[i].2.2,z.1=k)(n:Nat)(hn:PO<=n):
  TM n a (i:Int) k (PL a[i].2.2 k).2.1 ((PL a[i].2.2 k).2.2+d)=some (Tn a a[i].1 k d):=by
 have hst:=(h.2.2 _ (ABU hi)).2.2;obtain⟨z,hz1,hz2⟩:=hz
 have hpos:((PL a[i].2.2 k).2.1==0)=false:=by rw[<-hz2,SM hst hz1,ABZ];have:=hst.2.1 z hz1;clear hn;omega
 unfold TM;rw[P2 a h.sm n hn,ABS,PE hi,ABT];have hg:a[(i:Int).toNat]?=some a[i]:=by simp[hi]
 have hw:=nE a[i].2.2 hst (k,(PL a[i].2.2 k).2.1,(PL a[i].2.2 k).2.2+d) ⟨z,hz1,hz2⟩ hpos n hn;dsimp only at hw;rw[hg,ABS,ABS,hw,ABS,ABT,pC hst ⟨z,hz1,hz2⟩,ABW];unfold Tn;rw[<-Vj h hi];congr 1;apply ABx;grind
theorem gX(a:Is)(hs:Pf a)(PH k m:Int)(n:Nat)(hn:PO<=n):cL n a PH k m=some (Zx a PH k m):=by
 unfold cL Zx;rw[ed a hs PH k m n hn,ABS];by_cases hc:P1 a PH k m=0
 ·rw[AAT (by rw[hc];simp),AAT (by rw[hc];simp)];obtain⟨h,hk,hm,i,hi,e1,e2,e3⟩:=QQ hc;have hst:=(h.2.2 _ (ABU hi)).2.2;obtain⟨b1,b2,b3,b4,b5⟩:=RA hst k;dsimp only;rw[show((0:Int) != 0)=false from rfl,ABV,e3,PJ J J];by_cases xz:(PL a[i].2.2 k).2.1-(PL a[i].2.2 k).2.2<m
  ·rw[ABY xz,AAS xz,ABT,P2 a hs n hn];rfl
  ·rw[ABc xz,AAT xz,ABV,PJ J J,e1,b5]
   have hz:∃z∈a[i].2.2,z.1=k:=by refine AAp λq=>?_;rw[RG λx hx e=>q ⟨x,hx,e⟩]at xz;dsimp only at xz;clear hn;omega
   rw[nD h hi m hz n hn,e2];rfl
 ·rw[AAS hc,AAS hc];dsimp only;rw[show(P1 a PH k m != 0)=true by grind,ABT,P2 a hs n hn];rfl
theorem Xu{l:OF}(hs:Tl l)(p0 p1 k:Int)(n:Nat)(hn:PO<=n):
  ∃(j:Nat) (b:Bool),QF n p0 p1 l k=some ((j:Int),b)/\(b=true->∃h:j<l.length,l[j].1=k/\PL l k=l[j])/\(b=false->(∀x∈l,x.1≠k)/\PL l k=(k,0,0)):=by
 have h8:=hs.2.2
 obtain⟨j,h1,h2,h3,h4⟩:=aZ (QE l k) l.length (λi=>decide ((l.getD i (0,0,0)).1<k)) (λi hi=>by
  simp only[QE,PA hi,ABS,O9 hi (show l.length<=9223372036854775807 by clear hn;omega)];grind) (by simp[QE]) n ADW
 have hlow:∀i (hi:i<l.length),i<j->l[i].1<k:=by intro i hi hij;have:=h3 i hij;simpa[hi]using this
 unfold QF;rw[h2];by_cases hj:j<l.length
 ·have yx:=h4 hj;have yx:k<=l[j].1:=by simpa[hj]using yx
  refine⟨j,l[j].1==k,?_,λhb=>?_,λhb=>?_⟩
  ·simp[hj,PA hj]
  ·have e:l[j].1=k:=ADz
   exact⟨hj,e,by rw[<-e];exact SM hs (ABU hj)⟩
  ·have hno:∀x∈l,x.1≠k:=λx hx=>by
    obtain⟨i,hi,rfl⟩:=AB4 hx;have yF:l[j].1≠k:=ADz
    rcases ABe i j with q|q|q
    ·grind
    ·grind
    ·have:=ABP.1 hs.1 j i hj hi q;omega
   exact⟨hno,RG hno⟩
 ·have hno:∀x∈l,x.1≠k:=λx hx=>by obtain⟨i,hi,rfl⟩:=AB4 hx;have:=hlow i hi ADV;clear hn;omega
  refine⟨j,false,?_,λhb=>(by cases hb),λ_=>⟨hno,RG hno⟩⟩;grind
theorem XP(a:Is)(hs:Pf a)(PH k m:Int)(n:Nat)(hn:PO<=n):XO n a PH k m=some (if P1 a PH k m≠0 then(-1,P1 a PH k m)else(Rh a PH,0)):=by
 have hl:a.length<=1048576:=hs.1;unfold XO;rw[QK a hs n hn,WL];simp only[ABS,Tu,QR];by_cases hc:P1 a PH k m=0
 ·rw[AAT (by rw[hc];simp)];obtain⟨h,hk,hm,i,hi,e1,e2,e3⟩:=QQ hc;rw[Pz.2 h,show P7 k 1 50=true by unfold P7;grind,show P7 m 1 1000=true by unfold P7;rw[ABY hm.1,ABY hm.2];rfl];have hd:decide (Rh a PH>=0)=true:=by rw[e1,AAh];clear hn;omega
  simp only[ABa,ABV,ABS,(RE a hl PH n hn).1,hd,ABT]
 ·rw[AAS hc];unfold P1 at hc ⊢;cases h1:Pw a with
  |false=>rfl
  |true=>cases h2:P7 k 1 50 with
   |false=>rfl
   |true=>cases h3:P7 m 1 1000 with
    |false=>rfl
    |true=>
     rw[h1,h2,h3]at hc;simp only[AB7,ABT]at hc ⊢
     have xz:Rh a PH<0:=by refine AAp λq=>hc ?_;rw[AAT q]
     have hd:decide (Rh a PH>=0)=false:=by rw[AAr];clear hn;omega
     simp only[ABa,ABV,ABS,(RE a hl PH n hn).1,hd,AAS xz]
theorem Zz(a:Is)(hs:Pf a)(PH k m d:Int)(hd : -1000<=d/\d<=1000)(n:Nat)(hn:PO<=n):Ve n a PH k m d=some (if P1 a PH k m≠0 then(a,P1 a PH k m)else
  if(∃z,z∈(a.getD (Rh a PH).toNat (0,0,[])).2.2/\z.1=k)/\0<=(RH a PH k).2.2+d/\(RH a PH k).2.2+d<=(RH a PH k).2.1 then(Tn a PH k d,0)else(a,3)):=by
 unfold Ve;rw[Pa a hs n hn,XP a hs PH k m n hn];simp only[ABS];by_cases hc:P1 a PH k m=0
 ·rw[AAT (by rw[hc];simp),AAT (by rw[hc];simp)];obtain⟨h,hk,hm,i,hi,e1,e2,e3⟩:=QQ hc;have hst:=(h.2.2 _ (ABU hi)).2.2;obtain⟨b1,b2,b3,b4,b5⟩:=RA hst k;dsimp only;have hgD:a.getD (Rh a PH).toNat (0,0,[])=a[i]:=by rw[e1,ABW,List.getD,AAM hi];rfl
  rw[hgD,e3,e1];have xv:OU a (i:Int)=true:=PE hi;have hg:a[(i:Int).toNat]?=some a[i]:=by simp[hi]
  obtain⟨j,b,s1,s2,s3⟩:=Xu hst a[i].1 a[i].2.1 k n hn;rw[show((0:Int) != 0)=false from rfl];simp only[ABV,xv,ABT,hg,ABS,s1];cases b with
  |false=>
   obtain⟨q1,q2⟩:=s3 rfl;rw[AAT (λhh=>by obtain⟨⟨z,z1,z2⟩,_⟩:=hh;exact q1 z z1 z2)];rfl
  |true=>
   obtain⟨hj,q1,q2⟩:=s2 rfl;have hjn:OU a[i].2.2 (j:Int)=true:=PE hj;have hjg:a[i].2.2[(j:Int).toNat]?=some a[i].2.2[j]:=by simp[hj]
   rw[q2]at b1 b2 b3 b4 ⊢;have hw:PB (a[i].2.2[j].2.2+d)=a[i].2.2[j].2.2+d:=PJ ADV ADV;simp only[ABa,ABV,hjn,ABT,hjg,ABS,hw,Tu,QR];have hiff:P7 (a[i].2.2[j].2.2+d) 0 a[i].2.2[j].2.1=true↔0<=a[i].2.2[j].2.2+d/\a[i].2.2[j].2.2+d<=a[i].2.2[j].2.1:=by unfold P7;simp
   cases hb:P7 (a[i].2.2[j].2.2+d) 0 a[i].2.2[j].2.1 with
   |false=>
    rw[AAT (λhh=>by rw[hiff.2 hh.2]at hb;cases hb)];rfl
   |true=>
    rw[AAS ⟨⟨_,ABU hj,q1⟩,hiff.1 hb⟩];simp only[ABa,ABV];congr 2;unfold Tn;rw[<-e2,<-Vj h hi];apply ABx;intro u;rw[ABf,ABf,ABW]
    have key:a[i].2.2.modify (j:Int).toNat (λy=>(y.1,y.2.1,a[i].2.2[j].2.2+d))=Q7 a[i].2.2 k λy=>(y.1,y.2.1,y.2.2+d):=by
     rw[<-q1,<-mS hst hj,ABW];apply ABx;intro v;rw[ABf,ABf];by_cases e':j=v
     ·subst e';simp[hj]
     ·simp[e']
    by_cases e:i=u
    ·subst e;rw[AAM hi];simp only[if_true,Option.map_eq_map,ABA,key]
    ·simp[e]
 grind
theorem gF(a:Is)(hs:Pf a)(PH k m:Int)(n:Nat)(hn:PO<=n):Zg n a PH k m=some (Zx a PH k m):=by
 unfold Zg Zx;by_cases hc:P1 a PH k m=0
 ·obtain⟨h,hk,hm,i,hi,e1,e2,e3⟩:=QQ hc;rw[Zz a hs PH k m m J n hn];simp only[hc,ne_eq,not_true_eq_false,if_false,ABS];have hst:=(h.2.2 _ (ABU hi)).2.2;obtain⟨b1,b2,b3,b4,b5⟩:=RA hst k;have hgD:a.getD (Rh a PH).toNat (0,0,[])=a[i]:=by rw[e1,ABW,List.getD,AAM hi];rfl
  rw[hgD,e3];by_cases xz:(PL a[i].2.2 k).2.1-(PL a[i].2.2 k).2.2<m
  ·grind
  ·rw[AAT xz,AAS];refine⟨?_,ADV,ADV⟩;refine AAp λq=>?_;rw[RG λx hx e=>q ⟨x,hx,e⟩]at xz;grind
 ·have hk:Ve n a PH k m m=some (a,P1 a PH k m):=by unfold Ve;rw[Pa a hs n hn,XP a hs PH k m n hn,AAS hc];simp only[ABS,show(P1 a PH k m != 0)=true by simpa using hc,ABT]
  grind
theorem YC(a:Is)(hs:Pf a)(PH k m:Int)(n:Nat)(hn:PO<=n):Uy n a PH k m=some (Xa a PH k m):=by
 unfold Uy Xa;simp only[Tu,QR,ABS];cases hm1:P7 m 1 1000 with
 |false=>
  have hc:P1 a PH k m=1:=by unfold P1;rw[hm1];simp
  rw[AAS J,hc];simp only[ABn,ABT,Pa a hs n hn,ABS]
 |true=>
  have hm:1<=m/\m<=1000:=by unfold P7 at hm1;simpa using hm1
  have hneg:IntKind.wrap .i64 (Nk m) = -m:=by show PB (0-m) = -m;rw[PJ ADV ADV];clear hn;omega
  simp only[ABa,ABV,hneg];rw[Zz a hs PH k m (-m) ADV n hn,ABS];by_cases hc:P1 a PH k m=0
  ·obtain⟨h,hk,hm,i,hi,e1,e2,e3⟩:=QQ hc;simp only[hc,ne_eq,not_true_eq_false,if_false];have hst:=(h.2.2 _ (ABU hi)).2.2;obtain⟨b1,b2,b3,b4,b5⟩:=RA hst k;have hgD:a.getD (Rh a PH).toNat (0,0,[])=a[i]:=by rw[e1,ABW,List.getD,AAM hi];rfl
   rw[hgD,e3];by_cases xz:(PL a[i].2.2 k).2.2<m
   ·rw[AAS xz,AAT (λhh=>by have:=hh.2.1;clear hn;omega)]
   ·rw[AAT xz,AAS];refine⟨?_,ADV,ADV⟩;refine AAp λq=>?_;rw[RG λx hx e=>q ⟨x,hx,e⟩]at xz;dsimp only at xz;clear hn;omega
  grind
def Vb(f:Is->O8->Is×Int):OF->Is->Option Is
 | [],s=>some s
 |p::ps,s=>if(f s p).2≠0 then none else Vb f ps (f s p).1
def Qz(f:Is->O8->Is×Int)(a:Is)(ps:OF):Is×Bool:=match Vb f ps a with
 |some s=>(s,true)
 |none=>(a,false)
def WI(s:Is)(p:O8):Is×Int:=Zx s p.1 p.2.1 p.2.2
def ZM(s:Is)(p:O8):Is×Int:=Xa s p.1 p.2.1 p.2.2
theorem jl(h:Pf a)(PH k m:Int):Pf (Zx a PH k m).1:=by
 by_cases hc:P1 a PH k m=0
 ·exact(jk (QQ hc).1 PH k m).sm
 ·unfold Zx;grind
theorem qF(h:Pf a)(PH k m:Int):Pf (Xa a PH k m).1:=by
 by_cases hc:P1 a PH k m=0
 ·exact(jG (QQ hc).1 PH k m).sm
 ·unfold Xa;grind
theorem cg{f:Is->O8->Is×Int}{P:Is->Prop}(hf:∀s p,P s->P (f s p).1):∀(ps:OF)(s t:Is),P s->Vb f ps s=some t->P t
 | [],s,t,h,e=>by injection e with e;grind
 |p::ps,s,t,h,e=>by
  unfold Vb at e;split at e
  ·cases e
  ·exact cg hf ps _ t (hf s p h) e
theorem mA{f:Is->O8->Is×Int}{P:Is->Prop}(hf:∀s p,P s->P (f s p).1)(h:P a)(ps:OF):P (Qz f a ps).1:=by
 unfold Qz;cases e:Vb f ps a with
 |none=>exact h
 |some t=>exact cg hf ps a t h e
theorem Zb(L:Int×Is×Is->Option ((Int×Is×Is)⊕((Int×Is×Is)⊕(Is×Bool))))(f:Is->O8->Is×Int)(a:Is)(ps:OF)(hf:∀s p,Pf s->Pf (f s p).1)(ha:Pf a)
  (hL:∀(i:Nat)(s:Is)(hi:i<ps.length),Pf s->L ((i:Int),[],s)=some (bif(f s ps[i]).2 != 0 then .inr (.inr (a,false))else .inl (((i+1:Nat):Int),[],(f s ps[i]).1)))
  (he:∀s,L ((ps.length:Int),[],s)=some (.inr (.inl ((ps.length:Int),[],s)))) (n:Nat) (hn:ps.length<n):
  iter n L (0,[],a)=some (match Vb f ps a with|some t=>.inl ((ps.length:Int),[],t)|none=>.inr (a,false)):=by
 refine Ph (σ:=Is) L (λi s=>((i:Int),[],s)) ps (λl s=>match Vb f l s with|some t=>.inl ((ps.length:Int),[],t)|none=>.inr (a,false)) (λi s=>Pf s)
  (λs _=>by rw[he];rfl) (λi p l s h1 h2 h3 h4 h5=>?_) n hn a ha
 have hp:ps[i]=p:=by rw[AAM h1]at h2;exact Option.some.inj h2
 rw[hL i s h1 h5,hp];cases hc:((f s p).2 != 0)with
 |true=>
  right;unfold Vb;grind
 |false=>
  left;refine⟨(f s p).1,rfl,hf s p h5,?_⟩
  have e:Vb f (p::l) s=Vb f l (f s p).1:=by rw[Vb,AAT ADt]
  grind
theorem cM(a:Is)(ha:Pf a)(ps:OF)(hp:ps.length<=1048576)(n:Nat)(hn:PO<=n):Yg n a ps=some (Qz WI a ps):=by
 have h1:=Zb (VT n a ps 1) WI a ps (λs p hs=>jl hs _ _ _) ha (λi s hi hs=>by
  have hd:decide ((i:Int)<(ps.length:Int))=true:=ADi
  simp only[VT,hd,ABT,PA hi,ABS,gX s hs _ _ _ n hn,ABl,P2 a ha n hn,O9 hi (show ps.length<=9223372036854775807 by clear hn;omega)];show(bif(WI s ps[i]).2 != 0 then _ else _)=_;cases((WI s ps[i]).2 != 0)<;>rfl) (λs=>by simp[VT]) n ADW
 unfold Yg cz;rw[P2 a ha n hn,ABS,h1,ABS];unfold Qz;grind
theorem YB(a:Is)(ha:Pf a)(ps:OF)(hp:ps.length<=1048576)(n:Nat)(hn:PO<=n):Us n a ps=some (Qz WI a ps):=by
 have h1:=Zb (Sk n a ps) WI a ps (λs p hs=>jl hs _ _ _) ha (λi s hi hs=>by
  have hd:decide ((i:Int)<(ps.length:Int))=true:=ADi
  simp only[Sk,hd,ABT,PA hi,ABS,gF s hs _ _ _ n hn,Pa a ha n hn,O9 hi (show ps.length<=9223372036854775807 by clear hn;omega)];show(bif(WI s ps[i]).2 != 0 then _ else _)=_;cases((WI s ps[i]).2 != 0)<;>rfl) (λs=>by simp[Sk]) n ADW
 unfold Us XN;rw[Pa a ha n hn,ABS,h1,ABS];unfold Qz;grind
theorem Zr(a:Is)(ha:Pf a)(ps:OF)(hp:ps.length<=1048576)(n:Nat)(hn:PO<=n):UC n a ps=some (Qz ZM a ps):=by
 have h1:=Zb (Ra n a ps) ZM a ps (λs p hs=>qF hs _ _ _) ha (λi s hi hs=>by
  have hd:decide ((i:Int)<(ps.length:Int))=true:=ADi
  simp only[Ra,hd,ABT,PA hi,ABS,YC s hs _ _ _ n hn,Pa a ha n hn,O9 hi (show ps.length<=9223372036854775807 by clear hn;omega)];show(bif(ZM s ps[i]).2 != 0 then _ else _)=_;cases((ZM s ps[i]).2 != 0)<;>rfl) (λs=>by simp[Ra]) n ADW
 unfold UC U2;rw[Pa a ha n hn,ABS,h1,ABS];unfold Qz;grind
def Xi(a:Is)(PH:Int):Option PK:=a.find? λp=>p.1==PH
theorem kX{l:OF}(h:Tl l)(k d j:Int):PL (Q7 l k λy=>(y.1,y.2.1,y.2.2+d)) j=if j=k/\(∃z∈l,z.1=k)then((PL l k).1,(PL l k).2.1,(PL l k).2.2+d)else PL l j:=by
 have hk1:∀y:O8,(bif y.1==k then(y.1,y.2.1,y.2.2+d)else y).1=y.1:=λy=>No
 have hf:(Q7 l k λy=>(y.1,y.2.1,y.2.2+d)).find? (λx=>x.1==j)=(l.find? λx=>x.1==j).map λy=>bif y.1==k then(y.1,y.2.1,y.2.2+d)else y:=by unfold Q7;rw[ACN];congr 1;refine congrArg (λq=>List.find? q l) (funext λx=>?_);simp only[Function.comp,hk1]
 unfold PL;rw[hf];cases hq:l.find? λx=>x.1==j with
 |none=>
  grind
 |some y=>
  have hy:=ABo hq;have ey:y.1=j:=by simpa using ACQ hq
  by_cases e:j=k
  ·subst e;rw[AAS ⟨rfl,y,hy,ey⟩,hq];simp[ey]
  grind
def Xb(l:ADT):Prop:=l.Pairwise (λa b=>a.1<b.1)/\(∀x∈l,1<=x.1/\x.1<=50/\1<=x.2/\x.2<=1000)/\l.length<=6
theorem Xb.ok{l:ADT}(h:Xb l)(n:Nat)(hn:PO<=n):Qs n l=some true:=by
 obtain⟨h1,h2,h3⟩:=h
 have:=Qf (P0 l) (λi=>(i:Int)) l.length (λ_=>true) (λi hi=>by
  have hp:(bif decide ((i:Int)>0)then(Iz l (PB ((i:Int)-1))).bind (λy=>some (decide (y.1>=l[i].1)))else some false)=some (!Qo (·.1) l i l[i]):=X3 (·.1) l l[i] i hi J some;obtain⟨a1,a2,a3,a4⟩:=h2 _ (ABU hi);rw[ZI h1 (λx y h=>h) i hi]at hp;simp only[P0,PA hi,ABS,QR,O9 hi J,hp];rw[show decide ((i:Int)<(l.length:Int))=true by simpa using hi,show P7 l[i].1 1 50=true by simp[P7];omega,show P7 l[i].2 1 1000=true by simp[P7];omega];rfl) (by simp[P0]) n ADW
 unfold Qs;grind
def Q4(k:Int):OF->Int
 | []=>0
 |p::r=>(bif p.2.1==k then p.2.2 else 0)+Q4 k r
theorem dv(k:Int):∀(x y:OF),Q4 k (x++y)=Q4 k x+Q4 k y
 | [],y=>by simp[Q4]
 |p::x,y=>by simp only[ABC,Q4,dv k x y];omega
theorem VX(k:Int):∀(x:OF),(∀p∈x,1<=p.2.2)->0<=Q4 k x
 | [],_=>by simp[Q4]
 |p::x,h=>by have h1:=VX k x λq hq=>h q (AAQ _ hq);have h2:=h p AAo;simp only[Q4];grind
theorem l8(k:Int):∀(x:OF),(∀p∈x,p.2.1≠k)->Q4 k x=0
 | [],_=>rfl
 |p::x,h=>by
  have h1:=l8 k x λq hq=>h q (AAQ _ hq);have h2:(p.2.1==k)=false:=by simpa using h p AAo
  simp only[Q4,h1,h2,ABV];rfl
def W6:OF->Int
 | []=>0
 |p::r=>p.2.2+W6 r
def P8(m f:Int):Int:=bif decide (m<f)then m else f
def Pm(pid:Int)(fr:Int->Int):ADT->OF
 | []=>[]
 |y::r=>bif decide (P8 y.2 (fr y.1)>0)then(pid,y.1,P8 y.2 (fr y.1))::Pm pid fr r else Pm pid fr r
theorem aA(pid:Int)(fr:Int->Int):∀l,(Pm pid fr l).length<=l.length
 | []=>by simp[Pm]
 |y::r=>by have:=aA pid fr r;simp only[Pm];grind
theorem Vi(m f:Int):P8 m f<=m/\P8 m f<=f:=by unfold P8;grind
theorem XF(pid:Int)(fr:Int->Int):∀l,∀p∈Pm pid fr l,p.1=pid/\1<=p.2.2/\∃y∈l,y.1=p.2.1/\p.2.2<=y.2
 | [],p,h=>by cases h
 |y::r,p,h=>by
  simp only[Pm]at h;have up:=λh=>let ⟨a,b,z,hz,h1,h2⟩:=XF pid fr r p h;(⟨a,b,z,AAQ _ hz,h1,h2⟩:p.1=pid/\1<=p.2.2/\∃w∈y::r,w.1=p.2.1/\p.2.2<=w.2)
  by_cases hg:P8 y.2 (fr y.1)>0
  ·rw[show decide (P8 y.2 (fr y.1)>0)=true by simpa using hg,ABT]at h;rcases AAj.1 h with h|h
   ·subst h;exact⟨rfl,by show 1<=P8 y.2 (fr y.1);omega,y,AAo,rfl,(Vi _ _).1⟩
   ·exact up h
  grind
theorem aB(pid:Int)(fr:Int->Int):∀(l:ADT),l.Pairwise (λa b=>a.1<b.1)->(∀y∈l,0<=y.2)->∀y∈l,Q4 y.1 (Pm pid fr l)<=y.2
 | [],_,_,y,hy=>by cases hy
 |z::r,hp,h0,y,hy=>by
  obtain⟨h1,h2⟩:=ABq.1 hp;have hz0:=h0 z AAo;have hle:=(Vi z.2 (fr z.1)).1;simp only[Pm];rcases AAj.1 hy with e|hy
  ·subst e
   have hn:Q4 y.1 (Pm pid fr r)=0:=l8 _ _ λp hp'=>by obtain⟨_,_,w,hw,e,_⟩:=XF pid fr r p hp';grind
   cases decide (P8 y.2 (fr y.1)>0)with
   |true=>simp only[ABT,Q4,ABl,hn];omega
   |false=>grind
  ·have ih:=aB pid fr r h2 (λw hw=>h0 w (AAQ _ hw)) y hy;have yF:(z.1==y.1)=false:=by have:=h1 y hy;rw[<-ABt];simp;omega
   cases decide (P8 z.2 (fr z.1)>0)with
   |true=>simp only[ABT,Q4,yF,ABV];omega
   |false=>grind
def PW(p:PK)(k:Int):Int:=(PL p.2.2 k).2.1-(PL p.2.2 k).2.2
theorem Zc(p:PK)(h:Tl p.2.2)(k:Int):0<=PW p k/\PW p k<=1000:=by
 unfold PW PL;cases hf:p.2.2.find? (λx=>x.1==k)with
 |none=>simp
 |some x=>
  have:=h.2.1 x (ABo hf);grind
def cZ(l:ADT):Prop:=l.Pairwise (λa b=>a.1<b.1)/\(∀y∈l,0<=y.2/\y.2<=1000)/\l.length<=6
theorem ee(p:PK)(h:Tl p.2.2)(l:ADT)(hl:cZ l)(n:Nat)(hn:PO<=n):W5 n p.1 p.2.1 p.2.2 l=some (Pm p.1 (PW p) l,W6 (Pm p.1 (PW p) l)):=by
 have h6:=hl.2.2
 have hc:=Ph (σ:=OF×Int) (UP n p.1 p.2.1 p.2.2 l) (λi s=>(s.1,s.2,(i:Int))) l (λr s=>(s.1++Pm p.1 (PW p) r,s.2+W6 (Pm p.1 (PW p) r),(l.length:Int)))
  (λi s=>s.1.length<=i/\0<=s.2/\s.2<=1000*(i:Int)/\i<=6)
  (λs hs=>by simp[UP,Pm,W6])
  (λi y r s h1 h2 h3 h4 h5=>by
   left;have hy:l[i]=y:=by rw[AAM h1]at h2;exact Option.some.inj h2
   obtain⟨out,sum⟩:=s;obtain⟨q1,q2,q3,q4⟩:=h5;dsimp only at q1 q2 q3;have hy2:=hl.2.1 y (by rw[<-hy];exact ABU h1);have yw:=Zc p h y.1;unfold UP;dsimp only;rw[show decide ((i:Int)<(l.length:Int))=true by simpa using h1,ABT,PA h1,hy,O9 h1 J];simp only[ABS];rw[ct p (by have:=h.2.2;omega) y.1 n hn,ABS]
   have hw:PB ((PL p.2.2 y.1).2.1-(PL p.2.2 y.1).2.2)=PW p y.1:=by unfold PW at yw ⊢;rw[PJ J J]
   rw[hw];have zd:(bif decide (y.2<PW p y.1)then some y.2 else some (PW p y.1))=some (P8 y.2 (PW p y.1)):=mm _ _ _;rw[zd,ABS];have hle:=Vi y.2 (PW p y.1);by_cases hg:P8 y.2 (PW p y.1)>0
   ·rw[show decide (P8 y.2 (PW p y.1)>0)=true by simpa using hg,ABT,show decide (out.length+[(p.1,y.1,P8 y.2 (PW p y.1))].length<=E8)=true from SV J,ABT,ABS];rw[PJ (n:=sum+P8 y.2 (PW p y.1)) J J];refine⟨(out++[(p.1,y.1,P8 y.2 (PW p y.1))],sum+P8 y.2 (PW p y.1)),rfl,⟨by show(out++[_]).length<=i+1;rw[ABE,ABb];omega,by show 0<=sum+P8 y.2 (PW p y.1);omega,by show sum+P8 y.2 (PW p y.1)<=1000*((i+1:Nat):Int);omega,J⟩,?_⟩;simp only[Pm];rw[show decide (P8 y.2 (PW p y.1)>0)=true by simpa using hg,ABT];simp only[W6,ABk,ACA,ACP]
   ·rw[show decide (P8 y.2 (PW p y.1)>0)=false by simpa using hg,ABV,ABS];refine⟨(out,sum),rfl,⟨by show out.length<=i+1;omega,q2,by show sum<=1000*((i+1:Nat):Int);omega,J⟩,?_⟩;simp only[Pm];rw[show decide (P8 y.2 (PW p y.1)>0)=false by simpa using hg,ABV])
  n ADW (([]:OF),(0:Int)) ⟨so,so,so,J⟩
 unfold W5;grind
def dZ(p:O8)(l:ADT):ADT:=l.map λy=>bif y.1==p.2.1 then(y.1,PB (y.2-p.2.2))else y
def aq{β:Type}(f:β->β)(l:List β)(i:Nat):List β:=(l.take i).map f++l.drop i
theorem jA(f:β->β)(l:List β)(m k:Nat):(aq f l m)[k]?=(l[k]?).map λa=>if k<m then f a else a:=by unfold aq;grind
theorem j6(f:β->β)(l:List β)(i:Nat):(aq f l i).length=l.length:=by unfold aq;simp;omega
theorem j7(f g:β->β)(l:List β)(i:Nat)(hi:i<l.length)(hg:g l[i]=f l[i]):(aq f l i).modify i g=aq f l (i+1):=by
 apply ABx;intro j;rw[ABf,jA,jA];by_cases hj:j<l.length
 all_goals grind
theorem nK(f:β->β)(l:List β)(i:Nat)(hi:i<l.length)(hf:f l[i]=l[i]):aq f l i=aq f l (i+1):=by have:=j7 f id l i hi hf.symm;rw[<-this];apply ABx;grind
theorem oe(f:β->β)(l:List β):aq f l l.length=l.map f:=by unfold aq;simp
theorem pB(bt:OF)(sm:Int)(z:ADT)(k:Nat)(hk:k<bt.length)(l:ADT)(hl:l.length<=6)(n:Nat)(hn:PO<=n):
  iter n (T5 (bt,sm) ((k:Int),z)) (0,l)=some ((l.length:Int),dZ bt[k] l):=by
 have:=Pc (T5 (bt,sm) ((k:Int),z)) (λi=>((i:Int),aq (λy=>bif y.1==bt[k].2.1 then(y.1,PB (y.2-bt[k].2.2))else y) l i)) l.length ((l.length:Int),dZ bt[k] l) (λi hi=>by
  have hg:=jA (λy=>bif y.1==bt[k].2.1 then(y.1,PB (y.2-bt[k].2.2))else y) l i i;rw[AAM hi]at hg;simp only[ABA,Nat.lt_irrefl,if_false]at hg;have hlen:=j6 (λy=>bif y.1==bt[k].2.1 then(y.1,PB (y.2-bt[k].2.2))else y) l i;unfold T5;dsimp only;rw[hlen,show decide ((i:Int)<(l.length:Int))=true by simpa using hi,ABT];have xv:OU (aq (λy=>bif y.1==bt[k].2.1 then(y.1,PB (y.2-bt[k].2.2))else y) l i) (i:Int)=true:=PE (by rw[hlen];exact hi);have hbt:bt[(k:Int).toNat]?=some bt[k]:=by simp[hk]
  simp only[xv,PE hk,ABT,ABW,hg,ABS,AAM hk];rw[O9 hi J];cases hq:(l[i].1==bt[k].2.1)with
  |true=>
   rw[ABT,ABS,j7 _ _ l i hi (by rw[hq];rfl)]
  |false=>
   rw[ABV,ABS,<-nK _ l i hi (by rw[hq];rfl)]) (by
  unfold T5;dsimp only;rw[j6,oe];simp[dZ]) n ADW
 have h0:aq (λy=>bif y.1==bt[k].2.1 then(y.1,PB (y.2-bt[k].2.2))else y) l 0=l:=by unfold aq;simp
 grind
theorem pS(p:O8)(l:ADT):(dZ p l).length=l.length:=by unfold dZ;simp
theorem o9(bt:OF)(hbt:bt.length<=6)(sm:Int)(l:ADT)(hl:l.length<=6)(n:Nat)(hn:PO<=n):
  iter n (T4 n (bt,sm)) (0,l)=some ((bt.length:Int),bt.foldl (λl p=>dZ p l) l):=by
 have:=Ph (σ:=ADT) (T4 n (bt,sm)) (λi s=>((i:Int),s)) bt (λr s=>((bt.length:Int),r.foldl (λl p=>dZ p l) s)) (λi s=>s.length<=6)
  (λs hs=>by unfold T4;simp) (λi p r s h1 h2 h3 h4 h5=>by
   left;have hp:bt[i]=p:=by rw[AAM h1]at h2;exact Option.some.inj h2
   refine⟨dZ p s,?_,by rw[pS];exact h5,rfl⟩;unfold T4;dsimp only;rw[show decide ((i:Int)<(bt.length:Int))=true by grind,ABT,pB bt sm s i h1 s h5 n hn,ABS,O9 h1 J,hp])
  n ADW l hl
 exact this
theorem mW:∀(bt:OF)(l:ADT),(∀p∈bt,1<=p.2.2)->(∀y∈l,Q4 y.1 bt<=y.2/\y.2<=1000)->bt.foldl (λl p=>dZ p l) l=l.map λy=>(y.1,y.2-Q4 y.1 bt)
 | [],l,_,_=>by simp[Q4]
 |p::bt,l,h1,h2=>by
  have hp:=h1 p AAo;have hr:=λq hq=>h1 q (AAQ p hq)
  have e:dZ p l=l.map λy=>(y.1,y.2-bif p.2.1==y.1 then p.2.2 else 0):=by
   unfold dZ;refine ABh λy hy=>?_;obtain⟨q1,q2⟩:=h2 y hy;have hpos:=VX y.1 bt hr;simp only[Q4]at q1;have hc:(y.1==p.2.1)=(p.2.1==y.1):=by rw[AB0];simp;exact eq_comm
   rw[hc];cases hq:(p.2.1==y.1)with
   |true=>
    rw[hq]at q1;simp only[ABT]at q1 ⊢;rw[PJ J J]
   |false=>simp
  rw[List.foldl_cons,e,mW bt _ hr,ACT]
  ·refine ABh λy hy=>?_;simp only[Function.comp_apply,Q4];grind
  ·intro y hy;obtain⟨z,hz,rfl⟩:=AAw.1 hy;obtain⟨q1,q2⟩:=h2 z hz;simp only[Q4]at q1;grind
def VV:ADT->Int
 | []=>0
 |y::r=>y.2+VV r
theorem cT:∀(l:ADT),(∀y∈l,0<=y.2)->0<=VV l/\(VV l=0->∀y∈l,y.2=0)
 | [],_=>⟨by simp[VV],λ_ y hy=>by cases hy⟩
 |z::r,h=>by obtain⟨h1,h2⟩:=cT r λy hy=>h y (AAQ _ hy);have hz:=h z AAo;refine⟨by simp only[VV];omega,λe y hy=>?_⟩;simp only[VV]at e;grind
theorem o8(x:OF×Bool×OF×OF×ADT×ADj)(hl:cZ x.2.2.2.2.1)(n:Nat)(hn:PO<=n):iter n (T3 x) (0,0)=some (VV x.2.2.2.2.1,(x.2.2.2.2.1.length:Int)):=by
 obtain⟨x1,x2,x3,x4,l,x6⟩:=x;dsimp only at hl ⊢;have h6:=hl.2.2
 have:=Ph (σ:=Int) (T3 (x1,x2,x3,x4,l,x6)) (λi s=>(s,(i:Int))) l (λr s=>(s+VV r,(l.length:Int))) (λi s=>0<=s/\s<=1000*(i:Int)/\i<=6)
  (λs hs=>by unfold T3;simp[VV]) (λi y r s h1 h2 h3 h4 h5=>by
   left;have hy:l[i]=y:=by rw[AAM h1]at h2;exact Option.some.inj h2
   have hy2:=hl.2.1 y (by rw[<-hy];exact ABU h1);refine⟨s+y.2,?_,⟨J,J,J⟩,by simp only[VV,ACP]⟩;unfold T3;dsimp only;rw[show decide ((i:Int)<(l.length:Int))=true by simpa using h1,ABT,PE h1,ABT,ABW,h2,ABS,O9 h1 J,PJ (n:=s+y.2) J J])
  n ADW 0 ⟨J,J,J⟩
 grind
def PG(o:OF)(want:ADT):Prop:=(∀p∈o,1<=p.2.2/\∃y∈want,y.1=p.2.1)/\∀y∈want,Q4 y.1 o=y.2
def WW:ADj->Nat
 | []=>0
 |b::r=>(bif b then 0 else 1)+WW r
theorem aD:∀(u:ADj)(j:Nat),u[j]?=some false->WW (DL u j true)+1=WW u/\(DL u j true).length=u.length
 | [],j,h=>ADf
 |b::r,0,h=>by simp at h;subst h;simp[DL,WW];omega
 |b::r,j+1,h=>by obtain⟨h1,h2⟩:=aD r j ADh;simp only[DL,WW,ABH,h2,and_true];omega
theorem aC:∀n,WW (List.replicate n false)=n
 |0=>rfl
 |n+1=>by rw[List.replicate_succ];simp only[WW,aC n,ABV];omega
def leftOf(want:ADT)(o:OF):ADT:=want.map λy=>(y.1,y.2-Q4 y.1 o)
theorem jw(h:Xb want)(h1:∀p∈o,1<=p.2.2)(h2:∀y∈want,Q4 y.1 o<=y.2):cZ (leftOf want o):=by
 refine⟨?_,λy hy=>?_,by unfold leftOf;rw[ABp];exact h.2.2⟩
 ·unfold leftOf;rw[ABm];exact h.1
 ·unfold leftOf at hy;obtain⟨z,hz,rfl⟩:=AAw.1 hy;have q1:=h2 z hz;have q2:=VX z.1 o h1;have q3:=h.2.1 z hz;omega
def tp:OF->Int->Int->Int
 | [],_,_=>0
 |p::r,PH,k=>(if p.1=PH/\p.2.1=k then p.2.2 else 0)+tp r PH k
theorem aX:∀(x y:OF)(PH k:Int),tp (x++y) PH k=tp x PH k+tp y PH k
 | [],y,PH,k=>by simp[tp]
 |p::x,y,PH,k=>by simp only[ABC,tp,aX x y PH k];omega
theorem aY:∀(x:OF),(∀p∈x,1<=p.2.2)->∀PH k,0<=tp x PH k
 | [],_,_,_=>by simp[tp]
 |p::x,h,PH,k=>by have h1:=aY x (λq hq=>h q (AAQ _ hq)) PH k;have h2:=h p AAo;simp only[tp];omega
theorem kU:∀(x:OF)(PH k:Int),(∀p∈x,p.1=PH->p.2.1≠k)->tp x PH k=0
 | [],_,_,_=>rfl
 |p::x,PH,k,h=>by have h1:=kU x PH k λq hq=>h q (AAQ _ hq);have h2:=h p AAo;simp only[tp,h1];omega
def jW(f:Int->Int->Int)(p:PK):PK:=(p.1,p.2.1,p.2.2.map λy=>(y.1,y.2.1,y.2.2+f p.1 y.1))
def Pq(a:Is)(f:Int->Int->Int):Is:=a.map (jW f)
theorem Y6(a:Is)(f:Int->Int->Int)(h:∀PH k,f PH k=0):Pq a f=a:=by
 unfold Pq
 have:jW f=id:=funext λp=>by
  unfold jW;have:(λy:O8=>(y.1,y.2.1,y.2.2+f p.1 y.1))=id:=funext λy=>by rw[h];simp
  rw[this,List.map_id];rfl
 rw[this,List.map_id]
theorem ia(a:Is){g:Int->Int->Int}(h:∀PH k,f PH k=g PH k):Pq a f=Pq a g:=by rw[show f=g from funext λp=>funext λk=>h p k]
theorem aG(a:Is)(f:Int->Int->Int):(Pq a f).length=a.length:=by unfold Pq;grind
theorem gp(h:i<(Pq a f).length):(Pq a f)[i]=jW f (a[i]'(by rw[aG]at h;exact h)):=ABi (jW f)
theorem jT(p:O8)(rs:OF):tp (p::rs) p.1 p.2.1=p.2.2+tp rs p.1 p.2.1:=by show(if p.1=p.1/\p.2.1=p.2.1 then p.2.2 else 0)+tp rs p.1 p.2.1=_;omega
theorem pf(a:Is)(f:Int->Int->Int)(PH k d:Int):Tn (Pq a f) PH k d=Pq a λp s=>f p s+if p=PH/\s=k then d else 0:=by
 unfold Tn WS Pq Q7;rw[ACT];refine ABh λp _=>?_;simp only[Function.comp,jW];by_cases hp:p.1=PH
 ·rw[show(p.1==PH)=true from AAX.2 hp,ABT,ACT];refine congrArg (λl=>(p.1,p.2.1,l)) (ABh λy _=>?_);simp only[Function.comp];by_cases hy:y.1=k
  ·rw[show(y.1==k)=true from AAX.2 hy,ABT,AAS ⟨hp,hy⟩,ACP]
  ·rw[show(y.1==k)=false from ABZ.2 hy,ABV,AAT (λh=>hy h.2),Int.add_zero]
 grind
theorem aU(l:OF)(g:Int->Int)(k:Int):PL (l.map λy=>(y.1,y.2.1,y.2.2+g y.1)) k=match l.find? (λx=>x.1==k)with
  |some x=>(x.1,x.2.1,x.2.2+g k)
  |none=>(k,0,0):=by
 unfold PL;rw[ACN];have:((λx:O8=>x.1==k) ∘ λy:O8=>(y.1,y.2.1,y.2.2+g y.1))=λx:O8=>x.1==k:=rfl;grind
theorem mr(p:PK)(f:Int->Int->Int)(k:Int)(h0:PW p k=0->f p.1 k=0):PW (jW f p) k=PW p k-f p.1 k:=by unfold PW at h0 ⊢;unfold jW;rw[aU p.2.2 (f p.1) k];unfold PL at h0 ⊢;grind
theorem eJ(h:PQ a)(hi:i<a.length){m:Int}(hk:1<=k/\k<=50)(hm:1<=m/\m<=1000):P1 a a[i].1 k m=0/\RH a a[i].1 k=PL a[i].2.2 k:=by
 have h12:=h.1;rcases(RE a J a[i].1 PO (AAi _)).2 with⟨_,e⟩|⟨j,hj,e,e2⟩
 ·grind
 ·have eij:a[j]=a[i]:=Tw h hi (ABU hj) e2;refine⟨?_,?_⟩
  ·unfold P1 P7;rw[Pz.2 h,ABY hk.1,ABY hk.2,ABY hm.1,ABY hm.2,e];simp
  ·unfold RH;grind
structure Fits(a:Is)(ps:OF):Prop where
 each:∀p∈ps,(1<=p.2.1/\p.2.1<=50)/\(1<=p.2.2/\p.2.2<=1000)/\∃i,∃h:i<a.length,a[i].1=p.1
 free:∀q∈a,∀k,tp ps q.1 k<=PW q k
theorem Fits.pos(h:Fits a ps)(PH k:Int):0<=tp ps PH k:=aY ps (λp hp=>(h.each p hp).2.1.1) PH k
theorem Fits.init{qs rs:OF}(h:Fits a (qs++rs)):Fits a qs:=by have h1:=λp hp=>h.each p (AAY rs hp);refine⟨h1,λq hq k=>?_⟩;have h2:=h.free q hq k;have h3:=aY rs (λp hp=>(h.each p (AAV qs hp)).2.1.1) q.1 k;rw[aX]at h2;omega
theorem Fits.to(h:Fits a ps)(ha:PQ a){q:PK}(hq:q∈a)(k:Int):PW (jW (tp ps) q) k=PW q k-tp ps q.1 k:=by refine mr q (tp ps) k λe=>?_;have h1:=h.free q hq k;have h2:=h.pos q.1 k;omega
theorem ic{a:Is}(ha:PQ a):∀(rs qs:OF),PQ (Pq a (tp qs))->Fits a (qs++rs)->Vb WI rs (Pq a (tp qs))=some (Pq a (tp (qs++rs)))/\PQ (Pq a (tp (qs++rs)))
 | [],qs,hs,_=>by rw[AA4];exact⟨rfl,hs⟩
 |p::rs,qs,hs,hf=>by
  obtain⟨hk,hm,i,hi,e⟩:=hf.each p (AAV _ AAo);have hi2:i<(Pq a (tp qs)).length:=by rw[aG];exact hi
  have zB:=gp hi2;have hid:(Pq a (tp qs))[i].1=p.1:=by rw[zB];exact e
  obtain⟨c1,c2⟩:=eJ hs hi2 hk hm;rw[hid]at c1 c2;have hfree:=hf.free _ (ABU hi) p.2.1;have hto:=hf.init.to ha (ABU hi) p.2.1;have hrs:=aY rs (λq hq=>(hf.each q (AAV _ (AAQ _ hq))).2.1.1) p.1 p.2.1;rw[aX,e,jT]at hfree;rw[e]at hto;have yx:p.2.2<=PW (jW (tp qs) a[i]) p.2.1:=J
  have hneg:¬((PL (jW (tp qs) a[i]).2.2 p.2.1).2.1-(PL (jW (tp qs) a[i]).2.2 p.2.1).2.2<p.2.2):=by unfold PW at yx;omega
  have hh:WI (Pq a (tp qs)) p=(Pq a (tp (qs++[p])),0):=by
   unfold WI Zx;rw[c1,AAT J,c2,zB,AAT hneg,pf];refine congrArg (λs=>(s,(0:Int))) (ia a λPH k=>?_);rw[aX];simp only[tp]
   have:(if PH=p.1/\k=p.2.1 then p.2.2 else 0)=(if p.1=PH/\p.2.1=k then p.2.2 else 0:Int):=by
    by_cases hc:p.1=PH/\p.2.1=k
    ·rw[AAS hc,AAS ⟨hc.1.symm,hc.2.symm⟩]
    ·rw[AAT hc,AAT (λh=>hc ⟨h.1.symm,h.2.symm⟩)]
   rw[this];omega
  have hS:PQ (Pq a (tp (qs++[p]))):=by have:=jk hs p.1 p.2.1 p.2.2;unfold WI at hh;rw[hh]at this;exact this
  have ih:=ic ha rs (qs++[p]) hS No;rw[ABk]at ih;rw[Vb,hh,AAT so];exact ih
theorem gq(ha:PQ a)(hf:Fits a ps):Qz WI a ps=(Pq a (tp ps),true)/\PQ (Pq a (tp ps)):=by have h0:Pq a (tp [])=a:=Y6 a _ λ_ _=>rfl;have:=ic ha ps [] (by rw[h0];exact ha) hf;rw[h0,AAy]at this;unfold Qz;grind
theorem gr(ha:PQ a){qs rs:OF}(hs:PQ (Pq a (tp qs)))(hf:Fits a (qs++rs)):Qz WI (Pq a (tp qs)) rs=(Pq a (tp (qs++rs)),true)/\PQ (Pq a (tp (qs++rs))):=by have:=ic ha rs qs hs hf;unfold Qz;grind
def pt(a:Is)(k:Int):Int:=match a with
 | []=>0
 |p::r=>PW p k+pt r k
def Z5(a:Is)(ps:OF)(k:Int):Int:=match a with
 | []=>0
 |p::r=>tp ps p.1 k+Z5 r ps k
def X2(a:Is)(p:O8)(k:Int):Int:=match a with
 | []=>0
 |q::r=>(if p.1=q.1/\p.2.1=k then p.2.2 else 0)+X2 r p k
theorem iA(p:O8)(k:Int):∀(a:Is),(∀q∈a,q.1≠p.1)->X2 a p k=0
 | [],_=>rfl
 |q::r,h=>by have h1:=h q AAo;have h2:=iA p k r λz hz=>h z (AAQ _ hz);simp only[X2,h2];omega
theorem cA(p:O8)(k:Int):∀(a:Is),a.Pairwise (λx y=>x.1≠y.1)->(∃q∈a,q.1=p.1)->X2 a p k=bif p.2.1==k then p.2.2 else 0
 | [],_,⟨q,hq,_⟩=>by cases hq
 |q::r,hp,⟨z,hz,ez⟩=>by
  obtain⟨h1,h2⟩:=ABq.1 hp;simp only[X2];by_cases hq:q.1=p.1
  ·rw[iA p k r λy hy e=>h1 y hy (hq.trans e.symm)];grind
  ·rcases AAj.1 hz with e|hz
   ·grind
   ·rw[AAT (λh=>hq h.1.symm),cA p k r h2 ⟨z,hz,ez⟩];omega
theorem fp(p:O8)(ps:OF)(k:Int):∀(a:Is),Z5 a (p::ps) k=X2 a p k+Z5 a ps k
 | []=>rfl
 |q::r=>by simp only[Z5,X2,fp p ps k r,tp];omega
theorem iO(k:Int):∀(a:Is),Z5 a [] k=0
 | []=>rfl
 |q::r=>by simp only[Z5,iO k r,tp];rfl
theorem fq(k:Int)(a:Is)(ha:a.Pairwise λx y=>x.1≠y.1):∀(ps:OF),(∀p∈ps,∃q∈a,q.1=p.1)->Z5 a ps k=Q4 k ps
 | [],_=>iO k a
 |p::ps,h=>by rw[fp,cA p k a ha (h p AAo),fq k a ha ps λq hq=>h q (AAQ _ hq)];rfl
def bl(l:ADT)(i:Nat):Bool:=match l[i]? with
 |some x=>P7 x.1 1 50&&P7 x.2 1 1000&&Qo (·.1) l i x
 |none=>false
def Vf(l:ADT):Bool:=(List.range l.length).all (bl l)&&decide (l.length<=6)
theorem Vg{l:ADT}:Vf l=true↔Xb l:=by
 constructor
 ·intro h;unfold Vf at h;simp only[AAN,AAh,AAZ,AAb]at h;obtain⟨zA,h6⟩:=h
  have hi:∀i (hi:i<l.length),(1<=l[i].1/\l[i].1<=50)/\(1<=l[i].2/\l[i].2<=1000)/\Qo (·.1) l i l[i]=true:=by intro i hi;have:=zA i hi;unfold bl P7 at this;rw[AAM hi]at this;simp only[AAN,AAh]at this;exact⟨this.1.1,this.1.2,this.2⟩
  refine⟨XS _ _ λi hi2=>(Xj (·.1) l (i+1) hi2).1 (hi (i+1) hi2).2.2 i rfl,λx hx=>?_,h6⟩;obtain⟨i,hi2,rfl⟩:=ABX.1 hx;grind
 ·rintro ⟨h1,h2,h3⟩
  unfold Vf;simp only[AAN,AAh,AAZ,AAb];refine⟨λi hi=>?_,h3⟩;obtain⟨a1,a2,a3,a4⟩:=h2 _ (ABU hi);unfold bl P7;rw[AAM hi];simp only[AAN,AAh];exact⟨⟨⟨a1,a2⟩,a3,a4⟩,ZI h1 (λx y h=>h) i hi⟩
theorem Vm(l:ADT)(hl:l.length<=1048576)(n:Nat)(hn:PO<=n):Qs n l=some (Vf l):=by
 have:=Qf (P0 l) (λi=>(i:Int)) l.length (bl l) (λi hi=>by
  have hp:(bif decide ((i:Int)>0)then(Iz l (PB ((i:Int)-1))).bind (λy=>some (decide (y.1>=l[i].1)))else some false)=some (!Qo (·.1) l i l[i]):=X3 (·.1) l l[i] i hi hl some;unfold bl;rw[AAM hi];simp only[P0,PA hi,ABS,QR,O9 hi (show l.length<=9223372036854775807 by clear hn;omega),hp];grind) (by simp[P0]) n ADW
 unfold Qs Vf;rw[show((0:Nat):Int)=0 from rfl]at this;rw[this,ABS];cases(List.range l.length).all (bl l)with
 |false=>rfl
 |true=>
  rw[ABT,ABy];show some (decide ((l.length:Int)<=6))=_;rw[show decide ((l.length:Int)<=6)=decide (l.length<=6) by rw[decide_eq_decide];clear hn;omega]
theorem Ry(l:ADT)(hl:l.length<=1048576)(n:Nat)(hn:PO<=n):RZ n l=some (Vf l):=by rw[ea,Vm l hl n hn]
theorem j5(m f:Int):M1 m f=P8 m f:=by unfold M1 P8;grind
theorem eT(p:PK)(h:Tl p.2.2)(l:ADT)(hl:cZ l)(n:Nat)(hn:PO<=n):YU n p.1 p.2.1 p.2.2 l=some (Pm p.1 (PW p) l,W6 (Pm p.1 (PW p) l)):=by
 have h6:=hl.2.2
 have hc:=Ph (σ:=OF×Int) (Vz n p.1 p.2.1 p.2.2 l) (λi s=>(s.1,s.2,(i:Int))) l (λr s=>(s.1++Pm p.1 (PW p) r,s.2+W6 (Pm p.1 (PW p) r),(l.length:Int)))
  (λi s=>s.1.length<=i/\0<=s.2/\s.2<=1000*(i:Int)/\i<=6)
  (λs hs=>by simp[Vz,Pm,W6])
  (λi y r s h1 h2 h3 h4 h5=>by
   left;have hy:l[i]=y:=by rw[AAM h1]at h2;exact Option.some.inj h2
   obtain⟨out,sum⟩:=s;obtain⟨q1,q2,q3,q4⟩:=h5;dsimp only at q1 q2 q3;have hy2:=hl.2.1 y (by rw[<-hy];exact ABU h1);have yw:=Zc p h y.1;obtain⟨j,b,e,e1,e2⟩:=Xu h p.1 p.2.1 y.1 n hn;have hle:=Vi y.2 (PW p y.1);unfold Vz;dsimp only;rw[show decide ((i:Int)<(l.length:Int))=true by simpa using h1,ABT,PA h1,hy,O9 h1 (show l.length<=9223372036854775807 by clear hn;omega)];simp only[ABS];rw[e,ABS];dsimp only;cases b with
   |false=>
    have hz:PW p y.1=0:=by unfold PW;rw[(e2 rfl).2];rfl
    have hng:¬P8 y.2 (PW p y.1)>0:=ADV
    refine⟨(out,sum),rfl,⟨by show out.length<=i+1;clear hn;omega,q2,by show sum<=1000*((i+1:Nat):Int);clear hn;omega,ADV⟩,?_⟩;simp only[Pm];rw[ABc hng,ABV]
   |true=>
    obtain⟨hj,_,ej⟩:=e1 rfl
    have hw:PB (p.2.2[j].2.1-p.2.2[j].2.2)=PW p y.1:=by
     unfold PW at yw ⊢;rw[ej]at yw ⊢;rw[PJ ADV ADV]
    simp only[ABa,ABV,PA hj,ABS,hw,j5];by_cases hg:P8 y.2 (PW p y.1)>0
    ·rw[ABY hg,ABT,show decide (out.length+[(p.1,y.1,P8 y.2 (PW p y.1))].length<=E8)=true from SV ADV,ABT,ABS];rw[PJ (n:=sum+P8 y.2 (PW p y.1)) ADV ADV];refine⟨(out++[(p.1,y.1,P8 y.2 (PW p y.1))],sum+P8 y.2 (PW p y.1)),rfl,⟨by show(out++[_]).length<=i+1;rw[ABE,ABb];clear hn;omega,by show 0<=sum+P8 y.2 (PW p y.1);clear hn;omega,by show sum+P8 y.2 (PW p y.1)<=1000*((i+1:Nat):Int);clear hn;omega,ADV⟩,?_⟩;simp only[Pm];rw[ABY hg,ABT];simp only[W6,ABk,ACA,ACP]
    ·rw[ABc hg,ABV,ABS];refine⟨(out,sum),rfl,⟨by show out.length<=i+1;clear hn;omega,q2,by show sum<=1000*((i+1:Nat):Int);clear hn;omega,ADV⟩,?_⟩;simp only[Pm];rw[ABc hg,ABV])
  n ADW (([]:OF),(0:Int)) ⟨so,so,so,J⟩
 unfold YU;grind
def aO(l:ADT)(bt:OF):ADT:=(l.map λy=>(y.1,y.2-Q4 y.1 bt)).filter λy=>decide (y.2>0)
theorem iq(bt:OF)(hb:bt.length<=72)(h1:∀p∈bt,1<=p.2.2)(k m:Int)(ht:Q4 k bt<=m)(hm:m<=1000)(n:Nat)(hn:PO<=n):
  iter n (U6 bt) (0,k,m)=some ((bt.length:Int),k,m-Q4 k bt):=by
 have hc:=Ph (σ:=Int) (U6 bt) (λi s=>((i:Int),k,s)) bt (λr s=>((bt.length:Int),k,s-Q4 k r)) (λi s=>Q4 k (bt.drop i)<=s/\s<=1000)
  (λs hs=>by unfold U6;simp[Q4])
  (λi p r s g1 g2 g3 g4 g5=>by
   left;have hp:bt[i]=p:=by rw[AAM g1]at g2;exact Option.some.inj g2
   have hmem:p∈bt:=by rw[<-hp];exact ABU g1
   have hpp:=h1 p hmem;have hrp:=VX k r λq hq=>h1 q (ACD (i:=i) No);obtain⟨g5,g6⟩:=g5;rw[g3]at g5;simp only[Q4]at g5;rw[g4];unfold U6;dsimp only;rw[show decide ((i:Int)<(bt.length:Int))=true by grind,ABT,PA g1,hp,ABS,O9 g1 (show bt.length<=9223372036854775807 by omega)];simp only[Q4];cases hq:(p.2.1==k)with
   |true=>
    rw[hq,ABT]at g5;rw[ABT,ABS,PJ (n:=s-p.2.2) ADV ADV];grind
   |false=>
    rw[hq,ABV]at g5;rw[ABV,ABS];grind)
  n ADW m ⟨ht,hm⟩
 exact hc
theorem gJ(l:ADT)(hl:l.length<=6)(bt:OF)(hb:bt.length<=72)(h1:∀p∈bt,1<=p.2.2)(ht:∀y∈l,Q4 y.1 bt<=y.2/\y.2<=1000)(n:Nat)(hn:PO<=n):Zl n l bt=some (aO l bt):=by
 have hc:=Ph (σ:=ADT) (Wp n l bt) (λi s=>(s,(i:Int))) l (λr s=>(s++aO r bt,(l.length:Int))) (λi s=>s.length<=i)
  (λs hs=>by unfold Wp;simp[aO])
  (λi y r s g1 g2 g3 g4 g5=>by
   left;have hy:l[i]=y:=by rw[AAM g1]at g2;exact Option.some.inj g2
   obtain⟨t1,t2⟩:=ht y (by rw[<-hy];exact ABU g1);unfold Wp;dsimp only;rw[show decide ((i:Int)<(l.length:Int))=true by rw[AAh];clear hn;omega,ABT,PA g1,hy,ABS,O9 g1 (show l.length<=9223372036854775807 by clear hn;omega),iq bt hb h1 y.1 y.2 t1 t2 n hn,ABS];dsimp only;by_cases hg:y.2-Q4 y.1 bt>0
   ·rw[ABY hg,ABT,show decide (s.length+[(y.1,y.2-Q4 y.1 bt)].length<=E8)=true from SV ADV,ABT,ABS];refine⟨s++[(y.1,y.2-Q4 y.1 bt)],rfl,by rw[ABE,ABb];clear hn;omega,?_⟩;unfold aO;rw[ABI,ABz,AAS (by rw[AAh];exact hg),ABk,ACA]
   ·rw[ABc hg,ABV,ABS];refine⟨s,rfl,ADV,?_⟩;unfold aO;rw[ABI,ABz,AAT (by rw[AAh];exact hg)])
  n ADW [] so
 unfold Zl;grind
theorem Zw(pid:Int)(fr:Int->Int):∀l:ADT,Pm pid fr (l.filter λy=>decide (y.2>0))=Pm pid fr l
 | []=>rfl
 |y::r=>by
  have ih:=Zw pid fr r;rw[ABz];by_cases h:y.2>0
  ·rw[AAS No];simp only[Pm,ih]
  ·rw[AAT (by rw[AAh];exact h)];have:=(Vi y.2 (fr y.1)).1;simp only[Pm,ih];grind
theorem eB(pid:Int)(fr:Int->Int):∀l:ADT,(∀y∈l,0<y.2->fr y.1<=0)->Pm pid fr l=[]
 | [],_=>rfl
 |y::r,h=>by have ih:=eB pid fr r λz hz=>h z (AAQ _ hz);have h1:=h y AAo;have h2:=Vi y.2 (fr y.1);simp only[Pm,ih];grind
theorem iX(pid:Int){f g:Int->Int}(h:∀k,f k=g k)(l:ADT):Pm pid f l=Pm pid g l:=by rw[show f=g from funext h]
theorem gl(pid:Int)(fr:Int->Int)(yw:∀k,0<=fr k):∀(l:ADT),l.Pairwise (λa b=>a.1<b.1)->(∀y∈l,0<=y.2)->(∀k,tp (Pm pid fr l) pid k=Q4 k (Pm pid fr l)/\Q4 k (Pm pid fr l)<=fr k)/\∀y∈l,Q4 y.1 (Pm pid fr l)=P8 y.2 (fr y.1)
 | [],_,_=>⟨λk=>⟨rfl,by simp only[Pm,Q4];exact yw k⟩,λy hy=>by cases hy⟩
 |z::r,hp,h0=>by
  obtain⟨h1,h2⟩:=ABq.1 hp;obtain⟨i1,i2⟩:=gl pid fr yw r h2 λy hy=>h0 y (AAQ _ hy);have hz0:=h0 z AAo;have zi:=yw z.1
  have hno:Q4 z.1 (Pm pid fr r)=0:=l8 _ _ λp hp'=>by obtain⟨_,_,w,hw,e,_⟩:=XF pid fr r p hp';have:=h1 w hw;omega
  have hlz:0<=P8 z.2 (fr z.1):=by unfold P8;by_cases h:z.2<fr z.1<;>simp[h]<;>omega
  have hle:=Vi z.2 (fr z.1);simp only[Pm];by_cases hg:P8 z.2 (fr z.1)>0
  ·rw[ABY hg,ABT];refine⟨λk=>?_,λy hy=>?_⟩
   ·obtain⟨j1,j2⟩:=i1 k;simp only[tp,Q4];by_cases hk:z.1=k
    ·subst hk;rw[AAS ⟨trivial,rfl⟩,ABl,ABT,j1];exact⟨rfl,J⟩
    ·rw[AAT (λh=>hk h.2),show(z.1==k)=false from ABZ.2 hk,ABV,j1];exact⟨rfl,J⟩
   ·simp only[Q4];rcases AAj.1 hy with e|hy
    ·subst e;rw[ABl,ABT,hno];omega
    ·have:=h1 y hy;rw[show(z.1==y.1)=false from ABZ.2 J,ABV,i2 y hy];omega
  grind
theorem Xd{β:Type}(P:β->Bool)(f:β->β):∀l:List β,(∀y∈l,P y=false->P (f y)=false)->((l.filter P).map f).filter P=(l.map f).filter P
 | [],_=>rfl
 |y::r,h=>by have ih:=Xd P f r λz hz=>h z (AAQ _ hz);grind
theorem nU{a:Is}(ha:PQ a){work:Is}(hwl:work.length=a.length)(hw:PQ work)(x1:OF)(x2:Bool)(o x4:OF){l left:ADT}(hl:cZ l)(hleft:cZ left){u:ADj}(hu:u.length=a.length)
  (hc:∀k (h:k<a.length) (h2:k<work.length),(u[k]?=some false->Pm work[k].1 (PW work[k]) left=Pm a[k].1 (PW a[k]) l)/\(u[k]?=some true->Pm work[k].1 (PW work[k]) left=[])) (n:Nat) (hn:PO<=n):
  ∃(best most:Int) (bt:OF),iter n (V9 n a (x1,x2,o,x4,l,u)) ((-1),0,0)=some (best,most,(a.length:Int))/\iter n (Vw n (o,left,work)) (([]:OF),0,0)=some (bt,most,(a.length:Int))/\
   (best = -1/\most=0/\bt=[]\/∃j,∃h:j<a.length,best=(j:Int)/\u[j]?=some false/\bt=Pm a[j].1 (PW a[j]) l/\0<most):=by
 have h12:=ha.1
 obtain⟨z,w,hS,e1,e2⟩:=ZC (f:=V9 n a (x1,x2,o,x4,l,u)) (g:=Vw n (o,left,work))
  (λs t=>∃k:Nat,k<=a.length/\s.2.2=(k:Int)/\t.2.2=(k:Int)/\t.2.1=s.2.1/\(s.1 = -1/\s.2.1=0/\t.1=[]\/∃j,∃h:j<a.length,s.1=(j:Int)/\u[j]?=some false/\t.1=Pm a[j].1 (PW a[j]) l/\0<s.2.1))
  (λz w=>z.2.2=(a.length:Int)/\w.2.2=(a.length:Int)/\w.2.1=z.2.1/\(z.1 = -1/\z.2.1=0/\w.1=[]\/∃j,∃h:j<a.length,z.1=(j:Int)/\u[j]?=some false/\w.1=Pm a[j].1 (PW a[j]) l/\0<z.2.1))
  (λs=>((a.length:Int)-s.2.2).toNat) (λs t hR=>by
   obtain⟨b,m,i⟩:=s;obtain⟨bt,m2,i2⟩:=t;obtain⟨k,hk,h1,h2,h3,h4⟩:=hR;dsimp only at h1 h2 h3 h4;subst h1;subst h2;subst h3
   have hm0:0<=m2:=by
    rcases h4 with⟨_,h,_⟩|⟨_,_,_,_,_,h⟩<;>(clear hn;omega)
   unfold V9 Vw;dsimp only;rw[hwl];by_cases xz:k<a.length
   ·right;have hkw:k<work.length:=ADV
    have hst:=(ha.2.2 _ (ABU xz)).2.2;have hst2:=(hw.2.2 _ (ABU hkw)).2.2;obtain⟨c1,c2⟩:=hc k xz hkw;rw[show decide ((k:Int)<(a.length:Int))=true by rw[AAh];clear hn;omega,ABT,ABT,PA xz,ABS,ee a[k] hst l hl n hn,ABS,PE ADV,ABT,ABW,AAM (show k<u.length by clear hn;omega),ABS,O9 xz (show a.length<=9223372036854775807 by clear hn;omega)];rw[PA hkw,ABS,eT work[k] hst2 left hleft n hn,ABS];rw[AAM (show k<u.length by clear hn;omega)]at c1 c2;have hμ:((a.length:Int)-((k+1:Nat):Int)).toNat<((a.length:Int)-(k:Int)).toNat:=ADV
    dsimp only;cases hui:u[k]'(by clear hn;omega)with
    |true=>
     rw[c2 (by rw[hui])];simp only[ABa,ABV,ABS];rw[show decide (W6 []>m2)=false by rw[AAr];simp only[W6];clear hn;omega];exact⟨_,_,rfl,rfl,⟨k+1,xz,rfl,rfl,rfl,h4⟩,hμ⟩
    |false=>
     rw[c1 (by rw[hui])];simp only[ABn,ABT,ABS];by_cases hg:W6 (Pm a[k].1 (PW a[k]) l)>m2
     ·rw[ABY hg];exact⟨_,_,rfl,rfl,⟨k+1,xz,rfl,rfl,rfl,.inr ⟨k,xz,rfl,by rw[AAM (show k<u.length by clear hn;omega),hui],rfl,by show 0<W6 _;clear hn;omega⟩⟩,hμ⟩
     ·rw[ABc hg];exact⟨_,_,rfl,rfl,⟨k+1,xz,rfl,rfl,rfl,h4⟩,hμ⟩
   ·left;have:k=a.length:=ADV
    subst this;rw[show decide ((a.length:Int)<(a.length:Int))=false by rw[AAr];clear hn;omega];exact⟨_,_,rfl,rfl,rfl,rfl,rfl,h4⟩) n ((-1),0,0) (([]:OF),0,0) ⟨0,ACX _,rfl,rfl,rfl,.inl ⟨rfl,rfl,rfl⟩⟩ (by show((a.length:Int)-0).toNat<n;unfold PO at hn;omega)
 grind
def Re(want:ADT)(o:OF):ADT:=(leftOf want o).filter λy=>decide (y.2>0)
theorem nG(h:cZ (leftOf want o)):cZ (Re want o):=⟨h.1.filter _,λy hy=>h.2.1 y (ABd.1 hy).1,AA5 (ABw _ _) h.2.2⟩
structure PI(a:Is)(want:ADT)(o:OF)(u:ADj):Prop where
 ul:u.length=a.length
 ol:o.length+6*WW u<=72
 wH:∀y∈want,Q4 y.1 o<=y.2
 mem:∀p∈o,1<=p.2.2/\∃y∈want,y.1=p.2.1
 fits:Fits a o
 tO:PQ (Pq a (tp o))
 off:∀k (h:k<a.length),u[k]?=some false->∀s,tp o a[k].1 s=0
 on:∀k (h:k<a.length),u[k]?=some true->∀y∈want,Q4 y.1 o<y.2->PW a[k] y.1-tp o a[k].1 y.1<=0
theorem dB:∀(l:ADT),(∀y∈l,0<=y.2)->(VV l=0↔(l.filter λy=>decide (y.2>0))=[])
 | [],_=>⟨λ_=>rfl,λ_=>rfl⟩
 |y::r,h=>by have ih:=dB r λz hz=>h z (AAQ _ hz);have h1:=h y AAo;have h2:=(cT r λz hz=>h z (AAQ _ hz)).1;rw[ABz];simp only[VV];grind
theorem eo(want:ADT)(o bt:OF):(leftOf want o).map (λy=>(y.1,y.2-Q4 y.1 bt))=leftOf want (o++bt):=by unfold leftOf;rw[ACT];refine ABh λy _=>?_;simp only[Function.comp,dv,Int.sub_sub]
theorem PI.step(ha:PQ a)(hw:Xb want){u:ADj}(h:PI a want o u){j:Nat}(hj:j<a.length)(hu:u[j]?=some false):PI a want (o++Pm a[j].1 (PW a[j]) (leftOf want o)) (DL u j true):=by
 have hL:=jw hw (λp hp=>(h.mem p hp).1) h.wH;obtain⟨f1,f2⟩:=aD u j hu;have hst:=(ha.2.2 _ (ABU hj)).2.2;have hcl:=aA a[j].1 (PW a[j]) (leftOf want o);have hll:(leftOf want o).length<=6:=hL.2.2;have hcm:=XF a[j].1 (PW a[j]) (leftOf want o);have hct:=aB a[j].1 (PW a[j]) (leftOf want o) hL.1 (λy hy=>(hL.2.1 y hy).1);obtain⟨t1,t2⟩:=gl a[j].1 (PW a[j]) (λk=>(Zc a[j] hst k).1) (leftOf want o) hL.1 (λy hy=>(hL.2.1 y hy).1);generalize hbt:Pm a[j].1 (PW a[j]) (leftOf want o)=bt at hcl hcm hct t1 t2;have hlm:∀y∈want,(y.1,y.2-Q4 y.1 o)∈leftOf want o:=λy hy=>by unfold leftOf;grind
 have hbm:∀p∈bt,1<=p.2.2/\p.2.2<=1000/\∃y∈want,y.1=p.2.1:=λp hp=>by obtain⟨_,q1,y,hy,q2,q3⟩:=hcm p hp;have:=(hL.2.1 y hy).2;unfold leftOf at hy;grind
 have hother:∀k (hk:k<a.length),k≠j->∀s,tp bt a[k].1 s=0:=λk hk yF s=>kU bt _ s λp hp e=>by
  have e2:a[j].1=a[k].1:=(hcm p hp).1.symm.trans e;exfalso;rcases ABe j k with hl|hl|hl
  ·have:=(ABP.1 ha.2.1 j k hj hk hl).1;omega
  ·omega
  ·have:=(ABP.1 ha.2.1 k j hk hj hl).1;omega
 have hF:Fits a (o++bt):=by
  refine⟨λp hp=>?_,λq hq k=>?_⟩
  ·rcases ABK.1 hp with hp|hp
   ·exact h.fits.each p hp
   ·obtain⟨q1,q2,y,hy,q3⟩:=hbm p hp;have hyb:=hw.2.1 y hy;grind
  ·obtain⟨i,hi,rfl⟩:=ABX.1 hq;rw[aX];by_cases hij:i=j
   ·subst hij;rw[h.off i hi hu k,(t1 k).1];grind
   ·rw[hother i hi hij k];have:=h.fits.free _ (ABU hi) k;omega
 have hug:∀k,(DL u j true)[k]?=if j=k then some true else u[k]?:=λk=>by rw[P5,ACL];grind
 refine⟨by rw[f2];exact h.ul,?_,λy hy=>?_,λp hp=>?_,hF,(gr ha h.tO hF).2,λk hk e s=>?_,λk hk e y hy xz=>?_⟩
 ·have:=h.ol;grind
 ·have:=hct _ (hlm y hy);dsimp only at this;rw[dv];omega
 ·rcases ABK.1 hp with hp|hp
  ·exact h.mem p hp
  grind
 ·rw[hug]at e;by_cases hjk:j=k
  ·grind
  ·rw[AAT hjk]at e;rw[aX,h.off k hk e s,hother k hk (λq=>hjk q.symm) s];rfl
 ·rw[dv]at xz;rw[hug]at e;rw[aX];by_cases hjk:j=k
  ·subst hjk;have e3:=t2 _ (hlm y hy);dsimp only at e3;rw[h.off j hk hu y.1,(t1 y.1).1,e3];rw[e3]at xz;unfold P8 at xz ⊢;grind
  ·rw[AAT hjk]at e;have hb0:=VX y.1 bt λp hp=>(hbm p hp).1;rw[hother k hk (λq=>hjk q.symm) y.1];have:=h.on k hk e y hy J;omega
abbrev tU:=OF×Bool×OF×OF×ADT×ADj
abbrev tS:=OF×ADT×Is
def tT(a:Is)(want:ADT)(x:tU)(y:tS):Prop:=x.2.2.2.1=[]/\x.2.2.2.2.1=leftOf want x.2.2.1/\PI a want x.2.2.1 x.2.2.2.2.2/\y=(x.2.2.1,Re want x.2.2.1,Pq a (tp x.2.2.1))
def vz(a:Is)(want:ADT)(z:tU⊕(OF×Bool))(w:tS⊕(OF×Bool)):Prop:=∃o b,z=.inr (o,b)/\(b=true->PG o want/\Fits a o/\o.length<=72)/\(b=false->o=[])/\(w=.inr (o,b)\/b=true/\∃l s,w=.inl (o,l,s))
theorem lT{y:Pe}(hy:y∈want)(o:OF):(y.1,y.2-Q4 y.1 o)∈leftOf want o:=by unfold leftOf;grind
theorem lU{bt:OF}(hb:∀p∈bt,1<=p.2.2):aO (Re want o) bt=Re want (o++bt):=by
 unfold aO Re
 rw[Xd (λy:Pe=>decide (y.2>0)) (λy=>(y.1,y.2-Q4 y.1 bt)) (leftOf want o) λy _ hp=>by
  have:=VX y.1 bt hb;grind,eo]
theorem PI.rj(ha:PQ a){u:ADj}(hI:PI a want o u)(k:Nat)(hk:k<a.length)(hk2:k<(Pq a (tp o)).length):
  (u[k]?=some false->Pm (Pq a (tp o))[k].1 (PW (Pq a (tp o))[k]) (Re want o)=Pm a[k].1 (PW a[k]) (leftOf want o))/\(u[k]?=some true->Pm (Pq a (tp o))[k].1 (PW (Pq a (tp o))[k]) (Re want o)=[]):=by
 rw[gp hk2];have hto:=hI.fits.to ha (ABU hk);refine⟨λe=>?_,λe=>?_⟩
 ·unfold Re;rw[Zw];exact iX _ (λs=>by rw[hto s,hI.off k hk e s,Int.sub_zero]) _
 ·refine eB _ _ _ λy hy hpos=>?_;unfold Re leftOf at hy;obtain⟨z,hz,rfl⟩:=AAw.1 (ABd.1 hy).1;show PW (jW (tp o) a[k]) z.1<=0;rw[hto];exact hI.on k hk e z hz J
theorem ld(ha:PQ a)(hw:Xb want)(n:Nat)(hn:PO<=n)(x:tU)(y:tS)(hR:tT a want x y):
  (∃z w,V8 n a x=some (.inr z)/\Vv n y=some (.inr w)/\vz a want z w)\/(∃x' y',V8 n a x=some (.inl x')/\Vv n y=some (.inl y')/\tT a want x' y'/\WW x'.2.2.2.2.2<WW x.2.2.2.2.2):=by
 obtain⟨x1,x2,o,nn,l,u⟩:=x;obtain⟨g1,g2,hI,g4⟩:=hR;dsimp only at g1 g2 hI g4;subst g1;subst g2;subst g4;have hol:=hI.ol;have hL:=jw hw (λp hp=>(hI.mem p hp).1) hI.wH;have hLP:=nG hL;have h0:=dB (leftOf want o) λy hy=>(hL.2.1 y hy).1;unfold V8 Vv;rw[o8 (x1,x2,o,[],leftOf want o,u) hL n hn,ABS];dsimp only;by_cases hz:VV (leftOf want o)=0
 ·left;have hnil:Re want o=[]:=h0.1 hz;rw[hz,hnil];refine⟨_,_,rfl,rfl,o,true,rfl,λ_=>⟨⟨hI.mem,λy hy=>?_⟩,hI.fits,ADV⟩,(λe=>by cases e),.inr ⟨rfl,_,_,rfl⟩⟩;have:=(cT (leftOf want o) λy hy=>(hL.2.1 y hy).1).2 hz _ (lT hy o);omega
 ·have yF:Re want o≠[]:=λe=>hz (h0.2 e)
  have hpos:0<(Re want o).length:=by
   cases hq:Re want o with
   |nil=>grind
   |cons _ _=>simp
  rw[show(VV (leftOf want o)==0)=false from ABZ.2 hz,ABV,show decide (((Re want o).length:Int)>0)=true by grind,ABT];obtain⟨best,most,bt,e1,e2,hb⟩:=nU ha (aG a (tp o)) hI.tO x1 x2 o [] hL hLP hI.ul (λk hk hk2=>hI.rj ha k hk hk2) n hn;rw[e1,e2,ABS,ABS];dsimp only;rcases hb with⟨rfl,rfl,rfl⟩|⟨j,hj,rfl,hu,hbt,hm⟩
  ·left;exact⟨_,_,rfl,rfl,[],false,rfl,(λe=>by cases e),λ_=>rfl,.inl rfl⟩
  ·right;have hju:j<u.length:=by rw[hI.ul];exact hj
   have hst:=(ha.2.2 _ (ABU hj)).2.2;have hcl:=aA a[j].1 (PW a[j]) (leftOf want o);have hll:(leftOf want o).length<=6:=hL.2.2;have hcm:=XF a[j].1 (PW a[j]) (leftOf want o);have hct:=aB a[j].1 (PW a[j]) (leftOf want o) hL.1 (λy hy=>(hL.2.1 y hy).1);have hstep:=hI.step ha hw hj hu;have hc:=ee a[j] hst (leftOf want o) hL n hn;have hpg:∀p∈bt,1<=p.2.2:=λp hp=>No
   have yu:=mW bt (leftOf want o) hpg (λy hy=>⟨No,(hL.2.1 y hy).2⟩);rw[<-hbt]at hcl hct hstep hc;have hH:=gr ha hI.tO hstep.fits;have hHA:=YB (Pq a (tp o)) hI.tO.sm bt J n hn;rw[hH.1]at hHA
   have hle:=gJ (Re want o) hLP.2.2 bt J hpg (λy hy=>by
    have hy2:=(ABd.1 hy).1;exact⟨hct y hy2,(hL.2.1 y hy2).2⟩) n hn
   rw[lU hpg]at hle;have yE:decide (o.length+bt.length<=E8)=true:=VD J;have h4:=o9 bt J (W6 bt) (leftOf want o) hll n hn;rw[show decide ((j:Int)<0)=false by simp,ABV,PE hju,ABT,PA hj,ABS,hc,ABS];dsimp only;rw[show(most==0)=false from ABZ.2 J,ABV,yE,ABT,ABT,h4,ABS,hHA,ABS,hle,ABS,ABW];refine⟨_,_,rfl,rfl,⟨rfl,?_,hstep,rfl⟩,by have:=(aD u j hu).1;grind⟩;show bt.foldl (λl p=>dZ p l) (leftOf want o)=leftOf want (o++bt);rw[yu,eo]
theorem PI.init(ha:PQ a)(hw:Xb want):PI a want [] (List.replicate a.length false):=by
 have h0:Pq a (tp [])=a:=Y6 a _ λ_ _=>rfl;have h12:=ha.1;refine⟨so,by rw[aC];simp;omega,λy hy=>?_,(λp hp=>by cases hp),⟨(λp hp=>by cases hp),λq hq k=>?_⟩,by rw[h0];exact ha,λk hk _ s=>rfl,λk hk e=>?_⟩
 ·have:=hw.2.1 y hy;simp only[Q4];omega
 ·exact(Zc q (ha.2.2 q hq).2.2 k).1
 grind
theorem jx(hw:Xb want):Re want []=want:=by
 have:leftOf want []=want:=by unfold leftOf;simp[Q4]
 unfold Re;rw[this];exact ACO.2 λy hy=>by have:=hw.2.1 y hy;grind
theorem kh(ha:PQ a)(hw:Xb want)(n:Nat)(hn:PO<=n):∃o b,UW n a want=some (o,b)/\S7 n a want=some (o,b)/\(b=true->PG o want/\Fits a o/\o.length<=72)/\(b=false->o=[]):=by
 have h12:=ha.1;have h6:=hw.2.2;have h0:Pq a (tp [])=a:=Y6 a _ λ_ _=>rfl
 obtain⟨z,w,hS,e1,e2⟩:=ZC (tT a want) (vz a want) (λx=>WW x.2.2.2.2.2) (λx y hR=>ld ha hw n hn x y hR) n
  (([]:OF),false,([]:OF),([]:OF),want,List.replicate a.length (false:Bool)) (([]:OF),want,a)
  ⟨rfl,by show want=leftOf want [];unfold leftOf;simp[Q4],PI.init ha hw,by rw[jx hw,h0]⟩ (by show WW (List.replicate a.length false)<n;rw[aC];unfold PO at hn;omega)
 obtain⟨o,b,rfl,q1,q2,q3⟩:=hS;refine⟨o,b,?_,?_,q1,q2⟩
 ·unfold UW;rw[QM a ha.sm n hn,ha.ok,hw.ok n hn];simp only[ABS,ABa,ABV];rw[show decide (([]:ADT).length+want.length<=E8)=true from VD No,ABT];rw[show(decide (0<=(a.length:Int))&&decide ((a.length:Int)<=(E8:Int))&&decide True)=true by rw[show decide ((a.length:Int)<=(E8:Int))=true by rw[AAh];unfold E8;clear hn;omega];simp,ABT,AAy,ABW,e1,ABS]
 ·unfold S7 Qa;rw[QK a ha.sm n hn,ha.ok,Ry want ADV n hn,Vg.2 hw,Pa a ha.sm n hn,VD (show want.length<=1048576 by clear hn;omega)];grind
theorem mg(a:Is)(hs:Pf a)(want:ADT)(hl:want.length<=1048576)(n:Nat)(hn:PO<=n):∃o b,UW n a want=some (o,b)/\S7 n a want=some (o,b)/\(b=true->PQ a/\Xb want/\PG o want/\Fits a o/\o.length<=72)/\(b=false->o=[]):=by
 cases h1:Pw a with
 |false=>
  refine⟨[],false,?_,?_,(λe=>by cases e),λ_=>rfl⟩
  ·unfold UW;rw[QM a hs n hn,h1];rfl
  ·unfold S7;rw[QK a hs n hn,h1];rfl
 |true=>
  cases h2:Vf want with
  |false=>
   refine⟨[],false,?_,?_,(λe=>by cases e),λ_=>rfl⟩
   ·unfold UW;rw[QM a hs n hn,h1,Vm want hl n hn,h2];rfl
   ·unfold S7;rw[QK a hs n hn,h1,Ry want hl n hn,h2];rfl
  |true=>
   have ha:=Pz.1 h1;have hw:=Vg.1 h2;obtain⟨o,b,e1,e2,q1,q2⟩:=kh ha hw n hn;grind
def af(p:O8)(y:Pe):Bool:=y.1==p.2.1&&P7 p.2.2 1 y.2
def ZY(p:O8)(l:ADT):ADT:=l.map λy=>bif y.1==p.2.1 then(y.1,y.2-p.2.2)else y
def foldI:OF->ADT->Option ADT
 | [],l=>some l
 |p::r,l=>if l.any (af p)then foldI r (ZY p l)else none
def XR(ps:OF)(l:ADT):Bool:=match foldI ps l with
 |some z=>z.all λy=>y.2==0
 |none=>false
theorem ag{y:Pe}:af p y=true↔y.1=p.2.1/\1<=p.2.2/\p.2.2<=y.2:=by unfold af P7;grind
theorem kP(p:O8)(l:ADT):(ZY p l).length=l.length:=by unfold ZY;grind
theorem mU{l:ADT}(h:l.Pairwise λa b=>a.1<b.1):(ZY p l).Pairwise λa b=>a.1<b.1:=by unfold ZY;grind
theorem fY{l:ADT}{y:Pe}(h:y∈ZY p l):∃z∈l,y.1=z.1/\y.2=if z.1=p.2.1 then z.2-p.2.2 else z.2:=by unfold ZY at h;grind
theorem mT{l:ADT}{z:Pe}(h:z∈l):(z.1,if z.1=p.2.1 then z.2-p.2.2 else z.2)∈ZY p l:=by unfold ZY;grind
theorem oX{l:ADT}(h:l.Pairwise λa b=>a.1<b.1){y z:Pe}(hy:y∈l)(hz:z∈l)(e:y.1=z.1):y=z:=by
 obtain⟨i,hi,rfl⟩:=ABX.1 hy;obtain⟨j,hj,rfl⟩:=ABX.1 hz;rcases ABe i j with hl|hl|hl
 ·have:=ABP.1 h i j hi hj hl;omega
 ·subst hl;rfl
 ·have:=ABP.1 h j i hj hi hl;omega
theorem Ya:∀(ps:OF)(l:ADT),l.Pairwise (λa b=>a.1<b.1)->(XR ps l=true↔PG ps l)
 | [],l,hl=>by
  show(l.all λy=>y.2==0)=true↔_;rw[AAZ];constructor
  ·intro h;refine⟨(λp hp=>by cases hp),λy hy=>?_⟩;have:=h y hy;rw[AAX]at this;rw[this];rfl
  ·intro h y hy;rw[AAX];exact(h.2 y hy).symm
 |p::ps,l,hl=>by
  have ih:=Ya ps (ZY p l) (mU hl)
  have hun:XR (p::ps) l=(if l.any (af p)then XR ps (ZY p l)else false):=by unfold XR;rw[foldI];grind
  rw[hun];by_cases ha:l.any (af p)=true
  ·rw[AAS ha,ih];obtain⟨y,hy,hh⟩:=AA8.1 ha;obtain⟨h1,h2,h3⟩:=ag.1 hh;constructor
   ·rintro ⟨g1,g2⟩
    refine⟨λq hq=>?_,λz hz=>?_⟩
    ·rcases AAj.1 hq with rfl|hq
     ·grind
     ·obtain⟨a1,v,hv,a2⟩:=g1 q hq;obtain⟨w,hw,b1,_⟩:=fY hv;grind
    ·have:=g2 _ (mT (p:=p) hz);dsimp only at this;simp only[Q4];grind
   ·rintro ⟨g1,g2⟩
    refine⟨λq hq=>?_,λz hz=>?_⟩
    ·obtain⟨a1,v,hv,a2⟩:=g1 q (AAQ _ hq);exact⟨a1,_,mT (p:=p) hv,a2⟩
    ·obtain⟨w,hw,b1,b2⟩:=fY hz;have:=g2 w hw;simp only[Q4]at this;grind
  ·rw[AAT ha];refine⟨(λe=>by cases e),λ⟨g1,g2⟩=>(ha ?_).elim⟩;obtain⟨a1,y,hy,a2⟩:=g1 p AAo;have h3:=g2 y hy;have h4:=VX y.1 ps λq hq=>(g1 q (AAQ _ hq)).1;simp only[Q4]at h3;rw[show(p.2.1==y.1)=true from AAX.2 a2.symm,ABT]at h3;exact AA8.2 ⟨y,hy,ag.2 ⟨a2,a1,J⟩⟩
def mf(l:ADT):Prop:=l.Pairwise (λa b=>a.1<b.1)/\(∀y∈l,0<=y.2/\y.2<=1000)/\l.length<=6
theorem mf.sub{l:ADT}(h:mf l)(ha:l.any (af p)=true):mf (ZY p l):=by
 obtain⟨y,hy,hh⟩:=AA8.1 ha;obtain⟨h1,h2,h3⟩:=ag.1 hh;refine⟨mU h.1,λz hz=>?_,by rw[kP];exact h.2.2⟩;obtain⟨w,hw,b1,b2⟩:=fY hz;have hwb:=h.2.1 w hw;rw[b2];split
 ·rename_i e;have:w=y:=oX h.1 hw hy (e.trans h1.symm);grind
 ·exact hwb
theorem j8{l:ADT}(h:l.Pairwise λa b=>a.1<b.1)(hi:i<l.length)(e:l[i].1=p.2.1):l.modify i (λy=>(y.1,l[i].2-p.2.2))=ZY p l:=by
 apply ABx;intro k;unfold ZY;rw[ABf,AAe];by_cases hk:k<l.length
 ·rw[AAM hk];by_cases hik:i=k
  ·subst hik;rw[Option.map_eq_map,ABA,ABA,AAS rfl,show(l[i].1==p.2.1)=true from AAX.2 e,ABT]
  ·rw[Option.map_eq_map,ABA,ABA,AAT hik]
   have:l[k].1≠p.2.1:=λe2=>by
    rcases ABe i k with hl|hl|hl
    ·have:=ABP.1 h i k hi hk hl;omega
    ·exact hik hl
    ·have:=ABP.1 h k i hk hi hl;omega
   rw[show(l[k].1==p.2.1)=false from ABZ.2 this,ABV]
 grind
theorem lZ(k:Int)(l:ADT)(hl:mf l)(p:O8)(n:Nat)(hn:PO<=n):∃i:Int,iter n (UF (k,l) p) (false,0,l)=some (bif l.any (af p)then(true,i,ZY p l)else(false,i,l)):=by
 have h6:=hl.2.2
 obtain⟨z,hS,e⟩:=YF (f:=UF (k,l) p) (λx=>x.1=false/\x.2.2=l/\∃m:Nat,m<=l.length/\x.2.1=(m:Int)/\∀i (h:i<l.length),i<m->af p l[i]=false)
  (λz=>z.1=false/\z.2.2=l/\l.any (af p)=false\/z.1=true/\z.2.2=ZY p l/\l.any (af p)=true) (λx=>((l.length:Int)-x.2.1).toNat) (λx hR=>by
   obtain⟨b,i,l'⟩:=x;obtain⟨h1,h2,m,hm,h3,h4⟩:=hR;dsimp only at h1 h2 h3;subst h1;subst h2;subst h3;unfold UF;dsimp only;by_cases xz:m<l'.length
   ·have hyb:=hl.2.1 _ (ABU xz);rw[show decide ((m:Int)<(l'.length:Int))=true by rw[AAh];clear hn;omega,ABT,PE xz,ABW,AAM xz];simp only[ABT,ABS,Tu,QR]
    have hx:(bif l'[m].1==p.2.1 then some (P7 p.2.2 1 l'[m].2)else some false)=some (af p l'[m]):=by
     unfold af;cases(l'[m].1==p.2.1)<;>rfl
    rw[hx,ABS];cases hh:af p l'[m]with
    |true=>
     obtain⟨a1,a2,a3⟩:=ag.1 hh;left;refine⟨_,rfl,.inr ⟨rfl,?_,AA8.2 ⟨_,ABU xz,hh⟩⟩⟩;show l'.modify m (λy=>(y.1,PB (l'[m].2-p.2.2)))=_;rw[PJ (n:=l'[m].2-p.2.2) ADV ADV,j8 hl.1 xz a1]
    |false=>
     right;rw[ABV,O9 xz (show l'.length<=9223372036854775807 by clear hn;omega)];refine⟨_,rfl,⟨rfl,rfl,m+1,xz,rfl,λi hi zj=>?_⟩,by show((l'.length:Int)-((m+1:Nat):Int)).toNat<((l'.length:Int)-(m:Int)).toNat;clear hn;omega⟩;by_cases e:i=m
     ·subst e;exact hh
     ·exact h4 i hi ADV
   ·left;rw[show decide ((m:Int)<(l'.length:Int))=false by rw[AAr];clear hn;omega];refine⟨_,rfl,.inl ⟨rfl,rfl,?_⟩⟩;rw[<-ABt];intro ha;obtain⟨y,hy,hh⟩:=AA8.1 ha;obtain⟨i,hi,rfl⟩:=ABX.1 hy;rw[h4 i hi ADV]at hh;cases hh) n (false,0,l) ⟨rfl,rfl,0,ACX _,rfl,λi _ h=>J⟩ (by show((l.length:Int)-0).toNat<n;unfold PO at hn;omega)
 grind
theorem bj(ps:OF)(hp:ps.length<=1048576)(l:ADT)(hl:mf l)(n:Nat)(hn:PO<=n):U7 n ps l=some (XR ps l):=by
 have h6:=hl.2.2
 have hc:=Ph (σ:=ADT) (UE n ps) (λi s=>((i:Int),s)) ps (λr s=>match foldI r s with|some z=>.inl ((ps.length:Int),z)|none=>.inr false) (λi s=>mf s)
  (λs hs=>by unfold UE;simp[foldI])
  (λi p r s g1 g2 g3 g4 g5=>by
   have hpi:ps[i]=p:=by rw[AAM g1]at g2;exact Option.some.inj g2
   obtain⟨j,e⟩:=lZ (i:Int) s g5 p n hn;unfold UE;dsimp only;rw[show decide ((i:Int)<(ps.length:Int))=true by grind,ABT,PA g1,hpi,ABS,e,ABS,O9 g1 (show ps.length<=9223372036854775807 by omega)];cases ha:s.any (af p)with
   |true=>
    left;refine⟨ZY p s,rfl,g5.sub ha,?_⟩;rw[foldI,AAS ha]
   |false=>
    right;rw[foldI,AAT (by rw[ha];simp)];rfl)
  n ADW l hl
 unfold U7 Qa;rw[VD (show l.length<=1048576 by omega),ABT,ABS];rw[show((0:Nat):Int)=0 from rfl]at hc;rw[hc,ABS];unfold XR;cases hf:foldI ps l with
 |none=>rfl
 |some z=>
  have hzl:z.length<=6:=by
   have:∀(ps:OF)(l z:ADT),foldI ps l=some z->z.length=l.length:=by
    intro ps
    induction ps with
    |nil=>intro l z e;injection e with e;rw[e]
    |cons p ps ih=>
     intro l z e;rw[foldI]at e;split at e
     ·rw[ih _ _ e,kP]
     ·cases e
   rw[this ps l z hf];exact h6
  have h3:=QP (UG ((ps.length:Int),z)) z (λy=>y.2==0) (λi x hi hx=>by
   obtain⟨_,rfl⟩:=AAO.1 hx;unfold UG;dsimp only;rw[show decide ((i:Int)<(z.length:Int))=true by rw[AAh];clear hn;omega,ABT,PE hi,ABW,AAM hi,ABT,ABS,O9 hi (show z.length<=9223372036854775807 by clear hn;omega)];simp only[bne];cases(z[i].2==0)<;>rfl) (by unfold UG;simp) n ADW
  grind
abbrev PZ:=Int×Int×ADT×OF×Int
abbrev AAL:=List PZ
theorem Wa(nx:Int)(l:AAL)(h:Qd (nx,l))(n:Nat)(hn:PO<=n):VJ n nx l=some (nx,l):=by
 have hl:l.length<=1048576:=h.1
 have hc:=Ph (σ:=AAL) (UM l) (λi s=>((i:Int),nx,s)) l (λr s=>((l.length:Int),nx,s++r)) (λi s=>s.length<=i)
  (λs hs=>by simp[UM]) (λi y r s h1 h2 h3 h4 h5=>by
   left;have hy:l[i]=y:=by rw[AAM h1]at h2;exact Option.some.inj h2
   refine⟨s++[y],?_,by rw[ABE,ABb];omega,so⟩;unfold UM;dsimp only;rw[show decide ((i:Int)<(l.length:Int))=true by simpa using h1,ABT,PA h1,hy,ABS,ZR y (h.2 y (by rw[<-hy];exact ABU h1)),ABS,O9 h1 J];rw[show decide (s.length+[(y.1,y.2.1,y.2.2.1,y.2.2.2.1,y.2.2.2.2)].length<=E8)=true from SV J,ABT])
  n ADW [] so
 unfold VJ;grind
theorem Q9(nx:Int)(l:AAL)(h:Qd (nx,l))(n:Nat)(hn:PO<=n):QV n nx l=some (nx,l):=by
 have hl:l.length<=1048576:=h.1
 have hc:=Ph (σ:=AAL) (TX l) (λi s=>((i:Int),nx,s)) l (λr s=>((l.length:Int),nx,s++r)) (λi s=>s.length<=i)
  (λs hs=>by simp[TX]) (λi y r s h1 h2 h3 h4 h5=>by
   left;have hy:l[i]=y:=by rw[AAM h1]at h2;exact Option.some.inj h2
   refine⟨s++[y],?_,by rw[ABE,ABb];omega,so⟩;unfold TX;dsimp only;rw[show decide ((i:Int)<(l.length:Int))=true by simpa using h1,ABT,PA h1,hy,ABS,Si y (h.2 y (by rw[<-hy];exact ABU h1)),ABS,O9 h1 J];have hr:decide (s.length+1<=E8)=true:=SV J;simp only[ABb,hr,ABT])
  n ADW [] so
 unfold QV;grind
def Q6(l:AAL):AAL:=l.filter λo=>o.2.2.2.2==1
theorem ji{β:Type}(f:Int->Option (Int⊕(Int⊕Int)))(xs:List β)(P:β->Bool)(hs:∀(i:Nat)(x:β),i<xs.length->xs[i]?=some x->f (i:Int)=some (bif P x then .inr (.inr (i:Int))else .inl ((i+1:Nat):Int)))
  (j:Nat) (hj:j<xs.length) (hP:P xs[j]=true):∀n,xs.length<n->∃i,∃h:i<xs.length,P xs[i]=true/\iter n f 0=some (.inr (i:Int)):=by
 have key:∀d i n,i+d=j->d<n->∃k,∃h:k<xs.length,P xs[k]=true/\iter n f (i:Int)=some (.inr (k:Int)):=by
  intro d
  induction d with
  |zero=>
   intro i n hi hn;obtain⟨n,rfl⟩:∃k,n=k+1:=⟨n-1,J⟩;have:i=j:=J
   subst this;have hf:=hs i xs[i] hj (AAM hj);rw[hP,ABT]at hf;exact⟨i,hj,hP,Pr hf n⟩
  |succ d ih=>
   intro i n hi hn;obtain⟨n,rfl⟩:∃k,n=k+1:=⟨n-1,J⟩;have xz:i<xs.length:=J
   have hf:=hs i xs[i] xz (AAM xz);cases hp:P xs[i]with
   |true=>rw[hp,ABT]at hf;exact⟨i,xz,hp,Pr hf n⟩
   |false=>rw[hp,ABV]at hf;rw[Ru hf n];exact ih (i+1) n J J
 exactλn hn=>key j 0 n J J
theorem WK(nx:Int)(l:AAL)(hl:l.length<=1048576)(hp:l.Pairwise (λa b=>a.1<b.1))(i:Nat)(hi:i<l.length)(n:Nat)(hn:PO<=n):Qc n nx l l[i].1=some (i:Int):=by
 obtain⟨j,hj,hP,e⟩:=ji (RP l l[i].1) l (λx=>x.1==l[i].1) (λm x h1 h2=>by
  have hx:l[m]=x:=by rw[AAM h1]at h2;exact Option.some.inj h2
  simp only[RP,PA h1,hx,ABS,O9 h1 J];grind) i hi so n ADW
 have hji:j=i:=by
  have hP:l[j].1=l[i].1:=by simpa using hP
  rcases ABe j i with q|q|q
  ·have:=ABP.1 hp j i hj hi q;omega
  ·exact q
  ·have:=ABP.1 hp i j hi hj q;omega
 subst hji;unfold Qc;rw[e];rfl
theorem Wt(nx:Int)(l:AAL)(hl:l.length<=1048576)(c:Int)(hc:∀x∈l,x.1≠c)(n:Nat)(hn:PO<=n):Qc n nx l c=some (-1):=by
 have:=gm (RP l c) l (λx=>x.1==c) (λm x h1 h2=>by
  have hx:l[m]=x:=by rw[AAM h1]at h2;exact Option.some.inj h2
  simp only[RP,PA h1,hx,ABS,O9 h1 J];rw[show decide ((m:Int)<(l.length:Int))=true by simpa using h1];cases hq:(x.1==c)<;>rfl) (by simp[RP]) n ADW
 unfold Qc;grind
def cU(l:ADT)(ps:OF):Int:=match l with
 | []=>0
 |y::r=>Q4 y.1 ps+cU r ps
theorem kR:∀l:ADT,cU l []=0
 | []=>rfl
 |y::r=>by simp only[cU,kR r,Q4];rfl
theorem fg(p:O8)(ps:OF):∀l:ADT,(∀y∈l,y.1≠p.2.1)->cU l (p::ps)=cU l ps
 | [],_=>rfl
 |y::r,h=>by have h1:=h y AAo;simp only[cU,Q4,fg p ps r λz hz=>h z (AAQ _ hz)];grind
theorem mX(p:O8)(ps:OF):∀l:ADT,l.Pairwise (λa b=>a.1<b.1)->(∃y∈l,y.1=p.2.1)->cU l (p::ps)=p.2.2+cU l ps
 | [],_,⟨y,hy,_⟩=>by cases hy
 |y::r,hl,⟨z,hz,e⟩=>by
  obtain⟨h1,h2⟩:=ABq.1 hl;simp only[cU,Q4];by_cases hy:y.1=p.2.1
  ·rw[fg p ps r λw hw=>No,show(p.2.1==y.1)=true from AAX.2 hy.symm,ABT];omega
  ·rcases AAj.1 hz with e2|hz
   ·grind
   ·rw[mX p ps r h2 ⟨z,hz,e⟩,show(p.2.1==y.1)=false from ABZ.2 λe=>hy e.symm,ABV];omega
theorem fe{l:ADT}(hl:l.Pairwise λa b=>a.1<b.1):∀ps:OF,(∀p∈ps,1<=p.2.2)->cU l ps<=W6 ps/\(cU l ps=W6 ps↔∀p∈ps,∃y∈l,y.1=p.2.1)
 | [],_=>by rw[kR];exact⟨by simp[W6],⟨λ_ p hp=>(by cases hp),λ_=>rfl⟩⟩
 |p::ps,h=>by
  obtain⟨i1,i2⟩:=fe hl ps λq hq=>h q (AAQ _ hq);have hp:=h p AAo;simp only[W6];by_cases hy:∃y∈l,y.1=p.2.1
  ·rw[mX p ps l hl hy];grind
  ·rw[fg p ps l λy hy2 e=>hy ⟨y,hy2,e⟩];grind
theorem jO(ps:OF):∀l:ADT,(∀y∈l,Q4 y.1 ps=y.2)->cU l ps=VV l
 | [],_=>rfl
 |y::r,h=>by simp only[cU,VV,h y AAo,jO ps r λz hz=>h z (AAQ _ hz)]
theorem jS(h:∀p∈ps,1<=p.2.2)(hp:p∈ps):p.2.2<=Q4 p.2.1 ps:=by
 induction ps with
 |nil=>cases hp
 |cons q r ih=>
  have h1:=VX p.2.1 r λz hz=>h z (AAQ _ hz);have h2:=h q AAo;simp only[Q4];grind
theorem nT{l:ADT}(hl:Xb l):((∀p∈ps,1<=p.2.2/\p.2.2<=1000)/\(∀y∈l,Q4 y.1 ps=y.2)/\VV l-W6 ps=0)↔PG ps l:=by
 constructor
 ·rintro ⟨h1,h2,h3⟩
  have hs:=(fe hl.1 ps λp hp=>(h1 p hp).1).2.1 (by rw[jO ps l h2];omega);exact⟨λp hp=>⟨(h1 p hp).1,hs p hp⟩,h2⟩
 ·rintro ⟨h1,h2⟩
  have hs:=(fe hl.1 ps λp hp=>(h1 p hp).1).2.2 λp hp=>(h1 p hp).2;refine⟨λp hp=>⟨(h1 p hp).1,?_⟩,h2,by rw[jO ps l h2]at hs;omega⟩;obtain⟨y,hy,e⟩:=(h1 p hp).2;have:=jS (λq hq=>(h1 q hq).1) hp;have h4:=h2 y hy;have h5:=hl.2.1 y hy;grind
def kg(nx:Int)(o:PZ):Prop:=(1<=o.1/\o.1<=nx-1)/\(0<=o.2.1/\o.2.1<=99)/\(Xb o.2.2.1/\0<o.2.2.1.length)/\PG o.2.2.2.1 o.2.2.1/\(1<=o.2.2.2.2/\o.2.2.2.2<=3)
def We(nx:Int)(l:AAL):Prop:=(1<=nx/\nx<=1000000)/\l.length<=30/\l.Pairwise (λa b=>a.1<b.1)/\∀o∈l,kg nx o
def iR(l:AAL):Prop:=∀o∈l,∀p∈o.2.2.2.1,1<=p.1/\p.1<=999
def Z0(nx:Int)(l:AAL)(i:Nat):Bool:=match l[i]? with
 |some o=>P7 o.1 1 (nx-1)&&Qo (·.1) l i o&&P7 o.2.1 0 99&&P7 o.2.2.2.2 1 3 && !((o.2.2.1.length:Int)==0)&&Vf o.2.2.1&&XR o.2.2.2.1 o.2.2.1
 |none=>false
theorem nQ{l:AAL}(hi:i<l.length):Z0 nx l i=true↔kg nx l[i]/\Qo (·.1) l i l[i]=true:=by
 unfold Z0 kg;rw[AAM hi];simp only[AAN,Vg,AAa,ABZ];have xv:∀a b c:Int,P7 a b c=true↔b<=a/\a<=c:=λa b c=>by unfold P7;grind
 rw[xv,xv,xv];constructor
 ·rintro ⟨⟨⟨⟨⟨⟨h1,h2⟩,h3⟩,h4⟩,h5⟩,h6⟩,h7⟩
  exact⟨⟨h1,h3,⟨h6,J⟩,(Ya _ _ h6.1).1 h7,h4⟩,h2⟩
 ·rintro ⟨⟨h1,h3,⟨h6,h5⟩,h7,h4⟩,h2⟩
  exact⟨⟨⟨⟨⟨⟨h1,h2⟩,h3⟩,h4⟩,J⟩,h6⟩,(Ya _ _ h6.1).2 h7⟩
theorem jb{l:AAL}(hn:1<=nx/\nx<=1000000)(h30:l.length<=30):(List.range l.length).all (Z0 nx l)=true↔We nx l:=by
 rw[AAZ];have zB:∀i (hi:i<l.length),Z0 nx l i=true↔kg nx l[i]/\Qo (·.1) l i l[i]=true:=λi hi=>nQ hi;constructor
 ·intro h;have hi:∀i (hi:i<l.length),kg nx l[i]/\Qo (·.1) l i l[i]=true:=λi hi=>(zB i hi).1 (h i (AAb.2 hi));refine⟨hn,h30,XS _ _ λi hi2=>(Xj (·.1) l (i+1) hi2).1 (hi (i+1) hi2).2 i rfl,λo ho=>?_⟩;obtain⟨i,hi2,rfl⟩:=ABX.1 ho;grind
 ·rintro ⟨_,_,h3,h4⟩ i hi
  have hi:=AAb.1 hi;exact(zB i hi).2 ⟨h4 _ (ABU hi),ZI h3 (λx y h=>h) i hi⟩
theorem dX(ps:OF)(h72:ps.length<=72)(hN:∀p∈ps,1<=p.2.2/\p.2.2<=1000)(k:Int)(n:Nat)(hn:PO<=n):ZS n ps k=some (Q4 k ps):=by
 have hc:=Ph (σ:=Int) (VK ps k) (λi s=>(s,(i:Int))) ps (λr s=>(s+Q4 k r,(ps.length:Int))) (λi s=>0<=s/\s<=1000*(i:Int))
  (λs hs=>by unfold VK;simp[Q4])
  (λi p r s g1 g2 g3 g4 g5=>by
   left;have hp:ps[i]=p:=by rw[AAM g1]at g2;exact Option.some.inj g2
   have hpN:=hN p (by rw[<-hp];exact ABU g1);unfold VK;dsimp only;rw[show decide ((i:Int)<(ps.length:Int))=true by rw[AAh];clear hn;omega,ABT,PA g1,hp,O9 g1 (show ps.length<=9223372036854775807 by clear hn;omega)];simp only[ABS,Q4];cases(p.2.1==k)with
   |true=>
    rw[ABT,ABS,PJ (n:=s+p.2.2) ADV ADV];exact⟨s+p.2.2,rfl,⟨ADV,ADV⟩,by rw[ABT,ACP]⟩
   |false=>
    rw[ABV,ABS];exact⟨s,rfl,⟨g5.1,ADV⟩,by rw[ABV,ACb]⟩)
  n ADW 0 ⟨J,J⟩
 unfold ZS;grind
theorem o6(l:ADT)(hl:Xb l)(n:Nat)(hn:PO<=n):iter n (SA l) (0,0)=some (VV l,(l.length:Int)):=by
 have h6:=hl.2.2
 have hc:=Ph (σ:=Int) (SA l) (λi s=>(s,(i:Int))) l (λr s=>(s+VV r,(l.length:Int))) (λi s=>0<=s/\s<=1000*(i:Int))
  (λs hs=>by unfold SA;simp[VV])
  (λi y r s g1 g2 g3 g4 g5=>by
   left;have hy:l[i]=y:=by rw[AAM g1]at g2;exact Option.some.inj g2
   have hyb:=hl.2.1 y (by rw[<-hy];exact ABU g1);refine⟨s+y.2,?_,⟨ADV,ADV⟩,by simp only[VV,ACP]⟩;unfold SA;dsimp only;rw[show decide ((i:Int)<(l.length:Int))=true by rw[AAh];clear hn;omega,ABT,PA g1,hy,ABS,O9 g1 (show l.length<=9223372036854775807 by clear hn;omega),PJ (n:=s+y.2) ADV ADV])
  n ADW 0 ⟨J,J⟩
 grind
theorem o7(ps:OF)(h72:ps.length<=72)(hP:∀p∈ps,1<=p.1/\p.1<=999)(s0:Int)(hs0:0<=s0/\s0<=6000)(n:Nat)(hn:PO<=n):
  iter n (SB ps) (s0,0)=some (if ∀p∈ps,1<=p.2.2/\p.2.2<=1000 then .inl (s0-W6 ps,(ps.length:Int))else .inr false):=by
 have hc:=Ph (σ:=Int) (SB ps) (λi s=>(s,(i:Int))) ps (λr s=>if ∀p∈r,1<=p.2.2/\p.2.2<=1000 then .inl (s-W6 r,(ps.length:Int))else .inr false) (λi s => -1000*(i:Int)<=s/\s<=6000)
  (λs hs=>by
   rw[AAS (λp hp=>by cases hp)];unfold SB;simp[W6])
  (λi p r s g1 g2 g3 g4 g5=>by
   have hp:ps[i]=p:=by rw[AAM g1]at g2;exact Option.some.inj g2
   have hpP:=hP p (by rw[<-hp];exact ABU g1);unfold SB;dsimp only;rw[show decide ((i:Int)<(ps.length:Int))=true by rw[AAh];clear hn;omega,ABT,PA g1,hp,O9 g1 (show ps.length<=9223372036854775807 by clear hn;omega)];simp only[ABS,QR];rw[show P7 p.1 1 999=true by unfold P7;rw[ABY hpP.1,ABY hpP.2];rfl];by_cases hb:1<=p.2.2/\p.2.2<=1000
   ·left;rw[show P7 p.2.2 1 1000=true by unfold P7;rw[ABY hb.1,ABY hb.2];rfl];simp only[ABa,ABV,ABS];rw[PJ (n:=s-p.2.2) ADV ADV];refine⟨s-p.2.2,rfl,⟨ADV,ADV⟩,?_⟩;simp only[List.forall_mem_cons,hb,and_self,true_and,W6,Int.sub_sub]
   ·right
    rw[show P7 p.2.2 1 1000=false by
     unfold P7;rw[ACU,AAr,AAr];by_cases h:1<=p.2.2
     ·exact .inr λq=>hb ⟨h,q⟩
     ·exact .inl h]
    rw[AAT (λq=>hb (q p AAo))];rfl)
  n ADW s0 ⟨J,J⟩
 omega
theorem bF(o:PZ)(h1:o.2.2.1.length<=1048576)(hP:∀p∈o.2.2.2.1,1<=p.1/\p.1<=999)(n:Nat)(hn:PO<=n):
  X4 n o.1 o.2.1 o.2.2.1 o.2.2.2.1 o.2.2.2.2=some (P7 o.2.1 0 99&&P7 o.2.2.2.2 1 3 && !((o.2.2.1.length:Int)==0)&&Vf o.2.2.1&&(decide (o.2.2.2.1.length<=72)&&XR o.2.2.2.1 o.2.2.1)):=by
 obtain⟨id,desk,it,pk,st⟩:=o;dsimp only at h1 hP ⊢;unfold X4;simp only[QR,Vm it h1 n hn,ABS];by_cases h72:pk.length<=72
 case neg=>
  grind
 rw[show decide ((pk.length:Int)>72)=false by grind,ABY h72,ABy];cases P7 desk 0 99 with
 |false=>rfl
 |true=>
 cases hi:Vf it with
 |false=>grind
 |true=>
 cases((it.length:Int)==0)with
 |true=>grind
 |false=>
 cases P7 st 1 3 with
 |false=>rfl
 |true=>
 have hI:=Vg.1 hi;have h6:=hI.2.2
 have hs0:0<=VV it/\VV it<=6000:=by
  have:∀l:ADT,(∀y∈l,1<=y.2/\y.2<=1000)->0<=VV l/\VV l<=1000*(l.length:Int):=by
   intro l
   induction l with
   |nil=>intro _;simp[VV]
   |cons y r ih=>
    intro h;have a1:=ih λz hz=>h z (AAQ _ hz);have a2:=h y AAo;simp only[VV,ABH];clear hn;omega
  have:=this it λy hy=>⟨(hI.2.1 y hy).2.2.1,(hI.2.1 y hy).2.2.2⟩;clear hn;omega
 have hask:=nT hI (ps:=pk);have hpb:=Ya pk it hI.1;simp only[ABa,ABn,ABV,ACG,ABy,ABS];rw[o6 it hI n hn,ABS];dsimp only;rw[o7 pk h72 hP (VV it) hs0 n hn,ABS];by_cases hN:∀p∈pk,1<=p.2.2/\p.2.2<=1000
 ·rw[AAS hN]
  have h3:=QP (Td n it pk) it (λy=>Q4 y.1 pk==y.2) (λi x hi hx=>by
   obtain⟨_,rfl⟩:=AAO.1 hx;unfold Td;rw[show decide ((i:Int)<(it.length:Int))=true by rw[AAh];clear hn;omega,ABT,PA hi,ABS,dX pk h72 hN it[i].1 n hn,ABS,ABS,O9 hi (show it.length<=9223372036854775807 by clear hn;omega)];simp only[bne];cases(Q4 it[i].1 pk==it[i].2)<;>rfl) (by unfold Td;simp) n ADW
  dsimp only;rw[h3];cases ha:it.all (λy=>Q4 y.1 pk==y.2)with
  |false=>
   rw[ABV,ABS];show some false=_
   rw[show XR pk it=false by
    rw[<-ABt];intro h;have:=(hask.2 (hpb.1 h)).2.1;rw[<-ABt]at ha;exact ha (AAZ.2 λy hy=>AAX.2 (this y hy))]
  |true=>
   rw[ABT,ABS];show some (VV it-W6 pk==0)=_;refine congrArg some ?_;rw[AB0,hpb,<-hask,AAX];exact⟨λh=>⟨hN,λy hy=>AAX.1 (AAZ.1 ha y hy),h⟩,λh=>h.2.2⟩
 grind
def jy(l:AAL)(i:Nat):Bool:=match l[i]? with
 |some o=>decide (o.2.2.2.1.length<=72)
 |none=>false
theorem Yu{l:AAL}(h:Qd (nx,l))(hp:iR l)(n:Nat)(hn:PO<=n):∃b,SG n nx l=some b/\(b=true↔We nx l/\∀o∈l,o.2.2.2.1.length<=72):=by
 have hl:l.length<=1048576:=h.1;unfold SG;simp only[QR,ABS];by_cases hx:1<=nx/\nx<=1000000
 ·rw[show P7 nx 1 1000000=true by unfold P7;rw[ABY hx.1,ABY hx.2];rfl];simp only[ABa,ABV,ABS];by_cases h30:l.length<=30
  ·rw[show decide ((l.length:Int)>30)=false by grind,ABV]
   have:=Qf (VF n nx l) (λi=>(i:Int)) l.length (λi=>Z0 nx l i&&jy l i) (λi hi=>by
    have hm:=ABU hi;have hpr:(bif decide ((i:Int)>0)then(Iz l (PB ((i:Int)-1))).bind (λy=>some (decide (y.1>=l[i].1)))else some false)=some (!Qo (·.1) l i l[i]):=X3 (·.1) l l[i] i hi hl some;have hov:=bF l[i] (h.2 _ hm).1 (hp _ hm) n hn;simp only[VF,PA hi,ABS,QR,O9 hi (show l.length<=9223372036854775807 by clear hn;omega),hpr,hov];rw[show decide ((i:Int)<(l.length:Int))=true by rw[AAh];clear hn;omega,PJ (n:=nx-1) ADV ADV];unfold Z0 jy;grind) (by simp[VF]) n ADW
   rw[show((0:Nat):Int)=0 from rfl]at this;rw[this,ABS];refine⟨(List.range l.length).all (λi=>Z0 nx l i&&jy l i),?_,?_⟩
   ·grind
   ·rw[<-jb hx h30,AAZ,AAZ];simp only[AAN];constructor
    ·intro q;refine⟨λi hi=>(q i hi).1,λo ho=>?_⟩;obtain⟨i,hi,rfl⟩:=ABX.1 ho;have:=(q i (AAb.2 hi)).2;unfold jy at this;grind
    ·rintro ⟨q1,q2⟩ i hi
     refine⟨q1 i hi,?_⟩;have hi:=AAb.1 hi;unfold jy;grind
  ·rw[show decide ((l.length:Int)>30)=true by grind,ABT];exact⟨false,rfl,(λe=>by cases e),λhb=>(h30 hb.1.2.1).elim⟩
 ·rw[show P7 nx 1 1000000=false by
   unfold P7;rw[ACU,AAr,AAr];by_cases h:1<=nx
   ·exact .inr λq=>hx ⟨h,q⟩
   ·exact .inl h]
  exact⟨false,rfl,(λe=>by cases e),λhb=>(hx hb.1.1).elim⟩
theorem WY{l:AAL}(h:Qd (nx,l))(n:Nat)(hn:PO<=n):∃b,Qu n nx l=some b/\(b=true↔We nx l):=by
 have hl:l.length<=1048576:=h.1;unfold Qu;simp only[Tu,QR,ABS];by_cases hx:1<=nx/\nx<=1000000
 ·rw[show P7 nx 1 1000000=true by unfold P7;rw[ABY hx.1,ABY hx.2];rfl];simp only[ABa,ABV,ABS];by_cases h30:l.length<=30
  ·rw[show decide ((l.length:Int)>30)=false by rw[AAr];clear hn;omega,ABV]
   have:=Qf (Uo n nx l) (λi=>(i:Int)) l.length (Z0 nx l) (λi hi=>by
    have hm:=ABU hi;have hpr:∀C:Option Bool,(bif decide ((i:Int)>0)then(Iz l (PB ((i:Int)-1))).bind (λy=>bif decide (y.1>=l[i].1)then some true else C)else C)=bif !Qo (·.1) l i l[i]then some true else C:=λC=>X3 (·.1) l l[i] i hi hl λb=>bif b then some true else C;have hit:l[i].2.2.1.length<=1048576:=(h.2 _ hm).1;have hpk:l[i].2.2.2.1.length<=1048576:=(h.2 _ hm).2
    have hpo:Vf l[i].2.2.1=true->U7 n l[i].2.2.2.1 l[i].2.2.1=some (XR l[i].2.2.2.1 l[i].2.2.1):=λe=>by
     have hI:=Vg.1 e;exact bj _ hpk _ ⟨hI.1,λy hy=>by have:=hI.2.1 y hy;clear hn;omega,hI.2.2⟩ n hn
    simp only[Uo,PA hi,ABS,Tu,QR,O9 hi (show l.length<=9223372036854775807 by clear hn;omega),hpr,Ry _ hit n hn];rw[show decide ((i:Int)<(l.length:Int))=true by rw[AAh];clear hn;omega,PJ (n:=nx-1) ADV ADV];unfold Z0;rw[AAM hi];dsimp only;cases hib:Vf l[i].2.2.1 with
    |false=>cases P7 l[i].1 1 (nx-1)<;>cases Qo (·.1) l i l[i]<;>cases P7 l[i].2.1 0 99<;>cases P7 l[i].2.2.2.2 1 3<;>cases((l[i].2.2.1.length:Int)==0)<;>rfl
    |true=>
     rw[hpo hib];cases P7 l[i].1 1 (nx-1)<;>cases Qo (·.1) l i l[i]<;>cases P7 l[i].2.1 0 99<;>cases P7 l[i].2.2.2.2 1 3<;>cases((l[i].2.2.1.length:Int)==0)<;>cases XR l[i].2.2.2.1 l[i].2.2.1<;>rfl) (by simp[Uo]) n ADW
   rw[show((0:Nat):Int)=0 from rfl]at this;rw[this,ABS];refine⟨(List.range l.length).all (Z0 nx l),?_,jb hx h30⟩;grind
  ·rw[show decide ((l.length:Int)>30)=true by grind,ABT];exact⟨false,rfl,(λe=>by cases e),λhb=>(h30 hb.2.1).elim⟩
 ·rw[show P7 nx 1 1000000=false by
   unfold P7;rw[ACU,AAr,AAr];by_cases h:1<=nx
   ·exact .inr λq=>hx ⟨h,q⟩
   ·exact .inl h]
  exact⟨false,rfl,(λe=>by cases e),λhb=>(hx hb.1).elim⟩
def Ok{α:Type}(x:Option α)(P:α->Prop):Prop:=∃r,x=some r/\P r
section
variable {α β γ:Type}{P:α->Prop}{Q:β->Prop}
theorem Ok.pure{r:α}(h:P r):Ok (some r) P:=⟨r,rfl,h⟩
theorem Ok.bind{x:Option α}{f:α->Option β}(h:Ok x P)(hf:∀r,P r->Ok (f r) Q):Ok (x.bind f) Q:=by obtain⟨r,rfl,hr⟩:=h;exact hf r hr
theorem Ok.cond{b:Bool}{x y:Option α}(h1:b=true->Ok x P)(h2:b=false->Ok y P):Ok (bif b then x else y) P:=No
theorem Ok.guard{b:Bool}{x y:Option α}(hb:b=true)(h:Ok x P):Ok (bif b then x else y) P:=No
theorem Ok.mono{x:Option α}{P':α->Prop}(h:Ok x P)(hp:∀r,P r->P' r):Ok x P':=by obtain⟨r,e,hr⟩:=h;exact⟨r,e,hp r hr⟩
theorem Ok.Iz{xs:List α}{i:Int}(h:0<=i/\i<(xs.length:Int)):Ok (Go.Ev.Iz xs i) λr=>xs[i.toNat]?=some r:=by
 obtain⟨m,rfl⟩:∃m:Nat,i=m:=⟨i.toNat,J⟩;have hm:m<xs.length:=J
 exact⟨xs[m],PA hm,by simp[hm]⟩
theorem Ok.get{xs:List α}{i:Nat}(h:i<xs.length):Ok xs[i]? λr=>xs[i]?=some r:=⟨xs[i],AAM h,AAM h⟩
theorem iv{xs:List α}{i:Int}(h:0<=i/\i<(xs.length:Int)):OU xs i=true:=by unfold OU;grind
theorem Ok.iter{f:α->Option (α⊕γ)}{S:γ->Prop}(R:Nat->α->Prop)
  (h:∀k x,R k x->Ok (f x) λy=>(∃x',y=.inl x'/\∃k',R k' x'/\k'<k)\/∃z,y=.inr z/\S z) {n k:Nat} {x:α} (hR:R k x) (hk:k<n):Ok (Go.Ev.iter n f x) S:=by
 obtain⟨z,hz,e⟩:=Ud R S (λk x hx=>by
  obtain⟨y,e,hy⟩:=h k x hx;rcases hy with⟨x',rfl,k',h1,h2⟩|⟨z,rfl,h1⟩
  ·exact .inr ⟨x',k',e,h1,h2⟩
  grind) n k x hR hk
 exact⟨z,e,hz⟩
end
def QW{α:Type}(g:Nat->Option α):Prop:=∀n m r,n<=m->g n=some r->g m=some r
theorem QW.const{α:Type}(x:Option α):QW λ_=>x:=λ_ _ _ _ h=>h
theorem QW.bind{α β:Type}{g:Nat->Option α}{f:Nat->α->Option β}(hg:QW g)(hf:∀x,QW λn=>f n x):QW λn=>(g n).bind (f n):=by
 intro n m r hnm h;cases hx:g n with
 |none=>grind
 |some x=>
  simp only[hx,ABS]at h;simp only[hg n m x hnm hx,ABS];exact hf x n m r hnm h
theorem QW.cond{α:Type}{b:Bool}{g h:Nat->Option α}(hg:QW g)(hh:QW h):QW λn=>bif b then g n else h n:=by
 cases b with
 |true=>exact hg
 |false=>exact hh
theorem QW.iter{α γ:Type}{L:Nat->α->Option (α⊕γ)}(hL:∀x,QW λn=>L n x)(x0:α):QW λn=>Go.Ev.iter n (L n) x0:=by
 have key:∀(k n m:Nat)(x:α)(r:γ),n<=m->k<=k+0->Go.Ev.iter k (L n) x=some r->∀j,k<=j->Go.Ev.iter j (L m) x=some r:=by
  intro k
  induction k with
  |zero=>intro n m x r _ _ h;simp[Go.Ev.iter]at h
  |succ k ih=>
   intro n m x r hnm _ h j hj;obtain⟨j,rfl⟩:∃i,j=i+1:=⟨j-1,J⟩;simp only[Go.Ev.iter]at h ⊢;cases hx:L n x with
   |none=>rw[hx]at h;cases h
   |some y=>
    rw[hx]at h;have h2:L m x=some y:=hL x n m y hnm hx;rw[h2];cases y with
    |inl x'=>exact ih n m x' r hnm J h j J
    |inr z=>exact h
 intro n m r hnm h;grind
def Cu(b:By)(i:Int):Prop:=b.length<=1048576/\0<=i
theorem Rf{b:By}{i c:Int}(h:Cu b i)(m:Int):Ok (Pn b i c m) λx=>Cu x.2.1 x.2.2.1/\0<=x.1/\(0<m->x.1<m):=by obtain⟨x,i',h',e,h1,h2,h3⟩:=lK b i c h.2 h.1 m;exact⟨_,e,⟨h.1,h1⟩,h2,λhm=>J⟩
theorem dt{b:By}{i c:Int}(h:Cu b i)(m:Int):Ok (TJ b i c m) λx=>Cu x.2.1 x.2.2.1:=by unfold TJ;exact(Rf h m).bind λr hr=>Ok.pure hr.1
theorem ok_int{b:By}{i c:Int}(h:Cu b i){xs:By}(hx:0<xs.length):Ok (Vp b i c xs) λx=>Cu x.2.1 x.2.2.1/\x.1∈xs:=by unfold Vp;refine(Rf h _).bind λr hr=>(Ok.Iz ⟨hr.2.1,hr.2.2 J⟩).bind λv hv=>Ok.pure ⟨hr.1,AAR hv⟩
theorem o5{b:By}{i c:Int}(h:Cu b i){xs:List ADZ}(hx:0<xs.length):Ok (XW b i c xs) λx=>Cu x.2.1 x.2.2.1/\x.1∈xs:=by unfold XW;refine(Rf h _).bind λr hr=>(Ok.Iz ⟨hr.2.1,hr.2.2 J⟩).bind λv hv=>Ok.pure ⟨hr.1,AAR hv⟩
theorem lr(s:ADZ)(b:Int):QW λn=>W4 n s b:=by unfold W4;exact QW.bind (QW.iter (L:=λ_=>Yz s b) (λ_=>QW.const _) _) λ_=>QW.const _
theorem nJ(c:Int):QW λn=>Xq n c:=by unfold Xq;exact QW.bind (QW.iter (L:=λ_=>ZV c) (λ_=>QW.const _) _) λx=>QW.const _
theorem lY(s:ADZ):QW λn=>Qh n s:=by unfold Qh;refine QW.bind (lr s 10) λx1=>QW.cond (QW.bind (QW.const _) λx2=>QW.bind (QW.iter (L:=λn=>UT n x1) (λx3=>?_) _) λ_=>QW.const _) (QW.const _);unfold UT;refine QW.cond (QW.bind (QW.const _) λx5=>QW.cond (QW.const _) (QW.bind (QW.const _) λx9=>QW.cond (QW.const _) (QW.bind (QW.iter (L:=λn=>UU n x1 x3) (λx10=>?_) _) λ_=>QW.const _))) (QW.const _);unfold UU;refine QW.cond (QW.bind (QW.const _) λ_=>QW.cond (QW.cond (QW.bind (QW.const _) λ_=>QW.bind (QW.const _) λ_=>QW.bind (nJ _) λ_=>QW.const _) (QW.const _)) (QW.const _)) (QW.const _)
def aF:List ADZ:=[[99,46,46,46,46,46,10,46,112,112,46,112,46,10,46,112,112,46,112,46,10,46,46,46,46,46,115,10],[99,46,46,10,46,46,46,10,46,46,115,10],[46,46,46,46,46,10,46,112,35,112,46,10,46,46,115,46,46,10,46,112,35,112,46,10,99,46,46,46,99,10],[46,46,46,35,46,46,46,10,46,46,46,46,46,46,46,10,46,46,46,35,46,46,46,10],[99,46,46,46,46,46,46,46,10,46,112,46,112,46,112,46,46,10,46,46,46,46,46,46,46,115,10,46,112,46,112,46,112,46,46,10,99,46,46,46,46,46,46,115,10],[46,46,10,46,46,10],[99,46,35,46,115,10,46,46,35,46,46,10]]
def dq(s:ADZ):Bool:=match Qh 60 s with
 |some (w,h,c,b)=>PY w h c&&b == -1&&decide (0<c.length)
 |none=>false
theorem gC:aF.all dq=true:=by kernel_rfl
theorem kD{s:ADZ}(h:dq s=true)(n:Nat)(hn:PO<=n):Ok (Qh n s) λx=>PY x.1 x.2.1 x.2.2.1=true/\x.2.2.2 = -1/\0<x.2.2.1.length:=by
 unfold dq at h;cases hp:Qh 60 s with
 |none=>grind
 |some x=>
  rw[hp]at h;obtain⟨w,q,c,b⟩:=x;simp only[AAN,AAX,AAh]at h;exact⟨_,lY s 60 n _ ADW hp,h.1.1,h.1.2,h.2⟩
theorem lL(n:Nat)(hn:PO<=n){b:By}{i c:Int}(h:Cu b i):Ok (VN n b i c) λx=>PY x.1 x.2.1 x.2.2.1=true/\0<x.2.2.1.length/\Cu x.2.2.2.1 x.2.2.2.2.1:=by
 unfold VN;refine(dt h 3).bind λr hr=>Ok.cond (λ_=>?_) λ_=>?_
 ·refine(o5 hr (xs:=aF) (by simp[aF])).bind λt ht=>?_;refine(kD (AAZ.1 gC _ ht.2) n hn).bind λx hx=>Ok.pure ⟨hx.1,hx.2.2,ht.1⟩
 ·refine(Rf hr 7).bind λx hx=>(Rf hx.1 6).bind λy hy=>?_;have x1:=hx.2.2 J;have y1:=hy.2.2 J;have x0:=hx.2.1;have y0:=hy.2.1;rw[PJ (n:=1+x.1) J J,PJ (n:=1+y.1) J J];generalize hW:1+x.1=W;generalize hH:1+y.1=H
  have hWH:W*H<=100/\1<=W*H:=by
   have a1:1<=W:=J
   have a2:W<=10:=J
   have a3:1<=H:=J
   have a4:H<=10:=J
   have h1:W*H<=10*H:=Int.mul_le_mul_of_nonneg_right a2 J;have h2:1*H<=W*H:=Int.mul_le_mul_of_nonneg_right a1 J;omega
  refine Ok.bind (P:=λz=>PY W H z.2.2.2.2.2.2=true/\0<z.2.2.2.2.2.2.length/\z.2.2.2.2.1=W/\z.2.2.2.2.2.1=H/\Cu z.2.1 z.2.2.1) (Ok.iter (λk z=>z.1+(k:Int)=W*H/\0<=z.1/\(z.2.2.2.2.2.2.length:Int)=z.1/\(z.2.2.2.2.2.2.all λk=>P7 k 0 4)=true/\z.2.2.2.2.1=W/\z.2.2.2.2.2.1=H/\Cu z.2.1 z.2.2.1) (λk z hz=>?_) (k:=(W*H).toNat) ⟨J,J,rfl,rfl,rfl,rfl,hy.1⟩ ADW) λz hz=>?_
  ·obtain⟨z1,z2,z3,z4,z5,z6,z7⟩:=hz;unfold Yy;rw[z5,z6,PJ (n:=W*H) J J];refine Ok.cond (λhb=>?_) λhb=>?_
   ·have hb:=AAx hb;refine(ok_int z7 so).bind λv hv=>Ok.guard (SV J) (Ok.pure (.inl ⟨_,rfl,k-1,⟨?_,?_,?_,?_,rfl,rfl,hv.1⟩,J⟩))
    ·show PB (z.1+1)+_=_;rw[PJ J J];omega
    ·show 0<=PB (z.1+1);rw[PJ J J];omega
    ·show((z.2.2.2.2.2.2++[v.1]).length:Int)=PB (z.1+1);rw[PJ J J];simp;omega
    ·show((z.2.2.2.2.2.2++[v.1]).all λk=>P7 k 0 4)=true;rw[List.all_append,z4];have hv2:=hv.2;simp only[AAj,List.not_mem_nil,or_false]at hv2;rcases hv2 with e|e|e|e|e|e|e|e|e|e<;>rw[e]<;>rfl
   ·have hb:=of_decide_eq_false hb;refine Ok.pure (.inr ⟨_,rfl,?_,?_,z5,z6,z7⟩)
    ·show PY W H z.2.2.2.2.2.2=true;unfold PY;rw[z4,PJ (n:=W*H) J J,show((z.2.2.2.2.2.2.length:Int)==W*H)=true by rw[AAX];omega];unfold P7;rw[ABY (show 1<=W by omega),ABY (show W<=10 by omega),ABY (show 1<=H by omega),ABY (show H<=10 by omega)];rfl
    grind
  ·obtain⟨z1,z2,z3,z4,z5⟩:=hz;refine Ok.pure ⟨?_,z2,z5⟩;grind
theorem kH(a:ADS)(ha:a.length<=1048576)(n:Nat)(hn:PO<=n):V4 n a a=some true:=by
 have h1:=QP (Ta a a) a (λ_=>true) (λi x hi hx=>by
  obtain⟨_,rfl⟩:=AAO.1 hx;have hd:decide ((i:Int)<(a.length:Int))=true:=by rw[AAh];clear hn;omega
  simp only[Ta,hd,ABT,PA hi,ABS,ABl,AB7,ABa,ABV,O9 hi (show a.length<=9223372036854775807 by clear hn;omega)]) (by simp[Ta]) n ADW
 unfold V4;grind
theorem jI(a:AAA)(ha:a.length<=1048576)(n:Nat)(hn:PO<=n):VA n a a=some true:=by
 have h1:=QP (Sq a a) a (λ_=>true) (λi x hi hx=>by
  obtain⟨_,rfl⟩:=AAO.1 hx;have hd:decide ((i:Int)<(a.length:Int))=true:=by rw[AAh];clear hn;omega
  simp only[Sq,hd,ABT,PA hi,ABS,ABl,AB7,ABa,ABV,O9 hi (show a.length<=9223372036854775807 by clear hn;omega)]) (by simp[Sq]) n ADW
 unfold VA;grind
def QX(c:By)(k:Int):Nat->By
 |0=>[]
 |i+1=>bif c.getD i 0==k then QX c k i++[(i:Int)]else QX c k i
theorem Z8(c:By)(k:Int):∀i,(QX c k i).length<=i
 |0=>AAi _
 |i+1=>by have:=Z8 c k i;unfold QX;grind
theorem XD{c:By}{k x:Int}:∀ {i},x∈QX c k i->∃j:Nat,x=(j:Int)/\j<i/\c.getD j 0=k
 |0,h=>by cases h
 |i+1,h=>by
  unfold QX at h;cases hb:(c.getD i 0==k)with
  |false=>
   rw[hb,ABV]at h;obtain⟨j,h1,h2,h3⟩:=XD h;grind
  |true=>
   rw[hb,ABT,ABK,ABM]at h;rcases h with h|h
   ·obtain⟨j,h1,h2,h3⟩:=XD h;exact⟨j,h1,J,h3⟩
   grind
theorem bS(c:By)(k:Int):∀i,(QX c k i).Pairwise (· < ·)
 |0=>List.Pairwise.nil
 |i+1=>by
  have hp:=bS c k i;unfold QX;cases hb:(c.getD i 0==k)with
  |false=>grind
  |true=>
   rw[ABT,ABr];refine⟨hp,List.pairwise_singleton _ _,λx hx y hy=>?_⟩;obtain⟨j,h1,h2,_⟩:=XD hx;grind
theorem ml(hi:i<c.length):QX c k (i+1)=bif c[i]==k then QX c k i++[(i:Int)]else QX c k i:=by rw[QX,show c.getD i 0=c[i] by simp[hi]]
theorem Vk(w h:Int)(c:By)(hl:c.length<=1048576)(hf:PY w h c=true)(k:Int)(n:Nat)(hn:PO<=n):SL n w h c k=some (QX c k c.length):=by
 have hs:=Ps w h c hl n hn
 have h1:iter n (SX n w h c k) (([]:By),(0:Int))=some (QX c k c.length,(c.length:Int)):=Pc (SX n w h c k) (λi=>(QX c k i,(i:Int))) c.length (QX c k c.length,(c.length:Int)) (λi hi=>by
  have hr:decide ((QX c k i).length+1<=E8)=true:=SV (by have:=Z8 c k i;clear hn;omega);unfold SX;rw[hs,hf];dsimp only;rw[show decide ((i:Int)<(c.length:Int))=true by rw[AAh];clear hn;omega,ml hi];simp only[ABT,ABS,PA hi,O9 hi (show c.length<=9223372036854775807 by clear hn;omega),ABb,hr];grind) (by unfold SX;grind) n ADW
 unfold SL;rw[h1];rfl
def ZF(w h:Int)(c:By)(a:Is):Bool:=PY w h c&&Pw a&&(List.range a.length).all (YR a)&&(List.range a.length).all (aH c a)
def P3(c:By):By:=QX c 4 c.length
theorem oI(k:Int):∀(l:Is)(z:Int),(∀p∈l,0<=S0 p.2.2 k/\S0 p.2.2 k<=1000)->z<=(l.map λp=>S0 p.2.2 k).foldl (· + ·) z/\(l.map λp=>S0 p.2.2 k).foldl (· + ·) z<=z+1000*(l.length:Int)
 | [],z,_=>so
 |p::l,z,h=>by have h1:=h p AAo;have h2:=oI k l (z+S0 p.2.2 k) λq hq=>h q (AAQ _ hq);grind
theorem eC(a:Is)(k:Int):0<=Sf a k/\Sf a k<=12000:=by
 unfold Sf;cases h:Pw a with
 |false=>grind
 |true=>
  rw[ABT];obtain⟨h1,h2⟩:=jE h
  have:=oI k a 0 λp hp=>by obtain⟨i,hi,rfl⟩:=ABX.1 hp;exact cR (h2 i hi) k
  omega
theorem dA(a:Is):∀m,m<=50->∀j,j<=50->(Rv a m)[j]?=some (bif decide (1<=j)&&decide (j<=m)then Sf a (j:Int)else 0)
 |0,_,j,hj=>by
  have:(decide (1<=j)&&decide (j<=0))=false:=by rw[ACU,AAr,AAr];omega
  rw[this,ABV];show(List.replicate 51 (0:Int))[j]?=some 0;grind
 |m+1,hm,j,hj=>by have hi:=dA a m J j hj;show((Rv a m).set (m+1) (Sf a ((m+1:Nat):Int)))[j]?=_;grind
theorem eE(ds:By):∀m i,i<m->(Rw ds m)[i]?=some (((i+1:Nat):Int),ds.getD i 0, -1,false,0)
 |0,i,h=>J
 |m+1,i,h=>by
  rw[Rw,List.getElem?_append,UR];by_cases hi:i<m
  ·rw[AAS hi];exact eE ds m i hi
  grind
theorem W8{ds:By}{m:Nat}(h:i<(Rw ds m).length):(Rw ds m)[i]=(((i+1:Nat):Int),ds.getD i 0, -1,false,0):=by have:=eE ds m i (by rw[UR]at h;exact h);grind
theorem kz(hi:i<(P3 c).length):QU c ((P3 c).getD i 0)=true:=by rw[show(P3 c).getD i 0=(P3 c)[i] by simp[hi]];obtain⟨j,h1,h2,h3⟩:=XD (ABU hi);rw[h1];unfold QU P7;grind
theorem qu(c:By):CW c (Rw (P3 c) (min (P3 c).length 20)):=by
 have key:∀r∈Rw (P3 c) (min (P3 c).length 20),∃i:Nat,i<(P3 c).length/\i<20/\r=(((i+1:Nat):Int),(P3 c).getD i 0, -1,false,0):=by intro r hr;obtain⟨i,hi,rfl⟩:=ABX.1 hr;have hi2:=hi;rw[UR]at hi2;exact⟨i,J,J,W8 hi⟩
 have hpw:=bS c 4 c.length;refine⟨by rw[UR];omega,λr hr=>?_,λr hr=>?_,λr hr=>?_,λr hr=>?_,?_,?_⟩
 ·grind
 ·obtain⟨i,h1,h2,rfl⟩:=key r hr;exact kz h1
 ·grind
 ·grind
 ·refine ABP.2 λi j hi hj hij=>?_;rw[W8 hi,W8 hj];omega
 ·refine ABP.2 λi j hi hj hij=>?_;have hi2:=hi;have hj2:=hj;rw[UR]at hi2 hj2;have hdi:i<(P3 c).length:=J
  have hdj:j<(P3 c).length:=J
  rw[W8 hi,W8 hj];show(P3 c).getD i 0≠(P3 c).getD j 0;have:(P3 c)[i]<(P3 c)[j]:=ABP.1 hpw i j hdi hdj hij;grind
theorem ZG(yh:ZF w h c a=true):PY w h c=true/\Pw a=true/\(∀p∈a,∀s∈p.2.2,s.2.2<=0)/\∀p∈a,P7 p.2.1 0 ((c.length:Int)-1)=true/\c.getD p.2.1.toNat 0=2:=by
 unfold ZF at yh;simp only[AAN,AAZ,AAb]at yh;obtain⟨⟨⟨h1,h2⟩,h3⟩,h4⟩:=yh;refine⟨h1,h2,λp hp s hs=>?_,λp hp=>?_⟩
 ·obtain⟨i,hi,rfl⟩:=ABX.1 hp;obtain⟨k,hk,rfl⟩:=ABX.1 hs;have:=h3 i hi;unfold YR at this;rw[AAM hi]at this;have:=AAZ.1 this k (AAb.2 hk);grind
 ·obtain⟨i,hi,rfl⟩:=ABX.1 hp;have:=h4 i hi;unfold aH at this;grind
theorem fW(a:Is){j:Nat}(hj:j<=50):(Rv a 50)[j]?=some (bif decide (1<=j)then Sf a (j:Int)else 0):=by rw[dA a 50 J j hj,ABY (show j<=50 from hj),ACG]
theorem jH(a:Is)(ha:Pf a)(n:Nat)(hn:PO<=n):U9 n a a=some true:=by
 have hl:a.length<=1048576:=ha.1
 have h1:=QP (Sn n a a) a (λ_=>true) (λi x hi hx=>by
  obtain⟨_,rfl⟩:=AAO.1 hx;have hpl:a[i].2.2.length<=1048576:=ha.2 _ (ABU hi)
  have h2:=QP (Sp a[i] a[i]) a[i].2.2 (λ_=>true) (λj y hj hy=>by
   obtain⟨_,rfl⟩:=AAO.1 hy;have hd:decide ((j:Int)<(a[i].2.2.length:Int))=true:=by rw[AAh];clear hn;omega
   simp only[Sp,hd,ABT,PA hj,ABS,ABl,AB7,ABa,ABV,O9 hj (show a[i].2.2.length<=9223372036854775807 by clear hn;omega)]) (by simp[Sp]) n ADW
  have zA:a[i].2.2.all (λ_=>true)=true:=so
  rw[zA,ABT]at h2;have hd:decide ((i:Int)<(a.length:Int))=true:=by rw[AAh];clear hn;omega
  simp only[Sn,hd,ABT,PA hi,ABS,ACR,ABV,h2,O9 hi (show a.length<=9223372036854775807 by clear hn;omega)]) (by simp[Sn]) n ADW
 unfold U9;grind
structure rU(nx:Int)(l:AAL):Prop where
 sm:Qd (nx,l)
 len:l.length<=29
 RM:iR l
 dR:We nx l->∀o∈l,o.2.2.2.1.length<=72
theorem rU.both{l:AAL}(h:rU nx l)(n:Nat)(hn:PO<=n):∃b,SG n nx l=some b/\Qu n nx l=some b/\(b=true↔We nx l):=by
 obtain⟨b1,e1,i1⟩:=Yu h.sm h.RM n hn;obtain⟨b2,e2,i2⟩:=WY h.sm n hn
 have:b1=b2:=by rw[AB0,i1,i2];exact⟨λq=>q.1,λq=>⟨q,h.dR q⟩⟩
 grind
abbrev vy:=Is×Int×AAL×Int
structure ca(s:Is)(nx:Int)(l:AAL)(desk:Int)(it:ADT)(o:OF):Prop where
 st:PQ s
 im:Xb it
 ne:0<it.length
 dk:0<=desk/\desk<=99
 bk:We nx l
 lt:nx<1000000
 fit:Fits s o
 pg:PG o it
 dR:o.length<=72
def tG(s:Is)(nx:Int)(l:AAL)(desk:Int)(it:ADT)(o:OF):vy:=(Pq s (tp o),nx+1,l++[(nx,desk,it,o,1)],nx)
def tQ(s:Is)(nx:Int)(l:AAL)(desk:Int)(it:ADT)(r:vy):Prop:=r=(s,nx,l,0)\/∃o,ca s nx l desk it o/\r=tG s nx l desk it o
theorem cI(s:Is)(hs:Pf s){l:AAL}(hq:rU nx l)(desk:Int)(it:ADT)(hit:it.length<=1000)(n:Nat)(hn:PO<=n)(b:Bool)(eb:SG n nx l=some b)(o:OF)(pb:Bool)(ep:UW n s it=some (o,pb)):
  Uf n s nx l desk it=some (bif Pw s&&b&&P7 desk 0 99 && !((it.length:Int)==0) && !(nx==1000000)&&pb then((Qz WI s o).1,PB (nx+1),l++[(nx,desk,it,o,1)],nx)else(s,nx,l,0))\/1048576<o.length:=by
 by_cases ho:1048576<o.length
 ·exact .inr ho
 left;have h29:=hq.len;unfold Uf;rw[Wa nx l hq.sm n hn,ABS,QM s hs n hn,eb];simp only[ABS,QR,P2 s hs n hn,ep];rw[show((l.length:Int)==30)=false by rw[ABZ];clear hn;omega];have h1:decide (([]:ADT).length+it.length<=E8)=true:=VD No;have h2:decide (l.length+1<=E8)=true:=SV J;cases Pw s with
 |false=>rfl
 |true=>
 cases b with
 |false=>rfl
 |true=>
 cases P7 desk 0 99 with
 |false=>rfl
 |true=>
 cases((it.length:Int)==0)with
 |true=>rfl
 |false=>
 cases(nx==1000000)with
 |true=>rfl
 |false=>
 cases pb with
 |false=>rfl
 |true=>
  simp only[ABa,ABn,ABV,ABT,ABS,AB7,ABb,h1,h2,AAy];rw[cM s hs o J n hn];rfl
theorem bZ(s:Is)(hs:Pf s){l:AAL}(hq:rU nx l)(desk:Int)(it:ADT)(hit:it.length<=1000)(n:Nat)(hn:PO<=n)(b:Bool)(eb:Qu n nx l=some b)(o:OF)(ho:o.length<=1048576)(pb:Bool)(ep:S7 n s it=some (o,pb)):
  S3 n s nx l desk it=some (bif Pw s&&b&&P7 desk 0 99 && !((it.length:Int)==0)&&Vf it && !(decide (nx>=1000000))&&(pb&&(Qz WI s o).2)then((Qz WI s o).1,PB (nx+1),l++[(nx,desk,it,o,1)],nx)else(s,nx,l,0)):=by
 have h29:=hq.len;unfold S3;rw[QK s hs n hn,eb];simp only[ABS,Tu,QR,Pa s hs n hn,Q9 nx l hq.sm n hn,ep,YB s hs o ho n hn,Ry it (show it.length<=1048576 by omega) n hn];rw[show decide ((l.length:Int)>=30)=false by rw[AAr];clear hn;omega];have h1:decide (it.length<=E8)=true:=VD J;have h2:decide (l.length+1<=E8)=true:=SV J;unfold Qa;simp only[h1,ABb,h2,ABT,ABS];cases Pw s with
 |false=>rfl
 |true=>
 grind
theorem jX(s:Is)(hs:Pf s){l:AAL}(hq:rU nx l)(desk:Int)(it:ADT)(hit:it.length<=1000)(n:Nat)(hn:PO<=n):∃r,Uf n s nx l desk it=some r/\S3 n s nx l desk it=some r/\tQ s nx l desk it r:=by
 obtain⟨b,eb1,eb2,hb⟩:=hq.both n hn;obtain⟨o,pb,ep1,ep2,hp1,hp2⟩:=mg s hs it J n hn
 have ho:o.length<=72:=by
  cases pb with
  |true=>grind
  |false=>grind
 have e1:=(cI s hs hq desk it hit n hn b eb1 o pb ep1).resolve_right J;have e2:=bZ s hs hq desk it hit n hn b eb2 o J pb ep2;cases pb with
 |false=>
  refine⟨(s,nx,l,0),?_,?_,.inl rfl⟩
  all_goals grind
 |true=>
  obtain⟨hS,hI,hpg,hft,_⟩:=hp1 rfl;have hH:=gq hS hft;rw[hH.1]at e1 e2;rw[Vg.2 hI]at e2;by_cases hB:We nx l
  ·have hnx:=hB.1;rw[hb.2 hB]at e1 e2
   have yF:(!(nx==1000000)) = !(decide (nx>=1000000)):=by
    by_cases h:nx=1000000
    ·rw[h];rfl
    ·grind
   rw[yF]at e1;by_cases yh:(P7 desk 0 99 && !((it.length:Int)==0) && !(decide (nx>=1000000)))=true
   ·have hfull:(Pw s&&true&&P7 desk 0 99 && !((it.length:Int)==0) && !(decide (nx>=1000000))&&true)=true:=by rw[Pz.2 hS];simp only[ACG,ABy];exact yh
    have hfull2:(Pw s&&true&&P7 desk 0 99 && !((it.length:Int)==0)&&true && !(decide (nx>=1000000))&&(true&&true))=true:=by rw[Pz.2 hS];simp only[ACG,ABy];exact yh
    rw[hfull,ABT]at e1;dsimp only at e2;rw[hfull2,ABT]at e2;simp only[AAN,AAa,ABZ,AAr]at yh
    have hdk:0<=desk/\desk<=99:=by have:=yh.1.1;unfold P7 at this;simp only[AAN,AAh]at this;exact this
    have hw:PB (nx+1)=nx+1:=PJ J J;rw[hw]at e1 e2;exact⟨_,e1,e2,.inr ⟨o,⟨hS,hI,J,hdk,hB,J,hft,hpg,ho⟩,rfl⟩⟩
   ·have hno:(Pw s&&true&&P7 desk 0 99 && !((it.length:Int)==0) && !(decide (nx>=1000000))&&true)=false:=by rw[<-ABt,Pz.2 hS];simp only[ACG,ABy];exact yh
    have hno2:(Pw s&&true&&P7 desk 0 99 && !((it.length:Int)==0)&&true && !(decide (nx>=1000000))&&(true&&true))=false:=by rw[<-ABt,Pz.2 hS];simp only[ACG,ABy];exact yh
    rw[hno,ABV]at e1;dsimp only at e2;rw[hno2,ABV]at e2;exact⟨_,e1,e2,.inl rfl⟩
  ·have hbf:b=false:=by
    cases b with
    |true=>grind
    |false=>rfl
   rw[hbf,Bool.and_false,AB3,AB3,AB3,AB3,ABV]at e1;rw[hbf,Bool.and_false,AB3,AB3,AB3,AB3,AB3,ABV]at e2;exact⟨_,e1,e2,.inl rfl⟩
theorem dQ{l:AAL}(h:Qd (nx,l))(hp:l.Pairwise λa b=>a.1<b.1)(hi:i<l.length){b:Bool}(n:Nat)(hn:PO<=n)(eb:Qu n nx l=some b)(st:Int):
  Uc n nx l l[i].1 st=some (bif b&&l[i].2.2.2.2==1 then(nx,l.modify i λy=>(y.1,y.2.1,y.2.2.1,y.2.2.2.1,st),true)else(nx,l,false)):=by
 unfold Uc;rw[Q9 nx l h n hn,ABS,WK nx l h.1 hp i hi n hn,ABS,eb];simp only[ABS,PE hi,ABW,PA hi,bne];grind
theorem ca.book{s:Is}{l:AAL}{desk:Int}{it:ADT}(h:ca s nx l desk it o)(h29:l.length<=29):We (nx+1) (l++[(nx,desk,it,o,1)]):=by
 have hb:=h.bk;have xz:=h.lt;refine⟨⟨by have:=hb.1;omega,J⟩,No,?_,λq hq=>?_⟩
 ·refine ABr.2 ⟨hb.2.2.1,List.pairwise_singleton _ _,λx hx y hy=>?_⟩;rw[ABM.1 hy];have:=(hb.2.2.2 x hx).1;omega
 ·rcases ABK.1 hq with hq|hq
  ·obtain⟨⟨q1,q2⟩,q3⟩:=hb.2.2.2 q hq;exact⟨⟨q1,J⟩,q3⟩
  ·rw[ABM.1 hq];exact⟨⟨by show 1<=nx;have:=hb.1;omega,J⟩,h.dk,⟨h.im,h.ne⟩,h.pg,⟨No,No⟩⟩
theorem kM{m:Int}{l:AAL}(h:Qd (nx,l))(hl:l.length<=1000)(x:PZ)(hi:x.2.2.1.length<=1000)(hp:x.2.2.2.1.length<=1000):Qd (m,l++[x]):=by
 refine⟨No,λo ho=>?_⟩;rcases ABK.1 ho with ho|ho
 ·exact h.2 o ho
 ·rw[ABM.1 ho];exact⟨by show x.2.2.1.length<=_;omega,by show x.2.2.2.1.length<=_;omega⟩
def P6(l:AAL)(id:Int):Option PZ:=l.find? λo=>o.1==id
def Ss(crew:ADS)(id:Int):Option Pb:=crew.find? λr=>r.1==id
def Sg(a:Is)(l:AAL)(t:PV):Int:=if t.2.2.2=3 then(match P6 l t.1 with|some o=>o.2.1|none=>0)else(match Xi a t.2.1 with|some p=>p.2.1|none=>0)
structure Tm(a:Is)(l:AAL)(crew:ADS)(t:PV):Prop where
 ord:∃o,P6 l t.1=some o/\o.2.2.2.2=1/\∃p∈o.2.2.2.1,p.1=t.2.1
 PH:∃q,Xi a t.2.1=some q
 gU:t.2.2.2≠1->∃r,Ss crew t.2.2.1=some r/\r.2.2.1=Sg a l t/\r.2.2.2.1=decide (2<t.2.2.2)
structure DI(w h:Int)(c:By)(a:Is)(nx:Int)(l:AAL)(crew:ADS)(ts:AAA):Prop where
 fl:PY w h c=true
 st:PQ a
 hm:∀p∈a,QU c p.2.1=true
 bk:We nx l
 LL:iR l
 dR:∀o∈l,o.2.2.2.1.length<=72
 dk:∀o∈l,QU c o.2.1=true
 cw:CW c crew
 WT:TP ts
 tk:∀t∈ts,Tm a l crew t
structure DW(w h:Int)(c:By)(a:Is)(l:AAL)(crew:ADS)(ts:AAA):Prop where
 fl:PY w h c=true
 st:PQ a
 cw:CW c crew
 WT:TP ts
 tk:∀t∈ts,Tm a l crew t
theorem DI.dw{l:AAL}{crew:ADS}(d:DI w h c a nx l crew ts):DW w h c a l crew ts:=⟨d.fl,d.st,d.cw,d.WT,d.tk⟩
def XB(a b:Is):Prop:=∀id,(Xi b id).map (·.2.1)=(Xi a id).map (·.2.1)
theorem XB.goal(h:XB a b){l k:AAL}(ho:P6 k t.1=P6 l t.1):Sg b k t=Sg a l t:=by
 unfold Sg;rw[ho];split
 ·rfl
 ·have:=h t.2.1;grind
theorem Tm.same(h:XB a b){l k:AAL}{crew:ADS}(ho:P6 k t.1=P6 l t.1)(ht:Tm a l crew t):Tm b k crew t:=by
 refine⟨by rw[ho];exact ht.ord,?_,λe=>?_⟩
 ·obtain⟨q,hq⟩:=ht.PH;have:=h t.2.1;rw[hq]at this;cases e1:Xi b t.2.1 with
  |none=>grind
  |some q2=>grind
 ·rw[h.goal ho];exact ht.gU e
theorem pK(a:Is)(f:Int->Int->Int):XB a (Pq a f):=by intro id;unfold Xi Pq;rw[ACN,Option.map_map];rfl
theorem iB{l:AAL}{o:PZ}(h:P6 l id=some o)(x:PZ):P6 (l++[x]) id=P6 l id:=by unfold P6 at h ⊢;grind
theorem fC{l:AAL}{x:PZ}(h:∀o∈l,o.1<x.1):P6 (l++[x]) x.1=some x:=by unfold P6;grind
theorem QS{l:AAL}{o:PZ}(h:P6 l id=some o):o∈l/\o.1=id:=⟨ABo h,by simpa using ACQ h⟩
theorem Sc{p:PK}(h:Xi a id=some p):p∈a/\p.1=id:=⟨ABo h,by simpa using ACQ h⟩
theorem Yc(h:∃p∈a,p.1=id):∃q,Xi a id=some q:=by
 obtain⟨p,hp,e⟩:=h;unfold Xi;cases hq:a.find? λp=>p.1==id with
 |some q=>grind
 |none=>
  grind
theorem jD:∀(ps:OF)(s:By),s.Nodup->(ps.foldl WM s).Nodup/\∀x,x∈ps.foldl WM s↔x∈s\/∃p∈ps,p.1=x
 | [],s,hs=>⟨hs,λx=>so⟩
 |p::ps,s,hs=>by
  have hn:(WM s p).Nodup/\∀x,x∈WM s p↔x∈s\/p.1=x:=by
   unfold WM;cases ha:s.any λy=>y==p.1 with
   |true=>
    rw[ABT];obtain⟨y,hy,e⟩:=AA8.1 ha;have e:=AAX.1 e
    exact⟨hs,λx=>⟨λh=>.inl h,λh=>by
     rcases h with h|h
     ·exact h
     ·rw[<-h,<-e];exact hy⟩⟩
   |false=>
    rw[ABV]
    have hno:p.1∉s:=λhm=>by rw[<-ABt]at ha;exact ha (AA8.2 ⟨p.1,hm,ABl _⟩)
    refine⟨AAc.2 ⟨hs,so,λx hx y hy e=>?_⟩,λx=>?_⟩
    ·rw[ABM.1 hy]at e;exact hno (e▸hx)
    ·rw[ABK,ABM];exact⟨λh=>h.imp id λe=>e.symm,λh=>h.imp id λe=>e.symm⟩
  obtain⟨i1,i2⟩:=jD ps (WM s p) hn.1;grind
theorem TG{x:Int}:x∈RM ps↔∃p∈ps,p.1=x:=by have:=(jD ps [] AAW).2 x;unfold RM;grind
theorem fK(ps:OF):(RM ps).Nodup:=(jD ps [] AAW).1
theorem Qt{l:AAA}:TP l↔l.length<=60/\(∀x∈l,QA x=true)/\l.Pairwise λu x=>Po x u=false:=by
 constructor
 ·intro h
  exact⟨h.len,λx hx=>by
   obtain⟨i,hi,rfl⟩:=ABX.1 hx;exact h.qz i hi,ABP.2 λi j hi hj hij=>h.apart j i hj hij⟩
 ·rintro ⟨h1,h2,h3⟩
  exact⟨h1,λi hi=>h2 _ (ABU hi),λi j hi hj=>ABP.1 h3 j i J hi hj⟩
theorem dz{x u:PV}(hx:x.2.2.2=1)(h:x.1≠u.1\/x.2.1≠u.2.1):Po x u=false:=by unfold Po;grind
theorem DI.take{l:AAL}{crew:ADS}(d:DI w h c a nx l crew ts){desk:Int}{it:ADT}(T:ca a nx l desk it o)(hdk:QU c desk=true)(h29:l.length<=29)(hlen:ts.length+(RM o).length<=60):
  DI w h c (Pq a (tp o)) (nx+1) (l++[(nx,desk,it,o,1)]) crew (ts++(RM o).map λx=>(nx,x,(0:Int),(1:Int))):=by
 have hnx:=T.bk.1;have xz:=T.lt;have hids:∀y∈l,y.1<nx:=λy hy=>by have:=(T.bk.2.2.2 y hy).1;omega
 have hpo:∀p∈o,1<=p.1/\p.1<=999:=λp hp=>by obtain⟨_,_,i,hi,e⟩:=T.fit.each p hp;have:=(T.st.2.2 _ (ABU hi)).1;omega
 refine {fl:=d.fl,st:=(gq T.st T.fit).2,hm:=λp hp=>?_,bk:=T.book h29,LL:=λq hq=>?_,dR:=λq hq=>?_,dk:=λq hq=>?_,cw:=d.cw,WT:=?_,tk:=λt ht=>?_ }
 ·unfold Pq at hp;obtain⟨q,hq,rfl⟩:=AAw.1 hp;exact d.hm q hq
 ·rcases ABK.1 hq with hq|hq
  ·exact d.LL q hq
  grind
 ·rcases ABK.1 hq with hq|hq
  ·exact d.dR q hq
  ·rw[ABM.1 hq];exact T.dR
 ·rcases ABK.1 hq with hq|hq
  ·exact d.dk q hq
  grind
 ·obtain⟨t1,t2,t3⟩:=Qt.1 d.WT;refine Qt.2 ⟨No,λx hx=>?_,ABr.2 ⟨t3,?_,λu hu x hx=>?_⟩⟩
  ·rcases ABK.1 hx with hx|hx
   ·exact t2 x hx
   ·obtain⟨y,hy,rfl⟩:=AAw.1 hx;obtain⟨p,hp,e⟩:=TG.1 hy;have:=hpo p hp;rw[e]at this;unfold QA;grind
  ·rw[ABm];exact(fK o).imp fun {x y} yF=>dz rfl (.inr λe=>yF e.symm)
  ·obtain⟨y,hy,rfl⟩:=AAw.1 hx;refine dz rfl (.inl ?_);obtain⟨oo,ho,_⟩:=(d.tk u hu).ord;obtain⟨hm,e⟩:=QS ho;grind
 ·rcases ABK.1 ht with ht|ht
  ·have hd:=d.tk t ht;obtain⟨oo,ho,_⟩:=hd.ord;exact hd.same (pK a (tp o)) (iB ho _)
  ·obtain⟨y,hy,rfl⟩:=AAw.1 ht;obtain⟨p,hp,e⟩:=TG.1 hy;refine⟨⟨_,fC (x:=(nx,desk,it,o,1)) hids,rfl,p,hp,e⟩,?_,λe=>(e rfl).elim⟩;obtain⟨_,_,i,hi,e2⟩:=T.fit.each p hp;refine Yc ⟨jW (tp o) a[i],?_,e2.trans e⟩;unfold Pq;grind
def VZ(crew:ADS)(id:Int)(f:Pb->Pb):ADS:=crew.map λr=>bif r.1==id then f r else r
theorem bO(crew:ADS)(id:Int)(f:Pb->Pb):(VZ crew id f).length=crew.length:=by unfold VZ;grind
theorem Pv{crew:ADS}{r:Pb}(h:Ss crew id=some r):r∈crew/\r.1=id:=⟨ABo h,by simpa using ACQ h⟩
theorem kG{crew:ADS}(h:crew.Pairwise λr s=>r.1<s.1){r s:Pb}(hr:r∈crew)(hs:s∈crew)(e:r.1=s.1):r=s:=by
 obtain⟨i,hi,rfl⟩:=ABX.1 hr;obtain⟨j,hj,rfl⟩:=ABX.1 hs;rcases ABe i j with hl|hl|hl
 ·have:=ABP.1 h i j hi hj hl;omega
 ·subst hl;rfl
 ·have:=ABP.1 h j i hj hi hl;omega
theorem Zo{crew:ADS}{f:Pb->Pb}(hf:∀r,(f r).1=r.1)(k:Int):Ss (VZ crew id f) k=(Ss crew k).map λr=>bif r.1==id then f r else r:=by
 unfold Ss VZ;rw[ACN]
 have:((λr:Pb=>r.1==k) ∘ λr:Pb=>bif r.1==id then f r else r)=λr:Pb=>r.1==k:=funext λr=>No
 rw[this]
theorem CW.DL{crew:ADS}(h:CW c crew){f:Pb->Pb}(hf:∀r,(f r).1=r.1/\(f r).2.1=r.2.1)(hg:∀r∈crew,r.1=id->((f r).2.2.1 = -1\/QU c (f r).2.2.1=true)/\0<=(f r).2.2.2.2/\(f r).2.2.2.2<=1000000):CW c (VZ crew id f):=by
 have key:∀r,(bif r.1==id then f r else r:Pb).1=r.1/\(bif r.1==id then f r else r:Pb).2.1=r.2.1:=λr=>No
 have mem:∀s∈VZ crew id f,∃r∈crew,s=(bif r.1==id then f r else r:Pb):=λs hs=>by unfold VZ at hs;obtain⟨r,hr,e⟩:=AAw.1 hs;grind
 refine⟨by rw[bO];exact h.n20,λs hs=>?_,λs hs=>?_,λs hs=>?_,λs hs=>?_,?_,?_⟩
 ·obtain⟨r,hr,rfl⟩:=mem s hs;rw[(key r).1];exact h.rC r hr
 ·obtain⟨r,hr,rfl⟩:=mem s hs;rw[(key r).2];exact h.ni r hr
 ·obtain⟨r,hr,rfl⟩:=mem s hs;by_cases e:r.1=id
  ·grind
  ·rw[show(r.1==id)=false from ABZ.2 e];exact h.goal r hr
 ·obtain⟨r,hr,rfl⟩:=mem s hs;by_cases e:r.1=id
  ·grind
  ·rw[show(r.1==id)=false from ABZ.2 e];exact h.qn r hr
 ·unfold VZ;rw[ABm];exact h.ids.imp fun {r s} hrs=>No
 ·unfold VZ;rw[ABm];exact h.gA.imp fun {r s} hrs=>No
theorem gk{x u:PV}(h:Po x u=false)(hx:x.2.2.2≠1):x.2.2.1≠u.2.2.1:=λe=>by unfold Po at h;grind
theorem cd{s:Int}(ht:t.2.2.2≠1)(hs:s≠1)(u:PV):Po (t.1,t.2.1,t.2.2.1,s) u=Po t u/\Po u (t.1,t.2.1,t.2.2.1,s)=Po u t:=by unfold Po;grind
theorem lD{s:Int}(h:QA t=true)(ht:t.2.2.2≠1)(hs:2<=s/\s<=4):QA (t.1,t.2.1,t.2.2.1,s)=true:=by unfold QA at h ⊢;grind
theorem TP.qg{x y:AAA}(h:TP (x++t::y))(ht:t.2.2.2≠1){s:Int}(hs:2<=s/\s<=4):TP (x++(t.1,t.2.1,t.2.2.1,s)::y):=by
 obtain⟨t1,t2,t3⟩:=Qt.1 h;obtain⟨p1,p2,p3⟩:=ABr.1 t3;obtain⟨p4,p5⟩:=ABq.1 p2;have hs1:s≠1:=J
 refine Qt.2 ⟨No,λu hu=>?_,ABr.2 ⟨p1,ABq.2 ⟨λu hu=>?_,p5⟩,λu hu v hv=>?_⟩⟩
 ·rcases ABK.1 hu with hu|hu
  ·grind
  ·rcases AAj.1 hu with rfl|hu
   ·exact lD (t2 t (AAV _ AAo)) ht hs
   grind
 ·rw[(cd ht hs1 u).2];exact p4 u hu
 ·rcases AAj.1 hv with rfl|hv
  ·rw[(cd ht hs1 u).1];exact p3 u hu t AAo
  grind
theorem TP.sub{x y:AAA}(h:TP y)(hs:x.Sublist y):TP x:=by obtain⟨t1,t2,t3⟩:=Qt.1 h;exact Qt.2 ⟨AA5 hs.length_le t1,λu hu=>t2 u (hs.subset hu),t3.sublist hs⟩
theorem TP.two{x y:AAA}(h:TP (x++t::y))(ht:t.2.2.2≠1){u:PV}(hu:u∈x\/u∈y)(hu1:u.2.2.2≠1):u.2.2.1≠t.2.2.1:=by
 obtain⟨_,_,t3⟩:=Qt.1 h;obtain⟨p1,p2,p3⟩:=ABr.1 t3;obtain⟨p4,p5⟩:=ABq.1 p2;rcases hu with hu|hu
 ·exactλe=>gk (p3 u hu t AAo) ht e.symm
 ·exact gk (p4 u hu) hu1
theorem Tm.other(hsp:XB a b){l:AAL}{crew:ADS}{u:PV}(h:Tm a l crew u){f:Pb->Pb}(hf:∀r,(f r).1=r.1)(yF:u.2.2.2≠1->u.2.2.1≠id):Tm b l (VZ crew id f) u:=by have h2:=h.same hsp (k:=l) rfl;refine⟨h2.ord,h2.PH,λe=>?_⟩;obtain⟨r,q1,q2⟩:=h2.gU e;refine⟨r,?_,q2⟩;rw[Zo hf,q1,ABA,show(r.1==id)=false from ABZ.2 λe2=>yF e ((Pv q1).2.symm.trans e2),ABV]
theorem DI.oR{w h:Int}{c:By}{a:Is}{nx:Int}{l:AAL}{crew:ADS}{x y:AAA}{t:PV}(d:DI w h c a nx l crew (x++t::y))(ht:t.2.2.2≠1){b:Is}(hb:PQ b)(hsp:XB a b)(hbm:∀p∈b,QU c p.2.1=true){s:Int}(hs:2<=s/\s<=4){f:Pb->Pb}(hf:∀r,(f r).1=r.1/\(f r).2.1=r.2.1)
  (yw:∀r,Ss crew t.2.2.1=some r->(f r).2.2.1=Sg b l (t.1,t.2.1,t.2.2.1,s)/\(f r).2.2.2.1=decide (2<s)/\0<=(f r).2.2.2.2/\(f r).2.2.2.2<=1000000):DI w h c b nx l (VZ crew t.2.2.1 f) (x++(t.1,t.2.1,t.2.2.1,s)::y):=by
 have hT:=d.tk t (AAV _ AAo);obtain⟨o,ho,hst,hpk⟩:=hT.ord;obtain⟨r0,hr0,_,_⟩:=hT.gU ht;obtain⟨q,hq⟩:=(hT.same hsp (k:=l) rfl).PH
 have hgoal:QU c (Sg b l (t.1,t.2.1,t.2.2.1,s))=true:=by
  unfold Sg;dsimp only;split
  ·rw[ho];exact d.dk o (QS ho).1
  ·rw[hq];exact hbm q (Sc hq).1
 refine {fl:=d.fl,st:=hb,hm:=hbm,bk:=d.bk,LL:=d.LL,dR:=d.dR,dk:=d.dk,cw:=d.cw.DL hf λr hr e=>?_,WT:=d.WT.qg ht hs,tk:=λu hu=>?_ }
 ·have hrr:r=r0:=kG d.cw.ids hr (Pv hr0).1 (e.trans (Pv hr0).2.symm);grind
 ·have hoth:∀u,u∈x\/u∈y->Tm b l (VZ crew t.2.2.1 f) u:=λu hu=>(d.tk u (by
   grind)).other hsp (λr=>(hf r).1) λe=>d.WT.two ht hu e
  rcases ABK.1 hu with hu|hu
  ·grind
  ·rcases AAj.1 hu with rfl|hu
   ·refine⟨⟨o,ho,hst,hpk⟩,⟨q,hq⟩,λ_=>⟨f r0,?_,(yw r0 hr0).1,(yw r0 hr0).2.1⟩⟩;rw[Zo λr=>(hf r).1];show(Ss crew t.2.2.1).map _=_;rw[hr0,ABA,show(r0.1==t.2.2.1)=true from AAX.2 (Pv hr0).2,ABT]
   grind
theorem DI.gone{l:AAL}{crew:ADS}{x y:AAA}(d:DI w h c a nx l crew (x++t::y))(ht:t.2.2.2≠1){f:Pb->Pb}(hf:∀r,(f r).1=r.1/\(f r).2.1=r.2.1)(yw:∀r,(f r).2.2.1 = -1/\0<=(f r).2.2.2.2/\(f r).2.2.2.2<=1000000):DI w h c a nx l (VZ crew t.2.2.1 f) (x++y):=by
 refine {fl:=d.fl,st:=d.st,hm:=d.hm,bk:=d.bk,LL:=d.LL,dR:=d.dR,dk:=d.dk,cw:=d.cw.DL hf λr hr e=>⟨.inl (yw r).1,(yw r).2⟩,WT:=d.WT.sub ((List.Sublist.refl x).append (List.sublist_cons_self t y)),tk:=λu hu=>?_ };have hu2:=ABK.1 hu
 exact(d.tk u (by
  grind)).other (λ_=>rfl) (λr=>(hf r).1) λe=>d.WT.two ht hu2 e
def QH(l:AAL)(id st:Int):AAL:=l.map λo=>bif o.1==id then(o.1,o.2.1,o.2.2.1,o.2.2.2.1,st)else o
theorem fE(l:AAL)(id st k:Int)(hk:k≠id):P6 (QH l id st) k=P6 l k:=by
 unfold P6 QH;rw[ACN]
 have:((λo:PZ=>o.1==k) ∘ λo:PZ=>bif o.1==id then(o.1,o.2.1,o.2.2.1,o.2.2.2.1,st)else o)=λo:PZ=>o.1==k:=funext λo=>No
 rw[this];cases h:l.find? λo=>o.1==k with
 |none=>rfl
 |some o=>
  grind
theorem DI.Dh{l:AAL}{crew:ADS}(d:DI w h c a nx l crew ts)(hb:PQ b)(hsp:XB a b)(hbm:∀p∈b,QU c p.2.1=true){st:Int}(hst:1<=st/\st<=3){us:AAA}(yu:us.Sublist ts)(hno:∀t∈us,t.1≠id):DI w h c b nx (QH l id st) crew us:=by
 have mem:∀q∈QH l id st,∃o∈l,q=(bif o.1==id then(o.1,o.2.1,o.2.2.1,o.2.2.2.1,st)else o:PZ):=λq hq=>by unfold QH at hq;grind
 have key:∀o:PZ,(bif o.1==id then(o.1,o.2.1,o.2.2.1,o.2.2.2.1,st)else o:PZ).1=o.1/\(bif o.1==id then(o.1,o.2.1,o.2.2.1,o.2.2.2.1,st)else o:PZ).2.1=o.2.1/\(bif o.1==id then(o.1,o.2.1,o.2.2.1,o.2.2.2.1,st)else o:PZ).2.2.1=o.2.2.1/\(bif o.1==id then(o.1,o.2.1,o.2.2.1,o.2.2.2.1,st)else o:PZ).2.2.2.1=o.2.2.2.1:=λo=>No
 obtain⟨b1,b2,b3,b4⟩:=d.bk;refine {fl:=d.fl,st:=hb,hm:=hbm,bk:=⟨b1,by unfold QH;grind,?_,λq hq=>?_⟩,LL:=λq hq=>?_,dR:=λq hq=>?_,dk:=λq hq=>?_,cw:=d.cw,WT:=d.WT.sub yu,tk:=λt ht=>(d.tk t (yu.subset ht)).same hsp (fE l id st t.1 (hno t ht)) }
 ·unfold QH;rw[ABm];exact b3.imp fun {x y} hxy=>No
 ·obtain⟨o,ho,rfl⟩:=mem q hq;obtain⟨k1,k2,k3,k4⟩:=key o;obtain⟨g1,g2,g3,g4,g5⟩:=b4 o ho;unfold kg;rw[k1,k2,k3,k4];refine⟨g1,g2,g3,g4,?_⟩;cases(o.1==id)
  all_goals grind
 ·obtain⟨o,ho,rfl⟩:=mem q hq;rw[(key o).2.2.2];exact d.LL o ho
 ·obtain⟨o,ho,rfl⟩:=mem q hq;rw[(key o).2.2.2];exact d.dR o ho
 ·obtain⟨o,ho,rfl⟩:=mem q hq;rw[(key o).2.1];exact d.dk o ho
theorem DI.tD{l:AAL}{crew:ADS}(d:DI w h c a nx l crew ts)(hb:PQ b)(hsp:XB a b)(hbm:∀p∈b,QU c p.2.1=true):DI w h c b nx l crew ts:=
 { d with st:=hb,hm:=hbm,tk:=λt ht=>(d.tk t ht).same hsp rfl }
theorem DW.step{l:AAL}{crew:ADS}(d:DW w h c a l crew ts)(hc:CW c AAJ)(hs:∀id,(Ss AAJ id).map (λr=>(r.2.2.1,r.2.2.2.1))=(Ss crew id).map (λr=>(r.2.2.1,r.2.2.2.1))):DW w h c a l AAJ ts:=
 have key:∀t∈ts,Tm a l AAJ t:=λt ht=>by
  have hT:=d.tk t ht;refine⟨hT.ord,hT.PH,λe=>?_⟩;obtain⟨r,q1,q2,q3⟩:=hT.gU e;have:=hs t.2.2.1;rw[q1]at this;cases e1:Ss AAJ t.2.2.1 with
  |none=>grind
  |some r'=>
   grind
 { d with cw:=hc,tk:=key }
theorem nL{α β:Type}{f:α->β}{l:List α}(h:(l.map f).Nodup){x y:α}(hx:x∈l)(hy:y∈l)(e:f x=f y):x=y:=by
 obtain⟨i,hi,rfl⟩:=ABX.1 hx;obtain⟨j,hj,rfl⟩:=ABX.1 hy;have hp:=ABm.1 h;rcases ABe i j with hl|hl|hl
 ·exact(ABP.1 hp i j hi hj hl e).elim
 ·subst hl;rfl
 ·exact(ABP.1 hp j i hj hi hl e.symm).elim
theorem YH{crew:ADS}(h:crew.Pairwise λr s=>r.1<s.1){k:Nat}(hk:k<crew.length):Ss crew crew[k].1=some crew[k]:=by
 cases hq:Ss crew crew[k].1 with
 |none=>
  unfold Ss at hq;have:=AB9.1 hq _ (ABU hk);simp at this
 |some r=>rw[kG h (Pv hq).1 (ABU hk) (Pv hq).2]
theorem bW(ha:PQ a){l:AAL}(h3:t.2.2.2≠3)(hi:i<a.length)(e:a[i].1=t.2.1):Sg a l t=a[i].2.1:=by obtain⟨q,hq⟩:=Yc (a:=a) (id:=t.2.1) ⟨_,ABU hi,e⟩;have:q=a[i]:=Tw ha hi (Sc hq).1 ((Sc hq).2.trans e.symm);unfold Sg;grind
theorem DW.gV{l:AAL}{crew:ADS}(d:DW w h c a l crew ts)(hd:nu w h c a crew ts prs){ts':AAA}(hs:dG a crew ts prs AAJ ts'):DW w h c a l AAJ ts':=by
 have hcl:c.length<=1048576:=by have:=(Tk d.fl).le;omega
 have hal:a.length<=1048576:=by have:=d.st.1;omega
 have hcw:CW c AAJ:=hs.crew hcl d.fl hd d.cw
 have key:∀t∈ts',Tm a l AAJ t:=λt ht=>by
  obtain⟨i,zc,rfl⟩:=ABX.1 ht;have hi:i<ts.length:=by rw[<-hs.l2];exact zc
  have hT:=d.tk _ (ABU hi);rcases hs.tk i hi zc with⟨p,hp,e1,e2⟩|⟨hno,e2⟩
  ·rw[e2];obtain⟨hk,r1,r2,r3,r4,r5⟩:=hd.gU d.cw hp;have zJ:p.2<AAJ.length:=by rw[hs.l1];exact hk
   refine⟨hT.ord,hT.PH,λ_=>?_⟩;rcases hs.rb p.2 hk zJ with⟨p',hp',e3,e4⟩|⟨hno,_⟩
   ·have hpp:p'=p:=nL hd.n2 hp' hp e3;subst hpp;obtain⟨q1,q2,q3,j,hj,q4,q5,q6⟩:=hd.WT hal hp';subst e1;rw[cY q1]at e4;refine⟨AAJ[p'.2],?_,?_,?_⟩
    ·show Ss AAJ (Zn crew p'.2).1=_;rw[cF hk];have:=YH hcw.ids zJ;rw[e4]at this ⊢;exact this
    ·rw[e4];show QY a ts[p'.1].2.1=_;rw[q6];exact(bW (t:=(ts[p'.1].1,ts[p'.1].2.1,(Zn crew p'.2).1,2)) d.st (by show(2:Int)≠3;omega) hj q5).symm
    ·rw[e4];show crew[p'.2].2.2.2.1=decide ((2:Int)<2);rw[r4];rfl
   grind
  ·rw[e2];refine⟨hT.ord,hT.PH,λe=>?_⟩;obtain⟨r,g1,g2,g3⟩:=hT.gU e;obtain⟨k,hk,hr⟩:=ABX.1 (Pv g1).1;have zJ:k<AAJ.length:=by rw[hs.l1];exact hk
   have hid:crew[k].1=ts[i].2.2.1:=by rw[hr];exact(Pv g1).2
   rcases hs.rb k hk zJ with⟨p,hp,e3,_⟩|⟨_,e4⟩
   ·obtain⟨hk2,_,_,_,_,r5⟩:=hd.gU d.cw hp;grind
   ·have:=YH hcw.ids zJ;grind
 exact { d with cw:=hcw,WT:=hs.tasks hal hd d.WT d.cw,tk:=key }
theorem DI.gV{l:AAL}{crew:ADS}(d:DI w h c a nx l crew ts)(hd:nu w h c a crew ts prs){ts':AAA}(hs:dG a crew ts prs AAJ ts'):DI w h c a nx l AAJ ts':=
 { d with cw:=(d.dw.gV hd hs).cw,WT:=(d.dw.gV hd hs).WT,tk:=(d.dw.gV hd hs).tk }
theorem DW.pe{l:AAL}{crew:ADS}(d:DW w h c a l crew ts)(hc:CW c AAJ)(hl:AAJ.length=crew.length)(hs:∀k (h1:k<crew.length) (h2:k<AAJ.length),AAJ[k].1=crew[k].1/\AAJ[k].2.2.1=crew[k].2.2.1/\AAJ[k].2.2.2.1=crew[k].2.2.2.1):DW w h c a l AAJ ts:=by
 refine d.step hc λid=>?_;cases hq:Ss crew id with
 |some r=>
  obtain⟨k,hk,hr⟩:=ABX.1 (Pv hq).1;have hk2:k<AAJ.length:=by rw[hl];exact hk
  obtain⟨e1,e2,e3⟩:=hs k hk hk2;have:=YH hc.ids hk2;rw[e1,hr,(Pv hq).2]at this;grind
 |none=>
  cases hq2:Ss AAJ id with
  |none=>rfl
  |some r=>
   obtain⟨k,hk,hr⟩:=ABX.1 (Pv hq2).1;have hk2:k<crew.length:=by rw[<-hl];exact hk
   obtain⟨e1,_,_⟩:=hs k hk2 hk;unfold Ss at hq;have:=AB9.1 hq _ (ABU hk2);rw[<-e1,hr,(Pv hq2).2]at this;simp at this
theorem DI.pe{l:AAL}{crew:ADS}(d:DI w h c a nx l crew ts)(hc:CW c AAJ)(hl:AAJ.length=crew.length)(hs:∀k (h1:k<crew.length) (h2:k<AAJ.length),AAJ[k].1=crew[k].1/\AAJ[k].2.2.1=crew[k].2.2.1/\AAJ[k].2.2.2.1=crew[k].2.2.2.1):DI w h c a nx l AAJ ts:=
 { d with cw:=hc,tk:=(d.dw.pe hc hl hs).tk }
def VC(x:O8)(l:OF)(m:OF):OF:=(l.filter λy=>decide (y.1<x.1))++(m++l.filter λy=>decide (x.1<y.1))
def Xy(x:O8)(l:OF):OF:=VC x l (bif x.2.1==0 then []else [x])
theorem ew{x:O8}:∀ {l:OF},l.Pairwise (λa b=>a.1<b.1)->l.filter (λy=>y.1 != x.1)=VC x l []
 | [],_=>rfl
 |y::r,h=>by
  obtain⟨h1,h2⟩:=ABq.1 h;have ih:=ew (x:=x) h2;unfold VC at ih ⊢;rw[AAy]at ih ⊢;rw[ABz,ABz,ABz];rcases Int.lt_trichotomy y.1 x.1 with hl|hl|hl
  ·grind
  ·grind
  ·have hr:r.filter (λz=>decide (z.1<x.1))=[]:=AB5.2 λz hz=>by have:=h1 z hz;simp;omega
   grind
theorem p7{l:OF}(h:∀y∈l,y.1<x.1)(m:OF):VC x l m=l++m:=by unfold VC;rw[ACO.2 λy hy=>No,AB5.2 λy hy=>No,AA4]
theorem oc{l:OF}(h:∀y∈l,x.1<=y.1)(hp:l.Pairwise λa b=>a.1<b.1)(m:OF):VC x l m=m++l.filter λy=>y.1 != x.1:=by rw[ew hp];unfold VC;rw[AB5.2 λy hy=>by have:=h y hy;simp;omega];rfl
theorem oa{y:O8}{r:OF}(h:y.1<x.1)(m:OF):VC x (y::r) m=y::VC x r m:=by unfold VC;grind
theorem iz{l m:OF}{z:O8}(h:z∈VC x l m):(z∈l/\z.1≠x.1)\/z∈m:=by unfold VC at h;grind
theorem od{l:OF}(h:l.Pairwise λa b=>a.1<b.1){m:OF}(hm:m=[]\/m=[x]):(VC x l m).Pairwise λa b=>a.1<b.1:=by
 unfold VC
 have hmx:∀z∈m,z.1=x.1:=λz hz=>by
  rcases hm with rfl|rfl
  ·cases hz
  ·rw[ABM.1 hz]
 refine ABr.2 ⟨h.filter _,ABr.2 ⟨by rcases hm with rfl|rfl<;>simp,h.filter _,λa ha b hb=>?_⟩,λa ha b hb=>?_⟩
 all_goals grind
theorem mH{l:OF}(h:l.Pairwise λa b=>a.1<b.1)(m:OF):(VC x l m).length=(l.filter λy=>y.1 != x.1).length+m.length:=by rw[ew h];unfold VC;grind
theorem kY{l:OF}(h:Tl l)(hx:(x.2.1==0)=false->1<=x.1/\x.1<=50/\1<=x.2.1/\x.2.1<=1000/\0<=x.2.2/\x.2.2<=x.2.1)(hl:(x.2.1==0)=true\/(∃z∈l,z.1=x.1)\/l.length<8):Tl (Xy x l):=by
 obtain⟨h1,h2,h3⟩:=h;have hf:(l.filter λy=>y.1 != x.1).length<=l.length:=ABw _ _;unfold Xy;cases hz:(x.2.1==0)with
 |true=>
  rw[ABT];refine⟨od h1 (.inl rfl),λz hm=>?_,by rw[mH h1];simp only[ACZ];omega⟩;rcases iz hm with hm|hm
  all_goals grind
 |false=>
  rw[ABV];refine⟨od h1 (.inr rfl),λz hm=>?_,?_⟩
  ·rcases iz hm with hm|hm
   all_goals grind
  ·rw[mH h1,ABb];rcases hl with hl|⟨z,hzm,e⟩|hl
   ·grind
   ·have:(l.filter λy=>y.1 != x.1).length<l.length:=by rw[List.length_filter_lt_length_iff_exists];exact⟨z,hzm,by simp[e]⟩
    omega
   ·omega
theorem lQ(l:OF)(h:Tl l)(x0 x1 x2:Int)(n:Nat)(hn:PO<=n):WO n l x0 x1 x2=some (Xy (x0,x1,x2) l):=by
 have h8:=h.2.2
 have hc:=Ph (σ:=OF×Bool) (RF l x0 x1 x2) (λi s=>(s.1,s.2,(i:Int))) l
  (λr s=>(s.1++(bif s.2 then r.filter (λy=>y.1 != x0)else bif r.any (λy=>decide (y.1>=x0))then VC (x0,x1,x2) r [(x0,x1,x2)]else r),s.2||r.any (λy=>decide (y.1>=x0)),(l.length:Int)))
  (λi s=>s.1.length<=i+1/\(s.2=false->s.1.length<=i))
  (λs hs=>by
   unfold RF;grind)
  (λi y r s h1 h2 h3 h4 h5=>by
   left;have hy:l[i]=y:=by rw[AAM h1]at h2;exact Option.some.inj h2
   obtain⟨out,put⟩:=s;dsimp only at h5 ⊢;have hpw:(y::r).Pairwise (λa b=>a.1<b.1):=h3▸h.1.drop;obtain⟨hyr,hpr⟩:=ABq.1 hpw;unfold RF;dsimp only;rw[show decide ((i:Int)<(l.length:Int))=true by grind,ABT,PA h1,hy,O9 h1 (show l.length<=9223372036854775807 by omega)];simp only[ABS];have r1:∀(o:OF)(z:O8),o.length<=i+2->decide (o.length+[z].length<=E8)=true:=λo z ho=>SV J;cases put with
   |true=>
    simp only[ABa,ABV,ABT,ABS,Bool.true_or];by_cases he:y.1=x0
    ·rw[show(y.1 != x0)=false by simp[he]];simp only[ABV,ABS];exact⟨(out,true),rfl,⟨No,λe=>by cases e⟩,No⟩
    ·have hb:(y.1 != x0)=true:=ADv
     rw[hb,ABT,r1 out _ J,ABT,ABS];exact⟨(out++[y],true),rfl,⟨No,λe=>by cases e⟩,No⟩
   |false=>
    have h5i:=h5.2 rfl;simp only[ABn,ABT,ABV,ABS,Bool.false_or];by_cases yx:y.1>=x0
    ·have hany:(y::r).any (λy=>decide (y.1>=x0))=true:=No
     have hhi:=oc (x:=(x0,x1,x2)) (l:=y::r) (λz hz=>by
      grind) hpw [(x0,x1,x2)]
     rw[ABY yx,ABT,r1 out _ J,ABT,ABS,hany,hhi];dsimp only;by_cases he:y.1=x0
     ·rw[show(y.1 != x0)=false by simp[he]];simp only[ABV,ABS];exact⟨(out++[(x0,x1,x2)],true),rfl,⟨No,λe=>by cases e⟩,No⟩
     ·have hb:(y.1 != x0)=true:=ADv
      rw[hb,ABT,r1 (out++[_]) _ No,ABT,ABS];exact⟨(out++[(x0,x1,x2)]++[y],true),rfl,⟨No,λe=>by cases e⟩,No⟩
    ·have hany:(y::r).any (λy=>decide (y.1>=x0))=r.any (λy=>decide (y.1>=x0)):=by rw[List.any_cons,ABc yx,Bool.false_or]
     have xz:y.1<x0:=ADV
     have hb:(y.1 != x0)=true:=by rw[ACE];clear hn;omega
     rw[ABc yx,ABV,ABS,hany,oa (x:=(x0,x1,x2)) xz];dsimp only;rw[hb,ABT,r1 out _ ADV,ABT,ABS];refine⟨(out++[y],false),rfl,⟨by show(out++[y]).length<=i+1+1;rw[ABE,ABb];clear hn;omega,λ_=>by show(out++[y]).length<=i+1;rw[ABE,ABb];clear hn;omega⟩,?_⟩;grind)
  n ADW (([]:OF),x1==0) ⟨so,λ_=>so⟩
 unfold WO Xy;rw[show((0:Nat):Int)=0 from rfl]at hc;dsimp only at hc ⊢;rw[hc,ABS];dsimp only;cases hx1:(x1==0)with
 |true=>
  simp only[ABT,Bool.true_or,ABa,ABV,ABS,AAy];rw[ew (x:=(x0,x1,x2)) h.1]
 |false=>
  simp only[ABV,Bool.false_or,AAy];cases ha:l.any (λy=>decide (y.1>=x0))with
  |true=>rfl
  |false=>
   simp only[ABV,ABn,ABT]
   rw[show decide (l.length+[(x0,x1,x2)].length<=E8)=true from SV J,ABT,ABS,p7 (x:=(x0,x1,x2)) λy hy=>by
    rw[<-ABt]at ha;have:¬y.1>=x0:=λq=>ha (AA8.2 ⟨y,hy,ABY q⟩);show y.1<x0;clear hn;omega]
def ZJ(a:Is)(PH:Int)(x:O8):Is:=WS a PH (Xy x)
theorem bw(h:PQ a)(hi:i<a.length)(x0 x1 x2:Int)(n:Nat)(hn:PO<=n):TM n a (i:Int) x0 x1 x2=some (ZJ a a[i].1 (x0,x1,x2)):=by
 have hst:=(h.2.2 _ (ABU hi)).2.2;unfold TM;rw[P2 a h.sm n hn,ABS,PE hi,ABT];have hg:a[(i:Int).toNat]?=some a[i]:=by simp[hi]
 rw[hg,ABS,ABS,lQ a[i].2.2 hst x0 x1 x2 n hn,ABS,ABT,ABW];unfold ZJ;rw[<-Vj h hi];congr 1;apply ABx;grind
theorem cH(a:Is)(PH:Int)(f:OF->OF):XB a (WS a PH f):=by
 intro id;unfold Xi WS;rw[ACN]
 have:((λp:PK=>p.1==id) ∘ λp:PK=>bif p.1==PH then(p.1,p.2.1,f p.2.2)else p)=λp:PK=>p.1==id:=funext λp=>No
 rw[this,Option.map_map];cases a.find? λp=>p.1==id with
 |none=>rfl
 |some p=>
  grind
theorem eL{PH:Int}{f:OF->OF}{p:PK}(h:p∈WS a PH f):∃q∈a,p.2.1=q.2.1:=by unfold WS at h;grind
def YK(a:Is)(PH k m:Int):Is×Int:=if P1 a PH k m≠0 then(a,P1 a PH k m)else if(RH a PH k).2.2<m then(a,3)else(ZJ a PH (k,(RH a PH k).2.1-m,(RH a PH k).2.2-m),0)
theorem jQ(h:PQ a)(PH k m:Int):PQ (YK a PH k m).1/\XB a (YK a PH k m).1/\∀p∈(YK a PH k m).1,∃q∈a,p.2.1=q.2.1:=by
 have same:PQ a/\XB a a/\∀p∈a,∃q∈a,p.2.1=q.2.1:=⟨h,λ_=>rfl,λp hp=>⟨p,hp,rfl⟩⟩;unfold YK;split
 ·exact same
 ·rename_i hc;split
  ·exact same
  ·rename_i xz;obtain⟨_,hk,hm,i,hi,e1,e2,e3⟩:=QQ (by omega:P1 a PH k m=0);refine⟨?_,cH a PH _,λp hp=>eL hp⟩;refine fy h PH _ λp hp ep=>?_;have:p=a[i]:=Tw h hi hp (ep.trans e2.symm);subst this;have hst:=(h.2.2 _ (ABU hi)).2.2;obtain⟨b1,b2,b3,b4,b5⟩:=RA hst k;rw[e3]at xz ⊢
   have hz:∃z∈a[i].2.2,z.1=k:=by refine AAp λq=>?_;rw[RG λx hx e=>q ⟨x,hx,e⟩]at xz;dsimp only at xz;omega
   refine kY hst (λyF=>?_) (.inr (.inl hz));grind
theorem qK(h:Pf a)(PH k m:Int):Pf (YK a PH k m).1:=by
 by_cases hc:P1 a PH k m=0
 ·exact(jQ (QQ hc).1 PH k m).1.sm
 ·unfold YK;grind
def XY(s:Is)(p:O8):Is×Int:=YK s p.1 p.2.1 p.2.2
theorem aW(h:PQ a)(ps:OF):PQ (Qz XY a ps).1/\XB a (Qz XY a ps).1/\∀p∈(Qz XY a ps).1,∃q∈a,p.2.1=q.2.1:=
 mA (P:=λs=>PQ s/\XB a s/\∀p∈s,∃q∈a,p.2.1=q.2.1) (λs p hs=>by
  obtain⟨h1,h2,h3⟩:=hs;obtain⟨g1,g2,g3⟩:=jQ h1 p.1 p.2.1 p.2.2;refine⟨g1,λid=>(g2 id).trans (h2 id),λq hq=>?_⟩;obtain⟨r,hr,e⟩:=g3 q hq;grind) ⟨h,λ_=>rfl,λp hp=>⟨p,hp,rfl⟩⟩ ps
def PN(l:AAL)(t:PV):OF:=match P6 l t.1 with
 |some o=>o.2.2.2.1.filter λp=>p.1==t.2.1
 |none=>[]
def Sx(t:PV)(s:Int):PV:=(t.1,t.2.1,t.2.2.1,s)
def fF(ou:By)(ps:OF):By:=ps.foldl (λou p=>if ou.getD p.2.1.toNat 0+p.2.2<=1000000 then ou.set p.2.1.toNat (ou.getD p.2.1.toNat 0+p.2.2)else ou) ou
def Pd(a:Is)(ou:By)(l:AAL)(crew:ADS)(t:PV):Is×By×ADS×Option PV:=
 if t.2.2.2=2 then(a,ou,VZ crew t.2.2.1 (λr=>(r.1,r.2.1,Sg a l (Sx t 3),true,0)),some (Sx t 3))
 else if t.2.2.2=3 then
  ((Qz XY a (PN l t)).1,(bif(Qz XY a (PN l t)).2 then fF ou (PN l t)else ou),VZ crew t.2.2.1 (λr=>(r.1,r.2.1,Sg (Qz XY a (PN l t)).1 l (Sx t 4),r.2.2.2.1,0)),some (Sx t 4))
 else(a,ou,VZ crew t.2.2.1 (λr=>(r.1,r.2.1, -1,false,0)),none)
def ZK:Option PV->AAA
 |some t=>[t]
 |none=>[]
theorem DI.bX{l:AAL}{crew:ADS}{x y:AAA}(d:DI w h c a nx l crew (x++t::y))(ht:t.2.2.2≠1)(ou:By):
  DI w h c (Pd a ou l crew t).1 nx l (Pd a ou l crew t).2.2.1 (x++(ZK (Pd a ou l crew t).2.2.2++y)):=by
 have hT:=d.tk t (AAV _ AAo);unfold Pd;by_cases h2:t.2.2.2=2
 ·rw[AAS h2];exact d.oR ht d.st (λ_=>rfl) d.hm (s:=3) ⟨J,J⟩ (λr=>⟨rfl,rfl⟩) λr hr=>⟨rfl,rfl,No,No⟩
 ·rw[AAT h2];by_cases h3:t.2.2.2=3
  ·rw[AAS h3];obtain⟨g1,g2,g3⟩:=aW d.st (PN l t);refine d.oR ht g1 g2 (λp hp=>?_) (s:=4) ⟨J,J⟩ (λr=>⟨rfl,rfl⟩) λr hr=>⟨rfl,?_,No,No⟩
   ·obtain⟨q,hq,e⟩:=g3 p hp;rw[e];exact d.hm q hq
   ·obtain⟨r',q1,_,q3⟩:=hT.gU ht;grind
  ·rw[AAT h3];exact d.gone ht (λr=>⟨rfl,rfl⟩) λr=>⟨rfl,No,No⟩
abbrev oC:=Is×By×ADS×AAA×By
def QI(crew:ADS)(t:PV):Bool := !(t.2.2.2==1)&&match Ss crew t.2.2.1 with
 |some r=>r.2.1==r.2.2.1
 |none=>false
def Pl(l:AAL)(t:PV)(s:oC):oC:=
 if QI s.2.2.1 t=true then
  ((Pd s.1 s.2.1 l s.2.2.1 t).1,(Pd s.1 s.2.1 l s.2.2.1 t).2.1,(Pd s.1 s.2.1 l s.2.2.1 t).2.2.1,s.2.2.2.1++ZK (Pd s.1 s.2.1 l s.2.2.1 t).2.2.2,match(Pd s.1 s.2.1 l s.2.2.1 t).2.2.2 with|some _=>s.2.2.2.2|none=>s.2.2.2.2++[t.1])
 else(s.1,s.2.1,s.2.2.1,s.2.2.2.1++[t],s.2.2.2.2)
def Px(l:AAL)(ts:AAA)(s:oC):oC:=ts.foldl (λs t=>Pl l t s) s
theorem DI.Px{w h:Int}{c:By}{nx:Int}{l:AAL}:∀(ts:AAA)(s:oC),DI w h c s.1 nx l s.2.2.1 (s.2.2.2.1++ts)->DI w h c (Px l ts s).1 nx l (Px l ts s).2.2.1 (Px l ts s).2.2.2.1
 | [],s,d=>by rw[AA4]at d;exact d
 |t::ts,s,d=>by
  have hstep:DI w h c (Pl l t s).1 nx l (Pl l t s).2.2.1 ((Pl l t s).2.2.2.1++ts):=by
   unfold Pl;by_cases hg:QI s.2.2.1 t=true
   ·rw[AAS hg]
    have ht:t.2.2.2≠1:=λe=>by unfold QI at hg;rw[show(t.2.2.2==1)=true from AAX.2 e]at hg;simp at hg
    have:=d.bX ht s.2.1;grind
   ·grind
  exact DI.Px ts (Pl l t s) hstep
def QT(l:AAL)(id:Int):Bool:=match P6 l id with
 |some o=>o.2.2.2.2==1
 |none=>false
def lB(ts:AAA)(ended:By)(l:AAL):AAL:=ended.foldl (λl id=>bif(ts.any λt=>t.1==id) || !QT l id then l else QH l id 2) l
theorem DI.fin{w h:Int}{c:By}{a:Is}{nx:Int}{crew:ADS}{ts:AAA}:∀(ended:By)(l:AAL),DI w h c a nx l crew ts->DI w h c a nx (lB ts ended l) crew ts
 | [],_,d=>d
 |id::ended,l,d=>by
  have hstep:DI w h c a nx (bif(ts.any λt=>t.1==id) || !QT l id then l else QH l id 2) crew ts:=by
   cases hb:(ts.any λt=>t.1==id) || !QT l id with
   |true=>exact d
   |false=>
    rw[ABV];have hno:=(AAn.1 hb).1;refine d.Dh d.st (λ_=>rfl) d.hm ⟨J,J⟩ (List.Sublist.refl ts) λt ht e=>?_;grind
  exact DI.fin ended _ hstep
def Pk(a:Is)(ou:By)(l:AAL)(crew:ADS)(ts:AAA):Is×By×AAL×ADS×AAA:=
 ((Px l ts (a,ou,crew,[],[])).1,(Px l ts (a,ou,crew,[],[])).2.1,lB (Px l ts (a,ou,crew,[],[])).2.2.2.1 (Px l ts (a,ou,crew,[],[])).2.2.2.2 l,(Px l ts (a,ou,crew,[],[])).2.2.1,(Px l ts (a,ou,crew,[],[])).2.2.2.1)
theorem DI.Pk{l:AAL}{crew:ADS}(d:DI w h c a nx l crew ts)(ou:By):DI w h c (Pk a ou l crew ts).1 nx (Pk a ou l crew ts).2.2.1 (Pk a ou l crew ts).2.2.2.1 (Pk a ou l crew ts).2.2.2.2:=
 DI.fin _ l (DI.Px ts (a,ou,crew,[],[]) d)
theorem Xk(crew:ADS)(hl:crew.length<=1048576)(id:Int)(n:Nat)(hn:PO<=n):(Rd n crew id=some (-1)/\∀r∈crew,r.1≠id)\/∃k,∃h:k<crew.length,crew[k].1=id/\Rd n crew id=some (k:Int):=by
 have hs:∀(m:Nat)(x:Pb),m<crew.length->crew[m]?=some x->RQ crew id (m:Int)=some (bif x.1==id then .inr (.inr (m:Int))else .inl ((m+1:Nat):Int)):=λm x h1 h2=>by
  have hx:crew[m]=x:=by rw[AAM h1]at h2;exact Option.some.inj h2
  simp only[RQ,PA h1,hx,ABS,O9 h1 (show crew.length<=9223372036854775807 by clear hn;omega)];grind
 unfold Rd;by_cases h:∃r∈crew,r.1=id
 ·right;obtain⟨r,hr,e⟩:=h;obtain⟨j,hj,rfl⟩:=ABX.1 hr;obtain⟨i,hi,hP,e2⟩:=ji (RQ crew id) crew (λx=>x.1==id) hs j hj (AAX.2 e) n ADW;grind
 ·left;refine⟨?_,λr hr e=>h ⟨r,hr,e⟩⟩;rcases gm (RQ crew id) crew (λx=>x.1==id) hs (by simp[RQ]) n ADW with e|⟨i,hi,hP,e⟩
  all_goals grind
theorem YQ(h:QA t=true):(1<=t.2.2.2/\t.2.2.2<=4)/\(t.2.2.1=0↔t.2.2.2=1):=by unfold QA at h;grind
theorem dP(w h:Int)(c:By)(ha:PQ a){l:AAL}(hb:We nx l)(hsm:Qd (nx,l)){crew:ADS}(hc:CW c crew)(ts:AAA)(st ou:By)(nw:Int)(hg:QA t=true)(n:Nat)(hn:PO<=n):
  ∃b,TC n w h c a nx l crew ts st ou nw t.1 t.2.1 t.2.2.1 t.2.2.2=some b/\(b=true↔Tm a l crew t):=by
 have hal:=ha.1;have hcl:=hc.n20;obtain⟨⟨s1,s4⟩,hrz⟩:=YQ hg;cases ho:P6 l t.1 with
 |none=>
  have hm:∀x∈l,x.1≠t.1:=λx hx e=>by unfold P6 at ho;grind
  refine⟨false,?_,(λe=>by cases e),λhT=>?_⟩
  ·unfold TC;rw[Wt nx l hsm.1 t.1 hm n hn];rfl
  ·obtain⟨o,e,_⟩:=hT.ord;grind
 |some o=>
  obtain⟨hom,hoe⟩:=QS ho;obtain⟨i,hi,rfl⟩:=ABX.1 hom;have zB:=WK nx l hsm.1 hb.2.2.1 i hi n hn;rw[hoe]at zB;have hpl:l[i].2.2.2.1.length<=1048576:=(hsm.2 _ hom).2
  have hplen:(RM l[i].2.2.2.1).length<=1048576:=by have:=YG l[i].2.2.2.1 [];unfold RM;simp only[ACZ]at this;clear hn;omega
  have hpo:=XJ l[i].2.2.2.1 hpl n hn;have hhi:Qg n (RM l[i].2.2.2.1) t.2.1=some ((RM l[i].2.2.2.1).any λx=>x==t.2.1):=by rw[Ua];exact P4 _ hplen _ n hn
  have hpx:=RE a J t.2.1 n hn;unfold TC;rw[zB,ABS,show decide ((i:Int)<0)=false by grind,ABV];simp only[PA hi,ABS,WL,hpx.1,hpo,hhi];by_cases hst:l[i].2.2.2.2=1
  case neg=>
   rw[show(l[i].2.2.2.2 != 1)=true from ACE.2 hst];refine⟨false,rfl,(λe=>by cases e),λhT=>?_⟩;obtain⟨o2,e,e2,_⟩:=hT.ord;grind
  rw[show(l[i].2.2.2.2 != 1)=false by rw[hst];rfl,ABV];rcases hpx.2 with⟨e,hno⟩|⟨j,hj,e,ej⟩
  ·rw[e];refine⟨false,rfl,(λe=>by cases e),λhT=>?_⟩;obtain⟨q,hq⟩:=hT.PH;exact(hno q (Sc hq).1 (Sc hq).2).elim
  rw[e,show decide ((j:Int)<0)=false by grind,ABV,ABS];cases hany:(RM l[i].2.2.2.1).any (λx=>x==t.2.1)with
  |false=>
   refine⟨false,rfl,(λe=>by cases e),λhT=>?_⟩;obtain⟨o2,e,_,p,hp,ep⟩:=hT.ord;rw[ho]at e;injection e with e
   rw[<-e]at hp;rw[<-ABt]at hany;exact(hany (AA8.2 ⟨_,TG.2 ⟨p,hp,rfl⟩,AAX.2 ep⟩)).elim
  |true=>
   obtain⟨y,hy,ey⟩:=AA8.1 hany;obtain⟨p,hp,ep⟩:=TG.1 hy;have hord:∃o,P6 l t.1=some o/\o.2.2.2.2=1/\∃p∈o.2.2.2.1,p.1=t.2.1:=⟨_,ho,hst,p,hp,ep.trans (AAX.1 ey)⟩;have hpod:∃q,Xi a t.2.1=some q:=Yc ⟨_,ABU hj,ej⟩;rw[ABa,ABV];by_cases hr0:t.2.2.1=0
   ·rw[show(t.2.2.1==0)=true from AAX.2 hr0,ABT];exact⟨true,rfl,λ_=>⟨hord,hpod,λe=>(e (hrz.1 hr0)).elim⟩,λ_=>rfl⟩
   ·rw[show(t.2.2.1==0)=false from ABZ.2 hr0,ABV];have hst1:t.2.2.2≠1:=λe=>hr0 (hrz.2 e)
    have hgoal:TA n w h c a nx l crew ts st ou nw t.1 t.2.1 t.2.2.1 t.2.2.2=some (Sg a l t):=by
     unfold TA;by_cases h3:t.2.2.2=3
     ·rw[show(t.2.2.2==3)=true from AAX.2 h3,ABT,zB,ABS,PA hi,ABS];unfold Sg;grind
     ·rw[show(t.2.2.2==3)=false from ABZ.2 h3,ABV,WL,hpx.1,e,ABS,PA hj,ABS,bW ha h3 hj ej]
    rcases Xk crew J t.2.2.1 n hn with⟨e1,hno⟩|⟨k,hk,ek,e1⟩
    ·rw[e1];refine⟨false,rfl,(λe=>by cases e),λhT=>?_⟩;obtain⟨r,q1,_⟩:=hT.gU hst1;exact(hno r (Pv q1).1 (Pv q1).2).elim
    ·have zS:=YH hc.ids hk;rw[ek]at zS;rw[e1,ABS,show decide ((k:Int)>=0)=true by rw[AAh];clear hn;omega,ABT];simp only[PA hk,ABS,hgoal]
     have hT:Tm a l crew t↔crew[k].2.2.1=Sg a l t/\crew[k].2.2.2.1=decide (2<t.2.2.2):=by
      constructor
      ·intro hT;obtain⟨r,q1,q2,q3⟩:=hT.gU hst1;rw[zS]at q1;injection q1 with q1
       rw[q1];exact⟨q2,q3⟩
      ·rintro ⟨q2,q3⟩
       exact⟨hord,hpod,λ_=>⟨_,zS,q2,q3⟩⟩
     grind
theorem DI.new(yh:ZF w h c a=true):DI w h c a 1 [] (Rw (P3 c) (min (P3 c).length 20)) []:=by obtain⟨hf,hk,h0,hho⟩:=ZG yh;refine {fl:=hf,st:=Pz.1 hk,hm:=λp hp=>?_,bk:=⟨⟨J,J⟩,so,List.Pairwise.nil,(λo ho=>by cases ho)⟩,LL:=(λo ho=>by cases ho),dR:=(λo ho=>by cases ho),dk:=(λo ho=>by cases ho),cw:=qu c,WT:=Qt.2 ⟨so,(λx hx=>by cases hx),List.Pairwise.nil⟩,tk:=(λt ht=>by cases ht) };obtain⟨h1,h2⟩:=hho p hp;unfold QU;grind
def Tj(l:By):Prop:=l.length=51/\(∀x∈l,0<=x/\x<=1000000)/\l[0]?=some 0
def cf(l:By)(i:Nat):Bool:=match l[i]? with
 |some x=>P7 x 0 1000000&&(!((i:Int)==0)||x==0)
 |none=>false
theorem Sl{a b c:Int}:P7 a b c=true↔b<=a/\a<=c:=by unfold P7;grind
theorem dh{l:By}:((List.range l.length).all (cf l)&&((l.length:Int)==51))=true↔Tj l:=by
 rw[AAN,AAZ,AAX]
 have zB:∀i (hi:i<l.length),cf l i=true↔(0<=l[i]/\l[i]<=1000000)/\(i=0->l[i]=0):=λi hi=>by unfold cf;rw[AAM hi];simp only[AAN,Sl,AAg,AAa,ABZ,AAX];omega
 constructor
 ·rintro ⟨h1,h2⟩
  have h51:l.length=51:=J
  have hi:=λi (hi:i<l.length)=>(zB i hi).1 (h1 i (AAb.2 hi));refine⟨h51,λx hx=>?_,?_⟩
  ·obtain⟨i,hi2,rfl⟩:=ABX.1 hx;exact(hi i hi2).1
  grind
 ·rintro ⟨h1,h2,h3⟩
  grind
theorem Xg(l:By)(hl:l.length<=1048576)(n:Nat)(hn:PO<=n):Tq n l=some ((List.range l.length).all (cf l)&&((l.length:Int)==51)):=by
 have h1:=Qf (TY l) (λk=>(k:Int)) l.length (cf l) (λi hi=>by
  unfold TY cf;dsimp only;rw[show decide ((i:Int)<(l.length:Int))=true by rw[AAh];clear hn;omega,AAM hi];simp only[ABT,PA hi,ABS,Tu,QR,O9 hi (show l.length<=9223372036854775807 by clear hn;omega),bne];cases P7 l[i] 0 1000000<;>cases((i:Int)==0)<;>cases(l[i]==0)<;>rfl) (by unfold TY;simp) n ADW
 rw[show((0:Nat):Int)=0 from rfl]at h1;unfold Tq;grind
structure rV(w h:Int)(c:By)(a:Is)(nx:Int)(l:AAL)(crew:ADS)(ts:AAA)(st ou:By)(nw:Int):Prop where
 fl:PY w h c=true
 vu:PQ a
 bk:We nx l
 cw:CW c crew
 WT:TP ts
 c1:Tj st
 c2:Tj ou
 now:0<=nw/\nw<=1000000
 tk:∀t∈ts,Tm a l crew t
theorem DI.ok{l:AAL}{crew:ADS}(d:DI w h c a nx l crew ts){st ou:By}(h1:Tj st)(h2:Tj ou){nw:Int}(h3:0<=nw/\nw<=1000000):rV w h c a nx l crew ts st ou nw:=
 ⟨d.fl,d.st,d.bk,d.cw,d.WT,h1,h2,h3,d.tk⟩
theorem TS(w h:Int)(c:By)(hc:c.length<=1048576)(a:Is)(ha:Pf a)(nx:Int)(l:AAL)(hl:Qd (nx,l))(crew:ADS)(hcr:crew.length<=1048576)(ts:AAA)(hts:ts.length<=1048576)(st ou:By)(hst:st.length<=1048576)(hou:ou.length<=1048576)(nw:Int)(n:Nat)(hn:PO<=n):
  ∃b,QZ n w h c a nx l crew ts st ou nw=some b/\(b=true↔rV w h c a nx l crew ts st ou nw):=by
 obtain⟨bb,eb,ib⟩:=WY hl n hn;unfold QZ;rw[X9,Ps w h c hc n hn,QK a ha n hn,eb,S5 w h c hc crew hcr n hn,Ys ts hts n hn,Xg st hst n hn,Xg ou hou n hn];simp only[ABS,Tu,QR];have no:∀ {P:Prop},¬P->∃b,(some false:Option Bool)=some b/\(b=true↔P):=λhp=>⟨false,rfl,(λe=>by cases e),λq=>(hp q).elim⟩;cases e1:PY w h c with
 |false=>exact no λd=>by rw[d.fl]at e1;cases e1
 |true=>
 cases e2:Pw a with
 |false=>exact no λd=>by rw[Pz.2 d.vu]at e2;cases e2
 |true=>
 cases e3:bb with
 |false=>exact no λd=>by rw[ib.2 d.bk]at e3;cases e3
 |true=>
 cases e4:S1 w h c crew with
 |false=>exact no λd=>by rw[UZ.2 ⟨d.fl,d.cw⟩]at e4;cases e4
 |true=>
 cases e5:Sy ts with
 |false=>exact no λd=>by rw[WR.2 d.WT]at e5;cases e5
 |true=>
 cases e6:((List.range st.length).all (cf st)&&((st.length:Int)==51))with
 |false=>exact no λd=>by rw[dh.2 d.c1]at e6;cases e6
 |true=>
 cases e7:((List.range ou.length).all (cf ou)&&((ou.length:Int)==51))with
 |false=>exact no λd=>by rw[dh.2 d.c2]at e7;cases e7
 |true=>
 cases e8:P7 nw 0 1000000 with
 |false=>exact no λd=>by rw[Sl.2 d.now]at e8;cases e8
 |true=>
 have hS:=Pz.1 e2;have hB:=ib.1 e3;have hC:=(UZ.1 e4).2;have hT:=WR.1 e5;have hgood:=(Qt.1 hT).2.1;simp only[ABa,ABV,ABS]
 let val:Nat->Bool:=λi=>match ts[i]? with
  |some t=>(TC n w h c a nx l crew ts st ou nw t.1 t.2.1 t.2.2.1 t.2.2.2).getD false
  |none=>false
 have zw:∀i (hi:i<ts.length),TC n w h c a nx l crew ts st ou nw ts[i].1 ts[i].2.1 ts[i].2.2.1 ts[i].2.2.2=some (val i)/\(val i=true↔Tm a l crew ts[i]):=λi hi=>by obtain⟨b,e,ib⟩:=dP w h c hS hB hl hC ts st ou nw (hgood _ (ABU hi)) n hn;grind
 have h1:=Qf (UB n w h c a nx l crew ts st ou nw) (λk=>(k:Int)) ts.length val (λi hi=>by
  unfold UB;rw[show decide ((i:Int)<(ts.length:Int))=true by rw[AAh];clear hn;omega,ABT,PA hi,ABS,(zw i hi).1,ABS,O9 hi (show ts.length<=9223372036854775807 by clear hn;omega)];grind) (by unfold UB;simp) n ADW
 rw[show((0:Nat):Int)=0 from rfl]at h1;rw[h1];refine⟨(List.range ts.length).all val,No,?_⟩;rw[AAZ];constructor
 ·intro q;refine⟨e1,hS,hB,hC,hT,dh.1 e6,dh.1 e7,Sl.1 e8,λt ht=>?_⟩;obtain⟨i,hi,rfl⟩:=ABX.1 ht;grind
 ·intro d i hi;have hi:=AAb.1 hi;exact(zw i hi).2.2 (d.tk _ (ABU hi))
def Uk(a b:Is):Prop:=PQ b/\XB a b/\∀p∈b,∃q∈a,p.2.1=q.2.1
theorem Uk.refl(h:PQ a):Uk a a:=⟨h,λ_=>rfl,λp hp=>⟨p,hp,rfl⟩⟩
theorem Uk.trans{d:Is}(h:Uk a b)(g:Uk b d):Uk a d:=⟨g.1,λid=>(g.2.1 id).trans (h.2.1 id),λp hp=>by
 obtain⟨q,hq,e⟩:=g.2.2 p hp;obtain⟨r,hr,e2⟩:=h.2.2 q hq;grind⟩
theorem oE{PH d:Int}(h:PQ (Tn a PH k d)):Uk a (Tn a PH k d):=⟨h,cH a PH _,λp hp=>eL hp⟩
theorem qG(h:PQ a)(PH k m:Int):Uk a (Xa a PH k m).1:=by
 have ho:=jG h PH k m;unfold Xa at ho ⊢;split
 ·exact Uk.refl h
 ·rename_i hc;rw[AAT hc]at ho;split
  ·exact Uk.refl h
  ·rename_i xz;rw[AAT xz]at ho;exact oE ho
theorem ph{f:Is->O8->Is×Int}(hf:∀s p,PQ s->Uk s (f s p).1)(h:PQ a)(ps:OF):Uk a (Qz f a ps).1:=
 mA (P:=λs=>Uk a s) (λs p hs=>hs.trans (hf s p hs.1)) (Uk.refl h) ps
theorem nW(h:PQ a)(ps:OF):Uk a (Qz ZM a ps).1:=ph (λs p hs=>qG hs _ _ _) h ps
def cS(a:Is)(PH:Int):Nat:=match a[(Rh a PH).toNat]? with
 |some p=>p.2.2.length
 |none=>0
def Tc(a:Is)(PH k m:Int):Is×Int:=if P1 a PH k m≠0 then(a,P1 a PH k m)
 else if(RH a PH k).2.1+m>1000\/((RH a PH k).2.1=0/\cS a PH=8)then(a,4)
 else(ZJ a PH (k,(RH a PH k).2.1+m,(RH a PH k).2.2),0)
theorem qD(h:PQ a)(PH k m:Int):Uk a (Tc a PH k m).1:=by
 unfold Tc;split
 ·exact Uk.refl h
 ·rename_i hc;split
  ·exact Uk.refl h
  ·rename_i hno;obtain⟨_,hk,hm,i,hi,e1,e2,e3⟩:=QQ (by omega:P1 a PH k m=0);refine⟨?_,cH a PH _,λp hp=>eL hp⟩;refine fy h PH _ λp hp ep=>?_;have:p=a[i]:=Tw h hi hp (ep.trans e2.symm);subst this;have hst:=(h.2.2 _ (ABU hi)).2.2;obtain⟨b1,b2,b3,b4,b5⟩:=RA hst k;unfold cS at hno;rw[e1,ABW,AAM hi,e3]at hno;rw[e3];dsimp only at hno;refine kY hst (λyF=>?_) ?_
   ·grind
   ·by_cases hz:∃z∈a[i].2.2,z.1=k
    ·grind
    ·have h0:=RG (l:=a[i].2.2) (k:=k) λx hx e=>hz ⟨x,hx,e⟩;rw[h0]at hno;dsimp only at hno;have h8:=hst.2.2;omega
theorem fD{l:AAL}{o:PZ}(h:P6 l id=some o)(hs:o.2.2.2.2=1)(hp:l.Pairwise λa b=>a.1<b.1):P6 (Q6 l) id=some o:=by
 obtain⟨hm,e⟩:=QS h
 have hmo:o∈Q6 l:=by unfold Q6;exact ABd.2 ⟨hm,AAX.2 hs⟩
 cases hq:P6 (Q6 l) id with
 |none=>
  unfold P6 at hq;grind
 |some q=>
  obtain⟨h1,h2⟩:=QS hq;unfold Q6 at h1;have hqm:=(ABd.1 h1).1
  have:q=o:=by
   obtain⟨i,hi,rfl⟩:=ABX.1 hqm;obtain⟨j,hj,rfl⟩:=ABX.1 hm;rcases ABe i j with hl|hl|hl
   ·have:=ABP.1 hp i j hi hj hl;omega
   ·subst hl;rfl
   ·have:=ABP.1 hp j i hj hi hl;omega
  rw[this]
theorem DI.iJ{l:AAL}{crew:ADS}(d:DI w h c a nx l crew ts):DI w h c a nx (Q6 l) crew ts:=by
 obtain⟨b1,b2,b3,b4⟩:=d.bk
 have hm:∀o∈Q6 l,o∈l:=λo ho=>by unfold Q6 at ho;grind
 have key:∀t∈ts,Tm a (Q6 l) crew t:=λt ht=>by have hT:=d.tk t ht;obtain⟨o,ho,hs,_⟩:=hT.ord;exact hT.same (λ_=>rfl) ((fD ho hs b3).trans ho.symm)
 exact { d with bk:=⟨b1,by unfold Q6;grind,by unfold Q6;grind,λo ho=>b4 o (hm o ho)⟩,LL:=λo ho=>d.LL o (hm o ho),dR:=λo ho=>d.dR o (hm o ho),dk:=λo ho=>d.dk o (hm o ho),tk:=key }
theorem DI.home{l:AAL}{crew:ADS}(d:DI w h c a nx l crew ts)(hb:Uk a b):∀p∈b,QU c p.2.1=true:=λp hp=>by obtain⟨q,hq,e⟩:=hb.2.2 p hp;rw[e];exact d.hm q hq
theorem DI.back{l:AAL}{crew:ADS}(d:DI w h c a nx l crew ts)(id:Int)(ps:OF):DI w h c (Qz ZM a ps).1 nx (QH l id 3) crew (ts.filter λt => !(t.1==id)):=by have hb:=nW d.st ps;refine d.Dh hb.1 hb.2.1 (d.home hb) ⟨J,J⟩ List.filter_sublist λt ht e=>?_;grind
theorem DI.bA{l:AAL}{crew:ADS}(d:DI w h c a nx l crew ts)(PH k m:Int):DI w h c (Tc a PH k m).1 nx l crew ts:=by have hb:=qD d.st PH k m;exact d.tD hb.1 hb.2.1 (d.home hb)
theorem js(n:Nat)(hn:PO<=n){b:By}{i q:Int}(hcu:Cu b i)(id home:Int):Ok (iter n (Wc) (1,b,i,q,id,home,([]:OF))) λx=>(Tl x.2.2.2.2.2.2/\∀y∈x.2.2.2.2.2.2,y.2.2=0)/\x.2.2.2.2.1=id/\x.2.2.2.2.2.1=home/\Cu x.2.1 x.2.2.1:=by
 refine Ok.iter (λk x=>x.1+(k:Int)=5/\1<=x.1/\x.2.2.2.2.2.2.length+k<=4/\(x.2.2.2.2.2.2.Pairwise (λa b=>a.1<b.1)/\∀y∈x.2.2.2.2.2.2,1<=y.1/\y.1<x.1/\1<=y.2.1/\y.2.1<=5/\y.2.2=0)/\x.2.2.2.2.1=id/\x.2.2.2.2.2.1=home/\Cu x.2.1 x.2.2.1) (λk x hx=>?_) (k:=4) ⟨so,so,so,⟨List.Pairwise.nil,(λy hy=>by cases hy)⟩,rfl,rfl,hcu⟩ ADW;obtain⟨h1,h0,h2,⟨h4,h5⟩,h6,h7,h3⟩:=hx;unfold Wc;refine Ok.cond (λhb=>?_) λhb=>Ok.pure (.inr ⟨_,rfl,⟨⟨h4,λy hy=>?_,by show x.2.2.2.2.2.2.length<=8;clear hn;omega⟩,λy hy=>(h5 y hy).2.2.2.2⟩,h6,h7,h3⟩)
 ·have hb:=AAx hb;refine Ok.bind (P:=λz=>(z.2.2.2.2.2.length<=x.2.2.2.2.2.2.length+1/\z.2.2.2.2.2.Pairwise (λa b=>a.1<b.1)/\∀y∈z.2.2.2.2.2,1<=y.1/\y.1<x.1+1/\1<=y.2.1/\y.2.1<=5/\y.2.2=0)/\z.2.2.2.1=id/\z.2.2.2.2.1=home/\Cu z.1 z.2.1) ((ok_int h3 so).bind λv hv=>Ok.cond (λhg=>Ok.guard (SV ADV) (Ok.pure ⟨⟨by show(x.2.2.2.2.2.2++[_]).length<=_;simp,?_,λy hy=>?_⟩,h6,h7,hv.1⟩)) λ_=>Ok.pure ⟨⟨by show x.2.2.2.2.2.2.length<=_;omega,h4,λy hy=>?_⟩,h6,h7,hv.1⟩) λz hz=>Ok.pure (.inl ⟨_,rfl,k-1,⟨?_,?_,?_,⟨hz.1.2.1,λy hy=>?_⟩,hz.2.1,hz.2.2.1,hz.2.2.2⟩,ADV⟩)
  ·refine ABr.2 ⟨h4,List.pairwise_singleton _ _,λy hy z hz=>?_⟩;rw[ABM.1 hz];exact(h5 y hy).2.1
  ·rcases ABK.1 hy with hy|hy
   ·obtain⟨g1,g2,g3,g4,g5⟩:=h5 y hy;exact⟨g1,ADV,g3,g4,g5⟩
   ·rw[ABM.1 hy];have hg:=AAx hg;have hm:=hv.2;simp only[AAj,List.not_mem_nil,or_false]at hm;refine⟨h0,by show x.1<x.1+1;clear hn;omega,by show 1<=v.1;clear hn;omega,by show v.1<=5;clear hn;omega,rfl⟩
  ·obtain⟨g1,g2,g3,g4,g5⟩:=h5 y hy;exact⟨g1,ADV,g3,g4,g5⟩
  ·show PB (x.1+1)+_=_;rw[PJ ADV ADV];clear hn;omega
  ·show 1<=PB (x.1+1);rw[PJ ADV ADV];clear hn;omega
  ·have:=hz.1.1;show z.2.2.2.2.2.length+(k-1)<=4;clear hn;omega
  ·obtain⟨g1,g2,g3,g4,g5⟩:=hz.1.2.2 y hy;refine⟨g1,?_,g3,g4,g5⟩;show y.1<PB (x.1+1);rw[PJ ADV ADV];exact g2
 grind
theorem jr(n:Nat)(hn:PO<=n){b:By}{i q:Int}(hcu:Cu b i)(w h:Int)(c:By)(hf:PY w h c=true):Ok (Wz n b i q w h c) λx=>ZF w h c x.1=true/\Cu x.2.1 x.2.2.1:=by
 have h100:=(Tk hf).le;have hc:c.length<=1048576:=ADV
 unfold Wz;rw[Vk w h c hc hf 2 n hn,ABS]
 refine Ok.bind (P:=λz=>(z.2.2.2.2.length<=8/\z.2.2.2.2.length<=(QX c 2 c.length).length/\∀(j:Nat)(hj:j<z.2.2.2.2.length),z.2.2.2.2[j].1=(j:Int)+1/\z.2.2.2.2[j].2.1=(QX c 2 c.length).getD j 0/\Tl z.2.2.2.2[j].2.2/\∀y∈z.2.2.2.2[j].2.2,y.2.2=0)/\Cu z.2.1 z.2.2.1)
  (Ok.iter (λk x=>x.1+(k:Int)=8/\0<=x.1/\(x.2.2.2.2.length:Int)=x.1/\(x.2.2.2.2.length<=(QX c 2 c.length).length/\∀(j:Nat)(hj:j<x.2.2.2.2.length),x.2.2.2.2[j].1=(j:Int)+1/\x.2.2.2.2[j].2.1=(QX c 2 c.length).getD j 0/\Tl x.2.2.2.2[j].2.2/\∀y∈x.2.2.2.2[j].2.2,y.2.2=0)/\Cu x.2.1 x.2.2.1) (λk x hx=>?_) (k:=8) ⟨so,so,so,⟨so,λj hj=>ADr⟩,hcu⟩ ADW) λz hz=>Ok.pure ⟨?_,hz.2⟩
 ·obtain⟨h1,h0,h2,⟨h4,h5⟩,h3⟩:=hx;unfold Yw;refine Ok.bind (P:=λv=>v=true->x.1<((QX c 2 c.length).length:Int)/\x.1<8) (Ok.cond (λhb=>Ok.pure λe=>⟨AAx hb,AAx e⟩) λ_=>Ok.pure λe=>by cases e) λv hv=>Ok.cond (λhb=>?_) λhb=>Ok.pure (.inr ⟨_,rfl,⟨No,h4,h5⟩,h3⟩);obtain⟨a1,a2⟩:=hv hb;refine Ok.guard (iv ⟨h0,a1⟩) ((Ok.get J).bind λhm yL=>(js n hn h3 _ _).bind λu hu=>Ok.guard (SV J) (Ok.pure (.inl ⟨_,rfl,k-1,⟨?_,?_,?_,⟨?_,λj hj=>?_⟩,hu.2.2.2⟩,J⟩)))
  ·show PB (x.1+1)+_=_;rw[PJ ADV ADV];omega
  ·show 0<=PB (x.1+1);rw[PJ ADV ADV];omega
  ·show(((x.2.2.2.2++[_]).length:Nat):Int)=PB (x.1+1);rw[PJ ADV ADV,ABE,ABb];omega
  ·grind
  ·have hj2:j<x.2.2.2.2.length+1:=by have:=hj;change j<(x.2.2.2.2++[_]).length at this;rw[ABE,ABb]at this;exact this
   show(x.2.2.2.2++[(u.2.2.2.2.1,u.2.2.2.2.2.1,u.2.2.2.2.2.2)])[j].1=_/\(x.2.2.2.2++[(u.2.2.2.2.1,u.2.2.2.2.2.1,u.2.2.2.2.2.2)])[j].2.1=_/\Tl (x.2.2.2.2++[(u.2.2.2.2.1,u.2.2.2.2.2.1,u.2.2.2.2.2.2)])[j].2.2/\∀y∈(x.2.2.2.2++[(u.2.2.2.2.1,u.2.2.2.2.2.1,u.2.2.2.2.2.2)])[j].2.2,y.2.2=0;rw[List.getElem_append];by_cases e:j<x.2.2.2.2.length
   ·grind
   ·rw[dif_neg e];have ej:j=x.2.2.2.2.length:=ADV
    simp only[List.getElem_singleton];refine⟨?_,?_,hu.1.1,hu.1.2⟩
    ·rw[hu.2.1,PJ ADV ADV];clear hn;omega
    grind
 ·obtain⟨⟨z1,z2,z3⟩,_⟩:=hz;have hpw:=bS c 2 c.length
  have yV:∀(j:Nat)(hj:j<z.2.2.2.2.length),∃m:Nat,z.2.2.2.2[j].2.1=(m:Int)/\m<c.length/\c.getD m 0=2:=λj hj=>by
   have hj2:j<(QX c 2 c.length).length:=ADV
   rw[(z3 j hj).2.1,show(QX c 2 c.length).getD j 0=(QX c 2 c.length)[j] by simp[hj2]];exact XD (ABU hj2)
  have hS:PQ z.2.2.2.2:=by
   refine⟨J,ABP.2 λa b ha hb hab=>?_,λp hp=>?_⟩
   ·have q1:=z3 a ha;have q2:=z3 b hb;have hal:a<(QX c 2 c.length).length:=ADV
    have hbl:b<(QX c 2 c.length).length:=ADV
    have xz:=ABP.1 hpw a b hal hbl hab;grind
   ·obtain⟨j,hj,rfl⟩:=ABX.1 hp;grind
  show ZF w h c z.2.2.2.2=true;unfold ZF;rw[hf,Pz.2 hS];simp only[ABy,AAN,AAZ,AAb];refine⟨λj hj=>?_,λj hj=>?_⟩
  ·unfold YR;grind
  ·obtain⟨m,e,hm,h2⟩:=yV j hj;unfold aH;rw[AAM hj];dsimp only;rw[e,show(m:Int).toNat=m by clear hn;omega,h2];unfold P7;grind
def Qi(l:AAL)(P:Int->Bool):AAL:=l.map λo=>bif P o.1 then(o.1,o.2.1,o.2.2.1,o.2.2.2.1,2)else o
theorem fu(l:AAL)(P:Int->Bool)(h:∀id,P id=false):Qi l P=l:=by
 unfold Qi;rw[ABh (g:=id) λo _=>by rw[h];rfl,List.map_id]
theorem ZZ(l:AAL){P Q:Int->Bool}(h:∀id,P id=Q id):Qi l P=Qi l Q:=by rw[show P=Q from funext h]
theorem jU(l:AAL)(P:Int->Bool)(id:Int):QH (Qi l P) id 2=Qi l λk=>P k||k==id:=by unfold QH Qi;rw[ACT];refine ABh λo _=>?_;grind
theorem jB(l:AAL)(P:Int->Bool)(id:Int):P6 (Qi l P) id=(P6 l id).map λo=>bif P id then(o.1,o.2.1,o.2.2.1,o.2.2.2.1,2)else o:=by
 unfold P6 Qi;rw[ACN]
 have:((λo:PZ=>o.1==id) ∘ λo:PZ=>bif P o.1 then(o.1,o.2.1,o.2.2.1,o.2.2.2.1,2)else o)=λo:PZ=>o.1==id:=funext λo=>No
 rw[this];cases h:l.find? λo=>o.1==id with
 |none=>rfl
 |some o=>
  grind
theorem jn{l:AAL}{P:Int->Bool}(h:QT l id=true):QT (Qi l P) id = !P id:=by unfold QT at h ⊢;rw[jB];grind
theorem qy(a:Is)(l:AAL)(P:Int->Bool)(t:PV):Sg a (Qi l P) t=Sg a l t:=by unfold Sg;rw[jB];grind
theorem fH(l:AAL)(P:Int->Bool)(t:PV):PN (Qi l P) t=PN l t:=by unfold PN;rw[jB];grind
theorem oT(a:Is)(ou:By)(l:AAL)(P:Int->Bool)(crew:ADS)(t:PV):Pd a ou (Qi l P) crew t=Pd a ou l crew t:=by unfold Pd;simp only[qy,fH]
theorem dm(left:AAA)(l:AAL):∀(ended:By)(P:Int->Bool),(∀id∈ended,QT l id=true)->lB left ended (Qi l P)=Qi l λk=>P k||((ended.any λe=>e==k) && !(left.any λt=>t.1==k))
 | [],P,_=>by
  show Qi l P=_;exact ZZ l λk=>so
 |id::ended,P,h=>by
  have ho:=jn (P:=P) (h id AAo);have h2:=λe he=>h e (AAQ id he);have hun:lB left (id::ended) (Qi l P)=lB left ended (bif(left.any λt=>t.1==id) || !QT (Qi l P) id then Qi l P else QH (Qi l P) id 2):=rfl;rw[hun,ho,Bool.not_not];cases hb:((left.any λt=>t.1==id)||P id)with
  |true=>
   rw[ABT,dm left l ended P h2];grind
  |false=>
   obtain⟨zg,hb2⟩:=AAn.1 hb;rw[ABV,jU,dm left l ended _ h2];refine ZZ l λk=>?_;rw[List.any_cons];by_cases e:id=k
   ·subst e;grind
   ·rw[show(id==k)=false from ABZ.2 e,show(k==id)=false from ABZ.2 λq=>e q.symm,Bool.false_or,Bool.or_false]
abbrev tK:=Is×By×ADS×AAA×AAL
def fm(th:PV->Bool):AAA->tK->tK
 | [],s=>s
 |t::ts,s=>
  if th t=true then
   fm th ts ((Pd s.1 s.2.1 s.2.2.2.2 s.2.2.1 t).1,(Pd s.1 s.2.1 s.2.2.2.2 s.2.2.1 t).2.1,(Pd s.1 s.2.1 s.2.2.2.2 s.2.2.1 t).2.2.1,s.2.2.2.1++ZK (Pd s.1 s.2.1 s.2.2.2.2 s.2.2.1 t).2.2.2,match(Pd s.1 s.2.1 s.2.2.2.2 s.2.2.1 t).2.2.2 with|some _=>s.2.2.2.2|none=>bif((s.2.2.2.1++ts).any λu=>u.1==t.1) || !QT s.2.2.2.2 t.1 then s.2.2.2.2 else QH s.2.2.2.2 t.1 2)
  else fm th ts (s.1,s.2.1,s.2.2.1,s.2.2.2.1++[t],s.2.2.2.2)
theorem eH{ou:By}{l:AAL}{crew:ADS}{t':PV}(h:(Pd a ou l crew t).2.2.2=some t'):t'.1=t.1:=by
 unfold Pd at h;split at h
 ·injection h with h;rw[<-h];rfl
 ·split at h
  ·injection h with h;rw[<-h];rfl
  ·cases h
theorem gn(a:Is)(ou:By)(l:AAL)(crew:ADS)(t:PV):∃f:Pb->Pb,(∀r,(f r).1=r.1)/\(Pd a ou l crew t).2.2.1=VZ crew t.2.2.1 f:=by
 unfold Pd;split
 ·grind
 ·split
  all_goals grind
theorem kq{crew:ADS}{f:Pb->Pb}(hf:∀r,(f r).1=r.1){u:PV}(hu:u.2.2.2≠1->u.2.2.1≠id):QI (VZ crew id f) u=QI crew u:=by
 unfold QI;by_cases e:u.2.2.2=1
 ·grind
 ·rw[Zo hf];cases hq:Ss crew u.2.2.1 with
  |none=>rfl
  |some r=>
   rw[ABA,show(r.1==id)=false from ABZ.2 λe2=>hu e ((Pv hq).2.symm.trans e2),ABV]
theorem bM{w h:Int}{c:By}{nx:Int}{l:AAL}(th:PV->Bool):∀(ts:AAA)(a:Is)(ou:By)(crew:ADS)(left:AAA)(ended:By),DI w h c a nx l crew (left++ts)->(∀u∈ts,th u=QI crew u)->
  fm th ts (a,ou,crew,left,Qi l λk=>(ended.any λe=>e==k) && !((left++ts).any λt=>t.1==k))=
   ((Px l ts (a,ou,crew,left,ended)).1,(Px l ts (a,ou,crew,left,ended)).2.1,(Px l ts (a,ou,crew,left,ended)).2.2.1,(Px l ts (a,ou,crew,left,ended)).2.2.2.1,Qi l λk=>((Px l ts (a,ou,crew,left,ended)).2.2.2.2.any λe=>e==k) && !((Px l ts (a,ou,crew,left,ended)).2.2.2.1.any λt=>t.1==k))
 | [],a,ou,crew,left,ended,_,_=>by rw[AA4];rfl
 |t::ts,a,ou,crew,left,ended,d,hth=>by
  have hT:=d.tk t (AAV _ AAo);have ht:=hth t AAo;have hgo:Px l (t::ts) (a,ou,crew,left,ended)=Px l ts (Pl l t (a,ou,crew,left,ended)):=rfl;rw[hgo];unfold fm;rw[ht];by_cases hg:QI crew t=true
  case neg=>
   rw[AAT hg];have yr:Pl l t (a,ou,crew,left,ended)=(a,ou,crew,left++[t],ended):=by unfold Pl;grind
   rw[yr];have e1:(left++t::ts)=(left++[t])++ts:=by rw[ABk];rfl
   rw[e1]at d ⊢;exact bM th ts a ou crew (left++[t]) ended d λu hu=>hth u (AAQ _ hu)
  case pos=>
   have ht1:t.2.2.2≠1:=λe=>by unfold QI at hg;grind
   rw[AAS hg];dsimp only;simp only[oT];have hd:=d.bX ht1 ou;obtain⟨f,hf,hfe⟩:=gn a ou l crew t
   have hth2:∀u∈ts,th u=QI (Pd a ou l crew t).2.2.1 u:=λu hu=>by rw[hfe,kq hf λe=>d.WT.two ht1 (.inr hu) e];grind
   have yr:Pl l t (a,ou,crew,left,ended)=((Pd a ou l crew t).1,(Pd a ou l crew t).2.1,(Pd a ou l crew t).2.2.1,left++ZK (Pd a ou l crew t).2.2.2,match(Pd a ou l crew t).2.2.2 with|some _=>ended|none=>ended++[t.1]):=by unfold Pl;rw[AAS hg]<;>rfl
   rw[yr];cases hq:(Pd a ou l crew t).2.2.2 with
   |some t'=>
    have e1:=eH hq;rw[hq]at hd;have hd2:DI w h c (Pd a ou l crew t).1 nx l (Pd a ou l crew t).2.2.1 ((left++[t'])++ts):=by rw[ABk];exact hd
    dsimp only[ZK]
    have hP:(Qi l λk=>(ended.any λe=>e==k) && !((left++t::ts).any λt=>t.1==k))=Qi l λk=>(ended.any λe=>e==k) && !(((left++[t'])++ts).any λt=>t.1==k):=ZZ l λk=>No
    rw[hP];exact bM th ts _ _ _ (left++[t']) ended hd2 hth2
   |none=>
    rw[hq]at hd;have hd2:DI w h c (Pd a ou l crew t).1 nx l (Pd a ou l crew t).2.2.1 (left++ts):=hd;dsimp only[ZK];rw[AA4]
    have hopen:QT l t.1=true:=by obtain⟨o,ho,hs,_⟩:=hT.ord;unfold QT;rw[ho];exact AAX.2 hs
    have hP0:((ended.any λe=>e==t.1) && !((left++t::ts).any λu=>u.1==t.1))=false:=No
    have hfin:(bif((left++ts).any λu=>u.1==t.1) || !QT (Qi l λk=>(ended.any λe=>e==k) && !((left++t::ts).any λt=>t.1==k)) t.1 then(Qi l λk=>(ended.any λe=>e==k) && !((left++t::ts).any λt=>t.1==k))else QH (Qi l λk=>(ended.any λe=>e==k) && !((left++t::ts).any λt=>t.1==k)) t.1 2)=Qi l λk=>((ended++[t.1]).any λe=>e==k) && !((left++ts).any λt=>t.1==k):=by
     rw[jn hopen,hP0,ABn,ABa,Bool.or_false]
     have hk:∀k,k≠t.1->((ended.any λe=>e==k) && !((left++t::ts).any λt=>t.1==k))=(((ended++[t.1]).any λe=>e==k) && !((left++ts).any λt=>t.1==k)):=λk yF=>No
     cases hany:(left++ts).any λu=>u.1==t.1 with
     |true=>
      grind
     |false=>
      rw[ABV,jU];grind
    rw[hfin];exact bM th ts _ _ _ left (ended++[t.1]) hd2 hth2
theorem Yn(l:AAL):∀(ts:AAA)(s:oC),∀id∈(Px l ts s).2.2.2.2,id∈s.2.2.2.2\/∃t∈ts,t.1=id
 | [],s,id,h=>.inl h
 |t::ts,s,id,h=>by
  rcases Yn l ts (Pl l t s) id h with h|⟨u,hu,e⟩
  ·unfold Pl at h;split at h
   ·dsimp only at h;cases hq:(Pd s.1 s.2.1 l s.2.2.1 t).2.2.2 with
    |some t'=>rw[hq]at h;exact .inl h
    |none=>
     rw[hq]at h;rcases ABK.1 h with h|h
     ·exact .inl h
     ·exact .inr ⟨t,AAo,(ABM.1 h).symm⟩
   ·exact .inl h
  grind
theorem ns{l:AAL}{crew:ADS}(d:DI w h c a nx l crew ts)(ou:By)(th:PV->Bool)(hth:∀u∈ts,th u=QI crew u):
  fm th ts (a,ou,crew,[],l)=((Pk a ou l crew ts).1,(Pk a ou l crew ts).2.1,(Pk a ou l crew ts).2.2.2.1,(Pk a ou l crew ts).2.2.2.2,(Pk a ou l crew ts).2.2.1):=by
 have h1:=bM th ts a ou crew [] [] d hth;have h0:(Qi l λk=>(([]:By).any λe=>e==k) && !(([]++ts).any λt:PV=>t.1==k))=l:=fu l _ λk=>rfl;rw[h0]at h1;rw[h1];unfold Pk;dsimp only
 have h2:=dm (Px l ts (a,ou,crew,[],[])).2.2.2.1 l (Px l ts (a,ou,crew,[],[])).2.2.2.2 (λ_=>false) λid hid=>by
  rcases Yn l ts (a,ou,crew,[],[]) id hid with hh|⟨t,ht,e⟩
  ·cases hh
  ·obtain⟨o,ho,hs,_⟩:=(d.tk t ht).ord;unfold QT;rw[<-e,ho];exact AAX.2 hs
 grind
theorem Tj.set{l:By}(h:Tj l)(hi:0<i){x:Int}(hx:0<=x/\x<=1000000):Tj (l.set i x):=by
 obtain⟨h1,h2,h3⟩:=h;refine⟨by rw[List.length_set];exact h1,λy hy=>?_,?_⟩
 all_goals grind
theorem kB:∀(ps:OF)(ou:By),(∀p∈ps,1<=p.2.1/\1<=p.2.2)->Tj ou->Tj (fF ou ps)
 | [],ou,_,h=>h
 |p::ps,ou,hp,h=>by
  obtain⟨q1,q2⟩:=hp p AAo
  have hstep:Tj (if ou.getD p.2.1.toNat 0+p.2.2<=1000000 then ou.set p.2.1.toNat (ou.getD p.2.1.toNat 0+p.2.2)else ou):=by
   split
   ·rename_i hle
    have h0:0<=ou.getD p.2.1.toNat 0:=by
     rw[List.getD];cases hq:ou[p.2.1.toNat]? with
     |none=>simp
     |some y=>exact(h.2.1 y (AAR hq)).1
    exact h.set J ⟨J,hle⟩
   ·exact h
  exact kB ps _ (λq hq=>hp q (AAQ _ hq)) hstep
theorem Z1{l:AAL}{crew:ADS}(d:DI w h c a nx l crew ts)(t:PV):∀p∈PN l t,1<=p.2.1/\1<=p.2.2:=λp hp=>by
 unfold PN at hp;cases ho:P6 l t.1 with
 |none=>grind
 |some o=>
  rw[ho]at hp;have hpm:=(ABd.1 hp).1;obtain⟨_,_,⟨hI,_⟩,hpg,_⟩:=d.bk.2.2.2 o (QS ho).1;obtain⟨q1,y,hy,e⟩:=hpg.1 p hpm;have:=hI.2.1 y hy;omega
theorem DI.eG{l:AAL}{crew:ADS}(d:DI w h c a nx l crew ts)(t:PV){ou:By}(ho:Tj ou):Tj (Pd a ou l crew t).2.1:=by
 unfold Pd;split
 ·exact ho
 ·split
  ·dsimp only;cases(Qz XY a (PN l t)).2
   ·exact ho
   ·exact kB _ ou (Z1 d t) ho
  ·exact ho
theorem DI.fj{w h:Int}{c:By}{nx:Int}{l:AAL}:∀(ts:AAA)(s:oC),DI w h c s.1 nx l s.2.2.1 (s.2.2.2.1++ts)->Tj s.2.1->Tj (N.Px l ts s).2.1
 | [],s,_,ho=>ho
 |t::ts,s,d,ho=>by
  have h1:DI w h c (Pl l t s).1 nx l (Pl l t s).2.2.1 ((Pl l t s).2.2.2.1++ts)/\Tj (Pl l t s).2.1:=by
   unfold Pl;by_cases hg:QI s.2.2.1 t=true
   ·rw[AAS hg]
    have ht:t.2.2.2≠1:=λe=>by unfold QI at hg;rw[show(t.2.2.2==1)=true from AAX.2 e]at hg;simp at hg
    refine⟨?_,d.eG t ho⟩;have:=d.bX ht s.2.1;grind
   ·grind
  exact DI.fj ts (Pl l t s) h1.1 h1.2
theorem oP(x:O8)(m:OF)(j:Int)(hj:j≠x.1)(hm:∀z∈m,z.1=x.1)(l:OF)(hp:l.Pairwise λa b=>a.1<b.1):(VC x l m).find? (λy=>y.1==j)=l.find? (λy=>y.1==j):=by
 have hmn:m.find? (λy=>y.1==j)=none:=AB9.2 λz hz=>by rw[hm z hz];simp;omega
 have h1:(VC x l m).find? (λy=>y.1==j)=(VC x l []).find? (λy=>y.1==j):=by unfold VC;simp only[List.find?_append,hmn,Option.none_or,List.find?_nil]
 rw[h1,<-ew hp,List.find?_filter];grind
theorem bI{l:OF}(h:Tl l)(x:O8)(hx:x.2.1=0->x.2.2=0)(j:Int):(PL (Xy x l) j).2.1=(if j=x.1 then x.2.1 else(PL l j).2.1)/\(PL (Xy x l) j).2.2=(if j=x.1 then x.2.2 else(PL l j).2.2):=by
 by_cases e:j=x.1
 ·rw[AAS e,AAS e];unfold Xy;by_cases h0:x.2.1=0
  ·rw[show(x.2.1==0)=true from AAX.2 h0,ABT]
   have hno:∀y∈VC x l [],y.1≠j:=λy hy=>by
    rcases iz hy with hy|hy
    ·rw[e];exact hy.2
    ·cases hy
   rw[RG hno];grind
  ·rw[show(x.2.1==0)=false from ABZ.2 h0,ABV]
   have hf:(VC x l [x]).find? (λy=>y.1==j)=some x:=by
    unfold VC
    have h1:(l.filter λy=>decide (y.1<x.1)).find? (λy=>y.1==j)=none:=AB9.2 λz hz=>by have:=AAx (ABd.1 hz).2;simp;omega
    rw[List.find?_append,h1,Option.none_or,ACA,List.find?_cons,e,ABl]
   unfold PL;grind
 ·rw[AAT e,AAT e];unfold PL Xy
  rw[oP x _ j e (λz hz=>by
   cases hq:(x.2.1==0)with
   |true=>rw[hq,ABT]at hz;cases hz
   |false=>rw[hq,ABV]at hz;rw[ABM.1 hz]) l h.1]
  omega
def gO(p:PK)(k:Int):Int:=(PL p.2.2 k).2.1
def aa(p:PK)(k:Int):Int:=(PL p.2.2 k).2.2
theorem Ui(a:Is)(PH:Int)(f:OF->OF):(WS a PH f).length=a.length:=by unfold WS;grind
theorem fx{PH:Int}{f:OF->OF}(h:i<(WS a PH f).length):(WS a PH f)[i]=(bif(a[i]'(by rw[Ui]at h;exact h)).1==PH then((a[i]'(by rw[Ui]at h;exact h)).1,(a[i]'(by rw[Ui]at h;exact h)).2.1,f (a[i]'(by rw[Ui]at h;exact h)).2.2)else(a[i]'(by rw[Ui]at h;exact h)):PK):=ABi _
structure dF(a b:Is)(g:Int->Int->Int):Prop where
 len:b.length=a.length
 each:∀i (h:i<a.length) (h2:i<b.length),b[i].1=a[i].1/\b[i].2.1=a[i].2.1/\∀k,gO b[i] k=gO a[i] k-g a[i].1 k/\aa b[i] k=aa a[i] k-g a[i].1 k
theorem nj(ha:PQ a)(hi:i<a.length){m:Int}(hk:1<=k/\k<=50)(hm:1<=m/\m<=1000)(hh:m<=aa a[i] k):(YK a a[i].1 k m).2=0/\dF a (YK a a[i].1 k m).1 λPH j=>if PH=a[i].1/\j=k then m else 0:=by
 obtain⟨c1,c2⟩:=eJ ha hi hk hm;have hst:=(ha.2.2 _ (ABU hi)).2.2;obtain⟨b1,b2,b3,b4,b5⟩:=RA hst k;unfold aa at hh;unfold YK;rw[c1,AAT J,c2,AAT J];refine⟨rfl,by show(ZJ _ _ _).length=_;unfold ZJ;rw[Ui],λq hq hq2=>?_⟩;have zB:(ZJ a a[i].1 (k,(PL a[i].2.2 k).2.1-m,(PL a[i].2.2 k).2.2-m))[q]=_:=fx (a:=a) (f:=Xy (k,(PL a[i].2.2 k).2.1-m,(PL a[i].2.2 k).2.2-m)) hq2;show(ZJ a a[i].1 (k,(PL a[i].2.2 k).2.1-m,(PL a[i].2.2 k).2.2-m))[q].1=_/\(ZJ a a[i].1 (k,(PL a[i].2.2 k).2.1-m,(PL a[i].2.2 k).2.2-m))[q].2.1=_/\∀j,gO (ZJ a a[i].1 (k,(PL a[i].2.2 k).2.1-m,(PL a[i].2.2 k).2.2-m))[q] j=_/\aa (ZJ a a[i].1 (k,(PL a[i].2.2 k).2.1-m,(PL a[i].2.2 k).2.2-m))[q] j=_;rw[zB];by_cases e:a[q].1=a[i].1
 ·have eq:a[q]=a[i]:=Tw ha hi (ABU hq) e;rw[show(a[q].1==a[i].1)=true from AAX.2 e,ABT];refine⟨rfl,rfl,λj=>?_⟩;obtain⟨s1,s2⟩:=bI (by rw[eq];exact hst:Tl a[q].2.2) (k,(PL a[i].2.2 k).2.1-m,(PL a[i].2.2 k).2.2-m) (λh0=>by dsimp only at h0 ⊢;omega) j;unfold gO aa;dsimp only at s1 s2 ⊢;rw[s1,s2,eq];by_cases ej:j=k
  ·subst ej;rw[AAS rfl,AAS rfl,AAS ⟨rfl,rfl⟩];exact⟨rfl,rfl⟩
  ·rw[AAT ej,AAT ej,AAT (λh=>ej h.2),Int.sub_zero,Int.sub_zero];exact⟨rfl,rfl⟩
 grind
theorem dF.trans{d:Is}{g:Int->Int->Int}(h1:dF a b f)(h2:dF b d g):dF a d λp k=>f p k+g p k:=by
 refine⟨h2.len.trans h1.len,λi hi hi2=>?_⟩;have hb:i<b.length:=by rw[h1.len];exact hi
 obtain⟨p1,p2,p3⟩:=h1.each i hi hb;obtain⟨q1,q2,q3⟩:=h2.each i hb hi2;grind
theorem dF.refl(a:Is):dF a a λ_ _=>0:=⟨rfl,λi h h2=>⟨rfl,rfl,λk=>⟨J,J⟩⟩⟩
theorem mZ:∀(ps:OF)(a:Is),PQ a->(∀p∈ps,(1<=p.2.1/\p.2.1<=50)/\(1<=p.2.2/\p.2.2<=1000)/\∃i,∃h:i<a.length,a[i].1=p.1)->(∀q∈a,∀k,tp ps q.1 k<=aa q k)->∃b,Vb XY ps a=some b/\PQ b/\dF a b (tp ps)
 | [],a,ha,_,_=>⟨a,rfl,ha,dF.refl a⟩
 |p::ps,a,ha,hp,hh=>by
  obtain⟨hk,hm,i,hi,e⟩:=hp p AAo;have hpos:=aY ps (λq hq=>(hp q (AAQ _ hq)).2.1.1);have h1:=hh _ (ABU hi) p.2.1;rw[e,jT]at h1;have h2:=hpos p.1 p.2.1;obtain⟨t1,t2⟩:=nj ha hi hk hm (show p.2.2<=aa a[i] p.2.1 by omega);rw[e]at t1 t2;have hb:=(jQ ha p.1 p.2.1 p.2.2).1
  obtain⟨b,g1,g2,g3⟩:=mZ ps (YK a p.1 p.2.1 p.2.2).1 hb (λq hq=>by
   obtain⟨x1,x2,j,hj,ej⟩:=hp q (AAQ _ hq);have hj2:j<(YK a p.1 p.2.1 p.2.2).1.length:=by rw[t2.len];exact hj
   exact⟨x1,x2,j,hj2,(t2.each j hj hj2).1.trans ej⟩) (λq hq k=>by
   obtain⟨j,hj2,rfl⟩:=ABX.1 hq;have hj:j<a.length:=by rw[<-t2.len];exact hj2
   obtain⟨x1,_,x3⟩:=t2.each j hj hj2;have h5:=hh _ (ABU hj) k;rw[(x3 k).2,x1];simp only[tp]at h5;omega)
  refine⟨b,?_,g2,?_⟩
  ·rw[Vb];show(if(YK a p.1 p.2.1 p.2.2).2≠0 then none else _)=_;rw[AAT (by rw[t1];simp)];exact g1
  ·have:=t2.trans g3;refine⟨this.len,λi h h2=>?_⟩;obtain⟨x1,x2,x3⟩:=this.each i h h2;refine⟨x1,x2,λk=>?_⟩
   have ht:tp (p::ps) a[i].1 k=(if a[i].1=p.1/\k=p.2.1 then p.2.2 else 0)+tp ps a[i].1 k:=by
    show(if p.1=a[i].1/\p.2.1=k then p.2.2 else 0)+tp ps a[i].1 k=_;by_cases hc:p.1=a[i].1/\p.2.1=k
    ·rw[AAS hc,AAS ⟨hc.1.symm,hc.2.symm⟩]
    ·rw[AAT hc,AAT (λq=>hc ⟨q.1.symm,q.2.symm⟩)]
   grind
end Go.Ev.N
