/- A plain law. Conditions: none. -/
import Derived.Test.YthlchdmdanagkaaGreatFnRunsPureC
set_option linter.all false
namespace Go.Ev.N
open Go Go.Ev
variable {crew:ADS}{M:Int}{r:Int×Int×By×Is×Int×ADR×ADS×AAM×By×By×Int×Int}
theorem oB{Q:iu}(K:eI Q)(n:Nat)(hn:PE+1000<=n){w h:Int}{c:By}{a:Is}{nx:Int}{l:ADR}{ts:AAM}{st ou:By}{nw:Int}(q:Q w h c a nx l crew ts st ou)(hnw:0<=nw/\nw<=900000)(i:Int)(hi:0<=i/\i<=5):
  Ok (iter n (Wz n) (i,w,h,c,a,nx,l,crew,ts,st,ou,nw)) λx=>Q x.2.1 x.2.2.1 x.2.2.2.1 x.2.2.2.2.1 x.2.2.2.2.2.1 x.2.2.2.2.2.2.1 x.2.2.2.2.2.2.2.1 x.2.2.2.2.2.2.2.2.1 x.2.2.2.2.2.2.2.2.2.1 x.2.2.2.2.2.2.2.2.2.2.1/\0<=x.2.2.2.2.2.2.2.2.2.2.2/\x.2.2.2.2.2.2.2.2.2.2.2<=nw+6:=by
 refine Ok.iter (λk x=>(x.1+1=(k:Int))/\x.1<=5/\Q x.2.1 x.2.2.1 x.2.2.2.1 x.2.2.2.2.1 x.2.2.2.2.2.1 x.2.2.2.2.2.2.1 x.2.2.2.2.2.2.2.1 x.2.2.2.2.2.2.2.2.1 x.2.2.2.2.2.2.2.2.2.1 x.2.2.2.2.2.2.2.2.2.2.1/\0<=x.2.2.2.2.2.2.2.2.2.2.2/\x.2.2.2.2.2.2.2.2.2.2.2+x.1<=nw+5) (λk x hx=>?_) (k:=(i+1).toNat) ⟨by show i+1=_;clear hn;omega,hi.2,q,hnw.1,by show nw+i<=nw+5;clear hn;omega⟩ ADV;obtain⟨xi,w,h,c,a,nx,l,crew,ts,st,ou,xn⟩:=x;obtain⟨h1,h5,hq,h3,h4⟩:=hx;dsimp only at h1 h5 hq h3 h4;unfold Wz;dsimp only;refine Ok.cond (λhb=>?_) λhb=>Ok.pure (.inr ⟨_,rfl,hq,h3,?_⟩)
 ·have hb:=AAy hb;obtain⟨d,c1,c2⟩:=K.di hq;obtain⟨AAK,a1,a2,a3,_,ev⟩:=cq d st c2 xn n hn;have q2:=K.tick hq a1 a2 a3;generalize PY a ou l AAK (sendAll a crew ts (Pa w h c a crew ts)).2=E at q2 ev;rw[ev,ABQ];have hw:O5 (xn+1)=xn+1:=PA ADX ADX;have hw2:O5 (xi-1)=xi-1:=PA ADX ADX;rw[hw,hw2];refine Ok.pure (.inl ⟨_,rfl,k-1,⟨?_,?_,q2,?_,?_⟩,ADX⟩)
  ·show xi-1+1=_;clear hn;omega
  ·show xi-1<=5;clear hn;omega
  ·show 0<=xn+1;clear hn;omega
  ·show xn+1+(xi-1)<=_;clear hn;omega
 grind
def QD(Q:iu)(M:Int)(x:Int×Int×By×Is×Int×ADR×ADS×AAM×By×By×Int):Prop:=Q x.1 x.2.1 x.2.2.1 x.2.2.2.1 x.2.2.2.2.1 x.2.2.2.2.2.1 x.2.2.2.2.2.2.1 x.2.2.2.2.2.2.2.1 x.2.2.2.2.2.2.2.2.1 x.2.2.2.2.2.2.2.2.2.1/\0<=x.2.2.2.2.2.2.2.2.2.2/\x.2.2.2.2.2.2.2.2.2.2<=M
theorem QD.take{Q:iu}(K:eI Q){w h:Int}{c:By}{a:Is}{nx:Int}{l:ADR}{ts:AAM}{st ou:By}{nw desk:Int}{it:ADT}(q:QD Q M (w,h,c,a,nx,l,crew,ts,st,ou,nw))(hr:oL w h c a nx l crew ts st ou nw desk it r):
  QD Q M (r.1,r.2.1,r.2.2.1,r.2.2.2.1,r.2.2.2.2.1,r.2.2.2.2.2.1,r.2.2.2.2.2.2.1,r.2.2.2.2.2.2.2.1,r.2.2.2.2.2.2.2.2.1,r.2.2.2.2.2.2.2.2.2.1,r.2.2.2.2.2.2.2.2.2.2.1):=by
 rcases hr with rfl|⟨o,l',hl,h29,_,T,hf,_,hle,rfl⟩
 ·exact q
 ·refine⟨?_,q.2⟩;rcases hl with rfl|rfl
  ·exact K.take q.1 T hf h29 hle
  ·exact K.take (K.iZ q.1) T hf h29 hle
theorem QD.back{Q:iu}(K:eI Q){w h:Int}{c:By}{a:Is}{nx:Int}{l:ADR}{ts:AAM}{st ou:By}{nw id:Int}(q:QD Q M (w,h,c,a,nx,l,crew,ts,st,ou,nw)){r:oI}(hr:oH w h c a nx l crew ts st ou nw id r):
  QD Q M (r.1,r.2.1,r.2.2.1,r.2.2.2.1,r.2.2.2.2.1,r.2.2.2.2.2.1,r.2.2.2.2.2.2.1,r.2.2.2.2.2.2.2.1,r.2.2.2.2.2.2.2.2.1,r.2.2.2.2.2.2.2.2.2.1,r.2.2.2.2.2.2.2.2.2.2.1):=by
 rcases hr with⟨rfl,_⟩|⟨o,B,rfl⟩
 ·exact q
 ·exact⟨K.back q.1 B.ord B.yI B.num,q.2⟩
theorem QD.rest{Q:iu}(K:eI Q){w h:Int}{c:By}{a:Is}{nx:Int}{l:ADR}{ts:AAM}{st ou:By}{nw PB k m:Int}(q:QD Q M (w,h,c,a,nx,l,crew,ts,st,ou,nw))(hr:qR w h c a nx l crew ts st ou nw PB k m r):
  QD Q M (r.1,r.2.1,r.2.2.1,r.2.2.2.1,r.2.2.2.2.1,r.2.2.2.2.2.1,r.2.2.2.2.2.2.1,r.2.2.2.2.2.2.2.1,r.2.2.2.2.2.2.2.2.1,r.2.2.2.2.2.2.2.2.2.1,r.2.2.2.2.2.2.2.2.2.2.1):=by
 rcases hr with⟨e,_,rfl⟩|⟨_,h0,hm,rfl⟩
 ·exact q
 ·exact⟨K.rest q.1 h0 hm,q.2⟩
theorem lX{Q:iu}(K:eI Q)(n:Nat)(hn:PE+1000<=n){b:By}{i q:Int}(hcu:Cu b i)(M:Int)(hM:M<=1000):Ok (XV n b i q M) λx=>QD Q 6000 (x.1,x.2.1,x.2.2.1,x.2.2.2.1,x.2.2.2.2.1,x.2.2.2.2.2.1,x.2.2.2.2.2.2.1,x.2.2.2.2.2.2.2.1,x.2.2.2.2.2.2.2.2.1,x.2.2.2.2.2.2.2.2.2.1,x.2.2.2.2.2.2.2.2.2.2.1)/\Cu x.2.2.2.2.2.2.2.2.2.2.2.1 x.2.2.2.2.2.2.2.2.2.2.2.2.1:=by
 have hB:PE<=n:=AA3 (AB0 _ _) hn;unfold XV;refine(kD n hB hcu).bind λx hx=>?_;obtain⟨w,h,c,a,b',i',q',hnew,hcu',rfl⟩:=hx;have q0:=K.new hnew;generalize Rv (Pu c) (min (Pu c).length 20)=cw0 at q0 ⊢;generalize Rt a 50=st0 at q0 ⊢;generalize List.replicate 51 (0:Int)=ze0 at q0 ⊢;dsimp only;obtain⟨m0,i1,q1,em,hi1,hm0,hm1⟩:=fE b' i' q' hcu'.2 hcu'.1 M;rw[em,ABQ];dsimp only;have hm2:m0<=1000:=ADg
 have hm3:0<=6*(1000-m0):=ADg
 have hfuel:m0.toNat<n:=by unfold PE at hB;omega
 have hinit:m0=(m0.toNat:Int):=ADg
 have qinit:QD Q (6*(1000-m0)) (w,h,c,a,1,[],cw0,[],st0,ze0,0):=⟨q0,ACW _,hm3⟩;refine Ok.bind (P:=λx=>QD Q 6000 x.2.2.2.2/\Cu x.2.1 x.2.2.1) (Ok.iter (λk x=>x.1=(k:Int)/\QD Q (6*(1000-x.1)) x.2.2.2.2/\Cu x.2.1 x.2.2.1/\x.1<=1000) (λk x hx=>?_) (k:=m0.toNat) ⟨hinit,qinit,⟨hcu'.1,hi1⟩,hm2⟩ hfuel) λx hx=>Ok.pure hx;obtain⟨k1,qd,hc,k2⟩:=hx;obtain⟨xi,xb,xj,xq,w,h,c,a,nx,l,crew,ts,st,ou,nw⟩:=x;dsimp only at k1 qd hc k2;have hqd:=qd.2;dsimp only at hqd;unfold ZK;dsimp only;refine Ok.cond (λhb=>?_) λhb=>Ok.pure (.inr ⟨_,rfl,⟨qd.1,hqd.1,?_⟩,hc⟩)
 case _=>
  have hb:=AAy hb;have hw1:O5 (xi-1)=xi-1:=PA ADg ADg;obtain⟨d,c1,c2⟩:=K.di qd.1;dsimp only at d c1 c2;have z:=d.z c1 c2;have up:∀ {y:Int×Int×By×Is×Int×ADR×ADS×AAM×By×By×Int},QD Q (6*(1000-xi)) y->QD Q (6*(1000-(xi-1))) y:=λg=>⟨g.1,g.2.1,by have:=g.2.2;clear hn hB;omega⟩;refine Ok.bind (P:=λz=>QD Q (6*(1000-(xi-1))) z.2.2.2/\Cu z.1 z.2.1) ((R1 hc 8).bind λr hr=>?_) λz hz=>Ok.pure (.inl ⟨_,rfl,k-1,⟨?_,?_,hz.2,?_⟩,ADg⟩)
  ·refine Ok.bind (P:=λ_=>True) (Ok.cond (λ_=>Ok.pure trivial) λ_=>Ok.pure trivial) λv _=>?_;refine Ok.cond (λ_=>?_) λ_=>Ok.cond (λ_=>?_) λ_=>Ok.cond (λ_=>?_) λ_=>?_
   ·refine(lW n hB hr.1 w h c d.fl).bind λs hs=>(nH n hB hs).bind λt ht=>?_;obtain⟨y,e1,_,hR⟩:=mq w h d.bg z nw s.1 t.1 (by have:=ht.1;clear hn hB;omega) n hB;rw[e1];exact Ok.pure ⟨up (qd.take K hR),ht.2⟩
   ·refine(R1 hr.1 6).bind λs hs=>?_;obtain⟨y,e1,hR⟩:=gq w h d.bg z nw (O5 (1+s.1)) n hB;rw[e1];exact Ok.pure ⟨up (qd.back K hR),hs.1⟩
   ·refine(R1 hr.1 8).bind λs hs=>(R1 hs.1 5).bind λs2 hs2=>(R1 hs2.1 4).bind λs3 hs3=>?_;obtain⟨y,e1,hR⟩:=cZ w h d.bg z nw (O5 (1+s.1)) (O5 (1+s2.1)) (O5 (1+s3.1)) n hB;rw[e1];exact Ok.pure ⟨up (qd.rest K hR),hs3.1⟩
   ·refine(R1 hr.1 6).bind λs hs=>?_;refine(oB K n hn qd.1 ⟨hqd.1,ADg⟩ s.1 ⟨hs.2.1,by have:=hs.2.2 J;clear hn hB;omega⟩).bind λy hy=>Ok.pure ⟨⟨hy.1,hy.2.1,?_⟩,hs.1⟩;have:=hy.2.2;dsimp only;clear hn hB;omega
  ·show O5 (xi-1)=_;rw[hw1];clear hn hB;omega
  ·show QD Q (6*(1000-O5 (xi-1))) _;rw[hw1];exact hz.1
  ·show O5 (xi-1)<=1000;rw[hw1];clear hn hB;omega
 grind
def QG:iu:=λw h c a nx l crew ts st ou=>DG w h c a nx l crew ts st ou/\T8 crew ts
theorem qX:eI QG where
 di:=λq=>⟨q.1.di,q.1.c1,q.1.c2⟩
 new:=fun {w h c a} hok=>⟨DG.new hok,λr hr hl=>by
  obtain⟨i,hi,rfl⟩:=ABV.1 hr;rw[Xc hi]at hl;cases hl⟩
 iZ:=λq=>⟨q.1.iZ,q.2⟩
 take:=λq T hd h29 hl=>⟨q.1.take T hd h29 hl,q.2.app⟩
 back:=λq ho hwt hn=>⟨(q.1.back ho hwt hn).2,q.2.back hwt⟩
 rest:=λq hc hm=>⟨q.1.bK _ _ _ hc hm,q.2⟩
 tick:=fun {w h c a nx l crew ts st ou AAK} q hc hl hs=>by
  have hcl:c.length<=1048576:=by have:=(TD q.1.di.fl).le;omega
  have hd:=YZ hcl q.1.di.fl a crew ts;have hse:=Tt (a:=a) (crew:=crew) (l:=ts) hd.n1 hd.n2;have da:=(q.1.di.fe hd hse).oN hc hl hs;have hal:a.length<=1048576:=by have:=q.1.di.st.1;omega
  exact⟨q.1.tick hc hl hs,da.jF ou ((hse.load (λp hp hh=>(hd.Vs hal hp).2.1) q.2).oN hl hs)⟩
theorem sM(a:Is)(ou:By)(l:ADR)(P:Int->Bool)(t:PH):oE a ou (Qc l P) t=oE a ou l t:=by unfold oE;simp only[fS]
theorem bZ{w h:Int}{c:By}{nx:Int}{l:ADR}{st:By}(hst:Tf st)(th:PH->Bool):∀(ts:AAM)(a:Is)(ou:By)(crew:ADS)(left:AAM)(P:Int->Bool),DI w h c a nx l crew (left++ts)->Tf ou->SV a l (left++ts)->aK a st ou->(∀t∈ts,th t=true->t.2.2.2≠1)->
  W5 th ts (a,ou,crew,left,Qc l P)=gG th ts (a,ou,crew,left,Qc l P)
 | [],a,ou,crew,left,P,d,ho,hH,hP,h1=>rfl
 |t::ts,a,ou,crew,left,P,d,ho,hH,hP,h1=>by
  have h1':∀u∈ts,th u=true->u.2.2.2≠1:=λu hu=>h1 u (AAR _ hu);unfold W5 gG;by_cases hq:th t=true
  ·have ht:=h1 t AAp hq;rw[AAT hq,AAT hq];dsimp only;simp only[oY,sM];have q1:=d.aw ht ou;have q2:=d.eS t ho;have q3:=(d.Yc ht ou hH).1;have q4:=d.eU ht hst ho hH hP;rw[DG.rI d ht hst ho hH hP];cases hg:(PN a ou l crew t).2.2.2 with
   |some u=>
    rw[hg]at q1 q3;exact bZ hst th ts _ _ _ (left++[u]) P (by rw[ABk];exact q1) q2 (by rw[ABk];exact q3) q4 h1'
   |none=>
    rw[hg]at q1 q3;dsimp only[Xq];rw[ABi]
    have hex:∃P',(bif((left++ts).any λu=>u.1==t.1) || !P2 (Qc l P) t.1 then Qc l P else QA (Qc l P) t.1 2)=Qc l P':=by
     cases((left++ts).any λu=>u.1==t.1) || !P2 (Qc l P) t.1
     ·exact⟨_,jm l P t.1⟩
     ·grind
    obtain⟨P',hP'⟩:=hex;rw[hP'];exact bZ hst th ts _ _ _ left P' q1 q2 q3 q4 h1'
  ·rw[AAU hq,AAU hq];have e:left++t::ts=(left++[t])++ts:=AAB
   rw[e]at d hH;exact bZ hst th ts a ou crew (left++[t]) P d ho hH hP h1'
theorem jN{w h:Int}{c:By}{a:Is}{nx:Int}{l:ADR}{ts:AAM}{st ou:By}(g:DG w h c a nx l crew ts st ou)(nw:Int)(n:Nat)(hn:PE+1000<=n):
  ∃AAK,CW c AAK/\AAK.length=(sendAll a crew ts (Pa w h c a crew ts)).1.length/\(∀k (h1:k<(sendAll a crew ts (Pa w h c a crew ts)).1.length) (h2:k<AAK.length),AAK[k].1=(sendAll a crew ts (Pa w h c a crew ts)).1[k].1/\AAK[k].2.2.1=(sendAll a crew ts (Pa w h c a crew ts)).1[k].2.2.1/\AAK[k].2.2.2.1=(sendAll a crew ts (Pa w h c a crew ts)).1[k].2.2.2.1)/\
   Sa n w h c a nx l crew ts st ou nw=some (w,h,c,(PY a ou l AAK (sendAll a crew ts (Pa w h c a crew ts)).2).1,nx,(PY a ou l AAK (sendAll a crew ts (Pa w h c a crew ts)).2).2.2.1,(PY a ou l AAK (sendAll a crew ts (Pa w h c a crew ts)).2).2.2.2.1,(PY a ou l AAK (sendAll a crew ts (Pa w h c a crew ts)).2).2.2.2.2,st,(PY a ou l AAK (sendAll a crew ts (Pa w h c a crew ts)).2).2.1,O5 (nw+1)):=by
 obtain⟨AAK,a1,a2,a3,ev⟩:=gh g.di.dw g.di.bg st g.c2.ob nw n hn;refine⟨AAK,a1,a2,a3,?_⟩;rw[ev];have hcl:c.length<=1048576:=by have:=(TD g.di.fl).le;clear hn;omega
 have hd:=YZ hcl g.di.fl a crew ts;have ga:=(g.fe hd (Tt hd.n1 hd.n2)).oN a1 a2 a3
 have e1:=bZ g.c1 (P8 AAK) (sendAll a crew ts (Pa w h c a crew ts)).2 a ou AAK [] (λ_=>false) ga.di ga.c2 ga.hold ga.piece (λt _ hg e=>by
  unfold P8 at hg;grind)
 rw[gJ l _ λ_=>rfl]at e1;rw[e1,oA ga.di ou (P8 AAK) λ_ _=>rfl]
theorem oZ(a:Is)(ou:By)(l:ADR)(crew:ADS)(t:PH):(PN a ou l crew t).2.2.1.length=crew.length:=by obtain⟨f,_,e⟩:=iE a ou l crew t;rw[e,ba]
theorem gF(l:ADR):∀(ts:AAM)(s:mr),(Pc l ts s).2.2.1.length=s.2.2.1.length
 | [],s=>rfl
 |t::ts,s=>by
  have e:Pc l (t::ts) s=Pc l ts (PX l t s):=rfl;rw[e,gF l ts (PX l t s)];unfold PX;split
  ·exact oZ _ _ _ _ _
  ·rfl
abbrev lH:=Int×Int×By×Is×Int×ADR×ADS×AAM×By×By×Int
def lA(n:Nat)(x:lH):Option lH:=Zy n x.1 x.2.1 x.2.2.1 x.2.2.2.1 x.2.2.2.2.1 x.2.2.2.2.2.1 x.2.2.2.2.2.2.1 x.2.2.2.2.2.2.2.1 x.2.2.2.2.2.2.2.2.1 x.2.2.2.2.2.2.2.2.2.1 x.2.2.2.2.2.2.2.2.2.2
def ic(n:Nat)(x:lH):lH:=(lA n x).getD x
def runT(n:Nat)(x:lH):Nat->lH
 |0=>x
 |k+1=>ic n (runT n x k)
theorem kZ(n:Nat)(x:lH)(j:Nat):∀k,runT n (runT n x j) k=runT n x (j+k)
 |0=>rfl
 |k+1=>by rw[runT,kZ n x j k];rfl
def qT(x y:lH):Prop:=y.1=x.1/\y.2.1=x.2.1/\y.2.2.1=x.2.2.1/\y.2.2.2.2.2.2.1.length=x.2.2.2.2.2.2.1.length
theorem QD.ok{x:lH}(q:QD QG M x)(hM:M<=1000000)(n:Nat)(hn:PE<=n):RZ n x.1 x.2.1 x.2.2.1 x.2.2.2.1 x.2.2.2.2.1 x.2.2.2.2.2.1 x.2.2.2.2.2.2.1 x.2.2.2.2.2.2.2.1 x.2.2.2.2.2.2.2.2.1 x.2.2.2.2.2.2.2.2.2.1 x.2.2.2.2.2.2.2.2.2.2=some true:=
 (q.1.1.safe q.1.2 ⟨q.2.1,Int.le_trans q.2.2 hM⟩ n hn).2
theorem QD.copy{x:lH}(q:QD QG M x)(n:Nat)(hn:PE<=n):RE n x.1 x.2.1 x.2.2.1 x.2.2.2.1 x.2.2.2.2.1 x.2.2.2.2.2.1 x.2.2.2.2.2.2.1 x.2.2.2.2.2.2.2.1 x.2.2.2.2.2.2.2.2.1 x.2.2.2.2.2.2.2.2.2.1 x.2.2.2.2.2.2.2.2.2.2=some x:=
 YA x.1 x.2.1 q.1.1.di.bg.sm (q.1.1.di.z q.1.1.c1 q.1.1.c2) x.2.2.2.2.2.2.2.2.2.2 n hn
theorem ig{x:lH}(q:QD QG M x)(hM:M<1000000)(n:Nat)(hn:PE+1000<=n):lA n x=some (ic n x)/\QD QG (M+1) (ic n x)/\qT x (ic n x):=by
 have hB:PE<=n:=AA3 (AB0 _ _) hn;have e1:=q.copy n hB;have e2:=q.ok J n hB;have hn0:=q.2;have hlt:decide (x.2.2.2.2.2.2.2.2.2.2<1000000)=true:=by rw[AAk];clear hn hB;omega
 obtain⟨AAK,a1,a2,a3,ev⟩:=jN q.1.1 x.2.2.2.2.2.2.2.2.2.2 n hn;have hw:O5 (x.2.2.2.2.2.2.2.2.2.2+1)=x.2.2.2.2.2.2.2.2.2.2+1:=PA No J;have hk:=qX.tick q.1 a1 a2 a3
 have hlen:(PY x.2.2.2.1 x.2.2.2.2.2.2.2.2.2.1 x.2.2.2.2.2.1 AAK (sendAll x.2.2.2.1 x.2.2.2.2.2.2.1 x.2.2.2.2.2.2.2.1 (Pa x.1 x.2.1 x.2.2.1 x.2.2.2.1 x.2.2.2.2.2.2.1 x.2.2.2.2.2.2.2.1)).2).2.2.2.1.length=x.2.2.2.2.2.2.1.length:=by
  have hcl:x.2.2.1.length<=1048576:=by have:=(TD q.1.1.di.fl).le;clear hn hB;omega
  have hd:=YZ hcl q.1.1.di.fl x.2.2.2.1 x.2.2.2.2.2.2.1 x.2.2.2.2.2.2.2.1;have hse:=Tt (a:=x.2.2.2.1) (crew:=x.2.2.2.2.2.2.1) (l:=x.2.2.2.2.2.2.2.1) hd.n1 hd.n2;have:=gF x.2.2.2.2.2.1 (sendAll x.2.2.2.1 x.2.2.2.2.2.2.1 x.2.2.2.2.2.2.2.1 (Pa x.1 x.2.1 x.2.2.1 x.2.2.2.1 x.2.2.2.2.2.2.1 x.2.2.2.2.2.2.2.1)).2 (x.2.2.2.1,x.2.2.2.2.2.2.2.2.2.1,AAK,[],[]);unfold PY;rw[this];exact a2.trans hse.l1
 generalize PY x.2.2.2.1 x.2.2.2.2.2.2.2.2.2.1 x.2.2.2.2.2.1 AAK (sendAll x.2.2.2.1 x.2.2.2.2.2.2.1 x.2.2.2.2.2.2.2.1 (Pa x.1 x.2.1 x.2.2.1 x.2.2.2.1 x.2.2.2.2.2.2.1 x.2.2.2.2.2.2.2.1)).2=E at ev hk hlen
 have hT:lA n x=some (x.1,x.2.1,x.2.2.1,E.1,x.2.2.2.2.1,E.2.2.1,E.2.2.2.1,E.2.2.2.2,x.2.2.2.2.2.2.2.2.1,E.2.1,x.2.2.2.2.2.2.2.2.2.2+1):=by unfold lA Zy;rw[e1,ABQ,e2,ABQ,ABR,hlt,ABQ,ABR];rw[ev,hw];rfl
 have hT2:ic n x=(x.1,x.2.1,x.2.2.1,E.1,x.2.2.2.2.1,E.2.2.1,E.2.2.2.1,E.2.2.2.2,x.2.2.2.2.2.2.2.2.1,E.2.1,x.2.2.2.2.2.2.2.2.2.2+1):=by unfold ic;rw[hT];rfl
 refine⟨by rw[hT,hT2],?_,?_⟩
 ·rw[hT2];exact⟨hk,No,No⟩
 ·rw[hT2];exact⟨rfl,rfl,rfl,hlen⟩
theorem Z2{M:Int}{x:lH}(q:QD QG M x)(n:Nat)(hn:PE+1000<=n):∀(k:Nat),M+(k:Int)<=1000000->QD QG (M+(k:Int)) (runT n x k)/\qT x (runT n x k)
 |0,_=>⟨by rw[show M+((0:Nat):Int)=M by omega];exact q,rfl,rfl,rfl,rfl⟩
 |k+1,hk=>by
  obtain⟨q1,s1,s2,s3,s4⟩:=Z2 q n hn k J;obtain⟨_,q2,t1,t2,t3,t4⟩:=ig q1 J n hn;refine⟨?_,t1.trans s1,t2.trans s2,t3.trans s3,t4.trans s4⟩;have e:M+((k+1:Nat):Int)=M+(k:Int)+1:=ADX
  rw[e];exact q2
theorem jY{x:lH}(q:QD QG M x)(n:Nat)(hn:PE+1000<=n)(k:Nat)(hk:k<=2000)(hM:M+(k:Int)<=1000000):Yg n x.1 x.2.1 x.2.2.1 x.2.2.2.1 x.2.2.2.2.1 x.2.2.2.2.2.1 x.2.2.2.2.2.2.1 x.2.2.2.2.2.2.2.1 x.2.2.2.2.2.2.2.2.1 x.2.2.2.2.2.2.2.2.2.1 x.2.2.2.2.2.2.2.2.2.2 (k:Int)=some (runT n x k):=by
 have hB:PE<=n:=AA3 (AB0 _ _) hn;have e1:=q.copy n hB
 have hin:PV (k:Int) 0 2000=some true:=by rw[U0,QP,S3.2 ⟨No,J⟩]
 have hloop:=Pb (Wh n (k:Int)) (λi=>((i:Int),runT n x i)) k ((k:Int),runT n x k) (λi hi=>by
  obtain⟨q1,_⟩:=Z2 q n hn i J;have ht:=(ig q1 J n hn).1;unfold lA at ht;unfold Wh;dsimp only;rw[show decide ((i:Int)<(k:Int))=true by grind,ABR,ht,ABQ,O1 hi (show k<=9223372036854775807 by omega)];rfl) (by
  unfold Wh;grind) n (by unfold PE at hB;omega)
 unfold Yg;rw[e1,ABQ,hin,ABQ];rw[show((0:Nat):Int)=0 from rfl]at hloop;simp only[ABY,ABS];rw[show iter n (Wh n (k:Int)) (0,x.1,x.2.1,x.2.2.1,x.2.2.2.1,x.2.2.2.2.1,x.2.2.2.2.2.1,x.2.2.2.2.2.2.1,x.2.2.2.2.2.2.2.1,x.2.2.2.2.2.2.2.2.1,x.2.2.2.2.2.2.2.2.2.1,x.2.2.2.2.2.2.2.2.2.2)=_ from hloop,ABQ]
theorem fH(code:By)(hl:code.length<=1048576)(hx:∀y∈code,0<=y/\y<=255)(i:Int)(hi:0<=i/\i<=100):∃v,bB code i=some v/\0<=v/\v<=255:=by
 unfold bB;by_cases hlt:i<(code.length:Int)
 ·obtain⟨k,rfl⟩:∃k:Nat,i=(k:Int):=⟨i.toNat,J⟩;have hk:k<code.length:=J
  rw[ABW hlt,ABR,O3 hk,ABQ];have hb:=hx _ (ABT hk);rw[PA J J];grind
 ·rw[ABa hlt,ABS];rw[PA (n:=i*31) J J,PA (n:=(code.length:Int)*7) J J,PA J J];grind
theorem aI(a:By)(ha:a.length<=1048576)(n:Nat)(hn:PE<=n):UJ n a a=some true:=by
 unfold UJ;rw[ACV,ABS]
 rw[QN (Ts a a) a (λ_=>true) (λi x hi hx=>by
  unfold Ts;rw[show decide ((i:Int)<(a.length:Int))=true by simp only[AAk];omega,ABR,Qy,hx,O1 hi J];simp) (by unfold Ts;simp) n ADV]
 rw[show a.all (λ_=>true)=true from AAa.2 λ_ _=>rfl];rfl
theorem jD{Q:iu}(K:eI Q)(n:Nat)(hn:PE+1000<=n)(code:By)(hl:code.length<=1048576):Ok (Ve n code) (QD Q 6000):=by
 have hB:PE<=n:=AA3 (AB0 _ _) hn;obtain⟨h0,e0⟩:=oe code hl n hB;obtain⟨r,e2,r0,r1⟩:=nJ code hl 24 ADd;unfold Ve;rw[e0,ABQ,e2,ABQ,PA (n:=6+r) ADg ADg];exact(lX K n hn (b:=code) (i:=0) ⟨hl,ACW _⟩ (6+r) ADg).bind λx hx=>Ok.pure hx.1
theorem mL{code:By}(hx:yA vN code):∀y∈code,0<=y/\y<=255:=λy hy=>by have h:=hx.2 y hy;unfold vN at h;rw[show IntKind.min .u8=0 by decide,show IntKind.max .u8=255 by decide]at h;exact h
theorem eR(w h:Int)(c:By)(hf:PU w h c=true)(n:Nat)(hn:PE<=n):∃t,TU n w h c=some t:=by
 have F:=TD hf;have hle:=F.le;have hcl:c.length<=1048576:=ADX
 have hk:∀k∈c,0<=k/\k<=4:=λk hk=>by unfold PU at hf;simp only[AAO,AAa]at hf;exact S3.1 (hf.2 k hk)
 have hit:Ok (iter n (Vf w c) (([]:By),0)) λ_=>True:=by
  refine Ok.iter (λk x=>∃i:Nat,x.2=(i:Int)/\i+k=c.length+1/\x.1.length<=2*i) (λk x hx=>?_) (k:=c.length+1) ⟨0,rfl,J,AAB⟩ ADV;obtain⟨s,y⟩:=x;obtain⟨i,rfl,hik,hs⟩:=hx;dsimp only at hs;unfold Vf;dsimp only;refine Ok.cond (λhd=>?_) λ_=>Ok.pure (.inr ⟨_,rfl,trivial⟩);have hi:i<c.length:=by have:=AAy hd;clear hn;omega
  have hk2:=hk _ (ABT hi);obtain⟨j,ej⟩:∃j:Nat,c[i]=(j:Int):=⟨c[i].toNat,J⟩;have hj:j<([35,46,112,115,99]:ADc).length:=by show j<5;clear hn;omega
  have hwi:O5 ((i:Int)+1)=((i+1:Nat):Int):=O1 hi (show c.length<=9223372036854775807 by omega);have d1:∀y:Int,decide (s.length+[y].length<=E7)=true:=λy=>Re J;have hw0:(w==0)=false:=by rw[ABX];have:=F.w1;clear hn;omega
  rw[O3 hi,ej,ABQ,O3 hj,hwi,hw0,ABQ,d1,ABR,ABS];refine Ok.bind (P:=λz=>z.length<=s.length+2) (Ok.cond (λ_=>?_) λ_=>Ok.pure AAB) λz hz=>Ok.pure (.inl ⟨_,rfl,k-1,⟨i+1,rfl,J,No⟩,J⟩);exact Ok.guard (show decide (_+1<=E7)=true from Re No) (Ok.pure AAB)
 obtain⟨z,ez,_⟩:=hit;unfold TU;rw[Pn w h c hcl n hn,ABQ,hf];simp only[ABY,ABS];rw[ez];exact⟨_,rfl⟩
theorem fY{x:lH}(q:QD QG M x)(n:Nat)(hn:PE<=n):VV n x.1 x.2.1 x.2.2.1 x.2.2.2.1 x.2.2.2.2.1 x.2.2.2.2.2.1 x.2.2.2.2.2.2.1 x.2.2.2.2.2.2.2.1 x.2.2.2.2.2.2.2.2.1 x.2.2.2.2.2.2.2.2.2.1 x.2.2.2.2.2.2.2.2.2.2 x.1 x.2.1 x.2.2.1 x.2.2.2.1 x.2.2.2.2.1 x.2.2.2.2.2.1 x.2.2.2.2.2.2.1 x.2.2.2.2.2.2.2.1 x.2.2.2.2.2.2.2.2.1 x.2.2.2.2.2.2.2.2.2.1 x.2.2.2.2.2.2.2.2.2.2=some true:=by have z:=q.1.1.di.z q.1.1.c1 q.1.1.c2;obtain⟨t,et⟩:=eR x.1 x.2.1 x.2.2.1 q.1.1.di.fl n hn;unfold VV;rw[et];simp only[ABQ,ABq,ABR];rw[jZ _ z.a1 n hn,kf _ (AA3 z.r1 ADd) n hn,ja _ (AA3 z.t1 ADd) n hn,aI _ (AA3 z.s1 ADd) n hn,aI _ (AA3 z.o1 ADd) n hn];rfl
theorem gU(w h:Int)(c:By)(a:Is)(nx:Int)(l:ADR)(crew:ADS)(hcl:crew.length<=1048576)(ts:AAM)(st ou:By)(nw:Int)(n:Nat)(hn:PE<=n):Zw n w h c a nx l crew ts st ou nw=some (crew.all (λr=>r.2.2.1 == -1)&&((ts.length:Int)==0)):=by
 have h1:=QN (XB crew) crew (λr=>r.2.2.1 == -1) (λi x hi hx=>by
  have hxe:crew[i]=x:=by rw[AAN hi]at hx;exact Option.some.inj hx
  simp only[XB,O3 hi,hxe,ABQ,O1 hi (show crew.length<=9223372036854775807 by clear hn;omega)];rw[show decide ((i:Int)<(crew.length:Int))=true by rw[AAk];clear hn;omega];simp only[bne];cases(x.2.2.1 == -1)<;>rfl) (by simp[XB]) n ADV
 unfold Zw;grind
theorem nD(x:lH)(hcl:x.2.2.2.2.2.2.1.length<=1048576)(b:Bool)(n:Nat)(hn:PE<=n):iter n (TO x) (b,0)=some (b&&x.2.2.2.2.2.2.1.all (λr=>r.2.2.1 == -1),(x.2.2.2.2.2.2.1.length:Int)):=by
 have hc:=PW (σ:=Bool) (TO x) (λi s=>(s,(i:Int))) x.2.2.2.2.2.2.1 (λr s=>(s&&r.all (λr=>r.2.2.1 == -1),(x.2.2.2.2.2.2.1.length:Int))) (λ_ _=>True) (λs _=>by
  unfold TO;simp) (λi r q s hi hx _ _ _=>by
  left;refine⟨s&&(r.2.2.1 == -1),?_,trivial,by simp[Bool.and_assoc]⟩;unfold TO;dsimp only;rw[show decide ((i:Int)<(x.2.2.2.2.2.2.1.length:Int))=true by rw[AAk];clear hn;omega];simp only[ABR,O6 hi,ABU,hx,ABQ,O1 hi (show x.2.2.2.2.2.2.1.length<=9223372036854775807 by clear hn;omega)];grind) n ADV b trivial
 exact hc
theorem cJ(code:By)(hx:(yA vN) code):∃n,Zd n code=some true:=by
 obtain⟨n,hn⟩:∃n,PE+1000<=n:=⟨_,AAi _⟩;have hB:PE<=n:=AA3 (AB0 _ _) hn;refine⟨n,?_⟩;unfold Zd fI;rw[ABQ];by_cases hbig:(code.length:Int)>1048576
 ·rw[ABW hbig];rfl
 rw[ABa hbig,ABS];have hl:code.length<=1048576:=ADg
 obtain⟨x,e0,q⟩:=jD qX n hn code hl;rw[e0,ABQ];obtain⟨v,ev,v0,v1⟩:=fH code hl (mL hx) 2 ADd;obtain⟨u,eu,u0,u1⟩:=fH code hl (mL hx) 3 ADd;have hv0:=Int.tmod_nonneg 12 v0;have hv1:=Int.tmod_lt_of_pos v (show(0:Int)<12 by clear hn hB;omega);obtain⟨k,ek⟩:∃k:Nat,Int.tmod v 12=(k:Int):=⟨(Int.tmod v 12).toNat,ADg⟩;have hk:k<=11:=ADg
 rw[ev,ABQ,eu,ABQ,ek];have hw:O5 ((k:Int)+1)=(k:Int)+1:=PA ADg ADg;have hj0:=Int.tmod_nonneg ((k:Int)+1) u0;have hj1:=Int.tmod_lt_of_pos u (show(0:Int)<(k:Int)+1 by clear hn hB;omega);obtain⟨j,ej⟩:∃j:Nat,Int.tmod u ((k:Int)+1)=(j:Int):=⟨(Int.tmod u ((k:Int)+1)).toNat,ADg⟩;have hjk:j<=k:=ADg
 rw[hw,show((k:Int)+1==0)=false by rw[ABX];omega,ABS,ej];have hw2:O5 ((k:Int)-(j:Int))=((k-j:Nat):Int):=by rw[PA ADg ADg];omega
 obtain⟨q1,s1,s2,s3,s4⟩:=Z2 q n hn k ADg;obtain⟨q2,_⟩:=Z2 q n hn j ADg;have e3:=jY q2 n hn (k-j) ADg ADg;rw[jY q n hn k ADg ADg,ABQ,jY q n hn j ADg ADg,ABQ,hw2,e3,ABQ,kZ,show j+(k-j)=k by clear hn hB;omega];have o1:(runT n x k).2.2.2.2.2.2.2.2.2.1.length=x.2.2.2.2.2.2.2.2.2.1.length:=q1.1.1.c2.1.trans q.1.1.c2.1.symm;generalize runT n x k=y at q1 s4 o1;have z:=q1.1.1.di.z q1.1.1.c1 q1.1.1.c2;rw[nD y (AA3 z.r1 ADd) _ n hB,ABQ,fY q1 n hB,ABQ,ABR,gU _ _ _ _ _ _ _ (AA3 z.r1 ADd) _ _ _ _ n hB,s4,o1];grind
end Go.Ev.N
