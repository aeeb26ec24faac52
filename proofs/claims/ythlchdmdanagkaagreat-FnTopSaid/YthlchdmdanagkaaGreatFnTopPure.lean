/- FnTop,as a plain law oZ native forms: what the program's function answers is what the reference's answers. Conditions: none but the lengths' and numbers' bounds. -/
import Derived.Test.YthlchdmdanagkaaGreatFnTopPureC
set_option linter.all false
namespace Go.Ev.N
open Go Go.Ev
abbrev iM:=Int->Int->By->Is->Int->ADP->ADQ->AAL->By->By->Prop
structure dv(Q:iM):Prop where
 di:∀ {w h:Int} {c:By} {a:Is} {nx:Int} {l:ADP} {crew:ADQ} {ts:AAL} {st ou:By},Q w h c a nx l crew ts st ou->DI w h c a nx l crew ts/\TZ st/\TZ ou
 new:∀ {w h:Int} {c:By} {a:Is},ZV w h c a=true->Q w h c a 1 [] (Rw (Pu c) (min (Pu c).length 20)) [] (Ru a 50) (List.replicate 51 0)
 iF:∀ {w h:Int} {c:By} {a:Is} {nx:Int} {l:ADP} {crew:ADQ} {ts:AAL} {st ou:By},Q w h c a nx l crew ts st ou->Q w h c a nx (Q6 l) crew ts st ou
 take:∀ {w h:Int} {c:By} {a:Is} {nx:Int} {l:ADP} {crew:ADQ} {ts:AAL} {st ou:By} {desk:Int} {it:ADR} {o:OF},Q w h c a nx l crew ts st ou->cY a nx l desk it o->QN c desk=true->l.length<=29->ts.length+(RM o).length<=60->
  Q w h c (Pj a (tp o)) (nx+1) (l++[(nx,desk,it,o,1)]) crew (ts++(RM o).map λx=>(nx,x,(0:Int),(1:Int))) st ou
 back:∀ {w h:Int} {c:By} {a:Is} {nx:Int} {l:ADP} {crew:ADQ} {ts:AAL} {st ou:By} {id:Int} {o:PS},Q w h c a nx l crew ts st ou->P0 l id=some o->(∀t∈ts,t.1=id->t.2.2.2=1)->(RM o.2.2.2.1).length<=(ts.filter λt=>t.1==id).length->
  Q w h c (Qc Zd a o.2.2.2.1).1 nx (QA l id 3) crew (ts.filter λt => !(t.1==id)) st ou
 rest:∀ {w h:Int} {c:By} {a:Is} {nx:Int} {l:ADP} {crew:ADQ} {ts:AAL} {st ou:By} {PB k m:Int},Q w h c a nx l crew ts st ou->(VO a PB k m).2=0->st.getD k.toNat 0+m<=1000000->Q w h c (VO a PB k m).1 nx l crew ts (st.set k.toNat (st.getD k.toNat 0+m)) ou
 tick:∀ {w h:Int} {c:By} {a:Is} {nx:Int} {l:ADP} {crew:ADQ} {ts:AAL} {st ou:By} {AAI:ADQ},Q w h c a nx l crew ts st ou->CW c AAI->AAI.length=(sendAll a crew ts (PZ w h c a crew ts)).1.length->
  (∀k (h1:k<(sendAll a crew ts (PZ w h c a crew ts)).1.length) (h2:k<AAI.length),AAI[k].1=(sendAll a crew ts (PZ w h c a crew ts)).1[k].1/\AAI[k].2.2.1=(sendAll a crew ts (PZ w h c a crew ts)).1[k].2.2.1/\AAI[k].2.2.2.1=(sendAll a crew ts (PZ w h c a crew ts)).1[k].2.2.2.1)->
  Q w h c (PY a ou l AAI (sendAll a crew ts (PZ w h c a crew ts)).2).1 nx (PY a ou l AAI (sendAll a crew ts (PZ w h c a crew ts)).2).2.2.1 (PY a ou l AAI (sendAll a crew ts (PZ w h c a crew ts)).2).2.2.2.1 (PY a ou l AAI (sendAll a crew ts (PZ w h c a crew ts)).2).2.2.2.2 st (PY a ou l AAI (sendAll a crew ts (PZ w h c a crew ts)).2).2.1
theorem nT{Q:iM}(K:dv Q)(n:Nat)(hn:PE+1000<=n){w h:Int}{c:By}{a:Is}{nx:Int}{l:ADP}{crew:ADQ}{ts:AAL}{st ou:By}{nw:Int}(q:Q w h c a nx l crew ts st ou)(hnw:0<=nw/\nw<=900000)(i:Int)(hi:0<=i/\i<=5):
  Ok (iter n (Wn n) (i,w,h,c,a,nx,l,crew,ts,st,ou,nw)) λx=>Q x.2.1 x.2.2.1 x.2.2.2.1 x.2.2.2.2.1 x.2.2.2.2.2.1 x.2.2.2.2.2.2.1 x.2.2.2.2.2.2.2.1 x.2.2.2.2.2.2.2.2.1 x.2.2.2.2.2.2.2.2.2.1 x.2.2.2.2.2.2.2.2.2.2.1/\0<=x.2.2.2.2.2.2.2.2.2.2.2/\x.2.2.2.2.2.2.2.2.2.2.2<=nw+6:=by
 refine Ok.iter (λk x=>(x.1+1=(k:Int))/\x.1<=5/\Q x.2.1 x.2.2.1 x.2.2.2.1 x.2.2.2.2.1 x.2.2.2.2.2.1 x.2.2.2.2.2.2.1 x.2.2.2.2.2.2.2.1 x.2.2.2.2.2.2.2.2.1 x.2.2.2.2.2.2.2.2.2.1 x.2.2.2.2.2.2.2.2.2.2.1/\0<=x.2.2.2.2.2.2.2.2.2.2.2/\x.2.2.2.2.2.2.2.2.2.2.2+x.1<=nw+5) (λk x hx=>?_) (k:=(i+1).toNat) ⟨by show i+1=_;clear hn;omega,hi.2,q,hnw.1,by show nw+i<=nw+5;clear hn;omega⟩ ADU;obtain⟨xi,w,h,c,a,nx,l,crew,ts,st,ou,xn⟩:=x;obtain⟨h1,h5,hq,h3,h4⟩:=hx;dsimp only at h1 h5 hq h3 h4;unfold Wn;dsimp only;refine Ok.cond (λhb=>?_) λhb=>Ok.pure (.inr ⟨_,rfl,hq,h3,?_⟩)
 ·have hb:=AAx hb;obtain⟨d,c1,c2⟩:=K.di hq;obtain⟨AAI,a1,a2,a3,_,ev⟩:=cR d st c2 xn n hn;have q2:=K.tick hq a1 a2 a3;generalize PY a ou l AAI (sendAll a crew ts (PZ w h c a crew ts)).2=E at q2 ev;rw[ev,ABP];have hw:O5 (xn+1)=xn+1:=PA ADS ADS;have hw2:O5 (xi-1)=xi-1:=PA ADS ADS;rw[hw,hw2];refine Ok.pure (.inl ⟨_,rfl,k-1,⟨?_,?_,q2,?_,?_⟩,ADS⟩)
  ·show xi-1+1=_;clear hn;omega
  ·show xi-1<=5;clear hn;omega
  ·show 0<=xn+1;clear hn;omega
  ·show xn+1+(xi-1)<=_;clear hn;omega
 grind
def QD(Q:iM)(M:Int)(x:Int×Int×By×Is×Int×ADP×ADQ×AAL×By×By×Int):Prop:=Q x.1 x.2.1 x.2.2.1 x.2.2.2.1 x.2.2.2.2.1 x.2.2.2.2.2.1 x.2.2.2.2.2.2.1 x.2.2.2.2.2.2.2.1 x.2.2.2.2.2.2.2.2.1 x.2.2.2.2.2.2.2.2.2.1/\0<=x.2.2.2.2.2.2.2.2.2.2/\x.2.2.2.2.2.2.2.2.2.2<=M
theorem QD.take{Q:iM}(K:dv Q){w h:Int}{c:By}{a:Is}{nx:Int}{l:ADP}{crew:ADQ}{ts:AAL}{st ou:By}{nw M desk:Int}{it:ADR}(q:QD Q M (w,h,c,a,nx,l,crew,ts,st,ou,nw)){r:Int×Int×By×Is×Int×ADP×ADQ×AAL×By×By×Int×Int}(hr:nj w h c a nx l crew ts st ou nw desk it r):
  QD Q M (r.1,r.2.1,r.2.2.1,r.2.2.2.1,r.2.2.2.2.1,r.2.2.2.2.2.1,r.2.2.2.2.2.2.1,r.2.2.2.2.2.2.2.1,r.2.2.2.2.2.2.2.2.1,r.2.2.2.2.2.2.2.2.2.1,r.2.2.2.2.2.2.2.2.2.2.1):=by
 rcases hr with rfl|⟨o,l',hl,h29,_,T,hf,_,hle,rfl⟩
 ·exact q
 ·refine⟨?_,q.2⟩;rcases hl with rfl|rfl
  ·exact K.take q.1 T hf h29 hle
  ·exact K.take (K.iF q.1) T hf h29 hle
theorem QD.back{Q:iM}(K:dv Q){w h:Int}{c:By}{a:Is}{nx:Int}{l:ADP}{crew:ADQ}{ts:AAL}{st ou:By}{nw M id:Int}(q:QD Q M (w,h,c,a,nx,l,crew,ts,st,ou,nw)){r:ng}(hr:nc w h c a nx l crew ts st ou nw id r):
  QD Q M (r.1,r.2.1,r.2.2.1,r.2.2.2.1,r.2.2.2.2.1,r.2.2.2.2.2.1,r.2.2.2.2.2.2.1,r.2.2.2.2.2.2.2.1,r.2.2.2.2.2.2.2.2.1,r.2.2.2.2.2.2.2.2.2.1,r.2.2.2.2.2.2.2.2.2.2.1):=by
 rcases hr with⟨rfl,_⟩|⟨o,B,rfl⟩
 ·exact q
 ·exact⟨K.back q.1 B.ord B.xg B.num,q.2⟩
theorem QD.rest{Q:iM}(K:dv Q){w h:Int}{c:By}{a:Is}{nx:Int}{l:ADP}{crew:ADQ}{ts:AAL}{st ou:By}{nw M PB k m:Int}(q:QD Q M (w,h,c,a,nx,l,crew,ts,st,ou,nw)){r:Int×Int×By×Is×Int×ADP×ADQ×AAL×By×By×Int×Int}(hr:p7 w h c a nx l crew ts st ou nw PB k m r):
  QD Q M (r.1,r.2.1,r.2.2.1,r.2.2.2.1,r.2.2.2.2.1,r.2.2.2.2.2.1,r.2.2.2.2.2.2.1,r.2.2.2.2.2.2.2.1,r.2.2.2.2.2.2.2.2.1,r.2.2.2.2.2.2.2.2.2.1,r.2.2.2.2.2.2.2.2.2.2.1):=by
 rcases hr with⟨e,_,rfl⟩|⟨_,h0,hm,rfl⟩
 ·exact q
 ·exact⟨K.rest q.1 h0 hm,q.2⟩
theorem kv{Q:iM}(K:dv Q)(n:Nat)(hn:PE+1000<=n){b:By}{i q:Int}(hcu:Cu b i)(M:Int)(hM:M<=1000):Ok (XJ n b i q M) λx=>QD Q 6000 (x.1,x.2.1,x.2.2.1,x.2.2.2.1,x.2.2.2.2.1,x.2.2.2.2.2.1,x.2.2.2.2.2.2.1,x.2.2.2.2.2.2.2.1,x.2.2.2.2.2.2.2.2.1,x.2.2.2.2.2.2.2.2.2.1,x.2.2.2.2.2.2.2.2.2.2.1)/\Cu x.2.2.2.2.2.2.2.2.2.2.2.1 x.2.2.2.2.2.2.2.2.2.2.2.2.1:=by
 have hB:PE<=n:=AA2 (ABz _ _) hn;unfold XJ;refine(ji n hB hcu).bind λx hx=>?_;obtain⟨w,h,c,a,b',i',q',hnew,hcu',rfl⟩:=hx;have q0:=K.new hnew;generalize Rw (Pu c) (min (Pu c).length 20)=cw0 at q0 ⊢;generalize Ru a 50=st0 at q0 ⊢;generalize List.replicate 51 (0:Int)=ze0 at q0 ⊢;dsimp only;obtain⟨m0,i1,q1,em,hi1,hm0,hm1⟩:=eY b' i' q' hcu'.2 hcu'.1 M;rw[em,ABP];dsimp only;have hm2:m0<=1000:=ADe
 have hm3:0<=6*(1000-m0):=ADe
 have hfuel:m0.toNat<n:=by unfold PE at hB;omega
 have hinit:m0=(m0.toNat:Int):=ADe
 have qinit:QD Q (6*(1000-m0)) (w,h,c,a,1,[],cw0,[],st0,ze0,0):=⟨q0,ACU _,hm3⟩;refine Ok.bind (P:=λx=>QD Q 6000 x.2.2.2.2/\Cu x.2.1 x.2.2.1) (Ok.iter (λk x=>x.1=(k:Int)/\QD Q (6*(1000-x.1)) x.2.2.2.2/\Cu x.2.1 x.2.2.1/\x.1<=1000) (λk x hx=>?_) (k:=m0.toNat) ⟨hinit,qinit,⟨hcu'.1,hi1⟩,hm2⟩ hfuel) λx hx=>Ok.pure hx;obtain⟨k1,qd,hc,k2⟩:=hx;obtain⟨xi,xb,xj,xq,w,h,c,a,nx,l,crew,ts,st,ou,nw⟩:=x;dsimp only at k1 qd hc k2;have hqd:=qd.2;dsimp only at hqd;unfold ZD;dsimp only;refine Ok.cond (λhb=>?_) λhb=>Ok.pure (.inr ⟨_,rfl,⟨qd.1,hqd.1,?_⟩,hc⟩)
 case _=>
  have hb:=AAx hb;have hw1:O5 (xi-1)=xi-1:=PA ADe ADe;obtain⟨d,c1,c2⟩:=K.di qd.1;dsimp only at d c1 c2;have z:=d.z c1 c2;have up:∀ {y:Int×Int×By×Is×Int×ADP×ADQ×AAL×By×By×Int},QD Q (6*(1000-xi)) y->QD Q (6*(1000-(xi-1))) y:=λg=>⟨g.1,g.2.1,by have:=g.2.2;clear hn hB;omega⟩;refine Ok.bind (P:=λz=>QD Q (6*(1000-(xi-1))) z.2.2.2/\Cu z.1 z.2.1) ((R3 hc 8).bind λr hr=>?_) λz hz=>Ok.pure (.inl ⟨_,rfl,k-1,⟨?_,?_,hz.2,?_⟩,ADe⟩)
  ·refine Ok.bind (P:=λ_=>True) (Ok.cond (λ_=>Ok.pure trivial) λ_=>Ok.pure trivial) λv _=>?_;refine Ok.cond (λ_=>?_) λ_=>Ok.cond (λ_=>?_) λ_=>Ok.cond (λ_=>?_) λ_=>?_
   ·refine(ku n hB hr.1 w h c d.fl).bind λs hs=>(mc n hB hs).bind λt ht=>?_;obtain⟨y,e1,_,hR⟩:=mO w h d.bg z nw s.1 t.1 (by have:=ht.1;clear hn hB;omega) n hB;rw[e1];exact Ok.pure ⟨up (qd.take K hR),ht.2⟩
   ·refine(R3 hr.1 6).bind λs hs=>?_;obtain⟨y,e1,hR⟩:=gP w h d.bg z nw (O5 (1+s.1)) n hB;rw[e1];exact Ok.pure ⟨up (qd.back K hR),hs.1⟩
   ·refine(R3 hr.1 8).bind λs hs=>(R3 hs.1 5).bind λs2 hs2=>(R3 hs2.1 4).bind λs3 hs3=>?_;obtain⟨y,e1,hR⟩:=cL w h d.bg z nw (O5 (1+s.1)) (O5 (1+s2.1)) (O5 (1+s3.1)) n hB;rw[e1];exact Ok.pure ⟨up (qd.rest K hR),hs3.1⟩
   ·refine(R3 hr.1 6).bind λs hs=>?_;refine(nT K n hn qd.1 ⟨hqd.1,ADe⟩ s.1 ⟨hs.2.1,by have:=hs.2.2 J;clear hn hB;omega⟩).bind λy hy=>Ok.pure ⟨⟨hy.1,hy.2.1,?_⟩,hs.1⟩;have:=hy.2.2;dsimp only;clear hn hB;omega
  ·show O5 (xi-1)=_;rw[hw1];clear hn hB;omega
  ·show QD Q (6*(1000-O5 (xi-1))) _;rw[hw1];exact hz.1
  ·show O5 (xi-1)<=1000;rw[hw1];clear hn hB;omega
 grind
def QG:iM:=λw h c a nx l crew ts st ou=>DG w h c a nx l crew ts st ou/\Tw crew ts
theorem qD:dv QG where
 di:=λq=>⟨q.1.di,q.1.c1,q.1.c2⟩
 new:=fun {w h c a} hok=>⟨DG.new hok,λr hr hl=>by
  obtain⟨i,hi,rfl⟩:=ABU.1 hr;rw[XQ hi]at hl;cases hl⟩
 iF:=λq=>⟨q.1.iF,q.2⟩
 take:=λq T hd h29 hl=>⟨q.1.take T hd h29 hl,q.2.app⟩
 back:=λq ho hwt hn=>⟨(q.1.back ho hwt hn).2,q.2.back hwt⟩
 rest:=λq hc hm=>⟨q.1.ay _ _ _ hc hm,q.2⟩
 tick:=fun {w h c a nx l crew ts st ou AAI} q hc hl hs=>by
  have hcl:c.length<=1048576:=by have:=(Tz q.1.di.fl).le;omega
  have hd:=YP hcl q.1.di.fl a crew ts;have hse:=Tm (a:=a) (crew:=crew) (l:=ts) hd.n1 hd.n2;have da:=(q.1.di.fK hd hse).np hc hl hs;have hal:a.length<=1048576:=by have:=q.1.di.st.1;omega
  exact⟨q.1.tick hc hl hs,da.iY ou ((hse.load (λp hp hh=>(hd.Vg hal hp).2.1) q.2).np hl hs)⟩
theorem rh(a:Is)(ou:By)(l:ADP)(P:Int->Bool)(t:PH):nX a ou (Qb l P) t=nX a ou l t:=by unfold nX;simp only[fD]
theorem bM{w h:Int}{c:By}{nx:Int}{l:ADP}{st:By}(hst:TZ st)(th:PH->Bool):∀(ts:AAL)(a:Is)(ou:By)(crew:ADQ)(left:AAL)(P:Int->Bool),DI w h c a nx l crew (left++ts)->TZ ou->SY a l (left++ts)->Z8 a st ou->(∀t∈ts,th t=true->t.2.2.2≠1)->
  Wq th ts (a,ou,crew,left,Qb l P)=fg th ts (a,ou,crew,left,Qb l P)
 | [],a,ou,crew,left,P,d,ho,hH,hP,h1=>rfl
 |t::ts,a,ou,crew,left,P,d,ho,hH,hP,h1=>by
  have h1':∀u∈ts,th u=true->u.2.2.2≠1:=λu hu=>h1 u (AAQ _ hu);unfold Wq fg;by_cases hq:th t=true
  ·have ht:=h1 t AAo hq;rw[AAS hq,AAS hq];dsimp only;simp only[oA,rh];have q1:=d.aa ht ou;have q2:=d.eF t ho;have q3:=(d.YS ht ou hH).1;have q4:=d.eH ht hst ho hH hP;rw[DG.qh d ht hst ho hH hP];cases hg:(PN a ou l crew t).2.2.2 with
   |some u=>
    rw[hg]at q1 q3;exact bM hst th ts _ _ _ (left++[u]) P (by rw[ABj];exact q1) q2 (by rw[ABj];exact q3) q4 h1'
   |none=>
    rw[hg]at q1 q3;dsimp only[Xf];rw[ABf]
    have hex:∃P',(bif((left++ts).any λu=>u.1==t.1) || !P1 (Qb l P) t.1 then Qb l P else QA (Qb l P) t.1 2)=Qb l P':=by
     cases((left++ts).any λu=>u.1==t.1) || !P1 (Qb l P) t.1
     ·exact⟨_,jO l P t.1⟩
     ·exact⟨P,rfl⟩
    obtain⟨P',hP'⟩:=hex;rw[hP'];exact bM hst th ts _ _ _ left P' q1 q2 q3 q4 h1'
  ·rw[AAT hq,AAT hq];have e:left++t::ts=(left++[t])++ts:=AAA
   rw[e]at d hH;exact bM hst th ts a ou crew (left++[t]) P d ho hH hP h1'
theorem iq{w h:Int}{c:By}{a:Is}{nx:Int}{l:ADP}{crew:ADQ}{ts:AAL}{st ou:By}(g:DG w h c a nx l crew ts st ou)(nw:Int)(n:Nat)(hn:PE+1000<=n):
  ∃AAI,CW c AAI/\AAI.length=(sendAll a crew ts (PZ w h c a crew ts)).1.length/\(∀k (h1:k<(sendAll a crew ts (PZ w h c a crew ts)).1.length) (h2:k<AAI.length),AAI[k].1=(sendAll a crew ts (PZ w h c a crew ts)).1[k].1/\AAI[k].2.2.1=(sendAll a crew ts (PZ w h c a crew ts)).1[k].2.2.1/\AAI[k].2.2.2.1=(sendAll a crew ts (PZ w h c a crew ts)).1[k].2.2.2.1)/\
   Sb n w h c a nx l crew ts st ou nw=some (w,h,c,(PY a ou l AAI (sendAll a crew ts (PZ w h c a crew ts)).2).1,nx,(PY a ou l AAI (sendAll a crew ts (PZ w h c a crew ts)).2).2.2.1,(PY a ou l AAI (sendAll a crew ts (PZ w h c a crew ts)).2).2.2.2.1,(PY a ou l AAI (sendAll a crew ts (PZ w h c a crew ts)).2).2.2.2.2,st,(PY a ou l AAI (sendAll a crew ts (PZ w h c a crew ts)).2).2.1,O5 (nw+1)):=by
 obtain⟨AAI,a1,a2,a3,ev⟩:=gJ g.di.dw g.di.bg st g.c2.ob nw n hn;refine⟨AAI,a1,a2,a3,?_⟩;rw[ev];have hcl:c.length<=1048576:=by have:=(Tz g.di.fl).le;clear hn;omega
 have hd:=YP hcl g.di.fl a crew ts;have ga:=(g.fK hd (Tm hd.n1 hd.n2)).np a1 a2 a3
 have e1:=bM g.c1 (P8 AAI) (sendAll a crew ts (PZ w h c a crew ts)).2 a ou AAI [] (λ_=>false) ga.di ga.c2 ga.hold ga.piece (λt _ hg e=>by
  unfold P8 at hg;rw[e]at hg;cases hg)
 rw[fk l _ λ_=>rfl]at e1;rw[e1,nR ga.di ou (P8 AAI) λ_ _=>rfl]
theorem oB(a:Is)(ou:By)(l:ADP)(crew:ADQ)(t:PH):(PN a ou l crew t).2.2.1.length=crew.length:=by obtain⟨f,_,e⟩:=gm a ou l crew t;rw[e,bN]
theorem fe(l:ADP):∀(ts:AAL)(s:mP),(Pc l ts s).2.2.1.length=s.2.2.1.length
 | [],s=>rfl
 |t::ts,s=>by
  have e:Pc l (t::ts) s=Pc l ts (PX l t s):=rfl;rw[e,fe l ts (PX l t s)];unfold PX;split
  ·exact oB _ _ _ _ _
  ·rfl
abbrev nW:=Int×Int×By×Is×Int×ADP×ADQ×AAL×By×By×Int
def kN(n:Nat)(x:nW):Option nW:=Zp n x.1 x.2.1 x.2.2.1 x.2.2.2.1 x.2.2.2.2.1 x.2.2.2.2.2.1 x.2.2.2.2.2.2.1 x.2.2.2.2.2.2.2.1 x.2.2.2.2.2.2.2.2.1 x.2.2.2.2.2.2.2.2.2.1 x.2.2.2.2.2.2.2.2.2.2
def iH(n:Nat)(x:nW):nW:=(kN n x).getD x
def runT(n:Nat)(x:nW):Nat->nW
 |0=>x
 |k+1=>iH n (runT n x k)
def p9(x y:nW):Prop:=y.1=x.1/\y.2.1=x.2.1/\y.2.2.1=x.2.2.1/\y.2.2.2.2.2.2.1.length=x.2.2.2.2.2.2.1.length
theorem QD.ok{M:Int}{x:nW}(q:QD QG M x)(hM:M<=1000000)(n:Nat)(hn:PE<=n):Qw n x.1 x.2.1 x.2.2.1 x.2.2.2.1 x.2.2.2.2.1 x.2.2.2.2.2.1 x.2.2.2.2.2.2.1 x.2.2.2.2.2.2.2.1 x.2.2.2.2.2.2.2.2.1 x.2.2.2.2.2.2.2.2.2.1 x.2.2.2.2.2.2.2.2.2.2=some true:=
 (q.1.1.safe q.1.2 ⟨q.2.1,Int.le_trans q.2.2 hM⟩ n hn).2
theorem QD.copy{M:Int}{x:nW}(q:QD QG M x)(n:Nat)(hn:PE<=n):RF n x.1 x.2.1 x.2.2.1 x.2.2.2.1 x.2.2.2.2.1 x.2.2.2.2.2.1 x.2.2.2.2.2.2.1 x.2.2.2.2.2.2.2.1 x.2.2.2.2.2.2.2.2.1 x.2.2.2.2.2.2.2.2.2.1 x.2.2.2.2.2.2.2.2.2.2=some x:=
 Xy x.1 x.2.1 q.1.1.di.bg.sm (q.1.1.di.z q.1.1.c1 q.1.1.c2) x.2.2.2.2.2.2.2.2.2.2 n hn
theorem iI{M:Int}{x:nW}(q:QD QG M x)(hM:M<1000000)(n:Nat)(hn:PE+1000<=n):kN n x=some (iH n x)/\QD QG (M+1) (iH n x)/\p9 x (iH n x):=by
 have hB:PE<=n:=AA2 (ABz _ _) hn;have e1:=q.copy n hB;have e2:=q.ok ADe n hB;have hn0:=q.2;have zj:decide (x.2.2.2.2.2.2.2.2.2.2<1000000)=true:=by rw[AAj];clear hn hB;omega
 obtain⟨AAI,a1,a2,a3,ev⟩:=iq q.1.1 x.2.2.2.2.2.2.2.2.2.2 n hn;have hw:O5 (x.2.2.2.2.2.2.2.2.2.2+1)=x.2.2.2.2.2.2.2.2.2.2+1:=PA ADe ADe;have hk:=qD.tick q.1 a1 a2 a3
 have hlen:(PY x.2.2.2.1 x.2.2.2.2.2.2.2.2.2.1 x.2.2.2.2.2.1 AAI (sendAll x.2.2.2.1 x.2.2.2.2.2.2.1 x.2.2.2.2.2.2.2.1 (PZ x.1 x.2.1 x.2.2.1 x.2.2.2.1 x.2.2.2.2.2.2.1 x.2.2.2.2.2.2.2.1)).2).2.2.2.1.length=x.2.2.2.2.2.2.1.length:=by
  have hcl:x.2.2.1.length<=1048576:=by have:=(Tz q.1.1.di.fl).le;clear hn hB;omega
  have hd:=YP hcl q.1.1.di.fl x.2.2.2.1 x.2.2.2.2.2.2.1 x.2.2.2.2.2.2.2.1;have hse:=Tm (a:=x.2.2.2.1) (crew:=x.2.2.2.2.2.2.1) (l:=x.2.2.2.2.2.2.2.1) hd.n1 hd.n2;have:=fe x.2.2.2.2.2.1 (sendAll x.2.2.2.1 x.2.2.2.2.2.2.1 x.2.2.2.2.2.2.2.1 (PZ x.1 x.2.1 x.2.2.1 x.2.2.2.1 x.2.2.2.2.2.2.1 x.2.2.2.2.2.2.2.1)).2 (x.2.2.2.1,x.2.2.2.2.2.2.2.2.2.1,AAI,[],[]);unfold PY;rw[this];exact a2.trans hse.l1
 generalize PY x.2.2.2.1 x.2.2.2.2.2.2.2.2.2.1 x.2.2.2.2.2.1 AAI (sendAll x.2.2.2.1 x.2.2.2.2.2.2.1 x.2.2.2.2.2.2.2.1 (PZ x.1 x.2.1 x.2.2.1 x.2.2.2.1 x.2.2.2.2.2.2.1 x.2.2.2.2.2.2.2.1)).2=E at ev hk hlen
 have hT:kN n x=some (x.1,x.2.1,x.2.2.1,E.1,x.2.2.2.2.1,E.2.2.1,E.2.2.2.1,E.2.2.2.2,x.2.2.2.2.2.2.2.2.1,E.2.1,x.2.2.2.2.2.2.2.2.2.2+1):=by unfold kN Zp;rw[e1,ABP,e2,ABP,ABQ,zj,ABP,ABQ];rw[ev,hw];rfl
 have hT2:iH n x=(x.1,x.2.1,x.2.2.1,E.1,x.2.2.2.2.1,E.2.2.1,E.2.2.2.1,E.2.2.2.2,x.2.2.2.2.2.2.2.2.1,E.2.1,x.2.2.2.2.2.2.2.2.2.2+1):=by unfold iH;rw[hT];rfl
 refine⟨by rw[hT,hT2],?_,?_⟩
 ·rw[hT2];exact⟨hk,by show 0<=x.2.2.2.2.2.2.2.2.2.2+1;clear hn hB;omega,by show x.2.2.2.2.2.2.2.2.2.2+1<=M+1;clear hn hB;omega⟩
 ·rw[hT2];exact⟨rfl,rfl,rfl,hlen⟩
theorem cD{M:Int}{x:nW}(q:QD QG M x)(n:Nat)(hn:PE+1000<=n):∀(k:Nat),M+(k:Int)<=1000000->QD QG (M+(k:Int)) (runT n x k)/\p9 x (runT n x k)
 |0,_=>⟨by rw[show M+((0:Nat):Int)=M by omega];exact q,rfl,rfl,rfl,rfl⟩
 |k+1,hk=>by
  obtain⟨q1,s1,s2,s3,s4⟩:=cD q n hn k ADS;obtain⟨_,q2,t1,t2,t3,t4⟩:=iI q1 ADS n hn;refine⟨?_,t1.trans s1,t2.trans s2,t3.trans s3,t4.trans s4⟩;have e:M+((k+1:Nat):Int)=M+(k:Int)+1:=ADS
  rw[e];exact q2
theorem pf{M:Int}{x:nW}(q:QD QG M x)(n:Nat)(hn:PE+1000<=n)(k:Nat)(hk:k<=2000)(hM:M+(k:Int)<=1000000):ah n x.1 x.2.1 x.2.2.1 x.2.2.2.1 x.2.2.2.2.1 x.2.2.2.2.2.1 x.2.2.2.2.2.2.1 x.2.2.2.2.2.2.2.1 x.2.2.2.2.2.2.2.2.1 x.2.2.2.2.2.2.2.2.2.1 x.2.2.2.2.2.2.2.2.2.2 (k:Int)=some (runT n x k):=by
 have hB:PE<=n:=AA2 (ABz _ _) hn;have e1:=q.copy n hB
 have zg:PU (k:Int) 0 2000=some true:=by
  rw[Ut,QO,Tk.2 ⟨ADe,ADe⟩]
 have hloop:=Pa (WW n (k:Int)) (λi=>((i:Int),runT n x i)) k ((k:Int),runT n x k) (λi hi=>by
  obtain⟨q1,_⟩:=cD q n hn i ADe;have ht:=(iI q1 ADe n hn).1;unfold kN at ht;unfold WW;dsimp only;rw[show decide ((i:Int)<(k:Int))=true by rw[AAj];clear hn hB;omega,ABQ,ht,ABP,O1 hi (show k<=9223372036854775807 by clear hn hB;omega)];rfl) (by
  unfold WW;dsimp only;rw[show decide ((k:Int)<(k:Int))=false by rw[AAr];omega];rfl) n (by unfold PE at hB;omega)
 unfold ah;rw[e1,ABP,zg,ABP];rw[show((0:Nat):Int)=0 from rfl]at hloop;simp only[ABX,ABS];rw[show iter n (WW n (k:Int)) (0,x.1,x.2.1,x.2.2.1,x.2.2.2.1,x.2.2.2.2.1,x.2.2.2.2.2.1,x.2.2.2.2.2.2.1,x.2.2.2.2.2.2.2.1,x.2.2.2.2.2.2.2.2.1,x.2.2.2.2.2.2.2.2.2.1,x.2.2.2.2.2.2.2.2.2.2)=_ from hloop,ABP]
theorem lE(code:By)(hl:code.length<=1048576)(hx:∀y∈code,0<=y/\y<=255)(i:Int)(hi:0<=i/\i<=100):∃v,dp code i=some v/\0<=v/\v<=255:=by
 unfold dp;by_cases zj:i<(code.length:Int)
 ·obtain⟨k,rfl⟩:∃k:Nat,i=(k:Int):=⟨i.toNat,J⟩;have hk:k<code.length:=J
  rw[ABV zj,ABQ,O3 hk,ABP];have hb:=hx _ (ABR hk);rw[PA J J];exact⟨_,rfl,hb⟩
 ·rw[ABZ zj,ABS];rw[PA (n:=i*31) J J,PA (n:=(code.length:Int)*7) J J,PA J J];have h0:0<=i*31+(code.length:Int)*7:=J
  refine⟨_,rfl,?_,?_⟩
  ·exact Int.tmod_nonneg _ h0
  ·have:=Int.tmod_lt_of_pos (i*31+(code.length:Int)*7) (show(0:Int)<256 by omega);omega
theorem iW{Q:iM}(K:dv Q)(n:Nat)(hn:PE+1000<=n)(code:By)(hl:code.length<=1048576):Ok (VT n code) (QD Q 6000):=by
 have hB:PE<=n:=AA2 (ABz _ _) hn;obtain⟨h0,e0⟩:=oF code hl n hB;obtain⟨r,e2,r0,r1⟩:=me code hl 24 ADb;unfold VT;rw[e0,ABP,e2,ABP,PA (n:=6+r) ADe ADe];exact(kv K n hn (b:=code) (i:=0) ⟨hl,ACU _⟩ (6+r) ADe).bind λx hx=>Ok.pure hx.1
theorem pJ{code:By}(hx:xW ur code):∀y∈code,0<=y/\y<=255:=λy hy=>by have h:=hx.2 y hy;unfold ur at h;rw[show IntKind.min .u8=0 by decide,show IntKind.max .u8=255 by decide]at h;exact h
theorem dO(code:By)(hx:(xW ur) code):∃n,aM n code=some true:=by
 obtain⟨n,hn⟩:∃n,PE+1000<=n:=⟨_,AAh _⟩;have hB:PE<=n:=AA2 (ABz _ _) hn;refine⟨n,?_⟩;unfold aM ec;rw[ABP];by_cases hbig:(code.length:Int)>1048576
 ·rw[ABV hbig];rfl
 rw[ABZ hbig,ABS];have hl:code.length<=1048576:=ADe
 obtain⟨x,e0,q⟩:=iW qD n hn code hl;rw[e0,ABP];obtain⟨v,ev,v0,v1⟩:=lE code hl (pJ hx) 2 ADb;have hv0:=Int.tmod_nonneg 12 v0;have hv1:=Int.tmod_lt_of_pos v (show(0:Int)<12 by clear hn hB;omega);obtain⟨k,ek⟩:∃k:Nat,Int.tmod v 12=(k:Int):=⟨(Int.tmod v 12).toNat,ADe⟩;have hk:k<=11:=ADe
 have er:=pf q n hn k ADe ADe;obtain⟨q2,_⟩:=cD q n hn k ADe;obtain⟨b,e1,ib⟩:=Tn x.1 x.2.1 x.2.2.1 (q.1.1.di.z q.1.1.c1 q.1.1.c2).c1 x.2.2.2.1 (q.1.1.di.z q.1.1.c1 q.1.1.c2).a1 x.2.2.2.2.1 x.2.2.2.2.2.1 q.1.1.di.bg x.2.2.2.2.2.2.1 (AA2 (q.1.1.di.z q.1.1.c1 q.1.1.c2).r1 ADb) x.2.2.2.2.2.2.2.1 (AA2 (q.1.1.di.z q.1.1.c1 q.1.1.c2).t1 ADb) x.2.2.2.2.2.2.2.2.1 x.2.2.2.2.2.2.2.2.2.1 (AA2 (q.1.1.di.z q.1.1.c1 q.1.1.c2).s1 ADb) (AA2 (q.1.1.di.z q.1.1.c1 q.1.1.c2).o1 ADb) x.2.2.2.2.2.2.2.2.2.2 n hB;have hD:=ib.2 (q.1.1.di.ok q.1.1.c1 q.1.1.c2 ⟨q.2.1,Int.le_trans q.2.2 ADb⟩);subst hD;have s1:=(q.1.1.safe q.1.2 ⟨q.2.1,Int.le_trans q.2.2 ADb⟩ n hB).1;have s2:=(q2.1.1.safe q2.1.2 ⟨q2.2.1,Int.le_trans q2.2.2 ADe⟩ n hB).1;rw[e1,ABP];simp only[ABX,ABS];rw[ev,ABP,ek,er,ABP];generalize runT n x k=y at q2 s2;have z:=q2.1.1.di.z q2.1.1.c1 q2.1.1.c2;have hsm:az y:=⟨z.c1,z.a1,q2.1.1.di.bg.sm,AA2 z.r1 ADb,AA2 z.t1 ADb,AA2 z.s1 ADb,AA2 z.o1 ADb⟩;have e2:=q2.1.1.pieces y.2.2.2.2.2.2.2.2.2.2 n hB;have e3:=q2.1.1.holds q2.1.1.di.bg.sm y.2.2.2.2.2.2.2.2.2.2 n hB;have e4:=ZM y hsm n hB;have e4':=q2.1.1.oe q2.1.2 y.2.2.2.2.2.2.2.2.2.2;have e5:=ag y hsm n hB;rw[q2.1.1.ld]at e5;rw[s1,ABP,s2];simp only[ABP,ABu,ABQ,e2,e3];rw[e4,show Zb y=true from e4',e5];rfl
end Go.Ev.N
