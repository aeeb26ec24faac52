/- A plain law. Conditions: none. -/
import Derived.Test.YthlchdmdanagkaaGreatDoorFnPlayedPureC
set_option linter.all false
namespace Go.Ev.N
open Go Go.Ev
def oD(n:Nat)(x:bP)(a:Ac):bP×ADZ:=match km n x a with
 |some r=>(r.d,r.2.2.2.2.2.2.2.2.2.2.2)
 |none=>(x,[])
def Pu(n:Nat):bP->List Ac->bP×List ADZ
 |x,[]=>(x,[])
 |x,a::r=>((Pu n (oD n x a).1 r).1,(oD n x a).2::(Pu n (oD n x a).1 r).2)
theorem Zm(n:Nat):∀(p:List Ac)(x:bP)(q:List Ac),Pu n x (p++q)=((Pu n (Pu n x p).1 q).1,(Pu n x p).2++(Pu n (Pu n x p).1 q).2)
 | [],x,q=>rfl
 |a::p,x,q=>by rw[ABC,Pu,Zm n p];rfl
theorem XA(n:Nat):∀(p:List Ac)(x:bP),(Pu n x p).2.length=p.length
 | [],x=>rfl
 |a::p,x=>by rw[Pu,ABH,ABH,XA n p]
theorem ja{M:Int}{x:bP}(q:QD QG M x)(hM:M<=900000){a:Ac}(ha:Yp a)(n:Nat)(hn:PO+1000<=n):∃r,km n x a=some r/\oD n x a=(r.d,r.2.2.2.2.2.2.2.2.2.2.2)/\QD QG (M+7) r.d:=by
 obtain⟨r,e,h⟩:=oM q hM ha n hn;exact⟨r,e,by unfold oD;rw[e],h⟩
theorem Yb(n:Nat)(hn:PO+1000<=n):∀(p:List Ac) {M:Int} {x:bP} (q:QD QG M x) (hp:∀a∈p,Yp a) (hM:M+7*(p.length:Int)<=900000),QD QG (M+7*(p.length:Int)) (Pu n x p).1
 | [],M,x,q,_,_=>by rw[show M+7*(([]:List Ac).length:Int)=M by simp];exact q
 |a::p,M,x,q,hp,hM=>by rw[ABH]at hM ⊢;obtain⟨r,_,e2,h⟩:=ja q ADV (hp a AAo) n hn;have:=Yb n hn p h (λb hb=>hp b (AAQ _ hb)) ADV;rw[show M+7*((p.length+1:Nat):Int)=M+7+7*(p.length:Int) by clear hn;omega,Pu,e2];exact this
theorem pU{p:List Ac}{i:Nat}(hi:i<p.length):p.take (i+1)=p.take i++[p[i]]:=by rw[List.take_add_one,AAM hi];rfl
theorem fI(n:Nat)(hn:PO+1000<=n){p:List Ac}{M:Int}{x:bP}(q:QD QG M x)(hp:∀a∈p,Yp a)(hM:M+7*(p.length:Int)<=900000){i:Nat}(hi:i<p.length):∃r,km n (Pu n x (p.take i)).1 p[i]=some r/\Pu n x (p.take (i+1))=(r.d,(Pu n x (p.take i)).2++[r.2.2.2.2.2.2.2.2.2.2.2])/\(Pu n x p).2[i]?=some r.2.2.2.2.2.2.2.2.2.2.2:=by
 have hl:(p.take i).length=i:=by rw[ACH];omega
 have hq:=Yb n hn (p.take i) q (λa ha=>hp a (ACC ha)) (by rw[hl];clear hn;omega);obtain⟨r,e1,e2,h⟩:=ja hq (by rw[hl];clear hn;omega) (hp _ (ABU hi)) n hn
 have e3:Pu n x (p.take (i+1))=(r.d,(Pu n x (p.take i)).2++[r.2.2.2.2.2.2.2.2.2.2.2]):=by rw[pU hi,Zm,Pu,Pu,e2]
 refine⟨r,e1,e3,?_⟩;have e4:p=p.take (i+1)++p.drop (i+1):=(ABu _ _).symm
 have e5:(Pu n x p).2=(Pu n x (p.take (i+1))).2++(Pu n (Pu n x (p.take (i+1))).1 (p.drop (i+1))).2:=by
  conv=>lhs;rw[e4,Zm]
 have hl2:(Pu n x (p.take i)).2.length=i:=by rw[XA,hl]
 rw[e5,e3,ABD (by rw[ABE,hl2];simp),ABN (by rw[hl2];exact AAi _),hl2,ACS];rfl
abbrev wJ:=Int×Int×By×Is×Int×AAL×ADS×AAA×By×By×Int×List ADZ
def Zs(y:bP×List ADZ):wJ:=(y.1.1,y.1.2.1,y.1.2.2.1,y.1.2.2.2.1,y.1.2.2.2.2.1,y.1.2.2.2.2.2.1,y.1.2.2.2.2.2.2.1,y.1.2.2.2.2.2.2.2.1,y.1.2.2.2.2.2.2.2.2.1,y.1.2.2.2.2.2.2.2.2.2.1,y.1.2.2.2.2.2.2.2.2.2.2,y.2)
theorem fJ{M:Int}{x:bP}(q:QD QG M x){p:List Ac}(hp:∀a∈p,Yp a)(hM:M+7*(p.length:Int)<=900000)(h0:0<=M)(n:Nat)(hn:PO+1000<=n):Vd n x.1 x.2.1 x.2.2.1 x.2.2.2.1 x.2.2.2.2.1 x.2.2.2.2.2.1 x.2.2.2.2.2.2.1 x.2.2.2.2.2.2.2.1 x.2.2.2.2.2.2.2.2.1 x.2.2.2.2.2.2.2.2.2.1 x.2.2.2.2.2.2.2.2.2.2 p=some (Zs (Pu n x p)):=by
 have hB:PO<=n:=AA5 (AB1 _ _) hn
 have hloop:=Pc (Uw n p) (λi=>((Pu n x (p.take i)).2,(i:Int),(Pu n x (p.take i)).1)) p.length ((Pu n x p).2,(p.length:Int),(Pu n x p).1) (λi hi=>by
  obtain⟨r,e1,e2,_⟩:=fI n hn q hp hM hi;have hl2:(Pu n x (p.take i)).2.length=i:=by rw[XA,ACH];omega
  unfold km at e1;unfold Uw;dsimp only;rw[show decide ((i:Int)<(p.length:Int))=true by rw[AAh];clear hn hB;omega,ABT,PA hi,ABS,e1,ABS,show decide ((Pu n x (p.take i)).2.length+[r.2.2.2.2.2.2.2.2.2.2.2].length<=E8)=true from SV (by rw[hl2];clear hn hB;omega),ABT,O9 hi (show p.length<=9223372036854775807 by clear hn hB;omega),e2];rfl) (by
  unfold Uw;dsimp only;rw[show decide ((p.length:Int)<(p.length:Int))=false by rw[AAr];omega,ACV];rfl) n AD5
 unfold Vd;rw[q.copy n hB,ABS];rw[List.take_zero]at hloop;rw[show((0:Nat):Int)=0 from rfl]at hloop;have hloop:Go.Ev.iter n (Uw n p) ([],0,x)=some ((Pu n x p).2,(p.length:Int),(Pu n x p).1):=hloop;rw[hloop];rfl
theorem fO(a:List ADZ)(ha:a.length<=1048576)(n:Nat)(hn:PO<=n):VB n a a=some true:=by
 unfold VB;rw[ACR,ABV]
 rw[QP (Sr a a) a (λ_=>true) (λi x hi hx=>by
  unfold Sr;rw[show decide ((i:Int)<(a.length:Int))=true by simp only[AAh];omega,ABT,RY,hx,O9 hi J];simp) (by unfold Sr;simp) n ADW]
 rw[show a.all (λ_=>true)=true from AAZ.2 λ_ _=>rfl];rfl
theorem jY(n:Nat)(hn:PO+1000<=n)(code:By)(hl:code.length<=1048576):Ok (V6 n code) λx=>QD QG 0 (x.1,x.2.1,x.2.2.1,x.2.2.2.1,x.2.2.2.2.1,x.2.2.2.2.2.1,x.2.2.2.2.2.2.1,x.2.2.2.2.2.2.2.1,x.2.2.2.2.2.2.2.2.1,x.2.2.2.2.2.2.2.2.2.1,x.2.2.2.2.2.2.2.2.2.2.1)/\x.2.2.2.2.2.2.2.2.2.2.2.length<=100/\∀a∈x.2.2.2.2.2.2.2.2.2.2.2,Yp a:=by
 have hB:PO<=n:=AA5 (AB1 _ _) hn;obtain⟨h0,e0⟩:=oY code hl n hB;obtain⟨r,e2,r0,r1⟩:=nB code hl 12 ADd;unfold V6;rw[e0,ABS];refine(jq n hB (b:=code) (i:=0) ⟨hl,AB6 _⟩).bind λx hx=>?_;obtain⟨w,h,c,a,b',i',q',hnew,hcu',rfl⟩:=hx;have q0:=jo.new hnew;generalize Rw (P3 c) (min (P3 c).length 20)=cw0 at q0 ⊢;generalize Rv a 50=st0 at q0 ⊢;generalize List.replicate 51 (0:Int)=ze0 at q0 ⊢;dsimp only;rw[e2,ABS];exact(lJ n hB hcu' q0.1.di.fl r ADg).bind λy hy=>Ok.pure ⟨⟨q0,AB6 _,AB6 _⟩,hy⟩
theorem aN(code:By)(hx:(wA tX) code):∃n,X1 n code=some true:=by
 obtain⟨n,hn⟩:∃n,PO+1000<=n:=⟨_,AAi _⟩;have hB:PO<=n:=AA5 (AB1 _ _) hn;refine⟨n,?_⟩;unfold X1 eh;rw[ABS];by_cases hbig:(code.length:Int)>1048576
 ·rw[ABY hbig];rfl
 rw[ABc hbig,ABV];have hl:code.length<=1048576:=ADg
 obtain⟨x,e0,q,hp1,hp⟩:=jY n hn code hl;obtain⟨w,h,c,a,nx,l,crew,ts,st,ou,nw,p⟩:=x;dsimp only at q hp1 hp;rw[e0,ABS];obtain⟨v,ev,v0,v1⟩:=lR code hl (pn hx) 2 ADd;have hv0:=Int.tmod_nonneg ((p.length+1:Nat):Int) v0;have hv1:=Int.tmod_lt_of_pos v (show(0:Int)<((p.length+1:Nat):Int) by clear hn hB;omega);obtain⟨k,ek⟩:∃k:Nat,Int.tmod v ((p.length+1:Nat):Int)=(k:Int):=⟨(Int.tmod v ((p.length+1:Nat):Int)).toNat,ADg⟩;rw[ek]at hv0 hv1;have hk:k<=p.length:=ADg
 have hw:PB ((p.length:Int)+1)=((p.length+1:Nat):Int):=by rw[PJ ADg ADg];clear hn hB;omega
 have hkl:(p.take k).length=k:=by rw[ACH];clear hn hB;omega
 have hdl:(p.drop k).length=p.length-k:=ACW ..;have e1:=fJ q hp ADg (AB6 _) n hn;have hpk:∀a∈p.take k,Yp a:=λa ha=>hp a (ACC ha);have hpd:∀a∈p.drop k,Yp a:=λa ha=>hp a (ACD ha);have e2:=fJ q hpk (by rw[hkl];clear hn hB;omega) (AB6 _) n hn;have q2:=Yb n hn (p.take k) q hpk (by rw[hkl];clear hn hB;omega);rw[hkl]at q2;have e3:=fJ q2 hpd (by rw[hdl];clear hn hB;omega) ADg n hn;have q1:=Yb n hn p q hp ADg;have happ:=Zm n (p.take k) (w,h,c,a,nx,l,crew,ts,st,ou,nw) (p.drop k);rw[ABu]at happ;have hlen:=XA n p (w,h,c,a,nx,l,crew,ts,st,ou,nw);have hlenk:=XA n (p.take k) (w,h,c,a,nx,l,crew,ts,st,ou,nw);have hlend:=XA n (p.drop k) (Pu n (w,h,c,a,nx,l,crew,ts,st,ou,nw) (p.take k)).1
 have hloop:=Pc (R1 n (w,h,c,a,nx,l,crew,ts,st,ou,nw,p) (Zs (Pu n (w,h,c,a,nx,l,crew,ts,st,ou,nw) p))) (λi=>((i:Int),(Pu n (w,h,c,a,nx,l,crew,ts,st,ou,nw) (p.take i)).1)) p.length (.inl ((p.length:Int),(Pu n (w,h,c,a,nx,l,crew,ts,st,ou,nw) p).1)) (λi hi=>by
  obtain⟨r,s1,s2,s3⟩:=fI n hn q hp ADg hi;unfold km at s1;have hil:i<(Pu n (w,h,c,a,nx,l,crew,ts,st,ou,nw) p).2.length:=by rw[hlen];exact hi
  have hg:p[(i:Int).toNat]?=some p[i]:=by simp[hi]
  unfold R1 Zs;dsimp only
  rw[show decide ((i:Int)<(p.length:Int))=true by rw[AAh];clear hn hB;omega,ABT,PE hi,ABT,hg,ABS,ABS,s1,ABS,
   show decide ((i:Int)>=((Pu n (w,h,c,a,nx,l,crew,ts,st,ou,nw) p).2.length:Int))=false by rw[AAr];clear hn hB;omega,ABV,PE hil,ABT,ABW,s3,ABS,ABl,O9 hi (show p.length<=9223372036854775807 by clear hn hB;omega),s2]
  rfl) (by
  unfold R1;dsimp only;rw[show decide ((p.length:Int)<(p.length:Int))=false by rw[AAr];omega,ACV];rfl) n AD5
 have hloop:Go.Ev.iter n (R1 n (w,h,c,a,nx,l,crew,ts,st,ou,nw,p) (Zs (Pu n (w,h,c,a,nx,l,crew,ts,st,ou,nw) p))) (0,w,h,c,a,nx,l,crew,ts,st,ou,nw)=some (.inl ((p.length:Int),(Pu n (w,h,c,a,nx,l,crew,ts,st,ou,nw) p).1)):=hloop;have s0:sub p ((0:Int).toNat) ((k:Int).toNat)=p.take k:=by simp[sub]
 have s9:sub p ((k:Int).toNat) ((p.length:Int).toNat)=p.drop k:=by simp[sub,ABs]
 have c1:(decide (0<=(0:Int))&&decide ((0:Int)<=(k:Int))&&decide ((k:Int)<=(p.length:Int)))=true:=by rw[AAN,AAN,AAh,AAh,AAh];clear hn hB;omega
 have c2:(decide (0<=(k:Int))&&decide ((k:Int)<=(p.length:Int))&&decide ((p.length:Int)<=(p.length:Int)))=true:=by rw[AAN,AAN,AAh,AAh,AAh];clear hn hB;omega
 have hsd:=fN q1 n hB;have hou:(Pu n (w,h,c,a,nx,l,crew,ts,st,ou,nw) p).1.2.2.2.2.2.2.2.2.2.1.length=ou.length:=by rw[q1.1.1.c2.1];exact q.1.1.c2.1.symm
 dsimp only at e1 e2;dsimp only;rw[ev,ABS,hw,show(((p.length+1:Nat):Int)==0)=false by rw[ABZ];clear hn hB;omega,ABV,e1,ABS,ek,c1,ABT,s0,e2,ABS,c2,ABT,s9];rw[show Vd n (Zs (Pu n (w,h,c,a,nx,l,crew,ts,st,ou,nw) (p.take k))).1 (Zs (Pu n (w,h,c,a,nx,l,crew,ts,st,ou,nw) (p.take k))).2.1 (Zs (Pu n (w,h,c,a,nx,l,crew,ts,st,ou,nw) (p.take k))).2.2.1 (Zs (Pu n (w,h,c,a,nx,l,crew,ts,st,ou,nw) (p.take k))).2.2.2.1 (Zs (Pu n (w,h,c,a,nx,l,crew,ts,st,ou,nw) (p.take k))).2.2.2.2.1 (Zs (Pu n (w,h,c,a,nx,l,crew,ts,st,ou,nw) (p.take k))).2.2.2.2.2.1 (Zs (Pu n (w,h,c,a,nx,l,crew,ts,st,ou,nw) (p.take k))).2.2.2.2.2.2.1 (Zs (Pu n (w,h,c,a,nx,l,crew,ts,st,ou,nw) (p.take k))).2.2.2.2.2.2.2.1 (Zs (Pu n (w,h,c,a,nx,l,crew,ts,st,ou,nw) (p.take k))).2.2.2.2.2.2.2.2.1 (Zs (Pu n (w,h,c,a,nx,l,crew,ts,st,ou,nw) (p.take k))).2.2.2.2.2.2.2.2.2.1 (Zs (Pu n (w,h,c,a,nx,l,crew,ts,st,ou,nw) (p.take k))).2.2.2.2.2.2.2.2.2.2.1 (p.drop k)=_ from e3,ABS,hloop,ABS];dsimp only;generalize hY:Pu n (w,h,c,a,nx,l,crew,ts,st,ou,nw) p=Y at *;generalize hK:Pu n (w,h,c,a,nx,l,crew,ts,st,ou,nw) (p.take k)=K at *;generalize hZ:Pu n K.1 (p.drop k)=Z at *;have y1:Y.1=Z.1:=by rw[happ]
 have y2:Y.2=K.2++Z.2:=by rw[happ]
 unfold Zs;dsimp only;rw[<-y1,hsd,ABS,ABT,ABS,ABT];have r1:decide (([]:List ADZ).length+K.2.length<=E8)=true:=by rw[AAh,ACZ];unfold E8;clear hn hB;omega
 have r2:decide ((([]:List ADZ)++K.2).length+Z.2.length<=E8)=true:=by rw[AAh,AAy];unfold E8;clear hn hB;omega
 rw[r1,ABT,r2,ABT,AAy,<-y2,fO Y.2 ADg n hB,ABS,ABT,hlen,ABl,ABT,hou,ABl];rfl
end Go.Ev.N
