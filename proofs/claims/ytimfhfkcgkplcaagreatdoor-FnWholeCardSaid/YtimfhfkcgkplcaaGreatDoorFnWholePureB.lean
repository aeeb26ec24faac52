/- A plain law. Conditions: none. -/
import Derived.Test.YtimfhfkcgkplcaaGreatDoorFnWholePureA
set_option linter.all false
namespace Go.Ev.N
open Go Go.Ev
variable {a:It}{i:Nat}{k nx w h id:Int}{β α:Type}{want:ADB}{o ps:AAD}{p:PQ}{b c yS:By}{crew crew':ADC}{ts x y:AAH}{t:Pm}{f:Pt->Pt}{prs:List (Nat×Nat)}
theorem Xq(a:It)(hs:Pq a)(Pj k m:Int)(n:Nat)(hn:Pa<=n):S3 n a Pj k m=some (if QE a Pj k m≠0 then(0,0,0,0,QE a Pj k m)else(R5 a Pj,(SZ a Pj k).1,(SZ a Pj k).2.1,(SZ a Pj k).2.2,0)):=by
 have hl:a.length<=1048576:=hs.1;unfold S3;rw[P9 a hs n hn];simp only[ABQ,Qh];by_cases hc:QE a Pj k m=0
 ·rw[AAQ (by rw[hc];simp)];obtain⟨h,hk,hm,i,hi,e1,e2,e3⟩:=Qt hc;rw[P1.2 h,show P8 k 1 50=true by unfold P8;grind,show P8 m 1 1000=true by unfold P8;rw[ABW hm.1,ABW hm.2];rfl];have hd:decide (R5 a Pj<0)=false:=by rw[e1,AAn];clear hn;omega
  simp only[ABZ,ABS,ABQ,(Ro a hl Pj n hn).1,hd];rw[e3,e1,PS hi,ABQ,ab a[i] (by have:=(h.2.2 _ (ABT hi)).2.2.2.2;omega) k n hn];rfl
 ·rw[AAP hc];unfold QE at hc ⊢;cases h1:P2 a with
  |false=>rfl
  |true=>cases h2:P8 k 1 50 with
   |false=>rfl
   |true=>cases h3:P8 m 1 1000 with
    |false=>rfl
    |true=>
     rw[h1,h2,h3]at hc;simp only[ACD,ABR]at hc ⊢
     have uR:R5 a Pj<0:=by refine AAl λq=>hc ?_;rw[AAQ q]
     simp only[ABZ,ABS,ABQ,(Ro a hl Pj n hn).1,ABW uR,ABR,AAP uR]
theorem dv(h:Pf a)(hi:i<a.length)(d:Int)(hz:∃z∈a[i].2.2,z.1=k)(n:Nat)(hn:Pa<=n):
  SD n a (i:Int) k (Pl a[i].2.2 k).2.1 ((Pl a[i].2.2 k).2.2+d)=some (bR a a[i].1 k d):=by
 have wc:=(h.2.2 _ (ABT hi)).2.2;obtain⟨z,hz1,hz2⟩:=hz
 have xg:((Pl a[i].2.2 k).2.1==0)=false:=by rw[<-hz2,Wp wc hz1,ABY];have:=wc.2.1 z hz1;clear hn;omega
 unfold SD;rw[Pg a h.sm n hn,ABQ,PX hi,ABR];have hg:a[(i:Int).toNat]?=some a[i]:=by simp[hi]
 have hw:=jU a[i].2.2 wc (k,(Pl a[i].2.2 k).2.1,(Pl a[i].2.2 k).2.2+d) ⟨z,hz1,hz2⟩ xg n hn;dsimp only at hw;rw[hg,ABQ,ABQ,hw,ABQ,ABR,lB wc ⟨z,hz1,hz2⟩,ABU];unfold bR;rw[<-ZC h hi];congr 1;apply ABs;grind
theorem dQ(a:It)(hs:Pq a)(Pj k m:Int)(n:Nat)(hn:Pa<=n):Ym n a Pj k m=some (Yr a Pj k m):=by
 unfold Ym Yr;rw[Xq a hs Pj k m n hn,ABQ];by_cases hc:QE a Pj k m=0
 ·rw[AAQ (by rw[hc];simp),AAQ (by rw[hc];simp)];obtain⟨h,hk,hm,i,hi,e1,e2,e3⟩:=Qt hc;have wc:=(h.2.2 _ (ABT hi)).2.2;obtain⟨b1,b2,b3,b4,b5⟩:=UP wc k;dsimp only;rw[show((0:Int) != 0)=false from rfl,ABS,e3,PY J J];by_cases uR:(Pl a[i].2.2 k).2.1-(Pl a[i].2.2 k).2.2<m
  ·rw[ABW uR,AAP uR,ABR,Pg a hs n hn];rfl
  ·rw[ABa uR,AAQ uR,ABS,PY J J,e1,b5]
   have hz:∃z∈a[i].2.2,z.1=k:=by refine AAl λq=>?_;rw[UH λx hx e=>q ⟨x,hx,e⟩]at uR;dsimp only at uR;clear hn;omega
   rw[dv h hi m hz n hn,e2];rfl
 ·rw[AAP hc,AAP hc];dsimp only;rw[show(QE a Pj k m != 0)=true by grind,ABR,Pg a hs n hn];rfl
theorem aH(a:It)(hs:Pq a)(Pj k m:Int)(n:Nat)(hn:Pa<=n):V8 n a Pj k m=some (eU a Pj k m):=by
 unfold V8 eU;rw[Xq a hs Pj k m n hn,ABQ];by_cases hc:QE a Pj k m=0
 ·rw[AAQ (by rw[hc];simp),AAQ (by rw[hc];simp)];obtain⟨h,hk,hm,i,hi,e1,e2,e3⟩:=Qt hc;have wc:=(h.2.2 _ (ABT hi)).2.2;obtain⟨b1,b2,b3,b4,b5⟩:=UP wc k;dsimp only;rw[show((0:Int) != 0)=false from rfl,ABS,e3];by_cases uR:(Pl a[i].2.2 k).2.2<m
  ·rw[ABW uR,AAP uR,ABR,Pg a hs n hn];rfl
  ·rw[ABa uR,AAQ uR,ABS,PY J J,e1,b5]
   have hz:∃z∈a[i].2.2,z.1=k:=by refine AAl λq=>?_;rw[UH λx hx e=>q ⟨x,hx,e⟩]at uR;dsimp only at uR;clear hn;omega
   rw[show(Pl a[i].2.2 k).2.2-m=(Pl a[i].2.2 k).2.2 + -m by omega,dv h hi (-m) hz n hn,e2];rfl
 ·rw[AAP hc,AAP hc];dsimp only;rw[show(QE a Pj k m != 0)=true by grind,ABR,Pg a hs n hn];rfl
theorem ah{l:AAD}(hs:Vk l)(p0 p1 k:Int)(n:Nat)(hn:Pa<=n):
  ∃(j:Nat) (b:Bool),V0 n p0 p1 l k=some ((j:Int),b)/\(b=true->∃h:j<l.length,l[j].1=k/\Pl l k=l[j])/\(b=false->(∀x∈l,x.1≠k)/\Pl l k=(k,0,0)):=by
 have h8:=hs.2.2
 obtain⟨j,h1,h2,h3,h4⟩:=iI (Tw l k) l.length (λi=>decide ((l.getD i (0,0,0)).1<k)) (λi hi=>by
  simp only[Tw,PS hi,ABQ,PR hi (show l.length<=9223372036854775807 by clear hn;omega)];grind) (by simp[Tw]) n ADF
 have hlow:∀i (hi:i<l.length),i<j->l[i].1<k:=by intro i hi zN;have:=h3 i zN;simpa[hi]using this
 unfold V0;rw[h2];by_cases hj:j<l.length
 ·have vW:=h4 hj;have vW:k<=l[j].1:=by simpa[hj]using vW
  refine⟨j,l[j].1==k,?_,λhb=>?_,λhb=>?_⟩
  ·simp[hj,PS hj]
  ·have e:l[j].1=k:=by simpa using hb
   exact⟨hj,e,by rw[<-e];exact Wp hs (ABT hj)⟩
  ·have yO:∀x∈l,x.1≠k:=λx hx=>by
    obtain⟨i,hi,rfl⟩:=ABu hx;have uV:l[j].1≠k:=by simpa using hb
    rcases ABd i j with q|q|q
    ·grind
    ·grind
    ·have:=ABL.1 hs.1 j i hj hi q;omega
   exact⟨yO,UH yO⟩
 ·have yO:∀x∈l,x.1≠k:=λx hx=>by obtain⟨i,hi,rfl⟩:=ABu hx;have:=hlow i hi ADI;clear hn;omega
  refine⟨j,false,?_,λhb=>(by cases hb),λ_=>⟨yO,UH yO⟩⟩;grind
theorem YN(a:It)(hs:Pq a)(Pj k m:Int)(n:Nat)(hn:Pa<=n):Y9 n a Pj k m=some (if QE a Pj k m≠0 then(-1,QE a Pj k m)else(R5 a Pj,0)):=by
 have hl:a.length<=1048576:=hs.1;unfold Y9;rw[Qr a hs n hn,cL];simp only[ABQ,Vt,Qh];by_cases hc:QE a Pj k m=0
 ·rw[AAQ (by rw[hc];simp)];obtain⟨h,hk,hm,i,hi,e1,e2,e3⟩:=Qt hc;rw[P1.2 h,show P8 k 1 50=true by unfold P8;grind,show P8 m 1 1000=true by unfold P8;rw[ABW hm.1,ABW hm.2];rfl];have hd:decide (R5 a Pj>=0)=true:=by rw[e1,AAe];clear hn;omega
  simp only[ABZ,ABS,ABQ,(Ro a hl Pj n hn).1,hd,ABR]
 ·rw[AAP hc];unfold QE at hc ⊢;cases h1:P2 a with
  |false=>rfl
  |true=>cases h2:P8 k 1 50 with
   |false=>rfl
   |true=>cases h3:P8 m 1 1000 with
    |false=>rfl
    |true=>
     rw[h1,h2,h3]at hc;simp only[ACD,ABR]at hc ⊢
     have uR:R5 a Pj<0:=by refine AAl λq=>hc ?_;rw[AAQ q]
     have hd:decide (R5 a Pj>=0)=false:=by rw[AAn];clear hn;omega
     simp only[ABZ,ABS,ABQ,(Ro a hl Pj n hn).1,hd,AAP uR]
theorem dG(a:It)(hs:Pq a)(Pj k m d:Int)(hd : -1000<=d/\d<=1000)(n:Nat)(hn:Pa<=n):XW n a Pj k m d=some (if QE a Pj k m≠0 then(a,QE a Pj k m)else
  if(∃z,z∈(a.getD (R5 a Pj).toNat (0,0,[])).2.2/\z.1=k)/\0<=(SZ a Pj k).2.2+d/\(SZ a Pj k).2.2+d<=(SZ a Pj k).2.1 then(bR a Pj k d,0)else(a,3)):=by
 unfold XW;rw[QJ a hs n hn,YN a hs Pj k m n hn];simp only[ABQ];by_cases hc:QE a Pj k m=0
 ·rw[AAQ (by rw[hc];simp),AAQ (by rw[hc];simp)];obtain⟨h,hk,hm,i,hi,e1,e2,e3⟩:=Qt hc;have wc:=(h.2.2 _ (ABT hi)).2.2;obtain⟨b1,b2,b3,b4,b5⟩:=UP wc k;dsimp only;have hgD:a.getD (R5 a Pj).toNat (0,0,[])=a[i]:=by rw[e1,ABU,List.getD,AAI hi];rfl
  rw[hgD,e3,e1];have uO:Oi a (i:Int)=true:=PX hi;have hg:a[(i:Int).toNat]?=some a[i]:=by simp[hi]
  obtain⟨j,b,s1,s2,s3⟩:=ah wc a[i].1 a[i].2.1 k n hn;rw[show((0:Int) != 0)=false from rfl];simp only[ABS,uO,ABR,hg,ABQ,s1];cases b with
  |false=>
   obtain⟨q1,q2⟩:=s3 rfl;rw[AAQ (λhh=>by obtain⟨⟨z,z1,z2⟩,_⟩:=hh;exact q1 z z1 z2)];rfl
  |true=>
   obtain⟨hj,q1,q2⟩:=s2 rfl;have hjn:Oi a[i].2.2 (j:Int)=true:=PX hj;have hjg:a[i].2.2[(j:Int).toNat]?=some a[i].2.2[j]:=by simp[hj]
   rw[q2]at b1 b2 b3 b4 ⊢;have hw:PV (a[i].2.2[j].2.2+d)=a[i].2.2[j].2.2+d:=PY ADI ADI;simp only[ABZ,ABS,hjn,ABR,hjg,ABQ,hw,Vt,Qh];have hiff:P8 (a[i].2.2[j].2.2+d) 0 a[i].2.2[j].2.1=true↔0<=a[i].2.2[j].2.2+d/\a[i].2.2[j].2.2+d<=a[i].2.2[j].2.1:=by unfold P8;simp
   cases hb:P8 (a[i].2.2[j].2.2+d) 0 a[i].2.2[j].2.1 with
   |false=>
    rw[AAQ (λhh=>by rw[hiff.2 hh.2]at hb;cases hb)];rfl
   |true=>
    rw[AAP ⟨⟨_,ABT hj,q1⟩,hiff.1 hb⟩];simp only[ABZ,ABS];congr 2;unfold bR;rw[<-e2,<-ZC h hi];apply ABs;intro u;rw[ABc,ABc,ABU]
    have key:a[i].2.2.modify (j:Int).toNat (λy=>(y.1,y.2.1,a[i].2.2[j].2.2+d))=Yd a[i].2.2 k λy=>(y.1,y.2.1,y.2.2+d):=by
     rw[<-q1,<-mF wc hj,ABU];apply ABs;intro v;rw[ABc,ABc];by_cases e':j=v
     ·subst e';simp[hj]
     ·simp[e']
    by_cases e:i=u
    ·subst e;rw[AAI hi];simp only[if_true,Option.map_eq_map,AA0,key]
    ·simp[e]
 grind
theorem dD(a:It)(hs:Pq a)(Pj k m:Int)(n:Nat)(hn:Pa<=n):Zz n a Pj k m=some (Yr a Pj k m):=by
 unfold Zz Yr;by_cases hc:QE a Pj k m=0
 ·obtain⟨h,hk,hm,i,hi,e1,e2,e3⟩:=Qt hc;rw[dG a hs Pj k m m J n hn];simp only[hc,ne_eq,not_true_eq_false,if_false,ABQ];have wc:=(h.2.2 _ (ABT hi)).2.2;obtain⟨b1,b2,b3,b4,b5⟩:=UP wc k;have hgD:a.getD (R5 a Pj).toNat (0,0,[])=a[i]:=by rw[e1,ABU,List.getD,AAI hi];rfl
  rw[hgD,e3];by_cases uR:(Pl a[i].2.2 k).2.1-(Pl a[i].2.2 k).2.2<m
  ·grind
  ·rw[AAQ uR,AAP];refine⟨?_,ADI,ADI⟩;refine AAl λq=>?_;rw[UH λx hx e=>q ⟨x,hx,e⟩]at uR;grind
 ·have hk:XW n a Pj k m m=some (a,QE a Pj k m):=by unfold XW;rw[QJ a hs n hn,YN a hs Pj k m n hn,AAP hc];simp only[ABQ,show(QE a Pj k m != 0)=true by simpa using hc,ABR]
  grind
def XR(f:It->PQ->It×Int):AAD->It->Option It
 | [],s=>some s
 |p::ps,s=>if(f s p).2≠0 then none else XR f ps (f s p).1
def SE(f:It->PQ->It×Int)(a:It)(ps:AAD):It×Bool:=match XR f ps a with
 |some s=>(s,true)
 |none=>(a,false)
def Vd(s:It)(p:PQ):It×Int:=Yr s p.1 p.2.1 p.2.2
def Z9(s:It)(p:PQ):It×Int:=eU s p.1 p.2.1 p.2.2
theorem fQ(h:Pq a)(Pj k m:Int):Pq (Yr a Pj k m).1:=by
 by_cases hc:QE a Pj k m=0
 ·exact(fP (Qt hc).1 Pj k m).sm
 ·unfold Yr;grind
theorem mB(h:Pq a)(Pj k m:Int):Pq (eU a Pj k m).1:=by
 by_cases hc:QE a Pj k m=0
 ·exact(ia (Qt hc).1 Pj k m).sm
 ·unfold eU;grind
theorem aZ{f:It->PQ->It×Int}{P:It->Prop}(hf:∀s p,P s->P (f s p).1):∀(ps:AAD)(s t:It),P s->XR f ps s=some t->P t
 | [],s,t,h,e=>by injection e with e;grind
 |p::ps,s,t,h,e=>by
  unfold XR at e;split at e
  ·cases e
  ·exact aZ hf ps _ t (hf s p h) e
theorem iK{f:It->PQ->It×Int}{P:It->Prop}(hf:∀s p,P s->P (f s p).1)(h:P a)(ps:AAD):P (SE f a ps).1:=by
 unfold SE;cases e:XR f ps a with
 |none=>exact h
 |some t=>exact aZ hf ps a t h e
theorem Yf(L:Int×It×It->Option ((Int×It×It)⊕((Int×It×It)⊕(It×Bool))))(f:It->PQ->It×Int)(a:It)(ps:AAD)(hf:∀s p,Pq s->Pq (f s p).1)(ha:Pq a)
  (hL:∀(i:Nat)(s:It)(hi:i<ps.length),Pq s->L ((i:Int),[],s)=some (bif(f s ps[i]).2 != 0 then .inr (.inr (a,false))else .inl (((i+1:Nat):Int),[],(f s ps[i]).1)))
  (he:∀s,L ((ps.length:Int),[],s)=some (.inr (.inl ((ps.length:Int),[],s)))) (n:Nat) (hn:ps.length<n):
  iter n L (0,[],a)=some (match XR f ps a with|some t=>.inl ((ps.length:Int),[],t)|none=>.inr (a,false)):=by
 refine Ps (σ:=It) L (λi s=>((i:Int),[],s)) ps (λl s=>match XR f l s with|some t=>.inl ((ps.length:Int),[],t)|none=>.inr (a,false)) (λi s=>Pq s)
  (λs _=>by rw[he];rfl) (λi p l s h1 h2 h3 h4 h5=>?_) n hn a ha
 have hp:ps[i]=p:=by rw[AAI h1]at h2;exact Option.some.inj h2
 rw[hL i s h1 h5,hp];cases hc:((f s p).2 != 0)with
 |true=>
  right;unfold XR;grind
 |false=>
  left;refine⟨(f s p).1,rfl,hf s p h5,?_⟩
  have e:XR f (p::l) s=XR f l (f s p).1:=by rw[XR,AAQ ADc]
  grind
theorem aG(a:It)(ha:Pq a)(ps:AAD)(hp:ps.length<=1048576)(n:Nat)(hn:Pa<=n):V5 n a ps=some (SE Vd a ps):=by
 have h1:=Yf (QK n a ps 1) Vd a ps (λs p hs=>fQ hs _ _ _) ha (λi s hi hs=>by
  have hd:decide ((i:Int)<(ps.length:Int))=true:=ADR
  simp only[QK,hd,ABR,PS hi,ABQ,dQ s hs _ _ _ n hn,ABr,Pg a ha n hn,PR hi (show ps.length<=9223372036854775807 by clear hn;omega)];show(bif(Vd s ps[i]).2 != 0 then _ else _)=_;cases((Vd s ps[i]).2 != 0)<;>rfl) (λs=>by simp[QK]) n ADF
 unfold V5 R6;rw[Pg a ha n hn,ABQ,h1,ABQ];unfold SE;grind
theorem Yp(a:It)(ha:Pq a)(ps:AAD)(hp:ps.length<=1048576)(n:Nat)(hn:Pa<=n):T4 n a ps=some (SE Z9 a ps):=by
 have h1:=Yf (QK n a ps 2) Z9 a ps (λs p hs=>mB hs _ _ _) ha (λi s hi hs=>by
  have hd:decide ((i:Int)<(ps.length:Int))=true:=ADR
  simp only[QK,hd,ABR,ABS,PS hi,ABQ,aH s hs _ _ _ n hn,ABr,show((2:Int)==1)=false from rfl,Pg a ha n hn,PR hi (show ps.length<=9223372036854775807 by clear hn;omega)];show(bif(Z9 s ps[i]).2 != 0 then _ else _)=_;cases((Z9 s ps[i]).2 != 0)<;>rfl) (λs=>by simp[QK]) n ADF
 unfold T4 R6;rw[Pg a ha n hn,ABQ,h1,ABQ];unfold SE;grind
theorem XU(a:It)(ha:Pq a)(ps:AAD)(hp:ps.length<=1048576)(n:Nat)(hn:Pa<=n):Vw n a ps=some (SE Vd a ps):=by
 have h1:=Yf (Sf n a ps) Vd a ps (λs p hs=>fQ hs _ _ _) ha (λi s hi hs=>by
  have hd:decide ((i:Int)<(ps.length:Int))=true:=ADR
  simp only[Sf,hd,ABR,PS hi,ABQ,dD s hs _ _ _ n hn,QJ a ha n hn,PR hi (show ps.length<=9223372036854775807 by clear hn;omega)];show(bif(Vd s ps[i]).2 != 0 then _ else _)=_;cases((Vd s ps[i]).2 != 0)<;>rfl) (λs=>by simp[Sf]) n ADF
 unfold Vw YM;rw[QJ a ha n hn,ABQ,h1,ABQ];unfold SE;grind
def XZ(a:It)(Pj:Int):Option Pb:=a.find? λp=>p.1==Pj
def Wt(l:ADB):Prop:=l.Pairwise (λa b=>a.1<b.1)/\(∀x∈l,1<=x.1/\x.1<=50/\1<=x.2/\x.2<=1000)/\l.length<=6
theorem Wt.ok{l:ADB}(h:Wt l)(n:Nat)(hn:Pa<=n):Qw n l=some true:=by
 obtain⟨h1,h2,h3⟩:=h
 have:=Qp (QM l) (λi=>(i:Int)) l.length (λ_=>true) (λi hi=>by
  have hp:(bif decide ((i:Int)>0)then(Iy l (PV ((i:Int)-1))).bind (λy=>some (decide (y.1>=l[i].1)))else some false)=some (!Qn (·.1) l i l[i]):=XJ (·.1) l l[i] i hi J some;obtain⟨a1,a2,a3,a4⟩:=h2 _ (ABT hi);rw[YV h1 (λx y h=>h) i hi]at hp;simp only[QM,PS hi,ABQ,Qh,PR hi J,hp];rw[show decide ((i:Int)<(l.length:Int))=true by simpa using hi,show P8 l[i].1 1 50=true by simp[P8];omega,show P8 l[i].2 1 1000=true by simp[P8];omega];rfl) (by simp[QM]) n ADF
 unfold Qw;grind
def Rf(k:Int):AAD->Int
 | []=>0
 |p::r=>(bif p.2.1==k then p.2.2 else 0)+Rf k r
theorem Zq(k:Int):∀(x y:AAD),Rf k (x++y)=Rf k x+Rf k y
 | [],y=>by simp[Rf]
 |p::x,y=>by simp only[AA8,Rf,Zq k x y];omega
theorem WN(k:Int):∀(x:AAD),(∀p∈x,1<=p.2.2)->0<=Rf k x
 | [],_=>by simp[Rf]
 |p::x,h=>by have h1:=WN k x λq hq=>h q (AAM _ hq);have h2:=h p AAk;simp only[Rf];grind
theorem cj(k:Int):∀(x:AAD),(∀p∈x,p.2.1≠k)->Rf k x=0
 | [],_=>rfl
 |p::x,h=>by
  have h1:=cj k x λq hq=>h q (AAM _ hq);have h2:(p.2.1==k)=false:=by simpa using h p AAk
  simp only[Rf,h1,h2,ABS];rfl
def WM:AAD->Int
 | []=>0
 |p::r=>p.2.2+WM r
def QB(m f:Int):Int:=bif decide (m<f)then m else f
def Pp(pid:Int)(fr:Int->Int):ADB->AAD
 | []=>[]
 |y::r=>bif decide (QB y.2 (fr y.1)>0)then(pid,y.1,QB y.2 (fr y.1))::Pp pid fr r else Pp pid fr r
theorem Yy(pid:Int)(fr:Int->Int):∀l,(Pp pid fr l).length<=l.length
 | []=>by simp[Pp]
 |y::r=>by have:=Yy pid fr r;simp only[Pp];grind
theorem U8(m f:Int):QB m f<=m/\QB m f<=f:=by unfold QB;grind
theorem WV(pid:Int)(fr:Int->Int):∀l,∀p∈Pp pid fr l,p.1=pid/\1<=p.2.2/\∃y∈l,y.1=p.2.1/\p.2.2<=y.2
 | [],p,h=>by cases h
 |y::r,p,h=>by
  simp only[Pp]at h;have up:=λh=>let ⟨a,b,z,hz,h1,h2⟩:=WV pid fr r p h;(⟨a,b,z,AAM _ hz,h1,h2⟩:p.1=pid/\1<=p.2.2/\∃w∈y::r,w.1=p.2.1/\p.2.2<=w.2)
  by_cases hg:QB y.2 (fr y.1)>0
  ·rw[show decide (QB y.2 (fr y.1)>0)=true by simpa using hg,ABR]at h;rcases AAf.1 h with h|h
   ·subst h;exact⟨rfl,by show 1<=QB y.2 (fr y.1);omega,y,AAk,rfl,(U8 _ _).1⟩
   ·exact up h
  grind
theorem Yz(pid:Int)(fr:Int->Int):∀(l:ADB),l.Pairwise (λa b=>a.1<b.1)->(∀y∈l,0<=y.2)->∀y∈l,Rf y.1 (Pp pid fr l)<=y.2
 | [],_,_,y,hy=>by cases hy
 |z::r,hp,h0,y,hy=>by
  obtain⟨h1,h2⟩:=ABf.1 hp;have hz0:=h0 z AAk;have hle:=(U8 z.2 (fr z.1)).1;simp only[Pp];rcases AAf.1 hy with e|hy
  ·subst e
   have hn:Rf y.1 (Pp pid fr r)=0:=cj _ _ λp hp'=>by obtain⟨_,_,w,hw,e,_⟩:=WV pid fr r p hp';grind
   cases decide (QB y.2 (fr y.1)>0)with
   |true=>simp only[ABR,Rf,ABr,hn];omega
   |false=>grind
  ·have ih:=Yz pid fr r h2 (λw hw=>h0 w (AAM _ hw)) y hy;have uV:(z.1==y.1)=false:=by have:=h1 y hy;rw[<-ABm];simp;omega
   cases decide (QB z.2 (fr z.1)>0)with
   |true=>simp only[ABR,Rf,uV,ABS];omega
   |false=>grind
def Pe(p:Pb)(k:Int):Int:=(Pl p.2.2 k).2.1-(Pl p.2.2 k).2.2
theorem Yg(p:Pb)(h:Vk p.2.2)(k:Int):0<=Pe p k/\Pe p k<=1000:=by
 unfold Pe Pl;cases hf:p.2.2.find? (λx=>x.1==k)with
 |none=>simp
 |some x=>
  have:=h.2.1 x (ABn hf);grind
def aV(l:ADB):Prop:=l.Pairwise (λa b=>a.1<b.1)/\(∀y∈l,0<=y.2/\y.2<=1000)/\l.length<=6
theorem cB(p:Pb)(h:Vk p.2.2)(l:ADB)(hl:aV l)(n:Nat)(hn:Pa<=n):Ur n p.1 p.2.1 p.2.2 l=some (Pp p.1 (Pe p) l,WM (Pp p.1 (Pe p) l)):=by
 have h6:=hl.2.2
 have hc:=Ps (σ:=AAD×Int) (T9 n p.1 p.2.1 p.2.2 l) (λi s=>(s.1,s.2,(i:Int))) l (λr s=>(s.1++Pp p.1 (Pe p) r,s.2+WM (Pp p.1 (Pe p) r),(l.length:Int)))
  (λi s=>s.1.length<=i/\0<=s.2/\s.2<=1000*(i:Int)/\i<=6)
  (λs hs=>by simp[T9,Pp,WM])
  (λi y r s h1 h2 h3 h4 h5=>by
   left;have hy:l[i]=y:=by rw[AAI h1]at h2;exact Option.some.inj h2
   obtain⟨out,sum⟩:=s;obtain⟨q1,q2,q3,q4⟩:=h5;dsimp only at q1 q2 q3;have hy2:=hl.2.1 y (by rw[<-hy];exact ABT h1);have vV:=Yg p h y.1;unfold T9;dsimp only;rw[show decide ((i:Int)<(l.length:Int))=true by simpa using h1,ABR,PS h1,hy,PR h1 J];simp only[ABQ];rw[ab p (by have:=h.2.2;omega) y.1 n hn,ABQ]
   have hw:PV ((Pl p.2.2 y.1).2.1-(Pl p.2.2 y.1).2.2)=Pe p y.1:=by unfold Pe at vV ⊢;rw[PY J J]
   rw[hw];have vx:(bif decide (y.2<Pe p y.1)then some y.2 else some (Pe p y.1))=some (QB y.2 (Pe p y.1)):=jJ _ _ _;rw[vx,ABQ];have hle:=U8 y.2 (Pe p y.1);by_cases hg:QB y.2 (Pe p y.1)>0
   ·rw[show decide (QB y.2 (Pe p y.1)>0)=true by simpa using hg,ABR,show decide (out.length+[(p.1,y.1,QB y.2 (Pe p y.1))].length<=E8)=true from TG J,ABR,ABQ];rw[PY (n:=sum+QB y.2 (Pe p y.1)) J J];refine⟨(out++[(p.1,y.1,QB y.2 (Pe p y.1))],sum+QB y.2 (Pe p y.1)),rfl,⟨by show(out++[_]).length<=i+1;rw[ABA,ABX];omega,by show 0<=sum+QB y.2 (Pe p y.1);omega,by show sum+QB y.2 (Pe p y.1)<=1000*((i+1:Nat):Int);omega,J⟩,?_⟩;simp only[Pp];rw[show decide (QB y.2 (Pe p y.1)>0)=true by simpa using hg,ABR];simp only[WM,ABi,AB3,ACL]
   ·rw[show decide (QB y.2 (Pe p y.1)>0)=false by simpa using hg,ABS,ABQ];refine⟨(out,sum),rfl,⟨by show out.length<=i+1;omega,q2,by show sum<=1000*((i+1:Nat):Int);omega,J⟩,?_⟩;simp only[Pp];rw[show decide (QB y.2 (Pe p y.1)>0)=false by simpa using hg,ABS])
  n ADF (([]:AAD),(0:Int)) ⟨OF,OF,OF,J⟩
 unfold Ur;grind
def bG(p:PQ)(l:ADB):ADB:=l.map λy=>bif y.1==p.2.1 then(y.1,PV (y.2-p.2.2))else y
def ZX{β:Type}(f:β->β)(l:List β)(i:Nat):List β:=(l.take i).map f++l.drop i
theorem eQ(f:β->β)(l:List β)(m k:Nat):(ZX f l m)[k]?=(l[k]?).map λa=>if k<m then f a else a:=by unfold ZX;grind
theorem fi(f:β->β)(l:List β)(i:Nat):(ZX f l i).length=l.length:=by unfold ZX;simp;omega
theorem fj(f g:β->β)(l:List β)(i:Nat)(hi:i<l.length)(hg:g l[i]=f l[i]):(ZX f l i).modify i g=ZX f l (i+1):=by
 apply ABs;intro j;rw[ABc,eQ,eQ];by_cases hj:j<l.length
 all_goals grind
theorem jX(f:β->β)(l:List β)(i:Nat)(hi:i<l.length)(hf:f l[i]=l[i]):ZX f l i=ZX f l (i+1):=by have:=fj f id l i hi hf.symm;rw[<-this];apply ABs;grind
theorem kW(f:β->β)(l:List β):ZX f l l.length=l.map f:=by unfold ZX;simp
theorem lA(bt:AAD)(sm:Int)(z:ADB)(k:Nat)(hk:k<bt.length)(l:ADB)(hl:l.length<=6)(n:Nat)(hn:Pa<=n):
  iter n (Tl (bt,sm) ((k:Int),z)) (0,l)=some ((l.length:Int),bG bt[k] l):=by
 have:=P0 (Tl (bt,sm) ((k:Int),z)) (λi=>((i:Int),ZX (λy=>bif y.1==bt[k].2.1 then(y.1,PV (y.2-bt[k].2.2))else y) l i)) l.length ((l.length:Int),bG bt[k] l) (λi hi=>by
  have hg:=eQ (λy=>bif y.1==bt[k].2.1 then(y.1,PV (y.2-bt[k].2.2))else y) l i i;rw[AAI hi]at hg;simp only[AA0,Nat.lt_irrefl,if_false]at hg;have hlen:=fi (λy=>bif y.1==bt[k].2.1 then(y.1,PV (y.2-bt[k].2.2))else y) l i;unfold Tl;dsimp only;rw[hlen,show decide ((i:Int)<(l.length:Int))=true by simpa using hi,ABR];have uO:Oi (ZX (λy=>bif y.1==bt[k].2.1 then(y.1,PV (y.2-bt[k].2.2))else y) l i) (i:Int)=true:=PX (by rw[hlen];exact hi);have hbt:bt[(k:Int).toNat]?=some bt[k]:=by simp[hk]
  simp only[uO,PX hk,ABR,ABU,hg,ABQ,AAI hk];rw[PR hi J];cases hq:(l[i].1==bt[k].2.1)with
  |true=>
   rw[ABR,ABQ,fj _ _ l i hi (by rw[hq];rfl)]
  |false=>
   rw[ABS,ABQ,<-jX _ l i hi (by rw[hq];rfl)]) (by
  unfold Tl;dsimp only;rw[fi,kW];simp[bG]) n ADF
 have h0:ZX (λy=>bif y.1==bt[k].2.1 then(y.1,PV (y.2-bt[k].2.2))else y) l 0=l:=by unfold ZX;simp
 grind
theorem lK(p:PQ)(l:ADB):(bG p l).length=l.length:=by unfold bG;simp
theorem kz(bt:AAD)(hbt:bt.length<=6)(sm:Int)(l:ADB)(hl:l.length<=6)(n:Nat)(hn:Pa<=n):
  iter n (Tk n (bt,sm)) (0,l)=some ((bt.length:Int),bt.foldl (λl p=>bG p l) l):=by
 have:=Ps (σ:=ADB) (Tk n (bt,sm)) (λi s=>((i:Int),s)) bt (λr s=>((bt.length:Int),r.foldl (λl p=>bG p l) s)) (λi s=>s.length<=6)
  (λs hs=>by unfold Tk;simp) (λi p r s h1 h2 h3 h4 h5=>by
   left;have hp:bt[i]=p:=by rw[AAI h1]at h2;exact Option.some.inj h2
   refine⟨bG p s,?_,by rw[lK];exact h5,rfl⟩;unfold Tk;dsimp only;rw[show decide ((i:Int)<(bt.length:Int))=true by grind,ABR,lA bt sm s i h1 s h5 n hn,ABQ,PR h1 J,hp])
  n ADF l hl
 exact this
theorem iq:∀(bt:AAD)(l:ADB),(∀p∈bt,1<=p.2.2)->(∀y∈l,Rf y.1 bt<=y.2/\y.2<=1000)->bt.foldl (λl p=>bG p l) l=l.map λy=>(y.1,y.2-Rf y.1 bt)
 | [],l,_,_=>by simp[Rf]
 |p::bt,l,h1,h2=>by
  have hp:=h1 p AAk;have hr:=λq hq=>h1 q (AAM p hq)
  have e:bG p l=l.map λy=>(y.1,y.2-bif p.2.1==y.1 then p.2.2 else 0):=by
   unfold bG;refine ABy λy hy=>?_;obtain⟨q1,q2⟩:=h2 y hy;have xg:=WN y.1 bt hr;simp only[Rf]at q1;have hc:(y.1==p.2.1)=(p.2.1==y.1):=by rw[ABx];simp;exact eq_comm
   rw[hc];cases hq:(p.2.1==y.1)with
   |true=>
    rw[hq]at q1;simp only[ABR]at q1 ⊢;rw[PY J J]
   |false=>simp
  rw[List.foldl_cons,e,iq bt _ hr,List.map_map]
  ·refine ABy λy hy=>?_;simp only[Function.comp_apply,Rf];grind
  ·intro y hy;obtain⟨z,hz,rfl⟩:=AAs.1 hy;obtain⟨q1,q2⟩:=h2 z hz;simp only[Rf]at q1;grind
def Ut:ADB->Int
 | []=>0
 |y::r=>y.2+Ut r
theorem aQ:∀(l:ADB),(∀y∈l,0<=y.2)->0<=Ut l/\(Ut l=0->∀y∈l,y.2=0)
 | [],_=>⟨by simp[Ut],λ_ y hy=>by cases hy⟩
 |z::r,h=>by obtain⟨h1,h2⟩:=aQ r λy hy=>h y (AAM _ hy);have hz:=h z AAk;refine⟨by simp only[Ut];omega,λe y hy=>?_⟩;simp only[Ut]at e;grind
theorem ky(x:AAD×Bool×AAD×AAD×ADB×ADT)(hl:aV x.2.2.2.2.1)(n:Nat)(hn:Pa<=n):iter n (Tj x) (0,0)=some (Ut x.2.2.2.2.1,(x.2.2.2.2.1.length:Int)):=by
 obtain⟨x1,x2,x3,x4,l,x6⟩:=x;dsimp only at hl ⊢;have h6:=hl.2.2
 have:=Ps (σ:=Int) (Tj (x1,x2,x3,x4,l,x6)) (λi s=>(s,(i:Int))) l (λr s=>(s+Ut r,(l.length:Int))) (λi s=>0<=s/\s<=1000*(i:Int)/\i<=6)
  (λs hs=>by unfold Tj;simp[Ut]) (λi y r s h1 h2 h3 h4 h5=>by
   left;have hy:l[i]=y:=by rw[AAI h1]at h2;exact Option.some.inj h2
   have hy2:=hl.2.1 y (by rw[<-hy];exact ABT h1);refine⟨s+y.2,?_,⟨J,J,J⟩,by simp only[Ut,ACL]⟩;unfold Tj;dsimp only;rw[show decide ((i:Int)<(l.length:Int))=true by simpa using h1,ABR,PX h1,ABR,ABU,h2,ABQ,PR h1 J,PY (n:=s+y.2) J J])
  n ADF 0 ⟨J,J,J⟩
 grind
def PG(o:AAD)(want:ADB):Prop:=(∀p∈o,1<=p.2.2/\∃y∈want,y.1=p.2.1)/\∀y∈want,Rf y.1 o=y.2
def Vn:ADT->Nat
 | []=>0
 |b::r=>(bif b then 0 else 1)+Vn r
theorem Y1:∀(u:ADT)(j:Nat),u[j]?=some false->Vn (DL u j true)+1=Vn u/\(DL u j true).length=u.length
 | [],j,h=>ADO
 |b::r,0,h=>by simp at h;subst h;simp[DL,Vn];omega
 |b::r,j+1,h=>by obtain⟨h1,h2⟩:=Y1 r j ADQ;simp only[DL,Vn,ABD,h2,and_true];omega
theorem Y0:∀n,Vn (List.replicate n false)=n
 |0=>rfl
 |n+1=>by rw[List.replicate_succ];simp only[Vn,Y0 n,ABS];omega
def leftOf(want:ADB)(o:AAD):ADB:=want.map λy=>(y.1,y.2-Rf y.1 o)
theorem fZ(h:Wt want)(h1:∀p∈o,1<=p.2.2)(h2:∀y∈want,Rf y.1 o<=y.2):aV (leftOf want o):=by
 refine⟨?_,λy hy=>?_,by unfold leftOf;rw[ABt];exact h.2.2⟩
 ·unfold leftOf;rw[ABh];exact h.1
 ·unfold leftOf at hy;obtain⟨z,hz,rfl⟩:=AAs.1 hy;have q1:=h2 z hz;have q2:=WN z.1 o h1;have q3:=h.2.1 z hz;omega
def tp:AAD->Int->Int->Int
 | [],_,_=>0
 |p::r,Pj,k=>(if p.1=Pj/\p.2.1=k then p.2.2 else 0)+tp r Pj k
theorem ZL:∀(x y:AAD)(Pj k:Int),tp (x++y) Pj k=tp x Pj k+tp y Pj k
 | [],y,Pj,k=>by simp[tp]
 |p::x,y,Pj,k=>by simp only[AA8,tp,ZL x y Pj k];omega
theorem ei:∀(x:AAD),(∀p∈x,1<=p.2.2)->∀Pj k,0<=tp x Pj k
 | [],_,_,_=>by simp[tp]
 |p::x,h,Pj,k=>by have h1:=ei x (λq hq=>h q (AAM _ hq)) Pj k;have h2:=h p AAk;simp only[tp];omega
theorem mi:∀(x:AAD)(Pj k:Int),(∀p∈x,p.1=Pj->p.2.1≠k)->tp x Pj k=0
 | [],_,_,_=>rfl
 |p::x,Pj,k,h=>by have h1:=mi x Pj k λq hq=>h q (AAM _ hq);have h2:=h p AAk;simp only[tp,h1];omega
def iy(f:Int->Int->Int)(p:Pb):Pb:=(p.1,p.2.1,p.2.2.map λy=>(y.1,y.2.1,y.2.2+f p.1 y.1))
def Pz(a:It)(f:Int->Int->Int):It:=a.map (iy f)
theorem YI(a:It)(f:Int->Int->Int)(h:∀Pj k,f Pj k=0):Pz a f=a:=by
 unfold Pz
 have:iy f=id:=funext λp=>by
  unfold iy;have:(λy:PQ=>(y.1,y.2.1,y.2.2+f p.1 y.1))=id:=funext λy=>by rw[h];simp
  rw[this,List.map_id];rfl
 rw[this,List.map_id]
theorem eJ(a:It){f g:Int->Int->Int}(h:∀Pj k,f Pj k=g Pj k):Pz a f=Pz a g:=by rw[show f=g from funext λp=>funext λk=>h p k]
theorem Y4(a:It)(f:Int->Int->Int):(Pz a f).length=a.length:=by unfold Pz;grind
theorem dm{f:Int->Int->Int}(h:i<(Pz a f).length):(Pz a f)[i]=iy f (a[i]'(by rw[Y4]at h;exact h)):=ABl (iy f)
theorem mM(p:PQ)(rs:AAD):tp (p::rs) p.1 p.2.1=p.2.2+tp rs p.1 p.2.1:=by show(if p.1=p.1/\p.2.1=p.2.1 then p.2.2 else 0)+tp rs p.1 p.2.1=_;omega
theorem ld(a:It)(f:Int->Int->Int)(Pj k d:Int):bR (Pz a f) Pj k d=Pz a λp s=>f p s+if p=Pj/\s=k then d else 0:=by
 unfold bR Xf Pz Yd;rw[List.map_map];refine ABy λp _=>?_;simp only[Function.comp,iy];by_cases hp:p.1=Pj
 ·rw[show(p.1==Pj)=true from AAT.2 hp,ABR,List.map_map];refine congrArg (λl=>(p.1,p.2.1,l)) (ABy λy _=>?_);simp only[Function.comp];by_cases hy:y.1=k
  ·rw[show(y.1==k)=true from AAT.2 hy,ABR,AAP ⟨hp,hy⟩,ACL]
  ·rw[show(y.1==k)=false from ABY.2 hy,ABS,AAQ (λh=>hy h.2),Int.add_zero]
 grind
theorem iD(l:AAD)(g:Int->Int)(k:Int):Pl (l.map λy=>(y.1,y.2.1,y.2.2+g y.1)) k=match l.find? (λx=>x.1==k)with
  |some x=>(x.1,x.2.1,x.2.2+g k)
  |none=>(k,0,0):=by
 unfold Pl;rw[List.find?_map];have:((λx:PQ=>x.1==k) ∘ λy:PQ=>(y.1,y.2.1,y.2.2+g y.1))=λx:PQ=>x.1==k:=rfl;grind
theorem jL(p:Pb)(f:Int->Int->Int)(k:Int)(h0:Pe p k=0->f p.1 k=0):Pe (iy f p) k=Pe p k-f p.1 k:=by unfold Pe at h0 ⊢;unfold iy;rw[iD p.2.2 (f p.1) k];unfold Pl at h0 ⊢;grind
theorem kN(h:Pf a)(hi:i<a.length){m:Int}(hk:1<=k/\k<=50)(hm:1<=m/\m<=1000):QE a a[i].1 k m=0/\SZ a a[i].1 k=Pl a[i].2.2 k:=by
 have h12:=h.1;rcases(Ro a J a[i].1 Pa (AAb _)).2 with⟨_,e⟩|⟨j,hj,e,e2⟩
 ·grind
 ·have eij:a[j]=a[i]:=Xa h hi (ABT hj) e2;refine⟨?_,?_⟩
  ·unfold QE P8;rw[P1.2 h,ABW hk.1,ABW hk.2,ABW hm.1,ABW hm.2,e];simp
  ·unfold SZ;grind
structure Fits(a:It)(ps:AAD):Prop where
 each:∀p∈ps,(1<=p.2.1/\p.2.1<=50)/\(1<=p.2.2/\p.2.2<=1000)/\∃i,∃h:i<a.length,a[i].1=p.1
 free:∀q∈a,∀k,tp ps q.1 k<=Pe q k
theorem Fits.pos(h:Fits a ps)(Pj k:Int):0<=tp ps Pj k:=ei ps (λp hp=>(h.each p hp).2.1.1) Pj k
theorem Fits.init{qs rs:AAD}(h:Fits a (qs++rs)):Fits a qs:=by have h1:=λp hp=>h.each p (AAU rs hp);refine⟨h1,λq hq k=>?_⟩;have h2:=h.free q hq k;have h3:=ei rs (λp hp=>(h.each p (AAR qs hp)).2.1.1) q.1 k;rw[ZL]at h2;omega
theorem Fits.to(h:Fits a ps)(ha:Pf a){q:Pb}(hq:q∈a)(k:Int):Pe (iy (tp ps) q) k=Pe q k-tp ps q.1 k:=by refine jL q (tp ps) k λe=>?_;have h1:=h.free q hq k;have h2:=h.pos q.1 k;omega
theorem eK{a:It}(ha:Pf a):∀(rs qs:AAD),Pf (Pz a (tp qs))->Fits a (qs++rs)->XR Vd rs (Pz a (tp qs))=some (Pz a (tp (qs++rs)))/\Pf (Pz a (tp (qs++rs)))
 | [],qs,hs,_=>by rw[AA1];exact⟨rfl,hs⟩
 |p::rs,qs,hs,hf=>by
  obtain⟨hk,hm,i,hi,e⟩:=hf.each p (AAR _ AAk);have hi2:i<(Pz a (tp qs)).length:=by rw[Y4];exact hi
  have vZ:=dm hi2;have hid:(Pz a (tp qs))[i].1=p.1:=by rw[vZ];exact e
  obtain⟨c1,c2⟩:=kN hs hi2 hk hm;rw[hid]at c1 c2;have hfree:=hf.free _ (ABT hi) p.2.1;have w9:=hf.init.to ha (ABT hi) p.2.1;have hrs:=ei rs (λq hq=>(hf.each q (AAR _ (AAM _ hq))).2.1.1) p.1 p.2.1;rw[ZL,e,mM]at hfree;rw[e]at w9;have vW:p.2.2<=Pe (iy (tp qs) a[i]) p.2.1:=J
  have hneg:¬((Pl (iy (tp qs) a[i]).2.2 p.2.1).2.1-(Pl (iy (tp qs) a[i]).2.2 p.2.1).2.2<p.2.2):=by unfold Pe at vW;omega
  have hh:Vd (Pz a (tp qs)) p=(Pz a (tp (qs++[p])),0):=by
   unfold Vd Yr;rw[c1,AAQ J,c2,vZ,AAQ hneg,ld];refine congrArg (λs=>(s,(0:Int))) (eJ a λPj k=>?_);rw[ZL];simp only[tp]
   have:(if Pj=p.1/\k=p.2.1 then p.2.2 else 0)=(if p.1=Pj/\p.2.1=k then p.2.2 else 0:Int):=by
    by_cases hc:p.1=Pj/\p.2.1=k
    ·rw[AAP hc,AAP ⟨hc.1.symm,hc.2.symm⟩]
    ·rw[AAQ hc,AAQ (λh=>hc ⟨h.1.symm,h.2.symm⟩)]
   rw[this];omega
  have hS:Pf (Pz a (tp (qs++[p]))):=by have:=fP hs p.1 p.2.1 p.2.2;unfold Vd at hh;rw[hh]at this;exact this
  have ih:=eK ha rs (qs++[p]) hS No;rw[ABi]at ih;rw[XR,hh,AAQ OF];exact ih
theorem dn(ha:Pf a)(hf:Fits a ps):SE Vd a ps=(Pz a (tp ps),true)/\Pf (Pz a (tp ps)):=by have h0:Pz a (tp [])=a:=YI a _ λ_ _=>rfl;have:=eK ha ps [] (by rw[h0];exact ha) hf;rw[h0,AAv]at this;unfold SE;grind
theorem dp(ha:Pf a){qs rs:AAD}(hs:Pf (Pz a (tp qs)))(hf:Fits a (qs++rs)):SE Vd (Pz a (tp qs)) rs=(Pz a (tp (qs++rs)),true)/\Pf (Pz a (tp (qs++rs))):=by have:=eK ha rs qs hs hf;unfold SE;grind
def Z3(l:ADB)(i:Nat):Bool:=match l[i]? with
 |some x=>P8 x.1 1 50&&P8 x.2 1 1000&&Qn (·.1) l i x
 |none=>false
def U4(l:ADB):Bool:=(List.range l.length).all (Z3 l)&&decide (l.length<=6)
theorem U5{l:ADB}:U4 l=true↔Wt l:=by
 constructor
 ·intro h;unfold U4 at h;simp only[AAJ,AAe,AAW,AAX]at h;obtain⟨vY,h6⟩:=h
  have hi:∀i (hi:i<l.length),(1<=l[i].1/\l[i].1<=50)/\(1<=l[i].2/\l[i].2<=1000)/\Qn (·.1) l i l[i]=true:=by intro i hi;have:=vY i hi;unfold Z3 P8 at this;rw[AAI hi]at this;simp only[AAJ,AAe]at this;exact⟨this.1.1,this.1.2,this.2⟩
  refine⟨Wf _ _ λi hi2=>(Wz (·.1) l (i+1) hi2).1 (hi (i+1) hi2).2.2 i rfl,λx hx=>?_,h6⟩;obtain⟨i,hi2,rfl⟩:=ABV.1 hx;grind
 ·rintro ⟨h1,h2,h3⟩
  unfold U4;simp only[AAJ,AAe,AAW,AAX];refine⟨λi hi=>?_,h3⟩;obtain⟨a1,a2,a3,a4⟩:=h2 _ (ABT hi);unfold Z3 P8;rw[AAI hi];simp only[AAJ,AAe];exact⟨⟨⟨a1,a2⟩,a3,a4⟩,YV h1 (λx y h=>h) i hi⟩
theorem VB(l:ADB)(hl:l.length<=1048576)(n:Nat)(hn:Pa<=n):Qw n l=some (U4 l):=by
 have:=Qp (QM l) (λi=>(i:Int)) l.length (Z3 l) (λi hi=>by
  have hp:(bif decide ((i:Int)>0)then(Iy l (PV ((i:Int)-1))).bind (λy=>some (decide (y.1>=l[i].1)))else some false)=some (!Qn (·.1) l i l[i]):=XJ (·.1) l l[i] i hi hl some;unfold Z3;rw[AAI hi];simp only[QM,PS hi,ABQ,Qh,PR hi (show l.length<=9223372036854775807 by clear hn;omega),hp];grind) (by simp[QM]) n ADF
 unfold Qw U4;rw[show((0:Nat):Int)=0 from rfl]at this;rw[this,ABQ];cases(List.range l.length).all (Z3 l)with
 |false=>rfl
 |true=>
  rw[ABR,ABp];show some (decide ((l.length:Int)<=6))=_;rw[show decide ((l.length:Int)<=6)=decide (l.length<=6) by rw[decide_eq_decide];clear hn;omega]
theorem Rh(l:ADB)(hl:l.length<=1048576)(n:Nat)(hn:Pa<=n):R9 n l=some (U4 l):=by rw[gf,VB l hl n hn]
theorem fh(m f:Int):M8 m f=QB m f:=by unfold M8 QB;grind
theorem bl(p:Pb)(h:Vk p.2.2)(l:ADB)(hl:aV l)(n:Nat)(hn:Pa<=n):Y8 n p.1 p.2.1 p.2.2 l=some (Pp p.1 (Pe p) l,WM (Pp p.1 (Pe p) l)):=by
 have h6:=hl.2.2
 have hc:=Ps (σ:=AAD×Int) (VJ n p.1 p.2.1 p.2.2 l) (λi s=>(s.1,s.2,(i:Int))) l (λr s=>(s.1++Pp p.1 (Pe p) r,s.2+WM (Pp p.1 (Pe p) r),(l.length:Int)))
  (λi s=>s.1.length<=i/\0<=s.2/\s.2<=1000*(i:Int)/\i<=6)
  (λs hs=>by simp[VJ,Pp,WM])
  (λi y r s h1 h2 h3 h4 h5=>by
   left;have hy:l[i]=y:=by rw[AAI h1]at h2;exact Option.some.inj h2
   obtain⟨out,sum⟩:=s;obtain⟨q1,q2,q3,q4⟩:=h5;dsimp only at q1 q2 q3;have hy2:=hl.2.1 y (by rw[<-hy];exact ABT h1);have vV:=Yg p h y.1;obtain⟨j,b,e,e1,e2⟩:=ah h p.1 p.2.1 y.1 n hn;have hle:=U8 y.2 (Pe p y.1);unfold VJ;dsimp only;rw[show decide ((i:Int)<(l.length:Int))=true by simpa using h1,ABR,PS h1,hy,PR h1 (show l.length<=9223372036854775807 by clear hn;omega)];simp only[ABQ];rw[e,ABQ];dsimp only;cases b with
   |false=>
    have hz:Pe p y.1=0:=by unfold Pe;rw[(e2 rfl).2];rfl
    have hng:¬QB y.2 (Pe p y.1)>0:=ADI
    refine⟨(out,sum),rfl,⟨by show out.length<=i+1;clear hn;omega,q2,by show sum<=1000*((i+1:Nat):Int);clear hn;omega,ADI⟩,?_⟩;simp only[Pp];rw[ABa hng,ABS]
   |true=>
    obtain⟨hj,_,ej⟩:=e1 rfl
    have hw:PV (p.2.2[j].2.1-p.2.2[j].2.2)=Pe p y.1:=by
     unfold Pe at vV ⊢;rw[ej]at vV ⊢;rw[PY ADI ADI]
    simp only[ABZ,ABS,PS hj,ABQ,hw,fh];by_cases hg:QB y.2 (Pe p y.1)>0
    ·rw[ABW hg,ABR,show decide (out.length+[(p.1,y.1,QB y.2 (Pe p y.1))].length<=E8)=true from TG ADI,ABR,ABQ];rw[PY (n:=sum+QB y.2 (Pe p y.1)) ADI ADI];refine⟨(out++[(p.1,y.1,QB y.2 (Pe p y.1))],sum+QB y.2 (Pe p y.1)),rfl,⟨by show(out++[_]).length<=i+1;rw[ABA,ABX];clear hn;omega,by show 0<=sum+QB y.2 (Pe p y.1);clear hn;omega,by show sum+QB y.2 (Pe p y.1)<=1000*((i+1:Nat):Int);clear hn;omega,ADI⟩,?_⟩;simp only[Pp];rw[ABW hg,ABR];simp only[WM,ABi,AB3,ACL]
    ·rw[ABa hg,ABS,ABQ];refine⟨(out,sum),rfl,⟨by show out.length<=i+1;clear hn;omega,q2,by show sum<=1000*((i+1:Nat):Int);clear hn;omega,ADI⟩,?_⟩;simp only[Pp];rw[ABa hg,ABS])
  n ADF (([]:AAD),(0:Int)) ⟨OF,OF,OF,J⟩
 unfold Y8;grind
def ZA(l:ADB)(bt:AAD):ADB:=(l.map λy=>(y.1,y.2-Rf y.1 bt)).filter λy=>decide (y.2>0)
theorem eL(bt:AAD)(hb:bt.length<=72)(h1:∀p∈bt,1<=p.2.2)(k m:Int)(ht:Rf k bt<=m)(hm:m<=1000)(n:Nat)(hn:Pa<=n):
  iter n (Uc bt) (0,k,m)=some ((bt.length:Int),k,m-Rf k bt):=by
 have hc:=Ps (σ:=Int) (Uc bt) (λi s=>((i:Int),k,s)) bt (λr s=>((bt.length:Int),k,s-Rf k r)) (λi s=>Rf k (bt.drop i)<=s/\s<=1000)
  (λs hs=>by unfold Uc;simp[Rf])
  (λi p r s g1 g2 g3 g4 g5=>by
   left;have hp:bt[i]=p:=by rw[AAI g1]at g2;exact Option.some.inj g2
   have xR:p∈bt:=by rw[<-hp];exact ABT g1
   have hpp:=h1 p xR;have hrp:=WN k r λq hq=>h1 q (List.mem_of_mem_drop (i:=i) No);obtain⟨g5,g6⟩:=g5;rw[g3]at g5;simp only[Rf]at g5;rw[g4];unfold Uc;dsimp only;rw[show decide ((i:Int)<(bt.length:Int))=true by grind,ABR,PS g1,hp,ABQ,PR g1 (show bt.length<=9223372036854775807 by omega)];simp only[Rf];cases hq:(p.2.1==k)with
   |true=>
    rw[hq,ABR]at g5;rw[ABR,ABQ,PY (n:=s-p.2.2) ADI ADI];grind
   |false=>
    rw[hq,ABS]at g5;rw[ABS,ABQ];grind)
  n ADF m ⟨ht,hm⟩
 exact hc
theorem dH(l:ADB)(hl:l.length<=6)(bt:AAD)(hb:bt.length<=72)(h1:∀p∈bt,1<=p.2.2)(ht:∀y∈l,Rf y.1 bt<=y.2/\y.2<=1000)(n:Nat)(hn:Pa<=n):Z1 n l bt=some (ZA l bt):=by
 have hc:=Ps (σ:=ADB) (Vy n l bt) (λi s=>(s,(i:Int))) l (λr s=>(s++ZA r bt,(l.length:Int))) (λi s=>s.length<=i)
  (λs hs=>by unfold Vy;simp[ZA])
  (λi y r s g1 g2 g3 g4 g5=>by
   left;have hy:l[i]=y:=by rw[AAI g1]at g2;exact Option.some.inj g2
   obtain⟨t1,t2⟩:=ht y (by rw[<-hy];exact ABT g1);unfold Vy;dsimp only;rw[show decide ((i:Int)<(l.length:Int))=true by rw[AAe];clear hn;omega,ABR,PS g1,hy,ABQ,PR g1 (show l.length<=9223372036854775807 by clear hn;omega),eL bt hb h1 y.1 y.2 t1 t2 n hn,ABQ];dsimp only;by_cases hg:y.2-Rf y.1 bt>0
   ·rw[ABW hg,ABR,show decide (s.length+[(y.1,y.2-Rf y.1 bt)].length<=E8)=true from TG ADI,ABR,ABQ];refine⟨s++[(y.1,y.2-Rf y.1 bt)],rfl,by rw[ABA,ABX];clear hn;omega,?_⟩;unfold ZA;rw[ABE,ABv,AAP (by rw[AAe];exact hg),ABi,AB3]
   ·rw[ABa hg,ABS,ABQ];refine⟨s,rfl,ADI,?_⟩;unfold ZA;rw[ABE,ABv,AAQ (by rw[AAe];exact hg)])
  n ADF [] OF
 unfold Z1;grind
theorem Yq(pid:Int)(fr:Int->Int):∀l:ADB,Pp pid fr (l.filter λy=>decide (y.2>0))=Pp pid fr l
 | []=>rfl
 |y::r=>by
  have ih:=Yq pid fr r;rw[ABv];by_cases h:y.2>0
  ·rw[AAP No];simp only[Pp,ih]
  ·rw[AAQ (by rw[AAe];exact h)];have:=(U8 y.2 (fr y.1)).1;simp only[Pp,ih];grind
theorem bV(pid:Int)(fr:Int->Int):∀l:ADB,(∀y∈l,0<y.2->fr y.1<=0)->Pp pid fr l=[]
 | [],_=>rfl
 |y::r,h=>by have ih:=bV pid fr r λz hz=>h z (AAM _ hz);have h1:=h y AAk;have h2:=U8 y.2 (fr y.1);simp only[Pp,ih];grind
theorem eI(pid:Int){f g:Int->Int}(h:∀k,f k=g k)(l:ADB):Pp pid f l=Pp pid g l:=by rw[show f=g from funext h]
theorem db(pid:Int)(fr:Int->Int)(vV:∀k,0<=fr k):∀(l:ADB),l.Pairwise (λa b=>a.1<b.1)->(∀y∈l,0<=y.2)->(∀k,tp (Pp pid fr l) pid k=Rf k (Pp pid fr l)/\Rf k (Pp pid fr l)<=fr k)/\∀y∈l,Rf y.1 (Pp pid fr l)=QB y.2 (fr y.1)
 | [],_,_=>⟨λk=>⟨rfl,by simp only[Pp,Rf];exact vV k⟩,λy hy=>by cases hy⟩
 |z::r,hp,h0=>by
  obtain⟨h1,h2⟩:=ABf.1 hp;obtain⟨i1,i2⟩:=db pid fr vV r h2 λy hy=>h0 y (AAM _ hy);have hz0:=h0 z AAk;have wJ:=vV z.1
  have yO:Rf z.1 (Pp pid fr r)=0:=cj _ _ λp hp'=>by obtain⟨_,_,w,hw,e,_⟩:=WV pid fr r p hp';have:=h1 w hw;omega
  have hlz:0<=QB z.2 (fr z.1):=by unfold QB;by_cases h:z.2<fr z.1<;>simp[h]<;>omega
  have hle:=U8 z.2 (fr z.1);simp only[Pp];by_cases hg:QB z.2 (fr z.1)>0
  ·rw[ABW hg,ABR];refine⟨λk=>?_,λy hy=>?_⟩
   ·obtain⟨j1,j2⟩:=i1 k;simp only[tp,Rf];by_cases hk:z.1=k
    ·subst hk;rw[AAP ⟨trivial,rfl⟩,ABr,ABR,j1];exact⟨rfl,J⟩
    ·rw[AAQ (λh=>hk h.2),show(z.1==k)=false from ABY.2 hk,ABS,j1];exact⟨rfl,J⟩
   ·simp only[Rf];rcases AAf.1 hy with e|hy
    ·subst e;rw[ABr,ABR,yO];omega
    ·have:=h1 y hy;rw[show(z.1==y.1)=false from ABY.2 J,ABS,i2 y hy];omega
  grind
theorem Wu{β:Type}(P:β->Bool)(f:β->β):∀l:List β,(∀y∈l,P y=false->P (f y)=false)->((l.filter P).map f).filter P=(l.map f).filter P
 | [],_=>rfl
 |y::r,h=>by have ih:=Wu P f r λz hz=>h z (AAM _ hz);grind
theorem jh{a:It}(ha:Pf a){work:It}(hwl:work.length=a.length)(hw:Pf work)(x1:AAD)(x2:Bool)(o x4:AAD){l left:ADB}(hl:aV l)(hleft:aV left){u:ADT}(hu:u.length=a.length)
  (hc:∀k (h:k<a.length) (h2:k<work.length),(u[k]?=some false->Pp work[k].1 (Pe work[k]) left=Pp a[k].1 (Pe a[k]) l)/\(u[k]?=some true->Pp work[k].1 (Pe work[k]) left=[])) (n:Nat) (hn:Pa<=n):
  ∃(best most:Int) (bt:AAD),iter n (VT n a (x1,x2,o,x4,l,u)) ((-1),0,0)=some (best,most,(a.length:Int))/\iter n (VH n (o,left,work)) (([]:AAD),0,0)=some (bt,most,(a.length:Int))/\
   (best = -1/\most=0/\bt=[]\/∃j,∃h:j<a.length,best=(j:Int)/\u[j]?=some false/\bt=Pp a[j].1 (Pe a[j]) l/\0<most):=by
 have h12:=ha.1
 obtain⟨z,w,hS,e1,e2⟩:=YO (f:=VT n a (x1,x2,o,x4,l,u)) (g:=VH n (o,left,work))
  (λs t=>∃k:Nat,k<=a.length/\s.2.2=(k:Int)/\t.2.2=(k:Int)/\t.2.1=s.2.1/\(s.1 = -1/\s.2.1=0/\t.1=[]\/∃j,∃h:j<a.length,s.1=(j:Int)/\u[j]?=some false/\t.1=Pp a[j].1 (Pe a[j]) l/\0<s.2.1))
  (λz w=>z.2.2=(a.length:Int)/\w.2.2=(a.length:Int)/\w.2.1=z.2.1/\(z.1 = -1/\z.2.1=0/\w.1=[]\/∃j,∃h:j<a.length,z.1=(j:Int)/\u[j]?=some false/\w.1=Pp a[j].1 (Pe a[j]) l/\0<z.2.1))
  (λs=>((a.length:Int)-s.2.2).toNat) (λs t hR=>by
   obtain⟨b,m,i⟩:=s;obtain⟨bt,m2,i2⟩:=t;obtain⟨k,hk,h1,h2,h3,h4⟩:=hR;dsimp only at h1 h2 h3 h4;subst h1;subst h2;subst h3
   have hm0:0<=m2:=by
    rcases h4 with⟨_,h,_⟩|⟨_,_,_,_,_,h⟩<;>(clear hn;omega)
   unfold VT VH;dsimp only;rw[hwl];by_cases uR:k<a.length
   ·right;have hkw:k<work.length:=ADI
    have wc:=(ha.2.2 _ (ABT uR)).2.2;have hst2:=(hw.2.2 _ (ABT hkw)).2.2;obtain⟨c1,c2⟩:=hc k uR hkw;rw[show decide ((k:Int)<(a.length:Int))=true by rw[AAe];clear hn;omega,ABR,ABR,PS uR,ABQ,cB a[k] wc l hl n hn,ABQ,PX ADI,ABR,ABU,AAI (show k<u.length by clear hn;omega),ABQ,PR uR (show a.length<=9223372036854775807 by clear hn;omega)];rw[PS hkw,ABQ,bl work[k] hst2 left hleft n hn,ABQ];rw[AAI (show k<u.length by clear hn;omega)]at c1 c2;have hμ:((a.length:Int)-((k+1:Nat):Int)).toNat<((a.length:Int)-(k:Int)).toNat:=ADI
    dsimp only;cases hui:u[k]'(by clear hn;omega)with
    |true=>
     rw[c2 (by rw[hui])];simp only[ABZ,ABS,ABQ];rw[show decide (WM []>m2)=false by rw[AAn];simp only[WM];clear hn;omega];exact⟨_,_,rfl,rfl,⟨k+1,uR,rfl,rfl,rfl,h4⟩,hμ⟩
    |false=>
     rw[c1 (by rw[hui])];simp only[ABq,ABR,ABQ];by_cases hg:WM (Pp a[k].1 (Pe a[k]) l)>m2
     ·rw[ABW hg];exact⟨_,_,rfl,rfl,⟨k+1,uR,rfl,rfl,rfl,.inr ⟨k,uR,rfl,by rw[AAI (show k<u.length by clear hn;omega),hui],rfl,by show 0<WM _;clear hn;omega⟩⟩,hμ⟩
     ·rw[ABa hg];exact⟨_,_,rfl,rfl,⟨k+1,uR,rfl,rfl,rfl,h4⟩,hμ⟩
   ·left;have:k=a.length:=ADI
    subst this;rw[show decide ((a.length:Int)<(a.length:Int))=false by rw[AAn];clear hn;omega];exact⟨_,_,rfl,rfl,rfl,rfl,rfl,h4⟩) n ((-1),0,0) (([]:AAD),0,0) ⟨0,Nat.zero_le _,rfl,rfl,rfl,.inl ⟨rfl,rfl,rfl⟩⟩ (by show((a.length:Int)-0).toNat<n;unfold Pa at hn;omega)
 grind
def RP(want:ADB)(o:AAD):ADB:=(leftOf want o).filter λy=>decide (y.2>0)
theorem jV(h:aV (leftOf want o)):aV (RP want o):=⟨h.1.filter _,λy hy=>h.2.1 y (ABj.1 hy).1,AA2 (ABo _ _) h.2.2⟩
structure PI(a:It)(want:ADB)(o:AAD)(u:ADT):Prop where
 ul:u.length=a.length
 ol:o.length+6*Vn u<=72
 ss:∀y∈want,Rf y.1 o<=y.2
 mem:∀p∈o,1<=p.2.2/\∃y∈want,y.1=p.2.1
 fits:Fits a o
 pt:Pf (Pz a (tp o))
 off:∀k (h:k<a.length),u[k]?=some false->∀s,tp o a[k].1 s=0
 on:∀k (h:k<a.length),u[k]?=some true->∀y∈want,Rf y.1 o<y.2->Pe a[k] y.1-tp o a[k].1 y.1<=0
theorem aj:∀(l:ADB),(∀y∈l,0<=y.2)->(Ut l=0↔(l.filter λy=>decide (y.2>0))=[])
 | [],_=>⟨λ_=>rfl,λ_=>rfl⟩
 |y::r,h=>by have ih:=aj r λz hz=>h z (AAM _ hz);have h1:=h y AAk;have h2:=(aQ r λz hz=>h z (AAM _ hz)).1;rw[ABv];simp only[Ut];grind
theorem cF(want:ADB)(o bt:AAD):(leftOf want o).map (λy=>(y.1,y.2-Rf y.1 bt))=leftOf want (o++bt):=by unfold leftOf;rw[List.map_map];refine ABy λy _=>?_;simp only[Function.comp,Zq,Int.sub_sub]
theorem PI.step(ha:Pf a)(hw:Wt want){u:ADT}(h:PI a want o u){j:Nat}(hj:j<a.length)(hu:u[j]?=some false):PI a want (o++Pp a[j].1 (Pe a[j]) (leftOf want o)) (DL u j true):=by
 have hL:=fZ hw (λp hp=>(h.mem p hp).1) h.ss;obtain⟨f1,f2⟩:=Y1 u j hu;have wc:=(ha.2.2 _ (ABT hj)).2.2;have zd:=Yy a[j].1 (Pe a[j]) (leftOf want o);have hll:(leftOf want o).length<=6:=hL.2.2;have hcm:=WV a[j].1 (Pe a[j]) (leftOf want o);have hct:=Yz a[j].1 (Pe a[j]) (leftOf want o) hL.1 (λy hy=>(hL.2.1 y hy).1);obtain⟨t1,t2⟩:=db a[j].1 (Pe a[j]) (λk=>(Yg a[j] wc k).1) (leftOf want o) hL.1 (λy hy=>(hL.2.1 y hy).1);generalize hbt:Pp a[j].1 (Pe a[j]) (leftOf want o)=bt at zd hcm hct t1 t2;have hlm:∀y∈want,(y.1,y.2-Rf y.1 o)∈leftOf want o:=λy hy=>by unfold leftOf;grind
 have hbm:∀p∈bt,1<=p.2.2/\p.2.2<=1000/\∃y∈want,y.1=p.2.1:=λp hp=>by obtain⟨_,q1,y,hy,q2,q3⟩:=hcm p hp;have:=(hL.2.1 y hy).2;unfold leftOf at hy;grind
 have hother:∀k (hk:k<a.length),k≠j->∀s,tp bt a[k].1 s=0:=λk hk uV s=>mi bt _ s λp hp e=>by
  have e2:a[j].1=a[k].1:=(hcm p hp).1.symm.trans e;exfalso;rcases ABd j k with hl|hl|hl
  ·have:=(ABL.1 ha.2.1 j k hj hk hl).1;omega
  ·omega
  ·have:=(ABL.1 ha.2.1 k j hk hj hl).1;omega
 have hF:Fits a (o++bt):=by
  refine⟨λp hp=>?_,λq hq k=>?_⟩
  ·rcases ABG.1 hp with hp|hp
   ·exact h.fits.each p hp
   ·obtain⟨q1,q2,y,hy,q3⟩:=hbm p hp;have hyb:=hw.2.1 y hy;grind
  ·obtain⟨i,hi,rfl⟩:=ABV.1 hq;rw[ZL];by_cases zN:i=j
   ·subst zN;rw[h.off i hi hu k,(t1 k).1];grind
   ·rw[hother i hi zN k];have:=h.fits.free _ (ABT hi) k;omega
 have hug:∀k,(DL u j true)[k]?=if j=k then some true else u[k]?:=λk=>by rw[QH,List.getElem?_set];grind
 refine⟨by rw[f2];exact h.ul,?_,λy hy=>?_,λp hp=>?_,hF,(dp ha h.pt hF).2,λk hk e s=>?_,λk hk e y hy uR=>?_⟩
 ·have:=h.ol;grind
 ·have:=hct _ (hlm y hy);dsimp only at this;rw[Zq];omega
 ·rcases ABG.1 hp with hp|hp
  ·exact h.mem p hp
  grind
 ·rw[hug]at e;by_cases hjk:j=k
  ·grind
  ·rw[AAQ hjk]at e;rw[ZL,h.off k hk e s,hother k hk (λq=>hjk q.symm) s];rfl
 ·rw[Zq]at uR;rw[hug]at e;rw[ZL];by_cases hjk:j=k
  ·subst hjk;have e3:=t2 _ (hlm y hy);dsimp only at e3;rw[h.off j hk hu y.1,(t1 y.1).1,e3];rw[e3]at uR;unfold QB at uR ⊢;grind
  ·rw[AAQ hjk]at e;have yT:=WN y.1 bt λp hp=>(hbm p hp).1;rw[hother k hk (λq=>hjk q.symm) y.1];have:=h.on k hk e y hy J;omega
abbrev p8:=AAD×Bool×AAD×AAD×ADB×ADT
abbrev pz:=AAD×ADB×It
def p7(a:It)(want:ADB)(x:p8)(y:pz):Prop:=x.2.2.2.1=[]/\x.2.2.2.2.1=leftOf want x.2.2.1/\PI a want x.2.2.1 x.2.2.2.2.2/\y=(x.2.2.1,RP want x.2.2.1,Pz a (tp x.2.2.1))
def sZ(a:It)(want:ADB)(z:p8⊕(AAD×Bool))(w:pz⊕(AAD×Bool)):Prop:=∃o b,z=.inr (o,b)/\(b=true->PG o want/\Fits a o/\o.length<=72)/\(b=false->o=[])/\(w=.inr (o,b)\/b=true/\∃l s,w=.inl (o,l,s))
theorem gq{y:Pk}(hy:y∈want)(o:AAD):(y.1,y.2-Rf y.1 o)∈leftOf want o:=by unfold leftOf;grind
theorem gr{bt:AAD}(hb:∀p∈bt,1<=p.2.2):ZA (RP want o) bt=RP want (o++bt):=by
 unfold ZA RP
 rw[Wu (λy:Pk=>decide (y.2>0)) (λy=>(y.1,y.2-Rf y.1 bt)) (leftOf want o) λy _ hp=>by
  have:=WN y.1 bt hb;grind,cF]
theorem PI.nZ(ha:Pf a){u:ADT}(hI:PI a want o u)(k:Nat)(hk:k<a.length)(hk2:k<(Pz a (tp o)).length):
  (u[k]?=some false->Pp (Pz a (tp o))[k].1 (Pe (Pz a (tp o))[k]) (RP want o)=Pp a[k].1 (Pe a[k]) (leftOf want o))/\(u[k]?=some true->Pp (Pz a (tp o))[k].1 (Pe (Pz a (tp o))[k]) (RP want o)=[]):=by
 rw[dm hk2];have w9:=hI.fits.to ha (ABT hk);refine⟨λe=>?_,λe=>?_⟩
 ·unfold RP;rw[Yq];exact eI _ (λs=>by rw[w9 s,hI.off k hk e s,Int.sub_zero]) _
 ·refine bV _ _ _ λy hy xg=>?_;unfold RP leftOf at hy;obtain⟨z,hz,rfl⟩:=AAs.1 (ABj.1 hy).1;show Pe (iy (tp o) a[k]) z.1<=0;rw[w9];exact hI.on k hk e z hz J
theorem gz(ha:Pf a)(hw:Wt want)(n:Nat)(hn:Pa<=n)(x:p8)(y:pz)(hR:p7 a want x y):
  (∃z w,VS n a x=some (.inr z)/\VG n y=some (.inr w)/\sZ a want z w)\/(∃x' y',VS n a x=some (.inl x')/\VG n y=some (.inl y')/\p7 a want x' y'/\Vn x'.2.2.2.2.2<Vn x.2.2.2.2.2):=by
 obtain⟨x1,x2,o,nn,l,u⟩:=x;obtain⟨g1,g2,hI,g4⟩:=hR;dsimp only at g1 g2 hI g4;subst g1;subst g2;subst g4;have hol:=hI.ol;have hL:=fZ hw (λp hp=>(hI.mem p hp).1) hI.ss;have hLP:=jV hL;have h0:=aj (leftOf want o) λy hy=>(hL.2.1 y hy).1;unfold VS VG;rw[ky (x1,x2,o,[],leftOf want o,u) hL n hn,ABQ];dsimp only;by_cases hz:Ut (leftOf want o)=0
 ·left;have hnil:RP want o=[]:=h0.1 hz;rw[hz,hnil];refine⟨_,_,rfl,rfl,o,true,rfl,λ_=>⟨⟨hI.mem,λy hy=>?_⟩,hI.fits,ADI⟩,(λe=>by cases e),.inr ⟨rfl,_,_,rfl⟩⟩;have:=(aQ (leftOf want o) λy hy=>(hL.2.1 y hy).1).2 hz _ (gq hy o);omega
 ·have uV:RP want o≠[]:=λe=>hz (h0.2 e)
  have xg:0<(RP want o).length:=by
   cases hq:RP want o with
   |nil=>grind
   |cons _ _=>simp
  rw[show(Ut (leftOf want o)==0)=false from ABY.2 hz,ABS,show decide (((RP want o).length:Int)>0)=true by grind,ABR];obtain⟨best,most,bt,e1,e2,hb⟩:=jh ha (Y4 a (tp o)) hI.pt x1 x2 o [] hL hLP hI.ul (λk hk hk2=>hI.nZ ha k hk hk2) n hn;rw[e1,e2,ABQ,ABQ];dsimp only;rcases hb with⟨rfl,rfl,rfl⟩|⟨j,hj,rfl,hu,hbt,hm⟩
  ·left;exact⟨_,_,rfl,rfl,[],false,rfl,(λe=>by cases e),λ_=>rfl,.inl rfl⟩
  ·right;have hju:j<u.length:=by rw[hI.ul];exact hj
   have wc:=(ha.2.2 _ (ABT hj)).2.2;have zd:=Yy a[j].1 (Pe a[j]) (leftOf want o);have hll:(leftOf want o).length<=6:=hL.2.2;have hcm:=WV a[j].1 (Pe a[j]) (leftOf want o);have hct:=Yz a[j].1 (Pe a[j]) (leftOf want o) hL.1 (λy hy=>(hL.2.1 y hy).1);have hstep:=hI.step ha hw hj hu;have hc:=cB a[j] wc (leftOf want o) hL n hn;have hpg:∀p∈bt,1<=p.2.2:=λp hp=>No
   have vS:=iq bt (leftOf want o) hpg (λy hy=>⟨No,(hL.2.1 y hy).2⟩);rw[<-hbt]at zd hct hstep hc;have hH:=dp ha hI.pt hstep.fits;have hHA:=XU (Pz a (tp o)) hI.pt.sm bt J n hn;rw[hH.1]at hHA
   have hle:=dH (RP want o) hLP.2.2 bt J hpg (λy hy=>by
    have hy2:=(ABj.1 hy).1;exact⟨hct y hy2,(hL.2.1 y hy2).2⟩) n hn
   rw[gr hpg]at hle;have uX:decide (o.length+bt.length<=E8)=true:=U9 J;have h4:=kz bt J (WM bt) (leftOf want o) hll n hn;rw[show decide ((j:Int)<0)=false by simp,ABS,PX hju,ABR,PS hj,ABQ,hc,ABQ];dsimp only;rw[show(most==0)=false from ABY.2 J,ABS,uX,ABR,ABR,h4,ABQ,hHA,ABQ,hle,ABQ,ABU];refine⟨_,_,rfl,rfl,⟨rfl,?_,hstep,rfl⟩,by have:=(Y1 u j hu).1;grind⟩;show bt.foldl (λl p=>bG p l) (leftOf want o)=leftOf want (o++bt);rw[vS,cF]
theorem PI.init(ha:Pf a)(hw:Wt want):PI a want [] (List.replicate a.length false):=by
 have h0:Pz a (tp [])=a:=YI a _ λ_ _=>rfl;have h12:=ha.1;refine⟨OF,by rw[Y0];simp;omega,λy hy=>?_,(λp hp=>by cases hp),⟨(λp hp=>by cases hp),λq hq k=>?_⟩,by rw[h0];exact ha,λk hk _ s=>rfl,λk hk e=>?_⟩
 ·have:=hw.2.1 y hy;simp only[Rf];omega
 ·exact(Yg q (ha.2.2 q hq).2.2 k).1
 grind
theorem fe(hw:Wt want):RP want []=want:=by
 have:leftOf want []=want:=by unfold leftOf;simp[Rf]
 unfold RP;rw[this];exact List.filter_eq_self.2 λy hy=>by have:=hw.2.1 y hy;grind
theorem gO(ha:Pf a)(hw:Wt want)(n:Nat)(hn:Pa<=n):∃o b,Sw n a want=some (o,b)/\UE n a want=some (o,b)/\(b=true->PG o want/\Fits a o/\o.length<=72)/\(b=false->o=[]):=by
 have h12:=ha.1;have h6:=hw.2.2;have h0:Pz a (tp [])=a:=YI a _ λ_ _=>rfl
 obtain⟨z,w,hS,e1,e2⟩:=YO (p7 a want) (sZ a want) (λx=>Vn x.2.2.2.2.2) (λx y hR=>gz ha hw n hn x y hR) n
  (([]:AAD),false,([]:AAD),([]:AAD),want,List.replicate a.length (false:Bool)) (([]:AAD),want,a)
  ⟨rfl,by show want=leftOf want [];unfold leftOf;simp[Rf],PI.init ha hw,by rw[fe hw,h0]⟩ (by show Vn (List.replicate a.length false)<n;rw[Y0];unfold Pa at hn;omega)
 obtain⟨o,b,rfl,q1,q2,q3⟩:=hS;refine⟨o,b,?_,?_,q1,q2⟩
 ·unfold Sw;rw[P9 a ha.sm n hn,ha.ok,hw.ok n hn];simp only[ABQ,ABZ,ABS];rw[show decide (([]:ADB).length+want.length<=E8)=true from U9 No,ABR];rw[show(decide (0<=(a.length:Int))&&decide ((a.length:Int)<=(E8:Int))&&decide True)=true by rw[show decide ((a.length:Int)<=(E8:Int))=true by rw[AAe];unfold E8;clear hn;omega];simp,ABR,AAv,ABU,e1,ABQ]
 ·unfold UE QU;rw[Qr a ha.sm n hn,ha.ok,Rh want ADI n hn,U5.2 hw,QJ a ha.sm n hn,U9 (show want.length<=1048576 by clear hn;omega)];grind
theorem jE(a:It)(hs:Pq a)(want:ADB)(hl:want.length<=1048576)(n:Nat)(hn:Pa<=n):∃o b,Sw n a want=some (o,b)/\UE n a want=some (o,b)/\(b=true->Pf a/\Wt want/\PG o want/\Fits a o/\o.length<=72)/\(b=false->o=[]):=by
 cases h1:P2 a with
 |false=>
  refine⟨[],false,?_,?_,(λe=>by cases e),λ_=>rfl⟩
  ·unfold Sw;rw[P9 a hs n hn,h1];rfl
  ·unfold UE;rw[Qr a hs n hn,h1];rfl
 |true=>
  cases h2:U4 want with
  |false=>
   refine⟨[],false,?_,?_,(λe=>by cases e),λ_=>rfl⟩
   ·unfold Sw;rw[P9 a hs n hn,h1,VB want hl n hn,h2];rfl
   ·unfold UE;rw[Qr a hs n hn,h1,Rh want hl n hn,h2];rfl
  |true=>
   have ha:=P1.1 h1;have hw:=U5.1 h2;obtain⟨o,b,e1,e2,q1,q2⟩:=gO ha hw n hn;grind
abbrev Pv:=Int×Int×ADB×AAD×Int
abbrev ADE:=List Pv
theorem SP(nx:Int)(l:ADE)(h:Qi (nx,l))(n:Nat)(hn:Pa<=n):RQ n nx l=some (nx,l):=by
 have hl:l.length<=1048576:=h.1
 have hc:=Ps (σ:=ADE) (T6 l) (λi s=>((i:Int),nx,s)) l (λr s=>((l.length:Int),nx,s++r)) (λi s=>s.length<=i)
  (λs hs=>by simp[T6]) (λi y r s h1 h2 h3 h4 h5=>by
   left;have hy:l[i]=y:=by rw[AAI h1]at h2;exact Option.some.inj h2
   refine⟨s++[y],?_,by rw[ABA,ABX];omega,OF⟩;unfold T6;dsimp only;rw[show decide ((i:Int)<(l.length:Int))=true by simpa using h1,ABR,PS h1,hy,ABQ,YX y (h.2 y (by rw[<-hy];exact ABT h1)),ABQ,PR h1 J];rw[show decide (s.length+[(y.1,y.2.1,y.2.2.1,y.2.2.2.1,y.2.2.2.2)].length<=E8)=true from TG J,ABR])
  n ADF [] OF
 unfold RQ;grind
theorem bo(a:By)(h:a.length<=1048576)(c:Int)(n:Nat)(hn:Pa<=n):P5 n a c=some (a.any λx=>x==c):=by
 have:=Qp (Rl a c) (λi=>(i:Int)) a.length (λ_=>true)
 have hc:=Ps (σ:=Unit) (Rl a c) (λi _=>(i:Int)) a (λl _=>bif l.any (λx=>x==c)then .inr true else .inl (a.length:Int)) (λ_ _=>True)
  (λs hs=>by simp[Rl])
  (λi x l s h1 h2 h3 h4 h5=>by
   have hx:a[i]=x:=by rw[AAI h1]at h2;exact Option.some.inj h2
   cases hq:(x==c)with
   |true=>right;simp[Rl,h1,PS h1,hx,hq]
   |false=>left;exact⟨(),by simp[Rl,h1,PS h1,hx,hq,PR h1 J],trivial,by simp[hq]⟩)
  n ADF () trivial
 unfold P5;rw[show((0:Nat):Int)=0 from rfl]at hc;rw[hc];cases a.any λx=>x==c<;>rfl
def ZO(p:PQ)(y:Pk):Bool:=y.1==p.2.1&&P8 p.2.2 1 y.2
def Yb(p:PQ)(l:ADB):ADB:=l.map λy=>bif y.1==p.2.1 then(y.1,y.2-p.2.2)else y
def foldI:AAD->ADB->Option ADB
 | [],l=>some l
 |p::r,l=>if l.any (ZO p)then foldI r (Yb p l)else none
def We(ps:AAD)(l:ADB):Bool:=match foldI ps l with
 |some z=>z.all λy=>y.2==0
 |none=>false
theorem ZP{y:Pk}:ZO p y=true↔y.1=p.2.1/\1<=p.2.2/\p.2.2<=y.2:=by unfold ZO P8;grind
theorem gI(p:PQ)(l:ADB):(Yb p l).length=l.length:=by unfold Yb;grind
theorem ij{l:ADB}(h:l.Pairwise λa b=>a.1<b.1):(Yb p l).Pairwise λa b=>a.1<b.1:=by unfold Yb;grind
theorem cY{l:ADB}{y:Pk}(h:y∈Yb p l):∃z∈l,y.1=z.1/\y.2=if z.1=p.2.1 then z.2-p.2.2 else z.2:=by unfold Yb at h;grind
theorem ig{l:ADB}{z:Pk}(h:z∈l):(z.1,if z.1=p.2.1 then z.2-p.2.2 else z.2)∈Yb p l:=by unfold Yb;grind
theorem kR{l:ADB}(h:l.Pairwise λa b=>a.1<b.1){y z:Pk}(hy:y∈l)(hz:z∈l)(e:y.1=z.1):y=z:=by
 obtain⟨i,hi,rfl⟩:=ABV.1 hy;obtain⟨j,hj,rfl⟩:=ABV.1 hz;rcases ABd i j with hl|hl|hl
 ·have:=ABL.1 h i j hi hj hl;omega
 ·subst hl;rfl
 ·have:=ABL.1 h j i hj hi hl;omega
theorem Xt:∀(ps:AAD)(l:ADB),l.Pairwise (λa b=>a.1<b.1)->(We ps l=true↔PG ps l)
 | [],l,hl=>by
  show(l.all λy=>y.2==0)=true↔_;rw[AAW];constructor
  ·intro h;refine⟨(λp hp=>by cases hp),λy hy=>?_⟩;have:=h y hy;rw[AAT]at this;rw[this];rfl
  ·intro h y hy;rw[AAT];exact(h.2 y hy).symm
 |p::ps,l,hl=>by
  have ih:=Xt ps (Yb p l) (ij hl)
  have hun:We (p::ps) l=(if l.any (ZO p)then We ps (Yb p l)else false):=by unfold We;rw[foldI];grind
  rw[hun];by_cases ha:l.any (ZO p)=true
  ·rw[AAP ha,ih];obtain⟨y,hy,hh⟩:=AA5.1 ha;obtain⟨h1,h2,h3⟩:=ZP.1 hh;constructor
   ·rintro ⟨g1,g2⟩
    refine⟨λq hq=>?_,λz hz=>?_⟩
    ·rcases AAf.1 hq with rfl|hq
     ·grind
     ·obtain⟨a1,v,hv,a2⟩:=g1 q hq;obtain⟨w,hw,b1,_⟩:=cY hv;grind
    ·have:=g2 _ (ig (p:=p) hz);dsimp only at this;simp only[Rf];grind
   ·rintro ⟨g1,g2⟩
    refine⟨λq hq=>?_,λz hz=>?_⟩
    ·obtain⟨a1,v,hv,a2⟩:=g1 q (AAM _ hq);exact⟨a1,_,ig (p:=p) hv,a2⟩
    ·obtain⟨w,hw,b1,b2⟩:=cY hz;have:=g2 w hw;simp only[Rf]at this;grind
  ·rw[AAQ ha];refine⟨(λe=>by cases e),λ⟨g1,g2⟩=>(ha ?_).elim⟩;obtain⟨a1,y,hy,a2⟩:=g1 p AAk;have h3:=g2 y hy;have h4:=WN y.1 ps λq hq=>(g1 q (AAM _ hq)).1;simp only[Rf]at h3;rw[show(p.2.1==y.1)=true from AAT.2 a2.symm,ABR]at h3;exact AA5.2 ⟨y,hy,ZP.2 ⟨a2,a1,J⟩⟩
def jD(l:ADB):Prop:=l.Pairwise (λa b=>a.1<b.1)/\(∀y∈l,0<=y.2/\y.2<=1000)/\l.length<=6
theorem jD.sub{l:ADB}(h:jD l)(ha:l.any (ZO p)=true):jD (Yb p l):=by
 obtain⟨y,hy,hh⟩:=AA5.1 ha;obtain⟨h1,h2,h3⟩:=ZP.1 hh;refine⟨ij h.1,λz hz=>?_,by rw[gI];exact h.2.2⟩;obtain⟨w,hw,b1,b2⟩:=cY hz;have hwb:=h.2.1 w hw;rw[b2];split
 ·rename_i e;have:w=y:=kR h.1 hw hy (e.trans h1.symm);grind
 ·exact hwb
theorem fk{l:ADB}(h:l.Pairwise λa b=>a.1<b.1)(hi:i<l.length)(e:l[i].1=p.2.1):l.modify i (λy=>(y.1,l[i].2-p.2.2))=Yb p l:=by
 apply ABs;intro k;unfold Yb;rw[ABc,AAZ];by_cases hk:k<l.length
 ·rw[AAI hk];by_cases hik:i=k
  ·subst hik;rw[Option.map_eq_map,AA0,AA0,AAP rfl,show(l[i].1==p.2.1)=true from AAT.2 e,ABR]
  ·rw[Option.map_eq_map,AA0,AA0,AAQ hik]
   have:l[k].1≠p.2.1:=λe2=>by
    rcases ABd i k with hl|hl|hl
    ·have:=ABL.1 h i k hi hk hl;omega
    ·exact hik hl
    ·have:=ABL.1 h k i hk hi hl;omega
   rw[show(l[k].1==p.2.1)=false from ABY.2 this,ABS]
 grind
theorem gy(k:Int)(l:ADB)(hl:jD l)(p:PQ)(n:Nat)(hn:Pa<=n):∃i:Int,iter n (Tu (k,l) p) (false,0,l)=some (bif l.any (ZO p)then(true,i,Yb p l)else(false,i,l)):=by
 have h6:=hl.2.2
 obtain⟨z,hS,e⟩:=XY (f:=Tu (k,l) p) (λx=>x.1=false/\x.2.2=l/\∃m:Nat,m<=l.length/\x.2.1=(m:Int)/\∀i (h:i<l.length),i<m->ZO p l[i]=false)
  (λz=>z.1=false/\z.2.2=l/\l.any (ZO p)=false\/z.1=true/\z.2.2=Yb p l/\l.any (ZO p)=true) (λx=>((l.length:Int)-x.2.1).toNat) (λx hR=>by
   obtain⟨b,i,l'⟩:=x;obtain⟨h1,h2,m,hm,h3,h4⟩:=hR;dsimp only at h1 h2 h3;subst h1;subst h2;subst h3;unfold Tu;dsimp only;by_cases uR:m<l'.length
   ·have hyb:=hl.2.1 _ (ABT uR);rw[show decide ((m:Int)<(l'.length:Int))=true by rw[AAe];clear hn;omega,ABR,PX uR,ABU,AAI uR];simp only[ABR,ABQ,Vt,Qh]
    have hx:(bif l'[m].1==p.2.1 then some (P8 p.2.2 1 l'[m].2)else some false)=some (ZO p l'[m]):=by
     unfold ZO;cases(l'[m].1==p.2.1)<;>rfl
    rw[hx,ABQ];cases hh:ZO p l'[m]with
    |true=>
     obtain⟨a1,a2,a3⟩:=ZP.1 hh;left;refine⟨_,rfl,.inr ⟨rfl,?_,AA5.2 ⟨_,ABT uR,hh⟩⟩⟩;show l'.modify m (λy=>(y.1,PV (l'[m].2-p.2.2)))=_;rw[PY (n:=l'[m].2-p.2.2) ADI ADI,fk hl.1 uR a1]
    |false=>
     right;rw[ABS,PR uR (show l'.length<=9223372036854775807 by clear hn;omega)];refine⟨_,rfl,⟨rfl,rfl,m+1,uR,rfl,λi hi wK=>?_⟩,by show((l'.length:Int)-((m+1:Nat):Int)).toNat<((l'.length:Int)-(m:Int)).toNat;clear hn;omega⟩;by_cases e:i=m
     ·subst e;exact hh
     ·exact h4 i hi ADI
   ·left;rw[show decide ((m:Int)<(l'.length:Int))=false by rw[AAn];clear hn;omega];refine⟨_,rfl,.inl ⟨rfl,rfl,?_⟩⟩;rw[<-ABm];intro ha;obtain⟨y,hy,hh⟩:=AA5.1 ha;obtain⟨i,hi,rfl⟩:=ABV.1 hy;rw[h4 i hi ADI]at hh;cases hh) n (false,0,l) ⟨rfl,rfl,0,Nat.zero_le _,rfl,λi _ h=>J⟩ (by show((l.length:Int)-0).toNat<n;unfold Pa at hn;omega)
 grind
theorem Z2(ps:AAD)(hp:ps.length<=1048576)(l:ADB)(hl:jD l)(n:Nat)(hn:Pa<=n):Ud n ps l=some (We ps l):=by
 have h6:=hl.2.2
 have hc:=Ps (σ:=ADB) (Tt n ps) (λi s=>((i:Int),s)) ps (λr s=>match foldI r s with|some z=>.inl ((ps.length:Int),z)|none=>.inr false) (λi s=>jD s)
  (λs hs=>by unfold Tt;simp[foldI])
  (λi p r s g1 g2 g3 g4 g5=>by
   have hpi:ps[i]=p:=by rw[AAI g1]at g2;exact Option.some.inj g2
   obtain⟨j,e⟩:=gy (i:Int) s g5 p n hn;unfold Tt;dsimp only;rw[show decide ((i:Int)<(ps.length:Int))=true by grind,ABR,PS g1,hpi,ABQ,e,ABQ,PR g1 (show ps.length<=9223372036854775807 by omega)];cases ha:s.any (ZO p)with
   |true=>
    left;refine⟨Yb p s,rfl,g5.sub ha,?_⟩;rw[foldI,AAP ha]
   |false=>
    right;rw[foldI,AAQ (by rw[ha];simp)];rfl)
  n ADF l hl
 unfold Ud QU;rw[U9 (show l.length<=1048576 by omega),ABR,ABQ];rw[show((0:Nat):Int)=0 from rfl]at hc;rw[hc,ABQ];unfold We;cases hf:foldI ps l with
 |none=>rfl
 |some z=>
  have hzl:z.length<=6:=by
   have:∀(ps:AAD)(l z:ADB),foldI ps l=some z->z.length=l.length:=by
    intro ps
    induction ps with
    |nil=>intro l z e;injection e with e;rw[e]
    |cons p ps ih=>
     intro l z e;rw[foldI]at e;split at e
     ·rw[ih _ _ e,gI]
     ·cases e
   rw[this ps l z hf];exact h6
  have h3:=TU (Tv ((ps.length:Int),z)) z (λy=>y.2==0) (λi x hi hx=>by
   obtain⟨_,rfl⟩:=AAK.1 hx;unfold Tv;dsimp only;rw[show decide ((i:Int)<(z.length:Int))=true by rw[AAe];clear hn;omega,ABR,PX hi,ABU,AAI hi,ABR,ABQ,PR hi (show z.length<=9223372036854775807 by clear hn;omega)];simp only[bne];cases(z[i].2==0)<;>rfl) (by unfold Tv;simp) n ADF
  grind
theorem U1(nx:Int)(l:ADE)(h:Qi (nx,l))(n:Nat)(hn:Pa<=n):RZ n nx l=some (nx,l):=by
 have hl:l.length<=1048576:=h.1
 have hc:=Ps (σ:=ADE) (TA l) (λi s=>((i:Int),nx,s)) l (λr s=>((l.length:Int),nx,s++r)) (λi s=>s.length<=i)
  (λs hs=>by simp[TA]) (λi y r s h1 h2 h3 h4 h5=>by
   left;have hy:l[i]=y:=by rw[AAI h1]at h2;exact Option.some.inj h2
   refine⟨s++[y],?_,by rw[ABA,ABX];omega,OF⟩;unfold TA;dsimp only;rw[show decide ((i:Int)<(l.length:Int))=true by simpa using h1,ABR,PS h1,hy,ABQ,Ub y (h.2 y (by rw[<-hy];exact ABT h1)),ABQ,PR h1 J];have hr:decide (s.length+1<=E8)=true:=TG J;simp only[ABX,hr,ABR])
  n ADF [] OF
 unfold RZ;grind
def Q8(l:ADE):ADE:=l.filter λo=>o.2.2.2.2==1
theorem fM{β:Type}(f:Int->Option (Int⊕(Int⊕Int)))(xs:List β)(P:β->Bool)(hs:∀(i:Nat)(x:β),i<xs.length->xs[i]?=some x->f (i:Int)=some (bif P x then .inr (.inr (i:Int))else .inl ((i+1:Nat):Int)))
  (j:Nat) (hj:j<xs.length) (hP:P xs[j]=true):∀n,xs.length<n->∃i,∃h:i<xs.length,P xs[i]=true/\iter n f 0=some (.inr (i:Int)):=by
 have key:∀d i n,i+d=j->d<n->∃k,∃h:k<xs.length,P xs[k]=true/\iter n f (i:Int)=some (.inr (k:Int)):=by
  intro d
  induction d with
  |zero=>
   intro i n hi hn;obtain⟨n,rfl⟩:∃k,n=k+1:=⟨n-1,J⟩;have:i=j:=J
   subst this;have hf:=hs i xs[i] hj (AAI hj);rw[hP,ABR]at hf;exact⟨i,hj,hP,Pw hf n⟩
  |succ d ih=>
   intro i n hi hn;obtain⟨n,rfl⟩:∃k,n=k+1:=⟨n-1,J⟩;have uR:i<xs.length:=J
   have hf:=hs i xs[i] uR (AAI uR);cases hp:P xs[i]with
   |true=>rw[hp,ABR]at hf;exact⟨i,uR,hp,Pw hf n⟩
   |false=>rw[hp,ABS]at hf;rw[RO hf n];exact ih (i+1) n J J
 exactλn hn=>key j 0 n J J
theorem YU(nx:Int)(l:ADE)(hl:l.length<=1048576)(hp:l.Pairwise (λa b=>a.1<b.1))(i:Nat)(hi:i<l.length)(n:Nat)(hn:Pa<=n):Qu n nx l l[i].1=some (i:Int):=by
 obtain⟨j,hj,hP,e⟩:=fM (RC l l[i].1) l (λx=>x.1==l[i].1) (λm x h1 h2=>by
  have hx:l[m]=x:=by rw[AAI h1]at h2;exact Option.some.inj h2
  simp only[RC,PS h1,hx,ABQ,PR h1 J];grind) i hi OF n ADF
 have hji:j=i:=by
  have hP:l[j].1=l[i].1:=by simpa using hP
  rcases ABd j i with q|q|q
  ·have:=ABL.1 hp j i hj hi q;omega
  ·exact q
  ·have:=ABL.1 hp i j hi hj q;omega
 subst hji;unfold Qu;rw[e];rfl
theorem V2(nx:Int)(l:ADE)(hl:l.length<=1048576)(c:Int)(hc:∀x∈l,x.1≠c)(n:Nat)(hn:Pa<=n):Qu n nx l c=some (-1):=by
 have:=dh (RC l c) l (λx=>x.1==c) (λm x h1 h2=>by
  have hx:l[m]=x:=by rw[AAI h1]at h2;exact Option.some.inj h2
  simp only[RC,PS h1,hx,ABQ,PR h1 J];rw[show decide ((m:Int)<(l.length:Int))=true by simpa using h1];cases hq:(x.1==c)<;>rfl) (by simp[RC]) n ADF
 unfold Qu;grind
def aR(l:ADB)(ps:AAD):Int:=match l with
 | []=>0
 |y::r=>Rf y.1 ps+aR r ps
theorem gK:∀l:ADB,aR l []=0
 | []=>rfl
 |y::r=>by simp only[aR,gK r,Rf];rfl
theorem cd(p:PQ)(ps:AAD):∀l:ADB,(∀y∈l,y.1≠p.2.1)->aR l (p::ps)=aR l ps
 | [],_=>rfl
 |y::r,h=>by have h1:=h y AAk;simp only[aR,Rf,cd p ps r λz hz=>h z (AAM _ hz)];grind
theorem iu(p:PQ)(ps:AAD):∀l:ADB,l.Pairwise (λa b=>a.1<b.1)->(∃y∈l,y.1=p.2.1)->aR l (p::ps)=p.2.2+aR l ps
 | [],_,⟨y,hy,_⟩=>by cases hy
 |y::r,hl,⟨z,hz,e⟩=>by
  obtain⟨h1,h2⟩:=ABf.1 hl;simp only[aR,Rf];by_cases hy:y.1=p.2.1
  ·rw[cd p ps r λw hw=>No,show(p.2.1==y.1)=true from AAT.2 hy.symm,ABR];omega
  ·rcases AAf.1 hz with e2|hz
   ·grind
   ·rw[iu p ps r h2 ⟨z,hz,e⟩,show(p.2.1==y.1)=false from ABY.2 λe=>hy e.symm,ABS];omega
theorem ca{l:ADB}(hl:l.Pairwise λa b=>a.1<b.1):∀ps:AAD,(∀p∈ps,1<=p.2.2)->aR l ps<=WM ps/\(aR l ps=WM ps↔∀p∈ps,∃y∈l,y.1=p.2.1)
 | [],_=>by rw[gK];exact⟨by simp[WM],⟨λ_ p hp=>(by cases hp),λ_=>rfl⟩⟩
 |p::ps,h=>by
  obtain⟨i1,i2⟩:=ca hl ps λq hq=>h q (AAM _ hq);have hp:=h p AAk;simp only[WM];by_cases hy:∃y∈l,y.1=p.2.1
  ·rw[iu p ps l hl hy];grind
  ·rw[cd p ps l λy hy2 e=>hy ⟨y,hy2,e⟩];grind
theorem eZ(ps:AAD):∀l:ADB,(∀y∈l,Rf y.1 ps=y.2)->aR l ps=Ut l
 | [],_=>rfl
 |y::r,h=>by simp only[aR,Ut,h y AAk,eZ ps r λz hz=>h z (AAM _ hz)]
theorem bQ(h:∀p∈ps,1<=p.2.2)(hp:p∈ps):p.2.2<=Rf p.2.1 ps:=by
 induction ps with
 |nil=>cases hp
 |cons q r ih=>
  have h1:=WN p.2.1 r λz hz=>h z (AAM _ hz);have h2:=h q AAk;simp only[Rf];grind
theorem jf{l:ADB}(hl:Wt l):((∀p∈ps,1<=p.2.2/\p.2.2<=1000)/\(∀y∈l,Rf y.1 ps=y.2)/\Ut l-WM ps=0)↔PG ps l:=by
 constructor
 ·rintro ⟨h1,h2,h3⟩
  have hs:=(ca hl.1 ps λp hp=>(h1 p hp).1).2.1 (by rw[eZ ps l h2];omega);exact⟨λp hp=>⟨(h1 p hp).1,hs p hp⟩,h2⟩
 ·rintro ⟨h1,h2⟩
  have hs:=(ca hl.1 ps λp hp=>(h1 p hp).1).2.2 λp hp=>(h1 p hp).2;refine⟨λp hp=>⟨(h1 p hp).1,?_⟩,h2,by rw[eZ ps l h2]at hs;omega⟩;obtain⟨y,hy,e⟩:=(h1 p hp).2;have:=bQ (λq hq=>(h1 q hq).1) hp;have h4:=h2 y hy;have h5:=hl.2.1 y hy;grind
def fC(nx:Int)(o:Pv):Prop:=(1<=o.1/\o.1<=nx-1)/\(0<=o.2.1/\o.2.1<=99)/\(Wt o.2.2.1/\0<o.2.2.1.length)/\PG o.2.2.2.1 o.2.2.1/\(1<=o.2.2.2.2/\o.2.2.2.2<=3)
def Uv(nx:Int)(l:ADE):Prop:=(1<=nx/\nx<=1000000)/\l.length<=30/\l.Pairwise (λa b=>a.1<b.1)/\∀o∈l,fC nx o
def eG(l:ADE):Prop:=∀o∈l,∀p∈o.2.2.2.1,1<=p.1/\p.1<=999
def Yt(nx:Int)(l:ADE)(i:Nat):Bool:=match l[i]? with
 |some o=>P8 o.1 1 (nx-1)&&Qn (·.1) l i o&&P8 o.2.1 0 99&&P8 o.2.2.2.2 1 3 && !((o.2.2.1.length:Int)==0)&&U4 o.2.2.1&&We o.2.2.2.1 o.2.2.1
 |none=>false
theorem ja{l:ADE}(hi:i<l.length):Yt nx l i=true↔fC nx l[i]/\Qn (·.1) l i l[i]=true:=by
 unfold Yt fC;rw[AAI hi];simp only[AAJ,U5,AAV,ABY];have uO:∀a b c:Int,P8 a b c=true↔b<=a/\a<=c:=λa b c=>by unfold P8;grind
 rw[uO,uO,uO];constructor
 ·rintro ⟨⟨⟨⟨⟨⟨h1,h2⟩,h3⟩,h4⟩,h5⟩,h6⟩,h7⟩
  exact⟨⟨h1,h3,⟨h6,J⟩,(Xt _ _ h6.1).1 h7,h4⟩,h2⟩
 ·rintro ⟨⟨h1,h3,⟨h6,h5⟩,h7,h4⟩,h2⟩
  exact⟨⟨⟨⟨⟨⟨h1,h2⟩,h3⟩,h4⟩,J⟩,h6⟩,(Xt _ _ h6.1).2 h7⟩
theorem fE{l:ADE}(hn:1<=nx/\nx<=1000000)(h30:l.length<=30):(List.range l.length).all (Yt nx l)=true↔Uv nx l:=by
 rw[AAW];have vZ:∀i (hi:i<l.length),Yt nx l i=true↔fC nx l[i]/\Qn (·.1) l i l[i]=true:=λi hi=>ja hi;constructor
 ·intro h;have hi:∀i (hi:i<l.length),fC nx l[i]/\Qn (·.1) l i l[i]=true:=λi hi=>(vZ i hi).1 (h i (AAX.2 hi));refine⟨hn,h30,Wf _ _ λi hi2=>(Wz (·.1) l (i+1) hi2).1 (hi (i+1) hi2).2 i rfl,λo ho=>?_⟩;obtain⟨i,hi2,rfl⟩:=ABV.1 ho;grind
 ·rintro ⟨_,_,h3,h4⟩ i hi
  have hi:=AAX.1 hi;exact(vZ i hi).2 ⟨h4 _ (ABT hi),YV h3 (λx y h=>h) i hi⟩
theorem bE(ps:AAD)(h72:ps.length<=72)(hN:∀p∈ps,1<=p.2.2/\p.2.2<=1000)(k:Int)(n:Nat)(hn:Pa<=n):W7 n ps k=some (Rf k ps):=by
 have hc:=Ps (σ:=Int) (Ul ps k) (λi s=>(s,(i:Int))) ps (λr s=>(s+Rf k r,(ps.length:Int))) (λi s=>0<=s/\s<=1000*(i:Int))
  (λs hs=>by unfold Ul;simp[Rf])
  (λi p r s g1 g2 g3 g4 g5=>by
   left;have hp:ps[i]=p:=by rw[AAI g1]at g2;exact Option.some.inj g2
   have hpN:=hN p (by rw[<-hp];exact ABT g1);unfold Ul;dsimp only;rw[show decide ((i:Int)<(ps.length:Int))=true by rw[AAe];clear hn;omega,ABR,PS g1,hp,PR g1 (show ps.length<=9223372036854775807 by clear hn;omega)];simp only[ABQ,Rf];cases(p.2.1==k)with
   |true=>
    rw[ABR,ABQ,PY (n:=s+p.2.2) ADI ADI];exact⟨s+p.2.2,rfl,⟨ADI,ADI⟩,by rw[ABR,ACL]⟩
   |false=>
    rw[ABS,ABQ];exact⟨s,rfl,⟨g5.1,ADI⟩,by rw[ABS,Int.zero_add]⟩)
  n ADF 0 ⟨J,J⟩
 unfold W7;grind
theorem ku(l:ADB)(hl:Wt l)(n:Nat)(hn:Pa<=n):iter n (Rw l) (0,0)=some (Ut l,(l.length:Int)):=by
 have h6:=hl.2.2
 have hc:=Ps (σ:=Int) (Rw l) (λi s=>(s,(i:Int))) l (λr s=>(s+Ut r,(l.length:Int))) (λi s=>0<=s/\s<=1000*(i:Int))
  (λs hs=>by unfold Rw;simp[Ut])
  (λi y r s g1 g2 g3 g4 g5=>by
   left;have hy:l[i]=y:=by rw[AAI g1]at g2;exact Option.some.inj g2
   have hyb:=hl.2.1 y (by rw[<-hy];exact ABT g1);refine⟨s+y.2,?_,⟨ADI,ADI⟩,by simp only[Ut,ACL]⟩;unfold Rw;dsimp only;rw[show decide ((i:Int)<(l.length:Int))=true by rw[AAe];clear hn;omega,ABR,PS g1,hy,ABQ,PR g1 (show l.length<=9223372036854775807 by clear hn;omega),PY (n:=s+y.2) ADI ADI])
  n ADF 0 ⟨J,J⟩
 grind
theorem kv(ps:AAD)(h72:ps.length<=72)(hP:∀p∈ps,1<=p.1/\p.1<=999)(s0:Int)(hs0:0<=s0/\s0<=6000)(n:Nat)(hn:Pa<=n):
  iter n (Rx ps) (s0,0)=some (if ∀p∈ps,1<=p.2.2/\p.2.2<=1000 then .inl (s0-WM ps,(ps.length:Int))else .inr false):=by
 have hc:=Ps (σ:=Int) (Rx ps) (λi s=>(s,(i:Int))) ps (λr s=>if ∀p∈r,1<=p.2.2/\p.2.2<=1000 then .inl (s-WM r,(ps.length:Int))else .inr false) (λi s => -1000*(i:Int)<=s/\s<=6000)
  (λs hs=>by
   rw[AAP (λp hp=>by cases hp)];unfold Rx;simp[WM])
  (λi p r s g1 g2 g3 g4 g5=>by
   have hp:ps[i]=p:=by rw[AAI g1]at g2;exact Option.some.inj g2
   have hpP:=hP p (by rw[<-hp];exact ABT g1);unfold Rx;dsimp only;rw[show decide ((i:Int)<(ps.length:Int))=true by rw[AAe];clear hn;omega,ABR,PS g1,hp,PR g1 (show ps.length<=9223372036854775807 by clear hn;omega)];simp only[ABQ,Qh];rw[show P8 p.1 1 999=true by unfold P8;rw[ABW hpP.1,ABW hpP.2];rfl];by_cases hb:1<=p.2.2/\p.2.2<=1000
   ·left;rw[show P8 p.2.2 1 1000=true by unfold P8;rw[ABW hb.1,ABW hb.2];rfl];simp only[ABZ,ABS,ABQ];rw[PY (n:=s-p.2.2) ADI ADI];refine⟨s-p.2.2,rfl,⟨ADI,ADI⟩,?_⟩;simp only[List.forall_mem_cons,hb,and_self,true_and,WM,Int.sub_sub]
   ·right
    rw[show P8 p.2.2 1 1000=false by
     unfold P8;rw[ACA,AAn,AAn];by_cases h:1<=p.2.2
     ·exact .inr λq=>hb ⟨h,q⟩
     ·exact .inl h]
    rw[AAQ (λq=>hb (q p AAk))];rfl)
  n ADF s0 ⟨J,J⟩
 omega
theorem Zk(o:Pv)(h1:o.2.2.1.length<=1048576)(hP:∀p∈o.2.2.2.1,1<=p.1/\p.1<=999)(n:Nat)(hn:Pa<=n):
  VX n o.1 o.2.1 o.2.2.1 o.2.2.2.1 o.2.2.2.2=some (P8 o.2.1 0 99&&P8 o.2.2.2.2 1 3 && !((o.2.2.1.length:Int)==0)&&U4 o.2.2.1&&(decide (o.2.2.2.1.length<=72)&&We o.2.2.2.1 o.2.2.1)):=by
 obtain⟨id,desk,it,pk,st⟩:=o;dsimp only at h1 hP ⊢;unfold VX;simp only[Qh,VB it h1 n hn,ABQ];by_cases h72:pk.length<=72
 case neg=>
  grind
 rw[show decide ((pk.length:Int)>72)=false by grind,ABW h72,ABp];cases P8 desk 0 99 with
 |false=>rfl
 |true=>
 cases hi:U4 it with
 |false=>grind
 |true=>
 cases((it.length:Int)==0)with
 |true=>grind
 |false=>
 cases P8 st 1 3 with
 |false=>rfl
 |true=>
 have hI:=U5.1 hi;have h6:=hI.2.2
 have hs0:0<=Ut it/\Ut it<=6000:=by
  have:∀l:ADB,(∀y∈l,1<=y.2/\y.2<=1000)->0<=Ut l/\Ut l<=1000*(l.length:Int):=by
   intro l
   induction l with
   |nil=>intro _;simp[Ut]
   |cons y r ih=>
    intro h;have a1:=ih λz hz=>h z (AAM _ hz);have a2:=h y AAk;simp only[Ut,ABD];clear hn;omega
  have:=this it λy hy=>⟨(hI.2.1 y hy).2.2.1,(hI.2.1 y hy).2.2.2⟩;clear hn;omega
 have hask:=jf hI (ps:=pk);have zC:=Xt pk it hI.1;simp only[ABZ,ABq,ABS,ACC,ABp,ABQ];rw[ku it hI n hn,ABQ];dsimp only;rw[kv pk h72 hP (Ut it) hs0 n hn,ABQ];by_cases hN:∀p∈pk,1<=p.2.2/\p.2.2<=1000
 ·rw[AAP hN]
  have h3:=TU (TJ n it pk) it (λy=>Rf y.1 pk==y.2) (λi x hi hx=>by
   obtain⟨_,rfl⟩:=AAK.1 hx;unfold TJ;rw[show decide ((i:Int)<(it.length:Int))=true by rw[AAe];clear hn;omega,ABR,PS hi,ABQ,bE pk h72 hN it[i].1 n hn,ABQ,ABQ,PR hi (show it.length<=9223372036854775807 by clear hn;omega)];simp only[bne];cases(Rf it[i].1 pk==it[i].2)<;>rfl) (by unfold TJ;simp) n ADF
  dsimp only;rw[h3];cases ha:it.all (λy=>Rf y.1 pk==y.2)with
  |false=>
   rw[ABS,ABQ];show some false=_
   rw[show We pk it=false by
    rw[<-ABm];intro h;have:=(hask.2 (zC.1 h)).2.1;rw[<-ABm]at ha;exact ha (AAW.2 λy hy=>AAT.2 (this y hy))]
  |true=>
   rw[ABR,ABQ];show some (Ut it-WM pk==0)=_;refine congrArg some ?_;rw[ABx,zC,<-hask,AAT];exact⟨λh=>⟨hN,λy hy=>AAT.1 (AAW.1 ha y hy),h⟩,λh=>h.2.2⟩
 grind
def fg(l:ADE)(i:Nat):Bool:=match l[i]? with
 |some o=>decide (o.2.2.2.1.length<=72)
 |none=>false
theorem X6{l:ADE}(h:Qi (nx,l))(hp:eG l)(n:Nat)(hn:Pa<=n):∃b,Qo n nx l=some b/\(b=true↔Uv nx l/\∀o∈l,o.2.2.2.1.length<=72):=by
 have hl:l.length<=1048576:=h.1;unfold Qo;simp only[Qh,ABQ];by_cases hx:1<=nx/\nx<=1000000
 ·rw[show P8 nx 1 1000000=true by unfold P8;rw[ABW hx.1,ABW hx.2];rfl];simp only[ABZ,ABS,ABQ];by_cases h30:l.length<=30
  ·rw[show decide ((l.length:Int)>30)=false by grind,ABS]
   have:=Qp (Uf n nx l) (λi=>(i:Int)) l.length (λi=>Yt nx l i&&fg l i) (λi hi=>by
    have hm:=ABT hi;have hpr:(bif decide ((i:Int)>0)then(Iy l (PV ((i:Int)-1))).bind (λy=>some (decide (y.1>=l[i].1)))else some false)=some (!Qn (·.1) l i l[i]):=XJ (·.1) l l[i] i hi hl some;have hov:=Zk l[i] (h.2 _ hm).1 (hp _ hm) n hn;simp only[Uf,PS hi,ABQ,Qh,PR hi (show l.length<=9223372036854775807 by clear hn;omega),hpr,hov];rw[show decide ((i:Int)<(l.length:Int))=true by rw[AAe];clear hn;omega,PY (n:=nx-1) ADI ADI];unfold Yt fg;grind) (by simp[Uf]) n ADF
   rw[show((0:Nat):Int)=0 from rfl]at this;rw[this,ABQ];refine⟨(List.range l.length).all (λi=>Yt nx l i&&fg l i),?_,?_⟩
   ·grind
   ·rw[<-fE hx h30,AAW,AAW];simp only[AAJ];constructor
    ·intro q;refine⟨λi hi=>(q i hi).1,λo ho=>?_⟩;obtain⟨i,hi,rfl⟩:=ABV.1 ho;have:=(q i (AAX.2 hi)).2;unfold fg at this;grind
    ·rintro ⟨q1,q2⟩ i hi
     refine⟨q1 i hi,?_⟩;have hi:=AAX.1 hi;unfold fg;grind
  ·rw[show decide ((l.length:Int)>30)=true by grind,ABR];exact⟨false,rfl,(λe=>by cases e),λhb=>(h30 hb.1.2.1).elim⟩
 ·rw[show P8 nx 1 1000000=false by
   unfold P8;rw[ACA,AAn,AAn];by_cases h:1<=nx
   ·exact .inr λq=>hx ⟨h,q⟩
   ·exact .inl h]
  exact⟨false,rfl,(λe=>by cases e),λhb=>(hx hb.1.1).elim⟩
theorem Tp{l:ADE}(h:Qi (nx,l))(n:Nat)(hn:Pa<=n):∃b,Qz n nx l=some b/\(b=true↔Uv nx l):=by
 have hl:l.length<=1048576:=h.1;unfold Qz;simp only[Vt,Qh,ABQ];by_cases hx:1<=nx/\nx<=1000000
 ·rw[show P8 nx 1 1000000=true by unfold P8;rw[ABW hx.1,ABW hx.2];rfl];simp only[ABZ,ABS,ABQ];by_cases h30:l.length<=30
  ·rw[show decide ((l.length:Int)>30)=false by rw[AAn];clear hn;omega,ABS]
   have:=Qp (UU n nx l) (λi=>(i:Int)) l.length (Yt nx l) (λi hi=>by
    have hm:=ABT hi;have hpr:∀C:Option Bool,(bif decide ((i:Int)>0)then(Iy l (PV ((i:Int)-1))).bind (λy=>bif decide (y.1>=l[i].1)then some true else C)else C)=bif !Qn (·.1) l i l[i]then some true else C:=λC=>XJ (·.1) l l[i] i hi hl λb=>bif b then some true else C;have hit:l[i].2.2.1.length<=1048576:=(h.2 _ hm).1;have we:l[i].2.2.2.1.length<=1048576:=(h.2 _ hm).2
    have hpo:U4 l[i].2.2.1=true->Ud n l[i].2.2.2.1 l[i].2.2.1=some (We l[i].2.2.2.1 l[i].2.2.1):=λe=>by
     have hI:=U5.1 e;exact Z2 _ we _ ⟨hI.1,λy hy=>by have:=hI.2.1 y hy;clear hn;omega,hI.2.2⟩ n hn
    simp only[UU,PS hi,ABQ,Vt,Qh,PR hi (show l.length<=9223372036854775807 by clear hn;omega),hpr,Rh _ hit n hn];rw[show decide ((i:Int)<(l.length:Int))=true by rw[AAe];clear hn;omega,PY (n:=nx-1) ADI ADI];unfold Yt;rw[AAI hi];dsimp only;cases hib:U4 l[i].2.2.1 with
    |false=>cases P8 l[i].1 1 (nx-1)<;>cases Qn (·.1) l i l[i]<;>cases P8 l[i].2.1 0 99<;>cases P8 l[i].2.2.2.2 1 3<;>cases((l[i].2.2.1.length:Int)==0)<;>rfl
    |true=>
     rw[hpo hib];cases P8 l[i].1 1 (nx-1)<;>cases Qn (·.1) l i l[i]<;>cases P8 l[i].2.1 0 99<;>cases P8 l[i].2.2.2.2 1 3<;>cases((l[i].2.2.1.length:Int)==0)<;>cases We l[i].2.2.2.1 l[i].2.2.1<;>rfl) (by simp[UU]) n ADF
   rw[show((0:Nat):Int)=0 from rfl]at this;rw[this,ABQ];refine⟨(List.range l.length).all (Yt nx l),?_,fE hx h30⟩;grind
  ·rw[show decide ((l.length:Int)>30)=true by grind,ABR];exact⟨false,rfl,(λe=>by cases e),λhb=>(h30 hb.2.1).elim⟩
 ·rw[show P8 nx 1 1000000=false by
   unfold P8;rw[ACA,AAn,AAn];by_cases h:1<=nx
   ·exact .inr λq=>hx ⟨h,q⟩
   ·exact .inl h]
  exact⟨false,rfl,(λe=>by cases e),λhb=>(hx hb.1).elim⟩
def Ok{α:Type}(x:Option α)(P:α->Prop):Prop:=∃r,x=some r/\P r
section
variable {α β γ:Type}{P:α->Prop}{Q:β->Prop}
theorem Ok.pure{r:α}(h:P r):Ok (some r) P:=⟨r,rfl,h⟩
theorem Ok.bind{x:Option α}{f:α->Option β}(h:Ok x P)(hf:∀r,P r->Ok (f r) Q):Ok (x.bind f) Q:=by obtain⟨r,rfl,hr⟩:=h;exact hf r hr
theorem Ok.cond{b:Bool}{x y:Option α}(h1:b=true->Ok x P)(h2:b=false->Ok y P):Ok (bif b then x else y) P:=No
theorem Ok.guard{b:Bool}{x y:Option α}(hb:b=true)(h:Ok x P):Ok (bif b then x else y) P:=No
theorem Ok.Iy{xs:List α}{i:Int}(h:0<=i/\i<(xs.length:Int)):Ok (Go.Ev.Iy xs i) λr=>xs[i.toNat]?=some r:=by
 obtain⟨m,rfl⟩:∃m:Nat,i=m:=⟨i.toNat,J⟩;have hm:m<xs.length:=J
 exact⟨xs[m],PS hm,by simp[hm]⟩
theorem Ok.get{xs:List α}{i:Nat}(h:i<xs.length):Ok xs[i]? λr=>xs[i]?=some r:=⟨xs[i],AAI h,AAI h⟩
theorem eM{xs:List α}{i:Int}(h:0<=i/\i<(xs.length:Int)):Oi xs i=true:=by unfold Oi;grind
theorem Ok.iter{f:α->Option (α⊕γ)}{S:γ->Prop}(R:Nat->α->Prop)
  (h:∀k x,R k x->Ok (f x) λy=>(∃x',y=.inl x'/\∃k',R k' x'/\k'<k)\/∃z,y=.inr z/\S z) {n k:Nat} {x:α} (hR:R k x) (hk:k<n):Ok (Go.Ev.iter n f x) S:=by
 obtain⟨z,hz,e⟩:=U6 R S (λk x hx=>by
  obtain⟨y,e,hy⟩:=h k x hx;rcases hy with⟨x',rfl,k',h1,h2⟩|⟨z,rfl,h1⟩
  ·exact .inr ⟨x',k',e,h1,h2⟩
  grind) n k x hR hk
 exact⟨z,e,hz⟩
end
def QS{α:Type}(g:Nat->Option α):Prop:=∀n m r,n<=m->g n=some r->g m=some r
theorem QS.const(x:Option α):QS λ_=>x:=λ_ _ _ _ h=>h
theorem QS.bind{α β:Type}{g:Nat->Option α}{f:Nat->α->Option β}(hg:QS g)(hf:∀x,QS λn=>f n x):QS λn=>(g n).bind (f n):=by
 intro n m r hnm h;cases hx:g n with
 |none=>grind
 |some x=>
  simp only[hx,ABQ]at h;simp only[hg n m x hnm hx,ABQ];exact hf x n m r hnm h
theorem QS.cond{α:Type}{b:Bool}{g h:Nat->Option α}(hg:QS g)(hh:QS h):QS λn=>bif b then g n else h n:=by
 cases b with
 |true=>exact hg
 |false=>exact hh
theorem QS.iter{γ:Type}{L:Nat->α->Option (α⊕γ)}(hL:∀x,QS λn=>L n x)(x0:α):QS λn=>Go.Ev.iter n (L n) x0:=by
 have key:∀(k n m:Nat)(x:α)(r:γ),n<=m->k<=k+0->Go.Ev.iter k (L n) x=some r->∀j,k<=j->Go.Ev.iter j (L m) x=some r:=by
  intro k
  induction k with
  |zero=>intro n m x r _ _ h;simp[Go.Ev.iter]at h
  |succ k ih=>
   intro n m x r hnm _ h j hj;obtain⟨j,rfl⟩:∃i,j=i+1:=⟨j-1,J⟩;simp only[Go.Ev.iter]at h ⊢;cases hx:L n x with
   |none=>rw[hx]at h;cases h
   |some y=>
    rw[hx]at h;have h2:L m x=some y:=hL x n m y hnm hx;rw[h2];cases y with
    |inl x'=>exact ih n m x' r hnm J h j J
    |inr z=>exact h
 intro n m r hnm h;grind
def Cu(b:By)(i:Int):Prop:=b.length<=1048576/\0<=i
theorem Rn{i c:Int}(h:Cu b i)(m:Int):Ok (Px b i c m) λx=>Cu x.2.1 x.2.2.1/\0<=x.1/\(0<m->x.1<m):=by obtain⟨x,i',h',e,h1,h2,h3⟩:=b9 b i c h.2 h.1 m;exact⟨_,e,⟨h.1,h1⟩,h2,λhm=>J⟩
theorem bN{i c:Int}(h:Cu b i)(m:Int):Ok (S1 b i c m) λx=>Cu x.2.1 x.2.2.1:=by unfold S1;exact(Rn h m).bind λr hr=>Ok.pure hr.1
theorem ok_int{i c:Int}(h:Cu b i){xs:By}(hx:0<xs.length):Ok (VD b i c xs) λx=>Cu x.2.1 x.2.2.1/\x.1∈xs:=by unfold VD;refine(Rn h _).bind λr hr=>(Ok.Iy ⟨hr.2.1,hr.2.2 J⟩).bind λv hv=>Ok.pure ⟨hr.1,AAN hv⟩
theorem kt{i c:Int}(h:Cu b i){xs:List ADD}(hx:0<xs.length):Ok (Wn b i c xs) λx=>Cu x.2.1 x.2.2.1/\x.1∈xs:=by unfold Wn;refine(Rn h _).bind λr hr=>(Ok.Iy ⟨hr.2.1,hr.2.2 J⟩).bind λv hv=>Ok.pure ⟨hr.1,AAN hv⟩
theorem iC(s:ADD)(b:Int):QS λn=>WK n s b:=by unfold WK;exact QS.bind (QS.iter (L:=λ_=>YC s b) (λ_=>QS.const _) _) λ_=>QS.const _
theorem jW(c:Int):QS λn=>W9 n c:=by unfold W9;exact QS.bind (QS.iter (L:=λ_=>Ya c) (λ_=>QS.const _) _) λx=>QS.const _
theorem gx(s:ADD):QS λn=>Qa n s:=by unfold Qa;refine QS.bind (iC s 10) λx1=>QS.cond (QS.bind (QS.const _) λx2=>QS.bind (QS.iter (L:=λn=>UF n x1) (λx3=>?_) _) λ_=>QS.const _) (QS.const _);unfold UF;refine QS.cond (QS.bind (QS.const _) λx5=>QS.cond (QS.const _) (QS.bind (QS.const _) λx9=>QS.cond (QS.const _) (QS.bind (QS.iter (L:=λn=>UG n x1 x3) (λx10=>?_) _) λ_=>QS.const _))) (QS.const _);unfold UG;refine QS.cond (QS.bind (QS.const _) λ_=>QS.cond (QS.cond (QS.bind (QS.const _) λ_=>QS.bind (QS.const _) λ_=>QS.bind (jW _) λ_=>QS.const _) (QS.const _)) (QS.const _)) (QS.const _)
def Y3:List ADD:=[[99,46,46,46,46,46,10,46,112,112,46,112,46,10,46,112,112,46,112,46,10,46,46,46,46,46,115,10],[99,46,46,10,46,46,46,10,46,46,115,10],[46,46,46,46,46,10,46,112,35,112,46,10,46,46,115,46,46,10,46,112,35,112,46,10,99,46,46,46,99,10],[46,46,46,35,46,46,46,10,46,46,46,46,46,46,46,10,46,46,46,35,46,46,46,10],[99,46,46,46,46,46,46,46,10,46,112,46,112,46,112,46,46,10,46,46,46,46,46,46,46,115,10,46,112,46,112,46,112,46,46,10,99,46,46,46,46,46,46,115,10],[46,46,10,46,46,10],[99,46,35,46,115,10,46,46,35,46,46,10]]
def bM(s:ADD):Bool:=match Qa 60 s with
 |some (w,h,c,b)=>Ph w h c&&b == -1&&decide (0<c.length)
 |none=>false
theorem dC:Y3.all bM=true:=by kernel_rfl
theorem fw{s:ADD}(h:bM s=true)(n:Nat)(hn:Pa<=n):Ok (Qa n s) λx=>Ph x.1 x.2.1 x.2.2.1=true/\x.2.2.2 = -1/\0<x.2.2.1.length:=by
 unfold bM at h;cases hp:Qa 60 s with
 |none=>grind
 |some x=>
  rw[hp]at h;obtain⟨w,q,c,b⟩:=x;simp only[AAJ,AAT,AAe]at h;exact⟨_,gx s 60 n _ ADF hp,h.1.1,h.1.2,h.2⟩
theorem gj(n:Nat)(hn:Pa<=n){i c:Int}(h:Cu b i):Ok (Um n b i c) λx=>Ph x.1 x.2.1 x.2.2.1=true/\0<x.2.2.1.length/\Cu x.2.2.2.1 x.2.2.2.2.1:=by
 unfold Um;refine(bN h 3).bind λr hr=>Ok.cond (λ_=>?_) λ_=>?_
 ·refine(kt hr (xs:=Y3) (by simp[Y3])).bind λt ht=>?_;refine(fw (AAW.1 dC _ ht.2) n hn).bind λx hx=>Ok.pure ⟨hx.1,hx.2.2,ht.1⟩
 ·refine(Rn hr 7).bind λx hx=>(Rn hx.1 6).bind λy hy=>?_;have x1:=hx.2.2 J;have y1:=hy.2.2 J;have x0:=hx.2.1;have y0:=hy.2.1;rw[PY (n:=1+x.1) J J,PY (n:=1+y.1) J J];generalize hW:1+x.1=W;generalize hH:1+y.1=H
  have hWH:W*H<=100/\1<=W*H:=by
   have a1:1<=W:=J
   have a2:W<=10:=J
   have a3:1<=H:=J
   have a4:H<=10:=J
   have h1:W*H<=10*H:=Int.mul_le_mul_of_nonneg_right a2 J;have h2:1*H<=W*H:=Int.mul_le_mul_of_nonneg_right a1 J;omega
  refine Ok.bind (P:=λz=>Ph W H z.2.2.2.2.2.2=true/\0<z.2.2.2.2.2.2.length/\z.2.2.2.2.1=W/\z.2.2.2.2.2.1=H/\Cu z.2.1 z.2.2.1) (Ok.iter (λk z=>z.1+(k:Int)=W*H/\0<=z.1/\(z.2.2.2.2.2.2.length:Int)=z.1/\(z.2.2.2.2.2.2.all λk=>P8 k 0 4)=true/\z.2.2.2.2.1=W/\z.2.2.2.2.2.1=H/\Cu z.2.1 z.2.2.1) (λk z hz=>?_) (k:=(W*H).toNat) ⟨J,J,rfl,rfl,rfl,rfl,hy.1⟩ ADF) λz hz=>?_
  ·obtain⟨z1,z2,z3,z4,z5,z6,z7⟩:=hz;unfold YB;rw[z5,z6,PY (n:=W*H) J J];refine Ok.cond (λhb=>?_) λhb=>?_
   ·have hb:=AAu hb;refine(ok_int z7 OF).bind λv hv=>Ok.guard (TG J) (Ok.pure (.inl ⟨_,rfl,k-1,⟨?_,?_,?_,?_,rfl,rfl,hv.1⟩,J⟩))
    ·show PV (z.1+1)+_=_;rw[PY J J];omega
    ·show 0<=PV (z.1+1);rw[PY J J];omega
    ·show((z.2.2.2.2.2.2++[v.1]).length:Int)=PV (z.1+1);rw[PY J J];simp;omega
    ·show((z.2.2.2.2.2.2++[v.1]).all λk=>P8 k 0 4)=true;rw[List.all_append,z4];have hv2:=hv.2;simp only[AAf,List.not_mem_nil,or_false]at hv2;rcases hv2 with e|e|e|e|e|e|e|e|e|e<;>rw[e]<;>rfl
   ·have hb:=of_decide_eq_false hb;refine Ok.pure (.inr ⟨_,rfl,?_,?_,z5,z6,z7⟩)
    ·show Ph W H z.2.2.2.2.2.2=true;unfold Ph;rw[z4,PY (n:=W*H) J J,show((z.2.2.2.2.2.2.length:Int)==W*H)=true by rw[AAT];omega];unfold P8;rw[ABW (show 1<=W by omega),ABW (show W<=10 by omega),ABW (show 1<=H by omega),ABW (show H<=10 by omega)];rfl
    grind
  ·obtain⟨z1,z2,z3,z4,z5⟩:=hz;refine Ok.pure ⟨?_,z2,z5⟩;grind
def QT(c:By)(k:Int):Nat->By
 |0=>[]
 |i+1=>bif c.getD i 0==k then QT c k i++[(i:Int)]else QT c k i
theorem Yw(c:By)(k:Int):∀i,(QT c k i).length<=i
 |0=>AAb _
 |i+1=>by have:=Yw c k i;unfold QT;grind
theorem WT{c:By}{k x:Int}:∀ {i},x∈QT c k i->∃j:Nat,x=(j:Int)/\j<i/\c.getD j 0=k
 |0,h=>by cases h
 |i+1,h=>by
  unfold QT at h;cases hb:(c.getD i 0==k)with
  |false=>
   rw[hb,ABS]at h;obtain⟨j,h1,h2,h3⟩:=WT h;grind
  |true=>
   rw[hb,ABR,ABG,ABI]at h;rcases h with h|h
   ·obtain⟨j,h1,h2,h3⟩:=WT h;exact⟨j,h1,J,h3⟩
   grind
theorem Zs(c:By)(k:Int):∀i,(QT c k i).Pairwise (· < ·)
 |0=>List.Pairwise.nil
 |i+1=>by
  have hp:=Zs c k i;unfold QT;cases hb:(c.getD i 0==k)with
  |false=>grind
  |true=>
   rw[ABR,ABe];refine⟨hp,ACN _ _,λx hx y hy=>?_⟩;obtain⟨j,h1,h2,_⟩:=WT hx;grind
theorem jI(hi:i<c.length):QT c k (i+1)=bif c[i]==k then QT c k i++[(i:Int)]else QT c k i:=by rw[QT,show c.getD i 0=c[i] by simp[hi]]
theorem VA(w h:Int)(c:By)(hl:c.length<=1048576)(hf:Ph w h c=true)(k:Int)(n:Nat)(hn:Pa<=n):SB n w h c k=some (QT c k c.length):=by
 have hs:=P3 w h c hl n hn
 have h1:iter n (SN n w h c k) (([]:By),(0:Int))=some (QT c k c.length,(c.length:Int)):=P0 (SN n w h c k) (λi=>(QT c k i,(i:Int))) c.length (QT c k c.length,(c.length:Int)) (λi hi=>by
  have hr:decide ((QT c k i).length+1<=E8)=true:=TG (by have:=Yw c k i;clear hn;omega);unfold SN;rw[hs,hf];dsimp only;rw[show decide ((i:Int)<(c.length:Int))=true by rw[AAe];clear hn;omega,jI hi];simp only[ABR,ABQ,PS hi,PR hi (show c.length<=9223372036854775807 by clear hn;omega),ABX,hr];grind) (by unfold SN;grind) n ADF
 unfold SB;rw[h1];rfl
def Ys(w h:Int)(c:By)(a:It):Bool:=Ph w h c&&P2 a&&(List.range a.length).all (Xi a)&&(List.range a.length).all (Y5 c a)
def P7(c:By):By:=QT c 4 c.length
theorem kF(k:Int):∀(l:It)(z:Int),(∀p∈l,0<=XP p.2.2 k/\XP p.2.2 k<=1000)->z<=(l.map λp=>XP p.2.2 k).foldl (· + ·) z/\(l.map λp=>XP p.2.2 k).foldl (· + ·) z<=z+1000*(l.length:Int)
 | [],z,_=>OF
 |p::l,z,h=>by have h1:=h p AAk;have h2:=kF k l (z+XP p.2.2 k) λq hq=>h q (AAM _ hq);grind
theorem gT(a:It)(k:Int):0<=Vv a k/\Vv a k<=12000:=by
 unfold Vv;cases h:P2 a with
 |false=>grind
 |true=>
  rw[ABR];obtain⟨h1,h2⟩:=iX h
  have:=kF k a 0 λp hp=>by obtain⟨i,hi,rfl⟩:=ABV.1 hp;exact eE (h2 i hi) k
  omega
theorem ai(a:It):∀m,m<=50->∀j,j<=50->(Re a m)[j]?=some (bif decide (1<=j)&&decide (j<=m)then Vv a (j:Int)else 0)
 |0,_,j,hj=>by
  have:(decide (1<=j)&&decide (j<=0))=false:=by rw[ACA,AAn,AAn];omega
  rw[this,ABS];show(List.replicate 51 (0:Int))[j]?=some 0;grind
 |m+1,hm,j,hj=>by have hi:=ai a m J j hj;show((Re a m).set (m+1) (Vv a ((m+1:Nat):Int)))[j]?=_;grind
theorem bX(ds:By):∀m i,i<m->(R8 ds m)[i]?=some (((i+1:Nat):Int),ds.getD i 0, -1,false,0)
 |0,i,h=>J
 |m+1,i,h=>by
  rw[R8,List.getElem?_append,UC];by_cases hi:i<m
  ·rw[AAP hi];exact bX ds m i hi
  grind
theorem XQ{ds:By}{m:Nat}(h:i<(R8 ds m).length):(R8 ds m)[i]=(((i+1:Nat):Int),ds.getD i 0, -1,false,0):=by have:=bX ds m i (by rw[UC]at h;exact h);grind
theorem gW(hi:i<(P7 c).length):QQ c ((P7 c).getD i 0)=true:=by rw[show(P7 c).getD i 0=(P7 c)[i] by simp[hi]];obtain⟨j,h1,h2,h3⟩:=WT (ABT hi);rw[h1];unfold QQ P8;grind
theorem mw(c:By):CW c (R8 (P7 c) (min (P7 c).length 20)):=by
 have key:∀r∈R8 (P7 c) (min (P7 c).length 20),∃i:Nat,i<(P7 c).length/\i<20/\r=(((i+1:Nat):Int),(P7 c).getD i 0, -1,false,0):=by intro r hr;obtain⟨i,hi,rfl⟩:=ABV.1 hr;have hi2:=hi;rw[UC]at hi2;exact⟨i,J,J,XQ hi⟩
 have hpw:=Zs c 4 c.length;refine⟨by rw[UC];omega,λr hr=>?_,λr hr=>?_,λr hr=>?_,λr hr=>?_,?_,?_⟩
 ·grind
 ·obtain⟨i,h1,h2,rfl⟩:=key r hr;exact gW h1
 ·grind
 ·grind
 ·refine ABL.2 λi j hi hj zN=>?_;rw[XQ hi,XQ hj];omega
 ·refine ABL.2 λi j hi hj zN=>?_;have hi2:=hi;have hj2:=hj;rw[UC]at hi2 hj2;have hdi:i<(P7 c).length:=J
  have hdj:j<(P7 c).length:=J
  rw[XQ hi,XQ hj];show(P7 c).getD i 0≠(P7 c).getD j 0;have:(P7 c)[i]<(P7 c)[j]:=ABL.1 hpw i j hdi hdj zN;grind
theorem ae(vH:Ys w h c a=true):Ph w h c=true/\P2 a=true/\(∀p∈a,∀s∈p.2.2,s.2.2<=0)/\∀p∈a,P8 p.2.1 0 ((c.length:Int)-1)=true/\c.getD p.2.1.toNat 0=2:=by
 unfold Ys at vH;simp only[AAJ,AAW,AAX]at vH;obtain⟨⟨⟨h1,h2⟩,h3⟩,h4⟩:=vH;refine⟨h1,h2,λp hp s hs=>?_,λp hp=>?_⟩
 ·obtain⟨i,hi,rfl⟩:=ABV.1 hp;obtain⟨k,hk,rfl⟩:=ABV.1 hs;have:=h3 i hi;unfold Xi at this;rw[AAI hi]at this;have:=AAW.1 this k (AAX.2 hk);grind
 ·obtain⟨i,hi,rfl⟩:=ABV.1 hp;have:=h4 i hi;unfold Y5 at this;grind
theorem gH(a:It){j:Nat}(hj:j<=50):(Re a 50)[j]?=some (bif decide (1<=j)then Vv a (j:Int)else 0):=by rw[ai a 50 J j hj,ABW (show j<=50 from hj),ACC]
structure nO(nx:Int)(l:ADE):Prop where
 sm:Qi (nx,l)
 len:l.length<=29
 Su:eG l
 cD:Uv nx l->∀o∈l,o.2.2.2.1.length<=72
theorem nO.both{l:ADE}(h:nO nx l)(n:Nat)(hn:Pa<=n):∃b,Qo n nx l=some b/\Qz n nx l=some b/\(b=true↔Uv nx l):=by
 obtain⟨b1,e1,i1⟩:=X6 h.sm h.Su n hn;obtain⟨b2,e2,i2⟩:=Tp h.sm n hn
 have:b1=b2:=by rw[ABx,i1,i2];exact⟨λq=>q.1,λq=>⟨q,h.cD q⟩⟩
 grind
abbrev sY:=It×Int×ADE×Int
structure dV(s:It)(nx:Int)(l:ADE)(desk:Int)(it:ADB)(o:AAD):Prop where
 st:Pf s
 im:Wt it
 ne:0<it.length
 dk:0<=desk/\desk<=99
 bk:Uv nx l
 lt:nx<1000000
 fit:Fits s o
 pg:PG o it
 cD:o.length<=72
def pd(s:It)(nx:Int)(l:ADE)(desk:Int)(it:ADB)(o:AAD):sY:=(Pz s (tp o),nx+1,l++[(nx,desk,it,o,1)],nx)
def pv(s:It)(nx:Int)(l:ADE)(desk:Int)(it:ADB)(r:sY):Prop:=r=(s,nx,l,0)\/∃o,dV s nx l desk it o/\r=pd s nx l desk it o
theorem aC(s:It)(hs:Pq s){l:ADE}(hq:nO nx l)(desk:Int)(it:ADB)(hit:it.length<=1000)(n:Nat)(hn:Pa<=n)(b:Bool)(eb:Qo n nx l=some b)(o:AAD)(pb:Bool)(ep:Sw n s it=some (o,pb)):
  Sv n s nx l desk it=some (bif P2 s&&b&&P8 desk 0 99 && !((it.length:Int)==0) && !(nx==1000000)&&pb then((SE Vd s o).1,PV (nx+1),l++[(nx,desk,it,o,1)],nx)else(s,nx,l,0))\/1048576<o.length:=by
 by_cases ho:1048576<o.length
 ·exact .inr ho
 left;have h29:=hq.len;unfold Sv;rw[SP nx l hq.sm n hn,ABQ,P9 s hs n hn,eb];simp only[ABQ,Qh,Pg s hs n hn,ep];rw[show((l.length:Int)==30)=false by rw[ABY];clear hn;omega];have h1:decide (([]:ADB).length+it.length<=E8)=true:=U9 No;have h2:decide (l.length+1<=E8)=true:=TG J;cases P2 s with
 |false=>rfl
 |true=>
 cases b with
 |false=>rfl
 |true=>
 cases P8 desk 0 99 with
 |false=>rfl
 |true=>
 cases((it.length:Int)==0)with
 |true=>rfl
 |false=>
 cases(nx==1000000)with
 |true=>rfl
 |false=>
 cases pb with
 |false=>rfl
 |true=>
  simp only[ABZ,ABq,ABS,ABR,ABQ,ACD,ABX,h1,h2,AAv];rw[aG s hs o J n hn];rfl
theorem Zy(s:It)(hs:Pq s){l:ADE}(hq:nO nx l)(desk:Int)(it:ADB)(hit:it.length<=1000)(n:Nat)(hn:Pa<=n)(b:Bool)(eb:Qz n nx l=some b)(o:AAD)(ho:o.length<=1048576)(pb:Bool)(ep:UE n s it=some (o,pb)):
  UI n s nx l desk it=some (bif P2 s&&b&&P8 desk 0 99 && !((it.length:Int)==0)&&U4 it && !(decide (nx>=1000000))&&(pb&&(SE Vd s o).2)then((SE Vd s o).1,PV (nx+1),l++[(nx,desk,it,o,1)],nx)else(s,nx,l,0)):=by
 have h29:=hq.len;unfold UI;rw[Qr s hs n hn,eb];simp only[ABQ,Vt,Qh,QJ s hs n hn,U1 nx l hq.sm n hn,ep,XU s hs o ho n hn,Rh it (show it.length<=1048576 by omega) n hn];rw[show decide ((l.length:Int)>=30)=false by rw[AAn];clear hn;omega];have h1:decide (it.length<=E8)=true:=U9 J;have h2:decide (l.length+1<=E8)=true:=TG J;unfold QU;simp only[h1,ABX,h2,ABR,ABQ];cases P2 s with
 |false=>rfl
 |true=>
 grind
theorem fA(s:It)(hs:Pq s){l:ADE}(hq:nO nx l)(desk:Int)(it:ADB)(hit:it.length<=1000)(n:Nat)(hn:Pa<=n):∃r,Sv n s nx l desk it=some r/\UI n s nx l desk it=some r/\pv s nx l desk it r:=by
 obtain⟨b,eb1,eb2,hb⟩:=hq.both n hn;obtain⟨o,pb,ep1,ep2,hp1,yB⟩:=jE s hs it J n hn
 have ho:o.length<=72:=by
  cases pb with
  |true=>grind
  |false=>grind
 have e1:=(aC s hs hq desk it hit n hn b eb1 o pb ep1).resolve_right J;have e2:=Zy s hs hq desk it hit n hn b eb2 o J pb ep2;cases pb with
 |false=>
  refine⟨(s,nx,l,0),?_,?_,.inl rfl⟩
  all_goals grind
 |true=>
  obtain⟨hS,hI,hpg,hft,_⟩:=hp1 rfl;have hH:=dn hS hft;rw[hH.1]at e1 e2;rw[U5.2 hI]at e2;by_cases hB:Uv nx l
  ·have hnx:=hB.1;rw[hb.2 hB]at e1 e2
   have uV:(!(nx==1000000)) = !(decide (nx>=1000000)):=by
    by_cases h:nx=1000000
    ·rw[h];rfl
    ·grind
   rw[uV]at e1;by_cases vH:(P8 desk 0 99 && !((it.length:Int)==0) && !(decide (nx>=1000000)))=true
   ·have hfull:(P2 s&&true&&P8 desk 0 99 && !((it.length:Int)==0) && !(decide (nx>=1000000))&&true)=true:=by rw[P1.2 hS];simp only[ACC,ABp];exact vH
    have hfull2:(P2 s&&true&&P8 desk 0 99 && !((it.length:Int)==0)&&true && !(decide (nx>=1000000))&&(true&&true))=true:=by rw[P1.2 hS];simp only[ACC,ABp];exact vH
    rw[hfull,ABR]at e1;dsimp only at e2;rw[hfull2,ABR]at e2;simp only[AAJ,AAV,ABY,AAn]at vH
    have hdk:0<=desk/\desk<=99:=by have:=vH.1.1;unfold P8 at this;simp only[AAJ,AAe]at this;exact this
    have hw:PV (nx+1)=nx+1:=PY J J;rw[hw]at e1 e2;exact⟨_,e1,e2,.inr ⟨o,⟨hS,hI,J,hdk,hB,J,hft,hpg,ho⟩,rfl⟩⟩
   ·have yO:(P2 s&&true&&P8 desk 0 99 && !((it.length:Int)==0) && !(decide (nx>=1000000))&&true)=false:=by rw[<-ABm,P1.2 hS];simp only[ACC,ABp];exact vH
    have hno2:(P2 s&&true&&P8 desk 0 99 && !((it.length:Int)==0)&&true && !(decide (nx>=1000000))&&(true&&true))=false:=by rw[<-ABm,P1.2 hS];simp only[ACC,ABp];exact vH
    rw[yO,ABS]at e1;dsimp only at e2;rw[hno2,ABS]at e2;exact⟨_,e1,e2,.inl rfl⟩
  ·have hbf:b=false:=by
    cases b with
    |true=>grind
    |false=>rfl
   rw[hbf,Bool.and_false,ABw,ABw,ABw,ABw,ABS]at e1;rw[hbf,Bool.and_false,ABw,ABw,ABw,ABw,ABw,ABS]at e2;exact⟨_,e1,e2,.inl rfl⟩
theorem dV.book{s:It}{l:ADE}{desk:Int}{it:ADB}(h:dV s nx l desk it o)(h29:l.length<=29):Uv (nx+1) (l++[(nx,desk,it,o,1)]):=by
 have hb:=h.bk;have uR:=h.lt;refine⟨⟨by have:=hb.1;omega,J⟩,No,?_,λq hq=>?_⟩
 ·refine ABe.2 ⟨hb.2.2.1,ACN _ _,λx hx y hy=>?_⟩;rw[ABI.1 hy];have:=(hb.2.2.2 x hx).1;omega
 ·rcases ABG.1 hq with hq|hq
  ·obtain⟨⟨q1,q2⟩,q3⟩:=hb.2.2.2 q hq;exact⟨⟨q1,J⟩,q3⟩
  ·rw[ABI.1 hq];exact⟨⟨by show 1<=nx;have:=hb.1;omega,J⟩,h.dk,⟨h.im,h.ne⟩,h.pg,⟨No,No⟩⟩
theorem gF{m:Int}{l:ADE}(h:Qi (nx,l))(hl:l.length<=1000)(x:Pv)(hi:x.2.2.1.length<=1000)(hp:x.2.2.2.1.length<=1000):Qi (m,l++[x]):=by
 refine⟨No,λo ho=>?_⟩;rcases ABG.1 ho with ho|ho
 ·exact h.2 o ho
 ·rw[ABI.1 ho];exact⟨by show x.2.2.1.length<=_;omega,by show x.2.2.2.1.length<=_;omega⟩
def QR(l:ADE)(id:Int):Option Pv:=l.find? λo=>o.1==id
def Te(crew:ADC)(id:Int):Option Pt:=crew.find? λr=>r.1==id
def TX(a:It)(l:ADE)(t:Pm):Int:=if t.2.2.2=3 then(match QR l t.1 with|some o=>o.2.1|none=>0)else(match XZ a t.2.1 with|some p=>p.2.1|none=>0)
structure Sl(a:It)(l:ADE)(crew:ADC)(t:Pm):Prop where
 ord:∃o,QR l t.1=some o/\o.2.2.2.2=1/\∃p∈o.2.2.2.1,p.1=t.2.1
 Pj:∃q,XZ a t.2.1=some q
 cz:t.2.2.2≠1->∃r,Te crew t.2.2.1=some r/\r.2.2.1=TX a l t/\r.2.2.2.1=decide (2<t.2.2.2)
structure DI(w h:Int)(c:By)(a:It)(nx:Int)(l:ADE)(crew:ADC)(ts:AAH):Prop where
 fl:Ph w h c=true
 st:Pf a
 hm:∀p∈a,QQ c p.2.1=true
 bk:Uv nx l
 KU:eG l
 cD:∀o∈l,o.2.2.2.1.length<=72
 dk:∀o∈l,QQ c o.2.1=true
 cw:CW c crew
 Ws:TP ts
 tk:∀t∈ts,Sl a l crew t
structure DW(w h:Int)(c:By)(a:It)(l:ADE)(crew:ADC)(ts:AAH):Prop where
 fl:Ph w h c=true
 st:Pf a
 cw:CW c crew
 Ws:TP ts
 tk:∀t∈ts,Sl a l crew t
theorem DI.dw{l:ADE}(d:DI w h c a nx l crew ts):DW w h c a l crew ts:=⟨d.fl,d.st,d.cw,d.Ws,d.tk⟩
def WS(a b:It):Prop:=∀id,(XZ b id).map (·.2.1)=(XZ a id).map (·.2.1)
theorem WS.goal{b:It}(h:WS a b){l k:ADE}(ho:QR k t.1=QR l t.1):TX b k t=TX a l t:=by
 unfold TX;rw[ho];split
 ·rfl
 ·have:=h t.2.1;grind
theorem Sl.same{b:It}(h:WS a b){l k:ADE}(ho:QR k t.1=QR l t.1)(ht:Sl a l crew t):Sl b k crew t:=by
 refine⟨by rw[ho];exact ht.ord,?_,λe=>?_⟩
 ·obtain⟨q,hq⟩:=ht.Pj;have:=h t.2.1;rw[hq]at this;cases e1:XZ b t.2.1 with
  |none=>grind
  |some q2=>grind
 ·rw[h.goal ho];exact ht.cz e
theorem lH(a:It)(f:Int->Int->Int):WS a (Pz a f):=by intro id;unfold XZ Pz;rw[List.find?_map,Option.map_map];rfl
theorem jb{l:ADE}{o:Pv}(h:QR l id=some o)(x:Pv):QR (l++[x]) id=QR l id:=by unfold QR at h ⊢;grind
theorem gv{l:ADE}{x:Pv}(h:∀o∈l,o.1<x.1):QR (l++[x]) x.1=some x:=by unfold QR;grind
theorem Qe{l:ADE}{o:Pv}(h:QR l id=some o):o∈l/\o.1=id:=⟨ABn h,by simpa using List.find?_some h⟩
theorem TF{p:Pb}(h:XZ a id=some p):p∈a/\p.1=id:=⟨ABn h,by simpa using List.find?_some h⟩
theorem Xu(h:∃p∈a,p.1=id):∃q,XZ a id=some q:=by
 obtain⟨p,hp,e⟩:=h;unfold XZ;cases hq:a.find? λp=>p.1==id with
 |some q=>grind
 |none=>
  grind
theorem eS:∀(ps:AAD)(s:By),s.Nodup->(ps.foldl Vf s).Nodup/\∀x,x∈ps.foldl Vf s↔x∈s\/∃p∈ps,p.1=x
 | [],s,hs=>⟨hs,λx=>OF⟩
 |p::ps,s,hs=>by
  have hn:(Vf s p).Nodup/\∀x,x∈Vf s p↔x∈s\/p.1=x:=by
   unfold Vf;cases ha:s.any λy=>y==p.1 with
   |true=>
    rw[ABR];obtain⟨y,hy,e⟩:=AA5.1 ha;have e:=AAT.1 e
    exact⟨hs,λx=>⟨λh=>.inl h,λh=>by
     rcases h with h|h
     ·exact h
     ·rw[<-h,<-e];exact hy⟩⟩
   |false=>
    rw[ABS]
    have yO:p.1∉s:=λhm=>by rw[<-ABm]at ha;exact ha (AA5.2 ⟨p.1,hm,ABr _⟩)
    refine⟨AAY.2 ⟨hs,OF,λx hx y hy e=>?_⟩,λx=>?_⟩
    ·rw[ABI.1 hy]at e;exact yO (e▸hx)
    ·rw[ABG,ABI];exact⟨λh=>h.imp id λe=>e.symm,λh=>h.imp id λe=>e.symm⟩
  obtain⟨i1,i2⟩:=eS ps (Vf s p) hn.1;grind
theorem Xc{x:Int}:x∈Su ps↔∃p∈ps,p.1=x:=by have:=(eS ps [] AAS).2 x;unfold Su;grind
theorem hX(ps:AAD):(Su ps).Nodup:=(eS ps [] AAS).1
theorem RY{l:AAH}:TP l↔l.length<=60/\(∀x∈l,P6 x=true)/\l.Pairwise λu x=>Pu x u=false:=by
 constructor
 ·intro h
  exact⟨h.len,λx hx=>by
   obtain⟨i,hi,rfl⟩:=ABV.1 hx;exact h.fO i hi,ABL.2 λi j hi hj zN=>h.apart j i hj zN⟩
 ·rintro ⟨h1,h2,h3⟩
  exact⟨h1,λi hi=>h2 _ (ABT hi),λi j hi hj=>ABL.1 h3 j i J hi hj⟩
theorem bT{x u:Pm}(hx:x.2.2.2=1)(h:x.1≠u.1\/x.2.1≠u.2.1):Pu x u=false:=by unfold Pu;grind
theorem DI.take{l:ADE}(d:DI w h c a nx l crew ts){desk:Int}{it:ADB}(T:dV a nx l desk it o)(hdk:QQ c desk=true)(h29:l.length<=29)(hlen:ts.length+(Su o).length<=60):
  DI w h c (Pz a (tp o)) (nx+1) (l++[(nx,desk,it,o,1)]) crew (ts++(Su o).map λx=>(nx,x,(0:Int),(1:Int))):=by
 have hnx:=T.bk.1;have uR:=T.lt;have hids:∀y∈l,y.1<nx:=λy hy=>by have:=(T.bk.2.2.2 y hy).1;omega
 have hpo:∀p∈o,1<=p.1/\p.1<=999:=λp hp=>by obtain⟨_,_,i,hi,e⟩:=T.fit.each p hp;have:=(T.st.2.2 _ (ABT hi)).1;omega
 refine {fl:=d.fl,st:=(dn T.st T.fit).2,hm:=λp hp=>?_,bk:=T.book h29,KU:=λq hq=>?_,cD:=λq hq=>?_,dk:=λq hq=>?_,cw:=d.cw,Ws:=?_,tk:=λt ht=>?_ }
 ·unfold Pz at hp;obtain⟨q,hq,rfl⟩:=AAs.1 hp;exact d.hm q hq
 ·rcases ABG.1 hq with hq|hq
  ·exact d.KU q hq
  grind
 ·rcases ABG.1 hq with hq|hq
  ·exact d.cD q hq
  ·rw[ABI.1 hq];exact T.cD
 ·rcases ABG.1 hq with hq|hq
  ·exact d.dk q hq
  grind
 ·obtain⟨t1,t2,t3⟩:=RY.1 d.Ws;refine RY.2 ⟨No,λx hx=>?_,ABe.2 ⟨t3,?_,λu hu x hx=>?_⟩⟩
  ·rcases ABG.1 hx with hx|hx
   ·exact t2 x hx
   ·obtain⟨y,hy,rfl⟩:=AAs.1 hx;obtain⟨p,hp,e⟩:=Xc.1 hy;have:=hpo p hp;rw[e]at this;unfold P6;grind
  ·rw[ABh];exact(hX o).imp fun {x y} uV=>bT rfl (.inr λe=>uV e.symm)
  ·obtain⟨y,hy,rfl⟩:=AAs.1 hx;refine bT rfl (.inl ?_);obtain⟨oo,ho,_⟩:=(d.tk u hu).ord;obtain⟨hm,e⟩:=Qe ho;grind
 ·rcases ABG.1 ht with ht|ht
  ·have hd:=d.tk t ht;obtain⟨oo,ho,_⟩:=hd.ord;exact hd.same (lH a (tp o)) (jb ho _)
  ·obtain⟨y,hy,rfl⟩:=AAs.1 ht;obtain⟨p,hp,e⟩:=Xc.1 hy;refine⟨⟨_,gv (x:=(nx,desk,it,o,1)) hids,rfl,p,hp,e⟩,?_,λe=>(e rfl).elim⟩;obtain⟨_,_,i,hi,e2⟩:=T.fit.each p hp;refine Xu ⟨iy (tp o) a[i],?_,e2.trans e⟩;unfold Pz;grind
def WO(crew:ADC)(id:Int)(f:Pt->Pt):ADC:=crew.map λr=>bif r.1==id then f r else r
theorem cu(crew:ADC)(id:Int)(f:Pt->Pt):(WO crew id f).length=crew.length:=by unfold WO;grind
theorem QA{r:Pt}(h:Te crew id=some r):r∈crew/\r.1=id:=⟨ABn h,by simpa using List.find?_some h⟩
theorem gB(h:crew.Pairwise λr s=>r.1<s.1){r s:Pt}(hr:r∈crew)(hs:s∈crew)(e:r.1=s.1):r=s:=by
 obtain⟨i,hi,rfl⟩:=ABV.1 hr;obtain⟨j,hj,rfl⟩:=ABV.1 hs;rcases ABd i j with hl|hl|hl
 ·have:=ABL.1 h i j hi hj hl;omega
 ·subst hl;rfl
 ·have:=ABL.1 h j i hj hi hl;omega
theorem aA(hf:∀r,(f r).1=r.1)(k:Int):Te (WO crew id f) k=(Te crew k).map λr=>bif r.1==id then f r else r:=by
 unfold Te WO;rw[List.find?_map]
 have:((λr:Pt=>r.1==k) ∘ λr:Pt=>bif r.1==id then f r else r)=λr:Pt=>r.1==k:=funext λr=>No
 rw[this]
theorem CW.DL(h:CW c crew)(hf:∀r,(f r).1=r.1/\(f r).2.1=r.2.1)(hg:∀r∈crew,r.1=id->((f r).2.2.1 = -1\/QQ c (f r).2.2.1=true)/\0<=(f r).2.2.2.2/\(f r).2.2.2.2<=1000000):CW c (WO crew id f):=by
 have key:∀r,(bif r.1==id then f r else r:Pt).1=r.1/\(bif r.1==id then f r else r:Pt).2.1=r.2.1:=λr=>No
 have mem:∀s∈WO crew id f,∃r∈crew,s=(bif r.1==id then f r else r:Pt):=λs hs=>by unfold WO at hs;obtain⟨r,hr,e⟩:=AAs.1 hs;grind
 refine⟨by rw[cu];exact h.n20,λs hs=>?_,λs hs=>?_,λs hs=>?_,λs hs=>?_,?_,?_⟩
 ·obtain⟨r,hr,rfl⟩:=mem s hs;rw[(key r).1];exact h.nT r hr
 ·obtain⟨r,hr,rfl⟩:=mem s hs;rw[(key r).2];exact h.iE r hr
 ·obtain⟨r,hr,rfl⟩:=mem s hs;by_cases e:r.1=id
  ·grind
  ·rw[show(r.1==id)=false from ABY.2 e];exact h.goal r hr
 ·obtain⟨r,hr,rfl⟩:=mem s hs;by_cases e:r.1=id
  ·grind
  ·rw[show(r.1==id)=false from ABY.2 e];exact h.mq r hr
 ·unfold WO;rw[ABh];exact h.ids.imp fun {r s} hrs=>No
 ·unfold WO;rw[ABh];exact h.dA.imp fun {r s} hrs=>No
theorem dZ{x u:Pm}(h:Pu x u=false)(hx:x.2.2.2≠1):x.2.2.1≠u.2.2.1:=λe=>by unfold Pu at h;grind
theorem aX{s:Int}(ht:t.2.2.2≠1)(hs:s≠1)(u:Pm):Pu (t.1,t.2.1,t.2.2.1,s) u=Pu t u/\Pu u (t.1,t.2.1,t.2.2.1,s)=Pu u t:=by unfold Pu;grind
theorem gY{s:Int}(h:P6 t=true)(ht:t.2.2.2≠1)(hs:2<=s/\s<=4):P6 (t.1,t.2.1,t.2.2.1,s)=true:=by unfold P6 at h ⊢;grind
theorem TP.mg(h:TP (x++t::y))(ht:t.2.2.2≠1){s:Int}(hs:2<=s/\s<=4):TP (x++(t.1,t.2.1,t.2.2.1,s)::y):=by
 obtain⟨t1,t2,t3⟩:=RY.1 h;obtain⟨p1,p2,p3⟩:=ABe.1 t3;obtain⟨p4,p5⟩:=ABf.1 p2;have w8:s≠1:=J
 refine RY.2 ⟨No,λu hu=>?_,ABe.2 ⟨p1,ABf.2 ⟨λu hu=>?_,p5⟩,λu hu v hv=>?_⟩⟩
 ·rcases ABG.1 hu with hu|hu
  ·grind
  ·rcases AAf.1 hu with rfl|hu
   ·exact gY (t2 t (AAR _ AAk)) ht hs
   grind
 ·rw[(aX ht w8 u).2];exact p4 u hu
 ·rcases AAf.1 hv with rfl|hv
  ·rw[(aX ht w8 u).1];exact p3 u hu t AAk
  grind
theorem TP.sub(h:TP y)(hs:x.Sublist y):TP x:=by obtain⟨t1,t2,t3⟩:=RY.1 h;exact RY.2 ⟨AA2 hs.length_le t1,λu hu=>t2 u (hs.subset hu),t3.sublist hs⟩
theorem TP.two(h:TP (x++t::y))(ht:t.2.2.2≠1){u:Pm}(hu:u∈x\/u∈y)(hu1:u.2.2.2≠1):u.2.2.1≠t.2.2.1:=by
 obtain⟨_,_,t3⟩:=RY.1 h;obtain⟨p1,p2,p3⟩:=ABe.1 t3;obtain⟨p4,p5⟩:=ABf.1 p2;rcases hu with hu|hu
 ·exactλe=>dZ (p3 u hu t AAk) ht e.symm
 ·exact dZ (p4 u hu) hu1
theorem Sl.other{b:It}(hsp:WS a b){l:ADE}{u:Pm}(h:Sl a l crew u)(hf:∀r,(f r).1=r.1)(uV:u.2.2.2≠1->u.2.2.1≠id):Sl b l (WO crew id f) u:=by have h2:=h.same hsp (k:=l) rfl;refine⟨h2.ord,h2.Pj,λe=>?_⟩;obtain⟨r,q1,q2⟩:=h2.cz e;refine⟨r,?_,q2⟩;rw[aA hf,q1,AA0,show(r.1==id)=false from ABY.2 λe2=>uV e ((QA q1).2.symm.trans e2),ABS]
theorem DI.kL{w h:Int}{c:By}{a:It}{nx:Int}{l:ADE}{crew:ADC}{x y:AAH}{t:Pm}(d:DI w h c a nx l crew (x++t::y))(ht:t.2.2.2≠1){b:It}(hb:Pf b)(hsp:WS a b)(hbm:∀p∈b,QQ c p.2.1=true){s:Int}(hs:2<=s/\s<=4){f:Pt->Pt}(hf:∀r,(f r).1=r.1/\(f r).2.1=r.2.1)
  (vV:∀r,Te crew t.2.2.1=some r->(f r).2.2.1=TX b l (t.1,t.2.1,t.2.2.1,s)/\(f r).2.2.2.1=decide (2<s)/\0<=(f r).2.2.2.2/\(f r).2.2.2.2<=1000000):DI w h c b nx l (WO crew t.2.2.1 f) (x++(t.1,t.2.1,t.2.2.1,s)::y):=by
 have hT:=d.tk t (AAR _ AAk);obtain⟨o,ho,wc,we⟩:=hT.ord;obtain⟨r0,hr0,_,_⟩:=hT.cz ht;obtain⟨q,hq⟩:=(hT.same hsp (k:=l) rfl).Pj
 have hgoal:QQ c (TX b l (t.1,t.2.1,t.2.2.1,s))=true:=by
  unfold TX;dsimp only;split
  ·rw[ho];exact d.dk o (Qe ho).1
  ·rw[hq];exact hbm q (TF hq).1
 refine {fl:=d.fl,st:=hb,hm:=hbm,bk:=d.bk,KU:=d.KU,cD:=d.cD,dk:=d.dk,cw:=d.cw.DL hf λr hr e=>?_,Ws:=d.Ws.mg ht hs,tk:=λu hu=>?_ }
 ·have yP:r=r0:=gB d.cw.ids hr (QA hr0).1 (e.trans (QA hr0).2.symm);grind
 ·have hoth:∀u,u∈x\/u∈y->Sl b l (WO crew t.2.2.1 f) u:=λu hu=>(d.tk u (by
   grind)).other hsp (λr=>(hf r).1) λe=>d.Ws.two ht hu e
  rcases ABG.1 hu with hu|hu
  ·grind
  ·rcases AAf.1 hu with rfl|hu
   ·refine⟨⟨o,ho,wc,we⟩,⟨q,hq⟩,λ_=>⟨f r0,?_,(vV r0 hr0).1,(vV r0 hr0).2.1⟩⟩;rw[aA λr=>(hf r).1];show(Te crew t.2.2.1).map _=_;rw[hr0,AA0,show(r0.1==t.2.2.1)=true from AAT.2 (QA hr0).2,ABR]
   grind
theorem DI.gone{l:ADE}(d:DI w h c a nx l crew (x++t::y))(ht:t.2.2.2≠1)(hf:∀r,(f r).1=r.1/\(f r).2.1=r.2.1)(vV:∀r,(f r).2.2.1 = -1/\0<=(f r).2.2.2.2/\(f r).2.2.2.2<=1000000):DI w h c a nx l (WO crew t.2.2.1 f) (x++y):=by
 refine {fl:=d.fl,st:=d.st,hm:=d.hm,bk:=d.bk,KU:=d.KU,cD:=d.cD,dk:=d.dk,cw:=d.cw.DL hf λr hr e=>⟨.inl (vV r).1,(vV r).2⟩,Ws:=d.Ws.sub ((List.Sublist.refl x).append (List.sublist_cons_self t y)),tk:=λu hu=>?_ };have hu2:=ABG.1 hu
 exact(d.tk u (by
  grind)).other (λ_=>rfl) (λr=>(hf r).1) λe=>d.Ws.two ht hu2 e
def R7(l:ADE)(id st:Int):ADE:=l.map λo=>bif o.1==id then(o.1,o.2.1,o.2.2.1,o.2.2.2.1,st)else o
theorem cK(l:ADE)(id st k:Int)(hk:k≠id):QR (R7 l id st) k=QR l k:=by
 unfold QR R7;rw[List.find?_map]
 have:((λo:Pv=>o.1==k) ∘ λo:Pv=>bif o.1==id then(o.1,o.2.1,o.2.2.1,o.2.2.2.1,st)else o)=λo:Pv=>o.1==k:=funext λo=>No
 rw[this];cases h:l.find? λo=>o.1==k with
 |none=>rfl
 |some o=>
  grind
theorem DI.Dh{l:ADE}(d:DI w h c a nx l crew ts){b:It}(hb:Pf b)(hsp:WS a b)(hbm:∀p∈b,QQ c p.2.1=true){st:Int}(wc:1<=st/\st<=3){us:AAH}(vS:us.Sublist ts)(yO:∀t∈us,t.1≠id):DI w h c b nx (R7 l id st) crew us:=by
 have mem:∀q∈R7 l id st,∃o∈l,q=(bif o.1==id then(o.1,o.2.1,o.2.2.1,o.2.2.2.1,st)else o:Pv):=λq hq=>by unfold R7 at hq;grind
 have key:∀o:Pv,(bif o.1==id then(o.1,o.2.1,o.2.2.1,o.2.2.2.1,st)else o:Pv).1=o.1/\(bif o.1==id then(o.1,o.2.1,o.2.2.1,o.2.2.2.1,st)else o:Pv).2.1=o.2.1/\(bif o.1==id then(o.1,o.2.1,o.2.2.1,o.2.2.2.1,st)else o:Pv).2.2.1=o.2.2.1/\(bif o.1==id then(o.1,o.2.1,o.2.2.1,o.2.2.2.1,st)else o:Pv).2.2.2.1=o.2.2.2.1:=λo=>No
 obtain⟨b1,b2,b3,b4⟩:=d.bk;refine {fl:=d.fl,st:=hb,hm:=hbm,bk:=⟨b1,by unfold R7;grind,?_,λq hq=>?_⟩,KU:=λq hq=>?_,cD:=λq hq=>?_,dk:=λq hq=>?_,cw:=d.cw,Ws:=d.Ws.sub vS,tk:=λt ht=>(d.tk t (vS.subset ht)).same hsp (cK l id st t.1 (yO t ht)) }
 ·unfold R7;rw[ABh];exact b3.imp fun {x y} hxy=>No
 ·obtain⟨o,ho,rfl⟩:=mem q hq;obtain⟨k1,k2,k3,k4⟩:=key o;obtain⟨g1,g2,g3,g4,g5⟩:=b4 o ho;unfold fC;rw[k1,k2,k3,k4];refine⟨g1,g2,g3,g4,?_⟩;cases(o.1==id)
  all_goals grind
 ·obtain⟨o,ho,rfl⟩:=mem q hq;rw[(key o).2.2.2];exact d.KU o ho
 ·obtain⟨o,ho,rfl⟩:=mem q hq;rw[(key o).2.2.2];exact d.cD o ho
 ·obtain⟨o,ho,rfl⟩:=mem q hq;rw[(key o).2.1];exact d.dk o ho
theorem DI.pW{l:ADE}(d:DI w h c a nx l crew ts){b:It}(hb:Pf b)(hsp:WS a b)(hbm:∀p∈b,QQ c p.2.1=true):DI w h c b nx l crew ts:=
 { d with st:=hb,hm:=hbm,tk:=λt ht=>(d.tk t ht).same hsp rfl }
theorem DW.step{l:ADE}(d:DW w h c a l crew ts)(hc:CW c crew')(hs:∀id,(Te crew' id).map (λr=>(r.2.2.1,r.2.2.2.1))=(Te crew id).map (λr=>(r.2.2.1,r.2.2.2.1))):DW w h c a l crew' ts:=
 have key:∀t∈ts,Sl a l crew' t:=λt ht=>by
  have hT:=d.tk t ht;refine⟨hT.ord,hT.Pj,λe=>?_⟩;obtain⟨r,q1,q2,q3⟩:=hT.cz e;have:=hs t.2.2.1;rw[q1]at this;cases e1:Te crew' t.2.2.1 with
  |none=>grind
  |some r'=>
   grind
 { d with cw:=hc,tk:=key }
theorem jY{α β:Type}{f:α->β}{l:List α}(h:(l.map f).Nodup){x y:α}(hx:x∈l)(hy:y∈l)(e:f x=f y):x=y:=by
 obtain⟨i,hi,rfl⟩:=ABV.1 hx;obtain⟨j,hj,rfl⟩:=ABV.1 hy;have hp:=ABh.1 h;rcases ABd i j with hl|hl|hl
 ·exact(ABL.1 hp i j hi hj hl e).elim
 ·subst hl;rfl
 ·exact(ABL.1 hp j i hj hi hl e.symm).elim
theorem Xd(h:crew.Pairwise λr s=>r.1<s.1){k:Nat}(hk:k<crew.length):Te crew crew[k].1=some crew[k]:=by
 cases hq:Te crew crew[k].1 with
 |none=>
  unfold Te at hq;have:=ACI.1 hq _ (ABT hk);simp at this
 |some r=>rw[gB h (QA hq).1 (ABT hk) (QA hq).2]
theorem Zw(ha:Pf a){l:ADE}(h3:t.2.2.2≠3)(hi:i<a.length)(e:a[i].1=t.2.1):TX a l t=a[i].2.1:=by obtain⟨q,hq⟩:=Xu (a:=a) (id:=t.2.1) ⟨_,ABT hi,e⟩;have:q=a[i]:=Xa ha hi (TF hq).1 ((TF hq).2.trans e.symm);unfold TX;grind
theorem DW.jn{l:ADE}(d:DW w h c a l crew ts)(hd:j8 w h c a crew ts prs){ts':AAH}(hs:gP a crew ts prs crew' ts'):DW w h c a l crew' ts':=by
 have zd:c.length<=1048576:=by have:=(TS d.fl).le;omega
 have hal:a.length<=1048576:=by have:=d.st.1;omega
 have hcw:CW c crew':=hs.crew zd d.fl hd d.cw
 have key:∀t∈ts',Sl a l crew' t:=λt ht=>by
  obtain⟨i,vw,rfl⟩:=ABV.1 ht;have hi:i<ts.length:=by rw[<-hs.l2];exact vw
  have hT:=d.tk _ (ABT hi);rcases hs.tk i hi vw with⟨p,hp,e1,e2⟩|⟨yO,e2⟩
  ·rw[e2];obtain⟨hk,r1,r2,r3,r4,r5⟩:=hd.cz d.cw hp;have vh:p.2<crew'.length:=by rw[hs.l1];exact hk
   refine⟨hT.ord,hT.Pj,λ_=>?_⟩;rcases hs.rb p.2 hk vh with⟨p',hp',e3,e4⟩|⟨yO,_⟩
   ·have hpp:p'=p:=jY hd.n2 hp' hp e3;subst hpp;obtain⟨q1,q2,q3,j,hj,q4,q5,q6⟩:=hd.Ws hal hp';subst e1;rw[aU q1]at e4;refine⟨crew'[p'.2],?_,?_,?_⟩
    ·show Te crew' (ZE crew p'.2).1=_;rw[Z8 hk];have:=Xd hcw.ids vh;rw[e4]at this ⊢;exact this
    ·rw[e4];show Qm a ts[p'.1].2.1=_;rw[q6];exact(Zw (t:=(ts[p'.1].1,ts[p'.1].2.1,(ZE crew p'.2).1,2)) d.st (by show(2:Int)≠3;omega) hj q5).symm
    ·rw[e4];show crew[p'.2].2.2.2.1=decide ((2:Int)<2);rw[r4];rfl
   grind
  ·rw[e2];refine⟨hT.ord,hT.Pj,λe=>?_⟩;obtain⟨r,g1,g2,g3⟩:=hT.cz e;obtain⟨k,hk,hr⟩:=ABV.1 (QA g1).1;have vh:k<crew'.length:=by rw[hs.l1];exact hk
   have hid:crew[k].1=ts[i].2.2.1:=by rw[hr];exact(QA g1).2
   rcases hs.rb k hk vh with⟨p,hp,e3,_⟩|⟨_,e4⟩
   ·obtain⟨hk2,_,_,_,_,r5⟩:=hd.cz d.cw hp;grind
   ·have:=Xd hcw.ids vh;grind
 exact { d with cw:=hcw,Ws:=hs.tasks hal hd d.Ws d.cw,tk:=key }
theorem DI.jn{l:ADE}(d:DI w h c a nx l crew ts)(hd:j8 w h c a crew ts prs){ts':AAH}(hs:gP a crew ts prs crew' ts'):DI w h c a nx l crew' ts':=
 { d with cw:=(d.dw.jn hd hs).cw,Ws:=(d.dw.jn hd hs).Ws,tk:=(d.dw.jn hd hs).tk }
theorem DW.pj{l:ADE}(d:DW w h c a l crew ts)(hc:CW c crew')(hl:crew'.length=crew.length)(hs:∀k (h1:k<crew.length) (h2:k<crew'.length),crew'[k].1=crew[k].1/\crew'[k].2.2.1=crew[k].2.2.1/\crew'[k].2.2.2.1=crew[k].2.2.2.1):DW w h c a l crew' ts:=by
 refine d.step hc λid=>?_;cases hq:Te crew id with
 |some r=>
  obtain⟨k,hk,hr⟩:=ABV.1 (QA hq).1;have hk2:k<crew'.length:=by rw[hl];exact hk
  obtain⟨e1,e2,e3⟩:=hs k hk hk2;have:=Xd hc.ids hk2;rw[e1,hr,(QA hq).2]at this;grind
 |none=>
  cases hq2:Te crew' id with
  |none=>rfl
  |some r=>
   obtain⟨k,hk,hr⟩:=ABV.1 (QA hq2).1;have hk2:k<crew.length:=by rw[<-hl];exact hk
   obtain⟨e1,_,_⟩:=hs k hk2 hk;unfold Te at hq;have:=ACI.1 hq _ (ABT hk2);rw[<-e1,hr,(QA hq2).2]at this;simp at this
theorem DI.pj{l:ADE}(d:DI w h c a nx l crew ts)(hc:CW c crew')(hl:crew'.length=crew.length)(hs:∀k (h1:k<crew.length) (h2:k<crew'.length),crew'[k].1=crew[k].1/\crew'[k].2.2.1=crew[k].2.2.1/\crew'[k].2.2.2.1=crew[k].2.2.2.1):DI w h c a nx l crew' ts:=
 { d with cw:=hc,tk:=(d.dw.pj hc hl hs).tk }
def YQ(x:PQ)(l:AAD)(m:AAD):AAD:=(l.filter λy=>decide (y.1<x.1))++(m++l.filter λy=>decide (x.1<y.1))
def gM(x:PQ)(l:AAD):AAD:=YQ x l (bif x.2.1==0 then []else [x])
theorem eP{x:PQ}:∀ {l:AAD},l.Pairwise (λa b=>a.1<b.1)->l.filter (λy=>y.1 != x.1)=YQ x l []
 | [],_=>rfl
 |y::r,h=>by
  obtain⟨h1,h2⟩:=ABf.1 h;have ih:=eP (x:=x) h2;unfold YQ at ih ⊢;rw[AAv]at ih ⊢;rw[ABv,ABv,ABv];rcases Int.lt_trichotomy y.1 x.1 with hl|hl|hl
  ·grind
  ·grind
  ·have hr:r.filter (λz=>decide (z.1<x.1))=[]:=List.filter_eq_nil_iff.2 λz hz=>by have:=h1 z hz;simp;omega
   grind
theorem l6{x:PQ}{l:AAD}(h:∀y∈l,y.1<x.1)(m:AAD):YQ x l m=l++m:=by unfold YQ;rw[List.filter_eq_self.2 λy hy=>No,List.filter_eq_nil_iff.2 λy hy=>No,AA1]
theorem kU{x:PQ}{l:AAD}(h:∀y∈l,x.1<=y.1)(hp:l.Pairwise λa b=>a.1<b.1)(m:AAD):YQ x l m=m++l.filter λy=>y.1 != x.1:=by rw[eP hp];unfold YQ;rw[List.filter_eq_nil_iff.2 λy hy=>by have:=h y hy;simp;omega];rfl
theorem kT{x:PQ}{y:PQ}{r:AAD}(h:y.1<x.1)(m:AAD):YQ x (y::r) m=y::YQ x r m:=by unfold YQ;grind
theorem iQ{x:PQ}{l m:AAD}{z:PQ}(h:z∈YQ x l m):(z∈l/\z.1≠x.1)\/z∈m:=by unfold YQ at h;grind
theorem kV{x:PQ}{l:AAD}(h:l.Pairwise λa b=>a.1<b.1){m:AAD}(hm:m=[]\/m=[x]):(YQ x l m).Pairwise λa b=>a.1<b.1:=by
 unfold YQ
 have hmx:∀z∈m,z.1=x.1:=λz hz=>by
  rcases hm with rfl|rfl
  ·cases hz
  ·rw[ABI.1 hz]
 refine ABe.2 ⟨h.filter _,ABe.2 ⟨by rcases hm with rfl|rfl<;>simp,h.filter _,λa ha b hb=>?_⟩,λa ha b hb=>?_⟩
 all_goals grind
theorem iP{x:PQ}{l:AAD}(h:l.Pairwise λa b=>a.1<b.1)(m:AAD):(YQ x l m).length=(l.filter λy=>y.1 != x.1).length+m.length:=by rw[eP h];unfold YQ;grind
theorem gN{l:AAD}(h:Vk l){x:PQ}(hx:(x.2.1==0)=false->1<=x.1/\x.1<=50/\1<=x.2.1/\x.2.1<=1000/\0<=x.2.2/\x.2.2<=x.2.1)(hl:(x.2.1==0)=true\/(∃z∈l,z.1=x.1)\/l.length<8):Vk (gM x l):=by
 obtain⟨h1,h2,h3⟩:=h;have hf:(l.filter λy=>y.1 != x.1).length<=l.length:=ABo _ _;unfold gM;cases hz:(x.2.1==0)with
 |true=>
  rw[ABR];refine⟨kV h1 (.inl rfl),λz hm=>?_,by rw[iP h1];simp only[ACG];omega⟩;rcases iQ hm with hm|hm
  all_goals grind
 |false=>
  rw[ABS];refine⟨kV h1 (.inr rfl),λz hm=>?_,?_⟩
  ·rcases iQ hm with hm|hm
   all_goals grind
  ·rw[iP h1,ABX];rcases hl with hl|⟨z,hzm,e⟩|hl
   ·grind
   ·have:(l.filter λy=>y.1 != x.1).length<l.length:=by rw[List.length_filter_lt_length_iff_exists];exact⟨z,hzm,by simp[e]⟩
    omega
   ·omega
theorem gp(l:AAD)(h:Vk l)(x0 x1 x2:Int)(n:Nat)(hn:Pa<=n):UN n l x0 x1 x2=some (gM (x0,x1,x2) l):=by
 have h8:=h.2.2
 have hc:=Ps (σ:=AAD×Bool) (Q4 l x0 x1 x2) (λi s=>(s.1,s.2,(i:Int))) l
  (λr s=>(s.1++(bif s.2 then r.filter (λy=>y.1 != x0)else bif r.any (λy=>decide (y.1>=x0))then YQ (x0,x1,x2) r [(x0,x1,x2)]else r),s.2||r.any (λy=>decide (y.1>=x0)),(l.length:Int)))
  (λi s=>s.1.length<=i+1/\(s.2=false->s.1.length<=i))
  (λs hs=>by
   unfold Q4;grind)
  (λi y r s h1 h2 h3 h4 h5=>by
   left;have hy:l[i]=y:=by rw[AAI h1]at h2;exact Option.some.inj h2
   obtain⟨out,put⟩:=s;dsimp only at h5 ⊢;have hpw:(y::r).Pairwise (λa b=>a.1<b.1):=h3▸h.1.drop;obtain⟨hyr,hpr⟩:=ABf.1 hpw;unfold Q4;dsimp only;rw[show decide ((i:Int)<(l.length:Int))=true by grind,ABR,PS h1,hy,PR h1 (show l.length<=9223372036854775807 by omega)];simp only[ABQ];have r1:∀(o:AAD)(z:PQ),o.length<=i+2->decide (o.length+[z].length<=E8)=true:=λo z ho=>TG J;cases put with
   |true=>
    simp only[ABZ,ABS,ABR,ABQ,Bool.true_or];by_cases he:y.1=x0
    ·rw[show(y.1 != x0)=false by simp[he]];simp only[ABS,ABQ];exact⟨(out,true),rfl,⟨No,λe=>by cases e⟩,No⟩
    ·have hb:(y.1 != x0)=true:=ADg
     rw[hb,ABR,r1 out _ J,ABR,ABQ];exact⟨(out++[y],true),rfl,⟨No,λe=>by cases e⟩,No⟩
   |false=>
    have h5i:=h5.2 rfl;simp only[ABq,ABR,ABS,ABQ,Bool.false_or];by_cases vW:y.1>=x0
    ·have hany:(y::r).any (λy=>decide (y.1>=x0))=true:=No
     have xm:=kU (x:=(x0,x1,x2)) (l:=y::r) (λz hz=>by
      grind) hpw [(x0,x1,x2)]
     rw[ABW vW,ABR,r1 out _ J,ABR,ABQ,hany,xm];dsimp only;by_cases he:y.1=x0
     ·rw[show(y.1 != x0)=false by simp[he]];simp only[ABS,ABQ];exact⟨(out++[(x0,x1,x2)],true),rfl,⟨No,λe=>by cases e⟩,No⟩
     ·have hb:(y.1 != x0)=true:=ADg
      rw[hb,ABR,r1 (out++[_]) _ No,ABR,ABQ];exact⟨(out++[(x0,x1,x2)]++[y],true),rfl,⟨No,λe=>by cases e⟩,No⟩
    ·have hany:(y::r).any (λy=>decide (y.1>=x0))=r.any (λy=>decide (y.1>=x0)):=by rw[List.any_cons,ABa vW,Bool.false_or]
     have uR:y.1<x0:=ADI
     have hb:(y.1 != x0)=true:=by rw[AB4];clear hn;omega
     rw[ABa vW,ABS,ABQ,hany,kT (x:=(x0,x1,x2)) uR];dsimp only;rw[hb,ABR,r1 out _ ADI,ABR,ABQ];refine⟨(out++[y],false),rfl,⟨by show(out++[y]).length<=i+1+1;rw[ABA,ABX];clear hn;omega,λ_=>by show(out++[y]).length<=i+1;rw[ABA,ABX];clear hn;omega⟩,?_⟩;grind)
  n ADF (([]:AAD),x1==0) ⟨OF,λ_=>OF⟩
 unfold UN gM;rw[show((0:Nat):Int)=0 from rfl]at hc;dsimp only at hc ⊢;rw[hc,ABQ];dsimp only;cases xJ:(x1==0)with
 |true=>
  simp only[ABR,Bool.true_or,ABZ,ABS,ABQ,AAv];rw[eP (x:=(x0,x1,x2)) h.1]
 |false=>
  simp only[ABS,Bool.false_or,AAv];cases ha:l.any (λy=>decide (y.1>=x0))with
  |true=>rfl
  |false=>
   simp only[ABS,ABq,ABR]
   rw[show decide (l.length+[(x0,x1,x2)].length<=E8)=true from TG J,ABR,ABQ,l6 (x:=(x0,x1,x2)) λy hy=>by
    rw[<-ABm]at ha;have:¬y.1>=x0:=λq=>ha (AA5.2 ⟨y,hy,ABW q⟩);show y.1<x0;clear hn;omega]
def l9(a:It)(Pj:Int)(x:PQ):It:=Xf a Pj (gM x)
theorem Yk(h:Pf a)(hi:i<a.length)(x0 x1 x2:Int)(n:Nat)(hn:Pa<=n):SD n a (i:Int) x0 x1 x2=some (l9 a a[i].1 (x0,x1,x2)):=by
 have wc:=(h.2.2 _ (ABT hi)).2.2;unfold SD;rw[Pg a h.sm n hn,ABQ,PX hi,ABR];have hg:a[(i:Int).toNat]?=some a[i]:=by simp[hi]
 rw[hg,ABQ,ABQ,gp a[i].2.2 wc x0 x1 x2 n hn,ABQ,ABR,ABU];unfold l9;rw[<-ZC h hi];congr 1;apply ABs;grind
theorem aB(a:It)(Pj:Int)(f:AAD->AAD):WS a (Xf a Pj f):=by
 intro id;unfold XZ Xf;rw[List.find?_map]
 have:((λp:Pb=>p.1==id) ∘ λp:Pb=>bif p.1==Pj then(p.1,p.2.1,f p.2.2)else p)=λp:Pb=>p.1==id:=funext λp=>No
 rw[this,Option.map_map];cases a.find? λp=>p.1==id with
 |none=>rfl
 |some p=>
  grind
theorem bc{Pj:Int}{f:AAD->AAD}{p:Pb}(h:p∈Xf a Pj f):∃q∈a,p.2.1=q.2.1:=by unfold Xf at h;grind
def ea(a:It)(Pj k m:Int):It×Int:=if QE a Pj k m≠0 then(a,QE a Pj k m)else if(SZ a Pj k).2.2<m then(a,3)else(l9 a Pj (k,(SZ a Pj k).2.1-m,(SZ a Pj k).2.2-m),0)
theorem ix(h:Pf a)(Pj k m:Int):Pf (ea a Pj k m).1/\WS a (ea a Pj k m).1/\∀p∈(ea a Pj k m).1,∃q∈a,p.2.1=q.2.1:=by
 have same:Pf a/\WS a a/\∀p∈a,∃q∈a,p.2.1=q.2.1:=⟨h,λ_=>rfl,λp hp=>⟨p,hp,rfl⟩⟩;unfold ea;split
 ·exact same
 ·rename_i hc;split
  ·exact same
  ·rename_i uR;obtain⟨_,hk,hm,i,hi,e1,e2,e3⟩:=Qt (by omega:QE a Pj k m=0);refine⟨?_,aB a Pj _,λp hp=>bc hp⟩;refine ct h Pj _ λp hp ep=>?_;have:p=a[i]:=Xa h hi hp (ep.trans e2.symm);subst this;have wc:=(h.2.2 _ (ABT hi)).2.2;obtain⟨b1,b2,b3,b4,b5⟩:=UP wc k;rw[e3]at uR ⊢
   have hz:∃z∈a[i].2.2,z.1=k:=by refine AAl λq=>?_;rw[UH λx hx e=>q ⟨x,hx,e⟩]at uR;dsimp only at uR;omega
   refine gN wc (λuV=>?_) (.inr (.inl hz));grind
theorem mH(h:Pq a)(Pj k m:Int):Pq (ea a Pj k m).1:=by
 by_cases hc:QE a Pj k m=0
 ·exact(ix (Qt hc).1 Pj k m).1.sm
 ·unfold ea;grind
theorem aK(a:It)(hs:Pq a)(Pj k m:Int)(n:Nat)(hn:Pa<=n):WA n a Pj k m=some (ea a Pj k m):=by
 unfold WA ea;rw[Xq a hs Pj k m n hn,ABQ];by_cases hc:QE a Pj k m=0
 ·rw[AAQ (by rw[hc];simp),AAQ (by rw[hc];simp)];obtain⟨h,hk,hm,i,hi,e1,e2,e3⟩:=Qt hc;have wc:=(h.2.2 _ (ABT hi)).2.2;obtain⟨b1,b2,b3,b4,b5⟩:=UP wc k;dsimp only;rw[show((0:Int) != 0)=false from rfl,ABS,e3];by_cases uR:(Pl a[i].2.2 k).2.2<m
  ·rw[ABW uR,AAP uR,ABR,Pg a hs n hn];rfl
  ·rw[ABa uR,AAQ uR,ABS,PY (n:=(Pl a[i].2.2 k).2.1-m) J J,PY (n:=(Pl a[i].2.2 k).2.2-m) J J,e1,b5];rw[Yk h hi _ _ _ n hn,e2];rfl
 ·rw[AAP hc,AAP hc];dsimp only;rw[show(QE a Pj k m != 0)=true by grind,ABR,Pg a hs n hn];rfl
def ZJ(s:It)(p:PQ):It×Int:=ea s p.1 p.2.1 p.2.2
theorem aJ(a:It)(ha:Pq a)(ps:AAD)(hp:ps.length<=1048576)(n:Nat)(hn:Pa<=n):R6 n a ps 3=some (SE ZJ a ps):=by
 have h1:=Yf (QK n a ps 3) ZJ a ps (λs p hs=>mH hs _ _ _) ha (λi s hi hs=>by
  have hd:decide ((i:Int)<(ps.length:Int))=true:=ADR
  simp only[QK,hd,ABR,PS hi,ABQ,aK s hs _ _ _ n hn,Pg a ha n hn,PR hi (show ps.length<=9223372036854775807 by clear hn;omega)];rw[show((3:Int)==1)=false from rfl,show((3:Int)==2)=false from rfl];show(bif(ZJ s ps[i]).2 != 0 then _ else _)=_;cases((ZJ s ps[i]).2 != 0)<;>rfl) (λs=>by simp[QK]) n ADF
 unfold R6;rw[Pg a ha n hn,ABQ,h1,ABQ];unfold SE;grind
theorem ZK(h:Pf a)(ps:AAD):Pf (SE ZJ a ps).1/\WS a (SE ZJ a ps).1/\∀p∈(SE ZJ a ps).1,∃q∈a,p.2.1=q.2.1:=
 iK (P:=λs=>Pf s/\WS a s/\∀p∈s,∃q∈a,p.2.1=q.2.1) (λs p hs=>by
  obtain⟨h1,h2,h3⟩:=hs;obtain⟨g1,g2,g3⟩:=ix h1 p.1 p.2.1 p.2.2;refine⟨g1,λid=>(g2 id).trans (h2 id),λq hq=>?_⟩;obtain⟨r,hr,e⟩:=g3 q hq;grind) ⟨h,λ_=>rfl,λp hp=>⟨p,hp,rfl⟩⟩ ps
def QG(l:ADE)(t:Pm):AAD:=match QR l t.1 with
 |some o=>o.2.2.2.1.filter λp=>p.1==t.2.1
 |none=>[]
def XD(t:Pm)(s:Int):Pm:=(t.1,t.2.1,t.2.2.1,s)
def jc(ou:By)(ps:AAD):By:=ps.foldl (λou p=>if ou.getD p.2.1.toNat 0+p.2.2<=1000000 then ou.set p.2.1.toNat (ou.getD p.2.1.toNat 0+p.2.2)else ou) ou
def RN(a:It)(ou:By)(l:ADE)(crew:ADC)(t:Pm):It×By×ADC×Option Pm:=
 if t.2.2.2=2 then(a,ou,WO crew t.2.2.1 (λr=>(r.1,r.2.1,TX a l (XD t 3),true,0)),some (XD t 3))
 else if t.2.2.2=3 then
  ((SE ZJ a (QG l t)).1,(bif(SE ZJ a (QG l t)).2 then jc ou (QG l t)else ou),WO crew t.2.2.1 (λr=>(r.1,r.2.1,TX (SE ZJ a (QG l t)).1 l (XD t 4),r.2.2.2.1,0)),some (XD t 4))
 else(a,ou,WO crew t.2.2.1 (λr=>(r.1,r.2.1, -1,false,0)),none)
def eT:Option Pm->AAH
 |some t=>[t]
 |none=>[]
theorem DI.jM{l:ADE}(d:DI w h c a nx l crew (x++t::y))(ht:t.2.2.2≠1)(ou:By):
  DI w h c (RN a ou l crew t).1 nx l (RN a ou l crew t).2.2.1 (x++(eT (RN a ou l crew t).2.2.2++y)):=by
 have hT:=d.tk t (AAR _ AAk);unfold RN;by_cases h2:t.2.2.2=2
 ·rw[AAP h2];exact d.kL ht d.st (λ_=>rfl) d.hm (s:=3) ⟨J,J⟩ (λr=>⟨rfl,rfl⟩) λr hr=>⟨rfl,rfl,No,No⟩
 ·rw[AAQ h2];by_cases h3:t.2.2.2=3
  ·rw[AAP h3];obtain⟨g1,g2,g3⟩:=ZK d.st (QG l t);refine d.kL ht g1 g2 (λp hp=>?_) (s:=4) ⟨J,J⟩ (λr=>⟨rfl,rfl⟩) λr hr=>⟨rfl,?_,No,No⟩
   ·obtain⟨q,hq,e⟩:=g3 p hp;rw[e];exact d.hm q hq
   ·obtain⟨r',q1,_,q3⟩:=hT.cz ht;grind
  ·rw[AAQ h3];exact d.gone ht (λr=>⟨rfl,rfl⟩) λr=>⟨rfl,No,No⟩
abbrev mP:=It×By×ADC×AAH×By
def YF(crew:ADC)(t:Pm):Bool := !(t.2.2.2==1)&&match Te crew t.2.2.1 with
 |some r=>r.2.1==r.2.2.1
 |none=>false
def Qy(l:ADE)(t:Pm)(s:mP):mP:=
 if YF s.2.2.1 t=true then
  ((RN s.1 s.2.1 l s.2.2.1 t).1,(RN s.1 s.2.1 l s.2.2.1 t).2.1,(RN s.1 s.2.1 l s.2.2.1 t).2.2.1,s.2.2.2.1++eT (RN s.1 s.2.1 l s.2.2.1 t).2.2.2,match(RN s.1 s.2.1 l s.2.2.1 t).2.2.2 with|some _=>s.2.2.2.2|none=>s.2.2.2.2++[t.1])
 else(s.1,s.2.1,s.2.2.1,s.2.2.2.1++[t],s.2.2.2.2)
def QZ(l:ADE)(ts:AAH)(s:mP):mP:=ts.foldl (λs t=>Qy l t s) s
theorem DI.QZ{w h:Int}{c:By}{nx:Int}{l:ADE}:∀(ts:AAH)(s:mP),DI w h c s.1 nx l s.2.2.1 (s.2.2.2.1++ts)->DI w h c (QZ l ts s).1 nx l (QZ l ts s).2.2.1 (QZ l ts s).2.2.2.1
 | [],s,d=>by rw[AA1]at d;exact d
 |t::ts,s,d=>by
  have hstep:DI w h c (Qy l t s).1 nx l (Qy l t s).2.2.1 ((Qy l t s).2.2.2.1++ts):=by
   unfold Qy;by_cases hg:YF s.2.2.1 t=true
   ·rw[AAP hg]
    have ht:t.2.2.2≠1:=λe=>by unfold YF at hg;rw[show(t.2.2.2==1)=true from AAT.2 e]at hg;simp at hg
    have:=d.jM ht s.2.1;grind
   ·grind
  exact DI.QZ ts (Qy l t s) hstep
def XH(l:ADE)(id:Int):Bool:=match QR l id with
 |some o=>o.2.2.2.2==1
 |none=>false
def lk(ts:AAH)(ended:By)(l:ADE):ADE:=ended.foldl (λl id=>bif(ts.any λt=>t.1==id) || !XH l id then l else R7 l id 2) l
theorem DI.fin{w h:Int}{c:By}{a:It}{nx:Int}{crew:ADC}{ts:AAH}:∀(ended:By)(l:ADE),DI w h c a nx l crew ts->DI w h c a nx (lk ts ended l) crew ts
 | [],_,d=>d
 |id::ended,l,d=>by
  have hstep:DI w h c a nx (bif(ts.any λt=>t.1==id) || !XH l id then l else R7 l id 2) crew ts:=by
   cases hb:(ts.any λt=>t.1==id) || !XH l id with
   |true=>exact d
   |false=>
    rw[ABS];have yO:=(AAj.1 hb).1;refine d.Dh d.st (λ_=>rfl) d.hm ⟨J,J⟩ (List.Sublist.refl ts) λt ht e=>?_;grind
  exact DI.fin ended _ hstep
def RM(a:It)(ou:By)(l:ADE)(crew:ADC)(ts:AAH):It×By×ADE×ADC×AAH:=
 ((QZ l ts (a,ou,crew,[],[])).1,(QZ l ts (a,ou,crew,[],[])).2.1,lk (QZ l ts (a,ou,crew,[],[])).2.2.2.1 (QZ l ts (a,ou,crew,[],[])).2.2.2.2 l,(QZ l ts (a,ou,crew,[],[])).2.2.1,(QZ l ts (a,ou,crew,[],[])).2.2.2.1)
theorem DI.RM{l:ADE}(d:DI w h c a nx l crew ts)(ou:By):DI w h c (RM a ou l crew ts).1 nx (RM a ou l crew ts).2.2.1 (RM a ou l crew ts).2.2.2.1 (RM a ou l crew ts).2.2.2.2:=
 DI.fin _ l (DI.QZ ts (a,ou,crew,[],[]) d)
theorem W0(crew:ADC)(hl:crew.length<=1048576)(id:Int)(n:Nat)(hn:Pa<=n):(TD n crew id=some (-1)/\∀r∈crew,r.1≠id)\/∃k,∃h:k<crew.length,crew[k].1=id/\TD n crew id=some (k:Int):=by
 have hs:∀(m:Nat)(x:Pt),m<crew.length->crew[m]?=some x->RE crew id (m:Int)=some (bif x.1==id then .inr (.inr (m:Int))else .inl ((m+1:Nat):Int)):=λm x h1 h2=>by
  have hx:crew[m]=x:=by rw[AAI h1]at h2;exact Option.some.inj h2
  simp only[RE,PS h1,hx,ABQ,PR h1 (show crew.length<=9223372036854775807 by clear hn;omega)];grind
 unfold TD;by_cases h:∃r∈crew,r.1=id
 ·right;obtain⟨r,hr,e⟩:=h;obtain⟨j,hj,rfl⟩:=ABV.1 hr;obtain⟨i,hi,hP,e2⟩:=fM (RE crew id) crew (λx=>x.1==id) hs j hj (AAT.2 e) n ADF;grind
 ·left;refine⟨?_,λr hr e=>h ⟨r,hr,e⟩⟩;rcases dh (RE crew id) crew (λx=>x.1==id) hs (by simp[RE]) n ADF with e|⟨i,hi,hP,e⟩
  all_goals grind
theorem bZ(h:P6 t=true):(1<=t.2.2.2/\t.2.2.2<=4)/\(t.2.2.1=0↔t.2.2.2=1):=by unfold P6 at h;grind
theorem az(w h:Int)(c:By)(ha:Pf a){l:ADE}(hb:Uv nx l)(hsm:Qi (nx,l))(hc:CW c crew)(ts:AAH)(st ou:By)(nw:Int)(hg:P6 t=true)(n:Nat)(hn:Pa<=n):
  ∃b,Ss n w h c a nx l crew ts st ou nw t.1 t.2.1 t.2.2.1 t.2.2.2=some b/\(b=true↔Sl a l crew t):=by
 have hal:=ha.1;have zd:=hc.n20;obtain⟨⟨s1,s4⟩,hrz⟩:=bZ hg;cases ho:QR l t.1 with
 |none=>
  have hm:∀x∈l,x.1≠t.1:=λx hx e=>by unfold QR at ho;grind
  refine⟨false,?_,(λe=>by cases e),λhT=>?_⟩
  ·unfold Ss;rw[V2 nx l hsm.1 t.1 hm n hn];rfl
  ·obtain⟨o,e,_⟩:=hT.ord;grind
 |some o=>
  obtain⟨xU,hoe⟩:=Qe ho;obtain⟨i,hi,rfl⟩:=ABV.1 xU;have vZ:=YU nx l hsm.1 hb.2.2.1 i hi n hn;rw[hoe]at vZ;have wg:l[i].2.2.2.1.length<=1048576:=(hsm.2 _ xU).2
  have hplen:(Su l[i].2.2.2.1).length<=1048576:=by have:=Xb l[i].2.2.2.1 [];unfold Su;simp only[ACG]at this;clear hn;omega
  have hpo:=YJ l[i].2.2.2.1 wg n hn;have xm:P5 n (Su l[i].2.2.2.1) t.2.1=some ((Su l[i].2.2.2.1).any λx=>x==t.2.1):=by rw[XS];exact QO _ hplen _ n hn
  have hpx:=Ro a J t.2.1 n hn;unfold Ss;rw[vZ,ABQ,show decide ((i:Int)<0)=false by grind,ABS];simp only[PS hi,ABQ,cL,hpx.1,hpo,xm];by_cases wc:l[i].2.2.2.2=1
  case neg=>
   rw[show(l[i].2.2.2.2 != 1)=true from AB4.2 wc];refine⟨false,rfl,(λe=>by cases e),λhT=>?_⟩;obtain⟨o2,e,e2,_⟩:=hT.ord;grind
  rw[show(l[i].2.2.2.2 != 1)=false by rw[wc];rfl,ABS];rcases hpx.2 with⟨e,yO⟩|⟨j,hj,e,ej⟩
  ·rw[e];refine⟨false,rfl,(λe=>by cases e),λhT=>?_⟩;obtain⟨q,hq⟩:=hT.Pj;exact(yO q (TF hq).1 (TF hq).2).elim
  rw[e,show decide ((j:Int)<0)=false by grind,ABS,ABQ];cases hany:(Su l[i].2.2.2.1).any (λx=>x==t.2.1)with
  |false=>
   refine⟨false,rfl,(λe=>by cases e),λhT=>?_⟩;obtain⟨o2,e,_,p,hp,ep⟩:=hT.ord;rw[ho]at e;injection e with e
   rw[<-e]at hp;rw[<-ABm]at hany;exact(hany (AA5.2 ⟨_,Xc.2 ⟨p,hp,rfl⟩,AAT.2 ep⟩)).elim
  |true=>
   obtain⟨y,hy,ey⟩:=AA5.1 hany;obtain⟨p,hp,ep⟩:=Xc.1 hy;have hord:∃o,QR l t.1=some o/\o.2.2.2.2=1/\∃p∈o.2.2.2.1,p.1=t.2.1:=⟨_,ho,wc,p,hp,ep.trans (AAT.1 ey)⟩;have hpod:∃q,XZ a t.2.1=some q:=Xu ⟨_,ABT hj,ej⟩;rw[ABZ,ABS];by_cases hr0:t.2.2.1=0
   ·rw[show(t.2.2.1==0)=true from AAT.2 hr0,ABR];exact⟨true,rfl,λ_=>⟨hord,hpod,λe=>(e (hrz.1 hr0)).elim⟩,λ_=>rfl⟩
   ·rw[show(t.2.2.1==0)=false from ABY.2 hr0,ABS];have hst1:t.2.2.2≠1:=λe=>hr0 (hrz.2 e)
    have hgoal:Wx n w h c a nx l crew ts st ou nw t.1 t.2.1 t.2.2.1 t.2.2.2=some (TX a l t):=by
     unfold Wx;by_cases h3:t.2.2.2=3
     ·rw[show(t.2.2.2==3)=true from AAT.2 h3,ABR,vZ,ABQ,PS hi,ABQ];unfold TX;grind
     ·rw[show(t.2.2.2==3)=false from ABY.2 h3,ABS,cL,hpx.1,e,ABQ,PS hj,ABQ,Zw ha h3 hj ej]
    rcases W0 crew J t.2.2.1 n hn with⟨e1,yO⟩|⟨k,hk,ek,e1⟩
    ·rw[e1];refine⟨false,rfl,(λe=>by cases e),λhT=>?_⟩;obtain⟨r,q1,_⟩:=hT.cz hst1;exact(yO r (QA q1).1 (QA q1).2).elim
    ·have vt:=Xd hc.ids hk;rw[ek]at vt;rw[e1,ABQ,show decide ((k:Int)>=0)=true by rw[AAe];clear hn;omega,ABR];simp only[PS hk,ABQ,hgoal]
     have hT:Sl a l crew t↔crew[k].2.2.1=TX a l t/\crew[k].2.2.2.1=decide (2<t.2.2.2):=by
      constructor
      ·intro hT;obtain⟨r,q1,q2,q3⟩:=hT.cz hst1;rw[vt]at q1;injection q1 with q1
       rw[q1];exact⟨q2,q3⟩
      ·rintro ⟨q2,q3⟩
       exact⟨hord,hpod,λ_=>⟨_,vt,q2,q3⟩⟩
     grind
theorem DI.new(vH:Ys w h c a=true):DI w h c a 1 [] (R8 (P7 c) (min (P7 c).length 20)) []:=by obtain⟨hf,hk,h0,hho⟩:=ae vH;refine {fl:=hf,st:=P1.1 hk,hm:=λp hp=>?_,bk:=⟨⟨J,J⟩,OF,List.Pairwise.nil,(λo ho=>by cases ho)⟩,KU:=(λo ho=>by cases ho),cD:=(λo ho=>by cases ho),dk:=(λo ho=>by cases ho),cw:=mw c,Ws:=RY.2 ⟨OF,(λx hx=>by cases hx),List.Pairwise.nil⟩,tk:=(λt ht=>by cases ht) };obtain⟨h1,h2⟩:=hho p hp;unfold QQ;grind
def UA(l:By):Prop:=l.length=51/\(∀x∈l,0<=x/\x<=1000000)/\l[0]?=some 0
def aY(l:By)(i:Nat):Bool:=match l[i]? with
 |some x=>P8 x 0 1000000&&(!((i:Int)==0)||x==0)
 |none=>false
theorem Xp{a b c:Int}:P8 a b c=true↔b<=a/\a<=c:=by unfold P8;grind
theorem bK{l:By}:((List.range l.length).all (aY l)&&((l.length:Int)==51))=true↔UA l:=by
 rw[AAJ,AAW,AAT]
 have vZ:∀i (hi:i<l.length),aY l i=true↔(0<=l[i]/\l[i]<=1000000)/\(i=0->l[i]=0):=λi hi=>by unfold aY;rw[AAI hi];simp only[AAJ,Xp,AAd,AAV,ABY,AAT];omega
 constructor
 ·rintro ⟨h1,h2⟩
  have h51:l.length=51:=J
  have hi:=λi (hi:i<l.length)=>(vZ i hi).1 (h1 i (AAX.2 hi));refine⟨h51,λx hx=>?_,?_⟩
  ·obtain⟨i,hi2,rfl⟩:=ABV.1 hx;exact(hi i hi2).1
  grind
 ·rintro ⟨h1,h2,h3⟩
  grind
theorem Ww(l:By)(hl:l.length<=1048576)(n:Nat)(hn:Pa<=n):Tc n l=some ((List.range l.length).all (aY l)&&((l.length:Int)==51)):=by
 have h1:=Qp (TB l) (λk=>(k:Int)) l.length (aY l) (λi hi=>by
  unfold TB aY;dsimp only;rw[show decide ((i:Int)<(l.length:Int))=true by rw[AAe];clear hn;omega,AAI hi];simp only[ABR,PS hi,ABQ,Vt,Qh,PR hi (show l.length<=9223372036854775807 by clear hn;omega),bne];cases P8 l[i] 0 1000000<;>cases((i:Int)==0)<;>cases(l[i]==0)<;>rfl) (by unfold TB;simp) n ADF
 rw[show((0:Nat):Int)=0 from rfl]at h1;unfold Tc;grind
structure nP(w h:Int)(c:By)(a:It)(nx:Int)(l:ADE)(crew:ADC)(ts:AAH)(st ou:By)(nw:Int):Prop where
 fl:Ph w h c=true
 sW:Pf a
 bk:Uv nx l
 cw:CW c crew
 Ws:TP ts
 c1:UA st
 c2:UA ou
 now:0<=nw/\nw<=1000000
 tk:∀t∈ts,Sl a l crew t
theorem DI.ok{l:ADE}(d:DI w h c a nx l crew ts){st ou:By}(h1:UA st)(h2:UA ou){nw:Int}(h3:0<=nw/\nw<=1000000):nP w h c a nx l crew ts st ou nw:=
 ⟨d.fl,d.st,d.bk,d.cw,d.Ws,h1,h2,h3,d.tk⟩
theorem XT(w h:Int)(c:By)(hc:c.length<=1048576)(a:It)(ha:Pq a)(nx:Int)(l:ADE)(hl:Qi (nx,l))(crew:ADC)(hcr:crew.length<=1048576)(ts:AAH)(hts:ts.length<=1048576)(st ou:By)(wc:st.length<=1048576)(hou:ou.length<=1048576)(nw:Int)(n:Nat)(hn:Pa<=n):
  ∃b,S7 n w h c a nx l crew ts st ou nw=some b/\(b=true↔nP w h c a nx l crew ts st ou nw):=by
 obtain⟨bb,eb,ib⟩:=Tp hl n hn;unfold S7;rw[YH,P3 w h c hc n hn,Qr a ha n hn,eb,WX w h c hc crew hcr n hn,ax ts hts n hn,Ww st wc n hn,Ww ou hou n hn];simp only[ABQ,Vt,Qh];have no:∀ {P:Prop},¬P->∃b,(some false:Option Bool)=some b/\(b=true↔P):=λhp=>⟨false,rfl,(λe=>by cases e),λq=>(hp q).elim⟩;cases e1:Ph w h c with
 |false=>exact no λd=>by rw[d.fl]at e1;cases e1
 |true=>
 cases e2:P2 a with
 |false=>exact no λd=>by rw[P1.2 d.sW]at e2;cases e2
 |true=>
 cases e3:bb with
 |false=>exact no λd=>by rw[ib.2 d.bk]at e3;cases e3
 |true=>
 cases e4:TR w h c crew with
 |false=>exact no λd=>by rw[Uy.2 ⟨d.fl,d.cw⟩]at e4;cases e4
 |true=>
 cases e5:Sk ts with
 |false=>exact no λd=>by rw[Vj.2 d.Ws]at e5;cases e5
 |true=>
 cases e6:((List.range st.length).all (aY st)&&((st.length:Int)==51))with
 |false=>exact no λd=>by rw[bK.2 d.c1]at e6;cases e6
 |true=>
 cases e7:((List.range ou.length).all (aY ou)&&((ou.length:Int)==51))with
 |false=>exact no λd=>by rw[bK.2 d.c2]at e7;cases e7
 |true=>
 cases e8:P8 nw 0 1000000 with
 |false=>exact no λd=>by rw[Xp.2 d.now]at e8;cases e8
 |true=>
 have hS:=P1.1 e2;have hB:=ib.1 e3;have hC:=(Uy.1 e4).2;have hT:=Vj.1 e5;have hgood:=(RY.1 hT).2.1;simp only[ABZ,ABS,ABQ]
 let val:Nat->Bool:=λi=>match ts[i]? with
  |some t=>(Ss n w h c a nx l crew ts st ou nw t.1 t.2.1 t.2.2.1 t.2.2.2).getD false
  |none=>false
 have wW:∀i (hi:i<ts.length),Ss n w h c a nx l crew ts st ou nw ts[i].1 ts[i].2.1 ts[i].2.2.1 ts[i].2.2.2=some (val i)/\(val i=true↔Sl a l crew ts[i]):=λi hi=>by obtain⟨b,e,ib⟩:=az w h c hS hB hl hC ts st ou nw (hgood _ (ABT hi)) n hn;grind
 have h1:=Qp (Tr n w h c a nx l crew ts st ou nw) (λk=>(k:Int)) ts.length val (λi hi=>by
  unfold Tr;rw[show decide ((i:Int)<(ts.length:Int))=true by rw[AAe];clear hn;omega,ABR,PS hi,ABQ,(wW i hi).1,ABQ,PR hi (show ts.length<=9223372036854775807 by clear hn;omega)];grind) (by unfold Tr;simp) n ADF
 rw[show((0:Nat):Int)=0 from rfl]at h1;rw[h1];refine⟨(List.range ts.length).all val,No,?_⟩;rw[AAW];constructor
 ·intro q;refine⟨e1,hS,hB,hC,hT,bK.1 e6,bK.1 e7,Xp.1 e8,λt ht=>?_⟩;obtain⟨i,hi,rfl⟩:=ABV.1 ht;grind
 ·intro d i hi;have hi:=AAX.1 hi;exact(wW i hi).2.2 (d.tk _ (ABT hi))
def UQ(a b:It):Prop:=Pf b/\WS a b/\∀p∈b,∃q∈a,p.2.1=q.2.1
theorem UQ.refl(h:Pf a):UQ a a:=⟨h,λ_=>rfl,λp hp=>⟨p,hp,rfl⟩⟩
theorem UQ.trans{b d:It}(h:UQ a b)(g:UQ b d):UQ a d:=⟨g.1,λid=>(g.2.1 id).trans (h.2.1 id),λp hp=>by
 obtain⟨q,hq,e⟩:=g.2.2 p hp;obtain⟨r,hr,e2⟩:=h.2.2 q hq;grind⟩
theorem kC{Pj d:Int}(h:Pf (bR a Pj k d)):UQ a (bR a Pj k d):=⟨h,aB a Pj _,λp hp=>bc hp⟩
theorem mC(h:Pf a)(Pj k m:Int):UQ a (eU a Pj k m).1:=by
 have ho:=ia h Pj k m;unfold eU at ho ⊢;split
 ·exact UQ.refl h
 ·rename_i hc;rw[AAQ hc]at ho;split
  ·exact UQ.refl h
  ·rename_i uR;rw[AAQ uR]at ho;exact kC ho
theorem lh{f:It->PQ->It×Int}(hf:∀s p,Pf s->UQ s (f s p).1)(h:Pf a)(ps:AAD):UQ a (SE f a ps).1:=
 iK (P:=λs=>UQ a s) (λs p hs=>hs.trans (hf s p hs.1)) (UQ.refl h) ps
theorem jl(h:Pf a)(ps:AAD):UQ a (SE Z9 a ps).1:=lh (λs p hs=>mC hs _ _ _) h ps
def eY(a:It)(Pj:Int):Nat:=match a[(R5 a Pj).toNat]? with
 |some p=>p.2.2.length
 |none=>0
def Xv(a:It)(Pj k m:Int):It×Int:=if QE a Pj k m≠0 then(a,QE a Pj k m)
 else if(SZ a Pj k).2.1+m>1000\/((SZ a Pj k).2.1=0/\eY a Pj=8)then(a,4)
 else(l9 a Pj (k,(SZ a Pj k).2.1+m,(SZ a Pj k).2.2),0)
theorem l8(h:Pf a)(Pj k m:Int):UQ a (Xv a Pj k m).1:=by
 unfold Xv;split
 ·exact UQ.refl h
 ·rename_i hc;split
  ·exact UQ.refl h
  ·rename_i yO;obtain⟨_,hk,hm,i,hi,e1,e2,e3⟩:=Qt (by omega:QE a Pj k m=0);refine⟨?_,aB a Pj _,λp hp=>bc hp⟩;refine ct h Pj _ λp hp ep=>?_;have:p=a[i]:=Xa h hi hp (ep.trans e2.symm);subst this;have wc:=(h.2.2 _ (ABT hi)).2.2;obtain⟨b1,b2,b3,b4,b5⟩:=UP wc k;unfold eY at yO;rw[e1,ABU,AAI hi,e3]at yO;rw[e3];dsimp only at yO;refine gN wc (λuV=>?_) ?_
   ·grind
   ·by_cases hz:∃z∈a[i].2.2,z.1=k
    ·grind
    ·have h0:=UH (l:=a[i].2.2) (k:=k) λx hx e=>hz ⟨x,hx,e⟩;rw[h0]at yO;dsimp only at yO;have h8:=wc.2.2;omega
theorem gw{l:ADE}{o:Pv}(h:QR l id=some o)(hs:o.2.2.2.2=1)(hp:l.Pairwise λa b=>a.1<b.1):QR (Q8 l) id=some o:=by
 obtain⟨hm,e⟩:=Qe h
 have hmo:o∈Q8 l:=by unfold Q8;exact ABj.2 ⟨hm,AAT.2 hs⟩
 cases hq:QR (Q8 l) id with
 |none=>
  unfold QR at hq;grind
 |some q=>
  obtain⟨h1,h2⟩:=Qe hq;unfold Q8 at h1;have hqm:=(ABj.1 h1).1
  have:q=o:=by
   obtain⟨i,hi,rfl⟩:=ABV.1 hqm;obtain⟨j,hj,rfl⟩:=ABV.1 hm;rcases ABd i j with hl|hl|hl
   ·have:=ABL.1 hp i j hi hj hl;omega
   ·subst hl;rfl
   ·have:=ABL.1 hp j i hj hi hl;omega
  rw[this]
theorem DI.iw{l:ADE}(d:DI w h c a nx l crew ts):DI w h c a nx (Q8 l) crew ts:=by
 obtain⟨b1,b2,b3,b4⟩:=d.bk
 have hm:∀o∈Q8 l,o∈l:=λo ho=>by unfold Q8 at ho;grind
 have key:∀t∈ts,Sl a (Q8 l) crew t:=λt ht=>by have hT:=d.tk t ht;obtain⟨o,ho,hs,_⟩:=hT.ord;exact hT.same (λ_=>rfl) ((gw ho hs b3).trans ho.symm)
 exact { d with bk:=⟨b1,by unfold Q8;grind,by unfold Q8;grind,λo ho=>b4 o (hm o ho)⟩,KU:=λo ho=>d.KU o (hm o ho),cD:=λo ho=>d.cD o (hm o ho),dk:=λo ho=>d.dk o (hm o ho),tk:=key }
theorem DI.home{l:ADE}(d:DI w h c a nx l crew ts){b:It}(hb:UQ a b):∀p∈b,QQ c p.2.1=true:=λp hp=>by obtain⟨q,hq,e⟩:=hb.2.2 p hp;rw[e];exact d.hm q hq
theorem DI.back{l:ADE}(d:DI w h c a nx l crew ts)(id:Int)(ps:AAD):DI w h c (SE Z9 a ps).1 nx (R7 l id 3) crew (ts.filter λt => !(t.1==id)):=by have hb:=jl d.st ps;refine d.Dh hb.1 hb.2.1 (d.home hb) ⟨J,J⟩ List.filter_sublist λt ht e=>?_;grind
theorem DI.mD{l:ADE}(d:DI w h c a nx l crew ts)(Pj k m:Int):DI w h c (Xv a Pj k m).1 nx l crew ts:=by have hb:=l8 d.st Pj k m;exact d.pW hb.1 hb.2.1 (d.home hb)
theorem fV(n:Nat)(hn:Pa<=n){i q:Int}(hcu:Cu b i)(id home:Int):Ok (iter n (Vr) (1,b,i,q,id,home,([]:AAD))) λx=>(Vk x.2.2.2.2.2.2/\∀y∈x.2.2.2.2.2.2,y.2.2=0)/\x.2.2.2.2.1=id/\x.2.2.2.2.2.1=home/\Cu x.2.1 x.2.2.1:=by
 refine Ok.iter (λk x=>x.1+(k:Int)=5/\1<=x.1/\x.2.2.2.2.2.2.length+k<=4/\(x.2.2.2.2.2.2.Pairwise (λa b=>a.1<b.1)/\∀y∈x.2.2.2.2.2.2,1<=y.1/\y.1<x.1/\1<=y.2.1/\y.2.1<=5/\y.2.2=0)/\x.2.2.2.2.1=id/\x.2.2.2.2.2.1=home/\Cu x.2.1 x.2.2.1) (λk x hx=>?_) (k:=4) ⟨OF,OF,OF,⟨List.Pairwise.nil,(λy hy=>by cases hy)⟩,rfl,rfl,hcu⟩ ADF;obtain⟨h1,h0,h2,⟨h4,h5⟩,h6,h7,h3⟩:=hx;unfold Vr;refine Ok.cond (λhb=>?_) λhb=>Ok.pure (.inr ⟨_,rfl,⟨⟨h4,λy hy=>?_,by show x.2.2.2.2.2.2.length<=8;clear hn;omega⟩,λy hy=>(h5 y hy).2.2.2.2⟩,h6,h7,h3⟩)
 ·have hb:=AAu hb;refine Ok.bind (P:=λz=>(z.2.2.2.2.2.length<=x.2.2.2.2.2.2.length+1/\z.2.2.2.2.2.Pairwise (λa b=>a.1<b.1)/\∀y∈z.2.2.2.2.2,1<=y.1/\y.1<x.1+1/\1<=y.2.1/\y.2.1<=5/\y.2.2=0)/\z.2.2.2.1=id/\z.2.2.2.2.1=home/\Cu z.1 z.2.1) ((ok_int h3 OF).bind λv hv=>Ok.cond (λhg=>Ok.guard (TG ADI) (Ok.pure ⟨⟨by show(x.2.2.2.2.2.2++[_]).length<=_;simp,?_,λy hy=>?_⟩,h6,h7,hv.1⟩)) λ_=>Ok.pure ⟨⟨by show x.2.2.2.2.2.2.length<=_;omega,h4,λy hy=>?_⟩,h6,h7,hv.1⟩) λz hz=>Ok.pure (.inl ⟨_,rfl,k-1,⟨?_,?_,?_,⟨hz.1.2.1,λy hy=>?_⟩,hz.2.1,hz.2.2.1,hz.2.2.2⟩,ADI⟩)
  ·refine ABe.2 ⟨h4,ACN _ _,λy hy z hz=>?_⟩;rw[ABI.1 hz];exact(h5 y hy).2.1
  ·rcases ABG.1 hy with hy|hy
   ·obtain⟨g1,g2,g3,g4,g5⟩:=h5 y hy;exact⟨g1,ADI,g3,g4,g5⟩
   ·rw[ABI.1 hy];have hg:=AAu hg;have hm:=hv.2;simp only[AAf,List.not_mem_nil,or_false]at hm;refine⟨h0,by show x.1<x.1+1;clear hn;omega,by show 1<=v.1;clear hn;omega,by show v.1<=5;clear hn;omega,rfl⟩
  ·obtain⟨g1,g2,g3,g4,g5⟩:=h5 y hy;exact⟨g1,ADI,g3,g4,g5⟩
  ·show PV (x.1+1)+_=_;rw[PY ADI ADI];clear hn;omega
  ·show 1<=PV (x.1+1);rw[PY ADI ADI];clear hn;omega
  ·have:=hz.1.1;show z.2.2.2.2.2.length+(k-1)<=4;clear hn;omega
  ·obtain⟨g1,g2,g3,g4,g5⟩:=hz.1.2.2 y hy;refine⟨g1,?_,g3,g4,g5⟩;show y.1<PV (x.1+1);rw[PY ADI ADI];exact g2
 grind
theorem fU(n:Nat)(hn:Pa<=n){i q:Int}(hcu:Cu b i)(w h:Int)(c:By)(hf:Ph w h c=true):Ok (WI n b i q w h c) λx=>Ys w h c x.1=true/\Cu x.2.1 x.2.2.1:=by
 have h100:=(TS hf).le;have hc:c.length<=1048576:=ADI
 unfold WI;rw[VA w h c hc hf 2 n hn,ABQ]
 refine Ok.bind (P:=λz=>(z.2.2.2.2.length<=8/\z.2.2.2.2.length<=(QT c 2 c.length).length/\∀(j:Nat)(hj:j<z.2.2.2.2.length),z.2.2.2.2[j].1=(j:Int)+1/\z.2.2.2.2[j].2.1=(QT c 2 c.length).getD j 0/\Vk z.2.2.2.2[j].2.2/\∀y∈z.2.2.2.2[j].2.2,y.2.2=0)/\Cu z.2.1 z.2.2.1)
  (Ok.iter (λk x=>x.1+(k:Int)=8/\0<=x.1/\(x.2.2.2.2.length:Int)=x.1/\(x.2.2.2.2.length<=(QT c 2 c.length).length/\∀(j:Nat)(hj:j<x.2.2.2.2.length),x.2.2.2.2[j].1=(j:Int)+1/\x.2.2.2.2[j].2.1=(QT c 2 c.length).getD j 0/\Vk x.2.2.2.2[j].2.2/\∀y∈x.2.2.2.2[j].2.2,y.2.2=0)/\Cu x.2.1 x.2.2.1) (λk x hx=>?_) (k:=8) ⟨OF,OF,OF,⟨OF,λj hj=>ADb⟩,hcu⟩ ADF) λz hz=>Ok.pure ⟨?_,hz.2⟩
 ·obtain⟨h1,h0,h2,⟨h4,h5⟩,h3⟩:=hx;unfold YA;refine Ok.bind (P:=λv=>v=true->x.1<((QT c 2 c.length).length:Int)/\x.1<8) (Ok.cond (λhb=>Ok.pure λe=>⟨AAu hb,AAu e⟩) λ_=>Ok.pure λe=>by cases e) λv hv=>Ok.cond (λhb=>?_) λhb=>Ok.pure (.inr ⟨_,rfl,⟨No,h4,h5⟩,h3⟩);obtain⟨a1,a2⟩:=hv hb;refine Ok.guard (eM ⟨h0,a1⟩) ((Ok.get J).bind λhm ud=>(fV n hn h3 _ _).bind λu hu=>Ok.guard (TG J) (Ok.pure (.inl ⟨_,rfl,k-1,⟨?_,?_,?_,⟨?_,λj hj=>?_⟩,hu.2.2.2⟩,J⟩)))
  ·show PV (x.1+1)+_=_;rw[PY ADI ADI];omega
  ·show 0<=PV (x.1+1);rw[PY ADI ADI];omega
  ·show(((x.2.2.2.2++[_]).length:Nat):Int)=PV (x.1+1);rw[PY ADI ADI,ABA,ABX];omega
  ·grind
  ·have hj2:j<x.2.2.2.2.length+1:=by have:=hj;change j<(x.2.2.2.2++[_]).length at this;rw[ABA,ABX]at this;exact this
   show(x.2.2.2.2++[(u.2.2.2.2.1,u.2.2.2.2.2.1,u.2.2.2.2.2.2)])[j].1=_/\(x.2.2.2.2++[(u.2.2.2.2.1,u.2.2.2.2.2.1,u.2.2.2.2.2.2)])[j].2.1=_/\Vk (x.2.2.2.2++[(u.2.2.2.2.1,u.2.2.2.2.2.1,u.2.2.2.2.2.2)])[j].2.2/\∀y∈(x.2.2.2.2++[(u.2.2.2.2.1,u.2.2.2.2.2.1,u.2.2.2.2.2.2)])[j].2.2,y.2.2=0;rw[List.getElem_append];by_cases e:j<x.2.2.2.2.length
   ·grind
   ·rw[dif_neg e];have ej:j=x.2.2.2.2.length:=ADI
    simp only[List.getElem_singleton];refine⟨?_,?_,hu.1.1,hu.1.2⟩
    ·rw[hu.2.1,PY ADI ADI];clear hn;omega
    grind
 ·obtain⟨⟨z1,z2,z3⟩,_⟩:=hz;have hpw:=Zs c 2 c.length
  have ur:∀(j:Nat)(hj:j<z.2.2.2.2.length),∃m:Nat,z.2.2.2.2[j].2.1=(m:Int)/\m<c.length/\c.getD m 0=2:=λj hj=>by
   have hj2:j<(QT c 2 c.length).length:=ADI
   rw[(z3 j hj).2.1,show(QT c 2 c.length).getD j 0=(QT c 2 c.length)[j] by simp[hj2]];exact WT (ABT hj2)
  have hS:Pf z.2.2.2.2:=by
   refine⟨J,ABL.2 λa b ha hb hab=>?_,λp hp=>?_⟩
   ·have q1:=z3 a ha;have q2:=z3 b hb;have hal:a<(QT c 2 c.length).length:=ADI
    have zM:b<(QT c 2 c.length).length:=ADI
    have uR:=ABL.1 hpw a b hal zM hab;grind
   ·obtain⟨j,hj,rfl⟩:=ABV.1 hp;grind
  show Ys w h c z.2.2.2.2=true;unfold Ys;rw[hf,P1.2 hS];simp only[ABp,AAJ,AAW,AAX];refine⟨λj hj=>?_,λj hj=>?_⟩
  ·unfold Xi;grind
  ·obtain⟨m,e,hm,h2⟩:=ur j hj;unfold Y5;rw[AAI hj];dsimp only;rw[e,show(m:Int).toNat=m by clear hn;omega,h2];unfold P8;grind
theorem UA.set{l:By}(h:UA l)(hi:0<i){x:Int}(hx:0<=x/\x<=1000000):UA (l.set i x):=by
 obtain⟨h1,h2,h3⟩:=h;refine⟨by rw[List.length_set];exact h1,λy hy=>?_,?_⟩
 all_goals grind
theorem fu:∀(ps:AAD)(ou:By),(∀p∈ps,1<=p.2.1/\1<=p.2.2)->UA ou->UA (jc ou ps)
 | [],ou,_,h=>h
 |p::ps,ou,hp,h=>by
  obtain⟨q1,q2⟩:=hp p AAk
  have hstep:UA (if ou.getD p.2.1.toNat 0+p.2.2<=1000000 then ou.set p.2.1.toNat (ou.getD p.2.1.toNat 0+p.2.2)else ou):=by
   split
   ·rename_i hle
    have h0:0<=ou.getD p.2.1.toNat 0:=by
     rw[List.getD];cases hq:ou[p.2.1.toNat]? with
     |none=>simp
     |some y=>exact(h.2.1 y (AAN hq)).1
    exact h.set J ⟨J,hle⟩
   ·exact h
  exact fu ps _ (λq hq=>hp q (AAM _ hq)) hstep
theorem dL{l:ADE}(d:DI w h c a nx l crew ts)(t:Pm):∀p∈QG l t,1<=p.2.1/\1<=p.2.2:=λp hp=>by
 unfold QG at hp;cases ho:QR l t.1 with
 |none=>grind
 |some o=>
  rw[ho]at hp;have hpm:=(ABj.1 hp).1;obtain⟨_,_,⟨hI,_⟩,hpg,_⟩:=d.bk.2.2.2 o (Qe ho).1;obtain⟨q1,y,hy,e⟩:=hpg.1 p hpm;have:=hI.2.1 y hy;omega
theorem DI.kM{l:ADE}(d:DI w h c a nx l crew ts)(t:Pm){ou:By}(ho:UA ou):UA (RN a ou l crew t).2.1:=by
 unfold RN;split
 ·exact ho
 ·split
  ·dsimp only;cases(SE ZJ a (QG l t)).2
   ·exact ho
   ·exact fu _ ou (dL d t) ho
  ·exact ho
theorem DI.cg{w h:Int}{c:By}{nx:Int}{l:ADE}:∀(ts:AAH)(s:mP),DI w h c s.1 nx l s.2.2.1 (s.2.2.2.1++ts)->UA s.2.1->UA (N.QZ l ts s).2.1
 | [],s,_,ho=>ho
 |t::ts,s,d,ho=>by
  have h1:DI w h c (Qy l t s).1 nx l (Qy l t s).2.2.1 ((Qy l t s).2.2.2.1++ts)/\UA (Qy l t s).2.1:=by
   unfold Qy;by_cases hg:YF s.2.2.1 t=true
   ·rw[AAP hg]
    have ht:t.2.2.2≠1:=λe=>by unfold YF at hg;rw[show(t.2.2.2==1)=true from AAT.2 e]at hg;simp at hg
    refine⟨?_,d.kM t ho⟩;have:=d.jM ht s.2.1;grind
   ·grind
  exact DI.cg ts (Qy l t s) h1.1 h1.2
theorem jk{Pj m:Int}(hc:(Xv a Pj k m).2=0):QE a Pj k m=0:=by unfold Xv at hc;grind
structure DK(a:It)(nx:Int)(l:ADE)(crew:ADC)(ts:AAH):Prop where
 sk:Pf a
 bk:Uv nx l
 n20:crew.length<=20
 ids:crew.Pairwise λr s=>r.1<s.1
 Ws:TP ts
 tk:∀t∈ts,Sl a l crew t
theorem DI.uD{l:ADE}(d:DI w h c a nx l crew ts):DK a nx l crew ts:=⟨d.st,d.bk,d.cw.n20,d.cw.ids,d.Ws,d.tk⟩
theorem gL(h:crew.Pairwise λr s=>r.1<s.1)(hf:∀r,(f r).1=r.1):(WO crew id f).Pairwise λr s=>r.1<s.1:=by
 have key:∀r,(bif r.1==id then f r else r:Pt).1=r.1:=λr=>No
 unfold WO;rw[ABh];exact h.imp fun {r s} hrs=>No
theorem DK.kL{a:It}{nx:Int}{l:ADE}{crew:ADC}{x y:AAH}{t:Pm}(d:DK a nx l crew (x++t::y))(ht:t.2.2.2≠1){b:It}(hb:Pf b)(hsp:WS a b){s:Int}(hs:2<=s/\s<=4){f:Pt->Pt}(hf:∀r,(f r).1=r.1)
  (vV:∀r,Te crew t.2.2.1=some r->(f r).2.2.1=TX b l (t.1,t.2.1,t.2.2.1,s)/\(f r).2.2.2.1=decide (2<s)):DK b nx l (WO crew t.2.2.1 f) (x++(t.1,t.2.1,t.2.2.1,s)::y):=by
 have hT:=d.tk t (AAR _ AAk);obtain⟨o,ho,wc,we⟩:=hT.ord;obtain⟨r0,hr0,_,_⟩:=hT.cz ht;obtain⟨q,hq⟩:=(hT.same hsp (k:=l) rfl).Pj;refine {sk:=hb,bk:=d.bk,n20:=by rw[cu];exact d.n20,ids:=gL d.ids hf,Ws:=d.Ws.mg ht hs,tk:=λu hu=>?_ }
 have hoth:∀u,u∈x\/u∈y->Sl b l (WO crew t.2.2.1 f) u:=λu hu=>(d.tk u (by
  grind)).other hsp hf λe=>d.Ws.two ht hu e
 rcases ABG.1 hu with hu|hu
 ·grind
 ·rcases AAf.1 hu with rfl|hu
  ·refine⟨⟨o,ho,wc,we⟩,⟨q,hq⟩,λ_=>⟨f r0,?_,(vV r0 hr0).1,(vV r0 hr0).2⟩⟩;rw[aA hf];show(Te crew t.2.2.1).map _=_;rw[hr0,AA0,show(r0.1==t.2.2.1)=true from AAT.2 (QA hr0).2,ABR]
  grind
theorem DK.gone{l:ADE}(d:DK a nx l crew (x++t::y))(ht:t.2.2.2≠1)(hf:∀r,(f r).1=r.1):DK a nx l (WO crew t.2.2.1 f) (x++y):=by
 refine {sk:=d.sk,bk:=d.bk,n20:=by rw[cu];exact d.n20,ids:=gL d.ids hf,Ws:=d.Ws.sub ((List.Sublist.refl x).append (List.sublist_cons_self t y)),tk:=λu hu=>?_ };have hu2:=ABG.1 hu
 exact(d.tk u (by
  grind)).other (λ_=>rfl) hf λe=>d.Ws.two ht hu2 e
theorem DK.jM{l:ADE}(d:DK a nx l crew (x++t::y))(ht:t.2.2.2≠1)(ou:By):
  DK (RN a ou l crew t).1 nx l (RN a ou l crew t).2.2.1 (x++(eT (RN a ou l crew t).2.2.2++y)):=by
 have hT:=d.tk t (AAR _ AAk);unfold RN;by_cases h2:t.2.2.2=2
 ·rw[AAP h2];exact d.kL ht d.sk (λ_=>rfl) (s:=3) ⟨J,J⟩ (λr=>rfl) λr hr=>⟨rfl,rfl⟩
 ·rw[AAQ h2];by_cases h3:t.2.2.2=3
  ·rw[AAP h3];obtain⟨g1,g2,g3⟩:=ZK d.sk (QG l t);refine d.kL ht g1 g2 (s:=4) ⟨J,J⟩ (λr=>rfl) λr hr=>⟨rfl,?_⟩;obtain⟨r',q1,_,q3⟩:=hT.cz ht;grind
  ·rw[AAQ h3];exact d.gone ht λr=>rfl
theorem DK.Dh{l:ADE}(d:DK a nx l crew ts){st:Int}(wc:1<=st/\st<=3)(yO:∀t∈ts,t.1≠id):DK a nx (R7 l id st) crew ts:=by
 have mem:∀q∈R7 l id st,∃o∈l,q=(bif o.1==id then(o.1,o.2.1,o.2.2.1,o.2.2.2.1,st)else o:Pv):=λq hq=>by unfold R7 at hq;grind
 have key:∀o:Pv,(bif o.1==id then(o.1,o.2.1,o.2.2.1,o.2.2.2.1,st)else o:Pv).1=o.1/\(bif o.1==id then(o.1,o.2.1,o.2.2.1,o.2.2.2.1,st)else o:Pv).2.1=o.2.1/\(bif o.1==id then(o.1,o.2.1,o.2.2.1,o.2.2.2.1,st)else o:Pv).2.2.1=o.2.2.1/\(bif o.1==id then(o.1,o.2.1,o.2.2.1,o.2.2.2.1,st)else o:Pv).2.2.2.1=o.2.2.2.1:=λo=>No
 obtain⟨b1,b2,b3,b4⟩:=d.bk;refine { d with bk:=⟨b1,by unfold R7;grind,?_,λq hq=>?_⟩,tk:=λt ht=>(d.tk t ht).same (λ_=>rfl) (cK l id st t.1 (yO t ht)) }
 ·unfold R7;rw[ABh];exact b3.imp fun {x y} hxy=>No
 ·obtain⟨o,ho,rfl⟩:=mem q hq;obtain⟨k1,k2,k3,k4⟩:=key o;obtain⟨g1,g2,g3,g4,g5⟩:=b4 o ho;unfold fC;rw[k1,k2,k3,k4];refine⟨g1,g2,g3,g4,?_⟩;cases(o.1==id)
  all_goals grind
def OB(B:Int)(ou:By):Prop:=ou.length=51/\∀x∈ou,0<=x/\x<=B
theorem OB.getD{B:Int}{ou:By}(h:OB B ou)(hB:0<=B)(i:Nat):0<=ou.getD i 0/\ou.getD i 0<=B:=by
 rw[List.getD];cases hq:ou[i]? with
 |none=>grind
 |some x=>exact h.2 x (AAN hq)
theorem OB.set{B C:Int}{ou:By}(h:OB B ou)(hBC:B<=C)(i:Nat){x:Int}(hx:0<=x/\x<=C):OB C (ou.set i x):=by
 refine⟨by rw[List.length_set];exact h.1,λy hy=>?_⟩;rcases List.mem_or_eq_of_mem_set hy with hy|rfl
 ·have:=h.2 y hy;omega
 ·exact hx
theorem UA.ob{ou:By}(h:UA ou):OB 1000000 ou:=⟨h.1,h.2.1⟩
def idx(N:Nat):By:=(List.range N).map λi:Nat=>(i:Int)
theorem my{N:Nat}(h:i<N):(idx N)[i]?=some (i:Int):=by simp[idx,h]
theorem Yh(N:Nat):(idx N).length=N:=by simp[idx]
theorem Yi{N:Nat}{x:Int}:x∈idx N↔0<=x/\x<(N:Int):=by
 simp only[idx,AAs,AAX];constructor
 ·omega
 ·rintro ⟨h1,h2⟩;exact⟨x.toNat,J,J⟩
theorem dr(N:Nat):(idx N).Nodup:=by unfold idx List.Nodup;rw[ABh];exact AB6.imp fun {a b} h e=>h J
theorem kO(N:Nat):idx (N+1)=idx N++[(N:Int)]:=by simp[idx,AB1]
abbrev Rb:=Int×Int×Int×Bool×Int
abbrev ADN:=List Rb
def Pr(crew:ADN)(i:Int):Rb:=crew.getD i.toNat (0,0,0,false,0)
theorem Zb{crew:ADN}{i:Int}(h:0<=i/\i<(crew.length:Int)):Iy crew i=some (Pr crew i):=by obtain⟨m,rfl⟩:∃m:Nat,i=m:=⟨i.toNat,J⟩;rw[PS J];simp[Pr,List.getD,AAI (show m<crew.length by omega)]
theorem Rp{crew:ADN}(h:i<crew.length):Pr crew (i:Int)=crew[i]:=by simp[Pr,List.getD,AAI h]
def nQ(crew:ADN):Prop:=∀a b:Int,0<=a->a<b->b<(crew.length:Int)->(Pr crew a).1<(Pr crew b).1
def XF(crew:ADN)(a b:Int):Bool:=decide ((Pr crew a).2.2.2.2>(Pr crew b).2.2.2.2)||(decide ((Pr crew a).2.2.2.2=(Pr crew b).2.2.2.2)&&decide ((Pr crew a).1<(Pr crew b).1))
theorem cq{crew:ADN}(h:nQ crew){xs:By}(hx:∀x∈xs,0<=x/\x<(crew.length:Int)):Ord (XF crew) xs:=by
 refine⟨λx=>by simp[XF],λx y z h1 h2=>?_,λx xJ y hy1 uV=>?_⟩
 ·simp only[XF,AAd,AAJ,AAe]at h1 h2 ⊢;omega
 ·simp only[XF,AAd,AAJ,AAe];have q1:=hx x xJ;have q2:=hx y hy1;rcases Int.lt_or_gt_of_ne uV with hl|hl
  ·have:=h x y q1.1 hl q2.2;omega
  ·have:=h y x q2.1 hl q1.2;omega
theorem ZB{crew:ADN}{a b:Int}(ha:0<=a/\a<(crew.length:Int))(hb:0<=b/\b<(crew.length:Int)):Om crew a b=some (XF crew a b):=by unfold Om XF;rw[Zb ha,Zb hb];rfl
theorem gG{lt:Int->Int->Option Bool}{lb:Int->Int->Bool}{xs:By}(hx:∀x∈xs,∀y∈xs,lt x y=some (lb x y))(yO:∀x y,(lt x y).isSome=true->lt x y=some (lb x y))(ym:xs.length<=20)(vd:xs.Nodup)(ho:Ord lb xs)(htr:∀x y z,lt x y=some true->lt y z=some true->(lt x z).isSome=true):
  ∃l,Mg lt xs=some l/\l.Perm xs/\l.Pairwise λx y=>lb x y=true:=by
 have hb:∀x y,OX lt x y=true↔lt x y=some true:=λx y=>by
  unfold OX;cases lt x y with
  |none=>simp
  |some b=>simp
 have hord:Ord (OX lt) xs:=by
  refine⟨λx=>?_,λx y z h1 h2=>?_,λx xJ y hy1 uV=>?_⟩
  ·cases h:OX lt x x with
   |false=>rfl
   |true=>
    have h:=(hb x x).1 h;have:=yO x x (by rw[h];rfl);rw[h,ho.si]at this;cases this
  ·rw[hb]at h1 h2 ⊢;have e1:=yO x y (by rw[h1];rfl);have e2:=yO y z (by rw[h2];rfl);rw[h1]at e1;rw[h2]at e2;injection e1 with e1;injection e2 with e2
   rw[yO x z (htr x y z h1 h2),ho.tr x y z e1.symm e2.symm]
  ·rw[hb,hb,hx x xJ y hy1,hx y hy1 x xJ];rcases ho.Rf x xJ y hy1 uV with h|h
   ·exact .inl (by rw[h])
   ·exact .inr (by rw[h])
 obtain⟨l,h1,h2,h3⟩:=lJ (lt:=lt) (xs:=xs) (λx h y h'=>by rw[hx x h y h'];rfl) ym vd hord;refine⟨l,h1,h2,AB8 (fun {a b} ha uZ h=>?_) h3⟩;grind
theorem dE{crew:ADN}(h:nQ crew)(ym:crew.length<=20)(n:Nat)(hn:Pa<=n):∃l,Xm n crew=some l/\l.Perm (idx crew.length)/\l.Pairwise λx y=>XF crew x y=true:=by
 have hB:1048576<=n:=AA2 ADP hn
 have hit:iter n (TZ crew) (0,[])=some ((crew.length:Int),idx crew.length):=by
  have:=P0 (TZ crew) (λi=>((i:Int),idx i)) crew.length ((crew.length:Int),idx crew.length) (λi hi=>by
   have hm:decide ((idx i).length+[(i:Int)].length<=E8)=true:=by rw[AAe,Yh];simp[E8];omega
   simp only[TZ,hm,PR hi J,kO];rw[show decide ((i:Int)<(crew.length:Int))=true by simpa using hi];rfl) (by simp[TZ]) n J
  simpa[idx]using this
 have hm:∀x∈idx crew.length,0<=x/\x<(crew.length:Int):=λx hx=>Yi.1 hx
 have hv:∀x y,(Om crew x y).isSome=true->(0<=x/\x<(crew.length:Int))/\(0<=y/\y<(crew.length:Int)):=λx y h=>by
  unfold Om at h;cases hx:Iy crew x with
  |none=>rw[hx]at h;cases h
  |some p=>
   cases hy:Iy crew y with
   |none=>rw[hx,hy]at h;cases h
   |some q=>
    obtain⟨k,rfl,hk,_⟩:=M1 hx;obtain⟨k',rfl,vh,_⟩:=M1 hy;omega
 obtain⟨l,h1,h2,h3⟩:=gG (lt:=Om crew) (lb:=XF crew) (xs:=idx crew.length) (λx hx y hy=>ZB (hm x hx) (hm y hy)) (λx y h=>ZB (hv x y h).1 (hv x y h).2) (by rw[Yh];exact ym) (dr _) (cq h hm)
  (λx y z h1 h2=>by rw[ZB (hv x y (by rw[h1];rfl)).1 (hv y z (by rw[h2];rfl)).2];rfl)
 refine⟨l,?_,h2,h3⟩;unfold Xm;grind
theorem dR{crew:ADN}(h:nQ crew)(ym:crew.length<=20)(n:Nat)(hn:Pa<=n):∃l,Wl n crew=some l/\l.Perm (idx crew.length)/\l.Pairwise λx y=>XF crew x y=true:=by
 have hB:1048576<=n:=AA2 ADP hn;have hm:∀x∈idx crew.length,0<=x/\x<(crew.length:Int):=λx hx=>Yi.1 hx
 obtain⟨l,h1,h2,h3⟩:=b8 (VV n crew) (XF crew) (idx crew.length) (dr _) (cq h hm) (λi x l hx hl uR xR=>by
   rw[Yh]at uR;rw[my J]at hx;injection hx with hx
   subst hx;have hi:i<crew.length:=J
   have hir:=Zb (crew:=crew) (i:=(i:Int)) ⟨J,J⟩
   have step:∀k y z,l[k]?=some y->Tm crew (l,(i:Int)) (((k+1:Nat):Int),hole l (k+1) z)=some (bif XF crew (i:Int) y then .inl ((k:Int),hole l k y)else .inr (((k+1:Nat):Int),hole l (k+1) z)):=by
    intro k y z hk;have hkl:k<l.length:=(AAK.1 hk).1;have hyr:=Zb (hm y (xR y (AAN hk)));have hw:PV (((k+1:Nat):Int)-1)=(k:Int):=by rw[PY J J];omega
    have hi1:Oi (hole l (k+1) z) (k:Int)=true:=PX (by rw[SF J];omega);have hi2:Oi (hole l (k+1) z) ((k+1:Nat):Int)=true:=PX (by rw[SF J];omega);simp only[Tm,hw,hi1,hi2,ABU,bL hk,ABQ,hyr,hir,QH,ba hk,ABR];rw[show decide (((k+1:Nat):Int)>0)=true by rw[AAe];omega]
    have e:XF crew (i:Int) y=(decide ((Pr crew y).2.2.2.2<(Pr crew (i:Int)).2.2.2.2)||(((Pr crew y).2.2.2.2==(Pr crew (i:Int)).2.2.2.2)&&decide ((Pr crew y).1>(Pr crew (i:Int)).1))):=by unfold XF;rw[ABx];simp only[AAd,AAJ,AAe,AAT];omega
    rw[e];generalize decide ((Pr crew y).2.2.2.2<(Pr crew (i:Int)).2.2.2.2)=b1;generalize ((Pr crew y).2.2.2.2==(Pr crew (i:Int)).2.2.2.2)=b2;generalize decide ((Pr crew y).1>(Pr crew (i:Int)).1)=b3;cases b1<;>cases b2<;>cases b3<;>rfl
   obtain⟨k,z,e,hk,q1,q2⟩:=fR (Tm crew (l,(i:Int))) (XF crew (i:Int)) l (λk y z hk hy=>by rw[step k y z hk,hy];rfl) (λk y z hk hy=>by rw[step k y z hk,hy];rfl) (λz=>by simp[Tm]) n J (i:Int);refine⟨k,hk,?_,q1,q2⟩;have hmr:decide (l.length+[(i:Int)].length<=E8)=true:=by rw[AAe];simp[E8];omega
   simp only[VV,hmr,e,ABQ,PX (show k<(hole l k z).length by rw[SF hk];omega),ABU,QH,Zx hk,PR hi J,ABR];grind) (λl=>by simp[VV,Yh]) n (by rw[Yh];omega)
 refine⟨l,?_,h2,h3⟩;unfold Wl;rw[h1];rfl
theorem lS{crew:ADN}(h:nQ crew)(ym:crew.length<=20)(n:Nat)(hn:Pa<=n):∃l,Xm n crew=some l/\Wl n crew=some l/\l.Perm (idx crew.length):=by obtain⟨a,a1,a2,a3⟩:=dE h ym n hn;obtain⟨b,b1,b2,b3⟩:=dR h ym n hn;have:a=b:=ZF (cq h λx hx=>Yi.1 hx) a3 b3 a2 b2;grind
theorem UK(r ka kb a b:Int):M6 r ka kb a b=true↔ka<kb\/(ka=kb/\((a≠r/\b=r)\/((a=r↔b=r)/\a<b))):=by unfold M6;grind
theorem Wy(r:Int)(key:Int->Int)(xs:By):Ord (λa b=>M6 r (key a) (key b) a b) xs:=by
 refine⟨λx=>?_,λx y z h1 h2=>?_,λx _ y _ uV=>?_⟩
 ·cases h:M6 r (key x) (key x) x x with
  |false=>rfl
  |true=>rw[UK]at h;omega
 ·rw[UK]at h1 h2 ⊢;omega
 ·rw[UK,UK];omega
theorem eO{r k1 k2 l1 l2 a b:Int}(h1:k1<k2↔l1<l2)(h2:k1=k2↔l1=l2):M6 r k1 k2 a b=M6 r l1 l2 a b:=by rw[ABx,UK,UK,h1,h2]
def U7(c yS:By)(v:Int):Int:=bif decide (PU yS v<0)then(c.length:Int)+1 else PU yS v
theorem Xs(hc:c.length<=100){r a b:Int}(ha:0<=a/\a<(yS.length:Int))(hb:0<=b/\b<(yS.length:Int)):OL yS c r a b=some (M6 r (U7 c yS a) (U7 c yS b) a b):=by unfold OL M4;rw[Wc ha,Wc hb,show IntKind.wrap .i64 ((c.length:Int)+1)=(c.length:Int)+1 from PY J J];rfl
theorem V1{r x y:Int}(h:(OL yS c r x y).isSome=true):(0<=x/\x<(yS.length:Int))/\(0<=y/\y<(yS.length:Int)):=by
 unfold OL at h;cases hx:M4 c yS x with
 |none=>grind
 |some p=>
  cases hy:M4 c yS y with
  |none=>grind
  |some q=>
   obtain⟨k,_,rfl,hk,_⟩:=OK hx;obtain⟨k',_,rfl,vh,_⟩:=OK hy;omega
structure Std(c:By)(r:Rb):Prop where
 eH:0<=r.2.1/\r.2.1<(c.length:Int)
 pn:PU c r.2.1≠0
 goal:r.2.2.1 = -1\/((0<=r.2.2.1/\r.2.2.1<(c.length:Int))/\PU c r.2.2.1≠0)
def UB(w h:Int)(c:By)(r:Rb):By:=((Rm w h c r.2.1 false).filter λk => !r.2.2.2.1||(PU c k != 2||k==r.2.2.1))++[r.2.1]
def Vm(w h:Int)(c:By)(r:Rb):By:=(Rm w h c r.2.1 r.2.2.2.1++[r.2.1])++(bif decide (r.2.2.1>=0)&&(!((Rm w h c r.2.1 r.2.2.2.1++[r.2.1]).any λx=>x==r.2.2.1)&&(Qc w h r.2.1).any λx=>x==r.2.2.1)then [r.2.2.1]else [])
theorem Yx(f:jC w h c){r:Rb}(s:Std c r):(Vm w h c r).Perm (UB w h c r)/\(UB w h c r).Nodup/\(∀v∈UB w h c r,(0<=v/\v<(c.length:Int))/\PU c v≠0)/\(UB w h c r).length<=5:=by
 obtain⟨n1,n2,n3⟩:=ZY f s.eH false;obtain⟨m1,m2,m3⟩:=ZY f s.eH r.2.2.2.1
 have ndS:(UB w h c r).Nodup:=by unfold UB;rw[AAY];refine⟨n2.filter _,OF,λa ha b hb=>?_⟩;rw[ABI.1 hb];exact(n1 a (ABj.1 ha).1).2
 have ndI:(Vm w h c r).Nodup:=by
  unfold Vm
  have nd1:(Rm w h c r.2.1 r.2.2.2.1++[r.2.1]).Nodup:=by rw[AAY];refine⟨m2,OF,λa ha b hb=>?_⟩;rw[ABI.1 hb];exact(m1 a ha).2
  cases hb:(decide (r.2.2.1>=0)&&(!((Rm w h c r.2.1 r.2.2.2.1++[r.2.1]).any λx=>x==r.2.2.1)&&(Qc w h r.2.1).any λx=>x==r.2.2.1))with
  |false=>grind
  |true=>
   grind
 have memN:∀a v,v∈Rm w h c r.2.1 a↔v∈Qc w h r.2.1/\PU c v≠0/\¬(a=true/\PU c v=2):=by
  intro a v;unfold Rm;rw[ABj];simp only[AAJ,AB4,ne_eq,AAV,ACA,ABY];constructor
  ·grind
  ·grind
 have memS:∀v,v∈UB w h c r↔v=r.2.1\/(v∈Qc w h r.2.1/\PU c v≠0/\(r.2.2.2.1=false\/PU c v≠2\/v=r.2.2.1)):=by
  intro v;unfold UB;rw[ABG,ABj,memN];simp only[ABI,AAd,AAV,AB4,ne_eq,AAT];constructor
  ·grind
  ·grind
 have memI:∀v,v∈Vm w h c r↔v=r.2.1\/(v∈Qc w h r.2.1/\PU c v≠0/\¬(r.2.2.2.1=true/\PU c v=2))\/(r.2.2.1>=0/\r.2.2.1∈Qc w h r.2.1/\v=r.2.2.1):=by
  intro v;unfold Vm;rw[ABG,ABG,memN];cases hb:(decide (r.2.2.1>=0)&&(!((Rm w h c r.2.1 r.2.2.2.1++[r.2.1]).any λx=>x==r.2.2.1)&&(Qc w h r.2.1).any λx=>x==r.2.2.1))with
  |false=>
   grind
  |true=>
   grind
 refine⟨(List.perm_ext_iff_of_nodup ndI ndS).2 λv=>?_,ndS,λv hv=>?_,?_⟩
 ·rw[memI,memS];constructor
  ·rintro (h|⟨h1,h2,h3⟩|⟨h1,h2,rfl⟩)
   ·exact .inl h
   ·refine .inr ⟨h1,h2,?_⟩;cases hl:r.2.2.2.1 with
    |false=>exact .inl rfl
    |true=>exact .inr (.inl λh=>h3 ⟨hl,h⟩)
   ·refine .inr ⟨h2,?_,.inr (.inr rfl)⟩;rcases s.goal with hg|hg
    ·omega
    ·exact hg.2
  grind
 ·rcases(memS v).1 hv with rfl|⟨h1,h2,_⟩
  ·exact⟨s.eH,s.pn⟩
  ·have:=(XN (f.cell s.eH)).1 _ h1;grind
 ·unfold UB;grind
theorem iN{i:Int}(h:0<=i/\i<(c.length:Int))(hk:PU c i≠0):QQ c i=true:=by unfold QQ P8;rw[ABW h.1,ABW (show i<=(c.length:Int)-1 by omega)];simpa[PU]using hk
structure nW(w h:Int)(c:By)(r:Rb)(yS F:By):Prop where
 len:yS.length=c.length
 Mm:∀x∈yS, -1<=x/\x<=(c.length:Int)
 neg:r.2.2.1<0->F=[]/\yS=(List.replicate c.length 1).set r.2.1.toNat 0
 pos:0<=r.2.2.1->F=yS/\∀n,Pa<=n->U2 n w h c r.2.2.1 r.2.2.2.1=some yS
 spec:∀n,Pa<=n->TQ n w h c r.1 r.2.1 r.2.2.1 r.2.2.2.1 r.2.2.2.2=some F
theorem mx(f:jC w h c){r:Rb}(s:Std c r):∃yS F,nW w h c r yS F:=by
 have hN:=f.le;by_cases hg:r.2.2.1<0
 ·refine⟨(List.replicate c.length 1).set r.2.1.toNat 0,[],OF,λx hx=>?_,λ_=>⟨rfl,rfl⟩,λh=>absurd h J,λn hn=>?_⟩
  ·grind
  ·unfold TQ;grind
 ·have hgr:(0<=r.2.2.1/\r.2.2.1<(c.length:Int)):=by
   rcases s.goal with h|h
   ·omega
   ·exact h.1
  obtain⟨F,h12,h3,h4⟩:=fL f hgr r.2.2.2.1;refine⟨F,F,h3,λx hx=>?_,λh=>absurd h hg,λ_=>⟨rfl,λn hn=>(h12 n hn).2⟩,λn hn=>?_⟩
  ·grind
  ·unfold TQ;grind
theorem ZQ(c:By)(hl:c.length<=100)(n:Nat)(hn:Pa<=n):iter n (Tq c) (0,List.replicate (Int.toNat (c.length:Int)) 0)=some ((c.length:Int),List.replicate c.length 1):=by have hB:1048576<=n:=AA2 ADP hn;rw[ABU];refine gC _ c.length 1 (λi out hi ho=>?_) (λout ho=>by simp[Tq]) n J;simp only[Tq,PX (ho▸hi),PR hi J,QH,ABU,ABR,List.length_replicate];grind
theorem al(hf:Ph w h c=true){r:Rb}(s:Std c r)(n:Nat)(hn:Pa<=n){F:By}(hfar:nW w h c r yS F):
  ∃C,UW n w h c r.1 r.2.1 r.2.2.1 r.2.2.2.1 r.2.2.2.2=some C/\C.Perm (Vm w h c r)/\C.Pairwise λa b=>M6 r.2.1 (U7 c yS a) (U7 c yS b) a b=true:=by
 have f:=TS hf;have hN:=f.le;have hB:1048576<=n:=AA2 ADP hn;obtain⟨pm,nd,rng,l5⟩:=Yx f s
 have wc:Ra n w h c r.1 r.2.1 r.2.2.1 r.2.2.2.1 r.2.2.2.2=some true:=by
  rw[XX w h c J hf r n hn,iN s.eH s.pn];rcases s.goal with hg|⟨g1,g2⟩
  ·rw[hg];rfl
  ·rw[iN g1 g2];simp
 obtain⟨m1,m2,m3⟩:=ZY f s.eH r.2.2.2.1;have hb4:=(XN (f.cell s.eH)).2.2;have hm1:decide ((Rm w h c r.2.1 r.2.2.2.1).length+[r.2.1].length<=E8)=true:=by rw[AAe];simp[E8];omega
 have hm2:decide ((Rm w h c r.2.1 r.2.2.2.1++[r.2.1]).length+[r.2.2.1].length<=E8)=true:=by rw[AAe];simp[E8];omega
 have hmA:decide ((0:Int)<=(c.length:Int))=true:=OF
 have hmB:decide ((c.length:Int)<=(E8:Int))=true:=by rw[AAe];unfold E8;omega
 have uO:Oi (List.replicate c.length (1:Int)) r.2.1=true:=(TV (by simpa using s.eH)).1;have hI1:P5 n (Rm w h c r.2.1 r.2.2.2.1++[r.2.1]) r.2.2.1=some ((Rm w h c r.2.1 r.2.2.2.1++[r.2.1]).any λx=>x==r.2.2.1):=by rw[XS];exact QO _ ADJ _ n hn
 have hI2:P5 n (Qc w h r.2.1) r.2.2.1=some ((Qc w h r.2.1).any λx=>x==r.2.2.1):=by rw[XS];exact QO _ J _ n hn
 have hrI:∀x∈Vm w h c r,0<=x/\x<(yS.length:Int):=λx hx=>by rw[hfar.len];grind
 obtain⟨C,e1,e2,e3⟩:=gG (lt:=OL yS c r.2.1) (lb:=λa b=>M6 r.2.1 (U7 c yS a) (U7 c yS b) a b) (xs:=Vm w h c r) (λx hx y hy=>Xs hN (hrI x hx) (hrI y hy)) (λx y hxy=>Xs hN (V1 hxy).1 (V1 hxy).2) (by rw[pm.length_eq];omega) (pm.nodup_iff.2 nd) (Wy _ _ _)
  (λx y z h1 h2=>by rw[Xs hN (V1 (by rw[h1];rfl)).1 (V1 (by rw[h2];rfl)).2];rfl)
 refine⟨C,?_,e2,e3⟩;unfold UW;simp only[YH,P3 w h c J n hn,hf,wc,ABQ,ABZ,ABS,ZT f s.eH r.2.2.2.1 n hn,hm1,ABR,hI1,dX,Zr (f.cell s.eH),hI2,hm2,hmA,hmB,decide_true,ACC,ZQ c hN n hn,uO,QH];by_cases hg:r.2.2.1<0
 ·obtain⟨_,vV⟩:=hfar.neg hg;have hd:decide (r.2.2.1>=0)=false:=by rw[AAn];omega
  have hc0:Vm w h c r=Rm w h c r.2.1 r.2.2.2.1++[r.2.1]:=by unfold Vm;rw[hd];simp
  grind
 ·obtain⟨_,vV⟩:=hfar.pos J;have hd:decide (r.2.2.1>=0)=true:=by rw[AAe];omega
  have hc0:Vm w h c r=(Rm w h c r.2.1 r.2.2.2.1++[r.2.1])++(bif !((Rm w h c r.2.1 r.2.2.2.1++[r.2.1]).any λx=>x==r.2.2.1)&&(Qc w h r.2.1).any λx=>x==r.2.2.1 then [r.2.2.1]else []):=by unfold Vm;rw[hd];rfl
  rw[hd,vV n hn]
  revert hc0
  generalize ((Rm w h c r.2.1 r.2.2.2.1++[r.2.1]).any λx=>x==r.2.2.1)=b1;generalize ((Qc w h r.2.1).any λx=>x==r.2.2.1)=b2;intro hc0;cases b1<;>cases b2<;>simp only[ABZ,ABq,ABp,ABw,ABR,ABS,AA1,ABQ]at hc0 ⊢ <;> rw[<-hc0,e1]<;>rfl
theorem mA(hN:c.length<=100){r:Rb}(s:Std c r){F:By}(hfar:nW w h c r yS F):
  ∃rk:Int->Int,(∀v,0<=v/\v<(c.length:Int)->UO r.1 r.2.1 r.2.2.1 r.2.2.2.1 r.2.2.2.2 F v=some (rk v))/\
   ∀a b,(0<=a/\a<(c.length:Int))->(0<=b/\b<(c.length:Int))->(rk a<rk b↔U7 c yS a<U7 c yS b)/\(rk a=rk b↔U7 c yS a=U7 c yS b):=by
 by_cases hg:r.2.2.1<0
 ·obtain⟨_,vV⟩:=hfar.neg hg
  have hk:∀v,0<=v/\v<(c.length:Int)->U7 c yS v=bif v==r.2.1 then 0 else 1:=λv hv=>by
   have:PU yS v=bif v==r.2.1 then 0 else 1:=by
    rw[vV];unfold PU;rw[List.getD_eq_getElem?_getD,List.getElem?_set];by_cases he:v=r.2.1
    ·subst he;rw[AAP rfl,AAP ADJ];simp
    ·have uV:¬r.2.1.toNat=v.toNat:=λe=>he (by have:=s.eH;omega);rw[AAQ uV,List.getElem?_replicate,AAP J,show(v==r.2.1)=false by simpa using he];rfl
   unfold U7;rw[this];cases(v==r.2.1)<;>rfl
  refine⟨λv=>bif v==r.2.1 then 0 else 1,λv hv=>?_,λa b ha hb=>?_⟩
  ·unfold UO;rw[ABW hg];show _=some (bif v==r.2.1 then 0 else 1);cases(v==r.2.1)<;>rfl
  grind
 ·obtain⟨hF,_⟩:=hfar.pos J;have hb:∀v,0<=v/\v<(c.length:Int) -> -1<=PU yS v/\PU yS v<=(c.length:Int):=λv hv=>hfar.Mm _ (TV (by rw[hfar.len];exact hv)).2.2;refine⟨λv=>bif decide (PU yS v<0)then 1000 else PU yS v,λv hv=>?_,λa b ha uZ=>?_⟩
  ·unfold UO;rw[ABa hg,hF];simp only[ABS,Wc (c:=yS) (i:=v) (by rw[hfar.len];exact hv),ABQ];grind
  ·have q1:=hb a ha;have q2:=hb b uZ;unfold U7;grind
theorem jG(hN:c.length<=100){r:Rb}(s:Std c r){F:By}(hfar:nW w h c r yS F){a b:Int}(ha:0<=a/\a<(c.length:Int))(hb:0<=b/\b<(c.length:Int)):
  Vb r.1 r.2.1 r.2.2.1 r.2.2.2.1 r.2.2.2.2 F a b=some (M6 r.2.1 (U7 c yS a) (U7 c yS b) a b):=by
 obtain⟨rk,h1,h2⟩:=mA hN s hfar;obtain⟨q1,q2⟩:=h2 a b ha hb;rw[<-eO q1 q2];unfold Vb M6;grind
theorem X7(f:jC w h c){r:Rb}(s:Std c r)(n:Nat)(hn:Pa<=n){F:By}(hfar:nW w h c r yS F):
  ∃C,R3 n w h c r.1 r.2.1 r.2.2.1 r.2.2.2.1 r.2.2.2.2 F=some C/\C.Perm (UB w h c r)/\C.Pairwise λa b=>M6 r.2.1 (U7 c yS a) (U7 c yS b) a b=true:=by
 have hN:=f.le;have hB:1048576<=n:=AA2 ADP hn;obtain⟨pm,nd,rng,l5⟩:=Yx f s;obtain⟨m1,m2,m3⟩:=ZY f s.eH false
 have zg:=YG (Si c r.2.2.1 r.2.2.2.1 (Rm w h c r.2.1 false)) (Rm w h c r.2.1 false) (λk => !r.2.2.2.1||(PU c k != 2||k==r.2.2.1)) (λj x out hx hj ho=>by
  have hxm:=m1 x (AAN hx);have hm:decide (out.length+[x].length<=E8)=true:=by rw[AAe];simp[E8];omega
  simp only[Si,PX hj,ABU,hx,ABQ,Wc (c:=c) (i:=x) hxm.1,PR hj J,ABR,hm];grind) (λout=>by simp[Si]) n J
 have hcS:(Rm w h c r.2.1 false).filter (λk => !r.2.2.2.1||(PU c k != 2||k==r.2.2.1))++[r.2.1]=UB w h c r:=rfl;generalize hx9:(Rm w h c r.2.1 false).filter (λk => !r.2.2.2.1||(PU c k != 2||k==r.2.2.1))=x9 at zg hcS;have hx9l:x9.length<=4:=by rw[<-hx9];exact AA2 (ABo _ _) m3
 generalize hj9:((Rm w h c r.2.1 false).length:Int)=j9 at zg
 obtain⟨l,h1,h2,h3⟩:=b8 (Sj n r.1 r.2.1 r.2.2.1 r.2.2.2.1 r.2.2.2.2 F (x9,j9)) (λa b=>M6 r.2.1 (U7 c yS a) (U7 c yS b) a b) (UB w h c r) nd (Wy _ _ _) (λi x l hx hl uR xR=>by
   have hi:i<(UB w h c r).length:=J
   have hxr:=(rng x (AAN hx)).1
   have step:∀k y z,l[k]?=some y->RU r.1 r.2.1 r.2.2.1 r.2.2.2.1 r.2.2.2.2 F (x9,j9) (l,(i:Int)) (((k+1:Nat):Int),hole l (k+1) z)=some (bif M6 r.2.1 (U7 c yS x) (U7 c yS y) x y then .inl ((k:Int),hole l k y)else .inr (((k+1:Nat):Int),hole l (k+1) z)):=by
    intro k y z hk;have hkl:k<l.length:=(AAK.1 hk).1;have hyr:=(rng y (xR y (AAN hk))).1;have hw:PV (((k+1:Nat):Int)-1)=(k:Int):=by rw[PY J J];omega
    have hi1:Oi (hole l (k+1) z) (k:Int)=true:=PX (by rw[SF J];omega);have hi2:Oi (hole l (k+1) z) ((k+1:Nat):Int)=true:=PX (by rw[SF J];omega);simp only[RU,hcS,hw,hi1,hi2,PX hi,hx,ABU,bL hk,ABQ,jG hN s hfar hxr hyr,QH,ba hk,ABR];rw[show decide (((k+1:Nat):Int)>0)=true by rw[AAe];omega];cases M6 r.2.1 (U7 c yS x) (U7 c yS y) x y<;>rfl
   obtain⟨k,z,e,hk,q1,q2⟩:=fR (RU r.1 r.2.1 r.2.2.1 r.2.2.2.1 r.2.2.2.2 F (x9,j9) (l,(i:Int))) (λy=>M6 r.2.1 (U7 c yS x) (U7 c yS y) x y) l (λk y z hk hy=>by rw[step k y z hk,hy];rfl) (λk y z hk hy=>by rw[step k y z hk,hy];rfl) (λz=>by simp[RU]) n J x;refine⟨k,hk,?_,q1,q2⟩;have hmr:decide (l.length+[x].length<=E8)=true:=by rw[AAe];simp[E8];omega
   simp only[Sj,hcS,hmr,e,PX hi,hx,ABQ,PX (show k<(hole l k z).length by rw[SF hk];omega),ABU,QH,Zx hk,PR hi J,ABR];grind) (λl=>by simp[Sj,hcS]) n J
 refine⟨l,?_,h2,h3⟩;have hm:decide (x9.length+[r.2.1].length<=E8)=true:=by rw[AAe];simp[E8];omega
 unfold R3;simp only[Zm f s.eH false n hn,ABQ,zg,hm,ABR,h1]
theorem Xg(hf:Ph w h c=true){r:Rb}(s:Std c r):
  ∃F C,(∀n,Pa<=n->TQ n w h c r.1 r.2.1 r.2.2.1 r.2.2.2.1 r.2.2.2.2=some F/\R3 n w h c r.1 r.2.1 r.2.2.1 r.2.2.2.1 r.2.2.2.2 F=some C/\UW n w h c r.1 r.2.1 r.2.2.1 r.2.2.2.1 r.2.2.2.2=some C)/\
   (∀v∈C,(0<=v/\v<(c.length:Int))/\PU c v≠0)/\C.Nodup/\C.length<=5:=by
 have f:=TS hf;obtain⟨yS,F,hfar⟩:=mx f s;obtain⟨B,b1,b2,b3⟩:=X7 f s Pa (AAb _) hfar;obtain⟨pm,nd,rng,l5⟩:=Yx f s;refine⟨F,B,λn hn=>⟨hfar.spec n hn,?_,?_⟩,λv hv=>rng v (b2.mem_iff.1 hv),b2.nodup_iff.2 nd,by rw[b2.length_eq];exact l5⟩
 ·obtain⟨A,a1,a2,a3⟩:=X7 f s n hn hfar;rw[a1,ZF (Wy r.2.1 (U7 c yS) (UB w h c r)) a3 b3 a2 b2]
 ·obtain⟨A,a1,a2,a3⟩:=al hf s n hn hfar;rw[a1,ZF (Wy r.2.1 (U7 c yS) (UB w h c r)) a3 b3 (a2.trans pm) b2]
theorem YS{l:By}{i v:Int}(hi:0<=i/\i<(l.length:Int))(hk:0<=k):PU (l.set i.toNat v) k=if k=i then v else PU l k:=by unfold PU;grind
theorem gu{l:By}{v:Int}:v∈l↔∃k:Int,(0<=k/\k<(l.length:Int))/\PU l k=v:=by
 constructor
 ·intro h;obtain⟨j,hj,e⟩:=ABV.1 h;exact⟨j,⟨J,J⟩,by rw[<-e];simp[PU,List.getD,AAI hj]⟩
 ·rintro ⟨k,hk,rfl⟩
  exact(TV hk).2.2
def YR(l:By):Nat:=l.countP λx=>decide (x<0)
theorem ZZ{l:By}{i v:Int}(hi:0<=i/\i<(l.length:Int)):YR (l.set i.toNat v)+(if PU l i<0 then 1 else 0)=YR l+(if v<0 then 1 else 0):=by obtain⟨_,e1,m⟩:=TV hi;obtain⟨hil,e2⟩:=AAK.1 e1;unfold YR;grind
structure lZ(c:By)(crew:ADN):Prop where
 n20:crew.length<=20
 iE:∀i,0<=i->i<(crew.length:Int)->Std c (Pr crew i)
 dA:∀i j,0<=i->i<(crew.length:Int)->0<=j->j<(crew.length:Int)->(Pr crew i).2.1=(Pr crew j).2.1->i=j
def jB(c:By)(v:Int):Prop:=(0<=v/\v<(c.length:Int))/\PU c v≠0
structure ph(c:By)(crew:ADN)(next:By)(i p:Int):Prop where
 len:next.length=crew.length
 ir:0<=i/\i<(crew.length:Int)
 neg:PU next i<0
 vals:∀k,0<=k->k<(crew.length:Int)->PU next k = -1\/jB c (PU next k)
 D:∀a b,0<=a->a<(crew.length:Int)->0<=b->b<(crew.length:Int)->0<=PU next a->PU next a=PU next b->a=b
 U:∀j k,0<=j->j<(crew.length:Int)->0<=k->k<(crew.length:Int)->PU next j<0->j≠i->PU next k≠(Pr crew j).2.1
 T:∀k,0<=k->k<(crew.length:Int)->PU next k=(Pr crew i).2.1->k=p
 sg:p = -1\/((0<=p/\p<(crew.length:Int))/\p≠i)
structure Kept(c:By)(crew:ADN)(next next':By):Prop where
 len:next'.length=crew.length
 vals:∀k,0<=k->k<(crew.length:Int)->PU next' k = -1\/jB c (PU next' k)
 XI:∀k,0<=k->k<(crew.length:Int)->0<=PU next k->PU next' k=PU next k
structure Good(c:By)(crew:ADN)(next':By):Prop where
 D:∀a b,0<=a->a<(crew.length:Int)->0<=b->b<(crew.length:Int)->0<=PU next' a->PU next' a=PU next' b->a=b
 U:∀j k,0<=j->j<(crew.length:Int)->0<=k->k<(crew.length:Int)->PU next' j<0->PU next' k≠(Pr crew j).2.1
structure fD(c:By)(crew:ADN)(next:By)(i:Int)(b:Bool)(next':By):Prop where
 kept:Kept c crew next next'
 mU:YR next'+1<=YR next
 yes:b=true->Good c crew next'/\0<=PU next' i
 no:b=false->PU next' i=(Pr crew i).2.1/\∀k,0<=k->k<(crew.length:Int)->PU next k<0->PU next' k<0\/PU next' k=(Pr crew k).2.1
theorem nN(w h:Int)(c:By)(crew:ADN)(hl:crew.length<=20)(fields:List By)(next:By)(hn1:next.length=crew.length)(v i:Int)(hi:0<=PU next i)(n:Nat)(hn:Pa<=n):
  ∃o,TC n w h c crew next v i=some (o,w,h,c,crew,next)/\Wo n w h c crew fields next v=some (o,w,h,c,crew,fields,next)/\
   ((o = -1/\∀j,0<=j->j<(crew.length:Int)->(Pr crew j).2.1=v->0<=PU next j)\/((0<=o/\o<(crew.length:Int))/\(Pr crew o).2.1=v/\PU next o<0)):=by
 have hB:1048576<=n:=AA2 ADP hn
 obtain⟨z,w',hS,h3,h4⟩:=YO (f:=Rd w h c crew next v i) (g:=Vc w h c crew fields next v)
  (λx y=>∃k:Nat,x=(k:Int)/\y=(k:Int)/\k<=crew.length/\∀j,0<=j->j<(k:Int)->(Pr crew j).2.1=v->0<=PU next j)
  (λz y=>((∃a b,z=.inl a/\y=.inl b)/\∀j,0<=j->j<(crew.length:Int)->(Pr crew j).2.1=v->0<=PU next j)\/∃o,z=.inr (o,w,h,c,crew,next)/\y=.inr (o,w,h,c,crew,fields,next)/\(0<=o/\o<(crew.length:Int))/\(Pr crew o).2.1=v/\PU next o<0)
  (λx=>crew.length-x.toNat) (λx y hR=>by
   obtain⟨k,rfl,rfl,hk,vY⟩:=hR;by_cases hk2:k=crew.length
   ·subst hk2;exact .inl ⟨.inl (crew.length:Int),.inl (crew.length:Int),by simp[Rd],by simp[Vc],.inl ⟨⟨_,_,rfl,rfl⟩,vY⟩⟩
   ·have vh:k<crew.length:=J
    have hr:=Zb (crew:=crew) (i:=(k:Int)) ⟨J,J⟩;obtain⟨i1,i2,i3⟩:=TV (out:=next) (v:=(k:Int)) ⟨J,J⟩;have hd:decide ((k:Int)<(crew.length:Int))=true:=by simpa using vh
    simp only[Rd,Vc,hd,hr,ABQ,i1,i2,ABR,PR vh J];by_cases hv:(Pr crew (k:Int)).2.1=v
    ·by_cases hneg:PU next (k:Int)<0
     ·have uV:((k:Int) != i)=true:=by rw[AB4];intro e;rw[e]at hneg;omega
      refine .inl ⟨.inr ((k:Int),w,h,c,crew,next),.inr ((k:Int),w,h,c,crew,fields,next),?_,?_,.inr ⟨_,rfl,rfl,⟨J,J⟩,hv,hneg⟩⟩
      all_goals grind
     ·refine .inr ⟨((k+1:Nat):Int),((k+1:Nat):Int),?_,?_,⟨k+1,rfl,rfl,J,λj h0 h1 h2=>?_⟩,J⟩
      all_goals grind
    ·have hvb:((Pr crew (k:Int)).2.1==v)=false:=by simpa using hv
     refine .inr ⟨((k+1:Nat):Int),((k+1:Nat):Int),?_,?_,⟨k+1,rfl,rfl,J,λj h0 h1 h2=>?_⟩,J⟩
     all_goals grind) n 0 0 ⟨0,rfl,rfl,J,λj h0 h1=>J⟩ J
 rcases hS with⟨⟨a,b,rfl,rfl⟩,vY⟩|⟨o,rfl,rfl,q1,q2,q3⟩
 ·exact⟨-1,by unfold TC;rw[h3];rfl,by unfold Wo;rw[h4];rfl,.inl ⟨rfl,vY⟩⟩
 ·exact⟨o,by unfold TC;rw[h3];rfl,by unfold Wo;rw[h4];rfl,.inr ⟨q1,q2,q3⟩⟩
theorem lI{α:Type}{l:List α}{k:Nat}{v:α}(h:l[k]?=some v):l.set k v=l:=by obtain⟨hk,e⟩:=AAK.1 h;subst e;exact List.set_getElem_self hk
def OH(crew:ADN)(p:Int):Int:=if 0<=p then(Pr crew p).2.1 else -1
structure mj(w h:Int)(c:By)(crew:ADN)(fields:List By):Prop where
 len:fields.length=crew.length
 each:∀i,0<=i->i<(crew.length:Int)->∃F C,fields[i.toNat]?=some F/\(∀n,Pa<=n->R3 n w h c (Pr crew i).1 (Pr crew i).2.1 (Pr crew i).2.2.1 (Pr crew i).2.2.2.1 (Pr crew i).2.2.2.2 F=some C/\
  UW n w h c (Pr crew i).1 (Pr crew i).2.1 (Pr crew i).2.2.1 (Pr crew i).2.2.2.1 (Pr crew i).2.2.2.2=some C)/\(∀v∈C,jB c v)/\C.length<=5
structure LI(c:By)(crew:ADN)(next:By)(i p:Int)(nI nS:By):Prop where
 pre:ph c crew nI i p
 XI:∀k,0<=k->k<(crew.length:Int)->0<=PU next k->PU nI k=PU next k
 mT:∀k,0<=k->k<(crew.length:Int)->PU next k<0->PU nI k<0\/PU nI k=(Pr crew k).2.1
 mU:YR nI<=YR next
 st:nS=nI\/∃v,nS=nI.set i.toNat v/\0<=v/\∃k,(0<=k/\k<(crew.length:Int))/\k≠i/\PU nI k=v
section
variable {c:By}{crew:ADN}{next nI nS:By}{i p:Int}
theorem LI.Nu(h:LI c crew next i p nI nS):nS.length=crew.length:=by
 rcases h.st with rfl|⟨v,rfl,_⟩
 ·exact h.pre.len
 ·rw[List.length_set];exact h.pre.len
theorem LI.any(h:LI c crew next i p nI nS){v:Int}(hv:0<=v):(nS.any λx=>x==v)=nI.any λx=>x==v:=by
 rcases h.st with rfl|⟨u,rfl,hu,k,hk,hki,hku⟩
 ·rfl
 ·have hlen:=h.pre.len;have hi:=h.pre.ir;rw[ABx,AA5,AA5];simp only[AAT];constructor
  ·rintro ⟨x,hx,rfl⟩
   rcases List.mem_or_eq_of_mem_set hx with hx|rfl
   ·grind
   ·exact⟨x,gu.2 ⟨k,J,hku⟩,rfl⟩
  ·rintro ⟨x,hx,rfl⟩
   obtain⟨j,hj,e⟩:=gu.1 hx;refine⟨x,gu.2 ⟨j,No,?_⟩,rfl⟩;rw[YS J hj.1,AAQ,e]
   rintro rfl
   have:=h.pre.neg;omega
theorem LI.set(h:LI c crew next i p nI nS)(v:Int):nS.set i.toNat v=nI.set i.toNat v:=by
 rcases h.st with rfl|⟨u,rfl,_⟩
 ·rfl
 ·rw[List.set_set]
theorem LI.jM(hcr:lZ c crew)(h:LI c crew next i p nI nS){v:Int}(hv:jB c v)(hnt:∀k,0<=k->k<(crew.length:Int)->PU nI k≠v)(yO:∀j,0<=j->j<(crew.length:Int)->(Pr crew j).2.1=v->0<=PU (nI.set i.toNat v) j)(hneg0:PU next i<0):
  fD c crew next i true (nI.set i.toNat v):=by
 have hlen:=h.pre.len;have hi:=h.pre.ir;have hi2:0<=i/\i<(nI.length:Int):=by rw[hlen];exact hi
 have hs:∀k,0<=k->PU (nI.set i.toNat v) k=if k=i then v else PU nI k:=λk hk=>YS hi2 hk
 refine⟨⟨by simp[hlen],λk h0 h1=>?_,λk h0 h1 h2=>?_⟩,?_,λ_=>⟨⟨λa b a0 a1 b0 b1 hna hab=>?_,λj k j0 j1 k0 k1 hnj hkj=>?_⟩,?_⟩,λhb=>by cases hb⟩
 ·rw[hs k h0];split
  ·exact .inr hv
  ·exact h.pre.vals k h0 h1
 ·rw[hs k h0,AAQ No];exact h.XI k h0 h1 h2
 ·have:=ZZ (l:=nI) (i:=i) (v:=v) hi2;rw[AAP h.pre.neg,AAQ (by have:=hv.1;omega)]at this;have:=h.mU;omega
 ·rw[hs a a0,hs b b0]at hab;rw[hs a a0]at hna;split at hab<;>split at hab
  ·omega
  ·grind
  ·grind
  ·rw[AAQ ADY]at hna;exact h.pre.D a b a0 a1 b0 b1 hna hab
 ·rw[hs k k0]at hkj
  have hji:j≠i:=by
   rintro rfl
   rw[hs j j0,AAP rfl]at hnj;have:=hv.1;omega
  have hnj':PU nI j<0:=by rw[hs j j0,AAQ hji]at hnj;exact hnj
  split at hkj
  ·grind
  ·exact h.pre.U j k j0 j1 k0 k1 hnj' hji hkj
 ·rw[hs i hi.1,AAP rfl];exact hv.1.1
theorem LI.push(hcr:lZ c crew)(h:LI c crew next i p nI nS){v o:Int}(hv:jB c v)(hnt:∀k,0<=k->k<(crew.length:Int)->PU nI k≠v)(ho:0<=o/\o<(crew.length:Int))(hov:(Pr crew o).2.1=v)(hon:PU (nI.set i.toNat v) o<0):
  ph c crew (nI.set i.toNat v) o i/\YR (nI.set i.toNat v)+1=YR nI/\o≠i:=by
 have hlen:=h.pre.len;have hi:=h.pre.ir;have hi2:0<=i/\i<(nI.length:Int):=by rw[hlen];exact hi
 have hs:∀k,0<=k->PU (nI.set i.toNat v) k=if k=i then v else PU nI k:=λk hk=>YS hi2 hk
 have hoi:o≠i:=by
  rintro rfl
  rw[hs o ho.1,AAP rfl]at hon;have:=hv.1;omega
 have hng:=ZZ (l:=nI) (i:=i) (v:=v) hi2;rw[AAP h.pre.neg,AAQ (by have:=hv.1;omega)]at hng;refine⟨⟨by simp[hlen],ho,hon,λk h0 h1=>?_,λa b a0 a1 b0 b1 hna hab=>?_,λj k j0 j1 k0 k1 hnj hjo hkj=>?_,λk k0 k1 hk=>?_,.inr ⟨hi,hoi.symm⟩⟩,J,hoi⟩
 ·rw[hs k h0];split
  ·exact .inr hv
  ·exact h.pre.vals k h0 h1
 ·rw[hs a a0,hs b b0]at hab;rw[hs a a0]at hna;split at hab<;>split at hab
  ·omega
  ·exact absurd hab.symm (hnt b b0 b1)
  ·exact absurd hab (hnt a a0 a1)
  ·rw[AAQ ADY]at hna;exact h.pre.D a b a0 a1 b0 b1 hna hab
 ·rw[hs k k0]at hkj
  have hji:j≠i:=by
   rintro rfl
   rw[hs j j0,AAP rfl]at hnj;have:=hv.1;omega
  have hnj':PU nI j<0:=by rw[hs j j0,AAQ hji]at hnj;exact hnj
  split at hkj
  ·exact hjo (hcr.dA j o j0 j1 ho.1 ho.2 (by rw[<-hkj,hov]))
  ·exact h.pre.U j k j0 j1 k0 k1 hnj' hji hkj
 grind
theorem LI.sX(h:LI c crew next i p nI nS){v o:Int}(hv:jB c v)(hng:YR (nI.set i.toNat v)+1=YR nI){n2:By}(hp:fD c crew (nI.set i.toNat v) o true n2)(hneg0:PU next i<0):fD c crew next i true n2:=by
 have hlen:=h.pre.len;have hi:=h.pre.ir;have hi2:0<=i/\i<(nI.length:Int):=by rw[hlen];exact hi
 have hs:∀k,0<=k->PU (nI.set i.toNat v) k=if k=i then v else PU nI k:=λk hk=>YS hi2 hk
 obtain⟨g,_⟩:=hp.yes rfl;refine⟨⟨hp.kept.len,hp.kept.vals,λk h0 h1 h2=>?_⟩,?_,λ_=>⟨g,?_⟩,λhb=>by cases hb⟩
 ·have hki:k≠i:=by rintro rfl;omega
  have e:=h.XI k h0 h1 h2;have:=hp.kept.XI k h0 h1 (by rw[hs k h0,AAQ hki,e];exact h2);grind
 ·have:=hp.mU;have:=h.mU;omega
 ·have:=hp.kept.XI i hi.1 hi.2 (by rw[hs i hi.1,AAP rfl];exact hv.1.1);rw[this,hs i hi.1,AAP rfl];exact hv.1.1
theorem LI.tB(hcr:lZ c crew)(h:LI c crew next i p nI nS){v o:Int}(hv:jB c v)(hnt:∀k,0<=k->k<(crew.length:Int)->PU nI k≠v)(ho:0<=o/\o<(crew.length:Int))(hov:(Pr crew o).2.1=v)(hoi:o≠i)(hon:PU (nI.set i.toNat v) o<0)
  (hng:YR (nI.set i.toNat v)+1=YR nI) {n2:By} (hp:fD c crew (nI.set i.toNat v) o false n2):LI c crew next i p (n2.set i.toNat (-1)) n2:=by
 have hlen:=h.pre.len;have hi:=h.pre.ir;have hi2:0<=i/\i<(nI.length:Int):=by rw[hlen];exact hi
 have hs:∀k,0<=k->PU (nI.set i.toNat v) k=if k=i then v else PU nI k:=λk hk=>YS hi2 hk
 have zj:=hp.kept.len;have hi3:0<=i/\i<(n2.length:Int):=by rw[zj];exact hi
 have ht:∀k,0<=k->PU (n2.set i.toNat (-1)) k=if k=i then -1 else PU n2 k:=λk hk=>YS hi3 hk
 obtain⟨no1,no2⟩:=hp.no rfl
 have n2i:PU n2 i=v:=by have:=hp.kept.XI i hi.1 hi.2 (by rw[hs i hi.1,AAP rfl];exact hv.1.1);rw[this,hs i hi.1,AAP rfl]
 have oth:∀k,0<=k->k<(crew.length:Int)->k≠i->(0<=PU nI k/\PU n2 k=PU nI k)\/(PU nI k<0/\(PU n2 k<0\/PU n2 k=(Pr crew k).2.1)):=by
  intro k h0 h1 hki;by_cases hk:PU nI k<0
  ·right;refine⟨hk,no2 k h0 h1 ?_⟩;rw[hs k h0,AAQ hki];exact hk
  ·left;refine⟨J,?_⟩;have:=hp.kept.XI k h0 h1 (by rw[hs k h0,AAQ hki];omega);rw[this,hs k h0,AAQ hki]
 have vZ:∀k,0<=k->k<(crew.length:Int)->0<=(Pr crew k).2.1:=λk h0 h1=>(hcr.iE k h0 h1).eH.1;refine⟨⟨by simp[zj],hi,by rw[ht i hi.1,AAP rfl];omega,λk h0 h1=>?_,λa b a0 a1 b0 b1 hna hab=>?_,λj k j0 j1 k0 k1 hnj hji hkj=>?_,λk k0 k1 hk=>?_,h.pre.sg⟩,λk h0 h1 h2=>?_,λk h0 h1 h2=>?_,?_,.inr ⟨v,?_,hv.1.1,o,ho,hoi,?_⟩⟩
 ·rw[ht k h0];split
  ·exact .inl rfl
  ·exact hp.kept.vals k h0 h1
 ·rw[ht a a0,ht b b0]at hab;rw[ht a a0]at hna;by_cases hai:a=i
  ·rw[AAP hai]at hna;omega
  ·rw[AAQ hai]at hna hab;by_cases hbi:b=i
   ·rw[AAP hbi]at hab;omega
   ·rw[AAQ hbi]at hab;rcases oth a a0 a1 hai with⟨ha1,ha2⟩|⟨ha1,ha2⟩
    ·rcases oth b b0 b1 hbi with⟨wH,w6⟩|⟨wH,w6⟩
     ·rw[ha2,w6]at hab;exact h.pre.D a b a0 a1 b0 b1 ha1 hab
     ·rcases w6 with w6|w6
      ·omega
      ·rw[ha2,w6]at hab;exact absurd hab (h.pre.U b a b0 b1 a0 a1 wH hbi)
    ·rcases ha2 with ha2|ha2
     ·omega
     ·rcases oth b b0 b1 hbi with⟨wH,w6⟩|⟨wH,w6⟩
      ·rw[ha2,w6]at hab;exact absurd hab.symm (h.pre.U a b a0 a1 b0 b1 ha1 hai)
      ·rcases w6 with w6|w6
       ·omega
       ·rw[ha2,w6]at hab;exact hcr.dA a b a0 a1 b0 b1 hab
 ·rw[ht j j0,AAQ hji]at hnj;rw[ht k k0]at hkj
  have hjI:PU nI j<0:=by
   rcases oth j j0 j1 hji with⟨h1,h2⟩|⟨h1,_⟩
   ·omega
   ·exact h1
  by_cases hki:k=i
  ·rw[AAP hki]at hkj;have:=vZ j j0 j1;omega
  ·rw[AAQ hki]at hkj;rcases oth k k0 k1 hki with⟨h1,h2⟩|⟨h1,h2⟩
   ·rw[h2]at hkj;exact h.pre.U j k j0 j1 k0 k1 hjI hji hkj
   ·rcases h2 with h2|h2
    ·have:=vZ j j0 j1;omega
    ·rw[h2]at hkj;have:=hcr.dA k j k0 k1 j0 j1 hkj;subst this;have:=vZ k k0 k1;omega
 ·rw[ht k k0]at hk;have:=vZ i hi.1 hi.2;by_cases hki:k=i
  ·rw[AAP hki]at hk;omega
  ·rw[AAQ hki]at hk;rcases oth k k0 k1 hki with⟨h1,h2⟩|⟨h1,h2⟩
   ·rw[h2]at hk;exact h.pre.T k k0 k1 hk
   ·rcases h2 with h2|h2
    ·omega
    ·rw[h2]at hk;exact absurd (hcr.dA k i k0 k1 hi.1 hi.2 hk) hki
 ·have e:=h.XI k h0 h1 h2
  have hki:k≠i:=by
   rintro rfl
   have:=h.pre.neg;omega
  rw[ht k h0,AAQ hki];rcases oth k h0 h1 hki with⟨_,h4⟩|⟨h3,_⟩
  ·rw[h4,e]
  ·omega
 ·rw[ht k h0];by_cases hki:k=i
  ·rw[AAP hki];exact .inl J
  ·rw[AAQ hki];rcases h.mT k h0 h1 h2 with h3|h3
   ·rcases oth k h0 h1 hki with⟨h4,_⟩|⟨_,h5⟩
    ·omega
    ·exact h5
   ·rcases oth k h0 h1 hki with⟨_,h5⟩|⟨h4,h5⟩
    ·rw[h5];exact .inr h3
    ·exact h5
 ·have q1:=ZZ (l:=n2) (i:=i) (v := -1) hi3;rw[n2i,AAQ (by have:=hv.1;omega),AAP J]at q1;have:=hp.mU;have:=h.mU;omega
 ·rw[List.set_set];exact(lI (by rw[<-n2i];exact(TV hi3).2.1)).symm
 grind
theorem LI.stays(hcr:lZ c crew)(h:LI c crew next i p nI nS):fD c crew next i false (nI.set i.toNat (Pr crew i).2.1):=by
 have hlen:=h.pre.len;have hi:=h.pre.ir;have hi2:0<=i/\i<(nI.length:Int):=by rw[hlen];exact hi
 have hs:∀k,0<=k->PU (nI.set i.toNat (Pr crew i).2.1) k=if k=i then(Pr crew i).2.1 else PU nI k:=λk hk=>YS hi2 hk
 have wc:=hcr.iE i hi.1 hi.2;refine⟨⟨by simp[hlen],λk h0 h1=>?_,λk h0 h1 h2=>?_⟩,?_,λhb=>(by cases hb),λ_=>⟨No,λk h0 h1 h2=>?_⟩⟩
 ·rw[hs k h0];split
  ·exact .inr ⟨wc.eH,wc.pn⟩
  ·exact h.pre.vals k h0 h1
 ·have e:=h.XI k h0 h1 h2;rw[hs k h0,AAQ (by rintro rfl;have:=h.pre.neg;omega),e]
 ·have:=ZZ (l:=nI) (i:=i) (v:=(Pr crew i).2.1) hi2;rw[AAP h.pre.neg,AAQ (by have:=wc.eH;omega)]at this;have:=h.mU;omega
 ·rw[hs k h0];by_cases hki:k=i
  ·grind
  ·rw[AAQ hki];exact h.mT k h0 h1 h2
end
theorem dY{w h:Int}{c:By}{crew:ADN}(hcr:lZ c crew){fields:List By}(zg:mj w h c crew fields):∀(m:Nat)(next:By)(i p:Int),ph c crew next i p->Pa+YR next+1<=m->
  ∃b next',Qq m w h c crew next i p=some (b,w,h,c,crew,next')/\Ql m w h c crew fields next i (OH crew p)=some (b,w,h,c,crew,fields,next')/\fD c crew next i b next'
 |0,next,i,p,zo,hm=>absurd hm J
 |m+1,next,i,p,zo,hm=>by
  have hir:=zo.ir;have hneg0:=zo.neg;have xg:0<YR next:=List.countP_pos_iff.2 ⟨PU next i,(TV (by rw[zo.len];exact hir)).2.2,No⟩
  have hB:Pa<=m:=J
  have hB2:1048576<=m:=AA2 ADP hB;have hr:=Zb hir;obtain⟨F,C,hF,hC,hCv,hC5⟩:=zg.each i hir.1 hir.2;obtain⟨hC1,hC2⟩:=hC m hB
  have hif:Oi fields i=true:=by obtain⟨k,rfl⟩:∃k:Nat,i=k:=⟨i.toNat,J⟩;exact PX No
  have hn20:=hcr.n20
  obtain⟨z,y,hS,e1,e2⟩:=YO (f:=QF (Qq m) m i p C) (g:=Qg (Ql m) m i (OH crew p) (Pr crew i) C)
   (λx y=>∃(k:Nat) (nI nS:By),x=((k:Int),w,h,c,crew,nI)/\y=((k:Int),w,h,c,crew,fields,nS)/\k<=C.length/\LI c crew next i p nI nS)
   (λz y=>(∃(k:Int) (nI nS:By),z=.inl (k,w,h,c,crew,nI)/\y=.inl (k,w,h,c,crew,fields,nS)/\LI c crew next i p nI nS)\/∃n2:By,z=.inr (true,w,h,c,crew,n2)/\y=.inr (true,w,h,c,crew,fields,n2)/\fD c crew next i true n2)
   (λx=>C.length-x.1.toNat) (λx y hR=>by
    obtain⟨k,nI,nS,rfl,rfl,hk,hLI⟩:=hR;by_cases hk2:k=C.length
    ·subst hk2;exact .inl ⟨.inl ((C.length:Int),w,h,c,crew,nI),.inl ((C.length:Int),w,h,c,crew,fields,nS),by simp[QF],by simp[Qg],.inl ⟨_,nI,nS,rfl,rfl,hLI⟩⟩
    ·have vh:k<C.length:=J
     have hx:C[k]?=some C[k]:=AAI vh;have hv:=hCv C[k] (ABT vh);generalize C[k]=v at hx hv;have hd:decide ((k:Int)<(C.length:Int))=true:=by simpa using vh
     have hlenI:=hLI.pre.len;have hlenS:=hLI.Nu;have hiI:Oi nI i=true:=(TV J).1;have hiS:Oi nS i=true:=(TV J).1
     have t1:U3 m w h c crew nI v=some ((nI.any λx=>x==v),w,h,c,crew,nI):=by unfold U3;rw[XS,QO nI J v m hB];rfl
     have t2:Qk m nS v=some (nI.any λx=>x==v):=by rw[QO nS J v m hB,hLI.any hv.1.1]
     have t3:(bif decide (p>=0)then(Iy crew p).bind λ(x7:Rb)=>some (v==x7.2.1,w,h,c,crew,nI)else some (false,w,h,c,crew,nI))=some ((v==OH crew p),w,h,c,crew,nI):=by
      rcases zo.sg with rfl|⟨hp1,yB⟩
      ·have:(v==OH crew (-1))=false:=by unfold OH;rw[AAQ J,ABY];have:=hv.1;omega
       grind
      ·rw[ABW (show p>=0 from hp1.1),ABR,Zb hp1,ABQ];unfold OH;grind
     have hcur:∀ {a b:Nat},a=b+1->True:=λ_=>trivial;by_cases hskip:((nI.any λx=>x==v)||(v==OH crew p))=true
     ·refine .inr ⟨(((k+1:Nat):Int),w,h,c,crew,nI),(((k+1:Nat):Int),w,h,c,crew,fields,nS),?_,?_,⟨k+1,nI,nS,rfl,rfl,J,hLI⟩,J⟩
      ·simp only[QF,hd,PX vh,ABU,hx,ABQ,t1,t3,PR vh J,ABR];grind
      ·simp only[Qg,hd,PX vh,ABU,hx,ABQ,t2,PR vh J,ABR];grind
     ·have w8:(nI.any λx=>x==v)=false:=by
       cases hq:(nI.any λx=>x==v)with
       |false=>rfl
       |true=>grind
      have yE:(v==OH crew p)=false:=by
       cases hq:(v==OH crew p)with
       |false=>rfl
       |true=>grind
      have hnt:∀k,0<=k->k<(crew.length:Int)->PU nI k≠v:=λk h0 h1 e=>by have:=List.any_eq_false.1 w8 (PU nI k) (TV (by rw[hlenI];exact⟨h0,h1⟩)).2.2;grind
      have wN:=hLI.set v;have hn1:PU (nI.set i.toNat v) i=v:=by rw[YS J hir.1,AAP rfl]
      obtain⟨o,w1,w2,hwho⟩:=nN w h c crew hn20 fields (nI.set i.toNat v) (by simp[hlenI]) v i (by rw[hn1];exact hv.1.1) m hB;rcases hwho with⟨rfl,yO⟩|⟨ho,hov,hon⟩
      ·refine .inl ⟨.inr (true,w,h,c,crew,nI.set i.toNat v),.inr (true,w,h,c,crew,fields,nI.set i.toNat v),?_,?_,.inr ⟨_,rfl,rfl,hLI.jM hcr hv hnt yO hneg0⟩⟩
       ·simp only[QF,hd,PX vh,ABU,hx,ABQ,t1,t3,ABR,w8,yE,ABS,hiI,QH,w1];rfl
       ·simp only[Qg,hd,PX vh,ABU,hx,ABQ,t2,ABR,w8,yE,ABS,hiS,QH,wN,w2];rfl
      ·obtain⟨hpre2,hng,hoi⟩:=hLI.push hcr hv hnt ho hov hon;obtain⟨b,n2,r1,r2,hpost⟩:=dY hcr zg m (nI.set i.toNat v) o i hpre2 (by have:=hLI.mU;omega);have hfi:OH crew i=(Pr crew i).2.1:=by unfold OH;omega
       rw[hfi]at r2;have ho0:decide (o<0)=false:=by rw[AAn];omega
       have zn:decide (o>=0)=true:=by rw[AAe];omega
       cases b with
       |true=>
        refine .inl ⟨.inr (true,w,h,c,crew,n2),.inr (true,w,h,c,crew,fields,n2),?_,?_,.inr ⟨_,rfl,rfl,hLI.sX hv hng hpost hneg0⟩⟩
        ·simp only[QF,hd,PX vh,ABU,hx,ABQ,t1,t3,ABR,w8,yE,ABS,hiI,QH,w1,ho0,r1]
        ·simp only[Qg,hd,PX vh,ABU,hx,ABQ,t2,ABR,w8,yE,ABS,hiS,QH,wN,w2,zn,r2,ABZ]
       |false=>
        have hi2:Oi n2 i=true:=(TV (by rw[hpost.kept.len];exact hir)).1;refine .inr ⟨(((k+1:Nat):Int),w,h,c,crew,n2.set i.toNat (-1)),(((k+1:Nat):Int),w,h,c,crew,fields,n2),?_,?_,⟨k+1,_,n2,rfl,rfl,J,hLI.tB hcr hv hnt ho hov hoi hon hng hpost⟩,J⟩
        ·simp only[QF,hd,PX vh,ABU,hx,ABQ,t1,t3,ABR,w8,yE,ABS,hiI,QH,w1,ho0,r1,hi2,PR vh J]
        ·simp only[Qg,hd,PX vh,ABU,hx,ABQ,t2,ABR,w8,yE,ABS,hiS,QH,wN,w2,zn,r2,ABq,PR vh J]) m (0,w,h,c,crew,next) (0,w,h,c,crew,fields,next)
   ⟨0,next,next,rfl,rfl,J,⟨zo,λk _ _ _=>rfl,λk _ _ hk=>.inl hk,AAb _,.inl rfl⟩⟩ J
  rcases hS with⟨k,nI,nS,rfl,rfl,hLI⟩|⟨n2,rfl,rfl,hpost⟩
  ·have hiI:Oi nI i=true:=(TV (by rw[hLI.pre.len];exact hir)).1;have hiS:Oi nS i=true:=(TV (by rw[hLI.Nu];exact hir)).1;refine⟨false,nI.set i.toNat (Pr crew i).2.1,?_,?_,hLI.stays hcr⟩
   ·simp only[Qq,hr,ABQ,hC2,e1,hiI,ABR,QH]
   ·simp only[Ql,hr,ABQ,hif,ABR,hF,hC1,e2,hiS,QH,hLI.set]
  ·refine⟨true,n2,?_,?_,hpost⟩
   ·simp only[Qq,hr,ABQ,hC2,e1]
   ·simp only[Ql,hr,ABQ,hif,ABR,hF,hC1,e2]
theorem ji{crew:ADN}(hcr:lZ c crew){next next':By}{i:Int}{b:Bool}(hlen:next.length=crew.length)(hi:0<=i/\i<(crew.length:Int))(hg:Good c crew next)(hp:fD c crew next i b next'):Good c crew next'/\0<=PU next' i:=by
 cases b with
 |true=>exact hp.yes rfl
 |false=>
  obtain⟨n1,n2⟩:=hp.no rfl;have vZ:∀k,0<=k->k<(crew.length:Int)->0<=(Pr crew k).2.1:=λk h0 h1=>(hcr.iE k h0 h1).eH.1
  have oth:∀k,0<=k->k<(crew.length:Int)->(0<=PU next k/\PU next' k=PU next k)\/(PU next k<0/\(PU next' k<0\/PU next' k=(Pr crew k).2.1)):=by
   intro k h0 h1;by_cases hk:PU next k<0
   ·grind
   ·exact .inl ⟨J,hp.kept.XI k h0 h1 J⟩
  refine⟨⟨λa b a0 a1 b0 b1 hna hab=>?_,λj k j0 j1 k0 k1 hnj hkj=>?_⟩,No⟩
  ·rcases oth a a0 a1 with⟨ha1,ha2⟩|⟨ha1,ha2⟩
   ·rcases oth b b0 b1 with⟨wH,w6⟩|⟨wH,w6⟩
    ·rw[ha2,w6]at hab;exact hg.D a b a0 a1 b0 b1 ha1 hab
    ·rcases w6 with w6|w6
     ·omega
     ·rw[ha2,w6]at hab;exact absurd hab (hg.U b a b0 b1 a0 a1 wH)
   ·rcases ha2 with ha2|ha2
    ·omega
    ·rcases oth b b0 b1 with⟨wH,w6⟩|⟨wH,w6⟩
     ·rw[ha2,w6]at hab;exact absurd hab.symm (hg.U a b a0 a1 b0 b1 ha1)
     ·rcases w6 with w6|w6
      ·omega
      ·rw[ha2,w6]at hab;exact hcr.dA a b a0 a1 b0 b1 hab
  ·have hjn:PU next j<0:=by
    rcases oth j j0 j1 with⟨h1,h2⟩|⟨h1,_⟩
    ·omega
    ·exact h1
   rcases oth k k0 k1 with⟨h1,h2⟩|⟨h1,h2⟩
   ·rw[h2]at hkj;exact hg.U j k j0 j1 k0 k1 hjn hkj
   ·rcases h2 with h2|h2
    ·grind
    ·rw[h2]at hkj;have:=hcr.dA k j k0 k1 j0 j1 hkj;grind
end Go.Ev.N
