/- FnTook,as a plain law kg native forms: what the program's function answers is what the reference's answers. Conditions: none but the lengths' and numbers' bounds. -/
import Derived.Test.YtccgnkaemdnniaaGreatFnTookPureA
set_option linter.all false
namespace Go.Ev.N
open Go Go.Ev
def SH(a:List PH)(PU k:Int):O8:=match a[(Rr a PU).toNat]? with
 |some p=>PW p.2.2 k
 |none=>(k,0,0)
def P2(a:List PH)(PU k m:Int):Int:=bif Ps a&&(P1 k 1 50&&P1 m 1 1000)then(if Rr a PU<0 then 2 else 0)else 1
def bG(a:List PH)(PU k d:Int):List PH:=XV a PU fun l=>YR l k fun y=>(y.1,y.2.1,y.2.2+d)
def Yk(a:List PH)(PU k m:Int):List PH×Int:=if P2 a PU k m≠0 then(a,P2 a PU k m)else if(SH a PU k).2.1-(SH a PU k).2.2<m then(a,3)else(bG a PU k m,0)
def ao(a:List PH)(PU k m:Int):List PH×Int:=if P2 a PU k m≠0 then(a,P2 a PU k m)else if(SH a PU k).2.2<m then(a,3)else(bG a PU k (-m),0)
theorem Qa{a:List PH}{PU k m:Int}(h:P2 a PU k m=0):PN a∧(1≤k∧k≤50)∧(1≤m∧m≤1000)∧∃i,∃hi:i<a.length,Rr a PU=(i:Int)∧a[i].1=PU∧SH a PU k=PW a[i].2.2 k:=by
 unfold P2 at h;cases hs:(Ps a&&(P1 k 1 50&&P1 m 1 1000))with
 |false=>grind
 |true=>
  rw[hs,ABU]at h;unfold P1 at hs;simp only[AAG,AAb]at hs;have hS:=Pp.1 hs.1;refine⟨hS,hs.2.1,hs.2.2,?_⟩;have h12:=hS.1;rcases(RY a (by omega) PU PJ (AAd _)).2 with⟨e,_⟩|⟨i,hi,e,e2⟩
  ·omega
  ·refine⟨i,hi,e,e2,?_⟩;unfold SH;grind
theorem gW{a:List PH}(h:PN a)(PU k d:Int)(hd:∀p∈a,p.1=PU→∀y∈p.2.2,y.1=k→0≤y.2.2+d∧y.2.2+d≤y.2.1):PN (bG a PU k d):=cN h PU _ fun p hp e=>kL (h.2.2 p hp).2.2 k d (hd p hp e)
theorem XR{a:List PH}(h:PN a){i:Nat}(hi:i<a.length){p:PH}(hp:p∈a)(e:p.1=a[i].1):p=a[i]:=by
 obtain⟨j,hj,rfl⟩:=ABY.1 hp;rcases ABg i j with hl|hl|hl
 ·have:=(ABQ.1 h.2.1 i j hi hj hl).1;omega
 ·subst hl;rfl
 ·have:=(ABQ.1 h.2.1 j i hj hi hl).1;omega
theorem eQ{a:List PH}(h:PN a)(PU k m:Int):PN (Yk a PU k m).1:=by
 unfold Yk;split
 ·exact h
 ·rename_i hc;split
  ·exact h
  ·rename_i tX;obtain⟨_,hk,hm,i,hi,e1,e2,e3⟩:=Qa (by omega:P2 a PU k m=0);refine gW h PU k m fun p hp ep y hy ey=>?_;have:p=a[i]:=XR h hi hp (ep.trans e2.symm);subst this;have v7:=(h.2.2 _ (ABW hi)).2.2;have hyb:=v7.2.1 y hy;rw[e3,←ey,Wj v7 hy]at tX;omega
theorem dr{a:List PH}(h:PN a)(PU k m:Int):PN (ao a PU k m).1:=by
 unfold ao;split
 ·exact h
 ·rename_i hc;split
  ·exact h
  ·rename_i tX;obtain⟨_,hk,hm,i,hi,e1,e2,e3⟩:=Qa (by omega:P2 a PU k m=0);refine gW h PU k (-m) fun p hp ep y hy ey=>?_;have:p=a[i]:=XR h hi hp (ep.trans e2.symm);subst this;have v7:=(h.2.2 _ (ABW hi)).2.2;have hyb:=v7.2.1 y hy;rw[e3,←ey,Wj v7 hy]at tX;omega
theorem Xj(a:List PH)(hs:PY a)(PU k m:Int)(n:Nat)(hn:PJ≤n):Sw n a PU k m=some (if P2 a PU k m≠0 then(0,0,0,0,P2 a PU k m)else(Rr a PU,(SH a PU k).1,(SH a PU k).2.1,(SH a PU k).2.2,0)):=by
 have hl:a.length≤1048576:=hs.1;unfold Sw;rw[Pv a hs n hn];simp only[ABT,QW];by_cases hc:P2 a PU k m=0
 ·rw[AAM (by rw[hc];simp)];obtain⟨h,hk,hm,i,hi,e1,e2,e3⟩:=Qa hc;rw[Pp.2 h,show P1 k 1 50=true by unfold P1;grind,show P1 m 1 1000=true by unfold P1;rw[ABZ hm.1,ABZ hm.2];rfl];have hd:decide (Rr a PU<0)=false:=by rw[e1,AAf];clear hn;omega
  simp only[ABc,ABV,ABT,(RY a hl PU n hn).1,hd];rw[e3,e1,PA hi,ABT,aT a[i] (by have:=(h.2.2 _ (ABW hi)).2.2.2.2;omega) k n hn];rfl
 ·rw[AAK hc];unfold P2 at hc ⊢;cases h1:Ps a with
  |false=>rfl
  |true=>cases h2:P1 k 1 50 with
   |false=>rfl
   |true=>cases h3:P1 m 1 1000 with
    |false=>rfl
    |true=>
     rw[h1,h2,h3]at hc;simp only[AB8,ABU]at hc ⊢
     have tX:Rr a PU<0:=by refine AAn fun q=>hc ?_;rw[AAM q]
     simp only[ABc,ABV,ABT,(RY a hl PU n hn).1,ABZ tX,ABU,AAK tX]
theorem dP{a:List PH}(h:PN a){i:Nat}(hi:i<a.length){k:Int}(d:Int)(hz:∃z∈a[i].2.2,z.1=k)(n:Nat)(hn:PJ≤n):
  R0 n a (i:Int) k (PW a[i].2.2 k).2.1 ((PW a[i].2.2 k).2.2+d)=some (bG a a[i].1 k d):=by
 have v7:=(h.2.2 _ (ABW hi)).2.2;obtain⟨z,hz1,hz2⟩:=hz
 have wV:((PW a[i].2.2 k).2.1==0)=false:=by rw[←hz2,Wj v7 hz1,ABa];have:=v7.2.1 z hz1;clear hn;omega
 unfold R0;rw[PR a h.sm n hn,ABT,PE hi,ABU];have hg:a[(i:Int).toNat]?=some a[i]:=by simp[hi]
 have hw:=iW a[i].2.2 v7 (k,(PW a[i].2.2 k).2.1,(PW a[i].2.2 k).2.2+d) ⟨z,hz1,hz2⟩ wV n hn;dsimp only at hw;rw[hg,ABT,ABT,hw,ABT,ABU,j6 v7 ⟨z,hz1,hz2⟩,ABX];unfold bG;rw[←Y3 h hi];congr 1;apply ABv;grind
theorem ct(a:List PH)(hs:PY a)(PU k m:Int)(n:Nat)(hn:PJ≤n):Ye n a PU k m=some (Yk a PU k m):=by
 unfold Ye Yk;rw[Xj a hs PU k m n hn,ABT];by_cases hc:P2 a PU k m=0
 ·rw[AAM (by rw[hc];simp),AAM (by rw[hc];simp)];obtain⟨h,hk,hm,i,hi,e1,e2,e3⟩:=Qa hc;have v7:=(h.2.2 _ (ABW hi)).2.2;obtain⟨b1,b2,b3,b4,b5⟩:=TF v7 k;dsimp only;rw[show((0:Int) != 0)=false from rfl,ABV,e3,PF (by omega) (by omega)];by_cases tX:(PW a[i].2.2 k).2.1-(PW a[i].2.2 k).2.2<m
  ·rw[ABZ tX,AAK tX,ABU,PR a hs n hn];rfl
  ·rw[ABd tX,AAM tX,ABV,PF (by omega) (by omega),e1,b5]
   have hz:∃z∈a[i].2.2,z.1=k:=by refine AAn fun q=>?_;rw[Sy fun x hx e=>q ⟨x,hx,e⟩]at tX;dsimp only at tX;clear hn;omega
   rw[dP h hi m hz n hn,e2];rfl
 ·rw[AAK hc,AAK hc];dsimp only;rw[show(P2 a PU k m != 0)=true by grind,ABU,PR a hs n hn];rfl
theorem Z9(a:List PH)(hs:PY a)(PU k m:Int)(n:Nat)(hn:PJ≤n):Vy n a PU k m=some (ao a PU k m):=by
 unfold Vy ao;rw[Xj a hs PU k m n hn,ABT];by_cases hc:P2 a PU k m=0
 ·rw[AAM (by rw[hc];simp),AAM (by rw[hc];simp)];obtain⟨h,hk,hm,i,hi,e1,e2,e3⟩:=Qa hc;have v7:=(h.2.2 _ (ABW hi)).2.2;obtain⟨b1,b2,b3,b4,b5⟩:=TF v7 k;dsimp only;rw[show((0:Int) != 0)=false from rfl,ABV,e3];by_cases tX:(PW a[i].2.2 k).2.2<m
  ·rw[ABZ tX,AAK tX,ABU,PR a hs n hn];rfl
  ·rw[ABd tX,AAM tX,ABV,PF (by omega) (by omega),e1,b5]
   have hz:∃z∈a[i].2.2,z.1=k:=by refine AAn fun q=>?_;rw[Sy fun x hx e=>q ⟨x,hx,e⟩]at tX;dsimp only at tX;clear hn;omega
   rw[show(PW a[i].2.2 k).2.2-m=(PW a[i].2.2 k).2.2 + -m by omega,dP h hi (-m) hz n hn,e2];rfl
 ·rw[AAK hc,AAK hc];dsimp only;rw[show(P2 a PU k m != 0)=true by grind,ABU,PR a hs n hn];rfl
theorem aY{l:List O8}(hs:Vb l)(p0 p1 k:Int)(n:Nat)(hn:PJ≤n):
  ∃(j:Nat) (b:Bool),US n p0 p1 l k=some ((j:Int),b)∧(b=true→∃h:j<l.length,l[j].1=k∧PW l k=l[j])∧(b=false→(∀x∈l,x.1≠k)∧PW l k=(k,0,0)):=by
 have h8:=hs.2.2
 obtain⟨j,h1,h2,h3,h4⟩:=gV (Th l k) l.length (fun i=>decide ((l.getD i (0,0,0)).1<k)) (fun i hi=>by
  simp only[Th,PA hi,ABT,O9 hi (show l.length≤9223372036854775807 by clear hn;omega)];grind) (by simp[Th]) n (by unfold PJ at hn;omega)
 have hlow:∀i (hi:i<l.length),i<j→l[i].1<k:=by intro i hi xM;have:=h3 i xM;simpa[hi]using this
 unfold US;rw[h2];by_cases hj:j<l.length
 ·have uh:=h4 hj;have uh:k≤l[j].1:=by simpa[hj]using uh
  refine⟨j,l[j].1==k,?_,fun hb=>?_,fun hb=>?_⟩
  ·simp[hj,PA hj]
  ·have e:l[j].1=k:=by simpa using hb
   exact⟨hj,e,by rw[←e];exact Wj hs (ABW hj)⟩
  ·have xN:∀x∈l,x.1≠k:=fun x hx=>by
    obtain⟨i,hi,rfl⟩:=List.getElem_of_mem hx;have tj:l[j].1≠k:=by simpa using hb
    rcases ABg i j with q|q|q
    ·grind
    ·grind
    ·have:=ABQ.1 hs.1 j i hj hi q;omega
   exact⟨xN,Sy xN⟩
 ·have xN:∀x∈l,x.1≠k:=fun x hx=>by obtain⟨i,hi,rfl⟩:=List.getElem_of_mem hx;have:=hlow i hi (by clear hn;omega);clear hn;omega
  refine⟨j,false,?_,fun hb=>(by cases hb),fun _=>⟨xN,Sy xN⟩⟩;grind
theorem X8(a:List PH)(hs:PY a)(PU k m:Int)(n:Nat)(hn:PJ≤n):Xf n a PU k m=some (if P2 a PU k m≠0 then(-1,P2 a PU k m)else(Rr a PU,0)):=by
 have hl:a.length≤1048576:=hs.1;unfold Xf;rw[Qh a hs n hn,bq];simp only[ABT,Vk,QW];by_cases hc:P2 a PU k m=0
 ·rw[AAM (by rw[hc];simp)];obtain⟨h,hk,hm,i,hi,e1,e2,e3⟩:=Qa hc;rw[Pp.2 h,show P1 k 1 50=true by unfold P1;grind,show P1 m 1 1000=true by unfold P1;rw[ABZ hm.1,ABZ hm.2];rfl];have hd:decide (Rr a PU≥0)=true:=by rw[e1,AAb];clear hn;omega
  simp only[ABc,ABV,ABT,(RY a hl PU n hn).1,hd,ABU]
 ·rw[AAK hc];unfold P2 at hc ⊢;cases h1:Ps a with
  |false=>rfl
  |true=>cases h2:P1 k 1 50 with
   |false=>rfl
   |true=>cases h3:P1 m 1 1000 with
    |false=>rfl
    |true=>
     rw[h1,h2,h3]at hc;simp only[AB8,ABU]at hc ⊢
     have tX:Rr a PU<0:=by refine AAn fun q=>hc ?_;rw[AAM q]
     have hd:decide (Rr a PU≥0)=false:=by rw[AAf];clear hn;omega
     simp only[ABc,ABV,ABT,(RY a hl PU n hn).1,hd,AAK tX]
theorem Ym(a:List PH)(hs:PY a)(PU k m d:Int)(hd : -1000≤d∧d≤1000)(n:Nat)(hn:PJ≤n):Us n a PU k m d=some (if P2 a PU k m≠0 then(a,P2 a PU k m)else
  if(∃z,z∈(a.getD (Rr a PU).toNat (0,0,[])).2.2∧z.1=k)∧0≤(SH a PU k).2.2+d∧(SH a PU k).2.2+d≤(SH a PU k).2.1 then(bG a PU k d,0)else(a,3)):=by
 unfold Us;rw[Pd a hs n hn,X8 a hs PU k m n hn];simp only[ABT];by_cases hc:P2 a PU k m=0
 ·rw[AAM (by rw[hc];simp),AAM (by rw[hc];simp)];obtain⟨h,hk,hm,i,hi,e1,e2,e3⟩:=Qa hc;have v7:=(h.2.2 _ (ABW hi)).2.2;obtain⟨b1,b2,b3,b4,b5⟩:=TF v7 k;dsimp only;have hgD:a.getD (Rr a PU).toNat (0,0,[])=a[i]:=by rw[e1,ABX,List.getD,AAF hi];rfl
  rw[hgD,e3,e1];have tS:Ob a (i:Int)=true:=PE hi;have hg:a[(i:Int).toNat]?=some a[i]:=by simp[hi]
  obtain⟨j,b,s1,s2,s3⟩:=aY v7 a[i].1 a[i].2.1 k n hn;rw[show((0:Int) != 0)=false from rfl];simp only[ABV,tS,ABU,hg,ABT,s1];cases b with
  |false=>
   obtain⟨q1,q2⟩:=s3 rfl;rw[AAM (fun hh=>by obtain⟨⟨z,z1,z2⟩,_⟩:=hh;exact q1 z z1 z2)];rfl
  |true=>
   obtain⟨hj,q1,q2⟩:=s2 rfl;have hjn:Ob a[i].2.2 (j:Int)=true:=PE hj;have hjg:a[i].2.2[(j:Int).toNat]?=some a[i].2.2[j]:=by simp[hj]
   rw[q2]at b1 b2 b3 b4 ⊢;have hw:PD (a[i].2.2[j].2.2+d)=a[i].2.2[j].2.2+d:=PF (by clear hn;omega) (by clear hn;omega);simp only[ABc,ABV,hjn,ABU,hjg,ABT,hw,Vk,QW];have hiff:P1 (a[i].2.2[j].2.2+d) 0 a[i].2.2[j].2.1=true↔0≤a[i].2.2[j].2.2+d∧a[i].2.2[j].2.2+d≤a[i].2.2[j].2.1:=by unfold P1;simp
   cases hb:P1 (a[i].2.2[j].2.2+d) 0 a[i].2.2[j].2.1 with
   |false=>
    rw[AAM (fun hh=>by rw[hiff.2 hh.2]at hb;cases hb)];rfl
   |true=>
    rw[AAK ⟨⟨_,ABW hj,q1⟩,hiff.1 hb⟩];simp only[ABc,ABV];congr 2;unfold bG;rw[←e2,←Y3 h hi];apply ABv;intro u;rw[ABf,ABf,ABX]
    have key:a[i].2.2.modify (j:Int).toNat (fun y=>(y.1,y.2.1,a[i].2.2[j].2.2+d))=YR a[i].2.2 k fun y=>(y.1,y.2.1,y.2.2+d):=by
     rw[←q1,←ku v7 hj,ABX];apply ABv;intro v;rw[ABf,ABf];by_cases e':j=v
     ·subst e';simp[hj]
     ·simp[e']
    by_cases e:i=u
    ·subst e;rw[AAF hi];simp only[if_true,Option.map_eq_map,AA9,key]
    ·simp[e]
 grind
theorem cT(a:List PH)(hs:PY a)(PU k m:Int)(n:Nat)(hn:PJ≤n):YW n a PU k m=some (Yk a PU k m):=by
 unfold YW Yk;by_cases hc:P2 a PU k m=0
 ·obtain⟨h,hk,hm,i,hi,e1,e2,e3⟩:=Qa hc;rw[Ym a hs PU k m m (by omega) n hn];simp only[hc,ne_eq,not_true_eq_false,if_false,ABT];have v7:=(h.2.2 _ (ABW hi)).2.2;obtain⟨b1,b2,b3,b4,b5⟩:=TF v7 k;have hgD:a.getD (Rr a PU).toNat (0,0,[])=a[i]:=by rw[e1,ABX,List.getD,AAF hi];rfl
  rw[hgD,e3];by_cases tX:(PW a[i].2.2 k).2.1-(PW a[i].2.2 k).2.2<m
  ·grind
  ·rw[AAM tX,AAK];refine⟨?_,by clear hn;omega,by clear hn;omega⟩;refine AAn fun q=>?_;rw[Sy fun x hx e=>q ⟨x,hx,e⟩]at tX;grind
 ·have hk:Us n a PU k m m=some (a,P2 a PU k m):=by unfold Us;rw[Pd a hs n hn,X8 a hs PU k m n hn,AAK hc];simp only[ABT,show(P2 a PU k m != 0)=true by simpa using hc,ABU]
  grind
theorem Zr(a:List PH)(hs:PY a)(PU k m:Int)(n:Nat)(hn:PJ≤n):Vn n a PU k m=some (ao a PU k m):=by
 unfold Vn ao;simp only[Vk,QW,ABT];cases hm1:P1 m 1 1000 with
 |false=>
  have hc:P2 a PU k m=1:=by unfold P2;rw[hm1];simp
  rw[AAK (by omega),hc];simp only[ABm,ABU,Pd a hs n hn,ABT]
 |true=>
  have hm:1≤m∧m≤1000:=by unfold P1 at hm1;simpa using hm1
  have hneg:IntKind.wrap .i64 (Nw m) = -m:=by show PD (0-m) = -m;rw[PF (by clear hn;omega) (by clear hn;omega)];clear hn;omega
  simp only[ABc,ABV,hneg];rw[Ym a hs PU k m (-m) (by clear hn;omega) n hn,ABT];by_cases hc:P2 a PU k m=0
  ·obtain⟨h,hk,hm,i,hi,e1,e2,e3⟩:=Qa hc;simp only[hc,ne_eq,not_true_eq_false,if_false];have v7:=(h.2.2 _ (ABW hi)).2.2;obtain⟨b1,b2,b3,b4,b5⟩:=TF v7 k;have hgD:a.getD (Rr a PU).toNat (0,0,[])=a[i]:=by rw[e1,ABX,List.getD,AAF hi];rfl
   rw[hgD,e3];by_cases tX:(PW a[i].2.2 k).2.2<m
   ·rw[AAK tX,AAM (fun hh=>by have:=hh.2.1;clear hn;omega)]
   ·rw[AAM tX,AAK];refine⟨?_,by clear hn;omega,by clear hn;omega⟩;refine AAn fun q=>?_;rw[Sy fun x hx e=>q ⟨x,hx,e⟩]at tX;dsimp only at tX;clear hn;omega
  grind
def WL(f:List PH→O8→List PH×Int):List O8→List PH→Option (List PH)
 | [],s=>some s
 |p::ps,s=>if(f s p).2≠0 then none else WL f ps (f s p).1
def Qu(f:List PH→O8→List PH×Int)(a:List PH)(ps:List O8):List PH×Bool:=match WL f ps a with
 |some s=>(s,true)
 |none=>(a,false)
def VS(s:List PH)(p:O8):List PH×Int:=Yk s p.1 p.2.1 p.2.2
def VV(s:List PH)(p:O8):List PH×Int:=ao s p.1 p.2.1 p.2.2
theorem eR{a:List PH}(h:PY a)(PU k m:Int):PY (Yk a PU k m).1:=by
 by_cases hc:P2 a PU k m=0
 ·exact(eQ (Qa hc).1 PU k m).sm
 ·unfold Yk;grind
theorem gw{a:List PH}(h:PY a)(PU k m:Int):PY (ao a PU k m).1:=by
 by_cases hc:P2 a PU k m=0
 ·exact(dr (Qa hc).1 PU k m).sm
 ·unfold ao;grind
theorem aR{f:List PH→O8→List PH×Int}{P:List PH→Prop}(hf:∀s p,P s→P (f s p).1):∀(ps:List O8)(s t:List PH),P s→WL f ps s=some t→P t
 | [],s,t,h,e=>by injection e with e;grind
 |p::ps,s,t,h,e=>by
  unfold WL at e;split at e
  ·cases e
  ·exact aR hf ps _ t (hf s p h) e
theorem gY{f:List PH→O8→List PH×Int}{P:List PH→Prop}(hf:∀s p,P s→P (f s p).1){a:List PH}(h:P a)(ps:List O8):P (Qu f a ps).1:=by
 unfold Qu;cases e:WL f ps a with
 |none=>exact h
 |some t=>exact aR hf ps a t h e
theorem XK(L:Int×List PH×List PH→Option ((Int×List PH×List PH)⊕((Int×List PH×List PH)⊕(List PH×Bool))))(f:List PH→O8→List PH×Int)(a:List PH)(ps:List O8)(hf:∀s p,PY s→PY (f s p).1)(ha:PY a)
  (hL:∀(i:Nat)(s:List PH)(hi:i<ps.length),PY s→L ((i:Int),[],s)=some (bif(f s ps[i]).2 != 0 then .inr (.inr (a,false))else .inl (((i+1:Nat):Int),[],(f s ps[i]).1)))
  (he:∀s,L ((ps.length:Int),[],s)=some (.inr (.inl ((ps.length:Int),[],s)))) (n:Nat) (hn:ps.length<n):
  iter n L (0,[],a)=some (match WL f ps a with|some t=>.inl ((ps.length:Int),[],t)|none=>.inr (a,false)):=by
 refine Ph (σ:=List PH) L (fun i s=>((i:Int),[],s)) ps (fun l s=>match WL f l s with|some t=>.inl ((ps.length:Int),[],t)|none=>.inr (a,false)) (fun i s=>PY s)
  (fun s _=>by rw[he];rfl) (fun i p l s h1 h2 h3 h4 h5=>?_) n hn a ha
 have hp:ps[i]=p:=by rw[AAF h1]at h2;exact Option.some.inj h2
 rw[hL i s h1 h5,hp];cases hc:((f s p).2 != 0)with
 |true=>
  right;unfold WL;grind
 |false=>
  left;refine⟨(f s p).1,rfl,hf s p h5,?_⟩
  have e:WL f (p::l) s=WL f l (f s p).1:=by rw[WL,AAM (by simpa using hc)]
  grind
theorem Z8(a:List PH)(ha:PY a)(ps:List O8)(hp:ps.length≤1048576)(n:Nat)(hn:PJ≤n):Vv n a ps=some (Qu VS a ps):=by
 have h1:=XK (P8 n a ps 1) VS a ps (fun s p hs=>eR hs _ _ _) ha (fun i s hi hs=>by
  have hd:decide ((i:Int)<(ps.length:Int))=true:=by simpa using hi
  simp only[P8,hd,ABU,PA hi,ABT,ct s hs _ _ _ n hn,ABx,PR a ha n hn,O9 hi (show ps.length≤9223372036854775807 by clear hn;omega)];show(bif(VS s ps[i]).2 != 0 then _ else _)=_;cases((VS s ps[i]).2 != 0)<;>rfl) (fun s=>by simp[P8]) n (by unfold PJ at hn;omega)
 unfold Vv Rs;rw[PR a ha n hn,ABT,h1,ABT];unfold Qu;grind
theorem Yi(a:List PH)(ha:PY a)(ps:List O8)(hp:ps.length≤1048576)(n:Nat)(hn:PJ≤n):Tm n a ps=some (Qu VV a ps):=by
 have h1:=XK (P8 n a ps 2) VV a ps (fun s p hs=>gw hs _ _ _) ha (fun i s hi hs=>by
  have hd:decide ((i:Int)<(ps.length:Int))=true:=by simpa using hi
  simp only[P8,hd,ABU,ABV,PA hi,ABT,Z9 s hs _ _ _ n hn,ABx,show((2:Int)==1)=false from rfl,PR a ha n hn,O9 hi (show ps.length≤9223372036854775807 by clear hn;omega)];show(bif(VV s ps[i]).2 != 0 then _ else _)=_;cases((VV s ps[i]).2 != 0)<;>rfl) (fun s=>by simp[P8]) n (by unfold PJ at hn;omega)
 unfold Tm Rs;rw[PR a ha n hn,ABT,h1,ABT];unfold Qu;grind
theorem XN(a:List PH)(ha:PY a)(ps:List O8)(hp:ps.length≤1048576)(n:Nat)(hn:PJ≤n):UJ n a ps=some (Qu VS a ps):=by
 have h1:=XK (SQ n a ps) VS a ps (fun s p hs=>eR hs _ _ _) ha (fun i s hi hs=>by
  have hd:decide ((i:Int)<(ps.length:Int))=true:=by simpa using hi
  simp only[SQ,hd,ABU,PA hi,ABT,cT s hs _ _ _ n hn,Pd a ha n hn,O9 hi (show ps.length≤9223372036854775807 by clear hn;omega)];show(bif(VS s ps[i]).2 != 0 then _ else _)=_;cases((VS s ps[i]).2 != 0)<;>rfl) (fun s=>by simp[SQ]) n (by unfold PJ at hn;omega)
 unfold UJ WS;rw[Pd a ha n hn,ABT,h1,ABT];unfold Qu;grind
theorem Yf(a:List PH)(ha:PY a)(ps:List O8)(hp:ps.length≤1048576)(n:Nat)(hn:PJ≤n):Tb n a ps=some (Qu VV a ps):=by
 have h1:=XK (RE n a ps) VV a ps (fun s p hs=>gw hs _ _ _) ha (fun i s hi hs=>by
  have hd:decide ((i:Int)<(ps.length:Int))=true:=by simpa using hi
  simp only[RE,hd,ABU,PA hi,ABT,Zr s hs _ _ _ n hn,Pd a ha n hn,O9 hi (show ps.length≤9223372036854775807 by clear hn;omega)];show(bif(VV s ps[i]).2 != 0 then _ else _)=_;cases((VV s ps[i]).2 != 0)<;>rfl) (fun s=>by simp[RE]) n (by unfold PJ at hn;omega)
 unfold Tb UP;rw[Pd a ha n hn,ABT,h1,ABT];unfold Qu;grind
def XQ(a:List PH)(PU:Int):Option PH:=a.find? fun p=>p.1==PU
def Vj(l:List Pa):Prop:=l.Pairwise (fun a b=>a.1<b.1)∧(∀x∈l,1≤x.1∧x.1≤50∧1≤x.2∧x.2≤1000)∧l.length≤6
theorem Vj.ok{l:List Pa}(h:Vj l)(n:Nat)(hn:PJ≤n):Ql n l=some true:=by
 obtain⟨h1,h2,h3⟩:=h
 have:=Qq (QA l) (fun i=>(i:Int)) l.length (fun _=>true) (fun i hi=>by
  have hp:(bif decide ((i:Int)>0)then(M8 l (PD ((i:Int)-1))).bind (fun y=>some (decide (y.1≥l[i].1)))else some false)=some (!Qe (·.1) l i l[i]):=XE (·.1) l l[i] i hi (by omega) some;obtain⟨a1,a2,a3,a4⟩:=h2 _ (ABW hi);rw[YK h1 (fun x y h=>h) i hi]at hp;simp only[QA,PA hi,ABT,QW,O9 hi (by omega),hp];rw[show decide ((i:Int)<(l.length:Int))=true by simpa using hi,show P1 l[i].1 1 50=true by simp[P1];omega,show P1 l[i].2 1 1000=true by simp[P1];omega];rfl) (by simp[QA]) n (by unfold PJ at hn;omega)
 unfold Ql;grind
def SZ(k:Int):List O8→Int
 | []=>0
 |p::r=>(bif p.2.1==k then p.2.2 else 0)+SZ k r
theorem bF(k:Int):∀(x y:List O8),SZ k (x++y)=SZ k x+SZ k y
 | [],y=>by simp[SZ]
 |p::x,y=>by simp only[ABH,SZ,bF k x y];omega
theorem XA(k:Int):∀(x:List O8),(∀p∈x,1≤p.2.2)→0≤SZ k x
 | [],_=>by simp[SZ]
 |p::x,h=>by have h1:=XA k x fun q hq=>h q (AAJ _ hq);have h2:=h p AAe;simp only[SZ];grind
theorem gU(k:Int):∀(x:List O8),(∀p∈x,p.2.1≠k)→SZ k x=0
 | [],_=>rfl
 |p::x,h=>by
  have h1:=gU k x fun q hq=>h q (AAJ _ hq);have h2:(p.2.1==k)=false:=by simpa using h p AAe
  simp only[SZ,h1,h2,ABV];rfl
def WC:List O8→Int
 | []=>0
 |p::r=>p.2.2+WC r
def Px(m f:Int):Int:=bif decide (m<f)then m else f
def Pc(pid:Int)(fr:Int→Int):List Pa→List O8
 | []=>[]
 |y::r=>bif decide (Px y.2 (fr y.1)>0)then(pid,y.1,Px y.2 (fr y.1))::Pc pid fr r else Pc pid fr r
theorem Ys(pid:Int)(fr:Int→Int):∀l,(Pc pid fr l).length≤l.length
 | []=>by simp[Pc]
 |y::r=>by have:=Ys pid fr r;simp only[Pc];grind
theorem Uy(m f:Int):Px m f≤m∧Px m f≤f:=by unfold Px;grind
theorem WK(pid:Int)(fr:Int→Int):∀l,∀p∈Pc pid fr l,p.1=pid∧1≤p.2.2∧∃y∈l,y.1=p.2.1∧p.2.2≤y.2
 | [],p,h=>by cases h
 |y::r,p,h=>by
  simp only[Pc]at h;have up:=fun h=>let ⟨a,b,z,hz,h1,h2⟩:=WK pid fr r p h;(⟨a,b,z,AAJ _ hz,h1,h2⟩:p.1=pid∧1≤p.2.2∧∃w∈y::r,w.1=p.2.1∧p.2.2≤w.2)
  by_cases hg:Px y.2 (fr y.1)>0
  ·rw[show decide (Px y.2 (fr y.1)>0)=true by simpa using hg,ABU]at h;rcases AAZ.1 h with h|h
   ·subst h;exact⟨rfl,by show 1≤Px y.2 (fr y.1);omega,y,AAe,rfl,(Uy _ _).1⟩
   ·exact up h
  grind
theorem Yt(pid:Int)(fr:Int→Int):∀(l:List Pa),l.Pairwise (fun a b=>a.1<b.1)→(∀y∈l,0≤y.2)→∀y∈l,SZ y.1 (Pc pid fr l)≤y.2
 | [],_,_,y,hy=>by cases hy
 |z::r,hp,h0,y,hy=>by
  obtain⟨h1,h2⟩:=ABl.1 hp;have hz0:=h0 z AAe;have hle:=(Uy z.2 (fr z.1)).1;simp only[Pc];rcases AAZ.1 hy with e|hy
  ·subst e
   have hn:SZ y.1 (Pc pid fr r)=0:=gU _ _ fun p yo=>by obtain⟨_,_,w,hw,e,_⟩:=WK pid fr r p yo;grind
   cases decide (Px y.2 (fr y.1)>0)with
   |true=>simp only[ABU,SZ,ABx,hn];omega
   |false=>grind
  ·have ih:=Yt pid fr r h2 (fun w hw=>h0 w (AAJ _ hw)) y hy;have tj:(z.1==y.1)=false:=by have:=h1 y hy;rw[←ABr];simp;omega
   cases decide (Px z.2 (fr z.1)>0)with
   |true=>simp only[ABU,SZ,tj,ABV];omega
   |false=>grind
def PO(p:PH)(k:Int):Int:=(PW p.2.2 k).2.1-(PW p.2.2 k).2.2
theorem YS(p:PH)(h:Vb p.2.2)(k:Int):0≤PO p k∧PO p k≤1000:=by
 unfold PO PW;cases hf:p.2.2.find? (fun x=>x.1==k)with
 |none=>simp
 |some x=>
  have:=h.2.1 x (ABk hf);grind
def aM(l:List Pa):Prop:=l.Pairwise (fun a b=>a.1<b.1)∧(∀y∈l,0≤y.2∧y.2≤1000)∧l.length≤6
theorem bf(p:PH)(h:Vb p.2.2)(l:List Pa)(hl:aM l)(n:Nat)(hn:PJ≤n):Ug n p.1 p.2.1 p.2.2 l=some (Pc p.1 (PO p) l,WC (Pc p.1 (PO p) l)):=by
 have h6:=hl.2.2
 have hc:=Ph (σ:=List O8×Int) (Tt n p.1 p.2.1 p.2.2 l) (fun i s=>(s.1,s.2,(i:Int))) l (fun r s=>(s.1++Pc p.1 (PO p) r,s.2+WC (Pc p.1 (PO p) r),(l.length:Int)))
  (fun i s=>s.1.length≤i∧0≤s.2∧s.2≤1000*(i:Int)∧i≤6)
  (fun s hs=>by simp[Tt,Pc,WC])
  (fun i y r s h1 h2 h3 h4 h5=>by
   left;have hy:l[i]=y:=by rw[AAF h1]at h2;exact Option.some.inj h2
   obtain⟨out,sum⟩:=s;obtain⟨q1,q2,q3,q4⟩:=h5;dsimp only at q1 q2 q3;have zu:=hl.2.1 y (by rw[←hy];exact ABW h1);have um:=YS p h y.1;unfold Tt;dsimp only;rw[show decide ((i:Int)<(l.length:Int))=true by simpa using h1,ABU,PA h1,hy,O9 h1 (by omega)];simp only[ABT];rw[aT p (by have:=h.2.2;omega) y.1 n hn,ABT]
   have hw:PD ((PW p.2.2 y.1).2.1-(PW p.2.2 y.1).2.2)=PO p y.1:=by unfold PO at um ⊢;rw[PF (by omega) (by omega)]
   rw[hw];have vf:(bif decide (y.2<PO p y.1)then some y.2 else some (PO p y.1))=some (Px y.2 (PO p y.1)):=iL _ _ _;rw[vf,ABT];have hle:=Uy y.2 (PO p y.1);by_cases hg:Px y.2 (PO p y.1)>0
   ·rw[show decide (Px y.2 (PO p y.1)>0)=true by simpa using hg,ABU,show decide (out.length+[(p.1,y.1,Px y.2 (PO p y.1))].length≤Dh)=true from Rq (by omega),ABU,ABT];rw[PF (n:=sum+Px y.2 (PO p y.1)) (by omega) (by omega)];refine⟨(out++[(p.1,y.1,Px y.2 (PO p y.1))],sum+Px y.2 (PO p y.1)),rfl,⟨by show(out++[_]).length≤i+1;rw[AA2,ABb];omega,by show 0≤sum+Px y.2 (PO p y.1);omega,by show sum+Px y.2 (PO p y.1)≤1000*((i+1:Nat):Int);omega,by omega⟩,?_⟩;simp only[Pc];rw[show decide (Px y.2 (PO p y.1)>0)=true by simpa using hg,ABU];simp only[WC,ABo,AB4,ACK]
   ·rw[show decide (Px y.2 (PO p y.1)>0)=false by simpa using hg,ABV,ABT];refine⟨(out,sum),rfl,⟨by show out.length≤i+1;omega,q2,by show sum≤1000*((i+1:Nat):Int);omega,by omega⟩,?_⟩;simp only[Pc];rw[show decide (Px y.2 (PO p y.1)>0)=false by simpa using hg,ABV])
  n (by unfold PJ at hn;omega) (([]:List O8),(0:Int)) ⟨by simp,by simp,by simp,by omega⟩
 unfold Ug;grind
def a8(p:O8)(l:List Pa):List Pa:=l.map fun y=>bif y.1==p.2.1 then(y.1,PD (y.2-p.2.2))else y
def ZM{β:Type}(f:β→β)(l:List β)(i:Nat):List β:=(l.take i).map f++l.drop i
theorem dj{β:Type}(f:β→β)(l:List β)(m k:Nat):(ZM f l m)[k]?=(l[k]?).map fun a=>if k<m then f a else a:=by unfold ZM;grind
theorem ei{β:Type}(f:β→β)(l:List β)(i:Nat):(ZM f l i).length=l.length:=by unfold ZM;simp;omega
theorem eo{β:Type}(f g:β→β)(l:List β)(i:Nat)(hi:i<l.length)(hg:g l[i]=f l[i]):(ZM f l i).modify i g=ZM f l (i+1):=by
 apply ABv;intro j;rw[ABf,dj,dj];by_cases hj:j<l.length
 all_goals grind
theorem ia{β:Type}(f:β→β)(l:List β)(i:Nat)(hi:i<l.length)(hf:f l[i]=l[i]):ZM f l i=ZM f l (i+1):=by have:=eo f id l i hi hf.symm;rw[←this];apply ABv;grind
theorem jg{β:Type}(f:β→β)(l:List β):ZM f l l.length=l.map f:=by unfold ZM;simp
theorem j5(bt:List O8)(sm:Int)(z:List Pa)(k:Nat)(hk:k<bt.length)(l:List Pa)(hl:l.length≤6)(n:Nat)(hn:PJ≤n):
  iter n (TV (bt,sm) ((k:Int),z)) (0,l)=some ((l.length:Int),a8 bt[k] l):=by
 have:=Pn (TV (bt,sm) ((k:Int),z)) (fun i=>((i:Int),ZM (fun y=>bif y.1==bt[k].2.1 then(y.1,PD (y.2-bt[k].2.2))else y) l i)) l.length ((l.length:Int),a8 bt[k] l) (fun i hi=>by
  have hg:=dj (fun y=>bif y.1==bt[k].2.1 then(y.1,PD (y.2-bt[k].2.2))else y) l i i;rw[AAF hi]at hg;simp only[AA9,Nat.lt_irrefl,if_false]at hg;have hlen:=ei (fun y=>bif y.1==bt[k].2.1 then(y.1,PD (y.2-bt[k].2.2))else y) l i;unfold TV;dsimp only;rw[hlen,show decide ((i:Int)<(l.length:Int))=true by simpa using hi,ABU];have tS:Ob (ZM (fun y=>bif y.1==bt[k].2.1 then(y.1,PD (y.2-bt[k].2.2))else y) l i) (i:Int)=true:=PE (by rw[hlen];exact hi);have hbt:bt[(k:Int).toNat]?=some bt[k]:=by simp[hk]
  simp only[tS,PE hk,ABU,ABX,hg,ABT,AAF hk];rw[O9 hi (by omega)];cases hq:(l[i].1==bt[k].2.1)with
  |true=>
   rw[ABU,ABT,eo _ _ l i hi (by rw[hq];rfl)]
  |false=>
   rw[ABV,ABT,←ia _ l i hi (by rw[hq];rfl)]) (by
  unfold TV;dsimp only;rw[ei,jg];simp[a8]) n (by unfold PJ at hn;omega)
 have h0:ZM (fun y=>bif y.1==bt[k].2.1 then(y.1,PD (y.2-bt[k].2.2))else y) l 0=l:=by unfold ZM;simp
 grind
theorem kI(p:O8)(l:List Pa):(a8 p l).length=l.length:=by unfold a8;simp
theorem j4(bt:List O8)(hbt:bt.length≤6)(sm:Int)(l:List Pa)(hl:l.length≤6)(n:Nat)(hn:PJ≤n):
  iter n (TU n (bt,sm)) (0,l)=some ((bt.length:Int),bt.foldl (fun l p=>a8 p l) l):=by
 have:=Ph (σ:=List Pa) (TU n (bt,sm)) (fun i s=>((i:Int),s)) bt (fun r s=>((bt.length:Int),r.foldl (fun l p=>a8 p l) s)) (fun i s=>s.length≤6)
  (fun s hs=>by unfold TU;simp) (fun i p r s h1 h2 h3 h4 h5=>by
   left;have hp:bt[i]=p:=by rw[AAF h1]at h2;exact Option.some.inj h2
   refine⟨a8 p s,?_,by rw[kI];exact h5,rfl⟩;unfold TU;dsimp only;rw[show decide ((i:Int)<(bt.length:Int))=true by grind,ABU,j5 bt sm s i h1 s h5 n hn,ABT,O9 h1 (by omega),hp])
  n (by unfold PJ at hn;omega) l hl
 exact this
theorem g9:∀(bt:List O8)(l:List Pa),(∀p∈bt,1≤p.2.2)→(∀y∈l,SZ y.1 bt≤y.2∧y.2≤1000)→bt.foldl (fun l p=>a8 p l) l=l.map fun y=>(y.1,y.2-SZ y.1 bt)
 | [],l,_,_=>by simp[SZ]
 |p::bt,l,h1,h2=>by
  have hp:=h1 p AAe;have hr:=fun q hq=>h1 q (AAJ p hq)
  have e:a8 p l=l.map fun y=>(y.1,y.2-bif p.2.1==y.1 then p.2.2 else 0):=by
   unfold a8;refine AB0 fun y hy=>?_;obtain⟨q1,q2⟩:=h2 y hy;have wV:=XA y.1 bt hr;simp only[SZ]at q1;have hc:(y.1==p.2.1)=(p.2.1==y.1):=by rw[AB3];simp;exact eq_comm
   rw[hc];cases hq:(p.2.1==y.1)with
   |true=>
    rw[hq]at q1;simp only[ABU]at q1 ⊢;rw[PF (by omega) (by omega)]
   |false=>simp
  rw[List.foldl_cons,e,g9 bt _ hr,List.map_map]
  ·refine AB0 fun y hy=>?_;simp only[Function.comp_apply,SZ];grind
  ·intro y hy;obtain⟨z,hz,rfl⟩:=AAs.1 hy;obtain⟨q1,q2⟩:=h2 z hz;simp only[SZ]at q1;grind
def Ui:List Pa→Int
 | []=>0
 |y::r=>y.2+Ui r
theorem aI:∀(l:List Pa),(∀y∈l,0≤y.2)→0≤Ui l∧(Ui l=0→∀y∈l,y.2=0)
 | [],_=>⟨by simp[Ui],fun _ y hy=>by cases hy⟩
 |z::r,h=>by obtain⟨h1,h2⟩:=aI r fun y hy=>h y (AAJ _ hy);have hz:=h z AAe;refine⟨by simp only[Ui];omega,fun e y hy=>?_⟩;simp only[Ui]at e;grind
theorem jz(x:(List O8)×Bool×(List O8)×(List O8)×(List Pa)×(List Bool))(hl:aM x.2.2.2.2.1)(n:Nat)(hn:PJ≤n):iter n (TS x) (0,0)=some (Ui x.2.2.2.2.1,(x.2.2.2.2.1.length:Int)):=by
 obtain⟨x1,x2,x3,x4,l,x6⟩:=x;dsimp only at hl ⊢;have h6:=hl.2.2
 have:=Ph (σ:=Int) (TS (x1,x2,x3,x4,l,x6)) (fun i s=>(s,(i:Int))) l (fun r s=>(s+Ui r,(l.length:Int))) (fun i s=>0≤s∧s≤1000*(i:Int)∧i≤6)
  (fun s hs=>by unfold TS;simp[Ui]) (fun i y r s h1 h2 h3 h4 h5=>by
   left;have hy:l[i]=y:=by rw[AAF h1]at h2;exact Option.some.inj h2
   have zu:=hl.2.1 y (by rw[←hy];exact ABW h1);refine⟨s+y.2,?_,⟨by omega,by omega,by omega⟩,by simp only[Ui,ACK]⟩;unfold TS;dsimp only;rw[show decide ((i:Int)<(l.length:Int))=true by simpa using h1,ABU,PE h1,ABU,ABX,h2,ABT,O9 h1 (by omega),PF (n:=s+y.2) (by omega) (by omega)])
  n (by unfold PJ at hn;omega) 0 ⟨by omega,by omega,by omega⟩
 grind
def PG(o:List O8)(want:List Pa):Prop:=(∀p∈o,1≤p.2.2∧∃y∈want,y.1=p.2.1)∧∀y∈want,SZ y.1 o=y.2
def Vd:List Bool→Nat
 | []=>0
 |b::r=>(bif b then 0 else 1)+Vd r
theorem Yv:∀(u:List Bool)(j:Nat),u[j]?=some false→Vd (Cb u j true)+1=Vd u∧(Cb u j true).length=u.length
 | [],j,h=>by simp at h
 |b::r,0,h=>by simp at h;subst h;simp[Cb,Vd];omega
 |b::r,j+1,h=>by obtain⟨h1,h2⟩:=Yv r j (by simpa using h);simp only[Cb,Vd,ABG,h2,and_true];omega
theorem Yu:∀n,Vd (List.replicate n false)=n
 |0=>rfl
 |n+1=>by rw[List.replicate_succ];simp only[Vd,Yu n,ABV];omega
def leftOf(want:List Pa)(o:List O8):List Pa:=want.map fun y=>(y.1,y.2-SZ y.1 o)
theorem ea{want:List Pa}(h:Vj want){o:List O8}(h1:∀p∈o,1≤p.2.2)(h2:∀y∈want,SZ y.1 o≤y.2):aM (leftOf want o):=by
 refine⟨?_,fun y hy=>?_,by unfold leftOf;rw[ABB];exact h.2.2⟩
 ·unfold leftOf;rw[ABh];exact h.1
 ·unfold leftOf at hy;obtain⟨z,hz,rfl⟩:=AAs.1 hy;have q1:=h2 z hz;have q2:=XA z.1 o h1;have q3:=h.2.1 z hz;omega
theorem gE(n:Nat)(hn:PJ≤n)(b:List Int)(hb:b.length≤1048576)(ci ch:Int)(hci:0≤ci):∃(l:List Pa) (ci' ch':Int),WA n b ci ch=some (l,b,ci',ch')∧0≤ci'∧Vj l:=by
 obtain⟨_,r,e,hr⟩:=eT SG SG (fun i (x:(List Pa)×Int×(List Int)×Int×Int)=>x.2.1=(i:Int)+1∧i≤5∧x.2.2.1=b∧0≤x.2.2.2.1∧x.1.Pairwise (fun a b=>a.1<b.1)∧(∀y∈x.1,1≤y.1∧y.1≤(i:Int)∧1≤y.2∧y.2≤1000)∧x.1.length≤i)
  (fun r=>r.2.2.1=b∧0≤r.2.2.2.1∧Vj r.1) 5 (fun i x hi hI=>by
  refine⟨rfl,?_⟩;obtain⟨l,s,b0,ci,ch⟩:=x;obtain⟨h1,h2,h3,h4,h5,h6,h7⟩:=hI;dsimp only at h1 h3 h4 h5 h6 h7;subst h1;subst h3;by_cases tX:i<5
  ·left;obtain⟨v,i1,g1,e1,j1⟩:=iT b0 ci ch h4 hb 4;unfold SG;dsimp only;rw[show decide ((i:Int)+1<6)=true by simp;omega,ABU,e1,ABT];dsimp only;rw[PF (n:=(i:Int)+1+1) (by omega) (by omega)]
   have more:∀y∈l,1≤y.1∧y.1≤((i+1:Nat):Int)∧1≤y.2∧y.2≤1000:=fun y hy=>by grind
   cases v with
   |false=>
    rw[ABV,ABT];grind
   |true=>
    obtain⟨u,i2,g2,e2,j2,m2⟩:=jb b0 i1 g1 j1 hb [1,1,1,2,3,9] (by simp)
    have hu:1≤u∧u≤9:=by simp at m2;omega
    rw[ABU,e2,ABT];dsimp only;rw[show decide (l.length+[((i:Int)+1,u)].length≤Dh)=true from Rq (by omega),ABU,ABT];grind
  ·right;have:i=5:=by omega
   subst this;refine⟨_,by unfold SG;rfl,rfl,h4,h5,fun y hy=>?_,by show l.length≤6;omega⟩;grind) n (by unfold PJ at hn;omega) (([]:List Pa),1,b,ci,ch) ⟨rfl,by omega,rfl,hci,List.Pairwise.nil,(fun y hy=>by cases hy),by simp⟩
 obtain⟨l,c,b0,ci',ch'⟩:=r;obtain⟨h1,h2,h3⟩:=hr;dsimp only at h1 h2 h3;subst h1;unfold WA;rw[e];exact⟨l,ci',ch',rfl,h2,h3⟩
def tp:List O8→Int→Int→Int
 | [],_,_=>0
 |p::r,PU,k=>(if p.1=PU∧p.2.1=k then p.2.2 else 0)+tp r PU k
theorem ZB:∀(x y:List O8)(PU k:Int),tp (x++y) PU k=tp x PU k+tp y PU k
 | [],y,PU,k=>by simp[tp]
 |p::x,y,PU,k=>by simp only[ABH,tp,ZB x y PU k];omega
theorem eB:∀(x:List O8),(∀p∈x,1≤p.2.2)→∀PU k,0≤tp x PU k
 | [],_,_,_=>by simp[tp]
 |p::x,h,PU,k=>by have h1:=eB x (fun q hq=>h q (AAJ _ hq)) PU k;have h2:=h p AAe;simp only[tp];omega
theorem lW:∀(x:List O8)(PU k:Int),(∀p∈x,p.1=PU→p.2.1≠k)→tp x PU k=0
 | [],_,_,_=>rfl
 |p::x,PU,k,h=>by have h1:=lW x PU k fun q hq=>h q (AAJ _ hq);have h2:=h p AAe;simp only[tp,h1];omega
def fR(f:Int→Int→Int)(p:PH):PH:=(p.1,p.2.1,p.2.2.map fun y=>(y.1,y.2.1,y.2.2+f p.1 y.1))
def PX(a:List PH)(f:Int→Int→Int):List PH:=a.map (fR f)
theorem Wl(a:List PH)(f:Int→Int→Int)(h:∀PU k,f PU k=0):PX a f=a:=by
 unfold PX
 have:fR f=id:=funext fun p=>by
  unfold fR;have:(fun y:O8=>(y.1,y.2.1,y.2.2+f p.1 y.1))=id:=funext fun y=>by rw[h];simp
  rw[this,List.map_id];rfl
 rw[this,List.map_id]
theorem ZD(a:List PH){f g:Int→Int→Int}(h:∀PU k,f PU k=g PU k):PX a f=PX a g:=by rw[show f=g from funext fun p=>funext fun k=>h p k]
theorem Xb(a:List PH)(f:Int→Int→Int):(PX a f).length=a.length:=by unfold PX;grind
theorem Zo{a:List PH}{f:Int→Int→Int}{i:Nat}(h:i<(PX a f).length):(PX a f)[i]=fR f (a[i]'(by rw[Xb]at h;exact h)):=ABq (fR f)
theorem iB(p:O8)(rs:List O8):tp (p::rs) p.1 p.2.1=p.2.2+tp rs p.1 p.2.1:=by show(if p.1=p.1∧p.2.1=p.2.1 then p.2.2 else 0)+tp rs p.1 p.2.1=_;omega
theorem gX(a:List PH)(f:Int→Int→Int)(PU k d:Int):bG (PX a f) PU k d=PX a fun p s=>f p s+if p=PU∧s=k then d else 0:=by
 unfold bG XV PX YR;rw[List.map_map];refine AB0 fun p _=>?_;simp only[Function.comp,fR];by_cases hp:p.1=PU
 ·rw[show(p.1==PU)=true from AAS.2 hp,ABU,List.map_map];refine congrArg (fun l=>(p.1,p.2.1,l)) (AB0 fun y _=>?_);simp only[Function.comp];by_cases hy:y.1=k
  ·rw[show(y.1==k)=true from AAS.2 hy,ABU,AAK ⟨hp,hy⟩,ACK]
  ·rw[show(y.1==k)=false from ABa.2 hy,ABV,AAM (fun h=>hy h.2),Int.add_zero]
 grind
theorem cF(l:List O8)(g:Int→Int)(k:Int):PW (l.map fun y=>(y.1,y.2.1,y.2.2+g y.1)) k=match l.find? (fun x=>x.1==k)with
  |some x=>(x.1,x.2.1,x.2.2+g k)
  |none=>(k,0,0):=by
 unfold PW;rw[ACH];have:((fun x:O8=>x.1==k) ∘ fun y:O8=>(y.1,y.2.1,y.2.2+g y.1))=fun x:O8=>x.1==k:=rfl;grind
theorem iN(p:PH)(f:Int→Int→Int)(k:Int)(h0:PO p k=0→f p.1 k=0):PO (fR f p) k=PO p k-f p.1 k:=by unfold PO at h0 ⊢;unfold fR;rw[cF p.2.2 (f p.1) k];unfold PW at h0 ⊢;grind
theorem eP{a:List PH}(h:PN a){i:Nat}(hi:i<a.length){k m:Int}(hk:1≤k∧k≤50)(hm:1≤m∧m≤1000):P2 a a[i].1 k m=0∧SH a a[i].1 k=PW a[i].2.2 k:=by
 have h12:=h.1;rcases(RY a (by omega) a[i].1 PJ (AAd _)).2 with⟨_,e⟩|⟨j,hj,e,e2⟩
 ·grind
 ·have eij:a[j]=a[i]:=XR h hi (ABW hj) e2;refine⟨?_,?_⟩
  ·unfold P2 P1;rw[Pp.2 h,ABZ hk.1,ABZ hk.2,ABZ hm.1,ABZ hm.2,e];simp
  ·unfold SH;grind
structure Fits(a:List PH)(ps:List O8):Prop where
 each:∀p∈ps,(1≤p.2.1∧p.2.1≤50)∧(1≤p.2.2∧p.2.2≤1000)∧∃i,∃h:i<a.length,a[i].1=p.1
 free:∀q∈a,∀k,tp ps q.1 k≤PO q k
theorem Fits.pos{a:List PH}{ps:List O8}(h:Fits a ps)(PU k:Int):0≤tp ps PU k:=eB ps (fun p hp=>(h.each p hp).2.1.1) PU k
theorem Fits.init{a:List PH}{qs rs:List O8}(h:Fits a (qs++rs)):Fits a qs:=by have h1:=fun p hp=>h.each p (AAQ rs hp);refine⟨h1,fun q hq k=>?_⟩;have h2:=h.free q hq k;have h3:=eB rs (fun p hp=>(h.each p (AAO qs hp)).2.1.1) q.1 k;rw[ZB]at h2;omega
theorem Fits.tail{a:List PH}{p:O8}{rs:List O8}(h:Fits a (p::rs)):Fits a rs:=by refine⟨fun q hq=>h.each q (AAJ _ hq),fun q hq k=>?_⟩;have h2:=h.free q hq k;have h3:=(h.each p AAe).2.1.1;simp only[tp]at h2;omega
theorem Fits.to{a:List PH}{ps:List O8}(h:Fits a ps)(ha:PN a){q:PH}(hq:q∈a)(k:Int):PO (fR (tp ps) q) k=PO q k-tp ps q.1 k:=by refine iN q (tp ps) k fun e=>?_;have h1:=h.free q hq k;have h2:=h.pos q.1 k;omega
theorem db{a:List PH}(ha:PN a):∀(rs qs:List O8),PN (PX a (tp qs))→Fits a (qs++rs)→WL VS rs (PX a (tp qs))=some (PX a (tp (qs++rs)))∧PN (PX a (tp (qs++rs)))
 | [],qs,hs,_=>by rw[ABw];exact⟨rfl,hs⟩
 |p::rs,qs,hs,hf=>by
  obtain⟨hk,hm,i,hi,e⟩:=hf.each p (AAO _ AAe);have hi2:i<(PX a (tp qs)).length:=by rw[Xb];exact hi
  have u3:=Zo hi2;have hid:(PX a (tp qs))[i].1=p.1:=by rw[u3];exact e
  obtain⟨c1,c2⟩:=eP hs hi2 hk hm;rw[hid]at c1 c2;have hfree:=hf.free _ (ABW hi) p.2.1;have wS:=hf.init.to ha (ABW hi) p.2.1;have hrs:=eB rs (fun q hq=>(hf.each q (AAO _ (AAJ _ hq))).2.1.1) p.1 p.2.1;rw[ZB,e,iB]at hfree;rw[e]at wS;have uh:p.2.2≤PO (fR (tp qs) a[i]) p.2.1:=by omega
  have hneg:¬((PW (fR (tp qs) a[i]).2.2 p.2.1).2.1-(PW (fR (tp qs) a[i]).2.2 p.2.1).2.2<p.2.2):=by unfold PO at uh;omega
  have hh:VS (PX a (tp qs)) p=(PX a (tp (qs++[p])),0):=by
   unfold VS Yk;rw[c1,AAM (by omega),c2,u3,AAM hneg,gX];refine congrArg (fun s=>(s,(0:Int))) (ZD a fun PU k=>?_);rw[ZB];simp only[tp]
   have:(if PU=p.1∧k=p.2.1 then p.2.2 else 0)=(if p.1=PU∧p.2.1=k then p.2.2 else 0:Int):=by
    by_cases hc:p.1=PU∧p.2.1=k
    ·rw[AAK hc,AAK ⟨hc.1.symm,hc.2.symm⟩]
    ·rw[AAM hc,AAM (fun h=>hc ⟨h.1.symm,h.2.symm⟩)]
   rw[this];omega
  have hS:PN (PX a (tp (qs++[p]))):=by have:=eQ hs p.1 p.2.1 p.2.2;unfold VS at hh;rw[hh]at this;exact this
  have ih:=db ha rs (qs++[p]) hS (by grind);rw[ABo]at ih;rw[WL,hh,AAM (by simp)];exact ih
theorem YT{a:List PH}(ha:PN a){ps:List O8}(hf:Fits a ps):Qu VS a ps=(PX a (tp ps),true)∧PN (PX a (tp ps)):=by have h0:PX a (tp [])=a:=Wl a _ fun _ _=>rfl;have:=db ha ps [] (by rw[h0];exact ha) hf;rw[h0,AA4]at this;unfold Qu;grind
theorem dJ{a:List PH}(ha:PN a){qs rs:List O8}(hs:PN (PX a (tp qs)))(hf:Fits a (qs++rs)):Qu VS (PX a (tp qs)) rs=(PX a (tp (qs++rs)),true)∧PN (PX a (tp (qs++rs))):=by have:=db ha rs qs hs hf;unfold Qu;grind
theorem kC{a:List PH}(ha:PN a):∀(rs:List O8),PN (PX a (tp rs))→Fits a rs→WL VV rs (PX a (tp rs))=some a
 | [],_,_=>congrArg some (Wl a _ fun _ _=>rfl)
 |p::rs,hs,hf=>by
  obtain⟨hk,hm,i,hi,e⟩:=hf.each p AAe;have hi2:i<(PX a (tp (p::rs))).length:=by rw[Xb];exact hi
  have u3:=Zo hi2;have hid:(PX a (tp (p::rs)))[i].1=p.1:=by rw[u3];exact e
  obtain⟨c1,c2⟩:=eP hs hi2 hk hm;rw[hid]at c1 c2;have hfree:=hf.free _ (ABW hi) p.2.1;have hrs:=hf.tail.pos p.1 p.2.1;rw[e]at hfree;have htp:=iB p rs;have v7:=cF a[i].2.2 (tp (p::rs) a[i].1) p.2.1
  have hld:p.2.2≤(PW (fR (tp (p::rs)) a[i]).2.2 p.2.1).2.2:=by
   unfold fR;rw[v7];cases hq:a[i].2.2.find? fun x=>x.1==p.2.1 with
   |none=>
    exfalso;unfold PO PW at hfree;grind
   |some x=>
    have hx:=((ha.2.2 _ (ABW hi)).2.2.2.1 x (ABk hq)).2.2.2.2.1;grind
  have hh:VV (PX a (tp (p::rs))) p=(PX a (tp rs),0):=by
   unfold VV ao;rw[c1,AAM (by omega),c2,u3,AAM (by omega),gX];refine congrArg (fun s=>(s,(0:Int))) (ZD a fun PU k=>?_);simp only[tp];by_cases hc:p.1=PU∧p.2.1=k
   ·omega
   ·omega
  have hS:PN (PX a (tp rs)):=by have:=dr hs p.1 p.2.1 p.2.2;unfold VV at hh;rw[hh]at this;exact this
  rw[WL,hh,AAM (by simp)];exact kC ha rs hS hf.tail
theorem kB{a:List PH}(ha:PN a){ps:List O8}(hf:Fits a ps):Qu VV (PX a (tp ps)) ps=(a,true):=by unfold Qu;rw[kC ha ps (YT ha hf).2 hf]
def Zu(l:List Pa)(i:Nat):Bool:=match l[i]? with
 |some x=>P1 x.1 1 50&&P1 x.2 1 1000&&Qe (·.1) l i x
 |none=>false
def Uu(l:List Pa):Bool:=(List.range l.length).all (Zu l)&&decide (l.length≤6)
theorem Uv{l:List Pa}:Uu l=true↔Vj l:=by
 constructor
 ·intro h;unfold Uu at h;simp only[AAG,AAb,AAU,AAR]at h;obtain⟨uZ,h6⟩:=h
  have hi:∀i (hi:i<l.length),(1≤l[i].1∧l[i].1≤50)∧(1≤l[i].2∧l[i].2≤1000)∧Qe (·.1) l i l[i]=true:=by intro i hi;have:=uZ i hi;unfold Zu P1 at this;rw[AAF hi]at this;simp only[AAG,AAb]at this;exact⟨this.1.1,this.1.2,this.2⟩
  refine⟨WY _ _ fun i hi2=>(Wt (·.1) l (i+1) hi2).1 (hi (i+1) hi2).2.2 i rfl,fun x hx=>?_,h6⟩;obtain⟨i,hi2,rfl⟩:=ABY.1 hx;grind
 ·rintro ⟨h1,h2,h3⟩
  unfold Uu;simp only[AAG,AAb,AAU,AAR];refine⟨fun i hi=>?_,h3⟩;obtain⟨a1,a2,a3,a4⟩:=h2 _ (ABW hi);unfold Zu P1;rw[AAF hi];simp only[AAG,AAb];exact⟨⟨⟨a1,a2⟩,a3,a4⟩,YK h1 (fun x y h=>h) i hi⟩
theorem U2(l:List Pa)(hl:l.length≤1048576)(n:Nat)(hn:PJ≤n):Ql n l=some (Uu l):=by
 have:=Qq (QA l) (fun i=>(i:Int)) l.length (Zu l) (fun i hi=>by
  have hp:(bif decide ((i:Int)>0)then(M8 l (PD ((i:Int)-1))).bind (fun y=>some (decide (y.1≥l[i].1)))else some false)=some (!Qe (·.1) l i l[i]):=XE (·.1) l l[i] i hi hl some;unfold Zu;rw[AAF hi];simp only[QA,PA hi,ABT,QW,O9 hi (show l.length≤9223372036854775807 by clear hn;omega),hp];grind) (by simp[QA]) n (by unfold PJ at hn;omega)
 unfold Ql Uu;rw[show((0:Nat):Int)=0 from rfl]at this;rw[this,ABT];cases(List.range l.length).all (Zu l)with
 |false=>rfl
 |true=>
  rw[ABU,ABp];show some (decide ((l.length:Int)≤6))=_;rw[show decide ((l.length:Int)≤6)=decide (l.length≤6) by rw[decide_eq_decide];clear hn;omega]
theorem RU(l:List Pa)(hl:l.length≤1048576)(n:Nat)(hn:PJ≤n):Ru n l=some (Uu l):=by rw[fp,U2 l hl n hn]
theorem eh(m f:Int):NF m f=Px m f:=by unfold NF Px;grind
theorem bT(p:PH)(h:Vb p.2.2)(l:List Pa)(hl:aM l)(n:Nat)(hn:PJ≤n):Xe n p.1 p.2.1 p.2.2 l=some (Pc p.1 (PO p) l,WC (Pc p.1 (PO p) l)):=by
 have h6:=hl.2.2
 have hc:=Ph (σ:=List O8×Int) (U9 n p.1 p.2.1 p.2.2 l) (fun i s=>(s.1,s.2,(i:Int))) l (fun r s=>(s.1++Pc p.1 (PO p) r,s.2+WC (Pc p.1 (PO p) r),(l.length:Int)))
  (fun i s=>s.1.length≤i∧0≤s.2∧s.2≤1000*(i:Int)∧i≤6)
  (fun s hs=>by simp[U9,Pc,WC])
  (fun i y r s h1 h2 h3 h4 h5=>by
   left;have hy:l[i]=y:=by rw[AAF h1]at h2;exact Option.some.inj h2
   obtain⟨out,sum⟩:=s;obtain⟨q1,q2,q3,q4⟩:=h5;dsimp only at q1 q2 q3;have zu:=hl.2.1 y (by rw[←hy];exact ABW h1);have um:=YS p h y.1;obtain⟨j,b,e,e1,e2⟩:=aY h p.1 p.2.1 y.1 n hn;have hle:=Uy y.2 (PO p y.1);unfold U9;dsimp only;rw[show decide ((i:Int)<(l.length:Int))=true by simpa using h1,ABU,PA h1,hy,O9 h1 (show l.length≤9223372036854775807 by clear hn;omega)];simp only[ABT];rw[e,ABT];dsimp only;cases b with
   |false=>
    have hz:PO p y.1=0:=by unfold PO;rw[(e2 rfl).2];rfl
    have yn:¬Px y.2 (PO p y.1)>0:=by clear hn;omega
    refine⟨(out,sum),rfl,⟨by show out.length≤i+1;clear hn;omega,q2,by show sum≤1000*((i+1:Nat):Int);clear hn;omega,by clear hn;omega⟩,?_⟩;simp only[Pc];rw[ABd yn,ABV]
   |true=>
    obtain⟨hj,_,ej⟩:=e1 rfl
    have hw:PD (p.2.2[j].2.1-p.2.2[j].2.2)=PO p y.1:=by
     unfold PO at um ⊢;rw[ej]at um ⊢;rw[PF (by clear hn;omega) (by clear hn;omega)]
    simp only[ABc,ABV,PA hj,ABT,hw,eh];by_cases hg:Px y.2 (PO p y.1)>0
    ·rw[ABZ hg,ABU,show decide (out.length+[(p.1,y.1,Px y.2 (PO p y.1))].length≤Dh)=true from Rq (by clear hn;omega),ABU,ABT];rw[PF (n:=sum+Px y.2 (PO p y.1)) (by clear hn;omega) (by clear hn;omega)];refine⟨(out++[(p.1,y.1,Px y.2 (PO p y.1))],sum+Px y.2 (PO p y.1)),rfl,⟨by show(out++[_]).length≤i+1;rw[AA2,ABb];clear hn;omega,by show 0≤sum+Px y.2 (PO p y.1);clear hn;omega,by show sum+Px y.2 (PO p y.1)≤1000*((i+1:Nat):Int);clear hn;omega,by clear hn;omega⟩,?_⟩;simp only[Pc];rw[ABZ hg,ABU];simp only[WC,ABo,AB4,ACK]
    ·rw[ABd hg,ABV,ABT];refine⟨(out,sum),rfl,⟨by show out.length≤i+1;clear hn;omega,q2,by show sum≤1000*((i+1:Nat):Int);clear hn;omega,by clear hn;omega⟩,?_⟩;simp only[Pc];rw[ABd hg,ABV])
  n (by unfold PJ at hn;omega) (([]:List O8),(0:Int)) ⟨by simp,by simp,by simp,by omega⟩
 unfold Xe;grind
def Y1(l:List Pa)(bt:List O8):List Pa:=(l.map fun y=>(y.1,y.2-SZ y.1 bt)).filter fun y=>decide (y.2>0)
theorem dc(bt:List O8)(hb:bt.length≤72)(h1:∀p∈bt,1≤p.2.2)(k m:Int)(ht:SZ k bt≤m)(hm:m≤1000)(n:Nat)(hn:PJ≤n):
  iter n (UQ bt) (0,k,m)=some ((bt.length:Int),k,m-SZ k bt):=by
 have hc:=Ph (σ:=Int) (UQ bt) (fun i s=>((i:Int),k,s)) bt (fun r s=>((bt.length:Int),k,s-SZ k r)) (fun i s=>SZ k (bt.drop i)≤s∧s≤1000)
  (fun s hs=>by unfold UQ;simp[SZ])
  (fun i p r s g1 g2 g3 g4 g5=>by
   left;have hp:bt[i]=p:=by rw[AAF g1]at g2;exact Option.some.inj g2
   have wJ:p∈bt:=by rw[←hp];exact ABW g1
   have hpp:=h1 p wJ;have hrp:=XA k r fun q hq=>h1 q (List.mem_of_mem_drop (i:=i) (by grind));obtain⟨g5,g6⟩:=g5;rw[g3]at g5;simp only[SZ]at g5;rw[g4];unfold UQ;dsimp only;rw[show decide ((i:Int)<(bt.length:Int))=true by grind,ABU,PA g1,hp,ABT,O9 g1 (show bt.length≤9223372036854775807 by omega)];simp only[SZ];cases hq:(p.2.1==k)with
   |true=>
    rw[hq,ABU]at g5;rw[ABU,ABT,PF (n:=s-p.2.2) (by clear hn;omega) (by clear hn;omega)];grind
   |false=>
    rw[hq,ABV]at g5;rw[ABV,ABT];grind)
  n (by unfold PJ at hn;omega) m ⟨ht,hm⟩
 exact hc
theorem cW(l:List Pa)(hl:l.length≤6)(bt:List O8)(hb:bt.length≤72)(h1:∀p∈bt,1≤p.2.2)(ht:∀y∈l,SZ y.1 bt≤y.2∧y.2≤1000)(n:Nat)(hn:PJ≤n):YY n l bt=some (Y1 l bt):=by
 have hc:=Ph (σ:=List Pa) (Vq n l bt) (fun i s=>(s,(i:Int))) l (fun r s=>(s++Y1 r bt,(l.length:Int))) (fun i s=>s.length≤i)
  (fun s hs=>by unfold Vq;simp[Y1])
  (fun i y r s g1 g2 g3 g4 g5=>by
   left;have hy:l[i]=y:=by rw[AAF g1]at g2;exact Option.some.inj g2
   obtain⟨t1,t2⟩:=ht y (by rw[←hy];exact ABW g1);unfold Vq;dsimp only;rw[show decide ((i:Int)<(l.length:Int))=true by rw[AAb];clear hn;omega,ABU,PA g1,hy,ABT,O9 g1 (show l.length≤9223372036854775807 by clear hn;omega),dc bt hb h1 y.1 y.2 t1 t2 n hn,ABT];dsimp only;by_cases hg:y.2-SZ y.1 bt>0
   ·rw[ABZ hg,ABU,show decide (s.length+[(y.1,y.2-SZ y.1 bt)].length≤Dh)=true from Rq (by clear hn;omega),ABU,ABT];refine⟨s++[(y.1,y.2-SZ y.1 bt)],rfl,by rw[AA2,ABb];clear hn;omega,?_⟩;unfold Y1;rw[ABK,ABy,AAK (by rw[AAb];exact hg),ABo,AB4]
   ·rw[ABd hg,ABV,ABT];refine⟨s,rfl,by clear hn;omega,?_⟩;unfold Y1;rw[ABK,ABy,AAM (by rw[AAb];exact hg)])
  n (by unfold PJ at hn;omega) [] (by simp)
 unfold YY;grind
theorem Yj(pid:Int)(fr:Int→Int):∀l:List Pa,Pc pid fr (l.filter fun y=>decide (y.2>0))=Pc pid fr l
 | []=>rfl
 |y::r=>by
  have ih:=Yj pid fr r;rw[ABy];by_cases h:y.2>0
  ·rw[AAK (by grind)];simp only[Pc,ih]
  ·rw[AAM (by rw[AAb];exact h)];have:=(Uy y.2 (fr y.1)).1;simp only[Pc,ih];grind
theorem bJ(pid:Int)(fr:Int→Int):∀l:List Pa,(∀y∈l,0<y.2→fr y.1≤0)→Pc pid fr l=[]
 | [],_=>rfl
 |y::r,h=>by have ih:=bJ pid fr r fun z hz=>h z (AAJ _ hz);have h1:=h y AAe;have h2:=Uy y.2 (fr y.1);simp only[Pc,ih];grind
theorem dY(pid:Int){f g:Int→Int}(h:∀k,f k=g k)(l:List Pa):Pc pid f l=Pc pid g l:=by rw[show f=g from funext h]
theorem dG(pid:Int)(fr:Int→Int)(um:∀k,0≤fr k):∀(l:List Pa),l.Pairwise (fun a b=>a.1<b.1)→(∀y∈l,0≤y.2)→(∀k,tp (Pc pid fr l) pid k=SZ k (Pc pid fr l)∧SZ k (Pc pid fr l)≤fr k)∧∀y∈l,SZ y.1 (Pc pid fr l)=Px y.2 (fr y.1)
 | [],_,_=>⟨fun k=>⟨rfl,by simp only[Pc,SZ];exact um k⟩,fun y hy=>by cases hy⟩
 |z::r,hp,h0=>by
  obtain⟨h1,h2⟩:=ABl.1 hp;obtain⟨i1,i2⟩:=dG pid fr um r h2 fun y hy=>h0 y (AAJ _ hy);have hz0:=h0 z AAe;have vO:=um z.1
  have xN:SZ z.1 (Pc pid fr r)=0:=gU _ _ fun p yo=>by obtain⟨_,_,w,hw,e,_⟩:=WK pid fr r p yo;have:=h1 w hw;omega
  have hlz:0≤Px z.2 (fr z.1):=by unfold Px;by_cases h:z.2<fr z.1<;>simp[h]<;>omega
  have hle:=Uy z.2 (fr z.1);simp only[Pc];by_cases hg:Px z.2 (fr z.1)>0
  ·rw[ABZ hg,ABU];refine⟨fun k=>?_,fun y hy=>?_⟩
   ·obtain⟨j1,j2⟩:=i1 k;simp only[tp,SZ];by_cases hk:z.1=k
    ·subst hk;rw[AAK ⟨trivial,rfl⟩,ABx,ABU,j1];exact⟨rfl,by omega⟩
    ·rw[AAM (fun h=>hk h.2),show(z.1==k)=false from ABa.2 hk,ABV,j1];exact⟨rfl,by omega⟩
   ·simp only[SZ];rcases AAZ.1 hy with e|hy
    ·subst e;rw[ABx,ABU,xN];omega
    ·have:=h1 y hy;rw[show(z.1==y.1)=false from ABa.2 (by omega),ABV,i2 y hy];omega
  grind
theorem Wk{β:Type}(P:β→Bool)(f:β→β):∀l:List β,(∀y∈l,P y=false→P (f y)=false)→((l.filter P).map f).filter P=(l.map f).filter P
 | [],_=>rfl
 |y::r,h=>by have ih:=Wk P f r fun z hz=>h z (AAJ _ hz);grind
theorem iw{a:List PH}(ha:PN a){work:List PH}(hwl:work.length=a.length)(hw:PN work)(x1:List O8)(x2:Bool)(o x4:List O8){l left:List Pa}(hl:aM l)(hleft:aM left){u:List Bool}(hu:u.length=a.length)
  (hc:∀k (h:k<a.length) (h2:k<work.length),(u[k]?=some false→Pc work[k].1 (PO work[k]) left=Pc a[k].1 (PO a[k]) l)∧(u[k]?=some true→Pc work[k].1 (PO work[k]) left=[])) (n:Nat) (hn:PJ≤n):
  ∃(best most:Int) (bt:List O8),iter n (VH n a (x1,x2,o,x4,l,u)) ((-1),0,0)=some (best,most,(a.length:Int))∧iter n (U6 n (o,left,work)) (([]:List O8),0,0)=some (bt,most,(a.length:Int))∧
   (best = -1∧most=0∧bt=[]∨∃j,∃h:j<a.length,best=(j:Int)∧u[j]?=some false∧bt=Pc a[j].1 (PO a[j]) l∧0<most):=by
 have h12:=ha.1
 obtain⟨z,w,hS,e1,e2⟩:=YB (f:=VH n a (x1,x2,o,x4,l,u)) (g:=U6 n (o,left,work))
  (fun s t=>∃k:Nat,k≤a.length∧s.2.2=(k:Int)∧t.2.2=(k:Int)∧t.2.1=s.2.1∧(s.1 = -1∧s.2.1=0∧t.1=[]∨∃j,∃h:j<a.length,s.1=(j:Int)∧u[j]?=some false∧t.1=Pc a[j].1 (PO a[j]) l∧0<s.2.1))
  (fun z w=>z.2.2=(a.length:Int)∧w.2.2=(a.length:Int)∧w.2.1=z.2.1∧(z.1 = -1∧z.2.1=0∧w.1=[]∨∃j,∃h:j<a.length,z.1=(j:Int)∧u[j]?=some false∧w.1=Pc a[j].1 (PO a[j]) l∧0<z.2.1))
  (fun s=>((a.length:Int)-s.2.2).toNat) (fun s t hR=>by
   obtain⟨b,m,i⟩:=s;obtain⟨bt,m2,i2⟩:=t;obtain⟨k,hk,h1,h2,h3,h4⟩:=hR;dsimp only at h1 h2 h3 h4;subst h1;subst h2;subst h3
   have hm0:0≤m2:=by
    rcases h4 with⟨_,h,_⟩|⟨_,_,_,_,_,h⟩<;>(clear hn;omega)
   unfold VH U6;dsimp only;rw[hwl];by_cases tX:k<a.length
   ·right;have hkw:k<work.length:=by clear hn;omega
    have v7:=(ha.2.2 _ (ABW tX)).2.2;have hst2:=(hw.2.2 _ (ABW hkw)).2.2;obtain⟨c1,c2⟩:=hc k tX hkw;rw[show decide ((k:Int)<(a.length:Int))=true by rw[AAb];clear hn;omega,ABU,ABU,PA tX,ABT,bf a[k] v7 l hl n hn,ABT,PE (by clear hn;omega),ABU,ABX,AAF (show k<u.length by clear hn;omega),ABT,O9 tX (show a.length≤9223372036854775807 by clear hn;omega)];rw[PA hkw,ABT,bT work[k] hst2 left hleft n hn,ABT];rw[AAF (show k<u.length by clear hn;omega)]at c1 c2;have hμ:((a.length:Int)-((k+1:Nat):Int)).toNat<((a.length:Int)-(k:Int)).toNat:=by clear hn;omega
    dsimp only;cases hui:u[k]'(by clear hn;omega)with
    |true=>
     rw[c2 (by rw[hui])];simp only[ABc,ABV,ABT];rw[show decide (WC []>m2)=false by rw[AAf];simp only[WC];clear hn;omega];exact⟨_,_,rfl,rfl,⟨k+1,tX,rfl,rfl,rfl,h4⟩,hμ⟩
    |false=>
     rw[c1 (by rw[hui])];simp only[ABm,ABU,ABT];by_cases hg:WC (Pc a[k].1 (PO a[k]) l)>m2
     ·rw[ABZ hg];exact⟨_,_,rfl,rfl,⟨k+1,tX,rfl,rfl,rfl,.inr ⟨k,tX,rfl,by rw[AAF (show k<u.length by clear hn;omega),hui],rfl,by show 0<WC _;clear hn;omega⟩⟩,hμ⟩
     ·rw[ABd hg];exact⟨_,_,rfl,rfl,⟨k+1,tX,rfl,rfl,rfl,h4⟩,hμ⟩
   ·left;have:k=a.length:=by clear hn;omega
    subst this;rw[show decide ((a.length:Int)<(a.length:Int))=false by rw[AAf];clear hn;omega];exact⟨_,_,rfl,rfl,rfl,rfl,rfl,h4⟩) n ((-1),0,0) (([]:List O8),0,0) ⟨0,Nat.zero_le _,rfl,rfl,rfl,.inl ⟨rfl,rfl,rfl⟩⟩ (by show((a.length:Int)-0).toNat<n;unfold PJ at hn;omega)
 grind
def RF(want:List Pa)(o:List O8):List Pa:=(leftOf want o).filter fun y=>decide (y.2>0)
theorem iY{want:List Pa}{o:List O8}(h:aM (leftOf want o)):aM (RF want o):=⟨h.1.filter _,fun y hy=>h.2.1 y (ABs.1 hy).1,AAw (ABt _ _) h.2.2⟩
structure PI(a:List PH)(want:List Pa)(o:List O8)(u:List Bool):Prop where
 ul:u.length=a.length
 ol:o.length+6*Vd u≤72
 rX:∀y∈want,SZ y.1 o≤y.2
 mem:∀p∈o,1≤p.2.2∧∃y∈want,y.1=p.2.1
 fits:Fits a o
 oP:PN (PX a (tp o))
 off:∀k (h:k<a.length),u[k]?=some false→∀s,tp o a[k].1 s=0
 on:∀k (h:k<a.length),u[k]?=some true→∀y∈want,SZ y.1 o<y.2→PO a[k] y.1-tp o a[k].1 y.1≤0
theorem aa:∀(l:List Pa),(∀y∈l,0≤y.2)→(Ui l=0↔(l.filter fun y=>decide (y.2>0))=[])
 | [],_=>⟨fun _=>rfl,fun _=>rfl⟩
 |y::r,h=>by have ih:=aa r fun z hz=>h z (AAJ _ hz);have h1:=h y AAe;have h2:=(aI r fun z hz=>h z (AAJ _ hz)).1;rw[ABy];simp only[Ui];grind
theorem bj(want:List Pa)(o bt:List O8):(leftOf want o).map (fun y=>(y.1,y.2-SZ y.1 bt))=leftOf want (o++bt):=by unfold leftOf;rw[List.map_map];refine AB0 fun y _=>?_;simp only[Function.comp,bF,Int.sub_sub]
theorem PI.step{a:List PH}(ha:PN a){want:List Pa}(hw:Vj want){o:List O8}{u:List Bool}(h:PI a want o u){j:Nat}(hj:j<a.length)(hu:u[j]?=some false):PI a want (o++Pc a[j].1 (PO a[j]) (leftOf want o)) (Cb u j true):=by
 have hL:=ea hw (fun p hp=>(h.mem p hp).1) h.rX;obtain⟨f1,f2⟩:=Yv u j hu;have v7:=(ha.2.2 _ (ABW hj)).2.2;have zG:=Ys a[j].1 (PO a[j]) (leftOf want o);have hll:(leftOf want o).length≤6:=hL.2.2;have hcm:=WK a[j].1 (PO a[j]) (leftOf want o);have hct:=Yt a[j].1 (PO a[j]) (leftOf want o) hL.1 (fun y hy=>(hL.2.1 y hy).1);obtain⟨t1,t2⟩:=dG a[j].1 (PO a[j]) (fun k=>(YS a[j] v7 k).1) (leftOf want o) hL.1 (fun y hy=>(hL.2.1 y hy).1);generalize hbt:Pc a[j].1 (PO a[j]) (leftOf want o)=bt at zG hcm hct t1 t2;have hlm:∀y∈want,(y.1,y.2-SZ y.1 o)∈leftOf want o:=fun y hy=>by unfold leftOf;grind
 have hbm:∀p∈bt,1≤p.2.2∧p.2.2≤1000∧∃y∈want,y.1=p.2.1:=fun p hp=>by obtain⟨_,q1,y,hy,q2,q3⟩:=hcm p hp;have:=(hL.2.1 y hy).2;unfold leftOf at hy;grind
 have hother:∀k (hk:k<a.length),k≠j→∀s,tp bt a[k].1 s=0:=fun k hk tj s=>lW bt _ s fun p hp e=>by
  have e2:a[j].1=a[k].1:=(hcm p hp).1.symm.trans e;exfalso;rcases ABg j k with hl|hl|hl
  ·have:=(ABQ.1 ha.2.1 j k hj hk hl).1;omega
  ·omega
  ·have:=(ABQ.1 ha.2.1 k j hk hj hl).1;omega
 have hF:Fits a (o++bt):=by
  refine⟨fun p hp=>?_,fun q hq k=>?_⟩
  ·rcases AAy.1 hp with hp|hp
   ·exact h.fits.each p hp
   ·obtain⟨q1,q2,y,hy,q3⟩:=hbm p hp;have hyb:=hw.2.1 y hy;grind
  ·obtain⟨i,hi,rfl⟩:=ABY.1 hq;rw[ZB];by_cases xM:i=j
   ·subst xM;rw[h.off i hi hu k,(t1 k).1];grind
   ·rw[hother i hi xM k];have:=h.fits.free _ (ABW hi) k;omega
 have hug:∀k,(Cb u j true)[k]?=if j=k then some true else u[k]?:=fun k=>by rw[P5,List.getElem?_set];grind
 refine⟨by rw[f2];exact h.ul,?_,fun y hy=>?_,fun p hp=>?_,hF,(dJ ha h.oP hF).2,fun k hk e s=>?_,fun k hk e y hy tX=>?_⟩
 ·have:=h.ol;grind
 ·have:=hct _ (hlm y hy);dsimp only at this;rw[bF];omega
 ·rcases AAy.1 hp with hp|hp
  ·exact h.mem p hp
  grind
 ·rw[hug]at e;by_cases hjk:j=k
  ·grind
  ·rw[AAM hjk]at e;rw[ZB,h.off k hk e s,hother k hk (fun q=>hjk q.symm) s];rfl
 ·rw[bF]at tX;rw[hug]at e;rw[ZB];by_cases hjk:j=k
  ·subst hjk;have e3:=t2 _ (hlm y hy);dsimp only at e3;rw[h.off j hk hu y.1,(t1 y.1).1,e3];rw[e3]at tX;unfold Px at tX ⊢;grind
  ·rw[AAM hjk]at e;have xr:=XA y.1 bt fun p hp=>(hbm p hp).1;rw[hother k hk (fun q=>hjk q.symm) y.1];have:=h.on k hk e y hy (by omega);omega
abbrev oU:=(List O8)×Bool×(List O8)×(List O8)×(List Pa)×(List Bool)
abbrev oS:=(List O8)×(List Pa)×(List PH)
def oT(a:List PH)(want:List Pa)(x:oU)(y:oS):Prop:=x.2.2.2.1=[]∧x.2.2.2.2.1=leftOf want x.2.2.1∧PI a want x.2.2.1 x.2.2.2.2.2∧y=(x.2.2.1,RF want x.2.2.1,PX a (tp x.2.2.1))
def rO(a:List PH)(want:List Pa)(z:oU⊕((List O8)×Bool))(w:oS⊕((List O8)×Bool)):Prop:=∃o b,z=.inr (o,b)∧(b=true→PG o want∧Fits a o∧o.length≤72)∧(b=false→o=[])∧(w=.inr (o,b)∨b=true∧∃l s,w=.inl (o,l,s))
theorem gF{want:List Pa}{y:Pa}(hy:y∈want)(o:List O8):(y.1,y.2-SZ y.1 o)∈leftOf want o:=by unfold leftOf;grind
theorem gG{want:List Pa}{o bt:List O8}(hb:∀p∈bt,1≤p.2.2):Y1 (RF want o) bt=RF want (o++bt):=by
 unfold Y1 RF
 rw[Wk (fun y:Pa=>decide (y.2>0)) (fun y=>(y.1,y.2-SZ y.1 bt)) (leftOf want o) fun y _ hp=>by
  have:=XA y.1 bt hb;grind,bj]
theorem PI.mS{a:List PH}(ha:PN a){want:List Pa}{o:List O8}{u:List Bool}(hI:PI a want o u)(k:Nat)(hk:k<a.length)(hk2:k<(PX a (tp o)).length):
  (u[k]?=some false→Pc (PX a (tp o))[k].1 (PO (PX a (tp o))[k]) (RF want o)=Pc a[k].1 (PO a[k]) (leftOf want o))∧(u[k]?=some true→Pc (PX a (tp o))[k].1 (PO (PX a (tp o))[k]) (RF want o)=[]):=by
 rw[Zo hk2];have wS:=hI.fits.to ha (ABW hk);refine⟨fun e=>?_,fun e=>?_⟩
 ·unfold RF;rw[Yj];exact dY _ (fun s=>by rw[wS s,hI.off k hk e s,Int.sub_zero]) _
 ·refine bJ _ _ _ fun y hy wV=>?_;unfold RF leftOf at hy;obtain⟨z,hz,rfl⟩:=AAs.1 (ABs.1 hy).1;show PO (fR (tp o) a[k]) z.1≤0;rw[wS];exact hI.on k hk e z hz (by omega)
theorem gL{a:List PH}(ha:PN a){want:List Pa}(hw:Vj want)(n:Nat)(hn:PJ≤n)(x:oU)(y:oS)(hR:oT a want x y):
  (∃z w,VG n a x=some (.inr z)∧U5 n y=some (.inr w)∧rO a want z w)∨(∃x' y',VG n a x=some (.inl x')∧U5 n y=some (.inl y')∧oT a want x' y'∧Vd x'.2.2.2.2.2<Vd x.2.2.2.2.2):=by
 obtain⟨x1,x2,o,nn,l,u⟩:=x;obtain⟨g1,g2,hI,g4⟩:=hR;dsimp only at g1 g2 hI g4;subst g1;subst g2;subst g4;have hol:=hI.ol;have hL:=ea hw (fun p hp=>(hI.mem p hp).1) hI.rX;have hLP:=iY hL;have h0:=aa (leftOf want o) fun y hy=>(hL.2.1 y hy).1;unfold VG U5;rw[jz (x1,x2,o,[],leftOf want o,u) hL n hn,ABT];dsimp only;by_cases hz:Ui (leftOf want o)=0
 ·left;have hnil:RF want o=[]:=h0.1 hz;rw[hz,hnil];refine⟨_,_,rfl,rfl,o,true,rfl,fun _=>⟨⟨hI.mem,fun y hy=>?_⟩,hI.fits,by clear hn;omega⟩,(fun e=>by cases e),.inr ⟨rfl,_,_,rfl⟩⟩;have:=(aI (leftOf want o) fun y hy=>(hL.2.1 y hy).1).2 hz _ (gF hy o);omega
 ·have tj:RF want o≠[]:=fun e=>hz (h0.2 e)
  have wV:0<(RF want o).length:=by
   cases hq:RF want o with
   |nil=>grind
   |cons _ _=>simp
  rw[show(Ui (leftOf want o)==0)=false from ABa.2 hz,ABV,show decide (((RF want o).length:Int)>0)=true by grind,ABU];obtain⟨best,most,bt,e1,e2,hb⟩:=iw ha (Xb a (tp o)) hI.oP x1 x2 o [] hL hLP hI.ul (fun k hk hk2=>hI.mS ha k hk hk2) n hn;rw[e1,e2,ABT,ABT];dsimp only;rcases hb with⟨rfl,rfl,rfl⟩|⟨j,hj,rfl,hu,hbt,hm⟩
  ·left;exact⟨_,_,rfl,rfl,[],false,rfl,(fun e=>by cases e),fun _=>rfl,.inl rfl⟩
  ·right;have hju:j<u.length:=by rw[hI.ul];exact hj
   have v7:=(ha.2.2 _ (ABW hj)).2.2;have zG:=Ys a[j].1 (PO a[j]) (leftOf want o);have hll:(leftOf want o).length≤6:=hL.2.2;have hcm:=WK a[j].1 (PO a[j]) (leftOf want o);have hct:=Yt a[j].1 (PO a[j]) (leftOf want o) hL.1 (fun y hy=>(hL.2.1 y hy).1);have hstep:=hI.step ha hw hj hu;have hc:=bf a[j] v7 (leftOf want o) hL n hn;have hpg:∀p∈bt,1≤p.2.2:=fun p hp=>by grind
   have uX:=g9 bt (leftOf want o) hpg (fun y hy=>⟨by grind,(hL.2.1 y hy).2⟩);rw[←hbt]at zG hct hstep hc;have hH:=dJ ha hI.oP hstep.fits;have hHA:=XN (PX a (tp o)) hI.oP.sm bt (by omega) n hn;rw[hH.1]at hHA
   have hle:=cW (RF want o) hLP.2.2 bt (by omega) hpg (fun y hy=>by
    have zu:=(ABs.1 hy).1;exact⟨hct y zu,(hL.2.1 y zu).2⟩) n hn
   rw[gG hpg]at hle;have tY:decide (o.length+bt.length≤Dh)=true:=Uz (by omega);have h4:=j4 bt (by omega) (WC bt) (leftOf want o) hll n hn;rw[show decide ((j:Int)<0)=false by simp,ABV,PE hju,ABU,PA hj,ABT,hc,ABT];dsimp only;rw[show(most==0)=false from ABa.2 (by omega),ABV,tY,ABU,ABU,h4,ABT,hHA,ABT,hle,ABT,ABX];refine⟨_,_,rfl,rfl,⟨rfl,?_,hstep,rfl⟩,by have:=(Yv u j hu).1;grind⟩;show bt.foldl (fun l p=>a8 p l) (leftOf want o)=leftOf want (o++bt);rw[uX,bj]
theorem PI.init{a:List PH}(ha:PN a){want:List Pa}(hw:Vj want):PI a want [] (List.replicate a.length false):=by
 have h0:PX a (tp [])=a:=Wl a _ fun _ _=>rfl;have h12:=ha.1;refine⟨by simp,by rw[Yu];simp;omega,fun y hy=>?_,(fun p hp=>by cases hp),⟨(fun p hp=>by cases hp),fun q hq k=>?_⟩,by rw[h0];exact ha,fun k hk _ s=>rfl,fun k hk e=>?_⟩
 ·have:=hw.2.1 y hy;simp only[SZ];omega
 ·exact(YS q (ha.2.2 q hq).2.2 k).1
 grind
theorem ec{want:List Pa}(hw:Vj want):RF want []=want:=by
 have:leftOf want []=want:=by unfold leftOf;simp[SZ]
 unfold RF;rw[this];exact List.filter_eq_self.2 fun y hy=>by have:=hw.2.1 y hy;grind
theorem fW{a:List PH}(ha:PN a){want:List Pa}(hw:Vj want)(n:Nat)(hn:PJ≤n):∃o b,Sp n a want=some (o,b)∧Sf n a want=some (o,b)∧(b=true→PG o want∧Fits a o∧o.length≤72)∧(b=false→o=[]):=by
 have h12:=ha.1;have h6:=hw.2.2;have h0:PX a (tp [])=a:=Wl a _ fun _ _=>rfl
 obtain⟨z,w,hS,e1,e2⟩:=YB (oT a want) (rO a want) (fun x=>Vd x.2.2.2.2.2) (fun x y hR=>gL ha hw n hn x y hR) n
  (([]:List O8),false,([]:List O8),([]:List O8),want,List.replicate a.length (false:Bool)) (([]:List O8),want,a)
  ⟨rfl,by show want=leftOf want [];unfold leftOf;simp[SZ],PI.init ha hw,by rw[ec hw,h0]⟩ (by show Vd (List.replicate a.length false)<n;rw[Yu];unfold PJ at hn;omega)
 obtain⟨o,b,rfl,q1,q2,q3⟩:=hS;refine⟨o,b,?_,?_,q1,q2⟩
 ·unfold Sp;rw[Pv a ha.sm n hn,ha.ok,hw.ok n hn];simp only[ABT,ABc,ABV];rw[show decide (([]:List Pa).length+want.length≤Dh)=true from Uz (by grind),ABU];rw[show(decide (0≤(a.length:Int))&&decide ((a.length:Int)≤(Dh:Int))&&decide True)=true by rw[show decide ((a.length:Int)≤(Dh:Int))=true by rw[AAb];unfold Dh;clear hn;omega];simp,ABU,AA4,ABX,e1,ABT]
 ·unfold Sf QK;rw[Qh a ha.sm n hn,ha.ok,RU want (by clear hn;omega) n hn,Uv.2 hw,Pd a ha.sm n hn,Uz (show want.length≤1048576 by clear hn;omega)];grind
theorem iG(a:List PH)(hs:PY a)(want:List Pa)(hl:want.length≤1048576)(n:Nat)(hn:PJ≤n):∃o b,Sp n a want=some (o,b)∧Sf n a want=some (o,b)∧(b=true→PN a∧Vj want∧PG o want∧Fits a o∧o.length≤72)∧(b=false→o=[]):=by
 cases h1:Ps a with
 |false=>
  refine⟨[],false,?_,?_,(fun e=>by cases e),fun _=>rfl⟩
  ·unfold Sp;rw[Pv a hs n hn,h1];rfl
  ·unfold Sf;rw[Qh a hs n hn,h1];rfl
 |true=>
  cases h2:Uu want with
  |false=>
   refine⟨[],false,?_,?_,(fun e=>by cases e),fun _=>rfl⟩
   ·unfold Sp;rw[Pv a hs n hn,h1,U2 want hl n hn,h2];rfl
   ·unfold Sf;rw[Qh a hs n hn,h1,RU want hl n hn,h2];rfl
  |true=>
   have ha:=Pp.1 h1;have hw:=Uv.1 h2;obtain⟨o,b,e1,e2,q1,q2⟩:=fW ha hw n hn;grind
def ZE(p:O8)(y:Pa):Bool:=y.1==p.2.1&&P1 p.2.2 1 y.2
def YQ(p:O8)(l:List Pa):List Pa:=l.map fun y=>bif y.1==p.2.1 then(y.1,y.2-p.2.2)else y
def foldI:List O8→List Pa→Option (List Pa)
 | [],l=>some l
 |p::r,l=>if l.any (ZE p)then foldI r (YQ p l)else none
def WV(ps:List O8)(l:List Pa):Bool:=match foldI ps l with
 |some z=>z.all fun y=>y.2==0
 |none=>false
theorem ZF{p:O8}{y:Pa}:ZE p y=true↔y.1=p.2.1∧1≤p.2.2∧p.2.2≤y.2:=by unfold ZE P1;grind
theorem fO(p:O8)(l:List Pa):(YQ p l).length=l.length:=by unfold YQ;grind
theorem gz{p:O8}{l:List Pa}(h:l.Pairwise fun a b=>a.1<b.1):(YQ p l).Pairwise fun a b=>a.1<b.1:=by unfold YQ;grind
theorem cH{p:O8}{l:List Pa}{y:Pa}(h:y∈YQ p l):∃z∈l,y.1=z.1∧y.2=if z.1=p.2.1 then z.2-p.2.2 else z.2:=by unfold YQ at h;grind
theorem gy{p:O8}{l:List Pa}{z:Pa}(h:z∈l):(z.1,if z.1=p.2.1 then z.2-p.2.2 else z.2)∈YQ p l:=by unfold YQ;grind
theorem ja{l:List Pa}(h:l.Pairwise fun a b=>a.1<b.1){y z:Pa}(hy:y∈l)(hz:z∈l)(e:y.1=z.1):y=z:=by
 obtain⟨i,hi,rfl⟩:=ABY.1 hy;obtain⟨j,hj,rfl⟩:=ABY.1 hz;rcases ABg i j with hl|hl|hl
 ·have:=ABQ.1 h i j hi hj hl;omega
 ·subst hl;rfl
 ·have:=ABQ.1 h j i hj hi hl;omega
theorem Xm:∀(ps:List O8)(l:List Pa),l.Pairwise (fun a b=>a.1<b.1)→(WV ps l=true↔PG ps l)
 | [],l,hl=>by
  show(l.all fun y=>y.2==0)=true↔_;rw[AAU];constructor
  ·intro h;refine⟨(fun p hp=>by cases hp),fun y hy=>?_⟩;have:=h y hy;rw[AAS]at this;rw[this];rfl
  ·intro h y hy;rw[AAS];exact(h.2 y hy).symm
 |p::ps,l,hl=>by
  have ih:=Xm ps (YQ p l) (gz hl)
  have hun:WV (p::ps) l=(if l.any (ZE p)then WV ps (YQ p l)else false):=by unfold WV;rw[foldI];grind
  rw[hun];by_cases ha:l.any (ZE p)=true
  ·rw[AAK ha,ih];obtain⟨y,hy,hh⟩:=AA6.1 ha;obtain⟨h1,h2,h3⟩:=ZF.1 hh;constructor
   ·rintro ⟨g1,g2⟩
    refine⟨fun q hq=>?_,fun z hz=>?_⟩
    ·rcases AAZ.1 hq with rfl|hq
     ·grind
     ·obtain⟨a1,v,hv,a2⟩:=g1 q hq;obtain⟨w,hw,b1,_⟩:=cH hv;grind
    ·have:=g2 _ (gy (p:=p) hz);dsimp only at this;simp only[SZ];grind
   ·rintro ⟨g1,g2⟩
    refine⟨fun q hq=>?_,fun z hz=>?_⟩
    ·obtain⟨a1,v,hv,a2⟩:=g1 q (AAJ _ hq);exact⟨a1,_,gy (p:=p) hv,a2⟩
    ·obtain⟨w,hw,b1,b2⟩:=cH hz;have:=g2 w hw;simp only[SZ]at this;grind
  ·rw[AAM ha];refine⟨(fun e=>by cases e),fun⟨g1,g2⟩=>(ha ?_).elim⟩;obtain⟨a1,y,hy,a2⟩:=g1 p AAe;have h3:=g2 y hy;have h4:=XA y.1 ps fun q hq=>(g1 q (AAJ _ hq)).1;simp only[SZ]at h3;rw[show(p.2.1==y.1)=true from AAS.2 a2.symm,ABU]at h3;exact AA6.2 ⟨y,hy,ZF.2 ⟨a2,a1,by omega⟩⟩
def iF(l:List Pa):Prop:=l.Pairwise (fun a b=>a.1<b.1)∧(∀y∈l,0≤y.2∧y.2≤1000)∧l.length≤6
theorem iF.sub{p:O8}{l:List Pa}(h:iF l)(ha:l.any (ZE p)=true):iF (YQ p l):=by
 obtain⟨y,hy,hh⟩:=AA6.1 ha;obtain⟨h1,h2,h3⟩:=ZF.1 hh;refine⟨gz h.1,fun z hz=>?_,by rw[fO];exact h.2.2⟩;obtain⟨w,hw,b1,b2⟩:=cH hz;have hwb:=h.2.1 w hw;rw[b2];split
 ·rename_i e;have:w=y:=ja h.1 hw hy (e.trans h1.symm);grind
 ·exact hwb
theorem er{l:List Pa}(h:l.Pairwise fun a b=>a.1<b.1){i:Nat}(hi:i<l.length){p:O8}(e:l[i].1=p.2.1):l.modify i (fun y=>(y.1,l[i].2-p.2.2))=YQ p l:=by
 apply ABv;intro k;unfold YQ;rw[ABf,AAX];by_cases hk:k<l.length
 ·rw[AAF hk];by_cases hik:i=k
  ·subst hik;rw[Option.map_eq_map,AA9,AA9,AAK rfl,show(l[i].1==p.2.1)=true from AAS.2 e,ABU]
  ·rw[Option.map_eq_map,AA9,AA9,AAM hik]
   have:l[k].1≠p.2.1:=fun e2=>by
    rcases ABg i k with hl|hl|hl
    ·have:=ABQ.1 h i k hi hk hl;omega
    ·exact hik hl
    ·have:=ABQ.1 h k i hk hi hl;omega
   rw[show(l[k].1==p.2.1)=false from ABa.2 this,ABV]
 grind
theorem gK(k:Int)(l:List Pa)(hl:iF l)(p:O8)(n:Nat)(hn:PJ≤n):∃i:Int,iter n (Te (k,l) p) (false,0,l)=some (bif l.any (ZE p)then(true,i,YQ p l)else(false,i,l)):=by
 have h6:=hl.2.2
 obtain⟨z,hS,e⟩:=XP (f:=Te (k,l) p) (fun x=>x.1=false∧x.2.2=l∧∃m:Nat,m≤l.length∧x.2.1=(m:Int)∧∀i (h:i<l.length),i<m→ZE p l[i]=false)
  (fun z=>z.1=false∧z.2.2=l∧l.any (ZE p)=false∨z.1=true∧z.2.2=YQ p l∧l.any (ZE p)=true) (fun x=>((l.length:Int)-x.2.1).toNat) (fun x hR=>by
   obtain⟨b,i,l'⟩:=x;obtain⟨h1,h2,m,hm,h3,h4⟩:=hR;dsimp only at h1 h2 h3;subst h1;subst h2;subst h3;unfold Te;dsimp only;by_cases tX:m<l'.length
   ·have hyb:=hl.2.1 _ (ABW tX);rw[show decide ((m:Int)<(l'.length:Int))=true by rw[AAb];clear hn;omega,ABU,PE tX,ABX,AAF tX];simp only[ABU,ABT,Vk,QW]
    have hx:(bif l'[m].1==p.2.1 then some (P1 p.2.2 1 l'[m].2)else some false)=some (ZE p l'[m]):=by
     unfold ZE;cases(l'[m].1==p.2.1)<;>rfl
    rw[hx,ABT];cases hh:ZE p l'[m]with
    |true=>
     obtain⟨a1,a2,a3⟩:=ZF.1 hh;left;refine⟨_,rfl,.inr ⟨rfl,?_,AA6.2 ⟨_,ABW tX,hh⟩⟩⟩;show l'.modify m (fun y=>(y.1,PD (l'[m].2-p.2.2)))=_;rw[PF (n:=l'[m].2-p.2.2) (by clear hn;omega) (by clear hn;omega),er hl.1 tX a1]
    |false=>
     right;rw[ABV,O9 tX (show l'.length≤9223372036854775807 by clear hn;omega)];refine⟨_,rfl,⟨rfl,rfl,m+1,tX,rfl,fun i hi vp=>?_⟩,by show((l'.length:Int)-((m+1:Nat):Int)).toNat<((l'.length:Int)-(m:Int)).toNat;clear hn;omega⟩;by_cases e:i=m
     ·subst e;exact hh
     ·exact h4 i hi (by clear hn;omega)
   ·left;rw[show decide ((m:Int)<(l'.length:Int))=false by rw[AAf];clear hn;omega];refine⟨_,rfl,.inl ⟨rfl,rfl,?_⟩⟩;rw[←ABr];intro ha;obtain⟨y,hy,hh⟩:=AA6.1 ha;obtain⟨i,hi,rfl⟩:=ABY.1 hy;rw[h4 i hi (by clear hn;omega)]at hh;cases hh) n (false,0,l) ⟨rfl,rfl,0,Nat.zero_le _,rfl,fun i _ h=>by omega⟩ (by show((l.length:Int)-0).toNat<n;unfold PJ at hn;omega)
 grind
theorem Zt(ps:List O8)(hp:ps.length≤1048576)(l:List Pa)(hl:iF l)(n:Nat)(hn:PJ≤n):UR n ps l=some (WV ps l):=by
 have h6:=hl.2.2
 have hc:=Ph (σ:=List Pa) (Td n ps) (fun i s=>((i:Int),s)) ps (fun r s=>match foldI r s with|some z=>.inl ((ps.length:Int),z)|none=>.inr false) (fun i s=>iF s)
  (fun s hs=>by unfold Td;simp[foldI])
  (fun i p r s g1 g2 g3 g4 g5=>by
   have hpi:ps[i]=p:=by rw[AAF g1]at g2;exact Option.some.inj g2
   obtain⟨j,e⟩:=gK (i:Int) s g5 p n hn;unfold Td;dsimp only;rw[show decide ((i:Int)<(ps.length:Int))=true by grind,ABU,PA g1,hpi,ABT,e,ABT,O9 g1 (show ps.length≤9223372036854775807 by omega)];cases ha:s.any (ZE p)with
   |true=>
    left;refine⟨YQ p s,rfl,g5.sub ha,?_⟩;rw[foldI,AAK ha]
   |false=>
    right;rw[foldI,AAM (by rw[ha];simp)];rfl)
  n (by unfold PJ at hn;omega) l hl
 unfold UR QK;rw[Uz (show l.length≤1048576 by omega),ABU,ABT];rw[show((0:Nat):Int)=0 from rfl]at hc;rw[hc,ABT];unfold WV;cases hf:foldI ps l with
 |none=>rfl
 |some z=>
  have hzl:z.length≤6:=by
   have:∀(ps:List O8)(l z:List Pa),foldI ps l=some z→z.length=l.length:=by
    intro ps
    induction ps with
    |nil=>intro l z e;injection e with e;rw[e]
    |cons p ps ih=>
     intro l z e;rw[foldI]at e;split at e
     ·rw[ih _ _ e,fO]
     ·cases e
   rw[this ps l z hf];exact h6
  have h3:=RT (Tf ((ps.length:Int),z)) z (fun y=>y.2==0) (fun i x hi hx=>by
   obtain⟨_,rfl⟩:=AAH.1 hx;unfold Tf;dsimp only;rw[show decide ((i:Int)<(z.length:Int))=true by rw[AAb];clear hn;omega,ABU,PE hi,ABX,AAF hi,ABU,ABT,O9 hi (show z.length≤9223372036854775807 by clear hn;omega)];simp only[bne];cases(z[i].2==0)<;>rfl) (by unfold Tf;simp) n (by unfold PJ at hn;omega)
  grind
abbrev Pk:=Int×Int×(List Pa)×(List O8)×Int
theorem R8(nx:Int)(l:List Pk)(h:QX (nx,l))(n:Nat)(hn:PJ≤n):RH n nx l=some (nx,l):=by
 have hl:l.length≤1048576:=h.1
 have hc:=Ph (σ:=List Pk) (To l) (fun i s=>((i:Int),nx,s)) l (fun r s=>((l.length:Int),nx,s++r)) (fun i s=>s.length≤i)
  (fun s hs=>by simp[To]) (fun i y r s h1 h2 h3 h4 h5=>by
   left;have hy:l[i]=y:=by rw[AAF h1]at h2;exact Option.some.inj h2
   refine⟨s++[y],?_,by rw[AA2,ABb];omega,by simp⟩;unfold To;dsimp only;rw[show decide ((i:Int)<(l.length:Int))=true by simpa using h1,ABU,PA h1,hy,ABT,YM y (h.2 y (by rw[←hy];exact ABW h1)),ABT,O9 h1 (by omega)];rw[show decide (s.length+[(y.1,y.2.1,y.2.2.1,y.2.2.2.1,y.2.2.2.2)].length≤Dh)=true from Rq (by omega),ABU])
  n (by unfold PJ at hn;omega) [] (by simp)
 unfold RH;grind
theorem RV(nx:Int)(l:List Pk)(h:QX (nx,l))(n:Nat)(hn:PJ≤n):QF n nx l=some (nx,l):=by
 have hl:l.length≤1048576:=h.1
 have hc:=Ph (σ:=List Pk) (S2 l) (fun i s=>((i:Int),nx,s)) l (fun r s=>((l.length:Int),nx,s++r)) (fun i s=>s.length≤i)
  (fun s hs=>by simp[S2]) (fun i y r s h1 h2 h3 h4 h5=>by
   left;have hy:l[i]=y:=by rw[AAF h1]at h2;exact Option.some.inj h2
   refine⟨s++[y],?_,by rw[AA2,ABb];omega,by simp⟩;unfold S2;dsimp only;rw[show decide ((i:Int)<(l.length:Int))=true by simpa using h1,ABU,PA h1,hy,ABT,UO y (h.2 y (by rw[←hy];exact ABW h1)),ABT,O9 h1 (by omega)];have hr:decide (s.length+1≤Dh)=true:=Rq (by omega);simp only[ABb,hr,ABU])
  n (by unfold PJ at hn;omega) [] (by simp)
 unfold QF;grind
def Qp(l:List Pk):List Pk:=l.filter fun o=>o.2.2.2.2==1
theorem eO{β:Type}(f:Int→Option (Int⊕(Int⊕Int)))(xs:List β)(P:β→Bool)(hs:∀(i:Nat)(x:β),i<xs.length→xs[i]?=some x→f (i:Int)=some (bif P x then .inr (.inr (i:Int))else .inl ((i+1:Nat):Int)))
  (j:Nat) (hj:j<xs.length) (hP:P xs[j]=true):∀n,xs.length<n→∃i,∃h:i<xs.length,P xs[i]=true∧iter n f 0=some (.inr (i:Int)):=by
 have key:∀d i n,i+d=j→d<n→∃k,∃h:k<xs.length,P xs[k]=true∧iter n f (i:Int)=some (.inr (k:Int)):=by
  intro d
  induction d with
  |zero=>
   intro i n hi hn;obtain⟨n,rfl⟩:∃k,n=k+1:=⟨n-1,by omega⟩;have:i=j:=by omega
   subst this;have hf:=hs i xs[i] hj (AAF hj);rw[hP,ABU]at hf;exact⟨i,hj,hP,Po hf n⟩
  |succ d ih=>
   intro i n hi hn;obtain⟨n,rfl⟩:∃k,n=k+1:=⟨n-1,by omega⟩;have tX:i<xs.length:=by omega
   have hf:=hs i xs[i] tX (AAF tX);cases hp:P xs[i]with
   |true=>rw[hp,ABU]at hf;exact⟨i,tX,hp,Po hf n⟩
   |false=>rw[hp,ABV]at hf;rw[Rw hf n];exact ih (i+1) n (by omega) (by omega)
 exact fun n hn=>key j 0 n (by omega) (by omega)
theorem Ws(nx:Int)(l:List Pk)(hl:l.length≤1048576)(hp:l.Pairwise (fun a b=>a.1<b.1))(i:Nat)(hi:i<l.length)(n:Nat)(hn:PJ≤n):QL n nx l l[i].1=some (i:Int):=by
 obtain⟨j,hj,hP,e⟩:=eO (Q0 l l[i].1) l (fun x=>x.1==l[i].1) (fun m x h1 h2=>by
  have hx:l[m]=x:=by rw[AAF h1]at h2;exact Option.some.inj h2
  simp only[Q0,PA h1,hx,ABT,O9 h1 (by omega)];grind) i hi (by simp) n (by unfold PJ at hn;omega)
 have hji:j=i:=by
  have hP:l[j].1=l[i].1:=by simpa using hP
  rcases ABg j i with q|q|q
  ·have:=ABQ.1 hp j i hj hi q;omega
  ·exact q
  ·have:=ABQ.1 hp i j hi hj q;omega
 subst hji;unfold QL;rw[e];rfl
theorem UT(nx:Int)(l:List Pk)(hl:l.length≤1048576)(c:Int)(hc:∀x∈l,x.1≠c)(n:Nat)(hn:PJ≤n):QL n nx l c=some (-1):=by
 have:=dI (Q0 l c) l (fun x=>x.1==c) (fun m x h1 h2=>by
  have hx:l[m]=x:=by rw[AAF h1]at h2;exact Option.some.inj h2
  simp only[Q0,PA h1,hx,ABT,O9 h1 (by omega)];rw[show decide ((m:Int)<(l.length:Int))=true by simpa using h1];cases hq:(x.1==c)<;>rfl) (by simp[Q0]) n (by unfold PJ at hn;omega)
 unfold QL;grind
def aJ(l:List Pa)(ps:List O8):Int:=match l with
 | []=>0
 |y::r=>SZ y.1 ps+aJ r ps
theorem fQ:∀l:List Pa,aJ l []=0
 | []=>rfl
 |y::r=>by simp only[aJ,fQ r,SZ];rfl
theorem cK(p:O8)(ps:List O8):∀l:List Pa,(∀y∈l,y.1≠p.2.1)→aJ l (p::ps)=aJ l ps
 | [],_=>rfl
 |y::r,h=>by have h1:=h y AAe;simp only[aJ,SZ,cK p ps r fun z hz=>h z (AAJ _ hz)];grind
theorem hX(p:O8)(ps:List O8):∀l:List Pa,l.Pairwise (fun a b=>a.1<b.1)→(∃y∈l,y.1=p.2.1)→aJ l (p::ps)=p.2.2+aJ l ps
 | [],_,⟨y,hy,_⟩=>by cases hy
 |y::r,hl,⟨z,hz,e⟩=>by
  obtain⟨h1,h2⟩:=ABl.1 hl;simp only[aJ,SZ];by_cases hy:y.1=p.2.1
  ·rw[cK p ps r fun w hw=>by grind,show(p.2.1==y.1)=true from AAS.2 hy.symm,ABU];omega
  ·rcases AAZ.1 hz with e2|hz
   ·grind
   ·rw[hX p ps r h2 ⟨z,hz,e⟩,show(p.2.1==y.1)=false from ABa.2 fun e=>hy e.symm,ABV];omega
theorem cJ{l:List Pa}(hl:l.Pairwise fun a b=>a.1<b.1):∀ps:List O8,(∀p∈ps,1≤p.2.2)→aJ l ps≤WC ps∧(aJ l ps=WC ps↔∀p∈ps,∃y∈l,y.1=p.2.1)
 | [],_=>by rw[fQ];exact⟨by simp[WC],⟨fun _ p hp=>(by cases hp),fun _=>rfl⟩⟩
 |p::ps,h=>by
  obtain⟨i1,i2⟩:=cJ hl ps fun q hq=>h q (AAJ _ hq);have hp:=h p AAe;simp only[WC];by_cases hy:∃y∈l,y.1=p.2.1
  ·rw[hX p ps l hl hy];grind
  ·rw[cK p ps l fun y zu e=>hy ⟨y,zu,e⟩];grind
theorem dx(ps:List O8):∀l:List Pa,(∀y∈l,SZ y.1 ps=y.2)→aJ l ps=Ui l
 | [],_=>rfl
 |y::r,h=>by simp only[aJ,Ui,h y AAe,dx ps r fun z hz=>h z (AAJ _ hz)]
theorem iA{ps:List O8}(h:∀p∈ps,1≤p.2.2){p:O8}(hp:p∈ps):p.2.2≤SZ p.2.1 ps:=by
 induction ps with
 |nil=>cases hp
 |cons q r ih=>
  have h1:=XA p.2.1 r fun z hz=>h z (AAJ _ hz);have h2:=h q AAe;simp only[SZ];grind
theorem iu{l:List Pa}(hl:Vj l){ps:List O8}:((∀p∈ps,1≤p.2.2∧p.2.2≤1000)∧(∀y∈l,SZ y.1 ps=y.2)∧Ui l-WC ps=0)↔PG ps l:=by
 constructor
 ·rintro ⟨h1,h2,h3⟩
  have hs:=(cJ hl.1 ps fun p hp=>(h1 p hp).1).2.1 (by rw[dx ps l h2];omega);exact⟨fun p hp=>⟨(h1 p hp).1,hs p hp⟩,h2⟩
 ·rintro ⟨h1,h2⟩
  have hs:=(cJ hl.1 ps fun p hp=>(h1 p hp).1).2.2 fun p hp=>(h1 p hp).2;refine⟨fun p hp=>⟨(h1 p hp).1,?_⟩,h2,by rw[dx ps l h2]at hs;omega⟩;obtain⟨y,hy,e⟩:=(h1 p hp).2;have:=iA (fun q hq=>(h1 q hq).1) hp;have h4:=h2 y hy;have h5:=hl.2.1 y hy;grind
def fV(nx:Int)(o:Pk):Prop:=(1≤o.1∧o.1≤nx-1)∧(0≤o.2.1∧o.2.1≤99)∧(Vj o.2.2.1∧0<o.2.2.1.length)∧PG o.2.2.2.1 o.2.2.1∧(1≤o.2.2.2.2∧o.2.2.2.2≤3)
def Vi(nx:Int)(l:List Pk):Prop:=(1≤nx∧nx≤1000000)∧l.length≤30∧l.Pairwise (fun a b=>a.1<b.1)∧∀o∈l,fV nx o
def dW(l:List Pk):Prop:=∀o∈l,∀p∈o.2.2.2.1,1≤p.1∧p.1≤999
def Yo(nx:Int)(l:List Pk)(i:Nat):Bool:=match l[i]? with
 |some o=>P1 o.1 1 (nx-1)&&Qe (·.1) l i o&&P1 o.2.1 0 99&&P1 o.2.2.2.2 1 3 && !((o.2.2.1.length:Int)==0)&&Uu o.2.2.1&&WV o.2.2.2.1 o.2.2.1
 |none=>false
theorem ij{nx:Int}{l:List Pk}{i:Nat}(hi:i<l.length):Yo nx l i=true↔fV nx l[i]∧Qe (·.1) l i l[i]=true:=by
 unfold Yo fV;rw[AAF hi];simp only[AAG,Uv,AAT,ABa];have tS:∀a b c:Int,P1 a b c=true↔b≤a∧a≤c:=fun a b c=>by unfold P1;grind
 rw[tS,tS,tS];constructor
 ·rintro ⟨⟨⟨⟨⟨⟨h1,h2⟩,h3⟩,h4⟩,h5⟩,h6⟩,h7⟩
  exact⟨⟨h1,h3,⟨h6,by omega⟩,(Xm _ _ h6.1).1 h7,h4⟩,h2⟩
 ·rintro ⟨⟨h1,h3,⟨h6,h5⟩,h7,h4⟩,h2⟩
  exact⟨⟨⟨⟨⟨⟨h1,h2⟩,h3⟩,h4⟩,by omega⟩,h6⟩,(Xm _ _ h6.1).2 h7⟩
theorem eI{nx:Int}{l:List Pk}(hn:1≤nx∧nx≤1000000)(h30:l.length≤30):(List.range l.length).all (Yo nx l)=true↔Vi nx l:=by
 rw[AAU];have u3:∀i (hi:i<l.length),Yo nx l i=true↔fV nx l[i]∧Qe (·.1) l i l[i]=true:=fun i hi=>ij hi;constructor
 ·intro h;have hi:∀i (hi:i<l.length),fV nx l[i]∧Qe (·.1) l i l[i]=true:=fun i hi=>(u3 i hi).1 (h i (AAR.2 hi));refine⟨hn,h30,WY _ _ fun i hi2=>(Wt (·.1) l (i+1) hi2).1 (hi (i+1) hi2).2 i rfl,fun o ho=>?_⟩;obtain⟨i,hi2,rfl⟩:=ABY.1 ho;grind
 ·rintro ⟨_,_,h3,h4⟩ i hi
  have hi:=AAR.1 hi;exact(u3 i hi).2 ⟨h4 _ (ABW hi),YK h3 (fun x y h=>h) i hi⟩
theorem az(ps:List O8)(h72:ps.length≤72)(hN:∀p∈ps,1≤p.2.2∧p.2.2≤1000)(k:Int)(n:Nat)(hn:PJ≤n):Wy n ps k=some (SZ k ps):=by
 have hc:=Ph (σ:=Int) (Ua ps k) (fun i s=>(s,(i:Int))) ps (fun r s=>(s+SZ k r,(ps.length:Int))) (fun i s=>0≤s∧s≤1000*(i:Int))
  (fun s hs=>by unfold Ua;simp[SZ])
  (fun i p r s g1 g2 g3 g4 g5=>by
   left;have hp:ps[i]=p:=by rw[AAF g1]at g2;exact Option.some.inj g2
   have hpN:=hN p (by rw[←hp];exact ABW g1);unfold Ua;dsimp only;rw[show decide ((i:Int)<(ps.length:Int))=true by rw[AAb];clear hn;omega,ABU,PA g1,hp,O9 g1 (show ps.length≤9223372036854775807 by clear hn;omega)];simp only[ABT,SZ];cases(p.2.1==k)with
   |true=>
    rw[ABU,ABT,PF (n:=s+p.2.2) (by clear hn;omega) (by clear hn;omega)];exact⟨s+p.2.2,rfl,⟨by clear hn;omega,by clear hn;omega⟩,by rw[ABU,ACK]⟩
   |false=>
    rw[ABV,ABT];exact⟨s,rfl,⟨g5.1,by clear hn;omega⟩,by rw[ABV,Int.zero_add]⟩)
  n (by unfold PJ at hn;omega) 0 ⟨by omega,by omega⟩
 unfold Wy;grind
theorem jx(l:List Pa)(hl:Vj l)(n:Nat)(hn:PJ≤n):iter n (Ri l) (0,0)=some (Ui l,(l.length:Int)):=by
 have h6:=hl.2.2
 have hc:=Ph (σ:=Int) (Ri l) (fun i s=>(s,(i:Int))) l (fun r s=>(s+Ui r,(l.length:Int))) (fun i s=>0≤s∧s≤1000*(i:Int))
  (fun s hs=>by unfold Ri;simp[Ui])
  (fun i y r s g1 g2 g3 g4 g5=>by
   left;have hy:l[i]=y:=by rw[AAF g1]at g2;exact Option.some.inj g2
   have hyb:=hl.2.1 y (by rw[←hy];exact ABW g1);refine⟨s+y.2,?_,⟨by clear hn;omega,by clear hn;omega⟩,by simp only[Ui,ACK]⟩;unfold Ri;dsimp only;rw[show decide ((i:Int)<(l.length:Int))=true by rw[AAb];clear hn;omega,ABU,PA g1,hy,ABT,O9 g1 (show l.length≤9223372036854775807 by clear hn;omega),PF (n:=s+y.2) (by clear hn;omega) (by clear hn;omega)])
  n (by unfold PJ at hn;omega) 0 ⟨by omega,by omega⟩
 grind
theorem jy(ps:List O8)(h72:ps.length≤72)(hP:∀p∈ps,1≤p.1∧p.1≤999)(s0:Int)(hs0:0≤s0∧s0≤6000)(n:Nat)(hn:PJ≤n):
  iter n (Rj ps) (s0,0)=some (if ∀p∈ps,1≤p.2.2∧p.2.2≤1000 then .inl (s0-WC ps,(ps.length:Int))else .inr false):=by
 have hc:=Ph (σ:=Int) (Rj ps) (fun i s=>(s,(i:Int))) ps (fun r s=>if ∀p∈r,1≤p.2.2∧p.2.2≤1000 then .inl (s-WC r,(ps.length:Int))else .inr false) (fun i s => -1000*(i:Int)≤s∧s≤6000)
  (fun s hs=>by
   rw[AAK (fun p hp=>by cases hp)];unfold Rj;simp[WC])
  (fun i p r s g1 g2 g3 g4 g5=>by
   have hp:ps[i]=p:=by rw[AAF g1]at g2;exact Option.some.inj g2
   have hpP:=hP p (by rw[←hp];exact ABW g1);unfold Rj;dsimp only;rw[show decide ((i:Int)<(ps.length:Int))=true by rw[AAb];clear hn;omega,ABU,PA g1,hp,O9 g1 (show ps.length≤9223372036854775807 by clear hn;omega)];simp only[ABT,QW];rw[show P1 p.1 1 999=true by unfold P1;rw[ABZ hpP.1,ABZ hpP.2];rfl];by_cases hb:1≤p.2.2∧p.2.2≤1000
   ·left;rw[show P1 p.2.2 1 1000=true by unfold P1;rw[ABZ hb.1,ABZ hb.2];rfl];simp only[ABc,ABV,ABT];rw[PF (n:=s-p.2.2) (by clear hn;omega) (by clear hn;omega)];refine⟨s-p.2.2,rfl,⟨by clear hn;omega,by clear hn;omega⟩,?_⟩;simp only[List.forall_mem_cons,hb,and_self,true_and,WC,Int.sub_sub]
   ·right
    rw[show P1 p.2.2 1 1000=false by
     unfold P1;rw[ACD,AAf,AAf];by_cases h:1≤p.2.2
     ·exact .inr fun q=>hb ⟨h,q⟩
     ·exact .inl h]
    rw[AAM (fun q=>hb (q p AAe))];rfl)
  n (by unfold PJ at hn;omega) s0 ⟨by omega,by omega⟩
 omega
theorem Zc(o:Pk)(h1:o.2.2.1.length≤1048576)(hP:∀p∈o.2.2.2.1,1≤p.1∧p.1≤999)(n:Nat)(hn:PJ≤n):
  VL n o.1 o.2.1 o.2.2.1 o.2.2.2.1 o.2.2.2.2=some (P1 o.2.1 0 99&&P1 o.2.2.2.2 1 3 && !((o.2.2.1.length:Int)==0)&&Uu o.2.2.1&&(decide (o.2.2.2.1.length≤72)&&WV o.2.2.2.1 o.2.2.1)):=by
 obtain⟨id,desk,it,pk,st⟩:=o;dsimp only at h1 hP ⊢;unfold VL;simp only[QW,U2 it h1 n hn,ABT];by_cases h72:pk.length≤72
 case neg=>
  grind
 rw[show decide ((pk.length:Int)>72)=false by grind,ABZ h72,ABp];cases P1 desk 0 99 with
 |false=>rfl
 |true=>
 cases hi:Uu it with
 |false=>grind
 |true=>
 cases((it.length:Int)==0)with
 |true=>grind
 |false=>
 cases P1 st 1 3 with
 |false=>rfl
 |true=>
 have hI:=Uv.1 hi;have h6:=hI.2.2
 have hs0:0≤Ui it∧Ui it≤6000:=by
  have:∀l:List Pa,(∀y∈l,1≤y.2∧y.2≤1000)→0≤Ui l∧Ui l≤1000*(l.length:Int):=by
   intro l
   induction l with
   |nil=>intro _;simp[Ui]
   |cons y r ih=>
    intro h;have a1:=ih fun z hz=>h z (AAJ _ hz);have a2:=h y AAe;simp only[Ui,ABG];clear hn;omega
  have:=this it fun y hy=>⟨(hI.2.1 y hy).2.2.1,(hI.2.1 y hy).2.2.2⟩;clear hn;omega
 have hask:=iu hI (ps:=pk);have zl:=Xm pk it hI.1;simp only[ABc,ABm,ABV,ACE,ABp,ABT];rw[jx it hI n hn,ABT];dsimp only;rw[jy pk h72 hP (Ui it) hs0 n hn,ABT];by_cases hN:∀p∈pk,1≤p.2.2∧p.2.2≤1000
 ·rw[AAK hN]
  have h3:=RT (S9 n it pk) it (fun y=>SZ y.1 pk==y.2) (fun i x hi hx=>by
   obtain⟨_,rfl⟩:=AAH.1 hx;unfold S9;rw[show decide ((i:Int)<(it.length:Int))=true by rw[AAb];clear hn;omega,ABU,PA hi,ABT,az pk h72 hN it[i].1 n hn,ABT,ABT,O9 hi (show it.length≤9223372036854775807 by clear hn;omega)];simp only[bne];cases(SZ it[i].1 pk==it[i].2)<;>rfl) (by unfold S9;simp) n (by unfold PJ at hn;omega)
  dsimp only;rw[h3];cases ha:it.all (fun y=>SZ y.1 pk==y.2)with
  |false=>
   rw[ABV,ABT];show some false=_
   rw[show WV pk it=false by
    rw[←ABr];intro h;have:=(hask.2 (zl.1 h)).2.1;rw[←ABr]at ha;exact ha (AAU.2 fun y hy=>AAS.2 (this y hy))]
  |true=>
   rw[ABU,ABT];show some (Ui it-WC pk==0)=_;refine congrArg some ?_;rw[AB3,zl,←hask,AAS];exact⟨fun h=>⟨hN,fun y hy=>AAS.1 (AAU.1 ha y hy),h⟩,fun h=>h.2.2⟩
 grind
def eg(l:List Pk)(i:Nat):Bool:=match l[i]? with
 |some o=>decide (o.2.2.2.1.length≤72)
 |none=>false
theorem Xv{nx:Int}{l:List Pk}(h:QX (nx,l))(hp:dW l)(n:Nat)(hn:PJ≤n):∃b,Qf n nx l=some b∧(b=true↔Vi nx l∧∀o∈l,o.2.2.2.1.length≤72):=by
 have hl:l.length≤1048576:=h.1;unfold Qf;simp only[QW,ABT];by_cases hx:1≤nx∧nx≤1000000
 ·rw[show P1 nx 1 1000000=true by unfold P1;rw[ABZ hx.1,ABZ hx.2];rfl];simp only[ABc,ABV,ABT];by_cases h30:l.length≤30
  ·rw[show decide ((l.length:Int)>30)=false by grind,ABV]
   have:=Qq (UW n nx l) (fun i=>(i:Int)) l.length (fun i=>Yo nx l i&&eg l i) (fun i hi=>by
    have hm:=ABW hi;have hpr:(bif decide ((i:Int)>0)then(M8 l (PD ((i:Int)-1))).bind (fun y=>some (decide (y.1≥l[i].1)))else some false)=some (!Qe (·.1) l i l[i]):=XE (·.1) l l[i] i hi hl some;have hov:=Zc l[i] (h.2 _ hm).1 (hp _ hm) n hn;simp only[UW,PA hi,ABT,QW,O9 hi (show l.length≤9223372036854775807 by clear hn;omega),hpr,hov];rw[show decide ((i:Int)<(l.length:Int))=true by rw[AAb];clear hn;omega,PF (n:=nx-1) (by clear hn;omega) (by clear hn;omega)];unfold Yo eg;grind) (by simp[UW]) n (by unfold PJ at hn;omega)
   rw[show((0:Nat):Int)=0 from rfl]at this;rw[this,ABT];refine⟨(List.range l.length).all (fun i=>Yo nx l i&&eg l i),?_,?_⟩
   ·grind
   ·rw[←eI hx h30,AAU,AAU];simp only[AAG];constructor
    ·intro q;refine⟨fun i hi=>(q i hi).1,fun o ho=>?_⟩;obtain⟨i,hi,rfl⟩:=ABY.1 ho;have:=(q i (AAR.2 hi)).2;unfold eg at this;grind
    ·rintro ⟨q1,q2⟩ i hi
     refine⟨q1 i hi,?_⟩;have hi:=AAR.1 hi;unfold eg;grind
  ·rw[show decide ((l.length:Int)>30)=true by grind,ABU];exact⟨false,rfl,(fun e=>by cases e),fun hb=>(h30 hb.1.2.1).elim⟩
 ·rw[show P1 nx 1 1000000=false by
   unfold P1;rw[ACD,AAf,AAf];by_cases h:1≤nx
   ·exact .inr fun q=>hx ⟨h,q⟩
   ·exact .inl h]
  exact⟨false,rfl,(fun e=>by cases e),fun hb=>(hx hb.1.1).elim⟩
theorem Ve{nx:Int}{l:List Pk}(h:QX (nx,l))(n:Nat)(hn:PJ≤n):∃b,Qc n nx l=some b∧(b=true↔Vi nx l):=by
 have hl:l.length≤1048576:=h.1;unfold Qc;simp only[Vk,QW,ABT];by_cases hx:1≤nx∧nx≤1000000
 ·rw[show P1 nx 1 1000000=true by unfold P1;rw[ABZ hx.1,ABZ hx.2];rfl];simp only[ABc,ABV,ABT];by_cases h30:l.length≤30
  ·rw[show decide ((l.length:Int)>30)=false by rw[AAf];clear hn;omega,ABV]
   have:=Qq (UG n nx l) (fun i=>(i:Int)) l.length (Yo nx l) (fun i hi=>by
    have hm:=ABW hi;have hpr:∀C:Option Bool,(bif decide ((i:Int)>0)then(M8 l (PD ((i:Int)-1))).bind (fun y=>bif decide (y.1≥l[i].1)then some true else C)else C)=bif !Qe (·.1) l i l[i]then some true else C:=fun C=>XE (·.1) l l[i] i hi hl fun b=>bif b then some true else C;have xw:l[i].2.2.1.length≤1048576:=(h.2 _ hm).1;have wL:l[i].2.2.2.1.length≤1048576:=(h.2 _ hm).2
    have hpo:Uu l[i].2.2.1=true→UR n l[i].2.2.2.1 l[i].2.2.1=some (WV l[i].2.2.2.1 l[i].2.2.1):=fun e=>by
     have hI:=Uv.1 e;exact Zt _ wL _ ⟨hI.1,fun y hy=>by have:=hI.2.1 y hy;clear hn;omega,hI.2.2⟩ n hn
    simp only[UG,PA hi,ABT,Vk,QW,O9 hi (show l.length≤9223372036854775807 by clear hn;omega),hpr,RU _ xw n hn];rw[show decide ((i:Int)<(l.length:Int))=true by rw[AAb];clear hn;omega,PF (n:=nx-1) (by clear hn;omega) (by clear hn;omega)];unfold Yo;rw[AAF hi];dsimp only;cases hib:Uu l[i].2.2.1 with
    |false=>cases P1 l[i].1 1 (nx-1)<;>cases Qe (·.1) l i l[i]<;>cases P1 l[i].2.1 0 99<;>cases P1 l[i].2.2.2.2 1 3<;>cases((l[i].2.2.1.length:Int)==0)<;>rfl
    |true=>
     rw[hpo hib];cases P1 l[i].1 1 (nx-1)<;>cases Qe (·.1) l i l[i]<;>cases P1 l[i].2.1 0 99<;>cases P1 l[i].2.2.2.2 1 3<;>cases((l[i].2.2.1.length:Int)==0)<;>cases WV l[i].2.2.2.1 l[i].2.2.1<;>rfl) (by simp[UG]) n (by unfold PJ at hn;omega)
   rw[show((0:Nat):Int)=0 from rfl]at this;rw[this,ABT];refine⟨(List.range l.length).all (Yo nx l),?_,eI hx h30⟩;grind
  ·rw[show decide ((l.length:Int)>30)=true by grind,ABU];exact⟨false,rfl,(fun e=>by cases e),fun hb=>(h30 hb.2.1).elim⟩
 ·rw[show P1 nx 1 1000000=false by
   unfold P1;rw[ACD,AAf,AAf];by_cases h:1≤nx
   ·exact .inr fun q=>hx ⟨h,q⟩
   ·exact .inl h]
  exact⟨false,rfl,(fun e=>by cases e),fun hb=>(hx hb.1).elim⟩
def Ok{α:Type}(x:Option α)(P:α→Prop):Prop:=∃r,x=some r∧P r
section
variable {α β γ:Type}{P:α→Prop}{Q:β→Prop}
theorem Ok.pure{r:α}(h:P r):Ok (some r) P:=⟨r,rfl,h⟩
theorem Ok.bind{x:Option α}{f:α→Option β}(h:Ok x P)(hf:∀r,P r→Ok (f r) Q):Ok (x.bind f) Q:=by obtain⟨r,rfl,hr⟩:=h;exact hf r hr
theorem Ok.cond{b:Bool}{x y:Option α}(h1:b=true→Ok x P)(h2:b=false→Ok y P):Ok (bif b then x else y) P:=by grind
theorem Ok.guard{b:Bool}{x y:Option α}(hb:b=true)(h:Ok x P):Ok (bif b then x else y) P:=by grind
theorem Ok.M8{xs:List α}{i:Int}(h:0≤i∧i<(xs.length:Int)):Ok (Go.Ev.M8 xs i) fun r=>xs[i.toNat]?=some r:=by
 obtain⟨m,rfl⟩:∃m:Nat,i=m:=⟨i.toNat,by omega⟩;have hm:m<xs.length:=by omega
 exact⟨xs[m],PA hm,by simp[hm]⟩
theorem Ok.get{xs:List α}{i:Nat}(h:i<xs.length):Ok xs[i]? fun r=>xs[i]?=some r:=⟨xs[i],AAF h,AAF h⟩
theorem YA{xs:List α}{i:Int}(h:0≤i∧i<(xs.length:Int)):Ob xs i=true:=by unfold Ob;grind
theorem Ok.iter{f:α→Option (α⊕γ)}{S:γ→Prop}(R:Nat→α→Prop)
  (h:∀k x,R k x→Ok (f x) fun y=>(∃x',y=.inl x'∧∃k',R k' x'∧k'<k)∨∃z,y=.inr z∧S z) {n k:Nat} {x:α} (hR:R k x) (hk:k<n):Ok (Go.Ev.iter n f x) S:=by
 obtain⟨z,hz,e⟩:=Uw R S (fun k x hx=>by
  obtain⟨y,e,hy⟩:=h k x hx;rcases hy with⟨x',rfl,k',h1,h2⟩|⟨z,rfl,h1⟩
  ·exact .inr ⟨x',k',e,h1,h2⟩
  grind) n k x hR hk
 exact⟨z,e,hz⟩
end
def QG{α:Type}(g:Nat→Option α):Prop:=∀n m r,n≤m→g n=some r→g m=some r
theorem QG.const{α:Type}(x:Option α):QG fun _=>x:=fun _ _ _ _ h=>h
theorem QG.bind{α β:Type}{g:Nat→Option α}{f:Nat→α→Option β}(hg:QG g)(hf:∀x,QG fun n=>f n x):QG fun n=>(g n).bind (f n):=by
 intro n m r hnm h;cases hx:g n with
 |none=>grind
 |some x=>
  simp only[hx,ABT]at h;simp only[hg n m x hnm hx,ABT];exact hf x n m r hnm h
theorem QG.cond{α:Type}{b:Bool}{g h:Nat→Option α}(hg:QG g)(hh:QG h):QG fun n=>bif b then g n else h n:=by
 cases b with
 |true=>exact hg
 |false=>exact hh
theorem QG.iter{α γ:Type}{L:Nat→α→Option (α⊕γ)}(hL:∀x,QG fun n=>L n x)(x0:α):QG fun n=>Go.Ev.iter n (L n) x0:=by
 have key:∀(k n m:Nat)(x:α)(r:γ),n≤m→k≤k+0→Go.Ev.iter k (L n) x=some r→∀j,k≤j→Go.Ev.iter j (L m) x=some r:=by
  intro k
  induction k with
  |zero=>intro n m x r _ _ h;simp[Go.Ev.iter]at h
  |succ k ih=>
   intro n m x r hnm _ h j hj;obtain⟨j,rfl⟩:∃i,j=i+1:=⟨j-1,by omega⟩;simp only[Go.Ev.iter]at h ⊢;cases hx:L n x with
   |none=>rw[hx]at h;cases h
   |some y=>
    rw[hx]at h;have h2:L m x=some y:=hL x n m y hnm hx;rw[h2];cases y with
    |inl x'=>exact ih n m x' r hnm (by omega) h j (by omega)
    |inr z=>exact h
 intro n m r hnm h;grind
def Cu(b:List Int)(i:Int):Prop:=b.length≤1048576∧0≤i
theorem P7{b:List Int}{i c:Int}(h:Cu b i)(m:Int):Ok (PS b i c m) fun x=>Cu x.2.1 x.2.2.1∧0≤x.1∧(0<m→x.1<m):=by obtain⟨x,i',h',e,h1,h2,h3⟩:=Xi b i c h.2 h.1 m;exact⟨_,e,⟨h.1,h1⟩,h2,fun hm=>by omega⟩
theorem Yc{b:List Int}{i c:Int}(h:Cu b i)(m:Int):Ok (QQ b i c m) fun x=>Cu x.2.1 x.2.2.1:=by unfold QQ;exact(P7 h m).bind fun r hr=>Ok.pure hr.1
theorem ok_int{b:List Int}{i c:Int}(h:Cu b i){xs:List Int}(hx:0<xs.length):Ok (Pq b i c xs) fun x=>Cu x.2.1 x.2.2.1∧x.1∈xs:=by unfold Pq;refine(P7 h _).bind fun r hr=>(Ok.M8 ⟨hr.2.1,hr.2.2 (by omega)⟩).bind fun v hv=>Ok.pure ⟨hr.1,AAN hv⟩
theorem jw{b:List Int}{i c:Int}(h:Cu b i){xs:List (List UInt8)}(hx:0<xs.length):Ok (Wh b i c xs) fun x=>Cu x.2.1 x.2.2.1∧x.1∈xs:=by unfold Wh;refine(P7 h _).bind fun r hr=>(Ok.M8 ⟨hr.2.1,hr.2.2 (by omega)⟩).bind fun v hv=>Ok.pure ⟨hr.1,AAN hv⟩
theorem gR(s:List UInt8)(b:Int):QG fun n=>V9 n s b:=by unfold V9;exact QG.bind (QG.iter (L:=fun _=>X1 s b) (fun _=>QG.const _) _) fun _=>QG.const _
theorem iZ(c:Int):QG fun n=>Wz n c:=by unfold Wz;exact QG.bind (QG.iter (L:=fun _=>YP c) (fun _=>QG.const _) _) fun x=>QG.const _
theorem gJ(s:List UInt8):QG fun n=>QP n s:=by unfold QP;refine QG.bind (gR s 10) fun x1=>QG.cond (QG.bind (QG.const _) fun x2=>QG.bind (QG.iter (L:=fun n=>T1 n x1) (fun x3=>?_) _) fun _=>QG.const _) (QG.const _);unfold T1;refine QG.cond (QG.bind (QG.const _) fun x5=>QG.cond (QG.const _) (QG.bind (QG.const _) fun x9=>QG.cond (QG.const _) (QG.bind (QG.iter (L:=fun n=>T3 n x1 x3) (fun x10=>?_) _) fun _=>QG.const _))) (QG.const _);unfold T3;refine QG.cond (QG.bind (QG.const _) fun _=>QG.cond (QG.cond (QG.bind (QG.const _) fun _=>QG.bind (QG.const _) fun _=>QG.bind (iZ _) fun _=>QG.const _) (QG.const _)) (QG.const _)) (QG.const _)
def Yx:List (List UInt8):=[[99,46,46,46,46,46,10,46,112,112,46,112,46,10,46,112,112,46,112,46,10,46,46,46,46,46,115,10],[99,46,46,10,46,46,46,10,46,46,115,10],[46,46,46,46,46,10,46,112,35,112,46,10,46,46,115,46,46,10,46,112,35,112,46,10,99,46,46,46,99,10],[46,46,46,35,46,46,46,10,46,46,46,46,46,46,46,10,46,46,46,35,46,46,46,10],[99,46,46,46,46,46,46,46,10,46,112,46,112,46,112,46,46,10,46,46,46,46,46,46,46,115,10,46,112,46,112,46,112,46,46,10,99,46,46,46,46,46,46,115,10],[46,46,10,46,46,10],[99,46,35,46,115,10,46,46,35,46,46,10]]
def bD(s:List UInt8):Bool:=match QP 60 s with
 |some (w,h,c,b)=>PV w h c&&b == -1&&decide (0<c.length)
 |none=>false
theorem cS:Yx.all bD=true:=by kernel_rfl
theorem fE{s:List UInt8}(h:bD s=true)(n:Nat)(hn:PJ≤n):Ok (QP n s) fun x=>PV x.1 x.2.1 x.2.2.1=true∧x.2.2.2 = -1∧0<x.2.2.1.length:=by
 unfold bD at h;cases hp:QP 60 s with
 |none=>grind
 |some x=>
  rw[hp]at h;obtain⟨w,q,c,b⟩:=x;simp only[AAG,AAS,AAb]at h;exact⟨_,gJ s 60 n _ (by unfold PJ at hn;omega) hp,h.1.1,h.1.2,h.2⟩
theorem fw(n:Nat)(hn:PJ≤n){b:List Int}{i c:Int}(h:Cu b i):Ok (Uc n b i c) fun x=>PV x.1 x.2.1 x.2.2.1=true∧0<x.2.2.1.length∧Cu x.2.2.2.1 x.2.2.2.2.1:=by
 unfold Uc;refine(Yc h 3).bind fun r hr=>Ok.cond (fun _=>?_) fun _=>?_
 ·refine(jw hr (xs:=Yx) (by simp[Yx])).bind fun t ht=>?_;refine(fE (AAU.1 cS _ ht.2) n hn).bind fun x hx=>Ok.pure ⟨hx.1,hx.2.2,ht.1⟩
 ·refine(P7 hr 7).bind fun x hx=>(P7 hx.1 6).bind fun y hy=>?_;have x1:=hx.2.2 (by omega);have y1:=hy.2.2 (by omega);have x0:=hx.2.1;have y0:=hy.2.1;rw[PF (n:=1+x.1) (by omega) (by omega),PF (n:=1+y.1) (by omega) (by omega)];generalize hW:1+x.1=W;generalize hH:1+y.1=H
  have hWH:W*H≤100∧1≤W*H:=by
   have a1:1≤W:=by omega
   have a2:W≤10:=by omega
   have a3:1≤H:=by omega
   have a4:H≤10:=by omega
   have h1:W*H≤10*H:=Int.mul_le_mul_of_nonneg_right a2 (by omega);have h2:1*H≤W*H:=Int.mul_le_mul_of_nonneg_right a1 (by omega);omega
  refine Ok.bind (P:=fun z=>PV W H z.2.2.2.2.2.2=true∧0<z.2.2.2.2.2.2.length∧z.2.2.2.2.1=W∧z.2.2.2.2.2.1=H∧Cu z.2.1 z.2.2.1) (Ok.iter (fun k z=>z.1+(k:Int)=W*H∧0≤z.1∧(z.2.2.2.2.2.2.length:Int)=z.1∧(z.2.2.2.2.2.2.all fun k=>P1 k 0 4)=true∧z.2.2.2.2.1=W∧z.2.2.2.2.2.1=H∧Cu z.2.1 z.2.2.1) (fun k z hz=>?_) (k:=(W*H).toNat) ⟨by omega,by omega,rfl,rfl,rfl,rfl,hy.1⟩ (by unfold PJ at hn;omega)) fun z hz=>?_
  ·obtain⟨z1,z2,z3,z4,z5,z6,z7⟩:=hz;unfold X0;rw[z5,z6,PF (n:=W*H) (by omega) (by omega)];refine Ok.cond (fun hb=>?_) fun hb=>?_
   ·have hb:=AAq hb;refine(ok_int z7 (by simp)).bind fun v hv=>Ok.guard (Rq (by omega)) (Ok.pure (.inl ⟨_,rfl,k-1,⟨?_,?_,?_,?_,rfl,rfl,hv.1⟩,by omega⟩))
    ·show PD (z.1+1)+_=_;rw[PF (by omega) (by omega)];omega
    ·show 0≤PD (z.1+1);rw[PF (by omega) (by omega)];omega
    ·show((z.2.2.2.2.2.2++[v.1]).length:Int)=PD (z.1+1);rw[PF (by omega) (by omega)];simp;omega
    ·show((z.2.2.2.2.2.2++[v.1]).all fun k=>P1 k 0 4)=true;rw[List.all_append,z4];have hv2:=hv.2;simp only[AAZ,List.not_mem_nil,or_false]at hv2;rcases hv2 with e|e|e|e|e|e|e|e|e|e<;>rw[e]<;>rfl
   ·have hb:=of_decide_eq_false hb;refine Ok.pure (.inr ⟨_,rfl,?_,?_,rfl,rfl,z7⟩)
    ·show PV W H z.2.2.2.2.2.2=true;unfold PV;rw[z4,PF (n:=W*H) (by omega) (by omega),show((z.2.2.2.2.2.2.length:Int)==W*H)=true by rw[AAS];omega];unfold P1;rw[ABZ (show 1≤W by omega),ABZ (show W≤10 by omega),ABZ (show 1≤H by omega),ABZ (show H≤10 by omega)];rfl
    grind
  ·obtain⟨z1,z2,z3,z4,z5⟩:=hz;refine Ok.pure ⟨?_,z2,z5⟩;grind
theorem iX{b:List Int}{i q:Int}(hcu:Cu b i)(crew:List Pf)(hl:crew.length≤1000):Ok (W6 b i q crew) fun x=>x.1.length=crew.length∧Cu x.2.1 x.2.2.1:=by
 unfold W6;rw[AA4];refine Ok.guard (by rw[AAb];simp[Dh];omega) (Ok.cond (fun _=>Ok.pure ⟨rfl,hcu⟩) fun tj=>?_)
 have h0:0<crew.length:=by
  rcases Nat.eq_zero_or_pos crew.length with e|e
  ·grind
  ·exact e
 refine(P7 hcu _).bind fun r hr=>?_;have hi:=YA (xs:=crew) ⟨hr.2.1,hr.2.2 (by omega)⟩;refine Ok.bind (P:=fun x=>x.2.2.2.length=crew.length∧Cu x.1 x.2.1) ((P7 hr.1 6).bind fun y hy=>Ok.cond (fun _=>(ok_int hy.1 (by simp)).bind fun v hv=>Ok.guard hi (Ok.pure ⟨by simp,hv.1⟩)) fun _=>Ok.cond (fun _=>(ok_int hy.1 (by simp)).bind fun v hv=>Ok.guard hi (Ok.pure ⟨by simp,hv.1⟩)) fun _=>Ok.cond (fun _=>(ok_int hy.1 (by simp)).bind fun v hv=>Ok.guard hi (Ok.pure ⟨by simp,hv.1⟩)) fun _=>Ok.cond (fun _=>(ok_int hy.1 (by simp)).bind fun v hv=>Ok.guard hi (Ok.pure ⟨by simp,hv.1⟩)) fun _=>Ok.pure ⟨rfl,hy.1⟩) fun x hx=>Ok.pure hx
theorem gC(k:Nat)(hk:k≤100000)(n:Nat)(hn:PJ≤n){b:List Int}{i q:Int}(hcu:Cu b i)(a:List PH)(ha:a.length≤k)(hs:∀p∈a,p.2.2.length≤k):Ok (W5 n b i q a) fun x=>(x.1.length≤a.length+1∧∀p∈x.1,p.2.2.length≤k+1)∧Cu x.2.1 x.2.2.1:=by
 have hsm:PY a:=⟨by omega,fun y hy=>by show y.2.2.length≤_;grind⟩;unfold W5;rw[PR a hsm n hn,ABT];have TN:a.length≤a.length+1∧∀p∈a,p.2.2.length≤k+1:=⟨by omega,fun p hp=>by grind⟩;refine Ok.cond (fun _=>Ok.pure ⟨TN,hcu⟩) fun tj=>?_
 have h0:0<a.length:=by
  rcases Nat.eq_zero_or_pos a.length with e|e
  ·grind
  ·exact e
 refine(P7 hcu _).bind fun r hr=>?_;have yq:=hr.2.2 (by omega);have hi:=YA (xs:=a) ⟨hr.2.1,yq⟩;obtain⟨m,hm⟩:∃m:Nat,r.1=(m:Int):=⟨r.1.toNat,by omega⟩;have hml:m<a.length:=by clear hn;omega
 rw[hm]at hi ⊢;rw[ABX]
 have modK:∀(f:PH→PH),(∀p∈a,(f p).2.2.length≤k+1)→(a.modify m f).length≤a.length+1∧∀p∈a.modify m f,p.2.2.length≤k+1:=fun f hf=>by refine⟨by simp,fun p hp=>?_⟩;obtain⟨j,hj,rfl⟩:=ABY.1 hp;grind
 have row:∀p∈a,∀x:O8,decide (p.2.2.length+[x].length≤Dh)=true:=fun p hp x=>Rq (by grind);refine Ok.bind (P:=fun x=>(x.2.2.2.length≤a.length+1∧∀p∈x.2.2.2,p.2.2.length≤k+1)∧Cu x.1 x.2.1) ((P7 hr.1 6).bind fun y hy=>Ok.cond (fun _=>(ok_int hy.1 (by simp)).bind fun v hv=>Ok.guard hi (Ok.pure ⟨modK (fun y=>(v.1,y.2.1,y.2.2)) fun p hp=>TN.2 p hp,hv.1⟩)) fun _=>Ok.cond (fun _=>(ok_int hy.1 (by simp)).bind fun v hv=>Ok.guard hi (Ok.pure ⟨modK (fun y=>(y.1,v.1,y.2.2)) fun p hp=>TN.2 p hp,hv.1⟩)) fun _=>Ok.cond (fun _=>Ok.guard hi ?_) fun _=>Ok.cond (fun _=>Ok.guard (YA ⟨by omega,by omega⟩) ?_) fun _=>Ok.pure ⟨TN,hy.1⟩) fun x hx=>Ok.pure hx
 ·refine(Ok.get hml).bind fun p0 zj=>(ok_int hy.1 (by simp)).bind fun v hv=>(P7 hv.1 3).bind fun u hu=>(Ok.get hml).bind fun p hp=>?_;have hpm:p∈a:=AAN hp;refine Ok.guard (row p hpm (9,v.1,u.1)) (Ok.guard hi (Ok.pure ⟨modK _ fun p' _=>?_,hu.1⟩));grind
 ·rw[Int.toNat_zero];refine(Ok.get h0).bind fun p hp=>(Ok.get h0).bind fun p2 xg=>Ok.guard (Rq (by clear hn;omega)) (Ok.pure ⟨⟨by rw[AA2,ABb];exact AAd _,fun x hx=>?_⟩,hy.1⟩);grind
theorem ZW(a:List PZ)(ha:a.length≤1048576)(n:Nat)(hn:PJ≤n):Sl n a a=some true:=by
 have h1:=RT (SU a a) a (fun _=>true) (fun i x hi hx=>by
  obtain⟨_,rfl⟩:=AAH.1 hx;have hd:decide ((i:Int)<(a.length:Int))=true:=by rw[AAb];clear hn;omega
  simp only[SU,hd,ABU,PA hi,ABT,ABx,AB8,ABc,ABV,O9 hi (show a.length≤9223372036854775807 by clear hn;omega)]) (by simp[SU]) n (by unfold PJ at hn;omega)
 unfold Sl;grind
def QH(c:List Int)(k:Int):Nat→List Int
 |0=>[]
 |i+1=>bif c.getD i 0==k then QH c k i++[(i:Int)]else QH c k i
theorem Yq(c:List Int)(k:Int):∀i,(QH c k i).length≤i
 |0=>AAd _
 |i+1=>by have:=Yq c k i;unfold QH;grind
theorem WI{c:List Int}{k x:Int}:∀ {i},x∈QH c k i→∃j:Nat,x=(j:Int)∧j<i∧c.getD j 0=k
 |0,h=>by cases h
 |i+1,h=>by
  unfold QH at h;cases hb:(c.getD i 0==k)with
  |false=>
   rw[hb,ABV]at h;obtain⟨j,h1,h2,h3⟩:=WI h;grind
  |true=>
   rw[hb,ABU,AAy,AA8]at h;rcases h with h|h
   ·obtain⟨j,h1,h2,h3⟩:=WI h;exact⟨j,h1,by omega,h3⟩
   grind
theorem Zj(c:List Int)(k:Int):∀i,(QH c k i).Pairwise (· < ·)
 |0=>List.Pairwise.nil
 |i+1=>by
  have hp:=Zj c k i;unfold QH;cases hb:(c.getD i 0==k)with
  |false=>grind
  |true=>
   rw[ABU,ABj];refine⟨hp,List.pairwise_singleton _ _,fun x hx y hy=>?_⟩;obtain⟨j,h1,h2,_⟩:=WI hx;grind
theorem iK{c:List Int}{k:Int}{i:Nat}(hi:i<c.length):QH c k (i+1)=bif c[i]==k then QH c k i++[(i:Int)]else QH c k i:=by rw[QH,show c.getD i 0=c[i] by simp[hi]]
theorem U0(w h:Int)(c:List Int)(hl:c.length≤1048576)(hf:PV w h c=true)(k:Int)(n:Nat)(hn:PJ≤n):Rx n w h c k=some (QH c k c.length):=by
 have hs:=Pu w h c hl n hn
 have h1:iter n (R6 n w h c k) (([]:List Int),(0:Int))=some (QH c k c.length,(c.length:Int)):=Pn (R6 n w h c k) (fun i=>(QH c k i,(i:Int))) c.length (QH c k c.length,(c.length:Int)) (fun i hi=>by
  have hr:decide ((QH c k i).length+1≤Dh)=true:=Rq (by have:=Yq c k i;clear hn;omega);unfold R6;rw[hs,hf];dsimp only;rw[show decide ((i:Int)<(c.length:Int))=true by rw[AAb];clear hn;omega,iK hi];simp only[ABU,ABT,PA hi,O9 hi (show c.length≤9223372036854775807 by clear hn;omega),ABb,hr];grind) (by unfold R6;grind) n (by unfold PJ at hn;omega)
 unfold Rx;rw[h1];rfl
def Yn(w h:Int)(c:List Int)(a:List PH):Bool:=PV w h c&&Ps a&&(List.range a.length).all (Xa a)&&(List.range a.length).all (Yy c a)
def Pt(c:List Int):List Int:=QH c 4 c.length
theorem jR(k:Int):∀(l:List PH)(z:Int),(∀p∈l,0≤XI p.2.2 k∧XI p.2.2 k≤1000)→z≤(l.map fun p=>XI p.2.2 k).foldl (· + ·) z∧(l.map fun p=>XI p.2.2 k).foldl (· + ·) z≤z+1000*(l.length:Int)
 | [],z,_=>by simp
 |p::l,z,h=>by have h1:=h p AAe;have h2:=jR k l (z+XI p.2.2 k) fun q hq=>h q (AAJ _ hq);grind
theorem fZ(a:List PH)(k:Int):0≤Vm a k∧Vm a k≤12000:=by
 unfold Vm;cases h:Ps a with
 |false=>grind
 |true=>
  rw[ABU];obtain⟨h1,h2⟩:=gr h
  have:=jR k a 0 fun p hp=>by obtain⟨i,hi,rfl⟩:=ABY.1 hp;exact dU (h2 i hi) k
  omega
theorem aZ(a:List PH):∀m,m≤50→∀j,j≤50→(RS a m)[j]?=some (bif decide (1≤j)&&decide (j≤m)then Vm a (j:Int)else 0)
 |0,_,j,hj=>by
  have:(decide (1≤j)&&decide (j≤0))=false:=by rw[ACD,AAf,AAf];omega
  rw[this,ABV];show(List.replicate 51 (0:Int))[j]?=some 0;grind
 |m+1,hm,j,hj=>by have hi:=aZ a m (by omega) j hj;show((RS a m).set (m+1) (Vm a ((m+1:Nat):Int)))[j]?=_;grind
theorem bL(ds:List Int):∀m i,i<m→(Rt ds m)[i]?=some (((i+1:Nat):Int),ds.getD i 0, -1,false,0)
 |0,i,h=>by omega
 |m+1,i,h=>by
  rw[Rt,List.getElem?_append,Tx];by_cases hi:i<m
  ·rw[AAK hi];exact bL ds m i hi
  grind
theorem XJ{ds:List Int}{m i:Nat}(h:i<(Rt ds m).length):(Rt ds m)[i]=(((i+1:Nat):Int),ds.getD i 0, -1,false,0):=by have:=bL ds m i (by rw[Tx]at h;exact h);grind
theorem fh{c:List Int}{i:Nat}(hi:i<(Pt c).length):QJ c ((Pt c).getD i 0)=true:=by rw[show(Pt c).getD i 0=(Pt c)[i] by simp[hi]];obtain⟨j,h1,h2,h3⟩:=WI (ABW hi);rw[h1];unfold QJ P1;grind
theorem lr(c:List Int):CW c (Rt (Pt c) (min (Pt c).length 20)):=by
 have key:∀r∈Rt (Pt c) (min (Pt c).length 20),∃i:Nat,i<(Pt c).length∧i<20∧r=(((i+1:Nat):Int),(Pt c).getD i 0, -1,false,0):=by intro r hr;obtain⟨i,hi,rfl⟩:=ABY.1 hr;have hi2:=hi;rw[Tx]at hi2;exact⟨i,by omega,by omega,XJ hi⟩
 have hpw:=Zj c 4 c.length;refine⟨by rw[Tx];omega,fun r hr=>?_,fun r hr=>?_,fun r hr=>?_,fun r hr=>?_,?_,?_⟩
 ·grind
 ·obtain⟨i,h1,h2,rfl⟩:=key r hr;exact fh h1
 ·grind
 ·grind
 ·refine ABQ.2 fun i j hi hj xM=>?_;rw[XJ hi,XJ hj];omega
 ·refine ABQ.2 fun i j hi hj xM=>?_;have hi2:=hi;have hj2:=hj;rw[Tx]at hi2 hj2;have hdi:i<(Pt c).length:=by omega
  have hdj:j<(Pt c).length:=by omega
  rw[XJ hi,XJ hj];show(Pt c).getD i 0≠(Pt c).getD j 0;have:(Pt c)[i]<(Pt c)[j]:=ABQ.1 hpw i j hdi hdj xM;grind
theorem aV{w h:Int}{c:List Int}{a:List PH}(uU:Yn w h c a=true):PV w h c=true∧Ps a=true∧(∀p∈a,∀s∈p.2.2,s.2.2≤0)∧∀p∈a,P1 p.2.1 0 ((c.length:Int)-1)=true∧c.getD p.2.1.toNat 0=2:=by
 unfold Yn at uU;simp only[AAG,AAU,AAR]at uU;obtain⟨⟨⟨h1,h2⟩,h3⟩,h4⟩:=uU;refine⟨h1,h2,fun p hp s hs=>?_,fun p hp=>?_⟩
 ·obtain⟨i,hi,rfl⟩:=ABY.1 hp;obtain⟨k,hk,rfl⟩:=ABY.1 hs;have:=h3 i hi;unfold Xa at this;rw[AAF hi]at this;have:=AAU.1 this k (AAR.2 hk);grind
 ·obtain⟨i,hi,rfl⟩:=ABY.1 hp;have:=h4 i hi;unfold Yy at this;grind
theorem fN(a:List PH){j:Nat}(hj:j≤50):(RS a 50)[j]?=some (bif decide (1≤j)then Vm a (j:Int)else 0):=by rw[aZ a 50 (by omega) j hj,ABZ (show j≤50 from hj),ACE]
theorem ZV(a:List PH)(ha:PY a)(n:Nat)(hn:PJ≤n):Sk n a a=some true:=by
 have hl:a.length≤1048576:=ha.1
 have h1:=RT (SR n a a) a (fun _=>true) (fun i x hi hx=>by
  obtain⟨_,rfl⟩:=AAH.1 hx;have wC:a[i].2.2.length≤1048576:=ha.2 _ (ABW hi)
  have h2:=RT (SS a[i] a[i]) a[i].2.2 (fun _=>true) (fun j y hj hy=>by
   obtain⟨_,rfl⟩:=AAH.1 hy;have hd:decide ((j:Int)<(a[i].2.2.length:Int))=true:=by rw[AAb];clear hn;omega
   simp only[SS,hd,ABU,PA hj,ABT,ABx,AB8,ABc,ABV,O9 hj (show a[i].2.2.length≤9223372036854775807 by clear hn;omega)]) (by simp[SS]) n (by unfold PJ at hn;omega)
  have uZ:a[i].2.2.all (fun _=>true)=true:=by simp
  rw[uZ,ABU]at h2;have hd:decide ((i:Int)<(a.length:Int))=true:=by rw[AAb];clear hn;omega
  simp only[SR,hd,ABU,PA hi,ABT,bne_self_eq_false,ABV,h2,O9 hi (show a.length≤9223372036854775807 by clear hn;omega)]) (by simp[SR]) n (by unfold PJ at hn;omega)
 unfold Sk;grind
structure mM(nx:Int)(l:List Pk):Prop where
 sm:QX (nx,l)
 len:l.length≤29
 Qj:dW l
 aU:Vi nx l→∀o∈l,o.2.2.2.1.length≤72
theorem mM.both{nx:Int}{l:List Pk}(h:mM nx l)(n:Nat)(hn:PJ≤n):∃b,Qf n nx l=some b∧Qc n nx l=some b∧(b=true↔Vi nx l):=by
 obtain⟨b1,e1,i1⟩:=Xv h.sm h.Qj n hn;obtain⟨b2,e2,i2⟩:=Ve h.sm n hn
 have:b1=b2:=by rw[AB3,i1,i2];exact⟨fun q=>q.1,fun q=>⟨q,h.aU q⟩⟩
 grind
theorem ca(n:Nat)(hn:PJ≤n){b:List Int}{i q:Int}(hcu:Cu b i):Ok (Tu n b i q) fun x=>x.1.length≤7∧Cu x.2.1 x.2.2.1:=by obtain⟨l,i',h',e,hi,hl⟩:=gE n hn b hcu.1 i q hcu.2;have h6:=hl.2.2;unfold Tu;rw[e,ABT];dsimp only;refine Ok.bind (P:=fun z=>z.1.length≤7∧Cu z.2.1 z.2.2.1) ((P7 (b:=b) (i:=i') ⟨hcu.1,hi⟩ 10).bind fun r hr=>Ok.cond (fun _=>(ok_int hr.1 (by simp)).bind fun v hv=>(ok_int hv.1 (by simp)).bind fun w hw=>Ok.guard (Rq (by omega)) (Ok.pure ⟨by grind,hw.1⟩)) fun _=>Ok.pure ⟨by grind,hr.1⟩) fun z hz=>Ok.pure hz
abbrev rM:=(List PH)×Int×(List Pk)×Int
structure aN(s:List PH)(nx:Int)(l:List Pk)(desk:Int)(it:List Pa)(o:List O8):Prop where
 st:PN s
 im:Vj it
 ne:0<it.length
 dk:0≤desk∧desk≤99
 bk:Vi nx l
 lt:nx<1000000
 fit:Fits s o
 pg:PG o it
 aU:o.length≤72
def jK(s:List PH)(nx:Int)(l:List Pk)(desk:Int)(it:List Pa)(o:List O8):rM:=(PX s (tp o),nx+1,l++[(nx,desk,it,o,1)],nx)
def oR(s:List PH)(nx:Int)(l:List Pk)(desk:Int)(it:List Pa)(r:rM):Prop:=r=(s,nx,l,0)∨∃o,aN s nx l desk it o∧r=jK s nx l desk it o
theorem Z4(s:List PH)(hs:PY s){nx:Int}{l:List Pk}(hq:mM nx l)(desk:Int)(it:List Pa)(xw:it.length≤1000)(n:Nat)(hn:PJ≤n)(b:Bool)(eb:Qf n nx l=some b)(o:List O8)(pb:Bool)(ep:Sp n s it=some (o,pb)):
  Sn n s nx l desk it=some (bif Ps s&&b&&P1 desk 0 99 && !((it.length:Int)==0) && !(nx==1000000)&&pb then((Qu VS s o).1,PD (nx+1),l++[(nx,desk,it,o,1)],nx)else(s,nx,l,0))∨1048576<o.length:=by
 by_cases ho:1048576<o.length
 ·exact .inr ho
 left;have h29:=hq.len;unfold Sn;rw[R8 nx l hq.sm n hn,ABT,Pv s hs n hn,eb];simp only[ABT,QW,PR s hs n hn,ep];rw[show((l.length:Int)==30)=false by rw[ABa];clear hn;omega];have h1:decide (([]:List Pa).length+it.length≤Dh)=true:=Uz (by grind);have h2:decide (l.length+1≤Dh)=true:=Rq (by omega);cases Ps s with
 |false=>rfl
 |true=>
 cases b with
 |false=>rfl
 |true=>
 cases P1 desk 0 99 with
 |false=>rfl
 |true=>
 cases((it.length:Int)==0)with
 |true=>rfl
 |false=>
 cases(nx==1000000)with
 |true=>rfl
 |false=>
 cases pb with
 |false=>rfl
 |true=>
  simp only[ABc,ABm,ABV,ABU,ABT,AB8,ABb,h1,h2,AA4];rw[Z8 s hs o (by omega) n hn];rfl
theorem Zq(s:List PH)(hs:PY s){nx:Int}{l:List Pk}(hq:mM nx l)(desk:Int)(it:List Pa)(xw:it.length≤1000)(n:Nat)(hn:PJ≤n)(b:Bool)(eb:Qc n nx l=some b)(o:List O8)(ho:o.length≤1048576)(pb:Bool)(ep:Sf n s it=some (o,pb)):
  Sc n s nx l desk it=some (bif Ps s&&b&&P1 desk 0 99 && !((it.length:Int)==0)&&Uu it && !(decide (nx≥1000000))&&(pb&&(Qu VS s o).2)then((Qu VS s o).1,PD (nx+1),l++[(nx,desk,it,o,1)],nx)else(s,nx,l,0)):=by
 have h29:=hq.len;unfold Sc;rw[Qh s hs n hn,eb];simp only[ABT,Vk,QW,Pd s hs n hn,RV nx l hq.sm n hn,ep,XN s hs o ho n hn,RU it (show it.length≤1048576 by omega) n hn];rw[show decide ((l.length:Int)≥30)=false by rw[AAf];clear hn;omega];have h1:decide (it.length≤Dh)=true:=Uz (by omega);have h2:decide (l.length+1≤Dh)=true:=Rq (by omega);unfold QK;simp only[h1,ABb,h2,ABU,ABT];cases Ps s with
 |false=>rfl
 |true=>
 grind
theorem eC(s:List PH)(hs:PY s){nx:Int}{l:List Pk}(hq:mM nx l)(desk:Int)(it:List Pa)(xw:it.length≤1000)(n:Nat)(hn:PJ≤n):∃r,Sn n s nx l desk it=some r∧Sc n s nx l desk it=some r∧oR s nx l desk it r:=by
 obtain⟨b,eb1,eb2,hb⟩:=hq.both n hn;obtain⟨o,pb,ep1,ep2,hp1,xg⟩:=iG s hs it (by omega) n hn
 have ho:o.length≤72:=by
  cases pb with
  |true=>grind
  |false=>grind
 have e1:=(Z4 s hs hq desk it xw n hn b eb1 o pb ep1).resolve_right (by omega);have e2:=Zq s hs hq desk it xw n hn b eb2 o (by omega) pb ep2;cases pb with
 |false=>
  refine⟨(s,nx,l,0),?_,?_,.inl rfl⟩
  all_goals grind
 |true=>
  obtain⟨hS,hI,hpg,hft,_⟩:=hp1 rfl;have hH:=YT hS hft;rw[hH.1]at e1 e2;rw[Uv.2 hI]at e2;by_cases hB:Vi nx l
  ·have hnx:=hB.1;rw[hb.2 hB]at e1 e2
   have tj:(!(nx==1000000)) = !(decide (nx≥1000000)):=by
    by_cases h:nx=1000000
    ·rw[h];rfl
    ·grind
   rw[tj]at e1;by_cases uU:(P1 desk 0 99 && !((it.length:Int)==0) && !(decide (nx≥1000000)))=true
   ·have hfull:(Ps s&&true&&P1 desk 0 99 && !((it.length:Int)==0) && !(decide (nx≥1000000))&&true)=true:=by rw[Pp.2 hS];simp only[ACE,ABp];exact uU
    have hfull2:(Ps s&&true&&P1 desk 0 99 && !((it.length:Int)==0)&&true && !(decide (nx≥1000000))&&(true&&true))=true:=by rw[Pp.2 hS];simp only[ACE,ABp];exact uU
    rw[hfull,ABU]at e1;dsimp only at e2;rw[hfull2,ABU]at e2;simp only[AAG,AAT,ABa,AAf]at uU
    have hdk:0≤desk∧desk≤99:=by have:=uU.1.1;unfold P1 at this;simp only[AAG,AAb]at this;exact this
    have hw:PD (nx+1)=nx+1:=PF (by omega) (by omega);rw[hw]at e1 e2;exact⟨_,e1,e2,.inr ⟨o,⟨hS,hI,by omega,hdk,hB,by omega,hft,hpg,ho⟩,rfl⟩⟩
   ·have xN:(Ps s&&true&&P1 desk 0 99 && !((it.length:Int)==0) && !(decide (nx≥1000000))&&true)=false:=by rw[←ABr,Pp.2 hS];simp only[ACE,ABp];exact uU
    have hno2:(Ps s&&true&&P1 desk 0 99 && !((it.length:Int)==0)&&true && !(decide (nx≥1000000))&&(true&&true))=false:=by rw[←ABr,Pp.2 hS];simp only[ACE,ABp];exact uU
    rw[xN,ABV]at e1;dsimp only at e2;rw[hno2,ABV]at e2;exact⟨_,e1,e2,.inl rfl⟩
  ·have hbf:b=false:=by
    cases b with
    |true=>grind
    |false=>rfl
   rw[hbf,Bool.and_false,ABu,ABu,ABu,ABu,ABV]at e1;rw[hbf,Bool.and_false,ABu,ABu,ABu,ABu,ABu,ABV]at e2;exact⟨_,e1,e2,.inl rfl⟩
theorem al{nx:Int}{l:List Pk}(h:QX (nx,l))(hp:l.Pairwise fun a b=>a.1<b.1){i:Nat}(hi:i<l.length){b:Bool}(n:Nat)(hn:PJ≤n)(eb:Qc n nx l=some b)(st:Int):
  Wp n nx l l[i].1 st=some (bif b&&l[i].2.2.2.2==1 then(nx,l.modify i fun y=>(y.1,y.2.1,y.2.2.1,y.2.2.2.1,st),true)else(nx,l,false)):=by
 unfold Wp;rw[RV nx l h n hn,ABT,Ws nx l h.1 hp i hi n hn,ABT,eb];simp only[ABT,PE hi,ABX,PA hi,bne];grind
theorem aN.book{s:List PH}{nx:Int}{l:List Pk}{desk:Int}{it:List Pa}{o:List O8}(h:aN s nx l desk it o)(h29:l.length≤29):Vi (nx+1) (l++[(nx,desk,it,o,1)]):=by
 have hb:=h.bk;have tX:=h.lt;refine⟨⟨by have:=hb.1;omega,by omega⟩,by grind,?_,fun q hq=>?_⟩
 ·refine ABj.2 ⟨hb.2.2.1,List.pairwise_singleton _ _,fun x hx y hy=>?_⟩;rw[AA8.1 hy];have:=(hb.2.2.2 x hx).1;omega
 ·rcases AAy.1 hq with hq|hq
  ·obtain⟨⟨q1,q2⟩,q3⟩:=hb.2.2.2 q hq;exact⟨⟨q1,by omega⟩,q3⟩
  ·rw[AA8.1 hq];exact⟨⟨by show 1≤nx;have:=hb.1;omega,by omega⟩,h.dk,⟨h.im,h.ne⟩,h.pg,⟨by grind,by grind⟩⟩
theorem fL{nx m:Int}{l:List Pk}(h:QX (nx,l))(hl:l.length≤1000)(x:Pk)(hi:x.2.2.1.length≤1000)(hp:x.2.2.2.1.length≤1000):QX (m,l++[x]):=by
 refine⟨by grind,fun o ho=>?_⟩;rcases AAy.1 ho with ho|ho
 ·exact h.2 o ho
 ·rw[AA8.1 ho];exact⟨by show x.2.2.1.length≤_;omega,by show x.2.2.2.1.length≤_;omega⟩
def P0(l:List Pk)(id:Int):Option Pk:=l.find? fun o=>o.1==id
def TO(crew:List Pf)(id:Int):Option Pf:=crew.find? fun r=>r.1==id
def TJ(a:List PH)(l:List Pk)(t:PZ):Int:=if t.2.2.2=3 then(match P0 l t.1 with|some o=>o.2.1|none=>0)else(match XQ a t.2.1 with|some p=>p.2.1|none=>0)
structure Sa(a:List PH)(l:List Pk)(crew:List Pf)(t:PZ):Prop where
 ord:∃o,P0 l t.1=some o∧o.2.2.2.2=1∧∃p∈o.2.2.2.1,p.1=t.2.1
 PU:∃q,XQ a t.2.1=some q
 cP:t.2.2.2≠1→∃r,TO crew t.2.2.1=some r∧r.2.2.1=TJ a l t∧r.2.2.2.1=decide (2<t.2.2.2)
structure DI(w h:Int)(c:List Int)(a:List PH)(nx:Int)(l:List Pk)(crew:List Pf)(ts:List PZ):Prop where
 fl:PV w h c=true
 st:PN a
 hm:∀p∈a,QJ c p.2.1=true
 bk:Vi nx l
 KN:dW l
 aU:∀o∈l,o.2.2.2.1.length≤72
 dk:∀o∈l,QJ c o.2.1=true
 cw:CW c crew
 XB:TP ts
 tk:∀t∈ts,Sa a l crew t
def WH(a b:List PH):Prop:=∀id,(XQ b id).map (·.2.1)=(XQ a id).map (·.2.1)
theorem WH.goal{a b:List PH}(h:WH a b){l k:List Pk}{t:PZ}(ho:P0 k t.1=P0 l t.1):TJ b k t=TJ a l t:=by
 unfold TJ;rw[ho];split
 ·rfl
 ·have:=h t.2.1;grind
theorem Sa.same{a b:List PH}(h:WH a b){l k:List Pk}{crew:List Pf}{t:PZ}(ho:P0 k t.1=P0 l t.1)(ht:Sa a l crew t):Sa b k crew t:=by
 refine⟨by rw[ho];exact ht.ord,?_,fun e=>?_⟩
 ·obtain⟨q,hq⟩:=ht.PU;have:=h t.2.1;rw[hq]at this;cases e1:XQ b t.2.1 with
  |none=>grind
  |some q2=>grind
 ·rw[h.goal ho];exact ht.cP e
theorem fH(a:List PH)(f:Int→Int→Int):WH a (PX a f):=by intro id;unfold XQ PX;rw[ACH,Option.map_map];rfl
theorem dR{l:List Pk}{id:Int}{o:Pk}(h:P0 l id=some o)(x:Pk):P0 (l++[x]) id=P0 l id:=by unfold P0 at h ⊢;grind
theorem Y4{l:List Pk}{x:Pk}(h:∀o∈l,o.1<x.1):P0 (l++[x]) x.1=some x:=by unfold P0;grind
theorem P6{l:List Pk}{id:Int}{o:Pk}(h:P0 l id=some o):o∈l∧o.1=id:=⟨ABk h,by simpa using List.find?_some h⟩
theorem S6{a:List PH}{id:Int}{p:PH}(h:XQ a id=some p):p∈a∧p.1=id:=⟨ABk h,by simpa using List.find?_some h⟩
theorem WW{a:List PH}{id:Int}(h:∃p∈a,p.1=id):∃q,XQ a id=some q:=by
 obtain⟨p,hp,e⟩:=h;unfold XQ;cases hq:a.find? fun p=>p.1==id with
 |some q=>grind
 |none=>
  grind
theorem dp:∀(ps:List O8)(s:List Int),s.Nodup→(ps.foldl VT s).Nodup∧∀x,x∈ps.foldl VT s↔x∈s∨∃p∈ps,p.1=x
 | [],s,hs=>⟨hs,fun x=>by simp⟩
 |p::ps,s,hs=>by
  have hn:(VT s p).Nodup∧∀x,x∈VT s p↔x∈s∨p.1=x:=by
   unfold VT;cases ha:s.any fun y=>y==p.1 with
   |true=>
    rw[ABU];obtain⟨y,hy,e⟩:=AA6.1 ha;have e:=AAS.1 e
    exact⟨hs,fun x=>⟨fun h=>.inl h,fun h=>by
     rcases h with h|h
     ·exact h
     ·rw[←h,←e];exact hy⟩⟩
   |false=>
    rw[ABV]
    have xN:p.1∉s:=fun hm=>by rw[←ABr]at ha;exact ha (AA6.2 ⟨p.1,hm,ABx _⟩)
    refine⟨AAV.2 ⟨hs,(by simp),fun x hx y hy e=>?_⟩,fun x=>?_⟩
    ·rw[AA8.1 hy]at e;exact xN (e▸hx)
    ·rw[AAy,AA8];exact⟨fun h=>h.imp id fun e=>e.symm,fun h=>h.imp id fun e=>e.symm⟩
  obtain⟨i1,i2⟩:=dp ps (VT s p) hn.1;grind
theorem VU{ps:List O8}{x:Int}:x∈Qj ps↔∃p∈ps,p.1=x:=by have:=(dp ps [] AAL).2 x;unfold Qj;grind
theorem br(ps:List O8):(Qj ps).Nodup:=(dp ps [] AAL).1
theorem QS{l:List PZ}:TP l↔l.length≤60∧(∀x∈l,Pz x=true)∧l.Pairwise fun u x=>Pj x u=false:=by
 constructor
 ·intro h
  exact⟨h.len,fun x hx=>by
   obtain⟨i,hi,rfl⟩:=ABY.1 hx;exact h.lz i hi,ABQ.2 fun i j hi hj xM=>h.apart j i hj xM⟩
 ·rintro ⟨h1,h2,h3⟩
  exact⟨h1,fun i hi=>h2 _ (ABW hi),fun i j hi hj=>ABQ.1 h3 j i (by omega) hi hj⟩
theorem XY{x u:PZ}(hx:x.2.2.2=1)(h:x.1≠u.1∨x.2.1≠u.2.1):Pj x u=false:=by unfold Pj;grind
theorem DI.take{w h:Int}{c:List Int}{a:List PH}{nx:Int}{l:List Pk}{crew:List Pf}{ts:List PZ}(d:DI w h c a nx l crew ts){desk:Int}{it:List Pa}{o:List O8}(T:aN a nx l desk it o)(hdk:QJ c desk=true)(h29:l.length≤29)(hlen:ts.length+(Qj o).length≤60):
  DI w h c (PX a (tp o)) (nx+1) (l++[(nx,desk,it,o,1)]) crew (ts++(Qj o).map fun x=>(nx,x,(0:Int),(1:Int))):=by
 have hnx:=T.bk.1;have tX:=T.lt;have hids:∀y∈l,y.1<nx:=fun y hy=>by have:=(T.bk.2.2.2 y hy).1;omega
 have hpo:∀p∈o,1≤p.1∧p.1≤999:=fun p hp=>by obtain⟨_,_,i,hi,e⟩:=T.fit.each p hp;have:=(T.st.2.2 _ (ABW hi)).1;omega
 refine {fl:=d.fl,st:=(YT T.st T.fit).2,hm:=fun p hp=>?_,bk:=T.book h29,KN:=fun q hq=>?_,aU:=fun q hq=>?_,dk:=fun q hq=>?_,cw:=d.cw,XB:=?_,tk:=fun t ht=>?_ }
 ·unfold PX at hp;obtain⟨q,hq,rfl⟩:=AAs.1 hp;exact d.hm q hq
 ·rcases AAy.1 hq with hq|hq
  ·exact d.KN q hq
  grind
 ·rcases AAy.1 hq with hq|hq
  ·exact d.aU q hq
  ·rw[AA8.1 hq];exact T.aU
 ·rcases AAy.1 hq with hq|hq
  ·exact d.dk q hq
  grind
 ·obtain⟨t1,t2,t3⟩:=QS.1 d.XB;refine QS.2 ⟨by grind,fun x hx=>?_,ABj.2 ⟨t3,?_,fun u hu x hx=>?_⟩⟩
  ·rcases AAy.1 hx with hx|hx
   ·exact t2 x hx
   ·obtain⟨y,hy,rfl⟩:=AAs.1 hx;obtain⟨p,hp,e⟩:=VU.1 hy;have:=hpo p hp;rw[e]at this;unfold Pz;grind
  ·rw[ABh];exact(br o).imp fun {x y} tj=>XY rfl (.inr fun e=>tj e.symm)
  ·obtain⟨y,hy,rfl⟩:=AAs.1 hx;refine XY rfl (.inl ?_);obtain⟨oo,ho,_⟩:=(d.tk u hu).ord;obtain⟨hm,e⟩:=P6 ho;grind
 ·rcases AAy.1 ht with ht|ht
  ·have hd:=d.tk t ht;obtain⟨oo,ho,_⟩:=hd.ord;exact hd.same (fH a (tp o)) (dR ho _)
  ·obtain⟨y,hy,rfl⟩:=AAs.1 ht;obtain⟨p,hp,e⟩:=VU.1 hy;refine⟨⟨_,Y4 (x:=(nx,desk,it,o,1)) hids,rfl,p,hp,e⟩,?_,fun e=>(e rfl).elim⟩;obtain⟨_,_,i,hi,e2⟩:=T.fit.each p hp;refine WW ⟨fR (tp o) a[i],?_,e2.trans e⟩;unfold PX;grind
def WD(crew:List Pf)(id:Int)(f:Pf→Pf):List Pf:=crew.map fun r=>bif r.1==id then f r else r
theorem cO(crew:List Pf)(id:Int)(f:Pf→Pf):(WD crew id f).length=crew.length:=by unfold WD;grind
theorem Pw{crew:List Pf}{id:Int}{r:Pf}(h:TO crew id=some r):r∈crew∧r.1=id:=⟨ABk h,by simpa using List.find?_some h⟩
theorem fG{crew:List Pf}(h:crew.Pairwise fun r s=>r.1<s.1){r s:Pf}(hr:r∈crew)(hs:s∈crew)(e:r.1=s.1):r=s:=by
 obtain⟨i,hi,rfl⟩:=ABY.1 hr;obtain⟨j,hj,rfl⟩:=ABY.1 hs;rcases ABg i j with hl|hl|hl
 ·have:=ABQ.1 h i j hi hj hl;omega
 ·subst hl;rfl
 ·have:=ABQ.1 h j i hj hi hl;omega
theorem Z2{crew:List Pf}{id:Int}{f:Pf→Pf}(hf:∀r,(f r).1=r.1)(k:Int):TO (WD crew id f) k=(TO crew k).map fun r=>bif r.1==id then f r else r:=by
 unfold TO WD;rw[ACH]
 have:((fun r:Pf=>r.1==k) ∘ fun r:Pf=>bif r.1==id then f r else r)=fun r:Pf=>r.1==k:=funext fun r=>by grind
 rw[this]
theorem CW.Cb{c:List Int}{crew:List Pf}(h:CW c crew){id:Int}{f:Pf→Pf}(hf:∀r,(f r).1=r.1∧(f r).2.1=r.2.1)(hg:∀r∈crew,r.1=id→((f r).2.2.1 = -1∨QJ c (f r).2.2.1=true)∧0≤(f r).2.2.2.2∧(f r).2.2.2.2≤1000000):CW c (WD crew id f):=by
 have key:∀r,(bif r.1==id then f r else r:Pf).1=r.1∧(bif r.1==id then f r else r:Pf).2.1=r.2.1:=fun r=>by grind
 have mem:∀s∈WD crew id f,∃r∈crew,s=(bif r.1==id then f r else r:Pf):=fun s hs=>by unfold WD at hs;obtain⟨r,hr,e⟩:=AAs.1 hs;grind
 refine⟨by rw[cO];exact h.Zx,fun s hs=>?_,fun s hs=>?_,fun s hs=>?_,fun s hs=>?_,?_,?_⟩
 ·obtain⟨r,hr,rfl⟩:=mem s hs;rw[(key r).1];exact h.mP r hr
 ·obtain⟨r,hr,rfl⟩:=mem s hs;rw[(key r).2];exact h.jH r hr
 ·obtain⟨r,hr,rfl⟩:=mem s hs;by_cases e:r.1=id
  ·grind
  ·rw[show(r.1==id)=false from ABa.2 e];exact h.goal r hr
 ·obtain⟨r,hr,rfl⟩:=mem s hs;by_cases e:r.1=id
  ·grind
  ·rw[show(r.1==id)=false from ABa.2 e];exact h.lh r hr
 ·unfold WD;rw[ABh];exact h.ids.imp fun {r s} hrs=>by grind
 ·unfold WD;rw[ABh];exact h.cQ.imp fun {r s} hrs=>by grind
theorem dF{x u:PZ}(h:Pj x u=false)(hx:x.2.2.2≠1):x.2.2.1≠u.2.2.1:=fun e=>by unfold Pj at h;grind
theorem aP{t:PZ}{s:Int}(ht:t.2.2.2≠1)(hs:s≠1)(u:PZ):Pj (t.1,t.2.1,t.2.2.1,s) u=Pj t u∧Pj u (t.1,t.2.1,t.2.2.1,s)=Pj u t:=by unfold Pj;grind
theorem fj{t:PZ}{s:Int}(h:Pz t=true)(ht:t.2.2.2≠1)(hs:2≤s∧s≤4):Pz (t.1,t.2.1,t.2.2.1,s)=true:=by unfold Pz at h ⊢;grind
theorem TP.lU{x y:List PZ}{t:PZ}(h:TP (x++t::y))(ht:t.2.2.2≠1){s:Int}(hs:2≤s∧s≤4):TP (x++(t.1,t.2.1,t.2.2.1,s)::y):=by
 obtain⟨t1,t2,t3⟩:=QS.1 h;obtain⟨p1,p2,p3⟩:=ABj.1 t3;obtain⟨p4,p5⟩:=ABl.1 p2;have w4:s≠1:=by omega
 refine QS.2 ⟨by grind,fun u hu=>?_,ABj.2 ⟨p1,ABl.2 ⟨fun u hu=>?_,p5⟩,fun u hu v hv=>?_⟩⟩
 ·rcases AAy.1 hu with hu|hu
  ·grind
  ·rcases AAZ.1 hu with rfl|hu
   ·exact fj (t2 t (AAO _ AAe)) ht hs
   grind
 ·rw[(aP ht w4 u).2];exact p4 u hu
 ·rcases AAZ.1 hv with rfl|hv
  ·rw[(aP ht w4 u).1];exact p3 u hu t AAe
  grind
theorem TP.sub{x y:List PZ}(h:TP y)(hs:x.Sublist y):TP x:=by obtain⟨t1,t2,t3⟩:=QS.1 h;exact QS.2 ⟨AAw hs.length_le t1,fun u hu=>t2 u (hs.subset hu),t3.sublist hs⟩
theorem TP.two{x y:List PZ}{t:PZ}(h:TP (x++t::y))(ht:t.2.2.2≠1){u:PZ}(hu:u∈x∨u∈y)(hu1:u.2.2.2≠1):u.2.2.1≠t.2.2.1:=by
 obtain⟨_,_,t3⟩:=QS.1 h;obtain⟨p1,p2,p3⟩:=ABj.1 t3;obtain⟨p4,p5⟩:=ABl.1 p2;rcases hu with hu|hu
 ·exact fun e=>dF (p3 u hu t AAe) ht e.symm
 ·exact dF (p4 u hu) hu1
theorem Sa.other{a b:List PH}(hsp:WH a b){l:List Pk}{crew:List Pf}{u:PZ}(h:Sa a l crew u){id:Int}{f:Pf→Pf}(hf:∀r,(f r).1=r.1)(tj:u.2.2.2≠1→u.2.2.1≠id):Sa b l (WD crew id f) u:=by have h2:=h.same hsp (k:=l) rfl;refine⟨h2.ord,h2.PU,fun e=>?_⟩;obtain⟨r,q1,q2⟩:=h2.cP e;refine⟨r,?_,q2⟩;rw[Z2 hf,q1,AA9,show(r.1==id)=false from ABa.2 fun e2=>tj e ((Pw q1).2.symm.trans e2),ABV]
theorem DI.jX{w h:Int}{c:List Int}{a:List PH}{nx:Int}{l:List Pk}{crew:List Pf}{x y:List PZ}{t:PZ}(d:DI w h c a nx l crew (x++t::y))(ht:t.2.2.2≠1){b:List PH}(hb:PN b)(hsp:WH a b)(hbm:∀p∈b,QJ c p.2.1=true){s:Int}(hs:2≤s∧s≤4){f:Pf→Pf}(hf:∀r,(f r).1=r.1∧(f r).2.1=r.2.1)
  (um:∀r,TO crew t.2.2.1=some r→(f r).2.2.1=TJ b l (t.1,t.2.1,t.2.2.1,s)∧(f r).2.2.2.1=decide (2<s)∧0≤(f r).2.2.2.2∧(f r).2.2.2.2≤1000000):DI w h c b nx l (WD crew t.2.2.1 f) (x++(t.1,t.2.1,t.2.2.1,s)::y):=by
 have hT:=d.tk t (AAO _ AAe);obtain⟨o,ho,v7,wL⟩:=hT.ord;obtain⟨r0,hr0,_,_⟩:=hT.cP ht;obtain⟨q,hq⟩:=(hT.same hsp (k:=l) rfl).PU
 have hgoal:QJ c (TJ b l (t.1,t.2.1,t.2.2.1,s))=true:=by
  unfold TJ;dsimp only;split
  ·rw[ho];exact d.dk o (P6 ho).1
  ·rw[hq];exact hbm q (S6 hq).1
 refine {fl:=d.fl,st:=hb,hm:=hbm,bk:=d.bk,KN:=d.KN,aU:=d.aU,dk:=d.dk,cw:=d.cw.Cb hf fun r hr e=>?_,XB:=d.XB.lU ht hs,tk:=fun u hu=>?_ }
 ·have xH:r=r0:=fG d.cw.ids hr (Pw hr0).1 (e.trans (Pw hr0).2.symm);grind
 ·have xe:∀u,u∈x∨u∈y→Sa b l (WD crew t.2.2.1 f) u:=fun u hu=>(d.tk u (by
   grind)).other hsp (fun r=>(hf r).1) fun e=>d.XB.two ht hu e
  rcases AAy.1 hu with hu|hu
  ·grind
  ·rcases AAZ.1 hu with rfl|hu
   ·refine⟨⟨o,ho,v7,wL⟩,⟨q,hq⟩,fun _=>⟨f r0,?_,(um r0 hr0).1,(um r0 hr0).2.1⟩⟩;rw[Z2 fun r=>(hf r).1];show(TO crew t.2.2.1).map _=_;rw[hr0,AA9,show(r0.1==t.2.2.1)=true from AAS.2 (Pw hr0).2,ABU]
   grind
theorem DI.gone{w h:Int}{c:List Int}{a:List PH}{nx:Int}{l:List Pk}{crew:List Pf}{x y:List PZ}{t:PZ}(d:DI w h c a nx l crew (x++t::y))(ht:t.2.2.2≠1){f:Pf→Pf}(hf:∀r,(f r).1=r.1∧(f r).2.1=r.2.1)(um:∀r,(f r).2.2.1 = -1∧0≤(f r).2.2.2.2∧(f r).2.2.2.2≤1000000):DI w h c a nx l (WD crew t.2.2.1 f) (x++y):=by
 refine {fl:=d.fl,st:=d.st,hm:=d.hm,bk:=d.bk,KN:=d.KN,aU:=d.aU,dk:=d.dk,cw:=d.cw.Cb hf fun r hr e=>⟨.inl (um r).1,(um r).2⟩,XB:=d.XB.sub ((List.Sublist.refl x).append (List.sublist_cons_self t y)),tk:=fun u hu=>?_ };have hu2:=AAy.1 hu
 exact(d.tk u (by
  grind)).other (fun _=>rfl) (fun r=>(hf r).1) fun e=>d.XB.two ht hu2 e
def Qx(l:List Pk)(id st:Int):List Pk:=l.map fun o=>bif o.1==id then(o.1,o.2.1,o.2.2.1,o.2.2.2.1,st)else o
theorem bp(l:List Pk)(id st k:Int)(hk:k≠id):P0 (Qx l id st) k=P0 l k:=by
 unfold P0 Qx;rw[ACH]
 have:((fun o:Pk=>o.1==k) ∘ fun o:Pk=>bif o.1==id then(o.1,o.2.1,o.2.2.1,o.2.2.2.1,st)else o)=fun o:Pk=>o.1==k:=funext fun o=>by grind
 rw[this];cases h:l.find? fun o=>o.1==k with
 |none=>rfl
 |some o=>
  grind
theorem DI.Dq{w h:Int}{c:List Int}{a:List PH}{nx:Int}{l:List Pk}{crew:List Pf}{ts:List PZ}(d:DI w h c a nx l crew ts){b:List PH}(hb:PN b)(hsp:WH a b)(hbm:∀p∈b,QJ c p.2.1=true){id st:Int}(v7:1≤st∧st≤3){us:List PZ}(uX:us.Sublist ts)(xN:∀t∈us,t.1≠id):DI w h c b nx (Qx l id st) crew us:=by
 have mem:∀q∈Qx l id st,∃o∈l,q=(bif o.1==id then(o.1,o.2.1,o.2.2.1,o.2.2.2.1,st)else o:Pk):=fun q hq=>by unfold Qx at hq;grind
 have key:∀o:Pk,(bif o.1==id then(o.1,o.2.1,o.2.2.1,o.2.2.2.1,st)else o:Pk).1=o.1∧(bif o.1==id then(o.1,o.2.1,o.2.2.1,o.2.2.2.1,st)else o:Pk).2.1=o.2.1∧(bif o.1==id then(o.1,o.2.1,o.2.2.1,o.2.2.2.1,st)else o:Pk).2.2.1=o.2.2.1∧(bif o.1==id then(o.1,o.2.1,o.2.2.1,o.2.2.2.1,st)else o:Pk).2.2.2.1=o.2.2.2.1:=fun o=>by grind
 obtain⟨b1,b2,b3,b4⟩:=d.bk;refine {fl:=d.fl,st:=hb,hm:=hbm,bk:=⟨b1,by unfold Qx;grind,?_,fun q hq=>?_⟩,KN:=fun q hq=>?_,aU:=fun q hq=>?_,dk:=fun q hq=>?_,cw:=d.cw,XB:=d.XB.sub uX,tk:=fun t ht=>(d.tk t (uX.subset ht)).same hsp (bp l id st t.1 (xN t ht)) }
 ·unfold Qx;rw[ABh];exact b3.imp fun {x y} hxy=>by grind
 ·obtain⟨o,ho,rfl⟩:=mem q hq;obtain⟨k1,k2,k3,k4⟩:=key o;obtain⟨g1,g2,g3,g4,g5⟩:=b4 o ho;unfold fV;rw[k1,k2,k3,k4];refine⟨g1,g2,g3,g4,?_⟩;cases(o.1==id)
  all_goals grind
 ·obtain⟨o,ho,rfl⟩:=mem q hq;rw[(key o).2.2.2];exact d.KN o ho
 ·obtain⟨o,ho,rfl⟩:=mem q hq;rw[(key o).2.2.2];exact d.aU o ho
 ·obtain⟨o,ho,rfl⟩:=mem q hq;rw[(key o).2.1];exact d.dk o ho
theorem DI.oI{w h:Int}{c:List Int}{a:List PH}{nx:Int}{l:List Pk}{crew:List Pf}{ts:List PZ}(d:DI w h c a nx l crew ts){b:List PH}(hb:PN b)(hsp:WH a b)(hbm:∀p∈b,QJ c p.2.1=true):DI w h c b nx l crew ts:=
 { d with st:=hb,hm:=hbm,tk:=fun t ht=>(d.tk t ht).same hsp rfl }
theorem DI.step{w h:Int}{c:List Int}{a:List PH}{nx:Int}{l:List Pk}{crew:List Pf}{ts:List PZ}(d:DI w h c a nx l crew ts){crew':List Pf}(hc:CW c crew')(hs:∀id,(TO crew' id).map (fun r=>(r.2.2.1,r.2.2.2.1))=(TO crew id).map (fun r=>(r.2.2.1,r.2.2.2.1))):DI w h c a nx l crew' ts:=
 have key:∀t∈ts,Sa a l crew' t:=fun t ht=>by
  have hT:=d.tk t ht;refine⟨hT.ord,hT.PU,fun e=>?_⟩;obtain⟨r,q1,q2,q3⟩:=hT.cP e;have:=hs t.2.2.1;rw[q1]at this;cases e1:TO crew' t.2.2.1 with
  |none=>grind
  |some r'=>
   grind
 { d with cw:=hc,tk:=key }
theorem ic{α β:Type}{f:α→β}{l:List α}(h:(l.map f).Nodup){x y:α}(hx:x∈l)(hy:y∈l)(e:f x=f y):x=y:=by
 obtain⟨i,hi,rfl⟩:=ABY.1 hx;obtain⟨j,hj,rfl⟩:=ABY.1 hy;have hp:=ABh.1 h;rcases ABg i j with hl|hl|hl
 ·exact(ABQ.1 hp i j hi hj hl e).elim
 ·subst hl;rfl
 ·exact(ABQ.1 hp j i hj hi hl e.symm).elim
theorem XS{crew:List Pf}(h:crew.Pairwise fun r s=>r.1<s.1){k:Nat}(hk:k<crew.length):TO crew crew[k].1=some crew[k]:=by
 cases hq:TO crew crew[k].1 with
 |none=>
  unfold TO at hq;have:=AB9.1 hq _ (ABW hk);simp at this
 |some r=>rw[fG h (Pw hq).1 (ABW hk) (Pw hq).2]
theorem Zn{a:List PH}(ha:PN a){l:List Pk}{t:PZ}(h3:t.2.2.2≠3){i:Nat}(hi:i<a.length)(e:a[i].1=t.2.1):TJ a l t=a[i].2.1:=by obtain⟨q,hq⟩:=WW (a:=a) (id:=t.2.1) ⟨_,ABW hi,e⟩;have:q=a[i]:=XR ha hi (S6 hq).1 ((S6 hq).2.trans e.symm);unfold TJ;grind
theorem DI.oH{w h:Int}{c:List Int}{a:List PH}{nx:Int}{l:List Pk}{crew:List Pf}{ts:List PZ}(d:DI w h c a nx l crew ts){prs:List (Nat×Nat)}(hd:kO w h c a crew ts prs){crew':List Pf}{ts':List PZ}(hs:iH a crew ts prs crew' ts'):DI w h c a nx l crew' ts':=by
 have zG:c.length≤1048576:=by have:=(Um d.fl).le;omega
 have hal:a.length≤1048576:=by have:=d.st.1;omega
 have hcw:CW c crew':=hs.crew zG d.fl hd d.cw
 have key:∀t∈ts',Sa a l crew' t:=fun t ht=>by
  obtain⟨i,vF,rfl⟩:=ABY.1 ht;have hi:i<ts.length:=by rw[←hs.l2];exact vF
  have hT:=d.tk _ (ABW hi);rcases hs.tk i hi vF with⟨p,hp,e1,e2⟩|⟨xN,e2⟩
  ·rw[e2];obtain⟨hk,r1,r2,r3,r4,r5⟩:=hd.cP d.cw hp;have u7:p.2<crew'.length:=by rw[hs.l1];exact hk
   refine⟨hT.ord,hT.PU,fun _=>?_⟩;rcases hs.rb p.2 hk u7 with⟨p',yo,e3,e4⟩|⟨xN,_⟩
   ·have hpp:p'=p:=ic hd.n2 yo hp e3;subst hpp;obtain⟨q1,q2,q3,j,hj,q4,q5,q6⟩:=hd.XB hal yo;subst e1;rw[aK q1]at e4;refine⟨crew'[p'.2],?_,?_,?_⟩
    ·show TO crew' (Y5 crew p'.2).1=_;rw[Z1 hk];have:=XS hcw.ids u7;rw[e4]at this ⊢;exact this
    ·rw[e4];show Qb a ts[p'.1].2.1=_;rw[q6];exact(Zn (t:=(ts[p'.1].1,ts[p'.1].2.1,(Y5 crew p'.2).1,2)) d.st (by show(2:Int)≠3;omega) hj q5).symm
    ·rw[e4];show crew[p'.2].2.2.2.1=decide ((2:Int)<2);rw[r4];rfl
   grind
  ·rw[e2];refine⟨hT.ord,hT.PU,fun e=>?_⟩;obtain⟨r,g1,g2,g3⟩:=hT.cP e;obtain⟨k,hk,hr⟩:=ABY.1 (Pw g1).1;have u7:k<crew'.length:=by rw[hs.l1];exact hk
   have hid:crew[k].1=ts[i].2.2.1:=by rw[hr];exact(Pw g1).2
   rcases hs.rb k hk u7 with⟨p,hp,e3,_⟩|⟨_,e4⟩
   ·obtain⟨hk2,_,_,_,_,r5⟩:=hd.cP d.cw hp;grind
   ·have:=XS hcw.ids u7;grind
 exact { d with cw:=hcw,XB:=hs.tasks hal hd d.XB d.cw,tk:=key }
theorem DI.rQ{w h:Int}{c:List Int}{a:List PH}{nx:Int}{l:List Pk}{crew:List Pf}{ts:List PZ}(d:DI w h c a nx l crew ts){crew':List Pf}(hc:CW c crew')(hl:crew'.length=crew.length)(hs:∀k (h1:k<crew.length) (h2:k<crew'.length),crew'[k].1=crew[k].1∧crew'[k].2.2.1=crew[k].2.2.1∧crew'[k].2.2.2.1=crew[k].2.2.2.1):DI w h c a nx l crew' ts:=by
 refine d.step hc fun id=>?_;cases hq:TO crew id with
 |some r=>
  obtain⟨k,hk,hr⟩:=ABY.1 (Pw hq).1;have hk2:k<crew'.length:=by rw[hl];exact hk
  obtain⟨e1,e2,e3⟩:=hs k hk hk2;have:=XS hc.ids hk2;rw[e1,hr,(Pw hq).2]at this;grind
 |none=>
  cases xk:TO crew' id with
  |none=>rfl
  |some r=>
   obtain⟨k,hk,hr⟩:=ABY.1 (Pw xk).1;have hk2:k<crew.length:=by rw[←hl];exact hk
   obtain⟨e1,_,_⟩:=hs k hk2 hk;unfold TO at hq;have:=AB9.1 hq _ (ABW hk2);rw[←e1,hr,(Pw xk).2]at this;simp at this
def YE(x:O8)(l:List O8)(m:List O8):List O8:=(l.filter fun y=>decide (y.1<x.1))++(m++l.filter fun y=>decide (x.1<y.1))
def fT(x:O8)(l:List O8):List O8:=YE x l (bif x.2.1==0 then []else [x])
theorem dh{x:O8}:∀ {l:List O8},l.Pairwise (fun a b=>a.1<b.1)→l.filter (fun y=>y.1 != x.1)=YE x l []
 | [],_=>rfl
 |y::r,h=>by
  obtain⟨h1,h2⟩:=ABl.1 h;have ih:=dh (x:=x) h2;unfold YE at ih ⊢;rw[AA4]at ih ⊢;rw[ABy,ABy,ABy];rcases Int.lt_trichotomy y.1 x.1 with hl|hl|hl
  ·grind
  ·grind
  ·have hr:r.filter (fun z=>decide (z.1<x.1))=[]:=ACB.2 fun z hz=>by have:=h1 z hz;simp;omega
   grind
theorem kW{x:O8}{l:List O8}(h:∀y∈l,y.1<x.1)(m:List O8):YE x l m=l++m:=by unfold YE;rw[List.filter_eq_self.2 fun y hy=>by grind,ACB.2 fun y hy=>by grind,ABw]
theorem je{x:O8}{l:List O8}(h:∀y∈l,x.1≤y.1)(hp:l.Pairwise fun a b=>a.1<b.1)(m:List O8):YE x l m=m++l.filter fun y=>y.1 != x.1:=by rw[dh hp];unfold YE;rw[ACB.2 fun y hy=>by have:=h y hy;simp;omega];rfl
theorem jd{x:O8}{y:O8}{r:List O8}(h:y.1<x.1)(m:List O8):YE x (y::r) m=y::YE x r m:=by unfold YE;grind
theorem gj{x:O8}{l m:List O8}{z:O8}(h:z∈YE x l m):(z∈l∧z.1≠x.1)∨z∈m:=by unfold YE at h;grind
theorem jf{x:O8}{l:List O8}(h:l.Pairwise fun a b=>a.1<b.1){m:List O8}(hm:m=[]∨m=[x]):(YE x l m).Pairwise fun a b=>a.1<b.1:=by
 unfold YE
 have hmx:∀z∈m,z.1=x.1:=fun z hz=>by
  rcases hm with rfl|rfl
  ·cases hz
  ·rw[AA8.1 hz]
 refine ABj.2 ⟨h.filter _,ABj.2 ⟨by rcases hm with rfl|rfl<;>simp,h.filter _,fun a ha b hb=>?_⟩,fun a ha b hb=>?_⟩
 all_goals grind
theorem gi{x:O8}{l:List O8}(h:l.Pairwise fun a b=>a.1<b.1)(m:List O8):(YE x l m).length=(l.filter fun y=>y.1 != x.1).length+m.length:=by rw[dh h];unfold YE;grind
theorem fU{l:List O8}(h:Vb l){x:O8}(hx:(x.2.1==0)=false→1≤x.1∧x.1≤50∧1≤x.2.1∧x.2.1≤1000∧0≤x.2.2∧x.2.2≤x.2.1)(hl:(x.2.1==0)=true∨(∃z∈l,z.1=x.1)∨l.length<8):Vb (fT x l):=by
 obtain⟨h1,h2,h3⟩:=h;have hf:(l.filter fun y=>y.1 != x.1).length≤l.length:=ABt _ _;unfold fT;cases hz:(x.2.1==0)with
 |true=>
  rw[ABU];refine⟨jf h1 (.inl rfl),fun z hm=>?_,by rw[gi h1];simp only[List.length_nil];omega⟩;rcases gj hm with hm|hm
  all_goals grind
 |false=>
  rw[ABV];refine⟨jf h1 (.inr rfl),fun z hm=>?_,?_⟩
  ·rcases gj hm with hm|hm
   all_goals grind
  ·rw[gi h1,ABb];rcases hl with hl|⟨z,hzm,e⟩|hl
   ·grind
   ·have:(l.filter fun y=>y.1 != x.1).length<l.length:=by rw[List.length_filter_lt_length_iff_exists];exact⟨z,hzm,by simp[e]⟩
    omega
   ·omega
theorem gD(l:List O8)(h:Vb l)(x0 x1 x2:Int)(n:Nat)(hn:PJ≤n):T8 n l x0 x1 x2=some (fT (x0,x1,x2) l):=by
 have h8:=h.2.2
 have hc:=Ph (σ:=List O8×Bool) (Qs l x0 x1 x2) (fun i s=>(s.1,s.2,(i:Int))) l
  (fun r s=>(s.1++(bif s.2 then r.filter (fun y=>y.1 != x0)else bif r.any (fun y=>decide (y.1≥x0))then YE (x0,x1,x2) r [(x0,x1,x2)]else r),s.2||r.any (fun y=>decide (y.1≥x0)),(l.length:Int)))
  (fun i s=>s.1.length≤i+1∧(s.2=false→s.1.length≤i))
  (fun s hs=>by
   unfold Qs;grind)
  (fun i y r s h1 h2 h3 h4 h5=>by
   left;have hy:l[i]=y:=by rw[AAF h1]at h2;exact Option.some.inj h2
   obtain⟨out,put⟩:=s;dsimp only at h5 ⊢;have hpw:(y::r).Pairwise (fun a b=>a.1<b.1):=h3▸h.1.drop;obtain⟨hyr,hpr⟩:=ABl.1 hpw;unfold Qs;dsimp only;rw[show decide ((i:Int)<(l.length:Int))=true by grind,ABU,PA h1,hy,O9 h1 (show l.length≤9223372036854775807 by omega)];simp only[ABT];have r1:∀(o:List O8)(z:O8),o.length≤i+2→decide (o.length+[z].length≤Dh)=true:=fun o z ho=>Rq (by omega);cases put with
   |true=>
    simp only[ABc,ABV,ABU,ABT,Bool.true_or];by_cases he:y.1=x0
    ·rw[show(y.1 != x0)=false by simp[he]];simp only[ABV,ABT];exact⟨(out,true),rfl,⟨by grind,fun e=>by cases e⟩,by grind⟩
    ·have hb:(y.1 != x0)=true:=by simpa using he
     rw[hb,ABU,r1 out _ (by omega),ABU,ABT];exact⟨(out++[y],true),rfl,⟨by grind,fun e=>by cases e⟩,by grind⟩
   |false=>
    have h5i:=h5.2 rfl;simp only[ABm,ABU,ABV,ABT,Bool.false_or];by_cases uh:y.1≥x0
    ·have hany:(y::r).any (fun y=>decide (y.1≥x0))=true:=by grind
     have xL:=je (x:=(x0,x1,x2)) (l:=y::r) (fun z hz=>by
      grind) hpw [(x0,x1,x2)]
     rw[ABZ uh,ABU,r1 out _ (by omega),ABU,ABT,hany,xL];dsimp only;by_cases he:y.1=x0
     ·rw[show(y.1 != x0)=false by simp[he]];simp only[ABV,ABT];exact⟨(out++[(x0,x1,x2)],true),rfl,⟨by grind,fun e=>by cases e⟩,by grind⟩
     ·have hb:(y.1 != x0)=true:=by simpa using he
      rw[hb,ABU,r1 (out++[_]) _ (by grind),ABU,ABT];exact⟨(out++[(x0,x1,x2)]++[y],true),rfl,⟨by grind,fun e=>by cases e⟩,by grind⟩
    ·have hany:(y::r).any (fun y=>decide (y.1≥x0))=r.any (fun y=>decide (y.1≥x0)):=by rw[List.any_cons,ABd uh,Bool.false_or]
     have tX:y.1<x0:=by clear hn;omega
     have hb:(y.1 != x0)=true:=by rw[ABz];clear hn;omega
     rw[ABd uh,ABV,ABT,hany,jd (x:=(x0,x1,x2)) tX];dsimp only;rw[hb,ABU,r1 out _ (by clear hn;omega),ABU,ABT];refine⟨(out++[y],false),rfl,⟨by show(out++[y]).length≤i+1+1;rw[AA2,ABb];clear hn;omega,fun _=>by show(out++[y]).length≤i+1;rw[AA2,ABb];clear hn;omega⟩,?_⟩;grind)
  n (by unfold PJ at hn;omega) (([]:List O8),x1==0) ⟨by simp,fun _=>by simp⟩
 unfold T8 fT;rw[show((0:Nat):Int)=0 from rfl]at hc;dsimp only at hc ⊢;rw[hc,ABT];dsimp only;cases v8:(x1==0)with
 |true=>
  simp only[ABU,Bool.true_or,ABc,ABV,ABT,AA4];rw[dh (x:=(x0,x1,x2)) h.1]
 |false=>
  simp only[ABV,Bool.false_or,AA4];cases ha:l.any (fun y=>decide (y.1≥x0))with
  |true=>rfl
  |false=>
   simp only[ABV,ABm,ABU]
   rw[show decide (l.length+[(x0,x1,x2)].length≤Dh)=true from Rq (by omega),ABU,ABT,kW (x:=(x0,x1,x2)) fun y hy=>by
    rw[←ABr]at ha;have:¬y.1≥x0:=fun q=>ha (AA6.2 ⟨y,hy,ABZ q⟩);show y.1<x0;clear hn;omega]
def km(a:List PH)(PU:Int)(x:O8):List PH:=XV a PU (fT x)
theorem Ya{a:List PH}(h:PN a){i:Nat}(hi:i<a.length)(x0 x1 x2:Int)(n:Nat)(hn:PJ≤n):R0 n a (i:Int) x0 x1 x2=some (km a a[i].1 (x0,x1,x2)):=by
 have v7:=(h.2.2 _ (ABW hi)).2.2;unfold R0;rw[PR a h.sm n hn,ABT,PE hi,ABU];have hg:a[(i:Int).toNat]?=some a[i]:=by simp[hi]
 rw[hg,ABT,ABT,gD a[i].2.2 v7 x0 x1 x2 n hn,ABT,ABU,ABX];unfold km;rw[←Y3 h hi];congr 1;apply ABv;grind
theorem Z3(a:List PH)(PU:Int)(f:List O8→List O8):WH a (XV a PU f):=by
 intro id;unfold XQ XV;rw[ACH]
 have:((fun p:PH=>p.1==id) ∘ fun p:PH=>bif p.1==PU then(p.1,p.2.1,f p.2.2)else p)=fun p:PH=>p.1==id:=funext fun p=>by grind
 rw[this,Option.map_map];cases a.find? fun p=>p.1==id with
 |none=>rfl
 |some p=>
  grind
theorem bO{a:List PH}{PU:Int}{f:List O8→List O8}{p:PH}(h:p∈XV a PU f):∃q∈a,p.2.1=q.2.1:=by unfold XV at h;grind
def dy(a:List PH)(PU k m:Int):List PH×Int:=if P2 a PU k m≠0 then(a,P2 a PU k m)else if(SH a PU k).2.2<m then(a,3)else(km a PU (k,(SH a PU k).2.1-m,(SH a PU k).2.2-m),0)
theorem h9{a:List PH}(h:PN a)(PU k m:Int):PN (dy a PU k m).1∧WH a (dy a PU k m).1∧∀p∈(dy a PU k m).1,∃q∈a,p.2.1=q.2.1:=by
 have same:PN a∧WH a a∧∀p∈a,∃q∈a,p.2.1=q.2.1:=⟨h,fun _=>rfl,fun p hp=>⟨p,hp,rfl⟩⟩;unfold dy;split
 ·exact same
 ·rename_i hc;split
  ·exact same
  ·rename_i tX;obtain⟨_,hk,hm,i,hi,e1,e2,e3⟩:=Qa (by omega:P2 a PU k m=0);refine⟨?_,Z3 a PU _,fun p hp=>bO hp⟩;refine cN h PU _ fun p hp ep=>?_;have:p=a[i]:=XR h hi hp (ep.trans e2.symm);subst this;have v7:=(h.2.2 _ (ABW hi)).2.2;obtain⟨b1,b2,b3,b4,b5⟩:=TF v7 k;rw[e3]at tX ⊢
   have hz:∃z∈a[i].2.2,z.1=k:=by refine AAn fun q=>?_;rw[Sy fun x hx e=>q ⟨x,hx,e⟩]at tX;dsimp only at tX;omega
   refine fU v7 (fun tj=>?_) (.inr (.inl hz));grind
theorem ky{a:List PH}(h:PY a)(PU k m:Int):PY (dy a PU k m).1:=by
 by_cases hc:P2 a PU k m=0
 ·exact(h9 (Qa hc).1 PU k m).1.sm
 ·unfold dy;grind
theorem aC(a:List PH)(hs:PY a)(PU k m:Int)(n:Nat)(hn:PJ≤n):V0 n a PU k m=some (dy a PU k m):=by
 unfold V0 dy;rw[Xj a hs PU k m n hn,ABT];by_cases hc:P2 a PU k m=0
 ·rw[AAM (by rw[hc];simp),AAM (by rw[hc];simp)];obtain⟨h,hk,hm,i,hi,e1,e2,e3⟩:=Qa hc;have v7:=(h.2.2 _ (ABW hi)).2.2;obtain⟨b1,b2,b3,b4,b5⟩:=TF v7 k;dsimp only;rw[show((0:Int) != 0)=false from rfl,ABV,e3];by_cases tX:(PW a[i].2.2 k).2.2<m
  ·rw[ABZ tX,AAK tX,ABU,PR a hs n hn];rfl
  ·rw[ABd tX,AAM tX,ABV,PF (n:=(PW a[i].2.2 k).2.1-m) (by omega) (by omega),PF (n:=(PW a[i].2.2 k).2.2-m) (by omega) (by omega),e1,b5];rw[Ya h hi _ _ _ n hn,e2];rfl
 ·rw[AAK hc,AAK hc];dsimp only;rw[show(P2 a PU k m != 0)=true by grind,ABU,PR a hs n hn];rfl
def Y9(s:List PH)(p:O8):List PH×Int:=dy s p.1 p.2.1 p.2.2
theorem aB(a:List PH)(ha:PY a)(ps:List O8)(hp:ps.length≤1048576)(n:Nat)(hn:PJ≤n):Rs n a ps 3=some (Qu Y9 a ps):=by
 have h1:=XK (P8 n a ps 3) Y9 a ps (fun s p hs=>ky hs _ _ _) ha (fun i s hi hs=>by
  have hd:decide ((i:Int)<(ps.length:Int))=true:=by simpa using hi
  simp only[P8,hd,ABU,PA hi,ABT,aC s hs _ _ _ n hn,PR a ha n hn,O9 hi (show ps.length≤9223372036854775807 by clear hn;omega)];rw[show((3:Int)==1)=false from rfl,show((3:Int)==2)=false from rfl];show(bif(Y9 s ps[i]).2 != 0 then _ else _)=_;cases((Y9 s ps[i]).2 != 0)<;>rfl) (fun s=>by simp[P8]) n (by unfold PJ at hn;omega)
 unfold Rs;rw[PR a ha n hn,ABT,h1,ABT];unfold Qu;grind
theorem ZA{a:List PH}(h:PN a)(ps:List O8):PN (Qu Y9 a ps).1∧WH a (Qu Y9 a ps).1∧∀p∈(Qu Y9 a ps).1,∃q∈a,p.2.1=q.2.1:=
 gY (P:=fun s=>PN s∧WH a s∧∀p∈s,∃q∈a,p.2.1=q.2.1) (fun s p hs=>by
  obtain⟨h1,h2,h3⟩:=hs;obtain⟨g1,g2,g3⟩:=h9 h1 p.1 p.2.1 p.2.2;refine⟨g1,fun id=>(g2 id).trans (h2 id),fun q hq=>?_⟩;obtain⟨r,hr,e⟩:=g3 q hq;grind) ⟨h,fun _=>rfl,fun p hp=>⟨p,hp,rfl⟩⟩ ps
def P4(l:List Pk)(t:PZ):List O8:=match P0 l t.1 with
 |some o=>o.2.2.2.1.filter fun p=>p.1==t.2.1
 |none=>[]
def W8(t:PZ)(s:Int):PZ:=(t.1,t.2.1,t.2.2.1,s)
def ik(ou:List Int)(ps:List O8):List Int:=ps.foldl (fun ou p=>if ou.getD p.2.1.toNat 0+p.2.2≤1000000 then ou.set p.2.1.toNat (ou.getD p.2.1.toNat 0+p.2.2)else ou) ou
def RA(a:List PH)(ou:List Int)(l:List Pk)(crew:List Pf)(t:PZ):List PH×List Int×List Pf×Option PZ:=
 if t.2.2.2=2 then(a,ou,WD crew t.2.2.1 (fun r=>(r.1,r.2.1,TJ a l (W8 t 3),true,0)),some (W8 t 3))
 else if t.2.2.2=3 then
  ((Qu Y9 a (P4 l t)).1,(bif(Qu Y9 a (P4 l t)).2 then ik ou (P4 l t)else ou),WD crew t.2.2.1 (fun r=>(r.1,r.2.1,TJ (Qu Y9 a (P4 l t)).1 l (W8 t 4),r.2.2.2.1,0)),some (W8 t 4))
 else(a,ou,WD crew t.2.2.1 (fun r=>(r.1,r.2.1, -1,false,0)),none)
def dq:Option PZ→List PZ
 |some t=>[t]
 |none=>[]
theorem DI.iO{w h:Int}{c:List Int}{a:List PH}{nx:Int}{l:List Pk}{crew:List Pf}{x y:List PZ}{t:PZ}(d:DI w h c a nx l crew (x++t::y))(ht:t.2.2.2≠1)(ou:List Int):
  DI w h c (RA a ou l crew t).1 nx l (RA a ou l crew t).2.2.1 (x++(dq (RA a ou l crew t).2.2.2++y)):=by
 have hT:=d.tk t (AAO _ AAe);unfold RA;by_cases h2:t.2.2.2=2
 ·rw[AAK h2];exact d.jX ht d.st (fun _=>rfl) d.hm (s:=3) ⟨by omega,by omega⟩ (fun r=>⟨rfl,rfl⟩) fun r hr=>⟨rfl,rfl,by grind,by grind⟩
 ·rw[AAM h2];by_cases h3:t.2.2.2=3
  ·rw[AAK h3];obtain⟨g1,g2,g3⟩:=ZA d.st (P4 l t);refine d.jX ht g1 g2 (fun p hp=>?_) (s:=4) ⟨by omega,by omega⟩ (fun r=>⟨rfl,rfl⟩) fun r hr=>⟨rfl,?_,by grind,by grind⟩
   ·obtain⟨q,hq,e⟩:=g3 p hp;rw[e];exact d.hm q hq
   ·obtain⟨r',q1,_,q3⟩:=hT.cP ht;grind
  ·rw[AAM h3];exact d.gone ht (fun r=>⟨rfl,rfl⟩) fun r=>⟨rfl,by grind,by grind⟩
abbrev lD:=List PH×List Int×List Pf×List PZ×List Int
def X4(crew:List Pf)(t:PZ):Bool := !(t.2.2.2==1)&&match TO crew t.2.2.1 with
 |some r=>r.2.1==r.2.2.1
 |none=>false
def Qn(l:List Pk)(t:PZ)(s:lD):lD:=
 if X4 s.2.2.1 t=true then
  ((RA s.1 s.2.1 l s.2.2.1 t).1,(RA s.1 s.2.1 l s.2.2.1 t).2.1,(RA s.1 s.2.1 l s.2.2.1 t).2.2.1,s.2.2.2.1++dq (RA s.1 s.2.1 l s.2.2.1 t).2.2.2,match(RA s.1 s.2.1 l s.2.2.1 t).2.2.2 with|some _=>s.2.2.2.2|none=>s.2.2.2.2++[t.1])
 else(s.1,s.2.1,s.2.2.1,s.2.2.2.1++[t],s.2.2.2.2)
def QO(l:List Pk)(ts:List PZ)(s:lD):lD:=ts.foldl (fun s t=>Qn l t s) s
theorem DI.QO{w h:Int}{c:List Int}{nx:Int}{l:List Pk}:∀(ts:List PZ)(s:lD),DI w h c s.1 nx l s.2.2.1 (s.2.2.2.1++ts)→DI w h c (QO l ts s).1 nx l (QO l ts s).2.2.1 (QO l ts s).2.2.2.1
 | [],s,d=>by rw[ABw]at d;exact d
 |t::ts,s,d=>by
  have hstep:DI w h c (Qn l t s).1 nx l (Qn l t s).2.2.1 ((Qn l t s).2.2.2.1++ts):=by
   unfold Qn;by_cases hg:X4 s.2.2.1 t=true
   ·rw[AAK hg]
    have ht:t.2.2.2≠1:=fun e=>by unfold X4 at hg;rw[show(t.2.2.2==1)=true from AAS.2 e]at hg;simp at hg
    have:=d.iO ht s.2.1;grind
   ·grind
  exact DI.QO ts (Qn l t s) hstep
def XD(l:List Pk)(id:Int):Bool:=match P0 l id with
 |some o=>o.2.2.2.2==1
 |none=>false
def kR(ts:List PZ)(ended:List Int)(l:List Pk):List Pk:=ended.foldl (fun l id=>bif(ts.any fun t=>t.1==id) || !XD l id then l else Qx l id 2) l
theorem DI.fin{w h:Int}{c:List Int}{a:List PH}{nx:Int}{crew:List Pf}{ts:List PZ}:∀(ended:List Int)(l:List Pk),DI w h c a nx l crew ts→DI w h c a nx (kR ts ended l) crew ts
 | [],_,d=>d
 |id::ended,l,d=>by
  have hstep:DI w h c a nx (bif(ts.any fun t=>t.1==id) || !XD l id then l else Qx l id 2) crew ts:=by
   cases hb:(ts.any fun t=>t.1==id) || !XD l id with
   |true=>exact d
   |false=>
    rw[ABV];have xN:=(AAh.1 hb).1;refine d.Dq d.st (fun _=>rfl) d.hm ⟨by omega,by omega⟩ (List.Sublist.refl ts) fun t ht e=>?_;grind
  exact DI.fin ended _ hstep
def Q9(a:List PH)(ou:List Int)(l:List Pk)(crew:List Pf)(ts:List PZ):List PH×List Int×List Pk×List Pf×List PZ:=
 ((QO l ts (a,ou,crew,[],[])).1,(QO l ts (a,ou,crew,[],[])).2.1,kR (QO l ts (a,ou,crew,[],[])).2.2.2.1 (QO l ts (a,ou,crew,[],[])).2.2.2.2 l,(QO l ts (a,ou,crew,[],[])).2.2.1,(QO l ts (a,ou,crew,[],[])).2.2.2.1)
theorem DI.Q9{w h:Int}{c:List Int}{a:List PH}{nx:Int}{l:List Pk}{crew:List Pf}{ts:List PZ}(d:DI w h c a nx l crew ts)(ou:List Int):DI w h c (Q9 a ou l crew ts).1 nx (Q9 a ou l crew ts).2.2.1 (Q9 a ou l crew ts).2.2.2.1 (Q9 a ou l crew ts).2.2.2.2:=
 DI.fin _ l (DI.QO ts (a,ou,crew,[],[]) d)
theorem Wu(crew:List Pf)(hl:crew.length≤1048576)(id:Int)(n:Nat)(hn:PJ≤n):(S5 n crew id=some (-1)∧∀r∈crew,r.1≠id)∨∃k,∃h:k<crew.length,crew[k].1=id∧S5 n crew id=some (k:Int):=by
 have hs:∀(m:Nat)(x:Pf),m<crew.length→crew[m]?=some x→Q1 crew id (m:Int)=some (bif x.1==id then .inr (.inr (m:Int))else .inl ((m+1:Nat):Int)):=fun m x h1 h2=>by
  have hx:crew[m]=x:=by rw[AAF h1]at h2;exact Option.some.inj h2
  simp only[Q1,PA h1,hx,ABT,O9 h1 (show crew.length≤9223372036854775807 by clear hn;omega)];grind
 unfold S5;by_cases h:∃r∈crew,r.1=id
 ·right;obtain⟨r,hr,e⟩:=h;obtain⟨j,hj,rfl⟩:=ABY.1 hr;obtain⟨i,hi,hP,e2⟩:=eO (Q1 crew id) crew (fun x=>x.1==id) hs j hj (AAS.2 e) n (by unfold PJ at hn;omega);grind
 ·left;refine⟨?_,fun r hr e=>h ⟨r,hr,e⟩⟩;rcases dI (Q1 crew id) crew (fun x=>x.1==id) hs (by simp[Q1]) n (by unfold PJ at hn;omega)with e|⟨i,hi,hP,e⟩
  all_goals grind
theorem bM{t:PZ}(h:Pz t=true):(1≤t.2.2.2∧t.2.2.2≤4)∧(t.2.2.1=0↔t.2.2.2=1):=by unfold Pz at h;grind
theorem ak(w h:Int)(c:List Int){a:List PH}(ha:PN a){nx:Int}{l:List Pk}(hb:Vi nx l)(hsm:QX (nx,l)){crew:List Pf}(hc:CW c crew)(ts:List PZ)(st ou:List Int)(nw:Int){t:PZ}(hg:Pz t=true)(n:Nat)(hn:PJ≤n):
  ∃b,Sj n w h c a nx l crew ts st ou nw t.1 t.2.1 t.2.2.1 t.2.2.2=some b∧(b=true↔Sa a l crew t):=by
 have hal:=ha.1;have zG:=hc.Zx;obtain⟨⟨s1,s4⟩,hrz⟩:=bM hg;cases ho:P0 l t.1 with
 |none=>
  have hm:∀x∈l,x.1≠t.1:=fun x hx e=>by unfold P0 at ho;grind
  refine⟨false,?_,(fun e=>by cases e),fun hT=>?_⟩
  ·unfold Sj;rw[UT nx l hsm.1 t.1 hm n hn];rfl
  ·obtain⟨o,e,_⟩:=hT.ord;grind
 |some o=>
  obtain⟨wa,hoe⟩:=P6 ho;obtain⟨i,hi,rfl⟩:=ABY.1 wa;have u3:=Ws nx l hsm.1 hb.2.2.1 i hi n hn;rw[hoe]at u3;have wC:l[i].2.2.2.1.length≤1048576:=(hsm.2 _ wa).2
  have hplen:(Qj l[i].2.2.2.1).length≤1048576:=by have:=WX l[i].2.2.2.1 [];unfold Qj;simp only[List.length_nil]at this;clear hn;omega
  have hpo:=UL l[i].2.2.2.1 wC n hn;have xL:Qo n (Qj l[i].2.2.2.1) t.2.1=some ((Qj l[i].2.2.2.1).any fun x=>x==t.2.1):=by rw[XL];exact QC _ hplen _ n hn
  have hpx:=RY a (by omega) t.2.1 n hn;unfold Sj;rw[u3,ABT,show decide ((i:Int)<0)=false by grind,ABV];simp only[PA hi,ABT,bq,hpx.1,hpo,xL];by_cases v7:l[i].2.2.2.2=1
  case neg=>
   rw[show(l[i].2.2.2.2 != 1)=true from ABz.2 v7];refine⟨false,rfl,(fun e=>by cases e),fun hT=>?_⟩;obtain⟨o2,e,e2,_⟩:=hT.ord;grind
  rw[show(l[i].2.2.2.2 != 1)=false by rw[v7];rfl,ABV];rcases hpx.2 with⟨e,xN⟩|⟨j,hj,e,ej⟩
  ·rw[e];refine⟨false,rfl,(fun e=>by cases e),fun hT=>?_⟩;obtain⟨q,hq⟩:=hT.PU;exact(xN q (S6 hq).1 (S6 hq).2).elim
  rw[e,show decide ((j:Int)<0)=false by grind,ABV,ABT];cases hany:(Qj l[i].2.2.2.1).any (fun x=>x==t.2.1)with
  |false=>
   refine⟨false,rfl,(fun e=>by cases e),fun hT=>?_⟩;obtain⟨o2,e,_,p,hp,ep⟩:=hT.ord;rw[ho]at e;injection e with e
   rw[←e]at hp;rw[←ABr]at hany;exact(hany (AA6.2 ⟨_,VU.2 ⟨p,hp,rfl⟩,AAS.2 ep⟩)).elim
  |true=>
   obtain⟨y,hy,ey⟩:=AA6.1 hany;obtain⟨p,hp,ep⟩:=VU.1 hy;have hord:∃o,P0 l t.1=some o∧o.2.2.2.2=1∧∃p∈o.2.2.2.1,p.1=t.2.1:=⟨_,ho,v7,p,hp,ep.trans (AAS.1 ey)⟩;have hpod:∃q,XQ a t.2.1=some q:=WW ⟨_,ABW hj,ej⟩;rw[ABc,ABV];by_cases hr0:t.2.2.1=0
   ·rw[show(t.2.2.1==0)=true from AAS.2 hr0,ABU];exact⟨true,rfl,fun _=>⟨hord,hpod,fun e=>(e (hrz.1 hr0)).elim⟩,fun _=>rfl⟩
   ·rw[show(t.2.2.1==0)=false from ABa.2 hr0,ABV];have hst1:t.2.2.2≠1:=fun e=>hr0 (hrz.2 e)
    have hgoal:Wo n w h c a nx l crew ts st ou nw t.1 t.2.1 t.2.2.1 t.2.2.2=some (TJ a l t):=by
     unfold Wo;by_cases h3:t.2.2.2=3
     ·rw[show(t.2.2.2==3)=true from AAS.2 h3,ABU,u3,ABT,PA hi,ABT];unfold TJ;grind
     ·rw[show(t.2.2.2==3)=false from ABa.2 h3,ABV,bq,hpx.1,e,ABT,PA hj,ABT,Zn ha h3 hj ej]
    rcases Wu crew (by omega) t.2.2.1 n hn with⟨e1,xN⟩|⟨k,hk,ek,e1⟩
    ·rw[e1];refine⟨false,rfl,(fun e=>by cases e),fun hT=>?_⟩;obtain⟨r,q1,_⟩:=hT.cP hst1;exact(xN r (Pw q1).1 (Pw q1).2).elim
    ·have vQ:=XS hc.ids hk;rw[ek]at vQ;rw[e1,ABT,show decide ((k:Int)≥0)=true by rw[AAb];clear hn;omega,ABU];simp only[PA hk,ABT,hgoal]
     have hT:Sa a l crew t↔crew[k].2.2.1=TJ a l t∧crew[k].2.2.2.1=decide (2<t.2.2.2):=by
      constructor
      ·intro hT;obtain⟨r,q1,q2,q3⟩:=hT.cP hst1;rw[vQ]at q1;injection q1 with q1
       rw[q1];exact⟨q2,q3⟩
      ·rintro ⟨q2,q3⟩
       exact⟨hord,hpod,fun _=>⟨_,vQ,q2,q3⟩⟩
     grind
theorem DI.new{w h:Int}{c:List Int}{a:List PH}(uU:Yn w h c a=true):DI w h c a 1 [] (Rt (Pt c) (min (Pt c).length 20)) []:=by obtain⟨hf,hk,h0,hho⟩:=aV uU;refine {fl:=hf,st:=Pp.1 hk,hm:=fun p hp=>?_,bk:=⟨⟨by omega,by omega⟩,by simp,List.Pairwise.nil,(fun o ho=>by cases ho)⟩,KN:=(fun o ho=>by cases ho),aU:=(fun o ho=>by cases ho),dk:=(fun o ho=>by cases ho),cw:=lr c,XB:=QS.2 ⟨by simp,(fun x hx=>by cases hx),List.Pairwise.nil⟩,tk:=(fun t ht=>by cases ht) };obtain⟨h1,h2⟩:=hho p hp;unfold QJ;grind
def Tv(l:List Int):Prop:=l.length=51∧(∀x∈l,0≤x∧x≤1000000)∧l[0]?=some 0
def aQ(l:List Int)(i:Nat):Bool:=match l[i]? with
 |some x=>P1 x 0 1000000&&(!((i:Int)==0)||x==0)
 |none=>false
theorem Xh{a b c:Int}:P1 a b c=true↔b≤a∧a≤c:=by unfold P1;grind
theorem bB{l:List Int}:((List.range l.length).all (aQ l)&&((l.length:Int)==51))=true↔Tv l:=by
 rw[AAG,AAU,AAS]
 have u3:∀i (hi:i<l.length),aQ l i=true↔(0≤l[i]∧l[i]≤1000000)∧(i=0→l[i]=0):=fun i hi=>by unfold aQ;rw[AAF hi];simp only[AAG,Xh,AAa,AAT,ABa,AAS];omega
 constructor
 ·rintro ⟨h1,h2⟩
  have h51:l.length=51:=by omega
  have hi:=fun i (hi:i<l.length)=>(u3 i hi).1 (h1 i (AAR.2 hi));refine⟨h51,fun x hx=>?_,?_⟩
  ·obtain⟨i,hi2,rfl⟩:=ABY.1 hx;exact(hi i hi2).1
  grind
 ·rintro ⟨h1,h2,h3⟩
  grind
theorem Wn(l:List Int)(hl:l.length≤1048576)(n:Nat)(hn:PJ≤n):TL n l=some ((List.range l.length).all (aQ l)&&((l.length:Int)==51)):=by
 have h1:=Qq (S3 l) (fun k=>(k:Int)) l.length (aQ l) (fun i hi=>by
  unfold S3 aQ;dsimp only;rw[show decide ((i:Int)<(l.length:Int))=true by rw[AAb];clear hn;omega,AAF hi];simp only[ABU,PA hi,ABT,Vk,QW,O9 hi (show l.length≤9223372036854775807 by clear hn;omega),bne];cases P1 l[i] 0 1000000<;>cases((i:Int)==0)<;>cases(l[i]==0)<;>rfl) (by unfold S3;simp) n (by unfold PJ at hn;omega)
 rw[show((0:Nat):Int)=0 from rfl]at h1;unfold TL;grind
structure jL(w h:Int)(c:List Int)(a:List PH)(nx:Int)(l:List Pk)(crew:List Pf)(ts:List PZ)(st ou:List Int)(nw:Int):Prop where
 fl:PV w h c=true
 mJ:PN a
 bk:Vi nx l
 cw:CW c crew
 XB:TP ts
 c1:Tv st
 c2:Tv ou
 now:0≤nw∧nw≤1000000
 tk:∀t∈ts,Sa a l crew t
theorem Un(w h:Int)(c:List Int)(hc:c.length≤1048576)(a:List PH)(ha:PY a)(nx:Int)(l:List Pk)(hl:QX (nx,l))(crew:List Pf)(hcr:crew.length≤1048576)(ts:List PZ)(hts:ts.length≤1048576)(st ou:List Int)(v7:st.length≤1048576)(hou:ou.length≤1048576)(nw:Int)(n:Nat)(hn:PJ≤n):
  ∃b,Sz n w h c a nx l crew ts st ou nw=some b∧(b=true↔jL w h c a nx l crew ts st ou nw):=by
 obtain⟨bb,eb,ib⟩:=Ve hl n hn;unfold Sz;rw[X6,Pu w h c hc n hn,Qh a ha n hn,eb,WN w h c hc crew hcr n hn,ai ts hts n hn,Wn st v7 n hn,Wn ou hou n hn];simp only[ABT,Vk,QW];have no:∀ {P:Prop},¬P→∃b,(some false:Option Bool)=some b∧(b=true↔P):=fun hp=>⟨false,rfl,(fun e=>by cases e),fun q=>(hp q).elim⟩;cases e1:PV w h c with
 |false=>exact no fun d=>by rw[d.fl]at e1;cases e1
 |true=>
 cases e2:Ps a with
 |false=>exact no fun d=>by rw[Pp.2 d.mJ]at e2;cases e2
 |true=>
 cases e3:bb with
 |false=>exact no fun d=>by rw[ib.2 d.bk]at e3;cases e3
 |true=>
 cases e4:TG w h c crew with
 |false=>exact no fun d=>by rw[Ul.2 ⟨d.fl,d.cw⟩]at e4;cases e4
 |true=>
 cases e5:SY ts with
 |false=>exact no fun d=>by rw[Va.2 d.XB]at e5;cases e5
 |true=>
 cases e6:((List.range st.length).all (aQ st)&&((st.length:Int)==51))with
 |false=>exact no fun d=>by rw[bB.2 d.c1]at e6;cases e6
 |true=>
 cases e7:((List.range ou.length).all (aQ ou)&&((ou.length:Int)==51))with
 |false=>exact no fun d=>by rw[bB.2 d.c2]at e7;cases e7
 |true=>
 cases e8:P1 nw 0 1000000 with
 |false=>exact no fun d=>by rw[Xh.2 d.now]at e8;cases e8
 |true=>
 have hS:=Pp.1 e2;have hB:=ib.1 e3;have hC:=(Ul.1 e4).2;have hT:=Va.1 e5;have hgood:=(QS.1 hT).2.1;simp only[ABc,ABV,ABT]
 let val:Nat→Bool:=fun i=>match ts[i]? with
  |some t=>(Sj n w h c a nx l crew ts st ou nw t.1 t.2.1 t.2.2.1 t.2.2.2).getD false
  |none=>false
 have wM:∀i (hi:i<ts.length),Sj n w h c a nx l crew ts st ou nw ts[i].1 ts[i].2.1 ts[i].2.2.1 ts[i].2.2.2=some (val i)∧(val i=true↔Sa a l crew ts[i]):=fun i hi=>by obtain⟨b,e,ib⟩:=ak w h c hS hB hl hC ts st ou nw (hgood _ (ABW hi)) n hn;grind
 have h1:=Qq (Ta n w h c a nx l crew ts st ou nw) (fun k=>(k:Int)) ts.length val (fun i hi=>by
  unfold Ta;rw[show decide ((i:Int)<(ts.length:Int))=true by rw[AAb];clear hn;omega,ABU,PA hi,ABT,(wM i hi).1,ABT,O9 hi (show ts.length≤9223372036854775807 by clear hn;omega)];grind) (by unfold Ta;simp) n (by unfold PJ at hn;omega)
 rw[show((0:Nat):Int)=0 from rfl]at h1;rw[h1];refine⟨(List.range ts.length).all val,by grind,?_⟩;rw[AAU];constructor
 ·intro q;refine⟨e1,hS,hB,hC,hT,bB.1 e6,bB.1 e7,Xh.1 e8,fun t ht=>?_⟩;obtain⟨i,hi,rfl⟩:=ABY.1 ht;grind
 ·intro d i hi;have hi:=AAR.1 hi;exact(wM i hi).2.2 (d.tk _ (ABW hi))
def UB(a b:List PH):Prop:=PN b∧WH a b∧∀p∈b,∃q∈a,p.2.1=q.2.1
theorem UB.refl{a:List PH}(h:PN a):UB a a:=⟨h,fun _=>rfl,fun p hp=>⟨p,hp,rfl⟩⟩
theorem UB.trans{a b d:List PH}(h:UB a b)(g:UB b d):UB a d:=⟨g.1,fun id=>(g.2.1 id).trans (h.2.1 id),fun p hp=>by
 obtain⟨q,hq,e⟩:=g.2.2 p hp;obtain⟨r,hr,e2⟩:=h.2.2 q hq;grind⟩
theorem jO{a:List PH}{PU k d:Int}(h:PN (bG a PU k d)):UB a (bG a PU k d):=⟨h,Z3 a PU _,fun p hp=>bO hp⟩
theorem kp{a:List PH}(h:PN a)(PU k m:Int):UB a (ao a PU k m).1:=by
 have ho:=dr h PU k m;unfold ao at ho ⊢;split
 ·exact UB.refl h
 ·rename_i hc;rw[AAM hc]at ho;split
  ·exact UB.refl h
  ·rename_i tX;rw[AAM tX]at ho;exact jO ho
theorem kP{f:List PH→O8→List PH×Int}(hf:∀s p,PN s→UB s (f s p).1){a:List PH}(h:PN a)(ps:List O8):UB a (Qu f a ps).1:=
 gY (P:=fun s=>UB a s) (fun s p hs=>hs.trans (hf s p hs.1)) (UB.refl h) ps
theorem iz{a:List PH}(h:PN a)(ps:List O8):UB a (Qu VV a ps).1:=kP (fun s p hs=>kp hs _ _ _) h ps
def dw(a:List PH)(PU:Int):Nat:=match a[(Rr a PU).toNat]? with
 |some p=>p.2.2.length
 |none=>0
def Yg(a:List PH)(PU k m:Int):List PH×Int:=if P2 a PU k m≠0 then(a,P2 a PU k m)
 else if(SH a PU k).2.1+m>1000∨((SH a PU k).2.1=0∧dw a PU=8)then(a,4)
 else(km a PU (k,(SH a PU k).2.1+m,(SH a PU k).2.2),0)
theorem kh{a:List PH}(h:PN a)(PU k m:Int):UB a (Yg a PU k m).1:=by
 unfold Yg;split
 ·exact UB.refl h
 ·rename_i hc;split
  ·exact UB.refl h
  ·rename_i xN;obtain⟨_,hk,hm,i,hi,e1,e2,e3⟩:=Qa (by omega:P2 a PU k m=0);refine⟨?_,Z3 a PU _,fun p hp=>bO hp⟩;refine cN h PU _ fun p hp ep=>?_;have:p=a[i]:=XR h hi hp (ep.trans e2.symm);subst this;have v7:=(h.2.2 _ (ABW hi)).2.2;obtain⟨b1,b2,b3,b4,b5⟩:=TF v7 k;unfold dw at xN;rw[e1,ABX,AAF hi,e3]at xN;rw[e3];dsimp only at xN;refine fU v7 (fun tj=>?_) ?_
   ·grind
   ·by_cases hz:∃z∈a[i].2.2,z.1=k
    ·grind
    ·have h0:=Sy (l:=a[i].2.2) (k:=k) fun x hx e=>hz ⟨x,hx,e⟩;rw[h0]at xN;dsimp only at xN;have h8:=v7.2.2;omega
theorem bo{l:List Pk}{id:Int}{o:Pk}(h:P0 l id=some o)(hs:o.2.2.2.2=1)(hp:l.Pairwise fun a b=>a.1<b.1):P0 (Qp l) id=some o:=by
 obtain⟨hm,e⟩:=P6 h
 have hmo:o∈Qp l:=by unfold Qp;exact ABs.2 ⟨hm,AAS.2 hs⟩
 cases hq:P0 (Qp l) id with
 |none=>
  unfold P0 at hq;grind
 |some q=>
  obtain⟨h1,h2⟩:=P6 hq;unfold Qp at h1;have hqm:=(ABs.1 h1).1
  have:q=o:=by
   obtain⟨i,hi,rfl⟩:=ABY.1 hqm;obtain⟨j,hj,rfl⟩:=ABY.1 hm;rcases ABg i j with hl|hl|hl
   ·have:=ABQ.1 hp i j hi hj hl;omega
   ·subst hl;rfl
   ·have:=ABQ.1 hp j i hj hi hl;omega
  rw[this]
theorem DI.hZ{w h:Int}{c:List Int}{a:List PH}{nx:Int}{l:List Pk}{crew:List Pf}{ts:List PZ}(d:DI w h c a nx l crew ts):DI w h c a nx (Qp l) crew ts:=by
 obtain⟨b1,b2,b3,b4⟩:=d.bk
 have hm:∀o∈Qp l,o∈l:=fun o ho=>by unfold Qp at ho;grind
 have key:∀t∈ts,Sa a (Qp l) crew t:=fun t ht=>by have hT:=d.tk t ht;obtain⟨o,ho,hs,_⟩:=hT.ord;exact hT.same (fun _=>rfl) ((bo ho hs b3).trans ho.symm)
 exact { d with bk:=⟨b1,by unfold Qp;grind,by unfold Qp;grind,fun o ho=>b4 o (hm o ho)⟩,KN:=fun o ho=>d.KN o (hm o ho),aU:=fun o ho=>d.aU o (hm o ho),dk:=fun o ho=>d.dk o (hm o ho),tk:=key }
theorem DI.home{w h:Int}{c:List Int}{a:List PH}{nx:Int}{l:List Pk}{crew:List Pf}{ts:List PZ}(d:DI w h c a nx l crew ts){b:List PH}(hb:UB a b):∀p∈b,QJ c p.2.1=true:=fun p hp=>by obtain⟨q,hq,e⟩:=hb.2.2 p hp;rw[e];exact d.hm q hq
theorem DI.back{w h:Int}{c:List Int}{a:List PH}{nx:Int}{l:List Pk}{crew:List Pf}{ts:List PZ}(d:DI w h c a nx l crew ts)(id:Int)(ps:List O8):DI w h c (Qu VV a ps).1 nx (Qx l id 3) crew (ts.filter fun t => !(t.1==id)):=by have hb:=iz d.st ps;refine d.Dq hb.1 hb.2.1 (d.home hb) ⟨by omega,by omega⟩ List.filter_sublist fun t ht e=>?_;grind
theorem DI.kq{w h:Int}{c:List Int}{a:List PH}{nx:Int}{l:List Pk}{crew:List Pf}{ts:List PZ}(d:DI w h c a nx l crew ts)(PU k m:Int):DI w h c (Yg a PU k m).1 nx l crew ts:=by have hb:=kh d.st PU k m;exact d.oI hb.1 hb.2.1 (d.home hb)
theorem eW(n:Nat)(hn:PJ≤n){b:List Int}{i q:Int}(hcu:Cu b i)(id home:Int):Ok (iter n (Vh) (1,b,i,q,id,home,([]:List O8))) fun x=>(Vb x.2.2.2.2.2.2∧∀y∈x.2.2.2.2.2.2,y.2.2=0)∧x.2.2.2.2.1=id∧x.2.2.2.2.2.1=home∧Cu x.2.1 x.2.2.1:=by
 refine Ok.iter (fun k x=>x.1+(k:Int)=5∧1≤x.1∧x.2.2.2.2.2.2.length+k≤4∧(x.2.2.2.2.2.2.Pairwise (fun a b=>a.1<b.1)∧∀y∈x.2.2.2.2.2.2,1≤y.1∧y.1<x.1∧1≤y.2.1∧y.2.1≤5∧y.2.2=0)∧x.2.2.2.2.1=id∧x.2.2.2.2.2.1=home∧Cu x.2.1 x.2.2.1) (fun k x hx=>?_) (k:=4) ⟨by simp,by simp,by simp,⟨List.Pairwise.nil,(fun y hy=>by cases hy)⟩,rfl,rfl,hcu⟩ (by unfold PJ at hn;omega);obtain⟨h1,h0,h2,⟨h4,h5⟩,h6,h7,h3⟩:=hx;unfold Vh;refine Ok.cond (fun hb=>?_) fun hb=>Ok.pure (.inr ⟨_,rfl,⟨⟨h4,fun y hy=>?_,by show x.2.2.2.2.2.2.length≤8;clear hn;omega⟩,fun y hy=>(h5 y hy).2.2.2.2⟩,h6,h7,h3⟩)
 ·have hb:=AAq hb;refine Ok.bind (P:=fun z=>(z.2.2.2.2.2.length≤x.2.2.2.2.2.2.length+1∧z.2.2.2.2.2.Pairwise (fun a b=>a.1<b.1)∧∀y∈z.2.2.2.2.2,1≤y.1∧y.1<x.1+1∧1≤y.2.1∧y.2.1≤5∧y.2.2=0)∧z.2.2.2.1=id∧z.2.2.2.2.1=home∧Cu z.1 z.2.1) ((ok_int h3 (by simp)).bind fun v hv=>Ok.cond (fun hg=>Ok.guard (Rq (by clear hn;omega)) (Ok.pure ⟨⟨by show(x.2.2.2.2.2.2++[_]).length≤_;simp,?_,fun y hy=>?_⟩,h6,h7,hv.1⟩)) fun _=>Ok.pure ⟨⟨by show x.2.2.2.2.2.2.length≤_;omega,h4,fun y hy=>?_⟩,h6,h7,hv.1⟩) fun z hz=>Ok.pure (.inl ⟨_,rfl,k-1,⟨?_,?_,?_,⟨hz.1.2.1,fun y hy=>?_⟩,hz.2.1,hz.2.2.1,hz.2.2.2⟩,by clear hn;omega⟩)
  ·refine ABj.2 ⟨h4,List.pairwise_singleton _ _,fun y hy z hz=>?_⟩;rw[AA8.1 hz];exact(h5 y hy).2.1
  ·rcases AAy.1 hy with hy|hy
   ·obtain⟨g1,g2,g3,g4,g5⟩:=h5 y hy;exact⟨g1,by clear hn;omega,g3,g4,g5⟩
   ·rw[AA8.1 hy];have hg:=AAq hg;have hm:=hv.2;simp only[AAZ,List.not_mem_nil,or_false]at hm;refine⟨h0,by show x.1<x.1+1;clear hn;omega,by show 1≤v.1;clear hn;omega,by show v.1≤5;clear hn;omega,rfl⟩
  ·obtain⟨g1,g2,g3,g4,g5⟩:=h5 y hy;exact⟨g1,by clear hn;omega,g3,g4,g5⟩
  ·show PD (x.1+1)+_=_;rw[PF (by clear hn;omega) (by clear hn;omega)];clear hn;omega
  ·show 1≤PD (x.1+1);rw[PF (by clear hn;omega) (by clear hn;omega)];clear hn;omega
  ·have:=hz.1.1;show z.2.2.2.2.2.length+(k-1)≤4;clear hn;omega
  ·obtain⟨g1,g2,g3,g4,g5⟩:=hz.1.2.2 y hy;refine⟨g1,?_,g3,g4,g5⟩;show y.1<PD (x.1+1);rw[PF (by clear hn;omega) (by clear hn;omega)];exact g2
 grind
theorem eV(n:Nat)(hn:PJ≤n){b:List Int}{i q:Int}(hcu:Cu b i)(w h:Int)(c:List Int)(hf:PV w h c=true):Ok (V7 n b i q w h c) fun x=>Yn w h c x.1=true∧Cu x.2.1 x.2.2.1:=by
 have h100:=(Um hf).le;have hc:c.length≤1048576:=by clear hn;omega
 unfold V7;rw[U0 w h c hc hf 2 n hn,ABT]
 refine Ok.bind (P:=fun z=>(z.2.2.2.2.length≤8∧z.2.2.2.2.length≤(QH c 2 c.length).length∧∀(j:Nat)(hj:j<z.2.2.2.2.length),z.2.2.2.2[j].1=(j:Int)+1∧z.2.2.2.2[j].2.1=(QH c 2 c.length).getD j 0∧Vb z.2.2.2.2[j].2.2∧∀y∈z.2.2.2.2[j].2.2,y.2.2=0)∧Cu z.2.1 z.2.2.1)
  (Ok.iter (fun k x=>x.1+(k:Int)=8∧0≤x.1∧(x.2.2.2.2.length:Int)=x.1∧(x.2.2.2.2.length≤(QH c 2 c.length).length∧∀(j:Nat)(hj:j<x.2.2.2.2.length),x.2.2.2.2[j].1=(j:Int)+1∧x.2.2.2.2[j].2.1=(QH c 2 c.length).getD j 0∧Vb x.2.2.2.2[j].2.2∧∀y∈x.2.2.2.2[j].2.2,y.2.2=0)∧Cu x.2.1 x.2.2.1) (fun k x hx=>?_) (k:=8) ⟨by simp,by simp,by simp,⟨by simp,fun j hj=>by simp at hj⟩,hcu⟩ (by unfold PJ at hn;omega)) fun z hz=>Ok.pure ⟨?_,hz.2⟩
 ·obtain⟨h1,h0,h2,⟨h4,h5⟩,h3⟩:=hx;unfold Xz;refine Ok.bind (P:=fun v=>v=true→x.1<((QH c 2 c.length).length:Int)∧x.1<8) (Ok.cond (fun hb=>Ok.pure fun e=>⟨AAq hb,AAq e⟩) fun _=>Ok.pure fun e=>by cases e) fun v hv=>Ok.cond (fun hb=>?_) fun hb=>Ok.pure (.inr ⟨_,rfl,⟨by grind,h4,h5⟩,h3⟩);obtain⟨a1,a2⟩:=hv hb;refine Ok.guard (YA ⟨h0,a1⟩) ((Ok.get (by omega)).bind fun hm tv=>(eW n hn h3 _ _).bind fun u hu=>Ok.guard (Rq (by omega)) (Ok.pure (.inl ⟨_,rfl,k-1,⟨?_,?_,?_,⟨?_,fun j hj=>?_⟩,hu.2.2.2⟩,by omega⟩)))
  ·show PD (x.1+1)+_=_;rw[PF (by clear hn;omega) (by clear hn;omega)];omega
  ·show 0≤PD (x.1+1);rw[PF (by clear hn;omega) (by clear hn;omega)];omega
  ·show(((x.2.2.2.2++[_]).length:Nat):Int)=PD (x.1+1);rw[PF (by clear hn;omega) (by clear hn;omega),AA2,ABb];omega
  ·grind
  ·have hj2:j<x.2.2.2.2.length+1:=by have:=hj;change j<(x.2.2.2.2++[_]).length at this;rw[AA2,ABb]at this;exact this
   show(x.2.2.2.2++[(u.2.2.2.2.1,u.2.2.2.2.2.1,u.2.2.2.2.2.2)])[j].1=_∧(x.2.2.2.2++[(u.2.2.2.2.1,u.2.2.2.2.2.1,u.2.2.2.2.2.2)])[j].2.1=_∧Vb (x.2.2.2.2++[(u.2.2.2.2.1,u.2.2.2.2.2.1,u.2.2.2.2.2.2)])[j].2.2∧∀y∈(x.2.2.2.2++[(u.2.2.2.2.1,u.2.2.2.2.2.1,u.2.2.2.2.2.2)])[j].2.2,y.2.2=0;rw[List.getElem_append];by_cases e:j<x.2.2.2.2.length
   ·grind
   ·rw[dif_neg e];have ej:j=x.2.2.2.2.length:=by clear hn;omega
    simp only[List.getElem_singleton];refine⟨?_,?_,hu.1.1,hu.1.2⟩
    ·rw[hu.2.1,PF (by clear hn;omega) (by clear hn;omega)];clear hn;omega
    grind
 ·obtain⟨⟨z1,z2,z3⟩,_⟩:=hz;have hpw:=Zj c 2 c.length
  have uE:∀(j:Nat)(hj:j<z.2.2.2.2.length),∃m:Nat,z.2.2.2.2[j].2.1=(m:Int)∧m<c.length∧c.getD m 0=2:=fun j hj=>by
   have hj2:j<(QH c 2 c.length).length:=by clear hn;omega
   rw[(z3 j hj).2.1,show(QH c 2 c.length).getD j 0=(QH c 2 c.length)[j] by simp[hj2]];exact WI (ABW hj2)
  have hS:PN z.2.2.2.2:=by
   refine⟨by omega,ABQ.2 fun a b ha hb zF=>?_,fun p hp=>?_⟩
   ·have q1:=z3 a ha;have q2:=z3 b hb;have hal:a<(QH c 2 c.length).length:=by clear hn;omega
    have y6:b<(QH c 2 c.length).length:=by clear hn;omega
    have tX:=ABQ.1 hpw a b hal y6 zF;grind
   ·obtain⟨j,hj,rfl⟩:=ABY.1 hp;grind
  show Yn w h c z.2.2.2.2=true;unfold Yn;rw[hf,Pp.2 hS];simp only[ABp,AAG,AAU,AAR];refine⟨fun j hj=>?_,fun j hj=>?_⟩
  ·unfold Xa;grind
  ·obtain⟨m,e,hm,h2⟩:=uE j hj;unfold Yy;rw[AAF hj];dsimp only;rw[e,show(m:Int).toNat=m by clear hn;omega,h2];unfold P1;grind
theorem Tv.set{l:List Int}(h:Tv l){i:Nat}(hi:0<i){x:Int}(hx:0≤x∧x≤1000000):Tv (l.set i x):=by
 obtain⟨h1,h2,h3⟩:=h;refine⟨by rw[List.length_set];exact h1,fun y hy=>?_,?_⟩
 all_goals grind
theorem fC:∀(ps:List O8)(ou:List Int),(∀p∈ps,1≤p.2.1∧1≤p.2.2)→Tv ou→Tv (ik ou ps)
 | [],ou,_,h=>h
 |p::ps,ou,hp,h=>by
  obtain⟨q1,q2⟩:=hp p AAe
  have hstep:Tv (if ou.getD p.2.1.toNat 0+p.2.2≤1000000 then ou.set p.2.1.toNat (ou.getD p.2.1.toNat 0+p.2.2)else ou):=by
   split
   ·rename_i hle
    have h0:0≤ou.getD p.2.1.toNat 0:=by
     rw[List.getD];cases hq:ou[p.2.1.toNat]? with
     |none=>simp
     |some y=>exact(h.2.1 y (AAN hq)).1
    exact h.set (by omega) ⟨by omega,hle⟩
   ·exact h
  exact fC ps _ (fun q hq=>hp q (AAJ _ hq)) hstep
theorem cf{w h:Int}{c:List Int}{a:List PH}{nx:Int}{l:List Pk}{crew:List Pf}{ts:List PZ}(d:DI w h c a nx l crew ts)(t:PZ):∀p∈P4 l t,1≤p.2.1∧1≤p.2.2:=fun p hp=>by
 unfold P4 at hp;cases ho:P0 l t.1 with
 |none=>grind
 |some o=>
  rw[ho]at hp;have hpm:=(ABs.1 hp).1;obtain⟨_,_,⟨hI,_⟩,hpg,_⟩:=d.bk.2.2.2 o (P6 ho).1;obtain⟨q1,y,hy,e⟩:=hpg.1 p hpm;have:=hI.2.1 y hy;omega
theorem DI.jY{w h:Int}{c:List Int}{a:List PH}{nx:Int}{l:List Pk}{crew:List Pf}{ts:List PZ}(d:DI w h c a nx l crew ts)(t:PZ){ou:List Int}(ho:Tv ou):Tv (RA a ou l crew t).2.1:=by
 unfold RA;split
 ·exact ho
 ·split
  ·dsimp only;cases(Qu Y9 a (P4 l t)).2
   ·exact ho
   ·exact fC _ ou (cf d t) ho
  ·exact ho
theorem DI.cL{w h:Int}{c:List Int}{nx:Int}{l:List Pk}:∀(ts:List PZ)(s:lD),DI w h c s.1 nx l s.2.2.1 (s.2.2.2.1++ts)→Tv s.2.1→Tv (N.QO l ts s).2.1
 | [],s,_,ho=>ho
 |t::ts,s,d,ho=>by
  have h1:DI w h c (Qn l t s).1 nx l (Qn l t s).2.2.1 ((Qn l t s).2.2.2.1++ts)∧Tv (Qn l t s).2.1:=by
   unfold Qn;by_cases hg:X4 s.2.2.1 t=true
   ·rw[AAK hg]
    have ht:t.2.2.2≠1:=fun e=>by unfold X4 at hg;rw[show(t.2.2.2==1)=true from AAS.2 e]at hg;simp at hg
    refine⟨?_,d.jY t ho⟩;have:=d.iO ht s.2.1;grind
   ·grind
  exact DI.cL ts (Qn l t s) h1.1 h1.2
theorem iy{a:List PH}{PU k m:Int}(hc:(Yg a PU k m).2=0):P2 a PU k m=0:=by unfold Yg at hc;grind
structure DK(a:List PH)(nx:Int)(l:List Pk)(crew:List Pf)(ts:List PZ):Prop where
 sk:PN a
 bk:Vi nx l
 Zx:crew.length≤20
 ids:crew.Pairwise fun r s=>r.1<s.1
 XB:TP ts
 tk:∀t∈ts,Sa a l crew t
theorem DI.oQ{w h:Int}{c:List Int}{a:List PH}{nx:Int}{l:List Pk}{crew:List Pf}{ts:List PZ}(d:DI w h c a nx l crew ts):DK a nx l crew ts:=⟨d.st,d.bk,d.cw.Zx,d.cw.ids,d.XB,d.tk⟩
theorem jL.oQ{w h:Int}{c:List Int}{a:List PH}{nx:Int}{l:List Pk}{crew:List Pf}{ts:List PZ}{st ou:List Int}{nw:Int}(d:jL w h c a nx l crew ts st ou nw):DK a nx l crew ts:=⟨d.mJ,d.bk,d.cw.Zx,d.cw.ids,d.XB,d.tk⟩
theorem fS{crew:List Pf}(h:crew.Pairwise fun r s=>r.1<s.1){id:Int}{f:Pf→Pf}(hf:∀r,(f r).1=r.1):(WD crew id f).Pairwise fun r s=>r.1<s.1:=by
 have key:∀r,(bif r.1==id then f r else r:Pf).1=r.1:=fun r=>by grind
 unfold WD;rw[ABh];exact h.imp fun {r s} hrs=>by grind
theorem DK.jX{a:List PH}{nx:Int}{l:List Pk}{crew:List Pf}{x y:List PZ}{t:PZ}(d:DK a nx l crew (x++t::y))(ht:t.2.2.2≠1){b:List PH}(hb:PN b)(hsp:WH a b){s:Int}(hs:2≤s∧s≤4){f:Pf→Pf}(hf:∀r,(f r).1=r.1)
  (um:∀r,TO crew t.2.2.1=some r→(f r).2.2.1=TJ b l (t.1,t.2.1,t.2.2.1,s)∧(f r).2.2.2.1=decide (2<s)):DK b nx l (WD crew t.2.2.1 f) (x++(t.1,t.2.1,t.2.2.1,s)::y):=by
 have hT:=d.tk t (AAO _ AAe);obtain⟨o,ho,v7,wL⟩:=hT.ord;obtain⟨r0,hr0,_,_⟩:=hT.cP ht;obtain⟨q,hq⟩:=(hT.same hsp (k:=l) rfl).PU;refine {sk:=hb,bk:=d.bk,Zx:=by rw[cO];exact d.Zx,ids:=fS d.ids hf,XB:=d.XB.lU ht hs,tk:=fun u hu=>?_ }
 have xe:∀u,u∈x∨u∈y→Sa b l (WD crew t.2.2.1 f) u:=fun u hu=>(d.tk u (by
  grind)).other hsp hf fun e=>d.XB.two ht hu e
 rcases AAy.1 hu with hu|hu
 ·grind
 ·rcases AAZ.1 hu with rfl|hu
  ·refine⟨⟨o,ho,v7,wL⟩,⟨q,hq⟩,fun _=>⟨f r0,?_,(um r0 hr0).1,(um r0 hr0).2⟩⟩;rw[Z2 hf];show(TO crew t.2.2.1).map _=_;rw[hr0,AA9,show(r0.1==t.2.2.1)=true from AAS.2 (Pw hr0).2,ABU]
  grind
theorem DK.gone{a:List PH}{nx:Int}{l:List Pk}{crew:List Pf}{x y:List PZ}{t:PZ}(d:DK a nx l crew (x++t::y))(ht:t.2.2.2≠1){f:Pf→Pf}(hf:∀r,(f r).1=r.1):DK a nx l (WD crew t.2.2.1 f) (x++y):=by
 refine {sk:=d.sk,bk:=d.bk,Zx:=by rw[cO];exact d.Zx,ids:=fS d.ids hf,XB:=d.XB.sub ((List.Sublist.refl x).append (List.sublist_cons_self t y)),tk:=fun u hu=>?_ };have hu2:=AAy.1 hu
 exact(d.tk u (by
  grind)).other (fun _=>rfl) hf fun e=>d.XB.two ht hu2 e
theorem DK.iO{a:List PH}{nx:Int}{l:List Pk}{crew:List Pf}{x y:List PZ}{t:PZ}(d:DK a nx l crew (x++t::y))(ht:t.2.2.2≠1)(ou:List Int):
  DK (RA a ou l crew t).1 nx l (RA a ou l crew t).2.2.1 (x++(dq (RA a ou l crew t).2.2.2++y)):=by
 have hT:=d.tk t (AAO _ AAe);unfold RA;by_cases h2:t.2.2.2=2
 ·rw[AAK h2];exact d.jX ht d.sk (fun _=>rfl) (s:=3) ⟨by omega,by omega⟩ (fun r=>rfl) fun r hr=>⟨rfl,rfl⟩
 ·rw[AAM h2];by_cases h3:t.2.2.2=3
  ·rw[AAK h3];obtain⟨g1,g2,g3⟩:=ZA d.sk (P4 l t);refine d.jX ht g1 g2 (s:=4) ⟨by omega,by omega⟩ (fun r=>rfl) fun r hr=>⟨rfl,?_⟩;obtain⟨r',q1,_,q3⟩:=hT.cP ht;grind
  ·rw[AAM h3];exact d.gone ht fun r=>rfl
theorem DK.Dq{a:List PH}{nx:Int}{l:List Pk}{crew:List Pf}{ts:List PZ}(d:DK a nx l crew ts){id st:Int}(v7:1≤st∧st≤3)(xN:∀t∈ts,t.1≠id):DK a nx (Qx l id st) crew ts:=by
 have mem:∀q∈Qx l id st,∃o∈l,q=(bif o.1==id then(o.1,o.2.1,o.2.2.1,o.2.2.2.1,st)else o:Pk):=fun q hq=>by unfold Qx at hq;grind
 have key:∀o:Pk,(bif o.1==id then(o.1,o.2.1,o.2.2.1,o.2.2.2.1,st)else o:Pk).1=o.1∧(bif o.1==id then(o.1,o.2.1,o.2.2.1,o.2.2.2.1,st)else o:Pk).2.1=o.2.1∧(bif o.1==id then(o.1,o.2.1,o.2.2.1,o.2.2.2.1,st)else o:Pk).2.2.1=o.2.2.1∧(bif o.1==id then(o.1,o.2.1,o.2.2.1,o.2.2.2.1,st)else o:Pk).2.2.2.1=o.2.2.2.1:=fun o=>by grind
 obtain⟨b1,b2,b3,b4⟩:=d.bk;refine { d with bk:=⟨b1,by unfold Qx;grind,?_,fun q hq=>?_⟩,tk:=fun t ht=>(d.tk t ht).same (fun _=>rfl) (bp l id st t.1 (xN t ht)) }
 ·unfold Qx;rw[ABh];exact b3.imp fun {x y} hxy=>by grind
 ·obtain⟨o,ho,rfl⟩:=mem q hq;obtain⟨k1,k2,k3,k4⟩:=key o;obtain⟨g1,g2,g3,g4,g5⟩:=b4 o ho;unfold fV;rw[k1,k2,k3,k4];refine⟨g1,g2,g3,g4,?_⟩;cases(o.1==id)
  all_goals grind
def OB(B:Int)(ou:List Int):Prop:=ou.length=51∧∀x∈ou,0≤x∧x≤B
theorem OB.getD{B:Int}{ou:List Int}(h:OB B ou)(hB:0≤B)(i:Nat):0≤ou.getD i 0∧ou.getD i 0≤B:=by
 rw[List.getD];cases hq:ou[i]? with
 |none=>grind
 |some x=>exact h.2 x (AAN hq)
theorem OB.set{B C:Int}{ou:List Int}(h:OB B ou)(hBC:B≤C)(i:Nat){x:Int}(hx:0≤x∧x≤C):OB C (ou.set i x):=by
 refine⟨by rw[List.length_set];exact h.1,fun y hy=>?_⟩;rcases ABA hy with hy|rfl
 ·have:=h.2 y hy;omega
 ·exact hx
theorem Tv.ob{ou:List Int}(h:Tv ou):OB 1000000 ou:=⟨h.1,h.2.1⟩
def idx(N:Nat):List Int:=(List.range N).map fun i:Nat=>(i:Int)
theorem l6{N i:Nat}(h:i<N):(idx N)[i]?=some (i:Int):=by simp[idx,h]
theorem YU(N:Nat):(idx N).length=N:=by simp[idx]
theorem YV{N:Nat}{x:Int}:x∈idx N↔0≤x∧x<(N:Int):=by
 simp only[idx,AAs,AAR];constructor
 ·omega
 ·rintro ⟨h1,h2⟩;exact⟨x.toNat,by omega,by omega⟩
theorem dL(N:Nat):(idx N).Nodup:=by unfold idx List.Nodup;rw[ABh];exact AB5.imp fun {a b} h e=>h (by omega)
theorem jZ(N:Nat):idx (N+1)=idx N++[(N:Int)]:=by simp[idx,AB2]
abbrev Rb:=Int×Int×Int×Bool×Int
def Pe(crew:List Rb)(i:Int):Rb:=crew.getD i.toNat (0,0,0,false,0)
theorem ZR{crew:List Rb}{i:Int}(h:0≤i∧i<(crew.length:Int)):M8 crew i=some (Pe crew i):=by obtain⟨m,rfl⟩:∃m:Nat,i=m:=⟨i.toNat,by omega⟩;rw[PA (by omega)];simp[Pe,List.getD,AAF (show m<crew.length by omega)]
theorem RZ{crew:List Rb}{i:Nat}(h:i<crew.length):Pe crew (i:Int)=crew[i]:=by simp[Pe,List.getD,AAF h]
def mN(crew:List Rb):Prop:=∀a b:Int,0≤a→a<b→b<(crew.length:Int)→(Pe crew a).1<(Pe crew b).1
def XC(crew:List Rb)(a b:Int):Bool:=decide ((Pe crew a).2.2.2.2>(Pe crew b).2.2.2.2)||(decide ((Pe crew a).2.2.2.2=(Pe crew b).2.2.2.2)&&decide ((Pe crew a).1<(Pe crew b).1))
theorem cM{crew:List Rb}(h:mN crew){xs:List Int}(hx:∀x∈xs,0≤x∧x<(crew.length:Int)):Ord (XC crew) xs:=by
 refine⟨fun x=>by simp[XC],fun x y z h1 h2=>?_,fun x v8 y zt tj=>?_⟩
 ·simp only[XC,AAa,AAG,AAb]at h1 h2 ⊢;omega
 ·simp only[XC,AAa,AAG,AAb];have q1:=hx x v8;have q2:=hx y zt;rcases Int.lt_or_gt_of_ne tj with hl|hl
  ·have:=h x y q1.1 hl q2.2;omega
  ·have:=h y x q2.1 hl q1.2;omega
theorem Y2{crew:List Rb}{a b:Int}(ha:0≤a∧a<(crew.length:Int))(hb:0≤b∧b<(crew.length:Int)):Yb crew a b=some (XC crew a b):=by unfold Yb XC;rw[ZR ha,ZR hb];rfl
theorem fM{lt:Int→Int→Option Bool}{lb:Int→Int→Bool}{xs:List Int}(hx:∀x∈xs,∀y∈xs,lt x y=some (lb x y))(xN:∀x y,(lt x y).isSome=true→lt x y=some (lb x y))(h20:xs.length≤20)(ur:xs.Nodup)(ho:Ord lb xs)(htr:∀x y z,lt x y=some true→lt y z=some true→(lt x z).isSome=true):
  ∃l,Mj lt xs=some l∧l.Perm xs∧l.Pairwise fun x y=>lb x y=true:=by
 have hb:∀x y,OS lt x y=true↔lt x y=some true:=fun x y=>by
  unfold OS;cases lt x y with
  |none=>simp
  |some b=>simp
 have hord:Ord (OS lt) xs:=by
  refine⟨fun x=>?_,fun x y z h1 h2=>?_,fun x v8 y zt tj=>?_⟩
  ·cases h:OS lt x x with
   |false=>rfl
   |true=>
    have h:=(hb x x).1 h;have:=xN x x (by rw[h];rfl);rw[h,ho.rS]at this;cases this
  ·rw[hb]at h1 h2 ⊢;have e1:=xN x y (by rw[h1];rfl);have e2:=xN y z (by rw[h2];rfl);rw[h1]at e1;rw[h2]at e2;injection e1 with e1;injection e2 with e2
   rw[xN x z (htr x y z h1 h2),ho.tr x y z e1.symm e2.symm]
  ·rw[hb,hb,hx x v8 y zt,hx y zt x v8];rcases ho.SZ x v8 y zt tj with h|h
   ·exact .inl (by rw[h])
   ·exact .inr (by rw[h])
 obtain⟨l,h1,h2,h3⟩:=kH (lt:=lt) (xs:=xs) (fun x h y h'=>by rw[hx x h y h'];rfl) h20 ur hord;refine⟨l,h1,h2,AB7 (fun {a b} ha th h=>?_) h3⟩;grind
theorem cU{crew:List Rb}(h:mN crew)(h20:crew.length≤20)(n:Nat)(hn:PJ≤n):∃l,Xd n crew=some l∧l.Perm (idx crew.length)∧l.Pairwise fun x y=>XC crew x y=true:=by
 have hB:1048576≤n:=AAw (by decide) hn
 have xw:iter n (TK crew) (0,[])=some ((crew.length:Int),idx crew.length):=by
  have:=Pn (TK crew) (fun i=>((i:Int),idx i)) crew.length ((crew.length:Int),idx crew.length) (fun i hi=>by
   have hm:decide ((idx i).length+[(i:Int)].length≤Dh)=true:=by rw[AAb,YU];simp[Dh];omega
   simp only[TK,hm,O9 hi (by omega),jZ];rw[show decide ((i:Int)<(crew.length:Int))=true by simpa using hi];rfl) (by simp[TK]) n (by omega)
  simpa[idx]using this
 have hm:∀x∈idx crew.length,0≤x∧x<(crew.length:Int):=fun x hx=>YV.1 hx
 have hv:∀x y,(Yb crew x y).isSome=true→(0≤x∧x<(crew.length:Int))∧(0≤y∧y<(crew.length:Int)):=fun x y h=>by
  unfold Yb at h;cases hx:M8 crew x with
  |none=>rw[hx]at h;cases h
  |some p=>
   cases hy:M8 crew y with
   |none=>rw[hx,hy]at h;cases h
   |some q=>
    obtain⟨k,rfl,hk,_⟩:=dZ hx;obtain⟨k',rfl,u7,_⟩:=dZ hy;omega
 obtain⟨l,h1,h2,h3⟩:=fM (lt:=Yb crew) (lb:=XC crew) (xs:=idx crew.length) (fun x hx y hy=>Y2 (hm x hx) (hm y hy)) (fun x y h=>Y2 (hv x y h).1 (hv x y h).2) (by rw[YU];exact h20) (dL _) (cM h hm)
  (fun x y z h1 h2=>by rw[Y2 (hv x y (by rw[h1];rfl)).1 (hv y z (by rw[h2];rfl)).2];rfl)
 refine⟨l,?_,h2,h3⟩;unfold Xd;grind
theorem cu{crew:List Rb}(h:mN crew)(h20:crew.length≤20)(n:Nat)(hn:PJ≤n):∃l,Wf n crew=some l∧l.Perm (idx crew.length)∧l.Pairwise fun x y=>XC crew x y=true:=by
 have hB:1048576≤n:=AAw (by decide) hn;have hm:∀x∈idx crew.length,0≤x∧x<(crew.length:Int):=fun x hx=>YV.1 hx
 obtain⟨l,h1,h2,h3⟩:=bZ (VJ n crew) (XC crew) (idx crew.length) (dL _) (cM h hm) (fun i x l hx hl tX wJ=>by
   rw[YU]at tX;rw[l6 (by omega)]at hx;injection hx with hx
   subst hx;have hi:i<crew.length:=by omega
   have hir:=ZR (crew:=crew) (i:=(i:Int)) ⟨by omega,by omega⟩
   have step:∀k y z,l[k]?=some y→TW crew (l,(i:Int)) (((k+1:Nat):Int),hole l (k+1) z)=some (bif XC crew (i:Int) y then .inl ((k:Int),hole l k y)else .inr (((k+1:Nat):Int),hole l (k+1) z)):=by
    intro k y z hk;have hkl:k<l.length:=(AAH.1 hk).1;have hyr:=ZR (hm y (wJ y (AAN hk)));have hw:PD (((k+1:Nat):Int)-1)=(k:Int):=by rw[PF (by omega) (by omega)];omega
    have hi1:Ob (hole l (k+1) z) (k:Int)=true:=PE (by rw[R3 (by omega)];omega);have hi2:Ob (hole l (k+1) z) ((k+1:Nat):Int)=true:=PE (by rw[R3 (by omega)];omega);simp only[TW,hw,hi1,hi2,ABX,bC hk,ABT,hyr,hir,P5,bN hk,ABU];rw[show decide (((k+1:Nat):Int)>0)=true by rw[AAb];omega]
    have e:XC crew (i:Int) y=(decide ((Pe crew y).2.2.2.2<(Pe crew (i:Int)).2.2.2.2)||(((Pe crew y).2.2.2.2==(Pe crew (i:Int)).2.2.2.2)&&decide ((Pe crew y).1>(Pe crew (i:Int)).1))):=by unfold XC;rw[AB3];simp only[AAa,AAG,AAb,AAS];omega
    rw[e];generalize decide ((Pe crew y).2.2.2.2<(Pe crew (i:Int)).2.2.2.2)=b1;generalize ((Pe crew y).2.2.2.2==(Pe crew (i:Int)).2.2.2.2)=b2;generalize decide ((Pe crew y).1>(Pe crew (i:Int)).1)=b3;cases b1<;>cases b2<;>cases b3<;>rfl
   obtain⟨k,z,e,hk,q1,q2⟩:=eS (TW crew (l,(i:Int))) (XC crew (i:Int)) l (fun k y z hk hy=>by rw[step k y z hk,hy];rfl) (fun k y z hk hy=>by rw[step k y z hk,hy];rfl) (fun z=>by simp[TW]) n (by omega) (i:Int);refine⟨k,hk,?_,q1,q2⟩;have hmr:decide (l.length+[(i:Int)].length≤Dh)=true:=by rw[AAb];simp[Dh];omega
   simp only[VJ,hmr,e,ABT,PE (show k<(hole l k z).length by rw[R3 hk];omega),ABX,P5,Zp hk,O9 hi (by omega),ABU];grind) (fun l=>by simp[VJ,YU]) n (by rw[YU];omega)
 refine⟨l,?_,h2,h3⟩;unfold Wf;rw[h1];rfl
theorem kK{crew:List Rb}(h:mN crew)(h20:crew.length≤20)(n:Nat)(hn:PJ≤n):∃l,Xd n crew=some l∧Wf n crew=some l∧l.Perm (idx crew.length):=by obtain⟨a,a1,a2,a3⟩:=cU h h20 n hn;obtain⟨b,b1,b2,b3⟩:=cu h h20 n hn;have:a=b:=Y6 (cM h fun x hx=>YV.1 hx) a3 b3 a2 b2;grind
theorem T5(r ka kb a b:Int):RG r ka kb a b=true↔ka<kb∨(ka=kb∧((a≠r∧b=r)∨((a=r↔b=r)∧a<b))):=by unfold RG;grind
theorem Wq(r:Int)(key:Int→Int)(xs:List Int):Ord (fun a b=>RG r (key a) (key b) a b) xs:=by
 refine⟨fun x=>?_,fun x y z h1 h2=>?_,fun x _ y _ tj=>?_⟩
 ·cases h:RG r (key x) (key x) x x with
  |false=>rfl
  |true=>rw[T5]at h;omega
 ·rw[T5]at h1 h2 ⊢;omega
 ·rw[T5,T5];omega
theorem dg{r k1 k2 l1 l2 a b:Int}(h1:k1<k2↔l1<l2)(h2:k1=k2↔l1=l2):RG r k1 k2 a b=RG r l1 l2 a b:=by rw[AB3,T5,T5,h1,h2]
def Ux(c far:List Int)(v:Int):Int:=bif decide (PC far v<0)then(c.length:Int)+1 else PC far v
theorem Xk{c far:List Int}(hc:c.length≤100){r a b:Int}(ha:0≤a∧a<(far.length:Int))(hb:0≤b∧b<(far.length:Int)):WG far c r a b=some (RG r (Ux c far a) (Ux c far b) a b):=by unfold WG fq;rw[WU ha,WU hb,show IntKind.wrap .i64 ((c.length:Int)+1)=(c.length:Int)+1 from PF (by omega) (by omega)];rfl
theorem Vs{c far:List Int}{r x y:Int}(h:(WG far c r x y).isSome=true):(0≤x∧x<(far.length:Int))∧(0≤y∧y<(far.length:Int)):=by
 unfold WG at h;cases hx:fq c far x with
 |none=>grind
 |some p=>
  cases hy:fq c far y with
  |none=>grind
  |some q=>
   obtain⟨k,_,rfl,hk,_⟩:=dN hx;obtain⟨k',_,rfl,u7,_⟩:=dN hy;omega
structure Std(c:List Int)(r:Rb):Prop where
 dX:0≤r.2.1∧r.2.1<(c.length:Int)
 oM:PC c r.2.1≠0
 goal:r.2.2.1 = -1∨((0≤r.2.2.1∧r.2.2.1<(c.length:Int))∧PC c r.2.2.1≠0)
def Tw(w h:Int)(c:List Int)(r:Rb):List Int:=((RX w h c r.2.1 false).filter fun k => !r.2.2.2.1||(PC c k != 2||k==r.2.2.1))++[r.2.1]
def Vc(w h:Int)(c:List Int)(r:Rb):List Int:=(RX w h c r.2.1 r.2.2.2.1++[r.2.1])++(bif decide (r.2.2.1≥0)&&(!((RX w h c r.2.1 r.2.2.2.1++[r.2.1]).any fun x=>x==r.2.2.1)&&(QR w h r.2.1).any fun x=>x==r.2.2.1)then [r.2.2.1]else [])
theorem Yr{w h:Int}{c:List Int}(f:iE w h c){r:Rb}(s:Std c r):(Vc w h c r).Perm (Tw w h c r)∧(Tw w h c r).Nodup∧(∀v∈Tw w h c r,(0≤v∧v<(c.length:Int))∧PC c v≠0)∧(Tw w h c r).length≤5:=by
 obtain⟨n1,n2,n3⟩:=ZN f s.dX false;obtain⟨m1,m2,m3⟩:=ZN f s.dX r.2.2.2.1
 have ndS:(Tw w h c r).Nodup:=by unfold Tw;rw[AAV];refine⟨n2.filter _,by simp,fun a ha b hb=>?_⟩;rw[AA8.1 hb];exact(n1 a (ABs.1 ha).1).2
 have ndI:(Vc w h c r).Nodup:=by
  unfold Vc
  have nd1:(RX w h c r.2.1 r.2.2.2.1++[r.2.1]).Nodup:=by rw[AAV];refine⟨m2,by simp,fun a ha b hb=>?_⟩;rw[AA8.1 hb];exact(m1 a ha).2
  cases hb:(decide (r.2.2.1≥0)&&(!((RX w h c r.2.1 r.2.2.2.1++[r.2.1]).any fun x=>x==r.2.2.1)&&(QR w h r.2.1).any fun x=>x==r.2.2.1))with
  |false=>grind
  |true=>
   grind
 have memN:∀a v,v∈RX w h c r.2.1 a↔v∈QR w h r.2.1∧PC c v≠0∧¬(a=true∧PC c v=2):=by
  intro a v;unfold RX;rw[ABs];simp only[AAG,ABz,ne_eq,AAT,ACD,ABa];constructor
  ·grind
  ·grind
 have memS:∀v,v∈Tw w h c r↔v=r.2.1∨(v∈QR w h r.2.1∧PC c v≠0∧(r.2.2.2.1=false∨PC c v≠2∨v=r.2.2.1)):=by
  intro v;unfold Tw;rw[AAy,ABs,memN];simp only[AA8,AAa,AAT,ABz,ne_eq,AAS];constructor
  ·grind
  ·grind
 have memI:∀v,v∈Vc w h c r↔v=r.2.1∨(v∈QR w h r.2.1∧PC c v≠0∧¬(r.2.2.2.1=true∧PC c v=2))∨(r.2.2.1≥0∧r.2.2.1∈QR w h r.2.1∧v=r.2.2.1):=by
  intro v;unfold Vc;rw[AAy,AAy,memN];cases hb:(decide (r.2.2.1≥0)&&(!((RX w h c r.2.1 r.2.2.2.1++[r.2.1]).any fun x=>x==r.2.2.1)&&(QR w h r.2.1).any fun x=>x==r.2.2.1))with
  |false=>
   grind
  |true=>
   grind
 refine⟨(List.perm_ext_iff_of_nodup ndI ndS).2 fun v=>?_,ndS,fun v hv=>?_,?_⟩
 ·rw[memI,memS];constructor
  ·rintro (h|⟨h1,h2,h3⟩|⟨h1,h2,rfl⟩)
   ·exact .inl h
   ·refine .inr ⟨h1,h2,?_⟩;cases hl:r.2.2.2.1 with
    |false=>exact .inl rfl
    |true=>exact .inr (.inl fun h=>h3 ⟨hl,h⟩)
   ·refine .inr ⟨h2,?_,.inr (.inr rfl)⟩;rcases s.goal with hg|hg
    ·omega
    ·exact hg.2
  grind
 ·rcases(memS v).1 hv with rfl|⟨h1,h2,_⟩
  ·exact⟨s.dX,s.oM⟩
  ·have:=(XG (f.cell s.dX)).1 _ h1;grind
 ·unfold Tw;grind
theorem gf{c:List Int}{i:Int}(h:0≤i∧i<(c.length:Int))(hk:PC c i≠0):QJ c i=true:=by unfold QJ P1;rw[ABZ h.1,ABZ (show i≤(c.length:Int)-1 by omega)];simpa[PC]using hk
structure mQ(w h:Int)(c:List Int)(r:Rb)(far F:List Int):Prop where
 len:far.length=c.length
 Mp:∀x∈far, -1≤x∧x≤(c.length:Int)
 neg:r.2.2.1<0→F=[]∧far=(List.replicate c.length 1).set r.2.1.toNat 0
 pos:0≤r.2.2.1→F=far∧∀n,PJ≤n→Ur n w h c r.2.2.1 r.2.2.2.1=some far
 spec:∀n,PJ≤n→TE n w h c r.1 r.2.1 r.2.2.1 r.2.2.2.1 r.2.2.2.2=some F
theorem ly{w h:Int}{c:List Int}(f:iE w h c){r:Rb}(s:Std c r):∃far F,mQ w h c r far F:=by
 have hN:=f.le;by_cases hg:r.2.2.1<0
 ·refine⟨(List.replicate c.length 1).set r.2.1.toNat 0,[],by simp,fun x hx=>?_,fun _=>⟨rfl,rfl⟩,fun h=>absurd h (by omega),fun n hn=>?_⟩
  ·grind
  ·unfold TE;grind
 ·have hgr:(0≤r.2.2.1∧r.2.2.1<(c.length:Int)):=by
   rcases s.goal with h|h
   ·omega
   ·exact h.1
  obtain⟨F,h12,h3,h4⟩:=eN f hgr r.2.2.2.1;refine⟨F,F,h3,fun x hx=>?_,fun h=>absurd h hg,fun _=>⟨rfl,fun n hn=>(h12 n hn).2⟩,fun n hn=>?_⟩
  ·grind
  ·unfold TE;grind
theorem ZG(c:List Int)(hl:c.length≤100)(n:Nat)(hn:PJ≤n):iter n (TZ c) (0,List.replicate (Int.toNat (c.length:Int)) 0)=some ((c.length:Int),List.replicate c.length 1):=by have hB:1048576≤n:=AAw (by decide) hn;rw[ABX];refine fI _ c.length 1 (fun i out hi ho=>?_) (fun out ho=>by simp[TZ]) n (by omega);simp only[TZ,PE (ho▸hi),O9 hi (by omega),P5,ABX,ABU,List.length_replicate];grind
theorem ae{w h:Int}{c:List Int}(hf:PV w h c=true){r:Rb}(s:Std c r)(n:Nat)(hn:PJ≤n){far F:List Int}(hfar:mQ w h c r far F):
  ∃C,UH n w h c r.1 r.2.1 r.2.2.1 r.2.2.2.1 r.2.2.2.2=some C∧C.Perm (Vc w h c r)∧C.Pairwise fun a b=>RG r.2.1 (Ux c far a) (Ux c far b) a b=true:=by
 have f:=Um hf;have hN:=f.le;have hB:1048576≤n:=AAw (by decide) hn;obtain⟨pm,nd,rng,l5⟩:=Yr f s
 have v7:RP n w h c r.1 r.2.1 r.2.2.1 r.2.2.2.1 r.2.2.2.2=some true:=by
  rw[XO w h c (by omega) hf r n hn,gf s.dX s.oM];rcases s.goal with hg|⟨g1,g2⟩
  ·rw[hg];rfl
  ·rw[gf g1 g2];simp
 obtain⟨m1,m2,m3⟩:=ZN f s.dX r.2.2.2.1;have hb4:=(XG (f.cell s.dX)).2.2;have hm1:decide ((RX w h c r.2.1 r.2.2.2.1).length+[r.2.1].length≤Dh)=true:=by rw[AAb];simp[Dh];omega
 have hm2:decide ((RX w h c r.2.1 r.2.2.2.1++[r.2.1]).length+[r.2.2.1].length≤Dh)=true:=by rw[AAb];simp[Dh];omega
 have hmA:decide ((0:Int)≤(c.length:Int))=true:=by simp
 have hmB:decide ((c.length:Int)≤(Dh:Int))=true:=by rw[AAb];unfold Dh;omega
 have tS:Ob (List.replicate c.length (1:Int)) r.2.1=true:=(TH (by simpa using s.dX)).1;have hI1:Qo n (RX w h c r.2.1 r.2.2.2.1++[r.2.1]) r.2.2.1=some ((RX w h c r.2.1 r.2.2.2.1++[r.2.1]).any fun x=>x==r.2.2.1):=by rw[XL];exact QC _ (by simp;omega) _ n hn
 have hI2:Qo n (QR w h r.2.1) r.2.2.1=some ((QR w h r.2.1).any fun x=>x==r.2.2.1):=by rw[XL];exact QC _ (by omega) _ n hn
 have hrI:∀x∈Vc w h c r,0≤x∧x<(far.length:Int):=fun x hx=>by rw[hfar.len];grind
 obtain⟨C,e1,e2,e3⟩:=fM (lt:=WG far c r.2.1) (lb:=fun a b=>RG r.2.1 (Ux c far a) (Ux c far b) a b) (xs:=Vc w h c r) (fun x hx y hy=>Xk hN (hrI x hx) (hrI y hy)) (fun x y hxy=>Xk hN (Vs hxy).1 (Vs hxy).2) (by rw[pm.length_eq];omega) (pm.nodup_iff.2 nd) (Wq _ _ _)
  (fun x y z h1 h2=>by rw[Xk hN (Vs (by rw[h1];rfl)).1 (Vs (by rw[h2];rfl)).2];rfl)
 refine⟨C,?_,e2,e3⟩;unfold UH;simp only[X6,Pu w h c (by omega) n hn,hf,v7,ABT,ABc,ABV,ZK f s.dX r.2.2.2.1 n hn,hm1,ABU,hI1,dD,Zi (f.cell s.dX),hI2,hm2,hmA,hmB,decide_true,ACE,ZG c hN n hn,tS,P5];by_cases hg:r.2.2.1<0
 ·obtain⟨_,um⟩:=hfar.neg hg;have hd:decide (r.2.2.1≥0)=false:=by rw[AAf];omega
  have hc0:Vc w h c r=RX w h c r.2.1 r.2.2.2.1++[r.2.1]:=by unfold Vc;rw[hd];simp
  grind
 ·obtain⟨_,um⟩:=hfar.pos (by omega);have hd:decide (r.2.2.1≥0)=true:=by rw[AAb];omega
  have hc0:Vc w h c r=(RX w h c r.2.1 r.2.2.2.1++[r.2.1])++(bif !((RX w h c r.2.1 r.2.2.2.1++[r.2.1]).any fun x=>x==r.2.2.1)&&(QR w h r.2.1).any fun x=>x==r.2.2.1 then [r.2.2.1]else []):=by unfold Vc;rw[hd];rfl
  rw[hd,um n hn]
  revert hc0
  generalize ((RX w h c r.2.1 r.2.2.2.1++[r.2.1]).any fun x=>x==r.2.2.1)=b1;generalize ((QR w h r.2.1).any fun x=>x==r.2.2.1)=b2;intro hc0;cases b1<;>cases b2<;>simp only[ABc,ABm,ABp,ABu,ABU,ABV,ABw,ABT]at hc0 ⊢ <;> rw[←hc0,e1]<;>rfl
theorem ko{w h:Int}{c:List Int}(hN:c.length≤100){r:Rb}(s:Std c r){far F:List Int}(hfar:mQ w h c r far F):
  ∃rk:Int→Int,(∀v,0≤v∧v<(c.length:Int)→T9 r.1 r.2.1 r.2.2.1 r.2.2.2.1 r.2.2.2.2 F v=some (rk v))∧
   ∀a b,(0≤a∧a<(c.length:Int))→(0≤b∧b<(c.length:Int))→(rk a<rk b↔Ux c far a<Ux c far b)∧(rk a=rk b↔Ux c far a=Ux c far b):=by
 by_cases hg:r.2.2.1<0
 ·obtain⟨_,um⟩:=hfar.neg hg
  have hk:∀v,0≤v∧v<(c.length:Int)→Ux c far v=bif v==r.2.1 then 0 else 1:=fun v hv=>by
   have:PC far v=bif v==r.2.1 then 0 else 1:=by
    rw[um];unfold PC;rw[List.getD_eq_getElem?_getD,List.getElem?_set];by_cases he:v=r.2.1
    ·subst he;rw[AAK rfl,AAK (by simp;omega)];simp
    ·have tj:¬r.2.1.toNat=v.toNat:=fun e=>he (by have:=s.dX;omega);rw[AAM tj,List.getElem?_replicate,AAK (by omega),show(v==r.2.1)=false by simpa using he];rfl
   unfold Ux;rw[this];cases(v==r.2.1)<;>rfl
  refine⟨fun v=>bif v==r.2.1 then 0 else 1,fun v hv=>?_,fun a b ha hb=>?_⟩
  ·unfold T9;rw[ABZ hg];show _=some (bif v==r.2.1 then 0 else 1);cases(v==r.2.1)<;>rfl
  grind
 ·obtain⟨hF,_⟩:=hfar.pos (by omega);have hb:∀v,0≤v∧v<(c.length:Int) → -1≤PC far v∧PC far v≤(c.length:Int):=fun v hv=>hfar.Mp _ (TH (by rw[hfar.len];exact hv)).2.2;refine⟨fun v=>bif decide (PC far v<0)then 1000 else PC far v,fun v hv=>?_,fun a b ha th=>?_⟩
  ·unfold T9;rw[ABd hg,hF];simp only[ABV,WU (c:=far) (i:=v) (by rw[hfar.len];exact hv),ABT];grind
  ·have q1:=hb a ha;have q2:=hb b th;unfold Ux;grind
theorem iI{w h:Int}{c:List Int}(hN:c.length≤100){r:Rb}(s:Std c r){far F:List Int}(hfar:mQ w h c r far F){a b:Int}(ha:0≤a∧a<(c.length:Int))(hb:0≤b∧b<(c.length:Int)):
  VQ r.1 r.2.1 r.2.2.1 r.2.2.2.1 r.2.2.2.2 F a b=some (RG r.2.1 (Ux c far a) (Ux c far b) a b):=by
 obtain⟨rk,h1,h2⟩:=ko hN s hfar;obtain⟨q1,q2⟩:=h2 a b ha hb;rw[←dg q1 q2];unfold VQ RG;grind
theorem Xw{w h:Int}{c:List Int}(f:iE w h c){r:Rb}(s:Std c r)(n:Nat)(hn:PJ≤n){far F:List Int}(hfar:mQ w h c r far F):
  ∃C,Ro n w h c r.1 r.2.1 r.2.2.1 r.2.2.2.1 r.2.2.2.2 F=some C∧C.Perm (Tw w h c r)∧C.Pairwise fun a b=>RG r.2.1 (Ux c far a) (Ux c far b) a b=true:=by
 have hN:=f.le;have hB:1048576≤n:=AAw (by decide) hn;obtain⟨pm,nd,rng,l5⟩:=Yr f s;obtain⟨m1,m2,m3⟩:=ZN f s.dX false
 have zK:=X5 (SW c r.2.2.1 r.2.2.2.1 (RX w h c r.2.1 false)) (RX w h c r.2.1 false) (fun k => !r.2.2.2.1||(PC c k != 2||k==r.2.2.1)) (fun j x out hx hj ho=>by
  have hxm:=m1 x (AAN hx);have hm:decide (out.length+[x].length≤Dh)=true:=by rw[AAb];simp[Dh];omega
  simp only[SW,PE hj,ABX,hx,ABT,WU (c:=c) (i:=x) hxm.1,O9 hj (by omega),ABU,hm];grind) (fun out=>by simp[SW]) n (by omega)
 have hcS:(RX w h c r.2.1 false).filter (fun k => !r.2.2.2.1||(PC c k != 2||k==r.2.2.1))++[r.2.1]=Tw w h c r:=rfl;generalize hx9:(RX w h c r.2.1 false).filter (fun k => !r.2.2.2.1||(PC c k != 2||k==r.2.2.1))=x9 at zK hcS;have hx9l:x9.length≤4:=by rw[←hx9];exact AAw (ABt _ _) m3
 generalize hj9:((RX w h c r.2.1 false).length:Int)=j9 at zK
 obtain⟨l,h1,h2,h3⟩:=bZ (SX n r.1 r.2.1 r.2.2.1 r.2.2.2.1 r.2.2.2.2 F (x9,j9)) (fun a b=>RG r.2.1 (Ux c far a) (Ux c far b) a b) (Tw w h c r) nd (Wq _ _ _) (fun i x l hx hl tX wJ=>by
   have hi:i<(Tw w h c r).length:=by omega
   have hxr:=(rng x (AAN hx)).1
   have step:∀k y z,l[k]?=some y→RL r.1 r.2.1 r.2.2.1 r.2.2.2.1 r.2.2.2.2 F (x9,j9) (l,(i:Int)) (((k+1:Nat):Int),hole l (k+1) z)=some (bif RG r.2.1 (Ux c far x) (Ux c far y) x y then .inl ((k:Int),hole l k y)else .inr (((k+1:Nat):Int),hole l (k+1) z)):=by
    intro k y z hk;have hkl:k<l.length:=(AAH.1 hk).1;have hyr:=(rng y (wJ y (AAN hk))).1;have hw:PD (((k+1:Nat):Int)-1)=(k:Int):=by rw[PF (by omega) (by omega)];omega
    have hi1:Ob (hole l (k+1) z) (k:Int)=true:=PE (by rw[R3 (by omega)];omega);have hi2:Ob (hole l (k+1) z) ((k+1:Nat):Int)=true:=PE (by rw[R3 (by omega)];omega);simp only[RL,hcS,hw,hi1,hi2,PE hi,hx,ABX,bC hk,ABT,iI hN s hfar hxr hyr,P5,bN hk,ABU];rw[show decide (((k+1:Nat):Int)>0)=true by rw[AAb];omega];cases RG r.2.1 (Ux c far x) (Ux c far y) x y<;>rfl
   obtain⟨k,z,e,hk,q1,q2⟩:=eS (RL r.1 r.2.1 r.2.2.1 r.2.2.2.1 r.2.2.2.2 F (x9,j9) (l,(i:Int))) (fun y=>RG r.2.1 (Ux c far x) (Ux c far y) x y) l (fun k y z hk hy=>by rw[step k y z hk,hy];rfl) (fun k y z hk hy=>by rw[step k y z hk,hy];rfl) (fun z=>by simp[RL]) n (by omega) x;refine⟨k,hk,?_,q1,q2⟩;have hmr:decide (l.length+[x].length≤Dh)=true:=by rw[AAb];simp[Dh];omega
   simp only[SX,hcS,hmr,e,PE hi,hx,ABT,PE (show k<(hole l k z).length by rw[R3 hk];omega),ABX,P5,Zp hk,O9 hi (by omega),ABU];grind) (fun l=>by simp[SX,hcS]) n (by omega)
 refine⟨l,?_,h2,h3⟩;have hm:decide (x9.length+[r.2.1].length≤Dh)=true:=by rw[AAb];simp[Dh];omega
 unfold Ro;simp only[Ze f s.dX false n hn,ABT,zK,hm,ABU,h1]
theorem XX{w h:Int}{c:List Int}(hf:PV w h c=true){r:Rb}(s:Std c r):
  ∃F C,(∀n,PJ≤n→TE n w h c r.1 r.2.1 r.2.2.1 r.2.2.2.1 r.2.2.2.2=some F∧Ro n w h c r.1 r.2.1 r.2.2.1 r.2.2.2.1 r.2.2.2.2 F=some C∧UH n w h c r.1 r.2.1 r.2.2.1 r.2.2.2.1 r.2.2.2.2=some C)∧
   (∀v∈C,(0≤v∧v<(c.length:Int))∧PC c v≠0)∧C.Nodup∧C.length≤5:=by
 have f:=Um hf;obtain⟨far,F,hfar⟩:=ly f s;obtain⟨B,b1,b2,b3⟩:=Xw f s PJ (AAd _) hfar;obtain⟨pm,nd,rng,l5⟩:=Yr f s;refine⟨F,B,fun n hn=>⟨hfar.spec n hn,?_,?_⟩,fun v hv=>rng v (b2.mem_iff.1 hv),b2.nodup_iff.2 nd,by rw[b2.length_eq];exact l5⟩
 ·obtain⟨A,a1,a2,a3⟩:=Xw f s n hn hfar;rw[a1,Y6 (Wq r.2.1 (Ux c far) (Tw w h c r)) a3 b3 a2 b2]
 ·obtain⟨A,a1,a2,a3⟩:=ae hf s n hn hfar;rw[a1,Y6 (Wq r.2.1 (Ux c far) (Tw w h c r)) a3 b3 (a2.trans pm) b2]
theorem YG{l:List Int}{i k v:Int}(hi:0≤i∧i<(l.length:Int))(hk:0≤k):PC (l.set i.toNat v) k=if k=i then v else PC l k:=by unfold PC;grind
theorem gH{l:List Int}{v:Int}:v∈l↔∃k:Int,(0≤k∧k<(l.length:Int))∧PC l k=v:=by
 constructor
 ·intro h;obtain⟨j,hj,e⟩:=ABY.1 h;exact⟨j,⟨by omega,by omega⟩,by rw[←e];simp[PC,List.getD,AAF hj]⟩
 ·rintro ⟨k,hk,rfl⟩
  exact(TH hk).2.2
def YF(l:List Int):Nat:=l.countP fun x=>decide (x<0)
theorem ZO{l:List Int}{i v:Int}(hi:0≤i∧i<(l.length:Int)):YF (l.set i.toNat v)+(if PC l i<0 then 1 else 0)=YF l+(if v<0 then 1 else 0):=by obtain⟨_,e1,m⟩:=TH hi;obtain⟨hil,e2⟩:=AAH.1 e1;unfold YF;grind
structure kN(c:List Int)(crew:List Rb):Prop where
 Zx:crew.length≤20
 jH:∀i,0≤i→i<(crew.length:Int)→Std c (Pe crew i)
 cQ:∀i j,0≤i→i<(crew.length:Int)→0≤j→j<(crew.length:Int)→(Pe crew i).2.1=(Pe crew j).2.1→i=j
def iD(c:List Int)(v:Int):Prop:=(0≤v∧v<(c.length:Int))∧PC c v≠0
structure oL(c:List Int)(crew:List Rb)(next:List Int)(i p:Int):Prop where
 len:next.length=crew.length
 ir:0≤i∧i<(crew.length:Int)
 neg:PC next i<0
 vals:∀k,0≤k→k<(crew.length:Int)→PC next k = -1∨iD c (PC next k)
 D:∀a b,0≤a→a<(crew.length:Int)→0≤b→b<(crew.length:Int)→0≤PC next a→PC next a=PC next b→a=b
 U:∀j k,0≤j→j<(crew.length:Int)→0≤k→k<(crew.length:Int)→PC next j<0→j≠i→PC next k≠(Pe crew j).2.1
 T:∀k,0≤k→k<(crew.length:Int)→PC next k=(Pe crew i).2.1→k=p
 rR:p = -1∨((0≤p∧p<(crew.length:Int))∧p≠i)
structure Kept(c:List Int)(crew:List Rb)(next next':List Int):Prop where
 len:next'.length=crew.length
 vals:∀k,0≤k→k<(crew.length:Int)→PC next' k = -1∨iD c (PC next' k)
 TN:∀k,0≤k→k<(crew.length:Int)→0≤PC next k→PC next' k=PC next k
structure Good(c:List Int)(crew:List Rb)(next':List Int):Prop where
 D:∀a b,0≤a→a<(crew.length:Int)→0≤b→b<(crew.length:Int)→0≤PC next' a→PC next' a=PC next' b→a=b
 U:∀j k,0≤j→j<(crew.length:Int)→0≤k→k<(crew.length:Int)→PC next' j<0→PC next' k≠(Pe crew j).2.1
structure eH(c:List Int)(crew:List Rb)(next:List Int)(i:Int)(b:Bool)(next':List Int):Prop where
 kept:Kept c crew next next'
 lI:YF next'+1≤YF next
 yes:b=true→Good c crew next'∧0≤PC next' i
 no:b=false→PC next' i=(Pe crew i).2.1∧∀k,0≤k→k<(crew.length:Int)→PC next k<0→PC next' k<0∨PC next' k=(Pe crew k).2.1
theorem mL(w h:Int)(c:List Int)(crew:List Rb)(hl:crew.length≤20)(fields:List (List Int))(next:List Int)(hn1:next.length=crew.length)(v i:Int)(hi:0≤PC next i)(n:Nat)(hn:PJ≤n):
  ∃o,S4 n w h c crew next v i=some (o,w,h,c,crew,next)∧Wi n w h c crew fields next v=some (o,w,h,c,crew,fields,next)∧
   ((o = -1∧∀j,0≤j→j<(crew.length:Int)→(Pe crew j).2.1=v→0≤PC next j)∨((0≤o∧o<(crew.length:Int))∧(Pe crew o).2.1=v∧PC next o<0)):=by
 have hB:1048576≤n:=AAw (by decide) hn
 obtain⟨z,w',hS,h3,h4⟩:=YB (f:=RR w h c crew next v i) (g:=VR w h c crew fields next v)
  (fun x y=>∃k:Nat,x=(k:Int)∧y=(k:Int)∧k≤crew.length∧∀j,0≤j→j<(k:Int)→(Pe crew j).2.1=v→0≤PC next j)
  (fun z y=>((∃a b,z=.inl a∧y=.inl b)∧∀j,0≤j→j<(crew.length:Int)→(Pe crew j).2.1=v→0≤PC next j)∨∃o,z=.inr (o,w,h,c,crew,next)∧y=.inr (o,w,h,c,crew,fields,next)∧(0≤o∧o<(crew.length:Int))∧(Pe crew o).2.1=v∧PC next o<0)
  (fun x=>crew.length-x.toNat) (fun x y hR=>by
   obtain⟨k,rfl,rfl,hk,uZ⟩:=hR;by_cases hk2:k=crew.length
   ·subst hk2;exact .inl ⟨.inl (crew.length:Int),.inl (crew.length:Int),by simp[RR],by simp[VR],.inl ⟨⟨_,_,rfl,rfl⟩,uZ⟩⟩
   ·have u7:k<crew.length:=by omega
    have hr:=ZR (crew:=crew) (i:=(k:Int)) ⟨by omega,by omega⟩;obtain⟨i1,i2,i3⟩:=TH (out:=next) (v:=(k:Int)) ⟨by omega,by omega⟩;have hd:decide ((k:Int)<(crew.length:Int))=true:=by simpa using u7
    simp only[RR,VR,hd,hr,ABT,i1,i2,ABU,O9 u7 (by omega)];by_cases hv:(Pe crew (k:Int)).2.1=v
    ·by_cases hneg:PC next (k:Int)<0
     ·have tj:((k:Int) != i)=true:=by rw[ABz];intro e;rw[e]at hneg;omega
      refine .inl ⟨.inr ((k:Int),w,h,c,crew,next),.inr ((k:Int),w,h,c,crew,fields,next),?_,?_,.inr ⟨_,rfl,rfl,⟨by omega,by omega⟩,hv,hneg⟩⟩
      all_goals grind
     ·refine .inr ⟨((k+1:Nat):Int),((k+1:Nat):Int),?_,?_,⟨k+1,rfl,rfl,by omega,fun j h0 h1 h2=>?_⟩,by omega⟩
      all_goals grind
    ·have hvb:((Pe crew (k:Int)).2.1==v)=false:=by simpa using hv
     refine .inr ⟨((k+1:Nat):Int),((k+1:Nat):Int),?_,?_,⟨k+1,rfl,rfl,by omega,fun j h0 h1 h2=>?_⟩,by omega⟩
     all_goals grind) n 0 0 ⟨0,rfl,rfl,by omega,fun j h0 h1=>by omega⟩ (by omega)
 rcases hS with⟨⟨a,b,rfl,rfl⟩,uZ⟩|⟨o,rfl,rfl,q1,q2,q3⟩
 ·exact⟨-1,by unfold S4;rw[h3];rfl,by unfold Wi;rw[h4];rfl,.inl ⟨rfl,uZ⟩⟩
 ·exact⟨o,by unfold S4;rw[h3];rfl,by unfold Wi;rw[h4];rfl,.inr ⟨q1,q2,q3⟩⟩
theorem kG{α:Type}{l:List α}{k:Nat}{v:α}(h:l[k]?=some v):l.set k v=l:=by obtain⟨hk,e⟩:=AAH.1 h;subst e;exact List.set_getElem_self hk
end Go.Ev.N
