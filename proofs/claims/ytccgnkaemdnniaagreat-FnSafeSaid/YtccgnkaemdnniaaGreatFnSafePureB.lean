/- FnSafe,as a plain law lJ native forms: what the program's function answers is what the reference's answers. Conditions: none but the lengths' and numbers' bounds. -/
import Derived.Test.YtccgnkaemdnniaaGreatFnSafePureA
set_option linter.all false
namespace Go.Ev.N
open Go Go.Ev
theorem dp{c:List Int}{crew:List Pc}{i:Nat}(hi:i<crew.length):kO c crew i=true↔(1≤crew[i].1∧crew[i].1≤99)∧QC c crew[i].2.1=true∧(crew[i].2.2.1 = -1∨QC c crew[i].2.2.1=true)∧(0≤crew[i].2.2.2.2∧crew[i].2.2.2.2≤1000000)∧
  (∀j (hj:j+1=i),(crew[j]'(by omega)).1<crew[i].1)∧∀j (hj:j<i),(crew[j]'(by omega)).2.1≠crew[i].2.1:=by
 have hp:QS (·.1) crew i crew[i]=true↔∀j (hj:j+1=i),(crew[j]'(by omega)).1<crew[i].1:=by
  cases i with
  |zero=>exact⟨fun _ j hj=>by omega,fun _=>rfl⟩
  |succ k=>
   simp only[QS,AAF (show k<crew.length by omega),AAT,AAf]
   exact⟨fun h j hj=>by
    have:j=k:=by omega
    subst this;omega,fun h=>by have:=h k rfl;omega⟩
 have ha:((crew.take i).all fun y => !(y.2.1==crew[i].2.1))=true↔∀j (hj:j<i),(crew[j]'(by omega)).2.1≠crew[i].2.1:=by
  rw[AAU];constructor
  ·intro h j hj;have:=h crew[j] (ABY.2 ⟨j,by simp;omega,by simp⟩);simpa using this
  ·intro h y hy;obtain⟨j,hj,rfl⟩:=ABY.1 hy;have hji:j<i:=by simp at hj;omega
   have:=h j hji;simpa using this
 unfold kO;rw[AAF hi];simp only[AAG,hp,ha,AAa,AAS];unfold Ps;grind
theorem Uh{w h:Int}{c:List Int}{crew:List Pc}:SQ w h c crew=true↔PS w h c=true∧CW c crew:=by
 unfold SQ;simp only[AAG,AAb,AAU,AAR];constructor
 ·rintro ⟨⟨hf,hn⟩,uZ⟩
  have hr:∀i (hi:i<crew.length),_:=fun i hi=>(dp hi).1 (uZ i hi)
  refine⟨hf,⟨hn,fun r uS=>?_,fun r uS=>?_,fun r uS=>?_,fun r uS=>?_,WX _ _ fun i hi=>(hr (i+1) hi).2.2.2.2.1 i rfl,ABQ.2 fun i j hi hj xM=>(hr j hj).2.2.2.2.2 i xM⟩⟩ <;>
   (obtain⟨i,hi,rfl⟩:=ABY.1 uS)
  ·exact(hr i hi).1
  ·exact(hr i hi).2.1
  ·exact(hr i hi).2.2.1
  ·exact(hr i hi).2.2.2.1
 ·rintro ⟨hf,hw⟩
  refine⟨⟨hf,hw.aX⟩,fun i hi=>(dp hi).2 ?_⟩;have hm:=ABW hi;exact⟨hw.ml _ hm,hw.jZ _ hm,hw.goal _ hm,hw.mN _ hm,fun j hj=>ABQ.1 hw.ids j i (by omega) hi (by omega),fun j hj=>ABQ.1 hw.cj j i (by omega) hi hj⟩
theorem kq.cg{w h:Int}{c:List Int}{a:List PF}{crew:List Pc}{l:List PW}{prs:List (Nat×Nat)}(hd:kq w h c a crew l prs)(hc:CW c crew){p:Nat×Nat}(hp:p∈prs):∃hk:p.2<crew.length,1≤crew[p.2].1∧crew[p.2].1≤99∧crew[p.2].2.2.1 = -1∧crew[p.2].2.2.2.1=false∧∀j (hj:j<l.length),l[j].2.2.1≠crew[p.2].1:=by obtain⟨hk,hi⟩:=Y7 (hd.r8 p hp);have h1:=hc.ml _ (ABW hk);unfold eD at hi;grind
theorem kq.XA{w h:Int}{c:List Int}{a:List PF}(ha:a.length≤1048576){crew:List Pc}{l:List PW}{prs:List (Nat×Nat)}(hd:kq w h c a crew l prs){p:Nat×Nat}(hp:p∈prs):∃hk:p.1<l.length,l[p.1].2.2.2=1∧l[p.1].2.1∉T4 l∧∃i,∃hi:i<a.length,R1 a l[p.1].2.1=(i:Int)∧a[i].1=l[p.1].2.1∧QV a l[p.1].2.1=a[i].2.1:=by obtain⟨q1,q2,q3,q4⟩:=YT ha (hd.ZY p hp);rw[aQ q1]at q2 q3 q4;grind
theorem eg{l:List PW}{j:Nat}(hj:j<l.length)(tj:l[j].2.2.2≠1):l[j].2.1∈T4 l:=by unfold T4;grind
theorem kq.two{w h:Int}{c:List Int}{a:List PF}(ha:a.length≤1048576){crew:List Pc}{l:List PW}{prs:List (Nat×Nat)}(hd:kq w h c a crew l prs)(hc:CW c crew){p q:Nat×Nat}(hp:p∈prs)(hq:q∈prs)(tj:p.1≠q.1):
  (ZE crew p.2).1≠(ZE crew q.2).1∧(Xt l p.1).2.1≠(Xt l q.1).2.1:=by
 obtain⟨r1,_⟩:=hd.cg hc hp;obtain⟨r2,_⟩:=hd.cg hc hq;obtain⟨i,hi,rfl⟩:=ABY.1 hp;obtain⟨j,hj,rfl⟩:=ABY.1 hq;have xM:i≠j:=fun q=>tj (by subst q;rfl)
 have h2:prs[i].2≠prs[j].2:=fun e=>xM (by
  have h2:=hd.n2;have e2:(prs.map (·.2))[i]'(by grind)=(prs.map (·.2))[j]'(by grind):=by rw[ABr,ABr];exact e
  exact cA h2 _ _ e2)
 refine⟨fun e=>h2 ?_,?_⟩
 ·rw[Z4 r1,Z4 r2]at e;rcases ABf prs[i].2 prs[j].2 with tX|tX|tX
  ·have:=ABQ.1 hc.ids _ _ r1 r2 tX;omega
  ·exact tX
  ·have:=ABQ.1 hc.ids _ _ r2 r1 tX;omega
 ·have pw:=cG a l (PX crew l).length (T4 l) 0;obtain⟨t1,_⟩:=hd.XA ha hp;obtain⟨t2,_⟩:=hd.XA ha hq;have m1:=hd.ZY _ hp;have m2:=hd.ZY _ hq;rw[aQ t1,aQ t2];obtain⟨x,hx,ex⟩:=ABY.1 m1;obtain⟨y,hy,ey⟩:=ABY.1 m2
  have fwd:∀(x y:Nat) (hx:x<(P2 a l (PX crew l).length).length) (hy:y<(P2 a l (PX crew l).length).length) (s t:Nat) (hs:s<l.length) (ht:t<l.length),(P2 a l (PX crew l).length)[x]=s→(P2 a l (PX crew l).length)[y]=t→x<y→l[s].2.1≠l[t].2.1:=by intro x y hx hy s t hs ht es et tX;have:=(ABQ.1 pw x y hx hy tX).2;have es':(Go.Ev.N.ZY a (PX crew l).length (T4 l) 0 l)[x]'hx=s:=es;have et':(Go.Ev.N.ZY a (PX crew l).length (T4 l) 0 l)[y]'hy=t:=et;simp only[es',et',Nat.sub_zero]at this;exact this hs ht
  grind
theorem iW.tasks{w h:Int}{c:List Int}{a:List PF}(ha:a.length≤1048576){crew:List Pc}{l:List PW}{prs:List (Nat×Nat)}{crew':List Pc}{l':List PW}(hs:iW a crew l prs crew' l')(hd:kq w h c a crew l prs)(ht:TP l)(hc:CW c crew):TP l':=by
 have yg:=hs.l2;refine⟨by rw[yg];exact ht.len,fun i hi=>?_,fun i j hi hj=>?_⟩
 ·have hil:i<l.length:=by omega
  rcases hs.tk i hil hi with⟨p,hp,rfl,e⟩|⟨_,e⟩
  ·obtain⟨hk,r1,r2,_⟩:=hd.cg hc hp;have hg:=ht.mU p.1 hil;obtain⟨t1,t2,_⟩:=hd.XA ha hp;rw[e,Z4 hk];unfold Pv at hg ⊢;grind
  ·rw[e];exact ht.mU i hil
 ·have hil:i<l.length:=by omega
  have hjl:j<l.length:=by omega
  have hold:=Zl.1 (ht.apart i j hil hj);rw[Zl];rcases hs.tk i hil hi with⟨p,hp,rfl,e⟩|⟨xN,e⟩
  ·obtain⟨hk,r1,r2,r3,r4,r5⟩:=hd.cg hc hp;obtain⟨t1,t2,t3,_⟩:=hd.XA ha hp;rcases hs.tk j hjl (by omega)with⟨q,hq,rfl,e2⟩|⟨hno2,e2⟩
   ·obtain⟨n1,n2⟩:=hd.two ha hc hp hq (by omega);rw[aQ hil,aQ hjl]at n2;grind
   ·rw[e,e2,Z4 hk];refine⟨hold.1,fun _=>⟨fun q=>r5 j hjl q.symm,fun q=>?_⟩⟩;refine AAn fun tj=>t3 ?_;have q:l[p.1].2.1=l[j].2.1:=q;rw[q];exact eg hjl tj
  ·rcases hs.tk j hjl (by omega)with⟨q,hq,rfl,e2⟩|⟨hno2,e2⟩
   ·obtain⟨hk,r1,r2,r3,r4,r5⟩:=hd.cg hc hq;obtain⟨t1,t2,t3,_⟩:=hd.XA ha hq;rw[e,e2,Z4 hk];refine⟨hold.1,fun tj=>⟨r5 i hil,fun q2=>?_⟩⟩;have q2:l[i].2.1=l[q.1].2.1:=q2;exact absurd (q2▸eg hil tj) t3
   grind
theorem iW.crew{w h:Int}{c:List Int}(zG:c.length≤1048576)(hf:PS w h c=true){a:List PF}{crew:List Pc}{l:List PW}{prs:List (Nat×Nat)}{crew':List Pc}{l':List PW}(hs:iW a crew l prs crew' l')(hd:kq w h c a crew l prs)(hc:CW c crew):CW c crew':=by
 have wB:=hs.l1
 have each:∀k (h:k<crew.length) (h':k<crew'.length),crew'[k].1=crew[k].1∧crew'[k].2.1=crew[k].2.1∧(crew'[k].2.2.1 = -1∨QC c crew'[k].2.2.1=true)∧0≤crew'[k].2.2.2.2∧crew'[k].2.2.2.2≤1000000:=fun k hk u7=>by
  rcases hs.rb k hk u7 with⟨p,hp,rfl,e⟩|⟨_,e⟩
  ·rw[e];exact⟨rfl,rfl,.inr (gq zG hf (hd.way p hp)),by grind,by grind⟩
  ·rw[e];have hm:=ABW hk;exact⟨rfl,rfl,hc.goal _ hm,hc.mN _ hm⟩
 have mem:∀r∈crew',∃k,∃h:k<crew.length,∃h':k<crew'.length,crew'[k]=r:=fun r hr=>by obtain⟨k,hk,rfl⟩:=ABY.1 hr;grind
 refine⟨by rw[wB];exact hc.aX,fun r hr=>?_,fun r hr=>?_,fun r hr=>?_,fun r hr=>?_,?_,?_⟩
 ·obtain⟨k,h,h',rfl⟩:=mem r hr;rw[(each k h h').1];exact hc.ml _ (ABW h)
 ·obtain⟨k,h,h',rfl⟩:=mem r hr;rw[(each k h h').2.1];exact hc.jZ _ (ABW h)
 ·grind
 ·grind
 ·refine ABQ.2 fun i j hi hj xM=>?_;rw[(each i (by omega) hi).1,(each j (by omega) hj).1];exact ABQ.1 hc.ids i j (by omega) (by omega) xM
 ·refine ABQ.2 fun i j hi hj xM=>?_;rw[(each i (by omega) hi).2.1,(each j (by omega) hj).2.1];exact ABQ.1 hc.cj i j (by omega) (by omega) xM
theorem Wq{β:Type}(key:β→Int)(a:List β)(i:Nat)(hi:i<a.length):QS key a i a[i]=true↔∀j (hj:j+1=i),key (a[j]'(by omega))<key a[i]:=by
 cases i with
 |zero=>exact⟨fun _ j hj=>by omega,fun _=>rfl⟩
 |succ k=>
  simp only[QS,AAF (show k<a.length by omega),AAT,AAf];grind
theorem eR{l:List D2}:QP l=true↔Va l:=by
 constructor
 ·intro h;unfold QP at h;simp only[AAG,AAU,AAR,AAb]at h;obtain⟨h1,h2⟩:=h
  have each:∀i (hi:i<l.length),(1≤l[i].1∧l[i].1≤50)∧(1≤l[i].2.1∧l[i].2.1≤1000)∧(0≤l[i].2.2∧l[i].2.2≤l[i].2.1)∧∀j (hj:j+1=i),(l[j]'(by omega)).1<l[i].1:=fun i hi=>by have:=h1 i hi;unfold VO at this;rw[AAF hi]at this;unfold Ps at this;simp only[AAG,AAb,Wq (·.1) l i hi]at this;exact⟨this.1.1.1,this.1.1.2,this.1.2,this.2⟩
  refine⟨WX _ _ fun i hi=>(each (i+1) hi).2.2.2 i rfl,fun x hx=>?_,h2⟩;obtain⟨i,hi,rfl⟩:=ABY.1 hx;obtain⟨e1,e2,e3,_⟩:=each i hi;omega
 ·exact Va.ok
theorem Pk{a:List PF}:Pl a=true↔PO a:=by
 constructor
 ·intro h;unfold Pl at h;simp only[AAG,AAU,AAR,AAb]at h;obtain⟨h1,h2⟩:=h
  have each:∀i (hi:i<a.length),(1≤a[i].1∧a[i].1≤999)∧(0≤a[i].2.1∧a[i].2.1≤99)∧Va a[i].2.2∧(∀j (hj:j+1=i),(a[j]'(by omega)).1<a[i].1)∧∀j (hj:j<i),(a[j]'(by omega)).2.1≠a[i].2.1:=fun i hi=>by have:=h2 i hi;unfold aa at this;rw[AAF hi]at this;unfold Ps at this;simp only[AAG,AAb,Wq (·.1) a i hi,eR,AAU]at this;refine⟨this.1.1.1.1,this.1.1.1.2,this.1.1.2,this.1.2,fun j hj=>?_⟩;have:=this.2 (a[j]'(by omega)) (ABY.2 ⟨j,by simp;omega,by simp⟩);simpa using this
  have ids:=WX (fun x:PF=>x.1) a fun i hi=>(each (i+1) hi).2.2.2.1 i rfl;refine⟨h1,ABQ.2 fun i j hi hj xM=>⟨ABQ.1 ids i j hi hj xM,(each j hj).2.2.2.2 i xM⟩,fun p hp=>?_⟩;obtain⟨i,hi,rfl⟩:=ABY.1 hp;obtain⟨e1,e2,e3,_⟩:=each i hi;grind
 ·exact PO.ok
def Ya(l:List D2)(k:Int)(f:D2→D2):List D2:=l.map fun y=>bif y.1==k then f y else y
def XZ(a:List PF)(PJ:Int)(f:List D2→List D2):List PF:=a.map fun p=>bif p.1==PJ then(p.1,p.2.1,f p.2.2)else p
theorem ZC{a:List PF}(h:PO a){i:Nat}(hi:i<a.length)(f:List D2→List D2):a.modify i (fun p=>(p.1,p.2.1,f p.2.2))=XZ a a[i].1 f:=by
 apply ABv;intro j;unfold XZ;rw[ABg,AAX];by_cases hj:j<a.length
 ·rw[AAF hj];by_cases e:i=j
  ·subst e;simp
  ·have tj:(a[j].1==a[i].1)=false:=by
    rw[ABa];intro q;rcases ABf i j with hl|hl|hl
    ·have:=(ABQ.1 h.2.1 i j hi hj hl).1;omega
    ·exact e hl
    ·have:=(ABQ.1 h.2.1 j i hj hi hl).1;omega
   simp[e,tj]
 grind
theorem lR{l:List D2}(h:Va l){i:Nat}(hi:i<l.length)(f:D2→D2):l.modify i f=Ya l l[i].1 f:=by
 apply ABv;intro j;unfold Ya;rw[ABg,AAX];by_cases hj:j<l.length
 ·rw[AAF hj];by_cases e:i=j
  ·subst e;simp
  ·have tj:(l[j].1==l[i].1)=false:=by
    rw[ABa];intro q;rcases ABf i j with hl|hl|hl
    ·have:=ABQ.1 h.1 i j hi hj hl;omega
    ·exact e hl
    ·have:=ABQ.1 h.1 j i hj hi hl;omega
   simp[e,tj]
 grind
theorem Wj{l:List D2}(h:Va l){x:D2}(hx:x∈l):PR l x.1=x:=by
 unfold PR;cases hf:l.find? fun y=>y.1==x.1 with
 |none=>grind
 |some y=>
  have hy:=ABl hf;have he:y.1=x.1:=by simpa using ACH hf
  obtain⟨i,hi,rfl⟩:=ABY.1 hx;obtain⟨j,hj,rfl⟩:=ABY.1 hy;rcases ABf i j with hl|hl|hl
  ·have:=ABQ.1 h.1 i j hi hj hl;omega
  ·subst hl;rfl
  ·have:=ABQ.1 h.1 j i hj hi hl;omega
theorem Tr{l:List D2}{k:Int}(h:∀x∈l,x.1≠k):PR l k=(k,0,0):=by unfold PR;grind
theorem T1{l:List D2}(h:Va l)(k:Int):0≤(PR l k).2.1∧(PR l k).2.1≤1000∧0≤(PR l k).2.2∧(PR l k).2.2≤(PR l k).2.1∧(PR l k).1=k:=by
 unfold PR;cases hf:l.find? fun y=>y.1==k with
 |none=>grind
 |some y=>
  have:=h.2.1 y (ABl hf);grind
theorem kN{l:List D2}(h:Va l){k:Int}(hk:∃z∈l,z.1=k)(d:Int):dG (k,(PR l k).2.1,(PR l k).2.2+d) l=Ya l k fun y=>(y.1,y.2.1,y.2.2+d):=by
 unfold dG Ya;refine AB1 fun y hy=>?_;by_cases e:y.1=k
 ·subst e;rw[Wj h hy]
 grind
theorem km{l:List D2}(h:Va l)(k d:Int)(hd:∀y∈l,y.1=k→0≤y.2.2+d∧y.2.2+d≤y.2.1):Va (Ya l k fun y=>(y.1,y.2.1,y.2.2+d)):=by
 have key:∀y:D2,(bif y.1==k then(y.1,y.2.1,y.2.2+d)else y).1=y.1:=fun y=>by grind
 refine⟨?_,fun z hz=>?_,by unfold Ya;rw[ABB];exact h.2.2⟩
 ·unfold Ya;rw[ABi];exact h.1.imp fun h=>by grind
 ·unfold Ya at hz;obtain⟨y,hy,rfl⟩:=AAs.1 hz;have zu:=h.2.1 y hy;grind
theorem ca{a:List PF}(h:PO a)(PJ:Int)(f:List D2→List D2)(hf:∀p∈a,p.1=PJ→Va (f p.2.2)):PO (XZ a PJ f):=by
 have key:∀p:PF,(bif p.1==PJ then(p.1,p.2.1,f p.2.2)else p).1=p.1∧(bif p.1==PJ then(p.1,p.2.1,f p.2.2)else p).2.1=p.2.1:=fun p=>by grind
 refine⟨by unfold XZ;rw[ABB];exact h.1,?_,fun z hz=>?_⟩
 ·unfold XZ;rw[ABi];exact h.2.1.imp fun h=>by grind
 ·unfold XZ at hz;obtain⟨p,hp,rfl⟩:=AAs.1 hz;have xg:=h.2.2 p hp;grind
def SE(a:List PF)(PJ k:Int):D2:=match a[(R1 a PJ).toNat]? with
 |some p=>PR p.2.2 k
 |none=>(k,0,0)
def Py(a:List PF)(PJ k m:Int):Int:=bif Pl a&&(Ps k 1 50&&Ps m 1 1000)then(if R1 a PJ<0 then 2 else 0)else 1
def bM(a:List PF)(PJ k d:Int):List PF:=XZ a PJ fun l=>Ya l k fun y=>(y.1,y.2.1,y.2.2+d)
def Yq(a:List PF)(PJ k m:Int):List PF×Int:=if Py a PJ k m≠0 then(a,Py a PJ k m)else if(SE a PJ k).2.1-(SE a PJ k).2.2<m then(a,3)else(bM a PJ k m,0)
def eL(a:List PF)(PJ k m:Int):List PF×Int:=if Py a PJ k m≠0 then(a,Py a PJ k m)else if(SE a PJ k).2.2<m then(a,3)else(bM a PJ k (-m),0)
theorem Qd{a:List PF}{PJ k m:Int}(h:Py a PJ k m=0):PO a∧(1≤k∧k≤50)∧(1≤m∧m≤1000)∧∃i,∃hi:i<a.length,R1 a PJ=(i:Int)∧a[i].1=PJ∧SE a PJ k=PR a[i].2.2 k:=by
 unfold Py at h;cases hs:(Pl a&&(Ps k 1 50&&Ps m 1 1000))with
 |false=>grind
 |true=>
  rw[hs,ABU]at h;unfold Ps at hs;simp only[AAG,AAb]at hs;have hS:=Pk.1 hs.1;refine⟨hS,hs.2.1,hs.2.2,?_⟩;have h12:=hS.1;rcases(RS a (by omega) PJ PD (AAd _)).2 with⟨e,_⟩|⟨i,hi,e,e2⟩
  ·omega
  ·refine⟨i,hi,e,e2,?_⟩;unfold SE;grind
theorem gv{a:List PF}(h:PO a)(PJ k d:Int)(hd:∀p∈a,p.1=PJ→∀y∈p.2.2,y.1=k→0≤y.2.2+d∧y.2.2+d≤y.2.1):PO (bM a PJ k d):=ca h PJ _ fun p hp e=>km (h.2.2 p hp).2.2 k d (hd p hp e)
theorem XU{a:List PF}(h:PO a){i:Nat}(hi:i<a.length){p:PF}(hp:p∈a)(e:p.1=a[i].1):p=a[i]:=by
 obtain⟨j,hj,rfl⟩:=ABY.1 hp;rcases ABf i j with hl|hl|hl
 ·have:=(ABQ.1 h.2.1 i j hi hj hl).1;omega
 ·subst hl;rfl
 ·have:=(ABQ.1 h.2.1 j i hj hi hl).1;omega
theorem ez{a:List PF}(h:PO a)(PJ k m:Int):PO (Yq a PJ k m).1:=by
 unfold Yq;split
 ·exact h
 ·rename_i hc;split
  ·exact h
  ·rename_i tX;obtain⟨_,hk,hm,i,hi,e1,e2,e3⟩:=Qd (by omega:Py a PJ k m=0);refine gv h PJ k m fun p hp ep y hy ey=>?_;have:p=a[i]:=XU h hi hp (ep.trans e2.symm);subst this;have v7:=(h.2.2 _ (ABW hi)).2.2;have hyb:=v7.2.1 y hy;rw[e3,←ey,Wj v7 hy]at tX;omega
theorem iG{a:List PF}(h:PO a)(PJ k m:Int):PO (eL a PJ k m).1:=by
 unfold eL;split
 ·exact h
 ·rename_i hc;split
  ·exact h
  ·rename_i tX;obtain⟨_,hk,hm,i,hi,e1,e2,e3⟩:=Qd (by omega:Py a PJ k m=0);refine gv h PJ k (-m) fun p hp ep y hy ey=>?_;have:p=a[i]:=XU h hi hp (ep.trans e2.symm);subst this;have v7:=(h.2.2 _ (ABW hi)).2.2;have hyb:=v7.2.1 y hy;rw[e3,←ey,Wj v7 hy]at tX;omega
theorem Xk(a:List PF)(hs:PU a)(PJ k m:Int)(n:Nat)(hn:PD≤n):Sk n a PJ k m=some (if Py a PJ k m≠0 then(0,0,0,0,Py a PJ k m)else(R1 a PJ,(SE a PJ k).1,(SE a PJ k).2.1,(SE a PJ k).2.2,0)):=by
 have hl:a.length≤1048576:=hs.1;unfold Sk;rw[Pq a hs n hn];simp only[ABT,P8];by_cases hc:Py a PJ k m=0
 ·rw[AAM (by rw[hc];simp)];obtain⟨h,hk,hm,i,hi,e1,e2,e3⟩:=Qd hc;rw[Pk.2 h,show Ps k 1 50=true by unfold Ps;grind,show Ps m 1 1000=true by unfold Ps;rw[ABZ hm.1,ABZ hm.2];rfl];have hd:decide (R1 a PJ<0)=false:=by rw[e1,AAf];clear hn;omega
  simp only[ABc,ABV,ABT,(RS a hl PJ n hn).1,hd];rw[e3,e1,O6 hi,ABT,YI a[i] (by have:=(h.2.2 _ (ABW hi)).2.2.2.2;omega) k n hn];rfl
 ·rw[AAK hc];unfold Py at hc ⊢;cases h1:Pl a with
  |false=>rfl
  |true=>cases h2:Ps k 1 50 with
   |false=>rfl
   |true=>cases h3:Ps m 1 1000 with
    |false=>rfl
    |true=>
     rw[h1,h2,h3]at hc;simp only[ACK,ABU]at hc ⊢
     have tX:R1 a PJ<0:=by refine AAn fun q=>hc ?_;rw[AAM q]
     simp only[ABc,ABV,ABT,(RS a hl PJ n hn).1,ABZ tX,ABU,AAK tX]
theorem dj{a:List PF}(h:PO a){i:Nat}(hi:i<a.length){k:Int}(d:Int)(hz:∃z∈a[i].2.2,z.1=k)(n:Nat)(hn:PD≤n):
  Rv n a (i:Int) k (PR a[i].2.2 k).2.1 ((PR a[i].2.2 k).2.2+d)=some (bM a a[i].1 k d):=by
 have v7:=(h.2.2 _ (ABW hi)).2.2;obtain⟨z,hz1,hz2⟩:=hz
 have wV:((PR a[i].2.2 k).2.1==0)=false:=by rw[←hz2,Wj v7 hz1,ABa];have:=v7.2.1 z hz1;clear hn;omega
 unfold Rv;rw[PL a h.sm n hn,ABT,PA hi,ABU];have hg:a[(i:Int).toNat]?=some a[i]:=by simp[hi]
 have hw:=jA a[i].2.2 v7 (k,(PR a[i].2.2 k).2.1,(PR a[i].2.2 k).2.2+d) ⟨z,hz1,hz2⟩ wV n hn;dsimp only at hw;rw[hg,ABT,ABT,hw,ABT,ABU,kN v7 ⟨z,hz1,hz2⟩,ABX];unfold bM;rw[←ZC h hi];congr 1;apply ABv;grind
theorem dJ(a:List PF)(hs:PU a)(PJ k m:Int)(n:Nat)(hn:PD≤n):Yk n a PJ k m=some (Yq a PJ k m):=by
 unfold Yk Yq;rw[Xk a hs PJ k m n hn,ABT];by_cases hc:Py a PJ k m=0
 ·rw[AAM (by rw[hc];simp),AAM (by rw[hc];simp)];obtain⟨h,hk,hm,i,hi,e1,e2,e3⟩:=Qd hc;have v7:=(h.2.2 _ (ABW hi)).2.2;obtain⟨b1,b2,b3,b4,b5⟩:=T1 v7 k;dsimp only;rw[show((0:Int) != 0)=false from rfl,ABV,e3,PC (by omega) (by omega)];by_cases tX:(PR a[i].2.2 k).2.1-(PR a[i].2.2 k).2.2<m
  ·rw[ABZ tX,AAK tX,ABU,PL a hs n hn];rfl
  ·rw[ABd tX,AAM tX,ABV,PC (by omega) (by omega),e1,b5]
   have hz:∃z∈a[i].2.2,z.1=k:=by refine AAn fun q=>?_;rw[Tr fun x hx e=>q ⟨x,hx,e⟩]at tX;dsimp only at tX;clear hn;omega
   rw[dj h hi m hz n hn,e2];rfl
 ·rw[AAK hc,AAK hc];dsimp only;rw[show(Py a PJ k m != 0)=true by grind,ABU,PL a hs n hn];rfl
theorem aD(a:List PF)(hs:PU a)(PJ k m:Int)(n:Nat)(hn:PD≤n):Vz n a PJ k m=some (eL a PJ k m):=by
 unfold Vz eL;rw[Xk a hs PJ k m n hn,ABT];by_cases hc:Py a PJ k m=0
 ·rw[AAM (by rw[hc];simp),AAM (by rw[hc];simp)];obtain⟨h,hk,hm,i,hi,e1,e2,e3⟩:=Qd hc;have v7:=(h.2.2 _ (ABW hi)).2.2;obtain⟨b1,b2,b3,b4,b5⟩:=T1 v7 k;dsimp only;rw[show((0:Int) != 0)=false from rfl,ABV,e3];by_cases tX:(PR a[i].2.2 k).2.2<m
  ·rw[ABZ tX,AAK tX,ABU,PL a hs n hn];rfl
  ·rw[ABd tX,AAM tX,ABV,PC (by omega) (by omega),e1,b5]
   have hz:∃z∈a[i].2.2,z.1=k:=by refine AAn fun q=>?_;rw[Tr fun x hx e=>q ⟨x,hx,e⟩]at tX;dsimp only at tX;clear hn;omega
   rw[show(PR a[i].2.2 k).2.2-m=(PR a[i].2.2 k).2.2 + -m by omega,dj h hi (-m) hz n hn,e2];rfl
 ·rw[AAK hc,AAK hc];dsimp only;rw[show(Py a PJ k m != 0)=true by grind,ABU,PL a hs n hn];rfl
theorem YY{l:List D2}(hs:Va l)(p0 p1 k:Int)(n:Nat)(hn:PD≤n):
  ∃(j:Nat) (b:Bool),Qf n p0 p1 l k=some ((j:Int),b)∧(b=true→∃h:j<l.length,l[j].1=k∧PR l k=l[j])∧(b=false→(∀x∈l,x.1≠k)∧PR l k=(k,0,0)):=by
 have h8:=hs.2.2
 obtain⟨j,h1,h2,h3,h4⟩:=cf (Qb l k) l.length (fun i=>decide ((l.getD i (0,0,0)).1<k)) (fun i hi=>by
  simp only[Qb,O6 hi,ABT,O5 hi (show l.length≤9223372036854775807 by clear hn;omega)];grind) (by simp[Qb]) n (by unfold PD at hn;omega)
 have hlow:∀i (hi:i<l.length),i<j→l[i].1<k:=by intro i hi xM;have:=h3 i xM;simpa[hi]using this
 unfold Qf;rw[h2];by_cases hj:j<l.length
 ·have uh:=h4 hj;have uh:k≤l[j].1:=by simpa[hj]using uh
  refine⟨j,l[j].1==k,?_,fun hb=>?_,fun hb=>?_⟩
  ·simp[hj,O6 hj]
  ·have e:l[j].1=k:=by simpa using hb
   exact⟨hj,e,by rw[←e];exact Wj hs (ABW hj)⟩
  ·have xN:∀x∈l,x.1≠k:=fun x hx=>by
    obtain⟨i,hi,rfl⟩:=AB2 hx;have tj:l[j].1≠k:=by simpa using hb
    rcases ABf i j with q|q|q
    ·grind
    ·grind
    ·have:=ABQ.1 hs.1 j i hj hi q;omega
   exact⟨xN,Tr xN⟩
 ·have xN:∀x∈l,x.1≠k:=fun x hx=>by obtain⟨i,hi,rfl⟩:=AB2 hx;have:=hlow i hi (by clear hn;omega);clear hn;omega
  refine⟨j,false,?_,fun hb=>(by cases hb),fun _=>⟨xN,Tr xN⟩⟩;grind
theorem YE(a:List PF)(hs:PU a)(PJ k m:Int)(n:Nat)(hn:PD≤n):Y9 n a PJ k m=some (if Py a PJ k m≠0 then(-1,Py a PJ k m)else(R1 a PJ,0)):=by
 have hl:a.length≤1048576:=hs.1;unfold Y9;rw[QL a hs n hn,cE];simp only[ABT,Uf,P8];by_cases hc:Py a PJ k m=0
 ·rw[AAM (by rw[hc];simp)];obtain⟨h,hk,hm,i,hi,e1,e2,e3⟩:=Qd hc;rw[Pk.2 h,show Ps k 1 50=true by unfold Ps;grind,show Ps m 1 1000=true by unfold Ps;rw[ABZ hm.1,ABZ hm.2];rfl];have hd:decide (R1 a PJ≥0)=true:=by rw[e1,AAb];clear hn;omega
  simp only[ABc,ABV,ABT,(RS a hl PJ n hn).1,hd,ABU]
 ·rw[AAK hc];unfold Py at hc ⊢;cases h1:Pl a with
  |false=>rfl
  |true=>cases h2:Ps k 1 50 with
   |false=>rfl
   |true=>cases h3:Ps m 1 1000 with
    |false=>rfl
    |true=>
     rw[h1,h2,h3]at hc;simp only[ACK,ABU]at hc ⊢
     have tX:R1 a PJ<0:=by refine AAn fun q=>hc ?_;rw[AAM q]
     have hd:decide (R1 a PJ≥0)=false:=by rw[AAf];clear hn;omega
     simp only[ABc,ABV,ABT,(RS a hl PJ n hn).1,hd,AAK tX]
theorem dA(a:List PF)(hs:PU a)(PJ k m d:Int)(hd : -1000≤d∧d≤1000)(n:Nat)(hn:PD≤n):XP n a PJ k m d=some (if Py a PJ k m≠0 then(a,Py a PJ k m)else
  if(∃z,z∈(a.getD (R1 a PJ).toNat (0,0,[])).2.2∧z.1=k)∧0≤(SE a PJ k).2.2+d∧(SE a PJ k).2.2+d≤(SE a PJ k).2.1 then(bM a PJ k d,0)else(a,3)):=by
 unfold XP;rw[Pz a hs n hn,YE a hs PJ k m n hn];simp only[ABT];by_cases hc:Py a PJ k m=0
 ·rw[AAM (by rw[hc];simp),AAM (by rw[hc];simp)];obtain⟨h,hk,hm,i,hi,e1,e2,e3⟩:=Qd hc;have v7:=(h.2.2 _ (ABW hi)).2.2;obtain⟨b1,b2,b3,b4,b5⟩:=T1 v7 k;dsimp only;have hgD:a.getD (R1 a PJ).toNat (0,0,[])=a[i]:=by rw[e1,ABX,List.getD,AAF hi];rfl
  rw[hgD,e3,e1];have tS:Ob a (i:Int)=true:=PA hi;have hg:a[(i:Int).toNat]?=some a[i]:=by simp[hi]
  obtain⟨j,b,s1,s2,s3⟩:=YY v7 a[i].1 a[i].2.1 k n hn;rw[show((0:Int) != 0)=false from rfl];simp only[ABV,tS,ABU,hg,ABT,s1];cases b with
  |false=>
   obtain⟨q1,q2⟩:=s3 rfl;rw[AAM (fun hh=>by obtain⟨⟨z,z1,z2⟩,_⟩:=hh;exact q1 z z1 z2)];rfl
  |true=>
   obtain⟨hj,q1,q2⟩:=s2 rfl;have hjn:Ob a[i].2.2 (j:Int)=true:=PA hj;have hjg:a[i].2.2[(j:Int).toNat]?=some a[i].2.2[j]:=by simp[hj]
   rw[q2]at b1 b2 b3 b4 ⊢;have hw:O9 (a[i].2.2[j].2.2+d)=a[i].2.2[j].2.2+d:=PC (by clear hn;omega) (by clear hn;omega);simp only[ABc,ABV,hjn,ABU,hjg,ABT,hw,Uf,P8];have hiff:Ps (a[i].2.2[j].2.2+d) 0 a[i].2.2[j].2.1=true↔0≤a[i].2.2[j].2.2+d∧a[i].2.2[j].2.2+d≤a[i].2.2[j].2.1:=by unfold Ps;simp
   cases hb:Ps (a[i].2.2[j].2.2+d) 0 a[i].2.2[j].2.1 with
   |false=>
    rw[AAM (fun hh=>by rw[hiff.2 hh.2]at hb;cases hb)];rfl
   |true=>
    rw[AAK ⟨⟨_,ABW hj,q1⟩,hiff.1 hb⟩];simp only[ABc,ABV];congr 2;unfold bM;rw[←e2,←ZC h hi];apply ABv;intro u;rw[ABg,ABg,ABX]
    have key:a[i].2.2.modify (j:Int).toNat (fun y=>(y.1,y.2.1,a[i].2.2[j].2.2+d))=Ya a[i].2.2 k fun y=>(y.1,y.2.1,y.2.2+d):=by
     rw[←q1,←lR v7 hj,ABX];apply ABv;intro v;rw[ABg,ABg];by_cases e':j=v
     ·subst e';simp[hj]
     ·simp[e']
    by_cases e:i=u
    ·subst e;rw[AAF hi];simp only[if_true,Option.map_eq_map,AA9,key]
    ·simp[e]
 grind
theorem cu(a:List PF)(hs:PU a)(PJ k m:Int)(n:Nat)(hn:PD≤n):Zu n a PJ k m=some (Yq a PJ k m):=by
 unfold Zu Yq;by_cases hc:Py a PJ k m=0
 ·obtain⟨h,hk,hm,i,hi,e1,e2,e3⟩:=Qd hc;rw[dA a hs PJ k m m (by omega) n hn];simp only[hc,ne_eq,not_true_eq_false,if_false,ABT];have v7:=(h.2.2 _ (ABW hi)).2.2;obtain⟨b1,b2,b3,b4,b5⟩:=T1 v7 k;have hgD:a.getD (R1 a PJ).toNat (0,0,[])=a[i]:=by rw[e1,ABX,List.getD,AAF hi];rfl
  rw[hgD,e3];by_cases tX:(PR a[i].2.2 k).2.1-(PR a[i].2.2 k).2.2<m
  ·grind
  ·rw[AAM tX,AAK];refine⟨?_,by clear hn;omega,by clear hn;omega⟩;refine AAn fun q=>?_;rw[Tr fun x hx e=>q ⟨x,hx,e⟩]at tX;grind
 ·have hk:XP n a PJ k m m=some (a,Py a PJ k m):=by unfold XP;rw[Pz a hs n hn,YE a hs PJ k m n hn,AAK hc];simp only[ABT,show(Py a PJ k m != 0)=true by simpa using hc,ABU]
  grind
def XJ(f:List PF→D2→List PF×Int):List D2→List PF→Option (List PF)
 | [],s=>some s
 |p::ps,s=>if(f s p).2≠0 then none else XJ f ps (f s p).1
def Rw(f:List PF→D2→List PF×Int)(a:List PF)(ps:List D2):List PF×Bool:=match XJ f ps a with
 |some s=>(s,true)
 |none=>(a,false)
def VQ(s:List PF)(p:D2):List PF×Int:=Yq s p.1 p.2.1 p.2.2
def Z5(s:List PF)(p:D2):List PF×Int:=eL s p.1 p.2.1 p.2.2
theorem fA{a:List PF}(h:PU a)(PJ k m:Int):PU (Yq a PJ k m).1:=by
 by_cases hc:Py a PJ k m=0
 ·exact(ez (Qd hc).1 PJ k m).sm
 ·unfold Yq;grind
theorem lN{a:List PF}(h:PU a)(PJ k m:Int):PU (eL a PJ k m).1:=by
 by_cases hc:Py a PJ k m=0
 ·exact(iG (Qd hc).1 PJ k m).sm
 ·unfold eL;grind
theorem aV{f:List PF→D2→List PF×Int}{P:List PF→Prop}(hf:∀s p,P s→P (f s p).1):∀(ps:List D2)(s t:List PF),P s→XJ f ps s=some t→P t
 | [],s,t,h,e=>by injection e with e;grind
 |p::ps,s,t,h,e=>by
  unfold XJ at e;split at e
  ·cases e
  ·exact aV hf ps _ t (hf s p h) e
theorem gw{f:List PF→D2→List PF×Int}{P:List PF→Prop}(hf:∀s p,P s→P (f s p).1){a:List PF}(h:P a)(ps:List D2):P (Rw f a ps).1:=by
 unfold Rw;cases e:XJ f ps a with
 |none=>exact h
 |some t=>exact aV hf ps a t h e
theorem Yb(L:Int×List PF×List PF→Option ((Int×List PF×List PF)⊕((Int×List PF×List PF)⊕(List PF×Bool))))(f:List PF→D2→List PF×Int)(a:List PF)(ps:List D2)(hf:∀s p,PU s→PU (f s p).1)(ha:PU a)
  (hL:∀(i:Nat)(s:List PF)(hi:i<ps.length),PU s→L ((i:Int),[],s)=some (bif(f s ps[i]).2 != 0 then .inr (.inr (a,false))else .inl (((i+1:Nat):Int),[],(f s ps[i]).1)))
  (he:∀s,L ((ps.length:Int),[],s)=some (.inr (.inl ((ps.length:Int),[],s)))) (n:Nat) (hn:ps.length<n):
  iter n L (0,[],a)=some (match XJ f ps a with|some t=>.inl ((ps.length:Int),[],t)|none=>.inr (a,false)):=by
 refine PQ (σ:=List PF) L (fun i s=>((i:Int),[],s)) ps (fun l s=>match XJ f l s with|some t=>.inl ((ps.length:Int),[],t)|none=>.inr (a,false)) (fun i s=>PU s)
  (fun s _=>by rw[he];rfl) (fun i p l s h1 h2 h3 h4 h5=>?_) n hn a ha
 have hp:ps[i]=p:=by rw[AAF h1]at h2;exact Option.some.inj h2
 rw[hL i s h1 h5,hp];cases hc:((f s p).2 != 0)with
 |true=>
  right;unfold XJ;grind
 |false=>
  left;refine⟨(f s p).1,rfl,hf s p h5,?_⟩
  have e:XJ f (p::l) s=XJ f l (f s p).1:=by rw[XJ,AAM (by simpa using hc)]
  grind
theorem aC(a:List PF)(ha:PU a)(ps:List D2)(hp:ps.length≤1048576)(n:Nat)(hn:PD≤n):Vx n a ps=some (Rw VQ a ps):=by
 have h1:=Yb (P1 n a ps 1) VQ a ps (fun s p hs=>fA hs _ _ _) ha (fun i s hi hs=>by
  have hd:decide ((i:Int)<(ps.length:Int))=true:=by simpa using hi
  simp only[P1,hd,ABU,O6 hi,ABT,dJ s hs _ _ _ n hn,AB6,PL a ha n hn,O5 hi (show ps.length≤9223372036854775807 by clear hn;omega)];show(bif(VQ s ps[i]).2 != 0 then _ else _)=_;cases((VQ s ps[i]).2 != 0)<;>rfl) (fun s=>by simp[P1]) n (by unfold PD at hn;omega)
 unfold Vx Rl;rw[PL a ha n hn,ABT,h1,ABT];unfold Rw;grind
theorem Yo(a:List PF)(ha:PU a)(ps:List D2)(hp:ps.length≤1048576)(n:Nat)(hn:PD≤n):Tc n a ps=some (Rw Z5 a ps):=by
 have h1:=Yb (P1 n a ps 2) Z5 a ps (fun s p hs=>lN hs _ _ _) ha (fun i s hi hs=>by
  have hd:decide ((i:Int)<(ps.length:Int))=true:=by simpa using hi
  simp only[P1,hd,ABU,ABV,O6 hi,ABT,aD s hs _ _ _ n hn,AB6,show((2:Int)==1)=false from rfl,PL a ha n hn,O5 hi (show ps.length≤9223372036854775807 by clear hn;omega)];show(bif(Z5 s ps[i]).2 != 0 then _ else _)=_;cases((Z5 s ps[i]).2 != 0)<;>rfl) (fun s=>by simp[P1]) n (by unfold PD at hn;omega)
 unfold Tc Rl;rw[PL a ha n hn,ABT,h1,ABT];unfold Rw;grind
theorem XN(a:List PF)(ha:PU a)(ps:List D2)(hp:ps.length≤1048576)(n:Nat)(hn:PD≤n):Vn n a ps=some (Rw VQ a ps):=by
 have h1:=Yb (SK n a ps) VQ a ps (fun s p hs=>fA hs _ _ _) ha (fun i s hi hs=>by
  have hd:decide ((i:Int)<(ps.length:Int))=true:=by simpa using hi
  simp only[SK,hd,ABU,O6 hi,ABT,cu s hs _ _ _ n hn,Pz a ha n hn,O5 hi (show ps.length≤9223372036854775807 by clear hn;omega)];show(bif(VQ s ps[i]).2 != 0 then _ else _)=_;cases((VQ s ps[i]).2 != 0)<;>rfl) (fun s=>by simp[SK]) n (by unfold PD at hn;omega)
 unfold Vn YD;rw[Pz a ha n hn,ABT,h1,ABT];unfold Rw;grind
def XT(a:List PF)(PJ:Int):Option PF:=a.find? fun p=>p.1==PJ
def Wk(l:List PV):Prop:=l.Pairwise (fun a b=>a.1<b.1)∧(∀x∈l,1≤x.1∧x.1≤50∧1≤x.2∧x.2≤1000)∧l.length≤6
theorem Wk.ok{l:List PV}(h:Wk l)(n:Nat)(hn:PD≤n):Qh n l=some true:=by
 obtain⟨h1,h2,h3⟩:=h
 have:=P0 (P3 l) (fun i=>(i:Int)) l.length (fun _=>true) (fun i hi=>by
  have hp:(bif decide ((i:Int)>0)then(M8 l (O9 ((i:Int)-1))).bind (fun y=>some (decide (y.1≥l[i].1)))else some false)=some (!QS (·.1) l i l[i]):=XD (·.1) l l[i] i hi (by omega) some;obtain⟨a1,a2,a3,a4⟩:=h2 _ (ABW hi);rw[YS h1 (fun x y h=>h) i hi]at hp;simp only[P3,O6 hi,ABT,P8,O5 hi (by omega),hp];rw[show decide ((i:Int)<(l.length:Int))=true by simpa using hi,show Ps l[i].1 1 50=true by simp[Ps];omega,show Ps l[i].2 1 1000=true by simp[Ps];omega];rfl) (by simp[P3]) n (by unfold PD at hn;omega)
 unfold Qh;grind
def RM(k:Int):List D2→Int
 | []=>0
 |p::r=>(bif p.2.1==k then p.2.2 else 0)+RM k r
theorem bL(k:Int):∀(x y:List D2),RM k (x++y)=RM k x+RM k y
 | [],y=>by simp[RM]
 |p::x,y=>by simp only[ABH,RM,bL k x y];omega
theorem WD(k:Int):∀(x:List D2),(∀p∈x,1≤p.2.2)→0≤RM k x
 | [],_=>by simp[RM]
 |p::x,h=>by have h1:=WD k x fun q hq=>h q (AAJ _ hq);have h2:=h p AAe;simp only[RM];grind
theorem gu(k:Int):∀(x:List D2),(∀p∈x,p.2.1≠k)→RM k x=0
 | [],_=>rfl
 |p::x,h=>by
  have h1:=gu k x fun q hq=>h q (AAJ _ hq);have h2:(p.2.1==k)=false:=by simpa using h p AAe
  simp only[RM,h1,h2,ABV];rfl
def WC:List D2→Int
 | []=>0
 |p::r=>p.2.2+WC r
def Pt(m f:Int):Int:=bif decide (m<f)then m else f
def PZ(pid:Int)(fr:Int→Int):List PV→List D2
 | []=>[]
 |y::r=>bif decide (Pt y.2 (fr y.1)>0)then(pid,y.1,Pt y.2 (fr y.1))::PZ pid fr r else PZ pid fr r
theorem Yy(pid:Int)(fr:Int→Int):∀l,(PZ pid fr l).length≤l.length
 | []=>by simp[PZ]
 |y::r=>by have:=Yy pid fr r;simp only[PZ];grind
theorem Ur(m f:Int):Pt m f≤m∧Pt m f≤f:=by unfold Pt;grind
theorem WL(pid:Int)(fr:Int→Int):∀l,∀p∈PZ pid fr l,p.1=pid∧1≤p.2.2∧∃y∈l,y.1=p.2.1∧p.2.2≤y.2
 | [],p,h=>by cases h
 |y::r,p,h=>by
  simp only[PZ]at h;have up:=fun h=>let ⟨a,b,z,hz,h1,h2⟩:=WL pid fr r p h;(⟨a,b,z,AAJ _ hz,h1,h2⟩:p.1=pid∧1≤p.2.2∧∃w∈y::r,w.1=p.2.1∧p.2.2≤w.2)
  by_cases hg:Pt y.2 (fr y.1)>0
  ·rw[show decide (Pt y.2 (fr y.1)>0)=true by simpa using hg,ABU]at h;rcases AAZ.1 h with h|h
   ·subst h;exact⟨rfl,by show 1≤Pt y.2 (fr y.1);omega,y,AAe,rfl,(Ur _ _).1⟩
   ·exact up h
  grind
theorem Yz(pid:Int)(fr:Int→Int):∀(l:List PV),l.Pairwise (fun a b=>a.1<b.1)→(∀y∈l,0≤y.2)→∀y∈l,RM y.1 (PZ pid fr l)≤y.2
 | [],_,_,y,hy=>by cases hy
 |z::r,hp,h0,y,hy=>by
  obtain⟨h1,h2⟩:=ABm.1 hp;have hz0:=h0 z AAe;have hle:=(Ur z.2 (fr z.1)).1;simp only[PZ];rcases AAZ.1 hy with e|hy
  ·subst e
   have hn:RM y.1 (PZ pid fr r)=0:=gu _ _ fun p yo=>by obtain⟨_,_,w,hw,e,_⟩:=WL pid fr r p yo;grind
   cases decide (Pt y.2 (fr y.1)>0)with
   |true=>simp only[ABU,RM,AB6,hn];omega
   |false=>grind
  ·have ih:=Yz pid fr r h2 (fun w hw=>h0 w (AAJ _ hw)) y hy;have tj:(z.1==y.1)=false:=by have:=h1 y hy;rw[←ABj];simp;omega
   cases decide (Pt z.2 (fr z.1)>0)with
   |true=>simp only[ABU,RM,tj,ABV];omega
   |false=>grind
def PK(p:PF)(k:Int):Int:=(PR p.2.2 k).2.1-(PR p.2.2 k).2.2
theorem Yc(p:PF)(h:Va p.2.2)(k:Int):0≤PK p k∧PK p k≤1000:=by
 unfold PK PR;cases hf:p.2.2.find? (fun x=>x.1==k)with
 |none=>simp
 |some x=>
  have:=h.2.1 x (ABl hf);grind
def aR(l:List PV):Prop:=l.Pairwise (fun a b=>a.1<b.1)∧(∀y∈l,0≤y.2∧y.2≤1000)∧l.length≤6
theorem bz(p:PF)(h:Va p.2.2)(l:List PV)(hl:aR l)(n:Nat)(hn:PD≤n):Ua n p.1 p.2.1 p.2.2 l=some (PZ p.1 (PK p) l,WC (PZ p.1 (PK p) l)):=by
 have h6:=hl.2.2
 have hc:=PQ (σ:=List D2×Int) (Tj n p.1 p.2.1 p.2.2 l) (fun i s=>(s.1,s.2,(i:Int))) l (fun r s=>(s.1++PZ p.1 (PK p) r,s.2+WC (PZ p.1 (PK p) r),(l.length:Int)))
  (fun i s=>s.1.length≤i∧0≤s.2∧s.2≤1000*(i:Int)∧i≤6)
  (fun s hs=>by simp[Tj,PZ,WC])
  (fun i y r s h1 h2 h3 h4 h5=>by
   left;have hy:l[i]=y:=by rw[AAF h1]at h2;exact Option.some.inj h2
   obtain⟨out,sum⟩:=s;obtain⟨q1,q2,q3,q4⟩:=h5;dsimp only at q1 q2 q3;have zu:=hl.2.1 y (by rw[←hy];exact ABW h1);have um:=Yc p h y.1;unfold Tj;dsimp only;rw[show decide ((i:Int)<(l.length:Int))=true by simpa using h1,ABU,O6 h1,hy,O5 h1 (by omega)];simp only[ABT];rw[YI p (by have:=h.2.2;omega) y.1 n hn,ABT]
   have hw:O9 ((PR p.2.2 y.1).2.1-(PR p.2.2 y.1).2.2)=PK p y.1:=by unfold PK at um ⊢;rw[PC (by omega) (by omega)]
   rw[hw];have vf:(bif decide (y.2<PK p y.1)then some y.2 else some (PK p y.1))=some (Pt y.2 (PK p y.1)):=ic _ _ _;rw[vf,ABT];have hle:=Ur y.2 (PK p y.1);by_cases hg:Pt y.2 (PK p y.1)>0
   ·rw[show decide (Pt y.2 (PK p y.1)>0)=true by simpa using hg,ABU,show decide (out.length+[(p.1,y.1,Pt y.2 (PK p y.1))].length≤Dh)=true from R3 (by omega),ABU,ABT];rw[PC (n:=sum+Pt y.2 (PK p y.1)) (by omega) (by omega)];refine⟨(out++[(p.1,y.1,Pt y.2 (PK p y.1))],sum+Pt y.2 (PK p y.1)),rfl,⟨by show(out++[_]).length≤i+1;rw[AA2,ABb];omega,by show 0≤sum+Pt y.2 (PK p y.1);omega,by show sum+Pt y.2 (PK p y.1)≤1000*((i+1:Nat):Int);omega,by omega⟩,?_⟩;simp only[PZ];rw[show decide (Pt y.2 (PK p y.1)>0)=true by simpa using hg,ABU];simp only[WC,ABo,AB5,AB0]
   ·rw[show decide (Pt y.2 (PK p y.1)>0)=false by simpa using hg,ABV,ABT];refine⟨(out,sum),rfl,⟨by show out.length≤i+1;omega,q2,by show sum≤1000*((i+1:Nat):Int);omega,by omega⟩,?_⟩;simp only[PZ];rw[show decide (Pt y.2 (PK p y.1)>0)=false by simpa using hg,ABV])
  n (by unfold PD at hn;omega) (([]:List D2),(0:Int)) ⟨by simp,by simp,by simp,by omega⟩
 unfold Ua;grind
def bD(p:D2)(l:List PV):List PV:=l.map fun y=>bif y.1==p.2.1 then(y.1,O9 (y.2-p.2.2))else y
def ZT{β:Type}(f:β→β)(l:List β)(i:Nat):List β:=(l.take i).map f++l.drop i
theorem eG{β:Type}(f:β→β)(l:List β)(m k:Nat):(ZT f l m)[k]?=(l[k]?).map fun a=>if k<m then f a else a:=by unfold ZT;grind
theorem fM{β:Type}(f:β→β)(l:List β)(i:Nat):(ZT f l i).length=l.length:=by unfold ZT;simp;omega
theorem fN{β:Type}(f g:β→β)(l:List β)(i:Nat)(hi:i<l.length)(hg:g l[i]=f l[i]):(ZT f l i).modify i g=ZT f l (i+1):=by
 apply ABv;intro j;rw[ABg,eG,eG];by_cases hj:j<l.length
 all_goals grind
theorem jE{β:Type}(f:β→β)(l:List β)(i:Nat)(hi:i<l.length)(hf:f l[i]=l[i]):ZT f l i=ZT f l (i+1):=by have:=fN f id l i hi hf.symm;rw[←this];apply ABv;grind
theorem j7{β:Type}(f:β→β)(l:List β):ZT f l l.length=l.map f:=by unfold ZT;simp
theorem kM(bt:List D2)(sm:Int)(z:List PV)(k:Nat)(hk:k<bt.length)(l:List PV)(hl:l.length≤6)(n:Nat)(hn:PD≤n):
  iter n (TM (bt,sm) ((k:Int),z)) (0,l)=some ((l.length:Int),bD bt[k] l):=by
 have:=Ph (TM (bt,sm) ((k:Int),z)) (fun i=>((i:Int),ZT (fun y=>bif y.1==bt[k].2.1 then(y.1,O9 (y.2-bt[k].2.2))else y) l i)) l.length ((l.length:Int),bD bt[k] l) (fun i hi=>by
  have hg:=eG (fun y=>bif y.1==bt[k].2.1 then(y.1,O9 (y.2-bt[k].2.2))else y) l i i;rw[AAF hi]at hg;simp only[AA9,Nat.lt_irrefl,if_false]at hg;have hlen:=fM (fun y=>bif y.1==bt[k].2.1 then(y.1,O9 (y.2-bt[k].2.2))else y) l i;unfold TM;dsimp only;rw[hlen,show decide ((i:Int)<(l.length:Int))=true by simpa using hi,ABU];have tS:Ob (ZT (fun y=>bif y.1==bt[k].2.1 then(y.1,O9 (y.2-bt[k].2.2))else y) l i) (i:Int)=true:=PA (by rw[hlen];exact hi);have hbt:bt[(k:Int).toNat]?=some bt[k]:=by simp[hk]
  simp only[tS,PA hk,ABU,ABX,hg,ABT,AAF hk];rw[O5 hi (by omega)];cases hq:(l[i].1==bt[k].2.1)with
  |true=>
   rw[ABU,ABT,fN _ _ l i hi (by rw[hq];rfl)]
  |false=>
   rw[ABV,ABT,←jE _ l i hi (by rw[hq];rfl)]) (by
  unfold TM;dsimp only;rw[fM,j7];simp[bD]) n (by unfold PD at hn;omega)
 have h0:ZT (fun y=>bif y.1==bt[k].2.1 then(y.1,O9 (y.2-bt[k].2.2))else y) l 0=l:=by unfold ZT;simp
 grind
theorem kY(p:D2)(l:List PV):(bD p l).length=l.length:=by unfold bD;simp
theorem kL(bt:List D2)(hbt:bt.length≤6)(sm:Int)(l:List PV)(hl:l.length≤6)(n:Nat)(hn:PD≤n):
  iter n (TL n (bt,sm)) (0,l)=some ((bt.length:Int),bt.foldl (fun l p=>bD p l) l):=by
 have:=PQ (σ:=List PV) (TL n (bt,sm)) (fun i s=>((i:Int),s)) bt (fun r s=>((bt.length:Int),r.foldl (fun l p=>bD p l) s)) (fun i s=>s.length≤6)
  (fun s hs=>by unfold TL;simp) (fun i p r s h1 h2 h3 h4 h5=>by
   left;have hp:bt[i]=p:=by rw[AAF h1]at h2;exact Option.some.inj h2
   refine⟨bD p s,?_,by rw[kY];exact h5,rfl⟩;unfold TL;dsimp only;rw[show decide ((i:Int)<(bt.length:Int))=true by grind,ABU,kM bt sm s i h1 s h5 n hn,ABT,O5 h1 (by omega),hp])
  n (by unfold PD at hn;omega) l hl
 exact this
theorem iL:∀(bt:List D2)(l:List PV),(∀p∈bt,1≤p.2.2)→(∀y∈l,RM y.1 bt≤y.2∧y.2≤1000)→bt.foldl (fun l p=>bD p l) l=l.map fun y=>(y.1,y.2-RM y.1 bt)
 | [],l,_,_=>by simp[RM]
 |p::bt,l,h1,h2=>by
  have hp:=h1 p AAe;have hr:=fun q hq=>h1 q (AAJ p hq)
  have e:bD p l=l.map fun y=>(y.1,y.2-bif p.2.1==y.1 then p.2.2 else 0):=by
   unfold bD;refine AB1 fun y hy=>?_;obtain⟨q1,q2⟩:=h2 y hy;have wV:=WD y.1 bt hr;simp only[RM]at q1;have hc:(y.1==p.2.1)=(p.2.1==y.1):=by rw[ABw];simp;exact eq_comm
   rw[hc];cases hq:(p.2.1==y.1)with
   |true=>
    rw[hq]at q1;simp only[ABU]at q1 ⊢;rw[PC (by omega) (by omega)]
   |false=>simp
  rw[List.foldl_cons,e,iL bt _ hr,List.map_map]
  ·refine AB1 fun y hy=>?_;simp only[Function.comp_apply,RM];grind
  ·intro y hy;obtain⟨z,hz,rfl⟩:=AAs.1 hy;obtain⟨q1,q2⟩:=h2 z hz;simp only[RM]at q1;grind
def Uc:List PV→Int
 | []=>0
 |y::r=>y.2+Uc r
theorem aO:∀(l:List PV),(∀y∈l,0≤y.2)→0≤Uc l∧(Uc l=0→∀y∈l,y.2=0)
 | [],_=>⟨by simp[Uc],fun _ y hy=>by cases hy⟩
 |z::r,h=>by obtain⟨h1,h2⟩:=aO r fun y hy=>h y (AAJ _ hy);have hz:=h z AAe;refine⟨by simp only[Uc];omega,fun e y hy=>?_⟩;simp only[Uc]at e;grind
theorem kK(x:(List D2)×Bool×(List D2)×(List D2)×(List PV)×(List Bool))(hl:aR x.2.2.2.2.1)(n:Nat)(hn:PD≤n):iter n (TK x) (0,0)=some (Uc x.2.2.2.2.1,(x.2.2.2.2.1.length:Int)):=by
 obtain⟨x1,x2,x3,x4,l,x6⟩:=x;dsimp only at hl ⊢;have h6:=hl.2.2
 have:=PQ (σ:=Int) (TK (x1,x2,x3,x4,l,x6)) (fun i s=>(s,(i:Int))) l (fun r s=>(s+Uc r,(l.length:Int))) (fun i s=>0≤s∧s≤1000*(i:Int)∧i≤6)
  (fun s hs=>by unfold TK;simp[Uc]) (fun i y r s h1 h2 h3 h4 h5=>by
   left;have hy:l[i]=y:=by rw[AAF h1]at h2;exact Option.some.inj h2
   have zu:=hl.2.1 y (by rw[←hy];exact ABW h1);refine⟨s+y.2,?_,⟨by omega,by omega,by omega⟩,by simp only[Uc,AB0]⟩;unfold TK;dsimp only;rw[show decide ((i:Int)<(l.length:Int))=true by simpa using h1,ABU,PA h1,ABU,ABX,h2,ABT,O5 h1 (by omega),PC (n:=s+y.2) (by omega) (by omega)])
  n (by unfold PD at hn;omega) 0 ⟨by omega,by omega,by omega⟩
 grind
def PG(o:List D2)(want:List PV):Prop:=(∀p∈o,1≤p.2.2∧∃y∈want,y.1=p.2.1)∧∀y∈want,RM y.1 o=y.2
def Vd:List Bool→Nat
 | []=>0
 |b::r=>(bif b then 0 else 1)+Vd r
theorem Y1:∀(u:List Bool)(j:Nat),u[j]?=some false→Vd (Cb u j true)+1=Vd u∧(Cb u j true).length=u.length
 | [],j,h=>by simp at h
 |b::r,0,h=>by simp at h;subst h;simp[Cb,Vd];omega
 |b::r,j+1,h=>by obtain⟨h1,h2⟩:=Y1 r j (by simpa using h);simp only[Cb,Vd,ABG,h2,and_true];omega
theorem Y0:∀n,Vd (List.replicate n false)=n
 |0=>rfl
 |n+1=>by rw[List.replicate_succ];simp only[Vd,Y0 n,ABV];omega
def leftOf(want:List PV)(o:List D2):List PV:=want.map fun y=>(y.1,y.2-RM y.1 o)
theorem fI{want:List PV}(h:Wk want){o:List D2}(h1:∀p∈o,1≤p.2.2)(h2:∀y∈want,RM y.1 o≤y.2):aR (leftOf want o):=by
 refine⟨?_,fun y hy=>?_,by unfold leftOf;rw[ABB];exact h.2.2⟩
 ·unfold leftOf;rw[ABi];exact h.1
 ·unfold leftOf at hy;obtain⟨z,hz,rfl⟩:=AAs.1 hy;have q1:=h2 z hz;have q2:=WD z.1 o h1;have q3:=h.2.1 z hz;omega
def tp:List D2→Int→Int→Int
 | [],_,_=>0
 |p::r,PJ,k=>(if p.1=PJ∧p.2.1=k then p.2.2 else 0)+tp r PJ k
theorem ZK:∀(x y:List D2)(PJ k:Int),tp (x++y) PJ k=tp x PJ k+tp y PJ k
 | [],y,PJ,k=>by simp[tp]
 |p::x,y,PJ,k=>by simp only[ABH,tp,ZK x y PJ k];omega
theorem eY:∀(x:List D2),(∀p∈x,1≤p.2.2)→∀PJ k,0≤tp x PJ k
 | [],_,_,_=>by simp[tp]
 |p::x,h,PJ,k=>by have h1:=eY x (fun q hq=>h q (AAJ _ hq)) PJ k;have h2:=h p AAe;simp only[tp];omega
theorem kf:∀(x:List D2)(PJ k:Int),(∀p∈x,p.1=PJ→p.2.1≠k)→tp x PJ k=0
 | [],_,_,_=>rfl
 |p::x,PJ,k,h=>by have h1:=kf x PJ k fun q hq=>h q (AAJ _ hq);have h2:=h p AAe;simp only[tp,h1];omega
def iQ(f:Int→Int→Int)(p:PF):PF:=(p.1,p.2.1,p.2.2.map fun y=>(y.1,y.2.1,y.2.2+f p.1 y.1))
def Pg(a:List PF)(f:Int→Int→Int):List PF:=a.map (iQ f)
theorem X9(a:List PF)(f:Int→Int→Int)(h:∀PJ k,f PJ k=0):Pg a f=a:=by
 unfold Pg
 have:iQ f=id:=funext fun p=>by
  unfold iQ;have:(fun y:D2=>(y.1,y.2.1,y.2.2+f p.1 y.1))=id:=funext fun y=>by rw[h];simp
  rw[this,List.map_id];rfl
 rw[this,List.map_id]
theorem dy(a:List PF){f g:Int→Int→Int}(h:∀PJ k,f PJ k=g PJ k):Pg a f=Pg a g:=by rw[show f=g from funext fun p=>funext fun k=>h p k]
theorem Y4(a:List PF)(f:Int→Int→Int):(Pg a f).length=a.length:=by unfold Pg;grind
theorem dX{a:List PF}{f:Int→Int→Int}{i:Nat}(h:i<(Pg a f).length):(Pg a f)[i]=iQ f (a[i]'(by rw[Y4]at h;exact h)):=ABr (iQ f)
theorem lX(p:D2)(rs:List D2):tp (p::rs) p.1 p.2.1=p.2.2+tp rs p.1 p.2.1:=by show(if p.1=p.1∧p.2.1=p.2.1 then p.2.2 else 0)+tp rs p.1 p.2.1=_;omega
theorem kt(a:List PF)(f:Int→Int→Int)(PJ k d:Int):bM (Pg a f) PJ k d=Pg a fun p s=>f p s+if p=PJ∧s=k then d else 0:=by
 unfold bM XZ Pg Ya;rw[List.map_map];refine AB1 fun p _=>?_;simp only[Function.comp,iQ];by_cases hp:p.1=PJ
 ·rw[show(p.1==PJ)=true from AAS.2 hp,ABU,List.map_map];refine congrArg (fun l=>(p.1,p.2.1,l)) (AB1 fun y _=>?_);simp only[Function.comp];by_cases hy:y.1=k
  ·rw[show(y.1==k)=true from AAS.2 hy,ABU,AAK ⟨hp,hy⟩,AB0]
  ·rw[show(y.1==k)=false from ABa.2 hy,ABV,AAM (fun h=>hy h.2),Int.add_zero]
 grind
theorem gp(l:List D2)(g:Int→Int)(k:Int):PR (l.map fun y=>(y.1,y.2.1,y.2.2+g y.1)) k=match l.find? (fun x=>x.1==k)with
  |some x=>(x.1,x.2.1,x.2.2+g k)
  |none=>(k,0,0):=by
 unfold PR;rw[List.find?_map];have:((fun x:D2=>x.1==k) ∘ fun y:D2=>(y.1,y.2.1,y.2.2+g y.1))=fun x:D2=>x.1==k:=rfl;grind
theorem ig(p:PF)(f:Int→Int→Int)(k:Int)(h0:PK p k=0→f p.1 k=0):PK (iQ f p) k=PK p k-f p.1 k:=by unfold PK at h0 ⊢;unfold iQ;rw[gp p.2.2 (f p.1) k];unfold PR at h0 ⊢;grind
theorem jv{a:List PF}(h:PO a){i:Nat}(hi:i<a.length){k m:Int}(hk:1≤k∧k≤50)(hm:1≤m∧m≤1000):Py a a[i].1 k m=0∧SE a a[i].1 k=PR a[i].2.2 k:=by
 have h12:=h.1;rcases(RS a (by omega) a[i].1 PD (AAd _)).2 with⟨_,e⟩|⟨j,hj,e,e2⟩
 ·grind
 ·have eij:a[j]=a[i]:=XU h hi (ABW hj) e2;refine⟨?_,?_⟩
  ·unfold Py Ps;rw[Pk.2 h,ABZ hk.1,ABZ hk.2,ABZ hm.1,ABZ hm.2,e];simp
  ·unfold SE;grind
structure Fits(a:List PF)(ps:List D2):Prop where
 each:∀p∈ps,(1≤p.2.1∧p.2.1≤50)∧(1≤p.2.2∧p.2.2≤1000)∧∃i,∃h:i<a.length,a[i].1=p.1
 free:∀q∈a,∀k,tp ps q.1 k≤PK q k
theorem Fits.pos{a:List PF}{ps:List D2}(h:Fits a ps)(PJ k:Int):0≤tp ps PJ k:=eY ps (fun p hp=>(h.each p hp).2.1.1) PJ k
theorem Fits.init{a:List PF}{qs rs:List D2}(h:Fits a (qs++rs)):Fits a qs:=by have h1:=fun p hp=>h.each p (AAQ rs hp);refine⟨h1,fun q hq k=>?_⟩;have h2:=h.free q hq k;have h3:=eY rs (fun p hp=>(h.each p (AAO qs hp)).2.1.1) q.1 k;rw[ZK]at h2;omega
theorem Fits.to{a:List PF}{ps:List D2}(h:Fits a ps)(ha:PO a){q:PF}(hq:q∈a)(k:Int):PK (iQ (tp ps) q) k=PK q k-tp ps q.1 k:=by refine ig q (tp ps) k fun e=>?_;have h1:=h.free q hq k;have h2:=h.pos q.1 k;omega
theorem dz{a:List PF}(ha:PO a):∀(rs qs:List D2),PO (Pg a (tp qs))→Fits a (qs++rs)→XJ VQ rs (Pg a (tp qs))=some (Pg a (tp (qs++rs)))∧PO (Pg a (tp (qs++rs)))
 | [],qs,hs,_=>by rw[ABy];exact⟨rfl,hs⟩
 |p::rs,qs,hs,hf=>by
  obtain⟨hk,hm,i,hi,e⟩:=hf.each p (AAO _ AAe);have hi2:i<(Pg a (tp qs)).length:=by rw[Y4];exact hi
  have u3:=dX hi2;have hid:(Pg a (tp qs))[i].1=p.1:=by rw[u3];exact e
  obtain⟨c1,c2⟩:=jv hs hi2 hk hm;rw[hid]at c1 c2;have hfree:=hf.free _ (ABW hi) p.2.1;have wS:=hf.init.to ha (ABW hi) p.2.1;have hrs:=eY rs (fun q hq=>(hf.each q (AAO _ (AAJ _ hq))).2.1.1) p.1 p.2.1;rw[ZK,e,lX]at hfree;rw[e]at wS;have uh:p.2.2≤PK (iQ (tp qs) a[i]) p.2.1:=by omega
  have hneg:¬((PR (iQ (tp qs) a[i]).2.2 p.2.1).2.1-(PR (iQ (tp qs) a[i]).2.2 p.2.1).2.2<p.2.2):=by unfold PK at uh;omega
  have hh:VQ (Pg a (tp qs)) p=(Pg a (tp (qs++[p])),0):=by
   unfold VQ Yq;rw[c1,AAM (by omega),c2,u3,AAM hneg,kt];refine congrArg (fun s=>(s,(0:Int))) (dy a fun PJ k=>?_);rw[ZK];simp only[tp]
   have:(if PJ=p.1∧k=p.2.1 then p.2.2 else 0)=(if p.1=PJ∧p.2.1=k then p.2.2 else 0:Int):=by
    by_cases hc:p.1=PJ∧p.2.1=k
    ·rw[AAK hc,AAK ⟨hc.1.symm,hc.2.symm⟩]
    ·rw[AAM hc,AAM (fun h=>hc ⟨h.1.symm,h.2.symm⟩)]
   rw[this];omega
  have hS:PO (Pg a (tp (qs++[p]))):=by have:=ez hs p.1 p.2.1 p.2.2;unfold VQ at hh;rw[hh]at this;exact this
  have ih:=dz ha rs (qs++[p]) hS (by grind);rw[ABo]at ih;rw[XJ,hh,AAM (by simp)];exact ih
theorem dY{a:List PF}(ha:PO a){ps:List D2}(hf:Fits a ps):Rw VQ a ps=(Pg a (tp ps),true)∧PO (Pg a (tp ps)):=by have h0:Pg a (tp [])=a:=X9 a _ fun _ _=>rfl;have:=dz ha ps [] (by rw[h0];exact ha) hf;rw[h0,AA4]at this;unfold Rw;grind
theorem dZ{a:List PF}(ha:PO a){qs rs:List D2}(hs:PO (Pg a (tp qs)))(hf:Fits a (qs++rs)):Rw VQ (Pg a (tp qs)) rs=(Pg a (tp (qs++rs)),true)∧PO (Pg a (tp (qs++rs))):=by have:=dz ha rs qs hs hf;unfold Rw;grind
def Zz(l:List PV)(i:Nat):Bool:=match l[i]? with
 |some x=>Ps x.1 1 50&&Ps x.2 1 1000&&QS (·.1) l i x
 |none=>false
def Um(l:List PV):Bool:=(List.range l.length).all (Zz l)&&decide (l.length≤6)
theorem Un{l:List PV}:Um l=true↔Wk l:=by
 constructor
 ·intro h;unfold Um at h;simp only[AAG,AAb,AAU,AAR]at h;obtain⟨uZ,h6⟩:=h
  have hi:∀i (hi:i<l.length),(1≤l[i].1∧l[i].1≤50)∧(1≤l[i].2∧l[i].2≤1000)∧QS (·.1) l i l[i]=true:=by intro i hi;have:=uZ i hi;unfold Zz Ps at this;rw[AAF hi]at this;simp only[AAG,AAb]at this;exact⟨this.1.1,this.1.2,this.2⟩
  refine⟨WX _ _ fun i hi2=>(Wq (·.1) l (i+1) hi2).1 (hi (i+1) hi2).2.2 i rfl,fun x hx=>?_,h6⟩;obtain⟨i,hi2,rfl⟩:=ABY.1 hx;grind
 ·rintro ⟨h1,h2,h3⟩
  unfold Um;simp only[AAG,AAb,AAU,AAR];refine⟨fun i hi=>?_,h3⟩;obtain⟨a1,a2,a3,a4⟩:=h2 _ (ABW hi);unfold Zz Ps;rw[AAF hi];simp only[AAG,AAb];exact⟨⟨⟨a1,a2⟩,a3,a4⟩,YS h1 (fun x y h=>h) i hi⟩
theorem Ut(l:List PV)(hl:l.length≤1048576)(n:Nat)(hn:PD≤n):Qh n l=some (Um l):=by
 have:=P0 (P3 l) (fun i=>(i:Int)) l.length (Zz l) (fun i hi=>by
  have hp:(bif decide ((i:Int)>0)then(M8 l (O9 ((i:Int)-1))).bind (fun y=>some (decide (y.1≥l[i].1)))else some false)=some (!QS (·.1) l i l[i]):=XD (·.1) l l[i] i hi hl some;unfold Zz;rw[AAF hi];simp only[P3,O6 hi,ABT,P8,O5 hi (show l.length≤9223372036854775807 by clear hn;omega),hp];grind) (by simp[P3]) n (by unfold PD at hn;omega)
 unfold Qh Um;rw[show((0:Nat):Int)=0 from rfl]at this;rw[this,ABT];cases(List.range l.length).all (Zz l)with
 |false=>rfl
 |true=>
  rw[ABU,ABt];show some (decide ((l.length:Int)≤6))=_;rw[show decide ((l.length:Int)≤6)=decide (l.length≤6) by rw[decide_eq_decide];clear hn;omega]
theorem RP(l:List PV)(hl:l.length≤1048576)(n:Nat)(hn:PD≤n):Ro n l=some (Um l):=by rw[gH,Ut l hl n hn]
theorem fL(m f:Int):NF m f=Pt m f:=by unfold NF Pt;grind
theorem bf(p:PF)(h:Va p.2.2)(l:List PV)(hl:aR l)(n:Nat)(hn:PD≤n):Y8 n p.1 p.2.1 p.2.2 l=some (PZ p.1 (PK p) l,WC (PZ p.1 (PK p) l)):=by
 have h6:=hl.2.2
 have hc:=PQ (σ:=List D2×Int) (U3 n p.1 p.2.1 p.2.2 l) (fun i s=>(s.1,s.2,(i:Int))) l (fun r s=>(s.1++PZ p.1 (PK p) r,s.2+WC (PZ p.1 (PK p) r),(l.length:Int)))
  (fun i s=>s.1.length≤i∧0≤s.2∧s.2≤1000*(i:Int)∧i≤6)
  (fun s hs=>by simp[U3,PZ,WC])
  (fun i y r s h1 h2 h3 h4 h5=>by
   left;have hy:l[i]=y:=by rw[AAF h1]at h2;exact Option.some.inj h2
   obtain⟨out,sum⟩:=s;obtain⟨q1,q2,q3,q4⟩:=h5;dsimp only at q1 q2 q3;have zu:=hl.2.1 y (by rw[←hy];exact ABW h1);have um:=Yc p h y.1;obtain⟨j,b,e,e1,e2⟩:=YY h p.1 p.2.1 y.1 n hn;have hle:=Ur y.2 (PK p y.1);unfold U3;dsimp only;rw[show decide ((i:Int)<(l.length:Int))=true by simpa using h1,ABU,O6 h1,hy,O5 h1 (show l.length≤9223372036854775807 by clear hn;omega)];simp only[ABT];rw[e,ABT];dsimp only;cases b with
   |false=>
    have hz:PK p y.1=0:=by unfold PK;rw[(e2 rfl).2];rfl
    have yn:¬Pt y.2 (PK p y.1)>0:=by clear hn;omega
    refine⟨(out,sum),rfl,⟨by show out.length≤i+1;clear hn;omega,q2,by show sum≤1000*((i+1:Nat):Int);clear hn;omega,by clear hn;omega⟩,?_⟩;simp only[PZ];rw[ABd yn,ABV]
   |true=>
    obtain⟨hj,_,ej⟩:=e1 rfl
    have hw:O9 (p.2.2[j].2.1-p.2.2[j].2.2)=PK p y.1:=by
     unfold PK at um ⊢;rw[ej]at um ⊢;rw[PC (by clear hn;omega) (by clear hn;omega)]
    simp only[ABc,ABV,O6 hj,ABT,hw,fL];by_cases hg:Pt y.2 (PK p y.1)>0
    ·rw[ABZ hg,ABU,show decide (out.length+[(p.1,y.1,Pt y.2 (PK p y.1))].length≤Dh)=true from R3 (by clear hn;omega),ABU,ABT];rw[PC (n:=sum+Pt y.2 (PK p y.1)) (by clear hn;omega) (by clear hn;omega)];refine⟨(out++[(p.1,y.1,Pt y.2 (PK p y.1))],sum+Pt y.2 (PK p y.1)),rfl,⟨by show(out++[_]).length≤i+1;rw[AA2,ABb];clear hn;omega,by show 0≤sum+Pt y.2 (PK p y.1);clear hn;omega,by show sum+Pt y.2 (PK p y.1)≤1000*((i+1:Nat):Int);clear hn;omega,by clear hn;omega⟩,?_⟩;simp only[PZ];rw[ABZ hg,ABU];simp only[WC,ABo,AB5,AB0]
    ·rw[ABd hg,ABV,ABT];refine⟨(out,sum),rfl,⟨by show out.length≤i+1;clear hn;omega,q2,by show sum≤1000*((i+1:Nat):Int);clear hn;omega,by clear hn;omega⟩,?_⟩;simp only[PZ];rw[ABd hg,ABV])
  n (by unfold PD at hn;omega) (([]:List D2),(0:Int)) ⟨by simp,by simp,by simp,by omega⟩
 unfold Y8;grind
def ZA(l:List PV)(bt:List D2):List PV:=(l.map fun y=>(y.1,y.2-RM y.1 bt)).filter fun y=>decide (y.2>0)
theorem eC(bt:List D2)(hb:bt.length≤72)(h1:∀p∈bt,1≤p.2.2)(k m:Int)(ht:RM k bt≤m)(hm:m≤1000)(n:Nat)(hn:PD≤n):
  iter n (UI bt) (0,k,m)=some ((bt.length:Int),k,m-RM k bt):=by
 have hc:=PQ (σ:=Int) (UI bt) (fun i s=>((i:Int),k,s)) bt (fun r s=>((bt.length:Int),k,s-RM k r)) (fun i s=>RM k (bt.drop i)≤s∧s≤1000)
  (fun s hs=>by unfold UI;simp[RM])
  (fun i p r s g1 g2 g3 g4 g5=>by
   left;have hp:bt[i]=p:=by rw[AAF g1]at g2;exact Option.some.inj g2
   have wJ:p∈bt:=by rw[←hp];exact ABW g1
   have hpp:=h1 p wJ;have hrp:=WD k r fun q hq=>h1 q (List.mem_of_mem_drop (i:=i) (by grind));obtain⟨g5,g6⟩:=g5;rw[g3]at g5;simp only[RM]at g5;rw[g4];unfold UI;dsimp only;rw[show decide ((i:Int)<(bt.length:Int))=true by grind,ABU,O6 g1,hp,ABT,O5 g1 (show bt.length≤9223372036854775807 by omega)];simp only[RM];cases hq:(p.2.1==k)with
   |true=>
    rw[hq,ABU]at g5;rw[ABU,ABT,PC (n:=s-p.2.2) (by clear hn;omega) (by clear hn;omega)];grind
   |false=>
    rw[hq,ABV]at g5;rw[ABV,ABT];grind)
  n (by unfold PD at hn;omega) m ⟨ht,hm⟩
 exact hc
theorem dB(l:List PV)(hl:l.length≤6)(bt:List D2)(hb:bt.length≤72)(h1:∀p∈bt,1≤p.2.2)(ht:∀y∈l,RM y.1 bt≤y.2∧y.2≤1000)(n:Nat)(hn:PD≤n):Zx n l bt=some (ZA l bt):=by
 have hc:=PQ (σ:=List PV) (Vq n l bt) (fun i s=>(s,(i:Int))) l (fun r s=>(s++ZA r bt,(l.length:Int))) (fun i s=>s.length≤i)
  (fun s hs=>by unfold Vq;simp[ZA])
  (fun i y r s g1 g2 g3 g4 g5=>by
   left;have hy:l[i]=y:=by rw[AAF g1]at g2;exact Option.some.inj g2
   obtain⟨t1,t2⟩:=ht y (by rw[←hy];exact ABW g1);unfold Vq;dsimp only;rw[show decide ((i:Int)<(l.length:Int))=true by rw[AAb];clear hn;omega,ABU,O6 g1,hy,ABT,O5 g1 (show l.length≤9223372036854775807 by clear hn;omega),eC bt hb h1 y.1 y.2 t1 t2 n hn,ABT];dsimp only;by_cases hg:y.2-RM y.1 bt>0
   ·rw[ABZ hg,ABU,show decide (s.length+[(y.1,y.2-RM y.1 bt)].length≤Dh)=true from R3 (by clear hn;omega),ABU,ABT];refine⟨s++[(y.1,y.2-RM y.1 bt)],rfl,by rw[AA2,ABb];clear hn;omega,?_⟩;unfold ZA;rw[ABK,ABu,AAK (by rw[AAb];exact hg),ABo,AB5]
   ·rw[ABd hg,ABV,ABT];refine⟨s,rfl,by clear hn;omega,?_⟩;unfold ZA;rw[ABK,ABu,AAM (by rw[AAb];exact hg)])
  n (by unfold PD at hn;omega) [] (by simp)
 unfold Zx;grind
theorem Yp(pid:Int)(fr:Int→Int):∀l:List PV,PZ pid fr (l.filter fun y=>decide (y.2>0))=PZ pid fr l
 | []=>rfl
 |y::r=>by
  have ih:=Yp pid fr r;rw[ABu];by_cases h:y.2>0
  ·rw[AAK (by grind)];simp only[PZ,ih]
  ·rw[AAM (by rw[AAb];exact h)];have:=(Ur y.2 (fr y.1)).1;simp only[PZ,ih];grind
theorem bQ(pid:Int)(fr:Int→Int):∀l:List PV,(∀y∈l,0<y.2→fr y.1≤0)→PZ pid fr l=[]
 | [],_=>rfl
 |y::r,h=>by have ih:=bQ pid fr r fun z hz=>h z (AAJ _ hz);have h1:=h y AAe;have h2:=Ur y.2 (fr y.1);simp only[PZ,ih];grind
theorem dw(pid:Int){f g:Int→Int}(h:∀k,f k=g k)(l:List PV):PZ pid f l=PZ pid g l:=by rw[show f=g from funext h]
theorem dU(pid:Int)(fr:Int→Int)(um:∀k,0≤fr k):∀(l:List PV),l.Pairwise (fun a b=>a.1<b.1)→(∀y∈l,0≤y.2)→(∀k,tp (PZ pid fr l) pid k=RM k (PZ pid fr l)∧RM k (PZ pid fr l)≤fr k)∧∀y∈l,RM y.1 (PZ pid fr l)=Pt y.2 (fr y.1)
 | [],_,_=>⟨fun k=>⟨rfl,by simp only[PZ,RM];exact um k⟩,fun y hy=>by cases hy⟩
 |z::r,hp,h0=>by
  obtain⟨h1,h2⟩:=ABm.1 hp;obtain⟨i1,i2⟩:=dU pid fr um r h2 fun y hy=>h0 y (AAJ _ hy);have hz0:=h0 z AAe;have vO:=um z.1
  have xN:RM z.1 (PZ pid fr r)=0:=gu _ _ fun p yo=>by obtain⟨_,_,w,hw,e,_⟩:=WL pid fr r p yo;have:=h1 w hw;omega
  have hlz:0≤Pt z.2 (fr z.1):=by unfold Pt;by_cases h:z.2<fr z.1<;>simp[h]<;>omega
  have hle:=Ur z.2 (fr z.1);simp only[PZ];by_cases hg:Pt z.2 (fr z.1)>0
  ·rw[ABZ hg,ABU];refine⟨fun k=>?_,fun y hy=>?_⟩
   ·obtain⟨j1,j2⟩:=i1 k;simp only[tp,RM];by_cases hk:z.1=k
    ·subst hk;rw[AAK ⟨trivial,rfl⟩,AB6,ABU,j1];exact⟨rfl,by omega⟩
    ·rw[AAM (fun h=>hk h.2),show(z.1==k)=false from ABa.2 hk,ABV,j1];exact⟨rfl,by omega⟩
   ·simp only[RM];rcases AAZ.1 hy with e|hy
    ·subst e;rw[AB6,ABU,xN];omega
    ·have:=h1 y hy;rw[show(z.1==y.1)=false from ABa.2 (by omega),ABV,i2 y hy];omega
  grind
theorem Wl{β:Type}(P:β→Bool)(f:β→β):∀l:List β,(∀y∈l,P y=false→P (f y)=false)→((l.filter P).map f).filter P=(l.map f).filter P
 | [],_=>rfl
 |y::r,h=>by have ih:=Wl P f r fun z hz=>h z (AAJ _ hz);grind
theorem jN{a:List PF}(ha:PO a){work:List PF}(hwl:work.length=a.length)(hw:PO work)(x1:List D2)(x2:Bool)(o x4:List D2){l left:List PV}(hl:aR l)(hleft:aR left){u:List Bool}(hu:u.length=a.length)
  (hc:∀k (h:k<a.length) (h2:k<work.length),(u[k]?=some false→PZ work[k].1 (PK work[k]) left=PZ a[k].1 (PK a[k]) l)∧(u[k]?=some true→PZ work[k].1 (PK work[k]) left=[])) (n:Nat) (hn:PD≤n):
  ∃(best most:Int) (bt:List D2),iter n (VD n a (x1,x2,o,x4,l,u)) ((-1),0,0)=some (best,most,(a.length:Int))∧iter n (U1 n (o,left,work)) (([]:List D2),0,0)=some (bt,most,(a.length:Int))∧
   (best = -1∧most=0∧bt=[]∨∃j,∃h:j<a.length,best=(j:Int)∧u[j]?=some false∧bt=PZ a[j].1 (PK a[j]) l∧0<most):=by
 have h12:=ha.1
 obtain⟨z,w,hS,e1,e2⟩:=YH (f:=VD n a (x1,x2,o,x4,l,u)) (g:=U1 n (o,left,work))
  (fun s t=>∃k:Nat,k≤a.length∧s.2.2=(k:Int)∧t.2.2=(k:Int)∧t.2.1=s.2.1∧(s.1 = -1∧s.2.1=0∧t.1=[]∨∃j,∃h:j<a.length,s.1=(j:Int)∧u[j]?=some false∧t.1=PZ a[j].1 (PK a[j]) l∧0<s.2.1))
  (fun z w=>z.2.2=(a.length:Int)∧w.2.2=(a.length:Int)∧w.2.1=z.2.1∧(z.1 = -1∧z.2.1=0∧w.1=[]∨∃j,∃h:j<a.length,z.1=(j:Int)∧u[j]?=some false∧w.1=PZ a[j].1 (PK a[j]) l∧0<z.2.1))
  (fun s=>((a.length:Int)-s.2.2).toNat) (fun s t hR=>by
   obtain⟨b,m,i⟩:=s;obtain⟨bt,m2,i2⟩:=t;obtain⟨k,hk,h1,h2,h3,h4⟩:=hR;dsimp only at h1 h2 h3 h4;subst h1;subst h2;subst h3
   have hm0:0≤m2:=by
    rcases h4 with⟨_,h,_⟩|⟨_,_,_,_,_,h⟩<;>(clear hn;omega)
   unfold VD U1;dsimp only;rw[hwl];by_cases tX:k<a.length
   ·right;have hkw:k<work.length:=by clear hn;omega
    have v7:=(ha.2.2 _ (ABW tX)).2.2;have hst2:=(hw.2.2 _ (ABW hkw)).2.2;obtain⟨c1,c2⟩:=hc k tX hkw;rw[show decide ((k:Int)<(a.length:Int))=true by rw[AAb];clear hn;omega,ABU,ABU,O6 tX,ABT,bz a[k] v7 l hl n hn,ABT,PA (by clear hn;omega),ABU,ABX,AAF (show k<u.length by clear hn;omega),ABT,O5 tX (show a.length≤9223372036854775807 by clear hn;omega)];rw[O6 hkw,ABT,bf work[k] hst2 left hleft n hn,ABT];rw[AAF (show k<u.length by clear hn;omega)]at c1 c2;have hμ:((a.length:Int)-((k+1:Nat):Int)).toNat<((a.length:Int)-(k:Int)).toNat:=by clear hn;omega
    dsimp only;cases hui:u[k]'(by clear hn;omega)with
    |true=>
     rw[c2 (by rw[hui])];simp only[ABc,ABV,ABT];rw[show decide (WC []>m2)=false by rw[AAf];simp only[WC];clear hn;omega];exact⟨_,_,rfl,rfl,⟨k+1,tX,rfl,rfl,rfl,h4⟩,hμ⟩
    |false=>
     rw[c1 (by rw[hui])];simp only[ABp,ABU,ABT];by_cases hg:WC (PZ a[k].1 (PK a[k]) l)>m2
     ·rw[ABZ hg];exact⟨_,_,rfl,rfl,⟨k+1,tX,rfl,rfl,rfl,.inr ⟨k,tX,rfl,by rw[AAF (show k<u.length by clear hn;omega),hui],rfl,by show 0<WC _;clear hn;omega⟩⟩,hμ⟩
     ·rw[ABd hg];exact⟨_,_,rfl,rfl,⟨k+1,tX,rfl,rfl,rfl,h4⟩,hμ⟩
   ·left;have:k=a.length:=by clear hn;omega
    subst this;rw[show decide ((a.length:Int)<(a.length:Int))=false by rw[AAf];clear hn;omega];exact⟨_,_,rfl,rfl,rfl,rfl,rfl,h4⟩) n ((-1),0,0) (([]:List D2),0,0) ⟨0,Nat.zero_le _,rfl,rfl,rfl,.inl ⟨rfl,rfl,rfl⟩⟩ (by show((a.length:Int)-0).toNat<n;unfold PD at hn;omega)
 grind
def Q9(want:List PV)(o:List D2):List PV:=(leftOf want o).filter fun y=>decide (y.2>0)
theorem jC{want:List PV}{o:List D2}(h:aR (leftOf want o)):aR (Q9 want o):=⟨h.1.filter _,fun y hy=>h.2.1 y (ABq.1 hy).1,AAw (ABs _ _) h.2.2⟩
structure PI(a:List PF)(want:List PV)(o:List D2)(u:List Bool):Prop where
 ul:u.length=a.length
 ol:o.length+6*Vd u≤72
 rj:∀y∈want,RM y.1 o≤y.2
 mem:∀p∈o,1≤p.2.2∧∃y∈want,y.1=p.2.1
 fits:Fits a o
 oq:PO (Pg a (tp o))
 off:∀k (h:k<a.length),u[k]?=some false→∀s,tp o a[k].1 s=0
 on:∀k (h:k<a.length),u[k]?=some true→∀y∈want,RM y.1 o<y.2→PK a[k] y.1-tp o a[k].1 y.1≤0
theorem ae:∀(l:List PV),(∀y∈l,0≤y.2)→(Uc l=0↔(l.filter fun y=>decide (y.2>0))=[])
 | [],_=>⟨fun _=>rfl,fun _=>rfl⟩
 |y::r,h=>by have ih:=ae r fun z hz=>h z (AAJ _ hz);have h1:=h y AAe;have h2:=(aO r fun z hz=>h z (AAJ _ hz)).1;rw[ABu];simp only[Uc];grind
theorem b8(want:List PV)(o bt:List D2):(leftOf want o).map (fun y=>(y.1,y.2-RM y.1 bt))=leftOf want (o++bt):=by unfold leftOf;rw[List.map_map];refine AB1 fun y _=>?_;simp only[Function.comp,bL,Int.sub_sub]
theorem PI.step{a:List PF}(ha:PO a){want:List PV}(hw:Wk want){o:List D2}{u:List Bool}(h:PI a want o u){j:Nat}(hj:j<a.length)(hu:u[j]?=some false):PI a want (o++PZ a[j].1 (PK a[j]) (leftOf want o)) (Cb u j true):=by
 have hL:=fI hw (fun p hp=>(h.mem p hp).1) h.rj;obtain⟨f1,f2⟩:=Y1 u j hu;have v7:=(ha.2.2 _ (ABW hj)).2.2;have zG:=Yy a[j].1 (PK a[j]) (leftOf want o);have hll:(leftOf want o).length≤6:=hL.2.2;have hcm:=WL a[j].1 (PK a[j]) (leftOf want o);have hct:=Yz a[j].1 (PK a[j]) (leftOf want o) hL.1 (fun y hy=>(hL.2.1 y hy).1);obtain⟨t1,t2⟩:=dU a[j].1 (PK a[j]) (fun k=>(Yc a[j] v7 k).1) (leftOf want o) hL.1 (fun y hy=>(hL.2.1 y hy).1);generalize hbt:PZ a[j].1 (PK a[j]) (leftOf want o)=bt at zG hcm hct t1 t2;have hlm:∀y∈want,(y.1,y.2-RM y.1 o)∈leftOf want o:=fun y hy=>by unfold leftOf;grind
 have hbm:∀p∈bt,1≤p.2.2∧p.2.2≤1000∧∃y∈want,y.1=p.2.1:=fun p hp=>by obtain⟨_,q1,y,hy,q2,q3⟩:=hcm p hp;have:=(hL.2.1 y hy).2;unfold leftOf at hy;grind
 have hother:∀k (hk:k<a.length),k≠j→∀s,tp bt a[k].1 s=0:=fun k hk tj s=>kf bt _ s fun p hp e=>by
  have e2:a[j].1=a[k].1:=(hcm p hp).1.symm.trans e;exfalso;rcases ABf j k with hl|hl|hl
  ·have:=(ABQ.1 ha.2.1 j k hj hk hl).1;omega
  ·omega
  ·have:=(ABQ.1 ha.2.1 k j hk hj hl).1;omega
 have hF:Fits a (o++bt):=by
  refine⟨fun p hp=>?_,fun q hq k=>?_⟩
  ·rcases AAy.1 hp with hp|hp
   ·exact h.fits.each p hp
   ·obtain⟨q1,q2,y,hy,q3⟩:=hbm p hp;have hyb:=hw.2.1 y hy;grind
  ·obtain⟨i,hi,rfl⟩:=ABY.1 hq;rw[ZK];by_cases xM:i=j
   ·subst xM;rw[h.off i hi hu k,(t1 k).1];grind
   ·rw[hother i hi xM k];have:=h.fits.free _ (ABW hi) k;omega
 have hug:∀k,(Cb u j true)[k]?=if j=k then some true else u[k]?:=fun k=>by rw[Pw,List.getElem?_set];grind
 refine⟨by rw[f2];exact h.ul,?_,fun y hy=>?_,fun p hp=>?_,hF,(dZ ha h.oq hF).2,fun k hk e s=>?_,fun k hk e y hy tX=>?_⟩
 ·have:=h.ol;grind
 ·have:=hct _ (hlm y hy);dsimp only at this;rw[bL];omega
 ·rcases AAy.1 hp with hp|hp
  ·exact h.mem p hp
  grind
 ·rw[hug]at e;by_cases hjk:j=k
  ·grind
  ·rw[AAM hjk]at e;rw[ZK,h.off k hk e s,hother k hk (fun q=>hjk q.symm) s];rfl
 ·rw[bL]at tX;rw[hug]at e;rw[ZK];by_cases hjk:j=k
  ·subst hjk;have e3:=t2 _ (hlm y hy);dsimp only at e3;rw[h.off j hk hu y.1,(t1 y.1).1,e3];rw[e3]at tX;unfold Pt at tX ⊢;grind
  ·rw[AAM hjk]at e;have xr:=WD y.1 bt fun p hp=>(hbm p hp).1;rw[hother k hk (fun q=>hjk q.symm) y.1];have:=h.on k hk e y hy (by omega);omega
abbrev oz:=(List D2)×Bool×(List D2)×(List D2)×(List PV)×(List Bool)
abbrev ow:=(List D2)×(List PV)×(List PF)
def ox(a:List PF)(want:List PV)(x:oz)(y:ow):Prop:=x.2.2.2.1=[]∧x.2.2.2.2.1=leftOf want x.2.2.1∧PI a want x.2.2.1 x.2.2.2.2.2∧y=(x.2.2.1,Q9 want x.2.2.1,Pg a (tp x.2.2.1))
def rX(a:List PF)(want:List PV)(z:oz⊕((List D2)×Bool))(w:ow⊕((List D2)×Bool)):Prop:=∃o b,z=.inr (o,b)∧(b=true→PG o want∧Fits a o∧o.length≤72)∧(b=false→o=[])∧(w=.inr (o,b)∨b=true∧∃l s,w=.inl (o,l,s))
theorem gU{want:List PV}{y:PV}(hy:y∈want)(o:List D2):(y.1,y.2-RM y.1 o)∈leftOf want o:=by unfold leftOf;grind
theorem gV{want:List PV}{o bt:List D2}(hb:∀p∈bt,1≤p.2.2):ZA (Q9 want o) bt=Q9 want (o++bt):=by
 unfold ZA Q9
 rw[Wl (fun y:PV=>decide (y.2>0)) (fun y=>(y.1,y.2-RM y.1 bt)) (leftOf want o) fun y _ hp=>by
  have:=WD y.1 bt hb;grind,b8]
theorem PI.mq{a:List PF}(ha:PO a){want:List PV}{o:List D2}{u:List Bool}(hI:PI a want o u)(k:Nat)(hk:k<a.length)(hk2:k<(Pg a (tp o)).length):
  (u[k]?=some false→PZ (Pg a (tp o))[k].1 (PK (Pg a (tp o))[k]) (Q9 want o)=PZ a[k].1 (PK a[k]) (leftOf want o))∧(u[k]?=some true→PZ (Pg a (tp o))[k].1 (PK (Pg a (tp o))[k]) (Q9 want o)=[]):=by
 rw[dX hk2];have wS:=hI.fits.to ha (ABW hk);refine⟨fun e=>?_,fun e=>?_⟩
 ·unfold Q9;rw[Yp];exact dw _ (fun s=>by rw[wS s,hI.off k hk e s,Int.sub_zero]) _
 ·refine bQ _ _ _ fun y hy wV=>?_;unfold Q9 leftOf at hy;obtain⟨z,hz,rfl⟩:=AAs.1 (ABq.1 hy).1;show PK (iQ (tp o) a[k]) z.1≤0;rw[wS];exact hI.on k hk e z hz (by omega)
theorem gf{a:List PF}(ha:PO a){want:List PV}(hw:Wk want)(n:Nat)(hn:PD≤n)(x:oz)(y:ow)(hR:ox a want x y):
  (∃z w,VC n a x=some (.inr z)∧U0 n y=some (.inr w)∧rX a want z w)∨(∃x' y',VC n a x=some (.inl x')∧U0 n y=some (.inl y')∧ox a want x' y'∧Vd x'.2.2.2.2.2<Vd x.2.2.2.2.2):=by
 obtain⟨x1,x2,o,nn,l,u⟩:=x;obtain⟨g1,g2,hI,g4⟩:=hR;dsimp only at g1 g2 hI g4;subst g1;subst g2;subst g4;have hol:=hI.ol;have hL:=fI hw (fun p hp=>(hI.mem p hp).1) hI.rj;have hLP:=jC hL;have h0:=ae (leftOf want o) fun y hy=>(hL.2.1 y hy).1;unfold VC U0;rw[kK (x1,x2,o,[],leftOf want o,u) hL n hn,ABT];dsimp only;by_cases hz:Uc (leftOf want o)=0
 ·left;have hnil:Q9 want o=[]:=h0.1 hz;rw[hz,hnil];refine⟨_,_,rfl,rfl,o,true,rfl,fun _=>⟨⟨hI.mem,fun y hy=>?_⟩,hI.fits,by clear hn;omega⟩,(fun e=>by cases e),.inr ⟨rfl,_,_,rfl⟩⟩;have:=(aO (leftOf want o) fun y hy=>(hL.2.1 y hy).1).2 hz _ (gU hy o);omega
 ·have tj:Q9 want o≠[]:=fun e=>hz (h0.2 e)
  have wV:0<(Q9 want o).length:=by
   cases hq:Q9 want o with
   |nil=>grind
   |cons _ _=>simp
  rw[show(Uc (leftOf want o)==0)=false from ABa.2 hz,ABV,show decide (((Q9 want o).length:Int)>0)=true by grind,ABU];obtain⟨best,most,bt,e1,e2,hb⟩:=jN ha (Y4 a (tp o)) hI.oq x1 x2 o [] hL hLP hI.ul (fun k hk hk2=>hI.mq ha k hk hk2) n hn;rw[e1,e2,ABT,ABT];dsimp only;rcases hb with⟨rfl,rfl,rfl⟩|⟨j,hj,rfl,hu,hbt,hm⟩
  ·left;exact⟨_,_,rfl,rfl,[],false,rfl,(fun e=>by cases e),fun _=>rfl,.inl rfl⟩
  ·right;have hju:j<u.length:=by rw[hI.ul];exact hj
   have v7:=(ha.2.2 _ (ABW hj)).2.2;have zG:=Yy a[j].1 (PK a[j]) (leftOf want o);have hll:(leftOf want o).length≤6:=hL.2.2;have hcm:=WL a[j].1 (PK a[j]) (leftOf want o);have hct:=Yz a[j].1 (PK a[j]) (leftOf want o) hL.1 (fun y hy=>(hL.2.1 y hy).1);have hstep:=hI.step ha hw hj hu;have hc:=bz a[j] v7 (leftOf want o) hL n hn;have hpg:∀p∈bt,1≤p.2.2:=fun p hp=>by grind
   have uX:=iL bt (leftOf want o) hpg (fun y hy=>⟨by grind,(hL.2.1 y hy).2⟩);rw[←hbt]at zG hct hstep hc;have hH:=dZ ha hI.oq hstep.fits;have hHA:=XN (Pg a (tp o)) hI.oq.sm bt (by omega) n hn;rw[hH.1]at hHA
   have hle:=dB (Q9 want o) hLP.2.2 bt (by omega) hpg (fun y hy=>by
    have zu:=(ABq.1 hy).1;exact⟨hct y zu,(hL.2.1 y zu).2⟩) n hn
   rw[gV hpg]at hle;have tY:decide (o.length+bt.length≤Dh)=true:=UL (by omega);have h4:=kL bt (by omega) (WC bt) (leftOf want o) hll n hn;rw[show decide ((j:Int)<0)=false by simp,ABV,PA hju,ABU,O6 hj,ABT,hc,ABT];dsimp only;rw[show(most==0)=false from ABa.2 (by omega),ABV,tY,ABU,ABU,h4,ABT,hHA,ABT,hle,ABT,ABX];refine⟨_,_,rfl,rfl,⟨rfl,?_,hstep,rfl⟩,by have:=(Y1 u j hu).1;grind⟩;show bt.foldl (fun l p=>bD p l) (leftOf want o)=leftOf want (o++bt);rw[uX,b8]
theorem PI.init{a:List PF}(ha:PO a){want:List PV}(hw:Wk want):PI a want [] (List.replicate a.length false):=by
 have h0:Pg a (tp [])=a:=X9 a _ fun _ _=>rfl;have h12:=ha.1;refine⟨by simp,by rw[Y0];simp;omega,fun y hy=>?_,(fun p hp=>by cases hp),⟨(fun p hp=>by cases hp),fun q hq k=>?_⟩,by rw[h0];exact ha,fun k hk _ s=>rfl,fun k hk e=>?_⟩
 ·have:=hw.2.1 y hy;simp only[RM];omega
 ·exact(Yc q (ha.2.2 q hq).2.2 k).1
 grind
theorem fJ{want:List PV}(hw:Wk want):Q9 want []=want:=by
 have:leftOf want []=want:=by unfold leftOf;simp[RM]
 unfold Q9;rw[this];exact List.filter_eq_self.2 fun y hy=>by have:=hw.2.1 y hy;grind
theorem fv{a:List PF}(ha:PO a){want:List PV}(hw:Wk want)(n:Nat)(hn:PD≤n):∃o b,Sc n a want=some (o,b)∧To n a want=some (o,b)∧(b=true→PG o want∧Fits a o∧o.length≤72)∧(b=false→o=[]):=by
 have h12:=ha.1;have h6:=hw.2.2;have h0:Pg a (tp [])=a:=X9 a _ fun _ _=>rfl
 obtain⟨z,w,hS,e1,e2⟩:=YH (ox a want) (rX a want) (fun x=>Vd x.2.2.2.2.2) (fun x y hR=>gf ha hw n hn x y hR) n
  (([]:List D2),false,([]:List D2),([]:List D2),want,List.replicate a.length (false:Bool)) (([]:List D2),want,a)
  ⟨rfl,by show want=leftOf want [];unfold leftOf;simp[RM],PI.init ha hw,by rw[fJ hw,h0]⟩ (by show Vd (List.replicate a.length false)<n;rw[Y0];unfold PD at hn;omega)
 obtain⟨o,b,rfl,q1,q2,q3⟩:=hS;refine⟨o,b,?_,?_,q1,q2⟩
 ·unfold Sc;rw[Pq a ha.sm n hn,ha.ok,hw.ok n hn];simp only[ABT,ABc,ABV];rw[show decide (([]:List PV).length+want.length≤Dh)=true from UL (by grind),ABU];rw[show(decide (0≤(a.length:Int))&&decide ((a.length:Int)≤(Dh:Int))&&decide True)=true by rw[show decide ((a.length:Int)≤(Dh:Int))=true by rw[AAb];unfold Dh;clear hn;omega];simp,ABU,AA4,ABX,e1,ABT]
 ·unfold To QE;rw[QL a ha.sm n hn,ha.ok,RP want (by clear hn;omega) n hn,Un.2 hw,Pz a ha.sm n hn,UL (show want.length≤1048576 by clear hn;omega)];grind
theorem iV(a:List PF)(hs:PU a)(want:List PV)(hl:want.length≤1048576)(n:Nat)(hn:PD≤n):∃o b,Sc n a want=some (o,b)∧To n a want=some (o,b)∧(b=true→PO a∧Wk want∧PG o want∧Fits a o∧o.length≤72)∧(b=false→o=[]):=by
 cases h1:Pl a with
 |false=>
  refine⟨[],false,?_,?_,(fun e=>by cases e),fun _=>rfl⟩
  ·unfold Sc;rw[Pq a hs n hn,h1];rfl
  ·unfold To;rw[QL a hs n hn,h1];rfl
 |true=>
  cases h2:Um want with
  |false=>
   refine⟨[],false,?_,?_,(fun e=>by cases e),fun _=>rfl⟩
   ·unfold Sc;rw[Pq a hs n hn,h1,Ut want hl n hn,h2];rfl
   ·unfold To;rw[QL a hs n hn,h1,RP want hl n hn,h2];rfl
  |true=>
   have ha:=Pk.1 h1;have hw:=Un.1 h2;obtain⟨o,b,e1,e2,q1,q2⟩:=fv ha hw n hn;grind
def ZM(p:D2)(y:PV):Bool:=y.1==p.2.1&&Ps p.2.2 1 y.2
def YZ(p:D2)(l:List PV):List PV:=l.map fun y=>bif y.1==p.2.1 then(y.1,y.2-p.2.2)else y
def foldI:List D2→List PV→Option (List PV)
 | [],l=>some l
 |p::r,l=>if l.any (ZM p)then foldI r (YZ p l)else none
def WW(ps:List D2)(l:List PV):Bool:=match foldI ps l with
 |some z=>z.all fun y=>y.2==0
 |none=>false
theorem ZN{p:D2}{y:PV}:ZM p y=true↔y.1=p.2.1∧1≤p.2.2∧p.2.2≤y.2:=by unfold ZM Ps;grind
theorem fh(p:D2)(l:List PV):(YZ p l).length=l.length:=by unfold YZ;grind
theorem iJ{p:D2}{l:List PV}(h:l.Pairwise fun a b=>a.1<b.1):(YZ p l).Pairwise fun a b=>a.1<b.1:=by unfold YZ;grind
theorem cU{p:D2}{l:List PV}{y:PV}(h:y∈YZ p l):∃z∈l,y.1=z.1∧y.2=if z.1=p.2.1 then z.2-p.2.2 else z.2:=by unfold YZ at h;grind
theorem iI{p:D2}{l:List PV}{z:PV}(h:z∈l):(z.1,if z.1=p.2.1 then z.2-p.2.2 else z.2)∈YZ p l:=by unfold YZ;grind
theorem jy{l:List PV}(h:l.Pairwise fun a b=>a.1<b.1){y z:PV}(hy:y∈l)(hz:z∈l)(e:y.1=z.1):y=z:=by
 obtain⟨i,hi,rfl⟩:=ABY.1 hy;obtain⟨j,hj,rfl⟩:=ABY.1 hz;rcases ABf i j with hl|hl|hl
 ·have:=ABQ.1 h i j hi hj hl;omega
 ·subst hl;rfl
 ·have:=ABQ.1 h j i hj hi hl;omega
theorem Xm:∀(ps:List D2)(l:List PV),l.Pairwise (fun a b=>a.1<b.1)→(WW ps l=true↔PG ps l)
 | [],l,hl=>by
  show(l.all fun y=>y.2==0)=true↔_;rw[AAU];constructor
  ·intro h;refine⟨(fun p hp=>by cases hp),fun y hy=>?_⟩;have:=h y hy;rw[AAS]at this;rw[this];rfl
  ·intro h y hy;rw[AAS];exact(h.2 y hy).symm
 |p::ps,l,hl=>by
  have ih:=Xm ps (YZ p l) (iJ hl)
  have hun:WW (p::ps) l=(if l.any (ZM p)then WW ps (YZ p l)else false):=by unfold WW;rw[foldI];grind
  rw[hun];by_cases ha:l.any (ZM p)=true
  ·rw[AAK ha,ih];obtain⟨y,hy,hh⟩:=AA6.1 ha;obtain⟨h1,h2,h3⟩:=ZN.1 hh;constructor
   ·rintro ⟨g1,g2⟩
    refine⟨fun q hq=>?_,fun z hz=>?_⟩
    ·rcases AAZ.1 hq with rfl|hq
     ·grind
     ·obtain⟨a1,v,hv,a2⟩:=g1 q hq;obtain⟨w,hw,b1,_⟩:=cU hv;grind
    ·have:=g2 _ (iI (p:=p) hz);dsimp only at this;simp only[RM];grind
   ·rintro ⟨g1,g2⟩
    refine⟨fun q hq=>?_,fun z hz=>?_⟩
    ·obtain⟨a1,v,hv,a2⟩:=g1 q (AAJ _ hq);exact⟨a1,_,iI (p:=p) hv,a2⟩
    ·obtain⟨w,hw,b1,b2⟩:=cU hz;have:=g2 w hw;simp only[RM]at this;grind
  ·rw[AAM ha];refine⟨(fun e=>by cases e),fun⟨g1,g2⟩=>(ha ?_).elim⟩;obtain⟨a1,y,hy,a2⟩:=g1 p AAe;have h3:=g2 y hy;have h4:=WD y.1 ps fun q hq=>(g1 q (AAJ _ hq)).1;simp only[RM]at h3;rw[show(p.2.1==y.1)=true from AAS.2 a2.symm,ABU]at h3;exact AA6.2 ⟨y,hy,ZN.2 ⟨a2,a1,by omega⟩⟩
def iU(l:List PV):Prop:=l.Pairwise (fun a b=>a.1<b.1)∧(∀y∈l,0≤y.2∧y.2≤1000)∧l.length≤6
theorem iU.sub{p:D2}{l:List PV}(h:iU l)(ha:l.any (ZM p)=true):iU (YZ p l):=by
 obtain⟨y,hy,hh⟩:=AA6.1 ha;obtain⟨h1,h2,h3⟩:=ZN.1 hh;refine⟨iJ h.1,fun z hz=>?_,by rw[fh];exact h.2.2⟩;obtain⟨w,hw,b1,b2⟩:=cU hz;have hwb:=h.2.1 w hw;rw[b2];split
 ·rename_i e;have:w=y:=jy h.1 hw hy (e.trans h1.symm);grind
 ·exact hwb
theorem fO{l:List PV}(h:l.Pairwise fun a b=>a.1<b.1){i:Nat}(hi:i<l.length){p:D2}(e:l[i].1=p.2.1):l.modify i (fun y=>(y.1,l[i].2-p.2.2))=YZ p l:=by
 apply ABv;intro k;unfold YZ;rw[ABg,AAX];by_cases hk:k<l.length
 ·rw[AAF hk];by_cases hik:i=k
  ·subst hik;rw[Option.map_eq_map,AA9,AA9,AAK rfl,show(l[i].1==p.2.1)=true from AAS.2 e,ABU]
  ·rw[Option.map_eq_map,AA9,AA9,AAM hik]
   have:l[k].1≠p.2.1:=fun e2=>by
    rcases ABf i k with hl|hl|hl
    ·have:=ABQ.1 h i k hi hk hl;omega
    ·exact hik hl
    ·have:=ABQ.1 h k i hk hi hl;omega
   rw[show(l[k].1==p.2.1)=false from ABa.2 this,ABV]
 grind
theorem gb(k:Int)(l:List PV)(hl:iU l)(p:D2)(n:Nat)(hn:PD≤n):∃i:Int,iter n (TW (k,l) p) (false,0,l)=some (bif l.any (ZM p)then(true,i,YZ p l)else(false,i,l)):=by
 have h6:=hl.2.2
 obtain⟨z,hS,e⟩:=XR (f:=TW (k,l) p) (fun x=>x.1=false∧x.2.2=l∧∃m:Nat,m≤l.length∧x.2.1=(m:Int)∧∀i (h:i<l.length),i<m→ZM p l[i]=false)
  (fun z=>z.1=false∧z.2.2=l∧l.any (ZM p)=false∨z.1=true∧z.2.2=YZ p l∧l.any (ZM p)=true) (fun x=>((l.length:Int)-x.2.1).toNat) (fun x hR=>by
   obtain⟨b,i,l'⟩:=x;obtain⟨h1,h2,m,hm,h3,h4⟩:=hR;dsimp only at h1 h2 h3;subst h1;subst h2;subst h3;unfold TW;dsimp only;by_cases tX:m<l'.length
   ·have hyb:=hl.2.1 _ (ABW tX);rw[show decide ((m:Int)<(l'.length:Int))=true by rw[AAb];clear hn;omega,ABU,PA tX,ABX,AAF tX];simp only[ABU,ABT,Uf,P8]
    have hx:(bif l'[m].1==p.2.1 then some (Ps p.2.2 1 l'[m].2)else some false)=some (ZM p l'[m]):=by
     unfold ZM;cases(l'[m].1==p.2.1)<;>rfl
    rw[hx,ABT];cases hh:ZM p l'[m]with
    |true=>
     obtain⟨a1,a2,a3⟩:=ZN.1 hh;left;refine⟨_,rfl,.inr ⟨rfl,?_,AA6.2 ⟨_,ABW tX,hh⟩⟩⟩;show l'.modify m (fun y=>(y.1,O9 (l'[m].2-p.2.2)))=_;rw[PC (n:=l'[m].2-p.2.2) (by clear hn;omega) (by clear hn;omega),fO hl.1 tX a1]
    |false=>
     right;rw[ABV,O5 tX (show l'.length≤9223372036854775807 by clear hn;omega)];refine⟨_,rfl,⟨rfl,rfl,m+1,tX,rfl,fun i hi vp=>?_⟩,by show((l'.length:Int)-((m+1:Nat):Int)).toNat<((l'.length:Int)-(m:Int)).toNat;clear hn;omega⟩;by_cases e:i=m
     ·subst e;exact hh
     ·exact h4 i hi (by clear hn;omega)
   ·left;rw[show decide ((m:Int)<(l'.length:Int))=false by rw[AAf];clear hn;omega];refine⟨_,rfl,.inl ⟨rfl,rfl,?_⟩⟩;rw[←ABj];intro ha;obtain⟨y,hy,hh⟩:=AA6.1 ha;obtain⟨i,hi,rfl⟩:=ABY.1 hy;rw[h4 i hi (by clear hn;omega)]at hh;cases hh) n (false,0,l) ⟨rfl,rfl,0,Nat.zero_le _,rfl,fun i _ h=>by omega⟩ (by show((l.length:Int)-0).toNat<n;unfold PD at hn;omega)
 grind
theorem Zy(ps:List D2)(hp:ps.length≤1048576)(l:List PV)(hl:iU l)(n:Nat)(hn:PD≤n):UJ n ps l=some (WW ps l):=by
 have h6:=hl.2.2
 have hc:=PQ (σ:=List PV) (TV n ps) (fun i s=>((i:Int),s)) ps (fun r s=>match foldI r s with|some z=>.inl ((ps.length:Int),z)|none=>.inr false) (fun i s=>iU s)
  (fun s hs=>by unfold TV;simp[foldI])
  (fun i p r s g1 g2 g3 g4 g5=>by
   have hpi:ps[i]=p:=by rw[AAF g1]at g2;exact Option.some.inj g2
   obtain⟨j,e⟩:=gb (i:Int) s g5 p n hn;unfold TV;dsimp only;rw[show decide ((i:Int)<(ps.length:Int))=true by grind,ABU,O6 g1,hpi,ABT,e,ABT,O5 g1 (show ps.length≤9223372036854775807 by omega)];cases ha:s.any (ZM p)with
   |true=>
    left;refine⟨YZ p s,rfl,g5.sub ha,?_⟩;rw[foldI,AAK ha]
   |false=>
    right;rw[foldI,AAM (by rw[ha];simp)];rfl)
  n (by unfold PD at hn;omega) l hl
 unfold UJ QE;rw[UL (show l.length≤1048576 by omega),ABU,ABT];rw[show((0:Nat):Int)=0 from rfl]at hc;rw[hc,ABT];unfold WW;cases hf:foldI ps l with
 |none=>rfl
 |some z=>
  have hzl:z.length≤6:=by
   have:∀(ps:List D2)(l z:List PV),foldI ps l=some z→z.length=l.length:=by
    intro ps
    induction ps with
    |nil=>intro l z e;injection e with e;rw[e]
    |cons p ps ih=>
     intro l z e;rw[foldI]at e;split at e
     ·rw[ih _ _ e,fh]
     ·cases e
   rw[this ps l z hf];exact h6
  have h3:=Q4 (TX ((ps.length:Int),z)) z (fun y=>y.2==0) (fun i x hi hx=>by
   obtain⟨_,rfl⟩:=AAH.1 hx;unfold TX;dsimp only;rw[show decide ((i:Int)<(z.length:Int))=true by rw[AAb];clear hn;omega,ABU,PA hi,ABX,AAF hi,ABU,ABT,O5 hi (show z.length≤9223372036854775807 by clear hn;omega)];simp only[bne];cases(z[i].2==0)<;>rfl) (by unfold TX;simp) n (by unfold PD at hn;omega)
  grind
abbrev Pf:=Int×Int×(List PV)×(List D2)×Int
theorem R6(nx:Int)(l:List Pf)(h:QZ (nx,l))(n:Nat)(hn:PD≤n):RC n nx l=some (nx,l):=by
 have hl:l.length≤1048576:=h.1
 have hc:=PQ (σ:=List Pf) (Te l) (fun i s=>((i:Int),nx,s)) l (fun r s=>((l.length:Int),nx,s++r)) (fun i s=>s.length≤i)
  (fun s hs=>by simp[Te]) (fun i y r s h1 h2 h3 h4 h5=>by
   left;have hy:l[i]=y:=by rw[AAF h1]at h2;exact Option.some.inj h2
   refine⟨s++[y],?_,by rw[AA2,ABb];omega,by simp⟩;unfold Te;dsimp only;rw[show decide ((i:Int)<(l.length:Int))=true by simpa using h1,ABU,O6 h1,hy,ABT,YU y (h.2 y (by rw[←hy];exact ABW h1)),ABT,O5 h1 (by omega)];rw[show decide (s.length+[(y.1,y.2.1,y.2.2.1,y.2.2.2.1,y.2.2.2.2)].length≤Dh)=true from R3 (by omega),ABU])
  n (by unfold PD at hn;omega) [] (by simp)
 unfold RC;grind
theorem Uj(nx:Int)(l:List Pf)(h:QZ (nx,l))(n:Nat)(hn:PD≤n):RJ n nx l=some (nx,l):=by
 have hl:l.length≤1048576:=h.1
 have hc:=PQ (σ:=List Pf) (Ss l) (fun i s=>((i:Int),nx,s)) l (fun r s=>((l.length:Int),nx,s++r)) (fun i s=>s.length≤i)
  (fun s hs=>by simp[Ss]) (fun i y r s h1 h2 h3 h4 h5=>by
   left;have hy:l[i]=y:=by rw[AAF h1]at h2;exact Option.some.inj h2
   refine⟨s++[y],?_,by rw[AA2,ABb];omega,by simp⟩;unfold Ss;dsimp only;rw[show decide ((i:Int)<(l.length:Int))=true by simpa using h1,ABU,O6 h1,hy,ABT,UH y (h.2 y (by rw[←hy];exact ABW h1)),ABT,O5 h1 (by omega)];have hr:decide (s.length+1≤Dh)=true:=R3 (by omega);simp only[ABb,hr,ABU])
  n (by unfold PD at hn;omega) [] (by simp)
 unfold RJ;grind
def Qs(l:List Pf):List Pf:=l.filter fun o=>o.2.2.2.2==1
theorem ew{β:Type}(f:Int→Option (Int⊕(Int⊕Int)))(xs:List β)(P:β→Bool)(hs:∀(i:Nat)(x:β),i<xs.length→xs[i]?=some x→f (i:Int)=some (bif P x then .inr (.inr (i:Int))else .inl ((i+1:Nat):Int)))
  (j:Nat) (hj:j<xs.length) (hP:P xs[j]=true):∀n,xs.length<n→∃i,∃h:i<xs.length,P xs[i]=true∧iter n f 0=some (.inr (i:Int)):=by
 have key:∀d i n,i+d=j→d<n→∃k,∃h:k<xs.length,P xs[k]=true∧iter n f (i:Int)=some (.inr (k:Int)):=by
  intro d
  induction d with
  |zero=>
   intro i n hi hn;obtain⟨n,rfl⟩:∃k,n=k+1:=⟨n-1,by omega⟩;have:i=j:=by omega
   subst this;have hf:=hs i xs[i] hj (AAF hj);rw[hP,ABU]at hf;exact⟨i,hj,hP,Pj hf n⟩
  |succ d ih=>
   intro i n hi hn;obtain⟨n,rfl⟩:∃k,n=k+1:=⟨n-1,by omega⟩;have tX:i<xs.length:=by omega
   have hf:=hs i xs[i] tX (AAF tX);cases hp:P xs[i]with
   |true=>rw[hp,ABU]at hf;exact⟨i,tX,hp,Pj hf n⟩
   |false=>rw[hp,ABV]at hf;rw[Rp hf n];exact ih (i+1) n (by omega) (by omega)
 exact fun n hn=>key j 0 n (by omega) (by omega)
theorem YQ(nx:Int)(l:List Pf)(hl:l.length≤1048576)(hp:l.Pairwise (fun a b=>a.1<b.1))(i:Nat)(hi:i<l.length)(n:Nat)(hn:PD≤n):Qe n nx l l[i].1=some (i:Int):=by
 obtain⟨j,hj,hP,e⟩:=ew (Qv l l[i].1) l (fun x=>x.1==l[i].1) (fun m x h1 h2=>by
  have hx:l[m]=x:=by rw[AAF h1]at h2;exact Option.some.inj h2
  simp only[Qv,O6 h1,hx,ABT,O5 h1 (by omega)];grind) i hi (by simp) n (by unfold PD at hn;omega)
 have hji:j=i:=by
  have hP:l[j].1=l[i].1:=by simpa using hP
  rcases ABf j i with q|q|q
  ·have:=ABQ.1 hp j i hj hi q;omega
  ·exact q
  ·have:=ABQ.1 hp i j hi hj q;omega
 subst hji;unfold Qe;rw[e];rfl
theorem Vt(nx:Int)(l:List Pf)(hl:l.length≤1048576)(c:Int)(hc:∀x∈l,x.1≠c)(n:Nat)(hn:PD≤n):Qe n nx l c=some (-1):=by
 have:=dW (Qv l c) l (fun x=>x.1==c) (fun m x h1 h2=>by
  have hx:l[m]=x:=by rw[AAF h1]at h2;exact Option.some.inj h2
  simp only[Qv,O6 h1,hx,ABT,O5 h1 (by omega)];rw[show decide ((m:Int)<(l.length:Int))=true by simpa using h1];cases hq:(x.1==c)<;>rfl) (by simp[Qv]) n (by unfold PD at hn;omega)
 unfold Qe;grind
def aP(l:List PV)(ps:List D2):Int:=match l with
 | []=>0
 |y::r=>RM y.1 ps+aP r ps
theorem fj:∀l:List PV,aP l []=0
 | []=>rfl
 |y::r=>by simp only[aP,fj r,RM];rfl
theorem cX(p:D2)(ps:List D2):∀l:List PV,(∀y∈l,y.1≠p.2.1)→aP l (p::ps)=aP l ps
 | [],_=>rfl
 |y::r,h=>by have h1:=h y AAe;simp only[aP,RM,cX p ps r fun z hz=>h z (AAJ _ hz)];grind
theorem iM(p:D2)(ps:List D2):∀l:List PV,l.Pairwise (fun a b=>a.1<b.1)→(∃y∈l,y.1=p.2.1)→aP l (p::ps)=p.2.2+aP l ps
 | [],_,⟨y,hy,_⟩=>by cases hy
 |y::r,hl,⟨z,hz,e⟩=>by
  obtain⟨h1,h2⟩:=ABm.1 hl;simp only[aP,RM];by_cases hy:y.1=p.2.1
  ·rw[cX p ps r fun w hw=>by grind,show(p.2.1==y.1)=true from AAS.2 hy.symm,ABU];omega
  ·rcases AAZ.1 hz with e2|hz
   ·grind
   ·rw[iM p ps r h2 ⟨z,hz,e⟩,show(p.2.1==y.1)=false from ABa.2 fun e=>hy e.symm,ABV];omega
theorem cW{l:List PV}(hl:l.Pairwise fun a b=>a.1<b.1):∀ps:List D2,(∀p∈ps,1≤p.2.2)→aP l ps≤WC ps∧(aP l ps=WC ps↔∀p∈ps,∃y∈l,y.1=p.2.1)
 | [],_=>by rw[fj];exact⟨by simp[WC],⟨fun _ p hp=>(by cases hp),fun _=>rfl⟩⟩
 |p::ps,h=>by
  obtain⟨i1,i2⟩:=cW hl ps fun q hq=>h q (AAJ _ hq);have hp:=h p AAe;simp only[WC];by_cases hy:∃y∈l,y.1=p.2.1
  ·rw[iM p ps l hl hy];grind
  ·rw[cX p ps l fun y zu e=>hy ⟨y,zu,e⟩];grind
theorem eT(ps:List D2):∀l:List PV,(∀y∈l,RM y.1 ps=y.2)→aP l ps=Uc l
 | [],_=>rfl
 |y::r,h=>by simp only[aP,Uc,h y AAe,eT ps r fun z hz=>h z (AAJ _ hz)]
theorem eX{ps:List D2}(h:∀p∈ps,1≤p.2.2){p:D2}(hp:p∈ps):p.2.2≤RM p.2.1 ps:=by
 induction ps with
 |nil=>cases hp
 |cons q r ih=>
  have h1:=WD p.2.1 r fun z hz=>h z (AAJ _ hz);have h2:=h q AAe;simp only[RM];grind
theorem jL{l:List PV}(hl:Wk l){ps:List D2}:((∀p∈ps,1≤p.2.2∧p.2.2≤1000)∧(∀y∈l,RM y.1 ps=y.2)∧Uc l-WC ps=0)↔PG ps l:=by
 constructor
 ·rintro ⟨h1,h2,h3⟩
  have hs:=(cW hl.1 ps fun p hp=>(h1 p hp).1).2.1 (by rw[eT ps l h2];omega);exact⟨fun p hp=>⟨(h1 p hp).1,hs p hp⟩,h2⟩
 ·rintro ⟨h1,h2⟩
  have hs:=(cW hl.1 ps fun p hp=>(h1 p hp).1).2.2 fun p hp=>(h1 p hp).2;refine⟨fun p hp=>⟨(h1 p hp).1,?_⟩,h2,by rw[eT ps l h2]at hs;omega⟩;obtain⟨y,hy,e⟩:=(h1 p hp).2;have:=eX (fun q hq=>(h1 q hq).1) hp;have h4:=h2 y hy;have h5:=hl.2.1 y hy;grind
def fu(nx:Int)(o:Pf):Prop:=(1≤o.1∧o.1≤nx-1)∧(0≤o.2.1∧o.2.1≤99)∧(Wk o.2.2.1∧0<o.2.2.1.length)∧PG o.2.2.2.1 o.2.2.1∧(1≤o.2.2.2.2∧o.2.2.2.2≤3)
def Vj(nx:Int)(l:List Pf):Prop:=(1≤nx∧nx≤1000000)∧l.length≤30∧l.Pairwise (fun a b=>a.1<b.1)∧∀o∈l,fu nx o
def du(l:List Pf):Prop:=∀o∈l,∀p∈o.2.2.2.1,1≤p.1∧p.1≤999
def Ys(nx:Int)(l:List Pf)(i:Nat):Bool:=match l[i]? with
 |some o=>Ps o.1 1 (nx-1)&&QS (·.1) l i o&&Ps o.2.1 0 99&&Ps o.2.2.2.2 1 3 && !((o.2.2.1.length:Int)==0)&&Um o.2.2.1&&WW o.2.2.2.1 o.2.2.1
 |none=>false
theorem jH{nx:Int}{l:List Pf}{i:Nat}(hi:i<l.length):Ys nx l i=true↔fu nx l[i]∧QS (·.1) l i l[i]=true:=by
 unfold Ys fu;rw[AAF hi];simp only[AAG,Un,AAT,ABa];have tS:∀a b c:Int,Ps a b c=true↔b≤a∧a≤c:=fun a b c=>by unfold Ps;grind
 rw[tS,tS,tS];constructor
 ·rintro ⟨⟨⟨⟨⟨⟨h1,h2⟩,h3⟩,h4⟩,h5⟩,h6⟩,h7⟩
  exact⟨⟨h1,h3,⟨h6,by omega⟩,(Xm _ _ h6.1).1 h7,h4⟩,h2⟩
 ·rintro ⟨⟨h1,h3,⟨h6,h5⟩,h7,h4⟩,h2⟩
  exact⟨⟨⟨⟨⟨⟨h1,h2⟩,h3⟩,h4⟩,by omega⟩,h6⟩,(Xm _ _ h6.1).2 h7⟩
theorem ed{nx:Int}{l:List Pf}(hn:1≤nx∧nx≤1000000)(h30:l.length≤30):(List.range l.length).all (Ys nx l)=true↔Vj nx l:=by
 rw[AAU];have u3:∀i (hi:i<l.length),Ys nx l i=true↔fu nx l[i]∧QS (·.1) l i l[i]=true:=fun i hi=>jH hi;constructor
 ·intro h;have hi:∀i (hi:i<l.length),fu nx l[i]∧QS (·.1) l i l[i]=true:=fun i hi=>(u3 i hi).1 (h i (AAR.2 hi));refine⟨hn,h30,WX _ _ fun i hi2=>(Wq (·.1) l (i+1) hi2).1 (hi (i+1) hi2).2 i rfl,fun o ho=>?_⟩;obtain⟨i,hi2,rfl⟩:=ABY.1 ho;grind
 ·rintro ⟨_,_,h3,h4⟩ i hi
  have hi:=AAR.1 hi;exact(u3 i hi).2 ⟨h4 _ (ABW hi),YS h3 (fun x y h=>h) i hi⟩
theorem bB(ps:List D2)(h72:ps.length≤72)(hN:∀p∈ps,1≤p.2.2∧p.2.2≤1000)(k:Int)(n:Nat)(hn:PD≤n):Wx n ps k=some (RM k ps):=by
 have hc:=PQ (σ:=Int) (UU ps k) (fun i s=>(s,(i:Int))) ps (fun r s=>(s+RM k r,(ps.length:Int))) (fun i s=>0≤s∧s≤1000*(i:Int))
  (fun s hs=>by unfold UU;simp[RM])
  (fun i p r s g1 g2 g3 g4 g5=>by
   left;have hp:ps[i]=p:=by rw[AAF g1]at g2;exact Option.some.inj g2
   have hpN:=hN p (by rw[←hp];exact ABW g1);unfold UU;dsimp only;rw[show decide ((i:Int)<(ps.length:Int))=true by rw[AAb];clear hn;omega,ABU,O6 g1,hp,O5 g1 (show ps.length≤9223372036854775807 by clear hn;omega)];simp only[ABT,RM];cases(p.2.1==k)with
   |true=>
    rw[ABU,ABT,PC (n:=s+p.2.2) (by clear hn;omega) (by clear hn;omega)];exact⟨s+p.2.2,rfl,⟨by clear hn;omega,by clear hn;omega⟩,by rw[ABU,AB0]⟩
   |false=>
    rw[ABV,ABT];exact⟨s,rfl,⟨g5.1,by clear hn;omega⟩,by rw[ABV,AB3]⟩)
  n (by unfold PD at hn;omega) 0 ⟨by omega,by omega⟩
 unfold Wx;grind
theorem kI(l:List PV)(hl:Wk l)(n:Nat)(hn:PD≤n):iter n (Ra l) (0,0)=some (Uc l,(l.length:Int)):=by
 have h6:=hl.2.2
 have hc:=PQ (σ:=Int) (Ra l) (fun i s=>(s,(i:Int))) l (fun r s=>(s+Uc r,(l.length:Int))) (fun i s=>0≤s∧s≤1000*(i:Int))
  (fun s hs=>by unfold Ra;simp[Uc])
  (fun i y r s g1 g2 g3 g4 g5=>by
   left;have hy:l[i]=y:=by rw[AAF g1]at g2;exact Option.some.inj g2
   have hyb:=hl.2.1 y (by rw[←hy];exact ABW g1);refine⟨s+y.2,?_,⟨by clear hn;omega,by clear hn;omega⟩,by simp only[Uc,AB0]⟩;unfold Ra;dsimp only;rw[show decide ((i:Int)<(l.length:Int))=true by rw[AAb];clear hn;omega,ABU,O6 g1,hy,ABT,O5 g1 (show l.length≤9223372036854775807 by clear hn;omega),PC (n:=s+y.2) (by clear hn;omega) (by clear hn;omega)])
  n (by unfold PD at hn;omega) 0 ⟨by omega,by omega⟩
 grind
theorem kJ(ps:List D2)(h72:ps.length≤72)(hP:∀p∈ps,1≤p.1∧p.1≤999)(s0:Int)(hs0:0≤s0∧s0≤6000)(n:Nat)(hn:PD≤n):
  iter n (Rc ps) (s0,0)=some (if ∀p∈ps,1≤p.2.2∧p.2.2≤1000 then .inl (s0-WC ps,(ps.length:Int))else .inr false):=by
 have hc:=PQ (σ:=Int) (Rc ps) (fun i s=>(s,(i:Int))) ps (fun r s=>if ∀p∈r,1≤p.2.2∧p.2.2≤1000 then .inl (s-WC r,(ps.length:Int))else .inr false) (fun i s => -1000*(i:Int)≤s∧s≤6000)
  (fun s hs=>by
   rw[AAK (fun p hp=>by cases hp)];unfold Rc;simp[WC])
  (fun i p r s g1 g2 g3 g4 g5=>by
   have hp:ps[i]=p:=by rw[AAF g1]at g2;exact Option.some.inj g2
   have hpP:=hP p (by rw[←hp];exact ABW g1);unfold Rc;dsimp only;rw[show decide ((i:Int)<(ps.length:Int))=true by rw[AAb];clear hn;omega,ABU,O6 g1,hp,O5 g1 (show ps.length≤9223372036854775807 by clear hn;omega)];simp only[ABT,P8];rw[show Ps p.1 1 999=true by unfold Ps;rw[ABZ hpP.1,ABZ hpP.2];rfl];by_cases hb:1≤p.2.2∧p.2.2≤1000
   ·left;rw[show Ps p.2.2 1 1000=true by unfold Ps;rw[ABZ hb.1,ABZ hb.2];rfl];simp only[ABc,ABV,ABT];rw[PC (n:=s-p.2.2) (by clear hn;omega) (by clear hn;omega)];refine⟨s-p.2.2,rfl,⟨by clear hn;omega,by clear hn;omega⟩,?_⟩;simp only[List.forall_mem_cons,hb,and_self,true_and,WC,Int.sub_sub]
   ·right
    rw[show Ps p.2.2 1 1000=false by
     unfold Ps;rw[ACD,AAf,AAf];by_cases h:1≤p.2.2
     ·exact .inr fun q=>hb ⟨h,q⟩
     ·exact .inl h]
    rw[AAM (fun q=>hb (q p AAe))];rfl)
  n (by unfold PD at hn;omega) s0 ⟨by omega,by omega⟩
 omega
theorem Zg(o:Pf)(h1:o.2.2.1.length≤1048576)(hP:∀p∈o.2.2.2.1,1≤p.1∧p.1≤999)(n:Nat)(hn:PD≤n):
  VH n o.1 o.2.1 o.2.2.1 o.2.2.2.1 o.2.2.2.2=some (Ps o.2.1 0 99&&Ps o.2.2.2.2 1 3 && !((o.2.2.1.length:Int)==0)&&Um o.2.2.1&&(decide (o.2.2.2.1.length≤72)&&WW o.2.2.2.1 o.2.2.1)):=by
 obtain⟨id,desk,it,pk,st⟩:=o;dsimp only at h1 hP ⊢;unfold VH;simp only[P8,Ut it h1 n hn,ABT];by_cases h72:pk.length≤72
 case neg=>
  grind
 rw[show decide ((pk.length:Int)>72)=false by grind,ABZ h72,ABt];cases Ps desk 0 99 with
 |false=>rfl
 |true=>
 cases hi:Um it with
 |false=>grind
 |true=>
 cases((it.length:Int)==0)with
 |true=>grind
 |false=>
 cases Ps st 1 3 with
 |false=>rfl
 |true=>
 have hI:=Un.1 hi;have h6:=hI.2.2
 have hs0:0≤Uc it∧Uc it≤6000:=by
  have:∀l:List PV,(∀y∈l,1≤y.2∧y.2≤1000)→0≤Uc l∧Uc l≤1000*(l.length:Int):=by
   intro l
   induction l with
   |nil=>intro _;simp[Uc]
   |cons y r ih=>
    intro h;have a1:=ih fun z hz=>h z (AAJ _ hz);have a2:=h y AAe;simp only[Uc,ABG];clear hn;omega
  have:=this it fun y hy=>⟨(hI.2.1 y hy).2.2.1,(hI.2.1 y hy).2.2.2⟩;clear hn;omega
 have hask:=jL hI (ps:=pk);have zl:=Xm pk it hI.1;simp only[ABc,ABp,ABV,ACE,ABt,ABT];rw[kI it hI n hn,ABT];dsimp only;rw[kJ pk h72 hP (Uc it) hs0 n hn,ABT];by_cases hN:∀p∈pk,1≤p.2.2∧p.2.2≤1000
 ·rw[AAK hN]
  have h3:=Q4 (S1 n it pk) it (fun y=>RM y.1 pk==y.2) (fun i x hi hx=>by
   obtain⟨_,rfl⟩:=AAH.1 hx;unfold S1;rw[show decide ((i:Int)<(it.length:Int))=true by rw[AAb];clear hn;omega,ABU,O6 hi,ABT,bB pk h72 hN it[i].1 n hn,ABT,ABT,O5 hi (show it.length≤9223372036854775807 by clear hn;omega)];simp only[bne];cases(RM it[i].1 pk==it[i].2)<;>rfl) (by unfold S1;simp) n (by unfold PD at hn;omega)
  dsimp only;rw[h3];cases ha:it.all (fun y=>RM y.1 pk==y.2)with
  |false=>
   rw[ABV,ABT];show some false=_
   rw[show WW pk it=false by
    rw[←ABj];intro h;have:=(hask.2 (zl.1 h)).2.1;rw[←ABj]at ha;exact ha (AAU.2 fun y hy=>AAS.2 (this y hy))]
  |true=>
   rw[ABU,ABT];show some (Uc it-WC pk==0)=_;refine congrArg some ?_;rw[ABw,zl,←hask,AAS];exact⟨fun h=>⟨hN,fun y hy=>AAS.1 (AAU.1 ha y hy),h⟩,fun h=>h.2.2⟩
 grind
def fK(l:List Pf)(i:Nat):Bool:=match l[i]? with
 |some o=>decide (o.2.2.2.1.length≤72)
 |none=>false
theorem Xw{nx:Int}{l:List Pf}(h:QZ (nx,l))(hp:du l)(n:Nat)(hn:PD≤n):∃b,QW n nx l=some b∧(b=true↔Vj nx l∧∀o∈l,o.2.2.2.1.length≤72):=by
 have hl:l.length≤1048576:=h.1;unfold QW;simp only[P8,ABT];by_cases hx:1≤nx∧nx≤1000000
 ·rw[show Ps nx 1 1000000=true by unfold Ps;rw[ABZ hx.1,ABZ hx.2];rfl];simp only[ABc,ABV,ABT];by_cases h30:l.length≤30
  ·rw[show decide ((l.length:Int)>30)=false by grind,ABV]
   have:=P0 (UN n nx l) (fun i=>(i:Int)) l.length (fun i=>Ys nx l i&&fK l i) (fun i hi=>by
    have hm:=ABW hi;have hpr:(bif decide ((i:Int)>0)then(M8 l (O9 ((i:Int)-1))).bind (fun y=>some (decide (y.1≥l[i].1)))else some false)=some (!QS (·.1) l i l[i]):=XD (·.1) l l[i] i hi hl some;have hov:=Zg l[i] (h.2 _ hm).1 (hp _ hm) n hn;simp only[UN,O6 hi,ABT,P8,O5 hi (show l.length≤9223372036854775807 by clear hn;omega),hpr,hov];rw[show decide ((i:Int)<(l.length:Int))=true by rw[AAb];clear hn;omega,PC (n:=nx-1) (by clear hn;omega) (by clear hn;omega)];unfold Ys fK;grind) (by simp[UN]) n (by unfold PD at hn;omega)
   rw[show((0:Nat):Int)=0 from rfl]at this;rw[this,ABT];refine⟨(List.range l.length).all (fun i=>Ys nx l i&&fK l i),?_,?_⟩
   ·grind
   ·rw[←ed hx h30,AAU,AAU];simp only[AAG];constructor
    ·intro q;refine⟨fun i hi=>(q i hi).1,fun o ho=>?_⟩;obtain⟨i,hi,rfl⟩:=ABY.1 ho;have:=(q i (AAR.2 hi)).2;unfold fK at this;grind
    ·rintro ⟨q1,q2⟩ i hi
     refine⟨q1 i hi,?_⟩;have hi:=AAR.1 hi;unfold fK;grind
  ·rw[show decide ((l.length:Int)>30)=true by grind,ABU];exact⟨false,rfl,(fun e=>by cases e),fun hb=>(h30 hb.1.2.1).elim⟩
 ·rw[show Ps nx 1 1000000=false by
   unfold Ps;rw[ACD,AAf,AAf];by_cases h:1≤nx
   ·exact .inr fun q=>hx ⟨h,q⟩
   ·exact .inl h]
  exact⟨false,rfl,(fun e=>by cases e),fun hb=>(hx hb.1.1).elim⟩
theorem Vf{nx:Int}{l:List Pf}(h:QZ (nx,l))(n:Nat)(hn:PD≤n):∃b,Q7 n nx l=some b∧(b=true↔Vj nx l):=by
 have hl:l.length≤1048576:=h.1;unfold Q7;simp only[Uf,P8,ABT];by_cases hx:1≤nx∧nx≤1000000
 ·rw[show Ps nx 1 1000000=true by unfold Ps;rw[ABZ hx.1,ABZ hx.2];rfl];simp only[ABc,ABV,ABT];by_cases h30:l.length≤30
  ·rw[show decide ((l.length:Int)>30)=false by rw[AAf];clear hn;omega,ABV]
   have:=P0 (T8 n nx l) (fun i=>(i:Int)) l.length (Ys nx l) (fun i hi=>by
    have hm:=ABW hi;have hpr:∀C:Option Bool,(bif decide ((i:Int)>0)then(M8 l (O9 ((i:Int)-1))).bind (fun y=>bif decide (y.1≥l[i].1)then some true else C)else C)=bif !QS (·.1) l i l[i]then some true else C:=fun C=>XD (·.1) l l[i] i hi hl fun b=>bif b then some true else C;have xw:l[i].2.2.1.length≤1048576:=(h.2 _ hm).1;have wL:l[i].2.2.2.1.length≤1048576:=(h.2 _ hm).2
    have hpo:Um l[i].2.2.1=true→UJ n l[i].2.2.2.1 l[i].2.2.1=some (WW l[i].2.2.2.1 l[i].2.2.1):=fun e=>by
     have hI:=Un.1 e;exact Zy _ wL _ ⟨hI.1,fun y hy=>by have:=hI.2.1 y hy;clear hn;omega,hI.2.2⟩ n hn
    simp only[T8,O6 hi,ABT,Uf,P8,O5 hi (show l.length≤9223372036854775807 by clear hn;omega),hpr,RP _ xw n hn];rw[show decide ((i:Int)<(l.length:Int))=true by rw[AAb];clear hn;omega,PC (n:=nx-1) (by clear hn;omega) (by clear hn;omega)];unfold Ys;rw[AAF hi];dsimp only;cases hib:Um l[i].2.2.1 with
    |false=>cases Ps l[i].1 1 (nx-1)<;>cases QS (·.1) l i l[i]<;>cases Ps l[i].2.1 0 99<;>cases Ps l[i].2.2.2.2 1 3<;>cases((l[i].2.2.1.length:Int)==0)<;>rfl
    |true=>
     rw[hpo hib];cases Ps l[i].1 1 (nx-1)<;>cases QS (·.1) l i l[i]<;>cases Ps l[i].2.1 0 99<;>cases Ps l[i].2.2.2.2 1 3<;>cases((l[i].2.2.1.length:Int)==0)<;>cases WW l[i].2.2.2.1 l[i].2.2.1<;>rfl) (by simp[T8]) n (by unfold PD at hn;omega)
   rw[show((0:Nat):Int)=0 from rfl]at this;rw[this,ABT];refine⟨(List.range l.length).all (Ys nx l),?_,ed hx h30⟩;grind
  ·rw[show decide ((l.length:Int)>30)=true by grind,ABU];exact⟨false,rfl,(fun e=>by cases e),fun hb=>(h30 hb.2.1).elim⟩
 ·rw[show Ps nx 1 1000000=false by
   unfold Ps;rw[ACD,AAf,AAf];by_cases h:1≤nx
   ·exact .inr fun q=>hx ⟨h,q⟩
   ·exact .inl h]
  exact⟨false,rfl,(fun e=>by cases e),fun hb=>(hx hb.1).elim⟩
def Ok{α:Type}(x:Option α)(P:α→Prop):Prop:=∃r,x=some r∧P r
section
variable {α β γ:Type}{P:α→Prop}{Q:β→Prop}
theorem Ok.pure{r:α}(h:P r):Ok (some r) P:=⟨r,rfl,h⟩
theorem Ok.bind{x:Option α}{f:α→Option β}(h:Ok x P)(hf:∀r,P r→Ok (f r) Q):Ok (x.bind f) Q:=by obtain⟨r,rfl,hr⟩:=h;exact hf r hr
theorem Ok.cond{b:Bool}{x y:Option α}(h1:b=true→Ok x P)(h2:b=false→Ok y P):Ok (bif b then x else y) P:=by grind
theorem Ok.guard{b:Bool}{x y:Option α}(hb:b=true)(h:Ok x P):Ok (bif b then x else y) P:=by grind
theorem Ok.M8{xs:List α}{i:Int}(h:0≤i∧i<(xs.length:Int)):Ok (Go.Ev.M8 xs i) fun r=>xs[i.toNat]?=some r:=by
 obtain⟨m,rfl⟩:∃m:Nat,i=m:=⟨i.toNat,by omega⟩;have hm:m<xs.length:=by omega
 exact⟨xs[m],O6 hm,by simp[hm]⟩
theorem Ok.get{xs:List α}{i:Nat}(h:i<xs.length):Ok xs[i]? fun r=>xs[i]?=some r:=⟨xs[i],AAF h,AAF h⟩
theorem YG{xs:List α}{i:Int}(h:0≤i∧i<(xs.length:Int)):Ob xs i=true:=by unfold Ob;grind
theorem Ok.iter{f:α→Option (α⊕γ)}{S:γ→Prop}(R:Nat→α→Prop)
  (h:∀k x,R k x→Ok (f x) fun y=>(∃x',y=.inl x'∧∃k',R k' x'∧k'<k)∨∃z,y=.inr z∧S z) {n k:Nat} {x:α} (hR:R k x) (hk:k<n):Ok (Go.Ev.iter n f x) S:=by
 obtain⟨z,hz,e⟩:=Uo R S (fun k x hx=>by
  obtain⟨y,e,hy⟩:=h k x hx;rcases hy with⟨x',rfl,k',h1,h2⟩|⟨z,rfl,h1⟩
  ·exact .inr ⟨x',k',e,h1,h2⟩
  grind) n k x hR hk
 exact⟨z,e,hz⟩
end
def QA{α:Type}(g:Nat→Option α):Prop:=∀n m r,n≤m→g n=some r→g m=some r
theorem QA.const{α:Type}(x:Option α):QA fun _=>x:=fun _ _ _ _ h=>h
theorem QA.bind{α β:Type}{g:Nat→Option α}{f:Nat→α→Option β}(hg:QA g)(hf:∀x,QA fun n=>f n x):QA fun n=>(g n).bind (f n):=by
 intro n m r hnm h;cases hx:g n with
 |none=>grind
 |some x=>
  simp only[hx,ABT]at h;simp only[hg n m x hnm hx,ABT];exact hf x n m r hnm h
theorem QA.cond{α:Type}{b:Bool}{g h:Nat→Option α}(hg:QA g)(hh:QA h):QA fun n=>bif b then g n else h n:=by
 cases b with
 |true=>exact hg
 |false=>exact hh
theorem QA.iter{α γ:Type}{L:Nat→α→Option (α⊕γ)}(hL:∀x,QA fun n=>L n x)(x0:α):QA fun n=>Go.Ev.iter n (L n) x0:=by
 have key:∀(k n m:Nat)(x:α)(r:γ),n≤m→k≤k+0→Go.Ev.iter k (L n) x=some r→∀j,k≤j→Go.Ev.iter j (L m) x=some r:=by
  intro k
  induction k with
  |zero=>intro n m x r _ _ h;simp[Go.Ev.iter]at h
  |succ k ih=>
   intro n m x r hnm _ h j hj;obtain⟨j,rfl⟩:∃i,j=i+1:=⟨j-1,by omega⟩;simp only[Go.Ev.iter]at h ⊢;cases hx:L n x with
   |none=>rw[hx]at h;cases h
   |some y=>
    rw[hx]at h;have h2:L m x=some y:=hL x n m y hnm hx;rw[h2];cases y with
    |inl x'=>exact ih n m x' r hnm (by omega) h j (by omega)
    |inr z=>exact h
 intro n m r hnm h;grind
def Cu(b:List Int)(i:Int):Prop:=b.length≤1048576∧0≤i
theorem Px{b:List Int}{i c:Int}(h:Cu b i)(m:Int):Ok (PN b i c m) fun x=>Cu x.2.1 x.2.2.1∧0≤x.1∧(0<m→x.1<m):=by obtain⟨x,i',h',e,h1,h2,h3⟩:=br b i c h.2 h.1 m;exact⟨_,e,⟨h.1,h1⟩,h2,fun hm=>by omega⟩
theorem bJ{b:List Int}{i c:Int}(h:Cu b i)(m:Int):Ok (Si b i c m) fun x=>Cu x.2.1 x.2.2.1:=by unfold Si;exact(Px h m).bind fun r hr=>Ok.pure hr.1
theorem ok_int{b:List Int}{i c:Int}(h:Cu b i){xs:List Int}(hx:0<xs.length):Ok (P6 b i c xs) fun x=>Cu x.2.1 x.2.2.1∧x.1∈xs:=by unfold P6;refine(Px h _).bind fun r hr=>(Ok.M8 ⟨hr.2.1,hr.2.2 (by omega)⟩).bind fun v hv=>Ok.pure ⟨hr.1,AAN hv⟩
theorem kH{b:List Int}{i c:Int}(h:Cu b i){xs:List (List UInt8)}(hx:0<xs.length):Ok (Wh b i c xs) fun x=>Cu x.2.1 x.2.2.1∧x.1∈xs:=by unfold Wh;refine(Px h _).bind fun r hr=>(Ok.M8 ⟨hr.2.1,hr.2.2 (by omega)⟩).bind fun v hv=>Ok.pure ⟨hr.1,AAN hv⟩
theorem gn(s:List UInt8)(b:Int):QA fun n=>WB n s b:=by unfold WB;exact QA.bind (QA.iter (L:=fun _=>X3 s b) (fun _=>QA.const _) _) fun _=>QA.const _
theorem jD(c:Int):QA fun n=>Wz n c:=by unfold Wz;exact QA.bind (QA.iter (L:=fun _=>YX c) (fun _=>QA.const _) _) fun x=>QA.const _
theorem gZ(s:List UInt8):QA fun n=>QM n s:=by unfold QM;refine QA.bind (gn s 10) fun x1=>QA.cond (QA.bind (QA.const _) fun x2=>QA.bind (QA.iter (L:=fun n=>Tp n x1) (fun x3=>?_) _) fun _=>QA.const _) (QA.const _);unfold Tp;refine QA.cond (QA.bind (QA.const _) fun x5=>QA.cond (QA.const _) (QA.bind (QA.const _) fun x9=>QA.cond (QA.const _) (QA.bind (QA.iter (L:=fun n=>Tq n x1 x3) (fun x10=>?_) _) fun _=>QA.const _))) (QA.const _);unfold Tq;refine QA.cond (QA.bind (QA.const _) fun _=>QA.cond (QA.cond (QA.bind (QA.const _) fun _=>QA.bind (QA.const _) fun _=>QA.bind (jD _) fun _=>QA.const _) (QA.const _)) (QA.const _)) (QA.const _)
def Y3:List (List UInt8):=[[99,46,46,46,46,46,10,46,112,112,46,112,46,10,46,112,112,46,112,46,10,46,46,46,46,46,115,10],[99,46,46,10,46,46,46,10,46,46,115,10],[46,46,46,46,46,10,46,112,35,112,46,10,46,46,115,46,46,10,46,112,35,112,46,10,99,46,46,46,99,10],[46,46,46,35,46,46,46,10,46,46,46,46,46,46,46,10,46,46,46,35,46,46,46,10],[99,46,46,46,46,46,46,46,10,46,112,46,112,46,112,46,46,10,46,46,46,46,46,46,46,115,10,46,112,46,112,46,112,46,46,10,99,46,46,46,46,46,46,115,10],[46,46,10,46,46,10],[99,46,35,46,115,10,46,46,35,46,46,10]]
def bI(s:List UInt8):Bool:=match QM 60 s with
 |some (w,h,c,b)=>PS w h c&&b == -1&&decide (0<c.length)
 |none=>false
theorem cq:Y3.all bI=true:=by kernel_rfl
theorem fU{s:List UInt8}(h:bI s=true)(n:Nat)(hn:PD≤n):Ok (QM n s) fun x=>PS x.1 x.2.1 x.2.2.1=true∧x.2.2.2 = -1∧0<x.2.2.1.length:=by
 unfold bI at h;cases hp:QM 60 s with
 |none=>grind
 |some x=>
  rw[hp]at h;obtain⟨w,q,c,b⟩:=x;simp only[AAG,AAS,AAb]at h;exact⟨_,gZ s 60 n _ (by unfold PD at hn;omega) hp,h.1.1,h.1.2,h.2⟩
theorem gN(n:Nat)(hn:PD≤n){b:List Int}{i c:Int}(h:Cu b i):Ok (UW n b i c) fun x=>PS x.1 x.2.1 x.2.2.1=true∧0<x.2.2.1.length∧Cu x.2.2.2.1 x.2.2.2.2.1:=by
 unfold UW;refine(bJ h 3).bind fun r hr=>Ok.cond (fun _=>?_) fun _=>?_
 ·refine(kH hr (xs:=Y3) (by simp[Y3])).bind fun t ht=>?_;refine(fU (AAU.1 cq _ ht.2) n hn).bind fun x hx=>Ok.pure ⟨hx.1,hx.2.2,ht.1⟩
 ·refine(Px hr 7).bind fun x hx=>(Px hx.1 6).bind fun y hy=>?_;have x1:=hx.2.2 (by omega);have y1:=hy.2.2 (by omega);have x0:=hx.2.1;have y0:=hy.2.1;rw[PC (n:=1+x.1) (by omega) (by omega),PC (n:=1+y.1) (by omega) (by omega)];generalize hW:1+x.1=W;generalize hH:1+y.1=H
  have hWH:W*H≤100∧1≤W*H:=by
   have a1:1≤W:=by omega
   have a2:W≤10:=by omega
   have a3:1≤H:=by omega
   have a4:H≤10:=by omega
   have h1:W*H≤10*H:=Int.mul_le_mul_of_nonneg_right a2 (by omega);have h2:1*H≤W*H:=Int.mul_le_mul_of_nonneg_right a1 (by omega);omega
  refine Ok.bind (P:=fun z=>PS W H z.2.2.2.2.2.2=true∧0<z.2.2.2.2.2.2.length∧z.2.2.2.2.1=W∧z.2.2.2.2.2.1=H∧Cu z.2.1 z.2.2.1) (Ok.iter (fun k z=>z.1+(k:Int)=W*H∧0≤z.1∧(z.2.2.2.2.2.2.length:Int)=z.1∧(z.2.2.2.2.2.2.all fun k=>Ps k 0 4)=true∧z.2.2.2.2.1=W∧z.2.2.2.2.2.1=H∧Cu z.2.1 z.2.2.1) (fun k z hz=>?_) (k:=(W*H).toNat) ⟨by omega,by omega,rfl,rfl,rfl,rfl,hy.1⟩ (by unfold PD at hn;omega)) fun z hz=>?_
  ·obtain⟨z1,z2,z3,z4,z5,z6,z7⟩:=hz;unfold X2;rw[z5,z6,PC (n:=W*H) (by omega) (by omega)];refine Ok.cond (fun hb=>?_) fun hb=>?_
   ·have hb:=AAq hb;refine(ok_int z7 (by simp)).bind fun v hv=>Ok.guard (R3 (by omega)) (Ok.pure (.inl ⟨_,rfl,k-1,⟨?_,?_,?_,?_,rfl,rfl,hv.1⟩,by omega⟩))
    ·show O9 (z.1+1)+_=_;rw[PC (by omega) (by omega)];omega
    ·show 0≤O9 (z.1+1);rw[PC (by omega) (by omega)];omega
    ·show((z.2.2.2.2.2.2++[v.1]).length:Int)=O9 (z.1+1);rw[PC (by omega) (by omega)];simp;omega
    ·show((z.2.2.2.2.2.2++[v.1]).all fun k=>Ps k 0 4)=true;rw[List.all_append,z4];have hv2:=hv.2;simp only[AAZ,List.not_mem_nil,or_false]at hv2;rcases hv2 with e|e|e|e|e|e|e|e|e|e<;>rw[e]<;>rfl
   ·have hb:=of_decide_eq_false hb;refine Ok.pure (.inr ⟨_,rfl,?_,?_,rfl,rfl,z7⟩)
    ·show PS W H z.2.2.2.2.2.2=true;unfold PS;rw[z4,PC (n:=W*H) (by omega) (by omega),show((z.2.2.2.2.2.2.length:Int)==W*H)=true by rw[AAS];omega];unfold Ps;rw[ABZ (show 1≤W by omega),ABZ (show W≤10 by omega),ABZ (show 1≤H by omega),ABZ (show H≤10 by omega)];rfl
    grind
  ·obtain⟨z1,z2,z3,z4,z5⟩:=hz;refine Ok.pure ⟨?_,z2,z5⟩;grind
theorem jB{b:List Int}{i q:Int}(hcu:Cu b i)(crew:List Pc)(hl:crew.length≤1000):Ok (W6 b i q crew) fun x=>x.1.length=crew.length∧Cu x.2.1 x.2.2.1:=by
 unfold W6;rw[AA4];refine Ok.guard (by rw[AAb];simp[Dh];omega) (Ok.cond (fun _=>Ok.pure ⟨rfl,hcu⟩) fun tj=>?_)
 have h0:0<crew.length:=by
  rcases Nat.eq_zero_or_pos crew.length with e|e
  ·grind
  ·exact e
 refine(Px hcu _).bind fun r hr=>?_;have hi:=YG (xs:=crew) ⟨hr.2.1,hr.2.2 (by omega)⟩;refine Ok.bind (P:=fun x=>x.2.2.2.length=crew.length∧Cu x.1 x.2.1) ((Px hr.1 6).bind fun y hy=>Ok.cond (fun _=>(ok_int hy.1 (by simp)).bind fun v hv=>Ok.guard hi (Ok.pure ⟨by simp,hv.1⟩)) fun _=>Ok.cond (fun _=>(ok_int hy.1 (by simp)).bind fun v hv=>Ok.guard hi (Ok.pure ⟨by simp,hv.1⟩)) fun _=>Ok.cond (fun _=>(ok_int hy.1 (by simp)).bind fun v hv=>Ok.guard hi (Ok.pure ⟨by simp,hv.1⟩)) fun _=>Ok.cond (fun _=>(ok_int hy.1 (by simp)).bind fun v hv=>Ok.guard hi (Ok.pure ⟨by simp,hv.1⟩)) fun _=>Ok.pure ⟨rfl,hy.1⟩) fun x hx=>Ok.pure hx
theorem gS(k:Nat)(hk:k≤100000)(n:Nat)(hn:PD≤n){b:List Int}{i q:Int}(hcu:Cu b i)(a:List PF)(ha:a.length≤k)(hs:∀p∈a,p.2.2.length≤k):Ok (W5 n b i q a) fun x=>(x.1.length≤a.length+1∧∀p∈x.1,p.2.2.length≤k+1)∧Cu x.2.1 x.2.2.1:=by
 have hsm:PU a:=⟨by omega,fun y hy=>by show y.2.2.length≤_;grind⟩;unfold W5;rw[PL a hsm n hn,ABT];have VU:a.length≤a.length+1∧∀p∈a,p.2.2.length≤k+1:=⟨by omega,fun p hp=>by grind⟩;refine Ok.cond (fun _=>Ok.pure ⟨VU,hcu⟩) fun tj=>?_
 have h0:0<a.length:=by
  rcases Nat.eq_zero_or_pos a.length with e|e
  ·grind
  ·exact e
 refine(Px hcu _).bind fun r hr=>?_;have yq:=hr.2.2 (by omega);have hi:=YG (xs:=a) ⟨hr.2.1,yq⟩;obtain⟨m,hm⟩:∃m:Nat,r.1=(m:Int):=⟨r.1.toNat,by omega⟩;have hml:m<a.length:=by clear hn;omega
 rw[hm]at hi ⊢;rw[ABX]
 have modK:∀(f:PF→PF),(∀p∈a,(f p).2.2.length≤k+1)→(a.modify m f).length≤a.length+1∧∀p∈a.modify m f,p.2.2.length≤k+1:=fun f hf=>by refine⟨by simp,fun p hp=>?_⟩;obtain⟨j,hj,rfl⟩:=ABY.1 hp;grind
 have row:∀p∈a,∀x:D2,decide (p.2.2.length+[x].length≤Dh)=true:=fun p hp x=>R3 (by grind);refine Ok.bind (P:=fun x=>(x.2.2.2.length≤a.length+1∧∀p∈x.2.2.2,p.2.2.length≤k+1)∧Cu x.1 x.2.1) ((Px hr.1 6).bind fun y hy=>Ok.cond (fun _=>(ok_int hy.1 (by simp)).bind fun v hv=>Ok.guard hi (Ok.pure ⟨modK (fun y=>(v.1,y.2.1,y.2.2)) fun p hp=>VU.2 p hp,hv.1⟩)) fun _=>Ok.cond (fun _=>(ok_int hy.1 (by simp)).bind fun v hv=>Ok.guard hi (Ok.pure ⟨modK (fun y=>(y.1,v.1,y.2.2)) fun p hp=>VU.2 p hp,hv.1⟩)) fun _=>Ok.cond (fun _=>Ok.guard hi ?_) fun _=>Ok.cond (fun _=>Ok.guard (YG ⟨by omega,by omega⟩) ?_) fun _=>Ok.pure ⟨VU,hy.1⟩) fun x hx=>Ok.pure hx
 ·refine(Ok.get hml).bind fun p0 zj=>(ok_int hy.1 (by simp)).bind fun v hv=>(Px hv.1 3).bind fun u hu=>(Ok.get hml).bind fun p hp=>?_;have hpm:p∈a:=AAN hp;refine Ok.guard (row p hpm (9,v.1,u.1)) (Ok.guard hi (Ok.pure ⟨modK _ fun p' _=>?_,hu.1⟩));grind
 ·rw[Int.toNat_zero];refine(Ok.get h0).bind fun p hp=>(Ok.get h0).bind fun p2 xg=>Ok.guard (R3 (by clear hn;omega)) (Ok.pure ⟨⟨by rw[AA2,ABb];exact AAd _,fun x hx=>?_⟩,hy.1⟩);grind
def QB(c:List Int)(k:Int):Nat→List Int
 |0=>[]
 |i+1=>bif c.getD i 0==k then QB c k i++[(i:Int)]else QB c k i
theorem Yw(c:List Int)(k:Int):∀i,(QB c k i).length≤i
 |0=>AAd _
 |i+1=>by have:=Yw c k i;unfold QB;grind
theorem WJ{c:List Int}{k x:Int}:∀ {i},x∈QB c k i→∃j:Nat,x=(j:Int)∧j<i∧c.getD j 0=k
 |0,h=>by cases h
 |i+1,h=>by
  unfold QB at h;cases hb:(c.getD i 0==k)with
  |false=>
   rw[hb,ABV]at h;obtain⟨j,h1,h2,h3⟩:=WJ h;grind
  |true=>
   rw[hb,ABU,AAy,AA8]at h;rcases h with h|h
   ·obtain⟨j,h1,h2,h3⟩:=WJ h;exact⟨j,h1,by omega,h3⟩
   grind
theorem Zn(c:List Int)(k:Int):∀i,(QB c k i).Pairwise (· < ·)
 |0=>List.Pairwise.nil
 |i+1=>by
  have hp:=Zn c k i;unfold QB;cases hb:(c.getD i 0==k)with
  |false=>grind
  |true=>
   rw[ABU,ABk];refine⟨hp,List.pairwise_singleton _ _,fun x hx y hy=>?_⟩;obtain⟨j,h1,h2,_⟩:=WJ hx;grind
theorem ia{c:List Int}{k:Int}{i:Nat}(hi:i<c.length):QB c k (i+1)=bif c[i]==k then QB c k i++[(i:Int)]else QB c k i:=by rw[QB,show c.getD i 0=c[i] by simp[hi]]
theorem Us(w h:Int)(c:List Int)(hl:c.length≤1048576)(hf:PS w h c=true)(k:Int)(n:Nat)(hn:PD≤n):Rq n w h c k=some (QB c k c.length):=by
 have hs:=Pp w h c hl n hn
 have h1:iter n (R4 n w h c k) (([]:List Int),(0:Int))=some (QB c k c.length,(c.length:Int)):=Ph (R4 n w h c k) (fun i=>(QB c k i,(i:Int))) c.length (QB c k c.length,(c.length:Int)) (fun i hi=>by
  have hr:decide ((QB c k i).length+1≤Dh)=true:=R3 (by have:=Yw c k i;clear hn;omega);unfold R4;rw[hs,hf];dsimp only;rw[show decide ((i:Int)<(c.length:Int))=true by rw[AAb];clear hn;omega,ia hi];simp only[ABU,ABT,O6 hi,O5 hi (show c.length≤9223372036854775807 by clear hn;omega),ABb,hr];grind) (by unfold R4;grind) n (by unfold PD at hn;omega)
 unfold Rq;rw[h1];rfl
def Yr(w h:Int)(c:List Int)(a:List PF):Bool:=PS w h c&&Pl a&&(List.range a.length).all (Xd a)&&(List.range a.length).all (Y5 c a)
def Po(c:List Int):List Int:=QB c 4 c.length
theorem jl(k:Int):∀(l:List PF)(z:Int),(∀p∈l,0≤S9 p.2.2 k∧S9 p.2.2 k≤1000)→z≤(l.map fun p=>S9 p.2.2 k).foldl (· + ·) z∧(l.map fun p=>S9 p.2.2 k).foldl (· + ·) z≤z+1000*(l.length:Int)
 | [],z,_=>by simp
 |p::l,z,h=>by have h1:=h p AAe;have h2:=jl k l (z+S9 p.2.2 k) fun q hq=>h q (AAJ _ hq);grind
theorem fy(a:List PF)(k:Int):0≤T5 a k∧T5 a k≤12000:=by
 unfold T5;cases h:Pl a with
 |false=>grind
 |true=>
  rw[ABU];obtain⟨h1,h2⟩:=eJ h
  have:=jl k a 0 fun p hp=>by obtain⟨i,hi,rfl⟩:=ABY.1 hp;exact aN (h2 i hi) k
  omega
theorem ab(a:List PF):∀m,m≤50→∀j,j≤50→(RO a m)[j]?=some (bif decide (1≤j)&&decide (j≤m)then T5 a (j:Int)else 0)
 |0,_,j,hj=>by
  have:(decide (1≤j)&&decide (j≤0))=false:=by rw[ACD,AAf,AAf];omega
  rw[this,ABV];show(List.replicate 51 (0:Int))[j]?=some 0;grind
 |m+1,hm,j,hj=>by have hi:=ab a m (by omega) j hj;show((RO a m).set (m+1) (T5 a ((m+1:Nat):Int)))[j]?=_;grind
theorem bS(ds:List Int):∀m i,i<m→(Rn ds m)[i]?=some (((i+1:Nat):Int),ds.getD i 0, -1,false,0)
 |0,i,h=>by omega
 |m+1,i,h=>by
  rw[Rn,List.getElem?_append,Tm];by_cases hi:i<m
  ·rw[AAK hi];exact bS ds m i hi
  grind
theorem XI{ds:List Int}{m i:Nat}(h:i<(Rn ds m).length):(Rn ds m)[i]=(((i+1:Nat):Int),ds.getD i 0, -1,false,0):=by have:=bS ds m i (by rw[Tm]at h;exact h);grind
theorem gC{c:List Int}{i:Nat}(hi:i<(Po c).length):QC c ((Po c).getD i 0)=true:=by rw[show(Po c).getD i 0=(Po c)[i] by simp[hi]];obtain⟨j,h1,h2,h3⟩:=WJ (ABW hi);rw[h1];unfold QC Ps;grind
theorem mS(c:List Int):CW c (Rn (Po c) (min (Po c).length 20)):=by
 have key:∀r∈Rn (Po c) (min (Po c).length 20),∃i:Nat,i<(Po c).length∧i<20∧r=(((i+1:Nat):Int),(Po c).getD i 0, -1,false,0):=by intro r hr;obtain⟨i,hi,rfl⟩:=ABY.1 hr;have hi2:=hi;rw[Tm]at hi2;exact⟨i,by omega,by omega,XI hi⟩
 have hpw:=Zn c 4 c.length;refine⟨by rw[Tm];omega,fun r hr=>?_,fun r hr=>?_,fun r hr=>?_,fun r hr=>?_,?_,?_⟩
 ·grind
 ·obtain⟨i,h1,h2,rfl⟩:=key r hr;exact gC h1
 ·grind
 ·grind
 ·refine ABQ.2 fun i j hi hj xM=>?_;rw[XI hi,XI hj];omega
 ·refine ABQ.2 fun i j hi hj xM=>?_;have hi2:=hi;have hj2:=hj;rw[Tm]at hi2 hj2;have hdi:i<(Po c).length:=by omega
  have hdj:j<(Po c).length:=by omega
  rw[XI hi,XI hj];show(Po c).getD i 0≠(Po c).getD j 0;have:(Po c)[i]<(Po c)[j]:=ABQ.1 hpw i j hdi hdj xM;grind
theorem aY{w h:Int}{c:List Int}{a:List PF}(uU:Yr w h c a=true):PS w h c=true∧Pl a=true∧(∀p∈a,∀s∈p.2.2,s.2.2≤0)∧∀p∈a,Ps p.2.1 0 ((c.length:Int)-1)=true∧c.getD p.2.1.toNat 0=2:=by
 unfold Yr at uU;simp only[AAG,AAU,AAR]at uU;obtain⟨⟨⟨h1,h2⟩,h3⟩,h4⟩:=uU;refine⟨h1,h2,fun p hp s hs=>?_,fun p hp=>?_⟩
 ·obtain⟨i,hi,rfl⟩:=ABY.1 hp;obtain⟨k,hk,rfl⟩:=ABY.1 hs;have:=h3 i hi;unfold Xd at this;rw[AAF hi]at this;have:=AAU.1 this k (AAR.2 hk);grind
 ·obtain⟨i,hi,rfl⟩:=ABY.1 hp;have:=h4 i hi;unfold Y5 at this;grind
theorem fg(a:List PF){j:Nat}(hj:j≤50):(RO a 50)[j]?=some (bif decide (1≤j)then T5 a (j:Int)else 0):=by rw[ab a 50 (by omega) j hj,ABZ (show j≤50 from hj),ACE]
structure mh(nx:Int)(l:List Pf):Prop where
 sm:QZ (nx,l)
 len:l.length≤29
 SZ:du l
 aw:Vj nx l→∀o∈l,o.2.2.2.1.length≤72
theorem mh.both{nx:Int}{l:List Pf}(h:mh nx l)(n:Nat)(hn:PD≤n):∃b,QW n nx l=some b∧Q7 n nx l=some b∧(b=true↔Vj nx l):=by
 obtain⟨b1,e1,i1⟩:=Xw h.sm h.SZ n hn;obtain⟨b2,e2,i2⟩:=Vf h.sm n hn
 have:b1=b2:=by rw[ABw,i1,i2];exact⟨fun q=>q.1,fun q=>⟨q,h.aw q⟩⟩
 grind
abbrev rW:=(List PF)×Int×(List Pf)×Int
structure dP(s:List PF)(nx:Int)(l:List Pf)(desk:Int)(it:List PV)(o:List D2):Prop where
 st:PO s
 im:Wk it
 ne:0<it.length
 dk:0≤desk∧desk≤99
 bk:Vj nx l
 lt:nx<1000000
 fit:Fits s o
 pg:PG o it
 aw:o.length≤72
def oY(s:List PF)(nx:Int)(l:List Pf)(desk:Int)(it:List PV)(o:List D2):rW:=(Pg s (tp o),nx+1,l++[(nx,desk,it,o,1)],nx)
def ov(s:List PF)(nx:Int)(l:List Pf)(desk:Int)(it:List PV)(r:rW):Prop:=r=(s,nx,l,0)∨∃o,dP s nx l desk it o∧r=oY s nx l desk it o
theorem Z8(s:List PF)(hs:PU s){nx:Int}{l:List Pf}(hq:mh nx l)(desk:Int)(it:List PV)(xw:it.length≤1000)(n:Nat)(hn:PD≤n)(b:Bool)(eb:QW n nx l=some b)(o:List D2)(pb:Bool)(ep:Sc n s it=some (o,pb)):
  Sa n s nx l desk it=some (bif Pl s&&b&&Ps desk 0 99 && !((it.length:Int)==0) && !(nx==1000000)&&pb then((Rw VQ s o).1,O9 (nx+1),l++[(nx,desk,it,o,1)],nx)else(s,nx,l,0))∨1048576<o.length:=by
 by_cases ho:1048576<o.length
 ·exact .inr ho
 left;have h29:=hq.len;unfold Sa;rw[R6 nx l hq.sm n hn,ABT,Pq s hs n hn,eb];simp only[ABT,P8,PL s hs n hn,ep];rw[show((l.length:Int)==30)=false by rw[ABa];clear hn;omega];have h1:decide (([]:List PV).length+it.length≤Dh)=true:=UL (by grind);have h2:decide (l.length+1≤Dh)=true:=R3 (by omega);cases Pl s with
 |false=>rfl
 |true=>
 cases b with
 |false=>rfl
 |true=>
 cases Ps desk 0 99 with
 |false=>rfl
 |true=>
 cases((it.length:Int)==0)with
 |true=>rfl
 |false=>
 cases(nx==1000000)with
 |true=>rfl
 |false=>
 cases pb with
 |false=>rfl
 |true=>
  simp only[ABc,ABp,ABV,ABU,ABT,ACK,ABb,h1,h2,AA4];rw[aC s hs o (by omega) n hn];rfl
theorem Zt(s:List PF)(hs:PU s){nx:Int}{l:List Pf}(hq:mh nx l)(desk:Int)(it:List PV)(xw:it.length≤1000)(n:Nat)(hn:PD≤n)(b:Bool)(eb:Q7 n nx l=some b)(o:List D2)(ho:o.length≤1048576)(pb:Bool)(ep:To n s it=some (o,pb)):
  Tt n s nx l desk it=some (bif Pl s&&b&&Ps desk 0 99 && !((it.length:Int)==0)&&Um it && !(decide (nx≥1000000))&&(pb&&(Rw VQ s o).2)then((Rw VQ s o).1,O9 (nx+1),l++[(nx,desk,it,o,1)],nx)else(s,nx,l,0)):=by
 have h29:=hq.len;unfold Tt;rw[QL s hs n hn,eb];simp only[ABT,Uf,P8,Pz s hs n hn,Uj nx l hq.sm n hn,ep,XN s hs o ho n hn,RP it (show it.length≤1048576 by omega) n hn];rw[show decide ((l.length:Int)≥30)=false by rw[AAf];clear hn;omega];have h1:decide (it.length≤Dh)=true:=UL (by omega);have h2:decide (l.length+1≤Dh)=true:=R3 (by omega);unfold QE;simp only[h1,ABb,h2,ABU,ABT];cases Pl s with
 |false=>rfl
 |true=>
 grind
theorem eZ(s:List PF)(hs:PU s){nx:Int}{l:List Pf}(hq:mh nx l)(desk:Int)(it:List PV)(xw:it.length≤1000)(n:Nat)(hn:PD≤n):∃r,Sa n s nx l desk it=some r∧Tt n s nx l desk it=some r∧ov s nx l desk it r:=by
 obtain⟨b,eb1,eb2,hb⟩:=hq.both n hn;obtain⟨o,pb,ep1,ep2,hp1,xg⟩:=iV s hs it (by omega) n hn
 have ho:o.length≤72:=by
  cases pb with
  |true=>grind
  |false=>grind
 have e1:=(Z8 s hs hq desk it xw n hn b eb1 o pb ep1).resolve_right (by omega);have e2:=Zt s hs hq desk it xw n hn b eb2 o (by omega) pb ep2;cases pb with
 |false=>
  refine⟨(s,nx,l,0),?_,?_,.inl rfl⟩
  all_goals grind
 |true=>
  obtain⟨hS,hI,hpg,hft,_⟩:=hp1 rfl;have hH:=dY hS hft;rw[hH.1]at e1 e2;rw[Un.2 hI]at e2;by_cases hB:Vj nx l
  ·have hnx:=hB.1;rw[hb.2 hB]at e1 e2
   have tj:(!(nx==1000000)) = !(decide (nx≥1000000)):=by
    by_cases h:nx=1000000
    ·rw[h];rfl
    ·grind
   rw[tj]at e1;by_cases uU:(Ps desk 0 99 && !((it.length:Int)==0) && !(decide (nx≥1000000)))=true
   ·have hfull:(Pl s&&true&&Ps desk 0 99 && !((it.length:Int)==0) && !(decide (nx≥1000000))&&true)=true:=by rw[Pk.2 hS];simp only[ACE,ABt];exact uU
    have hfull2:(Pl s&&true&&Ps desk 0 99 && !((it.length:Int)==0)&&true && !(decide (nx≥1000000))&&(true&&true))=true:=by rw[Pk.2 hS];simp only[ACE,ABt];exact uU
    rw[hfull,ABU]at e1;dsimp only at e2;rw[hfull2,ABU]at e2;simp only[AAG,AAT,ABa,AAf]at uU
    have hdk:0≤desk∧desk≤99:=by have:=uU.1.1;unfold Ps at this;simp only[AAG,AAb]at this;exact this
    have hw:O9 (nx+1)=nx+1:=PC (by omega) (by omega);rw[hw]at e1 e2;exact⟨_,e1,e2,.inr ⟨o,⟨hS,hI,by omega,hdk,hB,by omega,hft,hpg,ho⟩,rfl⟩⟩
   ·have xN:(Pl s&&true&&Ps desk 0 99 && !((it.length:Int)==0) && !(decide (nx≥1000000))&&true)=false:=by rw[←ABj,Pk.2 hS];simp only[ACE,ABt];exact uU
    have hno2:(Pl s&&true&&Ps desk 0 99 && !((it.length:Int)==0)&&true && !(decide (nx≥1000000))&&(true&&true))=false:=by rw[←ABj,Pk.2 hS];simp only[ACE,ABt];exact uU
    rw[xN,ABV]at e1;dsimp only at e2;rw[hno2,ABV]at e2;exact⟨_,e1,e2,.inl rfl⟩
  ·have hbf:b=false:=by
    cases b with
    |true=>grind
    |false=>rfl
   rw[hbf,Bool.and_false,ABx,ABx,ABx,ABx,ABV]at e1;rw[hbf,Bool.and_false,ABx,ABx,ABx,ABx,ABx,ABV]at e2;exact⟨_,e1,e2,.inl rfl⟩
theorem dP.book{s:List PF}{nx:Int}{l:List Pf}{desk:Int}{it:List PV}{o:List D2}(h:dP s nx l desk it o)(h29:l.length≤29):Vj (nx+1) (l++[(nx,desk,it,o,1)]):=by
 have hb:=h.bk;have tX:=h.lt;refine⟨⟨by have:=hb.1;omega,by omega⟩,by grind,?_,fun q hq=>?_⟩
 ·refine ABk.2 ⟨hb.2.2.1,List.pairwise_singleton _ _,fun x hx y hy=>?_⟩;rw[AA8.1 hy];have:=(hb.2.2.2 x hx).1;omega
 ·rcases AAy.1 hq with hq|hq
  ·obtain⟨⟨q1,q2⟩,q3⟩:=hb.2.2.2 q hq;exact⟨⟨q1,by omega⟩,q3⟩
  ·rw[AA8.1 hq];exact⟨⟨by show 1≤nx;have:=hb.1;omega,by omega⟩,h.dk,⟨h.im,h.ne⟩,h.pg,⟨by grind,by grind⟩⟩
theorem fZ{nx m:Int}{l:List Pf}(h:QZ (nx,l))(hl:l.length≤1000)(x:Pf)(hi:x.2.2.1.length≤1000)(hp:x.2.2.2.1.length≤1000):QZ (m,l++[x]):=by
 refine⟨by grind,fun o ho=>?_⟩;rcases AAy.1 ho with ho|ho
 ·exact h.2 o ho
 ·rw[AA8.1 ho];exact⟨by show x.2.2.1.length≤_;omega,by show x.2.2.2.1.length≤_;omega⟩
def P9(l:List Pf)(id:Int):Option Pf:=l.find? fun o=>o.1==id
def TH(crew:List Pc)(id:Int):Option Pc:=crew.find? fun r=>r.1==id
def TB(a:List PF)(l:List Pf)(t:PW):Int:=if t.2.2.2=3 then(match P9 l t.1 with|some o=>o.2.1|none=>0)else(match XT a t.2.1 with|some p=>p.2.1|none=>0)
structure Ts(a:List PF)(l:List Pf)(crew:List Pc)(t:PW):Prop where
 ord:∃o,P9 l t.1=some o∧o.2.2.2.2=1∧∃p∈o.2.2.2.1,p.1=t.2.1
 PJ:∃q,XT a t.2.1=some q
 cg:t.2.2.2≠1→∃r,TH crew t.2.2.1=some r∧r.2.2.1=TB a l t∧r.2.2.2.1=decide (2<t.2.2.2)
structure DI(w h:Int)(c:List Int)(a:List PF)(nx:Int)(l:List Pf)(crew:List Pc)(ts:List PW):Prop where
 fl:PS w h c=true
 st:PO a
 hm:∀p∈a,QC c p.2.1=true
 bk:Vj nx l
 KN:du l
 aw:∀o∈l,o.2.2.2.1.length≤72
 dk:∀o∈l,QC c o.2.1=true
 cw:CW c crew
 XA:TP ts
 tk:∀t∈ts,Ts a l crew t
def WI(a b:List PF):Prop:=∀id,(XT b id).map (·.2.1)=(XT a id).map (·.2.1)
theorem WI.goal{a b:List PF}(h:WI a b){l k:List Pf}{t:PW}(ho:P9 k t.1=P9 l t.1):TB b k t=TB a l t:=by
 unfold TB;rw[ho];split
 ·rfl
 ·have:=h t.2.1;grind
theorem Ts.same{a b:List PF}(h:WI a b){l k:List Pf}{crew:List Pc}{t:PW}(ho:P9 k t.1=P9 l t.1)(ht:Ts a l crew t):Ts b k crew t:=by
 refine⟨by rw[ho];exact ht.ord,?_,fun e=>?_⟩
 ·obtain⟨q,hq⟩:=ht.PJ;have:=h t.2.1;rw[hq]at this;cases e1:XT b t.2.1 with
  |none=>grind
  |some q2=>grind
 ·rw[h.goal ho];exact ht.cg e
theorem kS(a:List PF)(f:Int→Int→Int):WI a (Pg a f):=by intro id;unfold XT Pg;rw[List.find?_map,Option.map_map];rfl
theorem jI{l:List Pf}{id:Int}{o:Pf}(h:P9 l id=some o)(x:Pf):P9 (l++[x]) id=P9 l id:=by unfold P9 at h ⊢;grind
theorem gX{l:List Pf}{x:Pf}(h:∀o∈l,o.1<x.1):P9 (l++[x]) x.1=some x:=by unfold P9;grind
theorem QK{l:List Pf}{id:Int}{o:Pf}(h:P9 l id=some o):o∈l∧o.1=id:=⟨ABl h,by simpa using ACH h⟩
theorem Sy{a:List PF}{id:Int}{p:PF}(h:XT a id=some p):p∈a∧p.1=id:=⟨ABl h,by simpa using ACH h⟩
theorem Xn{a:List PF}{id:Int}(h:∃p∈a,p.1=id):∃q,XT a id=some q:=by
 obtain⟨p,hp,e⟩:=h;unfold XT;cases hq:a.find? fun p=>p.1==id with
 |some q=>grind
 |none=>
  grind
theorem eI:∀(ps:List D2)(s:List Int),s.Nodup→(ps.foldl VV s).Nodup∧∀x,x∈ps.foldl VV s↔x∈s∨∃p∈ps,p.1=x
 | [],s,hs=>⟨hs,fun x=>by simp⟩
 |p::ps,s,hs=>by
  have hn:(VV s p).Nodup∧∀x,x∈VV s p↔x∈s∨p.1=x:=by
   unfold VV;cases ha:s.any fun y=>y==p.1 with
   |true=>
    rw[ABU];obtain⟨y,hy,e⟩:=AA6.1 ha;have e:=AAS.1 e
    exact⟨hs,fun x=>⟨fun h=>.inl h,fun h=>by
     rcases h with h|h
     ·exact h
     ·rw[←h,←e];exact hy⟩⟩
   |false=>
    rw[ABV]
    have xN:p.1∉s:=fun hm=>by rw[←ABj]at ha;exact ha (AA6.2 ⟨p.1,hm,AB6 _⟩)
    refine⟨AAV.2 ⟨hs,(by simp),fun x hx y hy e=>?_⟩,fun x=>?_⟩
    ·rw[AA8.1 hy]at e;exact xN (e▸hx)
    ·rw[AAy,AA8];exact⟨fun h=>h.imp id fun e=>e.symm,fun h=>h.imp id fun e=>e.symm⟩
  obtain⟨i1,i2⟩:=eI ps (VV s p) hn.1;grind
theorem XW{ps:List D2}{x:Int}:x∈SZ ps↔∃p∈ps,p.1=x:=by have:=(eI ps [] AAL).2 x;unfold SZ;grind
theorem gh(ps:List D2):(SZ ps).Nodup:=(eI ps [] AAL).1
theorem Qa{l:List PW}:TP l↔l.length≤60∧(∀x∈l,Pv x=true)∧l.Pairwise fun u x=>Pd x u=false:=by
 constructor
 ·intro h
  exact⟨h.len,fun x hx=>by
   obtain⟨i,hi,rfl⟩:=ABY.1 hx;exact h.mU i hi,ABQ.2 fun i j hi hj xM=>h.apart j i hj xM⟩
 ·rintro ⟨h1,h2,h3⟩
  exact⟨h1,fun i hi=>h2 _ (ABW hi),fun i j hi hj=>ABQ.1 h3 j i (by omega) hi hj⟩
theorem bO{x u:PW}(hx:x.2.2.2=1)(h:x.1≠u.1∨x.2.1≠u.2.1):Pd x u=false:=by unfold Pd;grind
theorem DI.take{w h:Int}{c:List Int}{a:List PF}{nx:Int}{l:List Pf}{crew:List Pc}{ts:List PW}(d:DI w h c a nx l crew ts){desk:Int}{it:List PV}{o:List D2}(T:dP a nx l desk it o)(hdk:QC c desk=true)(h29:l.length≤29)(hlen:ts.length+(SZ o).length≤60):
  DI w h c (Pg a (tp o)) (nx+1) (l++[(nx,desk,it,o,1)]) crew (ts++(SZ o).map fun x=>(nx,x,(0:Int),(1:Int))):=by
 have hnx:=T.bk.1;have tX:=T.lt;have hids:∀y∈l,y.1<nx:=fun y hy=>by have:=(T.bk.2.2.2 y hy).1;omega
 have hpo:∀p∈o,1≤p.1∧p.1≤999:=fun p hp=>by obtain⟨_,_,i,hi,e⟩:=T.fit.each p hp;have:=(T.st.2.2 _ (ABW hi)).1;omega
 refine {fl:=d.fl,st:=(dY T.st T.fit).2,hm:=fun p hp=>?_,bk:=T.book h29,KN:=fun q hq=>?_,aw:=fun q hq=>?_,dk:=fun q hq=>?_,cw:=d.cw,XA:=?_,tk:=fun t ht=>?_ }
 ·unfold Pg at hp;obtain⟨q,hq,rfl⟩:=AAs.1 hp;exact d.hm q hq
 ·rcases AAy.1 hq with hq|hq
  ·exact d.KN q hq
  grind
 ·rcases AAy.1 hq with hq|hq
  ·exact d.aw q hq
  ·rw[AA8.1 hq];exact T.aw
 ·rcases AAy.1 hq with hq|hq
  ·exact d.dk q hq
  grind
 ·obtain⟨t1,t2,t3⟩:=Qa.1 d.XA;refine Qa.2 ⟨by grind,fun x hx=>?_,ABk.2 ⟨t3,?_,fun u hu x hx=>?_⟩⟩
  ·rcases AAy.1 hx with hx|hx
   ·exact t2 x hx
   ·obtain⟨y,hy,rfl⟩:=AAs.1 hx;obtain⟨p,hp,e⟩:=XW.1 hy;have:=hpo p hp;rw[e]at this;unfold Pv;grind
  ·rw[ABi];exact(gh o).imp fun {x y} tj=>bO rfl (.inr fun e=>tj e.symm)
  ·obtain⟨y,hy,rfl⟩:=AAs.1 hx;refine bO rfl (.inl ?_);obtain⟨oo,ho,_⟩:=(d.tk u hu).ord;obtain⟨hm,e⟩:=QK ho;grind
 ·rcases AAy.1 ht with ht|ht
  ·have hd:=d.tk t ht;obtain⟨oo,ho,_⟩:=hd.ord;exact hd.same (kS a (tp o)) (jI ho _)
  ·obtain⟨y,hy,rfl⟩:=AAs.1 ht;obtain⟨p,hp,e⟩:=XW.1 hy;refine⟨⟨_,gX (x:=(nx,desk,it,o,1)) hids,rfl,p,hp,e⟩,?_,fun e=>(e rfl).elim⟩;obtain⟨_,_,i,hi,e2⟩:=T.fit.each p hp;refine Xn ⟨iQ (tp o) a[i],?_,e2.trans e⟩;unfold Pg;grind
def WE(crew:List Pc)(id:Int)(f:Pc→Pc):List Pc:=crew.map fun r=>bif r.1==id then f r else r
theorem cd(crew:List Pc)(id:Int)(f:Pc→Pc):(WE crew id f).length=crew.length:=by unfold WE;grind
theorem Pr{crew:List Pc}{id:Int}{r:Pc}(h:TH crew id=some r):r∈crew∧r.1=id:=⟨ABl h,by simpa using ACH h⟩
theorem fV{crew:List Pc}(h:crew.Pairwise fun r s=>r.1<s.1){r s:Pc}(hr:r∈crew)(hs:s∈crew)(e:r.1=s.1):r=s:=by
 obtain⟨i,hi,rfl⟩:=ABY.1 hr;obtain⟨j,hj,rfl⟩:=ABY.1 hs;rcases ABf i j with hl|hl|hl
 ·have:=ABQ.1 h i j hi hj hl;omega
 ·subst hl;rfl
 ·have:=ABQ.1 h j i hj hi hl;omega
theorem Z6{crew:List Pc}{id:Int}{f:Pc→Pc}(hf:∀r,(f r).1=r.1)(k:Int):TH (WE crew id f) k=(TH crew k).map fun r=>bif r.1==id then f r else r:=by
 unfold TH WE;rw[List.find?_map]
 have:((fun r:Pc=>r.1==k) ∘ fun r:Pc=>bif r.1==id then f r else r)=fun r:Pc=>r.1==k:=funext fun r=>by grind
 rw[this]
theorem CW.Cb{c:List Int}{crew:List Pc}(h:CW c crew){id:Int}{f:Pc→Pc}(hf:∀r,(f r).1=r.1∧(f r).2.1=r.2.1)(hg:∀r∈crew,r.1=id→((f r).2.2.1 = -1∨QC c (f r).2.2.1=true)∧0≤(f r).2.2.2.2∧(f r).2.2.2.2≤1000000):CW c (WE crew id f):=by
 have key:∀r,(bif r.1==id then f r else r:Pc).1=r.1∧(bif r.1==id then f r else r:Pc).2.1=r.2.1:=fun r=>by grind
 have mem:∀s∈WE crew id f,∃r∈crew,s=(bif r.1==id then f r else r:Pc):=fun s hs=>by unfold WE at hs;obtain⟨r,hr,e⟩:=AAs.1 hs;grind
 refine⟨by rw[cd];exact h.aX,fun s hs=>?_,fun s hs=>?_,fun s hs=>?_,fun s hs=>?_,?_,?_⟩
 ·obtain⟨r,hr,rfl⟩:=mem s hs;rw[(key r).1];exact h.ml r hr
 ·obtain⟨r,hr,rfl⟩:=mem s hs;rw[(key r).2];exact h.jZ r hr
 ·obtain⟨r,hr,rfl⟩:=mem s hs;by_cases e:r.1=id
  ·grind
  ·rw[show(r.1==id)=false from ABa.2 e];exact h.goal r hr
 ·obtain⟨r,hr,rfl⟩:=mem s hs;by_cases e:r.1=id
  ·grind
  ·rw[show(r.1==id)=false from ABa.2 e];exact h.mN r hr
 ·unfold WE;rw[ABi];exact h.ids.imp fun {r s} hrs=>by grind
 ·unfold WE;rw[ABi];exact h.cj.imp fun {r s} hrs=>by grind
theorem dT{x u:PW}(h:Pd x u=false)(hx:x.2.2.2≠1):x.2.2.1≠u.2.2.1:=fun e=>by unfold Pd at h;grind
theorem aT{t:PW}{s:Int}(ht:t.2.2.2≠1)(hs:s≠1)(u:PW):Pd (t.1,t.2.1,t.2.2.1,s) u=Pd t u∧Pd u (t.1,t.2.1,t.2.2.1,s)=Pd u t:=by unfold Pd;grind
theorem gE{t:PW}{s:Int}(h:Pv t=true)(ht:t.2.2.2≠1)(hs:2≤s∧s≤4):Pv (t.1,t.2.1,t.2.2.1,s)=true:=by unfold Pv at h ⊢;grind
theorem TP.mG{x y:List PW}{t:PW}(h:TP (x++t::y))(ht:t.2.2.2≠1){s:Int}(hs:2≤s∧s≤4):TP (x++(t.1,t.2.1,t.2.2.1,s)::y):=by
 obtain⟨t1,t2,t3⟩:=Qa.1 h;obtain⟨p1,p2,p3⟩:=ABk.1 t3;obtain⟨p4,p5⟩:=ABm.1 p2;have w4:s≠1:=by omega
 refine Qa.2 ⟨by grind,fun u hu=>?_,ABk.2 ⟨p1,ABm.2 ⟨fun u hu=>?_,p5⟩,fun u hu v hv=>?_⟩⟩
 ·rcases AAy.1 hu with hu|hu
  ·grind
  ·rcases AAZ.1 hu with rfl|hu
   ·exact gE (t2 t (AAO _ AAe)) ht hs
   grind
 ·rw[(aT ht w4 u).2];exact p4 u hu
 ·rcases AAZ.1 hv with rfl|hv
  ·rw[(aT ht w4 u).1];exact p3 u hu t AAe
  grind
theorem TP.sub{x y:List PW}(h:TP y)(hs:x.Sublist y):TP x:=by obtain⟨t1,t2,t3⟩:=Qa.1 h;exact Qa.2 ⟨AAw hs.length_le t1,fun u hu=>t2 u (hs.subset hu),t3.sublist hs⟩
theorem TP.two{x y:List PW}{t:PW}(h:TP (x++t::y))(ht:t.2.2.2≠1){u:PW}(hu:u∈x∨u∈y)(hu1:u.2.2.2≠1):u.2.2.1≠t.2.2.1:=by
 obtain⟨_,_,t3⟩:=Qa.1 h;obtain⟨p1,p2,p3⟩:=ABk.1 t3;obtain⟨p4,p5⟩:=ABm.1 p2;rcases hu with hu|hu
 ·exact fun e=>dT (p3 u hu t AAe) ht e.symm
 ·exact dT (p4 u hu) hu1
theorem Ts.other{a b:List PF}(hsp:WI a b){l:List Pf}{crew:List Pc}{u:PW}(h:Ts a l crew u){id:Int}{f:Pc→Pc}(hf:∀r,(f r).1=r.1)(tj:u.2.2.2≠1→u.2.2.1≠id):Ts b l (WE crew id f) u:=by have h2:=h.same hsp (k:=l) rfl;refine⟨h2.ord,h2.PJ,fun e=>?_⟩;obtain⟨r,q1,q2⟩:=h2.cg e;refine⟨r,?_,q2⟩;rw[Z6 hf,q1,AA9,show(r.1==id)=false from ABa.2 fun e2=>tj e ((Pr q1).2.symm.trans e2),ABV]
theorem DI.jt{w h:Int}{c:List Int}{a:List PF}{nx:Int}{l:List Pf}{crew:List Pc}{x y:List PW}{t:PW}(d:DI w h c a nx l crew (x++t::y))(ht:t.2.2.2≠1){b:List PF}(hb:PO b)(hsp:WI a b)(hbm:∀p∈b,QC c p.2.1=true){s:Int}(hs:2≤s∧s≤4){f:Pc→Pc}(hf:∀r,(f r).1=r.1∧(f r).2.1=r.2.1)
  (um:∀r,TH crew t.2.2.1=some r→(f r).2.2.1=TB b l (t.1,t.2.1,t.2.2.1,s)∧(f r).2.2.2.1=decide (2<s)∧0≤(f r).2.2.2.2∧(f r).2.2.2.2≤1000000):DI w h c b nx l (WE crew t.2.2.1 f) (x++(t.1,t.2.1,t.2.2.1,s)::y):=by
 have hT:=d.tk t (AAO _ AAe);obtain⟨o,ho,v7,wL⟩:=hT.ord;obtain⟨r0,hr0,_,_⟩:=hT.cg ht;obtain⟨q,hq⟩:=(hT.same hsp (k:=l) rfl).PJ
 have hgoal:QC c (TB b l (t.1,t.2.1,t.2.2.1,s))=true:=by
  unfold TB;dsimp only;split
  ·rw[ho];exact d.dk o (QK ho).1
  ·rw[hq];exact hbm q (Sy hq).1
 refine {fl:=d.fl,st:=hb,hm:=hbm,bk:=d.bk,KN:=d.KN,aw:=d.aw,dk:=d.dk,cw:=d.cw.Cb hf fun r hr e=>?_,XA:=d.XA.mG ht hs,tk:=fun u hu=>?_ }
 ·have xH:r=r0:=fV d.cw.ids hr (Pr hr0).1 (e.trans (Pr hr0).2.symm);grind
 ·have xe:∀u,u∈x∨u∈y→Ts b l (WE crew t.2.2.1 f) u:=fun u hu=>(d.tk u (by
   grind)).other hsp (fun r=>(hf r).1) fun e=>d.XA.two ht hu e
  rcases AAy.1 hu with hu|hu
  ·grind
  ·rcases AAZ.1 hu with rfl|hu
   ·refine⟨⟨o,ho,v7,wL⟩,⟨q,hq⟩,fun _=>⟨f r0,?_,(um r0 hr0).1,(um r0 hr0).2.1⟩⟩;rw[Z6 fun r=>(hf r).1];show(TH crew t.2.2.1).map _=_;rw[hr0,AA9,show(r0.1==t.2.2.1)=true from AAS.2 (Pr hr0).2,ABU]
   grind
theorem DI.gone{w h:Int}{c:List Int}{a:List PF}{nx:Int}{l:List Pf}{crew:List Pc}{x y:List PW}{t:PW}(d:DI w h c a nx l crew (x++t::y))(ht:t.2.2.2≠1){f:Pc→Pc}(hf:∀r,(f r).1=r.1∧(f r).2.1=r.2.1)(um:∀r,(f r).2.2.1 = -1∧0≤(f r).2.2.2.2∧(f r).2.2.2.2≤1000000):DI w h c a nx l (WE crew t.2.2.1 f) (x++y):=by
 refine {fl:=d.fl,st:=d.st,hm:=d.hm,bk:=d.bk,KN:=d.KN,aw:=d.aw,dk:=d.dk,cw:=d.cw.Cb hf fun r hr e=>⟨.inl (um r).1,(um r).2⟩,XA:=d.XA.sub ((List.Sublist.refl x).append (List.sublist_cons_self t y)),tk:=fun u hu=>?_ };have hu2:=AAy.1 hu
 exact(d.tk u (by
  grind)).other (fun _=>rfl) (fun r=>(hf r).1) fun e=>d.XA.two ht hu2 e
def Rm(l:List Pf)(id st:Int):List Pf:=l.map fun o=>bif o.1==id then(o.1,o.2.1,o.2.2.1,o.2.2.2.1,st)else o
theorem cB(l:List Pf)(id st k:Int)(hk:k≠id):P9 (Rm l id st) k=P9 l k:=by
 unfold P9 Rm;rw[List.find?_map]
 have:((fun o:Pf=>o.1==k) ∘ fun o:Pf=>bif o.1==id then(o.1,o.2.1,o.2.2.1,o.2.2.2.1,st)else o)=fun o:Pf=>o.1==k:=funext fun o=>by grind
 rw[this];cases h:l.find? fun o=>o.1==k with
 |none=>rfl
 |some o=>
  grind
theorem DI.Dq{w h:Int}{c:List Int}{a:List PF}{nx:Int}{l:List Pf}{crew:List Pc}{ts:List PW}(d:DI w h c a nx l crew ts){b:List PF}(hb:PO b)(hsp:WI a b)(hbm:∀p∈b,QC c p.2.1=true){id st:Int}(v7:1≤st∧st≤3){us:List PW}(uX:us.Sublist ts)(xN:∀t∈us,t.1≠id):DI w h c b nx (Rm l id st) crew us:=by
 have mem:∀q∈Rm l id st,∃o∈l,q=(bif o.1==id then(o.1,o.2.1,o.2.2.1,o.2.2.2.1,st)else o:Pf):=fun q hq=>by unfold Rm at hq;grind
 have key:∀o:Pf,(bif o.1==id then(o.1,o.2.1,o.2.2.1,o.2.2.2.1,st)else o:Pf).1=o.1∧(bif o.1==id then(o.1,o.2.1,o.2.2.1,o.2.2.2.1,st)else o:Pf).2.1=o.2.1∧(bif o.1==id then(o.1,o.2.1,o.2.2.1,o.2.2.2.1,st)else o:Pf).2.2.1=o.2.2.1∧(bif o.1==id then(o.1,o.2.1,o.2.2.1,o.2.2.2.1,st)else o:Pf).2.2.2.1=o.2.2.2.1:=fun o=>by grind
 obtain⟨b1,b2,b3,b4⟩:=d.bk;refine {fl:=d.fl,st:=hb,hm:=hbm,bk:=⟨b1,by unfold Rm;grind,?_,fun q hq=>?_⟩,KN:=fun q hq=>?_,aw:=fun q hq=>?_,dk:=fun q hq=>?_,cw:=d.cw,XA:=d.XA.sub uX,tk:=fun t ht=>(d.tk t (uX.subset ht)).same hsp (cB l id st t.1 (xN t ht)) }
 ·unfold Rm;rw[ABi];exact b3.imp fun {x y} hxy=>by grind
 ·obtain⟨o,ho,rfl⟩:=mem q hq;obtain⟨k1,k2,k3,k4⟩:=key o;obtain⟨g1,g2,g3,g4,g5⟩:=b4 o ho;unfold fu;rw[k1,k2,k3,k4];refine⟨g1,g2,g3,g4,?_⟩;cases(o.1==id)
  all_goals grind
 ·obtain⟨o,ho,rfl⟩:=mem q hq;rw[(key o).2.2.2];exact d.KN o ho
 ·obtain⟨o,ho,rfl⟩:=mem q hq;rw[(key o).2.2.2];exact d.aw o ho
 ·obtain⟨o,ho,rfl⟩:=mem q hq;rw[(key o).2.1];exact d.dk o ho
theorem DI.oW{w h:Int}{c:List Int}{a:List PF}{nx:Int}{l:List Pf}{crew:List Pc}{ts:List PW}(d:DI w h c a nx l crew ts){b:List PF}(hb:PO b)(hsp:WI a b)(hbm:∀p∈b,QC c p.2.1=true):DI w h c b nx l crew ts:=
 { d with st:=hb,hm:=hbm,tk:=fun t ht=>(d.tk t ht).same hsp rfl }
theorem DI.step{w h:Int}{c:List Int}{a:List PF}{nx:Int}{l:List Pf}{crew:List Pc}{ts:List PW}(d:DI w h c a nx l crew ts){crew':List Pc}(hc:CW c crew')(hs:∀id,(TH crew' id).map (fun r=>(r.2.2.1,r.2.2.2.1))=(TH crew id).map (fun r=>(r.2.2.1,r.2.2.2.1))):DI w h c a nx l crew' ts:=
 have key:∀t∈ts,Ts a l crew' t:=fun t ht=>by
  have hT:=d.tk t ht;refine⟨hT.ord,hT.PJ,fun e=>?_⟩;obtain⟨r,q1,q2,q3⟩:=hT.cg e;have:=hs t.2.2.1;rw[q1]at this;cases e1:TH crew' t.2.2.1 with
  |none=>grind
  |some r'=>
   grind
 { d with cw:=hc,tk:=key }
theorem jF{α β:Type}{f:α→β}{l:List α}(h:(l.map f).Nodup){x y:α}(hx:x∈l)(hy:y∈l)(e:f x=f y):x=y:=by
 obtain⟨i,hi,rfl⟩:=ABY.1 hx;obtain⟨j,hj,rfl⟩:=ABY.1 hy;have hp:=ABi.1 h;rcases ABf i j with hl|hl|hl
 ·exact(ABQ.1 hp i j hi hj hl e).elim
 ·subst hl;rfl
 ·exact(ABQ.1 hp j i hj hi hl e.symm).elim
theorem XX{crew:List Pc}(h:crew.Pairwise fun r s=>r.1<s.1){k:Nat}(hk:k<crew.length):TH crew crew[k].1=some crew[k]:=by
 cases hq:TH crew crew[k].1 with
 |none=>
  unfold TH at hq;have:=ACI.1 hq _ (ABW hk);simp at this
 |some r=>rw[fV h (Pr hq).1 (ABW hk) (Pr hq).2]
theorem Zr{a:List PF}(ha:PO a){l:List Pf}{t:PW}(h3:t.2.2.2≠3){i:Nat}(hi:i<a.length)(e:a[i].1=t.2.1):TB a l t=a[i].2.1:=by obtain⟨q,hq⟩:=Xn (a:=a) (id:=t.2.1) ⟨_,ABW hi,e⟩;have:q=a[i]:=XU ha hi (Sy hq).1 ((Sy hq).2.trans e.symm);unfold TB;grind
theorem DI.oV{w h:Int}{c:List Int}{a:List PF}{nx:Int}{l:List Pf}{crew:List Pc}{ts:List PW}(d:DI w h c a nx l crew ts){prs:List (Nat×Nat)}(hd:kq w h c a crew ts prs){crew':List Pc}{ts':List PW}(hs:iW a crew ts prs crew' ts'):DI w h c a nx l crew' ts':=by
 have zG:c.length≤1048576:=by have:=(Ve d.fl).le;omega
 have hal:a.length≤1048576:=by have:=d.st.1;omega
 have hcw:CW c crew':=hs.crew zG d.fl hd d.cw
 have key:∀t∈ts',Ts a l crew' t:=fun t ht=>by
  obtain⟨i,vF,rfl⟩:=ABY.1 ht;have hi:i<ts.length:=by rw[←hs.l2];exact vF
  have hT:=d.tk _ (ABW hi);rcases hs.tk i hi vF with⟨p,hp,e1,e2⟩|⟨xN,e2⟩
  ·rw[e2];obtain⟨hk,r1,r2,r3,r4,r5⟩:=hd.cg d.cw hp;have u7:p.2<crew'.length:=by rw[hs.l1];exact hk
   refine⟨hT.ord,hT.PJ,fun _=>?_⟩;rcases hs.rb p.2 hk u7 with⟨p',yo,e3,e4⟩|⟨xN,_⟩
   ·have hpp:p'=p:=jF hd.n2 yo hp e3;subst hpp;obtain⟨q1,q2,q3,j,hj,q4,q5,q6⟩:=hd.XA hal yo;subst e1;rw[aQ q1]at e4;refine⟨crew'[p'.2],?_,?_,?_⟩
    ·show TH crew' (ZE crew p'.2).1=_;rw[Z4 hk];have:=XX hcw.ids u7;rw[e4]at this ⊢;exact this
    ·rw[e4];show QV a ts[p'.1].2.1=_;rw[q6];exact(Zr (t:=(ts[p'.1].1,ts[p'.1].2.1,(ZE crew p'.2).1,2)) d.st (by show(2:Int)≠3;omega) hj q5).symm
    ·rw[e4];show crew[p'.2].2.2.2.1=decide ((2:Int)<2);rw[r4];rfl
   grind
  ·rw[e2];refine⟨hT.ord,hT.PJ,fun e=>?_⟩;obtain⟨r,g1,g2,g3⟩:=hT.cg e;obtain⟨k,hk,hr⟩:=ABY.1 (Pr g1).1;have u7:k<crew'.length:=by rw[hs.l1];exact hk
   have hid:crew[k].1=ts[i].2.2.1:=by rw[hr];exact(Pr g1).2
   rcases hs.rb k hk u7 with⟨p,hp,e3,_⟩|⟨_,e4⟩
   ·obtain⟨hk2,_,_,_,_,r5⟩:=hd.cg d.cw hp;grind
   ·have:=XX hcw.ids u7;grind
 exact { d with cw:=hcw,XA:=hs.tasks hal hd d.XA d.cw,tk:=key }
theorem DI.rZ{w h:Int}{c:List Int}{a:List PF}{nx:Int}{l:List Pf}{crew:List Pc}{ts:List PW}(d:DI w h c a nx l crew ts){crew':List Pc}(hc:CW c crew')(hl:crew'.length=crew.length)(hs:∀k (h1:k<crew.length) (h2:k<crew'.length),crew'[k].1=crew[k].1∧crew'[k].2.2.1=crew[k].2.2.1∧crew'[k].2.2.2.1=crew[k].2.2.2.1):DI w h c a nx l crew' ts:=by
 refine d.step hc fun id=>?_;cases hq:TH crew id with
 |some r=>
  obtain⟨k,hk,hr⟩:=ABY.1 (Pr hq).1;have hk2:k<crew'.length:=by rw[hl];exact hk
  obtain⟨e1,e2,e3⟩:=hs k hk hk2;have:=XX hc.ids hk2;rw[e1,hr,(Pr hq).2]at this;grind
 |none=>
  cases xk:TH crew' id with
  |none=>rfl
  |some r=>
   obtain⟨k,hk,hr⟩:=ABY.1 (Pr xk).1;have hk2:k<crew.length:=by rw[←hl];exact hk
   obtain⟨e1,_,_⟩:=hs k hk2 hk;unfold TH at hq;have:=ACI.1 hq _ (ABW hk2);rw[←e1,hr,(Pr xk).2]at this;simp at this
def YL(x:D2)(l:List D2)(m:List D2):List D2:=(l.filter fun y=>decide (y.1<x.1))++(m++l.filter fun y=>decide (x.1<y.1))
def fp(x:D2)(l:List D2):List D2:=YL x l (bif x.2.1==0 then []else [x])
theorem eF{x:D2}:∀ {l:List D2},l.Pairwise (fun a b=>a.1<b.1)→l.filter (fun y=>y.1 != x.1)=YL x l []
 | [],_=>rfl
 |y::r,h=>by
  obtain⟨h1,h2⟩:=ABm.1 h;have ih:=eF (x:=x) h2;unfold YL at ih ⊢;rw[AA4]at ih ⊢;rw[ABu,ABu,ABu];rcases Int.lt_trichotomy y.1 x.1 with hl|hl|hl
  ·grind
  ·grind
  ·have hr:r.filter (fun z=>decide (z.1<x.1))=[]:=List.filter_eq_nil_iff.2 fun z hz=>by have:=h1 z hz;simp;omega
   grind
theorem lD{x:D2}{l:List D2}(h:∀y∈l,y.1<x.1)(m:List D2):YL x l m=l++m:=by unfold YL;rw[List.filter_eq_self.2 fun y hy=>by grind,List.filter_eq_nil_iff.2 fun y hy=>by grind,ABy]
theorem j5{x:D2}{l:List D2}(h:∀y∈l,x.1≤y.1)(hp:l.Pairwise fun a b=>a.1<b.1)(m:List D2):YL x l m=m++l.filter fun y=>y.1 != x.1:=by rw[eF hp];unfold YL;rw[List.filter_eq_nil_iff.2 fun y hy=>by have:=h y hy;simp;omega];rfl
theorem j4{x:D2}{y:D2}{r:List D2}(h:y.1<x.1)(m:List D2):YL x (y::r) m=y::YL x r m:=by unfold YL;grind
theorem hX{x:D2}{l m:List D2}{z:D2}(h:z∈YL x l m):(z∈l∧z.1≠x.1)∨z∈m:=by unfold YL at h;grind
theorem j6{x:D2}{l:List D2}(h:l.Pairwise fun a b=>a.1<b.1){m:List D2}(hm:m=[]∨m=[x]):(YL x l m).Pairwise fun a b=>a.1<b.1:=by
 unfold YL
 have hmx:∀z∈m,z.1=x.1:=fun z hz=>by
  rcases hm with rfl|rfl
  ·cases hz
  ·rw[AA8.1 hz]
 refine ABk.2 ⟨h.filter _,ABk.2 ⟨by rcases hm with rfl|rfl<;>simp,h.filter _,fun a ha b hb=>?_⟩,fun a ha b hb=>?_⟩
 all_goals grind
theorem g9{x:D2}{l:List D2}(h:l.Pairwise fun a b=>a.1<b.1)(m:List D2):(YL x l m).length=(l.filter fun y=>y.1 != x.1).length+m.length:=by rw[eF h];unfold YL;grind
theorem fq{l:List D2}(h:Va l){x:D2}(hx:(x.2.1==0)=false→1≤x.1∧x.1≤50∧1≤x.2.1∧x.2.1≤1000∧0≤x.2.2∧x.2.2≤x.2.1)(hl:(x.2.1==0)=true∨(∃z∈l,z.1=x.1)∨l.length<8):Va (fp x l):=by
 obtain⟨h1,h2,h3⟩:=h;have hf:(l.filter fun y=>y.1 != x.1).length≤l.length:=ABs _ _;unfold fp;cases hz:(x.2.1==0)with
 |true=>
  rw[ABU];refine⟨j6 h1 (.inl rfl),fun z hm=>?_,by rw[g9 h1];simp only[List.length_nil];omega⟩;rcases hX hm with hm|hm
  all_goals grind
 |false=>
  rw[ABV];refine⟨j6 h1 (.inr rfl),fun z hm=>?_,?_⟩
  ·rcases hX hm with hm|hm
   all_goals grind
  ·rw[g9 h1,ABb];rcases hl with hl|⟨z,hzm,e⟩|hl
   ·grind
   ·have:(l.filter fun y=>y.1 != x.1).length<l.length:=by rw[List.length_filter_lt_length_iff_exists];exact⟨z,hzm,by simp[e]⟩
    omega
   ·omega
theorem gT(l:List D2)(h:Va l)(x0 x1 x2:Int)(n:Nat)(hn:PD≤n):Tx n l x0 x1 x2=some (fp (x0,x1,x2) l):=by
 have h8:=h.2.2
 have hc:=PQ (σ:=List D2×Bool) (Qo l x0 x1 x2) (fun i s=>(s.1,s.2,(i:Int))) l
  (fun r s=>(s.1++(bif s.2 then r.filter (fun y=>y.1 != x0)else bif r.any (fun y=>decide (y.1≥x0))then YL (x0,x1,x2) r [(x0,x1,x2)]else r),s.2||r.any (fun y=>decide (y.1≥x0)),(l.length:Int)))
  (fun i s=>s.1.length≤i+1∧(s.2=false→s.1.length≤i))
  (fun s hs=>by
   unfold Qo;grind)
  (fun i y r s h1 h2 h3 h4 h5=>by
   left;have hy:l[i]=y:=by rw[AAF h1]at h2;exact Option.some.inj h2
   obtain⟨out,put⟩:=s;dsimp only at h5 ⊢;have hpw:(y::r).Pairwise (fun a b=>a.1<b.1):=h3▸h.1.drop;obtain⟨hyr,hpr⟩:=ABm.1 hpw;unfold Qo;dsimp only;rw[show decide ((i:Int)<(l.length:Int))=true by grind,ABU,O6 h1,hy,O5 h1 (show l.length≤9223372036854775807 by omega)];simp only[ABT];have r1:∀(o:List D2)(z:D2),o.length≤i+2→decide (o.length+[z].length≤Dh)=true:=fun o z ho=>R3 (by omega);cases put with
   |true=>
    simp only[ABc,ABV,ABU,ABT,Bool.true_or];by_cases he:y.1=x0
    ·rw[show(y.1 != x0)=false by simp[he]];simp only[ABV,ABT];exact⟨(out,true),rfl,⟨by grind,fun e=>by cases e⟩,by grind⟩
    ·have hb:(y.1 != x0)=true:=by simpa using he
     rw[hb,ABU,r1 out _ (by omega),ABU,ABT];exact⟨(out++[y],true),rfl,⟨by grind,fun e=>by cases e⟩,by grind⟩
   |false=>
    have h5i:=h5.2 rfl;simp only[ABp,ABU,ABV,ABT,Bool.false_or];by_cases uh:y.1≥x0
    ·have hany:(y::r).any (fun y=>decide (y.1≥x0))=true:=by grind
     have xL:=j5 (x:=(x0,x1,x2)) (l:=y::r) (fun z hz=>by
      grind) hpw [(x0,x1,x2)]
     rw[ABZ uh,ABU,r1 out _ (by omega),ABU,ABT,hany,xL];dsimp only;by_cases he:y.1=x0
     ·rw[show(y.1 != x0)=false by simp[he]];simp only[ABV,ABT];exact⟨(out++[(x0,x1,x2)],true),rfl,⟨by grind,fun e=>by cases e⟩,by grind⟩
     ·have hb:(y.1 != x0)=true:=by simpa using he
      rw[hb,ABU,r1 (out++[_]) _ (by grind),ABU,ABT];exact⟨(out++[(x0,x1,x2)]++[y],true),rfl,⟨by grind,fun e=>by cases e⟩,by grind⟩
    ·have hany:(y::r).any (fun y=>decide (y.1≥x0))=r.any (fun y=>decide (y.1≥x0)):=by rw[List.any_cons,ABd uh,Bool.false_or]
     have tX:y.1<x0:=by clear hn;omega
     have hb:(y.1 != x0)=true:=by rw[ABz];clear hn;omega
     rw[ABd uh,ABV,ABT,hany,j4 (x:=(x0,x1,x2)) tX];dsimp only;rw[hb,ABU,r1 out _ (by clear hn;omega),ABU,ABT];refine⟨(out++[y],false),rfl,⟨by show(out++[y]).length≤i+1+1;rw[AA2,ABb];clear hn;omega,fun _=>by show(out++[y]).length≤i+1;rw[AA2,ABb];clear hn;omega⟩,?_⟩;grind)
  n (by unfold PD at hn;omega) (([]:List D2),x1==0) ⟨by simp,fun _=>by simp⟩
 unfold Tx fp;rw[show((0:Nat):Int)=0 from rfl]at hc;dsimp only at hc ⊢;rw[hc,ABT];dsimp only;cases v8:(x1==0)with
 |true=>
  simp only[ABU,Bool.true_or,ABc,ABV,ABT,AA4];rw[eF (x:=(x0,x1,x2)) h.1]
 |false=>
  simp only[ABV,Bool.false_or,AA4];cases ha:l.any (fun y=>decide (y.1≥x0))with
  |true=>rfl
  |false=>
   simp only[ABV,ABp,ABU]
   rw[show decide (l.length+[(x0,x1,x2)].length≤Dh)=true from R3 (by omega),ABU,ABT,lD (x:=(x0,x1,x2)) fun y hy=>by
    rw[←ABj]at ha;have:¬y.1≥x0:=fun q=>ha (AA6.2 ⟨y,hy,ABZ q⟩);show y.1<x0;clear hn;omega]
def lL(a:List PF)(PJ:Int)(x:D2):List PF:=XZ a PJ (fp x)
theorem Yg{a:List PF}(h:PO a){i:Nat}(hi:i<a.length)(x0 x1 x2:Int)(n:Nat)(hn:PD≤n):Rv n a (i:Int) x0 x1 x2=some (lL a a[i].1 (x0,x1,x2)):=by
 have v7:=(h.2.2 _ (ABW hi)).2.2;unfold Rv;rw[PL a h.sm n hn,ABT,PA hi,ABU];have hg:a[(i:Int).toNat]?=some a[i]:=by simp[hi]
 rw[hg,ABT,ABT,gT a[i].2.2 v7 x0 x1 x2 n hn,ABT,ABU,ABX];unfold lL;rw[←ZC h hi];congr 1;apply ABv;grind
theorem Z7(a:List PF)(PJ:Int)(f:List D2→List D2):WI a (XZ a PJ f):=by
 intro id;unfold XT XZ;rw[List.find?_map]
 have:((fun p:PF=>p.1==id) ∘ fun p:PF=>bif p.1==PJ then(p.1,p.2.1,f p.2.2)else p)=fun p:PF=>p.1==id:=funext fun p=>by grind
 rw[this,Option.map_map];cases a.find? fun p=>p.1==id with
 |none=>rfl
 |some p=>
  grind
theorem bV{a:List PF}{PJ:Int}{f:List D2→List D2}{p:PF}(h:p∈XZ a PJ f):∃q∈a,p.2.1=q.2.1:=by unfold XZ at h;grind
def eU(a:List PF)(PJ k m:Int):List PF×Int:=if Py a PJ k m≠0 then(a,Py a PJ k m)else if(SE a PJ k).2.2<m then(a,3)else(lL a PJ (k,(SE a PJ k).2.1-m,(SE a PJ k).2.2-m),0)
theorem iP{a:List PF}(h:PO a)(PJ k m:Int):PO (eU a PJ k m).1∧WI a (eU a PJ k m).1∧∀p∈(eU a PJ k m).1,∃q∈a,p.2.1=q.2.1:=by
 have same:PO a∧WI a a∧∀p∈a,∃q∈a,p.2.1=q.2.1:=⟨h,fun _=>rfl,fun p hp=>⟨p,hp,rfl⟩⟩;unfold eU;split
 ·exact same
 ·rename_i hc;split
  ·exact same
  ·rename_i tX;obtain⟨_,hk,hm,i,hi,e1,e2,e3⟩:=Qd (by omega:Py a PJ k m=0);refine⟨?_,Z7 a PJ _,fun p hp=>bV hp⟩;refine ca h PJ _ fun p hp ep=>?_;have:p=a[i]:=XU h hi hp (ep.trans e2.symm);subst this;have v7:=(h.2.2 _ (ABW hi)).2.2;obtain⟨b1,b2,b3,b4,b5⟩:=T1 v7 k;rw[e3]at tX ⊢
   have hz:∃z∈a[i].2.2,z.1=k:=by refine AAn fun q=>?_;rw[Tr fun x hx e=>q ⟨x,hx,e⟩]at tX;dsimp only at tX;omega
   refine fq v7 (fun tj=>?_) (.inr (.inl hz));grind
theorem lT{a:List PF}(h:PU a)(PJ k m:Int):PU (eU a PJ k m).1:=by
 by_cases hc:Py a PJ k m=0
 ·exact(iP (Qd hc).1 PJ k m).1.sm
 ·unfold eU;grind
theorem aH(a:List PF)(hs:PU a)(PJ k m:Int)(n:Nat)(hn:PD≤n):V1 n a PJ k m=some (eU a PJ k m):=by
 unfold V1 eU;rw[Xk a hs PJ k m n hn,ABT];by_cases hc:Py a PJ k m=0
 ·rw[AAM (by rw[hc];simp),AAM (by rw[hc];simp)];obtain⟨h,hk,hm,i,hi,e1,e2,e3⟩:=Qd hc;have v7:=(h.2.2 _ (ABW hi)).2.2;obtain⟨b1,b2,b3,b4,b5⟩:=T1 v7 k;dsimp only;rw[show((0:Int) != 0)=false from rfl,ABV,e3];by_cases tX:(PR a[i].2.2 k).2.2<m
  ·rw[ABZ tX,AAK tX,ABU,PL a hs n hn];rfl
  ·rw[ABd tX,AAM tX,ABV,PC (n:=(PR a[i].2.2 k).2.1-m) (by omega) (by omega),PC (n:=(PR a[i].2.2 k).2.2-m) (by omega) (by omega),e1,b5];rw[Yg h hi _ _ _ n hn,e2];rfl
 ·rw[AAK hc,AAK hc];dsimp only;rw[show(Py a PJ k m != 0)=true by grind,ABU,PL a hs n hn];rfl
def ZI(s:List PF)(p:D2):List PF×Int:=eU s p.1 p.2.1 p.2.2
theorem aG(a:List PF)(ha:PU a)(ps:List D2)(hp:ps.length≤1048576)(n:Nat)(hn:PD≤n):Rl n a ps 3=some (Rw ZI a ps):=by
 have h1:=Yb (P1 n a ps 3) ZI a ps (fun s p hs=>lT hs _ _ _) ha (fun i s hi hs=>by
  have hd:decide ((i:Int)<(ps.length:Int))=true:=by simpa using hi
  simp only[P1,hd,ABU,O6 hi,ABT,aH s hs _ _ _ n hn,PL a ha n hn,O5 hi (show ps.length≤9223372036854775807 by clear hn;omega)];rw[show((3:Int)==1)=false from rfl,show((3:Int)==2)=false from rfl];show(bif(ZI s ps[i]).2 != 0 then _ else _)=_;cases((ZI s ps[i]).2 != 0)<;>rfl) (fun s=>by simp[P1]) n (by unfold PD at hn;omega)
 unfold Rl;rw[PL a ha n hn,ABT,h1,ABT];unfold Rw;grind
theorem ZJ{a:List PF}(h:PO a)(ps:List D2):PO (Rw ZI a ps).1∧WI a (Rw ZI a ps).1∧∀p∈(Rw ZI a ps).1,∃q∈a,p.2.1=q.2.1:=
 gw (P:=fun s=>PO s∧WI a s∧∀p∈s,∃q∈a,p.2.1=q.2.1) (fun s p hs=>by
  obtain⟨h1,h2,h3⟩:=hs;obtain⟨g1,g2,g3⟩:=iP h1 p.1 p.2.1 p.2.2;refine⟨g1,fun id=>(g2 id).trans (h2 id),fun q hq=>?_⟩;obtain⟨r,hr,e⟩:=g3 q hq;grind) ⟨h,fun _=>rfl,fun p hp=>⟨p,hp,rfl⟩⟩ ps
def Pa(l:List Pf)(t:PW):List D2:=match P9 l t.1 with
 |some o=>o.2.2.2.1.filter fun p=>p.1==t.2.1
 |none=>[]
def W8(t:PW)(s:Int):PW:=(t.1,t.2.1,t.2.2.1,s)
def jJ(ou:List Int)(ps:List D2):List Int:=ps.foldl (fun ou p=>if ou.getD p.2.1.toNat 0+p.2.2≤1000000 then ou.set p.2.1.toNat (ou.getD p.2.1.toNat 0+p.2.2)else ou) ou
def Q6(a:List PF)(ou:List Int)(l:List Pf)(crew:List Pc)(t:PW):List PF×List Int×List Pc×Option PW:=
 if t.2.2.2=2 then(a,ou,WE crew t.2.2.1 (fun r=>(r.1,r.2.1,TB a l (W8 t 3),true,0)),some (W8 t 3))
 else if t.2.2.2=3 then
  ((Rw ZI a (Pa l t)).1,(bif(Rw ZI a (Pa l t)).2 then jJ ou (Pa l t)else ou),WE crew t.2.2.1 (fun r=>(r.1,r.2.1,TB (Rw ZI a (Pa l t)).1 l (W8 t 4),r.2.2.2.1,0)),some (W8 t 4))
 else(a,ou,WE crew t.2.2.1 (fun r=>(r.1,r.2.1, -1,false,0)),none)
def eK:Option PW→List PW
 |some t=>[t]
 |none=>[]
theorem DI.ij{w h:Int}{c:List Int}{a:List PF}{nx:Int}{l:List Pf}{crew:List Pc}{x y:List PW}{t:PW}(d:DI w h c a nx l crew (x++t::y))(ht:t.2.2.2≠1)(ou:List Int):
  DI w h c (Q6 a ou l crew t).1 nx l (Q6 a ou l crew t).2.2.1 (x++(eK (Q6 a ou l crew t).2.2.2++y)):=by
 have hT:=d.tk t (AAO _ AAe);unfold Q6;by_cases h2:t.2.2.2=2
 ·rw[AAK h2];exact d.jt ht d.st (fun _=>rfl) d.hm (s:=3) ⟨by omega,by omega⟩ (fun r=>⟨rfl,rfl⟩) fun r hr=>⟨rfl,rfl,by grind,by grind⟩
 ·rw[AAM h2];by_cases h3:t.2.2.2=3
  ·rw[AAK h3];obtain⟨g1,g2,g3⟩:=ZJ d.st (Pa l t);refine d.jt ht g1 g2 (fun p hp=>?_) (s:=4) ⟨by omega,by omega⟩ (fun r=>⟨rfl,rfl⟩) fun r hr=>⟨rfl,?_,by grind,by grind⟩
   ·obtain⟨q,hq,e⟩:=g3 p hp;rw[e];exact d.hm q hq
   ·obtain⟨r',q1,_,q3⟩:=hT.cg ht;grind
  ·rw[AAM h3];exact d.gone ht (fun r=>⟨rfl,rfl⟩) fun r=>⟨rfl,by grind,by grind⟩
abbrev lZ:=List PF×List Int×List Pc×List PW×List Int
def X6(crew:List Pc)(t:PW):Bool := !(t.2.2.2==1)&&match TH crew t.2.2.1 with
 |some r=>r.2.1==r.2.2.1
 |none=>false
def Qk(l:List Pf)(t:PW)(s:lZ):lZ:=
 if X6 s.2.2.1 t=true then
  ((Q6 s.1 s.2.1 l s.2.2.1 t).1,(Q6 s.1 s.2.1 l s.2.2.1 t).2.1,(Q6 s.1 s.2.1 l s.2.2.1 t).2.2.1,s.2.2.2.1++eK (Q6 s.1 s.2.1 l s.2.2.1 t).2.2.2,match(Q6 s.1 s.2.1 l s.2.2.1 t).2.2.2 with|some _=>s.2.2.2.2|none=>s.2.2.2.2++[t.1])
 else(s.1,s.2.1,s.2.2.1,s.2.2.2.1++[t],s.2.2.2.2)
def QJ(l:List Pf)(ts:List PW)(s:lZ):lZ:=ts.foldl (fun s t=>Qk l t s) s
theorem DI.QJ{w h:Int}{c:List Int}{nx:Int}{l:List Pf}:∀(ts:List PW)(s:lZ),DI w h c s.1 nx l s.2.2.1 (s.2.2.2.1++ts)→DI w h c (QJ l ts s).1 nx l (QJ l ts s).2.2.1 (QJ l ts s).2.2.2.1
 | [],s,d=>by rw[ABy]at d;exact d
 |t::ts,s,d=>by
  have hstep:DI w h c (Qk l t s).1 nx l (Qk l t s).2.2.1 ((Qk l t s).2.2.2.1++ts):=by
   unfold Qk;by_cases hg:X6 s.2.2.1 t=true
   ·rw[AAK hg]
    have ht:t.2.2.2≠1:=fun e=>by unfold X6 at hg;rw[show(t.2.2.2==1)=true from AAS.2 e]at hg;simp at hg
    have:=d.ij ht s.2.1;grind
   ·grind
  exact DI.QJ ts (Qk l t s) hstep
def XC(l:List Pf)(id:Int):Bool:=match P9 l id with
 |some o=>o.2.2.2.2==1
 |none=>false
def ky(ts:List PW)(ended:List Int)(l:List Pf):List Pf:=ended.foldl (fun l id=>bif(ts.any fun t=>t.1==id) || !XC l id then l else Rm l id 2) l
theorem DI.fin{w h:Int}{c:List Int}{a:List PF}{nx:Int}{crew:List Pc}{ts:List PW}:∀(ended:List Int)(l:List Pf),DI w h c a nx l crew ts→DI w h c a nx (ky ts ended l) crew ts
 | [],_,d=>d
 |id::ended,l,d=>by
  have hstep:DI w h c a nx (bif(ts.any fun t=>t.1==id) || !XC l id then l else Rm l id 2) crew ts:=by
   cases hb:(ts.any fun t=>t.1==id) || !XC l id with
   |true=>exact d
   |false=>
    rw[ABV];have xN:=(AAh.1 hb).1;refine d.Dq d.st (fun _=>rfl) d.hm ⟨by omega,by omega⟩ (List.Sublist.refl ts) fun t ht e=>?_;grind
  exact DI.fin ended _ hstep
def Q5(a:List PF)(ou:List Int)(l:List Pf)(crew:List Pc)(ts:List PW):List PF×List Int×List Pf×List Pc×List PW:=
 ((QJ l ts (a,ou,crew,[],[])).1,(QJ l ts (a,ou,crew,[],[])).2.1,ky (QJ l ts (a,ou,crew,[],[])).2.2.2.1 (QJ l ts (a,ou,crew,[],[])).2.2.2.2 l,(QJ l ts (a,ou,crew,[],[])).2.2.1,(QJ l ts (a,ou,crew,[],[])).2.2.2.1)
theorem DI.Q5{w h:Int}{c:List Int}{a:List PF}{nx:Int}{l:List Pf}{crew:List Pc}{ts:List PW}(d:DI w h c a nx l crew ts)(ou:List Int):DI w h c (Q5 a ou l crew ts).1 nx (Q5 a ou l crew ts).2.2.1 (Q5 a ou l crew ts).2.2.2.1 (Q5 a ou l crew ts).2.2.2.2:=
 DI.fin _ l (DI.QJ ts (a,ou,crew,[],[]) d)
theorem Ws(crew:List Pc)(hl:crew.length≤1048576)(id:Int)(n:Nat)(hn:PD≤n):(Sw n crew id=some (-1)∧∀r∈crew,r.1≠id)∨∃k,∃h:k<crew.length,crew[k].1=id∧Sw n crew id=some (k:Int):=by
 have hs:∀(m:Nat)(x:Pc),m<crew.length→crew[m]?=some x→Qw crew id (m:Int)=some (bif x.1==id then .inr (.inr (m:Int))else .inl ((m+1:Nat):Int)):=fun m x h1 h2=>by
  have hx:crew[m]=x:=by rw[AAF h1]at h2;exact Option.some.inj h2
  simp only[Qw,O6 h1,hx,ABT,O5 h1 (show crew.length≤9223372036854775807 by clear hn;omega)];grind
 unfold Sw;by_cases h:∃r∈crew,r.1=id
 ·right;obtain⟨r,hr,e⟩:=h;obtain⟨j,hj,rfl⟩:=ABY.1 hr;obtain⟨i,hi,hP,e2⟩:=ew (Qw crew id) crew (fun x=>x.1==id) hs j hj (AAS.2 e) n (by unfold PD at hn;omega);grind
 ·left;refine⟨?_,fun r hr e=>h ⟨r,hr,e⟩⟩;rcases dW (Qw crew id) crew (fun x=>x.1==id) hs (by simp[Qw]) n (by unfold PD at hn;omega)with e|⟨i,hi,hP,e⟩
  all_goals grind
theorem Xc{t:PW}(h:Pv t=true):(1≤t.2.2.2∧t.2.2.2≤4)∧(t.2.2.1=0↔t.2.2.2=1):=by unfold Pv at h;grind
theorem au(w h:Int)(c:List Int){a:List PF}(ha:PO a){nx:Int}{l:List Pf}(hb:Vj nx l)(hsm:QZ (nx,l)){crew:List Pc}(hc:CW c crew)(ts:List PW)(st ou:List Int)(nw:Int){t:PW}(hg:Pv t=true)(n:Nat)(hn:PD≤n):
  ∃b,SX n w h c a nx l crew ts st ou nw t.1 t.2.1 t.2.2.1 t.2.2.2=some b∧(b=true↔Ts a l crew t):=by
 have hal:=ha.1;have zG:=hc.aX;obtain⟨⟨s1,s4⟩,hrz⟩:=Xc hg;cases ho:P9 l t.1 with
 |none=>
  have hm:∀x∈l,x.1≠t.1:=fun x hx e=>by unfold P9 at ho;grind
  refine⟨false,?_,(fun e=>by cases e),fun hT=>?_⟩
  ·unfold SX;rw[Vt nx l hsm.1 t.1 hm n hn];rfl
  ·obtain⟨o,e,_⟩:=hT.ord;grind
 |some o=>
  obtain⟨wa,hoe⟩:=QK ho;obtain⟨i,hi,rfl⟩:=ABY.1 wa;have u3:=YQ nx l hsm.1 hb.2.2.1 i hi n hn;rw[hoe]at u3;have wC:l[i].2.2.2.1.length≤1048576:=(hsm.2 _ wa).2
  have hplen:(SZ l[i].2.2.2.1).length≤1048576:=by have:=XV l[i].2.2.2.1 [];unfold SZ;simp only[List.length_nil]at this;clear hn;omega
  have hpo:=YA l[i].2.2.2.1 wC n hn;have xL:Qm n (SZ l[i].2.2.2.1) t.2.1=some ((SZ l[i].2.2.2.1).any fun x=>x==t.2.1):=by rw[XK];exact P5 _ hplen _ n hn
  have hpx:=RS a (by omega) t.2.1 n hn;unfold SX;rw[u3,ABT,show decide ((i:Int)<0)=false by grind,ABV];simp only[O6 hi,ABT,cE,hpx.1,hpo,xL];by_cases v7:l[i].2.2.2.2=1
  case neg=>
   rw[show(l[i].2.2.2.2 != 1)=true from ABz.2 v7];refine⟨false,rfl,(fun e=>by cases e),fun hT=>?_⟩;obtain⟨o2,e,e2,_⟩:=hT.ord;grind
  rw[show(l[i].2.2.2.2 != 1)=false by rw[v7];rfl,ABV];rcases hpx.2 with⟨e,xN⟩|⟨j,hj,e,ej⟩
  ·rw[e];refine⟨false,rfl,(fun e=>by cases e),fun hT=>?_⟩;obtain⟨q,hq⟩:=hT.PJ;exact(xN q (Sy hq).1 (Sy hq).2).elim
  rw[e,show decide ((j:Int)<0)=false by grind,ABV,ABT];cases hany:(SZ l[i].2.2.2.1).any (fun x=>x==t.2.1)with
  |false=>
   refine⟨false,rfl,(fun e=>by cases e),fun hT=>?_⟩;obtain⟨o2,e,_,p,hp,ep⟩:=hT.ord;rw[ho]at e;injection e with e
   rw[←e]at hp;rw[←ABj]at hany;exact(hany (AA6.2 ⟨_,XW.2 ⟨p,hp,rfl⟩,AAS.2 ep⟩)).elim
  |true=>
   obtain⟨y,hy,ey⟩:=AA6.1 hany;obtain⟨p,hp,ep⟩:=XW.1 hy;have hord:∃o,P9 l t.1=some o∧o.2.2.2.2=1∧∃p∈o.2.2.2.1,p.1=t.2.1:=⟨_,ho,v7,p,hp,ep.trans (AAS.1 ey)⟩;have hpod:∃q,XT a t.2.1=some q:=Xn ⟨_,ABW hj,ej⟩;rw[ABc,ABV];by_cases hr0:t.2.2.1=0
   ·rw[show(t.2.2.1==0)=true from AAS.2 hr0,ABU];exact⟨true,rfl,fun _=>⟨hord,hpod,fun e=>(e (hrz.1 hr0)).elim⟩,fun _=>rfl⟩
   ·rw[show(t.2.2.1==0)=false from ABa.2 hr0,ABV];have hst1:t.2.2.2≠1:=fun e=>hr0 (hrz.2 e)
    have hgoal:Wn n w h c a nx l crew ts st ou nw t.1 t.2.1 t.2.2.1 t.2.2.2=some (TB a l t):=by
     unfold Wn;by_cases h3:t.2.2.2=3
     ·rw[show(t.2.2.2==3)=true from AAS.2 h3,ABU,u3,ABT,O6 hi,ABT];unfold TB;grind
     ·rw[show(t.2.2.2==3)=false from ABa.2 h3,ABV,cE,hpx.1,e,ABT,O6 hj,ABT,Zr ha h3 hj ej]
    rcases Ws crew (by omega) t.2.2.1 n hn with⟨e1,xN⟩|⟨k,hk,ek,e1⟩
    ·rw[e1];refine⟨false,rfl,(fun e=>by cases e),fun hT=>?_⟩;obtain⟨r,q1,_⟩:=hT.cg hst1;exact(xN r (Pr q1).1 (Pr q1).2).elim
    ·have vQ:=XX hc.ids hk;rw[ek]at vQ;rw[e1,ABT,show decide ((k:Int)≥0)=true by rw[AAb];clear hn;omega,ABU];simp only[O6 hk,ABT,hgoal]
     have hT:Ts a l crew t↔crew[k].2.2.1=TB a l t∧crew[k].2.2.2.1=decide (2<t.2.2.2):=by
      constructor
      ·intro hT;obtain⟨r,q1,q2,q3⟩:=hT.cg hst1;rw[vQ]at q1;injection q1 with q1
       rw[q1];exact⟨q2,q3⟩
      ·rintro ⟨q2,q3⟩
       exact⟨hord,hpod,fun _=>⟨_,vQ,q2,q3⟩⟩
     grind
theorem DI.new{w h:Int}{c:List Int}{a:List PF}(uU:Yr w h c a=true):DI w h c a 1 [] (Rn (Po c) (min (Po c).length 20)) []:=by obtain⟨hf,hk,h0,hho⟩:=aY uU;refine {fl:=hf,st:=Pk.1 hk,hm:=fun p hp=>?_,bk:=⟨⟨by omega,by omega⟩,by simp,List.Pairwise.nil,(fun o ho=>by cases ho)⟩,KN:=(fun o ho=>by cases ho),aw:=(fun o ho=>by cases ho),dk:=(fun o ho=>by cases ho),cw:=mS c,XA:=Qa.2 ⟨by simp,(fun x hx=>by cases hx),List.Pairwise.nil⟩,tk:=(fun t ht=>by cases ht) };obtain⟨h1,h2⟩:=hho p hp;unfold QC;grind
def Tk(l:List Int):Prop:=l.length=51∧(∀x∈l,0≤x∧x≤1000000)∧l[0]?=some 0
def aU(l:List Int)(i:Nat):Bool:=match l[i]? with
 |some x=>Ps x 0 1000000&&(!((i:Int)==0)||x==0)
 |none=>false
theorem Sx{a b c:Int}:Ps a b c=true↔b≤a∧a≤c:=by unfold Ps;grind
theorem bG{l:List Int}:((List.range l.length).all (aU l)&&((l.length:Int)==51))=true↔Tk l:=by
 rw[AAG,AAU,AAS]
 have u3:∀i (hi:i<l.length),aU l i=true↔(0≤l[i]∧l[i]≤1000000)∧(i=0→l[i]=0):=fun i hi=>by unfold aU;rw[AAF hi];simp only[AAG,Sx,AAa,AAT,ABa,AAS];omega
 constructor
 ·rintro ⟨h1,h2⟩
  have h51:l.length=51:=by omega
  have hi:=fun i (hi:i<l.length)=>(u3 i hi).1 (h1 i (AAR.2 hi));refine⟨h51,fun x hx=>?_,?_⟩
  ·obtain⟨i,hi2,rfl⟩:=ABY.1 hx;exact(hi i hi2).1
  grind
 ·rintro ⟨h1,h2,h3⟩
  grind
theorem Wm(l:List Int)(hl:l.length≤1048576)(n:Nat)(hn:PD≤n):TF n l=some ((List.range l.length).all (aU l)&&((l.length:Int)==51)):=by
 have h1:=P0 (Su l) (fun k=>(k:Int)) l.length (aU l) (fun i hi=>by
  unfold Su aU;dsimp only;rw[show decide ((i:Int)<(l.length:Int))=true by rw[AAb];clear hn;omega,AAF hi];simp only[ABU,O6 hi,ABT,Uf,P8,O5 hi (show l.length≤9223372036854775807 by clear hn;omega),bne];cases Ps l[i] 0 1000000<;>cases((i:Int)==0)<;>cases(l[i]==0)<;>rfl) (by unfold Su;simp) n (by unfold PD at hn;omega)
 rw[show((0:Nat):Int)=0 from rfl]at h1;unfold TF;grind
structure mH(w h:Int)(c:List Int)(a:List PF)(nx:Int)(l:List Pf)(crew:List Pc)(ts:List PW)(st ou:List Int)(nw:Int):Prop where
 fl:PS w h c=true
 oh:PO a
 bk:Vj nx l
 cw:CW c crew
 XA:TP ts
 c1:Tk st
 c2:Tk ou
 now:0≤nw∧nw≤1000000
 tk:∀t∈ts,Ts a l crew t
theorem XL(w h:Int)(c:List Int)(hc:c.length≤1048576)(a:List PF)(ha:PU a)(nx:Int)(l:List Pf)(hl:QZ (nx,l))(crew:List Pc)(hcr:crew.length≤1048576)(ts:List PW)(hts:ts.length≤1048576)(st ou:List Int)(v7:st.length≤1048576)(hou:ou.length≤1048576)(nw:Int)(n:Nat)(hn:PD≤n):
  ∃b,Sp n w h c a nx l crew ts st ou nw=some b∧(b=true↔mH w h c a nx l crew ts st ou nw):=by
 obtain⟨bb,eb,ib⟩:=Vf hl n hn;unfold Sp;rw[X8,Pp w h c hc n hn,QL a ha n hn,eb,UB w h c hc crew hcr n hn,ao ts hts n hn,Wm st v7 n hn,Wm ou hou n hn];simp only[ABT,Uf,P8];have no:∀ {P:Prop},¬P→∃b,(some false:Option Bool)=some b∧(b=true↔P):=fun hp=>⟨false,rfl,(fun e=>by cases e),fun q=>(hp q).elim⟩;cases e1:PS w h c with
 |false=>exact no fun d=>by rw[d.fl]at e1;cases e1
 |true=>
 cases e2:Pl a with
 |false=>exact no fun d=>by rw[Pk.2 d.oh]at e2;cases e2
 |true=>
 cases e3:bb with
 |false=>exact no fun d=>by rw[ib.2 d.bk]at e3;cases e3
 |true=>
 cases e4:SQ w h c crew with
 |false=>exact no fun d=>by rw[Uh.2 ⟨d.fl,d.cw⟩]at e4;cases e4
 |true=>
 cases e5:SO ts with
 |false=>exact no fun d=>by rw[VZ.2 d.XA]at e5;cases e5
 |true=>
 cases e6:((List.range st.length).all (aU st)&&((st.length:Int)==51))with
 |false=>exact no fun d=>by rw[bG.2 d.c1]at e6;cases e6
 |true=>
 cases e7:((List.range ou.length).all (aU ou)&&((ou.length:Int)==51))with
 |false=>exact no fun d=>by rw[bG.2 d.c2]at e7;cases e7
 |true=>
 cases e8:Ps nw 0 1000000 with
 |false=>exact no fun d=>by rw[Sx.2 d.now]at e8;cases e8
 |true=>
 have hS:=Pk.1 e2;have hB:=ib.1 e3;have hC:=(Uh.1 e4).2;have hT:=VZ.1 e5;have hgood:=(Qa.1 hT).2.1;simp only[ABc,ABV,ABT]
 let val:Nat→Bool:=fun i=>match ts[i]? with
  |some t=>(SX n w h c a nx l crew ts st ou nw t.1 t.2.1 t.2.2.1 t.2.2.2).getD false
  |none=>false
 have wM:∀i (hi:i<ts.length),SX n w h c a nx l crew ts st ou nw ts[i].1 ts[i].2.1 ts[i].2.2.1 ts[i].2.2.2=some (val i)∧(val i=true↔Ts a l crew ts[i]):=fun i hi=>by obtain⟨b,e,ib⟩:=au w h c hS hB hl hC ts st ou nw (hgood _ (ABW hi)) n hn;grind
 have h1:=P0 (TS n w h c a nx l crew ts st ou nw) (fun k=>(k:Int)) ts.length val (fun i hi=>by
  unfold TS;rw[show decide ((i:Int)<(ts.length:Int))=true by rw[AAb];clear hn;omega,ABU,O6 hi,ABT,(wM i hi).1,ABT,O5 hi (show ts.length≤9223372036854775807 by clear hn;omega)];grind) (by unfold TS;simp) n (by unfold PD at hn;omega)
 rw[show((0:Nat):Int)=0 from rfl]at h1;rw[h1];refine⟨(List.range ts.length).all val,by grind,?_⟩;rw[AAU];constructor
 ·intro q;refine⟨e1,hS,hB,hC,hT,bG.1 e6,bG.1 e7,Sx.1 e8,fun t ht=>?_⟩;obtain⟨i,hi,rfl⟩:=ABY.1 ht;grind
 ·intro d i hi;have hi:=AAR.1 hi;exact(wM i hi).2.2 (d.tk _ (ABW hi))
def T3(a b:List PF):Prop:=PO b∧WI a b∧∀p∈b,∃q∈a,p.2.1=q.2.1
theorem T3.refl{a:List PF}(h:PO a):T3 a a:=⟨h,fun _=>rfl,fun p hp=>⟨p,hp,rfl⟩⟩
theorem T3.trans{a b d:List PF}(h:T3 a b)(g:T3 b d):T3 a d:=⟨g.1,fun id=>(g.2.1 id).trans (h.2.1 id),fun p hp=>by
 obtain⟨q,hq,e⟩:=g.2.2 p hp;obtain⟨r,hr,e2⟩:=h.2.2 q hq;grind⟩
theorem jh{a:List PF}{PJ k d:Int}(h:PO (bM a PJ k d)):T3 a (bM a PJ k d):=⟨h,Z7 a PJ _,fun p hp=>bV hp⟩
theorem lO{a:List PF}(h:PO a)(PJ k m:Int):T3 a (eL a PJ k m).1:=by
 have ho:=iG h PJ k m;unfold eL at ho ⊢;split
 ·exact T3.refl h
 ·rename_i hc;rw[AAM hc]at ho;split
  ·exact T3.refl h
  ·rename_i tX;rw[AAM tX]at ho;exact jh ho
theorem ku{f:List PF→D2→List PF×Int}(hf:∀s p,PO s→T3 s (f s p).1){a:List PF}(h:PO a)(ps:List D2):T3 a (Rw f a ps).1:=
 gw (P:=fun s=>T3 a s) (fun s p hs=>hs.trans (hf s p hs.1)) (T3.refl h) ps
theorem jQ{a:List PF}(h:PO a)(ps:List D2):T3 a (Rw Z5 a ps).1:=ku (fun s p hs=>lO hs _ _ _) h ps
def eS(a:List PF)(PJ:Int):Nat:=match a[(R1 a PJ).toNat]? with
 |some p=>p.2.2.length
 |none=>0
def Ym(a:List PF)(PJ k m:Int):List PF×Int:=if Py a PJ k m≠0 then(a,Py a PJ k m)
 else if(SE a PJ k).2.1+m>1000∨((SE a PJ k).2.1=0∧eS a PJ=8)then(a,4)
 else(lL a PJ (k,(SE a PJ k).2.1+m,(SE a PJ k).2.2),0)
theorem lK{a:List PF}(h:PO a)(PJ k m:Int):T3 a (Ym a PJ k m).1:=by
 unfold Ym;split
 ·exact T3.refl h
 ·rename_i hc;split
  ·exact T3.refl h
  ·rename_i xN;obtain⟨_,hk,hm,i,hi,e1,e2,e3⟩:=Qd (by omega:Py a PJ k m=0);refine⟨?_,Z7 a PJ _,fun p hp=>bV hp⟩;refine ca h PJ _ fun p hp ep=>?_;have:p=a[i]:=XU h hi hp (ep.trans e2.symm);subst this;have v7:=(h.2.2 _ (ABW hi)).2.2;obtain⟨b1,b2,b3,b4,b5⟩:=T1 v7 k;unfold eS at xN;rw[e1,ABX,AAF hi,e3]at xN;rw[e3];dsimp only at xN;refine fq v7 (fun tj=>?_) ?_
   ·grind
   ·by_cases hz:∃z∈a[i].2.2,z.1=k
    ·grind
    ·have h0:=Tr (l:=a[i].2.2) (k:=k) fun x hx e=>hz ⟨x,hx,e⟩;rw[h0]at xN;dsimp only at xN;have h8:=v7.2.2;omega
theorem gY{l:List Pf}{id:Int}{o:Pf}(h:P9 l id=some o)(hs:o.2.2.2.2=1)(hp:l.Pairwise fun a b=>a.1<b.1):P9 (Qs l) id=some o:=by
 obtain⟨hm,e⟩:=QK h
 have hmo:o∈Qs l:=by unfold Qs;exact ABq.2 ⟨hm,AAS.2 hs⟩
 cases hq:P9 (Qs l) id with
 |none=>
  unfold P9 at hq;grind
 |some q=>
  obtain⟨h1,h2⟩:=QK hq;unfold Qs at h1;have hqm:=(ABq.1 h1).1
  have:q=o:=by
   obtain⟨i,hi,rfl⟩:=ABY.1 hqm;obtain⟨j,hj,rfl⟩:=ABY.1 hm;rcases ABf i j with hl|hl|hl
   ·have:=ABQ.1 hp i j hi hj hl;omega
   ·subst hl;rfl
   ·have:=ABQ.1 hp j i hj hi hl;omega
  rw[this]
theorem DI.iO{w h:Int}{c:List Int}{a:List PF}{nx:Int}{l:List Pf}{crew:List Pc}{ts:List PW}(d:DI w h c a nx l crew ts):DI w h c a nx (Qs l) crew ts:=by
 obtain⟨b1,b2,b3,b4⟩:=d.bk
 have hm:∀o∈Qs l,o∈l:=fun o ho=>by unfold Qs at ho;grind
 have key:∀t∈ts,Ts a (Qs l) crew t:=fun t ht=>by have hT:=d.tk t ht;obtain⟨o,ho,hs,_⟩:=hT.ord;exact hT.same (fun _=>rfl) ((gY ho hs b3).trans ho.symm)
 exact { d with bk:=⟨b1,by unfold Qs;grind,by unfold Qs;grind,fun o ho=>b4 o (hm o ho)⟩,KN:=fun o ho=>d.KN o (hm o ho),aw:=fun o ho=>d.aw o (hm o ho),dk:=fun o ho=>d.dk o (hm o ho),tk:=key }
theorem DI.home{w h:Int}{c:List Int}{a:List PF}{nx:Int}{l:List Pf}{crew:List Pc}{ts:List PW}(d:DI w h c a nx l crew ts){b:List PF}(hb:T3 a b):∀p∈b,QC c p.2.1=true:=fun p hp=>by obtain⟨q,hq,e⟩:=hb.2.2 p hp;rw[e];exact d.hm q hq
theorem DI.back{w h:Int}{c:List Int}{a:List PF}{nx:Int}{l:List Pf}{crew:List Pc}{ts:List PW}(d:DI w h c a nx l crew ts)(id:Int)(ps:List D2):DI w h c (Rw Z5 a ps).1 nx (Rm l id 3) crew (ts.filter fun t => !(t.1==id)):=by have hb:=jQ d.st ps;refine d.Dq hb.1 hb.2.1 (d.home hb) ⟨by omega,by omega⟩ List.filter_sublist fun t ht e=>?_;grind
theorem DI.lP{w h:Int}{c:List Int}{a:List PF}{nx:Int}{l:List Pf}{crew:List Pc}{ts:List PW}(d:DI w h c a nx l crew ts)(PJ k m:Int):DI w h c (Ym a PJ k m).1 nx l crew ts:=by have hb:=lK d.st PJ k m;exact d.oW hb.1 hb.2.1 (d.home hb)
theorem fE(n:Nat)(hn:PD≤n){b:List Int}{i q:Int}(hcu:Cu b i)(id home:Int):Ok (iter n (Vi) (1,b,i,q,id,home,([]:List D2))) fun x=>(Va x.2.2.2.2.2.2∧∀y∈x.2.2.2.2.2.2,y.2.2=0)∧x.2.2.2.2.1=id∧x.2.2.2.2.2.1=home∧Cu x.2.1 x.2.2.1:=by
 refine Ok.iter (fun k x=>x.1+(k:Int)=5∧1≤x.1∧x.2.2.2.2.2.2.length+k≤4∧(x.2.2.2.2.2.2.Pairwise (fun a b=>a.1<b.1)∧∀y∈x.2.2.2.2.2.2,1≤y.1∧y.1<x.1∧1≤y.2.1∧y.2.1≤5∧y.2.2=0)∧x.2.2.2.2.1=id∧x.2.2.2.2.2.1=home∧Cu x.2.1 x.2.2.1) (fun k x hx=>?_) (k:=4) ⟨by simp,by simp,by simp,⟨List.Pairwise.nil,(fun y hy=>by cases hy)⟩,rfl,rfl,hcu⟩ (by unfold PD at hn;omega);obtain⟨h1,h0,h2,⟨h4,h5⟩,h6,h7,h3⟩:=hx;unfold Vi;refine Ok.cond (fun hb=>?_) fun hb=>Ok.pure (.inr ⟨_,rfl,⟨⟨h4,fun y hy=>?_,by show x.2.2.2.2.2.2.length≤8;clear hn;omega⟩,fun y hy=>(h5 y hy).2.2.2.2⟩,h6,h7,h3⟩)
 ·have hb:=AAq hb;refine Ok.bind (P:=fun z=>(z.2.2.2.2.2.length≤x.2.2.2.2.2.2.length+1∧z.2.2.2.2.2.Pairwise (fun a b=>a.1<b.1)∧∀y∈z.2.2.2.2.2,1≤y.1∧y.1<x.1+1∧1≤y.2.1∧y.2.1≤5∧y.2.2=0)∧z.2.2.2.1=id∧z.2.2.2.2.1=home∧Cu z.1 z.2.1) ((ok_int h3 (by simp)).bind fun v hv=>Ok.cond (fun hg=>Ok.guard (R3 (by clear hn;omega)) (Ok.pure ⟨⟨by show(x.2.2.2.2.2.2++[_]).length≤_;simp,?_,fun y hy=>?_⟩,h6,h7,hv.1⟩)) fun _=>Ok.pure ⟨⟨by show x.2.2.2.2.2.2.length≤_;omega,h4,fun y hy=>?_⟩,h6,h7,hv.1⟩) fun z hz=>Ok.pure (.inl ⟨_,rfl,k-1,⟨?_,?_,?_,⟨hz.1.2.1,fun y hy=>?_⟩,hz.2.1,hz.2.2.1,hz.2.2.2⟩,by clear hn;omega⟩)
  ·refine ABk.2 ⟨h4,List.pairwise_singleton _ _,fun y hy z hz=>?_⟩;rw[AA8.1 hz];exact(h5 y hy).2.1
  ·rcases AAy.1 hy with hy|hy
   ·obtain⟨g1,g2,g3,g4,g5⟩:=h5 y hy;exact⟨g1,by clear hn;omega,g3,g4,g5⟩
   ·rw[AA8.1 hy];have hg:=AAq hg;have hm:=hv.2;simp only[AAZ,List.not_mem_nil,or_false]at hm;refine⟨h0,by show x.1<x.1+1;clear hn;omega,by show 1≤v.1;clear hn;omega,by show v.1≤5;clear hn;omega,rfl⟩
  ·obtain⟨g1,g2,g3,g4,g5⟩:=h5 y hy;exact⟨g1,by clear hn;omega,g3,g4,g5⟩
  ·show O9 (x.1+1)+_=_;rw[PC (by clear hn;omega) (by clear hn;omega)];clear hn;omega
  ·show 1≤O9 (x.1+1);rw[PC (by clear hn;omega) (by clear hn;omega)];clear hn;omega
  ·have:=hz.1.1;show z.2.2.2.2.2.length+(k-1)≤4;clear hn;omega
  ·obtain⟨g1,g2,g3,g4,g5⟩:=hz.1.2.2 y hy;refine⟨g1,?_,g3,g4,g5⟩;show y.1<O9 (x.1+1);rw[PC (by clear hn;omega) (by clear hn;omega)];exact g2
 grind
theorem fD(n:Nat)(hn:PD≤n){b:List Int}{i q:Int}(hcu:Cu b i)(w h:Int)(c:List Int)(hf:PS w h c=true):Ok (V9 n b i q w h c) fun x=>Yr w h c x.1=true∧Cu x.2.1 x.2.2.1:=by
 have h100:=(Ve hf).le;have hc:c.length≤1048576:=by clear hn;omega
 unfold V9;rw[Us w h c hc hf 2 n hn,ABT]
 refine Ok.bind (P:=fun z=>(z.2.2.2.2.length≤8∧z.2.2.2.2.length≤(QB c 2 c.length).length∧∀(j:Nat)(hj:j<z.2.2.2.2.length),z.2.2.2.2[j].1=(j:Int)+1∧z.2.2.2.2[j].2.1=(QB c 2 c.length).getD j 0∧Va z.2.2.2.2[j].2.2∧∀y∈z.2.2.2.2[j].2.2,y.2.2=0)∧Cu z.2.1 z.2.2.1)
  (Ok.iter (fun k x=>x.1+(k:Int)=8∧0≤x.1∧(x.2.2.2.2.length:Int)=x.1∧(x.2.2.2.2.length≤(QB c 2 c.length).length∧∀(j:Nat)(hj:j<x.2.2.2.2.length),x.2.2.2.2[j].1=(j:Int)+1∧x.2.2.2.2[j].2.1=(QB c 2 c.length).getD j 0∧Va x.2.2.2.2[j].2.2∧∀y∈x.2.2.2.2[j].2.2,y.2.2=0)∧Cu x.2.1 x.2.2.1) (fun k x hx=>?_) (k:=8) ⟨by simp,by simp,by simp,⟨by simp,fun j hj=>by simp at hj⟩,hcu⟩ (by unfold PD at hn;omega)) fun z hz=>Ok.pure ⟨?_,hz.2⟩
 ·obtain⟨h1,h0,h2,⟨h4,h5⟩,h3⟩:=hx;unfold X0;refine Ok.bind (P:=fun v=>v=true→x.1<((QB c 2 c.length).length:Int)∧x.1<8) (Ok.cond (fun hb=>Ok.pure fun e=>⟨AAq hb,AAq e⟩) fun _=>Ok.pure fun e=>by cases e) fun v hv=>Ok.cond (fun hb=>?_) fun hb=>Ok.pure (.inr ⟨_,rfl,⟨by grind,h4,h5⟩,h3⟩);obtain⟨a1,a2⟩:=hv hb;refine Ok.guard (YG ⟨h0,a1⟩) ((Ok.get (by omega)).bind fun hm tv=>(fE n hn h3 _ _).bind fun u hu=>Ok.guard (R3 (by omega)) (Ok.pure (.inl ⟨_,rfl,k-1,⟨?_,?_,?_,⟨?_,fun j hj=>?_⟩,hu.2.2.2⟩,by omega⟩)))
  ·show O9 (x.1+1)+_=_;rw[PC (by clear hn;omega) (by clear hn;omega)];omega
  ·show 0≤O9 (x.1+1);rw[PC (by clear hn;omega) (by clear hn;omega)];omega
  ·show(((x.2.2.2.2++[_]).length:Nat):Int)=O9 (x.1+1);rw[PC (by clear hn;omega) (by clear hn;omega),AA2,ABb];omega
  ·grind
  ·have hj2:j<x.2.2.2.2.length+1:=by have:=hj;change j<(x.2.2.2.2++[_]).length at this;rw[AA2,ABb]at this;exact this
   show(x.2.2.2.2++[(u.2.2.2.2.1,u.2.2.2.2.2.1,u.2.2.2.2.2.2)])[j].1=_∧(x.2.2.2.2++[(u.2.2.2.2.1,u.2.2.2.2.2.1,u.2.2.2.2.2.2)])[j].2.1=_∧Va (x.2.2.2.2++[(u.2.2.2.2.1,u.2.2.2.2.2.1,u.2.2.2.2.2.2)])[j].2.2∧∀y∈(x.2.2.2.2++[(u.2.2.2.2.1,u.2.2.2.2.2.1,u.2.2.2.2.2.2)])[j].2.2,y.2.2=0;rw[List.getElem_append];by_cases e:j<x.2.2.2.2.length
   ·grind
   ·rw[dif_neg e];have ej:j=x.2.2.2.2.length:=by clear hn;omega
    simp only[List.getElem_singleton];refine⟨?_,?_,hu.1.1,hu.1.2⟩
    ·rw[hu.2.1,PC (by clear hn;omega) (by clear hn;omega)];clear hn;omega
    grind
 ·obtain⟨⟨z1,z2,z3⟩,_⟩:=hz;have hpw:=Zn c 2 c.length
  have uE:∀(j:Nat)(hj:j<z.2.2.2.2.length),∃m:Nat,z.2.2.2.2[j].2.1=(m:Int)∧m<c.length∧c.getD m 0=2:=fun j hj=>by
   have hj2:j<(QB c 2 c.length).length:=by clear hn;omega
   rw[(z3 j hj).2.1,show(QB c 2 c.length).getD j 0=(QB c 2 c.length)[j] by simp[hj2]];exact WJ (ABW hj2)
  have hS:PO z.2.2.2.2:=by
   refine⟨by omega,ABQ.2 fun a b ha hb zF=>?_,fun p hp=>?_⟩
   ·have q1:=z3 a ha;have q2:=z3 b hb;have hal:a<(QB c 2 c.length).length:=by clear hn;omega
    have y6:b<(QB c 2 c.length).length:=by clear hn;omega
    have tX:=ABQ.1 hpw a b hal y6 zF;grind
   ·obtain⟨j,hj,rfl⟩:=ABY.1 hp;grind
  show Yr w h c z.2.2.2.2=true;unfold Yr;rw[hf,Pk.2 hS];simp only[ABt,AAG,AAU,AAR];refine⟨fun j hj=>?_,fun j hj=>?_⟩
  ·unfold Xd;grind
  ·obtain⟨m,e,hm,h2⟩:=uE j hj;unfold Y5;rw[AAF hj];dsimp only;rw[e,show(m:Int).toNat=m by clear hn;omega,h2];unfold Ps;grind
theorem Tk.set{l:List Int}(h:Tk l){i:Nat}(hi:0<i){x:Int}(hx:0≤x∧x≤1000000):Tk (l.set i x):=by
 obtain⟨h1,h2,h3⟩:=h;refine⟨by rw[List.length_set];exact h1,fun y hy=>?_,?_⟩
 all_goals grind
theorem fS:∀(ps:List D2)(ou:List Int),(∀p∈ps,1≤p.2.1∧1≤p.2.2)→Tk ou→Tk (jJ ou ps)
 | [],ou,_,h=>h
 |p::ps,ou,hp,h=>by
  obtain⟨q1,q2⟩:=hp p AAe
  have hstep:Tk (if ou.getD p.2.1.toNat 0+p.2.2≤1000000 then ou.set p.2.1.toNat (ou.getD p.2.1.toNat 0+p.2.2)else ou):=by
   split
   ·rename_i hle
    have h0:0≤ou.getD p.2.1.toNat 0:=by
     rw[List.getD];cases hq:ou[p.2.1.toNat]? with
     |none=>simp
     |some y=>exact(h.2.1 y (AAN hq)).1
    exact h.set (by omega) ⟨by omega,hle⟩
   ·exact h
  exact fS ps _ (fun q hq=>hp q (AAJ _ hq)) hstep
theorem dF{w h:Int}{c:List Int}{a:List PF}{nx:Int}{l:List Pf}{crew:List Pc}{ts:List PW}(d:DI w h c a nx l crew ts)(t:PW):∀p∈Pa l t,1≤p.2.1∧1≤p.2.2:=fun p hp=>by
 unfold Pa at hp;cases ho:P9 l t.1 with
 |none=>grind
 |some o=>
  rw[ho]at hp;have hpm:=(ABq.1 hp).1;obtain⟨_,_,⟨hI,_⟩,hpg,_⟩:=d.bk.2.2.2 o (QK ho).1;obtain⟨q1,y,hy,e⟩:=hpg.1 p hpm;have:=hI.2.1 y hy;omega
theorem DI.ju{w h:Int}{c:List Int}{a:List PF}{nx:Int}{l:List Pf}{crew:List Pc}{ts:List PW}(d:DI w h c a nx l crew ts)(t:PW){ou:List Int}(ho:Tk ou):Tk (Q6 a ou l crew t).2.1:=by
 unfold Q6;split
 ·exact ho
 ·split
  ·dsimp only;cases(Rw ZI a (Pa l t)).2
   ·exact ho
   ·exact fS _ ou (dF d t) ho
  ·exact ho
theorem DI.cY{w h:Int}{c:List Int}{nx:Int}{l:List Pf}:∀(ts:List PW)(s:lZ),DI w h c s.1 nx l s.2.2.1 (s.2.2.2.1++ts)→Tk s.2.1→Tk (N.QJ l ts s).2.1
 | [],s,_,ho=>ho
 |t::ts,s,d,ho=>by
  have h1:DI w h c (Qk l t s).1 nx l (Qk l t s).2.2.1 ((Qk l t s).2.2.2.1++ts)∧Tk (Qk l t s).2.1:=by
   unfold Qk;by_cases hg:X6 s.2.2.1 t=true
   ·rw[AAK hg]
    have ht:t.2.2.2≠1:=fun e=>by unfold X6 at hg;rw[show(t.2.2.2==1)=true from AAS.2 e]at hg;simp at hg
    refine⟨?_,d.ju t ho⟩;have:=d.ij ht s.2.1;grind
   ·grind
  exact DI.cY ts (Qk l t s) h1.1 h1.2
def iq(p:PF)(k:Int):Int:=(PR p.2.2 k).2.2
def Yu(l:List Pf)(PJ k:Int)(t:PW):Int:=if t.2.2.2≤3 then tp (Pa l t) PJ k else 0
def Ug(l:List Pf)(ts:List PW)(PJ k:Int):Int:=(ts.map (Yu l PJ k)).foldr (· + ·) 0
theorem Uw(l:List Pf)(t:PW)(y:List PW)(PJ k:Int):Ug l (t::y) PJ k=Yu l PJ k t+Ug l y PJ k:=rfl
theorem dt(x PJ k:Int):∀o:List D2,tp (o.filter fun p=>p.1==x) PJ k=if x=PJ then tp o PJ k else 0
 | []=>by simp[tp]
 |p::o=>by
  have ih:=dt x PJ k o;rw[ABu];by_cases hx:p.1=x
  ·rw[AAK (AAS.2 hx)];show(if p.1=PJ∧p.2.1=k then p.2.2 else 0)+tp _ PJ k=if x=PJ then(if p.1=PJ∧p.2.1=k then p.2.2 else 0)+tp o PJ k else 0
   omega
  ·rw[AAM (by rw[AAS];exact hx),ih];show _=if x=PJ then(if p.1=PJ∧p.2.1=k then p.2.2 else 0)+tp o PJ k else 0
   omega
theorem jP{a:List PF}{PJ k m:Int}(hc:(Ym a PJ k m).2=0):Py a PJ k m=0:=by unfold Ym at hc;grind
theorem kg(PJ k:Int):∀ps:List D2,(∀p∈ps,p.1=PJ)→tp ps PJ k=RM k ps
 | [],_=>rfl
 |p::ps,h=>by have ih:=kg PJ k ps fun q hq=>h q (AAJ _ hq);have h1:=h p AAe;simp only[tp,RM,ih];grind
theorem bo(k:Int)(ps:List D2)(h72:ps.length≤72)(hN:∀p∈ps,1≤p.2.2∧p.2.2≤1000)(z:Int)(hz:0≤z∧z≤10000000)(n:Nat)(hn:PD≤n):iter n (SY k ps) (z,0)=some (z+RM k ps,(ps.length:Int)):=by
 have hc:=PQ (σ:=Int) (SY k ps) (fun i s=>(s,(i:Int))) ps (fun r s=>(s+RM k r,(ps.length:Int))) (fun i s=>0≤s∧s≤10000000+1000*(i:Int))
  (fun s hs=>by unfold SY;simp[RM])
  (fun i p r s g1 g2 g3 g4 g5=>by
   left;have hp:ps[i]=p:=by rw[AAF g1]at g2;exact Option.some.inj g2
   have hpN:=hN p (by rw[←hp];exact ABW g1);unfold SY;dsimp only;rw[show decide ((i:Int)<(ps.length:Int))=true by rw[AAb];clear hn;omega,ABU,PA g1,ABU,ABX,g2,ABT,Uf,P8,Sx.2 ⟨by clear hn;omega,hpN.2⟩,O5 g1 (show ps.length≤9223372036854775807 by clear hn;omega)];simp only[RM];cases(p.2.1==k)with
   |true=>
    simp only[ABU,ABT];rw[PC (n:=s+p.2.2) (by clear hn;omega) (by clear hn;omega)];exact⟨s+p.2.2,rfl,⟨by clear hn;omega,by clear hn;omega⟩,by rw[AB0]⟩
   |false=>
    simp only[ABV,ABT];exact⟨s,rfl,⟨g5.1,by clear hn;omega⟩,by rw[AB3]⟩)
  n (by unfold PD at hn;omega) z ⟨hz.1,by clear hn;omega⟩
 omega
structure DK(a:List PF)(nx:Int)(l:List Pf)(crew:List Pc)(ts:List PW):Prop where
 sk:PO a
 bk:Vj nx l
 aX:crew.length≤20
 ids:crew.Pairwise fun r s=>r.1<s.1
 XA:TP ts
 tk:∀t∈ts,Ts a l crew t
theorem DI.ot{w h:Int}{c:List Int}{a:List PF}{nx:Int}{l:List Pf}{crew:List Pc}{ts:List PW}(d:DI w h c a nx l crew ts):DK a nx l crew ts:=⟨d.st,d.bk,d.cw.aX,d.cw.ids,d.XA,d.tk⟩
theorem mH.ot{w h:Int}{c:List Int}{a:List PF}{nx:Int}{l:List Pf}{crew:List Pc}{ts:List PW}{st ou:List Int}{nw:Int}(d:mH w h c a nx l crew ts st ou nw):DK a nx l crew ts:=⟨d.oh,d.bk,d.cw.aX,d.cw.ids,d.XA,d.tk⟩
theorem fm{crew:List Pc}(h:crew.Pairwise fun r s=>r.1<s.1){id:Int}{f:Pc→Pc}(hf:∀r,(f r).1=r.1):(WE crew id f).Pairwise fun r s=>r.1<s.1:=by
 have key:∀r,(bif r.1==id then f r else r:Pc).1=r.1:=fun r=>by grind
 unfold WE;rw[ABi];exact h.imp fun {r s} hrs=>by grind
theorem DK.jt{a:List PF}{nx:Int}{l:List Pf}{crew:List Pc}{x y:List PW}{t:PW}(d:DK a nx l crew (x++t::y))(ht:t.2.2.2≠1){b:List PF}(hb:PO b)(hsp:WI a b){s:Int}(hs:2≤s∧s≤4){f:Pc→Pc}(hf:∀r,(f r).1=r.1)
  (um:∀r,TH crew t.2.2.1=some r→(f r).2.2.1=TB b l (t.1,t.2.1,t.2.2.1,s)∧(f r).2.2.2.1=decide (2<s)):DK b nx l (WE crew t.2.2.1 f) (x++(t.1,t.2.1,t.2.2.1,s)::y):=by
 have hT:=d.tk t (AAO _ AAe);obtain⟨o,ho,v7,wL⟩:=hT.ord;obtain⟨r0,hr0,_,_⟩:=hT.cg ht;obtain⟨q,hq⟩:=(hT.same hsp (k:=l) rfl).PJ;refine {sk:=hb,bk:=d.bk,aX:=by rw[cd];exact d.aX,ids:=fm d.ids hf,XA:=d.XA.mG ht hs,tk:=fun u hu=>?_ }
 have xe:∀u,u∈x∨u∈y→Ts b l (WE crew t.2.2.1 f) u:=fun u hu=>(d.tk u (by
  grind)).other hsp hf fun e=>d.XA.two ht hu e
 rcases AAy.1 hu with hu|hu
 ·grind
 ·rcases AAZ.1 hu with rfl|hu
  ·refine⟨⟨o,ho,v7,wL⟩,⟨q,hq⟩,fun _=>⟨f r0,?_,(um r0 hr0).1,(um r0 hr0).2⟩⟩;rw[Z6 hf];show(TH crew t.2.2.1).map _=_;rw[hr0,AA9,show(r0.1==t.2.2.1)=true from AAS.2 (Pr hr0).2,ABU]
  grind
theorem DK.gone{a:List PF}{nx:Int}{l:List Pf}{crew:List Pc}{x y:List PW}{t:PW}(d:DK a nx l crew (x++t::y))(ht:t.2.2.2≠1){f:Pc→Pc}(hf:∀r,(f r).1=r.1):DK a nx l (WE crew t.2.2.1 f) (x++y):=by
 refine {sk:=d.sk,bk:=d.bk,aX:=by rw[cd];exact d.aX,ids:=fm d.ids hf,XA:=d.XA.sub ((List.Sublist.refl x).append (List.sublist_cons_self t y)),tk:=fun u hu=>?_ };have hu2:=AAy.1 hu
 exact(d.tk u (by
  grind)).other (fun _=>rfl) hf fun e=>d.XA.two ht hu2 e
theorem DK.ij{a:List PF}{nx:Int}{l:List Pf}{crew:List Pc}{x y:List PW}{t:PW}(d:DK a nx l crew (x++t::y))(ht:t.2.2.2≠1)(ou:List Int):
  DK (Q6 a ou l crew t).1 nx l (Q6 a ou l crew t).2.2.1 (x++(eK (Q6 a ou l crew t).2.2.2++y)):=by
 have hT:=d.tk t (AAO _ AAe);unfold Q6;by_cases h2:t.2.2.2=2
 ·rw[AAK h2];exact d.jt ht d.sk (fun _=>rfl) (s:=3) ⟨by omega,by omega⟩ (fun r=>rfl) fun r hr=>⟨rfl,rfl⟩
 ·rw[AAM h2];by_cases h3:t.2.2.2=3
  ·rw[AAK h3];obtain⟨g1,g2,g3⟩:=ZJ d.sk (Pa l t);refine d.jt ht g1 g2 (s:=4) ⟨by omega,by omega⟩ (fun r=>rfl) fun r hr=>⟨rfl,?_⟩;obtain⟨r',q1,_,q3⟩:=hT.cg ht;grind
  ·rw[AAM h3];exact d.gone ht fun r=>rfl
theorem DK.Dq{a:List PF}{nx:Int}{l:List Pf}{crew:List Pc}{ts:List PW}(d:DK a nx l crew ts){id st:Int}(v7:1≤st∧st≤3)(xN:∀t∈ts,t.1≠id):DK a nx (Rm l id st) crew ts:=by
 have mem:∀q∈Rm l id st,∃o∈l,q=(bif o.1==id then(o.1,o.2.1,o.2.2.1,o.2.2.2.1,st)else o:Pf):=fun q hq=>by unfold Rm at hq;grind
 have key:∀o:Pf,(bif o.1==id then(o.1,o.2.1,o.2.2.1,o.2.2.2.1,st)else o:Pf).1=o.1∧(bif o.1==id then(o.1,o.2.1,o.2.2.1,o.2.2.2.1,st)else o:Pf).2.1=o.2.1∧(bif o.1==id then(o.1,o.2.1,o.2.2.1,o.2.2.2.1,st)else o:Pf).2.2.1=o.2.2.1∧(bif o.1==id then(o.1,o.2.1,o.2.2.1,o.2.2.2.1,st)else o:Pf).2.2.2.1=o.2.2.2.1:=fun o=>by grind
 obtain⟨b1,b2,b3,b4⟩:=d.bk;refine { d with bk:=⟨b1,by unfold Rm;grind,?_,fun q hq=>?_⟩,tk:=fun t ht=>(d.tk t ht).same (fun _=>rfl) (cB l id st t.1 (xN t ht)) }
 ·unfold Rm;rw[ABi];exact b3.imp fun {x y} hxy=>by grind
 ·obtain⟨o,ho,rfl⟩:=mem q hq;obtain⟨k1,k2,k3,k4⟩:=key o;obtain⟨g1,g2,g3,g4,g5⟩:=b4 o ho;unfold fu;rw[k1,k2,k3,k4];refine⟨g1,g2,g3,g4,?_⟩;cases(o.1==id)
  all_goals grind
def OB(B:Int)(ou:List Int):Prop:=ou.length=51∧∀x∈ou,0≤x∧x≤B
theorem OB.getD{B:Int}{ou:List Int}(h:OB B ou)(hB:0≤B)(i:Nat):0≤ou.getD i 0∧ou.getD i 0≤B:=by
 rw[List.getD];cases hq:ou[i]? with
 |none=>grind
 |some x=>exact h.2 x (AAN hq)
theorem OB.set{B C:Int}{ou:List Int}(h:OB B ou)(hBC:B≤C)(i:Nat){x:Int}(hx:0≤x∧x≤C):OB C (ou.set i x):=by
 refine⟨by rw[List.length_set];exact h.1,fun y hy=>?_⟩;rcases ABA hy with hy|rfl
 ·have:=h.2 y hy;omega
 ·exact hx
theorem Tk.ob{ou:List Int}(h:Tk ou):OB 1000000 ou:=⟨h.1,h.2.1⟩
def idx(N:Nat):List Int:=(List.range N).map fun i:Nat=>(i:Int)
theorem mW{N i:Nat}(h:i<N):(idx N)[i]?=some (i:Int):=by simp[idx,h]
theorem Yd(N:Nat):(idx N).length=N:=by simp[idx]
theorem Ye{N:Nat}{x:Int}:x∈idx N↔0≤x∧x<(N:Int):=by
 simp only[idx,AAs,AAR];constructor
 ·omega
 ·rintro ⟨h1,h2⟩;exact⟨x.toNat,by omega,by omega⟩
theorem dc(N:Nat):(idx N).Nodup:=by unfold idx List.Nodup;rw[ABi];exact AB8.imp fun {a b} h e=>h (by omega)
theorem jw(N:Nat):idx (N+1)=idx N++[(N:Int)]:=by simp[idx,AB4]
abbrev Rb:=Int×Int×Int×Bool×Int
def Pb(crew:List Rb)(i:Int):Rb:=crew.getD i.toNat (0,0,0,false,0)
theorem ZX{crew:List Rb}{i:Int}(h:0≤i∧i<(crew.length:Int)):M8 crew i=some (Pb crew i):=by obtain⟨m,rfl⟩:∃m:Nat,i=m:=⟨i.toNat,by omega⟩;rw[O6 (by omega)];simp[Pb,List.getD,AAF (show m<crew.length by omega)]
theorem RT{crew:List Rb}{i:Nat}(h:i<crew.length):Pb crew (i:Int)=crew[i]:=by simp[Pb,List.getD,AAF h]
def mi(crew:List Rb):Prop:=∀a b:Int,0≤a→a<b→b<(crew.length:Int)→(Pb crew a).1<(Pb crew b).1
def XB(crew:List Rb)(a b:Int):Bool:=decide ((Pb crew a).2.2.2.2>(Pb crew b).2.2.2.2)||(decide ((Pb crew a).2.2.2.2=(Pb crew b).2.2.2.2)&&decide ((Pb crew a).1<(Pb crew b).1))
theorem cZ{crew:List Rb}(h:mi crew){xs:List Int}(hx:∀x∈xs,0≤x∧x<(crew.length:Int)):Ord (XB crew) xs:=by
 refine⟨fun x=>by simp[XB],fun x y z h1 h2=>?_,fun x v8 y zt tj=>?_⟩
 ·simp only[XB,AAa,AAG,AAb]at h1 h2 ⊢;omega
 ·simp only[XB,AAa,AAG,AAb];have q1:=hx x v8;have q2:=hx y zt;rcases Int.lt_or_gt_of_ne tj with hl|hl
  ·have:=h x y q1.1 hl q2.2;omega
  ·have:=h y x q2.1 hl q1.2;omega
theorem ZB{crew:List Rb}{a b:Int}(ha:0≤a∧a<(crew.length:Int))(hb:0≤b∧b<(crew.length:Int)):Yh crew a b=some (XB crew a b):=by unfold Yh XB;rw[ZX ha,ZX hb];rfl
theorem fe{lt:Int→Int→Option Bool}{lb:Int→Int→Bool}{xs:List Int}(hx:∀x∈xs,∀y∈xs,lt x y=some (lb x y))(xN:∀x y,(lt x y).isSome=true→lt x y=some (lb x y))(h20:xs.length≤20)(ur:xs.Nodup)(ho:Ord lb xs)(htr:∀x y z,lt x y=some true→lt y z=some true→(lt x z).isSome=true):
  ∃l,Mj lt xs=some l∧l.Perm xs∧l.Pairwise fun x y=>lb x y=true:=by
 have hb:∀x y,OS lt x y=true↔lt x y=some true:=fun x y=>by
  unfold OS;cases lt x y with
  |none=>simp
  |some b=>simp
 have hord:Ord (OS lt) xs:=by
  refine⟨fun x=>?_,fun x y z h1 h2=>?_,fun x v8 y zt tj=>?_⟩
  ·cases h:OS lt x x with
   |false=>rfl
   |true=>
    have h:=(hb x x).1 h;have:=xN x x (by rw[h];rfl);rw[h,ho.re]at this;cases this
  ·rw[hb]at h1 h2 ⊢;have e1:=xN x y (by rw[h1];rfl);have e2:=xN y z (by rw[h2];rfl);rw[h1]at e1;rw[h2]at e2;injection e1 with e1;injection e2 with e2
   rw[xN x z (htr x y z h1 h2),ho.tr x y z e1.symm e2.symm]
  ·rw[hb,hb,hx x v8 y zt,hx y zt x v8];rcases ho.RM x v8 y zt tj with h|h
   ·exact .inl (by rw[h])
   ·exact .inr (by rw[h])
 obtain⟨l,h1,h2,h3⟩:=kX (lt:=lt) (xs:=xs) (fun x h y h'=>by rw[hx x h y h'];rfl) h20 ur hord;refine⟨l,h1,h2,ACA (fun {a b} ha th h=>?_) h3⟩;grind
theorem cy{crew:List Rb}(h:mi crew)(h20:crew.length≤20)(n:Nat)(hn:PD≤n):∃l,Xi n crew=some l∧l.Perm (idx crew.length)∧l.Pairwise fun x y=>XB crew x y=true:=by
 have hB:1048576≤n:=AAw (by decide) hn
 have xw:iter n (TC crew) (0,[])=some ((crew.length:Int),idx crew.length):=by
  have:=Ph (TC crew) (fun i=>((i:Int),idx i)) crew.length ((crew.length:Int),idx crew.length) (fun i hi=>by
   have hm:decide ((idx i).length+[(i:Int)].length≤Dh)=true:=by rw[AAb,Yd];simp[Dh];omega
   simp only[TC,hm,O5 hi (by omega),jw];rw[show decide ((i:Int)<(crew.length:Int))=true by simpa using hi];rfl) (by simp[TC]) n (by omega)
  simpa[idx]using this
 have hm:∀x∈idx crew.length,0≤x∧x<(crew.length:Int):=fun x hx=>Ye.1 hx
 have hv:∀x y,(Yh crew x y).isSome=true→(0≤x∧x<(crew.length:Int))∧(0≤y∧y<(crew.length:Int)):=fun x y h=>by
  unfold Yh at h;cases hx:M8 crew x with
  |none=>rw[hx]at h;cases h
  |some p=>
   cases hy:M8 crew y with
   |none=>rw[hx,hy]at h;cases h
   |some q=>
    obtain⟨k,rfl,hk,_⟩:=dx hx;obtain⟨k',rfl,u7,_⟩:=dx hy;omega
 obtain⟨l,h1,h2,h3⟩:=fe (lt:=Yh crew) (lb:=XB crew) (xs:=idx crew.length) (fun x hx y hy=>ZB (hm x hx) (hm y hy)) (fun x y h=>ZB (hv x y h).1 (hv x y h).2) (by rw[Yd];exact h20) (dc _) (cZ h hm)
  (fun x y z h1 h2=>by rw[ZB (hv x y (by rw[h1];rfl)).1 (hv y z (by rw[h2];rfl)).2];rfl)
 refine⟨l,?_,h2,h3⟩;unfold Xi;grind
theorem dK{crew:List Rb}(h:mi crew)(h20:crew.length≤20)(n:Nat)(hn:PD≤n):∃l,Wf n crew=some l∧l.Perm (idx crew.length)∧l.Pairwise fun x y=>XB crew x y=true:=by
 have hB:1048576≤n:=AAw (by decide) hn;have hm:∀x∈idx crew.length,0≤x∧x<(crew.length:Int):=fun x hx=>Ye.1 hx
 obtain⟨l,h1,h2,h3⟩:=bq (VF n crew) (XB crew) (idx crew.length) (dc _) (cZ h hm) (fun i x l hx hl tX wJ=>by
   rw[Yd]at tX;rw[mW (by omega)]at hx;injection hx with hx
   subst hx;have hi:i<crew.length:=by omega
   have hir:=ZX (crew:=crew) (i:=(i:Int)) ⟨by omega,by omega⟩
   have step:∀k y z,l[k]?=some y→TN crew (l,(i:Int)) (((k+1:Nat):Int),hole l (k+1) z)=some (bif XB crew (i:Int) y then .inl ((k:Int),hole l k y)else .inr (((k+1:Nat):Int),hole l (k+1) z)):=by
    intro k y z hk;have hkl:k<l.length:=(AAH.1 hk).1;have hyr:=ZX (hm y (wJ y (AAN hk)));have hw:O9 (((k+1:Nat):Int)-1)=(k:Int):=by rw[PC (by omega) (by omega)];omega
    have hi1:Ob (hole l (k+1) z) (k:Int)=true:=PA (by rw[Rx (by omega)];omega);have hi2:Ob (hole l (k+1) z) ((k+1:Nat):Int)=true:=PA (by rw[Rx (by omega)];omega);simp only[TN,hw,hi1,hi2,ABX,bH hk,ABT,hyr,hir,Pw,bU hk,ABU];rw[show decide (((k+1:Nat):Int)>0)=true by rw[AAb];omega]
    have e:XB crew (i:Int) y=(decide ((Pb crew y).2.2.2.2<(Pb crew (i:Int)).2.2.2.2)||(((Pb crew y).2.2.2.2==(Pb crew (i:Int)).2.2.2.2)&&decide ((Pb crew y).1>(Pb crew (i:Int)).1))):=by unfold XB;rw[ABw];simp only[AAa,AAG,AAb,AAS];omega
    rw[e];generalize decide ((Pb crew y).2.2.2.2<(Pb crew (i:Int)).2.2.2.2)=b1;generalize ((Pb crew y).2.2.2.2==(Pb crew (i:Int)).2.2.2.2)=b2;generalize decide ((Pb crew y).1>(Pb crew (i:Int)).1)=b3;cases b1<;>cases b2<;>cases b3<;>rfl
   obtain⟨k,z,e,hk,q1,q2⟩:=fB (TN crew (l,(i:Int))) (XB crew (i:Int)) l (fun k y z hk hy=>by rw[step k y z hk,hy];rfl) (fun k y z hk hy=>by rw[step k y z hk,hy];rfl) (fun z=>by simp[TN]) n (by omega) (i:Int);refine⟨k,hk,?_,q1,q2⟩;have hmr:decide (l.length+[(i:Int)].length≤Dh)=true:=by rw[AAb];simp[Dh];omega
   simp only[VF,hmr,e,ABT,PA (show k<(hole l k z).length by rw[Rx hk];omega),ABX,Pw,Zs hk,O5 hi (by omega),ABU];grind) (fun l=>by simp[VF,Yd]) n (by rw[Yd];omega)
 refine⟨l,?_,h2,h3⟩;unfold Wf;rw[h1];rfl
theorem kh{crew:List Rb}(h:mi crew)(h20:crew.length≤20)(n:Nat)(hn:PD≤n):∃l,Xi n crew=some l∧Wf n crew=some l∧l.Perm (idx crew.length):=by obtain⟨a,a1,a2,a3⟩:=cy h h20 n hn;obtain⟨b,b1,b2,b3⟩:=dK h h20 n hn;have:a=b:=ZF (cZ h fun x hx=>Ye.1 hx) a3 b3 a2 b2;grind
theorem Tu(r ka kb a b:Int):RA r ka kb a b=true↔ka<kb∨(ka=kb∧((a≠r∧b=r)∨((a=r↔b=r)∧a<b))):=by unfold RA;grind
theorem Wp(r:Int)(key:Int→Int)(xs:List Int):Ord (fun a b=>RA r (key a) (key b) a b) xs:=by
 refine⟨fun x=>?_,fun x y z h1 h2=>?_,fun x _ y _ tj=>?_⟩
 ·cases h:RA r (key x) (key x) x x with
  |false=>rfl
  |true=>rw[Tu]at h;omega
 ·rw[Tu]at h1 h2 ⊢;omega
 ·rw[Tu,Tu];omega
theorem eE{r k1 k2 l1 l2 a b:Int}(h1:k1<k2↔l1<l2)(h2:k1=k2↔l1=l2):RA r k1 k2 a b=RA r l1 l2 a b:=by rw[ABw,Tu,Tu,h1,h2]
def Uq(c far:List Int)(v:Int):Int:=bif decide (O8 far v<0)then(c.length:Int)+1 else O8 far v
theorem Xl{c far:List Int}(hc:c.length≤100){r a b:Int}(ha:0≤a∧a<(far.length:Int))(hb:0≤b∧b<(far.length:Int)):WH far c r a b=some (RA r (Uq c far a) (Uq c far b) a b):=by unfold WH gI;rw[WV ha,WV hb,show IntKind.wrap .i64 ((c.length:Int)+1)=(c.length:Int)+1 from PC (by omega) (by omega)];rfl
theorem Vs{c far:List Int}{r x y:Int}(h:(WH far c r x y).isSome=true):(0≤x∧x<(far.length:Int))∧(0≤y∧y<(far.length:Int)):=by
 unfold WH at h;cases hx:gI c far x with
 |none=>grind
 |some p=>
  cases hy:gI c far y with
  |none=>grind
  |some q=>
   obtain⟨k,_,rfl,hk,_⟩:=dh hx;obtain⟨k',_,rfl,u7,_⟩:=dh hy;omega
structure Std(c:List Int)(r:Rb):Prop where
 dv:0≤r.2.1∧r.2.1<(c.length:Int)
 od:O8 c r.2.1≠0
 goal:r.2.2.1 = -1∨((0≤r.2.2.1∧r.2.2.1<(c.length:Int))∧O8 c r.2.2.1≠0)
def Tl(w h:Int)(c:List Int)(r:Rb):List Int:=((RR w h c r.2.1 false).filter fun k => !r.2.2.2.1||(O8 c k != 2||k==r.2.2.1))++[r.2.1]
def Vc(w h:Int)(c:List Int)(r:Rb):List Int:=(RR w h c r.2.1 r.2.2.2.1++[r.2.1])++(bif decide (r.2.2.1≥0)&&(!((RR w h c r.2.1 r.2.2.2.1++[r.2.1]).any fun x=>x==r.2.2.1)&&(QN w h r.2.1).any fun x=>x==r.2.2.1)then [r.2.2.1]else [])
theorem Yx{w h:Int}{c:List Int}(f:iT w h c){r:Rb}(s:Std c r):(Vc w h c r).Perm (Tl w h c r)∧(Tl w h c r).Nodup∧(∀v∈Tl w h c r,(0≤v∧v<(c.length:Int))∧O8 c v≠0)∧(Tl w h c r).length≤5:=by
 obtain⟨n1,n2,n3⟩:=ZU f s.dv false;obtain⟨m1,m2,m3⟩:=ZU f s.dv r.2.2.2.1
 have ndS:(Tl w h c r).Nodup:=by unfold Tl;rw[AAV];refine⟨n2.filter _,by simp,fun a ha b hb=>?_⟩;rw[AA8.1 hb];exact(n1 a (ABq.1 ha).1).2
 have ndI:(Vc w h c r).Nodup:=by
  unfold Vc
  have nd1:(RR w h c r.2.1 r.2.2.2.1++[r.2.1]).Nodup:=by rw[AAV];refine⟨m2,by simp,fun a ha b hb=>?_⟩;rw[AA8.1 hb];exact(m1 a ha).2
  cases hb:(decide (r.2.2.1≥0)&&(!((RR w h c r.2.1 r.2.2.2.1++[r.2.1]).any fun x=>x==r.2.2.1)&&(QN w h r.2.1).any fun x=>x==r.2.2.1))with
  |false=>grind
  |true=>
   grind
 have memN:∀a v,v∈RR w h c r.2.1 a↔v∈QN w h r.2.1∧O8 c v≠0∧¬(a=true∧O8 c v=2):=by
  intro a v;unfold RR;rw[ABq];simp only[AAG,ABz,ne_eq,AAT,ACD,ABa];constructor
  ·grind
  ·grind
 have memS:∀v,v∈Tl w h c r↔v=r.2.1∨(v∈QN w h r.2.1∧O8 c v≠0∧(r.2.2.2.1=false∨O8 c v≠2∨v=r.2.2.1)):=by
  intro v;unfold Tl;rw[AAy,ABq,memN];simp only[AA8,AAa,AAT,ABz,ne_eq,AAS];constructor
  ·grind
  ·grind
 have memI:∀v,v∈Vc w h c r↔v=r.2.1∨(v∈QN w h r.2.1∧O8 c v≠0∧¬(r.2.2.2.1=true∧O8 c v=2))∨(r.2.2.1≥0∧r.2.2.1∈QN w h r.2.1∧v=r.2.2.1):=by
  intro v;unfold Vc;rw[AAy,AAy,memN];cases hb:(decide (r.2.2.1≥0)&&(!((RR w h c r.2.1 r.2.2.2.1++[r.2.1]).any fun x=>x==r.2.2.1)&&(QN w h r.2.1).any fun x=>x==r.2.2.1))with
  |false=>
   grind
  |true=>
   grind
 refine⟨(List.perm_ext_iff_of_nodup ndI ndS).2 fun v=>?_,ndS,fun v hv=>?_,?_⟩
 ·rw[memI,memS];constructor
  ·rintro (h|⟨h1,h2,h3⟩|⟨h1,h2,rfl⟩)
   ·exact .inl h
   ·refine .inr ⟨h1,h2,?_⟩;cases hl:r.2.2.2.1 with
    |false=>exact .inl rfl
    |true=>exact .inr (.inl fun h=>h3 ⟨hl,h⟩)
   ·refine .inr ⟨h2,?_,.inr (.inr rfl)⟩;rcases s.goal with hg|hg
    ·omega
    ·exact hg.2
  grind
 ·rcases(memS v).1 hv with rfl|⟨h1,h2,_⟩
  ·exact⟨s.dv,s.od⟩
  ·have:=(XG (f.cell s.dv)).1 _ h1;grind
 ·unfold Tl;grind
theorem gz{c:List Int}{i:Int}(h:0≤i∧i<(c.length:Int))(hk:O8 c i≠0):QC c i=true:=by unfold QC Ps;rw[ABZ h.1,ABZ (show i≤(c.length:Int)-1 by omega)];simpa[O8]using hk
structure mm(w h:Int)(c:List Int)(r:Rb)(far F:List Int):Prop where
 len:far.length=c.length
 Mp:∀x∈far, -1≤x∧x≤(c.length:Int)
 neg:r.2.2.1<0→F=[]∧far=(List.replicate c.length 1).set r.2.1.toNat 0
 pos:0≤r.2.2.1→F=far∧∀n,PD≤n→Uk n w h c r.2.2.1 r.2.2.2.1=some far
 spec:∀n,PD≤n→S7 n w h c r.1 r.2.1 r.2.2.1 r.2.2.2.1 r.2.2.2.2=some F
theorem mT{w h:Int}{c:List Int}(f:iT w h c){r:Rb}(s:Std c r):∃far F,mm w h c r far F:=by
 have hN:=f.le;by_cases hg:r.2.2.1<0
 ·refine⟨(List.replicate c.length 1).set r.2.1.toNat 0,[],by simp,fun x hx=>?_,fun _=>⟨rfl,rfl⟩,fun h=>absurd h (by omega),fun n hn=>?_⟩
  ·grind
  ·unfold S7;grind
 ·have hgr:(0≤r.2.2.1∧r.2.2.1<(c.length:Int)):=by
   rcases s.goal with h|h
   ·omega
   ·exact h.1
  obtain⟨F,h12,h3,h4⟩:=eu f hgr r.2.2.2.1;refine⟨F,F,h3,fun x hx=>?_,fun h=>absurd h hg,fun _=>⟨rfl,fun n hn=>(h12 n hn).2⟩,fun n hn=>?_⟩
  ·grind
  ·unfold S7;grind
theorem ZO(c:List Int)(hl:c.length≤100)(n:Nat)(hn:PD≤n):iter n (TR c) (0,List.replicate (Int.toNat (c.length:Int)) 0)=some ((c.length:Int),List.replicate c.length 1):=by have hB:1048576≤n:=AAw (by decide) hn;rw[ABX];refine fW _ c.length 1 (fun i out hi ho=>?_) (fun out ho=>by simp[TR]) n (by omega);simp only[TR,PA (ho▸hi),O5 hi (by omega),Pw,ABX,ABU,List.length_replicate];grind
theorem ag{w h:Int}{c:List Int}(hf:PS w h c=true){r:Rb}(s:Std c r)(n:Nat)(hn:PD≤n){far F:List Int}(hfar:mm w h c r far F):
  ∃C,T9 n w h c r.1 r.2.1 r.2.2.1 r.2.2.2.1 r.2.2.2.2=some C∧C.Perm (Vc w h c r)∧C.Pairwise fun a b=>RA r.2.1 (Uq c far a) (Uq c far b) a b=true:=by
 have f:=Ve hf;have hN:=f.le;have hB:1048576≤n:=AAw (by decide) hn;obtain⟨pm,nd,rng,l5⟩:=Yx f s
 have v7:RK n w h c r.1 r.2.1 r.2.2.1 r.2.2.2.1 r.2.2.2.2=some true:=by
  rw[XQ w h c (by omega) hf r n hn,gz s.dv s.od];rcases s.goal with hg|⟨g1,g2⟩
  ·rw[hg];rfl
  ·rw[gz g1 g2];simp
 obtain⟨m1,m2,m3⟩:=ZU f s.dv r.2.2.2.1;have hb4:=(XG (f.cell s.dv)).2.2;have hm1:decide ((RR w h c r.2.1 r.2.2.2.1).length+[r.2.1].length≤Dh)=true:=by rw[AAb];simp[Dh];omega
 have hm2:decide ((RR w h c r.2.1 r.2.2.2.1++[r.2.1]).length+[r.2.2.1].length≤Dh)=true:=by rw[AAb];simp[Dh];omega
 have hmA:decide ((0:Int)≤(c.length:Int))=true:=by simp
 have hmB:decide ((c.length:Int)≤(Dh:Int))=true:=by rw[AAb];unfold Dh;omega
 have tS:Ob (List.replicate c.length (1:Int)) r.2.1=true:=(S8 (by simpa using s.dv)).1;have hI1:Qm n (RR w h c r.2.1 r.2.2.2.1++[r.2.1]) r.2.2.1=some ((RR w h c r.2.1 r.2.2.2.1++[r.2.1]).any fun x=>x==r.2.2.1):=by rw[XK];exact P5 _ (by simp;omega) _ n hn
 have hI2:Qm n (QN w h r.2.1) r.2.2.1=some ((QN w h r.2.1).any fun x=>x==r.2.2.1):=by rw[XK];exact P5 _ (by omega) _ n hn
 have hrI:∀x∈Vc w h c r,0≤x∧x<(far.length:Int):=fun x hx=>by rw[hfar.len];grind
 obtain⟨C,e1,e2,e3⟩:=fe (lt:=WH far c r.2.1) (lb:=fun a b=>RA r.2.1 (Uq c far a) (Uq c far b) a b) (xs:=Vc w h c r) (fun x hx y hy=>Xl hN (hrI x hx) (hrI y hy)) (fun x y hxy=>Xl hN (Vs hxy).1 (Vs hxy).2) (by rw[pm.length_eq];omega) (pm.nodup_iff.2 nd) (Wp _ _ _)
  (fun x y z h1 h2=>by rw[Xl hN (Vs (by rw[h1];rfl)).1 (Vs (by rw[h2];rfl)).2];rfl)
 refine⟨C,?_,e2,e3⟩;unfold T9;simp only[X8,Pp w h c (by omega) n hn,hf,v7,ABT,ABc,ABV,ZR f s.dv r.2.2.2.1 n hn,hm1,ABU,hI1,dR,Zm (f.cell s.dv),hI2,hm2,hmA,hmB,decide_true,ACE,ZO c hN n hn,tS,Pw];by_cases hg:r.2.2.1<0
 ·obtain⟨_,um⟩:=hfar.neg hg;have hd:decide (r.2.2.1≥0)=false:=by rw[AAf];omega
  have hc0:Vc w h c r=RR w h c r.2.1 r.2.2.2.1++[r.2.1]:=by unfold Vc;rw[hd];simp
  grind
 ·obtain⟨_,um⟩:=hfar.pos (by omega);have hd:decide (r.2.2.1≥0)=true:=by rw[AAb];omega
  have hc0:Vc w h c r=(RR w h c r.2.1 r.2.2.2.1++[r.2.1])++(bif !((RR w h c r.2.1 r.2.2.2.1++[r.2.1]).any fun x=>x==r.2.2.1)&&(QN w h r.2.1).any fun x=>x==r.2.2.1 then [r.2.2.1]else []):=by unfold Vc;rw[hd];rfl
  rw[hd,um n hn]
  revert hc0
  generalize ((RR w h c r.2.1 r.2.2.2.1++[r.2.1]).any fun x=>x==r.2.2.1)=b1;generalize ((QN w h r.2.1).any fun x=>x==r.2.2.1)=b2;intro hc0;cases b1<;>cases b2<;>simp only[ABc,ABp,ABt,ABx,ABU,ABV,ABy,ABT]at hc0 ⊢ <;> rw[←hc0,e1]<;>rfl
theorem lM{w h:Int}{c:List Int}(hN:c.length≤100){r:Rb}(s:Std c r){far F:List Int}(hfar:mm w h c r far F):
  ∃rk:Int→Int,(∀v,0≤v∧v<(c.length:Int)→Tz r.1 r.2.1 r.2.2.1 r.2.2.2.1 r.2.2.2.2 F v=some (rk v))∧
   ∀a b,(0≤a∧a<(c.length:Int))→(0≤b∧b<(c.length:Int))→(rk a<rk b↔Uq c far a<Uq c far b)∧(rk a=rk b↔Uq c far a=Uq c far b):=by
 by_cases hg:r.2.2.1<0
 ·obtain⟨_,um⟩:=hfar.neg hg
  have hk:∀v,0≤v∧v<(c.length:Int)→Uq c far v=bif v==r.2.1 then 0 else 1:=fun v hv=>by
   have:O8 far v=bif v==r.2.1 then 0 else 1:=by
    rw[um];unfold O8;rw[List.getD_eq_getElem?_getD,List.getElem?_set];by_cases he:v=r.2.1
    ·subst he;rw[AAK rfl,AAK (by simp;omega)];simp
    ·have tj:¬r.2.1.toNat=v.toNat:=fun e=>he (by have:=s.dv;omega);rw[AAM tj,List.getElem?_replicate,AAK (by omega),show(v==r.2.1)=false by simpa using he];rfl
   unfold Uq;rw[this];cases(v==r.2.1)<;>rfl
  refine⟨fun v=>bif v==r.2.1 then 0 else 1,fun v hv=>?_,fun a b ha hb=>?_⟩
  ·unfold Tz;rw[ABZ hg];show _=some (bif v==r.2.1 then 0 else 1);cases(v==r.2.1)<;>rfl
  grind
 ·obtain⟨hF,_⟩:=hfar.pos (by omega);have hb:∀v,0≤v∧v<(c.length:Int) → -1≤O8 far v∧O8 far v≤(c.length:Int):=fun v hv=>hfar.Mp _ (S8 (by rw[hfar.len];exact hv)).2.2;refine⟨fun v=>bif decide (O8 far v<0)then 1000 else O8 far v,fun v hv=>?_,fun a b ha th=>?_⟩
  ·unfold Tz;rw[ABd hg,hF];simp only[ABV,WV (c:=far) (i:=v) (by rw[hfar.len];exact hv),ABT];grind
  ·have q1:=hb a ha;have q2:=hb b th;unfold Uq;grind
theorem iY{w h:Int}{c:List Int}(hN:c.length≤100){r:Rb}(s:Std c r){far F:List Int}(hfar:mm w h c r far F){a b:Int}(ha:0≤a∧a<(c.length:Int))(hb:0≤b∧b<(c.length:Int)):
  VM r.1 r.2.1 r.2.2.1 r.2.2.2.1 r.2.2.2.2 F a b=some (RA r.2.1 (Uq c far a) (Uq c far b) a b):=by
 obtain⟨rk,h1,h2⟩:=lM hN s hfar;obtain⟨q1,q2⟩:=h2 a b ha hb;rw[←eE q1 q2];unfold VM RA;grind
theorem Xx{w h:Int}{c:List Int}(f:iT w h c){r:Rb}(s:Std c r)(n:Nat)(hn:PD≤n){far F:List Int}(hfar:mm w h c r far F):
  ∃C,Rj n w h c r.1 r.2.1 r.2.2.1 r.2.2.2.1 r.2.2.2.2 F=some C∧C.Perm (Tl w h c r)∧C.Pairwise fun a b=>RA r.2.1 (Uq c far a) (Uq c far b) a b=true:=by
 have hN:=f.le;have hB:1048576≤n:=AAw (by decide) hn;obtain⟨pm,nd,rng,l5⟩:=Yx f s;obtain⟨m1,m2,m3⟩:=ZU f s.dv false
 have zK:=X7 (SM c r.2.2.1 r.2.2.2.1 (RR w h c r.2.1 false)) (RR w h c r.2.1 false) (fun k => !r.2.2.2.1||(O8 c k != 2||k==r.2.2.1)) (fun j x out hx hj ho=>by
  have hxm:=m1 x (AAN hx);have hm:decide (out.length+[x].length≤Dh)=true:=by rw[AAb];simp[Dh];omega
  simp only[SM,PA hj,ABX,hx,ABT,WV (c:=c) (i:=x) hxm.1,O5 hj (by omega),ABU,hm];grind) (fun out=>by simp[SM]) n (by omega)
 have hcS:(RR w h c r.2.1 false).filter (fun k => !r.2.2.2.1||(O8 c k != 2||k==r.2.2.1))++[r.2.1]=Tl w h c r:=rfl;generalize hx9:(RR w h c r.2.1 false).filter (fun k => !r.2.2.2.1||(O8 c k != 2||k==r.2.2.1))=x9 at zK hcS;have hx9l:x9.length≤4:=by rw[←hx9];exact AAw (ABs _ _) m3
 generalize hj9:((RR w h c r.2.1 false).length:Int)=j9 at zK
 obtain⟨l,h1,h2,h3⟩:=bq (SN n r.1 r.2.1 r.2.2.1 r.2.2.2.1 r.2.2.2.2 F (x9,j9)) (fun a b=>RA r.2.1 (Uq c far a) (Uq c far b) a b) (Tl w h c r) nd (Wp _ _ _) (fun i x l hx hl tX wJ=>by
   have hi:i<(Tl w h c r).length:=by omega
   have hxr:=(rng x (AAN hx)).1
   have step:∀k y z,l[k]?=some y→RG r.1 r.2.1 r.2.2.1 r.2.2.2.1 r.2.2.2.2 F (x9,j9) (l,(i:Int)) (((k+1:Nat):Int),hole l (k+1) z)=some (bif RA r.2.1 (Uq c far x) (Uq c far y) x y then .inl ((k:Int),hole l k y)else .inr (((k+1:Nat):Int),hole l (k+1) z)):=by
    intro k y z hk;have hkl:k<l.length:=(AAH.1 hk).1;have hyr:=(rng y (wJ y (AAN hk))).1;have hw:O9 (((k+1:Nat):Int)-1)=(k:Int):=by rw[PC (by omega) (by omega)];omega
    have hi1:Ob (hole l (k+1) z) (k:Int)=true:=PA (by rw[Rx (by omega)];omega);have hi2:Ob (hole l (k+1) z) ((k+1:Nat):Int)=true:=PA (by rw[Rx (by omega)];omega);simp only[RG,hcS,hw,hi1,hi2,PA hi,hx,ABX,bH hk,ABT,iY hN s hfar hxr hyr,Pw,bU hk,ABU];rw[show decide (((k+1:Nat):Int)>0)=true by rw[AAb];omega];cases RA r.2.1 (Uq c far x) (Uq c far y) x y<;>rfl
   obtain⟨k,z,e,hk,q1,q2⟩:=fB (RG r.1 r.2.1 r.2.2.1 r.2.2.2.1 r.2.2.2.2 F (x9,j9) (l,(i:Int))) (fun y=>RA r.2.1 (Uq c far x) (Uq c far y) x y) l (fun k y z hk hy=>by rw[step k y z hk,hy];rfl) (fun k y z hk hy=>by rw[step k y z hk,hy];rfl) (fun z=>by simp[RG]) n (by omega) x;refine⟨k,hk,?_,q1,q2⟩;have hmr:decide (l.length+[x].length≤Dh)=true:=by rw[AAb];simp[Dh];omega
   simp only[SN,hcS,hmr,e,PA hi,hx,ABT,PA (show k<(hole l k z).length by rw[Rx hk];omega),ABX,Pw,Zs hk,O5 hi (by omega),ABU];grind) (fun l=>by simp[SN,hcS]) n (by omega)
 refine⟨l,?_,h2,h3⟩;have hm:decide (x9.length+[r.2.1].length≤Dh)=true:=by rw[AAb];simp[Dh];omega
 unfold Rj;simp only[Zi f s.dv false n hn,ABT,zK,hm,ABU,h1]
theorem Xa{w h:Int}{c:List Int}(hf:PS w h c=true){r:Rb}(s:Std c r):
  ∃F C,(∀n,PD≤n→S7 n w h c r.1 r.2.1 r.2.2.1 r.2.2.2.1 r.2.2.2.2=some F∧Rj n w h c r.1 r.2.1 r.2.2.1 r.2.2.2.1 r.2.2.2.2 F=some C∧T9 n w h c r.1 r.2.1 r.2.2.1 r.2.2.2.1 r.2.2.2.2=some C)∧
   (∀v∈C,(0≤v∧v<(c.length:Int))∧O8 c v≠0)∧C.Nodup∧C.length≤5:=by
 have f:=Ve hf;obtain⟨far,F,hfar⟩:=mT f s;obtain⟨B,b1,b2,b3⟩:=Xx f s PD (AAd _) hfar;obtain⟨pm,nd,rng,l5⟩:=Yx f s;refine⟨F,B,fun n hn=>⟨hfar.spec n hn,?_,?_⟩,fun v hv=>rng v (b2.mem_iff.1 hv),b2.nodup_iff.2 nd,by rw[b2.length_eq];exact l5⟩
 ·obtain⟨A,a1,a2,a3⟩:=Xx f s n hn hfar;rw[a1,ZF (Wp r.2.1 (Uq c far) (Tl w h c r)) a3 b3 a2 b2]
 ·obtain⟨A,a1,a2,a3⟩:=ag hf s n hn hfar;rw[a1,ZF (Wp r.2.1 (Uq c far) (Tl w h c r)) a3 b3 (a2.trans pm) b2]
theorem YN{l:List Int}{i k v:Int}(hi:0≤i∧i<(l.length:Int))(hk:0≤k):O8 (l.set i.toNat v) k=if k=i then v else O8 l k:=by unfold O8;grind
theorem gW{l:List Int}{v:Int}:v∈l↔∃k:Int,(0≤k∧k<(l.length:Int))∧O8 l k=v:=by
 constructor
 ·intro h;obtain⟨j,hj,e⟩:=ABY.1 h;exact⟨j,⟨by omega,by omega⟩,by rw[←e];simp[O8,List.getD,AAF hj]⟩
 ·rintro ⟨k,hk,rfl⟩
  exact(S8 hk).2.2
def YM(l:List Int):Nat:=l.countP fun x=>decide (x<0)
theorem ZV{l:List Int}{i v:Int}(hi:0≤i∧i<(l.length:Int)):YM (l.set i.toNat v)+(if O8 l i<0 then 1 else 0)=YM l+(if v<0 then 1 else 0):=by obtain⟨_,e1,m⟩:=S8 hi;obtain⟨hil,e2⟩:=AAH.1 e1;unfold YM;grind
structure kp(c:List Int)(crew:List Rb):Prop where
 aX:crew.length≤20
 jZ:∀i,0≤i→i<(crew.length:Int)→Std c (Pb crew i)
 cj:∀i j,0≤i→i<(crew.length:Int)→0≤j→j<(crew.length:Int)→(Pb crew i).2.1=(Pb crew j).2.1→i=j
def iS(c:List Int)(v:Int):Prop:=(0≤v∧v<(c.length:Int))∧O8 c v≠0
structure oc(c:List Int)(crew:List Rb)(next:List Int)(i p:Int):Prop where
 len:next.length=crew.length
 ir:0≤i∧i<(crew.length:Int)
 neg:O8 next i<0
 vals:∀k,0≤k→k<(crew.length:Int)→O8 next k = -1∨iS c (O8 next k)
 D:∀a b,0≤a→a<(crew.length:Int)→0≤b→b<(crew.length:Int)→0≤O8 next a→O8 next a=O8 next b→a=b
 U:∀j k,0≤j→j<(crew.length:Int)→0≤k→k<(crew.length:Int)→O8 next j<0→j≠i→O8 next k≠(Pb crew j).2.1
 T:∀k,0≤k→k<(crew.length:Int)→O8 next k=(Pb crew i).2.1→k=p
 ra:p = -1∨((0≤p∧p<(crew.length:Int))∧p≠i)
structure Kept(c:List Int)(crew:List Rb)(next next':List Int):Prop where
 len:next'.length=crew.length
 vals:∀k,0≤k→k<(crew.length:Int)→O8 next' k = -1∨iS c (O8 next' k)
 VU:∀k,0≤k→k<(crew.length:Int)→0≤O8 next k→O8 next' k=O8 next k
structure Good(c:List Int)(crew:List Rb)(next':List Int):Prop where
 D:∀a b,0≤a→a<(crew.length:Int)→0≤b→b<(crew.length:Int)→0≤O8 next' a→O8 next' a=O8 next' b→a=b
 U:∀j k,0≤j→j<(crew.length:Int)→0≤k→k<(crew.length:Int)→O8 next' j<0→O8 next' k≠(Pb crew j).2.1
structure ec(c:List Int)(crew:List Rb)(next:List Int)(i:Int)(b:Bool)(next':List Int):Prop where
 kept:Kept c crew next next'
 lp:YM next'+1≤YM next
 yes:b=true→Good c crew next'∧0≤O8 next' i
 no:b=false→O8 next' i=(Pb crew i).2.1∧∀k,0≤k→k<(crew.length:Int)→O8 next k<0→O8 next' k<0∨O8 next' k=(Pb crew k).2.1
theorem mg(w h:Int)(c:List Int)(crew:List Rb)(hl:crew.length≤20)(fields:List (List Int))(next:List Int)(hn1:next.length=crew.length)(v i:Int)(hi:0≤O8 next i)(n:Nat)(hn:PD≤n):
  ∃o,Sv n w h c crew next v i=some (o,w,h,c,crew,next)∧Wi n w h c crew fields next v=some (o,w,h,c,crew,fields,next)∧
   ((o = -1∧∀j,0≤j→j<(crew.length:Int)→(Pb crew j).2.1=v→0≤O8 next j)∨((0≤o∧o<(crew.length:Int))∧(Pb crew o).2.1=v∧O8 next o<0)):=by
 have hB:1048576≤n:=AAw (by decide) hn
 obtain⟨z,w',hS,h3,h4⟩:=YH (f:=RN w h c crew next v i) (g:=VN w h c crew fields next v)
  (fun x y=>∃k:Nat,x=(k:Int)∧y=(k:Int)∧k≤crew.length∧∀j,0≤j→j<(k:Int)→(Pb crew j).2.1=v→0≤O8 next j)
  (fun z y=>((∃a b,z=.inl a∧y=.inl b)∧∀j,0≤j→j<(crew.length:Int)→(Pb crew j).2.1=v→0≤O8 next j)∨∃o,z=.inr (o,w,h,c,crew,next)∧y=.inr (o,w,h,c,crew,fields,next)∧(0≤o∧o<(crew.length:Int))∧(Pb crew o).2.1=v∧O8 next o<0)
  (fun x=>crew.length-x.toNat) (fun x y hR=>by
   obtain⟨k,rfl,rfl,hk,uZ⟩:=hR;by_cases hk2:k=crew.length
   ·subst hk2;exact .inl ⟨.inl (crew.length:Int),.inl (crew.length:Int),by simp[RN],by simp[VN],.inl ⟨⟨_,_,rfl,rfl⟩,uZ⟩⟩
   ·have u7:k<crew.length:=by omega
    have hr:=ZX (crew:=crew) (i:=(k:Int)) ⟨by omega,by omega⟩;obtain⟨i1,i2,i3⟩:=S8 (out:=next) (v:=(k:Int)) ⟨by omega,by omega⟩;have hd:decide ((k:Int)<(crew.length:Int))=true:=by simpa using u7
    simp only[RN,VN,hd,hr,ABT,i1,i2,ABU,O5 u7 (by omega)];by_cases hv:(Pb crew (k:Int)).2.1=v
    ·by_cases hneg:O8 next (k:Int)<0
     ·have tj:((k:Int) != i)=true:=by rw[ABz];intro e;rw[e]at hneg;omega
      refine .inl ⟨.inr ((k:Int),w,h,c,crew,next),.inr ((k:Int),w,h,c,crew,fields,next),?_,?_,.inr ⟨_,rfl,rfl,⟨by omega,by omega⟩,hv,hneg⟩⟩
      all_goals grind
     ·refine .inr ⟨((k+1:Nat):Int),((k+1:Nat):Int),?_,?_,⟨k+1,rfl,rfl,by omega,fun j h0 h1 h2=>?_⟩,by omega⟩
      all_goals grind
    ·have hvb:((Pb crew (k:Int)).2.1==v)=false:=by simpa using hv
     refine .inr ⟨((k+1:Nat):Int),((k+1:Nat):Int),?_,?_,⟨k+1,rfl,rfl,by omega,fun j h0 h1 h2=>?_⟩,by omega⟩
     all_goals grind) n 0 0 ⟨0,rfl,rfl,by omega,fun j h0 h1=>by omega⟩ (by omega)
 rcases hS with⟨⟨a,b,rfl,rfl⟩,uZ⟩|⟨o,rfl,rfl,q1,q2,q3⟩
 ·exact⟨-1,by unfold Sv;rw[h3];rfl,by unfold Wi;rw[h4];rfl,.inl ⟨rfl,uZ⟩⟩
 ·exact⟨o,by unfold Sv;rw[h3];rfl,by unfold Wi;rw[h4];rfl,.inr ⟨q1,q2,q3⟩⟩
theorem kT{α:Type}{l:List α}{k:Nat}{v:α}(h:l[k]?=some v):l.set k v=l:=by obtain⟨hk,e⟩:=AAH.1 h;subst e;exact List.set_getElem_self hk
end Go.Ev.N
