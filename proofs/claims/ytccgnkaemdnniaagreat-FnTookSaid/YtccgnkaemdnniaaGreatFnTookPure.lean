/- FnTook,as a plain law kg native forms: what the program's function answers is what the reference's answers. Conditions: none but the lengths' and numbers' bounds. -/
import Derived.Test.YtccgnkaemdnniaaGreatFnTookPureB
set_option linter.all false
namespace Go.Ev.N
open Go Go.Ev
def OG(crew:List Rb)(p:Int):Int:=if 0≤p then(Pe crew p).2.1 else -1
structure lX(w h:Int)(c:List Int)(crew:List Rb)(fields:List (List Int)):Prop where
 len:fields.length=crew.length
 each:∀i,0≤i→i<(crew.length:Int)→∃F C,fields[i.toNat]?=some F∧(∀n,PJ≤n→Ro n w h c (Pe crew i).1 (Pe crew i).2.1 (Pe crew i).2.2.1 (Pe crew i).2.2.2.1 (Pe crew i).2.2.2.2 F=some C∧
  UH n w h c (Pe crew i).1 (Pe crew i).2.1 (Pe crew i).2.2.1 (Pe crew i).2.2.2.1 (Pe crew i).2.2.2.2=some C)∧(∀v∈C,iD c v)∧C.length≤5
structure LI(c:List Int)(crew:List Rb)(next:List Int)(i p:Int)(nI nS:List Int):Prop where
 pre:oL c crew nI i p
 TN:∀k,0≤k→k<(crew.length:Int)→0≤PC next k→PC nI k=PC next k
 lH:∀k,0≤k→k<(crew.length:Int)→PC next k<0→PC nI k<0∨PC nI k=(Pe crew k).2.1
 lI:YF nI≤YF next
 st:nS=nI∨∃v,nS=nI.set i.toNat v∧0≤v∧∃k,(0≤k∧k<(crew.length:Int))∧k≠i∧PC nI k=v
section
variable {c:List Int}{crew:List Rb}{next nI nS:List Int}{i p:Int}
theorem LI.Nt(h:LI c crew next i p nI nS):nS.length=crew.length:=by
 rcases h.st with rfl|⟨v,rfl,_⟩
 ·exact h.pre.len
 ·rw[List.length_set];exact h.pre.len
theorem LI.any(h:LI c crew next i p nI nS){v:Int}(hv:0≤v):(nS.any fun x=>x==v)=nI.any fun x=>x==v:=by
 rcases h.st with rfl|⟨u,rfl,hu,k,hk,hki,hku⟩
 ·rfl
 ·have hlen:=h.pre.len;have hi:=h.pre.ir;rw[AB3,AA6,AA6];simp only[AAS];constructor
  ·rintro ⟨x,hx,rfl⟩
   rcases ABA hx with hx|rfl
   ·grind
   ·exact⟨x,gH.2 ⟨k,by omega,hku⟩,rfl⟩
  ·rintro ⟨x,hx,rfl⟩
   obtain⟨j,hj,e⟩:=gH.1 hx;refine⟨x,gH.2 ⟨j,by grind,?_⟩,rfl⟩;rw[YG (by omega) hj.1,AAM,e]
   rintro rfl
   have:=h.pre.neg;omega
theorem LI.set(h:LI c crew next i p nI nS)(v:Int):nS.set i.toNat v=nI.set i.toNat v:=by
 rcases h.st with rfl|⟨u,rfl,_⟩
 ·rfl
 ·rw[List.set_set]
theorem LI.iO(hcr:kN c crew)(h:LI c crew next i p nI nS){v:Int}(hv:iD c v)(hnt:∀k,0≤k→k<(crew.length:Int)→PC nI k≠v)(xN:∀j,0≤j→j<(crew.length:Int)→(Pe crew j).2.1=v→0≤PC (nI.set i.toNat v) j)(hneg0:PC next i<0):
  eH c crew next i true (nI.set i.toNat v):=by
 have hlen:=h.pre.len;have hi:=h.pre.ir;have hi2:0≤i∧i<(nI.length:Int):=by rw[hlen];exact hi
 have hs:∀k,0≤k→PC (nI.set i.toNat v) k=if k=i then v else PC nI k:=fun k hk=>YG hi2 hk
 refine⟨⟨by simp[hlen],fun k h0 h1=>?_,fun k h0 h1 h2=>?_⟩,?_,fun _=>⟨⟨fun a b a0 a1 b0 b1 hna zF=>?_,fun j k j0 j1 k0 k1 hnj hkj=>?_⟩,?_⟩,fun hb=>by cases hb⟩
 ·rw[hs k h0];split
  ·exact .inr hv
  ·exact h.pre.vals k h0 h1
 ·rw[hs k h0,AAM (by grind)];exact h.TN k h0 h1 h2
 ·have:=ZO (l:=nI) (i:=i) (v:=v) hi2;rw[AAK h.pre.neg,AAM (by have:=hv.1;omega)]at this;have:=h.lI;omega
 ·rw[hs a a0,hs b b0]at zF;rw[hs a a0]at hna;split at zF<;>split at zF
  ·omega
  ·grind
  ·grind
  ·rw[AAM (by assumption)]at hna;exact h.pre.D a b a0 a1 b0 b1 hna zF
 ·rw[hs k k0]at hkj
  have hji:j≠i:=by
   rintro rfl
   rw[hs j j0,AAK rfl]at hnj;have:=hv.1;omega
  have hnj':PC nI j<0:=by rw[hs j j0,AAM hji]at hnj;exact hnj
  split at hkj
  ·grind
  ·exact h.pre.U j k j0 j1 k0 k1 hnj' hji hkj
 ·rw[hs i hi.1,AAK rfl];exact hv.1.1
theorem LI.push(hcr:kN c crew)(h:LI c crew next i p nI nS){v o:Int}(hv:iD c v)(hnt:∀k,0≤k→k<(crew.length:Int)→PC nI k≠v)(ho:0≤o∧o<(crew.length:Int))(hov:(Pe crew o).2.1=v)(hon:PC (nI.set i.toNat v) o<0):
  oL c crew (nI.set i.toNat v) o i∧YF (nI.set i.toNat v)+1=YF nI∧o≠i:=by
 have hlen:=h.pre.len;have hi:=h.pre.ir;have hi2:0≤i∧i<(nI.length:Int):=by rw[hlen];exact hi
 have hs:∀k,0≤k→PC (nI.set i.toNat v) k=if k=i then v else PC nI k:=fun k hk=>YG hi2 hk
 have hoi:o≠i:=by
  rintro rfl
  rw[hs o ho.1,AAK rfl]at hon;have:=hv.1;omega
 have yn:=ZO (l:=nI) (i:=i) (v:=v) hi2;rw[AAK h.pre.neg,AAM (by have:=hv.1;omega)]at yn;refine⟨⟨by simp[hlen],ho,hon,fun k h0 h1=>?_,fun a b a0 a1 b0 b1 hna zF=>?_,fun j k j0 j1 k0 k1 hnj hjo hkj=>?_,fun k k0 k1 hk=>?_,.inr ⟨hi,hoi.symm⟩⟩,by omega,hoi⟩
 ·rw[hs k h0];split
  ·exact .inr hv
  ·exact h.pre.vals k h0 h1
 ·rw[hs a a0,hs b b0]at zF;rw[hs a a0]at hna;split at zF<;>split at zF
  ·omega
  ·exact absurd zF.symm (hnt b b0 b1)
  ·exact absurd zF (hnt a a0 a1)
  ·rw[AAM (by assumption)]at hna;exact h.pre.D a b a0 a1 b0 b1 hna zF
 ·rw[hs k k0]at hkj
  have hji:j≠i:=by
   rintro rfl
   rw[hs j j0,AAK rfl]at hnj;have:=hv.1;omega
  have hnj':PC nI j<0:=by rw[hs j j0,AAM hji]at hnj;exact hnj
  split at hkj
  ·exact hjo (hcr.cQ j o j0 j1 ho.1 ho.2 (by rw[←hkj,hov]))
  ·exact h.pre.U j k j0 j1 k0 k1 hnj' hji hkj
 grind
theorem LI.rK(h:LI c crew next i p nI nS){v o:Int}(hv:iD c v)(yn:YF (nI.set i.toNat v)+1=YF nI){n2:List Int}(hp:eH c crew (nI.set i.toNat v) o true n2)(hneg0:PC next i<0):eH c crew next i true n2:=by
 have hlen:=h.pre.len;have hi:=h.pre.ir;have hi2:0≤i∧i<(nI.length:Int):=by rw[hlen];exact hi
 have hs:∀k,0≤k→PC (nI.set i.toNat v) k=if k=i then v else PC nI k:=fun k hk=>YG hi2 hk
 obtain⟨g,_⟩:=hp.yes rfl;refine⟨⟨hp.kept.len,hp.kept.vals,fun k h0 h1 h2=>?_⟩,?_,fun _=>⟨g,?_⟩,fun hb=>by cases hb⟩
 ·have hki:k≠i:=by rintro rfl;omega
  have e:=h.TN k h0 h1 h2;have:=hp.kept.TN k h0 h1 (by rw[hs k h0,AAM hki,e];exact h2);grind
 ·have:=hp.lI;have:=h.lI;omega
 ·have:=hp.kept.TN i hi.1 hi.2 (by rw[hs i hi.1,AAK rfl];exact hv.1.1);rw[this,hs i hi.1,AAK rfl];exact hv.1.1
theorem LI.ri(hcr:kN c crew)(h:LI c crew next i p nI nS){v o:Int}(hv:iD c v)(hnt:∀k,0≤k→k<(crew.length:Int)→PC nI k≠v)(ho:0≤o∧o<(crew.length:Int))(hov:(Pe crew o).2.1=v)(hoi:o≠i)(hon:PC (nI.set i.toNat v) o<0)
  (yn:YF (nI.set i.toNat v)+1=YF nI) {n2:List Int} (hp:eH c crew (nI.set i.toNat v) o false n2):LI c crew next i p (n2.set i.toNat (-1)) n2:=by
 have hlen:=h.pre.len;have hi:=h.pre.ir;have hi2:0≤i∧i<(nI.length:Int):=by rw[hlen];exact hi
 have hs:∀k,0≤k→PC (nI.set i.toNat v) k=if k=i then v else PC nI k:=fun k hk=>YG hi2 hk
 have yg:=hp.kept.len;have hi3:0≤i∧i<(n2.length:Int):=by rw[yg];exact hi
 have ht:∀k,0≤k→PC (n2.set i.toNat (-1)) k=if k=i then -1 else PC n2 k:=fun k hk=>YG hi3 hk
 obtain⟨no1,no2⟩:=hp.no rfl
 have n2i:PC n2 i=v:=by have:=hp.kept.TN i hi.1 hi.2 (by rw[hs i hi.1,AAK rfl];exact hv.1.1);rw[this,hs i hi.1,AAK rfl]
 have oth:∀k,0≤k→k<(crew.length:Int)→k≠i→(0≤PC nI k∧PC n2 k=PC nI k)∨(PC nI k<0∧(PC n2 k<0∨PC n2 k=(Pe crew k).2.1)):=by
  intro k h0 h1 hki;by_cases hk:PC nI k<0
  ·right;refine⟨hk,no2 k h0 h1 ?_⟩;rw[hs k h0,AAM hki];exact hk
  ·left;refine⟨by omega,?_⟩;have:=hp.kept.TN k h0 h1 (by rw[hs k h0,AAM hki];omega);rw[this,hs k h0,AAM hki]
 have u3:∀k,0≤k→k<(crew.length:Int)→0≤(Pe crew k).2.1:=fun k h0 h1=>(hcr.jH k h0 h1).dX.1;refine⟨⟨by simp[yg],hi,by rw[ht i hi.1,AAK rfl];omega,fun k h0 h1=>?_,fun a b a0 a1 b0 b1 hna zF=>?_,fun j k j0 j1 k0 k1 hnj hji hkj=>?_,fun k k0 k1 hk=>?_,h.pre.rR⟩,fun k h0 h1 h2=>?_,fun k h0 h1 h2=>?_,?_,.inr ⟨v,?_,hv.1.1,o,ho,hoi,?_⟩⟩
 ·rw[ht k h0];split
  ·exact .inl rfl
  ·exact hp.kept.vals k h0 h1
 ·rw[ht a a0,ht b b0]at zF;rw[ht a a0]at hna;by_cases hai:a=i
  ·rw[AAK hai]at hna;omega
  ·rw[AAM hai]at hna zF;by_cases hbi:b=i
   ·rw[AAK hbi]at zF;omega
   ·rw[AAM hbi]at zF;rcases oth a a0 a1 hai with⟨ha1,ha2⟩|⟨ha1,ha2⟩
    ·rcases oth b b0 b1 hbi with⟨vC,wA⟩|⟨vC,wA⟩
     ·rw[ha2,wA]at zF;exact h.pre.D a b a0 a1 b0 b1 ha1 zF
     ·rcases wA with wA|wA
      ·omega
      ·rw[ha2,wA]at zF;exact absurd zF (h.pre.U b a b0 b1 a0 a1 vC hbi)
    ·rcases ha2 with ha2|ha2
     ·omega
     ·rcases oth b b0 b1 hbi with⟨vC,wA⟩|⟨vC,wA⟩
      ·rw[ha2,wA]at zF;exact absurd zF.symm (h.pre.U a b a0 a1 b0 b1 ha1 hai)
      ·rcases wA with wA|wA
       ·omega
       ·rw[ha2,wA]at zF;exact hcr.cQ a b a0 a1 b0 b1 zF
 ·rw[ht j j0,AAM hji]at hnj;rw[ht k k0]at hkj
  have hjI:PC nI j<0:=by
   rcases oth j j0 j1 hji with⟨h1,h2⟩|⟨h1,_⟩
   ·omega
   ·exact h1
  by_cases hki:k=i
  ·rw[AAK hki]at hkj;have:=u3 j j0 j1;omega
  ·rw[AAM hki]at hkj;rcases oth k k0 k1 hki with⟨h1,h2⟩|⟨h1,h2⟩
   ·rw[h2]at hkj;exact h.pre.U j k j0 j1 k0 k1 hjI hji hkj
   ·rcases h2 with h2|h2
    ·have:=u3 j j0 j1;omega
    ·rw[h2]at hkj;have:=hcr.cQ k j k0 k1 j0 j1 hkj;subst this;have:=u3 k k0 k1;omega
 ·rw[ht k k0]at hk;have:=u3 i hi.1 hi.2;by_cases hki:k=i
  ·rw[AAK hki]at hk;omega
  ·rw[AAM hki]at hk;rcases oth k k0 k1 hki with⟨h1,h2⟩|⟨h1,h2⟩
   ·rw[h2]at hk;exact h.pre.T k k0 k1 hk
   ·rcases h2 with h2|h2
    ·omega
    ·rw[h2]at hk;exact absurd (hcr.cQ k i k0 k1 hi.1 hi.2 hk) hki
 ·have e:=h.TN k h0 h1 h2
  have hki:k≠i:=by
   rintro rfl
   have:=h.pre.neg;omega
  rw[ht k h0,AAM hki];rcases oth k h0 h1 hki with⟨_,h4⟩|⟨h3,_⟩
  ·rw[h4,e]
  ·omega
 ·rw[ht k h0];by_cases hki:k=i
  ·rw[AAK hki];exact .inl (by omega)
  ·rw[AAM hki];rcases h.lH k h0 h1 h2 with h3|h3
   ·rcases oth k h0 h1 hki with⟨h4,_⟩|⟨_,h5⟩
    ·omega
    ·exact h5
   ·rcases oth k h0 h1 hki with⟨_,h5⟩|⟨h4,h5⟩
    ·rw[h5];exact .inr h3
    ·exact h5
 ·have q1:=ZO (l:=n2) (i:=i) (v := -1) hi3;rw[n2i,AAM (by have:=hv.1;omega),AAK (by omega)]at q1;have:=hp.lI;have:=h.lI;omega
 ·rw[List.set_set];exact(kG (by rw[←n2i];exact(TH hi3).2.1)).symm
 grind
theorem LI.stays(hcr:kN c crew)(h:LI c crew next i p nI nS):eH c crew next i false (nI.set i.toNat (Pe crew i).2.1):=by
 have hlen:=h.pre.len;have hi:=h.pre.ir;have hi2:0≤i∧i<(nI.length:Int):=by rw[hlen];exact hi
 have hs:∀k,0≤k→PC (nI.set i.toNat (Pe crew i).2.1) k=if k=i then(Pe crew i).2.1 else PC nI k:=fun k hk=>YG hi2 hk
 have v7:=hcr.jH i hi.1 hi.2;refine⟨⟨by simp[hlen],fun k h0 h1=>?_,fun k h0 h1 h2=>?_⟩,?_,fun hb=>(by cases hb),fun _=>⟨by grind,fun k h0 h1 h2=>?_⟩⟩
 ·rw[hs k h0];split
  ·exact .inr ⟨v7.dX,v7.oM⟩
  ·exact h.pre.vals k h0 h1
 ·have e:=h.TN k h0 h1 h2;rw[hs k h0,AAM (by rintro rfl;have:=h.pre.neg;omega),e]
 ·have:=ZO (l:=nI) (i:=i) (v:=(Pe crew i).2.1) hi2;rw[AAK h.pre.neg,AAM (by have:=v7.dX;omega)]at this;have:=h.lI;omega
 ·rw[hs k h0];by_cases hki:k=i
  ·grind
  ·rw[AAM hki];exact h.lH k h0 h1 h2
end
theorem dE{w h:Int}{c:List Int}{crew:List Rb}(hcr:kN c crew){fields:List (List Int)}(zK:lX w h c crew fields):∀(m:Nat)(next:List Int)(i p:Int),oL c crew next i p→PJ+YF next+1≤m→
  ∃b next',Qg m w h c crew next i p=some (b,w,h,c,crew,next')∧QZ m w h c crew fields next i (OG crew p)=some (b,w,h,c,crew,fields,next')∧eH c crew next i b next'
 |0,next,i,p,yL,hm=>absurd hm (by omega)
 |m+1,next,i,p,yL,hm=>by
  have hir:=yL.ir;have hneg0:=yL.neg;have wV:0<YF next:=List.countP_pos_iff.2 ⟨PC next i,(TH (by rw[yL.len];exact hir)).2.2,by grind⟩
  have hB:PJ≤m:=by omega
  have hB2:1048576≤m:=AAw (by decide) hB;have hr:=ZR hir;obtain⟨F,C,hF,hC,hCv,hC5⟩:=zK.each i hir.1 hir.2;obtain⟨hC1,hC2⟩:=hC m hB
  have hif:Ob fields i=true:=by obtain⟨k,rfl⟩:∃k:Nat,i=k:=⟨i.toNat,by omega⟩;exact PE (by grind)
  have hn20:=hcr.Zx
  obtain⟨z,y,hS,e1,e2⟩:=YB (f:=P3 (Qg m) m i p C) (g:=QV (QZ m) m i (OG crew p) (Pe crew i) C)
   (fun x y=>∃(k:Nat) (nI nS:List Int),x=((k:Int),w,h,c,crew,nI)∧y=((k:Int),w,h,c,crew,fields,nS)∧k≤C.length∧LI c crew next i p nI nS)
   (fun z y=>(∃(k:Int) (nI nS:List Int),z=.inl (k,w,h,c,crew,nI)∧y=.inl (k,w,h,c,crew,fields,nS)∧LI c crew next i p nI nS)∨∃n2:List Int,z=.inr (true,w,h,c,crew,n2)∧y=.inr (true,w,h,c,crew,fields,n2)∧eH c crew next i true n2)
   (fun x=>C.length-x.1.toNat) (fun x y hR=>by
    obtain⟨k,nI,nS,rfl,rfl,hk,hLI⟩:=hR;by_cases hk2:k=C.length
    ·subst hk2;exact .inl ⟨.inl ((C.length:Int),w,h,c,crew,nI),.inl ((C.length:Int),w,h,c,crew,fields,nS),by simp[P3],by simp[QV],.inl ⟨_,nI,nS,rfl,rfl,hLI⟩⟩
    ·have u7:k<C.length:=by omega
     have hx:C[k]?=some C[k]:=AAF u7;have hv:=hCv C[k] (ABW u7);generalize C[k]=v at hx hv;have hd:decide ((k:Int)<(C.length:Int))=true:=by simpa using u7
     have hlenI:=hLI.pre.len;have hlenS:=hLI.Nt;have hiI:Ob nI i=true:=(TH (by omega)).1;have hiS:Ob nS i=true:=(TH (by omega)).1
     have t1:Ut m w h c crew nI v=some ((nI.any fun x=>x==v),w,h,c,crew,nI):=by unfold Ut;rw[XL,QC nI (by omega) v m hB];rfl
     have t2:QY m nS v=some (nI.any fun x=>x==v):=by rw[QC nS (by omega) v m hB,hLI.any hv.1.1]
     have t3:(bif decide (p≥0)then(M8 crew p).bind fun(x7:Rb)=>some (v==x7.2.1,w,h,c,crew,nI)else some (false,w,h,c,crew,nI))=some ((v==OG crew p),w,h,c,crew,nI):=by
      rcases yL.rR with rfl|⟨hp1,xg⟩
      ·have:(v==OG crew (-1))=false:=by unfold OG;rw[AAM (by omega),ABa];have:=hv.1;omega
       grind
      ·rw[ABZ (show p≥0 from hp1.1),ABU,ZR hp1,ABT];unfold OG;grind
     have hcur:∀ {a b:Nat},a=b+1→True:=fun _=>trivial;by_cases hskip:((nI.any fun x=>x==v)||(v==OG crew p))=true
     ·refine .inr ⟨(((k+1:Nat):Int),w,h,c,crew,nI),(((k+1:Nat):Int),w,h,c,crew,fields,nS),?_,?_,⟨k+1,nI,nS,rfl,rfl,by omega,hLI⟩,by omega⟩
      ·simp only[P3,hd,PE u7,ABX,hx,ABT,t1,t3,O9 u7 (by omega),ABU];grind
      ·simp only[QV,hd,PE u7,ABX,hx,ABT,t2,O9 u7 (by omega),ABU];grind
     ·have w4:(nI.any fun x=>x==v)=false:=by
       cases hq:(nI.any fun x=>x==v)with
       |false=>rfl
       |true=>grind
      have w5:(v==OG crew p)=false:=by
       cases hq:(v==OG crew p)with
       |false=>rfl
       |true=>grind
      have hnt:∀k,0≤k→k<(crew.length:Int)→PC nI k≠v:=fun k h0 h1 e=>by have:=List.any_eq_false.1 w4 (PC nI k) (TH (by rw[hlenI];exact⟨h0,h1⟩)).2.2;grind
      have vq:=hLI.set v;have hn1:PC (nI.set i.toNat v) i=v:=by rw[YG (by omega) hir.1,AAK rfl]
      obtain⟨o,w1,w2,hwho⟩:=mL w h c crew hn20 fields (nI.set i.toNat v) (by simp[hlenI]) v i (by rw[hn1];exact hv.1.1) m hB;rcases hwho with⟨rfl,xN⟩|⟨ho,hov,hon⟩
      ·refine .inl ⟨.inr (true,w,h,c,crew,nI.set i.toNat v),.inr (true,w,h,c,crew,fields,nI.set i.toNat v),?_,?_,.inr ⟨_,rfl,rfl,hLI.iO hcr hv hnt xN hneg0⟩⟩
       ·simp only[P3,hd,PE u7,ABX,hx,ABT,t1,t3,ABU,w4,w5,ABV,hiI,P5,w1];rfl
       ·simp only[QV,hd,PE u7,ABX,hx,ABT,t2,ABU,w4,w5,ABV,hiS,P5,vq,w2];rfl
      ·obtain⟨hpre2,yn,hoi⟩:=hLI.push hcr hv hnt ho hov hon;obtain⟨b,n2,r1,r2,hpost⟩:=dE hcr zK m (nI.set i.toNat v) o i hpre2 (by have:=hLI.lI;omega);have hfi:OG crew i=(Pe crew i).2.1:=by unfold OG;omega
       rw[hfi]at r2;have ho0:decide (o<0)=false:=by rw[AAf];omega
       have wQ:decide (o≥0)=true:=by rw[AAb];omega
       cases b with
       |true=>
        refine .inl ⟨.inr (true,w,h,c,crew,n2),.inr (true,w,h,c,crew,fields,n2),?_,?_,.inr ⟨_,rfl,rfl,hLI.rK hv yn hpost hneg0⟩⟩
        ·simp only[P3,hd,PE u7,ABX,hx,ABT,t1,t3,ABU,w4,w5,ABV,hiI,P5,w1,ho0,r1]
        ·simp only[QV,hd,PE u7,ABX,hx,ABT,t2,ABU,w4,w5,ABV,hiS,P5,vq,w2,wQ,r2,ABc]
       |false=>
        have hi2:Ob n2 i=true:=(TH (by rw[hpost.kept.len];exact hir)).1;refine .inr ⟨(((k+1:Nat):Int),w,h,c,crew,n2.set i.toNat (-1)),(((k+1:Nat):Int),w,h,c,crew,fields,n2),?_,?_,⟨k+1,_,n2,rfl,rfl,by omega,hLI.ri hcr hv hnt ho hov hoi hon yn hpost⟩,by omega⟩
        ·simp only[P3,hd,PE u7,ABX,hx,ABT,t1,t3,ABU,w4,w5,ABV,hiI,P5,w1,ho0,r1,hi2,O9 u7 (by omega)]
        ·simp only[QV,hd,PE u7,ABX,hx,ABT,t2,ABU,w4,w5,ABV,hiS,P5,vq,w2,wQ,r2,ABm,O9 u7 (by omega)]) m (0,w,h,c,crew,next) (0,w,h,c,crew,fields,next)
   ⟨0,next,next,rfl,rfl,by omega,⟨yL,fun k _ _ _=>rfl,fun k _ _ hk=>.inl hk,AAd _,.inl rfl⟩⟩ (by omega)
  rcases hS with⟨k,nI,nS,rfl,rfl,hLI⟩|⟨n2,rfl,rfl,hpost⟩
  ·have hiI:Ob nI i=true:=(TH (by rw[hLI.pre.len];exact hir)).1;have hiS:Ob nS i=true:=(TH (by rw[hLI.Nt];exact hir)).1;refine⟨false,nI.set i.toNat (Pe crew i).2.1,?_,?_,hLI.stays hcr⟩
   ·simp only[Qg,hr,ABT,hC2,e1,hiI,ABU,P5]
   ·simp only[QZ,hr,ABT,hif,ABU,hF,hC1,e2,hiS,P5,hLI.set]
  ·refine⟨true,n2,?_,?_,hpost⟩
   ·simp only[Qg,hr,ABT,hC2,e1]
   ·simp only[QZ,hr,ABT,hif,ABU,hF,hC1,e2]
theorem ix{c:List Int}{crew:List Rb}(hcr:kN c crew){next next':List Int}{i:Int}{b:Bool}(hlen:next.length=crew.length)(hi:0≤i∧i<(crew.length:Int))(hg:Good c crew next)(hp:eH c crew next i b next'):Good c crew next'∧0≤PC next' i:=by
 cases b with
 |true=>exact hp.yes rfl
 |false=>
  obtain⟨n1,n2⟩:=hp.no rfl;have u3:∀k,0≤k→k<(crew.length:Int)→0≤(Pe crew k).2.1:=fun k h0 h1=>(hcr.jH k h0 h1).dX.1
  have oth:∀k,0≤k→k<(crew.length:Int)→(0≤PC next k∧PC next' k=PC next k)∨(PC next k<0∧(PC next' k<0∨PC next' k=(Pe crew k).2.1)):=by
   intro k h0 h1;by_cases hk:PC next k<0
   ·grind
   ·exact .inl ⟨by omega,hp.kept.TN k h0 h1 (by omega)⟩
  refine⟨⟨fun a b a0 a1 b0 b1 hna zF=>?_,fun j k j0 j1 k0 k1 hnj hkj=>?_⟩,by grind⟩
  ·rcases oth a a0 a1 with⟨ha1,ha2⟩|⟨ha1,ha2⟩
   ·rcases oth b b0 b1 with⟨vC,wA⟩|⟨vC,wA⟩
    ·rw[ha2,wA]at zF;exact hg.D a b a0 a1 b0 b1 ha1 zF
    ·rcases wA with wA|wA
     ·omega
     ·rw[ha2,wA]at zF;exact absurd zF (hg.U b a b0 b1 a0 a1 vC)
   ·rcases ha2 with ha2|ha2
    ·omega
    ·rcases oth b b0 b1 with⟨vC,wA⟩|⟨vC,wA⟩
     ·rw[ha2,wA]at zF;exact absurd zF.symm (hg.U a b a0 a1 b0 b1 ha1)
     ·rcases wA with wA|wA
      ·omega
      ·rw[ha2,wA]at zF;exact hcr.cQ a b a0 a1 b0 b1 zF
  ·have hjn:PC next j<0:=by
    rcases oth j j0 j1 with⟨h1,h2⟩|⟨h1,_⟩
    ·omega
    ·exact h1
   rcases oth k k0 k1 with⟨h1,h2⟩|⟨h1,h2⟩
   ·rw[h2]at hkj;exact hg.U j k j0 j1 k0 k1 hjn hkj
   ·rcases h2 with h2|h2
    ·grind
    ·rw[h2]at hkj;have:=hcr.cQ k j k0 k1 j0 j1 hkj;grind
structure Next(c:List Int)(crew:List Rb)(next:List Int):Prop where
 len:next.length=crew.length
 ra:∀k,0≤k→k<(crew.length:Int)→iD c (PC next k)
 D:∀a b,0≤a→a<(crew.length:Int)→0≤b→b<(crew.length:Int)→PC next a=PC next b→a=b
theorem step_loop{w h:Int}{c:List Int}{crew:List Rb}(hcr:kN c crew){fields:List (List Int)}(zK:lX w h c crew fields)(T:List Int)(hT:T.Perm (idx crew.length))(n:Nat)(hn:PJ+1000≤n):
  ∃(k k':Int) (next:List Int),iter n (S1 n T) (0,w,h,c,crew,List.replicate crew.length (-1))=some (k,w,h,c,crew,next)∧iter n (Rp n T) (0,w,h,c,crew,fields,List.replicate crew.length (-1))=some (k',w,h,c,crew,fields,next)∧Next c crew next:=by
 have hTl:T.length=crew.length:=by rw[hT.length_eq,YU]
 have hB1:1048576≤n:=AAw (AAw (by decide:1048576≤PJ) (AB1 _ _)) hn;have hn20:=hcr.Zx
 obtain⟨z,y,⟨k,k',next,rfl,rfl,hN⟩,e1,e2⟩:=YB (f:=S1 n T) (g:=Rp n T)
  (fun x y=>∃(k:Nat) (next:List Int),x=((k:Int),w,h,c,crew,next)∧y=((k:Int),w,h,c,crew,fields,next)∧k≤T.length∧next.length=crew.length∧(∀j,0≤j→j<(crew.length:Int)→PC next j = -1∨iD c (PC next j))∧Good c crew next∧∀j∈T.take k,0≤PC next j)
  (fun z y=>∃(k k':Int) (next:List Int),z=(k,w,h,c,crew,next)∧y=(k',w,h,c,crew,fields,next)∧Next c crew next)
  (fun x=>T.length-x.1.toNat) (fun x y hR=>by
   obtain⟨k,next,rfl,rfl,hk,hlen,hvals,hg,hdone⟩:=hR;by_cases hk2:k=T.length
   ·subst hk2;refine .inl ⟨((T.length:Int),w,h,c,crew,next),((T.length:Int),w,h,c,crew,fields,next),by simp[S1],by simp[Rp],_,_,next,rfl,rfl,?_⟩;rw[List.take_length]at hdone;have uh:∀j,0≤j→j<(crew.length:Int)→0≤PC next j:=fun j h0 h1=>hdone j (hT.mem_iff.2 (YV.2 ⟨h0,h1⟩))
    refine⟨hlen,fun j h0 h1=>?_,fun a b a0 a1 b0 b1 zF=>hg.D a b a0 a1 b0 b1 (uh a a0 a1) zF⟩;rcases hvals j h0 h1 with hv|hv
    ·have:=uh j h0 h1;omega
    ·exact hv
   ·right;have u7:k<T.length:=by omega
    have hx:T[k]?=some T[k]:=AAF u7;have hir:=YV.1 (hT.mem_iff.1 (ABW u7));have htk:T.take (k+1)=T.take k++[T[k]]:=ABe u7;generalize T[k]=i at hx hir htk;have hd:decide ((k:Int)<(T.length:Int))=true:=by simpa using u7
    obtain⟨i1,i2,_⟩:=TH (out:=next) (v:=i) (by rw[hlen];exact hir);have hdec:T.length-((k+1:Nat):Int).toNat<T.length-(k:Int).toNat:=by omega
    by_cases hneg:PC next i<0
    ·have yL:oL c crew next i (-1):=⟨hlen,hir,hneg,hvals,hg.D,fun j k j0 j1 k0 k1 h1 _=>hg.U j k j0 j1 k0 k1 h1,fun k k0 k1 hk=>absurd hk (hg.U i k hir.1 hir.2 k0 k1 hneg),.inl rfl⟩
     have hngs:YF next≤20:=by have:=List.countP_le_length (p:=fun x:Int=>decide (x<0)) (l:=next);unfold YF;omega
     obtain⟨b,next',r1,r2,hp⟩:=dE hcr zK n next i (-1) yL (AAw (by rw[Nat.add_assoc];exact Nat.add_le_add_left (by omega) _) hn)
     have hf1:OG crew (-1) = -1:=by unfold OG;rw[AAM (by omega)]
     rw[hf1]at r2;obtain⟨hg',vF⟩:=ix hcr hlen hir hg hp;refine⟨(((k+1:Nat):Int),w,h,c,crew,next'),(((k+1:Nat):Int),w,h,c,crew,fields,next'),?_,?_,⟨k+1,next',rfl,rfl,by omega,hp.kept.len,hp.kept.vals,hg',fun j hj=>?_⟩,hdec⟩
     ·simp only[S1,hd,PE u7,ABX,hx,ABT,i1,i2,ABZ hneg,ABU,r1,O9 u7 (by omega)]
     ·simp only[Rp,hd,PE u7,ABX,hx,ABT,i1,i2,ABZ hneg,ABU,r2,O9 u7 (by omega)]
     ·rw[htk]at hj;rcases AAy.1 hj with hj|hj
      ·have hjr:=YV.1 (hT.mem_iff.1 (ACG hj));have:=hdone j hj;rw[hp.kept.TN j hjr.1 hjr.2 this];exact this
      ·rw[AA8.1 hj];exact vF
    ·refine⟨(((k+1:Nat):Int),w,h,c,crew,next),(((k+1:Nat):Int),w,h,c,crew,fields,next),?_,?_,⟨k+1,next,rfl,rfl,by omega,hlen,hvals,hg,fun j hj=>?_⟩,hdec⟩
     ·simp only[S1,hd,PE u7,ABX,hx,ABT,i1,i2,ABd hneg,ABU,ABV,O9 u7 (by omega)]
     ·simp only[Rp,hd,PE u7,ABX,hx,ABT,i1,i2,ABd hneg,ABU,ABV,O9 u7 (by omega)]
     ·rw[htk]at hj;rcases AAy.1 hj with hj|hj
      ·exact hdone j hj
      ·rw[AA8.1 hj];exact Int.not_lt.1 hneg) n (0,w,h,c,crew,List.replicate crew.length (-1)) (0,w,h,c,crew,fields,List.replicate crew.length (-1))
  (by
   have hr:∀j,0≤j→j<(crew.length:Int)→PC (List.replicate crew.length (-1:Int)) j = -1:=fun j h0 h1=>by unfold PC;rw[List.getD_eq_getElem?_getD,List.getElem?_replicate,AAK (by omega)];rfl
   refine⟨0,List.replicate crew.length (-1),rfl,rfl,by omega,by simp,fun j h0 h1=>.inl (hr j h0 h1),⟨fun a b a0 a1 _ _ hna _=>?_,fun j k j0 j1 k0 k1 _ hkj=>?_⟩,fun j hj=>by simp at hj⟩
   ·rw[hr a a0 a1]at hna;omega
   ·rw[hr k k0 k1]at hkj;have:=(hcr.jH j j0 j1).dX;omega) (by show T.length-(0:Int).toNat<n;exact AA7 (by omega:T.length-(0:Int).toNat<1048576) hB1)
 grind
theorem kU{w h:Int}{c:List Int}(hf:PV w h c=true){crew:List Rb}(hcr:kN c crew)(n:Nat)(hn:PJ≤n):
  ∃fields,lX w h c crew fields∧iter n (Sx n w h c crew) (0,w,h,c,crew,[],[])=some ((crew.length:Int),w,h,c,crew,fields,List.replicate crew.length (-1)):=by
 have hn20:=hcr.Zx;have hB:1048576≤n:=AAw (by decide) hn
 let F:Nat→List Int:=fun i=>if hi:i<crew.length then(XX hf (hcr.jH (i:Int) (by omega) (by omega))).choose else []
 have hF:∀i (hi:i<crew.length),F i=(XX hf (hcr.jH (i:Int) (by omega) (by omega))).choose:=fun i hi=>dif_pos hi;refine⟨(List.range crew.length).map F,⟨by simp,fun i h0 h1=>?_⟩,?_⟩
 ·obtain⟨m,rfl⟩:∃m:Nat,i=m:=⟨i.toNat,by omega⟩;have hm:m<crew.length:=by omega
  obtain⟨C,q1,q2,q3,q4⟩:=(XX hf (hcr.jH (m:Int) (by omega) (by omega))).choose_spec;exact⟨F m,C,by simp[hm],fun n hn=>by grind,q2,q4⟩
 ·have:=Pn (Sx n w h c crew) (fun i=>((i:Int),w,h,c,crew,(List.range i).map F,List.replicate i (-1))) crew.length ((crew.length:Int),w,h,c,crew,(List.range crew.length).map F,List.replicate crew.length (-1)) (fun i hi=>by
   obtain⟨C,q1,q2,q3,q4⟩:=(XX hf (hcr.jH (i:Int) (by omega) (by omega))).choose_spec;have qf:=(q1 n hn).1;rw[←hF i hi]at qf;have hm1:decide ((List.replicate i (-1:Int)).length+[(-1:Int)].length≤Dh)=true:=by rw[AAb];simp[Dh];omega
   have hm2:decide (((List.range i).map F).length+[F i].length≤Dh)=true:=by rw[AAb];simp[Dh];omega
   have hr:=ZR (crew:=crew) (i:=(i:Int)) ⟨by omega,by omega⟩;simp only[Sx,hm1,hm2,hr,ABT,qf,O9 hi (by omega),ABU];rw[show decide ((i:Int)<(crew.length:Int))=true by simpa using hi];simp[ACF,AB2]) (by simp[Sx]) n (by omega)
  grind
theorem bX{w h:Int}{c:List Int}{crew:List Rb}(hn20:crew.length≤20)(n:Nat)(hn:PJ≤n):
  iter n (UM crew) (0,w,h,c,crew,[])=some ((crew.length:Int),w,h,c,crew,List.replicate crew.length (-1)):=by
 have hB:1048576≤n:=AAw (by decide) hn
 have:=Pn (UM crew) (fun i=>((i:Int),w,h,c,crew,List.replicate i (-1))) crew.length ((crew.length:Int),w,h,c,crew,List.replicate crew.length (-1)) (fun i hi=>by
   have hm1:decide ((List.replicate i (-1:Int)).length+[(-1:Int)].length≤Dh)=true:=by rw[AAb];simp[Dh];omega
   simp only[UM,hm1,O9 hi (by omega),ABU];rw[show decide ((i:Int)<(crew.length:Int))=true by simpa using hi];simp[ACF]) (by simp[UM]) n (by omega)
 grind
theorem kt{w h:Int}{c:List Int}(hf:PV w h c=true){crew:List Rb}(hcr:kN c crew)(hid:mN crew)(uU:TG w h c crew=true)(n:Nat)(hn:PJ+1000≤n):
  ∃next,Zs n w h c crew=some next∧W7 n w h c crew=some next∧Next c crew next:=by
 have hN:=(Um hf).le;have hn20:=hcr.Zx;have hB0:PJ≤n:=AAw (AB1 _ _) hn;obtain⟨T,t1,t2,t3⟩:=kK hid hn20 n hB0;obtain⟨fields,zK,hini⟩:=kU hf hcr n hB0;obtain⟨k,k',next,e1,e2,hN2⟩:=step_loop hcr zK T t3 n hn;refine⟨next,?_,?_,hN2⟩
 ·unfold Zs;rw[WN w h c (by omega) crew (by omega) n hB0,uU,bX hn20 n hB0,t1];grind
 ·unfold W7;grind
structure CP(c:List Int)(crew:List Rb):Prop where
 mT:kN c crew
 ids:mN crew
 lh:∀i,0≤i→i<(crew.length:Int)→0≤(Pe crew i).2.2.2.2∧(Pe crew i).2.2.2.2≤1000000
 mP:∀i,0≤i→i<(crew.length:Int)→1≤(Pe crew i).1∧(Pe crew i).1≤99
theorem jW{c:List Int}{i:Int}:QJ c i=true↔iD c i:=by unfold QJ P1 iD PC;grind
theorem gu{c:List Int}{crew:List Rb}{i:Nat}(hi:i<crew.length):j7 c crew i=true↔(1≤(Pe crew i).1∧(Pe crew i).1≤99)∧iD c (Pe crew i).2.1∧((Pe crew i).2.2.1 = -1∨iD c (Pe crew i).2.2.1)∧(0≤(Pe crew i).2.2.2.2∧(Pe crew i).2.2.2.2≤1000000)∧
  (0<i→(Pe crew ((i:Int)-1)).1<(Pe crew i).1)∧∀j:Nat,j<i→(Pe crew (j:Int)).2.1≠(Pe crew i).2.1:=by
 have hp:Qe (·.1) crew i crew[i]=true↔(0<i→(Pe crew ((i:Int)-1)).1<(Pe crew i).1):=by
  cases i with
  |zero=>simp[Qe]
  |succ j=>
   rw[RZ hi,show((j+1:Nat):Int)-1=(j:Int) by omega,RZ (show j<crew.length by omega)];simp[Qe,AAF (show j<crew.length by omega)]
 have ha:((crew.take i).all fun y => !(y.2.1==crew[i].2.1))=true↔∀j:Nat,j<i→(Pe crew (j:Int)).2.1≠(Pe crew i).2.1:=by
  rw[AAU,RZ hi];constructor
  ·intro h j hj;rw[RZ (show j<crew.length by omega)]
   have:=h crew[j] (by
    rw[ABY];exact⟨j,by simp;omega,by simp⟩)
   simpa using this
  ·intro h y hy;obtain⟨j,hj,rfl⟩:=ABY.1 hy;have hji:j<i:=by simp at hj;omega
   have:=h j hji;rw[RZ (show j<crew.length by omega)]at this;simpa using this
 unfold j7;rw[AAF hi];simp only[AAG,hp,ha,jW,AAa,AAS,RZ hi];unfold P1;grind
theorem bK{w h:Int}{c:List Int}{crew:List Rb}:TG w h c crew=true↔PV w h c=true∧CP c crew:=by
 unfold TG;simp only[AAG,AAb,AAU,AAR];constructor
 ·rintro ⟨⟨hf,hn⟩,uZ⟩
  have hr:∀i:Nat,i<crew.length→_:=fun i hi=>(gu hi).1 (uZ i hi);have cast:∀i:Int,0≤i→i<(crew.length:Int)→∃m:Nat,i=m∧m<crew.length:=fun i h0 h1=>⟨i.toNat,by omega,by omega⟩
  have ids1:∀d a:Nat,a+d+1<crew.length→(Pe crew (a:Int)).1<(Pe crew ((a+d+1:Nat):Int)).1:=by
   intro d
   induction d with
   |zero=>
    intro a ha;have:=(hr (a+1) (by omega)).2.2.2.2.1 (by omega);grind
   |succ d ih=>
    intro a ha;have h1:=ih a (by omega);have h2:=(hr (a+(d+1)+1) (by omega)).2.2.2.2.1 (by omega);grind
  refine⟨hf,⟨hn,fun i h0 h1=>?_,fun i j i0 i1 j0 j1 e=>?_⟩,fun a b a0 zF hb=>?_,fun i h0 h1=>?_,fun i h0 h1=>?_⟩
  ·obtain⟨m,rfl,hm⟩:=cast i h0 h1;obtain⟨_,q2,q3,_⟩:=hr m hm;exact⟨q2.1,q2.2,q3⟩
  ·obtain⟨a,rfl,ha⟩:=cast i i0 i1;obtain⟨b,rfl,hb⟩:=cast j j0 j1;rcases ABg a b with hl|hl|hl
   all_goals grind
  ·obtain⟨m,rfl,hm⟩:=cast a a0 (by omega);obtain⟨k,rfl,hk⟩:=cast b (by omega) hb;have:=ids1 (k-m-1) m (by omega);grind
  ·obtain⟨m,rfl,hm⟩:=cast i h0 h1;exact(hr m hm).2.2.2.1
  ·obtain⟨m,rfl,hm⟩:=cast i h0 h1;exact(hr m hm).1
 ·rintro ⟨hf,⟨hn,hs,hd⟩,hid,vd,hidr⟩
  refine⟨⟨hf,hn⟩,fun i hi=>(gu hi).2 ?_⟩;have s:=hs (i:Int) (by omega) (by omega);refine⟨hidr i (by omega) (by omega),⟨s.dX,s.oM⟩,s.goal,vd i (by omega) (by omega),fun h0=>hid _ _ (by omega) (by omega) (by omega),fun j hj e=>?_⟩;have:=hd j i (by omega) (by omega) (by omega) (by omega) e;omega
def X3(r:Rb)(v:Int):Rb:=(r.1,v,r.2.2.1,r.2.2.2.1,bif(r.2.2.1 == -1)||(v==r.2.2.1)then 0 else NF (r.2.2.2.2+1) 1000000)
def Vl(crew:List Rb)(next:List Int):List Rb:=List.zipWith X3 crew next
theorem X2{crew:List Rb}{next:List Int}(h:next.length=crew.length):(Vl crew next).length=crew.length:=by simp[Vl,h]
theorem a9{crew:List Rb}{next:List Int}(h:next.length=crew.length){i:Int}(h0:0≤i)(h1:i<(crew.length:Int)):Pe (Vl crew next) i=X3 (Pe crew i) (PC next i):=by
 obtain⟨m,rfl⟩:∃m:Nat,i=m:=⟨i.toNat,by omega⟩;have hm:m<crew.length:=by omega
 rw[RZ (by rw[X2 h];exact hm),RZ hm];simp[Vl,PC,List.getD,AAF (show m<next.length by omega)]
theorem ld{c:List Int}{crew:List Rb}(hp:CP c crew){next:List Int}(hn:Next c crew next):CP c (Vl crew next):=by
 have hl:=X2 hn.len;have ha:∀i,0≤i→i<(crew.length:Int)→Pe (Vl crew next) i=X3 (Pe crew i) (PC next i):=fun i h0 h1=>a9 hn.len h0 h1;refine⟨⟨by rw[hl];exact hp.mT.Zx,fun i h0 h1=>?_,fun i j i0 i1 j0 j1 e=>?_⟩,fun a b a0 zF hb=>?_,fun i h0 h1=>?_,fun i h0 h1=>?_⟩<;>rw[hl]at *
 ·rw[ha i h0 h1];have:=hn.ra i h0 h1;exact⟨this.1,this.2,(hp.mT.jH i h0 h1).goal⟩
 ·rw[ha i i0 i1,ha j j0 j1]at e;exact hn.D i j i0 i1 j0 j1 e
 ·rw[ha a a0 (by omega),ha b (by omega) hb];exact hp.ids a b a0 zF hb
 ·rw[ha i h0 h1];have:=hp.lh i h0 h1;show 0≤(bif _ then(0:Int)else _)∧(bif _ then(0:Int)else _)≤1000000;cases((Pe crew i).2.2.1 == -1)||(PC next i==(Pe crew i).2.2.1)with
  |true=>grind
  |false=>
   show 0≤NF _ _∧NF _ _≤1000000;unfold NF;grind
 ·rw[ha i h0 h1];exact hp.mP i h0 h1
theorem fX{r:Rb}{v:Int}(h:0≤r.2.2.2.2∧r.2.2.2.2≤1000000):X3 r v=(r.1,v,r.2.2.1,r.2.2.2.1,bif(r.2.2.1 == -1)||(v==r.2.2.1)then 0 else bif decide (r.2.2.2.2<1000000)then r.2.2.2.2+1 else r.2.2.2.2):=by unfold X3 NF;grind
theorem cy{c:List Int}{crew:List Rb}(hp:CP c crew){next:List Int}(hn:Next c crew next)(n:Nat)(hB:PJ≤n):
  iter n (RM crew next) ([],0)=some (Vl crew next,(crew.length:Int)):=by
 have hB1:1048576≤n:=AAw (by decide) hB;have h20:=hp.mT.Zx;have hl:=X2 hn.len
 have:=Pn (RM crew next) (fun i=>((Vl crew next).take i,(i:Int))) crew.length (Vl crew next,(crew.length:Int)) (fun i hi=>by
  have hir:0≤(i:Int)∧(i:Int)<(crew.length:Int):=⟨by omega,by omega⟩;obtain⟨i1,i2,_⟩:=TH (out:=next) (v:=(i:Int)) (by rw[hn.len];exact hir);have ha:=hp.lh i hir.1 hir.2
  have ht:(Vl crew next).take (i+1)=(Vl crew next).take i++[X3 (Pe crew (i:Int)) (PC next (i:Int))]:=by
   rw[ABe (by rw[hl];exact hi),←RZ (by rw[hl];exact hi),a9 hn.len hir.1 hir.2]
  have hm:∀y:Rb,decide (((Vl crew next).take i).length+[y].length≤Dh)=true:=fun y=>by rw[AAb];simp[Dh];omega
  rw[ht,fX ha];simp only[RM,ZR hir,ABT,i1,i2,ABU,O9 hi (by omega),PF (show -9223372036854775808≤(Pe crew (i:Int)).2.2.2.2+1 by omega) (by omega),hm];rw[show decide ((i:Int)<(crew.length:Int))=true by simpa using hi];cases((Pe crew (i:Int)).2.2.1 == -1)<;>cases(PC next (i:Int)==(Pe crew (i:Int)).2.2.1)<;>cases decide ((Pe crew (i:Int)).2.2.2.2<1000000)<;>rfl) (by simp[RM];rw[←hl];exact List.take_length.symm▸rfl) n (by omega)
 grind
theorem cV{c:List Int}{crew:List Rb}(hp:CP c crew){next:List Int}(hn:Next c crew next)(n:Nat)(hB:PJ≤n):
  iter n (R4 next) (0,crew)=some ((crew.length:Int),Vl crew next):=by
 have hB1:1048576≤n:=AAw (by decide) hB;have h20:=hp.mT.Zx;have hl:=X2 hn.len;have vT:=hn.len
 have:=Pn (R4 next) (fun i=>((i:Int),(Vl crew next).take i++crew.drop i)) crew.length ((crew.length:Int),Vl crew next) (fun i hi=>by
  have hir:0≤(i:Int)∧(i:Int)<(crew.length:Int):=⟨by omega,by omega⟩;obtain⟨i1,i2,_⟩:=TH (out:=next) (v:=(i:Int)) (by rw[hn.len];exact hir);have ha:=hp.lh i hir.1 hir.2;have hlen:((Vl crew next).take i++crew.drop i).length=crew.length:=by simp[hl];omega
  have w8:i<((Vl crew next).take i++crew.drop i).length:=by rw[hlen];exact hi
  have hg:((Vl crew next).take i++crew.drop i)[i]=Pe crew (i:Int):=by rw[RZ hi,List.getElem_append_right (by simp[hl];omega)];simp[hl,Nat.min_eq_left (Nat.le_of_lt hi)]
  have ht:((Vl crew next).take i++crew.drop i).set i (X3 (Pe crew (i:Int)) (PC next (i:Int)))=(Vl crew next).take (i+1)++crew.drop (i+1):=by rw[ACC _ _ (by simp[hl];omega),ABe (by rw[hl];exact hi),←RZ (by rw[hl];exact hi),a9 hn.len hir.1 hir.2,ABo];congr 1;rw[show i-((Vl crew next).take i).length=0 by simp[hl];omega,ABi hi];rfl
  rw[←ht];generalize ((Vl crew next).take i++crew.drop i)=out at hlen w8 hg;have hio1:Ob out (i:Int)=true:=PE w8;rw[ABX]at i2;simp only[R4,i1,ABX,i2,ABT,ABU,hio1,O9 hi (by omega),ABX];rw[bl out i _ w8,hg];have g1:∀y:Rb,(out.set i y)[i]?=some y:=fun y=>by rw[List.getElem?_set,AAK rfl,AAK w8]
  have g2:∀(y:Rb)(f:Rb→Rb),List.modify (out.set i y) i f=out.set i (f y):=fun y f=>by rw[bl _ i f (by simp;omega)];simp
  simp only[g1,g2,ABT,bW,PF (show -9223372036854775808≤(Pe crew (i:Int)).2.2.2.2+1 by omega) (by omega)];rw[show decide ((i:Int)<(next.length:Int))=true by rw[vT];simpa using hi];unfold X3
  cases((Pe crew (i:Int)).2.2.1 == -1)<;>cases(PC next (i:Int)==(Pe crew (i:Int)).2.2.1)<;>rfl) (by
   simp[R4,vT];rw[←hl];exact List.take_length) n (by omega)
 grind
theorem dO(n:Nat)(hn:PJ≤n){b:List Int}{i q:Int}(hcu:Cu b i):Ok (VW n b i q) fun x=>x.1.length≤4∧Cu x.2.1 x.2.2.1:=by
 unfold VW;refine Ok.bind (P:=fun x=>x.1.length≤4∧Cu x.2.2.1 x.2.2.2.1) (Ok.iter (fun k x=>x.2.1+(k:Int)=5∧1≤x.2.1∧x.1.length+k≤4∧Cu x.2.2.1 x.2.2.2.1) (fun k x hx=>?_) (k:=4) ⟨by simp,by simp,by simp,hcu⟩ (by unfold PJ at hn;omega)) fun x hx=>Ok.pure hx;obtain⟨h1,h0,h2,h3⟩:=hx;unfold YN;refine Ok.cond (fun hb=>?_) fun hb=>Ok.pure (.inr ⟨_,rfl,by show x.1.length≤4;clear hn;omega,h3⟩);have hb:=AAq hb;refine Ok.bind (P:=fun z=>z.1.length≤x.1.length+1∧Cu z.2.1 z.2.2.1) ((Yc h3 3).bind fun v hv=>Ok.cond (fun _=>(ok_int hv (by simp)).bind fun u hu=>Ok.guard (Rq (by clear hn;omega)) (Ok.pure ⟨by show(x.1++[_]).length≤_;simp,hu.1⟩)) fun _=>Ok.pure ⟨by show x.1.length≤_;omega,hv⟩) fun z hz=>Ok.pure (.inl ⟨_,rfl,k-1,⟨?_,?_,?_,hz.2⟩,by clear hn;omega⟩)
 ·show PD (x.2.1+1)+_=_;rw[PF (by clear hn;omega) (by clear hn;omega)];clear hn;omega
 ·show 1≤PD (x.2.1+1);rw[PF (by clear hn;omega) (by clear hn;omega)];clear hn;omega
 grind
theorem ba(n:Nat)(hn:PJ≤n){b:List Int}{i q:Int}(hcu:Cu b i)(w h:Int)(c:List Int)(hf:PV w h c=true):Ok (Ub n b i q w h c) fun x=>Cu x.2.1 x.2.2.1:=by
 have hc:c.length≤1048576:=by have:=(Um hf).le;clear hn;omega
 unfold Ub;rw[U0 w h c hc hf 3 n hn,ABT];refine Ok.bind (P:=fun z=>(z.1=false→0<(QH c 3 c.length).length)∧Cu z.2.1 z.2.2.1) (Ok.cond (fun hb=>Ok.pure ⟨(fun e=>by cases e),hcu⟩) fun hb=>(Yc hcu 12).bind fun r hr=>Ok.pure ⟨fun _=>?_,hr⟩) fun z hz=>Ok.cond (fun _=>(P7 hz.2 30).bind fun r hr=>Ok.pure hr.1) fun hb=>(P7 hz.2 _).bind fun r hr=>?_
 ·grind
 ·have h0:=hz.1 hb;have h1:=hr.2.2 (by omega);exact Ok.guard (YA ⟨hr.2.1,h1⟩) ((Ok.get (by omega)).bind fun v hv=>Ok.pure hr.1)
theorem ZZ(w h:Int)(c:List Int)(a:List PH)(uU:Yn w h c a=true)(n:Nat)(hn:PJ≤n):VC n w h c a=some (w,h,c,a,1,[],Rt (Pt c) (min (Pt c).length 20),[],RS a 50,List.replicate 51 0,0,true):=by
 obtain⟨hf,hk,_,_⟩:=aV uU;have hs:=(Pp.1 hk).sm;have hle:=(Um hf).le;have hc:c.length≤1048576:=by clear hn;omega
 have uZ:(List.range a.length).all (fun i=>Yy c a i&&Xa a i)=true:=by have uU:=uU;unfold Yn at uU;simp only[AAG,AAU]at uU ⊢;exact fun x hx=>⟨uU.2 x hx,uU.1.2 x hx⟩
 have o1:=Za c hc a hs Zk n hn;rw[uZ]at o1;have hm:(decide (0≤51)&&decide ((51:Int)≤(Dh:Int))&&decide (51=51))=true:=rfl;have hdl:(Pt c).length≤c.length:=Yq c 4 c.length;unfold VC;rw[Pu w h c hc n hn,Pv a hs n hn,hf,hk];simp only[ABT,ABc,ABV,YO w h c hc,PR a hs n hn,hm,ABU];simp only[Zk]at o1;rw[o1];simp only[ABU,ABT];have s1:=Yh a hs w h c a 1 [] [] [] (List.replicate (Int.toNat 51) 0) 0 n hn;have c1:=Y7 (Pt c) (by clear hn;omega) w h c a 1 [] [] (RS a 50) (List.replicate (Int.toNat 51) 0) 0 n hn;rw[show List.replicate 51 (0:Int)=List.replicate (Int.toNat 51) 0 from rfl]at s1 ⊢;have hd:Rx n w h c 4=some (Pt c):=U0 w h c hc hf 4 n hn;grind
def Yw:List (List UInt8):=[[99,46,46,46,46,46,46,10,46,112,46,112,46,112,46,10,46,46,46,46,46,46,115,10,46,112,46,112,46,112,46,10,99,46,46,46,46,46,115,10],[99,46,46,46,46,46,10,46,112,112,46,112,46,10,46,46,46,46,46,46,10,46,46,46,46,46,115,10],[46,46,46,46,46,10,46,112,35,112,46,10,46,46,115,46,46,10,46,112,35,112,46,10,99,46,46,46,99,10],[99,46,112,10,46,46,46,10,112,46,115,10]]
theorem cR:Yw.all bD=true:=by kernel_rfl
theorem eU(n:Nat)(hn:PJ≤n){b:List Int}{i q:Int}(hcu:Cu b i):Ok (TX n b i q) fun x=>∃w h c a b' i' q',Yn w h c a=true∧Cu b' i'∧x=(w,h,c,a,1,[],Rt (Pt c) (min (Pt c).length 20),[],RS a 50,List.replicate 51 (0:Int),0,b',i',q'):=by unfold TX;refine(jw hcu (xs:=Yw) (by simp[Yw])).bind fun t ht=>?_;refine(fE (AAU.1 cR _ ht.2) n hn).bind fun x hx=>?_;refine Ok.bind (P:=fun z=>PV z.2.2.2.1 z.2.2.2.2.1 z.2.2.2.2.2=true∧Cu z.1 z.2.1) ((Yc ht.1 8).bind fun r hr=>Ok.cond (fun _=>(fw n hn hr).bind fun y hy=>Ok.pure ⟨hy.1,hy.2.2⟩) fun _=>Ok.pure ⟨hx.1,hr⟩) fun z hz=>?_;refine(eV n hn hz.2 _ _ _ hz.1).bind fun p hp=>?_;rw[ZZ _ _ _ _ hp.1 n hn,ABT];dsimp only;refine⟨_,rfl,z.2.2.2.1,z.2.2.2.2.1,z.2.2.2.2.2,p.1,p.2.1,p.2.2.1,p.2.2.2,hp.1,hp.2,?_⟩;grind
theorem jP{w h:Int}{c:List Int}(hc:c.length≤1048576){crew:List Pf}(hf:PV w h c=true)(hw:CW c crew)(n:Nat)(hn:PJ+1000≤n):
  ∃out,Xc n w h c crew=some out∧Vt n w h c crew=some out∧CW c out∧out.length=crew.length∧∀k (h1:k<crew.length) (h2:k<out.length),out[k].1=crew[k].1∧out[k].2.2.1=crew[k].2.2.1∧out[k].2.2.2.1=crew[k].2.2.2.1:=by
 have hB:PJ≤n:=AAw (AB1 _ _) hn;have hl:crew.length≤1048576:=by have:=hw.Zx;clear hn hB;omega
 have uU:TG w h c crew=true:=Ul.2 ⟨hf,hw⟩;have hm:decide (crew.length≤Dh)=true:=by rw[AAb];simp[Dh];clear hn hB;omega
 have yE:SJ crew=some crew:=by unfold SJ;rw[hm];rfl
 obtain⟨_,hp⟩:=bK.1 uU;obtain⟨next,s1,s2,hnx⟩:=kt hf hp.mT hp.ids uU n hn
 have hsp:Uh n w h c crew=some (Vl crew next):=by unfold Uh;rw[s2];simp only[ABT,cy hp hnx n hB]
 have ho:=ld hp hnx;refine⟨Vl crew next,?_,?_,(Ul.1 (bK.2 ⟨hf,ho⟩)).2,X2 hnx.len,fun k h1 h2=>?_⟩
 ·unfold Xc;rw[yE,WN w h c hc crew hl n hB,uU];simp only[ABT,ABc,ABV,s1,cV hp hnx n hB]
 ·unfold Vt;rw[WZ w h c hc crew hl n hB,uU];grind
 ·have:=a9 hnx.len (i:=(k:Int)) (by grind) (by omega);rw[RZ h2,RZ h1]at this;rw[this];exact⟨rfl,rfl,rfl⟩
theorem jT{w h:Int}{c:List Int}{a:List PH}{crew:List Pf}{ts:List PZ}(hf:PV w h c=true)(ha:PN a)(hc:CW c crew)(ht:TP ts):gb w h c a crew ts=sendAll a crew ts (QT w h c a crew ts):=by unfold gb fg;rw[Pp.2 ha,Ul.2 ⟨hf,hc⟩,Va.2 ht];rfl
theorem b7:SN=S5:=rfl
theorem YJ{nx:Int}{l:List Pk}(hb:Vi nx l)(hsm:QX (nx,l)){id:Int}{o:Pk}(ho:P0 l id=some o)(n:Nat)(hn:PJ≤n):∃i,∃h:i<l.length,l[i]=o∧o.1=id∧Qm n nx l id=some (i:Int):=by obtain⟨hm,e⟩:=P6 ho;obtain⟨i,hi,rfl⟩:=ABY.1 hm;refine⟨i,hi,rfl,e,?_⟩;have:=Ws nx l hsm.1 hb.2.2.1 i hi n hn;rw[e]at this;exact this
theorem U3(w h:Int)(c:List Int){a:List PH}(ha:PN a){nx:Int}{l:List Pk}(hb:Vi nx l)(hsm:QX (nx,l))(crew:List Pf)(ts:List PZ)(st ou:List Int)(nw:Int)(t:PZ)(ho:∃o,P0 l t.1=some o)(hp:∃q,XQ a t.2.1=some q)(n:Nat)(hn:PJ≤n):
  RI n w h c a nx l crew ts st ou nw t.1 t.2.1 t.2.2.1 t.2.2.2=some (TJ a l t):=by
 have hal:=ha.1;unfold RI;by_cases h3:t.2.2.2=3
 ·obtain⟨o,ho⟩:=ho;obtain⟨i,hi,e,_,hf⟩:=YJ hb hsm ho n hn;rw[show(t.2.2.2==3)=true from AAS.2 h3,ABU,hf,ABT,PA hi,ABT];unfold TJ;grind
 ·obtain⟨q,hq⟩:=hp;have hpx:=RY a (by omega) t.2.1 n hn;rcases hpx.2 with⟨_,xN⟩|⟨j,hj,e,ej⟩
  ·exact(xN q (S6 hq).1 (S6 hq).2).elim
  ·rw[show(t.2.2.2==3)=false from ABa.2 h3,ABV,hpx.1,e,ABT,PA hj,ABT,Zn ha h3 hj ej]
theorem jS{crew:List Pf}(h:crew.Pairwise fun r s=>r.1<s.1){k:Nat}(hk:k<crew.length)(f:Pf→Pf):crew.modify k f=WD crew crew[k].1 f:=by
 unfold WD;refine AB6 (by grind) fun i h1 h2=>?_;rw[List.length_modify]at h1;rw[List.getElem_modify,ABq];by_cases e:k=i
 ·grind
 ·rw[AAM e,show(crew[i].1==crew[k].1)=false from ABa.2 fun q=>?_,ABV];rcases ABM e with hl|hl
  ·have:=ABQ.1 h k i hk h1 hl;omega
  ·have:=ABQ.1 h i k h1 hk hl;omega
theorem mod_mod{β:Type}(l:List β)(k:Nat)(f g:β→β):(l.modify k f).modify k g=l.modify k (g ∘ f):=by grind
theorem ZL{β:Type}{l:List β}{k:Nat}(h:k<l.length)(j:Nat)(f:β→β):Ob (l.modify j f) (k:Int)=true:=PE (by grind)
theorem fF{nx:Int}{l:List Pk}(hb:Vi nx l)(t:PZ):∀p∈P4 l t,(1≤p.2.1∧p.2.1≤50)∧(1≤p.2.2∧p.2.2≤1000):=fun p hp=>by
 unfold P4 at hp;cases ho:P0 l t.1 with
 |none=>grind
 |some o=>
  rw[ho]at hp;have hpm:=(ABs.1 hp).1;obtain⟨_,_,⟨hI,_⟩,hpg,_⟩:=hb.2.2.2 o (P6 ho).1;obtain⟨q1,y,hy,e⟩:=hpg.1 p hpm;have hN:=hI.2.1 y hy;have ht:=hpg.2 y hy;have hle:=iA (fun q hq=>(hpg.1 q hq).1) hpm;grind
theorem iv{nx:Int}{l:List Pk}(hsm:QX (nx,l))(t:PZ):(P4 l t).length≤1048576:=by
 unfold P4;cases ho:P0 l t.1 with
 |none=>simp
 |some o=>exact AAw (ABt _ _) (hsm.2 o (P6 ho).1).2
theorem iP(ps:List O8)(hl:ps.length≤1048576)(hp:∀p∈ps,(1≤p.2.1∧p.2.1≤50)∧(1≤p.2.2∧p.2.2≤1000))(x6:List PH×Bool)(w h:Int)(c:List Int)(a:List PH)(nx:Int)(l:List Pk)(crew:List Pf)(ts:List PZ)(st:List Int)(nw:Int){ou:List Int}(hou:OB 1000000 ou)(n:Nat)(hn:PJ≤n):
  ∃k:Int,iter n (Q6 ps x6) (0,w,h,c,a,nx,l,crew,ts,st,ou,nw)=some (k,w,h,c,a,nx,l,crew,ts,st,(bif x6.2 then ik ou ps else ou),nw):=by
 obtain⟨b6,ok⟩:=x6;cases ok with
 |false=>
  obtain⟨m,rfl⟩:∃m,n=m+1:=⟨n-1,by unfold PJ at hn;omega⟩;refine⟨0,Po ?_ m⟩;unfold Q6;grind
 |true=>
  refine⟨(ps.length:Int),?_⟩;rw[ABU];refine Ph (σ:=List Int) (Q6 ps (b6,true)) (fun i s=>((i:Int),w,h,c,a,nx,l,crew,ts,st,s,nw)) ps (fun r s=>((ps.length:Int),w,h,c,a,nx,l,crew,ts,st,ik s r,nw)) (fun i s=>OB 1000000 s) (fun s _=>?_) (fun i p r s hi hx _ _ hs=>?_) n (by unfold PJ at hn;omega) ou hou
  ·unfold Q6;dsimp only;rw[show decide ((ps.length:Int)<(ps.length:Int))=false by rw[AAf];omega];rfl
  ·left;have hpe:ps[i]=p:=by rw[AAF hi]at hx;exact Option.some.inj hx
   obtain⟨⟨s1,s2⟩,n1,n2⟩:=hp p (by grind);have hk:p.2.1.toNat<s.length:=by rw[hs.1];clear hn;omega
   have tS:Ob s p.2.1=true:=YA ⟨by omega,by omega⟩;have tv:s[p.2.1.toNat]?=some (s.getD p.2.1.toNat 0):=by rw[AAF hk];simp[hk]
   have hb:=hs.getD (by omega) p.2.1.toNat;refine⟨if s.getD p.2.1.toNat 0+p.2.2≤1000000 then s.set p.2.1.toNat (s.getD p.2.1.toNat 0+p.2.2)else s,?_,?_,rfl⟩
   ·unfold Q6;dsimp only;rw[show decide ((i:Int)<(ps.length:Int))=true by rw[AAb];clear hn;omega];simp only[ABU,ABT,PE hi,ABX,hx,tS,tv,P5,O9 hi (show ps.length≤9223372036854775807 by clear hn;omega)];rw[PF (n:=s.getD p.2.1.toNat 0+p.2.2) (by clear hn;omega) (by clear hn;omega)];grind
   ·split
    ·rename_i hle;exact hs.set (ACJ _) _ ⟨by omega,hle⟩
    ·exact hs
theorem aD(w h:Int)(c:List Int){a:List PH}{nx:Int}{l:List Pk}{crew:List Pf}{x y:List PZ}{t:PZ}(d:DK a nx l crew (x++t::y))(hsm:QX (nx,l))(ht:t.2.2.2≠1)(ts:List PZ)(st:List Int){ou:List Int}(hou:OB 1000000 ou)(nw:Int)(n:Nat)(hn:PJ≤n):
  ∃t':PZ,V6 n w h c a nx l crew ts st ou nw t.1 t.2.1 t.2.2.1 t.2.2.2=some ((RA a ou l crew t).2.2.2.isNone,w,h,c,(RA a ou l crew t).1,nx,l,(RA a ou l crew t).2.2.1,ts,st,(RA a ou l crew t).2.1,nw,t')∧t'.1=t.1∧∀u,(RA a ou l crew t).2.2.2=some u→u=t':=by
 have hT:=d.tk t (AAO _ AAe);obtain⟨o,ho,_,_⟩:=hT.ord;obtain⟨r,hr,_,_⟩:=hT.cP ht;have zG:=d.Zx;have hpod:=hT.PU;rcases Wu crew (by omega) t.2.2.1 n hn with⟨_,xN⟩|⟨k,hk,ek,ev⟩
 ·exact(xN r (Pw hr).1 (Pw hr).2).elim
 have hS:=d.sk.sm;unfold V6 RA;rw[b7,ev,ABT,PE hk,ABU];simp only[ABX];have cm:∀f:Pf→Pf,crew.modify k f=WD crew t.2.2.1 f:=fun f=>by rw[←ek];exact jS d.ids hk f
 by_cases h2:t.2.2.2=2
 ·have hg:=U3 w h c d.sk d.bk hsm (List.modify (List.modify crew k (fun(y:O7)=>(y.1,y.2.1,y.2.2.1,y.2.2.2.1,0))) k (fun(y:O7)=>(y.1,y.2.1,y.2.2.1,true,y.2.2.2.2))) ts st ou nw (W8 t 3) ⟨o,ho⟩ hpod n hn;rw[AAK h2,show(t.2.2.2==2)=true from AAS.2 h2,ABU,ZL hk,ABU];rw[show RI n w h c a nx l _ ts st ou nw t.1 t.2.1 t.2.2.1 3=_ from hg,ABT];rw[mod_mod,ZL hk,ABU,mod_mod,cm];exact⟨W8 t 3,rfl,rfl,fun u hu=>by grind⟩
 ·rw[AAM h2,show(t.2.2.2==2)=false from ABa.2 h2,ABV];by_cases h3:t.2.2.2=3
  ·rw[AAK h3,show(t.2.2.2==3)=true from AAS.2 h3,ABU];obtain⟨i,hi,e1,_,ef⟩:=YJ d.bk hsm ho n hn;have wC:o.2.2.2.1.length≤1048576:=(hsm.2 o (P6 ho).1).2;have hil:o.2.2.1.length≤1048576:=(hsm.2 o (P6 ho).1).1
   have hoo:Vw n nx l t.1=some (o.1,o.2.1,o.2.2.1,o.2.2.2.1,o.2.2.2.2,true):=by unfold Vw;rw[ef,ABT,show decide ((i:Int)<0)=false by grind,ABV,PA hi,ABT,e1];unfold Py;rw[Uz (by grind),Uz (by grind)];rfl
   have wL:P4 l t=o.2.2.2.1.filter fun p=>p.1==t.2.1:=by unfold P4;rw[ho]
   have hpl2:=iv hsm t;rw[hoo,ABT];dsimp only;rw[au o wC t.2.1 n hn,ABT,←wL];unfold Xp;rw[aB a hS (P4 l t) hpl2 n hn,ABT,ABT];obtain⟨kk,hloop⟩:=iP (P4 l t) hpl2 (fF d.bk t) (Qu Y9 a (P4 l t)) w h c (Qu Y9 a (P4 l t)).1 nx l (List.modify crew k (fun(y:O7)=>(y.1,y.2.1,y.2.2.1,y.2.2.2.1,0))) ts st nw hou n hn;rw[hloop,ABT];dsimp only;obtain⟨g1,g2,_⟩:=ZA d.sk (P4 l t);have hpod2:=(hT.same g2 (k:=l) rfl).PU;have hg:=U3 w h c g1 d.bk hsm (List.modify crew k (fun(y:O7)=>(y.1,y.2.1,y.2.2.1,y.2.2.2.1,0))) ts st (bif(Qu Y9 a (P4 l t)).2 then ik ou (P4 l t)else ou) nw (W8 t 4) ⟨o,ho⟩ hpod2 n hn;rw[show RI n w h c _ nx l _ ts st _ nw t.1 t.2.1 t.2.2.1 4=_ from hg,ABT];rw[ZL hk,ABU,mod_mod,cm];exact⟨W8 t 4,rfl,rfl,fun u hu=>by grind⟩
  ·rw[AAM h3,show(t.2.2.2==3)=false from ABa.2 h3,ABV];rw[ZL hk,ABU,mod_mod,ZL hk,ABU,mod_mod,cm];exact⟨t,rfl,rfl,fun u hu=>by cases hu⟩
structure BG(nx:Int)(l:List Pk):Prop where
 bk:Vi nx l
 KN:dW l
 aU:∀o∈l,o.2.2.2.1.length≤72
theorem BG.sm{nx:Int}{l:List Pk}(h:BG nx l):QX (nx,l):=by
 have h30:=h.bk.2.1;refine⟨by grind,fun o ho=>?_⟩;have h72:=h.aU o ho;obtain⟨_,_,⟨hI,_⟩,_,_⟩:=h.bk.2.2.2 o ho;have h6:=hI.2.2;exact⟨by show o.2.2.1.length≤_;omega,by show o.2.2.2.1.length≤_;omega⟩
theorem BG.spec{nx:Int}{l:List Pk}(h:BG nx l)(n:Nat)(hn:PJ≤n):Qf n nx l=some true:=by obtain⟨b,e,ib⟩:=Xv h.sm h.KN n hn;rw[e,ib.2 ⟨h.bk,h.aU⟩]
theorem DI.bg{w h:Int}{c:List Int}{a:List PH}{nx:Int}{l:List Pk}{crew:List Pf}{ts:List PZ}(d:DI w h c a nx l crew ts):BG nx l:=⟨d.bk,d.KN,d.aU⟩
theorem Zz{l:List Pk}(h:l.Pairwise fun a b=>a.1<b.1){i:Nat}(hi:i<l.length)(st:Int):l.modify i (fun o=>(o.1,o.2.1,o.2.2.1,o.2.2.2.1,st))=Qx l l[i].1 st:=by
 unfold Qx;refine AB6 (by grind) fun k h1 h2=>?_;rw[List.length_modify]at h1;rw[List.getElem_modify,ABq];by_cases e:i=k
 ·grind
 ·rw[AAM e,show(l[k].1==l[i].1)=false from ABa.2 fun q=>?_,ABV];rcases ABM e with hl|hl
  ·have:=ABQ.1 h i k hi h1 hl;omega
  ·have:=ABQ.1 h k i h1 hi hl;omega
theorem aq{nx:Int}{l:List Pk}(h:BG nx l)(id:Int)(n:Nat)(hn:PJ≤n):∃b,Wv n nx l id=some (nx,(bif XD l id then Qx l id 2 else l),b):=by
 have hsm:=h.sm;unfold Wv;rw[R8 nx l hsm n hn,ABT,h.spec n hn];cases ho:P0 l id with
 |none=>
  have hm:∀x∈l,x.1≠id:=fun x hx e=>by unfold P0 at ho;grind
  have hf:=UT nx l hsm.1 id hm n hn;rw[Xl]at hf;have w8:XD l id=false:=by unfold XD;rw[ho]
  rw[hf,w8];exact⟨false,rfl⟩
 |some o=>
  obtain⟨i,hi,e1,e2,ef⟩:=YJ h.bk hsm ho n hn;have w8:XD l id=(o.2.2.2.2==1):=by unfold XD;rw[ho]
  rw[ef,w8];simp only[ABT,ABc,ABV,show decide ((i:Int)<0)=false by grind,PA hi,e1];cases hs:(o.2.2.2.2==1)with
  |false=>
   rw[show(o.2.2.2.2 != 1)=true by simp only[bne,hs];rfl];grind
  |true=>
   rw[show(o.2.2.2.2 != 1)=false by simp only[bne,hs];rfl,ABV,PE hi,ABU,ABX,Zz h.bk.2.2.1 hi,e1,e2];grind
theorem BG.Dq{nx:Int}{l:List Pk}(h:BG nx l)(id:Int){st:Int}(v7:1≤st∧st≤3):BG nx (Qx l id st):=by
 have mem:∀q∈Qx l id st,∃o∈l,q=(bif o.1==id then(o.1,o.2.1,o.2.2.1,o.2.2.2.1,st)else o:Pk):=fun q hq=>by unfold Qx at hq;grind
 have key:∀o:Pk,(bif o.1==id then(o.1,o.2.1,o.2.2.1,o.2.2.2.1,st)else o:Pk).2.2.2.1=o.2.2.2.1:=fun o=>by grind
 have hd:DK [] nx (Qx l id st) [] []:=DK.Dq ⟨⟨by simp,List.Pairwise.nil,(fun p hp=>by cases hp)⟩,h.bk,by simp,List.Pairwise.nil,QS.2 ⟨by simp,(fun x hx=>by cases hx),List.Pairwise.nil⟩,(fun t ht=>by cases ht)⟩ v7 (fun t ht=>by cases ht);refine⟨hd.bk,fun q hq=>?_,fun q hq=>?_⟩
 ·obtain⟨o,ho,rfl⟩:=mem q hq;rw[key];exact h.KN o ho
 ·obtain⟨o,ho,rfl⟩:=mem q hq;rw[key];exact h.aU o ho
theorem lB(left:List PZ)(hl:left.length≤1048576)(ended:List Int){i:Nat}(hi:i<ended.length)(r:Int×Int×Int×List Int×List PH×Int×List Pk×List Pf×List PZ×List Int×List Int×Int)(y:Int×Int×List Int×List PH×Int×List Pk×List Pf×List PZ×List Int×List Int×Int)(n:Nat)(hn:PJ≤n):
  ∃j:Int,iter n (SD (left,ended,r) ((i:Int),y)) (false,0)=some (left.any (fun t=>t.1==ended[i]),j):=by
 refine⟨(left.length:Int),?_⟩;have:=Ph (σ:=Bool) (SD (left,ended,r) ((i:Int),y)) (fun k s=>(s,(k:Int))) left (fun q s=>(s||q.any (fun t=>t.1==ended[i]),(left.length:Int))) (fun _ _=>True) (fun s _=>?_) (fun k t q s hk ht _ _ _=>?_) n (by unfold PJ at hn;omega) false trivial
 ·grind
 ·unfold SD;grind
 ·left;refine⟨s||t.1==ended[i],?_,trivial,by simp only[List.any_cons,Bool.or_assoc]⟩;unfold SD;dsimp only;rw[show decide ((k:Int)<(left.length:Int))=true by rw[AAb];clear hn;omega];simp only[ABU,PE hk,ABX,ht,ABT,PE hi,AAF hi,O9 hk (show left.length≤9223372036854775807 by clear hn;omega)];grind
theorem lA(left:List PZ)(hl:left.length≤1048576)(ended:List Int)(uD:ended.length≤1048576)(r:Int×Int×Int×List Int×List PH×Int×List Pk×List Pf×List PZ×List Int×List Int×Int)(w h:Int)(c:List Int)(a:List PH)(nx:Int){l:List Pk}(hb:BG nx l)(crew:List Pf)(st ou:List Int)(nw:Int)(n:Nat)(hn:PJ≤n):
  iter n (SC n (left,ended,r)) (0,w,h,c,a,nx,l,crew,left,st,ou,nw)=some ((ended.length:Int),w,h,c,a,nx,kR left ended l,crew,left,st,ou,nw):=by
 refine Ph (σ:=List Pk) (SC n (left,ended,r)) (fun i s=>((i:Int),w,h,c,a,nx,s,crew,left,st,ou,nw)) ended (fun q s=>((ended.length:Int),w,h,c,a,nx,kR left q s,crew,left,st,ou,nw)) (fun _ s=>BG nx s) (fun s _=>?_) (fun i id q s hi hx _ _ hs=>?_) n (by unfold PJ at hn;omega) l hb
 ·unfold SC;dsimp only;rw[show decide ((ended.length:Int)<(ended.length:Int))=false by rw[AAf];omega];rfl
 ·left;have he:ended[i]=id:=by rw[AAF hi]at hx;exact Option.some.inj hx
  obtain⟨j,e3⟩:=lB left hl ended hi r (w,h,c,a,nx,s,crew,left,st,ou,nw) n hn;rw[he]at e3;obtain⟨b,ef⟩:=aq hs id n hn;refine⟨bif(left.any fun t=>t.1==id) || !XD s id then s else Qx s id 2,?_,?_,rfl⟩
  ·unfold SC;dsimp only;rw[show decide ((i:Int)<(ended.length:Int))=true by rw[AAb];clear hn;omega];simp only[ABU,e3,ABT,PE hi,ABX,hx,ef,O9 hi (show ended.length≤9223372036854775807 by clear hn;omega)];grind
  ·cases(left.any fun t=>t.1==id) || !XD s id
   ·exact hs.Dq id ⟨by omega,by omega⟩
   ·exact hs
theorem gp:∀(ps:List O8)(ou:List Int),(∀p∈ps,1≤p.2.2∧p.2.2≤1000)→OB 1000000 ou→OB 1000000 (ik ou ps)
 | [],ou,_,h=>h
 |p::ps,ou,hp,h=>by
  have h1:=hp p AAe;have h2:=h.getD (by omega) p.2.1.toNat;refine gp ps _ (fun q hq=>hp q (AAJ _ hq)) ?_;dsimp only;split
  ·rename_i hle;exact h.set (ACJ _) _ ⟨by omega,hle⟩
  ·exact h
theorem dH(l:List Pk):∀(ts:List PZ)(s:lD),(QO l ts s).2.2.2.2.length≤s.2.2.2.2.length+ts.length
 | [],s=>AAd _
 |t::ts,s=>by
  have ih:=dH l ts (Qn l t s)
  have h1:(Qn l t s).2.2.2.2.length≤s.2.2.2.2.length+1:=by
   unfold Qn;split
   ·dsimp only;cases(RA s.1 s.2.1 l s.2.2.1 t).2.2.2 with
    |none=>simp only[AA2,ABb];omega
    |some _=>dsimp only;omega
   ·dsimp only;omega
  have hun:QO l (t::ts) s=QO l ts (Qn l t s):=rfl;grind
theorem kz(crew0:List Pf)(ts:List PZ)(w h:Int)(c:List Int){a:List PH}{nx:Int}{l:List Pk}(hsm:QX (nx,l)){crew:List Pf}(d:DK a nx l crew ts)(ts0:List PZ)(st:List Int){ou:List Int}(hou:OB 1000000 ou)(nw:Int)(n:Nat)(hn:PJ≤n):
  iter n (SB n (crew0,ts)) ([],[],0,w,h,c,a,nx,l,crew,ts0,st,ou,nw)=some ((QO l ts (a,ou,crew,[],[])).2.2.2.1,(QO l ts (a,ou,crew,[],[])).2.2.2.2,(ts.length:Int),w,h,c,(QO l ts (a,ou,crew,[],[])).1,nx,l,(QO l ts (a,ou,crew,[],[])).2.2.1,ts0,st,(QO l ts (a,ou,crew,[],[])).2.1,nw):=by
 have h60:=(QS.1 d.XB).1
 refine Ph (σ:=lD) (SB n (crew0,ts)) (fun i s=>(s.2.2.2.1,s.2.2.2.2,(i:Int),w,h,c,s.1,nx,l,s.2.2.1,ts0,st,s.2.1,nw)) ts (fun q s=>((QO l q s).2.2.2.1,(QO l q s).2.2.2.2,(ts.length:Int),w,h,c,(QO l q s).1,nx,l,(QO l q s).2.2.1,ts0,st,(QO l q s).2.1,nw))
  (fun i s=>DK s.1 nx l s.2.2.1 (s.2.2.2.1++ts.drop i)∧OB 1000000 s.2.1∧s.2.2.2.2.length≤i∧s.2.2.2.1.length≤i) (fun s hs=>?_) (fun i t q s hi hx hd1 hd2 hs=>?_) n (by unfold PJ at hn;omega) (a,ou,crew,[],[]) ⟨by simpa using d,hou,by simp,by simp⟩
 ·unfold SB;dsimp only;rw[show decide ((ts.length:Int)<(ts.length:Int))=false by rw[AAf];omega];rfl
 ·left;obtain⟨hD,hO,hE,hL⟩:=hs;rw[hd1]at hD;obtain⟨sa,so,sc,sl,se⟩:=s;dsimp only at hD hO hE hL ⊢;have tY:∀y:PZ,decide (sl.length+[y].length≤Dh)=true:=fun y=>Rq (by omega);have hrow2:∀y:Int,decide (se.length+[y].length≤Dh)=true:=fun y=>Rq (by omega);have hwi:PD ((i:Int)+1)=((i+1:Nat):Int):=O9 hi (show ts.length≤9223372036854775807 by omega);have zG:=hD.Zx;have hdec:decide ((i:Int)<(ts.length:Int))=true:=by rw[AAb];clear hn;omega
  refine⟨Qn l t (sa,so,sc,sl,se),?_,?_,rfl⟩
  ·unfold SB;dsimp only;rw[hdec];simp only[ABU,PE hi,ABX,hx,ABT]
   have hrob:∃x6,SN n sc t.2.2.1=some x6∧(t.2.2.2≠1→∃k,∃hk:k<sc.length,x6=(k:Int)∧TO sc t.2.2.1=some sc[k]):=by
    rw[b7];rcases Wu sc (by omega) t.2.2.1 n hn with⟨e,xN⟩|⟨k,hk,ek,ev⟩
    ·refine⟨_,e,fun h1=>?_⟩;obtain⟨r,hr,_⟩:=(hD.tk t (AAO _ AAe)).cP h1;exact(xN r (Pw hr).1 (Pw hr).2).elim
    ·refine⟨_,ev,fun _=>⟨k,hk,rfl,?_⟩⟩;rw[←ek];exact XS hD.ids hk
   obtain⟨x6,e6,hk6⟩:=hrob;rw[e6,ABT];unfold Qn X4;dsimp only;by_cases h1:t.2.2.2=1
   ·grind
   ·obtain⟨k,hk,rfl,hr⟩:=hk6 h1;rw[show(t.2.2.2 != 1)=true from ABz.2 h1,show(t.2.2.2==1)=false from ABa.2 h1,hr];simp only[ABU,PE hk,ABX,AAF hk,ABT,ABm,ABp];cases hg:(sc[k].2.1==sc[k].2.2.1)with
    |false=>
     grind
    |true=>
     rw[AAK rfl,ABU];obtain⟨t',ev,et,hu⟩:=aD w h c hD hsm h1 ts0 st hO nw n hn;rw[ev];cases hq:(RA sa so l sc t).2.2.2 with
     |none=>simp only[ABT,Option.isNone,ABU,hrow2,hwi,et,dq,ABw]
     |some u=>
      have:=hu u hq;subst this;simp only[ABT,Option.isNone,ABV,tY,ABU,hwi,dq]
  ·rw[hd2];unfold Qn;by_cases hg:X4 sc t=true
   ·rw[AAK hg]
    have ht:t.2.2.2≠1:=fun e=>by unfold X4 at hg;rw[show(t.2.2.2==1)=true from AAS.2 e]at hg;simp at hg
    have hgo:=hD.iO ht so;refine⟨?_,?_,?_,?_⟩
    ·show DK _ nx l _ ((sl++dq _)++q);rw[ABo];exact hgo
    ·show OB 1000000 (RA sa so l sc t).2.1;unfold RA;split
     ·exact hO
     ·split
      ·dsimp only;cases(Qu Y9 sa (P4 l t)).2
       ·exact hO
       ·exact gp _ so (fun p hp=>by have:=fF d.bk t p hp;exact⟨this.2.1,this.2.2⟩) hO
      ·exact hO
    ·show(match(RA sa so l sc t).2.2.2 with|some _=>se|none=>se++[t.1]).length≤i+1;cases(RA sa so l sc t).2.2.2 with
     |none=>simp only[AA2,ABb];clear hn;omega
     |some _=>dsimp only;clear hn;omega
    ·show(sl++dq (RA sa so l sc t).2.2.2).length≤i+1;cases(RA sa so l sc t).2.2.2 with
     |none=>simp only[dq,ABw];clear hn;omega
     |some _=>simp only[dq,AA2,ABb];clear hn;omega
   grind
theorem aG{w h:Int}{c:List Int}{a:List PH}{nx:Int}{l:List Pk}{crew:List Pf}{ts:List PZ}(d:DI w h c a nx l crew ts)(st:List Int){ou:List Int}(hou:Tv ou)(nw:Int)(n:Nat)(hn:PJ+1000≤n):
  ∃crew2,CW c crew2∧crew2.length=(sendAll a crew ts (QT w h c a crew ts)).1.length∧(∀k (h1:k<(sendAll a crew ts (QT w h c a crew ts)).1.length) (h2:k<crew2.length),crew2[k].1=(sendAll a crew ts (QT w h c a crew ts)).1[k].1∧crew2[k].2.2.1=(sendAll a crew ts (QT w h c a crew ts)).1[k].2.2.1∧crew2[k].2.2.2.1=(sendAll a crew ts (QT w h c a crew ts)).1[k].2.2.2.1)∧
   Xc n w h c (sendAll a crew ts (QT w h c a crew ts)).1=some crew2∧
   V8 n w h c a nx l crew ts st ou nw=some (w,h,c,(Q9 a ou l crew2 (sendAll a crew ts (QT w h c a crew ts)).2).1,nx,(Q9 a ou l crew2 (sendAll a crew ts (QT w h c a crew ts)).2).2.2.1,(Q9 a ou l crew2 (sendAll a crew ts (QT w h c a crew ts)).2).2.2.2.1,(Q9 a ou l crew2 (sendAll a crew ts (QT w h c a crew ts)).2).2.2.2.2,st,(Q9 a ou l crew2 (sendAll a crew ts (QT w h c a crew ts)).2).2.1,PD (nw+1)):=by
 have hB:PJ≤n:=AAw (AB1 _ _) hn;have zG:c.length≤1048576:=by have:=(Um d.fl).le;clear hn hB;omega
 have h20:=d.cw.Zx;have h60:=(QS.1 d.XB).1;have hd:=eM zG d.fl a crew ts;have ds:=d.oH hd (ZX hd.n1 hd.n2);have e1:=Z7 zG d.st.sm (show crew.length≤1048576 by omega) (show ts.length≤1048576 by omega) n hB (w:=w) (h:=h);rw[jT d.fl d.st d.cw d.XB]at e1;obtain⟨out,a1,a2,a3,a4,a5⟩:=jP zG ds.fl ds.cw n hn;have da:=ds.rQ a3 a4 a5;have h60s:=(QS.1 da.XB).1;have hL1:=kz (sendAll a crew ts (QT w h c a crew ts)).1 (sendAll a crew ts (QT w h c a crew ts)).2 w h c d.bg.sm da.oQ ts st hou.ob (PD (nw+1)) n hB;have hdone:=DI.QO (sendAll a crew ts (QT w h c a crew ts)).2 (a,ou,out,[],[]) da;have yg:(QO l (sendAll a crew ts (QT w h c a crew ts)).2 (a,ou,out,[],[])).2.2.2.1.length≤1048576:=by have:=(QS.1 hdone.XB).1;clear hn hB;omega
 have hl3:(QO l (sendAll a crew ts (QT w h c a crew ts)).2 (a,ou,out,[],[])).2.2.2.2.length≤1048576:=by have:=dH l (sendAll a crew ts (QT w h c a crew ts)).2 (a,ou,out,[],[]);dsimp only[List.length_nil]at this;clear hn hB;omega
 refine⟨out,a3,a4,a5,a1,?_⟩;unfold V8;rw[e1,ABT];rw[a2,ABT,hL1,ABT];rw[lA _ yg _ hl3 _ w h c _ nx d.bg _ st _ _ n hB,ABT];rfl
theorem aF(w h:Int)(c:List Int){a:List PH}(ha:PN a){nx:Int}{l:List Pk}(hb:BG nx l){crew:List Pf}(hc:CW c crew)(ts:List PZ)(st ou:List Int)(nw:Int){t:PZ}(hg:Pz t=true)(n:Nat)(hn:PJ≤n):
  ∃b,TB n w h c a nx l crew ts st ou nw t.1 t.2.1 t.2.2.1 t.2.2.2=some b∧(b=true↔Sa a l crew t):=by
 have hal:=ha.1;have zG:=hc.Zx;have hsm:=hb.sm;obtain⟨⟨s1,s4⟩,hrz⟩:=bM hg;unfold TB;cases ho:P0 l t.1 with
 |none=>
  have hm:∀x∈l,x.1≠t.1:=fun x hx e=>by unfold P0 at ho;have:=AB9.1 ho x hx;rw[e]at this;simp at this
  have hf:=UT nx l hsm.1 t.1 hm n hn;rw[Xl]at hf;rw[hf];refine⟨false,rfl,(fun e=>by cases e),fun hT=>?_⟩;obtain⟨o,e,_⟩:=hT.ord;grind
 |some o=>
  obtain⟨i,hi,e1,e2,ef⟩:=YJ hb.bk hsm ho n hn;rw[ef,ABT,show decide ((i:Int)<0)=false by grind,ABV];simp only[PA hi,e1,ABT];by_cases v7:o.2.2.2.2=1
  case neg=>
   rw[show(o.2.2.2.2 != 1)=true from ABz.2 v7];refine⟨false,rfl,(fun e=>by cases e),fun hT=>?_⟩;obtain⟨o2,e,e2,_⟩:=hT.ord;grind
  rw[show(o.2.2.2.2 != 1)=false by rw[v7];rfl,ABV];have hpx:=RY a (by omega) t.2.1 n hn;rw[hpx.1,ABT];rcases hpx.2 with⟨e,xN⟩|⟨j,hj,e,ej⟩
  ·rw[e];refine⟨false,rfl,(fun e=>by cases e),fun hT=>?_⟩;obtain⟨q,hq⟩:=hT.PU;exact(xN q (S6 hq).1 (S6 hq).2).elim
  have wC:o.2.2.2.1.length≤1048576:=(hsm.2 o (P6 ho).1).2
  have hplen:(Qj o.2.2.2.1).length≤1048576:=by have:=WX o.2.2.2.1 [];unfold Qj;simp only[List.length_nil]at this;clear hn;omega
  rw[e,show decide ((j:Int)<0)=false by grind,ABV,Wc o.2.2.2.1 wC n hn,ABT,QC _ hplen _ n hn];simp only[ABT];cases hany:(Qj o.2.2.2.1).any (fun x=>x==t.2.1)with
  |false=>
   refine⟨false,rfl,(fun e=>by cases e),fun hT=>?_⟩;obtain⟨o2,e,_,p,hp,ep⟩:=hT.ord;rw[ho]at e;injection e with e
   rw[←e]at hp;rw[←ABr]at hany;exact(hany (AA6.2 ⟨_,VU.2 ⟨p,hp,rfl⟩,AAS.2 ep⟩)).elim
  |true=>
   obtain⟨y,hy,ey⟩:=AA6.1 hany;obtain⟨p,hp,ep⟩:=VU.1 hy;have hord:∃o,P0 l t.1=some o∧o.2.2.2.2=1∧∃p∈o.2.2.2.1,p.1=t.2.1:=⟨_,ho,v7,p,hp,ep.trans (AAS.1 ey)⟩;have hpod:∃q,XQ a t.2.1=some q:=WW ⟨_,ABW hj,ej⟩;rw[ABc,ABV];by_cases h1:t.2.2.2=1
   ·rw[show(t.2.2.2==1)=true from AAS.2 h1,ABU];exact⟨true,rfl,fun _=>⟨hord,hpod,fun e=>(e h1).elim⟩,fun _=>rfl⟩
   ·rw[show(t.2.2.2==1)=false from ABa.2 h1,ABV,b7];rcases Wu crew (by omega) t.2.2.1 n hn with⟨e1,xN⟩|⟨k,hk,ek,e1⟩
    ·rw[e1];refine⟨false,rfl,(fun e=>by cases e),fun hT=>?_⟩;obtain⟨r,q1,_⟩:=hT.cP h1;exact(xN r (Pw q1).1 (Pw q1).2).elim
    ·have vQ:=XS hc.ids hk;rw[ek]at vQ;rw[e1,ABT,show decide ((k:Int)≥0)=true by grind,ABU];simp only[PA hk,ABT,U3 w h c ha hb.bk hsm crew ts st ou nw t ⟨o,ho⟩ hpod n hn]
     have hT:Sa a l crew t↔crew[k].2.2.1=TJ a l t∧crew[k].2.2.2.1=decide (2<t.2.2.2):=by
      constructor
      ·intro hT;obtain⟨r,q1,q2,q3⟩:=hT.cP h1;grind
      ·rintro ⟨q2,q3⟩
       exact⟨hord,hpod,fun _=>⟨_,vQ,q2,q3⟩⟩
     rw[hT];by_cases hgo:crew[k].2.2.1=TJ a l t
     ·rw[show(crew[k].2.2.1==TJ a l t)=true from AAS.2 hgo,ABU];exact⟨crew[k].2.2.2.1==decide (2<t.2.2.2),rfl,fun q=>⟨hgo,AAS.1 q⟩,fun q=>AAS.2 q.2⟩
     ·rw[show(crew[k].2.2.1==TJ a l t)=false from ABa.2 hgo];exact⟨false,rfl,(fun e=>by cases e),fun hh=>(hgo hh.1).elim⟩
theorem Wg(l:List Int)(hl:l.length≤1048576)(n:Nat)(hn:PJ≤n):∃b,Sr n l=some b∧(b=true↔Tv l):=by
 unfold Sr;by_cases h51:l.length=51
 case neg=>
  rw[show(((l.length:Nat):Int) != 51)=true from ABz.2 (by omega)];exact⟨false,rfl,(fun e=>by cases e),fun q=>(h51 q.1).elim⟩
 have h0:0<l.length:=by omega
 rw[show(((l.length:Nat):Int) != 51)=false by rw[h51];rfl,ABV,show(0:Int)=((0:Nat):Int)from rfl,PA h0,ABT,ABT];by_cases hz:l[0]=0
 case neg=>
  rw[show(l[0] != ((0:Nat):Int))=true from ABz.2 hz];refine⟨false,rfl,(fun e=>by cases e),fun q=>?_⟩;have:=q.2.2;grind
 rw[show(l[0] != ((0:Nat):Int))=false by rw[hz];rfl,ABV]
 have h1:=RT (SV l) l (fun x=>P1 x 0 1000000) (fun i x hi hx=>by
  have vh:l[i]=x:=by rw[AAF hi]at hx;exact Option.some.inj hx
  unfold SV;rw[show decide ((i:Int)<(l.length:Int))=true by rw[AAb];omega,ABU,PA hi,ABT,vh,QW,ABT,O9 hi (show l.length≤9223372036854775807 by omega)];grind) (by unfold SV;simp) n (by unfold PJ at hn;omega)
 rw[show((0:Nat):Int)=0 from rfl,h1];refine⟨l.all fun x=>P1 x 0 1000000,by grind,?_⟩;rw[AAU];constructor
 ·intro q;exact⟨h51,fun x hx=>Xh.1 (q x hx),by grind⟩
 ·intro q x hx;exact Xh.2 (q.2.1 x hx)
theorem U1(w h:Int)(c:List Int)(hc:c.length≤1048576)(a:List PH)(ha:PY a)(nx:Int)(l:List Pk)(hl:BG nx l)(crew:List Pf)(hcr:crew.length≤1048576)(ts:List PZ)(hts:ts.length≤1048576)(st ou:List Int)(v7:st.length≤1048576)(hou:ou.length≤1048576)(nw:Int)(n:Nat)(hn:PJ≤n):
  ∃b,S7 n w h c a nx l crew ts st ou nw=some b∧(b=true↔jL w h c a nx l crew ts st ou nw):=by
 obtain⟨k1,f1,i1⟩:=Wg st v7 n hn;obtain⟨k2,f2,i2⟩:=Wg ou hou n hn;unfold S7;rw[Pu w h c hc n hn,Pv a ha n hn,hl.spec n hn,WZ w h c hc crew hcr n hn,Xx ts hts n hn,f1,f2];simp only[ABT,QW];have no:∀ {P:Prop},¬P→∃b,(some false:Option Bool)=some b∧(b=true↔P):=fun hp=>⟨false,rfl,(fun e=>by cases e),fun q=>(hp q).elim⟩;cases e1:PV w h c with
 |false=>exact no fun d=>by rw[d.fl]at e1;cases e1
 |true=>
 cases e2:Ps a with
 |false=>exact no fun d=>by rw[Pp.2 d.mJ]at e2;cases e2
 |true=>
 cases e4:TG w h c crew with
 |false=>exact no fun d=>by rw[Ul.2 ⟨d.fl,d.cw⟩]at e4;cases e4
 |true=>
 cases e5:SY ts with
 |false=>exact no fun d=>by rw[Va.2 d.XB]at e5;cases e5
 |true=>
 cases e6:k1 with
 |false=>exact no fun d=>by rw[i1.2 d.c1]at e6;cases e6
 |true=>
 cases e7:k2 with
 |false=>exact no fun d=>by rw[i2.2 d.c2]at e7;cases e7
 |true=>
 cases e8:P1 nw 0 1000000 with
 |false=>exact no fun d=>by rw[Xh.2 d.now]at e8;cases e8
 |true=>
 have hS:=Pp.1 e2;have hC:=(Ul.1 e4).2;have hT:=Va.1 e5;have hgood:=(QS.1 hT).2.1;simp only[ABc,ABV,ABT]
 let val:Nat→Bool:=fun i=>match ts[i]? with
  |some t=>(TB n w h c a nx l crew ts st ou nw t.1 t.2.1 t.2.2.1 t.2.2.2).getD false
  |none=>false
 have wM:∀i (hi:i<ts.length),TB n w h c a nx l crew ts st ou nw ts[i].1 ts[i].2.1 ts[i].2.2.1 ts[i].2.2.2=some (val i)∧(val i=true↔Sa a l crew ts[i]):=fun i hi=>by obtain⟨b,e,ib⟩:=aF w h c hS hl hC ts st ou nw (hgood _ (ABW hi)) n hn;grind
 have h1:=Qq (Tk n w h c a nx l crew ts st ou nw) (fun k=>(k:Int)) ts.length val (fun i hi=>by
  unfold Tk;rw[show decide ((i:Int)<(ts.length:Int))=true by rw[AAb];clear hn;omega,ABU,PA hi,ABT,(wM i hi).1,ABT,O9 hi (show ts.length≤9223372036854775807 by clear hn;omega)];grind) (by unfold Tk;simp) n (by unfold PJ at hn;omega)
 rw[show((0:Nat):Int)=0 from rfl]at h1;rw[h1];refine⟨(List.range ts.length).all val,by grind,?_⟩;rw[AAU];constructor
 ·intro q;refine⟨e1,hS,hl.bk,hC,hT,i1.1 e6,i2.1 e7,Xh.1 e8,fun t ht=>?_⟩;obtain⟨i,hi,rfl⟩:=ABY.1 ht;grind
 ·intro d i hi;have hi:=AAR.1 hi;exact(wM i hi).2.2 (d.tk _ (ABW hi))
structure DZ(c:List Int)(a:List PH)(crew:List Pf)(ts:List PZ)(st ou:List Int):Prop where
 c1:c.length≤1048576
 a1:PY a
 r1:crew.length≤1000000
 t1:ts.length≤1000000
 s1:st.length≤1000000
 o1:ou.length≤1000000
theorem DI.z{w h:Int}{c:List Int}{a:List PH}{nx:Int}{l:List Pk}{crew:List Pf}{ts:List PZ}(d:DI w h c a nx l crew ts){st ou:List Int}(h1:Tv st)(h2:Tv ou):DZ c a crew ts st ou:=by have q1:=(Um d.fl).le;have q2:=d.cw.Zx;have q3:=(QS.1 d.XB).1;have q4:=h1.1;have q5:=h2.1;exact⟨by omega,d.st.sm,by omega,by omega,by omega,by omega⟩
theorem jL.z{w h:Int}{c:List Int}{a:List PH}{nx:Int}{l:List Pk}{crew:List Pf}{ts:List PZ}{st ou:List Int}{nw:Int}(d:jL w h c a nx l crew ts st ou nw):DZ c a crew ts st ou:=by have q1:=(Um d.fl).le;have q2:=d.cw.Zx;have q3:=(QS.1 d.XB).1;have q4:=d.c1.1;have q5:=d.c2.1;exact⟨by omega,d.mJ.sm,by omega,by omega,by omega,by omega⟩
theorem Tp(w h:Int){c:List Int}{a:List PH}{nx:Int}{l:List Pk}(hl:QX (nx,l)){crew:List Pf}{ts:List PZ}{st ou:List Int}(z:DZ c a crew ts st ou)(nw:Int)(n:Nat)(hn:PJ≤n):Ry n w h c a nx l crew ts st ou nw=some (w,h,c,a,nx,l,crew,ts,st,ou,nw):=by obtain⟨c1,a1,r1,t1,s1,o1⟩:=z;unfold Ry;rw[YO w h c c1,ABT,PR a a1 n hn,ABT,R8 nx l hl n hn,ABT,Uz (by grind),Uz (by grind),Uz (by grind),Uz (by grind)];rfl
theorem Wm(w h:Int){c:List Int}{a:List PH}{nx:Int}{l:List Pk}(hl:QX (nx,l)){crew:List Pf}{ts:List PZ}{st ou:List Int}(z:DZ c a crew ts st ou)(nw:Int)(n:Nat)(hn:PJ≤n):Sh n w h c a nx l crew ts st ou nw=some (w,h,c,a,nx,l,crew,ts,st,ou,nw):=by obtain⟨c1,a1,r1,t1,s1,o1⟩:=z;unfold Sh SJ WR SK;rw[ZJ w h c c1,ABT,Pd a a1 n hn,ABT,RV nx l hl n hn,ABT,Uz (by omega),Uz (by omega),Uz (by omega),Uz (by omega)];rfl
theorem ar(w h:Int)(c:List Int)(hl:c.length≤1048576)(hf:PV w h c=true)(i:Int)(n:Nat)(hn:PJ≤n):Ww n w h c i=some (bif P1 i 0 ((c.length:Int)-1)then c.getD i.toNat 0 else 0):=by
 unfold Ww Su;rw[Pu w h c hl n hn,hf,show PD ((c.length:Int)-1)=(c.length:Int)-1 from PF (by omega) (by omega)];simp only[QW,ABT,ABc,ABV,ABU];cases hb:P1 i 0 ((c.length:Int)-1)with
 |false=>rfl
 |true=>
  obtain⟨m,rfl,hm⟩:=X9 hb;simp[PA hm,hm]
theorem iS{c:List Int}{i:Int}(h:(bif P1 i 0 ((c.length:Int)-1)then c.getD i.toNat 0 else 0)=3):QJ c i=true:=by unfold QJ;grind
theorem BG.opened{nx:Int}{l:List Pk}(h:BG nx l):BG nx (Qp l):=by
 have hm:∀o∈Qp l,o∈l:=fun o ho=>by unfold Qp at ho;grind
 obtain⟨b1,b2,b3,b4⟩:=h.bk;exact⟨⟨b1,by unfold Qp;grind,by unfold Qp;grind,fun o ho=>b4 o (hm o ho)⟩,fun o ho=>h.KN o (hm o ho),fun o ho=>h.aU o (hm o ho)⟩
theorem cB{nx:Int}{l:List Pk}(h:BG nx l)(n:Nat)(hn:PJ≤n):We n nx l=some (nx,Qp l):=by
 have hlen:=h.bk.2.1;have hsm:=h.sm;unfold We;rw[h.spec n hn,ABT]
 have hc:=Ph (σ:=List Pk) (VI l) (fun i s=>((i:Int),nx,s)) l (fun r s=>((l.length:Int),nx,s++Qp r)) (fun i s=>s.length≤i)
  (fun s hs=>by simp[VI,Qp]) (fun i y r s h1 h2 h3 h4 h5=>by
   left;have hy:l[i]=y:=by rw[AAF h1]at h2;exact Option.some.inj h2
   unfold VI;dsimp only;rw[show decide ((i:Int)<(l.length:Int))=true by simpa using h1,ABU,PA h1,hy,ABT,O9 h1 (by omega)];cases hq:(y.2.2.2.2==1)with
   |true=>
    have hyo:ZY y:=hsm.2 y (by rw[←hy];exact ABW h1)
    have yE:Py y.1 y.2.1 y.2.2.1 y.2.2.2.1 y.2.2.2.2=some y:=by have q1:=hyo.1;have q2:=hyo.2;unfold Py;rw[Uz (by simp;unfold fJ at q1;clear hn;omega),Uz (by simp;unfold fK at q2;clear hn;omega)];rfl
    rw[ABU,ABT,yE,ABT];have hr:decide (s.length+1≤Dh)=true:=Rq (by omega);simp only[ABb,hr,ABU,ABT];exact⟨s++[y],rfl,by rw[AA2,ABb];omega,by simp[Qp,hq]⟩
   |false=>
    rw[ABV,ABT];exact⟨s,rfl,by omega,by simp[Qp,hq]⟩)
  n (by unfold PJ at hn;omega) [] (by simp)
 grind
theorem BG.impl{nx:Int}{l:List Pk}(h:BG nx l)(n:Nat)(hn:PJ≤n):Qc n nx l=some true:=by obtain⟨b,e,ib⟩:=Ve h.sm n hn;rw[e,ib.2 h.bk]
theorem bR{nx:Int}{l:List Pk}(h:BG nx l)(n:Nat)(hn:PJ≤n):WO n nx l=some (nx,Qp l):=by
 have hlen:=h.bk.2.1;have hsm:=h.sm;unfold WO;rw[h.impl n hn,ABT]
 have hc:=Ph (σ:=List Pk) (U7 l) (fun i s=>((i:Int),nx,s)) l (fun r s=>((l.length:Int),nx,s++Qp r)) (fun i s=>s.length≤i)
  (fun s hs=>by simp[U7,Qp]) (fun i y r s h1 h2 h3 h4 h5=>by
   left;have hy:l[i]=y:=by rw[AAF h1]at h2;exact Option.some.inj h2
   unfold U7;dsimp only;rw[show decide ((i:Int)<(l.length:Int))=true by simpa using h1,ABU,PA h1,hy,ABT,O9 h1 (by omega)];cases hq:(y.2.2.2.2==1)with
   |true=>
    rw[ABU,UO y (hsm.2 y (by rw[←hy];exact ABW h1)),ABT];have hr:decide (s.length+1≤Dh)=true:=Rq (by omega);simp only[ABb,hr,ABU,ABT];exact⟨s++[y],rfl,by rw[AA2,ABb];omega,by simp[Qp,hq]⟩
   |false=>
    rw[ABV,ABT];exact⟨s,rfl,by omega,by simp[Qp,hq]⟩)
  n (by unfold PJ at hn;omega) [] (by simp)
 grind
theorem b8(s:List PH)(hs:PY s){nx:Int}{l:List Pk}(hb:BG nx l)(h30:l.length=30)(desk:Int)(it:List Pa)(n:Nat)(hn:PJ≤n):Sn n s nx l desk it=some (s,nx,l,0):=by unfold Sn;rw[R8 nx l hb.sm n hn,ABT,Pv s hs n hn,hb.spec n hn];simp only[ABT,QW,PR s hs n hn];grind
theorem bP(s:List PH)(hs:PY s){nx:Int}{l:List Pk}(hb:BG nx l)(h30:l.length=30)(desk:Int)(it:List Pa)(xw:it.length≤1000)(n:Nat)(hn:PJ≤n):Sc n s nx l desk it=some (s,nx,l,0):=by unfold Sc;rw[Qh s hs n hn,hb.impl n hn];simp only[ABT,Vk,QW,Pd s hs n hn,RV nx l hb.sm n hn,RU it (show it.length≤1048576 by clear hn;omega) n hn];grind
theorem Uo(nx:Int){l:List Pk}(hsm:QX (nx,l))(hp:l.Pairwise fun a b=>a.1<b.1){i:Nat}(hi:i<l.length)(n:Nat)(hn:PJ≤n):RC n nx l l[i].1=some (l[i].1,l[i].2.1,l[i].2.2.1,l[i].2.2.2.1,l[i].2.2.2.2,true):=by unfold RC;rw[Ws nx l hsm.1 hp i hi n hn,ABT,show decide ((i:Int)<0)=false by grind,ABV,PA hi,ABT,UO l[i] (hsm.2 _ (ABW hi)),ABT]
theorem ZH(nx:Int){l:List Pk}(hsm:QX (nx,l)){id:Int}(hc:∀x∈l,x.1≠id)(n:Nat)(hn:PJ≤n):RC n nx l id=some (0,0,[],[],0,false):=by unfold RC;rw[UT nx l hsm.1 id hc n hn];rfl
def jN(w h:Int)(c:List Int)(a:List PH)(nx:Int)(l:List Pk)(crew:List Pf)(ts:List PZ)(st ou:List Int)(nw desk:Int)(it:List Pa)(r:Int×Int×List Int×List PH×Int×List Pk×List Pf×List PZ×List Int×List Int×Int×Int):Prop:=
 r=(w,h,c,a,nx,l,crew,ts,st,ou,nw,0)∨∃o l',(l'=l∨l'=Qp l)∧l'.length≤29∧jL w h c a nx l crew ts st ou nw∧aN a nx l' desk it o∧QJ c desk=true∧(bif P1 desk 0 ((c.length:Int)-1)then c.getD desk.toNat 0 else 0)=3∧ts.length+(Qj o).length≤60∧
  r=(w,h,c,PX a (tp o),nx+1,l'++[(nx,desk,it,o,1)],crew,ts++(Qj o).map (fun x=>(nx,x,(0:Int),(1:Int))),st,ou,nw,nx)
theorem dB(w h:Int){c:List Int}{a:List PH}{nx:Int}{l:List Pk}(hb:BG nx l){crew:List Pf}{ts:List PZ}{st ou:List Int}(z:DZ c a crew ts st ou)(nw desk:Int)(it:List Pa)(xw:it.length≤1000)(n:Nat)(hn:PJ≤n):
  ∃r,XT n w h c a nx l crew ts st ou nw desk it=some r∧YX n w h c a nx l crew ts st ou nw desk it=some r∧jN w h c a nx l crew ts st ou nw desk it r:=by
 obtain⟨b1,e1,i1⟩:=U1 w h c z.c1 a z.a1 nx l hb crew (by have:=z.r1;omega) ts (by have:=z.t1;omega) st ou (by have:=z.s1;omega) (by have:=z.o1;omega) nw n hn;obtain⟨b2,e2,i2⟩:=Un w h c z.c1 a z.a1 nx l hb.sm crew (by have:=z.r1;omega) ts (by have:=z.t1;omega) st ou (by have:=z.s1;omega) (by have:=z.o1;omega) nw n hn;have hbb:b1=b2:=by grind
 subst hbb;have hl30:=hb.bk.2.1;unfold XT YX;rw[Tp w h hb.sm z nw n hn,Wm w h hb.sm z nw n hn,ABT,ABT,e1,e2];dsimp only;have TN:∃r,(some (w,h,c,a,nx,l,crew,ts,st,ou,nw,(0:Int)):Option (Int×Int×List Int×List PH×Int×List Pk×List Pf×List PZ×List Int×List Int×Int×Int))=some r∧(some (w,h,c,a,nx,l,crew,ts,st,ou,nw,(0:Int)):Option (Int×Int×List Int×List PH×Int×List Pk×List Pf×List PZ×List Int×List Int×Int×Int))=some r∧jN w h c a nx l crew ts st ou nw desk it r:=⟨_,rfl,rfl,.inl rfl⟩;cases b1 with
 |false=>exact TN
 |true=>
 have D:=i1.1 rfl;simp only[ABT,ABc,ABV];rw[ar w h c z.c1 D.fl desk n hn,Xs w h c z.c1 D.fl desk n hn,ABT,ABT];generalize hk:(bif P1 desk 0 ((c.length:Int)-1)then c.getD desk.toNat 0 else 0)=kd;by_cases h3:kd=3
 case neg=>
  grind
 rw[show(kd != 3)=false by rw[h3];rfl];simp only[ABT,ABV]
 obtain⟨l',uz,th,hsw1,hsw2⟩:∃l',(l'=l∨l'=Qp l)∧BG nx l'∧(bif((l.length:Int)==30)then(We n nx l).bind fun x6=>some (x6.1,x6.2)else some (nx,l))=some (nx,l')∧(bif decide ((l.length:Int)≥30)then(WO n nx l).bind fun x6=>some (x6.1,x6.2)else some (nx,l))=some (nx,l'):=by
  by_cases h30:l.length=30
  ·refine⟨Qp l,.inr rfl,hb.opened,?_,?_⟩
   ·rw[show((l.length:Int)==30)=true by rw[AAS];clear hn;omega,ABU,cB hb n hn];rfl
   ·rw[show decide ((l.length:Int)≥30)=true by rw[AAb];clear hn;omega,ABU,bR hb n hn];rfl
  grind
 rw[hsw1,hsw2,ABT,ABT];dsimp only;by_cases h29:l'.length≤29
 case neg=>
  have h30:l'.length=30:=by have:=th.bk.2.1;clear hn;omega
  rw[b8 a z.a1 th h30 desk it n hn,bP a z.a1 th h30 desk it xw n hn];exact TN
 have hq:mM nx l':=⟨th.sm,h29,th.KN,fun _=>th.aU⟩;obtain⟨r,a1,a2,a3⟩:=eC a z.a1 hq desk it xw n hn;rw[a1,a2,ABT,ABT];rcases a3 with rfl|⟨o,T,rfl⟩
 ·exact TN
 unfold jK;dsimp only;have hnx:=T.bk.1;have tX:=T.lt;have yV:=T.book h29;have h72:=T.aU;have h6:=T.im.2.2;have hsm2:QX (nx+1,l'++[(nx,desk,it,o,1)]):=fL th.sm (by omega) (nx,desk,it,o,1) (by omega) (by grind);have hli:l'.length<(l'++[(nx,desk,it,o,1)]).length:=by rw[AA2,ABb];exact Nat.lt_succ_self _
 have tv:(l'++[((nx,desk,it,o,1):Pk)])[l'.length]?=some (nx,desk,it,o,1):=by rw[AA3 (AAd _),Nat.sub_self];rfl
 have hgetE:(l'++[((nx,desk,it,o,1):Pk)])[l'.length]=(nx,desk,it,o,1):=by rw[AAF hli]at tv;exact Option.some.inj tv
 have hoo:=Uo (nx+1) hsm2 yV.2.2.1 hli n hn;rw[hgetE]at hoo;dsimp only at hoo;have hw:PD (((l'++[((nx,desk,it,o,1):Pk)]).length:Int)-1)=(l'.length:Int):=by rw[AA2,ABb,PF (by omega) (by omega)];clear hn;omega
 have hpo:o.length≤1048576:=by clear hn;omega
 have t1:=ax (nx,desk,it,o,1) hpo n hn;have t2:=ah (nx,desk,it,o,1) hpo n hn;dsimp only at t1 t2
 have wC:(Qj o).length≤72:=by have:=WX o [];unfold Qj;simp only[List.length_nil]at this;clear hn;omega
 have h60:=(QS.1 D.XB).1;rw[show(nx==0)=false by grind,ABV,ABV,hw,PE hli,ABU,ABX,tv];simp only[ABT,hoo,t1,t2];rw[ABB,PF (n:=(ts.length:Int)+((Qj o).length:Int)) (by omega) (by omega)];by_cases hle:ts.length+(Qj o).length≤60
 case neg=>
  grind
 rw[show decide ((ts.length:Int)+((Qj o).length:Int)>60)=false by grind,ABV,Uz (by omega)];exact⟨_,rfl,rfl,.inr ⟨o,l',uz,h29,D,T,iS (hk.trans h3),hk.trans h3,hle,rfl⟩⟩
theorem cA(a:List PH)(hs:PY a)(PU k m:Int)(n:Nat)(hn:PJ≤n):Xo n a PU k m=some (Yg a PU k m):=by
 unfold Xo Yg;rw[Xj a hs PU k m n hn,ABT];by_cases hc:P2 a PU k m=0
 ·obtain⟨ha,hk,hm,i,hi,e1,e2,e3⟩:=Qa hc;have v7:=(ha.2.2 _ (ABW hi)).2.2;obtain⟨b1,b2,b3,b4,b5⟩:=TF v7 k;rw[←e3]at b1 b2 b3 b4 b5;have h8:=v7.2.2;rw[AAM (show ¬P2 a PU k m≠0 by simp[hc]),AAM (show ¬P2 a PU k m≠0 by simp[hc])];dsimp only;rw[show((0:Int) != 0)=false from rfl,ABV,PF (n:=(SH a PU k).2.1+m) (by omega) (by omega),e1,PA hi,ABT];have hlen:dw a PU=a[i].2.2.length:=by unfold dw;grind
  rw[hlen];by_cases hgt:(SH a PU k).2.1+m>1000
  ·rw[ABZ hgt,AAK (.inl hgt)];simp only[ABU,ABT,PR a hs n hn]
  ·rw[ABd hgt,ABV];by_cases hz:(SH a PU k).2.1=0
   ·rw[show((SH a PU k).2.1==0)=true from AAS.2 hz,ABU];by_cases h8e:a[i].2.2.length=8
    ·rw[AAK (.inr ⟨hz,h8e⟩),show((a[i].2.2.length:Int)==8)=true by rw[AAS];clear hn;omega];simp only[ABU,ABT,PR a hs n hn]
    ·rw[AAM (by omega),show((a[i].2.2.length:Int)==8)=false by rw[ABa];clear hn;omega];simp only[ABV,ABT,Ya ha hi,Ya ha hi _ _ _ n hn,e2,b5]
   ·rw[show((SH a PU k).2.1==0)=false from ABa.2 hz,ABV,AAM (by omega)];simp only[ABV,ABT,Ya ha hi _ _ _ n hn,e2,b5]
 ·rw[AAK hc,AAK hc];dsimp only;rw[show(P2 a PU k m != 0)=true by grind,ABU,PR a hs n hn];rfl
def lC(w h:Int)(c:List Int)(a:List PH)(nx:Int)(l:List Pk)(crew:List Pf)(ts:List PZ)(st ou:List Int)(nw PU k m:Int)(r:Int×Int×List Int×List PH×Int×List Pk×List Pf×List PZ×List Int×List Int×Int×Int):Prop:=
 (∃e,e≠0∧r=(w,h,c,a,nx,l,crew,ts,st,ou,nw,e))∨(jL w h c a nx l crew ts st ou nw∧(Yg a PU k m).2=0∧st.getD k.toNat 0+m≤1000000∧r=(w,h,c,(Yg a PU k m).1,nx,l,crew,ts,st.set k.toNat (st.getD k.toNat 0+m),ou,nw,0))
theorem lT{a:List PH}{PU k m:Int}(h:(Yg a PU k m).2=0):(1≤k∧k≤50)∧(1≤m∧m≤1000):=by obtain⟨_,h1,h2,_⟩:=Qa (iy h);omega
theorem aA(w h:Int){c:List Int}{a:List PH}{nx:Int}{l:List Pk}(hb:BG nx l){crew:List Pf}{ts:List PZ}{st ou:List Int}(z:DZ c a crew ts st ou)(nw PU k m:Int)(n:Nat)(hn:PJ≤n):
  ∃r,Vz n w h c a nx l crew ts st ou nw PU k m=some r∧lC w h c a nx l crew ts st ou nw PU k m r:=by
 obtain⟨b1,e1,i1⟩:=U1 w h c z.c1 a z.a1 nx l hb crew (by have:=z.r1;omega) ts (by have:=z.t1;omega) st ou (by have:=z.s1;omega) (by have:=z.o1;omega) nw n hn;unfold Vz;rw[Tp w h hb.sm z nw n hn,ABT,e1,ABT];dsimp only;cases b1 with
 |false=>exact⟨_,rfl,.inl ⟨1,by omega,rfl⟩⟩
 |true=>
 have D:=i1.1 rfl;rw[ABc,ABV,cA a z.a1 PU k m n hn,ABT];by_cases h0:(Yg a PU k m).2=0
 case neg=>
  rw[show((Yg a PU k m).2 != 0)=true from ABz.2 h0];exact⟨_,rfl,.inl ⟨_,h0,rfl⟩⟩
 obtain⟨⟨k1,k2⟩,m1,m2⟩:=lT h0;have h51:=D.c1.1;have hk:k.toNat<st.length:=by clear hn;omega
 have hgi:M8 st k=some (st.getD k.toNat 0):=by obtain⟨j,rfl⟩:∃j:Nat,k=(j:Int):=⟨k.toNat,by omega⟩;rw[ABX]at hk ⊢;rw[PA hk];simp[hk]
 have wA:=D.c1.ob.getD (by omega) k.toNat;have hw:PD (st.getD k.toNat 0+m)=st.getD k.toNat 0+m:=PF (by omega) (by omega);rw[show((Yg a PU k m).2 != 0)=false by rw[h0];rfl,ABV,hgi,ABT,hw];by_cases hle:st.getD k.toNat 0+m≤1000000
 ·rw[show decide (st.getD k.toNat 0+m>1000000)=false by grind,ABV,ABT,YA ⟨by omega,by omega⟩,ABU,P5,hw];exact⟨_,rfl,.inr ⟨D,h0,hle,rfl⟩⟩
 ·rw[show decide (st.getD k.toNat 0+m>1000000)=true by rw[AAb];clear hn;omega];exact⟨_,rfl,.inl ⟨4,by omega,rfl⟩⟩
theorem Zb{a:List PH}(ha:PN a){nx:Int}{l:List Pk}(hb:BG nx l){id:Int}{o:Pk}(ho:P0 l id=some o)(n:Nat)(hn:PJ≤n):
  VK n a nx l id=some (bif(o.2.2.2.2==1)&&(Qu VV a o.2.2.2.1).2 then((Qu VV a o.2.2.2.1).1,nx,Qx l id 3,true)else(a,nx,l,false)):=by
 have hsm:=hb.sm;obtain⟨i,hi,e1,e2,ef⟩:=YJ hb.bk hsm ho n hn;have wC:o.2.2.2.1.length≤1048576:=(hsm.2 o (P6 ho).1).2;unfold VK;rw[R8 nx l hsm n hn,ABT,ef,ABT,Pv a ha.sm n hn,Pp.2 ha,hb.spec n hn];simp only[ABT,ABc,ABV,show decide ((i:Int)<0)=false by grind,PA hi,e1,PR a ha.sm n hn,Yi a ha.sm o.2.2.2.1 wC n hn];cases hs:(o.2.2.2.2==1)with
 |false=>
  grind
 |true=>
  rw[show(o.2.2.2.2 != 1)=false by grind,ABV,ABp];cases(Qu VV a o.2.2.2.1).2 with
  |false=>rfl
  |true=>simp only[ABc,ABV,PE hi,ABU,ABX,Zz hb.bk.2.2.1 hi,e1,e2]
def SO(id:Int):List PZ→List PZ×Int→Option (List PZ×Int)
 | [],s=>some s
 |t::r,s=>if t.1≠id then SO id r (s.1++[t],s.2)else if t.2.2.2≠1 then none else SO id r (s.1,s.2+1)
theorem XW(id:Int):∀(ts:List PZ)(s:List PZ×Int),(SO id ts s=none∧∃t∈ts,t.1=id∧t.2.2.2≠1)∨(SO id ts s=some (s.1++ts.filter (fun t => !(t.1==id)),s.2+((ts.filter fun t=>t.1==id).length:Int))∧∀t∈ts,t.1=id→t.2.2.2=1)
 | [],s=>.inr ⟨by simp[SO],(fun t ht=>by cases ht)⟩
 |t::r,s=>by
  unfold SO;by_cases h1:t.1=id
  ·rw[AAM (by simp[h1])];by_cases h2:t.2.2.2=1
   ·rw[AAM (by simp[h2])];rcases XW id r (s.1,s.2+1)with⟨e,u,hu,hh⟩|⟨e,hh⟩
    ·exact .inl ⟨e,u,AAJ _ hu,hh⟩
    ·refine .inr ⟨?_,fun u hu=>?_⟩
     ·rw[e,ABy,ABy,show(t.1==id)=true from AAS.2 h1];simp;omega
     ·rcases AAZ.1 hu with rfl|hu
      ·exact fun _=>h2
      ·exact hh u hu
   grind
  ·rw[AAK h1];rcases XW id r (s.1++[t],s.2)with⟨e,u,hu,hh⟩|⟨e,hh⟩
   all_goals grind
theorem cD(ts:List PZ)(hts:ts.length≤1000000)(id:Int)(w h:Int)(c:List Int)(a:List PH)(nx:Int)(l:List Pk)(crew:List Pf)(us:List PZ)(st ou:List Int)(nw:Int)(n:Nat)(hn:PJ≤n):
  iter n (UU ts id) (0,[],0,0,0,[],[],0,[],[],[],[],[],0,w,h,c,a,nx,l,crew,us,st,ou,nw)=some (match SO id ts ([],0)with
   |none=>.inr (w,h,c,a,nx,l,crew,us,st,ou,nw,false)
   |some s=>.inl (s.2,s.1,(ts.length:Int),0,0,[],[],0,[],[],[],[],[],0,w,h,c,a,nx,l,crew,us,st,ou,nw)):=by
 refine Ph (σ:=List PZ×Int) (UU ts id) (fun i s=>(s.2,s.1,(i:Int),0,0,[],[],0,[],[],[],[],[],0,w,h,c,a,nx,l,crew,us,st,ou,nw)) ts (fun q s=>match SO id q s with
   |none=>.inr (w,h,c,a,nx,l,crew,us,st,ou,nw,false)
   |some s=>.inl (s.2,s.1,(ts.length:Int),0,0,[],[],0,[],[],[],[],[],0,w,h,c,a,nx,l,crew,us,st,ou,nw)) (fun i s=>s.1.length≤i∧0≤s.2∧s.2≤(i:Int)) (fun s _=>?_) (fun i t q s hi hx _ _ hs=>?_) n (by unfold PJ at hn;omega) ([],0) ⟨by simp,by simp,by simp⟩
 ·unfold UU SO;grind
 ·have he:ts[i]=t:=by rw[AAF hi]at hx;exact Option.some.inj hx
  have hr:decide (s.1.length+[(t:PZ)].length≤Dh)=true:=Rq (by omega);unfold UU;dsimp only;rw[show decide ((i:Int)<(ts.length:Int))=true by rw[AAb];clear hn;omega];simp only[ABU,PA hi,he,ABT,O9 hi (show ts.length≤9223372036854775807 by omega)];by_cases h1:t.1=id
  ·rw[show(t.1 != id)=false by rw[h1];simp];by_cases h2:t.2.2.2=1
   ·left;refine⟨(s.1,s.2+1),?_,⟨by grind,by omega,by omega⟩,?_⟩
    ·rw[show(t.2.2.2 != 1)=false by rw[h2];rfl,PF (n:=s.2+1) (by omega) (by omega)];rfl
    ·rw[SO,AAM (by simp[h1]),AAM (by simp[h2])]
   ·right;rw[show(t.2.2.2 != 1)=true from ABz.2 h2,SO,AAM (by simp[h1]),AAK h2];rfl
  ·left;refine⟨(s.1++[t],s.2),?_,⟨by grind,hs.2.1,by omega⟩,?_⟩
   ·grind
   ·rw[SO,AAK h1]
structure eD(w h:Int)(c:List Int)(a:List PH)(nx:Int)(l:List Pk)(crew:List Pf)(ts:List PZ)(st ou:List Int)(nw id:Int)(o:Pk):Prop where
 ok:jL w h c a nx l crew ts st ou nw
 ord:P0 l id=some o
 pN:o.2.2.2.2=1
 rL:∀t∈ts,t.1=id→t.2.2.2=1
 num:(Qj o.2.2.2.1).length≤(ts.filter fun t=>t.1==id).length
 rel:(Qu VV a o.2.2.2.1).2=true
abbrev eE:=Int×Int×List Int×List PH×Int×List Pk×List Pf×List PZ×List Int×List Int×Int×Bool
def aL(w h:Int)(c:List Int)(a:List PH)(nx:Int)(l:List Pk)(crew:List Pf)(ts:List PZ)(st ou:List Int)(nw id:Int)(r:eE):Prop:=
 (r=(w,h,c,a,nx,l,crew,ts,st,ou,nw,false)∧∀o,¬eD w h c a nx l crew ts st ou nw id o)∨(∃o,eD w h c a nx l crew ts st ou nw id o∧
  r=(w,h,c,(Qu VV a o.2.2.2.1).1,nx,Qx l id 3,crew,ts.filter (fun t => !(t.1==id)),st,ou,nw,true))
theorem aL.uniq{w h:Int}{c:List Int}{a:List PH}{nx:Int}{l:List Pk}{crew:List Pf}{ts:List PZ}{st ou:List Int}{nw id:Int}{r s:eE}(h1:aL w h c a nx l crew ts st ou nw id r)(h2:aL w h c a nx l crew ts st ou nw id s):r=s:=by
 rcases h1 with⟨e1,n1⟩|⟨o1,c1,e1⟩<;>rcases h2 with⟨e2,n2⟩|⟨o2,c2,e2⟩
 ·rw[e1,e2]
 ·grind
 ·grind
 ·have:=c1.ord;rw[c2.ord]at this;grind
theorem ck(w h:Int){c:List Int}{a:List PH}{nx:Int}{l:List Pk}(hb:BG nx l){crew:List Pf}{ts:List PZ}{st ou:List Int}(z:DZ c a crew ts st ou)(nw id:Int)(n:Nat)(hn:PJ≤n):
  ∃r,Yd n w h c a nx l crew ts st ou nw id=some r∧aL w h c a nx l crew ts st ou nw id r:=by
 obtain⟨b1,e1,i1⟩:=U1 w h c z.c1 a z.a1 nx l hb crew (by have:=z.r1;omega) ts (by have:=z.t1;omega) st ou (by have:=z.s1;omega) (by have:=z.o1;omega) nw n hn;unfold Yd;rw[Tp w h hb.sm z nw n hn,ABT,e1];dsimp only;have TN:(∀o,¬eD w h c a nx l crew ts st ou nw id o)→∃r,(some (w,h,c,a,nx,l,crew,ts,st,ou,nw,false):Option eE)=some r∧aL w h c a nx l crew ts st ou nw id r:=fun xN=>⟨_,rfl,.inl ⟨rfl,xN⟩⟩;cases ho:P0 l id with
 |none=>
  have hm:∀x∈l,x.1≠id:=fun x hx e=>by unfold P0 at ho;grind
  have hf:=UT nx l hb.sm.1 id hm n hn;rw[Xl]at hf;rw[hf];cases b1<;>exact TN fun o q=>by have:=q.ord;grind
 |some o=>
  obtain⟨i,hi,e2,e3,ef⟩:=YJ hb.bk hb.sm ho n hn;rw[ef,ABT];cases b1 with
  |false=>exact TN fun o q=>by have:=i1.2 q.ok;cases this
  |true=>
  have D:=i1.1 rfl;have wC:o.2.2.2.1.length≤1048576:=(hb.sm.2 o (P6 ho).1).2;simp only[ABT,ABc,ABV,show decide ((i:Int)<0)=false by rw[AAf];clear hn;omega];rw[cD ts z.t1 id w h c a nx l crew ts st ou nw n hn,ABT,Zb D.mJ hb ho n hn];rcases XW id ts ([],0)with⟨e,t,ht,ht1,ht2⟩|⟨e,hw⟩
  ·rw[e];exact TN fun o q=>ht2 (q.rL t ht ht1)
  ·rw[e];dsimp only;rw[ABT,AA4,Int.zero_add];cases hq:((o.2.2.2.2==1)&&(Qu VV a o.2.2.2.1).2)with
   |false=>
    refine TN fun o2 q=>?_;have:=q.ord;rw[ho]at this;injection this with this
    subst this;rw[q.pN,q.rel]at hq;cases hq
   |true=>
    have xk:=Bool.and_eq_true_iff.1 hq;dsimp only[cond_true];simp only[ABc,ABV,PA hi,e2,ABT,Wc o.2.2.2.1 wC n hn];by_cases tX:(Qj o.2.2.2.1).length≤(ts.filter fun t=>t.1==id).length
    ·rw[show decide ((((ts.filter fun t=>t.1==id).length:Nat):Int)<((Qj o.2.2.2.1).length:Int))=false by rw[AAf];clear hn;omega];exact⟨_,rfl,.inr ⟨o,⟨D,ho,AAS.1 xk.1,hw,tX,xk.2⟩,rfl⟩⟩
    ·rw[show decide ((((ts.filter fun t=>t.1==id).length:Nat):Int)<((Qj o.2.2.2.1).length:Int))=true by rw[AAb];clear hn;omega];refine TN fun o2 q=>?_;have:=q.ord;rw[ho]at this;injection this with this
     subst this;exact tX q.num
abbrev eF:=Int→Int→List Int→List PH→Int→List Pk→List Pf→List PZ→List Int→List Int→Prop
structure dA(Q:eF):Prop where
 di:∀ {w h:Int} {c:List Int} {a:List PH} {nx:Int} {l:List Pk} {crew:List Pf} {ts:List PZ} {st ou:List Int},Q w h c a nx l crew ts st ou→DI w h c a nx l crew ts∧Tv st∧Tv ou
 new:∀ {w h:Int} {c:List Int} {a:List PH},Yn w h c a=true→Q w h c a 1 [] (Rt (Pt c) (min (Pt c).length 20)) [] (RS a 50) (List.replicate 51 0)
 hZ:∀ {w h:Int} {c:List Int} {a:List PH} {nx:Int} {l:List Pk} {crew:List Pf} {ts:List PZ} {st ou:List Int},Q w h c a nx l crew ts st ou→Q w h c a nx (Qp l) crew ts st ou
 take:∀ {w h:Int} {c:List Int} {a:List PH} {nx:Int} {l:List Pk} {crew:List Pf} {ts:List PZ} {st ou:List Int} {desk:Int} {it:List Pa} {o:List O8},Q w h c a nx l crew ts st ou→aN a nx l desk it o→QJ c desk=true→l.length≤29→ts.length+(Qj o).length≤60→
  Q w h c (PX a (tp o)) (nx+1) (l++[(nx,desk,it,o,1)]) crew (ts++(Qj o).map fun x=>(nx,x,(0:Int),(1:Int))) st ou
 back:∀ {w h:Int} {c:List Int} {a:List PH} {nx:Int} {l:List Pk} {crew:List Pf} {ts:List PZ} {st ou:List Int} {id:Int} {o:Pk},Q w h c a nx l crew ts st ou→P0 l id=some o→(∀t∈ts,t.1=id→t.2.2.2=1)→(Qj o.2.2.2.1).length≤(ts.filter fun t=>t.1==id).length→
  Q w h c (Qu VV a o.2.2.2.1).1 nx (Qx l id 3) crew (ts.filter fun t => !(t.1==id)) st ou
 rest:∀ {w h:Int} {c:List Int} {a:List PH} {nx:Int} {l:List Pk} {crew:List Pf} {ts:List PZ} {st ou:List Int} {PU k m:Int},Q w h c a nx l crew ts st ou→(Yg a PU k m).2=0→st.getD k.toNat 0+m≤1000000→Q w h c (Yg a PU k m).1 nx l crew ts (st.set k.toNat (st.getD k.toNat 0+m)) ou
 tick:∀ {w h:Int} {c:List Int} {a:List PH} {nx:Int} {l:List Pk} {crew:List Pf} {ts:List PZ} {st ou:List Int} {crew2:List Pf},Q w h c a nx l crew ts st ou→CW c crew2→crew2.length=(sendAll a crew ts (QT w h c a crew ts)).1.length→
  (∀k (h1:k<(sendAll a crew ts (QT w h c a crew ts)).1.length) (h2:k<crew2.length),crew2[k].1=(sendAll a crew ts (QT w h c a crew ts)).1[k].1∧crew2[k].2.2.1=(sendAll a crew ts (QT w h c a crew ts)).1[k].2.2.1∧crew2[k].2.2.2.1=(sendAll a crew ts (QT w h c a crew ts)).1[k].2.2.2.1)→
  Q w h c (Q9 a ou l crew2 (sendAll a crew ts (QT w h c a crew ts)).2).1 nx (Q9 a ou l crew2 (sendAll a crew ts (QT w h c a crew ts)).2).2.2.1 (Q9 a ou l crew2 (sendAll a crew ts (QT w h c a crew ts)).2).2.2.2.1 (Q9 a ou l crew2 (sendAll a crew ts (QT w h c a crew ts)).2).2.2.2.2 st (Q9 a ou l crew2 (sendAll a crew ts (QT w h c a crew ts)).2).2.1
def QI:eF:=fun w h c a nx l crew ts st ou=>DI w h c a nx l crew ts∧Tv st∧Tv ou
theorem jG(a:List PH):Tv (RS a 50)∧Tv (List.replicate 51 0):=by
 refine⟨⟨W9 a 50,fun x hx=>?_,?_⟩,by simp,fun x hx=>?_,by simp⟩
 ·obtain⟨i,hi,rfl⟩:=ABY.1 hx;have hi2:=hi;rw[W9]at hi2;have:=fN a (show i≤50 by omega);rw[AAF hi]at this;rw[Option.some.inj this];have hb:=fZ a (i:Int);cases decide (1≤i)
  ·rw[ABV];omega
  ·rw[ABU];omega
 ·rw[fN a (by omega)];rfl
 grind
theorem Tv.rest{st:List Int}(h:Tv st){a:List PH}{PU k m:Int}(hc:(Yg a PU k m).2=0)(hm:st.getD k.toNat 0+m≤1000000):Tv (st.set k.toNat (st.getD k.toNat 0+m)):=by obtain⟨⟨k1,k2⟩,m1,m2⟩:=lT hc;have hb:=h.ob.getD (by omega) k.toNat;exact h.set (by omega) ⟨by omega,hm⟩
theorem mX:dA QI where
 di:=fun h=>h
 new:=fun h=>⟨DI.new h,jG _⟩
 hZ:=fun h=>⟨h.1.hZ,h.2⟩
 take:=fun h T hd h29 hl=>⟨h.1.take T hd h29 hl,h.2⟩
 back:=fun h _ _ _=>⟨h.1.back _ _,h.2⟩
 rest:=fun h hc hm=>⟨h.1.kq _ _ _,h.2.1.rest hc hm,h.2.2⟩
 tick:=fun {w h c a nx l crew ts st ou crew2} q hc hl hs=>by
  have zG:c.length≤1048576:=by have:=(Um q.1.fl).le;omega
  have hd:=eM zG q.1.fl a crew ts;have da:=(q.1.oH hd (ZX hd.n1 hd.n2)).rQ hc hl hs;exact⟨da.Q9 ou,q.2.1,DI.cL (sendAll a crew ts (QT w h c a crew ts)).2 (a,ou,crew2,[],[]) da q.2.2⟩
theorem jJ{Q:eF}(K:dA Q)(n:Nat)(hn:PJ+1000≤n){w h:Int}{c:List Int}{a:List PH}{nx:Int}{l:List Pk}{crew:List Pf}{ts:List PZ}{st ou:List Int}{nw:Int}(q:Q w h c a nx l crew ts st ou)(hnw:0≤nw∧nw≤900000)(i:Int)(hi:0≤i∧i≤5):
  Ok (iter n (Vg n) (i,w,h,c,a,nx,l,crew,ts,st,ou,nw)) fun x=>Q x.2.1 x.2.2.1 x.2.2.2.1 x.2.2.2.2.1 x.2.2.2.2.2.1 x.2.2.2.2.2.2.1 x.2.2.2.2.2.2.2.1 x.2.2.2.2.2.2.2.2.1 x.2.2.2.2.2.2.2.2.2.1 x.2.2.2.2.2.2.2.2.2.2.1∧0≤x.2.2.2.2.2.2.2.2.2.2.2∧x.2.2.2.2.2.2.2.2.2.2.2≤nw+6:=by
 refine Ok.iter (fun k x=>(x.1+1=(k:Int))∧x.1≤5∧Q x.2.1 x.2.2.1 x.2.2.2.1 x.2.2.2.2.1 x.2.2.2.2.2.1 x.2.2.2.2.2.2.1 x.2.2.2.2.2.2.2.1 x.2.2.2.2.2.2.2.2.1 x.2.2.2.2.2.2.2.2.2.1 x.2.2.2.2.2.2.2.2.2.2.1∧0≤x.2.2.2.2.2.2.2.2.2.2.2∧x.2.2.2.2.2.2.2.2.2.2.2+x.1≤nw+5) (fun k x hx=>?_) (k:=(i+1).toNat) ⟨by show i+1=_;clear hn;omega,hi.2,q,hnw.1,by show nw+i≤nw+5;clear hn;omega⟩ (by unfold PJ at hn;omega);obtain⟨xi,w,h,c,a,nx,l,crew,ts,st,ou,xn⟩:=x;obtain⟨h1,h5,hq,h3,h4⟩:=hx;dsimp only at h1 h5 hq h3 h4;unfold Vg;dsimp only;refine Ok.cond (fun hb=>?_) fun hb=>Ok.pure (.inr ⟨_,rfl,hq,h3,?_⟩)
 ·have hb:=AAq hb;obtain⟨d,c1,c2⟩:=K.di hq;obtain⟨crew2,a1,a2,a3,_,ev⟩:=aG d st c2 xn n hn;have q2:=K.tick hq a1 a2 a3;generalize Q9 a ou l crew2 (sendAll a crew ts (QT w h c a crew ts)).2=E at q2 ev;rw[ev,ABT];dsimp only;have hw:PD (xn+1)=xn+1:=PF (by clear hn;omega) (by clear hn;omega);have hw2:PD (xi-1)=xi-1:=PF (by clear hn;omega) (by clear hn;omega);rw[hw,hw2];refine Ok.pure (.inl ⟨_,rfl,k-1,⟨?_,?_,q2,?_,?_⟩,by clear hn;omega⟩)
  ·show xi-1+1=_;clear hn;omega
  ·show xi-1≤5;clear hn;omega
  ·show 0≤xn+1;clear hn;omega
  ·show xn+1+(xi-1)≤_;clear hn;omega
 grind
def QD(Q:eF)(M:Int)(x:Int×Int×List Int×List PH×Int×List Pk×List Pf×List PZ×List Int×List Int×Int):Prop:=Q x.1 x.2.1 x.2.2.1 x.2.2.2.1 x.2.2.2.2.1 x.2.2.2.2.2.1 x.2.2.2.2.2.2.1 x.2.2.2.2.2.2.2.1 x.2.2.2.2.2.2.2.2.1 x.2.2.2.2.2.2.2.2.2.1∧0≤x.2.2.2.2.2.2.2.2.2.2∧x.2.2.2.2.2.2.2.2.2.2≤M
theorem QD.take{Q:eF}(K:dA Q){w h:Int}{c:List Int}{a:List PH}{nx:Int}{l:List Pk}{crew:List Pf}{ts:List PZ}{st ou:List Int}{nw M desk:Int}{it:List Pa}(q:QD Q M (w,h,c,a,nx,l,crew,ts,st,ou,nw)){r:Int×Int×List Int×List PH×Int×List Pk×List Pf×List PZ×List Int×List Int×Int×Int}(hr:jN w h c a nx l crew ts st ou nw desk it r):
  QD Q M (r.1,r.2.1,r.2.2.1,r.2.2.2.1,r.2.2.2.2.1,r.2.2.2.2.2.1,r.2.2.2.2.2.2.1,r.2.2.2.2.2.2.2.1,r.2.2.2.2.2.2.2.2.1,r.2.2.2.2.2.2.2.2.2.1,r.2.2.2.2.2.2.2.2.2.2.1):=by
 rcases hr with rfl|⟨o,l',hl,h29,_,T,hf,_,hle,rfl⟩
 ·exact q
 ·refine⟨?_,q.2⟩;rcases hl with rfl|rfl
  ·exact K.take q.1 T hf h29 hle
  ·exact K.take (K.hZ q.1) T hf h29 hle
theorem QD.back{Q:eF}(K:dA Q){w h:Int}{c:List Int}{a:List PH}{nx:Int}{l:List Pk}{crew:List Pf}{ts:List PZ}{st ou:List Int}{nw M id:Int}(q:QD Q M (w,h,c,a,nx,l,crew,ts,st,ou,nw)){r:eE}(hr:aL w h c a nx l crew ts st ou nw id r):
  QD Q M (r.1,r.2.1,r.2.2.1,r.2.2.2.1,r.2.2.2.2.1,r.2.2.2.2.2.1,r.2.2.2.2.2.2.1,r.2.2.2.2.2.2.2.1,r.2.2.2.2.2.2.2.2.1,r.2.2.2.2.2.2.2.2.2.1,r.2.2.2.2.2.2.2.2.2.2.1):=by
 rcases hr with⟨rfl,_⟩|⟨o,B,rfl⟩
 ·exact q
 ·exact⟨K.back q.1 B.ord B.rL B.num,q.2⟩
theorem QD.rest{Q:eF}(K:dA Q){w h:Int}{c:List Int}{a:List PH}{nx:Int}{l:List Pk}{crew:List Pf}{ts:List PZ}{st ou:List Int}{nw M PU k m:Int}(q:QD Q M (w,h,c,a,nx,l,crew,ts,st,ou,nw)){r:Int×Int×List Int×List PH×Int×List Pk×List Pf×List PZ×List Int×List Int×Int×Int}(hr:lC w h c a nx l crew ts st ou nw PU k m r):
  QD Q M (r.1,r.2.1,r.2.2.1,r.2.2.2.1,r.2.2.2.2.1,r.2.2.2.2.2.1,r.2.2.2.2.2.2.1,r.2.2.2.2.2.2.2.1,r.2.2.2.2.2.2.2.2.1,r.2.2.2.2.2.2.2.2.2.1,r.2.2.2.2.2.2.2.2.2.2.1):=by
 rcases hr with⟨e,_,rfl⟩|⟨_,h0,hm,rfl⟩
 ·exact q
 ·exact⟨K.rest q.1 h0 hm,q.2⟩
theorem fv{Q:eF}(K:dA Q)(n:Nat)(hn:PJ+1000≤n){b:List Int}{i q:Int}(hcu:Cu b i)(M:Int)(hM:M≤1000):Ok (V5 n b i q M) fun x=>QD Q 6000 (x.1,x.2.1,x.2.2.1,x.2.2.2.1,x.2.2.2.2.1,x.2.2.2.2.2.1,x.2.2.2.2.2.2.1,x.2.2.2.2.2.2.2.1,x.2.2.2.2.2.2.2.2.1,x.2.2.2.2.2.2.2.2.2.1,x.2.2.2.2.2.2.2.2.2.2.1)∧Cu x.2.2.2.2.2.2.2.2.2.2.2.1 x.2.2.2.2.2.2.2.2.2.2.2.2.1:=by
 have hB:PJ≤n:=AAw (AB1 _ _) hn;unfold V5;refine(eU n hB hcu).bind fun x hx=>?_;obtain⟨w,h,c,a,b',i',q',hnew,hcu',rfl⟩:=hx;have q0:=K.new hnew;generalize Rt (Pt c) (min (Pt c).length 20)=cw0 at q0 ⊢;generalize RS a 50=st0 at q0 ⊢;generalize List.replicate 51 (0:Int)=ze0 at q0 ⊢;dsimp only;obtain⟨m0,i1,q1,em,hi1,hm0,hm1⟩:=Xi b' i' q' hcu'.2 hcu'.1 M;rw[em,ABT];dsimp only;have hm2:m0≤1000:=by clear hn hB;omega
 have hm3:0≤6*(1000-m0):=by clear hn hB;omega
 have hfuel:m0.toNat<n:=by unfold PJ at hB;omega
 have hinit:m0=(m0.toNat:Int):=by clear hn hB;omega
 have qinit:QD Q (6*(1000-m0)) (w,h,c,a,1,[],cw0,[],st0,ze0,0):=⟨q0,ACJ _,hm3⟩;refine Ok.bind (P:=fun x=>QD Q 6000 x.2.2.2.2∧Cu x.2.1 x.2.2.1) (Ok.iter (fun k x=>x.1=(k:Int)∧QD Q (6*(1000-x.1)) x.2.2.2.2∧Cu x.2.1 x.2.2.1∧x.1≤1000) (fun k x hx=>?_) (k:=m0.toNat) ⟨hinit,qinit,⟨hcu'.1,hi1⟩,hm2⟩ hfuel) fun x hx=>Ok.pure hx;obtain⟨k1,qd,hc,k2⟩:=hx;obtain⟨xi,xb,xj,xq,w,h,c,a,nx,l,crew,ts,st,ou,nw⟩:=x;dsimp only at k1 qd hc k2;have hqd:=qd.2;dsimp only at hqd;unfold Xy;dsimp only;refine Ok.cond (fun hb=>?_) fun hb=>Ok.pure (.inr ⟨_,rfl,⟨qd.1,hqd.1,?_⟩,hc⟩)
 case _=>
  have hb:=AAq hb;have hw1:PD (xi-1)=xi-1:=PF (by clear hn hB;omega) (by clear hn hB;omega);obtain⟨d,c1,c2⟩:=K.di qd.1;dsimp only at d c1 c2;have z:=d.z c1 c2;have up:∀ {y:Int×Int×List Int×List PH×Int×List Pk×List Pf×List PZ×List Int×List Int×Int},QD Q (6*(1000-xi)) y→QD Q (6*(1000-(xi-1))) y:=fun g=>⟨g.1,g.2.1,by have:=g.2.2;clear hn hB;omega⟩;refine Ok.bind (P:=fun z=>QD Q (6*(1000-(xi-1))) z.2.2.2∧Cu z.1 z.2.1) ((P7 hc 8).bind fun r hr=>?_) fun z hz=>Ok.pure (.inl ⟨_,rfl,k-1,⟨?_,?_,hz.2,?_⟩,by clear hn hB;omega⟩)
  ·refine Ok.bind (P:=fun _=>True) (Ok.cond (fun _=>Ok.pure trivial) fun _=>Ok.pure trivial) fun v _=>?_;refine Ok.cond (fun _=>?_) fun _=>Ok.cond (fun _=>?_) fun _=>Ok.cond (fun _=>?_) fun _=>?_
   ·refine(ba n hB hr.1 w h c d.fl).bind fun s hs=>(dO n hB hs).bind fun t ht=>?_;obtain⟨y,e1,_,hR⟩:=dB w h d.bg z nw s.1 t.1 (by have:=ht.1;clear hn hB;omega) n hB;rw[e1];exact Ok.pure ⟨up (qd.take K hR),ht.2⟩
   ·refine(P7 hr.1 6).bind fun s hs=>?_;obtain⟨y,e1,hR⟩:=ck w h d.bg z nw (PD (1+s.1)) n hB;rw[e1];exact Ok.pure ⟨up (qd.back K hR),hs.1⟩
   ·refine(P7 hr.1 8).bind fun s hs=>(P7 hs.1 5).bind fun s2 w5=>(P7 w5.1 4).bind fun s3 hs3=>?_;obtain⟨y,e1,hR⟩:=aA w h d.bg z nw (PD (1+s.1)) (PD (1+s2.1)) (PD (1+s3.1)) n hB;rw[e1];exact Ok.pure ⟨up (qd.rest K hR),hs3.1⟩
   ·refine(P7 hr.1 6).bind fun s hs=>?_;refine(jJ K n hn qd.1 ⟨hqd.1,by clear hn hB;omega⟩ s.1 ⟨hs.2.1,by have:=hs.2.2 (by omega);clear hn hB;omega⟩).bind fun y hy=>Ok.pure ⟨⟨hy.1,hy.2.1,?_⟩,hs.1⟩;have:=hy.2.2;dsimp only;clear hn hB;omega
  ·show PD (xi-1)=_;rw[hw1];clear hn hB;omega
  ·show QD Q (6*(1000-PD (xi-1))) _;rw[hw1];exact hz.1
  ·show PD (xi-1)≤1000;rw[hw1];clear hn hB;omega
 grind
theorem bS(ts:List PZ)(hts:ts.length≤1000000)(id:Int)(w h:Int)(c:List Int)(a:List PH)(nx:Int)(l:List Pk)(crew:List Pf)(us:List PZ)(st ou:List Int)(nw:Int)(n:Nat)(hn:PJ≤n):
  iter n (UF ts id) ([],0,0,0,0,[],[],0,[],[],[],[],[],0,w,h,c,a,nx,l,crew,us,st,ou,nw)=some (match SO id ts ([],0)with
   |none=>.inr (w,h,c,a,nx,l,crew,us,st,ou,nw,false)
   |some s=>.inl (s.1,s.2,(ts.length:Int),0,0,[],[],0,[],[],[],[],[],0,w,h,c,a,nx,l,crew,us,st,ou,nw)):=by
 refine Ph (σ:=List PZ×Int) (UF ts id) (fun i s=>(s.1,s.2,(i:Int),0,0,[],[],0,[],[],[],[],[],0,w,h,c,a,nx,l,crew,us,st,ou,nw)) ts (fun q s=>match SO id q s with
   |none=>.inr (w,h,c,a,nx,l,crew,us,st,ou,nw,false)
   |some s=>.inl (s.1,s.2,(ts.length:Int),0,0,[],[],0,[],[],[],[],[],0,w,h,c,a,nx,l,crew,us,st,ou,nw)) (fun i s=>s.1.length≤i∧0≤s.2∧s.2≤(i:Int)) (fun s _=>?_) (fun i t q s hi hx _ _ hs=>?_) n (by unfold PJ at hn;omega) ([],0) ⟨by simp,by simp,by simp⟩
 ·unfold UF SO;dsimp only;rw[show decide ((ts.length:Int)<(ts.length:Int))=false by rw[AAf];omega];rfl
 ·have he:ts[i]=t:=by rw[AAF hi]at hx;exact Option.some.inj hx
  have hr:decide (s.1.length+[(t:PZ)].length≤Dh)=true:=Rq (by clear hn;omega);unfold UF;dsimp only;rw[show decide ((i:Int)<(ts.length:Int))=true by rw[AAb];clear hn;omega];simp only[ABU,PA hi,he,ABT,O9 hi (show ts.length≤9223372036854775807 by clear hn;omega)];by_cases h1:t.1=id
  ·rw[show(t.1 != id)=false by rw[h1];simp];by_cases h2:t.2.2.2=1
   ·left;refine⟨(s.1,s.2+1),?_,⟨by show s.1.length≤i+1;clear hn;omega,by show 0≤s.2+1;clear hn;omega,by show s.2+1≤((i+1:Nat):Int);clear hn;omega⟩,?_⟩
    ·rw[show(t.2.2.2 != 1)=false by rw[h2];rfl,PF (n:=s.2+1) (by clear hn;omega) (by clear hn;omega)];rfl
    ·rw[SO,AAM (by simp[h1]),AAM (by simp[h2])]
   ·right;rw[show(t.2.2.2 != 1)=true from ABz.2 h2,SO,AAM (by simp[h1]),AAK h2];rfl
  ·left;refine⟨(s.1++[t],s.2),?_,⟨by show(s.1++[t]).length≤i+1;rw[AA2,ABb];clear hn;omega,hs.2.1,by have:=hs.2.2;show s.2≤((i+1:Nat):Int);clear hn;omega⟩,?_⟩
   ·rw[show(t.1 != id)=true from ABz.2 h1,ABU];rw[show decide (s.1.length+[(t.1,t.2.1,t.2.2.1,t.2.2.2)].length≤Dh)=true from hr];rfl
   ·rw[SO,AAK h1]
theorem ZI{a:List PH}(ha:PN a){nx:Int}{l:List Pk}(hb:BG nx l){id:Int}{o:Pk}(ho:P0 l id=some o)(n:Nat)(hn:PJ≤n):
  U8 n a nx l id=some (bif(o.2.2.2.2==1)&&(Qu VV a o.2.2.2.1).2 then((Qu VV a o.2.2.2.1).1,nx,Qx l id 3,true)else(a,nx,l,false)):=by
 have hsm:=hb.sm;obtain⟨i,hi,e1,e2,ef⟩:=YJ hb.bk hsm ho n hn;have wC:o.2.2.2.1.length≤1048576:=(hsm.2 o (P6 ho).1).2;have ht:=al hsm hb.bk.2.2.1 hi n hn (hb.impl n hn) 3;rw[e1,e2,ABp]at ht;unfold U8;rw[ht,ABT,Xl,ef];cases hs:(o.2.2.2.2==1)with
 |false=>
  simp only[ABV,ABm,ABU,Pd a ha.sm n hn,ABT,ABu]
 |true=>
  simp only[ABU,ABc,ABV,ABT,PA hi,e1,Yf a ha.sm o.2.2.2.1 wC n hn,ABp];cases(Qu VV a o.2.2.2.1).2 with
  |false=>simp only[ABm,ABU,Pd a ha.sm n hn,RV nx l hsm n hn,ABT,ABV]
  |true=>
   have hm:=Zz hb.bk.2.2.1 hi 3;rw[e1,e2]at hm;simp only[ABc,ABV,ABU,hm]
theorem Yl(w h:Int){c:List Int}{a:List PH}{nx:Int}{l:List Pk}(hb:BG nx l){crew:List Pf}{ts:List PZ}{st ou:List Int}(z:DZ c a crew ts st ou)(nw id:Int)(n:Nat)(hn:PJ≤n):
  ∃r,XM n w h c a nx l crew ts st ou nw id=some r∧aL w h c a nx l crew ts st ou nw id r:=by
 obtain⟨b1,e1,i1⟩:=Un w h c z.c1 a z.a1 nx l hb.sm crew (by have:=z.r1;clear hn;omega) ts (by have:=z.t1;clear hn;omega) st ou (by have:=z.s1;clear hn;omega) (by have:=z.o1;clear hn;omega) nw n hn;unfold XM;rw[Wm w h hb.sm z nw n hn,ABT,e1];dsimp only;have TN:(∀o,¬eD w h c a nx l crew ts st ou nw id o)→∃r,(some (w,h,c,a,nx,l,crew,ts,st,ou,nw,false):Option eE)=some r∧aL w h c a nx l crew ts st ou nw id r:=fun xN=>⟨_,rfl,.inl ⟨rfl,xN⟩⟩;cases ho:P0 l id with
 |none=>
  have hm:∀x∈l,x.1≠id:=fun x hx e=>by unfold P0 at ho;have:=AB9.1 ho x hx;rw[e]at this;simp at this
  rw[ZH nx hb.sm hm n hn];cases b1<;>exact TN fun o q=>by have:=q.ord;rw[ho]at this;cases this
 |some o=>
  obtain⟨i,hi,e2,e3,ef⟩:=YJ hb.bk hb.sm ho n hn;have hoo:=Uo nx hb.sm hb.bk.2.2.1 hi n hn;rw[e2,e3]at hoo;rw[hoo,ABT];cases b1 with
  |false=>exact TN fun o q=>by have:=i1.2 q.ok;cases this
  |true=>
  have D:=i1.1 rfl;have wC:o.2.2.2.1.length≤1048576:=(hb.sm.2 o (P6 ho).1).2;simp only[ABT,ABc,ABV];rw[bS ts z.t1 id w h c a nx l crew ts st ou nw n hn,ABT,ZI D.mJ hb ho n hn];rcases XW id ts ([],0)with⟨e,t,ht,ht1,ht2⟩|⟨e,hw⟩
  ·rw[e];exact TN fun o q=>ht2 (q.rL t ht ht1)
  ·rw[e];dsimp only;rw[ABT,AA4,Int.zero_add,UL o.2.2.2.1 wC n hn,ABT];by_cases tX:(Qj o.2.2.2.1).length≤(ts.filter fun t=>t.1==id).length
   ·rw[show decide ((((ts.filter fun t=>t.1==id).length:Nat):Int)<((Qj o.2.2.2.1).length:Int))=false by rw[AAf];clear hn;omega];cases hq:((o.2.2.2.2==1)&&(Qu VV a o.2.2.2.1).2)with
    |false=>
     refine TN fun o2 q=>?_;have:=q.ord;rw[ho]at this;injection this with this
     subst this;rw[q.pN,q.rel]at hq;cases hq
    |true=>
     have xk:=Bool.and_eq_true_iff.1 hq;exact⟨_,rfl,.inr ⟨o,⟨D,ho,AAS.1 xk.1,hw,tX,xk.2⟩,rfl⟩⟩
   ·rw[show decide ((((ts.filter fun t=>t.1==id).length:Nat):Int)<((Qj o.2.2.2.1).length:Int))=true by rw[AAb];clear hn;omega];refine TN fun o2 q=>?_;have:=q.ord;rw[ho]at this;injection this with this
    subst this;exact tX q.num
theorem DK.lV{a:List PH}{nx:Int}{l:List Pk}{crew:List Pf}{ts:List PZ}(d:DK a nx l crew ts):∀t∈ts,Sa a (Qp l) crew t:=fun t ht=>by have hT:=d.tk t ht;obtain⟨o,ho,hs,_⟩:=hT.ord;exact hT.same (fun _=>rfl) ((bo ho hs d.bk.2.2.1).trans ho.symm)
theorem jL.jK{w h:Int}{c:List Int}{a:List PH}{nx:Int}{l l':List Pk}{crew:List Pf}{ts:List PZ}{st ou:List Int}{nw:Int}(d:jL w h c a nx l crew ts st ou nw)(hl:l'=l∨l'=Qp l){desk:Int}{it:List Pa}{o:List O8}(T:aN a nx l' desk it o)(h29:l'.length≤29)(hlen:ts.length+(Qj o).length≤60):
  jL w h c (PX a (tp o)) (nx+1) (l'++[(nx,desk,it,o,1)]) crew (ts++(Qj o).map fun x=>(nx,x,(0:Int),(1:Int))) st ou nw:=by
 have htk:∀t∈ts,Sa a l' crew t:=by
  rcases hl with rfl|rfl
  ·exact d.tk
  ·exact d.oQ.lV
 have hnx:=T.bk.1;have tX:=T.lt;have hids:∀y∈l',y.1<nx:=fun y hy=>by have:=(T.bk.2.2.2 y hy).1;omega
 have hpo:∀p∈o,1≤p.1∧p.1≤999:=fun p hp=>by obtain⟨_,_,i,hi,e⟩:=T.fit.each p hp;have:=(T.st.2.2 _ (ABW hi)).1;rw[e]at this;exact this
 refine {fl:=d.fl,mJ:=(YT T.st T.fit).2,bk:=T.book h29,cw:=d.cw,XB:=?_,c1:=d.c1,c2:=d.c2,now:=d.now,tk:=fun t ht=>?_ }
 ·obtain⟨t1,t2,t3⟩:=QS.1 d.XB;refine QS.2 ⟨by rw[AA2,ABB];exact hlen,fun x hx=>?_,ABj.2 ⟨t3,?_,fun u hu x hx=>?_⟩⟩
  ·rcases AAy.1 hx with hx|hx
   ·exact t2 x hx
   ·obtain⟨y,hy,rfl⟩:=AAs.1 hx;obtain⟨p,hp,e⟩:=VU.1 hy;have:=hpo p hp;rw[e]at this;unfold Pz;simp;omega
  ·rw[ABh];exact(br o).imp fun {x y} tj=>XY rfl (.inr fun e=>tj e.symm)
  ·obtain⟨y,hy,rfl⟩:=AAs.1 hx;refine XY rfl (.inl ?_);obtain⟨oo,ho,_⟩:=(htk u hu).ord;obtain⟨hm,e⟩:=P6 ho;have:=hids oo hm;show nx≠u.1;omega
 ·rcases AAy.1 ht with ht|ht
  ·have hd:=htk t ht;obtain⟨oo,ho,_⟩:=hd.ord;exact hd.same (fH a (tp o)) (dR ho _)
  ·obtain⟨y,hy,rfl⟩:=AAs.1 ht;obtain⟨p,hp,e⟩:=VU.1 hy;refine⟨⟨_,Y4 (x:=(nx,desk,it,o,1)) hids,rfl,p,hp,e⟩,?_,fun e=>(e rfl).elim⟩;obtain⟨_,_,i,hi,e2⟩:=T.fit.each p hp;refine WW ⟨fR (tp o) a[i],?_,e2.trans e⟩;unfold PX;exact AAs.2 ⟨_,ABW hi,rfl⟩
theorem BG.jK{a:List PH}{nx:Int}{l:List Pk}(hb:BG nx l){desk:Int}{it:List Pa}{o:List O8}(T:aN a nx l desk it o)(h29:l.length≤29):BG (nx+1) (l++[(nx,desk,it,o,1)]):=by
 have hpo:∀p∈o,1≤p.1∧p.1≤999:=fun p hp=>by obtain⟨_,_,i,hi,e⟩:=T.fit.each p hp;have:=(T.st.2.2 _ (ABW hi)).1;rw[e]at this;exact this
 refine⟨T.book h29,fun q hq=>?_,fun q hq=>?_⟩
 ·rcases AAy.1 hq with hq|hq
  ·exact hb.KN q hq
  ·rw[AA8.1 hq];exact hpo
 ·rcases AAy.1 hq with hq|hq
  ·exact hb.aU q hq
  ·rw[AA8.1 hq];exact T.aU
structure BZ(m:Nat)(c:List Int)(a:List PH)(crew:List Pf)(ts:List PZ)(st ou:List Int):Prop where
 c1:c.length≤1048576
 a1:a.length≤m∧∀p∈a,p.2.2.length≤m
 r1:crew.length≤m
 t1:ts.length≤m
 s1:st.length≤m
 o1:ou.length≤m
theorem BZ.z{m:Nat}(hm:m≤1000000){c:List Int}{a:List PH}{crew:List Pf}{ts:List PZ}{st ou:List Int}(b:BZ m c a crew ts st ou):DZ c a crew ts st ou:=by
 obtain⟨c1,⟨a1,a2⟩,r1,t1,s1,o1⟩:=b;exact⟨c1,⟨by show a.length≤1048576;omega,fun p hp=>by have:=a2 p hp;show p.2.2.length≤1048576;omega⟩,by omega,by omega,by omega,by omega⟩
theorem BZ.more{m:Nat}{c:List Int}{a:List PH}{crew:List Pf}{ts:List PZ}{st ou:List Int}(b:BZ m c a crew ts st ou)(k:Nat)(hk:m≤k):BZ k c a crew ts st ou:=by
 obtain⟨c1,⟨a1,a2⟩,r1,t1,s1,o1⟩:=b;exact⟨c1,⟨by omega,fun p hp=>by have:=a2 p hp;omega⟩,by omega,by omega,by omega,by omega⟩
theorem DI.oV{w h:Int}{c:List Int}{a:List PH}{nx:Int}{l:List Pk}{crew:List Pf}{ts:List PZ}(d:DI w h c a nx l crew ts){st ou:List Int}(h1:Tv st)(h2:Tv ou):BZ 100 c a crew ts st ou:=by
 have q1:=(Um d.fl).le;have q2:=d.cw.Zx;have q3:=(QS.1 d.XB).1;have q4:=h1.1;have q5:=h2.1;have q6:=d.st.1;exact⟨by omega,⟨by omega,fun p hp=>by have:=(d.st.2.2 p hp).2.2.2.2;omega⟩,by omega,by omega,by omega,by omega⟩
theorem fu(n:Nat)(hn:PJ≤n){b:List Int}{i q:Int}(hcu:Cu b i)(m:Nat)(hm:m≤900)(w h:Int){c:List Int}{a:List PH}{nx:Int}{l:List Pk}(hb:BG nx l){crew:List Pf}{ts:List PZ}{st ou:List Int}(z:BZ m c a crew ts st ou)(hs:1≤st.length)(ho:1<ou.length)(nw:Int):
  Ok (V4 n b i q w h c a nx l crew ts st ou nw) fun x=>BZ (m+1) x.2.2.1 x.2.2.2.1 x.2.2.2.2.2.2.1 x.2.2.2.2.2.2.2.1 x.2.2.2.2.2.2.2.2.1 x.2.2.2.2.2.2.2.2.2.1∧(x.1=w∧x.2.1=h∧x.2.2.1=c∧x.2.2.2.2.1=nx∧x.2.2.2.2.2.1=l)∧Cu x.2.2.2.2.2.2.2.2.2.2.2.1 x.2.2.2.2.2.2.2.2.2.2.2.2.1:=by
 have z2:=z.more (m+1) (by omega);obtain⟨c1,a1,r1,t1,s1,o1⟩:=z2;have st1:=z.t1;unfold V4;rw[Tp w h hb.sm (z.z (by omega)) nw n hn,ABT];dsimp only;have i1:Ob ou 1=true:=YA ⟨by omega,by clear hn;omega⟩;refine Ok.bind (P:=fun x=>BZ (m+1) x.2.2.2.2.2.1 x.2.2.2.2.2.2.1 x.2.2.2.2.2.2.2.2.2.1 x.2.2.2.2.2.2.2.2.2.2.1 x.2.2.2.2.2.2.2.2.2.2.2.1 x.2.2.2.2.2.2.2.2.2.2.2.2.1∧(x.2.2.2.1=w∧x.2.2.2.2.1=h∧x.2.2.2.2.2.1=c∧x.2.2.2.2.2.2.2.1=nx∧x.2.2.2.2.2.2.2.2.1=l)∧Cu x.1 x.2.1) ((P7 hcu 10).bind fun r hr0=>Ok.cond (fun _=>?_) fun _=>Ok.cond (fun _=>?_) fun _=>Ok.cond (fun _=>?_) fun _=>Ok.cond (fun _=>?_) fun _=>Ok.cond (fun _=>?_) fun _=>Ok.cond (fun _=>?_) fun _=>Ok.cond (fun _=>?_) fun _=>Ok.pure ⟨⟨c1,a1,r1,t1,s1,o1⟩,⟨rfl,rfl,rfl,rfl,rfl⟩,hr0.1⟩) fun x hx=>Ok.pure hx
 ·refine(gC m (by clear hn;omega) n hn hr0.1 a z.a1.1 z.a1.2).bind fun y hy=>Ok.pure ⟨⟨c1,⟨?_,fun p hp=>?_⟩,r1,t1,s1,o1⟩,⟨rfl,rfl,rfl,rfl,rfl⟩,hy.2⟩
  ·have:=hy.1.1;have:=z.a1.1;show y.1.length≤m+1;clear hn;omega
  ·have:=hy.1.2 p hp;clear hn;omega
 ·refine(iX hr0.1 crew (by have:=z.r1;clear hn;omega)).bind fun y hy=>Ok.pure ⟨⟨c1,a1,?_,t1,s1,o1⟩,⟨rfl,rfl,rfl,rfl,rfl⟩,hy.2⟩;show y.1.length≤_;rw[hy.1];exact r1
 ·refine Ok.guard i1 ((Ok.get (by show Int.toNat 1<ou.length;exact ho)).bind fun v hv=>(ok_int hr0.1 (by simp)).bind fun u hu=>Ok.guard i1 (Ok.pure ⟨⟨c1,a1,r1,t1,s1,?_⟩,⟨rfl,rfl,rfl,rfl,rfl⟩,hu.1⟩));show(Cb ou _ _).length≤_;rw[P5,List.length_set];exact o1
 ·refine(P7 hr0.1 3).bind fun u hu=>(P7 hu.1 3).bind fun v hv=>Ok.guard (Rq (by clear hn;omega)) (Ok.pure ⟨⟨c1,a1,r1,?_,s1,o1⟩,⟨rfl,rfl,rfl,rfl,rfl⟩,hv.1⟩);show(ts++[_]).length≤_;rw[AA2,ABb];clear hn;omega
 ·refine Ok.cond (fun hb=>Ok.guard ?_ (Ok.pure ⟨⟨c1,a1,r1,?_,s1,o1⟩,⟨rfl,rfl,rfl,rfl,rfl⟩,hr0.1⟩)) fun _=>Ok.pure ⟨⟨c1,a1,r1,t1,s1,o1⟩,⟨rfl,rfl,rfl,rfl,rfl⟩,hr0.1⟩
  ·have hb:=AAq hb;simp only[AAG,AAb];clear hn;omega
  ·show(sub ts _ _).length≤_;unfold sub;rw[List.length_take,List.length_drop];clear hn;omega
 ·exact(ok_int hr0.1 (by simp)).bind fun u hu=>Ok.pure ⟨⟨c1,a1,r1,t1,s1,o1⟩,⟨rfl,rfl,rfl,rfl,rfl⟩,hu.1⟩
 ·refine Ok.guard ?_ (Ok.pure ⟨⟨c1,a1,r1,t1,?_,o1⟩,⟨rfl,rfl,rfl,rfl,rfl⟩,hr0.1⟩)
  ·simp only[AAG,AAb];clear hn;omega
  ·show(sub st _ _).length≤_;unfold sub;rw[List.length_take,List.length_drop];clear hn;omega
abbrev rY:=Int×Int×List Int×List PH×Int×List Pk×List Pf×List PZ×List Int×List Int×Int
def BQ(x:rY):Prop:=BG x.2.2.2.2.1 x.2.2.2.2.2.1∧DZ x.2.2.1 x.2.2.2.1 x.2.2.2.2.2.2.1 x.2.2.2.2.2.2.2.1 x.2.2.2.2.2.2.2.2.1 x.2.2.2.2.2.2.2.2.2.1
theorem cZ(n:Nat)(hn:PJ+1000≤n){b:List Int}{i q:Int}(hcu:Cu b i)(M:Int)(hM:M≤1000):Ok (Tq n b i q M) fun x=>(BQ (x.1,x.2.1,x.2.2.1,x.2.2.2.1,x.2.2.2.2.1,x.2.2.2.2.2.1,x.2.2.2.2.2.2.1,x.2.2.2.2.2.2.2.1,x.2.2.2.2.2.2.2.2.1,x.2.2.2.2.2.2.2.2.2.1,x.2.2.2.2.2.2.2.2.2.2.1)∧PV x.1 x.2.1 x.2.2.1=true)∧Cu x.2.2.2.2.2.2.2.2.2.2.2.1 x.2.2.2.2.2.2.2.2.2.2.2.2.1:=by
 have hB:PJ≤n:=AAw (AB1 _ _) hn;unfold Tq;refine(fv mX n hn hcu M hM).bind fun x hx=>?_;obtain⟨w,h,c,a,nx,l,crew,ts,st,ou,nw,b',i',q'⟩:=x;obtain⟨⟨⟨d,c1,c2⟩,_⟩,hc⟩:=hx;dsimp only at d c1 c2 hc ⊢;have z:=d.oV c1 c2;have o51:=c2.1;have rU:=c1.1;refine Ok.bind (P:=fun y=>((BQ y.2.2.2)∧PV y.2.2.2.1 y.2.2.2.2.1 y.2.2.2.2.2.1=true)∧Cu y.1 y.2.1) (Ok.bind (P:=fun y=>Cu y.2.1 y.2.2.1) (Ok.cond (fun _=>(Yc hc 8).bind fun r hr=>Ok.pure hr) fun _=>Ok.pure hc) fun y hy=>Ok.cond (fun _=>?_) fun _=>Ok.pure ⟨⟨⟨d.bg,z.z (by omega)⟩,d.fl⟩,hy⟩) fun y hy=>Ok.pure hy;refine(fu n hB hy 100 (by omega) w h d.bg z (by clear hn hB;omega) (by clear hn hB;omega) nw).bind fun v hv=>Ok.pure ⟨⟨⟨?_,hv.1.z (by omega)⟩,?_⟩,hv.2.2⟩
 ·obtain⟨_,_,_,e4,e5⟩:=hv.2.1;show BG v.2.2.2.2.1 v.2.2.2.2.2.1;rw[e4,e5];exact d.bg
 ·obtain⟨e1,e2,e3,_,_⟩:=hv.2.1;show PV v.1 v.2.1 v.2.2.1=true;rw[e1,e2,e3];exact d.fl
theorem eG(n:Nat)(hn:PJ+1000≤n)(code:List Int)(hl:code.length≤1048576):Ok (VE n code) fun x=>BQ (x.1,x.2.1,x.2.2.1,x.2.2.2.1,x.2.2.2.2.1,x.2.2.2.2.2.1,x.2.2.2.2.2.2.1,x.2.2.2.2.2.2.2.1,x.2.2.2.2.2.2.2.2.1,x.2.2.2.2.2.2.2.2.2.1,x.2.2.2.2.2.2.2.2.2.2.1)∧x.2.2.2.2.2.2.2.2.2.2.2.2.length≤7:=by have hB:PJ≤n:=AAw (AB1 _ _) hn;obtain⟨h0,e0⟩:=jc code hl n hB;obtain⟨r,e2,r0,r1⟩:=iU code hl 12 (by decide);unfold VE;rw[e0,ABT,e2,ABT];refine(cZ n hn (b:=code) (i:=0) ⟨hl,ACJ _⟩ r (by clear hn hB;omega)).bind fun x hx=>?_;refine(dO n hB hx.2).bind fun y hy=>?_;refine Ok.bind (P:=fun v=>v.1.length≤7∧Cu v.2.1 v.2.2.1) ((Yc hy.2 8).bind fun v hv=>Ok.cond (fun _=>(ca n hB hv).bind fun u hu=>Ok.pure hu) fun _=>Ok.pure ⟨by have:=hy.1;show y.1.length≤7;clear hn hB;omega,hv⟩) fun v hv=>?_;refine(ba n hB hv.2 x.1 x.2.1 x.2.2.1 hx.1.2).bind fun u hu=>Ok.pure ⟨hx.1.1,hv.1⟩
theorem dn{l:List Pk}{id st:Int}{o:Pk}(h:P0 l id=some o):P0 (Qx l id st) id=some (o.1,o.2.1,o.2.2.1,o.2.2.2.1,st):=by
 have he:=(P6 h).2;unfold P0 Qx at *;rw[ACH]
 have:((fun o:Pk=>o.1==id) ∘ fun o:Pk=>bif o.1==id then(o.1,o.2.1,o.2.2.1,o.2.2.2.1,st)else o)=fun o:Pk=>o.1==id:=funext fun o=>by
  simp only[Function.comp];cases hq:(o.1==id)with
  |true=>exact hq
  |false=>exact hq
 grind
theorem Zw(code:List Int)(hx:(re rf) code):∃n,YC n code=some true:=by
 obtain⟨n,hn⟩:∃n,PJ+1000≤n:=⟨_,AAd _⟩;have hB:PJ≤n:=AAw (AB1 _ _) hn;refine⟨n,?_⟩;unfold YC bh;rw[ABT];by_cases vH:(code.length:Int)>1048576
 ·rw[ABZ vH];rfl
 rw[ABd vH,ABV];obtain⟨⟨w,h,c,a,nx,l,crew,ts,st,ou,nw,desk,it⟩,e0,⟨hb,z⟩,xw⟩:=eG n hn code (by clear hn hB;omega);dsimp only at hb z xw;rw[e0,ABT];dsimp only;obtain⟨r,e1,e2,hR⟩:=dB w h hb z nw desk it (by clear hn hB;omega) n hB;rw[e2,e1,ABT,ABT,bne_self_eq_false,ABV];rcases hR with rfl|⟨o,l',hl,h29,D,T,hf,hk3,hle,rfl⟩
 ·dsimp only;rw[ZV a z.a1 n hB,ZW ts (by have:=z.t1;clear hn hB;omega) n hB];rfl
 have hnx:=T.bk.1;have tX:=T.lt;have h72:=T.aU;have h6:=T.im.2.2;have hids:∀y∈l',y.1<nx:=fun y hy=>by have:=(T.bk.2.2.2 y hy).1;clear hn hB;omega
 have th:BG nx l':=by
  rcases hl with rfl|rfl
  ·exact hb
  ·exact hb.opened
 have D2:=D.jK hl T h29 hle (nw:=nw);have B2:=th.jK T h29;have z2:=D2.z;have hoL:P0 (l'++[(nx,desk,it,o,1)]) nx=some (nx,desk,it,o,1):=Y4 (x:=(nx,desk,it,o,1)) hids;have hli:l'.length<(l'++[(nx,desk,it,o,1)]).length:=by rw[AA2,ABb];exact Nat.lt_succ_self _
 have hgetE:(l'++[((nx,desk,it,o,1):Pk)])[l'.length]=(nx,desk,it,o,1):=by rw[List.getElem_append_right (AAd _)];simp
 have hoo:=Uo (nx+1) B2.sm B2.bk.2.2.1 hli n hB;rw[hgetE]at hoo;dsimp only at hoo;have hpo:o.length≤1048576:=by clear hn hB;omega
 have hold:∀t∈ts,t.1≠nx:=fun t ht e=>by
  have hT:Sa a l crew t:=D.tk t ht
  have hT2:∃oo,P0 l' t.1=some oo:=by
   rcases hl with rfl|rfl
   ·obtain⟨oo,q,_⟩:=hT.ord;exact⟨oo,q⟩
   ·obtain⟨oo,q,_⟩:=(D.oQ.lV t ht).ord;exact⟨oo,q⟩
  obtain⟨oo,q⟩:=hT2;obtain⟨q1,q2⟩:=P6 q;have:=hids oo q1;clear hn hB;omega
 have hf1:(ts++(Qj o).map fun x=>(nx,x,(0:Int),(1:Int))).filter (fun t => !(t.1==nx))=ts:=by rw[ACI,List.filter_eq_self.2 fun t ht=>by rw[show(t.1==nx)=false from ABa.2 (hold t ht)];rfl,ACB.2 fun t ht=>?_,ABw];obtain⟨y,hy,rfl⟩:=AAs.1 ht;simp
 have hf2:((ts++(Qj o).map fun x=>(nx,x,(0:Int),(1:Int))).filter fun t=>t.1==nx).length=(Qj o).length:=by rw[ACI,ACB.2 fun t ht=>by rw[show(t.1==nx)=false from ABa.2 (hold t ht)];simp,AA4,List.filter_eq_self.2 fun t ht=>?_,ABB];obtain⟨y,hy,rfl⟩:=AAs.1 ht;simp
 have yM:=kB T.st T.fit
 have C:eD w h c (PX a (tp o)) (nx+1) (l'++[(nx,desk,it,o,1)]) crew (ts++(Qj o).map fun x=>(nx,x,(0:Int),(1:Int))) st ou nw nx (nx,desk,it,o,1):=
  ⟨D2,hoL,rfl,fun t ht e=>by
   rcases AAy.1 ht with ht|ht
   ·exact(hold t ht e).elim
   ·obtain⟨y,hy,rfl⟩:=AAs.1 ht;rfl,by rw[hf2];exact AAd _,by rw[yM]⟩
 obtain⟨r1,f1,R1⟩:=Yl w h B2 z2 nw nx n hB;have er1:=R1.uniq (.inr ⟨_,C,rfl⟩);subst er1;dsimp only at f1;rw[yM,hf1]at f1;have B3:=B2.Dq nx (st:=3) ⟨by decide,by decide⟩;have z3:DZ c a crew ts st ou:=z;obtain⟨r2,f2,R2⟩:=Yl w h B3 z3 nw nx n hB
 have er2:r2=(w,h,c,a,nx+1,Qx (l'++[(nx,desk,it,o,1)]) nx 3,crew,ts,st,ou,nw,false):=by
  rcases R2 with⟨e,_⟩|⟨o2,C2,_⟩
  ·exact e
  ·have h1:=C2.ord;rw[dn hoL]at h1;injection h1 with h1
   have h2:=C2.pN;rw[←h1]at h2;dsimp only at h2;cases h2
 subst er2;obtain⟨bd,ed,idd⟩:=Un w h c z2.c1 (PX a (tp o)) z2.a1 (nx+1) (l'++[(nx,desk,it,o,1)]) B2.sm crew (AAw z2.r1 (by decide)) (ts++(Qj o).map fun x=>(nx,x,(0:Int),(1:Int))) (AAw z2.t1 (by decide)) st ou (AAw z2.s1 (by decide)) (AAw z2.o1 (by decide)) nw n hB;rw[idd.2 D2]at ed
 have wC:(Qj o).length≤72:=by have:=WX o [];unfold Qj;simp only[List.length_nil]at this;clear hn hB;omega
 have t60:=(QS.1 D.XB).1;have hwl:PD ((ts.length:Int)+((Qj o).length:Int))=(ts.length:Int)+((Qj o).length:Int):=PF (by clear hn hB;omega) (by clear hn hB;omega);rw[show(nx==0)=false from ABa.2 (by clear hn hB;omega),ABV,hoo,ABT];dsimp only;rw[f1,ABT];dsimp only;rw[f2,ABT,ed];simp only[ABT,ABU,UL o hpo n hB,hwl,ZV a z.a1 n hB,ZW ts (show ts.length≤1048576 by clear hn hB;omega) n hB,Xs w h c z.c1 D.fl desk n hB,hk3];grind
end Go.Ev.N
