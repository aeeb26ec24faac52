/- FnSafe,as a plain law lJ native forms: what the program's function answers is what the reference's answers. Conditions: none but the lengths' and numbers' bounds. -/
import Derived.Test.YtccgnkaemdnniaaGreatFnSafePureB
set_option linter.all false
namespace Go.Ev.N
open Go Go.Ev
def OG(crew:List Rb)(p:Int):Int:=if 0≤p then(Pb crew p).2.1 else -1
structure mJ(w h:Int)(c:List Int)(crew:List Rb)(fields:List (List Int)):Prop where
 len:fields.length=crew.length
 each:∀i,0≤i→i<(crew.length:Int)→∃F C,fields[i.toNat]?=some F∧(∀n,PD≤n→Rj n w h c (Pb crew i).1 (Pb crew i).2.1 (Pb crew i).2.2.1 (Pb crew i).2.2.2.1 (Pb crew i).2.2.2.2 F=some C∧
  T9 n w h c (Pb crew i).1 (Pb crew i).2.1 (Pb crew i).2.2.1 (Pb crew i).2.2.2.1 (Pb crew i).2.2.2.2=some C)∧(∀v∈C,iS c v)∧C.length≤5
structure LI(c:List Int)(crew:List Rb)(next:List Int)(i p:Int)(nI nS:List Int):Prop where
 pre:oc c crew nI i p
 VU:∀k,0≤k→k<(crew.length:Int)→0≤O8 next k→O8 nI k=O8 next k
 lk:∀k,0≤k→k<(crew.length:Int)→O8 next k<0→O8 nI k<0∨O8 nI k=(Pb crew k).2.1
 lp:YM nI≤YM next
 st:nS=nI∨∃v,nS=nI.set i.toNat v∧0≤v∧∃k,(0≤k∧k<(crew.length:Int))∧k≠i∧O8 nI k=v
section
variable {c:List Int}{crew:List Rb}{next nI nS:List Int}{i p:Int}
theorem LI.Nt(h:LI c crew next i p nI nS):nS.length=crew.length:=by
 rcases h.st with rfl|⟨v,rfl,_⟩
 ·exact h.pre.len
 ·rw[List.length_set];exact h.pre.len
theorem LI.any(h:LI c crew next i p nI nS){v:Int}(hv:0≤v):(nS.any fun x=>x==v)=nI.any fun x=>x==v:=by
 rcases h.st with rfl|⟨u,rfl,hu,k,hk,hki,hku⟩
 ·rfl
 ·have hlen:=h.pre.len;have hi:=h.pre.ir;rw[ABw,AA6,AA6];simp only[AAS];constructor
  ·rintro ⟨x,hx,rfl⟩
   rcases ABA hx with hx|rfl
   ·grind
   ·exact⟨x,gW.2 ⟨k,by omega,hku⟩,rfl⟩
  ·rintro ⟨x,hx,rfl⟩
   obtain⟨j,hj,e⟩:=gW.1 hx;refine⟨x,gW.2 ⟨j,by grind,?_⟩,rfl⟩;rw[YN (by omega) hj.1,AAM,e]
   rintro rfl
   have:=h.pre.neg;omega
theorem LI.set(h:LI c crew next i p nI nS)(v:Int):nS.set i.toNat v=nI.set i.toNat v:=by
 rcases h.st with rfl|⟨u,rfl,_⟩
 ·rfl
 ·rw[List.set_set]
theorem LI.ij(hcr:kp c crew)(h:LI c crew next i p nI nS){v:Int}(hv:iS c v)(hnt:∀k,0≤k→k<(crew.length:Int)→O8 nI k≠v)(xN:∀j,0≤j→j<(crew.length:Int)→(Pb crew j).2.1=v→0≤O8 (nI.set i.toNat v) j)(hneg0:O8 next i<0):
  ec c crew next i true (nI.set i.toNat v):=by
 have hlen:=h.pre.len;have hi:=h.pre.ir;have hi2:0≤i∧i<(nI.length:Int):=by rw[hlen];exact hi
 have hs:∀k,0≤k→O8 (nI.set i.toNat v) k=if k=i then v else O8 nI k:=fun k hk=>YN hi2 hk
 refine⟨⟨by simp[hlen],fun k h0 h1=>?_,fun k h0 h1 h2=>?_⟩,?_,fun _=>⟨⟨fun a b a0 a1 b0 b1 hna zF=>?_,fun j k j0 j1 k0 k1 hnj hkj=>?_⟩,?_⟩,fun hb=>by cases hb⟩
 ·rw[hs k h0];split
  ·exact .inr hv
  ·exact h.pre.vals k h0 h1
 ·rw[hs k h0,AAM (by grind)];exact h.VU k h0 h1 h2
 ·have:=ZV (l:=nI) (i:=i) (v:=v) hi2;rw[AAK h.pre.neg,AAM (by have:=hv.1;omega)]at this;have:=h.lp;omega
 ·rw[hs a a0,hs b b0]at zF;rw[hs a a0]at hna;split at zF<;>split at zF
  ·omega
  ·grind
  ·grind
  ·rw[AAM (by assumption)]at hna;exact h.pre.D a b a0 a1 b0 b1 hna zF
 ·rw[hs k k0]at hkj
  have hji:j≠i:=by
   rintro rfl
   rw[hs j j0,AAK rfl]at hnj;have:=hv.1;omega
  have hnj':O8 nI j<0:=by rw[hs j j0,AAM hji]at hnj;exact hnj
  split at hkj
  ·grind
  ·exact h.pre.U j k j0 j1 k0 k1 hnj' hji hkj
 ·rw[hs i hi.1,AAK rfl];exact hv.1.1
theorem LI.push(hcr:kp c crew)(h:LI c crew next i p nI nS){v o:Int}(hv:iS c v)(hnt:∀k,0≤k→k<(crew.length:Int)→O8 nI k≠v)(ho:0≤o∧o<(crew.length:Int))(hov:(Pb crew o).2.1=v)(hon:O8 (nI.set i.toNat v) o<0):
  oc c crew (nI.set i.toNat v) o i∧YM (nI.set i.toNat v)+1=YM nI∧o≠i:=by
 have hlen:=h.pre.len;have hi:=h.pre.ir;have hi2:0≤i∧i<(nI.length:Int):=by rw[hlen];exact hi
 have hs:∀k,0≤k→O8 (nI.set i.toNat v) k=if k=i then v else O8 nI k:=fun k hk=>YN hi2 hk
 have hoi:o≠i:=by
  rintro rfl
  rw[hs o ho.1,AAK rfl]at hon;have:=hv.1;omega
 have yn:=ZV (l:=nI) (i:=i) (v:=v) hi2;rw[AAK h.pre.neg,AAM (by have:=hv.1;omega)]at yn;refine⟨⟨by simp[hlen],ho,hon,fun k h0 h1=>?_,fun a b a0 a1 b0 b1 hna zF=>?_,fun j k j0 j1 k0 k1 hnj hjo hkj=>?_,fun k k0 k1 hk=>?_,.inr ⟨hi,hoi.symm⟩⟩,by omega,hoi⟩
 ·rw[hs k h0];split
  ·exact .inr hv
  ·exact h.pre.vals k h0 h1
 ·rw[hs a a0,hs b b0]at zF;rw[hs a a0]at hna;split at zF<;>split at zF
  ·omega
  ·exact absurd zF.symm (hnt b b0 b1)
  ·exact absurd zF (hnt a a0 a1)
  ·rw[AAM (by assumption)]at hna;exact h.pre.D a b a0 a1 b0 b1 hna zF
 ·rw[hs k k0]at hkj
  have hji:j≠i:=by
   rintro rfl
   rw[hs j j0,AAK rfl]at hnj;have:=hv.1;omega
  have hnj':O8 nI j<0:=by rw[hs j j0,AAM hji]at hnj;exact hnj
  split at hkj
  ·exact hjo (hcr.cj j o j0 j1 ho.1 ho.2 (by rw[←hkj,hov]))
  ·exact h.pre.U j k j0 j1 k0 k1 hnj' hji hkj
 grind
theorem LI.rV(h:LI c crew next i p nI nS){v o:Int}(hv:iS c v)(yn:YM (nI.set i.toNat v)+1=YM nI){n2:List Int}(hp:ec c crew (nI.set i.toNat v) o true n2)(hneg0:O8 next i<0):ec c crew next i true n2:=by
 have hlen:=h.pre.len;have hi:=h.pre.ir;have hi2:0≤i∧i<(nI.length:Int):=by rw[hlen];exact hi
 have hs:∀k,0≤k→O8 (nI.set i.toNat v) k=if k=i then v else O8 nI k:=fun k hk=>YN hi2 hk
 obtain⟨g,_⟩:=hp.yes rfl;refine⟨⟨hp.kept.len,hp.kept.vals,fun k h0 h1 h2=>?_⟩,?_,fun _=>⟨g,?_⟩,fun hb=>by cases hb⟩
 ·have hki:k≠i:=by rintro rfl;omega
  have e:=h.VU k h0 h1 h2;have:=hp.kept.VU k h0 h1 (by rw[hs k h0,AAM hki,e];exact h2);grind
 ·have:=hp.lp;have:=h.lp;omega
 ·have:=hp.kept.VU i hi.1 hi.2 (by rw[hs i hi.1,AAK rfl];exact hv.1.1);rw[this,hs i hi.1,AAK rfl];exact hv.1.1
theorem LI.r9(hcr:kp c crew)(h:LI c crew next i p nI nS){v o:Int}(hv:iS c v)(hnt:∀k,0≤k→k<(crew.length:Int)→O8 nI k≠v)(ho:0≤o∧o<(crew.length:Int))(hov:(Pb crew o).2.1=v)(hoi:o≠i)(hon:O8 (nI.set i.toNat v) o<0)
  (yn:YM (nI.set i.toNat v)+1=YM nI) {n2:List Int} (hp:ec c crew (nI.set i.toNat v) o false n2):LI c crew next i p (n2.set i.toNat (-1)) n2:=by
 have hlen:=h.pre.len;have hi:=h.pre.ir;have hi2:0≤i∧i<(nI.length:Int):=by rw[hlen];exact hi
 have hs:∀k,0≤k→O8 (nI.set i.toNat v) k=if k=i then v else O8 nI k:=fun k hk=>YN hi2 hk
 have yg:=hp.kept.len;have hi3:0≤i∧i<(n2.length:Int):=by rw[yg];exact hi
 have ht:∀k,0≤k→O8 (n2.set i.toNat (-1)) k=if k=i then -1 else O8 n2 k:=fun k hk=>YN hi3 hk
 obtain⟨no1,no2⟩:=hp.no rfl
 have n2i:O8 n2 i=v:=by have:=hp.kept.VU i hi.1 hi.2 (by rw[hs i hi.1,AAK rfl];exact hv.1.1);rw[this,hs i hi.1,AAK rfl]
 have oth:∀k,0≤k→k<(crew.length:Int)→k≠i→(0≤O8 nI k∧O8 n2 k=O8 nI k)∨(O8 nI k<0∧(O8 n2 k<0∨O8 n2 k=(Pb crew k).2.1)):=by
  intro k h0 h1 hki;by_cases hk:O8 nI k<0
  ·right;refine⟨hk,no2 k h0 h1 ?_⟩;rw[hs k h0,AAM hki];exact hk
  ·left;refine⟨by omega,?_⟩;have:=hp.kept.VU k h0 h1 (by rw[hs k h0,AAM hki];omega);rw[this,hs k h0,AAM hki]
 have u3:∀k,0≤k→k<(crew.length:Int)→0≤(Pb crew k).2.1:=fun k h0 h1=>(hcr.jZ k h0 h1).dv.1;refine⟨⟨by simp[yg],hi,by rw[ht i hi.1,AAK rfl];omega,fun k h0 h1=>?_,fun a b a0 a1 b0 b1 hna zF=>?_,fun j k j0 j1 k0 k1 hnj hji hkj=>?_,fun k k0 k1 hk=>?_,h.pre.ra⟩,fun k h0 h1 h2=>?_,fun k h0 h1 h2=>?_,?_,.inr ⟨v,?_,hv.1.1,o,ho,hoi,?_⟩⟩
 ·rw[ht k h0];split
  ·exact .inl rfl
  ·exact hp.kept.vals k h0 h1
 ·rw[ht a a0,ht b b0]at zF;rw[ht a a0]at hna;by_cases hai:a=i
  ·rw[AAK hai]at hna;omega
  ·rw[AAM hai]at hna zF;by_cases hbi:b=i
   ·rw[AAK hbi]at zF;omega
   ·rw[AAM hbi]at zF;rcases oth a a0 a1 hai with⟨ha1,ha2⟩|⟨ha1,ha2⟩
    ·rcases oth b b0 b1 hbi with⟨vC,wA⟩|⟨vC,wA⟩
     ·rw[ha2,wA]at zF;exact h.pre.D a b a0 a1 b0 b1 ha1 zF
     ·rcases wA with wA|wA
      ·omega
      ·rw[ha2,wA]at zF;exact absurd zF (h.pre.U b a b0 b1 a0 a1 vC hbi)
    ·rcases ha2 with ha2|ha2
     ·omega
     ·rcases oth b b0 b1 hbi with⟨vC,wA⟩|⟨vC,wA⟩
      ·rw[ha2,wA]at zF;exact absurd zF.symm (h.pre.U a b a0 a1 b0 b1 ha1 hai)
      ·rcases wA with wA|wA
       ·omega
       ·rw[ha2,wA]at zF;exact hcr.cj a b a0 a1 b0 b1 zF
 ·rw[ht j j0,AAM hji]at hnj;rw[ht k k0]at hkj
  have hjI:O8 nI j<0:=by
   rcases oth j j0 j1 hji with⟨h1,h2⟩|⟨h1,_⟩
   ·omega
   ·exact h1
  by_cases hki:k=i
  ·rw[AAK hki]at hkj;have:=u3 j j0 j1;omega
  ·rw[AAM hki]at hkj;rcases oth k k0 k1 hki with⟨h1,h2⟩|⟨h1,h2⟩
   ·rw[h2]at hkj;exact h.pre.U j k j0 j1 k0 k1 hjI hji hkj
   ·rcases h2 with h2|h2
    ·have:=u3 j j0 j1;omega
    ·rw[h2]at hkj;have:=hcr.cj k j k0 k1 j0 j1 hkj;subst this;have:=u3 k k0 k1;omega
 ·rw[ht k k0]at hk;have:=u3 i hi.1 hi.2;by_cases hki:k=i
  ·rw[AAK hki]at hk;omega
  ·rw[AAM hki]at hk;rcases oth k k0 k1 hki with⟨h1,h2⟩|⟨h1,h2⟩
   ·rw[h2]at hk;exact h.pre.T k k0 k1 hk
   ·rcases h2 with h2|h2
    ·omega
    ·rw[h2]at hk;exact absurd (hcr.cj k i k0 k1 hi.1 hi.2 hk) hki
 ·have e:=h.VU k h0 h1 h2
  have hki:k≠i:=by
   rintro rfl
   have:=h.pre.neg;omega
  rw[ht k h0,AAM hki];rcases oth k h0 h1 hki with⟨_,h4⟩|⟨h3,_⟩
  ·rw[h4,e]
  ·omega
 ·rw[ht k h0];by_cases hki:k=i
  ·rw[AAK hki];exact .inl (by omega)
  ·rw[AAM hki];rcases h.lk k h0 h1 h2 with h3|h3
   ·rcases oth k h0 h1 hki with⟨h4,_⟩|⟨_,h5⟩
    ·omega
    ·exact h5
   ·rcases oth k h0 h1 hki with⟨_,h5⟩|⟨h4,h5⟩
    ·rw[h5];exact .inr h3
    ·exact h5
 ·have q1:=ZV (l:=n2) (i:=i) (v := -1) hi3;rw[n2i,AAM (by have:=hv.1;omega),AAK (by omega)]at q1;have:=hp.lp;have:=h.lp;omega
 ·rw[List.set_set];exact(kT (by rw[←n2i];exact(S8 hi3).2.1)).symm
 grind
theorem LI.stays(hcr:kp c crew)(h:LI c crew next i p nI nS):ec c crew next i false (nI.set i.toNat (Pb crew i).2.1):=by
 have hlen:=h.pre.len;have hi:=h.pre.ir;have hi2:0≤i∧i<(nI.length:Int):=by rw[hlen];exact hi
 have hs:∀k,0≤k→O8 (nI.set i.toNat (Pb crew i).2.1) k=if k=i then(Pb crew i).2.1 else O8 nI k:=fun k hk=>YN hi2 hk
 have v7:=hcr.jZ i hi.1 hi.2;refine⟨⟨by simp[hlen],fun k h0 h1=>?_,fun k h0 h1 h2=>?_⟩,?_,fun hb=>(by cases hb),fun _=>⟨by grind,fun k h0 h1 h2=>?_⟩⟩
 ·rw[hs k h0];split
  ·exact .inr ⟨v7.dv,v7.od⟩
  ·exact h.pre.vals k h0 h1
 ·have e:=h.VU k h0 h1 h2;rw[hs k h0,AAM (by rintro rfl;have:=h.pre.neg;omega),e]
 ·have:=ZV (l:=nI) (i:=i) (v:=(Pb crew i).2.1) hi2;rw[AAK h.pre.neg,AAM (by have:=v7.dv;omega)]at this;have:=h.lp;omega
 ·rw[hs k h0];by_cases hki:k=i
  ·grind
  ·rw[AAM hki];exact h.lk k h0 h1 h2
end
theorem dS{w h:Int}{c:List Int}{crew:List Rb}(hcr:kp c crew){fields:List (List Int)}(zK:mJ w h c crew fields):∀(m:Nat)(next:List Int)(i p:Int),oc c crew next i p→PD+YM next+1≤m→
  ∃b next',QY m w h c crew next i p=some (b,w,h,c,crew,next')∧QU m w h c crew fields next i (OG crew p)=some (b,w,h,c,crew,fields,next')∧ec c crew next i b next'
 |0,next,i,p,yL,hm=>absurd hm (by omega)
 |m+1,next,i,p,yL,hm=>by
  have hir:=yL.ir;have hneg0:=yL.neg;have wV:0<YM next:=List.countP_pos_iff.2 ⟨O8 next i,(S8 (by rw[yL.len];exact hir)).2.2,by grind⟩
  have hB:PD≤m:=by omega
  have hB2:1048576≤m:=AAw (by decide) hB;have hr:=ZX hir;obtain⟨F,C,hF,hC,hCv,hC5⟩:=zK.each i hir.1 hir.2;obtain⟨hC1,hC2⟩:=hC m hB
  have hif:Ob fields i=true:=by obtain⟨k,rfl⟩:∃k:Nat,i=k:=⟨i.toNat,by omega⟩;exact PA (by grind)
  have hn20:=hcr.aX
  obtain⟨z,y,hS,e1,e2⟩:=YH (f:=Pu (QY m) m i p C) (g:=QR (QU m) m i (OG crew p) (Pb crew i) C)
   (fun x y=>∃(k:Nat) (nI nS:List Int),x=((k:Int),w,h,c,crew,nI)∧y=((k:Int),w,h,c,crew,fields,nS)∧k≤C.length∧LI c crew next i p nI nS)
   (fun z y=>(∃(k:Int) (nI nS:List Int),z=.inl (k,w,h,c,crew,nI)∧y=.inl (k,w,h,c,crew,fields,nS)∧LI c crew next i p nI nS)∨∃n2:List Int,z=.inr (true,w,h,c,crew,n2)∧y=.inr (true,w,h,c,crew,fields,n2)∧ec c crew next i true n2)
   (fun x=>C.length-x.1.toNat) (fun x y hR=>by
    obtain⟨k,nI,nS,rfl,rfl,hk,hLI⟩:=hR;by_cases hk2:k=C.length
    ·subst hk2;exact .inl ⟨.inl ((C.length:Int),w,h,c,crew,nI),.inl ((C.length:Int),w,h,c,crew,fields,nS),by simp[Pu],by simp[QR],.inl ⟨_,nI,nS,rfl,rfl,hLI⟩⟩
    ·have u7:k<C.length:=by omega
     have hx:C[k]?=some C[k]:=AAF u7;have hv:=hCv C[k] (ABW u7);generalize C[k]=v at hx hv;have hd:decide ((k:Int)<(C.length:Int))=true:=by simpa using u7
     have hlenI:=hLI.pre.len;have hlenS:=hLI.Nt;have hiI:Ob nI i=true:=(S8 (by omega)).1;have hiS:Ob nS i=true:=(S8 (by omega)).1
     have t1:Ul m w h c crew nI v=some ((nI.any fun x=>x==v),w,h,c,crew,nI):=by unfold Ul;rw[XK,P5 nI (by omega) v m hB];rfl
     have t2:QT m nS v=some (nI.any fun x=>x==v):=by rw[P5 nS (by omega) v m hB,hLI.any hv.1.1]
     have t3:(bif decide (p≥0)then(M8 crew p).bind fun(x7:Rb)=>some (v==x7.2.1,w,h,c,crew,nI)else some (false,w,h,c,crew,nI))=some ((v==OG crew p),w,h,c,crew,nI):=by
      rcases yL.ra with rfl|⟨hp1,xg⟩
      ·have:(v==OG crew (-1))=false:=by unfold OG;rw[AAM (by omega),ABa];have:=hv.1;omega
       grind
      ·rw[ABZ (show p≥0 from hp1.1),ABU,ZX hp1,ABT];unfold OG;grind
     have hcur:∀ {a b:Nat},a=b+1→True:=fun _=>trivial;by_cases hskip:((nI.any fun x=>x==v)||(v==OG crew p))=true
     ·refine .inr ⟨(((k+1:Nat):Int),w,h,c,crew,nI),(((k+1:Nat):Int),w,h,c,crew,fields,nS),?_,?_,⟨k+1,nI,nS,rfl,rfl,by omega,hLI⟩,by omega⟩
      ·simp only[Pu,hd,PA u7,ABX,hx,ABT,t1,t3,O5 u7 (by omega),ABU];grind
      ·simp only[QR,hd,PA u7,ABX,hx,ABT,t2,O5 u7 (by omega),ABU];grind
     ·have w4:(nI.any fun x=>x==v)=false:=by
       cases hq:(nI.any fun x=>x==v)with
       |false=>rfl
       |true=>grind
      have w5:(v==OG crew p)=false:=by
       cases hq:(v==OG crew p)with
       |false=>rfl
       |true=>grind
      have hnt:∀k,0≤k→k<(crew.length:Int)→O8 nI k≠v:=fun k h0 h1 e=>by have:=List.any_eq_false.1 w4 (O8 nI k) (S8 (by rw[hlenI];exact⟨h0,h1⟩)).2.2;grind
      have vq:=hLI.set v;have hn1:O8 (nI.set i.toNat v) i=v:=by rw[YN (by omega) hir.1,AAK rfl]
      obtain⟨o,w1,w2,hwho⟩:=mg w h c crew hn20 fields (nI.set i.toNat v) (by simp[hlenI]) v i (by rw[hn1];exact hv.1.1) m hB;rcases hwho with⟨rfl,xN⟩|⟨ho,hov,hon⟩
      ·refine .inl ⟨.inr (true,w,h,c,crew,nI.set i.toNat v),.inr (true,w,h,c,crew,fields,nI.set i.toNat v),?_,?_,.inr ⟨_,rfl,rfl,hLI.ij hcr hv hnt xN hneg0⟩⟩
       ·simp only[Pu,hd,PA u7,ABX,hx,ABT,t1,t3,ABU,w4,w5,ABV,hiI,Pw,w1];rfl
       ·simp only[QR,hd,PA u7,ABX,hx,ABT,t2,ABU,w4,w5,ABV,hiS,Pw,vq,w2];rfl
      ·obtain⟨hpre2,yn,hoi⟩:=hLI.push hcr hv hnt ho hov hon;obtain⟨b,n2,r1,r2,hpost⟩:=dS hcr zK m (nI.set i.toNat v) o i hpre2 (by have:=hLI.lp;omega);have hfi:OG crew i=(Pb crew i).2.1:=by unfold OG;omega
       rw[hfi]at r2;have ho0:decide (o<0)=false:=by rw[AAf];omega
       have wQ:decide (o≥0)=true:=by rw[AAb];omega
       cases b with
       |true=>
        refine .inl ⟨.inr (true,w,h,c,crew,n2),.inr (true,w,h,c,crew,fields,n2),?_,?_,.inr ⟨_,rfl,rfl,hLI.rV hv yn hpost hneg0⟩⟩
        ·simp only[Pu,hd,PA u7,ABX,hx,ABT,t1,t3,ABU,w4,w5,ABV,hiI,Pw,w1,ho0,r1]
        ·simp only[QR,hd,PA u7,ABX,hx,ABT,t2,ABU,w4,w5,ABV,hiS,Pw,vq,w2,wQ,r2,ABc]
       |false=>
        have hi2:Ob n2 i=true:=(S8 (by rw[hpost.kept.len];exact hir)).1;refine .inr ⟨(((k+1:Nat):Int),w,h,c,crew,n2.set i.toNat (-1)),(((k+1:Nat):Int),w,h,c,crew,fields,n2),?_,?_,⟨k+1,_,n2,rfl,rfl,by omega,hLI.r9 hcr hv hnt ho hov hoi hon yn hpost⟩,by omega⟩
        ·simp only[Pu,hd,PA u7,ABX,hx,ABT,t1,t3,ABU,w4,w5,ABV,hiI,Pw,w1,ho0,r1,hi2,O5 u7 (by omega)]
        ·simp only[QR,hd,PA u7,ABX,hx,ABT,t2,ABU,w4,w5,ABV,hiS,Pw,vq,w2,wQ,r2,ABp,O5 u7 (by omega)]) m (0,w,h,c,crew,next) (0,w,h,c,crew,fields,next)
   ⟨0,next,next,rfl,rfl,by omega,⟨yL,fun k _ _ _=>rfl,fun k _ _ hk=>.inl hk,AAd _,.inl rfl⟩⟩ (by omega)
  rcases hS with⟨k,nI,nS,rfl,rfl,hLI⟩|⟨n2,rfl,rfl,hpost⟩
  ·have hiI:Ob nI i=true:=(S8 (by rw[hLI.pre.len];exact hir)).1;have hiS:Ob nS i=true:=(S8 (by rw[hLI.Nt];exact hir)).1;refine⟨false,nI.set i.toNat (Pb crew i).2.1,?_,?_,hLI.stays hcr⟩
   ·simp only[QY,hr,ABT,hC2,e1,hiI,ABU,Pw]
   ·simp only[QU,hr,ABT,hif,ABU,hF,hC1,e2,hiS,Pw,hLI.set]
  ·refine⟨true,n2,?_,?_,hpost⟩
   ·simp only[QY,hr,ABT,hC2,e1]
   ·simp only[QU,hr,ABT,hif,ABU,hF,hC1,e2]
theorem jO{c:List Int}{crew:List Rb}(hcr:kp c crew){next next':List Int}{i:Int}{b:Bool}(hlen:next.length=crew.length)(hi:0≤i∧i<(crew.length:Int))(hg:Good c crew next)(hp:ec c crew next i b next'):Good c crew next'∧0≤O8 next' i:=by
 cases b with
 |true=>exact hp.yes rfl
 |false=>
  obtain⟨n1,n2⟩:=hp.no rfl;have u3:∀k,0≤k→k<(crew.length:Int)→0≤(Pb crew k).2.1:=fun k h0 h1=>(hcr.jZ k h0 h1).dv.1
  have oth:∀k,0≤k→k<(crew.length:Int)→(0≤O8 next k∧O8 next' k=O8 next k)∨(O8 next k<0∧(O8 next' k<0∨O8 next' k=(Pb crew k).2.1)):=by
   intro k h0 h1;by_cases hk:O8 next k<0
   ·grind
   ·exact .inl ⟨by omega,hp.kept.VU k h0 h1 (by omega)⟩
  refine⟨⟨fun a b a0 a1 b0 b1 hna zF=>?_,fun j k j0 j1 k0 k1 hnj hkj=>?_⟩,by grind⟩
  ·rcases oth a a0 a1 with⟨ha1,ha2⟩|⟨ha1,ha2⟩
   ·rcases oth b b0 b1 with⟨vC,wA⟩|⟨vC,wA⟩
    ·rw[ha2,wA]at zF;exact hg.D a b a0 a1 b0 b1 ha1 zF
    ·rcases wA with wA|wA
     ·omega
     ·rw[ha2,wA]at zF;exact absurd zF (hg.U b a b0 b1 a0 a1 vC)
   ·rcases ha2 with ha2|ha2
    ·omega
    ·rcases oth b b0 b1 with⟨vC,wA⟩|⟨vC,wA⟩
     ·rw[ha2,wA]at zF;exact absurd zF.symm (hg.U a b a0 a1 b0 b1 ha1)
     ·rcases wA with wA|wA
      ·omega
      ·rw[ha2,wA]at zF;exact hcr.cj a b a0 a1 b0 b1 zF
  ·have hjn:O8 next j<0:=by
    rcases oth j j0 j1 with⟨h1,h2⟩|⟨h1,_⟩
    ·omega
    ·exact h1
   rcases oth k k0 k1 with⟨h1,h2⟩|⟨h1,h2⟩
   ·rw[h2]at hkj;exact hg.U j k j0 j1 k0 k1 hjn hkj
   ·rcases h2 with h2|h2
    ·grind
    ·rw[h2]at hkj;have:=hcr.cj k j k0 k1 j0 j1 hkj;grind
structure Next(c:List Int)(crew:List Rb)(next:List Int):Prop where
 len:next.length=crew.length
 rz:∀k,0≤k→k<(crew.length:Int)→iS c (O8 next k)
 D:∀a b,0≤a→a<(crew.length:Int)→0≤b→b<(crew.length:Int)→O8 next a=O8 next b→a=b
theorem step_loop{w h:Int}{c:List Int}{crew:List Rb}(hcr:kp c crew){fields:List (List Int)}(zK:mJ w h c crew fields)(T:List Int)(hT:T.Perm (idx crew.length))(n:Nat)(hn:PD+1000≤n):
  ∃(k k':Int) (next:List Int),iter n (Sr n T) (0,w,h,c,crew,List.replicate crew.length (-1))=some (k,w,h,c,crew,next)∧iter n (Rk n T) (0,w,h,c,crew,fields,List.replicate crew.length (-1))=some (k',w,h,c,crew,fields,next)∧Next c crew next:=by
 have hTl:T.length=crew.length:=by rw[hT.length_eq,Yd]
 have hB1:1048576≤n:=AAw (AAw (by decide:1048576≤PD) (AB7 _ _)) hn;have hn20:=hcr.aX
 obtain⟨z,y,⟨k,k',next,rfl,rfl,hN⟩,e1,e2⟩:=YH (f:=Sr n T) (g:=Rk n T)
  (fun x y=>∃(k:Nat) (next:List Int),x=((k:Int),w,h,c,crew,next)∧y=((k:Int),w,h,c,crew,fields,next)∧k≤T.length∧next.length=crew.length∧(∀j,0≤j→j<(crew.length:Int)→O8 next j = -1∨iS c (O8 next j))∧Good c crew next∧∀j∈T.take k,0≤O8 next j)
  (fun z y=>∃(k k':Int) (next:List Int),z=(k,w,h,c,crew,next)∧y=(k',w,h,c,crew,fields,next)∧Next c crew next)
  (fun x=>T.length-x.1.toNat) (fun x y hR=>by
   obtain⟨k,next,rfl,rfl,hk,hlen,hvals,hg,hdone⟩:=hR;by_cases hk2:k=T.length
   ·subst hk2;refine .inl ⟨((T.length:Int),w,h,c,crew,next),((T.length:Int),w,h,c,crew,fields,next),by simp[Sr],by simp[Rk],_,_,next,rfl,rfl,?_⟩;rw[List.take_length]at hdone;have uh:∀j,0≤j→j<(crew.length:Int)→0≤O8 next j:=fun j h0 h1=>hdone j (hT.mem_iff.2 (Ye.2 ⟨h0,h1⟩))
    refine⟨hlen,fun j h0 h1=>?_,fun a b a0 a1 b0 b1 zF=>hg.D a b a0 a1 b0 b1 (uh a a0 a1) zF⟩;rcases hvals j h0 h1 with hv|hv
    ·have:=uh j h0 h1;omega
    ·exact hv
   ·right;have u7:k<T.length:=by omega
    have hx:T[k]?=some T[k]:=AAF u7;have hir:=Ye.1 (hT.mem_iff.1 (ABW u7));have htk:T.take (k+1)=T.take k++[T[k]]:=ABe u7;generalize T[k]=i at hx hir htk;have hd:decide ((k:Int)<(T.length:Int))=true:=by simpa using u7
    obtain⟨i1,i2,_⟩:=S8 (out:=next) (v:=i) (by rw[hlen];exact hir);have hdec:T.length-((k+1:Nat):Int).toNat<T.length-(k:Int).toNat:=by omega
    by_cases hneg:O8 next i<0
    ·have yL:oc c crew next i (-1):=⟨hlen,hir,hneg,hvals,hg.D,fun j k j0 j1 k0 k1 h1 _=>hg.U j k j0 j1 k0 k1 h1,fun k k0 k1 hk=>absurd hk (hg.U i k hir.1 hir.2 k0 k1 hneg),.inl rfl⟩
     have hngs:YM next≤20:=by have:=List.countP_le_length (p:=fun x:Int=>decide (x<0)) (l:=next);unfold YM;omega
     obtain⟨b,next',r1,r2,hp⟩:=dS hcr zK n next i (-1) yL (AAw (by rw[Nat.add_assoc];exact Nat.add_le_add_left (by omega) _) hn)
     have hf1:OG crew (-1) = -1:=by unfold OG;rw[AAM (by omega)]
     rw[hf1]at r2;obtain⟨hg',vF⟩:=jO hcr hlen hir hg hp;refine⟨(((k+1:Nat):Int),w,h,c,crew,next'),(((k+1:Nat):Int),w,h,c,crew,fields,next'),?_,?_,⟨k+1,next',rfl,rfl,by omega,hp.kept.len,hp.kept.vals,hg',fun j hj=>?_⟩,hdec⟩
     ·simp only[Sr,hd,PA u7,ABX,hx,ABT,i1,i2,ABZ hneg,ABU,r1,O5 u7 (by omega)]
     ·simp only[Rk,hd,PA u7,ABX,hx,ABT,i1,i2,ABZ hneg,ABU,r2,O5 u7 (by omega)]
     ·rw[htk]at hj;rcases AAy.1 hj with hj|hj
      ·have hjr:=Ye.1 (hT.mem_iff.1 (ACG hj));have:=hdone j hj;rw[hp.kept.VU j hjr.1 hjr.2 this];exact this
      ·rw[AA8.1 hj];exact vF
    ·refine⟨(((k+1:Nat):Int),w,h,c,crew,next),(((k+1:Nat):Int),w,h,c,crew,fields,next),?_,?_,⟨k+1,next,rfl,rfl,by omega,hlen,hvals,hg,fun j hj=>?_⟩,hdec⟩
     ·simp only[Sr,hd,PA u7,ABX,hx,ABT,i1,i2,ABd hneg,ABU,ABV,O5 u7 (by omega)]
     ·simp only[Rk,hd,PA u7,ABX,hx,ABT,i1,i2,ABd hneg,ABU,ABV,O5 u7 (by omega)]
     ·rw[htk]at hj;rcases AAy.1 hj with hj|hj
      ·exact hdone j hj
      ·rw[AA8.1 hj];exact Int.not_lt.1 hneg) n (0,w,h,c,crew,List.replicate crew.length (-1)) (0,w,h,c,crew,fields,List.replicate crew.length (-1))
  (by
   have hr:∀j,0≤j→j<(crew.length:Int)→O8 (List.replicate crew.length (-1:Int)) j = -1:=fun j h0 h1=>by unfold O8;rw[List.getD_eq_getElem?_getD,List.getElem?_replicate,AAK (by omega)];rfl
   refine⟨0,List.replicate crew.length (-1),rfl,rfl,by omega,by simp,fun j h0 h1=>.inl (hr j h0 h1),⟨fun a b a0 a1 _ _ hna _=>?_,fun j k j0 j1 k0 k1 _ hkj=>?_⟩,fun j hj=>by simp at hj⟩
   ·rw[hr a a0 a1]at hna;omega
   ·rw[hr k k0 k1]at hkj;have:=(hcr.jZ j j0 j1).dv;omega) (by show T.length-(0:Int).toNat<n;exact AA7 (by omega:T.length-(0:Int).toNat<1048576) hB1)
 grind
theorem lB{w h:Int}{c:List Int}(hf:PS w h c=true){crew:List Rb}(hcr:kp c crew)(n:Nat)(hn:PD≤n):
  ∃fields,mJ w h c crew fields∧iter n (Sl n w h c crew) (0,w,h,c,crew,[],[])=some ((crew.length:Int),w,h,c,crew,fields,List.replicate crew.length (-1)):=by
 have hn20:=hcr.aX;have hB:1048576≤n:=AAw (by decide) hn
 let F:Nat→List Int:=fun i=>if hi:i<crew.length then(Xa hf (hcr.jZ (i:Int) (by omega) (by omega))).choose else []
 have hF:∀i (hi:i<crew.length),F i=(Xa hf (hcr.jZ (i:Int) (by omega) (by omega))).choose:=fun i hi=>dif_pos hi;refine⟨(List.range crew.length).map F,⟨by simp,fun i h0 h1=>?_⟩,?_⟩
 ·obtain⟨m,rfl⟩:∃m:Nat,i=m:=⟨i.toNat,by omega⟩;have hm:m<crew.length:=by omega
  obtain⟨C,q1,q2,q3,q4⟩:=(Xa hf (hcr.jZ (m:Int) (by omega) (by omega))).choose_spec;exact⟨F m,C,by simp[hm],fun n hn=>by grind,q2,q4⟩
 ·have:=Ph (Sl n w h c crew) (fun i=>((i:Int),w,h,c,crew,(List.range i).map F,List.replicate i (-1))) crew.length ((crew.length:Int),w,h,c,crew,(List.range crew.length).map F,List.replicate crew.length (-1)) (fun i hi=>by
   obtain⟨C,q1,q2,q3,q4⟩:=(Xa hf (hcr.jZ (i:Int) (by omega) (by omega))).choose_spec;have qf:=(q1 n hn).1;rw[←hF i hi]at qf;have hm1:decide ((List.replicate i (-1:Int)).length+[(-1:Int)].length≤Dh)=true:=by rw[AAb];simp[Dh];omega
   have hm2:decide (((List.range i).map F).length+[F i].length≤Dh)=true:=by rw[AAb];simp[Dh];omega
   have hr:=ZX (crew:=crew) (i:=(i:Int)) ⟨by omega,by omega⟩;simp only[Sl,hm1,hm2,hr,ABT,qf,O5 hi (by omega),ABU];rw[show decide ((i:Int)<(crew.length:Int))=true by simpa using hi];simp[ACF,AB4]) (by simp[Sl]) n (by omega)
  grind
theorem bm{w h:Int}{c:List Int}{crew:List Rb}(hn20:crew.length≤20)(n:Nat)(hn:PD≤n):
  iter n (UG crew) (0,w,h,c,crew,[])=some ((crew.length:Int),w,h,c,crew,List.replicate crew.length (-1)):=by
 have hB:1048576≤n:=AAw (by decide) hn
 have:=Ph (UG crew) (fun i=>((i:Int),w,h,c,crew,List.replicate i (-1))) crew.length ((crew.length:Int),w,h,c,crew,List.replicate crew.length (-1)) (fun i hi=>by
   have hm1:decide ((List.replicate i (-1:Int)).length+[(-1:Int)].length≤Dh)=true:=by rw[AAb];simp[Dh];omega
   simp only[UG,hm1,O5 hi (by omega),ABU];rw[show decide ((i:Int)<(crew.length:Int))=true by simpa using hi];simp[ACF]) (by simp[UG]) n (by omega)
 grind
theorem lQ{w h:Int}{c:List Int}(hf:PS w h c=true){crew:List Rb}(hcr:kp c crew)(hid:mi crew)(uU:SQ w h c crew=true)(n:Nat)(hn:PD+1000≤n):
  ∃next,Zw n w h c crew=some next∧W7 n w h c crew=some next∧Next c crew next:=by
 have hN:=(Ve hf).le;have hn20:=hcr.aX;have hB0:PD≤n:=AAw (AB7 _ _) hn;obtain⟨T,t1,t2,t3⟩:=kh hid hn20 n hB0;obtain⟨fields,zK,hini⟩:=lB hf hcr n hB0;obtain⟨k,k',next,e1,e2,hN2⟩:=step_loop hcr zK T t3 n hn;refine⟨next,?_,?_,hN2⟩
 ·unfold Zw;rw[UB w h c (by omega) crew (by omega) n hB0,uU,bm hn20 n hB0,t1];grind
 ·unfold W7;grind
structure CP(c:List Int)(crew:List Rb):Prop where
 mr:kp c crew
 ids:mi crew
 mN:∀i,0≤i→i<(crew.length:Int)→0≤(Pb crew i).2.2.2.2∧(Pb crew i).2.2.2.2≤1000000
 ml:∀i,0≤i→i<(crew.length:Int)→1≤(Pb crew i).1∧(Pb crew i).1≤99
theorem js{c:List Int}{i:Int}:QC c i=true↔iS c i:=by unfold QC Ps iS O8;grind
theorem iE{c:List Int}{crew:List Rb}{i:Nat}(hi:i<crew.length):kO c crew i=true↔(1≤(Pb crew i).1∧(Pb crew i).1≤99)∧iS c (Pb crew i).2.1∧((Pb crew i).2.2.1 = -1∨iS c (Pb crew i).2.2.1)∧(0≤(Pb crew i).2.2.2.2∧(Pb crew i).2.2.2.2≤1000000)∧
  (0<i→(Pb crew ((i:Int)-1)).1<(Pb crew i).1)∧∀j:Nat,j<i→(Pb crew (j:Int)).2.1≠(Pb crew i).2.1:=by
 have hp:QS (·.1) crew i crew[i]=true↔(0<i→(Pb crew ((i:Int)-1)).1<(Pb crew i).1):=by
  cases i with
  |zero=>simp[QS]
  |succ j=>
   rw[RT hi,show((j+1:Nat):Int)-1=(j:Int) by omega,RT (show j<crew.length by omega)];simp[QS,AAF (show j<crew.length by omega)]
 have ha:((crew.take i).all fun y => !(y.2.1==crew[i].2.1))=true↔∀j:Nat,j<i→(Pb crew (j:Int)).2.1≠(Pb crew i).2.1:=by
  rw[AAU,RT hi];constructor
  ·intro h j hj;rw[RT (show j<crew.length by omega)]
   have:=h crew[j] (by
    rw[ABY];exact⟨j,by simp;omega,by simp⟩)
   simpa using this
  ·intro h y hy;obtain⟨j,hj,rfl⟩:=ABY.1 hy;have hji:j<i:=by simp at hj;omega
   have:=h j hji;rw[RT (show j<crew.length by omega)]at this;simpa using this
 unfold kO;rw[AAF hi];simp only[AAG,hp,ha,js,AAa,AAS,RT hi];unfold Ps;grind
theorem bR{w h:Int}{c:List Int}{crew:List Rb}:SQ w h c crew=true↔PS w h c=true∧CP c crew:=by
 unfold SQ;simp only[AAG,AAb,AAU,AAR];constructor
 ·rintro ⟨⟨hf,hn⟩,uZ⟩
  have hr:∀i:Nat,i<crew.length→_:=fun i hi=>(iE hi).1 (uZ i hi);have cast:∀i:Int,0≤i→i<(crew.length:Int)→∃m:Nat,i=m∧m<crew.length:=fun i h0 h1=>⟨i.toNat,by omega,by omega⟩
  have ids1:∀d a:Nat,a+d+1<crew.length→(Pb crew (a:Int)).1<(Pb crew ((a+d+1:Nat):Int)).1:=by
   intro d
   induction d with
   |zero=>
    intro a ha;have:=(hr (a+1) (by omega)).2.2.2.2.1 (by omega);grind
   |succ d ih=>
    intro a ha;have h1:=ih a (by omega);have h2:=(hr (a+(d+1)+1) (by omega)).2.2.2.2.1 (by omega);grind
  refine⟨hf,⟨hn,fun i h0 h1=>?_,fun i j i0 i1 j0 j1 e=>?_⟩,fun a b a0 zF hb=>?_,fun i h0 h1=>?_,fun i h0 h1=>?_⟩
  ·obtain⟨m,rfl,hm⟩:=cast i h0 h1;obtain⟨_,q2,q3,_⟩:=hr m hm;exact⟨q2.1,q2.2,q3⟩
  ·obtain⟨a,rfl,ha⟩:=cast i i0 i1;obtain⟨b,rfl,hb⟩:=cast j j0 j1;rcases ABf a b with hl|hl|hl
   all_goals grind
  ·obtain⟨m,rfl,hm⟩:=cast a a0 (by omega);obtain⟨k,rfl,hk⟩:=cast b (by omega) hb;have:=ids1 (k-m-1) m (by omega);grind
  ·obtain⟨m,rfl,hm⟩:=cast i h0 h1;exact(hr m hm).2.2.2.1
  ·obtain⟨m,rfl,hm⟩:=cast i h0 h1;exact(hr m hm).1
 ·rintro ⟨hf,⟨hn,hs,hd⟩,hid,vd,hidr⟩
  refine⟨⟨hf,hn⟩,fun i hi=>(iE hi).2 ?_⟩;have s:=hs (i:Int) (by omega) (by omega);refine⟨hidr i (by omega) (by omega),⟨s.dv,s.od⟩,s.goal,vd i (by omega) (by omega),fun h0=>hid _ _ (by omega) (by omega) (by omega),fun j hj e=>?_⟩;have:=hd j i (by omega) (by omega) (by omega) (by omega) e;omega
def X5(r:Rb)(v:Int):Rb:=(r.1,v,r.2.2.1,r.2.2.2.1,bif(r.2.2.1 == -1)||(v==r.2.2.1)then 0 else NF (r.2.2.2.2+1) 1000000)
def Vl(crew:List Rb)(next:List Int):List Rb:=List.zipWith X5 crew next
theorem X4{crew:List Rb}{next:List Int}(h:next.length=crew.length):(Vl crew next).length=crew.length:=by simp[Vl,h]
theorem bE{crew:List Rb}{next:List Int}(h:next.length=crew.length){i:Int}(h0:0≤i)(h1:i<(crew.length:Int)):Pb (Vl crew next) i=X5 (Pb crew i) (O8 next i):=by
 obtain⟨m,rfl⟩:∃m:Nat,i=m:=⟨i.toNat,by omega⟩;have hm:m<crew.length:=by omega
 rw[RT (by rw[X4 h];exact hm),RT hm];simp[Vl,O8,List.getD,AAF (show m<next.length by omega)]
theorem mM{c:List Int}{crew:List Rb}(hp:CP c crew){next:List Int}(hn:Next c crew next):CP c (Vl crew next):=by
 have hl:=X4 hn.len;have ha:∀i,0≤i→i<(crew.length:Int)→Pb (Vl crew next) i=X5 (Pb crew i) (O8 next i):=fun i h0 h1=>bE hn.len h0 h1;refine⟨⟨by rw[hl];exact hp.mr.aX,fun i h0 h1=>?_,fun i j i0 i1 j0 j1 e=>?_⟩,fun a b a0 zF hb=>?_,fun i h0 h1=>?_,fun i h0 h1=>?_⟩<;>rw[hl]at *
 ·rw[ha i h0 h1];have:=hn.rz i h0 h1;exact⟨this.1,this.2,(hp.mr.jZ i h0 h1).goal⟩
 ·rw[ha i i0 i1,ha j j0 j1]at e;exact hn.D i j i0 i1 j0 j1 e
 ·rw[ha a a0 (by omega),ha b (by omega) hb];exact hp.ids a b a0 zF hb
 ·rw[ha i h0 h1];have:=hp.mN i h0 h1;show 0≤(bif _ then(0:Int)else _)∧(bif _ then(0:Int)else _)≤1000000;cases((Pb crew i).2.2.1 == -1)||(O8 next i==(Pb crew i).2.2.1)with
  |true=>grind
  |false=>
   show 0≤NF _ _∧NF _ _≤1000000;unfold NF;grind
 ·rw[ha i h0 h1];exact hp.ml i h0 h1
theorem fw{r:Rb}{v:Int}(h:0≤r.2.2.2.2∧r.2.2.2.2≤1000000):X5 r v=(r.1,v,r.2.2.1,r.2.2.2.1,bif(r.2.2.1 == -1)||(v==r.2.2.1)then 0 else bif decide (r.2.2.2.2<1000000)then r.2.2.2.2+1 else r.2.2.2.2):=by unfold X5 NF;grind
theorem dL{c:List Int}{crew:List Rb}(hp:CP c crew){next:List Int}(hn:Next c crew next)(n:Nat)(hB:PD≤n):
  iter n (RH crew next) ([],0)=some (Vl crew next,(crew.length:Int)):=by
 have hB1:1048576≤n:=AAw (by decide) hB;have h20:=hp.mr.aX;have hl:=X4 hn.len
 have:=Ph (RH crew next) (fun i=>((Vl crew next).take i,(i:Int))) crew.length (Vl crew next,(crew.length:Int)) (fun i hi=>by
  have hir:0≤(i:Int)∧(i:Int)<(crew.length:Int):=⟨by omega,by omega⟩;obtain⟨i1,i2,_⟩:=S8 (out:=next) (v:=(i:Int)) (by rw[hn.len];exact hir);have ha:=hp.mN i hir.1 hir.2
  have ht:(Vl crew next).take (i+1)=(Vl crew next).take i++[X5 (Pb crew (i:Int)) (O8 next (i:Int))]:=by
   rw[ABe (by rw[hl];exact hi),←RT (by rw[hl];exact hi),bE hn.len hir.1 hir.2]
  have hm:∀y:Rb,decide (((Vl crew next).take i).length+[y].length≤Dh)=true:=fun y=>by rw[AAb];simp[Dh];omega
  rw[ht,fw ha];simp only[RH,ZX hir,ABT,i1,i2,ABU,O5 hi (by omega),PC (show -9223372036854775808≤(Pb crew (i:Int)).2.2.2.2+1 by omega) (by omega),hm];rw[show decide ((i:Int)<(crew.length:Int))=true by simpa using hi];cases((Pb crew (i:Int)).2.2.1 == -1)<;>cases(O8 next (i:Int)==(Pb crew (i:Int)).2.2.1)<;>cases decide ((Pb crew (i:Int)).2.2.2.2<1000000)<;>rfl) (by simp[RH];rw[←hl];exact List.take_length.symm▸rfl) n (by omega)
 grind
theorem cz{c:List Int}{crew:List Rb}(hp:CP c crew){next:List Int}(hn:Next c crew next)(n:Nat)(hB:PD≤n):
  iter n (Ry next) (0,crew)=some ((crew.length:Int),Vl crew next):=by
 have hB1:1048576≤n:=AAw (by decide) hB;have h20:=hp.mr.aX;have hl:=X4 hn.len;have vT:=hn.len
 have:=Ph (Ry next) (fun i=>((i:Int),(Vl crew next).take i++crew.drop i)) crew.length ((crew.length:Int),Vl crew next) (fun i hi=>by
  have hir:0≤(i:Int)∧(i:Int)<(crew.length:Int):=⟨by omega,by omega⟩;obtain⟨i1,i2,_⟩:=S8 (out:=next) (v:=(i:Int)) (by rw[hn.len];exact hir);have ha:=hp.mN i hir.1 hir.2;have hlen:((Vl crew next).take i++crew.drop i).length=crew.length:=by simp[hl];omega
  have w8:i<((Vl crew next).take i++crew.drop i).length:=by rw[hlen];exact hi
  have hg:((Vl crew next).take i++crew.drop i)[i]=Pb crew (i:Int):=by rw[RT hi,List.getElem_append_right (by simp[hl];omega)];simp[hl,Nat.min_eq_left (Nat.le_of_lt hi)]
  have ht:((Vl crew next).take i++crew.drop i).set i (X5 (Pb crew (i:Int)) (O8 next (i:Int)))=(Vl crew next).take (i+1)++crew.drop (i+1):=by rw[ACC _ _ (by simp[hl];omega),ABe (by rw[hl];exact hi),←RT (by rw[hl];exact hi),bE hn.len hir.1 hir.2,ABo];congr 1;rw[show i-((Vl crew next).take i).length=0 by simp[hl];omega,ABh hi];rfl
  rw[←ht];generalize ((Vl crew next).take i++crew.drop i)=out at hlen w8 hg;have hio1:Ob out (i:Int)=true:=PA w8;rw[ABX]at i2;simp only[Ry,i1,ABX,i2,ABT,ABU,hio1,O5 hi (by omega),ABX];rw[b9 out i _ w8,hg];have g1:∀y:Rb,(out.set i y)[i]?=some y:=fun y=>by rw[List.getElem?_set,AAK rfl,AAK w8]
  have g2:∀(y:Rb)(f:Rb→Rb),List.modify (out.set i y) i f=out.set i (f y):=fun y f=>by rw[b9 _ i f (by simp;omega)];simp
  simp only[g1,g2,ABT,bl,PC (show -9223372036854775808≤(Pb crew (i:Int)).2.2.2.2+1 by omega) (by omega)];rw[show decide ((i:Int)<(next.length:Int))=true by rw[vT];simpa using hi];unfold X5
  cases((Pb crew (i:Int)).2.2.1 == -1)<;>cases(O8 next (i:Int)==(Pb crew (i:Int)).2.2.1)<;>rfl) (by
   simp[Ry,vT];rw[←hl];exact List.take_length) n (by omega)
 grind
theorem ix(n:Nat)(hn:PD≤n){b:List Int}{i q:Int}(hcu:Cu b i):Ok (Wy n b i q) fun x=>x.1.length≤4∧Cu x.2.1 x.2.2.1:=by
 unfold Wy;refine Ok.bind (P:=fun x=>x.1.length≤4∧Cu x.2.2.1 x.2.2.2.1) (Ok.iter (fun k x=>x.2.1+(k:Int)=5∧1≤x.2.1∧x.1.length+k≤4∧Cu x.2.2.1 x.2.2.2.1) (fun k x hx=>?_) (k:=4) ⟨by simp,by simp,by simp,hcu⟩ (by unfold PD at hn;omega)) fun x hx=>Ok.pure hx;obtain⟨h1,h0,h2,h3⟩:=hx;unfold YV;refine Ok.cond (fun hb=>?_) fun hb=>Ok.pure (.inr ⟨_,rfl,by show x.1.length≤4;clear hn;omega,h3⟩);have hb:=AAq hb;refine Ok.bind (P:=fun z=>z.1.length≤x.1.length+1∧Cu z.2.1 z.2.2.1) ((bJ h3 3).bind fun v hv=>Ok.cond (fun _=>(ok_int hv (by simp)).bind fun u hu=>Ok.guard (R3 (by clear hn;omega)) (Ok.pure ⟨by show(x.1++[_]).length≤_;simp,hu.1⟩)) fun _=>Ok.pure ⟨by show x.1.length≤_;omega,hv⟩) fun z hz=>Ok.pure (.inl ⟨_,rfl,k-1,⟨?_,?_,?_,hz.2⟩,by clear hn;omega⟩)
 ·show O9 (x.2.1+1)+_=_;rw[PC (by clear hn;omega) (by clear hn;omega)];clear hn;omega
 ·show 1≤O9 (x.2.1+1);rw[PC (by clear hn;omega) (by clear hn;omega)];clear hn;omega
 grind
theorem gK(n:Nat)(hn:PD≤n){b:List Int}{i q:Int}(hcu:Cu b i)(w h:Int)(c:List Int)(hf:PS w h c=true):Ok (V6 n b i q w h c) fun x=>Cu x.2.1 x.2.2.1:=by
 have hc:c.length≤1048576:=by have:=(Ve hf).le;clear hn;omega
 unfold V6;rw[Us w h c hc hf 3 n hn,ABT];refine Ok.bind (P:=fun z=>(z.1=false→0<(QB c 3 c.length).length)∧Cu z.2.1 z.2.2.1) (Ok.cond (fun hb=>Ok.pure ⟨(fun e=>by cases e),hcu⟩) fun hb=>(bJ hcu 12).bind fun r hr=>Ok.pure ⟨fun _=>?_,hr⟩) fun z hz=>Ok.cond (fun _=>(Px hz.2 30).bind fun r hr=>Ok.pure hr.1) fun hb=>(Px hz.2 _).bind fun r hr=>?_
 ·grind
 ·have h0:=hz.1 hb;have h1:=hr.2.2 (by omega);exact Ok.guard (YG ⟨hr.2.1,h1⟩) ((Ok.get (by omega)).bind fun v hv=>Ok.pure hr.1)
theorem Zd(w h:Int)(c:List Int)(a:List PF)(uU:Yr w h c a=true)(n:Nat)(hn:PD≤n):U6 n w h c a=some (w,h,c,a,1,[],Rn (Po c) (min (Po c).length 20),[],RO a 50,List.replicate 51 0,0,true):=by
 obtain⟨hf,hk,_,_⟩:=aY uU;have hs:=(Pk.1 hk).sm;have hle:=(Ve hf).le;have hc:c.length≤1048576:=by clear hn;omega
 have uZ:(List.range a.length).all (fun i=>Y5 c a i&&Xd a i)=true:=by have uU:=uU;unfold Yr at uU;simp only[AAG,AAU]at uU ⊢;exact fun x hx=>⟨uU.2 x hx,uU.1.2 x hx⟩
 have o1:=Ze c hc a hs Zo n hn;rw[uZ]at o1;have hm:(decide (0≤51)&&decide ((51:Int)≤(Dh:Int))&&decide (51=51))=true:=rfl;have hdl:(Po c).length≤c.length:=Yw c 4 c.length;unfold U6;rw[Pp w h c hc n hn,Pq a hs n hn,hf,hk];simp only[ABT,ABc,ABV,YW w h c hc,PL a hs n hn,hm,ABU];simp only[Zo]at o1;rw[o1];simp only[ABU,ABT];have s1:=Yn a hs w h c a 1 [] [] [] (List.replicate (Int.toNat 51) 0) 0 n hn;have c1:=ZG (Po c) (by clear hn;omega) w h c a 1 [] [] (RO a 50) (List.replicate (Int.toNat 51) 0) 0 n hn;rw[show List.replicate 51 (0:Int)=List.replicate (Int.toNat 51) 0 from rfl]at s1 ⊢;have hd:Rq n w h c 4=some (Po c):=Us w h c hc hf 4 n hn;grind
def Y2:List (List UInt8):=[[99,46,46,46,46,46,46,10,46,112,46,112,46,112,46,10,46,46,46,46,46,46,115,10,46,112,46,112,46,112,46,10,99,46,46,46,46,46,115,10],[99,46,46,46,46,46,10,46,112,112,46,112,46,10,46,46,46,46,46,46,10,46,46,46,46,46,115,10],[46,46,46,46,46,10,46,112,35,112,46,10,46,46,115,46,46,10,46,112,35,112,46,10,99,46,46,46,99,10],[99,46,112,10,46,46,46,10,112,46,115,10]]
theorem ck:Y2.all bI=true:=by kernel_rfl
theorem fC(n:Nat)(hn:PD≤n){b:List Int}{i q:Int}(hcu:Cu b i):Ok (TO n b i q) fun x=>∃w h c a b' i' q',Yr w h c a=true∧Cu b' i'∧x=(w,h,c,a,1,[],Rn (Po c) (min (Po c).length 20),[],RO a 50,List.replicate 51 (0:Int),0,b',i',q'):=by unfold TO;refine(kH hcu (xs:=Y2) (by simp[Y2])).bind fun t ht=>?_;refine(fU (AAU.1 ck _ ht.2) n hn).bind fun x hx=>?_;refine Ok.bind (P:=fun z=>PS z.2.2.2.1 z.2.2.2.2.1 z.2.2.2.2.2=true∧Cu z.1 z.2.1) ((bJ ht.1 8).bind fun r hr=>Ok.cond (fun _=>(gN n hn hr).bind fun y hy=>Ok.pure ⟨hy.1,hy.2.2⟩) fun _=>Ok.pure ⟨hx.1,hr⟩) fun z hz=>?_;refine(fD n hn hz.2 _ _ _ hz.1).bind fun p hp=>?_;rw[Zd _ _ _ _ hp.1 n hn,ABT];dsimp only;refine⟨_,rfl,z.2.2.2.1,z.2.2.2.2.1,z.2.2.2.2.2,p.1,p.2.1,p.2.2.1,p.2.2.2,hp.1,hp.2,?_⟩;grind
theorem ji{w h:Int}{c:List Int}(hc:c.length≤1048576){crew:List Pc}(hf:PS w h c=true)(hw:CW c crew)(n:Nat)(hn:PD+1000≤n):
  ∃out,Xe n w h c crew=some out∧Vu n w h c crew=some out∧CW c out∧out.length=crew.length∧∀k (h1:k<crew.length) (h2:k<out.length),out[k].1=crew[k].1∧out[k].2.2.1=crew[k].2.2.1∧out[k].2.2.2.1=crew[k].2.2.2.1:=by
 have hB:PD≤n:=AAw (AB7 _ _) hn;have hl:crew.length≤1048576:=by have:=hw.aX;clear hn hB;omega
 have uU:SQ w h c crew=true:=Uh.2 ⟨hf,hw⟩;have hm:decide (crew.length≤Dh)=true:=by rw[AAb];simp[Dh];clear hn hB;omega
 have yE:TD crew=some crew:=by unfold TD;rw[hm];rfl
 obtain⟨_,hp⟩:=bR.1 uU;obtain⟨next,s1,s2,hnx⟩:=lQ hf hp.mr hp.ids uU n hn
 have hsp:Ub n w h c crew=some (Vl crew next):=by unfold Ub;rw[s2];simp only[ABT,dL hp hnx n hB]
 have ho:=mM hp hnx;refine⟨Vl crew next,?_,?_,(Uh.1 (bR.2 ⟨hf,ho⟩)).2,X4 hnx.len,fun k h1 h2=>?_⟩
 ·unfold Xe;rw[yE,UB w h c hc crew hl n hB,uU];simp only[ABT,ABc,ABV,s1,cz hp hnx n hB]
 ·unfold Vu;rw[UP w h c hc crew hl n hB,uU];grind
 ·have:=bE hnx.len (i:=(k:Int)) (by grind) (by omega);rw[RT h2,RT h1]at this;rw[this];exact⟨rfl,rfl,rfl⟩
theorem jo{w h:Int}{c:List Int}{a:List PF}{crew:List Pc}{ts:List PW}(hf:PS w h c=true)(ha:PO a)(hc:CW c crew)(ht:TP ts):gy w h c a crew ts=sendAll a crew ts (QO w h c a crew ts):=by unfold gy gB;rw[Pk.2 ha,Uh.2 ⟨hf,hc⟩,VZ.2 ht];rfl
theorem cH:SH=Sw:=rfl
theorem YP{nx:Int}{l:List Pf}(hb:Vj nx l)(hsm:QZ (nx,l)){id:Int}{o:Pf}(ho:P9 l id=some o)(n:Nat)(hn:PD≤n):∃i,∃h:i<l.length,l[i]=o∧o.1=id∧Qi n nx l id=some (i:Int):=by obtain⟨hm,e⟩:=QK ho;obtain⟨i,hi,rfl⟩:=ABY.1 hm;refine⟨i,hi,rfl,e,?_⟩;have:=YQ nx l hsm.1 hb.2.2.1 i hi n hn;rw[e]at this;exact this
theorem Uu(w h:Int)(c:List Int){a:List PF}(ha:PO a){nx:Int}{l:List Pf}(hb:Vj nx l)(hsm:QZ (nx,l))(crew:List Pc)(ts:List PW)(st ou:List Int)(nw:Int)(t:PW)(ho:∃o,P9 l t.1=some o)(hp:∃q,XT a t.2.1=some q)(n:Nat)(hn:PD≤n):
  RE n w h c a nx l crew ts st ou nw t.1 t.2.1 t.2.2.1 t.2.2.2=some (TB a l t):=by
 have hal:=ha.1;unfold RE;by_cases h3:t.2.2.2=3
 ·obtain⟨o,ho⟩:=ho;obtain⟨i,hi,e,_,hf⟩:=YP hb hsm ho n hn;rw[show(t.2.2.2==3)=true from AAS.2 h3,ABU,hf,ABT,O6 hi,ABT];unfold TB;grind
 ·obtain⟨q,hq⟩:=hp;have hpx:=RS a (by omega) t.2.1 n hn;rcases hpx.2 with⟨_,xN⟩|⟨j,hj,e,ej⟩
  ·exact(xN q (Sy hq).1 (Sy hq).2).elim
  ·rw[show(t.2.2.2==3)=false from ABa.2 h3,ABV,hpx.1,e,ABT,O6 hj,ABT,Zr ha h3 hj ej]
theorem jn{crew:List Pc}(h:crew.Pairwise fun r s=>r.1<s.1){k:Nat}(hk:k<crew.length)(f:Pc→Pc):crew.modify k f=WE crew crew[k].1 f:=by
 unfold WE;refine AB9 (by grind) fun i h1 h2=>?_;rw[List.length_modify]at h1;rw[List.getElem_modify,ABr];by_cases e:k=i
 ·grind
 ·rw[AAM e,show(crew[i].1==crew[k].1)=false from ABa.2 fun q=>?_,ABV];rcases ABM e with hl|hl
  ·have:=ABQ.1 h k i hk h1 hl;omega
  ·have:=ABQ.1 h i k h1 hk hl;omega
theorem mod_mod{β:Type}(l:List β)(k:Nat)(f g:β→β):(l.modify k f).modify k g=l.modify k (g ∘ f):=by grind
theorem ZS{β:Type}{l:List β}{k:Nat}(h:k<l.length)(j:Nat)(f:β→β):Ob (l.modify j f) (k:Int)=true:=PA (by grind)
theorem cD{nx:Int}{l:List Pf}(hb:Vj nx l)(t:PW):∀p∈Pa l t,(1≤p.2.1∧p.2.1≤50)∧(1≤p.2.2∧p.2.2≤1000):=fun p hp=>by
 unfold Pa at hp;cases ho:P9 l t.1 with
 |none=>grind
 |some o=>
  rw[ho]at hp;have hpm:=(ABq.1 hp).1;obtain⟨_,_,⟨hI,_⟩,hpg,_⟩:=hb.2.2.2 o (QK ho).1;obtain⟨q1,y,hy,e⟩:=hpg.1 p hpm;have hN:=hI.2.1 y hy;have ht:=hpg.2 y hy;have hle:=eX (fun q hq=>(hpg.1 q hq).1) hpm;grind
theorem jM{nx:Int}{l:List Pf}(hsm:QZ (nx,l))(t:PW):(Pa l t).length≤1048576:=by
 unfold Pa;cases ho:P9 l t.1 with
 |none=>simp
 |some o=>exact AAw (ABs _ _) (hsm.2 o (QK ho).1).2
theorem ik(ps:List D2)(hl:ps.length≤1048576)(hp:∀p∈ps,(1≤p.2.1∧p.2.1≤50)∧(1≤p.2.2∧p.2.2≤1000))(x6:List PF×Bool)(w h:Int)(c:List Int)(a:List PF)(nx:Int)(l:List Pf)(crew:List Pc)(ts:List PW)(st:List Int)(nw:Int){ou:List Int}(hou:OB 1000000 ou)(n:Nat)(hn:PD≤n):
  ∃k:Int,iter n (Q1 ps x6) (0,w,h,c,a,nx,l,crew,ts,st,ou,nw)=some (k,w,h,c,a,nx,l,crew,ts,st,(bif x6.2 then jJ ou ps else ou),nw):=by
 obtain⟨b6,ok⟩:=x6;cases ok with
 |false=>
  obtain⟨m,rfl⟩:∃m,n=m+1:=⟨n-1,by unfold PD at hn;omega⟩;refine⟨0,Pj ?_ m⟩;unfold Q1;grind
 |true=>
  refine⟨(ps.length:Int),?_⟩;rw[ABU];refine PQ (σ:=List Int) (Q1 ps (b6,true)) (fun i s=>((i:Int),w,h,c,a,nx,l,crew,ts,st,s,nw)) ps (fun r s=>((ps.length:Int),w,h,c,a,nx,l,crew,ts,st,jJ s r,nw)) (fun i s=>OB 1000000 s) (fun s _=>?_) (fun i p r s hi hx _ _ hs=>?_) n (by unfold PD at hn;omega) ou hou
  ·unfold Q1;dsimp only;rw[show decide ((ps.length:Int)<(ps.length:Int))=false by rw[AAf];omega];rfl
  ·left;have hpe:ps[i]=p:=by rw[AAF hi]at hx;exact Option.some.inj hx
   obtain⟨⟨s1,s2⟩,n1,n2⟩:=hp p (by grind);have hk:p.2.1.toNat<s.length:=by rw[hs.1];clear hn;omega
   have tS:Ob s p.2.1=true:=YG ⟨by omega,by omega⟩;have tv:s[p.2.1.toNat]?=some (s.getD p.2.1.toNat 0):=by rw[AAF hk];simp[hk]
   have hb:=hs.getD (by omega) p.2.1.toNat;refine⟨if s.getD p.2.1.toNat 0+p.2.2≤1000000 then s.set p.2.1.toNat (s.getD p.2.1.toNat 0+p.2.2)else s,?_,?_,rfl⟩
   ·unfold Q1;dsimp only;rw[show decide ((i:Int)<(ps.length:Int))=true by rw[AAb];clear hn;omega];simp only[ABU,ABT,PA hi,ABX,hx,tS,tv,Pw,O5 hi (show ps.length≤9223372036854775807 by clear hn;omega)];rw[PC (n:=s.getD p.2.1.toNat 0+p.2.2) (by clear hn;omega) (by clear hn;omega)];grind
   ·split
    ·rename_i hle;exact hs.set (ACJ _) _ ⟨by omega,hle⟩
    ·exact hs
theorem aI(w h:Int)(c:List Int){a:List PF}{nx:Int}{l:List Pf}{crew:List Pc}{x y:List PW}{t:PW}(d:DK a nx l crew (x++t::y))(hsm:QZ (nx,l))(ht:t.2.2.2≠1)(ts:List PW)(st:List Int){ou:List Int}(hou:OB 1000000 ou)(nw:Int)(n:Nat)(hn:PD≤n):
  ∃t':PW,V8 n w h c a nx l crew ts st ou nw t.1 t.2.1 t.2.2.1 t.2.2.2=some ((Q6 a ou l crew t).2.2.2.isNone,w,h,c,(Q6 a ou l crew t).1,nx,l,(Q6 a ou l crew t).2.2.1,ts,st,(Q6 a ou l crew t).2.1,nw,t')∧t'.1=t.1∧∀u,(Q6 a ou l crew t).2.2.2=some u→u=t':=by
 have hT:=d.tk t (AAO _ AAe);obtain⟨o,ho,_,_⟩:=hT.ord;obtain⟨r,hr,_,_⟩:=hT.cg ht;have zG:=d.aX;have hpod:=hT.PJ;rcases Ws crew (by omega) t.2.2.1 n hn with⟨_,xN⟩|⟨k,hk,ek,ev⟩
 ·exact(xN r (Pr hr).1 (Pr hr).2).elim
 have hS:=d.sk.sm;unfold V8 Q6;rw[cH,ev,ABT,PA hk,ABU];simp only[ABX];have cm:∀f:Pc→Pc,crew.modify k f=WE crew t.2.2.1 f:=fun f=>by rw[←ek];exact jn d.ids hk f
 by_cases h2:t.2.2.2=2
 ·have hg:=Uu w h c d.sk d.bk hsm (List.modify (List.modify crew k (fun(y:C2)=>(y.1,y.2.1,y.2.2.1,y.2.2.2.1,0))) k (fun(y:C2)=>(y.1,y.2.1,y.2.2.1,true,y.2.2.2.2))) ts st ou nw (W8 t 3) ⟨o,ho⟩ hpod n hn;rw[AAK h2,show(t.2.2.2==2)=true from AAS.2 h2,ABU,ZS hk,ABU];rw[show RE n w h c a nx l _ ts st ou nw t.1 t.2.1 t.2.2.1 3=_ from hg,ABT];rw[mod_mod,ZS hk,ABU,mod_mod,cm];exact⟨W8 t 3,rfl,rfl,fun u hu=>by grind⟩
 ·rw[AAM h2,show(t.2.2.2==2)=false from ABa.2 h2,ABV];by_cases h3:t.2.2.2=3
  ·rw[AAK h3,show(t.2.2.2==3)=true from AAS.2 h3,ABU];obtain⟨i,hi,e1,_,ef⟩:=YP d.bk hsm ho n hn;have wC:o.2.2.2.1.length≤1048576:=(hsm.2 o (QK ho).1).2;have hil:o.2.2.1.length≤1048576:=(hsm.2 o (QK ho).1).1
   have hoo:Rs n nx l t.1=some (o.1,o.2.1,o.2.2.1,o.2.2.2.1,o.2.2.2.2,true):=by unfold Rs;rw[ef,ABT,show decide ((i:Int)<0)=false by grind,ABV,O6 hi,ABT,e1];unfold Pn;rw[UL (by grind),UL (by grind)];rfl
   have wL:Pa l t=o.2.2.2.1.filter fun p=>p.1==t.2.1:=by unfold Pa;rw[ho]
   have hpl2:=jM hsm t;rw[hoo,ABT];dsimp only;rw[a7 o wC t.2.1 n hn,ABT,←wL];unfold Xq;rw[aG a hS (Pa l t) hpl2 n hn,ABT,ABT];obtain⟨kk,hloop⟩:=ik (Pa l t) hpl2 (cD d.bk t) (Rw ZI a (Pa l t)) w h c (Rw ZI a (Pa l t)).1 nx l (List.modify crew k (fun(y:C2)=>(y.1,y.2.1,y.2.2.1,y.2.2.2.1,0))) ts st nw hou n hn;rw[hloop,ABT];dsimp only;obtain⟨g1,g2,_⟩:=ZJ d.sk (Pa l t);have hpod2:=(hT.same g2 (k:=l) rfl).PJ;have hg:=Uu w h c g1 d.bk hsm (List.modify crew k (fun(y:C2)=>(y.1,y.2.1,y.2.2.1,y.2.2.2.1,0))) ts st (bif(Rw ZI a (Pa l t)).2 then jJ ou (Pa l t)else ou) nw (W8 t 4) ⟨o,ho⟩ hpod2 n hn;rw[show RE n w h c _ nx l _ ts st _ nw t.1 t.2.1 t.2.2.1 4=_ from hg,ABT];rw[ZS hk,ABU,mod_mod,cm];exact⟨W8 t 4,rfl,rfl,fun u hu=>by grind⟩
  ·rw[AAM h3,show(t.2.2.2==3)=false from ABa.2 h3,ABV];rw[ZS hk,ABU,mod_mod,ZS hk,ABU,mod_mod,cm];exact⟨t,rfl,rfl,fun u hu=>by cases hu⟩
structure BG(nx:Int)(l:List Pf):Prop where
 bk:Vj nx l
 KN:du l
 aw:∀o∈l,o.2.2.2.1.length≤72
theorem BG.sm{nx:Int}{l:List Pf}(h:BG nx l):QZ (nx,l):=by
 have h30:=h.bk.2.1;refine⟨by grind,fun o ho=>?_⟩;have h72:=h.aw o ho;obtain⟨_,_,⟨hI,_⟩,_,_⟩:=h.bk.2.2.2 o ho;have h6:=hI.2.2;exact⟨by show o.2.2.1.length≤_;omega,by show o.2.2.2.1.length≤_;omega⟩
theorem BG.spec{nx:Int}{l:List Pf}(h:BG nx l)(n:Nat)(hn:PD≤n):QW n nx l=some true:=by obtain⟨b,e,ib⟩:=Xw h.sm h.KN n hn;rw[e,ib.2 ⟨h.bk,h.aw⟩]
theorem DI.bg{w h:Int}{c:List Int}{a:List PF}{nx:Int}{l:List Pf}{crew:List Pc}{ts:List PW}(d:DI w h c a nx l crew ts):BG nx l:=⟨d.bk,d.KN,d.aw⟩
theorem dn{l:List Pf}(h:l.Pairwise fun a b=>a.1<b.1){i:Nat}(hi:i<l.length)(st:Int):l.modify i (fun o=>(o.1,o.2.1,o.2.2.1,o.2.2.2.1,st))=Rm l l[i].1 st:=by
 unfold Rm;refine AB9 (by grind) fun k h1 h2=>?_;rw[List.length_modify]at h1;rw[List.getElem_modify,ABr];by_cases e:i=k
 ·grind
 ·rw[AAM e,show(l[k].1==l[i].1)=false from ABa.2 fun q=>?_,ABV];rcases ABM e with hl|hl
  ·have:=ABQ.1 h i k hi h1 hl;omega
  ·have:=ABQ.1 h k i h1 hi hl;omega
theorem ay{nx:Int}{l:List Pf}(h:BG nx l)(id:Int)(n:Nat)(hn:PD≤n):∃b,Wt n nx l id=some (nx,(bif XC l id then Rm l id 2 else l),b):=by
 have hsm:=h.sm;unfold Wt;rw[R6 nx l hsm n hn,ABT,h.spec n hn];cases ho:P9 l id with
 |none=>
  have hm:∀x∈l,x.1≠id:=fun x hx e=>by unfold P9 at ho;grind
  have hf:=Vt nx l hsm.1 id hm n hn;rw[ZD]at hf;have w8:XC l id=false:=by unfold XC;rw[ho]
  rw[hf,w8];exact⟨false,rfl⟩
 |some o=>
  obtain⟨i,hi,e1,e2,ef⟩:=YP h.bk hsm ho n hn;have w8:XC l id=(o.2.2.2.2==1):=by unfold XC;rw[ho]
  rw[ef,w8];simp only[ABT,ABc,ABV,show decide ((i:Int)<0)=false by grind,O6 hi,e1];cases hs:(o.2.2.2.2==1)with
  |false=>
   rw[show(o.2.2.2.2 != 1)=true by simp only[bne,hs];rfl];grind
  |true=>
   rw[show(o.2.2.2.2 != 1)=false by simp only[bne,hs];rfl,ABV,PA hi,ABU,ABX,dn h.bk.2.2.1 hi,e1,e2];grind
theorem BG.Dq{nx:Int}{l:List Pf}(h:BG nx l)(id:Int){st:Int}(v7:1≤st∧st≤3):BG nx (Rm l id st):=by
 have mem:∀q∈Rm l id st,∃o∈l,q=(bif o.1==id then(o.1,o.2.1,o.2.2.1,o.2.2.2.1,st)else o:Pf):=fun q hq=>by unfold Rm at hq;grind
 have key:∀o:Pf,(bif o.1==id then(o.1,o.2.1,o.2.2.1,o.2.2.2.1,st)else o:Pf).2.2.2.1=o.2.2.2.1:=fun o=>by grind
 have hd:DK [] nx (Rm l id st) [] []:=DK.Dq ⟨⟨by simp,List.Pairwise.nil,(fun p hp=>by cases hp)⟩,h.bk,by simp,List.Pairwise.nil,Qa.2 ⟨by simp,(fun x hx=>by cases hx),List.Pairwise.nil⟩,(fun t ht=>by cases ht)⟩ v7 (fun t ht=>by cases ht);refine⟨hd.bk,fun q hq=>?_,fun q hq=>?_⟩
 ·obtain⟨o,ho,rfl⟩:=mem q hq;rw[key];exact h.KN o ho
 ·obtain⟨o,ho,rfl⟩:=mem q hq;rw[key];exact h.aw o ho
theorem lW(left:List PW)(hl:left.length≤1048576)(ended:List Int){i:Nat}(hi:i<ended.length)(r:Int×Int×Int×List Int×List PF×Int×List Pf×List Pc×List PW×List Int×List Int×Int)(y:Int×Int×List Int×List PF×Int×List Pf×List Pc×List PW×List Int×List Int×Int)(n:Nat)(hn:PD≤n):
  ∃j:Int,iter n (SB (left,ended,r) ((i:Int),y)) (false,0)=some (left.any (fun t=>t.1==ended[i]),j):=by
 refine⟨(left.length:Int),?_⟩;have:=PQ (σ:=Bool) (SB (left,ended,r) ((i:Int),y)) (fun k s=>(s,(k:Int))) left (fun q s=>(s||q.any (fun t=>t.1==ended[i]),(left.length:Int))) (fun _ _=>True) (fun s _=>?_) (fun k t q s hk ht _ _ _=>?_) n (by unfold PD at hn;omega) false trivial
 ·grind
 ·unfold SB;grind
 ·left;refine⟨s||t.1==ended[i],?_,trivial,by simp only[List.any_cons,Bool.or_assoc]⟩;unfold SB;dsimp only;rw[show decide ((k:Int)<(left.length:Int))=true by rw[AAb];clear hn;omega];simp only[ABU,PA hk,ABX,ht,ABT,PA hi,AAF hi,O5 hk (show left.length≤9223372036854775807 by clear hn;omega)];grind
theorem lV(left:List PW)(hl:left.length≤1048576)(ended:List Int)(uD:ended.length≤1048576)(r:Int×Int×Int×List Int×List PF×Int×List Pf×List Pc×List PW×List Int×List Int×Int)(w h:Int)(c:List Int)(a:List PF)(nx:Int){l:List Pf}(hb:BG nx l)(crew:List Pc)(st ou:List Int)(nw:Int)(n:Nat)(hn:PD≤n):
  iter n (SA n (left,ended,r)) (0,w,h,c,a,nx,l,crew,left,st,ou,nw)=some ((ended.length:Int),w,h,c,a,nx,ky left ended l,crew,left,st,ou,nw):=by
 refine PQ (σ:=List Pf) (SA n (left,ended,r)) (fun i s=>((i:Int),w,h,c,a,nx,s,crew,left,st,ou,nw)) ended (fun q s=>((ended.length:Int),w,h,c,a,nx,ky left q s,crew,left,st,ou,nw)) (fun _ s=>BG nx s) (fun s _=>?_) (fun i id q s hi hx _ _ hs=>?_) n (by unfold PD at hn;omega) l hb
 ·unfold SA;dsimp only;rw[show decide ((ended.length:Int)<(ended.length:Int))=false by rw[AAf];omega];rfl
 ·left;have he:ended[i]=id:=by rw[AAF hi]at hx;exact Option.some.inj hx
  obtain⟨j,e3⟩:=lW left hl ended hi r (w,h,c,a,nx,s,crew,left,st,ou,nw) n hn;rw[he]at e3;obtain⟨b,ef⟩:=ay hs id n hn;refine⟨bif(left.any fun t=>t.1==id) || !XC s id then s else Rm s id 2,?_,?_,rfl⟩
  ·unfold SA;dsimp only;rw[show decide ((i:Int)<(ended.length:Int))=true by rw[AAb];clear hn;omega];simp only[ABU,e3,ABT,PA hi,ABX,hx,ef,O5 hi (show ended.length≤9223372036854775807 by clear hn;omega)];grind
  ·cases(left.any fun t=>t.1==id) || !XC s id
   ·exact hs.Dq id ⟨by omega,by omega⟩
   ·exact hs
theorem iC:∀(ps:List D2)(ou:List Int),(∀p∈ps,1≤p.2.2∧p.2.2≤1000)→OB 1000000 ou→OB 1000000 (jJ ou ps)
 | [],ou,_,h=>h
 |p::ps,ou,hp,h=>by
  have h1:=hp p AAe;have h2:=h.getD (by omega) p.2.1.toNat;refine iC ps _ (fun q hq=>hp q (AAJ _ hq)) ?_;dsimp only;split
  ·rename_i hle;exact h.set (ACJ _) _ ⟨by omega,hle⟩
  ·exact h
theorem dV(l:List Pf):∀(ts:List PW)(s:lZ),(QJ l ts s).2.2.2.2.length≤s.2.2.2.2.length+ts.length
 | [],s=>AAd _
 |t::ts,s=>by
  have ih:=dV l ts (Qk l t s)
  have h1:(Qk l t s).2.2.2.2.length≤s.2.2.2.2.length+1:=by
   unfold Qk;split
   ·dsimp only;cases(Q6 s.1 s.2.1 l s.2.2.1 t).2.2.2 with
    |none=>simp only[AA2,ABb];omega
    |some _=>dsimp only;omega
   ·dsimp only;omega
  have hun:QJ l (t::ts) s=QJ l ts (Qk l t s):=rfl;grind
theorem lU(crew0:List Pc)(ts:List PW)(w h:Int)(c:List Int){a:List PF}{nx:Int}{l:List Pf}(hsm:QZ (nx,l)){crew:List Pc}(d:DK a nx l crew ts)(ts0:List PW)(st:List Int){ou:List Int}(hou:OB 1000000 ou)(nw:Int)(n:Nat)(hn:PD≤n):
  iter n (R9 n (crew0,ts)) ([],[],0,w,h,c,a,nx,l,crew,ts0,st,ou,nw)=some ((QJ l ts (a,ou,crew,[],[])).2.2.2.1,(QJ l ts (a,ou,crew,[],[])).2.2.2.2,(ts.length:Int),w,h,c,(QJ l ts (a,ou,crew,[],[])).1,nx,l,(QJ l ts (a,ou,crew,[],[])).2.2.1,ts0,st,(QJ l ts (a,ou,crew,[],[])).2.1,nw):=by
 have h60:=(Qa.1 d.XA).1
 refine PQ (σ:=lZ) (R9 n (crew0,ts)) (fun i s=>(s.2.2.2.1,s.2.2.2.2,(i:Int),w,h,c,s.1,nx,l,s.2.2.1,ts0,st,s.2.1,nw)) ts (fun q s=>((QJ l q s).2.2.2.1,(QJ l q s).2.2.2.2,(ts.length:Int),w,h,c,(QJ l q s).1,nx,l,(QJ l q s).2.2.1,ts0,st,(QJ l q s).2.1,nw))
  (fun i s=>DK s.1 nx l s.2.2.1 (s.2.2.2.1++ts.drop i)∧OB 1000000 s.2.1∧s.2.2.2.2.length≤i∧s.2.2.2.1.length≤i) (fun s hs=>?_) (fun i t q s hi hx hd1 hd2 hs=>?_) n (by unfold PD at hn;omega) (a,ou,crew,[],[]) ⟨by simpa using d,hou,by simp,by simp⟩
 ·unfold R9;dsimp only;rw[show decide ((ts.length:Int)<(ts.length:Int))=false by rw[AAf];omega];rfl
 ·left;obtain⟨hD,hO,hE,hL⟩:=hs;rw[hd1]at hD;obtain⟨sa,so,sc,sl,se⟩:=s;dsimp only at hD hO hE hL ⊢;have tY:∀y:PW,decide (sl.length+[y].length≤Dh)=true:=fun y=>R3 (by omega);have hrow2:∀y:Int,decide (se.length+[y].length≤Dh)=true:=fun y=>R3 (by omega);have hwi:O9 ((i:Int)+1)=((i+1:Nat):Int):=O5 hi (show ts.length≤9223372036854775807 by omega);have zG:=hD.aX;have hdec:decide ((i:Int)<(ts.length:Int))=true:=by rw[AAb];clear hn;omega
  refine⟨Qk l t (sa,so,sc,sl,se),?_,?_,rfl⟩
  ·unfold R9;dsimp only;rw[hdec];simp only[ABU,PA hi,ABX,hx,ABT]
   have hrob:∃x6,SH n sc t.2.2.1=some x6∧(t.2.2.2≠1→∃k,∃hk:k<sc.length,x6=(k:Int)∧TH sc t.2.2.1=some sc[k]):=by
    rw[cH];rcases Ws sc (by omega) t.2.2.1 n hn with⟨e,xN⟩|⟨k,hk,ek,ev⟩
    ·refine⟨_,e,fun h1=>?_⟩;obtain⟨r,hr,_⟩:=(hD.tk t (AAO _ AAe)).cg h1;exact(xN r (Pr hr).1 (Pr hr).2).elim
    ·refine⟨_,ev,fun _=>⟨k,hk,rfl,?_⟩⟩;rw[←ek];exact XX hD.ids hk
   obtain⟨x6,e6,hk6⟩:=hrob;rw[e6,ABT];unfold Qk X6;dsimp only;by_cases h1:t.2.2.2=1
   ·grind
   ·obtain⟨k,hk,rfl,hr⟩:=hk6 h1;rw[show(t.2.2.2 != 1)=true from ABz.2 h1,show(t.2.2.2==1)=false from ABa.2 h1,hr];simp only[ABU,PA hk,ABX,AAF hk,ABT,ABp,ABt];cases hg:(sc[k].2.1==sc[k].2.2.1)with
    |false=>
     grind
    |true=>
     rw[AAK rfl,ABU];obtain⟨t',ev,et,hu⟩:=aI w h c hD hsm h1 ts0 st hO nw n hn;rw[ev];cases hq:(Q6 sa so l sc t).2.2.2 with
     |none=>simp only[ABT,Option.isNone,ABU,hrow2,hwi,et,eK,ABy]
     |some u=>
      have:=hu u hq;subst this;simp only[ABT,Option.isNone,ABV,tY,ABU,hwi,eK]
  ·rw[hd2];unfold Qk;by_cases hg:X6 sc t=true
   ·rw[AAK hg]
    have ht:t.2.2.2≠1:=fun e=>by unfold X6 at hg;rw[show(t.2.2.2==1)=true from AAS.2 e]at hg;simp at hg
    have hgo:=hD.ij ht so;refine⟨?_,?_,?_,?_⟩
    ·show DK _ nx l _ ((sl++eK _)++q);rw[ABo];exact hgo
    ·show OB 1000000 (Q6 sa so l sc t).2.1;unfold Q6;split
     ·exact hO
     ·split
      ·dsimp only;cases(Rw ZI sa (Pa l t)).2
       ·exact hO
       ·exact iC _ so (fun p hp=>by have:=cD d.bk t p hp;exact⟨this.2.1,this.2.2⟩) hO
      ·exact hO
    ·show(match(Q6 sa so l sc t).2.2.2 with|some _=>se|none=>se++[t.1]).length≤i+1;cases(Q6 sa so l sc t).2.2.2 with
     |none=>simp only[AA2,ABb];clear hn;omega
     |some _=>dsimp only;clear hn;omega
    ·show(sl++eK (Q6 sa so l sc t).2.2.2).length≤i+1;cases(Q6 sa so l sc t).2.2.2 with
     |none=>simp only[eK,ABy];clear hn;omega
     |some _=>simp only[eK,AA2,ABb];clear hn;omega
   grind
theorem aL{w h:Int}{c:List Int}{a:List PF}{nx:Int}{l:List Pf}{crew:List Pc}{ts:List PW}(d:DI w h c a nx l crew ts)(st:List Int){ou:List Int}(hou:Tk ou)(nw:Int)(n:Nat)(hn:PD+1000≤n):
  ∃crew2,CW c crew2∧crew2.length=(sendAll a crew ts (QO w h c a crew ts)).1.length∧(∀k (h1:k<(sendAll a crew ts (QO w h c a crew ts)).1.length) (h2:k<crew2.length),crew2[k].1=(sendAll a crew ts (QO w h c a crew ts)).1[k].1∧crew2[k].2.2.1=(sendAll a crew ts (QO w h c a crew ts)).1[k].2.2.1∧crew2[k].2.2.2.1=(sendAll a crew ts (QO w h c a crew ts)).1[k].2.2.2.1)∧
   Xe n w h c (sendAll a crew ts (QO w h c a crew ts)).1=some crew2∧
   WA n w h c a nx l crew ts st ou nw=some (w,h,c,(Q5 a ou l crew2 (sendAll a crew ts (QO w h c a crew ts)).2).1,nx,(Q5 a ou l crew2 (sendAll a crew ts (QO w h c a crew ts)).2).2.2.1,(Q5 a ou l crew2 (sendAll a crew ts (QO w h c a crew ts)).2).2.2.2.1,(Q5 a ou l crew2 (sendAll a crew ts (QO w h c a crew ts)).2).2.2.2.2,st,(Q5 a ou l crew2 (sendAll a crew ts (QO w h c a crew ts)).2).2.1,O9 (nw+1)):=by
 have hB:PD≤n:=AAw (AB7 _ _) hn;have zG:c.length≤1048576:=by have:=(Ve d.fl).le;clear hn hB;omega
 have h20:=d.cw.aX;have h60:=(Qa.1 d.XA).1;have hd:=er zG d.fl a crew ts;have ds:=d.oV hd (Zb hd.n1 hd.n2);have e1:=aB zG d.st.sm (show crew.length≤1048576 by omega) (show ts.length≤1048576 by omega) n hB (w:=w) (h:=h);rw[jo d.fl d.st d.cw d.XA]at e1;obtain⟨out,a1,a2,a3,a4,a5⟩:=ji zG ds.fl ds.cw n hn;have da:=ds.rZ a3 a4 a5;have h60s:=(Qa.1 da.XA).1;have hL1:=lU (sendAll a crew ts (QO w h c a crew ts)).1 (sendAll a crew ts (QO w h c a crew ts)).2 w h c d.bg.sm da.ot ts st hou.ob (O9 (nw+1)) n hB;have hdone:=DI.QJ (sendAll a crew ts (QO w h c a crew ts)).2 (a,ou,out,[],[]) da;have yg:(QJ l (sendAll a crew ts (QO w h c a crew ts)).2 (a,ou,out,[],[])).2.2.2.1.length≤1048576:=by have:=(Qa.1 hdone.XA).1;clear hn hB;omega
 have hl3:(QJ l (sendAll a crew ts (QO w h c a crew ts)).2 (a,ou,out,[],[])).2.2.2.2.length≤1048576:=by have:=dV l (sendAll a crew ts (QO w h c a crew ts)).2 (a,ou,out,[],[]);dsimp only[List.length_nil]at this;clear hn hB;omega
 refine⟨out,a3,a4,a5,a1,?_⟩;unfold WA;rw[e1,ABT];rw[a2,ABT,hL1,ABT];rw[lV _ yg _ hl3 _ w h c _ nx d.bg _ st _ _ n hB,ABT];rfl
theorem aK(w h:Int)(c:List Int){a:List PF}(ha:PO a){nx:Int}{l:List Pf}(hb:BG nx l){crew:List Pc}(hc:CW c crew)(ts:List PW)(st ou:List Int)(nw:Int){t:PW}(hg:Pv t=true)(n:Nat)(hn:PD≤n):
  ∃b,S3 n w h c a nx l crew ts st ou nw t.1 t.2.1 t.2.2.1 t.2.2.2=some b∧(b=true↔Ts a l crew t):=by
 have hal:=ha.1;have zG:=hc.aX;have hsm:=hb.sm;obtain⟨⟨s1,s4⟩,hrz⟩:=Xc hg;unfold S3;cases ho:P9 l t.1 with
 |none=>
  have hm:∀x∈l,x.1≠t.1:=fun x hx e=>by unfold P9 at ho;have:=ACI.1 ho x hx;rw[e]at this;simp at this
  have hf:=Vt nx l hsm.1 t.1 hm n hn;rw[ZD]at hf;rw[hf];refine⟨false,rfl,(fun e=>by cases e),fun hT=>?_⟩;obtain⟨o,e,_⟩:=hT.ord;grind
 |some o=>
  obtain⟨i,hi,e1,e2,ef⟩:=YP hb.bk hsm ho n hn;rw[ef,ABT,show decide ((i:Int)<0)=false by grind,ABV];simp only[O6 hi,e1,ABT];by_cases v7:o.2.2.2.2=1
  case neg=>
   rw[show(o.2.2.2.2 != 1)=true from ABz.2 v7];refine⟨false,rfl,(fun e=>by cases e),fun hT=>?_⟩;obtain⟨o2,e,e2,_⟩:=hT.ord;grind
  rw[show(o.2.2.2.2 != 1)=false by rw[v7];rfl,ABV];have hpx:=RS a (by omega) t.2.1 n hn;rw[hpx.1,ABT];rcases hpx.2 with⟨e,xN⟩|⟨j,hj,e,ej⟩
  ·rw[e];refine⟨false,rfl,(fun e=>by cases e),fun hT=>?_⟩;obtain⟨q,hq⟩:=hT.PJ;exact(xN q (Sy hq).1 (Sy hq).2).elim
  have wC:o.2.2.2.1.length≤1048576:=(hsm.2 o (QK ho).1).2
  have hplen:(SZ o.2.2.2.1).length≤1048576:=by have:=XV o.2.2.2.1 [];unfold SZ;simp only[List.length_nil]at this;clear hn;omega
  rw[e,show decide ((j:Int)<0)=false by grind,ABV,Wc o.2.2.2.1 wC n hn,ABT,P5 _ hplen _ n hn];simp only[ABT];cases hany:(SZ o.2.2.2.1).any (fun x=>x==t.2.1)with
  |false=>
   refine⟨false,rfl,(fun e=>by cases e),fun hT=>?_⟩;obtain⟨o2,e,_,p,hp,ep⟩:=hT.ord;rw[ho]at e;injection e with e
   rw[←e]at hp;rw[←ABj]at hany;exact(hany (AA6.2 ⟨_,XW.2 ⟨p,hp,rfl⟩,AAS.2 ep⟩)).elim
  |true=>
   obtain⟨y,hy,ey⟩:=AA6.1 hany;obtain⟨p,hp,ep⟩:=XW.1 hy;have hord:∃o,P9 l t.1=some o∧o.2.2.2.2=1∧∃p∈o.2.2.2.1,p.1=t.2.1:=⟨_,ho,v7,p,hp,ep.trans (AAS.1 ey)⟩;have hpod:∃q,XT a t.2.1=some q:=Xn ⟨_,ABW hj,ej⟩;rw[ABc,ABV];by_cases h1:t.2.2.2=1
   ·rw[show(t.2.2.2==1)=true from AAS.2 h1,ABU];exact⟨true,rfl,fun _=>⟨hord,hpod,fun e=>(e h1).elim⟩,fun _=>rfl⟩
   ·rw[show(t.2.2.2==1)=false from ABa.2 h1,ABV,cH];rcases Ws crew (by omega) t.2.2.1 n hn with⟨e1,xN⟩|⟨k,hk,ek,e1⟩
    ·rw[e1];refine⟨false,rfl,(fun e=>by cases e),fun hT=>?_⟩;obtain⟨r,q1,_⟩:=hT.cg h1;exact(xN r (Pr q1).1 (Pr q1).2).elim
    ·have vQ:=XX hc.ids hk;rw[ek]at vQ;rw[e1,ABT,show decide ((k:Int)≥0)=true by grind,ABU];simp only[O6 hk,ABT,Uu w h c ha hb.bk hsm crew ts st ou nw t ⟨o,ho⟩ hpod n hn]
     have hT:Ts a l crew t↔crew[k].2.2.1=TB a l t∧crew[k].2.2.2.1=decide (2<t.2.2.2):=by
      constructor
      ·intro hT;obtain⟨r,q1,q2,q3⟩:=hT.cg h1;grind
      ·rintro ⟨q2,q3⟩
       exact⟨hord,hpod,fun _=>⟨_,vQ,q2,q3⟩⟩
     rw[hT];by_cases hgo:crew[k].2.2.1=TB a l t
     ·rw[show(crew[k].2.2.1==TB a l t)=true from AAS.2 hgo,ABU];exact⟨crew[k].2.2.2.1==decide (2<t.2.2.2),rfl,fun q=>⟨hgo,AAS.1 q⟩,fun q=>AAS.2 q.2⟩
     ·rw[show(crew[k].2.2.1==TB a l t)=false from ABa.2 hgo];exact⟨false,rfl,(fun e=>by cases e),fun hh=>(hgo hh.1).elim⟩
theorem Wg(l:List Int)(hl:l.length≤1048576)(n:Nat)(hn:PD≤n):∃b,Sf n l=some b∧(b=true↔Tk l):=by
 unfold Sf;by_cases h51:l.length=51
 case neg=>
  rw[show(((l.length:Nat):Int) != 51)=true from ABz.2 (by omega)];exact⟨false,rfl,(fun e=>by cases e),fun q=>(h51 q.1).elim⟩
 have h0:0<l.length:=by omega
 rw[show(((l.length:Nat):Int) != 51)=false by rw[h51];rfl,ABV,show(0:Int)=((0:Nat):Int)from rfl,O6 h0,ABT,ABT];by_cases hz:l[0]=0
 case neg=>
  rw[show(l[0] != ((0:Nat):Int))=true from ABz.2 hz];refine⟨false,rfl,(fun e=>by cases e),fun q=>?_⟩;have:=q.2.2;grind
 rw[show(l[0] != ((0:Nat):Int))=false by rw[hz];rfl,ABV]
 have h1:=Q4 (SL l) l (fun x=>Ps x 0 1000000) (fun i x hi hx=>by
  have vh:l[i]=x:=by rw[AAF hi]at hx;exact Option.some.inj hx
  unfold SL;rw[show decide ((i:Int)<(l.length:Int))=true by rw[AAb];omega,ABU,O6 hi,ABT,vh,P8,ABT,O5 hi (show l.length≤9223372036854775807 by omega)];grind) (by unfold SL;simp) n (by unfold PD at hn;omega)
 rw[show((0:Nat):Int)=0 from rfl,h1];refine⟨l.all fun x=>Ps x 0 1000000,by grind,?_⟩;rw[AAU];constructor
 ·intro q;exact⟨h51,fun x hx=>Sx.1 (q x hx),by grind⟩
 ·intro q x hx;exact Sx.2 (q.2.1 x hx)
theorem Sz(w h:Int)(c:List Int)(hc:c.length≤1048576)(a:List PF)(ha:PU a)(nx:Int)(l:List Pf)(hl:BG nx l)(crew:List Pc)(hcr:crew.length≤1048576)(ts:List PW)(hts:ts.length≤1048576)(st ou:List Int)(v7:st.length≤1048576)(hou:ou.length≤1048576)(nw:Int)(n:Nat)(hn:PD≤n):
  ∃b,Rr n w h c a nx l crew ts st ou nw=some b∧(b=true↔mH w h c a nx l crew ts st ou nw):=by
 obtain⟨k1,f1,i1⟩:=Wg st v7 n hn;obtain⟨k2,f2,i2⟩:=Wg ou hou n hn;unfold Rr;rw[Pp w h c hc n hn,Pq a ha n hn,hl.spec n hn,UP w h c hc crew hcr n hn,Xy ts hts n hn,f1,f2];simp only[ABT,P8];have no:∀ {P:Prop},¬P→∃b,(some false:Option Bool)=some b∧(b=true↔P):=fun hp=>⟨false,rfl,(fun e=>by cases e),fun q=>(hp q).elim⟩;cases e1:PS w h c with
 |false=>exact no fun d=>by rw[d.fl]at e1;cases e1
 |true=>
 cases e2:Pl a with
 |false=>exact no fun d=>by rw[Pk.2 d.oh]at e2;cases e2
 |true=>
 cases e4:SQ w h c crew with
 |false=>exact no fun d=>by rw[Uh.2 ⟨d.fl,d.cw⟩]at e4;cases e4
 |true=>
 cases e5:SO ts with
 |false=>exact no fun d=>by rw[VZ.2 d.XA]at e5;cases e5
 |true=>
 cases e6:k1 with
 |false=>exact no fun d=>by rw[i1.2 d.c1]at e6;cases e6
 |true=>
 cases e7:k2 with
 |false=>exact no fun d=>by rw[i2.2 d.c2]at e7;cases e7
 |true=>
 cases e8:Ps nw 0 1000000 with
 |false=>exact no fun d=>by rw[Sx.2 d.now]at e8;cases e8
 |true=>
 have hS:=Pk.1 e2;have hC:=(Uh.1 e4).2;have hT:=VZ.1 e5;have hgood:=(Qa.1 hT).2.1;simp only[ABc,ABV,ABT]
 let val:Nat→Bool:=fun i=>match ts[i]? with
  |some t=>(S3 n w h c a nx l crew ts st ou nw t.1 t.2.1 t.2.2.1 t.2.2.2).getD false
  |none=>false
 have wM:∀i (hi:i<ts.length),S3 n w h c a nx l crew ts st ou nw ts[i].1 ts[i].2.1 ts[i].2.2.1 ts[i].2.2.2=some (val i)∧(val i=true↔Ts a l crew ts[i]):=fun i hi=>by obtain⟨b,e,ib⟩:=aK w h c hS hl hC ts st ou nw (hgood _ (ABW hi)) n hn;grind
 have h1:=P0 (Ta n w h c a nx l crew ts st ou nw) (fun k=>(k:Int)) ts.length val (fun i hi=>by
  unfold Ta;rw[show decide ((i:Int)<(ts.length:Int))=true by rw[AAb];clear hn;omega,ABU,O6 hi,ABT,(wM i hi).1,ABT,O5 hi (show ts.length≤9223372036854775807 by clear hn;omega)];grind) (by unfold Ta;simp) n (by unfold PD at hn;omega)
 rw[show((0:Nat):Int)=0 from rfl]at h1;rw[h1];refine⟨(List.range ts.length).all val,by grind,?_⟩;rw[AAU];constructor
 ·intro q;refine⟨e1,hS,hl.bk,hC,hT,i1.1 e6,i2.1 e7,Sx.1 e8,fun t ht=>?_⟩;obtain⟨i,hi,rfl⟩:=ABY.1 ht;grind
 ·intro d i hi;have hi:=AAR.1 hi;exact(wM i hi).2.2 (d.tk _ (ABW hi))
structure DZ(c:List Int)(a:List PF)(crew:List Pc)(ts:List PW)(st ou:List Int):Prop where
 c1:c.length≤1048576
 a1:PU a
 r1:crew.length≤1000000
 t1:ts.length≤1000000
 s1:st.length≤1000000
 o1:ou.length≤1000000
theorem DI.z{w h:Int}{c:List Int}{a:List PF}{nx:Int}{l:List Pf}{crew:List Pc}{ts:List PW}(d:DI w h c a nx l crew ts){st ou:List Int}(h1:Tk st)(h2:Tk ou):DZ c a crew ts st ou:=by have q1:=(Ve d.fl).le;have q2:=d.cw.aX;have q3:=(Qa.1 d.XA).1;have q4:=h1.1;have q5:=h2.1;exact⟨by omega,d.st.sm,by omega,by omega,by omega,by omega⟩
theorem Tf(w h:Int){c:List Int}{a:List PF}{nx:Int}{l:List Pf}(hl:QZ (nx,l)){crew:List Pc}{ts:List PW}{st ou:List Int}(z:DZ c a crew ts st ou)(nw:Int)(n:Nat)(hn:PD≤n):Rt n w h c a nx l crew ts st ou nw=some (w,h,c,a,nx,l,crew,ts,st,ou,nw):=by obtain⟨c1,a1,r1,t1,s1,o1⟩:=z;unfold Rt;rw[YW w h c c1,ABT,PL a a1 n hn,ABT,R6 nx l hl n hn,ABT,UL (by grind),UL (by grind),UL (by grind),UL (by grind)];rfl
theorem ZP(w h:Int){c:List Int}{a:List PF}{nx:Int}{l:List Pf}(hl:QZ (nx,l)){crew:List Pc}{ts:List PW}{st ou:List Int}(z:DZ c a crew ts st ou)(nw:Int)(n:Nat)(hn:PD≤n):WR n w h c a nx l crew ts st ou nw=some (w,h,c,a,nx,l,crew,ts,st,ou,nw):=by obtain⟨c1,a1,r1,t1,s1,o1⟩:=z;unfold WR TD YC TE;rw[ZQ w h c c1,ABT,Pz a a1 n hn,ABT,Uj nx l hl n hn,ABT,UL (by omega),UL (by omega),UL (by omega),UL (by omega)];rfl
theorem az(w h:Int)(c:List Int)(hl:c.length≤1048576)(hf:PS w h c=true)(i:Int)(n:Nat)(hn:PD≤n):Wu n w h c i=some (bif Ps i 0 ((c.length:Int)-1)then c.getD i.toNat 0 else 0):=by
 unfold Wu Sh;rw[Pp w h c hl n hn,hf,show O9 ((c.length:Int)-1)=(c.length:Int)-1 from PC (by omega) (by omega)];simp only[P8,ABT,ABc,ABV,ABU];cases hb:Ps i 0 ((c.length:Int)-1)with
 |false=>rfl
 |true=>
  obtain⟨m,rfl,hm⟩:=YF hb;simp[O6 hm,hm]
theorem iw{c:List Int}{i:Int}(h:(bif Ps i 0 ((c.length:Int)-1)then c.getD i.toNat 0 else 0)=3):QC c i=true:=by unfold QC;grind
theorem BG.opened{nx:Int}{l:List Pf}(h:BG nx l):BG nx (Qs l):=by
 have hm:∀o∈Qs l,o∈l:=fun o ho=>by unfold Qs at ho;grind
 obtain⟨b1,b2,b3,b4⟩:=h.bk;exact⟨⟨b1,by unfold Qs;grind,by unfold Qs;grind,fun o ho=>b4 o (hm o ho)⟩,fun o ho=>h.KN o (hm o ho),fun o ho=>h.aw o (hm o ho)⟩
theorem cP{nx:Int}{l:List Pf}(h:BG nx l)(n:Nat)(hn:PD≤n):We n nx l=some (nx,Qs l):=by
 have hlen:=h.bk.2.1;have hsm:=h.sm;unfold We;rw[h.spec n hn,ABT]
 have hc:=PQ (σ:=List Pf) (VE l) (fun i s=>((i:Int),nx,s)) l (fun r s=>((l.length:Int),nx,s++Qs r)) (fun i s=>s.length≤i)
  (fun s hs=>by simp[VE,Qs]) (fun i y r s h1 h2 h3 h4 h5=>by
   left;have hy:l[i]=y:=by rw[AAF h1]at h2;exact Option.some.inj h2
   unfold VE;dsimp only;rw[show decide ((i:Int)<(l.length:Int))=true by simpa using h1,ABU,O6 h1,hy,ABT,O5 h1 (by omega)];cases hq:(y.2.2.2.2==1)with
   |true=>
    have hyo:Zc y:=hsm.2 y (by rw[←hy];exact ABW h1)
    have yE:Pn y.1 y.2.1 y.2.2.1 y.2.2.2.1 y.2.2.2.2=some y:=by have q1:=hyo.1;have q2:=hyo.2;unfold Pn;rw[UL (by simp;unfold fX at q1;clear hn;omega),UL (by simp;unfold fY at q2;clear hn;omega)];rfl
    rw[ABU,ABT,yE,ABT];have hr:decide (s.length+1≤Dh)=true:=R3 (by omega);simp only[ABb,hr,ABU,ABT];exact⟨s++[y],rfl,by rw[AA2,ABb];omega,by simp[Qs,hq]⟩
   |false=>
    rw[ABV,ABT];exact⟨s,rfl,by omega,by simp[Qs,hq]⟩)
  n (by unfold PD at hn;omega) [] (by simp)
 grind
theorem BG.impl{nx:Int}{l:List Pf}(h:BG nx l)(n:Nat)(hn:PD≤n):Q7 n nx l=some true:=by obtain⟨b,e,ib⟩:=Vf h.sm n hn;rw[e,ib.2 h.bk]
theorem bd{nx:Int}{l:List Pf}(h:BG nx l)(n:Nat)(hn:PD≤n):Xg n nx l=some (nx,Qs l):=by
 have hlen:=h.bk.2.1;have hsm:=h.sm;unfold Xg;rw[h.impl n hn,ABT]
 have hc:=PQ (σ:=List Pf) (U2 l) (fun i s=>((i:Int),nx,s)) l (fun r s=>((l.length:Int),nx,s++Qs r)) (fun i s=>s.length≤i)
  (fun s hs=>by simp[U2,Qs]) (fun i y r s h1 h2 h3 h4 h5=>by
   left;have hy:l[i]=y:=by rw[AAF h1]at h2;exact Option.some.inj h2
   unfold U2;dsimp only;rw[show decide ((i:Int)<(l.length:Int))=true by simpa using h1,ABU,O6 h1,hy,ABT,O5 h1 (by omega)];cases hq:(y.2.2.2.2==1)with
   |true=>
    rw[ABU,UH y (hsm.2 y (by rw[←hy];exact ABW h1)),ABT];have hr:decide (s.length+1≤Dh)=true:=R3 (by omega);simp only[ABb,hr,ABU,ABT];exact⟨s++[y],rfl,by rw[AA2,ABb];omega,by simp[Qs,hq]⟩
   |false=>
    rw[ABV,ABT];exact⟨s,rfl,by omega,by simp[Qs,hq]⟩)
  n (by unfold PD at hn;omega) [] (by simp)
 grind
theorem cI(s:List PF)(hs:PU s){nx:Int}{l:List Pf}(hb:BG nx l)(h30:l.length=30)(desk:Int)(it:List PV)(n:Nat)(hn:PD≤n):Sa n s nx l desk it=some (s,nx,l,0):=by unfold Sa;rw[R6 nx l hb.sm n hn,ABT,Pq s hs n hn,hb.spec n hn];simp only[ABT,P8,PL s hs n hn];grind
theorem bW(s:List PF)(hs:PU s){nx:Int}{l:List Pf}(hb:BG nx l)(h30:l.length=30)(desk:Int)(it:List PV)(xw:it.length≤1000)(n:Nat)(hn:PD≤n):Tt n s nx l desk it=some (s,nx,l,0):=by unfold Tt;rw[QL s hs n hn,hb.impl n hn];simp only[ABT,Uf,P8,Pz s hs n hn,Uj nx l hb.sm n hn,RP it (show it.length≤1048576 by clear hn;omega) n hn];grind
theorem XO(nx:Int){l:List Pf}(hsm:QZ (nx,l))(hp:l.Pairwise fun a b=>a.1<b.1){i:Nat}(hi:i<l.length)(n:Nat)(hn:PD≤n):UD n nx l l[i].1=some (l[i].1,l[i].2.1,l[i].2.2.1,l[i].2.2.2.1,l[i].2.2.2.2,true):=by unfold UD;rw[YQ nx l hsm.1 hp i hi n hn,ABT,show decide ((i:Int)<0)=false by grind,ABV,O6 hi,ABT,UH l[i] (hsm.2 _ (ABW hi)),ABT]
def jg(w h:Int)(c:List Int)(a:List PF)(nx:Int)(l:List Pf)(crew:List Pc)(ts:List PW)(st ou:List Int)(nw desk:Int)(it:List PV)(r:Int×Int×List Int×List PF×Int×List Pf×List Pc×List PW×List Int×List Int×Int×Int):Prop:=
 r=(w,h,c,a,nx,l,crew,ts,st,ou,nw,0)∨∃o l',(l'=l∨l'=Qs l)∧l'.length≤29∧mH w h c a nx l crew ts st ou nw∧dP a nx l' desk it o∧QC c desk=true∧(bif Ps desk 0 ((c.length:Int)-1)then c.getD desk.toNat 0 else 0)=3∧ts.length+(SZ o).length≤60∧
  r=(w,h,c,Pg a (tp o),nx+1,l'++[(nx,desk,it,o,1)],crew,ts++(SZ o).map (fun x=>(nx,x,(0:Int),(1:Int))),st,ou,nw,nx)
theorem iX(w h:Int){c:List Int}{a:List PF}{nx:Int}{l:List Pf}(hb:BG nx l){crew:List Pc}{ts:List PW}{st ou:List Int}(z:DZ c a crew ts st ou)(nw desk:Int)(it:List PV)(xw:it.length≤1000)(n:Nat)(hn:PD≤n):
  ∃r,Yl n w h c a nx l crew ts st ou nw desk it=some r∧de n w h c a nx l crew ts st ou nw desk it=some r∧jg w h c a nx l crew ts st ou nw desk it r:=by
 obtain⟨b1,e1,i1⟩:=Sz w h c z.c1 a z.a1 nx l hb crew (by have:=z.r1;omega) ts (by have:=z.t1;omega) st ou (by have:=z.s1;omega) (by have:=z.o1;omega) nw n hn;obtain⟨b2,e2,i2⟩:=XL w h c z.c1 a z.a1 nx l hb.sm crew (by have:=z.r1;omega) ts (by have:=z.t1;omega) st ou (by have:=z.s1;omega) (by have:=z.o1;omega) nw n hn;have hbb:b1=b2:=by grind
 subst hbb;have hl30:=hb.bk.2.1;unfold Yl de;rw[Tf w h hb.sm z nw n hn,ZP w h hb.sm z nw n hn,ABT,ABT,e1,e2];dsimp only;have VU:∃r,(some (w,h,c,a,nx,l,crew,ts,st,ou,nw,(0:Int)):Option (Int×Int×List Int×List PF×Int×List Pf×List Pc×List PW×List Int×List Int×Int×Int))=some r∧(some (w,h,c,a,nx,l,crew,ts,st,ou,nw,(0:Int)):Option (Int×Int×List Int×List PF×Int×List Pf×List Pc×List PW×List Int×List Int×Int×Int))=some r∧jg w h c a nx l crew ts st ou nw desk it r:=⟨_,rfl,rfl,.inl rfl⟩;cases b1 with
 |false=>exact VU
 |true=>
 have D:=i1.1 rfl;simp only[ABT,ABc,ABV];rw[az w h c z.c1 D.fl desk n hn,ai w h c z.c1 D.fl desk n hn,ABT,ABT];generalize hk:(bif Ps desk 0 ((c.length:Int)-1)then c.getD desk.toNat 0 else 0)=kd;by_cases h3:kd=3
 case neg=>
  grind
 rw[show(kd != 3)=false by rw[h3];rfl];simp only[ABT,ABV]
 obtain⟨l',uz,th,hsw1,hsw2⟩:∃l',(l'=l∨l'=Qs l)∧BG nx l'∧(bif((l.length:Int)==30)then(We n nx l).bind fun x6=>some (x6.1,x6.2)else some (nx,l))=some (nx,l')∧(bif decide ((l.length:Int)≥30)then(Xg n nx l).bind fun x6=>some (x6.1,x6.2)else some (nx,l))=some (nx,l'):=by
  by_cases h30:l.length=30
  ·refine⟨Qs l,.inr rfl,hb.opened,?_,?_⟩
   ·rw[show((l.length:Int)==30)=true by rw[AAS];clear hn;omega,ABU,cP hb n hn];rfl
   ·rw[show decide ((l.length:Int)≥30)=true by rw[AAb];clear hn;omega,ABU,bd hb n hn];rfl
  grind
 rw[hsw1,hsw2,ABT,ABT];dsimp only;by_cases h29:l'.length≤29
 case neg=>
  have h30:l'.length=30:=by have:=th.bk.2.1;clear hn;omega
  rw[cI a z.a1 th h30 desk it n hn,bW a z.a1 th h30 desk it xw n hn];exact VU
 have hq:mh nx l':=⟨th.sm,h29,th.KN,fun _=>th.aw⟩;obtain⟨r,a1,a2,a3⟩:=eZ a z.a1 hq desk it xw n hn;rw[a1,a2,ABT,ABT];rcases a3 with rfl|⟨o,T,rfl⟩
 ·exact VU
 unfold oY;dsimp only;have hnx:=T.bk.1;have tX:=T.lt;have yV:=T.book h29;have h72:=T.aw;have h6:=T.im.2.2;have hsm2:QZ (nx+1,l'++[(nx,desk,it,o,1)]):=fZ th.sm (by omega) (nx,desk,it,o,1) (by omega) (by grind);have hli:l'.length<(l'++[(nx,desk,it,o,1)]).length:=by rw[AA2,ABb];exact Nat.lt_succ_self _
 have tv:(l'++[((nx,desk,it,o,1):Pf)])[l'.length]?=some (nx,desk,it,o,1):=by rw[AA3 (AAd _),Nat.sub_self];rfl
 have hgetE:(l'++[((nx,desk,it,o,1):Pf)])[l'.length]=(nx,desk,it,o,1):=by rw[AAF hli]at tv;exact Option.some.inj tv
 have hoo:=XO (nx+1) hsm2 yV.2.2.1 hli n hn;rw[hgetE]at hoo;dsimp only at hoo;have hw:O9 (((l'++[((nx,desk,it,o,1):Pf)]).length:Int)-1)=(l'.length:Int):=by rw[AA2,ABb,PC (by omega) (by omega)];clear hn;omega
 have hpo:o.length≤1048576:=by clear hn;omega
 have t1:=a9 (nx,desk,it,o,1) hpo n hn;have t2:=al (nx,desk,it,o,1) hpo n hn;dsimp only at t1 t2
 have wC:(SZ o).length≤72:=by have:=XV o [];unfold SZ;simp only[List.length_nil]at this;clear hn;omega
 have h60:=(Qa.1 D.XA).1;rw[show(nx==0)=false by grind,ABV,ABV,hw,PA hli,ABU,ABX,tv];simp only[ABT,hoo,t1,t2];rw[ABB,PC (n:=(ts.length:Int)+((SZ o).length:Int)) (by omega) (by omega)];by_cases hle:ts.length+(SZ o).length≤60
 case neg=>
  grind
 rw[show decide ((ts.length:Int)+((SZ o).length:Int)>60)=false by grind,ABV,UL (by omega)];exact⟨_,rfl,rfl,.inr ⟨o,l',uz,h29,D,T,iw (hk.trans h3),hk.trans h3,hle,rfl⟩⟩
theorem cO(a:List PF)(hs:PU a)(PJ k m:Int)(n:Nat)(hn:PD≤n):Xp n a PJ k m=some (Ym a PJ k m):=by
 unfold Xp Ym;rw[Xk a hs PJ k m n hn,ABT];by_cases hc:Py a PJ k m=0
 ·obtain⟨ha,hk,hm,i,hi,e1,e2,e3⟩:=Qd hc;have v7:=(ha.2.2 _ (ABW hi)).2.2;obtain⟨b1,b2,b3,b4,b5⟩:=T1 v7 k;rw[←e3]at b1 b2 b3 b4 b5;have h8:=v7.2.2;rw[AAM (show ¬Py a PJ k m≠0 by simp[hc]),AAM (show ¬Py a PJ k m≠0 by simp[hc])];dsimp only;rw[show((0:Int) != 0)=false from rfl,ABV,PC (n:=(SE a PJ k).2.1+m) (by omega) (by omega),e1,O6 hi,ABT];have hlen:eS a PJ=a[i].2.2.length:=by unfold eS;grind
  rw[hlen];by_cases hgt:(SE a PJ k).2.1+m>1000
  ·rw[ABZ hgt,AAK (.inl hgt)];simp only[ABU,ABT,PL a hs n hn]
  ·rw[ABd hgt,ABV];by_cases hz:(SE a PJ k).2.1=0
   ·rw[show((SE a PJ k).2.1==0)=true from AAS.2 hz,ABU];by_cases h8e:a[i].2.2.length=8
    ·rw[AAK (.inr ⟨hz,h8e⟩),show((a[i].2.2.length:Int)==8)=true by rw[AAS];clear hn;omega];simp only[ABU,ABT,PL a hs n hn]
    ·rw[AAM (by omega),show((a[i].2.2.length:Int)==8)=false by rw[ABa];clear hn;omega];simp only[ABV,ABT,Yg ha hi,Yg ha hi _ _ _ n hn,e2,b5]
   ·rw[show((SE a PJ k).2.1==0)=false from ABa.2 hz,ABV,AAM (by omega)];simp only[ABV,ABT,Yg ha hi _ _ _ n hn,e2,b5]
 ·rw[AAK hc,AAK hc];dsimp only;rw[show(Py a PJ k m != 0)=true by grind,ABU,PL a hs n hn];rfl
def lY(w h:Int)(c:List Int)(a:List PF)(nx:Int)(l:List Pf)(crew:List Pc)(ts:List PW)(st ou:List Int)(nw PJ k m:Int)(r:Int×Int×List Int×List PF×Int×List Pf×List Pc×List PW×List Int×List Int×Int×Int):Prop:=
 (∃e,e≠0∧r=(w,h,c,a,nx,l,crew,ts,st,ou,nw,e))∨(mH w h c a nx l crew ts st ou nw∧(Ym a PJ k m).2=0∧st.getD k.toNat 0+m≤1000000∧r=(w,h,c,(Ym a PJ k m).1,nx,l,crew,ts,st.set k.toNat (st.getD k.toNat 0+m),ou,nw,0))
theorem mF{a:List PF}{PJ k m:Int}(h:(Ym a PJ k m).2=0):(1≤k∧k≤50)∧(1≤m∧m≤1000):=by obtain⟨_,h1,h2,_⟩:=Qd (jP h);omega
theorem aE(w h:Int){c:List Int}{a:List PF}{nx:Int}{l:List Pf}(hb:BG nx l){crew:List Pc}{ts:List PW}{st ou:List Int}(z:DZ c a crew ts st ou)(nw PJ k m:Int)(n:Nat)(hn:PD≤n):
  ∃r,V0 n w h c a nx l crew ts st ou nw PJ k m=some r∧lY w h c a nx l crew ts st ou nw PJ k m r:=by
 obtain⟨b1,e1,i1⟩:=Sz w h c z.c1 a z.a1 nx l hb crew (by have:=z.r1;omega) ts (by have:=z.t1;omega) st ou (by have:=z.s1;omega) (by have:=z.o1;omega) nw n hn;unfold V0;rw[Tf w h hb.sm z nw n hn,ABT,e1,ABT];dsimp only;cases b1 with
 |false=>exact⟨_,rfl,.inl ⟨1,by omega,rfl⟩⟩
 |true=>
 have D:=i1.1 rfl;rw[ABc,ABV,cO a z.a1 PJ k m n hn,ABT];by_cases h0:(Ym a PJ k m).2=0
 case neg=>
  rw[show((Ym a PJ k m).2 != 0)=true from ABz.2 h0];exact⟨_,rfl,.inl ⟨_,h0,rfl⟩⟩
 obtain⟨⟨k1,k2⟩,m1,m2⟩:=mF h0;have h51:=D.c1.1;have hk:k.toNat<st.length:=by clear hn;omega
 have hgi:M8 st k=some (st.getD k.toNat 0):=by obtain⟨j,rfl⟩:∃j:Nat,k=(j:Int):=⟨k.toNat,by omega⟩;rw[ABX]at hk ⊢;rw[O6 hk];simp[hk]
 have wA:=D.c1.ob.getD (by omega) k.toNat;have hw:O9 (st.getD k.toNat 0+m)=st.getD k.toNat 0+m:=PC (by omega) (by omega);rw[show((Ym a PJ k m).2 != 0)=false by rw[h0];rfl,ABV,hgi,ABT,hw];by_cases hle:st.getD k.toNat 0+m≤1000000
 ·rw[show decide (st.getD k.toNat 0+m>1000000)=false by grind,ABV,ABT,YG ⟨by omega,by omega⟩,ABU,Pw,hw];exact⟨_,rfl,.inr ⟨D,h0,hle,rfl⟩⟩
 ·rw[show decide (st.getD k.toNat 0+m>1000000)=true by rw[AAb];clear hn;omega];exact⟨_,rfl,.inl ⟨4,by omega,rfl⟩⟩
theorem Zf{a:List PF}(ha:PO a){nx:Int}{l:List Pf}(hb:BG nx l){id:Int}{o:Pf}(ho:P9 l id=some o)(n:Nat)(hn:PD≤n):
  VG n a nx l id=some (bif(o.2.2.2.2==1)&&(Rw Z5 a o.2.2.2.1).2 then((Rw Z5 a o.2.2.2.1).1,nx,Rm l id 3,true)else(a,nx,l,false)):=by
 have hsm:=hb.sm;obtain⟨i,hi,e1,e2,ef⟩:=YP hb.bk hsm ho n hn;have wC:o.2.2.2.1.length≤1048576:=(hsm.2 o (QK ho).1).2;unfold VG;rw[R6 nx l hsm n hn,ABT,ef,ABT,Pq a ha.sm n hn,Pk.2 ha,hb.spec n hn];simp only[ABT,ABc,ABV,show decide ((i:Int)<0)=false by grind,O6 hi,e1,PL a ha.sm n hn,Yo a ha.sm o.2.2.2.1 wC n hn];cases hs:(o.2.2.2.2==1)with
 |false=>
  grind
 |true=>
  rw[show(o.2.2.2.2 != 1)=false by grind,ABV,ABt];cases(Rw Z5 a o.2.2.2.1).2 with
  |false=>rfl
  |true=>simp only[ABc,ABV,PA hi,ABU,ABX,dn hb.bk.2.2.1 hi,e1,e2]
def Vb(id:Int):List PW→List PW×Int→Option (List PW×Int)
 | [],s=>some s
 |t::r,s=>if t.1≠id then Vb id r (s.1++[t],s.2)else if t.2.2.2≠1 then none else Vb id r (s.1,s.2+1)
theorem Yv(id:Int):∀(ts:List PW)(s:List PW×Int),(Vb id ts s=none∧∃t∈ts,t.1=id∧t.2.2.2≠1)∨(Vb id ts s=some (s.1++ts.filter (fun t => !(t.1==id)),s.2+((ts.filter fun t=>t.1==id).length:Int))∧∀t∈ts,t.1=id→t.2.2.2=1)
 | [],s=>.inr ⟨by simp[Vb],(fun t ht=>by cases ht)⟩
 |t::r,s=>by
  unfold Vb;by_cases h1:t.1=id
  ·rw[AAM (by simp[h1])];by_cases h2:t.2.2.2=1
   ·rw[AAM (by simp[h2])];rcases Yv id r (s.1,s.2+1)with⟨e,u,hu,hh⟩|⟨e,hh⟩
    ·exact .inl ⟨e,u,AAJ _ hu,hh⟩
    ·refine .inr ⟨?_,fun u hu=>?_⟩
     ·rw[e,ABu,ABu,show(t.1==id)=true from AAS.2 h1];simp;omega
     ·rcases AAZ.1 hu with rfl|hu
      ·exact fun _=>h2
      ·exact hh u hu
   grind
  ·rw[AAK h1];rcases Yv id r (s.1++[t],s.2)with⟨e,u,hu,hh⟩|⟨e,hh⟩
   all_goals grind
theorem cQ(ts:List PW)(hts:ts.length≤1000000)(id:Int)(w h:Int)(c:List Int)(a:List PF)(nx:Int)(l:List Pf)(crew:List Pc)(us:List PW)(st ou:List Int)(nw:Int)(n:Nat)(hn:PD≤n):
  iter n (UM ts id) (0,[],0,0,0,[],[],0,[],[],[],[],[],0,w,h,c,a,nx,l,crew,us,st,ou,nw)=some (match Vb id ts ([],0)with
   |none=>.inr (w,h,c,a,nx,l,crew,us,st,ou,nw,false)
   |some s=>.inl (s.2,s.1,(ts.length:Int),0,0,[],[],0,[],[],[],[],[],0,w,h,c,a,nx,l,crew,us,st,ou,nw)):=by
 refine PQ (σ:=List PW×Int) (UM ts id) (fun i s=>(s.2,s.1,(i:Int),0,0,[],[],0,[],[],[],[],[],0,w,h,c,a,nx,l,crew,us,st,ou,nw)) ts (fun q s=>match Vb id q s with
   |none=>.inr (w,h,c,a,nx,l,crew,us,st,ou,nw,false)
   |some s=>.inl (s.2,s.1,(ts.length:Int),0,0,[],[],0,[],[],[],[],[],0,w,h,c,a,nx,l,crew,us,st,ou,nw)) (fun i s=>s.1.length≤i∧0≤s.2∧s.2≤(i:Int)) (fun s _=>?_) (fun i t q s hi hx _ _ hs=>?_) n (by unfold PD at hn;omega) ([],0) ⟨by simp,by simp,by simp⟩
 ·unfold UM Vb;grind
 ·have he:ts[i]=t:=by rw[AAF hi]at hx;exact Option.some.inj hx
  have hr:decide (s.1.length+[(t:PW)].length≤Dh)=true:=R3 (by omega);unfold UM;dsimp only;rw[show decide ((i:Int)<(ts.length:Int))=true by rw[AAb];clear hn;omega];simp only[ABU,O6 hi,he,ABT,O5 hi (show ts.length≤9223372036854775807 by omega)];by_cases h1:t.1=id
  ·rw[show(t.1 != id)=false by rw[h1];simp];by_cases h2:t.2.2.2=1
   ·left;refine⟨(s.1,s.2+1),?_,⟨by grind,by omega,by omega⟩,?_⟩
    ·rw[show(t.2.2.2 != 1)=false by rw[h2];rfl,PC (n:=s.2+1) (by omega) (by omega)];rfl
    ·rw[Vb,AAM (by simp[h1]),AAM (by simp[h2])]
   ·right;rw[show(t.2.2.2 != 1)=true from ABz.2 h2,Vb,AAM (by simp[h1]),AAK h2];rfl
  ·left;refine⟨(s.1++[t],s.2),?_,⟨by grind,hs.2.1,by omega⟩,?_⟩
   ·grind
   ·rw[Vb,AAK h1]
structure jc(w h:Int)(c:List Int)(a:List PF)(nx:Int)(l:List Pf)(crew:List Pc)(ts:List PW)(st ou:List Int)(nw id:Int)(o:Pf):Prop where
 ok:mH w h c a nx l crew ts st ou nw
 ord:P9 l id=some o
 sG:o.2.2.2.2=1
 rr:∀t∈ts,t.1=id→t.2.2.2=1
 num:(SZ o.2.2.2.1).length≤(ts.filter fun t=>t.1==id).length
 rel:(Rw Z5 a o.2.2.2.1).2=true
abbrev je:=Int×Int×List Int×List PF×Int×List Pf×List Pc×List PW×List Int×List Int×Int×Bool
def jd(w h:Int)(c:List Int)(a:List PF)(nx:Int)(l:List Pf)(crew:List Pc)(ts:List PW)(st ou:List Int)(nw id:Int)(r:je):Prop:=
 (r=(w,h,c,a,nx,l,crew,ts,st,ou,nw,false)∧∀o,¬jc w h c a nx l crew ts st ou nw id o)∨(∃o,jc w h c a nx l crew ts st ou nw id o∧
  r=(w,h,c,(Rw Z5 a o.2.2.2.1).1,nx,Rm l id 3,crew,ts.filter (fun t => !(t.1==id)),st,ou,nw,true))
theorem dI(w h:Int){c:List Int}{a:List PF}{nx:Int}{l:List Pf}(hb:BG nx l){crew:List Pc}{ts:List PW}{st ou:List Int}(z:DZ c a crew ts st ou)(nw id:Int)(n:Nat)(hn:PD≤n):
  ∃r,Yi n w h c a nx l crew ts st ou nw id=some r∧jd w h c a nx l crew ts st ou nw id r:=by
 obtain⟨b1,e1,i1⟩:=Sz w h c z.c1 a z.a1 nx l hb crew (by have:=z.r1;omega) ts (by have:=z.t1;omega) st ou (by have:=z.s1;omega) (by have:=z.o1;omega) nw n hn;unfold Yi;rw[Tf w h hb.sm z nw n hn,ABT,e1];dsimp only;have VU:(∀o,¬jc w h c a nx l crew ts st ou nw id o)→∃r,(some (w,h,c,a,nx,l,crew,ts,st,ou,nw,false):Option je)=some r∧jd w h c a nx l crew ts st ou nw id r:=fun xN=>⟨_,rfl,.inl ⟨rfl,xN⟩⟩;cases ho:P9 l id with
 |none=>
  have hm:∀x∈l,x.1≠id:=fun x hx e=>by unfold P9 at ho;grind
  have hf:=Vt nx l hb.sm.1 id hm n hn;rw[ZD]at hf;rw[hf];cases b1<;>exact VU fun o q=>by have:=q.ord;grind
 |some o=>
  obtain⟨i,hi,e2,e3,ef⟩:=YP hb.bk hb.sm ho n hn;rw[ef,ABT];cases b1 with
  |false=>exact VU fun o q=>by have:=i1.2 q.ok;cases this
  |true=>
  have D:=i1.1 rfl;have wC:o.2.2.2.1.length≤1048576:=(hb.sm.2 o (QK ho).1).2;simp only[ABT,ABc,ABV,show decide ((i:Int)<0)=false by rw[AAf];clear hn;omega];rw[cQ ts z.t1 id w h c a nx l crew ts st ou nw n hn,ABT,Zf D.oh hb ho n hn];rcases Yv id ts ([],0)with⟨e,t,ht,ht1,ht2⟩|⟨e,hw⟩
  ·rw[e];exact VU fun o q=>ht2 (q.rr t ht ht1)
  ·rw[e];dsimp only;rw[ABT,AA4,AB3];cases hq:((o.2.2.2.2==1)&&(Rw Z5 a o.2.2.2.1).2)with
   |false=>
    refine VU fun o2 q=>?_;have:=q.ord;rw[ho]at this;injection this with this
    subst this;rw[q.sG,q.rel]at hq;cases hq
   |true=>
    have xk:=Bool.and_eq_true_iff.1 hq;dsimp only[cond_true];simp only[ABc,ABV,O6 hi,e2,ABT,Wc o.2.2.2.1 wC n hn];by_cases tX:(SZ o.2.2.2.1).length≤(ts.filter fun t=>t.1==id).length
    ·rw[show decide ((((ts.filter fun t=>t.1==id).length:Nat):Int)<((SZ o.2.2.2.1).length:Int))=false by rw[AAf];clear hn;omega];exact⟨_,rfl,.inr ⟨o,⟨D,ho,AAS.1 xk.1,hw,tX,xk.2⟩,rfl⟩⟩
    ·rw[show decide ((((ts.filter fun t=>t.1==id).length:Nat):Int)<((SZ o.2.2.2.1).length:Int))=true by rw[AAb];clear hn;omega];refine VU fun o2 q=>?_;have:=q.ord;rw[ho]at this;injection this with this
     subst this;exact tX q.num
abbrev ea:=Int→Int→List Int→List PF→Int→List Pf→List Pc→List PW→List Int→List Int→Prop
structure dO(Q:ea):Prop where
 di:∀ {w h:Int} {c:List Int} {a:List PF} {nx:Int} {l:List Pf} {crew:List Pc} {ts:List PW} {st ou:List Int},Q w h c a nx l crew ts st ou→DI w h c a nx l crew ts∧Tk st∧Tk ou
 new:∀ {w h:Int} {c:List Int} {a:List PF},Yr w h c a=true→Q w h c a 1 [] (Rn (Po c) (min (Po c).length 20)) [] (RO a 50) (List.replicate 51 0)
 iO:∀ {w h:Int} {c:List Int} {a:List PF} {nx:Int} {l:List Pf} {crew:List Pc} {ts:List PW} {st ou:List Int},Q w h c a nx l crew ts st ou→Q w h c a nx (Qs l) crew ts st ou
 take:∀ {w h:Int} {c:List Int} {a:List PF} {nx:Int} {l:List Pf} {crew:List Pc} {ts:List PW} {st ou:List Int} {desk:Int} {it:List PV} {o:List D2},Q w h c a nx l crew ts st ou→dP a nx l desk it o→QC c desk=true→l.length≤29→ts.length+(SZ o).length≤60→
  Q w h c (Pg a (tp o)) (nx+1) (l++[(nx,desk,it,o,1)]) crew (ts++(SZ o).map fun x=>(nx,x,(0:Int),(1:Int))) st ou
 back:∀ {w h:Int} {c:List Int} {a:List PF} {nx:Int} {l:List Pf} {crew:List Pc} {ts:List PW} {st ou:List Int} {id:Int} {o:Pf},Q w h c a nx l crew ts st ou→P9 l id=some o→(∀t∈ts,t.1=id→t.2.2.2=1)→(SZ o.2.2.2.1).length≤(ts.filter fun t=>t.1==id).length→
  Q w h c (Rw Z5 a o.2.2.2.1).1 nx (Rm l id 3) crew (ts.filter fun t => !(t.1==id)) st ou
 rest:∀ {w h:Int} {c:List Int} {a:List PF} {nx:Int} {l:List Pf} {crew:List Pc} {ts:List PW} {st ou:List Int} {PJ k m:Int},Q w h c a nx l crew ts st ou→(Ym a PJ k m).2=0→st.getD k.toNat 0+m≤1000000→Q w h c (Ym a PJ k m).1 nx l crew ts (st.set k.toNat (st.getD k.toNat 0+m)) ou
 tick:∀ {w h:Int} {c:List Int} {a:List PF} {nx:Int} {l:List Pf} {crew:List Pc} {ts:List PW} {st ou:List Int} {crew2:List Pc},Q w h c a nx l crew ts st ou→CW c crew2→crew2.length=(sendAll a crew ts (QO w h c a crew ts)).1.length→
  (∀k (h1:k<(sendAll a crew ts (QO w h c a crew ts)).1.length) (h2:k<crew2.length),crew2[k].1=(sendAll a crew ts (QO w h c a crew ts)).1[k].1∧crew2[k].2.2.1=(sendAll a crew ts (QO w h c a crew ts)).1[k].2.2.1∧crew2[k].2.2.2.1=(sendAll a crew ts (QO w h c a crew ts)).1[k].2.2.2.1)→
  Q w h c (Q5 a ou l crew2 (sendAll a crew ts (QO w h c a crew ts)).2).1 nx (Q5 a ou l crew2 (sendAll a crew ts (QO w h c a crew ts)).2).2.2.1 (Q5 a ou l crew2 (sendAll a crew ts (QO w h c a crew ts)).2).2.2.2.1 (Q5 a ou l crew2 (sendAll a crew ts (QO w h c a crew ts)).2).2.2.2.2 st (Q5 a ou l crew2 (sendAll a crew ts (QO w h c a crew ts)).2).2.1
def QI:ea:=fun w h c a nx l crew ts st ou=>DI w h c a nx l crew ts∧Tk st∧Tk ou
theorem jY(a:List PF):Tk (RO a 50)∧Tk (List.replicate 51 0):=by
 refine⟨⟨W9 a 50,fun x hx=>?_,?_⟩,by simp,fun x hx=>?_,by simp⟩
 ·obtain⟨i,hi,rfl⟩:=ABY.1 hx;have hi2:=hi;rw[W9]at hi2;have:=fg a (show i≤50 by omega);rw[AAF hi]at this;rw[Option.some.inj this];have hb:=fy a (i:Int);cases decide (1≤i)
  ·rw[ABV];omega
  ·rw[ABU];omega
 ·rw[fg a (by omega)];rfl
 grind
theorem Tk.rest{st:List Int}(h:Tk st){a:List PF}{PJ k m:Int}(hc:(Ym a PJ k m).2=0)(hm:st.getD k.toNat 0+m≤1000000):Tk (st.set k.toNat (st.getD k.toNat 0+m)):=by obtain⟨⟨k1,k2⟩,m1,m2⟩:=mF hc;have hb:=h.ob.getD (by omega) k.toNat;exact h.set (by omega) ⟨by omega,hm⟩
theorem mx:dO QI where
 di:=fun h=>h
 new:=fun h=>⟨DI.new h,jY _⟩
 iO:=fun h=>⟨h.1.iO,h.2⟩
 take:=fun h T hd h29 hl=>⟨h.1.take T hd h29 hl,h.2⟩
 back:=fun h _ _ _=>⟨h.1.back _ _,h.2⟩
 rest:=fun h hc hm=>⟨h.1.lP _ _ _,h.2.1.rest hc hm,h.2.2⟩
 tick:=fun {w h c a nx l crew ts st ou crew2} q hc hl hs=>by
  have zG:c.length≤1048576:=by have:=(Ve q.1.fl).le;omega
  have hd:=er zG q.1.fl a crew ts;have da:=(q.1.oV hd (Zb hd.n1 hd.n2)).rZ hc hl hs;exact⟨da.Q5 ou,q.2.1,DI.cY (sendAll a crew ts (QO w h c a crew ts)).2 (a,ou,crew2,[],[]) da q.2.2⟩
theorem jb{Q:ea}(K:dO Q)(n:Nat)(hn:PD+1000≤n){w h:Int}{c:List Int}{a:List PF}{nx:Int}{l:List Pf}{crew:List Pc}{ts:List PW}{st ou:List Int}{nw:Int}(q:Q w h c a nx l crew ts st ou)(hnw:0≤nw∧nw≤900000)(i:Int)(hi:0≤i∧i≤5):
  Ok (iter n (Vh n) (i,w,h,c,a,nx,l,crew,ts,st,ou,nw)) fun x=>Q x.2.1 x.2.2.1 x.2.2.2.1 x.2.2.2.2.1 x.2.2.2.2.2.1 x.2.2.2.2.2.2.1 x.2.2.2.2.2.2.2.1 x.2.2.2.2.2.2.2.2.1 x.2.2.2.2.2.2.2.2.2.1 x.2.2.2.2.2.2.2.2.2.2.1∧0≤x.2.2.2.2.2.2.2.2.2.2.2∧x.2.2.2.2.2.2.2.2.2.2.2≤nw+6:=by
 refine Ok.iter (fun k x=>(x.1+1=(k:Int))∧x.1≤5∧Q x.2.1 x.2.2.1 x.2.2.2.1 x.2.2.2.2.1 x.2.2.2.2.2.1 x.2.2.2.2.2.2.1 x.2.2.2.2.2.2.2.1 x.2.2.2.2.2.2.2.2.1 x.2.2.2.2.2.2.2.2.2.1 x.2.2.2.2.2.2.2.2.2.2.1∧0≤x.2.2.2.2.2.2.2.2.2.2.2∧x.2.2.2.2.2.2.2.2.2.2.2+x.1≤nw+5) (fun k x hx=>?_) (k:=(i+1).toNat) ⟨by show i+1=_;clear hn;omega,hi.2,q,hnw.1,by show nw+i≤nw+5;clear hn;omega⟩ (by unfold PD at hn;omega);obtain⟨xi,w,h,c,a,nx,l,crew,ts,st,ou,xn⟩:=x;obtain⟨h1,h5,hq,h3,h4⟩:=hx;dsimp only at h1 h5 hq h3 h4;unfold Vh;dsimp only;refine Ok.cond (fun hb=>?_) fun hb=>Ok.pure (.inr ⟨_,rfl,hq,h3,?_⟩)
 ·have hb:=AAq hb;obtain⟨d,c1,c2⟩:=K.di hq;obtain⟨crew2,a1,a2,a3,_,ev⟩:=aL d st c2 xn n hn;have q2:=K.tick hq a1 a2 a3;generalize Q5 a ou l crew2 (sendAll a crew ts (QO w h c a crew ts)).2=E at q2 ev;rw[ev,ABT];dsimp only;have hw:O9 (xn+1)=xn+1:=PC (by clear hn;omega) (by clear hn;omega);have hw2:O9 (xi-1)=xi-1:=PC (by clear hn;omega) (by clear hn;omega);rw[hw,hw2];refine Ok.pure (.inl ⟨_,rfl,k-1,⟨?_,?_,q2,?_,?_⟩,by clear hn;omega⟩)
  ·show xi-1+1=_;clear hn;omega
  ·show xi-1≤5;clear hn;omega
  ·show 0≤xn+1;clear hn;omega
  ·show xn+1+(xi-1)≤_;clear hn;omega
 grind
def QD(Q:ea)(M:Int)(x:Int×Int×List Int×List PF×Int×List Pf×List Pc×List PW×List Int×List Int×Int):Prop:=Q x.1 x.2.1 x.2.2.1 x.2.2.2.1 x.2.2.2.2.1 x.2.2.2.2.2.1 x.2.2.2.2.2.2.1 x.2.2.2.2.2.2.2.1 x.2.2.2.2.2.2.2.2.1 x.2.2.2.2.2.2.2.2.2.1∧0≤x.2.2.2.2.2.2.2.2.2.2∧x.2.2.2.2.2.2.2.2.2.2≤M
theorem QD.take{Q:ea}(K:dO Q){w h:Int}{c:List Int}{a:List PF}{nx:Int}{l:List Pf}{crew:List Pc}{ts:List PW}{st ou:List Int}{nw M desk:Int}{it:List PV}(q:QD Q M (w,h,c,a,nx,l,crew,ts,st,ou,nw)){r:Int×Int×List Int×List PF×Int×List Pf×List Pc×List PW×List Int×List Int×Int×Int}(hr:jg w h c a nx l crew ts st ou nw desk it r):
  QD Q M (r.1,r.2.1,r.2.2.1,r.2.2.2.1,r.2.2.2.2.1,r.2.2.2.2.2.1,r.2.2.2.2.2.2.1,r.2.2.2.2.2.2.2.1,r.2.2.2.2.2.2.2.2.1,r.2.2.2.2.2.2.2.2.2.1,r.2.2.2.2.2.2.2.2.2.2.1):=by
 rcases hr with rfl|⟨o,l',hl,h29,_,T,hf,_,hle,rfl⟩
 ·exact q
 ·refine⟨?_,q.2⟩;rcases hl with rfl|rfl
  ·exact K.take q.1 T hf h29 hle
  ·exact K.take (K.iO q.1) T hf h29 hle
theorem QD.back{Q:ea}(K:dO Q){w h:Int}{c:List Int}{a:List PF}{nx:Int}{l:List Pf}{crew:List Pc}{ts:List PW}{st ou:List Int}{nw M id:Int}(q:QD Q M (w,h,c,a,nx,l,crew,ts,st,ou,nw)){r:je}(hr:jd w h c a nx l crew ts st ou nw id r):
  QD Q M (r.1,r.2.1,r.2.2.1,r.2.2.2.1,r.2.2.2.2.1,r.2.2.2.2.2.1,r.2.2.2.2.2.2.1,r.2.2.2.2.2.2.2.1,r.2.2.2.2.2.2.2.2.1,r.2.2.2.2.2.2.2.2.2.1,r.2.2.2.2.2.2.2.2.2.2.1):=by
 rcases hr with⟨rfl,_⟩|⟨o,B,rfl⟩
 ·exact q
 ·exact⟨K.back q.1 B.ord B.rr B.num,q.2⟩
theorem QD.rest{Q:ea}(K:dO Q){w h:Int}{c:List Int}{a:List PF}{nx:Int}{l:List Pf}{crew:List Pc}{ts:List PW}{st ou:List Int}{nw M PJ k m:Int}(q:QD Q M (w,h,c,a,nx,l,crew,ts,st,ou,nw)){r:Int×Int×List Int×List PF×Int×List Pf×List Pc×List PW×List Int×List Int×Int×Int}(hr:lY w h c a nx l crew ts st ou nw PJ k m r):
  QD Q M (r.1,r.2.1,r.2.2.1,r.2.2.2.1,r.2.2.2.2.1,r.2.2.2.2.2.1,r.2.2.2.2.2.2.1,r.2.2.2.2.2.2.2.1,r.2.2.2.2.2.2.2.2.1,r.2.2.2.2.2.2.2.2.2.1,r.2.2.2.2.2.2.2.2.2.2.1):=by
 rcases hr with⟨e,_,rfl⟩|⟨_,h0,hm,rfl⟩
 ·exact q
 ·exact⟨K.rest q.1 h0 hm,q.2⟩
theorem gL{Q:ea}(K:dO Q)(n:Nat)(hn:PD+1000≤n){b:List Int}{i q:Int}(hcu:Cu b i)(M:Int)(hM:M≤1000):Ok (V7 n b i q M) fun x=>QD Q 6000 (x.1,x.2.1,x.2.2.1,x.2.2.2.1,x.2.2.2.2.1,x.2.2.2.2.2.1,x.2.2.2.2.2.2.1,x.2.2.2.2.2.2.2.1,x.2.2.2.2.2.2.2.2.1,x.2.2.2.2.2.2.2.2.2.1,x.2.2.2.2.2.2.2.2.2.2.1)∧Cu x.2.2.2.2.2.2.2.2.2.2.2.1 x.2.2.2.2.2.2.2.2.2.2.2.2.1:=by
 have hB:PD≤n:=AAw (AB7 _ _) hn;unfold V7;refine(fC n hB hcu).bind fun x hx=>?_;obtain⟨w,h,c,a,b',i',q',hnew,hcu',rfl⟩:=hx;have q0:=K.new hnew;generalize Rn (Po c) (min (Po c).length 20)=cw0 at q0 ⊢;generalize RO a 50=st0 at q0 ⊢;generalize List.replicate 51 (0:Int)=ze0 at q0 ⊢;dsimp only;obtain⟨m0,i1,q1,em,hi1,hm0,hm1⟩:=br b' i' q' hcu'.2 hcu'.1 M;rw[em,ABT];dsimp only;have hm2:m0≤1000:=by clear hn hB;omega
 have hm3:0≤6*(1000-m0):=by clear hn hB;omega
 have hfuel:m0.toNat<n:=by unfold PD at hB;omega
 have hinit:m0=(m0.toNat:Int):=by clear hn hB;omega
 have qinit:QD Q (6*(1000-m0)) (w,h,c,a,1,[],cw0,[],st0,ze0,0):=⟨q0,ACJ _,hm3⟩;refine Ok.bind (P:=fun x=>QD Q 6000 x.2.2.2.2∧Cu x.2.1 x.2.2.1) (Ok.iter (fun k x=>x.1=(k:Int)∧QD Q (6*(1000-x.1)) x.2.2.2.2∧Cu x.2.1 x.2.2.1∧x.1≤1000) (fun k x hx=>?_) (k:=m0.toNat) ⟨hinit,qinit,⟨hcu'.1,hi1⟩,hm2⟩ hfuel) fun x hx=>Ok.pure hx;obtain⟨k1,qd,hc,k2⟩:=hx;obtain⟨xi,xb,xj,xq,w,h,c,a,nx,l,crew,ts,st,ou,nw⟩:=x;dsimp only at k1 qd hc k2;have hqd:=qd.2;dsimp only at hqd;unfold Xz;dsimp only;refine Ok.cond (fun hb=>?_) fun hb=>Ok.pure (.inr ⟨_,rfl,⟨qd.1,hqd.1,?_⟩,hc⟩)
 case _=>
  have hb:=AAq hb;have hw1:O9 (xi-1)=xi-1:=PC (by clear hn hB;omega) (by clear hn hB;omega);obtain⟨d,c1,c2⟩:=K.di qd.1;dsimp only at d c1 c2;have z:=d.z c1 c2;have up:∀ {y:Int×Int×List Int×List PF×Int×List Pf×List Pc×List PW×List Int×List Int×Int},QD Q (6*(1000-xi)) y→QD Q (6*(1000-(xi-1))) y:=fun g=>⟨g.1,g.2.1,by have:=g.2.2;clear hn hB;omega⟩;refine Ok.bind (P:=fun z=>QD Q (6*(1000-(xi-1))) z.2.2.2∧Cu z.1 z.2.1) ((Px hc 8).bind fun r hr=>?_) fun z hz=>Ok.pure (.inl ⟨_,rfl,k-1,⟨?_,?_,hz.2,?_⟩,by clear hn hB;omega⟩)
  ·refine Ok.bind (P:=fun _=>True) (Ok.cond (fun _=>Ok.pure trivial) fun _=>Ok.pure trivial) fun v _=>?_;refine Ok.cond (fun _=>?_) fun _=>Ok.cond (fun _=>?_) fun _=>Ok.cond (fun _=>?_) fun _=>?_
   ·refine(gK n hB hr.1 w h c d.fl).bind fun s hs=>(ix n hB hs).bind fun t ht=>?_;obtain⟨y,e1,_,hR⟩:=iX w h d.bg z nw s.1 t.1 (by have:=ht.1;clear hn hB;omega) n hB;rw[e1];exact Ok.pure ⟨up (qd.take K hR),ht.2⟩
   ·refine(Px hr.1 6).bind fun s hs=>?_;obtain⟨y,e1,hR⟩:=dI w h d.bg z nw (O9 (1+s.1)) n hB;rw[e1];exact Ok.pure ⟨up (qd.back K hR),hs.1⟩
   ·refine(Px hr.1 8).bind fun s hs=>(Px hs.1 5).bind fun s2 w5=>(Px w5.1 4).bind fun s3 hs3=>?_;obtain⟨y,e1,hR⟩:=aE w h d.bg z nw (O9 (1+s.1)) (O9 (1+s2.1)) (O9 (1+s3.1)) n hB;rw[e1];exact Ok.pure ⟨up (qd.rest K hR),hs3.1⟩
   ·refine(Px hr.1 6).bind fun s hs=>?_;refine(jb K n hn qd.1 ⟨hqd.1,by clear hn hB;omega⟩ s.1 ⟨hs.2.1,by have:=hs.2.2 (by omega);clear hn hB;omega⟩).bind fun y hy=>Ok.pure ⟨⟨hy.1,hy.2.1,?_⟩,hs.1⟩;have:=hy.2.2;dsimp only;clear hn hB;omega
  ·show O9 (xi-1)=_;rw[hw1];clear hn hB;omega
  ·show QD Q (6*(1000-O9 (xi-1))) _;rw[hw1];exact hz.1
  ·show O9 (xi-1)≤1000;rw[hw1];clear hn hB;omega
 grind
structure BZ(m:Nat)(c:List Int)(a:List PF)(crew:List Pc)(ts:List PW)(st ou:List Int):Prop where
 c1:c.length≤1048576
 a1:a.length≤m∧∀p∈a,p.2.2.length≤m
 r1:crew.length≤m
 t1:ts.length≤m
 s1:st.length≤m
 o1:ou.length≤m
theorem BZ.z{m:Nat}(hm:m≤1000000){c:List Int}{a:List PF}{crew:List Pc}{ts:List PW}{st ou:List Int}(b:BZ m c a crew ts st ou):DZ c a crew ts st ou:=by
 obtain⟨c1,⟨a1,a2⟩,r1,t1,s1,o1⟩:=b;exact⟨c1,⟨by show a.length≤1048576;omega,fun p hp=>by have:=a2 p hp;show p.2.2.length≤1048576;omega⟩,by omega,by omega,by omega,by omega⟩
theorem BZ.more{m:Nat}{c:List Int}{a:List PF}{crew:List Pc}{ts:List PW}{st ou:List Int}(b:BZ m c a crew ts st ou)(k:Nat)(hk:m≤k):BZ k c a crew ts st ou:=by
 obtain⟨c1,⟨a1,a2⟩,r1,t1,s1,o1⟩:=b;exact⟨c1,⟨by omega,fun p hp=>by have:=a2 p hp;omega⟩,by omega,by omega,by omega,by omega⟩
theorem DI.o3{w h:Int}{c:List Int}{a:List PF}{nx:Int}{l:List Pf}{crew:List Pc}{ts:List PW}(d:DI w h c a nx l crew ts){st ou:List Int}(h1:Tk st)(h2:Tk ou):BZ 100 c a crew ts st ou:=by
 have q1:=(Ve d.fl).le;have q2:=d.cw.aX;have q3:=(Qa.1 d.XA).1;have q4:=h1.1;have q5:=h2.1;have q6:=d.st.1;exact⟨by omega,⟨by omega,fun p hp=>by have:=(d.st.2.2 p hp).2.2.2.2;omega⟩,by omega,by omega,by omega,by omega⟩
theorem gJ(n:Nat)(hn:PD≤n){b:List Int}{i q:Int}(hcu:Cu b i)(m:Nat)(hm:m≤900)(w h:Int){c:List Int}{a:List PF}{nx:Int}{l:List Pf}(hb:BG nx l){crew:List Pc}{ts:List PW}{st ou:List Int}(z:BZ m c a crew ts st ou)(hs:1≤st.length)(ho:1<ou.length)(nw:Int):
  Ok (V5 n b i q w h c a nx l crew ts st ou nw) fun x=>BZ (m+1) x.2.2.1 x.2.2.2.1 x.2.2.2.2.2.2.1 x.2.2.2.2.2.2.2.1 x.2.2.2.2.2.2.2.2.1 x.2.2.2.2.2.2.2.2.2.1∧(x.1=w∧x.2.1=h∧x.2.2.1=c∧x.2.2.2.2.1=nx∧x.2.2.2.2.2.1=l)∧Cu x.2.2.2.2.2.2.2.2.2.2.2.1 x.2.2.2.2.2.2.2.2.2.2.2.2.1:=by
 have z2:=z.more (m+1) (by omega);obtain⟨c1,a1,r1,t1,s1,o1⟩:=z2;have st1:=z.t1;unfold V5;rw[Tf w h hb.sm (z.z (by omega)) nw n hn,ABT];dsimp only;have i1:Ob ou 1=true:=YG ⟨by omega,by clear hn;omega⟩;refine Ok.bind (P:=fun x=>BZ (m+1) x.2.2.2.2.2.1 x.2.2.2.2.2.2.1 x.2.2.2.2.2.2.2.2.2.1 x.2.2.2.2.2.2.2.2.2.2.1 x.2.2.2.2.2.2.2.2.2.2.2.1 x.2.2.2.2.2.2.2.2.2.2.2.2.1∧(x.2.2.2.1=w∧x.2.2.2.2.1=h∧x.2.2.2.2.2.1=c∧x.2.2.2.2.2.2.2.1=nx∧x.2.2.2.2.2.2.2.2.1=l)∧Cu x.1 x.2.1) ((Px hcu 10).bind fun r hr0=>Ok.cond (fun _=>?_) fun _=>Ok.cond (fun _=>?_) fun _=>Ok.cond (fun _=>?_) fun _=>Ok.cond (fun _=>?_) fun _=>Ok.cond (fun _=>?_) fun _=>Ok.cond (fun _=>?_) fun _=>Ok.cond (fun _=>?_) fun _=>Ok.pure ⟨⟨c1,a1,r1,t1,s1,o1⟩,⟨rfl,rfl,rfl,rfl,rfl⟩,hr0.1⟩) fun x hx=>Ok.pure hx
 ·refine(gS m (by clear hn;omega) n hn hr0.1 a z.a1.1 z.a1.2).bind fun y hy=>Ok.pure ⟨⟨c1,⟨?_,fun p hp=>?_⟩,r1,t1,s1,o1⟩,⟨rfl,rfl,rfl,rfl,rfl⟩,hy.2⟩
  ·have:=hy.1.1;have:=z.a1.1;show y.1.length≤m+1;clear hn;omega
  ·have:=hy.1.2 p hp;clear hn;omega
 ·refine(jB hr0.1 crew (by have:=z.r1;clear hn;omega)).bind fun y hy=>Ok.pure ⟨⟨c1,a1,?_,t1,s1,o1⟩,⟨rfl,rfl,rfl,rfl,rfl⟩,hy.2⟩;show y.1.length≤_;rw[hy.1];exact r1
 ·refine Ok.guard i1 ((Ok.get (by show Int.toNat 1<ou.length;exact ho)).bind fun v hv=>(ok_int hr0.1 (by simp)).bind fun u hu=>Ok.guard i1 (Ok.pure ⟨⟨c1,a1,r1,t1,s1,?_⟩,⟨rfl,rfl,rfl,rfl,rfl⟩,hu.1⟩));show(Cb ou _ _).length≤_;rw[Pw,List.length_set];exact o1
 ·refine(Px hr0.1 3).bind fun u hu=>(Px hu.1 3).bind fun v hv=>Ok.guard (R3 (by clear hn;omega)) (Ok.pure ⟨⟨c1,a1,r1,?_,s1,o1⟩,⟨rfl,rfl,rfl,rfl,rfl⟩,hv.1⟩);show(ts++[_]).length≤_;rw[AA2,ABb];clear hn;omega
 ·refine Ok.cond (fun hb=>Ok.guard ?_ (Ok.pure ⟨⟨c1,a1,r1,?_,s1,o1⟩,⟨rfl,rfl,rfl,rfl,rfl⟩,hr0.1⟩)) fun _=>Ok.pure ⟨⟨c1,a1,r1,t1,s1,o1⟩,⟨rfl,rfl,rfl,rfl,rfl⟩,hr0.1⟩
  ·have hb:=AAq hb;simp only[AAG,AAb];clear hn;omega
  ·show(sub ts _ _).length≤_;unfold sub;rw[List.length_take,List.length_drop];clear hn;omega
 ·exact(ok_int hr0.1 (by simp)).bind fun u hu=>Ok.pure ⟨⟨c1,a1,r1,t1,s1,o1⟩,⟨rfl,rfl,rfl,rfl,rfl⟩,hu.1⟩
 ·refine Ok.guard ?_ (Ok.pure ⟨⟨c1,a1,r1,t1,?_,o1⟩,⟨rfl,rfl,rfl,rfl,rfl⟩,hr0.1⟩)
  ·simp only[AAG,AAb];clear hn;omega
  ·show(sub st _ _).length≤_;unfold sub;rw[List.length_take,List.length_drop];clear hn;omega
abbrev ru:=Int×Int×List Int×List PF×Int×List Pf×List Pc×List PW×List Int×List Int×Int
def BQ(x:ru):Prop:=BG x.2.2.2.2.1 x.2.2.2.2.2.1∧DZ x.2.2.1 x.2.2.2.1 x.2.2.2.2.2.2.1 x.2.2.2.2.2.2.2.1 x.2.2.2.2.2.2.2.2.1 x.2.2.2.2.2.2.2.2.2.1
theorem ke(k:Int):∀qs:List D2,(∀p∈qs,1≤p.2.2∧p.2.2≤1000)→RM k qs≤1000*(qs.length:Int)
 | [],_=>by simp[RM]
 |p::qs,hq=>by
  have a1:=ke k qs fun z hz=>hq z (AAJ _ hz);have a2:=hq p AAe;simp only[RM,ABG];cases(p.2.1==k)
  ·rw[ABV];omega
  ·rw[ABU];omega
theorem DK.wanted{a:List PF}{nx:Int}{l:List Pf}{crew:List Pc}{ts:List PW}(d:DK a nx l crew ts)(hb:BG nx l)(w h:Int)(c:List Int)(st ou:List Int)(nw PJ k:Int)(n:Nat)(hn:PD≤n):Wo n w h c a nx l crew ts st ou nw PJ k=some (Ug l ts PJ k):=by
 have h60:=d.XA.len;have hsm:=hb.sm
 have hc:=PQ (σ:=Int) (UK n nx l ts PJ k) (fun i s=>(s,(i:Int))) ts (fun r s=>(s+Ug l r PJ k,(ts.length:Int))) (fun i s=>0≤s∧s≤72000*(i:Int))
  (fun s hs=>by unfold UK;simp[Ug])
  (fun i t r s g1 g2 g3 g4 g5=>by
   left;have hti:ts[i]=t:=by rw[AAF g1]at g2;exact Option.some.inj g2
   have wJ:t∈ts:=by rw[←hti];exact ABW g1
   have hT:=d.tk t wJ;obtain⟨⟨s1,s4⟩,_⟩:=Xc ((Qa.1 d.XA).2.1 t wJ);obtain⟨o,ho,_,_⟩:=hT.ord;obtain⟨j,hj,ej,eo,_⟩:=YP hb.bk hsm ho n hn;have wa:=(QK ho).1;have hsmo:=hsm.2 _ wa;have hof:=XO nx hsm hb.bk.2.2.1 hj n hn;rw[ej,eo]at hof;have hpf:Pa l t=o.2.2.2.1.filter fun p=>p.1==t.2.1:=by unfold Pa;rw[ho]
   have hpall:∀p∈Pa l t,p.1=t.2.1:=fun p hp=>by rw[hpf]at hp;exact AAS.1 (ABq.1 hp).2
   have zl:=cD d.bk t
   have hlen:(Pa l t).length≤72:=by rw[hpf];exact AAw (ABs _ _) (hb.aw _ wa)
   unfold UK;dsimp only;rw[show decide ((i:Int)<(ts.length:Int))=true by rw[AAb];clear hn;omega,ABU,O6 g1,hti,ABT,hof,ABT,O5 g1 (show ts.length≤9223372036854775807 by clear hn;omega)];simp only[ABc,ABV,Uf,P8,ABT];by_cases hp:t.2.1=PJ
   case neg=>
    have hw0:Yu l PJ k t=0:=by
     unfold Yu;split
     ·exact kf _ _ _ fun p hpm e=>(hp ((hpall p hpm).symm.trans e)).elim
     ·rfl
    rw[show(t.2.1 != PJ)=true from ABz.2 hp];simp only[ABU,ABT];exact⟨s,rfl,⟨g5.1,by clear hn;omega⟩,by rw[Uw,hw0,AB3]⟩
   rw[show(t.2.1 != PJ)=false by rw[hp];exact bne_self_eq_false _];simp only[ABV,ABT];by_cases h3:t.2.2.2≤3
   ·rw[Sx.2 ⟨s1,h3⟩];simp only[ABc,ABV];have hpo:=aj o hsmo.2 PJ n hn;rw[←hp,←hpf,eo]at hpo;rw[←hp,hpo,ABT,bo k (Pa l t) hlen (fun p hpm=>(zl p hpm).2) s ⟨g5.1,by clear hn;omega⟩ n hn,ABT];have hw:Yu l t.2.1 k t=RM k (Pa l t):=by unfold Yu;rw[AAK h3,kg _ _ _ hpall]
    have wV:=WD k (Pa l t) fun p hpm=>(zl p hpm).2.1;have hub2:=ke k (Pa l t) fun p hpm=>(zl p hpm).2;exact⟨s+RM k (Pa l t),rfl,⟨by clear hn;omega,by clear hn;omega⟩,by rw[Uw,hw,AB0]⟩
   ·have hw0:Yu l PJ k t=0:=by unfold Yu;rw[AAM h3]
    rw[show Ps t.2.2.2 1 3=false by rw[←ABj,Sx];exact fun q=>h3 q.2];simp only[ABp,ABU,ABT];exact⟨s,rfl,⟨g5.1,by clear hn;omega⟩,by rw[Uw,hw0,AB3]⟩)
  n (by unfold PD at hn;omega) 0 ⟨by omega,by omega⟩
 unfold Wo;rw[show((0:Nat):Int)=0 from rfl]at hc;rw[hc,ABT,AB3]
theorem fk(PJ k:Int):∀qs:List D2,(∀p∈qs,1≤p.2.2∧p.2.2≤1000)→0≤tp qs PJ k∧tp qs PJ k≤1000*(qs.length:Int)
 | [],_=>by simp[tp]
 |p::qs,hq=>by
  have a1:=fk PJ k qs fun z hz=>hq z (AAJ _ hz);have a2:=hq p AAe;simp only[tp,ABG];split<;>omega
theorem dN(PJ k:Int)(x6:Int×Int×(List PV)×(List D2)×Int×Bool)(h72:x6.2.2.2.1.length≤72)(hN:∀p∈x6.2.2.2.1,1≤p.2.2∧p.2.2≤1000)(z:Int)(hz:0≤z∧z≤10000000)(n:Nat)(hn:PD≤n):iter n (Re PJ k x6) (z,0)=some (z+tp x6.2.2.2.1 PJ k,(x6.2.2.2.1.length:Int)):=by
 have hc:=PQ (σ:=Int) (Re PJ k x6) (fun i s=>(s,(i:Int))) x6.2.2.2.1 (fun r s=>(s+tp r PJ k,(x6.2.2.2.1.length:Int))) (fun i s=>0≤s∧s≤10000000+1000*(i:Int))
  (fun s hs=>by unfold Re;simp[tp])
  (fun i p r s g1 g2 g3 g4 g5=>by
   left;have hp:x6.2.2.2.1[i]=p:=by rw[AAF g1]at g2;exact Option.some.inj g2
   have hpN:=hN p (by rw[←hp];exact ABW g1);unfold Re;dsimp only;rw[show decide ((i:Int)<(x6.2.2.2.1.length:Int))=true by rw[AAb];clear hn;omega,ABU,PA g1,ABU,ABX,g2,ABT,P8,Sx.2 ⟨by clear hn;omega,hpN.2⟩,O5 g1 (show x6.2.2.2.1.length≤9223372036854775807 by clear hn;omega)];simp only[tp];by_cases e:p.1=PJ∧p.2.1=k
   ·rw[AAK e,show(p.1==PJ)=true from AAS.2 e.1,show(p.2.1==k)=true from AAS.2 e.2];simp only[ABU,ABT];rw[PC (n:=s+p.2.2) (by clear hn;omega) (by clear hn;omega)];exact⟨s+p.2.2,rfl,⟨by clear hn;omega,by clear hn;omega⟩,by rw[AB0]⟩
   ·rw[AAM e];refine⟨s,?_,⟨g5.1,by clear hn;omega⟩,by rw[AB3]⟩;by_cases e1:p.1=PJ
    ·rw[show(p.1==PJ)=true from AAS.2 e1,show(p.2.1==k)=false from ABa.2 fun q=>e ⟨e1,q⟩];rfl
    ·rw[show(p.1==PJ)=false from ABa.2 e1];rfl)
  n (by unfold PD at hn;omega) z ⟨hz.1,by clear hn;omega⟩
 rw[show((0:Nat):Int)=0 from rfl]at hc;exact hc
theorem DK.oa{a:List PF}{nx:Int}{l:List Pf}{crew:List Pc}{ts:List PW}(d:DK a nx l crew ts)(hb:BG nx l)(w h:Int)(c:List Int)(st ou:List Int)(nw PJ k:Int)(n:Nat)(hn:PD≤n):VJ n w h c a nx l crew ts st ou nw PJ k=some (Ug l ts PJ k):=by
 have h60:=d.XA.len;have hsm:=hb.sm
 have hc:=PQ (σ:=Int) (S4 n nx l ts PJ k) (fun i s=>(s,(i:Int))) ts (fun r s=>(s+Ug l r PJ k,(ts.length:Int))) (fun i s=>0≤s∧s≤72000*(i:Int))
  (fun s hs=>by unfold S4;simp[Ug])
  (fun i t r s g1 g2 g3 g4 g5=>by
   left;have hti:ts[i]=t:=by rw[AAF g1]at g2;exact Option.some.inj g2
   have wJ:t∈ts:=by rw[←hti];exact ABW g1
   have hT:=d.tk t wJ;obtain⟨⟨s1,s4⟩,_⟩:=Xc ((Qa.1 d.XA).2.1 t wJ);obtain⟨o,ho,_,_⟩:=hT.ord;obtain⟨j,hj,ej,eo,ef⟩:=YP hb.bk hsm ho n hn;have wa:=(QK ho).1;have h72:=hb.aw _ wa;have hsmo:=hsm.2 _ wa
   have hof:Rs n nx l t.1=some (o.1,o.2.1,o.2.2.1,o.2.2.2.1,o.2.2.2.2,true):=by have hil:o.2.2.1.length≤1048576:=hsmo.1;unfold Rs;rw[ef,ABT,show decide ((j:Int)<0)=false by rw[AAf];clear hn;omega,ABV,O6 hj,ABT,ej];unfold Pn;rw[UL (by simp;clear hn;omega),UL (by simp;clear hn;omega)];rfl
   have hN:∀p∈o.2.2.2.1,1≤p.2.2∧p.2.2≤1000:=fun p hp=>by
    obtain⟨_,_,⟨hI,_⟩,hpg,_⟩:=hb.bk.2.2.2 o wa;obtain⟨q1,y,hy,e⟩:=hpg.1 p hp;have hNy:=hI.2.1 y hy;have ht:=hpg.2 y hy;have hle:=eX (fun q hq=>(hpg.1 q hq).1) hp;rw[←e,ht]at hle;exact⟨q1,by clear hn;omega⟩
   have hwt:Yu l PJ k t=if t.2.2.2≤3 then(if t.2.1=PJ then tp o.2.2.2.1 PJ k else 0)else 0:=by unfold Yu Pa;rw[ho];dsimp only;rw[dt]
   unfold S4;dsimp only;rw[show decide ((i:Int)<(ts.length:Int))=true by rw[AAb];clear hn;omega,ABU,O6 g1,hti,ABT,O5 g1 (show ts.length≤9223372036854775807 by clear hn;omega)];by_cases hp:t.2.1=PJ
   case neg=>
    rw[show(t.2.1 != PJ)=true from ABz.2 hp];simp only[ABU,ABT];refine⟨s,rfl,⟨g5.1,by clear hn;omega⟩,?_⟩;rw[Uw,hwt,AAM hp];split<;>rw[AB3]
   rw[show(t.2.1 != PJ)=false by rw[hp];exact bne_self_eq_false _];simp only[ABV,ABT,P8];by_cases h3:t.2.2.2≤3
   ·rw[Sx.2 ⟨s1,h3⟩];simp only[ABc,ABV,hof,ABT];have wA:=fk PJ k o.2.2.2.1 hN;rw[dN PJ k (o.1,o.2.1,o.2.2.1,o.2.2.2.1,o.2.2.2.2,true) h72 hN s ⟨g5.1,by clear hn;omega⟩ n hn,ABT];exact⟨s+tp o.2.2.2.1 PJ k,rfl,⟨by clear hn;omega,by clear hn;omega⟩,by rw[Uw,hwt,AAK h3,AAK hp,AB0]⟩
   ·rw[show Ps t.2.2.2 1 3=false by rw[←ABj,Sx];exact fun q=>h3 q.2];simp only[ABp,ABU,ABT];exact⟨s,rfl,⟨g5.1,by clear hn;omega⟩,by rw[Uw,hwt,AAM h3,AB3]⟩)
  n (by unfold PD at hn;omega) 0 ⟨by omega,by omega⟩
 unfold VJ;rw[show((0:Nat):Int)=0 from rfl]at hc;rw[hc,ABT,AB3]
def mV(l:List Pf)(ts:List PW)(p:PF):Bool:=(List.range 50).all fun j=>iq p ((j+1:Nat):Int)==Ug l ts p.1 ((j+1:Nat):Int)
def WN(a:List PF)(l:List Pf)(ts:List PW)(i:Nat):Bool:=match a[i]? with
 |some p=>mV l ts p
 |none=>false
theorem bY{a:List PF}{nx:Int}{l:List Pf}{crew:List Pc}{ts:List PW}(d:DK a nx l crew ts)(hb:BG nx l)(w h:Int)(c:List Int)(st ou:List Int)(nw:Int)(n:Nat)(hn:PD≤n):WO n w h c a nx l crew ts st ou nw=some ((List.range a.length).all (WN a l ts)):=by
 have hl:=d.sk.1
 have h1:=P0 (Uy n w h c a nx l crew ts st ou nw) (fun k=>(k:Int)) a.length (WN a l ts) (fun i hi=>by
  have hm:=ABW hi;have v7:=(d.sk.2.2 _ hm).2.2
  have h2:=P0 (Uz n w h c a nx l crew ts st ou nw a[i]) (fun k=>((k+1:Nat):Int)) 50 (fun j=>iq a[i] ((j+1:Nat):Int)==Ug l ts a[i].1 ((j+1:Nat):Int)) (fun j hj=>by
   obtain⟨q,b,e,e1,e2⟩:=YY v7 a[i].1 a[i].2.1 ((j+1:Nat):Int) n hn;unfold Uz;dsimp only;rw[show decide (((j+1:Nat):Int)≤50)=true by rw[AAb];clear hn;omega,ABU,e,d.wanted hb w h c st ou nw _ _ n hn,PC (n:=((j+1:Nat):Int)+1) (by clear hn;omega) (by clear hn;omega)];simp only[ABT];cases b with
   |false=>
    have:iq a[i] ((j+1:Nat):Int)=0:=by unfold iq;rw[(e2 rfl).2]
    rw[this,ABV,ABT];simp only[bne];cases((0:Int)==Ug l ts a[i].1 ((j+1:Nat):Int))<;>rfl
   |true=>
    obtain⟨hq,_,ej⟩:=e1 rfl;simp only[ABU,O6 hq,ABT];have:iq a[i] ((j+1:Nat):Int)=a[i].2.2[q].2.2:=by unfold iq;rw[ej]
    rw[this];simp only[bne];cases(a[i].2.2[q].2.2==Ug l ts a[i].1 ((j+1:Nat):Int))<;>rfl) (by unfold Uz;simp) n (by unfold PD at hn;omega)
  rw[show((0+1:Nat):Int)=1 from rfl]at h2;unfold Uy;rw[show decide ((i:Int)<(a.length:Int))=true by rw[AAb];clear hn;omega,ABU,O6 hi,ABT,h2,ABT,O5 hi (show a.length≤9223372036854775807 by clear hn;omega)];have:WN a l ts i=(List.range 50).all fun j=>iq a[i] ((j+1:Nat):Int)==Ug l ts a[i].1 ((j+1:Nat):Int):=by unfold WN;rw[AAF hi];rfl
  rw[this];cases(List.range 50).all fun j=>iq a[i] ((j+1:Nat):Int)==Ug l ts a[i].1 ((j+1:Nat):Int)<;>rfl) (by unfold Uy;simp) n (by unfold PD at hn;omega)
 rw[show((0:Nat):Int)=0 from rfl]at h1;unfold WO;rw[h1];cases(List.range a.length).all (WN a l ts)<;>rfl
theorem cK{a:List PF}{nx:Int}{l:List Pf}{crew:List Pc}{ts:List PW}(d:DK a nx l crew ts)(hb:BG nx l)(w h:Int)(c:List Int)(st ou:List Int)(nw:Int)(n:Nat)(hn:PD≤n):Xo n w h c a nx l crew ts st ou nw=some ((List.range a.length).all (WN a l ts)):=by
 have hl:=d.sk.1
 have h1:=P0 (U9 n w h c a nx l crew ts st ou nw) (fun k=>(k:Int)) a.length (WN a l ts) (fun i hi=>by
  have hm:=ABW hi;have v7:=(d.sk.2.2 _ hm).2.2;have h8:=v7.2.2
  have h2:=P0 (VA n w h c a nx l crew ts st ou nw a[i]) (fun k=>((k+1:Nat):Int)) 50 (fun j=>iq a[i] ((j+1:Nat):Int)==Ug l ts a[i].1 ((j+1:Nat):Int)) (fun j hj=>by
   unfold VA;rw[show decide (((j+1:Nat):Int)≤50)=true by rw[AAb];clear hn;omega,ABU,YI a[i] (show a[i].2.2.length≤1048576 by clear hn;omega) ((j+1:Nat):Int) n hn,d.oa hb w h c st ou nw _ _ n hn,PC (n:=((j+1:Nat):Int)+1) (by clear hn;omega) (by clear hn;omega)];simp only[ABT];rw[show(PR a[i].2.2 ((j+1:Nat):Int)).2.2=iq a[i] ((j+1:Nat):Int)from rfl];simp only[bne];cases(iq a[i] ((j+1:Nat):Int)==Ug l ts a[i].1 ((j+1:Nat):Int))<;>rfl) (by unfold VA;simp) n (by unfold PD at hn;omega)
  rw[show((0+1:Nat):Int)=1 from rfl]at h2;unfold U9;rw[show decide ((i:Int)<(a.length:Int))=true by rw[AAb];clear hn;omega,ABU,O6 hi,ABT,h2,ABT,O5 hi (show a.length≤9223372036854775807 by clear hn;omega)];have:WN a l ts i=(List.range 50).all fun j=>iq a[i] ((j+1:Nat):Int)==Ug l ts a[i].1 ((j+1:Nat):Int):=by unfold WN;rw[AAF hi];rfl
  rw[this];cases(List.range 50).all fun j=>iq a[i] ((j+1:Nat):Int)==Ug l ts a[i].1 ((j+1:Nat):Int)<;>rfl) (by unfold U9;simp) n (by unfold PD at hn;omega)
 rw[show((0:Nat):Int)=0 from rfl]at h1;unfold Xo;rw[h1];cases(List.range a.length).all (WN a l ts)<;>rfl
theorem gM(n:Nat)(hn:PD+1000≤n)(code:List Int)(hl:code.length≤1048576):Ok (U8 n code) BQ:=by
 have hB:PD≤n:=AAw (AB7 _ _) hn;obtain⟨h0,e0⟩:=jz code hl n hB;obtain⟨r,e2,r0,r1⟩:=iy code hl 14 (by decide);unfold U8;refine Ok.bind (P:=BQ) ?_ fun x hx=>Ok.pure hx;unfold Xr;rw[e0,ABT,e2,ABT];refine(gL mx n hn (b:=code) (i:=0) ⟨hl,ACJ _⟩ r (by clear hn hB;omega)).bind fun x hx=>?_;obtain⟨w,h,c,a,nx,l,crew,ts,st,ou,nw,b',i',q'⟩:=x;obtain⟨⟨⟨d,c1,c2⟩,_⟩,hc⟩:=hx;dsimp only at d c1 c2 hc ⊢;have z:=d.o3 c1 c2;refine(Px hc 3).bind fun m hm=>?_;have hm3:=hm.2.2 (by decide);refine Ok.bind (P:=fun x=>BG x.2.2.2.2.2.1 x.2.2.2.2.2.2.1∧BZ 1000000 x.2.2.2.1 x.2.2.2.2.1 x.2.2.2.2.2.2.2.1 x.2.2.2.2.2.2.2.2.1 x.2.2.2.2.2.2.2.2.2.1 x.2.2.2.2.2.2.2.2.2.2.1) (Ok.iter (fun k x=>x.1=(k:Int)∧k≤2∧BG x.2.2.2.2.2.1 x.2.2.2.2.2.2.1∧BZ (102-k) x.2.2.2.1 x.2.2.2.2.1 x.2.2.2.2.2.2.2.1 x.2.2.2.2.2.2.2.2.1 x.2.2.2.2.2.2.2.2.2.1 x.2.2.2.2.2.2.2.2.2.2.1∧Cu x.2.2.2.2.2.2.2.2.2.2.2.2.1 x.2.2.2.2.2.2.2.2.2.2.2.2.2.1) (fun k x hx=>?_) (k:=m.1.toNat) ⟨?_,?_,d.bg,z.more _ ?_,hm.1⟩ ?_) fun x hx=>Ok.pure ⟨hx.1,hx.2.z (AAd _)⟩
 ·obtain⟨xi,w,h,c,a,nx,l,crew,ts,st,ou,nw,b',i',q'⟩:=x;obtain⟨k1,k2,hbg,hz,hcu⟩:=hx;dsimp only at k1 k2 hbg hz hcu;unfold X1;dsimp only;refine Ok.bind (P:=fun v=>v=true→0<xi∧1<ou.length∧1<st.length) (Ok.cond (fun h1=>Ok.cond (fun h2=>Ok.pure fun h3=>?_) fun _=>Ok.pure fun e=>by cases e) fun _=>Ok.pure fun e=>by cases e) fun v hv=>Ok.cond (fun hvt=>?_) fun _=>Ok.pure (.inr ⟨_,rfl,hbg,hz.more _ (by clear hn hB;omega)⟩)
  ·have h1:=AAq h1;have h2:=AAq h2;have h3:=AAq h3;clear hn hB;omega
  ·obtain⟨v1,v2,v3⟩:=hv hvt;refine(gJ n hB hcu (102-k) (by clear hn hB;omega) w h hbg hz (by clear hn hB;omega) v2 nw).bind fun y hy=>Ok.pure (.inl ⟨_,rfl,k-1,⟨?_,?_,?_,hy.1.more _ ?_,hy.2.2⟩,?_⟩)
   ·show O9 (xi-1)=_;rw[PC (by clear hn hB;omega) (by clear hn hB;omega)];clear hn hB;omega
   ·clear hn hB;omega
   ·obtain⟨_,_,_,e4,e5⟩:=hy.2.1;show BG y.2.2.2.2.1 y.2.2.2.2.2.1;rw[e4,e5];exact hbg
   ·clear hn hB;omega
   ·clear hn hB;omega
 ·show m.1=_;have:=hm.2.1;clear hn hB;omega
 ·clear hn hB;omega
 ·clear hn hB;omega
 ·unfold PD at hB;omega
theorem Z1(code:List Int)(hx:(r6 r7) code):∃n,YJ n code=some true:=by
 obtain⟨n,hn⟩:∃n,PD+1000≤n:=⟨_,AAd _⟩;have hB:PD≤n:=AAw (AB7 _ _) hn;refine⟨n,?_⟩;unfold YJ b7;rw[ABT];by_cases vH:(code.length:Int)>1048576
 ·rw[ABZ vH];rfl
 rw[ABd vH,ABV];obtain⟨⟨w,h,c,a,nx,l,crew,ts,st,ou,nw⟩,e0,hb,z⟩:=gM n hn code (by clear hn hB;omega);dsimp only at hb z;rw[e0,ABT];dsimp only;have r1:=AAw z.r1 (show 1000000≤1048576 by decide);have t1:=AAw z.t1 (show 1000000≤1048576 by decide);have s1:=AAw z.s1 (show 1000000≤1048576 by decide);have o1:=AAw z.o1 (show 1000000≤1048576 by decide);have hsm:WY (w,h,c,a,nx,l,crew,ts,st,ou,nw):=⟨z.c1,z.a1,hb.sm,r1,t1,s1,o1⟩;obtain⟨b1,e1,i1⟩:=Sz w h c z.c1 a z.a1 nx l hb crew r1 ts t1 st ou s1 o1 nw n hB;obtain⟨b2,e2,i2⟩:=XL w h c z.c1 a z.a1 nx l hb.sm crew r1 ts t1 st ou s1 o1 nw n hB;have hbb:b1=b2:=by rw[ABw,i1,i2]
 subst hbb;unfold Zv aF;rw[e1,e2];cases b1 with
 |false=>rfl
 |true=>
 have D:=i1.1 rfl;obtain⟨p,ep⟩:=cL (w,h,c,a,nx,l,crew,ts,st,ou,nw) hsm n hB;have ep2:=bZ (w,h,c,a,nx,l,crew,ts,st,ou,nw) hsm n hB;dsimp only at ep ep2;rw[ep2,ep,bY D.ot hb w h c st ou nw n hB,cK D.ot hb w h c st ou nw n hB];have e4:=bc (w,h,c,a,nx,l,crew,ts,st,ou,nw) hsm n hB;have e5:=cN (w,h,c,a,nx,l,crew,ts,st,ou,nw) hsm n hB;have e6:=eB (w,h,c,a,nx,l,crew,ts,st,ou,nw) hsm n hB;have e7:=eO (w,h,c,a,nx,l,crew,ts,st,ou,nw) hsm n hB;dsimp only at e4 e5 e6 e7;rw[e4,e5,e6,e7];generalize (List.range a.length).all (WN a l ts)=b2;generalize YR (w,h,c,a,nx,l,crew,ts,st,ou,nw)=b3;generalize l.all (bT ts)=b4;cases p<;>cases b2<;>cases b3<;>cases b4<;>rfl
end Go.Ev.N
