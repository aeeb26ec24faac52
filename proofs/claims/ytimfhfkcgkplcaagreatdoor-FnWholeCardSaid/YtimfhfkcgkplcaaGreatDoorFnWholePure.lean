/- A plain law. Conditions: none. -/
import Derived.Test.YtimfhfkcgkplcaaGreatDoorFnWholePureB
set_option linter.all false
namespace Go.Ev.N
open Go Go.Ev
variable {w h i nx nw:Int}{c next ou st:By}{crew:ADC}{a:It}{ts:AAH}{l:ADE}{f:ADD×Int->Option ((ADD×Int)⊕(ADD×Int))}{r:Int×Int×By×It×Int×ADE×ADC×AAH×By×By×Int×Int}
structure Next(c:By)(crew:ADN)(next:By):Prop where
 len:next.length=crew.length
 sx:∀k,0<=k->k<(crew.length:Int)->jB c (PU next k)
 D:∀a b,0<=a->a<(crew.length:Int)->0<=b->b<(crew.length:Int)->PU next a=PU next b->a=b
theorem step_loop{crew:ADN}(hcr:lZ c crew){fields:List By}(zg:mj w h c crew fields)(T:By)(hT:T.Perm (idx crew.length))(n:Nat)(hn:Pa+1000<=n):
  ∃(k k':Int) (next:By),iter n (S9 n T) (0,w,h,c,crew,List.replicate crew.length (-1))=some (k,w,h,c,crew,next)/\iter n (R4 n T) (0,w,h,c,crew,fields,List.replicate crew.length (-1))=some (k',w,h,c,crew,fields,next)/\Next c crew next:=by
 have hTl:T.length=crew.length:=by rw[hT.length_eq,Yh]
 have hB1:1048576<=n:=AA2 (AA2 (by decide:1048576<=Pa) (ACB _ _)) hn;have hn20:=hcr.n20
 obtain⟨z,y,⟨k,k',next,rfl,rfl,hN⟩,e1,e2⟩:=YO (f:=S9 n T) (g:=R4 n T)
  (λx y=>∃(k:Nat) (next:By),x=((k:Int),w,h,c,crew,next)/\y=((k:Int),w,h,c,crew,fields,next)/\k<=T.length/\next.length=crew.length/\(∀j,0<=j->j<(crew.length:Int)->PU next j = -1\/jB c (PU next j))/\Good c crew next/\∀j∈T.take k,0<=PU next j)
  (λz y=>∃(k k':Int) (next:By),z=(k,w,h,c,crew,next)/\y=(k',w,h,c,crew,fields,next)/\Next c crew next)
  (λx=>T.length-x.1.toNat) (λx y hR=>by
   obtain⟨k,next,rfl,rfl,hk,hlen,hvals,hg,hdone⟩:=hR;by_cases hk2:k=T.length
   ·subst hk2;refine .inl ⟨((T.length:Int),w,h,c,crew,next),((T.length:Int),w,h,c,crew,fields,next),by simp[S9],by simp[R4],_,_,next,rfl,rfl,?_⟩;rw[ABz]at hdone;have vW:∀j,0<=j->j<(crew.length:Int)->0<=PU next j:=λj h0 h1=>hdone j (hT.mem_iff.2 (Yi.2 ⟨h0,h1⟩))
    refine⟨hlen,λj h0 h1=>?_,λa b a0 a1 b0 b1 hab=>hg.D a b a0 a1 b0 b1 (vW a a0 a1) hab⟩;rcases hvals j h0 h1 with hv|hv
    ·have:=vW j h0 h1;omega
    ·exact hv
   ·right;have vh:k<T.length:=J
    have hx:T[k]?=some T[k]:=AAI vh;have hir:=Yi.1 (hT.mem_iff.1 (ABT vh));have htk:T.take (k+1)=T.take k++[T[k]]:=ABb vh;generalize T[k]=i at hx hir htk;have hd:decide ((k:Int)<(T.length:Int))=true:=by simpa using vh
    obtain⟨i1,i2,_⟩:=TV (out:=next) (v:=i) (by rw[hlen];exact hir);have hdec:T.length-((k+1:Nat):Int).toNat<T.length-(k:Int).toNat:=J
    by_cases hneg:PU next i<0
    ·have zo:ph c crew next i (-1):=⟨hlen,hir,hneg,hvals,hg.D,λj k j0 j1 k0 k1 h1 _=>hg.U j k j0 j1 k0 k1 h1,λk k0 k1 hk=>absurd hk (hg.U i k hir.1 hir.2 k0 k1 hneg),.inl rfl⟩
     have hngs:YR next<=20:=by have:=List.countP_le_length (p:=λx:Int=>decide (x<0)) (l:=next);unfold YR;omega
     obtain⟨b,next',r1,r2,hp⟩:=dY hcr zg n next i (-1) zo (AA2 (by rw[Nat.add_assoc];exact Nat.add_le_add_left J _) hn)
     have hf1:OH crew (-1) = -1:=by unfold OH;rw[AAQ J]
     rw[hf1]at r2;obtain⟨hg',vw⟩:=ji hcr hlen hir hg hp;refine⟨(((k+1:Nat):Int),w,h,c,crew,next'),(((k+1:Nat):Int),w,h,c,crew,fields,next'),?_,?_,⟨k+1,next',rfl,rfl,J,hp.kept.len,hp.kept.vals,hg',λj hj=>?_⟩,hdec⟩
     ·simp only[S9,hd,PX vh,ABU,hx,ABQ,i1,i2,ABW hneg,ABR,r1,PR vh J]
     ·simp only[R4,hd,PX vh,ABU,hx,ABQ,i1,i2,ABW hneg,ABR,r2,PR vh J]
     ·rw[htk]at hj;rcases ABG.1 hj with hj|hj
      ·have hjr:=Yi.1 (hT.mem_iff.1 (AB5 hj));have:=hdone j hj;rw[hp.kept.XI j hjr.1 hjr.2 this];exact this
      ·rw[ABI.1 hj];exact vw
    ·refine⟨(((k+1:Nat):Int),w,h,c,crew,next),(((k+1:Nat):Int),w,h,c,crew,fields,next),?_,?_,⟨k+1,next,rfl,rfl,J,hlen,hvals,hg,λj hj=>?_⟩,hdec⟩
     ·simp only[S9,hd,PX vh,ABU,hx,ABQ,i1,i2,ABa hneg,ABR,ABS,PR vh J]
     ·simp only[R4,hd,PX vh,ABU,hx,ABQ,i1,i2,ABa hneg,ABR,ABS,PR vh J]
     ·rw[htk]at hj;rcases ABG.1 hj with hj|hj
      ·exact hdone j hj
      ·rw[ABI.1 hj];exact Int.not_lt.1 hneg) n (0,w,h,c,crew,List.replicate crew.length (-1)) (0,w,h,c,crew,fields,List.replicate crew.length (-1))
  (by
   have hr:∀j,0<=j->j<(crew.length:Int)->PU (List.replicate crew.length (-1:Int)) j = -1:=λj h0 h1=>by unfold PU;rw[List.getD_eq_getElem?_getD,List.getElem?_replicate,AAP J];rfl
   refine⟨0,List.replicate crew.length (-1),rfl,rfl,J,OF,λj h0 h1=>.inl (hr j h0 h1),⟨λa b a0 a1 _ _ hna _=>?_,λj k j0 j1 k0 k1 _ hkj=>?_⟩,λj hj=>ADb⟩
   ·rw[hr a a0 a1]at hna;omega
   ·rw[hr k k0 k1]at hkj;have:=(hcr.iE j j0 j1).eH;omega) (by show T.length-(0:Int).toNat<n;exact AA6 (by omega:T.length-(0:Int).toNat<1048576) hB1)
 grind
theorem lz(hf:Ph w h c=true){crew:ADN}(hcr:lZ c crew)(n:Nat)(hn:Pa<=n):
  ∃fields,mj w h c crew fields/\iter n (S4 n w h c crew) (0,w,h,c,crew,[],[])=some ((crew.length:Int),w,h,c,crew,fields,List.replicate crew.length (-1)):=by
 have hn20:=hcr.n20;have hB:1048576<=n:=AA2 ADP hn
 let F:Nat->By:=λi=>if hi:i<crew.length then(Xg hf (hcr.iE (i:Int) J J)).choose else []
 have hF:∀i (hi:i<crew.length),F i=(Xg hf (hcr.iE (i:Int) J J)).choose:=λi hi=>dif_pos hi;refine⟨(List.range crew.length).map F,⟨OF,λi h0 h1=>?_⟩,?_⟩
 ·obtain⟨m,rfl⟩:∃m:Nat,i=m:=⟨i.toNat,J⟩;have hm:m<crew.length:=J
  obtain⟨C,q1,q2,q3,q4⟩:=(Xg hf (hcr.iE (m:Int) J J)).choose_spec;exact⟨F m,C,by simp[hm],λn hn=>No,q2,q4⟩
 ·have:=P0 (S4 n w h c crew) (λi=>((i:Int),w,h,c,crew,(List.range i).map F,List.replicate i (-1))) crew.length ((crew.length:Int),w,h,c,crew,(List.range crew.length).map F,List.replicate crew.length (-1)) (λi hi=>by
   obtain⟨C,q1,q2,q3,q4⟩:=(Xg hf (hcr.iE (i:Int) J J)).choose_spec;have qf:=(q1 n hn).1;rw[<-hF i hi]at qf;have hm1:decide ((List.replicate i (-1:Int)).length+[(-1:Int)].length<=E8)=true:=by rw[AAe];simp[E8];omega
   have hm2:decide (((List.range i).map F).length+[F i].length<=E8)=true:=by rw[AAe];simp[E8];omega
   have hr:=Zb (crew:=crew) (i:=(i:Int)) ⟨J,J⟩;simp only[S4,hm1,hm2,hr,ABQ,qf,PR hi J,ABR];rw[show decide ((i:Int)<(crew.length:Int))=true by simpa using hi];simp[ACE,AB1]) (by simp[S4]) n J
  grind
theorem br{crew:ADN}(hn20:crew.length<=20)(n:Nat)(hn:Pa<=n):
  iter n (Ua crew) (0,w,h,c,crew,[])=some ((crew.length:Int),w,h,c,crew,List.replicate crew.length (-1)):=by
 have hB:1048576<=n:=AA2 ADP hn
 have:=P0 (Ua crew) (λi=>((i:Int),w,h,c,crew,List.replicate i (-1))) crew.length ((crew.length:Int),w,h,c,crew,List.replicate crew.length (-1)) (λi hi=>by
   have hm1:decide ((List.replicate i (-1:Int)).length+[(-1:Int)].length<=E8)=true:=by rw[AAe];simp[E8];omega
   simp only[Ua,hm1,PR hi J,ABR];rw[show decide ((i:Int)<(crew.length:Int))=true by simpa using hi];simp[ACE]) (by simp[Ua]) n J
 grind
theorem mE(hf:Ph w h c=true){crew:ADN}(hcr:lZ c crew)(hid:nQ crew)(vH:TR w h c crew=true)(n:Nat)(hn:Pa+1000<=n):
  ∃next,Z0 n w h c crew=some next/\XC n w h c crew=some next/\Next c crew next:=by
 have hN:=(TS hf).le;have hn20:=hcr.n20;have hB0:Pa<=n:=AA2 (ACB _ _) hn;obtain⟨T,t1,t2,t3⟩:=lS hid hn20 n hB0;obtain⟨fields,zg,hini⟩:=lz hf hcr n hB0;obtain⟨k,k',next,e1,e2,hN2⟩:=step_loop hcr zg T t3 n hn;refine⟨next,?_,?_,hN2⟩
 ·unfold Z0;rw[WX w h c J crew J n hB0,vH,br hn20 n hB0,t1];grind
 ·unfold XC;grind
structure CP(c:By)(crew:ADN):Prop where
 na:lZ c crew
 ids:nQ crew
 mq:∀i,0<=i->i<(crew.length:Int)->0<=(Pr crew i).2.2.2.2/\(Pr crew i).2.2.2.2<=1000000
 nT:∀i,0<=i->i<(crew.length:Int)->1<=(Pr crew i).1/\(Pr crew i).1<=99
theorem kK:QQ c i=true↔jB c i:=by unfold QQ P8 jB PU;grind
theorem iY{crew:ADN}{i:Nat}(hi:i<crew.length):lD c crew i=true↔(1<=(Pr crew i).1/\(Pr crew i).1<=99)/\jB c (Pr crew i).2.1/\((Pr crew i).2.2.1 = -1\/jB c (Pr crew i).2.2.1)/\(0<=(Pr crew i).2.2.2.2/\(Pr crew i).2.2.2.2<=1000000)/\
  (0<i->(Pr crew ((i:Int)-1)).1<(Pr crew i).1)/\∀j:Nat,j<i->(Pr crew (j:Int)).2.1≠(Pr crew i).2.1:=by
 have hp:Qn (·.1) crew i crew[i]=true↔(0<i->(Pr crew ((i:Int)-1)).1<(Pr crew i).1):=by
  cases i with
  |zero=>simp[Qn]
  |succ j=>
   rw[Rp hi,show((j+1:Nat):Int)-1=(j:Int) by omega,Rp (show j<crew.length by omega)];simp[Qn,AAI (show j<crew.length by omega)]
 have ha:((crew.take i).all λy => !(y.2.1==crew[i].2.1))=true↔∀j:Nat,j<i->(Pr crew (j:Int)).2.1≠(Pr crew i).2.1:=by
  rw[AAW,Rp hi];constructor
  ·intro h j hj;rw[Rp (show j<crew.length by omega)]
   have:=h crew[j] (by
    rw[ABV];exact⟨j,ADJ,OF⟩)
   simpa using this
  ·intro h y hy;obtain⟨j,hj,rfl⟩:=ABV.1 hy;have hji:j<i:=by simp at hj;omega
   have:=h j hji;rw[Rp (show j<crew.length by omega)]at this;simpa using this
 unfold lD;rw[AAI hi];simp only[AAJ,hp,ha,kK,AAd,AAT,Rp hi];unfold P8;grind
theorem bW{crew:ADN}:TR w h c crew=true↔Ph w h c=true/\CP c crew:=by
 unfold TR;simp only[AAJ,AAe,AAW,AAX];constructor
 ·rintro ⟨⟨hf,hn⟩,vY⟩
  have hr:∀i:Nat,i<crew.length->_:=λi hi=>(iY hi).1 (vY i hi);have cast:∀i:Int,0<=i->i<(crew.length:Int)->∃m:Nat,i=m/\m<crew.length:=λi h0 h1=>⟨i.toNat,J,J⟩
  have ids1:∀d a:Nat,a+d+1<crew.length->(Pr crew (a:Int)).1<(Pr crew ((a+d+1:Nat):Int)).1:=by
   intro d
   induction d with
   |zero=>
    intro a ha;have:=(hr (a+1) J).2.2.2.2.1 J;grind
   |succ d ih=>
    intro a ha;have h1:=ih a J;have h2:=(hr (a+(d+1)+1) J).2.2.2.2.1 J;grind
  refine⟨hf,⟨hn,λi h0 h1=>?_,λi j i0 i1 j0 j1 e=>?_⟩,λa b a0 hab hb=>?_,λi h0 h1=>?_,λi h0 h1=>?_⟩
  ·obtain⟨m,rfl,hm⟩:=cast i h0 h1;obtain⟨_,q2,q3,_⟩:=hr m hm;exact⟨q2.1,q2.2,q3⟩
  ·obtain⟨a,rfl,ha⟩:=cast i i0 i1;obtain⟨b,rfl,hb⟩:=cast j j0 j1;rcases ABd a b with hl|hl|hl
   all_goals grind
  ·obtain⟨m,rfl,hm⟩:=cast a a0 J;obtain⟨k,rfl,hk⟩:=cast b J hb;have:=ids1 (k-m-1) m J;grind
  ·obtain⟨m,rfl,hm⟩:=cast i h0 h1;exact(hr m hm).2.2.2.1
  ·obtain⟨m,rfl,hm⟩:=cast i h0 h1;exact(hr m hm).1
 ·rintro ⟨hf,⟨hn,hs,hd⟩,hid,wR,hidr⟩
  refine⟨⟨hf,hn⟩,λi hi=>(iY hi).2 ?_⟩;have s:=hs (i:Int) J J;refine⟨hidr i J J,⟨s.eH,s.pn⟩,s.goal,wR i J J,λh0=>hid _ _ J J J,λj hj e=>?_⟩;have:=hd j i J J J J e;omega
def YE(r:Rb)(v:Int):Rb:=(r.1,v,r.2.2.1,r.2.2.2.1,bif(r.2.2.1 == -1)||(v==r.2.2.1)then 0 else M8 (r.2.2.2.2+1) 1000000)
def Vu(crew:ADN)(next:By):ADN:=List.zipWith YE crew next
theorem YD{crew:ADN}(h:next.length=crew.length):(Vu crew next).length=crew.length:=by simp[Vu,h]
theorem bI{crew:ADN}(h:next.length=crew.length)(h0:0<=i)(h1:i<(crew.length:Int)):Pr (Vu crew next) i=YE (Pr crew i) (PU next i):=by
 obtain⟨m,rfl⟩:∃m:Nat,i=m:=⟨i.toNat,J⟩;have hm:m<crew.length:=J
 rw[Rp (by rw[YD h];exact hm),Rp hm];simp[Vu,PU,List.getD,AAI (show m<next.length by omega)]
theorem mn{crew:ADN}(hp:CP c crew)(hn:Next c crew next):CP c (Vu crew next):=by
 have hl:=YD hn.len;have ha:∀i,0<=i->i<(crew.length:Int)->Pr (Vu crew next) i=YE (Pr crew i) (PU next i):=λi h0 h1=>bI hn.len h0 h1;refine⟨⟨by rw[hl];exact hp.na.n20,λi h0 h1=>?_,λi j i0 i1 j0 j1 e=>?_⟩,λa b a0 hab hb=>?_,λi h0 h1=>?_,λi h0 h1=>?_⟩<;>rw[hl]at *
 ·rw[ha i h0 h1];have:=hn.sx i h0 h1;exact⟨this.1,this.2,(hp.na.iE i h0 h1).goal⟩
 ·rw[ha i i0 i1,ha j j0 j1]at e;exact hn.D i j i0 i1 j0 j1 e
 ·rw[ha a a0 J,ha b J hb];exact hp.ids a b a0 hab hb
 ·rw[ha i h0 h1];have:=hp.mq i h0 h1;show 0<=(bif _ then(0:Int)else _)/\(bif _ then(0:Int)else _)<=1000000;cases((Pr crew i).2.2.1 == -1)||(PU next i==(Pr crew i).2.2.1)with
  |true=>grind
  |false=>
   show 0<=M8 _ _/\M8 _ _<=1000000;unfold M8;grind
 ·rw[ha i h0 h1];exact hp.nT i h0 h1
theorem gQ{r:Rb}{v:Int}(h:0<=r.2.2.2.2/\r.2.2.2.2<=1000000):YE r v=(r.1,v,r.2.2.1,r.2.2.2.1,bif(r.2.2.1 == -1)||(v==r.2.2.1)then 0 else bif decide (r.2.2.2.2<1000000)then r.2.2.2.2+1 else r.2.2.2.2):=by unfold YE M8;grind
theorem dS{crew:ADN}(hp:CP c crew)(hn:Next c crew next)(n:Nat)(hB:Pa<=n):
  iter n (RV crew next) ([],0)=some (Vu crew next,(crew.length:Int)):=by
 have hB1:1048576<=n:=AA2 ADP hB;have ym:=hp.na.n20;have hl:=YD hn.len
 have:=P0 (RV crew next) (λi=>((Vu crew next).take i,(i:Int))) crew.length (Vu crew next,(crew.length:Int)) (λi hi=>by
  have hir:0<=(i:Int)/\(i:Int)<(crew.length:Int):=⟨J,J⟩;obtain⟨i1,i2,_⟩:=TV (out:=next) (v:=(i:Int)) (by rw[hn.len];exact hir);have ha:=hp.mq i hir.1 hir.2
  have ht:(Vu crew next).take (i+1)=(Vu crew next).take i++[YE (Pr crew (i:Int)) (PU next (i:Int))]:=by
   rw[ABb (by rw[hl];exact hi),<-Rp (by rw[hl];exact hi),bI hn.len hir.1 hir.2]
  have hm:∀y:Rb,decide (((Vu crew next).take i).length+[y].length<=E8)=true:=λy=>by rw[AAe];simp[E8];omega
  rw[ht,gQ ha];simp only[RV,Zb hir,ABQ,i1,i2,ABR,PR hi J,PY (show -9223372036854775808<=(Pr crew (i:Int)).2.2.2.2+1 by omega) J,hm];rw[show decide ((i:Int)<(crew.length:Int))=true by simpa using hi];cases((Pr crew (i:Int)).2.2.1 == -1)<;>cases(PU next (i:Int)==(Pr crew (i:Int)).2.2.1)<;>cases decide ((Pr crew (i:Int)).2.2.2.2<1000000)<;>rfl) (by simp[RV];rw[<-hl];exact ABz.symm▸rfl) n J
 grind
theorem dF{crew:ADN}(hp:CP c crew)(hn:Next c crew next)(n:Nat)(hB:Pa<=n):
  iter n (SG next) (0,crew)=some ((crew.length:Int),Vu crew next):=by
 have hB1:1048576<=n:=AA2 ADP hB;have ym:=hp.na.n20;have hl:=YD hn.len;have wa:=hn.len
 have:=P0 (SG next) (λi=>((i:Int),(Vu crew next).take i++crew.drop i)) crew.length ((crew.length:Int),Vu crew next) (λi hi=>by
  have hir:0<=(i:Int)/\(i:Int)<(crew.length:Int):=⟨J,J⟩;obtain⟨i1,i2,_⟩:=TV (out:=next) (v:=(i:Int)) (by rw[hn.len];exact hir);have ha:=hp.mq i hir.1 hir.2;have hlen:((Vu crew next).take i++crew.drop i).length=crew.length:=by simp[hl];omega
  have xz:i<((Vu crew next).take i++crew.drop i).length:=by rw[hlen];exact hi
  have hg:((Vu crew next).take i++crew.drop i)[i]=Pr crew (i:Int):=by rw[Rp hi,List.getElem_append_right (by simp[hl];omega)];simp[hl,Nat.min_eq_left (Nat.le_of_lt hi)]
  have ht:((Vu crew next).take i++crew.drop i).set i (YE (Pr crew (i:Int)) (PU next (i:Int)))=(Vu crew next).take (i+1)++crew.drop (i+1):=by rw[AB9 _ _ (by simp[hl];omega),ABb (by rw[hl];exact hi),<-Rp (by rw[hl];exact hi),bI hn.len hir.1 hir.2,ABi];congr 1;rw[show i-((Vu crew next).take i).length=0 by simp[hl];omega,ABg hi];rfl
  rw[<-ht];generalize ((Vu crew next).take i++crew.drop i)=out at hlen xz hg;have hio1:Oi out (i:Int)=true:=PX xz;rw[ABU]at i2;simp only[SG,i1,ABU,i2,ABQ,ABR,hio1,PR hi J,ABU];rw[cH out i _ xz,hg];have g1:∀y:Rb,(out.set i y)[i]?=some y:=λy=>by rw[List.getElem?_set,AAP rfl,AAP xz]
  have g2:∀(y:Rb)(f:Rb->Rb),List.modify (out.set i y) i f=out.set i (f y):=λy f=>by rw[cH _ i f ADJ];simp
  simp only[g1,g2,ABQ,bq,PY (show -9223372036854775808<=(Pr crew (i:Int)).2.2.2.2+1 by omega) J];rw[show decide ((i:Int)<(next.length:Int))=true by rw[wa];simpa using hi];unfold YE
  cases((Pr crew (i:Int)).2.2.1 == -1)<;>cases(PU next (i:Int)==(Pr crew (i:Int)).2.2.1)<;>rfl) (by
   simp[SG,wa];rw[<-hl];exact ABz) n J
 grind
theorem jR(n:Nat)(hn:Pa<=n){b:By}{q:Int}(hcu:Cu b i):Ok (W8 n b i q) λx=>x.1.length<=4/\Cu x.2.1 x.2.2.1:=by
 unfold W8;refine Ok.bind (P:=λx=>x.1.length<=4/\Cu x.2.2.1 x.2.2.2.1) (Ok.iter (λk x=>x.2.1+(k:Int)=5/\1<=x.2.1/\x.1.length+k<=4/\Cu x.2.2.1 x.2.2.2.1) (λk x hx=>?_) (k:=4) ⟨OF,OF,OF,hcu⟩ ADF) λx hx=>Ok.pure hx;obtain⟨h1,h0,h2,h3⟩:=hx;unfold YY;refine Ok.cond (λhb=>?_) λhb=>Ok.pure (.inr ⟨_,rfl,by show x.1.length<=4;clear hn;omega,h3⟩);have hb:=AAu hb;refine Ok.bind (P:=λz=>z.1.length<=x.1.length+1/\Cu z.2.1 z.2.2.1) ((bN h3 3).bind λv hv=>Ok.cond (λ_=>(ok_int hv OF).bind λu hu=>Ok.guard (TG ADI) (Ok.pure ⟨by show(x.1++[_]).length<=_;simp,hu.1⟩)) λ_=>Ok.pure ⟨by show x.1.length<=_;omega,hv⟩) λz hz=>Ok.pure (.inl ⟨_,rfl,k-1,⟨?_,?_,?_,hz.2⟩,ADI⟩)
 ·show PV (x.2.1+1)+_=_;rw[PY ADI ADI];clear hn;omega
 ·show 1<=PV (x.2.1+1);rw[PY ADI ADI];clear hn;omega
 grind
theorem gh(n:Nat)(hn:Pa<=n){b:By}{q:Int}(hcu:Cu b i)(w h:Int)(c:By)(hf:Ph w h c=true):Ok (WE n b i q w h c) λx=>Cu x.2.1 x.2.2.1:=by
 have hc:c.length<=1048576:=by have:=(TS hf).le;clear hn;omega
 unfold WE;rw[VA w h c hc hf 3 n hn,ABQ];refine Ok.bind (P:=λz=>(z.1=false->0<(QT c 3 c.length).length)/\Cu z.2.1 z.2.2.1) (Ok.cond (λhb=>Ok.pure ⟨(λe=>by cases e),hcu⟩) λhb=>(bN hcu 12).bind λr hr=>Ok.pure ⟨λ_=>?_,hr⟩) λz hz=>Ok.cond (λ_=>(Rn hz.2 30).bind λr hr=>Ok.pure hr.1) λhb=>(Rn hz.2 _).bind λr hr=>?_
 ·grind
 ·have h0:=hz.1 hb;have h1:=hr.2.2 J;exact Ok.guard (eM ⟨hr.2.1,h1⟩) ((Ok.get J).bind λv hv=>Ok.pure hr.1)
theorem Zh(w h:Int)(c:By)(a:It)(vH:Ys w h c a=true)(n:Nat)(hn:Pa<=n):VN n w h c a=some (w,h,c,a,1,[],R8 (P7 c) (min (P7 c).length 20),[],Re a 50,List.replicate 51 0,0,true):=by
 obtain⟨hf,hk,_,_⟩:=ae vH;have hs:=(P1.1 hk).sm;have hle:=(TS hf).le;have hc:c.length<=1048576:=ADI
 have vY:(List.range a.length).all (λi=>Y5 c a i&&Xi a i)=true:=by have vH:=vH;unfold Ys at vH;simp only[AAJ,AAW]at vH ⊢;exactλx hx=>⟨vH.2 x hx,vH.1.2 x hx⟩
 have o1:=Zi c hc a hs Zt n hn;rw[vY]at o1;have hm:(decide (0<=51)&&decide ((51:Int)<=(E8:Int))&&decide (51=51))=true:=rfl;have hdl:(P7 c).length<=c.length:=Yw c 4 c.length;unfold VN;rw[P3 w h c hc n hn,P9 a hs n hn,hf,hk];simp only[ABQ,ABZ,ABS,YZ w h c hc,Pg a hs n hn,hm,ABR];simp only[Zt]at o1;rw[o1];simp only[ABR,ABQ];have s1:=Yo a hs w h c a 1 [] [] [] (List.replicate (Int.toNat 51) 0) 0 n hn;have c1:=ZG (P7 c) ADI w h c a 1 [] [] (Re a 50) (List.replicate (Int.toNat 51) 0) 0 n hn;rw[show List.replicate 51 (0:Int)=List.replicate (Int.toNat 51) 0 from rfl]at s1 ⊢;have hd:SB n w h c 4=some (P7 c):=VA w h c hc hf 4 n hn;grind
def Y2:List ADD:=[[99,46,46,46,46,46,46,10,46,112,46,112,46,112,46,10,46,46,46,46,46,46,115,10,46,112,46,112,46,112,46,10,99,46,46,46,46,46,115,10],[99,46,46,46,46,46,10,46,112,112,46,112,46,10,46,46,46,46,46,46,10,46,46,46,46,46,115,10],[46,46,46,46,46,10,46,112,35,112,46,10,46,46,115,46,46,10,46,112,35,112,46,10,99,46,46,46,99,10],[99,46,112,10,46,46,46,10,112,46,115,10]]
theorem dB:Y2.all bM=true:=by kernel_rfl
theorem fT(n:Nat)(hn:Pa<=n){b:By}{q:Int}(hcu:Cu b i):Ok (Tn n b i q) λx=>∃w h c a b' i' q',Ys w h c a=true/\Cu b' i'/\x=(w,h,c,a,1,[],R8 (P7 c) (min (P7 c).length 20),[],Re a 50,List.replicate 51 (0:Int),0,b',i',q'):=by unfold Tn;refine(kt hcu (xs:=Y2) (by simp[Y2])).bind λt ht=>?_;refine(fw (AAW.1 dB _ ht.2) n hn).bind λx hx=>?_;refine Ok.bind (P:=λz=>Ph z.2.2.2.1 z.2.2.2.2.1 z.2.2.2.2.2=true/\Cu z.1 z.2.1) ((bN ht.1 8).bind λr hr=>Ok.cond (λ_=>(gj n hn hr).bind λy hy=>Ok.pure ⟨hy.1,hy.2.2⟩) λ_=>Ok.pure ⟨hx.1,hr⟩) λz hz=>?_;refine(fU n hn hz.2 _ _ _ hz.1).bind λp hp=>?_;rw[Zh _ _ _ _ hp.1 n hn,ABQ];dsimp only;refine⟨_,rfl,z.2.2.2.1,z.2.2.2.2.1,z.2.2.2.2.2,p.1,p.2.1,p.2.2.1,p.2.2.2,hp.1,hp.2,?_⟩;grind
theorem kD(hc:c.length<=1048576)(hf:Ph w h c=true)(hw:CW c crew)(n:Nat)(hn:Pa+1000<=n):
  ∃out,Xj n w h c crew=some out/\V3 n w h c crew=some out/\CW c out/\out.length=crew.length/\∀k (h1:k<crew.length) (h2:k<out.length),out[k].1=crew[k].1/\out[k].2.2.1=crew[k].2.2.1/\out[k].2.2.2.1=crew[k].2.2.2.1:=by
 have hB:Pa<=n:=AA2 (ACB _ _) hn;have hl:crew.length<=1048576:=by have:=hw.n20;clear hn hB;omega
 have vH:TR w h c crew=true:=Uy.2 ⟨hf,hw⟩;have hm:decide (crew.length<=E8)=true:=by rw[AAe];simp[E8];clear hn hB;omega
 have hcp:Ta crew=some crew:=by unfold Ta;rw[hm];rfl
 obtain⟨_,hp⟩:=bW.1 vH;obtain⟨next,s1,s2,hnx⟩:=mE hf hp.na hp.ids vH n hn
 have hsp:Us n w h c crew=some (Vu crew next):=by unfold Us;rw[s2];simp only[ABQ,dS hp hnx n hB]
 have ho:=mn hp hnx;refine⟨Vu crew next,?_,?_,(Uy.1 (bW.2 ⟨hf,ho⟩)).2,YD hnx.len,λk h1 h2=>?_⟩
 ·unfold Xj;rw[hcp,WX w h c hc crew hl n hB,vH];simp only[ABQ,ABZ,ABS,s1,dF hp hnx n hB]
 ·unfold V3;rw[Wg w h c hc crew hl n hB,vH];grind
 ·have:=bI hnx.len (i:=(k:Int)) No J;rw[Rp h2,Rp h1]at this;rw[this];exact⟨rfl,rfl,rfl⟩
theorem kH(hf:Ph w h c=true)(ha:Pf a)(hc:CW c crew)(ht:TP ts):iM w h c a crew ts=sendAll a crew ts (Qd w h c a crew ts):=by unfold iM gV;rw[P1.2 ha,Uy.2 ⟨hf,hc⟩,Vj.2 ht];rfl
theorem cO:Sc=TD:=rfl
theorem Z6(hb:Uv nx l)(hsm:Qi (nx,l)){id:Int}{o:Pv}(ho:QR l id=some o)(n:Nat)(hn:Pa<=n):∃i,∃h:i<l.length,l[i]=o/\o.1=id/\Qx n nx l id=some (i:Int):=by obtain⟨hm,e⟩:=Qe ho;obtain⟨i,hi,rfl⟩:=ABV.1 hm;refine⟨i,hi,rfl,e,?_⟩;have:=YU nx l hsm.1 hb.2.2.1 i hi n hn;rw[e]at this;exact this
theorem VC(w h:Int)(c:By)(ha:Pf a)(hb:Uv nx l)(hsm:Qi (nx,l))(crew:ADC)(ts:AAH)(st ou:By)(nw:Int)(t:Pm)(ho:∃o,QR l t.1=some o)(hp:∃q,XZ a t.2.1=some q)(n:Nat)(hn:Pa<=n):
  RR n w h c a nx l crew ts st ou nw t.1 t.2.1 t.2.2.1 t.2.2.2=some (TX a l t):=by
 have hal:=ha.1;unfold RR;by_cases h3:t.2.2.2=3
 ·obtain⟨o,ho⟩:=ho;obtain⟨i,hi,e,_,hf⟩:=Z6 hb hsm ho n hn;rw[show(t.2.2.2==3)=true from AAT.2 h3,ABR,hf,ABQ,PS hi,ABQ];unfold TX;grind
 ·obtain⟨q,hq⟩:=hp;have hpx:=Ro a J t.2.1 n hn;rcases hpx.2 with⟨_,yO⟩|⟨j,hj,e,ej⟩
  ·exact(yO q (TF hq).1 (TF hq).2).elim
  ·rw[show(t.2.2.2==3)=false from ABY.2 h3,ABS,hpx.1,e,ABQ,PS hj,ABQ,Zw ha h3 hj ej]
theorem kG(h:crew.Pairwise λr s=>r.1<s.1){k:Nat}(hk:k<crew.length)(f:Pt->Pt):crew.modify k f=WO crew crew[k].1 f:=by
 unfold WO;refine AB7 No λi h1 h2=>?_;rw[ACH]at h1;rw[List.getElem_modify,ABl];by_cases e:k=i
 ·grind
 ·rw[AAQ e,show(crew[i].1==crew[k].1)=false from ABY.2 λq=>?_,ABS];rcases ABH e with hl|hl
  ·have:=ABL.1 h k i hk h1 hl;omega
  ·have:=ABL.1 h i k h1 hk hl;omega
theorem mod_mod{β:Type}(l:List β)(k:Nat)(f g:β->β):(l.modify k f).modify k g=l.modify k (g ∘ f):=No
theorem ZU{β:Type}{l:List β}{k:Nat}(h:k<l.length)(j:Nat)(f:β->β):Oi (l.modify j f) (k:Int)=true:=PX No
theorem gA(hb:Uv nx l)(t:Pm):∀p∈QG l t,(1<=p.2.1/\p.2.1<=50)/\(1<=p.2.2/\p.2.2<=1000):=λp hp=>by
 unfold QG at hp;cases ho:QR l t.1 with
 |none=>grind
 |some o=>
  rw[ho]at hp;have hpm:=(ABj.1 hp).1;obtain⟨_,_,⟨hI,_⟩,hpg,_⟩:=hb.2.2.2 o (Qe ho).1;obtain⟨q1,y,hy,e⟩:=hpg.1 p hpm;have hN:=hI.2.1 y hy;have ht:=hpg.2 y hy;have hle:=bQ (λq hq=>(hpg.1 q hq).1) hpm;grind
theorem jg(hsm:Qi (nx,l))(t:Pm):(QG l t).length<=1048576:=by
 unfold QG;cases ho:QR l t.1 with
 |none=>simp
 |some o=>exact AA2 (ABo _ _) (hsm.2 o (Qe ho).1).2
theorem jN(ps:AAD)(hl:ps.length<=1048576)(hp:∀p∈ps,(1<=p.2.1/\p.2.1<=50)/\(1<=p.2.2/\p.2.2<=1000))(x6:It×Bool)(w h:Int)(c:By)(a:It)(nx:Int)(l:ADE)(crew:ADC)(ts:AAH)(st:By)(nw:Int)(hou:OB 1000000 ou)(n:Nat)(hn:Pa<=n):
  ∃k:Int,iter n (RJ ps x6) (0,w,h,c,a,nx,l,crew,ts,st,ou,nw)=some (k,w,h,c,a,nx,l,crew,ts,st,(bif x6.2 then jc ou ps else ou),nw):=by
 obtain⟨b6,ok⟩:=x6;cases ok with
 |false=>
  obtain⟨m,rfl⟩:∃m,n=m+1:=⟨n-1,ADF⟩;refine⟨0,Pw ?_ m⟩;unfold RJ;grind
 |true=>
  refine⟨(ps.length:Int),?_⟩;rw[ABR];refine Ps (σ:=By) (RJ ps (b6,true)) (λi s=>((i:Int),w,h,c,a,nx,l,crew,ts,st,s,nw)) ps (λr s=>((ps.length:Int),w,h,c,a,nx,l,crew,ts,st,jc s r,nw)) (λi s=>OB 1000000 s) (λs _=>?_) (λi p r s hi hx _ _ hs=>?_) n ADF ou hou
  ·unfold RJ;dsimp only;rw[show decide ((ps.length:Int)<(ps.length:Int))=false by rw[AAn];omega];rfl
  ·left;have hpe:ps[i]=p:=by rw[AAI hi]at hx;exact Option.some.inj hx
   obtain⟨⟨s1,s2⟩,n1,n2⟩:=hp p No;have hk:p.2.1.toNat<s.length:=by rw[hs.1];clear hn;omega
   have uO:Oi s p.2.1=true:=eM ⟨J,J⟩;have ud:s[p.2.1.toNat]?=some (s.getD p.2.1.toNat 0):=by rw[AAI hk];simp[hk]
   have hb:=hs.getD J p.2.1.toNat;refine⟨if s.getD p.2.1.toNat 0+p.2.2<=1000000 then s.set p.2.1.toNat (s.getD p.2.1.toNat 0+p.2.2)else s,?_,?_,rfl⟩
   ·unfold RJ;dsimp only;rw[show decide ((i:Int)<(ps.length:Int))=true by rw[AAe];clear hn;omega];simp only[ABR,ABQ,PX hi,ABU,hx,uO,ud,QH,PR hi (show ps.length<=9223372036854775807 by clear hn;omega)];rw[PY (n:=s.getD p.2.1.toNat 0+p.2.2) ADI ADI];grind
   ·split
    ·rename_i hle;exact hs.set (ACF _) _ ⟨J,hle⟩
    ·exact hs
theorem aL(w h:Int)(c:By){x y:AAH}{t:Pm}(d:DK a nx l crew (x++t::y))(hsm:Qi (nx,l))(ht:t.2.2.2≠1)(ts:AAH)(st:By)(hou:OB 1000000 ou)(nw:Int)(n:Nat)(hn:Pa<=n):
  ∃t':Pm,WH n w h c a nx l crew ts st ou nw t.1 t.2.1 t.2.2.1 t.2.2.2=some ((RN a ou l crew t).2.2.2.isNone,w,h,c,(RN a ou l crew t).1,nx,l,(RN a ou l crew t).2.2.1,ts,st,(RN a ou l crew t).2.1,nw,t')/\t'.1=t.1/\∀u,(RN a ou l crew t).2.2.2=some u->u=t':=by
 have hT:=d.tk t (AAR _ AAk);obtain⟨o,ho,_,_⟩:=hT.ord;obtain⟨r,hr,_,_⟩:=hT.cz ht;have zd:=d.n20;have hpod:=hT.Pj;rcases W0 crew J t.2.2.1 n hn with⟨_,yO⟩|⟨k,hk,ek,ev⟩
 ·exact(yO r (QA hr).1 (QA hr).2).elim
 have hS:=d.sk.sm;unfold WH RN;rw[cO,ev,ABQ,PX hk,ABR];simp only[ABU];have cm:∀f:Pt->Pt,crew.modify k f=WO crew t.2.2.1 f:=λf=>by rw[<-ek];exact kG d.ids hk f
 by_cases h2:t.2.2.2=2
 ·have hg:=VC w h c d.sk d.bk hsm (List.modify (List.modify crew k (λ(y:PO)=>(y.1,y.2.1,y.2.2.1,y.2.2.2.1,0))) k (λ(y:PO)=>(y.1,y.2.1,y.2.2.1,true,y.2.2.2.2))) ts st ou nw (XD t 3) ⟨o,ho⟩ hpod n hn;rw[AAP h2,show(t.2.2.2==2)=true from AAT.2 h2,ABR,ZU hk,ABR];rw[show RR n w h c a nx l _ ts st ou nw t.1 t.2.1 t.2.2.1 3=_ from hg,ABQ];rw[mod_mod,ZU hk,ABR,mod_mod,cm];exact⟨XD t 3,rfl,rfl,λu hu=>No⟩
 ·rw[AAQ h2,show(t.2.2.2==2)=false from ABY.2 h2,ABS];by_cases h3:t.2.2.2=3
  ·rw[AAP h3,show(t.2.2.2==3)=true from AAT.2 h3,ABR];obtain⟨i,hi,e1,_,ef⟩:=Z6 d.bk hsm ho n hn;have wg:o.2.2.2.1.length<=1048576:=(hsm.2 o (Qe ho).1).2;have hil:o.2.2.1.length<=1048576:=(hsm.2 o (Qe ho).1).1
   have hoo:V6 n nx l t.1=some (o.1,o.2.1,o.2.2.1,o.2.2.2.1,o.2.2.2.2,true):=by unfold V6;rw[ef,ABQ,show decide ((i:Int)<0)=false by grind,ABS,PS hi,ABQ,e1];unfold QC;rw[U9 No,U9 No];rfl
   have we:QG l t=o.2.2.2.1.filter λp=>p.1==t.2.1:=by unfold QG;rw[ho]
   have hpl2:=jg hsm t;rw[hoo,ABQ];dsimp only;rw[bA o wg t.2.1 n hn,ABQ,<-we];unfold Xz;rw[aJ a hS (QG l t) hpl2 n hn,ABQ,ABQ];obtain⟨kk,hloop⟩:=jN (QG l t) hpl2 (gA d.bk t) (SE ZJ a (QG l t)) w h c (SE ZJ a (QG l t)).1 nx l (List.modify crew k (λ(y:PO)=>(y.1,y.2.1,y.2.2.1,y.2.2.2.1,0))) ts st nw hou n hn;rw[hloop,ABQ];dsimp only;obtain⟨g1,g2,_⟩:=ZK d.sk (QG l t);have hpod2:=(hT.same g2 (k:=l) rfl).Pj;have hg:=VC w h c g1 d.bk hsm (List.modify crew k (λ(y:PO)=>(y.1,y.2.1,y.2.2.1,y.2.2.2.1,0))) ts st (bif(SE ZJ a (QG l t)).2 then jc ou (QG l t)else ou) nw (XD t 4) ⟨o,ho⟩ hpod2 n hn;rw[show RR n w h c _ nx l _ ts st _ nw t.1 t.2.1 t.2.2.1 4=_ from hg,ABQ];rw[ZU hk,ABR,mod_mod,cm];exact⟨XD t 4,rfl,rfl,λu hu=>No⟩
  ·rw[AAQ h3,show(t.2.2.2==3)=false from ABY.2 h3,ABS];rw[ZU hk,ABR,mod_mod,ZU hk,ABR,mod_mod,cm];exact⟨t,rfl,rfl,λu hu=>by cases hu⟩
structure BG(nx:Int)(l:ADE):Prop where
 bk:Uv nx l
 KU:eG l
 cD:∀o∈l,o.2.2.2.1.length<=72
theorem BG.sm(h:BG nx l):Qi (nx,l):=by
 have h30:=h.bk.2.1;refine⟨No,λo ho=>?_⟩;have h72:=h.cD o ho;obtain⟨_,_,⟨hI,_⟩,_,_⟩:=h.bk.2.2.2 o ho;have h6:=hI.2.2;exact⟨by show o.2.2.1.length<=_;omega,by show o.2.2.2.1.length<=_;omega⟩
theorem BG.spec(h:BG nx l)(n:Nat)(hn:Pa<=n):Qo n nx l=some true:=by obtain⟨b,e,ib⟩:=X6 h.sm h.KU n hn;rw[e,ib.2 ⟨h.bk,h.cD⟩]
theorem DI.bg(d:DI w h c a nx l crew ts):BG nx l:=⟨d.bk,d.KU,d.cD⟩
theorem eA(h:l.Pairwise λa b=>a.1<b.1){i:Nat}(hi:i<l.length)(st:Int):l.modify i (λo=>(o.1,o.2.1,o.2.2.1,o.2.2.2.1,st))=R7 l l[i].1 st:=by
 unfold R7;refine AB7 No λk h1 h2=>?_;rw[ACH]at h1;rw[List.getElem_modify,ABl];by_cases e:i=k
 ·grind
 ·rw[AAQ e,show(l[k].1==l[i].1)=false from ABY.2 λq=>?_,ABS];rcases ABH e with hl|hl
  ·have:=ABL.1 h i k hi h1 hl;omega
  ·have:=ABL.1 h k i h1 hi hl;omega
theorem a7(h:BG nx l)(id:Int)(n:Nat)(hn:Pa<=n):∃b,W4 n nx l id=some (nx,(bif XH l id then R7 l id 2 else l),b):=by
 have hsm:=h.sm;unfold W4;rw[SP nx l hsm n hn,ABQ,h.spec n hn];cases ho:QR l id with
 |none=>
  have hm:∀x∈l,x.1≠id:=λx hx e=>by unfold QR at ho;grind
  have hf:=V2 nx l hsm.1 id hm n hn;rw[ZD]at hf;have xz:XH l id=false:=by unfold XH;rw[ho]
  rw[hf,xz];exact⟨false,rfl⟩
 |some o=>
  obtain⟨i,hi,e1,e2,ef⟩:=Z6 h.bk hsm ho n hn;have xz:XH l id=(o.2.2.2.2==1):=by unfold XH;rw[ho]
  rw[ef,xz];simp only[ABQ,ABZ,ABS,show decide ((i:Int)<0)=false by grind,PS hi,e1];cases hs:(o.2.2.2.2==1)with
  |false=>
   rw[show(o.2.2.2.2 != 1)=true by simp only[bne,hs];rfl];grind
  |true=>
   rw[show(o.2.2.2.2 != 1)=false by simp only[bne,hs];rfl,ABS,PX hi,ABR,ABU,eA h.bk.2.2.1 hi,e1,e2];grind
theorem BG.Dh(h:BG nx l)(id:Int){st:Int}(wc:1<=st/\st<=3):BG nx (R7 l id st):=by
 have mem:∀q∈R7 l id st,∃o∈l,q=(bif o.1==id then(o.1,o.2.1,o.2.2.1,o.2.2.2.1,st)else o:Pv):=λq hq=>by unfold R7 at hq;grind
 have key:∀o:Pv,(bif o.1==id then(o.1,o.2.1,o.2.2.1,o.2.2.2.1,st)else o:Pv).2.2.2.1=o.2.2.2.1:=λo=>No
 have hd:DK [] nx (R7 l id st) [] []:=DK.Dh ⟨⟨OF,List.Pairwise.nil,(λp hp=>by cases hp)⟩,h.bk,OF,List.Pairwise.nil,RY.2 ⟨OF,(λx hx=>by cases hx),List.Pairwise.nil⟩,(λt ht=>by cases ht)⟩ wc (λt ht=>by cases ht);refine⟨hd.bk,λq hq=>?_,λq hq=>?_⟩
 ·obtain⟨o,ho,rfl⟩:=mem q hq;rw[key];exact h.KU o ho
 ·obtain⟨o,ho,rfl⟩:=mem q hq;rw[key];exact h.cD o ho
theorem mL(left:AAH)(hl:left.length<=1048576)(ended:By){i:Nat}(hi:i<ended.length)(r:Int×Int×Int×By×It×Int×ADE×ADC×AAH×By×By×Int)(y:Int×Int×By×It×Int×ADE×ADC×AAH×By×By×Int)(n:Nat)(hn:Pa<=n):
  ∃j:Int,iter n (SV (left,ended,r) ((i:Int),y)) (false,0)=some (left.any (λt=>t.1==ended[i]),j):=by
 refine⟨(left.length:Int),?_⟩;have:=Ps (σ:=Bool) (SV (left,ended,r) ((i:Int),y)) (λk s=>(s,(k:Int))) left (λq s=>(s||q.any (λt=>t.1==ended[i]),(left.length:Int))) (λ_ _=>True) (λs _=>?_) (λk t q s hk ht _ _ _=>?_) n ADF false trivial
 ·grind
 ·unfold SV;grind
 ·left;refine⟨s||t.1==ended[i],?_,trivial,by simp only[List.any_cons,Bool.or_assoc]⟩;unfold SV;dsimp only;rw[show decide ((k:Int)<(left.length:Int))=true by rw[AAe];clear hn;omega];simp only[ABR,PX hk,ABU,ht,ABQ,PX hi,AAI hi,PR hk (show left.length<=9223372036854775807 by clear hn;omega)];grind
theorem mK(left:AAH)(hl:left.length<=1048576)(ended:By)(uk:ended.length<=1048576)(r:Int×Int×Int×By×It×Int×ADE×ADC×AAH×By×By×Int)(w h:Int)(c:By)(a:It)(nx:Int)(hb:BG nx l)(crew:ADC)(st ou:By)(nw:Int)(n:Nat)(hn:Pa<=n):
  iter n (SU n (left,ended,r)) (0,w,h,c,a,nx,l,crew,left,st,ou,nw)=some ((ended.length:Int),w,h,c,a,nx,lk left ended l,crew,left,st,ou,nw):=by
 refine Ps (σ:=ADE) (SU n (left,ended,r)) (λi s=>((i:Int),w,h,c,a,nx,s,crew,left,st,ou,nw)) ended (λq s=>((ended.length:Int),w,h,c,a,nx,lk left q s,crew,left,st,ou,nw)) (λ_ s=>BG nx s) (λs _=>?_) (λi id q s hi hx _ _ hs=>?_) n ADF l hb
 ·unfold SU;dsimp only;rw[show decide ((ended.length:Int)<(ended.length:Int))=false by rw[AAn];omega];rfl
 ·left;have he:ended[i]=id:=by rw[AAI hi]at hx;exact Option.some.inj hx
  obtain⟨j,e3⟩:=mL left hl ended hi r (w,h,c,a,nx,s,crew,left,st,ou,nw) n hn;rw[he]at e3;obtain⟨b,ef⟩:=a7 hs id n hn;refine⟨bif(left.any λt=>t.1==id) || !XH s id then s else R7 s id 2,?_,?_,rfl⟩
  ·unfold SU;dsimp only;rw[show decide ((i:Int)<(ended.length:Int))=true by rw[AAe];clear hn;omega];simp only[ABR,e3,ABQ,PX hi,ABU,hx,ef,PR hi (show ended.length<=9223372036854775807 by clear hn;omega)];grind
  ·cases(left.any λt=>t.1==id) || !XH s id
   ·exact hs.Dh id ⟨J,J⟩
   ·exact hs
theorem iV:∀(ps:AAD)(ou:By),(∀p∈ps,1<=p.2.2/\p.2.2<=1000)->OB 1000000 ou->OB 1000000 (jc ou ps)
 | [],ou,_,h=>h
 |p::ps,ou,hp,h=>by
  have h1:=hp p AAk;have h2:=h.getD J p.2.1.toNat;refine iV ps _ (λq hq=>hp q (AAM _ hq)) ?_;dsimp only;split
  ·rename_i hle;exact h.set (ACF _) _ ⟨J,hle⟩
  ·exact h
theorem de(l:ADE):∀(ts:AAH)(s:mP),(QZ l ts s).2.2.2.2.length<=s.2.2.2.2.length+ts.length
 | [],s=>AAb _
 |t::ts,s=>by
  have ih:=de l ts (Qy l t s)
  have h1:(Qy l t s).2.2.2.2.length<=s.2.2.2.2.length+1:=by
   unfold Qy;split
   ·dsimp only;cases(RN s.1 s.2.1 l s.2.2.1 t).2.2.2 with
    |none=>simp only[ABA,ABX];omega
    |some _=>dsimp only;omega
   ·dsimp only;omega
  have hun:QZ l (t::ts) s=QZ l ts (Qy l t s):=rfl;grind
theorem mJ(crew0:ADC)(ts:AAH)(w h:Int)(c:By)(hsm:Qi (nx,l))(d:DK a nx l crew ts)(ts0:AAH)(st:By)(hou:OB 1000000 ou)(nw:Int)(n:Nat)(hn:Pa<=n):
  iter n (SS n (crew0,ts)) ([],[],0,w,h,c,a,nx,l,crew,ts0,st,ou,nw)=some ((QZ l ts (a,ou,crew,[],[])).2.2.2.1,(QZ l ts (a,ou,crew,[],[])).2.2.2.2,(ts.length:Int),w,h,c,(QZ l ts (a,ou,crew,[],[])).1,nx,l,(QZ l ts (a,ou,crew,[],[])).2.2.1,ts0,st,(QZ l ts (a,ou,crew,[],[])).2.1,nw):=by
 have h60:=(RY.1 d.Ws).1
 refine Ps (σ:=mP) (SS n (crew0,ts)) (λi s=>(s.2.2.2.1,s.2.2.2.2,(i:Int),w,h,c,s.1,nx,l,s.2.2.1,ts0,st,s.2.1,nw)) ts (λq s=>((QZ l q s).2.2.2.1,(QZ l q s).2.2.2.2,(ts.length:Int),w,h,c,(QZ l q s).1,nx,l,(QZ l q s).2.2.1,ts0,st,(QZ l q s).2.1,nw))
  (λi s=>DK s.1 nx l s.2.2.1 (s.2.2.2.1++ts.drop i)/\OB 1000000 s.2.1/\s.2.2.2.2.length<=i/\s.2.2.2.1.length<=i) (λs hs=>?_) (λi t q s hi hx hd1 hd2 hs=>?_) n ADF (a,ou,crew,[],[]) ⟨by simpa using d,hou,OF,OF⟩
 ·unfold SS;dsimp only;rw[show decide ((ts.length:Int)<(ts.length:Int))=false by rw[AAn];omega];rfl
 ·left;obtain⟨hD,hO,hE,hL⟩:=hs;rw[hd1]at hD;obtain⟨sa,so,sc,sl,se⟩:=s;dsimp only at hD hO hE hL ⊢;have uX:∀y:Pm,decide (sl.length+[y].length<=E8)=true:=λy=>TG J;have hrow2:∀y:Int,decide (se.length+[y].length<=E8)=true:=λy=>TG J;have hwi:PV ((i:Int)+1)=((i+1:Nat):Int):=PR hi (show ts.length<=9223372036854775807 by omega);have zd:=hD.n20;have hdec:decide ((i:Int)<(ts.length:Int))=true:=by rw[AAe];clear hn;omega
  refine⟨Qy l t (sa,so,sc,sl,se),?_,?_,rfl⟩
  ·unfold SS;dsimp only;rw[hdec];simp only[ABR,PX hi,ABU,hx,ABQ]
   have hrob:∃x6,Sc n sc t.2.2.1=some x6/\(t.2.2.2≠1->∃k,∃hk:k<sc.length,x6=(k:Int)/\Te sc t.2.2.1=some sc[k]):=by
    rw[cO];rcases W0 sc J t.2.2.1 n hn with⟨e,yO⟩|⟨k,hk,ek,ev⟩
    ·refine⟨_,e,λh1=>?_⟩;obtain⟨r,hr,_⟩:=(hD.tk t (AAR _ AAk)).cz h1;exact(yO r (QA hr).1 (QA hr).2).elim
    ·refine⟨_,ev,λ_=>⟨k,hk,rfl,?_⟩⟩;rw[<-ek];exact Xd hD.ids hk
   obtain⟨x6,e6,hk6⟩:=hrob;rw[e6,ABQ];unfold Qy YF;dsimp only;by_cases h1:t.2.2.2=1
   ·grind
   ·obtain⟨k,hk,rfl,hr⟩:=hk6 h1;rw[show(t.2.2.2 != 1)=true from AB4.2 h1,show(t.2.2.2==1)=false from ABY.2 h1,hr];simp only[ABR,PX hk,ABU,AAI hk,ABQ,ABq,ABp];cases hg:(sc[k].2.1==sc[k].2.2.1)with
    |false=>
     grind
    |true=>
     rw[AAP rfl,ABR];obtain⟨t',ev,et,hu⟩:=aL w h c hD hsm h1 ts0 st hO nw n hn;rw[ev];cases hq:(RN sa so l sc t).2.2.2 with
     |none=>simp only[ABQ,Option.isNone,ABR,hrow2,hwi,et,eT,AA1]
     |some u=>
      have:=hu u hq;subst this;simp only[ABQ,Option.isNone,ABS,uX,ABR,hwi,eT]
  ·rw[hd2];unfold Qy;by_cases hg:YF sc t=true
   ·rw[AAP hg]
    have ht:t.2.2.2≠1:=λe=>by unfold YF at hg;rw[show(t.2.2.2==1)=true from AAT.2 e]at hg;simp at hg
    have hgo:=hD.jM ht so;refine⟨?_,?_,?_,?_⟩
    ·show DK _ nx l _ ((sl++eT _)++q);rw[ABi];exact hgo
    ·show OB 1000000 (RN sa so l sc t).2.1;unfold RN;split
     ·exact hO
     ·split
      ·dsimp only;cases(SE ZJ sa (QG l t)).2
       ·exact hO
       ·exact iV _ so (λp hp=>by have:=gA d.bk t p hp;exact⟨this.2.1,this.2.2⟩) hO
      ·exact hO
    ·show(match(RN sa so l sc t).2.2.2 with|some _=>se|none=>se++[t.1]).length<=i+1;cases(RN sa so l sc t).2.2.2 with
     |none=>simp only[ABA,ABX];clear hn;omega
     |some _=>dsimp only;clear hn;omega
    ·show(sl++eT (RN sa so l sc t).2.2.2).length<=i+1;cases(RN sa so l sc t).2.2.2 with
     |none=>simp only[eT,AA1];clear hn;omega
     |some _=>simp only[eT,ABA,ABX];clear hn;omega
   grind
theorem aO(d:DI w h c a nx l crew ts)(st:By)(hou:UA ou)(nw:Int)(n:Nat)(hn:Pa+1000<=n):
  ∃crew2,CW c crew2/\crew2.length=(sendAll a crew ts (Qd w h c a crew ts)).1.length/\(∀k (h1:k<(sendAll a crew ts (Qd w h c a crew ts)).1.length) (h2:k<crew2.length),crew2[k].1=(sendAll a crew ts (Qd w h c a crew ts)).1[k].1/\crew2[k].2.2.1=(sendAll a crew ts (Qd w h c a crew ts)).1[k].2.2.1/\crew2[k].2.2.2.1=(sendAll a crew ts (Qd w h c a crew ts)).1[k].2.2.2.1)/\
   Xj n w h c (sendAll a crew ts (Qd w h c a crew ts)).1=some crew2/\
   WJ n w h c a nx l crew ts st ou nw=some (w,h,c,(RM a ou l crew2 (sendAll a crew ts (Qd w h c a crew ts)).2).1,nx,(RM a ou l crew2 (sendAll a crew ts (Qd w h c a crew ts)).2).2.2.1,(RM a ou l crew2 (sendAll a crew ts (Qd w h c a crew ts)).2).2.2.2.1,(RM a ou l crew2 (sendAll a crew ts (Qd w h c a crew ts)).2).2.2.2.2,st,(RM a ou l crew2 (sendAll a crew ts (Qd w h c a crew ts)).2).2.1,PV (nw+1)):=by
 have hB:Pa<=n:=AA2 (ACB _ _) hn;have zd:c.length<=1048576:=by have:=(TS d.fl).le;clear hn hB;omega
 have ym:=d.cw.n20;have h60:=(RY.1 d.Ws).1;have hd:=fJ zd d.fl a crew ts;have ds:=d.jn hd (Zf hd.n1 hd.n2);have e1:=aF zd d.st.sm (show crew.length<=1048576 by omega) (show ts.length<=1048576 by omega) n hB (w:=w) (h:=h);rw[kH d.fl d.st d.cw d.Ws]at e1;obtain⟨out,a1,a2,a3,a4,a5⟩:=kD zd ds.fl ds.cw n hn;have da:=ds.pj a3 a4 a5;have h60s:=(RY.1 da.Ws).1;have hL1:=mJ (sendAll a crew ts (Qd w h c a crew ts)).1 (sendAll a crew ts (Qd w h c a crew ts)).2 w h c d.bg.sm da.uD ts st hou.ob (PV (nw+1)) n hB;have hdone:=DI.QZ (sendAll a crew ts (Qd w h c a crew ts)).2 (a,ou,out,[],[]) da;have zj:(QZ l (sendAll a crew ts (Qd w h c a crew ts)).2 (a,ou,out,[],[])).2.2.2.1.length<=1048576:=by have:=(RY.1 hdone.Ws).1;clear hn hB;omega
 have hl3:(QZ l (sendAll a crew ts (Qd w h c a crew ts)).2 (a,ou,out,[],[])).2.2.2.2.length<=1048576:=by have:=de l (sendAll a crew ts (Qd w h c a crew ts)).2 (a,ou,out,[],[]);dsimp only[List.length_nil]at this;clear hn hB;omega
 refine⟨out,a3,a4,a5,a1,?_⟩;unfold WJ;rw[e1,ABQ];rw[a2,ABQ,hL1,ABQ];rw[mK _ zj _ hl3 _ w h c _ nx d.bg _ st _ _ n hB,ABQ];rfl
theorem aN(w h:Int)(c:By)(ha:Pf a)(hb:BG nx l)(hc:CW c crew)(ts:AAH)(st ou:By)(nw:Int){t:Pm}(hg:P6 t=true)(n:Nat)(hn:Pa<=n):
  ∃b,TM n w h c a nx l crew ts st ou nw t.1 t.2.1 t.2.2.1 t.2.2.2=some b/\(b=true↔Sl a l crew t):=by
 have hal:=ha.1;have zd:=hc.n20;have hsm:=hb.sm;obtain⟨⟨s1,s4⟩,hrz⟩:=bZ hg;unfold TM;cases ho:QR l t.1 with
 |none=>
  have hm:∀x∈l,x.1≠t.1:=λx hx e=>by unfold QR at ho;have:=ACI.1 ho x hx;rw[e]at this;simp at this
  have hf:=V2 nx l hsm.1 t.1 hm n hn;rw[ZD]at hf;rw[hf];refine⟨false,rfl,(λe=>by cases e),λhT=>?_⟩;obtain⟨o,e,_⟩:=hT.ord;grind
 |some o=>
  obtain⟨i,hi,e1,e2,ef⟩:=Z6 hb.bk hsm ho n hn;rw[ef,ABQ,show decide ((i:Int)<0)=false by grind,ABS];simp only[PS hi,e1,ABQ];by_cases wc:o.2.2.2.2=1
  case neg=>
   rw[show(o.2.2.2.2 != 1)=true from AB4.2 wc];refine⟨false,rfl,(λe=>by cases e),λhT=>?_⟩;obtain⟨o2,e,e2,_⟩:=hT.ord;grind
  rw[show(o.2.2.2.2 != 1)=false by rw[wc];rfl,ABS];have hpx:=Ro a J t.2.1 n hn;rw[hpx.1,ABQ];rcases hpx.2 with⟨e,yO⟩|⟨j,hj,e,ej⟩
  ·rw[e];refine⟨false,rfl,(λe=>by cases e),λhT=>?_⟩;obtain⟨q,hq⟩:=hT.Pj;exact(yO q (TF hq).1 (TF hq).2).elim
  have wg:o.2.2.2.1.length<=1048576:=(hsm.2 o (Qe ho).1).2
  have hplen:(Su o.2.2.2.1).length<=1048576:=by have:=Xb o.2.2.2.1 [];unfold Su;simp only[ACG]at this;clear hn;omega
  rw[e,show decide ((j:Int)<0)=false by grind,ABS,Wj o.2.2.2.1 wg n hn,ABQ,QO _ hplen _ n hn];simp only[ABQ];cases hany:(Su o.2.2.2.1).any (λx=>x==t.2.1)with
  |false=>
   refine⟨false,rfl,(λe=>by cases e),λhT=>?_⟩;obtain⟨o2,e,_,p,hp,ep⟩:=hT.ord;rw[ho]at e;injection e with e
   rw[<-e]at hp;rw[<-ABm]at hany;exact(hany (AA5.2 ⟨_,Xc.2 ⟨p,hp,rfl⟩,AAT.2 ep⟩)).elim
  |true=>
   obtain⟨y,hy,ey⟩:=AA5.1 hany;obtain⟨p,hp,ep⟩:=Xc.1 hy;have hord:∃o,QR l t.1=some o/\o.2.2.2.2=1/\∃p∈o.2.2.2.1,p.1=t.2.1:=⟨_,ho,wc,p,hp,ep.trans (AAT.1 ey)⟩;have hpod:∃q,XZ a t.2.1=some q:=Xu ⟨_,ABT hj,ej⟩;rw[ABZ,ABS];by_cases h1:t.2.2.2=1
   ·rw[show(t.2.2.2==1)=true from AAT.2 h1,ABR];exact⟨true,rfl,λ_=>⟨hord,hpod,λe=>(e h1).elim⟩,λ_=>rfl⟩
   ·rw[show(t.2.2.2==1)=false from ABY.2 h1,ABS,cO];rcases W0 crew J t.2.2.1 n hn with⟨e1,yO⟩|⟨k,hk,ek,e1⟩
    ·rw[e1];refine⟨false,rfl,(λe=>by cases e),λhT=>?_⟩;obtain⟨r,q1,_⟩:=hT.cz h1;exact(yO r (QA q1).1 (QA q1).2).elim
    ·have vt:=Xd hc.ids hk;rw[ek]at vt;rw[e1,ABQ,show decide ((k:Int)>=0)=true by grind,ABR];simp only[PS hk,ABQ,VC w h c ha hb.bk hsm crew ts st ou nw t ⟨o,ho⟩ hpod n hn]
     have hT:Sl a l crew t↔crew[k].2.2.1=TX a l t/\crew[k].2.2.2.1=decide (2<t.2.2.2):=by
      constructor
      ·intro hT;obtain⟨r,q1,q2,q3⟩:=hT.cz h1;grind
      ·rintro ⟨q2,q3⟩
       exact⟨hord,hpod,λ_=>⟨_,vt,q2,q3⟩⟩
     rw[hT];by_cases hgo:crew[k].2.2.1=TX a l t
     ·rw[show(crew[k].2.2.1==TX a l t)=true from AAT.2 hgo,ABR];exact⟨crew[k].2.2.2.1==decide (2<t.2.2.2),rfl,λq=>⟨hgo,AAT.1 q⟩,λq=>AAT.2 q.2⟩
     ·rw[show(crew[k].2.2.1==TX a l t)=false from ABY.2 hgo];exact⟨false,rfl,(λe=>by cases e),λhh=>(hgo hh.1).elim⟩
theorem Wm(l:By)(hl:l.length<=1048576)(n:Nat)(hn:Pa<=n):∃b,Sy n l=some b/\(b=true↔UA l):=by
 unfold Sy;by_cases h51:l.length=51
 case neg=>
  rw[show(((l.length:Nat):Int) != 51)=true from AB4.2 J];exact⟨false,rfl,(λe=>by cases e),λq=>(h51 q.1).elim⟩
 have h0:0<l.length:=J
 rw[show(((l.length:Nat):Int) != 51)=false by rw[h51];rfl,ABS,show(0:Int)=((0:Nat):Int)from rfl,PS h0,ABQ,ABQ];by_cases hz:l[0]=0
 case neg=>
  rw[show(l[0] != ((0:Nat):Int))=true from AB4.2 hz];refine⟨false,rfl,(λe=>by cases e),λq=>?_⟩;have:=q.2.2;grind
 rw[show(l[0] != ((0:Nat):Int))=false by rw[hz];rfl,ABS]
 have h1:=TU (Sh l) l (λx=>P8 x 0 1000000) (λi x hi hx=>by
  have wF:l[i]=x:=by rw[AAI hi]at hx;exact Option.some.inj hx
  unfold Sh;rw[show decide ((i:Int)<(l.length:Int))=true by rw[AAe];omega,ABR,PS hi,ABQ,wF,Qh,ABQ,PR hi (show l.length<=9223372036854775807 by omega)];grind) (by unfold Sh;simp) n ADF
 rw[show((0:Nat):Int)=0 from rfl,h1];refine⟨l.all λx=>P8 x 0 1000000,No,?_⟩;rw[AAW];constructor
 ·intro q;exact⟨h51,λx hx=>Xp.1 (q x hx),No⟩
 ·intro q x hx;exact Xp.2 (q.2.1 x hx)
theorem TH(w h:Int)(c:By)(hc:c.length<=1048576)(a:It)(ha:Pq a)(nx:Int)(l:ADE)(hl:BG nx l)(crew:ADC)(hcr:crew.length<=1048576)(ts:AAH)(hts:ts.length<=1048576)(st ou:By)(wc:st.length<=1048576)(hou:ou.length<=1048576)(nw:Int)(n:Nat)(hn:Pa<=n):
  ∃b,Qv n w h c a nx l crew ts st ou nw=some b/\(b=true↔nP w h c a nx l crew ts st ou nw):=by
 obtain⟨k1,f1,i1⟩:=Wm st wc n hn;obtain⟨k2,f2,i2⟩:=Wm ou hou n hn;unfold Qv;rw[P3 w h c hc n hn,P9 a ha n hn,hl.spec n hn,Wg w h c hc crew hcr n hn,X8 ts hts n hn,f1,f2];simp only[ABQ,Qh];have no:∀ {P:Prop},¬P->∃b,(some false:Option Bool)=some b/\(b=true↔P):=λhp=>⟨false,rfl,(λe=>by cases e),λq=>(hp q).elim⟩;cases e1:Ph w h c with
 |false=>exact no λd=>by rw[d.fl]at e1;cases e1
 |true=>
 cases e2:P2 a with
 |false=>exact no λd=>by rw[P1.2 d.sW]at e2;cases e2
 |true=>
 cases e4:TR w h c crew with
 |false=>exact no λd=>by rw[Uy.2 ⟨d.fl,d.cw⟩]at e4;cases e4
 |true=>
 cases e5:Sk ts with
 |false=>exact no λd=>by rw[Vj.2 d.Ws]at e5;cases e5
 |true=>
 cases e6:k1 with
 |false=>exact no λd=>by rw[i1.2 d.c1]at e6;cases e6
 |true=>
 cases e7:k2 with
 |false=>exact no λd=>by rw[i2.2 d.c2]at e7;cases e7
 |true=>
 cases e8:P8 nw 0 1000000 with
 |false=>exact no λd=>by rw[Xp.2 d.now]at e8;cases e8
 |true=>
 have hS:=P1.1 e2;have hC:=(Uy.1 e4).2;have hT:=Vj.1 e5;have hgood:=(RY.1 hT).2.1;simp only[ABZ,ABS,ABQ]
 let val:Nat->Bool:=λi=>match ts[i]? with
  |some t=>(TM n w h c a nx l crew ts st ou nw t.1 t.2.1 t.2.2.1 t.2.2.2).getD false
  |none=>false
 have wW:∀i (hi:i<ts.length),TM n w h c a nx l crew ts st ou nw ts[i].1 ts[i].2.1 ts[i].2.2.1 ts[i].2.2.2=some (val i)/\(val i=true↔Sl a l crew ts[i]):=λi hi=>by obtain⟨b,e,ib⟩:=aN w h c hS hl hC ts st ou nw (hgood _ (ABT hi)) n hn;grind
 have h1:=Qp (T1 n w h c a nx l crew ts st ou nw) (λk=>(k:Int)) ts.length val (λi hi=>by
  unfold T1;rw[show decide ((i:Int)<(ts.length:Int))=true by rw[AAe];clear hn;omega,ABR,PS hi,ABQ,(wW i hi).1,ABQ,PR hi (show ts.length<=9223372036854775807 by clear hn;omega)];grind) (by unfold T1;simp) n ADF
 rw[show((0:Nat):Int)=0 from rfl]at h1;rw[h1];refine⟨(List.range ts.length).all val,No,?_⟩;rw[AAW];constructor
 ·intro q;refine⟨e1,hS,hl.bk,hC,hT,i1.1 e6,i2.1 e7,Xp.1 e8,λt ht=>?_⟩;obtain⟨i,hi,rfl⟩:=ABV.1 ht;grind
 ·intro d i hi;have hi:=AAX.1 hi;exact(wW i hi).2.2 (d.tk _ (ABT hi))
structure DZ(c:By)(a:It)(crew:ADC)(ts:AAH)(st ou:By):Prop where
 c1:c.length<=1048576
 a1:Pq a
 r1:crew.length<=1000000
 t1:ts.length<=1000000
 s1:st.length<=1000000
 o1:ou.length<=1000000
theorem DI.z(d:DI w h c a nx l crew ts)(h1:UA st)(h2:UA ou):DZ c a crew ts st ou:=by have q1:=(TS d.fl).le;have q2:=d.cw.n20;have q3:=(RY.1 d.Ws).1;have q4:=h1.1;have q5:=h2.1;exact⟨J,d.st.sm,J,J,J,J⟩
theorem Vp(w h:Int)(hl:Qi (nx,l))(z:DZ c a crew ts st ou)(nw:Int)(n:Nat)(hn:Pa<=n):TL n w h c a nx l crew ts st ou nw=some (w,h,c,a,nx,l,crew,ts,st,ou,nw):=by obtain⟨c1,a1,r1,t1,s1,o1⟩:=z;unfold TL;rw[YZ w h c c1,ABQ,Pg a a1 n hn,ABQ,SP nx l hl n hn,ABQ,U9 No,U9 No,U9 No,U9 No];rfl
theorem ZR(w h:Int)(hl:Qi (nx,l))(z:DZ c a crew ts st ou)(nw:Int)(n:Nat)(hn:Pa<=n):WY n w h c a nx l crew ts st ou nw=some (w,h,c,a,nx,l,crew,ts,st,ou,nw):=by obtain⟨c1,a1,r1,t1,s1,o1⟩:=z;unfold WY Ta YL Tb;rw[ZS w h c c1,ABQ,QJ a a1 n hn,ABQ,U1 nx l hl n hn,ABQ,U9 J,U9 J,U9 J,U9 J];rfl
theorem a8(w h:Int)(c:By)(hl:c.length<=1048576)(hf:Ph w h c=true)(i:Int)(n:Nat)(hn:Pa<=n):W5 n w h c i=some (bif P8 i 0 ((c.length:Int)-1)then c.getD i.toNat 0 else 0):=by
 unfold W5 S0;rw[P3 w h c hl n hn,hf,show PV ((c.length:Int)-1)=(c.length:Int)-1 from PY J J];simp only[Qh,ABQ,ABZ,ABS,ABR];cases hb:P8 i 0 ((c.length:Int)-1)with
 |false=>rfl
 |true=>
  obtain⟨m,rfl,hm⟩:=XG hb;simp[PS hm,hm]
theorem jQ(h:(bif P8 i 0 ((c.length:Int)-1)then c.getD i.toNat 0 else 0)=3):QQ c i=true:=by unfold QQ;grind
theorem BG.opened(h:BG nx l):BG nx (Q8 l):=by
 have hm:∀o∈Q8 l,o∈l:=λo ho=>by unfold Q8 at ho;grind
 obtain⟨b1,b2,b3,b4⟩:=h.bk;exact⟨⟨b1,by unfold Q8;grind,by unfold Q8;grind,λo ho=>b4 o (hm o ho)⟩,λo ho=>h.KU o (hm o ho),λo ho=>h.cD o (hm o ho)⟩
theorem cT(h:BG nx l)(n:Nat)(hn:Pa<=n):Wk n nx l=some (nx,Q8 l):=by
 have hlen:=h.bk.2.1;have hsm:=h.sm;unfold Wk;rw[h.spec n hn,ABQ]
 have hc:=Ps (σ:=ADE) (VU l) (λi s=>((i:Int),nx,s)) l (λr s=>((l.length:Int),nx,s++Q8 r)) (λi s=>s.length<=i)
  (λs hs=>by simp[VU,Q8]) (λi y r s h1 h2 h3 h4 h5=>by
   left;have hy:l[i]=y:=by rw[AAI h1]at h2;exact Option.some.inj h2
   unfold VU;dsimp only;rw[show decide ((i:Int)<(l.length:Int))=true by simpa using h1,ABR,PS h1,hy,ABQ,PR h1 J];cases hq:(y.2.2.2.2==1)with
   |true=>
    have hyo:Zg y:=hsm.2 y (by rw[<-hy];exact ABT h1)
    have hcp:QC y.1 y.2.1 y.2.2.1 y.2.2.2.1 y.2.2.2.2=some y:=by have q1:=hyo.1;have q2:=hyo.2;unfold QC;rw[U9 (by simp;unfold gD at q1;clear hn;omega),U9 (by simp;unfold gE at q2;clear hn;omega)];rfl
    rw[ABR,ABQ,hcp,ABQ];have hr:decide (s.length+1<=E8)=true:=TG J;simp only[ABX,hr,ABR,ABQ];exact⟨s++[y],rfl,by rw[ABA,ABX];omega,by simp[Q8,hq]⟩
   |false=>
    rw[ABS,ABQ];exact⟨s,rfl,J,by simp[Q8,hq]⟩)
  n ADF [] OF
 grind
theorem BG.impl(h:BG nx l)(n:Nat)(hn:Pa<=n):Qz n nx l=some true:=by obtain⟨b,e,ib⟩:=Tp h.sm n hn;rw[e,ib.2 h.bk]
theorem bj(h:BG nx l)(n:Nat)(hn:Pa<=n):Xk n nx l=some (nx,Q8 l):=by
 have hlen:=h.bk.2.1;have hsm:=h.sm;unfold Xk;rw[h.impl n hn,ABQ]
 have hc:=Ps (σ:=ADE) (VI l) (λi s=>((i:Int),nx,s)) l (λr s=>((l.length:Int),nx,s++Q8 r)) (λi s=>s.length<=i)
  (λs hs=>by simp[VI,Q8]) (λi y r s h1 h2 h3 h4 h5=>by
   left;have hy:l[i]=y:=by rw[AAI h1]at h2;exact Option.some.inj h2
   unfold VI;dsimp only;rw[show decide ((i:Int)<(l.length:Int))=true by simpa using h1,ABR,PS h1,hy,ABQ,PR h1 J];cases hq:(y.2.2.2.2==1)with
   |true=>
    rw[ABR,Ub y (hsm.2 y (by rw[<-hy];exact ABT h1)),ABQ];have hr:decide (s.length+1<=E8)=true:=TG J;simp only[ABX,hr,ABR,ABQ];exact⟨s++[y],rfl,by rw[ABA,ABX];omega,by simp[Q8,hq]⟩
   |false=>
    rw[ABS,ABQ];exact⟨s,rfl,J,by simp[Q8,hq]⟩)
  n ADF [] OF
 grind
theorem cP(s:It)(hs:Pq s)(hb:BG nx l)(h30:l.length=30)(desk:Int)(it:ADB)(n:Nat)(hn:Pa<=n):Sv n s nx l desk it=some (s,nx,l,0):=by unfold Sv;rw[SP nx l hb.sm n hn,ABQ,P9 s hs n hn,hb.spec n hn];simp only[ABQ,Qh,Pg s hs n hn];grind
theorem bd(s:It)(hs:Pq s)(hb:BG nx l)(h30:l.length=30)(desk:Int)(it:ADB)(hit:it.length<=1000)(n:Nat)(hn:Pa<=n):UI n s nx l desk it=some (s,nx,l,0):=by unfold UI;rw[Qr s hs n hn,hb.impl n hn];simp only[ABQ,Vt,Qh,QJ s hs n hn,U1 nx l hb.sm n hn,Rh it (show it.length<=1048576 by clear hn;omega) n hn];grind
theorem XV(nx:Int)(hsm:Qi (nx,l))(hp:l.Pairwise λa b=>a.1<b.1){i:Nat}(hi:i<l.length)(n:Nat)(hn:Pa<=n):UY n nx l l[i].1=some (l[i].1,l[i].2.1,l[i].2.2.1,l[i].2.2.2.1,l[i].2.2.2.2,true):=by unfold UY;rw[YU nx l hsm.1 hp i hi n hn,ABQ,show decide ((i:Int)<0)=false by grind,ABS,PS hi,ABQ,Ub l[i] (hsm.2 _ (ABT hi)),ABQ]
def kB(w h:Int)(c:By)(a:It)(nx:Int)(l:ADE)(crew:ADC)(ts:AAH)(st ou:By)(nw desk:Int)(it:ADB)(r:Int×Int×By×It×Int×ADE×ADC×AAH×By×By×Int×Int):Prop:=
 r=(w,h,c,a,nx,l,crew,ts,st,ou,nw,0)\/∃o l',(l'=l\/l'=Q8 l)/\l'.length<=29/\nP w h c a nx l crew ts st ou nw/\dV a nx l' desk it o/\QQ c desk=true/\(bif P8 desk 0 ((c.length:Int)-1)then c.getD desk.toNat 0 else 0)=3/\ts.length+(Su o).length<=60/\
  r=(w,h,c,Pz a (tp o),nx+1,l'++[(nx,desk,it,o,1)],crew,ts++(Su o).map (λx=>(nx,x,(0:Int),(1:Int))),st,ou,nw,nx)
theorem jF(w h:Int)(hb:BG nx l)(z:DZ c a crew ts st ou)(nw desk:Int)(it:ADB)(hit:it.length<=1000)(n:Nat)(hn:Pa<=n):
  ∃r,Yn n w h c a nx l crew ts st ou nw desk it=some r/\dt n w h c a nx l crew ts st ou nw desk it=some r/\kB w h c a nx l crew ts st ou nw desk it r:=by
 obtain⟨b1,e1,i1⟩:=TH w h c z.c1 a z.a1 nx l hb crew (by have:=z.r1;omega) ts (by have:=z.t1;omega) st ou (by have:=z.s1;omega) (by have:=z.o1;omega) nw n hn;obtain⟨b2,e2,i2⟩:=XT w h c z.c1 a z.a1 nx l hb.sm crew (by have:=z.r1;omega) ts (by have:=z.t1;omega) st ou (by have:=z.s1;omega) (by have:=z.o1;omega) nw n hn;have hbb:b1=b2:=No
 subst hbb;have hl30:=hb.bk.2.1;unfold Yn dt;rw[Vp w h hb.sm z nw n hn,ZR w h hb.sm z nw n hn,ABQ,ABQ,e1,e2];dsimp only;have XI:∃r,(some (w,h,c,a,nx,l,crew,ts,st,ou,nw,(0:Int)):Option (Int×Int×By×It×Int×ADE×ADC×AAH×By×By×Int×Int))=some r/\(some (w,h,c,a,nx,l,crew,ts,st,ou,nw,(0:Int)):Option (Int×Int×By×It×Int×ADE×ADC×AAH×By×By×Int×Int))=some r/\kB w h c a nx l crew ts st ou nw desk it r:=⟨_,rfl,rfl,.inl rfl⟩;cases b1 with
 |false=>exact XI
 |true=>
 have D:=i1.1 rfl;simp only[ABQ,ABZ,ABS];rw[a8 w h c z.c1 D.fl desk n hn,aq w h c z.c1 D.fl desk n hn,ABQ,ABQ];generalize hk:(bif P8 desk 0 ((c.length:Int)-1)then c.getD desk.toNat 0 else 0)=kd;by_cases h3:kd=3
 case neg=>
  grind
 rw[show(kd != 3)=false by rw[h3];rfl];simp only[ABQ,ABS]
 obtain⟨l',wB,uZ,hsw1,hsw2⟩:∃l',(l'=l\/l'=Q8 l)/\BG nx l'/\(bif((l.length:Int)==30)then(Wk n nx l).bind λx6=>some (x6.1,x6.2)else some (nx,l))=some (nx,l')/\(bif decide ((l.length:Int)>=30)then(Xk n nx l).bind λx6=>some (x6.1,x6.2)else some (nx,l))=some (nx,l'):=by
  by_cases h30:l.length=30
  ·refine⟨Q8 l,.inr rfl,hb.opened,?_,?_⟩
   ·rw[show((l.length:Int)==30)=true by rw[AAT];clear hn;omega,ABR,cT hb n hn];rfl
   ·rw[show decide ((l.length:Int)>=30)=true by rw[AAe];clear hn;omega,ABR,bj hb n hn];rfl
  grind
 rw[hsw1,hsw2,ABQ,ABQ];dsimp only;by_cases h29:l'.length<=29
 case neg=>
  have h30:l'.length=30:=by have:=uZ.bk.2.1;clear hn;omega
  rw[cP a z.a1 uZ h30 desk it n hn,bd a z.a1 uZ h30 desk it hit n hn];exact XI
 have hq:nO nx l':=⟨uZ.sm,h29,uZ.KU,λ_=>uZ.cD⟩;obtain⟨r,a1,a2,a3⟩:=fA a z.a1 hq desk it hit n hn;rw[a1,a2,ABQ,ABQ];rcases a3 with rfl|⟨o,T,rfl⟩
 ·exact XI
 unfold pd;dsimp only;have hnx:=T.bk.1;have uR:=T.lt;have yf:=T.book h29;have h72:=T.cD;have h6:=T.im.2.2;have hsm2:Qi (nx+1,l'++[(nx,desk,it,o,1)]):=gF uZ.sm J (nx,desk,it,o,1) J No;have hli:l'.length<(l'++[(nx,desk,it,o,1)]).length:=by rw[ABA,ABX];exact Nat.lt_succ_self _
 have ud:(l'++[((nx,desk,it,o,1):Pv)])[l'.length]?=some (nx,desk,it,o,1):=by rw[ABJ (AAb _),Nat.sub_self];rfl
 have hgetE:(l'++[((nx,desk,it,o,1):Pv)])[l'.length]=(nx,desk,it,o,1):=by rw[AAI hli]at ud;exact Option.some.inj ud
 have hoo:=XV (nx+1) hsm2 yf.2.2.1 hli n hn;rw[hgetE]at hoo;dsimp only at hoo;have hw:PV (((l'++[((nx,desk,it,o,1):Pv)]).length:Int)-1)=(l'.length:Int):=by rw[ABA,ABX,PY J J];clear hn;omega
 have hpo:o.length<=1048576:=ADI
 have t1:=bC (nx,desk,it,o,1) hpo n hn;have t2:=aw (nx,desk,it,o,1) hpo n hn;dsimp only at t1 t2
 have wg:(Su o).length<=72:=by have:=Xb o [];unfold Su;simp only[ACG]at this;clear hn;omega
 have h60:=(RY.1 D.Ws).1;rw[show(nx==0)=false by grind,ABS,ABS,hw,PX hli,ABR,ABU,ud];simp only[ABQ,hoo,t1,t2];rw[ABt,PY (n:=(ts.length:Int)+((Su o).length:Int)) J J];by_cases hle:ts.length+(Su o).length<=60
 case neg=>
  grind
 rw[show decide ((ts.length:Int)+((Su o).length:Int)>60)=false by grind,ABS,U9 J];exact⟨_,rfl,rfl,.inr ⟨o,l',wB,h29,D,T,jQ (hk.trans h3),hk.trans h3,hle,rfl⟩⟩
theorem TE{α γ σ:Type}{f:α->Option (α⊕γ)}{st:Nat->σ->α}{fin:σ->γ}(m:Nat)(Inv:Nat->σ->Prop)(hend:∀s,Inv m s->f (st m s)=some (.inr (fin s)))(hstep:∀i,i<m->∀s,Inv i s->∃s',f (st i s)=some (.inl (st (i+1) s'))/\Inv (i+1) s')
  (n:Nat) (hn:m<n) (s0:σ) (h0:Inv 0 s0):∃s,Go.Ev.iter n f (st 0 s0)=some (fin s)/\Inv m s:=by
 have key:∀(r i:Nat)(s:σ)(n:Nat),i+r=m->Inv i s->r<n->∃s',Go.Ev.iter n f (st i s)=some (fin s')/\Inv m s':=by
  intro r
  induction r with
  |zero=>
   intro i s n hi hI hn;obtain⟨n,rfl⟩:∃k,n=k+1:=⟨n-1,J⟩;have:i=m:=J
   subst this;exact⟨s,Pw (hend s hI) n,hI⟩
  |succ r ih=>
   intro i s n hi hI hn;obtain⟨n,rfl⟩:∃k,n=k+1:=⟨n-1,J⟩;obtain⟨s',e,hI'⟩:=hstep i J s hI;rw[RO e];exact ih (i+1) s' n J hI' J
 exact key m 0 s0 n J h0 hn
def XL(qs:AAD)(out:ADB):Prop:=out.Pairwise (λa b=>a.1<b.1)/\(∀x∈out,x.2=Rf x.1 qs/\∃p∈qs,p.2.1=x.1)/\∀p∈qs,∃x∈out,x.1=p.2.1
theorem XL.nil:XL [] []:=⟨.nil,(λx hx=>by cases hx),λx hx=>by cases hx⟩
theorem iz(k:Int){l m:AAD}(h:l.Sublist m):(∀p∈m,1<=p.2.2)->Rf k l<=Rf k m:=by
 induction h with
 |slnil=>intro _;exact ACF _
 |cons a h ih=>
  intro hm;have h1:=ih λp hp=>hm p (AAM _ hp);have h2:=hm a AAk;simp only[Rf];cases a.2.1==k<;>simp<;>omega
 |cons_cons a h ih=>
  intro hm;have h1:=ih λp hp=>hm p (AAM _ hp);simp only[Rf];omega
theorem ck(k:Int)(qs:AAD)(p:PQ):Rf k (qs++[p])=Rf k qs+bif p.2.1==k then p.2.2 else 0:=by rw[Zq];simp[Rf]
theorem XL.hit{qs:AAD}{out:ADB}(h:XL qs out){p:PQ}{k:Nat}(hk:k<out.length)(he:out[k].1=p.2.1)(f:Pk->Pk)(hf:f out[k]=(out[k].1,out[k].2+p.2.2)):XL (qs++[p]) (out.modify k f):=by
 obtain⟨h1,h2,h3⟩:=h;have hp:=ABL.1 h1;have ud:∀j (hj:j<(out.modify k f).length),(out.modify k f)[j]=if k=j then f (out[j]'(by simpa using hj))else out[j]'(by simpa using hj):=λj hj=>by rw[List.getElem_modify]
 have key:∀j (hj:j<out.length),((out.modify k f)[j]'(by simpa using hj)).1=out[j].1:=λj hj=>by
  rw[ud];split
  ·rename_i e;subst e;rw[hf]
  ·rfl
 refine⟨ABL.2 λi j hi hj zN=>?_,λx hx=>?_,λq hq=>?_⟩
 ·rw[ACH]at hi hj;rw[key i hi,key j hj];exact hp i j hi hj zN
 ·obtain⟨j,hj,rfl⟩:=ABu hx;rw[ACH]at hj;obtain⟨a1,q,a2,a3⟩:=h2 _ (ABT hj);rw[key j hj,ck];refine⟨?_,q,AAU _ a2,a3⟩;rw[ud];by_cases e:k=j
  ·subst e;rw[AAP rfl,hf,show(p.2.1==out[k].1)=true by rw[he];simp];show out[k].2+p.2.2=_;rw[a1];rfl
  ·rw[AAQ e]
   have uV:out[j].1≠p.2.1:=by
    rw[<-he];rcases ABH e with q|q
    ·have:=hp k j hk hj q;omega
    ·have:=hp j k hj hk q;omega
   rw[show(p.2.1==out[j].1)=false by rw[ABY];exactλe=>uV e.symm,a1];simp
 ·rcases ABG.1 hq with hq|hq
  ·obtain⟨x,hx,e⟩:=h3 q hq;obtain⟨j,hj,rfl⟩:=ABu hx;exact⟨_,ABT ADW,by rw[key j hj];exact e⟩
  ·rw[ABI.1 hq];exact⟨_,ABT (by simpa using hk),by rw[key k hk];exact he⟩
theorem XL.qB{qs:AAD}{out:ADB}(h:XL qs out){p:PQ}{k:Nat}(hk:k<=out.length)(vr:∀x∈out.take k,x.1<p.2.1)(xm:∀x∈out.drop k,p.2.1<x.1):XL (qs++[p]) ((out.take k++[p.2])++out.drop k):=by
 obtain⟨h1,h2,h3⟩:=h
 have uV:∀x∈out,x.1≠p.2.1:=λx hx=>by
  rw[<-AB2 k out]at hx;rcases ABG.1 hx with hx|hx
  ·have:=vr x hx;omega
  ·have:=xm x hx;omega
 have xR:∀x,x∈(out.take k++[p.2])++out.drop k↔x∈out\/x=p.2:=λx=>by
  conv=>rhs;rw[<-AB2 k out]
  simp only[ABG,ABI];constructor
  ·rintro ((h|h)|h)
   ·exact .inl (.inl h)
   ·exact .inr h
   ·exact .inl (.inr h)
  ·rintro ((h|h)|h)
   ·exact .inl (.inl h)
   ·exact .inr h
   ·exact .inl (.inr h)
 refine⟨?_,λx hx=>?_,λq hq=>?_⟩
 ·rw[ABe,ABe];refine⟨⟨h1.sublist (List.take_sublist ..),ACN ..,λa ha b hb=>by rw[ABI.1 hb];exact vr a ha⟩,h1.sublist (List.drop_sublist ..),λa ha b hb=>?_⟩;have uZ:=xm b hb;rcases ABG.1 ha with ha|ha
  ·have:=vr a ha;omega
  ·rw[ABI.1 ha];exact uZ
 ·rcases(xR x).1 hx with hx|rfl
  ·obtain⟨a1,q,a2,a3⟩:=h2 x hx;refine⟨?_,q,AAU _ a2,a3⟩;rw[ck,show(p.2.1==x.1)=false by rw[ABY];exactλe=>uV x hx e.symm,a1];simp
  ·refine⟨?_,p,AAR _ AAk,rfl⟩;rw[ck,cj _ qs λq hq e=>?_]
   ·simp
   ·obtain⟨x,hx,e2⟩:=h3 q hq;exact uV x hx (e2.trans e)
 ·rcases ABG.1 hq with hq|hq
  ·obtain⟨x,hx,e⟩:=h3 q hq;exact⟨x,(xR x).2 (.inl hx),e⟩
  ·rw[ABI.1 hq];exact⟨p.2,(xR _).2 (.inr rfl),rfl⟩
theorem fx(out:ADB)(q:Int)(p:PQ)(hl:out.length<=1048576)(n:Nat)(hn:Pa<=n):∃k:Nat,Go.Ev.iter n (Q3 (out,q) p) 0=some (k:Int)/\k<=out.length/\(∀x∈out.take k,x.1<p.2.1)/\∀h:k<out.length,p.2.1<=out[k].1:=by
 have key:∀(r k m:Nat),k+r=out.length->(∀x∈out.take k,x.1<p.2.1)->r<m->∃j:Nat,Go.Ev.iter m (Q3 (out,q) p) (k:Int)=some (j:Int)/\j<=out.length/\(∀x∈out.take j,x.1<p.2.1)/\∀h:j<out.length,p.2.1<=out[j].1:=by
  intro r
  induction r with
  |zero=>
   intro k m hk hx hm;obtain⟨m,rfl⟩:∃j,m=j+1:=⟨m-1,J⟩;refine⟨k,Pw ?_ m,J,hx,λh=>J⟩;unfold Q3;rw[show decide ((k:Int)<((out,q).1.length:Int))=false by rw[AAn];show ¬(k:Int)<(out.length:Int);omega];rfl
  |succ r ih=>
   intro k m hk hx hm;obtain⟨m,rfl⟩:∃j,m=j+1:=⟨m-1,J⟩;have uR:k<out.length:=J
   have e0:Q3 (out,q) p (k:Int)=bif decide (out[k].1<p.2.1)then some (.inl ((k+1:Nat):Int))else some (.inr (k:Int)):=by
    unfold Q3;dsimp only;rw[show decide ((k:Int)<(out.length:Int))=true by rw[AAe];omega,ABR,PX uR,ABR,ABU,AAI uR,ABQ,ABQ,PR uR J]
   cases hc:decide (out[k].1<p.2.1)with
   |true=>
    rw[hc]at e0;rw[RO e0];refine ih (k+1) m J (λx hm=>?_) J;rw[ACK,AAI uR]at hm;rcases ABG.1 hm with hm|hm
    ·exact hx x hm
    ·rw[ABI.1 hm];exact AAu hc
   |false=>
    rw[hc]at e0;refine⟨k,Pw e0 m,J,hx,λ_=>?_⟩;have:=of_decide_eq_false hc;omega
 exact key out.length 0 n J OF ADF
theorem nL{α:Type}(l:List α)(k:Nat):sub l ((0:Int).toNat) ((k:Int).toNat)=l.take k:=by unfold sub;simp
theorem lL{α:Type}(l:List α)(k:Nat):sub l ((k:Int).toNat) ((l.length:Int).toNat)=l.drop k:=by unfold sub;rw[ABU,ABU,AB0 OF]
theorem fy(x1:Int×Int×ADB×AAD×Int×Bool)(W:By)(q:Int)(xV:∀p∈x1.2.2.2.1,1<=p.2.2/\Rf p.2.1 x1.2.2.2.1<=1000)(hl:x1.2.2.2.1.length<=1048576)(hW:W.length<=1048576)(n:Nat)(hn:Pa<=n):
  ∃out,Go.Ev.iter n (Rj n x1 (W,q)) (([]:ADB),0)=some (out,(x1.2.2.2.1.length:Int))/\XL (x1.2.2.2.1.filter λp => !(W.any λx=>x==p.1)) out:=by
 generalize hP:x1.2.2.2.1=ps at xV hl
 obtain⟨out,e,_,h⟩:=TE (f:=Rj n x1 (W,q)) (st:=λi (out:ADB)=>(out,(i:Int))) (fin:=λout=>(out,(ps.length:Int))) ps.length (λi out=>out.length<=i/\XL ((ps.take i).filter λp => !(W.any λx=>x==p.1)) out)
  (λout _=>by
   unfold Rj;dsimp only;rw[hP,show decide ((ps.length:Int)<(ps.length:Int))=false by simp];rfl)
  (λi hi out ⟨ho,hR⟩=>by
   have hp:=xV _ (ABT hi);have hig:Oi ps (i:Int)=true:=PX hi
   have wy:∀out',(show Option ADB from
     bif Oi ps (i:Int)then(ps[((i:Int).toNat)]?).bind λ(x12:PQ)=>(P5 n W x12.1).bind λ(x13:Bool)=>bif x13 then some out else
      (Go.Ev.iter n (Q3 (out,(i:Int)) x12) 0).bind λ(x17:Int)=>
      (show Option Bool from bif decide (x17<(out.length:Int))then bif Oi out x17 then(out[(x17.toNat)]?).bind λ(x18:Pk)=>some (x18.1==x12.2.1)else none else some false).bind λ(x19:Bool)=>
      bif x19 then bif Oi out x17 then(out[(x17.toNat)]?).bind λ(x20:Pk)=>bif Oi out x17 then some (List.modify out (x17.toNat) (λ(y:Pk)=>(y.1,(PV (x20.2+x12.2.2)))))else none else none
      else bif(decide (0<=(0:Int))&&decide ((0:Int)<=x17)&&decide (x17<=(out.length:Int)))then
       bif(decide ((sub out ((0:Int).toNat) (x17.toNat)).length<=E8))then
        bif(decide ((sub out ((0:Int).toNat) (x17.toNat)).length+[x12.2].length<=E8))then
         bif(decide (0<=x17)&&decide (x17<=(out.length:Int))&&decide ((out.length:Int)<=(out.length:Int)))then
          bif(decide (((sub out ((0:Int).toNat) (x17.toNat))++[x12.2]).length+(sub out (x17.toNat) ((out.length:Int).toNat)).length<=E8))then
           some (((sub out ((0:Int).toNat) (x17.toNat))++[x12.2])++(sub out (x17.toNat) ((out.length:Int).toNat)))
          else none else none else none else none else none
     else none)=some out'->Rj n x1 (W,q) (out,(i:Int))=some (.inl (out',((i+1:Nat):Int))):=λout' h=>by
    unfold Rj;dsimp only;rw[hP,show decide ((i:Int)<(ps.length:Int))=true by rw[AAe];omega,ABR,PR hi J];exact congrArg (λo=>Option.bind o λx11=>some (Sum.inl (x11,((i+1:Nat):Int)))) h
   have hq:(ps.take (i+1)).filter (λp => !(W.any λx=>x==p.1))=(ps.take i).filter (λp => !(W.any λx=>x==p.1))++(if W.any (λx=>x==ps[i].1)=true then []else [ps[i]]):=by
    rw[ACK,AAI hi,ACJ];congr 1;cases hw:W.any λx=>x==ps[i].1<;>simp[hw]
   have xm:=bo W hW ps[i].1 n hn;cases hw:W.any λx=>x==ps[i].1 with
   |true=>
    refine⟨out,wy out ?_,J,by rw[hq,hw];simpa using hR⟩;rw[hig,ABR,ABU,AAI hi];show((P5 n W ps[i].1).bind _)=_;rw[xm,hw];rfl
   |false=>
    obtain⟨k,ek,k1,k2,k3⟩:=fx out (i:Int) ps[i] J n hn;have hmr:E8=68719476736:=rfl;have hlen:=List.length_take (i:=k) (l:=out);by_cases hhit:∃h:k<out.length,out[k].1=ps[i].2.1
    ·obtain⟨hk,he⟩:=hhit
     have hw64:PV (out[k].2+ps[i].2.2)=out[k].2+ps[i].2.2:=by have h1:=(hR.2.1 _ (ABT hk)).1;have h2:=iz out[k].1 (l:=(ps.take i).filter λp => !(W.any λx=>x==p.1)) (m:=ps) (List.filter_sublist.trans (List.take_sublist ..)) λp hp=>(xV p hp).1;have h3:=WN out[k].1 ((ps.take i).filter λp => !(W.any λx=>x==p.1)) λp hp=>(xV p (AB5 (ABj.1 hp).1)).1;have h4:=bQ (ps:=ps) (λp hp=>(xV p hp).1) (ABT hi);rw[he]at h1 h2 h3;exact PY J J
     refine⟨_,wy (out.modify k λy=>(y.1,PV (out[k].2+ps[i].2.2))) ?_,by rw[ACH];omega,?_⟩
     ·rw[hig,ABR,ABU,AAI hi];show((P5 n W ps[i].1).bind _)=_;rw[xm,hw,ABQ,ABS,ek,ABQ,show decide ((k:Int)<(out.length:Int))=true by rw[AAe];omega,ABR,PX hk,ABR,ABU,AAI hk];show Option.bind (some (out[k].1==ps[i].2.1)) _=_;rw[ABQ,he,ABr,ABR,ABR,ABQ,ABR]
     ·rw[hq,hw];exact hR.hit hk he _ (by rw[hw64])
    ·have yO:(show Option Bool from bif decide ((k:Int)<(out.length:Int))then bif Oi out (k:Int)then(out[((k:Int).toNat)]?).bind λ(x18:Pk)=>some (x18.1==ps[i].2.1)else none else some false)=some false:=by
      by_cases hk:k<out.length
      ·rw[show decide ((k:Int)<(out.length:Int))=true by rw[AAe];omega,ABR,PX hk,ABR,ABU,AAI hk,ABQ,show(out[k].1==ps[i].2.1)=false by rw[ABY];exactλe=>hhit ⟨hk,e⟩]
      ·rw[show decide ((k:Int)<(out.length:Int))=false by rw[AAn];omega];rfl
     refine⟨_,wy ((out.take k++[ps[i].2])++out.drop k) ?_,?_,?_⟩
     ·rw[hig,ABR,ABU,AAI hi];show((P5 n W ps[i].1).bind _)=_;rw[xm,hw,ABQ,ABS,ek,ABQ];show Option.bind (show Option Bool from bif decide ((k:Int)<(out.length:Int))then bif Oi out (k:Int)then(out[((k:Int).toNat)]?).bind λ(x18:Pk)=>some (x18.1==ps[i].2.1)else none else some false) _=_
      rw[yO,ABQ,ABS,nL,lL,show(decide (0<=(0:Int))&&decide ((0:Int)<=(k:Int))&&decide ((k:Int)<=(out.length:Int)))=true by simp;omega,ABR,
       show decide ((out.take k).length<=E8)=true by rw[AAe];omega,ABR,show decide ((out.take k).length+[ps[i].2].length<=E8)=true by rw[AAe,ABX];omega,ABR,
       show(decide (0<=(k:Int))&&decide ((k:Int)<=(out.length:Int))&&decide ((out.length:Int)<=(out.length:Int)))=true by simp;omega,ABR,
       show decide ((out.take k++[ps[i].2]).length+(out.drop k).length<=E8)=true by rw[AAe,ABA,ABX,List.length_drop];omega,ABR]
     ·rw[ABA,ABA,ABX,List.length_drop];omega
     ·rw[hq,hw];refine hR.qB k1 k2 λx hx=>?_;obtain⟨j,hj,rfl⟩:=ABu hx;rw[List.length_drop]at hj;rw[List.getElem_drop];have hk:k<out.length:=J
      have h1:=k3 hk;have h2:out[k].1≠ps[i].2.1:=λe=>hhit ⟨hk,e⟩;rcases Nat.eq_zero_or_pos j with rfl|hj0
      ·simp only[AAx];omega
      ·have:=ABL.1 hR.1 k (k+j) hk J J;omega)
  n ADF [] ⟨AAb _,XL.nil⟩
 refine⟨out,e,?_⟩;rw[ABz]at h;exact h
def cy(ts:AAH)(id:Int):By:=(ts.filter λt=>t.1==id&&P8 t.2.2.2 1 3).map (·.2.1)
theorem jz(ts:AAH)(hts:ts.length<=1048576)(id:Int)(n:Nat)(hn:Pa<=n):Go.Ev.iter n (Ri ts id) (([]:By),0)=some (cy ts id,(ts.length:Int)):=by
 obtain⟨W,e,_,h⟩:=TE (f:=Ri ts id) (st:=λi (W:By)=>(W,(i:Int))) (fin:=λW=>(W,(ts.length:Int))) ts.length (λi W=>W.length<=i/\W=((ts.take i).filter λt=>t.1==id&&P8 t.2.2.2 1 3).map (·.2.1))
  (λW _=>by
   unfold Ri;dsimp only;rw[show decide ((ts.length:Int)<(ts.length:Int))=false by simp];rfl)
  (λi hi W ⟨hl,hW⟩=>by
   have hb:(show Option Bool from bif(ts[i].1==id)then(Po ts[i].2.2.2 1 3).bind λ(x7:Bool)=>some x7 else some false)=some (ts[i].1==id&&P8 ts[i].2.2.2 1 3):=by
    rw[Vt,Qh];cases ts[i].1==id<;>rfl
   have hnx:∀W',(bif(ts[i].1==id&&P8 ts[i].2.2.2 1 3)then(bif decide (W.length+[ts[i].2.1].length<=E8)then some (W++[ts[i].2.1])else none)else some W)=some W'->Ri ts id (W,(i:Int))=some (.inl (W',((i+1:Nat):Int))):=λW' h=>by unfold Ri;dsimp only;rw[show decide ((i:Int)<(ts.length:Int))=true by rw[AAe];omega,ABR,PS hi,ABQ,PR hi J];refine congrArg (λo=>Option.bind o λx5=>some (Sum.inl (x5,((i+1:Nat):Int)))) (a₂:=some W') ?_;show Option.bind (show Option Bool from bif(ts[i].1==id)then(Po ts[i].2.2.2 1 3).bind λ(x7:Bool)=>some x7 else some false) _=_;rw[hb,ABQ];exact h
   have hq:((ts.take (i+1)).filter λt=>t.1==id&&P8 t.2.2.2 1 3).map (·.2.1)=W++(if(ts[i].1==id&&P8 ts[i].2.2.2 1 3)=true then [ts[i].2.1]else []):=by
    rw[ACK,AAI hi,ACJ,List.map_append,hW];congr 1;cases hc:(ts[i].1==id&&P8 ts[i].2.2.2 1 3)<;>simp[hc]
   cases hc:(ts[i].1==id&&P8 ts[i].2.2.2 1 3)with
   |true=>
    rw[hc]at hq;refine⟨W++[ts[i].2.1],hnx _ ?_,by rw[ABA,ABX];omega,by rw[hq];rfl⟩;rw[hc,ABR,show decide (W.length+[ts[i].2.1].length<=E8)=true by rw[AAe,ABX];unfold E8;omega];rfl
   |false=>
    rw[hc]at hq;exact⟨W,hnx _ (by rw[hc];rfl),J,by rw[hq];simp⟩)
  n ADF [] ⟨AAb _,rfl⟩
 rw[ABz]at h;rw[h]at e;exact e
theorem ar(hB:Uv nx l)(hsm:Qi (nx,l))(ts:AAH)(hts:ts.length<=1048576){i:Nat}(hi:i<l.length)(w h:Int)(c:By)(a:It)(crew:ADC)(st ou:By)(nw:Int)(n:Nat)(hn:Pa<=n):
  ∃out,Wv n w h c a nx l crew ts st ou nw l[i].1=some out/\(l[i].2.2.2.2=3->out=[])/\(l[i].2.2.2.2≠3->XL (l[i].2.2.2.1.filter λp => !((cy ts l[i].1).any λx=>x==p.1)) out):=by
 have hof:=XV nx hsm hB.2.2.1 hi n hn;obtain⟨b,eb,ib⟩:=Tp hsm n hn;have hb:b=true:=ib.2 hB;subst hb;obtain⟨_,_,⟨⟨i1,i2,i3⟩,_⟩,⟨g1,g2⟩,_⟩:=hB.2.2.2 _ (ABT hi)
 have hlw:(cy ts l[i].1).length<=1048576:=by unfold cy;rw[ABt];exact AA2 (ABo ..) hts
 obtain⟨out,eo,ho⟩:=fy (l[i].1,l[i].2.1,l[i].2.2.1,l[i].2.2.2.1,l[i].2.2.2.2,true) (cy ts l[i].1) (ts.length:Int) (λp hp=>by
  obtain⟨h1,y,hy,e⟩:=g1 p hp;refine⟨h1,?_⟩;show Rf p.2.1 l[i].2.2.2.1<=1000;rw[<-e,g2 y hy];exact(i2 y hy).2.2.2) (hsm.2 _ (ABT hi)).2 hlw n hn
 unfold Wv;rw[hof,ABQ,eb];dsimp only;rw[ABQ,ABZ,ABS,ABS,ABQ];by_cases h3:l[i].2.2.2.2=3
 ·rw[show(l[i].2.2.2.2==3)=true by rw[h3];rfl];exact⟨[],rfl,λ_=>rfl,λh=>(h h3).elim⟩
 ·rw[show(l[i].2.2.2.2==3)=false by rw[ABY];exact h3,ABS,jz ts hts _ n hn,ABQ,eo,ABQ];exact⟨out,rfl,λh=>(h3 h).elim,λ_=>ho⟩
theorem lC:∀ {l m:ADB},l.Pairwise (λa b=>a.1<b.1)->m.Pairwise (λa b=>a.1<b.1)->(∀x,x∈l↔x∈m)->l=m
 | [],[],_,_,_=>rfl
 | [],b::m,_,_,h=>by have:=(h b).2 AAk;cases this
 |a::l,[],_,_,h=>by have:=(h a).1 AAk;cases this
 |a::l,b::m,hl,hm,h=>by
  obtain⟨l1,l2⟩:=ABf.1 hl;obtain⟨m1,m2⟩:=ABf.1 hm
  have hab:a=b:=by
   rcases AAf.1 ((h a).1 AAk)with e|ha
   ·exact e
   ·rcases AAf.1 ((h b).2 AAk)with e|hb
    ·exact e.symm
    ·have:=m1 a ha;have:=l1 b hb;omega
  subst hab;rw[lC l2 m2 λx=>⟨λhx=>?_,λhx=>?_⟩]
  ·rcases AAf.1 ((h x).1 (AAM _ hx))with e|hx'
   ·subst e;have:=l1 x hx;omega
   ·exact hx'
  ·rcases AAf.1 ((h x).2 (AAM _ hx))with e|hx'
   ·subst e;have:=m1 x hx;omega
   ·exact hx'
def fN(x y:Pk):Bool:=(y.1==x.1)&&(decide (x.2<=y.2)&&decide (x.2>0))
def px(o:Pv)(out:ADB):Prop:=(∀x∈out,o.2.2.1.any (fN x)=true)/\(o.2.2.2.2=2->out=o.2.2.1)/\(o.2.2.2.2=3->out=[])
theorem je{o:Pv}(ho:fC nx o){W:By}{out:ADB}(h3:o.2.2.2.2=3->out=[])(h:o.2.2.2.2≠3->XL (o.2.2.2.1.filter λp => !(W.any λx=>x==p.1)) out)(hW:o.2.2.2.2=2->W=[]):px o out:=by
 obtain⟨_,_,⟨⟨i1,i2,i3⟩,_⟩,⟨g1,g2⟩,_⟩:=ho;refine⟨λx hx=>?_,λh2=>?_,h3⟩
 ·by_cases hs:o.2.2.2.2=3
  ·rw[h3 hs]at hx;cases hx
  obtain⟨_,p2,_⟩:=h hs;obtain⟨e,p,hp,ep⟩:=p2 x hx;have hp':=(ABj.1 hp).1;obtain⟨n1,y,hy,ey⟩:=g1 p hp';have t1:=iz x.1 (l:=o.2.2.2.1.filter λp => !(W.any λx=>x==p.1)) List.filter_sublist λp hp=>(g1 p hp).1;have t2:=bQ (ps:=o.2.2.2.1.filter λp => !(W.any λx=>x==p.1)) (λp hp=>(g1 p (ABj.1 hp).1).1) hp;have t3:=g2 y hy;rw[ep]at t2;rw[ey,ep]at t3;refine AA5.2 ⟨y,hy,?_⟩;unfold fN;simp only[AAJ,AAT,AAe];exact⟨J,J,J⟩
 ·have hp:=h J;rw[hW h2]at hp;have hf:(o.2.2.2.1.filter λp => !(([]:By).any λx=>x==p.1))=o.2.2.2.1:=OF
  rw[hf]at hp;obtain⟨p1,p2,p3⟩:=hp;refine lC p1 i1 λx=>⟨λhx=>?_,λhx=>?_⟩
  ·obtain⟨e,p,hp,ep⟩:=p2 x hx;obtain⟨_,y,hy,ey⟩:=g1 p hp;have t3:=g2 y hy;rw[ey,ep,<-e]at t3;have:x=y:=Prod.ext J t3;rw[this];exact hy
  ·have t3:=g2 x hx;have n1:=(i2 x hx).2.2.1;by_cases yO:∃p∈o.2.2.2.1,p.2.1=x.1
   ·obtain⟨p,hp,ep⟩:=yO;obtain⟨z,hz,ez⟩:=p3 p hp;have e:=(p2 z hz).1;rw[ez,ep,t3]at e;have:x=z:=Prod.ext J e.symm;rw[this];exact hz
   ·rw[cj x.1 _ λp hp e=>yO ⟨p,hp,e⟩]at t3;omega
theorem j4(hp:l.Pairwise λa b=>a.1<b.1)(hts:∀t∈ts,Sl a l crew t){i:Nat}(hi:i<l.length)(h2:l[i].2.2.2.2=2):cy ts l[i].1=[]:=by
 unfold cy;rw[List.map_eq_nil_iff,List.filter_eq_nil_iff];intro t ht hc;obtain⟨o,ho,hs,_⟩:=(hts t ht).ord;obtain⟨hm,hid⟩:=Qe ho
 have hid':t.1=l[i].1:=by simp only[AAJ,AAT]at hc;exact hc.1
 obtain⟨j,hj,rfl⟩:=ABu hm
 have zN:j=i:=by
  rcases ABd j i with q|q|q
  ·have:=ABL.1 hp j i hj hi q;omega
  ·exact q
  ·have:=ABL.1 hp i j hi hj q;omega
 subst zN;omega
theorem fI(u:Nat)(h:u<10):bytesOf [(IntKind.wrap .u8 (PV (48+(u:Int))))]=[UInt8.ofNat (48+u)]:=by
 rw[PY J J]
 have:IntKind.wrap .u8 (48+(u:Int))=48+(u:Int):=by unfold IntKind.wrap;simp only[IntKind.bits,IntKind.signed];simp;omega
 rw[this];unfold bytesOf;simp only[ABE,List.map_nil,List.cons.injEq,and_true];congr 1
theorem bY(u:Nat)(h:u<=9223372036854775807):(Go.Lib.decDigits u).length<=21:=by have:=Go.Lib.itoa_length_le (u:Int) J J;rwa[Go.Lib.itoa_nonneg]at this
theorem lR:∀(u n:Nat),u<n->u<=9223372036854775807->QX n (u:Int)=some (Go.Lib.decDigits u):=by
 intro u
 induction u using Nat.strongRecOn with
 |_ u ih=>
  intro n hn hu;obtain⟨m,rfl⟩:∃m,n=m+1:=⟨n-1,J⟩;show(bif(decide ((u:Int)<0))then _ else bif(decide ((u:Int)<10))then _ else _)=_;rw[show decide ((u:Int)<0)=false by simp,ABS];by_cases h:u<10
  ·rw[show decide ((u:Int)<10)=true by simp;omega,ABR,fI u h,Go.Lib.decDigits,dif_pos h]
  ·rw[show decide ((u:Int)<10)=false by simp;omega,ABS];have e1:Int.tdiv (u:Int) 10=((u / 10:Nat):Int):=by rw[Int.tdiv_eq_ediv_of_nonneg J];omega
   have e2:Int.tmod (u:Int) 10=((u%10:Nat):Int):=by rw[Int.tmod_eq_emod_of_nonneg J];omega
   rw[e1,e2,PY J J,ih (u / 10) J m J J,fI (u%10) J];simp only[ABQ,ABD,ACG];have:=bY (u / 10) J;rw[show decide ((Go.Lib.decDigits (u / 10)).length+(0+1)<=4611686018427387904)=true by simp;omega,ABR]
   conv=>rhs;rw[Go.Lib.decDigits,dif_neg h]
def tx(x:Int):ADD:=Go.Lib.decDigits x.toNat
theorem eu(x:Int)(h0:0<=x)(h:x<=9223372036854775807):(tx x).length<=21:=bY _ J
theorem bP(x:Int)(h0:0<=x)(h:x<=9223372036854775807)(n:Nat)(hn:Pa<=n):QX n x=some (tx x):=by
 obtain⟨u,rfl⟩:∃u:Nat,x=u:=⟨x.toNat,J⟩;exact lR u n ADF J
theorem ZV(x:Int)(h0:0<=x)(h:x<=9223372036854775807):L8 x=some (tx x):=by unfold L8;rw[show(decide (-9223372036854775808<=x)&&decide (x<=9223372036854775807))=true by simp;omega,ABR];obtain⟨u,rfl⟩:∃u:Nat,x=u:=⟨x.toNat,J⟩;rw[Go.Lib.itoa_nonneg];rfl
theorem Sd{a b:Nat}(h:a+b<=1000000000):decide (a+b<=4611686018427387904)=true:=ADJ
theorem fK(W i:Nat)(hW:0<W):(i+1) / W=i / W+if i%W=W-1 then 1 else 0:=by
 have h:=Nat.div_add_mod i W;have hr:=Nat.mod_lt i hW;generalize i / W=q at h ⊢;generalize i%W=r at h hr ⊢;subst h;by_cases e:r=W-1
 ·rw[AAP e,show W*q+r+1=W*(q+1) by rw[Nat.mul_add];omega,Nat.mul_div_cancel_left _ hW]
 ·rw[AAQ e,Nat.add_assoc,Nat.mul_add_div hW,Nat.div_eq_of_lt J]
theorem eD{f:By×Int->Option ((By×Int)⊕(By×Int))}(W len:Nat)(hW:1<=W/\W<=10)(hl:len<=1000)(hend:∀out,f (out,(len:Int))=some (.inr (out,(len:Int))))
  (hstep:∀(i:Nat)(out:By),i<len->∃v:Int,f (out,(i:Int))=(show Option By from bif decide (out.length+[v].length<=E8)then bif((W:Int)==0)then none else bif(Int.tmod (i:Int) (W:Int)==PV ((W:Int)-1))then bif decide ((out++[v]).length+[(10:Int)].length<=E8)then some ((out++[v])++[10])else none else some (out++[v])else none).bind λx2=>some (.inl (x2,PV ((i:Int)+1))))
  (n:Nat) (hn:Pa<=n):∃out,Go.Ev.iter n f (([]:By),0)=some (out,(len:Int))/\out.length=len+len / W:=by
 refine TE (f:=f) (st:=λi (out:By)=>(out,(i:Int))) (fin:=λout=>(out,(len:Int))) len (λi out=>out.length=i+i / W) (λout _=>hend out) (λi hi out ho=>?_) n ADF [] OF;obtain⟨v,e⟩:=hstep i out hi;have hd:=Nat.div_le_self i W;have hmr:E8=68719476736:=rfl
 have hb:(Int.tmod (i:Int) (W:Int)==PV ((W:Int)-1))=decide (i%W=W-1):=by rw[PY J J,show Int.tmod (i:Int) (W:Int)=((i%W:Nat):Int)from rfl,ABx,AAT,AAe];omega
 rw[e,PR hi J,show decide (out.length+[v].length<=E8)=true by rw[AAe,ABX];omega,ABR,show((W:Int)==0)=false by rw[ABY];omega,ABS,hb];by_cases hc:i%W=W-1
 ·rw[ABW hc,ABR,show decide ((out++[v]).length+[(10:Int)].length<=E8)=true by rw[AAe,ABA,ABX,ABX];omega];refine⟨(out++[v])++[10],rfl,?_⟩;rw[ABA,ABA,ABX,ABX,fK W i J,AAP hc];omega
 ·rw[ABa hc,ABS];refine⟨out++[v],rfl,?_⟩;rw[ABA,ABX,fK W i J,AAQ hc];omega
theorem Ye(xs:By):(bytesOf xs).length=xs.length:=by unfold bytesOf;simp
theorem kP(xs:ADD):(Ci xs).length=xs.length:=by unfold Ci;simp
theorem dx{k:Int}(h:P8 k 0 4=true):∃b,Iy ([35,46,112,115,99]:ADD) k=some b:=by
 unfold P8 at h;simp only[AAJ,AAe]at h;obtain⟨m,rfl⟩:∃m:Nat,k=(m:Int):=⟨k.toNat,J⟩;have hm:m<([35,46,112,115,99]:ADD).length:=by show m<5;omega
 exact⟨_,PS hm⟩
theorem fS(hf:Ph w h c=true):∀k∈c,P8 k 0 4=true:=by unfold Ph at hf;simp only[AAJ]at hf;exact AAW.1 hf.2
theorem bm(hf:Ph w h c=true)(over:By)(ho:over.length=c.length)(n:Nat)(hn:Pa<=n):∃s,Xn n w h c over=some s/\s.length=c.length+c.length / w.toNat:=by
 have F:=TS hf;have hle:=F.le;obtain⟨W,rfl⟩:∃W:Nat,w=(W:Int):=⟨w.toNat,by have:=F.w1;omega⟩;have w1:=F.w1;have w2:=F.w2
 obtain⟨out,e,hl⟩:=eD (f:=VK (W:Int) c over) W c.length J J (λout=>by
  unfold VK;dsimp only;rw[show decide ((c.length:Int)<(c.length:Int))=false by simp];rfl) (λi out hi=>by
  obtain⟨b,hb⟩:=dx (fS hf _ (ABT hi));have wb:i<over.length:=J
  have uV:isNil over=false:=by
   cases over with
   |nil=>simp at wb
   |cons _ _=>rfl
  refine⟨bif over[i] != 0 then over[i]else(b.toNat:Int),?_⟩;unfold VK;dsimp only;rw[show decide ((i:Int)<(c.length:Int))=true by rw[AAe];omega,ABR,PS hi,ABQ,hb,ABQ,uV,ABS,PS wb,ABQ,ABQ,ABQ];cases over[i] != 0<;>rfl) n hn
 unfold Xn;rw[e,ABQ];exact⟨_,rfl,by rw[Ye];exact hl⟩
theorem ZH(hf:Ph w h c=true)(n:Nat)(hn:Pa<=n):∃s,Ui n w h c=some s/\s.length=c.length+c.length / w.toNat:=by
 have F:=TS hf;have hle:=F.le;have vH:=P3 w h c J n hn;obtain⟨W,rfl⟩:∃W:Nat,w=(W:Int):=⟨w.toNat,by have:=F.w1;omega⟩;have w1:=F.w1;have w2:=F.w2
 obtain⟨out,e,hl⟩:=eD (f:=Sg (W:Int) c) W c.length J J (λout=>by
  unfold Sg;dsimp only;rw[show decide ((c.length:Int)<(c.length:Int))=false by simp];rfl) (λi out hi=>by
  obtain⟨b,hb⟩:=dx (fS hf _ (ABT hi));refine⟨(b.toNat:Int),?_⟩;unfold Sg;dsimp only;rw[show decide ((i:Int)<(c.length:Int))=true by rw[AAe];omega,ABR,PS hi,ABQ,hb,ABQ];rfl) n hn
 unfold Ui;rw[vH,hf,ABQ,ABZ,ABS,e,ABQ];exact⟨_,rfl,by rw[Ye];exact hl⟩
def S5(t:Pm):ADD:=(((((((([111,114,100,101,114,32]++tx t.1)++[32,112,111,100,32])++tx t.2.1)++[32,114,111,98,111,116,32])++tx t.2.2.1)++[32,115,116,97,103,101,32])++tx t.2.2.2)++[10])
theorem ec{t:Pm}(h:P6 t=true):(1<=t.1/\t.1<=1000000)/\(1<=t.2.1/\t.2.1<=999)/\(0<=t.2.2.1/\t.2.2.1<=99)/\1<=t.2.2.2/\t.2.2.2<=4:=by unfold P6 at h;simp only[AAJ,AAe]at h;omega
theorem cf{t:Pm}(h:P6 t=true):(tx t.1).length<=21/\(tx t.2.1).length<=21/\(tx t.2.2.1).length<=21/\(tx t.2.2.2).length<=21/\(S5 t).length<=200:=by have i:=ec h;have l1:=eu t.1 J J;have l2:=eu t.2.1 J J;have l3:=eu t.2.2.1 J J;have l4:=eu t.2.2.2 J J;refine⟨l1,l2,l3,l4,?_⟩;unfold S5;simp only[ABA,ABD,ACG];omega
theorem cG(ht:TP ts)(hend:∀s,f (s,(ts.length:Int))=some (.inr (s,(ts.length:Int))))(hstep:∀(i:Nat)(h:i<ts.length)(s:ADD),s.length<=1000000->f (s,(i:Int))=some (.inl (s++S5 ts[i],((i+1:Nat):Int))))(s0:ADD)(h0:s0.length<=10000)(n:Nat)(hn:Pa<=n):
  ∃s,Go.Ev.iter n f (s0,0)=some (s,(ts.length:Int))/\s.length=s0.length+(ts.flatMap S5).length:=by
 have hlen:=ht.len
 obtain⟨s,e,_,h⟩:=TE (f:=f) (st:=λi (s:ADD)=>(s,(i:Int))) (fin:=λs=>(s,(ts.length:Int))) ts.length (λi s=>s.length<=10000+200*i/\s=s0++(ts.take i).flatMap S5) (λs _=>hend s) (λi hi s ⟨h1,h2⟩=>by
  have hg:=(cf (ht.fO i hi)).2.2.2.2;refine⟨s++S5 ts[i],hstep i hi s J,by rw[ABA];omega,?_⟩;rw[ACK,AAI hi,List.flatMap_append,<-ABi,<-h2];simp) n ADF s0 ⟨J,OF⟩
 refine⟨s,e,?_⟩;rw[h,ABz,ABA]
theorem bw(ht:TP ts)(i:Nat)(h:i<ts.length)(s:ADD)(hs:s.length<=1000000):TY ts (s,(i:Int))=some (.inl (s++S5 ts[i],((i+1:Nat):Int))):=by have hlen:=ht.len;obtain⟨l1,l2,l3,l4,l5⟩:=cf (ht.fO i h);have I:=ec (ht.fO i h);unfold TY;dsimp only;rw[show decide ((i:Int)<(ts.length:Int))=true by rw[AAe];omega,ABR,PS h,ABQ,ZV _ J J,ABQ,ZV _ J J,ABQ,ZV _ J J,ABQ,ZV _ J J,ABQ,PR h J];rw[Sd ADJ,Sd ADJ,Sd ADJ,Sd ADJ,Sd ADJ,Sd ADJ,Sd ADJ,Sd ADJ,Sd ADJ];rfl
theorem cW(ht:TP ts)(n:Nat)(hn:Pa<=n)(i:Nat)(h:i<ts.length)(s:ADD)(hs:s.length<=1000000):Tf n ts (s,(i:Int))=some (.inl (s++S5 ts[i],((i+1:Nat):Int))):=by have hlen:=ht.len;obtain⟨l1,l2,l3,l4,l5⟩:=cf (ht.fO i h);have I:=ec (ht.fO i h);unfold Tf;dsimp only;rw[show decide ((i:Int)<(ts.length:Int))=true by rw[AAe];omega,ABR,PS h,ABQ,bP _ J J n hn,ABQ,bP _ J J n hn,ABQ,bP _ J J n hn,ABQ,bP _ J J n hn,ABQ,PR h J];rw[Sd ADJ,Sd ADJ,Sd ADJ,Sd ADJ,Sd ADJ,Sd ADJ,Sd ADJ,Sd ADJ,Sd ADJ];unfold S5;simp only[ABi,ABR]
theorem dc{f:Int×By->Option ((Int×By)⊕(Int×By))}(m:Nat)(hend:∀o,f ((m:Int),o)=some (.inr ((m:Int),o)))(k:Nat)(hstep:∀(i:Nat)(o:By),i<m->o.length=k->∃o',f ((i:Int),o)=some (.inl (((i+1:Nat):Int),o'))/\o'.length=k)(o0:By)(h0:o0.length=k)(hm:m<=1000)(n:Nat)(hn:Pa<=n):
  ∃o,Go.Ev.iter n f (0,o0)=some ((m:Int),o)/\o.length=k:=
 TE (f:=f) (st:=λi (o:By)=>((i:Int),o)) (fin:=λo=>((m:Int),o)) m (λ_ o=>o.length=k) (λo _=>hend o) (λi hi o ho=>hstep i o hi ho) n ADF o0 h0
theorem bh(hf:Ph w h c=true)(hc:CW c crew)(ht:TP ts)(n:Nat)(hn:Pa<=n)(vH:S7 n w h c a nx l crew ts st ou nw=some true):
  ∃s,Uz n w h c a nx l crew ts st ou nw=some s/\s.length=(c.length+c.length / w.toNat)+(ts.flatMap S5).length:=by
 have F:=TS hf;have hle:=F.le;have hdle:=Nat.div_le_self c.length w.toNat;have hcn:=hc.n20
 obtain⟨o,eo,lo⟩:=dc (f:=VF crew) crew.length (λo=>by
  unfold VF;dsimp only;rw[show decide ((crew.length:Int)<(crew.length:Int))=false by simp];rfl) c.length (λi o hi ho=>by
  have hs:=hc.iE _ (ABT hi);unfold QQ at hs;rw[AAJ]at hs;obtain⟨m,hm,hml⟩:=XG hs.1;refine⟨DL o m (IntKind.wrap .u8 (PV (48+(Int.tmod crew[i].1 10)))),?_,by rw[CG];exact ho⟩;unfold VF;dsimp only;rw[show decide ((i:Int)<(crew.length:Int))=true by rw[AAe];omega,ABR,PS hi,ABQ,hm,PX J,ABR,PR hi J,ABU]) (List.replicate c.length 0) OF J n hn
 obtain⟨s,es,ls⟩:=bm hf o lo n hn
 obtain⟨r,er,lr⟩:=cG ht (f:=TY ts) (λs=>by
  unfold TY;dsimp only;rw[show decide ((ts.length:Int)<(ts.length:Int))=false by simp];rfl) (λi hi s hs=>bw ht i hi s hs) s J n hn
 unfold Uz
 rw[vH,ABQ,ABZ,ABS,show(decide (0<=(c.length:Int))&&decide ((c.length:Int)<=(E8:Int))&&decide ((c.length:Int)=(c.length:Int)))=true by
  have hmr:E8=68719476736:=rfl;rw[hmr];simp;omega,ABR,ABU,eo,ABQ,es,ABQ,er,ABQ]
 exact⟨r,rfl,by rw[lr,ls]⟩
theorem cR(hf:Ph w h c=true)(hc:CW c crew)(ht:TP ts)(n:Nat)(hn:Pa<=n)(vH:Qv n w h c a nx l crew ts st ou nw=some true):
  ∃s,Xx n w h c a nx l crew ts st ou nw=some s/\s.length=(c.length+c.length / w.toNat)+(ts.flatMap S5).length:=by
 have F:=TS hf;have hle:=F.le;have hdle:=Nat.div_le_self c.length w.toNat;have hcn:=hc.n20;obtain⟨s,es,ls⟩:=ZH hf n hn;obtain⟨W,rfl⟩:∃W:Nat,w=(W:Int):=⟨w.toNat,by have:=F.w1;omega⟩;have w1:=F.w1;rw[ABU]at ls hdle ⊢
 obtain⟨o,eo,lo⟩:=dc (f:=VQ (W:Int) crew) crew.length (λo=>by
  unfold VQ;dsimp only;rw[show decide ((crew.length:Int)<(crew.length:Int))=false by simp];rfl) (c.length+c.length / W) (λi o hi ho=>by
  have hs:=hc.iE _ (ABT hi);unfold QQ at hs;rw[AAJ]at hs;obtain⟨m,hm,hml⟩:=XG hs.1;have hmd:m / W<=c.length / W:=Nat.div_le_div_right J;have hmd2:=Nat.div_le_self m W;have htd:Int.tdiv (m:Int) (W:Int)=((m / W:Nat):Int):=rfl;generalize m / W=q at hmd hmd2 htd;refine⟨DL o (m+q) (IntKind.wrap .u8 (PV (48+(Int.tmod crew[i].1 10)))),?_,by rw[CG];exact ho⟩;unfold VQ;dsimp only
  rw[show decide ((i:Int)<(crew.length:Int))=true by rw[AAe];omega,ABR,PS hi,ABQ,show((W:Int)==0)=false by rw[ABY];omega,ABS,ABQ,hm,htd,PY (n:=(q:Int)) J J,PY (n:=(m:Int)+(q:Int)) J J,
   show(m:Int)+(q:Int)=((m+q:Nat):Int)from rfl,PX J,ABR,PR hi J,ABU]) (Ci s) (by rw[kP];exact ls) J n hn
 obtain⟨r,er,lr⟩:=cG ht (f:=Tf n ts) (λs=>by
  unfold Tf;dsimp only;rw[show decide ((ts.length:Int)<(ts.length:Int))=false by simp];rfl) (λi hi s hs=>cW ht n hn i hi s hs) (bytesOf o) (by rw[Ye];omega) n hn
 unfold Xx;rw[vH,ABQ,ABZ,ABS,es,ABQ,eo,ABQ,er,ABQ];exact⟨r,rfl,by rw[lr,Ye,lo]⟩
theorem cS(a:It)(hs:Pq a)(Pj k m:Int)(n:Nat)(hn:Pa<=n):Xy n a Pj k m=some (Xv a Pj k m):=by
 unfold Xy Xv;rw[Xq a hs Pj k m n hn,ABQ];by_cases hc:QE a Pj k m=0
 ·obtain⟨ha,hk,hm,i,hi,e1,e2,e3⟩:=Qt hc;have wc:=(ha.2.2 _ (ABT hi)).2.2;obtain⟨b1,b2,b3,b4,b5⟩:=UP wc k;rw[<-e3]at b1 b2 b3 b4 b5;have h8:=wc.2.2;rw[AAQ (show ¬QE a Pj k m≠0 by simp[hc]),AAQ (show ¬QE a Pj k m≠0 by simp[hc])];dsimp only;rw[show((0:Int) != 0)=false from rfl,ABS,PY (n:=(SZ a Pj k).2.1+m) J J,e1,PS hi,ABQ];have hlen:eY a Pj=a[i].2.2.length:=by unfold eY;grind
  rw[hlen];by_cases hgt:(SZ a Pj k).2.1+m>1000
  ·rw[ABW hgt,AAP (.inl hgt)];simp only[ABR,ABQ,Pg a hs n hn]
  ·rw[ABa hgt,ABS];by_cases hz:(SZ a Pj k).2.1=0
   ·rw[show((SZ a Pj k).2.1==0)=true from AAT.2 hz,ABR];by_cases h8e:a[i].2.2.length=8
    ·rw[AAP (.inr ⟨hz,h8e⟩),show((a[i].2.2.length:Int)==8)=true by rw[AAT];clear hn;omega];simp only[ABR,ABQ,Pg a hs n hn]
    ·rw[AAQ J,show((a[i].2.2.length:Int)==8)=false by rw[ABY];clear hn;omega];simp only[ABS,ABQ,Yk ha hi,Yk ha hi _ _ _ n hn,e2,b5]
   ·rw[show((SZ a Pj k).2.1==0)=false from ABY.2 hz,ABS,AAQ J];simp only[ABS,ABQ,Yk ha hi _ _ _ n hn,e2,b5]
 ·rw[AAP hc,AAP hc];dsimp only;rw[show(QE a Pj k m != 0)=true by grind,ABR,Pg a hs n hn];rfl
def mN(w h:Int)(c:By)(a:It)(nx:Int)(l:ADE)(crew:ADC)(ts:AAH)(st ou:By)(nw Pj k m:Int)(r:Int×Int×By×It×Int×ADE×ADC×AAH×By×By×Int×Int):Prop:=
 (∃e,(e≠0/\0<=e/\e<=4)/\r=(w,h,c,a,nx,l,crew,ts,st,ou,nw,e))\/(nP w h c a nx l crew ts st ou nw/\(Xv a Pj k m).2=0/\st.getD k.toNat 0+m<=1000000/\r=(w,h,c,(Xv a Pj k m).1,nx,l,crew,ts,st.set k.toNat (st.getD k.toNat 0+m),ou,nw,0))
theorem mf{Pj k m:Int}(h:(Xv a Pj k m).2=0):(1<=k/\k<=50)/\(1<=m/\m<=1000):=by obtain⟨_,h1,h2,_⟩:=Qt (jk h);omega
theorem nF(a:It)(Pj k m:Int):0<=(Xv a Pj k m).2/\(Xv a Pj k m).2<=4:=by
 have h:QE a Pj k m=0\/QE a Pj k m=1\/QE a Pj k m=2:=by
  unfold QE;cases P2 a&&(P8 k 1 50&&P8 m 1 1000)
  ·exact .inr (.inl rfl)
  ·by_cases hp:R5 a Pj<0
   ·rw[AAP hp];exact .inr (.inr rfl)
   ·rw[AAQ hp];exact .inl rfl
 unfold Xv;split
 ·omega
 ·split
  ·dsimp only;omega
  ·dsimp only;omega
theorem aI(w h:Int)(hb:BG nx l)(z:DZ c a crew ts st ou)(nw Pj k m:Int)(n:Nat)(hn:Pa<=n):
  ∃r,V9 n w h c a nx l crew ts st ou nw Pj k m=some r/\mN w h c a nx l crew ts st ou nw Pj k m r:=by
 obtain⟨b1,e1,i1⟩:=TH w h c z.c1 a z.a1 nx l hb crew (by have:=z.r1;omega) ts (by have:=z.t1;omega) st ou (by have:=z.s1;omega) (by have:=z.o1;omega) nw n hn;unfold V9;rw[Vp w h hb.sm z nw n hn,ABQ,e1,ABQ];dsimp only;cases b1 with
 |false=>exact⟨_,rfl,.inl ⟨1,J,rfl⟩⟩
 |true=>
 have D:=i1.1 rfl;rw[ABZ,ABS,cS a z.a1 Pj k m n hn,ABQ];by_cases h0:(Xv a Pj k m).2=0
 case neg=>
  rw[show((Xv a Pj k m).2 != 0)=true from AB4.2 h0];exact⟨_,rfl,.inl ⟨_,⟨h0,nF a Pj k m⟩,rfl⟩⟩
 obtain⟨⟨k1,k2⟩,m1,m2⟩:=mf h0;have h51:=D.c1.1;have hk:k.toNat<st.length:=ADI
 have hgi:Iy st k=some (st.getD k.toNat 0):=by obtain⟨j,rfl⟩:∃j:Nat,k=(j:Int):=⟨k.toNat,J⟩;rw[ABU]at hk ⊢;rw[PS hk];simp[hk]
 have w6:=D.c1.ob.getD J k.toNat;have hw:PV (st.getD k.toNat 0+m)=st.getD k.toNat 0+m:=PY J J;rw[show((Xv a Pj k m).2 != 0)=false by rw[h0];rfl,ABS,hgi,ABQ,hw];by_cases hle:st.getD k.toNat 0+m<=1000000
 ·rw[show decide (st.getD k.toNat 0+m>1000000)=false by grind,ABS,ABQ,eM ⟨J,J⟩,ABR,QH,hw];exact⟨_,rfl,.inr ⟨D,h0,hle,rfl⟩⟩
 ·rw[show decide (st.getD k.toNat 0+m>1000000)=true by rw[AAe];clear hn;omega];exact⟨_,rfl,.inl ⟨4,J,rfl⟩⟩
theorem Zj(ha:Pf a)(hb:BG nx l){id:Int}{o:Pv}(ho:QR l id=some o)(n:Nat)(hn:Pa<=n):
  VW n a nx l id=some (bif(o.2.2.2.2==1)&&(SE Z9 a o.2.2.2.1).2 then((SE Z9 a o.2.2.2.1).1,nx,R7 l id 3,true)else(a,nx,l,false)):=by
 have hsm:=hb.sm;obtain⟨i,hi,e1,e2,ef⟩:=Z6 hb.bk hsm ho n hn;have wg:o.2.2.2.1.length<=1048576:=(hsm.2 o (Qe ho).1).2;unfold VW;rw[SP nx l hsm n hn,ABQ,ef,ABQ,P9 a ha.sm n hn,P1.2 ha,hb.spec n hn];simp only[ABQ,ABZ,ABS,show decide ((i:Int)<0)=false by grind,PS hi,e1,Pg a ha.sm n hn,Yp a ha.sm o.2.2.2.1 wg n hn];cases hs:(o.2.2.2.2==1)with
 |false=>
  grind
 |true=>
  rw[show(o.2.2.2.2 != 1)=false by grind,ABS,ABp];cases(SE Z9 a o.2.2.2.1).2 with
  |false=>rfl
  |true=>simp only[ABZ,ABS,PX hi,ABR,ABU,eA hb.bk.2.2.1 hi,e1,e2]
def Vl(id:Int):AAH->AAH×Int->Option (AAH×Int)
 | [],s=>some s
 |t::r,s=>if t.1≠id then Vl id r (s.1++[t],s.2)else if t.2.2.2≠1 then none else Vl id r (s.1,s.2+1)
theorem Yv(id:Int):∀(ts:AAH)(s:AAH×Int),(Vl id ts s=none/\∃t∈ts,t.1=id/\t.2.2.2≠1)\/(Vl id ts s=some (s.1++ts.filter (λt => !(t.1==id)),s.2+((ts.filter λt=>t.1==id).length:Int))/\∀t∈ts,t.1=id->t.2.2.2=1)
 | [],s=>.inr ⟨by simp[Vl],(λt ht=>by cases ht)⟩
 |t::r,s=>by
  unfold Vl;by_cases h1:t.1=id
  ·rw[AAQ (by simp[h1])];by_cases h2:t.2.2.2=1
   ·rw[AAQ (by simp[h2])];rcases Yv id r (s.1,s.2+1)with⟨e,u,hu,hh⟩|⟨e,hh⟩
    ·exact .inl ⟨e,u,AAM _ hu,hh⟩
    ·refine .inr ⟨?_,λu hu=>?_⟩
     ·rw[e,ABv,ABv,show(t.1==id)=true from AAT.2 h1];simp;omega
     ·rcases AAf.1 hu with rfl|hu
      ·exactλ_=>h2
      ·exact hh u hu
   grind
  ·rw[AAP h1];rcases Yv id r (s.1++[t],s.2)with⟨e,u,hu,hh⟩|⟨e,hh⟩
   all_goals grind
theorem cU(ts:AAH)(hts:ts.length<=1000000)(id:Int)(w h:Int)(c:By)(a:It)(nx:Int)(l:ADE)(crew:ADC)(us:AAH)(st ou:By)(nw:Int)(n:Nat)(hn:Pa<=n):
  iter n (Ue ts id) (0,[],0,0,0,[],[],0,[],[],[],[],[],0,w,h,c,a,nx,l,crew,us,st,ou,nw)=some (match Vl id ts ([],0)with
   |none=>.inr (w,h,c,a,nx,l,crew,us,st,ou,nw,false)
   |some s=>.inl (s.2,s.1,(ts.length:Int),0,0,[],[],0,[],[],[],[],[],0,w,h,c,a,nx,l,crew,us,st,ou,nw)):=by
 refine Ps (σ:=AAH×Int) (Ue ts id) (λi s=>(s.2,s.1,(i:Int),0,0,[],[],0,[],[],[],[],[],0,w,h,c,a,nx,l,crew,us,st,ou,nw)) ts (λq s=>match Vl id q s with
   |none=>.inr (w,h,c,a,nx,l,crew,us,st,ou,nw,false)
   |some s=>.inl (s.2,s.1,(ts.length:Int),0,0,[],[],0,[],[],[],[],[],0,w,h,c,a,nx,l,crew,us,st,ou,nw)) (λi s=>s.1.length<=i/\0<=s.2/\s.2<=(i:Int)) (λs _=>?_) (λi t q s hi hx _ _ hs=>?_) n ADF ([],0) ⟨OF,OF,OF⟩
 ·unfold Ue Vl;grind
 ·have he:ts[i]=t:=by rw[AAI hi]at hx;exact Option.some.inj hx
  have hr:decide (s.1.length+[(t:Pm)].length<=E8)=true:=TG J;unfold Ue;dsimp only;rw[show decide ((i:Int)<(ts.length:Int))=true by rw[AAe];clear hn;omega];simp only[ABR,PS hi,he,ABQ,PR hi (show ts.length<=9223372036854775807 by omega)];by_cases h1:t.1=id
  ·rw[show(t.1 != id)=false by rw[h1];simp];by_cases h2:t.2.2.2=1
   ·left;refine⟨(s.1,s.2+1),?_,⟨No,J,J⟩,?_⟩
    ·rw[show(t.2.2.2 != 1)=false by rw[h2];rfl,PY (n:=s.2+1) J J];rfl
    ·rw[Vl,AAQ (by simp[h1]),AAQ (by simp[h2])]
   ·right;rw[show(t.2.2.2 != 1)=true from AB4.2 h2,Vl,AAQ (by simp[h1]),AAP h2];rfl
  ·left;refine⟨(s.1++[t],s.2),?_,⟨No,hs.2.1,J⟩,?_⟩
   ·grind
   ·rw[Vl,AAP h1]
structure j5(w h:Int)(c:By)(a:It)(nx:Int)(l:ADE)(crew:ADC)(ts:AAH)(st ou:By)(nw id:Int)(o:Pv):Prop where
 ok:nP w h c a nx l crew ts st ou nw
 ord:QR l id=some o
 tK:o.2.2.2.2=1
 sv:∀t∈ts,t.1=id->t.2.2.2=1
 num:(Su o.2.2.2.1).length<=(ts.filter λt=>t.1==id).length
 rel:(SE Z9 a o.2.2.2.1).2=true
abbrev j7:=Int×Int×By×It×Int×ADE×ADC×AAH×By×By×Int×Bool
def j6(w h:Int)(c:By)(a:It)(nx:Int)(l:ADE)(crew:ADC)(ts:AAH)(st ou:By)(nw id:Int)(r:j7):Prop:=
 (r=(w,h,c,a,nx,l,crew,ts,st,ou,nw,false)/\∀o,¬j5 w h c a nx l crew ts st ou nw id o)\/(∃o,j5 w h c a nx l crew ts st ou nw id o/\
  r=(w,h,c,(SE Z9 a o.2.2.2.1).1,nx,R7 l id 3,crew,ts.filter (λt => !(t.1==id)),st,ou,nw,true))
theorem dO(w h:Int)(hb:BG nx l)(z:DZ c a crew ts st ou)(nw id:Int)(n:Nat)(hn:Pa<=n):
  ∃r,Yl n w h c a nx l crew ts st ou nw id=some r/\j6 w h c a nx l crew ts st ou nw id r:=by
 obtain⟨b1,e1,i1⟩:=TH w h c z.c1 a z.a1 nx l hb crew (by have:=z.r1;omega) ts (by have:=z.t1;omega) st ou (by have:=z.s1;omega) (by have:=z.o1;omega) nw n hn;unfold Yl;rw[Vp w h hb.sm z nw n hn,ABQ,e1];dsimp only;have XI:(∀o,¬j5 w h c a nx l crew ts st ou nw id o)->∃r,(some (w,h,c,a,nx,l,crew,ts,st,ou,nw,false):Option j7)=some r/\j6 w h c a nx l crew ts st ou nw id r:=λyO=>⟨_,rfl,.inl ⟨rfl,yO⟩⟩;cases ho:QR l id with
 |none=>
  have hm:∀x∈l,x.1≠id:=λx hx e=>by unfold QR at ho;grind
  have hf:=V2 nx l hb.sm.1 id hm n hn;rw[ZD]at hf;rw[hf];cases b1<;>exact XI λo q=>by have:=q.ord;grind
 |some o=>
  obtain⟨i,hi,e2,e3,ef⟩:=Z6 hb.bk hb.sm ho n hn;rw[ef,ABQ];cases b1 with
  |false=>exact XI λo q=>by have:=i1.2 q.ok;cases this
  |true=>
  have D:=i1.1 rfl;have wg:o.2.2.2.1.length<=1048576:=(hb.sm.2 o (Qe ho).1).2;simp only[ABQ,ABZ,ABS,show decide ((i:Int)<0)=false by rw[AAn];clear hn;omega];rw[cU ts z.t1 id w h c a nx l crew ts st ou nw n hn,ABQ,Zj D.sW hb ho n hn];rcases Yv id ts ([],0)with⟨e,t,ht,ht1,ht2⟩|⟨e,hw⟩
  ·rw[e];exact XI λo q=>ht2 (q.sv t ht ht1)
  ·rw[e];dsimp only;rw[ABQ,AAv,Int.zero_add];cases hq:((o.2.2.2.2==1)&&(SE Z9 a o.2.2.2.1).2)with
   |false=>
    refine XI λo2 q=>?_;have:=q.ord;rw[ho]at this;injection this with this
    subst this;rw[q.tK,q.rel]at hq;cases hq
   |true=>
    have hq2:=Bool.and_eq_true_iff.1 hq;dsimp only[cond_true];simp only[ABZ,ABS,PS hi,e2,ABQ,Wj o.2.2.2.1 wg n hn];by_cases uR:(Su o.2.2.2.1).length<=(ts.filter λt=>t.1==id).length
    ·rw[show decide ((((ts.filter λt=>t.1==id).length:Nat):Int)<((Su o.2.2.2.1).length:Int))=false by rw[AAn];clear hn;omega];exact⟨_,rfl,.inr ⟨o,⟨D,ho,AAT.1 hq2.1,hw,uR,hq2.2⟩,rfl⟩⟩
    ·rw[show decide ((((ts.filter λt=>t.1==id).length:Nat):Int)<((Su o.2.2.2.1).length:Int))=true by rw[AAe];clear hn;omega];refine XI λo2 q=>?_;have:=q.ord;rw[ho]at this;injection this with this
     subst this;exact uR q.num
abbrev fB:=Int->Int->By->It->Int->ADE->ADC->AAH->By->By->Prop
structure dU(Q:fB):Prop where
 di:∀ {w h:Int} {c:By} {a:It} {nx:Int} {l:ADE} {crew:ADC} {ts:AAH} {st ou:By},Q w h c a nx l crew ts st ou->DI w h c a nx l crew ts/\UA st/\UA ou
 new:∀ {w h:Int} {c:By} {a:It},Ys w h c a=true->Q w h c a 1 [] (R8 (P7 c) (min (P7 c).length 20)) [] (Re a 50) (List.replicate 51 0)
 iw:∀ {w h:Int} {c:By} {a:It} {nx:Int} {l:ADE} {crew:ADC} {ts:AAH} {st ou:By},Q w h c a nx l crew ts st ou->Q w h c a nx (Q8 l) crew ts st ou
 take:∀ {w h:Int} {c:By} {a:It} {nx:Int} {l:ADE} {crew:ADC} {ts:AAH} {st ou:By} {desk:Int} {it:ADB} {o:AAD},Q w h c a nx l crew ts st ou->dV a nx l desk it o->QQ c desk=true->l.length<=29->ts.length+(Su o).length<=60->
  Q w h c (Pz a (tp o)) (nx+1) (l++[(nx,desk,it,o,1)]) crew (ts++(Su o).map λx=>(nx,x,(0:Int),(1:Int))) st ou
 back:∀ {w h:Int} {c:By} {a:It} {nx:Int} {l:ADE} {crew:ADC} {ts:AAH} {st ou:By} {id:Int} {o:Pv},Q w h c a nx l crew ts st ou->QR l id=some o->(∀t∈ts,t.1=id->t.2.2.2=1)->(Su o.2.2.2.1).length<=(ts.filter λt=>t.1==id).length->
  Q w h c (SE Z9 a o.2.2.2.1).1 nx (R7 l id 3) crew (ts.filter λt => !(t.1==id)) st ou
 rest:∀ {w h:Int} {c:By} {a:It} {nx:Int} {l:ADE} {crew:ADC} {ts:AAH} {st ou:By} {Pj k m:Int},Q w h c a nx l crew ts st ou->(Xv a Pj k m).2=0->st.getD k.toNat 0+m<=1000000->Q w h c (Xv a Pj k m).1 nx l crew ts (st.set k.toNat (st.getD k.toNat 0+m)) ou
 tick:∀ {w h:Int} {c:By} {a:It} {nx:Int} {l:ADE} {crew:ADC} {ts:AAH} {st ou:By} {crew2:ADC},Q w h c a nx l crew ts st ou->CW c crew2->crew2.length=(sendAll a crew ts (Qd w h c a crew ts)).1.length->
  (∀k (h1:k<(sendAll a crew ts (Qd w h c a crew ts)).1.length) (h2:k<crew2.length),crew2[k].1=(sendAll a crew ts (Qd w h c a crew ts)).1[k].1/\crew2[k].2.2.1=(sendAll a crew ts (Qd w h c a crew ts)).1[k].2.2.1/\crew2[k].2.2.2.1=(sendAll a crew ts (Qd w h c a crew ts)).1[k].2.2.2.1)->
  Q w h c (RM a ou l crew2 (sendAll a crew ts (Qd w h c a crew ts)).2).1 nx (RM a ou l crew2 (sendAll a crew ts (Qd w h c a crew ts)).2).2.2.1 (RM a ou l crew2 (sendAll a crew ts (Qd w h c a crew ts)).2).2.2.2.1 (RM a ou l crew2 (sendAll a crew ts (Qd w h c a crew ts)).2).2.2.2.2 st (RM a ou l crew2 (sendAll a crew ts (Qd w h c a crew ts)).2).2.1
def QI:fB:=λw h c a nx l crew ts st ou=>DI w h c a nx l crew ts/\UA st/\UA ou
theorem ju(a:It):UA (Re a 50)/\UA (List.replicate 51 0):=by
 refine⟨⟨XE a 50,λx hx=>?_,?_⟩,OF,λx hx=>?_,OF⟩
 ·obtain⟨i,hi,rfl⟩:=ABV.1 hx;have hi2:=hi;rw[XE]at hi2;have:=gH a (show i<=50 by omega);rw[AAI hi]at this;rw[Option.some.inj this];have hb:=gT a (i:Int);cases decide (1<=i)
  ·rw[ABS];omega
  ·rw[ABR];omega
 ·rw[gH a J];rfl
 grind
theorem UA.rest(h:UA st){Pj k m:Int}(hc:(Xv a Pj k m).2=0)(hm:st.getD k.toNat 0+m<=1000000):UA (st.set k.toNat (st.getD k.toNat 0+m)):=by obtain⟨⟨k1,k2⟩,m1,m2⟩:=mf hc;have hb:=h.ob.getD J k.toNat;exact h.set J ⟨J,hm⟩
theorem nj:dU QI where
 di:=λh=>h
 new:=λh=>⟨DI.new h,ju _⟩
 iw:=λh=>⟨h.1.iw,h.2⟩
 take:=λh T hd h29 hl=>⟨h.1.take T hd h29 hl,h.2⟩
 back:=λh _ _ _=>⟨h.1.back _ _,h.2⟩
 rest:=λh hc hm=>⟨h.1.mD _ _ _,h.2.1.rest hc hm,h.2.2⟩
 tick:=fun {w h c a nx l crew ts st ou crew2} q hc hl hs=>by
  have zd:c.length<=1048576:=by have:=(TS q.1.fl).le;omega
  have hd:=fJ zd q.1.fl a crew ts;have da:=(q.1.jn hd (Zf hd.n1 hd.n2)).pj hc hl hs;exact⟨da.RM ou,q.2.1,DI.cg (sendAll a crew ts (Qd w h c a crew ts)).2 (a,ou,crew2,[],[]) da q.2.2⟩
theorem jy{Q:fB}(K:dU Q)(n:Nat)(hn:Pa+1000<=n)(q:Q w h c a nx l crew ts st ou)(hnw:0<=nw/\nw<=900000)(i:Int)(hi:0<=i/\i<=5):
  Ok (iter n (Vq n) (i,w,h,c,a,nx,l,crew,ts,st,ou,nw)) λx=>Q x.2.1 x.2.2.1 x.2.2.2.1 x.2.2.2.2.1 x.2.2.2.2.2.1 x.2.2.2.2.2.2.1 x.2.2.2.2.2.2.2.1 x.2.2.2.2.2.2.2.2.1 x.2.2.2.2.2.2.2.2.2.1 x.2.2.2.2.2.2.2.2.2.2.1/\0<=x.2.2.2.2.2.2.2.2.2.2.2/\x.2.2.2.2.2.2.2.2.2.2.2<=nw+6:=by
 refine Ok.iter (λk x=>(x.1+1=(k:Int))/\x.1<=5/\Q x.2.1 x.2.2.1 x.2.2.2.1 x.2.2.2.2.1 x.2.2.2.2.2.1 x.2.2.2.2.2.2.1 x.2.2.2.2.2.2.2.1 x.2.2.2.2.2.2.2.2.1 x.2.2.2.2.2.2.2.2.2.1 x.2.2.2.2.2.2.2.2.2.2.1/\0<=x.2.2.2.2.2.2.2.2.2.2.2/\x.2.2.2.2.2.2.2.2.2.2.2+x.1<=nw+5) (λk x hx=>?_) (k:=(i+1).toNat) ⟨by show i+1=_;clear hn;omega,hi.2,q,hnw.1,by show nw+i<=nw+5;clear hn;omega⟩ ADF;obtain⟨xi,w,h,c,a,nx,l,crew,ts,st,ou,xn⟩:=x;obtain⟨h1,h5,hq,h3,h4⟩:=hx;dsimp only at h1 h5 hq h3 h4;unfold Vq;dsimp only;refine Ok.cond (λhb=>?_) λhb=>Ok.pure (.inr ⟨_,rfl,hq,h3,?_⟩)
 ·have hb:=AAu hb;obtain⟨d,c1,c2⟩:=K.di hq;obtain⟨crew2,a1,a2,a3,_,ev⟩:=aO d st c2 xn n hn;have q2:=K.tick hq a1 a2 a3;generalize RM a ou l crew2 (sendAll a crew ts (Qd w h c a crew ts)).2=E at q2 ev;rw[ev,ABQ];have hw:PV (xn+1)=xn+1:=PY ADI ADI;have hw2:PV (xi-1)=xi-1:=PY ADI ADI;rw[hw,hw2];refine Ok.pure (.inl ⟨_,rfl,k-1,⟨?_,?_,q2,?_,?_⟩,ADI⟩)
  ·show xi-1+1=_;clear hn;omega
  ·show xi-1<=5;clear hn;omega
  ·show 0<=xn+1;clear hn;omega
  ·show xn+1+(xi-1)<=_;clear hn;omega
 grind
def QD(Q:fB)(M:Int)(x:Int×Int×By×It×Int×ADE×ADC×AAH×By×By×Int):Prop:=Q x.1 x.2.1 x.2.2.1 x.2.2.2.1 x.2.2.2.2.1 x.2.2.2.2.2.1 x.2.2.2.2.2.2.1 x.2.2.2.2.2.2.2.1 x.2.2.2.2.2.2.2.2.1 x.2.2.2.2.2.2.2.2.2.1/\0<=x.2.2.2.2.2.2.2.2.2.2/\x.2.2.2.2.2.2.2.2.2.2<=M
theorem QD.take{Q:fB}(K:dU Q){M desk:Int}{it:ADB}(q:QD Q M (w,h,c,a,nx,l,crew,ts,st,ou,nw))(hr:kB w h c a nx l crew ts st ou nw desk it r):
  QD Q M (r.1,r.2.1,r.2.2.1,r.2.2.2.1,r.2.2.2.2.1,r.2.2.2.2.2.1,r.2.2.2.2.2.2.1,r.2.2.2.2.2.2.2.1,r.2.2.2.2.2.2.2.2.1,r.2.2.2.2.2.2.2.2.2.1,r.2.2.2.2.2.2.2.2.2.2.1):=by
 rcases hr with rfl|⟨o,l',hl,h29,_,T,hf,_,hle,rfl⟩
 ·exact q
 ·refine⟨?_,q.2⟩;rcases hl with rfl|rfl
  ·exact K.take q.1 T hf h29 hle
  ·exact K.take (K.iw q.1) T hf h29 hle
theorem QD.back{Q:fB}(K:dU Q){M id:Int}(q:QD Q M (w,h,c,a,nx,l,crew,ts,st,ou,nw)){r:j7}(hr:j6 w h c a nx l crew ts st ou nw id r):
  QD Q M (r.1,r.2.1,r.2.2.1,r.2.2.2.1,r.2.2.2.2.1,r.2.2.2.2.2.1,r.2.2.2.2.2.2.1,r.2.2.2.2.2.2.2.1,r.2.2.2.2.2.2.2.2.1,r.2.2.2.2.2.2.2.2.2.1,r.2.2.2.2.2.2.2.2.2.2.1):=by
 rcases hr with⟨rfl,_⟩|⟨o,B,rfl⟩
 ·exact q
 ·exact⟨K.back q.1 B.ord B.sv B.num,q.2⟩
theorem QD.rest{Q:fB}(K:dU Q){M Pj k m:Int}(q:QD Q M (w,h,c,a,nx,l,crew,ts,st,ou,nw))(hr:mN w h c a nx l crew ts st ou nw Pj k m r):
  QD Q M (r.1,r.2.1,r.2.2.1,r.2.2.2.1,r.2.2.2.2.1,r.2.2.2.2.2.1,r.2.2.2.2.2.2.1,r.2.2.2.2.2.2.2.1,r.2.2.2.2.2.2.2.2.1,r.2.2.2.2.2.2.2.2.2.1,r.2.2.2.2.2.2.2.2.2.2.1):=by
 rcases hr with⟨e,_,rfl⟩|⟨_,h0,hm,rfl⟩
 ·exact q
 ·exact⟨K.rest q.1 h0 hm,q.2⟩
theorem gi{Q:fB}(K:dU Q)(n:Nat)(hn:Pa+1000<=n){b:By}{q:Int}(hcu:Cu b i)(M:Int)(hM:M<=1000):Ok (WG n b i q M) λx=>QD Q 6000 (x.1,x.2.1,x.2.2.1,x.2.2.2.1,x.2.2.2.2.1,x.2.2.2.2.2.1,x.2.2.2.2.2.2.1,x.2.2.2.2.2.2.2.1,x.2.2.2.2.2.2.2.2.1,x.2.2.2.2.2.2.2.2.2.1,x.2.2.2.2.2.2.2.2.2.2.1)/\Cu x.2.2.2.2.2.2.2.2.2.2.2.1 x.2.2.2.2.2.2.2.2.2.2.2.2.1:=by
 have hB:Pa<=n:=AA2 (ACB _ _) hn;unfold WG;refine(fT n hB hcu).bind λx hx=>?_;obtain⟨w,h,c,a,b',i',q',hnew,hcu',rfl⟩:=hx;have q0:=K.new hnew;generalize R8 (P7 c) (min (P7 c).length 20)=cw0 at q0 ⊢;generalize Re a 50=st0 at q0 ⊢;generalize List.replicate 51 (0:Int)=ze0 at q0 ⊢;dsimp only;obtain⟨m0,i1,q1,em,hi1,hm0,hm1⟩:=b9 b' i' q' hcu'.2 hcu'.1 M;rw[em,ABQ];dsimp only;have hm2:m0<=1000:=ADS
 have hm3:0<=6*(1000-m0):=ADS
 have hfuel:m0.toNat<n:=by unfold Pa at hB;omega
 have hinit:m0=(m0.toNat:Int):=ADS
 have qinit:QD Q (6*(1000-m0)) (w,h,c,a,1,[],cw0,[],st0,ze0,0):=⟨q0,ACF _,hm3⟩;refine Ok.bind (P:=λx=>QD Q 6000 x.2.2.2.2/\Cu x.2.1 x.2.2.1) (Ok.iter (λk x=>x.1=(k:Int)/\QD Q (6*(1000-x.1)) x.2.2.2.2/\Cu x.2.1 x.2.2.1/\x.1<=1000) (λk x hx=>?_) (k:=m0.toNat) ⟨hinit,qinit,⟨hcu'.1,hi1⟩,hm2⟩ hfuel) λx hx=>Ok.pure hx;obtain⟨k1,qd,hc,k2⟩:=hx;obtain⟨xi,xb,xj,xq,w,h,c,a,nx,l,crew,ts,st,ou,nw⟩:=x;dsimp only at k1 qd hc k2;have hqd:=qd.2;dsimp only at hqd;unfold X9;dsimp only;refine Ok.cond (λhb=>?_) λhb=>Ok.pure (.inr ⟨_,rfl,⟨qd.1,hqd.1,?_⟩,hc⟩)
 case _=>
  have hb:=AAu hb;have hw1:PV (xi-1)=xi-1:=PY ADS ADS;obtain⟨d,c1,c2⟩:=K.di qd.1;dsimp only at d c1 c2;have z:=d.z c1 c2;have up:∀ {y:Int×Int×By×It×Int×ADE×ADC×AAH×By×By×Int},QD Q (6*(1000-xi)) y->QD Q (6*(1000-(xi-1))) y:=λg=>⟨g.1,g.2.1,by have:=g.2.2;clear hn hB;omega⟩;refine Ok.bind (P:=λz=>QD Q (6*(1000-(xi-1))) z.2.2.2/\Cu z.1 z.2.1) ((Rn hc 8).bind λr hr=>?_) λz hz=>Ok.pure (.inl ⟨_,rfl,k-1,⟨?_,?_,hz.2,?_⟩,ADS⟩)
  ·refine Ok.bind (P:=λ_=>True) (Ok.cond (λ_=>Ok.pure trivial) λ_=>Ok.pure trivial) λv _=>?_;refine Ok.cond (λ_=>?_) λ_=>Ok.cond (λ_=>?_) λ_=>Ok.cond (λ_=>?_) λ_=>?_
   ·refine(gh n hB hr.1 w h c d.fl).bind λs hs=>(jR n hB hs).bind λt ht=>?_;obtain⟨y,e1,_,hR⟩:=jF w h d.bg z nw s.1 t.1 (by have:=ht.1;clear hn hB;omega) n hB;rw[e1];exact Ok.pure ⟨up (qd.take K hR),ht.2⟩
   ·refine(Rn hr.1 6).bind λs hs=>?_;obtain⟨y,e1,hR⟩:=dO w h d.bg z nw (PV (1+s.1)) n hB;rw[e1];exact Ok.pure ⟨up (qd.back K hR),hs.1⟩
   ·refine(Rn hr.1 8).bind λs hs=>(Rn hs.1 5).bind λs2 yE=>(Rn yE.1 4).bind λs3 hs3=>?_;obtain⟨y,e1,hR⟩:=aI w h d.bg z nw (PV (1+s.1)) (PV (1+s2.1)) (PV (1+s3.1)) n hB;rw[e1];exact Ok.pure ⟨up (qd.rest K hR),hs3.1⟩
   ·refine(Rn hr.1 6).bind λs hs=>?_;refine(jy K n hn qd.1 ⟨hqd.1,ADS⟩ s.1 ⟨hs.2.1,by have:=hs.2.2 J;clear hn hB;omega⟩).bind λy hy=>Ok.pure ⟨⟨hy.1,hy.2.1,?_⟩,hs.1⟩;have:=hy.2.2;dsimp only;clear hn hB;omega
  ·show PV (xi-1)=_;rw[hw1];clear hn hB;omega
  ·show QD Q (6*(1000-PV (xi-1))) _;rw[hw1];exact hz.1
  ·show PV (xi-1)<=1000;rw[hw1];clear hn hB;omega
 grind
theorem lX(x6:Pv)(out:ADB)(k:Nat)(hk:k<out.length)(hl:x6.2.2.1.length<=1048576)(n:Nat)(hn:Pa<=n):Go.Ev.iter n (SL x6 out (k:Int)) (false,0)=some (x6.2.2.1.any (fN out[k]),(x6.2.2.1.length:Int)):=by
 generalize hI:x6.2.2.1=its at hl;have hg:(out[((k:Int).toNat)]?)=some out[k]:=by rw[ABU,AAI hk]
 obtain⟨b,e,h⟩:=TE (f:=SL x6 out (k:Int)) (st:=λi (b:Bool)=>(b,(i:Int))) (fin:=λb=>(b,(its.length:Int))) its.length (λi b=>b=(its.take i).any (fN out[k])) (λb _=>by
   unfold SL;dsimp only;rw[hI,show decide ((its.length:Int)<(its.length:Int))=false by simp];rfl) (λi hi b hb=>by
   refine⟨b||fN out[k] its[i],?_,by rw[ACK,AAI hi,List.any_append,hb];simp⟩;unfold SL;dsimp only;rw[hI,show decide ((i:Int)<(its.length:Int))=true by rw[AAe];omega,ABR,PR hi J];cases b with
   |true=>rfl
   |false=>
    rw[ABS,PS hi,PX hk,hg];simp only[ABQ,ABR];unfold fN;cases its[i].1==out[k].1<;>cases decide (out[k].2<=its[i].2)<;>rfl) n ADF false OF
 rw[ABz]at h;rw[h]at e;exact e
theorem lW(x6:Pv)(out:ADB)(hA:∀x∈out,x6.2.2.1.any (fN x)=true)(ho:out.length<=1048576)(hl:x6.2.2.1.length<=1048576)(n:Nat)(hn:Pa<=n):Go.Ev.iter n (SK n x6 out) 0=some (.inl (out.length:Int)):=by
 obtain⟨_,e,_⟩:=TE (f:=SK n x6 out) (σ:=Unit) (st:=λi _=>(i:Int)) (fin:=λ_=>.inl (out.length:Int)) out.length (λ_ _=>True) (λ_ _=>by
   unfold SK;rw[show decide ((out.length:Int)<(out.length:Int))=false by simp];rfl) (λi hi _ _=>by
   refine⟨(),?_,trivial⟩;unfold SK;rw[show decide ((i:Int)<(out.length:Int))=true by rw[AAe];omega,ABR,lX x6 out i hi hl n hn,ABQ,hA _ (ABT hi),PR hi J];rfl) n ADF () trivial
 exact e
theorem lY(x6:Pv)(hl:x6.2.2.1.length<=1048576)(n:Nat)(hn:Pa<=n):Go.Ev.iter n (SM x6 x6.2.2.1) 0=some (.inl (x6.2.2.1.length:Int)):=by
 generalize hI:x6.2.2.1=its at hl
 obtain⟨_,e,_⟩:=TE (f:=SM x6 its) (σ:=Unit) (st:=λi _=>(i:Int)) (fin:=λ_=>.inl (its.length:Int)) its.length (λ_ _=>True) (λ_ _=>by
   unfold SM;rw[hI,show decide ((its.length:Int)<(its.length:Int))=false by simp];rfl) (λi hi _ _=>by
   refine⟨(),?_,trivial⟩;unfold SM;rw[hI,show decide ((i:Int)<(its.length:Int))=true by rw[AAe];omega,ABR,show decide ((i:Int)>=(its.length:Int))=false by rw[AAn];omega,ABS,PX hi,ABR,ABU,AAI hi,PS hi];simp only[ABQ,ABr,ACD,ABZ,ABS,PR hi (show its.length<=9223372036854775807 by omega)]) n ADF () trivial
 exact e
theorem lV(hB:Uv nx l)(hsm:Qi (nx,l))(hts:ts.length<=1048576)(htk:∀t∈ts,Sl a l crew t)(n:Nat)(hn:Pa<=n):Go.Ev.iter n (SJ n (w,h,c,a,nx,l,crew,ts,st,ou,nw)) 0=some (.inl (l.length:Int)):=by
 have hl:=hsm.1;have hl:l.length<=1048576:=hl
 obtain⟨_,e,_⟩:=TE (f:=SJ n (w,h,c,a,nx,l,crew,ts,st,ou,nw)) (σ:=Unit) (st:=λi _=>(i:Int)) (fin:=λ_=>.inl (l.length:Int)) l.length (λ_ _=>True) (λ_ _=>by
   unfold SJ;dsimp only;rw[show decide ((l.length:Int)<(l.length:Int))=false by simp];rfl) (λi hi _ _=>by
   refine⟨(),?_,trivial⟩;obtain⟨out,eo,h3,hR⟩:=ar hB hsm ts hts hi w h c a crew st ou nw n hn;have hO:=hB.2.2.2 _ (ABT hi);have hF:=je hO h3 hR λh2=>j4 hB.2.2.1 htk hi h2;obtain⟨f1,f2,f3⟩:=hF;have hil:l[i].2.2.1.length<=1048576:=by have:=hO.2.2.1.1.2.2;omega
   have wg:=(hsm.2 _ (ABT hi)).2;have wg:l[i].2.2.2.1.length<=1048576:=wg
   have hol:out.length<=1048576:=by
    by_cases hs:l[i].2.2.2.2=3
    ·rw[f3 hs];simp
    ·obtain⟨p1,p2,_⟩:=hR hs;have hp1:out.Pairwise λx y=>x.1<y.1:=p1
     have uO:∀x∈out,1<=x.1/\x.1<=50:=λx hx=>by obtain⟨y,hy,he⟩:=AA5.1 (f1 x hx);unfold fN at he;simp only[AAJ,AAT]at he;have:=hO.2.2.1.1.2.1 y hy;omega
     have hj:∀(j:Nat)(hj:j<out.length),(j:Int)<out[j].1:=by
      intro j
      induction j with
      |zero=>intro hj;have:=uO _ (ABT hj);omega
      |succ j ih=>
       intro hj;have:=ih J;have:=ABL.1 hp1 j (j+1) J hj J;omega
     rcases Nat.eq_zero_or_pos out.length with q|q
     ·omega
     ·have h1:=hj (out.length-1) J;have h2:=uO _ (ABT (show out.length-1<out.length by omega));omega
   unfold SJ;dsimp only;rw[show decide ((i:Int)<(l.length:Int))=true by rw[AAe];omega,ABR,PS hi,ABQ,eo,ABQ,lW l[i] out f1 hol hil n hn,ABQ,PR hi J];dsimp only;by_cases h2:l[i].2.2.2.2=2
   ·rw[show(l[i].2.2.2.2==2)=true by rw[h2];rfl,ABR,f2 h2,lY l[i] hil n hn,ABQ];dsimp only;rw[ABQ];dsimp only;rw[show(l[i].2.2.2.2==3)=false by rw[h2];rfl];rfl
   ·rw[show(l[i].2.2.2.2==2)=false by rw[ABY];exact h2,ABS,ABQ];dsimp only;by_cases h3':l[i].2.2.2.2=3
    ·rw[f3 h3',h3'];rfl
    ·rw[show(l[i].2.2.2.2==3)=false by rw[ABY];exact h3'];rfl) n ADF () trivial
 exact e
theorem ZW(code:By)(hx:(sy sz) code):∃n,Xr n code=some true:=by
 obtain⟨n,hn⟩:∃n,Pa+1000<=n:=⟨_,AAb _⟩;have hB:Pa<=n:=AA2 (ACB _ _) hn;refine⟨n,?_⟩;unfold Xr cE;rw[ABQ];by_cases wi:(code.length:Int)>1048576
 ·rw[ABW wi];rfl
 rw[ABa wi,ABS];have hl:code.length<=1048576:=ADS
 obtain⟨h0,e0⟩:=kS code hl n hB;obtain⟨r,e2,r0,r1⟩:=jS code hl 24 ADP;obtain⟨⟨w,h,c,a,nx,l,crew,ts,st,ou,nw,b',i',q'⟩,ed,⟨⟨⟨d,c1,c2⟩,hnw⟩,_⟩⟩:=gi nj n hn (b:=code) (i:=0) (q:=h0) ⟨hl,ACF _⟩ (6+r) ADS;dsimp only at d c1 c2 hnw
 have xZ:Uh n code=some (w,h,c,a,nx,l,crew,ts,st,ou,nw):=by unfold Uh;rw[e0,ABQ,e2,ABQ,PY (n:=6+r) ADS ADS];dsimp only;rw[ed,ABQ]
 rw[xZ,ABQ];dsimp only;have z:=d.z c1 c2;have hb:=d.bg;have D:=d.ok c1 c2 (nw:=nw) ⟨hnw.1,by have:=hnw.2;clear hn hB;omega⟩;have r1:crew.length<=1048576:=by have:=z.r1;clear hn hB;omega
 have t1:ts.length<=1048576:=by have:=z.t1;clear hn hB;omega
 have s1:st.length<=1048576:=by have:=z.s1;clear hn hB;omega
 have o1:ou.length<=1048576:=by have:=z.o1;clear hn hB;omega
 obtain⟨b1,e1,i1⟩:=TH w h c z.c1 a z.a1 nx l hb crew r1 ts t1 st ou s1 o1 nw n hB;obtain⟨b2,e3,i2⟩:=XT w h c z.c1 a z.a1 nx l hb.sm crew r1 ts t1 st ou s1 o1 nw n hB;have wH:b1=true:=i1.2 D;have w6:b2=true:=i2.2 D;subst wH;subst w6;obtain⟨x,ex,lx⟩:=bh d.fl d.cw d.Ws (nw:=nw) n hB e3;obtain⟨y,ey,ly⟩:=cR d.fl d.cw d.Ws (nw:=nw) n hB e1;have F:=TS d.fl;rw[e1,ABQ,ABZ,ABS,lV d.bk hb.sm t1 d.tk n hB,ABQ];dsimp only;rw[ex,ABQ,ey,ABQ,lx,ly,ABr,ABR,ABQ,ABQ,Option.some.injEq,AAe,lx];have hlen:=F.len;have w1:=F.w1;have w2:=F.w2;have h1:=F.h1;have h2:=F.h2;obtain⟨W,rfl⟩:∃W:Nat,w=(W:Int):=⟨w.toNat,ADS⟩;obtain⟨H,rfl⟩:∃H:Nat,h=(H:Int):=⟨h.toNat,ADS⟩;have hc:c.length=W*H:=by exact_mod_cast hlen
 have hWH:W*H<=100:=by have:=F.le;clear hn hB;omega
 have hm:(((W:Int)+1)*(H:Int))=((W*H+H:Nat):Int):=by rw[Int.add_mul];simp
 have hH:H<=10:=ADS
 rw[PY (n:=(W:Int)+1) ADS ADS,hm,PY ADS ADS,hc,ABU,Nat.mul_div_cancel_left _ ADS];clear hn hB;omega
end Go.Ev.N
