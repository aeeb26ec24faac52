/- FnTop,as a plain law oZ native forms: what the program's function answers is what the reference's answers. Conditions: none but the lengths' and numbers' bounds. -/
import Derived.Test.YthlchdmdanagkaaGreatFnTopPureB
set_option linter.all false
namespace Go.Ev.N
open Go Go.Ev
abbrev uZ:=Is×By×ADQ×AAL×ADP
def fg(th:PH->Bool):AAL->uZ->uZ
 | [],s=>s
 |t::ts,s=>
  if th t=true then
   fg th ts ((PN s.1 s.2.1 s.2.2.2.2 s.2.2.1 t).1,(PN s.1 s.2.1 s.2.2.2.2 s.2.2.1 t).2.1,(PN s.1 s.2.1 s.2.2.2.2 s.2.2.1 t).2.2.1,s.2.2.2.1++Xf (PN s.1 s.2.1 s.2.2.2.2 s.2.2.1 t).2.2.2,match(PN s.1 s.2.1 s.2.2.2.2 s.2.2.1 t).2.2.2 with|some _=>s.2.2.2.2|none=>bif((s.2.2.2.1++ts).any λu=>u.1==t.1) || !P1 s.2.2.2.2 t.1 then s.2.2.2.2 else QA s.2.2.2.2 t.1 2)
  else fg th ts (s.1,s.2.1,s.2.2.1,s.2.2.2.1++[t],s.2.2.2.2)
theorem eG{a:Is}{ou:By}{l:ADP}{crew:ADQ}{t t':PH}(h:(PN a ou l crew t).2.2.2=some t'):t'.1=t.1:=by
 unfold PN at h;split at h
 ·injection h with h;rw[<-h];rfl
 ·split at h
  ·injection h with h;rw[<-h];rfl
  ·cases h
theorem gm(a:Is)(ou:By)(l:ADP)(crew:ADQ)(t:PH):∃f:PR->PR,(∀r,(f r).1=r.1)/\(PN a ou l crew t).2.2.1=Vf crew t.2.2.1 f:=by
 unfold PN;split
 ·grind
 ·split
  all_goals grind
theorem kX{crew:ADQ}{id:Int}{f:PR->PR}(hf:∀r,(f r).1=r.1){u:PH}(hu:u.2.2.2≠1->u.2.2.1≠id):P8 (Vf crew id f) u=P8 crew u:=by
 unfold P8;by_cases e:u.2.2.2=1
 ·grind
 ·rw[Zs hf];cases hq:Se crew u.2.2.1 with
  |none=>rfl
  |some r=>
   rw[AA7,show(r.1==id)=false from ABW.2 λe2=>hu e ((Pk hq).2.symm.trans e2),ABS]
theorem bL{w h:Int}{c:By}{nx:Int}{l:ADP}(th:PH->Bool):∀(ts:AAL)(a:Is)(ou:By)(crew:ADQ)(left:AAL)(ended:By),DI w h c a nx l crew (left++ts)->(∀u∈ts,th u=P8 crew u)->
  fg th ts (a,ou,crew,left,Qb l λk=>(ended.any λe=>e==k) && !((left++ts).any λt=>t.1==k))=
   ((Pc l ts (a,ou,crew,left,ended)).1,(Pc l ts (a,ou,crew,left,ended)).2.1,(Pc l ts (a,ou,crew,left,ended)).2.2.1,(Pc l ts (a,ou,crew,left,ended)).2.2.2.1,Qb l λk=>((Pc l ts (a,ou,crew,left,ended)).2.2.2.2.any λe=>e==k) && !((Pc l ts (a,ou,crew,left,ended)).2.2.2.1.any λt=>t.1==k))
 | [],a,ou,crew,left,ended,_,_=>by rw[ABf];rfl
 |t::ts,a,ou,crew,left,ended,d,hth=>by
  have hT:=d.tk t (AAV _ AAo);have ht:=hth t AAo;have hgo:Pc l (t::ts) (a,ou,crew,left,ended)=Pc l ts (PX l t (a,ou,crew,left,ended)):=rfl;rw[hgo];unfold fg;rw[ht];by_cases hg:P8 crew t=true
  case neg=>
   rw[AAT hg];have hone:PX l t (a,ou,crew,left,ended)=(a,ou,crew,left++[t],ended):=by unfold PX;grind
   rw[hone];have e1:(left++t::ts)=(left++[t])++ts:=by rw[ABj];rfl
   rw[e1]at d ⊢;exact bL th ts a ou crew (left++[t]) ended d λu hu=>hth u (AAQ _ hu)
  case pos=>
   have ht1:t.2.2.2≠1:=λe=>by unfold P8 at hg;grind
   rw[AAS hg];dsimp only;simp only[oA];have hd:=d.aa ht1 ou;obtain⟨f,hf,hfe⟩:=gm a ou l crew t
   have hth2:∀u∈ts,th u=P8 (PN a ou l crew t).2.2.1 u:=λu hu=>by rw[hfe,kX hf λe=>d.Vg.two ht1 (.inr hu) e];grind
   have hone:PX l t (a,ou,crew,left,ended)=((PN a ou l crew t).1,(PN a ou l crew t).2.1,(PN a ou l crew t).2.2.1,left++Xf (PN a ou l crew t).2.2.2,match(PN a ou l crew t).2.2.2 with|some _=>ended|none=>ended++[t.1]):=by unfold PX;rw[AAS hg];rfl
   rw[hone];cases hq:(PN a ou l crew t).2.2.2 with
   |some t'=>
    have e1:=eG hq;rw[hq]at hd;have hd2:DI w h c (PN a ou l crew t).1 nx l (PN a ou l crew t).2.2.1 ((left++[t'])++ts):=by rw[ABj];exact hd
    dsimp only[Xf]
    have hP:(Qb l λk=>(ended.any λe=>e==k) && !((left++t::ts).any λt=>t.1==k))=Qb l λk=>(ended.any λe=>e==k) && !(((left++[t'])++ts).any λt=>t.1==k):=Zj l λk=>No
    rw[hP];exact bL th ts _ _ _ (left++[t']) ended hd2 hth2
   |none=>
    rw[hq]at hd;have hd2:DI w h c (PN a ou l crew t).1 nx l (PN a ou l crew t).2.2.1 (left++ts):=hd;dsimp only[Xf];rw[ABf]
    have hopen:P1 l t.1=true:=by obtain⟨o,ho,hs,_⟩:=hT.ord;unfold P1;rw[ho];exact AAX.2 hs
    have hP0:((ended.any λe=>e==t.1) && !((left++t::ts).any λu=>u.1==t.1))=false:=No
    have hfin:(bif((left++ts).any λu=>u.1==t.1) || !P1 (Qb l λk=>(ended.any λe=>e==k) && !((left++t::ts).any λt=>t.1==k)) t.1 then(Qb l λk=>(ended.any λe=>e==k) && !((left++t::ts).any λt=>t.1==k))else QA (Qb l λk=>(ended.any λe=>e==k) && !((left++t::ts).any λt=>t.1==k)) t.1 2)=Qb l λk=>((ended++[t.1]).any λe=>e==k) && !((left++ts).any λt=>t.1==k):=by
     rw[jh hopen,hP0,ABp,ABX,Bool.or_false]
     have hk:∀k,k≠t.1->((ended.any λe=>e==k) && !((left++t::ts).any λt=>t.1==k))=(((ended++[t.1]).any λe=>e==k) && !((left++ts).any λt=>t.1==k)):=λk zp=>No
     cases hany:(left++ts).any λu=>u.1==t.1 with
     |true=>
      grind
     |false=>
      rw[ABS,jO];grind
    rw[hfin];exact bL th ts _ _ _ left (ended++[t.1]) hd2 hth2
theorem Y5(l:ADP):∀(ts:AAL)(s:mP),∀id∈(Pc l ts s).2.2.2.2,id∈s.2.2.2.2\/∃t∈ts,t.1=id
 | [],s,id,h=>.inl h
 |t::ts,s,id,h=>by
  rcases Y5 l ts (PX l t s) id h with h|⟨u,hu,e⟩
  ·unfold PX at h;split at h
   ·dsimp only at h;cases hq:(PN s.1 s.2.1 l s.2.2.1 t).2.2.2 with
    |some t'=>rw[hq]at h;exact .inl h
    |none=>
     rw[hq]at h;rcases ABI.1 h with h|h
     ·exact .inl h
     ·exact .inr ⟨t,AAo,(ABa.1 h).symm⟩
   ·exact .inl h
  grind
theorem nR{w h:Int}{c:By}{a:Is}{nx:Int}{l:ADP}{crew:ADQ}{ts:AAL}(d:DI w h c a nx l crew ts)(ou:By)(th:PH->Bool)(hth:∀u∈ts,th u=P8 crew u):
  fg th ts (a,ou,crew,[],l)=((PY a ou l crew ts).1,(PY a ou l crew ts).2.1,(PY a ou l crew ts).2.2.2.1,(PY a ou l crew ts).2.2.2.2,(PY a ou l crew ts).2.2.1):=by
 have h1:=bL th ts a ou crew [] [] d hth;have h0:(Qb l λk=>(([]:By).any λe=>e==k) && !(([]++ts).any λt:PH=>t.1==k))=l:=fk l _ λk=>rfl;rw[h0]at h1;rw[h1];unfold PY;dsimp only
 have h2:=dg (Pc l ts (a,ou,crew,[],[])).2.2.2.1 l (Pc l ts (a,ou,crew,[],[])).2.2.2.2 (λ_=>false) λid hid=>by
  rcases Y5 l ts (a,ou,crew,[],[]) id hid with hh|⟨t,ht,e⟩
  ·cases hh
  ·obtain⟨o,ho,hs,_⟩:=(d.tk t ht).ord;unfold P1;rw[<-e,ho];exact AAX.2 hs
 grind
theorem TZ.set{l:By}(h:TZ l){i:Nat}(hi:0<i){x:Int}(hx:0<=x/\x<=1000000):TZ (l.set i x):=by
 obtain⟨h1,h2,h3⟩:=h;refine⟨by rw[List.length_set];exact h1,λy hy=>?_,?_⟩
 all_goals grind
theorem j5:∀(ps:OF)(ou:By),(∀p∈ps,1<=p.2.1/\1<=p.2.2)->TZ ou->TZ (aP ou ps)
 | [],ou,_,h=>h
 |p::ps,ou,hp,h=>by
  obtain⟨q1,q2⟩:=hp p AAo
  have hstep:TZ (if ou.getD p.2.1.toNat 0+p.2.2<=1000000 then ou.set p.2.1.toNat (ou.getD p.2.1.toNat 0+p.2.2)else ou):=by
   split
   ·rename_i hle
    have h0:0<=ou.getD p.2.1.toNat 0:=by
     rw[List.getD];cases hq:ou[p.2.1.toNat]? with
     |none=>simp
     |some y=>exact(h.2.1 y (AAR hq)).1
    exact h.set J ⟨J,hle⟩
   ·exact h
  exact j5 ps _ (λq hq=>hp q (AAQ _ hq)) hstep
theorem Z5{w h:Int}{c:By}{a:Is}{nx:Int}{l:ADP}{crew:ADQ}{ts:AAL}(d:DI w h c a nx l crew ts)(t:PH):∀p∈O8 l t,1<=p.2.1/\1<=p.2.2:=λp hp=>by
 unfold O8 at hp;cases ho:P0 l t.1 with
 |none=>grind
 |some o=>
  rw[ho]at hp;have hpm:=(ABb.1 hp).1;obtain⟨_,_,⟨hI,_⟩,hpg,_⟩:=d.bk.2.2.2 o (QB ho).1;obtain⟨q1,y,hy,e⟩:=hpg.1 p hpm;have:=hI.2.1 y hy;omega
theorem DI.eF{w h:Int}{c:By}{a:Is}{nx:Int}{l:ADP}{crew:ADQ}{ts:AAL}(d:DI w h c a nx l crew ts)(t:PH){ou:By}(ho:TZ ou):TZ (PN a ou l crew t).2.1:=by
 unfold PN;split
 ·exact ho
 ·split
  ·dsimp only;cases(Qc UM a (O8 l t)).2
   ·exact ho
   ·exact j5 _ ou (Z5 d t) ho
  ·exact ho
theorem DI.fZ{w h:Int}{c:By}{nx:Int}{l:ADP}:∀(ts:AAL)(s:mP),DI w h c s.1 nx l s.2.2.1 (s.2.2.2.1++ts)->TZ s.2.1->TZ (N.Pc l ts s).2.1
 | [],s,_,ho=>ho
 |t::ts,s,d,ho=>by
  have h1:DI w h c (PX l t s).1 nx l (PX l t s).2.2.1 ((PX l t s).2.2.2.1++ts)/\TZ (PX l t s).2.1:=by
   unfold PX;by_cases hg:P8 s.2.2.1 t=true
   ·rw[AAS hg]
    have ht:t.2.2.2≠1:=λe=>by unfold P8 at hg;rw[show(t.2.2.2==1)=true from AAX.2 e]at hg;simp at hg
    refine⟨?_,d.eF t ho⟩;have:=d.aa ht s.2.1;grind
   ·grind
  exact DI.fZ ts (PX l t s) h1.1 h1.2
theorem ny(x:O0)(m:OF)(j:Int)(hj:j≠x.1)(hm:∀z∈m,z.1=x.1)(l:OF)(hp:l.Pairwise λa b=>a.1<b.1):(WX x l m).find? (λy=>y.1==j)=l.find? (λy=>y.1==j):=by
 have hmn:m.find? (λy=>y.1==j)=none:=ACA.2 λz hz=>by rw[hm z hz];simp;omega
 have h1:(WX x l m).find? (λy=>y.1==j)=(WX x l []).find? (λy=>y.1==j):=by unfold WX;simp only[List.find?_append,hmn,Option.none_or,List.find?_nil]
 rw[h1,<-eh hp,List.find?_filter];grind
theorem bF{l:OF}(h:Uh l)(x:O0)(hx:x.2.1=0->x.2.2=0)(j:Int):(PC (Ye x l) j).2.1=(if j=x.1 then x.2.1 else(PC l j).2.1)/\(PC (Ye x l) j).2.2=(if j=x.1 then x.2.2 else(PC l j).2.2):=by
 by_cases e:j=x.1
 ·rw[AAS e,AAS e];unfold Ye;by_cases h0:x.2.1=0
  ·rw[show(x.2.1==0)=true from AAX.2 h0,ABQ]
   have hno:∀y∈WX x l [],y.1≠j:=λy hy=>by
    rcases iv hy with hy|hy
    ·rw[e];exact hy.2
    ·cases hy
   rw[RH hno];grind
  ·rw[show(x.2.1==0)=false from ABW.2 h0,ABS]
   have hf:(WX x l [x]).find? (λy=>y.1==j)=some x:=by
    unfold WX
    have h1:(l.filter λy=>decide (y.1<x.1)).find? (λy=>y.1==j)=none:=ACA.2 λz hz=>by have:=AAx (ABb.1 hz).2;simp;omega
    rw[List.find?_append,h1,Option.none_or,AB4,List.find?_cons,e,ABu]
   unfold PC;grind
 ·rw[AAT e,AAT e];unfold PC Ye
  rw[ny x _ j e (λz hz=>by
   cases hq:(x.2.1==0)with
   |true=>rw[hq,ABQ]at hz;cases hz
   |false=>rw[hq,ABS]at hz;rw[ABa.1 hz]) l h.1]
  omega
def gK(p:PD)(k:Int):Int:=(PC p.2.2 k).2.1
def aX(p:PD)(k:Int):Int:=(PC p.2.2 k).2.2
theorem U0(a:Is)(PB:Int)(f:OF->OF):(Wg a PB f).length=a.length:=by unfold Wg;grind
theorem fp{a:Is}{PB:Int}{f:OF->OF}{i:Nat}(h:i<(Wg a PB f).length):(Wg a PB f)[i]=(bif(a[i]'(by rw[U0]at h;exact h)).1==PB then((a[i]'(by rw[U0]at h;exact h)).1,(a[i]'(by rw[U0]at h;exact h)).2.1,f (a[i]'(by rw[U0]at h;exact h)).2.2)else(a[i]'(by rw[U0]at h;exact h)):PD):=ABh _
structure dC(a b:Is)(g:Int->Int->Int):Prop where
 len:b.length=a.length
 each:∀i (h:i<a.length) (h2:i<b.length),b[i].1=a[i].1/\b[i].2.1=a[i].2.1/\∀k,gK b[i] k=gK a[i] k-g a[i].1 k/\aX b[i] k=aX a[i] k-g a[i].1 k
theorem nN{a:Is}(ha:PF a){i:Nat}(hi:i<a.length){k m:Int}(hk:1<=k/\k<=50)(hm:1<=m/\m<=1000)(hh:m<=aX a[i] k):(Xt a a[i].1 k m).2=0/\dC a (Xt a a[i].1 k m).1 λPB j=>if PB=a[i].1/\j=k then m else 0:=by
 obtain⟨c1,c2⟩:=eI ha hi hk hm;have hst:=(ha.2.2 _ (ABR hi)).2.2;obtain⟨b1,b2,b3,b4,b5⟩:=Qj hst k;unfold aX at hh;unfold Xt;rw[c1,AAT J,c2,AAT J];refine⟨rfl,by show(aQ _ _ _).length=_;unfold aQ;rw[U0],λq hq hq2=>?_⟩;have hat:(aQ a a[i].1 (k,(PC a[i].2.2 k).2.1-m,(PC a[i].2.2 k).2.2-m))[q]=_:=fp (a:=a) (f:=Ye (k,(PC a[i].2.2 k).2.1-m,(PC a[i].2.2 k).2.2-m)) hq2;show(aQ a a[i].1 (k,(PC a[i].2.2 k).2.1-m,(PC a[i].2.2 k).2.2-m))[q].1=_/\(aQ a a[i].1 (k,(PC a[i].2.2 k).2.1-m,(PC a[i].2.2 k).2.2-m))[q].2.1=_/\∀j,gK (aQ a a[i].1 (k,(PC a[i].2.2 k).2.1-m,(PC a[i].2.2 k).2.2-m))[q] j=_/\aX (aQ a a[i].1 (k,(PC a[i].2.2 k).2.1-m,(PC a[i].2.2 k).2.2-m))[q] j=_;rw[hat];by_cases e:a[q].1=a[i].1
 ·have eq:a[q]=a[i]:=UD ha hi (ABR hq) e;rw[show(a[q].1==a[i].1)=true from AAX.2 e,ABQ];refine⟨rfl,rfl,λj=>?_⟩;obtain⟨s1,s2⟩:=bF (by rw[eq];exact hst:Uh a[q].2.2) (k,(PC a[i].2.2 k).2.1-m,(PC a[i].2.2 k).2.2-m) (λh0=>by dsimp only at h0 ⊢;omega) j;unfold gK aX;dsimp only at s1 s2 ⊢;rw[s1,s2,eq];by_cases ej:j=k
  ·subst ej;rw[AAS rfl,AAS rfl,AAS ⟨rfl,rfl⟩];exact⟨rfl,rfl⟩
  ·rw[AAT ej,AAT ej,AAT (λh=>ej h.2),Int.sub_zero,Int.sub_zero];exact⟨rfl,rfl⟩
 grind
theorem dC.trans{a b d:Is}{f g:Int->Int->Int}(h1:dC a b f)(h2:dC b d g):dC a d λp k=>f p k+g p k:=by
 refine⟨h2.len.trans h1.len,λi hi hi2=>?_⟩;have hb:i<b.length:=by rw[h1.len];exact hi
 obtain⟨p1,p2,p3⟩:=h1.each i hi hb;obtain⟨q1,q2,q3⟩:=h2.each i hb hi2;grind
theorem dC.refl(a:Is):dC a a λ_ _=>0:=⟨rfl,λi h h2=>⟨rfl,rfl,λk=>⟨J,J⟩⟩⟩
theorem mI:∀(ps:OF)(a:Is),PF a->(∀p∈ps,(1<=p.2.1/\p.2.1<=50)/\(1<=p.2.2/\p.2.2<=1000)/\∃i,∃h:i<a.length,a[i].1=p.1)->(∀q∈a,∀k,tp ps q.1 k<=aX q k)->∃b,Vk UM ps a=some b/\PF b/\dC a b (tp ps)
 | [],a,ha,_,_=>⟨a,rfl,ha,dC.refl a⟩
 |p::ps,a,ha,hp,hh=>by
  obtain⟨hk,hm,i,hi,e⟩:=hp p AAo;have hpos:=aW ps (λq hq=>(hp q (AAQ _ hq)).2.1.1);have h1:=hh _ (ABR hi) p.2.1;rw[e,jN]at h1;have h2:=hpos p.1 p.2.1;obtain⟨t1,t2⟩:=nN ha hi hk hm (show p.2.2<=aX a[i] p.2.1 by omega);rw[e]at t1 t2;have hb:=(jK ha p.1 p.2.1 p.2.2).1
  obtain⟨b,g1,g2,g3⟩:=mI ps (Xt a p.1 p.2.1 p.2.2).1 hb (λq hq=>by
   obtain⟨x1,x2,j,hj,ej⟩:=hp q (AAQ _ hq);have hj2:j<(Xt a p.1 p.2.1 p.2.2).1.length:=by rw[t2.len];exact hj
   exact⟨x1,x2,j,hj2,(t2.each j hj hj2).1.trans ej⟩) (λq hq k=>by
   obtain⟨j,hj2,rfl⟩:=ABU.1 hq;have hj:j<a.length:=by rw[<-t2.len];exact hj2
   obtain⟨x1,_,x3⟩:=t2.each j hj hj2;have h5:=hh _ (ABR hj) k;rw[(x3 k).2,x1];simp only[tp]at h5;omega)
  refine⟨b,?_,g2,?_⟩
  ·rw[Vk];show(if(Xt a p.1 p.2.1 p.2.2).2≠0 then none else _)=_;rw[AAT (by rw[t1];simp)];exact g1
  ·have:=t2.trans g3;refine⟨this.len,λi h h2=>?_⟩;obtain⟨x1,x2,x3⟩:=this.each i h h2;refine⟨x1,x2,λk=>?_⟩
   have ht:tp (p::ps) a[i].1 k=(if a[i].1=p.1/\k=p.2.1 then p.2.2 else 0)+tp ps a[i].1 k:=by
    show(if p.1=a[i].1/\p.2.1=k then p.2.2 else 0)+tp ps a[i].1 k=_;by_cases hc:p.1=a[i].1/\p.2.1=k
    ·rw[AAS hc,AAS ⟨hc.1.symm,hc.2.symm⟩]
    ·rw[AAT hc,AAT (λq=>hc ⟨q.1.symm,q.2.symm⟩)]
   grind
def RJ(l:ADP)(PB k:Int)(t:PH):Int:=if t.2.2.2<=3 then tp (O8 l t) PB k else 0
def Qs(l:ADP)(ts:AAL)(PB k:Int):Int:=(ts.map (RJ l PB k)).foldr (· + ·) 0
def SY(a:Is)(l:ADP)(ts:AAL):Prop:=∀p∈a,∀k,aX p k=Qs l ts p.1 k
theorem Yd(l:ADP)(x y:AAL)(PB k:Int):Qs l (x++y) PB k=Qs l x PB k+Qs l y PB k:=by
 unfold Qs
 induction x with
 |nil=>simp
 |cons t x ih=>
  grind
theorem Rp(l:ADP)(t:PH)(y:AAL)(PB k:Int):Qs l (t::y) PB k=RJ l PB k t+Qs l y PB k:=rfl
theorem YI{l m:ADP}{ts us:AAL}{PB k:Int}(h:ts.map (RJ l PB k)=us.map (RJ m PB k)):Qs l ts PB k=Qs m us PB k:=by unfold Qs;rw[h]
theorem TK{w h:Int}{c:By}{a:Is}{nx:Int}{l:ADP}{crew:ADQ}{ts:AAL}(d:DI w h c a nx l crew ts){t:PH}(ht:∃q,X3 a t.2.1=some q):∀p∈O8 l t,(1<=p.2.1/\p.2.1<=50)/\(1<=p.2.2/\p.2.2<=1000)/\∃i,∃h:i<a.length,a[i].1=p.1:=λp hp=>by
 unfold O8 at hp;cases ho:P0 l t.1 with
 |none=>grind
 |some o=>
  rw[ho]at hp;obtain⟨hpm,hpp⟩:=ABb.1 hp;obtain⟨_,_,⟨hI,_⟩,hpg,_⟩:=d.bk.2.2.2 o (QB ho).1;obtain⟨q1,y,hy,e⟩:=hpg.1 p hpm;have hyb:=hI.2.1 y hy;have h1:=jM (λq hq=>(hpg.1 q hq).1) hpm;have h2:=hpg.2 y hy;rw[e]at h2;obtain⟨q,hq⟩:=ht;obtain⟨hqm,hqe⟩:=Su hq;obtain⟨i,hi,rfl⟩:=ABU.1 hqm;grind
theorem nU{w h:Int}{c:By}{a:Is}{nx:Int}{l:ADP}{crew:ADQ}{ts:AAL}(d:DI w h c a nx l crew ts)(t:PH)(PB k:Int):0<=RJ l PB k t:=by
 unfold RJ;split
 ·exact aW _ (λp hp=>(Z5 d t p hp).2) PB k
 ·omega
theorem Zw{w h:Int}{c:By}{a:Is}{nx:Int}{l:ADP}{crew:ADQ}{ts:AAL}(d:DI w h c a nx l crew ts)(PB k:Int):∀us:AAL,0<=Qs l us PB k
 | []=>by simp[Qs]
 |t::us=>by have h1:=nU d t PB k;have h2:=Zw d PB k us;rw[Rp];omega
theorem DI.YS{w h:Int}{c:By}{a:Is}{nx:Int}{l:ADP}{crew:ADQ}{x y:AAL}{t:PH}(d:DI w h c a nx l crew (x++t::y))(ht:t.2.2.2≠1)(ou:By)(hH:SY a l (x++t::y)):
  SY (PN a ou l crew t).1 l (x++(Xf (PN a ou l crew t).2.2.2++y))/\(t.2.2.2=3->∃b,Qc UM a (O8 l t)=(b,true)/\dC a b (tp (O8 l t))):=by
 have hT:=d.tk t (AAV _ AAo);have hgood:=(QL.1 d.Vg).2.1 t (AAV _ AAo);obtain⟨⟨g1,g4⟩,_⟩:=Yj hgood;have hsum:∀PB k,Qs l (x++t::y) PB k=Qs l x PB k+(RJ l PB k t+Qs l y PB k):=λPB k=>by rw[Yd,Rp]
 by_cases h2:t.2.2.2=2
 ·refine⟨?_,λe=>J⟩;unfold PN;rw[AAS h2];intro p hp k;rw[hH p hp k,hsum];show _=Qs l (x++(RK t 3::y)) p.1 k;rw[Yd,Rp]
  have:RJ l p.1 k (RK t 3)=RJ l p.1 k t:=by unfold RJ;rw[AAS (by show(3:Int)<=3;omega),AAS J];rfl
  rw[this]
 ·by_cases h3:t.2.2.2=3
  ·have hw:∀PB k,RJ l PB k t=tp (O8 l t) PB k:=λPB k=>by unfold RJ;rw[AAS J]
   obtain⟨b,e1,e2,e3⟩:=mI (O8 l t) a d.st (TK d hT.PB) (λq hq k=>by
    rw[hH q hq k,hsum,hw];have p1:=Zw d q.1 k x;have p2:=Zw d q.1 k y;omega)
   have hall:Qc UM a (O8 l t)=(b,true):=by unfold Qc;rw[e1]
   refine⟨?_,λ_=>⟨b,hall,e3⟩⟩;unfold PN;rw[AAT h2,AAS h3,hall];intro p hp k;obtain⟨i,hi2,rfl⟩:=ABU.1 hp;have hi2:i<b.length:=hi2;have hi:i<a.length:=by rw[<-e3.len];exact hi2
   obtain⟨x1,_,x3⟩:=e3.each i hi hi2;show aX b[i] k=Qs l (x++(RK t 4::y)) b[i].1 k;rw[(x3 k).2,x1,hH _ (ABR hi) k,hsum,hw,Yd,Rp]
   have:RJ l a[i].1 k (RK t 4)=0:=by
    unfold RJ;rw[AAT (by show ¬(4:Int)<=3;omega)]
   omega
  ·refine⟨?_,λe=>(h3 e).elim⟩;unfold PN;rw[AAT h2,AAT h3];intro p hp k;rw[hH p hp k,hsum];show _=Qs l (x++y) p.1 k
   have:RJ l p.1 k t=0:=by unfold RJ;omega
   rw[Yd,this];omega
theorem DI.dA{w h:Int}{c:By}{nx:Int}{l:ADP}:∀(ts:AAL)(s:mP),DI w h c s.1 nx l s.2.2.1 (s.2.2.2.1++ts)->SY s.1 l (s.2.2.2.1++ts)->SY (N.Pc l ts s).1 l (N.Pc l ts s).2.2.2.1
 | [],s,_,hH=>by rw[ABf]at hH;exact hH
 |t::ts,s,d,hH=>by
  have h1:DI w h c (PX l t s).1 nx l (PX l t s).2.2.1 ((PX l t s).2.2.2.1++ts)/\SY (PX l t s).1 l ((PX l t s).2.2.2.1++ts):=by
   unfold PX;by_cases hg:P8 s.2.2.1 t=true
   ·rw[AAS hg]
    have ht:t.2.2.2≠1:=λe=>by unfold P8 at hg;rw[show(t.2.2.2==1)=true from AAX.2 e]at hg;simp at hg
    have q1:=d.aa ht s.2.1;have q2:=(d.YS ht s.2.1 hH).1;grind
   ·grind
  exact DI.dA ts (PX l t s) h1.1 h1.2
theorem gM(l:ADP)(id st:Int)(t:PH):O8 (QA l id st) t=O8 l t:=by
 unfold O8
 have:P0 (QA l id st) t.1=(P0 l t.1).map λo=>bif o.1==id then(o.1,o.2.1,o.2.2.1,o.2.2.2.1,st)else o:=by
  unfold P0 QA;rw[ACH]
  have:((λo:PS=>o.1==t.1) ∘ λo:PS=>bif o.1==id then(o.1,o.2.1,o.2.2.1,o.2.2.2.1,st)else o)=λo:PS=>o.1==t.1:=funext λo=>by
   simp only[Function.comp];cases(o.1==id)<;>rfl
  rw[this]
 grind
theorem iL(l:ADP)(id st PB k:Int)(ts:AAL):Qs (QA l id st) ts PB k=Qs l ts PB k:=
 YI (ABg λt _=>by unfold RJ;rw[gM])
theorem SY.fin{a:Is}{us:AAL}(ts:AAL):∀(ended:By)(l:ADP),SY a l us->SY a (iZ ts ended l) us
 | [],_,h=>h
 |id::ended,l,h=>by
  have:SY a (bif(ts.any λt=>t.1==id) || !P1 l id then l else QA l id 2) us:=by
   cases(ts.any λt=>t.1==id) || !P1 l id with
   |true=>exact h
   |false=>intro p hp k;rw[ABS,iL];exact h p hp k
  exact SY.fin ts ended _ this
theorem DI.iX{w h:Int}{c:By}{a:Is}{nx:Int}{l:ADP}{crew:ADQ}{ts:AAL}(d:DI w h c a nx l crew ts)(ou:By)(hH:SY a l ts):SY (N.PY a ou l crew ts).1 (N.PY a ou l crew ts).2.2.1 (N.PY a ou l crew ts).2.2.2.2:=
 SY.fin _ _ l (DI.dA ts (a,ou,crew,[],[]) d hH)
theorem dD.hold{a:Is}{l:ADP}{crew AAH:ADQ}{ts ts':AAL}{prs:List (Nat×Nat)}(hs:dD a crew ts prs AAH ts')(hst:∀p∈prs,∀h:p.1<ts.length,ts[p.1].2.2.2=1)(hH:SY a l ts):SY a l ts':=by
 intro p hp k;rw[hH p hp k];refine YI ?_;apply AB0
 ·rw[ABl,ABl,hs.l2]
 ·intro i h1 h2;rw[ABl]at h1 h2;rw[ABh,ABh];rcases hs.tk i h1 h2 with⟨q,hq,e1,e2⟩|⟨_,e2⟩
  ·rw[e2];subst e1;have:=hst q hq h1;unfold RJ;rw[AAS J,AAS No];rfl
  ·rw[e2]
theorem iK(x PB k:Int):∀o:OF,tp (o.filter λp=>p.1==x) PB k=if x=PB then tp o PB k else 0
 | []=>by simp[tp]
 |p::o=>by
  have ih:=iK x PB k o;rw[ABv];by_cases hx:p.1=x
  ·rw[AAS (AAX.2 hx)];show(if p.1=PB/\p.2.1=k then p.2.2 else 0)+tp _ PB k=if x=PB then(if p.1=PB/\p.2.1=k then p.2.2 else 0)+tp o PB k else 0
   omega
  ·rw[AAT (by rw[AAX];exact hx),ih];show _=if x=PB then(if p.1=PB/\p.2.1=k then p.2.2 else 0)+tp o PB k else 0
   omega
theorem fY(o:OF)(PB k:Int):∀xs:By,xs.Nodup->(xs.map λx=>tp (o.filter λp=>p.1==x) PB k).foldr (· + ·) 0=if PB∈xs then tp o PB k else 0
 | [],_=>AAA
 |x::xs,h=>by obtain⟨h1,h2⟩:=AAf.1 h;rw[ABH,List.foldr_cons,fY o PB k xs h2,iK];grind
theorem qn(q:PD)(f:Int->Int->Int)(k:Int)(h0:gK q k=0->f q.1 k=0):aX (jR f q) k=aX q k+f q.1 k:=by unfold gK PC at h0;unfold aX jR;dsimp only;rw[aT q.2.2 (f q.1) k];unfold PC;grind
theorem DI.nO{w h:Int}{c:By}{a:Is}{nx:Int}{l:ADP}{crew:ADQ}{ts:AAL}(d:DI w h c a nx l crew ts){desk:Int}{it:ADR}{o:OF}(T:cY a nx l desk it o)(hH:SY a l ts):
  SY (Pj a (N.tp o)) (l++[(nx,desk,it,o,1)]) (ts++(N.RM o).map λx=>(nx,x,(0:Int),(1:Int))):=by
 have hids:∀y∈l,y.1<nx:=λy hy=>by have:=(T.bk.2.2.2 y hy).1;omega
 intro p hp k;unfold Pj at hp;obtain⟨q,hq,rfl⟩:=AAw.1 hp;have hfit:=T.fit.free q hq k;have hpos:=T.fit.pos q.1 k;obtain⟨b1,b2,b3,b4,b5⟩:=Qj (d.st.2.2 q hq).2.2 k;rw[qn q (N.tp o) k (λh0=>by unfold gK at h0;unfold PL at hfit;omega),hH q hq k];show _=Qs (l++[(nx,desk,it,o,1)]) (ts++_) q.1 k;rw[Yd]
 have h1:Qs (l++[(nx,desk,it,o,1)]) ts q.1 k=Qs l ts q.1 k:=YI (ABg λt ht=>by
  obtain⟨oo,ho,_⟩:=(d.tk t ht).ord;unfold RJ O8;rw[hZ ho])
 have h2:Qs (l++[(nx,desk,it,o,1)]) ((N.RM o).map λx=>(nx,x,(0:Int),(1:Int))) q.1 k=N.tp o q.1 k:=by
  unfold Qs;rw[ACK]
  have hm:(N.RM o).map (RJ (l++[(nx,desk,it,o,1)]) q.1 k ∘ λx=>(nx,x,(0:Int),(1:Int)))=(N.RM o).map λx=>N.tp (o.filter λp=>p.1==x) q.1 k:=ABg λx _=>by show RJ (l++[(nx,desk,it,o,1)]) q.1 k (nx,x,(0:Int),(1:Int))=_;unfold RJ O8;rw[AAS No,show P0 (l++[(nx,desk,it,o,1)]) (nx,x,(0:Int),(1:Int)).1=some (nx,desk,it,o,1)from ew (x:=(nx,desk,it,o,1)) hids]
  rw[hm,fY o q.1 k _ (fE o)];by_cases hpm:q.1∈N.RM o
  ·grind
  ·rw[AAT hpm,kO o q.1 k λp hp e=>(hpm (TL.2 ⟨p,hp,e⟩)).elim]
 rw[h1,h2]
theorem iA{a:Is}(ha:PF a)(PB k m:Int)(hc:(VO a PB k m).2=0):∀i (h:i<a.length) (h2:i<(VO a PB k m).1.length),(VO a PB k m).1[i].1=a[i].1/\∀j,aX (VO a PB k m).1[i] j=aX a[i] j/\gK (VO a PB k m).1[i] j=gK a[i] j+if a[i].1=PB/\j=k then m else 0:=by
 unfold VO at hc ⊢;split at hc
 ·omega
 ·rename_i h1;split at hc
  ·simp at hc
  ·rename_i hno;simp only[AAT h1,AAT hno];obtain⟨_,hk,hm,i0,hi0,e1,e2,e3⟩:=QE (by omega:Pw a PB k m=0);have hst:=(ha.2.2 _ (ABR hi0)).2.2;obtain⟨b1,b2,b3,b4,b5⟩:=Qj hst k;intro q hq hq2;have hat:(aQ a PB (k,(RI a PB k).2.1+m,(RI a PB k).2.2))[q]=_:=fp (a:=a) (f:=Ye (k,(RI a PB k).2.1+m,(RI a PB k).2.2)) hq2;rw[hat];by_cases e:a[q].1=PB
   ·have eq:a[q]=a[i0]:=UD ha hi0 (ABR hq) (e.trans e2.symm);rw[show(a[q].1==PB)=true from AAX.2 e,ABQ];refine⟨rfl,λj=>?_⟩;obtain⟨s1,s2⟩:=bF (by rw[eq];exact hst:Uh a[q].2.2) (k,(RI a PB k).2.1+m,(RI a PB k).2.2) (λh0=>by dsimp only at h0 ⊢;rw[e3]at h0 ⊢;omega) j;unfold gK aX;dsimp only at s1 s2 ⊢;rw[s1,s2,e3,eq];by_cases ej:j=k
    ·subst ej;rw[AAS rfl,AAS rfl,AAS ⟨e2,rfl⟩];exact⟨rfl,rfl⟩
    ·rw[AAT ej,AAT ej,AAT (λh=>ej h.2),Int.add_zero];exact⟨rfl,rfl⟩
   grind
theorem j8(a:Is)(PB k m:Int):(VO a PB k m).1.length=a.length:=by
 unfold VO;split
 ·rfl
 ·split
  ·rfl
  ·exact U0 a PB _
theorem SY.ay{a:Is}(ha:PF a){l:ADP}{ts:AAL}(h:SY a l ts)(PB k m:Int)(hc:(VO a PB k m).2=0):SY (VO a PB k m).1 l ts:=λp hp j=>by
 obtain⟨i,hi2,rfl⟩:=ABU.1 hp;have hi:i<a.length:=by rw[j8]at hi2;exact hi2
 obtain⟨e1,e2⟩:=iA ha PB k m hc i hi hi2;rw[e1,(e2 j).1];exact h _ (ABR hi) j
def Vi(a:Is)(k:Int):Int:=(a.map λp=>gK p k).foldr (· + ·) 0
theorem rX(l:OF)(k:Int):S9 l k=(PC l k).2.1:=by unfold S9 PC;grind
theorem cf:∀(l:By)(z:Int),l.foldl (· + ·) z=z+l.foldr (· + ·) 0
 | [],z=>AAA
 |x::l,z=>by rw[List.foldl_cons,cf l,List.foldr_cons];omega
theorem lZ{a:Is}(ha:PF a)(k:Int):Sy a k=Vi a k:=by unfold Sy Vi;rw[ha.ok,ABQ,cf,Int.zero_add];refine congrArg (λl=>List.foldr (· + ·) 0 l) (ABg λp _=>rX p.2.2 k)
theorem pQ(a:Is)(f:Int->Int->Int)(k:Int):Vi (Pj a f) k=Vi a k:=by unfold Vi Pj;rw[ACK];refine congrArg (λl=>List.foldr (· + ·) 0 l) (ABg λp _=>?_);show gK (jR f p) k=gK p k;unfold gK jR;dsimp only;rw[aT p.2.2 (f p.1) k];unfold PC;grind
def Z8(a:Is)(st ou:By):Prop:=∀k:Int,1<=k->k<=50->Vi a k+ou.getD k.toNat 0=st.getD k.toNat 0
theorem ee{ps:OF}(k:Int):∀(a b:Is),dC a b (tp ps)->Vi b k=Vi a k-Z7 a ps k
 | [],b,h=>by have:b=[]:=List.length_eq_zero_iff.1 h.len;rw[this];simp[Vi,Z7]
 |p::a,[],h=>by have:=h.len;simp at this
 |p::a,q::b,h=>by
  have h0:=h.each 0 AAA AAA
  have ht:dC a b (tp ps):=⟨by have:=h.len;grind,λi hi hi2=>by
   have:=h.each (i+1) (by simp;exact hi) (by simp;exact hi2);grind⟩
  have ih:=ee k a b ht;have h1:=(h0.2.2 k).1;simp only[AB9]at h1;unfold Vi at ih ⊢;simp only[ABH,List.foldr_cons,Z7];omega
theorem jy{a:Is}(ha:PF a)(k:Int):0<=Vi a k:=by
 have:∀l:Is,(∀p∈l,Uh p.2.2)->0<=Vi l k:=by
  intro l
  induction l with
  |nil=>intro _;simp[Vi]
  |cons p l ih=>
   intro hl;have h1:=ih λq hq=>hl q (AAQ _ hq);have h2:=(Qj (hl p AAo) k).1;unfold Vi at h1 ⊢;simp only[ABH,List.foldr_cons];unfold gK at h1 ⊢;omega
 exact this a λp hp=>(ha.2.2 p hp).2.2
theorem lr:∀(ps:OF)(ou:By),(∀p∈ps,(1<=p.2.1/\p.2.1<=50)/\1<=p.2.2)->ou.length=51->(∀k:Int,1<=k->k<=50->ou.getD k.toNat 0+Q3 k ps<=1000000)->∀k:Int,1<=k->k<=50->(aP ou ps).getD k.toNat 0=ou.getD k.toNat 0+Q3 k ps
 | [],ou,_,_,_,k,_,_=>by simp[aP,Q3]
 |p::ps,ou,hp,hl,hb,k,h1,h2=>by
  obtain⟨⟨s1,s2⟩,s3⟩:=hp p AAo;have hpos:=Ve p.2.1 ps λq hq=>(hp q (AAQ _ hq)).2;have hbs:=hb p.2.1 s1 s2;simp only[Q3,ABu,ABQ]at hbs
  have hun:aP ou (p::ps)=aP (ou.set p.2.1.toNat (ou.getD p.2.1.toNat 0+p.2.2)) ps:=by unfold aP;grind
  have zw:∀j:Int,1<=j->j<=50->(ou.set p.2.1.toNat (ou.getD p.2.1.toNat 0+p.2.2)).getD j.toNat 0=ou.getD j.toNat 0+bif p.2.1==j then p.2.2 else 0:=λj j1 j2=>No
  rw[hun,lr ps _ (λq hq=>hp q (AAQ _ hq)) No (λj j1 j2=>by
   have:=hb j j1 j2;simp only[Q3]at this;grind) k h1 h2,zw k h1 h2]
  simp only[Q3];omega
theorem DI.eH{w h:Int}{c:By}{a:Is}{nx:Int}{l:ADP}{crew:ADQ}{x y:AAL}{t:PH}(d:DI w h c a nx l crew (x++t::y))(ht:t.2.2.2≠1){st ou:By}(hst:TZ st)(hou:TZ ou)(hH:SY a l (x++t::y))(hP:Z8 a st ou):
  Z8 (PN a ou l crew t).1 st (PN a ou l crew t).2.1:=by
 have hT:=d.tk t (AAV _ AAo);have hb:=(d.YS ht ou hH).2;have hS:=(d.aa ht ou).st;unfold PN at hS ⊢;by_cases h2:t.2.2.2=2
 ·grind
 ·rw[AAT h2]at hS ⊢;by_cases h3:t.2.2.2=3
  ·rw[AAS h3]at hS ⊢;obtain⟨b,e1,e2⟩:=hb h3;rw[e1]at hS ⊢;dsimp only at hS ⊢;rw[ABQ];have hpb:=TK d hT.PB
   have hall:∀k,Vi b k=Vi a k-Q3 k (O8 l t):=λk=>by
    rw[ee k a b e2,fj k a (d.st.2.1.imp λh=>by omega) (O8 l t) λp hp=>by
     obtain⟨_,_,i,hi,e⟩:=hpb p hp;exact⟨_,ABR hi,e⟩]
   have hle:∀k:Int,1<=k->k<=50->ou.getD k.toNat 0+Q3 k (O8 l t)<=1000000:=λk k1 k2=>by
    have q1:=hP k k1 k2;have q2:=jy hS k;rw[hall k]at q2;have zj:k.toNat<st.length:=by rw[hst.1];omega
    have q3:=(hst.2.1 _ (ABR zj)).2;rw[show st.getD k.toNat 0=st[k.toNat] by simp[zj]]at q1;omega
   intro k k1 k2;rw[lr (O8 l t) ou (λp hp=>⟨(hpb p hp).1,(hpb p hp).2.1.1⟩) hou.1 hle k k1 k2,hall k];have:=hP k k1 k2;omega
  grind
structure DG(w h:Int)(c:By)(a:Is)(nx:Int)(l:ADP)(crew:ADQ)(ts:AAL)(st ou:By):Prop where
 di:DI w h c a nx l crew ts
 c1:TZ st
 c2:TZ ou
 hold:SY a l ts
 piece:Z8 a st ou
 dn:∀o∈l,o.2.2.2.2=1->∃t∈ts,t.1=o.1
theorem DG.new{w h:Int}{c:By}{a:Is}(hok:ZV w h c a=true):DG w h c a 1 [] (Rw (Pu c) (min (Pu c).length 20)) [] (Ru a 50) (List.replicate 51 0):=by
 obtain⟨hf,hk,h0,hho⟩:=ZW hok;have hS:=Pp.1 hk;refine⟨DI.new hok,⟨YG a 50,λx hx=>?_,?_⟩,⟨AAA,λx hx=>?_,AAA⟩,λp hp k=>?_,λk k1 k2=>?_,λo ho=>by cases ho⟩
 ·obtain⟨i,hi,rfl⟩:=ABU.1 hx;have hi2:=hi;rw[YG]at hi2;have:=fT a (show i<=50 by omega);rw[AAM hi]at this;rw[Option.some.inj this];have hb:=eB a (i:Int);grind
 ·rw[fT a J];rfl
 ·grind
 ·show aX p k=0;have hst:=(hS.2.2 p hp).2.2;have hb:=(Qj hst k).2.2.1;unfold aX;unfold PC at hb ⊢;grind
 ·have hz:(List.replicate 51 (0:Int)).getD k.toNat 0=0:=by
   rw[List.getD,ACW];split<;>rfl
  have hs:=fT a (show k.toNat<=50 by omega);rw[hz,List.getD,hs,ABV (show 1<=k.toNat by omega),ABQ,show((k.toNat:Nat):Int)=k by omega,lZ hS];simp
theorem DG.loop{w h:Int}{c:By}{nx:Int}{l:ADP}{st:By}(hst:TZ st):∀(ts:AAL)(s:mP),DI w h c s.1 nx l s.2.2.1 (s.2.2.2.1++ts)->TZ s.2.1->SY s.1 l (s.2.2.2.1++ts)->Z8 s.1 st s.2.1->
  Z8 (Pc l ts s).1 st (Pc l ts s).2.1/\∀id,((∃t∈s.2.2.2.1++ts,t.1=id)\/id∈s.2.2.2.2)->(∃t∈(Pc l ts s).2.2.2.1,t.1=id)\/id∈(Pc l ts s).2.2.2.2
 | [],s,_,_,_,hP=>⟨hP,λid hid=>by rw[ABf]at hid;exact hid⟩
 |t::ts,s,d,ho,hH,hP=>by
  by_cases hg:P8 s.2.2.1 t=true
  ·have ht:t.2.2.2≠1:=λe=>by unfold P8 at hg;grind
   have q1:=d.aa ht s.2.1;have q2:=(d.YS ht s.2.1 hH).1;have q3:=d.eF t ho;have q4:=d.eH ht hst ho hH hP;have hone:PX l t s=((PN s.1 s.2.1 l s.2.2.1 t).1,(PN s.1 s.2.1 l s.2.2.1 t).2.1,(PN s.1 s.2.1 l s.2.2.1 t).2.2.1,s.2.2.2.1++Xf (PN s.1 s.2.1 l s.2.2.1 t).2.2.2,match(PN s.1 s.2.1 l s.2.2.1 t).2.2.2 with|some _=>s.2.2.2.2|none=>s.2.2.2.2++[t.1]):=by unfold PX;rw[AAS hg];rfl
   have ih:=DG.loop hst ts (PX l t s) (by
    rw[hone];show DI w h c _ nx l _ ((s.2.2.2.1++Xf _)++ts);grind) No (by
    grind) No
   refine⟨ih.1,λid hid=>ih.2 id ?_⟩;rw[hone];dsimp only;cases hq:(PN s.1 s.2.1 l s.2.2.1 t).2.2.2 with
   |some t'=>
    have e1:=eG hq;dsimp only[Xf];rcases hid with⟨u,hu,e⟩|hid
    all_goals grind
   |none=>
    dsimp only[Xf];rw[ABf];rcases hid with⟨u,hu,e⟩|hid
    all_goals grind
  ·have hone:PX l t s=(s.1,s.2.1,s.2.2.1,s.2.2.2.1++[t],s.2.2.2.2):=by unfold PX;rw[AAT hg]
   have hap:(s.2.2.2.1++[t])++ts=s.2.2.2.1++t::ts:=by rw[ABj];rfl
   have ih:=DG.loop hst ts (PX l t s) (by rw[hone];dsimp only;rw[hap];exact d) (by rw[hone];exact ho) (by rw[hone];dsimp only;rw[hap];exact hH) (by rw[hone];exact hP);refine⟨ih.1,λid hid=>ih.2 id ?_⟩;grind
theorem DG.PY{w h:Int}{c:By}{a:Is}{nx:Int}{l:ADP}{crew:ADQ}{ts:AAL}{st ou:By}(g:DG w h c a nx l crew ts st ou):DG w h c (N.PY a ou l crew ts).1 nx (N.PY a ou l crew ts).2.2.1 (N.PY a ou l crew ts).2.2.2.1 (N.PY a ou l crew ts).2.2.2.2 st (N.PY a ou l crew ts).2.1:=by
 have hl:=DG.loop g.c1 ts (a,ou,crew,[],[]) g.di g.c2 g.hold g.piece
 have hfin:=dg (Pc l ts (a,ou,crew,[],[])).2.2.2.1 l (Pc l ts (a,ou,crew,[],[])).2.2.2.2 (λ_=>false) λid hid=>by
  rcases Y5 l ts (a,ou,crew,[],[]) id hid with hh|⟨t,ht,e⟩
  ·cases hh
  ·obtain⟨o,ho,hs,_⟩:=(g.di.tk t ht).ord;unfold P1;grind
 rw[fk l _ λk=>rfl]at hfin;refine⟨g.di.PY ou,g.c1,DI.fZ ts (a,ou,crew,[],[]) g.di g.c2,g.di.iX ou g.hold,hl.1,λo ho hs=>?_⟩;have ho:o∈iZ (Pc l ts (a,ou,crew,[],[])).2.2.2.1 (Pc l ts (a,ou,crew,[],[])).2.2.2.2 l:=ho;rw[hfin]at ho;unfold Qb at ho;obtain⟨o2,ho2,e⟩:=AAw.1 ho;dsimp only at e;show ∃t∈(Pc l ts (a,ou,crew,[],[])).2.2.2.1,t.1=o.1;cases hb:(false||((Pc l ts (a,ou,crew,[],[])).2.2.2.2.any λe=>e==o2.1) && !((Pc l ts (a,ou,crew,[],[])).2.2.2.1.any λt=>t.1==o2.1))with
 |true=>
  grind
 |false=>
  rw[hb,ABS]at e;subst e;obtain⟨t,ht,et⟩:=g.dn o2 ho2 hs;grind
theorem DG.fK{w h:Int}{c:By}{a:Is}{nx:Int}{l:ADP}{crew:ADQ}{ts:AAL}{st ou:By}(g:DG w h c a nx l crew ts st ou){prs:List (Nat×Nat)}(hd:nV w h c a crew ts prs){AAH:ADQ}{ts':AAL}(hs:dD a crew ts prs AAH ts'):DG w h c a nx l AAH ts' st ou:=by
 have hal:a.length<=1048576:=by have:=g.di.st.1;omega
 refine⟨g.di.fK hd hs,g.c1,g.c2,hs.hold (λp hp hh=>(hd.Vg hal hp).2.1) g.hold,g.piece,λo ho hst=>?_⟩;obtain⟨t,ht,e⟩:=g.dn o ho hst;obtain⟨i,hi,rfl⟩:=ABU.1 ht;have hi':i<ts'.length:=by rw[hs.l2];exact hi
 refine⟨ts'[i],ABR hi',?_⟩;rcases hs.tk i hi hi' with⟨p,hp,_,e2⟩|⟨_,e2⟩
 all_goals grind
theorem DG.np{w h:Int}{c:By}{a:Is}{nx:Int}{l:ADP}{crew:ADQ}{ts:AAL}{st ou:By}(g:DG w h c a nx l crew ts st ou){AAH:ADQ}(hc:CW c AAH)(hl:AAH.length=crew.length)(hs:∀k (h1:k<crew.length) (h2:k<AAH.length),AAH[k].1=crew[k].1/\AAH[k].2.2.1=crew[k].2.2.1/\AAH[k].2.2.2.1=crew[k].2.2.2.1):DG w h c a nx l AAH ts st ou:=
 ⟨g.di.np hc hl hs,g.c1,g.c2,g.hold,g.piece,g.dn⟩
theorem DG.tick{w h:Int}{c:By}{a:Is}{nx:Int}{l:ADP}{crew:ADQ}{ts:AAL}{st ou:By}(g:DG w h c a nx l crew ts st ou){AAI:ADQ}(hc:CW c AAI)(hl:AAI.length=(sendAll a crew ts (PZ w h c a crew ts)).1.length)
  (hs:∀k (h1:k<(sendAll a crew ts (PZ w h c a crew ts)).1.length) (h2:k<AAI.length),AAI[k].1=(sendAll a crew ts (PZ w h c a crew ts)).1[k].1/\AAI[k].2.2.1=(sendAll a crew ts (PZ w h c a crew ts)).1[k].2.2.1/\AAI[k].2.2.2.1=(sendAll a crew ts (PZ w h c a crew ts)).1[k].2.2.2.1):
  DG w h c (N.PY a ou l AAI (sendAll a crew ts (PZ w h c a crew ts)).2).1 nx (N.PY a ou l AAI (sendAll a crew ts (PZ w h c a crew ts)).2).2.2.1 (N.PY a ou l AAI (sendAll a crew ts (PZ w h c a crew ts)).2).2.2.2.1 (N.PY a ou l AAI (sendAll a crew ts (PZ w h c a crew ts)).2).2.2.2.2 st (N.PY a ou l AAI (sendAll a crew ts (PZ w h c a crew ts)).2).2.1:=by
 have hcl:c.length<=1048576:=by have:=(Tz g.di.fl).le;omega
 have hd:=YP hcl g.di.fl a crew ts;exact((g.fK hd (Tm hd.n1 hd.n2)).np hc hl hs).PY
theorem DG.take{w h:Int}{c:By}{a:Is}{nx:Int}{l:ADP}{crew:ADQ}{ts:AAL}{st ou:By}(g:DG w h c a nx l crew ts st ou){desk:Int}{it:ADR}{o:OF}(T:cY a nx l desk it o)(hdk:QN c desk=true)(h29:l.length<=29)(hlen:ts.length+(RM o).length<=60):
  DG w h c (Pj a (tp o)) (nx+1) (l++[(nx,desk,it,o,1)]) crew (ts++(RM o).map λx=>(nx,x,(0:Int),(1:Int))) st ou:=by
 refine⟨g.di.take T hdk h29 hlen,g.c1,g.c2,g.di.nO T g.hold,λk k1 k2=>by rw[pQ];exact g.piece k k1 k2,λq hq hs=>?_⟩;rcases ABI.1 hq with hq|hq
 ·obtain⟨t,ht,e⟩:=g.dn q hq hs;grind
 ·rw[ABa.1 hq]
  have zp:∃p,p∈o:=by
   have h0:=T.ne;have hy:=T.pg.2 _ (ABR h0);have hb:=T.im.2.1 _ (ABR h0);cases o with
   |nil=>simp only[Q3]at hy;omega
   |cons p r=>exact⟨p,AAo⟩
  obtain⟨p,hp⟩:=zp;exact⟨(nx,p.1,0,1),AAV _ (AAw.2 ⟨p.1,TL.2 ⟨p,hp,rfl⟩,rfl⟩),rfl⟩
theorem DG.iF{w h:Int}{c:By}{a:Is}{nx:Int}{l:ADP}{crew:ADQ}{ts:AAL}{st ou:By}(g:DG w h c a nx l crew ts st ou):DG w h c a nx (Q6 l) crew ts st ou:=by
 refine⟨g.di.iF,g.c1,g.c2,λp hp k=>?_,g.piece,λo ho hs=>?_⟩
 ·rw[g.hold p hp k];refine YI (ABg λt ht=>?_);obtain⟨o,ho,hs,_⟩:=(g.di.tk t ht).ord;unfold RJ O8;rw[fA ho hs g.di.bk.2.2.1,ho]
 ·unfold Q6 at ho;exact g.dn o (ABb.1 ho).1 hs
theorem gz(p:O0)(j:Int):∀(a b:Is),b.length=a.length->(∀i (h:i<a.length) (h2:i<b.length),gK b[i] j=gK a[i] j+if p.1=a[i].1/\p.2.1=j then p.2.2 else 0)->Vi b j=Vi a j+YK a p j
 | [],b,hl,_=>by have:b=[]:=List.length_eq_zero_iff.1 hl;rw[this];simp[Vi,YK]
 |x::a,[],hl,_=>ADo
 |x::a,y::b,hl,h=>by
  have h0:=h 0 AAA AAA
  have ih:=gz p j a b No λi hi hi2=>by have:=h (i+1) (by simp;exact hi) (by simp;exact hi2);grind
  simp only[AB9]at h0;unfold Vi at ih ⊢;simp only[ABH,List.foldr_cons,YK];omega
theorem cA{a:Is}{PB k m:Int}(hc:(VO a PB k m).2=0):Pw a PB k m=0:=by unfold VO at hc;grind
theorem oK{a:Is}(ha:PF a){PB k m:Int}(hc:(VO a PB k m).2=0)(j:Int):Vi (VO a PB k m).1 j=Vi a j+bif k==j then m else 0:=by
 obtain⟨_,_,_,i,hi,_,e2,_⟩:=QE (cA hc)
 rw[gz (PB,k,m) j a _ (j8 a PB k m) λq hq hq2=>by
  rw[((iA ha PB k m hc q hq hq2).2 j).2];by_cases e:a[q].1=PB/\j=k
  ·rw[AAS e,AAS ⟨e.1.symm,e.2.symm⟩]
  ·rw[AAT e,AAT λh=>e ⟨h.1.symm,h.2.symm⟩]]
 rw[bw (PB,k,m) j a (ha.2.1.imp λh=>by omega) ⟨_,ABR hi,e2⟩]
theorem DG.ay{w h:Int}{c:By}{a:Is}{nx:Int}{l:ADP}{crew:ADQ}{ts:AAL}{st ou:By}(g:DG w h c a nx l crew ts st ou)(PB k m:Int)(hc:(VO a PB k m).2=0)(hm:st.getD k.toNat 0+m<=1000000):DG w h c (VO a PB k m).1 nx l crew ts (st.set k.toNat (st.getD k.toNat 0+m)) ou:=by
 obtain⟨hS,hk,hm1,i,hi,_,e2,_⟩:=QE (cA hc);have h51:=g.c1.1;have zj:k.toNat<st.length:=J
 have h0:0<=st.getD k.toNat 0:=by rw[show st.getD k.toNat 0=st[k.toNat] by simp[zj]];exact(g.c1.2.1 _ (ABR zj)).1
 refine⟨g.di.ay PB k m,g.c1.set J ⟨J,hm⟩,g.c2,g.hold.ay hS PB k m hc,λj j1 j2=>?_,g.dn⟩;have hp:=g.piece j j1 j2;rw[oK hS hc j];grind
structure rU(a b:Is)(g:Int->Int->Int):Prop where
 len:b.length=a.length
 each:∀i (h:i<a.length) (h2:i<b.length),b[i].1=a[i].1/\∀k,gK b[i] k=gK a[i] k/\aX b[i] k=aX a[i] k-g a[i].1 k
theorem nD{a:Is}(ha:PF a){i:Nat}(hi:i<a.length){k m:Int}(hk:1<=k/\k<=50)(hm:1<=m/\m<=1000)(hh:m<=aX a[i] k):(W6 a a[i].1 k m).2=0/\rU a (W6 a a[i].1 k m).1 λPB j=>if PB=a[i].1/\j=k then m else 0:=by
 obtain⟨c1,c2⟩:=eI ha hi hk hm;have hst:=(ha.2.2 _ (ABR hi)).2.2;unfold aX at hh;unfold W6;rw[c1,AAT J,c2,AAT J];refine⟨rfl,by show(T6 _ _ _ _).length=_;unfold T6;rw[U0],λq hq hq2=>?_⟩;have hat:(T6 a a[i].1 k (-m))[q]=_:=fp (a:=a) (f:=λl=>Q7 l k λy=>(y.1,y.2.1,y.2.2 + -m)) hq2;show(T6 a a[i].1 k (-m))[q].1=_/\∀j,gK (T6 a a[i].1 k (-m))[q] j=_/\aX (T6 a a[i].1 k (-m))[q] j=_;rw[hat];by_cases e:a[q].1=a[i].1
 ·have eq:a[q]=a[i]:=UD ha hi (ABR hq) e
  have hz:∃z∈a[i].2.2,z.1=k:=by refine AAp λhno=>?_;rw[RH λx hx ex=>hno ⟨x,hx,ex⟩]at hh;dsimp only at hh;omega
  rw[show(a[q].1==a[i].1)=true from AAX.2 e,ABQ];refine⟨rfl,λj=>?_⟩;have hs:=kR hst k (-m) j;unfold gK aX;dsimp only;rw[eq,hs];by_cases ej:j=k
  ·subst ej;rw[AAS ⟨rfl,hz⟩,AAS ⟨rfl,rfl⟩];exact⟨rfl,by show(PC a[i].2.2 j).2.2 + -m=_;omega⟩
  ·rw[AAT (λh=>ej h.1),AAT (λh=>ej h.2),Int.sub_zero];exact⟨rfl,rfl⟩
 grind
theorem l8:∀(ps:OF)(a:Is),PF a->(∀p∈ps,(1<=p.2.1/\p.2.1<=50)/\(1<=p.2.2/\p.2.2<=1000)/\∃i,∃h:i<a.length,a[i].1=p.1)->(∀q∈a,∀k,tp ps q.1 k<=aX q k)->∃b,Vk Zd ps a=some b/\PF b/\rU a b (tp ps)
 | [],a,ha,_,_=>⟨a,rfl,ha,rfl,λi h h2=>⟨rfl,λk=>⟨rfl,by simp[tp]⟩⟩⟩
 |p::ps,a,ha,hp,hh=>by
  obtain⟨hk,hm,i,hi,e⟩:=hp p AAo;have hpos:=aW ps (λq hq=>(hp q (AAQ _ hq)).2.1.1);have h1:=hh _ (ABR hi) p.2.1;rw[e,jN]at h1;have h2:=hpos p.1 p.2.1;obtain⟨t1,t2⟩:=nD ha hi hk hm (show p.2.2<=aX a[i] p.2.1 by omega);rw[e]at t1 t2
  have hsplit:∀PB k,tp (p::ps) PB k=(if PB=p.1/\k=p.2.1 then p.2.2 else 0)+tp ps PB k:=λPB k=>by show(if p.1=PB/\p.2.1=k then p.2.2 else 0)+tp ps PB k=_;omega
  obtain⟨b,g1,g2,g3⟩:=l8 ps (W6 a p.1 p.2.1 p.2.2).1 (jD ha p.1 p.2.1 p.2.2) (λq hq=>by
   obtain⟨x1,x2,j,hj,ej⟩:=hp q (AAQ _ hq);have hj2:j<(W6 a p.1 p.2.1 p.2.2).1.length:=by rw[t2.len];exact hj
   exact⟨x1,x2,j,hj2,(t2.each j hj hj2).1.trans ej⟩) (λq hq k=>by
   obtain⟨j,hj2,rfl⟩:=ABU.1 hq;have hj:j<a.length:=by rw[<-t2.len];exact hj2
   obtain⟨x1,x3⟩:=t2.each j hj hj2;grind)
  refine⟨b,?_,g2,g3.len.trans t2.len,λq hq hq2=>?_⟩
  ·rw[Vk];show(if(W6 a p.1 p.2.1 p.2.2).2≠0 then none else _)=_;rw[AAT (by rw[t1];simp)];exact g1
  ·have hq3:q<(W6 a p.1 p.2.1 p.2.2).1.length:=by rw[t2.len];exact hq
   obtain⟨x1,x2⟩:=t2.each q hq hq3;obtain⟨y1,y2⟩:=g3.each q hq3 hq2;grind
theorem hX:∀(a b:By),a.Nodup->(∀x∈a,x∈b)->a.length<=b.length
 | [],b,_,_=>Nat.zero_le _
 |x::a,b,h,hs=>by obtain⟨h1,h2⟩:=AAf.1 h;have hx:=hs x AAo;have:=hX a (b.erase x) h2 λy hy=>(List.mem_erase_of_ne (λe:y=x=>h1 (e▸hy))).2 (hs y (AAQ _ hy));grind
theorem cover{a b:By}(ha:a.Nodup)(hs:∀x∈a,x∈b)(hl:b.length<=a.length){y:Int}(hy:y∈b):y∈a:=by
 refine AAp λhno=>?_
 have:=hX (y::a) b (AAf.2 ⟨hno,ha⟩) λx hx=>by
  rcases AAi.1 hx with rfl|hx
  ·exact hy
  ·exact hs x hx
 grind
theorem Zk(l:ADP)(id PB k:Int):∀ts:AAL,Qs l ts PB k=Qs l (ts.filter λt=>t.1==id) PB k+Qs l (ts.filter λt => !(t.1==id)) PB k
 | []=>by simp[Qs]
 |t::ts=>by
  have ih:=Zk l id PB k ts;rw[ABv,ABv,Rp,ih];cases(t.1==id)with
  |true=>simp only[if_true,ABX,Rp];simp;omega
  |false=>simp only[ABp,if_true,Rp];simp;omega
theorem pC{ts:AAL}(h:TP ts)(id:Int):((ts.filter λt=>t.1==id).map (·.2.1)).Nodup:=by obtain⟨_,_,t3⟩:=QL.1 h;have hp:=t3.filter (λt=>t.1==id);unfold List.Nodup;rw[ABk];refine AB6 (fun {x y} hx hy hxy e=>?_) hp;have e1:=AAX.1 (ABb.1 hx).2;have e2:=AAX.1 (ABb.1 hy).2;unfold Pg at hxy;grind
theorem DG.back{w h:Int}{c:By}{a:Is}{nx:Int}{l:ADP}{crew:ADQ}{ts:AAL}{st ou:By}(g:DG w h c a nx l crew ts st ou){id:Int}{o:PS}(ho:P0 l id=some o)(hwt:∀t∈ts,t.1=id->t.2.2.2=1)(hn:(N.RM o.2.2.2.1).length<=(ts.filter λt=>t.1==id).length):
  (Qc Zd a o.2.2.2.1).2=true/\DG w h c (Qc Zd a o.2.2.2.1).1 nx (QA l id 3) crew (ts.filter λt => !(t.1==id)) st ou:=by
 obtain⟨hom,hoe⟩:=QB ho;obtain⟨_,_,⟨hI,_⟩,hpg,_⟩:=g.di.bk.2.2.2 o hom;have hnd:=pC g.di.Vg id
 have hsub:∀x∈(ts.filter λt=>t.1==id).map (·.2.1),x∈N.RM o.2.2.2.1:=λx hx=>by
  obtain⟨t,ht,rfl⟩:=AAw.1 hx;obtain⟨htm,hte⟩:=ABb.1 ht;obtain⟨o2,q1,_,p,hp,e⟩:=(g.di.tk t htm).ord;rw[AAX.1 hte,ho]at q1;injection q1 with q1
  subst q1;exact TL.2 ⟨p,hp,e⟩
 have hcov:∀y∈N.RM o.2.2.2.1,y∈(ts.filter λt=>t.1==id).map (·.2.1):=λy hy=>cover hnd hsub No hy
 have hwant:∀PB k,Qs l (ts.filter λt=>t.1==id) PB k=N.tp o.2.2.2.1 PB k:=λPB k=>by
  unfold Qs
  have hm:(ts.filter λt=>t.1==id).map (RJ l PB k)=((ts.filter λt=>t.1==id).map (·.2.1)).map λx=>N.tp (o.2.2.2.1.filter λp=>p.1==x) PB k:=by rw[ACK];refine ABg λt ht=>?_;obtain⟨htm,hte⟩:=ABb.1 ht;have e:=AAX.1 hte;unfold RJ O8;rw[AAS No,e,ho];rfl
  rw[hm,fY o.2.2.2.1 PB k _ hnd];by_cases hpm:PB∈(ts.filter λt=>t.1==id).map (·.2.1)
  ·grind
  ·rw[AAT hpm,kO o.2.2.2.1 PB k λp hp e=>(hpm (hcov _ (TL.2 ⟨p,hp,e⟩))).elim]
 have hbound:∀p∈o.2.2.2.1,(1<=p.2.1/\p.2.1<=50)/\(1<=p.2.2/\p.2.2<=1000)/\∃i,∃h:i<a.length,a[i].1=p.1:=λp hp=>by
  have hy:=hcov _ (TL.2 ⟨p,hp,rfl⟩);obtain⟨t,ht,e⟩:=AAw.1 hy;obtain⟨htm,hte⟩:=ABb.1 ht
  have:=TK g.di (g.di.tk t htm).PB p (by
   unfold O8;grind)
  exact this
 obtain⟨b,e1,e2,e3⟩:=l8 o.2.2.2.1 a g.di.st hbound λq hq k=>by rw[g.hold q hq k,Zk l id q.1 k ts,hwant];have:=Zw g.di q.1 k (ts.filter λt => !(t.1==id));omega
 have hall:Qc Zd a o.2.2.2.1=(b,true):=by unfold Qc;rw[e1]
 have hdi:=g.di.back id o.2.2.2.1;rw[hall]at hdi ⊢;refine⟨rfl,hdi,g.c1,g.c2,λp hp k=>?_,λk k1 k2=>?_,λq hq hs=>?_⟩
 ·obtain⟨i,hi2,rfl⟩:=ABU.1 hp;have hi:i<a.length:=by rw[<-e3.len];exact hi2
  obtain⟨x1,x2⟩:=e3.each i hi hi2;rw[(x2 k).2,x1,iL,g.hold _ (ABR hi) k,Zk l id a[i].1 k ts,hwant];omega
 ·have hna:Vi b k=Vi a k:=by
   unfold Vi;refine congrArg (λl=>List.foldr (· + ·) 0 l) ?_;apply AB0
   ·rw[ABl,ABl,e3.len]
   ·intro i h1 h2;rw[ABl]at h1 h2;rw[ABh,ABh];exact((e3.each i h2 h1).2 k).1
  show Vi b k+_=_;rw[hna];exact g.piece k k1 k2
 ·unfold QA at hq;obtain⟨o2,ho2,rfl⟩:=AAw.1 hq;by_cases e:o2.1=id
  ·grind
  ·rw[show(o2.1==id)=false from ABW.2 e,ABS]at hs ⊢;obtain⟨t,ht,et⟩:=g.dn o2 ho2 hs;grind
def Tw(crew:ADQ)(ts:AAL):Prop:=∀r∈crew,r.2.2.2.1=true->∃t∈ts,t.2.2.1=r.1/\3<=t.2.2.2/\t.2.2.2<=4
theorem DI.mW{w h:Int}{c:By}{a:Is}{nx:Int}{l:ADP}{crew:ADQ}{x y:AAL}{t:PH}(d:DI w h c a nx l crew (x++t::y))(ht:t.2.2.2≠1)(ou:By)(hL:Tw crew (x++t::y)):
  Tw (PN a ou l crew t).2.2.1 (x++(Xf (PN a ou l crew t).2.2.2++y)):=by
 have key:∀(f:PR->PR)(us:AAL),(∀r,(f r).1=r.1)->(∀r∈crew,r.1=t.2.2.1->(f r).2.2.2.1=true->∃u∈us,u.2.2.1=t.2.2.1/\3<=u.2.2.2/\u.2.2.2<=4)->Tw (Vf crew t.2.2.1 f) (x++(us++y)):=λf us hf hu r hr hload=>by
  unfold Vf at hr;obtain⟨r0,hr0,rfl⟩:=AAw.1 hr;by_cases e:r0.1=t.2.2.1
  ·rw[show(r0.1==t.2.2.1)=true from AAX.2 e,ABQ]at hload ⊢;obtain⟨u,hu1,hu2,hu3⟩:=hu r0 hr0 e hload;grind
  ·rw[show(r0.1==t.2.2.1)=false from ABW.2 e,ABS]at hload ⊢;obtain⟨u,hu1,hu2,hu3⟩:=hL r0 hr0 hload;grind
 unfold PN;by_cases h2:t.2.2.2=2
 ·rw[AAS h2];exact key _ [RK t 3] (λr=>rfl) λr _ _ _=>⟨_,ABa.2 rfl,rfl,by show(3:Int)<=3;omega,by show(3:Int)<=4;omega⟩
 ·rw[AAT h2];by_cases h3:t.2.2.2=3
  ·rw[AAS h3];exact key _ [RK t 4] (λr=>rfl) λr _ _ _=>⟨_,ABa.2 rfl,rfl,by show(3:Int)<=4;omega,by show(4:Int)<=4;omega⟩
  grind
theorem DI.dB{w h:Int}{c:By}{nx:Int}{l:ADP}:∀(ts:AAL)(s:mP),DI w h c s.1 nx l s.2.2.1 (s.2.2.2.1++ts)->Tw s.2.2.1 (s.2.2.2.1++ts)->Tw (N.Pc l ts s).2.2.1 (N.Pc l ts s).2.2.2.1
 | [],s,_,hL=>by rw[ABf]at hL;exact hL
 |t::ts,s,d,hL=>by
  have h1:DI w h c (PX l t s).1 nx l (PX l t s).2.2.1 ((PX l t s).2.2.2.1++ts)/\Tw (PX l t s).2.2.1 ((PX l t s).2.2.2.1++ts):=by
   unfold PX;by_cases hg:P8 s.2.2.1 t=true
   ·rw[AAS hg]
    have ht:t.2.2.2≠1:=λe=>by unfold P8 at hg;rw[show(t.2.2.2==1)=true from AAX.2 e]at hg;simp at hg
    have q1:=d.aa ht s.2.1;have q2:=d.mW ht s.2.1 hL;grind
   ·grind
  exact DI.dB ts (PX l t s) h1.1 h1.2
theorem DI.iY{w h:Int}{c:By}{a:Is}{nx:Int}{l:ADP}{crew:ADQ}{ts:AAL}(d:DI w h c a nx l crew ts)(ou:By)(hL:Tw crew ts):Tw (N.PY a ou l crew ts).2.2.2.1 (N.PY a ou l crew ts).2.2.2.2:=
 DI.dB ts (a,ou,crew,[],[]) d hL
theorem dD.load{a:Is}{crew AAH:ADQ}{ts ts':AAL}{prs:List (Nat×Nat)}(hs:dD a crew ts prs AAH ts')(hst:∀p∈prs,∀h:p.1<ts.length,ts[p.1].2.2.2=1)(hL:Tw crew ts):Tw AAH ts':=by
 intro r hr hload;obtain⟨k,hk',rfl⟩:=ABU.1 hr;have hk:k<crew.length:=by rw[<-hs.l1];exact hk'
 have zk:AAH[k].1=crew[k].1/\AAH[k].2.2.2.1=crew[k].2.2.2.1:=by
  rcases hs.rb k hk hk' with⟨p,_,_,e⟩|⟨_,e⟩
  ·rw[e];exact⟨rfl,rfl⟩
  ·rw[e];exact⟨rfl,rfl⟩
 rw[zk.2]at hload;obtain⟨t,ht,e1,e2,e3⟩:=hL _ (ABR hk) hload;obtain⟨i,hi,rfl⟩:=ABU.1 ht;have hi':i<ts'.length:=by rw[hs.l2];exact hi
 rcases hs.tk i hi hi' with⟨p,hp,ei,_⟩|⟨_,e⟩
 all_goals grind
theorem Tw.np{crew AAH:ADQ}{ts:AAL}(hL:Tw crew ts)(hl:AAH.length=crew.length)(hs:∀k (h1:k<crew.length) (h2:k<AAH.length),AAH[k].1=crew[k].1/\AAH[k].2.2.1=crew[k].2.2.1/\AAH[k].2.2.2.1=crew[k].2.2.2.1):Tw AAH ts:=by
 intro r hr hload;obtain⟨k,hk',rfl⟩:=ABU.1 hr;have hk:k<crew.length:=by rw[<-hl];exact hk'
 obtain⟨e1,_,e3⟩:=hs k hk hk';rw[e3]at hload;rw[e1];exact hL _ (ABR hk) hload
theorem Tw.app{crew:ADQ}{ts us:AAL}(hL:Tw crew ts):Tw crew (ts++us):=λr hr hload=>by obtain⟨t,ht,e⟩:=hL r hr hload;grind
theorem Tw.back{crew:ADQ}{ts:AAL}(hL:Tw crew ts){id:Int}(hwt:∀t∈ts,t.1=id->t.2.2.2=1):Tw crew (ts.filter λt => !(t.1==id)):=λr hr hload=>by obtain⟨t,ht,e1,e2,e3⟩:=hL r hr hload;grind
theorem DG.done{w h:Int}{c:By}{a:Is}{nx:Int}{l:ADP}{crew:ADQ}{ts:AAL}{st ou:By}(g:DG w h c a nx l crew ts st ou):∀o∈l,(o.2.2.2.2=1↔∃t∈ts,t.1=o.1):=λo ho=>by
 refine⟨g.dn o ho,λ⟨t,ht,e⟩=>?_⟩;obtain⟨o2,q1,q2,_⟩:=(g.di.tk t ht).ord;obtain⟨m,e2⟩:=QB q1
 have:o2=o:=by
  obtain⟨i,hi,rfl⟩:=ABU.1 m;obtain⟨j,hj,rfl⟩:=ABU.1 ho;have hp:=g.di.bk.2.2.1;rcases ABe i j with hl|hl|hl
  ·have:=ABM.1 hp i j hi hj hl;omega
  ·subst hl;rfl
  ·have:=ABM.1 hp j i hj hi hl;omega
 grind
theorem DG.oe{w h:Int}{c:By}{a:Is}{nx:Int}{l:ADP}{crew:ADQ}{ts:AAL}{st ou:By}(g:DG w h c a nx l crew ts st ou)(hL:Tw crew ts)(nw:Int):Zb (w,h,c,a,nx,l,crew,ts,st,ou,nw)=true:=by
 unfold Zb;dsimp only;rw[Uq.2 ⟨g.di.fl,g.di.cw⟩,ABw,AAZ];intro r hr;cases hl:r.2.2.2.1 with
 |false=>rfl
 |true=>
  obtain⟨t,ht,e1,e2,e3⟩:=hL r hr hl
  have:Wt ts r=true:=by unfold Wt;refine AA5.2 ⟨t,ht,?_⟩;rw[show(t.2.2.1==r.1)=true from AAX.2 e1,Tk.2 ⟨e2,e3⟩];rfl
  grind
theorem DG.ld{w h:Int}{c:By}{a:Is}{nx:Int}{l:ADP}{crew:ADQ}{ts:AAL}{st ou:By}(g:DG w h c a nx l crew ts st ou):l.all (jb ts)=true:=by rw[AAZ];intro o ho;have hd:=g.done o ho;unfold jb;grind
theorem DG.pieces{w h:Int}{c:By}{a:Is}{nx:Int}{l:ADP}{crew:ADQ}{ts:AAL}{st ou:By}(g:DG w h c a nx l crew ts st ou)(nw:Int)(n:Nat)(hn:PE<=n):WT n w h c a nx l crew ts st ou nw=some true:=by
 have hS:=g.di.st;have h51:=g.c1.1;have h52:=g.c2.1
 have h1:=QY (VA n a st ou) (λk=>((k+1:Nat):Int)) 50 (λ_=>true) (λi hi=>by
  have l1:i+1<st.length:=ADS
  have l2:i+1<ou.length:=ADS
  have hb:=eB a ((i+1:Nat):Int);have ho:=g.c2.2.1 _ (ABR l2);have hp:=g.piece ((i+1:Nat):Int) J J;rw[<-lZ hS,show(((i+1:Nat):Int)).toNat=i+1 by omega,show ou.getD (i+1) 0=ou[i+1] by simp[l2],show st.getD (i+1) 0=st[i+1] by simp[l1]]at hp;unfold VA;dsimp only;rw[show decide (((i+1:Nat):Int)<=50)=true by grind,show decide (((i+1:Nat):Int)>=(st.length:Int))=false by grind,show decide (((i+1:Nat):Int)>=(ou.length:Int))=false by rw[AAr];clear hn;omega];simp only[ABQ,ABS,O3 l1,O3 l2,ABP,Ut,QO,gA a hS.sm _ n hn];rw[Tk.2 ho,PA (n:=Sy a ((i+1:Nat):Int)+ou[i+1]) J J,hp,PA (n:=((i+1:Nat):Int)+1) J J,bne_self_eq_false];rfl) (by unfold VA;simp) n ADU
 have hall:(List.range 50).all (λ_=>true)=true:=AAA
 rw[hall,ABQ,show((0+1:Nat):Int)=1 from rfl]at h1;unfold WT;rw[h1];rfl
theorem pB(PB k:Int):∀ps:OF,(∀p∈ps,p.1=PB)->tp ps PB k=Q3 k ps
 | [],_=>rfl
 |p::ps,h=>by have ih:=pB PB k ps λq hq=>h q (AAQ _ hq);have h1:=h p AAo;simp only[tp,Q3,ih];grind
theorem eT(k:Int)(ps:OF)(h72:ps.length<=72)(hN:∀p∈ps,1<=p.2.2/\p.2.2<=1000)(z:Int)(hz:0<=z/\z<=10000000)(n:Nat)(hn:PE<=n):iter n (TJ k ps) (z,0)=some (z+Q3 k ps,(ps.length:Int)):=by
 have hc:=PV (σ:=Int) (TJ k ps) (λi s=>(s,(i:Int))) ps (λr s=>(s+Q3 k r,(ps.length:Int))) (λi s=>0<=s/\s<=10000000+1000*(i:Int))
  (λs hs=>by unfold TJ;simp[Q3])
  (λi p r s g1 g2 g3 g4 g5=>by
   left;have hp:ps[i]=p:=by rw[AAM g1]at g2;exact Option.some.inj g2
   have hpN:=hN p (by rw[<-hp];exact ABR g1);unfold TJ;dsimp only;rw[show decide ((i:Int)<(ps.length:Int))=true by rw[AAj];clear hn;omega,ABQ,O6 g1,ABQ,ABT,g2,ABP,Ut,QO,Tk.2 ⟨ADS,hpN.2⟩,O1 g1 (show ps.length<=9223372036854775807 by clear hn;omega)];simp only[Q3];cases(p.2.1==k)with
   |true=>
    simp only[ABQ,ABP];rw[PA (n:=s+p.2.2) ADS ADS];exact⟨s+p.2.2,rfl,⟨ADS,ADS⟩,by rw[ACI]⟩
   |false=>
    simp only[ABS,ABP];exact⟨s,rfl,⟨g5.1,ADS⟩,by rw[Int.zero_add]⟩)
  n ADU z ⟨hz.1,ADS⟩
 omega
theorem DI.wanted{w h:Int}{c:By}{a:Is}{nx:Int}{l:ADP}{crew:ADQ}{ts:AAL}(d:DI w h c a nx l crew ts)(hsm:QT (nx,l))(st ou:By)(nw PB k:Int)(n:Nat)(hn:PE<=n):X0 n w h c a nx l crew ts st ou nw PB k=some (Qs l ts PB k):=by
 have h60:=d.Vg.len
 have hc:=PV (σ:=Int) (VL n nx l ts PB k) (λi s=>(s,(i:Int))) ts (λr s=>(s+Qs l r PB k,(ts.length:Int))) (λi s=>0<=s/\s<=72000*(i:Int))
  (λs hs=>by unfold VL;simp[Qs])
  (λi t r s g1 g2 g3 g4 g5=>by
   left;have hti:ts[i]=t:=by rw[AAM g1]at g2;exact Option.some.inj g2
   have hmem:t∈ts:=by rw[<-hti];exact ABR g1
   have hT:=d.tk t hmem;obtain⟨⟨s1,s4⟩,_⟩:=Yj ((QL.1 d.Vg).2.1 t hmem);obtain⟨o,ho,_,_⟩:=hT.ord;obtain⟨hom,hoe⟩:=QB ho;obtain⟨j,hj,rfl⟩:=ABU.1 hom;have hsmo:=hsm.2 _ hom;have hat:=X2 nx l hsm.1 d.bk.2.2.1 j hj n hn;rw[hoe]at hat
   have hof:Qx n nx l t.1=some (l[j].1,l[j].2.1,l[j].2.2.1,l[j].2.2.2.1,l[j].2.2.2.2,true):=by unfold Qx;rw[hat,ABP,show decide ((j:Int)<0)=false by rw[AAr];clear hn;omega,ABS,O3 hj,ABP,S0 _ hsmo];rfl
   have hpf:O8 l t=l[j].2.2.2.1.filter λp=>p.1==t.2.1:=by unfold O8;rw[ho]
   have hpall:∀p∈O8 l t,p.1=t.2.1:=λp hp=>by rw[hpf]at hp;exact AAX.1 (ABb.1 hp).2
   have hpb:=TK d hT.PB
   have hlen:(O8 l t).length<=72:=by rw[hpf];exact AA2 (ABo _ _) (d.dN _ hom)
   unfold VL;dsimp only;rw[show decide ((i:Int)<(ts.length:Int))=true by rw[AAj];clear hn;omega,ABQ,O3 g1,hti,ABP,hof,ABP,O1 g1 (show ts.length<=9223372036854775807 by clear hn;omega)];simp only[ABX,ABS,Ut,QO,ABP];by_cases hp:t.2.1=PB
   case neg=>
    have hw0:RJ l PB k t=0:=by
     unfold RJ;split
     ·exact kO _ _ _ λp hpm e=>(hp ((hpall p hpm).symm.trans e)).elim
     ·rfl
    rw[show(t.2.1 != PB)=true from AB5.2 hp];simp only[ABQ,ABP];exact⟨s,rfl,⟨g5.1,ADS⟩,by rw[Rp,hw0,Int.zero_add]⟩
   rw[show(t.2.1 != PB)=false by rw[hp];exact bne_self_eq_false _];simp only[ABS,ABP];by_cases h3:t.2.2.2<=3
   ·rw[Tk.2 ⟨s1,h3⟩];simp only[ABX,ABS];have hpo:=Y7 l[j] hsmo.2 PB n hn;rw[<-hp,<-hpf]at hpo;rw[<-hp,hpo,ABP,eT k (O8 l t) hlen (λp hpm=>(hpb p hpm).2.1) s ⟨g5.1,ADS⟩ n hn,ABP];have hw:RJ l t.2.1 k t=Q3 k (O8 l t):=by unfold RJ;rw[AAS h3,pB _ _ _ hpall]
    have hpos:=Ve k (O8 l t) λp hpm=>(hpb p hpm).2.1.1
    have hub:∀qs:OF,(∀p∈qs,1<=p.2.2/\p.2.2<=1000)->Q3 k qs<=1000*(qs.length:Int):=by
     intro qs
     induction qs with
     |nil=>intro _;simp[Q3]
     |cons p qs ih=>
      intro hq;have a1:=ih λz hz=>hq z (AAQ _ hz);have a2:=hq p AAo;simp only[Q3,ABF];clear hn;cases(p.2.1==k)
      ·rw[ABS];omega
      ·rw[ABQ];omega
    have hub2:=hub (O8 l t) λp hpm=>(hpb p hpm).2.1;exact⟨s+Q3 k (O8 l t),rfl,⟨ADS,ADS⟩,by rw[Rp,hw,ACI]⟩
   ·have hw0:RJ l PB k t=0:=by unfold RJ;rw[AAT h3]
    rw[show P5 t.2.2.2 1 3=false by rw[<-ABr,Tk];exactλq=>h3 q.2];simp only[ABp,ABQ,ABP];exact⟨s,rfl,⟨g5.1,ADS⟩,by rw[Rp,hw0,Int.zero_add]⟩)
  n ADU 0 ⟨J,J⟩
 unfold X0;grind
theorem DG.holds{w h:Int}{c:By}{a:Is}{nx:Int}{l:ADP}{crew:ADQ}{ts:AAL}{st ou:By}(g:DG w h c a nx l crew ts st ou)(hsm:QT (nx,l))(nw:Int)(n:Nat)(hn:PE<=n):XW n w h c a nx l crew ts st ou nw=some true:=by
 have hl:=g.di.st.1
 have h1:=QY (Vz n w h c a nx l crew ts st ou nw) (λk=>(k:Int)) a.length (λ_=>true) (λi hi=>by
  have hm:=ABR hi;have hst:=(g.di.st.2.2 _ hm).2.2
  have h2:=QY (V0 n w h c a nx l crew ts st ou nw a[i]) (λk=>((k+1:Nat):Int)) 50 (λ_=>true) (λj hj=>by
   obtain⟨q,b,e,e1,e2⟩:=YF hst a[i].1 a[i].2.1 ((j+1:Nat):Int) n hn;have hh:=g.hold _ hm ((j+1:Nat):Int);unfold V0;dsimp only;rw[show decide (((j+1:Nat):Int)<=50)=true by rw[AAj];omega,ABQ,e,g.di.wanted hsm st ou nw _ _ n hn,PA (n:=((j+1:Nat):Int)+1) J J,<-hh];simp only[ABP];cases b with
   |false=>
    have:aX a[i] ((j+1:Nat):Int)=0:=by unfold aX;rw[(e2 rfl).2]
    rw[this];rfl
   |true=>
    obtain⟨hq,_,ej⟩:=e1 rfl;simp only[ABQ,O3 hq,ABP];have:aX a[i] ((j+1:Nat):Int)=a[i].2.2[q].2.2:=by unfold aX;rw[ej]
    rw[this,bne_self_eq_false];rfl) (by unfold V0;simp) n ADU
  have hall:(List.range 50).all (λ_=>true)=true:=AAA
  rw[hall,ABQ,show((0+1:Nat):Int)=1 from rfl]at h2;unfold Vz;rw[show decide ((i:Int)<(a.length:Int))=true by grind,ABQ,O3 hi,ABP,h2,ABP,O1 hi (show a.length<=9223372036854775807 by omega)];rfl) (by unfold Vz;simp) n ADU
 have hall:(List.range a.length).all (λ_=>true)=true:=AAA
 rw[hall,ABQ,show((0:Nat):Int)=0 from rfl]at h1;unfold XW;rw[h1];rfl
theorem DG.safe{w h:Int}{c:By}{a:Is}{nx:Int}{l:ADP}{crew:ADQ}{ts:AAL}{st ou:By}(g:DG w h c a nx l crew ts st ou)(hL:Tw crew ts){nw:Int}(hnw:0<=nw/\nw<=1000000)(n:Nat)(hn:PE<=n):YX n w h c a nx l crew ts st ou nw=some 0/\Qw n w h c a nx l crew ts st ou nw=some true:=by
 have hc:c.length<=1048576:=by have:=(Tz g.di.fl).le;clear hn;omega
 have hcr:crew.length<=1048576:=by have:=g.di.cw.n20;clear hn;omega
 have hts:ts.length<=1048576:=by have:=g.di.Vg.len;clear hn;omega
 have hst:st.length<=1048576:=by have:=g.c1.1;clear hn;omega
 have hou:ou.length<=1048576:=by have:=g.c2.1;clear hn;omega
 have hbk:QT (nx,l):=by
  obtain⟨_,b2,_,b4⟩:=g.di.bk;refine⟨by show l.length<=_;clear hn;omega,λo ho=>⟨?_,?_⟩⟩
  ·have:=(b4 o ho).2.2.1.1.2.2;show o.2.2.1.length<=_;clear hn;omega
  ·have:=g.di.dN o ho;show o.2.2.2.1.length<=_;clear hn;omega
 have hsm:az (w,h,c,a,nx,l,crew,ts,st,ou,nw):=⟨hc,g.di.st.sm,hbk,hcr,hts,hst,hou⟩;obtain⟨b,e1,ib⟩:=YT w h c hc a g.di.st.sm nx l hbk crew hcr ts hts st ou hst hou nw n hn;rw[ib.2 (g.di.ok g.c1 g.c2 hnw)]at e1;have e2:=g.pieces nw n hn;have e3:=g.holds hbk nw n hn;have e4:=ZM (w,h,c,a,nx,l,crew,ts,st,ou,nw) hsm n hn;rw[g.oe hL nw]at e4;have e5:=ag (w,h,c,a,nx,l,crew,ts,st,ou,nw) hsm n hn;dsimp only at e4 e5;rw[g.ld]at e5;refine⟨?_,e1⟩;unfold YX;grind
structure DK(a:Is)(nx:Int)(l:ADP)(crew:ADQ)(ts:AAL):Prop where
 sk:PF a
 bk:Wp nx l
 n20:crew.length<=20
 ids:crew.Pairwise λr s=>r.1<s.1
 Vg:TP ts
 tk:∀t∈ts,T5 a l crew t
theorem DI.zZ{w h:Int}{c:By}{a:Is}{nx:Int}{l:ADP}{crew:ADQ}{ts:AAL}(d:DI w h c a nx l crew ts):DK a nx l crew ts:=⟨d.st,d.bk,d.cw.n20,d.cw.ids,d.Vg,d.tk⟩
theorem kP{crew:ADQ}(h:crew.Pairwise λr s=>r.1<s.1){id:Int}{f:PR->PR}(hf:∀r,(f r).1=r.1):(Vf crew id f).Pairwise λr s=>r.1<s.1:=by
 have key:∀r,(bif r.1==id then f r else r:PR).1=r.1:=λr=>No
 unfold Vf;rw[ABk];exact h.imp fun {r s} hrs=>No
theorem DK.n7{a:Is}{nx:Int}{l:ADP}{crew:ADQ}{x y:AAL}{t:PH}(d:DK a nx l crew (x++t::y))(ht:t.2.2.2≠1){b:Is}(hb:PF b)(hsp:XS a b){s:Int}(hs:2<=s/\s<=4){f:PR->PR}(hf:∀r,(f r).1=r.1)
  (hfr:∀r,Se crew t.2.2.1=some r->(f r).2.2.1=Sz b l (t.1,t.2.1,t.2.2.1,s)/\(f r).2.2.2.1=decide (2<s)):DK b nx l (Vf crew t.2.2.1 f) (x++(t.1,t.2.1,t.2.2.1,s)::y):=by
 have hT:=d.tk t (AAV _ AAo);obtain⟨o,ho,hst,hpk⟩:=hT.ord;obtain⟨r0,hr0,_,_⟩:=hT.fH ht;obtain⟨q,hq⟩:=(hT.same hsp (k:=l) rfl).PB;refine {sk:=hb,bk:=d.bk,n20:=by rw[bN];exact d.n20,ids:=kP d.ids hf,Vg:=d.Vg.qU ht hs,tk:=λu hu=>?_ }
 have hoth:∀u,u∈x\/u∈y->T5 b l (Vf crew t.2.2.1 f) u:=λu hu=>(d.tk u (by
  grind)).other hsp hf λe=>d.Vg.two ht hu e
 rcases ABI.1 hu with hu|hu
 ·grind
 ·rcases AAi.1 hu with rfl|hu
  ·refine⟨⟨o,ho,hst,hpk⟩,⟨q,hq⟩,λ_=>⟨f r0,?_,(hfr r0 hr0).1,(hfr r0 hr0).2⟩⟩;rw[Zs hf];show(Se crew t.2.2.1).map _=_;rw[hr0,AA7,show(r0.1==t.2.2.1)=true from AAX.2 (Pk hr0).2,ABQ]
  grind
theorem DK.gone{a:Is}{nx:Int}{l:ADP}{crew:ADQ}{x y:AAL}{t:PH}(d:DK a nx l crew (x++t::y))(ht:t.2.2.2≠1){f:PR->PR}(hf:∀r,(f r).1=r.1):DK a nx l (Vf crew t.2.2.1 f) (x++y):=by
 refine {sk:=d.sk,bk:=d.bk,n20:=by rw[bN];exact d.n20,ids:=kP d.ids hf,Vg:=d.Vg.sub ((List.Sublist.refl x).append (List.sublist_cons_self t y)),tk:=λu hu=>?_ };have hu2:=ABI.1 hu
 exact(d.tk u (by
  grind)).other (λ_=>rfl) hf λe=>d.Vg.two ht hu2 e
theorem DK.aa{a:Is}{nx:Int}{l:ADP}{crew:ADQ}{x y:AAL}{t:PH}(d:DK a nx l crew (x++t::y))(ht:t.2.2.2≠1)(ou:By):
  DK (PN a ou l crew t).1 nx l (PN a ou l crew t).2.2.1 (x++(Xf (PN a ou l crew t).2.2.2++y)):=by
 have hT:=d.tk t (AAV _ AAo);unfold PN;by_cases h2:t.2.2.2=2
 ·rw[AAS h2];exact d.n7 ht d.sk (λ_=>rfl) (s:=3) ⟨J,J⟩ (λr=>rfl) λr hr=>⟨rfl,rfl⟩
 ·rw[AAT h2];by_cases h3:t.2.2.2=3
  ·rw[AAS h3];obtain⟨g1,g2,g3⟩:=Y2 d.sk (O8 l t);refine d.n7 ht g1 g2 (s:=4) ⟨J,J⟩ (λr=>rfl) λr hr=>⟨rfl,?_⟩;obtain⟨r',q1,_,q3⟩:=hT.fH ht;grind
  ·rw[AAT h3];exact d.gone ht λr=>rfl
theorem DK.Dg{a:Is}{nx:Int}{l:ADP}{crew:ADQ}{ts:AAL}(d:DK a nx l crew ts){id st:Int}(hst:1<=st/\st<=3)(hno:∀t∈ts,t.1≠id):DK a nx (QA l id st) crew ts:=by
 have mem:∀q∈QA l id st,∃o∈l,q=(bif o.1==id then(o.1,o.2.1,o.2.2.1,o.2.2.2.1,st)else o:PS):=λq hq=>by unfold QA at hq;grind
 have key:∀o:PS,(bif o.1==id then(o.1,o.2.1,o.2.2.1,o.2.2.2.1,st)else o:PS).1=o.1/\(bif o.1==id then(o.1,o.2.1,o.2.2.1,o.2.2.2.1,st)else o:PS).2.1=o.2.1/\(bif o.1==id then(o.1,o.2.1,o.2.2.1,o.2.2.2.1,st)else o:PS).2.2.1=o.2.2.1/\(bif o.1==id then(o.1,o.2.1,o.2.2.1,o.2.2.2.1,st)else o:PS).2.2.2.1=o.2.2.2.1:=λo=>No
 obtain⟨b1,b2,b3,b4⟩:=d.bk;refine { d with bk:=⟨b1,by unfold QA;grind,?_,λq hq=>?_⟩,tk:=λt ht=>(d.tk t ht).same (λ_=>rfl) (fB l id st t.1 (hno t ht)) }
 ·unfold QA;rw[ABk];exact b3.imp fun {x y} hxy=>No
 ·obtain⟨o,ho,rfl⟩:=mem q hq;obtain⟨k1,k2,k3,k4⟩:=key o;obtain⟨g1,g2,g3,g4,g5⟩:=b4 o ho;unfold kU;rw[k1,k2,k3,k4];refine⟨g1,g2,g3,g4,?_⟩;cases(o.1==id)
  all_goals grind
def fC(ou:By)(ps:OF):By:=ps.foldl (λou p=>ou.set p.2.1.toNat (ou.getD p.2.1.toNat 0+p.2.2)) ou
theorem lz:∀(ps:OF)(ou:By),(∀p∈ps,(1<=p.2.1/\p.2.1<=50)/\1<=p.2.2)->ou.length=51->(∀k:Int,1<=k->k<=50->ou.getD k.toNat 0+Q3 k ps<=1000000)->fC ou ps=aP ou ps
 | [],ou,_,_,_=>rfl
 |p::ps,ou,hp,hl,hb=>by
  obtain⟨⟨s1,s2⟩,s3⟩:=hp p AAo;have hpos:=Ve p.2.1 ps λq hq=>(hp q (AAQ _ hq)).2;have hbs:=hb p.2.1 s1 s2;simp only[Q3,ABu,ABQ]at hbs
  have hun:aP ou (p::ps)=aP (ou.set p.2.1.toNat (ou.getD p.2.1.toNat 0+p.2.2)) ps:=by unfold aP;grind
  have zw:∀j:Int,1<=j->j<=50->(ou.set p.2.1.toNat (ou.getD p.2.1.toNat 0+p.2.2)).getD j.toNat 0=ou.getD j.toNat 0+bif p.2.1==j then p.2.2 else 0:=λj j1 j2=>No
  have hun2:fC ou (p::ps)=fC (ou.set p.2.1.toNat (ou.getD p.2.1.toNat 0+p.2.2)) ps:=rfl;rw[hun,hun2]
  exact lz ps _ (λq hq=>hp q (AAQ _ hq)) No λj j1 j2=>by have:=hb j j1 j2;simp only[Q3]at this;grind
def OB(B:Int)(ou:By):Prop:=ou.length=51/\∀x∈ou,0<=x/\x<=B
theorem OB.getD{B:Int}{ou:By}(h:OB B ou)(hB:0<=B)(i:Nat):0<=ou.getD i 0/\ou.getD i 0<=B:=by
 rw[List.getD];cases hq:ou[i]? with
 |none=>grind
 |some x=>exact h.2 x (AAR hq)
theorem OB.set{B C:Int}{ou:By}(h:OB B ou)(hBC:B<=C)(i:Nat){x:Int}(hx:0<=x/\x<=C):OB C (ou.set i x):=by
 refine⟨by rw[List.length_set];exact h.1,λy hy=>?_⟩;rcases List.mem_or_eq_of_mem_set hy with hy|rfl
 ·have:=h.2 y hy;omega
 ·exact hx
theorem OB.more{B C:Int}{ou:By}(h:OB B ou)(hBC:B<=C):OB C ou:=⟨h.1,λx hx=>by have:=h.2 x hx;omega⟩
theorem TZ.ob{ou:By}(h:TZ ou):OB 1000000 ou:=⟨h.1,h.2.1⟩
theorem l6:∀(ps:OF)(ou:By)(B:Int),0<=B->(∀p∈ps,1<=p.2.2/\p.2.2<=1000)->OB B ou->OB (B+1000*ps.length) (fC ou ps)
 | [],ou,B,_,_,h=>by simp;exact h
 |p::ps,ou,B,hB,hp,h=>by have h1:=hp p AAo;have h2:=h.getD hB p.2.1.toNat;have:=l6 ps (ou.set p.2.1.toNat (ou.getD p.2.1.toNat 0+p.2.2)) (B+1000) J (λq hq=>hp q (AAQ _ hq)) (h.set J _ ⟨J,J⟩);have hun2:fC ou (p::ps)=fC (ou.set p.2.1.toNat (ou.getD p.2.1.toNat 0+p.2.2)) ps:=rfl;grind
def nX(a:Is)(ou:By)(l:ADP)(t:PH):By:=if t.2.2.2=2 then ou else if t.2.2.2=3 then(bif(Qc UM a (O8 l t)).2 then fC ou (O8 l t)else ou)else ou
theorem DG.qh{w h:Int}{c:By}{a:Is}{nx:Int}{l:ADP}{crew:ADQ}{x y:AAL}{t:PH}(d:DI w h c a nx l crew (x++t::y))(ht:t.2.2.2≠1){st ou:By}(hst:TZ st)(hou:TZ ou)(hH:SY a l (x++t::y))(hP:Z8 a st ou):
  nX a ou l t=(PN a ou l crew t).2.1:=by
 have hT:=d.tk t (AAV _ AAo);have hb:=(d.YS ht ou hH).2;have hS:=(d.aa ht ou).st;unfold nX PN;unfold PN at hS;by_cases h2:t.2.2.2=2
 ·grind
 ·rw[AAT h2]at hS ⊢;rw[AAT h2];by_cases h3:t.2.2.2=3
  ·rw[AAS h3]at hS ⊢;rw[AAS h3];obtain⟨b,e1,e2⟩:=hb h3;rw[e1]at hS ⊢;dsimp only at hS ⊢;rw[ABQ,ABQ];have hpb:=TK d hT.PB
   have hall:∀k,Vi b k=Vi a k-Q3 k (O8 l t):=λk=>by
    rw[ee k a b e2,fj k a (d.st.2.1.imp λh=>by omega) (O8 l t) λp hp=>by
     obtain⟨_,_,i,hi,e⟩:=hpb p hp;exact⟨_,ABR hi,e⟩]
   refine lz _ _ (λp hp=>⟨(hpb p hp).1,(hpb p hp).2.1.1⟩) hou.1 λk k1 k2=>?_;have q1:=hP k k1 k2;have q2:=jy hS k;rw[hall k]at q2;have zj:k.toNat<st.length:=by rw[hst.1];omega
   have q3:=(hst.2.1 _ (ABR zj)).2;rw[show st.getD k.toNat 0=st[k.toNat] by simp[zj]]at q1;omega
  grind
def idx(N:Nat):By:=(List.range N).map λi:Nat=>(i:Int)
theorem qu{N i:Nat}(h:i<N):(idx N)[i]?=some (i:Int):=by simp[idx,h]
theorem Zm(N:Nat):(idx N).length=N:=by simp[idx]
theorem Zn{N:Nat}{x:Int}:x∈idx N↔0<=x/\x<(N:Int):=by
 simp only[idx,AAw,AAb];constructor
 ·omega
 ·rintro ⟨h1,h2⟩;exact⟨x.toNat,J,J⟩
theorem gu(N:Nat):(idx N).Nodup:=by unfold idx List.Nodup;rw[ABk];exact AB2.imp fun {a b} h e=>h J
theorem oC(N:Nat):idx (N+1)=idx N++[(N:Int)]:=by simp[idx,AB1]
abbrev Rb:=Int×Int×Int×Bool×Int
abbrev ADc:=List Rb
def Ph(crew:ADc)(i:Int):Rb:=crew.getD i.toNat (0,0,0,false,0)
theorem aw{crew:ADc}{i:Int}(h:0<=i/\i<(crew.length:Int)):Iv crew i=some (Ph crew i):=by obtain⟨m,rfl⟩:∃m:Nat,i=m:=⟨i.toNat,J⟩;rw[O3 J];simp[Ph,List.getD,AAM (show m<crew.length by omega)]
theorem R4{crew:ADc}{i:Nat}(h:i<crew.length):Ph crew (i:Int)=crew[i]:=by simp[Ph,List.getD,AAM h]
def rQ(crew:ADc):Prop:=∀a b:Int,0<=a->a<b->b<(crew.length:Int)->(Ph crew a).1<(Ph crew b).1
def YH(crew:ADc)(a b:Int):Bool:=decide ((Ph crew a).2.2.2.2>(Ph crew b).2.2.2.2)||(decide ((Ph crew a).2.2.2.2=(Ph crew b).2.2.2.2)&&decide ((Ph crew a).1<(Ph crew b).1))
theorem fm{crew:ADc}(h:rQ crew){xs:By}(hx:∀x∈xs,0<=x/\x<(crew.length:Int)):Ord (YH crew) xs:=by
 refine⟨λx=>by simp[YH],λx y z h1 h2=>?_,λx hx1 y hy1 zp=>?_⟩
 ·simp only[YH,AAg,AAN,AAj]at h1 h2 ⊢;omega
 ·simp only[YH,AAg,AAN,AAj];have q1:=hx x hx1;have q2:=hx y hy1;rcases Int.lt_or_gt_of_ne zp with hl|hl
  ·have:=h x y q1.1 hl q2.2;omega
  ·have:=h y x q2.1 hl q1.2;omega
theorem aO{crew:ADc}{a b:Int}(ha:0<=a/\a<(crew.length:Int))(hb:0<=b/\b<(crew.length:Int)):OP crew a b=some (YH crew a b):=by unfold OP YH;rw[aw ha,aw hb];rfl
theorem kH{lt:Int->Int->Option Bool}{lb:Int->Int->Bool}{xs:By}(hx:∀x∈xs,∀y∈xs,lt x y=some (lb x y))(hno:∀x y,(lt x y).isSome=true->lt x y=some (lb x y))(h20:xs.length<=20)(hnd:xs.Nodup)(ho:Ord lb xs)(htr:∀x y z,lt x y=some true->lt y z=some true->(lt x z).isSome=true):
  ∃l,MV lt xs=some l/\l.Perm xs/\l.Pairwise λx y=>lb x y=true:=by
 have hb:∀x y,OD lt x y=true↔lt x y=some true:=λx y=>by
  unfold OD;cases lt x y with
  |none=>simp
  |some b=>simp
 have hord:Ord (OD lt) xs:=by
  refine⟨λx=>?_,λx y z h1 h2=>?_,λx hx1 y hy1 zp=>?_⟩
  ·cases h:OD lt x x with
   |false=>rfl
   |true=>
    have h:=(hb x x).1 h;have:=hno x x (by rw[h];rfl);rw[h,ho.xX]at this;cases this
  ·rw[hb]at h1 h2 ⊢;have e1:=hno x y (by rw[h1];rfl);have e2:=hno y z (by rw[h2];rfl);rw[h1]at e1;rw[h2]at e2;injection e1 with e1;injection e2 with e2
   rw[hno x z (htr x y z h1 h2),ho.tr x y z e1.symm e2.symm]
  ·rw[hb,hb,hx x hx1 y hy1,hx y hy1 x hx1];rcases ho.Q3 x hx1 y hy1 zp with h|h
   ·exact .inl (by rw[h])
   ·exact .inr (by rw[h])
 obtain⟨l,h1,h2,h3⟩:=o4 (lt:=lt) (xs:=xs) (λx h y h'=>by rw[hx x h y h'];rfl) h20 hnd hord;refine⟨l,h1,h2,AB6 (fun {a b} ha zr h=>?_) h3⟩;grind
theorem gC{crew:ADc}(h:rQ crew)(h20:crew.length<=20)(n:Nat)(hn:PE<=n):∃l,XY n crew=some l/\l.Perm (idx crew.length)/\l.Pairwise λx y=>YH crew x y=true:=by
 have hB:1048576<=n:=AA2 ADb hn
 have hit:iter n (T8 crew) (0,[])=some ((crew.length:Int),idx crew.length):=by
  have:=Pa (T8 crew) (λi=>((i:Int),idx i)) crew.length ((crew.length:Int),idx crew.length) (λi hi=>by
   have hm:decide ((idx i).length+[(i:Int)].length<=E7)=true:=by rw[AAj,Zm];simp[E7];omega
   simp only[T8,hm,O1 hi J,oC];rw[show decide ((i:Int)<(crew.length:Int))=true by simpa using hi];rfl) (by simp[T8]) n J
  simpa[idx]using this
 have hm:∀x∈idx crew.length,0<=x/\x<(crew.length:Int):=λx hx=>Zn.1 hx
 have hv:∀x y,(OP crew x y).isSome=true->(0<=x/\x<(crew.length:Int))/\(0<=y/\y<(crew.length:Int)):=λx y h=>by
  unfold OP at h;cases hx:Iv crew x with
  |none=>rw[hx]at h;cases h
  |some p=>
   cases hy:Iv crew y with
   |none=>rw[hx,hy]at h;cases h
   |some q=>
    obtain⟨k,rfl,hk,_⟩:=Mr hx;obtain⟨k',rfl,hk',_⟩:=Mr hy;omega
 obtain⟨l,h1,h2,h3⟩:=kH (lt:=OP crew) (lb:=YH crew) (xs:=idx crew.length) (λx hx y hy=>aO (hm x hx) (hm y hy)) (λx y h=>aO (hv x y h).1 (hv x y h).2) (by rw[Zm];exact h20) (gu _) (fm h hm)
  (λx y z h1 h2=>by rw[aO (hv x y (by rw[h1];rfl)).1 (hv y z (by rw[h2];rfl)).2];rfl)
 refine⟨l,?_,h2,h3⟩;unfold XY;grind
theorem gT{crew:ADc}(h:rQ crew)(h20:crew.length<=20)(n:Nat)(hn:PE<=n):∃l,Xo n crew=some l/\l.Perm (idx crew.length)/\l.Pairwise λx y=>YH crew x y=true:=by
 have hB:1048576<=n:=AA2 ADb hn;have hm:∀x∈idx crew.length,0<=x/\x<(crew.length:Int):=λx hx=>Zn.1 hx
 obtain⟨l,h1,h2,h3⟩:=eX (WI n crew) (YH crew) (idx crew.length) (gu _) (fm h hm) (λi x l hx hl zj hmem=>by
   rw[Zm]at zj;rw[qu J]at hx;injection hx with hx
   subst hx;have hi:i<crew.length:=J
   have hir:=aw (crew:=crew) (i:=(i:Int)) ⟨J,J⟩
   have step:∀k y z,l[k]?=some y->UJ crew (l,(i:Int)) (((k+1:Nat):Int),hole l (k+1) z)=some (bif YH crew (i:Int) y then .inl ((k:Int),hole l k y)else .inr (((k+1:Nat):Int),hole l (k+1) z)):=by
    intro k y z hk;have hkl:k<l.length:=(AAO.1 hk).1;have hyr:=aw (hm y (hmem y (AAR hk)));have hw:O5 (((k+1:Nat):Int)-1)=(k:Int):=by rw[PA J J];omega
    have hi1:ON (hole l (k+1) z) (k:Int)=true:=O6 (by rw[SZ J];omega);have hi2:ON (hole l (k+1) z) ((k+1:Nat):Int)=true:=O6 (by rw[SZ J];omega);simp only[UJ,hw,hi1,hi2,ABT,dh hk,ABP,hyr,hir,Pz,eJ hk,ABQ];rw[show decide (((k+1:Nat):Int)>0)=true by rw[AAj];omega]
    have e:YH crew (i:Int) y=(decide ((Ph crew y).2.2.2.2<(Ph crew (i:Int)).2.2.2.2)||(((Ph crew y).2.2.2.2==(Ph crew (i:Int)).2.2.2.2)&&decide ((Ph crew y).1>(Ph crew (i:Int)).1))):=by unfold YH;rw[ABy];simp only[AAg,AAN,AAj,AAX];omega
    rw[e];generalize decide ((Ph crew y).2.2.2.2<(Ph crew (i:Int)).2.2.2.2)=b1;generalize ((Ph crew y).2.2.2.2==(Ph crew (i:Int)).2.2.2.2)=b2;generalize decide ((Ph crew y).1>(Ph crew (i:Int)).1)=b3;cases b1<;>cases b2<;>cases b3<;>rfl
   obtain⟨k,z,e,hk,q1,q2⟩:=jg (UJ crew (l,(i:Int))) (YH crew (i:Int)) l (λk y z hk hy=>by rw[step k y z hk,hy];rfl) (λk y z hk hy=>by rw[step k y z hk,hy];rfl) (λz=>by simp[UJ]) n J (i:Int);refine⟨k,hk,?_,q1,q2⟩;have hmr:decide (l.length+[(i:Int)].length<=E7)=true:=by rw[AAj];simp[E7];omega
   simp only[WI,hmr,e,ABP,O6 (show k<(hole l k z).length by rw[SZ hk];omega),ABT,Pz,bV hk,O1 hi J,ABQ];grind) (λl=>by simp[WI,Zm]) n (by rw[Zm];omega)
 refine⟨l,?_,h2,h3⟩;unfold Xo;rw[h1];rfl
theorem pD{crew:ADc}(h:rQ crew)(h20:crew.length<=20)(n:Nat)(hn:PE<=n):∃l,XY n crew=some l/\Xo n crew=some l/\l.Perm (idx crew.length):=by obtain⟨a,a1,a2,a3⟩:=gC h h20 n hn;obtain⟨b,b1,b2,b3⟩:=gT h h20 n hn;have:a=b:=aR (fm h λx hx=>Zn.1 hx) a3 b3 a2 b2;grind
theorem Uu(r ka kb a b:Int):Mv r ka kb a b=true↔ka<kb\/(ka=kb/\((a≠r/\b=r)\/((a=r↔b=r)/\a<b))):=by unfold Mv;grind
theorem X1(r:Int)(key:Int->Int)(xs:By):Ord (λa b=>Mv r (key a) (key b) a b) xs:=by
 refine⟨λx=>?_,λx y z h1 h2=>?_,λx _ y _ zp=>?_⟩
 ·cases h:Mv r (key x) (key x) x x with
  |false=>rfl
  |true=>rw[Uu]at h;omega
 ·rw[Uu]at h1 h2 ⊢;omega
 ·rw[Uu,Uu];omega
theorem iu{r k1 k2 l1 l2 a b:Int}(h1:k1<k2↔l1<l2)(h2:k1=k2↔l1=l2):Mv r k1 k2 a b=Mv r l1 l2 a b:=by rw[ABy,Uu,Uu,h1,h2]
def Vp(c far:By)(v:Int):Int:=bif decide (O9 far v<0)then(c.length:Int)+1 else O9 far v
theorem Yu{c far:By}(hc:c.length<=100){r a b:Int}(ha:0<=a/\a<(far.length:Int))(hb:0<=b/\b<(far.length:Int)):N1 far c r a b=some (Mv r (Vp c far a) (Vp c far b) a b):=by unfold N1 Mt;rw[Xa ha,Xa hb,show IntKind.wrap .i64 ((c.length:Int)+1)=(c.length:Int)+1 from PA J J];rfl
theorem W5{c far:By}{r x y:Int}(h:(N1 far c r x y).isSome=true):(0<=x/\x<(far.length:Int))/\(0<=y/\y<(far.length:Int)):=by
 unfold N1 at h;cases hx:Mt c far x with
 |none=>grind
 |some p=>
  cases hy:Mt c far y with
  |none=>grind
  |some q=>
   obtain⟨k,_,rfl,hk,_⟩:=N0 hx;obtain⟨k',_,rfl,hk',_⟩:=N0 hy;omega
structure Std(c:By)(r:Rb):Prop where
 iS:0<=r.2.1/\r.2.1<(c.length:Int)
 ua:O9 c r.2.1≠0
 goal:r.2.2.1 = -1\/((0<=r.2.2.1/\r.2.2.1<(c.length:Int))/\O9 c r.2.2.1≠0)
def Ui(w h:Int)(c:By)(r:Rb):By:=((R1 w h c r.2.1 false).filter λk => !r.2.2.2.1||(O9 c k != 2||k==r.2.2.1))++[r.2.1]
def Wi(w h:Int)(c:By)(r:Rb):By:=(R1 w h c r.2.1 r.2.2.2.1++[r.2.1])++(bif decide (r.2.2.1>=0)&&(!((R1 w h c r.2.1 r.2.2.2.1++[r.2.1]).any λx=>x==r.2.2.1)&&(Qd w h r.2.1).any λx=>x==r.2.2.1)then [r.2.2.1]else [])
theorem aB{w h:Int}{c:By}(f:mL w h c){r:Rb}(s:Std c r):(Wi w h c r).Perm (Ui w h c r)/\(Ui w h c r).Nodup/\(∀v∈Ui w h c r,(0<=v/\v<(c.length:Int))/\O9 c v≠0)/\(Ui w h c r).length<=5:=by
 obtain⟨n1,n2,n3⟩:=ao f s.iS false;obtain⟨m1,m2,m3⟩:=ao f s.iS r.2.2.2.1
 have ndS:(Ui w h c r).Nodup:=by unfold Ui;rw[AAc];refine⟨n2.filter _,AAA,λa ha b hb=>?_⟩;rw[ABa.1 hb];exact(n1 a (ABb.1 ha).1).2
 have ndI:(Wi w h c r).Nodup:=by
  unfold Wi
  have nd1:(R1 w h c r.2.1 r.2.2.2.1++[r.2.1]).Nodup:=by rw[AAc];refine⟨m2,AAA,λa ha b hb=>?_⟩;rw[ABa.1 hb];exact(m1 a ha).2
  cases hb:(decide (r.2.2.1>=0)&&(!((R1 w h c r.2.1 r.2.2.2.1++[r.2.1]).any λx=>x==r.2.2.1)&&(Qd w h r.2.1).any λx=>x==r.2.2.1))with
  |false=>grind
  |true=>
   grind
 have memN:∀a v,v∈R1 w h c r.2.1 a↔v∈Qd w h r.2.1/\O9 c v≠0/\¬(a=true/\O9 c v=2):=by
  intro a v;unfold R1;rw[ABb];simp only[AAN,AB5,ne_eq,AAa,ACN,ABW];constructor
  ·grind
  ·grind
 have memS:∀v,v∈Ui w h c r↔v=r.2.1\/(v∈Qd w h r.2.1/\O9 c v≠0/\(r.2.2.2.1=false\/O9 c v≠2\/v=r.2.2.1)):=by
  intro v;unfold Ui;rw[ABI,ABb,memN];simp only[ABa,AAg,AAa,AB5,ne_eq,AAX];constructor
  ·grind
  ·grind
 have memI:∀v,v∈Wi w h c r↔v=r.2.1\/(v∈Qd w h r.2.1/\O9 c v≠0/\¬(r.2.2.2.1=true/\O9 c v=2))\/(r.2.2.1>=0/\r.2.2.1∈Qd w h r.2.1/\v=r.2.2.1):=by
  intro v;unfold Wi;rw[ABI,ABI,memN];cases hb:(decide (r.2.2.1>=0)&&(!((R1 w h c r.2.1 r.2.2.2.1++[r.2.1]).any λx=>x==r.2.2.1)&&(Qd w h r.2.1).any λx=>x==r.2.2.1))with
  |false=>
   grind
  |true=>
   grind
 refine⟨(List.perm_ext_iff_of_nodup ndI ndS).2 λv=>?_,ndS,λv hv=>?_,?_⟩
 ·rw[memI,memS];constructor
  ·rintro (h|⟨h1,h2,h3⟩|⟨h1,h2,rfl⟩)
   ·exact .inl h
   ·refine .inr ⟨h1,h2,?_⟩;cases hl:r.2.2.2.1 with
    |false=>exact .inl rfl
    |true=>exact .inr (.inl λh=>h3 ⟨hl,h⟩)
   ·refine .inr ⟨h2,?_,.inr (.inr rfl)⟩;rcases s.goal with hg|hg
    ·omega
    ·exact hg.2
  grind
 ·rcases(memS v).1 hv with rfl|⟨h1,h2,_⟩
  ·exact⟨s.iS,s.ua⟩
  ·have:=(YO (f.cell s.iS)).1 _ h1;grind
 ·unfold Ui;grind
theorem lh{c:By}{i:Int}(h:0<=i/\i<(c.length:Int))(hk:O9 c i≠0):QN c i=true:=by unfold QN P5;rw[ABV h.1,ABV (show i<=(c.length:Int)-1 by omega)];simpa[O9]using hk
structure rT(w h:Int)(c:By)(r:Rb)(far F:By):Prop where
 len:far.length=c.length
 Mc:∀x∈far, -1<=x/\x<=(c.length:Int)
 neg:r.2.2.1<0->F=[]/\far=(List.replicate c.length 1).set r.2.1.toNat 0
 pos:0<=r.2.2.1->F=far/\∀n,PE<=n->Ul n w h c r.2.2.1 r.2.2.2.1=some far
 spec:∀n,PE<=n->Tv n w h c r.1 r.2.1 r.2.2.1 r.2.2.2.1 r.2.2.2.2=some F
theorem qg{w h:Int}{c:By}(f:mL w h c){r:Rb}(s:Std c r):∃far F,rT w h c r far F:=by
 have hN:=f.le;by_cases hg:r.2.2.1<0
 ·refine⟨(List.replicate c.length 1).set r.2.1.toNat 0,[],AAA,λx hx=>?_,λ_=>⟨rfl,rfl⟩,λh=>absurd h J,λn hn=>?_⟩
  ·grind
  ·unfold Tv;grind
 ·have hgr:(0<=r.2.2.1/\r.2.2.1<(c.length:Int)):=by
   rcases s.goal with h|h
   ·omega
   ·exact h.1
  obtain⟨F,h12,h3,h4⟩:=jc f hgr r.2.2.2.1;refine⟨F,F,h3,λx hx=>?_,λh=>absurd h hg,λ_=>⟨rfl,λn hn=>(h12 n hn).2⟩,λn hn=>?_⟩
  ·grind
  ·unfold Tv;grind
theorem af(c:By)(hl:c.length<=100)(n:Nat)(hn:PE<=n):iter n (UO c) (0,List.replicate (Int.toNat (c.length:Int)) 0)=some ((c.length:Int),List.replicate c.length 1):=by have hB:1048576<=n:=AA2 ADb hn;rw[ABT];refine kC _ c.length 1 (λi out hi ho=>?_) (λout ho=>by simp[UO]) n J;simp only[UO,O6 (ho▸hi),O1 hi J,Pz,ABT,ABQ,List.length_replicate];grind
theorem dE{w h:Int}{c:By}(hf:PW w h c=true){r:Rb}(s:Std c r)(n:Nat)(hn:PE<=n){far F:By}(hfar:rT w h c r far F):
  ∃C,Tb n w h c r.1 r.2.1 r.2.2.1 r.2.2.2.1 r.2.2.2.2=some C/\C.Perm (Wi w h c r)/\C.Pairwise λa b=>Mv r.2.1 (Vp c far a) (Vp c far b) a b=true:=by
 have f:=Tz hf;have hN:=f.le;have hB:1048576<=n:=AA2 ADb hn;obtain⟨pm,nd,rng,l5⟩:=aB f s
 have hst:Rn n w h c r.1 r.2.1 r.2.2.1 r.2.2.2.1 r.2.2.2.2=some true:=by
  rw[YZ w h c J hf r n hn,lh s.iS s.ua];rcases s.goal with hg|⟨g1,g2⟩
  ·rw[hg];rfl
  ·rw[lh g1 g2];simp
 obtain⟨m1,m2,m3⟩:=ao f s.iS r.2.2.2.1;have hb4:=(YO (f.cell s.iS)).2.2;have hm1:decide ((R1 w h c r.2.1 r.2.2.2.1).length+[r.2.1].length<=E7)=true:=by rw[AAj];simp[E7];omega
 have hm2:decide ((R1 w h c r.2.1 r.2.2.2.1++[r.2.1]).length+[r.2.2.1].length<=E7)=true:=by rw[AAj];simp[E7];omega
 have hmA:decide ((0:Int)<=(c.length:Int))=true:=AAA
 have hmB:decide ((c.length:Int)<=(E7:Int))=true:=by rw[AAj];unfold E7;omega
 have zg:ON (List.replicate c.length (1:Int)) r.2.1=true:=(T7 (by simpa using s.iS)).1;have hI1:QZ n (R1 w h c r.2.1 r.2.2.2.1++[r.2.1]) r.2.2.1=some ((R1 w h c r.2.1 r.2.2.2.1++[r.2.1]).any λx=>x==r.2.2.1):=by rw[Ur];exact Ps _ ADY _ n hn
 have hI2:QZ n (Qd w h r.2.1) r.2.2.1=some ((Qd w h r.2.1).any λx=>x==r.2.2.1):=by rw[Ur];exact Ps _ J _ n hn
 have hrI:∀x∈Wi w h c r,0<=x/\x<(far.length:Int):=λx hx=>by rw[hfar.len];grind
 obtain⟨C,e1,e2,e3⟩:=kH (lt:=N1 far c r.2.1) (lb:=λa b=>Mv r.2.1 (Vp c far a) (Vp c far b) a b) (xs:=Wi w h c r) (λx hx y hy=>Yu hN (hrI x hx) (hrI y hy)) (λx y hxy=>Yu hN (W5 hxy).1 (W5 hxy).2) (by rw[pm.length_eq];omega) (pm.nodup_iff.2 nd) (X1 _ _ _)
  (λx y z h1 h2=>by rw[Yu hN (W5 (by rw[h1];rfl)).1 (W5 (by rw[h2];rfl)).2];rfl)
 refine⟨C,?_,e2,e3⟩;unfold Tb;simp only[YR,Pr w h c J n hn,hf,hst,ABP,ABX,ABS,aj f s.iS r.2.2.2.1 n hn,hm1,ABQ,hI1,gX,bP (f.cell s.iS),hI2,hm2,hmA,hmB,decide_true,AB7,af c hN n hn,zg,Pz];by_cases hg:r.2.2.1<0
 ·obtain⟨_,hfr⟩:=hfar.neg hg;have hd:decide (r.2.2.1>=0)=false:=by rw[AAr];omega
  have hc0:Wi w h c r=R1 w h c r.2.1 r.2.2.2.1++[r.2.1]:=by unfold Wi;rw[hd];simp
  grind
 ·obtain⟨_,hfr⟩:=hfar.pos J;have hd:decide (r.2.2.1>=0)=true:=by rw[AAj];omega
  have hc0:Wi w h c r=(R1 w h c r.2.1 r.2.2.2.1++[r.2.1])++(bif !((R1 w h c r.2.1 r.2.2.2.1++[r.2.1]).any λx=>x==r.2.2.1)&&(Qd w h r.2.1).any λx=>x==r.2.2.1 then [r.2.2.1]else []):=by unfold Wi;rw[hd];rfl
  rw[hd,hfr n hn]
  revert hc0
  generalize ((R1 w h c r.2.1 r.2.2.2.1++[r.2.1]).any λx=>x==r.2.2.1)=b1;generalize ((Qd w h r.2.1).any λx=>x==r.2.2.1)=b2;intro hc0;cases b1<;>cases b2<;>simp only[ABX,ABp,ABw,AB3,ABQ,ABS,ABf,ABP]at hc0 ⊢ <;> rw[<-hc0,e1]<;>rfl
theorem pc{w h:Int}{c:By}(hN:c.length<=100){r:Rb}(s:Std c r){far F:By}(hfar:rT w h c r far F):
  ∃rk:Int->Int,(∀v,0<=v/\v<(c.length:Int)->Uz r.1 r.2.1 r.2.2.1 r.2.2.2.1 r.2.2.2.2 F v=some (rk v))/\
   ∀a b,(0<=a/\a<(c.length:Int))->(0<=b/\b<(c.length:Int))->(rk a<rk b↔Vp c far a<Vp c far b)/\(rk a=rk b↔Vp c far a=Vp c far b):=by
 by_cases hg:r.2.2.1<0
 ·obtain⟨_,hfr⟩:=hfar.neg hg
  have hk:∀v,0<=v/\v<(c.length:Int)->Vp c far v=bif v==r.2.1 then 0 else 1:=λv hv=>by
   have:O9 far v=bif v==r.2.1 then 0 else 1:=by
    rw[hfr];unfold O9;rw[List.getD_eq_getElem?_getD,ACF];by_cases he:v=r.2.1
    ·subst he;rw[AAS rfl,AAS ADY];simp
    ·have zp:¬r.2.1.toNat=v.toNat:=λe=>he (by have:=s.iS;omega);rw[AAT zp,ACW,AAS J,show(v==r.2.1)=false by simpa using he];rfl
   unfold Vp;rw[this];cases(v==r.2.1)<;>rfl
  refine⟨λv=>bif v==r.2.1 then 0 else 1,λv hv=>?_,λa b ha hb=>?_⟩
  ·unfold Uz;rw[ABV hg];show _=some (bif v==r.2.1 then 0 else 1);cases(v==r.2.1)<;>rfl
  grind
 ·obtain⟨hF,_⟩:=hfar.pos J;have hb:∀v,0<=v/\v<(c.length:Int) -> -1<=O9 far v/\O9 far v<=(c.length:Int):=λv hv=>hfar.Mc _ (T7 (by rw[hfar.len];exact hv)).2.2;refine⟨λv=>bif decide (O9 far v<0)then 1000 else O9 far v,λv hv=>?_,λa b ha zr=>?_⟩
  ·unfold Uz;rw[ABZ hg,hF];simp only[ABS,Xa (c:=far) (i:=v) (by rw[hfar.len];exact hv),ABP];grind
  ·have q1:=hb a ha;have q2:=hb b zr;unfold Vp;grind
theorem mQ{w h:Int}{c:By}(hN:c.length<=100){r:Rb}(s:Std c r){far F:By}(hfar:rT w h c r far F){a b:Int}(ha:0<=a/\a<(c.length:Int))(hb:0<=b/\b<(c.length:Int)):
  WO r.1 r.2.1 r.2.2.1 r.2.2.2.1 r.2.2.2.2 F a b=some (Mv r.2.1 (Vp c far a) (Vp c far b) a b):=by
 obtain⟨rk,h1,h2⟩:=pc hN s hfar;obtain⟨q1,q2⟩:=h2 a b ha hb;rw[<-iu q1 q2];unfold WO Mv;grind
theorem ZB{w h:Int}{c:By}(f:mL w h c){r:Rb}(s:Std c r)(n:Nat)(hn:PE<=n){far F:By}(hfar:rT w h c r far F):
  ∃C,SJ n w h c r.1 r.2.1 r.2.2.1 r.2.2.2.1 r.2.2.2.2 F=some C/\C.Perm (Ui w h c r)/\C.Pairwise λa b=>Mv r.2.1 (Vp c far a) (Vp c far b) a b=true:=by
 have hN:=f.le;have hB:1048576<=n:=AA2 ADb hn;obtain⟨pm,nd,rng,l5⟩:=aB f s;obtain⟨m1,m2,m3⟩:=ao f s.iS false
 have hfl:=ZK (S4 c r.2.2.1 r.2.2.2.1 (R1 w h c r.2.1 false)) (R1 w h c r.2.1 false) (λk => !r.2.2.2.1||(O9 c k != 2||k==r.2.2.1)) (λj x out hx hj ho=>by
  have hxm:=m1 x (AAR hx);have hm:decide (out.length+[x].length<=E7)=true:=by rw[AAj];simp[E7];omega
  simp only[S4,O6 hj,ABT,hx,ABP,Xa (c:=c) (i:=x) hxm.1,O1 hj J,ABQ,hm];grind) (λout=>by simp[S4]) n J
 have hcS:(R1 w h c r.2.1 false).filter (λk => !r.2.2.2.1||(O9 c k != 2||k==r.2.2.1))++[r.2.1]=Ui w h c r:=rfl;generalize hx9:(R1 w h c r.2.1 false).filter (λk => !r.2.2.2.1||(O9 c k != 2||k==r.2.2.1))=x9 at hfl hcS;have hx9l:x9.length<=4:=by rw[<-hx9];exact AA2 (ABo _ _) m3
 generalize hj9:((R1 w h c r.2.1 false).length:Int)=j9 at hfl
 obtain⟨l,h1,h2,h3⟩:=eX (S5 n r.1 r.2.1 r.2.2.1 r.2.2.2.1 r.2.2.2.2 F (x9,j9)) (λa b=>Mv r.2.1 (Vp c far a) (Vp c far b) a b) (Ui w h c r) nd (X1 _ _ _) (λi x l hx hl zj hmem=>by
   have hi:i<(Ui w h c r).length:=J
   have hxr:=(rng x (AAR hx)).1
   have step:∀k y z,l[k]?=some y->Rj r.1 r.2.1 r.2.2.1 r.2.2.2.1 r.2.2.2.2 F (x9,j9) (l,(i:Int)) (((k+1:Nat):Int),hole l (k+1) z)=some (bif Mv r.2.1 (Vp c far x) (Vp c far y) x y then .inl ((k:Int),hole l k y)else .inr (((k+1:Nat):Int),hole l (k+1) z)):=by
    intro k y z hk;have hkl:k<l.length:=(AAO.1 hk).1;have hyr:=(rng y (hmem y (AAR hk))).1;have hw:O5 (((k+1:Nat):Int)-1)=(k:Int):=by rw[PA J J];omega
    have hi1:ON (hole l (k+1) z) (k:Int)=true:=O6 (by rw[SZ J];omega);have hi2:ON (hole l (k+1) z) ((k+1:Nat):Int)=true:=O6 (by rw[SZ J];omega);simp only[Rj,hcS,hw,hi1,hi2,O6 hi,hx,ABT,dh hk,ABP,mQ hN s hfar hxr hyr,Pz,eJ hk,ABQ];rw[show decide (((k+1:Nat):Int)>0)=true by rw[AAj];omega];cases Mv r.2.1 (Vp c far x) (Vp c far y) x y<;>rfl
   obtain⟨k,z,e,hk,q1,q2⟩:=jg (Rj r.1 r.2.1 r.2.2.1 r.2.2.2.1 r.2.2.2.2 F (x9,j9) (l,(i:Int))) (λy=>Mv r.2.1 (Vp c far x) (Vp c far y) x y) l (λk y z hk hy=>by rw[step k y z hk,hy];rfl) (λk y z hk hy=>by rw[step k y z hk,hy];rfl) (λz=>by simp[Rj]) n J x;refine⟨k,hk,?_,q1,q2⟩;have hmr:decide (l.length+[x].length<=E7)=true:=by rw[AAj];simp[E7];omega
   simp only[S5,hcS,hmr,e,O6 hi,hx,ABP,O6 (show k<(hole l k z).length by rw[SZ hk];omega),ABT,Pz,bV hk,O1 hi J,ABQ];grind) (λl=>by simp[S5,hcS]) n J
 refine⟨l,?_,h2,h3⟩;have hm:decide (x9.length+[r.2.1].length<=E7)=true:=by rw[AAj];simp[E7];omega
 unfold SJ;simp only[bE f s.iS false n hn,ABP,hfl,hm,ABQ,h1]
theorem Yh{w h:Int}{c:By}(hf:PW w h c=true){r:Rb}(s:Std c r):
  ∃F C,(∀n,PE<=n->Tv n w h c r.1 r.2.1 r.2.2.1 r.2.2.2.1 r.2.2.2.2=some F/\SJ n w h c r.1 r.2.1 r.2.2.1 r.2.2.2.1 r.2.2.2.2 F=some C/\Tb n w h c r.1 r.2.1 r.2.2.1 r.2.2.2.1 r.2.2.2.2=some C)/\
   (∀v∈C,(0<=v/\v<(c.length:Int))/\O9 c v≠0)/\C.Nodup/\C.length<=5:=by
 have f:=Tz hf;obtain⟨far,F,hfar⟩:=qg f s;obtain⟨B,b1,b2,b3⟩:=ZB f s PE (AAh _) hfar;obtain⟨pm,nd,rng,l5⟩:=aB f s;refine⟨F,B,λn hn=>⟨hfar.spec n hn,?_,?_⟩,λv hv=>rng v (b2.mem_iff.1 hv),b2.nodup_iff.2 nd,by rw[b2.length_eq];exact l5⟩
 ·obtain⟨A,a1,a2,a3⟩:=ZB f s n hn hfar;rw[a1,aR (X1 r.2.1 (Vp c far) (Ui w h c r)) a3 b3 a2 b2]
 ·obtain⟨A,a1,a2,a3⟩:=dE hf s n hn hfar;rw[a1,aR (X1 r.2.1 (Vp c far) (Ui w h c r)) a3 b3 (a2.trans pm) b2]
theorem ZX{l:By}{i k v:Int}(hi:0<=i/\i<(l.length:Int))(hk:0<=k):O9 (l.set i.toNat v) k=if k=i then v else O9 l k:=by unfold O9;grind
theorem lJ{l:By}{v:Int}:v∈l↔∃k:Int,(0<=k/\k<(l.length:Int))/\O9 l k=v:=by
 constructor
 ·intro h;obtain⟨j,hj,e⟩:=ABU.1 h;exact⟨j,⟨J,J⟩,by rw[<-e];simp[O9,List.getD,AAM hj]⟩
 ·rintro ⟨k,hk,rfl⟩
  exact(T7 hk).2.2
def ZU(l:By):Nat:=l.countP λx=>decide (x<0)
theorem aq{l:By}{i v:Int}(hi:0<=i/\i<(l.length:Int)):ZU (l.set i.toNat v)+(if O9 l i<0 then 1 else 0)=ZU l+(if v<0 then 1 else 0):=by obtain⟨_,e1,m⟩:=T7 hi;obtain⟨hil,e2⟩:=AAO.1 e1;unfold ZU;grind
structure pG(c:By)(crew:ADc):Prop where
 n20:crew.length<=20
 nM:∀i,0<=i->i<(crew.length:Int)->Std c (Ph crew i)
 fv:∀i j,0<=i->i<(crew.length:Int)->0<=j->j<(crew.length:Int)->(Ph crew i).2.1=(Ph crew j).2.1->i=j
def mK(c:By)(v:Int):Prop:=(0<=v/\v<(c.length:Int))/\O9 c v≠0
structure uY(c:By)(crew:ADc)(next:By)(i p:Int):Prop where
 len:next.length=crew.length
 ir:0<=i/\i<(crew.length:Int)
 neg:O9 next i<0
 vals:∀k,0<=k->k<(crew.length:Int)->O9 next k = -1\/mK c (O9 next k)
 D:∀a b,0<=a->a<(crew.length:Int)->0<=b->b<(crew.length:Int)->0<=O9 next a->O9 next a=O9 next b->a=b
 U:∀j k,0<=j->j<(crew.length:Int)->0<=k->k<(crew.length:Int)->O9 next j<0->j≠i->O9 next k≠(Ph crew j).2.1
 T:∀k,0<=k->k<(crew.length:Int)->O9 next k=(Ph crew i).2.1->k=p
 xV:p = -1\/((0<=p/\p<(crew.length:Int))/\p≠i)
structure Kept(c:By)(crew:ADc)(next next':By):Prop where
 len:next'.length=crew.length
 vals:∀k,0<=k->k<(crew.length:Int)->O9 next' k = -1\/mK c (O9 next' k)
 YJ:∀k,0<=k->k<(crew.length:Int)->0<=O9 next k->O9 next' k=O9 next k
structure Good(c:By)(crew:ADc)(next':By):Prop where
 D:∀a b,0<=a->a<(crew.length:Int)->0<=b->b<(crew.length:Int)->0<=O9 next' a->O9 next' a=O9 next' b->a=b
 U:∀j k,0<=j->j<(crew.length:Int)->0<=k->k<(crew.length:Int)->O9 next' j<0->O9 next' k≠(Ph crew j).2.1
structure jT(c:By)(crew:ADc)(next:By)(i:Int)(b:Bool)(next':By):Prop where
 kept:Kept c crew next next'
 qG:ZU next'+1<=ZU next
 yes:b=true->Good c crew next'/\0<=O9 next' i
 no:b=false->O9 next' i=(Ph crew i).2.1/\∀k,0<=k->k<(crew.length:Int)->O9 next k<0->O9 next' k<0\/O9 next' k=(Ph crew k).2.1
theorem rM(w h:Int)(c:By)(crew:ADc)(hl:crew.length<=20)(fields:List By)(next:By)(hn1:next.length=crew.length)(v i:Int)(hi:0<=O9 next i)(n:Nat)(hn:PE<=n):
  ∃o,R0 n w h c crew next v i=some (o,w,h,c,crew,next)/\Xr n w h c crew fields next v=some (o,w,h,c,crew,fields,next)/\
   ((o = -1/\∀j,0<=j->j<(crew.length:Int)->(Ph crew j).2.1=v->0<=O9 next j)\/((0<=o/\o<(crew.length:Int))/\(Ph crew o).2.1=v/\O9 next o<0)):=by
 have hB:1048576<=n:=AA2 ADb hn
 obtain⟨z,w',hS,h3,h4⟩:=ZT (f:=Rt w h c crew next v i) (g:=WQ w h c crew fields next v)
  (λx y=>∃k:Nat,x=(k:Int)/\y=(k:Int)/\k<=crew.length/\∀j,0<=j->j<(k:Int)->(Ph crew j).2.1=v->0<=O9 next j)
  (λz y=>((∃a b,z=.inl a/\y=.inl b)/\∀j,0<=j->j<(crew.length:Int)->(Ph crew j).2.1=v->0<=O9 next j)\/∃o,z=.inr (o,w,h,c,crew,next)/\y=.inr (o,w,h,c,crew,fields,next)/\(0<=o/\o<(crew.length:Int))/\(Ph crew o).2.1=v/\O9 next o<0)
  (λx=>crew.length-x.toNat) (λx y hR=>by
   obtain⟨k,rfl,rfl,hk,hall⟩:=hR;by_cases hk2:k=crew.length
   ·subst hk2;exact .inl ⟨.inl (crew.length:Int),.inl (crew.length:Int),by simp[Rt],by simp[WQ],.inl ⟨⟨_,_,rfl,rfl⟩,hall⟩⟩
   ·have hk':k<crew.length:=J
    have hr:=aw (crew:=crew) (i:=(k:Int)) ⟨J,J⟩;obtain⟨i1,i2,i3⟩:=T7 (out:=next) (v:=(k:Int)) ⟨J,J⟩;have hd:decide ((k:Int)<(crew.length:Int))=true:=by simpa using hk'
    simp only[Rt,WQ,hd,hr,ABP,i1,i2,ABQ,O1 hk' J];by_cases hv:(Ph crew (k:Int)).2.1=v
    ·by_cases hneg:O9 next (k:Int)<0
     ·have zp:((k:Int) != i)=true:=by rw[AB5];intro e;rw[e]at hneg;omega
      refine .inl ⟨.inr ((k:Int),w,h,c,crew,next),.inr ((k:Int),w,h,c,crew,fields,next),?_,?_,.inr ⟨_,rfl,rfl,⟨J,J⟩,hv,hneg⟩⟩
      all_goals grind
     ·refine .inr ⟨((k+1:Nat):Int),((k+1:Nat):Int),?_,?_,⟨k+1,rfl,rfl,J,λj h0 h1 h2=>?_⟩,J⟩
      all_goals grind
    ·have hvb:((Ph crew (k:Int)).2.1==v)=false:=by simpa using hv
     refine .inr ⟨((k+1:Nat):Int),((k+1:Nat):Int),?_,?_,⟨k+1,rfl,rfl,J,λj h0 h1 h2=>?_⟩,J⟩
     all_goals grind) n 0 0 ⟨0,rfl,rfl,J,λj h0 h1=>J⟩ J
 rcases hS with⟨⟨a,b,rfl,rfl⟩,hall⟩|⟨o,rfl,rfl,q1,q2,q3⟩
 ·exact⟨-1,by unfold R0;rw[h3];rfl,by unfold Xr;rw[h4];rfl,.inl ⟨rfl,hall⟩⟩
 ·exact⟨o,by unfold R0;rw[h3];rfl,by unfold Xr;rw[h4];rfl,.inr ⟨q1,q2,q3⟩⟩
theorem ox{α:Type}{l:List α}{k:Nat}{v:α}(h:l[k]?=some v):l.set k v=l:=by obtain⟨hk,e⟩:=AAO.1 h;subst e;exact List.set_getElem_self hk
def Nz(crew:ADc)(p:Int):Int:=if 0<=p then(Ph crew p).2.1 else -1
structure qV(w h:Int)(c:By)(crew:ADc)(fields:List By):Prop where
 len:fields.length=crew.length
 each:∀i,0<=i->i<(crew.length:Int)->∃F C,fields[i.toNat]?=some F/\(∀n,PE<=n->SJ n w h c (Ph crew i).1 (Ph crew i).2.1 (Ph crew i).2.2.1 (Ph crew i).2.2.2.1 (Ph crew i).2.2.2.2 F=some C/\
  Tb n w h c (Ph crew i).1 (Ph crew i).2.1 (Ph crew i).2.2.1 (Ph crew i).2.2.2.1 (Ph crew i).2.2.2.2=some C)/\(∀v∈C,mK c v)/\C.length<=5
structure LI(c:By)(crew:ADc)(next:By)(i p:Int)(nI nS:By):Prop where
 pre:uY c crew nI i p
 YJ:∀k,0<=k->k<(crew.length:Int)->0<=O9 next k->O9 nI k=O9 next k
 qF:∀k,0<=k->k<(crew.length:Int)->O9 next k<0->O9 nI k<0\/O9 nI k=(Ph crew k).2.1
 qG:ZU nI<=ZU next
 st:nS=nI\/∃v,nS=nI.set i.toNat v/\0<=v/\∃k,(0<=k/\k<(crew.length:Int))/\k≠i/\O9 nI k=v
section
variable {c:By}{crew:ADc}{next nI nS:By}{i p:Int}
theorem LI.Nc(h:LI c crew next i p nI nS):nS.length=crew.length:=by
 rcases h.st with rfl|⟨v,rfl,_⟩
 ·exact h.pre.len
 ·rw[List.length_set];exact h.pre.len
theorem LI.any(h:LI c crew next i p nI nS){v:Int}(hv:0<=v):(nS.any λx=>x==v)=nI.any λx=>x==v:=by
 rcases h.st with rfl|⟨u,rfl,hu,k,hk,hki,hku⟩
 ·rfl
 ·have hlen:=h.pre.len;have hi:=h.pre.ir;rw[ABy,AA5,AA5];simp only[AAX];constructor
  ·rintro ⟨x,hx,rfl⟩
   rcases List.mem_or_eq_of_mem_set hx with hx|rfl
   ·grind
   ·exact⟨x,lJ.2 ⟨k,J,hku⟩,rfl⟩
  ·rintro ⟨x,hx,rfl⟩
   obtain⟨j,hj,e⟩:=lJ.1 hx;refine⟨x,lJ.2 ⟨j,No,?_⟩,rfl⟩;rw[ZX J hj.1,AAT,e]
   rintro rfl
   have:=h.pre.neg;omega
theorem LI.set(h:LI c crew next i p nI nS)(v:Int):nS.set i.toNat v=nI.set i.toNat v:=by
 rcases h.st with rfl|⟨u,rfl,_⟩
 ·rfl
 ·rw[List.set_set]
theorem LI.aa(hcr:pG c crew)(h:LI c crew next i p nI nS){v:Int}(hv:mK c v)(hnt:∀k,0<=k->k<(crew.length:Int)->O9 nI k≠v)(hno:∀j,0<=j->j<(crew.length:Int)->(Ph crew j).2.1=v->0<=O9 (nI.set i.toNat v) j)(hneg0:O9 next i<0):
  jT c crew next i true (nI.set i.toNat v):=by
 have hlen:=h.pre.len;have hi:=h.pre.ir;have hi2:0<=i/\i<(nI.length:Int):=by rw[hlen];exact hi
 have hs:∀k,0<=k->O9 (nI.set i.toNat v) k=if k=i then v else O9 nI k:=λk hk=>ZX hi2 hk
 refine⟨⟨by simp[hlen],λk h0 h1=>?_,λk h0 h1 h2=>?_⟩,?_,λ_=>⟨⟨λa b a0 a1 b0 b1 hna hab=>?_,λj k j0 j1 k0 k1 hnj hkj=>?_⟩,?_⟩,λhb=>by cases hb⟩
 ·rw[hs k h0];split
  ·exact .inr hv
  ·exact h.pre.vals k h0 h1
 ·rw[hs k h0,AAT No];exact h.YJ k h0 h1 h2
 ·have:=aq (l:=nI) (i:=i) (v:=v) hi2;rw[AAS h.pre.neg,AAT (by have:=hv.1;omega)]at this;have:=h.qG;omega
 ·rw[hs a a0,hs b b0]at hab;rw[hs a a0]at hna;split at hab<;>split at hab
  ·omega
  ·grind
  ·grind
  ·rw[AAT ADk]at hna;exact h.pre.D a b a0 a1 b0 b1 hna hab
 ·rw[hs k k0]at hkj
  have hji:j≠i:=by
   rintro rfl
   rw[hs j j0,AAS rfl]at hnj;have:=hv.1;omega
  have hnj':O9 nI j<0:=by rw[hs j j0,AAT hji]at hnj;exact hnj
  split at hkj
  ·grind
  ·exact h.pre.U j k j0 j1 k0 k1 hnj' hji hkj
 ·rw[hs i hi.1,AAS rfl];exact hv.1.1
theorem LI.push(hcr:pG c crew)(h:LI c crew next i p nI nS){v o:Int}(hv:mK c v)(hnt:∀k,0<=k->k<(crew.length:Int)->O9 nI k≠v)(ho:0<=o/\o<(crew.length:Int))(hov:(Ph crew o).2.1=v)(hon:O9 (nI.set i.toNat v) o<0):
  uY c crew (nI.set i.toNat v) o i/\ZU (nI.set i.toNat v)+1=ZU nI/\o≠i:=by
 have hlen:=h.pre.len;have hi:=h.pre.ir;have hi2:0<=i/\i<(nI.length:Int):=by rw[hlen];exact hi
 have hs:∀k,0<=k->O9 (nI.set i.toNat v) k=if k=i then v else O9 nI k:=λk hk=>ZX hi2 hk
 have hoi:o≠i:=by
  rintro rfl
  rw[hs o ho.1,AAS rfl]at hon;have:=hv.1;omega
 have hng:=aq (l:=nI) (i:=i) (v:=v) hi2;rw[AAS h.pre.neg,AAT (by have:=hv.1;omega)]at hng;refine⟨⟨by simp[hlen],ho,hon,λk h0 h1=>?_,λa b a0 a1 b0 b1 hna hab=>?_,λj k j0 j1 k0 k1 hnj hjo hkj=>?_,λk k0 k1 hk=>?_,.inr ⟨hi,hoi.symm⟩⟩,J,hoi⟩
 ·rw[hs k h0];split
  ·exact .inr hv
  ·exact h.pre.vals k h0 h1
 ·rw[hs a a0,hs b b0]at hab;rw[hs a a0]at hna;split at hab<;>split at hab
  ·omega
  ·exact absurd hab.symm (hnt b b0 b1)
  ·exact absurd hab (hnt a a0 a1)
  ·rw[AAT ADk]at hna;exact h.pre.D a b a0 a1 b0 b1 hna hab
 ·rw[hs k k0]at hkj
  have hji:j≠i:=by
   rintro rfl
   rw[hs j j0,AAS rfl]at hnj;have:=hv.1;omega
  have hnj':O9 nI j<0:=by rw[hs j j0,AAT hji]at hnj;exact hnj
  split at hkj
  ·exact hjo (hcr.fv j o j0 j1 ho.1 ho.2 (by rw[<-hkj,hov]))
  ·exact h.pre.U j k j0 j1 k0 k1 hnj' hji hkj
 grind
theorem LI.xR(h:LI c crew next i p nI nS){v o:Int}(hv:mK c v)(hng:ZU (nI.set i.toNat v)+1=ZU nI){n2:By}(hp:jT c crew (nI.set i.toNat v) o true n2)(hneg0:O9 next i<0):jT c crew next i true n2:=by
 have hlen:=h.pre.len;have hi:=h.pre.ir;have hi2:0<=i/\i<(nI.length:Int):=by rw[hlen];exact hi
 have hs:∀k,0<=k->O9 (nI.set i.toNat v) k=if k=i then v else O9 nI k:=λk hk=>ZX hi2 hk
 obtain⟨g,_⟩:=hp.yes rfl;refine⟨⟨hp.kept.len,hp.kept.vals,λk h0 h1 h2=>?_⟩,?_,λ_=>⟨g,?_⟩,λhb=>by cases hb⟩
 ·have hki:k≠i:=by rintro rfl;omega
  have e:=h.YJ k h0 h1 h2;have:=hp.kept.YJ k h0 h1 (by rw[hs k h0,AAT hki,e];exact h2);grind
 ·have:=hp.qG;have:=h.qG;omega
 ·have:=hp.kept.YJ i hi.1 hi.2 (by rw[hs i hi.1,AAS rfl];exact hv.1.1);rw[this,hs i hi.1,AAS rfl];exact hv.1.1
theorem LI.xm(hcr:pG c crew)(h:LI c crew next i p nI nS){v o:Int}(hv:mK c v)(hnt:∀k,0<=k->k<(crew.length:Int)->O9 nI k≠v)(ho:0<=o/\o<(crew.length:Int))(hov:(Ph crew o).2.1=v)(hoi:o≠i)(hon:O9 (nI.set i.toNat v) o<0)
  (hng:ZU (nI.set i.toNat v)+1=ZU nI) {n2:By} (hp:jT c crew (nI.set i.toNat v) o false n2):LI c crew next i p (n2.set i.toNat (-1)) n2:=by
 have hlen:=h.pre.len;have hi:=h.pre.ir;have hi2:0<=i/\i<(nI.length:Int):=by rw[hlen];exact hi
 have hs:∀k,0<=k->O9 (nI.set i.toNat v) k=if k=i then v else O9 nI k:=λk hk=>ZX hi2 hk
 have hl2:=hp.kept.len;have hi3:0<=i/\i<(n2.length:Int):=by rw[hl2];exact hi
 have ht:∀k,0<=k->O9 (n2.set i.toNat (-1)) k=if k=i then -1 else O9 n2 k:=λk hk=>ZX hi3 hk
 obtain⟨no1,no2⟩:=hp.no rfl
 have n2i:O9 n2 i=v:=by have:=hp.kept.YJ i hi.1 hi.2 (by rw[hs i hi.1,AAS rfl];exact hv.1.1);rw[this,hs i hi.1,AAS rfl]
 have oth:∀k,0<=k->k<(crew.length:Int)->k≠i->(0<=O9 nI k/\O9 n2 k=O9 nI k)\/(O9 nI k<0/\(O9 n2 k<0\/O9 n2 k=(Ph crew k).2.1)):=by
  intro k h0 h1 hki;by_cases hk:O9 nI k<0
  ·right;refine⟨hk,no2 k h0 h1 ?_⟩;rw[hs k h0,AAT hki];exact hk
  ·left;refine⟨J,?_⟩;have:=hp.kept.YJ k h0 h1 (by rw[hs k h0,AAT hki];omega);rw[this,hs k h0,AAT hki]
 have hat:∀k,0<=k->k<(crew.length:Int)->0<=(Ph crew k).2.1:=λk h0 h1=>(hcr.nM k h0 h1).iS.1;refine⟨⟨by simp[hl2],hi,by rw[ht i hi.1,AAS rfl];omega,λk h0 h1=>?_,λa b a0 a1 b0 b1 hna hab=>?_,λj k j0 j1 k0 k1 hnj hji hkj=>?_,λk k0 k1 hk=>?_,h.pre.xV⟩,λk h0 h1 h2=>?_,λk h0 h1 h2=>?_,?_,.inr ⟨v,?_,hv.1.1,o,ho,hoi,?_⟩⟩
 ·rw[ht k h0];split
  ·exact .inl rfl
  ·exact hp.kept.vals k h0 h1
 ·rw[ht a a0,ht b b0]at hab;rw[ht a a0]at hna;by_cases hai:a=i
  ·rw[AAS hai]at hna;omega
  ·rw[AAT hai]at hna hab;by_cases hbi:b=i
   ·rw[AAS hbi]at hab;omega
   ·rw[AAT hbi]at hab;rcases oth a a0 a1 hai with⟨ha1,ha2⟩|⟨ha1,ha2⟩
    ·rcases oth b b0 b1 hbi with⟨hb1,hb2⟩|⟨hb1,hb2⟩
     ·rw[ha2,hb2]at hab;exact h.pre.D a b a0 a1 b0 b1 ha1 hab
     ·rcases hb2 with hb2|hb2
      ·omega
      ·rw[ha2,hb2]at hab;exact absurd hab (h.pre.U b a b0 b1 a0 a1 hb1 hbi)
    ·rcases ha2 with ha2|ha2
     ·omega
     ·rcases oth b b0 b1 hbi with⟨hb1,hb2⟩|⟨hb1,hb2⟩
      ·rw[ha2,hb2]at hab;exact absurd hab.symm (h.pre.U a b a0 a1 b0 b1 ha1 hai)
      ·rcases hb2 with hb2|hb2
       ·omega
       ·rw[ha2,hb2]at hab;exact hcr.fv a b a0 a1 b0 b1 hab
 ·rw[ht j j0,AAT hji]at hnj;rw[ht k k0]at hkj
  have hjI:O9 nI j<0:=by
   rcases oth j j0 j1 hji with⟨h1,h2⟩|⟨h1,_⟩
   ·omega
   ·exact h1
  by_cases hki:k=i
  ·rw[AAS hki]at hkj;have:=hat j j0 j1;omega
  ·rw[AAT hki]at hkj;rcases oth k k0 k1 hki with⟨h1,h2⟩|⟨h1,h2⟩
   ·rw[h2]at hkj;exact h.pre.U j k j0 j1 k0 k1 hjI hji hkj
   ·rcases h2 with h2|h2
    ·have:=hat j j0 j1;omega
    ·rw[h2]at hkj;have:=hcr.fv k j k0 k1 j0 j1 hkj;subst this;have:=hat k k0 k1;omega
 ·rw[ht k k0]at hk;have:=hat i hi.1 hi.2;by_cases hki:k=i
  ·rw[AAS hki]at hk;omega
  ·rw[AAT hki]at hk;rcases oth k k0 k1 hki with⟨h1,h2⟩|⟨h1,h2⟩
   ·rw[h2]at hk;exact h.pre.T k k0 k1 hk
   ·rcases h2 with h2|h2
    ·omega
    ·rw[h2]at hk;exact absurd (hcr.fv k i k0 k1 hi.1 hi.2 hk) hki
 ·have e:=h.YJ k h0 h1 h2
  have hki:k≠i:=by
   rintro rfl
   have:=h.pre.neg;omega
  rw[ht k h0,AAT hki];rcases oth k h0 h1 hki with⟨_,h4⟩|⟨h3,_⟩
  ·rw[h4,e]
  ·omega
 ·rw[ht k h0];by_cases hki:k=i
  ·rw[AAS hki];exact .inl J
  ·rw[AAT hki];rcases h.qF k h0 h1 h2 with h3|h3
   ·rcases oth k h0 h1 hki with⟨h4,_⟩|⟨_,h5⟩
    ·omega
    ·exact h5
   ·rcases oth k h0 h1 hki with⟨_,h5⟩|⟨h4,h5⟩
    ·rw[h5];exact .inr h3
    ·exact h5
 ·have q1:=aq (l:=n2) (i:=i) (v := -1) hi3;rw[n2i,AAT (by have:=hv.1;omega),AAS J]at q1;have:=hp.qG;have:=h.qG;omega
 ·rw[List.set_set];exact(ox (by rw[<-n2i];exact(T7 hi3).2.1)).symm
 grind
theorem LI.stays(hcr:pG c crew)(h:LI c crew next i p nI nS):jT c crew next i false (nI.set i.toNat (Ph crew i).2.1):=by
 have hlen:=h.pre.len;have hi:=h.pre.ir;have hi2:0<=i/\i<(nI.length:Int):=by rw[hlen];exact hi
 have hs:∀k,0<=k->O9 (nI.set i.toNat (Ph crew i).2.1) k=if k=i then(Ph crew i).2.1 else O9 nI k:=λk hk=>ZX hi2 hk
 have hst:=hcr.nM i hi.1 hi.2;refine⟨⟨by simp[hlen],λk h0 h1=>?_,λk h0 h1 h2=>?_⟩,?_,λhb=>(by cases hb),λ_=>⟨No,λk h0 h1 h2=>?_⟩⟩
 ·rw[hs k h0];split
  ·exact .inr ⟨hst.iS,hst.ua⟩
  ·exact h.pre.vals k h0 h1
 ·have e:=h.YJ k h0 h1 h2;rw[hs k h0,AAT (by rintro rfl;have:=h.pre.neg;omega),e]
 ·have:=aq (l:=nI) (i:=i) (v:=(Ph crew i).2.1) hi2;rw[AAS h.pre.neg,AAT (by have:=hst.iS;omega)]at this;have:=h.qG;omega
 ·rw[hs k h0];by_cases hki:k=i
  ·grind
  ·rw[AAT hki];exact h.qF k h0 h1 h2
end
theorem gZ{w h:Int}{c:By}{crew:ADc}(hcr:pG c crew){fields:List By}(hfl:qV w h c crew fields):∀(m:Nat)(next:By)(i p:Int),uY c crew next i p->PE+ZU next+1<=m->
  ∃b next',P4 m w h c crew next i p=some (b,w,h,c,crew,next')/\Qq m w h c crew fields next i (Nz crew p)=some (b,w,h,c,crew,fields,next')/\jT c crew next i b next'
 |0,next,i,p,hpre,hm=>absurd hm J
 |m+1,next,i,p,hpre,hm=>by
  have hir:=hpre.ir;have hneg0:=hpre.neg;have hpos:0<ZU next:=List.countP_pos_iff.2 ⟨O9 next i,(T7 (by rw[hpre.len];exact hir)).2.2,No⟩
  have hB:PE<=m:=J
  have hB2:1048576<=m:=AA2 ADb hB;have hr:=aw hir;obtain⟨F,C,hF,hC,hCv,hC5⟩:=hfl.each i hir.1 hir.2;obtain⟨hC1,hC2⟩:=hC m hB
  have hif:ON fields i=true:=by obtain⟨k,rfl⟩:∃k:Nat,i=k:=⟨i.toNat,J⟩;exact O6 No
  have hn20:=hcr.n20
  obtain⟨z,y,hS,e1,e2⟩:=ZT (f:=P9 (P4 m) m i p C) (g:=Qi (Qq m) m i (Nz crew p) (Ph crew i) C)
   (λx y=>∃(k:Nat) (nI nS:By),x=((k:Int),w,h,c,crew,nI)/\y=((k:Int),w,h,c,crew,fields,nS)/\k<=C.length/\LI c crew next i p nI nS)
   (λz y=>(∃(k:Int) (nI nS:By),z=.inl (k,w,h,c,crew,nI)/\y=.inl (k,w,h,c,crew,fields,nS)/\LI c crew next i p nI nS)\/∃n2:By,z=.inr (true,w,h,c,crew,n2)/\y=.inr (true,w,h,c,crew,fields,n2)/\jT c crew next i true n2)
   (λx=>C.length-x.1.toNat) (λx y hR=>by
    obtain⟨k,nI,nS,rfl,rfl,hk,hLI⟩:=hR;by_cases hk2:k=C.length
    ·subst hk2;exact .inl ⟨.inl ((C.length:Int),w,h,c,crew,nI),.inl ((C.length:Int),w,h,c,crew,fields,nS),by simp[P9],by simp[Qi],.inl ⟨_,nI,nS,rfl,rfl,hLI⟩⟩
    ·have hk':k<C.length:=J
     have hx:C[k]?=some C[k]:=AAM hk';have hv:=hCv C[k] (ABR hk');generalize C[k]=v at hx hv;have hd:decide ((k:Int)<(C.length:Int))=true:=by simpa using hk'
     have hlenI:=hLI.pre.len;have hlenS:=hLI.Nc;have hiI:ON nI i=true:=(T7 J).1;have hiS:ON nS i=true:=(T7 J).1
     have t1:Tj m w h c crew nI v=some ((nI.any λx=>x==v),w,h,c,crew,nI):=by unfold Tj;rw[Ur,Ps nI J v m hB];rfl
     have t2:QK m nS v=some (nI.any λx=>x==v):=by rw[Ps nS J v m hB,hLI.any hv.1.1]
     have t3:(bif decide (p>=0)then(Iv crew p).bind λ(x7:Rb)=>some (v==x7.2.1,w,h,c,crew,nI)else some (false,w,h,c,crew,nI))=some ((v==Nz crew p),w,h,c,crew,nI):=by
      rcases hpre.xV with rfl|⟨hp1,hp2⟩
      ·have:(v==Nz crew (-1))=false:=by unfold Nz;rw[AAT J,ABW];have:=hv.1;omega
       grind
      ·rw[ABV (show p>=0 from hp1.1),ABQ,aw hp1,ABP];unfold Nz;grind
     have hcur:∀ {a b:Nat},a=b+1->True:=λ_=>trivial;by_cases hskip:((nI.any λx=>x==v)||(v==Nz crew p))=true
     ·refine .inr ⟨(((k+1:Nat):Int),w,h,c,crew,nI),(((k+1:Nat):Int),w,h,c,crew,fields,nS),?_,?_,⟨k+1,nI,nS,rfl,rfl,J,hLI⟩,J⟩
      ·simp only[P9,hd,O6 hk',ABT,hx,ABP,t1,t3,O1 hk' J,ABQ];grind
      ·simp only[Qi,hd,O6 hk',ABT,hx,ABP,t2,O1 hk' J,ABQ];grind
     ·have hs1:(nI.any λx=>x==v)=false:=by
       cases hq:(nI.any λx=>x==v)with
       |false=>rfl
       |true=>grind
      have hs2:(v==Nz crew p)=false:=by
       cases hq:(v==Nz crew p)with
       |false=>rfl
       |true=>grind
      have hnt:∀k,0<=k->k<(crew.length:Int)->O9 nI k≠v:=λk h0 h1 e=>by have:=List.any_eq_false.1 hs1 (O9 nI k) (T7 (by rw[hlenI];exact⟨h0,h1⟩)).2.2;grind
      have hset:=hLI.set v;have hn1:O9 (nI.set i.toNat v) i=v:=by rw[ZX J hir.1,AAS rfl]
      obtain⟨o,w1,w2,hwho⟩:=rM w h c crew hn20 fields (nI.set i.toNat v) (by simp[hlenI]) v i (by rw[hn1];exact hv.1.1) m hB;rcases hwho with⟨rfl,hno⟩|⟨ho,hov,hon⟩
      ·refine .inl ⟨.inr (true,w,h,c,crew,nI.set i.toNat v),.inr (true,w,h,c,crew,fields,nI.set i.toNat v),?_,?_,.inr ⟨_,rfl,rfl,hLI.aa hcr hv hnt hno hneg0⟩⟩
       ·simp only[P9,hd,O6 hk',ABT,hx,ABP,t1,t3,ABQ,hs1,hs2,ABS,hiI,Pz,w1];rfl
       ·simp only[Qi,hd,O6 hk',ABT,hx,ABP,t2,ABQ,hs1,hs2,ABS,hiS,Pz,hset,w2];rfl
      ·obtain⟨hpre2,hng,hoi⟩:=hLI.push hcr hv hnt ho hov hon;obtain⟨b,n2,r1,r2,hpost⟩:=gZ hcr hfl m (nI.set i.toNat v) o i hpre2 (by have:=hLI.qG;omega);have hfi:Nz crew i=(Ph crew i).2.1:=by unfold Nz;omega
       rw[hfi]at r2;have ho0:decide (o<0)=false:=by rw[AAr];omega
       have ho1:decide (o>=0)=true:=by rw[AAj];omega
       cases b with
       |true=>
        refine .inl ⟨.inr (true,w,h,c,crew,n2),.inr (true,w,h,c,crew,fields,n2),?_,?_,.inr ⟨_,rfl,rfl,hLI.xR hv hng hpost hneg0⟩⟩
        ·simp only[P9,hd,O6 hk',ABT,hx,ABP,t1,t3,ABQ,hs1,hs2,ABS,hiI,Pz,w1,ho0,r1]
        ·simp only[Qi,hd,O6 hk',ABT,hx,ABP,t2,ABQ,hs1,hs2,ABS,hiS,Pz,hset,w2,ho1,r2,ABX]
       |false=>
        have hi2:ON n2 i=true:=(T7 (by rw[hpost.kept.len];exact hir)).1;refine .inr ⟨(((k+1:Nat):Int),w,h,c,crew,n2.set i.toNat (-1)),(((k+1:Nat):Int),w,h,c,crew,fields,n2),?_,?_,⟨k+1,_,n2,rfl,rfl,J,hLI.xm hcr hv hnt ho hov hoi hon hng hpost⟩,J⟩
        ·simp only[P9,hd,O6 hk',ABT,hx,ABP,t1,t3,ABQ,hs1,hs2,ABS,hiI,Pz,w1,ho0,r1,hi2,O1 hk' J]
        ·simp only[Qi,hd,O6 hk',ABT,hx,ABP,t2,ABQ,hs1,hs2,ABS,hiS,Pz,hset,w2,ho1,r2,ABp,O1 hk' J]) m (0,w,h,c,crew,next) (0,w,h,c,crew,fields,next)
   ⟨0,next,next,rfl,rfl,J,⟨hpre,λk _ _ _=>rfl,λk _ _ hk=>.inl hk,AAh _,.inl rfl⟩⟩ J
  rcases hS with⟨k,nI,nS,rfl,rfl,hLI⟩|⟨n2,rfl,rfl,hpost⟩
  ·have hiI:ON nI i=true:=(T7 (by rw[hLI.pre.len];exact hir)).1;have hiS:ON nS i=true:=(T7 (by rw[hLI.Nc];exact hir)).1;refine⟨false,nI.set i.toNat (Ph crew i).2.1,?_,?_,hLI.stays hcr⟩
   ·simp only[P4,hr,ABP,hC2,e1,hiI,ABQ,Pz]
   ·simp only[Qq,hr,ABP,hif,ABQ,hF,hC1,e2,hiS,Pz,hLI.set]
  ·refine⟨true,n2,?_,?_,hpost⟩
   ·simp only[P4,hr,ABP,hC2,e1]
   ·simp only[Qq,hr,ABP,hif,ABQ,hF,hC1,e2]
theorem nB{c:By}{crew:ADc}(hcr:pG c crew){next next':By}{i:Int}{b:Bool}(hlen:next.length=crew.length)(hi:0<=i/\i<(crew.length:Int))(hg:Good c crew next)(hp:jT c crew next i b next'):Good c crew next'/\0<=O9 next' i:=by
 cases b with
 |true=>exact hp.yes rfl
 |false=>
  obtain⟨n1,n2⟩:=hp.no rfl;have hat:∀k,0<=k->k<(crew.length:Int)->0<=(Ph crew k).2.1:=λk h0 h1=>(hcr.nM k h0 h1).iS.1
  have oth:∀k,0<=k->k<(crew.length:Int)->(0<=O9 next k/\O9 next' k=O9 next k)\/(O9 next k<0/\(O9 next' k<0\/O9 next' k=(Ph crew k).2.1)):=by
   intro k h0 h1;by_cases hk:O9 next k<0
   ·grind
   ·exact .inl ⟨J,hp.kept.YJ k h0 h1 J⟩
  refine⟨⟨λa b a0 a1 b0 b1 hna hab=>?_,λj k j0 j1 k0 k1 hnj hkj=>?_⟩,No⟩
  ·rcases oth a a0 a1 with⟨ha1,ha2⟩|⟨ha1,ha2⟩
   ·rcases oth b b0 b1 with⟨hb1,hb2⟩|⟨hb1,hb2⟩
    ·rw[ha2,hb2]at hab;exact hg.D a b a0 a1 b0 b1 ha1 hab
    ·rcases hb2 with hb2|hb2
     ·omega
     ·rw[ha2,hb2]at hab;exact absurd hab (hg.U b a b0 b1 a0 a1 hb1)
   ·rcases ha2 with ha2|ha2
    ·omega
    ·rcases oth b b0 b1 with⟨hb1,hb2⟩|⟨hb1,hb2⟩
     ·rw[ha2,hb2]at hab;exact absurd hab.symm (hg.U a b a0 a1 b0 b1 ha1)
     ·rcases hb2 with hb2|hb2
      ·omega
      ·rw[ha2,hb2]at hab;exact hcr.fv a b a0 a1 b0 b1 hab
  ·have hjn:O9 next j<0:=by
    rcases oth j j0 j1 with⟨h1,h2⟩|⟨h1,_⟩
    ·omega
    ·exact h1
   rcases oth k k0 k1 with⟨h1,h2⟩|⟨h1,h2⟩
   ·rw[h2]at hkj;exact hg.U j k j0 j1 k0 k1 hjn hkj
   ·rcases h2 with h2|h2
    ·grind
    ·rw[h2]at hkj;have:=hcr.fv k j k0 k1 j0 j1 hkj;grind
structure Next(c:By)(crew:ADc)(next:By):Prop where
 len:next.length=crew.length
 xk:∀k,0<=k->k<(crew.length:Int)->mK c (O9 next k)
 D:∀a b,0<=a->a<(crew.length:Int)->0<=b->b<(crew.length:Int)->O9 next a=O9 next b->a=b
theorem step_loop{w h:Int}{c:By}{crew:ADc}(hcr:pG c crew){fields:List By}(hfl:qV w h c crew fields)(T:By)(hT:T.Perm (idx crew.length))(n:Nat)(hn:PE+1000<=n):
  ∃(k k':Int) (next:By),iter n (Te n T) (0,w,h,c,crew,List.replicate crew.length (-1))=some (k,w,h,c,crew,next)/\iter n (SK n T) (0,w,h,c,crew,fields,List.replicate crew.length (-1))=some (k',w,h,c,crew,fields,next)/\Next c crew next:=by
 have hTl:T.length=crew.length:=by rw[hT.length_eq,Zm]
 have hB1:1048576<=n:=AA2 (AA2 (by decide:1048576<=PE) (ABz _ _)) hn;have hn20:=hcr.n20
 obtain⟨z,y,⟨k,k',next,rfl,rfl,hN⟩,e1,e2⟩:=ZT (f:=Te n T) (g:=SK n T)
  (λx y=>∃(k:Nat) (next:By),x=((k:Int),w,h,c,crew,next)/\y=((k:Int),w,h,c,crew,fields,next)/\k<=T.length/\next.length=crew.length/\(∀j,0<=j->j<(crew.length:Int)->O9 next j = -1\/mK c (O9 next j))/\Good c crew next/\∀j∈T.take k,0<=O9 next j)
  (λz y=>∃(k k':Int) (next:By),z=(k,w,h,c,crew,next)/\y=(k',w,h,c,crew,fields,next)/\Next c crew next)
  (λx=>T.length-x.1.toNat) (λx y hR=>by
   obtain⟨k,next,rfl,rfl,hk,hlen,hvals,hg,hdone⟩:=hR;by_cases hk2:k=T.length
   ·subst hk2;refine .inl ⟨((T.length:Int),w,h,c,crew,next),((T.length:Int),w,h,c,crew,fields,next),by simp[Te],by simp[SK],_,_,next,rfl,rfl,?_⟩;rw[List.take_length]at hdone;have hge:∀j,0<=j->j<(crew.length:Int)->0<=O9 next j:=λj h0 h1=>hdone j (hT.mem_iff.2 (Zn.2 ⟨h0,h1⟩))
    refine⟨hlen,λj h0 h1=>?_,λa b a0 a1 b0 b1 hab=>hg.D a b a0 a1 b0 b1 (hge a a0 a1) hab⟩;rcases hvals j h0 h1 with hv|hv
    ·have:=hge j h0 h1;omega
    ·exact hv
   ·right;have hk':k<T.length:=J
    have hx:T[k]?=some T[k]:=AAM hk';have hir:=Zn.1 (hT.mem_iff.1 (ABR hk'));have htk:T.take (k+1)=T.take k++[T[k]]:=ABc hk';generalize T[k]=i at hx hir htk;have hd:decide ((k:Int)<(T.length:Int))=true:=by simpa using hk'
    obtain⟨i1,i2,_⟩:=T7 (out:=next) (v:=i) (by rw[hlen];exact hir);have hdec:T.length-((k+1:Nat):Int).toNat<T.length-(k:Int).toNat:=J
    by_cases hneg:O9 next i<0
    ·have hpre:uY c crew next i (-1):=⟨hlen,hir,hneg,hvals,hg.D,λj k j0 j1 k0 k1 h1 _=>hg.U j k j0 j1 k0 k1 h1,λk k0 k1 hk=>absurd hk (hg.U i k hir.1 hir.2 k0 k1 hneg),.inl rfl⟩
     have hngs:ZU next<=20:=by have:=List.countP_le_length (p:=λx:Int=>decide (x<0)) (l:=next);unfold ZU;omega
     obtain⟨b,next',r1,r2,hp⟩:=gZ hcr hfl n next i (-1) hpre (AA2 (by rw[Nat.add_assoc];exact Nat.add_le_add_left J _) hn)
     have hf1:Nz crew (-1) = -1:=by unfold Nz;rw[AAT J]
     rw[hf1]at r2;obtain⟨hg',hi'⟩:=nB hcr hlen hir hg hp;refine⟨(((k+1:Nat):Int),w,h,c,crew,next'),(((k+1:Nat):Int),w,h,c,crew,fields,next'),?_,?_,⟨k+1,next',rfl,rfl,J,hp.kept.len,hp.kept.vals,hg',λj hj=>?_⟩,hdec⟩
     ·simp only[Te,hd,O6 hk',ABT,hx,ABP,i1,i2,ABV hneg,ABQ,r1,O1 hk' J]
     ·simp only[SK,hd,O6 hk',ABT,hx,ABP,i1,i2,ABV hneg,ABQ,r2,O1 hk' J]
     ·rw[htk]at hj;rcases ABI.1 hj with hj|hj
      ·have hjr:=Zn.1 (hT.mem_iff.1 (ACP hj));have:=hdone j hj;rw[hp.kept.YJ j hjr.1 hjr.2 this];exact this
      ·rw[ABa.1 hj];exact hi'
    ·refine⟨(((k+1:Nat):Int),w,h,c,crew,next),(((k+1:Nat):Int),w,h,c,crew,fields,next),?_,?_,⟨k+1,next,rfl,rfl,J,hlen,hvals,hg,λj hj=>?_⟩,hdec⟩
     ·simp only[Te,hd,O6 hk',ABT,hx,ABP,i1,i2,ABZ hneg,ABQ,ABS,O1 hk' J]
     ·simp only[SK,hd,O6 hk',ABT,hx,ABP,i1,i2,ABZ hneg,ABQ,ABS,O1 hk' J]
     ·rw[htk]at hj;rcases ABI.1 hj with hj|hj
      ·exact hdone j hj
      ·rw[ABa.1 hj];exact Int.not_lt.1 hneg) n (0,w,h,c,crew,List.replicate crew.length (-1)) (0,w,h,c,crew,fields,List.replicate crew.length (-1))
  (by
   have hr:∀j,0<=j->j<(crew.length:Int)->O9 (List.replicate crew.length (-1:Int)) j = -1:=λj h0 h1=>by unfold O9;rw[List.getD_eq_getElem?_getD,ACW,AAS J];rfl
   refine⟨0,List.replicate crew.length (-1),rfl,rfl,J,AAA,λj h0 h1=>.inl (hr j h0 h1),⟨λa b a0 a1 _ _ hna _=>?_,λj k j0 j1 k0 k1 _ hkj=>?_⟩,λj hj=>ADp⟩
   ·rw[hr a a0 a1]at hna;omega
   ·rw[hr k k0 k1]at hkj;have:=(hcr.nM j j0 j1).iS;omega) (by show T.length-(0:Int).toNat<n;exact AA6 (by omega:T.length-(0:Int).toNat<1048576) hB1)
 grind
theorem pO{w h:Int}{c:By}(hf:PW w h c=true){crew:ADc}(hcr:pG c crew)(n:Nat)(hn:PE<=n):
  ∃fields,qV w h c crew fields/\iter n (TX n w h c crew) (0,w,h,c,crew,[],[])=some ((crew.length:Int),w,h,c,crew,fields,List.replicate crew.length (-1)):=by
 have hn20:=hcr.n20;have hB:1048576<=n:=AA2 ADb hn
 let F:Nat->By:=λi=>if hi:i<crew.length then(Yh hf (hcr.nM (i:Int) J J)).choose else []
 have hF:∀i (hi:i<crew.length),F i=(Yh hf (hcr.nM (i:Int) J J)).choose:=λi hi=>dif_pos hi;refine⟨(List.range crew.length).map F,⟨AAA,λi h0 h1=>?_⟩,?_⟩
 ·obtain⟨m,rfl⟩:∃m:Nat,i=m:=⟨i.toNat,J⟩;have hm:m<crew.length:=J
  obtain⟨C,q1,q2,q3,q4⟩:=(Yh hf (hcr.nM (m:Int) J J)).choose_spec;exact⟨F m,C,by simp[hm],λn hn=>No,q2,q4⟩
 ·have:=Pa (TX n w h c crew) (λi=>((i:Int),w,h,c,crew,(List.range i).map F,List.replicate i (-1))) crew.length ((crew.length:Int),w,h,c,crew,(List.range crew.length).map F,List.replicate crew.length (-1)) (λi hi=>by
   obtain⟨C,q1,q2,q3,q4⟩:=(Yh hf (hcr.nM (i:Int) J J)).choose_spec;have qf:=(q1 n hn).1;rw[<-hF i hi]at qf;have hm1:decide ((List.replicate i (-1:Int)).length+[(-1:Int)].length<=E7)=true:=by rw[AAj];simp[E7];omega
   have hm2:decide (((List.range i).map F).length+[F i].length<=E7)=true:=by rw[AAj];simp[E7];omega
   have hr:=aw (crew:=crew) (i:=(i:Int)) ⟨J,J⟩;simp only[TX,hm1,hm2,hr,ABP,qf,O1 hi J,ABQ];rw[show decide ((i:Int)<(crew.length:Int))=true by simpa using hi];simp[ACO,AB1]) (by simp[TX]) n J
  grind
theorem eS{w h:Int}{c:By}{crew:ADc}(hn20:crew.length<=20)(n:Nat)(hn:PE<=n):
  iter n (VD crew) (0,w,h,c,crew,[])=some ((crew.length:Int),w,h,c,crew,List.replicate crew.length (-1)):=by
 have hB:1048576<=n:=AA2 ADb hn
 have:=Pa (VD crew) (λi=>((i:Int),w,h,c,crew,List.replicate i (-1))) crew.length ((crew.length:Int),w,h,c,crew,List.replicate crew.length (-1)) (λi hi=>by
   have hm1:decide ((List.replicate i (-1:Int)).length+[(-1:Int)].length<=E7)=true:=by rw[AAj];simp[E7];omega
   simp only[VD,hm1,O1 hi J,ABQ];rw[show decide ((i:Int)<(crew.length:Int))=true by simpa using hi];simp[ACO]) (by simp[VD]) n J
 grind
theorem ph{w h:Int}{c:By}(hf:PW w h c=true){crew:ADc}(hcr:pG c crew)(hid:rQ crew)(hok:Sx w h c crew=true)(n:Nat)(hn:PE+1000<=n):
  ∃next,Zo n w h c crew=some next/\YE n w h c crew=some next/\Next c crew next:=by
 have hN:=(Tz hf).le;have hn20:=hcr.n20;have hB0:PE<=n:=AA2 (ABz _ _) hn;obtain⟨T,t1,t2,t3⟩:=pD hid hn20 n hB0;obtain⟨fields,hfl,hini⟩:=pO hf hcr n hB0;obtain⟨k,k',next,e1,e2,hN2⟩:=step_loop hcr hfl T t3 n hn;refine⟨next,?_,?_,hN2⟩
 ·unfold Zo;rw[TC w h c J crew J n hB0,hok,eS hn20 n hB0,t1];grind
 ·unfold YE;grind
structure CP(c:By)(crew:ADc):Prop where
 rZ:pG c crew
 ids:rQ crew
 qZ:∀i,0<=i->i<(crew.length:Int)->0<=(Ph crew i).2.2.2.2/\(Ph crew i).2.2.2.2<=1000000
 qt:∀i,0<=i->i<(crew.length:Int)->1<=(Ph crew i).1/\(Ph crew i).1<=99
theorem nz{c:By}{i:Int}:QN c i=true↔mK c i:=by unfold QN P5 mK O9;grind
theorem l7{c:By}{crew:ADc}{i:Nat}(hi:i<crew.length):oh c crew i=true↔(1<=(Ph crew i).1/\(Ph crew i).1<=99)/\mK c (Ph crew i).2.1/\((Ph crew i).2.2.1 = -1\/mK c (Ph crew i).2.2.1)/\(0<=(Ph crew i).2.2.2.2/\(Ph crew i).2.2.2.2<=1000000)/\
  (0<i->(Ph crew ((i:Int)-1)).1<(Ph crew i).1)/\∀j:Nat,j<i->(Ph crew (j:Int)).2.1≠(Ph crew i).2.1:=by
 have hp:Qk (·.1) crew i crew[i]=true↔(0<i->(Ph crew ((i:Int)-1)).1<(Ph crew i).1):=by
  cases i with
  |zero=>simp[Qk]
  |succ j=>
   rw[R4 hi,show((j+1:Nat):Int)-1=(j:Int) by omega,R4 (show j<crew.length by omega)];simp[Qk,AAM (show j<crew.length by omega)]
 have ha:((crew.take i).all λy => !(y.2.1==crew[i].2.1))=true↔∀j:Nat,j<i->(Ph crew (j:Int)).2.1≠(Ph crew i).2.1:=by
  rw[AAZ,R4 hi];constructor
  ·intro h j hj;rw[R4 (show j<crew.length by omega)]
   have:=h crew[j] (by
    rw[ABU];exact⟨j,ADY,AAA⟩)
   simpa using this
  ·intro h y hy;obtain⟨j,hj,rfl⟩:=ABU.1 hy;have hji:j<i:=by simp at hj;omega
   have:=h j hji;rw[R4 (show j<crew.length by omega)]at this;simpa using this
 unfold oh;rw[AAM hi];simp only[AAN,hp,ha,nz,AAg,AAX,R4 hi];unfold P5;grind
theorem eC{w h:Int}{c:By}{crew:ADc}:Sx w h c crew=true↔PW w h c=true/\CP c crew:=by
 unfold Sx;simp only[AAN,AAj,AAZ,AAb];constructor
 ·rintro ⟨⟨hf,hn⟩,hall⟩
  have hr:∀i:Nat,i<crew.length->_:=λi hi=>(l7 hi).1 (hall i hi);have cast:∀i:Int,0<=i->i<(crew.length:Int)->∃m:Nat,i=m/\m<crew.length:=λi h0 h1=>⟨i.toNat,J,J⟩
  have ids1:∀d a:Nat,a+d+1<crew.length->(Ph crew (a:Int)).1<(Ph crew ((a+d+1:Nat):Int)).1:=by
   intro d
   induction d with
   |zero=>
    intro a ha;have:=(hr (a+1) J).2.2.2.2.1 J;grind
   |succ d ih=>
    intro a ha;have h1:=ih a J;have h2:=(hr (a+(d+1)+1) J).2.2.2.2.1 J;grind
  refine⟨hf,⟨hn,λi h0 h1=>?_,λi j i0 i1 j0 j1 e=>?_⟩,λa b a0 hab hb=>?_,λi h0 h1=>?_,λi h0 h1=>?_⟩
  ·obtain⟨m,rfl,hm⟩:=cast i h0 h1;obtain⟨_,q2,q3,_⟩:=hr m hm;exact⟨q2.1,q2.2,q3⟩
  ·obtain⟨a,rfl,ha⟩:=cast i i0 i1;obtain⟨b,rfl,hb⟩:=cast j j0 j1;rcases ABe a b with hl|hl|hl
   all_goals grind
  ·obtain⟨m,rfl,hm⟩:=cast a a0 J;obtain⟨k,rfl,hk⟩:=cast b J hb;have:=ids1 (k-m-1) m J;grind
  ·obtain⟨m,rfl,hm⟩:=cast i h0 h1;exact(hr m hm).2.2.2.1
  ·obtain⟨m,rfl,hm⟩:=cast i h0 h1;exact(hr m hm).1
 ·rintro ⟨hf,⟨hn,hs,hd⟩,hid,hag,hidr⟩
  refine⟨⟨hf,hn⟩,λi hi=>(l7 hi).2 ?_⟩;have s:=hs (i:Int) J J;refine⟨hidr i J J,⟨s.iS,s.ua⟩,s.goal,hag i J J,λh0=>hid _ _ J J J,λj hj e=>?_⟩;have:=hd j i J J J J e;omega
def ZJ(r:Rb)(v:Int):Rb:=(r.1,v,r.2.2.1,r.2.2.2.1,bif(r.2.2.1 == -1)||(v==r.2.2.1)then 0 else Mx (r.2.2.2.2+1) 1000000)
def Ws(crew:ADc)(next:By):ADc:=List.zipWith ZJ crew next
theorem ZI{crew:ADc}{next:By}(h:next.length=crew.length):(Ws crew next).length=crew.length:=by simp[Ws,h]
theorem db{crew:ADc}{next:By}(h:next.length=crew.length){i:Int}(h0:0<=i)(h1:i<(crew.length:Int)):Ph (Ws crew next) i=ZJ (Ph crew i) (O9 next i):=by
 obtain⟨m,rfl⟩:∃m:Nat,i=m:=⟨i.toNat,J⟩;have hm:m<crew.length:=J
 rw[R4 (by rw[ZI h];exact hm),R4 hm];simp[Ws,O9,List.getD,AAM (show m<next.length by omega)]
theorem qY{c:By}{crew:ADc}(hp:CP c crew){next:By}(hn:Next c crew next):CP c (Ws crew next):=by
 have hl:=ZI hn.len;have ha:∀i,0<=i->i<(crew.length:Int)->Ph (Ws crew next) i=ZJ (Ph crew i) (O9 next i):=λi h0 h1=>db hn.len h0 h1;refine⟨⟨by rw[hl];exact hp.rZ.n20,λi h0 h1=>?_,λi j i0 i1 j0 j1 e=>?_⟩,λa b a0 hab hb=>?_,λi h0 h1=>?_,λi h0 h1=>?_⟩<;>rw[hl]at *
 ·rw[ha i h0 h1];have:=hn.xk i h0 h1;exact⟨this.1,this.2,(hp.rZ.nM i h0 h1).goal⟩
 ·rw[ha i i0 i1,ha j j0 j1]at e;exact hn.D i j i0 i1 j0 j1 e
 ·rw[ha a a0 J,ha b J hb];exact hp.ids a b a0 hab hb
 ·rw[ha i h0 h1];have:=hp.qZ i h0 h1;show 0<=(bif _ then(0:Int)else _)/\(bif _ then(0:Int)else _)<=1000000;cases((Ph crew i).2.2.1 == -1)||(O9 next i==(Ph crew i).2.2.1)with
  |true=>grind
  |false=>
   show 0<=Mx _ _/\Mx _ _<=1000000;unfold Mx;grind
 ·rw[ha i h0 h1];exact hp.qt i h0 h1
theorem kW{r:Rb}{v:Int}(h:0<=r.2.2.2.2/\r.2.2.2.2<=1000000):ZJ r v=(r.1,v,r.2.2.1,r.2.2.2.1,bif(r.2.2.1 == -1)||(v==r.2.2.1)then 0 else bif decide (r.2.2.2.2<1000000)then r.2.2.2.2+1 else r.2.2.2.2):=by unfold ZJ Mx;grind
theorem gU{c:By}{crew:ADc}(hp:CP c crew){next:By}(hn:Next c crew next)(n:Nat)(hB:PE<=n):
  iter n (Rk crew next) ([],0)=some (Ws crew next,(crew.length:Int)):=by
 have hB1:1048576<=n:=AA2 ADb hB;have h20:=hp.rZ.n20;have hl:=ZI hn.len
 have:=Pa (Rk crew next) (λi=>((Ws crew next).take i,(i:Int))) crew.length (Ws crew next,(crew.length:Int)) (λi hi=>by
  have hir:0<=(i:Int)/\(i:Int)<(crew.length:Int):=⟨J,J⟩;obtain⟨i1,i2,_⟩:=T7 (out:=next) (v:=(i:Int)) (by rw[hn.len];exact hir);have ha:=hp.qZ i hir.1 hir.2
  have ht:(Ws crew next).take (i+1)=(Ws crew next).take i++[ZJ (Ph crew (i:Int)) (O9 next (i:Int))]:=by
   rw[ABc (by rw[hl];exact hi),<-R4 (by rw[hl];exact hi),db hn.len hir.1 hir.2]
  have hm:∀y:Rb,decide (((Ws crew next).take i).length+[y].length<=E7)=true:=λy=>by rw[AAj];simp[E7];omega
  rw[ht,kW ha];simp only[Rk,aw hir,ABP,i1,i2,ABQ,O1 hi J,PA (show -9223372036854775808<=(Ph crew (i:Int)).2.2.2.2+1 by omega) J,hm];rw[show decide ((i:Int)<(crew.length:Int))=true by simpa using hi];cases((Ph crew (i:Int)).2.2.1 == -1)<;>cases(O9 next (i:Int)==(Ph crew (i:Int)).2.2.1)<;>cases decide ((Ph crew (i:Int)).2.2.2.2<1000000)<;>rfl) (by simp[Rk];rw[<-hl];exact List.take_length.symm▸rfl) n J
 grind
theorem gD{c:By}{crew:ADc}(hp:CP c crew){next:By}(hn:Next c crew next)(n:Nat)(hB:PE<=n):
  iter n (Sa next) (0,crew)=some ((crew.length:Int),Ws crew next):=by
 have hB1:1048576<=n:=AA2 ADb hB;have h20:=hp.rZ.n20;have hl:=ZI hn.len;have hnl:=hn.len
 have:=Pa (Sa next) (λi=>((i:Int),(Ws crew next).take i++crew.drop i)) crew.length ((crew.length:Int),Ws crew next) (λi hi=>by
  have hir:0<=(i:Int)/\(i:Int)<(crew.length:Int):=⟨J,J⟩;obtain⟨i1,i2,_⟩:=T7 (out:=next) (v:=(i:Int)) (by rw[hn.len];exact hir);have ha:=hp.qZ i hir.1 hir.2;have hlen:((Ws crew next).take i++crew.drop i).length=crew.length:=by simp[hl];omega
  have hio:i<((Ws crew next).take i++crew.drop i).length:=by rw[hlen];exact hi
  have hg:((Ws crew next).take i++crew.drop i)[i]=Ph crew (i:Int):=by rw[R4 hi,List.getElem_append_right (by simp[hl];omega)];simp[hl,Nat.min_eq_left (Nat.le_of_lt hi)]
  have ht:((Ws crew next).take i++crew.drop i).set i (ZJ (Ph crew (i:Int)) (O9 next (i:Int)))=(Ws crew next).take (i+1)++crew.drop (i+1):=by rw[ACE _ _ (by simp[hl];omega),ABc (by rw[hl];exact hi),<-R4 (by rw[hl];exact hi),db hn.len hir.1 hir.2,ABj];congr 1;rw[show i-((Ws crew next).take i).length=0 by simp[hl];omega,ABi hi];rfl
  rw[<-ht];generalize ((Ws crew next).take i++crew.drop i)=out at hlen hio hg;have hio1:ON out (i:Int)=true:=O6 hio;rw[ABT]at i2;simp only[Sa,i1,ABT,i2,ABP,ABQ,hio1,O1 hi J,ABT];rw[eo out i _ hio,hg];have g1:∀y:Rb,(out.set i y)[i]?=some y:=λy=>by rw[ACF,AAS rfl,AAS hio]
  have g2:∀(y:Rb)(f:Rb->Rb),List.modify (out.set i y) i f=out.set i (f y):=λy f=>by rw[eo _ i f ADY];simp
  simp only[g1,g2,ABP,aL,PA (show -9223372036854775808<=(Ph crew (i:Int)).2.2.2.2+1 by omega) J];rw[show decide ((i:Int)<(next.length:Int))=true by rw[hnl];simpa using hi];unfold ZJ
  cases((Ph crew (i:Int)).2.2.1 == -1)<;>cases(O9 next (i:Int)==(Ph crew (i:Int)).2.2.1)<;>rfl) (by
   simp[Sa,hnl];rw[<-hl];exact List.take_length) n J
 grind
theorem mc(n:Nat)(hn:PE<=n){b:By}{i q:Int}(hcu:Cu b i):Ok (YA n b i q) λx=>x.1.length<=4/\Cu x.2.1 x.2.2.1:=by
 unfold YA;refine Ok.bind (P:=λx=>x.1.length<=4/\Cu x.2.2.1 x.2.2.2.1) (Ok.iter (λk x=>x.2.1+(k:Int)=5/\1<=x.2.1/\x.1.length+k<=4/\Cu x.2.2.1 x.2.2.2.1) (λk x hx=>?_) (k:=4) ⟨AAA,AAA,AAA,hcu⟩ ADU) λx hx=>Ok.pure hx;obtain⟨h1,h0,h2,h3⟩:=hx;unfold Zf;refine Ok.cond (λhb=>?_) λhb=>Ok.pure (.inr ⟨_,rfl,by show x.1.length<=4;clear hn;omega,h3⟩);have hb:=AAx hb;refine Ok.bind (P:=λz=>z.1.length<=x.1.length+1/\Cu z.2.1 z.2.2.1) ((dq h3 3).bind λv hv=>Ok.cond (λ_=>(ok_int hv AAA).bind λu hu=>Ok.guard (Rr ADS) (Ok.pure ⟨by show(x.1++[_]).length<=_;simp,hu.1⟩)) λ_=>Ok.pure ⟨by show x.1.length<=_;omega,hv⟩) λz hz=>Ok.pure (.inl ⟨_,rfl,k-1,⟨?_,?_,?_,hz.2⟩,ADS⟩)
 ·show O5 (x.2.1+1)+_=_;rw[PA ADS ADS];clear hn;omega
 ·show 1<=O5 (x.2.1+1);rw[PA ADS ADS];clear hn;omega
 grind
theorem ku(n:Nat)(hn:PE<=n){b:By}{i q:Int}(hcu:Cu b i)(w h:Int)(c:By)(hf:PW w h c=true):Ok (XI n b i q w h c) λx=>Cu x.2.1 x.2.2.1:=by
 have hc:c.length<=1048576:=by have:=(Tz hf).le;clear hn;omega
 unfold XI;rw[Vr w h c hc hf 3 n hn,ABP];refine Ok.bind (P:=λz=>(z.1=false->0<(QQ c 3 c.length).length)/\Cu z.2.1 z.2.2.1) (Ok.cond (λhb=>Ok.pure ⟨(λe=>by cases e),hcu⟩) λhb=>(dq hcu 12).bind λr hr=>Ok.pure ⟨λ_=>?_,hr⟩) λz hz=>Ok.cond (λ_=>(R3 hz.2 30).bind λr hr=>Ok.pure hr.1) λhb=>(R3 hz.2 _).bind λr hr=>?_
 ·grind
 ·have h0:=hz.1 hb;have h1:=hr.2.2 J;exact Ok.guard (eU ⟨hr.2.1,h1⟩) ((Ok.get J).bind λv hv=>Ok.pure hr.1)
theorem a8(w h:Int)(c:By)(a:Is)(hok:ZV w h c a=true)(n:Nat)(hn:PE<=n):WA n w h c a=some (w,h,c,a,1,[],Rw (Pu c) (min (Pu c).length 20),[],Ru a 50,List.replicate 51 0,0,true):=by
 obtain⟨hf,hk,_,_⟩:=ZW hok;have hs:=(Pp.1 hk).sm;have hle:=(Tz hf).le;have hc:c.length<=1048576:=ADS
 have hall:(List.range a.length).all (λi=>aJ c a i&&Yk a i)=true:=by have hok:=hok;unfold ZV at hok;simp only[AAN,AAZ]at hok ⊢;exactλx hx=>⟨hok.2 x hx,hok.1.2 x hx⟩
 have o1:=bA c hc a hs bR n hn;rw[hall]at o1;have hm:(decide (0<=51)&&decide ((51:Int)<=(E7:Int))&&decide (51=51))=true:=rfl;have hdl:(Pu c).length<=c.length:=aA c 4 c.length;unfold WA;rw[Pr w h c hc n hn,P2 a hs n hn,hf,hk];simp only[ABP,ABX,ABS,Zg w h c hc,PQ a hs n hn,hm,ABQ];simp only[bR]at o1;rw[o1];simp only[ABQ,ABP];have s1:=Zy a hs w h c a 1 [] [] [] (List.replicate (Int.toNat 51) 0) 0 n hn;have c1:=aS (Pu c) ADS w h c a 1 [] [] (Ru a 50) (List.replicate (Int.toNat 51) 0) 0 n hn;rw[show List.replicate 51 (0:Int)=List.replicate (Int.toNat 51) 0 from rfl]at s1 ⊢;have hd:SS n w h c 4=some (Pu c):=Vr w h c hc hf 4 n hn;grind
def aG:List ADa:=[[99,46,46,46,46,46,46,10,46,112,46,112,46,112,46,10,46,46,46,46,46,46,115,10,46,112,46,112,46,112,46,10,99,46,46,46,46,46,115,10],[99,46,46,46,46,46,10,46,112,112,46,112,46,10,46,46,46,46,46,46,10,46,46,46,46,46,115,10],[46,46,46,46,46,10,46,112,35,112,46,10,46,46,115,46,46,10,46,112,35,112,46,10,99,46,46,46,99,10],[99,46,112,10,46,46,46,10,112,46,115,10]]
theorem fx:aG.all dm=true:=by kernel_rfl
theorem ji(n:Nat)(hn:PE<=n){b:By}{i q:Int}(hcu:Cu b i):Ok (UK n b i q) λx=>∃w h c a b' i' q',ZV w h c a=true/\Cu b' i'/\x=(w,h,c,a,1,[],Rw (Pu c) (min (Pu c).length 20),[],Ru a 50,List.replicate 51 (0:Int),0,b',i',q'):=by unfold UK;refine(oW hcu (xs:=aG) (by simp[aG])).bind λt ht=>?_;refine(j7 (AAZ.1 fx _ ht.2) n hn).bind λx hx=>?_;refine Ok.bind (P:=λz=>PW z.2.2.2.1 z.2.2.2.2.1 z.2.2.2.2.2=true/\Cu z.1 z.2.1) ((dq ht.1 8).bind λr hr=>Ok.cond (λ_=>(ky n hn hr).bind λy hy=>Ok.pure ⟨hy.1,hy.2.2⟩) λ_=>Ok.pure ⟨hx.1,hr⟩) λz hz=>?_;refine(jk n hn hz.2 _ _ _ hz.1).bind λp hp=>?_;rw[a8 _ _ _ _ hp.1 n hn,ABP];dsimp only;refine⟨_,rfl,z.2.2.2.1,z.2.2.2.2.1,z.2.2.2.2.2,p.1,p.2.1,p.2.2.1,p.2.2.2,hp.1,hp.2,?_⟩;grind
theorem jU{w h:Int}{c:By}(hc:c.length<=1048576){crew:ADQ}(hf:PW w h c=true)(hw:CW c crew)(n:Nat)(hn:PE+1000<=n):
  ∃out,U5 n w h c crew=some out/\W7 n w h c crew=some out/\CW c out/\out.length=crew.length/\∀k (h1:k<crew.length) (h2:k<out.length),out[k].1=crew[k].1/\out[k].2.2.1=crew[k].2.2.1/\out[k].2.2.2.1=crew[k].2.2.2.1:=by
 have hB:PE<=n:=AA2 (ABz _ _) hn;have hl:crew.length<=1048576:=by have:=hw.n20;clear hn hB;omega
 have hok:Sx w h c crew=true:=Uq.2 ⟨hf,hw⟩;have hm:decide (crew.length<=E7)=true:=by rw[AAj];simp[E7];clear hn hB;omega
 have hcp:Qm crew=some crew:=by unfold Qm;rw[hm];rfl
 obtain⟨_,hp⟩:=eC.1 hok;obtain⟨next,s1,s2,hnx⟩:=ph hf hp.rZ hp.ids hok n hn
 have hsp:Vc n w h c crew=some (Ws crew next):=by unfold Vc;rw[s2];simp only[ABP,gU hp hnx n hB]
 have ho:=qY hp hnx;refine⟨Ws crew next,?_,?_,(Uq.1 (eC.2 ⟨hf,ho⟩)).2,ZI hnx.len,λk h1 h2=>?_⟩
 ·unfold U5;rw[hcp,TC w h c hc crew hl n hB,hok];simp only[ABP,ABX,ABS,s1,gD hp hnx n hB]
 ·unfold W7;rw[Xk w h c hc crew hl n hB,hok];grind
 ·have:=db hnx.len (i:=(k:Int)) No J;rw[R4 h2,R4 h1]at this;rw[this];exact⟨rfl,rfl,rfl⟩
theorem ja{w h:Int}{c:By}{a:Is}{crew:ADQ}{ts:AAL}(hf:PW w h c=true)(ha:PF a)(hc:CW c crew)(ht:TP ts):gh w h c a crew ts=sendAll a crew ts (PZ w h c a crew ts):=by unfold gh iV;rw[Pp.2 ha,Uq.2 ⟨hf,hc⟩,We.2 ht];rfl
theorem fI:Sw=Rd:=rfl
theorem Za{nx:Int}{l:ADP}(hb:Wp nx l)(hsm:QT (nx,l)){id:Int}{o:PS}(ho:P0 l id=some o)(n:Nat)(hn:PE<=n):∃i,∃h:i<l.length,l[i]=o/\o.1=id/\Q2 n nx l id=some (i:Int):=by obtain⟨hm,e⟩:=QB ho;obtain⟨i,hi,rfl⟩:=ABU.1 hm;refine⟨i,hi,rfl,e,?_⟩;have:=X2 nx l hsm.1 hb.2.2.1 i hi n hn;rw[e]at this;exact this
theorem SE(w h:Int)(c:By){a:Is}(ha:PF a){nx:Int}{l:ADP}(hb:Wp nx l)(hsm:QT (nx,l))(crew:ADQ)(ts:AAL)(st ou:By)(nw:Int)(t:PH)(ho:∃o,P0 l t.1=some o)(hp:∃q,X3 a t.2.1=some q)(n:Nat)(hn:PE<=n):
  QV n w h c a nx l crew ts st ou nw t.1 t.2.1 t.2.2.1 t.2.2.2=some (Sz a l t):=by
 have hal:=ha.1;unfold QV;by_cases h3:t.2.2.2=3
 ·obtain⟨o,ho⟩:=ho;obtain⟨i,hi,e,_,hf⟩:=Za hb hsm ho n hn;rw[show(t.2.2.2==3)=true from AAX.2 h3,ABQ,hf,ABP,O3 hi,ABP];unfold Sz;grind
 ·obtain⟨q,hq⟩:=hp;have hpx:=Qf a J t.2.1 n hn;rcases hpx.2 with⟨_,hno⟩|⟨j,hj,e,ej⟩
  ·exact(hno q (Su hq).1 (Su hq).2).elim
  ·rw[show(t.2.2.2==3)=false from ABW.2 h3,ABS,hpx.1,e,ABP,O3 hj,ABP,bU ha h3 hj ej]
theorem ZP:TG=QV:=rfl
theorem jZ{crew:ADQ}(h:crew.Pairwise λr s=>r.1<s.1){k:Nat}(hk:k<crew.length)(f:PR->PR):crew.modify k f=Vf crew crew[k].1 f:=by
 unfold Vf;refine AB0 No λi h1 h2=>?_;rw[List.length_modify]at h1;rw[List.getElem_modify,ABh];by_cases e:k=i
 ·grind
 ·rw[AAT e,show(crew[i].1==crew[k].1)=false from ABW.2 λq=>?_,ABS];rcases ABJ e with hl|hl
  ·have:=ABM.1 h k i hk h1 hl;omega
  ·have:=ABM.1 h i k h1 hk hl;omega
theorem mod_mod{β:Type}(l:List β)(k:Nat)(f g:β->β):(l.modify k f).modify k g=l.modify k (g ∘ f):=No
theorem ak{β:Type}{l:List β}{k:Nat}(h:k<l.length)(j:Nat)(f:β->β):ON (l.modify j f) (k:Int)=true:=O6 No
theorem au{nx:Int}{l:ADP}(hb:Wp nx l)(t:PH):∀p∈O8 l t,(1<=p.2.1/\p.2.1<=50)/\(1<=p.2.2/\p.2.2<=1000):=λp hp=>by
 unfold O8 at hp;cases ho:P0 l t.1 with
 |none=>grind
 |some o=>
  rw[ho]at hp;have hpm:=(ABb.1 hp).1;obtain⟨_,_,⟨hI,_⟩,hpg,_⟩:=hb.2.2.2 o (QB ho).1;obtain⟨q1,y,hy,e⟩:=hpg.1 p hpm;have hN:=hI.2.1 y hy;have ht:=hpg.2 y hy;have hle:=jM (λq hq=>(hpg.1 q hq).1) hpm;grind
theorem b8{nx:Int}{l:ADP}(hsm:QT (nx,l))(t:PH):(O8 l t).length<=1048576:=by
 unfold O8;cases ho:P0 l t.1 with
 |none=>simp
 |some o=>exact AA2 (ABo _ _) (hsm.2 o (QB ho).1).2
theorem qv{l:OF}(h:l.Pairwise λa b=>a.1<b.1){j:Nat}(hj:j<l.length){x:O0}(hx:l[j].1=x.1)(m:OF):WX x l m=l.take j++(m++l.drop (j+1)):=by
 have hp:=ABM.1 h
 have e1:l.filter (λy=>decide (y.1<x.1))=l.take j:=by
  conv=>lhs;rw[<-ACD j l]
  rw[ACB,List.filter_eq_self.2,ACL.2,ABf]
  ·intro y hy;obtain⟨i,hi,rfl⟩:=ABU.1 hy;rw[List.getElem_drop,<-hx];rw[List.length_drop]at hi;rcases Nat.eq_zero_or_pos i with rfl|hpos
   ·simp
   ·have:=hp j (j+i) hj J J;simp;omega
  ·intro y hy;obtain⟨i,hi,rfl⟩:=ABU.1 hy;rw[List.getElem_take,<-hx];rw[List.length_take]at hi;have:=hp i j J hj J;simpa using this
 have e2:l.filter (λy=>decide (x.1<y.1))=l.drop (j+1):=by
  conv=>lhs;rw[<-ACD (j+1) l]
  rw[ACB,ACL.2,List.filter_eq_self.2,AA1]
  ·intro y hy;obtain⟨i,hi,rfl⟩:=ABU.1 hy;rw[List.getElem_drop,<-hx];rw[List.length_drop]at hi;have:=hp j (j+1+i) hj J J;simpa using this
  ·intro y hy;obtain⟨i,hi,rfl⟩:=ABU.1 hy;rw[List.getElem_take,<-hx];rw[List.length_take]at hi;rcases AAu i j with zj|hge
   ·have:=hp i j J hj zj;simp;omega
   ·have:i=j:=J
    subst this;simp
 unfold WX;rw[e1,e2]
theorem gy{β:Type}{l:List β}{i:Nat}(hi:i<l.length){f g:β->β}(h:f l[i]=g l[i]):l.modify i f=l.modify i g:=by
 refine AB0 AAA λk h1 h2=>?_;rw[List.getElem_modify,List.getElem_modify];split
 ·rename_i e;subst e;exact h
 ·rfl
theorem lI{β:Type}{l:List β}{i:Nat}(hi:i<l.length)(f:β->β):(l.modify i f)[i]?=some (f l[i]):=by rw[ABd,AAM hi];simp
theorem pE{l:OF}{k:Int}{f:O0->O0}{q:Nat}(hq:q<l.length):(Q7 l k f)[q]?=some (bif l[q].1==k then f l[q]else l[q]):=by unfold Q7;rw[AAe,AAM hq];rfl
theorem bd(a:Is)(hs:Pb a)(PB k m:Int)(n:Nat)(hn:PE<=n):Wz n a PB k m=some (Xt a PB k m):=by
 unfold Wz;rw[ba a hs PB k m n hn,ABP];by_cases hc:Pw a PB k m=0
 case neg=>
  have hr:W6 a PB k m=(a,Pw a PB k m):=by unfold W6;rw[AAS hc]
  have ht:Xt a PB k m=(a,Pw a PB k m):=by unfold Xt;rw[AAS hc]
  rw[hr,ht];dsimp only;rw[show(Pw a PB k m != 0)=true by grind];rfl
 obtain⟨h,hk,hm,i,hi,e1,e2,e3⟩:=QE hc;have hst:=(h.2.2 _ (ABR hi)).2.2;obtain⟨b1,b2,b3,b4,b5⟩:=Qj hst k;have hnc:¬Pw a PB k m≠0:=λq=>q hc;by_cases zj:(PC a[i].2.2 k).2.2<m
 ·have hr:W6 a PB k m=(a,3):=by unfold W6;rw[AAT hnc,e3,AAS zj]
  have ht:Xt a PB k m=(a,3):=by unfold Xt;rw[AAT hnc,e3,AAS zj]
  rw[hr,ht];rfl
 have hr:W6 a PB k m=(T6 a PB k (-m),0):=by unfold W6;rw[AAT hnc,e3,AAT zj]
 have ht:Xt a PB k m=(aQ a PB (k,(PC a[i].2.2 k).2.1-m,(PC a[i].2.2 k).2.2-m),0):=by unfold Xt;rw[AAT hnc,e3,AAT zj]
 rw[hr,ht]
 have hz:∃z∈a[i].2.2,z.1=k:=by refine AAp λq=>?_;rw[RH λx hx e=>q ⟨x,hx,e⟩]at zj;dsimp only at zj;omega
 have hst2:Uh (Q7 a[i].2.2 k λy=>(y.1,y.2.1,y.2.2 + -m)):=kQ hst k (-m) λy hy ey=>by have:=TY hst hy;rw[ey]at this;rw[this]at zj b3 b4;omega
 have hb:T6 a PB k (-m)=a.modify i λp=>(p.1,p.2.1,Q7 p.2.2 k λy=>(y.1,y.2.1,y.2.2 + -m)):=by unfold T6;rw[Xb h hi (λl=>Q7 l k λy=>(y.1,y.2.1,y.2.2 + -m)),e2]
 have hix:Rq (T6 a PB k (-m)) PB=(i:Int)/\QX n (T6 a PB k (-m)) PB=some (i:Int):=by
  have hlen:(T6 a PB k (-m)).length=a.length:=by rw[hb];simp
  obtain⟨g1,g2⟩:=Qf (T6 a PB k (-m)) (by rw[hlen];exact hs.1) PB n hn
  have hS2:PF (T6 a PB k (-m)):=iR h PB k (-m) λp hp ep y hy ey=>by have:p=a[i]:=UD h hi hp (ep.trans e2.symm);subst this;have:=TY hst hy;rw[ey]at this;rw[this]at zj b3 b4;omega
  have hib:i<(T6 a PB k (-m)).length:=by rw[hlen];exact hi
  have hbi:(T6 a PB k (-m))[i].1=PB:=by
   have:(T6 a PB k (-m))[i]?=some (a[i].1,a[i].2.1,Q7 a[i].2.2 k λy=>(y.1,y.2.1,y.2.2 + -m)):=by rw[hb,lI hi]
   rw[AAM hib]at this;injection this with this
   rw[this];exact e2
  have:Rq (T6 a PB k (-m)) PB=(i:Int):=by
   rcases g2 with⟨_,q⟩|⟨j,hj,q1,q2⟩
   ·exact(q _ (ABR hib) hbi).elim
   ·rw[q1]
    have hij:(i:Nat)=j:=by
     have hp:=ABM.1 hS2.2.1;rcases ABe i j with hl|hl|hl
     ·have:=hp i j hib hj hl;omega
     ·exact hl
     ·have:=hp j i hj hib hl;omega
    rw[hij]
  exact⟨this,by rw[g1,this]⟩
 dsimp only;rw[show((0:Int) != 0)=false from rfl,ABS,WY,hix.2,ABP];have hinb:ON (T6 a PB k (-m)) (i:Int)=true:=O6 (by rw[hb];simpa using hi);have zw:(T6 a PB k (-m))[(i:Int).toNat]?=some (a[i].1,a[i].2.1,Q7 a[i].2.2 k λy=>(y.1,y.2.1,y.2.2 + -m)):=by rw[ABT,hb,lI hi]
 obtain⟨j,bb,s1,s2,s3⟩:=YF hst2 a[i].1 a[i].2.1 k n hn
 have hbb:bb=true:=by
  cases bb with
  |true=>rfl
  |false=>
   obtain⟨z,hz1,hz2⟩:=hz;refine((s3 rfl).1 (z.1,z.2.1,z.2.2 + -m) ?_ hz2).elim;unfold Q7;exact AAw.2 ⟨z,hz1,by rw[show(z.1==k)=true from AAX.2 hz2];rfl⟩
 subst hbb;obtain⟨hj2,ek,_⟩:=s2 rfl;have hj:j<a[i].2.2.length:=by simpa[Q7]using hj2
 have hul:∀q (hq:q<a[i].2.2.length) (hq2:q<(Q7 a[i].2.2 k λy=>(y.1,y.2.1,y.2.2 + -m)).length),(Q7 a[i].2.2 k λy=>(y.1,y.2.1,y.2.2 + -m))[q]=bif a[i].2.2[q].1==k then(a[i].2.2[q].1,a[i].2.2[q].2.1,a[i].2.2[q].2.2 + -m)else a[i].2.2[q]:=λq hq hq2=>by have h9:=pE (k:=k) (f:=λy=>(y.1,y.2.1,y.2.2 + -m)) hq;rw[AAM hq2]at h9;exact Option.some.inj h9
 have hjk:a[i].2.2[j].1=k:=by
  have:=hul j hj hj2;rw[this]at ek;cases hq:(a[i].2.2[j].1==k)with
  |true=>exact AAX.1 hq
  |false=>rw[hq,ABS]at ek;exact ek
 have hsj:PC a[i].2.2 k=a[i].2.2[j]:=by rw[<-hjk];exact TY hst (ABR hj)
 have hlj:(Q7 a[i].2.2 k λy=>(y.1,y.2.1,y.2.2 + -m))[j]=(k,a[i].2.2[j].2.1,a[i].2.2[j].2.2-m):=by rw[hul j hj hj2,show(a[i].2.2[j].1==k)=true from AAX.2 hjk,ABQ,hjk,Int.sub_eq_add_neg]
 have hmodS:Q7 a[i].2.2 k (λy=>(y.1,y.2.1,y.2.2 + -m))=a[i].2.2.modify j λy=>(y.1,y.2.1,y.2.2 + -m):=by rw[mA hst hj,hjk]
 rw[hsj]at zj b1 b2 b3 b4 ⊢;have hw:O5 (a[i].2.2[j].2.1-m)=a[i].2.2[j].2.1-m:=PA ADS ADS;have hjn:ON (Q7 a[i].2.2 k λy=>(y.1,y.2.1,y.2.2 + -m)) (j:Int)=true:=O6 hj2
 have hjg:(Q7 a[i].2.2 k λy=>(y.1,y.2.1,y.2.2 + -m))[(j:Int).toNat]?=some (k,a[i].2.2[j].2.1,a[i].2.2[j].2.2-m):=by rw[ABT,AAM hj2,hlj]
 simp only[hinb,ABQ,zw,ABP,s1,hjn,hjg,hw];generalize hL:(Q7 a[i].2.2 k λy=>(y.1,y.2.1,y.2.2 + -m))=L at *
 have hLm:∀(f:O0->O0),L.modify j f=a[i].2.2.take j++(f (k,a[i].2.2[j].2.1,a[i].2.2[j].2.2-m)::a[i].2.2.drop (j+1)):=by intro f;rw[hmodS,mod_mod,List.modify_eq_take_cons_drop hj];show _++f (a[i].2.2[j].1,a[i].2.2[j].2.1,a[i].2.2[j].2.2 + -m)::_=_;rw[hjk,Int.sub_eq_add_neg]
 have hfin:∀(g:O0->O0),(T6 a PB k (-m)).modify i (λy2=>(y2.1,y2.2.1,y2.2.2.modify j g))=a.modify i (λp=>(p.1,p.2.1,a[i].2.2.take j++(g (k,a[i].2.2[j].2.1,a[i].2.2[j].2.2-m)::a[i].2.2.drop (j+1)))):=by intro g;rw[hb,mod_mod];refine gy hi ?_;show(a[i].1,a[i].2.1,(Q7 a[i].2.2 k λy=>(y.1,y.2.1,y.2.2 + -m)).modify j g)=_;rw[hL,hLm]
 have zy:aQ a PB (k,a[i].2.2[j].2.1-m,a[i].2.2[j].2.2-m)=a.modify i (λp=>(p.1,p.2.1,a[i].2.2.take j++((bif a[i].2.2[j].2.1-m==0 then []else [(k,a[i].2.2[j].2.1-m,a[i].2.2[j].2.2-m)])++a[i].2.2.drop (j+1)))):=by unfold aQ;rw[<-e2,<-Xb h hi];refine gy hi ?_;show(a[i].1,a[i].2.1,Ye _ a[i].2.2)=_;unfold Ye;rw[qv hst.1 hj hjk]
 have h2:=hfin λy=>(y.1,a[i].2.2[j].2.1-m,y.2.2);dsimp only at h2;simp only[ABT,h2,lI hi,ABP];have hjl2:((a[i].2.2.take j).length:Int)=j:=ADY
 have hgg:(a[i].2.2.take j++(k,a[i].2.2[j].2.1-m,a[i].2.2[j].2.2-m)::a[i].2.2.drop (j+1))[j]?=some (k,a[i].2.2[j].2.1-m,a[i].2.2[j].2.2-m):=by rw[ABK ADY];simp[Nat.min_eq_left (Nat.le_of_lt hj)]
 have hl8:=hst.2.2;have hlen:(a[i].2.2.take j++(k,a[i].2.2[j].2.1-m,a[i].2.2[j].2.2-m)::a[i].2.2.drop (j+1)).length=a[i].2.2.length:=ADY
 have hin2:ON (a[i].2.2.take j++(k,a[i].2.2[j].2.1-m,a[i].2.2[j].2.2-m)::a[i].2.2.drop (j+1)) (j:Int)=true:=O6 (by rw[hlen];exact hj);simp only[hin2,ABQ,hgg,ABP];rw[zy];cases hz0:(a[i].2.2[j].2.1-m==0)with
 |false=>rfl
 |true=>
  have qo:O5 ((j:Int)+1)=((j+1:Nat):Int):=O1 hj (show a[i].2.2.length<=9223372036854775807 by clear hn;omega);simp only[ABQ,hlen,qo];rw[show(decide ((0:Int)<=0)&&decide ((0:Int)<=(j:Int))&&decide ((j:Int)<=(a[i].2.2.length:Int)))=true by simp;omega];rw[show(decide ((0:Int)<=((j+1:Nat):Int))&&decide (((j+1:Nat):Int)<=(a[i].2.2.length:Int))&&decide ((a[i].2.2.length:Int)<=(a[i].2.2.length:Int)))=true by simp;omega]
  have q1:sub (a[i].2.2.take j++(k,a[i].2.2[j].2.1-m,a[i].2.2[j].2.2-m)::a[i].2.2.drop (j+1)) 0 j=a[i].2.2.take j:=by
   unfold sub;rw[List.drop_zero,Nat.sub_zero,List.take_append_of_le_length ADY,List.take_take,Nat.min_self]
  have q2:sub (a[i].2.2.take j++(k,a[i].2.2[j].2.1-m,a[i].2.2[j].2.2-m)::a[i].2.2.drop (j+1)) (j+1) a[i].2.2.length=a[i].2.2.drop (j+1):=by
   have:(a[i].2.2.take j).length=j:=ADY
   unfold sub;rw[List.drop_append,this,show j+1-j=1 by omega,List.drop_eq_nil_of_le (by rw[this];omega),AA1,List.drop_one,List.tail_cons,ABx AAA]
  have d1:decide ((a[i].2.2.take j).length<=E7)=true:=Um ADY;have d2:decide ((a[i].2.2.take j).length+(a[i].2.2.drop (j+1)).length<=E7)=true:=Um ADY;simp only[ABQ,ABT,ACT,q1,q2,d1,d2,ABP,mod_mod];rfl
theorem bc(a:Is)(ha:Pb a)(ps:OF)(hp:ps.length<=1048576)(n:Nat)(hn:PE<=n):Wy n a ps=some (Qc UM a ps):=by
 have h1:=YQ (Rc n a ps) UM a ps (λs p hs=>mH hs _ _ _) ha (λi s hi hs=>by
  have hd:decide ((i:Int)<(ps.length:Int))=true:=ADf
  simp only[Rc,hd,ABQ,O3 hi,ABP,bd s hs _ _ _ n hn,Pn a ha n hn,O1 hi (show ps.length<=9223372036854775807 by clear hn;omega)];show(bif(UM s ps[i]).2 != 0 then _ else _)=_;cases((UM s ps[i]).2 != 0)<;>rfl) (λs=>by simp[Rc]) n ADU
 unfold Wy VG;rw[Pn a ha n hn,ABP,h1,ABP];unfold Qc;grind
theorem mX(ps:OF)(hl:ps.length<=1048576)(hp:∀p∈ps,(1<=p.2.1/\p.2.1<=50)/\(1<=p.2.2/\p.2.2<=1000))(x6:Is×Bool)(w h:Int)(c:By)(a:Is)(nx:Int)(l:ADP)(crew:ADQ)(ts:AAL)(st:By)(nw:Int){ou:By}(hou:OB 1000000 ou)(n:Nat)(hn:PE<=n):
  ∃k:Int,iter n (RW ps x6) (0,w,h,c,a,nx,l,crew,ts,st,ou,nw)=some (k,w,h,c,a,nx,l,crew,ts,st,(bif x6.2 then aP ou ps else ou),nw):=by
 obtain⟨b6,ok⟩:=x6;cases ok with
 |false=>
  obtain⟨m,rfl⟩:∃m,n=m+1:=⟨n-1,ADU⟩;refine⟨0,Po ?_ m⟩;unfold RW;grind
 |true=>
  refine⟨(ps.length:Int),?_⟩;rw[ABQ];refine PV (σ:=By) (RW ps (b6,true)) (λi s=>((i:Int),w,h,c,a,nx,l,crew,ts,st,s,nw)) ps (λr s=>((ps.length:Int),w,h,c,a,nx,l,crew,ts,st,aP s r,nw)) (λi s=>OB 1000000 s) (λs _=>?_) (λi p r s hi hx _ _ hs=>?_) n ADU ou hou
  ·unfold RW;dsimp only;rw[show decide ((ps.length:Int)<(ps.length:Int))=false by rw[AAr];omega];rfl
  ·left;have hpe:ps[i]=p:=by rw[AAM hi]at hx;exact Option.some.inj hx
   obtain⟨⟨s1,s2⟩,n1,n2⟩:=hp p No;have hk:p.2.1.toNat<s.length:=by rw[hs.1];clear hn;omega
   have zg:ON s p.2.1=true:=eU ⟨J,J⟩;have zw:s[p.2.1.toNat]?=some (s.getD p.2.1.toNat 0):=by rw[AAM hk];simp[hk]
   have hb:=hs.getD J p.2.1.toNat;refine⟨if s.getD p.2.1.toNat 0+p.2.2<=1000000 then s.set p.2.1.toNat (s.getD p.2.1.toNat 0+p.2.2)else s,?_,?_,rfl⟩
   ·unfold RW;dsimp only;rw[show decide ((i:Int)<(ps.length:Int))=true by rw[AAj];clear hn;omega];simp only[ABQ,ABP,O6 hi,ABT,hx,zg,zw,Pz,O1 hi (show ps.length<=9223372036854775807 by clear hn;omega)];rw[PA (n:=s.getD p.2.1.toNat 0+p.2.2) ADS ADS];grind
   ·split
    ·rename_i hle;exact hs.set (ACU _) _ ⟨J,hle⟩
    ·exact hs
theorem cO(w h:Int)(c:By){a:Is}{nx:Int}{l:ADP}{crew:ADQ}{x y:AAL}{t:PH}(d:DK a nx l crew (x++t::y))(hsm:QT (nx,l))(ht:t.2.2.2≠1)(ts:AAL)(st:By){ou:By}(hou:OB 1000000 ou)(nw:Int)(n:Nat)(hn:PE<=n):
  ∃t':PH,XK n w h c a nx l crew ts st ou nw t.1 t.2.1 t.2.2.1 t.2.2.2=some ((PN a ou l crew t).2.2.2.isNone,w,h,c,(PN a ou l crew t).1,nx,l,(PN a ou l crew t).2.2.1,ts,st,(PN a ou l crew t).2.1,nw,t')/\t'.1=t.1/\∀u,(PN a ou l crew t).2.2.2=some u->u=t':=by
 have hT:=d.tk t (AAV _ AAo);obtain⟨o,ho,_,_⟩:=hT.ord;obtain⟨r,hr,_,_⟩:=hT.fH ht;have hcl:=d.n20;have hpod:=hT.PB;rcases Uv crew J t.2.2.1 n hn with⟨_,hno⟩|⟨k,hk,ek,ev⟩
 ·exact(hno r (Pk hr).1 (Pk hr).2).elim
 have hS:=d.sk.sm;unfold XK PN;rw[fI,ev,ABP,O6 hk,ABQ];simp only[ABT];have cm:∀f:PR->PR,crew.modify k f=Vf crew t.2.2.1 f:=λf=>by rw[<-ek];exact jZ d.ids hk f
 by_cases h2:t.2.2.2=2
 ·have hg:=SE w h c d.sk d.bk hsm (List.modify (List.modify crew k (λ(y:Oz)=>(y.1,y.2.1,y.2.2.1,y.2.2.2.1,0))) k (λ(y:Oz)=>(y.1,y.2.1,y.2.2.1,true,y.2.2.2.2))) ts st ou nw (RK t 3) ⟨o,ho⟩ hpod n hn;rw[AAS h2,show(t.2.2.2==2)=true from AAX.2 h2,ABQ,ak hk,ABQ];rw[show QV n w h c a nx l _ ts st ou nw t.1 t.2.1 t.2.2.1 3=_ from hg,ABP];rw[mod_mod,ak hk,ABQ,mod_mod,cm];exact⟨RK t 3,rfl,rfl,λu hu=>No⟩
 ·rw[AAT h2,show(t.2.2.2==2)=false from ABW.2 h2,ABS];by_cases h3:t.2.2.2=3
  ·rw[AAS h3,show(t.2.2.2==3)=true from AAX.2 h3,ABQ];obtain⟨i,hi,e1,_,ef⟩:=Za d.bk hsm ho n hn;have hpl:o.2.2.2.1.length<=1048576:=(hsm.2 o (QB ho).1).2;have hil:o.2.2.1.length<=1048576:=(hsm.2 o (QB ho).1).1
   have hoo:XA n nx l t.1=some (o.1,o.2.1,o.2.2.1,o.2.2.2.1,o.2.2.2.2,true):=by unfold XA;rw[ef,ABP,show decide ((i:Int)<0)=false by grind,ABS,O3 hi,ABP,e1];unfold P6;rw[Um No,Um No];rfl
   have hpk:O8 l t=o.2.2.2.1.filter λp=>p.1==t.2.1:=by unfold O8;rw[ho]
   have hpl2:=b8 hsm t;rw[hoo,ABP];dsimp only;rw[dR o hpl t.2.1 n hn,ABP,<-hpk];unfold Y0;rw[cM a hS (O8 l t) hpl2 n hn,ABP,ABP];obtain⟨kk,hloop⟩:=mX (O8 l t) hpl2 (au d.bk t) (Qc UM a (O8 l t)) w h c (Qc UM a (O8 l t)).1 nx l (List.modify crew k (λ(y:Oz)=>(y.1,y.2.1,y.2.2.1,y.2.2.2.1,0))) ts st nw hou n hn;rw[hloop,ABP];dsimp only;obtain⟨g1,g2,_⟩:=Y2 d.sk (O8 l t);have hpod2:=(hT.same g2 (k:=l) rfl).PB;have hg:=SE w h c g1 d.bk hsm (List.modify crew k (λ(y:Oz)=>(y.1,y.2.1,y.2.2.1,y.2.2.2.1,0))) ts st (bif(Qc UM a (O8 l t)).2 then aP ou (O8 l t)else ou) nw (RK t 4) ⟨o,ho⟩ hpod2 n hn;rw[show QV n w h c _ nx l _ ts st _ nw t.1 t.2.1 t.2.2.1 4=_ from hg,ABP];rw[ak hk,ABQ,mod_mod,cm];exact⟨RK t 4,rfl,rfl,λu hu=>No⟩
  ·rw[AAT h3,show(t.2.2.2==3)=false from ABW.2 h3,ABS];rw[ak hk,ABQ,mod_mod,ak hk,ABQ,mod_mod,cm];exact⟨t,rfl,rfl,λu hu=>by cases hu⟩
structure BG(nx:Int)(l:ADP):Prop where
 bk:Wp nx l
 LG:iO l
 dN:∀o∈l,o.2.2.2.1.length<=72
theorem BG.sm{nx:Int}{l:ADP}(h:BG nx l):QT (nx,l):=by
 have h30:=h.bk.2.1;refine⟨No,λo ho=>?_⟩;have h72:=h.dN o ho;obtain⟨_,_,⟨hI,_⟩,_,_⟩:=h.bk.2.2.2 o ho;have h6:=hI.2.2;exact⟨by show o.2.2.1.length<=_;omega,by show o.2.2.2.1.length<=_;omega⟩
theorem BG.spec{nx:Int}{l:ADP}(h:BG nx l)(n:Nat)(hn:PE<=n):Qr n nx l=some true:=by obtain⟨b,e,ib⟩:=ZA h.sm h.LG n hn;rw[e,ib.2 ⟨h.bk,h.dN⟩]
theorem DI.bg{w h:Int}{c:By}{a:Is}{nx:Int}{l:ADP}{crew:ADQ}{ts:AAL}(d:DI w h c a nx l crew ts):BG nx l:=⟨d.bk,d.LG,d.dN⟩
theorem bz{l:ADP}(h:l.Pairwise λa b=>a.1<b.1){i:Nat}(hi:i<l.length)(st:Int):l.modify i (λo=>(o.1,o.2.1,o.2.2.1,o.2.2.2.1,st))=QA l l[i].1 st:=by
 unfold QA;refine AB0 No λk h1 h2=>?_;rw[List.length_modify]at h1;rw[List.getElem_modify,ABh];by_cases e:i=k
 ·grind
 ·rw[AAT e,show(l[k].1==l[i].1)=false from ABW.2 λq=>?_,ABS];rcases ABJ e with hl|hl
  ·have:=ABM.1 h i k hi h1 hl;omega
  ·have:=ABM.1 h k i h1 hi hl;omega
theorem dP{nx:Int}{l:ADP}(h:BG nx l)(id:Int)(n:Nat)(hn:PE<=n):∃b,X6 n nx l id=some (nx,(bif P1 l id then QA l id 2 else l),b):=by
 have hsm:=h.sm;unfold X6;rw[Sh nx l hsm n hn,ABP,h.spec n hn];cases ho:P0 l id with
 |none=>
  have hm:∀x∈l,x.1≠id:=λx hx e=>ADy
  have hf:=VN nx l hsm.1 id hm n hn;rw[Xc]at hf;have hio:P1 l id=false:=by unfold P1;rw[ho]
  rw[hf,hio];exact⟨false,rfl⟩
 |some o=>
  obtain⟨i,hi,e1,e2,ef⟩:=Za h.bk hsm ho n hn;have hio:P1 l id=(o.2.2.2.2==1):=by unfold P1;rw[ho]
  rw[ef,hio];simp only[ABP,ABX,ABS,show decide ((i:Int)<0)=false by grind,O3 hi,e1];cases hs:(o.2.2.2.2==1)with
  |false=>
   rw[show(o.2.2.2.2 != 1)=true by simp only[bne,hs];rfl];grind
  |true=>
   rw[show(o.2.2.2.2 != 1)=false by simp only[bne,hs];rfl,ABS,O6 hi,ABQ,ABT,bz h.bk.2.2.1 hi,e1,e2];grind
theorem BG.Dg{nx:Int}{l:ADP}(h:BG nx l)(id:Int){st:Int}(hst:1<=st/\st<=3):BG nx (QA l id st):=by
 have mem:∀q∈QA l id st,∃o∈l,q=(bif o.1==id then(o.1,o.2.1,o.2.2.1,o.2.2.2.1,st)else o:PS):=λq hq=>by unfold QA at hq;grind
 have key:∀o:PS,(bif o.1==id then(o.1,o.2.1,o.2.2.1,o.2.2.2.1,st)else o:PS).2.2.2.1=o.2.2.2.1:=λo=>No
 have hd:DK [] nx (QA l id st) [] []:=DK.Dg ⟨⟨AAA,List.Pairwise.nil,(λp hp=>by cases hp)⟩,h.bk,AAA,List.Pairwise.nil,QL.2 ⟨AAA,(λx hx=>by cases hx),List.Pairwise.nil⟩,(λt ht=>by cases ht)⟩ hst (λt ht=>by cases ht);refine⟨hd.bk,λq hq=>?_,λq hq=>?_⟩
 ·obtain⟨o,ho,rfl⟩:=mem q hq;rw[key];exact h.LG o ho
 ·obtain⟨o,ho,rfl⟩:=mem q hq;rw[key];exact h.dN o ho
theorem pz(left:AAL)(hl:left.length<=1048576)(ended:By){i:Nat}(hi:i<ended.length)(r:Int×Int×Int×By×Is×Int×ADP×ADQ×AAL×By×By×Int)(y:Int×Int×By×Is×Int×ADP×ADQ×AAL×By×By×Int)(n:Nat)(hn:PE<=n):
  ∃j:Int,iter n (Sn (left,ended,r) ((i:Int),y)) (false,0)=some (left.any (λt=>t.1==ended[i]),j):=by
 refine⟨(left.length:Int),?_⟩;have:=PV (σ:=Bool) (Sn (left,ended,r) ((i:Int),y)) (λk s=>(s,(k:Int))) left (λq s=>(s||q.any (λt=>t.1==ended[i]),(left.length:Int))) (λ_ _=>True) (λs _=>?_) (λk t q s hk ht _ _ _=>?_) n ADU false trivial
 ·grind
 ·unfold Sn;grind
 ·left;refine⟨s||t.1==ended[i],?_,trivial,by simp only[ACV,Bool.or_assoc]⟩;unfold Sn;dsimp only;rw[show decide ((k:Int)<(left.length:Int))=true by rw[AAj];clear hn;omega];simp only[ABQ,O6 hk,ABT,ht,ABP,O6 hi,AAM hi,O1 hk (show left.length<=9223372036854775807 by clear hn;omega)];grind
theorem px(left:AAL)(hl:left.length<=1048576)(ended:By)(hel:ended.length<=1048576)(r:Int×Int×Int×By×Is×Int×ADP×ADQ×AAL×By×By×Int)(w h:Int)(c:By)(a:Is)(nx:Int){l:ADP}(hb:BG nx l)(crew:ADQ)(st ou:By)(nw:Int)(n:Nat)(hn:PE<=n):
  iter n (Sl n (left,ended,r)) (0,w,h,c,a,nx,l,crew,left,st,ou,nw)=some ((ended.length:Int),w,h,c,a,nx,iZ left ended l,crew,left,st,ou,nw):=by
 refine PV (σ:=ADP) (Sl n (left,ended,r)) (λi s=>((i:Int),w,h,c,a,nx,s,crew,left,st,ou,nw)) ended (λq s=>((ended.length:Int),w,h,c,a,nx,iZ left q s,crew,left,st,ou,nw)) (λ_ s=>BG nx s) (λs _=>?_) (λi id q s hi hx _ _ hs=>?_) n ADU l hb
 ·unfold Sl;dsimp only;rw[show decide ((ended.length:Int)<(ended.length:Int))=false by rw[AAr];omega];rfl
 ·left;have he:ended[i]=id:=by rw[AAM hi]at hx;exact Option.some.inj hx
  obtain⟨j,e3⟩:=pz left hl ended hi r (w,h,c,a,nx,s,crew,left,st,ou,nw) n hn;rw[he]at e3;obtain⟨b,ef⟩:=dP hs id n hn;refine⟨bif(left.any λt=>t.1==id) || !P1 s id then s else QA s id 2,?_,?_,rfl⟩
  ·unfold Sl;dsimp only;rw[show decide ((i:Int)<(ended.length:Int))=true by rw[AAj];clear hn;omega];simp only[ABQ,e3,ABP,O6 hi,ABT,hx,ef,O1 hi (show ended.length<=9223372036854775807 by clear hn;omega)];grind
  ·cases(left.any λt=>t.1==id) || !P1 s id
   ·exact hs.Dg id ⟨J,J⟩
   ·exact hs
theorem ly:∀(ps:OF)(ou:By),(∀p∈ps,1<=p.2.2/\p.2.2<=1000)->OB 1000000 ou->OB 1000000 (aP ou ps)
 | [],ou,_,h=>h
 |p::ps,ou,hp,h=>by
  have h1:=hp p AAo;have h2:=h.getD J p.2.1.toNat;refine ly ps _ (λq hq=>hp q (AAQ _ hq)) ?_;dsimp only;split
  ·rename_i hle;exact h.set (ACU _) _ ⟨J,hle⟩
  ·exact h
theorem gk(l:ADP):∀(ts:AAL)(s:mP),(Pc l ts s).2.2.2.2.length<=s.2.2.2.2.length+ts.length
 | [],s=>AAh _
 |t::ts,s=>by
  have ih:=gk l ts (PX l t s)
  have h1:(PX l t s).2.2.2.2.length<=s.2.2.2.2.length+1:=by
   unfold PX;split
   ·dsimp only;cases(PN s.1 s.2.1 l s.2.2.1 t).2.2.2 with
    |none=>simp only[ABC,ABY];omega
    |some _=>dsimp only;omega
   ·dsimp only;omega
  have hun:Pc l (t::ts) s=Pc l ts (PX l t s):=rfl;grind
theorem pv(crew0:ADQ)(ts:AAL)(w h:Int)(c:By){a:Is}{nx:Int}{l:ADP}(hsm:QT (nx,l)){crew:ADQ}(d:DK a nx l crew ts)(ts0:AAL)(st:By){ou:By}(hou:OB 1000000 ou)(nw:Int)(n:Nat)(hn:PE<=n):
  iter n (Sk n (crew0,ts)) ([],[],0,w,h,c,a,nx,l,crew,ts0,st,ou,nw)=some ((Pc l ts (a,ou,crew,[],[])).2.2.2.1,(Pc l ts (a,ou,crew,[],[])).2.2.2.2,(ts.length:Int),w,h,c,(Pc l ts (a,ou,crew,[],[])).1,nx,l,(Pc l ts (a,ou,crew,[],[])).2.2.1,ts0,st,(Pc l ts (a,ou,crew,[],[])).2.1,nw):=by
 have h60:=(QL.1 d.Vg).1
 refine PV (σ:=mP) (Sk n (crew0,ts)) (λi s=>(s.2.2.2.1,s.2.2.2.2,(i:Int),w,h,c,s.1,nx,l,s.2.2.1,ts0,st,s.2.1,nw)) ts (λq s=>((Pc l q s).2.2.2.1,(Pc l q s).2.2.2.2,(ts.length:Int),w,h,c,(Pc l q s).1,nx,l,(Pc l q s).2.2.1,ts0,st,(Pc l q s).2.1,nw))
  (λi s=>DK s.1 nx l s.2.2.1 (s.2.2.2.1++ts.drop i)/\OB 1000000 s.2.1/\s.2.2.2.2.length<=i/\s.2.2.2.1.length<=i) (λs hs=>?_) (λi t q s hi hx hd1 hd2 hs=>?_) n ADU (a,ou,crew,[],[]) ⟨by simpa using d,hou,AAA,AAA⟩
 ·unfold Sk;dsimp only;rw[show decide ((ts.length:Int)<(ts.length:Int))=false by rw[AAr];omega];rfl
 ·left;obtain⟨hD,hO,hE,hL⟩:=hs;rw[hd1]at hD;obtain⟨sa,so,sc,sl,se⟩:=s;dsimp only at hD hO hE hL ⊢;have zo:∀y:PH,decide (sl.length+[y].length<=E7)=true:=λy=>Rr J;have hrow2:∀y:Int,decide (se.length+[y].length<=E7)=true:=λy=>Rr J;have hwi:O5 ((i:Int)+1)=((i+1:Nat):Int):=O1 hi (show ts.length<=9223372036854775807 by omega);have hcl:=hD.n20;have hdec:decide ((i:Int)<(ts.length:Int))=true:=by rw[AAj];clear hn;omega
  refine⟨PX l t (sa,so,sc,sl,se),?_,?_,rfl⟩
  ·unfold Sk;dsimp only;rw[hdec];simp only[ABQ,O6 hi,ABT,hx,ABP]
   have hrob:∃x6,Sw n sc t.2.2.1=some x6/\(t.2.2.2≠1->∃k,∃hk:k<sc.length,x6=(k:Int)/\Se sc t.2.2.1=some sc[k]):=by
    rw[fI];rcases Uv sc J t.2.2.1 n hn with⟨e,hno⟩|⟨k,hk,ek,ev⟩
    ·refine⟨_,e,λh1=>?_⟩;obtain⟨r,hr,_⟩:=(hD.tk t (AAV _ AAo)).fH h1;exact(hno r (Pk hr).1 (Pk hr).2).elim
    ·refine⟨_,ev,λ_=>⟨k,hk,rfl,?_⟩⟩;rw[<-ek];exact Xh hD.ids hk
   obtain⟨x6,e6,hk6⟩:=hrob;rw[e6,ABP];unfold PX P8;dsimp only;by_cases h1:t.2.2.2=1
   ·grind
   ·obtain⟨k,hk,rfl,hr⟩:=hk6 h1;rw[show(t.2.2.2 != 1)=true from AB5.2 h1,show(t.2.2.2==1)=false from ABW.2 h1,hr];simp only[ABQ,O6 hk,ABT,AAM hk,ABP,ABp,ABw];cases hg:(sc[k].2.1==sc[k].2.2.1)with
    |false=>
     grind
    |true=>
     rw[AAS rfl,ABQ];obtain⟨t',ev,et,hu⟩:=cO w h c hD hsm h1 ts0 st hO nw n hn;rw[ev];cases hq:(PN sa so l sc t).2.2.2 with
     |none=>simp only[ABP,Option.isNone,ABQ,hrow2,hwi,et,Xf,ABf]
     |some u=>
      have:=hu u hq;subst this;simp only[ABP,Option.isNone,ABS,zo,ABQ,hwi,Xf]
  ·rw[hd2];unfold PX;by_cases hg:P8 sc t=true
   ·rw[AAS hg]
    have ht:t.2.2.2≠1:=λe=>by unfold P8 at hg;rw[show(t.2.2.2==1)=true from AAX.2 e]at hg;simp at hg
    have hgo:=hD.aa ht so;refine⟨?_,?_,?_,?_⟩
    ·show DK _ nx l _ ((sl++Xf _)++q);rw[ABj];exact hgo
    ·show OB 1000000 (PN sa so l sc t).2.1;unfold PN;split
     ·exact hO
     ·split
      ·dsimp only;cases(Qc UM sa (O8 l t)).2
       ·exact hO
       ·exact ly _ so (λp hp=>by have:=au d.bk t p hp;exact⟨this.2.1,this.2.2⟩) hO
      ·exact hO
    ·show(match(PN sa so l sc t).2.2.2 with|some _=>se|none=>se++[t.1]).length<=i+1;cases(PN sa so l sc t).2.2.2 with
     |none=>simp only[ABC,ABY];clear hn;omega
     |some _=>dsimp only;clear hn;omega
    ·show(sl++Xf (PN sa so l sc t).2.2.2).length<=i+1;cases(PN sa so l sc t).2.2.2 with
     |none=>simp only[Xf,ABf];clear hn;omega
     |some _=>simp only[Xf,ABC,ABY];clear hn;omega
   grind
theorem cR{w h:Int}{c:By}{a:Is}{nx:Int}{l:ADP}{crew:ADQ}{ts:AAL}(d:DI w h c a nx l crew ts)(st:By){ou:By}(hou:TZ ou)(nw:Int)(n:Nat)(hn:PE+1000<=n):
  ∃AAI,CW c AAI/\AAI.length=(sendAll a crew ts (PZ w h c a crew ts)).1.length/\(∀k (h1:k<(sendAll a crew ts (PZ w h c a crew ts)).1.length) (h2:k<AAI.length),AAI[k].1=(sendAll a crew ts (PZ w h c a crew ts)).1[k].1/\AAI[k].2.2.1=(sendAll a crew ts (PZ w h c a crew ts)).1[k].2.2.1/\AAI[k].2.2.2.1=(sendAll a crew ts (PZ w h c a crew ts)).1[k].2.2.2.1)/\
   U5 n w h c (sendAll a crew ts (PZ w h c a crew ts)).1=some AAI/\
   XM n w h c a nx l crew ts st ou nw=some (w,h,c,(PY a ou l AAI (sendAll a crew ts (PZ w h c a crew ts)).2).1,nx,(PY a ou l AAI (sendAll a crew ts (PZ w h c a crew ts)).2).2.2.1,(PY a ou l AAI (sendAll a crew ts (PZ w h c a crew ts)).2).2.2.2.1,(PY a ou l AAI (sendAll a crew ts (PZ w h c a crew ts)).2).2.2.2.2,st,(PY a ou l AAI (sendAll a crew ts (PZ w h c a crew ts)).2).2.1,O5 (nw+1)):=by
 have hB:PE<=n:=AA2 (ABz _ _) hn;have hcl:c.length<=1048576:=by have:=(Tz d.fl).le;clear hn hB;omega
 have h20:=d.cw.n20;have h60:=(QL.1 d.Vg).1;have hd:=YP hcl d.fl a crew ts;have ds:=d.fK hd (Tm hd.n1 hd.n2);have e1:=cI hcl d.st.sm (show crew.length<=1048576 by omega) (show ts.length<=1048576 by omega) n hB (w:=w) (h:=h);rw[ja d.fl d.st d.cw d.Vg]at e1;obtain⟨out,a1,a2,a3,a4,a5⟩:=jU hcl ds.fl ds.cw n hn;have da:=ds.np a3 a4 a5;have h60s:=(QL.1 da.Vg).1;have hL1:=pv (sendAll a crew ts (PZ w h c a crew ts)).1 (sendAll a crew ts (PZ w h c a crew ts)).2 w h c d.bg.sm da.zZ ts st hou.ob (O5 (nw+1)) n hB;have hdone:=DI.Pc (sendAll a crew ts (PZ w h c a crew ts)).2 (a,ou,out,[],[]) da;have hl2:(Pc l (sendAll a crew ts (PZ w h c a crew ts)).2 (a,ou,out,[],[])).2.2.2.1.length<=1048576:=by have:=(QL.1 hdone.Vg).1;clear hn hB;omega
 have hl3:(Pc l (sendAll a crew ts (PZ w h c a crew ts)).2 (a,ou,out,[],[])).2.2.2.2.length<=1048576:=by have:=gk l (sendAll a crew ts (PZ w h c a crew ts)).2 (a,ou,out,[],[]);dsimp only[List.length_nil]at this;clear hn hB;omega
 refine⟨out,a3,a4,a5,a1,?_⟩;unfold XM;rw[e1,ABP];rw[a2,ABP,hL1,ABP];rw[px _ hl2 _ hl3 _ w h c _ nx d.bg _ st _ _ n hB,ABP];rfl
theorem cQ(w h:Int)(c:By){a:Is}(ha:PF a){nx:Int}{l:ADP}(hb:BG nx l){crew:ADQ}(hc:CW c crew)(ts:AAL)(st ou:By)(nw:Int){t:PH}(hg:P7 t=true)(n:Nat)(hn:PE<=n):
  ∃b,Ts n w h c a nx l crew ts st ou nw t.1 t.2.1 t.2.2.1 t.2.2.2=some b/\(b=true↔T5 a l crew t):=by
 have hal:=ha.1;have hcl:=hc.n20;have hsm:=hb.sm;obtain⟨⟨s1,s4⟩,hrz⟩:=Yj hg;unfold Ts;cases ho:P0 l t.1 with
 |none=>
  have hm:∀x∈l,x.1≠t.1:=λx hx e=>by unfold P0 at ho;have:=ACA.1 ho x hx;rw[e]at this;simp at this
  have hf:=VN nx l hsm.1 t.1 hm n hn;rw[Xc]at hf;rw[hf];refine⟨false,rfl,(λe=>by cases e),λhT=>?_⟩;obtain⟨o,e,_⟩:=hT.ord;grind
 |some o=>
  obtain⟨i,hi,e1,e2,ef⟩:=Za hb.bk hsm ho n hn;rw[ef,ABP,show decide ((i:Int)<0)=false by grind,ABS];simp only[O3 hi,e1,ABP];by_cases hst:o.2.2.2.2=1
  case neg=>
   rw[show(o.2.2.2.2 != 1)=true from AB5.2 hst];refine⟨false,rfl,(λe=>by cases e),λhT=>?_⟩;obtain⟨o2,e,e2,_⟩:=hT.ord;grind
  rw[show(o.2.2.2.2 != 1)=false by rw[hst];rfl,ABS];have hpx:=Qf a J t.2.1 n hn;rw[hpx.1,ABP];rcases hpx.2 with⟨e,hno⟩|⟨j,hj,e,ej⟩
  ·rw[e];refine⟨false,rfl,(λe=>by cases e),λhT=>?_⟩;obtain⟨q,hq⟩:=hT.PB;exact(hno q (Su hq).1 (Su hq).2).elim
  have hpl:o.2.2.2.1.length<=1048576:=(hsm.2 o (QB ho).1).2
  have hplen:(RM o.2.2.2.1).length<=1048576:=by have:=Yb o.2.2.2.1 [];unfold RM;simp only[List.length_nil]at this;clear hn;omega
  rw[e,show decide ((j:Int)<0)=false by grind,ABS,Xm o.2.2.2.1 hpl n hn,ABP,Ps _ hplen _ n hn];simp only[ABP];cases hany:(RM o.2.2.2.1).any (λx=>x==t.2.1)with
  |false=>
   refine⟨false,rfl,(λe=>by cases e),λhT=>?_⟩;obtain⟨o2,e,_,p,hp,ep⟩:=hT.ord;rw[ho]at e;injection e with e
   rw[<-e]at hp;rw[<-ABr]at hany;exact(hany (AA5.2 ⟨_,TL.2 ⟨p,hp,rfl⟩,AAX.2 ep⟩)).elim
  |true=>
   obtain⟨y,hy,ey⟩:=AA5.1 hany;obtain⟨p,hp,ep⟩:=TL.1 hy;have hord:∃o,P0 l t.1=some o/\o.2.2.2.2=1/\∃p∈o.2.2.2.1,p.1=t.2.1:=⟨_,ho,hst,p,hp,ep.trans (AAX.1 ey)⟩;have hpod:∃q,X3 a t.2.1=some q:=Yw ⟨_,ABR hj,ej⟩;rw[ABX,ABS];by_cases h1:t.2.2.2=1
   ·rw[show(t.2.2.2==1)=true from AAX.2 h1,ABQ];exact⟨true,rfl,λ_=>⟨hord,hpod,λe=>(e h1).elim⟩,λ_=>rfl⟩
   ·rw[show(t.2.2.2==1)=false from ABW.2 h1,ABS,fI];rcases Uv crew J t.2.2.1 n hn with⟨e1,hno⟩|⟨k,hk,ek,e1⟩
    ·rw[e1];refine⟨false,rfl,(λe=>by cases e),λhT=>?_⟩;obtain⟨r,q1,_⟩:=hT.fH h1;exact(hno r (Pk q1).1 (Pk q1).2).elim
    ·have hro:=Xh hc.ids hk;rw[ek]at hro;rw[e1,ABP,show decide ((k:Int)>=0)=true by grind,ABQ];simp only[O3 hk,ABP,SE w h c ha hb.bk hsm crew ts st ou nw t ⟨o,ho⟩ hpod n hn]
     have hT:T5 a l crew t↔crew[k].2.2.1=Sz a l t/\crew[k].2.2.2.1=decide (2<t.2.2.2):=by
      constructor
      ·intro hT;obtain⟨r,q1,q2,q3⟩:=hT.fH h1;grind
      ·rintro ⟨q2,q3⟩
       exact⟨hord,hpod,λ_=>⟨_,hro,q2,q3⟩⟩
     rw[hT];by_cases hgo:crew[k].2.2.1=Sz a l t
     ·rw[show(crew[k].2.2.1==Sz a l t)=true from AAX.2 hgo,ABQ];exact⟨crew[k].2.2.2.1==decide (2<t.2.2.2),rfl,λq=>⟨hgo,AAX.1 q⟩,λq=>AAX.2 q.2⟩
     ·rw[show(crew[k].2.2.1==Sz a l t)=false from ABW.2 hgo];exact⟨false,rfl,(λe=>by cases e),λhh=>(hgo hh.1).elim⟩
theorem Xp(l:By)(hl:l.length<=1048576)(n:Nat)(hn:PE<=n):∃b,TQ n l=some b/\(b=true↔TZ l):=by
 unfold TQ;by_cases h51:l.length=51
 case neg=>
  rw[show(((l.length:Nat):Int) != 51)=true from AB5.2 J];exact⟨false,rfl,(λe=>by cases e),λq=>(h51 q.1).elim⟩
 have h0:0<l.length:=J
 rw[show(((l.length:Nat):Int) != 51)=false by rw[h51];rfl,ABS,show(0:Int)=((0:Nat):Int)from rfl,O3 h0,ABP,ABP];by_cases hz:l[0]=0
 case neg=>
  rw[show(l[0] != ((0:Nat):Int))=true from AB5.2 hz];refine⟨false,rfl,(λe=>by cases e),λq=>?_⟩;have:=q.2.2;grind
 rw[show(l[0] != ((0:Nat):Int))=false by rw[hz];rfl,ABS]
 have h1:=RZ (S3 l) l (λx=>P5 x 0 1000000) (λi x hi hx=>by
  have hx2:l[i]=x:=by rw[AAM hi]at hx;exact Option.some.inj hx
  unfold S3;rw[show decide ((i:Int)<(l.length:Int))=true by rw[AAj];omega,ABQ,O3 hi,ABP,hx2,QO,ABP,O1 hi (show l.length<=9223372036854775807 by omega)];grind) (by unfold S3;simp) n ADU
 rw[show((0:Nat):Int)=0 from rfl,h1];refine⟨l.all λx=>P5 x 0 1000000,No,?_⟩;rw[AAZ];constructor
 ·intro q;exact⟨h51,λx hx=>Tk.1 (q x hx),No⟩
 ·intro q x hx;exact Tk.2 (q.2.1 x hx)
theorem Tn(w h:Int)(c:By)(hc:c.length<=1048576)(a:Is)(ha:Pb a)(nx:Int)(l:ADP)(hl:BG nx l)(crew:ADQ)(hcr:crew.length<=1048576)(ts:AAL)(hts:ts.length<=1048576)(st ou:By)(hst:st.length<=1048576)(hou:ou.length<=1048576)(nw:Int)(n:Nat)(hn:PE<=n):
  ∃b,SU n w h c a nx l crew ts st ou nw=some b/\(b=true↔rP w h c a nx l crew ts st ou nw):=by
 obtain⟨k1,f1,i1⟩:=Xp st hst n hn;obtain⟨k2,f2,i2⟩:=Xp ou hou n hn;unfold SU;rw[Pr w h c hc n hn,P2 a ha n hn,hl.spec n hn,Xk w h c hc crew hcr n hn,ZC ts hts n hn,f1,f2];simp only[ABP,QO];have no:∀ {P:Prop},¬P->∃b,(some false:Option Bool)=some b/\(b=true↔P):=λhp=>⟨false,rfl,(λe=>by cases e),λq=>(hp q).elim⟩;cases e1:PW w h c with
 |false=>exact no λd=>by rw[d.fl]at e1;cases e1
 |true=>
 cases e2:Pq a with
 |false=>exact no λd=>by rw[Pp.2 d.xQ]at e2;cases e2
 |true=>
 cases e4:Sx w h c crew with
 |false=>exact no λd=>by rw[Uq.2 ⟨d.fl,d.cw⟩]at e4;cases e4
 |true=>
 cases e5:Rv ts with
 |false=>exact no λd=>by rw[We.2 d.Vg]at e5;cases e5
 |true=>
 cases e6:k1 with
 |false=>exact no λd=>by rw[i1.2 d.c1]at e6;cases e6
 |true=>
 cases e7:k2 with
 |false=>exact no λd=>by rw[i2.2 d.c2]at e7;cases e7
 |true=>
 cases e8:P5 nw 0 1000000 with
 |false=>exact no λd=>by rw[Tk.2 d.now]at e8;cases e8
 |true=>
 have hS:=Pp.1 e2;have hC:=(Uq.1 e4).2;have hT:=We.1 e5;have hgood:=(QL.1 hT).2.1;simp only[ABX,ABS,ABP]
 let val:Nat->Bool:=λi=>match ts[i]? with
  |some t=>(Ts n w h c a nx l crew ts st ou nw t.1 t.2.1 t.2.2.1 t.2.2.2).getD false
  |none=>false
 have hval:∀i (hi:i<ts.length),Ts n w h c a nx l crew ts st ou nw ts[i].1 ts[i].2.1 ts[i].2.2.1 ts[i].2.2.2=some (val i)/\(val i=true↔T5 a l crew ts[i]):=λi hi=>by obtain⟨b,e,ib⟩:=cQ w h c hS hl hC ts st ou nw (hgood _ (ABR hi)) n hn;grind
 have h1:=QY (UZ n w h c a nx l crew ts st ou nw) (λk=>(k:Int)) ts.length val (λi hi=>by
  unfold UZ;rw[show decide ((i:Int)<(ts.length:Int))=true by rw[AAj];clear hn;omega,ABQ,O3 hi,ABP,(hval i hi).1,ABP,O1 hi (show ts.length<=9223372036854775807 by clear hn;omega)];grind) (by unfold UZ;simp) n ADU
 rw[show((0:Nat):Int)=0 from rfl]at h1;rw[h1];refine⟨(List.range ts.length).all val,No,?_⟩;rw[AAZ];constructor
 ·intro q;refine⟨e1,hS,hl.bk,hC,hT,i1.1 e6,i2.1 e7,Tk.1 e8,λt ht=>?_⟩;obtain⟨i,hi,rfl⟩:=ABU.1 ht;grind
 ·intro d i hi;have hi:=AAb.1 hi;exact(hval i hi).2.2 (d.tk _ (ABR hi))
structure DZ(c:By)(a:Is)(crew:ADQ)(ts:AAL)(st ou:By):Prop where
 c1:c.length<=1048576
 a1:Pb a
 r1:crew.length<=1000000
 t1:ts.length<=1000000
 s1:st.length<=1000000
 o1:ou.length<=1000000
theorem DI.z{w h:Int}{c:By}{a:Is}{nx:Int}{l:ADP}{crew:ADQ}{ts:AAL}(d:DI w h c a nx l crew ts){st ou:By}(h1:TZ st)(h2:TZ ou):DZ c a crew ts st ou:=by have q1:=(Tz d.fl).le;have q2:=d.cw.n20;have q3:=(QL.1 d.Vg).1;have q4:=h1.1;have q5:=h2.1;exact⟨J,d.st.sm,J,J,J,J⟩
theorem Wm(w h:Int){c:By}{a:Is}{nx:Int}{l:ADP}(hl:QT (nx,l)){crew:ADQ}{ts:AAL}{st ou:By}(z:DZ c a crew ts st ou)(nw:Int)(n:Nat)(hn:PE<=n):Tr n w h c a nx l crew ts st ou nw=some (w,h,c,a,nx,l,crew,ts,st,ou,nw):=by obtain⟨c1,a1,r1,t1,s1,o1⟩:=z;unfold Tr;rw[Zg w h c c1,ABP,PQ a a1 n hn,ABP,Sh nx l hl n hn,ABP,Um No,Um No,Um No,Um No];rfl
theorem Xy(w h:Int){c:By}{a:Is}{nx:Int}{l:ADP}(hl:QT (nx,l)){crew:ADQ}{ts:AAL}{st ou:By}(z:DZ c a crew ts st ou)(nw:Int)(n:Nat)(hn:PE<=n):RF n w h c a nx l crew ts st ou nw=some (w,h,c,a,nx,l,crew,ts,st,ou,nw):=by obtain⟨c1,a1,r1,t1,s1,o1⟩:=z;unfold RF Qm QS Sr;rw[ai w h c c1,ABP,Pn a a1 n hn,ABP,Th nx l hl n hn,ABP,Um J,Um J,Um J,Um J];rfl
theorem dQ(w h:Int)(c:By)(hl:c.length<=1048576)(hf:PW w h c=true)(i:Int)(n:Nat)(hn:PE<=n):X7 n w h c i=some (bif P5 i 0 ((c.length:Int)-1)then c.getD i.toNat 0 else 0):=by
 unfold X7 TS;rw[Pr w h c hl n hn,hf,show O5 ((c.length:Int)-1)=(c.length:Int)-1 from PA J J];simp only[QO,ABP,ABX,ABS,ABQ];cases hb:P5 i 0 ((c.length:Int)-1)with
 |false=>rfl
 |true=>
  obtain⟨m,rfl,hm⟩:=ZS hb;simp[O3 hm,hm]
theorem mb{c:By}{i:Int}(h:(bif P5 i 0 ((c.length:Int)-1)then c.getD i.toNat 0 else 0)=3):QN c i=true:=by unfold QN;grind
theorem BG.opened{nx:Int}{l:ADP}(h:BG nx l):BG nx (Q6 l):=by
 have hm:∀o∈Q6 l,o∈l:=λo ho=>by unfold Q6 at ho;grind
 obtain⟨b1,b2,b3,b4⟩:=h.bk;exact⟨⟨b1,by unfold Q6;grind,by unfold Q6;grind,λo ho=>b4 o (hm o ho)⟩,λo ho=>h.LG o (hm o ho),λo ho=>h.dN o (hm o ho)⟩
theorem fP{nx:Int}{l:ADP}(h:BG nx l)(n:Nat)(hn:PE<=n):Xn n nx l=some (nx,Q6 l):=by
 have hlen:=h.bk.2.1;have hsm:=h.sm;unfold Xn;rw[h.spec n hn,ABP]
 have hc:=PV (σ:=ADP) (WH l) (λi s=>((i:Int),nx,s)) l (λr s=>((l.length:Int),nx,s++Q6 r)) (λi s=>s.length<=i)
  (λs hs=>by simp[WH,Q6]) (λi y r s h1 h2 h3 h4 h5=>by
   left;have hy:l[i]=y:=by rw[AAM h1]at h2;exact Option.some.inj h2
   unfold WH;dsimp only;rw[show decide ((i:Int)<(l.length:Int))=true by simpa using h1,ABQ,O3 h1,hy,ABP,O1 h1 J];cases hq:(y.2.2.2.2==1)with
   |true=>
    have hyo:a7 y:=hsm.2 y (by rw[<-hy];exact ABR h1)
    have hcp:P6 y.1 y.2.1 y.2.2.1 y.2.2.2.1 y.2.2.2.2=some y:=by have q1:=hyo.1;have q2:=hyo.2;unfold P6;rw[Um (by simp;unfold kE at q1;clear hn;omega),Um (by simp;unfold kF at q2;clear hn;omega)];rfl
    rw[ABQ,ABP,hcp,ABP];have hr:decide (s.length+1<=E7)=true:=Rr J;simp only[ABY,hr,ABQ,ABP];exact⟨s++[y],rfl,by rw[ABC,ABY];omega,by simp[Q6,hq]⟩
   |false=>
    rw[ABS,ABP];exact⟨s,rfl,J,by simp[Q6,hq]⟩)
  n ADU [] AAA
 grind
theorem BG.impl{nx:Int}{l:ADP}(h:BG nx l)(n:Nat)(hn:PE<=n):Q4 n nx l=some true:=by obtain⟨b,e,ib⟩:=Wk h.sm n hn;rw[e,ib.2 h.bk]
theorem eO{nx:Int}{l:ADP}(h:BG nx l)(n:Nat)(hn:PE<=n):Yn n nx l=some (nx,Q6 l):=by
 have hlen:=h.bk.2.1;have hsm:=h.sm;unfold Yn;rw[h.impl n hn,ABP]
 have hc:=PV (σ:=ADP) (V4 l) (λi s=>((i:Int),nx,s)) l (λr s=>((l.length:Int),nx,s++Q6 r)) (λi s=>s.length<=i)
  (λs hs=>by simp[V4,Q6]) (λi y r s h1 h2 h3 h4 h5=>by
   left;have hy:l[i]=y:=by rw[AAM h1]at h2;exact Option.some.inj h2
   unfold V4;dsimp only;rw[show decide ((i:Int)<(l.length:Int))=true by simpa using h1,ABQ,O3 h1,hy,ABP,O1 h1 J];cases hq:(y.2.2.2.2==1)with
   |true=>
    rw[ABQ,S0 y (hsm.2 y (by rw[<-hy];exact ABR h1)),ABP];have hr:decide (s.length+1<=E7)=true:=Rr J;simp only[ABY,hr,ABQ,ABP];exact⟨s++[y],rfl,by rw[ABC,ABY];omega,by simp[Q6,hq]⟩
   |false=>
    rw[ABS,ABP];exact⟨s,rfl,J,by simp[Q6,hq]⟩)
  n ADU [] AAA
 grind
theorem fM(s:Is)(hs:Pb s){nx:Int}{l:ADP}(hb:BG nx l)(h30:l.length=30)(desk:Int)(it:ADR)(n:Nat)(hn:PE<=n):TM n s nx l desk it=some (s,nx,l,0):=by unfold TM;rw[Sh nx l hb.sm n hn,ABP,P2 s hs n hn,hb.spec n hn];simp only[ABP,QO,PQ s hs n hn];grind
theorem eL(s:Is)(hs:Pb s){nx:Int}{l:ADP}(hb:BG nx l)(h30:l.length=30)(desk:Int)(it:ADR)(hit:it.length<=1000)(n:Nat)(hn:PE<=n):Us n s nx l desk it=some (s,nx,l,0):=by unfold Us;rw[QH s hs n hn,hb.impl n hn];simp only[ABP,Ut,QO,Pn s hs n hn,Th nx l hb.sm n hn,Ry it (show it.length<=1048576 by clear hn;omega) n hn];grind
theorem YW(nx:Int){l:ADP}(hsm:QT (nx,l))(hp:l.Pairwise λa b=>a.1<b.1){i:Nat}(hi:i<l.length)(n:Nat)(hn:PE<=n):Qx n nx l l[i].1=some (l[i].1,l[i].2.1,l[i].2.2.1,l[i].2.2.2.1,l[i].2.2.2.2,true):=by unfold Qx;rw[X2 nx l hsm.1 hp i hi n hn,ABP,show decide ((i:Int)<0)=false by grind,ABS,O3 hi,ABP,S0 l[i] (hsm.2 _ (ABR hi)),ABP]
def nj(w h:Int)(c:By)(a:Is)(nx:Int)(l:ADP)(crew:ADQ)(ts:AAL)(st ou:By)(nw desk:Int)(it:ADR)(r:Int×Int×By×Is×Int×ADP×ADQ×AAL×By×By×Int×Int):Prop:=
 r=(w,h,c,a,nx,l,crew,ts,st,ou,nw,0)\/∃o l',(l'=l\/l'=Q6 l)/\l'.length<=29/\rP w h c a nx l crew ts st ou nw/\cY a nx l' desk it o/\QN c desk=true/\(bif P5 desk 0 ((c.length:Int)-1)then c.getD desk.toNat 0 else 0)=3/\ts.length+(RM o).length<=60/\
  r=(w,h,c,Pj a (tp o),nx+1,l'++[(nx,desk,it,o,1)],crew,ts++(RM o).map (λx=>(nx,x,(0:Int),(1:Int))),st,ou,nw,nx)
theorem mO(w h:Int){c:By}{a:Is}{nx:Int}{l:ADP}(hb:BG nx l){crew:ADQ}{ts:AAL}{st ou:By}(z:DZ c a crew ts st ou)(nw desk:Int)(it:ADR)(hit:it.length<=1000)(n:Nat)(hn:PE<=n):
  ∃r,Zv n w h c a nx l crew ts st ou nw desk it=some r/\gv n w h c a nx l crew ts st ou nw desk it=some r/\nj w h c a nx l crew ts st ou nw desk it r:=by
 obtain⟨b1,e1,i1⟩:=Tn w h c z.c1 a z.a1 nx l hb crew (by have:=z.r1;omega) ts (by have:=z.t1;omega) st ou (by have:=z.s1;omega) (by have:=z.o1;omega) nw n hn;obtain⟨b2,e2,i2⟩:=YT w h c z.c1 a z.a1 nx l hb.sm crew (by have:=z.r1;omega) ts (by have:=z.t1;omega) st ou (by have:=z.s1;omega) (by have:=z.o1;omega) nw n hn;have hbb:b1=b2:=No
 subst hbb;have hl30:=hb.bk.2.1;unfold Zv gv;rw[Wm w h hb.sm z nw n hn,Xy w h hb.sm z nw n hn,ABP,ABP,e1,e2];dsimp only;have YJ:∃r,(some (w,h,c,a,nx,l,crew,ts,st,ou,nw,(0:Int)):Option (Int×Int×By×Is×Int×ADP×ADQ×AAL×By×By×Int×Int))=some r/\(some (w,h,c,a,nx,l,crew,ts,st,ou,nw,(0:Int)):Option (Int×Int×By×Is×Int×ADP×ADQ×AAL×By×By×Int×Int))=some r/\nj w h c a nx l crew ts st ou nw desk it r:=⟨_,rfl,rfl,.inl rfl⟩;cases b1 with
 |false=>exact YJ
 |true=>
 have D:=i1.1 rfl;simp only[ABP,ABX,ABS];rw[dQ w h c z.c1 D.fl desk n hn,dH w h c z.c1 D.fl desk n hn,ABP,ABP];generalize hk:(bif P5 desk 0 ((c.length:Int)-1)then c.getD desk.toNat 0 else 0)=kd;by_cases h3:kd=3
 case neg=>
  grind
 rw[show(kd != 3)=false by rw[h3];rfl];simp only[ABP,ABS]
 obtain⟨l',hl',zr,hsw1,hsw2⟩:∃l',(l'=l\/l'=Q6 l)/\BG nx l'/\(bif((l.length:Int)==30)then(Xn n nx l).bind λx6=>some (x6.1,x6.2)else some (nx,l))=some (nx,l')/\(bif decide ((l.length:Int)>=30)then(Yn n nx l).bind λx6=>some (x6.1,x6.2)else some (nx,l))=some (nx,l'):=by
  by_cases h30:l.length=30
  ·refine⟨Q6 l,.inr rfl,hb.opened,?_,?_⟩
   ·rw[show((l.length:Int)==30)=true by rw[AAX];clear hn;omega,ABQ,fP hb n hn];rfl
   ·rw[show decide ((l.length:Int)>=30)=true by rw[AAj];clear hn;omega,ABQ,eO hb n hn];rfl
  grind
 rw[hsw1,hsw2,ABP,ABP];dsimp only;by_cases h29:l'.length<=29
 case neg=>
  have h30:l'.length=30:=by have:=zr.bk.2.1;clear hn;omega
  rw[fM a z.a1 zr h30 desk it n hn,eL a z.a1 zr h30 desk it hit n hn];exact YJ
 have hq:rO nx l':=⟨zr.sm,h29,zr.LG,λ_=>zr.dN⟩;obtain⟨r,a1,a2,a3⟩:=jS a z.a1 hq desk it hit n hn;rw[a1,a2,ABP,ABP];rcases a3 with rfl|⟨o,T,rfl⟩
 ·exact YJ
 unfold uW;dsimp only;have hnx:=T.bk.1;have zj:=T.lt;have hbk:=T.book h29;have h72:=T.dN;have h6:=T.im.2.2;have hsm2:QT (nx+1,l'++[(nx,desk,it,o,1)]):=kG zr.sm J (nx,desk,it,o,1) J No;have hli:l'.length<(l'++[(nx,desk,it,o,1)]).length:=by rw[ABC,ABY];exact Nat.lt_succ_self _
 have zw:(l'++[((nx,desk,it,o,1):PS)])[l'.length]?=some (nx,desk,it,o,1):=by rw[ABK (AAh _),ACR];rfl
 have hgetE:(l'++[((nx,desk,it,o,1):PS)])[l'.length]=(nx,desk,it,o,1):=by rw[AAM hli]at zw;exact Option.some.inj zw
 have hoo:=YW (nx+1) hsm2 hbk.2.2.1 hli n hn;rw[hgetE]at hoo;dsimp only at hoo;have hw:O5 (((l'++[((nx,desk,it,o,1):PS)]).length:Int)-1)=(l'.length:Int):=by rw[ABC,ABY,PA J J];clear hn;omega
 have hpo:o.length<=1048576:=ADS
 have t1:=dT (nx,desk,it,o,1) hpo n hn;have t2:=dJ (nx,desk,it,o,1) hpo n hn;dsimp only at t1 t2
 have hpl:(RM o).length<=72:=by have:=Yb o [];unfold RM;simp only[List.length_nil]at this;clear hn;omega
 have h60:=(QL.1 D.Vg).1;rw[show(nx==0)=false by grind,ABS,ABS,hw,O6 hli,ABQ,ABT,zw];simp only[ABP,hoo,t1,t2];rw[ABl,PA (n:=(ts.length:Int)+((RM o).length:Int)) J J];by_cases hle:ts.length+(RM o).length<=60
 case neg=>
  grind
 rw[show decide ((ts.length:Int)+((RM o).length:Int)>60)=false by grind,ABS,Um J];exact⟨_,rfl,rfl,.inr ⟨o,l',hl',h29,D,T,mb (hk.trans h3),hk.trans h3,hle,rfl⟩⟩
theorem dF{nx:Int}{l:ADP}(h:BG nx l)(id:Int)(n:Nat)(hn:PE<=n):∃b,Xw n nx l id=some (nx,(bif P1 l id then QA l id 2 else l),b):=by
 have hsm:=h.sm;unfold Xw ZR;rw[Th nx l hsm n hn,ABP,h.impl n hn,Xc];cases ho:P0 l id with
 |none=>
  have hm:∀x∈l,x.1≠id:=λx hx e=>ADy
  have hf:=VN nx l hsm.1 id hm n hn;rw[Xc]at hf;have hio:P1 l id=false:=by unfold P1;rw[ho]
  rw[hf,hio];exact⟨false,rfl⟩
 |some o=>
  obtain⟨i,hi,e1,e2,ef⟩:=Za h.bk hsm ho n hn;have hio:P1 l id=(o.2.2.2.2==1):=by unfold P1;rw[ho]
  rw[ef,hio];simp only[ABP,ABX,ABS,show decide ((i:Int)<0)=false by grind,O3 hi,e1];cases hs:(o.2.2.2.2==1)with
  |false=>
   rw[show(o.2.2.2.2 != 1)=true by simp only[bne,hs];rfl];exact⟨false,rfl⟩
  |true=>
   rw[show(o.2.2.2.2 != 1)=false by simp only[bne,hs];rfl,ABS,O6 hi,ABQ,ABT,bz h.bk.2.2.1 hi,e1,e2];exact⟨true,rfl⟩
theorem iT(ps:OF)(hl:ps.length<=1048576)(hp:∀p∈ps,(1<=p.2.1/\p.2.1<=50)/\(1<=p.2.2/\p.2.2<=1000))(w h:Int)(c:By)(a:Is)(nx:Int)(l:ADP)(crew:ADQ)(ts:AAL)(st:By)(nw:Int){ou:By}{B:Int}(hB:0<=B/\B<=1000000000000)(hou:OB B ou)(n:Nat)(hn:PE<=n):
  iter n (Qe ps) (0,w,h,c,a,nx,l,crew,ts,st,ou,nw)=some ((ps.length:Int),w,h,c,a,nx,l,crew,ts,st,fC ou ps,nw):=by
 refine PV (σ:=By) (Qe ps) (λi s=>((i:Int),w,h,c,a,nx,l,crew,ts,st,s,nw)) ps (λr s=>((ps.length:Int),w,h,c,a,nx,l,crew,ts,st,fC s r,nw)) (λi s=>OB (B+1000*(i:Int)) s) (λs _=>?_) (λi p r s hi hx _ _ hs=>?_) n ADU ou (by simpa using hou)
 ·unfold Qe;dsimp only;rw[show decide ((ps.length:Int)<(ps.length:Int))=false by rw[AAr];omega];rfl
 ·left;have hpe:ps[i]=p:=by rw[AAM hi]at hx;exact Option.some.inj hx
  obtain⟨⟨s1,s2⟩,n1,n2⟩:=hp p (by rw[<-hpe];exact ABR hi);have hk:p.2.1.toNat<s.length:=by rw[hs.1];clear hn;omega
  have zg:ON s p.2.1=true:=eU ⟨J,J⟩;have zw:s[p.2.1.toNat]?=some (s.getD p.2.1.toNat 0):=by rw[AAM hk];simp[hk]
  have hb:=hs.getD ADS p.2.1.toNat;refine⟨s.set p.2.1.toNat (s.getD p.2.1.toNat 0+p.2.2),?_,hs.set ADS _ ⟨ADS,ADS⟩,rfl⟩;unfold Qe;dsimp only;rw[show decide ((i:Int)<(ps.length:Int))=true by rw[AAj];clear hn;omega];simp only[ABQ,ABP,O6 hi,ABT,hx,zg,zw,Pz,O1 hi (show ps.length<=9223372036854775807 by clear hn;omega)];rw[PA (n:=s.getD p.2.1.toNat 0+p.2.2) ADS ADS]
theorem jX(w h:Int)(c:By){a:Is}(ha:PF a){nx:Int}{l:ADP}(hb:BG nx l){t:PH}(hord:∃o,P0 l t.1=some o)(crew:ADQ)(ts:AAL)(st:By){ou:By}{B:Int}(hB:0<=B/\B<=1000000000000)(hou:OB B ou)(nw:Int)(n:Nat)(hn:PE<=n):
  SN n w h c a nx l crew ts st ou nw t.1 t.2.1 t.2.2.1 t.2.2.2=some (w,h,c,(Qc UM a (O8 l t)).1,nx,l,crew,ts,st,(bif(Qc UM a (O8 l t)).2 then fC ou (O8 l t)else ou),nw):=by
 have hsm:=hb.sm;obtain⟨o,ho⟩:=hord;obtain⟨i,hi,e1,e2,_⟩:=Za hb.bk hsm ho n hn
 have hoo:Qx n nx l t.1=some (o.1,o.2.1,o.2.2.1,o.2.2.2.1,o.2.2.2.2,true):=by have:=YW nx hsm hb.bk.2.2.1 hi n hn;rw[e1,e2]at this;rw[this,<-e2]
 have hpl:o.2.2.2.1.length<=1048576:=(hsm.2 o (QB ho).1).2;have hpk:O8 l t=o.2.2.2.1.filter λp=>p.1==t.2.1:=by unfold O8;rw[ho]
 have hpl2:=b8 hsm t;unfold SN;rw[hoo,ABP];dsimp only;rw[Y7 o hpl t.2.1 n hn,ABP,<-hpk,bc a ha.sm (O8 l t) hpl2 n hn,ABP];have hloop:=iT (O8 l t) hpl2 (au hb.bk t) w h c (Qc UM a (O8 l t)).1 nx l crew ts st nw hB hou n hn;rw[hloop]
 have hno:(Qc UM a (O8 l t)).2=false->(Qc UM a (O8 l t)).1=a:=λe=>by
  unfold Qc at e ⊢;cases hq:Vk UM (O8 l t) a with
  |some s=>rw[hq]at e;cases e
  |none=>rfl
 cases hq:(Qc UM a (O8 l t)).2 with
 |true=>rfl
 |false=>rw[hno hq];rfl
theorem mT(w h:Int)(c:By)(a:Is){nx:Int}{l:ADP}(hb:BG nx l)(crew:ADQ)(x:AAL)(t:PH)(y:AAL)(hlen:(x++t::y).length<=1000000)(st ou:By)(nw:Int)(n:Nat)(hn:PE<=n):
  Tc n w h c a nx l crew (x++t::y) st ou nw (x.length:Int)=some (w,h,c,a,nx,(bif((x++y).any λu=>u.1==t.1) || !P1 l t.1 then l else QA l t.1 2),crew,x++y,st,ou,nw):=by
 have hxl:x.length<(x++t::y).length:=AAA
 have hx:(x++t::y)[x.length]?=some t:=AAA
 have q1:sub (x++t::y) 0 x.length=x:=by unfold sub;simp
 have hwx:O5 ((x.length:Int)+1)=((x.length+1:Nat):Int):=O1 hxl (show _<=9223372036854775807 by clear hn;omega)
 have q2:sub (x++t::y) (x.length+1) (x++t::y).length=y:=by
  unfold sub;rw[List.drop_append,List.drop_eq_nil_of_le J,AA1,show x.length+1-x.length=1 by omega,List.drop_one,List.tail_cons,ABx ADY]
 have hlen2:x.length+y.length+1<=1000000:=by simp at hlen;clear hn;omega
 have hcp:QS x=some x:=by unfold QS;rw[show decide (x.length<=E7)=true from Um ADS];rfl
 have d2:decide (x.length+y.length<=E7)=true:=Um ADS;unfold Tc;simp only[O6 hxl,ABQ,ABT,ACT,hx,ABP,q1,hcp,hwx,q2,d2];rw[show(decide ((0:Int)<=0)&&decide ((0:Int)<=(x.length:Int))&&decide ((x.length:Int)<=((x++t::y).length:Int)))=true by simp;omega];rw[show(decide ((0:Int)<=((x.length+1:Nat):Int))&&decide (((x.length+1:Nat):Int)<=((x++t::y).length:Int))&&decide (((x++t::y).length:Int)<=((x++t::y).length:Int)))=true by simp;omega];simp only[ABQ]
 have hloop:=PV (σ:=Unit) (Rs w h c a nx l crew (x++t::y) st ou nw (x.length:Int) t x) (λi _=>(i:Int)) (x++y) (λr _=>bif r.any (λu=>u.1==t.1)then .inr (w,h,c,a,nx,l,crew,x++y,st,ou,nw)else .inl ((x++y).length:Int)) (λ_ _=>True)
  (λs _=>by
   unfold Rs;simp only[hwx,ABT,q2];rw[show decide (((x++y).length:Int)<((x++y).length:Int))=false by rw[AAr];omega];rfl)
  (λi u r s hi hu _ _ _=>by
   have hui:(x++y)[i]?=some u:=hu;have hwi:O5 ((i:Int)+1)=((i+1:Nat):Int):=O1 hi (show(x++y).length<=9223372036854775807 by simp;clear hn;omega);unfold Rs;simp only[hwx,ABT,q2];rw[show decide ((i:Int)<((x++y).length:Int))=true by rw[AAj];clear hn;omega];simp only[ABQ,O6 hi,hui,ABP,hwi];cases hq:(u.1==t.1)with
   |true=>right;simp[hq]
   |false=>left;exact⟨(),rfl,trivial,by simp[hq]⟩) n (by simp;unfold PE at hn;omega) () trivial
 rw[show((0:Nat):Int)=0 from rfl]at hloop;rw[hloop,ABP];cases hq:(x++y).any λu=>u.1==t.1 with
 |true=>rfl
 |false=>
  obtain⟨b,hf⟩:=dF hb t.1 n hn;dsimp only[cond_false];rw[hf];cases P1 l t.1<;>rfl
theorem n9(w h:Int)(c:By){a:Is}{nx:Int}{l:ADP}{crew:ADQ}{x y:AAL}{t:PH}(d:DK a nx l crew (x++t::y))(hb:BG nx l)(ht:t.2.2.2≠1)(st:By){ou:By}{B:Int}(hB:0<=B/\B<=1000000000000)(hou:OB B ou)(nw:Int)(n:Nat)(hn:PE<=n):
  RN n w h c a nx l crew (x++t::y) st ou nw (x.length:Int)=some ((PN a ou l crew t).2.2.2.isNone,w,h,c,(PN a ou l crew t).1,nx,
   (match(PN a ou l crew t).2.2.2 with|some _=>l|none=>bif((x++y).any λu=>u.1==t.1) || !P1 l t.1 then l else QA l t.1 2),(PN a ou l crew t).2.2.1,x++(Xf (PN a ou l crew t).2.2.2++y),st,nX a ou l t,nw):=by
 have hsm:=hb.sm;have hT:=d.tk t (AAV _ AAo);obtain⟨o,ho,_,_⟩:=hT.ord;obtain⟨r,hr,_,_⟩:=hT.fH ht;have hcl:=d.n20;have h60:=(QL.1 d.Vg).1;have hpod:=hT.PB;rcases Uv crew J t.2.2.1 n hn with⟨_,hno⟩|⟨k,hk,ek,ev⟩
 ·exact(hno r (Pk hr).1 (Pk hr).2).elim
 have hxl:x.length<(x++t::y).length:=AAA
 have hx:(x++t::y)[x.length]?=some t:=AAA
 have hxm:∀(f:PH->PH),(x++t::y).modify x.length f=x++f t::y:=λf=>by rw[List.modify_eq_take_cons_drop hxl];simp
 have hxm2:∀(u:PH),(x++u::y)[x.length]?=some u:=λu=>AAA
 have cm:∀f:PR->PR,crew.modify k f=Vf crew t.2.2.1 f:=λf=>by rw[<-ek];exact jZ d.ids hk f
 unfold RN;rw[O6 hxl];simp only[ABQ,ABT,hx,ABP,ev,O6 hk];unfold PN nX;by_cases h2:t.2.2.2=2
 ·have hg:=SE w h c d.sk d.bk hsm (List.modify (List.modify crew k (λ(y:Oz)=>(y.1,y.2.1,y.2.2.1,y.2.2.2.1,0))) k (λ(y:Oz)=>(y.1,y.2.1,y.2.2.1,true,y.2.2.2.2))) (x++RK t 3::y) st ou nw (RK t 3) ⟨o,ho⟩ hpod n hn;rw[AAS h2,AAS h2,show(t.2.2.2==2)=true from AAX.2 h2,ABQ];rw[hxm,hxm2,ABP,ZP];rw[show QV n w h c a nx l _ (x++(t.1,t.2.1,t.2.2.1,(3:Int))::y) st ou nw t.1 t.2.1 t.2.2.1 3=_ from hg,ABP];rw[mod_mod,mod_mod,cm];rfl
 ·rw[AAT h2,AAT h2,show(t.2.2.2==2)=false from ABW.2 h2,ABS];by_cases h3:t.2.2.2=3
  ·rw[AAS h3,AAS h3,show(t.2.2.2==3)=true from AAX.2 h3,ABQ];rw[jX w h c d.sk hb ⟨o,ho⟩ _ (x++t::y) st hB hou nw n hn,ABP];dsimp only;obtain⟨g1,g2,_⟩:=Y2 d.sk (O8 l t);have hpod2:=(hT.same g2 (k:=l) rfl).PB;have hg:=SE w h c g1 d.bk hsm (List.modify crew k (λ(y:Oz)=>(y.1,y.2.1,y.2.2.1,y.2.2.2.1,0))) (x++RK t 4::y) st (bif(Qc UM a (O8 l t)).2 then fC ou (O8 l t)else ou) nw (RK t 4) ⟨o,ho⟩ hpod2 n hn;rw[hxm,hxm2,ABP,ZP];rw[show QV n w h c _ nx l _ (x++(t.1,t.2.1,t.2.2.1,(4:Int))::y) st _ nw t.1 t.2.1 t.2.2.1 4=_ from hg,ABP];rw[mod_mod,cm];rfl
  ·rw[AAT h3,AAT h3,show(t.2.2.2==3)=false from ABW.2 h3,ABS];rw[mod_mod,mod_mod,cm,mT w h c a hb _ x t y J st ou nw n hn,ABP];rfl
def Wq(th:PH->Bool):AAL->uZ->uZ
 | [],s=>s
 |t::ts,s=>
  if th t=true then
   Wq th ts ((PN s.1 s.2.1 s.2.2.2.2 s.2.2.1 t).1,nX s.1 s.2.1 s.2.2.2.2 t,(PN s.1 s.2.1 s.2.2.2.2 s.2.2.1 t).2.2.1,s.2.2.2.1++Xf (PN s.1 s.2.1 s.2.2.2.2 s.2.2.1 t).2.2.2,match(PN s.1 s.2.1 s.2.2.2.2 s.2.2.1 t).2.2.2 with|some _=>s.2.2.2.2|none=>bif((s.2.2.2.1++ts).any λu=>u.1==t.1) || !P1 s.2.2.2.2 t.1 then s.2.2.2.2 else QA s.2.2.2.2 t.1 2)
  else Wq th ts (s.1,s.2.1,s.2.2.1,s.2.2.2.1++[t],s.2.2.2.2)
theorem bl{α γ:Type}{f:α->Option (α⊕γ)}{x y:α}(h:f x=some (.inl y))(n:Nat):iter (n+1) f x=iter n f y:=by simp[iter,h]
theorem qi{nx:Int}{l:ADP}(hb:BG nx l)(a:Is){ou:By}{B:Int}(hB:0<=B)(h:OB B ou)(t:PH):OB (B+2000000000) (nX a ou l t):=by
 unfold nX;split
 ·exact h.more J
 ·split
  ·cases(Qc UM a (O8 l t)).2 with
   |false=>exact h.more J
   |true=>
    rw[ABQ];have hl:=b8 hb.sm t;exact(l6 (O8 l t) ou B hB (λp hp=>(au hb.bk t p hp).2) h).more J
  ·exact h.more J
theorem Y6(there:By)(hth:there.length<=1048576)(i0:Int)(th:PH->Bool)(w h:Int)(c:By)(nx:Int)(st:By)(nw:Int)(n:Nat)(hn:PE<=n):∀(ts:AAL)(a:Is)(ou:By)(crew:ADQ)(left:AAL)(l:ADP)(B:Int)(m:Nat),DK a nx l crew (left++ts)->BG nx l->0<=B->B+2000000000*(ts.length:Int)<=1000000000000->OB B ou->(∀t∈ts,(there.any λx=>x==t.2.2.1)=th t)->(∀t∈ts,th t=true->t.2.2.2≠1)->ts.length<m->
  ∃k:Int,iter m (RE n (there,i0)) ((left.length:Int),w,h,c,a,nx,l,crew,left++ts,st,ou,nw)=some (k,w,h,c,(Wq th ts (a,ou,crew,left,l)).1,nx,(Wq th ts (a,ou,crew,left,l)).2.2.2.2,(Wq th ts (a,ou,crew,left,l)).2.2.1,(Wq th ts (a,ou,crew,left,l)).2.2.2.1,st,(Wq th ts (a,ou,crew,left,l)).2.1,nw)
 | [],a,ou,crew,left,l,B,m,d,hb,hB,hB2,hou,h1,h2,hm=>by obtain⟨m,rfl⟩:∃k,m=k+1:=⟨m-1,J⟩;refine⟨(left.length:Int),Po ?_ m⟩;unfold RE;rw[ABf];dsimp only;rw[show decide ((left.length:Int)<(left.length:Int))=false by rw[AAr];omega];rfl
 |t::ts,a,ou,crew,left,l,B,m,d,hb,hB,hB2,hou,h1,h2,hm=>by
  obtain⟨m,rfl⟩:∃k,m=k+1:=⟨m-1,J⟩;have h60:=(QL.1 d.Vg).1;have hxl:left.length<(left++t::ts).length:=AAA
  have hx:(left++t::ts)[left.length]?=some t:=AAA
  have hdec:decide ((left.length:Int)<((left++t::ts).length:Int))=true:=by rw[AAj];clear hn;omega
  have hwl:O5 ((left.length:Int)+1)=((left.length+1:Nat):Int):=O1 hxl (show _<=9223372036854775807 by clear hn;omega);have ht1:=h1 t AAo
  have e0:RE n (there,i0) ((left.length:Int),w,h,c,a,nx,l,crew,left++t::ts,st,ou,nw)=(show Option (Bool×Int×Int×By×Is×Int×ADP×ADQ×AAL×By×By×Int)from bif th t then RN n w h c a nx l crew (left++t::ts) st ou nw (left.length:Int)else some (false,w,h,c,a,nx,l,crew,left++t::ts,st,ou,nw)).bind λx=>bif(!x.1)then some (.inl (((left.length+1:Nat):Int),x.2))else some (.inl ((left.length:Int),x.2)):=by
   unfold RE;dsimp only;rw[hdec];simp only[ABQ,O6 hxl,ABT,hx,ABP,Ur,Ps there hth t.2.2.1 n hn,ht1,hwl];cases th t with
   |true=>
    simp only[ABQ];cases RN n w h c a nx l crew (left++t::ts) st ou nw (left.length:Int)<;>rfl
   |false=>rfl
  have h1':∀u∈ts,(there.any λx=>x==u.2.2.1)=th u:=λu hu=>h1 u (AAQ _ hu);have h2':∀u∈ts,th u=true->u.2.2.2≠1:=λu hu=>h2 u (AAQ _ hu);have hB3:B+2000000000+2000000000*(ts.length:Int)<=1000000000000:=by rw[ABF]at hB2;clear hn;omega
  have hm':ts.length<m:=by rw[ABF]at hm;clear hn;omega
  have hap:∀u:PH,(left++[u])++ts=left++u::ts:=λu=>AAA
  have hll:∀u:PH,(((left++[u]).length:Nat):Int)=((left.length+1:Nat):Int):=λu=>AAA
  cases hq:th t with
  |false=>
   rw[hq]at e0;have ih:=Y6 there hth i0 th w h c nx st nw n hn ts a ou crew (left++[t]) l B m (by rw[hap];exact d) hb hB ADS hou h1' h2' hm';rw[hap,hll]at ih;unfold Wq;rw[AAT (by rw[hq];simp),bl e0 m];exact ih
  |true=>
   rw[hq]at e0;have ht:=h2 t AAo hq;have hgo:=n9 w h c d hb ht st ⟨hB,by rw[ABF]at hB2;clear hn;omega⟩ hou nw n hn;have hD:=d.aa ht ou;have hOB:=qi hb a hB hou t;rw[ABQ,hgo,ABP]at e0;unfold Wq;rw[AAS hq];cases hg:(PN a ou l crew t).2.2.2 with
   |some u=>
    rw[hg]at e0 hD;have ih:=Y6 there hth i0 th w h c nx st nw n hn ts (PN a ou l crew t).1 (nX a ou l t) (PN a ou l crew t).2.2.1 (left++[u]) l (B+2000000000) m (by rw[hap];exact hD) hb ADS hB3 hOB h1' h2' hm';rw[hap,hll]at ih;rw[bl e0 m];exact ih
   |none=>
    rw[hg]at e0 hD
    have hD2:DK (PN a ou l crew t).1 nx (bif((left++ts).any λu=>u.1==t.1) || !P1 l t.1 then l else QA l t.1 2) (PN a ou l crew t).2.2.1 (left++ts)/\BG nx (bif((left++ts).any λu=>u.1==t.1) || !P1 l t.1 then l else QA l t.1 2):=by
     cases hc:((left++ts).any λu=>u.1==t.1)with
     |true=>exact⟨hD,hb⟩
     |false=>
      cases P1 l t.1 with
      |false=>exact⟨hD,hb⟩
      |true=>
       refine⟨DK.Dg hD J λu hu e=>?_,hb.Dg _ J⟩;have:=List.any_eq_false.1 hc u hu;exact this (AAX.2 e)
    have ih:=Y6 there hth i0 th w h c nx st nw n hn ts (PN a ou l crew t).1 (nX a ou l t) (PN a ou l crew t).2.2.1 left (bif((left++ts).any λu=>u.1==t.1) || !P1 l t.1 then l else QA l t.1 2) (B+2000000000) m hD2.1 hD2.2 ADS hB3 hOB h1' h2' hm';rw[bl e0 m];dsimp only[Xf];rw[ABf];exact ih
def kT(crew:ADQ)(t:PH):Bool:=match Se crew t.2.2.1 with
 |some r=>r.2.1==r.2.2.1
 |none=>false
theorem nQ(c1:ADQ)(ts:AAL)(hts:ts.length<=1000000)(crew:ADQ)(hcl:crew.length<=20)(hids:crew.Pairwise λr s=>r.1<s.1)(n:Nat)(hn:PE<=n):
  iter n (Qh n (c1,ts) crew) ([],0)=some ((ts.filter (kT crew)).map (·.2.2.1),(ts.length:Int)):=by
 have hc:=PV (σ:=By) (Qh n (c1,ts) crew) (λi s=>(s,(i:Int))) ts (λr s=>(s++(r.filter (kT crew)).map (·.2.2.1),(ts.length:Int))) (λi s=>s.length<=i)
  (λs hs=>by
   unfold Qh;dsimp only;rw[show decide ((ts.length:Int)<(ts.length:Int))=false by rw[AAr];omega];simp)
  (λi t r s hi hx _ _ hs=>by
   left;have hwi:O5 ((i:Int)+1)=((i+1:Nat):Int):=O1 hi (show ts.length<=9223372036854775807 by clear hn;omega);have zo:decide (s.length+[t.2.2.1].length<=E7)=true:=Rr ADS
   have hstep:Qh n (c1,ts) crew (s,(i:Int))=some (.inl ((bif kT crew t then s++[t.2.2.1]else s),((i+1:Nat):Int))):=by
    unfold Qh;dsimp only;rw[show decide ((i:Int)<(ts.length:Int))=true by rw[AAj];clear hn;omega];simp only[ABQ,O6 hi,ABT,hx,ABP,hwi,zo];rcases Uv crew J t.2.2.1 n hn with⟨e,hno⟩|⟨k,hk,ek,ev⟩
    ·have hg:kT crew t=false:=by
      unfold kT;cases hq:Se crew t.2.2.1 with
      |none=>rfl
      |some q=>exact(hno q (Pk hq).1 (Pk hq).2).elim
     rw[e,hg];rfl
    ·have hg:kT crew t=(crew[k].2.1==crew[k].2.2.1):=by unfold kT;rw[<-ek,Xh hids hk]
     rw[ev,hg];simp only[ABP,show decide ((k:Int)>=0)=true by rw[AAj];omega,ABQ,O6 hk,ABT,AAM hk];cases(crew[k].2.1==crew[k].2.2.1)<;>rfl
   refine⟨_,hstep,?_,?_⟩
   ·cases kT crew t
    ·rw[ABS];omega
    ·rw[ABQ,ABC,ABY];omega
   ·cases hg:kT crew t<;>simp[hg])
  n ADU [] AAA
 simpa using hc
theorem o9{crew:ADQ}(hid:∀r∈crew,1<=r.1){ts:AAL}(ht:TP ts):∀t∈ts,(((ts.filter (kT crew)).map (·.2.2.1)).any λx=>x==t.2.2.1)=P8 crew t:=λt hm=>by
 have hgood:=(QL.1 ht).2.1 t hm
 have h1:t.2.2.2=1->kT crew t=false:=λe=>by
  have h0:t.2.2.1=0:=by unfold P7 at hgood;grind
  unfold kT;cases hq:Se crew t.2.2.1 with
  |none=>rfl
  |some r=>have:=hid r (Pk hq).1;have:=(Pk hq).2;omega
 have h2:P8 crew t=kT crew t:=by
  unfold P8;by_cases e:t.2.2.2=1
  ·rw[h1 e,e];rfl
  ·rw[show(t.2.2.2==1)=false from ABW.2 e];rfl
 rw[h2,ABy,AA5];constructor
 ·rintro ⟨x,hx,e⟩
  obtain⟨u,hu,rfl⟩:=AAw.1 hx;have hu2:=(ABb.1 hu).2;have e:u.2.2.1=t.2.2.1:=AAX.1 e;unfold kT at hu2 ⊢;rw[<-e];exact hu2
 ·intro hg;exact⟨t.2.2.1,AAw.2 ⟨t,ABb.2 ⟨hm,hg⟩,rfl⟩,ABu _⟩
theorem gJ{w h:Int}{c:By}{a:Is}{nx:Int}{l:ADP}{crew:ADQ}{ts:AAL}(d:DW w h c a l crew ts)(hb:BG nx l)(st:By){ou:By}(hou:OB 1000000 ou)(nw:Int)(n:Nat)(hn:PE+1000<=n):
  ∃AAI,CW c AAI/\AAI.length=(sendAll a crew ts (PZ w h c a crew ts)).1.length/\(∀k (h1:k<(sendAll a crew ts (PZ w h c a crew ts)).1.length) (h2:k<AAI.length),AAI[k].1=(sendAll a crew ts (PZ w h c a crew ts)).1[k].1/\AAI[k].2.2.1=(sendAll a crew ts (PZ w h c a crew ts)).1[k].2.2.1/\AAI[k].2.2.2.1=(sendAll a crew ts (PZ w h c a crew ts)).1[k].2.2.2.1)/\
   Sb n w h c a nx l crew ts st ou nw=some (w,h,c,(Wq (P8 AAI) (sendAll a crew ts (PZ w h c a crew ts)).2 (a,ou,AAI,[],l)).1,nx,(Wq (P8 AAI) (sendAll a crew ts (PZ w h c a crew ts)).2 (a,ou,AAI,[],l)).2.2.2.2,(Wq (P8 AAI) (sendAll a crew ts (PZ w h c a crew ts)).2 (a,ou,AAI,[],l)).2.2.1,(Wq (P8 AAI) (sendAll a crew ts (PZ w h c a crew ts)).2 (a,ou,AAI,[],l)).2.2.2.1,st,(Wq (P8 AAI) (sendAll a crew ts (PZ w h c a crew ts)).2 (a,ou,AAI,[],l)).2.1,O5 (nw+1)):=by
 have hB:PE<=n:=AA2 (ABz _ _) hn;have hcl:c.length<=1048576:=by have:=(Tz d.fl).le;clear hn hB;omega
 have h20:=d.cw.n20;have h60:=(QL.1 d.Vg).1;have hd:=YP hcl d.fl a crew ts;have ds:=d.fK hd (Tm hd.n1 hd.n2);have e1:=bY hcl d.st.sm (show crew.length<=1048576 by omega) (show ts.length<=1048576 by omega) n hB (w:=w) (h:=h);rw[ja d.fl d.st d.cw d.Vg]at e1;obtain⟨out,a1,_,a3,a4,a5⟩:=jU hcl ds.fl ds.cw n hn;have da:=ds.np a3 a4 a5;have h60s:=(QL.1 da.Vg).1;have hth:=nQ (sendAll a crew ts (PZ w h c a crew ts)).1 (sendAll a crew ts (PZ w h c a crew ts)).2 ADe out a3.n20 a3.ids n hB;have hK:DK a nx l out ([]++(sendAll a crew ts (PZ w h c a crew ts)).2):=⟨da.st,hb.bk,a3.n20,a3.ids,da.Vg,da.tk⟩
 obtain⟨k,hloop⟩:=Y6 (((sendAll a crew ts (PZ w h c a crew ts)).2.filter (kT out)).map (·.2.2.1)) (by
   rw[ABl];have:=ABo (kT out) (sendAll a crew ts (PZ w h c a crew ts)).2
   clear hn hB;omega) ((sendAll a crew ts (PZ w h c a crew ts)).2.length:Int) (P8 out) w h c nx st (O5 (nw+1)) n hB (sendAll a crew ts (PZ w h c a crew ts)).2 a ou out [] l 1000000 n hK hb ADe ADe hou (o9 (λr hr=>(a3.qt r hr).1) da.Vg) (λt _ hg e=>by
    unfold P8 at hg;rw[e]at hg;cases hg) (by unfold PE at hB;omega)
 refine⟨out,a3,a4,a5,?_⟩;unfold Sb;rw[e1,ABP,a1,ABP,hth,ABP];rw[show((([]:AAL).length:Nat):Int)=0 from rfl,AA1]at hloop;rw[hloop,ABP]
theorem fO(a:Is)(hs:Pb a)(PB k m:Int)(n:Nat)(hn:PE<=n):Yz n a PB k m=some (VO a PB k m):=by
 unfold Yz VO;rw[Yt a hs PB k m n hn,ABP];by_cases hc:Pw a PB k m=0
 ·obtain⟨ha,hk,hm,i,hi,e1,e2,e3⟩:=QE hc;have hst:=(ha.2.2 _ (ABR hi)).2.2;obtain⟨b1,b2,b3,b4,b5⟩:=Qj hst k;rw[<-e3]at b1 b2 b3 b4 b5;have h8:=hst.2.2;rw[AAT (show ¬Pw a PB k m≠0 by simp[hc]),AAT (show ¬Pw a PB k m≠0 by simp[hc])];dsimp only;rw[show((0:Int) != 0)=false from rfl,ABS,PA (n:=(RI a PB k).2.1+m) J J,e1,O3 hi,ABP];have hlen:jI a PB=a[i].2.2.length:=by unfold jI;grind
  rw[hlen];by_cases hgt:(RI a PB k).2.1+m>1000
  ·rw[ABV hgt,AAS (.inl hgt)];simp only[ABQ,ABP,PQ a hs n hn]
  ·rw[ABZ hgt,ABS];by_cases hz:(RI a PB k).2.1=0
   ·rw[show((RI a PB k).2.1==0)=true from AAX.2 hz,ABQ];by_cases h8e:a[i].2.2.length=8
    ·rw[AAS (.inr ⟨hz,h8e⟩),show((a[i].2.2.length:Int)==8)=true by rw[AAX];clear hn;omega];simp only[ABQ,ABP,PQ a hs n hn]
    ·rw[AAT J,show((a[i].2.2.length:Int)==8)=false by rw[ABW];clear hn;omega];simp only[ABS,ABP,Zr ha hi,Zr ha hi _ _ _ n hn,e2,b5]
   ·rw[show((RI a PB k).2.1==0)=false from ABW.2 hz,ABS,AAT J];simp only[ABS,ABP,Zr ha hi _ _ _ n hn,e2,b5]
 ·rw[AAS hc,AAS hc];dsimp only;rw[show(Pw a PB k m != 0)=true by grind,ABQ,PQ a hs n hn];rfl
def p7(w h:Int)(c:By)(a:Is)(nx:Int)(l:ADP)(crew:ADQ)(ts:AAL)(st ou:By)(nw PB k m:Int)(r:Int×Int×By×Is×Int×ADP×ADQ×AAL×By×By×Int×Int):Prop:=
 (∃e,e≠0/\r=(w,h,c,a,nx,l,crew,ts,st,ou,nw,e))\/(rP w h c a nx l crew ts st ou nw/\(VO a PB k m).2=0/\st.getD k.toNat 0+m<=1000000/\r=(w,h,c,(VO a PB k m).1,nx,l,crew,ts,st.set k.toNat (st.getD k.toNat 0+m),ou,nw,0))
theorem uI{a:Is}{PB k m:Int}(h:(VO a PB k m).2=0):(1<=k/\k<=50)/\(1<=m/\m<=1000):=by obtain⟨_,h1,h2,_⟩:=QE (cA h);omega
theorem cL(w h:Int){c:By}{a:Is}{nx:Int}{l:ADP}(hb:BG nx l){crew:ADQ}{ts:AAL}{st ou:By}(z:DZ c a crew ts st ou)(nw PB k m:Int)(n:Nat)(hn:PE<=n):
  ∃r,XD n w h c a nx l crew ts st ou nw PB k m=some r/\p7 w h c a nx l crew ts st ou nw PB k m r:=by
 obtain⟨b1,e1,i1⟩:=Tn w h c z.c1 a z.a1 nx l hb crew (by have:=z.r1;omega) ts (by have:=z.t1;omega) st ou (by have:=z.s1;omega) (by have:=z.o1;omega) nw n hn;unfold XD;rw[Wm w h hb.sm z nw n hn,ABP,e1,ABP];dsimp only;cases b1 with
 |false=>exact⟨_,rfl,.inl ⟨1,J,rfl⟩⟩
 |true=>
 have D:=i1.1 rfl;rw[ABX,ABS,fO a z.a1 PB k m n hn,ABP];by_cases h0:(VO a PB k m).2=0
 case neg=>
  rw[show((VO a PB k m).2 != 0)=true from AB5.2 h0];exact⟨_,rfl,.inl ⟨_,h0,rfl⟩⟩
 obtain⟨⟨k1,k2⟩,m1,m2⟩:=uI h0;have h51:=D.c1.1;have hk:k.toNat<st.length:=ADS
 have hgi:Iv st k=some (st.getD k.toNat 0):=by obtain⟨j,rfl⟩:∃j:Nat,k=(j:Int):=⟨k.toNat,J⟩;rw[ABT]at hk ⊢;rw[O3 hk];simp[hk]
 have hb2:=D.c1.ob.getD J k.toNat;have hw:O5 (st.getD k.toNat 0+m)=st.getD k.toNat 0+m:=PA J J;rw[show((VO a PB k m).2 != 0)=false by rw[h0];rfl,ABS,hgi,ABP,hw];by_cases hle:st.getD k.toNat 0+m<=1000000
 ·rw[show decide (st.getD k.toNat 0+m>1000000)=false by grind,ABS,ABP,eU ⟨J,J⟩,ABQ,Pz,hw];exact⟨_,rfl,.inr ⟨D,h0,hle,rfl⟩⟩
 ·rw[show decide (st.getD k.toNat 0+m>1000000)=true by rw[AAj];clear hn;omega];exact⟨_,rfl,.inl ⟨4,J,rfl⟩⟩
theorem bB{a:Is}(ha:PF a){nx:Int}{l:ADP}(hb:BG nx l){id:Int}{o:PS}(ho:P0 l id=some o)(n:Nat)(hn:PE<=n):
  WJ n a nx l id=some (bif(o.2.2.2.2==1)&&(Qc Zd a o.2.2.2.1).2 then((Qc Zd a o.2.2.2.1).1,nx,QA l id 3,true)else(a,nx,l,false)):=by
 have hsm:=hb.sm;obtain⟨i,hi,e1,e2,ef⟩:=Za hb.bk hsm ho n hn;have hpl:o.2.2.2.1.length<=1048576:=(hsm.2 o (QB ho).1).2;unfold WJ;rw[Sh nx l hsm n hn,ABP,ef,ABP,P2 a ha.sm n hn,Pp.2 ha,hb.spec n hn];simp only[ABP,ABX,ABS,show decide ((i:Int)<0)=false by grind,O3 hi,e1,PQ a ha.sm n hn,Zz a ha.sm o.2.2.2.1 hpl n hn];cases hs:(o.2.2.2.2==1)with
 |false=>
  grind
 |true=>
  rw[show(o.2.2.2.2 != 1)=false by grind,ABS,ABw];cases(Qc Zd a o.2.2.2.1).2 with
  |false=>rfl
  |true=>simp only[ABX,ABS,O6 hi,ABQ,ABT,bz hb.bk.2.2.1 hi,e1,e2]
def Wh(id:Int):AAL->AAL×Int->Option (AAL×Int)
 | [],s=>some s
 |t::r,s=>if t.1≠id then Wh id r (s.1++[t],s.2)else if t.2.2.2≠1 then none else Wh id r (s.1,s.2+1)
theorem Z9(id:Int):∀(ts:AAL)(s:AAL×Int),(Wh id ts s=none/\∃t∈ts,t.1=id/\t.2.2.2≠1)\/(Wh id ts s=some (s.1++ts.filter (λt => !(t.1==id)),s.2+((ts.filter λt=>t.1==id).length:Int))/\∀t∈ts,t.1=id->t.2.2.2=1)
 | [],s=>.inr ⟨by simp[Wh],(λt ht=>by cases ht)⟩
 |t::r,s=>by
  unfold Wh;by_cases h1:t.1=id
  ·rw[AAT (by simp[h1])];by_cases h2:t.2.2.2=1
   ·rw[AAT (by simp[h2])];rcases Z9 id r (s.1,s.2+1)with⟨e,u,hu,hh⟩|⟨e,hh⟩
    ·exact .inl ⟨e,u,AAQ _ hu,hh⟩
    ·refine .inr ⟨?_,λu hu=>?_⟩
     ·rw[e,ABv,ABv,show(t.1==id)=true from AAX.2 h1];simp;omega
     ·rcases AAi.1 hu with rfl|hu
      ·exactλ_=>h2
      ·exact hh u hu
   grind
  ·rw[AAS h1];rcases Z9 id r (s.1++[t],s.2)with⟨e,u,hu,hh⟩|⟨e,hh⟩
   all_goals grind
theorem fQ(ts:AAL)(hts:ts.length<=1000000)(id:Int)(w h:Int)(c:By)(a:Is)(nx:Int)(l:ADP)(crew:ADQ)(us:AAL)(st ou:By)(nw:Int)(n:Nat)(hn:PE<=n):
  iter n (VQ ts id) (0,[],0,0,0,[],[],0,[],[],[],[],[],0,w,h,c,a,nx,l,crew,us,st,ou,nw)=some (match Wh id ts ([],0)with
   |none=>.inr (w,h,c,a,nx,l,crew,us,st,ou,nw,false)
   |some s=>.inl (s.2,s.1,(ts.length:Int),0,0,[],[],0,[],[],[],[],[],0,w,h,c,a,nx,l,crew,us,st,ou,nw)):=by
 refine PV (σ:=AAL×Int) (VQ ts id) (λi s=>(s.2,s.1,(i:Int),0,0,[],[],0,[],[],[],[],[],0,w,h,c,a,nx,l,crew,us,st,ou,nw)) ts (λq s=>match Wh id q s with
   |none=>.inr (w,h,c,a,nx,l,crew,us,st,ou,nw,false)
   |some s=>.inl (s.2,s.1,(ts.length:Int),0,0,[],[],0,[],[],[],[],[],0,w,h,c,a,nx,l,crew,us,st,ou,nw)) (λi s=>s.1.length<=i/\0<=s.2/\s.2<=(i:Int)) (λs _=>?_) (λi t q s hi hx _ _ hs=>?_) n ADU ([],0) ⟨AAA,AAA,AAA⟩
 ·unfold VQ Wh;grind
 ·have he:ts[i]=t:=by rw[AAM hi]at hx;exact Option.some.inj hx
  have hr:decide (s.1.length+[(t:PH)].length<=E7)=true:=Rr J;unfold VQ;dsimp only;rw[show decide ((i:Int)<(ts.length:Int))=true by rw[AAj];clear hn;omega];simp only[ABQ,O3 hi,he,ABP,O1 hi (show ts.length<=9223372036854775807 by omega)];by_cases h1:t.1=id
  ·rw[show(t.1 != id)=false by rw[h1];simp];by_cases h2:t.2.2.2=1
   ·left;refine⟨(s.1,s.2+1),?_,⟨No,J,J⟩,?_⟩
    ·rw[show(t.2.2.2 != 1)=false by rw[h2];rfl,PA (n:=s.2+1) J J];rfl
    ·rw[Wh,AAT (by simp[h1]),AAT (by simp[h2])]
   ·right;rw[show(t.2.2.2 != 1)=true from AB5.2 h2,Wh,AAT (by simp[h1]),AAS h2];rfl
  ·left;refine⟨(s.1++[t],s.2),?_,⟨No,hs.2.1,J⟩,?_⟩
   ·grind
   ·rw[Wh,AAS h1]
structure na(w h:Int)(c:By)(a:Is)(nx:Int)(l:ADP)(crew:ADQ)(ts:AAL)(st ou:By)(nw id:Int)(o:PS):Prop where
 ok:rP w h c a nx l crew ts st ou nw
 ord:P0 l id=some o
 xy:o.2.2.2.2=1
 xg:∀t∈ts,t.1=id->t.2.2.2=1
 num:(RM o.2.2.2.1).length<=(ts.filter λt=>t.1==id).length
 rel:(Qc Zd a o.2.2.2.1).2=true
abbrev ng:=Int×Int×By×Is×Int×ADP×ADQ×AAL×By×By×Int×Bool
def nc(w h:Int)(c:By)(a:Is)(nx:Int)(l:ADP)(crew:ADQ)(ts:AAL)(st ou:By)(nw id:Int)(r:ng):Prop:=
 (r=(w,h,c,a,nx,l,crew,ts,st,ou,nw,false)/\∀o,¬na w h c a nx l crew ts st ou nw id o)\/(∃o,na w h c a nx l crew ts st ou nw id o/\
  r=(w,h,c,(Qc Zd a o.2.2.2.1).1,nx,QA l id 3,crew,ts.filter (λt => !(t.1==id)),st,ou,nw,true))
theorem gP(w h:Int){c:By}{a:Is}{nx:Int}{l:ADP}(hb:BG nx l){crew:ADQ}{ts:AAL}{st ou:By}(z:DZ c a crew ts st ou)(nw id:Int)(n:Nat)(hn:PE<=n):
  ∃r,Zt n w h c a nx l crew ts st ou nw id=some r/\nc w h c a nx l crew ts st ou nw id r:=by
 obtain⟨b1,e1,i1⟩:=Tn w h c z.c1 a z.a1 nx l hb crew (by have:=z.r1;omega) ts (by have:=z.t1;omega) st ou (by have:=z.s1;omega) (by have:=z.o1;omega) nw n hn;unfold Zt;rw[Wm w h hb.sm z nw n hn,ABP,e1];dsimp only;have YJ:(∀o,¬na w h c a nx l crew ts st ou nw id o)->∃r,(some (w,h,c,a,nx,l,crew,ts,st,ou,nw,false):Option ng)=some r/\nc w h c a nx l crew ts st ou nw id r:=λhno=>⟨_,rfl,.inl ⟨rfl,hno⟩⟩;cases ho:P0 l id with
 |none=>
  have hm:∀x∈l,x.1≠id:=λx hx e=>ADy
  have hf:=VN nx l hb.sm.1 id hm n hn;rw[Xc]at hf;rw[hf];cases b1<;>exact YJ λo q=>by have:=q.ord;grind
 |some o=>
  obtain⟨i,hi,e2,e3,ef⟩:=Za hb.bk hb.sm ho n hn;rw[ef,ABP];cases b1 with
  |false=>exact YJ λo q=>by have:=i1.2 q.ok;cases this
  |true=>
  have D:=i1.1 rfl;have hpl:o.2.2.2.1.length<=1048576:=(hb.sm.2 o (QB ho).1).2;simp only[ABP,ABX,ABS,show decide ((i:Int)<0)=false by rw[AAr];clear hn;omega];rw[fQ ts z.t1 id w h c a nx l crew ts st ou nw n hn,ABP,bB D.xQ hb ho n hn];rcases Z9 id ts ([],0)with⟨e,t,ht,ht1,ht2⟩|⟨e,hw⟩
  ·rw[e];exact YJ λo q=>ht2 (q.xg t ht ht1)
  ·rw[e];dsimp only;rw[ABP,AA1,Int.zero_add];cases hq:((o.2.2.2.2==1)&&(Qc Zd a o.2.2.2.1).2)with
   |false=>
    refine YJ λo2 q=>?_;have:=q.ord;rw[ho]at this;injection this with this
    subst this;rw[q.xy,q.rel]at hq;cases hq
   |true=>
    have hq2:=Bool.and_eq_true_iff.1 hq;dsimp only[cond_true];simp only[ABX,ABS,O3 hi,e2,ABP,Xm o.2.2.2.1 hpl n hn];by_cases zj:(RM o.2.2.2.1).length<=(ts.filter λt=>t.1==id).length
    ·rw[show decide ((((ts.filter λt=>t.1==id).length:Nat):Int)<((RM o.2.2.2.1).length:Int))=false by rw[AAr];clear hn;omega];exact⟨_,rfl,.inr ⟨o,⟨D,ho,AAX.1 hq2.1,hw,zj,hq2.2⟩,rfl⟩⟩
    ·rw[show decide ((((ts.filter λt=>t.1==id).length:Nat):Int)<((RM o.2.2.2.1).length:Int))=true by rw[AAj];clear hn;omega];refine YJ λo2 q=>?_;have:=q.ord;rw[ho]at this;injection this with this
     subst this;exact zj q.num
end Go.Ev.N
