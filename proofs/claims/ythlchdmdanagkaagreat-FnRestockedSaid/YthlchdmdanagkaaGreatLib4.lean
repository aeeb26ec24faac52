/- A plain evaluator for Go's loaded code,and that it is sound;part 4. Conditions: none. -/
import Derived.Test.YthlchdmdanagkaaGreatLib3
import Derived.Deep.LoopGhost
import Derived.Tactics
import Derived.SizedLaws
import Derived.Carry
import Derived.ChangeShapes
import Derived.RowKit
set_option linter.all false
namespace Go.Ev
section
variable {E:Cy}{cx:Cx}{N:Nat}{ms:Is}{ps:List VP}{s0 s1 σ:St}{tm:Array Value}{W:Wd}{yv:List (List Lv)}
structure Open(c:Cx)(ms:Is)(ps:List VP):Prop where
 m1:∀r∈ms,c.lock r=false/\c.FI r=false
 p1:∀r∈ps.flatMap VP.roots,c.lock r=false
 p2:∀r∈ps.flatMap VP.AO,c.FI r=false
theorem Ms(hlk:∀t∈ms,cx.lock t=false/\cx.FI t=false)(hp:Cq cx ms ps=true):Open cx ms ps:=by
 simp only[Cq,AAJ]at hp;refine⟨hlk,λr hr=>?_,λr hr=>?_⟩
 ·obtain⟨p,hm,hr⟩:=AAL.1 hr;have:=AAW.1 hp.2 p hm;cases p with
  |slot u l=>simp[VP.roots]at hr
  |own u ty e d k=>simp[VP.roots]at hr;subst hr;simp only[AAJ,AAU]at this;exact this.1.1
  |box q ls=>simp[VP.roots]at hr;subst hr;simp only[AAJ,AAU]at this;exact this.1.2
 ·obtain⟨p,hm,hr⟩:=AAL.1 hr;have:=AAW.1 hp.2 p hm;cases p with
  |slot u l=>simp[VP.AO]at hr;subst hr;simpa using this
  |own u ty e d k=>simp[VP.AO]at hr;subst hr;simp only[AAJ,AAU]at this;exact this.1.2
  |box q ls=>simp[VP.AO]at hr
theorem Nk(h:Open cx ms ps):Open (cx.in ms ps) ms ps:=by
 refine⟨λr hr=>?_,λr hr=>?_,λr hr=>?_⟩
 ·have:=h.m1 r hr;simp[Cx.in,this.1,this.2,(Az ms r).2 hr]
 ·simp[Cx.in,h.p1 r hr,(Az _ r).2 hr]
 ·simp[Cx.in,h.p2 r hr,(Az _ r).2 hr]
theorem HX{c:Cx}(ho:Open c ms ps)(hk:Aq (cx.in ms ps) s0 s1)(hp:Cq cx ms ps=true)(ha:GG ms ps s0 s1 σ W tm (E4 W ps) yv)(hctr:s0.Bp<=σ.Bp):Aq c s0 σ where
 AO t ht:=by
  have n1:t∉ms:=λhh=>by rw[(ho.m1 t hh).2]at ht;cases ht
  have n2:t∉ps.flatMap VP.AO:=λhh=>by rw[ho.p2 t hh]at ht;cases ht
  rw[ha.slot t n2,GK,HC n1];refine Lc (λr hr=>?_) (λr hr=>?_) _
  ·simp only[AAe]at hr;exact hr.elim (λhr=>(ho.m1 r ((Az _ _).1 hr)).2) λhr=>ho.p2 r ((Az _ _).1 hr)
  ·simp only[AAe]at hr;exact hr.elim (λhr=>(ho.m1 r ((Az _ _).1 hr)).1) λhr=>ho.p1 r ((Az _ _).1 hr)
 roots r hr:=by
  have n1:r∉ms:=λhh=>by rw[(ho.m1 r hh).1]at hr;cases hr
  have n2:r∉ps.flatMap VP.roots:=λhh=>by rw[ho.p1 r hh]at hr;cases hr
  rw[ha.root r n2,CH,HC n1];rfl
 box r hr:=by
  have n1:r∉ms:=λhh=>by rw[(ho.m1 r hh).2]at hr;cases hr
  have n3:r∉ps.flatMap VP.AO:=λhh=>by rw[ho.p2 r hh]at hr;cases hr
  by_cases n2:r∈ps.flatMap VP.roots
  ·obtain⟨p,hm,zk⟩:=AAL.1 n2;obtain⟨vs,hto,hat⟩:=ha.get hm;cases p with
   |slot u l=>simp[VP.roots]at zk
   |own u ty e d k=>simp[VP.roots]at zk;subst zk;exact absurd (AAL.2 ⟨_,hm,by simp[VP.AO]⟩) n3
   |box q ls=>
    simp[VP.roots]at zk;subst zk;have hat:σ.root r=_:=hat;obtain⟨b1,b2,b3⟩:=hk.box r (Hx n1 n3);rw[hat];exact⟨hto.1.symm.trans b1,rfl,(BF _ _ _).trans (hto.2.1.trans b3)⟩
  ·rw[ha.root r n2,CH,HC n1];exact⟨rfl,rfl,rfl⟩
 l1:=ha.l1
 l2:=ha.l2
 Bp:=hctr
end
end Go.Ev
namespace Go.Ev
theorem KK(v m:Nat)(x:Lv):(∀n∈(BR v m x).AG,n=v)/\(BR v m x).Ce=true:=by
 obtain⟨l,x⟩:=x;cases l with
 |sl t e=>cases m with
  |zero=>exact⟨λn hn=>by simp[BR,LA.AG]at hn,rfl⟩
  |succ m=>exact⟨λn hn=>by simp[BR,LA.AG]at hn;exact hn,rfl⟩
 |_=>exact⟨λn hn=>by simp[BR,LA.AG]at hn,rfl⟩
theorem I8(v:Nat)(k:Bool):Fc v k=v\/Fc v k=1:=by cases k;exact .inl rfl;exact .inr rfl
theorem Ei(v m:Nat)(k:Bool)(x:Lv):(∀n∈(CC v m k x).AG,n=v\/n=1)/\(CC v m k x).Ce=true:=by
 obtain⟨l,x⟩:=x;cases l with
 |sl t e=>cases m with
  |zero=>exact⟨(λn hn=>by have hn:n∈([]:Is):=hn;cases hn),rfl⟩
  |succ m=>
   refine⟨λn hn=>?_,rfl⟩;have hn:n∈[Fc v k,v]:=hn;simp at hn;rcases hn with rfl|rfl
   ·exact I8 _ _
   ·exact .inl rfl
 |_=>exact⟨(λn hn=>by have hn:n∈([]:Is):=hn;cases hn),rfl⟩
theorem B5(v:Nat):∀(ls:List (Option (L×Nat))) (vs:List Lv),∀a∈AP v ls vs,(∀n∈a.AG,n=v\/n=1)/\a.Ce=true
 | [],vs,a,h=>by cases h
 |none::ls,vs,a,h=>by
  rcases AAd.1 (show a∈.bad::AP v ls vs from h)with rfl|h
  ·exact⟨(λn hn=>by cases hn),rfl⟩
  ·exact B5 v ls vs a h
 |some (l,d)::ls,[],a,h=>by
  rcases AAd.1 (show a∈.bad::AP v ls []from h)with rfl|h
  ·exact⟨(λn hn=>by cases hn),rfl⟩
  ·exact B5 v ls [] a h
 |some (l,d)::ls,x::vs,a,h=>by
  rcases AAd.1 (show a∈CC v d (d==3) x::AP v ls vs from h)with rfl|h
  ·exact Ei v d _ x
  ·exact B5 v ls vs a h
section
variable {E:Cy}{cx:Cx}{N:Nat}{ms:Is}{ps:List VP}{s0 s1 σ:St}{tm:Array Value}{W:Wd}{yv:List (List Lv)}
theorem ML(i0:Inv N s0)(ha:GG ms ps s0 s1 σ W tm (E4 W ps) yv)(hctr:σ.Bp=s0.Bp+1):Inv N σ where
 AG:=by
  rw[hctr];refine⟨λt n hn=>?_,λr n hn=>?_⟩
  ·by_cases ht:t∈ps.flatMap VP.AO
   ·obtain⟨p,hm,ht⟩:=AAL.1 ht;obtain⟨vs,hto,hat⟩:=ha.get hm;cases p with
    |slot u l=>
     simp[VP.AO]at ht;subst ht;obtain⟨_,x,rfl,hr⟩:=hto;rw[hat _ rfl]at hn;simp[one,AV.AG,LA.AG]at hn
    |own u ty e d k=>
     simp[VP.AO]at ht;subst ht;obtain⟨_,xs,rfl,_⟩:=hto;rw[(hat _ rfl).1]at hn;have:=I8 s0.Bp k;have:=i0.two;simp[one,AV.AG,LA.AG]at hn;omega
    |box r ls=>simp[VP.AO]at ht
   ·rw[ha.slot t ht,GK]at hn;split at hn
    ·simp[one,AV.AG,LA.AG]at hn
    ·have:=i0.AG.1 t n (Ki _ _ _ n hn);omega
  ·by_cases hr:r∈ps.flatMap VP.roots
   ·obtain⟨p,hm,hr⟩:=AAL.1 hr;obtain⟨vs,hto,hat⟩:=ha.get hm;cases p with
    |slot u l=>simp[VP.roots]at hr
    |own u ty e d k=>
     simp[VP.roots]at hr;subst hr;obtain⟨_,xs,rfl,_⟩:=hto;rw[(hat _ rfl).2]at hn;rcases AAd.1 hn with hn|hn
     ·have hn:n=s0.Bp:=hn;omega
     ·obtain⟨a,ha',hn⟩:=AAL.1 hn;simp at ha';subst ha';have:=(Ei _ _ _ _).1 n hn;have:=i0.two;omega
    |box q ls=>
     simp[VP.roots]at hr;subst hr;have hat:σ.root r=_:=hat;rw[hat]at hn;rcases AAd.1 hn with hn|hn
     ·have hn:n=(s0.root r).AA:=hn;have:=i0.AG.2 r n (by rw[hn];exact AAg);omega
     ·obtain⟨a,ha',hn⟩:=AAL.1 hn;have:=(B5 _ _ _ a ha').1 n hn;have:=i0.two;omega
   ·rw[ha.root r hr,CH]at hn;split at hn
    ·simp[dead,Bo.AG]at hn;omega
    ·have:=i0.AG.2 r n hn;omega
 two:=by have:=i0.two;omega
 len:=ha.l1.trans i0.len
 Bs:=ha.l2.trans i0.Bs
 Lx:=by
  intro r a hm';by_cases hr:r∈ps.flatMap VP.roots
  ·obtain⟨p,hm,hr⟩:=AAL.1 hr;obtain⟨vs,hto,hat⟩:=ha.get hm;cases p with
   |slot u l=>simp[VP.roots]at hr
   |own u ty e d k=>
    simp[VP.roots]at hr;subst hr;obtain⟨_,xs,rfl,_⟩:=hto;rw[(hat _ rfl).2]at hm';simp at hm';subst hm';exact(Ei _ _ _ _).2
   |box q ls=>
    simp[VP.roots]at hr;subst hr;have hat:σ.root r=_:=hat;rw[hat]at hm';exact(B5 _ _ _ a hm').2
  ·rw[ha.root r hr,CH]at hm';split at hm'
   ·cases hm'
   ·exact i0.Lx r a hm'
theorem Ld(x:(DJ ps).D):(B1 ms ps s0 x).Bp=s0.Bp+1:=by unfold B1;rw[JJ];rfl
theorem Dv{x:(DJ ps).D}(h1:AU E s1 tm W)(i1:Bf s1)(i0:Inv N s0)(hk:Aq (cx.in ms ps) s0 s1)(hlk:∀t∈ms,cx.lock t=false/\cx.FI t=false)(hp:Cq cx ms ps=true)(hx:Ap ps s1=some x):
  ∃W',W'.w=W.w/\AU E (B1 ms ps s0 x) tm W'/\Inv N (B1 ms ps s0 x)/\Aq cx s0 (B1 ms ps s0 x)/\Aq (cx.in ms ps) s0 (B1 ms ps s0 x):=by
 obtain⟨yv,ha⟩:=NK (N:=N) h1 i1 hk hp hx;have hc:=Ld (ms:=ms) (s0:=s0) x;have ho:=Ms hlk hp;exact⟨C6 (B1 ms ps s0 x) W ps,rfl,MM h1 i1 i0.two hk hp ha,ML i0 ha hc,HX ho hk hp ha J,HX (Nk ho) hk hp ha J⟩
end
end Go.Ev
namespace Go.Ev
section
variable {P:Program}{E:Cy}{cx:Cx}{N:Nat}{s:St}{W:Wd}{a:Act}{Q:Exit->Act->World->Prop}
theorem NQ{n:Nat}{tm:Array Value}(h:AU E s tm W):AU E { s with Bp:=n } tm W where
 DM:=h.DM
 Bs:=h.Bs
 AO t:=BW.map (λb hb=>⟨hb,rfl⟩) (λa v hv=>by cases a<;>exact hv) (h.AO t)
 roots r:=by
  obtain⟨q1,q2⟩:=h.roots r;exact⟨λj=>(q1 j).map (λa v hv=>by cases a<;>exact hv) λ_ _ _ _ hr=>hr,q2⟩
 sep:=h.sep
 init:=h.init
theorem Mt(hc:Dt P cx)(zQ:DO P E cx.env)(hm:P.follows .mixedOrders=true){id:Nat}{ops:Array Oper}{draw:Bool}{R:Type}{k:St->Option R}{x:R}(zL:codeOk N (.region id ops draw)=true)(hslk:∀o∈ops.toList,∀d,o.dst=some d->cx.FI d=false)
  (yu:AU E s a.tmps W) (hinv:Inv N s) (he:Ec cx ⟨ops,s.Bp,draw⟩ (number 0 ops.toList) (E3 ops.toList []) [] s k=some x)
  (hK:∀s' a' W',a'.defers=a.defers->AU E s' a'.tmps W'->Aq cx s s'->Bf s'->BS s' (· < s.Bp+ops.size)->k s'=some x->Q .normal a' W'.w):(Code.region id ops draw).wp P Q a W.w:=by
 obtain⟨tr,ht,hlen,hk⟩:=Ed ops.toList 0 [] s he;simp only[codeOk,AAJ]at zL;obtain⟨hE,hdst⟩:=zL
 have hd:∀o∈ops.toList,∀d,o.dst=some d->d<s.sl.length:=by intro o ho d hd;have:=AAW.1 hdst o ho;rw[hd]at this;rw[hinv.len];simpa using this
 obtain⟨hkeep,hrin⟩:=Gq ops.toList 0 [] s tr ht hslk hinv.Lx
 have hfin:∀a' W',a'.defers=a.defers->AU E (AK (λ_=>true) 0 tr s) a'.tmps W'->BS (AK (λ_=>true) 0 tr s) (pA s.Bp (· < ops.size))->Q .normal a' W'.w:=λa' W' h1 h2 h3=>
  hK _ a' W' h1 h2 hkeep hrin (h3.mono λn hn=>by
   rcases hn with hn|⟨j,hj,e⟩
   ·omega
   ·have:j<ops.size:=hj;omega) hk
 have h2:=hinv.two;cases draw with
 |false=>
  refine wp_region ?_
  have:=M1 (g:=⟨ops,s.Bp,false⟩) (bs:=E3 ops.toList []) (Q:=Q) hc zQ (show 1<s.Bp by omega) (λi j hi hj=>by
   have hi:i<ops.size:=hi
   exact JD (ops:=ops) hE (A:=(· < i)) (λk o hk ho e he hb=>by
     have:=Co ops.toList 0 hE k o (by simpa using ho) e he hb;have hk:k<i:=hk;show e.on<i;omega) (λk hk=>Nat.lt_trans hk hi) (i:=i) (o:=ops[i]) (by simp[hi]) (λe he hb=>by
     have:=Co ops.toList 0 hE i ops[i] (by simp[hi]) e he hb;show e.on<i;omega) j hj) ops.toList 0 [] s tr a W ht (λk o hk=>by simpa using hk) yu (hinv.AG.mono λn hn=>.inl hn) hd (λa' W' q1 q2 q3=>hfin a' W' q1 q2 (by simpa using q3))
  have e:List.range ops.size=List.range' 0 ops.toList.length:=by rw[List.range_eq_range'];simp
  rw[e];exact this
 |true=>
  refine wp_region_any hm ?_
  have hnone:∀(tr:List (Nat×List Wr)) (i:Nat) (s:St),AK (λi=>(Array.replicate ops.size false).getD i false) i tr s=s:=by
   intro tr
   induction tr with
   |nil=>intro i s;rfl
   |cons y tr ih=>
    intro i s;simp only[AK]
    have:(Array.replicate ops.size false).getD i false=false:=by
     rw[AAi,Array.getElem?_replicate];split<;>rfl
    rw[this];exact ih (i+1) s
  have hrepd:AU E s a.tmps { W with w:={ W.w with drawn:=W.w.drawn+1 } }:=yu.world (λ_ _=>rfl) (λ_ _ _=>rfl) (AAc _) ⟨rfl,rfl,rfl⟩
  exact N4 (g:=⟨ops,s.Bp,true⟩) (Q:=Q) hc zQ (show 1<s.Bp by omega) hE rfl ht ADw hinv.AG hd hfin ops.size (Array.replicate ops.size false) a { W with w:={ W.w with drawn:=W.w.drawn+1 } } OF OF rfl
   (by rw[hnone];exact hrepd) (by rw[hnone];exact hinv.AG.mono λn hn=>.inl hn) (λi o hi=>by
    rw[AAi,Array.getElem?_replicate]at hi;split at hi<;>cases hi)
end
end Go.Ev
namespace Go.Ev
section
variable {P:Program}{E:Cy}{cx:Cx}{N:Nat}{s:St}{W:Wd}{a:Act}{Q:Exit->Act->World->Prop}
theorem Hm:∀(os:List Oper)(i:Nat)(o:Oper)(d:Nat),o∈os->o.dst=some d->d∈G0 (number i os)
 | [],i,o,d,h,_=>by cases h
 |x::os,i,o,d,h,hd=>by
  simp only[number,G0];rcases AAd.1 h with rfl|h
  ·rw[hd];exact AAg
  ·have:=Hm os (i+1) o d h hd;cases x.dst with
   |none=>exact this
   |some y=>exact AAM _ this
theorem Li{s':St}{n:Nat}(h:Aq cx s s')(hn:s.Bp<=n):Aq cx s { s' with Bp:=n }:=⟨h.AO,h.roots,h.box,h.l1,h.l2,hn⟩
theorem IN{an:An}(hc:Dt P cx)(zQ:DO P E cx.env)(hm:P.follows .mixedOrders=true){id:Nat}{ops:Array Oper}{draw:Bool}{R:Type}{k:St->Option R}{x:R}(zL:codeOk N (.region id ops draw)=true)
  (hlk:∀t∈CE (.region id ops draw),cx.lock t=false/\cx.FI t=false) (yu:AU E s a.tmps W) (hinv:Inv N s) (he:Ex cx an id ops draw s k=some x)
  (hK:∀s' a' W',a'.defers=a.defers->AU E s' a'.tmps W'->Inv N s'->Aq cx s s'->k s'=some x->Q .normal a' W'.w):(Code.region id ops draw).wp P Q a W.w:=by
 unfold Ex at he;dsimp only at he;split at he
 ·refine Mt hc zQ hm zL (λo ho d hd=>(hlk d (Hm _ _ o d ho hd)).2) yu hinv he λs' a' W' q1 q2 q3 q4 q5 q6=>?_;exact hK { s' with Bp:=s.Bp+ops.size } a' W' q1 (NQ q2) ⟨q5,by have:=hinv.two;show 2<=s.Bp+ops.size;omega,q3.l1.trans hinv.len,q3.l2.trans hinv.Bs,q4⟩ (Li q3 J) q6
 ·have he:(λps:List VP=>if Cq cx (G0 (number 0 ops.toList)) ps then(Ec (cx.in (G0 (number 0 ops.toList)) ps) ⟨ops,s.Bp,draw⟩ (number 0 ops.toList) (E3 ops.toList []) [] s (Ap ps)).bind λx=>k (B1 (G0 (number 0 ops.toList)) ps s x)else none) (match an.PH id with
   |some p=>p
   |none=>JV ops.toList)=some x:=he
  generalize (match an.PH id with
   |some p=>p
   |none=>JV ops.toList)=ps at he
  dsimp only at he;split at he
  ·rename_i hpat;cases hq:Ec (cx.in (G0 (number 0 ops.toList)) ps) ⟨ops,s.Bp,draw⟩ (number 0 ops.toList) (E3 ops.toList []) [] s (Ap ps)with
   |none=>rw[hq]at he;cases he
   |some y=>
    rw[hq]at he;have he:k (B1 (G0 (number 0 ops.toList)) ps s y)=some x:=he;have hcin:Dt P (cx.in (G0 (number 0 ops.toList)) ps):=hc;refine Mt hcin zQ hm zL (λo ho d hd=>?_) yu hinv hq λs' a' W' q1 q2 q3 q4 q5 q6=>?_
    ·have hmem:=Hm ops.toList 0 o d ho hd;have h1:cx.FI d=false:=(hlk d hmem).2;simp[Cx.in,h1,(Az _ d).2 hmem]
    ·obtain⟨W2,w2,r2,i2,k2,_⟩:=Dv (N:=N) q2 q4 hinv q3 (λt ht=>hlk t ht) hpat q6;rw[<-w2];exact hK _ a' W2 q1 r2 i2 k2 he
  ·cases he
theorem J9{rs:Is}{s':St}{W':Wd}(fr:Jo s s' W W' rs)(hlk:∀r∈rs,cx.lock r=false)(zX:∀r,r∉rs->s'.root r=s.root r)(hctr:s'.Bp=s.Bp):Aq cx s s' where
 AO t _:=by
  have:s'.slot t=s.slot t:=by show nth _ s'.sl t=_;rw[fr.same.sl];rfl
  rw[this];exact .same _
 roots r hr:=zX r λhm=>by rw[hlk r hm]at hr;cases hr
 box r _:=fr.same.box r
 l1:=by rw[fr.same.sl]
 l2:=fr.same.len
 Bp:=by rw[hctr];exact AAc _
theorem Gr(r:Nat):∀(as:List LA)(j:Nat)(s:St),(s.app (BE r j as)).Bp=s.Bp/\∀x,x≠r->(s.app (BE r j as)).root x=s.root x
 | [],j,s=>⟨rfl,λ_ _=>rfl⟩
 |a::as,j,s=>by obtain⟨h1,h2⟩:=Gr r as (j+1) (s.AF (.leaf r j a));refine⟨h1,λx hx=>(h2 x hx).trans ?_⟩;show nth _ (Ca s.ro r _) x=_;rw[Aw,AAQ λhh=>hx hh.1.symm];rfl
theorem Fs:∀ {rs:Is} {ws:List Wr} (s0 s:St),Ar cx s0 rs=some ws->(s.app ws).Bp=s.Bp/\∀x,x∉rs->(s.app ws).root x=s.root x
 | [],ws,s0,s,h=>by injection h with h;subst h;exact⟨rfl,λ_ _=>rfl⟩
 |r::rs,ws,s0,s,h=>by
  simp only[Ar]at h;split at h
  ·cases h
  ·split at h
   ·rename_i ws' hws;injection h with h;subst h
    rw[BA]
    obtain⟨a1,a2⟩:(s.app (DB s0 r)).Bp=s.Bp/\∀x,x≠r->(s.app (DB s0 r)).root x=s.root x:=by
     unfold DB;split
     ·exact⟨rfl,λ_ _=>rfl⟩
     ·exact Gr r ((s0.root r).ls.map BD) 0 s
    obtain⟨b1,b2⟩:=Fs s0 (s.app (DB s0 r)) hws;exact⟨b1.trans a1,λx hx=>(b2 x λhm=>hx (AAM _ hm)).trans (a2 x λe=>hx (e▸AAg))⟩
   ·cases h
theorem JP(a:LA):(BD a).AG=a.AG:=by cases a<;>rfl
theorem Kj(a:LA)(h:a.Ce=true):(BD a).Ce=true:=by cases a<;>first|exact h|rfl
theorem H2(r:Nat):∀(as:List LA)(j:Nat)(s:St)(x:Nat),∀a∈((s.app (BE r j as)).root x).ls,a∈(s.root x).ls\/(x=r/\a∈as)
 | [],j,s,x,a,h=>.inl h
 |b::as,j,s,x,a,h=>by
  rcases H2 r as (j+1) (s.AF (.leaf r j b)) x a h with h|⟨h1,h2⟩
  ·have zX:(s.AF (.leaf r j b)).root x=if r=x/\r<s.ro.length then { s.root r with ls:=Ca (s.root r).ls j b }else s.root x:=Aw _ _ _ _ _
   rw[zX]at h;split at h
   ·rename_i hx;have h:a∈Ca (s.root r).ls j b:=h;rw[Bj]at h;rcases AA9 h with h|h
    ·rw[<-hx.1];exact .inl h
    ·exact .inr ⟨hx.1.symm,by rw[h];exact AAg⟩
   ·exact .inl h
  ·exact .inr ⟨h1,AAM _ h2⟩
theorem FW:∀ {rs:Is} {ws:List Wr} (s0 s:St),Ar cx s0 rs=some ws->∀(x:Nat),∀a∈((s.app ws).root x).ls,a∈(s.root x).ls\/∃b∈(s0.root x).ls,a=BD b
 | [],ws,s0,s,h,x,a,ha=>by injection h with h;subst h;exact .inl ha
 |r::rs,ws,s0,s,h,x,a,ha=>by
  simp only[Ar]at h;split at h
  ·cases h
  ·split at h
   ·rename_i ws' hws;injection h with h;subst h
    rw[BA]at ha;rcases FW s0 _ hws x a ha with ha|ha
    ·unfold DB at ha;split at ha
     ·exact .inl ha
     rcases H2 r _ 0 s x a ha with ha|⟨h1,h2⟩
     ·exact .inl ha
     ·subst h1;obtain⟨b,hb,e⟩:=AAt.1 h2;exact .inr ⟨b,hb,e.symm⟩
    ·exact .inr ha
   ·cases h
theorem Lw{an:An}(hc:Dt P cx)(zQ:DO P E cx.env)(hm:P.follows .mixedOrders=true){id:Nat}{ops:Array Oper}{draw:Bool}{R:Type}{k:St->Option R}{x:R}(zL:codeOk N (.region id ops draw)=true)
  (hlk:∀t∈CE (.region id ops draw),cx.lock t=false/\cx.FI t=false) (yu:AU E s a.tmps W) (hinv:Inv N s) (he:Hq cx an id ops draw s k=some x)
  (hK:∀s' a' W',a'.defers=a.defers->AU E s' a'.tmps W'->Inv N s'->Aq cx s s'->k s'=some x->Q .normal a' W'.w):(Code.region id ops draw).wp P Q a W.w:=by
 unfold Hq at he;split at he
 ·exact IN hc zQ hm zL hlk yu hinv he hK
 ·rename_i r rs _;split at he
  ·rename_i zq;split at he
   ·rename_i fs hfs;have hnv:Ad s s.Bp:=hinv.AG.H9 (v:=s.Bp) (Nat.lt_irrefl _) (by have:=hinv.two;omega);obtain⟨W1,hr1,fr,_⟩:=Ey yu hnv hfs;obtain⟨c1,c2⟩:=Fs (cx:=cx) s s hfs;have hk1:Aq cx s (s.app fs):=J9 fr (λy hy=>by simpa using AAW.1 zq y hy) c2 c1
    have hi1:Inv N (s.app fs):={
     AG:=by
      have hv:=hinv.AG;rw[c1];refine⟨λt n hn=>?_,λy n hn=>?_⟩
      ·have:(s.app fs).slot t=s.slot t:=by show nth _ (s.app fs).sl t=_;rw[fr.same.sl];rfl
       rw[this]at hn;exact hv.1 t n hn
      ·have zC:((s.app fs).root y).AA=(s.root y).AA:=(fr.same.box y).2.1;unfold Bo.AG at hn;rw[zC]at hn;rcases AAd.1 hn with e|hn
       ·exact hv.2 y n (by unfold Bo.AG;rw[e];exact AAg)
       ·obtain⟨b,hb,hbn⟩:=AAL.1 hn;rcases FW (cx:=cx) s s hfs y b hb with hb|⟨b0,hb0,e⟩
        ·exact hv.2 y n (by unfold Bo.AG;exact AAM _ (AAL.2 ⟨b,hb,hbn⟩))
        ·rw[e,JP]at hbn;exact hv.2 y n (by unfold Bo.AG;exact AAM _ (AAL.2 ⟨b0,hb0,hbn⟩))
     two:=by rw[c1];exact hinv.two
     len:=hk1.l1.trans hinv.len
     Bs:=hk1.l2.trans hinv.Bs
     Lx:=λy b hb=>by
      rcases FW (cx:=cx) s s hfs y b hb with hb|⟨b0,hb0,e⟩
      ·exact hinv.Lx y b hb
      ·rw[e];exact Kj b0 (hinv.Lx y b0 hb0) }
    rw[<-fr.w];exact IN hc zQ hm zL hlk hr1 hi1 he λs' a' W' q1 q2 q3 q4 q5=>hK s' a' W' q1 q2 q3 (hk1.trans q4) q5
   ·cases he
  ·cases he
end
end Go.Ev
namespace Go.Ev
section
variable {P:Program}{E:Cy}{N:Nat}
theorem GN{cx:Cx}{ms:Is}{ps:List VP}(h:∀t∈ms,cx.lock t=false/\cx.FI t=false):∀t∈ms,(cx.in ms ps).lock t=false/\(cx.in ms ps).FI t=false:=λt ht=>by have:=h t ht;simp[Cx.in,this.1,this.2,(Az ms t).2 ht]
def Claim(P:Program)(E:Cy)(N:Nat)(an:An)(n:Nat){RD:Type}(rp:St->Option RD)(c:Code):Prop:=∀ {R:Type} {cx:Cx} {s:St} {kn:St->Option R} {kx:Nat->St->Option R} {kr:RD->Option R} {x:R} {a:Act} {W:Wd} {Q:Exit->Act->World->Prop},
  Dt P cx->DO P E cx.env->codeOk N c=true->(∀t∈CE c,cx.lock t=false/\cx.FI t=false)->AU E s a.tmps W->Inv N s->ev an n rp c cx s kn kx kr=some x->
  (∀s' a' W',a'.defers=a.defers->AU E s' a'.tmps W'->Inv N s'->Aq cx s s'->kn s'=some x->Q .normal a' W'.w)->
  (∀id s' a' W',a'.defers=a.defers->AU E s' a'.tmps W'->Inv N s'->Aq cx s s'->kx id s'=some x->Q (.exit id) a' W'.w)->
  (∀y s' a' W',a'.defers=a.defers->AU E s' a'.tmps W'->Inv N s'->rp s'=some y->kr y=some x->Q .ret a' W'.w)->c.wp P Q a W.w
theorem LB{an:An}{n:Nat}{RD:Type}{rp:St->Option RD}{c':Code}(ihb:Claim P E N an n rp c'){cx:Cx}{s:St}{ps:List VP}{id:Nat}{a0:Act}
  (hc:Dt P cx) (zQ:DO P E cx.env) (zL:codeOk N c'=true) (hlk:∀t∈CE c',cx.lock t=false/\cx.FI t=false) (hinv:Inv N s) (hp:Cq cx (CE c') ps=true)
  {γ:Type} {g:(DJ ps).D->γ} {kr':RD->Option ((DJ ps).D⊕γ)} (hkr:∀r y,kr' r=some (.inl y)->False) {q:γ} {Q:Exit->Act->World->Prop}
  (hdone:∀x' s' a' W',a'.defers=a0.defers->AU E s' a'.tmps W'->Inv N s'->Aq (cx.in (CE c') ps) s s'->Ap ps s'=some x'->g x'=q->Q (.exit id) a' W'.w)
  (hret:∀y s' a' W',a'.defers=a0.defers->AU E s' a'.tmps W'->Inv N s'->rp s'=some y->kr' y=some (.inr q)->Q .ret a' W'.w)
  {m:Nat} {x0:(DJ ps).D} {a:Act} {W:Wd} {s1:St} (hd:a.defers=a0.defers) (yu:AU E s1 a.tmps W) (yt:Bf s1) (hk:Aq (cx.in (CE c') ps) s s1) (hx:Ap ps s1=some x0)
  (hit:iter (α:=(DJ ps).D) (γ:=γ) m (λx=>ev an n rp c' (cx.in (CE c') ps) (B1 (CE c') ps s x) (λs=>(Ap ps s).bind λx=>some (.inl x)) (λi s=>if i==id then(Ap ps s).bind λx=>some (.inr (g x))else none) kr') x0=some q):
  (Code.loop c').wp P Q a W.w:=by
 refine wp_loop_ghost (λk a w=>∃(W:Wd) (s1:St) (x:(DJ ps).D),W.w=w/\a.defers=a0.defers/\AU E s1 a.tmps W/\Bf s1/\Aq (cx.in (CE c') ps) s s1/\Ap ps s1=some x/\
  iter (α:=(DJ ps).D) (γ:=γ) k (λx=>ev an n rp c' (cx.in (CE c') ps) (B1 (CE c') ps s x) (λs=>(Ap ps s).bind λx=>some (.inl x)) (λi s=>if i==id then(Ap ps s).bind λx=>some (.inr (g x))else none) kr') x=some q) m
  ⟨W,s1,x0,rfl,hd,yu,yt,hk,hx,hit⟩ ?_
 rintro k a w ⟨W,s1,x,rfl,hd,yu,yt,hk,hx,hit⟩
 cases k with
 |zero=>cases hit
 |succ k=>
  simp only[iter]at hit;obtain⟨W2,w2,r2,i2,k2,k3⟩:=Dv (N:=N) yu yt hinv hk hlk hp hx;cases hq:ev an n rp c' (R:=(DJ ps).D⊕γ) (cx.in (CE c') ps) (B1 (CE c') ps s x) (λs=>(Ap ps s).bind λx=>some (.inl x)) (λi s=>if i==id then(Ap ps s).bind λx=>some (.inr (g x))else none) kr' with
  |none=>grind
  |some y=>
   rw[hq]at hit;rw[<-w2];have hcin:Dt P (cx.in (CE c') ps):=hc;refine ihb hcin zQ zL (GN hlk) r2 i2 hq (λs3 a3 W3 q1 q2 q3 q4 q5=>?_) (λi s3 a3 W3 q1 q2 q3 q4 q5=>?_) (λz s3 a3 W3 q1 q2 q3 q4 q5=>?_)
   ·cases hpk:Ap ps s3 with
    |none=>grind
    |some z=>
     rw[hpk]at q5;injection q5 with q5
     subst q5;exact⟨k,Nat.lt_succ_self k,W3,s3,z,rfl,q1.trans hd,q2,q3.Lx,k3.trans q4,hpk,hit⟩
   ·split at q5
    ·rename_i hi;have hi:i=id:=ADm
     subst hi;cases hpk:Ap ps s3 with
     |none=>grind
     |some z=>
      rw[hpk]at q5;injection q5 with q5
      subst q5;injection hit with hit
      exact hdone z s3 a3 W3 (q1.trans hd) q2 q3 (k3.trans q4) hpk hit
    ·cases q5
   ·cases y with
    |inl y=>grind
    |inr y=>
     injection hit with hit
     subst hit;exact hret z s3 a3 W3 (q1.trans hd) q2 q3 q4 q5
theorem NS{an:An}{n:Nat}{RD:Type}{rp:St->Option RD}(hm:P.follows .mixedOrders=true):∀(c:Code),Claim P E N an n rp c/\∀c',c=.loop c'->Claim P E N an n rp c':=by
 intro c
 induction c with
 |skip=>
  refine⟨?_,λc' e=>by cases e⟩;intro R cx s kn kx kr x a W Q hc zQ zL hlk yu hinv he hn hx hr;exact wp_skip (hn s a W rfl yu hinv (Aq.refl _ _) he)
 |region id ops draw=>
  refine⟨?_,λc' e=>by cases e⟩;intro R cx s kn kx kr x a W Q hc zQ zL hlk yu hinv he hn hx hr;exact Lw hc zQ hm zL hlk yu hinv he hn
 |seq b c ihb ihc=>
  refine⟨?_,λc' e=>by cases e⟩;intro R cx s kn kx kr x a W Q hc zQ zL hlk yu hinv he hn hx hr;simp only[codeOk,AAJ]at zL;have hla:∀t∈CE b,cx.lock t=false/\cx.FI t=false:=λt ht=>hlk t (AAV _ ht);have hlb:∀t∈CE c,cx.lock t=false/\cx.FI t=false:=λt ht=>hlk t (AAS _ ht);refine wp_seq ?_
  have next:∀ {s1:St} {a1:Act} {W1:Wd},a1.defers=a.defers->AU E s1 a1.tmps W1->Inv N s1->Aq cx s s1->ev an n rp c cx s1 kn kx kr=some x->c.wp P Q a1 W1.w:=λhd1 hr1 hi1 hk1 he1=>
   ihc.1 hc zQ zL.2 hlb hr1 hi1 he1 (λs2 a2 W2 q1 q2 q3 q4 q5=>hn s2 a2 W2 (q1.trans hd1) q2 q3 (hk1.trans q4) q5) (λi s2 a2 W2 q1 q2 q3 q4 q5=>hx i s2 a2 W2 (q1.trans hd1) q2 q3 (hk1.trans q4) q5)
    (λy s2 a2 W2 q1 q2 q3 q4 q5=>hr y s2 a2 W2 (q1.trans hd1) q2 q3 q4 q5)
  simp only[ev]at he;split at he
  ·exact ihb.1 hc zQ zL.1 hla yu hinv he (λs1 a1 W1 q1 q2 q3 q4 q5=>next q1 q2 q3 q4 q5) hx hr
  ·rename_i ps rets hj;split at he
   ·rename_i hp;have hcin:Dt P (cx.in (CE b) ps):=hc;cases rets with
    |false=>
     dsimp only at he;cases hq:ev an n rp b (R:=(DJ ps).D) (cx.in (CE b) ps) s (Ap ps) (λ_ _=>none) (λ_=>none)with
     |none=>grind
     |some y=>
      rw[hq]at he;refine ihb.1 hcin zQ zL.1 (GN hla) yu hinv hq (λs1 a1 W1 q1 q2 q3 q4 q5=>?_) (λ_ _ _ _ _ _ _ _ q=>by cases q) (λ_ _ _ _ _ _ _ _ q=>by cases q);obtain⟨W2,w2,r2,i2,k2,_⟩:=Dv (N:=N) q2 q3.Lx hinv q4 hla hp q5;show c.wp P Q a1 W1.w;grind
    |true=>
     dsimp only at he;cases hq:ev an n rp b (R:=(DJ ps).D⊕RD) (cx.in (CE b) ps) s (λs=>(Ap ps s).bind λx=>some (.inl x)) (λ_ _=>none) (λr=>some (.inr r))with
     |none=>grind
     |some y=>
      rw[hq]at he;refine ihb.1 hcin zQ zL.1 (GN hla) yu hinv hq (λs1 a1 W1 q1 q2 q3 q4 q5=>?_) (λ_ _ _ _ _ _ _ _ q=>by cases q) (λy' s1 a1 W1 q1 q2 q3 q4 q5=>?_)
      ·cases hpk:Ap ps s1 with
       |none=>grind
       |some z=>
        rw[hpk]at q5;injection q5 with q5
        subst q5;obtain⟨W2,w2,r2,i2,k2,_⟩:=Dv (N:=N) q2 q3.Lx hinv q4 hla hp hpk;show c.wp P Q a1 W1.w;grind
      ·injection q5 with q5
       subst q5;exact hr y' s1 a1 W1 q1 q2 q3 q4 he
   ·cases he
 |cond o b c ihb ihc=>
  refine⟨?_,λc' e=>by cases e⟩;intro R cx s kn kx kr x a W Q hc zQ zL hlk yu hinv he hn hx hr;simp only[codeOk,AAJ]at zL;have hla:∀t∈CE b,cx.lock t=false/\cx.FI t=false:=λt ht=>hlk t (AAV _ ht);have hlb:∀t∈CE c,cx.lock t=false/\cx.FI t=false:=λt ht=>hlk t (AAS _ ht);have h1:=Ac yu o;simp only[ev]at he;split at he
  ·rename_i t hq;rw[hq]at h1;have h1:a.eval o=.bool t:=h1.1;refine wp_cond h1 ?_;cases t with
   |true=>exact ihb.1 hc zQ zL.1 hla yu hinv he hn hx hr
   |false=>exact ihc.1 hc zQ zL.2 hlb yu hinv he hn hx hr
  ·cases he
 |block id c ih=>
  refine⟨?_,λc' e=>by cases e⟩;intro R cx s kn kx kr x a W Q hc zQ zL hlk yu hinv he hn hx hr;simp only[ev]at he;cases hb:an.blk id with
  |none=>
   rw[hb]at he;refine wp_block (ih.1 hc zQ zL hlk yu hinv he hn (λi s' a' W' q1 q2 q3 q4 q5=>?_) hr);show(if i=id then Q .normal a' W'.w else Q (.exit i) a' W'.w);grind
  |some p=>
   obtain⟨ps,rets⟩:=p;rw[hb]at he;dsimp only at he;split at he
   ·rename_i c';have ihb:Claim P E N an n rp c':=ih.2 c' rfl;have zL:codeOk N c'=true:=zL;have hlk:∀t∈CE c',cx.lock t=false/\cx.FI t=false:=hlk;split at he
    ·rename_i hp;refine wp_block ?_;cases rets with
     |false=>
      dsimp only at he;cases hpk:Ap ps s with
      |none=>grind
      |some x0=>
       rw[hpk]at he;simp only[Option.bind_some]at he;obtain⟨q,hq,he⟩:=ABC.1 he;refine LB (g:=λx=>x) ihb hc zQ zL hlk hinv hp (λ_ _ q=>by cases q) (λx' s' a' W' q1 q2 q3 q4 q5 q6=>?_) (λ_ _ _ _ _ _ _ _ q=>by cases q) rfl yu hinv.Lx (Aq.refl _ _) hpk hq;subst q6;obtain⟨W2,w2,r2,i2,k2,_⟩:=Dv (N:=N) q2 q3.Lx hinv q4 hlk hp q5;show(if id=id then Q .normal a' W'.w else Q (.exit id) a' W'.w);grind
     |true=>
      dsimp only at he;cases hpk:Ap ps s with
      |none=>grind
      |some x0=>
       rw[hpk]at he;simp only[Option.bind_some]at he;obtain⟨q,hq,he⟩:=ABC.1 he;refine LB (g:=λx=>(.inl x:(DJ ps).D⊕RD)) ihb hc zQ zL hlk hinv hp (λ_ _ q=>by cases q) (λx' s' a' W' q1 q2 q3 q4 q5 q6=>?_) (λy s' a' W' q1 q2 q3 q4 q5=>?_) rfl yu hinv.Lx (Aq.refl _ _) hpk hq
       ·subst q6;obtain⟨W2,w2,r2,i2,k2,_⟩:=Dv (N:=N) q2 q3.Lx hinv q4 hlk hp q5;show(if id=id then Q .normal a' W'.w else Q (.exit id) a' W'.w);grind
       ·injection q5 with q5
        injection q5 with q5
        subst q5;exact hr y s' a' W' q1 q2 q3 q4 he
    ·cases he
   ·cases he
 |exit id=>
  refine⟨?_,λc' e=>by cases e⟩;intro R cx s kn kx kr x a W Q hc zQ zL hlk yu hinv he hn hx hr;exact wp_exit (hx id s a W rfl yu hinv (Aq.refl _ _) he)
 |ret=>
  refine⟨?_,λc' e=>by cases e⟩;intro R cx s kn kx kr x a W Q hc zQ zL hlk yu hinv he hn hx hr;simp only[ev]at he;cases hq:rp s with
  |none=>grind
  |some y=>rw[hq]at he;exact wp_ret (hr y s a W rfl yu hinv hq he)
 |loop c ih=>
  refine⟨?_,λc' e=>by grind⟩;intro R cx s kn kx kr x a W Q hc zQ zL hlk yu hinv he hn hx hr;simp only[ev]at he;cases he
 |_=>
  refine⟨?_,λc' e=>by cases e⟩;intro R cx s kn kx kr x a W Q hc zQ zL hlk yu hinv he hn hx hr;simp only[ev]at he;cases he
end
end Go.Ev
namespace Go.Ev
inductive BL(W:Wd):List (Nat×Nat)->List (Nat×Nat)->List Is->Prop
 |nil (us):BL W us us []
 |skip {us us' os} (h:BL W us us' os):BL W us us' ([]::os)
 |take {us us' os u o} (hu:u∉us) (hs:∀b∈o,b∈W.om (.lf u.1 u.2)) (hn:o.Nodup) (h:BL W (u::us) us' os):BL W us us' (o::os)
section
variable {P:Program}{E:Cy}{s:St}{W:Wd}{tm:Array Value}{β:Type}{t:β}
theorem BL.append{us us1 us2:List (Nat×Nat)}{xs ys:List Is}(h1:BL W us us1 xs)(h2:BL W us1 us2 ys):BL W us us2 (xs++ys):=by
 induction h1 with
 |nil=>exact h2
 |skip h ih=>exact .skip (ih h2)
 |take hu hs hn h ih=>exact .take hu hs hn (ih h2)
theorem BL.sub{us us':List (Nat×Nat)}{os:List Is}(h:BL W us us' os):∀u∈us,u∈us':=by
 induction h with
 |nil=>grind
 |skip h ih=>exact ih
 |take hu hs hn h ih=>grind
theorem BL.mem{us us':List (Nat×Nat)}{os:List Is}(h:BL W us us' os):∀o∈os,∀b∈o,∃u,u∉us/\b∈W.om (.lf u.1 u.2):=by
 induction h with
 |nil=>grind
 |skip h ih=>
  grind
 |take hu hs hn h ih=>
  grind
theorem BL.nodup{us us':List (Nat×Nat)}{os:List Is}(h:BL W us us' os):∀o∈os,o.Nodup:=by
 induction h with
 |nil=>grind
 |skip h ih=>
  grind
 |take hu hs hn h ih=>
  grind
def FL(a b:Is):Prop:=∀x∈a,x∉b
theorem FL.symm{a b:Is}(h:FL a b):FL b a:=λx hx hy=>h x hy hx
theorem BL.pair(hd:∀k k',k≠k'->∀b∈W.om k,b∉W.om k'){us us':List (Nat×Nat)}{os:List Is}(h:BL W us us' os):os.Pairwise FL:=by
 induction h with
 |nil=>exact .nil
 |skip h ih=>exact .cons (λa _ x hx=>by cases hx) ih
 | @take us us' os u o hu hs hn h ih=>
  refine .cons (λa ha x hx hxa=>?_) ih;obtain⟨u',h1,h2⟩:=h.mem a ha x hxa;grind
theorem Jf{α:Type}{R:α->α->Prop}(hs:∀a b,R a b->R b a){l:List α}(h:l.Pairwise R){i j:Nat}{a b:α}(hij:i≠j)(hi:l[i]?=some a)(hj:l[j]?=some b):R a b:=by
 obtain⟨h1,rfl⟩:=AAK.1 hi;obtain⟨h2,rfl⟩:=AAK.1 hj;rcases ABN hij with zA|zA
 ·exact ABR.1 h i j h1 h2 zA
 ·exact hs _ _ (ABR.1 h j i h2 h1 zA)
theorem EX(h:AU E s tm W){us:List (Nat×Nat)}{l:L}{m:Nat}{a:LA}{v:Value}{k:Lv->List (Nat×Nat)->Step β}(hv:AQ s W a v)(hl:(Fm s us l m a k).leads t):
  ∃(x:l.D) (us':List (Nat×Nat)) (o:Is),(k ⟨l,x⟩ us').leads t/\l.rd m W.w W.fz v x o/\BL W us us' [o]:=by
 cases l with
 |int kk=>obtain⟨x,hl,hr⟩:=Bk h hv hl;exact⟨x,us,[],hl,(L.AZ _ rfl hr).1,.skip (.nil _)⟩
 |bool=>obtain⟨x,hl,hr⟩:=Bk h hv hl;exact⟨x,us,[],hl,(L.AZ _ rfl hr).1,.skip (.nil _)⟩
 |str=>obtain⟨x,hl,hr⟩:=Bk h hv hl;exact⟨x,us,[],hl,(L.AZ _ rfl hr).1,.skip (.nil _)⟩
 |sl t0 e=>
  unfold Fm at hl;cases m with
  |zero=>
   simp only at hl;split at hl
   ·rename_i hs;obtain⟨x,hl,hr⟩:=KX h hv hs hl;exact⟨x,us,[],hl,hr,.skip (.nil _)⟩
   ·exact hl.elim
  |succ m=>
   cases a with
   |DN=>exact⟨_,us,[],hl,by rw[show v=.slice none 0 0 from hv];exact Bz,.skip (.nil _)⟩
   |ref c=>
    simp only at hl;split at hl
    ·rename_i AA gen t' e' xs d yr;split at hl
     ·rename_i hc;simp only[AAJ,AAT,AAU]at hc;obtain⟨⟨⟨zC,hp⟩,hd⟩,hus⟩:=hc;subst zC;subst hd;have hp:c.p=[]:=by cases hq:c.p<;>simp_all[isNil]
      split at hl
      ·rename_i y hy;obtain⟨q1,q2⟩:=L.AH hy;cases q1;have q2:xs=y:=q2;subst q2;obtain⟨h',e2,zW,hn⟩:=hv gen _ _ _ _ yr (.inl hp);rw[hp]at hn;obtain⟨rfl,rfl⟩:=hn;obtain⟨u',zG,zE⟩:=(h.roots c.r).row yr;rw[zW]at zG;injection zG with zG;subst zG
       refine⟨xs,_,W.om (.lf c.r c.j),hl,zE,.take (u:=(c.r,c.j)) (λhh=>?_) (λb hb=>hb) (h.sep.nodup _) (.nil _)⟩;grind
      ·exact hl.elim
     ·exact hl.elim
    ·exact hl.elim
   |EI c lo hi=>
    simp only at hl;split at hl
    ·rename_i AA gen t' e' xs d yr;split at hl
     ·rename_i hc;simp only[AAJ,AAT,AAU]at hc;obtain⟨⟨⟨zC,hp⟩,hd⟩,hus⟩:=hc;subst zC;subst hd;have hp:c.p=[]:=by cases hq:c.p<;>simp_all[isNil]
      split at hl
      ·rename_i y hy;obtain⟨q1,q2⟩:=L.AH hy;cases q1;have q2:sub xs lo hi=y:=q2;subst q2;obtain⟨h',e2,A,n,k0,zW,hn,h1,h2,huv⟩:=hv gen _ _ _ _ yr (.inl hp);rw[hp]at hn;obtain⟨rfl,rfl⟩:=hn;obtain⟨u',zG,zE⟩:=(h.roots c.r).row yr;rw[zW]at zG;injection zG with zG;subst zG
       obtain⟨o',q1,q2,q3⟩:=CD.sub zE h1 h2;refine⟨sub xs lo hi,_,o',hl,?_,.take (u:=(c.r,c.j)) (λhh=>?_) (λb hb=>q2 b hb) (q3 (h.sep.nodup _)) (.nil _)⟩
       ·rw[huv];exact q1
       grind
      ·exact hl.elim
     ·exact hl.elim
    ·exact hl.elim
   |_=>exact hl.elim
theorem Dh(h:AU E s tm W):∀(ls:List (L×Nat)) (as:List LA) (g:Nat->Option Value) {us:List (Nat×Nat)} {k:List Lv->List (Nat×Nat)->Step β},(∀(j:Nat)(a:LA),as[j]?=some a->∃u,g j=some u/\AQ s W a u)->(Cc s ls as us k).leads t->
  ∃(vs:List Lv) (us':List (Nat×Nat)) (os:List Is),(k vs us').leads t/\vs.map (·.l)=ls.map (·.1)/\os.length=ls.length/\as.length=ls.length/\BL W us us' os/\
   ∀(j:Nat)(p:L×Nat)(lv:Lv),ls[j]?=some p->vs[j]?=some lv->∃y,g j=some y/\lv.l.rd p.2 W.w W.fz y lv.x ((os[j]?).getD [])
 | [],[],g,us,k,hg,hl=>⟨[],us,[],hl,rfl,rfl,rfl,.nil _,λj p lv hj=>ADu⟩
 | [],_::_,g,us,k,hg,hl=>hl.elim
 |_::_,[],g,us,k,hg,hl=>hl.elim
 |(l,m)::ls,a::as,g,us,k,hg,hl=>by obtain⟨u,hu,zh⟩:=hg 0 a rfl;obtain⟨x,us1,o,hl,hr,hb⟩:=EX h zh hl;obtain⟨vs,us2,os,hl,h1,h2,h3,h4,h5⟩:=Dh h ls as (λj=>g (j+1)) (λj a hj=>hg (j+1) a ADx) hl;refine⟨⟨l,x⟩::vs,us2,o::os,hl,by simp[h1],by simp[h2],by simp[h3],hb.append h4,λj p lv hj hv=>?_⟩;grind
def Jq(P:Program)(w:World)(tm:Array Value):List ResultVar->ADh->Prop
 | [],[]=>True
 | .tmp t::rv,u::us=>u=tm.getD t Go.undef/\Jq P w tm rv us
 | .cell t T::rv,u::us=>(do loadVar T (<-asAddr (tm.getD t Go.undef)):Sem Value).run P w=.ok u w/\Jq P w tm rv us
 |_,_=>False
theorem Kn{T:TypeId}{y:Ty}(hty:Ny P T y){as:List LA}{b:Nat}(hlen:as.length=y.ls.n)(zM:∀(j:Nat)(x:LA),as[j]?=some x->∃u,W.w.cell? ⟨b,0+j,none⟩=some u/\AQ s W x u):
  ∃u,(loadVar T ⟨b,0,none⟩).run P W.w=.ok u W.w/\E8 s W y.agg as u:=by
 cases hag:y.agg with
 |false=>
  obtain⟨l,hls,hlo⟩:=hty.lone hag;rw[hls]at hlen
  obtain⟨a,rfl⟩:∃a,as=[a]:=by
   match as,hlen with
   | [a],_=>grind
  obtain⟨u,hu,hy⟩:=zM 0 a rfl;obtain⟨d,hd,hnd⟩:=hlo.JZ
  have hagg:(isAgg T).run P W.w=.ok false W.w:=by
   unfold isAgg;rw[Sem.run_bind,run_underlying hd];cases d<;>simp_all
  simp only[AAx]at hu;exact⟨u,by simp[loadVar,hagg,load,Sem.run,hu],hy⟩
 |true=>
  obtain⟨fs,hfs,_⟩:=hty.agg hag;obtain⟨i,hi,zO,_⟩:=hty.info
  let f:Nat->Value:=λj=>(W.w.cell? ⟨b,0+j,none⟩).getD Go.undef
  let cs:ADh:=(List.range as.length).map f
  have hcs:∀j u,cs[j]?=some u->W.w.cell? ⟨b,0+j,none⟩=some u:=by
   intro j u hj;simp only[cs,AAb]at hj;by_cases zA:j<as.length
   ·rw[List.getElem?_range zA]at hj;simp at hj;obtain⟨u',zG,_⟩:=zM j as[j] (AAI zA);simp only[AAY]at zG;rw[<-hj];simp[f,zG]
   ·rw[List.getElem?_eq_none ADg]at hj;cases hj
  have zF:=run_loadVar_mid (P:=P) W.w b 0 T cs (.struct fs) (λj u hj=>hcs j u hj) hfs rfl (by simp[hi,zO,cs,hlen]);refine⟨.agg cs.toArray,zF,cs.toArray,rfl,by simp[cs],λj y hy=>?_⟩;grind
theorem Hd{ty:TypeId->Option Ty}(hty:∀t x,ty t=some x->Ny P t x)(h:AU E s tm W):∀(rs:List (Bool×List (L×Nat))) (rv:List ResultVar) {us:List (Nat×Nat)} {k:List Lv->List (Nat×Nat)->Step β},(D7 ty s rs rv us k).leads t->
  ∃(vals:ADh) (yv:List (List Lv)) (us':List (Nat×Nat)) (os:List Is),(k yv.flatten us').leads t/\BL W us us' os/\Jq P W.w tm rv vals/\
   ∀(off:Nat)(om:Nat->Is),(∀j,j<os.length->om (off+j)=(os[j]?).getD [])->EP W.w W.fz om rs vals yv off
 | [],[],us,k,hl=>⟨[],[],us,[],hl,.nil _,trivial,λoff om hom=>trivial⟩
 | [],_::_,us,k,hl=>hl.elim
 |_::_,[],us,k,hl=>hl.elim
 |(g,ls)::rs,r::rv,us,k,hl=>by
  have main:∀ {u:Value} {as:List LA},E8 s W g as u->(∀us,Jq P W.w tm rv us->Jq P W.w tm (r::rv) (u::us))->(Cc s ls as us λxs us=>D7 ty s rs rv us λys us=>k (xs++ys) us).leads t->
    ∃(vals:ADh) (yv:List (List Lv)) (us':List (Nat×Nat)) (os:List Is),(k yv.flatten us').leads t/\BL W us us' os/\Jq P W.w tm (r::rv) vals/\
     ∀(off:Nat)(om:Nat->Is),(∀j,j<os.length->om (off+j)=(os[j]?).getD [])->EP W.w W.fz om ((g,ls)::rs) vals yv off:=by
   intro u as zh hrv hl;obtain⟨vs,us1,os1,hl,h1,h2,h3,h4,h5⟩:=Dh h ls as (A5 g u) (λj a hj=>B8 zh j a hj) hl;obtain⟨vals,yv,us2,os2,hl,h6,h7,h8⟩:=Hd hty h rs rv hl;refine⟨u::vals,vs::yv,us2,os1++os2,No,h4.append h6,hrv _ h7,λoff om hom=>⟨⟨h1,?_,λj p lv hj hv=>?_⟩,?_⟩⟩
   ·cases g with
    |true=>obtain⟨cs,hcs,zO,_⟩:=zh;grind
    |false=>
     cases as with
     |nil=>exact zh.elim
     |cons b bs=>cases bs with
      |nil=>exact h3.symm
      |cons=>exact zh.elim
   ·grind
   ·refine h8 (off+ls.length) om λj hj=>?_;rw[show off+ls.length+j=off+(ls.length+j) by omega,hom (ls.length+j) ADg,ABO J];grind
  cases r with
  |tmp u=>
   simp only[D7]at hl;split at hl
   ·rename_i g' as hsl;split at hl
    ·rename_i hgg;have hgg:g=g':=by simpa using hgg
     subst hgg;have zh:E8 s W g as (tm.getD u Go.undef):=by have:=h.AO u;rw[hsl]at this;exact this
     exact main zh (λus hu=>⟨rfl,hu⟩) hl
    ·exact hl.elim
   ·exact hl.elim
  |cell u T=>
   simp only[D7]at hl;split at hl
   ·rename_i y r0 AA hyT hsl;split at hl
    ·rename_i hgg;simp only[AAJ,AAT]at hgg;obtain⟨hgg,hyn⟩:=hgg;subst hgg;have hv:AQ s W (.ptr r0 0 AA) (tm.getD u Go.undef):=by have:=h.AO u;rw[hsl]at this;exact this
     have hbx:(s.root r0).box=true/\(s.root r0).AA=AA:=by
      have hl2:=hl;simp only[St.DG]at hl2;split at hl2
      ·grind
      ·exact hl2.elim
     obtain⟨as,hl,_,b,off,hp,zM⟩:=F0 h hv hl;split at hl
     ·rename_i hlen;have hlen:as.length=ls.length:=ADw
      have hoff:off=0:=by
       rw[hv hbx.1 hbx.2]at hp;injection hp with hp;injection hp with hp;injection hp with _ h2
       exact h2.symm
      subst hoff;obtain⟨v,hv1,hv2⟩:=Kn (hty T y hyT) J zM;exact main hv2 (λus hu=>⟨by simp[hp,asAddr,hv1],hu⟩) hl
     ·exact hl.elim
    ·exact hl.elim
   ·exact hl.elim
def ME(E:Cy)(s:St)(W:Wd)(i:Nat)(pm:PM)(vs0 vs:List Lv)(os:List Is):Prop:=match pm with
 | .box ls=>(s.root i).box=true/\(s.root i).AA=1/\(s.root i).ls.length=ls.length/\vs.map (·.l)=ls.map (·.1)/\os.length=ls.length/\
   (∀(j:Nat)(p:L×Nat)(lv:Lv),ls[j]?=some p->vs[j]?=some lv->∃y,W.w.cell? ⟨W.bk i,j,none⟩=some y/\lv.l.rd p.2 W.w W.fz y lv.x ((os[j]?).getD []))/\
   ∀(j:Nat)(p:L×Nat),ls[j]?=some p->p.2=3->W.w.cell? ⟨W.bk i,j,none⟩=E.Ob i j
 | .row g ls=>vs.length=ls.length/\os.length=ls.length/\∀(j:Nat)(p:L×Nat)(lv:Lv),ls[j]?=some p->vs[j]?=some lv->
   (Bx p.1=true/\lv.l=p.1/\∃u,E.Ob i j=some u/\lv.l.rd p.2 W.w W.fz u lv.x ((os[j]?).getD []))\/(Bx p.1=false/\vs0[j]?=some lv/\os[j]?=some [])
 |_=>vs=[]/\os=[]
theorem I3{i:Nat}:∀(j:Nat) (ls:List (L×Nat)),JU s i j ls=true->∀(m:Nat)(p:L×Nat),ls[m]?=some p->p.2=3->∃(gen:Nat) (t:TypeId) (e:Ls) (xs:List e.D) (d:Nat),s.leaf i (j+m)=.arr 1 gen t e xs d
 |_,[],_,m,p,hp,_=>ADy
 |j,(l,d)::ls,hk,m,p,hp,h3=>by
  simp only[JU,AAJ]at hk;cases m with
  |zero=>
   simp only[List.getElem?_cons_zero,Option.some.injEq]at hp;subst hp;have h3:d=3:=h3;subst h3;have hk:=hk.1;simp only[beq_self_eq_true,cond_true]at hk;cases hq:s.leaf i j with
   |arr AA gen t e xs d=>
    rw[hq]at hk;have hk:AA=1:=by simpa using hk
    subst hk;exact⟨gen,t,e,xs,d,rfl⟩
   |_=>rw[hq]at hk;cases hk
  |succ m=>
   obtain⟨gen,t,e,xs,d',hq⟩:=I3 (j+1) ls hk.2 m p (by simpa using hp) h3;exact⟨gen,t,e,xs,d',by rw[show j+(m+1)=j+1+m by omega];exact hq⟩
theorem FN(h:AU E s tm W)(i:Nat):∀(j:Nat) (ls:List (L×Nat)) (vs0 rest:List Lv) {us:List (Nat×Nat)} {k:List Lv->List (Nat×Nat)->Step β},vs0.length=ls.length->(Eu s i j ls (vs0++rest) us k).leads t->
  ∃(vs:List Lv) (us':List (Nat×Nat)) (os:List Is),(k vs us').leads t/\vs.length=ls.length/\os.length=ls.length/\BL W us us' os/\∀(m:Nat)(p:L×Nat)(lv:Lv),ls[m]?=some p->vs[m]?=some lv->
   (Bx p.1=true/\lv.l=p.1/\∃u,E.Ob i (j+m)=some u/\lv.l.rd p.2 W.w W.fz u lv.x ((os[m]?).getD []))\/(Bx p.1=false/\vs0[m]?=some lv/\os[m]?=some [])
 |j,[],vs0,rest,us,k,hlen,hl=>⟨[],us,[],hl,rfl,rfl,.nil _,λm p lv hp=>ADy⟩
 |j,_::_,[],rest,us,k,hlen,hl=>ADt
 |j,(l,d)::ls,x::vs0,rest,us,k,hlen,hl=>by
  have zf:vs0.length=ls.length:=ADw
  have plain:Bx l=false->(Eu s i (j+1) ls (vs0++rest) us λys us=>k (x::ys) us).leads t->∃(vs:List Lv) (us':List (Nat×Nat)) (os:List Is),(k vs us').leads t/\vs.length=((l,d)::ls).length/\os.length=((l,d)::ls).length/\BL W us us' os/\∀(m:Nat)(p:L×Nat)(lv:Lv),((l,d)::ls)[m]?=some p->vs[m]?=some lv->
    (Bx p.1=true/\lv.l=p.1/\∃u,E.Ob i (j+m)=some u/\lv.l.rd p.2 W.w W.fz u lv.x ((os[m]?).getD []))\/(Bx p.1=false/\(x::vs0)[m]?=some lv/\os[m]?=some []):=by
   intro hs hl;obtain⟨vs,us1,os,hl,h1,h2,h3,h4⟩:=FN h i (j+1) ls vs0 rest zf hl;refine⟨x::vs,us1,[]::os,hl,by simp[h1],by simp[h2],.skip h3,λm p lv hp hv=>?_⟩;cases m with
   |zero=>grind
   |succ m=>
    grind
  cases l with
  |int i=>exact plain rfl hl
  |bool=>exact plain rfl hl
  |str=>exact plain rfl hl
  |sl t0 e=>
   simp only[ABH,Eu]at hl;split at hl
   ·rename_i gen t' e' zm d' yr;obtain⟨u,hu,zE⟩:=(h.roots i).row yr;have hini:=h.init.1 _ _ _ _ _ _ _ yr
    have hv:AQ s W (.ref ⟨i,j,1,gen,[]⟩) u:=by intro gen2 t2 e2 xs2 d2 hl2 _;have hl2:s.leaf i j=_:=hl2;exact⟨u,e2,hu,rfl,rfl⟩
    obtain⟨y,us1,o,hl,hr,hb⟩:=EX h hv hl;obtain⟨vs,us2,os,hl,h1,h2,h3,h4⟩:=FN h i (j+1) ls vs0 rest zf hl;refine⟨⟨.sl t0 e,y⟩::vs,us2,o::os,hl,by simp[h1],by simp[h2],hb.append h3,λm p lv hp hv=>?_⟩;cases m with
    |zero=>simp at hp hv;subst hp;subst hv;exact .inl ⟨rfl,rfl,u,No,No⟩
    |succ m=>
     grind
   ·obtain⟨x,us1,o,hl,hr,hb⟩:=EX h (v:=Go.undef) (show AQ s W .bad Go.undef from trivial) hl;cases d with
    |zero=>
     exfalso;exact absurd hl id
    |succ d=>exact absurd hl id
theorem Ip(h:AU E s tm W):∀(i:Nat)(ps:List PM) (vss0:List (List Lv)) {us:List (Nat×Nat)} {k:List Lv->Step β},vss0.length=ps.length->(∀(j:Nat)(pm:PM)(vs:List Lv),ps[j]?=some pm->vss0[j]?=some vs->vs.length=pm.ins.length)->(C8 s i ps vss0.flatten us k).leads t->
  ∃(yv:List (List Lv)) (us':List (Nat×Nat)) (oss:List (List Is)),(k yv.flatten).leads t/\yv.length=ps.length/\oss.length=ps.length/\BL W us us' oss.flatten/\
   ∀(j:Nat)(pm:PM)(vs0 vs:List Lv) (os:List Is),ps[j]?=some pm->vss0[j]?=some vs0->yv[j]?=some vs->oss[j]?=some os->ME E s W (i+j) pm vs0 vs os
 |i,[],vss0,us,k,hlen,zw,hl=>⟨[],us,[],hl,rfl,rfl,.nil _,λj pm vs0 vs os hj=>ADu⟩
 |i,_::_,[],us,k,hlen,zw,hl=>ADt
 |i,pm::ps,vs0::vss0,us,k,hlen,zw,hl=>by
  have zf:vss0.length=ps.length:=ADw
  have hvl':∀(j:Nat)(pm:PM)(vs:List Lv),ps[j]?=some pm->vss0[j]?=some vs->vs.length=pm.ins.length:=λj pm' vs h1 h2=>zw (j+1) pm' vs No No;have hv0:=zw 0 pm vs0 rfl rfl
  have fin:∀ {us1:List (Nat×Nat)} (vs:List Lv) (os:List Is),BL W us us1 os->ME E s W i pm vs0 vs os->(C8 s (i+1) ps vss0.flatten us1 λys=>k (vs++ys)).leads t->
    ∃(yv:List (List Lv)) (us':List (Nat×Nat)) (oss:List (List Is)),(k yv.flatten).leads t/\yv.length=(pm::ps).length/\oss.length=(pm::ps).length/\BL W us us' oss.flatten/\
     ∀(j:Nat)(pm':PM)(vs1 vs:List Lv) (os:List Is),(pm::ps)[j]?=some pm'->(vs0::vss0)[j]?=some vs1->yv[j]?=some vs->oss[j]?=some os->ME E s W (i+j) pm' vs1 vs os:=by
   intro us1 vs os hb hp hl;obtain⟨yv,us2,oss,hl,h1,h2,h3,h4⟩:=Ip h (i+1) ps vss0 zf hvl' hl;refine⟨vs::yv,us2,os::oss,No,by simp[h1],by simp[h2],by simpa using hb.append h3,λj pm' vs1 vs' zn hj hv1 hv ho=>?_⟩;cases j with
   |zero=>grind
   |succ j=>
    grind
  cases pm with
  |val g ls=>
   have e:vs0.length=ls.length:=hv0;simp only[AAk,C8]at hl;rw[<-e,AA2]at hl;exact fin [] [] (.nil _) ⟨rfl,rfl⟩ AD8
  |fn f=>
   have e:vs0=[]:=AAO hv0;subst e;simp only[AAk,AA0,C8]at hl;exact fin [] [] (.nil _) ⟨rfl,rfl⟩ AD8
  |box ls=>
   have e:vs0.length=ls.length:=by simpa[PM.ins]using hv0
   simp only[AAk,C8]at hl;rw[show(vs0++vss0.flatten).drop ls.length=vss0.flatten by rw[<-e,AA2]]at hl;split at hl
   ·rename_i hc;simp only[AAJ,AAT]at hc;obtain⟨⟨⟨hb,zC⟩,hlen⟩,hkp⟩:=hc;have hv:AQ s W (.ptr i 0 1) (.pointer (some ⟨W.bk i,0,none⟩)):=λ_ _=>rfl;obtain⟨as,hl,_,b,off,hp,zM⟩:=F0 h hv hl;injection hp with hp;injection hp with hp;injection hp with hp1 hp2
    subst hp1;subst hp2;obtain⟨vs,us1,os,hl,h1,h2,h3,h4,h5⟩:=Dh h ls as (λj=>W.w.cell? ⟨W.bk i,0+j,none⟩) zM hl;refine fin vs os h4 ⟨hb,zC,hlen,h1,h2,λj p lv hj hv=>?_,λj p hj h3=>?_⟩ hl
    ·grind
    ·obtain⟨gen,t,e,xs,d,hq⟩:=I3 0 ls hkp j p hj h3;rw[AAY]at hq;rw[<-h.init.1 _ _ _ _ _ _ _ hq];obtain⟨_,q2⟩:=h.roots i;rw[AAP hb]at q2;obtain⟨_,arr0,T0,fr0,k1,_,_,k2⟩:=q2;rw[k2];simp[World.cell?,k1]
   ·exact hl.elim
  |row g ls=>
   have e:vs0.length=ls.length:=by simpa[PM.ins]using hv0
   simp only[AAk,C8]at hl;rw[show(vs0++vss0.flatten).drop ls.length=vss0.flatten by rw[<-e,AA2]]at hl;obtain⟨vs,us1,os,hl,h1,h2,h3,h4⟩:=FN h i 0 ls vs0 _ e hl;exact fin vs os h3 ⟨h1,h2,λj p lv hp hv=>No⟩ hl
end
end Go.Ev
namespace Go.Ev
def Dq(i:Nat)(pm:PM)(vs:List Lv):AV:=match pm with
 | .val g _=>.v g (vs.map λx=>.sc x.l x.x)
 | .box _=>one (.ptr i 0 1)
 | .row g ls=>.v g (A9 i 0 ls vs)
 | .fn f=>one (.fn f)
def CF(pm:PM)(vs:List Lv)(r:Bo):Bo:=match pm with
 | .box ls=>⟨true,1,AY 1 ls vs⟩
 | .row _ ls=>⟨false,1,AY 1 ls vs⟩
 |_=>r
theorem Da(i:Nat):∀(j:Nat) (ls:List (L×Nat)) (vs:List Lv),vs.length=ls.length->(A9 i j ls vs).length=ls.length
 |_,[],[],_=>rfl
 |_,[],_::_,h=>ADl
 |_,_::_,[],h=>ADl
 |j,(l,d)::ls,x::vs,h=>by simp[A9,Da i (j+1) ls vs ADn]
theorem F6(i:Nat):∀(j:Nat) (ls:List (L×Nat)) (vs rest:List Lv),vs.length=ls.length->A9 i j ls (vs++rest)=A9 i j ls vs
 |_,[],[],rest,_=>by cases rest<;>simp[A9]
 |_,[],_::_,_,h=>ADl
 |_,_::_,[],_,h=>ADl
 |j,(l,d)::ls,x::vs,rest,h=>by simp[A9,F6 i (j+1) ls vs rest ADn]
theorem Gx(i:Nat):∀(j:Nat) (ls:List (L×Nat)) (vs:List Lv) (m:Nat) (p:L×Nat) (lv:Lv),ls[m]?=some p->vs[m]?=some lv->(A9 i j ls vs)[m]?=some (if Bx p.1 then .ref ⟨i,j+m,1,1,[]⟩else .sc lv.l lv.x)
 |_,[],_,m,p,lv,h,_=>ADl
 |_,_::_,[],m,p,lv,_,h=>ADl
 |j,(l,d)::ls,x::vs,0,p,lv,h1,h2=>by
  simp at h1 h2;subst h1;subst h2;cases l<;>rfl
 |j,(l,d)::ls,x::vs,m+1,p,lv,h1,h2=>by have:=Gx i (j+1) ls vs m p lv No No;rw[show j+1+m=j+(m+1) by omega]at this;simpa[A9]using this
theorem F7(i:Nat):∀(j:Nat) (ls:List (L×Nat)) (vs:List Lv) (a:LA),a∈A9 i j ls vs->∀n∈a.AG,n=1
 |_,[],_,a,h=>by simp[A9]at h
 |_,_::_,[],a,h=>by simp[A9]at h
 |j,(l,d)::ls,x::vs,a,h=>by
  rcases AAd.1 (show a∈_::A9 i (j+1) ls vs from h)with rfl|h
  ·intro n hn;cases l<;>simp[LA.AG]at hn;exact hn
  ·exact F7 i (j+1) ls vs a h
theorem C0(s:St)(w:Wr):(s.AF w).sl.length=s.sl.length/\(s.AF w).ro.length=s.ro.length:=by
 cases w<;>simp[St.AF,CZ]
def Gn(i:Nat)(pm:PM)(vs:List Lv):List Wr:=match pm with
 | .val _ _=>[.slot i (Dq i pm vs)]
 | .fn _=>[.slot i (Dq i pm vs)]
 |_=>[.root i (CF pm vs dead),.slot i (Dq i pm vs)]
theorem MT(i:Nat)(pm:PM)(vs:List Lv)(s:St)(h1:i<s.sl.length)(h2:i<s.ro.length):
  (s.app (Gn i pm vs)).sl.length=s.sl.length/\(s.app (Gn i pm vs)).ro.length=s.ro.length/\(∀t,t≠i->(s.app (Gn i pm vs)).slot t=s.slot t/\(s.app (Gn i pm vs)).root t=s.root t)/\
   (s.app (Gn i pm vs)).slot i=Dq i pm vs/\(s.app (Gn i pm vs)).root i=CF pm vs (s.root i):=by
 have one:∀x,(s.app [.slot i x]).sl.length=s.sl.length/\(s.app [.slot i x]).ro.length=s.ro.length/\(∀t,t≠i->(s.app [.slot i x]).slot t=s.slot t/\(s.app [.slot i x]).root t=s.root t)/\
   (s.app [.slot i x]).slot i=x/\(s.app [.slot i x]).root i=s.root i:=by
  intro x;refine⟨(C0 s _).1,(C0 s _).2,λt ht=>⟨?_,rfl⟩,?_,rfl⟩
  ·show(s.AF (.slot i x)).slot t=_;rw[BO,AAQ (λhh=>ht hh.1.symm)]
  ·show(s.AF (.slot i x)).slot i=_;rw[BO,AAP ⟨rfl,h1⟩]
 have two:∀y x,(s.app [.root i y,.slot i x]).sl.length=s.sl.length/\(s.app [.root i y,.slot i x]).ro.length=s.ro.length/\(∀t,t≠i->(s.app [.root i y,.slot i x]).slot t=s.slot t/\(s.app [.root i y,.slot i x]).root t=s.root t)/\
   (s.app [.root i y,.slot i x]).slot i=x/\(s.app [.root i y,.slot i x]).root i=y:=by
  intro y x;have hsl:(s.AF (.root i y)).sl=s.sl:=rfl;refine⟨(C0 (s.AF (.root i y)) (.slot i x)).1.trans (C0 s _).1,(C0 (s.AF (.root i y)) (.slot i x)).2.trans (C0 s _).2,λt ht=>⟨?_,?_⟩,?_,?_⟩
  ·show((s.AF (.root i y)).AF (.slot i x)).slot t=_;rw[BO,AAQ (λhh=>ht hh.1.symm)];rfl
  ·show(s.AF (.root i y)).root t=_;rw[As,AAQ (λhh=>ht hh.1.symm)]
  ·show((s.AF (.root i y)).AF (.slot i x)).slot i=_;rw[BO,AAP ⟨rfl,h1⟩]
  ·show(s.AF (.root i y)).root i=_;rw[As,AAP ⟨rfl,h2⟩]
 cases pm with
 |val g ls=>exact one _
 |fn f=>exact one _
 |box ls=>exact two _ _
 |row g ls=>exact two _ _
theorem Hy:∀(ps:List PM) (yv:List (List Lv)) (i:Nat) {ws:List Wr} (s:St),yv.length=ps.length->(∀(j:Nat)(pm:PM)(vs:List Lv),ps[j]?=some pm->yv[j]?=some vs->vs.length=pm.ins.length)->
  DF i ps yv.flatten=some ws->i+ps.length<=s.sl.length->i+ps.length<=s.ro.length->
  (s.app ws).sl.length=s.sl.length/\(s.app ws).ro.length=s.ro.length/\(∀t,(t<i\/i+ps.length<=t)->(s.app ws).slot t=s.slot t/\(s.app ws).root t=s.root t)/\
   ∀(j:Nat)(pm:PM)(vs:List Lv),ps[j]?=some pm->yv[j]?=some vs->(s.app ws).slot (i+j)=Dq (i+j) pm vs/\(s.app ws).root (i+j)=CF pm vs (s.root (i+j))
 | [],[],i,ws,s,hlen,hv,h,h1,h2=>by
  have:ws=[]:=by simpa[DF]using h.symm
  subst this;exact⟨rfl,rfl,λt ht=>⟨rfl,rfl⟩,λj pm vs hj=>ADu⟩
 | [],_::_,i,ws,s,hlen,hv,h,h1,h2=>ADt
 |_::_,[],i,ws,s,hlen,hv,h,h1,h2=>ADt
 |pm::ps,vs::yv,i,ws,s,hlen,hv,h,h1,h2=>by
  have hl0:vs.length=pm.ins.length:=hv 0 pm vs rfl rfl
  have hex:∃ws',DF (i+1) ps yv.flatten=some ws'/\ws=Gn i pm vs++ws':=by
   cases pm with
   |val g ls=>
    simp only[AAk,DF]at h;have hl1:vs.length=ls.length:=hl0;rw[<-hl1,AA2,List.take_left]at h;split at h
    ·rename_i ws' hq;injection h with h
     exact⟨ws',hq,h.symm⟩
    ·cases h
   |fn f=>
    have hl1:vs=[]:=AAO hl0;subst hl1;simp only[AAk,DF,AA0]at h;split at h
    ·rename_i ws' hq;injection h with h
     exact⟨ws',hq,h.symm⟩
    ·cases h
   |box ls=>
    simp only[AAk,DF]at h;have hl1:vs.length=ls.length:=by simpa[PM.ins]using hl0
    have hd:(vs++yv.flatten).drop ls.length=yv.flatten:=by rw[<-hl1,AA2]
    rw[hd,DH 1 ls vs _ hl1]at h;split at h
    ·rename_i ws' hq;injection h with h
     exact⟨ws',hq,h.symm⟩
    ·cases h
   |row g ls=>
    simp only[AAk,DF]at h;have hl1:vs.length=ls.length:=by simpa[PM.ins]using hl0
    have hd:(vs++yv.flatten).drop ls.length=yv.flatten:=by rw[<-hl1,AA2]
    rw[hd,DH 1 ls vs _ hl1,F6 i 0 ls vs _ hl1]at h;split at h
    ·rename_i ws' hq;injection h with h
     exact⟨ws',hq,h.symm⟩
    ·cases h
  obtain⟨ws',hq,rfl⟩:=hex;simp only[ABG]at h1 h2;obtain⟨a1,a2,a3,a4,a5⟩:=MT i pm vs s J J;obtain⟨b1,b2,b3,b4⟩:=Hy ps yv (i+1) (s.app (Gn i pm vs)) ADw (λj pm' vs' hj hv'=>hv (j+1) pm' vs' ADx (by simpa using hv')) hq (by rw[a1];omega) (by rw[a2];omega);rw[BA];grind
section
variable {P:Program}{w:World}{fz:Nat->Prop}{ps:List PM}{args:ADh}{yv:List (List Lv)}{bk:Nat->Nat}{om:Key->Is}{N:Nat}{ws:List Wr}
open Classical in
noncomputable def Fp (ps:List PM) (w:World) (args:ADh) (bk:Nat->Nat) (r j:Nat):Option Value:=match ps[r]? with
 |some (.box _)=>w.cell? ⟨bk r,j,none⟩
 |some (.row g _)=>(args[r]?).bind λu=>A5 g u j
 |_=>none
noncomputable def Hp (T:List (String×Array Value)) (ps:List PM) (w:World) (fz:Nat->Prop) (args:ADh) (bk:Nat->Nat) (om:Key->Is):Cy:=
 {base:=w.heap.size,io:=λb=>∃k,b∈om k,fa:=fz,w0:=w,Ob:=Fp ps w args bk,PS:=bk,Nu:=T }
noncomputable def L8 (ps:List PM) (w:World) (fz:Nat->Prop) (args:ADh) (bk:Nat->Nat) (om:Key->Is):Wd:=
 {w:=w,fz:=fz,cv:=Fp ps w args bk,bk:=bk,om:=om }
theorem NG.kinds{pm:PM}{u:Value}{vs:List Lv}{b:Nat}{own:Nat->Is}(h:NG w fz pm u vs b own):vs.length=pm.ins.length:=by
 cases pm with
 |val g ls=>have:=congrArg List.length h.1;simpa[PM.ins]using this
 |box ls=>have:=congrArg List.length h.2.1;simpa[PM.ins]using this
 |row g ls=>have:=congrArg List.length h.1;simpa[PM.ins]using this
 |fn f=>rw[h.2];rfl
theorem Hg(n t:Nat):(blank n).slot t=one .bad:=by
 show nth _ (List.replicate n (one .bad)) t=_;rw[Ae,List.getElem?_replicate];split<;>rfl
theorem D8(n t:Nat):(blank n).root t=dead:=by
 show nth _ (List.replicate n dead) t=_;rw[Ae,List.getElem?_replicate];split<;>rfl
theorem MU(yt:EN ps w fz args yv bk om)(hp:DF 0 ps yv.flatten=some ws)(hN:ps.length<=N):Inv N ((blank N).app ws):=by
 obtain⟨b1,b2,b3,b4⟩:=Hy ps yv 0 (blank N) yt.Bs (λj pm vs hj hv=>by
  obtain⟨u,hu⟩:∃u,args[j]?=some u:=⟨_,AAI (by rw[yt.len];grind)⟩;exact(yt.each j pm u vs hj hu hv).kinds) hp (by simp[blank];exact hN) (by simp[blank];exact hN)
 simp only[AAY]at b3 b4;have hctr:((blank N).app ws).Bp=2:=JJ ws _
 have get:∀t,(∃pm vs,ps[t]?=some pm/\yv[t]?=some vs/\((blank N).app ws).slot t=Dq t pm vs/\((blank N).app ws).root t=CF pm vs dead)\/(((blank N).app ws).slot t=one .bad/\((blank N).app ws).root t=dead):=by
  intro t;rcases AAr t ps.length with zA|zu
  ·left;have h1:=AAI zA;have h2:=AAI (show t<yv.length by rw[yt.Bs];exact zA);obtain⟨c1,c2⟩:=b4 t _ _ h1 h2;rw[D8]at c2;grind
  ·right;obtain⟨c1,c2⟩:=b3 t (.inr zu);rw[Hg]at c1;rw[D8]at c2;grind
 have nl:∀(ls:List (L×Nat)) (vs:List Lv),∀a∈AY 1 ls vs,(∀n∈a.AG,n=1)/\a.Ce=true:=by
  intro ls
  induction ls with
  |nil=>intro vs a ha;simp[AY]at ha
  |cons p ls ih=>
   intro vs a ha;cases vs with
   |nil=>simp[AY]at ha
   |cons x vs=>
    rcases AAd.1 (show a∈BR 1 p.2 x::AY 1 ls vs from ha)with rfl|ha
    ·exact KK 1 _ _
    grind
 have rt:∀(pm:PM)(vs:List Lv),((CF pm vs dead).AA<2)/\∀a∈(CF pm vs dead).ls,(∀n∈a.AG,n=1)/\a.Ce=true:=by
  intro pm vs;cases pm with
  |val g ls=>exact⟨by simp[CF,dead],λa ha=>by simp[CF,dead]at ha⟩
  |fn f=>exact⟨by simp[CF,dead],λa ha=>by simp[CF,dead]at ha⟩
  |box ls=>exact⟨by simp[CF],λa ha=>nl ls vs a ha⟩
  |row g ls=>exact⟨by simp[CF],λa ha=>nl ls vs a ha⟩
 refine⟨⟨λt n hn=>?_,λr n hn=>?_⟩,J,by rw[b1];simp[blank],by rw[b2];simp[blank],λr a ha=>?_⟩
 ·rw[hctr];rcases get t with⟨pm,vs,_,_,h1,_⟩|⟨h1,_⟩
  ·rw[h1]at hn;cases pm with
   |val g ls=>
    exfalso;simp only[Dq,AV.AG,AAL,AAt]at hn;obtain⟨a,⟨x,_,rfl⟩,hn⟩:=hn;cases hn
   |fn f=>simp[Dq,one,AV.AG,LA.AG]at hn
   |box ls=>simp[Dq,one,AV.AG,LA.AG]at hn;omega
   |row g ls=>
    obtain⟨a,ha,hn⟩:=AAL.1 (show n∈(A9 t 0 ls vs).flatMap LA.AG from hn);have:=F7 t 0 ls vs a ha n hn;omega
  ·rw[h1]at hn;simp[one,AV.AG,LA.AG]at hn
 ·rw[hctr];rcases get r with⟨pm,vs,_,_,_,h1⟩|⟨_,h1⟩
  ·rw[h1]at hn;rcases AAd.1 (show n∈(CF pm vs dead).AA::(CF pm vs dead).ls.flatMap LA.AG from hn)with rfl|hn
   all_goals grind
  ·rw[h1]at hn;simp[dead,Bo.AG]at hn;omega
 ·rcases get r with⟨pm,vs,_,_,_,h1⟩|⟨_,h1⟩
  ·grind
  ·rw[h1]at ha;simp[dead]at ha
theorem MV{T:List (String×Array Value)}(yt:EN ps w fz args yv bk om)(hp:DF 0 ps yv.flatten=some ws)(hN:ps.length<=N):
  AU (Hp T ps w fz args bk om) ((blank N).app ws) (args.toArray++Array.replicate (N-args.toArray.size) undef) (L8 ps w fz args bk om):=by
 obtain⟨b1,b2,b3,b4⟩:=Hy ps yv 0 (blank N) yt.Bs (λj pm vs hj hv=>by
  obtain⟨u,hu⟩:∃u,args[j]?=some u:=⟨_,AAI (by rw[yt.len];grind)⟩;exact(yt.each j pm u vs hj hu hv).kinds) hp (by simp[blank];exact hN) (by simp[blank];exact hN)
 simp only[AAY]at b3 b4
 have zO:(args.toArray++Array.replicate (N-args.toArray.size) undef).size=N:=by have:=yt.len;simp;omega
 have get:∀t,(∃pm u vs,ps[t]?=some pm/\args[t]?=some u/\yv[t]?=some vs/\((blank N).app ws).slot t=Dq t pm vs/\((blank N).app ws).root t=CF pm vs dead/\(args.toArray++Array.replicate (N-args.toArray.size) undef).getD t Go.undef=u) \/
   (ps[t]?=none/\((blank N).app ws).slot t=one .bad/\((blank N).app ws).root t=dead):=by
  intro t;rcases AAr t ps.length with zA|zu
  ·left;have h1:=AAI zA;have hlt2:t<args.length:=by rw[yt.len];exact zA
   have h0:=AAI hlt2;have h2:=AAI (show t<yv.length by rw[yt.Bs];exact zA);obtain⟨c1,c2⟩:=b4 t _ _ h1 h2;rw[D8]at c2;refine⟨_,_,_,h1,h0,h2,c1,c2,?_⟩;rw[AAi,AAu J];simp[hlt2]
  ·right;obtain⟨c1,c2⟩:=b3 t (.inr zu);rw[Hg]at c1;rw[D8]at c2;grind
 refine⟨by rw[b1,zO];simp[blank],by rw[b2,zO];simp[blank],λt=>?_,λr=>?_,?_,⟨λ_ _ _ _ _ _ _ _=>rfl,λ_ _ _=>rfl⟩⟩
 ·rcases get t with⟨pm,u,vs,h1,h2,h3,h4,h5,h6⟩|⟨_,h4,_⟩
  ·rw[h4,h6];have ha:=yt.each t pm u vs h1 h2 h3;cases pm with
   |val g ls=>
    obtain⟨a1,a2,a3⟩:=ha;have hlen:vs.length=ls.length:=by have:=congrArg List.length a1;simpa using this
    have zE:∀(j:Nat)(lv:Lv),vs[j]?=some lv->∃y,A5 g u j=some y/\lv.l.rd 0 w fz y lv.x []:=by
     intro j lv hj;have zA:j<ls.length:=by rw[<-hlen];exact(AAK.1 hj).1
     exact a3 j (ls[j],0) lv (by simp[zA]) hj
    cases g with
    |false=>
     have hl1:vs.length=1:=by rw[hlen];simpa using a2
     obtain⟨lv,rfl⟩:∃lv,vs=[lv]:=by
      match vs,hl1 with
      | [x],_=>grind
     obtain⟨y,hy,hr⟩:=zE 0 lv rfl;simp[A5]at hy;subst hy;exact hr
    |true=>
     obtain⟨cs,rfl,hcs⟩:=a2;refine⟨cs,rfl,No,λj a hj=>?_⟩;simp only[AAb]at hj;cases hq:vs[j]? with
     |none=>grind
     |some lv=>
      rw[hq]at hj;injection hj with hj;subst hj
      obtain⟨y,hy,hr⟩:=zE j lv hq;exact⟨y,hy,hr⟩
   |box ls=>exactλ_ _=>ha.1
   |row g ls=>
    obtain⟨a1,a2,a3⟩:=ha;have hlen:vs.length=ls.length:=by have:=congrArg List.length a1;simpa using this
    have yr:∀(j:Nat)(p:L×Nat)(lv:Lv),ls[j]?=some p->vs[j]?=some lv->((blank N).app ws).leaf t j=BR 1 p.2 lv:=by intro j p lv p1 p2;show nth LA.bad (((blank N).app ws).root t).ls j=_;rw[h5];show nth LA.bad (AY 1 ls vs) j=_;rw[Ae,B7 1 ls vs j _ _ p1 p2];rfl
    have zh:∀(j:Nat)(a:LA),(A9 t 0 ls vs)[j]?=some a->∃y,A5 g u j=some y/\AQ ((blank N).app ws) (L8 ps w fz args bk om) a y:=by
     intro j a hj;have zA:j<ls.length:=by rw[<-Da t 0 ls vs hlen];exact(AAK.1 hj).1
     have p1:=AAI zA;have p2:=AAI (show j<vs.length by omega);obtain⟨y,hy,hr⟩:=a3 j _ _ p1 p2;refine⟨y,hy,?_⟩;rw[Gx t 0 ls vs j _ _ p1 p2]at hj;injection hj with hj
     subst hj
     have hl1:vs[j].l=ls[j].1:=by have:=congrArg (λx=>x[j]?) a1;simpa[p1,p2]using this
     split
     ·intro gen t2 e2 xs2 d2 hl _;have hl:((blank N).app ws).leaf t (0+j)=_:=hl;rw[AAY,yr j _ _ p1 p2]at hl;refine⟨y,e2,?_,rfl,rfl⟩;show Fp ps w args bk t (0+j)=some y;simp[Fp,h1,h2,hy]
     ·rename_i hs;have:=(L.AZ (d':=0) (w':=w) (yw:=fz) vs[j].l No hr);have h7:=this.1;rw[show(λj=>om (Key.lf t j)) j=[]from this.2]at h7;exact h7
    cases g with
    |false=>
     obtain⟨a,ha2⟩:∃a,A9 t 0 ls vs=[a]:=by
      have:=(Da t 0 ls vs hlen).trans a2
      match h:A9 t 0 ls vs,this with
      | [x],_=>grind
     show E8 _ _ false (A9 t 0 ls vs) u;obtain⟨y,hy,hr⟩:=zh 0 a (by rw[ha2];rfl);simp[A5]at hy;subst hy;rw[ha2];exact hr
    |true=>
     obtain⟨cs,rfl,hcs⟩:=a2;exact⟨cs,rfl,by rw[hcs,Da t 0 ls vs hlen],λj a hj=>zh j a hj⟩
   |fn f=>exact ha.1
  ·rw[h4];trivial
 ·have hnone:(∀ls,ps[r]?≠some (.box ls))->(∀g ls,ps[r]?≠some (.row g ls))->ER ((blank N).app ws) (L8 ps w fz args bk om) r dead:=by
   intro q1 q2;refine⟨λj=>?_,?_⟩
   ·have:nth LA.bad dead.ls j=.bad:=by simp[dead,nth]
    rw[this];exact⟨yt.none r q1 q2 j,λ_ _=>trivial⟩
   ·show om (.blk r)=[];rw[yt.blk];split
    ·rename_i ls hq;exact absurd hq (q1 ls)
    ·rfl
  rcases get r with⟨pm,u,vs,h1,h2,h3,h4,h5,h6⟩|⟨h1,_,h5⟩
  ·rw[h5];have ha:=yt.each r pm u vs h1 h2 h3;cases pm with
   |val g ls=>exact hnone (λls' hq=>by rw[h1]at hq;cases hq) (λg ls hq=>by rw[h1]at hq;cases hq)
   |fn f=>exact hnone (λls' hq=>by rw[h1]at hq;cases hq) (λg ls hq=>by rw[h1]at hq;cases hq)
   |box ls=>
    obtain⟨a1,a2,arr,T,fr,a3,a4,a5,a6⟩:=ha;have hlen:vs.length=ls.length:=by have:=congrArg List.length a2;simpa using this
    have zW:∀j,Fp ps w args bk r j=arr[j]?:=by intro j;simp[Fp,h1,World.cell?,a3]
    refine⟨λj=>?_,?_⟩
    ·show Aa _ _ (nth .bad (AY 1 ls vs) j) (Fp ps w args bk r j) (om (.lf r j));rcases AAr j ls.length with zA|zu
     ·have p1:=AAI zA;have p2:=AAI (show j<vs.length by omega);obtain⟨y,hy,hr⟩:=a6 j _ _ p1 p2;rw[Ae,B7 1 ls vs j _ _ p1 p2,zW,hy];exact Fb (W':=L8 ps w fz args bk om) hr
     ·rw[Ay _ (by rw[Bl 1 ls vs hlen];exact zu)];exact⟨yt.box r ls h1 j zu,λ_ _=>trivial⟩
    ·show(if true=true then _ else _);rw[AAP rfl];refine⟨?_,arr,T,fr,a3,a4,?_,λj=>zW j⟩
     ·show om (.blk r)=[bk r];rw[yt.blk,h1]
     ·show arr.size=(AY 1 ls vs).length;rw[Bl 1 ls vs hlen,a5]
   |row g ls=>
    obtain⟨a1,a2,a3⟩:=ha;have hlen:vs.length=ls.length:=by have:=congrArg List.length a1;simpa using this
    refine⟨λj=>?_,?_⟩
    ·show Aa _ _ (nth .bad (AY 1 ls vs) j) (Fp ps w args bk r j) (om (.lf r j));rcases AAr j ls.length with zA|zu
     ·have p1:=AAI zA;have p2:=AAI (show j<vs.length by omega);obtain⟨y,hy,hr⟩:=a3 j _ _ p1 p2;rw[Ae,B7 1 ls vs j _ _ p1 p2,show Fp ps w args bk r j=some y by simp[Fp,h1,h2,hy]];exact Fb (W':=L8 ps w fz args bk om) hr
     ·rw[Ay _ (by rw[Bl 1 ls vs hlen];exact zu)];exact⟨yt.row r g ls h1 j zu,λ_ _=>trivial⟩
    ·show om (.blk r)=[];rw[yt.blk,h1]
  grind
 ·exact {
   nodup:=yt.nodup
   A4:=yt.A4
   own:=λk b hb=>⟨(yt.own k b hb).1,(yt.own k b hb).2,.inr ⟨k,hb⟩⟩
   fz:=λb hb=>⟨yt.fz b hb,.inl hb⟩
   frame:=λ_ _ _=>rfl
   size:=AAc _
   rest:=⟨rfl,rfl,rfl⟩ }
end
end Go.Ev
namespace Go.Ev
theorem Gw{P:Program}{fn:Func}{tm:Array Value}{w:World}{vals:ADh}(h:Jq P w tm fn.results.toList vals):(results fn tm).run P w=.ok (Ky vals) w:=by
 have key:∀(g:ResultVar->Sem Value),(∀t,g (.tmp t)=pure (tm.getD t undef))->(∀t T,g (.cell t T)=(do loadVar T (<-asAddr (tm.getD t undef))))->∀(l:List ResultVar)(vals:ADh),Jq P w tm l vals->(l.mapM g).run P w=.ok vals w:=by
  intro g hg hg2 l
  induction l with
  |nil=>
   intro vals hl;cases vals with
   |nil=>rfl
   |cons v vs=>exact hl.elim
  |cons v l ih=>
   intro vals hl;cases vals with
   |nil=>cases v<;>exact hl.elim
   |cons u us=>
    rw[List.mapM_cons,Sem.run_bind];cases v with
    |tmp t=>
     obtain⟨rfl,hl⟩:=hl;rw[hg];simp[Sem.run_bind,ih us hl]
    |cell a t=>
     obtain⟨h1,hl⟩:=hl;rw[hg2,h1];simp[Sem.run_bind,ih us hl]
 unfold results;rw[Array.mapM_eq_mapM_toList];simp only[map_eq_pure_bind,bind_assoc,pure_bind];rw[Sem.run_bind,key _ ?h1 ?h2 _ vals h]
 case h1=>intro t;rfl
 case h2=>grind
 show Result.ok _ w=_;congr 1
 match vals with
 | []=>rfl
 | [u]=>rfl
 |u::v::l=>simp[Ky]
section
variable {P:Program}{ty:TypeId->Option Ty}{env:Env}{an:An}{n:Nat}{sm:Sm}{fn:Func}{f:FuncId}{c:Code}
theorem Nl{T:List (String×Array Value)}{w:World}{fz:Nat->Prop}{args:ADh}{yv:List (List Lv)}{bk:Nat->Nat}{om:Key->Is}{s:St}{W:Wd}{tm:Array Value}{z:sm.outs.D}
  (yt:EN sm.ps w fz args yv bk om) (h:AU (Hp T sm.ps w fz args bk om) s tm W) (hty:∀t x,ty t=some x->Ny P t x) (hz:IP ty sm fn.results.toList yv.flatten s=some z):
  ∃r zj rv vsR vsP,(results fn tm).run P W.w=.ok r W.w/\Fh sm w fz args bk om z r W.w W.fz zj rv vsR vsP:=by
 unfold IP at hz;obtain⟨tt,hl,hpk⟩:=Step.C3 _ hz;obtain⟨vals,vsR,us1,osR,hl,hb1,hrv,hro⟩:=Hd hty h sm.rs fn.results.toList hl
 obtain⟨vsP,us2,osP,hl,hlp,hlo,hb2,hps⟩:=Ip h 0 sm.ps yv yt.Bs (λj pm vs hj hv=>by
  obtain⟨u,hu⟩:∃u,args[j]?=some u:=⟨_,AAI (by rw[yt.len];grind)⟩;exact(yt.each j pm u vs hj hu hv).kinds) hl
 have hl:vsR.flatten++vsP.flatten=tt:=hl;subst hl;have hbl:=hb1.append hb2;have hpair:=hbl.pair h.sep.A4;have hnd:=hbl.nodup;have hmem:=hbl.mem;rw[List.pairwise_append]at hpair;obtain⟨hp1,hp2,hp12⟩:=hpair;rw[List.pairwise_flatten]at hp2;obtain⟨hp2,hp3⟩:=hp2
 let zj:Key->Is
  | .fl k=>(osR[k]?).getD []
  | .lf i j=>(((osP[i]?).getD [])[j]?).getD []
  | .blk i=>om (.blk i)
 have inR:∀k,∀b∈zj (.fl k),∃o,osR[k]?=some o/\b∈o:=by
  intro k b hb;have hb:b∈(osR[k]?).getD []:=hb;cases hq:osR[k]? with
  |none=>grind
  |some o=>grind
 have inP:∀i j,∀b∈zj (.lf i j),∃os o,osP[i]?=some os/\os[j]?=some o/\b∈o:=by
  intro i j b hb;have hb:b∈(((osP[i]?).getD [])[j]?).getD []:=hb;cases hq:osP[i]? with
  |none=>grind
  |some os=>
   grind
 have memP:∀ {i j:Nat} {os:List Is} {o:Is},osP[i]?=some os->os[j]?=some o->o∈osP.flatten:=λh1 h2=>List.mem_flatten.2 ⟨_,AAN h1,AAN h2⟩
 have blkW:∀i,∀b∈om (.blk i),W.om (.blk i)=om (.blk i):=by
  intro i b hb;have hk:=yt.blk i;cases hq:sm.ps[i]? with
  |none=>grind
  |some pm=>
   rw[hq]at hk;cases pm with
   |box ls=>
    have zA:i<sm.ps.length:=(AAK.1 hq).1;have hpb:=hps i (.box ls) _ _ _ hq (AAI (by rw[yt.Bs];exact zA)) (AAI J) (AAI J);rw[AAY]at hpb;obtain⟨b1,b2,_⟩:=hpb;have h2:=(h.roots i).2;rw[AAP b1]at h2;rw[h2.1,h.init.2 i b1 b2,hk];rfl
   |val g ls=>grind
   |row g ls=>grind
   |fn f=>grind
 have from':∀k,∀b∈zj k,∃k0,b∈W.om k0/\((∃i,k0=.blk i/\k=.blk i)\/∃r j,k0=.lf r j):=by
  intro k b hb;cases k with
  |fl k=>
   grind
  |lf i j=>
   grind
  |blk i=>
   grind
 have hrx:=Gw hrv;refine⟨_,zj,vals,vsR,vsP,hrx,?_⟩
 refine {
  outs:=Av _ _ _ hpk
  res:=rfl
  Mw:=hro 0 _ λj hj=>No
  len:=hlp
  each:=?_
  blk:=λ_=>rfl
  nodup:=?_
  A4:=?_
  own:=?_
  fz:=λb hb=>h.sep.fz b hb |>.imp id λhh=>hh.imp id id
  frame:=λb hb hk=>h.sep.frame b hb λ⟨k,hh⟩=>hk k hh
  size:=h.sep.size
  rest:=h.sep.rest
  kept:=?_ }
 rotate_right
 ·intro i ls j p h1 h2 h3;have zA:i<osP.length:=by rw[hlo];exact(AAK.1 h1).1
  have hv0:=AAI (show i<yv.length by rw[yt.Bs];omega);have hv1:=AAI (show i<vsP.length by omega);have hpb:=hps i (.box ls) _ _ _ h1 hv0 hv1 (AAI zA);rw[AAY]at hpb;obtain⟨b1,b2,b3,b4,b5,b6,b7⟩:=hpb;have hq:=b7 j p h2 h3;rw[h.init.2 i b1 b2]at hq;have hq:W.w.cell? ⟨bk i,j,none⟩=Fp sm.ps w args bk i j:=hq;rw[hq];simp only[Fp,h1]
 ·intro i pm u vs h1 h2 h3;have zA:i<osP.length:=by rw[hlo];exact(AAK.1 h1).1
  have hos:=AAI zA;obtain⟨vs0,hv0⟩:∃vs0,yv[i]?=some vs0:=⟨_,AAI (by rw[yt.Bs];omega)⟩;have hpb:=hps i pm vs0 vs _ h1 hv0 h3 hos;rw[AAY]at hpb;have ha:=yt.each i pm u vs0 h1 h2 hv0
  have hom:∀j,zj (.lf i j)=(osP[i][j]?).getD []:=by intro j;show(((osP[i]?).getD [])[j]?).getD []=_;rw[hos];rfl
  cases pm with
  |val g ls=>exact hpb.1
  |fn f=>exact hpb.1
  |box ls=>
   obtain⟨b1,b2,b3,b4,b5,b6,_⟩:=hpb;have h2':=(h.roots i).2;rw[AAP b1]at h2';obtain⟨q1,arr,T,fr,q2,q3,q4,q5⟩:=h2';have hbk:W.bk i=bk i:=h.init.2 i b1 b2;rw[hbk]at q2;refine⟨ha.1,b4,arr,T,fr,q2,q3,by rw[q4,b3],λj p lv hj hv=>?_⟩;obtain⟨y,hy,hr⟩:=b6 j p lv hj hv;refine⟨y,?_,?_⟩
   ·rw[hbk]at hy;simpa[World.cell?,q2]using hy
   grind
  |row g ls=>
   obtain⟨a1,a2,a3⟩:=ha;obtain⟨b1,b2,b3⟩:=hpb;have hlen0:vs0.length=ls.length:=by have:=congrArg List.length a1;simpa using this
   have hkey:∀(j:Nat)(p:L×Nat)(lv:Lv),ls[j]?=some p->vs[j]?=some lv->lv.l=p.1/\∃y,A5 g u j=some y/\lv.l.rd p.2 W.w W.fz y lv.x (zj (.lf i j)):=by
    intro j p lv hj hv;rw[hom];rcases b3 j p lv hj hv with⟨_,c2,y,hy,hr⟩|⟨c1,c2,c3⟩
    ·refine⟨c2,y,?_,hr⟩;have hy:Fp sm.ps w args bk i j=some y:=hy;simpa[Fp,h1,h2]using hy
    ·obtain⟨y,hy,hr⟩:=a3 j p lv hj c2
     have hl:lv.l=p.1:=by have:=congrArg (λx=>x[j]?) a1;simpa[hj,c2]using this
     have hfl:=L.AZ (d':=p.2) (w':=W.w) (yw:=W.fz) lv.l (by rw[hl];exact c1) hr;have h7:=hfl.1;rw[show(λj=>om (Key.lf i j)) j=[]from hfl.2]at h7;refine⟨hl,y,hy,?_⟩;rw[c3];exact h7
   refine⟨?_,a2,λj p lv hj hv=>(hkey j p lv hj hv).2⟩;apply List.ext_getElem?;grind
 ·intro k;cases k with
  |fl k=>
   grind
  |lf i j=>
   grind
  |blk i=>exact yt.nodup _
 ·intro k k' zD b hb zJ
  have cross:∀i (k0:Key),(∀i,k0≠.blk i)->b∈zj (.blk i)->b∈zj k0->False:=by
   intro i k0 hk h1 h2;have h1:b∈om (.blk i):=h1;have h3:b∈W.om (.blk i):=by rw[blkW i b h1];exact h1
   obtain⟨k1,h4,h5⟩:=from' k0 b h2;rcases h5 with⟨i',_,h5⟩|⟨r,j,rfl⟩
   ·grind
   ·exact h.sep.A4 _ _ OF b h3 h4
  cases k with
  |blk i=>cases k' with
   |blk i'=>exact yt.A4 _ _ zD b hb zJ
   |lf i' j'=>exact cross i (.lf i' j') OF hb zJ
   |fl k'=>exact cross i (.fl k') OF hb zJ
  |lf i j=>cases k' with
   |blk i'=>exact cross i' (.lf i j) OF zJ hb
   |lf i' j'=>
    obtain⟨os,o,h1,h2,hb⟩:=inP i j b hb;obtain⟨zn,o',h1',h2',hc⟩:=inP i' j' b zJ;by_cases hi:i=i'
    ·subst hi;rw[h1]at h1';injection h1' with h1';subst h1'
     have hj:j≠j':=λe=>zD (by rw[e]);exact Jf (λ_ _=>FL.symm) (hp2 os (AAN h1)) hj h2 h2' b hb hc
    ·have:=Jf (R:=λl₁ l₂=>∀x,x∈l₁->∀y,y∈l₂->FL x y) (λa c hh x hx y hy=>(hh y hy x hx).symm) hp3 hi h1 h1';exact this o (AAN h2) o' (AAN h2') b hb hc
   |fl k'=>
    obtain⟨os,o,h1,h2,hb⟩:=inP i j b hb;obtain⟨o',h1',zJ⟩:=inR k' b zJ;exact hp12 o' (AAN h1') o (memP h1 h2) b zJ hb
  |fl k=>cases k' with
   |blk i'=>exact cross i' (.fl k) OF zJ hb
   |lf i' j'=>
    obtain⟨os,o,h1,h2,zJ⟩:=inP i' j' b zJ;obtain⟨o',h1',hb⟩:=inR k b hb;exact hp12 o' (AAN h1') o (memP h1 h2) b hb zJ
   |fl k'=>
    obtain⟨o,h1,hb⟩:=inR k b hb;obtain⟨o',h1',zJ⟩:=inR k' b zJ;exact Jf (λ_ _=>FL.symm) hp1 (λe=>zD (by rw[e])) h1 h1' b hb zJ
 ·intro k b hb;obtain⟨k0,h1,_⟩:=from' k b hb;exact h.sep.own k0 b h1
theorem OT{T:List (String×Array Value)}{w:World}{fz:Nat->Prop}{args:ADh}{yv:List (List Lv)}{bk:Nat->Nat}{om:Key->Is}{s:St}{W:Wd}{tm:Array Value}{z:sm.outs.D}{v:Nat}
  (yt:EN sm.ps w fz args yv bk om) (h:AU (Hp T sm.ps w fz args bk om) s tm W) (hv:Ad s v) (hty:∀t x,ty t=some x->Ny P t x) (hmk:sm.mk?=false) (hz:DY ty sm fn.results.toList yv.flatten s=some z):
  ∃r yw zj rv vsR vsP,(results fn tm).run P W.w=.ok r W.w/\Fh sm w fz args bk om z r W.w yw zj rv vsR vsP:=by
 unfold DY at hz;rw[hmk]at hz;simp only[ABP,if_false]at hz;split at hz
 ·rename_i fs hfs;obtain⟨W1,h1,fr,_⟩:=Ey h hv hfs;obtain⟨r,zj,rv,vsR,vsP,q1,q2⟩:=Nl (P:=P) (fn:=fn) yt h1 hty hz;rw[fr.w]at q1 q2;grind
 ·cases hz
theorem II:∀(ls:List L)(as:List LA) {vs:List Lv},DX ls as=some vs->vs.map (·.l)=ls/\as.length=ls.length/\∀(j:Nat)(lv:Lv),vs[j]?=some lv->as[j]?=some (.sc lv.l lv.x)
 | [],[],vs,h=>by simp only[DX,Option.some.injEq]at h;grind
 |l::ls,a::as,vs,h=>by
  cases a with
  |sc m x=>
   simp only[DX]at h;split at h
   ·rename_i y ys hc hr;injection h with h
    subst h;obtain⟨h1,h2,h3⟩:=II ls as hr;obtain⟨rfl,hxy⟩:=L.AH hc;grind
   ·cases h
  |_=>simp[DX]at h
 | [],_::_,vs,h=>by simp[DX]at h
 |_::_,[],vs,h=>by simp[DX]at h
theorem OS{T:List (String×Array Value)}{w:World}{fz:Nat->Prop}{args:ADh}{yv:List (List Lv)}{bk:Nat->Nat}{om:Key->Is}{s:St}{W:Wd}{tm:Array Value}{z:sm.outs.D}
  (yt:EN sm.ps w fz args yv bk om) (h:AU (Hp T sm.ps w fz args bk om) s tm W) (hmk:sm.mk?=true) (hz:DY ty sm fn.results.toList yv.flatten s=some z):
  ∃r b,(results fn tm).run P W.w=.ok r W.w/\MD sm w fz z r W.w W.fz b:=by
 unfold DY at hz;rw[hmk,AAP rfl]at hz;unfold N1 at hz;split at hz
 ·rename_i t hrv;split at hz
  ·rename_i r AA hslot;split at hz
   ·rename_i hc;simp only[AAJ,AAT]at hc;obtain⟨⟨hpl,ze⟩,zC⟩:=hc;split at hz
    ·rename_i vs hvs;have hu:=h.AO t;rw[hslot]at hu;have hu:tm.getD t Go.undef=.pointer (some ⟨W.bk r,0,none⟩):=hu ze zC;obtain⟨p1,p2,p3⟩:=II _ _ hvs;have zX:=h.roots r;obtain⟨hl,hb⟩:=zX;rw[AAP ze]at hb;obtain⟨zU,arr,T0,fr,zP,zt,zO,zW⟩:=hb;unfold Sm.plain at hpl;simp only[AAJ]at hpl
     have hval:∀pm∈sm.ps,∃g ls,pm=.val g ls:=λpm hpm=>by
      have:=AAW.1 hpl.1 pm hpm;cases pm with
      |val g ls=>grind
      |_=>cases this
     have hnone:∀k,om k=[]:=by
      intro k;cases k with
      |fl n=>exact yt.fl n
      |blk i=>
       rw[yt.blk i];cases hq:sm.ps[i]? with
       |none=>rfl
       |some pm=>obtain⟨g,ls,rfl⟩:=hval pm (AAN hq);rfl
      |lf i j=>
       refine yt.none i (λls hq=>?_) (λg ls hq=>?_) j
       ·obtain⟨g,ls,hh⟩:=hval _ (AAN hq);cases hh
       ·obtain⟨g,ls,hh⟩:=hval _ (AAN hq);cases hh
     have hio:∀b,¬(∃k,b∈om k):=λb ⟨k,hb⟩=>No
     have hown:=h.sep.own (.blk r) (W.bk r) No;have zF:=Gw (fn:=fn) (P:=P) (w:=W.w) (tm:=tm) (vals:=[tm.getD t Go.undef]) (by rw[hrv];exact⟨rfl,trivial⟩);refine⟨_,W.bk r,zF,?_⟩;have hout:unpack sm.outs z=vs:=Av _ _ _ hz
     exact {
      box:=by
       rw[hout];refine⟨hu,p1,arr,T0,fr,zP,zt,No,λj p lv hj hlv=>?_⟩;have hlf:=p3 j lv hlv;have hlj:=hl j;rw[Ae,hlf]at hlj;have hjl:j<arr.size:=by rw[zO];exact(AAK.1 hlf).1
       have harr:arr[j]?=some arr[j]:=AAh hjl;refine⟨arr[j],harr,?_⟩;have hp:p.2=0:=by simpa using AAW.1 hpl.2 p (AAN hj)
       rw[hp];exact hlj.2 _ No
      new:=⟨hown.2.2.elim id λh=>(hio _ h).elim,hown.2.1,hown.1⟩
      fz:=λx hx=>by
       obtain⟨a1,a2⟩:=h.sep.fz x hx;refine⟨a1,?_⟩;rcases a2 with a2|a2|a2
       ·exact .inl a2
       ·exact .inr a2
       ·exact(hio _ a2).elim
      frame:=λx hx=>h.sep.frame x hx (hio x)
      size:=h.sep.size
      rest:=h.sep.rest }
    ·cases hz
   ·cases hz
  ·cases hz
 ·cases hz
theorem On{T:List (String×Array Value)}(hf:P.funcs[f]?=some fn)(hb:fn.body=some c)(hlen:sm.ps.length<=fn.ntmps)(hty:∀t x,ty t=some x->Ny P t x)(zQ:Jn P T env)(hm:P.follows .mixedOrders=true):
  LS P T f ⟨sm,MQ ty env an n fn sm⟩:=by
 intro args w fz yv bk om x z hgnd yt hx hz;have hz:MQ ty env an n fn sm x=some z:=hz;have hu:unpack sm.ins x=yv.flatten:=Av _ _ _ hx;simp only[MQ,hb,hu]at hz;cases hp:DF 0 sm.ps yv.flatten with
 |none=>grind
 |some ws=>
  rw[hp]at hz;dsimp only at hz;split at hz
  ·cases hz
  ·rename_i zL;have zL:codeOk fn.ntmps c=true:=by simpa using zL
   refine calls_of_wp hf hb ?_;have yu:=MV (T:=T) yt hp hlen;have hinv:=MU (N:=fn.ntmps) yt hp hlen;have hcl:Claim P (Hp T sm.ps w fz args bk om) fn.ntmps an n (DY ty sm fn.results.toList yv.flatten) c:=(NS hm c).1
   have fin:∀ {s':St} {a':Act} {W':Wd} {z':sm.outs.D},a'.defers=[]->AU (Hp T sm.ps w fz args bk om) s' a'.tmps W'->Inv fn.ntmps s'->DY ty sm fn.results.toList yv.flatten s'=some z'->bodyPost P fn (λen w'=>match sm.mk? with
     |false=>∃r yw zj rv vsR vsP,en=.returned r/\Fh sm w fz args bk om z' r w' yw zj rv vsR vsP
     |true=>∃r yw b,en=.returned r/\MD sm w fz z' r w' yw b) .ret a' W'.w:=by
    intro s' a' W' z' hd hr hi hq;cases hmk:sm.mk? with
    |false=>
     obtain⟨r,yw,zj,rv,vsR,vsP,h1,h2⟩:=OT (P:=P) (fn:=fn) yt hr (hi.AG.H9 (v:=s'.Bp) (Nat.lt_irrefl _) (by have:=hi.two;omega)) hty hmk hq;exact⟨hd,r,h1,r,yw,zj,rv,vsR,vsP,rfl,h2⟩
    |true=>
     obtain⟨r,b,h1,h2⟩:=OS (P:=P) (fn:=fn) yt hr hmk hq;exact⟨hd,r,h1,r,W'.fz,b,rfl,h2⟩
   refine hcl (W:=L8 sm.ps w fz args bk om) (a:=⟨_,[]⟩) (Q:=bodyPost P fn _) ?_ (show DO P (Hp T sm.ps w fz args bk om) env from⟨zQ,hgnd⟩) zL (λ_ _=>⟨rfl,rfl⟩) yu hinv hz ?_ ?_ ?_
   ·exact hty
   ·intro s' a' W' hd hr hi hk hq;exact fin hd hr hi hq
   all_goals grind
end
end Go.Ev
namespace Go.Ev
mutual
def L.fit:(l:L)->l.D->Prop
 | .int k,x=>k.min<=(show Int from x)/\(show Int from x)<=k.max
 | .bool,_=>True
 | .str,x=>List.length (α:=UInt8) x<=maxLen
 | .sl _ e,x=>List.length (α:=e.D) x<=maxLen/\∀y,List.Mem (α:=e.D) y x->e.fit y
def Ls.fit:(ls:Ls)->ls.D->Prop
 | .nil,_=>True
 | .one l,x=>l.fit x
 | .cons l ls,x=>l.fit x.1/\ls.fit x.2
end
theorem Mc:∀ls:List L,(E6 ls).n=ls.length
 | []=>rfl
 | [_]=>rfl
 |_::m::r=>by simp only[E6,Ls.n,Mc (m::r),ABG]
theorem FY:∀ls:List L,(E6 ls).kinds=ls
 | []=>rfl
 | [_]=>rfl
 |_::m::r=>by simp only[E6,Ls.kinds,FY (m::r)]
mutual
theorem L.DA:∀l:L,L.eq? l l=true
 | .int _=>by simp[L.eq?]
 | .bool=>rfl
 | .str=>rfl
 | .sl t e=>by simp[L.eq?,Ls.DA e]
theorem Ls.DA:∀e:Ls,Ls.eq? e e=true
 | .nil=>rfl
 | .one l=>by simp[Ls.eq?,L.DA l]
 | .cons l ls=>by simp[Ls.eq?,L.DA l,Ls.DA ls]
end
theorem Je:∀(e:Ls)(vs:List Lv),vs.map (·.l)=e.kinds->∃x:e.D,pack e vs=some x/\((∀(j:Nat)(lv:Lv),vs[j]?=some lv->lv.l.fit lv.x)->e.fit x)
 | .nil,[],_=>⟨(),rfl,λ_=>trivial⟩
 | .nil,_::_,h=>by simp[Ls.kinds]at h
 | .one l,[],h=>by simp[Ls.kinds]at h
 | .one l,[v],h=>by simp[Ls.kinds]at h;subst h;refine⟨v.x,?_,λhf=>hf 0 v rfl⟩;have he:L.eq? v.l v.l=true:=L.DA v.l;simp only[pack,L.cast,he,dif_pos];rfl
 | .one l,_::_::_,h=>by simp[Ls.kinds]at h
 | .cons l ls,[],h=>by simp[Ls.kinds]at h
 | .cons l ls,v::vs,h=>by simp only[Ls.kinds,ABK,List.cons.injEq]at h;obtain⟨h1,h2⟩:=h;subst h1;obtain⟨xs,hx,hf⟩:=Je ls vs h2;have he:L.eq? v.l v.l=true:=L.DA v.l;refine⟨(v.x,xs),?_,λhh=>⟨hh 0 v rfl,hf λj lv hj=>hh (j+1) lv No⟩⟩;simp only[pack,L.cast,he,dif_pos,hx]
def KC(P:Program)(r:TypeId->Option (List L)):Nat->List Field->Option (List L)
 |_,[]=>some []
 |off,f::fs=>match f.offset==off,r f.type with
  |true,some ls=>match P.cellsOf f.type==ls.length,KC P r (off+ls.length) fs with
   |true,some ms=>some (ls++ms)
   |_,_=>none
  |_,_=>none
def lay(P:Program):Nat->TypeId->Option (List L)
 |0,_=>none
 |k+1,t=>match P.underlying t with
  |some .bool=>some [.bool]
  |some (.int k)=>some [.int k]
  |some .string=>some [.str]
  |some (.slice e)=>match lay P k e with
   |some ls=>match P.cellsOf e==ls.length,ls with
    |true,l::ls=>some [.sl e (E6 (l::ls))]
    |_,_=>none
   |none=>none
  |some (.struct fs)=>match KC P (lay P k) 0 fs.toList with
   |some ls=>match P.cellsOf t==ls.length with
    |true=>some ls
    |false=>none
   |none=>none
  |_=>none
def Old(w:World)(b:Nat):Prop:=b<w.heap.size
section
variable {H:Type}{enc:TypeId×Value->H}{P:Program}{w:World}{base:Nat}{held:Bool}
def Holds(w:World)(ls:List L)(cs:ADh):Prop:=cs.length=ls.length/\∃vs:List Lv,vs.map (·.l)=ls/\∀(j:Nat)(lv:Lv),vs[j]?=some lv->∃v,cs[j]?=some v/\lv.l.rd 0 w (Old w) v lv.x []/\lv.l.fit lv.x
theorem Holds.append{ls ms:List L}{cs ds:ADh}(h1:Holds w ls cs)(h2:Holds w ms ds):Holds w (ls++ms) (cs++ds):=by
 obtain⟨a1,vs,a2,a3⟩:=h1;obtain⟨b1,us,b2,b3⟩:=h2;have hl:vs.length=cs.length:=by have:=congrArg List.length a2;simp at this;omega
 refine⟨by simp[a1,b1],vs++us,by simp[a2,b2],λj lv hj=>?_⟩;grind
theorem Holds.elem{e:Ls}{cs:ADh}(h:Holds w e.kinds cs):∃x:e.D,e.rd 0 w (Old w) (λj=>cs[j]?) x []/\e.fit x:=by
 obtain⟨_,vs,h1,h2⟩:=h;obtain⟨x,hx,hf⟩:=Je e vs h1;refine⟨x,Bh e λj lv hj=>?_,hf λj lv hj=>?_⟩
 ·rw[Av e vs x hx]at hj;obtain⟨v,hv,hr,_⟩:=h2 j lv hj;exact⟨v,hv,hr⟩
 grind
theorem KD{r:TypeId->Option (List L)}{cs:ADh}:∀(fs:List Field)(off:Nat) {ls:List L},KC P r off fs=some ls->off+ls.length=cs.length->
  (∀(i:Nat)(f:Field)(ms:List L),fs[i]?=some f->r f.type=some ms->Holds w ms ((cs.drop f.offset).take (P.cellsOf f.type)))->Holds w ls (cs.drop off)
 | [],off,ls,h,hl,hf=>by
  simp only[KC,Option.some.injEq]at h;subst h;have:cs.drop off=[]:=by simp at hl;simp;omega
  rw[this];exact⟨rfl,[],rfl,λj lv hj=>ADu⟩
 |f::fs,off,ls,h,hl,hf=>by
  simp only[KC]at h;split at h
  ·rename_i ls1 hoff hr;have hoff:f.offset=off:=by simpa using hoff
   split at h
   ·rename_i ms hc zK;injection h with h
    subst h;have hc:P.cellsOf f.type=ls1.length:=AD0
    have h1:=hf 0 f ls1 rfl hr;rw[hoff,hc]at h1;have h2:=KD fs (off+ls1.length) zK No λi f' ms' hi zk=>hf (i+1) f' ms' No zk;have:=h1.append h2;rw[<-List.drop_drop,List.take_append_drop]at this;exact this
   ·cases h
  ·cases h
theorem Jz{a:Addr}{n i:Nat}{cs:ADh}(hn:0<n)(hs:a.spot=none)(h:w.cells? base (a.add (i*n)) n=some cs):cs.length=n/\∀j,j<n->w.cell? ⟨a.block,a.off+(i*n+j),none⟩=cs[j]?:=by obtain⟨_,h1,h2⟩:=World.cells?_some h;refine⟨h1,λj hj=>?_⟩;rw[<-h2 j hj,ET hs];have:(at_ a (i*n)).spot=none:=rfl;rw[ET this];simp[at_,Nat.add_assoc]
theorem L3{a:Addr}{n:Nat}{cs:ADh}(hn:0<n)(h:w.cells? base (a.add (0*n)) n=some cs):a.spot=none:=by
 obtain⟨_,h1,h2⟩:=World.cells?_some h;have:=h2 0 hn;rw[show cs[0]?=some (cs[0]'(by omega))from AAI _]at this;simp only[Nat.zero_mul,Addr.add,AAP]at this;unfold World.cell? at this;split at this
 ·cases hq:a.spot with
  |none=>rfl
  |some s=>grind
 ·cases this
theorem IZ:∀(k:Nat) {t:TypeId} {ls:List L} {fuel:Nat} {cs:ADh} {x:DataW H×List MemPlace},lay P k t=some ls->DataW.trod enc P w base (λ_=>true) held fuel t cs=some x->Holds w ls cs
 |0,t,ls,fuel,cs,x,h,hx=>by simp[lay]at h
 |k+1,t,ls,fuel,cs,x,h,hx=>by
  simp only[lay]at h;split at h
  ·rename_i hu;injection h with h;subst h
   obtain⟨b,rfl,_⟩:=DataW.trod_bool hu hx;refine⟨rfl,[⟨.bool,show Bool from b⟩],rfl,λj lv hj=>?_⟩;cases j with
   |zero=>simp at hj;subst hj;exact⟨_,rfl,⟨rfl,rfl⟩,trivial⟩
   |succ j=>simp at hj
  ·rename_i kk hu;injection h with h;subst h
   obtain⟨n,rfl,_,hw⟩:=DataW.trod_int hu hx;refine⟨rfl,[⟨.int kk,show Int from n⟩],rfl,λj lv hj=>?_⟩;cases j with
   |zero=>simp at hj;subst hj;exact⟨_,rfl,⟨rfl,rfl⟩,by simpa[Lit.wf,L.fit]using hw⟩
   |succ j=>simp at hj
  ·rename_i hu;injection h with h;subst h
   obtain⟨s,rfl,_,hs⟩:=DataW.trod_string hu hx;refine⟨rfl,[⟨.str,show ADi from s.data.toList⟩],rfl,λj lv hj=>?_⟩;cases j with
   |zero=>simp at hj;subst hj;exact⟨_,rfl,⟨OF,rfl⟩,by simpa[L.fit]using hs⟩
   |succ j=>simp at hj
  ·rename_i e hu;split at h
   ·rename_i ls1 hl1;split at h
    ·rename_i l ls2 hc;injection h with h;subst h
     have hc:P.cellsOf e=(l::ls2).length:=AD0
     let E:Ls:=E6 (l::ls2)
     have hEn:E.n=P.cellsOf e:=by rw[hc];exact Mc _
     have hEk:E.kinds=l::ls2:=FY _;have hpos:0<P.cellsOf e:=by rw[hc];simp
     rcases DataW.trod_slice hu hx with⟨rfl,_⟩|⟨a,len,cap,elems,rest,n,rfl,rfl,_,hb,hle,hcap,zN,h1,h2,_⟩
     ·refine⟨rfl,[⟨.sl e E,([]:List E.D)⟩],rfl,λj lv hj=>?_⟩;cases j with
      |zero=>simp at hj;subst hj;exact⟨_,rfl,Bz,by simp[L.fit],λy hy=>by cases hy⟩
      |succ j=>simp at hj
     ·have all:∀i,i<cap->∃cs' y,w.cells? base (a.add (i*P.cellsOf e)) (P.cellsOf e)=some cs'/\DataW.trod enc P w base (λ_=>true) held n e cs'=some y:=by
       intro i hi;obtain⟨h3,h4⟩:=h2 rfl;rcases AAr i len with zA|zu
       ·have:=h1 i zA;rw[AAI (show i<elems.length by omega)]at this;obtain⟨cs',q1,q2⟩:=ABC.1 this;grind
       ·have:=h4 (i-len) J;rw[AAI (show i-len<rest.length by omega),show len+(i-len)=i by omega]at this;obtain⟨cs',q1,q2⟩:=ABC.1 this;grind
      have elem:a.spot=none->∀i,i<cap->∃y:E.D,E.rd 0 w (Old w) (λj=>w.cell? ⟨a.block,a.off+(i*E.n+j),none⟩) y []/\E.fit y:=by intro hs i hi;obtain⟨cs',y,q1,q2⟩:=all i hi;have hh:=IZ k hl1 q2;rw[<-hEk]at hh;obtain⟨z,hz,hf⟩:=hh.elem;obtain⟨c1,c2⟩:=Jz hpos hs q1;exact⟨z,Ls.BB E hz λj hj=>No,hf⟩
      refine⟨rfl,?_⟩;by_cases hc0:cap=0
      ·have hl0:len=0:=J
       subst hl0;subst hc0;refine⟨[⟨.sl e E,([]:List E.D)⟩],rfl,λj lv hj=>?_⟩;cases j with
       |zero=>simp at hj;subst hj;exact⟨_,rfl,⟨some a,0,rfl,AAc _,.inl ⟨rfl,rfl,rfl⟩⟩,by simp[L.fit],λy hy=>by cases hy⟩
       |succ j=>simp at hj
      ·obtain⟨cs0,y0,q0,_⟩:=all 0 J;have hs:=L3 hpos q0;have hy:=elem hs
       let F:Nat->E.D:=λi=>if hi:i<cap then(hy i hi).choose else Fg E
       have hF:∀i,i<cap->E.rd 0 w (Old w) (λj=>w.cell? ⟨a.block,a.off+(i*E.n+j),none⟩) (F i) []/\E.fit (F i):=by intro i hi;simp only[F,dif_pos hi];exact(hy i hi).choose_spec
       obtain⟨csl,yl,ql,_⟩:=all (cap-1) J;obtain⟨l1,l2⟩:=Jz hpos hs ql;have hlast:=l2 (P.cellsOf e-1) J;rw[AAI (show P.cellsOf e-1<csl.length by omega)]at hlast
       have hoff:a.off+((cap-1)*P.cellsOf e+(P.cellsOf e-1))=a.off+cap*P.cellsOf e-1:=by
        have:cap*P.cellsOf e=(cap-1)*P.cellsOf e+P.cellsOf e:=by rw[<-Nat.succ_mul];congr 1;omega
        omega
       rw[hoff]at hlast
       have zU:∃arr T fr,w.heap[a.block]?=some (.cells arr T fr)/\a.off+cap*P.cellsOf e<=arr.size:=by
        unfold World.cell? at hlast;split at hlast
        ·grind
        ·cases hlast
       obtain⟨arr,T,fr,hh,zO⟩:=zU
       let xs:List E.D:=(List.range len).map F
       have hxl:xs.length=len:=by simp[xs]
       have hxg:∀i (hi:i<xs.length),xs[i]=F i:=λi hi=>by simp[xs]
       refine⟨[⟨.sl e E,xs⟩],rfl,λj lv hj=>?_⟩;cases j with
       |succ j=>simp at hj
       |zero=>
        simp at hj;subst hj;refine⟨_,rfl,⟨some a,cap,by rw[hxl],No,.inr ⟨λj=>arr[a.off+j]?,λ_=>[],⟨hs,arr,T,fr,hh,No,λh=>ADl,λj=>rfl⟩,λi hi=>?_,?_⟩⟩,?_,λy hy=>?_⟩
        ·have hi:i<xs.length:=hi;show E.rd 0 w (Old w) _ xs[i] [];rw[hxg i hi];have:=(hF i J).1;refine Ls.BB E this λj hj=>?_;simp[World.cell?,hh]
        ·exact⟨(AA7.1 hh).1,rfl,λ_ _=>rfl⟩
        ·grind
        ·have hy:y∈xs:=hy;obtain⟨i,hi,rfl⟩:=AAt.1 hy;grind
    ·cases h
   ·cases h
  ·rename_i fs hu;split at h
   ·rename_i ls1 hl1;split at h
    ·rename_i hc;injection h with h;subst h
     have hc:P.cellsOf t=ls1.length:=AD0
     obtain⟨xs,n,rfl,_,hlen,hxl,zM⟩:=DataW.trod_struct hu hx
     have:=KD (w:=w) (cs:=cs) fs.toList 0 hl1 J λi f ms hi hr=>by
      have hi':fs[i]?=some f:=ADm
      have zA:i<xs.length:=by rw[hxl];exact(AA7.1 hi').1
      have hg:=zM i f hi';rw[AAI zA]at hg;exact IZ k hr hg
     grind
    ·cases h
   ·cases h
  ·cases h
end
end Go.Ev
namespace Go.Ev
open Go.ChangeShapes Go.RowKit
def HQ(P:Program)(t:TypeId):Bool:=match P.underlying t with
 |some (.struct _)=>true
 |_=>false
def Ie(P:Program):List TypeId->Option (List PM)
 | []=>some []
 |t::ts=>match lay P 12 t,Ie P ts with
  |some ls,some ps=>some (.val (HQ P t) ls::ps)
  |_,_=>none
def Jg(P:Program)(ts:List TypeId):Bool:=ts.all λt=>P.readableRec t&&decide (t<P.types.size)
section
variable {H:Type}{enc:TypeId×Value->H}{P:Program}{w:World}{base base':Nat}{held:Bool}
theorem one_cell{t:TypeId}{v:Value}{ls:List L}{r:Reach}(h:Value.okWide P w r base t v)(hl:lay P 12 t=some ls)(ha:HQ P t=false):v.cells = #[v]/\ls.length=1:=by
 unfold lay at hl;unfold HQ at ha;unfold Value.okWide Cell.okWide Cell.ok at h;split at hl
 ·rename_i hu;rw[hu]at h;injection hl with hl;subst hl
  cases v<;>first|exact⟨rfl,rfl⟩|exact h.elim
 ·rename_i hu;rw[hu]at h;injection hl with hl;subst hl
  cases v<;>first|exact⟨rfl,rfl⟩|exact h.elim
 ·rename_i hu;rw[hu]at h;injection hl with hl;subst hl
  cases v<;>first|exact⟨rfl,rfl⟩|exact h.elim
 ·rename_i hu;rw[hu]at h;split at hl
  ·split at hl
   ·injection hl with hl;subst hl
    cases v<;>first|exact⟨rfl,rfl⟩|exact h.elim
   ·cases hl
  ·cases hl
 ·rename_i hu;rw[hu]at ha;cases ha
 ·cases hl
theorem LU{t:TypeId}{v:Value}{r:Reach}(h:Value.okWide P w r base t v)(ha:HQ P t=true):∃cs,v=.agg cs:=by
 unfold HQ at ha;unfold Value.okWide at h;split at ha
 ·rename_i hu;rw[hu]at h;obtain⟨cs,h,_⟩:=h;exact⟨cs,h⟩
 ·cases ha
theorem K6:∀ {ts:List TypeId} {vs:ADh} {ds:List (DataW H)} {p:List MemPlace} {pms:List PM},DataW.TrodAll enc P w base (λ_=>true) held ts vs ds p->
  (∀(j:Nat) t v,ts[j]?=some t->vs[j]?=some v->Value.okWide P w .any base' t v)->Ie P ts=some pms->
  vs.length=pms.length/\ds.length=ts.length/\∃yv:List (List Lv),yv.length=pms.length/\yv.flatten.map (·.l)=pms.flatMap PM.ins/\(∀(j:Nat)(lv:Lv),yv.flatten[j]?=some lv->lv.l.fit lv.x)/\
   ∀(i:Nat)(pm:PM)(u:Value)(xs:List Lv),pms[i]?=some pm->vs[i]?=some u->yv[i]?=some xs->NG w (Old w) pm u xs 0 (λ_=>[])/\∃g ls,pm=.val g ls
 | [],[],[],p,pms,h,hv,hp=>by simp only[Ie,Option.some.injEq]at hp;subst hp;exact⟨rfl,rfl,[],rfl,rfl,(λj lv hj=>by simp at hj),λi pm u xs hi=>by simp at hi⟩
 |t::ts,v::vs,d::ds,p,pms,h,hv,hp=>by
  obtain⟨p1,p2,⟨fuel,h1⟩,h2,_⟩:=h;simp only[Ie]at hp;split at hp
  ·rename_i ls ps hl hps;injection hp with hp;subst hp
   obtain⟨a1,a2,yv,a3,a4,a5,a6⟩:=K6 h2 (λj t v ht hv'=>hv (j+1) t v (by simpa using ht) (by simpa using hv')) hps;have zh:=hv 0 t v rfl rfl;obtain⟨hlen,us,b1,b2⟩:=IZ 12 hl h1;have hul:us.length=ls.length:=by have:=congrArg List.length b1;simpa using this
   refine⟨by simp[a1],by simp[a2],us::yv,by simp[a3],by simp[a4,b1,PM.ins],λj lv hj=>?_,λi pm u xs hi hu hx=>?_⟩
   ·rw[AAk]at hj;rcases AAr j us.length with zA|zu
    ·rw[ABA zA]at hj;obtain⟨_,_,_,hf⟩:=b2 j lv hj;exact hf
    ·rw[ABO zu]at hj;exact a5 _ lv hj
   ·cases i with
    |succ i=>exact a6 i pm u xs ADm (by simpa using hu) (by simpa using hx)
    |zero=>
     simp at hi hu hx;subst hi;subst hu;subst hx;refine⟨⟨by simp[b1,Function.comp_def],?_,λj p lv hj hlv=>?_⟩,_,_,rfl⟩
     ·cases hag:HQ P t with
      |true=>
       obtain⟨cs,rfl⟩:=LU zh hag;exact⟨cs,rfl,by simpa[Value.cells]using hlen⟩
      |false=>
       have:=(one_cell zh hl hag).2;simpa using this
     ·obtain⟨y,hy,hr,_⟩:=b2 j lv hlv
      have hp2:p.2=0:=by
       simp only[AAb]at hj;cases hq:ls[j]? with
       |none=>rw[hq]at hj;cases hj
       |some l=>rw[hq]at hj;injection hj with hj;rw[<-hj]
      rw[hp2];refine⟨y,?_,hr⟩;cases hag:HQ P t with
      |true=>
       show v.cells[j]?=some y;rw[<-hy];simp
      |false=>
       obtain⟨q1,q2⟩:=one_cell zh hl hag;rw[q1]at hy;cases j with
       |zero=>simp at hy;subst hy;rfl
       |succ j=>simp at hy
  ·cases hp
 | [],_::_,_,_,_,h,_,_=>by cases h
 | [],[],_::_,_,_,h,_,_=>by cases h
 |_::_,[],_,_,_,h,_,_=>by cases h
 |_::_,_::_,[],_,_,h,_,_=>by cases h
theorem FK(hl:laidOutB P=true){W W':World}(hb:Below W.heap.size W W'):∀ {ts:List TypeId} {vs:ADh} {ds:List (DataW H)} {p:List MemPlace},Jg P ts=true->
  DataW.TrodAll enc P W 0 (λ_=>true) true ts vs ds p->(∀x∈p,x.block<W.heap.size)->DataW.TrodAll enc P W' 0 (λb=>decide (b<W.heap.size)) true ts vs ds p
 | [],[],[],p,hr,h,zA=>h
 |t::ts,v::vs,d::ds,p,hr,h,zA=>by obtain⟨p1,p2,h1,h2,rfl⟩:=h;simp only[Jg,List.all_cons,AAJ,AAf]at hr;exact⟨p1,p2,Below.trod hl hr.1.1 hr.1.2 h1 hb (λx hx=>zA x (AAV _ hx)),FK hl hb (by simpa[Jg]using hr.2) h2 (λx hx=>zA x (AAS _ hx)),rfl⟩
 | [],_::_,_,_,_,h,_=>by cases h
 | [],[],_::_,_,_,h,_=>by cases h
 |_::_,[],_,_,_,h,_=>by cases h
 |_::_,_::_,[],_,_,h,_=>by cases h
end
theorem My{w:World}{fz:Nat->Prop}{om:Nat->Is}{g:Bool}{ls:List (L×Nat)}:∀ {rv:ADh} {vsR:List (List Lv)} {off:Nat},EP w fz om [(g,ls)] rv vsR off->∃u vs,rv=[u]/\vsR=[vs]/\Gz w fz g ls u vs (λj=>om (off+j))
 | [u],[vs],_,h=>⟨u,vs,rfl,rfl,h.1⟩
 | [],_,_,h=>h.elim
 |_::_,[],_,h=>h.elim
 | [_],_::_::_,_,h=>h.2.elim
 |_::_::_,[_],_,h=>h.2.elim
 |_::_::_,_::_::_,_,h=>h.2.elim
theorem PN{H:Type}{enc:TypeId×Value->H}{C:Checked}{os:Os}{f:FuncId}{fn:Func}{s:ChangeSpec}{conds:List PathCond}
  (own:ownKnob C.prog.godebug=none) (started:os.Started) (noInit:C.prog.inits.idxOf? f=none) (hfn:C.prog.funcs[f]?=some fn)
  (witness:∃(w:World) (tape:Tape) (i:Input),w.os=os/\(w.forCall tape i).Shaped C.prog/\i.vars=[]/\Input.okWide C.prog (w.forCall tape i) .any w.heap.size f i/\
   s.pre6 enc C.prog fn conds false (w.forCall tape i).memory i.args/\({}:Assume).holds C.prog (lone (Frame.enter C.prog f i.args .normal) [] (w.forCall tape i)))
  {sm:Sm} {F:Nat->sm.ins.D->Option sm.outs.D} (zh:∀n,LS C.prog [] f ⟨sm,F n⟩) (hps:Ie C.prog fn.params.toList=some sm.ps) (hrs:sm.rs=[(false,[(.bool,0)])])
  {tb:TypeId} (hres:fn.resultTypes = #[tb]) (htb:C.prog.underlying tb=some .bool) (hvars:s.vars=[]) (hreads:Jg C.prog fn.params.toList=true) (hlaid:laidOutB C.prog=true)
  (hspec:∀(ds:List (DataW H)),ds.length=fn.params.toList.length->s.fn H ds={results:=[.lit (.bool true)],args:=ds })
  (pure:∀x:sm.ins.D,sm.ins.fit x->∃n z,F n x=some z/\unpack sm.outs z=[⟨.bool,(show Bool from true)⟩]):
  ReturnsInHanded {} C os f .any (s.pre6 enc C.prog fn conds false) (s.post enc C.prog fn false true false false):=by
 refine returnsInHanded_of_change_sized own started noInit hfn witness ?_;intro W base args ds gs before hval hW _ _ _;have hW':=hW;obtain⟨p,q,hA,hV,rfl,hfz,hnd⟩:=hW;rw[hvars]at hV;obtain⟨rfl,rfl⟩:=trodVars_none hV;obtain⟨a1,a2,yv,a3,a4,a5,a6⟩:=K6 hA (λj t v ht hv=>hval j t v (by simpa using ht) (by simpa using hv)) hps;have hkin:yv.flatten.map (·.l)=sm.ins.kinds:=by rw[a4];exact(FY _).symm
 obtain⟨x,hx,zb⟩:=Je sm.ins yv.flatten hkin;obtain⟨n,z,hz,hzu⟩:=pure x (zb a5)
 have yt:EN sm.ps W (Old W) args.toList yv (λ_=>0) (λ_=>[]):={
  len:=a1
  Bs:=a3
  each:=λi pm u xs h1 h2 h3=>(a6 i pm u xs h1 h2 h3).1
  blk:=λi=>by
   cases hq:sm.ps[i]? with
   |none=>rfl
   |some pm=>
    have zA:=(AAK.1 hq).1;obtain⟨_,g,ls,rfl⟩:=a6 i pm _ _ hq (AAI J) (AAI J);rfl
  none:=λi _ _ j=>rfl
  box:=λi ls _ j _=>rfl
  row:=λi g ls _ j _=>rfl
  fl:=λk=>rfl
  nodup:=λk=>AAR
  A4:=λk k' _ b hb=>by cases hb
  own:=λk b hb=>by cases hb
  fz:=λb hb=>hb }
 have zy:=zh n args.toList W (Old W) yv _ _ x z (λ_ h=>by cases h) yt hx hz;have hmk:sm.mk?=false:=by unfold Sm.mk?;rw[hrs]
 have hmk:(NB.mk sm (F n)).s.mk?=false:=hmk;rw[hmk]at zy;rw[Array.toArray_toList]at zy;refine zy.mono ?_
 rintro en W' ⟨r,yw,zj,rv,vsR,vsP,rfl,co⟩
 have hout:=co.outs;have hres1:=co.Mw;rw[hrs]at hres1;obtain⟨u,vs,rfl,rfl,b1,_,b2⟩:=My hres1;have zw:vs.length=1:=by have:=congrArg List.length b1;simpa using this
 obtain⟨lv,rfl⟩:∃lv,vs=[lv]:=by
  match vs,zw with
  | [x],_=>exact⟨x,rfl⟩
 obtain⟨l0,x0⟩:=lv;have hl0:l0=.bool:=by simpa using b1
 subst hl0;obtain⟨y,hy,hr⟩:=b2 0 (.bool,0) ⟨.bool,x0⟩ rfl rfl;have hyu:u=y:=by simpa[A5]using hy
 subst hyu;have hzu:unpack sm.outs z=[⟨.bool,(show Bool from true)⟩]:=hzu;have hout:unpack sm.outs z=_:=hout;rw[hzu]at hout;simp only[AAk,List.flatten_nil,List.append_nil,ABH,AA0,List.cons.injEq]at hout
 have hx0:x0=(show Bool from true):=by
  have:=hout.1;injection this with _ h2
  exact h2.symm
 subst hx0;have hu:u=.bool true:=hr.1;subst hu;have hrr:r=.bool true:=co.res;subst hrr;have hbelow:Below W.heap.size W W':=⟨co.rest.1,co.rest.2.1,co.rest.2.2,co.size,λk hk=>co.frame k hk λ_ hb=>by cases hb⟩;have zA:∀y∈p,y.block<W.heap.size:=λy hy=>hW'.lt y AD7;refine⟨_,rfl,ds,[],_,[],p,[],hW',?_,?_,?_,hbelow.frame _,λh=>by cases h⟩
 ·rw[List.append_nil,hspec ds a2,hres];exact trodAll_mk1 (shut_bool htb _)
 ·rw[List.append_nil,hspec ds a2];exact FK hlaid hbelow hreads hA zA
 ·rw[List.append_nil,hspec ds a2,hvars];rfl
end Go.Ev
namespace Go.Ev
def find{α:Type}:List (Nat×α)->Nat->Option α
 | [],_=>none
 |(k,x)::r,t=>match Nat.beq k t with
  |true=>some x
  |false=>find r t
theorem J5{α:Type}:∀ {l:List (Nat×α)} {t:Nat} {x:α},find l t=some x->(t,x)∈l
 | [],t,x,h=>by cases h
 |(k,y)::r,t,x,h=>by
  unfold find at h;split at h
  ·rename_i hk;have:k=t:=Nat.eq_of_beq_eq_true hk;injection h with h;subst h;subst this;exact AAg
  ·exact AAM _ (J5 h)
def PJ:L->Value->Bool
 | .int k,.int k' n=>IntKind.code k==IntKind.code k'&&n==0
 | .bool,.bool b => !b
 | .str,.string s=>s.size==0
 | .sl _ _,.slice none l c=>l==0&&c==0
 |_,_=>false
theorem OH{l:L}{v:Value}(h:PJ l v=true):v=CL l:=by
 unfold PJ at h;split at h
 ·simp only[AAJ,AAT]at h;obtain⟨h1,rfl⟩:=h;rw[IntKind.EY h1];rfl
 ·simp at h;subst h;rfl
 ·rename_i s;have:s=.empty:=ByteArray.size_eq_zero_iff.1 ADn;subst this;rfl
 ·simp only[AAJ,AAT]at h;obtain⟨rfl,rfl⟩:=h;rfl
 ·cases h
def LV:List L->ADh->Bool
 | [],[]=>true
 |l::ls,v::vs=>PJ l v&&LV ls vs
 |_,_=>false
theorem G6:∀ {ls:List L} {vs:ADh},LV ls vs=true->vs=ls.map CL
 | [],[],_=>rfl
 |l::ls,v::vs,h=>by simp only[LV,AAJ]at h;rw[OH h.1,G6 h.2];rfl
 | [],_::_,h=>by cases h
 |_::_,[],h=>by cases h
def PC(P:Program)(t:TypeId)(e:Ls):Bool:=decide (0<e.n)&&match P.info? t with
 |some i=>i.size==e.n&&decide (i.bytes<=1024)&&match i.zero with
  |some z=>LV e.kinds z.cells.toList
  |none=>false
 |none=>false
theorem N9{P:Program}{t:TypeId}{e:Ls}(h:PC P t e=true):MB P t e:=by
 unfold PC at h;simp only[AAJ,AAf]at h;obtain⟨hp,h⟩:=h;split at h
 ·rename_i i hi;simp only[AAJ,AAf,AAT]at h;obtain⟨⟨h1,h2⟩,h⟩:=h;split at h
  ·rename_i z hz;exact⟨⟨i,hi,h1,h2,z,hz,by rw[<-G6 h]⟩,hp⟩
  ·cases h
 ·cases h
def I6(P:Program)(t:TypeId):L->Bool
 | .int k=>match P.underlying t with
  |some (.int k')=>IntKind.code k==IntKind.code k'
  |_=>false
 | .bool=>match P.underlying t with
  |some .bool=>true
  |_=>false
 | .str=>match P.underlying t with
  |some .string=>true
  |_=>false
 | .sl t' e=>(match P.underlying t with
  |some (.slice t'')=>t'==t''
  |_=>false)&&PC P t' e
theorem MZ{P:Program}{t:TypeId}{l:L}(h:I6 P t l=true):Gb P t l:=by
 cases l with
 |int k=>
  simp only[I6]at h;split at h
  ·rename_i k' hk;have:=IntKind.EY (by simpa using h:IntKind.code k=IntKind.code k');subst this;exact hk
  ·cases h
 |bool=>
  simp only[I6]at h;split at h
  ·assumption
  ·cases h
 |str=>
  simp only[I6]at h;split at h
  ·assumption
  ·cases h
 |sl t' e=>
  simp only[I6,AAJ]at h;obtain⟨h1,h2⟩:=h;split at h1
  ·rename_i t'' ht;have:t'=t'':=AD2
   subst this;exact⟨ht,N9 h2⟩
  ·cases h1
def G9:List Field->List (Nat×TypeId)->Bool
 | [],[]=>true
 |f::fs,(o,t)::r=>f.offset==o&&f.type==t&&G9 fs r
 |_,_=>false
theorem Hr:∀ {fs:List Field} {r:List (Nat×TypeId)},G9 fs r=true->fs.map (λf=>(f.offset,f.type))=r
 | [],[],_=>rfl
 |f::fs,(o,t)::r,h=>by simp only[G9,AAJ,AAT]at h;rw[ABK,h.1.1,h.1.2,Hr h.2]
 | [],_::_,h=>by cases h
 |_::_,[],h=>by cases h
def HK(P:Program):List Field->Bool
 | []=>true
 |f::fs=>(P.info? f.type).isSome&&HK P fs
theorem IG{P:Program}:∀ {fs:List Field},HK P fs=true->∃pl,fs.mapM (λf=>(P.info? f.type).map λi=>(f.offset,i.size))=some pl
 | [],_=>⟨[],rfl⟩
 |f::fs,h=>by simp only[HK,AAJ]at h;obtain⟨pl,hpl⟩:=IG h.2;obtain⟨i,hi⟩:=Option.isSome_iff_exists.1 h.1;exact⟨(f.offset,i.size)::pl,by simp[List.mapM_cons,hi,hpl]⟩
def IH(P:Program)(t:TypeId):L->Bool
 | .int k=>match P.underlying t with
  |some (.int k')=>IntKind.code k==IntKind.code k'
  |_=>false
 | .bool=>match P.underlying t with
  |some .bool=>true
  |_=>false
 | .str=>match P.underlying t with
  |some .string=>true
  |_=>false
 | .sl _ _=>false
theorem Lu{P:Program}{t:TypeId}{l:L}(h:IH P t l=true):JI P t l:=by
 cases l with
 |int k=>
  simp only[IH]at h;split at h
  ·rename_i k' hk;have:=IntKind.EY (by simpa using h:IntKind.code k=IntKind.code k');subst this;exact hk
  ·cases h
 |bool=>
  simp only[IH]at h;split at h
  ·assumption
  ·cases h
 |str=>
  simp only[IH]at h;split at h
  ·assumption
  ·cases h
 |sl t' e=>cases h
def Iw(P:Program):Nat->List Field->List L->Bool
 |_,[],[]=>true
 | n, f :: fs, l :: ls => f.name != "_" && f.offset == n && IH P f.type l && Iw P (n + 1) fs ls
 |_,_,_=>false
theorem J1{P:Program}:∀ {n:Nat} {fs:List Field} {ls:List L},Iw P n fs ls=true->G5 P n fs ls
 |_,[],[],_=>trivial
 |n,f::fs,l::ls,h=>by simp only[Iw,AAJ,AAT,bne_iff_ne,ne_eq]at h;obtain⟨⟨⟨h1,h2⟩,h3⟩,h4⟩:=h;exact⟨h1,h2,Lu h3,J1 h4⟩
 |_,[],_::_,h=>by simp[Iw]at h
 |_,_::_,[],h=>by simp[Iw]at h
def PD(P:Program)(t:TypeId)(ls:List L):Bool := !P.stoodInHeld t && !P.eqGuardType P.depth t&&match P.underlying t with
 |some (.struct fs)=>Iw P 0 fs.toList ls
 |_=>false
theorem OA{P:Program}{t:TypeId}{ls:List L}(h:PD P t ls=true):PO P t ls:=by
 unfold PD at h;simp only[AAJ,AAU]at h;obtain⟨⟨h1,h2⟩,h3⟩:=h;split at h3
 ·rename_i fs hfs;exact⟨h1,h2,fs,hfs,J1 h3⟩
 ·cases h3
def PA(P:Program)(t:TypeId)(ty:Ty):Bool:=(match ty.eq with
 |true=>PD P t ty.ls.kinds
 |false=>true)&&((match P.info? t with
  |some i=>i.size==ty.ls.n&&match i.zero with
   |some z=>match ty.agg with
    |true=>match z with
     | .agg cs=>LV ty.ls.kinds cs.toList
     |_=>false
    |false=>LV ty.ls.kinds z.cells.toList
   |none=>false
  |none=>false) &&
 match ty.agg with
 |true=>match P.underlying t with
  |some (.struct fs)=>G9 fs.toList ty.fs&&HK P fs.toList
  |_=>false
 |false=>match ty.ls with
  | .one l=>I6 P t l
  |_=>false)
theorem OZ{P:Program}{t:TypeId}{ty:Ty}(h:PA P t ty=true):Ny P t ty:=by
 unfold PA at h;rw[AAJ]at h;obtain⟨h0,h⟩:=h;simp only[AAJ]at h;obtain⟨h1,h2⟩:=h;refine⟨?_,λha=>?_,λha=>?_,λhe=>by rw[he]at h0;exact OA h0⟩
 ·split at h1
  ·rename_i i hi;simp only[AAJ,AAT]at h1;obtain⟨hs,h1⟩:=h1;split at h1
   ·rename_i z hz;refine⟨i,hi,hs,z,hz,?_⟩;split at h1
    ·rename_i ha;split at h1
     ·rename_i cs;have hc:cs=(ty.ls.kinds.map CL).toArray:=by rw[<-G6 h1]
      exact⟨hc,.inl (by rw[hc])⟩
     ·cases h1
    ·rename_i ha;exact⟨by rw[<-G6 h1],.inr ha⟩
   ·cases h1
  ·cases h1
 ·rw[ha]at h2;dsimp only at h2;split at h2
  ·rename_i fs hfs;simp only[AAJ]at h2;exact⟨fs,hfs,Hr h2.1,IG h2.2⟩
  ·cases h2
 ·rw[ha]at h2;dsimp only at h2;split at h2
  ·rename_i l hl;exact⟨l,hl,MZ h2⟩
  ·cases h2
theorem M8{P:Program}{tbl:List (Nat×Ty)}(h:tbl.all (λp=>PA P p.1 p.2)=true):∀t x,find tbl t=some x->Ny P t x:=
 λt x hx=>OZ (AAW.1 h _ (J5 hx))
def K5 (P : Program) (f : FuncId) : Prop := ∃ (fn : Func) (c : Code), P.funcs[f]? = some fn /\ fn.body = some c /\ (fn.name == "runtime.NumGoroutine") = false
theorem O1{P:Program}{T:List (String×Array Value)}:Io P T (find []):=λf g h=>by cases h
theorem Ol{P:Program}{T:List (String×Array Value)}{f:FuncId}{g:NB}{l:List (FuncId×NB)}(h:LS P T f g)(hb:K5 P f)(hl:Io P T (find l)):Io P T (find ((f,g)::l)):=by
 intro f' g' h';unfold find at h';split at h'
 ·rename_i hk;have:f=f':=Nat.eq_of_beq_eq_true hk;subst this;injection h' with h';subst h'
  exact⟨h,hb⟩
 ·exact hl f' g' h'
def plain(l:List (FuncId×NB)):Env:=⟨find l,λ_ _=>none,λ_=>false⟩
theorem Oc{P:Program}{T:List (String×Array Value)}{l:List (FuncId×NB)}(h:Io P T (find l)):Jn P T (plain l):=⟨h,(λ_ _ _ h=>by cases h),(λ_ h=>by cases h)⟩
def Nq(l:List (FuncId×NB))(f g:FuncId)(σ:Oa)(ts:List TypeId):Env:=⟨find l,λf' g'=>if f'==f&&g'==g then some σ else none,λt=>has ts t⟩
theorem O2{P:Program}{T:List (String×Array Value)}{f:FuncId}{sm:Sm}:LS P T f ⟨sm,λ_=>none⟩:=by intro args w fz yv bk om x z hg yt hx hz;cases hz
theorem Od{P:Program}{T:List (String×Array Value)}{tbl:List (Nat×Ty)}{l:Env}{an:An}{n:Nat}{sm:Sm}{fn:Func}{f:FuncId}{c:Code}{F:sm.ins.D->Option sm.outs.D}
  (hf:P.funcs[f]?=some fn) (hb:fn.body=some c) (hlen:decide (sm.ps.length<=fn.ntmps)=true) (ht:tbl.all (λp=>PA P p.1 p.2)=true) (hl:Jn P T l) (hm:P.follows .mixedOrders=true)
  (hF:∀x,MQ (find tbl) l an n fn sm x=F x):LS P T f ⟨sm,F⟩:=by
 have h:=On (an:=an) (n:=n) (sm:=sm) hf hb (AAs hlen) (M8 ht) hl hm;have:MQ (find tbl) l an n fn sm=F:=funext hF;rw[this]at h;exact h
end Go.Ev
