/- Evaluator. Conditions: none. -/
import Derived.Test.YtimfhfkcgkplcaaGreatDoorLib3
import Derived.Deep.LoopGhost
import Derived.Tactics
import Derived.SizedLaws
import Derived.Carry
import Derived.ChangeShapes
import Derived.RowKit
set_option linter.all false
namespace Go.Ev
section
variable {P:Program}{E:Ck}{cx:Cx}{N:Nat}{s:St}{W:Wd}{a:Act}{Q:Exit->Act->World->Prop}
theorem HK:∀(os:List Oper)(i:Nat)(o:Oper)(d:Nat),o∈os->o.dst=some d->d∈Gf (number i os)
 | [],i,o,d,h,_=>by cases h
 |x::os,i,o,d,h,hd=>by
  simp only[number,Gf];rcases AAf.1 h with rfl|h
  ·rw[hd];exact AAk
  ·have:=HK os (i+1) o d h hd;cases x.dst with
   |none=>exact this
   |some y=>exact AAM _ this
theorem LL{s':St}{n:Nat}(h:Am cx s s')(hn:s.Bd<=n):Am cx s { s' with Bd:=n }:=⟨h.AM,h.roots,h.box,h.l1,h.l2,hn⟩
theorem Hw{an:An}(hc:Db P cx)(ue:C8 P E cx.env)(hm:P.follows .mixedOrders=true){id:Nat}{ops:Array Oper}{draw:Bool}{R:Type}{k:St->Option R}{x:R}(ua:codeOk N (.region id ops draw)=true)
  (vc:∀t∈B2 (.region id ops draw),cx.lock t=false/\cx.Eu t=false) (uP:AW E s a.tmps W) (hinv:Inv N s) (he:EX cx an id ops draw s k=some x)
  (hK:∀s' a' W',a'.defers=a.defers->AW E s' a'.tmps W'->Inv N s'->Am cx s s'->k s'=some x->Q .normal a' W'.w):(Code.region id ops draw).wp P Q a W.w:=by
 unfold EX at he;dsimp only at he;split at he
 ·refine MX hc ue hm ua (λo ho d hd=>(vc d (HK _ _ o d ho hd)).2) uP hinv he λs' a' W' q1 q2 q3 q4 q5 q6=>?_;exact hK { s' with Bd:=s.Bd+ops.size } a' W' q1 (Mx q2) ⟨q5,by have:=hinv.two;show 2<=s.Bd+ops.size;omega,q3.l1.trans hinv.len,q3.l2.trans hinv.Bb,q4⟩ (LL q3 J) q6
 ·have he:(λps:List VP=>if Cc cx (Gf (number 0 ops.toList)) ps then(EE (cx.in (Gf (number 0 ops.toList)) ps) ⟨ops,s.Bd,draw⟩ (number 0 ops.toList) (Eh ops.toList []) [] s (Al ps)).bind λx=>k (Bm (Gf (number 0 ops.toList)) ps s x)else none) (match an.O1 id with
   |some p=>p
   |none=>I3 ops.toList)=some x:=he
  generalize (match an.O1 id with
   |some p=>p
   |none=>I3 ops.toList)=ps at he
  dsimp only at he;split at he
  ·rename_i hpat;cases hq:EE (cx.in (Gf (number 0 ops.toList)) ps) ⟨ops,s.Bd,draw⟩ (number 0 ops.toList) (Eh ops.toList []) [] s (Al ps)with
   |none=>rw[hq]at he;cases he
   |some y=>
    rw[hq]at he;have he:k (Bm (Gf (number 0 ops.toList)) ps s y)=some x:=he;have yU:Db P (cx.in (Gf (number 0 ops.toList)) ps):=hc;refine MX yU ue hm ua (λo ho d hd=>?_) uP hinv hq λs' a' W' q1 q2 q3 q4 q5 q6=>?_
    ·have xR:=HK ops.toList 0 o d ho hd;have h1:cx.Eu d=false:=(vc d xR).2;simp[Cx.in,h1,(Av _ d).2 xR]
    ·obtain⟨W2,w2,r2,i2,k2,_⟩:=Dc (N:=N) q2 q4 hinv q3 (λt ht=>vc t ht) hpat q6;rw[<-w2];exact hK _ a' W2 q1 r2 i2 k2 he
  ·cases he
theorem Ji{rs:Is}{s':St}{W':Wd}(fr:JP s s' W W' rs)(vc:∀r∈rs,cx.lock r=false)(vA:∀r,r∉rs->s'.root r=s.root r)(xc:s'.Bd=s.Bd):Am cx s s' where
 AM t _:=by
  have:s'.slot t=s.slot t:=by show nth _ s'.sl t=_;rw[fr.same.sl];rfl
  rw[this];exact .same _
 roots r hr:=vA r λhm=>by rw[vc r hm]at hr;cases hr
 box r _:=fr.same.box r
 l1:=by rw[fr.same.sl]
 l2:=fr.same.len
 Bd:=by rw[xc];exact AAb _
theorem GX(r:Nat):∀(as:List LA)(j:Nat)(s:St),(s.app (A3 r j as)).Bd=s.Bd/\∀x,x≠r->(s.app (A3 r j as)).root x=s.root x
 | [],j,s=>⟨rfl,λ_ _=>rfl⟩
 |a::as,j,s=>by obtain⟨h1,h2⟩:=GX r as (j+1) (s.AG (.leaf r j a));refine⟨h1,λx hx=>(h2 x hx).trans ?_⟩;show nth _ (DL s.ro r _) x=_;rw[BW,AAQ λhh=>hx hh.1.symm];rfl
theorem FV:∀ {rs:Is} {ws:List Wr} (s0 s:St),Ao cx s0 rs=some ws->(s.app ws).Bd=s.Bd/\∀x,x∉rs->(s.app ws).root x=s.root x
 | [],ws,s0,s,h=>by injection h with h;subst h;exact⟨rfl,λ_ _=>rfl⟩
 |r::rs,ws,s0,s,h=>by
  simp only[Ao]at h;split at h
  ·cases h
  ·split at h
   ·rename_i wG xW;injection h with h;subst h
    rw[A5]
    obtain⟨a1,a2⟩:(s.app (C0 s0 r)).Bd=s.Bd/\∀x,x≠r->(s.app (C0 s0 r)).root x=s.root x:=by
     unfold C0;split
     ·exact⟨rfl,λ_ _=>rfl⟩
     ·exact GX r ((s0.root r).ls.map A9) 0 s
    obtain⟨b1,b2⟩:=FV s0 (s.app (C0 s0 r)) xW;exact⟨b1.trans a1,λx hx=>(b2 x λhm=>hx (AAM _ hm)).trans (a2 x λe=>hx (e▸AAk))⟩
   ·cases h
theorem Ix(a:LA):(A9 a).AF=a.AF:=by cases a<;>rfl
theorem KJ(a:LA)(h:a.Cg=true):(A9 a).Cg=true:=by cases a<;>first|exact h|rfl
theorem Hh(r:Nat):∀(as:List LA)(j:Nat)(s:St)(x:Nat),∀a∈((s.app (A3 r j as)).root x).ls,a∈(s.root x).ls\/(x=r/\a∈as)
 | [],j,s,x,a,h=>.inl h
 |b::as,j,s,x,a,h=>by
  rcases Hh r as (j+1) (s.AG (.leaf r j b)) x a h with h|⟨h1,h2⟩
  ·have vA:(s.AG (.leaf r j b)).root x=if r=x/\r<s.ro.length then { s.root r with ls:=DL (s.root r).ls j b }else s.root x:=BW _ _ _ _ _
   rw[vA]at h;split at h
   ·rename_i hx;have h:a∈DL (s.root r).ls j b:=h;rw[CH]at h;rcases List.mem_or_eq_of_mem_set h with h|h
    ·rw[<-hx.1];exact .inl h
    ·exact .inr ⟨hx.1.symm,by rw[h];exact AAk⟩
   ·exact .inl h
  ·exact .inr ⟨h1,AAM _ h2⟩
theorem E5:∀ {rs:Is} {ws:List Wr} (s0 s:St),Ao cx s0 rs=some ws->∀(x:Nat),∀a∈((s.app ws).root x).ls,a∈(s.root x).ls\/∃b∈(s0.root x).ls,a=A9 b
 | [],ws,s0,s,h,x,a,ha=>by injection h with h;subst h;exact .inl ha
 |r::rs,ws,s0,s,h,x,a,ha=>by
  simp only[Ao]at h;split at h
  ·cases h
  ·split at h
   ·rename_i wG xW;injection h with h;subst h
    rw[A5]at ha;rcases E5 s0 _ xW x a ha with ha|ha
    ·unfold C0 at ha;split at ha
     ·exact .inl ha
     rcases Hh r _ 0 s x a ha with ha|⟨h1,h2⟩
     ·exact .inl ha
     ·subst h1;obtain⟨b,hb,e⟩:=AAs.1 h2;exact .inr ⟨b,hb,e.symm⟩
    ·exact .inr ha
   ·cases h
theorem Jn(r:Nat):∀(as:List LA)(j:Nat)(s:St)(x:Nat),((s.app (A3 r j as)).root x).AB=(s.root x).AB
 | [],j,s,x=>rfl
 |b::as,j,s,x=>by refine(Jn r as (j+1) (s.AG (.leaf r j b)) x).trans ?_;exact((BY s r j b).box x).2.1
theorem LV{an:An}(hc:Db P cx)(ue:C8 P E cx.env)(hm:P.follows .mixedOrders=true){id:Nat}{ops:Array Oper}{draw:Bool}{R:Type}{k:St->Option R}{x:R}(ua:codeOk N (.region id ops draw)=true)
  (vc:∀t∈B2 (.region id ops draw),cx.lock t=false/\cx.Eu t=false) (uP:AW E s a.tmps W) (hinv:Inv N s) (he:HQ cx an id ops draw s k=some x)
  (hK:∀s' a' W',a'.defers=a.defers->AW E s' a'.tmps W'->Inv N s'->Am cx s s'->k s'=some x->Q .normal a' W'.w):(Code.region id ops draw).wp P Q a W.w:=by
 unfold HQ at he;split at he
 ·exact Hw hc ue hm ua vc uP hinv he hK
 ·rename_i r rs _;split at he
  ·rename_i vY;split at he
   ·rename_i fs wP;have hnv:Aj s s.Bd:=hinv.AF.Hl (v:=s.Bd) (Nat.lt_irrefl _) (by have:=hinv.two;omega);obtain⟨W1,yd,fr,_⟩:=EY uP hnv wP;obtain⟨c1,c2⟩:=FV (cx:=cx) s s wP;have zO:Am cx s (s.app fs):=Ji fr (λy hy=>by simpa using AAW.1 vY y hy) c2 c1
    have hi1:Inv N (s.app fs):={
     AF:=by
      have hv:=hinv.AF;rw[c1];refine⟨λt n hn=>?_,λy n hn=>?_⟩
      ·have:(s.app fs).slot t=s.slot t:=by show nth _ (s.app fs).sl t=_;rw[fr.same.sl];rfl
       rw[this]at hn;exact hv.1 t n hn
      ·have uT:((s.app fs).root y).AB=(s.root y).AB:=(fr.same.box y).2.1;unfold Bz.AF at hn;rw[uT]at hn;rcases AAf.1 hn with e|hn
       ·exact hv.2 y n (by unfold Bz.AF;rw[e];exact AAk)
       ·obtain⟨b,hb,hbn⟩:=AAL.1 hn;rcases E5 (cx:=cx) s s wP y b hb with hb|⟨b0,yT,e⟩
        ·exact hv.2 y n (by unfold Bz.AF;exact AAM _ (AAL.2 ⟨b,hb,hbn⟩))
        ·rw[e,Ix]at hbn;exact hv.2 y n (by unfold Bz.AF;exact AAM _ (AAL.2 ⟨b0,yT,hbn⟩))
     two:=by rw[c1];exact hinv.two
     len:=zO.l1.trans hinv.len
     Bb:=zO.l2.trans hinv.Bb
     LW:=λy b hb=>by
      rcases E5 (cx:=cx) s s wP y b hb with hb|⟨b0,yT,e⟩
      ·exact hinv.LW y b hb
      ·rw[e];exact KJ b0 (hinv.LW y b0 yT) }
    rw[<-fr.w];exact Hw hc ue hm ua vc yd hi1 he λs' a' W' q1 q2 q3 q4 q5=>hK s' a' W' q1 q2 q3 (zO.trans q4) q5
   ·cases he
  ·cases he
end
end Go.Ev
namespace Go.Ev
section
variable {P:Program}{E:Ck}{N:Nat}
theorem F4{cx:Cx}{ms:Is}{ps:List VP}(h:∀t∈ms,cx.lock t=false/\cx.Eu t=false):∀t∈ms,(cx.in ms ps).lock t=false/\(cx.in ms ps).Eu t=false:=λt ht=>by have:=h t ht;simp[Cx.in,this.1,this.2,(Av ms t).2 ht]
def Claim(P:Program)(E:Ck)(N:Nat)(an:An)(n:Nat){RD:Type}(rp:St->Option RD)(c:Code):Prop:=∀ {R:Type} {cx:Cx} {s:St} {kn:St->Option R} {kx:Nat->St->Option R} {kr:RD->Option R} {x:R} {a:Act} {W:Wd} {Q:Exit->Act->World->Prop},
  Db P cx->C8 P E cx.env->codeOk N c=true->(∀t∈B2 c,cx.lock t=false/\cx.Eu t=false)->AW E s a.tmps W->Inv N s->ev an n rp c cx s kn kx kr=some x->
  (∀s' a' W',a'.defers=a.defers->AW E s' a'.tmps W'->Inv N s'->Am cx s s'->kn s'=some x->Q .normal a' W'.w)->
  (∀id s' a' W',a'.defers=a.defers->AW E s' a'.tmps W'->Inv N s'->Am cx s s'->kx id s'=some x->Q (.exit id) a' W'.w)->
  (∀y s' a' W',a'.defers=a.defers->AW E s' a'.tmps W'->Inv N s'->rp s'=some y->kr y=some x->Q .ret a' W'.w)->c.wp P Q a W.w
theorem Kj{an:An}{n:Nat}{RD:Type}{rp:St->Option RD}{c':Code}(ihb:Claim P E N an n rp c'){cx:Cx}{s:St}{ps:List VP}{id:Nat}{a0:Act}
  (hc:Db P cx) (ue:C8 P E cx.env) (ua:codeOk N c'=true) (vc:∀t∈B2 c',cx.lock t=false/\cx.Eu t=false) (hinv:Inv N s) (hp:Cc cx (B2 c') ps=true)
  {γ:Type} {g:(C6 ps).D->γ} {kr':RD->Option ((C6 ps).D⊕γ)} (hkr:∀r y,kr' r=some (.inl y)->False) {q:γ} {Q:Exit->Act->World->Prop}
  (hdone:∀x' s' a' W',a'.defers=a0.defers->AW E s' a'.tmps W'->Inv N s'->Am (cx.in (B2 c') ps) s s'->Al ps s'=some x'->g x'=q->Q (.exit id) a' W'.w)
  (hret:∀y s' a' W',a'.defers=a0.defers->AW E s' a'.tmps W'->Inv N s'->rp s'=some y->kr' y=some (.inr q)->Q .ret a' W'.w)
  {m:Nat} {x0:(C6 ps).D} {a:Act} {W:Wd} {s1:St} (hd:a.defers=a0.defers) (uP:AW E s1 a.tmps W) (uO:BU s1) (hk:Am (cx.in (B2 c') ps) s s1) (hx:Al ps s1=some x0)
  (hit:iter (α:=(C6 ps).D) (γ:=γ) m (λx=>ev an n rp c' (cx.in (B2 c') ps) (Bm (B2 c') ps s x) (λs=>(Al ps s).bind λx=>some (.inl x)) (λi s=>if i==id then(Al ps s).bind λx=>some (.inr (g x))else none) kr') x0=some q):
  (Code.loop c').wp P Q a W.w:=by
 refine wp_loop_ghost (λk a w=>∃(W:Wd) (s1:St) (x:(C6 ps).D),W.w=w/\a.defers=a0.defers/\AW E s1 a.tmps W/\BU s1/\Am (cx.in (B2 c') ps) s s1/\Al ps s1=some x/\
  iter (α:=(C6 ps).D) (γ:=γ) k (λx=>ev an n rp c' (cx.in (B2 c') ps) (Bm (B2 c') ps s x) (λs=>(Al ps s).bind λx=>some (.inl x)) (λi s=>if i==id then(Al ps s).bind λx=>some (.inr (g x))else none) kr') x=some q) m
  ⟨W,s1,x0,rfl,hd,uP,uO,hk,hx,hit⟩ ?_
 rintro k a w ⟨W,s1,x,rfl,hd,uP,uO,hk,hx,hit⟩
 cases k with
 |zero=>cases hit
 |succ k=>
  simp only[iter]at hit;obtain⟨W2,w2,r2,i2,k2,k3⟩:=Dc (N:=N) uP uO hinv hk vc hp hx;cases hq:ev an n rp c' (R:=(C6 ps).D⊕γ) (cx.in (B2 c') ps) (Bm (B2 c') ps s x) (λs=>(Al ps s).bind λx=>some (.inl x)) (λi s=>if i==id then(Al ps s).bind λx=>some (.inr (g x))else none) kr' with
  |none=>grind
  |some y=>
   rw[hq]at hit;rw[<-w2];have yU:Db P (cx.in (B2 c') ps):=hc;refine ihb yU ue ua (F4 vc) r2 i2 hq (λs3 a3 W3 q1 q2 q3 q4 q5=>?_) (λi s3 a3 W3 q1 q2 q3 q4 q5=>?_) (λz s3 a3 W3 q1 q2 q3 q4 q5=>?_)
   ·cases we:Al ps s3 with
    |none=>grind
    |some z=>
     rw[we]at q5;injection q5 with q5
     subst q5;exact⟨k,Nat.lt_succ_self k,W3,s3,z,rfl,q1.trans hd,q2,q3.LW,k3.trans q4,we,hit⟩
   ·split at q5
    ·rename_i hi;have hi:i=id:=ADR
     subst hi;cases we:Al ps s3 with
     |none=>grind
     |some z=>
      rw[we]at q5;injection q5 with q5
      subst q5;injection hit with hit
      exact hdone z s3 a3 W3 (q1.trans hd) q2 q3 (k3.trans q4) we hit
    ·cases q5
   ·cases y with
    |inl y=>grind
    |inr y=>
     injection hit with hit
     subst hit;exact hret z s3 a3 W3 (q1.trans hd) q2 q3 q4 q5
theorem Mz{an:An}{n:Nat}{RD:Type}{rp:St->Option RD}(hm:P.follows .mixedOrders=true):∀(c:Code),Claim P E N an n rp c/\∀c',c=.loop c'->Claim P E N an n rp c':=by
 intro c
 induction c with
 |skip=>
  refine⟨?_,λc' e=>by cases e⟩;intro R cx s kn kx kr x a W Q hc ue ua vc uP hinv he hn hx hr;exact wp_skip (hn s a W rfl uP hinv (Am.refl _ _) he)
 |region id ops draw=>
  refine⟨?_,λc' e=>by cases e⟩;intro R cx s kn kx kr x a W Q hc ue ua vc uP hinv he hn hx hr;exact LV hc ue hm ua vc uP hinv he hn
 |seq b c ihb ihc=>
  refine⟨?_,λc' e=>by cases e⟩;intro R cx s kn kx kr x a W Q hc ue ua vc uP hinv he hn hx hr;simp only[codeOk,AAJ]at ua;have yX:∀t∈B2 b,cx.lock t=false/\cx.Eu t=false:=λt ht=>vc t (AAU _ ht);have hlb:∀t∈B2 c,cx.lock t=false/\cx.Eu t=false:=λt ht=>vc t (AAR _ ht);refine wp_seq ?_
  have next:∀ {s1:St} {a1:Act} {W1:Wd},a1.defers=a.defers->AW E s1 a1.tmps W1->Inv N s1->Am cx s s1->ev an n rp c cx s1 kn kx kr=some x->c.wp P Q a1 W1.w:=λhd1 yd hi1 zO he1=>
   ihc.1 hc ue ua.2 hlb yd hi1 he1 (λs2 a2 W2 q1 q2 q3 q4 q5=>hn s2 a2 W2 (q1.trans hd1) q2 q3 (zO.trans q4) q5) (λi s2 a2 W2 q1 q2 q3 q4 q5=>hx i s2 a2 W2 (q1.trans hd1) q2 q3 (zO.trans q4) q5)
    (λy s2 a2 W2 q1 q2 q3 q4 q5=>hr y s2 a2 W2 (q1.trans hd1) q2 q3 q4 q5)
  simp only[ev]at he;split at he
  ·exact ihb.1 hc ue ua.1 yX uP hinv he (λs1 a1 W1 q1 q2 q3 q4 q5=>next q1 q2 q3 q4 q5) hx hr
  ·rename_i ps rets hj;split at he
   ·rename_i hp;have yU:Db P (cx.in (B2 b) ps):=hc;cases rets with
    |false=>
     dsimp only at he;cases hq:ev an n rp b (R:=(C6 ps).D) (cx.in (B2 b) ps) s (Al ps) (λ_ _=>none) (λ_=>none)with
     |none=>grind
     |some y=>
      rw[hq]at he;refine ihb.1 yU ue ua.1 (F4 yX) uP hinv hq (λs1 a1 W1 q1 q2 q3 q4 q5=>?_) (λ_ _ _ _ _ _ _ _ q=>by cases q) (λ_ _ _ _ _ _ _ _ q=>by cases q);obtain⟨W2,w2,r2,i2,k2,_⟩:=Dc (N:=N) q2 q3.LW hinv q4 yX hp q5;show c.wp P Q a1 W1.w;grind
    |true=>
     dsimp only at he;cases hq:ev an n rp b (R:=(C6 ps).D⊕RD) (cx.in (B2 b) ps) s (λs=>(Al ps s).bind λx=>some (.inl x)) (λ_ _=>none) (λr=>some (.inr r))with
     |none=>grind
     |some y=>
      rw[hq]at he;refine ihb.1 yU ue ua.1 (F4 yX) uP hinv hq (λs1 a1 W1 q1 q2 q3 q4 q5=>?_) (λ_ _ _ _ _ _ _ _ q=>by cases q) (λy' s1 a1 W1 q1 q2 q3 q4 q5=>?_)
      ·cases we:Al ps s1 with
       |none=>grind
       |some z=>
        rw[we]at q5;injection q5 with q5
        subst q5;obtain⟨W2,w2,r2,i2,k2,_⟩:=Dc (N:=N) q2 q3.LW hinv q4 yX hp we;show c.wp P Q a1 W1.w;grind
      ·injection q5 with q5
       subst q5;exact hr y' s1 a1 W1 q1 q2 q3 q4 he
   ·cases he
 |cond o b c ihb ihc=>
  refine⟨?_,λc' e=>by cases e⟩;intro R cx s kn kx kr x a W Q hc ue ua vc uP hinv he hn hx hr;simp only[codeOk,AAJ]at ua;have yX:∀t∈B2 b,cx.lock t=false/\cx.Eu t=false:=λt ht=>vc t (AAU _ ht);have hlb:∀t∈B2 c,cx.lock t=false/\cx.Eu t=false:=λt ht=>vc t (AAR _ ht);have h1:=Ac uP o;simp only[ev]at he;split at he
  ·rename_i t hq;rw[hq]at h1;have h1:a.eval o=.bool t:=h1.1;refine wp_cond h1 ?_;cases t with
   |true=>exact ihb.1 hc ue ua.1 yX uP hinv he hn hx hr
   |false=>exact ihc.1 hc ue ua.2 hlb uP hinv he hn hx hr
  ·cases he
 |block id c ih=>
  refine⟨?_,λc' e=>by cases e⟩;intro R cx s kn kx kr x a W Q hc ue ua vc uP hinv he hn hx hr;simp only[ev]at he;cases hb:an.blk id with
  |none=>
   rw[hb]at he;refine wp_block (ih.1 hc ue ua vc uP hinv he hn (λi s' a' W' q1 q2 q3 q4 q5=>?_) hr);show(if i=id then Q .normal a' W'.w else Q (.exit i) a' W'.w);grind
  |some p=>
   obtain⟨ps,rets⟩:=p;rw[hb]at he;dsimp only at he;split at he
   ·rename_i c';have ihb:Claim P E N an n rp c':=ih.2 c' rfl;have ua:codeOk N c'=true:=ua;have vc:∀t∈B2 c',cx.lock t=false/\cx.Eu t=false:=vc;split at he
    ·rename_i hp;refine wp_block ?_;cases rets with
     |false=>
      dsimp only at he;cases we:Al ps s with
      |none=>grind
      |some x0=>
       rw[we]at he;simp only[Option.bind_some]at he;obtain⟨q,hq,he⟩:=ABB.1 he;refine Kj (g:=λx=>x) ihb hc ue ua vc hinv hp (λ_ _ q=>by cases q) (λx' s' a' W' q1 q2 q3 q4 q5 q6=>?_) (λ_ _ _ _ _ _ _ _ q=>by cases q) rfl uP hinv.LW (Am.refl _ _) we hq;subst q6;obtain⟨W2,w2,r2,i2,k2,_⟩:=Dc (N:=N) q2 q3.LW hinv q4 vc hp q5;show(if id=id then Q .normal a' W'.w else Q (.exit id) a' W'.w);grind
     |true=>
      dsimp only at he;cases we:Al ps s with
      |none=>grind
      |some x0=>
       rw[we]at he;simp only[Option.bind_some]at he;obtain⟨q,hq,he⟩:=ABB.1 he;refine Kj (g:=λx=>(.inl x:(C6 ps).D⊕RD)) ihb hc ue ua vc hinv hp (λ_ _ q=>by cases q) (λx' s' a' W' q1 q2 q3 q4 q5 q6=>?_) (λy s' a' W' q1 q2 q3 q4 q5=>?_) rfl uP hinv.LW (Am.refl _ _) we hq
       ·subst q6;obtain⟨W2,w2,r2,i2,k2,_⟩:=Dc (N:=N) q2 q3.LW hinv q4 vc hp q5;show(if id=id then Q .normal a' W'.w else Q (.exit id) a' W'.w);grind
       ·injection q5 with q5
        injection q5 with q5
        subst q5;exact hr y s' a' W' q1 q2 q3 q4 he
    ·cases he
   ·cases he
 |exit id=>
  refine⟨?_,λc' e=>by cases e⟩;intro R cx s kn kx kr x a W Q hc ue ua vc uP hinv he hn hx hr;exact wp_exit (hx id s a W rfl uP hinv (Am.refl _ _) he)
 |ret=>
  refine⟨?_,λc' e=>by cases e⟩;intro R cx s kn kx kr x a W Q hc ue ua vc uP hinv he hn hx hr;simp only[ev]at he;cases hq:rp s with
  |none=>grind
  |some y=>rw[hq]at he;exact wp_ret (hr y s a W rfl uP hinv hq he)
 |loop c ih=>
  refine⟨?_,λc' e=>by grind⟩;intro R cx s kn kx kr x a W Q hc ue ua vc uP hinv he hn hx hr;simp only[ev]at he;cases he
 |_=>
  refine⟨?_,λc' e=>by cases e⟩;intro R cx s kn kx kr x a W Q hc ue ua vc uP hinv he hn hx hr;simp only[ev]at he;cases he
end
end Go.Ev
namespace Go.Ev
inductive BL(W:Wd):List (Nat×Nat)->List (Nat×Nat)->List Is->Prop
 |nil (us):BL W us us []
 |skip {us vl os} (h:BL W us vl os):BL W us vl ([]::os)
 |take {us vl os u o} (hu:u∉us) (hs:∀b∈o,b∈W.om (.lf u.1 u.2)) (hn:o.Nodup) (h:BL W (u::us) vl os):BL W us vl (o::os)
section
variable {P:Program}{E:Ck}{s:St}{W:Wd}{tm:Array Value}{β:Type}{t:β}
theorem BL.append{us us1 us2:List (Nat×Nat)}{xs ys:List Is}(h1:BL W us us1 xs)(h2:BL W us1 us2 ys):BL W us us2 (xs++ys):=by
 induction h1 with
 |nil=>exact h2
 |skip h ih=>exact .skip (ih h2)
 |take hu hs hn h ih=>exact .take hu hs hn (ih h2)
theorem BL.sub{us vl:List (Nat×Nat)}{os:List Is}(h:BL W us vl os):∀u∈us,u∈vl:=by
 induction h with
 |nil=>grind
 |skip h ih=>exact ih
 |take hu hs hn h ih=>grind
theorem BL.mem{us vl:List (Nat×Nat)}{os:List Is}(h:BL W us vl os):∀o∈os,∀b∈o,∃u,u∉us/\b∈W.om (.lf u.1 u.2):=by
 induction h with
 |nil=>grind
 |skip h ih=>
  grind
 |take hu hs hn h ih=>
  grind
theorem BL.nodup{us vl:List (Nat×Nat)}{os:List Is}(h:BL W us vl os):∀o∈os,o.Nodup:=by
 induction h with
 |nil=>grind
 |skip h ih=>
  grind
 |take hu hs hn h ih=>
  grind
def Ew(a b:Is):Prop:=∀x∈a,x∉b
theorem Ew.symm{a b:Is}(h:Ew a b):Ew b a:=λx hx hy=>h x hy hx
theorem BL.pair(hd:∀k k',k≠k'->∀b∈W.om k,b∉W.om k'){us vl:List (Nat×Nat)}{os:List Is}(h:BL W us vl os):os.Pairwise Ew:=by
 induction h with
 |nil=>exact .nil
 |skip h ih=>exact .cons (λa _ x hx=>by cases hx) ih
 | @take us vl os u o hu hs hn h ih=>
  refine .cons (λa ha x hx hxa=>?_) ih;obtain⟨u',h1,h2⟩:=h.mem a ha x hxa;grind
theorem JE{α:Type}{R:α->α->Prop}(hs:∀a b,R a b->R b a){l:List α}(h:l.Pairwise R){i j:Nat}{a b:α}(zN:i≠j)(hi:l[i]?=some a)(hj:l[j]?=some b):R a b:=by
 obtain⟨h1,rfl⟩:=AAK.1 hi;obtain⟨h2,rfl⟩:=AAK.1 hj;rcases ABH zN with uR|uR
 ·exact ABL.1 h i j h1 h2 uR
 ·exact hs _ _ (ABL.1 h j i h2 h1 uR)
theorem D9(h:AW E s tm W){us:List (Nat×Nat)}{l:L}{m:Nat}{a:LA}{v:Value}{k:Lv->List (Nat×Nat)->Step β}(hv:AR s W a v)(hl:(FN s us l m a k).leads t):
  ∃(x:l.D) (vl:List (Nat×Nat)) (o:Is),(k ⟨l,x⟩ vl).leads t/\l.rd m W.w W.fz v x o/\BL W us vl [o]:=by
 cases l with
 |int kk=>obtain⟨x,hl,hr⟩:=Bs h hv hl;exact⟨x,us,[],hl,(L.AY _ rfl hr).1,.skip (.nil _)⟩
 |bool=>obtain⟨x,hl,hr⟩:=Bs h hv hl;exact⟨x,us,[],hl,(L.AY _ rfl hr).1,.skip (.nil _)⟩
 |str=>obtain⟨x,hl,hr⟩:=Bs h hv hl;exact⟨x,us,[],hl,(L.AY _ rfl hr).1,.skip (.nil _)⟩
 |sl t0 e=>
  unfold FN at hl;cases m with
  |zero=>
   simp only at hl;split at hl
   ·rename_i hs;obtain⟨x,hl,hr⟩:=J8 h hv hs hl;exact⟨x,us,[],hl,hr,.skip (.nil _)⟩
   ·exact hl.elim
  |succ m=>
   cases a with
   |CA=>exact⟨_,us,[],hl,by rw[show v=.slice none 0 0 from hv];exact Bl,.skip (.nil _)⟩
   |ref c=>
    simp only at hl;split at hl
    ·rename_i AB gen t' e' xs d uM;split at hl
     ·rename_i hc;simp only[AAJ,AAT,AAV]at hc;obtain⟨⟨⟨uT,hp⟩,hd⟩,hus⟩:=hc;subst uT;subst hd;have hp:c.p=[]:=by cases hq:c.p<;>simp_all[isNil]
      split at hl
      ·rename_i y hy;obtain⟨q1,q2⟩:=L.AH hy;cases q1;have q2:xs=y:=q2;subst q2;obtain⟨h',e2,uv,hn⟩:=hv gen _ _ _ _ uM (.inl hp);rw[hp]at hn;obtain⟨rfl,rfl⟩:=hn;obtain⟨u',uY,uW⟩:=(h.roots c.r).row uM;rw[uv]at uY;injection uY with uY;subst uY
       refine⟨xs,_,W.om (.lf c.r c.j),hl,uW,.take (u:=(c.r,c.j)) (λhh=>?_) (λb hb=>hb) (h.sep.nodup _) (.nil _)⟩;grind
      ·exact hl.elim
     ·exact hl.elim
    ·exact hl.elim
   |Dy c lo hi=>
    simp only at hl;split at hl
    ·rename_i AB gen t' e' xs d uM;split at hl
     ·rename_i hc;simp only[AAJ,AAT,AAV]at hc;obtain⟨⟨⟨uT,hp⟩,hd⟩,hus⟩:=hc;subst uT;subst hd;have hp:c.p=[]:=by cases hq:c.p<;>simp_all[isNil]
      split at hl
      ·rename_i y hy;obtain⟨q1,q2⟩:=L.AH hy;cases q1;have q2:sub xs lo hi=y:=q2;subst q2;obtain⟨h',e2,A,n,k0,uv,hn,h1,h2,xo⟩:=hv gen _ _ _ _ uM (.inl hp);rw[hp]at hn;obtain⟨rfl,rfl⟩:=hn;obtain⟨u',uY,uW⟩:=(h.roots c.r).row uM;rw[uv]at uY;injection uY with uY;subst uY
       obtain⟨o',q1,q2,q3⟩:=B0.sub uW h1 h2;refine⟨sub xs lo hi,_,o',hl,?_,.take (u:=(c.r,c.j)) (λhh=>?_) (λb hb=>q2 b hb) (q3 (h.sep.nodup _)) (.nil _)⟩
       ·rw[xo];exact q1
       grind
      ·exact hl.elim
     ·exact hl.elim
    ·exact hl.elim
   |_=>exact hl.elim
theorem DQ(h:AW E s tm W):∀(ls:List (L×Nat)) (as:List LA) (g:Nat->Option Value) {us:List (Nat×Nat)} {k:List Lv->List (Nat×Nat)->Step β},(∀(j:Nat)(a:LA),as[j]?=some a->∃u,g j=some u/\AR s W a u)->(CJ s ls as us k).leads t->
  ∃(vs:List Lv) (vl:List (Nat×Nat)) (os:List Is),(k vs vl).leads t/\vs.map (·.l)=ls.map (·.1)/\os.length=ls.length/\as.length=ls.length/\BL W us vl os/\
   ∀(j:Nat)(p:L×Nat)(lv:Lv),ls[j]?=some p->vs[j]?=some lv->∃y,g j=some y/\lv.l.rd p.2 W.w W.fz y lv.x ((os[j]?).getD [])
 | [],[],g,us,k,hg,hl=>⟨[],us,[],hl,rfl,rfl,rfl,.nil _,λj p lv hj=>ADb⟩
 | [],_::_,g,us,k,hg,hl=>hl.elim
 |_::_,[],g,us,k,hg,hl=>hl.elim
 |(l,m)::ls,a::as,g,us,k,hg,hl=>by obtain⟨u,hu,vH⟩:=hg 0 a rfl;obtain⟨x,us1,o,hl,hr,hb⟩:=D9 h vH hl;obtain⟨vs,us2,os,hl,h1,h2,h3,h4,h5⟩:=DQ h ls as (λj=>g (j+1)) (λj a hj=>hg (j+1) a ADW) hl;refine⟨⟨l,x⟩::vs,us2,o::os,hl,by simp[h1],by simp[h2],by simp[h3],hb.append h4,λj p lv hj hv=>?_⟩;grind
def JR(P:Program)(w:World)(tm:Array Value):List ResultVar->ADM->Prop
 | [],[]=>True
 | .tmp t::rv,u::us=>u=tm.getD t Go.undef/\JR P w tm rv us
 | .cell t T::rv,u::us=>(do loadVar T (<-asAddr (tm.getD t Go.undef)):Sem Value).run P w=.ok u w/\JR P w tm rv us
 |_,_=>False
theorem KM{T:TypeId}{y:Ty}(wO:NT P T y){as:List LA}{b:Nat}(hlen:as.length=y.ls.n)(ud:∀(j:Nat)(x:LA),as[j]?=some x->∃u,W.w.cell? ⟨b,0+j,none⟩=some u/\AR s W x u):
  ∃u,(loadVar T ⟨b,0,none⟩).run P W.w=.ok u W.w/\Ey s W y.agg as u:=by
 cases wR:y.agg with
 |false=>
  obtain⟨l,vx,vr⟩:=wO.lone wR;rw[vx]at hlen
  obtain⟨a,rfl⟩:∃a,as=[a]:=by
   match as,hlen with
   | [a],_=>grind
  obtain⟨u,hu,hy⟩:=ud 0 a rfl;obtain⟨d,hd,vd⟩:=vr.I9
  have wS:(isAgg T).run P W.w=.ok false W.w:=by
   unfold isAgg;rw[Sem.run_bind,run_underlying hd];cases d<;>simp_all
  simp only[AAx]at hu;exact⟨u,by simp[loadVar,wS,load,Sem.run,hu],hy⟩
 |true=>
  obtain⟨fs,wP,_⟩:=wO.agg wR;obtain⟨i,hi,uh,_⟩:=wO.info
  let f:Nat->Value:=λj=>(W.w.cell? ⟨b,0+j,none⟩).getD Go.undef
  let cs:ADM:=(List.range as.length).map f
  have w7:∀j u,cs[j]?=some u->W.w.cell? ⟨b,0+j,none⟩=some u:=by
   intro j u hj;simp only[cs,AAZ]at hj;by_cases uR:j<as.length
   ·rw[List.getElem?_range uR]at hj;simp at hj;obtain⟨u',uY,_⟩:=ud j as[j] (AAI uR);simp only[AAa]at uY;rw[<-hj];simp[f,uY]
   ·rw[List.getElem?_eq_none ADJ]at hj;cases hj
  have ub:=run_loadVar_mid (P:=P) W.w b 0 T cs (.struct fs) (λj u hj=>w7 j u hj) wP rfl (by simp[hi,uh,cs,hlen]);refine⟨.agg cs.toArray,ub,cs.toArray,rfl,by simp[cs],λj y hy=>?_⟩;grind
theorem G6{ty:TypeId->Option Ty}(wO:∀t x,ty t=some x->NT P t x)(h:AW E s tm W):∀(rs:List (Bool×List (L×Nat))) (rv:List ResultVar) {us:List (Nat×Nat)} {k:List Lv->List (Nat×Nat)->Step β},(Dm ty s rs rv us k).leads t->
  ∃(vals:ADM) (uN:List (List Lv)) (vl:List (Nat×Nat)) (os:List Is),(k uN.flatten vl).leads t/\BL W us vl os/\JR P W.w tm rv vals/\
   ∀(off:Nat)(om:Nat->Is),(∀j,j<os.length->om (off+j)=(os[j]?).getD [])->D4 W.w W.fz om rs vals uN off
 | [],[],us,k,hl=>⟨[],[],us,[],hl,.nil _,trivial,λoff om xU=>trivial⟩
 | [],_::_,us,k,hl=>hl.elim
 |_::_,[],us,k,hl=>hl.elim
 |(g,ls)::rs,r::rv,us,k,hl=>by
  have main:∀ {u:Value} {as:List LA},Ey s W g as u->(∀us,JR P W.w tm rv us->JR P W.w tm (r::rv) (u::us))->(CJ s ls as us λxs us=>Dm ty s rs rv us λys us=>k (xs++ys) us).leads t->
    ∃(vals:ADM) (uN:List (List Lv)) (vl:List (Nat×Nat)) (os:List Is),(k uN.flatten vl).leads t/\BL W us vl os/\JR P W.w tm (r::rv) vals/\
     ∀(off:Nat)(om:Nat->Is),(∀j,j<os.length->om (off+j)=(os[j]?).getD [])->D4 W.w W.fz om ((g,ls)::rs) vals uN off:=by
   intro u as vH zQ hl;obtain⟨vs,us1,os1,hl,h1,h2,h3,h4,h5⟩:=DQ h ls as (A8 g u) (λj a hj=>Cb vH j a hj) hl;obtain⟨vals,uN,us2,os2,hl,h6,h7,h8⟩:=G6 wO h rs rv hl;refine⟨u::vals,vs::uN,us2,os1++os2,No,h4.append h6,zQ _ h7,λoff om xU=>⟨⟨h1,?_,λj p lv hj hv=>?_⟩,?_⟩⟩
   ·cases g with
    |true=>obtain⟨cs,w7,uh,_⟩:=vH;grind
    |false=>
     cases as with
     |nil=>exact vH.elim
     |cons b bs=>cases bs with
      |nil=>exact h3.symm
      |cons=>exact vH.elim
   ·grind
   ·refine h8 (off+ls.length) om λj hj=>?_;rw[show off+ls.length+j=off+(ls.length+j) by omega,xU (ls.length+j) ADJ,ABJ J];grind
  cases r with
  |tmp u=>
   simp only[Dm]at hl;split at hl
   ·rename_i g' as wE;split at hl
    ·rename_i yg;have yg:g=g':=by simpa using yg
     subst yg;have vH:Ey s W g as (tm.getD u Go.undef):=by have:=h.AM u;rw[wE]at this;exact this
     exact main vH (λus hu=>⟨rfl,hu⟩) hl
    ·exact hl.elim
   ·exact hl.elim
  |cell u T=>
   simp only[Dm]at hl;split at hl
   ·rename_i y r0 AB hyT wE;split at hl
    ·rename_i yg;simp only[AAJ,AAT]at yg;obtain⟨yg,hyn⟩:=yg;subst yg;have hv:AR s W (.ptr r0 0 AB) (tm.getD u Go.undef):=by have:=h.AM u;rw[wE]at this;exact this
     have xD:(s.root r0).box=true/\(s.root r0).AB=AB:=by
      have zj:=hl;simp only[St.C4]at zj;split at zj
      ·grind
      ·exact zj.elim
     obtain⟨as,hl,_,b,off,hp,ud⟩:=Fe h hv hl;split at hl
     ·rename_i hlen;have hlen:as.length=ls.length:=ADZ
      have xT:off=0:=by
       rw[hv xD.1 xD.2]at hp;injection hp with hp;injection hp with hp;injection hp with _ h2
       exact h2.symm
      subst xT;obtain⟨v,zT,hv2⟩:=KM (wO T y hyT) J ud;exact main hv2 (λus hu=>⟨by simp[hp,asAddr,zT],hu⟩) hl
     ·exact hl.elim
    ·exact hl.elim
   ·exact hl.elim
def Lm(E:Ck)(s:St)(W:Wd)(i:Nat)(pm:PM)(vs0 vs:List Lv)(os:List Is):Prop:=match pm with
 | .box ls=>(s.root i).box=true/\(s.root i).AB=1/\(s.root i).ls.length=ls.length/\vs.map (·.l)=ls.map (·.1)/\os.length=ls.length/\
   (∀(j:Nat)(p:L×Nat)(lv:Lv),ls[j]?=some p->vs[j]?=some lv->∃y,W.w.cell? ⟨W.bk i,j,none⟩=some y/\lv.l.rd p.2 W.w W.fz y lv.x ((os[j]?).getD []))/\
   ∀(j:Nat)(p:L×Nat),ls[j]?=some p->p.2=3->W.w.cell? ⟨W.bk i,j,none⟩=E.OD i j
 | .row g ls=>vs.length=ls.length/\os.length=ls.length/\∀(j:Nat)(p:L×Nat)(lv:Lv),ls[j]?=some p->vs[j]?=some lv->
   (Bg p.1=true/\lv.l=p.1/\∃u,E.OD i j=some u/\lv.l.rd p.2 W.w W.fz u lv.x ((os[j]?).getD []))\/(Bg p.1=false/\vs0[j]?=some lv/\os[j]?=some [])
 |_=>vs=[]/\os=[]
theorem IX{i:Nat}:∀(j:Nat) (ls:List (L×Nat)),I2 s i j ls=true->∀(m:Nat)(p:L×Nat),ls[m]?=some p->p.2=3->∃(gen:Nat) (t:TypeId) (e:Ls) (xs:List e.D) (d:Nat),s.leaf i (j+m)=.arr 1 gen t e xs d
 |_,[],_,m,p,hp,_=>ADa
 |j,(l,d)::ls,hk,m,p,hp,h3=>by
  simp only[I2,AAJ]at hk;cases m with
  |zero=>
   simp only[List.getElem?_cons_zero,Option.some.injEq]at hp;subst hp;have h3:d=3:=h3;subst h3;have hk:=hk.1;simp only[beq_self_eq_true,cond_true]at hk;cases hq:s.leaf i j with
   |arr AB gen t e xs d=>
    rw[hq]at hk;have hk:AB=1:=by simpa using hk
    subst hk;exact⟨gen,t,e,xs,d,rfl⟩
   |_=>rw[hq]at hk;cases hk
  |succ m=>
   obtain⟨gen,t,e,xs,d',hq⟩:=IX (j+1) ls hk.2 m p (by simpa using hp) h3;exact⟨gen,t,e,xs,d',by rw[show j+(m+1)=j+1+m by omega];exact hq⟩
theorem E0(h:AW E s tm W)(i:Nat):∀(j:Nat) (ls:List (L×Nat)) (vs0 rest:List Lv) {us:List (Nat×Nat)} {k:List Lv->List (Nat×Nat)->Step β},vs0.length=ls.length->(EV s i j ls (vs0++rest) us k).leads t->
  ∃(vs:List Lv) (vl:List (Nat×Nat)) (os:List Is),(k vs vl).leads t/\vs.length=ls.length/\os.length=ls.length/\BL W us vl os/\∀(m:Nat)(p:L×Nat)(lv:Lv),ls[m]?=some p->vs[m]?=some lv->
   (Bg p.1=true/\lv.l=p.1/\∃u,E.OD i (j+m)=some u/\lv.l.rd p.2 W.w W.fz u lv.x ((os[m]?).getD []))\/(Bg p.1=false/\vs0[m]?=some lv/\os[m]?=some [])
 |j,[],vs0,rest,us,k,hlen,hl=>⟨[],us,[],hl,rfl,rfl,.nil _,λm p lv hp=>ADa⟩
 |j,_::_,[],rest,us,k,hlen,hl=>ADX
 |j,(l,d)::ls,x::vs0,rest,us,k,hlen,hl=>by
  have vN:vs0.length=ls.length:=ADZ
  have plain:Bg l=false->(EV s i (j+1) ls (vs0++rest) us λys us=>k (x::ys) us).leads t->∃(vs:List Lv) (vl:List (Nat×Nat)) (os:List Is),(k vs vl).leads t/\vs.length=((l,d)::ls).length/\os.length=((l,d)::ls).length/\BL W us vl os/\∀(m:Nat)(p:L×Nat)(lv:Lv),((l,d)::ls)[m]?=some p->vs[m]?=some lv->
    (Bg p.1=true/\lv.l=p.1/\∃u,E.OD i (j+m)=some u/\lv.l.rd p.2 W.w W.fz u lv.x ((os[m]?).getD []))\/(Bg p.1=false/\(x::vs0)[m]?=some lv/\os[m]?=some []):=by
   intro hs hl;obtain⟨vs,us1,os,hl,h1,h2,h3,h4⟩:=E0 h i (j+1) ls vs0 rest vN hl;refine⟨x::vs,us1,[]::os,hl,by simp[h1],by simp[h2],.skip h3,λm p lv hp hv=>?_⟩;cases m with
   |zero=>grind
   |succ m=>
    grind
  cases l with
  |int i=>exact plain rfl hl
  |bool=>exact plain rfl hl
  |str=>exact plain rfl hl
  |sl t0 e=>
   simp only[AA8,EV]at hl;split at hl
   ·rename_i gen t' e' vJ d' uM;obtain⟨u,hu,uW⟩:=(h.roots i).row uM;have hini:=h.init.1 _ _ _ _ _ _ _ uM
    have hv:AR s W (.ref ⟨i,j,1,gen,[]⟩) u:=by intro gen2 t2 e2 xs2 d2 zj _;have zj:s.leaf i j=_:=zj;exact⟨u,e2,hu,rfl,rfl⟩
    obtain⟨y,us1,o,hl,hr,hb⟩:=D9 h hv hl;obtain⟨vs,us2,os,hl,h1,h2,h3,h4⟩:=E0 h i (j+1) ls vs0 rest vN hl;refine⟨⟨.sl t0 e,y⟩::vs,us2,o::os,hl,by simp[h1],by simp[h2],hb.append h3,λm p lv hp hv=>?_⟩;cases m with
    |zero=>simp at hp hv;subst hp;subst hv;exact .inl ⟨rfl,rfl,u,No,No⟩
    |succ m=>
     grind
   ·obtain⟨x,us1,o,hl,hr,hb⟩:=D9 h (v:=Go.undef) (show AR s W .bad Go.undef from trivial) hl;cases d with
    |zero=>
     exfalso;exact absurd hl id
    |succ d=>exact absurd hl id
theorem IK(h:AW E s tm W):∀(i:Nat)(ps:List PM) (vss0:List (List Lv)) {us:List (Nat×Nat)} {k:List Lv->Step β},vss0.length=ps.length->(∀(j:Nat)(pm:PM)(vs:List Lv),ps[j]?=some pm->vss0[j]?=some vs->vs.length=pm.ins.length)->(Cw s i ps vss0.flatten us k).leads t->
  ∃(uN:List (List Lv)) (vl:List (Nat×Nat)) (oss:List (List Is)),(k uN.flatten).leads t/\uN.length=ps.length/\oss.length=ps.length/\BL W us vl oss.flatten/\
   ∀(j:Nat)(pm:PM)(vs0 vs:List Lv) (os:List Is),ps[j]?=some pm->vss0[j]?=some vs0->uN[j]?=some vs->oss[j]?=some os->Lm E s W (i+j) pm vs0 vs os
 |i,[],vss0,us,k,hlen,vX,hl=>⟨[],us,[],hl,rfl,rfl,.nil _,λj pm vs0 vs os hj=>ADb⟩
 |i,_::_,[],us,k,hlen,vX,hl=>ADX
 |i,pm::ps,vs0::vss0,us,k,hlen,vX,hl=>by
  have vN:vss0.length=ps.length:=ADZ
  have hvl':∀(j:Nat)(pm:PM)(vs:List Lv),ps[j]?=some pm->vss0[j]?=some vs->vs.length=pm.ins.length:=λj yH vs h1 h2=>vX (j+1) yH vs No No;have xp:=vX 0 pm vs0 rfl rfl
  have fin:∀ {us1:List (Nat×Nat)} (vs:List Lv) (os:List Is),BL W us us1 os->Lm E s W i pm vs0 vs os->(Cw s (i+1) ps vss0.flatten us1 λys=>k (vs++ys)).leads t->
    ∃(uN:List (List Lv)) (vl:List (Nat×Nat)) (oss:List (List Is)),(k uN.flatten).leads t/\uN.length=(pm::ps).length/\oss.length=(pm::ps).length/\BL W us vl oss.flatten/\
     ∀(j:Nat)(yH:PM)(vs1 vs:List Lv) (os:List Is),(pm::ps)[j]?=some yH->(vs0::vss0)[j]?=some vs1->uN[j]?=some vs->oss[j]?=some os->Lm E s W (i+j) yH vs1 vs os:=by
   intro us1 vs os hb hp hl;obtain⟨uN,us2,oss,hl,h1,h2,h3,h4⟩:=IK h (i+1) ps vss0 vN hvl' hl;refine⟨vs::uN,us2,os::oss,No,by simp[h1],by simp[h2],by simpa using hb.append h3,λj yH vs1 xY vP hj zT hv ho=>?_⟩;cases j with
   |zero=>grind
   |succ j=>
    grind
  cases pm with
  |val g ls=>
   have e:vs0.length=ls.length:=xp;simp only[AAh,Cw]at hl;rw[<-e,AA4]at hl;exact fin [] [] (.nil _) ⟨rfl,rfl⟩ ADi
  |fn f=>
   have e:vs0=[]:=AAO xp;subst e;simp only[AAh,AAv,Cw]at hl;exact fin [] [] (.nil _) ⟨rfl,rfl⟩ ADi
  |box ls=>
   have e:vs0.length=ls.length:=by simpa[PM.ins]using xp
   simp only[AAh,Cw]at hl;rw[show(vs0++vss0.flatten).drop ls.length=vss0.flatten by rw[<-e,AA4]]at hl;split at hl
   ·rename_i hc;simp only[AAJ,AAT]at hc;obtain⟨⟨⟨hb,uT⟩,hlen⟩,hkp⟩:=hc;have hv:AR s W (.ptr i 0 1) (.pointer (some ⟨W.bk i,0,none⟩)):=λ_ _=>rfl;obtain⟨as,hl,_,b,off,hp,ud⟩:=Fe h hv hl;injection hp with hp;injection hp with hp;injection hp with hp1 yB
    subst hp1;subst yB;obtain⟨vs,us1,os,hl,h1,h2,h3,h4,h5⟩:=DQ h ls as (λj=>W.w.cell? ⟨W.bk i,0+j,none⟩) ud hl;refine fin vs os h4 ⟨hb,uT,hlen,h1,h2,λj p lv hj hv=>?_,λj p hj h3=>?_⟩ hl
    ·grind
    ·obtain⟨gen,t,e,xs,d,hq⟩:=IX 0 ls hkp j p hj h3;rw[AAa]at hq;rw[<-h.init.1 _ _ _ _ _ _ _ hq];obtain⟨_,q2⟩:=h.roots i;rw[AAP hb]at q2;obtain⟨_,arr0,T0,fr0,k1,_,_,k2⟩:=q2;rw[k2];simp[World.cell?,k1]
   ·exact hl.elim
  |row g ls=>
   have e:vs0.length=ls.length:=by simpa[PM.ins]using xp
   simp only[AAh,Cw]at hl;rw[show(vs0++vss0.flatten).drop ls.length=vss0.flatten by rw[<-e,AA4]]at hl;obtain⟨vs,us1,os,hl,h1,h2,h3,h4⟩:=E0 h i 0 ls vs0 _ e hl;exact fin vs os h3 ⟨h1,h2,λj p lv hp hv=>No⟩ hl
end
end Go.Ev
namespace Go.Ev
def DX(i:Nat)(pm:PM)(vs:List Lv):AV:=match pm with
 | .val g _=>.v g (vs.map λx=>.sc x.l x.x)
 | .box _=>one (.ptr i 0 1)
 | .row g ls=>.v g (A4 i 0 ls vs)
 | .fn f=>one (.fn f)
def B3(pm:PM)(vs:List Lv)(r:Bz):Bz:=match pm with
 | .box ls=>⟨true,1,AX 1 ls vs⟩
 | .row _ ls=>⟨false,1,AX 1 ls vs⟩
 |_=>r
theorem DH(i:Nat):∀(j:Nat) (ls:List (L×Nat)) (vs:List Lv),vs.length=ls.length->(A4 i j ls vs).length=ls.length
 |_,[],[],_=>rfl
 |_,[],_::_,h=>ADO
 |_,_::_,[],h=>ADO
 |j,(l,d)::ls,x::vs,h=>by simp[A4,DH i (j+1) ls vs ADQ]
theorem Fk(i:Nat):∀(j:Nat) (ls:List (L×Nat)) (vs rest:List Lv),vs.length=ls.length->A4 i j ls (vs++rest)=A4 i j ls vs
 |_,[],[],rest,_=>by cases rest<;>simp[A4]
 |_,[],_::_,_,h=>ADO
 |_,_::_,[],_,h=>ADO
 |j,(l,d)::ls,x::vs,rest,h=>by simp[A4,Fk i (j+1) ls vs rest ADQ]
theorem Gc(i:Nat):∀(j:Nat) (ls:List (L×Nat)) (vs:List Lv) (m:Nat) (p:L×Nat) (lv:Lv),ls[m]?=some p->vs[m]?=some lv->(A4 i j ls vs)[m]?=some (if Bg p.1 then(if p.2==4 then .CA else .ref ⟨i,j+m,1,1,[]⟩)else .sc lv.l lv.x)
 |_,[],_,m,p,lv,h,_=>ADO
 |_,_::_,[],m,p,lv,_,h=>ADO
 |j,(l,d)::ls,x::vs,0,p,lv,h1,h2=>by
  simp at h1 h2;subst h1;subst h2;cases l<;>rfl
 |j,(l,d)::ls,x::vs,m+1,p,lv,h1,h2=>by have:=Gc i (j+1) ls vs m p lv No No;rw[show j+1+m=j+(m+1) by omega]at this;simpa[A4]using this
theorem Fl(i:Nat):∀(j:Nat) (ls:List (L×Nat)) (vs:List Lv) (a:LA),a∈A4 i j ls vs->∀n∈a.AF,n=1
 |_,[],_,a,h=>by simp[A4]at h
 |_,_::_,[],a,h=>by simp[A4]at h
 |j,(l,d)::ls,x::vs,a,h=>by
  rcases AAf.1 (show a∈_::A4 i (j+1) ls vs from h)with rfl|h
  ·intro n hn;cases l with
   |sl t e=>
    dsimp only at hn;split at hn
    ·simp[LA.AF]at hn
    ·simpa[LA.AF]using hn
   |_=>simp[LA.AF]at hn
  ·exact Fl i (j+1) ls vs a h
theorem Co(s:St)(w:Wr):(s.AG w).sl.length=s.sl.length/\(s.AG w).ro.length=s.ro.length:=by
 cases w<;>simp[St.AG,CG]
def GU(i:Nat)(pm:PM)(vs:List Lv):List Wr:=match pm with
 | .val _ _=>[.slot i (DX i pm vs)]
 | .fn _=>[.slot i (DX i pm vs)]
 |_=>[.root i (B3 pm vs dead),.slot i (DX i pm vs)]
theorem L5(i:Nat)(pm:PM)(vs:List Lv)(s:St)(h1:i<s.sl.length)(h2:i<s.ro.length):
  (s.app (GU i pm vs)).sl.length=s.sl.length/\(s.app (GU i pm vs)).ro.length=s.ro.length/\(∀t,t≠i->(s.app (GU i pm vs)).slot t=s.slot t/\(s.app (GU i pm vs)).root t=s.root t)/\
   (s.app (GU i pm vs)).slot i=DX i pm vs/\(s.app (GU i pm vs)).root i=B3 pm vs (s.root i):=by
 have one:∀x,(s.app [.slot i x]).sl.length=s.sl.length/\(s.app [.slot i x]).ro.length=s.ro.length/\(∀t,t≠i->(s.app [.slot i x]).slot t=s.slot t/\(s.app [.slot i x]).root t=s.root t)/\
   (s.app [.slot i x]).slot i=x/\(s.app [.slot i x]).root i=s.root i:=by
  intro x;refine⟨(Co s _).1,(Co s _).2,λt ht=>⟨?_,rfl⟩,?_,rfl⟩
  ·show(s.AG (.slot i x)).slot t=_;rw[BH,AAQ (λhh=>ht hh.1.symm)]
  ·show(s.AG (.slot i x)).slot i=_;rw[BH,AAP ⟨rfl,h1⟩]
 have two:∀y x,(s.app [.root i y,.slot i x]).sl.length=s.sl.length/\(s.app [.root i y,.slot i x]).ro.length=s.ro.length/\(∀t,t≠i->(s.app [.root i y,.slot i x]).slot t=s.slot t/\(s.app [.root i y,.slot i x]).root t=s.root t)/\
   (s.app [.root i y,.slot i x]).slot i=x/\(s.app [.root i y,.slot i x]).root i=y:=by
  intro y x;have wE:(s.AG (.root i y)).sl=s.sl:=rfl;refine⟨(Co (s.AG (.root i y)) (.slot i x)).1.trans (Co s _).1,(Co (s.AG (.root i y)) (.slot i x)).2.trans (Co s _).2,λt ht=>⟨?_,?_⟩,?_,?_⟩
  ·show((s.AG (.root i y)).AG (.slot i x)).slot t=_;rw[BH,AAQ (λhh=>ht hh.1.symm)];rfl
  ·show(s.AG (.root i y)).root t=_;rw[Ap,AAQ (λhh=>ht hh.1.symm)]
  ·show((s.AG (.root i y)).AG (.slot i x)).slot i=_;rw[BH,AAP ⟨rfl,h1⟩]
  ·show(s.AG (.root i y)).root i=_;rw[Ap,AAP ⟨rfl,h2⟩]
 cases pm with
 |val g ls=>exact one _
 |fn f=>exact one _
 |box ls=>exact two _ _
 |row g ls=>exact two _ _
theorem He:∀(ps:List PM) (uN:List (List Lv)) (i:Nat) {ws:List Wr} (s:St),uN.length=ps.length->(∀(j:Nat)(pm:PM)(vs:List Lv),ps[j]?=some pm->uN[j]?=some vs->vs.length=pm.ins.length)->
  C3 i ps uN.flatten=some ws->i+ps.length<=s.sl.length->i+ps.length<=s.ro.length->
  (s.app ws).sl.length=s.sl.length/\(s.app ws).ro.length=s.ro.length/\(∀t,(t<i\/i+ps.length<=t)->(s.app ws).slot t=s.slot t/\(s.app ws).root t=s.root t)/\
   ∀(j:Nat)(pm:PM)(vs:List Lv),ps[j]?=some pm->uN[j]?=some vs->(s.app ws).slot (i+j)=DX (i+j) pm vs/\(s.app ws).root (i+j)=B3 pm vs (s.root (i+j))
 | [],[],i,ws,s,hlen,hv,h,h1,h2=>by
  have:ws=[]:=by simpa[C3]using h.symm
  subst this;exact⟨rfl,rfl,λt ht=>⟨rfl,rfl⟩,λj pm vs hj=>ADb⟩
 | [],_::_,i,ws,s,hlen,hv,h,h1,h2=>ADX
 |_::_,[],i,ws,s,hlen,hv,h,h1,h2=>ADX
 |pm::ps,vs::uN,i,ws,s,hlen,hv,h,h1,h2=>by
  have vq:vs.length=pm.ins.length:=hv 0 pm vs rfl rfl
  have hex:∃wG,C3 (i+1) ps uN.flatten=some wG/\ws=GU i pm vs++wG:=by
   cases pm with
   |val g ls=>
    simp only[AAh,C3]at h;have wX:vs.length=ls.length:=vq;rw[<-wX,AA4,List.take_left]at h;split at h
    ·rename_i wG hq;injection h with h
     exact⟨wG,hq,h.symm⟩
    ·cases h
   |fn f=>
    have wX:vs=[]:=AAO vq;subst wX;simp only[AAh,C3,AAv]at h;split at h
    ·rename_i wG hq;injection h with h
     exact⟨wG,hq,h.symm⟩
    ·cases h
   |box ls=>
    simp only[AAh,C3]at h;have wX:vs.length=ls.length:=by simpa[PM.ins]using vq
    have hd:(vs++uN.flatten).drop ls.length=uN.flatten:=by rw[<-wX,AA4]
    rw[hd,C5 1 ls vs _ wX]at h;split at h
    ·rename_i wG hq;injection h with h
     exact⟨wG,hq,h.symm⟩
    ·cases h
   |row g ls=>
    simp only[AAh,C3]at h;have wX:vs.length=ls.length:=by simpa[PM.ins]using vq
    have hd:(vs++uN.flatten).drop ls.length=uN.flatten:=by rw[<-wX,AA4]
    rw[hd,C5 1 ls vs _ wX,Fk i 0 ls vs _ wX]at h;split at h
    ·rename_i wG hq;injection h with h
     exact⟨wG,hq,h.symm⟩
    ·cases h
  obtain⟨wG,hq,rfl⟩:=hex;simp only[ABD]at h1 h2;obtain⟨a1,a2,a3,a4,a5⟩:=L5 i pm vs s J J;obtain⟨b1,b2,b3,b4⟩:=He ps uN (i+1) (s.app (GU i pm vs)) ADZ (λj yH xY hj wY=>hv (j+1) yH xY ADW (by simpa using wY)) hq (by rw[a1];omega) (by rw[a2];omega);rw[A5];grind
section
variable {P:Program}{w:World}{fz:Nat->Prop}{ps:List PM}{args:ADM}{uN:List (List Lv)}{bk:Nat->Nat}{om:Key->Is}{N:Nat}{ws:List Wr}
open Classical in
noncomputable def FQ (ps:List PM) (w:World) (args:ADM) (bk:Nat->Nat) (r j:Nat):Option Value:=match ps[r]? with
 |some (.box _)=>w.cell? ⟨bk r,j,none⟩
 |some (.row g _)=>(args[r]?).bind λu=>A8 g u j
 |_=>none
noncomputable def HP (T:List (String×Array Value)) (ps:List PM) (w:World) (fz:Nat->Prop) (args:ADM) (bk:Nat->Nat) (om:Key->Is):Ck:=
 {base:=w.heap.size,io:=λb=>∃k,b∈om k,fa:=fz,w0:=w,OD:=FQ ps w args bk,O8:=bk,NO:=T }
noncomputable def Lh (ps:List PM) (w:World) (fz:Nat->Prop) (args:ADM) (bk:Nat->Nat) (om:Key->Is):Wd:=
 {w:=w,fz:=fz,cv:=FQ ps w args bk,bk:=bk,om:=om }
theorem Mp.kinds{pm:PM}{u:Value}{vs:List Lv}{b:Nat}{own:Nat->Is}(h:Mp w fz pm u vs b own):vs.length=pm.ins.length:=by
 cases pm with
 |val g ls=>have:=congrArg List.length h.1;simpa[PM.ins]using this
 |box ls=>have:=congrArg List.length h.2.1;simpa[PM.ins]using this
 |row g ls=>have:=congrArg List.length h.1.1;simpa[PM.ins]using this
 |fn f=>rw[h.2];rfl
theorem G9(n t:Nat):(blank n).slot t=one .bad:=by
 show nth _ (List.replicate n (one .bad)) t=_;rw[Ad,List.getElem?_replicate];split<;>rfl
theorem Dp(n t:Nat):(blank n).root t=dead:=by
 show nth _ (List.replicate n dead) t=_;rw[Ad,List.getElem?_replicate];split<;>rfl
theorem L6(uO:Di ps w fz args uN bk om)(hp:C3 0 ps uN.flatten=some ws)(hN:ps.length<=N):Inv N ((blank N).app ws):=by
 obtain⟨b1,b2,b3,b4⟩:=He ps uN 0 (blank N) uO.Bb (λj pm vs hj hv=>by
  obtain⟨u,hu⟩:∃u,args[j]?=some u:=⟨_,AAI (by rw[uO.len];grind)⟩;exact(uO.each j pm u vs hj hu hv).kinds) hp (by simp[blank];exact hN) (by simp[blank];exact hN)
 simp only[AAa]at b3 b4;have xc:((blank N).app ws).Bd=2:=Iq ws _
 have get:∀t,(∃pm vs,ps[t]?=some pm/\uN[t]?=some vs/\((blank N).app ws).slot t=DX t pm vs/\((blank N).app ws).root t=B3 pm vs dead)\/(((blank N).app ws).slot t=one .bad/\((blank N).app ws).root t=dead):=by
  intro t;rcases AAq t ps.length with uR|vW
  ·left;have h1:=AAI uR;have h2:=AAI (show t<uN.length by rw[uO.Bb];exact uR);obtain⟨c1,c2⟩:=b4 t _ _ h1 h2;rw[Dp]at c2;grind
  ·right;obtain⟨c1,c2⟩:=b3 t (.inr vW);rw[G9]at c1;rw[Dp]at c2;grind
 have nl:∀(ls:List (L×Nat)) (vs:List Lv),∀a∈AX 1 ls vs,(∀n∈a.AF,n=1)/\a.Cg=true:=by
  intro ls
  induction ls with
  |nil=>intro vs a ha;simp[AX]at ha
  |cons p ls ih=>
   intro vs a ha;cases vs with
   |nil=>simp[AX]at ha
   |cons x vs=>
    rcases AAf.1 (show a∈BJ 1 p.2 x::AX 1 ls vs from ha)with rfl|ha
    ·exact Jt 1 _ _
    grind
 have rt:∀(pm:PM)(vs:List Lv),((B3 pm vs dead).AB<2)/\∀a∈(B3 pm vs dead).ls,(∀n∈a.AF,n=1)/\a.Cg=true:=by
  intro pm vs;cases pm with
  |val g ls=>exact⟨by simp[B3,dead],λa ha=>by simp[B3,dead]at ha⟩
  |fn f=>exact⟨by simp[B3,dead],λa ha=>by simp[B3,dead]at ha⟩
  |box ls=>exact⟨by simp[B3],λa ha=>nl ls vs a ha⟩
  |row g ls=>exact⟨by simp[B3],λa ha=>nl ls vs a ha⟩
 refine⟨⟨λt n hn=>?_,λr n hn=>?_⟩,J,by rw[b1];simp[blank],by rw[b2];simp[blank],λr a ha=>?_⟩
 ·rw[xc];rcases get t with⟨pm,vs,_,_,h1,_⟩|⟨h1,_⟩
  ·rw[h1]at hn;cases pm with
   |val g ls=>
    exfalso;simp only[DX,AV.AF,AAL,AAs]at hn;obtain⟨a,⟨x,_,rfl⟩,hn⟩:=hn;cases hn
   |fn f=>simp[DX,one,AV.AF,LA.AF]at hn
   |box ls=>simp[DX,one,AV.AF,LA.AF]at hn;omega
   |row g ls=>
    obtain⟨a,ha,hn⟩:=AAL.1 (show n∈(A4 t 0 ls vs).flatMap LA.AF from hn);have:=Fl t 0 ls vs a ha n hn;omega
  ·rw[h1]at hn;simp[one,AV.AF,LA.AF]at hn
 ·rw[xc];rcases get r with⟨pm,vs,_,_,_,h1⟩|⟨_,h1⟩
  ·rw[h1]at hn;rcases AAf.1 (show n∈(B3 pm vs dead).AB::(B3 pm vs dead).ls.flatMap LA.AF from hn)with rfl|hn
   all_goals grind
  ·rw[h1]at hn;simp[dead,Bz.AF]at hn;omega
 ·rcases get r with⟨pm,vs,_,_,_,h1⟩|⟨_,h1⟩
  ·grind
  ·rw[h1]at ha;simp[dead]at ha
theorem L7{T:List (String×Array Value)}(uO:Di ps w fz args uN bk om)(hp:C3 0 ps uN.flatten=some ws)(hN:ps.length<=N):
  AW (HP T ps w fz args bk om) ((blank N).app ws) (args.toArray++Array.replicate (N-args.toArray.size) undef) (Lh ps w fz args bk om):=by
 obtain⟨b1,b2,b3,b4⟩:=He ps uN 0 (blank N) uO.Bb (λj pm vs hj hv=>by
  obtain⟨u,hu⟩:∃u,args[j]?=some u:=⟨_,AAI (by rw[uO.len];grind)⟩;exact(uO.each j pm u vs hj hu hv).kinds) hp (by simp[blank];exact hN) (by simp[blank];exact hN)
 simp only[AAa]at b3 b4
 have uh:(args.toArray++Array.replicate (N-args.toArray.size) undef).size=N:=by have:=uO.len;simp;omega
 have get:∀t,(∃pm u vs,ps[t]?=some pm/\args[t]?=some u/\uN[t]?=some vs/\((blank N).app ws).slot t=DX t pm vs/\((blank N).app ws).root t=B3 pm vs dead/\(args.toArray++Array.replicate (N-args.toArray.size) undef).getD t Go.undef=u) \/
   (ps[t]?=none/\((blank N).app ws).slot t=one .bad/\((blank N).app ws).root t=dead):=by
  intro t;rcases AAq t ps.length with uR|vW
  ·left;have h1:=AAI uR;have hlt2:t<args.length:=by rw[uO.len];exact uR
   have h0:=AAI hlt2;have h2:=AAI (show t<uN.length by rw[uO.Bb];exact uR);obtain⟨c1,c2⟩:=b4 t _ _ h1 h2;rw[Dp]at c2;refine⟨_,_,_,h1,h0,h2,c1,c2,?_⟩;rw[AAi,AAt J];simp[hlt2]
  ·right;obtain⟨c1,c2⟩:=b3 t (.inr vW);rw[G9]at c1;rw[Dp]at c2;grind
 refine⟨by rw[b1,uh];simp[blank],by rw[b2,uh];simp[blank],λt=>?_,λr=>?_,?_,⟨λ_ _ _ _ _ _ _ _=>rfl,λ_ _ _=>rfl⟩⟩
 ·rcases get t with⟨pm,u,vs,h1,h2,h3,h4,h5,h6⟩|⟨_,h4,_⟩
  ·rw[h4,h6];have ha:=uO.each t pm u vs h1 h2 h3;cases pm with
   |val g ls=>
    obtain⟨a1,a2,a3⟩:=ha;have hlen:vs.length=ls.length:=by have:=congrArg List.length a1;simpa using this
    have uW:∀(j:Nat)(lv:Lv),vs[j]?=some lv->∃y,A8 g u j=some y/\lv.l.rd 0 w fz y lv.x []:=by
     intro j lv hj;have uR:j<ls.length:=by rw[<-hlen];exact(AAK.1 hj).1
     exact a3 j (ls[j],0) lv (by simp[uR]) hj
    cases g with
    |false=>
     have wX:vs.length=1:=by rw[hlen];simpa using a2
     obtain⟨lv,rfl⟩:∃lv,vs=[lv]:=by
      match vs,wX with
      | [x],_=>grind
     obtain⟨y,hy,hr⟩:=uW 0 lv rfl;simp[A8]at hy;subst hy;exact hr
    |true=>
     obtain⟨cs,rfl,w7⟩:=a2;refine⟨cs,rfl,No,λj a hj=>?_⟩;simp only[AAZ]at hj;cases hq:vs[j]? with
     |none=>grind
     |some lv=>
      rw[hq]at hj;injection hj with hj;subst hj
      obtain⟨y,hy,hr⟩:=uW j lv hq;exact⟨y,hy,hr⟩
   |box ls=>exactλ_ _=>ha.1
   |row g ls=>
    obtain⟨⟨a1,a2,a3⟩,a4⟩:=ha;have hlen:vs.length=ls.length:=by have:=congrArg List.length a1;simpa using this
    have uM:∀(j:Nat)(p:L×Nat)(lv:Lv),ls[j]?=some p->vs[j]?=some lv->((blank N).app ws).leaf t j=BJ 1 p.2 lv:=by intro j p lv p1 p2;show nth LA.bad (((blank N).app ws).root t).ls j=_;rw[h5];show nth LA.bad (AX 1 ls vs) j=_;rw[Ad,Bt 1 ls vs j _ _ p1 p2];rfl
    have vH:∀(j:Nat)(a:LA),(A4 t 0 ls vs)[j]?=some a->∃y,A8 g u j=some y/\AR ((blank N).app ws) (Lh ps w fz args bk om) a y:=by
     intro j a hj;have uR:j<ls.length:=by rw[<-DH t 0 ls vs hlen];exact(AAK.1 hj).1
     have p1:=AAI uR;have p2:=AAI (show j<vs.length by omega);obtain⟨y,hy,hr⟩:=a3 j _ _ p1 p2;refine⟨y,hy,?_⟩;rw[Gc t 0 ls vs j _ _ p1 p2]at hj;injection hj with hj
     subst hj
     have wX:vs[j].l=ls[j].1:=by have:=congrArg (λx=>x[j]?) a1;simpa[p1,p2]using this
     split
     ·split
      ·rename_i wE z8;have:=a4 j _ p1 wE (AAT.1 z8);rw[hy]at this;exact Option.some.inj this
      intro gen t2 e2 xs2 d2 hl _;have hl:((blank N).app ws).leaf t (0+j)=_:=hl;rw[AAa,uM j _ _ p1 p2]at hl;refine⟨y,e2,?_,rfl,rfl⟩;show FQ ps w args bk t (0+j)=some y;simp[FQ,h1,h2,hy]
     ·rename_i hs;have:=(L.AY (d':=0) (w':=w) (uQ:=fz) vs[j].l No hr);have h7:=this.1;rw[show(λj=>om (Key.lf t j)) j=[]from this.2]at h7;exact h7
    cases g with
    |false=>
     obtain⟨a,ha2⟩:∃a,A4 t 0 ls vs=[a]:=by
      have:=(DH t 0 ls vs hlen).trans a2
      match h:A4 t 0 ls vs,this with
      | [x],_=>grind
     show Ey _ _ false (A4 t 0 ls vs) u;obtain⟨y,hy,hr⟩:=vH 0 a (by rw[ha2];rfl);simp[A8]at hy;subst hy;rw[ha2];exact hr
    |true=>
     obtain⟨cs,rfl,w7⟩:=a2;exact⟨cs,rfl,by rw[w7,DH t 0 ls vs hlen],λj a hj=>vH j a hj⟩
   |fn f=>exact ha.1
  ·rw[h4];trivial
 ·have wM:(∀ls,ps[r]?≠some (.box ls))->(∀g ls,ps[r]?≠some (.row g ls))->D5 ((blank N).app ws) (Lh ps w fz args bk om) r dead:=by
   intro q1 q2;refine⟨λj=>?_,?_⟩
   ·have:nth LA.bad dead.ls j=.bad:=by simp[dead,nth]
    rw[this];exact⟨uO.none r q1 q2 j,λ_ _=>trivial⟩
   ·show om (.blk r)=[];rw[uO.blk];split
    ·rename_i ls hq;exact absurd hq (q1 ls)
    ·rfl
  rcases get r with⟨pm,u,vs,h1,h2,h3,h4,h5,h6⟩|⟨h1,_,h5⟩
  ·rw[h5];have ha:=uO.each r pm u vs h1 h2 h3;cases pm with
   |val g ls=>exact wM (λye hq=>by rw[h1]at hq;cases hq) (λg ls hq=>by rw[h1]at hq;cases hq)
   |fn f=>exact wM (λye hq=>by rw[h1]at hq;cases hq) (λg ls hq=>by rw[h1]at hq;cases hq)
   |box ls=>
    obtain⟨a1,a2,arr,T,fr,a3,a4,a5,a6⟩:=ha;have hlen:vs.length=ls.length:=by have:=congrArg List.length a2;simpa using this
    have uv:∀j,FQ ps w args bk r j=arr[j]?:=by intro j;simp[FQ,h1,World.cell?,a3]
    refine⟨λj=>?_,?_⟩
    ·show Aa _ _ (nth .bad (AX 1 ls vs) j) (FQ ps w args bk r j) (om (.lf r j));rcases AAq j ls.length with uR|vW
     ·have p1:=AAI uR;have p2:=AAI (show j<vs.length by omega);obtain⟨y,hy,hr⟩:=a6 j _ _ p1 p2;rw[Ad,Bt 1 ls vs j _ _ p1 p2,uv,hy];exact FA (W':=Lh ps w fz args bk om) hr
     ·rw[Au _ (by rw[BZ 1 ls vs hlen];exact vW)];exact⟨uO.box r ls h1 j vW,λ_ _=>trivial⟩
    ·show(if true=true then _ else _);rw[AAP rfl];refine⟨?_,arr,T,fr,a3,a4,?_,λj=>uv j⟩
     ·show om (.blk r)=[bk r];rw[uO.blk,h1]
     ·show arr.size=(AX 1 ls vs).length;rw[BZ 1 ls vs hlen,a5]
   |row g ls=>
    obtain⟨⟨a1,a2,a3⟩,a4⟩:=ha;have hlen:vs.length=ls.length:=by have:=congrArg List.length a1;simpa using this
    refine⟨λj=>?_,?_⟩
    ·show Aa _ _ (nth .bad (AX 1 ls vs) j) (FQ ps w args bk r j) (om (.lf r j));rcases AAq j ls.length with uR|vW
     ·have p1:=AAI uR;have p2:=AAI (show j<vs.length by omega);obtain⟨y,hy,hr⟩:=a3 j _ _ p1 p2;rw[Ad,Bt 1 ls vs j _ _ p1 p2,show FQ ps w args bk r j=some y by simp[FQ,h1,h2,hy]];exact FA (W':=Lh ps w fz args bk om) hr
     ·rw[Au _ (by rw[BZ 1 ls vs hlen];exact vW)];exact⟨uO.row r g ls h1 j vW,λ_ _=>trivial⟩
    ·show om (.blk r)=[];rw[uO.blk,h1]
  grind
 ·exact {
   nodup:=uO.nodup
   A7:=uO.A7
   own:=λk b hb=>⟨(uO.own k b hb).1,(uO.own k b hb).2,.inr ⟨k,hb⟩⟩
   fz:=λb hb=>⟨uO.fz b hb,.inl hb⟩
   frame:=λ_ _ _=>rfl
   size:=AAb _
   rest:=⟨rfl,rfl,rfl⟩ }
end
end Go.Ev
namespace Go.Ev
theorem Gb{P:Program}{fn:Func}{tm:Array Value}{w:World}{vals:ADM}(h:JR P w tm fn.results.toList vals):(results fn tm).run P w=.ok (KY vals) w:=by
 have key:∀(g:ResultVar->Sem Value),(∀t,g (.tmp t)=pure (tm.getD t undef))->(∀t T,g (.cell t T)=(do loadVar T (<-asAddr (tm.getD t undef))))->∀(l:List ResultVar)(vals:ADM),JR P w tm l vals->(l.mapM g).run P w=.ok vals w:=by
  intro g hg hg2 l
  induction l with
  |nil=>
   intro vals hl;cases vals with
   |nil=>rfl
   |cons v vs=>exact hl.elim
  |cons v l ih=>
   intro vals hl;cases vals with
   |nil=>cases v<;>exact hl.elim
   |cons u us=>
    rw[List.mapM_cons,Sem.run_bind];cases v with
    |tmp t=>
     obtain⟨rfl,hl⟩:=hl;rw[hg];simp[Sem.run_bind,ih us hl]
    |cell a t=>
     obtain⟨h1,hl⟩:=hl;rw[hg2,h1];simp[Sem.run_bind,ih us hl]
 unfold results;rw[Array.mapM_eq_mapM_toList];simp only[map_eq_pure_bind,bind_assoc,pure_bind];rw[Sem.run_bind,key _ ?h1 ?h2 _ vals h]
 case h1=>intro t;rfl
 case h2=>grind
 show Result.ok _ w=_;congr 1
 match vals with
 | []=>rfl
 | [u]=>rfl
 |u::v::l=>simp[KY]
section
variable {P:Program}{ty:TypeId->Option Ty}{env:Env}{an:An}{n:Nat}{sm:Sm}{fn:Func}{f:FuncId}{c:Code}
theorem NG{T:List (String×Array Value)}{w:World}{fz:Nat->Prop}{args:ADM}{uN:List (List Lv)}{bk:Nat->Nat}{om:Key->Is}{s:St}{W:Wd}{tm:Array Value}{z:sm.outs.D}
  (uO:Di sm.ps w fz args uN bk om) (h:AW (HP T sm.ps w fz args bk om) s tm W) (wO:∀t x,ty t=some x->NT P t x) (hz:Hx ty sm fn.results.toList uN.flatten s=some z):
  ∃r vG rv vsR vsP,(results fn tm).run P W.w=.ok r W.w/\FH sm w fz args bk om z r W.w W.fz vG rv vsR vsP:=by
 unfold Hx at hz;obtain⟨tt,hl,we⟩:=Step.Cr _ hz;obtain⟨vals,vsR,us1,osR,hl,wH,zQ,vt⟩:=G6 wO h sm.rs fn.results.toList hl
 obtain⟨vsP,us2,osP,hl,hlp,vr,w6,xV⟩:=IK h 0 sm.ps uN uO.Bb (λj pm vs hj hv=>by
  obtain⟨u,hu⟩:∃u,args[j]?=some u:=⟨_,AAI (by rw[uO.len];grind)⟩;exact(uO.each j pm u vs hj hu hv).kinds) hl
 have hl:vsR.flatten++vsP.flatten=tt:=hl;subst hl;have zM:=wH.append w6;have hpair:=zM.pair h.sep.A7;have vd:=zM.nodup;have xR:=zM.mem;rw[List.pairwise_append]at hpair;obtain⟨hp1,yB,hp12⟩:=hpair;rw[List.pairwise_flatten]at yB;obtain⟨yB,hp3⟩:=yB
 let vG:Key->Is
  | .fl k=>(osR[k]?).getD []
  | .lf i j=>(((osP[i]?).getD [])[j]?).getD []
  | .blk i=>om (.blk i)
 have inR:∀k,∀b∈vG (.fl k),∃o,osR[k]?=some o/\b∈o:=by
  intro k b hb;have hb:b∈(osR[k]?).getD []:=hb;cases hq:osR[k]? with
  |none=>grind
  |some o=>grind
 have inP:∀i j,∀b∈vG (.lf i j),∃os o,osP[i]?=some os/\os[j]?=some o/\b∈o:=by
  intro i j b hb;have hb:b∈(((osP[i]?).getD [])[j]?).getD []:=hb;cases hq:osP[i]? with
  |none=>grind
  |some os=>
   grind
 have memP:∀ {i j:Nat} {os:List Is} {o:Is},osP[i]?=some os->os[j]?=some o->o∈osP.flatten:=λh1 h2=>List.mem_flatten.2 ⟨_,AAN h1,AAN h2⟩
 have blkW:∀i,∀b∈om (.blk i),W.om (.blk i)=om (.blk i):=by
  intro i b hb;have hk:=uO.blk i;cases hq:sm.ps[i]? with
  |none=>grind
  |some pm=>
   rw[hq]at hk;cases pm with
   |box ls=>
    have uR:i<sm.ps.length:=(AAK.1 hq).1;have zC:=xV i (.box ls) _ _ _ hq (AAI (by rw[uO.Bb];exact uR)) (AAI J) (AAI J);rw[AAa]at zC;obtain⟨b1,b2,_⟩:=zC;have h2:=(h.roots i).2;rw[AAP b1]at h2;rw[h2.1,h.init.2 i b1 b2,hk];rfl
   |val g ls=>grind
   |row g ls=>grind
   |fn f=>grind
 have zw:∀k,∀b∈vG k,∃k0,b∈W.om k0/\((∃i,k0=.blk i/\k=.blk i)\/∃r j,k0=.lf r j):=by
  intro k b hb;cases k with
  |fl k=>
   grind
  |lf i j=>
   grind
  |blk i=>
   grind
 have hrx:=Gb zQ;refine⟨_,vG,vals,vsR,vsP,hrx,?_⟩
 refine {
  outs:=Ay _ _ _ we
  res:=rfl
  J1:=vt 0 _ λj hj=>No
  len:=hlp
  each:=?_
  blk:=λ_=>rfl
  nodup:=?_
  A7:=?_
  own:=?_
  fz:=λb hb=>h.sep.fz b hb |>.imp id λhh=>hh.imp id id
  frame:=λb hb hk=>h.sep.frame b hb λ⟨k,hh⟩=>hk k hh
  size:=h.sep.size
  rest:=h.sep.rest
  kept:=?_ }
 rotate_right
 ·intro i ls j p h1 h2 h3;have uR:i<osP.length:=by rw[vr];exact(AAK.1 h1).1
  have xp:=AAI (show i<uN.length by rw[uO.Bb];omega);have zT:=AAI (show i<vsP.length by omega);have zC:=xV i (.box ls) _ _ _ h1 xp zT (AAI uR);rw[AAa]at zC;obtain⟨b1,b2,b3,b4,b5,b6,b7⟩:=zC;have hq:=b7 j p h2 h3;rw[h.init.2 i b1 b2]at hq;have hq:W.w.cell? ⟨bk i,j,none⟩=FQ sm.ps w args bk i j:=hq;rw[hq];simp only[FQ,h1]
 ·intro i pm u vs h1 h2 h3;have uR:i<osP.length:=by rw[vr];exact(AAK.1 h1).1
  have hos:=AAI uR;obtain⟨vs0,xp⟩:∃vs0,uN[i]?=some vs0:=⟨_,AAI (by rw[uO.Bb];omega)⟩;have zC:=xV i pm vs0 vs _ h1 xp h3 hos;rw[AAa]at zC;have ha:=uO.each i pm u vs0 h1 h2 xp
  have xU:∀j,vG (.lf i j)=(osP[i][j]?).getD []:=by intro j;show(((osP[i]?).getD [])[j]?).getD []=_;rw[hos];rfl
  cases pm with
  |val g ls=>exact zC.1
  |fn f=>exact zC.1
  |box ls=>
   obtain⟨b1,b2,b3,b4,b5,b6,_⟩:=zC;have w5:=(h.roots i).2;rw[AAP b1]at w5;obtain⟨q1,arr,T,fr,q2,q3,q4,q5⟩:=w5;have yf:W.bk i=bk i:=h.init.2 i b1 b2;rw[yf]at q2;refine⟨ha.1,b4,arr,T,fr,q2,q3,by rw[q4,b3],λj p lv hj hv=>?_⟩;obtain⟨y,hy,hr⟩:=b6 j p lv hj hv;refine⟨y,?_,?_⟩
   ·rw[yf]at hy;simpa[World.cell?,q2]using hy
   grind
  |row g ls=>
   obtain⟨⟨a1,a2,a3⟩,_⟩:=ha;obtain⟨b1,b2,b3⟩:=zC;have hlen0:vs0.length=ls.length:=by have:=congrArg List.length a1;simpa using this
   have hkey:∀(j:Nat)(p:L×Nat)(lv:Lv),ls[j]?=some p->vs[j]?=some lv->lv.l=p.1/\∃y,A8 g u j=some y/\lv.l.rd p.2 W.w W.fz y lv.x (vG (.lf i j)):=by
    intro j p lv hj hv;rw[xU];rcases b3 j p lv hj hv with⟨_,c2,y,hy,hr⟩|⟨c1,c2,c3⟩
    ·refine⟨c2,y,?_,hr⟩;have hy:FQ sm.ps w args bk i j=some y:=hy;simpa[FQ,h1,h2]using hy
    ·obtain⟨y,hy,hr⟩:=a3 j p lv hj c2
     have hl:lv.l=p.1:=by have:=congrArg (λx=>x[j]?) a1;simpa[hj,c2]using this
     have zg:=L.AY (d':=p.2) (w':=W.w) (uQ:=W.fz) lv.l (by rw[hl];exact c1) hr;have h7:=zg.1;rw[show(λj=>om (Key.lf i j)) j=[]from zg.2]at h7;refine⟨hl,y,hy,?_⟩;rw[c3];exact h7
   refine⟨?_,a2,λj p lv hj hv=>(hkey j p lv hj hv).2⟩;apply List.ext_getElem?;grind
 ·intro k;cases k with
  |fl k=>
   grind
  |lf i j=>
   grind
  |blk i=>exact uO.nodup _
 ·intro k k' uV b hb uZ
  have cross:∀i (k0:Key),(∀i,k0≠.blk i)->b∈vG (.blk i)->b∈vG k0->False:=by
   intro i k0 hk h1 h2;have h1:b∈om (.blk i):=h1;have h3:b∈W.om (.blk i):=by rw[blkW i b h1];exact h1
   obtain⟨k1,h4,h5⟩:=zw k0 b h2;rcases h5 with⟨i',_,h5⟩|⟨r,j,rfl⟩
   ·grind
   ·exact h.sep.A7 _ _ OF b h3 h4
  cases k with
  |blk i=>cases k' with
   |blk i'=>exact uO.A7 _ _ uV b hb uZ
   |lf i' j'=>exact cross i (.lf i' j') OF hb uZ
   |fl k'=>exact cross i (.fl k') OF hb uZ
  |lf i j=>cases k' with
   |blk i'=>exact cross i' (.lf i j) OF uZ hb
   |lf i' j'=>
    obtain⟨os,o,h1,h2,hb⟩:=inP i j b hb;obtain⟨vP,o',vu,w5,hc⟩:=inP i' j' b uZ;by_cases hi:i=i'
    ·subst hi;rw[h1]at vu;injection vu with vu;subst vu
     have hj:j≠j':=λe=>uV (by rw[e]);exact JE (λ_ _=>Ew.symm) (yB os (AAN h1)) hj h2 w5 b hb hc
    ·have:=JE (R:=λl₁ l₂=>∀x,x∈l₁->∀y,y∈l₂->Ew x y) (λa c hh x hx y hy=>(hh y hy x hx).symm) hp3 hi h1 vu;exact this o (AAN h2) o' (AAN w5) b hb hc
   |fl k'=>
    obtain⟨os,o,h1,h2,hb⟩:=inP i j b hb;obtain⟨o',vu,uZ⟩:=inR k' b uZ;exact hp12 o' (AAN vu) o (memP h1 h2) b uZ hb
  |fl k=>cases k' with
   |blk i'=>exact cross i' (.fl k) OF uZ hb
   |lf i' j'=>
    obtain⟨os,o,h1,h2,uZ⟩:=inP i' j' b uZ;obtain⟨o',vu,hb⟩:=inR k b hb;exact hp12 o' (AAN vu) o (memP h1 h2) b hb uZ
   |fl k'=>
    obtain⟨o,h1,hb⟩:=inR k b hb;obtain⟨o',vu,uZ⟩:=inR k' b uZ;exact JE (λ_ _=>Ew.symm) hp1 (λe=>uV (by rw[e])) h1 vu b hb uZ
 ·intro k b hb;obtain⟨k0,h1,_⟩:=zw k b hb;exact h.sep.own k0 b h1
theorem N2{T:List (String×Array Value)}{w:World}{fz:Nat->Prop}{args:ADM}{uN:List (List Lv)}{bk:Nat->Nat}{om:Key->Is}{s:St}{W:Wd}{tm:Array Value}{z:sm.outs.D}{v:Nat}
  (uO:Di sm.ps w fz args uN bk om) (h:AW (HP T sm.ps w fz args bk om) s tm W) (hv:Aj s v) (wO:∀t x,ty t=some x->NT P t x) (xS:sm.mk?=false) (hz:DG ty sm fn.results.toList uN.flatten s=some z):
  ∃r uQ vG rv vsR vsP,(results fn tm).run P W.w=.ok r W.w/\FH sm w fz args bk om z r W.w uQ vG rv vsR vsP:=by
 unfold DG at hz;rw[xS]at hz;simp only[ABK,if_false]at hz;split at hz
 ·rename_i fs wP;obtain⟨W1,h1,fr,_⟩:=EY h hv wP;obtain⟨r,vG,rv,vsR,vsP,q1,q2⟩:=NG (P:=P) (fn:=fn) uO h1 wO hz;rw[fr.w]at q1 q2;grind
 ·cases hz
theorem Ht:∀(ls:List L)(as:List LA) {vs:List Lv},DE ls as=some vs->vs.map (·.l)=ls/\as.length=ls.length/\∀(j:Nat)(lv:Lv),vs[j]?=some lv->as[j]?=some (.sc lv.l lv.x)
 | [],[],vs,h=>by simp only[DE,Option.some.injEq]at h;grind
 |l::ls,a::as,vs,h=>by
  cases a with
  |sc m x=>
   simp only[DE]at h;split at h
   ·rename_i y ys hc hr;injection h with h
    subst h;obtain⟨h1,h2,h3⟩:=Ht ls as hr;obtain⟨rfl,hxy⟩:=L.AH hc;grind
   ·cases h
  |_=>simp[DE]at h
 | [],_::_,vs,h=>by simp[DE]at h
 |_::_,[],vs,h=>by simp[DE]at h
theorem N1{T:List (String×Array Value)}{w:World}{fz:Nat->Prop}{args:ADM}{uN:List (List Lv)}{bk:Nat->Nat}{om:Key->Is}{s:St}{W:Wd}{tm:Array Value}{z:sm.outs.D}
  (uO:Di sm.ps w fz args uN bk om) (h:AW (HP T sm.ps w fz args bk om) s tm W) (xS:sm.mk?=true) (hz:DG ty sm fn.results.toList uN.flatten s=some z):
  ∃r b,(results fn tm).run P W.w=.ok r W.w/\Ll sm w fz z r W.w W.fz b:=by
 unfold DG at hz;rw[xS,AAP rfl]at hz;unfold NY at hz;split at hz
 ·rename_i t zQ;split at hz
  ·rename_i r AB yQ;split at hz
   ·rename_i hc;simp only[AAJ,AAT]at hc;obtain⟨⟨wg,vC⟩,uT⟩:=hc;split at hz
    ·rename_i vs w4;have hu:=h.AM t;rw[yQ]at hu;have hu:tm.getD t Go.undef=.pointer (some ⟨W.bk r,0,none⟩):=hu vC uT;obtain⟨p1,p2,p3⟩:=Ht _ _ w4;have vA:=h.roots r;obtain⟨hl,hb⟩:=vA;rw[AAP vC]at hb;obtain⟨uj,arr,T0,fr,ur,vV,uh,uv⟩:=hb;unfold Sm.plain at wg;simp only[AAJ]at wg
     have wW:∀pm∈sm.ps,∃g ls,pm=.val g ls:=λpm hpm=>by
      have:=AAW.1 wg.1 pm hpm;cases pm with
      |val g ls=>grind
      |_=>cases this
     have wM:∀k,om k=[]:=by
      intro k;cases k with
      |fl n=>exact uO.fl n
      |blk i=>
       rw[uO.blk i];cases hq:sm.ps[i]? with
       |none=>rfl
       |some pm=>obtain⟨g,ls,rfl⟩:=wW pm (AAN hq);rfl
      |lf i j=>
       refine uO.none i (λls hq=>?_) (λg ls hq=>?_) j
       ·obtain⟨g,ls,hh⟩:=wW _ (AAN hq);cases hh
       ·obtain⟨g,ls,hh⟩:=wW _ (AAN hq);cases hh
     have xz:∀b,¬(∃k,b∈om k):=λb ⟨k,hb⟩=>No
     have yA:=h.sep.own (.blk r) (W.bk r) No;have ub:=Gb (fn:=fn) (P:=P) (w:=W.w) (tm:=tm) (vals:=[tm.getD t Go.undef]) (by rw[zQ];exact⟨rfl,trivial⟩);refine⟨_,W.bk r,ub,?_⟩;have wU:unpack sm.outs z=vs:=Ay _ _ _ hz
     exact {
      box:=by
       rw[wU];refine⟨hu,p1,arr,T0,fr,ur,vV,No,λj p lv hj vk=>?_⟩;have yj:=p3 j lv vk;have zP:=hl j;rw[Ad,yj]at zP;have hjl:j<arr.size:=by rw[uh];exact(AAK.1 yj).1
       have za:arr[j]?=some arr[j]:=AAg hjl;refine⟨arr[j],za,?_⟩;have hp:p.2=0:=by simpa using AAW.1 wg.2 p (AAN hj)
       rw[hp];exact zP.2 _ No
      new:=⟨yA.2.2.elim id λh=>(xz _ h).elim,yA.2.1,yA.1⟩
      fz:=λx hx=>by
       obtain⟨a1,a2⟩:=h.sep.fz x hx;refine⟨a1,?_⟩;rcases a2 with a2|a2|a2
       ·exact .inl a2
       ·exact .inr a2
       ·exact(xz _ a2).elim
      frame:=λx hx=>h.sep.frame x hx (xz x)
      size:=h.sep.size
      rest:=h.sep.rest }
    ·cases hz
   ·cases hz
  ·cases hz
 ·cases hz
theorem OS{T:List (String×Array Value)}(hf:P.funcs[f]?=some fn)(hb:fn.body=some c)(hlen:sm.ps.length<=fn.ntmps)(wO:∀t x,ty t=some x->NT P t x)(ue:JN P T env)(hm:P.follows .mixedOrders=true):
  JO P T f ⟨sm,L1 ty env an n fn sm⟩:=by
 intro args w fz uN bk om x z hgnd uO hx hz;have hz:L1 ty env an n fn sm x=some z:=hz;have hu:unpack sm.ins x=uN.flatten:=Ay _ _ _ hx;simp only[L1,hb,hu]at hz;cases hp:C3 0 sm.ps uN.flatten with
 |none=>grind
 |some ws=>
  rw[hp]at hz;dsimp only at hz;split at hz
  ·cases hz
  ·rename_i ua;have ua:codeOk fn.ntmps c=true:=by simpa using ua
   refine calls_of_wp hf hb ?_;have uP:=L7 (T:=T) uO hp hlen;have hinv:=L6 (N:=fn.ntmps) uO hp hlen;have zd:Claim P (HP T sm.ps w fz args bk om) fn.ntmps an n (DG ty sm fn.results.toList uN.flatten) c:=(Mz hm c).1
   have fin:∀ {s':St} {a':Act} {W':Wd} {z':sm.outs.D},a'.defers=[]->AW (HP T sm.ps w fz args bk om) s' a'.tmps W'->Inv fn.ntmps s'->DG ty sm fn.results.toList uN.flatten s'=some z'->bodyPost P fn (λen w'=>match sm.mk? with
     |false=>∃r uQ vG rv vsR vsP,en=.returned r/\FH sm w fz args bk om z' r w' uQ vG rv vsR vsP
     |true=>∃r uQ b,en=.returned r/\Ll sm w fz z' r w' uQ b) .ret a' W'.w:=by
    intro s' a' W' z' hd hr hi hq;cases xS:sm.mk? with
    |false=>
     obtain⟨r,uQ,vG,rv,vsR,vsP,h1,h2⟩:=N2 (P:=P) (fn:=fn) uO hr (hi.AF.Hl (v:=s'.Bd) (Nat.lt_irrefl _) (by have:=hi.two;omega)) wO xS hq;exact⟨hd,r,h1,r,uQ,vG,rv,vsR,vsP,rfl,h2⟩
    |true=>
     obtain⟨r,b,h1,h2⟩:=N1 (P:=P) (fn:=fn) uO hr xS hq;exact⟨hd,r,h1,r,W'.fz,b,rfl,h2⟩
   refine zd (W:=Lh sm.ps w fz args bk om) (a:=⟨_,[]⟩) (Q:=bodyPost P fn _) ?_ (show C8 P (HP T sm.ps w fz args bk om) env from⟨ue,hgnd⟩) ua (λ_ _=>⟨rfl,rfl⟩) uP hinv hz ?_ ?_ ?_
   ·exact wO
   ·intro s' a' W' hd hr hi hk hq;exact fin hd hr hi hq
   all_goals grind
end
end Go.Ev
namespace Go.Ev
mutual
def L.fit:(l:L)->l.D->Prop
 | .int k,x=>k.min<=(show Int from x)/\(show Int from x)<=k.max
 | .bool,_=>True
 | .str,x=>List.length (α:=UInt8) x<=maxLen
 | .sl _ e,x=>List.length (α:=e.D) x<=maxLen/\∀y,List.Mem (α:=e.D) y x->e.fit y
def Ls.fit:(ls:Ls)->ls.D->Prop
 | .nil,_=>True
 | .one l,x=>l.fit x
 | .cons l ls,x=>l.fit x.1/\ls.fit x.2
end
theorem MF:∀ls:List L,(Ej ls).n=ls.length
 | []=>rfl
 | [_]=>rfl
 |_::m::r=>by simp only[Ej,Ls.n,MF (m::r),ABD]
theorem Dv:∀ls:List L,(Ej ls).kinds=ls
 | []=>rfl
 | [_]=>rfl
 |_::m::r=>by simp only[Ej,Ls.kinds,Dv (m::r)]
mutual
theorem L.Cz:∀l:L,L.eq? l l=true
 | .int _=>by simp[L.eq?]
 | .bool=>rfl
 | .str=>rfl
 | .sl t e=>by simp[L.eq?,Ls.Cz e]
theorem Ls.Cz:∀e:Ls,Ls.eq? e e=true
 | .nil=>rfl
 | .one l=>by simp[Ls.eq?,L.Cz l]
 | .cons l ls=>by simp[Ls.eq?,L.Cz l,Ls.Cz ls]
end
theorem Gr:∀(e:Ls)(vs:List Lv),vs.map (·.l)=e.kinds->∃x:e.D,pack e vs=some x/\((∀(j:Nat)(lv:Lv),vs[j]?=some lv->lv.l.fit lv.x)->e.fit x)
 | .nil,[],_=>⟨(),rfl,λ_=>trivial⟩
 | .nil,_::_,h=>by simp[Ls.kinds]at h
 | .one l,[],h=>by simp[Ls.kinds]at h
 | .one l,[v],h=>by simp[Ls.kinds]at h;subst h;refine⟨v.x,?_,λhf=>hf 0 v rfl⟩;have he:L.eq? v.l v.l=true:=L.Cz v.l;simp only[pack,L.cast,he,dif_pos];rfl
 | .one l,_::_::_,h=>by simp[Ls.kinds]at h
 | .cons l ls,[],h=>by simp[Ls.kinds]at h
 | .cons l ls,v::vs,h=>by simp only[Ls.kinds,ABE,List.cons.injEq]at h;obtain⟨h1,h2⟩:=h;subst h1;obtain⟨xs,hx,hf⟩:=Gr ls vs h2;have he:L.eq? v.l v.l=true:=L.Cz v.l;refine⟨(v.x,xs),?_,λhh=>⟨hh 0 v rfl,hf λj lv hj=>hh (j+1) lv No⟩⟩;simp only[pack,L.cast,he,dif_pos,hx]
def Jl(P:Program)(r:TypeId->Option (List L)):Nat->List Field->Option (List L)
 |_,[]=>some []
 |off,f::fs=>match f.offset==off,r f.type with
  |true,some ls=>match P.cellsOf f.type==ls.length,Jl P r (off+ls.length) fs with
   |true,some ms=>some (ls++ms)
   |_,_=>none
  |_,_=>none
def lay(P:Program):Nat->TypeId->Option (List L)
 |0,_=>none
 |k+1,t=>match P.underlying t with
  |some .bool=>some [.bool]
  |some (.int k)=>some [.int k]
  |some .string=>some [.str]
  |some (.slice e)=>match lay P k e with
   |some ls=>match P.cellsOf e==ls.length,ls with
    |true,l::ls=>some [.sl e (Ej (l::ls))]
    |_,_=>none
   |none=>none
  |some (.struct fs)=>match Jl P (lay P k) 0 fs.toList with
   |some ls=>match P.cellsOf t==ls.length with
    |true=>some ls
    |false=>none
   |none=>none
  |_=>none
def Old(w:World)(b:Nat):Prop:=b<w.heap.size
section
variable {H:Type}{enc:TypeId×Value->H}{P:Program}{w:World}{base:Nat}{held:Bool}
def Holds(w:World)(ls:List L)(cs:ADM):Prop:=cs.length=ls.length/\∃vs:List Lv,vs.map (·.l)=ls/\∀(j:Nat)(lv:Lv),vs[j]?=some lv->∃v,cs[j]?=some v/\lv.l.rd 0 w (Old w) v lv.x []/\lv.l.fit lv.x
theorem Holds.append{ls ms:List L}{cs ds:ADM}(h1:Holds w ls cs)(h2:Holds w ms ds):Holds w (ls++ms) (cs++ds):=by
 obtain⟨a1,vs,a2,a3⟩:=h1;obtain⟨b1,us,b2,b3⟩:=h2;have hl:vs.length=cs.length:=by have:=congrArg List.length a2;simp at this;omega
 refine⟨by simp[a1,b1],vs++us,by simp[a2,b2],λj lv hj=>?_⟩;grind
theorem Holds.elem{e:Ls}{cs:ADM}(h:Holds w e.kinds cs):∃x:e.D,e.rd 0 w (Old w) (λj=>cs[j]?) x []/\e.fit x:=by
 obtain⟨_,vs,h1,h2⟩:=h;obtain⟨x,hx,hf⟩:=Gr e vs h1;refine⟨x,Cl e λj lv hj=>?_,hf λj lv hj=>?_⟩
 ·rw[Ay e vs x hx]at hj;obtain⟨v,hv,hr,_⟩:=h2 j lv hj;exact⟨v,hv,hr⟩
 grind
theorem Jm{r:TypeId->Option (List L)}{cs:ADM}:∀(fs:List Field)(off:Nat) {ls:List L},Jl P r off fs=some ls->off+ls.length=cs.length->
  (∀(i:Nat)(f:Field)(ms:List L),fs[i]?=some f->r f.type=some ms->Holds w ms ((cs.drop f.offset).take (P.cellsOf f.type)))->Holds w ls (cs.drop off)
 | [],off,ls,h,hl,hf=>by
  simp only[Jl,Option.some.injEq]at h;subst h;have:cs.drop off=[]:=by simp at hl;simp;omega
  rw[this];exact⟨rfl,[],rfl,λj lv hj=>ADb⟩
 |f::fs,off,ls,h,hl,hf=>by
  simp only[Jl]at h;split at h
  ·rename_i ls1 xT hr;have xT:f.offset=off:=by simpa using xT
   split at h
   ·rename_i ms hc ug;injection h with h
    subst h;have hc:P.cellsOf f.type=ls1.length:=ADc
    have h1:=hf 0 f ls1 rfl hr;rw[xT,hc]at h1;have h2:=Jm fs (off+ls1.length) ug No λi f' ms' hi vI=>hf (i+1) f' ms' No vI;have:=h1.append h2;rw[<-List.drop_drop,List.take_append_drop]at this;exact this
   ·cases h
  ·cases h
theorem JZ{a:Addr}{n i:Nat}{cs:ADM}(hn:0<n)(hs:a.spot=none)(h:w.cells? base (a.add (i*n)) n=some cs):cs.length=n/\∀j,j<n->w.cell? ⟨a.block,a.off+(i*n+j),none⟩=cs[j]?:=by obtain⟨_,h1,h2⟩:=World.cells?_some h;refine⟨h1,λj hj=>?_⟩;rw[<-h2 j hj,Ez hs];have:(at_ a (i*n)).spot=none:=rfl;rw[Ez this];simp[at_,Nat.add_assoc]
theorem Lc{a:Addr}{n:Nat}{cs:ADM}(hn:0<n)(h:w.cells? base (a.add (0*n)) n=some cs):a.spot=none:=by
 obtain⟨_,h1,h2⟩:=World.cells?_some h;have:=h2 0 hn;rw[show cs[0]?=some (cs[0]'(by omega))from AAI _]at this;simp only[Nat.zero_mul,Addr.add,AAP]at this;unfold World.cell? at this;split at this
 ·cases hq:a.spot with
  |none=>rfl
  |some s=>grind
 ·cases this
theorem H9:∀(k:Nat) {t:TypeId} {ls:List L} {fuel:Nat} {cs:ADM} {x:DataW H×List MemPlace},lay P k t=some ls->DataW.trod enc P w base (λ_=>true) held fuel t cs=some x->Holds w ls cs
 |0,t,ls,fuel,cs,x,h,hx=>by simp[lay]at h
 |k+1,t,ls,fuel,cs,x,h,hx=>by
  simp only[lay]at h;split at h
  ·rename_i hu;injection h with h;subst h
   obtain⟨b,rfl,_⟩:=DataW.trod_bool hu hx;refine⟨rfl,[⟨.bool,show Bool from b⟩],rfl,λj lv hj=>?_⟩;cases j with
   |zero=>simp at hj;subst hj;exact⟨_,rfl,⟨rfl,rfl⟩,trivial⟩
   |succ j=>simp at hj
  ·rename_i kk hu;injection h with h;subst h
   obtain⟨n,rfl,_,hw⟩:=DataW.trod_int hu hx;refine⟨rfl,[⟨.int kk,show Int from n⟩],rfl,λj lv hj=>?_⟩;cases j with
   |zero=>simp at hj;subst hj;exact⟨_,rfl,⟨rfl,rfl⟩,by simpa[Lit.wf,L.fit]using hw⟩
   |succ j=>simp at hj
  ·rename_i hu;injection h with h;subst h
   obtain⟨s,rfl,_,hs⟩:=DataW.trod_string hu hx;refine⟨rfl,[⟨.str,show ADD from s.data.toList⟩],rfl,λj lv hj=>?_⟩;cases j with
   |zero=>simp at hj;subst hj;exact⟨_,rfl,⟨OF,rfl⟩,by simpa[L.fit]using hs⟩
   |succ j=>simp at hj
  ·rename_i e hu;split at h
   ·rename_i ls1 wX;split at h
    ·rename_i l ls2 hc;injection h with h;subst h
     have hc:P.cellsOf e=(l::ls2).length:=ADc
     let E:Ls:=Ej (l::ls2)
     have hEn:E.n=P.cellsOf e:=by rw[hc];exact MF _
     have hEk:E.kinds=l::ls2:=Dv _;have xg:0<P.cellsOf e:=by rw[hc];simp
     rcases DataW.trod_slice hu hx with⟨rfl,_⟩|⟨a,len,cap,elems,rest,n,rfl,rfl,_,hb,hle,vp,uk,h1,h2,_⟩
     ·refine⟨rfl,[⟨.sl e E,([]:List E.D)⟩],rfl,λj lv hj=>?_⟩;cases j with
      |zero=>simp at hj;subst hj;exact⟨_,rfl,Bl,by simp[L.fit],λy hy=>by cases hy⟩
      |succ j=>simp at hj
     ·have all:∀i,i<cap->∃cs' y,w.cells? base (a.add (i*P.cellsOf e)) (P.cellsOf e)=some cs'/\DataW.trod enc P w base (λ_=>true) held n e cs'=some y:=by
       intro i hi;obtain⟨h3,h4⟩:=h2 rfl;rcases AAq i len with uR|vW
       ·have:=h1 i uR;rw[AAI (show i<elems.length by omega)]at this;obtain⟨cs',q1,q2⟩:=ABB.1 this;grind
       ·have:=h4 (i-len) J;rw[AAI (show i-len<rest.length by omega),show len+(i-len)=i by omega]at this;obtain⟨cs',q1,q2⟩:=ABB.1 this;grind
      have elem:a.spot=none->∀i,i<cap->∃y:E.D,E.rd 0 w (Old w) (λj=>w.cell? ⟨a.block,a.off+(i*E.n+j),none⟩) y []/\E.fit y:=by intro hs i hi;obtain⟨cs',y,q1,q2⟩:=all i hi;have hh:=H9 k wX q2;rw[<-hEk]at hh;obtain⟨z,hz,hf⟩:=hh.elem;obtain⟨c1,c2⟩:=JZ xg hs q1;exact⟨z,Ls.BP E hz λj hj=>No,hf⟩
      refine⟨rfl,?_⟩;by_cases hc0:cap=0
      ·have vq:len=0:=J
       subst vq;subst hc0;refine⟨[⟨.sl e E,([]:List E.D)⟩],rfl,λj lv hj=>?_⟩;cases j with
       |zero=>simp at hj;subst hj;exact⟨_,rfl,⟨some a,0,rfl,AAb _,.inl ⟨rfl,rfl,rfl⟩⟩,by simp[L.fit],λy hy=>by cases hy⟩
       |succ j=>simp at hj
      ·obtain⟨cs0,y0,q0,_⟩:=all 0 J;have hs:=Lc xg q0;have hy:=elem hs
       let F:Nat->E.D:=λi=>if hi:i<cap then(hy i hi).choose else FG E
       have hF:∀i,i<cap->E.rd 0 w (Old w) (λj=>w.cell? ⟨a.block,a.off+(i*E.n+j),none⟩) (F i) []/\E.fit (F i):=by intro i hi;simp only[F,dif_pos hi];exact(hy i hi).choose_spec
       obtain⟨csl,yl,ql,_⟩:=all (cap-1) J;obtain⟨l1,l2⟩:=JZ xg hs ql;have xe:=l2 (P.cellsOf e-1) J;rw[AAI (show P.cellsOf e-1<csl.length by omega)]at xe
       have xT:a.off+((cap-1)*P.cellsOf e+(P.cellsOf e-1))=a.off+cap*P.cellsOf e-1:=by
        have:cap*P.cellsOf e=(cap-1)*P.cellsOf e+P.cellsOf e:=by rw[<-Nat.succ_mul];congr 1;omega
        omega
       rw[xT]at xe
       have uj:∃arr T fr,w.heap[a.block]?=some (.cells arr T fr)/\a.off+cap*P.cellsOf e<=arr.size:=by
        unfold World.cell? at xe;split at xe
        ·grind
        ·cases xe
       obtain⟨arr,T,fr,hh,uh⟩:=uj
       let xs:List E.D:=(List.range len).map F
       have hxl:xs.length=len:=by simp[xs]
       have hxg:∀i (hi:i<xs.length),xs[i]=F i:=λi hi=>by simp[xs]
       refine⟨[⟨.sl e E,xs⟩],rfl,λj lv hj=>?_⟩;cases j with
       |succ j=>simp at hj
       |zero=>
        simp at hj;subst hj;refine⟨_,rfl,⟨some a,cap,by rw[hxl],No,.inr ⟨λj=>arr[a.off+j]?,λ_=>[],⟨hs,arr,T,fr,hh,No,λh=>ADO,λj=>rfl⟩,λi hi=>?_,?_⟩⟩,?_,λy hy=>?_⟩
        ·have hi:i<xs.length:=hi;show E.rd 0 w (Old w) _ xs[i] [];rw[hxg i hi];have:=(hF i J).1;refine Ls.BP E this λj hj=>?_;simp[World.cell?,hh]
        ·exact⟨(AAz.1 hh).1,rfl,λ_ _=>rfl⟩
        ·grind
        ·have hy:y∈xs:=hy;obtain⟨i,hi,rfl⟩:=AAs.1 hy;grind
    ·cases h
   ·cases h
  ·rename_i fs hu;split at h
   ·rename_i ls1 wX;split at h
    ·rename_i hc;injection h with h;subst h
     have hc:P.cellsOf t=ls1.length:=ADc
     obtain⟨xs,n,rfl,_,hlen,hxl,ud⟩:=DataW.trod_struct hu hx
     have:=Jm (w:=w) (cs:=cs) fs.toList 0 wX J λi f ms hi hr=>by
      have vw:fs[i]?=some f:=ADR
      have uR:i<xs.length:=by rw[hxl];exact(AAz.1 vw).1
      have hg:=ud i f vw;rw[AAI uR]at hg;exact H9 k hr hg
     grind
    ·cases h
   ·cases h
  ·cases h
end
end Go.Ev
namespace Go.Ev
open Go.ChangeShapes Go.RowKit
def Gu(P:Program)(t:TypeId):Bool:=match P.underlying t with
 |some (.struct _)=>true
 |_=>false
def GD(P:Program):List TypeId->Option (List PM)
 | []=>some []
 |t::ts=>match lay P 12 t,GD P ts with
  |some ls,some ps=>some (.val (Gu P t) ls::ps)
  |_,_=>none
def Hv(P:Program)(ts:List TypeId):Bool:=ts.all λt=>P.readableRec t&&decide (t<P.types.size)
section
variable {H:Type}{enc:TypeId×Value->H}{P:Program}{w:World}{base base':Nat}{held:Bool}
theorem one_cell{t:TypeId}{v:Value}{ls:List L}{r:Reach}(h:Value.okWide P w r base t v)(hl:lay P 12 t=some ls)(ha:Gu P t=false):v.cells = #[v]/\ls.length=1:=by
 unfold lay at hl;unfold Gu at ha;unfold Value.okWide Cell.okWide Cell.ok at h;split at hl
 ·rename_i hu;rw[hu]at h;injection hl with hl;subst hl
  cases v<;>first|exact⟨rfl,rfl⟩|exact h.elim
 ·rename_i hu;rw[hu]at h;injection hl with hl;subst hl
  cases v<;>first|exact⟨rfl,rfl⟩|exact h.elim
 ·rename_i hu;rw[hu]at h;injection hl with hl;subst hl
  cases v<;>first|exact⟨rfl,rfl⟩|exact h.elim
 ·rename_i hu;rw[hu]at h;split at hl
  ·split at hl
   ·injection hl with hl;subst hl
    cases v<;>first|exact⟨rfl,rfl⟩|exact h.elim
   ·cases hl
  ·cases hl
 ·rename_i hu;rw[hu]at ha;cases ha
 ·cases hl
theorem K3{t:TypeId}{v:Value}{r:Reach}(h:Value.okWide P w r base t v)(ha:Gu P t=true):∃cs,v=.agg cs:=by
 unfold Gu at ha;unfold Value.okWide at h;split at ha
 ·rename_i hu;rw[hu]at h;obtain⟨cs,h,_⟩:=h;exact⟨cs,h⟩
 ·cases ha
theorem Ir:∀ {ts:List TypeId} {vs:ADM} {ds:List (DataW H)} {p:List MemPlace} {pms:List PM},DataW.TrodAll enc P w base (λ_=>true) held ts vs ds p->
  (∀(j:Nat) t v,ts[j]?=some t->vs[j]?=some v->Value.okWide P w .any base' t v)->GD P ts=some pms->
  vs.length=pms.length/\ds.length=ts.length/\∃uN:List (List Lv),uN.length=pms.length/\uN.flatten.map (·.l)=pms.flatMap PM.ins/\(∀(j:Nat)(lv:Lv),uN.flatten[j]?=some lv->lv.l.fit lv.x)/\
   ∀(i:Nat)(pm:PM)(u:Value)(xs:List Lv),pms[i]?=some pm->vs[i]?=some u->uN[i]?=some xs->Mp w (Old w) pm u xs 0 (λ_=>[])/\∃g ls,pm=.val g ls
 | [],[],[],p,pms,h,hv,hp=>by simp only[GD,Option.some.injEq]at hp;subst hp;exact⟨rfl,rfl,[],rfl,rfl,(λj lv hj=>by simp at hj),λi pm u xs hi=>by simp at hi⟩
 |t::ts,v::vs,d::ds,p,pms,h,hv,hp=>by
  obtain⟨p1,p2,⟨fuel,h1⟩,h2,_⟩:=h;simp only[GD]at hp;split at hp
  ·rename_i ls ps hl xV;injection hp with hp;subst hp
   obtain⟨a1,a2,uN,a3,a4,a5,a6⟩:=Ir h2 (λj t v ht wY=>hv (j+1) t v (by simpa using ht) (by simpa using wY)) xV;have vH:=hv 0 t v rfl rfl;obtain⟨hlen,us,b1,b2⟩:=H9 12 hl h1;have hul:us.length=ls.length:=by have:=congrArg List.length b1;simpa using this
   refine⟨by simp[a1],by simp[a2],us::uN,by simp[a3],by simp[a4,b1,PM.ins],λj lv hj=>?_,λi pm u xs hi hu hx=>?_⟩
   ·rw[AAh]at hj;rcases AAq j us.length with uR|vW
    ·rw[AA9 uR]at hj;obtain⟨_,_,_,hf⟩:=b2 j lv hj;exact hf
    ·rw[ABJ vW]at hj;exact a5 _ lv hj
   ·cases i with
    |succ i=>exact a6 i pm u xs ADR (by simpa using hu) (by simpa using hx)
    |zero=>
     simp at hi hu hx;subst hi;subst hu;subst hx;refine⟨⟨by simp[b1,Function.comp_def],?_,λj p lv hj vk=>?_⟩,_,_,rfl⟩
     ·cases wR:Gu P t with
      |true=>
       obtain⟨cs,rfl⟩:=K3 vH wR;exact⟨cs,rfl,by simpa[Value.cells]using hlen⟩
      |false=>
       have:=(one_cell vH hl wR).2;simpa using this
     ·obtain⟨y,hy,hr,_⟩:=b2 j lv vk
      have yB:p.2=0:=by
       simp only[AAZ]at hj;cases hq:ls[j]? with
       |none=>rw[hq]at hj;cases hj
       |some l=>rw[hq]at hj;injection hj with hj;rw[<-hj]
      rw[yB];refine⟨y,?_,hr⟩;cases wR:Gu P t with
      |true=>
       show v.cells[j]?=some y;rw[<-hy];simp
      |false=>
       obtain⟨q1,q2⟩:=one_cell vH hl wR;rw[q1]at hy;cases j with
       |zero=>simp at hy;subst hy;rfl
       |succ j=>simp at hy
  ·cases hp
 | [],_::_,_,_,_,h,_,_=>by cases h
 | [],[],_::_,_,_,h,_,_=>by cases h
 |_::_,[],_,_,_,h,_,_=>by cases h
 |_::_,_::_,[],_,_,h,_,_=>by cases h
theorem DY(hl:laidOutB P=true){W W':World}(hb:Below W.heap.size W W'):∀ {ts:List TypeId} {vs:ADM} {ds:List (DataW H)} {p:List MemPlace},Hv P ts=true->
  DataW.TrodAll enc P W 0 (λ_=>true) true ts vs ds p->(∀x∈p,x.block<W.heap.size)->DataW.TrodAll enc P W' 0 (λb=>decide (b<W.heap.size)) true ts vs ds p
 | [],[],[],p,hr,h,uR=>h
 |t::ts,v::vs,d::ds,p,hr,h,uR=>by obtain⟨p1,p2,h1,h2,rfl⟩:=h;simp only[Hv,List.all_cons,AAJ,AAe]at hr;exact⟨p1,p2,Below.trod hl hr.1.1 hr.1.2 h1 hb (λx hx=>uR x (AAU _ hx)),DY hl hb (by simpa[Hv]using hr.2) h2 (λx hx=>uR x (AAR _ hx)),rfl⟩
 | [],_::_,_,_,_,h,_=>by cases h
 | [],[],_::_,_,_,h,_=>by cases h
 |_::_,[],_,_,_,h,_=>by cases h
 |_::_,_::_,[],_,_,h,_=>by cases h
end
theorem J2{w:World}{fz:Nat->Prop}{om:Nat->Is}{g:Bool}{ls:List (L×Nat)}:∀ {rv:ADM} {vsR:List (List Lv)} {off:Nat},D4 w fz om [(g,ls)] rv vsR off->∃u vs,rv=[u]/\vsR=[vs]/\Ge w fz g ls u vs (λj=>om (off+j))
 | [u],[vs],_,h=>⟨u,vs,rfl,rfl,h.1⟩
 | [],_,_,h=>h.elim
 |_::_,[],_,h=>h.elim
 | [_],_::_::_,_,h=>h.2.elim
 |_::_::_,[_],_,h=>h.2.elim
 |_::_::_,_::_::_,_,h=>h.2.elim
theorem O5{H:Type}{enc:TypeId×Value->H}{C:Checked}{os:Os}{f:FuncId}{fn:Func}{s:ChangeSpec}{conds:List PathCond}
  (own:ownKnob C.prog.godebug=none) (started:os.Started) (noInit:C.prog.inits.idxOf? f=none) (xw:C.prog.funcs[f]?=some fn)
  (witness:∃(w:World) (tape:Tape) (i:Input),w.os=os/\(w.forCall tape i).Shaped C.prog/\i.vars=[]/\Input.okWide C.prog (w.forCall tape i) .any w.heap.size f i/\
   s.pre6 enc C.prog fn conds false (w.forCall tape i).memory i.args/\({}:Assume).holds C.prog (lone (Frame.enter C.prog f i.args .normal) [] (w.forCall tape i)))
  {sm:Sm} {F:Nat->sm.ins.D->Option sm.outs.D} (vH:∀n,JO C.prog [] f ⟨sm,F n⟩) (xV:GD C.prog fn.params.toList=some sm.ps) (hrs:sm.rs=[(false,[(.bool,0)])])
  {tb:TypeId} (zI:fn.resultTypes = #[tb]) (htb:C.prog.underlying tb=some .bool) (xl:s.vars=[]) (yD:Hv C.prog fn.params.toList=true) (yz:laidOutB C.prog=true)
  (wz:∀(ds:List (DataW H)),ds.length=fn.params.toList.length->s.fn H ds={results:=[.lit (.bool true)],args:=ds })
  (pure:∀x:sm.ins.D,sm.ins.fit x->∃n z,F n x=some z/\unpack sm.outs z=[⟨.bool,(show Bool from true)⟩]):
  ReturnsInHanded {} C os f .any (s.pre6 enc C.prog fn conds false) (s.post enc C.prog fn false true false false):=by
 refine returnsInHanded_of_change_sized own started noInit xw witness ?_;intro W base args ds gs before wW hW _ _ _;have vf:=hW;obtain⟨p,q,hA,hV,rfl,wJ,vd⟩:=hW;rw[xl]at hV;obtain⟨rfl,rfl⟩:=trodVars_none hV;obtain⟨a1,a2,uN,a3,a4,a5,a6⟩:=Ir hA (λj t v ht hv=>wW j t v (by simpa using ht) (by simpa using hv)) xV;have hkin:uN.flatten.map (·.l)=sm.ins.kinds:=by rw[a4];exact(Dv _).symm
 obtain⟨x,hx,vD⟩:=Gr sm.ins uN.flatten hkin;obtain⟨n,z,hz,hzu⟩:=pure x (vD a5)
 have uO:Di sm.ps W (Old W) args.toList uN (λ_=>0) (λ_=>[]):={
  len:=a1
  Bb:=a3
  each:=λi pm u xs h1 h2 h3=>(a6 i pm u xs h1 h2 h3).1
  blk:=λi=>by
   cases hq:sm.ps[i]? with
   |none=>rfl
   |some pm=>
    have uR:=(AAK.1 hq).1;obtain⟨_,g,ls,rfl⟩:=a6 i pm _ _ hq (AAI J) (AAI J);rfl
  none:=λi _ _ j=>rfl
  box:=λi ls _ j _=>rfl
  row:=λi g ls _ j _=>rfl
  fl:=λk=>rfl
  nodup:=λk=>AAS
  A7:=λk k' _ b hb=>by cases hb
  own:=λk b hb=>by cases hb
  fz:=λb hb=>hb }
 have vE:=vH n args.toList W (Old W) uN _ _ x z (λ_ h=>by cases h) uO hx hz;have xS:sm.mk?=false:=by unfold Sm.mk?;rw[hrs]
 have xS:(Ln.mk sm (F n)).s.mk?=false:=xS;rw[xS]at vE;rw[ABF]at vE;refine vE.mono ?_
 rintro en W' ⟨r,uQ,vG,rv,vsR,vsP,rfl,co⟩
 have wU:=co.outs;have xh:=co.J1;rw[hrs]at xh;obtain⟨u,vs,rfl,rfl,b1,_,b2⟩:=J2 xh;have vX:vs.length=1:=by have:=congrArg List.length b1;simpa using this
 obtain⟨lv,rfl⟩:∃lv,vs=[lv]:=by
  match vs,vX with
  | [x],_=>exact⟨x,rfl⟩
 obtain⟨l0,x0⟩:=lv;have vq:l0=.bool:=by simpa using b1
 subst vq;obtain⟨y,hy,hr⟩:=b2 0 (.bool,0) ⟨.bool,x0⟩ rfl rfl;have hyu:u=y:=by simpa[A8]using hy
 subst hyu;have hzu:unpack sm.outs z=[⟨.bool,(show Bool from true)⟩]:=hzu;have wU:unpack sm.outs z=_:=wU;rw[hzu]at wU;simp only[AAh,List.flatten_nil,AA1,AA8,AAv,List.cons.injEq]at wU
 have yF:x0=(show Bool from true):=by
  have:=wU.1;injection this with _ h2
  exact h2.symm
 subst yF;have hu:u=.bool true:=hr.1;subst hu;have yP:r=.bool true:=co.res;subst yP;have wh:Below W.heap.size W W':=⟨co.rest.1,co.rest.2.1,co.rest.2.2,co.size,λk hk=>co.frame k hk λ_ hb=>by cases hb⟩;have uR:∀y∈p,y.block<W.heap.size:=λy hy=>vf.lt y ADf;refine⟨_,rfl,ds,[],_,[],p,[],vf,?_,?_,?_,wh.frame _,λh=>by cases h⟩
 ·rw[AA1,wz ds a2,zI];exact trodAll_mk1 (shut_bool htb _)
 ·rw[AA1,wz ds a2];exact DY yz wh yD hA uR
 ·rw[AA1,wz ds a2,xl];rfl
end Go.Ev
namespace Go.Ev
def find{α:Type}:List (Nat×α)->Nat->Option α
 | [],_=>none
 |(k,x)::r,t=>match Nat.beq k t with
  |true=>some x
  |false=>find r t
theorem Jf{α:Type}:∀ {l:List (Nat×α)} {t:Nat} {x:α},find l t=some x->(t,x)∈l
 | [],t,x,h=>by cases h
 |(k,y)::r,t,x,h=>by
  unfold find at h;split at h
  ·rename_i hk;have:k=t:=Nat.eq_of_beq_eq_true hk;injection h with h;subst h;subst this;exact AAk
  ·exact AAM _ (Jf h)
def O2:L->Value->Bool
 | .int k,.int k' n=>IntKind.code k==IntKind.code k'&&n==0
 | .bool,.bool b => !b
 | .str,.string s=>s.size==0
 | .sl _ _,.slice none l c=>l==0&&c==0
 |_,_=>false
theorem Ns{l:L}{v:Value}(h:O2 l v=true):v=Bu l:=by
 unfold O2 at h;split at h
 ·simp only[AAJ,AAT]at h;obtain⟨h1,rfl⟩:=h;rw[IntKind.EA h1];rfl
 ·simp at h;subst h;rfl
 ·rename_i s;have:s=.empty:=ByteArray.size_eq_zero_iff.1 ADQ;subst this;rfl
 ·simp only[AAJ,AAT]at h;obtain⟨rfl,rfl⟩:=h;rfl
 ·cases h
def K4:List L->ADM->Bool
 | [],[]=>true
 |l::ls,v::vs=>O2 l v&&K4 ls vs
 |_,_=>false
theorem Gk:∀ {ls:List L} {vs:ADM},K4 ls vs=true->vs=ls.map Bu
 | [],[],_=>rfl
 |l::ls,v::vs,h=>by simp only[K4,AAJ]at h;rw[Ns h.1,Gk h.2];rfl
 | [],_::_,h=>by cases h
 |_::_,[],h=>by cases h
def Ox(P:Program)(t:TypeId)(e:Ls):Bool:=decide (0<e.n)&&match P.info? t with
 |some i=>i.size==e.n&&decide (i.bytes<=1024)&&match i.zero with
  |some z=>K4 e.kinds z.cells.toList
  |none=>false
 |none=>false
theorem Nl{P:Program}{t:TypeId}{e:Ls}(h:Ox P t e=true):Nd P t e:=by
 unfold Ox at h;simp only[AAJ,AAe]at h;obtain⟨hp,h⟩:=h;split at h
 ·rename_i i hi;simp only[AAJ,AAe,AAT]at h;obtain⟨⟨h1,h2⟩,h⟩:=h;split at h
  ·rename_i z hz;exact⟨⟨i,hi,h1,h2,z,hz,by rw[<-Gk h]⟩,hp⟩
  ·cases h
 ·cases h
def Ia(P:Program)(t:TypeId):L->Bool
 | .int k=>match P.underlying t with
  |some (.int k')=>IntKind.code k==IntKind.code k'
  |_=>false
 | .bool=>match P.underlying t with
  |some .bool=>true
  |_=>false
 | .str=>match P.underlying t with
  |some .string=>true
  |_=>false
 | .sl t' e=>(match P.underlying t with
  |some (.slice t'')=>t'==t''
  |_=>false)&&Ox P t' e
theorem MC{P:Program}{t:TypeId}{l:L}(h:Ia P t l=true):GG P t l:=by
 cases l with
 |int k=>
  simp only[Ia]at h;split at h
  ·rename_i k' hk;have:=IntKind.EA (by simpa using h:IntKind.code k=IntKind.code k');subst this;exact hk
  ·cases h
 |bool=>
  simp only[Ia]at h;split at h
  ·assumption
  ·cases h
 |str=>
  simp only[Ia]at h;split at h
  ·assumption
  ·cases h
 |sl t' e=>
  simp only[Ia,AAJ]at h;obtain⟨h1,h2⟩:=h;split at h1
  ·rename_i t'' ht;have:t'=t'':=ADh
   subst this;exact⟨ht,Nl h2⟩
  ·cases h1
def Gn:List Field->List (Nat×TypeId)->Bool
 | [],[]=>true
 |f::fs,(o,t)::r=>f.offset==o&&f.type==t&&Gn fs r
 |_,_=>false
theorem HR:∀ {fs:List Field} {r:List (Nat×TypeId)},Gn fs r=true->fs.map (λf=>(f.offset,f.type))=r
 | [],[],_=>rfl
 |f::fs,(o,t)::r,h=>by simp only[Gn,AAJ,AAT]at h;rw[ABE,h.1.1,h.1.2,HR h.2]
 | [],_::_,h=>by cases h
 |_::_,[],h=>by cases h
def Gs(P:Program):List Field->Bool
 | []=>true
 |f::fs=>(P.info? f.type).isSome&&Gs P fs
theorem Hr{P:Program}:∀ {fs:List Field},Gs P fs=true->∃pl,fs.mapM (λf=>(P.info? f.type).map λi=>(f.offset,i.size))=some pl
 | [],_=>⟨[],rfl⟩
 |f::fs,h=>by simp only[Gs,AAJ]at h;obtain⟨pl,wg⟩:=Hr h.2;obtain⟨i,hi⟩:=Option.isSome_iff_exists.1 h.1;exact⟨(f.offset,i.size)::pl,by simp[List.mapM_cons,hi,wg]⟩
def Hs(P:Program)(t:TypeId):L->Bool
 | .int k=>match P.underlying t with
  |some (.int k')=>IntKind.code k==IntKind.code k'
  |_=>false
 | .bool=>match P.underlying t with
  |some .bool=>true
  |_=>false
 | .str=>match P.underlying t with
  |some .string=>true
  |_=>false
 | .sl _ _=>false
theorem LU{P:Program}{t:TypeId}{l:L}(h:Hs P t l=true):Io P t l:=by
 cases l with
 |int k=>
  simp only[Hs]at h;split at h
  ·rename_i k' hk;have:=IntKind.EA (by simpa using h:IntKind.code k=IntKind.code k');subst this;exact hk
  ·cases h
 |bool=>
  simp only[Hs]at h;split at h
  ·assumption
  ·cases h
 |str=>
  simp only[Hs]at h;split at h
  ·assumption
  ·cases h
 |sl t' e=>cases h
def IQ(P:Program):Nat->List Field->List L->Bool
 |_,[],[]=>true
 | n, f :: fs, l :: ls => f.name != "_" && f.offset == n && Hs P f.type l && IQ P (n + 1) fs ls
 |_,_,_=>false
theorem Jb{P:Program}:∀ {n:Nat} {fs:List Field} {ls:List L},IQ P n fs ls=true->Gj P n fs ls
 |_,[],[],_=>trivial
 |n,f::fs,l::ls,h=>by simp only[IQ,AAJ,AAT,bne_iff_ne,ne_eq]at h;obtain⟨⟨⟨h1,h2⟩,h3⟩,h4⟩:=h;exact⟨h1,h2,LU h3,Jb h4⟩
 |_,[],_::_,h=>by simp[IQ]at h
 |_,_::_,[],h=>by simp[IQ]at h
def Oy(P:Program)(t:TypeId)(ls:List L):Bool := !P.stoodInHeld t && !P.eqGuardType P.depth t&&match P.underlying t with
 |some (.struct fs)=>IQ P 0 fs.toList ls
 |_=>false
theorem Np{P:Program}{t:TypeId}{ls:List L}(h:Oy P t ls=true):O6 P t ls:=by
 unfold Oy at h;simp only[AAJ,AAV]at h;obtain⟨⟨h1,h2⟩,h3⟩:=h;split at h3
 ·rename_i fs wP;exact⟨h1,h2,fs,wP,Jb h3⟩
 ·cases h3
def Ou(P:Program)(t:TypeId)(ty:Ty):Bool:=(match ty.eq with
 |true=>Oy P t ty.ls.kinds
 |false=>true)&&((match P.info? t with
  |some i=>i.size==ty.ls.n&&match i.zero with
   |some z=>match ty.agg with
    |true=>match z with
     | .agg cs=>K4 ty.ls.kinds cs.toList
     |_=>false
    |false=>K4 ty.ls.kinds z.cells.toList
   |none=>false
  |none=>false) &&
 match ty.agg with
 |true=>match P.underlying t with
  |some (.struct fs)=>Gn fs.toList ty.fs&&Gs P fs.toList
  |_=>false
 |false=>match ty.ls with
  | .one l=>Ia P t l
  |_=>false)
theorem OA{P:Program}{t:TypeId}{ty:Ty}(h:Ou P t ty=true):NT P t ty:=by
 unfold Ou at h;rw[AAJ]at h;obtain⟨h0,h⟩:=h;simp only[AAJ]at h;obtain⟨h1,h2⟩:=h;refine⟨?_,λha=>?_,λha=>?_,λhe=>by rw[he]at h0;exact Np h0⟩
 ·split at h1
  ·rename_i i hi;simp only[AAJ,AAT]at h1;obtain⟨hs,h1⟩:=h1;split at h1
   ·rename_i z hz;refine⟨i,hi,hs,z,hz,?_⟩;split at h1
    ·rename_i ha;split at h1
     ·rename_i cs;have hc:cs=(ty.ls.kinds.map Bu).toArray:=by rw[<-Gk h1]
      exact⟨hc,.inl (by rw[hc])⟩
     ·cases h1
    ·rename_i ha;exact⟨by rw[<-Gk h1],.inr ha⟩
   ·cases h1
  ·cases h1
 ·rw[ha]at h2;dsimp only at h2;split at h2
  ·rename_i fs wP;simp only[AAJ]at h2;exact⟨fs,wP,HR h2.1,Hr h2.2⟩
  ·cases h2
 ·rw[ha]at h2;dsimp only at h2;split at h2
  ·rename_i l hl;exact⟨l,hl,MC h2⟩
  ·cases h2
theorem Mj{P:Program}{tbl:List (Nat×Ty)}(h:tbl.all (λp=>Ou P p.1 p.2)=true):∀t x,find tbl t=some x->NT P t x:=
 λt x hx=>OA (AAW.1 h _ (Jf hx))
def Kg (P : Program) (f : FuncId) : Prop := ∃ (fn : Func) (c : Code), P.funcs[f]? = some fn /\ fn.body = some c /\ (fn.name == "runtime.NumGoroutine") = false
theorem Of{P:Program}{T:List (String×Array Value)}:IJ P T (find []):=λf g h=>by cases h
theorem OQ{P:Program}{T:List (String×Array Value)}{f:FuncId}{g:Ln}{l:List (FuncId×Ln)}(h:JO P T f g)(hb:Kg P f)(hl:IJ P T (find l)):IJ P T (find ((f,g)::l)):=by
 intro f' g' h';unfold find at h';split at h'
 ·rename_i hk;have:f=f':=Nat.eq_of_beq_eq_true hk;subst this;injection h' with h';subst h'
  exact⟨h,hb⟩
 ·exact hl f' g' h'
def plain(l:List (FuncId×Ln)):Env:=⟨find l,λ_ _=>none,λ_=>false⟩
theorem OE{P:Program}{T:List (String×Array Value)}{l:List (FuncId×Ln)}(h:IJ P T (find l)):JN P T (plain l):=⟨h,(λ_ _ _ h=>by cases h),(λ_ h=>by cases h)⟩
def NK(l:List (FuncId×Ln))(f g:FuncId)(σ:OC)(ts:List TypeId):Env:=⟨find l,λf' g'=>if f'==f&&g'==g then some σ else none,λt=>has ts t⟩
theorem Oh{P:Program}{T:List (String×Array Value)}{f:FuncId}{sm:Sm}:JO P T f ⟨sm,λ_=>none⟩:=by intro args w fz uN bk om x z hg uO hx hz;cases hz
theorem OG{P:Program}{T:List (String×Array Value)}{tbl:List (Nat×Ty)}{l:Env}{an:An}{n:Nat}{sm:Sm}{fn:Func}{f:FuncId}{c:Code}{F:sm.ins.D->Option sm.outs.D}
  (hf:P.funcs[f]?=some fn) (hb:fn.body=some c) (hlen:decide (sm.ps.length<=fn.ntmps)=true) (ht:tbl.all (λp=>Ou P p.1 p.2)=true) (hl:JN P T l) (hm:P.follows .mixedOrders=true)
  (hF:∀x,L1 (find tbl) l an n fn sm x=F x):JO P T f ⟨sm,F⟩:=by
 have h:=OS (an:=an) (n:=n) (sm:=sm) hf hb (AAu hlen) (Mj ht) hl hm;have:L1 (find tbl) l an n fn sm=F:=funext hF;rw[this]at h;exact h
end Go.Ev
