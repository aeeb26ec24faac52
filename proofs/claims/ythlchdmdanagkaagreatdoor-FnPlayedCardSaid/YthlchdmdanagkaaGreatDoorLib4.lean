/- Evaluator. Conditions: none. -/
import Derived.Test.YthlchdmdanagkaaGreatDoorLib3
import Derived.Deep.LoopGhost
import Derived.Tactics
import Derived.SizedLaws
import Derived.Carry
import Derived.ChangeShapes
import Derived.RowKit
set_option linter.all false
namespace Go.Ev
section
variable {P:Program}{E:Ci}{N:Nat}
theorem F3{cx:Cx}{ms:It}{ps:List VP}(h:∀t∈ms,cx.lock t=false/\cx.Ew t=false):∀t∈ms,(cx.in ms ps).lock t=false/\(cx.in ms ps).Ew t=false:=λt ht=>by have:=h t ht;simp[Cx.in,this.1,this.2,(Av ms t).2 ht]
def Claim(P:Program)(E:Ci)(N:Nat)(an:An)(n:Nat){RD:Type}(rp:St->Option RD)(c:Code):Prop:=∀ {R:Type} {cx:Cx} {s:St} {kn:St->Option R} {kx:Nat->St->Option R} {kr:RD->Option R} {x:R} {a:Act} {W:Wd} {Q:Exit->Act->World->Prop},
  Di P cx->C7 P E cx.env->codeOk N c=true->(∀t∈Bz c,cx.lock t=false/\cx.Ew t=false)->AW E s a.tmps W->Inv N s->ev an n rp c cx s kn kx kr=some x->
  (∀s' a' W',a'.defers=a.defers->AW E s' a'.tmps W'->Inv N s'->Ao cx s s'->kn s'=some x->Q .normal a' W'.w)->
  (∀id s' a' W',a'.defers=a.defers->AW E s' a'.tmps W'->Inv N s'->Ao cx s s'->kx id s'=some x->Q (.exit id) a' W'.w)->
  (∀y s' a' W',a'.defers=a.defers->AW E s' a'.tmps W'->Inv N s'->rp s'=some y->kr y=some x->Q .ret a' W'.w)->c.wp P Q a W.w
theorem Kg{an:An}{n:Nat}{RD:Type}{rp:St->Option RD}{c':Code}(ihb:Claim P E N an n rp c'){cx:Cx}{s:St}{ps:List VP}{id:Nat}{a0:Act}
  (hc:Di P cx) (yM:C7 P E cx.env) (yI:codeOk N c'=true) (zF:∀t∈Bz c',cx.lock t=false/\cx.Ew t=false) (hinv:Inv N s) (hp:Cb cx (Bz c') ps=true)
  {γ:Type} {g:(C4 ps).D->γ} {kr':RD->Option ((C4 ps).D⊕γ)} (hkr:∀r y,kr' r=some (.inl y)->False) {q:γ} {Q:Exit->Act->World->Prop}
  (hdone:∀x' s' a' W',a'.defers=a0.defers->AW E s' a'.tmps W'->Inv N s'->Ao (cx.in (Bz c') ps) s s'->Am ps s'=some x'->g x'=q->Q (.exit id) a' W'.w)
  (hret:∀y s' a' W',a'.defers=a0.defers->AW E s' a'.tmps W'->Inv N s'->rp s'=some y->kr' y=some (.inr q)->Q .ret a' W'.w)
  {m:Nat} {x0:(C4 ps).D} {a:Act} {W:Wd} {s1:St} (hd:a.defers=a0.defers) (xw:AW E s1 a.tmps W) (xv:BV s1) (hk:Ao (cx.in (Bz c') ps) s s1) (hx:Am ps s1=some x0)
  (hit:iter (α:=(C4 ps).D) (γ:=γ) m (λx=>ev an n rp c' (cx.in (Bz c') ps) (Bk (Bz c') ps s x) (λs=>(Am ps s).bind λx=>some (.inl x)) (λi s=>if i==id then(Am ps s).bind λx=>some (.inr (g x))else none) kr') x0=some q):
  (Code.loop c').wp P Q a W.w:=by
 refine wp_loop_ghost (λk a w=>∃(W:Wd) (s1:St) (x:(C4 ps).D),W.w=w/\a.defers=a0.defers/\AW E s1 a.tmps W/\BV s1/\Ao (cx.in (Bz c') ps) s s1/\Am ps s1=some x/\
  iter (α:=(C4 ps).D) (γ:=γ) k (λx=>ev an n rp c' (cx.in (Bz c') ps) (Bk (Bz c') ps s x) (λs=>(Am ps s).bind λx=>some (.inl x)) (λi s=>if i==id then(Am ps s).bind λx=>some (.inr (g x))else none) kr') x=some q) m
  ⟨W,s1,x0,rfl,hd,xw,xv,hk,hx,hit⟩ ?_
 rintro k a w ⟨W,s1,x,rfl,hd,xw,xv,hk,hx,hit⟩
 cases k with
 |zero=>cases hit
 |succ k=>
  simp only[iter]at hit;obtain⟨W2,w2,r2,i2,k2,k3⟩:=Dc (N:=N) xw xv hinv hk zF hp hx;cases hq:ev an n rp c' (R:=(C4 ps).D⊕γ) (cx.in (Bz c') ps) (Bk (Bz c') ps s x) (λs=>(Am ps s).bind λx=>some (.inl x)) (λi s=>if i==id then(Am ps s).bind λx=>some (.inr (g x))else none) kr' with
  |none=>grind
  |some y=>
   rw[hq]at hit;rw[<-w2];have hcin:Di P (cx.in (Bz c') ps):=hc;refine ihb hcin yM yI (F3 zF) r2 i2 hq (λs3 a3 W3 q1 q2 q3 q4 q5=>?_) (λi s3 a3 W3 q1 q2 q3 q4 q5=>?_) (λz s3 a3 W3 q1 q2 q3 q4 q5=>?_)
   ·cases hpk:Am ps s3 with
    |none=>grind
    |some z=>
     rw[hpk]at q5;injection q5 with q5
     subst q5;exact⟨k,Nat.lt_succ_self k,W3,s3,z,rfl,q1.trans hd,q2,q3.LQ,k3.trans q4,hpk,hit⟩
   ·split at q5
    ·rename_i hi;have hi:i=id:=ADi
     subst hi;cases hpk:Am ps s3 with
     |none=>grind
     |some z=>
      rw[hpk]at q5;injection q5 with q5
      subst q5;injection hit with hit
      exact hdone z s3 a3 W3 (q1.trans hd) q2 q3 (k3.trans q4) hpk hit
    ·cases q5
   ·cases y with
    |inl y=>grind
    |inr y=>
     injection hit with hit
     subst hit;exact hret z s3 a3 W3 (q1.trans hd) q2 q3 q4 q5
theorem Mt{an:An}{n:Nat}{RD:Type}{rp:St->Option RD}(hm:P.follows .mixedOrders=true):∀(c:Code),Claim P E N an n rp c/\∀c',c=.loop c'->Claim P E N an n rp c':=by
 intro c
 induction c with
 |skip=>
  refine⟨?_,λc' e=>by cases e⟩;intro R cx s kn kx kr x a W Q hc yM yI zF xw hinv he hn hx hr;exact wp_skip (hn s a W rfl xw hinv (Ao.refl _ _) he)
 |region id ops draw=>
  refine⟨?_,λc' e=>by cases e⟩;intro R cx s kn kx kr x a W Q hc yM yI zF xw hinv he hn hx hr;exact LP hc yM hm yI zF xw hinv he hn
 |seq b c ihb ihc=>
  refine⟨?_,λc' e=>by cases e⟩;intro R cx s kn kx kr x a W Q hc yM yI zF xw hinv he hn hx hr;simp only[codeOk,AAN]at yI;have hla:∀t∈Bz b,cx.lock t=false/\cx.Ew t=false:=λt ht=>zF t (AAY _ ht);have hlb:∀t∈Bz c,cx.lock t=false/\cx.Ew t=false:=λt ht=>zF t (AAV _ ht);refine wp_seq ?_
  have next:∀ {s1:St} {a1:Act} {W1:Wd},a1.defers=a.defers->AW E s1 a1.tmps W1->Inv N s1->Ao cx s s1->ev an n rp c cx s1 kn kx kr=some x->c.wp P Q a1 W1.w:=λhd1 hr1 hi1 hk1 he1=>
   ihc.1 hc yM yI.2 hlb hr1 hi1 he1 (λs2 a2 W2 q1 q2 q3 q4 q5=>hn s2 a2 W2 (q1.trans hd1) q2 q3 (hk1.trans q4) q5) (λi s2 a2 W2 q1 q2 q3 q4 q5=>hx i s2 a2 W2 (q1.trans hd1) q2 q3 (hk1.trans q4) q5)
    (λy s2 a2 W2 q1 q2 q3 q4 q5=>hr y s2 a2 W2 (q1.trans hd1) q2 q3 q4 q5)
  simp only[ev]at he;split at he
  ·exact ihb.1 hc yM yI.1 hla xw hinv he (λs1 a1 W1 q1 q2 q3 q4 q5=>next q1 q2 q3 q4 q5) hx hr
  ·rename_i ps rets hj;split at he
   ·rename_i hp;have hcin:Di P (cx.in (Bz b) ps):=hc;cases rets with
    |false=>
     dsimp only at he;cases hq:ev an n rp b (R:=(C4 ps).D) (cx.in (Bz b) ps) s (Am ps) (λ_ _=>none) (λ_=>none)with
     |none=>grind
     |some y=>
      rw[hq]at he;refine ihb.1 hcin yM yI.1 (F3 hla) xw hinv hq (λs1 a1 W1 q1 q2 q3 q4 q5=>?_) (λ_ _ _ _ _ _ _ _ q=>by cases q) (λ_ _ _ _ _ _ _ _ q=>by cases q);obtain⟨W2,w2,r2,i2,k2,_⟩:=Dc (N:=N) q2 q3.LQ hinv q4 hla hp q5;show c.wp P Q a1 W1.w;grind
    |true=>
     dsimp only at he;cases hq:ev an n rp b (R:=(C4 ps).D⊕RD) (cx.in (Bz b) ps) s (λs=>(Am ps s).bind λx=>some (.inl x)) (λ_ _=>none) (λr=>some (.inr r))with
     |none=>grind
     |some y=>
      rw[hq]at he;refine ihb.1 hcin yM yI.1 (F3 hla) xw hinv hq (λs1 a1 W1 q1 q2 q3 q4 q5=>?_) (λ_ _ _ _ _ _ _ _ q=>by cases q) (λy' s1 a1 W1 q1 q2 q3 q4 q5=>?_)
      ·cases hpk:Am ps s1 with
       |none=>grind
       |some z=>
        rw[hpk]at q5;injection q5 with q5
        subst q5;obtain⟨W2,w2,r2,i2,k2,_⟩:=Dc (N:=N) q2 q3.LQ hinv q4 hla hp hpk;show c.wp P Q a1 W1.w;grind
      ·injection q5 with q5
       subst q5;exact hr y' s1 a1 W1 q1 q2 q3 q4 he
   ·cases he
 |cond o b c ihb ihc=>
  refine⟨?_,λc' e=>by cases e⟩;intro R cx s kn kx kr x a W Q hc yM yI zF xw hinv he hn hx hr;simp only[codeOk,AAN]at yI;have hla:∀t∈Bz b,cx.lock t=false/\cx.Ew t=false:=λt ht=>zF t (AAY _ ht);have hlb:∀t∈Bz c,cx.lock t=false/\cx.Ew t=false:=λt ht=>zF t (AAV _ ht);have h1:=Ad xw o;simp only[ev]at he;split at he
  ·rename_i t hq;rw[hq]at h1;have h1:a.eval o=.bool t:=h1.1;refine wp_cond h1 ?_;cases t with
   |true=>exact ihb.1 hc yM yI.1 hla xw hinv he hn hx hr
   |false=>exact ihc.1 hc yM yI.2 hlb xw hinv he hn hx hr
  ·cases he
 |block id c ih=>
  refine⟨?_,λc' e=>by cases e⟩;intro R cx s kn kx kr x a W Q hc yM yI zF xw hinv he hn hx hr;simp only[ev]at he;cases hb:an.blk id with
  |none=>
   rw[hb]at he;refine wp_block (ih.1 hc yM yI zF xw hinv he hn (λi s' a' W' q1 q2 q3 q4 q5=>?_) hr);show(if i=id then Q .normal a' W'.w else Q (.exit i) a' W'.w);grind
  |some p=>
   obtain⟨ps,rets⟩:=p;rw[hb]at he;dsimp only at he;split at he
   ·rename_i c';have ihb:Claim P E N an n rp c':=ih.2 c' rfl;have yI:codeOk N c'=true:=yI;have zF:∀t∈Bz c',cx.lock t=false/\cx.Ew t=false:=zF;split at he
    ·rename_i hp;refine wp_block ?_;cases rets with
     |false=>
      dsimp only at he;cases hpk:Am ps s with
      |none=>grind
      |some x0=>
       rw[hpk]at he;simp only[Option.bind_some]at he;obtain⟨q,hq,he⟩:=ABF.1 he;refine Kg (g:=λx=>x) ihb hc yM yI zF hinv hp (λ_ _ q=>by cases q) (λx' s' a' W' q1 q2 q3 q4 q5 q6=>?_) (λ_ _ _ _ _ _ _ _ q=>by cases q) rfl xw hinv.LQ (Ao.refl _ _) hpk hq;subst q6;obtain⟨W2,w2,r2,i2,k2,_⟩:=Dc (N:=N) q2 q3.LQ hinv q4 zF hp q5;show(if id=id then Q .normal a' W'.w else Q (.exit id) a' W'.w);grind
     |true=>
      dsimp only at he;cases hpk:Am ps s with
      |none=>grind
      |some x0=>
       rw[hpk]at he;simp only[Option.bind_some]at he;obtain⟨q,hq,he⟩:=ABF.1 he;refine Kg (g:=λx=>(.inl x:(C4 ps).D⊕RD)) ihb hc yM yI zF hinv hp (λ_ _ q=>by cases q) (λx' s' a' W' q1 q2 q3 q4 q5 q6=>?_) (λy s' a' W' q1 q2 q3 q4 q5=>?_) rfl xw hinv.LQ (Ao.refl _ _) hpk hq
       ·subst q6;obtain⟨W2,w2,r2,i2,k2,_⟩:=Dc (N:=N) q2 q3.LQ hinv q4 zF hp q5;show(if id=id then Q .normal a' W'.w else Q (.exit id) a' W'.w);grind
       ·injection q5 with q5
        injection q5 with q5
        subst q5;exact hr y s' a' W' q1 q2 q3 q4 he
    ·cases he
   ·cases he
 |exit id=>
  refine⟨?_,λc' e=>by cases e⟩;intro R cx s kn kx kr x a W Q hc yM yI zF xw hinv he hn hx hr;exact wp_exit (hx id s a W rfl xw hinv (Ao.refl _ _) he)
 |ret=>
  refine⟨?_,λc' e=>by cases e⟩;intro R cx s kn kx kr x a W Q hc yM yI zF xw hinv he hn hx hr;simp only[ev]at he;cases hq:rp s with
  |none=>grind
  |some y=>rw[hq]at he;exact wp_ret (hr y s a W rfl xw hinv hq he)
 |loop c ih=>
  refine⟨?_,λc' e=>by grind⟩;intro R cx s kn kx kr x a W Q hc yM yI zF xw hinv he hn hx hr;simp only[ev]at he;cases he
 |_=>
  refine⟨?_,λc' e=>by cases e⟩;intro R cx s kn kx kr x a W Q hc yM yI zF xw hinv he hn hx hr;simp only[ev]at he;cases he
end
end Go.Ev
namespace Go.Ev
inductive BL(W:Wd):List (Nat×Nat)->List (Nat×Nat)->List It->Prop
 |nil (us):BL W us us []
 |skip {us zK os} (h:BL W us zK os):BL W us zK ([]::os)
 |take {us zK os u o} (hu:u∉us) (hs:∀b∈o,b∈W.om (.lf u.1 u.2)) (hn:o.Nodup) (h:BL W (u::us) zK os):BL W us zK (o::os)
section
variable {P:Program}{E:Ci}{s:St}{W:Wd}{tm:Array Value}{β:Type}{t:β}
theorem BL.append{us us1 us2:List (Nat×Nat)}{xs ys:List It}(h1:BL W us us1 xs)(h2:BL W us1 us2 ys):BL W us us2 (xs++ys):=by
 induction h1 with
 |nil=>exact h2
 |skip h ih=>exact .skip (ih h2)
 |take hu hs hn h ih=>exact .take hu hs hn (ih h2)
theorem BL.sub{us zK:List (Nat×Nat)}{os:List It}(h:BL W us zK os):∀u∈us,u∈zK:=by
 induction h with
 |nil=>grind
 |skip h ih=>exact ih
 |take hu hs hn h ih=>grind
theorem BL.mem{us zK:List (Nat×Nat)}{os:List It}(h:BL W us zK os):∀o∈os,∀b∈o,∃u,u∉us/\b∈W.om (.lf u.1 u.2):=by
 induction h with
 |nil=>grind
 |skip h ih=>
  grind
 |take hu hs hn h ih=>
  grind
theorem BL.nodup{us zK:List (Nat×Nat)}{os:List It}(h:BL W us zK os):∀o∈os,o.Nodup:=by
 induction h with
 |nil=>grind
 |skip h ih=>
  grind
 |take hu hs hn h ih=>
  grind
def Ex(a b:It):Prop:=∀x∈a,x∉b
theorem Ex.symm{a b:It}(h:Ex a b):Ex b a:=λx hx hy=>h x hy hx
theorem BL.pair(hd:∀k k',k≠k'->∀b∈W.om k,b∉W.om k'){us zK:List (Nat×Nat)}{os:List It}(h:BL W us zK os):os.Pairwise Ex:=by
 induction h with
 |nil=>exact .nil
 |skip h ih=>exact .cons (λa _ x hx=>by cases hx) ih
 | @take us zK os u o hu hs hn h ih=>
  refine .cons (λa ha x hx hxa=>?_) ih;obtain⟨u',h1,h2⟩:=h.mem a ha x hxa;grind
theorem JF{α:Type}{R:α->α->Prop}(hs:∀a b,R a b->R b a){l:List α}(h:l.Pairwise R){i j:Nat}{a b:α}(hij:i≠j)(hi:l[i]?=some a)(hj:l[j]?=some b):R a b:=by
 obtain⟨h1,rfl⟩:=AAO.1 hi;obtain⟨h2,rfl⟩:=AAO.1 hj;rcases ABL hij with xz|xz
 ·exact ABP.1 h i j h1 h2 xz
 ·exact hs _ _ (ABP.1 h j i h2 h1 xz)
theorem EB(h:AW E s tm W){us:List (Nat×Nat)}{l:L}{m:Nat}{a:LA}{v:Value}{k:Lv->List (Nat×Nat)->Step β}(hv:AT s W a v)(hl:(FN s us l m a k).leads t):
  ∃(x:l.D) (zK:List (Nat×Nat)) (o:It),(k ⟨l,x⟩ zK).leads t/\l.rd m W.w W.fz v x o/\BL W us zK [o]:=by
 cases l with
 |int kk=>obtain⟨x,hl,hr⟩:=Bq h hv hl;exact⟨x,us,[],hl,(L.AY _ rfl hr).1,.skip (.nil _)⟩
 |bool=>obtain⟨x,hl,hr⟩:=Bq h hv hl;exact⟨x,us,[],hl,(L.AY _ rfl hr).1,.skip (.nil _)⟩
 |str=>obtain⟨x,hl,hr⟩:=Bq h hv hl;exact⟨x,us,[],hl,(L.AY _ rfl hr).1,.skip (.nil _)⟩
 |sl t0 e=>
  unfold FN at hl;cases m with
  |zero=>
   simp only at hl;split at hl
   ·rename_i hs;obtain⟨x,hl,hr⟩:=J8 h hv hs hl;exact⟨x,us,[],hl,hr,.skip (.nil _)⟩
   ·exact hl.elim
  |succ m=>
   cases a with
   |C6=>exact⟨_,us,[],hl,by rw[show v=.slice none 0 0 from hv];exact Bt,.skip (.nil _)⟩
   |ref c=>
    simp only at hl;split at hl
    ·rename_i AB gen t' e' xs d xt;split at hl
     ·rename_i hc;simp only[AAN,AAX,AAa]at hc;obtain⟨⟨⟨yB,hp⟩,hd⟩,hus⟩:=hc;subst yB;subst hd;have hp:c.p=[]:=by cases hq:c.p<;>simp_all[isNil]
      split at hl
      ·rename_i y hy;obtain⟨q1,q2⟩:=L.AH hy;cases q1;have q2:xs=y:=q2;subst q2;obtain⟨h',e2,yW,hn⟩:=hv gen _ _ _ _ xt (.inl hp);rw[hp]at hn;obtain⟨rfl,rfl⟩:=hn;obtain⟨u',yG,yD⟩:=(h.roots c.r).row xt;rw[yW]at yG;injection yG with yG;subst yG
       refine⟨xs,_,W.om (.lf c.r c.j),hl,yD,.take (u:=(c.r,c.j)) (λhh=>?_) (λb hb=>hb) (h.sep.nodup _) (.nil _)⟩;grind
      ·exact hl.elim
     ·exact hl.elim
    ·exact hl.elim
   |D0 c lo hi=>
    simp only at hl;split at hl
    ·rename_i AB gen t' e' xs d xt;split at hl
     ·rename_i hc;simp only[AAN,AAX,AAa]at hc;obtain⟨⟨⟨yB,hp⟩,hd⟩,hus⟩:=hc;subst yB;subst hd;have hp:c.p=[]:=by cases hq:c.p<;>simp_all[isNil]
      split at hl
      ·rename_i y hy;obtain⟨q1,q2⟩:=L.AH hy;cases q1;have q2:sub xs lo hi=y:=q2;subst q2;obtain⟨h',e2,A,n,k0,yW,hn,h1,h2,huv⟩:=hv gen _ _ _ _ xt (.inl hp);rw[hp]at hn;obtain⟨rfl,rfl⟩:=hn;obtain⟨u',yG,yD⟩:=(h.roots c.r).row xt;rw[yW]at yG;injection yG with yG;subst yG
       obtain⟨o',q1,q2,q3⟩:=Bw.sub yD h1 h2;refine⟨sub xs lo hi,_,o',hl,?_,.take (u:=(c.r,c.j)) (λhh=>?_) (λb hb=>q2 b hb) (q3 (h.sep.nodup _)) (.nil _)⟩
       ·rw[huv];exact q1
       grind
      ·exact hl.elim
     ·exact hl.elim
    ·exact hl.elim
   |_=>exact hl.elim
theorem DR(h:AW E s tm W):∀(ls:List (L×Nat)) (as:List LA) (g:Nat->Option Value) {us:List (Nat×Nat)} {k:List Lv->List (Nat×Nat)->Step β},(∀(j:Nat)(a:LA),as[j]?=some a->∃u,g j=some u/\AT s W a u)->(CI s ls as us k).leads t->
  ∃(vs:List Lv) (zK:List (Nat×Nat)) (os:List It),(k vs zK).leads t/\vs.map (·.l)=ls.map (·.1)/\os.length=ls.length/\as.length=ls.length/\BL W us zK os/\
   ∀(j:Nat)(p:L×Nat)(lv:Lv),ls[j]?=some p->vs[j]?=some lv->∃y,g j=some y/\lv.l.rd p.2 W.w W.fz y lv.x ((os[j]?).getD [])
 | [],[],g,us,k,hg,hl=>⟨[],us,[],hl,rfl,rfl,rfl,.nil _,λj p lv hj=>ADr⟩
 | [],_::_,g,us,k,hg,hl=>hl.elim
 |_::_,[],g,us,k,hg,hl=>hl.elim
 |(l,m)::ls,a::as,g,us,k,hg,hl=>by obtain⟨u,hu,yh⟩:=hg 0 a rfl;obtain⟨x,us1,o,hl,hr,hb⟩:=EB h yh hl;obtain⟨vs,us2,os,hl,h1,h2,h3,h4,h5⟩:=DR h ls as (λj=>g (j+1)) (λj a hj=>hg (j+1) a ADs) hl;refine⟨⟨l,x⟩::vs,us2,o::os,hl,by simp[h1],by simp[h2],by simp[h3],hb.append h4,λj p lv hj hv=>?_⟩;grind
def JQ(P:Program)(w:World)(tm:Array Value):List ResultVar->ADc->Prop
 | [],[]=>True
 | .tmp t::rv,u::us=>u=tm.getD t Go.undef/\JQ P w tm rv us
 | .cell t T::rv,u::us=>(do loadVar T (<-asAddr (tm.getD t Go.undef)):Sem Value).run P w=.ok u w/\JQ P w tm rv us
 |_,_=>False
theorem KL{T:TypeId}{y:Ty}(zv:NN P T y){as:List LA}{b:Nat}(hlen:as.length=y.ls.n)(yL:∀(j:Nat)(x:LA),as[j]?=some x->∃u,W.w.cell? ⟨b,0+j,none⟩=some u/\AT s W x u):
  ∃u,(loadVar T ⟨b,0,none⟩).run P W.w=.ok u W.w/\Ez s W y.agg as u:=by
 cases z8:y.agg with
 |false=>
  obtain⟨l,zd,zR⟩:=zv.lone z8;rw[zd]at hlen
  obtain⟨a,rfl⟩:∃a,as=[a]:=by
   match as,hlen with
   | [a],_=>grind
  obtain⟨u,hu,hy⟩:=yL 0 a rfl;obtain⟨d,hd,zG⟩:=zR.JA
  have zq:(isAgg T).run P W.w=.ok false W.w:=by
   unfold isAgg;rw[Sem.run_bind,run_underlying hd];cases d<;>simp_all
  simp only[AA0]at hu;exact⟨u,by simp[loadVar,zq,load,Sem.run,hu],hy⟩
 |true=>
  obtain⟨fs,zn,_⟩:=zv.agg z8;obtain⟨i,hi,yP,_⟩:=zv.info
  let f:Nat->Value:=λj=>(W.w.cell? ⟨b,0+j,none⟩).getD Go.undef
  let cs:ADc:=(List.range as.length).map f
  have hcs:∀j u,cs[j]?=some u->W.w.cell? ⟨b,0+j,none⟩=some u:=by
   intro j u hj;simp only[cs,AAe]at hj;by_cases xz:j<as.length
   ·rw[List.getElem?_range xz]at hj;simp at hj;obtain⟨u',yG,_⟩:=yL j as[j] (AAM xz);simp only[AAd]at yG;rw[<-hj];simp[f,yG]
   ·rw[List.getElem?_eq_none ADb]at hj;cases hj
  have yK:=run_loadVar_mid (P:=P) W.w b 0 T cs (.struct fs) (λj u hj=>hcs j u hj) zn rfl (by simp[hi,yP,cs,hlen]);refine⟨.agg cs.toArray,yK,cs.toArray,rfl,by simp[cs],λj y hy=>?_⟩;grind
theorem G5{ty:TypeId->Option Ty}(zv:∀t x,ty t=some x->NN P t x)(h:AW E s tm W):∀(rs:List (Bool×List (L×Nat))) (rv:List ResultVar) {us:List (Nat×Nat)} {k:List Lv->List (Nat×Nat)->Step β},(Dq ty s rs rv us k).leads t->
  ∃(vals:ADc) (xu:List (List Lv)) (zK:List (Nat×Nat)) (os:List It),(k xu.flatten zK).leads t/\BL W us zK os/\JQ P W.w tm rv vals/\
   ∀(off:Nat)(om:Nat->It),(∀j,j<os.length->om (off+j)=(os[j]?).getD [])->D6 W.w W.fz om rs vals xu off
 | [],[],us,k,hl=>⟨[],[],us,[],hl,.nil _,trivial,λoff om hom=>trivial⟩
 | [],_::_,us,k,hl=>hl.elim
 |_::_,[],us,k,hl=>hl.elim
 |(g,ls)::rs,r::rv,us,k,hl=>by
  have main:∀ {u:Value} {as:List LA},Ez s W g as u->(∀us,JQ P W.w tm rv us->JQ P W.w tm (r::rv) (u::us))->(CI s ls as us λxs us=>Dq ty s rs rv us λys us=>k (xs++ys) us).leads t->
    ∃(vals:ADc) (xu:List (List Lv)) (zK:List (Nat×Nat)) (os:List It),(k xu.flatten zK).leads t/\BL W us zK os/\JQ P W.w tm (r::rv) vals/\
     ∀(off:Nat)(om:Nat->It),(∀j,j<os.length->om (off+j)=(os[j]?).getD [])->D6 W.w W.fz om ((g,ls)::rs) vals xu off:=by
   intro u as yh hrv hl;obtain⟨vs,us1,os1,hl,h1,h2,h3,h4,h5⟩:=DR h ls as (A9 g u) (λj a hj=>Ca yh j a hj) hl;obtain⟨vals,xu,us2,os2,hl,h6,h7,h8⟩:=G5 zv h rs rv hl;refine⟨u::vals,vs::xu,us2,os1++os2,No,h4.append h6,hrv _ h7,λoff om hom=>⟨⟨h1,?_,λj p lv hj hv=>?_⟩,?_⟩⟩
   ·cases g with
    |true=>obtain⟨cs,hcs,yP,_⟩:=yh;grind
    |false=>
     cases as with
     |nil=>exact yh.elim
     |cons b bs=>cases bs with
      |nil=>exact h3.symm
      |cons=>exact yh.elim
   ·grind
   ·refine h8 (off+ls.length) om λj hj=>?_;rw[show off+ls.length+j=off+(ls.length+j) by omega,hom (ls.length+j) ADb,ABN J];grind
  cases r with
  |tmp u=>
   simp only[Dq]at hl;split at hl
   ·rename_i g' as zo;split at hl
    ·rename_i hgg;have hgg:g=g':=by simpa using hgg
     subst hgg;have yh:Ez s W g as (tm.getD u Go.undef):=by have:=h.AM u;rw[zo]at this;exact this
     exact main yh (λus hu=>⟨rfl,hu⟩) hl
    ·exact hl.elim
   ·exact hl.elim
  |cell u T=>
   simp only[Dq]at hl;split at hl
   ·rename_i y r0 AB hyT zo;split at hl
    ·rename_i hgg;simp only[AAN,AAX]at hgg;obtain⟨hgg,hyn⟩:=hgg;subst hgg;have hv:AT s W (.ptr r0 0 AB) (tm.getD u Go.undef):=by have:=h.AM u;rw[zo]at this;exact this
     have hbx:(s.root r0).box=true/\(s.root r0).AB=AB:=by
      have hl2:=hl;simp only[St.C2]at hl2;split at hl2
      ·grind
      ·exact hl2.elim
     obtain⟨as,hl,_,b,off,hp,yL⟩:=Fe h hv hl;split at hl
     ·rename_i hlen;have hlen:as.length=ls.length:=ADo
      have hoff:off=0:=by
       rw[hv hbx.1 hbx.2]at hp;injection hp with hp;injection hp with hp;injection hp with _ h2
       exact h2.symm
      subst hoff;obtain⟨v,hv1,hv2⟩:=KL (zv T y hyT) J yL;exact main hv2 (λus hu=>⟨by simp[hp,asAddr,hv1],hu⟩) hl
     ·exact hl.elim
    ·exact hl.elim
   ·exact hl.elim
def Li(E:Ci)(s:St)(W:Wd)(i:Nat)(pm:PM)(vs0 vs:List Lv)(os:List It):Prop:=match pm with
 | .box ls=>(s.root i).box=true/\(s.root i).AB=1/\(s.root i).ls.length=ls.length/\vs.map (·.l)=ls.map (·.1)/\os.length=ls.length/\
   (∀(j:Nat)(p:L×Nat)(lv:Lv),ls[j]?=some p->vs[j]?=some lv->∃y,W.w.cell? ⟨W.bk i,j,none⟩=some y/\lv.l.rd p.2 W.w W.fz y lv.x ((os[j]?).getD []))/\
   ∀(j:Nat)(p:L×Nat),ls[j]?=some p->p.2=3->W.w.cell? ⟨W.bk i,j,none⟩=E.N2 i j
 | .row g ls=>vs.length=ls.length/\os.length=ls.length/\∀(j:Nat)(p:L×Nat)(lv:Lv),ls[j]?=some p->vs[j]?=some lv->
   (Bj p.1=true/\lv.l=p.1/\∃u,E.N2 i j=some u/\lv.l.rd p.2 W.w W.fz u lv.x ((os[j]?).getD []))\/(Bj p.1=false/\vs0[j]?=some lv/\os[j]?=some [])
 |_=>vs=[]/\os=[]
theorem IX{i:Nat}:∀(j:Nat) (ls:List (L×Nat)),I3 s i j ls=true->∀(m:Nat)(p:L×Nat),ls[m]?=some p->p.2=3->∃(gen:Nat) (t:TypeId) (e:Ls) (xs:List e.D) (d:Nat),s.leaf i (j+m)=.arr 1 gen t e xs d
 |_,[],_,m,p,hp,_=>ADp
 |j,(l,d)::ls,hk,m,p,hp,h3=>by
  simp only[I3,AAN]at hk;cases m with
  |zero=>
   simp only[List.getElem?_cons_zero,Option.some.injEq]at hp;subst hp;have h3:d=3:=h3;subst h3;have hk:=hk.1;simp only[beq_self_eq_true,cond_true]at hk;cases hq:s.leaf i j with
   |arr AB gen t e xs d=>
    rw[hq]at hk;have hk:AB=1:=by simpa using hk
    subst hk;exact⟨gen,t,e,xs,d,rfl⟩
   |_=>rw[hq]at hk;cases hk
  |succ m=>
   obtain⟨gen,t,e,xs,d',hq⟩:=IX (j+1) ls hk.2 m p (by simpa using hp) h3;exact⟨gen,t,e,xs,d',by rw[show j+(m+1)=j+1+m by omega];exact hq⟩
theorem E1(h:AW E s tm W)(i:Nat):∀(j:Nat) (ls:List (L×Nat)) (vs0 rest:List Lv) {us:List (Nat×Nat)} {k:List Lv->List (Nat×Nat)->Step β},vs0.length=ls.length->(EX s i j ls (vs0++rest) us k).leads t->
  ∃(vs:List Lv) (zK:List (Nat×Nat)) (os:List It),(k vs zK).leads t/\vs.length=ls.length/\os.length=ls.length/\BL W us zK os/\∀(m:Nat)(p:L×Nat)(lv:Lv),ls[m]?=some p->vs[m]?=some lv->
   (Bj p.1=true/\lv.l=p.1/\∃u,E.N2 i (j+m)=some u/\lv.l.rd p.2 W.w W.fz u lv.x ((os[m]?).getD []))\/(Bj p.1=false/\vs0[m]?=some lv/\os[m]?=some [])
 |j,[],vs0,rest,us,k,hlen,hl=>⟨[],us,[],hl,rfl,rfl,.nil _,λm p lv hp=>ADp⟩
 |j,_::_,[],rest,us,k,hlen,hl=>ADn
 |j,(l,d)::ls,x::vs0,rest,us,k,hlen,hl=>by
  have yn:vs0.length=ls.length:=ADo
  have plain:Bj l=false->(EX s i (j+1) ls (vs0++rest) us λys us=>k (x::ys) us).leads t->∃(vs:List Lv) (zK:List (Nat×Nat)) (os:List It),(k vs zK).leads t/\vs.length=((l,d)::ls).length/\os.length=((l,d)::ls).length/\BL W us zK os/\∀(m:Nat)(p:L×Nat)(lv:Lv),((l,d)::ls)[m]?=some p->vs[m]?=some lv->
    (Bj p.1=true/\lv.l=p.1/\∃u,E.N2 i (j+m)=some u/\lv.l.rd p.2 W.w W.fz u lv.x ((os[m]?).getD []))\/(Bj p.1=false/\(x::vs0)[m]?=some lv/\os[m]?=some []):=by
   intro hs hl;obtain⟨vs,us1,os,hl,h1,h2,h3,h4⟩:=E1 h i (j+1) ls vs0 rest yn hl;refine⟨x::vs,us1,[]::os,hl,by simp[h1],by simp[h2],.skip h3,λm p lv hp hv=>?_⟩;cases m with
   |zero=>grind
   |succ m=>
    grind
  cases l with
  |int i=>exact plain rfl hl
  |bool=>exact plain rfl hl
  |str=>exact plain rfl hl
  |sl t0 e=>
   simp only[ABC,EX]at hl;split at hl
   ·rename_i gen t' e' yj d' xt;obtain⟨u,hu,yD⟩:=(h.roots i).row xt;have hini:=h.init.1 _ _ _ _ _ _ _ xt
    have hv:AT s W (.ref ⟨i,j,1,gen,[]⟩) u:=by intro gen2 t2 e2 xs2 d2 hl2 _;have hl2:s.leaf i j=_:=hl2;exact⟨u,e2,hu,rfl,rfl⟩
    obtain⟨y,us1,o,hl,hr,hb⟩:=EB h hv hl;obtain⟨vs,us2,os,hl,h1,h2,h3,h4⟩:=E1 h i (j+1) ls vs0 rest yn hl;refine⟨⟨.sl t0 e,y⟩::vs,us2,o::os,hl,by simp[h1],by simp[h2],hb.append h3,λm p lv hp hv=>?_⟩;cases m with
    |zero=>simp at hp hv;subst hp;subst hv;exact .inl ⟨rfl,rfl,u,No,No⟩
    |succ m=>
     grind
   ·obtain⟨x,us1,o,hl,hr,hb⟩:=EB h (v:=Go.undef) (show AT s W .bad Go.undef from trivial) hl;cases d with
    |zero=>
     exfalso;exact absurd hl id
    |succ d=>exact absurd hl id
theorem IK(h:AW E s tm W):∀(i:Nat)(ps:List PM) (vss0:List (List Lv)) {us:List (Nat×Nat)} {k:List Lv->Step β},vss0.length=ps.length->(∀(j:Nat)(pm:PM)(vs:List Lv),ps[j]?=some pm->vss0[j]?=some vs->vs.length=pm.ins.length)->(Ct s i ps vss0.flatten us k).leads t->
  ∃(xu:List (List Lv)) (zK:List (Nat×Nat)) (oss:List (List It)),(k xu.flatten).leads t/\xu.length=ps.length/\oss.length=ps.length/\BL W us zK oss.flatten/\
   ∀(j:Nat)(pm:PM)(vs0 vs:List Lv) (os:List It),ps[j]?=some pm->vss0[j]?=some vs0->xu[j]?=some vs->oss[j]?=some os->Li E s W (i+j) pm vs0 vs os
 |i,[],vss0,us,k,hlen,zE,hl=>⟨[],us,[],hl,rfl,rfl,.nil _,λj pm vs0 vs os hj=>ADr⟩
 |i,_::_,[],us,k,hlen,zE,hl=>ADn
 |i,pm::ps,vs0::vss0,us,k,hlen,zE,hl=>by
  have yn:vss0.length=ps.length:=ADo
  have hvl':∀(j:Nat)(pm:PM)(vs:List Lv),ps[j]?=some pm->vss0[j]?=some vs->vs.length=pm.ins.length:=λj pm' vs h1 h2=>zE (j+1) pm' vs No No;have hv0:=zE 0 pm vs0 rfl rfl
  have fin:∀ {us1:List (Nat×Nat)} (vs:List Lv) (os:List It),BL W us us1 os->Li E s W i pm vs0 vs os->(Ct s (i+1) ps vss0.flatten us1 λys=>k (vs++ys)).leads t->
    ∃(xu:List (List Lv)) (zK:List (Nat×Nat)) (oss:List (List It)),(k xu.flatten).leads t/\xu.length=(pm::ps).length/\oss.length=(pm::ps).length/\BL W us zK oss.flatten/\
     ∀(j:Nat)(pm':PM)(vs1 vs:List Lv) (os:List It),(pm::ps)[j]?=some pm'->(vs0::vss0)[j]?=some vs1->xu[j]?=some vs->oss[j]?=some os->Li E s W (i+j) pm' vs1 vs os:=by
   intro us1 vs os hb hp hl;obtain⟨xu,us2,oss,hl,h1,h2,h3,h4⟩:=IK h (i+1) ps vss0 yn hvl' hl;refine⟨vs::xu,us2,os::oss,No,by simp[h1],by simp[h2],by simpa using hb.append h3,λj pm' vs1 vs' yq hj hv1 hv ho=>?_⟩;cases j with
   |zero=>grind
   |succ j=>
    grind
  cases pm with
  |val g ls=>
   have e:vs0.length=ls.length:=hv0;simp only[AAl,Ct]at hl;rw[<-e,AA7]at hl;exact fin [] [] (.nil _) ⟨rfl,rfl⟩ ADy
  |fn f=>
   have e:vs0=[]:=AAU hv0;subst e;simp only[AAl,AAy,Ct]at hl;exact fin [] [] (.nil _) ⟨rfl,rfl⟩ ADy
  |box ls=>
   have e:vs0.length=ls.length:=by simpa[PM.ins]using hv0
   simp only[AAl,Ct]at hl;rw[show(vs0++vss0.flatten).drop ls.length=vss0.flatten by rw[<-e,AA7]]at hl;split at hl
   ·rename_i hc;simp only[AAN,AAX]at hc;obtain⟨⟨⟨hb,yB⟩,hlen⟩,hkp⟩:=hc;have hv:AT s W (.ptr i 0 1) (.pointer (some ⟨W.bk i,0,none⟩)):=λ_ _=>rfl;obtain⟨as,hl,_,b,off,hp,yL⟩:=Fe h hv hl;injection hp with hp;injection hp with hp;injection hp with hp1 hp2
    subst hp1;subst hp2;obtain⟨vs,us1,os,hl,h1,h2,h3,h4,h5⟩:=DR h ls as (λj=>W.w.cell? ⟨W.bk i,0+j,none⟩) yL hl;refine fin vs os h4 ⟨hb,yB,hlen,h1,h2,λj p lv hj hv=>?_,λj p hj h3=>?_⟩ hl
    ·grind
    ·obtain⟨gen,t,e,xs,d,hq⟩:=IX 0 ls hkp j p hj h3;rw[AAd]at hq;rw[<-h.init.1 _ _ _ _ _ _ _ hq];obtain⟨_,q2⟩:=h.roots i;rw[AAS hb]at q2;obtain⟨_,arr0,T0,fr0,k1,_,_,k2⟩:=q2;rw[k2];simp[World.cell?,k1]
   ·exact hl.elim
  |row g ls=>
   have e:vs0.length=ls.length:=by simpa[PM.ins]using hv0
   simp only[AAl,Ct]at hl;rw[show(vs0++vss0.flatten).drop ls.length=vss0.flatten by rw[<-e,AA7]]at hl;obtain⟨vs,us1,os,hl,h1,h2,h3,h4⟩:=E1 h i 0 ls vs0 _ e hl;exact fin vs os h3 ⟨h1,h2,λj p lv hp hv=>No⟩ hl
end
end Go.Ev
namespace Go.Ev
def DY(i:Nat)(pm:PM)(vs:List Lv):AV:=match pm with
 | .val g _=>.v g (vs.map λx=>.sc x.l x.x)
 | .box _=>one (.ptr i 0 1)
 | .row g ls=>.v g (Az i 0 ls vs)
 | .fn f=>one (.fn f)
def B0(pm:PM)(vs:List Lv)(r:Bv):Bv:=match pm with
 | .box ls=>⟨true,1,AX 1 ls vs⟩
 | .row _ ls=>⟨false,1,AX 1 ls vs⟩
 |_=>r
theorem DH(i:Nat):∀(j:Nat) (ls:List (L×Nat)) (vs:List Lv),vs.length=ls.length->(Az i j ls vs).length=ls.length
 |_,[],[],_=>rfl
 |_,[],_::_,h=>ADf
 |_,_::_,[],h=>ADf
 |j,(l,d)::ls,x::vs,h=>by simp[Az,DH i (j+1) ls vs ADh]
theorem Fj(i:Nat):∀(j:Nat) (ls:List (L×Nat)) (vs rest:List Lv),vs.length=ls.length->Az i j ls (vs++rest)=Az i j ls vs
 |_,[],[],rest,_=>by cases rest<;>simp[Az]
 |_,[],_::_,_,h=>ADf
 |_,_::_,[],_,h=>ADf
 |j,(l,d)::ls,x::vs,rest,h=>by simp[Az,Fj i (j+1) ls vs rest ADh]
theorem Gc(i:Nat):∀(j:Nat) (ls:List (L×Nat)) (vs:List Lv) (m:Nat) (p:L×Nat) (lv:Lv),ls[m]?=some p->vs[m]?=some lv->(Az i j ls vs)[m]?=some (if Bj p.1 then .ref ⟨i,j+m,1,1,[]⟩else .sc lv.l lv.x)
 |_,[],_,m,p,lv,h,_=>ADf
 |_,_::_,[],m,p,lv,_,h=>ADf
 |j,(l,d)::ls,x::vs,0,p,lv,h1,h2=>by
  simp at h1 h2;subst h1;subst h2;cases l<;>rfl
 |j,(l,d)::ls,x::vs,m+1,p,lv,h1,h2=>by have:=Gc i (j+1) ls vs m p lv No No;rw[show j+1+m=j+(m+1) by omega]at this;simpa[Az]using this
theorem Fk(i:Nat):∀(j:Nat) (ls:List (L×Nat)) (vs:List Lv) (a:LA),a∈Az i j ls vs->∀n∈a.AF,n=1
 |_,[],_,a,h=>by simp[Az]at h
 |_,_::_,[],a,h=>by simp[Az]at h
 |j,(l,d)::ls,x::vs,a,h=>by
  rcases AAj.1 (show a∈_::Az i (j+1) ls vs from h)with rfl|h
  ·intro n hn;cases l<;>simp[LA.AF]at hn;exact hn
  ·exact Fk i (j+1) ls vs a h
theorem Cm(s:St)(w:Wr):(s.AG w).sl.length=s.sl.length/\(s.AG w).ro.length=s.ro.length:=by
 cases w<;>simp[St.AG,CF]
def GR(i:Nat)(pm:PM)(vs:List Lv):List Wr:=match pm with
 | .val _ _=>[.slot i (DY i pm vs)]
 | .fn _=>[.slot i (DY i pm vs)]
 |_=>[.root i (B0 pm vs dead),.slot i (DY i pm vs)]
theorem L1(i:Nat)(pm:PM)(vs:List Lv)(s:St)(h1:i<s.sl.length)(h2:i<s.ro.length):
  (s.app (GR i pm vs)).sl.length=s.sl.length/\(s.app (GR i pm vs)).ro.length=s.ro.length/\(∀t,t≠i->(s.app (GR i pm vs)).slot t=s.slot t/\(s.app (GR i pm vs)).root t=s.root t)/\
   (s.app (GR i pm vs)).slot i=DY i pm vs/\(s.app (GR i pm vs)).root i=B0 pm vs (s.root i):=by
 have one:∀x,(s.app [.slot i x]).sl.length=s.sl.length/\(s.app [.slot i x]).ro.length=s.ro.length/\(∀t,t≠i->(s.app [.slot i x]).slot t=s.slot t/\(s.app [.slot i x]).root t=s.root t)/\
   (s.app [.slot i x]).slot i=x/\(s.app [.slot i x]).root i=s.root i:=by
  intro x;refine⟨(Cm s _).1,(Cm s _).2,λt ht=>⟨?_,rfl⟩,?_,rfl⟩
  ·show(s.AG (.slot i x)).slot t=_;rw[BF,AAT (λhh=>ht hh.1.symm)]
  ·show(s.AG (.slot i x)).slot i=_;rw[BF,AAS ⟨rfl,h1⟩]
 have two:∀y x,(s.app [.root i y,.slot i x]).sl.length=s.sl.length/\(s.app [.root i y,.slot i x]).ro.length=s.ro.length/\(∀t,t≠i->(s.app [.root i y,.slot i x]).slot t=s.slot t/\(s.app [.root i y,.slot i x]).root t=s.root t)/\
   (s.app [.root i y,.slot i x]).slot i=x/\(s.app [.root i y,.slot i x]).root i=y:=by
  intro y x;have zo:(s.AG (.root i y)).sl=s.sl:=rfl;refine⟨(Cm (s.AG (.root i y)) (.slot i x)).1.trans (Cm s _).1,(Cm (s.AG (.root i y)) (.slot i x)).2.trans (Cm s _).2,λt ht=>⟨?_,?_⟩,?_,?_⟩
  ·show((s.AG (.root i y)).AG (.slot i x)).slot t=_;rw[BF,AAT (λhh=>ht hh.1.symm)];rfl
  ·show(s.AG (.root i y)).root t=_;rw[Aq,AAT (λhh=>ht hh.1.symm)]
  ·show((s.AG (.root i y)).AG (.slot i x)).slot i=_;rw[BF,AAS ⟨rfl,h1⟩]
  ·show(s.AG (.root i y)).root i=_;rw[Aq,AAS ⟨rfl,h2⟩]
 cases pm with
 |val g ls=>exact one _
 |fn f=>exact one _
 |box ls=>exact two _ _
 |row g ls=>exact two _ _
theorem Hd:∀(ps:List PM) (xu:List (List Lv)) (i:Nat) {ws:List Wr} (s:St),xu.length=ps.length->(∀(j:Nat)(pm:PM)(vs:List Lv),ps[j]?=some pm->xu[j]?=some vs->vs.length=pm.ins.length)->
  C1 i ps xu.flatten=some ws->i+ps.length<=s.sl.length->i+ps.length<=s.ro.length->
  (s.app ws).sl.length=s.sl.length/\(s.app ws).ro.length=s.ro.length/\(∀t,(t<i\/i+ps.length<=t)->(s.app ws).slot t=s.slot t/\(s.app ws).root t=s.root t)/\
   ∀(j:Nat)(pm:PM)(vs:List Lv),ps[j]?=some pm->xu[j]?=some vs->(s.app ws).slot (i+j)=DY (i+j) pm vs/\(s.app ws).root (i+j)=B0 pm vs (s.root (i+j))
 | [],[],i,ws,s,hlen,hv,h,h1,h2=>by
  have:ws=[]:=by simpa[C1]using h.symm
  subst this;exact⟨rfl,rfl,λt ht=>⟨rfl,rfl⟩,λj pm vs hj=>ADr⟩
 | [],_::_,i,ws,s,hlen,hv,h,h1,h2=>ADn
 |_::_,[],i,ws,s,hlen,hv,h,h1,h2=>ADn
 |pm::ps,vs::xu,i,ws,s,hlen,hv,h,h1,h2=>by
  have zQ:vs.length=pm.ins.length:=hv 0 pm vs rfl rfl
  have hex:∃zf,C1 (i+1) ps xu.flatten=some zf/\ws=GR i pm vs++zf:=by
   cases pm with
   |val g ls=>
    simp only[AAl,C1]at h;have zx:vs.length=ls.length:=zQ;rw[<-zx,AA7,List.take_left]at h;split at h
    ·rename_i zf hq;injection h with h
     exact⟨zf,hq,h.symm⟩
    ·cases h
   |fn f=>
    have zx:vs=[]:=AAU zQ;subst zx;simp only[AAl,C1,AAy]at h;split at h
    ·rename_i zf hq;injection h with h
     exact⟨zf,hq,h.symm⟩
    ·cases h
   |box ls=>
    simp only[AAl,C1]at h;have zx:vs.length=ls.length:=by simpa[PM.ins]using zQ
    have hd:(vs++xu.flatten).drop ls.length=xu.flatten:=by rw[<-zx,AA7]
    rw[hd,C3 1 ls vs _ zx]at h;split at h
    ·rename_i zf hq;injection h with h
     exact⟨zf,hq,h.symm⟩
    ·cases h
   |row g ls=>
    simp only[AAl,C1]at h;have zx:vs.length=ls.length:=by simpa[PM.ins]using zQ
    have hd:(vs++xu.flatten).drop ls.length=xu.flatten:=by rw[<-zx,AA7]
    rw[hd,C3 1 ls vs _ zx,Fj i 0 ls vs _ zx]at h;split at h
    ·rename_i zf hq;injection h with h
     exact⟨zf,hq,h.symm⟩
    ·cases h
  obtain⟨zf,hq,rfl⟩:=hex;simp only[ABH]at h1 h2;obtain⟨a1,a2,a3,a4,a5⟩:=L1 i pm vs s J J;obtain⟨b1,b2,b3,b4⟩:=Hd ps xu (i+1) (s.app (GR i pm vs)) ADo (λj pm' vs' hj zy=>hv (j+1) pm' vs' ADs (by simpa using zy)) hq (by rw[a1];omega) (by rw[a2];omega);rw[A3];grind
section
variable {P:Program}{w:World}{fz:Nat->Prop}{ps:List PM}{args:ADc}{xu:List (List Lv)}{bk:Nat->Nat}{om:Key->It}{N:Nat}{ws:List Wr}
open Classical in
noncomputable def FQ (ps:List PM) (w:World) (args:ADc) (bk:Nat->Nat) (r j:Nat):Option Value:=match ps[r]? with
 |some (.box _)=>w.cell? ⟨bk r,j,none⟩
 |some (.row g _)=>(args[r]?).bind λu=>A9 g u j
 |_=>none
noncomputable def HP (T:List (String×Array Value)) (ps:List PM) (w:World) (fz:Nat->Prop) (args:ADc) (bk:Nat->Nat) (om:Key->It):Ci:=
 {base:=w.heap.size,io:=λb=>∃k,b∈om k,fa:=fz,w0:=w,N2:=FQ ps w args bk,Ou:=bk,NI:=T }
noncomputable def Lc (ps:List PM) (w:World) (fz:Nat->Prop) (args:ADc) (bk:Nat->Nat) (om:Key->It):Wd:=
 {w:=w,fz:=fz,cv:=FQ ps w args bk,bk:=bk,om:=om }
theorem Mj.kinds{pm:PM}{u:Value}{vs:List Lv}{b:Nat}{own:Nat->It}(h:Mj w fz pm u vs b own):vs.length=pm.ins.length:=by
 cases pm with
 |val g ls=>have:=congrArg List.length h.1;simpa[PM.ins]using this
 |box ls=>have:=congrArg List.length h.2.1;simpa[PM.ins]using this
 |row g ls=>have:=congrArg List.length h.1;simpa[PM.ins]using this
 |fn f=>rw[h.2];rfl
theorem G8(n t:Nat):(blank n).slot t=one .bad:=by
 show nth _ (List.replicate n (one .bad)) t=_;rw[Ae,List.getElem?_replicate];split<;>rfl
theorem Dr(n t:Nat):(blank n).root t=dead:=by
 show nth _ (List.replicate n dead) t=_;rw[Ae,List.getElem?_replicate];split<;>rfl
theorem L2(xv:Dj ps w fz args xu bk om)(hp:C1 0 ps xu.flatten=some ws)(hN:ps.length<=N):Inv N ((blank N).app ws):=by
 obtain⟨b1,b2,b3,b4⟩:=Hd ps xu 0 (blank N) xv.Bb (λj pm vs hj hv=>by
  obtain⟨u,hu⟩:∃u,args[j]?=some u:=⟨_,AAM (by rw[xv.len];grind)⟩;exact(xv.each j pm u vs hj hu hv).kinds) hp (by simp[blank];exact hN) (by simp[blank];exact hN)
 simp only[AAd]at b3 b4;have hctr:((blank N).app ws).Bd=2:=Ir ws _
 have get:∀t,(∃pm vs,ps[t]?=some pm/\xu[t]?=some vs/\((blank N).app ws).slot t=DY t pm vs/\((blank N).app ws).root t=B0 pm vs dead)\/(((blank N).app ws).slot t=one .bad/\((blank N).app ws).root t=dead):=by
  intro t;rcases AAu t ps.length with xz|yx
  ·left;have h1:=AAM xz;have h2:=AAM (show t<xu.length by rw[xv.Bb];exact xz);obtain⟨c1,c2⟩:=b4 t _ _ h1 h2;rw[Dr]at c2;grind
  ·right;obtain⟨c1,c2⟩:=b3 t (.inr yx);rw[G8]at c1;rw[Dr]at c2;grind
 have nl:∀(ls:List (L×Nat)) (vs:List Lv),∀a∈AX 1 ls vs,(∀n∈a.AF,n=1)/\a.Ce=true:=by
  intro ls
  induction ls with
  |nil=>intro vs a ha;simp[AX]at ha
  |cons p ls ih=>
   intro vs a ha;cases vs with
   |nil=>simp[AX]at ha
   |cons x vs=>
    rcases AAj.1 (show a∈BI 1 p.2 x::AX 1 ls vs from ha)with rfl|ha
    ·exact Js 1 _ _
    grind
 have rt:∀(pm:PM)(vs:List Lv),((B0 pm vs dead).AB<2)/\∀a∈(B0 pm vs dead).ls,(∀n∈a.AF,n=1)/\a.Ce=true:=by
  intro pm vs;cases pm with
  |val g ls=>exact⟨by simp[B0,dead],λa ha=>by simp[B0,dead]at ha⟩
  |fn f=>exact⟨by simp[B0,dead],λa ha=>by simp[B0,dead]at ha⟩
  |box ls=>exact⟨by simp[B0],λa ha=>nl ls vs a ha⟩
  |row g ls=>exact⟨by simp[B0],λa ha=>nl ls vs a ha⟩
 refine⟨⟨λt n hn=>?_,λr n hn=>?_⟩,J,by rw[b1];simp[blank],by rw[b2];simp[blank],λr a ha=>?_⟩
 ·rw[hctr];rcases get t with⟨pm,vs,_,_,h1,_⟩|⟨h1,_⟩
  ·rw[h1]at hn;cases pm with
   |val g ls=>
    exfalso;simp only[DY,AV.AF,AAP,AAw]at hn;obtain⟨a,⟨x,_,rfl⟩,hn⟩:=hn;cases hn
   |fn f=>simp[DY,one,AV.AF,LA.AF]at hn
   |box ls=>simp[DY,one,AV.AF,LA.AF]at hn;omega
   |row g ls=>
    obtain⟨a,ha,hn⟩:=AAP.1 (show n∈(Az t 0 ls vs).flatMap LA.AF from hn);have:=Fk t 0 ls vs a ha n hn;omega
  ·rw[h1]at hn;simp[one,AV.AF,LA.AF]at hn
 ·rw[hctr];rcases get r with⟨pm,vs,_,_,_,h1⟩|⟨_,h1⟩
  ·rw[h1]at hn;rcases AAj.1 (show n∈(B0 pm vs dead).AB::(B0 pm vs dead).ls.flatMap LA.AF from hn)with rfl|hn
   all_goals grind
  ·rw[h1]at hn;simp[dead,Bv.AF]at hn;omega
 ·rcases get r with⟨pm,vs,_,_,_,h1⟩|⟨_,h1⟩
  ·grind
  ·rw[h1]at ha;simp[dead]at ha
theorem L3{T:List (String×Array Value)}(xv:Dj ps w fz args xu bk om)(hp:C1 0 ps xu.flatten=some ws)(hN:ps.length<=N):
  AW (HP T ps w fz args bk om) ((blank N).app ws) (args.toArray++Array.replicate (N-args.toArray.size) undef) (Lc ps w fz args bk om):=by
 obtain⟨b1,b2,b3,b4⟩:=Hd ps xu 0 (blank N) xv.Bb (λj pm vs hj hv=>by
  obtain⟨u,hu⟩:∃u,args[j]?=some u:=⟨_,AAM (by rw[xv.len];grind)⟩;exact(xv.each j pm u vs hj hu hv).kinds) hp (by simp[blank];exact hN) (by simp[blank];exact hN)
 simp only[AAd]at b3 b4
 have yP:(args.toArray++Array.replicate (N-args.toArray.size) undef).size=N:=by have:=xv.len;simp;omega
 have get:∀t,(∃pm u vs,ps[t]?=some pm/\args[t]?=some u/\xu[t]?=some vs/\((blank N).app ws).slot t=DY t pm vs/\((blank N).app ws).root t=B0 pm vs dead/\(args.toArray++Array.replicate (N-args.toArray.size) undef).getD t Go.undef=u) \/
   (ps[t]?=none/\((blank N).app ws).slot t=one .bad/\((blank N).app ws).root t=dead):=by
  intro t;rcases AAu t ps.length with xz|yx
  ·left;have h1:=AAM xz;have hlt2:t<args.length:=by rw[xv.len];exact xz
   have h0:=AAM hlt2;have h2:=AAM (show t<xu.length by rw[xv.Bb];exact xz);obtain⟨c1,c2⟩:=b4 t _ _ h1 h2;rw[Dr]at c2;refine⟨_,_,_,h1,h0,h2,c1,c2,?_⟩;rw[AAm,AA3 J];simp[hlt2]
  ·right;obtain⟨c1,c2⟩:=b3 t (.inr yx);rw[G8]at c1;rw[Dr]at c2;grind
 refine⟨by rw[b1,yP];simp[blank],by rw[b2,yP];simp[blank],λt=>?_,λr=>?_,?_,⟨λ_ _ _ _ _ _ _ _=>rfl,λ_ _ _=>rfl⟩⟩
 ·rcases get t with⟨pm,u,vs,h1,h2,h3,h4,h5,h6⟩|⟨_,h4,_⟩
  ·rw[h4,h6];have ha:=xv.each t pm u vs h1 h2 h3;cases pm with
   |val g ls=>
    obtain⟨a1,a2,a3⟩:=ha;have hlen:vs.length=ls.length:=by have:=congrArg List.length a1;simpa using this
    have yD:∀(j:Nat)(lv:Lv),vs[j]?=some lv->∃y,A9 g u j=some y/\lv.l.rd 0 w fz y lv.x []:=by
     intro j lv hj;have xz:j<ls.length:=by rw[<-hlen];exact(AAO.1 hj).1
     exact a3 j (ls[j],0) lv (by simp[xz]) hj
    cases g with
    |false=>
     have zx:vs.length=1:=by rw[hlen];simpa using a2
     obtain⟨lv,rfl⟩:∃lv,vs=[lv]:=by
      match vs,zx with
      | [x],_=>grind
     obtain⟨y,hy,hr⟩:=yD 0 lv rfl;simp[A9]at hy;subst hy;exact hr
    |true=>
     obtain⟨cs,rfl,hcs⟩:=a2;refine⟨cs,rfl,No,λj a hj=>?_⟩;simp only[AAe]at hj;cases hq:vs[j]? with
     |none=>grind
     |some lv=>
      rw[hq]at hj;injection hj with hj;subst hj
      obtain⟨y,hy,hr⟩:=yD j lv hq;exact⟨y,hy,hr⟩
   |box ls=>exactλ_ _=>ha.1
   |row g ls=>
    obtain⟨a1,a2,a3⟩:=ha;have hlen:vs.length=ls.length:=by have:=congrArg List.length a1;simpa using this
    have xt:∀(j:Nat)(p:L×Nat)(lv:Lv),ls[j]?=some p->vs[j]?=some lv->((blank N).app ws).leaf t j=BI 1 p.2 lv:=by intro j p lv p1 p2;show nth LA.bad (((blank N).app ws).root t).ls j=_;rw[h5];show nth LA.bad (AX 1 ls vs) j=_;rw[Ae,Bs 1 ls vs j _ _ p1 p2];rfl
    have yh:∀(j:Nat)(a:LA),(Az t 0 ls vs)[j]?=some a->∃y,A9 g u j=some y/\AT ((blank N).app ws) (Lc ps w fz args bk om) a y:=by
     intro j a hj;have xz:j<ls.length:=by rw[<-DH t 0 ls vs hlen];exact(AAO.1 hj).1
     have p1:=AAM xz;have p2:=AAM (show j<vs.length by omega);obtain⟨y,hy,hr⟩:=a3 j _ _ p1 p2;refine⟨y,hy,?_⟩;rw[Gc t 0 ls vs j _ _ p1 p2]at hj;injection hj with hj
     subst hj
     have zx:vs[j].l=ls[j].1:=by have:=congrArg (λx=>x[j]?) a1;simpa[p1,p2]using this
     split
     ·intro gen t2 e2 xs2 d2 hl _;have hl:((blank N).app ws).leaf t (0+j)=_:=hl;rw[AAd,xt j _ _ p1 p2]at hl;refine⟨y,e2,?_,rfl,rfl⟩;show FQ ps w args bk t (0+j)=some y;simp[FQ,h1,h2,hy]
     ·rename_i hs;have:=(L.AY (d':=0) (w':=w) (xy:=fz) vs[j].l No hr);have h7:=this.1;rw[show(λj=>om (Key.lf t j)) j=[]from this.2]at h7;exact h7
    cases g with
    |false=>
     obtain⟨a,ha2⟩:∃a,Az t 0 ls vs=[a]:=by
      have:=(DH t 0 ls vs hlen).trans a2
      match h:Az t 0 ls vs,this with
      | [x],_=>grind
     show Ez _ _ false (Az t 0 ls vs) u;obtain⟨y,hy,hr⟩:=yh 0 a (by rw[ha2];rfl);simp[A9]at hy;subst hy;rw[ha2];exact hr
    |true=>
     obtain⟨cs,rfl,hcs⟩:=a2;exact⟨cs,rfl,by rw[hcs,DH t 0 ls vs hlen],λj a hj=>yh j a hj⟩
   |fn f=>exact ha.1
  ·rw[h4];trivial
 ·have zl:(∀ls,ps[r]?≠some (.box ls))->(∀g ls,ps[r]?≠some (.row g ls))->D7 ((blank N).app ws) (Lc ps w fz args bk om) r dead:=by
   intro q1 q2;refine⟨λj=>?_,?_⟩
   ·have:nth LA.bad dead.ls j=.bad:=by simp[dead,nth]
    rw[this];exact⟨xv.none r q1 q2 j,λ_ _=>trivial⟩
   ·show om (.blk r)=[];rw[xv.blk];split
    ·rename_i ls hq;exact absurd hq (q1 ls)
    ·rfl
  rcases get r with⟨pm,u,vs,h1,h2,h3,h4,h5,h6⟩|⟨h1,_,h5⟩
  ·rw[h5];have ha:=xv.each r pm u vs h1 h2 h3;cases pm with
   |val g ls=>exact zl (λls' hq=>by rw[h1]at hq;cases hq) (λg ls hq=>by rw[h1]at hq;cases hq)
   |fn f=>exact zl (λls' hq=>by rw[h1]at hq;cases hq) (λg ls hq=>by rw[h1]at hq;cases hq)
   |box ls=>
    obtain⟨a1,a2,arr,T,fr,a3,a4,a5,a6⟩:=ha;have hlen:vs.length=ls.length:=by have:=congrArg List.length a2;simpa using this
    have yW:∀j,FQ ps w args bk r j=arr[j]?:=by intro j;simp[FQ,h1,World.cell?,a3]
    refine⟨λj=>?_,?_⟩
    ·show Aa _ _ (nth .bad (AX 1 ls vs) j) (FQ ps w args bk r j) (om (.lf r j));rcases AAu j ls.length with xz|yx
     ·have p1:=AAM xz;have p2:=AAM (show j<vs.length by omega);obtain⟨y,hy,hr⟩:=a6 j _ _ p1 p2;rw[Ae,Bs 1 ls vs j _ _ p1 p2,yW,hy];exact FA (W':=Lc ps w fz args bk om) hr
     ·rw[Au _ (by rw[BZ 1 ls vs hlen];exact yx)];exact⟨xv.box r ls h1 j yx,λ_ _=>trivial⟩
    ·show(if true=true then _ else _);rw[AAS rfl];refine⟨?_,arr,T,fr,a3,a4,?_,λj=>yW j⟩
     ·show om (.blk r)=[bk r];rw[xv.blk,h1]
     ·show arr.size=(AX 1 ls vs).length;rw[BZ 1 ls vs hlen,a5]
   |row g ls=>
    obtain⟨a1,a2,a3⟩:=ha;have hlen:vs.length=ls.length:=by have:=congrArg List.length a1;simpa using this
    refine⟨λj=>?_,?_⟩
    ·show Aa _ _ (nth .bad (AX 1 ls vs) j) (FQ ps w args bk r j) (om (.lf r j));rcases AAu j ls.length with xz|yx
     ·have p1:=AAM xz;have p2:=AAM (show j<vs.length by omega);obtain⟨y,hy,hr⟩:=a3 j _ _ p1 p2;rw[Ae,Bs 1 ls vs j _ _ p1 p2,show FQ ps w args bk r j=some y by simp[FQ,h1,h2,hy]];exact FA (W':=Lc ps w fz args bk om) hr
     ·rw[Au _ (by rw[BZ 1 ls vs hlen];exact yx)];exact⟨xv.row r g ls h1 j yx,λ_ _=>trivial⟩
    ·show om (.blk r)=[];rw[xv.blk,h1]
  grind
 ·exact {
   nodup:=xv.nodup
   A4:=xv.A4
   own:=λk b hb=>⟨(xv.own k b hb).1,(xv.own k b hb).2,.inr ⟨k,hb⟩⟩
   fz:=λb hb=>⟨xv.fz b hb,.inl hb⟩
   frame:=λ_ _ _=>rfl
   size:=AAi _
   rest:=⟨rfl,rfl,rfl⟩ }
end
end Go.Ev
namespace Go.Ev
theorem Gb{P:Program}{fn:Func}{tm:Array Value}{w:World}{vals:ADc}(h:JQ P w tm fn.results.toList vals):(results fn tm).run P w=.ok (KW vals) w:=by
 have key:∀(g:ResultVar->Sem Value),(∀t,g (.tmp t)=pure (tm.getD t undef))->(∀t T,g (.cell t T)=(do loadVar T (<-asAddr (tm.getD t undef))))->∀(l:List ResultVar)(vals:ADc),JQ P w tm l vals->(l.mapM g).run P w=.ok vals w:=by
  intro g hg hg2 l
  induction l with
  |nil=>
   intro vals hl;cases vals with
   |nil=>rfl
   |cons v vs=>exact hl.elim
  |cons v l ih=>
   intro vals hl;cases vals with
   |nil=>cases v<;>exact hl.elim
   |cons u us=>
    rw[List.mapM_cons,Sem.run_bind];cases v with
    |tmp t=>
     obtain⟨rfl,hl⟩:=hl;rw[hg];simp[Sem.run_bind,ih us hl]
    |cell a t=>
     obtain⟨h1,hl⟩:=hl;rw[hg2,h1];simp[Sem.run_bind,ih us hl]
 unfold results;rw[Array.mapM_eq_mapM_toList];simp only[map_eq_pure_bind,bind_assoc,pure_bind];rw[Sem.run_bind,key _ ?h1 ?h2 _ vals h]
 case h1=>intro t;rfl
 case h2=>grind
 show Result.ok _ w=_;congr 1
 match vals with
 | []=>rfl
 | [u]=>rfl
 |u::v::l=>simp[KW]
section
variable {P:Program}{ty:TypeId->Option Ty}{env:Env}{an:An}{n:Nat}{sm:Sm}{fn:Func}{f:FuncId}{c:Code}
theorem M9{T:List (String×Array Value)}{w:World}{fz:Nat->Prop}{args:ADc}{xu:List (List Lv)}{bk:Nat->Nat}{om:Key->It}{s:St}{W:Wd}{tm:Array Value}{z:sm.outs.D}
  (xv:Dj sm.ps w fz args xu bk om) (h:AW (HP T sm.ps w fz args bk om) s tm W) (zv:∀t x,ty t=some x->NN P t x) (hz:Hw ty sm fn.results.toList xu.flatten s=some z):
  ∃r yg rv vsR vsP,(results fn tm).run P W.w=.ok r W.w/\FH sm w fz args bk om z r W.w W.fz yg rv vsR vsP:=by
 unfold Hw at hz;obtain⟨tt,hl,hpk⟩:=Step.Cp _ hz;obtain⟨vals,vsR,us1,osR,hl,zg,hrv,zS⟩:=G5 zv h sm.rs fn.results.toList hl
 obtain⟨vsP,us2,osP,hl,hlp,zR,hb2,hps⟩:=IK h 0 sm.ps xu xv.Bb (λj pm vs hj hv=>by
  obtain⟨u,hu⟩:∃u,args[j]?=some u:=⟨_,AAM (by rw[xv.len];grind)⟩;exact(xv.each j pm u vs hj hu hv).kinds) hl
 have hl:vsR.flatten++vsP.flatten=tt:=hl;subst hl;have hbl:=zg.append hb2;have hpair:=hbl.pair h.sep.A4;have zG:=hbl.nodup;have hmem:=hbl.mem;rw[List.pairwise_append]at hpair;obtain⟨hp1,hp2,hp12⟩:=hpair;rw[List.pairwise_flatten]at hp2;obtain⟨hp2,hp3⟩:=hp2
 let yg:Key->It
  | .fl k=>(osR[k]?).getD []
  | .lf i j=>(((osP[i]?).getD [])[j]?).getD []
  | .blk i=>om (.blk i)
 have inR:∀k,∀b∈yg (.fl k),∃o,osR[k]?=some o/\b∈o:=by
  intro k b hb;have hb:b∈(osR[k]?).getD []:=hb;cases hq:osR[k]? with
  |none=>grind
  |some o=>grind
 have inP:∀i j,∀b∈yg (.lf i j),∃os o,osP[i]?=some os/\os[j]?=some o/\b∈o:=by
  intro i j b hb;have hb:b∈(((osP[i]?).getD [])[j]?).getD []:=hb;cases hq:osP[i]? with
  |none=>grind
  |some os=>
   grind
 have memP:∀ {i j:Nat} {os:List It} {o:It},osP[i]?=some os->os[j]?=some o->o∈osP.flatten:=λh1 h2=>List.mem_flatten.2 ⟨_,AAR h1,AAR h2⟩
 have blkW:∀i,∀b∈om (.blk i),W.om (.blk i)=om (.blk i):=by
  intro i b hb;have hk:=xv.blk i;cases hq:sm.ps[i]? with
  |none=>grind
  |some pm=>
   rw[hq]at hk;cases pm with
   |box ls=>
    have xz:i<sm.ps.length:=(AAO.1 hq).1;have hpb:=hps i (.box ls) _ _ _ hq (AAM (by rw[xv.Bb];exact xz)) (AAM J) (AAM J);rw[AAd]at hpb;obtain⟨b1,b2,_⟩:=hpb;have h2:=(h.roots i).2;rw[AAS b1]at h2;rw[h2.1,h.init.2 i b1 b2,hk];rfl
   |val g ls=>grind
   |row g ls=>grind
   |fn f=>grind
 have from':∀k,∀b∈yg k,∃k0,b∈W.om k0/\((∃i,k0=.blk i/\k=.blk i)\/∃r j,k0=.lf r j):=by
  intro k b hb;cases k with
  |fl k=>
   grind
  |lf i j=>
   grind
  |blk i=>
   grind
 have hrx:=Gb hrv;refine⟨_,yg,vals,vsR,vsP,hrx,?_⟩
 refine {
  outs:=Ay _ _ _ hpk
  res:=rfl
  J1:=zS 0 _ λj hj=>No
  len:=hlp
  each:=?_
  blk:=λ_=>rfl
  nodup:=?_
  A4:=?_
  own:=?_
  fz:=λb hb=>h.sep.fz b hb |>.imp id λhh=>hh.imp id id
  frame:=λb hb hk=>h.sep.frame b hb λ⟨k,hh⟩=>hk k hh
  size:=h.sep.size
  rest:=h.sep.rest
  kept:=?_ }
 rotate_right
 ·intro i ls j p h1 h2 h3;have xz:i<osP.length:=by rw[zR];exact(AAO.1 h1).1
  have hv0:=AAM (show i<xu.length by rw[xv.Bb];omega);have hv1:=AAM (show i<vsP.length by omega);have hpb:=hps i (.box ls) _ _ _ h1 hv0 hv1 (AAM xz);rw[AAd]at hpb;obtain⟨b1,b2,b3,b4,b5,b6,b7⟩:=hpb;have hq:=b7 j p h2 h3;rw[h.init.2 i b1 b2]at hq;have hq:W.w.cell? ⟨bk i,j,none⟩=FQ sm.ps w args bk i j:=hq;rw[hq];simp only[FQ,h1]
 ·intro i pm u vs h1 h2 h3;have xz:i<osP.length:=by rw[zR];exact(AAO.1 h1).1
  have hos:=AAM xz;obtain⟨vs0,hv0⟩:∃vs0,xu[i]?=some vs0:=⟨_,AAM (by rw[xv.Bb];omega)⟩;have hpb:=hps i pm vs0 vs _ h1 hv0 h3 hos;rw[AAd]at hpb;have ha:=xv.each i pm u vs0 h1 h2 hv0
  have hom:∀j,yg (.lf i j)=(osP[i][j]?).getD []:=by intro j;show(((osP[i]?).getD [])[j]?).getD []=_;rw[hos];rfl
  cases pm with
  |val g ls=>exact hpb.1
  |fn f=>exact hpb.1
  |box ls=>
   obtain⟨b1,b2,b3,b4,b5,b6,_⟩:=hpb;have h2':=(h.roots i).2;rw[AAS b1]at h2';obtain⟨q1,arr,T,fr,q2,q3,q4,q5⟩:=h2';have hbk:W.bk i=bk i:=h.init.2 i b1 b2;rw[hbk]at q2;refine⟨ha.1,b4,arr,T,fr,q2,q3,by rw[q4,b3],λj p lv hj hv=>?_⟩;obtain⟨y,hy,hr⟩:=b6 j p lv hj hv;refine⟨y,?_,?_⟩
   ·rw[hbk]at hy;simpa[World.cell?,q2]using hy
   grind
  |row g ls=>
   obtain⟨a1,a2,a3⟩:=ha;obtain⟨b1,b2,b3⟩:=hpb;have hlen0:vs0.length=ls.length:=by have:=congrArg List.length a1;simpa using this
   have hkey:∀(j:Nat)(p:L×Nat)(lv:Lv),ls[j]?=some p->vs[j]?=some lv->lv.l=p.1/\∃y,A9 g u j=some y/\lv.l.rd p.2 W.w W.fz y lv.x (yg (.lf i j)):=by
    intro j p lv hj hv;rw[hom];rcases b3 j p lv hj hv with⟨_,c2,y,hy,hr⟩|⟨c1,c2,c3⟩
    ·refine⟨c2,y,?_,hr⟩;have hy:FQ sm.ps w args bk i j=some y:=hy;simpa[FQ,h1,h2]using hy
    ·obtain⟨y,hy,hr⟩:=a3 j p lv hj c2
     have hl:lv.l=p.1:=by have:=congrArg (λx=>x[j]?) a1;simpa[hj,c2]using this
     have hfl:=L.AY (d':=p.2) (w':=W.w) (xy:=W.fz) lv.l (by rw[hl];exact c1) hr;have h7:=hfl.1;rw[show(λj=>om (Key.lf i j)) j=[]from hfl.2]at h7;refine⟨hl,y,hy,?_⟩;rw[c3];exact h7
   refine⟨?_,a2,λj p lv hj hv=>(hkey j p lv hj hv).2⟩;apply List.ext_getElem?;grind
 ·intro k;cases k with
  |fl k=>
   grind
  |lf i j=>
   grind
  |blk i=>exact xv.nodup _
 ·intro k k' yF b hb yH
  have cross:∀i (k0:Key),(∀i,k0≠.blk i)->b∈yg (.blk i)->b∈yg k0->False:=by
   intro i k0 hk h1 h2;have h1:b∈om (.blk i):=h1;have h3:b∈W.om (.blk i):=by rw[blkW i b h1];exact h1
   obtain⟨k1,h4,h5⟩:=from' k0 b h2;rcases h5 with⟨i',_,h5⟩|⟨r,j,rfl⟩
   ·grind
   ·exact h.sep.A4 _ _ so b h3 h4
  cases k with
  |blk i=>cases k' with
   |blk i'=>exact xv.A4 _ _ yF b hb yH
   |lf i' j'=>exact cross i (.lf i' j') so hb yH
   |fl k'=>exact cross i (.fl k') so hb yH
  |lf i j=>cases k' with
   |blk i'=>exact cross i' (.lf i j) so yH hb
   |lf i' j'=>
    obtain⟨os,o,h1,h2,hb⟩:=inP i j b hb;obtain⟨yq,o',zT,h2',hc⟩:=inP i' j' b yH;by_cases hi:i=i'
    ·subst hi;rw[h1]at zT;injection zT with zT;subst zT
     have hj:j≠j':=λe=>yF (by rw[e]);exact JF (λ_ _=>Ex.symm) (hp2 os (AAR h1)) hj h2 h2' b hb hc
    ·have:=JF (R:=λl₁ l₂=>∀x,x∈l₁->∀y,y∈l₂->Ex x y) (λa c hh x hx y hy=>(hh y hy x hx).symm) hp3 hi h1 zT;exact this o (AAR h2) o' (AAR h2') b hb hc
   |fl k'=>
    obtain⟨os,o,h1,h2,hb⟩:=inP i j b hb;obtain⟨o',zT,yH⟩:=inR k' b yH;exact hp12 o' (AAR zT) o (memP h1 h2) b yH hb
  |fl k=>cases k' with
   |blk i'=>exact cross i' (.fl k) so yH hb
   |lf i' j'=>
    obtain⟨os,o,h1,h2,yH⟩:=inP i' j' b yH;obtain⟨o',zT,hb⟩:=inR k b hb;exact hp12 o' (AAR zT) o (memP h1 h2) b hb yH
   |fl k'=>
    obtain⟨o,h1,hb⟩:=inR k b hb;obtain⟨o',zT,yH⟩:=inR k' b yH;exact JF (λ_ _=>Ex.symm) hp1 (λe=>yF (by rw[e])) h1 zT b hb yH
 ·intro k b hb;obtain⟨k0,h1,_⟩:=from' k b hb;exact h.sep.own k0 b h1
theorem Nt{T:List (String×Array Value)}{w:World}{fz:Nat->Prop}{args:ADc}{xu:List (List Lv)}{bk:Nat->Nat}{om:Key->It}{s:St}{W:Wd}{tm:Array Value}{z:sm.outs.D}{v:Nat}
  (xv:Dj sm.ps w fz args xu bk om) (h:AW (HP T sm.ps w fz args bk om) s tm W) (hv:Aj s v) (zv:∀t x,ty t=some x->NN P t x) (hmk:sm.mk?=false) (hz:DF ty sm fn.results.toList xu.flatten s=some z):
  ∃r xy yg rv vsR vsP,(results fn tm).run P W.w=.ok r W.w/\FH sm w fz args bk om z r W.w xy yg rv vsR vsP:=by
 unfold DF at hz;rw[hmk]at hz;simp only[ABO,if_false]at hz;split at hz
 ·rename_i fs zn;obtain⟨W1,h1,fr,_⟩:=Ea h hv zn;obtain⟨r,yg,rv,vsR,vsP,q1,q2⟩:=M9 (P:=P) (fn:=fn) xv h1 zv hz;rw[fr.w]at q1 q2;grind
 ·cases hz
theorem Hs:∀(ls:List L)(as:List LA) {vs:List Lv},DD ls as=some vs->vs.map (·.l)=ls/\as.length=ls.length/\∀(j:Nat)(lv:Lv),vs[j]?=some lv->as[j]?=some (.sc lv.l lv.x)
 | [],[],vs,h=>by simp only[DD,Option.some.injEq]at h;grind
 |l::ls,a::as,vs,h=>by
  cases a with
  |sc m x=>
   simp only[DD]at h;split at h
   ·rename_i y ys hc hr;injection h with h
    subst h;obtain⟨h1,h2,h3⟩:=Hs ls as hr;obtain⟨rfl,hxy⟩:=L.AH hc;grind
   ·cases h
  |_=>simp[DD]at h
 | [],_::_,vs,h=>by simp[DD]at h
 |_::_,[],vs,h=>by simp[DD]at h
theorem Ns{T:List (String×Array Value)}{w:World}{fz:Nat->Prop}{args:ADc}{xu:List (List Lv)}{bk:Nat->Nat}{om:Key->It}{s:St}{W:Wd}{tm:Array Value}{z:sm.outs.D}
  (xv:Dj sm.ps w fz args xu bk om) (h:AW (HP T sm.ps w fz args bk om) s tm W) (hmk:sm.mk?=true) (hz:DF ty sm fn.results.toList xu.flatten s=some z):
  ∃r b,(results fn tm).run P W.w=.ok r W.w/\Lh sm w fz z r W.w W.fz b:=by
 unfold DF at hz;rw[hmk,AAS rfl]at hz;unfold NS at hz;split at hz
 ·rename_i t hrv;split at hz
  ·rename_i r AB hslot;split at hz
   ·rename_i hc;simp only[AAN,AAX]at hc;obtain⟨⟨hpl,yc⟩,yB⟩:=hc;split at hz
    ·rename_i vs hvs;have hu:=h.AM t;rw[hslot]at hu;have hu:tm.getD t Go.undef=.pointer (some ⟨W.bk r,0,none⟩):=hu yc yB;obtain⟨p1,p2,p3⟩:=Hs _ _ hvs;have ya:=h.roots r;obtain⟨hl,hb⟩:=ya;rw[AAS yc]at hb;obtain⟨yR,arr,T0,fr,yV,yw,yP,yW⟩:=hb;unfold Sm.plain at hpl;simp only[AAN]at hpl
     have zw:∀pm∈sm.ps,∃g ls,pm=.val g ls:=λpm hpm=>by
      have:=AAZ.1 hpl.1 pm hpm;cases pm with
      |val g ls=>grind
      |_=>cases this
     have zl:∀k,om k=[]:=by
      intro k;cases k with
      |fl n=>exact xv.fl n
      |blk i=>
       rw[xv.blk i];cases hq:sm.ps[i]? with
       |none=>rfl
       |some pm=>obtain⟨g,ls,rfl⟩:=zw pm (AAR hq);rfl
      |lf i j=>
       refine xv.none i (λls hq=>?_) (λg ls hq=>?_) j
       ·obtain⟨g,ls,hh⟩:=zw _ (AAR hq);cases hh
       ·obtain⟨g,ls,hh⟩:=zw _ (AAR hq);cases hh
     have hio:∀b,¬(∃k,b∈om k):=λb ⟨k,hb⟩=>No
     have hown:=h.sep.own (.blk r) (W.bk r) No;have yK:=Gb (fn:=fn) (P:=P) (w:=W.w) (tm:=tm) (vals:=[tm.getD t Go.undef]) (by rw[hrv];exact⟨rfl,trivial⟩);refine⟨_,W.bk r,yK,?_⟩;have zt:unpack sm.outs z=vs:=Ay _ _ _ hz
     exact {
      box:=by
       rw[zt];refine⟨hu,p1,arr,T0,fr,yV,yw,No,λj p lv hj zM=>?_⟩;have hlf:=p3 j lv zM;have hlj:=hl j;rw[Ae,hlf]at hlj;have hjl:j<arr.size:=by rw[yP];exact(AAO.1 hlf).1
       have harr:arr[j]?=some arr[j]:=AAk hjl;refine⟨arr[j],harr,?_⟩;have hp:p.2=0:=by simpa using AAZ.1 hpl.2 p (AAR hj)
       rw[hp];exact hlj.2 _ No
      new:=⟨hown.2.2.elim id λh=>(hio _ h).elim,hown.2.1,hown.1⟩
      fz:=λx hx=>by
       obtain⟨a1,a2⟩:=h.sep.fz x hx;refine⟨a1,?_⟩;rcases a2 with a2|a2|a2
       ·exact .inl a2
       ·exact .inr a2
       ·exact(hio _ a2).elim
      frame:=λx hx=>h.sep.frame x hx (hio x)
      size:=h.sep.size
      rest:=h.sep.rest }
    ·cases hz
   ·cases hz
  ·cases hz
 ·cases hz
theorem OG{T:List (String×Array Value)}(hf:P.funcs[f]?=some fn)(hb:fn.body=some c)(hlen:sm.ps.length<=fn.ntmps)(zv:∀t x,ty t=some x->NN P t x)(yM:JM P T env)(hm:P.follows .mixedOrders=true):
  JN P T f ⟨sm,Lx ty env an n fn sm⟩:=by
 intro args w fz xu bk om x z hgnd xv hx hz;have hz:Lx ty env an n fn sm x=some z:=hz;have hu:unpack sm.ins x=xu.flatten:=Ay _ _ _ hx;simp only[Lx,hb,hu]at hz;cases hp:C1 0 sm.ps xu.flatten with
 |none=>grind
 |some ws=>
  rw[hp]at hz;dsimp only at hz;split at hz
  ·cases hz
  ·rename_i yI;have yI:codeOk fn.ntmps c=true:=by simpa using yI
   refine calls_of_wp hf hb ?_;have xw:=L3 (T:=T) xv hp hlen;have hinv:=L2 (N:=fn.ntmps) xv hp hlen;have hcl:Claim P (HP T sm.ps w fz args bk om) fn.ntmps an n (DF ty sm fn.results.toList xu.flatten) c:=(Mt hm c).1
   have fin:∀ {s':St} {a':Act} {W':Wd} {z':sm.outs.D},a'.defers=[]->AW (HP T sm.ps w fz args bk om) s' a'.tmps W'->Inv fn.ntmps s'->DF ty sm fn.results.toList xu.flatten s'=some z'->bodyPost P fn (λen w'=>match sm.mk? with
     |false=>∃r xy yg rv vsR vsP,en=.returned r/\FH sm w fz args bk om z' r w' xy yg rv vsR vsP
     |true=>∃r xy b,en=.returned r/\Lh sm w fz z' r w' xy b) .ret a' W'.w:=by
    intro s' a' W' z' hd hr hi hq;cases hmk:sm.mk? with
    |false=>
     obtain⟨r,xy,yg,rv,vsR,vsP,h1,h2⟩:=Nt (P:=P) (fn:=fn) xv hr (hi.AF.Hk (v:=s'.Bd) (Nat.lt_irrefl _) (by have:=hi.two;omega)) zv hmk hq;exact⟨hd,r,h1,r,xy,yg,rv,vsR,vsP,rfl,h2⟩
    |true=>
     obtain⟨r,b,h1,h2⟩:=Ns (P:=P) (fn:=fn) xv hr hmk hq;exact⟨hd,r,h1,r,W'.fz,b,rfl,h2⟩
   refine hcl (W:=Lc sm.ps w fz args bk om) (a:=⟨_,[]⟩) (Q:=bodyPost P fn _) ?_ (show C7 P (HP T sm.ps w fz args bk om) env from⟨yM,hgnd⟩) yI (λ_ _=>⟨rfl,rfl⟩) xw hinv hz ?_ ?_ ?_
   ·exact zv
   ·intro s' a' W' hd hr hi hk hq;exact fin hd hr hi hq
   all_goals grind
end
end Go.Ev
namespace Go.Ev
mutual
def L.fit:(l:L)->l.D->Prop
 | .int k,x=>k.min<=(show Int from x)/\(show Int from x)<=k.max
 | .bool,_=>True
 | .str,x=>List.length (α:=UInt8) x<=maxLen
 | .sl _ e,x=>List.length (α:=e.D) x<=maxLen/\∀y,List.Mem (α:=e.D) y x->e.fit y
def Ls.fit:(ls:Ls)->ls.D->Prop
 | .nil,_=>True
 | .one l,x=>l.fit x
 | .cons l ls,x=>l.fit x.1/\ls.fit x.2
end
theorem MB:∀ls:List L,(Ek ls).n=ls.length
 | []=>rfl
 | [_]=>rfl
 |_::m::r=>by simp only[Ek,Ls.n,MB (m::r),ABH]
theorem Dx:∀ls:List L,(Ek ls).kinds=ls
 | []=>rfl
 | [_]=>rfl
 |_::m::r=>by simp only[Ek,Ls.kinds,Dx (m::r)]
mutual
theorem L.Cw:∀l:L,L.eq? l l=true
 | .int _=>by simp[L.eq?]
 | .bool=>rfl
 | .str=>rfl
 | .sl t e=>by simp[L.eq?,Ls.Cw e]
theorem Ls.Cw:∀e:Ls,Ls.eq? e e=true
 | .nil=>rfl
 | .one l=>by simp[Ls.eq?,L.Cw l]
 | .cons l ls=>by simp[Ls.eq?,L.Cw l,Ls.Cw ls]
end
theorem Gq:∀(e:Ls)(vs:List Lv),vs.map (·.l)=e.kinds->∃x:e.D,pack e vs=some x/\((∀(j:Nat)(lv:Lv),vs[j]?=some lv->lv.l.fit lv.x)->e.fit x)
 | .nil,[],_=>⟨(),rfl,λ_=>trivial⟩
 | .nil,_::_,h=>by simp[Ls.kinds]at h
 | .one l,[],h=>by simp[Ls.kinds]at h
 | .one l,[v],h=>by simp[Ls.kinds]at h;subst h;refine⟨v.x,?_,λhf=>hf 0 v rfl⟩;have he:L.eq? v.l v.l=true:=L.Cw v.l;simp only[pack,L.cast,he,dif_pos];rfl
 | .one l,_::_::_,h=>by simp[Ls.kinds]at h
 | .cons l ls,[],h=>by simp[Ls.kinds]at h
 | .cons l ls,v::vs,h=>by simp only[Ls.kinds,ABI,List.cons.injEq]at h;obtain⟨h1,h2⟩:=h;subst h1;obtain⟨xs,hx,hf⟩:=Gq ls vs h2;have he:L.eq? v.l v.l=true:=L.Cw v.l;refine⟨(v.x,xs),?_,λhh=>⟨hh 0 v rfl,hf λj lv hj=>hh (j+1) lv No⟩⟩;simp only[pack,L.cast,he,dif_pos,hx]
def Jl(P:Program)(r:TypeId->Option (List L)):Nat->List Field->Option (List L)
 |_,[]=>some []
 |off,f::fs=>match f.offset==off,r f.type with
  |true,some ls=>match P.cellsOf f.type==ls.length,Jl P r (off+ls.length) fs with
   |true,some ms=>some (ls++ms)
   |_,_=>none
  |_,_=>none
def lay(P:Program):Nat->TypeId->Option (List L)
 |0,_=>none
 |k+1,t=>match P.underlying t with
  |some .bool=>some [.bool]
  |some (.int k)=>some [.int k]
  |some .string=>some [.str]
  |some (.slice e)=>match lay P k e with
   |some ls=>match P.cellsOf e==ls.length,ls with
    |true,l::ls=>some [.sl e (Ek (l::ls))]
    |_,_=>none
   |none=>none
  |some (.struct fs)=>match Jl P (lay P k) 0 fs.toList with
   |some ls=>match P.cellsOf t==ls.length with
    |true=>some ls
    |false=>none
   |none=>none
  |_=>none
def Old(w:World)(b:Nat):Prop:=b<w.heap.size
section
variable {H:Type}{enc:TypeId×Value->H}{P:Program}{w:World}{base:Nat}{held:Bool}
def Holds(w:World)(ls:List L)(cs:ADc):Prop:=cs.length=ls.length/\∃vs:List Lv,vs.map (·.l)=ls/\∀(j:Nat)(lv:Lv),vs[j]?=some lv->∃v,cs[j]?=some v/\lv.l.rd 0 w (Old w) v lv.x []/\lv.l.fit lv.x
theorem Holds.append{ls ms:List L}{cs ds:ADc}(h1:Holds w ls cs)(h2:Holds w ms ds):Holds w (ls++ms) (cs++ds):=by
 obtain⟨a1,vs,a2,a3⟩:=h1;obtain⟨b1,us,b2,b3⟩:=h2;have hl:vs.length=cs.length:=by have:=congrArg List.length a2;simp at this;omega
 refine⟨by simp[a1,b1],vs++us,by simp[a2,b2],λj lv hj=>?_⟩;grind
theorem Holds.elem{e:Ls}{cs:ADc}(h:Holds w e.kinds cs):∃x:e.D,e.rd 0 w (Old w) (λj=>cs[j]?) x []/\e.fit x:=by
 obtain⟨_,vs,h1,h2⟩:=h;obtain⟨x,hx,hf⟩:=Gq e vs h1;refine⟨x,Cj e λj lv hj=>?_,hf λj lv hj=>?_⟩
 ·rw[Ay e vs x hx]at hj;obtain⟨v,hv,hr,_⟩:=h2 j lv hj;exact⟨v,hv,hr⟩
 grind
theorem Jm{r:TypeId->Option (List L)}{cs:ADc}:∀(fs:List Field)(off:Nat) {ls:List L},Jl P r off fs=some ls->off+ls.length=cs.length->
  (∀(i:Nat)(f:Field)(ms:List L),fs[i]?=some f->r f.type=some ms->Holds w ms ((cs.drop f.offset).take (P.cellsOf f.type)))->Holds w ls (cs.drop off)
 | [],off,ls,h,hl,hf=>by
  simp only[Jl,Option.some.injEq]at h;subst h;have:cs.drop off=[]:=by simp at hl;simp;omega
  rw[this];exact⟨rfl,[],rfl,λj lv hj=>ADr⟩
 |f::fs,off,ls,h,hl,hf=>by
  simp only[Jl]at h;split at h
  ·rename_i ls1 hoff hr;have hoff:f.offset=off:=by simpa using hoff
   split at h
   ·rename_i ms hc yO;injection h with h
    subst h;have hc:P.cellsOf f.type=ls1.length:=ADt
    have h1:=hf 0 f ls1 rfl hr;rw[hoff,hc]at h1;have h2:=Jm fs (off+ls1.length) yO No λi f' ms' hi yi=>hf (i+1) f' ms' No yi;have:=h1.append h2;rw[<-List.drop_drop,List.take_append_drop]at this;exact this
   ·cases h
  ·cases h
theorem JZ{a:Addr}{n i:Nat}{cs:ADc}(hn:0<n)(hs:a.spot=none)(h:w.cells? base (a.add (i*n)) n=some cs):cs.length=n/\∀j,j<n->w.cell? ⟨a.block,a.off+(i*n+j),none⟩=cs[j]?:=by obtain⟨_,h1,h2⟩:=World.cells?_some h;refine⟨h1,λj hj=>?_⟩;rw[<-h2 j hj,E0 hs];have:(at_ a (i*n)).spot=none:=rfl;rw[E0 this];simp[at_,Nat.add_assoc]
theorem LX{a:Addr}{n:Nat}{cs:ADc}(hn:0<n)(h:w.cells? base (a.add (0*n)) n=some cs):a.spot=none:=by
 obtain⟨_,h1,h2⟩:=World.cells?_some h;have:=h2 0 hn;rw[show cs[0]?=some (cs[0]'(by omega))from AAM _]at this;simp only[Nat.zero_mul,Addr.add,AAS]at this;unfold World.cell? at this;split at this
 ·cases hq:a.spot with
  |none=>rfl
  |some s=>grind
 ·cases this
theorem H7:∀(k:Nat) {t:TypeId} {ls:List L} {fuel:Nat} {cs:ADc} {x:DataW H×List MemPlace},lay P k t=some ls->DataW.trod enc P w base (λ_=>true) held fuel t cs=some x->Holds w ls cs
 |0,t,ls,fuel,cs,x,h,hx=>by simp[lay]at h
 |k+1,t,ls,fuel,cs,x,h,hx=>by
  simp only[lay]at h;split at h
  ·rename_i hu;injection h with h;subst h
   obtain⟨b,rfl,_⟩:=DataW.trod_bool hu hx;refine⟨rfl,[⟨.bool,show Bool from b⟩],rfl,λj lv hj=>?_⟩;cases j with
   |zero=>simp at hj;subst hj;exact⟨_,rfl,⟨rfl,rfl⟩,trivial⟩
   |succ j=>simp at hj
  ·rename_i kk hu;injection h with h;subst h
   obtain⟨n,rfl,_,hw⟩:=DataW.trod_int hu hx;refine⟨rfl,[⟨.int kk,show Int from n⟩],rfl,λj lv hj=>?_⟩;cases j with
   |zero=>simp at hj;subst hj;exact⟨_,rfl,⟨rfl,rfl⟩,by simpa[Lit.wf,L.fit]using hw⟩
   |succ j=>simp at hj
  ·rename_i hu;injection h with h;subst h
   obtain⟨s,rfl,_,hs⟩:=DataW.trod_string hu hx;refine⟨rfl,[⟨.str,show ADZ from s.data.toList⟩],rfl,λj lv hj=>?_⟩;cases j with
   |zero=>simp at hj;subst hj;exact⟨_,rfl,⟨so,rfl⟩,by simpa[L.fit]using hs⟩
   |succ j=>simp at hj
  ·rename_i e hu;split at h
   ·rename_i ls1 zx;split at h
    ·rename_i l ls2 hc;injection h with h;subst h
     have hc:P.cellsOf e=(l::ls2).length:=ADt
     let E:Ls:=Ek (l::ls2)
     have hEn:E.n=P.cellsOf e:=by rw[hc];exact MB _
     have hEk:E.kinds=l::ls2:=Dx _;have hpos:0<P.cellsOf e:=by rw[hc];simp
     rcases DataW.trod_slice hu hx with⟨rfl,_⟩|⟨a,len,cap,elems,rest,n,rfl,rfl,_,hb,hle,zP,yS,h1,h2,_⟩
     ·refine⟨rfl,[⟨.sl e E,([]:List E.D)⟩],rfl,λj lv hj=>?_⟩;cases j with
      |zero=>simp at hj;subst hj;exact⟨_,rfl,Bt,by simp[L.fit],λy hy=>by cases hy⟩
      |succ j=>simp at hj
     ·have all:∀i,i<cap->∃cs' y,w.cells? base (a.add (i*P.cellsOf e)) (P.cellsOf e)=some cs'/\DataW.trod enc P w base (λ_=>true) held n e cs'=some y:=by
       intro i hi;obtain⟨h3,h4⟩:=h2 rfl;rcases AAu i len with xz|yx
       ·have:=h1 i xz;rw[AAM (show i<elems.length by omega)]at this;obtain⟨cs',q1,q2⟩:=ABF.1 this;grind
       ·have:=h4 (i-len) J;rw[AAM (show i-len<rest.length by omega),show len+(i-len)=i by omega]at this;obtain⟨cs',q1,q2⟩:=ABF.1 this;grind
      have elem:a.spot=none->∀i,i<cap->∃y:E.D,E.rd 0 w (Old w) (λj=>w.cell? ⟨a.block,a.off+(i*E.n+j),none⟩) y []/\E.fit y:=by intro hs i hi;obtain⟨cs',y,q1,q2⟩:=all i hi;have hh:=H7 k zx q2;rw[<-hEk]at hh;obtain⟨z,hz,hf⟩:=hh.elem;obtain⟨c1,c2⟩:=JZ hpos hs q1;exact⟨z,Ls.BP E hz λj hj=>No,hf⟩
      refine⟨rfl,?_⟩;by_cases hc0:cap=0
      ·have zQ:len=0:=J
       subst zQ;subst hc0;refine⟨[⟨.sl e E,([]:List E.D)⟩],rfl,λj lv hj=>?_⟩;cases j with
       |zero=>simp at hj;subst hj;exact⟨_,rfl,⟨some a,0,rfl,AAi _,.inl ⟨rfl,rfl,rfl⟩⟩,by simp[L.fit],λy hy=>by cases hy⟩
       |succ j=>simp at hj
      ·obtain⟨cs0,y0,q0,_⟩:=all 0 J;have hs:=LX hpos q0;have hy:=elem hs
       let F:Nat->E.D:=λi=>if hi:i<cap then(hy i hi).choose else FG E
       have hF:∀i,i<cap->E.rd 0 w (Old w) (λj=>w.cell? ⟨a.block,a.off+(i*E.n+j),none⟩) (F i) []/\E.fit (F i):=by intro i hi;simp only[F,dif_pos hi];exact(hy i hi).choose_spec
       obtain⟨csl,yl,ql,_⟩:=all (cap-1) J;obtain⟨l1,l2⟩:=JZ hpos hs ql;have hlast:=l2 (P.cellsOf e-1) J;rw[AAM (show P.cellsOf e-1<csl.length by omega)]at hlast
       have hoff:a.off+((cap-1)*P.cellsOf e+(P.cellsOf e-1))=a.off+cap*P.cellsOf e-1:=by
        have:cap*P.cellsOf e=(cap-1)*P.cellsOf e+P.cellsOf e:=by rw[<-Nat.succ_mul];congr 1;omega
        omega
       rw[hoff]at hlast
       have yR:∃arr T fr,w.heap[a.block]?=some (.cells arr T fr)/\a.off+cap*P.cellsOf e<=arr.size:=by
        unfold World.cell? at hlast;split at hlast
        ·grind
        ·cases hlast
       obtain⟨arr,T,fr,hh,yP⟩:=yR
       let xs:List E.D:=(List.range len).map F
       have hxl:xs.length=len:=by simp[xs]
       have hxg:∀i (hi:i<xs.length),xs[i]=F i:=λi hi=>by simp[xs]
       refine⟨[⟨.sl e E,xs⟩],rfl,λj lv hj=>?_⟩;cases j with
       |succ j=>simp at hj
       |zero=>
        simp at hj;subst hj;refine⟨_,rfl,⟨some a,cap,by rw[hxl],No,.inr ⟨λj=>arr[a.off+j]?,λ_=>[],⟨hs,arr,T,fr,hh,No,λh=>ADf,λj=>rfl⟩,λi hi=>?_,?_⟩⟩,?_,λy hy=>?_⟩
        ·have hi:i<xs.length:=hi;show E.rd 0 w (Old w) _ xs[i] [];rw[hxg i hi];have:=(hF i J).1;refine Ls.BP E this λj hj=>?_;simp[World.cell?,hh]
        ·exact⟨(AA2.1 hh).1,rfl,λ_ _=>rfl⟩
        ·grind
        ·have hy:y∈xs:=hy;obtain⟨i,hi,rfl⟩:=AAw.1 hy;grind
    ·cases h
   ·cases h
  ·rename_i fs hu;split at h
   ·rename_i ls1 zx;split at h
    ·rename_i hc;injection h with h;subst h
     have hc:P.cellsOf t=ls1.length:=ADt
     obtain⟨xs,n,rfl,_,hlen,hxl,yL⟩:=DataW.trod_struct hu hx
     have:=Jm (w:=w) (cs:=cs) fs.toList 0 zx J λi f ms hi hr=>by
      have zc:fs[i]?=some f:=ADi
      have xz:i<xs.length:=by rw[hxl];exact(AA2.1 zc).1
      have hg:=yL i f zc;rw[AAM xz]at hg;exact H7 k hr hg
     grind
    ·cases h
   ·cases h
  ·cases h
end
end Go.Ev
namespace Go.Ev
open Go.ChangeShapes Go.RowKit
def Gt(P:Program)(t:TypeId):Bool:=match P.underlying t with
 |some (.struct _)=>true
 |_=>false
def GC(P:Program):List TypeId->Option (List PM)
 | []=>some []
 |t::ts=>match lay P 12 t,GC P ts with
  |some ls,some ps=>some (.val (Gt P t) ls::ps)
  |_,_=>none
def Hu(P:Program)(ts:List TypeId):Bool:=ts.all λt=>P.readableRec t&&decide (t<P.types.size)
section
variable {H:Type}{enc:TypeId×Value->H}{P:Program}{w:World}{base base':Nat}{held:Bool}
theorem one_cell{t:TypeId}{v:Value}{ls:List L}{r:Reach}(h:Value.okWide P w r base t v)(hl:lay P 12 t=some ls)(ha:Gt P t=false):v.cells = #[v]/\ls.length=1:=by
 unfold lay at hl;unfold Gt at ha;unfold Value.okWide Cell.okWide Cell.ok at h;split at hl
 ·rename_i hu;rw[hu]at h;injection hl with hl;subst hl
  cases v<;>first|exact⟨rfl,rfl⟩|exact h.elim
 ·rename_i hu;rw[hu]at h;injection hl with hl;subst hl
  cases v<;>first|exact⟨rfl,rfl⟩|exact h.elim
 ·rename_i hu;rw[hu]at h;injection hl with hl;subst hl
  cases v<;>first|exact⟨rfl,rfl⟩|exact h.elim
 ·rename_i hu;rw[hu]at h;split at hl
  ·split at hl
   ·injection hl with hl;subst hl
    cases v<;>first|exact⟨rfl,rfl⟩|exact h.elim
   ·cases hl
  ·cases hl
 ·rename_i hu;rw[hu]at ha;cases ha
 ·cases hl
theorem Ky{t:TypeId}{v:Value}{r:Reach}(h:Value.okWide P w r base t v)(ha:Gt P t=true):∃cs,v=.agg cs:=by
 unfold Gt at ha;unfold Value.okWide at h;split at ha
 ·rename_i hu;rw[hu]at h;obtain⟨cs,h,_⟩:=h;exact⟨cs,h⟩
 ·cases ha
theorem Iu:∀ {ts:List TypeId} {vs:ADc} {ds:List (DataW H)} {p:List MemPlace} {pms:List PM},DataW.TrodAll enc P w base (λ_=>true) held ts vs ds p->
  (∀(j:Nat) t v,ts[j]?=some t->vs[j]?=some v->Value.okWide P w .any base' t v)->GC P ts=some pms->
  vs.length=pms.length/\ds.length=ts.length/\∃xu:List (List Lv),xu.length=pms.length/\xu.flatten.map (·.l)=pms.flatMap PM.ins/\(∀(j:Nat)(lv:Lv),xu.flatten[j]?=some lv->lv.l.fit lv.x)/\
   ∀(i:Nat)(pm:PM)(u:Value)(xs:List Lv),pms[i]?=some pm->vs[i]?=some u->xu[i]?=some xs->Mj w (Old w) pm u xs 0 (λ_=>[])/\∃g ls,pm=.val g ls
 | [],[],[],p,pms,h,hv,hp=>by simp only[GC,Option.some.injEq]at hp;subst hp;exact⟨rfl,rfl,[],rfl,rfl,(λj lv hj=>by simp at hj),λi pm u xs hi=>by simp at hi⟩
 |t::ts,v::vs,d::ds,p,pms,h,hv,hp=>by
  obtain⟨p1,p2,⟨fuel,h1⟩,h2,_⟩:=h;simp only[GC]at hp;split at hp
  ·rename_i ls ps hl hps;injection hp with hp;subst hp
   obtain⟨a1,a2,xu,a3,a4,a5,a6⟩:=Iu h2 (λj t v ht zy=>hv (j+1) t v (by simpa using ht) (by simpa using zy)) hps;have yh:=hv 0 t v rfl rfl;obtain⟨hlen,us,b1,b2⟩:=H7 12 hl h1;have hul:us.length=ls.length:=by have:=congrArg List.length b1;simpa using this
   refine⟨by simp[a1],by simp[a2],us::xu,by simp[a3],by simp[a4,b1,PM.ins],λj lv hj=>?_,λi pm u xs hi hu hx=>?_⟩
   ·rw[AAl]at hj;rcases AAu j us.length with xz|yx
    ·rw[ABD xz]at hj;obtain⟨_,_,_,hf⟩:=b2 j lv hj;exact hf
    ·rw[ABN yx]at hj;exact a5 _ lv hj
   ·cases i with
    |succ i=>exact a6 i pm u xs ADi (by simpa using hu) (by simpa using hx)
    |zero=>
     simp at hi hu hx;subst hi;subst hu;subst hx;refine⟨⟨by simp[b1,Function.comp_def],?_,λj p lv hj zM=>?_⟩,_,_,rfl⟩
     ·cases z8:Gt P t with
      |true=>
       obtain⟨cs,rfl⟩:=Ky yh z8;exact⟨cs,rfl,by simpa[Value.cells]using hlen⟩
      |false=>
       have:=(one_cell yh hl z8).2;simpa using this
     ·obtain⟨y,hy,hr,_⟩:=b2 j lv zM
      have hp2:p.2=0:=by
       simp only[AAe]at hj;cases hq:ls[j]? with
       |none=>rw[hq]at hj;cases hj
       |some l=>rw[hq]at hj;injection hj with hj;rw[<-hj]
      rw[hp2];refine⟨y,?_,hr⟩;cases z8:Gt P t with
      |true=>
       show v.cells[j]?=some y;rw[<-hy];simp
      |false=>
       obtain⟨q1,q2⟩:=one_cell yh hl z8;rw[q1]at hy;cases j with
       |zero=>simp at hy;subst hy;rfl
       |succ j=>simp at hy
  ·cases hp
 | [],_::_,_,_,_,h,_,_=>by cases h
 | [],[],_::_,_,_,h,_,_=>by cases h
 |_::_,[],_,_,_,h,_,_=>by cases h
 |_::_,_::_,[],_,_,h,_,_=>by cases h
theorem Da(hl:laidOutB P=true){W W':World}(hb:Below W.heap.size W W'):∀ {ts:List TypeId} {vs:ADc} {ds:List (DataW H)} {p:List MemPlace},Hu P ts=true->
  DataW.TrodAll enc P W 0 (λ_=>true) true ts vs ds p->(∀x∈p,x.block<W.heap.size)->DataW.TrodAll enc P W' 0 (λb=>decide (b<W.heap.size)) true ts vs ds p
 | [],[],[],p,hr,h,xz=>h
 |t::ts,v::vs,d::ds,p,hr,h,xz=>by obtain⟨p1,p2,h1,h2,rfl⟩:=h;simp only[Hu,List.all_cons,AAN,AAh]at hr;exact⟨p1,p2,Below.trod hl hr.1.1 hr.1.2 h1 hb (λx hx=>xz x (AAY _ hx)),Da hl hb (by simpa[Hu]using hr.2) h2 (λx hx=>xz x (AAV _ hx)),rfl⟩
 | [],_::_,_,_,_,h,_=>by cases h
 | [],[],_::_,_,_,h,_=>by cases h
 |_::_,[],_,_,_,h,_=>by cases h
 |_::_,_::_,[],_,_,h,_=>by cases h
end
theorem J2{w:World}{fz:Nat->Prop}{om:Nat->It}{g:Bool}{ls:List (L×Nat)}:∀ {rv:ADc} {vsR:List (List Lv)} {off:Nat},D6 w fz om [(g,ls)] rv vsR off->∃u vs,rv=[u]/\vsR=[vs]/\Ge w fz g ls u vs (λj=>om (off+j))
 | [u],[vs],_,h=>⟨u,vs,rfl,rfl,h.1⟩
 | [],_,_,h=>h.elim
 |_::_,[],_,h=>h.elim
 | [_],_::_::_,_,h=>h.2.elim
 |_::_::_,[_],_,h=>h.2.elim
 |_::_::_,_::_::_,_,h=>h.2.elim
theorem Oo{H:Type}{enc:TypeId×Value->H}{C:Checked}{os:Os}{f:FuncId}{fn:Func}{s:ChangeSpec}{conds:List PathCond}
  (own:ownKnob C.prog.godebug=none) (started:os.Started) (noInit:C.prog.inits.idxOf? f=none) (hfn:C.prog.funcs[f]?=some fn)
  (witness:∃(w:World) (tape:Tape) (i:Input),w.os=os/\(w.forCall tape i).Shaped C.prog/\i.vars=[]/\Input.okWide C.prog (w.forCall tape i) .any w.heap.size f i/\
   s.pre6 enc C.prog fn conds false (w.forCall tape i).memory i.args/\({}:Assume).holds C.prog (lone (Frame.enter C.prog f i.args .normal) [] (w.forCall tape i)))
  {sm:Sm} {F:Nat->sm.ins.D->Option sm.outs.D} (yh:∀n,JN C.prog [] f ⟨sm,F n⟩) (hps:GC C.prog fn.params.toList=some sm.ps) (hrs:sm.rs=[(false,[(.bool,0)])])
  {tb:TypeId} (hres:fn.resultTypes = #[tb]) (htb:C.prog.underlying tb=some .bool) (hvars:s.vars=[]) (hreads:Hu C.prog fn.params.toList=true) (hlaid:laidOutB C.prog=true)
  (hspec:∀(ds:List (DataW H)),ds.length=fn.params.toList.length->s.fn H ds={results:=[.lit (.bool true)],args:=ds })
  (pure:∀x:sm.ins.D,sm.ins.fit x->∃n z,F n x=some z/\unpack sm.outs z=[⟨.bool,(show Bool from true)⟩]):
  ReturnsInHanded {} C os f .any (s.pre6 enc C.prog fn conds false) (s.post enc C.prog fn false true false false):=by
 refine returnsInHanded_of_change_sized own started noInit hfn witness ?_;intro W base args ds gs before zw hW _ _ _;have zL:=hW;obtain⟨p,q,hA,hV,rfl,zi,zG⟩:=hW;rw[hvars]at hV;obtain⟨rfl,rfl⟩:=trodVars_none hV;obtain⟨a1,a2,xu,a3,a4,a5,a6⟩:=Iu hA (λj t v ht hv=>zw j t v (by simpa using ht) (by simpa using hv)) hps;have hkin:xu.flatten.map (·.l)=sm.ins.kinds:=by rw[a4];exact(Dx _).symm
 obtain⟨x,hx,yd⟩:=Gq sm.ins xu.flatten hkin;obtain⟨n,z,hz,hzu⟩:=pure x (yd a5)
 have xv:Dj sm.ps W (Old W) args.toList xu (λ_=>0) (λ_=>[]):={
  len:=a1
  Bb:=a3
  each:=λi pm u xs h1 h2 h3=>(a6 i pm u xs h1 h2 h3).1
  blk:=λi=>by
   cases hq:sm.ps[i]? with
   |none=>rfl
   |some pm=>
    have xz:=(AAO.1 hq).1;obtain⟨_,g,ls,rfl⟩:=a6 i pm _ _ hq (AAM J) (AAM J);rfl
  none:=λi _ _ j=>rfl
  box:=λi ls _ j _=>rfl
  row:=λi g ls _ j _=>rfl
  fl:=λk=>rfl
  nodup:=λk=>AAW
  A4:=λk k' _ b hb=>by cases hb
  own:=λk b hb=>by cases hb
  fz:=λb hb=>hb }
 have ye:=yh n args.toList W (Old W) xu _ _ x z (λ_ h=>by cases h) xv hx hz;have hmk:sm.mk?=false:=by unfold Sm.mk?;rw[hrs]
 have hmk:(Lj.mk sm (F n)).s.mk?=false:=hmk;rw[hmk]at ye;rw[ABJ]at ye;refine ye.mono ?_
 rintro en W' ⟨r,xy,yg,rv,vsR,vsP,rfl,co⟩
 have zt:=co.outs;have hres1:=co.J1;rw[hrs]at hres1;obtain⟨u,vs,rfl,rfl,b1,_,b2⟩:=J2 hres1;have zE:vs.length=1:=by have:=congrArg List.length b1;simpa using this
 obtain⟨lv,rfl⟩:∃lv,vs=[lv]:=by
  match vs,zE with
  | [x],_=>exact⟨x,rfl⟩
 obtain⟨l0,x0⟩:=lv;have zQ:l0=.bool:=by simpa using b1
 subst zQ;obtain⟨y,hy,hr⟩:=b2 0 (.bool,0) ⟨.bool,x0⟩ rfl rfl;have hyu:u=y:=by simpa[A9]using hy
 subst hyu;have hzu:unpack sm.outs z=[⟨.bool,(show Bool from true)⟩]:=hzu;have zt:unpack sm.outs z=_:=zt;rw[hzu]at zt;simp only[AAl,List.flatten_nil,AA4,ABC,AAy,List.cons.injEq]at zt
 have hx0:x0=(show Bool from true):=by
  have:=zt.1;injection this with _ h2
  exact h2.symm
 subst hx0;have hu:u=.bool true:=hr.1;subst hu;have hrr:r=.bool true:=co.res;subst hrr;have hbelow:Below W.heap.size W W':=⟨co.rest.1,co.rest.2.1,co.rest.2.2,co.size,λk hk=>co.frame k hk λ_ hb=>by cases hb⟩;have xz:∀y∈p,y.block<W.heap.size:=λy hy=>zL.lt y ADu;refine⟨_,rfl,ds,[],_,[],p,[],zL,?_,?_,?_,hbelow.frame _,λh=>by cases h⟩
 ·rw[AA4,hspec ds a2,hres];exact trodAll_mk1 (shut_bool htb _)
 ·rw[AA4,hspec ds a2];exact Da hlaid hbelow hreads hA xz
 ·rw[AA4,hspec ds a2,hvars];rfl
end Go.Ev
namespace Go.Ev
def find{α:Type}:List (Nat×α)->Nat->Option α
 | [],_=>none
 |(k,x)::r,t=>match Nat.beq k t with
  |true=>some x
  |false=>find r t
theorem Jf{α:Type}:∀ {l:List (Nat×α)} {t:Nat} {x:α},find l t=some x->(t,x)∈l
 | [],t,x,h=>by cases h
 |(k,y)::r,t,x,h=>by
  unfold find at h;split at h
  ·rename_i hk;have:k=t:=Nat.eq_of_beq_eq_true hk;injection h with h;subst h;subst this;exact AAo
  ·exact AAQ _ (Jf h)
def Ol:L->Value->Bool
 | .int k,.int k' n=>IntKind.code k==IntKind.code k'&&n==0
 | .bool,.bool b => !b
 | .str,.string s=>s.size==0
 | .sl _ _,.slice none l c=>l==0&&c==0
 |_,_=>false
theorem Nh{l:L}{v:Value}(h:Ol l v=true):v=B4 l:=by
 unfold Ol at h;split at h
 ·simp only[AAN,AAX]at h;obtain⟨h1,rfl⟩:=h;rw[IntKind.EC h1];rfl
 ·simp at h;subst h;rfl
 ·rename_i s;have:s=.empty:=ByteArray.size_eq_zero_iff.1 ADh;subst this;rfl
 ·simp only[AAN,AAX]at h;obtain⟨rfl,rfl⟩:=h;rfl
 ·cases h
def Kz:List L->ADc->Bool
 | [],[]=>true
 |l::ls,v::vs=>Ol l v&&Kz ls vs
 |_,_=>false
theorem Gi:∀ {ls:List L} {vs:ADc},Kz ls vs=true->vs=ls.map B4
 | [],[],_=>rfl
 |l::ls,v::vs,h=>by simp only[Kz,AAN]at h;rw[Nh h.1,Gi h.2];rfl
 | [],_::_,h=>by cases h
 |_::_,[],h=>by cases h
def Of(P:Program)(t:TypeId)(e:Ls):Bool:=decide (0<e.n)&&match P.info? t with
 |some i=>i.size==e.n&&decide (i.bytes<=1024)&&match i.zero with
  |some z=>Kz e.kinds z.cells.toList
  |none=>false
 |none=>false
theorem Nc{P:Program}{t:TypeId}{e:Ls}(h:Of P t e=true):NV P t e:=by
 unfold Of at h;simp only[AAN,AAh]at h;obtain⟨hp,h⟩:=h;split at h
 ·rename_i i hi;simp only[AAN,AAh,AAX]at h;obtain⟨⟨h1,h2⟩,h⟩:=h;split at h
  ·rename_i z hz;exact⟨⟨i,hi,h1,h2,z,hz,by rw[<-Gi h]⟩,hp⟩
  ·cases h
 ·cases h
def Ia(P:Program)(t:TypeId):L->Bool
 | .int k=>match P.underlying t with
  |some (.int k')=>IntKind.code k==IntKind.code k'
  |_=>false
 | .bool=>match P.underlying t with
  |some .bool=>true
  |_=>false
 | .str=>match P.underlying t with
  |some .string=>true
  |_=>false
 | .sl t' e=>(match P.underlying t with
  |some (.slice t'')=>t'==t''
  |_=>false)&&Of P t' e
theorem L8{P:Program}{t:TypeId}{l:L}(h:Ia P t l=true):GF P t l:=by
 cases l with
 |int k=>
  simp only[Ia]at h;split at h
  ·rename_i k' hk;have:=IntKind.EC (by simpa using h:IntKind.code k=IntKind.code k');subst this;exact hk
  ·cases h
 |bool=>
  simp only[Ia]at h;split at h
  ·assumption
  ·cases h
 |str=>
  simp only[Ia]at h;split at h
  ·assumption
  ·cases h
 |sl t' e=>
  simp only[Ia,AAN]at h;obtain⟨h1,h2⟩:=h;split at h1
  ·rename_i t'' ht;have:t'=t'':=ADw
   subst this;exact⟨ht,Nc h2⟩
  ·cases h1
def Gl:List Field->List (Nat×TypeId)->Bool
 | [],[]=>true
 |f::fs,(o,t)::r=>f.offset==o&&f.type==t&&Gl fs r
 |_,_=>false
theorem HR:∀ {fs:List Field} {r:List (Nat×TypeId)},Gl fs r=true->fs.map (λf=>(f.offset,f.type))=r
 | [],[],_=>rfl
 |f::fs,(o,t)::r,h=>by simp only[Gl,AAN,AAX]at h;rw[ABI,h.1.1,h.1.2,HR h.2]
 | [],_::_,h=>by cases h
 |_::_,[],h=>by cases h
def Gr(P:Program):List Field->Bool
 | []=>true
 |f::fs=>(P.info? f.type).isSome&&Gr P fs
theorem Hq{P:Program}:∀ {fs:List Field},Gr P fs=true->∃pl,fs.mapM (λf=>(P.info? f.type).map λi=>(f.offset,i.size))=some pl
 | [],_=>⟨[],rfl⟩
 |f::fs,h=>by simp only[Gr,AAN]at h;obtain⟨pl,hpl⟩:=Hq h.2;obtain⟨i,hi⟩:=Option.isSome_iff_exists.1 h.1;exact⟨(f.offset,i.size)::pl,by simp[List.mapM_cons,hi,hpl]⟩
def Hr(P:Program)(t:TypeId):L->Bool
 | .int k=>match P.underlying t with
  |some (.int k')=>IntKind.code k==IntKind.code k'
  |_=>false
 | .bool=>match P.underlying t with
  |some .bool=>true
  |_=>false
 | .str=>match P.underlying t with
  |some .string=>true
  |_=>false
 | .sl _ _=>false
theorem LO{P:Program}{t:TypeId}{l:L}(h:Hr P t l=true):Iq P t l:=by
 cases l with
 |int k=>
  simp only[Hr]at h;split at h
  ·rename_i k' hk;have:=IntKind.EC (by simpa using h:IntKind.code k=IntKind.code k');subst this;exact hk
  ·cases h
 |bool=>
  simp only[Hr]at h;split at h
  ·assumption
  ·cases h
 |str=>
  simp only[Hr]at h;split at h
  ·assumption
  ·cases h
 |sl t' e=>cases h
def IQ(P:Program):Nat->List Field->List L->Bool
 |_,[],[]=>true
 | n, f :: fs, l :: ls => f.name != "_" && f.offset == n && Hr P f.type l && IQ P (n + 1) fs ls
 |_,_,_=>false
theorem Jb{P:Program}:∀ {n:Nat} {fs:List Field} {ls:List L},IQ P n fs ls=true->Gh P n fs ls
 |_,[],[],_=>trivial
 |n,f::fs,l::ls,h=>by simp only[IQ,AAN,AAX,bne_iff_ne,ne_eq]at h;obtain⟨⟨⟨h1,h2⟩,h3⟩,h4⟩:=h;exact⟨h1,h2,LO h3,Jb h4⟩
 |_,[],_::_,h=>by simp[IQ]at h
 |_,_::_,[],h=>by simp[IQ]at h
def Og(P:Program)(t:TypeId)(ls:List L):Bool := !P.stoodInHeld t && !P.eqGuardType P.depth t&&match P.underlying t with
 |some (.struct fs)=>IQ P 0 fs.toList ls
 |_=>false
theorem Nd{P:Program}{t:TypeId}{ls:List L}(h:Og P t ls=true):Oq P t ls:=by
 unfold Og at h;simp only[AAN,AAa]at h;obtain⟨⟨h1,h2⟩,h3⟩:=h;split at h3
 ·rename_i fs zn;exact⟨h1,h2,fs,zn,Jb h3⟩
 ·cases h3
def Oc(P:Program)(t:TypeId)(ty:Ty):Bool:=(match ty.eq with
 |true=>Og P t ty.ls.kinds
 |false=>true)&&((match P.info? t with
  |some i=>i.size==ty.ls.n&&match i.zero with
   |some z=>match ty.agg with
    |true=>match z with
     | .agg cs=>Kz ty.ls.kinds cs.toList
     |_=>false
    |false=>Kz ty.ls.kinds z.cells.toList
   |none=>false
  |none=>false) &&
 match ty.agg with
 |true=>match P.underlying t with
  |some (.struct fs)=>Gl fs.toList ty.fs&&Gr P fs.toList
  |_=>false
 |false=>match ty.ls with
  | .one l=>Ia P t l
  |_=>false)
theorem N0{P:Program}{t:TypeId}{ty:Ty}(h:Oc P t ty=true):NN P t ty:=by
 unfold Oc at h;rw[AAN]at h;obtain⟨h0,h⟩:=h;simp only[AAN]at h;obtain⟨h1,h2⟩:=h;refine⟨?_,λha=>?_,λha=>?_,λhe=>by rw[he]at h0;exact Nd h0⟩
 ·split at h1
  ·rename_i i hi;simp only[AAN,AAX]at h1;obtain⟨hs,h1⟩:=h1;split at h1
   ·rename_i z hz;refine⟨i,hi,hs,z,hz,?_⟩;split at h1
    ·rename_i ha;split at h1
     ·rename_i cs;have hc:cs=(ty.ls.kinds.map B4).toArray:=by rw[<-Gi h1]
      exact⟨hc,.inl (by rw[hc])⟩
     ·cases h1
    ·rename_i ha;exact⟨by rw[<-Gi h1],.inr ha⟩
   ·cases h1
  ·cases h1
 ·rw[ha]at h2;dsimp only at h2;split at h2
  ·rename_i fs zn;simp only[AAN]at h2;exact⟨fs,zn,HR h2.1,Hq h2.2⟩
  ·cases h2
 ·rw[ha]at h2;dsimp only at h2;split at h2
  ·rename_i l hl;exact⟨l,hl,L8 h2⟩
  ·cases h2
theorem Md{P:Program}{tbl:List (Nat×Ty)}(h:tbl.all (λp=>Oc P p.1 p.2)=true):∀t x,find tbl t=some x->NN P t x:=
 λt x hx=>N0 (AAZ.1 h _ (Jf hx))
def Kd (P : Program) (f : FuncId) : Prop := ∃ (fn : Func) (c : Code), P.funcs[f]? = some fn /\ fn.body = some c /\ (fn.name == "runtime.NumGoroutine") = false
theorem OS{P:Program}{T:List (String×Array Value)}:IJ P T (find []):=λf g h=>by cases h
theorem OD{P:Program}{T:List (String×Array Value)}{f:FuncId}{g:Lj}{l:List (FuncId×Lj)}(h:JN P T f g)(hb:Kd P f)(hl:IJ P T (find l)):IJ P T (find ((f,g)::l)):=by
 intro f' g' h';unfold find at h';split at h'
 ·rename_i hk;have:f=f':=Nat.eq_of_beq_eq_true hk;subst this;injection h' with h';subst h'
  exact⟨h,hb⟩
 ·exact hl f' g' h'
def plain(l:List (FuncId×Lj)):Env:=⟨find l,λ_ _=>none,λ_=>false⟩
theorem N3{P:Program}{T:List (String×Array Value)}{l:List (FuncId×Lj)}(h:IJ P T (find l)):JM P T (plain l):=⟨h,(λ_ _ _ h=>by cases h),(λ_ h=>by cases h)⟩
def NC(l:List (FuncId×Lj))(f g:FuncId)(σ:N1)(ts:List TypeId):Env:=⟨find l,λf' g'=>if f'==f&&g'==g then some σ else none,λt=>has ts t⟩
theorem OT{P:Program}{T:List (String×Array Value)}{f:FuncId}{sm:Sm}:JN P T f ⟨sm,λ_=>none⟩:=by intro args w fz xu bk om x z hg xv hx hz;cases hz
theorem N4{P:Program}{T:List (String×Array Value)}{tbl:List (Nat×Ty)}{l:Env}{an:An}{n:Nat}{sm:Sm}{fn:Func}{f:FuncId}{c:Code}{F:sm.ins.D->Option sm.outs.D}
  (hf:P.funcs[f]?=some fn) (hb:fn.body=some c) (hlen:decide (sm.ps.length<=fn.ntmps)=true) (ht:tbl.all (λp=>Oc P p.1 p.2)=true) (hl:JM P T l) (hm:P.follows .mixedOrders=true)
  (hF:∀x,Lx (find tbl) l an n fn sm x=F x):JN P T f ⟨sm,F⟩:=by
 have h:=OG (an:=an) (n:=n) (sm:=sm) hf hb (AAx hlen) (Md ht) hl hm;have:Lx (find tbl) l an n fn sm=F:=funext hF;rw[this]at h;exact h
end Go.Ev
