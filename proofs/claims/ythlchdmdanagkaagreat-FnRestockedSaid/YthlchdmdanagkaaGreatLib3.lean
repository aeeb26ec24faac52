/- A plain evaluator for Go's loaded code,and that it is sound;part 3. Conditions: none. -/
import Derived.Test.YthlchdmdanagkaaGreatLib2
import Derived.Orders
set_option linter.all false
namespace Go.Ev
def Am(T:Ii)(om:Key->Is):Key->Is
 | .blk i=>match T[i]? with
  |some (.box r)=>om (.blk r)
  |_=>[]
 | .lf i j=>match T[i]? with
  |some (.box r)=>om (.lf r j)
  |some (.row l)=>match l[j]? with
   |some (some p)=>p.2
   |_=>[]
  |_=>[]
 | .fl _=>[]
def Fl(T:Ii)(bk:Nat->Nat)(i:Nat):Nat:=match T[i]? with
 |some (.box r)=>bk r
 |_=>0
theorem GC:∀(ps:List PM)(zT:List AV)(i:Nat)(g:Bool)(ls:List L)(av:AV),ps[i]?=some (.val g ls)->zT[i]?=some av->∀r∈av.roots,r∈Af ps zT
 | [],_,i,g,ls,av,h,_,r,hr=>ADl
 |_::_,[],i,g,ls,av,_,h,r,hr=>ADl
 |pm::ps,a::zT,0,g,ls,av,h1,h2,r,hr=>by simp at h1 h2;subst h1;subst h2;exact AAV _ hr
 |pm::ps,a::zT,i+1,g,ls,av,h1,h2,r,hr=>by
  have:=GC ps zT i g ls av No No r hr;cases pm with
  |val g' ls'=>exact AAS _ this
  |_=>exact this
section
variable {P:Program}{E:Cy}{s:St}{W:Wd}{v:Nat}{tm:Array Value}{cx:Cx}
structure Handed(s:St)(W:Wd)(ps:List PM)(zT:List AV)(us:ADh)(yv:List (List Lv))(T:Ii):Prop where
 l1:zT.length=ps.length
 l2:us.length=ps.length
 l3:yv.length=ps.length
 l4:T.length=ps.length
 nodup:(T.flatMap PT.EL).Pairwise NH
 each:∀(i:Nat)(pm:PM)(av:AV)(u:Value)(vs:List Lv)(tg:PT),ps[i]?=some pm->zT[i]?=some av->us[i]?=some u->yv[i]?=some vs->T[i]?=some tg->HP s W pm av tg u vs
 apart:∀r∈Af ps zT,∀(i:Nat)(p:PT),T[i]?=some p->∀x∈p.EL,x.1≠r
theorem BX{α:Type}{l:List α}{i n:Nat}(h:l.length=n)(hi:i<n):∃x,l[i]?=some x:=⟨l[i]'(by omega),AAI J⟩
theorem Handed.all{ps:List PM}{zT:List AV}{us:ADh}{yv:List (List Lv)}{T:Ii}(hh:Handed s W ps zT us yv T){i:Nat}{pm:PM}(hp:ps[i]?=some pm):
  ∃av u vs tg,zT[i]?=some av/\us[i]?=some u/\yv[i]?=some vs/\T[i]?=some tg/\HP s W pm av tg u vs:=by
 have hi:i<ps.length:=(AAK.1 hp).1;obtain⟨av,h1⟩:=BX hh.l1 hi;obtain⟨u,h2⟩:=BX hh.l2 hi;obtain⟨vs,h3⟩:=BX hh.l3 hi;obtain⟨tg,h4⟩:=BX hh.l4 hi;exact⟨av,u,vs,tg,h1,h2,h3,h4,hh.each i pm av u vs tg hp h1 h2 h3 h4⟩
theorem Handed.PY{ps:List PM}{zT:List AV}{us:ADh}{yv:List (List Lv)}{T:Ii}(hh:Handed s W ps zT us yv T){i:Nat}{m:PT}(hT:T[i]?=some m):
  ∃pm av u vs,ps[i]?=some pm/\zT[i]?=some av/\us[i]?=some u/\yv[i]?=some vs/\HP s W pm av m u vs:=by
 have hi:i<ps.length:=by rw[<-hh.l4];exact(AAK.1 hT).1
 obtain⟨pm,hp⟩:=BX rfl hi;obtain⟨av,u,vs,tg,h1,h2,h3,h4,h5⟩:=hh.all hp;grind
theorem Handed.OV{ps:List PM}{zT:List AV}{us:ADh}{yv:List (List Lv)}{T:Ii}(hh:Handed s W ps zT us yv T){i j:Nat}{l:List (Option (Loc×Is))}{c:Loc}{o:Is}(hT:T[i]?=some (.row l))(hj:l[j]?=some (some (c,o))):
  ∃g ls as u vs p lv y,ps[i]?=some (.row g ls)/\zT[i]?=some (.v g as)/\us[i]?=some u/\yv[i]?=some vs/\ls[j]?=some p/\as[j]?=some (.ref c)/\vs[j]?=some lv/\Bx p.1=true/\vs.map (·.l)=ls.map (·.1)/\A5 g u j=some y/\Fj s W p.2 (.ref c) (some (c,o)) lv y:=by
 obtain⟨pm,av,u,vs,e1,e2,e3,e4,e5⟩:=hh.PY hT;cases pm with
 |val g ls=>cases e5.1
 |fn f=>cases e5.1
 |box ls=>obtain⟨r,AA,_,q,_⟩:=e5;cases q
 |row g ls=>
  obtain⟨as,l',rfl,q2,q3,q4,q5,q6,q7⟩:=e5;injection q2 with q2;subst q2
  have zA:j<ls.length:=by rw[<-q4];exact(AAK.1 hj).1
  have zw:vs.length=ls.length:=by have:=congrArg List.length q5;simpa using this
  obtain⟨p,hp⟩:=BX rfl zA;obtain⟨a,ha⟩:=BX q3 zA;obtain⟨lv,hlv⟩:=BX zw zA;obtain⟨y,hy,hr⟩:=q7 j p a lv _ hp ha hlv hj
  have hl:lv.l=p.1:=by have:=congrArg (·[j]?) q5;simp only[AAb,hp,hlv,AA6,Option.some.injEq]at this;exact this
  have zk:=hr;rcases hr with⟨_,h0,_⟩|⟨c',o',gen,t,e,xs,h,t',e',ys,rfl,h2,_,_,_,_,h3,_⟩
  ·cases h0
  ·injection h2 with h2;injection h2 with h2 h2';subst h2
   exact⟨g,ls,as,u,vs,p,lv,y,e1,e2,e3,e4,hp,ha,hlv,by rw[<-hl,h3];rfl,q5,hy,zk⟩
theorem Cb{ps:List PM}{zT:List AV}{us:ADh}{yv:List (List Lv)}{T:Ii}(hh:Handed s W ps zT us yv T){k:Key}{b:Nat}(h:b∈Am T W.om k):∃a,AT T k=some a/\b∈W.om a:=by
 cases k with
 |fl k=>cases h
 |blk i=>
  simp only[Am]at h;split at h
  ·rename_i r hT;exact⟨.blk r,by simp[AT,hT],h⟩
  ·cases h
 |lf i j=>
  simp only[Am]at h;split at h
  ·rename_i r hT;exact⟨.lf r j,by simp[AT,hT],h⟩
  ·rename_i l hT;split at h
   ·rename_i p hp;obtain⟨c,o⟩:=p;obtain⟨g,ls,as,u,vs,p,lv,y,_,_,_,_,_,_,_,_,_,_,hr⟩:=hh.OV hT hp;refine⟨.lf c.r c.j,by simp[AT,hT,hp],?_⟩;rcases hr with⟨_,h0,_⟩|⟨c',o',gen,t,e,xs,h',t',e',ys,_,h2,_,_,_,_,_,_,h4,_⟩
    all_goals grind
   ·cases h
  ·cases h
theorem Jv(h:AU E s tm W){ps:List PM}{zT:List AV}{us:ADh}{yv:List (List Lv)}{T:Ii}(hh:Handed s W ps zT us yv T)(k:Key):(Am T W.om k).Nodup:=by
 cases k with
 |fl k=>exact AAR
 |blk i=>
  simp only[Am];split
  ·exact h.sep.nodup _
  grind
 |lf i j=>
  simp only[Am];split
  ·exact h.sep.nodup _
  ·rename_i l hT;split
   ·rename_i p hp;obtain⟨c,o⟩:=p;obtain⟨g,ls,as,u,vs,p,lv,y,_,_,_,_,_,_,_,_,_,_,hr⟩:=hh.OV hT hp;rcases hr with⟨_,h0,_⟩|⟨c',o',gen,t,e,xs,h',t',e',ys,_,h2,_,_,_,_,_,_,h4,h5⟩
    ·cases h0
    ·injection h2 with h2;injection h2 with h2 h2';subst h2;subst h2'
     exact h5
   ·exact AAR
  grind
theorem Handed.root{ps:List PM}{zT:List AV}{us:ADh}{yv:List (List Lv)}{T:Ii}(hh:Handed s W ps zT us yv T){k:Key}{r j:Nat}(h:AT T k=some (.lf r j)):r∉Af ps zT:=by
 cases k with
 |fl k=>cases h
 |blk i=>obtain⟨r',e,_⟩:=BK h;cases e
 |lf i j'=>
  rcases BH h with⟨r',e,hT⟩|⟨l,c,o,e,hT,hl⟩
  ·injection e with e1 e2;subst e1
   exactλhr=>hh.apart r hr i _ hT (r,none) (by simp[PT.EL]) rfl
  ·injection e with e1 e2
   exactλhr=>hh.apart r hr i _ hT _ (IT hl) e1.symm
theorem N5(h:AU E s tm W){r j:Nat}(hj:(s.root r).ls.length<=j):W.om (.lf r j)=[]:=by obtain⟨h1,_⟩:=h.roots r;have:=h1 j;rw[Ay LA.bad hj]at this;exact this.1
theorem GI(h:AU E s tm W){ps:List PM}{zT:List AV}{us:ADh}{yv:List (List Lv)}{T:Ii}(hh:Handed s W ps zT us yv T):
  EN ps W.w (Seen W (Af ps zT)) us yv (Fl T W.bk) (Am T W.om) where
 len:=hh.l2
 Bs:=hh.l3
 each i pm u vs hp hu hvs:=by
  obtain⟨av,u',vs',tg,h1,h2,h3,h4,h5⟩:=hh.all hp;rw[hu]at h2;injection h2 with h2;subst h2
  rw[hvs]at h3;injection h3 with h3;subst h3
  cases pm with
  |val g ls=>
   obtain⟨_,q1,q2,q3⟩:=h5;refine⟨q1,q2,λj p lv hj hlv=>?_⟩;obtain⟨y,hy,hr⟩:=q3 j p lv hj hlv;exact⟨y,hy,L.AI lv.l hr (λ_ _=>rfl) λb hb=>hb.imp id λ⟨r,hr,x⟩=>⟨r,GC ps zT i g ls av hp h1 r hr,x⟩⟩
  |box ls=>
   obtain⟨r,AA,_,rfl,hb,hlen,zG,hvm,zM⟩:=h5;obtain⟨_,ze⟩:=h.roots r;rw[AAP hb]at ze;obtain⟨_,arr,T',fr,hhp,zH,zO,zW⟩:=ze;have e1:Fl T W.bk i=W.bk r:=by simp[Fl,h4]
   show ND _ _ _ _ _ _ _;rw[e1];refine⟨zG,hvm,arr,T',fr,hhp,zH,J,λj p lv hj hlv=>?_⟩;have zA:j<arr.size:=by rw[zO,hlen];exact(AAK.1 hj).1
   refine⟨arr[j],AAh zA,?_⟩;have e2:Am T W.om (.lf i j)=W.om (.lf r j):=by simp[Am,h4]
   show lv.l.rd p.2 _ _ _ _ (Am T W.om (.lf i j));rw[e2];exact L.AI lv.l (zM j p lv arr[j] hj hlv No) (λ_ _=>rfl) λb hb=>.inl hb
  |row g ls=>
   obtain⟨as,l,rfl,rfl,q3,q4,q5,q6,q7⟩:=h5;refine⟨q5,q6,λj p lv hj hlv=>?_⟩;have zA:j<ls.length:=(AAK.1 hj).1;obtain⟨a,ha⟩:=BX q3 zA;obtain⟨o,ho⟩:=BX q4 zA;obtain⟨y,hy,hr⟩:=q7 j p a lv o hj ha hlv ho;refine⟨y,hy,?_⟩;rcases hr with⟨hs,rfl,hr⟩|⟨c,o',gen,t,e,xs,h',t',e',ys,_,rfl,_,_,_,_,rfl,hr,_⟩
   ·have e2:Am T W.om (.lf i j)=[]:=by simp[Am,h4,ho]
    show lv.l.rd p.2 _ _ _ _ (Am T W.om (.lf i j));rw[e2];exact(L.AZ lv.l hs hr).1
   ·have e2:Am T W.om (.lf i j)=o':=by simp[Am,h4,ho]
    show AD e' p.2 _ _ _ _ (Am T W.om (.lf i j));rw[e2];exact hr.frame (λ_ _=>rfl) λb hb=>.inl hb
  |fn f=>exact h5.2
 blk i:=by
  cases hp:ps[i]? with
  |none=>
   have:T[i]?=none:=List.getElem?_eq_none (by have:=List.getElem?_eq_none_iff.1 hp;rw[hh.l4];exact this);simp[Am,this]
  |some pm=>
   obtain⟨av,u',vs',tg,h1,h2,h3,h4,h5⟩:=hh.all hp;cases pm with
   |val g ls=>obtain⟨rfl,_⟩:=h5;simp[Am,h4]
   |fn f=>obtain⟨rfl,_⟩:=h5;simp[Am,h4]
   |row g ls=>obtain⟨as,l,_,rfl,_⟩:=h5;simp[Am,h4]
   |box ls=>
    obtain⟨r,AA,_,rfl,hb,_⟩:=h5;obtain⟨_,ze⟩:=h.roots r;rw[AAP hb]at ze;simp[Am,Fl,h4,ze.1]
 none i hn1 hn2 j:=by
  cases hp:ps[i]? with
  |none=>
   have:T[i]?=none:=List.getElem?_eq_none (by have:=List.getElem?_eq_none_iff.1 hp;rw[hh.l4];exact this);simp[Am,this]
  |some pm=>
   obtain⟨av,u',vs',tg,h1,h2,h3,h4,h5⟩:=hh.all hp;cases pm with
   |val g ls=>obtain⟨rfl,_⟩:=h5;simp[Am,h4]
   |fn f=>obtain⟨rfl,_⟩:=h5;simp[Am,h4]
   |row g ls=>grind
   |box ls=>grind
 box i ls hp j hj:=by
  obtain⟨av,u',vs',tg,h1,h2,h3,h4,h5⟩:=hh.all hp;obtain⟨r,AA,_,rfl,hb,hlen,_⟩:=h5;have e2:Am T W.om (.lf i j)=W.om (.lf r j):=by simp[Am,h4]
  rw[e2];exact N5 h J
 row i g ls hp j hj:=by obtain⟨av,u',vs',tg,h1,h2,h3,h4,h5⟩:=hh.all hp;obtain⟨as,l,_,rfl,_,hl,_⟩:=h5;have:l[j]?=none:=List.getElem?_eq_none J;simp[Am,h4,this]
 fl k:=rfl
 nodup k:=Jv h hh k
 A4 k k' zD b hb zJ:=by obtain⟨a,ha,hb⟩:=Cb hh hb;obtain⟨a',ha',zJ⟩:=Cb hh zJ;refine h.sep.A4 a a' (λe=>zD ?_) b hb zJ;subst e;exact Ba hh.nodup ha ha'
 own k b hb:=by
  obtain⟨a,ha,hb⟩:=Cb hh hb;obtain⟨q1,q2,q3⟩:=h.sep.own a b hb;refine⟨?_,q2⟩
  rintro (hz|⟨r,hr,j,hz⟩)
  ·exact q1 hz
  ·have hab:a=.lf r j:=AAp λzD=>h.sep.A4 a _ zD b hb hz;subst hab;exact hh.root ha hr
 fz b hb:=by
  rcases hb with hz|⟨r,hr,j,hz⟩
  ·exact(h.sep.fz b hz).1
  ·exact(h.sep.own _ b hz).2.1
end
end Go.Ev
namespace Go.Ev
mutual
theorem L.Fe:∀(l:L) {w:World} {fz yw:Nat->Prop} {v:Value} {x:l.D} {o:Is},l.rd 2 w fz v x o->l.rd 2 w yw v x o
 | .int _,_,_,_,_,_,_,h=>h
 | .bool,_,_,_,_,_,_,h=>h
 | .str,_,_,_,_,_,_,h=>h
 | .sl _ e,w,fz,yw,v,x,o,h=>by
  obtain⟨A,c,hv,hc,h⟩:=h;refine⟨A,c,hv,hc,?_⟩;cases A with
  |none=>exact h
  |some a=>
   rcases h with h|⟨g,os,yz,zN,ho⟩
   ·exact .inl h
   ·exact .inr ⟨g,os,yz,λi hi=>Ls.Fe e (zN i hi),ho⟩
theorem Ls.Fe:∀(ls:Ls) {w:World} {fz yw:Nat->Prop} {g:Nat->Option Value} {x:ls.D} {o:Is},ls.rd 2 w fz g x o->ls.rd 2 w yw g x o
 | .nil,_,_,_,_,_,_,h=>h
 | .one l,_,_,_,_,_,_,h=>by simp only[Ls.rd]at h ⊢;obtain⟨v,hg,h⟩:=h;exact⟨v,hg,L.Fe l h⟩
 | .cons l ls,_,_,_,_,_,_,h=>by simp only[Ls.rd]at h ⊢;obtain⟨v,o1,o2,hg,h1,h2,rfl⟩:=h;exact⟨v,o1,o2,hg,L.Fe l h1,Ls.Fe ls h2,rfl⟩
end
def Conv(ls:List (L×Nat))(w:World)(fz yw:Nat->Prop):Prop:=∀p∈ls,∀(l:L)(x:l.D)(y:Value)(o:Is),l=p.1->l.rd p.2 w fz y x o->l.rd p.2 w yw y x o
theorem Conv.mono{ls:List (L×Nat)}{w:World}{fz yw:Nat->Prop}(h:∀b,fz b->yw b):Conv ls w fz yw:=λp _ l x y o _ hr=>L.AI l hr (λ_ _=>rfl) h
theorem Conv.fresh{ls:List (L×Nat)}(hf:fresh ls=true)(w:World)(fz yw:Nat->Prop):Conv ls w fz yw:=by
 intro p hp l x y o hl hr;have:=AAW.1 hf p hp;simp only[AAe,AAU,AAT,AAJ]at this;obtain⟨l',m⟩:=p;dsimp only at hl this hr ⊢;subst hl;rcases this with((h1|h1)|h1)|⟨h1,h2⟩
 ·exact(L.AZ l h1 hr).1
 ·subst h1;exact L.Fe l hr
 ·subst h1;exact(L.CV l).2 (L.Fe l ((L.CV l).1 hr))
 ·subst h1;cases l with
  |sl t e=>
   obtain⟨A,c,hv,hc,h⟩:=hr;refine⟨A,c,hv,hc,?_⟩;cases A with
   |none=>exact h
   |some a=>
    rcases h with h|⟨g,os,yz,zN,ho⟩
    ·exact .inl h
    ·exact .inr ⟨g,os,yz,λi hi=>(Ls.AZ e h2 (zN i hi)).1,ho⟩
  |int k=>exact hr
  |bool=>exact hr
  |str=>exact hr
theorem Gz.conv{w:World}{fz yw:Nat->Prop}{g:Bool}{ls:List (L×Nat)}{u:Value}{vs:List Lv}{own:Nat->Is}(h:Gz w fz g ls u vs own)(hc:Conv ls w fz yw):Gz w yw g ls u vs own:=by
 obtain⟨h1,h2,h3⟩:=h;refine⟨h1,h2,λj p lv hp hlv=>?_⟩;obtain⟨y,hy,hr⟩:=h3 j p lv hp hlv
 have hl:lv.l=p.1:=by have:=congrArg (·[j]?) h1;simp only[AAb,hp,hlv,AA6,Option.some.injEq]at this;exact this
 exact⟨y,hy,hc p (AAN hp) lv.l lv.x y _ hl hr⟩
theorem EP.conv{w:World}{fz yw:Nat->Prop}{om:Nat->Is}:∀ {rs:List (Bool×List (L×Nat))} {rv:ADh} {yv:List (List Lv)} {off:Nat},EP w fz om rs rv yv off->Conv (rs.flatMap (·.2)) w fz yw->EP w yw om rs rv yv off
 | [],[],[],_,h,hc=>h
 | [],[],_::_,_,h,hc=>h.elim
 | [],_::_,_,_,h,hc=>by simp[EP]at h
 |_::_,[],_,_,h,hc=>by simp[EP]at h
 |_::_,_::_,[],_,h,hc=>by simp[EP]at h
 |(g,ls)::rs,u::us,vs::yv,off,h,hc=>
  ⟨Gz.conv h.1 λp hp=>hc p (by simp[hp]),EP.conv h.2 λp hp=>hc p (by
   grind)⟩
theorem Jp.conv{w:World}{fz yw:Nat->Prop}{pm:PM}{u:Value}{vs:List Lv}{blk:Nat}{own:Nat->Is}(h:Jp w fz pm u vs blk own)(hc:Conv pm.outs w fz yw):Jp w yw pm u vs blk own:=by
 cases pm with
 |val g ls=>exact h
 |fn f=>exact h
 |box ls=>
  obtain⟨h1,h2,arr,T,fr,q1,q2,q3,h3⟩:=h;refine⟨h1,h2,arr,T,fr,q1,q2,q3,λj p lv hp hlv=>?_⟩;obtain⟨y,hy,hr⟩:=h3 j p lv hp hlv
  have hl:lv.l=p.1:=by have:=congrArg (·[j]?) h2;simp only[AAb,hp,hlv,AA6,Option.some.injEq]at this;exact this
  exact⟨y,hy,hc p (AAN hp) lv.l lv.x y _ hl hr⟩
 |row g ls=>exact Gz.conv h hc
theorem Jp.len{w:World}{fz:Nat->Prop}{pm:PM}{u:Value}{vs:List Lv}{blk:Nat}{own:Nat->Is}(h:Jp w fz pm u vs blk own):vs.length=pm.outs.length:=by
 cases pm with
 |val g ls=>rw[show vs=[]from h];rfl
 |fn f=>rw[show vs=[]from h];rfl
 |box ls=>have:=congrArg List.length h.2.1;simpa[PM.outs]using this
 |row g ls=>have:=congrArg List.length h.1;simpa[PM.outs]using this
open Classical in
noncomputable def LM (T:Ii) (om qf:Key->Is) (fl:Nat->Is):Key->Is
 | .fl n=>fl n
 | .blk r=>if h:∃c,AT T c=some (.blk r)then qf h.choose else om (.blk r)
 | .lf r j=>if h:∃c,AT T c=some (.lf r j)then qf h.choose else om (.lf r j)
theorem LZ{T:Ii}{c:Key}{n:Nat}:AT T c≠some (.fl n):=by
 intro h;cases c with
 |fl c=>cases h
 |blk i=>obtain⟨r,e,_⟩:=BK h;cases e
 |lf i j=>rcases BH h with⟨r,e,_⟩|⟨l,c,o,e,_⟩<;>cases e
open Classical in
theorem M7{T:Ii}(hn:(T.flatMap PT.EL).Pairwise NH){om qf:Key->Is}{fl:Nat->Is}{c k:Key}(h:AT T c=some k):LM T om qf fl k=qf c:=by
 have hex:∃c,AT T c=some k:=⟨c,h⟩;have hc:hex.choose=c:=Ba hn hex.choose_spec h;cases k with
 |fl n=>exact absurd h LZ
 |blk r=>
  show(if h:∃c,AT T c=some (.blk r)then qf h.choose else om (.blk r))=_;grind
 |lf r j=>
  show(if h:∃c,AT T c=some (.lf r j)then qf h.choose else om (.lf r j))=_;grind
theorem M6{T:Ii}{om qf:Key->Is}{fl:Nat->Is}{k:Key}(h:∀c,AT T c≠some k)(hk:∀n,k≠.fl n):LM T om qf fl k=om k:=by
 have hex:¬ ∃c,AT T c=some k:=λ⟨c,hc⟩=>h c hc;cases k with
 |fl n=>grind
 |blk r=>exact dif_neg hex
 |lf r j=>exact dif_neg hex
section
variable {P:Program}{E:Cy}{s:St}{W:Wd}{v:Nat}{tm:Array Value}{cx:Cx}
theorem J8(h:AU E s tm W)(hv:Ad s v){ks:List (L×Nat)}{rs:Is}{fs:List Wr}{w':World}{yw:Nat->Prop}(hf:(if fresh ks then some []else Ar cx s rs)=some fs):
  ∃W1 fzB,AU E (s.app fs) tm W1/\Jo s (s.app fs) W W1 rs/\(∀b,W1.fz b->fzB b)/\(∀b,fzB b->W1.fz b\/(yw b/\(Seen W rs b->W1.fz b)))/\Conv ks w' yw fzB:=by
 split at hf
 ·rename_i zt;injection hf with hf;subst hf
  exact⟨W,W.fz,h,⟨⟨rfl,rfl,λ_=>⟨rfl,rfl,rfl⟩⟩,rfl,rfl,rfl,λ_ _ _=>rfl,λ_ _=>.inl rfl,λ_ _ _=>rfl,λ_=>rfl,λ_ _ hb=>hb,λ_ hb=>hb,λ_ hb=>.inl hb⟩,λ_ hb=>hb,λ_ hb=>.inl hb,Conv.fresh zt _ _ _⟩
 ·obtain⟨W1,h1,h2,h3⟩:=Ey h hv hf;exact⟨W1,λb=>W1.fz b\/yw b,h1,h2,λb hb=>.inl hb,λb hb=>hb.imp id λhb=>⟨hb,h3 b⟩,Conv.mono λb hb=>.inr hb⟩
theorem NL(h:AU E s tm W)(hv:Ad s v){d:Nat}(hd:d<tm.size){g:Sm}{zT:List AV}{us:ADh}{yv:List (List Lv)}{T:Ii}(hh:Handed s W g.ps zT us yv T)
  {z:g.outs.D} {r:Value} {w':World} {yw:Nat->Prop} {zj:Key->Is} {rv:ADh} {vsR vsP:List (List Lv)} (co:Fh g W.w (Seen W (Af g.ps zT)) us (Fl T W.bk) (Am T W.om) z r w' yw zj rv vsR vsP)
  {fs pw:List Wr} {bs:List (Bool×List LA)} {own left:_} (hf:(if fresh g.G4 then some []else Ar cx s (Af g.ps zT))=some fs) (hb:D6 d v g.rs (unpack g.outs z) 0=some (bs,own,left)) (hp:AW s v g.ps zT left=some pw):
  ∃W',W'.w=w'/\AU E (s.app (fs++pw++[.root d ⟨false,v,own⟩,.slot d (K1 bs)])) (tm.setIfInBounds d r) W':=by
 have yt:=GI h hh;obtain⟨W1,fzB,h1,zt,hup,hdown,hconv⟩:=J8 (cx:=cx) (w':=w') (yw:=yw) h hv hf;have hv1:=zt.H9 hv;have hres:=EP.conv co.Mw (yw:=fzB) λp hp=>hconv p (AAV _ hp)
 have heach:∀(i:Nat)(pm:PM)(u:Value)(vs:List Lv),g.ps[i]?=some pm->us[i]?=some u->vsP[i]?=some vs->Jp w' fzB pm u vs (Fl T W.bk i) λj=>zj (.lf i j):=λi pm u vs e1 e2 e3=>
  (co.each i pm u vs e1 e2 e3).conv λp hp=>hconv p (AAS _ (AAL.2 ⟨pm,AAN e1,hp⟩))
 rw[co.outs]at hb;obtain⟨rfl,hbl,ys,hyl,hown,hvok⟩:=Hc g.rs rv vsR vsP.flatten 0 hres hb
 obtain⟨U,rfl,hUl,hU⟩:=Gu (s:=s) (v:=v) g.ps zT vsP co.len (λi pm vs e1 e2=>by
  obtain⟨av,u,_,_,_,q2,_⟩:=hh.all e1;exact(heach i pm u vs e1 q2 e2).len) hp
 have htg:∀ {i:Nat} {m:PT},T[i]?=some m->∃pm av u vs vo uo,g.ps[i]?=some pm/\zT[i]?=some av/\us[i]?=some u/\vsP[i]?=some vo/\U[i]?=some uo/\HP s W pm av m u vs/\NJ s v pm av vo uo/\Jp w' fzB pm u vo (Fl T W.bk i) (λj=>zj (.lf i j)):=by intro i m hT;obtain⟨pm,av,u,vs,e1,e2,e3,e4,e5⟩:=hh.PY hT;have hi:i<g.ps.length:=(AAK.1 e1).1;obtain⟨vo,e6⟩:=BX co.len hi;obtain⟨uo,e7⟩:=BX hUl hi;exact⟨pm,av,u,vs,vo,uo,e1,e2,e3,e6,e7,e5,hU i pm av vo uo e1 e2 e6 e7,heach i pm u vo e1 e3 e6⟩
 have hcls:∀u∈U.flatten,(∃(i:Nat) (ls:List (L×Nat)) (vo:List Lv),T[i]?=some (.box u.r)/\U[i]?=some [u]/\u=⟨u.r,0,AX s u.r v 0 ls vo⟩/\vo.length=ls.length/\(s.root u.r).box=true/\(s.root u.r).ls.length=ls.length) \/
   (∃(i:Nat) (l:List (Option (Loc×Is))) (j:Nat) (c:Loc) (o:Is) (g':Bool) (ls:List (L×Nat)) (as:List LA) (vo:List Lv),T[i]?=some (.row l)/\l[j]?=some (some (c,o))/\g.ps[i]?=some (.row g' ls)/\zT[i]?=some (.v g' as)/\vsP[i]?=some vo/\E7 s v ls as vo j u/\u.r=c.r/\u.lo=c.j/\u.news.length=1/\c.r<s.ro.length/\c.j<(s.root c.r).ls.length):=by
  intro u hu;obtain⟨uo,hm,hu⟩:=List.mem_flatten.1 hu;obtain⟨i,hi⟩:=AAq hm;have zA:i<g.ps.length:=by rw[<-hUl];exact(AAK.1 hi).1
  obtain⟨m,hT⟩:=BX hh.l4 zA;obtain⟨pm,av,u',vs,vo,uo',e1,e2,e3,e4,e5,e6,e7,e8⟩:=htg hT;rw[hi]at e5;injection e5 with e5;subst e5
  cases pm with
  |val g' ls=>rw[show uo=[]from e7]at hu;cases hu
  |fn f=>rw[show uo=[]from e7]at hu;cases hu
  |box ls=>
   obtain⟨r,AA,q1,q2⟩:=e7;obtain⟨r',ver',q3,rfl,q4,q5,_⟩:=e6;rw[q1]at q3;injection q3 with _ q3;injection q3 with q3;injection q3 with q3
   subst q3;subst q2;have:=AA5.1 hu;subst this;exact .inl ⟨i,ls,vo,hT,hi,rfl,by simpa[PM.outs]using e8.len,q4,q5⟩
  |row g' ls=>
   obtain⟨as,l,rfl,rfl,q3,q4,q5,q6,q7⟩:=e6;obtain⟨g2,as2,q8,q9⟩:=e7;injection q8 with q8 q8';subst q8;subst q8'
   obtain⟨j,hj⟩:=q9.1 u hu;have hj':=hj;obtain⟨p,c,lv2,AA,gen,t0,e0,xs0,d0,F,h1,h2,h3,h4,h5,h6,rfl⟩:=hj;have hjl:j<ls.length:=(AAK.1 h1).1;have zw:vs.length=ls.length:=by have:=congrArg List.length q5;simpa using this
   obtain⟨lv,hlv⟩:=BX zw hjl;obtain⟨o,ho⟩:=BX q4 hjl;obtain⟨y,hy,hr⟩:=q7 j p _ lv o h1 h3 hlv ho
   have hl:lv.l=p.1:=by have:=congrArg (·[j]?) q5;simp only[AAb,h1,hlv,AA6,Option.some.injEq]at this;exact this
   obtain⟨a1,a2⟩:=HE h5;rcases hr with⟨hs,_⟩|⟨c',o',_,_,_,_,_,_,_,_,k1,k2,_⟩
   ·rw[hl,h2]at hs;cases hs
   ·injection k1 with k1;subst k1;subst k2
    exact .inr ⟨i,l,j,c,o',_,ls,as,vo,hT,ho,e1,e2,e4,hj',rfl,rfl,rfl,a1,a2⟩
 have zb:∀u∈U.flatten,(u.news=[]\/u.r<(s.app fs).ro.length)/\u.lo+u.news.length<=((s.app fs).root u.r).ls.length:=by
  intro u hu;rw[zt.same.len,(zt.same.box u.r).2.2];rcases hcls u hu with⟨i,ls,vo,hT,hUi,he,zw,hb,hl⟩|⟨i,l,j,c,o,g',ls,as,vo,hT,hl,e1,e2,e3,hr,q1,q2,q3,q4,q5⟩
  ·refine⟨.inr (Ji hb),?_⟩;rw[hl,he];simp[DE s u.r v 0 ls vo zw]
  ·rw[q1,q2,q3];exact⟨.inr q4,q5⟩
 obtain⟨zd,zc⟩:=Ic U.flatten (s.app fs) zb;rw[BA,BA];generalize s.app fs=s1 at h1 zt zb zd zc hv1;generalize s1.app (Ep U.flatten)=s2 at zd zc
 have hcov:∀u∈U.flatten,∀r j,r=u.r/\u.lo<=j/\j<u.lo+u.news.length->∃c,AT T c=some (.lf r j):=by
  intro u hu r j hc;rcases hcls u hu with⟨i,ls,vo,hT,hUi,he,zw,hb,hl⟩|⟨i,l,jj,c,o,g',ls,as,vo,hT,hl,e1,e2,e3,hr,q1,q2,q3,q4,q5⟩
  ·exact⟨.lf i j,by rw[hc.1];simp[AT,hT]⟩
  ·have:j=c.j:=J
   subst this;exact⟨.lf i jj,by rw[hc.1,q1];simp[AT,hT,hl]⟩
 have hun:∀(r j:Nat),(∀c,AT T c≠some (.lf r j))->s2.leaf r j=s1.leaf r j:=by
  intro r j hn;rw[zc]
  exact J7 r j _ _ λu hu hc=>by obtain⟨c,hk⟩:=hcov u hu r j hc;exact hn c hk
 have hio:∀k,∀b∈Am T W.om k,∃a,AT T k=some a/\b∈W.om a:=λk b hb=>Cb hh hb;have hfz1:∀b,W1.fz b->b<W.w.heap.size/\∀k,b∉Am T W.om k:=λb hb=>⟨yt.fz b (zt.fz b hb),λk hk=>(yt.own k b hk).1 (zt.fz b hb)⟩
 have hfar:∀k,(∀c,AT T c≠some k)->∀b∈W1.om k,b<W.w.heap.size/\∀c,b∉Am T W.om c:=by intro k hk b hb;have hb0:=zt.sub k b hb;refine⟨(h.sep.own k b hb0).2.1,λc hc=>?_⟩;obtain⟨a,ha,hb1⟩:=hio c b hc;exact h.sep.A4 k a (λe=>hk c (e▸ha)) b hb0 hb1
 have hboxT:∀ {i r:Nat},T[i]?=some (.box r)->∃(ls:List (L×Nat)) (vo:List Lv) (arr:Array Value) (T':TypeId) (fr:Nat×Nat),(s.root r).ls.length=ls.length/\vo.length=ls.length/\w'.heap[W1.bk r]?=some (.cells arr T' fr)/\(∀j,j<arr.size->¬(fr.1<=j/\j<fr.2))/\arr.size=ls.length/\
   (∀(j:Nat)(p:L×Nat)(lv:Lv),ls[j]?=some p->vo[j]?=some lv->∃y,arr[j]?=some y/\lv.l.rd p.2 w' fzB y lv.x (zj (.lf i j)))/\(∀j,s2.leaf r j=if j<ls.length then nth .bad (AX s r v 0 ls vo) j else .bad)/\∀(j:Nat)(p:L×Nat),ls[j]?=some p->p.2=3->arr[j]?=W.cv r j:=by
  intro i r hT;obtain⟨pm,av,u',vs,vo,uo,e1,e2,e3,e4,e5,e6,e7,e8⟩:=htg hT;cases pm with
  |val g' ls=>cases e6.1
  |fn f=>cases e6.1
  |row g' ls=>obtain⟨_,_,_,q,_⟩:=e6;cases q
  |box ls=>
   obtain⟨r',ver',q3,q4,hbx,hlen,_⟩:=e6;injection q4 with q4;subst q4
   obtain⟨r2,ver2,q5,q6⟩:=e7;rw[q5]at q3;injection q3 with _ q3;injection q3 with q3;injection q3 with q3
   subst q3;subst q6;have zw:vo.length=ls.length:=by simpa[PM.outs]using e8.len
   obtain⟨b1,b2,arr,T',fr,b3,b4,b5,b6⟩:=e8;have hbk:Fl T W.bk i=W1.bk r2:=by rw[zt.bk];simp[Fl,hT]
   rw[hbk]at b3
   have hkp:∀(j:Nat)(p:L×Nat),ls[j]?=some p->p.2=3->arr[j]?=W.cv r2 j:=by intro j p hj hp;have hq:=co.kept i ls j p e1 hj hp;obtain⟨_,q2⟩:=h.roots r2;rw[AAP hbx]at q2;obtain⟨_,arr0,T0,fr0,k1,_,_,k2⟩:=q2;rw[k2];rw[hbk]at hq;have hb4:=b3;rw[zt.bk]at hq hb4;simpa[World.cell?,hb4,k1]using hq
   refine⟨ls,vo,arr,T',fr,hlen,zw,b3,b4,b5,b6,λj=>?_,hkp⟩;have hnl:=DE s r2 v 0 ls vo zw;split
   ·rename_i hj;rw[zc];refine JO r2 j U.flatten _ (λu hu hc=>?_) (.inr ⟨⟨r2,0,AX s r2 v 0 ls vo⟩,List.mem_flatten.2 ⟨_,AAN e5,List.mem_singleton_self _⟩,rfl,Nat.zero_le _,by rw[hnl];omega⟩);rcases hcls u hu with⟨i',ls',vo',zo,hUi,he,_⟩|⟨i',l,jj,c,o,g',ls',as,vo',zo,hl,_,_,_,hr,q1,q2,q3,_⟩
    ·have hii:Key.blk i'=.blk i:=Ba hh.nodup (a:=.blk r2) (by rw[hc.1];simp[AT,zo]) (by simp[AT,hT]);injection hii with hii;subst hii
     rw[e5]at hUi;injection hUi with hUi;injection hUi with hUi;subst hUi
     simp
    ·have:j=c.j:=J
     subst this;have hii:Key.lf i' jj=.lf i c.j:=Ba hh.nodup (a:=.lf r2 c.j) (by rw[hc.1,q1];simp[AT,zo,hl]) (by simp[AT,hT]);injection hii with hii;subst hii
     rw[hT]at zo;cases zo
   ·rename_i hj;unfold St.leaf;rw[Ay];rw[(zd.box r2).2.2,(zt.same.box r2).2.2,hlen];omega
 have hrowT:∀ {i jj:Nat} {l:List (Option (Loc×Is))} {c:Loc} {o:Is},T[i]?=some (.row l)->l[jj]?=some (some (c,o))->∃(q:Is) (AA gen:Nat) (t t0:TypeId) (e:Ls) (xs zm:List e.D) (d0:Nat) (u:Value),s.leaf c.r c.j=.arr AA gen t e xs d0/\s2.leaf c.r c.j=.arr AA v t0 e zm d0/\W1.cv c.r c.j=some u/\AD e d0 w' fzB u zm q/\N2 (W.om (.lf c.r c.j)) o (zj (.lf i jj)) q:=by
  intro i jj l c o hT hl;obtain⟨pm,av,u',vs,vo,uo,e1,e2,e3,e4,e5,e6,e7,e8⟩:=htg hT;cases pm with
  |val g' ls=>cases e6.1
  |fn f=>cases e6.1
  |box ls=>obtain⟨_,_,_,q,_⟩:=e6;cases q
  |row g' ls=>
   obtain⟨g2,ls2,as,u2,vs2,p,lv,y,f1,f2,f3,f4,f5,f6,f7,f8,f9,f10,hr⟩:=hh.OV hT hl;rw[e1]at f1;injection f1 with f1;injection f1 with f1 f1';subst f1;subst f1'
   rw[e2]at f2;injection f2 with f2;subst f2
   rw[e3]at f3;injection f3 with f3;subst f3
   obtain⟨g3,as3,q8,q9⟩:=e7;injection q8 with q8 q8';subst q8;subst q8'
   obtain⟨u,hu,hru⟩:=q9.2 jj p f5 f8;have hru':=hru;obtain⟨p',c',lo,AA,gen,t0,e0,xs0,d0,F,h1',h2',h3',h4',h5',h6',hue⟩:=hru;rw[f5]at h1';injection h1' with h1';subst h1'
   rw[f6]at h3';injection h3' with h3';injection h3' with h3';subst h3'
   have hk:AT T (.lf i jj)=some (.lf c.r c.j):=by simp[AT,hT,hl]
   have yr:s2.leaf c.r c.j=.arr AA v t0 e0 (F xs0) d0:=by
    rw[zc];have hself:nth .bad u.news (c.j-u.lo)=.arr AA v t0 e0 (F xs0) d0:=by rw[hue];simp[nth]
    refine JO c.r c.j U.flatten _ (λu2 hu2 hc=>?_) (.inr ⟨u,List.mem_flatten.2 ⟨_,AAN e5,hu⟩,by rw[hue];simp⟩);rcases hcls u2 hu2 with⟨i',ls',vo',zo,hUi,he,_⟩|⟨i',l',j',c',o',g',ls',as',vo',zo,hl',g1,g2,g3,zk,q1,q2,q3,_⟩
    ·have hii:Key.lf i' c.j=.lf i jj:=Ba hh.nodup (a:=.lf c.r c.j) (by rw[hc.1];simp[AT,zo]) hk;injection hii with hii;subst hii
     rw[hT]at zo;cases zo
    ·have hcj:c.j=c'.j:=J
     have hii:Key.lf i' j'=.lf i jj:=Ba hh.nodup (a:=.lf c.r c.j) (by rw[hc.1,q1,hcj];simp[AT,zo,hl']) hk;injection hii with hii hjj;subst hii;subst hjj
     rw[e1]at g1;injection g1 with g1;injection g1 with g1 g1';subst g1;subst g1'
     rw[e2]at g2;injection g2 with g2;injection g2 with g2 g2';subst g2'
     rw[e4]at g3;injection g3 with g3;subst g3
     rw[<-zk.uniq hru']at hself;exact hself
   obtain⟨m1,m2,m3⟩:=(show Gz w' fzB _ ls u' vo (λj=>zj (.lf i j))from e8);obtain⟨y',hy',hro⟩:=m3 jj p lo f5 h4';rw[f10]at hy';injection hy' with hy';subst hy'
   rcases hr with⟨_,k0,_⟩|⟨c2,o2,gen2,t2,e2',xs2,hh2,t',e',ys,k1,k2,k3,k4,k5,k6,k7,k8,k9,k10⟩
   ·cases k0
   ·injection k1 with k1;subst k1
    injection k2 with k2;injection k2 with k2 k2';subst k2'
    rw[h5']at k3;injection k3 with a1 a2 a3 a4 a5 a6
    subst a1;subst a2;subst a3;subst a4;have a5:=eq_of_heq a5;subst a5;obtain⟨uu,huu,zE⟩:=(h.roots c.r).row h5';rw[k5]at huu;injection huu with huu;subst huu
    rw[a6]at zE;obtain⟨t3,fn,zs,po,n1,n2,n3,n4,n5⟩:=OK c.p h6' zE k6 k4 (h.sep.nodup _);obtain⟨z1,z2⟩:=n2.uniq k8;subst z1;subst z2
    have hlo:lo.l=.sl t3 e'/\∃ys',HEq lo.x ys'/\fn zs=ys':=by
     unfold OU at n1;split at n1
     ·rename_i yy hyy;obtain⟨b1,b2⟩:=L.AH hyy;injection n1 with n1
      refine⟨b1,yy,?_,by rw[<-n1]⟩;obtain⟨ll,xx⟩:=lo;dsimp only at b1 b2 ⊢;subst b1;exact heq_of_eq b2
     ·cases n1
    obtain⟨hlo1,ys',hlo2,hlo3⟩:=hlo
    have hrd':AD e' p.2 w' fzB y (fn zs) (zj (.lf i jj)):=by obtain⟨ll,xx⟩:=lo;dsimp only at hlo1 hlo2 hro;subst hlo1;have:=eq_of_heq hlo2;subst this;rw[hlo3];exact hro
    obtain⟨q,hq1,hq2⟩:=n5 w' fzB (zj (.lf i jj)) hrd' {
     nd:=co.nodup _
     new:=λb hb hbo=>by
      rcases(co.own _ b hb).2.2 with zu|⟨k0,hk0⟩
      ·have:=(h.sep.own _ b hbo).2.1;omega
      ·obtain⟨a,ha,hba⟩:=hio k0 b hk0;have:a=.lf c.r c.j:=AAp λzD=>h.sep.A4 a _ zD b hba hbo;subst this;have:=Ba hh.nodup ha hk;subst this;have e9:Am T W.om (.lf i jj)=po:=by simp[Am,hT,hl]
       rw[<-e9];exact hk0
     rest:=λb hb=>by
      refine co.frame b ?_ λk0 hk0=>?_
      ·rcases hb with hb|hb
       ·exact(h.sep.own _ b hb.1).2.1
       ·exact(h.sep.fz b hb).1
      ·rcases hb with hb|hb
       ·obtain⟨a,ha,hba⟩:=hio k0 b hk0;have:a=.lf c.r c.j:=AAp λzD=>h.sep.A4 a _ zD b hba hb.1;subst this;have:=Ba hh.nodup ha hk;subst this;have e9:Am T W.om (.lf i jj)=po:=by simp[Am,hT,hl]
        rw[e9]at hk0;exact hb.2 hk0
       ·exact(yt.own k0 b hk0).1 (.inl hb)
     fz:=λb hb=>hup b (zt.up b hb) }
    exact⟨q,_,_,_,t0,e0,xs0,F xs0,d0,hh2,h5',yr,by rw[zt.cv];exact k5,by rw[a6];exact hq1,hq2⟩
 have hq0:∀c,∃q:Is,∀k,AT T c=some k->q.Nodup/\(∀b∈q,b∈zj c\/(b∈W1.om k/\b<W.w.heap.size/\∀c',b∉Am T W.om c'))/\(∀r,k=.blk r->q=zj c)/\
   (∀i j r,c=.lf i j->T[i]?=some (.box r)->q=if j<(s.root r).ls.length then zj c else [])/\
   (∀i j l cc o,c=.lf i j->T[i]?=some (.row l)->l[j]?=some (some (cc,o))->∃(AA gen:Nat) (t t0:TypeId) (e:Ls) (xs zm:List e.D) (d0:Nat) (u:Value),s.leaf cc.r cc.j=.arr AA gen t e xs d0/\s2.leaf cc.r cc.j=.arr AA v t0 e zm d0/\W1.cv cc.r cc.j=some u/\AD e d0 w' fzB u zm q):=by
  intro c;cases hk:AT T c with
  |none=>exact⟨[],λk hk'=>by cases hk'⟩
  |some k=>
   cases c with
   |fl n=>cases hk
   |blk i=>
    obtain⟨r,rfl,hT⟩:=BK hk;refine⟨zj (.blk i),λk hk'=>?_⟩;injection hk' with hk';subst hk'
    exact⟨co.nodup _,λb hb=>.inl hb,λ_ _=>rfl,λ_ _ _ e=>by(cases e),λ_ _ _ _ _ e=>by(cases e)⟩
   |lf i j=>
    rcases BH hk with⟨r,rfl,hT⟩|⟨l,cc,o,rfl,hT,hl⟩
    ·refine⟨if j<(s.root r).ls.length then zj (.lf i j)else [],λk hk'=>?_⟩;injection hk' with hk';subst hk'
     refine⟨?_,?_,λ_ e=>by(cases e),?_,?_⟩
     ·split
      ·exact co.nodup _
      ·exact AAR
     ·intro b hb;split at hb
      ·exact .inl hb
      ·cases hb
     ·intro i' j' r' e zo;injection e with e1 e2;subst e1;subst e2
      rw[hT]at zo;injection zo with zo;injection zo with zo;subst zo
      rfl
     ·intro i' j' l' cc' o' e zo;injection e with e1 e2;subst e1;subst e2
      rw[hT]at zo;cases zo
    ·obtain⟨q,AA,gen,t,t0,e,xs,zm,d0,u,p1,p2,p3,p4,p5,p6⟩:=hrowT hT hl;refine⟨q,λk hk'=>?_⟩;injection hk' with hk';subst hk'
     have e9:Am T W.om (.lf i j)=o:=by simp[Am,hT,hl]
     refine⟨p5,λb hb=>?_,λ_ e=>by(cases e),?_,?_⟩
     ·rcases p6 b hb with hb|⟨hb1,hb2⟩
      ·exact .inl hb
      ·refine .inr ⟨by rw[zt.om _ _ (hh.root hk)];exact hb1,(h.sep.own _ b hb1).2.1,λc' zg=>?_⟩;obtain⟨a,ha,hba⟩:=hio c' b zg;have:a=.lf cc.r cc.j:=AAp λzD=>h.sep.A4 a _ zD b hba hb1;subst this;have:=Ba hh.nodup ha hk;subst this;rw[e9]at zg;exact hb2 zg
     ·intro i' j' r' e zo;injection e with e1 e2;subst e1;subst e2
      rw[hT]at zo;cases zo
     ·intro i' j' l' cc' o' e zo hl';injection e with e1 e2;subst e1;subst e2
      rw[hT]at zo;injection zo with zo;injection zo with zo;subst zo
      rw[hl]at hl';injection hl' with hl';injection hl' with hl';injection hl' with q1 q2;subst q1
      exact⟨AA,gen,t,t0,e,xs,zm,d0,u,p1,p2,p3,p4⟩
 obtain⟨qf,hqf⟩:=Classical.axiomOfChoice hq0
 let chb:Nat->Prop:=λr=>∃i:Nat,T[i]?=some (.box r)
 let chk:Nat->Nat->Prop:=λr j=>∃c,AT T c=some (.lf r j)
 let newcv:Nat->Nat->Option Value:=λr j=>match w'.heap[W1.bk r]? with
  |some (.cells arr _ _)=>arr[j]?
  |_=>none
 open Classical in
 let W2:Wd:={
  w:=w'
  fz:=fzB
  cv:=λr j=>if chb r then newcv r j else W1.cv r j
  bk:=W1.bk
  om:=LM T W1.om qf λn=>zj (.fl n) }
 have hW2om:∀k,W2.om k=LM T W1.om qf (λn=>zj (.fl n)) k:=λ_=>rfl;have hflom:∀k,W2.om (.fl k)=zj (.fl k):=λk=>rfl;have hW2t:∀ {c k},AT T c=some k->W2.om k=qf c:=λhk=>M7 hh.nodup hk;have hW2n:∀ {k},(∀c,AT T c≠some k)->(∀n,k≠.fl n)->W2.om k=W1.om k:=λhk hn=>M6 hk hn
 have hsrc:∀k,∀b∈W2.om k,(∃c,(AT T c=some k\/∃n,k=.fl n/\c=.fl n)/\b∈zj c)\/(b∈W1.om k/\b<W.w.heap.size/\∀c,b∉Am T W.om c):=by
  intro k b hb;by_cases hk:∃c,AT T c=some k
  ·obtain⟨c,hk⟩:=hk;rw[hW2t hk]at hb;rcases(hqf c k hk).2.1 b hb with hb|hb
   ·exact .inl ⟨c,.inl hk,hb⟩
   ·exact .inr hb
  ·have hk:∀c,AT T c≠some k:=λc hc=>hk ⟨c,hc⟩;by_cases hn:∃n,k=.fl n
   ·obtain⟨n,rfl⟩:=hn;exact .inl ⟨.fl n,.inr ⟨n,rfl,rfl⟩,hb⟩
   ·rw[hW2n hk λn e=>hn ⟨n,e⟩]at hb;exact .inr ⟨hb,hfar k hk b hb⟩
 have hnfz:∀c,∀b∈zj c,¬fzB b:=by
  intro c b hb hz;obtain⟨q1,q2,q3⟩:=co.own c b hb;rcases hdown b hz with hz|⟨hz,hseen⟩
  ·obtain⟨p1,p2⟩:=hfz1 b hz;rcases q3 with q3|⟨k0,q3⟩
   ·omega
   ·exact p2 k0 q3
  ·exact q1 hz
 have hnot:∀b,(b<W.w.heap.size/\∀c,b∉Am T W.om c)->∀c,b∉zj c:=by
  intro b hb c hc;rcases(co.own c b hc).2.2 with q|⟨k0,q⟩
  ·omega
  ·exact hb.2 k0 q
 have hsep:Sep E W2:={
  nodup:=by
   intro k;by_cases hk:∃c,AT T c=some k
   ·obtain⟨c,hk⟩:=hk;rw[hW2t hk];exact(hqf c k hk).1
   ·have hk:∀c,AT T c≠some k:=λc hc=>hk ⟨c,hc⟩;by_cases hn:∃n,k=.fl n
    ·obtain⟨n,rfl⟩:=hn;exact co.nodup _
    ·rw[hW2n hk λn e=>hn ⟨n,e⟩];exact h1.sep.nodup _
  A4:=by
   intro k k' zD b hb zJ;rcases hsrc k b hb with⟨c,hc,hb⟩|⟨hb,hfb⟩
   ·rcases hsrc k' b zJ with⟨c',zg,zJ⟩|⟨zJ,hfb'⟩
    ·refine co.A4 c c' (λe=>zD ?_) b hb zJ;subst e;rcases hc with q|⟨n,q1,q2⟩
     ·rcases zg with q'|⟨n',q1',q2'⟩
      ·rw[q]at q';injection q'
      ·subst q2';cases q
     ·rcases zg with q'|⟨n',q1',q2'⟩
      ·subst q2;cases q'
      ·rw[q2]at q2';injection q2' with q2';rw[q1,q1',q2']
    ·exact hnot b hfb' c hb
   ·rcases hsrc k' b zJ with⟨c',zg,zJ⟩|⟨zJ,hfb'⟩
    ·exact hnot b hfb c' zJ
    ·exact h1.sep.A4 k k' zD b hb zJ
  own:=by
   intro k b hb;rcases hsrc k b hb with⟨c,hc,hb⟩|⟨hb,p1,p2⟩
   ·obtain⟨q1,q2,q3⟩:=co.own c b hb;refine⟨hnfz c b hb,q2,?_⟩;rcases q3 with q3|⟨k0,q3⟩
    ·left;have:=h.sep.size;omega
    ·obtain⟨a,_,ha⟩:=hio k0 b q3;exact(h.sep.own a b ha).2.2
   ·obtain⟨q1,q2,q3⟩:=h1.sep.own k b hb;refine⟨λhz=>?_,AA4 p1 co.size,q3⟩;rcases hdown b hz with hz|⟨hz,hseen⟩
    ·exact q1 hz
    ·rcases(co.fz b hz).2 with h3|h3|⟨k0,h3⟩
     ·exact q1 (hseen h3)
     ·omega
     ·exact p2 k0 h3
  fz:=by
   intro b hb;rcases hdown b hb with hz|⟨hz,hseen⟩
   ·have:=h1.sep.fz b hz;rw[zt.w]at this;exact⟨AA4 this.1 co.size,this.2⟩
   ·obtain⟨q1,q2⟩:=co.fz b hz;refine⟨q1,?_⟩;rcases q2 with q2|q2|⟨k0,q2⟩
    ·rcases q2 with q2|⟨r,hr,j,q2⟩
     ·exact(h.sep.fz b q2).2
     ·exact .inr (h.sep.own _ b q2).2.2
    ·right;left;have:=h.sep.size;omega
    ·obtain⟨a,_,ha⟩:=hio k0 b q2;exact .inr (h.sep.own a b ha).2.2
  frame:=by
   intro b hb1 hb2;refine(co.frame b ADv λk hk=>?_).trans (h.sep.frame b hb1 hb2);obtain⟨a,_,ha⟩:=hio k b hk;rcases(h.sep.own a b ha).2.2 with q|q
   ·omega
   ·exact hb2 q
  size:=AAv h.sep.size co.size
  rest:=⟨co.rest.1.trans h.sep.rest.1,co.rest.2.1.trans h.sep.rest.2.1,co.rest.2.2.trans h.sep.rest.2.2⟩ }
 have hsame12:Jr s s2:=⟨zd.sl.trans zt.same.sl,zd.len.trans zt.same.len,λx=>⟨(zd.box x).1.trans (zt.same.box x).1,(zd.box x).2.1.trans (zt.same.box x).2.1,(zd.box x).2.2.trans (zt.same.box x).2.2⟩⟩;have hcvu:∀r,¬chb r->∀j,W2.cv r j=W1.cv r j:=λr hr j=>AAQ hr;have hcvb:∀r,chb r->∀j,W2.cv r j=newcv r j:=λr hr j=>AAP hr
 have hnb:∀ {i j r j0:Nat} {l:List (Option (Loc×Is))} {c:Loc} {o:Is},T[i]?=some (.row l)->l[j]?=some (some (c,o))->¬chb c.r:=by
  rintro i j r j0 l c o hT hl ⟨i',zo⟩
  have hii:Key.lf i' c.j=.lf i j:=Ba hh.nodup (a:=.lf c.r c.j) (by simp[AT,zo]) (by simp[AT,hT,hl]);injection hii with hii;subst hii
  rw[hT]at zo;cases zo
 have hrep2:AU E s2 tm W2:=by
  refine h1.Mf hv1 zd chk chb (λr j hn=>hun r j λc hc=>hn ⟨c,hc⟩) hcvu (λr j ⟨i,hT⟩=>⟨.lf i j,by simp[AT,hT]⟩) (λ_=>rfl) ?_ ?_ ?_ (λb hb=>hup b hb) ?_ hsep ?_ ?_
  ·intro r j hn;exact hW2n (λc hc=>hn ⟨c,hc⟩) λn e=>by cases e
  ·intro r;by_cases hk:∃c,AT T c=some (.blk r)
   ·obtain⟨c,hk⟩:=hk;rw[hW2t hk,(hqf c _ hk).2.2.1 r rfl];cases c with
    |fl c=>cases hk
    |lf i j=>rcases BH hk with⟨r',e,_⟩|⟨l,c,o,e,_⟩<;>cases e
    |blk i=>
     obtain⟨r',e,hT⟩:=BK hk;injection e with e;subst e
     rw[co.blk,zt.Pd];simp[Am,hT]
   ·exact hW2n (λc hc=>hk ⟨c,hc⟩) λn e=>by cases e
  ·intro b hb
   have:b<W.w.heap.size/\∀k,b∉Am T W.om k:=by
    rcases hb with hb|⟨r,hr,hb⟩|⟨r,j,hr,hb⟩
    ·exact hfz1 b hb
    ·refine hfar (.blk r) (λc hc=>?_) b hb;cases c with
     |fl c=>cases hc
     |blk i=>obtain⟨r',e,hT⟩:=BK hc;injection e with e;subst e;exact hr ⟨i,hT⟩
     |lf i j=>rcases BH hc with⟨r',e,_⟩|⟨l,c,o,e,_⟩<;>cases e
    ·exact hfar (.lf r j) (λc hc=>hr ⟨c,hc⟩) b hb
   show w'.heap[b]?=_;rw[co.frame b this.1 this.2,zt.w]
  ·intro r j AA gen t e xs d0 hc hl zD;obtain⟨c,hk⟩:=hc;cases c with
   |fl c=>cases hk
   |blk i=>obtain⟨r',e,hT⟩:=BK hk;cases e
   |lf i jj=>
    rcases BH hk with⟨r',e,hT⟩|⟨l,cc,o,e,hT,hlj⟩
    ·injection e with e1 e2;subst e1;subst e2
     obtain⟨ls,vo,arr,T',fr,c1,c2,c3,c4,c5,c6,c7,c8⟩:=hboxT hT;rw[c7]at hl;split at hl
     ·rename_i hj;have hj2:j<vo.length:=J
      rw[Ae,CR s r v 0 ls vo j ls[j] vo[j] (AAI hj) (AAI hj2),AAY]at hl;rcases DD (s.leaf r j) v ls[j].2 vo[j]with hq|⟨ver0,gen0,t0,e0,xs0,y0,q1,q2,q3,q4⟩
      ·rw[hq]at hl;exact absurd (KL hl).1 zD
      ·rw[q4]at hl
       replace hl:LA.arr ver0 v t0 e0 y0 2=.arr AA gen t e xs d0:=hl
       injection hl with f1 f2 f3 f4 f5 f6
       subst f1;subst f2;subst f4;refine⟨?_,gen0,t0,xs0,2,by rw[zt.leaf _ _ (hh.root hk)];exact q2,λhg=>absurd rfl hg⟩;rw[hcvb r ⟨i,hT⟩ j,zt.cv,<-c8 j ls[j] (AAI hj) q1]
       show(match w'.heap[W1.bk r]? with
        |some (.cells arr _ _)=>arr[j]?
        |_=>none)=_
       rw[c3]
     ·cases hl
    ·injection e with e1 e2;subst e1;subst e2
     obtain⟨_,ver0,gen0,t1,t0,e0,xs0,zm,d1,u,c1,c2,c3,c4⟩:=hrowT hT hlj;rw[c2]at hl;injection hl with f1 f2 f3 f4 f5 f6
     subst f1;subst f2;subst f4;exact⟨hcvu _ (hnb hT hlj (r:=0) (j0:=0)) _,gen0,t1,xs0,d1,by rw[zt.leaf _ _ (hh.root hk)];exact c1,λhg=>absurd rfl hg⟩
  ·intro zV r j hc;obtain⟨c,hk⟩:=hc;cases c with
   |fl c=>cases hk
   |blk i=>obtain⟨r',e,hT⟩:=BK hk;cases e
   |lf i jj=>
    rw[hW2t hk];obtain⟨_,_,_,hqb,hqr⟩:=hqf _ _ hk;rcases BH hk with⟨r',e,hT⟩|⟨l,cc,o,e,hT,hlj⟩
    ·injection e with e1 e2;subst e1;subst e2
     obtain⟨ls,vo,arr,T',fr,c1,c2,c3,c4,c5,c6,c7,c8⟩:=hboxT hT;rw[hqb i j r rfl hT,c1]
     have zW:W2.cv r j=arr[j]?:=by
      rw[hcvb r ⟨i,hT⟩ j]
      show(match w'.heap[W1.bk r]? with
       |some (.cells arr _ _)=>arr[j]?
       |_=>none)=_
      rw[c3]
     rw[c7,zW];by_cases hj:j<ls.length
     ·rw[AAP hj,AAP hj];have hj2:j<vo.length:=J
      obtain⟨y,hy,hr⟩:=c6 j ls[j] vo[j] (AAI hj) (AAI hj2);rw[Ae,CR s r v 0 ls vo j ls[j] vo[j] (AAI hj) (AAI hj2),hy];rcases DD (s.leaf r (0+j)) v ls[j].2 vo[j]with hq|⟨ver0,gen0,t0,e0,xs0,y0,q1,q2,q3,q4⟩
      ·rw[hq];exact Fb hr
      ·rw[q4];refine⟨y,rfl,?_⟩;rw[q1]at hr;generalize vo[j]=lv at q3 hr;subst q3;exact(L.CV (.sl t0 e0)).1 hr
     ·rw[AAQ hj,AAQ hj];exact⟨rfl,λ_ _=>trivial⟩
    ·injection e with e1 e2;subst e1;subst e2
     obtain⟨ver0,gen0,t1,t0,e0,xs0,zm,d1,u,c1,c2,c3,c4⟩:=hqr i jj l cc o rfl hT hlj;rw[c2,hcvu cc.r (hnb hT hlj (r:=0) (j0:=0)) cc.j];exact⟨u,c3,c4⟩
  ·rintro r ⟨i,hT⟩ hbx
   obtain⟨ls,vo,arr,T',fr,c1,c2,c3,c4,c5,c6,c7,c8⟩:=hboxT hT;refine⟨arr,T',fr,c3,c4,?_,λj=>?_⟩
   ·rw[(zt.same.box r).2.2,c5,c1]
   ·rw[hcvb r ⟨i,hT⟩ j]
    show(match w'.heap[W1.bk r]? with
     |some (.cells arr _ _)=>arr[j]?
     |_=>none)=_
    rw[c3]
 have hv2:Ad s2 v:=by
  refine⟨λt=>?_,λr j=>?_,hv.2.2⟩
  ·have:s2.slot t=s.slot t:=by show nth _ s2.sl t=_;rw[hsame12.sl];rfl
   rw[this];exact hv.1 t
  ·by_cases hc:chk r j
   ·obtain⟨c,hk⟩:=hc;cases c with
    |fl c=>cases hk
    |blk i=>obtain⟨r',e,hT⟩:=BK hk;cases e
    |lf i jj=>
     rcases BH hk with⟨r',e,hT⟩|⟨l,cc,o,e,hT,hlj⟩
     ·injection e with e1 e2;subst e1;subst e2
      obtain⟨ls,vo,arr,T',fr,c1,c2,c3,c4,c5,c6,c7,c8⟩:=hboxT hT;rw[c7];split
      ·rename_i hj;have hj2:j<vo.length:=J
       rw[Ae,CR s r v 0 ls vo j ls[j] vo[j] (AAI hj) (AAI hj2)];rcases DD (s.leaf r (0+j)) v ls[j].2 vo[j]with hq|⟨ver0,gen0,t0,e0,xs0,y0,q1,q2,q3,q4⟩
       rotate_left
       ·rw[q4];left;rfl
       rw[hq];generalize vo[j]=lv;obtain⟨l,x⟩:=lv;cases l with
       |sl t e=>cases ls[j].2 with
        |zero=>right;simp[BR,LA.AG]
        |succ m=>left;rfl
       |_=>right;simp[BR,LA.AG]
      ·right;simp[LA.AG]
     ·injection e with e1 e2;subst e1;subst e2
      obtain⟨_,ver0,gen0,t1,t0,e0,xs0,zm,d1,u,c1,c2,c3,c4⟩:=hrowT hT hlj;rw[c2];exact .inl rfl
   ·rw[hun r j λc zg=>hc ⟨c,zg⟩];exact hv1.2.1 r j
 have hown':∀(k:Nat)(b:LA),own[k]?=some b->∃y,ys[k]?=some y/\Fi w' fzB v b y (zj (.fl k)):=λk b hk=>by have:=hown k b hk;rwa[AAY]at this
 let oj:Nat->Is:=λk=>if k<own.length then zj (.fl k)else []
 have hoj:∀k,∀b∈oj k,b∈zj (.fl k):=by
  intro k b hb;have hb:b∈(if k<own.length then zj (.fl k)else []):=hb;split at hb
  ·exact hb
  ·cases hb
 generalize hav:K1 bs=av;refine⟨AN W2 w' [] d (λk=>ys[k]?) 0 [] oj,rfl,?_⟩;refine hrep2.Kv hv2 (us:=[]) hd (x:=⟨false,v,own⟩) (a:=av) (u:=r) (w':=w') (cvd:=λk=>ys[k]?) (bkd:=0) (ob:=[]) (oj:=oj) rfl ?_ (λ_ _=>rfl) (λb h1 h2=>rfl) (AAc _) ⟨rfl,rfl,rfl⟩ AAR ?_ (λ_ _ hb=>by cases hb) ?_ ?_ ?_ ?_
 ·intro j AA gen t e xs dd hl;rw[Ae]at hl;cases hq:own[j]? with
  |none=>rw[hq]at hl;cases hl
  |some b=>
   rw[hq]at hl;obtain⟨y,_,ho⟩:=hown' j b hq;have hl:b=.arr AA gen t e xs dd:=hl;subst hl;exact ho.1
 ·intro j;show(if j<own.length then zj (.fl j)else []).Nodup;split
  ·exact co.nodup _
  ·exact AAR
 ·intro i j hij b hb zJ;exact co.A4 (.fl i) (.fl j) (λe=>hij (by injection e)) b (hoj i b hb) (hoj j b zJ)
 ·intro b hb;rcases hb with hb|⟨j,hb⟩
  ·cases hb
  ·exact .inl ⟨.fl j,λhk=>hk,by rw[hflom];exact hoj j b hb⟩
 ·intro zV zX;refine⟨λj=>?_,?_⟩
  ·have e1:(AN W2 w' [] d (λk=>ys[k]?) 0 [] oj).cv d j=ys[j]?:=by simp[AN]
   have e2:(AN W2 w' [] d (λk=>ys[k]?) 0 [] oj).om (.lf d j)=oj j:=by simp[AN]
   rw[e1,e2];show Aa _ _ (nth LA.bad own j) _ _;rw[Ae];cases hq:own[j]? with
   |none=>
    have hj:¬j<own.length:=by have:=List.getElem?_eq_none_iff.1 hq;omega
    have:oj j=[]:=AAQ hj;rw[this];exact⟨rfl,λ_ _=>trivial⟩
   |some b=>
    have hj:j<own.length:=(AAK.1 hq).1;have:oj j=zj (.fl j):=AAP hj;rw[this];obtain⟨y,hy,ho⟩:=hown' j b hq;show Aa _ _ b _ _;rw[hy];cases b with
    |arr AA gen t e xs m=>exact⟨y,rfl,ho.2.2⟩
    |bad=>exact⟨ho,λ_ _=>trivial⟩
    |_=>exact ho.elim
  ·show(if false=true then _ else _);rw[AAQ OF];simp[AN]
 ·intro zV zX
  have hvk:=hvok (s2.app (gone []++[.root d ⟨false,v,own⟩,.slot d av])) (AN W2 w' [] d (λk=>ys[k]?) 0 [] oj) rfl rfl (λk hk=>by
   rw[AAY];refine⟨?_,by simp[AN]⟩;unfold St.leaf;rw[zX])
  rw[co.res];generalize s2.app (gone []++[.root d ⟨false,v,own⟩,.slot d av])=s3 at hvk;generalize AN W2 w' [] d (λk=>ys[k]?) 0 [] oj=W3 at hvk;rw[<-hav]
  have htup:∀ {bs:List (Bool×List LA)} {rv:ADh},bs.length=rv.length->(∀(i:Nat)(p:Bool×List LA)(u:Value),bs[i]?=some p->rv[i]?=some u->E8 s3 W3 p.1 p.2 u)->BW s3 W3 (.Dr bs) (.tuple rv.toArray):=by
   intro bs rv hl hh;refine⟨rv.toArray,rfl,by simp[hl],λj p hj=>?_⟩;have zA:j<rv.length:=by rw[<-hl];exact(AAK.1 hj).1
   exact⟨rv[j],by simp[zA],hh j p rv[j] hj (AAI zA)⟩
  match bs,rv,hbl,hvk with
  | [],[],hbl,hvk=>exact htup hbl hvk
  | [(g',as)],[u],hbl,hvk=>exact hvk 0 (g',as) u rfl rfl
  |p::q::bs,u::u'::rv,hbl,hvk=>exact htup hbl hvk
end
end Go.Ev
namespace Go.Ev
section
variable {P:Program}{E:Cy}{s:St}{W:Wd}{tm:Array Value}{v:Nat}
def F1(W:Wd)(w':World)(yw:Nat->Prop)(b0:Nat):Wd:=
 { W with w:=w',fz:=λx=>W.fz x\/yw x,om:=λk=>match k with
   | .fl n=>if n=0 then [b0]else []
   |k=>W.om k }
theorem AU.Ov(h:AU E s tm W)(hv:Ad s v){b0:Nat}{w':World}{yw:Nat->Prop}
  (hold:∀b,b<W.w.heap.size->w'.heap[b]?=W.w.heap[b]?) (zz:W.w.heap.size<=w'.heap.size) (zK:w'.os=W.w.os/\w'.tape=W.w.tape/\w'.output=W.w.output)
  (hfz:∀x,yw x->x<w'.heap.size/\(W.fz x\/W.w.heap.size<=x)) (hb:W.w.heap.size<=b0/\b0<w'.heap.size/\¬yw b0):AU E s tm (F1 W w' yw b0):=by
 have hs:=h.sep
 have hmem:∀k b,b∈(F1 W w' yw b0).om k->(b∈W.om k/\∀n,k≠.fl n)\/(k=.fl 0/\b=b0):=by
  intro k b hk;cases k with
  |fl n=>
   have hk:b∈(if n=0 then [b0]else([]:Is)):=hk;by_cases hn:n=0
   ·rw[AAP hn]at hk;exact .inr ⟨by rw[hn],AA5.1 hk⟩
   ·rw[AAQ hn]at hk;cases hk
  |blk r=>exact .inl ⟨hk,OF⟩
  |lf r j=>exact .inl ⟨hk,OF⟩
 have zV:ES v s s W (F1 W w' yw b0):={
  fz:=λb hb=>.inl hb
  Lf:=λb hb=>hold b (hs.fz b hb).1
  leaf:=λr j AA gen t e xs dd hl zD=>⟨rfl,gen,t,xs,dd,hl,λ_=>⟨rfl,λp h' e' u zg hn=>by
   obtain⟨u0,z8,zE⟩:=(h.roots r).row hl;rw[zg]at z8;injection z8 with z8;subst z8
   exact BI p zE hn λb hb=>hold b (hb.elim (λhb=>(hs.own _ b hb).2.1) λhb=>(hs.fz b hb).1)⟩⟩
  box:=λr hb zD=>⟨hb,rfl,rfl⟩ }
 refine h.IM hv zV ?_ h.DM h.Bs (λt=>.inl ⟨rfl,rfl⟩) λr=>?_
 ·exact {
   nodup:=λk=>by
    cases k with
    |fl n=>
     show(if n=0 then [b0]else([]:Is)).Nodup;split<;>simp
    |blk r=>exact hs.nodup (.blk r)
    |lf r j=>exact hs.nodup (.lf r j)
   A4:=λk k' zD b h1 h2=>by
    rcases hmem k b h1 with⟨h1,n1⟩|⟨rfl,rfl⟩<;>rcases hmem k' b h2 with⟨h2,n2⟩|⟨rfl,h2⟩
    ·exact hs.A4 k k' zD b h1 h2
    ·have:=(hs.own k b h1).2.1;omega
    ·have:=(hs.own k' _ h2).2.1;omega
    ·exact zD rfl
   own:=λk b h1=>by
    rcases hmem k b h1 with⟨h1,_⟩|⟨rfl,rfl⟩
    ·obtain⟨a1,a2,a3⟩:=hs.own k b h1;refine⟨λhz=>hz.elim a1 λhz=>?_,AA4 a2 zz,a3⟩;rcases(hfz b hz).2 with h|h
     ·exact a1 h
     ·omega
    ·refine⟨λhz=>hz.elim (λhz=>?_) hb.2.2,hb.2.1,.inl (AAv hs.size hb.1)⟩;have:=(hs.fz _ hz).1;omega
   fz:=λb hz=>by
    rcases hz with hz|hz
    ·obtain⟨a1,a2⟩:=hs.fz b hz;exact⟨AA4 a1 zz,a2⟩
    ·obtain⟨a1,a2⟩:=hfz b hz;refine⟨a1,a2.elim (λh=>(hs.fz b h).2) λh=>.inr (.inl (AAv hs.size h))⟩
   frame:=λb h1 h2=>(hold b (AA4 h1 hs.size)).trans (hs.frame b h1 h2)
   size:=AAv hs.size zz
   rest:=⟨zK.1.trans hs.rest.1,zK.2.1.trans hs.rest.2.1,zK.2.2.trans hs.rest.2.2⟩ }
 ·obtain⟨h1,h2⟩:=h.roots r;refine⟨λj=>?_,?_⟩
  ·exact Aa.Ds zV (by have:=hv.2.1 r j;exact this) (λb hb=>hold b (hs.own _ b hb).2.1) (h1 j)
  ·show(if(s.root r).box=true then _ else _);split
   ·rename_i hb;rw[AAP hb]at h2;obtain⟨ho',arr',T',fr',hh',a1,a2,a3⟩:=h2;refine⟨ho',arr',T',fr',(hold _ ?_).trans hh',a1,a2,a3⟩;exact(AA7.1 hh').1
   ·rename_i hb;rw[AAQ hb]at h2;exact h2
theorem AU.Lt(h:AU E s tm W)(hv:Ad s v){d:Nat}(hd:d<tm.size){bs:List LA}{cs:Array Value}{T:TypeId}{fr:Nat×Nat}{b0:Nat}{w':World}{yw:Nat->Prop}
  (hold:∀b,b<W.w.heap.size->w'.heap[b]?=W.w.heap[b]?) (zz:W.w.heap.size<=w'.heap.size) (zK:w'.os=W.w.os/\w'.tape=W.w.tape/\w'.output=W.w.output)
  (hfz:∀x,yw x->x<w'.heap.size/\(W.fz x\/W.w.heap.size<=x)) (hb:W.w.heap.size<=b0/\b0<w'.heap.size/\¬yw b0) (zP:w'.heap[b0]?=some (.cells cs T fr)) (zt:∀j,j<cs.size->¬(fr.1<=j/\j<fr.2)) (hlen:cs.size=bs.length)
  (hbs:∀(j:Nat)(b:LA),bs[j]?=some b->∃(l:L) (x:l.D) (y:Value),b=.sc l x/\cs[j]?=some y/\l.rd 0 w' yw y x []):
  ∃W',W'.w=w'/\AU E (s.app (GR d v bs)) (tm.setIfInBounds d (.pointer (some ⟨b0,0,none⟩))) W':=by
 have h1:=h.Ov hv hold zz zK hfz hb
 have hsc:∀j,(∃(l:L) (x:l.D) (y:Value),nth .bad bs j=.sc l x/\cs[j]?=some y/\l.rd 0 w' yw y x [])\/nth .bad bs j=.bad:=by
  intro j;rcases AAr j bs.length with hj|hj
  ·left;have:=hbs j bs[j] (AAI hj);rw[Ae,AAI hj];exact this
  ·right;exact Ay _ hj
 refine⟨AN (F1 W w' yw b0) w' [] d (λj=>cs[j]?) b0 [b0] (λ_=>[]),rfl,?_⟩;refine h1.Kv (us:=[]) hv hd (x:=⟨true,v,bs⟩) (a:=one (.ptr d 0 v)) rfl ?_ (λb _=>rfl) (λb _ _=>rfl) (AAc _) ⟨rfl,rfl,rfl⟩ (AAa.2 ⟨OF,AAR⟩) (λ_=>AAR) (λ_ _ _ hb=>by cases hb) (λ_ _ _ _ hb=>by cases hb) ?_ ?_ ?_
 ·intro j AA gen t e xs dd hl;dsimp only at hl;rcases hsc j with⟨l,x,y,h1,_⟩|h1<;>rw[h1]at hl<;>cases hl
 ·intro b hb;rcases hb with hb|⟨j,hb⟩
  ·simp at hb;subst hb;exact .inl ⟨.fl 0,id,by simp[F1]⟩
  ·cases hb
 ·intro _ _;refine⟨λj=>?_,?_⟩
  ·have e1:(AN (F1 W w' yw b0) w' [] d (λj=>cs[j]?) b0 [b0] (λ_=>[])).cv d j=cs[j]?:=by simp[AN]
   have e2:(AN (F1 W w' yw b0) w' [] d (λj=>cs[j]?) b0 [b0] (λ_=>[])).om (.lf d j)=[]:=by simp[AN]
   rw[e1,e2];show Aa _ _ (nth LA.bad bs j) _ _;rcases hsc j with⟨l,x,y,h1,h2,h3⟩|h1
   ·rw[h1];refine⟨rfl,λu hu=>?_⟩;rw[h2]at hu;injection hu with hu;subst hu
    exact L.AI l h3 (λb _=>rfl) (λb hb=>.inr hb)
   ·rw[h1];exact⟨rfl,λ_ _=>trivial⟩
  ·show(if true=true then _ else _);rw[AAP rfl];have hbk:(AN (F1 W w' yw b0) w' [] d (λj=>cs[j]?) b0 [b0] (λ_=>[])).bk d=b0:=by simp[AN]
   refine⟨by simp[AN],cs,T,fr,?_,zt,hlen,λj=>by simp[AN]⟩;rw[hbk];exact zP
 ·intro _ _;intro _ _;have hbk:(AN (F1 W w' yw b0) w' [] d (λj=>cs[j]?) b0 [b0] (λ_=>[])).bk d=b0:=by simp[AN]
  rw[hbk]
end
end Go.Ev
namespace Go.Ev
open Go.Sort (Holds insertionSort)
section
variable {α β:Type}[Inhabited α][Inhabited β]
theorem swp_size(d:Array α)(i j:Nat):(Go.Sort.swp d i j).size=d.size:=by simp[Go.Sort.swp]
theorem get_map(f:α->β)(d:Array α)(i:Nat)(hi:i<d.size):(d.map f)[i]! = f d[i]! := by
 grind
theorem Nt(f:α->β)(d:Array α)(i j:Nat)(hi:i<d.size)(hj:j<d.size):Go.Sort.swp (d.map f) i j=(Go.Sort.swp d i j).map f:=by unfold Go.Sort.swp;grind
theorem Fv(f:α->β)(lt:α->α->Bool)(lt':β->β->Bool)(h:∀x y,lt' (f x) (f y)=lt x y)(a:Nat):∀(j:Nat)(d:Array α),j<d.size->Go.Sort.insInner lt' a j (d.map f)=(Go.Sort.insInner lt a j d).map f/\(Go.Sort.insInner lt a j d).size=d.size
 |0,d,_=>⟨rfl,rfl⟩
 |j+1,d,hj=>by
  simp only[Go.Sort.insInner];rw[get_map f d (j+1) hj,get_map f d j J,h];split
  ·rw[Nt f d (j+1) j hj J];obtain⟨e1,e2⟩:=Fv f lt lt' h a j (Go.Sort.swp d (j+1) j) (by rw[swp_size];omega);exact⟨e1,e2.trans (swp_size _ _ _)⟩
  grind
theorem Gp(lt:α->α->Bool)(a b i:Nat)(d:Array α)(h:i<b):Go.Sort.insOuter lt a b i d=Go.Sort.insOuter lt a b (i+1) (Go.Sort.insInner lt a i d):=by rw[Go.Sort.insOuter,AAP h]
theorem DU(lt:α->α->Bool)(a b i:Nat)(d:Array α)(h:¬i<b):Go.Sort.insOuter lt a b i d=d:=by rw[Go.Sort.insOuter,AAQ h]
theorem Fw(f:α->β)(lt:α->α->Bool)(lt':β->β->Bool)(h:∀x y,lt' (f x) (f y)=lt x y)(a b:Nat):∀(n i:Nat)(d:Array α),b-i<=n->b<=d.size->Go.Sort.insOuter lt' a b i (d.map f)=(Go.Sort.insOuter lt a b i d).map f/\(Go.Sort.insOuter lt a b i d).size=d.size
 |0,i,d,hn,hb=>by rw[DU lt' a b i _ J,DU lt a b i _ J];grind
 |n+1,i,d,hn,hb=>by
  by_cases hi:i<b
  ·rw[Gp lt' a b i _ hi,Gp lt a b i _ hi];obtain⟨e1,e2⟩:=Fv f lt lt' h a i d J;rw[e1];obtain⟨e3,e4⟩:=Fw f lt lt' h a b n (i+1) (Go.Sort.insInner lt a i d) J (by rw[e2];exact hb);grind
  ·rw[DU lt' a b i _ hi,DU lt a b i _ hi];grind
theorem Fx(f:α->β)(lt:α->α->Bool)(lt':β->β->Bool)(h:∀x y,lt' (f x) (f y)=lt x y)(d:Array α)(b:Nat)(hb:b<=d.size):insertionSort lt' (d.map f) 0 b=(insertionSort lt d 0 b).map f/\(insertionSort lt d 0 b).size=d.size:=
 Fw f lt lt' h 0 b b 1 d J hb
theorem KQ(enc:α->Value)(w:World)(blk off:Nat)(d:Array α){arr:Array Value}{T:TypeId}{fr:Nat×Nat}(h:w.heap[blk]?=some (.cells arr T fr)):(Go.Sort.putRow enc w blk off d).heap[blk]?=some (.cells (Go.Sort.putCells enc off d arr) T fr):=by simp[Go.Sort.putRow,Go.Sort.mapBlock,Array.getElem?_modify,h,Go.Sort.onCells]
theorem Gv(enc:α->Value)(w:World)(blk off:Nat)(d:Array α){b:Nat}(h:b≠blk):(Go.Sort.putRow enc w blk off d).heap[b]?=w.heap[b]?:=by simp[Go.Sort.putRow,Go.Sort.mapBlock,Array.getElem?_modify,Ne.symm h]
end
section
variable {P:Program}{E:Cy}{s:St}{W:Wd}{o:Oper}{a:Act}{ws:List Wr}{cx:Cx}{v:Nat}{tm:Array Value}
def Kd(W:Wd)(r:Nat)(b:Nat):Prop:=W.fz b\/∃k,(∀j,k≠.lf r j)/\b∈W.om k
theorem Ga.frame{w w':World}{fz:Nat->Prop}{ls:List L}{u:Value}{vs:List Lv}(h:Ga w fz ls u vs)(hf:∀b,fz b->w'.heap[b]?=w.heap[b]?):Ga w' fz ls u vs:=by
 obtain⟨b,arr,T,fr,hu,hz,hh,hs,hm,hr⟩:=h;exact⟨b,arr,T,fr,hu,hz,(hf b hz).trans hh,hs,hm,λj lv hj=>let ⟨y,hy,hl⟩:=hr j lv hj;⟨y,hy,L.AI lv.l hl (λb hb=>hf b (hb.elim (λhb=>by cases hb) id)) λ_ hb=>hb⟩⟩
theorem D1.frame{w w':World}{fz:Nat->Prop}(hf:∀b,fz b->w'.heap[b]?=w.heap[b]?):∀ {bs:List (List L)} {us:ADh} {vs:List Lv},D1 w fz bs us vs->D1 w' fz bs us vs
 | [],[],vs,h=>h
 |ls::bs,u::us,vs,h=>by obtain⟨x,y,e,h1,h2⟩:=h;exact⟨x,y,e,h1.frame hf,D1.frame hf h2⟩
 | [],_::_,vs,h=>h.elim
 |_::_,[],vs,h=>h.elim
theorem K4.frame{w w':World}{fz:Nat->Prop}{rv:Value}(hf:∀b,fz b->w'.heap[b]?=w.heap[b]?){c:Ka}{u:Value}{vs:List Lv}(h:K4 w fz rv c u vs):K4 w' fz rv c u vs:=by
 cases c with
 |box ls=>exact Ga.frame h hf
 |EM g bs=>
  obtain⟨b,T,fr,lb,hu,hz,hh,hb⟩:=h;exact⟨b,T,fr,lb,hu,hz,(hf b hz).trans hh,hb.frame hf⟩
 |row=>
  obtain⟨e,b,T,fr,hu,hz,hh⟩:=h;exact⟨e,b,T,fr,hu,hz,(hf b hz).trans hh⟩
theorem EO.frame{w w':World}{fz:Nat->Prop}{rv:Value}(hf:∀b,fz b->w'.heap[b]?=w.heap[b]?):∀ {cs:List Ka} {us:ADh} {vs:List Lv},EO w fz rv cs us vs->EO w' fz rv cs us vs
 | [],[],vs,h=>h
 |c::cs,u::us,vs,h=>by obtain⟨x,y,e,h1,h2⟩:=h;exact⟨x,y,e,h1.frame hf,EO.frame hf h2⟩
 | [],_::_,vs,h=>h.elim
 |_::_,[],vs,h=>h.elim
def Jm(s:St)(W:Wd)(ps:List (Nat×Nat))(bs:Is):Prop:=bs.length=ps.length/\∀(k:Nat)(p:Nat×Nat)(b:Nat),ps[k]?=some p->bs[k]?=some b->(s.root p.1).box=true->(s.root p.1).AA=p.2->b=W.bk p.1
theorem Jm.cons{p:Nat×Nat}{ps:List (Nat×Nat)}{bs:Is}(h:Jm s W (p::ps) bs):∃b bs',bs=b::bs'/\((s.root p.1).box=true->(s.root p.1).AA=p.2->b=W.bk p.1)/\Jm s W ps bs':=by
 obtain⟨h1,h2⟩:=h
 match bs,h1 with
 |b::bs,h1=>exact⟨b,bs,rfl,h2 0 p b rfl rfl,No,λk q c hq hc=>h2 (k+1) q c No No⟩
theorem Jm.nil{bs:Is}(h:Jm s W [] bs):bs=[]:=AAO h.1
def Nn(b:Nat):Value:=.pointer (some ⟨b,0,none⟩)
theorem N8(h:AU E s tm W){not r:Nat}{ls:List L}(hb:(s.root r).box=true)(zD:r≠not)(hlen:(s.root r).ls.length=ls.length)(hlf:(s.root r).ls.all N0=true){β:Type}{z:β}{k:List Lv->Step β}(hl:(s.data ls (BC r 0 (s.root r).ls) k).leads z):
  ∃x,(k x).leads z/\Ga W.w (Kd W not) ls (Nn (W.bk r)) x:=by
 obtain⟨_,ze⟩:=h.roots r;rw[AAP hb]at ze;obtain⟨hob,arr,T,fr,hh,zH,zO,zW⟩:=ze
 obtain⟨vs,hl,zw,hvm,hvs⟩:=Ew h (g:=λj=>arr[j]?) (λj b hj=>by
  rw[Cz]at hj;cases hq:(s.root r).ls[j]? with
  |none=>grind
  |some y=>
   rw[hq]at hj;injection hj with hj
   have zA:j<(s.root r).ls.length:=(AAK.1 hq).1;have yr:s.leaf r j=y:=by unfold St.leaf;rw[Ae,hq];rfl
   have zP:W.cv r j=some (arr[j]'(by omega)):=by rw[zW];exact AAh _
   refine⟨arr[j]'(by omega),AAh _,?_⟩;rw[<-hj,AAY];exact LK h yr zP) hl
 refine⟨vs,hl,W.bk r,arr,T,fr,rfl,.inr ⟨.blk r,(λj e=>by cases e),No⟩,hh,J,hvm,λj lv hj=>?_⟩;obtain⟨u,hu,hr⟩:=hvs j lv hj;refine⟨u,hu,L.AI lv.l hr (λ_ _=>rfl) λb hb=>?_⟩;rcases hb with hb|⟨r',zk,j',hb⟩
 ·exact .inl hb
 ·refine .inr ⟨.lf r' j',λj e=>?_,hb⟩;injection e with e1 e2
  have:r'=r:=by
   obtain⟨y,hy,hy'⟩:=AAL.1 zk;obtain⟨i,hi⟩:=AAq hy;rw[Cz]at hi;cases hq:(s.root r).ls[i]? with
   |none=>rw[hq]at hi;cases hi
   |some y0=>
    rw[hq]at hi;injection hi with hi
    subst hi;have:=AAW.1 hlf y0 (AAN hq);cases y0 with
    |arr=>simpa[seen,LA.roots]using hy'
    |sc=>simp[seen,LA.roots]at hy'
    |_=>cases this
  omega
theorem Hh(h:AU E s tm W){not:Nat}{β:Type}{z:β}:∀ {bs:List (List L)} {ps:List (Nat×Nat)} {ks:Is} {k:List Lv->Step β},Jm s W ps ks->(DQ s not bs ps k).leads z->∃x,(k x).leads z/\D1 W.w (Kd W not) bs (ks.map Nn) x
 | [],[],ks,k,hk,hl=>by rw[hk.nil];exact⟨[],hl,rfl⟩
 |ls::bs,(r,AA)::ps,ks,k,hk,hl=>by
  obtain⟨b,ks',rfl,hb0,hk'⟩:=hk.cons;simp only[DQ]at hl;split at hl
  ·rename_i hc;simp only[AAJ,AAT,bne_iff_ne,ne_eq]at hc;obtain⟨⟨⟨⟨hb,zC⟩,zD⟩,hlen⟩,zq⟩:=hc;obtain⟨x,hl,hx⟩:=N8 h hb zD hlen zq hl;obtain⟨y,hl,hy⟩:=Hh h hk' hl;have e:b=W.bk r:=hb0 hb zC;exact⟨_,hl,x,y,rfl,No,hy⟩
  ·exact hl.elim
 | [],_::_,ks,k,hk,hl=>hl.elim
 |_::_,[],ks,k,hk,hl=>hl.elim
theorem G8(h:AU E s tm W){c:Loc}{qs:List (Nat×Nat)}{rv:Value}(hrv:W.cv c.r c.j=some rv){β:Type}{z:β}:∀ {cs:List Ka} {ps:List (Nat×Nat)} {ks:Is} {k:List Lv->Step β},Jm s W ps ks->(Bw s c qs cs ps k).leads z->∃x,(k x).leads z/\EO W.w (Kd W c.r) rv cs (ks.map Nn) x
 | [],[],ks,k,hk,hl=>by rw[hk.nil];exact⟨[],hl,rfl⟩
 | .box ls::cs,p::ps,ks,k,hk,hl=>by
  obtain⟨b,ks',rfl,hb0,hk'⟩:=hk.cons;simp only[Bw]at hl
  have hk1:Jm s W [p] [b]:=⟨rfl,λi q d hq hd=>by
   grind⟩
  obtain⟨x,hl,hx⟩:=Hh h hk1 hl;obtain⟨y,hl,hy⟩:=G8 h hrv hk' hl;obtain⟨x1,x2,e,h1,h2⟩:=hx;have e2:x2=[]:=h2;subst e2;exact⟨_,hl,x,y,rfl,by rw[e,List.append_nil];exact h1,hy⟩
 | .EM g bs::cs,(r,AA)::ps,ks,k,hk,hl=>by
  obtain⟨b,ks',rfl,hb0,hk'⟩:=hk.cons;simp only[Bw]at hl;split at hl
  ·rename_i g' ps' qs' hls;split at hl
   ·rename_i hc;simp only[AAJ,AAT,bne_iff_ne,ne_eq]at hc;obtain⟨⟨⟨⟨hb,zC⟩,zD⟩,hg⟩,zq⟩:=hc;subst hg;obtain⟨hlf,ze⟩:=h.roots r;rw[AAP hb]at ze;obtain⟨hob,arr,T,fr,hh,zH,zO,zW⟩:=ze;rw[hls]at zO;have zO:arr.size=1:=zO
    obtain⟨u,hu⟩:∃u,arr = #[u]:=by
     match arr,zO with
     |⟨[u]⟩,_=>grind
    have hl0:=hlf 0;rw[hls]at hl0;have hl0:[]=W.om (.lf r 0)\/True:=.inr trivial;have hl1:=hlf 0;rw[hls]at hl1;have hclo:AQ s W (.EM g ps' qs') u:=hl1.2 u No;obtain⟨ks2,hv2,hlen2,hk2⟩:=hclo;obtain⟨x,hl,hx⟩:=Hh h (ks:=ks2) ⟨hlen2,hk2⟩ hl;obtain⟨y,hl,hy⟩:=G8 h hrv hk' hl;have e:b=W.bk r:=hb0 hb zC;refine⟨_,hl,x,y,rfl,?_,hy⟩;refine⟨W.bk r,T,fr,_,by rw[e];rfl,.inr ⟨.blk r,(λj e=>by cases e),No⟩,?_,hx⟩;rw[hh,hu,hv2];rfl
   ·exact hl.elim
  ·exact hl.elim
 | .row::cs,(r,AA)::ps,ks,k,hk,hl=>by
  obtain⟨b,ks',rfl,hb0,hk'⟩:=hk.cons;simp only[Bw]at hl;split at hl
  ·rename_i hc;simp only[AAJ,AAT]at hc;obtain⟨⟨⟨⟨hb,zC⟩,hr⟩,hj⟩,hlen⟩:=hc;obtain⟨y,hl,hy⟩:=G8 h hrv hk' hl;obtain⟨hlf,ze⟩:=h.roots r;rw[AAP hb]at ze;obtain⟨hob,arr,T,fr,hh,zH,zO,zW⟩:=ze
   obtain⟨u,hu⟩:∃u,arr = #[u]:=by
    have zO:arr.size=1:=by rw[zO,hlen]
    match arr,zO with
    |⟨[u]⟩,_=>exact⟨u,rfl⟩
   have hrv':=hrv;rw[<-hr,hj,zW,hu]at hrv';have hurv:u=rv:=by simpa using hrv'
   have e:b=W.bk r:=hb0 hb zC;refine⟨_,hl,[],y,rfl,⟨rfl,W.bk r,T,fr,by rw[e];rfl,.inr ⟨.blk r,(λj e=>by cases e),by rw[hob];simp⟩,?_⟩,hy⟩;grind
  ·exact hl.elim
 | [],_::_,ks,k,hk,hl=>hl.elim
 | .box _::_,[],ks,k,hk,hl=>hl.elim
 | .EM _ _::_,[],ks,k,hk,hl=>hl.elim
 | .row::_,[],ks,k,hk,hl=>hl.elim
theorem GQ(hc:Dt P cx)(h:AU E s a.tmps W){t:TypeId}{x:Operand}(ho:o.op=.makeInterface t x)(hl:(AB cx v o s).leads ws):Bc P E o a W.w (s.app ws):=by
 simp only[AB,ho]at hl;have h1:=Ac h x;split at hl
 ·rename_i ty c ht hx;split at hl
  ·exact hl.elim
  ·rename_i hag;split at hl
   ·rename_i t' e hls;rw[AM hl];rw[hx]at h1;have za:P.underlying t=some (.slice t'):=(Cm hc ht hls No:Gb P t (.sl t' e)).1;refine AR h (u:=.iface t (a.eval x)) ?_ (show AQ s W (.JR t c) _ from⟨_,rfl,h1⟩);simp[execOp,ho,Instr.makeInterface,run_underlying za]
   ·exact hl.elim
 ·exact hl.elim
theorem LF(h:AU E s a.tmps W):∀ {xs:List Operand} {ps:List (Nat×Nat)},Dk s (xs.map s.Ao)=some ps->xs.map a.eval=(ps.map λp=>W.bk p.1).map (λb=>Value.pointer (some ⟨b,0,none⟩))
 | [],ps,hp=>by simp only[List.map_nil,Dk,Option.some.injEq]at hp;subst hp;rfl
 |x::xs,ps,hp=>by
  have hx:=BN h x;rw[ABK]at hp;unfold Dk at hp;split at hp
  ·grind
  ·rename_i r AA vs e;injection e with e1 e2
   split at hp
   ·rename_i hc;simp only[AAJ,AAT]at hc;split at hp
    ·rename_i ps' hps';injection hp with hp
     subst hp;rw[<-e2]at hps';have ih:=LF h hps';rw[e1]at hx;have hx:a.eval x=.pointer (some ⟨W.bk r,0,none⟩):=hx hc.1 hc.2;grind
    ·cases hp
   ·cases hp
  ·cases hp
theorem KM(h:AU E s a.tmps W){fn:Fn}{xs ys:Array Operand}(ho:o.op=.makeFunc fn xs ys)(hl:(AB cx v o s).leads ws):Bc P E o a W.w (s.app ws):=by
 cases fn with
 |func g=>
  simp only[AB,ho]at hl;split at hl
  ·rename_i zO;split at hl
   ·rename_i ps hps;rw[AM hl];have hp:=LF h hps;have hx0:xs = #[]:=Array.size_eq_zero_iff.1 (by simpa using zO);refine AR h (u:=.func (.func g) #[] (ys.map a.eval)) ?_ (show AQ s W (.EM g ps (behind s ps)) _ from⟨ps.map λp=>W.bk p.1,?_,OF,λk p b hk hb _ _=>?_⟩)
    ·simp[execOp,ho,Instr.makeFunc,hx0]
    ·rw[<-hp,<-ABI,Array.toArray_toList]
    grind
   ·exact hl.elim
  ·exact hl.elim
 |_=>simp only[AB,ho]at hl;exact hl.elim
theorem M9{l:List Operand}{f:Operand->AV}{p q:AV}(h:l.map f=[p,q]):∃x y,l=[x,y]/\f x=p/\f y=q:=by
 match l,h with
 | [x,y],h=>grind
theorem L1(h:AU E s a.tmps W)(hv:Ad s v){fid g:FuncId}{σ:Oa}(hso:MG P fid g σ){cl:Loc}{gen:Nat}{t0:TypeId}{xs zs:By}{ks:Is}{vs:List Lv}{u:Value}{y:(E6 (σ.JN.flatMap Ka.kinds)).D}
  (yr:s.leaf cl.r cl.j=.arr cl.AA gen t0 (.one (.int .i64)) xs 2) (zW:W.cv cl.r cl.j=some u) (zE:AD (.one (.int .i64)) 2 W.w W.fz u xs (W.om (.lf cl.r cl.j))) (hcaps:EO W.w (Kd W cl.r) u σ.JN (ks.map Nn) vs) (hy:pack (E6 (σ.JN.flatMap Ka.kinds)) vs=some y)
  (hzs:M5 (σ.lt y) xs=some zs):Calls P fid #[.iface σ.t u,.func (.func g) #[] (ks.map λb=>Value.pointer (some ⟨b,0,none⟩)).toArray] W.w λen w'=>en=.returned (.tuple #[])/\
   ∃W1:Wd,W1.w=w'/\AU E (s.app [.leaf cl.r cl.j (.arr cl.AA v t0 (.one (.int .i64)) zs 2)]) a.tmps W1:=by
 have zx:∀b,Kd W cl.r b->b∉W.om (.lf cl.r cl.j):=by
  intro b hb yt;rcases hb with hb|⟨k,hk,hb⟩
  ·exact(h.sep.own _ b yt).1 hb
  ·exact h.sep.A4 k _ (hk _) b hb yt
 have helt:∀b,Kd W cl.r b->b<W.w.heap.size:=by
  intro b hb;rcases hb with hb|⟨k,hk,hb⟩
  ·exact(h.sep.fz b hb).1
  ·exact(h.sep.own _ b hb).2.1
 have Nv:xs.length<=1->Calls P fid #[.iface σ.t u,.func (.func g) #[] (ks.map λb=>Value.pointer (some ⟨b,0,none⟩)).toArray] W.w (λen w'=>en=.returned (.tuple #[])/\∃os,w'=Go.Sort.grow W.w os):=by intro hlen;obtain⟨A,cc,huv,hcc,_⟩:=zE.Kb;rw[huv];exact hso.sort.Nv A _ cc hlen _ _ _ _
 unfold M5 at hzs;by_cases hlen1:xs.length<=1
 ·rw[show decide (xs.length<=1)=true by simpa using hlen1]at hzs;injection hzs with hzs
  refine(Nv hlen1).mono ?_
  rintro en w' ⟨rfl,os,rfl⟩
  refine⟨rfl,?_⟩;have hrel:=h.Jh hv (e:=.one (.int .i64)) (zm:=xs) yr zW zE (λb _=>rfl) rfl ⟨rfl,rfl,rfl⟩;rw[hzs]at hrel;refine⟨_,rfl,hrel.world (w':=Go.Sort.grow W.w os) (hrel.KW λb hb=>Go.Sort.heap_grow_old _ _ hb) (λb hb _=>Go.Sort.heap_grow_old _ _ ADv) (by show W.w.heap.size<=(Go.Sort.grow W.w os).heap.size;rw[Go.Sort.size_grow];omega) ⟨rfl,rfl,rfl⟩⟩
 ·rw[show decide (xs.length<=1)=false by grind,cond_false]at hzs;cases zh:(decide (xs.length<=20)&&xs.all λx=>xs.all λz=>(σ.lt y x z).isSome)with
  |false=>grind
  |true=>
   rw[zh,cond_true]at hzs;injection hzs with hzs
   simp only[AAJ,AAf]at zh;obtain⟨h20,zq⟩:=zh;obtain⟨A,cc,huv,hcc,hnone,zZ⟩:=zE.Kb;have hcc:xs.length<=cc:=hcc;cases A with
   |none=>grind
   |some ad=>
    obtain⟨arr,T,fr,os1,hspot,hh,zb,AAA,zN,hoo,_⟩:=zZ ad rfl (.inr J);have zH:=AAA J;obtain⟨blk,off,sp⟩:=ad;dsimp only at hspot hh zb zN hoo;subst hspot;have zb:off+cc*1<=arr.size:=zb;have zU:blk∈W.om (.lf cl.r cl.j):=by rw[hoo J];exact AAg
    have hblt:blk<W.w.heap.size:=(h.sep.own _ blk zU).2.1
    have hcellv:∀i (hi:i<xs.length),arr[off+i]?=some (.int .i64 (xs[i])):=by intro i hi;have h3:=zN i hi;simp only[Ls.rd]at h3;obtain⟨w3,hw3,h4,_⟩:=h3;have hw3:arr[off+(i*1+0)]?=some w3:=hw3;rw[Nat.mul_one,AAx]at hw3;rw[hw3];exact congrArg some h4
    obtain⟨x0,hx0⟩:∃x0,x0∈xs:=by
     match hq:xs,hlen1 with
     |x::_,_=>grind
    letI:Inhabited {x:Int // x∈xs}:=⟨⟨x0,hx0⟩⟩
    let D:Array {x:Int // x∈xs}:=xs.attach.toArray
    have hDs:D.size=xs.length:=by simp[D]
    have hDm:D.map Subtype.val=xs.toArray:=by simp[D]
    let enc:{x:Int // x∈xs}->Value:=λx=>.int .i64 x.1
    let lt':{x:Int // x∈xs}->{x:Int // x∈xs}->Bool:=λp q=>Ou (σ.lt y) p.1 q.1
    have hholds:Holds enc W.w blk off D:=by
     intro j hj;rw[hDs]at hj;refine⟨?_,?_⟩
     ·simp only[World.cell?,hh];grind
     ·have zA:off+j<arr.size:=J
      have:=zH (off+j) zA;obtain⟨lo,hi⟩:=fr;simp only[World.frozen?,hh];grind
    have zp:∀(m:Nat)(os:Array Obj)(dk:Array {x:Int // x∈xs}),dk.size=D.size->∀i j:Nat,i<D.size->j<D.size->
      Calls P g (#[.int .i64 i,.int .i64 j]++(ks.map λb=>Value.pointer (some ⟨b,0,none⟩)).toArray) (Go.Sort.grow (Go.Sort.putRow enc (Go.Sort.ahead W.w m) blk off dk) os) λe w'=>e=.returned (.bool (lt' dk[i]! dk[j]!))/\∃q zn,w'=Go.Sort.grow ((Go.Sort.grow (Go.Sort.putRow enc (Go.Sort.ahead W.w m) blk off dk) os).drewN q) zn:=by
     intro m os dk hdk i j hi hj
     have hframe:∀b,Kd W cl.r b->(Go.Sort.grow (Go.Sort.putRow enc (Go.Sort.ahead W.w m) blk off dk) os).heap[b]?=W.w.heap[b]?:=by intro b hb;rw[Go.Sort.heap_grow_old _ _ (by rw[Go.Sort.size_putRow];exact helt b hb),Gv enc _ blk off dk (b:=b) (λe=>zx b hb (e▸zU))];rfl
     have hc2:=hcaps.frame hframe;rw[huv]at hc2
     have hval:σ.lt y dk[i]!.1 dk[j]!.1=some (lt' dk[i]! dk[j]!):=by have h5:=AAW.1 zq dk[i]!.1 dk[i]!.2;have h6:=AAW.1 h5 dk[j]!.1 dk[j]!.2;obtain⟨b,hb⟩:=Option.isSome_iff_exists.1 h6;show _=some (Ou (σ.lt y) dk[i]!.1 dk[j]!.1);unfold Ou;rw[hb]
     exact hso.less _ _ _ _ y blk off xs.length cc (λt=>dk[t]!.1) hc2 hy (λt ht=>by
      rw[Go.Sort.cell?_grow _ _ _ (by show blk<_;rw[Go.Sort.size_putRow];exact hblt)];exact Go.Sort.cell?_putRow enc (Go.Sort.ahead W.w m) blk off D dk hholds hdk t J) h20 i j J J _ hval
    have zy:=hso.sort.many _ enc (λ_=>rfl) lt' g (ks.map λb=>Value.pointer (some ⟨b,0,none⟩)).toArray hso.enters blk off cc D J J W.w zp hholds hblt;rw[hDs]at zy;rw[huv];refine zy.mono ?_
    rintro en w' ⟨rfl,n,os,rfl⟩
    refine⟨rfl,?_⟩;obtain⟨hmap,zz⟩:=Fx Subtype.val lt' (Ou (σ.lt y)) (λ_ _=>rfl) D xs.length J;rw[hDm]at hmap;generalize hS:insertionSort lt' D 0 xs.length=S at hmap zz;rw[hmap]at hzs
    have hzl:zs.length=xs.length:=by rw[<-hzs];simp[zz,hDs]
    have hzget:∀i (hi:i<xs.length),zs[i]?=some S[i]!.1:=by intro i hi;rw[<-hzs,getElem!_pos S i J];simp[zz,hDs,hi]
    have zI:NI W.w (Go.Sort.putRow enc (Go.Sort.ahead W.w n) blk off S) blk (Go.Sort.putCells enc off S arr) T fr:={
     here:=KQ enc (Go.Sort.ahead W.w n) blk off S hh
     CI:=λb hb=>Gv enc (Go.Sort.ahead W.w n) blk off S hb
     size:=Go.Sort.size_putRow enc (Go.Sort.ahead W.w n) blk off S
     rest:=⟨rfl,rfl,rfl⟩ }
    have hpsz:(Go.Sort.putCells enc off S arr).size=arr.size:=by simp[Go.Sort.putCells]
    have yz:AD (.one (.int .i64)) 2 (Go.Sort.putRow enc (Go.Sort.ahead W.w n) blk off S) W.fz (.slice (some ⟨blk,off,none⟩) zs.length cc) zs (blk::(List.range zs.length).flatMap λ_=>[]):=by
     refine Gs (e:=.one (.int .i64)) (xs:=zs) (ad:=⟨blk,off,none⟩) zI.here rfl No No (show zs.length<=cc by omega) ?_;intro i hi;have hi:i<zs.length:=hi;rw[hzl]at hi;simp only[Ls.rd]
     have zP:(Go.Sort.putCells enc off S arr)[off+i]?=some (enc S[i]!):=by simp only[Go.Sort.putCells,Array.getElem?_mapIdx,hcellv i hi,AA6];rw[AAP ⟨J,J⟩,show off+i-off=i by omega]
     refine⟨enc S[i]!,?_,?_,rfl⟩
     ·show(Go.Sort.putCells enc off S arr)[off+(i*1+0)]?=_;grind
     ·have h7:=hzget i hi;rw[AAI J]at h7;injection h7 with h7
      exact(congrArg (Value.int .i64) h7).symm
    have hod:(blk::(List.range zs.length).flatMap λ_=>([]:Is))=W.om (.lf cl.r cl.j):=by
     rw[hoo J];congr 1
     have:(List.range xs.length).flatMap os1=[]:=by rw[List.flatMap_eq_nil_iff];intro i hi;have h3:=zN i (AAX.1 hi);simp only[Ls.rd]at h3;obtain⟨w3,hw3,_,h4⟩:=h3;exact h4
     rw[EB];exact this.symm
    rw[hod,hzl]at yz;rw[huv]at zW;have hrel:=h.Jh hv (e:=.one (.int .i64)) (zm:=zs) yr zW yz (λb hb=>zI.CI b λe=>hb (e▸zU)) zI.size zI.rest;refine⟨_,rfl,hrel.world (w':=Go.Sort.grow (Go.Sort.putRow enc (Go.Sort.ahead W.w n) blk off S) os) (hrel.KW λb hb=>Go.Sort.heap_grow_old _ _ hb) (λb hb hio=>Go.Sort.heap_grow_old _ _ (by show b<(Go.Sort.putRow enc (Go.Sort.ahead W.w n) blk off S).heap.size;rw[zI.size];have:=h.sep.size;omega)) (by show _<=(Go.Sort.grow (Go.Sort.putRow enc (Go.Sort.ahead W.w n) blk off S) os).heap.size;rw[Go.Sort.size_grow];grind) ⟨rfl,rfl,rfl⟩⟩
theorem L2(zQ:DO P E cx.env)(h:AU E s a.tmps W)(hv:Ad s v){c:Call}{f:Operand}{fid:FuncId}{d:Nat}(ho:o.op=.call c)(hb:c.callee=.value f)(zl:o.dst=some d)(hdlt:d<a.tmps.size)(hf:a.eval f=.func (.func fid) #[] #[])
  (hl:(Dz cx s d v fid (c.args.toList.map s.Ao) λws=>.go ws).leads ws):Bc P E o a W.w (s.app ws):=by
 unfold Dz at hl;split at hl
 ·rename_i t cl g ps qs zY;split at hl
  ·rename_i σ hσ;split at hl
   ·rename_i AA gen t0 xs yr;split at hl
    ·rename_i zB;simp only[AAJ,AAT,AAU]at zB;obtain⟨⟨⟨zC,hp⟩,hpin⟩,hts⟩:=zB;subst zC;subst hts;have hp:cl.p=[]:=by cases hq:cl.p<;>simp_all[isNil]
     obtain⟨x1,x2,hxy,hx1,hx2⟩:=M9 zY;have hargs2:c.args = #[x1,x2]:=No
     have h1:=BN h x1;have h2:=BN h x2;rw[hx1]at h1;rw[hx2]at h2;obtain⟨u,hu1,hu2⟩:AQ s W (.JR σ.t cl) (a.eval x1):=h1;obtain⟨ks,hk1,hk2⟩:AQ s W (.EM g ps qs) (a.eval x2):=h2;obtain⟨h',e',zW,hn⟩:=hu2 _ _ _ _ _ yr (.inl hp);rw[hp]at hn;obtain⟨rfl,rfl⟩:=hn;obtain⟨u',zG,zE⟩:=(h.roots cl.r).row yr;rw[zW]at zG;injection zG with zG;subst zG
     obtain⟨vs,hl,hcaps⟩:=G8 h zW (ks:=ks) hk2 hl;split at hl
     ·rename_i y hy;obtain⟨zs,hzs,hl⟩:=hl;have hl:_=ws:=hl;have hso:=zQ.1.Oy fid g σ hσ;obtain⟨fn,cb,hfn1,hfn2,hfn3⟩:=hso.sort.body
      have hrunc:(execOp a.eval o).run P W.w=.ok (.enter fid #[a.eval x1,a.eval x2]) W.w:=by
       have hfn3 : ¬ fn.name = "runtime.NumGoroutine" := by simpa using hfn3
       simp[execOp,ho,hb,hargs2,resolve,invoke,hf,Deferred.ofValue,callFunc,hfn1,hfn2,hfn3]
      have fin:∀w':World,(∃W1:Wd,W1.w=w'/\AU E (s.app [.leaf cl.r cl.j (.arr cl.AA v t0 (.one (.int .i64)) (show By from zs) 2)]) a.tmps W1)->∀(next:Act->World->Prop),(∀a' W',a'.defers=a.defers->AU E (s.app ws) a'.tmps W'->next a' W'.w)->next (a.put o.dst (.tuple #[])) w':=by
       intro w' ⟨W1,hW1,yu⟩ next hnext
       have hs:=yu.slot d (x:=.Dr []) (u:=.tuple #[]) ⟨#[],rfl,rfl,λj p hj=>ADu⟩;rw[<-hW1];refine hnext _ W1 (by rw[zl];rfl) ?_;rw[<-hl,zl];exact hs
      intro next Q hnext
      unfold Oper.wp;rw[hrunc,Oper.upon_enter,hu1,hk1];have hcore:=L1 (v:=v) (zs:=zs) h hv hso yr zW zE hcaps hy hzs;refine hcore.mono ?_
      rintro en w' ⟨rfl,W1,hW1,yu⟩
      exact fin _ ⟨W1,hW1,yu⟩ next hnext
     ·exact hl.elim
    ·exact hl.elim
   ·exact hl.elim
  ·exact hl.elim
 ·exact hl.elim
end
end Go.Ev
namespace Go.Ev
section
variable {P:Program}{E:Cy}{s:St}{W:Wd}{o:Oper}{a:Act}{ws:List Wr}{cx:Cx}{v:Nat}{tm:Array Value}
theorem Nf(zQ:DO P E cx.env)(h:AU E s a.tmps W)(hv:Ad s v){c:Call}{f:Operand}(ho:o.op=.call c)(hb:c.callee=.value f)(hd:∀d,o.dst=some d->d<a.tmps.size)(hl:(AB cx v o s).leads ws):Bc P E o a W.w (s.app ws):=by
 simp only[AB,ho,hb]at hl;have hf:=Ac h f;split at hl
 ·rename_i fid d hfid zl;rw[hfid]at hf;have hf:a.eval f=.func (.func fid) #[] #[]:=hf;unfold call at hl;split at hl
  ·exact L2 zQ h hv ho hb zl (hd d zl) hf hl
  ·rename_i g hg;cases hmk:g.s.mk? with
   |true=>
    rw[hmk,AAP rfl]at hl
    obtain⟨yv,T,hl,l1,l3,l4,hn,heach⟩:=JL h g.s.ps (c.args.toList.map s.Ao) (c.args.toList.map a.eval) OF (λi av u h1 h2=>by
     rw[AAb]at h1 h2;cases hx:c.args.toList[i]? with
     |none=>rw[hx]at h1;cases h1
     |some x=>
      rw[hx]at h1 h2;injection h1 with h1;injection h2 with h2
      subst h1;subst h2;exact BN h x) hl
    split at hl
    ·rename_i hap;simp only[AAJ]at hap;obtain⟨hpl,hvr⟩:=hap
     have hvr:Af g.s.ps (c.args.toList.map s.Ao)=[]:=by
      revert hvr
      cases Af g.s.ps (c.args.toList.map s.Ao)with
      |nil=>intro _;rfl
      |cons=>intro h;cases h
     split at hl
     ·exact hl.elim
     ·rename_i y hy;obtain⟨z,hz,hl⟩:=hl;have hl:_=ws:=hl
      have hh:Handed s W g.s.ps (c.args.toList.map s.Ao) (c.args.toList.map a.eval) yv T:={
       l1:=l1
       l2:=by rw[<-l1];simp
       l3:=l3
       l4:=l4
       nodup:=hn
       each:=heach
       apart:=λr hr=>by rw[hvr]at hr;cases hr }
      obtain⟨hfn,fn,cb,hfn1,hfn2,hfn3⟩:=zQ.1.fns fid g hg;have zy:=hfn (c.args.toList.map a.eval) W.w (Seen W (Af g.s.ps (c.args.toList.map s.Ao))) yv _ _ y z (zQ.PU h.sep λk b hb=>let ⟨a,_,h2⟩:=Cb hh hb;⟨a,h2⟩) (GI h hh) hy hz;rw[hmk]at zy;intro next Q hnext
      have zF:(execOp a.eval o).run P W.w=.ok (.enter fid (c.args.toList.map a.eval).toArray) W.w:=by
       have:(c.args.toList.map a.eval).toArray=c.args.map a.eval:=by rw[<-ABI,Array.toArray_toList]
       rw[this]
       have hfn3 : ¬ fn.name = "runtime.NumGoroutine" := by simpa using hfn3
       simp[execOp,ho,hb,resolve,invoke,hf,Deferred.ofValue,callFunc,hfn1,hfn2,hfn3]
      unfold Oper.wp;rw[zF,Oper.upon_enter];refine zy.mono ?_
      rintro en w' ⟨r,yw,b0,rfl,mo⟩
      obtain⟨rfl,hkinds,cs,T0,fr,zP,zt,hlen,hread⟩:=mo.box;have zw:(unpack g.s.outs z).length=g.s.G4.length:=by have:=congrArg List.length hkinds;simpa using this
      have hzero:∀p∈g.s.G4,p.2=0:=λp hp=>by unfold Sm.plain at hpl;simp only[AAJ]at hpl;simpa using AAW.1 hpl.2 p hp
      obtain⟨W',hW',yu⟩:=h.Lt hv (hd d zl) (bs:=AY v g.s.G4 (unpack g.s.outs z)) mo.frame mo.size mo.rest (λx hx=>by
       obtain⟨a1,a2⟩:=mo.fz x hx;refine⟨a1,a2.imp (λh=>?_) id⟩;rcases h with h|⟨r,hr,_⟩
       ·exact h
       ·rw[hvr]at hr;cases hr) mo.new zP zt (by rw[Bl _ _ _ zw];exact hlen) (λj b hj=>by
       have hjl:j<g.s.G4.length:=by have:=(AAK.1 hj).1;rwa[Bl _ _ _ zw]at this
       have q1:=AAI hjl;have q2:=AAI (show j<(unpack g.s.outs z).length by omega);have q3:=B7 v _ _ j _ _ q1 q2;rw[q3]at hj;injection hj with hj
       obtain⟨y',hy',hr⟩:=hread j _ _ q1 q2;rw[hzero _ (List.getElem_mem hjl)]at hr hj;refine⟨_,_,y',?_,hy',hr⟩;rw[<-hj];generalize (unpack g.s.outs z)[j]=lv;obtain⟨l,x⟩:=lv;cases l<;>rfl)
      rw[<-hl,zl]at *;rw[<-hW'];exact hnext _ W' rfl yu
    ·exact hl.elim
   |false=>
   rw[hmk]at hl;simp only[ABP,if_false]at hl
   obtain⟨yv,T,hl,l1,l3,l4,hn,heach⟩:=JL h g.s.ps (c.args.toList.map s.Ao) (c.args.toList.map a.eval) OF (λi av u h1 h2=>by
    rw[AAb]at h1 h2;cases hx:c.args.toList[i]? with
    |none=>rw[hx]at h1;cases h1
    |some x=>
     rw[hx]at h1 h2;injection h1 with h1;injection h2 with h2
     subst h1;subst h2;exact BN h x) hl
   split at hl
   ·rename_i hap;split at hl
    ·exact hl.elim
    ·rename_i y hy;obtain⟨z,hz,hl⟩:=hl;cases hback:D6 d v g.s.rs (unpack g.s.outs z) 0 with
     |none=>simp only[hback]at hl;exact hl.elim
     |some bol=>
      obtain⟨bs,own,left⟩:=bol;simp only[hback]at hl;generalize hfs:(if fresh g.s.G4=true then some []else Ar cx s (Af g.s.ps (c.args.toList.map s.Ao)))=fso at hl;split at hl
      ·rename_i pw fs hpw;have hl:_=ws:=hl
       have hh:Handed s W g.s.ps (c.args.toList.map s.Ao) (c.args.toList.map a.eval) yv T:={
        l1:=l1
        l2:=by rw[<-l1];simp
        l3:=l3
        l4:=l4
        nodup:=hn
        each:=heach
        apart:=λr hr i p hT x hx e=>by
         have h1:=AAW.1 hap r hr;simp only[AAU]at h1;have h2:Fu (T.flatMap PT.EL) (r,none)=true:=AA3.2 ⟨x,AAL.2 ⟨p,AAN hT,hx⟩,by simp[Tg.Di,e]⟩;rw[h1]at h2;cases h2 }
       obtain⟨hfn,fn,cb,hfn1,hfn2,hfn3⟩:=zQ.1.fns fid g hg;have zy:=hfn (c.args.toList.map a.eval) W.w (Seen W (Af g.s.ps (c.args.toList.map s.Ao))) yv _ _ y z (zQ.PU h.sep λk b hb=>let ⟨a,_,h2⟩:=Cb hh hb;⟨a,h2⟩) (GI h hh) hy hz;rw[hmk]at zy;intro next Q hnext
       have zF:(execOp a.eval o).run P W.w=.ok (.enter fid (c.args.toList.map a.eval).toArray) W.w:=by
        have:(c.args.toList.map a.eval).toArray=c.args.map a.eval:=by rw[<-ABI,Array.toArray_toList]
        rw[this]
        have hfn3 : ¬ fn.name = "runtime.NumGoroutine" := by simpa using hfn3
        simp[execOp,ho,hb,resolve,invoke,hf,Deferred.ofValue,callFunc,hfn1,hfn2,hfn3]
       unfold Oper.wp;rw[zF,Oper.upon_enter];refine zy.mono ?_
       rintro en w' ⟨r,yw,zj,rv,vsR,vsP,rfl,co⟩
       obtain⟨W',hW',yu⟩:=NL (cx:=cx) h hv (hd d zl) hh co hfs hback hpw;rw[<-hl,zl]at *;rw[<-hW'];exact hnext _ W' rfl yu
      ·exact hl.elim
   ·exact hl.elim
 ·exact hl.elim
end
end Go.Ev
namespace Go.Ev
section
variable {P:Program}{E:Cy}{s:St}{W:Wd}{o:Oper}{a:Act}{ws:List Wr}{cx:Cx}{v:Nat}{tm:Array Value}
theorem Mp(hc:Dt P cx)(zQ:DO P E cx.env)(h:AU E s a.tmps W)(hv:Ad s v)(hd:∀d,o.dst=some d->d<a.tmps.size)(hl:(AB cx v o s).leads ws):Bc P E o a W.w (s.app ws):=by
 cases ho:o.op with
 |move x=>
  cases hn:H0 (s.Ao x)with
  |true=>exact Ku h hv ho hn hd hl
  |false=>exact Nh h ho hn hl
 |assign x=>exact Lq h hv ho hd hl
 |pick x y z=>exact Ni h ho hl
 |alloc t=>exact Mj hc zQ.1.OE h hv ho hd hl
 |box t x=>exact OO hc h hv ho hd hl
 |build t ps=>exact Ml hc h ho hl
 |buildSlice t n ps=>exact Ik hc h hv ho hd hl
 |load t x=>exact Ng hc h ho hl
 |store t x y=>exact Mq hc zQ.1.OE h hv ho hl
 |makeInterface t x=>exact GQ hc h ho hl
 |makeFunc fn xs ys=>exact KM h ho hl
 |nilCheck x=>exact KN h ho hl
 |binOp op tx x y ty=>exact Mk hc h ho hl
 |unOp op tx x=>exact Nj h ho hl
 |convert t1 t2 x=>exact Ks hc h ho hl
 |makeSlice t x y=>exact Jd hc h hv ho hd hl
 |slice ti x lo hi m=>
  cases m with
  |none=>exact Mo hc h ho hl
  |some m=>simp only[AB,ho]at hl;exact hl.elim
 |fieldAddr t x f=>exact Jb hc h ho hl
 |field t x f=>exact Mm hc h ho hl
 |indexAddr t x i=>exact Jc hc h ho hl
 |index t x i=>exact Mn hc h ho hl
 |extract x i=>exact Kt h ho hl
 |call c=>
  cases hb:c.callee with
  |builtin b=>
   cases b with
   |len=>exact OP hc h ho hb hl
   |append=>exact Lp hc h hv ho hb hd hl
   |min=>exact OR h ho hb hl
   |max=>exact OQ h ho hb hl
   |_=>simp only[AB,ho,hb]at hl;exact hl.elim
  |value f=>exact Nf zQ h hv ho hb hd hl
  |invoke r n=>simp only[AB,ho,hb]at hl;exact hl.elim
 |_=>simp only[AB,ho]at hl;exact hl.elim
end
end Go.Ev
namespace Go.Ev
section
variable {s s':St}{cx:Cx}{v:Nat}{β:Type}
theorem Ah{r:Nat}(h:s'.root r=s.root r)(j:Nat):s'.leaf r j=s.leaf r j:=by unfold St.leaf;rw[h]
theorem Bb{c:Loc}(h:s'.root c.r=s.root c.r)(k:(t:TypeId)->(e:Ls)->List e.D->Nat->Step β):s'.content c k=s.content c k:=by unfold St.content;rw[Ah h]
def A3(s s':St)(rs:Is):Prop:=∀r∈rs,s'.root r=s.root r
theorem B6{l:L}{la:LA}(h:A3 s s' la.roots)(k:l.D->Step β):s'.Au l la k=s.Au l la k:=by
 cases la with
 |ref c=>exact Bb (h c.r (by simp[LA.roots])) _
 |EI c lo hi=>exact Bb (h c.r (by simp[LA.roots])) _
 |_=>rfl
theorem DS:∀ {ls:List L} {as:List LA} (h:A3 s s' (as.flatMap LA.roots)) (k:List Lv->Step β),s'.data ls as k=s.data ls as k
 | [],[],h,k=>rfl
 | [],_::_,h,k=>rfl
 |_::_,[],h,k=>rfl
 |l::ls,a::as,h,k=>by simp only[St.data];rw[B6 λr hr=>h r (by simp[hr])];congr 1;funext x;exact DS (λr hr=>h r No) _
theorem KF{la:LA}(h:A3 s s' la.roots)(n:Nat)(k:List LA->Step β):s'.DG la n k=s.DG la n k:=by
 cases la with
 |ptr r j AA=>simp only[St.DG];rw[h r (by simp[LA.roots])]
 |Bm c=>
  simp only[St.DG];split
  ·rfl
  ·rename_i q i off hq;have hg:s'.KA c.r c.j=s.KA c.r c.j:=by unfold St.KA;rw[Ah (h c.r (by simp[LA.roots]))]
   rw[hg];exact Bb (c:={ c with p:=q }) (h c.r (by simp[LA.roots])) _
 |_=>rfl
theorem Et{a:AV}(h:A3 s s' a.roots):A3 s s' a.one?.roots:=by
 cases a with
 |Dr vs=>intro r hr;cases hr
 |bx as=>intro r hr;cases hr
 |v g as=>
  cases g with
  |true=>intro r hr;cases hr
  |false=>cases as with
   |nil=>intro r hr;cases hr
   |cons b bs=>cases bs with
    |nil=>intro r hr;exact h r (AAL.2 ⟨b,OF,hr⟩)
    |cons=>intro r hr;cases hr
theorem Lk{a:AV}(h:A3 s s' a.roots)(n:Nat)(k:List LA->Step β):s'.FX a n k=s.FX a n k:=by
 cases a with
 |bx as=>rfl
 |v g as=>exact KF (Et h) n k
 |Dr vs=>exact KF (Et h) n k
theorem K9:∀ {as:List LA},A3 s s' (as.flatMap LA.roots)->MY s' as=MY s as
 | [],_=>rfl
 |a::as,h=>by
  unfold MY;simp only[List.any_cons];have ih:=K9 (as:=as) λr hr=>h r No;unfold MY at ih;rw[ih];congr 1;cases a with
  |ref c=>simp only;rw[h c.r (by simp[LA.roots])]
  |_=>rfl
theorem EU{la:LA}(h:A3 s s' la.roots):s'.alive la=s.alive la:=by
 cases la with
 |ptr r j AA=>simp only[St.alive];rw[h r (by simp[LA.roots])]
 |Bm c=>simp only[St.alive];rw[Ah (h c.r (by simp[LA.roots]))]
 |_=>rfl
theorem Nr{la:LA}(h:A3 s s' la.roots):s'.sure la=s.sure la:=by
 cases la with
 |ptr r j AA=>simp only[St.sure];rw[h r (by simp[LA.roots])]
 |ref c=>simp only[St.sure];rw[Ah (h c.r (by simp[LA.roots]))]
 |EI c lo hi=>simp only[St.sure];rw[Ah (h c.r (by simp[LA.roots]))]
 |Bm c=>simp only[St.sure];exact EU h
 |_=>rfl
theorem LN{la:LA}(h:A3 s s' la.roots)(l:L)(k:LA->List (Nat×Nat)->Step β):s'.take cx v la l k=s.take cx v la l k:=by
 cases la with
 |ptr r j AA=>simp only[St.take];rw[h r (by simp[LA.roots])]
 |ref c=>simp only[St.take];rw[Ah (h c.r (by simp[LA.roots]))];simp only[Bb (h c.r (by simp[LA.roots]))]
 |EI c lo hi=>simp only[St.take];rw[Ah (h c.r (by simp[LA.roots]))]
 |_=>rfl
theorem Em:∀ {ls:List L} {as:List LA} (h:A3 s s' (as.flatMap LA.roots)) (k:List LA->List (Nat×Nat)->Step β),s'.GA cx v ls as k=s.GA cx v ls as k
 | [],[],h,k=>rfl
 | [],_::_,h,k=>rfl
 |_::_,[],h,k=>rfl
 |l::ls,a::as,h,k=>by simp only[St.GA];rw[LN λr hr=>h r (by simp[hr])];congr 1;funext b us;exact Em (λr hr=>h r No) _
theorem M3{c:Loc}(h:s'.root c.r=s.root c.r)(g:Nat)(vs:List Lv):s'.KS g c vs=s.KS g c vs:=by unfold St.KS;rw[Ah h]
theorem JE{la:LA}(h:A3 s s' la.roots){as:List LA}(h2:A3 s s' (as.flatMap LA.roots))(ls:List L)(k:List Wr->Step β):s'.GZ cx v la ls as k=s.GZ cx v la ls as k:=by
 cases la with
 |ptr r j AA=>simp only[St.GZ];rw[h r (by simp[LA.roots]),Em h2]
 |Bm c=>
  simp only[St.GZ];have hh:s'.half c.r c.j=s.half c.r c.j:=by unfold St.half;rw[Ah (h c.r (by simp[LA.roots]))]
  have hs:s'.C4 v c ls as k=s.C4 v c ls as k:=by unfold St.C4;rw[Ah (h c.r (by simp[LA.roots]))];simp only[DS h2]
  rw[DS h2,Em h2,Ah (h c.r (by simp[LA.roots])),hh,hs];congr 2;funext vs;rw[M3 (h c.r (by simp[LA.roots]))]
 |_=>rfl
theorem MW{la:LA}(h:A3 s s' la.roots)(k:Int->Step β):lenOf s' la k=lenOf s la k:=by
 cases la with
 |ref c=>exact Bb (h c.r (by simp[LA.roots])) _
 |EI c lo hi=>exact Bb (h c.r (by simp[LA.roots])) _
 |_=>rfl
theorem GO{la:LA}(h:A3 s s' la.roots)(t:TypeId)(e:Ls)(k:List e.D->List (Nat×Nat)->Step β):Eh cx s' la t e k=Eh cx s la t e k:=by
 unfold Eh;rw[B6 h];cases la with
 |ref c=>simp only;rw[Ah (h c.r (by simp[LA.roots]))]
 |_=>rfl
theorem Ju{la lb:LA}(h:A3 s s' la.roots)(h2:A3 s s' lb.roots)(d v:Nat)(t:TypeId)(e:Ls)(k:List Wr->Step β):C7 cx s' d v t e la lb k=C7 cx s d v t e la lb k:=by
 cases la with
 |DN=>simp only[C7];exact GO h2 _ _ _
 |ref c=>
  simp only[C7];rw[Ah (h c.r (by simp[LA.roots]))];cases s.leaf c.r c.j with
  |arr AA gen t' e' xs dd=>
   simp only;split
   ·split
    ·exact GO h2 _ _ _
    ·rfl
   ·rfl
  |_=>rfl
 |EI c lo hi=>
  simp only[C7];rw[Ah (h c.r (by simp[LA.roots]))];cases s.leaf c.r c.j with
  |arr AA gen t' e' xs dd=>
   simp only;split
   ·split
    ·exact GO h2 _ _ _
    ·rfl
   ·rfl
  |_=>rfl
 |_=>rfl
theorem JK{la lb:LA}(h:A3 s s' la.roots)(h2:A3 s s' lb.roots)(d v:Nat)(t:TypeId)(e:Ls)(k:List Wr->Step β):Du cx s' d v t e la lb k=Du cx s d v t e la lb k:=by
 unfold Du;cases hn:nested la with
 |none=>
  have hh:Ee s' la=Ee s la:=by
   cases la with
   |ref c=>
    unfold Ee St.half;simp only[Ah (h c.r (by simp[LA.roots]))]
   |_=>rfl
  dsimp only;rw[hh];cases hq:Ee s la with
  |none=>exact Ju h h2 d v t e k
  |some c=>
   have hc:c.r∈la.roots:=by
    unfold Ee at hq;split at hq
    ·split at hq
     ·split at hq
      ·injection hq with hq;subst hq;simp[LA.roots]
      ·cases hq
     ·cases hq
    ·cases hq
   dsimp only;unfold D3;rw[Ah (h c.r hc)];simp only[B6 h2]
 |some c=>
  have hc:c.r∈la.roots:=by
   unfold nested at hn;split at hn
   ·split at hn
    ·injection hn with hn;subst hn;simp[LA.roots]
    ·cases hn
   ·cases hn
  dsimp only;unfold D4;rw[Ah (h c.r hc)];simp only[Bb (h c.r hc),B6 h2]
theorem J3{fs:List (Nat×TypeId)}:∀ {ps:List (Nat×Operand)} (h:∀p∈ps,s'.Ao p.2=s.Ao p.2/\A3 s s' (s.Ao p.2).roots) (ls:List LA),Hs cx s' fs ps ls=Hs cx s fs ps ls
 | [],h,ls=>rfl
 |(i,x)::ps,h,ls=>by
  obtain⟨h1,h2⟩:=h (i,x) OF;dsimp only at h1 h2;simp only[Hs];rw[h1];generalize s.Ao x=p at h2;cases p with
  |Dr vs=>rfl
  |bx as=>rfl
  |v g as=>
   have:as.all s'.sure=as.all s.sure:=by rw[Bool.eq_iff_iff,AAW,AAW];refine forall_congr' λb=>forall_congr' λhb=>?_;rw[Nr λr hr=>h2 r (AAL.2 ⟨b,hb,hr⟩)]
   cases IB fs i with
   |none=>rfl
   |some q=>
    obtain⟨off,t⟩:=q;dsimp only;cases cx.ty t with
    |none=>rfl
    |some tf=>
     dsimp only;rw[this];split
     ·exact J3 (λp hp=>h p (AAM _ hp)) _
     ·rfl
theorem Hn{e:Ls}:∀ {ps:List (Nat×Operand)} (h:∀p∈ps,s'.Ao p.2=s.Ao p.2/\A3 s s' (s.Ao p.2).roots) (n:Nat) (k:List e.D->List (Nat×Nat)->Step β),Cl cx s' v e ps n k=Cl cx s v e ps n k
 | [],h,n,k=>rfl
 |(i,x)::ps,h,n,k=>by
  obtain⟨h1,h2⟩:=h (i,x) OF;dsimp only at h1 h2;have ih:∀(n:Nat) (k:List e.D->List (Nat×Nat)->Step β),Cl cx s' v e ps n k=Cl cx s v e ps n k:=Hn λp hp=>h p (AAM _ hp);simp only[Cl];rw[h1];generalize s.Ao x=p at h2;cases p with
  |Dr vs=>rfl
  |bx as=>rfl
  |v g as=>
   have h2:A3 s s' (as.flatMap LA.roots):=h2;simp only[DS h2,Em h2,ih]
theorem EK:∀ {as:List LA} {c:Loc},Cf as=some c->c.r∈as.flatMap LA.roots
 | [],c,h=>by cases h
 |a::as,c,h=>by
  rw[AAn];unfold Cf at h;split at h
  ·rename_i c' zg;injection h with h;subst h
   obtain⟨e1,_⟩:=Fa zg;exact AAV _ (by rw[e1];simp[LA.roots])
  ·exact AAS _ (EK h)
theorem Lj{e:Ls}{ps:List (Nat×Operand)}(h:∀p∈ps,s'.Ao p.2=s.Ao p.2/\A3 s s' (s.Ao p.2).roots):EE s' e ps=EE s e ps:=by
 unfold EE;split
 ·rfl
 ·split
  ·rename_i x;rw[(h (0,x) OF).1]
  ·rfl
theorem JM{e:Ls}{ps:List (Nat×Operand)}(h:∀p∈ps,s'.Ao p.2=s.Ao p.2/\A3 s s' (s.Ao p.2).roots){x:Operand}{c:Loc}(hl:EE s e ps=some (x,c))(d v:Nat)(t:TypeId)(k:List Wr->Step β):
  C2 cx s' d v t e x c k=C2 cx s d v t e x c k:=by
 unfold EE at hl;split at hl
 ·cases hl
 ·split at hl
  ·rename_i x';split at hl
   ·rename_i g as hopd;split at hl
    ·rename_i c' zg;injection hl with hl
     injection hl with e1 e2
     subst e1;subst e2;obtain⟨h1,h2⟩:=h (0,x') OF;dsimp only at h1 h2;rw[hopd]at h2;have h2:A3 s s' (as.flatMap LA.roots):=h2;unfold C2;rw[h1,hopd];dsimp only;rw[Ah (h2 c'.r (EK zg))];simp only[DS h2]
    ·cases hl
   ·cases hl
  ·cases hl
theorem Hk(r:Nat):∀(ls:List (L×Nat)) (as:List LA) (j:Nat),Ea ls as=true->∀b∈BC r j as,∀r'∈b.roots,r'=r
 | [],[],j,h,b,hb,r',hr=>by cases hb
 | [],_::_,j,h,b,hb,r',hr=>by cases h
 |_::_,[],j,h,b,hb,r',hr=>by cases h
 |(l,m)::ls,a::as,j,h,b,hb,r',hr=>by
  simp only[Ea,AAJ]at h;rcases AAd.1 hb with hb|hb
  ·subst hb;cases a with
   |arr AA gen t e xs d=>simpa[seen,LA.roots]using hr
   |sc l x=>simp[seen,LA.roots]at hr
   |_=>simp at h
  ·exact Hk r ls as (j+1) h.2 b hb r' hr
theorem Ly{la:LA}(h:A3 s s' la.roots)(l:L)(d:Nat)(k:Lv->ADr->Step β):Jj s' l d la k=Jj s l d la k:=by
 cases l with
 |sl t e=>
  cases la with
  |ref c=>
   show(if(match s'.leaf c.r c.j with
    | .arr _ _ _ _ _ dd=>dd==d&&(isNil c.p||d==2)
    |_=>false)then s'.Au (.sl t e) (.ref c) _ else Step.none)=(if(match s.leaf c.r c.j with
    | .arr _ _ _ _ _ dd=>dd==d&&(isNil c.p||d==2)
    |_=>false)then s.Au (.sl t e) (.ref c) _ else Step.none)
   rw[Ah (h c.r (by simp[LA.roots])),B6 h]
  |_=>rfl
 |int i=>exact B6 h _
 |bool=>exact B6 h _
 |str=>exact B6 h _
theorem IQ:∀ {ls:List (L×Nat)} {as:List LA} (h:A3 s s' (as.flatMap LA.roots)) (k:List Lv->ADr->Step β),E1 s' ls as k=E1 s ls as k
 | [],[],h,k=>rfl
 | [],_::_,h,k=>rfl
 |_::_,[],h,k=>rfl
 |(l,d)::ls,a::as,h,k=>by simp only[E1];rw[Ly λr hr=>h r (by simp[hr])];congr 1;funext x us;exact IQ (λr hr=>h r No) _
theorem JB:∀ {ls:List (L×Nat)} {as:List LA} (h:A3 s s' (as.flatMap LA.roots)) (vs:List Lv),putRow s' v ls as vs=putRow s v ls as vs
 | [],[],h,vs=>rfl
 | [],_::_,h,vs=>by simp[putRow]
 |_::_,[],h,vs=>by simp[putRow]
 |_::_,_::_,h,[]=>by simp[putRow]
 |(l,d)::ls,a::as,h,x::vs=>by
  simp only[putRow];rw[JB (λr hr=>h r No) vs];cases a with
  |ref c=>
   have e:s'.leaf c.r c.j=s.leaf c.r c.j:=Ah (h c.r (by simp[LA.roots])) c.j;simp only[e]
  |_=>rfl
theorem GJ:∀ {ps:List PM} {vs:List AV} (h:∀a∈vs,A3 s s' a.roots) (k:List Lv->ADr->Step β),Al s' ps vs k=Al s ps vs k
 | [],[],h,k=>rfl
 | [],_::_,h,k=>by simp only[Al]
 |pm::ps,[],h,k=>by cases pm<;>simp only[Al]
 |pm::ps,a::vs,h,k=>by
  have ih:∀(k:List Lv->ADr->Step β),Al s' ps vs k=Al s ps vs k:=GJ λa ha=>h a (AAM _ ha);have ha:=h a OF;cases pm with
  |val g ls=>
   cases a with
   |Dr vs=>simp only[Al]
   |bx as=>simp only[Al]
   |v g' as=>
    simp only[Al];rw[DS (show A3 s s' (as.flatMap LA.roots)from ha)];grind
  |fn f=>
   unfold Al;grind
  |box ls=>
   unfold Al;split
   all_goals (try rename_i e1 e2;try cases e1;try cases e2;try rfl)
   rename_i r AA;have hr:s'.root r=s.root r:=ha r (by simp[AV.roots,LA.roots])
   ·rw[hr];by_cases hc:((s.root r).box&&(s.root r).AA==AA&&Ea ls (s.root r).ls)=true
    ·rw[AAP hc,AAP hc];have hdeep:Ea ls (s.root r).ls=true:=by simp only[AAJ]at hc;exact hc.2
     have hd:A3 s s' ((BC r 0 (s.root r).ls).flatMap LA.roots):=λr' zk=>by obtain⟨b,hb,zJ⟩:=AAL.1 zk;rw[Hk r ls _ 0 hdeep b hb r' zJ];exact hr
     simp only[ih];exact DS hd _
    grind
   all_goals rfl
  |row g ls=>
   cases a with
   |Dr vs=>simp only[Al]
   |bx as=>simp only[Al]
   |v g' as=>
    simp only[Al];rw[IQ (show A3 s s' (as.flatMap LA.roots)from ha)];grind
theorem FE{r:Nat}(hr:s'.root r=s.root r):∀(k:Nat) (ls:List (L×Nat)) (vs:List Lv),AX s' r v k ls vs=AX s r v k ls vs
 |_,[],_=>by simp only[AX]
 |_,_::_,[]=>by simp only[AX]
 |k,(l,m)::ls,x::xs=>by simp only[AX,FE hr (k+1) ls xs,Ah hr]
theorem Gt:∀ {ps:List PM} {zT:List AV} (h:∀a∈zT,A3 s s' a.roots) (vs:List Lv),AW s' v ps zT vs=AW s v ps zT vs
 | [],[],h,[]=>rfl
 | [],[],h,_::_=>rfl
 | [],_::_,h,vs=>by simp only[AW]
 |pm::ps,[],h,vs=>by cases pm<;>simp only[AW]
 |pm::ps,a::zT,h,vs=>by
  have ih:∀vs,AW s' v ps zT vs=AW s v ps zT vs:=Gt λa ha=>h a (AAM _ ha);have ha:=h a OF;cases pm with
  |val g ls=>simp only[AW,ih]
  |fn f=>simp only[AW,ih]
  |box ls=>
   unfold AW;split
   all_goals (try rename_i e1 e2;try cases e1;try cases e2;try rfl)
   ·rename_i r AA;have hr:s'.root r=s.root r:=ha r (by simp[AV.roots,LA.roots]);rw[ih,FE hr]
   all_goals rfl
  |row g ls=>
   cases a with
   |Dr vs=>simp only[AW]
   |bx as=>simp only[AW]
   |v g' as=>
    simp only[AW];rw[JB (show A3 s s' (as.flatMap LA.roots)from ha)];grind
theorem FP{not:Nat}:∀ {bs:List (List L)} {ps:List (Nat×Nat)} (h:∀p∈ps,s'.root p.1=s.root p.1) (k:List Lv->Step β),DQ s' not bs ps k=DQ s not bs ps k
 | [],[],h,k=>rfl
 | [],_::_,h,k=>rfl
 |_::_,[],h,k=>rfl
 |ls::bs,(r,AA)::ps,h,k=>by
  have hr:s'.root r=s.root r:=h (r,AA) OF;simp only[DQ];rw[hr];split
  ·rename_i hc;simp only[AAJ]at hc;have zq:=hc.2
   have hsees:A3 s s' ((BC r 0 (s.root r).ls).flatMap LA.roots):=λr' zk=>by
    obtain⟨y,hy,hy'⟩:=AAL.1 zk;obtain⟨i,hi⟩:=AAq hy;rw[Cz]at hi;cases hq:(s.root r).ls[i]? with
    |none=>grind
    |some y0=>
     rw[hq]at hi;injection hi with hi
     subst hi;have:=AAW.1 zq y0 (AAN hq);cases y0 with
     |arr=>
      have:r'=r:=by simpa[seen,LA.roots]using hy'
      grind
     |sc=>simp[seen,LA.roots]at hy'
     |_=>cases this
   rw[DS hsees];congr 1;funext x;exact FP (λp hp=>h p (AAM _ hp)) _
  ·rfl
theorem D9{c:Loc}{qs:List (Nat×Nat)}(hq:∀p∈qs,s'.root p.1=s.root p.1):∀ {cs:List Ka} {ps:List (Nat×Nat)} (h:∀p∈ps,s'.root p.1=s.root p.1) (k:List Lv->Step β),Bw s' c qs cs ps k=Bw s c qs cs ps k
 | [],[],h,k=>rfl
 | [],_::_,h,k=>rfl
 | .box _::_,[],h,k=>rfl
 | .EM _ _::_,[],h,k=>rfl
 | .row::_,[],h,k=>rfl
 | .box ls::cs,p::ps,h,k=>by simp only[Bw];rw[FP (λq hq=>h q No)];congr 1;funext x;exact D9 hq (λp hp=>h p (AAM _ hp)) _
 | .EM g bs::cs,(r,AA)::ps,h,k=>by
  have hr:s'.root r=s.root r:=h (r,AA) OF;simp only[Bw];rw[hr];split
  ·split
   ·rename_i hc;simp only[AAJ]at hc;have zq:=hc.2;rw[FP (λp hp=>hq p No)];congr 1;funext x;exact D9 hq (λp hp=>h p (AAM _ hp)) _
   ·rfl
  ·rfl
 | .row::cs,(r,AA)::ps,h,k=>by
  have hr:s'.root r=s.root r:=h (r,AA) OF;simp only[Bw];rw[hr];split
  ·exact D9 hq (λp hp=>h p (AAM _ hp)) _
  ·rfl
theorem KU{zT:List AV}(h:∀a∈zT,A3 s s' a.roots)(d:Nat)(f:FuncId)(k:List Wr->Step β):Dz cx s' d v f zT k=Dz cx s d v f zT k:=by
 unfold Dz;split
 ·rename_i t c g ps qs;have h1:=h (.v false [.JR t c]) OF;have h2:=h (.v false [.EM g ps qs]) OF;have hc:s'.root c.r=s.root c.r:=h1 c.r (by simp[AV.roots,LA.roots]);have hps:∀p∈ps,s'.root p.1=s.root p.1:=λp hp=>h2 p.1 (AAL.2 ⟨.EM g ps qs,OF,AAV _ (AAt.2 ⟨p,hp,rfl⟩)⟩);have hqs:∀p∈qs,s'.root p.1=s.root p.1:=λp hp=>h2 p.1 (AAL.2 ⟨.EM g ps qs,OF,AAS _ (AAt.2 ⟨p,hp,rfl⟩)⟩);rw[Ah hc];simp only[D9 hqs hps]
 ·rfl
theorem JA:∀ {vs:List AV} (h:∀a∈vs,A3 s s' a.roots),Dk s' vs=Dk s vs/\∀ps,Dk s vs=some ps->behind s' ps=behind s ps
 | [],h=>⟨rfl,λps hp=>by simp only[Dk,Option.some.injEq]at hp;subst hp;rfl⟩
 |a::vs,h=>by
  obtain⟨ih1,ih2⟩:=JA (vs:=vs) λb hb=>h b (AAM _ hb);have ha:=h a OF;unfold Dk;split
  ·rename_i e;exact absurd e OF
  ·rename_i r AA vs' e;injection e with e1 e2
   subst e1;subst e2;have hr:s'.root r=s.root r:=ha r (by simp[AV.roots,LA.roots]);rw[hr,ih1];refine⟨rfl,λps hp=>?_⟩;split at hp
   ·split at hp
    ·rename_i ps' hps';injection hp with hp
     subst hp;simp only[behind];rw[hr,ih2 ps' hps']
    ·cases hp
   ·cases hp
  grind
theorem L5{t:TypeId}{q:LA}{p:AV}{dst:Option Tmp}(h:A3 s s' q.roots):IX cx s' t q p dst=IX cx s t q p dst:=by
 unfold IX;split
 ·split
  ·split
   ·rename_i r j AA;rw[h r (by simp[LA.roots])]
   ·rfl
  ·rfl
 ·rfl
theorem FV:∀ {rs:Is} (h:A3 s s' rs),Ar cx s' rs=Ar cx s rs
 | [],h=>rfl
 |r::rs,h=>by
  have hr:=h r OF
  have hw:DB s' r=DB s r:=by
   unfold DB;have:s'.B3 r=s.B3 r:=by unfold St.B3;rw[hr]
   rw[this,hr]
  simp only[Ar];rw[FV (λr hr=>h r (AAM _ hr)),hw]
theorem GD:∀(ps:List PM)(zT:List AV)(r:Nat),r∈Af ps zT->∃a∈zT,r∈a.roots
 | [],_,r,h=>by simp[Af]at h
 |pm::_,[],r,h=>by cases pm<;>simp[Af]at h
 |pm::ps,a::zT,r,h=>by
  have ih:=GD ps zT r;have sub:r∈Af ps zT->∃b∈a::zT,r∈b.roots:=λh=>let ⟨b,hb,hr⟩:=ih h;⟨b,AAM _ hb,hr⟩
  cases pm with
  |val g ls=>
   rcases ABL.1 (show r∈a.roots++Af ps zT from h)with h|h
   all_goals grind
  |_=>exact sub h
theorem NP{zT:List AV}(h:∀a∈zT,A3 s s' a.roots)(d:Nat)(f:FuncId)(k:List Wr->Step β):call cx s' d v f zT k=call cx s d v f zT k:=by
 unfold call;cases cx.env.fn f with
 |none=>exact KU h d f k
 |some g=>
  dsimp only;cases g.s.mk? with
  |true=>simp only[if_true];rw[GJ h]
  |false=>
  simp only[ABP,if_false];rw[GJ h];have h2:∀vs,AW s' v g.s.ps zT vs=AW s v g.s.ps zT vs:=Gt h;have h3:Ar cx s' (Af g.s.ps zT)=Ar cx s (Af g.s.ps zT):=FV λr hr=>let ⟨a,ha,zk⟩:=GD _ _ r hr;h a ha r zk
  grind
def Wr.JT:Wr->Bool
 | .leaf _ _ _=>true
 |_=>false
theorem EV(s:St)(r j:Nat)(a:LA)(r':Nat):(s.AF (.leaf r j a)).root r'=if r=r' then { s.root r with ls:=Ca (s.root r).ls j a }else s.root r':=by
 show nth dead (Ca s.ro r _) r'=_;rw[Aw];by_cases h:r=r'
 ·subst h;by_cases hl:r<s.ro.length
  ·grind
  ·rw[AAQ (λhh=>hl hh.2),AAP rfl];have:s.root r=dead:=Ay _ (AAy hl);show s.root r=_;rw[this];rfl
 ·rw[AAQ (λhh=>h hh.1),AAQ h];rfl
theorem A3.app{rs:Is}(h:A3 s s' rs):∀ {fs:List Wr},(∀w∈fs,w.JT=true)->A3 (s.app fs) (s'.app fs) rs:=by
 intro fs hf r hr
 have key:∀(fs:List Wr)(s s':St),(∀w∈fs,w.JT=true)->s'.root r=s.root r->(s'.app fs).root r=(s.app fs).root r:=by
  intro fs
  induction fs with
  |nil=>intro s s' _ h;exact h
  |cons w fs ih=>
   intro s s' hf h;have hw:=hf w AAg;refine ih _ _ (λx hx=>hf x (AAM _ hx)) ?_;cases w with
   |leaf r0 j a=>
    rw[EV,EV];grind
   |slot t a=>cases hw
   |root r x=>cases hw
   |half r j v=>cases hw
 exact key fs s s' hf (h r hr)
theorem Fz:∀(r j:Nat)(ls:List LA),∀w∈BE r j ls,w.JT=true
 |_,_,[],w,hw=>by cases hw
 |r,j,a::as,w,hw=>by
  rcases AAd.1 hw with e|hw
  ·subst e;rfl
  ·exact Fz r (j+1) as w hw
theorem Fq:∀ {rs:Is} {fs:List Wr},Ar cx s rs=some fs->∀w∈fs,w.JT=true
 | [],fs,h,w,hw=>by injection h with h;grind
 |r::rs,fs,h,w,hw=>by
  simp only[Ar]at h;split at h
  ·cases h
  ·split at h
   ·rename_i ws' hws;injection h with h;subst h
    rcases ABL.1 hw with hw|hw
    ·unfold DB at hw;split at hw
     ·cases hw
     ·exact Fz r 0 _ w hw
    ·exact Fq hws w hw
   ·cases h
theorem Ez:∀ {as:List LA} {r:Nat},r∈H7 as->r∈as.flatMap LA.roots
 | [],r,h=>by cases h
 |a::as,r,h=>by
  rw[AAn];refine ABL.2 ?_;cases a with
  |ref c=>
   simp only[H7]at h;split at h
   ·exact .inr (Ez h)
   ·rcases AAd.1 h with e|h
    ·subst e;exact .inl (by simp[LA.roots])
    ·exact .inr (Ez h)
  |_=>exact .inr (Ez (by simpa[H7]using h))
theorem Ln{q:LA}{as:List LA}{r:Nat}(h:r∈Mh q as):r∈as.flatMap LA.roots:=by
 cases q with
 |ptr=>exact Ez h
 |_=>cases h
def LA.norm:LA->LA
 | .arr AA _ t e xs (_+1)=>.arr AA 0 t e xs 1
 |a=>a
def Bo.norm(x:Bo):Bo:={ x with ls:=x.ls.map LA.norm }
def Nw(m:Nat)(s s':St):Prop:=(∀t,m.testBit (2*t)=true->s'.slot t=s.slot t)/\(∀r,m.testBit (4*r+1)=true->m.testBit (4*r+3)=true->s'.root r=s.root r)/\∀r,m.testBit (4*r+1)=true->(s'.root r).norm=(s.root r).norm
end
end Go.Ev
namespace Go.Ev
section
variable {s s':St}{cx:Cx}{v:Nat}{β:Type}
def Gd(s s':St)(x:Operand):Prop:=s'.Ao x=s.Ao x/\A3 s s' (s.Ao x).roots
theorem Gd.one{x:Operand}(h:Gd s s' x):s'.Ai x=s.Ai x/\A3 s s' (s.Ai x).roots:=by
 refine⟨by unfold St.Ai;rw[h.1],λr hr=>h.2 r ?_⟩;unfold St.Ai at hr;cases hq:s.Ao x with
 |Dr vs=>rw[hq]at hr;cases hr
 |bx as=>rw[hq]at hr;cases hr
 |v g as=>
  rw[hq]at hr;cases g with
  |true=>cases hr
  |false=>cases as with
   |nil=>cases hr
   |cons b bs=>cases bs with
    |nil=>exact AAL.2 ⟨b,OF,hr⟩
    |cons=>cases hr
theorem Es{x:Option Operand}(h:∀y,x=some y->Gd s s' y)(d:Int)(k:Int->Step β):Dg s' x d k=Dg s x d k:=by
 cases x with
 |none=>rfl
 |some y=>simp only[Dg];rw[(h y rfl).one.1]
theorem Lb{o:Oper}{c:Call}(ho:o.op=.call c)(zY:∀x∈c.args.toList,Gd s s' x)(hfn:∀f,c.callee=.value f->Gd s s' f):AB cx v o s'=AB cx v o s:=by
 cases hb:c.callee with
 |builtin b=>
  cases b with
  |len=>
   simp only[AB,ho,hb];split
   ·rename_i x t hx ht;have hx:=(zY x (by rw[hx];simp)).one;simp only[hx.1,MW hx.2]
   ·rfl
  |append=>
   simp only[AB,ho,hb];split
   ·rename_i x y t1 t2 ty d hx _ _ _;have hx1:=(zY x (by rw[hx];simp)).one;have hy1:=(zY y (by rw[hx];simp)).one;simp only[hx1.1,hy1.1,JK hx1.2 hy1.2]
   ·rfl
  |min=>
   simp only[AB,ho,hb];split
   ·rename_i x y hx;have hx1:=(zY x (by rw[hx];simp)).one;have hy1:=(zY y (by rw[hx];simp)).one;grind
   ·rfl
  |max=>
   simp only[AB,ho,hb];split
   ·rename_i x y hx;have hx1:=(zY x (by rw[hx];simp)).one;have hy1:=(zY y (by rw[hx];simp)).one;grind
   ·rfl
  |_=>simp only[AB,ho,hb]
 |value f=>
  have hf:=(hfn f hb).one;have hmap:c.args.toList.map s'.Ao=c.args.toList.map s.Ao:=List.map_congr_left λx hx=>(zY x hx).1
  have hroots:∀a∈c.args.toList.map s.Ao,A3 s s' a.roots:=λa ha=>by obtain⟨x,hx,rfl⟩:=AAt.1 ha;exact(zY x hx).2
  simp only[AB,ho,hb];rw[hf.1,hmap];simp only[NP hroots]
 |invoke r n=>simp only[AB,ho,hb]
theorem IC{o:Oper}(h:∀x∈o.op.operands.toList,Gd s s' x):AB cx v o s'=AB cx v o s:=by
 by_cases zy:∃c,o.op=.call c
 ·obtain⟨c,ho⟩:=zy;exact Lb ho (λx hx=>h x (by rw[ho];simp[Op.operands,Call.operands];grind)) λf hb=>h f (by rw[ho];simp[Op.operands,Call.operands,hb])
 unfold AB;cases ho:o.op with
 |move x=>
  have hx:=h x (by rw[ho];simp[Op.operands]);simp only[hx.1]
 |assign x=>
  have hx:=(h x (by rw[ho];simp[Op.operands])).one;simp only[hx.1];cases o.dst with
  |none=>rfl
  |some d=>
   have hx2:=hx.2;generalize s.Ai x=p at hx2;cases p<;>first|rfl|simp only[LN hx2]
 |pick x y z=>
  have hx:=(h x (by rw[ho];simp[Op.operands])).one;have hy:=h y (by rw[ho];simp[Op.operands]);have hz:=h z (by rw[ho];simp[Op.operands]);simp only[hx.1,hy.1,hz.1]
 |alloc t=>rfl
 |box t x=>
  have hx:=h x (by rw[ho];simp[Op.operands]);simp only[hx.1];have hx2:=hx.2;generalize s.Ao x=p at hx2;cases cx.ty t with
  |none=>rfl
  |some ty=>cases o.dst with
   |none=>rfl
   |some d=>cases p with
    |Dr vs=>rfl
    |bx as=>rfl
    |v g as=>
     simp only[K9 (show A3 s s' (as.flatMap LA.roots)from hx2),Em (show A3 s s' (as.flatMap LA.roots)from hx2)]
 |build t ps=>
  have hp:∀p∈ps.toList,s'.Ao p.2=s.Ao p.2/\A3 s s' (s.Ao p.2).roots:=λp hp=>h p.2 (by rw[ho];simp only[Op.operands,List.toList_toArray];grind);simp only[J3 hp]
 |buildSlice t n ps=>
  have hp:∀p∈ps.toList,s'.Ao p.2=s.Ao p.2/\A3 s s' (s.Ao p.2).roots:=λp hp=>h p.2 (by rw[ho];simp only[Op.operands,List.toList_toArray];grind);simp only[Hn hp,Lj hp];cases cx.ty t with
  |none=>rfl
  |some ty=>cases o.dst with
   |none=>rfl
   |some d=>
    dsimp only;split
    ·rfl
    ·cases ty.ls with
     |one l=>cases l with
      |sl t' e=>
       dsimp only;split
       ·cases hq:EE s e ps.toList with
        |none=>rfl
        |some q=>exact JM hp hq _ _ _ _
       ·rfl
      |_=>rfl
     |_=>rfl
 |load t x=>
  have hx:=h x (by rw[ho];simp[Op.operands]);simp only[hx.1,Lk hx.2]
 |store t x y=>
  have hx:=(h x (by rw[ho];simp[Op.operands])).one;have hy:=h y (by rw[ho];simp[Op.operands]);simp only[hx.1,hy.1];have hy2:=hy.2;generalize s.Ao y=p at hy2;cases cx.ty t with
  |none=>
   have hx2:=hx.2;generalize s.Ai x=q at hx2;exact L5 hx2
  |some ty=>cases p with
   |Dr vs=>rfl
   |bx as=>rfl
   |v g as=>
    have hy2:A3 s s' (as.flatMap LA.roots):=hy2;dsimp only;cases hn:Mh (s.Ai x) as with
    |nil=>simp only[GY,JE hx.2 hy2]
    |cons r rs=>
     have zr:A3 s s' (r::rs):=λr' zk=>hy2 r' (by rw[<-hn]at zk;exact Ln zk);simp only[FV zr];cases hf:Ar cx s (r::rs)with
     |none=>rfl
     |some fs=>
      have hleafs:=Fq hf;simp only[GY,JE (hx.2.app hleafs) (hy2.app hleafs)]
 |makeInterface t x=>
  have hx:=(h x (by rw[ho];simp[Op.operands])).one;grind
 |makeFunc fn xs ys=>
  cases fn with
  |func g=>
   have hmap:ys.toList.map s'.Ao=ys.toList.map s.Ao:=List.map_congr_left λy hy=>(h y (by rw[ho];simp[Op.operands];exact .inr AD7)).1
   have hroots:∀a∈ys.toList.map s.Ao,A3 s s' a.roots:=λa ha=>by
    obtain⟨y,hy,rfl⟩:=AAt.1 ha;exact(h y (by rw[ho];simp[Op.operands];exact .inr AD7)).2
   obtain⟨e1,e2⟩:=JA hroots;grind
  |_=>rfl
 |nilCheck x=>
  have hx:=h x (by rw[ho];simp[Op.operands]);simp only[hx.1];have hx2:=hx.2;generalize s.Ao x=p at hx2;cases p with
  |bx as=>rfl
  |v g as=>simp only[EU (Et hx2)]
  |Dr vs=>simp only[EU (Et hx2)]
 |binOp op tx x y ty=>
  have hx:=h x (by rw[ho];simp[Op.operands]);have hy:=h y (by rw[ho];simp[Op.operands]);simp only[hx.1,hy.1]
 |unOp op tx x=>
  have hx:=(h x (by rw[ho];simp[Op.operands])).one;grind
 |convert t1 t2 x=>
  have hx:=(h x (by rw[ho];simp[Op.operands])).one;simp only[hx.1];have hx2:=hx.2;generalize s.Ai x=p at hx2;cases cx.ty t1 with
  |none=>rfl
  |some ta=>cases cx.ty t2 with
   |none=>rfl
   |some ty=>cases p with
    |sc l z=>cases l<;>first|rfl|(simp only[B6 hx2])
    |_=>simp only[B6 hx2]
 |makeSlice t x y=>
  have hx:=(h x (by rw[ho];simp[Op.operands])).one;have hy:=(h y (by rw[ho];simp[Op.operands])).one;simp only[hx.1,hy.1]
 |slice ti x lo hi m=>
  have hx:=(h x (by rw[ho];simp[Op.operands])).one;have hlo:∀y,lo=some y->Gd s s' y:=λy e=>h y (by rw[ho,e];simp[Op.operands]);have hhi:∀y,hi=some y->Gd s s' y:=λy e=>h y (by rw[ho,e];simp[Op.operands]);cases m with
  |some m=>rfl
  |none=>
   simp only[hx.1];have hx2:=hx.2;generalize s.Ai x=p at hx2;cases p with
   |sc l b=>cases l<;>simp only[Es hlo,Es hhi]
   |ref c=>simp only[Es hlo,Es hhi,Bb (hx2 c.r (by simp[LA.roots]))]
   |_=>rfl
 |fieldAddr t x f=>
  have hx:=h x (by rw[ho];simp[Op.operands]);simp only[hx.1];have hx2:=hx.2;generalize s.Ao x=p at hx2;cases p with
  |bx as=>rfl
  |v g as=>simp only[EU (Et hx2)]
  |Dr vs=>simp only[EU (Et hx2)]
 |field t x f=>
  have hx:=h x (by rw[ho];simp[Op.operands]);simp only[hx.1]
 |indexAddr ti x i=>
  have hx:=(h x (by rw[ho];simp[Op.operands])).one;have hi:=(h i (by rw[ho];simp[Op.operands])).one;simp only[hx.1,hi.1];have hx2:=hx.2;generalize s.Ai x=p at hx2;cases p with
  |ref c=>simp only[Bb (hx2 c.r (by simp[LA.roots]))]
  |EI c lo hi=>simp only[Bb (hx2 c.r (by simp[LA.roots]))]
  |sc l b=>grind
  |_=>rfl
 |index ti x i=>
  have hx:=(h x (by rw[ho];simp[Op.operands])).one;have hi:=(h i (by rw[ho];simp[Op.operands])).one;grind
 |extract x i=>
  have hx:=h x (by rw[ho];simp[Op.operands]);simp only[hx.1]
 |call c=>grind
 |_=>rfl
theorem AJ(a b i:Nat):(Nat.lor a b).testBit i=(a.testBit i||b.testBit i):=Nat.testBit_or a b i
theorem Cj(n i:Nat):(2 ^ n).testBit i=decide (n=i):=Nat.testBit_two_pow
theorem IJ(r i:Nat):(KR r).testBit i=decide (4*r+1=i):=Cj _ _
theorem E5(r i:Nat):(Kl r).testBit i=decide (4*r+3=i):=Cj _ _
theorem G7(a:AV)(r:Nat)(h:r∈a.roots):a.mask.testBit (4*r+1)=true/\a.mask.testBit (4*r+3)=true:=by
 unfold AV.mask
 revert h
 generalize a.roots=rs;intro h
 induction rs with
 |nil=>cases h
 |cons x rs ih=>
  rw[List.foldr_cons,AJ,AJ,AJ,AJ,IJ,E5,IJ,E5];grind
theorem Iy(s:St):∀(xs:List Operand)(m0:Nat)(x:Operand),x∈xs->(∀t,x=.tmp t->(xs.foldr (λx m=>match x with
  | .tmp t=>Nat.lor (2 ^ (2*t)) (Nat.lor (s.slot t).mask m)
  |_=>m) m0).testBit (2*t)=true/\∀r∈(s.slot t).roots,(xs.foldr (λx m=>match x with
  | .tmp t=>Nat.lor (2 ^ (2*t)) (Nat.lor (s.slot t).mask m)
  |_=>m) m0).testBit (4*r+1)=true/\(xs.foldr (λx m=>match x with
  | .tmp t=>Nat.lor (2 ^ (2*t)) (Nat.lor (s.slot t).mask m)
  |_=>m) m0).testBit (4*r+3)=true)
 | [],m0,x,h,t,e=>by cases h
 |y::xs,m0,x,h,t,e=>by
  rw[List.foldr_cons];rcases AAd.1 h with h|h
  ·subst h;subst e;dsimp only;refine⟨by rw[AJ,Cj];simp,λr hr=>⟨by rw[AJ,AJ,(G7 _ r hr).1];simp,by rw[AJ,AJ,(G7 _ r hr).2];simp⟩⟩
  ·obtain⟨h1,h2⟩:=Iy s xs m0 x h t e;cases y with
   |tmp u=>
    dsimp only;exact⟨by rw[AJ,AJ,h1];simp,λr hr=>⟨by rw[AJ,AJ,(h2 r hr).1];simp,by rw[AJ,AJ,(h2 r hr).2];simp⟩⟩
   |_=>grind
theorem Hu(s:St)(i:Nat):∀(xs:List Operand)(m0:Nat),m0.testBit i=true->(xs.foldr (λx m=>match x with
  | .tmp t=>Nat.lor (2 ^ (2*t)) (Nat.lor (s.slot t).mask m)
  |_=>m) m0).testBit i=true
 | [],m0,h=>h
 |y::xs,m0,h=>by
  rw[List.foldr_cons];have:=Hu s i xs m0 h;cases y with
  |tmp u=>dsimp only;rw[AJ,AJ,this];simp
  |_=>exact this
theorem J0(x:Operand)(h:∀t,x≠.tmp t):s'.Ao x=s.Ao x/\(s.Ao x).roots=[]:=by
 have hv:∀v,(ofConst v).roots=[]:=λv=>by
  cases v with
  |slice A n c=>
   cases A with
   |none=>cases n with
    |zero=>cases c<;>rfl
    |succ n=>rfl
   |some a=>rfl
  |pointer A=>cases A<;>rfl
  |_=>rfl
 cases x with
 |tmp t=>grind
 |const c=>
  cases c with
  |agg cs=>
   refine⟨rfl,?_⟩;show(cs.toList.map ofConst).flatMap LA.roots=[];rw[List.flatMap_map];simp only[hv,EB]
  |bool b=>exact⟨rfl,by simp[St.Ao,AV.roots,hv]⟩
  |int k n=>exact⟨rfl,by simp[St.Ao,AV.roots,hv]⟩
  |float k n=>exact⟨rfl,by simp[St.Ao,AV.roots,hv]⟩
  |complex k x y=>exact⟨rfl,by simp[St.Ao,AV.roots,hv]⟩
  |string b=>exact⟨rfl,by simp[St.Ao,AV.roots,hv]⟩
  |pointer b=>exact⟨rfl,by simp[St.Ao,AV.roots,hv]⟩
  |slice b n c=>exact⟨rfl,by simp[St.Ao,AV.roots,hv]⟩
  |map r=>exact⟨rfl,by simp[St.Ao,AV.roots,hv]⟩
  |chan r=>exact⟨rfl,by simp[St.Ao,AV.roots,hv]⟩
  |func f x y=>exact⟨rfl,by simp[St.Ao,AV.roots,hv]⟩
  |nilFunc=>exact⟨rfl,by simp[St.Ao,AV.roots,hv]⟩
  |iface t x=>exact⟨rfl,by simp[St.Ao,AV.roots,hv]⟩
  |nilIface=>exact⟨rfl,by simp[St.Ao,AV.roots,hv]⟩
  |tuple vs=>exact⟨rfl,by simp[St.Ao,AV.roots,hv]⟩
 |global g=>exact⟨rfl,rfl⟩
 |func f=>exact⟨rfl,rfl⟩
theorem K0(r j:Nat):∀ {a b:LA},a.norm=b.norm->IU r j a=IU r j b:=by
 have key:∀a:LA,IU r j a=IU r j a.norm:=λa=>by
  cases a with
  |arr AA gen t e xs d=>cases d<;>rfl
  |_=>rfl
 grind
theorem Ek(r:Nat):∀(j:Nat) {as bs:List LA},as.map LA.norm=bs.map LA.norm->BJ r j as=BJ r j bs
 |j,[],[],_=>rfl
 |j,[],b::bs,h=>by cases h
 |j,a::as,[],h=>by cases h
 |j,a::as,b::bs,h=>by simp only[ABK,List.cons.injEq]at h;simp only[BJ,K0 r j h.1,Ek r (j+1) h.2]
theorem Ko{r j AA n:Nat}{β:Type}{k:List LA->Step β}(h:(s'.root r).norm=(s.root r).norm):s'.DG (.ptr r j AA) n k=s.DG (.ptr r j AA) n k:=by
 have h1:(s'.root r).box=(s.root r).box:=by have:=congrArg Bo.box h;exact this
 have h2:(s'.root r).AA=(s.root r).AA:=by have:=congrArg Bo.AA h;exact this
 have h3:(s'.root r).ls.map LA.norm=(s.root r).ls.map LA.norm:=by have:=congrArg Bo.ls h;exact this
 have h4:(s'.root r).ls.length=(s.root r).ls.length:=by have:=congrArg List.length h3;simpa using this
 have h5:BJ r j (((s'.root r).ls.drop j).take n)=BJ r j (((s.root r).ls.drop j).take n):=Ek r j (by rw[List.map_take,List.map_take,List.map_drop,List.map_drop,h3]);simp only[St.DG,h1,h2,h4,h5]
theorem NT{ops:Array Oper}{o:Oper}(h:Nw (A6 ops o s) s s'):AB cx v o s'=AB cx v o s/\∀j want t,o.guard=some (j,want)->(ops[j]?).bind (·.dst)=some t->s'.slot t=s.slot t:=by
 have hguard:∀j want t,o.guard=some (j,want)->(ops[j]?).bind (·.dst)=some t->(BU ops o).testBit (2*t)=true:=by intro j want t hg ht;unfold BU;rw[hg];dsimp only;rw[ht];dsimp only;rw[Cj];simp
 by_cases hm:∃t,o.op=.move (.tmp t)\/(∃i,o.op=.extract (.tmp t) i)\/∃T f,o.op=.field T (.tmp t) f
 ·obtain⟨t,ho⟩:=hm;have hrm:A6 ops o s=Nat.lor (2 ^ (2*t)) (BU ops o):=by rcases ho with ho|⟨i,ho⟩|⟨T,f,ho⟩<;>(unfold A6;rw[ho])
  rw[hrm]at h;have h1:s'.slot t=s.slot t:=h.1 t (by rw[AJ,Cj];simp);refine⟨?_,λj want u hg ht=>h.1 u (by rw[AJ,hguard j want u hg ht];simp)⟩;have h2:s'.Ao (.tmp t)=s.Ao (.tmp t):=h1;unfold AB;rcases ho with ho|⟨i,ho⟩|⟨T,f,ho⟩<;>(rw[ho];grind)
 by_cases hp:∃t g r j AA,(∃T,o.op=.load T (.tmp t)\/∃f,o.op=.fieldAddr T (.tmp t) f)/\s.slot t=.v g [.ptr r j AA]
 ·obtain⟨t,g,r,j,AA,⟨T,ho⟩,hs⟩:=hp;have hrm:A6 ops o s=Nat.lor (2 ^ (2*t)) (Nat.lor (KR r) (BU ops o)):=by rcases ho with ho|⟨f,ho⟩<;>(unfold A6;grind)
  rw[hrm]at h;have h1:s'.slot t=s.slot t:=h.1 t (by rw[AJ,Cj];simp);have h2:(s'.root r).norm=(s.root r).norm:=h.2.2 r (by rw[AJ,AJ,IJ];simp);refine⟨?_,λj want u hg ht=>h.1 u (by rw[AJ,AJ,hguard j want u hg ht];simp)⟩;have h3:s.Ao (.tmp t)=.v g [.ptr r j AA]:=hs;have h4:s'.Ao (.tmp t)=.v g [.ptr r j AA]:=h1.trans hs
  have ha:s'.alive (AV.one? (.v g [.ptr r j AA]))=s.alive (AV.one? (.v g [.ptr r j AA])):=by
   cases g with
   |true=>rfl
   |false=>
    have h5:(s'.root r).box=(s.root r).box:=by have:=congrArg Bo.box h2;exact this
    have h6:(s'.root r).AA=(s.root r).AA:=by have:=congrArg Bo.AA h2;exact this
    show((s'.root r).box&&(s'.root r).AA==AA)=((s.root r).box&&(s.root r).AA==AA);rw[h5,h6]
  have hl:∀n (k:List LA->Step (List Wr)),s'.FX (.v g [.ptr r j AA]) n k=s.FX (.v g [.ptr r j AA]) n k:=λn k=>by
   show s'.DG (AV.one? (.v g [.ptr r j AA])) n k=s.DG (AV.one? (.v g [.ptr r j AA])) n k;cases g with
   |true=>rfl
   |false=>exact Ko h2
  unfold AB;rcases ho with ho|⟨f,ho⟩
  ·rw[ho];grind
  ·rw[ho];simp only[h3,h4,ha]
 by_cases hq:∃t T,o.op=.load T (.tmp t)\/∃f,o.op=.fieldAddr T (.tmp t) f
 ·obtain⟨t,T,ho⟩:=hq
  have hrm:A6 ops o s=Nat.lor (2 ^ (2*t)) (Nat.lor (s.slot t).mask (BU ops o)):=by
   have hno:∀g r j AA,s.slot t≠.v g [.ptr r j AA]:=λg r j AA hs=>hp ⟨t,g,r,j,AA,⟨T,ho⟩,hs⟩;rcases ho with ho|⟨f,ho⟩
   ·unfold A6;grind
   ·unfold A6;grind
  rw[hrm]at h;have h1:s'.slot t=s.slot t:=h.1 t (by rw[AJ,Cj];simp);refine⟨IC λx hx=>?_,λj want u hg ht=>h.1 u (by rw[AJ,AJ,hguard j want u hg ht];simp)⟩
  have hx:x=.tmp t:=by
   rcases ho with ho|⟨f,ho⟩
   ·rw[ho]at hx;simpa[Op.operands]using hx
   ·rw[ho]at hx;simpa[Op.operands]using hx
  subst hx;exact⟨h1,λr hr=>h.2.1 r (by rw[AJ,AJ,(G7 (s.slot t) r hr).1];simp) (by rw[AJ,AJ,(G7 (s.slot t) r hr).2];simp)⟩
 have hrm:A6 ops o s=o.op.operands.toList.foldr (λx m=>match x with
  | .tmp t=>Nat.lor (2 ^ (2*t)) (Nat.lor (s.slot t).mask m)
  |_=>m) (BU ops o):=by
  unfold A6;split
  ·grind
  ·grind
  ·grind
  ·grind
  ·grind
  ·rfl
 rw[hrm]at h;refine⟨IC λx hx=>?_,λj want t hg ht=>?_⟩
 ·by_cases hq:∃t,x=.tmp t
  ·obtain⟨t,rfl⟩:=hq;obtain⟨h1,h2⟩:=Iy s o.op.operands.toList _ (.tmp t) hx t rfl;exact⟨h.1 t h1,λr hr=>h.2.1 r (h2 r hr).1 (h2 r hr).2⟩
  ·obtain⟨h1,h2⟩:=J0 (s:=s) (s':=s') x λt e=>hq ⟨t,e⟩;exact⟨h1,λr hr=>No⟩
 ·exact h.1 t (Hu s _ _ _ (hguard j want t hg ht))
end
end Go.Ev
namespace Go.Ev
def CG(m n:Nat):Prop:=∀i,m.testBit i=true->n.testBit i=false
theorem HY{m n:Nat}(h:(Nat.land m n==0)=true):CG m n:=by
 intro i hi;have h0:m &&& n=0:=ADn
 have:=congrArg (λx=>x.testBit i) h0;grind
theorem CG.symm{m n:Nat}(h:CG m n):CG n m:=λi hi=>by
 cases hm:m.testBit i with
 |false=>rfl
 |true=>rw[h i hm]at hi;cases hi
theorem B4(s:St)(w:Wr):(s.AF w).sl.length=s.sl.length/\(s.AF w).ro.length=s.ro.length:=by
 cases w<;>exact⟨by simp[St.AF,CZ],by simp[St.AF,CZ]⟩
theorem CO:∀(ws:List Wr)(s:St),(s.app ws).sl.length=s.sl.length/\(s.app ws).ro.length=s.ro.length
 | [],s=>⟨rfl,rfl⟩
 |w::ws,s=>by obtain⟨h1,h2⟩:=CO ws (s.AF w);obtain⟨h3,h4⟩:=B4 s w;exact⟨h1.trans h3,h2.trans h4⟩
theorem JJ:∀(ws:List Wr)(s:St),(s.app ws).Bp=s.Bp
 | [],s=>rfl
 |w::ws,s=>(JJ ws (s.AF w)).trans (by cases w<;>rfl)
theorem Ha{s:St}{w:Wr}{t:Nat}(h:w.mask.testBit (2*t)=false):(s.AF w).slot t=s.slot t:=by
 cases w with
 |slot u a=>
  simp only[Wr.mask,Cj,AAl]at h;rw[BO,AAQ (λhh=>h (by rw[hh.1]))]
 |root r x=>rfl
 |leaf r j a=>rfl
 |half r j v=>rfl
theorem Bd{s:St}{w:Wr}{r:Nat}(h:w.mask.testBit (4*r+3)=false):(s.AF w).root r=s.root r:=by
 cases w with
 |slot u a=>rfl
 |root q x=>
  simp only[Wr.mask,AJ,IJ,E5,AAj,AAl]at h;rw[As,AAQ (λhh=>h.2 (by rw[hh.1]))]
 |leaf q j a=>
  simp only[Wr.mask,AJ,IJ,E5,AAj,AAl]at h;show nth dead (Ca s.ro q _) r=_;rw[Aw,AAQ (λhh=>h.2 (by rw[hh.1]))];rfl
 |half q j v=>
  simp only[Wr.mask,E5,AAl]at h;show nth dead (Ca s.ro q _) r=_;rw[Aw,AAQ (λhh=>h (by rw[hh.1]))];rfl
theorem BP(w:Wr)(ws:List Wr)(i:Nat):(AE (w::ws)).testBit i=(w.mask.testBit i||(AE ws).testBit i):=AJ _ _ _
theorem Df{t:Nat}:∀ {ws:List Wr} {s:St},(AE ws).testBit (2*t)=false->(s.app ws).slot t=s.slot t
 | [],s,h=>rfl
 |w::ws,s,h=>by rw[BP,AAj]at h;exact(Df h.2).trans (Ha h.1)
theorem De{r:Nat}:∀ {ws:List Wr} {s:St},(AE ws).testBit (4*r+3)=false->(s.app ws).root r=s.root r
 | [],s,h=>rfl
 |w::ws,s,h=>by rw[BP,AAj]at h;exact(De h.2).trans (Bd h.1)
theorem FC{t:Nat}:∀ {ws:List Wr} {s s':St},s'.sl.length=s.sl.length->s'.slot t=s.slot t->(s'.app ws).slot t=(s.app ws).slot t
 | [],s,s',hl,h=>h
 |w::ws,s,s',hl,h=>by
  show((s'.AF w).app ws).slot t=((s.AF w).app ws).slot t;refine FC ((B4 s' w).1.trans (hl.trans (B4 s w).1.symm)) ?_;cases w with
  |slot u a=>rw[BO,BO,hl,h]
  |root r x=>exact h
  |leaf r j a=>exact h
  |half r j v=>exact h
theorem FB{r:Nat}:∀ {ws:List Wr} {s s':St},s'.ro.length=s.ro.length->s'.root r=s.root r->(s'.app ws).root r=(s.app ws).root r
 | [],s,s',hl,h=>h
 |w::ws,s,s',hl,h=>by
  show((s'.AF w).app ws).root r=((s.AF w).app ws).root r;refine FB ((B4 s' w).2.trans (hl.trans (B4 s w).2.symm)) ?_;cases w with
  |slot u a=>exact h
  |root q x=>rw[As,As,hl,h]
  |leaf q j a=>
   show nth dead (Ca s'.ro q _) r=nth dead (Ca s.ro q _) r;rw[Aw,Aw,hl];split
   ·grind
   ·exact h
  |half q j v=>
   show nth dead (Ca s'.ro q _) r=nth dead (Ca s.ro q _) r;rw[Aw,Aw,hl];split
   ·rename_i hq;obtain⟨rfl,_⟩:=hq;unfold St.leaf;rw[h]
   ·exact h
theorem GB{α:Type}(l:List α){n m:Nat}(h:n≠m)(x y:α):Ca (Ca l n x) m y=Ca (Ca l m y) n x:=by rw[Bj,Bj,Bj,Bj];exact List.set_comm _ _ h
theorem BV{s:St}{r j v:Nat}:(s.AF (.half r j v))=s.AF (.leaf r j ((s.leaf r j).Ci v)):=rfl
theorem LX{s:St}{w w':Wr}(h:CG w.mask w'.mask):(s.AF w).AF w'=(s.AF w').AF w:=by
 have key:∀ {n m:Nat},CG (2 ^ n) (2 ^ m)->n≠m:=by intro n m h e;have:=h n No;rw[Cj,e]at this;simp at this
 have hh:∀ {r q:Nat} {a b:Nat},a.testBit (4*r+3)=true->b.testBit (4*q+3)=true->CG a b->r≠q:=by intro r q a b ha hb hab e;have:=hab (4*r+3) ha;rw[e,hb]at this;cases this
 have full:∀r,(Nat.lor (KR r) (Kl r)).testBit (4*r+3)=true:=λr=>by rw[AJ,E5];simp
 have alone:∀r,(Kl r).testBit (4*r+3)=true:=λr=>by rw[E5];simp
 have ll:∀ {s:St} {r j q k:Nat} {a b:LA},r≠q->(s.AF (.leaf r j a)).AF (.leaf q k b)=(s.AF (.leaf q k b)).AF (.leaf r j a):=by intro s r j q k a b zD;have e1:(s.AF (.leaf r j a)).root q=s.root q:=Bd (by simp only[Wr.mask,AJ,IJ,E5,AAj,AAl];omega);have e2:(s.AF (.leaf q k b)).root r=s.root r:=Bd (by simp only[Wr.mask,AJ,IJ,E5,AAj,AAl];omega);simp only[St.AF]at e1 e2 ⊢;rw[e1,e2,GB _ zD]
 have rl:∀ {s:St} {r q j:Nat} {x:Bo} {b:LA},r≠q->(s.AF (.root r x)).AF (.leaf q j b)=(s.AF (.leaf q j b)).AF (.root r x):=by
  intro s r q j x b zD;have e1:(s.AF (.root r x)).root q=s.root q:=by rw[As,AAQ (λhh=>zD hh.1)]
  simp only[St.AF]at e1 ⊢;rw[e1,GB _ zD]
 have lq:∀ {s:St} {r q j k:Nat} {a:LA},r≠q->(s.AF (.leaf r j a)).leaf q k=s.leaf q k:=by
  intro s r q j k a zD;unfold St.leaf;rw[Bd (by simp only[Wr.mask,AJ,IJ,E5,AAj,AAl];omega)]
 have rq:∀ {s:St} {r q k:Nat} {x:Bo},r≠q->(s.AF (.root r x)).leaf q k=s.leaf q k:=by intro s r q k x zD;unfold St.leaf;rw[As,AAQ (λhh=>zD hh.1)]
 cases w with
 |slot t a=>cases w' with
  |slot u b=>
   have zD:t≠u:=λe=>key h (by rw[e]);simp only[St.AF];rw[GB _ zD]
  |root r x=>rfl
  |leaf r j b=>rfl
  |half r j v=>rfl
 |root r x=>cases w' with
  |slot u b=>rfl
  |root q y=>
   have zD:r≠q:=hh (full r) (full q) h;simp only[St.AF];rw[GB _ zD]
  |leaf q j b=>exact rl (hh (full r) (full q) h)
  |half q j v=>
   have zD:r≠q:=hh (full r) (alone q) h;rw[BV,BV,rq zD,rl zD]
 |leaf r j a=>cases w' with
  |slot u b=>rfl
  |root q y=>exact(rl (hh (full r) (full q) h).symm).symm
  |leaf q k b=>exact ll (hh (full r) (full q) h)
  |half q k v=>
   have zD:r≠q:=hh (full r) (alone q) h;rw[BV,BV,lq zD,ll zD]
 |half r j v=>cases w' with
  |slot u b=>rfl
  |root q y=>
   have zD:r≠q:=hh (alone r) (full q) h;rw[BV,BV,rq zD.symm,rl zD.symm]
  |leaf q k b=>
   have zD:r≠q:=hh (alone r) (full q) h;rw[BV,BV,lq zD.symm,ll zD]
  |half q k u=>
   have zD:r≠q:=hh (alone r) (alone q) h;rw[BV,BV (s:=s) (r:=q),BV,BV,lq zD,lq zD.symm,ll zD]
theorem E9{w:Wr}:∀ {ws:List Wr} {s:St},CG w.mask (AE ws)->(s.AF w).app ws=(s.app ws).AF w
 | [],s,h=>rfl
 |w'::ws,s,h=>by
  have h1:CG w.mask w'.mask:=λi hi=>by have:=h i hi;rw[BP,AAj]at this;exact this.1
  have h2:CG w.mask (AE ws):=λi hi=>by have:=h i hi;rw[BP,AAj]at this;exact this.2
  show((s.AF w).AF w').app ws=_;rw[LX h1,E9 h2];rfl
theorem Jt{ws':List Wr}:∀ {ws:List Wr} {s:St},CG (AE ws) (AE ws')->(s.app ws).app ws'=(s.app ws').app ws
 | [],s,h=>rfl
 |w::ws,s,h=>by have h1:CG w.mask (AE ws'):=λi hi=>h i (by rw[BP,hi];rfl);have h2:CG (AE ws) (AE ws'):=λi hi=>h i (by rw[BP,hi];simp);show((s.AF w).app ws).app ws'=_;rw[Jt h2,E9 h1];rfl
def BS(s:St)(p:Nat->Prop):Prop:=(∀t,∀n∈(s.slot t).AG,p n)/\∀r,∀n∈(s.root r).AG,p n
theorem BS.mono{s:St}{p q:Nat->Prop}(h:BS s p)(hq:∀n,p n->q n):BS s q:=⟨λt n hn=>hq n (h.1 t n hn),λr n hn=>hq n (h.2 r n hn)⟩
theorem BS.zero{s:St}{p:Nat->Prop}(h:BS s p):p 0:=by refine h.2 s.ro.length 0 ?_;have:s.root s.ro.length=dead:=Ay _ (AAc _);rw[this];exact AAg
theorem BS.AF{s:St}{p:Nat->Prop}(h:BS s p){w:Wr}(hw:∀n∈w.AG,p n):BS (s.AF w) p:=by
 cases w with
 |slot u a=>
  refine⟨λt n hn=>?_,h.2⟩;rw[BO]at hn;split at hn
  ·exact hw n hn
  ·exact h.1 t n hn
 |root q x=>
  refine⟨h.1,λr n hn=>?_⟩;rw[As]at hn;split at hn
  ·exact hw n hn
  ·exact h.2 r n hn
 |leaf q j a=>
  refine⟨h.1,λr n hn=>?_⟩;have zX:(s.AF (.leaf q j a)).root r=if q=r/\q<s.ro.length then { s.root q with ls:=Ca (s.root q).ls j a }else s.root r:=Aw _ _ _ _ _
  rw[zX]at hn;split at hn
  ·rcases AAd.1 hn with hn|hn
   ·subst hn;exact h.2 q _ AAg
   ·obtain⟨b,hb,hn2⟩:=AAL.1 hn;have hb:b∈Ca (s.root q).ls j a:=hb;rw[Bj]at hb;rcases AA9 hb with hb|hb
    ·exact h.2 q n (AAM _ (AAL.2 ⟨b,hb,hn2⟩))
    ·rw[hb]at hn2;exact hw n hn2
  ·exact h.2 r n hn
 |half q j v=>
  refine⟨h.1,λr n hn=>?_⟩;have zX:(s.AF (.half q j v)).root r=if q=r/\q<s.ro.length then { s.root q with ls:=Ca (s.root q).ls j ((s.leaf q j).Ci v) }else s.root r:=Aw _ _ _ _ _
  rw[zX]at hn;split at hn
  ·rcases AAd.1 hn with hn|hn
   ·subst hn;exact h.2 q _ AAg
   ·obtain⟨b,hb,hn2⟩:=AAL.1 hn;have hb:b∈Ca (s.root q).ls j ((s.leaf q j).Ci v):=hb;by_cases hj:j<(s.root q).ls.length
    ·rw[Bj]at hb;rcases AA9 hb with hb|hb
     ·exact h.2 q n (AAM _ (AAL.2 ⟨b,hb,hn2⟩))
     ·have yt:n∈(s.leaf q j).AG\/n=v:=by
       rw[hb]at hn2;cases hl:s.leaf q j with
       |arr AA gen t e xs d=>
        rw[hl]at hn2;cases d with
        |zero=>exact .inl hn2
        |succ d=>
         simp only[LA.Ci,LA.AG,AAd,List.not_mem_nil,or_false]at hn2 ⊢;omega
       |_=>rw[hl]at hn2;exact .inl hn2
      rcases yt with yt|yt
      ·exact h.2 q n (AAM _ (AAL.2 ⟨_,HJ hj,yt⟩))
      ·exact hw n (by rw[yt];exact AAg)
    ·rw[Bj,List.set_eq_of_length_le J]at hb;exact h.2 q n (AAM _ (AAL.2 ⟨b,hb,hn2⟩))
  ·exact h.2 r n hn
theorem BS.app{p:Nat->Prop}:∀ {ws:List Wr} {s:St},BS s p->(∀w∈ws,∀n∈w.AG,p n)->BS (s.app ws) p
 | [],s,h,hw=>h
 |w::ws,s,h,hw=>BS.app (ws:=ws) (s:=s.AF w) (h.AF (hw w OF)) λx hx=>hw x (AAM _ hx)
theorem BS.H9{s:St}{p:Nat->Prop}(h:BS s p){v:Nat}(hv:¬p v)(h1:1<v):Ad s v:=by
 refine⟨λt yt=>hv (h.1 t v yt),λr j=>.inr λyt=>?_,h1⟩;by_cases hj:j<(s.root r).ls.length
 ·exact hv (h.2 r v (AAM _ (AAL.2 ⟨_,HJ hj,yt⟩)))
 ·have:s.leaf r j=.bad:=Ay _ (AAy hj);rw[this]at yt;cases yt
def Bv(ops:Array Oper)(o:Oper)(s:St)(b:Bool):Prop:=match o.guard with
 |none=>b=true
 |some (j,want)=>∃t,(ops[j]?).bind (·.dst)=some t/\((s.slot t=.v false [.undef]/\b=false)\/∃c:Bool,s.slot t=.v false [.sc .bool c]/\b=(c==want))
def LR(cx:Cx)(g:Rg)(bs:Is)(i:Nat)(o:Oper)(s:St)(ws:List Wr):Prop:=
 (Bv g.ops o s true/\(AB cx (g.v0+i) o s).leads ws/\Ja cx o.dst g.v0 (g.v0+i) (nth 0 bs i) ws=true)\/(Bv g.ops o s false/\ws=Cw o.dst)
def Trace(cx:Cx)(g:Rg)(bs:Is):Nat->List Oper->List (Nat×Nat)->St->List (Nat×List Wr)->Prop
 |_,[],_,_,[]=>True
 |i,o::r,lg,s,(rm,ws)::tr=>rm=A6 g.ops o s/\(g.draw=true->indep (nth 0 bs i) rm (AE ws) 0 lg=true)/\LR cx g bs i o s ws/\Trace cx g bs (i+1) r (lg++[(rm,AE ws)]) (s.app ws) tr
 |_,_,_,_,_=>False
def AK(A:Nat->Bool):Nat->List (Nat×List Wr)->St->St
 |_,[],s=>s
 |i,x::tr,s=>AK A (i+1) tr (bif A i then s.app x.2 else s)
theorem LP{α:Type}(d:α):∀(l:List α)(n:Nat),Ca l n (nth d l n)=l
 | [],n=>rfl
 |x::xs,0=>rfl
 |x::xs,n+1=>by simp[Ca,nth,LP d xs n]
theorem CN{s:St}{t:Nat}{a:AV}(h:s.slot t=a):s.AF (.slot t a)=s:=by subst h;show { s with sl:=Ca s.sl t (s.slot t) }=s;have:Ca s.sl t (s.slot t)=s.sl:=LP _ _ _;rw[this]
theorem Ed{R:Type}{cx:Cx}{g:Rg}{bs:Is}{k:St->Option R}{x:R}:∀(r:List Oper)(i:Nat) (lg:List (Nat×Nat)) (s:St),Ec cx g (number i r) bs lg s k=some x->
  ∃tr,Trace cx g bs i r lg s tr/\tr.length=r.length/\k (AK (λ_=>true) i tr s)=some x
 | [],i,lg,s,h=>⟨[],trivial,rfl,h⟩
 |o::r,i,lg,s,h=>by
  simp only[number,Ec]at h
  have exec:Bv g.ops o s true->((AB cx (g.v0+i) o s).run λws=>
    if Ja cx o.dst g.v0 (g.v0+i) (nth 0 bs i) ws&&(!g.draw||indep (nth 0 bs i) (A6 g.ops o s) (AE ws) 0 lg)then Ec cx g (number (i+1) r) bs (lg++[(A6 g.ops o s,AE ws)]) (s.app ws) k else none)=some x->
    ∃tr,Trace cx g bs i (o::r) lg s tr/\tr.length=(o::r).length/\k (AK (λ_=>true) i tr s)=some x:=by
   intro hg h;obtain⟨ws,hl,h⟩:=Step.C3 _ h;split at h
   ·rename_i hc;simp only[AAJ,AAe,AAU]at hc;obtain⟨tr,h1,h2,h3⟩:=Ed r (i+1) _ _ h;exact⟨(_,ws)::tr,⟨rfl,λhd=>hc.2.resolve_left (by simp[hd]),.inl ⟨hg,hl,hc.1⟩,h1⟩,by simp[h2],h3⟩
   ·cases h
  have skip:Bv g.ops o s false->(if(!g.draw||indep (nth 0 bs i) (A6 g.ops o s) (AE (Cw o.dst)) 0 lg)=true then Ec cx g (number (i+1) r) bs (lg++[(A6 g.ops o s,AE (Cw o.dst))]) (s.app (Cw o.dst)) k else none)=some x->
    ∃tr,Trace cx g bs i (o::r) lg s tr/\tr.length=(o::r).length/\k (AK (λ_=>true) i tr s)=some x:=by
   intro hg h;split at h
   ·rename_i hc;simp only[AAe,AAU]at hc;obtain⟨tr,h1,h2,h3⟩:=Ed r (i+1) _ _ h;exact⟨(_,Cw o.dst)::tr,⟨rfl,λhd=>hc.resolve_left (by simp[hd]),.inr ⟨hg,rfl⟩,h1⟩,by simp[h2],h3⟩
   ·cases h
  cases hgd:o.guard with
  |none=>
   rw[hgd]at h;exact exec (by unfold Bv;rw[hgd]) h
  |some p=>
   obtain⟨j,want⟩:=p;rw[hgd]at h;dsimp only at h;cases ht:(g.ops[j]?).bind (·.dst)with
   |none=>grind
   |some t=>
    rw[ht]at h;dsimp only at h;have gd:∀(c:Bool),s.slot t=.v false [.sc .bool c]->Bv g.ops o s (c==want):=λc hc=>by unfold Bv;grind
    split at h
    ·rename_i hs;exact skip (by unfold Bv;grind) h
    ·rename_i c hs;cases want with
     |true=>
      dsimp only at h;cases c with
      |true=>
       have yx:s.AF (.slot t (Ig true))=s:=CN hs;grind
      |false=>
       have yx:s.AF (.slot t (Ig false))=s:=CN hs;grind
     |false=>
      dsimp only at h;cases c with
      |true=>
       have yx:s.AF (.slot t (Ig true))=s:=CN hs;grind
      |false=>
       have yx:s.AF (.slot t (Ig false))=s:=CN hs;grind
    ·cases h
end Go.Ev
namespace Go.Ev
theorem Hf:∀(os:List Oper)(acc:Is)(i:Nat),i<acc.length->nth 0 (E3 os acc) i=nth 0 acc i
 | [],acc,i,h=>rfl
 |o::os,acc,i,h=>by
  simp only[E3];rw[Hf os _ i ADg,Ae,Ae,ABA h]
theorem Ht(acc:Is)(j:Nat):∀(es:List Edge),(es.foldr (λe m=>if Region.binds .any e then Nat.lor (2 ^ e.on) (Nat.lor (nth 0 acc e.on) m)else m) 0).testBit j=true->∃e∈es,Region.binds .any e=true/\(e.on=j\/(nth 0 acc e.on).testBit j=true)
 | [],h=>ADl
 |e::es,h=>by
  rw[List.foldr_cons]at h;split at h
  ·rename_i hb;rw[AJ,AJ,Cj]at h;simp only[AAe,AAf]at h;rcases h with h|h|h
   ·exact⟨e,OF,hb,.inl h⟩
   ·exact⟨e,OF,hb,.inr h⟩
   ·obtain⟨e',h1,h2⟩:=Ht acc j es h;exact⟨e',AAM _ h1,h2⟩
  ·obtain⟨e',h1,h2⟩:=Ht acc j es h;exact⟨e',AAM _ h1,h2⟩
theorem He(j:Nat):∀(os:List Oper)(acc:Is)(k:Nat)(o:Oper),os[k]?=some o->(nth 0 (E3 os acc) (acc.length+k)).testBit j=true->∃e∈o.after.toList,Region.binds .any e=true/\(e.on=j\/(nth 0 (E3 os acc) e.on).testBit j=true)
 | [],acc,k,o,h,hb=>ADl
 |x::os,acc,k,o,h,hb=>by
  simp only[E3]at hb ⊢;cases k with
  |zero=>
   simp at h;subst h;rw[AAx,Hf os _ acc.length OF,Ae,ABO (AAc _)]at hb;simp only[Nat.sub_self,List.getElem?_cons_zero,AA8]at hb;obtain⟨e,h1,h2,h3⟩:=Ht acc j _ hb;refine⟨e,h1,h2,h3.imp id λh3=>?_⟩;by_cases zA:e.on<acc.length
   ·rw[Hf os _ e.on ADg,Ae,ABA zA,<-Ae];exact h3
   ·rw[Ay 0 (AAy zA)]at h3;simp at h3
  |succ k=>
   refine He j os _ k o ADn ?_;rw[AAz,List.length_singleton,show acc.length+1+k=acc.length+(k+1) by omega];exact hb
theorem Co:∀(os:List Oper)(i:Nat),EA i os=true->∀(k:Nat)(o:Oper),os[k]?=some o->∀e∈o.after.toList,Region.binds .any e=true->e.on<i+k
 | [],i,h,k,o,ho=>by simp at ho
 |x::os,i,h,k,o,ho=>by
  simp only[EA,AAJ]at h;cases k with
  |zero=>
   simp at ho;subst ho;intro e he hb;have:=AAW.1 h.1 e he;simpa[hb]using this
  |succ k=>
   intro e he hb;have:=Co os (i+1) h.2 k o (by simpa using ho) e he hb;omega
theorem Hi{ops:Array Oper}(hE:EA 0 ops.toList=true){A:Nat->Prop}(hA:∀i o,A i->ops[i]?=some o->∀e∈o.after.toList,Region.binds .any e=true->A e.on)(hn:∀i,A i->i<ops.size):
  ∀(i:Nat),A i->∀j,(nth 0 (E3 ops.toList []) i).testBit j=true->A j:=by
 intro i
 induction i using Nat.strongRecOn with
 |_ i ih=>
  intro hi j hj;have zA:=hn i hi;have ho:ops.toList[i]?=some ops[i]:=by simp[zA]
  obtain⟨e,h1,h2,h3⟩:=He j ops.toList [] i ops[i] ho ADx;have hon:=Co ops.toList 0 hE i ops[i] ho e h1 h2;have hAe:=hA i ops[i] hi (by simp[zA]) e h1 h2;rcases h3 with h3|h3
  ·rw[<-h3];exact hAe
  ·exact ih e.on J hAe j h3
theorem JD{ops:Array Oper}(hE:EA 0 ops.toList=true){A:Nat->Prop}(hA:∀i o,A i->ops[i]?=some o->∀e∈o.after.toList,Region.binds .any e=true->A e.on)(hn:∀i,A i->i<ops.size)
  {i:Nat} {o:Oper} (ho:ops[i]?=some o) (hi:∀e∈o.after.toList,Region.binds .any e=true->A e.on) (j:Nat) (hj:(nth 0 (E3 ops.toList []) i).testBit j=true):A j:=by
 have ho':ops.toList[i]?=some o:=by simpa using ho
 obtain⟨e,h1,h2,h3⟩:=He j ops.toList [] i o ho' ADx;rcases h3 with h3|h3
 ·rw[<-h3];exact hi e h1 h2
 ·exact Hi hE hA hn e.on (hi e h1 h2) j h3
section
variable {P:Program}{E:Cy}{s:St}{W:Wd}{a:Act}{cx:Cx}{g:Rg}{bs:Is}{Q:Exit->Act->World->Prop}
theorem JG{tm:Array Value}(h:AU E s tm W){ops:Array Oper}{o:Oper}{b:Bool}(hg:Bv ops o s b):Region.wanted o (yielded ops tm)=b:=by
 unfold Bv at hg;unfold Region.wanted;cases hq:o.guard with
 |none=>rw[hq]at hg;exact hg.symm
 |some p=>
  obtain⟨j,want⟩:=p;rw[hq]at hg;dsimp only at hg ⊢;obtain⟨t,ht,hs⟩:=hg;have hsl:=h.AO t;unfold yielded;rw[ht];dsimp only[Option.bind_some];rcases hs with⟨hs,rfl⟩|⟨c,hs,rfl⟩
  ·rw[hs]at hsl;have hsl:tm.getD t Go.undef=Go.undef:=hsl;cases hx:tm[t]? with
   |none=>rfl
   |some x=>
    have:x=Go.undef:=by rw[<-hsl];simp[AAi,hx]
    subst this;rfl
  ·rw[hs]at hsl;have hsl:tm.getD t Go.undef=.bool c:=hsl.1;cases hx:tm[t]? with
   |none=>rw[AAi,hx]at hsl;cases hsl
   |some x=>
    have:x=.bool c:=by rw[<-hsl];simp[AAi,hx]
    subst this;cases c<;>cases want<;>rfl
theorem K8(hc:Dt P cx)(zQ:DO P E cx.env)(h:AU E s a.tmps W){i:Nat}{o:Oper}{ws:List Wr}(hv:Ad s (g.v0+i))(hd:∀d,o.dst=some d->d<a.tmps.size)(hdoes:LR cx g bs i o s ws)
  {K:Act->World->Prop} (hK:∀a' W',a'.defers=a.defers->AU E (s.app ws) a'.tmps W'->K a' W'.w) (ho:g.ops[i]?=some o):wpOp P g.ops Q i K a W.w:=by
 unfold wpOp;rw[ho];dsimp only;rcases hdoes with⟨hg,hl,_⟩|⟨hg,rfl⟩
 ·rw[JG h hg,AAP rfl];exact .inl (Mp hc zQ h hv hd hl K Q λa' W' h1 h2=>hK a' W' h1 h2)
 ·rw[JG h hg,AAQ OF];cases zl:o.dst with
  |none=>exact hK a W rfl (by simp only[Cw,zl];exact h)
  |some d=>
   refine hK _ W rfl ?_;simp only[Cw,zl];exact h.slot d (show BW s W (one .undef) Go.undef from rfl)
def pA(v0:Nat)(A:Nat->Prop)(n:Nat):Prop:=n<v0\/∃j,A j/\n=v0+j
theorem Ir{i:Nat}{o:Oper}{ws:List Wr}(hdoes:LR cx g bs i o s ws){A:Nat->Prop}(hA:∀j,(nth 0 bs i).testBit j=true->A j):∀w∈ws,∀n∈w.AG,pA g.v0 (λj=>A j\/j=i) n:=by
 intro w hw n hn;rcases hdoes with⟨_,_,zh⟩|⟨_,rfl⟩
 ·have h1:=AAW.1 zh w hw;rw[AAJ]at h1;have h2:=AAW.1 h1.2 n hn;simp only[AAe,AAf,AAT,AAJ]at h2;rcases h2 with(h2|h2)|⟨h2,h3⟩
  ·exact .inl h2
  ·exact .inr ⟨i,.inr rfl,h2⟩
  ·exact .inr ⟨n-g.v0,.inl (hA _ h3),J⟩
 ·cases zl:o.dst with
  |none=>rw[zl]at hw;cases hw
  |some d=>
   rw[zl]at hw;have:w=.slot d (one .undef):=by simpa[Cw]using hw
   subst this;simp[Wr.AG,one,AV.AG,LA.AG]at hn
theorem M1(hc:Dt P cx)(zQ:DO P E cx.env)(h1:1<g.v0)(hb:∀i j,i<g.ops.size->(nth 0 bs i).testBit j=true->j<i):∀(r:List Oper)(i:Nat) (lg:List (Nat×Nat)) (s:St) (tr:List (Nat×List Wr)) (a:Act) (W:Wd),Trace cx g bs i r lg s tr->
  (∀(k:Nat)(o:Oper),r[k]?=some o->g.ops[i+k]?=some o)->AU E s a.tmps W->BS s (pA g.v0 (· < i))->(∀o∈r,∀d,o.dst=some d->d<s.sl.length)->
  (∀a' W',a'.defers=a.defers->AU E (AK (λ_=>true) i tr s) a'.tmps W'->BS (AK (λ_=>true) i tr s) (pA g.v0 (· < i+r.length))->Q .normal a' W'.w)->wpOps P g.ops Q (List.range' i r.length) a W.w
 | [],i,lg,s,[],a,W,ht,hr,yu,zC,hd,hK=>hK a W rfl yu zC
 | [],i,lg,s,_::_,a,W,ht,hr,yu,zC,hd,hK=>ht.elim
 |_::_,i,lg,s,[],a,W,ht,hr,yu,zC,hd,hK=>ht.elim
 |o::r,i,lg,s,(rm,ws)::tr,a,W,ht,hr,yu,zC,hd,hK=>by
  obtain⟨hrm,_,hdoes,ht⟩:=ht;have ho:g.ops[i]?=some o:=by have:=hr 0 o rfl;simpa using this
  have zA:i<g.ops.size:=(AA7.1 ho).1;rw[ABG,List.range'_succ,wpOps_cons];have hnv:Ad s (g.v0+i):=zC.H9 (by rintro (hh|⟨j,hj,e⟩)<;>omega) J;refine K8 hc zQ yu hnv (λd zl=>by rw[<-yu.DM];exact hd o OF d zl) hdoes (λa' W' hdef hrep'=>?_) ho;refine M1 hc zQ h1 hb r (i+1) _ _ tr a' W' ht (λk o hk=>by rw[show i+1+k=i+(k+1) by omega];exact hr (k+1) o (by simpa using hk)) hrep' ?_ ?_ ?_
  ·refine(zC.mono ?_).app (λw hw n hn=>?_)
   ·rintro n (hn|⟨j,hj,e⟩)
    ·exact .inl hn
    ·exact .inr ⟨j,J,e⟩
   ·rcases Ir hdoes (A:=(· < i)) (λj hj=>hb i j zA hj) w hw n hn with hn|⟨j,hj,e⟩
    ·exact .inl hn
    ·exact .inr ⟨j,J,e⟩
  ·intro o' ho' d zl;rw[(CO ws s).1];exact hd o' (AAM _ ho') d zl
  ·intro a2 W2 hdef2 hrep2 hver2;refine hK a2 W2 (hdef2.trans hdef) hrep2 (hver2.mono ?_)
   rintro n (hn|⟨j,hj,e⟩)
   ·exact .inl hn
   ·exact .inr ⟨j,ADg,e⟩
end
end Go.Ev
namespace Go.Ev
theorem GM(b rm wm:Nat):∀(lg:List (Nat×Nat)) (j:Nat),indep b rm wm j lg=true->∀(k:Nat)(r w:Nat),lg[k]?=some (r,w)->b.testBit (j+k)=true\/(CG w (Nat.lor rm wm)/\CG r wm)
 | [],j,h,k,r,w,hk=>by simp at hk
 |(r0,w0)::lg,j,h,k,r,w,hk=>by
  simp only[indep,AAJ,AAe]at h;cases k with
  |zero=>
   simp at hk;obtain⟨rfl,rfl⟩:=hk;exact h.1.imp id λhh=>⟨HY hh.1,HY hh.2⟩
  |succ k=>
   have:=GM b rm wm lg (j+1) h.2 k r w (by simpa using hk);grind
section
variable {cx:Cx}{g:Rg}{bs:Is}
theorem IY:∀(r:List Oper)(i:Nat) (lg:List (Nat×Nat)) (s:St) (tr:List (Nat×List Wr)),Trace cx g bs i r lg s tr->∀(k:Nat)(o:Oper)(rm:Nat)(ws:List Wr),r[k]?=some o->tr[k]?=some (rm,ws)->
  rm=A6 g.ops o (AK (λj=>decide (j<i+k)) i tr s)/\LR cx g bs (i+k) o (AK (λj=>decide (j<i+k)) i tr s) ws/\(g.draw=true->indep (nth 0 bs (i+k)) rm (AE ws) 0 (lg++(tr.take k).map λx=>(x.1,AE x.2))=true)
 | [],i,lg,s,tr,ht,k,o,rm,ws,h1,h2=>by simp at h1
 |o0::r,i,lg,s,[],ht,k,o,rm,ws,h1,h2=>by simp at h2
 |o0::r,i,lg,s,(rm0,ws0)::tr,ht,k,o,rm,ws,h1,h2=>by
  obtain⟨hrm,yt,hdoes,ht⟩:=ht
  have none:∀(tr:List (Nat×List Wr)) (i j:Nat) (s:St),j<=i->AK (λq=>decide (q<j)) i tr s=s:=by
   intro tr
   induction tr with
   |nil=>intro i j s h;rfl
   |cons x tr ih=>
    intro i j s h;simp only[AK];rw[show decide (i<j)=false by simp;omega];exact ih (i+1) j s J
  cases k with
  |zero=>
   simp at h1 h2;obtain⟨rfl,rfl⟩:=h2;subst h1;rw[AAx,none _ _ _ _ (AAc _)];grind
  |succ k=>
   obtain⟨q1,q2,q3⟩:=IY r (i+1) _ _ tr ht k o rm ws AD2 AEA
   have e:AK (λj=>decide (j<i+(k+1))) i ((rm0,ws0)::tr) s=AK (λj=>decide (j<i+1+k)) (i+1) tr (s.app ws0):=by simp only[AK];rw[show decide (i<i+(k+1))=true from decide_eq_true J,show i+(k+1)=i+1+k by omega];rfl
   grind
theorem Hb(A:Nat->Bool):∀(tr:List (Nat×List Wr)) (i:Nat) (s:St),(AK A i tr s).sl.length=s.sl.length/\(AK A i tr s).ro.length=s.ro.length
 | [],i,s=>⟨rfl,rfl⟩
 |x::tr,i,s=>by
  simp only[AK];obtain⟨h1,h2⟩:=Hb A tr (i+1) (bif A i then s.app x.2 else s);cases hA:A i with
  |true=>rw[hA]at h1 h2;exact⟨h1.trans (CO _ _).1,h2.trans (CO _ _).2⟩
  |false=>grind
theorem Gi{A B:Nat->Bool}{t:Nat}:∀(tr:List (Nat×List Wr)) (i:Nat) (s s':St),s'.sl.length=s.sl.length->s'.slot t=s.slot t->(∀k x,tr[k]?=some x->(AE x.2).testBit (2*t)=true->B (i+k)=A (i+k))->
  (AK B i tr s').slot t=(AK A i tr s).slot t
 | [],i,s,s',hl,h,hA=>h
 |x::tr,i,s,s',hl,h,hA=>by
  simp only[AK];refine Gi tr (i+1) _ _ ?_ ?_ λk y hk hy=>by rw[show i+1+k=i+(k+1) by omega];exact hA (k+1) y No hy
  ·cases A i<;>cases B i<;>simp[CO,hl]
  ·by_cases hm:(AE x.2).testBit (2*t)=true
   ·have:=hA 0 x rfl hm;rw[AAx]at this;rw[this];cases A i with
    |true=>exact FC hl h
    |false=>exact h
   ·have hm:(AE x.2).testBit (2*t)=false:=ADq
    have e1:∀b:Bool,(bif b then s'.app x.2 else s').slot t=s'.slot t:=λb=>by cases b;rfl;exact Df hm
    have e2:∀b:Bool,(bif b then s.app x.2 else s).slot t=s.slot t:=λb=>by cases b;rfl;exact Df hm
    rw[e1,e2];exact h
theorem Gh{A B:Nat->Bool}{t:Nat}:∀(tr:List (Nat×List Wr)) (i:Nat) (s s':St),s'.ro.length=s.ro.length->s'.root t=s.root t->(∀k x,tr[k]?=some x->(AE x.2).testBit (4*t+3)=true->B (i+k)=A (i+k))->
  (AK B i tr s').root t=(AK A i tr s).root t
 | [],i,s,s',hl,h,hA=>h
 |x::tr,i,s,s',hl,h,hA=>by
  simp only[AK];refine Gh tr (i+1) _ _ ?_ ?_ λk y hk hy=>by rw[show i+1+k=i+(k+1) by omega];exact hA (k+1) y No hy
  ·cases A i<;>cases B i<;>simp[CO,hl]
  ·by_cases hm:(AE x.2).testBit (4*t+3)=true
   ·have:=hA 0 x rfl hm;rw[AAx]at this;rw[this];cases A i with
    |true=>exact FB hl h
    |false=>exact h
   ·have hm:(AE x.2).testBit (4*t+3)=false:=ADq
    have e1:∀b:Bool,(bif b then s'.app x.2 else s').root t=s'.root t:=λb=>by cases b;rfl;exact De hm
    have e2:∀b:Bool,(bif b then s.app x.2 else s).root t=s.root t:=λb=>by cases b;rfl;exact De hm
    rw[e1,e2];exact h
theorem Lo(a:LA)(v:Nat):(a.Ci v).norm=a.norm:=by
 cases a with
 |arr AA gen t e xs d=>cases d<;>rfl
 |_=>rfl
theorem IA(x:Bo)(j:Nat)(a:LA):({ x with ls:=Ca x.ls j a }:Bo).norm={ x.norm with ls:=x.norm.ls.set j a.norm }:=by unfold Bo.norm;simp only[Bj,List.map_set]
theorem GP(x:Bo)(j:Nat)(v:Nat):({ x with ls:=Ca x.ls j ((nth .bad x.ls j).Ci v) }:Bo).norm=x.norm:=by
 rw[IA]
 have:x.norm.ls.set j ((nth .bad x.ls j).Ci v).norm=x.norm.ls:=by
  rw[Lo];apply List.ext_getElem?;intro i;rw[List.getElem?_set];by_cases e:j=i
  ·subst e;rw[AAP rfl];by_cases hl:j<x.norm.ls.length
   ·rw[AAP hl];have hl2:j<x.ls.length:=by simpa[Bo.norm]using hl
    have hn:nth .bad x.ls j=x.ls[j]:=by
     have:∀(l:List LA)(j:Nat)(h:j<l.length),nth .bad l j=l[j]:=by
      intro l
      induction l with
      |nil=>intro j h;simp at h
      |cons y l ih=>
       intro j h;cases j with
       |zero=>rfl
       |succ j=>exact ih j ADn
     exact this _ _ hl2
    rw[hn,AAI hl];simp[Bo.norm]
   grind
  ·rw[AAQ e]
 rw[this]
theorem HZ{s:St}{w:Wr}{r:Nat}(h:w.mask.testBit (4*r+1)=false):((s.AF w).root r).norm=(s.root r).norm:=by
 cases w with
 |slot u a=>rfl
 |root q x=>
  simp only[Wr.mask,AJ,IJ,E5,AAj,AAl]at h;rw[As,AAQ (λhh=>h.1 (by rw[hh.1]))]
 |leaf q j a=>
  simp only[Wr.mask,AJ,IJ,E5,AAj,AAl]at h
  have e:(s.AF (.leaf q j a)).root r=s.root r:=by show nth dead (Ca s.ro q _) r=_;rw[Aw,AAQ (λhh=>h.1 (by rw[hh.1]))];rfl
  rw[e]
 |half q j v=>
  have e:(s.AF (.half q j v)).root r=if q=r/\q<s.ro.length then { s.root q with ls:=Ca (s.root q).ls j ((s.leaf q j).Ci v) }else s.root r:=Aw _ _ _ _ _
  rw[e];split
  ·rename_i hq;obtain⟨rfl,_⟩:=hq;exact GP _ _ _
  ·rfl
theorem Dd{r:Nat}:∀ {ws:List Wr} {s:St},(AE ws).testBit (4*r+1)=false->((s.app ws).root r).norm=(s.root r).norm
 | [],s,h=>rfl
 |w::ws,s,h=>by rw[BP,AAj]at h;exact(Dd h.2).trans (HZ h.1)
theorem FA{r:Nat}:∀ {ws:List Wr} {s s':St},s'.ro.length=s.ro.length->(s'.root r).norm=(s.root r).norm->((s'.app ws).root r).norm=((s.app ws).root r).norm
 | [],s,s',hl,h=>h
 |w::ws,s,s',hl,h=>by
  show(((s'.AF w).app ws).root r).norm=(((s.AF w).app ws).root r).norm;refine FA ((B4 s' w).2.trans (hl.trans (B4 s w).2.symm)) ?_;cases w with
  |slot u a=>exact h
  |root q x=>
   rw[As,As,hl];grind
  |leaf q j a=>
   have e:∀s:St,(s.AF (.leaf q j a)).root r=if q=r/\q<s.ro.length then { s.root q with ls:=Ca (s.root q).ls j a }else s.root r:=λs=>Aw _ _ _ _ _
   rw[e,e,hl];split
   ·rename_i hq;obtain⟨rfl,_⟩:=hq;rw[IA,IA,h]
   ·exact h
  |half q j v=>
   have e:∀s:St,(s.AF (.half q j v)).root r=if q=r/\q<s.ro.length then { s.root q with ls:=Ca (s.root q).ls j ((s.leaf q j).Ci v) }else s.root r:=λs=>Aw _ _ _ _ _
   rw[e,e,hl];split
   ·rename_i hq;obtain⟨rfl,_⟩:=hq;exact(GP _ _ _).trans (h.trans (GP _ _ _).symm)
   ·exact h
theorem Gf{A B:Nat->Bool}{t:Nat}:∀(tr:List (Nat×List Wr)) (i:Nat) (s s':St),s'.ro.length=s.ro.length->(s'.root t).norm=(s.root t).norm->(∀k x,tr[k]?=some x->(AE x.2).testBit (4*t+1)=true->B (i+k)=A (i+k))->
  ((AK B i tr s').root t).norm=((AK A i tr s).root t).norm
 | [],i,s,s',hl,h,hA=>h
 |x::tr,i,s,s',hl,h,hA=>by
  simp only[AK];refine Gf tr (i+1) _ _ ?_ ?_ λk y hk hy=>by rw[show i+1+k=i+(k+1) by omega];exact hA (k+1) y No hy
  ·cases A i<;>cases B i<;>simp[CO,hl]
  ·by_cases hm:(AE x.2).testBit (4*t+1)=true
   ·have:=hA 0 x rfl hm;rw[AAx]at this;rw[this];cases A i with
    |true=>exact FA hl h
    |false=>exact h
   ·have hm:(AE x.2).testBit (4*t+1)=false:=ADq
    have e1:∀b:Bool,((bif b then s'.app x.2 else s').root t).norm=(s'.root t).norm:=λb=>by cases b;rfl;exact Dd hm
    have e2:∀b:Bool,((bif b then s.app x.2 else s).root t).norm=(s.root t).norm:=λb=>by cases b;rfl;exact Dd hm
    rw[e1,e2];exact h
theorem Gg{A:Nat->Bool}{ws:List Wr}:∀(tr:List (Nat×List Wr)) (i:Nat) (s:St),(∀k x,tr[k]?=some x->A (i+k)=true->CG (AE ws) (AE x.2))->AK A i tr (s.app ws)=(AK A i tr s).app ws
 | [],i,s,h=>rfl
 |x::tr,i,s,h=>by
  simp only[AK];have ih:∀s,AK A (i+1) tr (s.app ws)=(AK A (i+1) tr s).app ws:=λs=>Gg tr (i+1) s λk y hk hy=>h (k+1) y No No;cases hA:A i with
  |false=>exact ih s
  |true=>
   dsimp only[cond_true];rw[<-ih,Jt (h 0 x rfl J)]
theorem D5{A B:Nat->Bool}:∀(tr:List (Nat×List Wr)) (i:Nat) (s:St),(∀k,k<tr.length->A (i+k)=B (i+k))->AK A i tr s=AK B i tr s
 | [],i,s,h=>rfl
 |x::tr,i,s,h=>by
  simp only[AK];have h0:=h 0 OF;rw[AAx]at h0;rw[h0];exact D5 tr (i+1) _ λk hk=>by rw[show i+1+k=i+(k+1) by omega];exact h (k+1) ADg
theorem Ge{A B:Nat->Bool}{n:Nat}{rm:Nat}{ws:List Wr}:∀(tr:List (Nat×List Wr)) (i:Nat) (s:St),tr[n]?=some (rm,ws)->A (i+n)=false->B (i+n)=true->(∀k,k≠n->B (i+k)=A (i+k))->
  (∀k x,n<k->tr[k]?=some x->A (i+k)=true->CG (AE ws) (AE x.2))->AK B i tr s=(AK A i tr s).app ws
 | [],i,s,hn,hA,hB,yx,hap=>by simp at hn
 |x::tr,i,s,hn,hA,hB,yx,hap=>by
  simp only[AK];cases n with
  |zero=>
   simp at hn;subst hn;rw[AAx]at hA hB;rw[hA,hB];dsimp only[cond_true,cond_false];rw[D5 (A:=B) (B:=A) tr (i+1) _ λk hk=>by rw[show i+1+k=i+(k+1) by omega];exact yx (k+1) J];exact Gg tr (i+1) s λk y hk hy=>hap (k+1) y J No No
  |succ n=>
   have h0:=yx 0 J;rw[AAx]at h0;rw[h0]
   exact Ge tr (i+1) _ (by simpa using hn) No No
    (λk hk=>by rw[show i+1+k=i+(k+1) by omega];exact yx (k+1) J) (λk y hk hy hA=>hap (k+1) y J No No)
end
section
variable {P:Program}{E:Cy}{cx:Cx}{g:Rg}{Q:Exit->Act->World->Prop}
theorem Hw{ops:Array Oper}{o:Oper}{s s':St}{b:Bool}(h:∀j want t,o.guard=some (j,want)->(ops[j]?).bind (·.dst)=some t->s'.slot t=s.slot t)(hg:Bv ops o s b):Bv ops o s' b:=by unfold Bv at hg ⊢;grind
theorem N4(hc:Dt P cx)(zQ:DO P E cx.env)(h1:1<g.v0)(hE:EA 0 g.ops.toList=true)(hdraw:g.draw=true){s:St}{tr:List (Nat×List Wr)}(ht:Trace cx g (E3 g.ops.toList []) 0 g.ops.toList [] s tr)(hlen:tr.length=g.ops.size)
  (zC:BS s (· < g.v0)) (hd:∀o∈g.ops.toList,∀d,o.dst=some d->d<s.sl.length) {df:List Deferred}
  (hK:∀a' W',a'.defers=df->AU E (AK (λ_=>true) 0 tr s) a'.tmps W'->BS (AK (λ_=>true) 0 tr s) (pA g.v0 (· < g.ops.size))->Q .normal a' W'.w):
  ∀(fuel:Nat)(listed:Array Bool)(a:Act)(W:Wd),listed.size=g.ops.size->listed.toList.count false=fuel->a.defers=df->AU E (AK (λi=>listed.getD i false) 0 tr s) a.tmps W->
   BS (AK (λi=>listed.getD i false) 0 tr s) (pA g.v0 λi=>listed.getD i false=true)->
   (∀i o,listed.getD i false=true->g.ops[i]?=some o->∀e∈o.after.toList,Region.binds .any e=true->listed.getD e.on false=true)->wpAny P .any g.ops Q fuel listed a W.w:=by
 intro fuel
 have zq:∀(listed:Array Bool),listed.size=g.ops.size->(∀i,i<g.ops.size->listed.getD i false=true)->AK (λi=>listed.getD i false) 0 tr s=AK (λ_=>true) 0 tr s:=λlisted hs h=>
  D5 tr 0 s λk hk=>No
 have hrdy:∀(listed:Array Bool)(i:Nat),i∈Region.ready .any g.ops listed->listed.size=g.ops.size->i<g.ops.size/\listed.getD i false=false/\∃o,g.ops[i]?=some o/\∀e∈o.after.toList,Region.binds .any e=true->listed.getD e.on false=true:=by
  intro listed i hi hs;obtain⟨hi1,hi2⟩:=List.mem_filter.1 hi;have zA:i<g.ops.size:=AAX.1 hi1;rw[AAJ]at hi2;refine⟨zA,?_,g.ops[i],by simp[zA],?_⟩
  ·grind
  ·intro e he hb;have h2:=hi2.2;rw[AAh zA]at h2;simp only[AA6,AA8]at h2;have h3:=Array.all_eq_true'.1 h2 e AD1;grind
 induction fuel with
 |zero=>
  intro listed a W hs hcount hdf yu hv hcl
  have hno:∀i,i<g.ops.size->listed.getD i false=true:=by
   intro i hi;have hl:i<listed.size:=J
   have zD:false∉listed.toList:=List.count_eq_zero.1 hcount;rw[AAi,AAh hl,AA8];cases hq:listed[i]with
   |true=>rfl
   |false=>exact absurd (by rw[<-hq];exact Array.getElem_mem_toList hl) zD
  refine⟨?_,?_⟩
  ·rw[List.eq_nil_iff_forall_not_mem];intro i hi;obtain⟨q1,q2,_⟩:=hrdy listed i hi hs;rw[hno i q1]at q2;cases q2
  grind
 |succ fuel ih=>
  intro listed a W hs hcount hdf yu hv hcl
  have hAn:∀i,listed.getD i false=true->i<g.ops.size:=by
   intro i hi;rw[<-hs];rcases AAr i listed.size with h|h
   ·exact h
   ·grind
  refine⟨λhemp=>?_,λi hi=>?_⟩
  ·exfalso
   have hex:∃i,i<g.ops.size/\listed.getD i false=false:=by
    have:false∈listed.toList:=by refine AAp λhn=>?_;rw[List.count_eq_zero.2 hn]at hcount;cases hcount
    obtain⟨i,hi,he⟩:=List.mem_iff_getElem.1 this;have hi':i<listed.size:=ADm
    refine⟨i,J,?_⟩;rw[AAi,AAh hi',AA8];simpa using he
   have hmin:∀n i,i<=n->i<g.ops.size->listed.getD i false=false->∃j,j∈Region.ready .any g.ops listed:=by
    intro n
    induction n using Nat.strongRecOn with
    |_ n ihn=>
     intro i yt hi hli;by_cases hp:∀e∈(g.ops[i]).after.toList,Region.binds .any e=true->listed.getD e.on false=true
     ·refine⟨i,List.mem_filter.2 ⟨AAX.2 hi,?_⟩⟩;have hl:i<listed.size:=J
      rw[AAJ];refine⟨?_,?_⟩
      ·simp only[AAi,AAh hl,AA8]at hli ⊢;simp[hli]
      ·rw[AAh hi];simp only[AA6,AA8];refine Array.all_eq_true'.2 λe he=>?_;cases hb:Region.binds .any e with
       |false=>rfl
       |true=>simpa using hp e AD1 hb
     ·have:∃e∈(g.ops[i]).after.toList,Region.binds .any e=true/\listed.getD e.on false=false:=by
       refine AAp λhn=>hp λe he hb=>?_;cases hq:listed.getD e.on false with
       |true=>rfl
       |false=>exact absurd ⟨e,he,hb,hq⟩ hn
      obtain⟨e,he,hb,hle⟩:=this;have hon:=Co g.ops.toList 0 hE i g.ops[i] (by simp[hi]) e he hb;exact ihn e.on J e.on (AAc _) J hle
   obtain⟨i,hi,hli⟩:=hex;obtain⟨j,hj⟩:=hmin i i (AAc _) hi hli;grind
  ·obtain⟨zA,hnl,o,ho,hpre⟩:=hrdy listed i hi hs;have hol:g.ops.toList[i]?=some o:=by simpa using ho
   obtain⟨⟨rm,ws⟩,htr⟩:∃x,tr[i]?=some x:=⟨tr[i]'(by omega),AAI J⟩;obtain⟨t1,t2,t3⟩:=IY g.ops.toList 0 [] s tr ht i o rm ws hol htr;simp only[AAY,AA0]at t1 t2 t3;have t3:=t3 hdraw;have E5:∀j,(nth 0 (E3 g.ops.toList []) i).testBit j=true->listed.getD j false=true:=JD hE hcl hAn ho hpre
   have hlater:∀k x,i<k->tr[k]?=some x->listed.getD k false=true->CG (AE ws) (Nat.lor x.1 (AE x.2))/\CG rm (AE x.2):=by intro k x hk hx hlk;obtain⟨ok,zh⟩:∃o,g.ops.toList[k]?=some o:=⟨_,AAI No⟩;obtain⟨rmk,wsk⟩:=x;obtain⟨_,_,k3⟩:=IY g.ops.toList 0 [] s tr ht k ok rmk wsk zh hx;simp only[AAY,AA0]at k3;have:=GM _ _ _ _ 0 (k3 hdraw) i rm (AE ws) No;rw[AAY]at this;refine this.resolve_left λhb=>?_;have:=Hi hE (A:=λi=>listed.getD i false=true) hcl hAn k hlk i hb;rw[hnl]at this;cases this
   have hearly:∀k x,k<i->tr[k]?=some x->listed.getD k false=false->CG (AE x.2) (Nat.lor rm (AE ws)):=by
    intro k x hk hx hlk;have:=GM _ _ _ _ 0 t3 k x.1 (AE x.2) No;rw[AAY]at this;rcases this with hb|hb
    ·grind
    ·exact hb.1
   have hag:Nw rm (AK (λj=>decide (j<i)) 0 tr s) (AK (λi=>listed.getD i false) 0 tr s):=by
    have key:∀(b:Nat),rm.testBit b=true->∀k x,tr[k]?=some x->(AE x.2).testBit b=true->listed.getD (0+k) false=decide (0+k<i):=by
     intro b hb k x hx hw;rw[AAY];rcases Nat.lt_trichotomy k i with hk|hk|hk
     ·cases hl:listed.getD k false with
      |true=>simp[hk]
      |false=>
       have:=hearly k x hk hx hl b hw;rw[AJ,hb]at this;simp at this
     ·grind
     ·cases hl:listed.getD k false with
      |false=>simp;omega
      |true=>
       have:=(hlater k x hk hx hl).2 b hb;grind
    exact⟨λt hb=>Gi tr 0 s s rfl rfl λk x hx hw=>key _ hb k x hx hw,λt _ hb=>Gh tr 0 s s rfl rfl λk x hx hw=>key _ hb k x hx hw,λt hb=>Gf tr 0 s s rfl rfl λk x hx hw=>key _ hb k x hx hw⟩
   have hfoot:=NT (cx:=cx) (v:=g.v0+i) (ops:=g.ops) (o:=o) (s:=AK (λj=>decide (j<i)) 0 tr s) (s':=AK (λi=>listed.getD i false) 0 tr s) No
   have hdoes:LR cx g (E3 g.ops.toList []) i o (AK (λi=>listed.getD i false) 0 tr s) ws:=by
    rcases t2 with⟨g1,g2,g3⟩|⟨g1,g2⟩
    ·exact .inl ⟨Hw hfoot.2 g1,No,g3⟩
    ·exact .inr ⟨Hw hfoot.2 g1,g2⟩
   have hnv:Ad (AK (λi=>listed.getD i false) 0 tr s) (g.v0+i):=hv.H9 (by
    rintro (hh|⟨j,hj,e⟩)
    all_goals grind) J
   have hset:∀k,(listed.setIfInBounds i true).getD k false=(if i=k then true else listed.getD k false):=by
    intro k;simp only[AAi,AAw];by_cases hk:i=k
    ·grind
    ·simp[hk]
   have hmore:AK (λk=>(listed.setIfInBounds i true).getD k false) 0 tr s=(AK (λi=>listed.getD i false) 0 tr s).app ws:=by refine Ge tr 0 s htr No No (λk hk=>by grind) λk x hk hx hl=>?_;rw[AAY]at hl;intro b hb;have:=(hlater k x hk hx hl).1 b hb;rw[AJ,AAj]at this;exact this.2
   refine K8 hc zQ yu hnv (λd zl=>by rw[<-yu.DM,(Hb _ tr 0 s).1];exact hd o (AAN hol) d zl) hdoes (λa' W' hdef hrep'=>?_) ho;refine ih (listed.setIfInBounds i true) a' W' (by simp[hs]) ?_ (hdef.trans hdf) No ?_ ?_
   ·have hi':i<listed.toList.length:=ADg
    have hfalse:listed.toList[i]=false:=by
     have hl:i<listed.size:=J
     rw[AAi,AAh hl,AA8]at hnl;simpa using hnl
    grind
   ·rw[hmore];refine(hv.mono ?_).app (λw hw n hn=>?_)
    ·rintro n (hn|⟨j,hj,e⟩)
     ·exact .inl hn
     ·exact .inr ⟨j,by show(listed.setIfInBounds i true).getD j false=true;rw[hset];grind,e⟩
    ·rcases Ir hdoes (A:=λj=>listed.getD j false=true) E5 w hw n hn with hn|⟨j,hj,e⟩
     ·exact .inl hn
     ·refine .inr ⟨j,?_,e⟩;show(listed.setIfInBounds i true).getD j false=true;rw[hset];grind
   ·intro k o' hk ho' e he hb;rw[hset]at hk ⊢;split
    ·rfl
    ·by_cases hki:i=k
     all_goals grind
end
end Go.Ev
namespace Go.Ev
def Hl(cx:Cx)(a:LA):Prop:=match a with
 | .ref c=>cx.lock c.r=false
 | .EI c _ _=>cx.lock c.r=false
 | .Bm c=>cx.lock c.r=false
 | .ptr r _ _=>cx.FI r=false
 | .JR _ c=>cx.lock c.r=false
 | .EM _ ps _=>∃p∈ps,cx.FI p.1=false
 |_=>False
def FM(cx:Cx)(a a':LA):Prop:=a'=a\/(a'=.bad/\Hl cx a)
inductive C5(cx:Cx):AV->AV->Prop
 |same (v):C5 cx v v
 |v (g as as') (h:as'.length=as.length) (hl:∀(j:Nat)(a:LA),as[j]?=some a->∃a',as'[j]?=some a'/\FM cx a a'):C5 cx (.v g as) (.v g as')
 |Dr (vs):C5 cx (.Dr vs) (one .bad)
 |bx (as):C5 cx (.bx as) (one .bad)
theorem FM.trans{cx:Cx}{a b c:LA}(h1:FM cx a b)(h2:FM cx b c):FM cx a c:=by
 rcases h1 with rfl|⟨rfl,hd⟩
 ·exact h2
 ·rcases h2 with rfl|⟨rfl,_⟩<;>exact .inr ⟨rfl,hd⟩
theorem C5.trans{cx:Cx}{a b c:AV}(h1:C5 cx a b)(h2:C5 cx b c):C5 cx a c:=by
 cases h1 with
 |same=>exact h2
 |v g as as' h hl=>
  cases h2 with
  |same=>exact .v g as as' h hl
  |v _ _ as2 h' hl'=>
   refine .v g as as2 (h'.trans h) λj a hj=>?_;obtain⟨a',h3,h4⟩:=hl j a hj;obtain⟨a2,h5,h6⟩:=hl' j a' h3;exact⟨a2,h5,h4.trans h6⟩
 |Dr vs=>
  cases h2 with
  |same=>exact .Dr vs
  |v _ _ as2 h' hl'=>
   obtain⟨a2,h5,h6⟩:=hl' 0 .bad rfl
   have:as2=[.bad]:=by
    match as2,h' with
    | [x],_=>
     simp at h5;subst h5;rcases h6 with rfl|⟨rfl,_⟩<;>rfl
   subst this;exact .Dr vs
 |bx as=>
  cases h2 with
  |same=>exact .bx as
  |v _ _ as2 h' hl'=>
   obtain⟨a2,h5,h6⟩:=hl' 0 .bad rfl
   have:as2=[.bad]:=by
    match as2,h' with
    | [x],_=>
     simp at h5;subst h5;rcases h6 with rfl|⟨rfl,_⟩<;>rfl
   subst this;exact .bx as
structure Aq(cx:Cx)(s s':St):Prop where
 AO:∀t,cx.FI t=true->C5 cx (s.slot t) (s'.slot t)
 roots:∀r,cx.lock r=true->s'.root r=s.root r
 box:∀r,cx.FI r=true->(s'.root r).box=(s.root r).box/\(s'.root r).AA=(s.root r).AA/\(s'.root r).ls.length=(s.root r).ls.length
 l1:s'.sl.length=s.sl.length
 l2:s'.ro.length=s.ro.length
 Bp:s.Bp<=s'.Bp
theorem Aq.refl(cx:Cx)(s:St):Aq cx s s:=⟨λt _=>.same _,λ_ _=>rfl,λ_ _=>⟨rfl,rfl,rfl⟩,rfl,rfl,AAc _⟩
theorem Aq.trans{cx:Cx}{s s1 s2:St}(h1:Aq cx s s1)(h2:Aq cx s1 s2):Aq cx s s2 where
 AO t ht:=(h1.AO t ht).trans (h2.AO t ht)
 roots r hr:=(h2.roots r hr).trans (h1.roots r hr)
 box r hr:=let ⟨a,b,c⟩:=h1.box r hr;let ⟨a',b',c'⟩:=h2.box r hr;⟨a'.trans a,b'.trans b,c'.trans c⟩
 l1:=h2.l1.trans h1.l1
 l2:=h2.l2.trans h1.l2
 Bp:=AAv h1.Bp h2.Bp
def Bf(s:St):Prop:=∀r,∀a∈(s.root r).ls,a.Ce=true
structure Inv(N:Nat)(s:St):Prop where
 AG:BS s (· < s.Bp)
 two:2<=s.Bp
 len:s.sl.length=N
 Bs:s.ro.length=N
 Lx:Bf s
theorem Km{cx:Cx}{s:St}{dst:Option Nat}{w:Wr}(hd:∀d,dst=some d->cx.FI d=false)(hw:w.ok cx dst=true):Aq cx s (s.AF w) where
 AO t ht:=by
  cases w with
  |slot u a=>
   rw[BO,AAQ]
   ·exact .same _
   ·rintro ⟨rfl,_⟩
    simp only[Wr.ok]at hw;cases hq:dst with
    |none=>rw[hq]at hw;cases hw
    |some d=>
     rw[hq]at hw;have:u=d:=by simpa using hw
     subst this;rw[hd u hq]at ht;cases ht
  |root r x=>exact .same _
  |leaf r j a=>exact .same _
  |half r j v=>exact .same _
 roots r hr:=by
  cases w with
  |slot u a=>rfl
  |root q x=>
   simp only[Wr.ok,AAJ,AAU]at hw;rw[As,AAQ]
   rintro ⟨rfl,_⟩
   rw[hr]at hw;exact absurd hw.1.1 OF
  |leaf q j a=>
   simp only[Wr.ok,AAJ,AAU]at hw;have zD:q≠r:=λe=>by subst e;rw[hr]at hw;exact absurd hw.1 OF
   refine Bd ?_;simp only[Wr.mask,AJ,IJ,E5,AAj,AAl];omega
  |half q j v=>
   simp only[Wr.ok,AAU]at hw;have zD:q≠r:=λe=>by subst e;rw[hr]at hw;cases hw
   refine Bd ?_;simp only[Wr.mask,E5,AAl];omega
 box r hr:=by
  cases w with
  |slot u a=>exact⟨rfl,rfl,rfl⟩
  |root q x=>
   simp only[Wr.ok,AAJ]at hw;rw[As,AAQ]
   ·exact⟨rfl,rfl,rfl⟩
   ·rintro ⟨rfl,_⟩
    cases hq:dst with
    |none=>rw[hq]at hw;exact absurd hw.2 OF
    |some d=>
     rw[hq]at hw;have:q=d:=by simpa using hw.2
     subst this;rw[hd q hq]at hr;cases hr
  |leaf q j a=>exact(BY s q j a).box r
  |half q j v=>exact(BY s q j _).box r
 l1:=(B4 s w).1
 l2:=(B4 s w).2
 Bp:=by cases w<;>exact AAc _
theorem I2{cx:Cx}{dst:Option Nat}(hd:∀d,dst=some d->cx.FI d=false):∀ {ws:List Wr} {s:St},(∀w∈ws,w.ok cx dst=true)->Aq cx s (s.app ws)
 | [],s,h=>Aq.refl cx s
 |w::ws,s,h=>(Km hd (h w OF)).trans (I2 (ws:=ws) (s:=s.AF w) hd λx hx=>h x (AAM _ hx))
theorem Mx{cx:Cx}{s:St}{dst:Option Nat}{w:Wr}(h:Bf s)(hw:w.ok cx dst=true):Bf (s.AF w):=by
 intro r a ha;cases w with
 |slot u b=>exact h r a ha
 |root q x=>
  simp only[Wr.ok,AAJ]at hw;rw[As]at ha;split at ha
  ·exact AAW.1 hw.1.2 a ha
  ·exact h r a ha
 |leaf q j b=>
  simp only[Wr.ok,AAJ]at hw;have zX:(s.AF (.leaf q j b)).root r=if q=r/\q<s.ro.length then { s.root q with ls:=Ca (s.root q).ls j b }else s.root r:=Aw _ _ _ _ _
  rw[zX]at ha;split at ha
  ·have ha:a∈Ca (s.root q).ls j b:=ha;rw[Bj]at ha;rcases AA9 ha with ha|ha
   ·exact h q a ha
   ·rw[ha];exact hw.2
  ·exact h r a ha
 |half q j v=>
  have zX:(s.AF (.half q j v)).root r=if q=r/\q<s.ro.length then { s.root q with ls:=Ca (s.root q).ls j ((s.leaf q j).Ci v) }else s.root r:=Aw _ _ _ _ _
  rw[zX]at ha;split at ha
  ·have ha:a∈Ca (s.root q).ls j ((s.leaf q j).Ci v):=ha;by_cases hj:j<(s.root q).ls.length
   ·rw[Bj]at ha;rcases AA9 ha with ha|ha
    ·exact h q a ha
    ·have hb:(s.leaf q j).Ce=true:=h q _ (HJ hj);rw[ha];cases hl:s.leaf q j with
     |arr AA gen t e xs d=>cases d<;>rfl
     |_=>rw[hl]at hb;exact hb
   ·rw[Bj,List.set_eq_of_length_le J]at ha;exact h q a ha
  ·exact h r a ha
theorem LH{cx:Cx}{dst:Option Nat}:∀ {ws:List Wr} {s:St},Bf s->(∀w∈ws,w.ok cx dst=true)->Bf (s.app ws)
 | [],s,h,hw=>h
 |w::ws,s,h,hw=>LH (ws:=ws) (s:=s.AF w) (Mx h (hw w OF)) λx hx=>hw x (AAM _ hx)
theorem NR{cx:Cx}{g:Rg}{bs:Is}{i:Nat}{o:Oper}{s:St}{ws:List Wr}(h:LR cx g bs i o s ws):∀w∈ws,w.ok cx o.dst=true:=by
 intro w hw;rcases h with⟨_,_,h⟩|⟨_,rfl⟩
 ·have:=AAW.1 h w hw;rw[AAJ]at this;exact this.1
 ·cases hd:o.dst with
  |none=>rw[hd]at hw;cases hw
  |some d=>
   rw[hd]at hw;have:w=.slot d (one .undef):=by simpa[Cw]using hw
   subst this;simp[Wr.ok]
theorem Gq{cx:Cx}{g:Rg}{bs:Is}:∀(r:List Oper)(i:Nat) (lg:List (Nat×Nat)) (s:St) (tr:List (Nat×List Wr)),Trace cx g bs i r lg s tr->(∀o∈r,∀d,o.dst=some d->cx.FI d=false)->Bf s->
  Aq cx s (AK (λ_=>true) i tr s)/\Bf (AK (λ_=>true) i tr s)
 | [],i,lg,s,[],ht,hd,hr=>⟨Aq.refl cx s,hr⟩
 | [],i,lg,s,_::_,ht,hd,hr=>ht.elim
 |_::_,i,lg,s,[],ht,hd,hr=>ht.elim
 |o::r,i,lg,s,(rm,ws)::tr,ht,hd,hr=>by obtain⟨_,_,hdoes,ht⟩:=ht;have zh:=NR hdoes;obtain⟨h1,h2⟩:=Gq r (i+1) _ (s.app ws) tr ht (λo ho=>hd o (AAM _ ho)) (LH hr zh);exact⟨(I2 (hd o OF) zh).trans h1,h2⟩
end Go.Ev
namespace Go.Ev
section
variable {E:Cy}{s:St}{W:Wd}{tm:Array Value}{β:Type}{t:β}
theorem ON{a:AV}{v:Value}(h:BW s W a v):AQ s W a.one? v:=by
 cases a with
 |Dr vs=>trivial
 |bx as=>trivial
 |v g as=>
  cases g with
  |true=>trivial
  |false=>cases as with
   |nil=>trivial
   |cons b bs=>cases bs with
    |nil=>exact h
    |cons=>trivial
theorem Gm(h:AU E s tm W){r j AA gen:Nat}{t0:TypeId}{e:Ls}{xs:List e.D}(hl:s.leaf r j=.arr AA gen t0 e xs 0):W.om (.lf r j)=[]:=by obtain⟨u,_,hr⟩:=(h.roots r).row hl;exact AD.zero hr
theorem KX(h:AU E s tm W){l:L}{la:LA}{v:Value}(hv:AQ s W la v)(hs:s.still l la=true){k:l.D->Step β}(hl:(s.Au l la k).leads t):∃x,(k x).leads t/\l.rd 0 W.w W.fz v x []:=by
 cases l with
 |int kk=>obtain⟨x,hl,hr⟩:=Bk h hv hl;exact⟨x,hl,(L.AZ _ rfl hr).1⟩
 |bool=>obtain⟨x,hl,hr⟩:=Bk h hv hl;exact⟨x,hl,(L.AZ _ rfl hr).1⟩
 |str=>obtain⟨x,hl,hr⟩:=Bk h hv hl;exact⟨x,hl,(L.AZ _ rfl hr).1⟩
 |sl t0 e=>
  unfold St.Au at hl;cases la with
  |sc m x=>
   simp only at hl;split at hl
   ·rename_i y hy;obtain⟨q1,q2⟩:=L.AH hy;subst q1;have q2:x=y:=q2;subst q2;exact⟨x,hl,hv⟩
   ·exact hl.elim
  |DN=>exact⟨_,hl,by rw[show v=.slice none 0 0 from hv];exact Bz⟩
  |ref c=>
   simp only[St.still]at hs;split at hs
   ·rename_i AA gen t1 e1 xs hq;obtain⟨t',e',ys,d',o',hl,hr,ho⟩:=DR h hv hl;split at hl
    ·rename_i y hy;obtain⟨q1,q2⟩:=L.AH hy;cases q1;have q2:ys=y:=q2;subst q2;exact⟨ys,hl,hr.freeze λb hb=>hb.elim id λhb=>by have:=ho b hb;rw[Gm h hq]at this;cases this⟩
    ·exact hl.elim
   ·cases hs
  |EI c lo hi=>
   simp only[St.still]at hs;split at hs
   ·rename_i AA gen t1 e1 xs hq;obtain⟨t',e',ys,d',o',hl,hr,ho⟩:=EZ h hv hl;split at hl
    ·rename_i y hy;obtain⟨q1,q2⟩:=L.AH hy;cases q1;have q2:sub ys lo hi=y:=q2;subst q2;exact⟨_,hl,hr.freeze λb hb=>hb.elim id λhb=>by have:=ho b hb;rw[Gm h hq]at this;cases this⟩
    ·exact hl.elim
   ·cases hs
  |_=>exact hl.elim
def Told(s:St)(W:Wd)(tm:Array Value)(fz:Nat->Prop)(p:VP)(vs:List Lv):Prop:=match p with
 | .slot t l=>t<s.sl.length/\∃x,vs=[⟨l,x⟩]/\l.rd 0 W.w W.fz (tm.getD t Go.undef) x []
 | .own t ty e d k=>t<s.sl.length/\∃xs:List e.D,vs=[⟨.sl ty e,xs⟩]/\(s.root t).box=false/\W.cv t 0=some (tm.getD t Go.undef)/\AD e d W.w W.fz (tm.getD t Go.undef) xs (W.om (.lf t 0))/\(k=true->∃gen t' e' zm d',s.leaf t 0=.arr 1 gen t' e' zm d')
 | .box r ls=>(s.root r).box=true/\ls.length=(s.root r).ls.length/\vs.length=(ls.filterMap id).length/\∀(v j:Nat)(y:Value),W.cv r j=some y->match nth .bad (AP v ls vs) j with
  | .arr AA gen t e xs d=>(AA=v\/AA=1/\∃gen' t' e' zm d',s.leaf r j=.arr 1 gen' t' e' zm d')/\gen=v/\AD e d W.w W.fz y xs (W.om (.lf r j))
  | .sc l x=>l.rd 0 W.w fz y x []
  | .bad=>True
  |_=>False
theorem IE(h:AU E s tm W){fz:Nat->Prop}(r:Nat)(hfz:∀b,W.fz b->fz b):∀(ls:List (Option (L×Nat))) (as:List LA) (j:Nat) {k:List Lv->Step β},(∀i b,as[i]?=some b->s.leaf r (j+i)=b)->(∀a∈as,a.Ce=true)->
  (∀(i:Nat)(l:L),ls[i]?=some (some (l,0))->∀b∈W.om (.lf r (j+i)),fz b)->(Dy s ls as k).leads t->
  ∃vs,(k vs).leads t/\ls.length=as.length/\vs.length=(ls.filterMap id).length/\∀(v i:Nat)(y:Value),W.cv r (j+i)=some y->match nth .bad (AP v ls vs) i with
   | .arr AA gen t e xs d=>(AA=v\/AA=1/\∃gen' t' e' zm d',s.leaf r (j+i)=.arr 1 gen' t' e' zm d')/\gen=v/\AD e d W.w W.fz y xs (W.om (.lf r (j+i)))
   | .sc l x=>l.rd 0 W.w fz y x []
   | .bad=>True
   |_=>False
 | [],[],j,k,hg,yt,hz,hl=>⟨[],hl,rfl,rfl,λv i y hy=>by simp[AP,nth]⟩
 | [],_::_,j,k,hg,yt,hz,hl=>hl.elim
 |none::ls,[],j,k,hg,yt,hz,hl=>hl.elim
 |some _::ls,[],j,k,hg,yt,hz,hl=>hl.elim
 |none::ls,a::as,j,k,hg,yt,hz,hl=>by
  simp only[Dy]at hl
  obtain⟨vs,hl,h1,h2,h3⟩:=IE h r hfz ls as (j+1) (λi b hi=>by have:=hg (i+1) b ADm;grind) (λa ha=>yt a (AAM _ ha))
   (λi l hi b hb=>hz (i+1) l No b No) hl
  refine⟨vs,hl,by simp[h1],No,λv i y hy=>?_⟩;cases i with
  |zero=>simp[AP,nth]
  |succ i=>
   have:=h3 v i y No;rw[show j+1+i=j+(i+1) by omega]at this;exact this
 |some (l,d)::ls,a::as,j,k,hg,yt,hz,hl=>by
  have yr:s.leaf r j=a:=hg 0 a rfl;obtain⟨hlo,_⟩:=h.roots r;have hlo:Aa s W (s.leaf r j) (W.cv r j) (W.om (.lf r j)):=hlo j;rw[yr]at hlo
  have fin:∀(x:l.D),(Dy s ls as λvs=>k (⟨l,x⟩::vs)).leads t->(∀(v:Nat)(y:Value),W.cv r j=some y->match CC v d (d==3) ⟨l,x⟩with
     | .arr AA gen t e xs d=>(AA=v\/AA=1/\∃gen' t' e' zm d',s.leaf r j=.arr 1 gen' t' e' zm d')/\gen=v/\AD e d W.w W.fz y xs (W.om (.lf r j))
     | .sc l x=>l.rd 0 W.w fz y x []
     | .bad=>True
     |_=>False)->
    ∃vs,(k vs).leads t/\(some (l,d)::ls).length=(a::as).length/\vs.length=((some (l,d)::ls).filterMap id).length/\∀(v i:Nat)(y:Value),W.cv r (j+i)=some y->match nth .bad (AP v (some (l,d)::ls) vs) i with
     | .arr AA gen t e xs d=>(AA=v\/AA=1/\∃gen' t' e' zm d',s.leaf r (j+i)=.arr 1 gen' t' e' zm d')/\gen=v/\AD e d W.w W.fz y xs (W.om (.lf r (j+i)))
     | .sc l x=>l.rd 0 W.w fz y x []
     | .bad=>True
     |_=>False:=by
   intro x hl hx
   obtain⟨vs,hl,h1,h2,h3⟩:=IE h r hfz ls as (j+1) (λi b hi=>by have:=hg (i+1) b ADm;grind) (λa ha=>yt a (AAM _ ha))
    (λi l hi b hb=>hz (i+1) l No b No) hl
   refine⟨⟨l,x⟩::vs,hl,by simp[h1],by simp[h2],λv i y hy=>?_⟩;cases i with
   |zero=>exact hx v y J
   |succ i=>
    have:=h3 v i y No;rw[show j+1+i=j+(i+1) by omega]at this;exact this
  have hflat:∀(x:l.D),Bx l=false->(∀y,W.cv r j=some y->l.rd 0 W.w W.fz y x [])->∀(v:Nat)(y:Value),W.cv r j=some y->match CC v d (d==3) ⟨l,x⟩with
     | .arr AA gen t e xs d=>(AA=v\/AA=1/\∃gen' t' e' zm d',s.leaf r j=.arr 1 gen' t' e' zm d')/\gen=v/\AD e d W.w W.fz y xs (W.om (.lf r j))
     | .sc l x=>l.rd 0 W.w fz y x []
     | .bad=>True
     |_=>False:=by
   intro x hns hx v y hy;have:=(L.AZ l hns (hx y hy) (d':=0) (w':=W.w) (yw:=fz)).1;cases l with
   |sl t e=>simp[Bx]at hns
   |_=>exact this
  cases a with
  |arr AA gen t0 e0 xs d0=>
   simp only[Dy]at hl;split at hl
   ·rename_i hd;simp only[AAJ,AAe,AAT,AAU,beq_eq_false_iff_ne]at hd;obtain⟨hd,h3⟩:=hd;split at hl
    ·rename_i y hy;obtain⟨q1,q2⟩:=L.AH hy;subst q1;have q2:xs=y:=q2;subst q2;refine fin xs hl λv y hy=>?_;obtain⟨u,hu,hr⟩:=hlo;rw[hy]at hu;injection hu with hu;subst hu
     cases d with
     |zero=>
      show(L.sl t0 e0).rd 0 W.w fz y xs [];exact hr.freeze λb hb=>hb.elim (hfz b) λhb=>hz 0 (.sl t0 e0) rfl b J
     |succ d=>
      have:d0=d+1:=J
      subst this;by_cases h2:d=2
      ·subst h2;have hv1:AA=1:=h3.resolve_left λq=>q rfl;subst hv1;exact⟨.inr ⟨rfl,gen,t0,e0,xs,3,yr⟩,rfl,hr⟩
      ·have h4:(d+1==3)=false:=ADg
       rw[h4];exact⟨.inl rfl,rfl,hr⟩
    ·exact hl.elim
   ·exact hl.elim
  |sc m x=>
   have zE:∀y,W.cv r j=some y->m.rd 0 W.w W.fz y x []:=hlo.2;cases d with
   |zero=>
    have hl:(s.Au l (.sc m x) λy=>Dy s ls as λvs=>k (⟨l,y⟩::vs)).leads t:=hl;simp only[St.Au]at hl;split at hl
    ·rename_i y hy;obtain⟨q1,q2⟩:=L.AH hy;subst q1;have q2:x=y:=q2;subst q2;refine fin x hl λv y hy=>?_;have hr:=L.AI m (zE y hy) (λ_ _=>rfl) hfz;cases m<;>exact hr
    ·exact hl.elim
   |succ d=>
    cases hl0:l with
    |sl t1 e1=>subst hl0;exact hl.elim
    |int kk=>
     subst hl0;have hl:(s.Au (.int kk) (.sc m x) λy=>Dy s ls as λvs=>k (⟨.int kk,y⟩::vs)).leads t:=hl;simp only[St.Au]at hl;split at hl
     ·rename_i y hy;obtain⟨q1,q2⟩:=L.AH hy;subst q1;have q2:x=y:=q2;subst q2;exact fin x hl (hflat x rfl zE)
     ·exact hl.elim
    |bool=>
     subst hl0;have hl:(s.Au .bool (.sc m x) λy=>Dy s ls as λvs=>k (⟨.bool,y⟩::vs)).leads t:=hl;simp only[St.Au]at hl;split at hl
     ·rename_i y hy;obtain⟨q1,q2⟩:=L.AH hy;subst q1;have q2:x=y:=q2;subst q2;exact fin x hl (hflat x rfl zE)
     ·exact hl.elim
    |str=>
     subst hl0;have hl:(s.Au .str (.sc m x) λy=>Dy s ls as λvs=>k (⟨.str,y⟩::vs)).leads t:=hl;simp only[St.Au]at hl;split at hl
     ·rename_i y hy;obtain⟨q1,q2⟩:=L.AH hy;subst q1;have q2:x=y:=q2;subst q2;exact fin x hl (hflat x rfl zE)
     ·exact hl.elim
  |DN=>
   cases d with
   |zero=>
    cases l with
    |sl t1 e1=>
     refine fin ([]:List e1.D) hl λv y hy=>?_;show(L.sl t1 e1).rd 0 W.w fz y ([]:List e1.D) [];rw[show y=.slice none 0 0 from hlo.2 y hy];exact Bz
    |_=>exact hl.elim
   |succ d=>cases l<;>exact hl.elim
  |ref c=>have:=yt (.ref c) OF;cases this
  |EI c lo hi=>have:=yt (.EI c lo hi) OF;cases this
  |_=>cases d with
   |zero=>exact hl.elim
   |succ d=>cases l<;>exact hl.elim
def O0(ps:List VP)(r j:Nat):Prop:=∃ls l,VP.box r ls∈ps/\ls[j]?=some (some (l,0))
theorem Mu(h:AU E s tm W)(yt:Bf s){fz:Nat->Prop}(hfz:∀b,W.fz b->fz b){p:VP}(hz:∀r j,O0 [p] r j->∀b∈W.om (.lf r j),fz b){k:List Lv->Step β}(hl:(KO s p k).leads t):
  ∃vs,(k vs).leads t/\Told s W tm fz p vs:=by
 cases p with
 |slot u l=>
  simp only[KO]at hl;split at hl
  ·rename_i hs
   have zA:u<s.sl.length:=by
    rcases AAr u s.sl.length with zA|zu
    ·exact zA
    ·have:s.slot u=.v false [.bad]:=Ay _ zu;rw[this]at hl;exact hl.elim
   obtain⟨x,hl,hr⟩:=KX h (ON (h.AO u)) hs hl;exact⟨_,hl,zA,x,rfl,hr⟩
  ·exact hl.elim
 |own u ty e d k0=>
  simp only[KO]at hl;split at hl
  ·rename_i c vv AA gen t' e' xs d' hsl hro;split at hl
   ·rename_i hc;simp only[AAJ,AAT]at hc;obtain⟨⟨⟨⟨⟨hcr,hcj⟩,hp⟩,zC⟩,hd⟩,hk0⟩:=hc;have hp:c.p=[]:=by cases hq:c.p<;>simp_all[isNil]
    subst hd;split at hl
    ·rename_i y hy;obtain⟨q1,q2⟩:=L.AH hy;cases q1;have q2:xs=y:=q2;subst q2
     have yr:s.leaf c.r c.j=.arr c.AA gen ty e xs d:=by unfold St.leaf;rw[hcr,hcj,hro,zC];rfl
     have hval:AQ s W (.ref c) (tm.getD u Go.undef):=by have:=h.AO u;rw[hsl]at this;exact this
     obtain⟨h',e2,zW,hn⟩:=hval gen _ _ _ _ yr (.inl hp);rw[hp]at hn;obtain⟨rfl,rfl⟩:=hn;obtain⟨u',zG,zE⟩:=(h.roots c.r).row yr;rw[zW]at zG;injection zG with zG;rw[<-zG]at zE
     rw[hcr,hcj]at zE zW
     have zA:u<s.sl.length:=by
      rcases AAr u s.sl.length with zA|zu
      ·exact zA
      ·have:s.slot u=.v false [.bad]:=Ay _ zu;rw[this]at hsl;cases hsl
     refine⟨_,hl,zA,xs,rfl,by rw[hro],zW,zE,λhk=>?_⟩;grind
    ·exact hl.elim
   ·exact hl.elim
  ·exact hl.elim
 |box r ls=>
  simp only[KO]at hl;split at hl
  ·rename_i hb
   obtain⟨vs,hl,h1,h2,h3⟩:=IE h (fz:=fz) r hfz ls (s.root r).ls 0 (λi b hi=>by unfold St.leaf;rw[AAY,Ae,hi];rfl) (yt r)
    (λi l hi b hb=>hz r i ⟨ls,l,OF,hi⟩ b No) hl
   exact⟨vs,hl,hb,h1,h2,λv j y hy=>No⟩
  ·exact hl.elim
theorem KP(h:AU E s tm W)(yt:Bf s){fz:Nat->Prop}(hfz:∀b,W.fz b->fz b):∀ {ps:List VP} {k:List Lv->Step β},(∀r j,O0 ps r j->∀b∈W.om (.lf r j),fz b)->(LD s ps k).leads t->
  ∃yv:List (List Lv),(k yv.flatten).leads t/\yv.length=ps.length/\∀(i:Nat)(p:VP)(vs:List Lv),ps[i]?=some p->yv[i]?=some vs->Told s W tm fz p vs
 | [],k,hz,hl=>⟨[],hl,rfl,λi p vs hp=>ADy⟩
 |p::ps,k,hz,hl=>by simp only[LD]at hl;obtain⟨vs,hl,hv⟩:=Mu h yt hfz (λr j ⟨ls,l,hm,hj⟩=>hz r j ⟨ls,l,by simp at hm;simp[hm],hj⟩) hl;obtain⟨yv,hl,h1,h2⟩:=KP h yt hfz (λr j ⟨ls,l,hm,hj⟩=>hz r j ⟨ls,l,AAM _ hm,hj⟩) hl;refine⟨vs::yv,AD8,by simp[h1],λi q us hq hu=>?_⟩;grind
end
end Go.Ev
namespace Go.Ev
def VP.Pa:VP->Nat
 | .slot _ _=>1
 | .own _ _ _ _ _=>1
 | .box _ ls=>(ls.filterMap id).length
theorem C9(v:Nat):∀(ls:List (Option (L×Nat))) (vs ws:List Lv),vs.length=(ls.filterMap id).length->AP v ls (vs++ws)=AP v ls vs
 | [],vs,ws,h=>by simp[AP]
 |none::ls,vs,ws,h=>by simp only[AP];rw[C9 v ls vs ws ADn]
 |some (l,d)::ls,[],ws,h=>ADl
 |some (l,d)::ls,x::vs,ws,h=>by simp only[AP,ABH];rw[C9 v ls vs ws ADn]
theorem BF(v:Nat):∀(ls:List (Option (L×Nat))) (vs:List Lv),(AP v ls vs).length=ls.length
 | [],vs=>rfl
 |none::ls,vs=>by simp[AP,BF v ls vs]
 |some (l,d)::ls,[]=>by simp[AP,BF v ls []]
 |some (l,d)::ls,x::vs=>by simp[AP,BF v ls vs]
def At(v:Nat)(s0 σ:St)(p:VP)(vs:List Lv):Prop:=match p with
 | .slot t _=>∀x,vs=[x]->σ.slot t=one (.sc x.l x.x)
 | .own t _ _ d k=>∀x,vs=[x]->σ.slot t=one (.ref ⟨t,0,Fc v k,v,[]⟩)/\σ.root t=⟨false,v,[CC v d k x]⟩
 | .box r ls=>σ.root r=⟨true,(s0.root r).AA,AP v ls vs⟩
theorem Ij{x:Nat}{xs:Is}(h:distinct (x::xs)=true):x∉xs/\distinct xs=true:=by simp only[distinct,AAJ,AAU]at h;refine⟨λhm=>?_,h.2⟩;have:=(Az xs x).2 hm;rw[h.1]at this;cases this
theorem Cs:∀ {xs ys:Is},distinct (xs++ys)=true->(∀x∈xs,x∉ys)/\distinct ys=true
 | [],ys,h=>⟨(λx hx=>by cases hx),h⟩
 |x::xs,ys,h=>by
  obtain⟨h1,h2⟩:=Ij (xs:=xs++ys) h;obtain⟨h3,h4⟩:=Cs h2;refine⟨λy hy=>?_,h4⟩;rcases AAd.1 hy with rfl|hy
  ·exactλhm=>h1 (AAS _ hm)
  ·exact h3 y hy
theorem Gj(v:Nat)(s0:St):∀(ps:List VP) (yv:List (List Lv)) (σ:St),yv.length=ps.length->(∀(i:Nat)(p:VP)(vs:List Lv),ps[i]?=some p->yv[i]?=some vs->vs.length=p.Pa)->
  distinct (ps.flatMap VP.AO)=true->distinct (ps.flatMap VP.roots)=true->(∀t∈ps.flatMap VP.AO,t<σ.sl.length)->(∀r∈ps.flatMap VP.roots,r<σ.ro.length)->
  (∀t,t∉ps.flatMap VP.AO->(σ.app (CQ v s0 ps yv.flatten)).slot t=σ.slot t)/\(∀r,r∉ps.flatMap VP.roots->(σ.app (CQ v s0 ps yv.flatten)).root r=σ.root r)/\
  ∀(i:Nat)(p:VP)(vs:List Lv),ps[i]?=some p->yv[i]?=some vs->At v s0 (σ.app (CQ v s0 ps yv.flatten)) p vs
 | [],[],σ,hl,hc,d1,d2,b1,b2=>⟨λ_ _=>rfl,λ_ _=>rfl,λi p vs hp=>ADy⟩
 | [],_::_,σ,hl,hc,d1,d2,b1,b2=>ADz
 |_::_,[],σ,hl,hc,d1,d2,b1,b2=>ADz
 |p::ps,vs::yv,σ,hl,hc,d1,d2,b1,b2=>by
  rw[AAn]at d1 d2;obtain⟨n1,d1'⟩:=Cs d1;obtain⟨n2,d2'⟩:=Cs d2;have hcnt:=hc 0 p vs rfl rfl;have hb1:∀t∈p.AO,t<σ.sl.length:=λt ht=>b1 t (by rw[AAn];exact AAV _ ht);have hb2:∀t∈p.roots,t<σ.ro.length:=λt ht=>b2 t (by rw[AAn];exact AAV _ ht)
  have main:∀(ws:List Wr),CQ v s0 (p::ps) (vs::yv).flatten=ws++CQ v s0 ps yv.flatten->(∀t,t∉p.AO->(σ.app ws).slot t=σ.slot t)->(∀r,r∉p.roots->(σ.app ws).root r=σ.root r)->At v s0 (σ.app ws) p vs->
    (∀t,t∉(p::ps).flatMap VP.AO->(σ.app (CQ v s0 (p::ps) (vs::yv).flatten)).slot t=σ.slot t)/\(∀r,r∉(p::ps).flatMap VP.roots->(σ.app (CQ v s0 (p::ps) (vs::yv).flatten)).root r=σ.root r)/\
    ∀(i:Nat)(q:VP)(us:List Lv),(p::ps)[i]?=some q->(vs::yv)[i]?=some us->At v s0 (σ.app (CQ v s0 (p::ps) (vs::yv).flatten)) q us:=by
   intro ws he hs hr ha
   obtain⟨i1,i2,i3⟩:=Gj v s0 ps yv (σ.app ws) AD8 (λi q us h1 h2=>hc (i+1) q us AD2 AEA) d1' d2'
    (λt ht=>by rw[(CO ws σ).1];exact b1 t (by rw[AAn];exact AAS _ ht)) (λt ht=>by rw[(CO ws σ).2];exact b2 t (by rw[AAn];exact AAS _ ht))
   rw[he,BA];refine⟨λt ht=>?_,λr zk=>?_,λi q us h1 h2=>?_⟩
   ·rw[AAn]at ht;rw[i1 t (λhm=>ht (AAS _ hm)),hs t (λhm=>ht (AAV _ hm))]
   ·rw[AAn]at zk;rw[i2 r (λhm=>zk (AAS _ hm)),hr r (λhm=>zk (AAV _ hm))]
   ·cases i with
    |zero=>
     simp at h1 h2;subst h1;subst h2;cases p with
     |slot t l=>intro x hx;rw[i1 t (n1 t (by simp[VP.AO]))];exact ha x hx
     |own t ty e d k=>
      intro x hx;rw[i1 t (n1 t (by simp[VP.AO])),i2 t (n2 t (by simp[VP.roots]))];exact ha x hx
     |box r ls=>
      show(_:St).root r=_;rw[i2 r (n2 r (by simp[VP.roots]))];exact ha
    |succ i=>exact i3 i q us AD2 AEA
  cases p with
  |slot t l=>
   obtain⟨x,rfl⟩:∃x,vs=[x]:=by
    match vs,hcnt with
    | [x],_=>exact⟨x,rfl⟩
   refine main [.slot t (one (.sc x.l x.x))] rfl (λu hu=>?_) (λr hr=>rfl) ?_
   ·show(σ.AF _).slot u=_;rw[BO,AAQ (λhh=>hu (by simp[VP.AO,hh.1]))]
   ·intro y hy;simp at hy;subst hy;show(σ.AF _).slot t=_;rw[BO,AAP ⟨rfl,hb1 t (by simp[VP.AO])⟩]
  |own t ty e d k=>
   obtain⟨x,rfl⟩:∃x,vs=[x]:=by
    match vs,hcnt with
    | [x],_=>exact⟨x,rfl⟩
   refine main [.root t ⟨false,v,[CC v d k x]⟩,.slot t (one (.ref ⟨t,0,Fc v k,v,[]⟩))] rfl (λu hu=>?_) (λr hr=>?_) ?_
   ·show((σ.AF _).AF _).slot u=_;rw[BO,AAQ (λhh=>hu (by simp[VP.AO,hh.1]))];rfl
   ·show(σ.AF _).root r=_;rw[As,AAQ (λhh=>hr (by simp[VP.roots,hh.1]))]
   ·intro y hy;simp at hy;subst hy;refine⟨?_,?_⟩
    ·show((σ.AF _).AF _).slot t=_;rw[BO,AAP ⟨rfl,by rw[(B4 _ _).1];exact hb1 t (by simp[VP.AO])⟩]
    ·show(σ.AF _).root t=_;rw[As,AAP ⟨rfl,hb2 t (by simp[VP.roots])⟩]
  |box r ls=>
   refine main [.root r ⟨true,(s0.root r).AA,AP v ls vs⟩] ?_ (λu hu=>rfl) (λq hq=>?_) ?_
   ·have hcnt:vs.length=(ls.filterMap id).length:=hcnt;simp only[CQ,AAk];rw[C9 v ls vs _ hcnt,<-hcnt,AA2];rfl
   ·show(σ.AF _).root q=_;rw[As,AAQ (λhh=>hq (by simp[VP.roots,hh.1]))]
   ·show(σ.AF _).root r=_;rw[As,AAP ⟨rfl,hb2 r (by simp[VP.roots])⟩]
end Go.Ev
namespace Go.Ev
theorem Eg{α γ:Type}(f:Nat->α->γ):∀(n:Nat)(xs:List α),(Kp f n xs).length=xs.length
 |_,[]=>rfl
 |n,x::xs=>by simp[Kp,Eg f (n+1) xs]
theorem H3{α γ:Type}(f:Nat->α->γ)(d:γ)(d0:α):∀(n:Nat)(xs:List α)(i:Nat),i<xs.length->nth d (Kp f n xs) i=f (n+i) (nth d0 xs i)
 |n,[],i,h=>ADl
 |n,x::xs,0,h=>rfl
 |n,x::xs,i+1,h=>by simp only[Kp,nth];rw[H3 f d d0 (n+1) xs i ADn,show n+1+i=n+(i+1) by omega]
theorem GK(ms:Is)(ps:List VP)(s:St)(t:Nat):(base ms ps s).slot t=if has ms t then one .bad else(s.slot t).clean (λr=>has ms r||has (ps.flatMap VP.AO) r) λr=>has ms r||has (ps.flatMap VP.roots) r:=by
 unfold St.slot base;by_cases h:t<s.sl.length
 ·dsimp only;rw[H3 _ _ (.v false [.bad]) 0 s.sl t h,AAY]
 ·dsimp only;rw[Ay _ (by rw[Eg];omega),Ay _ J];split<;>rfl
theorem CH(ms:Is)(ps:List VP)(s:St)(r:Nat):(base ms ps s).root r=if has ms r then dead else s.root r:=by
 unfold St.root base;by_cases h:r<s.ro.length
 ·dsimp only;rw[H3 _ _ dead 0 s.ro r h,AAY]
 ·dsimp only;rw[Ay _ (by rw[Eg];omega),Ay _ J];split<;>rfl
theorem Fo(ms:Is)(ps:List VP)(s:St):(base ms ps s).sl.length=s.sl.length/\(base ms ps s).ro.length=s.ro.length:=⟨Eg _ _ _,Eg _ _ _⟩
theorem Ki(m1 m2:Nat->Bool)(a:AV):∀n∈(a.clean m1 m2).AG,n∈a.AG:=by
 cases a with
 |Dr vs=>intro n hn;simp[AV.clean,one,AV.AG,LA.AG]at hn
 |bx as=>intro n hn;simp[AV.clean,one,AV.AG,LA.AG]at hn
 |v g as=>
  intro n hn;obtain⟨b,hb,hn⟩:=AAL.1 (show n∈(as.map (LA.clean m1 m2)).flatMap LA.AG from hn);obtain⟨c,hc,rfl⟩:=AAt.1 hb;refine AAL.2 ⟨c,hc,?_⟩;cases c with
  |ref c=>simp only[LA.clean]at hn;split at hn;cases hn;exact hn
  |EI c lo hi=>simp only[LA.clean]at hn;split at hn;cases hn;exact hn
  |Bm c=>simp only[LA.clean]at hn;split at hn;cases hn;exact hn
  |ptr r j AA=>simp only[LA.clean]at hn;split at hn;cases hn;exact hn
  |JR t c=>simp only[LA.clean]at hn;split at hn;cases hn;exact hn
  |EM g ps qs=>simp only[LA.clean]at hn;split at hn;cases hn;exact hn
  |_=>exact hn
theorem Lc{cx:Cx}{m1 m2:Nat->Bool}(h1:∀r,m1 r=true->cx.FI r=false)(h2:∀r,m2 r=true->cx.lock r=false)(a:AV):C5 cx a (a.clean m1 m2):=by
 cases a with
 |Dr vs=>exact .Dr vs
 |bx as=>exact .bx as
 |v g as=>
  refine .v g as _ OF λj b hj=>⟨LA.clean m1 m2 b,by rw[AAb,hj];rfl,?_⟩;cases b with
  |ref c=>simp only[LA.clean];split;exact .inr ⟨rfl,h2 _ ADs⟩;exact .inl rfl
  |EI c lo hi=>simp only[LA.clean];split;exact .inr ⟨rfl,h2 _ ADs⟩;exact .inl rfl
  |Bm c=>simp only[LA.clean];split;exact .inr ⟨rfl,h2 _ ADs⟩;exact .inl rfl
  |ptr r j AA=>simp only[LA.clean];split;exact .inr ⟨rfl,h1 _ ADs⟩;exact .inl rfl
  |JR t c=>simp only[LA.clean];split;exact .inr ⟨rfl,h2 _ ADs⟩;exact .inl rfl
  |EM g ps qs=>
   simp only[LA.clean];split
   ·rename_i h;obtain⟨p,hp,hm⟩:=AA3.1 h;exact .inr ⟨rfl,p,hp,h1 _ hm⟩
   ·exact .inl rfl
  |_=>exact .inl rfl
end Go.Ev
namespace Go.Ev
theorem Ck(v:Nat):∀(ls:List (Option (L×Nat))) (vs:List Lv) (j:Nat) (l:L),ls[j]?=some (some (l,0))->(nth .bad (AP v ls vs) j).CJ=false
 | [],vs,j,l,h=>ADl
 |none::ls,vs,0,l,h=>ADl
 |none::ls,vs,j+1,l,h=>Ck v ls vs j l ADn
 |some (l',d)::ls,[],0,l,h=>rfl
 |some (l',d)::ls,[],j+1,l,h=>Ck v ls [] j l ADn
 |some (l',d)::ls,⟨l0,x⟩::vs,0,l,h=>by
  simp at h;obtain⟨_,rfl⟩:=h;cases l0<;>rfl
 |some (l',d)::ls,x::vs,j+1,l,h=>Ck v ls vs j l ADn
theorem JS{cx:Cx}{ms:Is}{ps:List VP}{r:Nat}(h1:r∉ms)(h2:r∉ps.flatMap VP.roots):(cx.in ms ps).lock r=true:=by
 have a:has ms r=false:=by cases h:has ms r;rfl;exact absurd ((Az _ _).1 h) h1
 have b:has (ps.flatMap VP.roots) r=false:=by cases h:has (ps.flatMap VP.roots) r;rfl;exact absurd ((Az _ _).1 h) h2
 simp[Cx.in,a,b]
theorem Hx{cx:Cx}{ms:Is}{ps:List VP}{r:Nat}(h1:r∉ms)(h2:r∉ps.flatMap VP.AO):(cx.in ms ps).FI r=true:=by
 have a:has ms r=false:=by cases h:has ms r;rfl;exact absurd ((Az _ _).1 h) h1
 have b:has (ps.flatMap VP.AO) r=false:=by cases h:has (ps.flatMap VP.AO) r;rfl;exact absurd ((Az _ _).1 h) h2
 simp[Cx.in,a,b]
structure GG(ms:Is)(ps:List VP)(s0 s1 σ:St)(W:Wd)(tm:Array Value)(fz:Nat->Prop)(yv:List (List Lv)):Prop where
 len:yv.length=ps.length
 told:∀(i:Nat)(p:VP)(vs:List Lv),ps[i]?=some p->yv[i]?=some vs->Told s1 W tm fz p vs
 at_:∀(i:Nat)(p:VP)(vs:List Lv),ps[i]?=some p->yv[i]?=some vs->At s0.Bp s0 σ p vs
 slot:∀t,t∉ps.flatMap VP.AO->σ.slot t=(base ms ps s0).slot t
 root:∀r,r∉ps.flatMap VP.roots->σ.root r=(base ms ps s0).root r
 l1:σ.sl.length=s0.sl.length
 l2:σ.ro.length=s0.ro.length
theorem GG.get{ms:Is}{ps:List VP}{s0 s1 σ:St}{W:Wd}{tm:Array Value}{fz:Nat->Prop}{yv:List (List Lv)}(h:GG ms ps s0 s1 σ W tm fz yv){p:VP}(hp:p∈ps):∃vs,Told s1 W tm fz p vs/\At s0.Bp s0 σ p vs:=by obtain⟨i,hi⟩:=AAq hp;obtain⟨vs,hv⟩:=BX h.len (AAK.1 hi).1;exact⟨vs,h.told i p vs hi hv,h.at_ i p vs hi hv⟩
def E4(W:Wd)(ps:List VP)(b:Nat):Prop:=W.fz b\/∃r j,O0 ps r j/\b∈W.om (.lf r j)
theorem NK{E:Cy}{cx:Cx}{N:Nat}{ms:Is}{ps:List VP}{s0 s1:St}{tm:Array Value}{W:Wd}{x:(DJ ps).D}(h1:AU E s1 tm W)(r1:Bf s1)(hk:Aq (cx.in ms ps) s0 s1)(hp:Cq cx ms ps=true)(hx:Ap ps s1=some x):
  ∃yv,GG ms ps s0 s1 (B1 ms ps s0 x) W tm (E4 W ps) yv:=by
 unfold Ap at hx;obtain⟨lvs,hl,hpk⟩:=Step.C3 _ hx;obtain⟨yv,hl,hlen,htold⟩:=KP h1 r1 (fz:=E4 W ps) (λb hb=>.inl hb) (λr j hf b hb=>.inr ⟨r,j,hf,hb⟩) hl;have hl:yv.flatten=lvs:=hl;subst hl;have hup:=Av _ _ _ hpk;simp only[Cq,AAJ]at hp;obtain⟨⟨d1,d2⟩,_⟩:=hp;have hro:s1.ro.length=s1.sl.length:=by rw[h1.DM,h1.Bs]
 have zM:∀p∈ps,∃vs,Told s1 W tm (E4 W ps) p vs:=λp hp=>by obtain⟨i,hi⟩:=AAq hp;obtain⟨vs,hv⟩:=BX hlen (AAK.1 hi).1;exact⟨vs,htold i p vs hi hv⟩
 have hlook:=Gj s0.Bp s0 ps yv (base ms ps s0) hlen (λi p vs hi hv=>by
   have:=htold i p vs hi hv;cases p with
   |slot t l=>obtain⟨_,x,rfl,_⟩:=this;rfl
   |own t ty e d k=>obtain⟨_,x,rfl,_⟩:=this;rfl
   |box r ls=>exact this.2.2.1) d2 d1
  (λt ht=>by
   rw[(Fo ms ps s0).1,<-hk.l1];obtain⟨p,hp,ht⟩:=AAL.1 ht;obtain⟨vs,hv⟩:=zM p hp;cases p with
   |slot u l=>simp[VP.AO]at ht;subst ht;exact hv.1
   |own u ty e d k=>simp[VP.AO]at ht;subst ht;exact hv.1
   |box r ls=>simp[VP.AO]at ht)
  (λt ht=>by
   rw[(Fo ms ps s0).2,<-hk.l2];obtain⟨p,hp,ht⟩:=AAL.1 ht;obtain⟨vs,hv⟩:=zM p hp;cases p with
   |slot u l=>simp[VP.roots]at ht
   |own u ty e d k=>simp[VP.roots]at ht;subst ht;rw[hro];exact hv.1
   |box r ls=>simp[VP.roots]at ht;subst ht;exact Ji hv.1)
 have he:B1 ms ps s0 x=(base ms ps s0).app (CQ s0.Bp s0 ps yv.flatten):=by unfold B1;rw[hup]
 rw[he];obtain⟨a,b,c⟩:=hlook;exact⟨yv,hlen,htold,c,a,b,(CO _ _).1.trans (Fo ms ps s0).1,(CO _ _).2.trans (Fo ms ps s0).2⟩
end Go.Ev
namespace Go.Ev
section
variable {E:Cy}{cx:Cx}{N:Nat}{ms:Is}{ps:List VP}{s0 s1 σ:St}{tm:Array Value}{W:Wd}{yv:List (List Lv)}
noncomputable def C6 (σ:St) (W:Wd) (ps:List VP):Wd where
 w:=W.w
 fz:=E4 W ps
 cv:=W.cv
 bk:=W.bk
 om k:=match k with
  | .lf r j=>bif(σ.leaf r j).CJ then W.om (.lf r j)else []
  | .blk r=>bif(σ.root r).box then W.om (.blk r)else []
  | .fl _=>[]
theorem Er(k:Key):∀b∈(C6 σ W ps).om k,b∈W.om k:=by
 intro b hb;cases k with
 |lf r j=>
  have hb:b∈(bif(σ.leaf r j).CJ then W.om (.lf r j)else []):=hb;cases h:(σ.leaf r j).CJ<;>rw[h]at hb
  ·cases hb
  ·exact hb
 |blk r=>
  have hb:b∈(bif(σ.root r).box then W.om (.blk r)else []):=hb;cases h:(σ.root r).box<;>rw[h]at hb
  ·cases hb
  ·exact hb
 |fl k=>cases hb
theorem MK(ha:GG ms ps s0 s1 σ W tm (E4 W ps) yv){r j:Nat}(hf:O0 ps r j):(σ.leaf r j).CJ=false:=by obtain⟨ls,l,hm,hj⟩:=hf;obtain⟨vs,_,hat⟩:=ha.get hm;have hat:σ.root r=_:=hat;unfold St.leaf;rw[hat];exact Ck _ ls vs j l hj
theorem MN(h:AU E s1 tm W)(ha:GG ms ps s0 s1 σ W tm (E4 W ps) yv):Sep E (C6 σ W ps) where
 nodup k:=by
  cases k with
  |lf r j=>
   show(bif(σ.leaf r j).CJ then W.om (.lf r j)else []).Nodup;cases(σ.leaf r j).CJ
   ·exact AAR
   ·exact h.sep.nodup _
  |blk r=>
   show(bif(σ.root r).box then W.om (.blk r)else []).Nodup;cases(σ.root r).box
   ·exact AAR
   ·exact h.sep.nodup _
  |fl k=>exact AAR
 A4 k k' zD b hb zJ:=h.sep.A4 k k' zD b (Er k b hb) (Er k' b zJ)
 own k b hb:=by
  obtain⟨q1,q2,q3⟩:=h.sep.own k b (Er k b hb);refine⟨?_,q2,q3⟩
  rintro (hz|⟨r,j,hf,hz⟩)
  ·exact q1 hz
  ·have hk:k=.lf r j:=AAp λzD=>h.sep.A4 k _ zD b (Er k b hb) hz;subst hk;have hb:b∈(bif(σ.leaf r j).CJ then W.om (.lf r j)else []):=hb;rw[MK ha hf]at hb;cases hb
 fz b hb:=by
  rcases hb with hz|⟨r,j,_,hz⟩
  ·exact h.sep.fz b hz
  ·obtain⟨_,q2,q3⟩:=h.sep.own _ b hz;exact⟨q2,.inr q3⟩
 frame:=h.sep.frame
 size:=h.sep.size
 rest:=h.sep.rest
theorem HU(hk:Aq (cx.in ms ps) s0 s1)(hp:Cq cx ms ps=true)(ha:GG ms ps s0 s1 σ W tm (E4 W ps) yv){r:Nat}(hb:(σ.root r).box=true):(s1.root r).box=true/\(s1.root r).AA=(σ.root r).AA/\(s1.root r).ls.length=(σ.root r).ls.length:=by
 simp only[Cq,AAJ]at hp;obtain⟨_,zq⟩:=hp;by_cases hr:r∈ps.flatMap VP.roots
 ·obtain⟨p,hm,hr⟩:=AAL.1 hr;obtain⟨vs,ht,hat⟩:=ha.get hm;cases p with
  |slot t l=>simp[VP.roots]at hr
  |own t ty e d k=>
   simp[VP.roots]at hr;subst hr;obtain⟨_,xs,rfl,_⟩:=ht;have:=(hat _ rfl).2;rw[this]at hb;cases hb
  |box q ls=>
   simp[VP.roots]at hr;subst hr;have hat:σ.root r=_:=hat;have h2:=AAW.1 zq _ hm;simp only[AAJ,AAU]at h2;have n1:r∉ms:=λhh=>by rw[(Az _ _).2 hh]at h2;exact absurd h2.1.1 OF
   have n2:r∉ps.flatMap VP.AO:=λhh=>by rw[(Az _ _).2 hh]at h2;exact absurd h2.2 OF
   obtain⟨b1,b2,b3⟩:=hk.box r (Hx n1 n2);refine⟨ht.1,?_,?_⟩
   ·rw[hat,b2]
   ·rw[hat];exact ht.2.1.symm.trans (BF _ _ _).symm
 ·have hro:=ha.root r hr;rw[CH]at hro;split at hro
  ·rw[hro]at hb;cases hb
  ·rename_i hms;have n1:r∉ms:=λhh=>hms ((Az _ _).2 hh);have:=hk.roots r (JS n1 hr);have e:s1.root r=σ.root r:=this.trans hro.symm;rw[e];exact⟨hb,rfl,rfl⟩
theorem DP(hk:Aq (cx.in ms ps) s0 s1)(hp:Cq cx ms ps=true)(ha:GG ms ps s0 s1 σ W tm (E4 W ps) yv){a:LA}{v:Value}(hr:∀c,(a=.ref c\/(∃lo hi,a=.EI c lo hi)\/a=.Bm c\/∃t,a=.JR t c)->σ.root c.r=s1.root c.r)(hv:AQ s1 W a v):AQ σ (C6 σ W ps) a v:=by
 cases a with
 |bad=>trivial
 |undef=>exact hv
 |DN=>exact hv
 |JY=>exact hv
 |sc l x=>exact L.AI l hv (λ_ _=>rfl) λb hb=>.inl hb
 |ref c=>
  intro gen t e xs d hl hg;rw[Ah (hr c (.inl rfl))]at hl;exact hv gen t e xs d hl hg
 |EI c lo hi=>
  intro gen t e xs d hl hg;rw[Ah (hr c (.inr (.inl ⟨lo,hi,rfl⟩)))]at hl;exact hv gen t e xs d hl hg
 |Bm c=>
  intro gen t e xs d hl hg;rw[Ah (hr c (.inr (.inr (.inl rfl))))]at hl;exact hv gen t e xs d hl hg
 |ptr r j AA=>
  intro hb zC;obtain⟨b1,b2,_⟩:=HU hk hp ha hb;exact hv b1 (b2.trans zC)
 |EC e x off=>
  obtain⟨ad,g,arr,T,fr,hv',hz,hh,hg,zE⟩:=hv;exact⟨ad,g,arr,T,fr,hv',.inl hz,hh,hg,Ls.AI e zE (λ_ _=>rfl) λb hb=>.inl hb⟩
 |fn f=>exact hv
 |JR tt c=>
  obtain⟨u,hu,hv⟩:=hv;refine⟨u,hu,λgen t e xs d hl hg=>?_⟩;rw[Ah (hr c (.inr (.inr (.inr ⟨tt,rfl⟩))))]at hl;exact hv gen t e xs d hl hg
 |EM g qs _=>
  obtain⟨bs,hu,hlen,hv⟩:=hv;refine⟨bs,hu,hlen,λk p b hp' hb hx zC=>?_⟩;obtain⟨b1,b2,_⟩:=HU hk hp ha hx;exact hv k p b hp' hb b1 (b2.trans zC)
 |arr=>exact hv
end
end Go.Ev
namespace Go.Ev
section
variable {E:Cy}{cx:Cx}{N:Nat}{ms:Is}{ps:List VP}{s0 s1 σ:St}{tm:Array Value}{W:Wd}{yv:List (List Lv)}
theorem CU{ms:Is}{r:Nat}(h:has ms r=false):r∉ms:=λhh=>by rw[(Az _ _).2 hh]at h;cases h
theorem HC{ms:Is}{r:Nat}(h:r∉ms):has ms r=false:=by
 cases hh:has ms r with
 |false=>rfl
 |true=>exact absurd ((Az _ _).1 hh) h
theorem GH(hk:Aq (cx.in ms ps) s0 s1)(ha:GG ms ps s0 s1 σ W tm (E4 W ps) yv){r:Nat}(h1:r∉ms)(h2:r∉ps.flatMap VP.roots):σ.root r=s1.root r:=by rw[ha.root r h2,CH,HC h1,hk.roots r (JS h1 h2)];rfl
theorem HV(hk:Aq (cx.in ms ps) s0 s1)(hp:Cq cx ms ps=true)(ha:GG ms ps s0 s1 σ W tm (E4 W ps) yv){a a':LA}{v:Value}(hc:FM (cx.in ms ps) a a')(hv:AQ s1 W a' v):
  AQ σ (C6 σ W ps) (a.clean (λr=>has ms r||has (ps.flatMap VP.AO) r) λr=>has ms r||has (ps.flatMap VP.roots) r) v:=by
 have far:∀r,¬(has ms r||has (ps.flatMap VP.roots) r)=true->(cx.in ms ps).lock r=true/\σ.root r=s1.root r:=by intro r hr;simp only[AAe,not_or,Bool.not_eq_true]at hr;exact⟨JS (CU hr.1) (CU hr.2),GH hk ha (CU hr.1) (CU hr.2)⟩
 have same:∀ {b:LA},a=b->¬Hl (cx.in ms ps) b->AQ s1 W b v:=by
  intro b e hd;subst e;rcases hc with rfl|⟨_,hh⟩
  ·exact hv
  ·exact absurd hh hd
 cases a with
 |ref c=>
  simp only[LA.clean];split
  ·trivial
  ·rename_i hr;obtain⟨q1,q2⟩:=far c.r hr;refine DP hk hp ha (λc' zg=>?_) (same rfl (by simp[Hl,q1]));rcases zg with e|⟨_,_,e⟩|e|⟨_,e⟩<;>cases e;exact q2
 |EI c lo hi=>
  simp only[LA.clean];split
  ·trivial
  ·rename_i hr;obtain⟨q1,q2⟩:=far c.r hr;refine DP hk hp ha (λc' zg=>?_) (same rfl (by simp[Hl,q1]));rcases zg with e|⟨_,_,e⟩|e|⟨_,e⟩<;>cases e;exact q2
 |Bm c=>
  simp only[LA.clean];split
  ·trivial
  ·rename_i hr;obtain⟨q1,q2⟩:=far c.r hr;refine DP hk hp ha (λc' zg=>?_) (same rfl (by simp[Hl,q1]));rcases zg with e|⟨_,_,e⟩|e|⟨_,e⟩<;>cases e;exact q2
 |ptr r j AA=>
  simp only[LA.clean];split
  ·trivial
  ·rename_i hr;simp only[AAe,not_or,Bool.not_eq_true]at hr;have q1:=Hx (cx:=cx) (CU hr.1) (CU hr.2);refine DP hk hp ha (λc' zg=>?_) (same rfl (by simp[Hl,q1]));rcases zg with e|⟨_,_,e⟩|e|⟨_,e⟩<;>cases e
 |JR t c=>
  simp only[LA.clean];split
  ·trivial
  ·rename_i hr;obtain⟨q1,q2⟩:=far c.r hr;refine DP hk hp ha (λc' zg=>?_) (same rfl (by simp[Hl,q1]));rcases zg with e|⟨_,_,e⟩|e|⟨_,e⟩<;>cases e;exact q2
 |EM g qs q2=>
  simp only[LA.clean];split
  ·trivial
  ·rename_i hr;refine DP hk hp ha (λc' zg=>?_) (same rfl ?_)
   ·rcases zg with e|⟨_,_,e⟩|e|⟨_,e⟩<;>cases e
   ·rintro ⟨p,hp',hd⟩
    refine hr (AA3.2 ⟨p,hp',?_⟩);refine AAp λhn=>?_;simp only[AAe,not_or,Bool.not_eq_true]at hn;rw[Hx (cx:=cx) (CU hn.1) (CU hn.2)]at hd;cases hd
 |_=>
  refine DP hk hp ha (λc' zg=>?_) (same rfl (λhd=>(hd:False)));rcases zg with e|⟨_,_,e⟩|e|⟨_,e⟩<;>cases e
theorem LW(hk:Aq (cx.in ms ps) s0 s1)(hp:Cq cx ms ps=true)(ha:GG ms ps s0 s1 σ W tm (E4 W ps) yv){a a':AV}{v:Value}(hc:C5 (cx.in ms ps) a a')(hv:BW s1 W a' v):
  BW σ (C6 σ W ps) (a.clean (λr=>has ms r||has (ps.flatMap VP.AO) r) λr=>has ms r||has (ps.flatMap VP.roots) r) v:=by
 have hV:∀ {g:Bool} {as as':List LA},as'.length=as.length->(∀(j:Nat)(b:LA),as[j]?=some b->∃b',as'[j]?=some b'/\FM (cx.in ms ps) b b')->E8 s1 W g as' v->
   E8 σ (C6 σ W ps) g (as.map (LA.clean (λr=>has ms r||has (ps.flatMap VP.AO) r) λr=>has ms r||has (ps.flatMap VP.roots) r)) v:=by
  intro g as as' hlen hl hv;cases g with
  |false=>
   match as,as',hlen,hl,hv with
   | [b],[b'],_,hl,hv=>
    obtain⟨b2,h1,h2⟩:=hl 0 b rfl;simp at h1;subst h1;exact HV hk hp ha h2 hv
   | [],[],_,hl,hv=>exact hv.elim
   |_::_::_,_::_::_,_,hl,hv=>exact hv.elim
  |true=>
   obtain⟨cs,hcs,zO,zM⟩:=hv;refine⟨cs,hcs,by rw[zO,hlen];simp,λj b hj=>?_⟩;rw[AAb]at hj;cases hq:as[j]? with
   |none=>rw[hq]at hj;cases hj
   |some c=>
    rw[hq]at hj;injection hj with hj;subst hj
    obtain⟨c',h1,h2⟩:=hl j c hq;obtain⟨u,hu,zh⟩:=zM j c' h1;exact⟨u,hu,HV hk hp ha h2 zh⟩
 cases hc with
 |same=>
  cases a with
  |Dr vs=>trivial
  |bx as=>trivial
  |v g as=>exact hV rfl (λj b hj=>⟨b,hj,.inl rfl⟩) hv
 |v g as as' h hl=>exact hV h hl hv
 |Dr vs=>trivial
 |bx as=>trivial
end
end Go.Ev
namespace Go.Ev
section
variable {E:Cy}{cx:Cx}{N:Nat}{ms:Is}{ps:List VP}{s0 s1 σ:St}{tm:Array Value}{W:Wd}{yv:List (List Lv)}
theorem L6{a:LA}{v r j:Nat}{fz:Nat->Prop}{y:Value}{o:Is}(h:match a with
  | .arr AA gen t e xs d=>(AA=v\/AA=1/\∃gen' t' e' zm d',s1.leaf r j=.arr 1 gen' t' e' zm d')/\gen=v/\AD e d W.w W.fz y xs o
  | .sc l x=>l.rd 0 W.w (E4 W ps) y x []
  | .bad=>True
  |_=>False):Aa σ (C6 σ W ps) a (some y) (bif a.CJ then o else []):=by
 cases a with
 |arr AA gen t e xs d=>exact⟨y,rfl,h.2.2.frame (λ_ _=>rfl) λb hb=>.inl hb⟩
 |sc l x=>exact⟨rfl,λu hu=>by injection hu with hu;subst hu;exact h⟩
 |bad=>exact⟨rfl,λ_ _=>trivial⟩
 |_=>exact h.elim
theorem MM(h:AU E s1 tm W)(r1:Bf s1)(h2:2<=s0.Bp)(hk:Aq (cx.in ms ps) s0 s1)(hp:Cq cx ms ps=true)(ha:GG ms ps s0 s1 σ W tm (E4 W ps) yv):AU E σ tm (C6 σ W ps) where
 DM:=by rw[ha.l1,<-hk.l1,h.DM]
 Bs:=by rw[ha.l2,<-hk.l2,h.Bs]
 AO t:=by
  by_cases ht:t∈ps.flatMap VP.AO
  ·obtain⟨p,hm,ht⟩:=AAL.1 ht;obtain⟨vs,hto,hat⟩:=ha.get hm;cases p with
   |slot u l=>
    simp[VP.AO]at ht;subst ht;obtain⟨_,x,rfl,hr⟩:=hto;rw[hat _ rfl];exact L.AI l hr (λ_ _=>rfl) λb hb=>.inl hb
   |own u ty e d k=>
    simp[VP.AO]at ht;subst ht;obtain⟨_,xs,rfl,_,zW,hr,_⟩:=hto;rw[(hat _ rfl).1];intro gen t' e' zm d' hl hg;exact⟨_,e',zW,rfl,rfl⟩
   |box r ls=>simp[VP.AO]at ht
  ·rw[ha.slot t ht,GK];cases hms:has ms t with
   |true=>exact trivial
   |false=>exact LW hk hp ha (hk.AO t (Hx (CU hms) ht)) (h.AO t)
 roots r:=by
  by_cases hr:r∈ps.flatMap VP.roots
  ·obtain⟨p,hm,hr⟩:=AAL.1 hr;obtain⟨vs,hto,hat⟩:=ha.get hm;cases p with
   |slot u l=>simp[VP.roots]at hr
   |own u ty e d k=>
    simp[VP.roots]at hr;subst hr;obtain⟨_,xs,rfl,hbx,zW,zE,_⟩:=hto;have hro:=(hat _ rfl).2;refine⟨λj=>?_,?_⟩
    ·have hom:(C6 σ W ps).om (.lf r j)=bif(nth .bad (σ.root r).ls j).CJ then W.om (.lf r j)else []:=rfl;rw[hom,hro];cases j with
     |zero=>
      show Aa _ _ (CC s0.Bp d k ⟨.sl ty e,xs⟩) (W.cv r 0) (bif(CC s0.Bp d k ⟨.sl ty e,xs⟩).CJ then W.om (.lf r 0)else []);rw[zW];cases d with
      |zero=>
       have:=AD.zero zE;rw[this]at zE;exact⟨rfl,λu hu=>by injection hu with hu;subst hu;exact L.AI (.sl ty e) zE (λ_ _=>rfl) λb hb=>.inl hb⟩
      |succ d=>exact⟨_,rfl,zE.frame (λ_ _=>rfl) λb hb=>.inl hb⟩
     |succ j=>exact⟨rfl,λ_ _=>trivial⟩
    ·rw[hro];show(if false=true then _ else _);rw[AAQ OF];show(bif(σ.root r).box then W.om (.blk r)else [])=[];rw[hro];rfl
   |box q ls=>
    simp[VP.roots]at hr;subst hr;have hat:σ.root r=_:=hat;obtain⟨hbx,hlen,_,hto⟩:=hto;obtain⟨_,h2'⟩:=h.roots r;rw[AAP hbx]at h2';obtain⟨ho,arr,T,fr,hh,a1,a2,a3⟩:=h2';refine⟨λj=>?_,?_⟩
    ·have hom:(C6 σ W ps).om (.lf r j)=bif(nth .bad (σ.root r).ls j).CJ then W.om (.lf r j)else []:=rfl;rw[hom,hat];show Aa _ _ (nth .bad (AP s0.Bp ls vs) j) (W.cv r j) (bif(nth .bad (AP s0.Bp ls vs) j).CJ then W.om (.lf r j)else []);cases zW:W.cv r j with
     |some y=>exact L6 (v:=s0.Bp) (fz:=E4 W ps) (hto s0.Bp j y zW)
     |none=>
      have hj:ls.length<=j:=by rw[hlen,<-a2];rw[a3 j]at zW;exact Array.getElem?_eq_none_iff.1 zW
      rw[Ay _ (by rw[BF];exact hj)];exact⟨rfl,λ_ hu=>by cases hu⟩
    ·rw[hat];show(if true=true then _ else _);rw[AAP rfl];refine⟨?_,arr,T,fr,hh,a1,by rw[BF,hlen];exact a2,a3⟩;show(bif(σ.root r).box then W.om (.blk r)else [])=_;rw[hat];exact ho
  ·cases hms:has ms r with
   |true=>
    have hro:σ.root r=dead:=by rw[ha.root r hr,CH,hms];rfl
    rw[hro];refine⟨λj=>?_,?_⟩
    ·have hom:(C6 σ W ps).om (.lf r j)=bif(nth .bad (σ.root r).ls j).CJ then W.om (.lf r j)else []:=rfl;rw[hom,hro];exact⟨rfl,λ_ _=>trivial⟩
    ·show(if false=true then _ else _);rw[AAQ OF];show(bif(σ.root r).box then W.om (.blk r)else [])=[];rw[hro];rfl
   |false=>
    have hro:=GH hk ha (CU hms) hr;rw[hro];obtain⟨q1,q2⟩:=h.roots r;refine⟨λj=>?_,?_⟩
    ·have hom:(C6 σ W ps).om (.lf r j)=bif(nth .bad (σ.root r).ls j).CJ then W.om (.lf r j)else []:=rfl;rw[hom,hro];have hq:=q1 j;show Aa _ _ _ (W.cv r j) _
     have hri:∀b,nth LA.bad (s1.root r).ls j=b->b.Ce=true:=by
      intro b hb;by_cases hj:j<(s1.root r).ls.length
      ·rw[<-hb];exact r1 r _ (HJ hj)
      ·rw[Ay _ J]at hb;subst hb;rfl
     generalize nth LA.bad (s1.root r).ls j=b at hq hri;have hri:=hri b rfl
     have hla:∀v,AQ s1 W b v->AQ σ (C6 σ W ps) b v:=λv hv=>DP hk hp ha (λc hc=>by
      rcases hc with e|⟨_,_,e⟩|e|⟨_,e⟩<;>(subst e;cases hri)) hv
     cases b with
     |arr AA gen t e xs d=>
      obtain⟨u,hu,zE⟩:=hq;exact⟨u,hu,zE.frame (λ_ _=>rfl) λb hb=>.inl hb⟩
     |_=>exact⟨rfl,λu hu=>hla u (hq.2 u hu)⟩
    ·have hom:(C6 σ W ps).om (.blk r)=bif(σ.root r).box then W.om (.blk r)else []:=rfl;rw[hom,hro];cases hb:(s1.root r).box with
     |true=>
      rw[hb]at q2;rw[AAP rfl]at q2 ⊢;exact q2
     |false=>rw[AAQ OF];rfl
 sep:=MN h ha
 init:=by
  refine⟨λr j gen t e xs d hl=>?_,λr hb zC=>?_⟩
  ·by_cases hr:r∈ps.flatMap VP.roots
   ·obtain⟨p,hm,hr⟩:=AAL.1 hr;obtain⟨vs,hto,hat⟩:=ha.get hm;cases p with
    |slot u l=>simp[VP.roots]at hr
    |own u ty e' d' k=>
     simp[VP.roots]at hr;subst hr;obtain⟨_,ys,rfl,_,_,_,hkk⟩:=hto;have hro:=(hat _ rfl).2;unfold St.leaf at hl;rw[hro]at hl;cases j with
     |zero=>
      have hl:CC s0.Bp d' k ⟨.sl ty e',ys⟩=.arr 1 gen t e xs d:=hl;cases k with
      |true=>
       obtain⟨g1,t1,e1,xs1,d1,hl1⟩:=hkk rfl;exact h.init.1 r 0 g1 t1 e1 xs1 d1 hl1
      |false=>
       cases d' with
       |zero=>cases hl
       |succ d'=>
        have hl:LA.arr s0.Bp s0.Bp ty e' ys (d'+1)=.arr 1 gen t e xs d:=hl;injection hl with h1;omega
     |succ j=>cases hl
    |box q ls=>
     simp[VP.roots]at hr;subst hr;have hat:σ.root r=_:=hat;unfold St.leaf at hl;rw[hat]at hl;have hl:nth LA.bad (AP s0.Bp ls vs) j=.arr 1 gen t e xs d:=hl;obtain⟨hbx,hlen,_,hto⟩:=hto;obtain⟨_,h2'⟩:=h.roots r;rw[AAP hbx]at h2';obtain⟨_,arr,T,fr,hh,a1,a2,a3⟩:=h2'
     have hj:j<ls.length:=by
      rcases AAr j ls.length with hj|hj
      ·exact hj
      ·rw[Ay _ (by rw[BF];exact hj)]at hl;cases hl
     have zW:W.cv r j=some (arr[j]'(by omega)):=by rw[a3 j];exact AAh _
     have:=hto s0.Bp j _ zW;rw[hl]at this;rcases this.1 with e|⟨_,g1,t1,e1,xs1,d1,hl1⟩
     ·omega
     ·exact h.init.1 r j g1 t1 e1 xs1 d1 hl1
   ·have hro:=ha.root r hr;cases hms:has ms r with
    |true=>
     rw[CH,hms]at hro;unfold St.leaf at hl;rw[hro]at hl;cases j<;>cases hl
    |false=>
     have hro:=GH hk ha (CU hms) hr;exact h.init.1 r j gen t e xs d (by rw[<-Ah hro];exact hl)
  ·obtain⟨b1,b2,_⟩:=HU hk hp ha hb;exact h.init.2 r b1 (b2.trans zC)
end
end Go.Ev
