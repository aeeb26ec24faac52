/- Evaluator. Conditions: none. -/
import Derived.Test.YthlchdmdanagkaaGreatDoorLib2
import Derived.Orders
set_option linter.all false
namespace Go.Ev
mutual
theorem L.FD:∀(l:L) {w:World} {fz xy:Nat->Prop} {v:Value} {x:l.D} {o:It},l.rd 2 w fz v x o->l.rd 2 w xy v x o
 | .int _,_,_,_,_,_,_,h=>h
 | .bool,_,_,_,_,_,_,h=>h
 | .str,_,_,_,_,_,_,h=>h
 | .sl _ e,w,fz,xy,v,x,o,h=>by
  obtain⟨A,c,hv,hc,h⟩:=h;refine⟨A,c,hv,hc,?_⟩;cases A with
  |none=>exact h
  |some a=>
   rcases h with h|⟨g,os,yE,yS,ho⟩
   ·exact .inl h
   ·exact .inr ⟨g,os,yE,λi hi=>Ls.FD e (yS i hi),ho⟩
theorem Ls.FD:∀(ls:Ls) {w:World} {fz xy:Nat->Prop} {g:Nat->Option Value} {x:ls.D} {o:It},ls.rd 2 w fz g x o->ls.rd 2 w xy g x o
 | .nil,_,_,_,_,_,_,h=>h
 | .one l,_,_,_,_,_,_,h=>by simp only[Ls.rd]at h ⊢;obtain⟨v,hg,h⟩:=h;exact⟨v,hg,L.FD l h⟩
 | .cons l ls,_,_,_,_,_,_,h=>by simp only[Ls.rd]at h ⊢;obtain⟨v,o1,o2,hg,h1,h2,rfl⟩:=h;exact⟨v,o1,o2,hg,L.FD l h1,Ls.FD ls h2,rfl⟩
end
def Conv(ls:List (L×Nat))(w:World)(fz xy:Nat->Prop):Prop:=∀p∈ls,∀(l:L)(x:l.D)(y:Value)(o:It),l=p.1->l.rd p.2 w fz y x o->l.rd p.2 w xy y x o
theorem Conv.mono{ls:List (L×Nat)}{w:World}{fz xy:Nat->Prop}(h:∀b,fz b->xy b):Conv ls w fz xy:=λp _ l x y o _ hr=>L.AN l hr (λ_ _=>rfl) h
theorem Conv.fresh{ls:List (L×Nat)}(hf:fresh ls=true)(w:World)(fz xy:Nat->Prop):Conv ls w fz xy:=by
 intro p hp l x y o hl hr;have:=AAZ.1 hf p hp;simp only[AAg,AAa,AAX,AAN]at this;obtain⟨l',m⟩:=p;dsimp only at hl this hr ⊢;subst hl;rcases this with((h1|h1)|h1)|⟨h1,h2⟩
 ·exact(L.AY l h1 hr).1
 ·subst h1;exact L.FD l hr
 ·subst h1;exact(L.CD l).2 (L.FD l ((L.CD l).1 hr))
 ·subst h1;cases l with
  |sl t e=>
   obtain⟨A,c,hv,hc,h⟩:=hr;refine⟨A,c,hv,hc,?_⟩;cases A with
   |none=>exact h
   |some a=>
    rcases h with h|⟨g,os,yE,yS,ho⟩
    ·exact .inl h
    ·exact .inr ⟨g,os,yE,λi hi=>(Ls.AY e h2 (yS i hi)).1,ho⟩
  |int k=>exact hr
  |bool=>exact hr
  |str=>exact hr
theorem Ge.conv{w:World}{fz xy:Nat->Prop}{g:Bool}{ls:List (L×Nat)}{u:Value}{vs:List Lv}{own:Nat->It}(h:Ge w fz g ls u vs own)(hc:Conv ls w fz xy):Ge w xy g ls u vs own:=by
 obtain⟨h1,h2,h3⟩:=h;refine⟨h1,h2,λj p lv hp zM=>?_⟩;obtain⟨y,hy,hr⟩:=h3 j p lv hp zM
 have hl:lv.l=p.1:=by have:=congrArg (·[j]?) h1;simp only[AAe,hp,zM,ABA,Option.some.injEq]at this;exact this
 exact⟨y,hy,hc p (AAR hp) lv.l lv.x y _ hl hr⟩
theorem D6.conv{w:World}{fz xy:Nat->Prop}{om:Nat->It}:∀ {rs:List (Bool×List (L×Nat))} {rv:ADc} {xu:List (List Lv)} {off:Nat},D6 w fz om rs rv xu off->Conv (rs.flatMap (·.2)) w fz xy->D6 w xy om rs rv xu off
 | [],[],[],_,h,hc=>h
 | [],[],_::_,_,h,hc=>h.elim
 | [],_::_,_,_,h,hc=>by simp[D6]at h
 |_::_,[],_,_,h,hc=>by simp[D6]at h
 |_::_,_::_,[],_,h,hc=>by simp[D6]at h
 |(g,ls)::rs,u::us,vs::xu,off,h,hc=>
  ⟨Ge.conv h.1 λp hp=>hc p (by simp[hp]),D6.conv h.2 λp hp=>hc p (by
   grind)⟩
theorem JP.conv{w:World}{fz xy:Nat->Prop}{pm:PM}{u:Value}{vs:List Lv}{blk:Nat}{own:Nat->It}(h:JP w fz pm u vs blk own)(hc:Conv pm.outs w fz xy):JP w xy pm u vs blk own:=by
 cases pm with
 |val g ls=>exact h
 |fn f=>exact h
 |box ls=>
  obtain⟨h1,h2,arr,T,fr,q1,q2,q3,h3⟩:=h;refine⟨h1,h2,arr,T,fr,q1,q2,q3,λj p lv hp zM=>?_⟩;obtain⟨y,hy,hr⟩:=h3 j p lv hp zM
  have hl:lv.l=p.1:=by have:=congrArg (·[j]?) h2;simp only[AAe,hp,zM,ABA,Option.some.injEq]at this;exact this
  exact⟨y,hy,hc p (AAR hp) lv.l lv.x y _ hl hr⟩
 |row g ls=>exact Ge.conv h hc
theorem JP.len{w:World}{fz:Nat->Prop}{pm:PM}{u:Value}{vs:List Lv}{blk:Nat}{own:Nat->It}(h:JP w fz pm u vs blk own):vs.length=pm.outs.length:=by
 cases pm with
 |val g ls=>rw[show vs=[]from h];rfl
 |fn f=>rw[show vs=[]from h];rfl
 |box ls=>have:=congrArg List.length h.2.1;simpa[PM.outs]using this
 |row g ls=>have:=congrArg List.length h.1;simpa[PM.outs]using this
open Classical in
noncomputable def Kr (T:ID) (om qf:Key->It) (fl:Nat->It):Key->It
 | .fl n=>fl n
 | .blk r=>if h:∃c,AQ T c=some (.blk r)then qf h.choose else om (.blk r)
 | .lf r j=>if h:∃c,AQ T c=some (.lf r j)then qf h.choose else om (.lf r j)
theorem K3{T:ID}{c:Key}{n:Nat}:AQ T c≠some (.fl n):=by
 intro h;cases c with
 |fl c=>cases h
 |blk i=>obtain⟨r,e,_⟩:=BD h;cases e
 |lf i j=>rcases BB h with⟨r,e,_⟩|⟨l,c,o,e,_⟩<;>cases e
open Classical in
theorem Mc{T:ID}(hn:(T.flatMap PT.D3).Pairwise NH){om qf:Key->It}{fl:Nat->It}{c k:Key}(h:AQ T c=some k):Kr T om qf fl k=qf c:=by
 have hex:∃c,AQ T c=some k:=⟨c,h⟩;have hc:hex.choose=c:=BS hn hex.choose_spec h;cases k with
 |fl n=>exact absurd h K3
 |blk r=>
  show(if h:∃c,AQ T c=some (.blk r)then qf h.choose else om (.blk r))=_;grind
 |lf r j=>
  show(if h:∃c,AQ T c=some (.lf r j)then qf h.choose else om (.lf r j))=_;grind
theorem Mb{T:ID}{om qf:Key->It}{fl:Nat->It}{k:Key}(h:∀c,AQ T c≠some k)(hk:∀n,k≠.fl n):Kr T om qf fl k=om k:=by
 have hex:¬ ∃c,AQ T c=some k:=λ⟨c,hc⟩=>h c hc;cases k with
 |fl n=>grind
 |blk r=>exact dif_neg hex
 |lf r j=>exact dif_neg hex
section
variable {P:Program}{E:Ci}{s:St}{W:Wd}{v:Nat}{tm:Array Value}{cx:Cx}
theorem Jh(h:AW E s tm W)(hv:Aj s v){ks:List (L×Nat)}{rs:It}{fs:List Wr}{w':World}{xy:Nat->Prop}(hf:(if fresh ks then some []else Ap cx s rs)=some fs):
  ∃W1 fzB,AW E (s.app fs) tm W1/\JO s (s.app fs) W W1 rs/\(∀b,W1.fz b->fzB b)/\(∀b,fzB b->W1.fz b\/(xy b/\(Seen W rs b->W1.fz b)))/\Conv ks w' xy fzB:=by
 split at hf
 ·rename_i yw;injection hf with hf;subst hf
  exact⟨W,W.fz,h,⟨⟨rfl,rfl,λ_=>⟨rfl,rfl,rfl⟩⟩,rfl,rfl,rfl,λ_ _ _=>rfl,λ_ _=>.inl rfl,λ_ _ _=>rfl,λ_=>rfl,λ_ _ hb=>hb,λ_ hb=>hb,λ_ hb=>.inl hb⟩,λ_ hb=>hb,λ_ hb=>.inl hb,Conv.fresh yw _ _ _⟩
 ·obtain⟨W1,h1,h2,h3⟩:=Ea h hv hf;exact⟨W1,λb=>W1.fz b\/xy b,h1,h2,λb hb=>.inl hb,λb hb=>hb.imp id λhb=>⟨hb,h3 b⟩,Conv.mono λb hb=>.inr hb⟩
theorem Mm(h:AW E s tm W)(hv:Aj s v){d:Nat}(hd:d<tm.size){g:Sm}{yQ:List AV}{us:ADc}{xu:List (List Lv)}{T:ID}(hh:Handed s W g.ps yQ us xu T)
  {z:g.outs.D} {r:Value} {w':World} {xy:Nat->Prop} {yg:Key->It} {rv:ADc} {vsR vsP:List (List Lv)} (co:FH g W.w (Seen W (Af g.ps yQ)) us (FM T W.bk) (Ak T W.om) z r w' xy yg rv vsR vsP)
  {fs pw:List Wr} {bs:List (Bool×List LA)} {own left:_} (hf:(if fresh g.Gg then some []else Ap cx s (Af g.ps yQ))=some fs) (hb:Dm d v g.rs (unpack g.outs z) 0=some (bs,own,left)) (hp:AR s v g.ps yQ left=some pw):
  ∃W',W'.w=w'/\AW E (s.app (fs++pw++[.root d ⟨false,v,own⟩,.slot d (KZ bs)])) (tm.setIfInBounds d r) W':=by
 have xv:=Fw h hh;obtain⟨W1,fzB,h1,yw,hup,hdown,hconv⟩:=Jh (cx:=cx) (w':=w') (xy:=xy) h hv hf;have hv1:=yw.Hk hv;have hres:=D6.conv co.J1 (xy:=fzB) λp hp=>hconv p (AAY _ hp)
 have heach:∀(i:Nat)(pm:PM)(u:Value)(vs:List Lv),g.ps[i]?=some pm->us[i]?=some u->vsP[i]?=some vs->JP w' fzB pm u vs (FM T W.bk i) λj=>yg (.lf i j):=λi pm u vs e1 e2 e3=>
  (co.each i pm u vs e1 e2 e3).conv λp hp=>hconv p (AAV _ (AAP.2 ⟨pm,AAR e1,hp⟩))
 rw[co.outs]at hb;obtain⟨rfl,hbl,ys,hyl,hown,hvok⟩:=G4 g.rs rv vsR vsP.flatten 0 hres hb
 obtain⟨U,rfl,hUl,hU⟩:=GZ (s:=s) (v:=v) g.ps yQ vsP co.len (λi pm vs e1 e2=>by
  obtain⟨av,u,_,_,_,q2,_⟩:=hh.all e1;exact(heach i pm u vs e1 q2 e2).len) hp
 have htg:∀ {i:Nat} {m:PT},T[i]?=some m->∃pm av u vs vo uo,g.ps[i]?=some pm/\yQ[i]?=some av/\us[i]?=some u/\vsP[i]?=some vo/\U[i]?=some uo/\Gs s W pm av m u vs/\Mk s v pm av vo uo/\JP w' fzB pm u vo (FM T W.bk i) (λj=>yg (.lf i j)):=by intro i m hT;obtain⟨pm,av,u,vs,e1,e2,e3,e4,e5⟩:=hh.Oz hT;have hi:i<g.ps.length:=(AAO.1 e1).1;obtain⟨vo,e6⟩:=BO co.len hi;obtain⟨uo,e7⟩:=BO hUl hi;exact⟨pm,av,u,vs,vo,uo,e1,e2,e3,e6,e7,e5,hU i pm av vo uo e1 e2 e6 e7,heach i pm u vo e1 e3 e6⟩
 have hcls:∀u∈U.flatten,(∃(i:Nat) (ls:List (L×Nat)) (vo:List Lv),T[i]?=some (.box u.r)/\U[i]?=some [u]/\u=⟨u.r,0,AU s u.r v 0 ls vo⟩/\vo.length=ls.length/\(s.root u.r).box=true/\(s.root u.r).ls.length=ls.length) \/
   (∃(i:Nat) (l:List (Option (Loc×It))) (j:Nat) (c:Loc) (o:It) (g':Bool) (ls:List (L×Nat)) (as:List LA) (vo:List Lv),T[i]?=some (.row l)/\l[j]?=some (some (c,o))/\g.ps[i]?=some (.row g' ls)/\yQ[i]?=some (.v g' as)/\vsP[i]?=some vo/\El s v ls as vo j u/\u.r=c.r/\u.lo=c.j/\u.news.length=1/\c.r<s.ro.length/\c.j<(s.root c.r).ls.length):=by
  intro u hu;obtain⟨uo,hm,hu⟩:=List.mem_flatten.1 hu;obtain⟨i,hi⟩:=AAv hm;have xz:i<g.ps.length:=by rw[<-hUl];exact(AAO.1 hi).1
  obtain⟨m,hT⟩:=BO hh.l4 xz;obtain⟨pm,av,u',vs,vo,uo',e1,e2,e3,e4,e5,e6,e7,e8⟩:=htg hT;rw[hi]at e5;injection e5 with e5;subst e5
  cases pm with
  |val g' ls=>rw[show uo=[]from e7]at hu;cases hu
  |fn f=>rw[show uo=[]from e7]at hu;cases hu
  |box ls=>
   obtain⟨r,AB,q1,q2⟩:=e7;obtain⟨r',ver',q3,rfl,q4,q5,_⟩:=e6;rw[q1]at q3;injection q3 with _ q3;injection q3 with q3;injection q3 with q3
   subst q3;subst q2;have:=ABM.1 hu;subst this;exact .inl ⟨i,ls,vo,hT,hi,rfl,by simpa[PM.outs]using e8.len,q4,q5⟩
  |row g' ls=>
   obtain⟨as,l,rfl,rfl,q3,q4,q5,q6,q7⟩:=e6;obtain⟨g2,as2,q8,q9⟩:=e7;injection q8 with q8 q8';subst q8;subst q8'
   obtain⟨j,hj⟩:=q9.1 u hu;have hj':=hj;obtain⟨p,c,lv2,AB,gen,t0,e0,xs0,d0,F,h1,h2,h3,h4,h5,h6,rfl⟩:=hj;have hjl:j<ls.length:=(AAO.1 h1).1;have zE:vs.length=ls.length:=by have:=congrArg List.length q5;simpa using this
   obtain⟨lv,zM⟩:=BO zE hjl;obtain⟨o,ho⟩:=BO q4 hjl;obtain⟨y,hy,hr⟩:=q7 j p _ lv o h1 h3 zM ho
   have hl:lv.l=p.1:=by have:=congrArg (·[j]?) q5;simp only[AAe,h1,zM,ABA,Option.some.injEq]at this;exact this
   obtain⟨a1,a2⟩:=I6 h5;rcases hr with⟨hs,_⟩|⟨c',o',_,_,_,_,_,_,_,_,k1,k2,_⟩
   ·rw[hl,h2]at hs;cases hs
   ·injection k1 with k1;subst k1;subst k2
    exact .inr ⟨i,l,j,c,o',_,ls,as,vo,hT,ho,e1,e2,e4,hj',rfl,rfl,rfl,a1,a2⟩
 have yd:∀u∈U.flatten,(u.news=[]\/u.r<(s.app fs).ro.length)/\u.lo+u.news.length<=((s.app fs).root u.r).ls.length:=by
  intro u hu;rw[yw.same.len,(yw.same.box u.r).2.2];rcases hcls u hu with⟨i,ls,vo,hT,hUi,he,zE,hb,hl⟩|⟨i,l,j,c,o,g',ls,as,vo,hT,hl,e1,e2,e3,hr,q1,q2,q3,q4,q5⟩
  ·refine⟨.inr (JH hb),?_⟩;rw[hl,he];simp[C0 s u.r v 0 ls vo zE]
  ·rw[q1,q2,q3];exact⟨.inr q4,q5⟩
 obtain⟨yZ,yY⟩:=IA U.flatten (s.app fs) yd;rw[A3,A3];generalize s.app fs=s1 at h1 yw yd yZ yY hv1;generalize s1.app (ET U.flatten)=s2 at yZ yY
 have hcov:∀u∈U.flatten,∀r j,r=u.r/\u.lo<=j/\j<u.lo+u.news.length->∃c,AQ T c=some (.lf r j):=by
  intro u hu r j hc;rcases hcls u hu with⟨i,ls,vo,hT,hUi,he,zE,hb,hl⟩|⟨i,l,jj,c,o,g',ls,as,vo,hT,hl,e1,e2,e3,hr,q1,q2,q3,q4,q5⟩
  ·exact⟨.lf i j,by rw[hc.1];simp[AQ,hT]⟩
  ·have:j=c.j:=J
   subst this;exact⟨.lf i jj,by rw[hc.1,q1];simp[AQ,hT,hl]⟩
 have hun:∀(r j:Nat),(∀c,AQ T c≠some (.lf r j))->s2.leaf r j=s1.leaf r j:=by
  intro r j hn;rw[yY]
  exact Jg r j _ _ λu hu hc=>by obtain⟨c,hk⟩:=hcov u hu r j hc;exact hn c hk
 have hio:∀k,∀b∈Ak T W.om k,∃a,AQ T k=some a/\b∈W.om a:=λk b hb=>CH hh hb;have hfz1:∀b,W1.fz b->b<W.w.heap.size/\∀k,b∉Ak T W.om k:=λb hb=>⟨xv.fz b (yw.fz b hb),λk hk=>(xv.own k b hk).1 (yw.fz b hb)⟩
 have hfar:∀k,(∀c,AQ T c≠some k)->∀b∈W1.om k,b<W.w.heap.size/\∀c,b∉Ak T W.om c:=by intro k hk b hb;have hb0:=yw.sub k b hb;refine⟨(h.sep.own k b hb0).2.1,λc hc=>?_⟩;obtain⟨a,ha,zg⟩:=hio c b hc;exact h.sep.A4 k a (λe=>hk c (e▸ha)) b hb0 zg
 have hboxT:∀ {i r:Nat},T[i]?=some (.box r)->∃(ls:List (L×Nat)) (vo:List Lv) (arr:Array Value) (T':TypeId) (fr:Nat×Nat),(s.root r).ls.length=ls.length/\vo.length=ls.length/\w'.heap[W1.bk r]?=some (.cells arr T' fr)/\(∀j,j<arr.size->¬(fr.1<=j/\j<fr.2))/\arr.size=ls.length/\
   (∀(j:Nat)(p:L×Nat)(lv:Lv),ls[j]?=some p->vo[j]?=some lv->∃y,arr[j]?=some y/\lv.l.rd p.2 w' fzB y lv.x (yg (.lf i j)))/\(∀j,s2.leaf r j=if j<ls.length then nth .bad (AU s r v 0 ls vo) j else .bad)/\∀(j:Nat)(p:L×Nat),ls[j]?=some p->p.2=3->arr[j]?=W.cv r j:=by
  intro i r hT;obtain⟨pm,av,u',vs,vo,uo,e1,e2,e3,e4,e5,e6,e7,e8⟩:=htg hT;cases pm with
  |val g' ls=>cases e6.1
  |fn f=>cases e6.1
  |row g' ls=>obtain⟨_,_,_,q,_⟩:=e6;cases q
  |box ls=>
   obtain⟨r',ver',q3,q4,hbx,hlen,_⟩:=e6;injection q4 with q4;subst q4
   obtain⟨r2,ver2,q5,q6⟩:=e7;rw[q5]at q3;injection q3 with _ q3;injection q3 with q3;injection q3 with q3
   subst q3;subst q6;have zE:vo.length=ls.length:=by simpa[PM.outs]using e8.len
   obtain⟨b1,b2,arr,T',fr,b3,b4,b5,b6⟩:=e8;have hbk:FM T W.bk i=W1.bk r2:=by rw[yw.bk];simp[FM,hT]
   rw[hbk]at b3
   have hkp:∀(j:Nat)(p:L×Nat),ls[j]?=some p->p.2=3->arr[j]?=W.cv r2 j:=by intro j p hj hp;have hq:=co.kept i ls j p e1 hj hp;obtain⟨_,q2⟩:=h.roots r2;rw[AAS hbx]at q2;obtain⟨_,arr0,T0,fr0,k1,_,_,k2⟩:=q2;rw[k2];rw[hbk]at hq;have hb4:=b3;rw[yw.bk]at hq hb4;simpa[World.cell?,hb4,k1]using hq
   refine⟨ls,vo,arr,T',fr,hlen,zE,b3,b4,b5,b6,λj=>?_,hkp⟩;have hnl:=C0 s r2 v 0 ls vo zE;split
   ·rename_i hj;rw[yY];refine Ix r2 j U.flatten _ (λu hu hc=>?_) (.inr ⟨⟨r2,0,AU s r2 v 0 ls vo⟩,List.mem_flatten.2 ⟨_,AAR e5,List.mem_singleton_self _⟩,rfl,Nat.zero_le _,by rw[hnl];omega⟩);rcases hcls u hu with⟨i',ls',vo',ym,hUi,he,_⟩|⟨i',l,jj,c,o,g',ls',as,vo',ym,hl,_,_,_,hr,q1,q2,q3,_⟩
    ·have hii:Key.blk i'=.blk i:=BS hh.nodup (a:=.blk r2) (by rw[hc.1];simp[AQ,ym]) (by simp[AQ,hT]);injection hii with hii;subst hii
     rw[e5]at hUi;injection hUi with hUi;injection hUi with hUi;subst hUi
     simp
    ·have:j=c.j:=J
     subst this;have hii:Key.lf i' jj=.lf i c.j:=BS hh.nodup (a:=.lf r2 c.j) (by rw[hc.1,q1];simp[AQ,ym,hl]) (by simp[AQ,hT]);injection hii with hii;subst hii
     rw[hT]at ym;cases ym
   ·rename_i hj;unfold St.leaf;rw[Au];rw[(yZ.box r2).2.2,(yw.same.box r2).2.2,hlen];omega
 have hrowT:∀ {i jj:Nat} {l:List (Option (Loc×It))} {c:Loc} {o:It},T[i]?=some (.row l)->l[jj]?=some (some (c,o))->∃(q:It) (AB gen:Nat) (t t0:TypeId) (e:Ls) (xs yj:List e.D) (d0:Nat) (u:Value),s.leaf c.r c.j=.arr AB gen t e xs d0/\s2.leaf c.r c.j=.arr AB v t0 e yj d0/\W1.cv c.r c.j=some u/\AE e d0 w' fzB u yj q/\NU (W.om (.lf c.r c.j)) o (yg (.lf i jj)) q:=by
  intro i jj l c o hT hl;obtain⟨pm,av,u',vs,vo,uo,e1,e2,e3,e4,e5,e6,e7,e8⟩:=htg hT;cases pm with
  |val g' ls=>cases e6.1
  |fn f=>cases e6.1
  |box ls=>obtain⟨_,_,_,q,_⟩:=e6;cases q
  |row g' ls=>
   obtain⟨g2,ls2,as,u2,vs2,p,lv,y,f1,f2,f3,f4,f5,f6,f7,f8,f9,f10,hr⟩:=hh.Nw hT hl;rw[e1]at f1;injection f1 with f1;injection f1 with f1 f1';subst f1;subst f1'
   rw[e2]at f2;injection f2 with f2;subst f2
   rw[e3]at f3;injection f3 with f3;subst f3
   obtain⟨g3,as3,q8,q9⟩:=e7;injection q8 with q8 q8';subst q8;subst q8'
   obtain⟨u,hu,hru⟩:=q9.2 jj p f5 f8;have hru':=hru;obtain⟨p',c',lo,AB,gen,t0,e0,xs0,d0,F,zT,h2',h3',h4',h5',h6',hue⟩:=hru;rw[f5]at zT;injection zT with zT;subst zT
   rw[f6]at h3';injection h3' with h3';injection h3' with h3';subst h3'
   have hk:AQ T (.lf i jj)=some (.lf c.r c.j):=by simp[AQ,hT,hl]
   have xt:s2.leaf c.r c.j=.arr AB v t0 e0 (F xs0) d0:=by
    rw[yY];have hself:nth .bad u.news (c.j-u.lo)=.arr AB v t0 e0 (F xs0) d0:=by rw[hue];simp[nth]
    refine Ix c.r c.j U.flatten _ (λu2 hu2 hc=>?_) (.inr ⟨u,List.mem_flatten.2 ⟨_,AAR e5,hu⟩,by rw[hue];simp⟩);rcases hcls u2 hu2 with⟨i',ls',vo',ym,hUi,he,_⟩|⟨i',l',j',c',o',g',ls',as',vo',ym,zZ,g1,g2,g3,yi,q1,q2,q3,_⟩
    ·have hii:Key.lf i' c.j=.lf i jj:=BS hh.nodup (a:=.lf c.r c.j) (by rw[hc.1];simp[AQ,ym]) hk;injection hii with hii;subst hii
     rw[hT]at ym;cases ym
    ·have hcj:c.j=c'.j:=J
     have hii:Key.lf i' j'=.lf i jj:=BS hh.nodup (a:=.lf c.r c.j) (by rw[hc.1,q1,hcj];simp[AQ,ym,zZ]) hk;injection hii with hii hjj;subst hii;subst hjj
     rw[e1]at g1;injection g1 with g1;injection g1 with g1 g1';subst g1;subst g1'
     rw[e2]at g2;injection g2 with g2;injection g2 with g2 g2';subst g2'
     rw[e4]at g3;injection g3 with g3;subst g3
     rw[<-yi.uniq hru']at hself;exact hself
   obtain⟨m1,m2,m3⟩:=(show Ge w' fzB _ ls u' vo (λj=>yg (.lf i j))from e8);obtain⟨y',hy',zS⟩:=m3 jj p lo f5 h4';rw[f10]at hy';injection hy' with hy';subst hy'
   rcases hr with⟨_,k0,_⟩|⟨c2,o2,gen2,t2,e2',xs2,hh2,t',e',ys,k1,k2,k3,k4,k5,k6,k7,k8,k9,k10⟩
   ·cases k0
   ·injection k1 with k1;subst k1
    injection k2 with k2;injection k2 with k2 k2';subst k2'
    rw[h5']at k3;injection k3 with a1 a2 a3 a4 a5 a6
    subst a1;subst a2;subst a3;subst a4;have a5:=eq_of_heq a5;subst a5;obtain⟨uu,huu,yD⟩:=(h.roots c.r).row h5';rw[k5]at huu;injection huu with huu;subst huu
    rw[a6]at yD;obtain⟨t3,fn,zs,po,n1,n2,n3,n4,n5⟩:=OK c.p h6' yD k6 k4 (h.sep.nodup _);obtain⟨z1,z2⟩:=n2.uniq k8;subst z1;subst z2
    have zR:lo.l=.sl t3 e'/\∃ys',HEq lo.x ys'/\fn zs=ys':=by
     unfold Nu at n1;split at n1
     ·rename_i yy hyy;obtain⟨b1,b2⟩:=L.AH hyy;injection n1 with n1
      refine⟨b1,yy,?_,by rw[<-n1]⟩;obtain⟨ll,xx⟩:=lo;dsimp only at b1 b2 ⊢;subst b1;exact heq_of_eq b2
     ·cases n1
    obtain⟨hlo1,ys',hlo2,hlo3⟩:=zR
    have hrd':AE e' p.2 w' fzB y (fn zs) (yg (.lf i jj)):=by obtain⟨ll,xx⟩:=lo;dsimp only at hlo1 hlo2 zS;subst hlo1;have:=eq_of_heq hlo2;subst this;rw[hlo3];exact zS
    obtain⟨q,hq1,hq2⟩:=n5 w' fzB (yg (.lf i jj)) hrd' {
     nd:=co.nodup _
     new:=λb hb hbo=>by
      rcases(co.own _ b hb).2.2 with yx|⟨k0,hk0⟩
      ·have:=(h.sep.own _ b hbo).2.1;omega
      ·obtain⟨a,ha,hba⟩:=hio k0 b hk0;have:a=.lf c.r c.j:=AAp λyF=>h.sep.A4 a _ yF b hba hbo;subst this;have:=BS hh.nodup ha hk;subst this;have e9:Ak T W.om (.lf i jj)=po:=by simp[Ak,hT,hl]
       rw[<-e9];exact hk0
     rest:=λb hb=>by
      refine co.frame b ?_ λk0 hk0=>?_
      ·rcases hb with hb|hb
       ·exact(h.sep.own _ b hb.1).2.1
       ·exact(h.sep.fz b hb).1
      ·rcases hb with hb|hb
       ·obtain⟨a,ha,hba⟩:=hio k0 b hk0;have:a=.lf c.r c.j:=AAp λyF=>h.sep.A4 a _ yF b hba hb.1;subst this;have:=BS hh.nodup ha hk;subst this;have e9:Ak T W.om (.lf i jj)=po:=by simp[Ak,hT,hl]
        rw[e9]at hk0;exact hb.2 hk0
       ·exact(xv.own k0 b hk0).1 (.inl hb)
     fz:=λb hb=>hup b (yw.up b hb) }
    exact⟨q,_,_,_,t0,e0,xs0,F xs0,d0,hh2,h5',xt,by rw[yw.cv];exact k5,by rw[a6];exact hq1,hq2⟩
 have hq0:∀c,∃q:It,∀k,AQ T c=some k->q.Nodup/\(∀b∈q,b∈yg c\/(b∈W1.om k/\b<W.w.heap.size/\∀c',b∉Ak T W.om c'))/\(∀r,k=.blk r->q=yg c)/\
   (∀i j r,c=.lf i j->T[i]?=some (.box r)->q=if j<(s.root r).ls.length then yg c else [])/\
   (∀i j l cc o,c=.lf i j->T[i]?=some (.row l)->l[j]?=some (some (cc,o))->∃(AB gen:Nat) (t t0:TypeId) (e:Ls) (xs yj:List e.D) (d0:Nat) (u:Value),s.leaf cc.r cc.j=.arr AB gen t e xs d0/\s2.leaf cc.r cc.j=.arr AB v t0 e yj d0/\W1.cv cc.r cc.j=some u/\AE e d0 w' fzB u yj q):=by
  intro c;cases hk:AQ T c with
  |none=>exact⟨[],λk zJ=>by cases zJ⟩
  |some k=>
   cases c with
   |fl n=>cases hk
   |blk i=>
    obtain⟨r,rfl,hT⟩:=BD hk;refine⟨yg (.blk i),λk zJ=>?_⟩;injection zJ with zJ;subst zJ
    exact⟨co.nodup _,λb hb=>.inl hb,λ_ _=>rfl,λ_ _ _ e=>by(cases e),λ_ _ _ _ _ e=>by(cases e)⟩
   |lf i j=>
    rcases BB hk with⟨r,rfl,hT⟩|⟨l,cc,o,rfl,hT,hl⟩
    ·refine⟨if j<(s.root r).ls.length then yg (.lf i j)else [],λk zJ=>?_⟩;injection zJ with zJ;subst zJ
     refine⟨?_,?_,λ_ e=>by(cases e),?_,?_⟩
     ·split
      ·exact co.nodup _
      ·exact AAW
     ·intro b hb;split at hb
      ·exact .inl hb
      ·cases hb
     ·intro i' j' r' e ym;injection e with e1 e2;subst e1;subst e2
      rw[hT]at ym;injection ym with ym;injection ym with ym;subst ym
      rfl
     ·intro i' j' l' cc' o' e ym;injection e with e1 e2;subst e1;subst e2
      rw[hT]at ym;cases ym
    ·obtain⟨q,AB,gen,t,t0,e,xs,yj,d0,u,p1,p2,p3,p4,p5,p6⟩:=hrowT hT hl;refine⟨q,λk zJ=>?_⟩;injection zJ with zJ;subst zJ
     have e9:Ak T W.om (.lf i j)=o:=by simp[Ak,hT,hl]
     refine⟨p5,λb hb=>?_,λ_ e=>by(cases e),?_,?_⟩
     ·rcases p6 b hb with hb|⟨zg,hb2⟩
      ·exact .inl hb
      ·refine .inr ⟨by rw[yw.om _ _ (hh.root hk)];exact zg,(h.sep.own _ b zg).2.1,λc' yk=>?_⟩;obtain⟨a,ha,hba⟩:=hio c' b yk;have:a=.lf cc.r cc.j:=AAp λyF=>h.sep.A4 a _ yF b hba zg;subst this;have:=BS hh.nodup ha hk;subst this;rw[e9]at yk;exact hb2 yk
     ·intro i' j' r' e ym;injection e with e1 e2;subst e1;subst e2
      rw[hT]at ym;cases ym
     ·intro i' j' l' cc' o' e ym zZ;injection e with e1 e2;subst e1;subst e2
      rw[hT]at ym;injection ym with ym;injection ym with ym;subst ym
      rw[hl]at zZ;injection zZ with zZ;injection zZ with zZ;injection zZ with q1 q2;subst q1
      exact⟨AB,gen,t,t0,e,xs,yj,d0,u,p1,p2,p3,p4⟩
 obtain⟨qf,hqf⟩:=Classical.axiomOfChoice hq0
 let chb:Nat->Prop:=λr=>∃i:Nat,T[i]?=some (.box r)
 let chk:Nat->Nat->Prop:=λr j=>∃c,AQ T c=some (.lf r j)
 let newcv:Nat->Nat->Option Value:=λr j=>match w'.heap[W1.bk r]? with
  |some (.cells arr _ _)=>arr[j]?
  |_=>none
 open Classical in
 let W2:Wd:={
  w:=w'
  fz:=fzB
  cv:=λr j=>if chb r then newcv r j else W1.cv r j
  bk:=W1.bk
  om:=Kr T W1.om qf λn=>yg (.fl n) }
 have hW2om:∀k,W2.om k=Kr T W1.om qf (λn=>yg (.fl n)) k:=λ_=>rfl;have hflom:∀k,W2.om (.fl k)=yg (.fl k):=λk=>rfl;have hW2t:∀ {c k},AQ T c=some k->W2.om k=qf c:=λhk=>Mc hh.nodup hk;have hW2n:∀ {k},(∀c,AQ T c≠some k)->(∀n,k≠.fl n)->W2.om k=W1.om k:=λhk hn=>Mb hk hn
 have hsrc:∀k,∀b∈W2.om k,(∃c,(AQ T c=some k\/∃n,k=.fl n/\c=.fl n)/\b∈yg c)\/(b∈W1.om k/\b<W.w.heap.size/\∀c,b∉Ak T W.om c):=by
  intro k b hb;by_cases hk:∃c,AQ T c=some k
  ·obtain⟨c,hk⟩:=hk;rw[hW2t hk]at hb;rcases(hqf c k hk).2.1 b hb with hb|hb
   ·exact .inl ⟨c,.inl hk,hb⟩
   ·exact .inr hb
  ·have hk:∀c,AQ T c≠some k:=λc hc=>hk ⟨c,hc⟩;by_cases hn:∃n,k=.fl n
   ·obtain⟨n,rfl⟩:=hn;exact .inl ⟨.fl n,.inr ⟨n,rfl,rfl⟩,hb⟩
   ·rw[hW2n hk λn e=>hn ⟨n,e⟩]at hb;exact .inr ⟨hb,hfar k hk b hb⟩
 have hnfz:∀c,∀b∈yg c,¬fzB b:=by
  intro c b hb hz;obtain⟨q1,q2,q3⟩:=co.own c b hb;rcases hdown b hz with hz|⟨hz,hseen⟩
  ·obtain⟨p1,p2⟩:=hfz1 b hz;rcases q3 with q3|⟨k0,q3⟩
   ·omega
   ·exact p2 k0 q3
  ·exact q1 hz
 have hnot:∀b,(b<W.w.heap.size/\∀c,b∉Ak T W.om c)->∀c,b∉yg c:=by
  intro b hb c hc;rcases(co.own c b hc).2.2 with q|⟨k0,q⟩
  ·omega
  ·exact hb.2 k0 q
 have zu:Sep E W2:={
  nodup:=by
   intro k;by_cases hk:∃c,AQ T c=some k
   ·obtain⟨c,hk⟩:=hk;rw[hW2t hk];exact(hqf c k hk).1
   ·have hk:∀c,AQ T c≠some k:=λc hc=>hk ⟨c,hc⟩;by_cases hn:∃n,k=.fl n
    ·obtain⟨n,rfl⟩:=hn;exact co.nodup _
    ·rw[hW2n hk λn e=>hn ⟨n,e⟩];exact h1.sep.nodup _
  A4:=by
   intro k k' yF b hb yH;rcases hsrc k b hb with⟨c,hc,hb⟩|⟨hb,hfb⟩
   ·rcases hsrc k' b yH with⟨c',yk,yH⟩|⟨yH,hfb'⟩
    ·refine co.A4 c c' (λe=>yF ?_) b hb yH;subst e;rcases hc with q|⟨n,q1,q2⟩
     ·rcases yk with q'|⟨n',q1',q2'⟩
      ·rw[q]at q';injection q'
      ·subst q2';cases q
     ·rcases yk with q'|⟨n',q1',q2'⟩
      ·subst q2;cases q'
      ·rw[q2]at q2';injection q2' with q2';rw[q1,q1',q2']
    ·exact hnot b hfb' c hb
   ·rcases hsrc k' b yH with⟨c',yk,yH⟩|⟨yH,hfb'⟩
    ·exact hnot b hfb c' yH
    ·exact h1.sep.A4 k k' yF b hb yH
  own:=by
   intro k b hb;rcases hsrc k b hb with⟨c,hc,hb⟩|⟨hb,p1,p2⟩
   ·obtain⟨q1,q2,q3⟩:=co.own c b hb;refine⟨hnfz c b hb,q2,?_⟩;rcases q3 with q3|⟨k0,q3⟩
    ·left;have:=h.sep.size;omega
    ·obtain⟨a,_,ha⟩:=hio k0 b q3;exact(h.sep.own a b ha).2.2
   ·obtain⟨q1,q2,q3⟩:=h1.sep.own k b hb;refine⟨λhz=>?_,AA9 p1 co.size,q3⟩;rcases hdown b hz with hz|⟨hz,hseen⟩
    ·exact q1 hz
    ·rcases(co.fz b hz).2 with h3|h3|⟨k0,h3⟩
     ·exact q1 (hseen h3)
     ·omega
     ·exact p2 k0 h3
  fz:=by
   intro b hb;rcases hdown b hb with hz|⟨hz,hseen⟩
   ·have:=h1.sep.fz b hz;rw[yw.w]at this;exact⟨AA9 this.1 co.size,this.2⟩
   ·obtain⟨q1,q2⟩:=co.fz b hz;refine⟨q1,?_⟩;rcases q2 with q2|q2|⟨k0,q2⟩
    ·rcases q2 with q2|⟨r,hr,j,q2⟩
     ·exact(h.sep.fz b q2).2
     ·exact .inr (h.sep.own _ b q2).2.2
    ·right;left;have:=h.sep.size;omega
    ·obtain⟨a,_,ha⟩:=hio k0 b q2;exact .inr (h.sep.own a b ha).2.2
  frame:=by
   intro b zg hb2;refine(co.frame b ADx λk hk=>?_).trans (h.sep.frame b zg hb2);obtain⟨a,_,ha⟩:=hio k b hk;rcases(h.sep.own a b ha).2.2 with q|q
   ·omega
   ·exact hb2 q
  size:=AA5 h.sep.size co.size
  rest:=⟨co.rest.1.trans h.sep.rest.1,co.rest.2.1.trans h.sep.rest.2.1,co.rest.2.2.trans h.sep.rest.2.2⟩ }
 have hsame12:JR s s2:=⟨yZ.sl.trans yw.same.sl,yZ.len.trans yw.same.len,λx=>⟨(yZ.box x).1.trans (yw.same.box x).1,(yZ.box x).2.1.trans (yw.same.box x).2.1,(yZ.box x).2.2.trans (yw.same.box x).2.2⟩⟩;have hcvu:∀r,¬chb r->∀j,W2.cv r j=W1.cv r j:=λr hr j=>AAT hr;have hcvb:∀r,chb r->∀j,W2.cv r j=newcv r j:=λr hr j=>AAS hr
 have hnb:∀ {i j r j0:Nat} {l:List (Option (Loc×It))} {c:Loc} {o:It},T[i]?=some (.row l)->l[j]?=some (some (c,o))->¬chb c.r:=by
  rintro i j r j0 l c o hT hl ⟨i',ym⟩
  have hii:Key.lf i' c.j=.lf i j:=BS hh.nodup (a:=.lf c.r c.j) (by simp[AQ,ym]) (by simp[AQ,hT,hl]);injection hii with hii;subst hii
  rw[hT]at ym;cases ym
 have hrep2:AW E s2 tm W2:=by
  refine h1.MD hv1 yZ chk chb (λr j hn=>hun r j λc hc=>hn ⟨c,hc⟩) hcvu (λr j ⟨i,hT⟩=>⟨.lf i j,by simp[AQ,hT]⟩) (λ_=>rfl) ?_ ?_ ?_ (λb hb=>hup b hb) ?_ zu ?_ ?_
  ·intro r j hn;exact hW2n (λc hc=>hn ⟨c,hc⟩) λn e=>by cases e
  ·intro r;by_cases hk:∃c,AQ T c=some (.blk r)
   ·obtain⟨c,hk⟩:=hk;rw[hW2t hk,(hqf c _ hk).2.2.1 r rfl];cases c with
    |fl c=>cases hk
    |lf i j=>rcases BB hk with⟨r',e,_⟩|⟨l,c,o,e,_⟩<;>cases e
    |blk i=>
     obtain⟨r',e,hT⟩:=BD hk;injection e with e;subst e
     rw[co.blk,yw.O4];simp[Ak,hT]
   ·exact hW2n (λc hc=>hk ⟨c,hc⟩) λn e=>by cases e
  ·intro b hb
   have:b<W.w.heap.size/\∀k,b∉Ak T W.om k:=by
    rcases hb with hb|⟨r,hr,hb⟩|⟨r,j,hr,hb⟩
    ·exact hfz1 b hb
    ·refine hfar (.blk r) (λc hc=>?_) b hb;cases c with
     |fl c=>cases hc
     |blk i=>obtain⟨r',e,hT⟩:=BD hc;injection e with e;subst e;exact hr ⟨i,hT⟩
     |lf i j=>rcases BB hc with⟨r',e,_⟩|⟨l,c,o,e,_⟩<;>cases e
    ·exact hfar (.lf r j) (λc hc=>hr ⟨c,hc⟩) b hb
   show w'.heap[b]?=_;rw[co.frame b this.1 this.2,yw.w]
  ·intro r j AB gen t e xs d0 hc hl yF;obtain⟨c,hk⟩:=hc;cases c with
   |fl c=>cases hk
   |blk i=>obtain⟨r',e,hT⟩:=BD hk;cases e
   |lf i jj=>
    rcases BB hk with⟨r',e,hT⟩|⟨l,cc,o,e,hT,hlj⟩
    ·injection e with e1 e2;subst e1;subst e2
     obtain⟨ls,vo,arr,T',fr,c1,c2,c3,c4,c5,c6,c7,c8⟩:=hboxT hT;rw[c7]at hl;split at hl
     ·rename_i hj;have hj2:j<vo.length:=J
      rw[Ae,B9 s r v 0 ls vo j ls[j] vo[j] (AAM hj) (AAM hj2),AAd]at hl;rcases Cz (s.leaf r j) v ls[j].2 vo[j]with hq|⟨ver0,gen0,t0,e0,xs0,y0,q1,q2,q3,q4⟩
      ·rw[hq]at hl;exact absurd (Jt hl).1 yF
      ·rw[q4]at hl
       replace hl:LA.arr ver0 v t0 e0 y0 2=.arr AB gen t e xs d0:=hl
       injection hl with f1 f2 f3 f4 f5 f6
       subst f1;subst f2;subst f4;refine⟨?_,gen0,t0,xs0,2,by rw[yw.leaf _ _ (hh.root hk)];exact q2,λhg=>absurd rfl hg⟩;rw[hcvb r ⟨i,hT⟩ j,yw.cv,<-c8 j ls[j] (AAM hj) q1]
       show(match w'.heap[W1.bk r]? with
        |some (.cells arr _ _)=>arr[j]?
        |_=>none)=_
       rw[c3]
     ·cases hl
    ·injection e with e1 e2;subst e1;subst e2
     obtain⟨_,ver0,gen0,t1,t0,e0,xs0,yj,d1,u,c1,c2,c3,c4⟩:=hrowT hT hlj;rw[c2]at hl;injection hl with f1 f2 f3 f4 f5 f6
     subst f1;subst f2;subst f4;exact⟨hcvu _ (hnb hT hlj (r:=0) (j0:=0)) _,gen0,t1,xs0,d1,by rw[yw.leaf _ _ (hh.root hk)];exact c1,λhg=>absurd rfl hg⟩
  ·intro yT r j hc;obtain⟨c,hk⟩:=hc;cases c with
   |fl c=>cases hk
   |blk i=>obtain⟨r',e,hT⟩:=BD hk;cases e
   |lf i jj=>
    rw[hW2t hk];obtain⟨_,_,_,hqb,hqr⟩:=hqf _ _ hk;rcases BB hk with⟨r',e,hT⟩|⟨l,cc,o,e,hT,hlj⟩
    ·injection e with e1 e2;subst e1;subst e2
     obtain⟨ls,vo,arr,T',fr,c1,c2,c3,c4,c5,c6,c7,c8⟩:=hboxT hT;rw[hqb i j r rfl hT,c1]
     have yW:W2.cv r j=arr[j]?:=by
      rw[hcvb r ⟨i,hT⟩ j]
      show(match w'.heap[W1.bk r]? with
       |some (.cells arr _ _)=>arr[j]?
       |_=>none)=_
      rw[c3]
     rw[c7,yW];by_cases hj:j<ls.length
     ·rw[AAS hj,AAS hj];have hj2:j<vo.length:=J
      obtain⟨y,hy,hr⟩:=c6 j ls[j] vo[j] (AAM hj) (AAM hj2);rw[Ae,B9 s r v 0 ls vo j ls[j] vo[j] (AAM hj) (AAM hj2),hy];rcases Cz (s.leaf r (0+j)) v ls[j].2 vo[j]with hq|⟨ver0,gen0,t0,e0,xs0,y0,q1,q2,q3,q4⟩
      ·rw[hq];exact FA hr
      ·rw[q4];refine⟨y,rfl,?_⟩;rw[q1]at hr;generalize vo[j]=lv at q3 hr;subst q3;exact(L.CD (.sl t0 e0)).1 hr
     ·rw[AAT hj,AAT hj];exact⟨rfl,λ_ _=>trivial⟩
    ·injection e with e1 e2;subst e1;subst e2
     obtain⟨ver0,gen0,t1,t0,e0,xs0,yj,d1,u,c1,c2,c3,c4⟩:=hqr i jj l cc o rfl hT hlj;rw[c2,hcvu cc.r (hnb hT hlj (r:=0) (j0:=0)) cc.j];exact⟨u,c3,c4⟩
  ·rintro r ⟨i,hT⟩ hbx
   obtain⟨ls,vo,arr,T',fr,c1,c2,c3,c4,c5,c6,c7,c8⟩:=hboxT hT;refine⟨arr,T',fr,c3,c4,?_,λj=>?_⟩
   ·rw[(yw.same.box r).2.2,c5,c1]
   ·rw[hcvb r ⟨i,hT⟩ j]
    show(match w'.heap[W1.bk r]? with
     |some (.cells arr _ _)=>arr[j]?
     |_=>none)=_
    rw[c3]
 have hv2:Aj s2 v:=by
  refine⟨λt=>?_,λr j=>?_,hv.2.2⟩
  ·have:s2.slot t=s.slot t:=by show nth _ s2.sl t=_;rw[hsame12.sl];rfl
   rw[this];exact hv.1 t
  ·by_cases hc:chk r j
   ·obtain⟨c,hk⟩:=hc;cases c with
    |fl c=>cases hk
    |blk i=>obtain⟨r',e,hT⟩:=BD hk;cases e
    |lf i jj=>
     rcases BB hk with⟨r',e,hT⟩|⟨l,cc,o,e,hT,hlj⟩
     ·injection e with e1 e2;subst e1;subst e2
      obtain⟨ls,vo,arr,T',fr,c1,c2,c3,c4,c5,c6,c7,c8⟩:=hboxT hT;rw[c7];split
      ·rename_i hj;have hj2:j<vo.length:=J
       rw[Ae,B9 s r v 0 ls vo j ls[j] vo[j] (AAM hj) (AAM hj2)];rcases Cz (s.leaf r (0+j)) v ls[j].2 vo[j]with hq|⟨ver0,gen0,t0,e0,xs0,y0,q1,q2,q3,q4⟩
       rotate_left
       ·rw[q4];left;rfl
       rw[hq];generalize vo[j]=lv;obtain⟨l,x⟩:=lv;cases l with
       |sl t e=>cases ls[j].2 with
        |zero=>right;simp[BI,LA.AF]
        |succ m=>left;rfl
       |_=>right;simp[BI,LA.AF]
      ·right;simp[LA.AF]
     ·injection e with e1 e2;subst e1;subst e2
      obtain⟨_,ver0,gen0,t1,t0,e0,xs0,yj,d1,u,c1,c2,c3,c4⟩:=hrowT hT hlj;rw[c2];exact .inl rfl
   ·rw[hun r j λc yk=>hc ⟨c,yk⟩];exact hv1.2.1 r j
 have hown':∀(k:Nat)(b:LA),own[k]?=some b->∃y,ys[k]?=some y/\FI w' fzB v b y (yg (.fl k)):=λk b hk=>by have:=hown k b hk;rwa[AAd]at this
 let oj:Nat->It:=λk=>if k<own.length then yg (.fl k)else []
 have hoj:∀k,∀b∈oj k,b∈yg (.fl k):=by
  intro k b hb;have hb:b∈(if k<own.length then yg (.fl k)else []):=hb;split at hb
  ·exact hb
  ·cases hb
 generalize hav:KZ bs=av;refine⟨AL W2 w' [] d (λk=>ys[k]?) 0 [] oj,rfl,?_⟩;refine hrep2.KT hv2 (us:=[]) hd (x:=⟨false,v,own⟩) (a:=av) (u:=r) (w':=w') (cvd:=λk=>ys[k]?) (bkd:=0) (ob:=[]) (oj:=oj) rfl ?_ (λ_ _=>rfl) (λb h1 h2=>rfl) (AAi _) ⟨rfl,rfl,rfl⟩ AAW ?_ (λ_ _ hb=>by cases hb) ?_ ?_ ?_ ?_
 ·intro j AB gen t e xs dd hl;rw[Ae]at hl;cases hq:own[j]? with
  |none=>rw[hq]at hl;cases hl
  |some b=>
   rw[hq]at hl;obtain⟨y,_,ho⟩:=hown' j b hq;have hl:b=.arr AB gen t e xs dd:=hl;subst hl;exact ho.1
 ·intro j;show(if j<own.length then yg (.fl j)else []).Nodup;split
  ·exact co.nodup _
  ·exact AAW
 ·intro i j hij b hb yH;exact co.A4 (.fl i) (.fl j) (λe=>hij (by injection e)) b (hoj i b hb) (hoj j b yH)
 ·intro b hb;rcases hb with hb|⟨j,hb⟩
  ·cases hb
  ·exact .inl ⟨.fl j,λhk=>hk,by rw[hflom];exact hoj j b hb⟩
 ·intro yT ya;refine⟨λj=>?_,?_⟩
  ·have e1:(AL W2 w' [] d (λk=>ys[k]?) 0 [] oj).cv d j=ys[j]?:=by simp[AL]
   have e2:(AL W2 w' [] d (λk=>ys[k]?) 0 [] oj).om (.lf d j)=oj j:=by simp[AL]
   rw[e1,e2];show Aa _ _ (nth LA.bad own j) _ _;rw[Ae];cases hq:own[j]? with
   |none=>
    have hj:¬j<own.length:=by have:=List.getElem?_eq_none_iff.1 hq;omega
    have:oj j=[]:=AAT hj;rw[this];exact⟨rfl,λ_ _=>trivial⟩
   |some b=>
    have hj:j<own.length:=(AAO.1 hq).1;have:oj j=yg (.fl j):=AAS hj;rw[this];obtain⟨y,hy,ho⟩:=hown' j b hq;show Aa _ _ b _ _;rw[hy];cases b with
    |arr AB gen t e xs m=>exact⟨y,rfl,ho.2.2⟩
    |bad=>exact⟨ho,λ_ _=>trivial⟩
    |_=>exact ho.elim
  ·show(if false=true then _ else _);rw[AAT so];simp[AL]
 ·intro yT ya
  have hvk:=hvok (s2.app (gone []++[.root d ⟨false,v,own⟩,.slot d av])) (AL W2 w' [] d (λk=>ys[k]?) 0 [] oj) rfl rfl (λk hk=>by
   rw[AAd];refine⟨?_,by simp[AL]⟩;unfold St.leaf;rw[ya])
  rw[co.res];generalize s2.app (gone []++[.root d ⟨false,v,own⟩,.slot d av])=s3 at hvk;generalize AL W2 w' [] d (λk=>ys[k]?) 0 [] oj=W3 at hvk;rw[<-hav]
  have htup:∀ {bs:List (Bool×List LA)} {rv:ADc},bs.length=rv.length->(∀(i:Nat)(p:Bool×List LA)(u:Value),bs[i]?=some p->rv[i]?=some u->Ez s3 W3 p.1 p.2 u)->BQ s3 W3 (.Db bs) (.tuple rv.toArray):=by
   intro bs rv hl hh;refine⟨rv.toArray,rfl,by simp[hl],λj p hj=>?_⟩;have xz:j<rv.length:=by rw[<-hl];exact(AAO.1 hj).1
   exact⟨rv[j],by simp[xz],hh j p rv[j] hj (AAM xz)⟩
  match bs,rv,hbl,hvk with
  | [],[],hbl,hvk=>exact htup hbl hvk
  | [(g',as)],[u],hbl,hvk=>exact hvk 0 (g',as) u rfl rfl
  |p::q::bs,u::u'::rv,hbl,hvk=>exact htup hbl hvk
end
end Go.Ev
namespace Go.Ev
section
variable {P:Program}{E:Ci}{s:St}{W:Wd}{tm:Array Value}{v:Nat}
def Ff(W:Wd)(w':World)(xy:Nat->Prop)(b0:Nat):Wd:=
 { W with w:=w',fz:=λx=>W.fz x\/xy x,om:=λk=>match k with
   | .fl n=>if n=0 then [b0]else []
   |k=>W.om k }
theorem AW.OM(h:AW E s tm W)(hv:Aj s v){b0:Nat}{w':World}{xy:Nat->Prop}
  (hold:∀b,b<W.w.heap.size->w'.heap[b]?=W.w.heap[b]?) (yt:W.w.heap.size<=w'.heap.size) (yO:w'.os=W.w.os/\w'.tape=W.w.tape/\w'.output=W.w.output)
  (zi:∀x,xy x->x<w'.heap.size/\(W.fz x\/W.w.heap.size<=x)) (hb:W.w.heap.size<=b0/\b0<w'.heap.size/\¬xy b0):AW E s tm (Ff W w' xy b0):=by
 have hs:=h.sep
 have hmem:∀k b,b∈(Ff W w' xy b0).om k->(b∈W.om k/\∀n,k≠.fl n)\/(k=.fl 0/\b=b0):=by
  intro k b hk;cases k with
  |fl n=>
   have hk:b∈(if n=0 then [b0]else([]:It)):=hk;by_cases hn:n=0
   ·rw[AAS hn]at hk;exact .inr ⟨by rw[hn],ABM.1 hk⟩
   ·rw[AAT hn]at hk;cases hk
  |blk r=>exact .inl ⟨hk,so⟩
  |lf r j=>exact .inl ⟨hk,so⟩
 have yT:Eh v s s W (Ff W w' xy b0):={
  fz:=λb hb=>.inl hb
  Lf:=λb hb=>hold b (hs.fz b hb).1
  leaf:=λr j AB gen t e xs dd hl yF=>⟨rfl,gen,t,xs,dd,hl,λ_=>⟨rfl,λp h' e' u yk hn=>by
   obtain⟨u0,zN,yD⟩:=(h.roots r).row hl;rw[yk]at zN;injection zN with zN;subst zN
   exact BN p yD hn λb hb=>hold b (hb.elim (λhb=>(hs.own _ b hb).2.1) λhb=>(hs.fz b hb).1)⟩⟩
  box:=λr hb yF=>⟨hb,rfl,rfl⟩ }
 refine h.IG hv yT ?_ h.DT h.Bb (λt=>.inl ⟨rfl,rfl⟩) λr=>?_
 ·exact {
   nodup:=λk=>by
    cases k with
    |fl n=>
     show(if n=0 then [b0]else([]:It)).Nodup;split<;>simp
    |blk r=>exact hs.nodup (.blk r)
    |lf r j=>exact hs.nodup (.lf r j)
   A4:=λk k' yF b h1 h2=>by
    rcases hmem k b h1 with⟨h1,n1⟩|⟨rfl,rfl⟩<;>rcases hmem k' b h2 with⟨h2,n2⟩|⟨rfl,h2⟩
    ·exact hs.A4 k k' yF b h1 h2
    ·have:=(hs.own k b h1).2.1;omega
    ·have:=(hs.own k' _ h2).2.1;omega
    ·exact yF rfl
   own:=λk b h1=>by
    rcases hmem k b h1 with⟨h1,_⟩|⟨rfl,rfl⟩
    ·obtain⟨a1,a2,a3⟩:=hs.own k b h1;refine⟨λhz=>hz.elim a1 λhz=>?_,AA9 a2 yt,a3⟩;rcases(zi b hz).2 with h|h
     ·exact a1 h
     ·omega
    ·refine⟨λhz=>hz.elim (λhz=>?_) hb.2.2,hb.2.1,.inl (AA5 hs.size hb.1)⟩;have:=(hs.fz _ hz).1;omega
   fz:=λb hz=>by
    rcases hz with hz|hz
    ·obtain⟨a1,a2⟩:=hs.fz b hz;exact⟨AA9 a1 yt,a2⟩
    ·obtain⟨a1,a2⟩:=zi b hz;refine⟨a1,a2.elim (λh=>(hs.fz b h).2) λh=>.inr (.inl (AA5 hs.size h))⟩
   frame:=λb h1 h2=>(hold b (AA9 h1 hs.size)).trans (hs.frame b h1 h2)
   size:=AA5 hs.size yt
   rest:=⟨yO.1.trans hs.rest.1,yO.2.1.trans hs.rest.2.1,yO.2.2.trans hs.rest.2.2⟩ }
 ·obtain⟨h1,h2⟩:=h.roots r;refine⟨λj=>?_,?_⟩
  ·exact Aa.Dh yT (by have:=hv.2.1 r j;exact this) (λb hb=>hold b (hs.own _ b hb).2.1) (h1 j)
  ·show(if(s.root r).box=true then _ else _);split
   ·rename_i hb;rw[AAS hb]at h2;obtain⟨ho',zO,T',fr',hh',a1,a2,a3⟩:=h2;refine⟨ho',zO,T',fr',(hold _ ?_).trans hh',a1,a2,a3⟩;exact(AA2.1 hh').1
   ·rename_i hb;rw[AAT hb]at h2;exact h2
theorem AW.LN(h:AW E s tm W)(hv:Aj s v){d:Nat}(hd:d<tm.size){bs:List LA}{cs:Array Value}{T:TypeId}{fr:Nat×Nat}{b0:Nat}{w':World}{xy:Nat->Prop}
  (hold:∀b,b<W.w.heap.size->w'.heap[b]?=W.w.heap[b]?) (yt:W.w.heap.size<=w'.heap.size) (yO:w'.os=W.w.os/\w'.tape=W.w.tape/\w'.output=W.w.output)
  (zi:∀x,xy x->x<w'.heap.size/\(W.fz x\/W.w.heap.size<=x)) (hb:W.w.heap.size<=b0/\b0<w'.heap.size/\¬xy b0) (yV:w'.heap[b0]?=some (.cells cs T fr)) (yw:∀j,j<cs.size->¬(fr.1<=j/\j<fr.2)) (hlen:cs.size=bs.length)
  (zr:∀(j:Nat)(b:LA),bs[j]?=some b->∃(l:L) (x:l.D) (y:Value),b=.sc l x/\cs[j]?=some y/\l.rd 0 w' xy y x []):
  ∃W',W'.w=w'/\AW E (s.app (F6 d v bs)) (tm.setIfInBounds d (.pointer (some ⟨b0,0,none⟩))) W':=by
 have h1:=h.OM hv hold yt yO zi hb
 have hsc:∀j,(∃(l:L) (x:l.D) (y:Value),nth .bad bs j=.sc l x/\cs[j]?=some y/\l.rd 0 w' xy y x [])\/nth .bad bs j=.bad:=by
  intro j;rcases AAu j bs.length with hj|hj
  ·left;have:=zr j bs[j] (AAM hj);rw[Ae,AAM hj];exact this
  ·right;exact Au _ hj
 refine⟨AL (Ff W w' xy b0) w' [] d (λj=>cs[j]?) b0 [b0] (λ_=>[]),rfl,?_⟩;refine h1.KT (us:=[]) hv hd (x:=⟨true,v,bs⟩) (a:=one (.ptr d 0 v)) rfl ?_ (λb _=>rfl) (λb _ _=>rfl) (AAi _) ⟨rfl,rfl,rfl⟩ (AAf.2 ⟨so,AAW⟩) (λ_=>AAW) (λ_ _ _ hb=>by cases hb) (λ_ _ _ _ hb=>by cases hb) ?_ ?_ ?_
 ·intro j AB gen t e xs dd hl;dsimp only at hl;rcases hsc j with⟨l,x,y,h1,_⟩|h1<;>rw[h1]at hl<;>cases hl
 ·intro b hb;rcases hb with hb|⟨j,hb⟩
  ·simp at hb;subst hb;exact .inl ⟨.fl 0,id,by simp[Ff]⟩
  ·cases hb
 ·intro _ _;refine⟨λj=>?_,?_⟩
  ·have e1:(AL (Ff W w' xy b0) w' [] d (λj=>cs[j]?) b0 [b0] (λ_=>[])).cv d j=cs[j]?:=by simp[AL]
   have e2:(AL (Ff W w' xy b0) w' [] d (λj=>cs[j]?) b0 [b0] (λ_=>[])).om (.lf d j)=[]:=by simp[AL]
   rw[e1,e2];show Aa _ _ (nth LA.bad bs j) _ _;rcases hsc j with⟨l,x,y,h1,h2,h3⟩|h1
   ·rw[h1];refine⟨rfl,λu hu=>?_⟩;rw[h2]at hu;injection hu with hu;subst hu
    exact L.AN l h3 (λb _=>rfl) (λb hb=>.inr hb)
   ·rw[h1];exact⟨rfl,λ_ _=>trivial⟩
  ·show(if true=true then _ else _);rw[AAS rfl];have hbk:(AL (Ff W w' xy b0) w' [] d (λj=>cs[j]?) b0 [b0] (λ_=>[])).bk d=b0:=by simp[AL]
   refine⟨by simp[AL],cs,T,fr,?_,yw,hlen,λj=>by simp[AL]⟩;rw[hbk];exact yV
 ·intro _ _;intro _ _;have hbk:(AL (Ff W w' xy b0) w' [] d (λj=>cs[j]?) b0 [b0] (λ_=>[])).bk d=b0:=by simp[AL]
  rw[hbk]
end
end Go.Ev
namespace Go.Ev
open Go.Sort (Holds insertionSort)
section
variable {α β:Type}[Inhabited α][Inhabited β]
theorem swp_size(d:Array α)(i j:Nat):(Go.Sort.swp d i j).size=d.size:=by simp[Go.Sort.swp]
theorem get_map(f:α->β)(d:Array α)(i:Nat)(hi:i<d.size):(d.map f)[i]! = f d[i]! := by
 grind
theorem NG(f:α->β)(d:Array α)(i j:Nat)(hi:i<d.size)(hj:j<d.size):Go.Sort.swp (d.map f) i j=(Go.Sort.swp d i j).map f:=by unfold Go.Sort.swp;grind
theorem FX(f:α->β)(lt:α->α->Bool)(lt':β->β->Bool)(h:∀x y,lt' (f x) (f y)=lt x y)(a:Nat):∀(j:Nat)(d:Array α),j<d.size->Go.Sort.insInner lt' a j (d.map f)=(Go.Sort.insInner lt a j d).map f/\(Go.Sort.insInner lt a j d).size=d.size
 |0,d,_=>⟨rfl,rfl⟩
 |j+1,d,hj=>by
  simp only[Go.Sort.insInner];rw[get_map f d (j+1) hj,get_map f d j J,h];split
  ·rw[NG f d (j+1) j hj J];obtain⟨e1,e2⟩:=FX f lt lt' h a j (Go.Sort.swp d (j+1) j) (by rw[swp_size];omega);exact⟨e1,e2.trans (swp_size _ _ _)⟩
  grind
theorem GU(lt:α->α->Bool)(a b i:Nat)(d:Array α)(h:i<b):Go.Sort.insOuter lt a b i d=Go.Sort.insOuter lt a b (i+1) (Go.Sort.insInner lt a i d):=by rw[Go.Sort.insOuter,AAS h]
theorem DC(lt:α->α->Bool)(a b i:Nat)(d:Array α)(h:¬i<b):Go.Sort.insOuter lt a b i d=d:=by rw[Go.Sort.insOuter,AAT h]
theorem FY(f:α->β)(lt:α->α->Bool)(lt':β->β->Bool)(h:∀x y,lt' (f x) (f y)=lt x y)(a b:Nat):∀(n i:Nat)(d:Array α),b-i<=n->b<=d.size->Go.Sort.insOuter lt' a b i (d.map f)=(Go.Sort.insOuter lt a b i d).map f/\(Go.Sort.insOuter lt a b i d).size=d.size
 |0,i,d,hn,hb=>by rw[DC lt' a b i _ J,DC lt a b i _ J];grind
 |n+1,i,d,hn,hb=>by
  by_cases hi:i<b
  ·rw[GU lt' a b i _ hi,GU lt a b i _ hi];obtain⟨e1,e2⟩:=FX f lt lt' h a i d J;rw[e1];obtain⟨e3,e4⟩:=FY f lt lt' h a b n (i+1) (Go.Sort.insInner lt a i d) J (by rw[e2];exact hb);grind
  ·rw[DC lt' a b i _ hi,DC lt a b i _ hi];grind
theorem FZ(f:α->β)(lt:α->α->Bool)(lt':β->β->Bool)(h:∀x y,lt' (f x) (f y)=lt x y)(d:Array α)(b:Nat)(hb:b<=d.size):insertionSort lt' (d.map f) 0 b=(insertionSort lt d 0 b).map f/\(insertionSort lt d 0 b).size=d.size:=
 FY f lt lt' h 0 b b 1 d J hb
theorem Jz(enc:α->Value)(w:World)(blk off:Nat)(d:Array α){arr:Array Value}{T:TypeId}{fr:Nat×Nat}(h:w.heap[blk]?=some (.cells arr T fr)):(Go.Sort.putRow enc w blk off d).heap[blk]?=some (.cells (Go.Sort.putCells enc off d arr) T fr):=by simp[Go.Sort.putRow,Go.Sort.mapBlock,Array.getElem?_modify,h,Go.Sort.onCells]
theorem Ga(enc:α->Value)(w:World)(blk off:Nat)(d:Array α){b:Nat}(h:b≠blk):(Go.Sort.putRow enc w blk off d).heap[b]?=w.heap[b]?:=by simp[Go.Sort.putRow,Go.Sort.mapBlock,Array.getElem?_modify,Ne.symm h]
end
section
variable {P:Program}{E:Ci}{s:St}{W:Wd}{o:Oper}{a:Act}{ws:List Wr}{cx:Cx}{v:Nat}{tm:Array Value}
def KC(W:Wd)(r:Nat)(b:Nat):Prop:=W.fz b\/∃k,(∀j,k≠.lf r j)/\b∈W.om k
theorem GD.frame{w w':World}{fz:Nat->Prop}{ls:List L}{u:Value}{vs:List Lv}(h:GD w fz ls u vs)(hf:∀b,fz b->w'.heap[b]?=w.heap[b]?):GD w' fz ls u vs:=by
 obtain⟨b,arr,T,fr,hu,hz,hh,hs,hm,hr⟩:=h;exact⟨b,arr,T,fr,hu,hz,(hf b hz).trans hh,hs,hm,λj lv hj=>let ⟨y,hy,hl⟩:=hr j lv hj;⟨y,hy,L.AN lv.l hl (λb hb=>hf b (hb.elim (λhb=>by cases hb) id)) λ_ hb=>hb⟩⟩
theorem Dk.frame{w w':World}{fz:Nat->Prop}(hf:∀b,fz b->w'.heap[b]?=w.heap[b]?):∀ {bs:List (List L)} {us:ADc} {vs:List Lv},Dk w fz bs us vs->Dk w' fz bs us vs
 | [],[],vs,h=>h
 |ls::bs,u::us,vs,h=>by obtain⟨x,y,e,h1,h2⟩:=h;exact⟨x,y,e,h1.frame hf,Dk.frame hf h2⟩
 | [],_::_,vs,h=>h.elim
 |_::_,[],vs,h=>h.elim
theorem Kc.frame{w w':World}{fz:Nat->Prop}{rv:Value}(hf:∀b,fz b->w'.heap[b]?=w.heap[b]?){c:KB}{u:Value}{vs:List Lv}(h:Kc w fz rv c u vs):Kc w' fz rv c u vs:=by
 cases c with
 |box ls=>exact GD.frame h hf
 |D4 g bs=>
  obtain⟨b,T,fr,lb,hu,hz,hh,hb⟩:=h;exact⟨b,T,fr,lb,hu,hz,(hf b hz).trans hh,hb.frame hf⟩
 |row=>
  obtain⟨e,b,T,fr,hu,hz,hh⟩:=h;exact⟨e,b,T,fr,hu,hz,(hf b hz).trans hh⟩
theorem D5.frame{w w':World}{fz:Nat->Prop}{rv:Value}(hf:∀b,fz b->w'.heap[b]?=w.heap[b]?):∀ {cs:List KB} {us:ADc} {vs:List Lv},D5 w fz rv cs us vs->D5 w' fz rv cs us vs
 | [],[],vs,h=>h
 |c::cs,u::us,vs,h=>by obtain⟨x,y,e,h1,h2⟩:=h;exact⟨x,y,e,h1.frame hf,D5.frame hf h2⟩
 | [],_::_,vs,h=>h.elim
 |_::_,[],vs,h=>h.elim
def JL(s:St)(W:Wd)(ps:List (Nat×Nat))(bs:It):Prop:=bs.length=ps.length/\∀(k:Nat)(p:Nat×Nat)(b:Nat),ps[k]?=some p->bs[k]?=some b->(s.root p.1).box=true->(s.root p.1).AB=p.2->b=W.bk p.1
theorem JL.cons{p:Nat×Nat}{ps:List (Nat×Nat)}{bs:It}(h:JL s W (p::ps) bs):∃b bs',bs=b::bs'/\((s.root p.1).box=true->(s.root p.1).AB=p.2->b=W.bk p.1)/\JL s W ps bs':=by
 obtain⟨h1,h2⟩:=h
 match bs,h1 with
 |b::bs,h1=>exact⟨b,bs,rfl,h2 0 p b rfl rfl,No,λk q c hq hc=>h2 (k+1) q c No No⟩
theorem JL.nil{bs:It}(h:JL s W [] bs):bs=[]:=AAU h.1
def NA(b:Nat):Value:=.pointer (some ⟨b,0,none⟩)
theorem Nb(h:AW E s tm W){not r:Nat}{ls:List L}(hb:(s.root r).box=true)(yF:r≠not)(hlen:(s.root r).ls.length=ls.length)(hlf:(s.root r).ls.all NR=true){β:Type}{z:β}{k:List Lv->Step β}(hl:(s.data ls (A5 r 0 (s.root r).ls) k).leads z):
  ∃x,(k x).leads z/\GD W.w (KC W not) ls (NA (W.bk r)) x:=by
 obtain⟨_,yc⟩:=h.roots r;rw[AAS hb]at yc;obtain⟨hob,arr,T,fr,hh,yJ,yP,yW⟩:=yc
 obtain⟨vs,hl,zE,hvm,hvs⟩:=FR h (g:=λj=>arr[j]?) (λj b hj=>by
  rw[Ck]at hj;cases hq:(s.root r).ls[j]? with
  |none=>grind
  |some y=>
   rw[hq]at hj;injection hj with hj
   have xz:j<(s.root r).ls.length:=(AAO.1 hq).1;have xt:s.leaf r j=y:=by unfold St.leaf;rw[Ae,hq];rfl
   have yV:W.cv r j=some (arr[j]'(by omega)):=by rw[yW];exact AAk _
   refine⟨arr[j]'(by omega),AAk _,?_⟩;rw[<-hj,AAd];exact Kp h xt yV) hl
 refine⟨vs,hl,W.bk r,arr,T,fr,rfl,.inr ⟨.blk r,(λj e=>by cases e),No⟩,hh,J,hvm,λj lv hj=>?_⟩;obtain⟨u,hu,hr⟩:=hvs j lv hj;refine⟨u,hu,L.AN lv.l hr (λ_ _=>rfl) λb hb=>?_⟩;rcases hb with hb|⟨r',yi,j',hb⟩
 ·exact .inl hb
 ·refine .inr ⟨.lf r' j',λj e=>?_,hb⟩;injection e with e1 e2
  have:r'=r:=by
   obtain⟨y,hy,hy'⟩:=AAP.1 yi;obtain⟨i,hi⟩:=AAv hy;rw[Ck]at hi;cases hq:(s.root r).ls[i]? with
   |none=>rw[hq]at hi;cases hi
   |some y0=>
    rw[hq]at hi;injection hi with hi
    subst hi;have:=AAZ.1 hlf y0 (AAR hq);cases y0 with
    |arr=>simpa[seen,LA.roots]using hy'
    |sc=>simp[seen,LA.roots]at hy'
    |_=>cases this
  omega
theorem G9(h:AW E s tm W){not:Nat}{β:Type}{z:β}:∀ {bs:List (List L)} {ps:List (Nat×Nat)} {ks:It} {k:List Lv->Step β},JL s W ps ks->(C9 s not bs ps k).leads z->∃x,(k x).leads z/\Dk W.w (KC W not) bs (ks.map NA) x
 | [],[],ks,k,hk,hl=>by rw[hk.nil];exact⟨[],hl,rfl⟩
 |ls::bs,(r,AB)::ps,ks,k,hk,hl=>by
  obtain⟨b,ks',rfl,hb0,zJ⟩:=hk.cons;simp only[C9]at hl;split at hl
  ·rename_i hc;simp only[AAN,AAX,bne_iff_ne,ne_eq]at hc;obtain⟨⟨⟨⟨hb,yB⟩,yF⟩,hlen⟩,zA⟩:=hc;obtain⟨x,hl,hx⟩:=Nb h hb yF hlen zA hl;obtain⟨y,hl,hy⟩:=G9 h zJ hl;have e:b=W.bk r:=hb0 hb yB;exact⟨_,hl,x,y,rfl,No,hy⟩
  ·exact hl.elim
 | [],_::_,ks,k,hk,hl=>hl.elim
 |_::_,[],ks,k,hk,hl=>hl.elim
theorem Gk(h:AW E s tm W){c:Loc}{qs:List (Nat×Nat)}{rv:Value}(hrv:W.cv c.r c.j=some rv){β:Type}{z:β}:∀ {cs:List KB} {ps:List (Nat×Nat)} {ks:It} {k:List Lv->Step β},JL s W ps ks->(Bi s c qs cs ps k).leads z->∃x,(k x).leads z/\D5 W.w (KC W c.r) rv cs (ks.map NA) x
 | [],[],ks,k,hk,hl=>by rw[hk.nil];exact⟨[],hl,rfl⟩
 | .box ls::cs,p::ps,ks,k,hk,hl=>by
  obtain⟨b,ks',rfl,hb0,zJ⟩:=hk.cons;simp only[Bi]at hl
  have hk1:JL s W [p] [b]:=⟨rfl,λi q d hq hd=>by
   grind⟩
  obtain⟨x,hl,hx⟩:=G9 h hk1 hl;obtain⟨y,hl,hy⟩:=Gk h hrv zJ hl;obtain⟨x1,x2,e,h1,h2⟩:=hx;have e2:x2=[]:=h2;subst e2;exact⟨_,hl,x,y,rfl,by rw[e,AA4];exact h1,hy⟩
 | .D4 g bs::cs,(r,AB)::ps,ks,k,hk,hl=>by
  obtain⟨b,ks',rfl,hb0,zJ⟩:=hk.cons;simp only[Bi]at hl;split at hl
  ·rename_i g' ps' qs' zd;split at hl
   ·rename_i hc;simp only[AAN,AAX,bne_iff_ne,ne_eq]at hc;obtain⟨⟨⟨⟨hb,yB⟩,yF⟩,hg⟩,zA⟩:=hc;subst hg;obtain⟨hlf,yc⟩:=h.roots r;rw[AAS hb]at yc;obtain⟨hob,arr,T,fr,hh,yJ,yP,yW⟩:=yc;rw[zd]at yP;have yP:arr.size=1:=yP
    obtain⟨u,hu⟩:∃u,arr = #[u]:=by
     match arr,yP with
     |⟨[u]⟩,_=>grind
    have zQ:=hlf 0;rw[zd]at zQ;have zQ:[]=W.om (.lf r 0)\/True:=.inr trivial;have zx:=hlf 0;rw[zd]at zx;have hclo:AT s W (.D4 g ps' qs') u:=zx.2 u No;obtain⟨ks2,hv2,hlen2,hk2⟩:=hclo;obtain⟨x,hl,hx⟩:=G9 h (ks:=ks2) ⟨hlen2,hk2⟩ hl;obtain⟨y,hl,hy⟩:=Gk h hrv zJ hl;have e:b=W.bk r:=hb0 hb yB;refine⟨_,hl,x,y,rfl,?_,hy⟩;refine⟨W.bk r,T,fr,_,by rw[e];rfl,.inr ⟨.blk r,(λj e=>by cases e),No⟩,?_,hx⟩;rw[hh,hu,hv2];rfl
   ·exact hl.elim
  ·exact hl.elim
 | .row::cs,(r,AB)::ps,ks,k,hk,hl=>by
  obtain⟨b,ks',rfl,hb0,zJ⟩:=hk.cons;simp only[Bi]at hl;split at hl
  ·rename_i hc;simp only[AAN,AAX]at hc;obtain⟨⟨⟨⟨hb,yB⟩,hr⟩,hj⟩,hlen⟩:=hc;obtain⟨y,hl,hy⟩:=Gk h hrv zJ hl;obtain⟨hlf,yc⟩:=h.roots r;rw[AAS hb]at yc;obtain⟨hob,arr,T,fr,hh,yJ,yP,yW⟩:=yc
   obtain⟨u,hu⟩:∃u,arr = #[u]:=by
    have yP:arr.size=1:=by rw[yP,hlen]
    match arr,yP with
    |⟨[u]⟩,_=>exact⟨u,rfl⟩
   have hrv':=hrv;rw[<-hr,hj,yW,hu]at hrv';have hurv:u=rv:=by simpa using hrv'
   have e:b=W.bk r:=hb0 hb yB;refine⟨_,hl,[],y,rfl,⟨rfl,W.bk r,T,fr,by rw[e];rfl,.inr ⟨.blk r,(λj e=>by cases e),by rw[hob];simp⟩,?_⟩,hy⟩;grind
  ·exact hl.elim
 | [],_::_,ks,k,hk,hl=>hl.elim
 | .box _::_,[],ks,k,hk,hl=>hl.elim
 | .D4 _ _::_,[],ks,k,hk,hl=>hl.elim
 | .row::_,[],ks,k,hk,hl=>hl.elim
theorem F5(hc:Di P cx)(h:AW E s a.tmps W){t:TypeId}{x:Operand}(ho:o.op=.makeInterface t x)(hl:(AA cx v o s).leads ws):BU P E o a W.w (s.app ws):=by
 simp only[AA,ho]at hl;have h1:=Ad h x;split at hl
 ·rename_i ty c ht hx;split at hl
  ·exact hl.elim
  ·rename_i z8;split at hl
   ·rename_i t' e zd;rw[AK hl];rw[hx]at h1;have yz:P.underlying t=some (.slice t'):=(CQ hc ht zd No:GF P t (.sl t' e)).1;refine AP h (u:=.iface t (a.eval x)) ?_ (show AT s W (.I0 t c) _ from⟨_,rfl,h1⟩);simp[execOp,ho,Instr.makeInterface,run_underlying yz]
   ·exact hl.elim
 ·exact hl.elim
theorem Kk(h:AW E s a.tmps W):∀ {xs:List Operand} {ps:List (Nat×Nat)},DU s (xs.map s.As)=some ps->xs.map a.eval=(ps.map λp=>W.bk p.1).map (λb=>Value.pointer (some ⟨b,0,none⟩))
 | [],ps,hp=>by simp only[List.map_nil,DU,Option.some.injEq]at hp;subst hp;rfl
 |x::xs,ps,hp=>by
  have hx:=BK h x;rw[ABI]at hp;unfold DU at hp;split at hp
  ·grind
  ·rename_i r AB vs e;injection e with e1 e2
   split at hp
   ·rename_i hc;simp only[AAN,AAX]at hc;split at hp
    ·rename_i ps' hps';injection hp with hp
     subst hp;rw[<-e2]at hps';have ih:=Kk h hps';rw[e1]at hx;have hx:a.eval x=.pointer (some ⟨W.bk r,0,none⟩):=hx hc.1 hc.2;grind
    ·cases hp
   ·cases hp
  ·cases hp
theorem Jv(h:AW E s a.tmps W){fn:Fn}{xs ys:Array Operand}(ho:o.op=.makeFunc fn xs ys)(hl:(AA cx v o s).leads ws):BU P E o a W.w (s.app ws):=by
 cases fn with
 |func g=>
  simp only[AA,ho]at hl;split at hl
  ·rename_i yP;split at hl
   ·rename_i ps hps;rw[AK hl];have hp:=Kk h hps;have hx0:xs = #[]:=Array.size_eq_zero_iff.1 (by simpa using yP);refine AP h (u:=.func (.func g) #[] (ys.map a.eval)) ?_ (show AT s W (.D4 g ps (behind s ps)) _ from⟨ps.map λp=>W.bk p.1,?_,so,λk p b hk hb _ _=>?_⟩)
    ·simp[execOp,ho,Instr.makeFunc,hx0]
    ·rw[<-hp,<-ABR,ABJ]
    grind
   ·exact hl.elim
  ·exact hl.elim
 |_=>simp only[AA,ho]at hl;exact hl.elim
theorem Me{l:List Operand}{f:Operand->AV}{p q:AV}(h:l.map f=[p,q]):∃x y,l=[x,y]/\f x=p/\f y=q:=by
 match l,h with
 | [x,y],h=>grind
theorem LV(h:AW E s a.tmps W)(hv:Aj s v){fid g:FuncId}{σ:N1}(hso:Ll P fid g σ){cl:Loc}{gen:Nat}{t0:TypeId}{xs zs:By}{ks:It}{vs:List Lv}{u:Value}{y:(Ek (σ.Iw.flatMap KB.kinds)).D}
  (xt:s.leaf cl.r cl.j=.arr cl.AB gen t0 (.one (.int .i64)) xs 2) (yW:W.cv cl.r cl.j=some u) (yD:AE (.one (.int .i64)) 2 W.w W.fz u xs (W.om (.lf cl.r cl.j))) (hcaps:D5 W.w (KC W cl.r) u σ.Iw (ks.map NA) vs) (hy:pack (Ek (σ.Iw.flatMap KB.kinds)) vs=some y)
  (hzs:Ma (σ.lt y) xs=some zs):Calls P fid #[.iface σ.t u,.func (.func g) #[] (ks.map λb=>Value.pointer (some ⟨b,0,none⟩)).toArray] W.w λen w'=>en=.returned (.tuple #[])/\
   ∃W1:Wd,W1.w=w'/\AW E (s.app [.leaf cl.r cl.j (.arr cl.AB v t0 (.one (.int .i64)) zs 2)]) a.tmps W1:=by
 have yv:∀b,KC W cl.r b->b∉W.om (.lf cl.r cl.j):=by
  intro b hb xv;rcases hb with hb|⟨k,hk,hb⟩
  ·exact(h.sep.own _ b xv).1 hb
  ·exact h.sep.A4 k _ (hk _) b hb xv
 have helt:∀b,KC W cl.r b->b<W.w.heap.size:=by
  intro b hb;rcases hb with hb|⟨k,hk,hb⟩
  ·exact(h.sep.fz b hb).1
  ·exact(h.sep.own _ b hb).2.1
 have NJ:xs.length<=1->Calls P fid #[.iface σ.t u,.func (.func g) #[] (ks.map λb=>Value.pointer (some ⟨b,0,none⟩)).toArray] W.w (λen w'=>en=.returned (.tuple #[])/\∃os,w'=Go.Sort.grow W.w os):=by intro hlen;obtain⟨A,cc,huv,hcc,_⟩:=yD.K7;rw[huv];exact hso.sort.NJ A _ cc hlen _ _ _ _
 unfold Ma at hzs;by_cases hlen1:xs.length<=1
 ·rw[show decide (xs.length<=1)=true by simpa using hlen1]at hzs;injection hzs with hzs
  refine(NJ hlen1).mono ?_
  rintro en w' ⟨rfl,os,rfl⟩
  refine⟨rfl,?_⟩;have hrel:=h.KV hv (e:=.one (.int .i64)) (yj:=xs) xt yW yD (λb _=>rfl) rfl ⟨rfl,rfl,rfl⟩;rw[hzs]at hrel;refine⟨_,rfl,hrel.world (w':=Go.Sort.grow W.w os) (hrel.J7 λb hb=>Go.Sort.heap_grow_old _ _ hb) (λb hb _=>Go.Sort.heap_grow_old _ _ ADx) (by show W.w.heap.size<=(Go.Sort.grow W.w os).heap.size;rw[Go.Sort.size_grow];omega) ⟨rfl,rfl,rfl⟩⟩
 ·rw[show decide (xs.length<=1)=false by grind,cond_false]at hzs;cases yh:(decide (xs.length<=20)&&xs.all λx=>xs.all λz=>(σ.lt y x z).isSome)with
  |false=>grind
  |true=>
   rw[yh,cond_true]at hzs;injection hzs with hzs
   simp only[AAN,AAh]at yh;obtain⟨h20,zA⟩:=yh;obtain⟨A,cc,huv,hcc,zl,yf⟩:=yD.K7;have hcc:xs.length<=cc:=hcc;cases A with
   |none=>grind
   |some ad=>
    obtain⟨arr,T,fr,os1,hspot,hh,yd,zX,yS,hoo,_⟩:=yf ad rfl (.inr J);have yJ:=zX J;obtain⟨blk,off,sp⟩:=ad;dsimp only at hspot hh yd yS hoo;subst hspot;have yd:off+cc*1<=arr.size:=yd;have yR:blk∈W.om (.lf cl.r cl.j):=by rw[hoo J];exact AAo
    have hblt:blk<W.w.heap.size:=(h.sep.own _ blk yR).2.1
    have hcellv:∀i (hi:i<xs.length),arr[off+i]?=some (.int .i64 (xs[i])):=by intro i hi;have h3:=yS i hi;simp only[Ls.rd]at h3;obtain⟨w3,hw3,h4,_⟩:=h3;have hw3:arr[off+(i*1+0)]?=some w3:=hw3;rw[Nat.mul_one,AA0]at hw3;rw[hw3];exact congrArg some h4
    obtain⟨x0,hx0⟩:∃x0,x0∈xs:=by
     match hq:xs,hlen1 with
     |x::_,_=>grind
    letI:Inhabited {x:Int // x∈xs}:=⟨⟨x0,hx0⟩⟩
    let D:Array {x:Int // x∈xs}:=xs.attach.toArray
    have hDs:D.size=xs.length:=by simp[D]
    have hDm:D.map Subtype.val=xs.toArray:=by simp[D]
    let enc:{x:Int // x∈xs}->Value:=λx=>.int .i64 x.1
    let lt':{x:Int // x∈xs}->{x:Int // x∈xs}->Bool:=λp q=>OL (σ.lt y) p.1 q.1
    have hholds:Holds enc W.w blk off D:=by
     intro j hj;rw[hDs]at hj;refine⟨?_,?_⟩
     ·simp only[World.cell?,hh];grind
     ·have xz:off+j<arr.size:=J
      have:=yJ (off+j) xz;obtain⟨lo,hi⟩:=fr;simp only[World.frozen?,hh];grind
    have yo:∀(m:Nat)(os:Array Obj)(dk:Array {x:Int // x∈xs}),dk.size=D.size->∀i j:Nat,i<D.size->j<D.size->
      Calls P g (#[.int .i64 i,.int .i64 j]++(ks.map λb=>Value.pointer (some ⟨b,0,none⟩)).toArray) (Go.Sort.grow (Go.Sort.putRow enc (Go.Sort.ahead W.w m) blk off dk) os) λe w'=>e=.returned (.bool (lt' dk[i]! dk[j]!))/\∃q yq,w'=Go.Sort.grow ((Go.Sort.grow (Go.Sort.putRow enc (Go.Sort.ahead W.w m) blk off dk) os).drewN q) yq:=by
     intro m os dk hdk i j hi hj
     have zY:∀b,KC W cl.r b->(Go.Sort.grow (Go.Sort.putRow enc (Go.Sort.ahead W.w m) blk off dk) os).heap[b]?=W.w.heap[b]?:=by intro b hb;rw[Go.Sort.heap_grow_old _ _ (by rw[Go.Sort.size_putRow];exact helt b hb),Ga enc _ blk off dk (b:=b) (λe=>yv b hb (e▸yR))];rfl
     have hc2:=hcaps.frame zY;rw[huv]at hc2
     have zw:σ.lt y dk[i]!.1 dk[j]!.1=some (lt' dk[i]! dk[j]!):=by have h5:=AAZ.1 zA dk[i]!.1 dk[i]!.2;have h6:=AAZ.1 h5 dk[j]!.1 dk[j]!.2;obtain⟨b,hb⟩:=Option.isSome_iff_exists.1 h6;show _=some (OL (σ.lt y) dk[i]!.1 dk[j]!.1);unfold OL;rw[hb]
     exact hso.less _ _ _ _ y blk off xs.length cc (λt=>dk[t]!.1) hc2 hy (λt ht=>by
      rw[Go.Sort.cell?_grow _ _ _ (by show blk<_;rw[Go.Sort.size_putRow];exact hblt)];exact Go.Sort.cell?_putRow enc (Go.Sort.ahead W.w m) blk off D dk hholds hdk t J) h20 i j J J _ zw
    have ye:=hso.sort.many _ enc (λ_=>rfl) lt' g (ks.map λb=>Value.pointer (some ⟨b,0,none⟩)).toArray hso.enters blk off cc D J J W.w yo hholds hblt;rw[hDs]at ye;rw[huv];refine ye.mono ?_
    rintro en w' ⟨rfl,n,os,rfl⟩
    refine⟨rfl,?_⟩;obtain⟨hmap,yt⟩:=FZ Subtype.val lt' (OL (σ.lt y)) (λ_ _=>rfl) D xs.length J;rw[hDm]at hmap;generalize hS:insertionSort lt' D 0 xs.length=S at hmap yt;rw[hmap]at hzs
    have hzl:zs.length=xs.length:=by rw[<-hzs];simp[yt,hDs]
    have hzget:∀i (hi:i<xs.length),zs[i]?=some S[i]!.1:=by intro i hi;rw[<-hzs,getElem!_pos S i J];simp[yt,hDs,hi]
    have yN:NL W.w (Go.Sort.putRow enc (Go.Sort.ahead W.w n) blk off S) blk (Go.Sort.putCells enc off S arr) T fr:={
     here:=Jz enc (Go.Sort.ahead W.w n) blk off S hh
     CX:=λb hb=>Ga enc (Go.Sort.ahead W.w n) blk off S hb
     size:=Go.Sort.size_putRow enc (Go.Sort.ahead W.w n) blk off S
     rest:=⟨rfl,rfl,rfl⟩ }
    have hpsz:(Go.Sort.putCells enc off S arr).size=arr.size:=by simp[Go.Sort.putCells]
    have yE:AE (.one (.int .i64)) 2 (Go.Sort.putRow enc (Go.Sort.ahead W.w n) blk off S) W.fz (.slice (some ⟨blk,off,none⟩) zs.length cc) zs (blk::(List.range zs.length).flatMap λ_=>[]):=by
     refine GX (e:=.one (.int .i64)) (xs:=zs) (ad:=⟨blk,off,none⟩) yN.here rfl No No (show zs.length<=cc by omega) ?_;intro i hi;have hi:i<zs.length:=hi;rw[hzl]at hi;simp only[Ls.rd]
     have yV:(Go.Sort.putCells enc off S arr)[off+i]?=some (enc S[i]!):=by simp only[Go.Sort.putCells,Array.getElem?_mapIdx,hcellv i hi,ABA];rw[AAS ⟨J,J⟩,show off+i-off=i by omega]
     refine⟨enc S[i]!,?_,?_,rfl⟩
     ·show(Go.Sort.putCells enc off S arr)[off+(i*1+0)]?=_;grind
     ·have h7:=hzget i hi;rw[AAM J]at h7;injection h7 with h7
      exact(congrArg (Value.int .i64) h7).symm
    have hod:(blk::(List.range zs.length).flatMap λ_=>([]:It))=W.om (.lf cl.r cl.j):=by
     rw[hoo J];congr 1
     have:(List.range xs.length).flatMap os1=[]:=by rw[List.flatMap_eq_nil_iff];intro i hi;have h3:=yS i (AAb.1 hi);simp only[Ls.rd]at h3;obtain⟨w3,hw3,_,h4⟩:=h3;exact h4
     rw[Gm];exact this.symm
    rw[hod,hzl]at yE;rw[huv]at yW;have hrel:=h.KV hv (e:=.one (.int .i64)) (yj:=zs) xt yW yE (λb hb=>yN.CX b λe=>hb (e▸yR)) yN.size yN.rest;refine⟨_,rfl,hrel.world (w':=Go.Sort.grow (Go.Sort.putRow enc (Go.Sort.ahead W.w n) blk off S) os) (hrel.J7 λb hb=>Go.Sort.heap_grow_old _ _ hb) (λb hb hio=>Go.Sort.heap_grow_old _ _ (by show b<(Go.Sort.putRow enc (Go.Sort.ahead W.w n) blk off S).heap.size;rw[yN.size];have:=h.sep.size;omega)) (by show _<=(Go.Sort.grow (Go.Sort.putRow enc (Go.Sort.ahead W.w n) blk off S) os).heap.size;rw[Go.Sort.size_grow];grind) ⟨rfl,rfl,rfl⟩⟩
theorem LW(yM:C7 P E cx.env)(h:AW E s a.tmps W)(hv:Aj s v){c:Call}{f:Operand}{fid:FuncId}{d:Nat}(ho:o.op=.call c)(hb:c.callee=.value f)(yp:o.dst=some d)(hdlt:d<a.tmps.size)(hf:a.eval f=.func (.func fid) #[] #[])
  (hl:(Dg cx s d v fid (c.args.toList.map s.As) λws=>.go ws).leads ws):BU P E o a W.w (s.app ws):=by
 unfold Dg at hl;split at hl
 ·rename_i t cl g ps qs yX;split at hl
  ·rename_i σ hσ;split at hl
   ·rename_i AB gen t0 xs xt;split at hl
    ·rename_i yC;simp only[AAN,AAX,AAa]at yC;obtain⟨⟨⟨yB,hp⟩,hpin⟩,hts⟩:=yC;subst yB;subst hts;have hp:cl.p=[]:=by cases hq:cl.p<;>simp_all[isNil]
     obtain⟨x1,x2,hxy,hx1,ze⟩:=Me yX;have hargs2:c.args = #[x1,x2]:=No
     have h1:=BK h x1;have h2:=BK h x2;rw[hx1]at h1;rw[ze]at h2;obtain⟨u,hu1,hu2⟩:AT s W (.I0 σ.t cl) (a.eval x1):=h1;obtain⟨ks,hk1,hk2⟩:AT s W (.D4 g ps qs) (a.eval x2):=h2;obtain⟨h',e',yW,hn⟩:=hu2 _ _ _ _ _ xt (.inl hp);rw[hp]at hn;obtain⟨rfl,rfl⟩:=hn;obtain⟨u',yG,yD⟩:=(h.roots cl.r).row xt;rw[yW]at yG;injection yG with yG;subst yG
     obtain⟨vs,hl,hcaps⟩:=Gk h yW (ks:=ks) hk2 hl;split at hl
     ·rename_i y hy;obtain⟨zs,hzs,hl⟩:=hl;have hl:_=ws:=hl;have hso:=yM.1.OP fid g σ hσ;obtain⟨fn,cb,hfn1,hfn2,hfn3⟩:=hso.sort.body
      have hrunc:(execOp a.eval o).run P W.w=.ok (.enter fid #[a.eval x1,a.eval x2]) W.w:=by
       have hfn3 : ¬ fn.name = "runtime.NumGoroutine" := by simpa using hfn3
       simp[execOp,ho,hb,hargs2,resolve,invoke,hf,Deferred.ofValue,callFunc,hfn1,hfn2,hfn3]
      have fin:∀w':World,(∃W1:Wd,W1.w=w'/\AW E (s.app [.leaf cl.r cl.j (.arr cl.AB v t0 (.one (.int .i64)) (show By from zs) 2)]) a.tmps W1)->∀(next:Act->World->Prop),(∀a' W',a'.defers=a.defers->AW E (s.app ws) a'.tmps W'->next a' W'.w)->next (a.put o.dst (.tuple #[])) w':=by
       intro w' ⟨W1,hW1,xw⟩ next hnext
       have hs:=xw.slot d (x:=.Db []) (u:=.tuple #[]) ⟨#[],rfl,rfl,λj p hj=>ADr⟩;rw[<-hW1];refine hnext _ W1 (by rw[yp];rfl) ?_;rw[<-hl,yp];exact hs
      intro next Q hnext
      unfold Oper.wp;rw[hrunc,Oper.upon_enter,hu1,hk1];have hcore:=LV (v:=v) (zs:=zs) h hv hso xt yW yD hcaps hy hzs;refine hcore.mono ?_
      rintro en w' ⟨rfl,W1,hW1,xw⟩
      exact fin _ ⟨W1,hW1,xw⟩ next hnext
     ·exact hl.elim
    ·exact hl.elim
   ·exact hl.elim
  ·exact hl.elim
 ·exact hl.elim
end
end Go.Ev
namespace Go.Ev
section
variable {P:Program}{E:Ci}{s:St}{W:Wd}{o:Oper}{a:Act}{ws:List Wr}{cx:Cx}{v:Nat}{tm:Array Value}
theorem M3(yM:C7 P E cx.env)(h:AW E s a.tmps W)(hv:Aj s v){c:Call}{f:Operand}(ho:o.op=.call c)(hb:c.callee=.value f)(hd:∀d,o.dst=some d->d<a.tmps.size)(hl:(AA cx v o s).leads ws):BU P E o a W.w (s.app ws):=by
 simp only[AA,ho,hb]at hl;have hf:=Ad h f;split at hl
 ·rename_i fid d hfid yp;rw[hfid]at hf;have hf:a.eval f=.func (.func fid) #[] #[]:=hf;unfold call at hl;split at hl
  ·exact LW yM h hv ho hb yp (hd d yp) hf hl
  ·rename_i g hg;cases hmk:g.s.mk? with
   |true=>
    rw[hmk,AAS rfl]at hl
    obtain⟨xu,T,hl,l1,l3,l4,hn,heach⟩:=Iv h g.s.ps (c.args.toList.map s.As) (c.args.toList.map a.eval) so (λi av u h1 h2=>by
     rw[AAe]at h1 h2;cases hx:c.args.toList[i]? with
     |none=>rw[hx]at h1;cases h1
     |some x=>
      rw[hx]at h1 h2;injection h1 with h1;injection h2 with h2
      subst h1;subst h2;exact BK h x) hl
    split at hl
    ·rename_i hap;simp only[AAN]at hap;obtain⟨hpl,hvr⟩:=hap
     have hvr:Af g.s.ps (c.args.toList.map s.As)=[]:=by
      revert hvr
      cases Af g.s.ps (c.args.toList.map s.As)with
      |nil=>intro _;rfl
      |cons=>intro h;cases h
     split at hl
     ·exact hl.elim
     ·rename_i y hy;obtain⟨z,hz,hl⟩:=hl;have hl:_=ws:=hl
      have hh:Handed s W g.s.ps (c.args.toList.map s.As) (c.args.toList.map a.eval) xu T:={
       l1:=l1
       l2:=by rw[<-l1];simp
       l3:=l3
       l4:=l4
       nodup:=hn
       each:=heach
       apart:=λr hr=>by rw[hvr]at hr;cases hr }
      obtain⟨hfn,fn,cb,hfn1,hfn2,hfn3⟩:=yM.1.fns fid g hg;have ye:=hfn (c.args.toList.map a.eval) W.w (Seen W (Af g.s.ps (c.args.toList.map s.As))) xu _ _ y z (yM.Ov h.sep λk b hb=>let ⟨a,_,h2⟩:=CH hh hb;⟨a,h2⟩) (Fw h hh) hy hz;rw[hmk]at ye;intro next Q hnext
      have yK:(execOp a.eval o).run P W.w=.ok (.enter fid (c.args.toList.map a.eval).toArray) W.w:=by
       have:(c.args.toList.map a.eval).toArray=c.args.map a.eval:=by rw[<-ABR,ABJ]
       rw[this]
       have hfn3 : ¬ fn.name = "runtime.NumGoroutine" := by simpa using hfn3
       simp[execOp,ho,hb,resolve,invoke,hf,Deferred.ofValue,callFunc,hfn1,hfn2,hfn3]
      unfold Oper.wp;rw[yK,Oper.upon_enter];refine ye.mono ?_
      rintro en w' ⟨r,xy,b0,rfl,mo⟩
      obtain⟨rfl,hkinds,cs,T0,fr,yV,yw,hlen,hread⟩:=mo.box;have zE:(unpack g.s.outs z).length=g.s.Gg.length:=by have:=congrArg List.length hkinds;simpa using this
      have hzero:∀p∈g.s.Gg,p.2=0:=λp hp=>by unfold Sm.plain at hpl;simp only[AAN]at hpl;simpa using AAZ.1 hpl.2 p hp
      obtain⟨W',zL,xw⟩:=h.LN hv (hd d yp) (bs:=AX v g.s.Gg (unpack g.s.outs z)) mo.frame mo.size mo.rest (λx hx=>by
       obtain⟨a1,a2⟩:=mo.fz x hx;refine⟨a1,a2.imp (λh=>?_) id⟩;rcases h with h|⟨r,hr,_⟩
       ·exact h
       ·rw[hvr]at hr;cases hr) mo.new yV yw (by rw[BZ _ _ _ zE];exact hlen) (λj b hj=>by
       have hjl:j<g.s.Gg.length:=by have:=(AAO.1 hj).1;rwa[BZ _ _ _ zE]at this
       have q1:=AAM hjl;have q2:=AAM (show j<(unpack g.s.outs z).length by omega);have q3:=Bs v _ _ j _ _ q1 q2;rw[q3]at hj;injection hj with hj
       obtain⟨y',hy',hr⟩:=hread j _ _ q1 q2;rw[hzero _ (List.getElem_mem hjl)]at hr hj;refine⟨_,_,y',?_,hy',hr⟩;rw[<-hj];generalize (unpack g.s.outs z)[j]=lv;obtain⟨l,x⟩:=lv;cases l<;>rfl)
      rw[<-hl,yp]at *;rw[<-zL];exact hnext _ W' rfl xw
    ·exact hl.elim
   |false=>
   rw[hmk]at hl;simp only[ABO,if_false]at hl
   obtain⟨xu,T,hl,l1,l3,l4,hn,heach⟩:=Iv h g.s.ps (c.args.toList.map s.As) (c.args.toList.map a.eval) so (λi av u h1 h2=>by
    rw[AAe]at h1 h2;cases hx:c.args.toList[i]? with
    |none=>rw[hx]at h1;cases h1
    |some x=>
     rw[hx]at h1 h2;injection h1 with h1;injection h2 with h2
     subst h1;subst h2;exact BK h x) hl
   split at hl
   ·rename_i hap;split at hl
    ·exact hl.elim
    ·rename_i y hy;obtain⟨z,hz,hl⟩:=hl;cases hback:Dm d v g.s.rs (unpack g.s.outs z) 0 with
     |none=>simp only[hback]at hl;exact hl.elim
     |some bol=>
      obtain⟨bs,own,left⟩:=bol;simp only[hback]at hl;generalize zn:(if fresh g.s.Gg=true then some []else Ap cx s (Af g.s.ps (c.args.toList.map s.As)))=fso at hl;split at hl
      ·rename_i pw fs hpw;have hl:_=ws:=hl
       have hh:Handed s W g.s.ps (c.args.toList.map s.As) (c.args.toList.map a.eval) xu T:={
        l1:=l1
        l2:=by rw[<-l1];simp
        l3:=l3
        l4:=l4
        nodup:=hn
        each:=heach
        apart:=λr hr i p hT x hx e=>by
         have h1:=AAZ.1 hap r hr;simp only[AAa]at h1;have h2:FW (T.flatMap PT.D3) (r,none)=true:=AA8.2 ⟨x,AAP.2 ⟨p,AAR hT,hx⟩,by simp[Tg.DS,e]⟩;rw[h1]at h2;cases h2 }
       obtain⟨hfn,fn,cb,hfn1,hfn2,hfn3⟩:=yM.1.fns fid g hg;have ye:=hfn (c.args.toList.map a.eval) W.w (Seen W (Af g.s.ps (c.args.toList.map s.As))) xu _ _ y z (yM.Ov h.sep λk b hb=>let ⟨a,_,h2⟩:=CH hh hb;⟨a,h2⟩) (Fw h hh) hy hz;rw[hmk]at ye;intro next Q hnext
       have yK:(execOp a.eval o).run P W.w=.ok (.enter fid (c.args.toList.map a.eval).toArray) W.w:=by
        have:(c.args.toList.map a.eval).toArray=c.args.map a.eval:=by rw[<-ABR,ABJ]
        rw[this]
        have hfn3 : ¬ fn.name = "runtime.NumGoroutine" := by simpa using hfn3
        simp[execOp,ho,hb,resolve,invoke,hf,Deferred.ofValue,callFunc,hfn1,hfn2,hfn3]
       unfold Oper.wp;rw[yK,Oper.upon_enter];refine ye.mono ?_
       rintro en w' ⟨r,xy,yg,rv,vsR,vsP,rfl,co⟩
       obtain⟨W',zL,xw⟩:=Mm (cx:=cx) h hv (hd d yp) hh co zn hback hpw;rw[<-hl,yp]at *;rw[<-zL];exact hnext _ W' rfl xw
      ·exact hl.elim
   ·exact hl.elim
 ·exact hl.elim
end
end Go.Ev
namespace Go.Ev
section
variable {P:Program}{E:Ci}{s:St}{W:Wd}{o:Oper}{a:Act}{ws:List Wr}{cx:Cx}{v:Nat}{tm:Array Value}
theorem MN(hc:Di P cx)(yM:C7 P E cx.env)(h:AW E s a.tmps W)(hv:Aj s v)(hd:∀d,o.dst=some d->d<a.tmps.size)(hl:(AA cx v o s).leads ws):BU P E o a W.w (s.app ws):=by
 cases ho:o.op with
 |move x=>
  cases hn:Hf (s.As x)with
  |true=>exact KS h hv ho hn hd hl
  |false=>exact M5 h ho hn hl
 |assign x=>exact LK h hv ho hd hl
 |pick x y z=>exact M6 h ho hl
 |alloc t=>exact MH hc yM.1.Ng h hv ho hd hl
 |box t x=>exact Nn hc h hv ho hd hl
 |build t ps=>exact MJ hc h ho hl
 |buildSlice t n ps=>exact IF hc h hv ho hd hl
 |load t x=>exact M4 hc h ho hl
 |store t x y=>exact MO hc yM.1.Ng h hv ho hl
 |makeInterface t x=>exact F5 hc h ho hl
 |makeFunc fn xs ys=>exact Jv h ho hl
 |nilCheck x=>exact Jw h ho hl
 |binOp op tx x y ty=>exact MI hc h ho hl
 |unOp op tx x=>exact M7 h ho hl
 |convert t1 t2 x=>exact KQ hc h ho hl
 |makeSlice t x y=>exact JE hc h hv ho hd hl
 |slice ti x lo hi m=>
  cases m with
  |none=>exact MM hc h ho hl
  |some m=>simp only[AA,ho]at hl;exact hl.elim
 |fieldAddr t x f=>exact JC hc h ho hl
 |field t x f=>exact MK hc h ho hl
 |indexAddr t x i=>exact JD hc h ho hl
 |index t x i=>exact ML hc h ho hl
 |extract x i=>exact KR h ho hl
 |call c=>
  cases hb:c.callee with
  |builtin b=>
   cases b with
   |len=>exact Np hc h ho hb hl
   |append=>exact LJ hc h hv ho hb hd hl
   |min=>exact Nr h ho hb hl
   |max=>exact Nq h ho hb hl
   |_=>simp only[AA,ho,hb]at hl;exact hl.elim
  |value f=>exact M3 yM h hv ho hb hd hl
  |invoke r n=>simp only[AA,ho,hb]at hl;exact hl.elim
 |_=>simp only[AA,ho]at hl;exact hl.elim
end
end Go.Ev
namespace Go.Ev
section
variable {s s':St}{cx:Cx}{v:Nat}{β:Type}
theorem Aw{r:Nat}(h:s'.root r=s.root r)(j:Nat):s'.leaf r j=s.leaf r j:=by unfold St.leaf;rw[h]
theorem BW{c:Loc}(h:s'.root c.r=s.root c.r)(k:(t:TypeId)->(e:Ls)->List e.D->Nat->Step β):s'.content c k=s.content c k:=by unfold St.content;rw[Aw h]
def BA(s s':St)(rs:It):Prop:=∀r∈rs,s'.root r=s.root r
theorem CU{l:L}{la:LA}(h:BA s s' la.roots)(k:l.D->Step β):s'.datum l la k=s.datum l la k:=by
 cases la with
 |ref c=>exact BW (h c.r (by simp[LA.roots])) _
 |D0 c lo hi=>exact BW (h c.r (by simp[LA.roots])) _
 |_=>rfl
theorem EY:∀ {ls:List L} {as:List LA} (h:BA s s' (as.flatMap LA.roots)) (k:List Lv->Step β),s'.data ls as k=s.data ls as k
 | [],[],h,k=>rfl
 | [],_::_,h,k=>rfl
 |_::_,[],h,k=>rfl
 |l::ls,a::as,h,k=>by simp only[St.data];rw[CU λr hr=>h r (by simp[hr])];congr 1;funext x;exact EY (λr hr=>h r No) _
theorem Jn{la:LA}(h:BA s s' la.roots)(n:Nat)(k:List LA->Step β):s'.C2 la n k=s.C2 la n k:=by
 cases la with
 |ptr r j AB=>simp only[St.C2];rw[h r (by simp[LA.roots])]
 |Ba c=>
  simp only[St.C2];split
  ·rfl
  ·rename_i q i off hq;have hg:s'.Jj c.r c.j=s.Jj c.r c.j:=by unfold St.Jj;rw[Aw (h c.r (by simp[LA.roots]))]
   rw[hg];exact BW (c:={ c with p:=q }) (h c.r (by simp[LA.roots])) _
 |_=>rfl
theorem EW{a:AV}(h:BA s s' a.roots):BA s s' a.one?.roots:=by
 cases a with
 |Db vs=>intro r hr;cases hr
 |bx as=>intro r hr;cases hr
 |v g as=>
  cases g with
  |true=>intro r hr;cases hr
  |false=>cases as with
   |nil=>intro r hr;cases hr
   |cons b bs=>cases bs with
    |nil=>intro r hr;exact h r (AAP.2 ⟨b,so,hr⟩)
    |cons=>intro r hr;cases hr
theorem LF{a:AV}(h:BA s s' a.roots)(n:Nat)(k:List LA->Step β):s'.E7 a n k=s.E7 a n k:=by
 cases a with
 |bx as=>rfl
 |v g as=>exact Jn (EW h) n k
 |Db vs=>exact Jn (EW h) n k
theorem Kf:∀ {as:List LA},BA s s' (as.flatMap LA.roots)->L7 s' as=L7 s as
 | [],_=>rfl
 |a::as,h=>by
  unfold L7;simp only[List.any_cons];have ih:=Kf (as:=as) λr hr=>h r No;unfold L7 at ih;rw[ih];congr 1;cases a with
  |ref c=>simp only;rw[h c.r (by simp[LA.roots])]
  |_=>rfl
theorem D8{la:LA}(h:BA s s' la.roots):s'.alive la=s.alive la:=by
 cases la with
 |ptr r j AB=>simp only[St.alive];rw[h r (by simp[LA.roots])]
 |Ba c=>simp only[St.alive];rw[Aw (h c.r (by simp[LA.roots]))]
 |_=>rfl
theorem ND{la:LA}(h:BA s s' la.roots):s'.sure la=s.sure la:=by
 cases la with
 |ptr r j AB=>simp only[St.sure];rw[h r (by simp[LA.roots])]
 |ref c=>simp only[St.sure];rw[Aw (h c.r (by simp[LA.roots]))]
 |D0 c lo hi=>simp only[St.sure];rw[Aw (h c.r (by simp[LA.roots]))]
 |Ba c=>simp only[St.sure];exact D8 h
 |_=>rfl
theorem Kt{la:LA}(h:BA s s' la.roots)(l:L)(k:LA->List (Nat×Nat)->Step β):s'.take cx v la l k=s.take cx v la l k:=by
 cases la with
 |ptr r j AB=>simp only[St.take];rw[h r (by simp[LA.roots])]
 |ref c=>simp only[St.take];rw[Aw (h c.r (by simp[LA.roots]))];simp only[BW (h c.r (by simp[LA.roots]))]
 |D0 c lo hi=>simp only[St.take];rw[Aw (h c.r (by simp[LA.roots]))]
 |_=>rfl
theorem EP:∀ {ls:List L} {as:List LA} (h:BA s s' (as.flatMap LA.roots)) (k:List LA->List (Nat×Nat)->Step β),s'.Fo cx v ls as k=s.Fo cx v ls as k
 | [],[],h,k=>rfl
 | [],_::_,h,k=>rfl
 |_::_,[],h,k=>rfl
 |l::ls,a::as,h,k=>by simp only[St.Fo];rw[Kt λr hr=>h r (by simp[hr])];congr 1;funext b us;exact EP (λr hr=>h r No) _
theorem MY{c:Loc}(h:s'.root c.r=s.root c.r)(g:Nat)(vs:List Lv):s'.J3 g c vs=s.J3 g c vs:=by unfold St.J3;rw[Aw h]
theorem Il{la:LA}(h:BA s s' la.roots){as:List LA}(h2:BA s s' (as.flatMap LA.roots))(ls:List L)(k:List Wr->Step β):s'.GB cx v la ls as k=s.GB cx v la ls as k:=by
 cases la with
 |ptr r j AB=>simp only[St.GB];rw[h r (by simp[LA.roots]),EP h2]
 |Ba c=>
  simp only[St.GB];rw[EY h2,EP h2,Aw (h c.r (by simp[LA.roots]))];congr 2;funext vs;rw[MY (h c.r (by simp[LA.roots]))]
 |_=>rfl
theorem L5{la:LA}(h:BA s s' la.roots)(k:Int->Step β):lenOf s' la k=lenOf s la k:=by
 cases la with
 |ref c=>exact BW (h c.r (by simp[LA.roots])) _
 |D0 c lo hi=>exact BW (h c.r (by simp[LA.roots])) _
 |_=>rfl
theorem F4{la:LA}(h:BA s s' la.roots)(t:TypeId)(e:Ls)(k:List e.D->List (Nat×Nat)->Step β):EK cx s' la t e k=EK cx s la t e k:=by
 unfold EK;rw[CU h];cases la with
 |ref c=>simp only;rw[Aw (h c.r (by simp[LA.roots]))]
 |_=>rfl
theorem JU{la lb:LA}(h:BA s s' la.roots)(h2:BA s s' lb.roots)(d v:Nat)(t:TypeId)(e:Ls)(k:List Wr->Step β):Cs cx s' d v t e la lb k=Cs cx s d v t e la lb k:=by
 cases la with
 |C6=>simp only[Cs];exact F4 h2 _ _ _
 |ref c=>
  simp only[Cs];rw[Aw (h c.r (by simp[LA.roots]))];cases s.leaf c.r c.j with
  |arr AB gen t' e' xs dd=>
   simp only;split
   ·split
    ·exact F4 h2 _ _ _
    ·rfl
   ·rfl
  |_=>rfl
 |D0 c lo hi=>
  simp only[Cs];rw[Aw (h c.r (by simp[LA.roots]))];cases s.leaf c.r c.j with
  |arr AB gen t' e' xs dd=>
   simp only;split
   ·split
    ·exact F4 h2 _ _ _
    ·rfl
   ·rfl
  |_=>rfl
 |_=>rfl
theorem Jd{fs:List (Nat×TypeId)}:∀ {ps:List (Nat×Operand)} (h:∀p∈ps,s'.As p.2=s.As p.2/\BA s s' (s.As p.2).roots) (ls:List LA),HU cx s' fs ps ls=HU cx s fs ps ls
 | [],h,ls=>rfl
 |(i,x)::ps,h,ls=>by
  obtain⟨h1,h2⟩:=h (i,x) so;dsimp only at h1 h2;simp only[HU];rw[h1];generalize s.As x=p at h2;cases p with
  |Db vs=>rfl
  |bx as=>rfl
  |v g as=>
   have:as.all s'.sure=as.all s.sure:=by rw[Bool.eq_iff_iff,AAZ,AAZ];refine forall_congr' λb=>forall_congr' λhb=>?_;rw[ND λr hr=>h2 r (AAP.2 ⟨b,hb,hr⟩)]
   cases Hl fs i with
   |none=>rfl
   |some q=>
    obtain⟨off,t⟩:=q;dsimp only;cases cx.ty t with
    |none=>rfl
    |some tf=>
     dsimp only;rw[this];split
     ·exact Jd (λp hp=>h p (AAQ _ hp)) _
     ·rfl
theorem HL{e:Ls}:∀ {ps:List (Nat×Operand)} (h:∀p∈ps,s'.As p.2=s.As p.2/\BA s s' (s.As p.2).roots) (n:Nat) (k:List e.D->List (Nat×Nat)->Step β),CO cx s' v e ps n k=CO cx s v e ps n k
 | [],h,n,k=>rfl
 |(i,x)::ps,h,n,k=>by
  obtain⟨h1,h2⟩:=h (i,x) so;dsimp only at h1 h2;have ih:∀(n:Nat) (k:List e.D->List (Nat×Nat)->Step β),CO cx s' v e ps n k=CO cx s v e ps n k:=HL λp hp=>h p (AAQ _ hp);simp only[CO];rw[h1];generalize s.As x=p at h2;cases p with
  |Db vs=>rfl
  |bx as=>rfl
  |v g as=>
   have h2:BA s s' (as.flatMap LA.roots):=h2;simp only[EY h2,EP h2,ih]
theorem HE(r:Nat):∀(ls:List (L×Nat)) (as:List LA) (j:Nat),EE ls as=true->∀b∈A5 r j as,∀r'∈b.roots,r'=r
 | [],[],j,h,b,hb,r',hr=>by cases hb
 | [],_::_,j,h,b,hb,r',hr=>by cases h
 |_::_,[],j,h,b,hb,r',hr=>by cases h
 |(l,m)::ls,a::as,j,h,b,hb,r',hr=>by
  simp only[EE,AAN]at h;rcases AAj.1 hb with hb|hb
  ·subst hb;cases a with
   |arr AB gen t e xs d=>simpa[seen,LA.roots]using hr
   |sc l x=>simp[seen,LA.roots]at hr
   |_=>simp at h
  ·exact HE r ls as (j+1) h.2 b hb r' hr
theorem LR{la:LA}(h:BA s s' la.roots)(l:L)(d:Nat)(k:Lv->ADk->Step β):JI s' l d la k=JI s l d la k:=by
 cases l with
 |sl t e=>
  cases la with
  |ref c=>
   show(if(match s'.leaf c.r c.j with
    | .arr _ _ _ _ _ dd=>dd==d&&(isNil c.p||d==2)
    |_=>false)then s'.datum (.sl t e) (.ref c) _ else Step.none)=(if(match s.leaf c.r c.j with
    | .arr _ _ _ _ _ dd=>dd==d&&(isNil c.p||d==2)
    |_=>false)then s.datum (.sl t e) (.ref c) _ else Step.none)
   rw[Aw (h c.r (by simp[LA.roots])),CU h]
  |_=>rfl
 |int i=>exact CU h _
 |bool=>exact CU h _
 |str=>exact CU h _
theorem Hx:∀ {ls:List (L×Nat)} {as:List LA} (h:BA s s' (as.flatMap LA.roots)) (k:List Lv->ADk->Step β),Ed s' ls as k=Ed s ls as k
 | [],[],h,k=>rfl
 | [],_::_,h,k=>rfl
 |_::_,[],h,k=>rfl
 |(l,d)::ls,a::as,h,k=>by simp only[Ed];rw[LR λr hr=>h r (by simp[hr])];congr 1;funext x us;exact Hx (λr hr=>h r No) _
theorem Ih:∀ {ls:List (L×Nat)} {as:List LA} (h:BA s s' (as.flatMap LA.roots)) (vs:List Lv),putRow s' v ls as vs=putRow s v ls as vs
 | [],[],h,vs=>rfl
 | [],_::_,h,vs=>by simp[putRow]
 |_::_,[],h,vs=>by simp[putRow]
 |_::_,_::_,h,[]=>by simp[putRow]
 |(l,d)::ls,a::as,h,x::vs=>by
  simp only[putRow];rw[Ih (λr hr=>h r No) vs];cases a with
  |ref c=>
   have e:s'.leaf c.r c.j=s.leaf c.r c.j:=Aw (h c.r (by simp[LA.roots])) c.j;simp only[e]
  |_=>rfl
theorem Fx:∀ {ps:List PM} {vs:List AV} (h:∀a∈vs,BA s s' a.roots) (k:List Lv->ADk->Step β),Ai s' ps vs k=Ai s ps vs k
 | [],[],h,k=>rfl
 | [],_::_,h,k=>by simp only[Ai]
 |pm::ps,[],h,k=>by cases pm<;>simp only[Ai]
 |pm::ps,a::vs,h,k=>by
  have ih:∀(k:List Lv->ADk->Step β),Ai s' ps vs k=Ai s ps vs k:=Fx λa ha=>h a (AAQ _ ha);have ha:=h a so;cases pm with
  |val g ls=>
   cases a with
   |Db vs=>simp only[Ai]
   |bx as=>simp only[Ai]
   |v g' as=>
    simp only[Ai];rw[EY (show BA s s' (as.flatMap LA.roots)from ha)];grind
  |fn f=>
   unfold Ai;grind
  |box ls=>
   unfold Ai;split
   all_goals (try rename_i e1 e2;try cases e1;try cases e2;try rfl)
   rename_i r AB;have hr:s'.root r=s.root r:=ha r (by simp[AV.roots,LA.roots])
   ·rw[hr];by_cases hc:((s.root r).box&&(s.root r).AB==AB&&EE ls (s.root r).ls)=true
    ·rw[AAS hc,AAS hc];have hdeep:EE ls (s.root r).ls=true:=by simp only[AAN]at hc;exact hc.2
     have hd:BA s s' ((A5 r 0 (s.root r).ls).flatMap LA.roots):=λr' yi=>by obtain⟨b,hb,yH⟩:=AAP.1 yi;rw[HE r ls _ 0 hdeep b hb r' yH];exact hr
     simp only[ih];exact EY hd _
    grind
   all_goals rfl
  |row g ls=>
   cases a with
   |Db vs=>simp only[Ai]
   |bx as=>simp only[Ai]
   |v g' as=>
    simp only[Ai];rw[Hx (show BA s s' (as.flatMap LA.roots)from ha)];grind
theorem Es{r:Nat}(hr:s'.root r=s.root r):∀(k:Nat) (ls:List (L×Nat)) (vs:List Lv),AU s' r v k ls vs=AU s r v k ls vs
 |_,[],_=>by simp only[AU]
 |_,_::_,[]=>by simp only[AU]
 |k,(l,m)::ls,x::xs=>by simp only[AU,Es hr (k+1) ls xs,Aw hr]
theorem GY:∀ {ps:List PM} {yQ:List AV} (h:∀a∈yQ,BA s s' a.roots) (vs:List Lv),AR s' v ps yQ vs=AR s v ps yQ vs
 | [],[],h,[]=>rfl
 | [],[],h,_::_=>rfl
 | [],_::_,h,vs=>by simp only[AR]
 |pm::ps,[],h,vs=>by cases pm<;>simp only[AR]
 |pm::ps,a::yQ,h,vs=>by
  have ih:∀vs,AR s' v ps yQ vs=AR s v ps yQ vs:=GY λa ha=>h a (AAQ _ ha);have ha:=h a so;cases pm with
  |val g ls=>simp only[AR,ih]
  |fn f=>simp only[AR,ih]
  |box ls=>
   unfold AR;split
   all_goals (try rename_i e1 e2;try cases e1;try cases e2;try rfl)
   ·rename_i r AB;have hr:s'.root r=s.root r:=ha r (by simp[AV.roots,LA.roots]);rw[ih,Es hr]
   all_goals rfl
  |row g ls=>
   cases a with
   |Db vs=>simp only[AR]
   |bx as=>simp only[AR]
   |v g' as=>
    simp only[AR];rw[Ih (show BA s s' (as.flatMap LA.roots)from ha)];grind
theorem E2{not:Nat}:∀ {bs:List (List L)} {ps:List (Nat×Nat)} (h:∀p∈ps,s'.root p.1=s.root p.1) (k:List Lv->Step β),C9 s' not bs ps k=C9 s not bs ps k
 | [],[],h,k=>rfl
 | [],_::_,h,k=>rfl
 |_::_,[],h,k=>rfl
 |ls::bs,(r,AB)::ps,h,k=>by
  have hr:s'.root r=s.root r:=h (r,AB) so;simp only[C9];rw[hr];split
  ·rename_i hc;simp only[AAN]at hc;have zA:=hc.2
   have hsees:BA s s' ((A5 r 0 (s.root r).ls).flatMap LA.roots):=λr' yi=>by
    obtain⟨y,hy,hy'⟩:=AAP.1 yi;obtain⟨i,hi⟩:=AAv hy;rw[Ck]at hi;cases hq:(s.root r).ls[i]? with
    |none=>grind
    |some y0=>
     rw[hq]at hi;injection hi with hi
     subst hi;have:=AAZ.1 zA y0 (AAR hq);cases y0 with
     |arr=>
      have:r'=r:=by simpa[seen,LA.roots]using hy'
      grind
     |sc=>simp[seen,LA.roots]at hy'
     |_=>cases this
   rw[EY hsees];congr 1;funext x;exact E2 (λp hp=>h p (AAQ _ hp)) _
  ·rfl
theorem Ds{c:Loc}{qs:List (Nat×Nat)}(hq:∀p∈qs,s'.root p.1=s.root p.1):∀ {cs:List KB} {ps:List (Nat×Nat)} (h:∀p∈ps,s'.root p.1=s.root p.1) (k:List Lv->Step β),Bi s' c qs cs ps k=Bi s c qs cs ps k
 | [],[],h,k=>rfl
 | [],_::_,h,k=>rfl
 | .box _::_,[],h,k=>rfl
 | .D4 _ _::_,[],h,k=>rfl
 | .row::_,[],h,k=>rfl
 | .box ls::cs,p::ps,h,k=>by simp only[Bi];rw[E2 (λq hq=>h q No)];congr 1;funext x;exact Ds hq (λp hp=>h p (AAQ _ hp)) _
 | .D4 g bs::cs,(r,AB)::ps,h,k=>by
  have hr:s'.root r=s.root r:=h (r,AB) so;simp only[Bi];rw[hr];split
  ·split
   ·rename_i hc;simp only[AAN]at hc;have zA:=hc.2;rw[E2 (λp hp=>hq p No)];congr 1;funext x;exact Ds hq (λp hp=>h p (AAQ _ hp)) _
   ·rfl
  ·rfl
 | .row::cs,(r,AB)::ps,h,k=>by
  have hr:s'.root r=s.root r:=h (r,AB) so;simp only[Bi];rw[hr];split
  ·exact Ds hq (λp hp=>h p (AAQ _ hp)) _
  ·rfl
theorem J5{yQ:List AV}(h:∀a∈yQ,BA s s' a.roots)(d:Nat)(f:FuncId)(k:List Wr->Step β):Dg cx s' d v f yQ k=Dg cx s d v f yQ k:=by
 unfold Dg;split
 ·rename_i t c g ps qs;have h1:=h (.v false [.I0 t c]) so;have h2:=h (.v false [.D4 g ps qs]) so;have hc:s'.root c.r=s.root c.r:=h1 c.r (by simp[AV.roots,LA.roots]);have hps:∀p∈ps,s'.root p.1=s.root p.1:=λp hp=>h2 p.1 (AAP.2 ⟨.D4 g ps qs,so,AAY _ (AAw.2 ⟨p,hp,rfl⟩)⟩);have hqs:∀p∈qs,s'.root p.1=s.root p.1:=λp hp=>h2 p.1 (AAP.2 ⟨.D4 g ps qs,so,AAV _ (AAw.2 ⟨p,hp,rfl⟩)⟩);rw[Aw hc];simp only[Ds hqs hps]
 ·rfl
theorem Ig:∀ {vs:List AV} (h:∀a∈vs,BA s s' a.roots),DU s' vs=DU s vs/\∀ps,DU s vs=some ps->behind s' ps=behind s ps
 | [],h=>⟨rfl,λps hp=>by simp only[DU,Option.some.injEq]at hp;subst hp;rfl⟩
 |a::vs,h=>by
  obtain⟨ih1,ih2⟩:=Ig (vs:=vs) λb hb=>h b (AAQ _ hb);have ha:=h a so;unfold DU;split
  ·rename_i e;exact absurd e so
  ·rename_i r AB vs' e;injection e with e1 e2
   subst e1;subst e2;have hr:s'.root r=s.root r:=ha r (by simp[AV.roots,LA.roots]);rw[hr,ih1];refine⟨rfl,λps hp=>?_⟩;split at hp
   ·split at hp
    ·rename_i ps' hps';injection hp with hp
     subst hp;simp only[behind];rw[hr,ih2 ps' hps']
    ·cases hp
   ·cases hp
  grind
theorem LZ{t:TypeId}{q:LA}{p:AV}{dst:Option Tmp}(h:BA s s' q.roots):H5 cx s' t q p dst=H5 cx s t q p dst:=by
 unfold H5;split
 ·split
  ·split
   ·rename_i r j AB;rw[h r (by simp[LA.roots])]
   ·rfl
  ·rfl
 ·rfl
theorem E5:∀ {rs:It} (h:BA s s' rs),Ap cx s' rs=Ap cx s rs
 | [],h=>rfl
 |r::rs,h=>by
  have hr:=h r so
  have hw:Cy s' r=Cy s r:=by
   unfold Cy;have:s'.Bm r=s.Bm r:=by unfold St.Bm;rw[hr]
   rw[this,hr]
  simp only[Ap];rw[E5 (λr hr=>h r (AAQ _ hr)),hw]
theorem Fs:∀(ps:List PM)(yQ:List AV)(r:Nat),r∈Af ps yQ->∃a∈yQ,r∈a.roots
 | [],_,r,h=>by simp[Af]at h
 |pm::_,[],r,h=>by cases pm<;>simp[Af]at h
 |pm::ps,a::yQ,r,h=>by
  have ih:=Fs ps yQ r;have sub:r∈Af ps yQ->∃b∈a::yQ,r∈b.roots:=λh=>let ⟨b,hb,hr⟩:=ih h;⟨b,AAQ _ hb,hr⟩
  cases pm with
  |val g ls=>
   rcases ABK.1 (show r∈a.roots++Af ps yQ from h)with h|h
   all_goals grind
  |_=>exact sub h
theorem Mq{yQ:List AV}(h:∀a∈yQ,BA s s' a.roots)(d:Nat)(f:FuncId)(k:List Wr->Step β):call cx s' d v f yQ k=call cx s d v f yQ k:=by
 unfold call;cases cx.env.fn f with
 |none=>exact J5 h d f k
 |some g=>
  dsimp only;cases g.s.mk? with
  |true=>simp only[if_true];rw[Fx h]
  |false=>
  simp only[ABO,if_false];rw[Fx h];have h2:∀vs,AR s' v g.s.ps yQ vs=AR s v g.s.ps yQ vs:=GY h;have h3:Ap cx s' (Af g.s.ps yQ)=Ap cx s (Af g.s.ps yQ):=E5 λr hr=>let ⟨a,ha,yi⟩:=Fs _ _ r hr;h a ha r yi
  grind
def Wr.I2:Wr->Bool
 | .leaf _ _ _=>true
 |_=>false
theorem D9(s:St)(r j:Nat)(a:LA)(r':Nat):(s.AG (.leaf r j a)).root r'=if r=r' then { s.root r with ls:=DL (s.root r).ls j a }else s.root r':=by
 show nth dead (DL s.ro r _) r'=_;rw[BX];by_cases h:r=r'
 ·subst h;by_cases hl:r<s.ro.length
  ·grind
  ·rw[AAT (λhh=>hl hh.2),AAS rfl];have:s.root r=dead:=Au _ (AA1 hl);show s.root r=_;rw[this];rfl
 ·rw[AAT (λhh=>h hh.1),AAT h];rfl
theorem BA.app{rs:It}(h:BA s s' rs):∀ {fs:List Wr},(∀w∈fs,w.I2=true)->BA (s.app fs) (s'.app fs) rs:=by
 intro fs hf r hr
 have key:∀(fs:List Wr)(s s':St),(∀w∈fs,w.I2=true)->s'.root r=s.root r->(s'.app fs).root r=(s.app fs).root r:=by
  intro fs
  induction fs with
  |nil=>intro s s' _ h;exact h
  |cons w fs ih=>
   intro s s' hf h;have hw:=hf w AAo;refine ih _ _ (λx hx=>hf x (AAQ _ hx)) ?_;cases w with
   |leaf r0 j a=>
    rw[D9,D9];grind
   |slot t a=>cases hw
   |root r x=>cases hw
 exact key fs s s' hf (h r hr)
theorem Fb:∀(r j:Nat)(ls:List LA),∀w∈A7 r j ls,w.I2=true
 |_,_,[],w,hw=>by cases hw
 |r,j,a::as,w,hw=>by
  rcases AAj.1 hw with e|hw
  ·subst e;rfl
  ·exact Fb r (j+1) as w hw
theorem FT:∀ {rs:It} {fs:List Wr},Ap cx s rs=some fs->∀w∈fs,w.I2=true
 | [],fs,h,w,hw=>by injection h with h;grind
 |r::rs,fs,h,w,hw=>by
  simp only[Ap]at h;split at h
  ·cases h
  ·split at h
   ·rename_i zf hws;injection h with h;subst h
    rcases ABK.1 hw with hw|hw
    ·unfold Cy at hw;split at hw
     ·cases hw
     ·exact Fb r 0 _ w hw
    ·exact FT hws w hw
   ·cases h
theorem Eb:∀ {as:List LA} {r:Nat},r∈Hj as->r∈as.flatMap LA.roots
 | [],r,h=>by cases h
 |a::as,r,h=>by
  rw[AAq];refine ABK.2 ?_;cases a with
  |ref c=>
   simp only[Hj]at h;split at h
   ·exact .inr (Eb h)
   ·rcases AAj.1 h with e|h
    ·subst e;exact .inl (by simp[LA.roots])
    ·exact .inr (Eb h)
  |_=>exact .inr (Eb (by simpa[Hj]using h))
theorem LH{q:LA}{as:List LA}{r:Nat}(h:r∈MF q as):r∈as.flatMap LA.roots:=by
 cases q with
 |ptr=>exact Eb h
 |_=>cases h
def LA.norm:LA->LA
 | .arr AB _ t e xs (_+1)=>.arr AB 0 t e xs 1
 |a=>a
def Bv.norm(x:Bv):Bv:={ x with ls:=x.ls.map LA.norm }
def NK(m:Nat)(s s':St):Prop:=(∀t,m.testBit (2*t)=true->s'.slot t=s.slot t)/\(∀r,m.testBit (4*r+1)=true->m.testBit (4*r+3)=true->s'.root r=s.root r)/\∀r,m.testBit (4*r+1)=true->(s'.root r).norm=(s.root r).norm
end
end Go.Ev
namespace Go.Ev
section
variable {s s':St}{cx:Cx}{v:Nat}{β:Type}
def GH(s s':St)(x:Operand):Prop:=s'.As x=s.As x/\BA s s' (s.As x).roots
theorem GH.one{x:Operand}(h:GH s s' x):s'.Ag x=s.Ag x/\BA s s' (s.Ag x).roots:=by
 refine⟨by unfold St.Ag;rw[h.1],λr hr=>h.2 r ?_⟩;unfold St.Ag at hr;cases hq:s.As x with
 |Db vs=>rw[hq]at hr;cases hr
 |bx as=>rw[hq]at hr;cases hr
 |v g as=>
  rw[hq]at hr;cases g with
  |true=>cases hr
  |false=>cases as with
   |nil=>cases hr
   |cons b bs=>cases bs with
    |nil=>exact AAP.2 ⟨b,so,hr⟩
    |cons=>cases hr
theorem EV{x:Option Operand}(h:∀y,x=some y->GH s s' y)(d:Int)(k:Int->Step β):DQ s' x d k=DQ s x d k:=by
 cases x with
 |none=>rfl
 |some y=>simp only[DQ];rw[(h y rfl).one.1]
theorem K5{o:Oper}{c:Call}(ho:o.op=.call c)(yX:∀x∈c.args.toList,GH s s' x)(hfn:∀f,c.callee=.value f->GH s s' f):AA cx v o s'=AA cx v o s:=by
 cases hb:c.callee with
 |builtin b=>
  cases b with
  |len=>
   simp only[AA,ho,hb];split
   ·rename_i x t hx ht;have hx:=(yX x (by rw[hx];simp)).one;simp only[hx.1,L5 hx.2]
   ·rfl
  |append=>
   simp only[AA,ho,hb];split
   ·rename_i x y t1 t2 ty d hx _ _ _;have hx1:=(yX x (by rw[hx];simp)).one;have hy1:=(yX y (by rw[hx];simp)).one;simp only[hx1.1,hy1.1,JU hx1.2 hy1.2]
   ·rfl
  |min=>
   simp only[AA,ho,hb];split
   ·rename_i x y hx;have hx1:=(yX x (by rw[hx];simp)).one;have hy1:=(yX y (by rw[hx];simp)).one;grind
   ·rfl
  |max=>
   simp only[AA,ho,hb];split
   ·rename_i x y hx;have hx1:=(yX x (by rw[hx];simp)).one;have hy1:=(yX y (by rw[hx];simp)).one;grind
   ·rfl
  |_=>simp only[AA,ho,hb]
 |value f=>
  have hf:=(hfn f hb).one;have hmap:c.args.toList.map s'.As=c.args.toList.map s.As:=List.map_congr_left λx hx=>(yX x hx).1
  have za:∀a∈c.args.toList.map s.As,BA s s' a.roots:=λa ha=>by obtain⟨x,hx,rfl⟩:=AAw.1 ha;exact(yX x hx).2
  simp only[AA,ho,hb];rw[hf.1,hmap];simp only[Mq za]
 |invoke r n=>simp only[AA,ho,hb]
theorem Hm{o:Oper}(h:∀x∈o.op.operands.toList,GH s s' x):AA cx v o s'=AA cx v o s:=by
 by_cases ye:∃c,o.op=.call c
 ·obtain⟨c,ho⟩:=ye;exact K5 ho (λx hx=>h x (by rw[ho];simp[Op.operands,Call.operands];grind)) λf hb=>h f (by rw[ho];simp[Op.operands,Call.operands,hb])
 unfold AA;cases ho:o.op with
 |move x=>
  have hx:=h x (by rw[ho];simp[Op.operands]);simp only[hx.1]
 |assign x=>
  have hx:=(h x (by rw[ho];simp[Op.operands])).one;simp only[hx.1];cases o.dst with
  |none=>rfl
  |some d=>
   have ze:=hx.2;generalize s.Ag x=p at ze;cases p<;>first|rfl|simp only[Kt ze]
 |pick x y z=>
  have hx:=(h x (by rw[ho];simp[Op.operands])).one;have hy:=h y (by rw[ho];simp[Op.operands]);have hz:=h z (by rw[ho];simp[Op.operands]);simp only[hx.1,hy.1,hz.1]
 |alloc t=>rfl
 |box t x=>
  have hx:=h x (by rw[ho];simp[Op.operands]);simp only[hx.1];have ze:=hx.2;generalize s.As x=p at ze;cases cx.ty t with
  |none=>rfl
  |some ty=>cases o.dst with
   |none=>rfl
   |some d=>cases p with
    |Db vs=>rfl
    |bx as=>rfl
    |v g as=>
     simp only[Kf (show BA s s' (as.flatMap LA.roots)from ze),EP (show BA s s' (as.flatMap LA.roots)from ze)]
 |build t ps=>
  have hp:∀p∈ps.toList,s'.As p.2=s.As p.2/\BA s s' (s.As p.2).roots:=λp hp=>h p.2 (by rw[ho];simp only[Op.operands,List.toList_toArray];grind);simp only[Jd hp]
 |buildSlice t n ps=>
  have hp:∀p∈ps.toList,s'.As p.2=s.As p.2/\BA s s' (s.As p.2).roots:=λp hp=>h p.2 (by rw[ho];simp only[Op.operands,List.toList_toArray];grind);simp only[HL hp]
 |load t x=>
  have hx:=h x (by rw[ho];simp[Op.operands]);simp only[hx.1,LF hx.2]
 |store t x y=>
  have hx:=(h x (by rw[ho];simp[Op.operands])).one;have hy:=h y (by rw[ho];simp[Op.operands]);simp only[hx.1,hy.1];have hy2:=hy.2;generalize s.As y=p at hy2;cases cx.ty t with
  |none=>
   have ze:=hx.2;generalize s.Ag x=q at ze;exact LZ ze
  |some ty=>cases p with
   |Db vs=>rfl
   |bx as=>rfl
   |v g as=>
    have hy2:BA s s' (as.flatMap LA.roots):=hy2;dsimp only;cases hn:MF (s.Ag x) as with
    |nil=>simp only[GA,Il hx.2 hy2]
    |cons r rs=>
     have yu:BA s s' (r::rs):=λr' yi=>hy2 r' (by rw[<-hn]at yi;exact LH yi);simp only[E5 yu];cases hf:Ap cx s (r::rs)with
     |none=>rfl
     |some fs=>
      have hleafs:=FT hf;simp only[GA,Il (hx.2.app hleafs) (hy2.app hleafs)]
 |makeInterface t x=>
  have hx:=(h x (by rw[ho];simp[Op.operands])).one;grind
 |makeFunc fn xs ys=>
  cases fn with
  |func g=>
   have hmap:ys.toList.map s'.As=ys.toList.map s.As:=List.map_congr_left λy hy=>(h y (by rw[ho];simp[Op.operands];exact .inr ADu)).1
   have za:∀a∈ys.toList.map s.As,BA s s' a.roots:=λa ha=>by
    obtain⟨y,hy,rfl⟩:=AAw.1 ha;exact(h y (by rw[ho];simp[Op.operands];exact .inr ADu)).2
   obtain⟨e1,e2⟩:=Ig za;grind
  |_=>rfl
 |nilCheck x=>
  have hx:=h x (by rw[ho];simp[Op.operands]);simp only[hx.1];have ze:=hx.2;generalize s.As x=p at ze;cases p with
  |bx as=>rfl
  |v g as=>simp only[D8 (EW ze)]
  |Db vs=>simp only[D8 (EW ze)]
 |binOp op tx x y ty=>
  have hx:=h x (by rw[ho];simp[Op.operands]);have hy:=h y (by rw[ho];simp[Op.operands]);simp only[hx.1,hy.1]
 |unOp op tx x=>
  have hx:=(h x (by rw[ho];simp[Op.operands])).one;grind
 |convert t1 t2 x=>
  have hx:=(h x (by rw[ho];simp[Op.operands])).one;simp only[hx.1];have ze:=hx.2;generalize s.Ag x=p at ze;cases cx.ty t1 with
  |none=>rfl
  |some ta=>cases cx.ty t2 with
   |none=>rfl
   |some ty=>cases p with
    |sc l z=>cases l<;>first|rfl|(simp only[CU ze])
    |_=>simp only[CU ze]
 |makeSlice t x y=>
  have hx:=(h x (by rw[ho];simp[Op.operands])).one;have hy:=(h y (by rw[ho];simp[Op.operands])).one;simp only[hx.1,hy.1]
 |slice ti x lo hi m=>
  have hx:=(h x (by rw[ho];simp[Op.operands])).one;have zR:∀y,lo=some y->GH s s' y:=λy e=>h y (by rw[ho,e];simp[Op.operands]);have hhi:∀y,hi=some y->GH s s' y:=λy e=>h y (by rw[ho,e];simp[Op.operands]);cases m with
  |some m=>rfl
  |none=>
   simp only[hx.1];have ze:=hx.2;generalize s.Ag x=p at ze;cases p with
   |sc l b=>cases l<;>simp only[EV zR,EV hhi]
   |ref c=>simp only[EV zR,EV hhi,BW (ze c.r (by simp[LA.roots]))]
   |_=>rfl
 |fieldAddr t x f=>
  have hx:=h x (by rw[ho];simp[Op.operands]);simp only[hx.1];have ze:=hx.2;generalize s.As x=p at ze;cases p with
  |bx as=>rfl
  |v g as=>simp only[D8 (EW ze)]
  |Db vs=>simp only[D8 (EW ze)]
 |field t x f=>
  have hx:=h x (by rw[ho];simp[Op.operands]);simp only[hx.1]
 |indexAddr ti x i=>
  have hx:=(h x (by rw[ho];simp[Op.operands])).one;have hi:=(h i (by rw[ho];simp[Op.operands])).one;simp only[hx.1,hi.1];have ze:=hx.2;generalize s.Ag x=p at ze;cases p with
  |ref c=>simp only[BW (ze c.r (by simp[LA.roots]))]
  |D0 c lo hi=>simp only[BW (ze c.r (by simp[LA.roots]))]
  |sc l b=>grind
  |_=>rfl
 |index ti x i=>
  have hx:=(h x (by rw[ho];simp[Op.operands])).one;have hi:=(h i (by rw[ho];simp[Op.operands])).one;grind
 |extract x i=>
  have hx:=h x (by rw[ho];simp[Op.operands]);simp only[hx.1]
 |call c=>grind
 |_=>rfl
theorem AI(a b i:Nat):(Nat.lor a b).testBit i=(a.testBit i||b.testBit i):=Nat.testBit_or a b i
theorem CL(n i:Nat):(2 ^ n).testBit i=decide (n=i):=Nat.testBit_two_pow
theorem Ht(r i:Nat):(J0 r).testBit i=decide (4*r+1=i):=CL _ _
theorem FV(r i:Nat):(LB r).testBit i=decide (4*r+3=i):=CL _ _
theorem Gj(a:AV)(r:Nat)(h:r∈a.roots):a.mask.testBit (4*r+1)=true/\a.mask.testBit (4*r+3)=true:=by
 unfold AV.mask
 revert h
 generalize a.roots=rs;intro h
 induction rs with
 |nil=>cases h
 |cons x rs ih=>
  rw[List.foldr_cons,AI,AI,AI,AI,Ht,FV,Ht,FV];grind
theorem IT(s:St):∀(xs:List Operand)(m0:Nat)(x:Operand),x∈xs->(∀t,x=.tmp t->(xs.foldr (λx m=>match x with
  | .tmp t=>Nat.lor (2 ^ (2*t)) (Nat.lor (s.slot t).mask m)
  |_=>m) m0).testBit (2*t)=true/\∀r∈(s.slot t).roots,(xs.foldr (λx m=>match x with
  | .tmp t=>Nat.lor (2 ^ (2*t)) (Nat.lor (s.slot t).mask m)
  |_=>m) m0).testBit (4*r+1)=true/\(xs.foldr (λx m=>match x with
  | .tmp t=>Nat.lor (2 ^ (2*t)) (Nat.lor (s.slot t).mask m)
  |_=>m) m0).testBit (4*r+3)=true)
 | [],m0,x,h,t,e=>by cases h
 |y::xs,m0,x,h,t,e=>by
  rw[List.foldr_cons];rcases AAj.1 h with h|h
  ·subst h;subst e;dsimp only;refine⟨by rw[AI,CL];simp,λr hr=>⟨by rw[AI,AI,(Gj _ r hr).1];simp,by rw[AI,AI,(Gj _ r hr).2];simp⟩⟩
  ·obtain⟨h1,h2⟩:=IT s xs m0 x h t e;cases y with
   |tmp u=>
    dsimp only;exact⟨by rw[AI,AI,h1];simp,λr hr=>⟨by rw[AI,AI,(h2 r hr).1];simp,by rw[AI,AI,(h2 r hr).2];simp⟩⟩
   |_=>grind
theorem HZ(s:St)(i:Nat):∀(xs:List Operand)(m0:Nat),m0.testBit i=true->(xs.foldr (λx m=>match x with
  | .tmp t=>Nat.lor (2 ^ (2*t)) (Nat.lor (s.slot t).mask m)
  |_=>m) m0).testBit i=true
 | [],m0,h=>h
 |y::xs,m0,h=>by
  rw[List.foldr_cons];have:=HZ s i xs m0 h;cases y with
  |tmp u=>dsimp only;rw[AI,AI,this];simp
  |_=>exact this
theorem Ja(x:Operand)(h:∀t,x≠.tmp t):s'.As x=s.As x/\(s.As x).roots=[]:=by
 have hv:∀v,(ofConst v).roots=[]:=λv=>by
  cases v with
  |slice A n c=>
   cases A with
   |none=>cases n with
    |zero=>cases c<;>rfl
    |succ n=>rfl
   |some a=>rfl
  |pointer A=>cases A<;>rfl
  |_=>rfl
 cases x with
 |tmp t=>grind
 |const c=>
  cases c with
  |agg cs=>
   refine⟨rfl,?_⟩;show(cs.toList.map ofConst).flatMap LA.roots=[];rw[List.flatMap_map];simp only[hv,Gm]
  |bool b=>exact⟨rfl,by simp[St.As,AV.roots,hv]⟩
  |int k n=>exact⟨rfl,by simp[St.As,AV.roots,hv]⟩
  |float k n=>exact⟨rfl,by simp[St.As,AV.roots,hv]⟩
  |complex k x y=>exact⟨rfl,by simp[St.As,AV.roots,hv]⟩
  |string b=>exact⟨rfl,by simp[St.As,AV.roots,hv]⟩
  |pointer b=>exact⟨rfl,by simp[St.As,AV.roots,hv]⟩
  |slice b n c=>exact⟨rfl,by simp[St.As,AV.roots,hv]⟩
  |map r=>exact⟨rfl,by simp[St.As,AV.roots,hv]⟩
  |chan r=>exact⟨rfl,by simp[St.As,AV.roots,hv]⟩
  |func f x y=>exact⟨rfl,by simp[St.As,AV.roots,hv]⟩
  |nilFunc=>exact⟨rfl,by simp[St.As,AV.roots,hv]⟩
  |iface t x=>exact⟨rfl,by simp[St.As,AV.roots,hv]⟩
  |nilIface=>exact⟨rfl,by simp[St.As,AV.roots,hv]⟩
  |tuple vs=>exact⟨rfl,by simp[St.As,AV.roots,hv]⟩
 |global g=>exact⟨rfl,rfl⟩
 |func f=>exact⟨rfl,rfl⟩
theorem KY(r j:Nat):∀ {a b:LA},a.norm=b.norm->H2 r j a=H2 r j b:=by
 have key:∀a:LA,H2 r j a=H2 r j a.norm:=λa=>by
  cases a with
  |arr AB gen t e xs d=>cases d<;>rfl
  |_=>rfl
 grind
theorem EN(r:Nat):∀(j:Nat) {as bs:List LA},as.map LA.norm=bs.map LA.norm->BC r j as=BC r j bs
 |j,[],[],_=>rfl
 |j,[],b::bs,h=>by cases h
 |j,a::as,[],h=>by cases h
 |j,a::as,b::bs,h=>by simp only[ABI,List.cons.injEq]at h;simp only[BC,KY r j h.1,EN r (j+1) h.2]
theorem KM{r j AB n:Nat}{β:Type}{k:List LA->Step β}(h:(s'.root r).norm=(s.root r).norm):s'.C2 (.ptr r j AB) n k=s.C2 (.ptr r j AB) n k:=by
 have h1:(s'.root r).box=(s.root r).box:=by have:=congrArg Bv.box h;exact this
 have h2:(s'.root r).AB=(s.root r).AB:=by have:=congrArg Bv.AB h;exact this
 have h3:(s'.root r).ls.map LA.norm=(s.root r).ls.map LA.norm:=by have:=congrArg Bv.ls h;exact this
 have h4:(s'.root r).ls.length=(s.root r).ls.length:=by have:=congrArg List.length h3;simpa using this
 have h5:BC r j (((s'.root r).ls.drop j).take n)=BC r j (((s.root r).ls.drop j).take n):=EN r j (by rw[List.map_take,List.map_take,List.map_drop,List.map_drop,h3]);simp only[St.C2,h1,h2,h4,h5]
theorem Mu{ops:Array Oper}{o:Oper}(h:NK (Ax ops o s) s s'):AA cx v o s'=AA cx v o s/\∀j want t,o.guard=some (j,want)->(ops[j]?).bind (·.dst)=some t->s'.slot t=s.slot t:=by
 have hguard:∀j want t,o.guard=some (j,want)->(ops[j]?).bind (·.dst)=some t->(BM ops o).testBit (2*t)=true:=by intro j want t hg ht;unfold BM;rw[hg];dsimp only;rw[ht];dsimp only;rw[CL];simp
 by_cases hm:∃t,o.op=.move (.tmp t)\/(∃i,o.op=.extract (.tmp t) i)\/∃T f,o.op=.field T (.tmp t) f
 ·obtain⟨t,ho⟩:=hm;have hrm:Ax ops o s=Nat.lor (2 ^ (2*t)) (BM ops o):=by rcases ho with ho|⟨i,ho⟩|⟨T,f,ho⟩<;>(unfold Ax;rw[ho])
  rw[hrm]at h;have h1:s'.slot t=s.slot t:=h.1 t (by rw[AI,CL];simp);refine⟨?_,λj want u hg ht=>h.1 u (by rw[AI,hguard j want u hg ht];simp)⟩;have h2:s'.As (.tmp t)=s.As (.tmp t):=h1;unfold AA;rcases ho with ho|⟨i,ho⟩|⟨T,f,ho⟩<;>(rw[ho];grind)
 by_cases hp:∃t g r j AB,(∃T,o.op=.load T (.tmp t)\/∃f,o.op=.fieldAddr T (.tmp t) f)/\s.slot t=.v g [.ptr r j AB]
 ·obtain⟨t,g,r,j,AB,⟨T,ho⟩,hs⟩:=hp;have hrm:Ax ops o s=Nat.lor (2 ^ (2*t)) (Nat.lor (J0 r) (BM ops o)):=by rcases ho with ho|⟨f,ho⟩<;>(unfold Ax;grind)
  rw[hrm]at h;have h1:s'.slot t=s.slot t:=h.1 t (by rw[AI,CL];simp);have h2:(s'.root r).norm=(s.root r).norm:=h.2.2 r (by rw[AI,AI,Ht];simp);refine⟨?_,λj want u hg ht=>h.1 u (by rw[AI,AI,hguard j want u hg ht];simp)⟩;have h3:s.As (.tmp t)=.v g [.ptr r j AB]:=hs;have h4:s'.As (.tmp t)=.v g [.ptr r j AB]:=h1.trans hs
  have ha:s'.alive (AV.one? (.v g [.ptr r j AB]))=s.alive (AV.one? (.v g [.ptr r j AB])):=by
   cases g with
   |true=>rfl
   |false=>
    have h5:(s'.root r).box=(s.root r).box:=by have:=congrArg Bv.box h2;exact this
    have h6:(s'.root r).AB=(s.root r).AB:=by have:=congrArg Bv.AB h2;exact this
    show((s'.root r).box&&(s'.root r).AB==AB)=((s.root r).box&&(s.root r).AB==AB);rw[h5,h6]
  have hl:∀n (k:List LA->Step (List Wr)),s'.E7 (.v g [.ptr r j AB]) n k=s.E7 (.v g [.ptr r j AB]) n k:=λn k=>by
   show s'.C2 (AV.one? (.v g [.ptr r j AB])) n k=s.C2 (AV.one? (.v g [.ptr r j AB])) n k;cases g with
   |true=>rfl
   |false=>exact KM h2
  unfold AA;rcases ho with ho|⟨f,ho⟩
  ·rw[ho];grind
  ·rw[ho];simp only[h3,h4,ha]
 by_cases hq:∃t T,o.op=.load T (.tmp t)\/∃f,o.op=.fieldAddr T (.tmp t) f
 ·obtain⟨t,T,ho⟩:=hq
  have hrm:Ax ops o s=Nat.lor (2 ^ (2*t)) (Nat.lor (s.slot t).mask (BM ops o)):=by
   have hno:∀g r j AB,s.slot t≠.v g [.ptr r j AB]:=λg r j AB hs=>hp ⟨t,g,r,j,AB,⟨T,ho⟩,hs⟩;rcases ho with ho|⟨f,ho⟩
   ·unfold Ax;grind
   ·unfold Ax;grind
  rw[hrm]at h;have h1:s'.slot t=s.slot t:=h.1 t (by rw[AI,CL];simp);refine⟨Hm λx hx=>?_,λj want u hg ht=>h.1 u (by rw[AI,AI,hguard j want u hg ht];simp)⟩
  have hx:x=.tmp t:=by
   rcases ho with ho|⟨f,ho⟩
   ·rw[ho]at hx;simpa[Op.operands]using hx
   ·rw[ho]at hx;simpa[Op.operands]using hx
  subst hx;exact⟨h1,λr hr=>h.2.1 r (by rw[AI,AI,(Gj (s.slot t) r hr).1];simp) (by rw[AI,AI,(Gj (s.slot t) r hr).2];simp)⟩
 have hrm:Ax ops o s=o.op.operands.toList.foldr (λx m=>match x with
  | .tmp t=>Nat.lor (2 ^ (2*t)) (Nat.lor (s.slot t).mask m)
  |_=>m) (BM ops o):=by
  unfold Ax;split
  ·grind
  ·grind
  ·grind
  ·grind
  ·grind
  ·rfl
 rw[hrm]at h;refine⟨Hm λx hx=>?_,λj want t hg ht=>?_⟩
 ·by_cases hq:∃t,x=.tmp t
  ·obtain⟨t,rfl⟩:=hq;obtain⟨h1,h2⟩:=IT s o.op.operands.toList _ (.tmp t) hx t rfl;exact⟨h.1 t h1,λr hr=>h.2.1 r (h2 r hr).1 (h2 r hr).2⟩
  ·obtain⟨h1,h2⟩:=Ja (s:=s) (s':=s') x λt e=>hq ⟨t,e⟩;exact⟨h1,λr hr=>No⟩
 ·exact h.1 t (HZ s _ _ _ (hguard j want t hg ht))
end
end Go.Ev
namespace Go.Ev
def B1(m n:Nat):Prop:=∀i,m.testBit i=true->n.testBit i=false
theorem Gy{m n:Nat}(h:(Nat.land m n==0)=true):B1 m n:=by
 intro i hi;have h0:m &&& n=0:=ADh
 have:=congrArg (λx=>x.testBit i) h0;grind
theorem B1.symm{m n:Nat}(h:B1 m n):B1 n m:=λi hi=>by
 cases hm:m.testBit i with
 |false=>rfl
 |true=>rw[h i hm]at hi;cases hi
theorem Bn(s:St)(w:Wr):(s.AG w).sl.length=s.sl.length/\(s.AG w).ro.length=s.ro.length:=by
 cases w<;>exact⟨by simp[St.AG,CF],by simp[St.AG,CF]⟩
theorem B7:∀(ws:List Wr)(s:St),(s.app ws).sl.length=s.sl.length/\(s.app ws).ro.length=s.ro.length
 | [],s=>⟨rfl,rfl⟩
 |w::ws,s=>by obtain⟨h1,h2⟩:=B7 ws (s.AG w);obtain⟨h3,h4⟩:=Bn s w;exact⟨h1.trans h3,h2.trans h4⟩
theorem Ir:∀(ws:List Wr)(s:St),(s.app ws).Bd=s.Bd
 | [],s=>rfl
 |w::ws,s=>(Ir ws (s.AG w)).trans (by cases w<;>rfl)
theorem G0{s:St}{w:Wr}{t:Nat}(h:w.mask.testBit (2*t)=false):(s.AG w).slot t=s.slot t:=by
 cases w with
 |slot u a=>
  simp only[Wr.mask,CL,AAr]at h;rw[BF,AAT (λhh=>h (by rw[hh.1]))]
 |root r x=>rfl
 |leaf r j a=>rfl
theorem Bc{s:St}{w:Wr}{r:Nat}(h:w.mask.testBit (4*r+3)=false):(s.AG w).root r=s.root r:=by
 cases w with
 |slot u a=>rfl
 |root q x=>
  simp only[Wr.mask,AI,Ht,FV,AAn,AAr]at h;rw[Aq,AAT (λhh=>h.2 (by rw[hh.1]))]
 |leaf q j a=>
  simp only[Wr.mask,AI,Ht,FV,AAn,AAr]at h;show nth dead (DL s.ro q _) r=_;rw[BX,AAT (λhh=>h.2 (by rw[hh.1]))];rfl
theorem BH(w:Wr)(ws:List Wr)(i:Nat):(AD (w::ws)).testBit i=(w.mask.testBit i||(AD ws).testBit i):=AI _ _ _
theorem DP{t:Nat}:∀ {ws:List Wr} {s:St},(AD ws).testBit (2*t)=false->(s.app ws).slot t=s.slot t
 | [],s,h=>rfl
 |w::ws,s,h=>by rw[BH,AAn]at h;exact(DP h.2).trans (G0 h.1)
theorem DO{r:Nat}:∀ {ws:List Wr} {s:St},(AD ws).testBit (4*r+3)=false->(s.app ws).root r=s.root r
 | [],s,h=>rfl
 |w::ws,s,h=>by rw[BH,AAn]at h;exact(DO h.2).trans (Bc h.1)
theorem Ep{t:Nat}:∀ {ws:List Wr} {s s':St},s'.sl.length=s.sl.length->s'.slot t=s.slot t->(s'.app ws).slot t=(s.app ws).slot t
 | [],s,s',hl,h=>h
 |w::ws,s,s',hl,h=>by
  show((s'.AG w).app ws).slot t=((s.AG w).app ws).slot t;refine Ep ((Bn s' w).1.trans (hl.trans (Bn s w).1.symm)) ?_;cases w with
  |slot u a=>rw[BF,BF,hl,h]
  |root r x=>exact h
  |leaf r j a=>exact h
theorem Eo{r:Nat}:∀ {ws:List Wr} {s s':St},s'.ro.length=s.ro.length->s'.root r=s.root r->(s'.app ws).root r=(s.app ws).root r
 | [],s,s',hl,h=>h
 |w::ws,s,s',hl,h=>by
  show((s'.AG w).app ws).root r=((s.AG w).app ws).root r;refine Eo ((Bn s' w).2.trans (hl.trans (Bn s w).2.symm)) ?_;cases w with
  |slot u a=>exact h
  |root q x=>rw[Aq,Aq,hl,h]
  |leaf q j a=>
   show nth dead (DL s'.ro q _) r=nth dead (DL s.ro q _) r;rw[BX,BX,hl];split
   ·grind
   ·exact h
theorem Fp{α:Type}(l:List α){n m:Nat}(h:n≠m)(x y:α):DL (DL l n x) m y=DL (DL l m y) n x:=by rw[CG,CG,CG,CG];exact List.set_comm _ _ h
theorem K1{s:St}{w w':Wr}(h:B1 w.mask w'.mask):(s.AG w).AG w'=(s.AG w').AG w:=by
 have key:∀ {n m:Nat},B1 (2 ^ n) (2 ^ m)->n≠m:=by intro n m h e;have:=h n No;rw[CL,e]at this;simp at this
 have hh:∀ {r q:Nat} {a b:Nat},a.testBit (4*r+3)=true->b.testBit (4*q+3)=true->B1 a b->r≠q:=by intro r q a b ha hb hab e;have:=hab (4*r+3) ha;rw[e,hb]at this;cases this
 have full:∀r,(Nat.lor (J0 r) (LB r)).testBit (4*r+3)=true:=λr=>by rw[AI,FV];simp
 have alone:∀r,(LB r).testBit (4*r+3)=true:=λr=>by rw[FV];simp
 have ll:∀ {s:St} {r j q k:Nat} {a b:LA},r≠q->(s.AG (.leaf r j a)).AG (.leaf q k b)=(s.AG (.leaf q k b)).AG (.leaf r j a):=by intro s r j q k a b yF;have e1:(s.AG (.leaf r j a)).root q=s.root q:=Bc (by simp only[Wr.mask,AI,Ht,FV,AAn,AAr];omega);have e2:(s.AG (.leaf q k b)).root r=s.root r:=Bc (by simp only[Wr.mask,AI,Ht,FV,AAn,AAr];omega);simp only[St.AG]at e1 e2 ⊢;rw[e1,e2,Fp _ yF]
 have rl:∀ {s:St} {r q j:Nat} {x:Bv} {b:LA},r≠q->(s.AG (.root r x)).AG (.leaf q j b)=(s.AG (.leaf q j b)).AG (.root r x):=by
  intro s r q j x b yF;have e1:(s.AG (.root r x)).root q=s.root q:=by rw[Aq,AAT (λhh=>yF hh.1)]
  simp only[St.AG]at e1 ⊢;rw[e1,Fp _ yF]
 have lq:∀ {s:St} {r q j k:Nat} {a:LA},r≠q->(s.AG (.leaf r j a)).leaf q k=s.leaf q k:=by
  intro s r q j k a yF;unfold St.leaf;rw[Bc (by simp only[Wr.mask,AI,Ht,FV,AAn,AAr];omega)]
 have rq:∀ {s:St} {r q k:Nat} {x:Bv},r≠q->(s.AG (.root r x)).leaf q k=s.leaf q k:=by intro s r q k x yF;unfold St.leaf;rw[Aq,AAT (λhh=>yF hh.1)]
 cases w with
 |slot t a=>cases w' with
  |slot u b=>
   have yF:t≠u:=λe=>key h (by rw[e]);simp only[St.AG];rw[Fp _ yF]
  |root r x=>rfl
  |leaf r j b=>rfl
 |root r x=>cases w' with
  |slot u b=>rfl
  |root q y=>
   have yF:r≠q:=hh (full r) (full q) h;simp only[St.AG];rw[Fp _ yF]
  |leaf q j b=>exact rl (hh (full r) (full q) h)
 |leaf r j a=>cases w' with
  |slot u b=>rfl
  |root q y=>exact(rl (hh (full r) (full q) h).symm).symm
  |leaf q k b=>exact ll (hh (full r) (full q) h)
theorem Em{w:Wr}:∀ {ws:List Wr} {s:St},B1 w.mask (AD ws)->(s.AG w).app ws=(s.app ws).AG w
 | [],s,h=>rfl
 |w'::ws,s,h=>by
  have h1:B1 w.mask w'.mask:=λi hi=>by have:=h i hi;rw[BH,AAn]at this;exact this.1
  have h2:B1 w.mask (AD ws):=λi hi=>by have:=h i hi;rw[BH,AAn]at this;exact this.2
  show((s.AG w).AG w').app ws=_;rw[K1 h1,Em h2];rfl
theorem JT{zf:List Wr}:∀ {ws:List Wr} {s:St},B1 (AD ws) (AD zf)->(s.app ws).app zf=(s.app zf).app ws
 | [],s,h=>rfl
 |w::ws,s,h=>by have h1:B1 w.mask (AD zf):=λi hi=>h i (by rw[BH,hi];rfl);have h2:B1 (AD ws) (AD zf):=λi hi=>h i (by rw[BH,hi];simp);show((s.AG w).app ws).app zf=_;rw[JT h2,Em h1];rfl
def BJ(s:St)(p:Nat->Prop):Prop:=(∀t,∀n∈(s.slot t).AF,p n)/\∀r,∀n∈(s.root r).AF,p n
theorem BJ.mono{s:St}{p q:Nat->Prop}(h:BJ s p)(hq:∀n,p n->q n):BJ s q:=⟨λt n hn=>hq n (h.1 t n hn),λr n hn=>hq n (h.2 r n hn)⟩
theorem BJ.zero{s:St}{p:Nat->Prop}(h:BJ s p):p 0:=by refine h.2 s.ro.length 0 ?_;have:s.root s.ro.length=dead:=Au _ (AAi _);rw[this];exact AAo
theorem BJ.AG{s:St}{p:Nat->Prop}(h:BJ s p){w:Wr}(hw:∀n∈w.AF,p n):BJ (s.AG w) p:=by
 cases w with
 |slot u a=>
  refine⟨λt n hn=>?_,h.2⟩;rw[BF]at hn;split at hn
  ·exact hw n hn
  ·exact h.1 t n hn
 |root q x=>
  refine⟨h.1,λr n hn=>?_⟩;rw[Aq]at hn;split at hn
  ·exact hw n hn
  ·exact h.2 r n hn
 |leaf q j a=>
  refine⟨h.1,λr n hn=>?_⟩;have ya:(s.AG (.leaf q j a)).root r=if q=r/\q<s.ro.length then { s.root q with ls:=DL (s.root q).ls j a }else s.root r:=BX _ _ _ _ _
  rw[ya]at hn;split at hn
  ·rcases AAj.1 hn with hn|hn
   ·subst hn;exact h.2 q _ AAo
   ·obtain⟨b,hb,hn2⟩:=AAP.1 hn;have hb:b∈DL (s.root q).ls j a:=hb;rw[CG]at hb;rcases List.mem_or_eq_of_mem_set hb with hb|hb
    ·exact h.2 q n (AAQ _ (AAP.2 ⟨b,hb,hn2⟩))
    ·rw[hb]at hn2;exact hw n hn2
  ·exact h.2 r n hn
theorem BJ.app{p:Nat->Prop}:∀ {ws:List Wr} {s:St},BJ s p->(∀w∈ws,∀n∈w.AF,p n)->BJ (s.app ws) p
 | [],s,h,hw=>h
 |w::ws,s,h,hw=>BJ.app (ws:=ws) (s:=s.AG w) (h.AG (hw w so)) λx hx=>hw x (AAQ _ hx)
theorem BJ.Hk{s:St}{p:Nat->Prop}(h:BJ s p){v:Nat}(hv:¬p v)(h1:1<v):Aj s v:=by
 refine⟨λt xv=>hv (h.1 t v xv),λr j=>.inr λxv=>?_,h1⟩;by_cases hj:j<(s.root r).ls.length
 ·exact hv (h.2 r v (AAQ _ (AAP.2 ⟨_,Ki hj,xv⟩)))
 ·have:s.leaf r j=.bad:=Au _ (AA1 hj);rw[this]at xv;cases xv
def Bg(ops:Array Oper)(o:Oper)(s:St)(b:Bool):Prop:=match o.guard with
 |none=>b=true
 |some (j,want)=>∃t,(ops[j]?).bind (·.dst)=some t/\((s.slot t=.v false [.undef]/\b=false)\/∃c:Bool,s.slot t=.v false [.sc .bool c]/\b=(c==want))
def Kx(cx:Cx)(g:Rg)(bs:It)(i:Nat)(o:Oper)(s:St)(ws:List Wr):Prop:=
 (Bg g.ops o s true/\(AA cx (g.v0+i) o s).leads ws/\JB cx o.dst g.v0 (g.v0+i) (nth 0 bs i) ws=true)\/(Bg g.ops o s false/\ws=Cg o.dst)
def Trace(cx:Cx)(g:Rg)(bs:It):Nat->List Oper->List (Nat×Nat)->St->List (Nat×List Wr)->Prop
 |_,[],_,_,[]=>True
 |i,o::r,lg,s,(rm,ws)::tr=>rm=Ax g.ops o s/\(g.draw=true->indep (nth 0 bs i) rm (AD ws) 0 lg=true)/\Kx cx g bs i o s ws/\Trace cx g bs (i+1) r (lg++[(rm,AD ws)]) (s.app ws) tr
 |_,_,_,_,_=>False
def AJ(A:Nat->Bool):Nat->List (Nat×List Wr)->St->St
 |_,[],s=>s
 |i,x::tr,s=>AJ A (i+1) tr (bif A i then s.app x.2 else s)
theorem Kv{α:Type}(d:α):∀(l:List α)(n:Nat),DL l n (nth d l n)=l
 | [],n=>rfl
 |x::xs,0=>rfl
 |x::xs,n+1=>by simp[DL,nth,Kv d xs n]
theorem B6{s:St}{t:Nat}{a:AV}(h:s.slot t=a):s.AG (.slot t a)=s:=by subst h;show { s with sl:=DL s.sl t (s.slot t) }=s;have:DL s.sl t (s.slot t)=s.sl:=Kv _ _ _;rw[this]
theorem EH{R:Type}{cx:Cx}{g:Rg}{bs:It}{k:St->Option R}{x:R}:∀(r:List Oper)(i:Nat) (lg:List (Nat×Nat)) (s:St),EG cx g (number i r) bs lg s k=some x->
  ∃tr,Trace cx g bs i r lg s tr/\tr.length=r.length/\k (AJ (λ_=>true) i tr s)=some x
 | [],i,lg,s,h=>⟨[],trivial,rfl,h⟩
 |o::r,i,lg,s,h=>by
  simp only[number,EG]at h
  have exec:Bg g.ops o s true->((AA cx (g.v0+i) o s).run λws=>
    if JB cx o.dst g.v0 (g.v0+i) (nth 0 bs i) ws&&(!g.draw||indep (nth 0 bs i) (Ax g.ops o s) (AD ws) 0 lg)then EG cx g (number (i+1) r) bs (lg++[(Ax g.ops o s,AD ws)]) (s.app ws) k else none)=some x->
    ∃tr,Trace cx g bs i (o::r) lg s tr/\tr.length=(o::r).length/\k (AJ (λ_=>true) i tr s)=some x:=by
   intro hg h;obtain⟨ws,hl,h⟩:=Step.Cp _ h;split at h
   ·rename_i hc;simp only[AAN,AAg,AAa]at hc;obtain⟨tr,h1,h2,h3⟩:=EH r (i+1) _ _ h;exact⟨(_,ws)::tr,⟨rfl,λhd=>hc.2.resolve_left (by simp[hd]),.inl ⟨hg,hl,hc.1⟩,h1⟩,by simp[h2],h3⟩
   ·cases h
  have skip:Bg g.ops o s false->(if(!g.draw||indep (nth 0 bs i) (Ax g.ops o s) (AD (Cg o.dst)) 0 lg)=true then EG cx g (number (i+1) r) bs (lg++[(Ax g.ops o s,AD (Cg o.dst))]) (s.app (Cg o.dst)) k else none)=some x->
    ∃tr,Trace cx g bs i (o::r) lg s tr/\tr.length=(o::r).length/\k (AJ (λ_=>true) i tr s)=some x:=by
   intro hg h;split at h
   ·rename_i hc;simp only[AAg,AAa]at hc;obtain⟨tr,h1,h2,h3⟩:=EH r (i+1) _ _ h;exact⟨(_,Cg o.dst)::tr,⟨rfl,λhd=>hc.resolve_left (by simp[hd]),.inr ⟨hg,rfl⟩,h1⟩,by simp[h2],h3⟩
   ·cases h
  cases hgd:o.guard with
  |none=>
   rw[hgd]at h;exact exec (by unfold Bg;rw[hgd]) h
  |some p=>
   obtain⟨j,want⟩:=p;rw[hgd]at h;dsimp only at h;cases ht:(g.ops[j]?).bind (·.dst)with
   |none=>grind
   |some t=>
    rw[ht]at h;dsimp only at h;have gd:∀(c:Bool),s.slot t=.v false [.sc .bool c]->Bg g.ops o s (c==want):=λc hc=>by unfold Bg;grind
    split at h
    ·rename_i hs;exact skip (by unfold Bg;grind) h
    ·rename_i c hs;cases want with
     |true=>
      dsimp only at h;cases c with
      |true=>
       have yA:s.AG (.slot t (IB true))=s:=B6 hs;grind
      |false=>
       have yA:s.AG (.slot t (IB false))=s:=B6 hs;grind
     |false=>
      dsimp only at h;cases c with
      |true=>
       have yA:s.AG (.slot t (IB true))=s:=B6 hs;grind
      |false=>
       have yA:s.AG (.slot t (IB false))=s:=B6 hs;grind
    ·cases h
end Go.Ev
namespace Go.Ev
theorem G7:∀(os:List Oper)(acc:It)(i:Nat),i<acc.length->nth 0 (Ei os acc) i=nth 0 acc i
 | [],acc,i,h=>rfl
 |o::os,acc,i,h=>by
  simp only[Ei];rw[G7 os _ i ADb,Ae,Ae,ABD h]
theorem HY(acc:It)(j:Nat):∀(es:List Edge),(es.foldr (λe m=>if Region.binds .any e then Nat.lor (2 ^ e.on) (Nat.lor (nth 0 acc e.on) m)else m) 0).testBit j=true->∃e∈es,Region.binds .any e=true/\(e.on=j\/(nth 0 acc e.on).testBit j=true)
 | [],h=>ADf
 |e::es,h=>by
  rw[List.foldr_cons]at h;split at h
  ·rename_i hb;rw[AI,AI,CL]at h;simp only[AAg,AAh]at h;rcases h with h|h|h
   ·exact⟨e,so,hb,.inl h⟩
   ·exact⟨e,so,hb,.inr h⟩
   ·obtain⟨e',h1,h2⟩:=HY acc j es h;exact⟨e',AAQ _ h1,h2⟩
  ·obtain⟨e',h1,h2⟩:=HY acc j es h;exact⟨e',AAQ _ h1,h2⟩
theorem G6(j:Nat):∀(os:List Oper)(acc:It)(k:Nat)(o:Oper),os[k]?=some o->(nth 0 (Ei os acc) (acc.length+k)).testBit j=true->∃e∈o.after.toList,Region.binds .any e=true/\(e.on=j\/(nth 0 (Ei os acc) e.on).testBit j=true)
 | [],acc,k,o,h,hb=>ADf
 |x::os,acc,k,o,h,hb=>by
  simp only[Ei]at hb ⊢;cases k with
  |zero=>
   simp at h;subst h;rw[AA0,G7 os _ acc.length so,Ae,ABN (AAi _)]at hb;simp only[Nat.sub_self,List.getElem?_cons_zero,ABB]at hb;obtain⟨e,h1,h2,h3⟩:=HY acc j _ hb;refine⟨e,h1,h2,h3.imp id λh3=>?_⟩;by_cases xz:e.on<acc.length
   ·rw[G7 os _ e.on ADb,Ae,ABD xz,<-Ae];exact h3
   ·rw[Au 0 (AA1 xz)]at h3;simp at h3
  |succ k=>
   refine G6 j os _ k o ADh ?_;rw[ABE,List.length_singleton,show acc.length+1+k=acc.length+(k+1) by omega];exact hb
theorem CV:∀(os:List Oper)(i:Nat),Dt i os=true->∀(k:Nat)(o:Oper),os[k]?=some o->∀e∈o.after.toList,Region.binds .any e=true->e.on<i+k
 | [],i,h,k,o,ho=>by simp at ho
 |x::os,i,h,k,o,ho=>by
  simp only[Dt,AAN]at h;cases k with
  |zero=>
   simp at ho;subst ho;intro e he hb;have:=AAZ.1 h.1 e he;simpa[hb]using this
  |succ k=>
   intro e he hb;have:=CV os (i+1) h.2 k o (by simpa using ho) e he hb;omega
theorem HC{ops:Array Oper}(hE:Dt 0 ops.toList=true){A:Nat->Prop}(hA:∀i o,A i->ops[i]?=some o->∀e∈o.after.toList,Region.binds .any e=true->A e.on)(hn:∀i,A i->i<ops.size):
  ∀(i:Nat),A i->∀j,(nth 0 (Ei ops.toList []) i).testBit j=true->A j:=by
 intro i
 induction i using Nat.strongRecOn with
 |_ i ih=>
  intro hi j hj;have xz:=hn i hi;have ho:ops.toList[i]?=some ops[i]:=by simp[xz]
  obtain⟨e,h1,h2,h3⟩:=G6 j ops.toList [] i ops[i] ho ADs;have hon:=CV ops.toList 0 hE i ops[i] ho e h1 h2;have hAe:=hA i ops[i] hi (by simp[xz]) e h1 h2;rcases h3 with h3|h3
  ·rw[<-h3];exact hAe
  ·exact ih e.on J hAe j h3
theorem Ik{ops:Array Oper}(hE:Dt 0 ops.toList=true){A:Nat->Prop}(hA:∀i o,A i->ops[i]?=some o->∀e∈o.after.toList,Region.binds .any e=true->A e.on)(hn:∀i,A i->i<ops.size)
  {i:Nat} {o:Oper} (ho:ops[i]?=some o) (hi:∀e∈o.after.toList,Region.binds .any e=true->A e.on) (j:Nat) (hj:(nth 0 (Ei ops.toList []) i).testBit j=true):A j:=by
 have ho':ops.toList[i]?=some o:=by simpa using ho
 obtain⟨e,h1,h2,h3⟩:=G6 j ops.toList [] i o ho' ADs;rcases h3 with h3|h3
 ·rw[<-h3];exact hi e h1 h2
 ·exact HC hE hA hn e.on (hi e h1 h2) j h3
section
variable {P:Program}{E:Ci}{s:St}{W:Wd}{a:Act}{cx:Cx}{g:Rg}{bs:It}{Q:Exit->Act->World->Prop}
theorem Io{tm:Array Value}(h:AW E s tm W){ops:Array Oper}{o:Oper}{b:Bool}(hg:Bg ops o s b):Region.wanted o (yielded ops tm)=b:=by
 unfold Bg at hg;unfold Region.wanted;cases hq:o.guard with
 |none=>rw[hq]at hg;exact hg.symm
 |some p=>
  obtain⟨j,want⟩:=p;rw[hq]at hg;dsimp only at hg ⊢;obtain⟨t,ht,hs⟩:=hg;have zo:=h.AM t;unfold yielded;rw[ht];dsimp only[Option.bind_some];rcases hs with⟨hs,rfl⟩|⟨c,hs,rfl⟩
  ·rw[hs]at zo;have zo:tm.getD t Go.undef=Go.undef:=zo;cases hx:tm[t]? with
   |none=>rfl
   |some x=>
    have:x=Go.undef:=by rw[<-zo];simp[AAm,hx]
    subst this;rfl
  ·rw[hs]at zo;have zo:tm.getD t Go.undef=.bool c:=zo.1;cases hx:tm[t]? with
   |none=>rw[AAm,hx]at zo;cases zo
   |some x=>
    have:x=.bool c:=by rw[<-zo];simp[AAm,hx]
    subst this;cases c<;>cases want<;>rfl
theorem Ke(hc:Di P cx)(yM:C7 P E cx.env)(h:AW E s a.tmps W){i:Nat}{o:Oper}{ws:List Wr}(hv:Aj s (g.v0+i))(hd:∀d,o.dst=some d->d<a.tmps.size)(zI:Kx cx g bs i o s ws)
  {K:Act->World->Prop} (hK:∀a' W',a'.defers=a.defers->AW E (s.app ws) a'.tmps W'->K a' W'.w) (ho:g.ops[i]?=some o):wpOp P g.ops Q i K a W.w:=by
 unfold wpOp;rw[ho];dsimp only;rcases zI with⟨hg,hl,_⟩|⟨hg,rfl⟩
 ·rw[Io h hg,AAS rfl];exact .inl (MN hc yM h hv hd hl K Q λa' W' h1 h2=>hK a' W' h1 h2)
 ·rw[Io h hg,AAT so];cases yp:o.dst with
  |none=>exact hK a W rfl (by simp only[Cg,yp];exact h)
  |some d=>
   refine hK _ W rfl ?_;simp only[Cg,yp];exact h.slot d (show BQ s W (one .undef) Go.undef from rfl)
def pA(v0:Nat)(A:Nat->Prop)(n:Nat):Prop:=n<v0\/∃j,A j/\n=v0+j
theorem IM{i:Nat}{o:Oper}{ws:List Wr}(zI:Kx cx g bs i o s ws){A:Nat->Prop}(hA:∀j,(nth 0 bs i).testBit j=true->A j):∀w∈ws,∀n∈w.AF,pA g.v0 (λj=>A j\/j=i) n:=by
 intro w hw n hn;rcases zI with⟨_,_,yh⟩|⟨_,rfl⟩
 ·have h1:=AAZ.1 yh w hw;rw[AAN]at h1;have h2:=AAZ.1 h1.2 n hn;simp only[AAg,AAh,AAX,AAN]at h2;rcases h2 with(h2|h2)|⟨h2,h3⟩
  ·exact .inl h2
  ·exact .inr ⟨i,.inr rfl,h2⟩
  ·exact .inr ⟨n-g.v0,.inl (hA _ h3),J⟩
 ·cases yp:o.dst with
  |none=>rw[yp]at hw;cases hw
  |some d=>
   rw[yp]at hw;have:w=.slot d (one .undef):=by simpa[Cg]using hw
   subst this;simp[Wr.AF,one,AV.AF,LA.AF]at hn
theorem MX(hc:Di P cx)(yM:C7 P E cx.env)(h1:1<g.v0)(hb:∀i j,i<g.ops.size->(nth 0 bs i).testBit j=true->j<i):∀(r:List Oper)(i:Nat) (lg:List (Nat×Nat)) (s:St) (tr:List (Nat×List Wr)) (a:Act) (W:Wd),Trace cx g bs i r lg s tr->
  (∀(k:Nat)(o:Oper),r[k]?=some o->g.ops[i+k]?=some o)->AW E s a.tmps W->BJ s (pA g.v0 (· < i))->(∀o∈r,∀d,o.dst=some d->d<s.sl.length)->
  (∀a' W',a'.defers=a.defers->AW E (AJ (λ_=>true) i tr s) a'.tmps W'->BJ (AJ (λ_=>true) i tr s) (pA g.v0 (· < i+r.length))->Q .normal a' W'.w)->wpOps P g.ops Q (List.range' i r.length) a W.w
 | [],i,lg,s,[],a,W,ht,hr,xw,yB,hd,hK=>hK a W rfl xw yB
 | [],i,lg,s,_::_,a,W,ht,hr,xw,yB,hd,hK=>ht.elim
 |_::_,i,lg,s,[],a,W,ht,hr,xw,yB,hd,hK=>ht.elim
 |o::r,i,lg,s,(rm,ws)::tr,a,W,ht,hr,xw,yB,hd,hK=>by
  obtain⟨hrm,_,zI,ht⟩:=ht;have ho:g.ops[i]?=some o:=by have:=hr 0 o rfl;simpa using this
  have xz:i<g.ops.size:=(AA2.1 ho).1;rw[ABH,List.range'_succ,wpOps_cons];have hnv:Aj s (g.v0+i):=yB.Hk (by rintro (hh|⟨j,hj,e⟩)<;>omega) J;refine Ke hc yM xw hnv (λd yp=>by rw[<-xw.DT];exact hd o so d yp) zI (λa' W' hdef hrep'=>?_) ho;refine MX hc yM h1 hb r (i+1) _ _ tr a' W' ht (λk o hk=>by rw[show i+1+k=i+(k+1) by omega];exact hr (k+1) o (by simpa using hk)) hrep' ?_ ?_ ?_
  ·refine(yB.mono ?_).app (λw hw n hn=>?_)
   ·rintro n (hn|⟨j,hj,e⟩)
    ·exact .inl hn
    ·exact .inr ⟨j,J,e⟩
   ·rcases IM zI (A:=(· < i)) (λj hj=>hb i j xz hj) w hw n hn with hn|⟨j,hj,e⟩
    ·exact .inl hn
    ·exact .inr ⟨j,J,e⟩
  ·intro o' ho' d yp;rw[(B7 ws s).1];exact hd o' (AAQ _ ho') d yp
  ·intro a2 W2 hdef2 hrep2 hver2;refine hK a2 W2 (hdef2.trans hdef) hrep2 (hver2.mono ?_)
   rintro n (hn|⟨j,hj,e⟩)
   ·exact .inl hn
   ·exact .inr ⟨j,ADb,e⟩
end
end Go.Ev
namespace Go.Ev
theorem F0(b rm wm:Nat):∀(lg:List (Nat×Nat)) (j:Nat),indep b rm wm j lg=true->∀(k:Nat)(r w:Nat),lg[k]?=some (r,w)->b.testBit (j+k)=true\/(B1 w (Nat.lor rm wm)/\B1 r wm)
 | [],j,h,k,r,w,hk=>by simp at hk
 |(r0,w0)::lg,j,h,k,r,w,hk=>by
  simp only[indep,AAN,AAg]at h;cases k with
  |zero=>
   simp at hk;obtain⟨rfl,rfl⟩:=hk;exact h.1.imp id λhh=>⟨Gy hh.1,Gy hh.2⟩
  |succ k=>
   have:=F0 b rm wm lg (j+1) h.2 k r w (by simpa using hk);grind
section
variable {cx:Cx}{g:Rg}{bs:It}
theorem H6:∀(r:List Oper)(i:Nat) (lg:List (Nat×Nat)) (s:St) (tr:List (Nat×List Wr)),Trace cx g bs i r lg s tr->∀(k:Nat)(o:Oper)(rm:Nat)(ws:List Wr),r[k]?=some o->tr[k]?=some (rm,ws)->
  rm=Ax g.ops o (AJ (λj=>decide (j<i+k)) i tr s)/\Kx cx g bs (i+k) o (AJ (λj=>decide (j<i+k)) i tr s) ws/\(g.draw=true->indep (nth 0 bs (i+k)) rm (AD ws) 0 (lg++(tr.take k).map λx=>(x.1,AD x.2))=true)
 | [],i,lg,s,tr,ht,k,o,rm,ws,h1,h2=>by simp at h1
 |o0::r,i,lg,s,[],ht,k,o,rm,ws,h1,h2=>by simp at h2
 |o0::r,i,lg,s,(rm0,ws0)::tr,ht,k,o,rm,ws,h1,h2=>by
  obtain⟨hrm,xv,zI,ht⟩:=ht
  have none:∀(tr:List (Nat×List Wr)) (i j:Nat) (s:St),j<=i->AJ (λq=>decide (q<j)) i tr s=s:=by
   intro tr
   induction tr with
   |nil=>intro i j s h;rfl
   |cons x tr ih=>
    intro i j s h;simp only[AJ];rw[show decide (i<j)=false by simp;omega];exact ih (i+1) j s J
  cases k with
  |zero=>
   simp at h1 h2;obtain⟨rfl,rfl⟩:=h2;subst h1;rw[AA0,none _ _ _ _ (AAi _)];grind
  |succ k=>
   obtain⟨q1,q2,q3⟩:=H6 r (i+1) _ _ tr ht k o rm ws ADw AD0
   have e:AJ (λj=>decide (j<i+(k+1))) i ((rm0,ws0)::tr) s=AJ (λj=>decide (j<i+1+k)) (i+1) tr (s.app ws0):=by simp only[AJ];rw[show decide (i<i+(k+1))=true from decide_eq_true J,show i+(k+1)=i+1+k by omega];rfl
   grind
theorem G3(A:Nat->Bool):∀(tr:List (Nat×List Wr)) (i:Nat) (s:St),(AJ A i tr s).sl.length=s.sl.length/\(AJ A i tr s).ro.length=s.ro.length
 | [],i,s=>⟨rfl,rfl⟩
 |x::tr,i,s=>by
  simp only[AJ];obtain⟨h1,h2⟩:=G3 A tr (i+1) (bif A i then s.app x.2 else s);cases hA:A i with
  |true=>rw[hA]at h1 h2;exact⟨h1.trans (B7 _ _).1,h2.trans (B7 _ _).2⟩
  |false=>grind
theorem GM{A B:Nat->Bool}{t:Nat}:∀(tr:List (Nat×List Wr)) (i:Nat) (s s':St),s'.sl.length=s.sl.length->s'.slot t=s.slot t->(∀k x,tr[k]?=some x->(AD x.2).testBit (2*t)=true->B (i+k)=A (i+k))->
  (AJ B i tr s').slot t=(AJ A i tr s).slot t
 | [],i,s,s',hl,h,hA=>h
 |x::tr,i,s,s',hl,h,hA=>by
  simp only[AJ];refine GM tr (i+1) _ _ ?_ ?_ λk y hk hy=>by rw[show i+1+k=i+(k+1) by omega];exact hA (k+1) y No hy
  ·cases A i<;>cases B i<;>simp[B7,hl]
  ·by_cases hm:(AD x.2).testBit (2*t)=true
   ·have:=hA 0 x rfl hm;rw[AA0]at this;rw[this];cases A i with
    |true=>exact Ep hl h
    |false=>exact h
   ·have hm:(AD x.2).testBit (2*t)=false:=ADl
    have e1:∀b:Bool,(bif b then s'.app x.2 else s').slot t=s'.slot t:=λb=>by cases b;rfl;exact DP hm
    have e2:∀b:Bool,(bif b then s.app x.2 else s).slot t=s.slot t:=λb=>by cases b;rfl;exact DP hm
    rw[e1,e2];exact h
theorem GL{A B:Nat->Bool}{t:Nat}:∀(tr:List (Nat×List Wr)) (i:Nat) (s s':St),s'.ro.length=s.ro.length->s'.root t=s.root t->(∀k x,tr[k]?=some x->(AD x.2).testBit (4*t+3)=true->B (i+k)=A (i+k))->
  (AJ B i tr s').root t=(AJ A i tr s).root t
 | [],i,s,s',hl,h,hA=>h
 |x::tr,i,s,s',hl,h,hA=>by
  simp only[AJ];refine GL tr (i+1) _ _ ?_ ?_ λk y hk hy=>by rw[show i+1+k=i+(k+1) by omega];exact hA (k+1) y No hy
  ·cases A i<;>cases B i<;>simp[B7,hl]
  ·by_cases hm:(AD x.2).testBit (4*t+3)=true
   ·have:=hA 0 x rfl hm;rw[AA0]at this;rw[this];cases A i with
    |true=>exact Eo hl h
    |false=>exact h
   ·have hm:(AD x.2).testBit (4*t+3)=false:=ADl
    have e1:∀b:Bool,(bif b then s'.app x.2 else s').root t=s'.root t:=λb=>by cases b;rfl;exact DO hm
    have e2:∀b:Bool,(bif b then s.app x.2 else s).root t=s.root t:=λb=>by cases b;rfl;exact DO hm
    rw[e1,e2];exact h
theorem Ju(x:Bv)(j:Nat)(a:LA):({ x with ls:=DL x.ls j a }:Bv).norm={ x.norm with ls:=x.norm.ls.set j a.norm }:=by unfold Bv.norm;simp only[CG,List.map_set]
theorem Gz{s:St}{w:Wr}{r:Nat}(h:w.mask.testBit (4*r+1)=false):((s.AG w).root r).norm=(s.root r).norm:=by
 cases w with
 |slot u a=>rfl
 |root q x=>
  simp only[Wr.mask,AI,Ht,FV,AAn,AAr]at h;rw[Aq,AAT (λhh=>h.1 (by rw[hh.1]))]
 |leaf q j a=>
  simp only[Wr.mask,AI,Ht,FV,AAn,AAr]at h
  have e:(s.AG (.leaf q j a)).root r=s.root r:=by show nth dead (DL s.ro q _) r=_;rw[BX,AAT (λhh=>h.1 (by rw[hh.1]))];rfl
  rw[e]
theorem DN{r:Nat}:∀ {ws:List Wr} {s:St},(AD ws).testBit (4*r+1)=false->((s.app ws).root r).norm=(s.root r).norm
 | [],s,h=>rfl
 |w::ws,s,h=>by rw[BH,AAn]at h;exact(DN h.2).trans (Gz h.1)
theorem En{r:Nat}:∀ {ws:List Wr} {s s':St},s'.ro.length=s.ro.length->(s'.root r).norm=(s.root r).norm->((s'.app ws).root r).norm=((s.app ws).root r).norm
 | [],s,s',hl,h=>h
 |w::ws,s,s',hl,h=>by
  show(((s'.AG w).app ws).root r).norm=(((s.AG w).app ws).root r).norm;refine En ((Bn s' w).2.trans (hl.trans (Bn s w).2.symm)) ?_;cases w with
  |slot u a=>exact h
  |root q x=>
   rw[Aq,Aq,hl];grind
  |leaf q j a=>
   have e:∀s:St,(s.AG (.leaf q j a)).root r=if q=r/\q<s.ro.length then { s.root q with ls:=DL (s.root q).ls j a }else s.root r:=λs=>BX _ _ _ _ _
   rw[e,e,hl];split
   ·rename_i hq;obtain⟨rfl,_⟩:=hq;rw[Ju,Ju,h]
   ·exact h
theorem GJ{A B:Nat->Bool}{t:Nat}:∀(tr:List (Nat×List Wr)) (i:Nat) (s s':St),s'.ro.length=s.ro.length->(s'.root t).norm=(s.root t).norm->(∀k x,tr[k]?=some x->(AD x.2).testBit (4*t+1)=true->B (i+k)=A (i+k))->
  ((AJ B i tr s').root t).norm=((AJ A i tr s).root t).norm
 | [],i,s,s',hl,h,hA=>h
 |x::tr,i,s,s',hl,h,hA=>by
  simp only[AJ];refine GJ tr (i+1) _ _ ?_ ?_ λk y hk hy=>by rw[show i+1+k=i+(k+1) by omega];exact hA (k+1) y No hy
  ·cases A i<;>cases B i<;>simp[B7,hl]
  ·by_cases hm:(AD x.2).testBit (4*t+1)=true
   ·have:=hA 0 x rfl hm;rw[AA0]at this;rw[this];cases A i with
    |true=>exact En hl h
    |false=>exact h
   ·have hm:(AD x.2).testBit (4*t+1)=false:=ADl
    have e1:∀b:Bool,((bif b then s'.app x.2 else s').root t).norm=(s'.root t).norm:=λb=>by cases b;rfl;exact DN hm
    have e2:∀b:Bool,((bif b then s.app x.2 else s).root t).norm=(s.root t).norm:=λb=>by cases b;rfl;exact DN hm
    rw[e1,e2];exact h
theorem GK{A:Nat->Bool}{ws:List Wr}:∀(tr:List (Nat×List Wr)) (i:Nat) (s:St),(∀k x,tr[k]?=some x->A (i+k)=true->B1 (AD ws) (AD x.2))->AJ A i tr (s.app ws)=(AJ A i tr s).app ws
 | [],i,s,h=>rfl
 |x::tr,i,s,h=>by
  simp only[AJ];have ih:∀s,AJ A (i+1) tr (s.app ws)=(AJ A (i+1) tr s).app ws:=λs=>GK tr (i+1) s λk y hk hy=>h (k+1) y No No;cases hA:A i with
  |false=>exact ih s
  |true=>
   dsimp only[cond_true];rw[<-ih,JT (h 0 x rfl J)]
theorem Dl{A B:Nat->Bool}:∀(tr:List (Nat×List Wr)) (i:Nat) (s:St),(∀k,k<tr.length->A (i+k)=B (i+k))->AJ A i tr s=AJ B i tr s
 | [],i,s,h=>rfl
 |x::tr,i,s,h=>by
  simp only[AJ];have h0:=h 0 so;rw[AA0]at h0;rw[h0];exact Dl tr (i+1) _ λk hk=>by rw[show i+1+k=i+(k+1) by omega];exact h (k+1) ADb
theorem GI{A B:Nat->Bool}{n:Nat}{rm:Nat}{ws:List Wr}:∀(tr:List (Nat×List Wr)) (i:Nat) (s:St),tr[n]?=some (rm,ws)->A (i+n)=false->B (i+n)=true->(∀k,k≠n->B (i+k)=A (i+k))->
  (∀k x,n<k->tr[k]?=some x->A (i+k)=true->B1 (AD ws) (AD x.2))->AJ B i tr s=(AJ A i tr s).app ws
 | [],i,s,hn,hA,hB,yA,hap=>by simp at hn
 |x::tr,i,s,hn,hA,hB,yA,hap=>by
  simp only[AJ];cases n with
  |zero=>
   simp at hn;subst hn;rw[AA0]at hA hB;rw[hA,hB];dsimp only[cond_true,cond_false];rw[Dl (A:=B) (B:=A) tr (i+1) _ λk hk=>by rw[show i+1+k=i+(k+1) by omega];exact yA (k+1) J];exact GK tr (i+1) s λk y hk hy=>hap (k+1) y J No No
  |succ n=>
   have h0:=yA 0 J;rw[AA0]at h0;rw[h0]
   exact GI tr (i+1) _ (by simpa using hn) No No
    (λk hk=>by rw[show i+1+k=i+(k+1) by omega];exact yA (k+1) J) (λk y hk hy hA=>hap (k+1) y J No No)
end
section
variable {P:Program}{E:Ci}{cx:Cx}{g:Rg}{Q:Exit->Act->World->Prop}
theorem Hb{ops:Array Oper}{o:Oper}{s s':St}{b:Bool}(h:∀j want t,o.guard=some (j,want)->(ops[j]?).bind (·.dst)=some t->s'.slot t=s.slot t)(hg:Bg ops o s b):Bg ops o s' b:=by unfold Bg at hg ⊢;grind
theorem NX(hc:Di P cx)(yM:C7 P E cx.env)(h1:1<g.v0)(hE:Dt 0 g.ops.toList=true)(hdraw:g.draw=true){s:St}{tr:List (Nat×List Wr)}(ht:Trace cx g (Ei g.ops.toList []) 0 g.ops.toList [] s tr)(hlen:tr.length=g.ops.size)
  (yB:BJ s (· < g.v0)) (hd:∀o∈g.ops.toList,∀d,o.dst=some d->d<s.sl.length) {df:List Deferred}
  (hK:∀a' W',a'.defers=df->AW E (AJ (λ_=>true) 0 tr s) a'.tmps W'->BJ (AJ (λ_=>true) 0 tr s) (pA g.v0 (· < g.ops.size))->Q .normal a' W'.w):
  ∀(fuel:Nat)(listed:Array Bool)(a:Act)(W:Wd),listed.size=g.ops.size->listed.toList.count false=fuel->a.defers=df->AW E (AJ (λi=>listed.getD i false) 0 tr s) a.tmps W->
   BJ (AJ (λi=>listed.getD i false) 0 tr s) (pA g.v0 λi=>listed.getD i false=true)->
   (∀i o,listed.getD i false=true->g.ops[i]?=some o->∀e∈o.after.toList,Region.binds .any e=true->listed.getD e.on false=true)->wpAny P .any g.ops Q fuel listed a W.w:=by
 intro fuel
 have zA:∀(listed:Array Bool),listed.size=g.ops.size->(∀i,i<g.ops.size->listed.getD i false=true)->AJ (λi=>listed.getD i false) 0 tr s=AJ (λ_=>true) 0 tr s:=λlisted hs h=>
  Dl tr 0 s λk hk=>No
 have hrdy:∀(listed:Array Bool)(i:Nat),i∈Region.ready .any g.ops listed->listed.size=g.ops.size->i<g.ops.size/\listed.getD i false=false/\∃o,g.ops[i]?=some o/\∀e∈o.after.toList,Region.binds .any e=true->listed.getD e.on false=true:=by
  intro listed i hi hs;obtain⟨hi1,hi2⟩:=List.mem_filter.1 hi;have xz:i<g.ops.size:=AAb.1 hi1;rw[AAN]at hi2;refine⟨xz,?_,g.ops[i],by simp[xz],?_⟩
  ·grind
  ·intro e he hb;have h2:=hi2.2;rw[AAk xz]at h2;simp only[ABA,ABB]at h2;have h3:=Array.all_eq_true'.1 h2 e ADv;grind
 induction fuel with
 |zero=>
  intro listed a W hs hcount hdf xw hv hcl
  have hno:∀i,i<g.ops.size->listed.getD i false=true:=by
   intro i hi;have hl:i<listed.size:=J
   have yF:false∉listed.toList:=List.count_eq_zero.1 hcount;rw[AAm,AAk hl,ABB];cases hq:listed[i]with
   |true=>rfl
   |false=>exact absurd (by rw[<-hq];exact Array.getElem_mem_toList hl) yF
  refine⟨?_,?_⟩
  ·rw[List.eq_nil_iff_forall_not_mem];intro i hi;obtain⟨q1,q2,_⟩:=hrdy listed i hi hs;rw[hno i q1]at q2;cases q2
  grind
 |succ fuel ih=>
  intro listed a W hs hcount hdf xw hv hcl
  have hAn:∀i,listed.getD i false=true->i<g.ops.size:=by
   intro i hi;rw[<-hs];rcases AAu i listed.size with h|h
   ·exact h
   ·grind
  refine⟨λhemp=>?_,λi hi=>?_⟩
  ·exfalso
   have hex:∃i,i<g.ops.size/\listed.getD i false=false:=by
    have:false∈listed.toList:=by refine AAp λhn=>?_;rw[List.count_eq_zero.2 hn]at hcount;cases hcount
    obtain⟨i,hi,he⟩:=List.mem_iff_getElem.1 this;have zc:i<listed.size:=ADi
    refine⟨i,J,?_⟩;rw[AAm,AAk zc,ABB];simpa using he
   have hmin:∀n i,i<=n->i<g.ops.size->listed.getD i false=false->∃j,j∈Region.ready .any g.ops listed:=by
    intro n
    induction n using Nat.strongRecOn with
    |_ n ihn=>
     intro i xv hi hli;by_cases hp:∀e∈(g.ops[i]).after.toList,Region.binds .any e=true->listed.getD e.on false=true
     ·refine⟨i,List.mem_filter.2 ⟨AAb.2 hi,?_⟩⟩;have hl:i<listed.size:=J
      rw[AAN];refine⟨?_,?_⟩
      ·simp only[AAm,AAk hl,ABB]at hli ⊢;simp[hli]
      ·rw[AAk hi];simp only[ABA,ABB];refine Array.all_eq_true'.2 λe he=>?_;cases hb:Region.binds .any e with
       |false=>rfl
       |true=>simpa using hp e ADv hb
     ·have:∃e∈(g.ops[i]).after.toList,Region.binds .any e=true/\listed.getD e.on false=false:=by
       refine AAp λhn=>hp λe he hb=>?_;cases hq:listed.getD e.on false with
       |true=>rfl
       |false=>exact absurd ⟨e,he,hb,hq⟩ hn
      obtain⟨e,he,hb,hle⟩:=this;have hon:=CV g.ops.toList 0 hE i g.ops[i] (by simp[hi]) e he hb;exact ihn e.on J e.on (AAi _) J hle
   obtain⟨i,hi,hli⟩:=hex;obtain⟨j,hj⟩:=hmin i i (AAi _) hi hli;grind
  ·obtain⟨xz,hnl,o,ho,hpre⟩:=hrdy listed i hi hs;have hol:g.ops.toList[i]?=some o:=by simpa using ho
   obtain⟨⟨rm,ws⟩,htr⟩:∃x,tr[i]?=some x:=⟨tr[i]'(by omega),AAM J⟩;obtain⟨t1,t2,t3⟩:=H6 g.ops.toList 0 [] s tr ht i o rm ws hol htr;simp only[AAd,AAy]at t1 t2 t3;have t3:=t3 hdraw;have FV:∀j,(nth 0 (Ei g.ops.toList []) i).testBit j=true->listed.getD j false=true:=Ik hE hcl hAn ho hpre
   have hlater:∀k x,i<k->tr[k]?=some x->listed.getD k false=true->B1 (AD ws) (Nat.lor x.1 (AD x.2))/\B1 rm (AD x.2):=by intro k x hk hx zF;obtain⟨ok,yh⟩:∃o,g.ops.toList[k]?=some o:=⟨_,AAM No⟩;obtain⟨rmk,wsk⟩:=x;obtain⟨_,_,k3⟩:=H6 g.ops.toList 0 [] s tr ht k ok rmk wsk yh hx;simp only[AAd,AAy]at k3;have:=F0 _ _ _ _ 0 (k3 hdraw) i rm (AD ws) No;rw[AAd]at this;refine this.resolve_left λhb=>?_;have:=HC hE (A:=λi=>listed.getD i false=true) hcl hAn k zF i hb;rw[hnl]at this;cases this
   have hearly:∀k x,k<i->tr[k]?=some x->listed.getD k false=false->B1 (AD x.2) (Nat.lor rm (AD ws)):=by
    intro k x hk hx zF;have:=F0 _ _ _ _ 0 t3 k x.1 (AD x.2) No;rw[AAd]at this;rcases this with hb|hb
    ·grind
    ·exact hb.1
   have z8:NK rm (AJ (λj=>decide (j<i)) 0 tr s) (AJ (λi=>listed.getD i false) 0 tr s):=by
    have key:∀(b:Nat),rm.testBit b=true->∀k x,tr[k]?=some x->(AD x.2).testBit b=true->listed.getD (0+k) false=decide (0+k<i):=by
     intro b hb k x hx hw;rw[AAd];rcases Nat.lt_trichotomy k i with hk|hk|hk
     ·cases hl:listed.getD k false with
      |true=>simp[hk]
      |false=>
       have:=hearly k x hk hx hl b hw;rw[AI,hb]at this;simp at this
     ·grind
     ·cases hl:listed.getD k false with
      |false=>simp;omega
      |true=>
       have:=(hlater k x hk hx hl).2 b hb;grind
    exact⟨λt hb=>GM tr 0 s s rfl rfl λk x hx hw=>key _ hb k x hx hw,λt _ hb=>GL tr 0 s s rfl rfl λk x hx hw=>key _ hb k x hx hw,λt hb=>GJ tr 0 s s rfl rfl λk x hx hw=>key _ hb k x hx hw⟩
   have hfoot:=Mu (cx:=cx) (v:=g.v0+i) (ops:=g.ops) (o:=o) (s:=AJ (λj=>decide (j<i)) 0 tr s) (s':=AJ (λi=>listed.getD i false) 0 tr s) No
   have zI:Kx cx g (Ei g.ops.toList []) i o (AJ (λi=>listed.getD i false) 0 tr s) ws:=by
    rcases t2 with⟨g1,g2,g3⟩|⟨g1,g2⟩
    ·exact .inl ⟨Hb hfoot.2 g1,No,g3⟩
    ·exact .inr ⟨Hb hfoot.2 g1,g2⟩
   have hnv:Aj (AJ (λi=>listed.getD i false) 0 tr s) (g.v0+i):=hv.Hk (by
    rintro (hh|⟨j,hj,e⟩)
    all_goals grind) J
   have zm:∀k,(listed.setIfInBounds i true).getD k false=(if i=k then true else listed.getD k false):=by
    intro k;simp only[AAm,AAz];by_cases hk:i=k
    ·grind
    ·simp[hk]
   have zk:AJ (λk=>(listed.setIfInBounds i true).getD k false) 0 tr s=(AJ (λi=>listed.getD i false) 0 tr s).app ws:=by refine GI tr 0 s htr No No (λk hk=>by grind) λk x hk hx hl=>?_;rw[AAd]at hl;intro b hb;have:=(hlater k x hk hx hl).1 b hb;rw[AI,AAn]at this;exact this.2
   refine Ke hc yM xw hnv (λd yp=>by rw[<-xw.DT,(G3 _ tr 0 s).1];exact hd o (AAR hol) d yp) zI (λa' W' hdef hrep'=>?_) ho;refine ih (listed.setIfInBounds i true) a' W' (by simp[hs]) ?_ (hdef.trans hdf) No ?_ ?_
   ·have zc:i<listed.toList.length:=ADb
    have hfalse:listed.toList[i]=false:=by
     have hl:i<listed.size:=J
     rw[AAm,AAk hl,ABB]at hnl;simpa using hnl
    grind
   ·rw[zk];refine(hv.mono ?_).app (λw hw n hn=>?_)
    ·rintro n (hn|⟨j,hj,e⟩)
     ·exact .inl hn
     ·exact .inr ⟨j,by show(listed.setIfInBounds i true).getD j false=true;rw[zm];grind,e⟩
    ·rcases IM zI (A:=λj=>listed.getD j false=true) FV w hw n hn with hn|⟨j,hj,e⟩
     ·exact .inl hn
     ·refine .inr ⟨j,?_,e⟩;show(listed.setIfInBounds i true).getD j false=true;rw[zm];grind
   ·intro k o' hk ho' e he hb;rw[zm]at hk ⊢;split
    ·rfl
    ·by_cases hki:i=k
     all_goals grind
end
end Go.Ev
namespace Go.Ev
def HJ(cx:Cx)(a:LA):Prop:=match a with
 | .ref c=>cx.lock c.r=false
 | .D0 c _ _=>cx.lock c.r=false
 | .Ba c=>cx.lock c.r=false
 | .ptr r _ _=>cx.Ew r=false
 | .I0 _ c=>cx.lock c.r=false
 | .D4 _ ps _=>∃p∈ps,cx.Ew p.1=false
 |_=>False
def Ey(cx:Cx)(a a':LA):Prop:=a'=a\/(a'=.bad/\HJ cx a)
inductive Cq(cx:Cx):AV->AV->Prop
 |same (v):Cq cx v v
 |v (g as as') (h:as'.length=as.length) (hl:∀(j:Nat)(a:LA),as[j]?=some a->∃a',as'[j]?=some a'/\Ey cx a a'):Cq cx (.v g as) (.v g as')
 |Db (vs):Cq cx (.Db vs) (one .bad)
 |bx (as):Cq cx (.bx as) (one .bad)
theorem Ey.trans{cx:Cx}{a b c:LA}(h1:Ey cx a b)(h2:Ey cx b c):Ey cx a c:=by
 rcases h1 with rfl|⟨rfl,hd⟩
 ·exact h2
 ·rcases h2 with rfl|⟨rfl,_⟩<;>exact .inr ⟨rfl,hd⟩
theorem Cq.trans{cx:Cx}{a b c:AV}(h1:Cq cx a b)(h2:Cq cx b c):Cq cx a c:=by
 cases h1 with
 |same=>exact h2
 |v g as as' h hl=>
  cases h2 with
  |same=>exact .v g as as' h hl
  |v _ _ as2 h' zZ=>
   refine .v g as as2 (h'.trans h) λj a hj=>?_;obtain⟨a',h3,h4⟩:=hl j a hj;obtain⟨a2,h5,h6⟩:=zZ j a' h3;exact⟨a2,h5,h4.trans h6⟩
 |Db vs=>
  cases h2 with
  |same=>exact .Db vs
  |v _ _ as2 h' zZ=>
   obtain⟨a2,h5,h6⟩:=zZ 0 .bad rfl
   have:as2=[.bad]:=by
    match as2,h' with
    | [x],_=>
     simp at h5;subst h5;rcases h6 with rfl|⟨rfl,_⟩<;>rfl
   subst this;exact .Db vs
 |bx as=>
  cases h2 with
  |same=>exact .bx as
  |v _ _ as2 h' zZ=>
   obtain⟨a2,h5,h6⟩:=zZ 0 .bad rfl
   have:as2=[.bad]:=by
    match as2,h' with
    | [x],_=>
     simp at h5;subst h5;rcases h6 with rfl|⟨rfl,_⟩<;>rfl
   subst this;exact .bx as
structure Ao(cx:Cx)(s s':St):Prop where
 AM:∀t,cx.Ew t=true->Cq cx (s.slot t) (s'.slot t)
 roots:∀r,cx.lock r=true->s'.root r=s.root r
 box:∀r,cx.Ew r=true->(s'.root r).box=(s.root r).box/\(s'.root r).AB=(s.root r).AB/\(s'.root r).ls.length=(s.root r).ls.length
 l1:s'.sl.length=s.sl.length
 l2:s'.ro.length=s.ro.length
 Bd:s.Bd<=s'.Bd
theorem Ao.refl(cx:Cx)(s:St):Ao cx s s:=⟨λt _=>.same _,λ_ _=>rfl,λ_ _=>⟨rfl,rfl,rfl⟩,rfl,rfl,AAi _⟩
theorem Ao.trans{cx:Cx}{s s1 s2:St}(h1:Ao cx s s1)(h2:Ao cx s1 s2):Ao cx s s2 where
 AM t ht:=(h1.AM t ht).trans (h2.AM t ht)
 roots r hr:=(h2.roots r hr).trans (h1.roots r hr)
 box r hr:=let ⟨a,b,c⟩:=h1.box r hr;let ⟨a',b',c'⟩:=h2.box r hr;⟨a'.trans a,b'.trans b,c'.trans c⟩
 l1:=h2.l1.trans h1.l1
 l2:=h2.l2.trans h1.l2
 Bd:=AA5 h1.Bd h2.Bd
def BV(s:St):Prop:=∀r,∀a∈(s.root r).ls,a.Ce=true
structure Inv(N:Nat)(s:St):Prop where
 AF:BJ s (· < s.Bd)
 two:2<=s.Bd
 len:s.sl.length=N
 Bb:s.ro.length=N
 LQ:BV s
theorem KK{cx:Cx}{s:St}{dst:Option Nat}{w:Wr}(hd:∀d,dst=some d->cx.Ew d=false)(hw:w.ok cx dst=true):Ao cx s (s.AG w) where
 AM t ht:=by
  cases w with
  |slot u a=>
   rw[BF,AAT]
   ·exact .same _
   ·rintro ⟨rfl,_⟩
    simp only[Wr.ok]at hw;cases hq:dst with
    |none=>rw[hq]at hw;cases hw
    |some d=>
     rw[hq]at hw;have:u=d:=by simpa using hw
     subst this;rw[hd u hq]at ht;cases ht
  |root r x=>exact .same _
  |leaf r j a=>exact .same _
 roots r hr:=by
  cases w with
  |slot u a=>rfl
  |root q x=>
   simp only[Wr.ok,AAN,AAa]at hw;rw[Aq,AAT]
   rintro ⟨rfl,_⟩
   rw[hr]at hw;exact absurd hw.1.1 so
  |leaf q j a=>
   simp only[Wr.ok,AAN,AAa]at hw;have yF:q≠r:=λe=>by subst e;rw[hr]at hw;exact absurd hw.1 so
   refine Bc ?_;simp only[Wr.mask,AI,Ht,FV,AAn,AAr];omega
 box r hr:=by
  cases w with
  |slot u a=>exact⟨rfl,rfl,rfl⟩
  |root q x=>
   simp only[Wr.ok,AAN]at hw;rw[Aq,AAT]
   ·exact⟨rfl,rfl,rfl⟩
   ·rintro ⟨rfl,_⟩
    cases hq:dst with
    |none=>rw[hq]at hw;exact absurd hw.2 so
    |some d=>
     rw[hq]at hw;have:q=d:=by simpa using hw.2
     subst this;rw[hd q hq]at hr;cases hr
  |leaf q j a=>exact(Bo s q j a).box r
 l1:=(Bn s w).1
 l2:=(Bn s w).2
 Bd:=by cases w<;>exact AAi _
theorem IW{cx:Cx}{dst:Option Nat}(hd:∀d,dst=some d->cx.Ew d=false):∀ {ws:List Wr} {s:St},(∀w∈ws,w.ok cx dst=true)->Ao cx s (s.app ws)
 | [],s,h=>Ao.refl cx s
 |w::ws,s,h=>(KK hd (h w so)).trans (IW (ws:=ws) (s:=s.AG w) hd λx hx=>h x (AAQ _ hx))
theorem MU{cx:Cx}{s:St}{dst:Option Nat}{w:Wr}(h:BV s)(hw:w.ok cx dst=true):BV (s.AG w):=by
 intro r a ha;cases w with
 |slot u b=>exact h r a ha
 |root q x=>
  simp only[Wr.ok,AAN]at hw;rw[Aq]at ha;split at ha
  ·exact AAZ.1 hw.1.2 a ha
  ·exact h r a ha
 |leaf q j b=>
  simp only[Wr.ok,AAN]at hw;have ya:(s.AG (.leaf q j b)).root r=if q=r/\q<s.ro.length then { s.root q with ls:=DL (s.root q).ls j b }else s.root r:=BX _ _ _ _ _
  rw[ya]at ha;split at ha
  ·have ha:a∈DL (s.root q).ls j b:=ha;rw[CG]at ha;rcases List.mem_or_eq_of_mem_set ha with ha|ha
   ·exact h q a ha
   ·rw[ha];exact hw.2
  ·exact h r a ha
theorem Km{cx:Cx}{dst:Option Nat}:∀ {ws:List Wr} {s:St},BV s->(∀w∈ws,w.ok cx dst=true)->BV (s.app ws)
 | [],s,h,hw=>h
 |w::ws,s,h,hw=>Km (ws:=ws) (s:=s.AG w) (MU h (hw w so)) λx hx=>hw x (AAQ _ hx)
theorem Ms{cx:Cx}{g:Rg}{bs:It}{i:Nat}{o:Oper}{s:St}{ws:List Wr}(h:Kx cx g bs i o s ws):∀w∈ws,w.ok cx o.dst=true:=by
 intro w hw;rcases h with⟨_,_,h⟩|⟨_,rfl⟩
 ·have:=AAZ.1 h w hw;rw[AAN]at this;exact this.1
 ·cases hd:o.dst with
  |none=>rw[hd]at hw;cases hw
  |some d=>
   rw[hd]at hw;have:w=.slot d (one .undef):=by simpa[Cg]using hw
   subst this;simp[Wr.ok]
theorem GV{cx:Cx}{g:Rg}{bs:It}:∀(r:List Oper)(i:Nat) (lg:List (Nat×Nat)) (s:St) (tr:List (Nat×List Wr)),Trace cx g bs i r lg s tr->(∀o∈r,∀d,o.dst=some d->cx.Ew d=false)->BV s->
  Ao cx s (AJ (λ_=>true) i tr s)/\BV (AJ (λ_=>true) i tr s)
 | [],i,lg,s,[],ht,hd,hr=>⟨Ao.refl cx s,hr⟩
 | [],i,lg,s,_::_,ht,hd,hr=>ht.elim
 |_::_,i,lg,s,[],ht,hd,hr=>ht.elim
 |o::r,i,lg,s,(rm,ws)::tr,ht,hd,hr=>by obtain⟨_,_,zI,ht⟩:=ht;have yh:=Ms zI;obtain⟨h1,h2⟩:=GV r (i+1) _ (s.app ws) tr ht (λo ho=>hd o (AAQ _ ho)) (Km hr yh);exact⟨(IW (hd o so) yh).trans h1,h2⟩
end Go.Ev
namespace Go.Ev
section
variable {E:Ci}{s:St}{W:Wd}{tm:Array Value}{β:Type}{t:β}
theorem Nl{a:AV}{v:Value}(h:BQ s W a v):AT s W a.one? v:=by
 cases a with
 |Db vs=>trivial
 |bx as=>trivial
 |v g as=>
  cases g with
  |true=>trivial
  |false=>cases as with
   |nil=>trivial
   |cons b bs=>cases bs with
    |nil=>exact h
    |cons=>trivial
theorem GQ(h:AW E s tm W){r j AB gen:Nat}{t0:TypeId}{e:Ls}{xs:List e.D}(hl:s.leaf r j=.arr AB gen t0 e xs 0):W.om (.lf r j)=[]:=by obtain⟨u,_,hr⟩:=(h.roots r).row hl;exact AE.zero hr
theorem J8(h:AW E s tm W){l:L}{la:LA}{v:Value}(hv:AT s W la v)(hs:s.still l la=true){k:l.D->Step β}(hl:(s.datum l la k).leads t):∃x,(k x).leads t/\l.rd 0 W.w W.fz v x []:=by
 cases l with
 |int kk=>obtain⟨x,hl,hr⟩:=Bq h hv hl;exact⟨x,hl,(L.AY _ rfl hr).1⟩
 |bool=>obtain⟨x,hl,hr⟩:=Bq h hv hl;exact⟨x,hl,(L.AY _ rfl hr).1⟩
 |str=>obtain⟨x,hl,hr⟩:=Bq h hv hl;exact⟨x,hl,(L.AY _ rfl hr).1⟩
 |sl t0 e=>
  unfold St.datum at hl;cases la with
  |sc m x=>
   simp only at hl;split at hl
   ·rename_i y hy;obtain⟨q1,q2⟩:=L.AH hy;subst q1;have q2:x=y:=q2;subst q2;exact⟨x,hl,hv⟩
   ·exact hl.elim
  |C6=>exact⟨_,hl,by rw[show v=.slice none 0 0 from hv];exact Bt⟩
  |ref c=>
   simp only[St.still]at hs;split at hs
   ·rename_i AB gen t1 e1 xs hq;obtain⟨t',e',ys,d',o',hl,hr,ho⟩:=DA h hv hl;split at hl
    ·rename_i y hy;obtain⟨q1,q2⟩:=L.AH hy;cases q1;have q2:ys=y:=q2;subst q2;exact⟨ys,hl,hr.freeze λb hb=>hb.elim id λhb=>by have:=ho b hb;rw[GQ h hq]at this;cases this⟩
    ·exact hl.elim
   ·cases hs
  |D0 c lo hi=>
   simp only[St.still]at hs;split at hs
   ·rename_i AB gen t1 e1 xs hq;obtain⟨t',e',ys,d',o',hl,hr,ho⟩:=ED h hv hl;split at hl
    ·rename_i y hy;obtain⟨q1,q2⟩:=L.AH hy;cases q1;have q2:sub ys lo hi=y:=q2;subst q2;exact⟨_,hl,hr.freeze λb hb=>hb.elim id λhb=>by have:=ho b hb;rw[GQ h hq]at this;cases this⟩
    ·exact hl.elim
   ·cases hs
  |_=>exact hl.elim
def Told(s:St)(W:Wd)(tm:Array Value)(fz:Nat->Prop)(p:VP)(vs:List Lv):Prop:=match p with
 | .slot t l=>t<s.sl.length/\∃x,vs=[⟨l,x⟩]/\l.rd 0 W.w W.fz (tm.getD t Go.undef) x []
 | .own t ty e d k=>t<s.sl.length/\∃xs:List e.D,vs=[⟨.sl ty e,xs⟩]/\(s.root t).box=false/\W.cv t 0=some (tm.getD t Go.undef)/\AE e d W.w W.fz (tm.getD t Go.undef) xs (W.om (.lf t 0))/\(k=true->∃gen t' e' yj d',s.leaf t 0=.arr 1 gen t' e' yj d')
 | .box r ls=>(s.root r).box=true/\ls.length=(s.root r).ls.length/\vs.length=(ls.filterMap id).length/\∀(v j:Nat)(y:Value),W.cv r j=some y->match nth .bad (AO v ls vs) j with
  | .arr AB gen t e xs d=>(AB=v\/AB=1/\∃zW t' e' yj d',s.leaf r j=.arr 1 zW t' e' yj d')/\gen=v/\AE e d W.w W.fz y xs (W.om (.lf r j))
  | .sc l x=>l.rd 0 W.w fz y x []
  | .bad=>True
  |_=>False
theorem Ho(h:AW E s tm W){fz:Nat->Prop}(r:Nat)(zi:∀b,W.fz b->fz b):∀(ls:List (Option (L×Nat))) (as:List LA) (j:Nat) {k:List Lv->Step β},(∀i b,as[i]?=some b->s.leaf r (j+i)=b)->(∀a∈as,a.Ce=true)->
  (∀(i:Nat)(l:L),ls[i]?=some (some (l,0))->∀b∈W.om (.lf r (j+i)),fz b)->(Df s ls as k).leads t->
  ∃vs,(k vs).leads t/\ls.length=as.length/\vs.length=(ls.filterMap id).length/\∀(v i:Nat)(y:Value),W.cv r (j+i)=some y->match nth .bad (AO v ls vs) i with
   | .arr AB gen t e xs d=>(AB=v\/AB=1/\∃zW t' e' yj d',s.leaf r (j+i)=.arr 1 zW t' e' yj d')/\gen=v/\AE e d W.w W.fz y xs (W.om (.lf r (j+i)))
   | .sc l x=>l.rd 0 W.w fz y x []
   | .bad=>True
   |_=>False
 | [],[],j,k,hg,xv,hz,hl=>⟨[],hl,rfl,rfl,λv i y hy=>by simp[AO,nth]⟩
 | [],_::_,j,k,hg,xv,hz,hl=>hl.elim
 |none::ls,[],j,k,hg,xv,hz,hl=>hl.elim
 |some _::ls,[],j,k,hg,xv,hz,hl=>hl.elim
 |none::ls,a::as,j,k,hg,xv,hz,hl=>by
  simp only[Df]at hl
  obtain⟨vs,hl,h1,h2,h3⟩:=Ho h r zi ls as (j+1) (λi b hi=>by have:=hg (i+1) b ADi;grind) (λa ha=>xv a (AAQ _ ha))
   (λi l hi b hb=>hz (i+1) l No b No) hl
  refine⟨vs,hl,by simp[h1],No,λv i y hy=>?_⟩;cases i with
  |zero=>simp[AO,nth]
  |succ i=>
   have:=h3 v i y No;rw[show j+1+i=j+(i+1) by omega]at this;exact this
 |some (l,d)::ls,a::as,j,k,hg,xv,hz,hl=>by
  have xt:s.leaf r j=a:=hg 0 a rfl;obtain⟨zR,_⟩:=h.roots r;have zR:Aa s W (s.leaf r j) (W.cv r j) (W.om (.lf r j)):=zR j;rw[xt]at zR
  have fin:∀(x:l.D),(Df s ls as λvs=>k (⟨l,x⟩::vs)).leads t->(∀(v:Nat)(y:Value),W.cv r j=some y->match Bu v d (d==3) ⟨l,x⟩with
     | .arr AB gen t e xs d=>(AB=v\/AB=1/\∃zW t' e' yj d',s.leaf r j=.arr 1 zW t' e' yj d')/\gen=v/\AE e d W.w W.fz y xs (W.om (.lf r j))
     | .sc l x=>l.rd 0 W.w fz y x []
     | .bad=>True
     |_=>False)->
    ∃vs,(k vs).leads t/\(some (l,d)::ls).length=(a::as).length/\vs.length=((some (l,d)::ls).filterMap id).length/\∀(v i:Nat)(y:Value),W.cv r (j+i)=some y->match nth .bad (AO v (some (l,d)::ls) vs) i with
     | .arr AB gen t e xs d=>(AB=v\/AB=1/\∃zW t' e' yj d',s.leaf r (j+i)=.arr 1 zW t' e' yj d')/\gen=v/\AE e d W.w W.fz y xs (W.om (.lf r (j+i)))
     | .sc l x=>l.rd 0 W.w fz y x []
     | .bad=>True
     |_=>False:=by
   intro x hl hx
   obtain⟨vs,hl,h1,h2,h3⟩:=Ho h r zi ls as (j+1) (λi b hi=>by have:=hg (i+1) b ADi;grind) (λa ha=>xv a (AAQ _ ha))
    (λi l hi b hb=>hz (i+1) l No b No) hl
   refine⟨⟨l,x⟩::vs,hl,by simp[h1],by simp[h2],λv i y hy=>?_⟩;cases i with
   |zero=>exact hx v y J
   |succ i=>
    have:=h3 v i y No;rw[show j+1+i=j+(i+1) by omega]at this;exact this
  have hflat:∀(x:l.D),Bj l=false->(∀y,W.cv r j=some y->l.rd 0 W.w W.fz y x [])->∀(v:Nat)(y:Value),W.cv r j=some y->match Bu v d (d==3) ⟨l,x⟩with
     | .arr AB gen t e xs d=>(AB=v\/AB=1/\∃zW t' e' yj d',s.leaf r j=.arr 1 zW t' e' yj d')/\gen=v/\AE e d W.w W.fz y xs (W.om (.lf r j))
     | .sc l x=>l.rd 0 W.w fz y x []
     | .bad=>True
     |_=>False:=by
   intro x hns hx v y hy;have:=(L.AY l hns (hx y hy) (d':=0) (w':=W.w) (xy:=fz)).1;cases l with
   |sl t e=>simp[Bj]at hns
   |_=>exact this
  cases a with
  |arr AB gen t0 e0 xs d0=>
   simp only[Df]at hl;split at hl
   ·rename_i hd;simp only[AAN,AAg,AAX,AAa,beq_eq_false_iff_ne]at hd;obtain⟨hd,h3⟩:=hd;split at hl
    ·rename_i y hy;obtain⟨q1,q2⟩:=L.AH hy;subst q1;have q2:xs=y:=q2;subst q2;refine fin xs hl λv y hy=>?_;obtain⟨u,hu,hr⟩:=zR;rw[hy]at hu;injection hu with hu;subst hu
     cases d with
     |zero=>
      show(L.sl t0 e0).rd 0 W.w fz y xs [];exact hr.freeze λb hb=>hb.elim (zi b) λhb=>hz 0 (.sl t0 e0) rfl b J
     |succ d=>
      have:d0=d+1:=J
      subst this;by_cases h2:d=2
      ·subst h2;have hv1:AB=1:=h3.resolve_left λq=>q rfl;subst hv1;exact⟨.inr ⟨rfl,gen,t0,e0,xs,3,xt⟩,rfl,hr⟩
      ·have h4:(d+1==3)=false:=ADb
       rw[h4];exact⟨.inl rfl,rfl,hr⟩
    ·exact hl.elim
   ·exact hl.elim
  |sc m x=>
   have yD:∀y,W.cv r j=some y->m.rd 0 W.w W.fz y x []:=zR.2;cases d with
   |zero=>
    have hl:(s.datum l (.sc m x) λy=>Df s ls as λvs=>k (⟨l,y⟩::vs)).leads t:=hl;simp only[St.datum]at hl;split at hl
    ·rename_i y hy;obtain⟨q1,q2⟩:=L.AH hy;subst q1;have q2:x=y:=q2;subst q2;refine fin x hl λv y hy=>?_;have hr:=L.AN m (yD y hy) (λ_ _=>rfl) zi;cases m<;>exact hr
    ·exact hl.elim
   |succ d=>
    cases zQ:l with
    |sl t1 e1=>subst zQ;exact hl.elim
    |int kk=>
     subst zQ;have hl:(s.datum (.int kk) (.sc m x) λy=>Df s ls as λvs=>k (⟨.int kk,y⟩::vs)).leads t:=hl;simp only[St.datum]at hl;split at hl
     ·rename_i y hy;obtain⟨q1,q2⟩:=L.AH hy;subst q1;have q2:x=y:=q2;subst q2;exact fin x hl (hflat x rfl yD)
     ·exact hl.elim
    |bool=>
     subst zQ;have hl:(s.datum .bool (.sc m x) λy=>Df s ls as λvs=>k (⟨.bool,y⟩::vs)).leads t:=hl;simp only[St.datum]at hl;split at hl
     ·rename_i y hy;obtain⟨q1,q2⟩:=L.AH hy;subst q1;have q2:x=y:=q2;subst q2;exact fin x hl (hflat x rfl yD)
     ·exact hl.elim
    |str=>
     subst zQ;have hl:(s.datum .str (.sc m x) λy=>Df s ls as λvs=>k (⟨.str,y⟩::vs)).leads t:=hl;simp only[St.datum]at hl;split at hl
     ·rename_i y hy;obtain⟨q1,q2⟩:=L.AH hy;subst q1;have q2:x=y:=q2;subst q2;exact fin x hl (hflat x rfl yD)
     ·exact hl.elim
  |C6=>
   cases d with
   |zero=>
    cases l with
    |sl t1 e1=>
     refine fin ([]:List e1.D) hl λv y hy=>?_;show(L.sl t1 e1).rd 0 W.w fz y ([]:List e1.D) [];rw[show y=.slice none 0 0 from zR.2 y hy];exact Bt
    |_=>exact hl.elim
   |succ d=>cases l<;>exact hl.elim
  |ref c=>have:=xv (.ref c) so;cases this
  |D0 c lo hi=>have:=xv (.D0 c lo hi) so;cases this
  |_=>cases d with
   |zero=>exact hl.elim
   |succ d=>cases l<;>exact hl.elim
def OR(ps:List VP)(r j:Nat):Prop:=∃ls l,VP.box r ls∈ps/\ls[j]?=some (some (l,0))
theorem MS(h:AW E s tm W)(xv:BV s){fz:Nat->Prop}(zi:∀b,W.fz b->fz b){p:VP}(hz:∀r j,OR [p] r j->∀b∈W.om (.lf r j),fz b){k:List Lv->Step β}(hl:(Jx s p k).leads t):
  ∃vs,(k vs).leads t/\Told s W tm fz p vs:=by
 cases p with
 |slot u l=>
  simp only[Jx]at hl;split at hl
  ·rename_i hs
   have xz:u<s.sl.length:=by
    rcases AAu u s.sl.length with xz|yx
    ·exact xz
    ·have:s.slot u=.v false [.bad]:=Au _ yx;rw[this]at hl;exact hl.elim
   obtain⟨x,hl,hr⟩:=J8 h (Nl (h.AM u)) hs hl;exact⟨_,hl,xz,x,rfl,hr⟩
  ·exact hl.elim
 |own u ty e d k0=>
  simp only[Jx]at hl;split at hl
  ·rename_i c vv AB gen t' e' xs d' zo zS;split at hl
   ·rename_i hc;simp only[AAN,AAX]at hc;obtain⟨⟨⟨⟨⟨hcr,hcj⟩,hp⟩,yB⟩,hd⟩,hk0⟩:=hc;have hp:c.p=[]:=by cases hq:c.p<;>simp_all[isNil]
    subst hd;split at hl
    ·rename_i y hy;obtain⟨q1,q2⟩:=L.AH hy;cases q1;have q2:xs=y:=q2;subst q2
     have xt:s.leaf c.r c.j=.arr c.AB gen ty e xs d:=by unfold St.leaf;rw[hcr,hcj,zS,yB];rfl
     have zw:AT s W (.ref c) (tm.getD u Go.undef):=by have:=h.AM u;rw[zo]at this;exact this
     obtain⟨h',e2,yW,hn⟩:=zw gen _ _ _ _ xt (.inl hp);rw[hp]at hn;obtain⟨rfl,rfl⟩:=hn;obtain⟨u',yG,yD⟩:=(h.roots c.r).row xt;rw[yW]at yG;injection yG with yG;rw[<-yG]at yD
     rw[hcr,hcj]at yD yW
     have xz:u<s.sl.length:=by
      rcases AAu u s.sl.length with xz|yx
      ·exact xz
      ·have:s.slot u=.v false [.bad]:=Au _ yx;rw[this]at zo;cases zo
     refine⟨_,hl,xz,xs,rfl,by rw[zS],yW,yD,λhk=>?_⟩;grind
    ·exact hl.elim
   ·exact hl.elim
  ·exact hl.elim
 |box r ls=>
  simp only[Jx]at hl;split at hl
  ·rename_i hb
   obtain⟨vs,hl,h1,h2,h3⟩:=Ho h (fz:=fz) r zi ls (s.root r).ls 0 (λi b hi=>by unfold St.leaf;rw[AAd,Ae,hi];rfl) (xv r)
    (λi l hi b hb=>hz r i ⟨ls,l,so,hi⟩ b No) hl
   exact⟨vs,hl,hb,h1,h2,λv j y hy=>No⟩
  ·exact hl.elim
theorem Jy(h:AW E s tm W)(xv:BV s){fz:Nat->Prop}(zi:∀b,W.fz b->fz b):∀ {ps:List VP} {k:List Lv->Step β},(∀r j,OR ps r j->∀b∈W.om (.lf r j),fz b)->(Kj s ps k).leads t->
  ∃xu:List (List Lv),(k xu.flatten).leads t/\xu.length=ps.length/\∀(i:Nat)(p:VP)(vs:List Lv),ps[i]?=some p->xu[i]?=some vs->Told s W tm fz p vs
 | [],k,hz,hl=>⟨[],hl,rfl,λi p vs hp=>ADp⟩
 |p::ps,k,hz,hl=>by simp only[Kj]at hl;obtain⟨vs,hl,hv⟩:=MS h xv zi (λr j ⟨ls,l,hm,hj⟩=>hz r j ⟨ls,l,by simp at hm;simp[hm],hj⟩) hl;obtain⟨xu,hl,h1,h2⟩:=Jy h xv zi (λr j ⟨ls,l,hm,hj⟩=>hz r j ⟨ls,l,AAQ _ hm,hj⟩) hl;refine⟨vs::xu,ADy,by simp[h1],λi q us hq hu=>?_⟩;grind
end
end Go.Ev
namespace Go.Ev
def VP.O1:VP->Nat
 | .slot _ _=>1
 | .own _ _ _ _ _=>1
 | .box _ ls=>(ls.filterMap id).length
theorem Cv(v:Nat):∀(ls:List (Option (L×Nat))) (vs ws:List Lv),vs.length=(ls.filterMap id).length->AO v ls (vs++ws)=AO v ls vs
 | [],vs,ws,h=>by simp[AO]
 |none::ls,vs,ws,h=>by simp only[AO];rw[Cv v ls vs ws ADh]
 |some (l,d)::ls,[],ws,h=>ADf
 |some (l,d)::ls,x::vs,ws,h=>by simp only[AO,ABC];rw[Cv v ls vs ws ADh]
theorem A8(v:Nat):∀(ls:List (Option (L×Nat))) (vs:List Lv),(AO v ls vs).length=ls.length
 | [],vs=>rfl
 |none::ls,vs=>by simp[AO,A8 v ls vs]
 |some (l,d)::ls,[]=>by simp[AO,A8 v ls []]
 |some (l,d)::ls,x::vs=>by simp[AO,A8 v ls vs]
def At(v:Nat)(s0 σ:St)(p:VP)(vs:List Lv):Prop:=match p with
 | .slot t _=>∀x,vs=[x]->σ.slot t=one (.sc x.l x.x)
 | .own t _ _ d k=>∀x,vs=[x]->σ.slot t=one (.ref ⟨t,0,FB v k,v,[]⟩)/\σ.root t=⟨false,v,[Bu v d k x]⟩
 | .box r ls=>σ.root r=⟨true,(s0.root r).AB,AO v ls vs⟩
theorem IE{x:Nat}{xs:It}(h:distinct (x::xs)=true):x∉xs/\distinct xs=true:=by simp only[distinct,AAN,AAa]at h;refine⟨λhm=>?_,h.2⟩;have:=(Av xs x).2 hm;rw[h.1]at this;cases this
theorem Cd:∀ {xs ys:It},distinct (xs++ys)=true->(∀x∈xs,x∉ys)/\distinct ys=true
 | [],ys,h=>⟨(λx hx=>by cases hx),h⟩
 |x::xs,ys,h=>by
  obtain⟨h1,h2⟩:=IE (xs:=xs++ys) h;obtain⟨h3,h4⟩:=Cd h2;refine⟨λy hy=>?_,h4⟩;rcases AAj.1 hy with rfl|hy
  ·exactλhm=>h1 (AAV _ hm)
  ·exact h3 y hy
theorem GN(v:Nat)(s0:St):∀(ps:List VP) (xu:List (List Lv)) (σ:St),xu.length=ps.length->(∀(i:Nat)(p:VP)(vs:List Lv),ps[i]?=some p->xu[i]?=some vs->vs.length=p.O1)->
  distinct (ps.flatMap VP.AM)=true->distinct (ps.flatMap VP.roots)=true->(∀t∈ps.flatMap VP.AM,t<σ.sl.length)->(∀r∈ps.flatMap VP.roots,r<σ.ro.length)->
  (∀t,t∉ps.flatMap VP.AM->(σ.app (B8 v s0 ps xu.flatten)).slot t=σ.slot t)/\(∀r,r∉ps.flatMap VP.roots->(σ.app (B8 v s0 ps xu.flatten)).root r=σ.root r)/\
  ∀(i:Nat)(p:VP)(vs:List Lv),ps[i]?=some p->xu[i]?=some vs->At v s0 (σ.app (B8 v s0 ps xu.flatten)) p vs
 | [],[],σ,hl,hc,d1,d2,b1,b2=>⟨λ_ _=>rfl,λ_ _=>rfl,λi p vs hp=>ADp⟩
 | [],_::_,σ,hl,hc,d1,d2,b1,b2=>ADq
 |_::_,[],σ,hl,hc,d1,d2,b1,b2=>ADq
 |p::ps,vs::xu,σ,hl,hc,d1,d2,b1,b2=>by
  rw[AAq]at d1 d2;obtain⟨n1,d1'⟩:=Cd d1;obtain⟨n2,d2'⟩:=Cd d2;have hcnt:=hc 0 p vs rfl rfl;have zg:∀t∈p.AM,t<σ.sl.length:=λt ht=>b1 t (by rw[AAq];exact AAY _ ht);have hb2:∀t∈p.roots,t<σ.ro.length:=λt ht=>b2 t (by rw[AAq];exact AAY _ ht)
  have main:∀(ws:List Wr),B8 v s0 (p::ps) (vs::xu).flatten=ws++B8 v s0 ps xu.flatten->(∀t,t∉p.AM->(σ.app ws).slot t=σ.slot t)->(∀r,r∉p.roots->(σ.app ws).root r=σ.root r)->At v s0 (σ.app ws) p vs->
    (∀t,t∉(p::ps).flatMap VP.AM->(σ.app (B8 v s0 (p::ps) (vs::xu).flatten)).slot t=σ.slot t)/\(∀r,r∉(p::ps).flatMap VP.roots->(σ.app (B8 v s0 (p::ps) (vs::xu).flatten)).root r=σ.root r)/\
    ∀(i:Nat)(q:VP)(us:List Lv),(p::ps)[i]?=some q->(vs::xu)[i]?=some us->At v s0 (σ.app (B8 v s0 (p::ps) (vs::xu).flatten)) q us:=by
   intro ws he hs hr ha
   obtain⟨i1,i2,i3⟩:=GN v s0 ps xu (σ.app ws) ADy (λi q us h1 h2=>hc (i+1) q us ADw AD0) d1' d2'
    (λt ht=>by rw[(B7 ws σ).1];exact b1 t (by rw[AAq];exact AAV _ ht)) (λt ht=>by rw[(B7 ws σ).2];exact b2 t (by rw[AAq];exact AAV _ ht))
   rw[he,A3];refine⟨λt ht=>?_,λr yi=>?_,λi q us h1 h2=>?_⟩
   ·rw[AAq]at ht;rw[i1 t (λhm=>ht (AAV _ hm)),hs t (λhm=>ht (AAY _ hm))]
   ·rw[AAq]at yi;rw[i2 r (λhm=>yi (AAV _ hm)),hr r (λhm=>yi (AAY _ hm))]
   ·cases i with
    |zero=>
     simp at h1 h2;subst h1;subst h2;cases p with
     |slot t l=>intro x hx;rw[i1 t (n1 t (by simp[VP.AM]))];exact ha x hx
     |own t ty e d k=>
      intro x hx;rw[i1 t (n1 t (by simp[VP.AM])),i2 t (n2 t (by simp[VP.roots]))];exact ha x hx
     |box r ls=>
      show(_:St).root r=_;rw[i2 r (n2 r (by simp[VP.roots]))];exact ha
    |succ i=>exact i3 i q us ADw AD0
  cases p with
  |slot t l=>
   obtain⟨x,rfl⟩:∃x,vs=[x]:=by
    match vs,hcnt with
    | [x],_=>exact⟨x,rfl⟩
   refine main [.slot t (one (.sc x.l x.x))] rfl (λu hu=>?_) (λr hr=>rfl) ?_
   ·show(σ.AG _).slot u=_;rw[BF,AAT (λhh=>hu (by simp[VP.AM,hh.1]))]
   ·intro y hy;simp at hy;subst hy;show(σ.AG _).slot t=_;rw[BF,AAS ⟨rfl,zg t (by simp[VP.AM])⟩]
  |own t ty e d k=>
   obtain⟨x,rfl⟩:∃x,vs=[x]:=by
    match vs,hcnt with
    | [x],_=>exact⟨x,rfl⟩
   refine main [.root t ⟨false,v,[Bu v d k x]⟩,.slot t (one (.ref ⟨t,0,FB v k,v,[]⟩))] rfl (λu hu=>?_) (λr hr=>?_) ?_
   ·show((σ.AG _).AG _).slot u=_;rw[BF,AAT (λhh=>hu (by simp[VP.AM,hh.1]))];rfl
   ·show(σ.AG _).root r=_;rw[Aq,AAT (λhh=>hr (by simp[VP.roots,hh.1]))]
   ·intro y hy;simp at hy;subst hy;refine⟨?_,?_⟩
    ·show((σ.AG _).AG _).slot t=_;rw[BF,AAS ⟨rfl,by rw[(Bn _ _).1];exact zg t (by simp[VP.AM])⟩]
    ·show(σ.AG _).root t=_;rw[Aq,AAS ⟨rfl,hb2 t (by simp[VP.roots])⟩]
  |box r ls=>
   refine main [.root r ⟨true,(s0.root r).AB,AO v ls vs⟩] ?_ (λu hu=>rfl) (λq hq=>?_) ?_
   ·have hcnt:vs.length=(ls.filterMap id).length:=hcnt;simp only[B8,AAl];rw[Cv v ls vs _ hcnt,<-hcnt,AA7];rfl
   ·show(σ.AG _).root q=_;rw[Aq,AAT (λhh=>hq (by simp[VP.roots,hh.1]))]
   ·show(σ.AG _).root r=_;rw[Aq,AAS ⟨rfl,hb2 r (by simp[VP.roots])⟩]
end Go.Ev
namespace Go.Ev
theorem EI{α γ:Type}(f:Nat->α->γ):∀(n:Nat)(xs:List α),(KN f n xs).length=xs.length
 |_,[]=>rfl
 |n,x::xs=>by simp[KN,EI f (n+1) xs]
theorem Hh{α γ:Type}(f:Nat->α->γ)(d:γ)(d0:α):∀(n:Nat)(xs:List α)(i:Nat),i<xs.length->nth d (KN f n xs) i=f (n+i) (nth d0 xs i)
 |n,[],i,h=>ADf
 |n,x::xs,0,h=>rfl
 |n,x::xs,i+1,h=>by simp only[KN,nth];rw[Hh f d d0 (n+1) xs i ADh,show n+1+i=n+(i+1) by omega]
theorem Fy(ms:It)(ps:List VP)(s:St)(t:Nat):(base ms ps s).slot t=if has ms t then one .bad else(s.slot t).clean (λr=>has ms r||has (ps.flatMap VP.AM) r) λr=>has ms r||has (ps.flatMap VP.roots) r:=by
 unfold St.slot base;by_cases h:t<s.sl.length
 ·dsimp only;rw[Hh _ _ (.v false [.bad]) 0 s.sl t h,AAd]
 ·dsimp only;rw[Au _ (by rw[EI];omega),Au _ J];split<;>rfl
theorem B2(ms:It)(ps:List VP)(s:St)(r:Nat):(base ms ps s).root r=if has ms r then dead else s.root r:=by
 unfold St.root base;by_cases h:r<s.ro.length
 ·dsimp only;rw[Hh _ _ dead 0 s.ro r h,AAd]
 ·dsimp only;rw[Au _ (by rw[EI];omega),Au _ J];split<;>rfl
theorem FP(ms:It)(ps:List VP)(s:St):(base ms ps s).sl.length=s.sl.length/\(base ms ps s).ro.length=s.ro.length:=⟨EI _ _ _,EI _ _ _⟩
theorem KH(m1 m2:Nat->Bool)(a:AV):∀n∈(a.clean m1 m2).AF,n∈a.AF:=by
 cases a with
 |Db vs=>intro n hn;simp[AV.clean,one,AV.AF,LA.AF]at hn
 |bx as=>intro n hn;simp[AV.clean,one,AV.AF,LA.AF]at hn
 |v g as=>
  intro n hn;obtain⟨b,hb,hn⟩:=AAP.1 (show n∈(as.map (LA.clean m1 m2)).flatMap LA.AF from hn);obtain⟨c,hc,rfl⟩:=AAw.1 hb;refine AAP.2 ⟨c,hc,?_⟩;cases c with
  |ref c=>simp only[LA.clean]at hn;split at hn;cases hn;exact hn
  |D0 c lo hi=>simp only[LA.clean]at hn;split at hn;cases hn;exact hn
  |Ba c=>simp only[LA.clean]at hn;split at hn;cases hn;exact hn
  |ptr r j AB=>simp only[LA.clean]at hn;split at hn;cases hn;exact hn
  |I0 t c=>simp only[LA.clean]at hn;split at hn;cases hn;exact hn
  |D4 g ps qs=>simp only[LA.clean]at hn;split at hn;cases hn;exact hn
  |_=>exact hn
theorem K6{cx:Cx}{m1 m2:Nat->Bool}(h1:∀r,m1 r=true->cx.Ew r=false)(h2:∀r,m2 r=true->cx.lock r=false)(a:AV):Cq cx a (a.clean m1 m2):=by
 cases a with
 |Db vs=>exact .Db vs
 |bx as=>exact .bx as
 |v g as=>
  refine .v g as _ so λj b hj=>⟨LA.clean m1 m2 b,by rw[AAe,hj];rfl,?_⟩;cases b with
  |ref c=>simp only[LA.clean];split;exact .inr ⟨rfl,h2 _ ADm⟩;exact .inl rfl
  |D0 c lo hi=>simp only[LA.clean];split;exact .inr ⟨rfl,h2 _ ADm⟩;exact .inl rfl
  |Ba c=>simp only[LA.clean];split;exact .inr ⟨rfl,h2 _ ADm⟩;exact .inl rfl
  |ptr r j AB=>simp only[LA.clean];split;exact .inr ⟨rfl,h1 _ ADm⟩;exact .inl rfl
  |I0 t c=>simp only[LA.clean];split;exact .inr ⟨rfl,h2 _ ADm⟩;exact .inl rfl
  |D4 g ps qs=>
   simp only[LA.clean];split
   ·rename_i h;obtain⟨p,hp,hm⟩:=AA8.1 h;exact .inr ⟨rfl,p,hp,h1 _ hm⟩
   ·exact .inl rfl
  |_=>exact .inl rfl
end Go.Ev
namespace Go.Ev
theorem CN(v:Nat):∀(ls:List (Option (L×Nat))) (vs:List Lv) (j:Nat) (l:L),ls[j]?=some (some (l,0))->(nth .bad (AO v ls vs) j).B3=false
 | [],vs,j,l,h=>ADf
 |none::ls,vs,0,l,h=>ADf
 |none::ls,vs,j+1,l,h=>CN v ls vs j l ADh
 |some (l',d)::ls,[],0,l,h=>rfl
 |some (l',d)::ls,[],j+1,l,h=>CN v ls [] j l ADh
 |some (l',d)::ls,⟨l0,x⟩::vs,0,l,h=>by
  simp at h;obtain⟨_,rfl⟩:=h;cases l0<;>rfl
 |some (l',d)::ls,x::vs,j+1,l,h=>CN v ls vs j l ADh
theorem I1{cx:Cx}{ms:It}{ps:List VP}{r:Nat}(h1:r∉ms)(h2:r∉ps.flatMap VP.roots):(cx.in ms ps).lock r=true:=by
 have a:has ms r=false:=by cases h:has ms r;rfl;exact absurd ((Av _ _).1 h) h1
 have b:has (ps.flatMap VP.roots) r=false:=by cases h:has (ps.flatMap VP.roots) r;rfl;exact absurd ((Av _ _).1 h) h2
 simp[Cx.in,a,b]
theorem Hc{cx:Cx}{ms:It}{ps:List VP}{r:Nat}(h1:r∉ms)(h2:r∉ps.flatMap VP.AM):(cx.in ms ps).Ew r=true:=by
 have a:has ms r=false:=by cases h:has ms r;rfl;exact absurd ((Av _ _).1 h) h1
 have b:has (ps.flatMap VP.AM) r=false:=by cases h:has (ps.flatMap VP.AM) r;rfl;exact absurd ((Av _ _).1 h) h2
 simp[Cx.in,a,b]
structure Fu(ms:It)(ps:List VP)(s0 s1 σ:St)(W:Wd)(tm:Array Value)(fz:Nat->Prop)(xu:List (List Lv)):Prop where
 len:xu.length=ps.length
 told:∀(i:Nat)(p:VP)(vs:List Lv),ps[i]?=some p->xu[i]?=some vs->Told s1 W tm fz p vs
 at_:∀(i:Nat)(p:VP)(vs:List Lv),ps[i]?=some p->xu[i]?=some vs->At s0.Bd s0 σ p vs
 slot:∀t,t∉ps.flatMap VP.AM->σ.slot t=(base ms ps s0).slot t
 root:∀r,r∉ps.flatMap VP.roots->σ.root r=(base ms ps s0).root r
 l1:σ.sl.length=s0.sl.length
 l2:σ.ro.length=s0.ro.length
theorem Fu.get{ms:It}{ps:List VP}{s0 s1 σ:St}{W:Wd}{tm:Array Value}{fz:Nat->Prop}{xu:List (List Lv)}(h:Fu ms ps s0 s1 σ W tm fz xu){p:VP}(hp:p∈ps):∃vs,Told s1 W tm fz p vs/\At s0.Bd s0 σ p vs:=by obtain⟨i,hi⟩:=AAv hp;obtain⟨vs,hv⟩:=BO h.len (AAO.1 hi).1;exact⟨vs,h.told i p vs hi hv,h.at_ i p vs hi hv⟩
def Ej(W:Wd)(ps:List VP)(b:Nat):Prop:=W.fz b\/∃r j,OR ps r j/\b∈W.om (.lf r j)
theorem Ml{E:Ci}{cx:Cx}{N:Nat}{ms:It}{ps:List VP}{s0 s1:St}{tm:Array Value}{W:Wd}{x:(C4 ps).D}(h1:AW E s1 tm W)(r1:BV s1)(hk:Ao (cx.in ms ps) s0 s1)(hp:Cb cx ms ps=true)(hx:Am ps s1=some x):
  ∃xu,Fu ms ps s0 s1 (Bk ms ps s0 x) W tm (Ej W ps) xu:=by
 unfold Am at hx;obtain⟨lvs,hl,hpk⟩:=Step.Cp _ hx;obtain⟨xu,hl,hlen,htold⟩:=Jy h1 r1 (fz:=Ej W ps) (λb hb=>.inl hb) (λr j hf b hb=>.inr ⟨r,j,hf,hb⟩) hl;have hl:xu.flatten=lvs:=hl;subst hl;have hup:=Ay _ _ _ hpk;simp only[Cb,AAN]at hp;obtain⟨⟨d1,d2⟩,_⟩:=hp;have zS:s1.ro.length=s1.sl.length:=by rw[h1.DT,h1.Bb]
 have yL:∀p∈ps,∃vs,Told s1 W tm (Ej W ps) p vs:=λp hp=>by obtain⟨i,hi⟩:=AAv hp;obtain⟨vs,hv⟩:=BO hlen (AAO.1 hi).1;exact⟨vs,htold i p vs hi hv⟩
 have hlook:=GN s0.Bd s0 ps xu (base ms ps s0) hlen (λi p vs hi hv=>by
   have:=htold i p vs hi hv;cases p with
   |slot t l=>obtain⟨_,x,rfl,_⟩:=this;rfl
   |own t ty e d k=>obtain⟨_,x,rfl,_⟩:=this;rfl
   |box r ls=>exact this.2.2.1) d2 d1
  (λt ht=>by
   rw[(FP ms ps s0).1,<-hk.l1];obtain⟨p,hp,ht⟩:=AAP.1 ht;obtain⟨vs,hv⟩:=yL p hp;cases p with
   |slot u l=>simp[VP.AM]at ht;subst ht;exact hv.1
   |own u ty e d k=>simp[VP.AM]at ht;subst ht;exact hv.1
   |box r ls=>simp[VP.AM]at ht)
  (λt ht=>by
   rw[(FP ms ps s0).2,<-hk.l2];obtain⟨p,hp,ht⟩:=AAP.1 ht;obtain⟨vs,hv⟩:=yL p hp;cases p with
   |slot u l=>simp[VP.roots]at ht
   |own u ty e d k=>simp[VP.roots]at ht;subst ht;rw[zS];exact hv.1
   |box r ls=>simp[VP.roots]at ht;subst ht;exact JH hv.1)
 have he:Bk ms ps s0 x=(base ms ps s0).app (B8 s0.Bd s0 ps xu.flatten):=by unfold Bk;rw[hup]
 rw[he];obtain⟨a,b,c⟩:=hlook;exact⟨xu,hlen,htold,c,a,b,(B7 _ _).1.trans (FP ms ps s0).1,(B7 _ _).2.trans (FP ms ps s0).2⟩
end Go.Ev
namespace Go.Ev
section
variable {E:Ci}{cx:Cx}{N:Nat}{ms:It}{ps:List VP}{s0 s1 σ:St}{tm:Array Value}{W:Wd}{xu:List (List Lv)}
noncomputable def Cr (σ:St) (W:Wd) (ps:List VP):Wd where
 w:=W.w
 fz:=Ej W ps
 cv:=W.cv
 bk:=W.bk
 om k:=match k with
  | .lf r j=>bif(σ.leaf r j).B3 then W.om (.lf r j)else []
  | .blk r=>bif(σ.root r).box then W.om (.blk r)else []
  | .fl _=>[]
theorem EU(k:Key):∀b∈(Cr σ W ps).om k,b∈W.om k:=by
 intro b hb;cases k with
 |lf r j=>
  have hb:b∈(bif(σ.leaf r j).B3 then W.om (.lf r j)else []):=hb;cases h:(σ.leaf r j).B3<;>rw[h]at hb
  ·cases hb
  ·exact hb
 |blk r=>
  have hb:b∈(bif(σ.root r).box then W.om (.blk r)else []):=hb;cases h:(σ.root r).box<;>rw[h]at hb
  ·cases hb
  ·exact hb
 |fl k=>cases hb
theorem Lp(ha:Fu ms ps s0 s1 σ W tm (Ej W ps) xu){r j:Nat}(hf:OR ps r j):(σ.leaf r j).B3=false:=by obtain⟨ls,l,hm,hj⟩:=hf;obtain⟨vs,_,zB⟩:=ha.get hm;have zB:σ.root r=_:=zB;unfold St.leaf;rw[zB];exact CN _ ls vs j l hj
theorem Lt(h:AW E s1 tm W)(ha:Fu ms ps s0 s1 σ W tm (Ej W ps) xu):Sep E (Cr σ W ps) where
 nodup k:=by
  cases k with
  |lf r j=>
   show(bif(σ.leaf r j).B3 then W.om (.lf r j)else []).Nodup;cases(σ.leaf r j).B3
   ·exact AAW
   ·exact h.sep.nodup _
  |blk r=>
   show(bif(σ.root r).box then W.om (.blk r)else []).Nodup;cases(σ.root r).box
   ·exact AAW
   ·exact h.sep.nodup _
  |fl k=>exact AAW
 A4 k k' yF b hb yH:=h.sep.A4 k k' yF b (EU k b hb) (EU k' b yH)
 own k b hb:=by
  obtain⟨q1,q2,q3⟩:=h.sep.own k b (EU k b hb);refine⟨?_,q2,q3⟩
  rintro (hz|⟨r,j,hf,hz⟩)
  ·exact q1 hz
  ·have hk:k=.lf r j:=AAp λyF=>h.sep.A4 k _ yF b (EU k b hb) hz;subst hk;have hb:b∈(bif(σ.leaf r j).B3 then W.om (.lf r j)else []):=hb;rw[Lp ha hf]at hb;cases hb
 fz b hb:=by
  rcases hb with hz|⟨r,j,_,hz⟩
  ·exact h.sep.fz b hz
  ·obtain⟨_,q2,q3⟩:=h.sep.own _ b hz;exact⟨q2,.inr q3⟩
 frame:=h.sep.frame
 size:=h.sep.size
 rest:=h.sep.rest
theorem Gv(hk:Ao (cx.in ms ps) s0 s1)(hp:Cb cx ms ps=true)(ha:Fu ms ps s0 s1 σ W tm (Ej W ps) xu){r:Nat}(hb:(σ.root r).box=true):(s1.root r).box=true/\(s1.root r).AB=(σ.root r).AB/\(s1.root r).ls.length=(σ.root r).ls.length:=by
 simp only[Cb,AAN]at hp;obtain⟨_,zA⟩:=hp;by_cases hr:r∈ps.flatMap VP.roots
 ·obtain⟨p,hm,hr⟩:=AAP.1 hr;obtain⟨vs,ht,zB⟩:=ha.get hm;cases p with
  |slot t l=>simp[VP.roots]at hr
  |own t ty e d k=>
   simp[VP.roots]at hr;subst hr;obtain⟨_,xs,rfl,_⟩:=ht;have:=(zB _ rfl).2;rw[this]at hb;cases hb
  |box q ls=>
   simp[VP.roots]at hr;subst hr;have zB:σ.root r=_:=zB;have h2:=AAZ.1 zA _ hm;simp only[AAN,AAa]at h2;have n1:r∉ms:=λhh=>by rw[(Av _ _).2 hh]at h2;exact absurd h2.1.1 so
   have n2:r∉ps.flatMap VP.AM:=λhh=>by rw[(Av _ _).2 hh]at h2;exact absurd h2.2 so
   obtain⟨b1,b2,b3⟩:=hk.box r (Hc n1 n2);refine⟨ht.1,?_,?_⟩
   ·rw[zB,b2]
   ·rw[zB];exact ht.2.1.symm.trans (A8 _ _ _).symm
 ·have zS:=ha.root r hr;rw[B2]at zS;split at zS
  ·rw[zS]at hb;cases hb
  ·rename_i hms;have n1:r∉ms:=λhh=>hms ((Av _ _).2 hh);have:=hk.roots r (I1 n1 hr);have e:s1.root r=σ.root r:=this.trans zS.symm;rw[e];exact⟨hb,rfl,rfl⟩
theorem C8(hk:Ao (cx.in ms ps) s0 s1)(hp:Cb cx ms ps=true)(ha:Fu ms ps s0 s1 σ W tm (Ej W ps) xu){a:LA}{v:Value}(hr:∀c,(a=.ref c\/(∃lo hi,a=.D0 c lo hi)\/a=.Ba c\/∃t,a=.I0 t c)->σ.root c.r=s1.root c.r)(hv:AT s1 W a v):AT σ (Cr σ W ps) a v:=by
 cases a with
 |bad=>trivial
 |undef=>exact hv
 |C6=>exact hv
 |I9=>exact hv
 |sc l x=>exact L.AN l hv (λ_ _=>rfl) λb hb=>.inl hb
 |ref c=>
  intro gen t e xs d hl hg;rw[Aw (hr c (.inl rfl))]at hl;exact hv gen t e xs d hl hg
 |D0 c lo hi=>
  intro gen t e xs d hl hg;rw[Aw (hr c (.inr (.inl ⟨lo,hi,rfl⟩)))]at hl;exact hv gen t e xs d hl hg
 |Ba c=>
  intro gen t e xs d hl hg;rw[Aw (hr c (.inr (.inr (.inl rfl))))]at hl;exact hv gen t e xs d hl hg
 |ptr r j AB=>
  intro hb yB;obtain⟨b1,b2,_⟩:=Gv hk hp ha hb;exact hv b1 (b2.trans yB)
 |Du e x off=>
  obtain⟨ad,g,arr,T,fr,zy,hz,hh,hg,yD⟩:=hv;exact⟨ad,g,arr,T,fr,zy,.inl hz,hh,hg,Ls.AN e yD (λ_ _=>rfl) λb hb=>.inl hb⟩
 |fn f=>exact hv
 |I0 tt c=>
  obtain⟨u,hu,hv⟩:=hv;refine⟨u,hu,λgen t e xs d hl hg=>?_⟩;rw[Aw (hr c (.inr (.inr (.inr ⟨tt,rfl⟩))))]at hl;exact hv gen t e xs d hl hg
 |D4 g qs _=>
  obtain⟨bs,hu,hlen,hv⟩:=hv;refine⟨bs,hu,hlen,λk p b hp' hb hx yB=>?_⟩;obtain⟨b1,b2,_⟩:=Gv hk hp ha hx;exact hv k p b hp' hb b1 (b2.trans yB)
 |arr=>exact hv
end
end Go.Ev
namespace Go.Ev
section
variable {E:Ci}{cx:Cx}{N:Nat}{ms:It}{ps:List VP}{s0 s1 σ:St}{tm:Array Value}{W:Wd}{xu:List (List Lv)}
theorem CC{ms:It}{r:Nat}(h:has ms r=false):r∉ms:=λhh=>by rw[(Av _ _).2 hh]at h;cases h
theorem Gn{ms:It}{r:Nat}(h:r∉ms):has ms r=false:=by
 cases hh:has ms r with
 |false=>rfl
 |true=>exact absurd ((Av _ _).1 hh) h
theorem Fv(hk:Ao (cx.in ms ps) s0 s1)(ha:Fu ms ps s0 s1 σ W tm (Ej W ps) xu){r:Nat}(h1:r∉ms)(h2:r∉ps.flatMap VP.roots):σ.root r=s1.root r:=by rw[ha.root r h2,B2,Gn h1,hk.roots r (I1 h1 h2)];rfl
theorem Gw(hk:Ao (cx.in ms ps) s0 s1)(hp:Cb cx ms ps=true)(ha:Fu ms ps s0 s1 σ W tm (Ej W ps) xu){a a':LA}{v:Value}(hc:Ey (cx.in ms ps) a a')(hv:AT s1 W a' v):
  AT σ (Cr σ W ps) (a.clean (λr=>has ms r||has (ps.flatMap VP.AM) r) λr=>has ms r||has (ps.flatMap VP.roots) r) v:=by
 have far:∀r,¬(has ms r||has (ps.flatMap VP.roots) r)=true->(cx.in ms ps).lock r=true/\σ.root r=s1.root r:=by intro r hr;simp only[AAg,not_or,Bool.not_eq_true]at hr;exact⟨I1 (CC hr.1) (CC hr.2),Fv hk ha (CC hr.1) (CC hr.2)⟩
 have same:∀ {b:LA},a=b->¬HJ (cx.in ms ps) b->AT s1 W b v:=by
  intro b e hd;subst e;rcases hc with rfl|⟨_,hh⟩
  ·exact hv
  ·exact absurd hh hd
 cases a with
 |ref c=>
  simp only[LA.clean];split
  ·trivial
  ·rename_i hr;obtain⟨q1,q2⟩:=far c.r hr;refine C8 hk hp ha (λc' yk=>?_) (same rfl (by simp[HJ,q1]));rcases yk with e|⟨_,_,e⟩|e|⟨_,e⟩<;>cases e;exact q2
 |D0 c lo hi=>
  simp only[LA.clean];split
  ·trivial
  ·rename_i hr;obtain⟨q1,q2⟩:=far c.r hr;refine C8 hk hp ha (λc' yk=>?_) (same rfl (by simp[HJ,q1]));rcases yk with e|⟨_,_,e⟩|e|⟨_,e⟩<;>cases e;exact q2
 |Ba c=>
  simp only[LA.clean];split
  ·trivial
  ·rename_i hr;obtain⟨q1,q2⟩:=far c.r hr;refine C8 hk hp ha (λc' yk=>?_) (same rfl (by simp[HJ,q1]));rcases yk with e|⟨_,_,e⟩|e|⟨_,e⟩<;>cases e;exact q2
 |ptr r j AB=>
  simp only[LA.clean];split
  ·trivial
  ·rename_i hr;simp only[AAg,not_or,Bool.not_eq_true]at hr;have q1:=Hc (cx:=cx) (CC hr.1) (CC hr.2);refine C8 hk hp ha (λc' yk=>?_) (same rfl (by simp[HJ,q1]));rcases yk with e|⟨_,_,e⟩|e|⟨_,e⟩<;>cases e
 |I0 t c=>
  simp only[LA.clean];split
  ·trivial
  ·rename_i hr;obtain⟨q1,q2⟩:=far c.r hr;refine C8 hk hp ha (λc' yk=>?_) (same rfl (by simp[HJ,q1]));rcases yk with e|⟨_,_,e⟩|e|⟨_,e⟩<;>cases e;exact q2
 |D4 g qs q2=>
  simp only[LA.clean];split
  ·trivial
  ·rename_i hr;refine C8 hk hp ha (λc' yk=>?_) (same rfl ?_)
   ·rcases yk with e|⟨_,_,e⟩|e|⟨_,e⟩<;>cases e
   ·rintro ⟨p,hp',hd⟩
    refine hr (AA8.2 ⟨p,hp',?_⟩);refine AAp λhn=>?_;simp only[AAg,not_or,Bool.not_eq_true]at hn;rw[Hc (cx:=cx) (CC hn.1) (CC hn.2)]at hd;cases hd
 |_=>
  refine C8 hk hp ha (λc' yk=>?_) (same rfl (λhd=>(hd:False)));rcases yk with e|⟨_,_,e⟩|e|⟨_,e⟩<;>cases e
theorem K0(hk:Ao (cx.in ms ps) s0 s1)(hp:Cb cx ms ps=true)(ha:Fu ms ps s0 s1 σ W tm (Ej W ps) xu){a a':AV}{v:Value}(hc:Cq (cx.in ms ps) a a')(hv:BQ s1 W a' v):
  BQ σ (Cr σ W ps) (a.clean (λr=>has ms r||has (ps.flatMap VP.AM) r) λr=>has ms r||has (ps.flatMap VP.roots) r) v:=by
 have hV:∀ {g:Bool} {as as':List LA},as'.length=as.length->(∀(j:Nat)(b:LA),as[j]?=some b->∃b',as'[j]?=some b'/\Ey (cx.in ms ps) b b')->Ez s1 W g as' v->
   Ez σ (Cr σ W ps) g (as.map (LA.clean (λr=>has ms r||has (ps.flatMap VP.AM) r) λr=>has ms r||has (ps.flatMap VP.roots) r)) v:=by
  intro g as as' hlen hl hv;cases g with
  |false=>
   match as,as',hlen,hl,hv with
   | [b],[b'],_,hl,hv=>
    obtain⟨b2,h1,h2⟩:=hl 0 b rfl;simp at h1;subst h1;exact Gw hk hp ha h2 hv
   | [],[],_,hl,hv=>exact hv.elim
   |_::_::_,_::_::_,_,hl,hv=>exact hv.elim
  |true=>
   obtain⟨cs,hcs,yP,yL⟩:=hv;refine⟨cs,hcs,by rw[yP,hlen];simp,λj b hj=>?_⟩;rw[AAe]at hj;cases hq:as[j]? with
   |none=>rw[hq]at hj;cases hj
   |some c=>
    rw[hq]at hj;injection hj with hj;subst hj
    obtain⟨c',h1,h2⟩:=hl j c hq;obtain⟨u,hu,yh⟩:=yL j c' h1;exact⟨u,hu,Gw hk hp ha h2 yh⟩
 cases hc with
 |same=>
  cases a with
  |Db vs=>trivial
  |bx as=>trivial
  |v g as=>exact hV rfl (λj b hj=>⟨b,hj,.inl rfl⟩) hv
 |v g as as' h hl=>exact hV h hl hv
 |Db vs=>trivial
 |bx as=>trivial
end
end Go.Ev
namespace Go.Ev
section
variable {E:Ci}{cx:Cx}{N:Nat}{ms:It}{ps:List VP}{s0 s1 σ:St}{tm:Array Value}{W:Wd}{xu:List (List Lv)}
theorem La{a:LA}{v r j:Nat}{fz:Nat->Prop}{y:Value}{o:It}(h:match a with
  | .arr AB gen t e xs d=>(AB=v\/AB=1/\∃zW t' e' yj d',s1.leaf r j=.arr 1 zW t' e' yj d')/\gen=v/\AE e d W.w W.fz y xs o
  | .sc l x=>l.rd 0 W.w (Ej W ps) y x []
  | .bad=>True
  |_=>False):Aa σ (Cr σ W ps) a (some y) (bif a.B3 then o else []):=by
 cases a with
 |arr AB gen t e xs d=>exact⟨y,rfl,h.2.2.frame (λ_ _=>rfl) λb hb=>.inl hb⟩
 |sc l x=>exact⟨rfl,λu hu=>by injection hu with hu;subst hu;exact h⟩
 |bad=>exact⟨rfl,λ_ _=>trivial⟩
 |_=>exact h.elim
theorem Lr(h:AW E s1 tm W)(r1:BV s1)(h2:2<=s0.Bd)(hk:Ao (cx.in ms ps) s0 s1)(hp:Cb cx ms ps=true)(ha:Fu ms ps s0 s1 σ W tm (Ej W ps) xu):AW E σ tm (Cr σ W ps) where
 DT:=by rw[ha.l1,<-hk.l1,h.DT]
 Bb:=by rw[ha.l2,<-hk.l2,h.Bb]
 AM t:=by
  by_cases ht:t∈ps.flatMap VP.AM
  ·obtain⟨p,hm,ht⟩:=AAP.1 ht;obtain⟨vs,hto,zB⟩:=ha.get hm;cases p with
   |slot u l=>
    simp[VP.AM]at ht;subst ht;obtain⟨_,x,rfl,hr⟩:=hto;rw[zB _ rfl];exact L.AN l hr (λ_ _=>rfl) λb hb=>.inl hb
   |own u ty e d k=>
    simp[VP.AM]at ht;subst ht;obtain⟨_,xs,rfl,_,yW,hr,_⟩:=hto;rw[(zB _ rfl).1];intro gen t' e' yj d' hl hg;exact⟨_,e',yW,rfl,rfl⟩
   |box r ls=>simp[VP.AM]at ht
  ·rw[ha.slot t ht,Fy];cases hms:has ms t with
   |true=>exact trivial
   |false=>exact K0 hk hp ha (hk.AM t (Hc (CC hms) ht)) (h.AM t)
 roots r:=by
  by_cases hr:r∈ps.flatMap VP.roots
  ·obtain⟨p,hm,hr⟩:=AAP.1 hr;obtain⟨vs,hto,zB⟩:=ha.get hm;cases p with
   |slot u l=>simp[VP.roots]at hr
   |own u ty e d k=>
    simp[VP.roots]at hr;subst hr;obtain⟨_,xs,rfl,hbx,yW,yD,_⟩:=hto;have zS:=(zB _ rfl).2;refine⟨λj=>?_,?_⟩
    ·have hom:(Cr σ W ps).om (.lf r j)=bif(nth .bad (σ.root r).ls j).B3 then W.om (.lf r j)else []:=rfl;rw[hom,zS];cases j with
     |zero=>
      show Aa _ _ (Bu s0.Bd d k ⟨.sl ty e,xs⟩) (W.cv r 0) (bif(Bu s0.Bd d k ⟨.sl ty e,xs⟩).B3 then W.om (.lf r 0)else []);rw[yW];cases d with
      |zero=>
       have:=AE.zero yD;rw[this]at yD;exact⟨rfl,λu hu=>by injection hu with hu;subst hu;exact L.AN (.sl ty e) yD (λ_ _=>rfl) λb hb=>.inl hb⟩
      |succ d=>exact⟨_,rfl,yD.frame (λ_ _=>rfl) λb hb=>.inl hb⟩
     |succ j=>exact⟨rfl,λ_ _=>trivial⟩
    ·rw[zS];show(if false=true then _ else _);rw[AAT so];show(bif(σ.root r).box then W.om (.blk r)else [])=[];rw[zS];rfl
   |box q ls=>
    simp[VP.roots]at hr;subst hr;have zB:σ.root r=_:=zB;obtain⟨hbx,hlen,_,hto⟩:=hto;obtain⟨_,h2'⟩:=h.roots r;rw[AAS hbx]at h2';obtain⟨ho,arr,T,fr,hh,a1,a2,a3⟩:=h2';refine⟨λj=>?_,?_⟩
    ·have hom:(Cr σ W ps).om (.lf r j)=bif(nth .bad (σ.root r).ls j).B3 then W.om (.lf r j)else []:=rfl;rw[hom,zB];show Aa _ _ (nth .bad (AO s0.Bd ls vs) j) (W.cv r j) (bif(nth .bad (AO s0.Bd ls vs) j).B3 then W.om (.lf r j)else []);cases yW:W.cv r j with
     |some y=>exact La (v:=s0.Bd) (fz:=Ej W ps) (hto s0.Bd j y yW)
     |none=>
      have hj:ls.length<=j:=by rw[hlen,<-a2];rw[a3 j]at yW;exact Array.getElem?_eq_none_iff.1 yW
      rw[Au _ (by rw[A8];exact hj)];exact⟨rfl,λ_ hu=>by cases hu⟩
    ·rw[zB];show(if true=true then _ else _);rw[AAS rfl];refine⟨?_,arr,T,fr,hh,a1,by rw[A8,hlen];exact a2,a3⟩;show(bif(σ.root r).box then W.om (.blk r)else [])=_;rw[zB];exact ho
  ·cases hms:has ms r with
   |true=>
    have zS:σ.root r=dead:=by rw[ha.root r hr,B2,hms];rfl
    rw[zS];refine⟨λj=>?_,?_⟩
    ·have hom:(Cr σ W ps).om (.lf r j)=bif(nth .bad (σ.root r).ls j).B3 then W.om (.lf r j)else []:=rfl;rw[hom,zS];exact⟨rfl,λ_ _=>trivial⟩
    ·show(if false=true then _ else _);rw[AAT so];show(bif(σ.root r).box then W.om (.blk r)else [])=[];rw[zS];rfl
   |false=>
    have zS:=Fv hk ha (CC hms) hr;rw[zS];obtain⟨q1,q2⟩:=h.roots r;refine⟨λj=>?_,?_⟩
    ·have hom:(Cr σ W ps).om (.lf r j)=bif(nth .bad (σ.root r).ls j).B3 then W.om (.lf r j)else []:=rfl;rw[hom,zS];have hq:=q1 j;show Aa _ _ _ (W.cv r j) _
     have hri:∀b,nth LA.bad (s1.root r).ls j=b->b.Ce=true:=by
      intro b hb;by_cases hj:j<(s1.root r).ls.length
      ·rw[<-hb];exact r1 r _ (Ki hj)
      ·rw[Au _ J]at hb;subst hb;rfl
     generalize nth LA.bad (s1.root r).ls j=b at hq hri;have hri:=hri b rfl
     have hla:∀v,AT s1 W b v->AT σ (Cr σ W ps) b v:=λv hv=>C8 hk hp ha (λc hc=>by
      rcases hc with e|⟨_,_,e⟩|e|⟨_,e⟩<;>(subst e;cases hri)) hv
     cases b with
     |arr AB gen t e xs d=>
      obtain⟨u,hu,yD⟩:=hq;exact⟨u,hu,yD.frame (λ_ _=>rfl) λb hb=>.inl hb⟩
     |_=>exact⟨rfl,λu hu=>hla u (hq.2 u hu)⟩
    ·have hom:(Cr σ W ps).om (.blk r)=bif(σ.root r).box then W.om (.blk r)else []:=rfl;rw[hom,zS];cases hb:(s1.root r).box with
     |true=>
      rw[hb]at q2;rw[AAS rfl]at q2 ⊢;exact q2
     |false=>rw[AAT so];rfl
 sep:=Lt h ha
 init:=by
  refine⟨λr j gen t e xs d hl=>?_,λr hb yB=>?_⟩
  ·by_cases hr:r∈ps.flatMap VP.roots
   ·obtain⟨p,hm,hr⟩:=AAP.1 hr;obtain⟨vs,hto,zB⟩:=ha.get hm;cases p with
    |slot u l=>simp[VP.roots]at hr
    |own u ty e' d' k=>
     simp[VP.roots]at hr;subst hr;obtain⟨_,ys,rfl,_,_,_,hkk⟩:=hto;have zS:=(zB _ rfl).2;unfold St.leaf at hl;rw[zS]at hl;cases j with
     |zero=>
      have hl:Bu s0.Bd d' k ⟨.sl ty e',ys⟩=.arr 1 gen t e xs d:=hl;cases k with
      |true=>
       obtain⟨g1,t1,e1,xs1,d1,zx⟩:=hkk rfl;exact h.init.1 r 0 g1 t1 e1 xs1 d1 zx
      |false=>
       cases d' with
       |zero=>cases hl
       |succ d'=>
        have hl:LA.arr s0.Bd s0.Bd ty e' ys (d'+1)=.arr 1 gen t e xs d:=hl;injection hl with h1;omega
     |succ j=>cases hl
    |box q ls=>
     simp[VP.roots]at hr;subst hr;have zB:σ.root r=_:=zB;unfold St.leaf at hl;rw[zB]at hl;have hl:nth LA.bad (AO s0.Bd ls vs) j=.arr 1 gen t e xs d:=hl;obtain⟨hbx,hlen,_,hto⟩:=hto;obtain⟨_,h2'⟩:=h.roots r;rw[AAS hbx]at h2';obtain⟨_,arr,T,fr,hh,a1,a2,a3⟩:=h2'
     have hj:j<ls.length:=by
      rcases AAu j ls.length with hj|hj
      ·exact hj
      ·rw[Au _ (by rw[A8];exact hj)]at hl;cases hl
     have yW:W.cv r j=some (arr[j]'(by omega)):=by rw[a3 j];exact AAk _
     have:=hto s0.Bd j _ yW;rw[hl]at this;rcases this.1 with e|⟨_,g1,t1,e1,xs1,d1,zx⟩
     ·omega
     ·exact h.init.1 r j g1 t1 e1 xs1 d1 zx
   ·have zS:=ha.root r hr;cases hms:has ms r with
    |true=>
     rw[B2,hms]at zS;unfold St.leaf at hl;rw[zS]at hl;cases j<;>cases hl
    |false=>
     have zS:=Fv hk ha (CC hms) hr;exact h.init.1 r j gen t e xs d (by rw[<-Aw zS];exact hl)
  ·obtain⟨b1,b2,_⟩:=Gv hk hp ha hb;exact h.init.2 r b1 (b2.trans yB)
end
end Go.Ev
namespace Go.Ev
section
variable {E:Ci}{cx:Cx}{N:Nat}{ms:It}{ps:List VP}{s0 s1 σ:St}{tm:Array Value}{W:Wd}{xu:List (List Lv)}
structure Open(c:Cx)(ms:It)(ps:List VP):Prop where
 m1:∀r∈ms,c.lock r=false/\c.Ew r=false
 p1:∀r∈ps.flatMap VP.roots,c.lock r=false
 p2:∀r∈ps.flatMap VP.AM,c.Ew r=false
theorem MQ(zF:∀t∈ms,cx.lock t=false/\cx.Ew t=false)(hp:Cb cx ms ps=true):Open cx ms ps:=by
 simp only[Cb,AAN]at hp;refine⟨zF,λr hr=>?_,λr hr=>?_⟩
 ·obtain⟨p,hm,hr⟩:=AAP.1 hr;have:=AAZ.1 hp.2 p hm;cases p with
  |slot u l=>simp[VP.roots]at hr
  |own u ty e d k=>simp[VP.roots]at hr;subst hr;simp only[AAN,AAa]at this;exact this.1.1
  |box q ls=>simp[VP.roots]at hr;subst hr;simp only[AAN,AAa]at this;exact this.1.2
 ·obtain⟨p,hm,hr⟩:=AAP.1 hr;have:=AAZ.1 hp.2 p hm;cases p with
  |slot u l=>simp[VP.AM]at hr;subst hr;simpa using this
  |own u ty e d k=>simp[VP.AM]at hr;subst hr;simp only[AAN,AAa]at this;exact this.1.2
  |box q ls=>simp[VP.AM]at hr
theorem M8(h:Open cx ms ps):Open (cx.in ms ps) ms ps:=by
 refine⟨λr hr=>?_,λr hr=>?_,λr hr=>?_⟩
 ·have:=h.m1 r hr;simp[Cx.in,this.1,this.2,(Av ms r).2 hr]
 ·simp[Cx.in,h.p1 r hr,(Av _ r).2 hr]
 ·simp[Cx.in,h.p2 r hr,(Av _ r).2 hr]
theorem Gx{c:Cx}(ho:Open c ms ps)(hk:Ao (cx.in ms ps) s0 s1)(hp:Cb cx ms ps=true)(ha:Fu ms ps s0 s1 σ W tm (Ej W ps) xu)(hctr:s0.Bd<=σ.Bd):Ao c s0 σ where
 AM t ht:=by
  have n1:t∉ms:=λhh=>by rw[(ho.m1 t hh).2]at ht;cases ht
  have n2:t∉ps.flatMap VP.AM:=λhh=>by rw[ho.p2 t hh]at ht;cases ht
  rw[ha.slot t n2,Fy,Gn n1];refine K6 (λr hr=>?_) (λr hr=>?_) _
  ·simp only[AAg]at hr;exact hr.elim (λhr=>(ho.m1 r ((Av _ _).1 hr)).2) λhr=>ho.p2 r ((Av _ _).1 hr)
  ·simp only[AAg]at hr;exact hr.elim (λhr=>(ho.m1 r ((Av _ _).1 hr)).1) λhr=>ho.p1 r ((Av _ _).1 hr)
 roots r hr:=by
  have n1:r∉ms:=λhh=>by rw[(ho.m1 r hh).1]at hr;cases hr
  have n2:r∉ps.flatMap VP.roots:=λhh=>by rw[ho.p1 r hh]at hr;cases hr
  rw[ha.root r n2,B2,Gn n1];rfl
 box r hr:=by
  have n1:r∉ms:=λhh=>by rw[(ho.m1 r hh).2]at hr;cases hr
  have n3:r∉ps.flatMap VP.AM:=λhh=>by rw[ho.p2 r hh]at hr;cases hr
  by_cases n2:r∈ps.flatMap VP.roots
  ·obtain⟨p,hm,yi⟩:=AAP.1 n2;obtain⟨vs,hto,zB⟩:=ha.get hm;cases p with
   |slot u l=>simp[VP.roots]at yi
   |own u ty e d k=>simp[VP.roots]at yi;subst yi;exact absurd (AAP.2 ⟨_,hm,by simp[VP.AM]⟩) n3
   |box q ls=>
    simp[VP.roots]at yi;subst yi;have zB:σ.root r=_:=zB;obtain⟨b1,b2,b3⟩:=hk.box r (Hc n1 n3);rw[zB];exact⟨hto.1.symm.trans b1,rfl,(A8 _ _ _).trans (hto.2.1.trans b3)⟩
  ·rw[ha.root r n2,B2,Gn n1];exact⟨rfl,rfl,rfl⟩
 l1:=ha.l1
 l2:=ha.l2
 Bd:=hctr
end
end Go.Ev
namespace Go.Ev
theorem Js(v m:Nat)(x:Lv):(∀n∈(BI v m x).AF,n=v)/\(BI v m x).Ce=true:=by
 obtain⟨l,x⟩:=x;cases l with
 |sl t e=>cases m with
  |zero=>exact⟨λn hn=>by simp[BI,LA.AF]at hn,rfl⟩
  |succ m=>exact⟨λn hn=>by simp[BI,LA.AF]at hn;exact hn,rfl⟩
 |_=>exact⟨λn hn=>by simp[BI,LA.AF]at hn,rfl⟩
theorem Ic(v:Nat)(k:Bool):FB v k=v\/FB v k=1:=by cases k;exact .inl rfl;exact .inr rfl
theorem EL(v m:Nat)(k:Bool)(x:Lv):(∀n∈(Bu v m k x).AF,n=v\/n=1)/\(Bu v m k x).Ce=true:=by
 obtain⟨l,x⟩:=x;cases l with
 |sl t e=>cases m with
  |zero=>exact⟨(λn hn=>by have hn:n∈([]:It):=hn;cases hn),rfl⟩
  |succ m=>
   refine⟨λn hn=>?_,rfl⟩;have hn:n∈[FB v k,v]:=hn;simp at hn;rcases hn with rfl|rfl
   ·exact Ic _ _
   ·exact .inl rfl
 |_=>exact⟨(λn hn=>by have hn:n∈([]:It):=hn;cases hn),rfl⟩
theorem Bp(v:Nat):∀(ls:List (Option (L×Nat))) (vs:List Lv),∀a∈AO v ls vs,(∀n∈a.AF,n=v\/n=1)/\a.Ce=true
 | [],vs,a,h=>by cases h
 |none::ls,vs,a,h=>by
  rcases AAj.1 (show a∈.bad::AO v ls vs from h)with rfl|h
  ·exact⟨(λn hn=>by cases hn),rfl⟩
  ·exact Bp v ls vs a h
 |some (l,d)::ls,[],a,h=>by
  rcases AAj.1 (show a∈.bad::AO v ls []from h)with rfl|h
  ·exact⟨(λn hn=>by cases hn),rfl⟩
  ·exact Bp v ls [] a h
 |some (l,d)::ls,x::vs,a,h=>by
  rcases AAj.1 (show a∈Bu v d (d==3) x::AO v ls vs from h)with rfl|h
  ·exact EL v d _ x
  ·exact Bp v ls vs a h
section
variable {E:Ci}{cx:Cx}{N:Nat}{ms:It}{ps:List VP}{s0 s1 σ:St}{tm:Array Value}{W:Wd}{xu:List (List Lv)}
theorem Lq(i0:Inv N s0)(ha:Fu ms ps s0 s1 σ W tm (Ej W ps) xu)(hctr:σ.Bd=s0.Bd+1):Inv N σ where
 AF:=by
  rw[hctr];refine⟨λt n hn=>?_,λr n hn=>?_⟩
  ·by_cases ht:t∈ps.flatMap VP.AM
   ·obtain⟨p,hm,ht⟩:=AAP.1 ht;obtain⟨vs,hto,zB⟩:=ha.get hm;cases p with
    |slot u l=>
     simp[VP.AM]at ht;subst ht;obtain⟨_,x,rfl,hr⟩:=hto;rw[zB _ rfl]at hn;simp[one,AV.AF,LA.AF]at hn
    |own u ty e d k=>
     simp[VP.AM]at ht;subst ht;obtain⟨_,xs,rfl,_⟩:=hto;rw[(zB _ rfl).1]at hn;have:=Ic s0.Bd k;have:=i0.two;simp[one,AV.AF,LA.AF]at hn;omega
    |box r ls=>simp[VP.AM]at ht
   ·rw[ha.slot t ht,Fy]at hn;split at hn
    ·simp[one,AV.AF,LA.AF]at hn
    ·have:=i0.AF.1 t n (KH _ _ _ n hn);omega
  ·by_cases hr:r∈ps.flatMap VP.roots
   ·obtain⟨p,hm,hr⟩:=AAP.1 hr;obtain⟨vs,hto,zB⟩:=ha.get hm;cases p with
    |slot u l=>simp[VP.roots]at hr
    |own u ty e d k=>
     simp[VP.roots]at hr;subst hr;obtain⟨_,xs,rfl,_⟩:=hto;rw[(zB _ rfl).2]at hn;rcases AAj.1 hn with hn|hn
     ·have hn:n=s0.Bd:=hn;omega
     ·obtain⟨a,ha',hn⟩:=AAP.1 hn;simp at ha';subst ha';have:=(EL _ _ _ _).1 n hn;have:=i0.two;omega
    |box q ls=>
     simp[VP.roots]at hr;subst hr;have zB:σ.root r=_:=zB;rw[zB]at hn;rcases AAj.1 hn with hn|hn
     ·have hn:n=(s0.root r).AB:=hn;have:=i0.AF.2 r n (by rw[hn];exact AAo);omega
     ·obtain⟨a,ha',hn⟩:=AAP.1 hn;have:=(Bp _ _ _ a ha').1 n hn;have:=i0.two;omega
   ·rw[ha.root r hr,B2]at hn;split at hn
    ·simp[dead,Bv.AF]at hn;omega
    ·have:=i0.AF.2 r n hn;omega
 two:=by have:=i0.two;omega
 len:=ha.l1.trans i0.len
 Bb:=ha.l2.trans i0.Bb
 LQ:=by
  intro r a zU;by_cases hr:r∈ps.flatMap VP.roots
  ·obtain⟨p,hm,hr⟩:=AAP.1 hr;obtain⟨vs,hto,zB⟩:=ha.get hm;cases p with
   |slot u l=>simp[VP.roots]at hr
   |own u ty e d k=>
    simp[VP.roots]at hr;subst hr;obtain⟨_,xs,rfl,_⟩:=hto;rw[(zB _ rfl).2]at zU;simp at zU;subst zU;exact(EL _ _ _ _).2
   |box q ls=>
    simp[VP.roots]at hr;subst hr;have zB:σ.root r=_:=zB;rw[zB]at zU;exact(Bp _ _ _ a zU).2
  ·rw[ha.root r hr,B2]at zU;split at zU
   ·cases zU
   ·exact i0.LQ r a zU
theorem K8(x:(C4 ps).D):(Bk ms ps s0 x).Bd=s0.Bd+1:=by unfold Bk;rw[Ir];rfl
theorem Dc{x:(C4 ps).D}(h1:AW E s1 tm W)(i1:BV s1)(i0:Inv N s0)(hk:Ao (cx.in ms ps) s0 s1)(zF:∀t∈ms,cx.lock t=false/\cx.Ew t=false)(hp:Cb cx ms ps=true)(hx:Am ps s1=some x):
  ∃W',W'.w=W.w/\AW E (Bk ms ps s0 x) tm W'/\Inv N (Bk ms ps s0 x)/\Ao cx s0 (Bk ms ps s0 x)/\Ao (cx.in ms ps) s0 (Bk ms ps s0 x):=by
 obtain⟨xu,ha⟩:=Ml (N:=N) h1 i1 hk hp hx;have hc:=K8 (ms:=ms) (s0:=s0) x;have ho:=MQ zF hp;exact⟨Cr (Bk ms ps s0 x) W ps,rfl,Lr h1 i1 i0.two hk hp ha,Lq i0 ha hc,Gx ho hk hp ha J,Gx (M8 ho) hk hp ha J⟩
end
end Go.Ev
namespace Go.Ev
section
variable {P:Program}{E:Ci}{cx:Cx}{N:Nat}{s:St}{W:Wd}{a:Act}{Q:Exit->Act->World->Prop}
theorem Mr{n:Nat}{tm:Array Value}(h:AW E s tm W):AW E { s with Bd:=n } tm W where
 DT:=h.DT
 Bb:=h.Bb
 AM t:=BQ.map (λb hb=>⟨hb,rfl⟩) (λa v hv=>by cases a<;>exact hv) (h.AM t)
 roots r:=by
  obtain⟨q1,q2⟩:=h.roots r;exact⟨λj=>(q1 j).map (λa v hv=>by cases a<;>exact hv) λ_ _ _ _ hr=>hr,q2⟩
 sep:=h.sep
 init:=h.init
theorem MR(hc:Di P cx)(yM:C7 P E cx.env)(hm:P.follows .mixedOrders=true){id:Nat}{ops:Array Oper}{draw:Bool}{R:Type}{k:St->Option R}{x:R}(yI:codeOk N (.region id ops draw)=true)(hslk:∀o∈ops.toList,∀d,o.dst=some d->cx.Ew d=false)
  (xw:AW E s a.tmps W) (hinv:Inv N s) (he:EG cx ⟨ops,s.Bd,draw⟩ (number 0 ops.toList) (Ei ops.toList []) [] s k=some x)
  (hK:∀s' a' W',a'.defers=a.defers->AW E s' a'.tmps W'->Ao cx s s'->BV s'->BJ s' (· < s.Bd+ops.size)->k s'=some x->Q .normal a' W'.w):(Code.region id ops draw).wp P Q a W.w:=by
 obtain⟨tr,ht,hlen,hk⟩:=EH ops.toList 0 [] s he;simp only[codeOk,AAN]at yI;obtain⟨hE,hdst⟩:=yI
 have hd:∀o∈ops.toList,∀d,o.dst=some d->d<s.sl.length:=by intro o ho d hd;have:=AAZ.1 hdst o ho;rw[hd]at this;rw[hinv.len];simpa using this
 obtain⟨hkeep,hrin⟩:=GV ops.toList 0 [] s tr ht hslk hinv.LQ
 have hfin:∀a' W',a'.defers=a.defers->AW E (AJ (λ_=>true) 0 tr s) a'.tmps W'->BJ (AJ (λ_=>true) 0 tr s) (pA s.Bd (· < ops.size))->Q .normal a' W'.w:=λa' W' h1 h2 h3=>
  hK _ a' W' h1 h2 hkeep hrin (h3.mono λn hn=>by
   rcases hn with hn|⟨j,hj,e⟩
   ·omega
   ·have:j<ops.size:=hj;omega) hk
 have h2:=hinv.two;cases draw with
 |false=>
  refine wp_region ?_
  have:=MX (g:=⟨ops,s.Bd,false⟩) (bs:=Ei ops.toList []) (Q:=Q) hc yM (show 1<s.Bd by omega) (λi j hi hj=>by
   have hi:i<ops.size:=hi
   exact Ik (ops:=ops) hE (A:=(· < i)) (λk o hk ho e he hb=>by
     have:=CV ops.toList 0 hE k o (by simpa using ho) e he hb;have hk:k<i:=hk;show e.on<i;omega) (λk hk=>Nat.lt_trans hk hi) (i:=i) (o:=ops[i]) (by simp[hi]) (λe he hb=>by
     have:=CV ops.toList 0 hE i ops[i] (by simp[hi]) e he hb;show e.on<i;omega) j hj) ops.toList 0 [] s tr a W ht (λk o hk=>by simpa using hk) xw (hinv.AF.mono λn hn=>.inl hn) hd (λa' W' q1 q2 q3=>hfin a' W' q1 q2 (by simpa using q3))
  have e:List.range ops.size=List.range' 0 ops.toList.length:=by rw[List.range_eq_range'];simp
  rw[e];exact this
 |true=>
  refine wp_region_any hm ?_
  have zl:∀(tr:List (Nat×List Wr)) (i:Nat) (s:St),AJ (λi=>(Array.replicate ops.size false).getD i false) i tr s=s:=by
   intro tr
   induction tr with
   |nil=>intro i s;rfl
   |cons y tr ih=>
    intro i s;simp only[AJ]
    have:(Array.replicate ops.size false).getD i false=false:=by
     rw[AAm,Array.getElem?_replicate];split<;>rfl
    rw[this];exact ih (i+1) s
  have hrepd:AW E s a.tmps { W with w:={ W.w with drawn:=W.w.drawn+1 } }:=xw.world (λ_ _=>rfl) (λ_ _ _=>rfl) (AAi _) ⟨rfl,rfl,rfl⟩
  exact NX (g:=⟨ops,s.Bd,true⟩) (Q:=Q) hc yM (show 1<s.Bd by omega) hE rfl ht ADo hinv.AF hd hfin ops.size (Array.replicate ops.size false) a { W with w:={ W.w with drawn:=W.w.drawn+1 } } so so rfl
   (by rw[zl];exact hrepd) (by rw[zl];exact hinv.AF.mono λn hn=>.inl hn) (λi o hi=>by
    rw[AAm,Array.getElem?_replicate]at hi;split at hi<;>cases hi)
end
end Go.Ev
namespace Go.Ev
section
variable {P:Program}{E:Ci}{cx:Cx}{N:Nat}{s:St}{W:Wd}{a:Act}{Q:Exit->Act->World->Prop}
theorem HK:∀(os:List Oper)(i:Nat)(o:Oper)(d:Nat),o∈os->o.dst=some d->d∈Gf (number i os)
 | [],i,o,d,h,_=>by cases h
 |x::os,i,o,d,h,hd=>by
  simp only[number,Gf];rcases AAj.1 h with rfl|h
  ·rw[hd];exact AAo
  ·have:=HK os (i+1) o d h hd;cases x.dst with
   |none=>exact this
   |some y=>exact AAQ _ this
theorem LD{s':St}{n:Nat}(h:Ao cx s s')(hn:s.Bd<=n):Ao cx s { s' with Bd:=n }:=⟨h.AM,h.roots,h.box,h.l1,h.l2,hn⟩
theorem Hv{an:An}(hc:Di P cx)(yM:C7 P E cx.env)(hm:P.follows .mixedOrders=true){id:Nat}{ops:Array Oper}{draw:Bool}{R:Type}{k:St->Option R}{x:R}(yI:codeOk N (.region id ops draw)=true)
  (zF:∀t∈Bz (.region id ops draw),cx.lock t=false/\cx.Ew t=false) (xw:AW E s a.tmps W) (hinv:Inv N s) (he:EZ cx an id ops draw s k=some x)
  (hK:∀s' a' W',a'.defers=a.defers->AW E s' a'.tmps W'->Inv N s'->Ao cx s s'->k s'=some x->Q .normal a' W'.w):(Code.region id ops draw).wp P Q a W.w:=by
 unfold EZ at he;dsimp only at he;split at he
 ·refine MR hc yM hm yI (λo ho d hd=>(zF d (HK _ _ o d ho hd)).2) xw hinv he λs' a' W' q1 q2 q3 q4 q5 q6=>?_;exact hK { s' with Bd:=s.Bd+ops.size } a' W' q1 (Mr q2) ⟨q5,by have:=hinv.two;show 2<=s.Bd+ops.size;omega,q3.l1.trans hinv.len,q3.l2.trans hinv.Bb,q4⟩ (LD q3 J) q6
 ·have he:(λps:List VP=>if Cb cx (Gf (number 0 ops.toList)) ps then(EG (cx.in (Gf (number 0 ops.toList)) ps) ⟨ops,s.Bd,draw⟩ (number 0 ops.toList) (Ei ops.toList []) [] s (Am ps)).bind λx=>k (Bk (Gf (number 0 ops.toList)) ps s x)else none) (match an.Oj id with
   |some p=>p
   |none=>I4 ops.toList)=some x:=he
  generalize (match an.Oj id with
   |some p=>p
   |none=>I4 ops.toList)=ps at he
  dsimp only at he;split at he
  ·rename_i hpat;cases hq:EG (cx.in (Gf (number 0 ops.toList)) ps) ⟨ops,s.Bd,draw⟩ (number 0 ops.toList) (Ei ops.toList []) [] s (Am ps)with
   |none=>rw[hq]at he;cases he
   |some y=>
    rw[hq]at he;have he:k (Bk (Gf (number 0 ops.toList)) ps s y)=some x:=he;have hcin:Di P (cx.in (Gf (number 0 ops.toList)) ps):=hc;refine MR hcin yM hm yI (λo ho d hd=>?_) xw hinv hq λs' a' W' q1 q2 q3 q4 q5 q6=>?_
    ·have hmem:=HK ops.toList 0 o d ho hd;have h1:cx.Ew d=false:=(zF d hmem).2;simp[Cx.in,h1,(Av _ d).2 hmem]
    ·obtain⟨W2,w2,r2,i2,k2,_⟩:=Dc (N:=N) q2 q4 hinv q3 (λt ht=>zF t ht) hpat q6;rw[<-w2];exact hK _ a' W2 q1 r2 i2 k2 he
  ·cases he
theorem Ji{rs:It}{s':St}{W':Wd}(fr:JO s s' W W' rs)(zF:∀r∈rs,cx.lock r=false)(ya:∀r,r∉rs->s'.root r=s.root r)(hctr:s'.Bd=s.Bd):Ao cx s s' where
 AM t _:=by
  have:s'.slot t=s.slot t:=by show nth _ s'.sl t=_;rw[fr.same.sl];rfl
  rw[this];exact .same _
 roots r hr:=ya r λhm=>by rw[zF r hm]at hr;cases hr
 box r _:=fr.same.box r
 l1:=by rw[fr.same.sl]
 l2:=fr.same.len
 Bd:=by rw[hctr];exact AAi _
theorem GW(r:Nat):∀(as:List LA)(j:Nat)(s:St),(s.app (A7 r j as)).Bd=s.Bd/\∀x,x≠r->(s.app (A7 r j as)).root x=s.root x
 | [],j,s=>⟨rfl,λ_ _=>rfl⟩
 |a::as,j,s=>by obtain⟨h1,h2⟩:=GW r as (j+1) (s.AG (.leaf r j a));refine⟨h1,λx hx=>(h2 x hx).trans ?_⟩;show nth _ (DL s.ro r _) x=_;rw[BX,AAT λhh=>hx hh.1.symm];rfl
theorem FU:∀ {rs:It} {ws:List Wr} (s0 s:St),Ap cx s0 rs=some ws->(s.app ws).Bd=s.Bd/\∀x,x∉rs->(s.app ws).root x=s.root x
 | [],ws,s0,s,h=>by injection h with h;subst h;exact⟨rfl,λ_ _=>rfl⟩
 |r::rs,ws,s0,s,h=>by
  simp only[Ap]at h;split at h
  ·cases h
  ·split at h
   ·rename_i zf hws;injection h with h;subst h
    rw[A3]
    obtain⟨a1,a2⟩:(s.app (Cy s0 r)).Bd=s.Bd/\∀x,x≠r->(s.app (Cy s0 r)).root x=s.root x:=by
     unfold Cy;split
     ·exact⟨rfl,λ_ _=>rfl⟩
     ·exact GW r ((s0.root r).ls.map A6) 0 s
    obtain⟨b1,b2⟩:=FU s0 (s.app (Cy s0 r)) hws;exact⟨b1.trans a1,λx hx=>(b2 x λhm=>hx (AAQ _ hm)).trans (a2 x λe=>hx (e▸AAo))⟩
   ·cases h
theorem Iy(a:LA):(A6 a).AF=a.AF:=by cases a<;>rfl
theorem KI(a:LA)(h:a.Ce=true):(A6 a).Ce=true:=by cases a<;>first|exact h|rfl
theorem Hg(r:Nat):∀(as:List LA)(j:Nat)(s:St)(x:Nat),∀a∈((s.app (A7 r j as)).root x).ls,a∈(s.root x).ls\/(x=r/\a∈as)
 | [],j,s,x,a,h=>.inl h
 |b::as,j,s,x,a,h=>by
  rcases Hg r as (j+1) (s.AG (.leaf r j b)) x a h with h|⟨h1,h2⟩
  ·have ya:(s.AG (.leaf r j b)).root x=if r=x/\r<s.ro.length then { s.root r with ls:=DL (s.root r).ls j b }else s.root x:=BX _ _ _ _ _
   rw[ya]at h;split at h
   ·rename_i hx;have h:a∈DL (s.root r).ls j b:=h;rw[CG]at h;rcases List.mem_or_eq_of_mem_set h with h|h
    ·rw[<-hx.1];exact .inl h
    ·exact .inr ⟨hx.1.symm,by rw[h];exact AAo⟩
   ·exact .inl h
  ·exact .inr ⟨h1,AAQ _ h2⟩
theorem E6:∀ {rs:It} {ws:List Wr} (s0 s:St),Ap cx s0 rs=some ws->∀(x:Nat),∀a∈((s.app ws).root x).ls,a∈(s.root x).ls\/∃b∈(s0.root x).ls,a=A6 b
 | [],ws,s0,s,h,x,a,ha=>by injection h with h;subst h;exact .inl ha
 |r::rs,ws,s0,s,h,x,a,ha=>by
  simp only[Ap]at h;split at h
  ·cases h
  ·split at h
   ·rename_i zf hws;injection h with h;subst h
    rw[A3]at ha;rcases E6 s0 _ hws x a ha with ha|ha
    ·unfold Cy at ha;split at ha
     ·exact .inl ha
     rcases Hg r _ 0 s x a ha with ha|⟨h1,h2⟩
     ·exact .inl ha
     ·subst h1;obtain⟨b,hb,e⟩:=AAw.1 h2;exact .inr ⟨b,hb,e.symm⟩
    ·exact .inr ha
   ·cases h
theorem LP{an:An}(hc:Di P cx)(yM:C7 P E cx.env)(hm:P.follows .mixedOrders=true){id:Nat}{ops:Array Oper}{draw:Bool}{R:Type}{k:St->Option R}{x:R}(yI:codeOk N (.region id ops draw)=true)
  (zF:∀t∈Bz (.region id ops draw),cx.lock t=false/\cx.Ew t=false) (xw:AW E s a.tmps W) (hinv:Inv N s) (he:HQ cx an id ops draw s k=some x)
  (hK:∀s' a' W',a'.defers=a.defers->AW E s' a'.tmps W'->Inv N s'->Ao cx s s'->k s'=some x->Q .normal a' W'.w):(Code.region id ops draw).wp P Q a W.w:=by
 unfold HQ at he;split at he
 ·exact Hv hc yM hm yI zF xw hinv he hK
 ·rename_i r rs _;split at he
  ·rename_i zA;split at he
   ·rename_i fs zn;have hnv:Aj s s.Bd:=hinv.AF.Hk (v:=s.Bd) (Nat.lt_irrefl _) (by have:=hinv.two;omega);obtain⟨W1,hr1,fr,_⟩:=Ea xw hnv zn;obtain⟨c1,c2⟩:=FU (cx:=cx) s s zn;have hk1:Ao cx s (s.app fs):=Ji fr (λy hy=>by simpa using AAZ.1 zA y hy) c2 c1
    have hi1:Inv N (s.app fs):={
     AF:=by
      have hv:=hinv.AF;rw[c1];refine⟨λt n hn=>?_,λy n hn=>?_⟩
      ·have:(s.app fs).slot t=s.slot t:=by show nth _ (s.app fs).sl t=_;rw[fr.same.sl];rfl
       rw[this]at hn;exact hv.1 t n hn
      ·have yB:((s.app fs).root y).AB=(s.root y).AB:=(fr.same.box y).2.1;unfold Bv.AF at hn;rw[yB]at hn;rcases AAj.1 hn with e|hn
       ·exact hv.2 y n (by unfold Bv.AF;rw[e];exact AAo)
       ·obtain⟨b,hb,hbn⟩:=AAP.1 hn;rcases E6 (cx:=cx) s s zn y b hb with hb|⟨b0,hb0,e⟩
        ·exact hv.2 y n (by unfold Bv.AF;exact AAQ _ (AAP.2 ⟨b,hb,hbn⟩))
        ·rw[e,Iy]at hbn;exact hv.2 y n (by unfold Bv.AF;exact AAQ _ (AAP.2 ⟨b0,hb0,hbn⟩))
     two:=by rw[c1];exact hinv.two
     len:=hk1.l1.trans hinv.len
     Bb:=hk1.l2.trans hinv.Bb
     LQ:=λy b hb=>by
      rcases E6 (cx:=cx) s s zn y b hb with hb|⟨b0,hb0,e⟩
      ·exact hinv.LQ y b hb
      ·rw[e];exact KI b0 (hinv.LQ y b0 hb0) }
    rw[<-fr.w];exact Hv hc yM hm yI zF hr1 hi1 he λs' a' W' q1 q2 q3 q4 q5=>hK s' a' W' q1 q2 q3 (hk1.trans q4) q5
   ·cases he
  ·cases he
end
end Go.Ev
