/- Evaluator. Conditions: none. -/
import Derived.Test.YtimfhfkcgkplcaaGreatDoorLib2
import Derived.Orders
set_option linter.all false
namespace Go.Ev
mutual
theorem L.FD:∀(l:L) {w:World} {fz uQ:Nat->Prop} {v:Value} {x:l.D} {o:Is},l.rd 2 w fz v x o->l.rd 2 w uQ v x o
 | .int _,_,_,_,_,_,_,h=>h
 | .bool,_,_,_,_,_,_,h=>h
 | .str,_,_,_,_,_,_,h=>h
 | .sl _ e,w,fz,uQ,v,x,o,h=>by
  obtain⟨A,c,hv,hc,h⟩:=h;refine⟨A,c,hv,hc,?_⟩;cases A with
  |none=>exact h
  |some a=>
   rcases h with h|⟨g,os,uX,uk,ho⟩
   ·exact .inl h
   ·exact .inr ⟨g,os,uX,λi hi=>Ls.FD e (uk i hi),ho⟩
theorem Ls.FD:∀(ls:Ls) {w:World} {fz uQ:Nat->Prop} {g:Nat->Option Value} {x:ls.D} {o:Is},ls.rd 2 w fz g x o->ls.rd 2 w uQ g x o
 | .nil,_,_,_,_,_,_,h=>h
 | .one l,_,_,_,_,_,_,h=>by simp only[Ls.rd]at h ⊢;obtain⟨v,hg,h⟩:=h;exact⟨v,hg,L.FD l h⟩
 | .cons l ls,_,_,_,_,_,_,h=>by simp only[Ls.rd]at h ⊢;obtain⟨v,o1,o2,hg,h1,h2,rfl⟩:=h;exact⟨v,o1,o2,hg,L.FD l h1,Ls.FD ls h2,rfl⟩
end
def Conv(ls:List (L×Nat))(w:World)(fz uQ:Nat->Prop):Prop:=∀p∈ls,∀(l:L)(x:l.D)(y:Value)(o:Is),l=p.1->l.rd p.2 w fz y x o->l.rd p.2 w uQ y x o
theorem Conv.mono{ls:List (L×Nat)}{w:World}{fz uQ:Nat->Prop}(h:∀b,fz b->uQ b):Conv ls w fz uQ:=λp _ l x y o _ hr=>L.AN l hr (λ_ _=>rfl) h
theorem Conv.fresh{ls:List (L×Nat)}(hf:fresh ls=true)(w:World)(fz uQ:Nat->Prop):Conv ls w fz uQ:=by
 intro p hp l x y o hl hr;have:=AAW.1 hf p hp;simp only[AAd,AAV,AAT,AAJ]at this;obtain⟨l',m⟩:=p;dsimp only at hl this hr ⊢;subst hl;rcases this with((h1|h1)|h1)|⟨h1,h2⟩
 ·exact(L.AY l h1 hr).1
 ·subst h1;exact L.FD l hr
 ·subst h1;exact(L.CE l).2 (L.FD l ((L.CE l).1 hr))
 ·subst h1;cases l with
  |sl t e=>
   obtain⟨A,c,hv,hc,h⟩:=hr;refine⟨A,c,hv,hc,?_⟩;cases A with
   |none=>exact h
   |some a=>
    rcases h with h|⟨g,os,uX,uk,ho⟩
    ·exact .inl h
    ·exact .inr ⟨g,os,uX,λi hi=>(Ls.AY e h2 (uk i hi)).1,ho⟩
  |int k=>exact hr
  |bool=>exact hr
  |str=>exact hr
theorem Ge.conv{w:World}{fz uQ:Nat->Prop}{g:Bool}{ls:List (L×Nat)}{u:Value}{vs:List Lv}{own:Nat->Is}(h:Ge w fz g ls u vs own)(hc:Conv ls w fz uQ):Ge w uQ g ls u vs own:=by
 obtain⟨h1,h2,h3⟩:=h;refine⟨h1,h2,λj p lv hp vk=>?_⟩;obtain⟨y,hy,hr⟩:=h3 j p lv hp vk
 have hl:lv.l=p.1:=by have:=congrArg (·[j]?) h1;simp only[AAZ,hp,vk,AA0,Option.some.injEq]at this;exact this
 exact⟨y,hy,hc p (AAN hp) lv.l lv.x y _ hl hr⟩
theorem D4.conv{w:World}{fz uQ:Nat->Prop}{om:Nat->Is}:∀ {rs:List (Bool×List (L×Nat))} {rv:ADM} {uN:List (List Lv)} {off:Nat},D4 w fz om rs rv uN off->Conv (rs.flatMap (·.2)) w fz uQ->D4 w uQ om rs rv uN off
 | [],[],[],_,h,hc=>h
 | [],[],_::_,_,h,hc=>h.elim
 | [],_::_,_,_,h,hc=>by simp[D4]at h
 |_::_,[],_,_,h,hc=>by simp[D4]at h
 |_::_,_::_,[],_,h,hc=>by simp[D4]at h
 |(g,ls)::rs,u::us,vs::uN,off,h,hc=>
  ⟨Ge.conv h.1 λp hp=>hc p (by simp[hp]),D4.conv h.2 λp hp=>hc p (by
   grind)⟩
theorem JQ.conv{w:World}{fz uQ:Nat->Prop}{pm:PM}{u:Value}{vs:List Lv}{blk:Nat}{own:Nat->Is}(h:JQ w fz pm u vs blk own)(hc:Conv pm.outs w fz uQ):JQ w uQ pm u vs blk own:=by
 cases pm with
 |val g ls=>exact h
 |fn f=>exact h
 |box ls=>
  obtain⟨h1,h2,arr,T,fr,q1,q2,q3,h3⟩:=h;refine⟨h1,h2,arr,T,fr,q1,q2,q3,λj p lv hp vk=>?_⟩;obtain⟨y,hy,hr⟩:=h3 j p lv hp vk
  have hl:lv.l=p.1:=by have:=congrArg (·[j]?) h2;simp only[AAZ,hp,vk,AA0,Option.some.injEq]at this;exact this
  exact⟨y,hy,hc p (AAN hp) lv.l lv.x y _ hl hr⟩
 |row g ls=>exact Ge.conv h hc
theorem JQ.len{w:World}{fz:Nat->Prop}{pm:PM}{u:Value}{vs:List Lv}{blk:Nat}{own:Nat->Is}(h:JQ w fz pm u vs blk own):vs.length=pm.outs.length:=by
 cases pm with
 |val g ls=>rw[show vs=[]from h];rfl
 |fn f=>rw[show vs=[]from h];rfl
 |box ls=>have:=congrArg List.length h.2.1;simpa[PM.outs]using this
 |row g ls=>have:=congrArg List.length h.1;simpa[PM.outs]using this
open Classical in
noncomputable def Ku (T:IE) (om qf:Key->Is) (fl:Nat->Is):Key->Is
 | .fl n=>fl n
 | .blk r=>if h:∃c,AQ T c=some (.blk r)then qf h.choose else om (.blk r)
 | .lf r j=>if h:∃c,AQ T c=some (.lf r j)then qf h.choose else om (.lf r j)
theorem K8{T:IE}{c:Key}{n:Nat}:AQ T c≠some (.fl n):=by
 intro h;cases c with
 |fl c=>cases h
 |blk i=>obtain⟨r,e,_⟩:=BE h;cases e
 |lf i j=>rcases BC h with⟨r,e,_⟩|⟨l,c,o,e,_⟩<;>cases e
open Classical in
theorem Mi{T:IE}(hn:(T.flatMap PT.D1).Pairwise NH){om qf:Key->Is}{fl:Nat->Is}{c k:Key}(h:AQ T c=some k):Ku T om qf fl k=qf c:=by
 have hex:∃c,AQ T c=some k:=⟨c,h⟩;have hc:hex.choose=c:=BR hn hex.choose_spec h;cases k with
 |fl n=>exact absurd h K8
 |blk r=>
  show(if h:∃c,AQ T c=some (.blk r)then qf h.choose else om (.blk r))=_;grind
 |lf r j=>
  show(if h:∃c,AQ T c=some (.lf r j)then qf h.choose else om (.lf r j))=_;grind
theorem Mh{T:IE}{om qf:Key->Is}{fl:Nat->Is}{k:Key}(h:∀c,AQ T c≠some k)(hk:∀n,k≠.fl n):Ku T om qf fl k=om k:=by
 have hex:¬ ∃c,AQ T c=some k:=λ⟨c,hc⟩=>h c hc;cases k with
 |fl n=>grind
 |blk r=>exact dif_neg hex
 |lf r j=>exact dif_neg hex
section
variable {P:Program}{E:Ck}{s:St}{W:Wd}{v:Nat}{tm:Array Value}{cx:Cx}
theorem Jh(h:AW E s tm W)(hv:Aj s v){ks:List (L×Nat)}{rs:Is}{fs:List Wr}{w':World}{uQ:Nat->Prop}(hf:(if fresh ks then some []else Ao cx s rs)=some fs):
  ∃W1 fzB,AW E (s.app fs) tm W1/\JP s (s.app fs) W W1 rs/\(∀b,W1.fz b->fzB b)/\(∀b,fzB b->W1.fz b\/(uQ b/\(Seen W rs b->W1.fz b)))/\Conv ks w' uQ fzB:=by
 split at hf
 ·rename_i vV;injection hf with hf;subst hf
  exact⟨W,W.fz,h,⟨⟨rfl,rfl,λ_=>⟨rfl,rfl,rfl⟩⟩,rfl,rfl,rfl,λ_ _ _=>rfl,λ_ _=>.inl rfl,λ_ _ _=>rfl,λ_=>rfl,λ_ _ hb=>hb,λ_ hb=>hb,λ_ hb=>.inl hb⟩,λ_ hb=>hb,λ_ hb=>.inl hb,Conv.fresh vV _ _ _⟩
 ·obtain⟨W1,h1,h2,h3⟩:=EY h hv hf;exact⟨W1,λb=>W1.fz b\/uQ b,h1,h2,λb hb=>.inl hb,λb hb=>hb.imp id λhb=>⟨hb,h3 b⟩,Conv.mono λb hb=>.inr hb⟩
theorem Ms(h:AW E s tm W)(hv:Aj s v){d:Nat}(hd:d<tm.size){g:Sm}{ui:List AV}{us:ADM}{uN:List (List Lv)}{T:IE}(hh:Handed s W g.ps ui us uN T)
  {z:g.outs.D} {r:Value} {w':World} {uQ:Nat->Prop} {vG:Key->Is} {rv:ADM} {vsR vsP:List (List Lv)} (co:FH g W.w (Seen W (Ae g.ps ui)) us (FM T W.bk) (Ag T W.om) z r w' uQ vG rv vsR vsP)
  {fs pw:List Wr} {bs:List (Bool×List LA)} {own left:_} (hf:(if fresh g.Gg then some []else Ao cx s (Ae g.ps ui))=some fs) (hb:Dl d v g.rs (unpack g.outs z) 0=some (bs,own,left)) (hp:AT s v g.ps ui left=some pw):
  ∃W',W'.w=w'/\AW E (s.app (fs++pw++[.root d ⟨false,v,own⟩,.slot d (Kb bs)])) (tm.setIfInBounds d r) W':=by
 have uO:=Fx h hh;obtain⟨W1,fzB,h1,vV,xI,yt,zz⟩:=Jh (cx:=cx) (w':=w') (uQ:=uQ) h hv hf;have zT:=vV.Hl hv;have zI:=D4.conv co.J1 (uQ:=fzB) λp hp=>zz p (AAU _ hp)
 have xE:∀(i:Nat)(pm:PM)(u:Value)(vs:List Lv),g.ps[i]?=some pm->us[i]?=some u->vsP[i]?=some vs->JQ w' fzB pm u vs (FM T W.bk i) λj=>vG (.lf i j):=λi pm u vs e1 e2 e3=>
  (co.each i pm u vs e1 e2 e3).conv λp hp=>zz p (AAR _ (AAL.2 ⟨pm,AAN e1,hp⟩))
 rw[co.outs]at hb;obtain⟨rfl,zM,ys,hyl,yA,hvok⟩:=G5 g.rs rv vsR vsP.flatten 0 zI hb
 obtain⟨U,rfl,hUl,hU⟩:=GZ (s:=s) (v:=v) g.ps ui vsP co.len (λi pm vs e1 e2=>by
  obtain⟨av,u,_,_,_,q2,_⟩:=hh.all e1;exact(xE i pm u vs e1 q2 e2).len) hp
 have htg:∀ {i:Nat} {m:PT},T[i]?=some m->∃pm av u vs vo uo,g.ps[i]?=some pm/\ui[i]?=some av/\us[i]?=some u/\vsP[i]?=some vo/\U[i]?=some uo/\Gt s W pm av m u vs/\Mq s v pm av vo uo/\JQ w' fzB pm u vo (FM T W.bk i) (λj=>vG (.lf i j)):=by intro i m hT;obtain⟨pm,av,u,vs,e1,e2,e3,e4,e5⟩:=hh.PD hT;have hi:i<g.ps.length:=(AAK.1 e1).1;obtain⟨vo,e6⟩:=Az co.len hi;obtain⟨uo,e7⟩:=Az hUl hi;exact⟨pm,av,u,vs,vo,uo,e1,e2,e3,e6,e7,e5,hU i pm av vo uo e1 e2 e6 e7,xE i pm u vo e1 e3 e6⟩
 have ze:∀u∈U.flatten,(∃(i:Nat) (ls:List (L×Nat)) (vo:List Lv),T[i]?=some (.box u.r)/\U[i]?=some [u]/\u=⟨u.r,0,AU s u.r v 0 ls vo⟩/\vo.length=ls.length/\(s.root u.r).box=true/\(s.root u.r).ls.length=ls.length) \/
   (∃(i:Nat) (l:List (Option (Loc×Is))) (j:Nat) (c:Loc) (o:Is) (g':Bool) (ls:List (L×Nat)) (as:List LA) (vo:List Lv),T[i]?=some (.row l)/\l[j]?=some (some (c,o))/\g.ps[i]?=some (.row g' ls)/\ui[i]?=some (.v g' as)/\vsP[i]?=some vo/\Ek s v ls as vo j u/\u.r=c.r/\u.lo=c.j/\u.news.length=1/\c.r<s.ro.length/\c.j<(s.root c.r).ls.length):=by
  intro u hu;obtain⟨uo,hm,hu⟩:=List.mem_flatten.1 hu;obtain⟨i,hi⟩:=AAr hm;have uR:i<g.ps.length:=by rw[<-hUl];exact(AAK.1 hi).1
  obtain⟨m,hT⟩:=Az hh.l4 uR;obtain⟨pm,av,u',vs,vo,uo',e1,e2,e3,e4,e5,e6,e7,e8⟩:=htg hT;rw[hi]at e5;injection e5 with e5;subst e5
  cases pm with
  |val g' ls=>rw[show uo=[]from e7]at hu;cases hu
  |fn f=>rw[show uo=[]from e7]at hu;cases hu
  |box ls=>
   obtain⟨r,AB,q1,q2⟩:=e7;obtain⟨r',ver',q3,rfl,q4,q5,_⟩:=e6;rw[q1]at q3;injection q3 with _ q3;injection q3 with q3;injection q3 with q3
   subst q3;subst q2;have:=ABI.1 hu;subst this;exact .inl ⟨i,ls,vo,hT,hi,rfl,by simpa[PM.outs]using e8.len,q4,q5⟩
  |row g' ls=>
   obtain⟨as,l,rfl,rfl,q3,q4,q5,q6,q7⟩:=e6;obtain⟨g2,as2,q8,q9⟩:=e7;injection q8 with q8 q8';subst q8;subst q8'
   obtain⟨j,hj⟩:=q9.1 u hu;have hj':=hj;obtain⟨p,c,lv2,AB,gen,t0,e0,xs0,d0,F,h1,h2,h3,h4,h5,h6,rfl⟩:=hj;have hjl:j<ls.length:=(AAK.1 h1).1;have vX:vs.length=ls.length:=by have:=congrArg List.length q5;simpa using this
   obtain⟨lv,vk⟩:=Az vX hjl;obtain⟨o,ho⟩:=Az q4 hjl;obtain⟨y,hy,hr⟩:=q7 j p _ lv o h1 h3 vk ho
   have hl:lv.l=p.1:=by have:=congrArg (·[j]?) q5;simp only[AAZ,h1,vk,AA0,Option.some.injEq]at this;exact this
   obtain⟨a1,a2⟩:=I5 h5;rcases hr with⟨hs,_⟩|⟨_,k0,_⟩|⟨c',o',_,_,_,_,_,_,_,_,k1,k2,_⟩
   ·rw[hl,h2]at hs;cases hs
   ·cases k0
   ·injection k1 with k1;subst k1;subst k2
    exact .inr ⟨i,l,j,c,o',_,ls,as,vo,hT,ho,e1,e2,e4,hj',rfl,rfl,rfl,a1,a2⟩
 have vD:∀u∈U.flatten,(u.news=[]\/u.r<(s.app fs).ro.length)/\u.lo+u.news.length<=((s.app fs).root u.r).ls.length:=by
  intro u hu;rw[vV.same.len,(vV.same.box u.r).2.2];rcases ze u hu with⟨i,ls,vo,hT,zV,he,vX,hb,hl⟩|⟨i,l,j,c,o,g',ls,as,vo,hT,hl,e1,e2,e3,hr,q1,q2,q3,q4,q5⟩
  ·refine⟨.inr (JH hb),?_⟩;rw[hl,he];simp[C2 s u.r v 0 ls vo vX]
  ·rw[q1,q2,q3];exact⟨.inr q4,q5⟩
 obtain⟨u1,uz⟩:=IC U.flatten (s.app fs) vD;rw[A5,A5];generalize s.app fs=s1 at h1 vV vD u1 uz zT;generalize s1.app (ER U.flatten)=s2 at u1 uz
 have hcov:∀u∈U.flatten,∀r j,r=u.r/\u.lo<=j/\j<u.lo+u.news.length->∃c,AQ T c=some (.lf r j):=by
  intro u hu r j hc;rcases ze u hu with⟨i,ls,vo,hT,zV,he,vX,hb,hl⟩|⟨i,l,jj,c,o,g',ls,as,vo,hT,hl,e1,e2,e3,hr,q1,q2,q3,q4,q5⟩
  ·exact⟨.lf i j,by rw[hc.1];simp[AQ,hT]⟩
  ·have:j=c.j:=J
   subst this;exact⟨.lf i jj,by rw[hc.1,q1];simp[AQ,hT,hl]⟩
 have hun:∀(r j:Nat),(∀c,AQ T c≠some (.lf r j))->s2.leaf r j=s1.leaf r j:=by
  intro r j hn;rw[uz]
  exact Jg r j _ _ λu hu hc=>by obtain⟨c,hk⟩:=hcov u hu r j hc;exact hn c hk
 have xz:∀k,∀b∈Ag T W.om k,∃a,AQ T k=some a/\b∈W.om a:=λk b hb=>CI hh hb;have hfz1:∀b,W1.fz b->b<W.w.heap.size/\∀k,b∉Ag T W.om k:=λb hb=>⟨uO.fz b (vV.fz b hb),λk hk=>(uO.own k b hk).1 (vV.fz b hb)⟩
 have hfar:∀k,(∀c,AQ T c≠some k)->∀b∈W1.om k,b<W.w.heap.size/\∀c,b∉Ag T W.om c:=by intro k hk b hb;have yT:=vV.sub k b hb;refine⟨(h.sep.own k b yT).2.1,λc hc=>?_⟩;obtain⟨a,ha,wH⟩:=xz c b hc;exact h.sep.A7 k a (λe=>hk c (e▸ha)) b yT wH
 have yJ:∀ {i r:Nat},T[i]?=some (.box r)->∃(ls:List (L×Nat)) (vo:List Lv) (arr:Array Value) (T':TypeId) (fr:Nat×Nat),(s.root r).ls.length=ls.length/\vo.length=ls.length/\w'.heap[W1.bk r]?=some (.cells arr T' fr)/\(∀j,j<arr.size->¬(fr.1<=j/\j<fr.2))/\arr.size=ls.length/\
   (∀(j:Nat)(p:L×Nat)(lv:Lv),ls[j]?=some p->vo[j]?=some lv->∃y,arr[j]?=some y/\lv.l.rd p.2 w' fzB y lv.x (vG (.lf i j)))/\(∀j,s2.leaf r j=if j<ls.length then nth .bad (AU s r v 0 ls vo) j else .bad)/\∀(j:Nat)(p:L×Nat),ls[j]?=some p->p.2=3->arr[j]?=W.cv r j:=by
  intro i r hT;obtain⟨pm,av,u',vs,vo,uo,e1,e2,e3,e4,e5,e6,e7,e8⟩:=htg hT;cases pm with
  |val g' ls=>cases e6.1
  |fn f=>cases e6.1
  |row g' ls=>obtain⟨_,_,_,q,_⟩:=e6;cases q
  |box ls=>
   obtain⟨r',ver',q3,q4,xD,hlen,_⟩:=e6;injection q4 with q4;subst q4
   obtain⟨r2,ver2,q5,q6⟩:=e7;rw[q5]at q3;injection q3 with _ q3;injection q3 with q3;injection q3 with q3
   subst q3;subst q6;have vX:vo.length=ls.length:=by simpa[PM.outs]using e8.len
   obtain⟨b1,b2,arr,T',fr,b3,b4,b5,b6⟩:=e8;have yf:FM T W.bk i=W1.bk r2:=by rw[vV.bk];simp[FM,hT]
   rw[yf]at b3
   have hkp:∀(j:Nat)(p:L×Nat),ls[j]?=some p->p.2=3->arr[j]?=W.cv r2 j:=by intro j p hj hp;have hq:=co.kept i ls j p e1 hj hp;obtain⟨_,q2⟩:=h.roots r2;rw[AAP xD]at q2;obtain⟨_,arr0,T0,fr0,k1,_,_,k2⟩:=q2;rw[k2];rw[yf]at hq;have hb4:=b3;rw[vV.bk]at hq hb4;simpa[World.cell?,hb4,k1]using hq
   refine⟨ls,vo,arr,T',fr,hlen,vX,b3,b4,b5,b6,λj=>?_,hkp⟩;have wa:=C2 s r2 v 0 ls vo vX;split
   ·rename_i hj;rw[uz];refine Iw r2 j U.flatten _ (λu hu hc=>?_) (.inr ⟨⟨r2,0,AU s r2 v 0 ls vo⟩,List.mem_flatten.2 ⟨_,AAN e5,List.mem_singleton_self _⟩,rfl,Nat.zero_le _,by rw[wa];omega⟩);rcases ze u hu with⟨i',ye,vo',vM,zV,he,_⟩|⟨i',l,jj,c,o,g',ye,as,vo',vM,hl,_,_,_,hr,q1,q2,q3,_⟩
    ·have xP:Key.blk i'=.blk i:=BR hh.nodup (a:=.blk r2) (by rw[hc.1];simp[AQ,vM]) (by simp[AQ,hT]);injection xP with xP;subst xP
     rw[e5]at zV;injection zV with zV;injection zV with zV;subst zV
     simp
    ·have:j=c.j:=J
     subst this;have xP:Key.lf i' jj=.lf i c.j:=BR hh.nodup (a:=.lf r2 c.j) (by rw[hc.1,q1];simp[AQ,vM,hl]) (by simp[AQ,hT]);injection xP with xP;subst xP
     rw[hT]at vM;cases vM
   ·rename_i hj;unfold St.leaf;rw[Au];rw[(u1.box r2).2.2,(vV.same.box r2).2.2,hlen];omega
 have zJ:∀ {i jj:Nat} {l:List (Option (Loc×Is))} {c:Loc} {o:Is},T[i]?=some (.row l)->l[jj]?=some (some (c,o))->∃(q:Is) (AB gen:Nat) (t t0:TypeId) (e:Ls) (xs vJ:List e.D) (d0:Nat) (u:Value),s.leaf c.r c.j=.arr AB gen t e xs d0/\s2.leaf c.r c.j=.arr AB v t0 e vJ d0/\W1.cv c.r c.j=some u/\AE e d0 w' fzB u vJ q/\Nc (W.om (.lf c.r c.j)) o (vG (.lf i jj)) q:=by
  intro i jj l c o hT hl;obtain⟨pm,av,u',vs,vo,uo,e1,e2,e3,e4,e5,e6,e7,e8⟩:=htg hT;cases pm with
  |val g' ls=>cases e6.1
  |fn f=>cases e6.1
  |box ls=>obtain⟨_,_,_,q,_⟩:=e6;cases q
  |row g' ls=>
   obtain⟨g2,ls2,as,u2,vs2,p,lv,y,f1,f2,f3,f4,f5,f6,f7,f8,f9,f10,hr⟩:=hh.N5 hT hl;rw[e1]at f1;injection f1 with f1;injection f1 with f1 f1';subst f1;subst f1'
   rw[e2]at f2;injection f2 with f2;subst f2
   rw[e3]at f3;injection f3 with f3;subst f3
   obtain⟨g3,as3,q8,q9⟩:=e7;injection q8 with q8 q8';subst q8;subst q8'
   obtain⟨u,hu,hru⟩:=q9.2 jj p f5 f8 (by rcases hr with⟨_,h0,_⟩|⟨_,_,h0,_⟩|⟨_,_,_,_,_,_,_,_,_,_,_,_,_,uV,_⟩;cases h0;cases h0;exact uV);have hru':=hru;obtain⟨p',c',lo,AB,gen,t0,e0,xs0,d0,F,vu,w5,h3',h4',h5',h6',hue⟩:=hru;rw[f5]at vu;injection vu with vu;subst vu
   rw[f6]at h3';injection h3' with h3';injection h3' with h3';subst h3'
   have hk:AQ T (.lf i jj)=some (.lf c.r c.j):=by simp[AQ,hT,hl]
   have uM:s2.leaf c.r c.j=.arr AB v t0 e0 (F xs0) d0:=by
    rw[uz];have hself:nth .bad u.news (c.j-u.lo)=.arr AB v t0 e0 (F xs0) d0:=by rw[hue];simp[nth]
    refine Iw c.r c.j U.flatten _ (λu2 hu2 hc=>?_) (.inr ⟨u,List.mem_flatten.2 ⟨_,AAN e5,hu⟩,by rw[hue];simp⟩);rcases ze u2 hu2 with⟨i',ye,vo',vM,zV,he,_⟩|⟨i',l',j',c',o',g',ye,xr,vo',vM,wB,g1,g2,g3,vI,q1,q2,q3,_⟩
    ·have xP:Key.lf i' c.j=.lf i jj:=BR hh.nodup (a:=.lf c.r c.j) (by rw[hc.1];simp[AQ,vM]) hk;injection xP with xP;subst xP
     rw[hT]at vM;cases vM
    ·have hcj:c.j=c'.j:=J
     have xP:Key.lf i' j'=.lf i jj:=BR hh.nodup (a:=.lf c.r c.j) (by rw[hc.1,q1,hcj];simp[AQ,vM,wB]) hk;injection xP with xP hjj;subst xP;subst hjj
     rw[e1]at g1;injection g1 with g1;injection g1 with g1 g1';subst g1;subst g1'
     rw[e2]at g2;injection g2 with g2;injection g2 with g2 g2';subst g2'
     rw[e4]at g3;injection g3 with g3;subst g3
     rw[<-vI.uniq hru']at hself;exact hself
   obtain⟨m1,m2,m3⟩:=(show Ge w' fzB _ ls u' vo (λj=>vG (.lf i j))from e8);obtain⟨y',xB,vt⟩:=m3 jj p lo f5 h4';rw[f10]at xB;injection xB with xB;subst xB
   rcases hr with⟨_,k0,_⟩|⟨_,k0,_⟩|⟨c2,o2,gen2,t2,e2',xs2,hh2,t',e',ys,k1,k2,k3,_,k4,k5,k6,k7,k8,k9,k10⟩
   ·cases k0
   ·cases k0
   ·injection k1 with k1;subst k1
    injection k2 with k2;injection k2 with k2 k2';subst k2'
    rw[h5']at k3;injection k3 with a1 a2 a3 a4 a5 a6
    subst a1;subst a2;subst a3;subst a4;have a5:=eq_of_heq a5;subst a5;obtain⟨uu,huu,uW⟩:=(h.roots c.r).row h5';rw[k5]at huu;injection huu with huu;subst huu
    rw[a6]at uW;obtain⟨t3,fn,zs,po,n1,n2,n3,n4,n5⟩:=OW c.p h6' uW k6 k4 (h.sep.nodup _);obtain⟨z1,z2⟩:=n2.uniq k8;subst z1;subst z2
    have vr:lo.l=.sl t3 e'/\∃ys',HEq lo.x ys'/\fn zs=ys':=by
     unfold N3 at n1;split at n1
     ·rename_i yy hyy;obtain⟨b1,b2⟩:=L.AH hyy;injection n1 with n1
      refine⟨b1,yy,?_,by rw[<-n1]⟩;obtain⟨ll,xx⟩:=lo;dsimp only at b1 b2 ⊢;subst b1;exact heq_of_eq b2
     ·cases n1
    obtain⟨hlo1,ys',hlo2,hlo3⟩:=vr
    have hrd':AE e' p.2 w' fzB y (fn zs) (vG (.lf i jj)):=by obtain⟨ll,xx⟩:=lo;dsimp only at hlo1 hlo2 vt;subst hlo1;have:=eq_of_heq hlo2;subst this;rw[hlo3];exact vt
    obtain⟨q,hq1,hq2⟩:=n5 w' fzB (vG (.lf i jj)) hrd' {
     nd:=co.nodup _
     new:=λb hb hbo=>by
      rcases(co.own _ b hb).2.2 with vW|⟨k0,yi⟩
      ·have:=(h.sep.own _ b hbo).2.1;omega
      ·obtain⟨a,ha,hba⟩:=xz k0 b yi;have:a=.lf c.r c.j:=AAl λuV=>h.sep.A7 a _ uV b hba hbo;subst this;have:=BR hh.nodup ha hk;subst this;have e9:Ag T W.om (.lf i jj)=po:=by simp[Ag,hT,hl]
       rw[<-e9];exact yi
     rest:=λb hb=>by
      refine co.frame b ?_ λk0 yi=>?_
      ·rcases hb with hb|hb
       ·exact(h.sep.own _ b hb.1).2.1
       ·exact(h.sep.fz b hb).1
      ·rcases hb with hb|hb
       ·obtain⟨a,ha,hba⟩:=xz k0 b yi;have:a=.lf c.r c.j:=AAl λuV=>h.sep.A7 a _ uV b hba hb.1;subst this;have:=BR hh.nodup ha hk;subst this;have e9:Ag T W.om (.lf i jj)=po:=by simp[Ag,hT,hl]
        rw[e9]at yi;exact hb.2 yi
       ·exact(uO.own k0 b yi).1 (.inl hb)
     fz:=λb hb=>xI b (vV.up b hb) }
    exact⟨q,_,_,_,t0,e0,xs0,F xs0,d0,hh2,h5',uM,by rw[vV.cv];exact k5,by rw[a6];exact hq1,hq2⟩
 have hq0:∀c,∃q:Is,∀k,AQ T c=some k->q.Nodup/\(∀b∈q,b∈vG c\/(b∈W1.om k/\b<W.w.heap.size/\∀c',b∉Ag T W.om c'))/\(∀r,k=.blk r->q=vG c)/\
   (∀i j r,c=.lf i j->T[i]?=some (.box r)->q=if j<(s.root r).ls.length then vG c else [])/\
   (∀i j l cc o,c=.lf i j->T[i]?=some (.row l)->l[j]?=some (some (cc,o))->∃(AB gen:Nat) (t t0:TypeId) (e:Ls) (xs vJ:List e.D) (d0:Nat) (u:Value),s.leaf cc.r cc.j=.arr AB gen t e xs d0/\s2.leaf cc.r cc.j=.arr AB v t0 e vJ d0/\W1.cv cc.r cc.j=some u/\AE e d0 w' fzB u vJ q):=by
  intro c;cases hk:AQ T c with
  |none=>exact⟨[],λk vh=>by cases vh⟩
  |some k=>
   cases c with
   |fl n=>cases hk
   |blk i=>
    obtain⟨r,rfl,hT⟩:=BE hk;refine⟨vG (.blk i),λk vh=>?_⟩;injection vh with vh;subst vh
    exact⟨co.nodup _,λb hb=>.inl hb,λ_ _=>rfl,λ_ _ _ e=>by(cases e),λ_ _ _ _ _ e=>by(cases e)⟩
   |lf i j=>
    rcases BC hk with⟨r,rfl,hT⟩|⟨l,cc,o,rfl,hT,hl⟩
    ·refine⟨if j<(s.root r).ls.length then vG (.lf i j)else [],λk vh=>?_⟩;injection vh with vh;subst vh
     refine⟨?_,?_,λ_ e=>by(cases e),?_,?_⟩
     ·split
      ·exact co.nodup _
      ·exact AAS
     ·intro b hb;split at hb
      ·exact .inl hb
      ·cases hb
     ·intro i' j' r' e vM;injection e with e1 e2;subst e1;subst e2
      rw[hT]at vM;injection vM with vM;injection vM with vM;subst vM
      rfl
     ·intro i' j' l' cc' o' e vM;injection e with e1 e2;subst e1;subst e2
      rw[hT]at vM;cases vM
    ·obtain⟨q,AB,gen,t,t0,e,xs,vJ,d0,u,p1,p2,p3,p4,p5,p6⟩:=zJ hT hl;refine⟨q,λk vh=>?_⟩;injection vh with vh;subst vh
     have e9:Ag T W.om (.lf i j)=o:=by simp[Ag,hT,hl]
     refine⟨p5,λb hb=>?_,λ_ e=>by(cases e),?_,?_⟩
     ·rcases p6 b hb with hb|⟨wH,w6⟩
      ·exact .inl hb
      ·refine .inr ⟨by rw[vV.om _ _ (hh.root hk)];exact wH,(h.sep.own _ b wH).2.1,λc' vL=>?_⟩;obtain⟨a,ha,hba⟩:=xz c' b vL;have:a=.lf cc.r cc.j:=AAl λuV=>h.sep.A7 a _ uV b hba wH;subst this;have:=BR hh.nodup ha hk;subst this;rw[e9]at vL;exact w6 vL
     ·intro i' j' r' e vM;injection e with e1 e2;subst e1;subst e2
      rw[hT]at vM;cases vM
     ·intro i' j' l' cc' o' e vM wB;injection e with e1 e2;subst e1;subst e2
      rw[hT]at vM;injection vM with vM;injection vM with vM;subst vM
      rw[hl]at wB;injection wB with wB;injection wB with wB;injection wB with q1 q2;subst q1
      exact⟨AB,gen,t,t0,e,xs,vJ,d0,u,p1,p2,p3,p4⟩
 obtain⟨qf,hqf⟩:=Classical.axiomOfChoice hq0
 let chb:Nat->Prop:=λr=>∃i:Nat,T[i]?=some (.box r)
 let chk:Nat->Nat->Prop:=λr j=>∃c,AQ T c=some (.lf r j)
 let newcv:Nat->Nat->Option Value:=λr j=>match w'.heap[W1.bk r]? with
  |some (.cells arr _ _)=>arr[j]?
  |_=>none
 open Classical in
 let W2:Wd:={
  w:=w'
  fz:=fzB
  cv:=λr j=>if chb r then newcv r j else W1.cv r j
  bk:=W1.bk
  om:=Ku T W1.om qf λn=>vG (.fl n) }
 have hW2om:∀k,W2.om k=Ku T W1.om qf (λn=>vG (.fl n)) k:=λ_=>rfl;have hflom:∀k,W2.om (.fl k)=vG (.fl k):=λk=>rfl;have zY:∀ {c k},AQ T c=some k->W2.om k=qf c:=λhk=>Mi hh.nodup hk;have zX:∀ {k},(∀c,AQ T c≠some k)->(∀n,k≠.fl n)->W2.om k=W1.om k:=λhk hn=>Mh hk hn
 have zu:∀k,∀b∈W2.om k,(∃c,(AQ T c=some k\/∃n,k=.fl n/\c=.fl n)/\b∈vG c)\/(b∈W1.om k/\b<W.w.heap.size/\∀c,b∉Ag T W.om c):=by
  intro k b hb;by_cases hk:∃c,AQ T c=some k
  ·obtain⟨c,hk⟩:=hk;rw[zY hk]at hb;rcases(hqf c k hk).2.1 b hb with hb|hb
   ·exact .inl ⟨c,.inl hk,hb⟩
   ·exact .inr hb
  ·have hk:∀c,AQ T c≠some k:=λc hc=>hk ⟨c,hc⟩;by_cases hn:∃n,k=.fl n
   ·obtain⟨n,rfl⟩:=hn;exact .inl ⟨.fl n,.inr ⟨n,rfl,rfl⟩,hb⟩
   ·rw[zX hk λn e=>hn ⟨n,e⟩]at hb;exact .inr ⟨hb,hfar k hk b hb⟩
 have hnfz:∀c,∀b∈vG c,¬fzB b:=by
  intro c b hb hz;obtain⟨q1,q2,q3⟩:=co.own c b hb;rcases yt b hz with hz|⟨hz,zK⟩
  ·obtain⟨p1,p2⟩:=hfz1 b hz;rcases q3 with q3|⟨k0,q3⟩
   ·omega
   ·exact p2 k0 q3
  ·exact q1 hz
 have yb:∀b,(b<W.w.heap.size/\∀c,b∉Ag T W.om c)->∀c,b∉vG c:=by
  intro b hb c hc;rcases(co.own c b hc).2.2 with q|⟨k0,q⟩
  ·omega
  ·exact hb.2 k0 q
 have wV:Sep E W2:={
  nodup:=by
   intro k;by_cases hk:∃c,AQ T c=some k
   ·obtain⟨c,hk⟩:=hk;rw[zY hk];exact(hqf c k hk).1
   ·have hk:∀c,AQ T c≠some k:=λc hc=>hk ⟨c,hc⟩;by_cases hn:∃n,k=.fl n
    ·obtain⟨n,rfl⟩:=hn;exact co.nodup _
    ·rw[zX hk λn e=>hn ⟨n,e⟩];exact h1.sep.nodup _
  A7:=by
   intro k k' uV b hb uZ;rcases zu k b hb with⟨c,hc,hb⟩|⟨hb,hfb⟩
   ·rcases zu k' b uZ with⟨c',vL,uZ⟩|⟨uZ,hfb'⟩
    ·refine co.A7 c c' (λe=>uV ?_) b hb uZ;subst e;rcases hc with q|⟨n,q1,q2⟩
     ·rcases vL with q'|⟨n',q1',q2'⟩
      ·rw[q]at q';injection q'
      ·subst q2';cases q
     ·rcases vL with q'|⟨n',q1',q2'⟩
      ·subst q2;cases q'
      ·rw[q2]at q2';injection q2' with q2';rw[q1,q1',q2']
    ·exact yb b hfb' c hb
   ·rcases zu k' b uZ with⟨c',vL,uZ⟩|⟨uZ,hfb'⟩
    ·exact yb b hfb c' uZ
    ·exact h1.sep.A7 k k' uV b hb uZ
  own:=by
   intro k b hb;rcases zu k b hb with⟨c,hc,hb⟩|⟨hb,p1,p2⟩
   ·obtain⟨q1,q2,q3⟩:=co.own c b hb;refine⟨hnfz c b hb,q2,?_⟩;rcases q3 with q3|⟨k0,q3⟩
    ·left;have:=h.sep.size;omega
    ·obtain⟨a,_,ha⟩:=xz k0 b q3;exact(h.sep.own a b ha).2.2
   ·obtain⟨q1,q2,q3⟩:=h1.sep.own k b hb;refine⟨λhz=>?_,AA6 p1 co.size,q3⟩;rcases yt b hz with hz|⟨hz,zK⟩
    ·exact q1 hz
    ·rcases(co.fz b hz).2 with h3|h3|⟨k0,h3⟩
     ·exact q1 (zK h3)
     ·omega
     ·exact p2 k0 h3
  fz:=by
   intro b hb;rcases yt b hb with hz|⟨hz,zK⟩
   ·have:=h1.sep.fz b hz;rw[vV.w]at this;exact⟨AA6 this.1 co.size,this.2⟩
   ·obtain⟨q1,q2⟩:=co.fz b hz;refine⟨q1,?_⟩;rcases q2 with q2|q2|⟨k0,q2⟩
    ·rcases q2 with q2|⟨r,hr,j,q2⟩
     ·exact(h.sep.fz b q2).2
     ·exact .inr (h.sep.own _ b q2).2.2
    ·right;left;have:=h.sep.size;omega
    ·obtain⟨a,_,ha⟩:=xz k0 b q2;exact .inr (h.sep.own a b ha).2.2
  frame:=by
   intro b wH w6;refine(co.frame b ADe λk hk=>?_).trans (h.sep.frame b wH w6);obtain⟨a,_,ha⟩:=xz k b hk;rcases(h.sep.own a b ha).2.2 with q|q
   ·omega
   ·exact w6 q
  size:=AA2 h.sep.size co.size
  rest:=⟨co.rest.1.trans h.sep.rest.1,co.rest.2.1.trans h.sep.rest.2.1,co.rest.2.2.trans h.sep.rest.2.2⟩ }
 have zt:JS s s2:=⟨u1.sl.trans vV.same.sl,u1.len.trans vV.same.len,λx=>⟨(u1.box x).1.trans (vV.same.box x).1,(u1.box x).2.1.trans (vV.same.box x).2.1,(u1.box x).2.2.trans (vV.same.box x).2.2⟩⟩;have hcvu:∀r,¬chb r->∀j,W2.cv r j=W1.cv r j:=λr hr j=>AAQ hr;have hcvb:∀r,chb r->∀j,W2.cv r j=newcv r j:=λr hr j=>AAP hr
 have yN:∀ {i j r j0:Nat} {l:List (Option (Loc×Is))} {c:Loc} {o:Is},T[i]?=some (.row l)->l[j]?=some (some (c,o))->¬chb c.r:=by
  rintro i j r j0 l c o hT hl ⟨i',vM⟩
  have xP:Key.lf i' c.j=.lf i j:=BR hh.nodup (a:=.lf c.r c.j) (by simp[AQ,vM]) (by simp[AQ,hT,hl]);injection xP with xP;subst xP
  rw[hT]at vM;cases vM
 have zH:AW E s2 tm W2:=by
  refine h1.MH zT u1 chk chb (λr j hn=>hun r j λc hc=>hn ⟨c,hc⟩) hcvu (λr j ⟨i,hT⟩=>⟨.lf i j,by simp[AQ,hT]⟩) (λ_=>rfl) ?_ ?_ ?_ (λb hb=>xI b hb) ?_ wV ?_ ?_
  ·intro r j hn;exact zX (λc hc=>hn ⟨c,hc⟩) λn e=>by cases e
  ·intro r;by_cases hk:∃c,AQ T c=some (.blk r)
   ·obtain⟨c,hk⟩:=hk;rw[zY hk,(hqf c _ hk).2.2.1 r rfl];cases c with
    |fl c=>cases hk
    |lf i j=>rcases BC hk with⟨r',e,_⟩|⟨l,c,o,e,_⟩<;>cases e
    |blk i=>
     obtain⟨r',e,hT⟩:=BE hk;injection e with e;subst e
     rw[co.blk,vV.PK];simp[Ag,hT]
   ·exact zX (λc hc=>hk ⟨c,hc⟩) λn e=>by cases e
  ·intro b hb
   have:b<W.w.heap.size/\∀k,b∉Ag T W.om k:=by
    rcases hb with hb|⟨r,hr,hb⟩|⟨r,j,hr,hb⟩
    ·exact hfz1 b hb
    ·refine hfar (.blk r) (λc hc=>?_) b hb;cases c with
     |fl c=>cases hc
     |blk i=>obtain⟨r',e,hT⟩:=BE hc;injection e with e;subst e;exact hr ⟨i,hT⟩
     |lf i j=>rcases BC hc with⟨r',e,_⟩|⟨l,c,o,e,_⟩<;>cases e
    ·exact hfar (.lf r j) (λc hc=>hr ⟨c,hc⟩) b hb
   show w'.heap[b]?=_;rw[co.frame b this.1 this.2,vV.w]
  ·intro r j AB gen t e xs d0 hc hl uV;obtain⟨c,hk⟩:=hc;cases c with
   |fl c=>cases hk
   |blk i=>obtain⟨r',e,hT⟩:=BE hk;cases e
   |lf i jj=>
    rcases BC hk with⟨r',e,hT⟩|⟨l,cc,o,e,hT,zP⟩
    ·injection e with e1 e2;subst e1;subst e2
     obtain⟨ls,vo,arr,T',fr,c1,c2,c3,c4,c5,c6,c7,c8⟩:=yJ hT;rw[c7]at hl;split at hl
     ·rename_i hj;have hj2:j<vo.length:=J
      rw[Ad,B9 s r v 0 ls vo j ls[j] vo[j] (AAI hj) (AAI hj2),AAa]at hl;rcases C1 (s.leaf r j) v ls[j].2 vo[j]with hq|⟨ver0,gen0,t0,e0,xs0,y0,q1,q2,q3,q4⟩
      ·rw[hq]at hl;exact absurd (Ju hl).1 uV
      ·rw[q4]at hl
       replace hl:LA.arr ver0 v t0 e0 y0 2=.arr AB gen t e xs d0:=hl
       injection hl with f1 f2 f3 f4 f5 f6
       subst f1;subst f2;subst f4;refine⟨?_,gen0,t0,xs0,2,by rw[vV.leaf _ _ (hh.root hk)];exact q2,λhg=>absurd rfl hg⟩;rw[hcvb r ⟨i,hT⟩ j,vV.cv,<-c8 j ls[j] (AAI hj) q1]
       show(match w'.heap[W1.bk r]? with
        |some (.cells arr _ _)=>arr[j]?
        |_=>none)=_
       rw[c3]
     ·cases hl
    ·injection e with e1 e2;subst e1;subst e2
     obtain⟨_,ver0,gen0,t1,t0,e0,xs0,vJ,d1,u,c1,c2,c3,c4⟩:=zJ hT zP;rw[c2]at hl;injection hl with f1 f2 f3 f4 f5 f6
     subst f1;subst f2;subst f4;exact⟨hcvu _ (yN hT zP (r:=0) (j0:=0)) _,gen0,t1,xs0,d1,by rw[vV.leaf _ _ (hh.root hk)];exact c1,λhg=>absurd rfl hg⟩
  ·intro um r j hc;obtain⟨c,hk⟩:=hc;cases c with
   |fl c=>cases hk
   |blk i=>obtain⟨r',e,hT⟩:=BE hk;cases e
   |lf i jj=>
    rw[zY hk];obtain⟨_,_,_,hqb,hqr⟩:=hqf _ _ hk;rcases BC hk with⟨r',e,hT⟩|⟨l,cc,o,e,hT,zP⟩
    ·injection e with e1 e2;subst e1;subst e2
     obtain⟨ls,vo,arr,T',fr,c1,c2,c3,c4,c5,c6,c7,c8⟩:=yJ hT;rw[hqb i j r rfl hT,c1]
     have uv:W2.cv r j=arr[j]?:=by
      rw[hcvb r ⟨i,hT⟩ j]
      show(match w'.heap[W1.bk r]? with
       |some (.cells arr _ _)=>arr[j]?
       |_=>none)=_
      rw[c3]
     rw[c7,uv];by_cases hj:j<ls.length
     ·rw[AAP hj,AAP hj];have hj2:j<vo.length:=J
      obtain⟨y,hy,hr⟩:=c6 j ls[j] vo[j] (AAI hj) (AAI hj2);rw[Ad,B9 s r v 0 ls vo j ls[j] vo[j] (AAI hj) (AAI hj2),hy];rcases C1 (s.leaf r (0+j)) v ls[j].2 vo[j]with hq|⟨ver0,gen0,t0,e0,xs0,y0,q1,q2,q3,q4⟩
      ·rw[hq];exact FA hr
      ·rw[q4];refine⟨y,rfl,?_⟩;rw[q1]at hr;generalize vo[j]=lv at q3 hr;subst q3;exact(L.CE (.sl t0 e0)).1 hr
     ·rw[AAQ hj,AAQ hj];exact⟨rfl,λ_ _=>trivial⟩
    ·injection e with e1 e2;subst e1;subst e2
     obtain⟨ver0,gen0,t1,t0,e0,xs0,vJ,d1,u,c1,c2,c3,c4⟩:=hqr i jj l cc o rfl hT zP;rw[c2,hcvu cc.r (yN hT zP (r:=0) (j0:=0)) cc.j];exact⟨u,c3,c4⟩
  ·rintro r ⟨i,hT⟩ xD
   obtain⟨ls,vo,arr,T',fr,c1,c2,c3,c4,c5,c6,c7,c8⟩:=yJ hT;refine⟨arr,T',fr,c3,c4,?_,λj=>?_⟩
   ·rw[(vV.same.box r).2.2,c5,c1]
   ·rw[hcvb r ⟨i,hT⟩ j]
    show(match w'.heap[W1.bk r]? with
     |some (.cells arr _ _)=>arr[j]?
     |_=>none)=_
    rw[c3]
 have hv2:Aj s2 v:=by
  refine⟨λt=>?_,λr j=>?_,hv.2.2⟩
  ·have:s2.slot t=s.slot t:=by show nth _ s2.sl t=_;rw[zt.sl];rfl
   rw[this];exact hv.1 t
  ·by_cases hc:chk r j
   ·obtain⟨c,hk⟩:=hc;cases c with
    |fl c=>cases hk
    |blk i=>obtain⟨r',e,hT⟩:=BE hk;cases e
    |lf i jj=>
     rcases BC hk with⟨r',e,hT⟩|⟨l,cc,o,e,hT,zP⟩
     ·injection e with e1 e2;subst e1;subst e2
      obtain⟨ls,vo,arr,T',fr,c1,c2,c3,c4,c5,c6,c7,c8⟩:=yJ hT;rw[c7];split
      ·rename_i hj;have hj2:j<vo.length:=J
       rw[Ad,B9 s r v 0 ls vo j ls[j] vo[j] (AAI hj) (AAI hj2)];rcases C1 (s.leaf r (0+j)) v ls[j].2 vo[j]with hq|⟨ver0,gen0,t0,e0,xs0,y0,q1,q2,q3,q4⟩
       rotate_left
       ·rw[q4];left;rfl
       rw[hq];generalize vo[j]=lv;obtain⟨l,x⟩:=lv;cases l with
       |sl t e=>cases ls[j].2 with
        |zero=>right;simp[BJ,LA.AF]
        |succ m=>left;rfl
       |_=>right;simp[BJ,LA.AF]
      ·right;simp[LA.AF]
     ·injection e with e1 e2;subst e1;subst e2
      obtain⟨_,ver0,gen0,t1,t0,e0,xs0,vJ,d1,u,c1,c2,c3,c4⟩:=zJ hT zP;rw[c2];exact .inl rfl
   ·rw[hun r j λc vL=>hc ⟨c,vL⟩];exact zT.2.1 r j
 have hown':∀(k:Nat)(b:LA),own[k]?=some b->∃y,ys[k]?=some y/\FI w' fzB v b y (vG (.fl k)):=λk b hk=>by have:=yA k b hk;rwa[AAa]at this
 let oj:Nat->Is:=λk=>if k<own.length then vG (.fl k)else []
 have hoj:∀k,∀b∈oj k,b∈vG (.fl k):=by
  intro k b hb;have hb:b∈(if k<own.length then vG (.fl k)else []):=hb;split at hb
  ·exact hb
  ·cases hb
 generalize zy:Kb bs=av;refine⟨AL W2 w' [] d (λk=>ys[k]?) 0 [] oj,rfl,?_⟩;refine zH.KV hv2 (us:=[]) hd (x:=⟨false,v,own⟩) (a:=av) (u:=r) (w':=w') (cvd:=λk=>ys[k]?) (bkd:=0) (ob:=[]) (oj:=oj) rfl ?_ (λ_ _=>rfl) (λb h1 h2=>rfl) (AAb _) ⟨rfl,rfl,rfl⟩ AAS ?_ (λ_ _ hb=>by cases hb) ?_ ?_ ?_ ?_
 ·intro j AB gen t e xs dd hl;rw[Ad]at hl;cases hq:own[j]? with
  |none=>rw[hq]at hl;cases hl
  |some b=>
   rw[hq]at hl;obtain⟨y,_,ho⟩:=hown' j b hq;have hl:b=.arr AB gen t e xs dd:=hl;subst hl;exact ho.1
 ·intro j;show(if j<own.length then vG (.fl j)else []).Nodup;split
  ·exact co.nodup _
  ·exact AAS
 ·intro i j zN b hb uZ;exact co.A7 (.fl i) (.fl j) (λe=>zN (by injection e)) b (hoj i b hb) (hoj j b uZ)
 ·intro b hb;rcases hb with hb|⟨j,hb⟩
  ·cases hb
  ·exact .inl ⟨.fl j,λhk=>hk,by rw[hflom];exact hoj j b hb⟩
 ·intro um vA;refine⟨λj=>?_,?_⟩
  ·have e1:(AL W2 w' [] d (λk=>ys[k]?) 0 [] oj).cv d j=ys[j]?:=by simp[AL]
   have e2:(AL W2 w' [] d (λk=>ys[k]?) 0 [] oj).om (.lf d j)=oj j:=by simp[AL]
   rw[e1,e2];show Aa _ _ (nth LA.bad own j) _ _;rw[Ad];cases hq:own[j]? with
   |none=>
    have hj:¬j<own.length:=by have:=List.getElem?_eq_none_iff.1 hq;omega
    have:oj j=[]:=AAQ hj;rw[this];exact⟨rfl,λ_ _=>trivial⟩
   |some b=>
    have hj:j<own.length:=(AAK.1 hq).1;have:oj j=vG (.fl j):=AAP hj;rw[this];obtain⟨y,hy,ho⟩:=hown' j b hq;show Aa _ _ b _ _;rw[hy];cases b with
    |arr AB gen t e xs m=>exact⟨y,rfl,ho.2.2⟩
    |bad=>exact⟨ho,λ_ _=>trivial⟩
    |_=>exact ho.elim
  ·show(if false=true then _ else _);rw[AAQ OF];simp[AL]
 ·intro um vA
  have zv:=hvok (s2.app (gone []++[.root d ⟨false,v,own⟩,.slot d av])) (AL W2 w' [] d (λk=>ys[k]?) 0 [] oj) rfl rfl (λk hk=>by
   rw[AAa];refine⟨?_,by simp[AL]⟩;unfold St.leaf;rw[vA])
  rw[co.res];generalize s2.app (gone []++[.root d ⟨false,v,own⟩,.slot d av])=s3 at zv;generalize AL W2 w' [] d (λk=>ys[k]?) 0 [] oj=W3 at zv;rw[<-zy]
  have htup:∀ {bs:List (Bool×List LA)} {rv:ADM},bs.length=rv.length->(∀(i:Nat)(p:Bool×List LA)(u:Value),bs[i]?=some p->rv[i]?=some u->Ey s3 W3 p.1 p.2 u)->BO s3 W3 (.Da bs) (.tuple rv.toArray):=by
   intro bs rv hl hh;refine⟨rv.toArray,rfl,by simp[hl],λj p hj=>?_⟩;have uR:j<rv.length:=by rw[<-hl];exact(AAK.1 hj).1
   exact⟨rv[j],by simp[uR],hh j p rv[j] hj (AAI uR)⟩
  match bs,rv,zM,zv with
  | [],[],zM,zv=>exact htup zM zv
  | [(g',as)],[u],zM,zv=>exact zv 0 (g',as) u rfl rfl
  |p::q::bs,u::u'::rv,zM,zv=>exact htup zM zv
end
end Go.Ev
namespace Go.Ev
section
variable {P:Program}{E:Ck}{s:St}{W:Wd}{tm:Array Value}{v:Nat}
def Ff(W:Wd)(w':World)(uQ:Nat->Prop)(b0:Nat):Wd:=
 { W with w:=w',fz:=λx=>W.fz x\/uQ x,om:=λk=>match k with
   | .fl n=>if n=0 then [b0]else []
   |k=>W.om k }
theorem AW.OY(h:AW E s tm W)(hv:Aj s v){b0:Nat}{w':World}{uQ:Nat->Prop}
  (hold:∀b,b<W.w.heap.size->w'.heap[b]?=W.w.heap[b]?) (vR:W.w.heap.size<=w'.heap.size) (ug:w'.os=W.w.os/\w'.tape=W.w.tape/\w'.output=W.w.output)
  (wJ:∀x,uQ x->x<w'.heap.size/\(W.fz x\/W.w.heap.size<=x)) (hb:W.w.heap.size<=b0/\b0<w'.heap.size/\¬uQ b0):AW E s tm (Ff W w' uQ b0):=by
 have hs:=h.sep
 have xR:∀k b,b∈(Ff W w' uQ b0).om k->(b∈W.om k/\∀n,k≠.fl n)\/(k=.fl 0/\b=b0):=by
  intro k b hk;cases k with
  |fl n=>
   have hk:b∈(if n=0 then [b0]else([]:Is)):=hk;by_cases hn:n=0
   ·rw[AAP hn]at hk;exact .inr ⟨by rw[hn],ABI.1 hk⟩
   ·rw[AAQ hn]at hk;cases hk
  |blk r=>exact .inl ⟨hk,OF⟩
  |lf r j=>exact .inl ⟨hk,OF⟩
 have um:Eg v s s W (Ff W w' uQ b0):={
  fz:=λb hb=>.inl hb
  Lj:=λb hb=>hold b (hs.fz b hb).1
  leaf:=λr j AB gen t e xs dd hl uV=>⟨rfl,gen,t,xs,dd,hl,λ_=>⟨rfl,λp h' e' u vL hn=>by
   obtain⟨u0,vm,uW⟩:=(h.roots r).row hl;rw[vL]at vm;injection vm with vm;subst vm
   exact BN p uW hn λb hb=>hold b (hb.elim (λhb=>(hs.own _ b hb).2.1) λhb=>(hs.fz b hb).1)⟩⟩
  box:=λr hb uV=>⟨hb,rfl,rfl⟩ }
 refine h.IH hv um ?_ h.DS h.Bb (λt=>.inl ⟨rfl,rfl⟩) λr=>?_
 ·exact {
   nodup:=λk=>by
    cases k with
    |fl n=>
     show(if n=0 then [b0]else([]:Is)).Nodup;split<;>simp
    |blk r=>exact hs.nodup (.blk r)
    |lf r j=>exact hs.nodup (.lf r j)
   A7:=λk k' uV b h1 h2=>by
    rcases xR k b h1 with⟨h1,n1⟩|⟨rfl,rfl⟩<;>rcases xR k' b h2 with⟨h2,n2⟩|⟨rfl,h2⟩
    ·exact hs.A7 k k' uV b h1 h2
    ·have:=(hs.own k b h1).2.1;omega
    ·have:=(hs.own k' _ h2).2.1;omega
    ·exact uV rfl
   own:=λk b h1=>by
    rcases xR k b h1 with⟨h1,_⟩|⟨rfl,rfl⟩
    ·obtain⟨a1,a2,a3⟩:=hs.own k b h1;refine⟨λhz=>hz.elim a1 λhz=>?_,AA6 a2 vR,a3⟩;rcases(wJ b hz).2 with h|h
     ·exact a1 h
     ·omega
    ·refine⟨λhz=>hz.elim (λhz=>?_) hb.2.2,hb.2.1,.inl (AA2 hs.size hb.1)⟩;have:=(hs.fz _ hz).1;omega
   fz:=λb hz=>by
    rcases hz with hz|hz
    ·obtain⟨a1,a2⟩:=hs.fz b hz;exact⟨AA6 a1 vR,a2⟩
    ·obtain⟨a1,a2⟩:=wJ b hz;refine⟨a1,a2.elim (λh=>(hs.fz b h).2) λh=>.inr (.inl (AA2 hs.size h))⟩
   frame:=λb h1 h2=>(hold b (AA6 h1 hs.size)).trans (hs.frame b h1 h2)
   size:=AA2 hs.size vR
   rest:=⟨ug.1.trans hs.rest.1,ug.2.1.trans hs.rest.2.1,ug.2.2.trans hs.rest.2.2⟩ }
 ·obtain⟨h1,h2⟩:=h.roots r;refine⟨λj=>?_,?_⟩
  ·exact Aa.Dh um (by have:=hv.2.1 r j;exact this) (λb hb=>hold b (hs.own _ b hb).2.1) (h1 j)
  ·show(if(s.root r).box=true then _ else _);split
   ·rename_i hb;rw[AAP hb]at h2;obtain⟨wb,vn,T',fr',yK,a1,a2,a3⟩:=h2;refine⟨wb,vn,T',fr',(hold _ ?_).trans yK,a1,a2,a3⟩;exact(AAz.1 yK).1
   ·rename_i hb;rw[AAQ hb]at h2;exact h2
theorem AW.LS(h:AW E s tm W)(hv:Aj s v){d:Nat}(hd:d<tm.size){bs:List LA}{cs:Array Value}{T:TypeId}{fr:Nat×Nat}{b0:Nat}{w':World}{uQ:Nat->Prop}
  (hold:∀b,b<W.w.heap.size->w'.heap[b]?=W.w.heap[b]?) (vR:W.w.heap.size<=w'.heap.size) (ug:w'.os=W.w.os/\w'.tape=W.w.tape/\w'.output=W.w.output)
  (wJ:∀x,uQ x->x<w'.heap.size/\(W.fz x\/W.w.heap.size<=x)) (hb:W.w.heap.size<=b0/\b0<w'.heap.size/\¬uQ b0) (ur:w'.heap[b0]?=some (.cells cs T fr)) (vV:∀j,j<cs.size->¬(fr.1<=j/\j<fr.2)) (hlen:cs.size=bs.length)
  (wT:∀(j:Nat)(b:LA),bs[j]?=some b->∃(l:L) (x:l.D) (y:Value),b=.sc l x/\cs[j]?=some y/\l.rd 0 w' uQ y x []):
  ∃W',W'.w=w'/\AW E (s.app (F7 d v bs)) (tm.setIfInBounds d (.pointer (some ⟨b0,0,none⟩))) W':=by
 have h1:=h.OY hv hold vR ug wJ hb
 have hsc:∀j,(∃(l:L) (x:l.D) (y:Value),nth .bad bs j=.sc l x/\cs[j]?=some y/\l.rd 0 w' uQ y x [])\/nth .bad bs j=.bad:=by
  intro j;rcases AAq j bs.length with hj|hj
  ·left;have:=wT j bs[j] (AAI hj);rw[Ad,AAI hj];exact this
  ·right;exact Au _ hj
 refine⟨AL (Ff W w' uQ b0) w' [] d (λj=>cs[j]?) b0 [b0] (λ_=>[]),rfl,?_⟩;refine h1.KV (us:=[]) hv hd (x:=⟨true,v,bs⟩) (a:=one (.ptr d 0 v)) rfl ?_ (λb _=>rfl) (λb _ _=>rfl) (AAb _) ⟨rfl,rfl,rfl⟩ (AAc.2 ⟨OF,AAS⟩) (λ_=>AAS) (λ_ _ _ hb=>by cases hb) (λ_ _ _ _ hb=>by cases hb) ?_ ?_ ?_
 ·intro j AB gen t e xs dd hl;dsimp only at hl;rcases hsc j with⟨l,x,y,h1,_⟩|h1<;>rw[h1]at hl<;>cases hl
 ·intro b hb;rcases hb with hb|⟨j,hb⟩
  ·simp at hb;subst hb;exact .inl ⟨.fl 0,id,by simp[Ff]⟩
  ·cases hb
 ·intro _ _;refine⟨λj=>?_,?_⟩
  ·have e1:(AL (Ff W w' uQ b0) w' [] d (λj=>cs[j]?) b0 [b0] (λ_=>[])).cv d j=cs[j]?:=by simp[AL]
   have e2:(AL (Ff W w' uQ b0) w' [] d (λj=>cs[j]?) b0 [b0] (λ_=>[])).om (.lf d j)=[]:=by simp[AL]
   rw[e1,e2];show Aa _ _ (nth LA.bad bs j) _ _;rcases hsc j with⟨l,x,y,h1,h2,h3⟩|h1
   ·rw[h1];refine⟨rfl,λu hu=>?_⟩;rw[h2]at hu;injection hu with hu;subst hu
    exact L.AN l h3 (λb _=>rfl) (λb hb=>.inr hb)
   ·rw[h1];exact⟨rfl,λ_ _=>trivial⟩
  ·show(if true=true then _ else _);rw[AAP rfl];have yf:(AL (Ff W w' uQ b0) w' [] d (λj=>cs[j]?) b0 [b0] (λ_=>[])).bk d=b0:=by simp[AL]
   refine⟨by simp[AL],cs,T,fr,?_,vV,hlen,λj=>by simp[AL]⟩;rw[yf];exact ur
 ·intro _ _;intro _ _;have yf:(AL (Ff W w' uQ b0) w' [] d (λj=>cs[j]?) b0 [b0] (λ_=>[])).bk d=b0:=by simp[AL]
  rw[yf]
end
end Go.Ev
namespace Go.Ev
open Go.Sort (Holds insertionSort)
section
variable {α β:Type}[Inhabited α][Inhabited β]
theorem swp_size(d:Array α)(i j:Nat):(Go.Sort.swp d i j).size=d.size:=by simp[Go.Sort.swp]
theorem get_map(f:α->β)(d:Array α)(i:Nat)(hi:i<d.size):(d.map f)[i]! = f d[i]! := by
 grind
theorem NN(f:α->β)(d:Array α)(i j:Nat)(hi:i<d.size)(hj:j<d.size):Go.Sort.swp (d.map f) i j=(Go.Sort.swp d i j).map f:=by unfold Go.Sort.swp;grind
theorem FX(f:α->β)(lt:α->α->Bool)(xC:β->β->Bool)(h:∀x y,xC (f x) (f y)=lt x y)(a:Nat):∀(j:Nat)(d:Array α),j<d.size->Go.Sort.insInner xC a j (d.map f)=(Go.Sort.insInner lt a j d).map f/\(Go.Sort.insInner lt a j d).size=d.size
 |0,d,_=>⟨rfl,rfl⟩
 |j+1,d,hj=>by
  simp only[Go.Sort.insInner];rw[get_map f d (j+1) hj,get_map f d j J,h];split
  ·rw[NN f d (j+1) j hj J];obtain⟨e1,e2⟩:=FX f lt xC h a j (Go.Sort.swp d (j+1) j) (by rw[swp_size];omega);exact⟨e1,e2.trans (swp_size _ _ _)⟩
  grind
theorem GV(lt:α->α->Bool)(a b i:Nat)(d:Array α)(h:i<b):Go.Sort.insOuter lt a b i d=Go.Sort.insOuter lt a b (i+1) (Go.Sort.insInner lt a i d):=by rw[Go.Sort.insOuter,AAP h]
theorem DD(lt:α->α->Bool)(a b i:Nat)(d:Array α)(h:¬i<b):Go.Sort.insOuter lt a b i d=d:=by rw[Go.Sort.insOuter,AAQ h]
theorem FY(f:α->β)(lt:α->α->Bool)(xC:β->β->Bool)(h:∀x y,xC (f x) (f y)=lt x y)(a b:Nat):∀(n i:Nat)(d:Array α),b-i<=n->b<=d.size->Go.Sort.insOuter xC a b i (d.map f)=(Go.Sort.insOuter lt a b i d).map f/\(Go.Sort.insOuter lt a b i d).size=d.size
 |0,i,d,hn,hb=>by rw[DD xC a b i _ J,DD lt a b i _ J];grind
 |n+1,i,d,hn,hb=>by
  by_cases hi:i<b
  ·rw[GV xC a b i _ hi,GV lt a b i _ hi];obtain⟨e1,e2⟩:=FX f lt xC h a i d J;rw[e1];obtain⟨e3,e4⟩:=FY f lt xC h a b n (i+1) (Go.Sort.insInner lt a i d) J (by rw[e2];exact hb);grind
  ·rw[DD xC a b i _ hi,DD lt a b i _ hi];grind
theorem FZ(f:α->β)(lt:α->α->Bool)(xC:β->β->Bool)(h:∀x y,xC (f x) (f y)=lt x y)(d:Array α)(b:Nat)(hb:b<=d.size):insertionSort xC (d.map f) 0 b=(insertionSort lt d 0 b).map f/\(insertionSort lt d 0 b).size=d.size:=
 FY f lt xC h 0 b b 1 d J hb
theorem J0(enc:α->Value)(w:World)(blk off:Nat)(d:Array α){arr:Array Value}{T:TypeId}{fr:Nat×Nat}(h:w.heap[blk]?=some (.cells arr T fr)):(Go.Sort.putRow enc w blk off d).heap[blk]?=some (.cells (Go.Sort.putCells enc off d arr) T fr):=by simp[Go.Sort.putRow,Go.Sort.mapBlock,Array.getElem?_modify,h,Go.Sort.onCells]
theorem Ga(enc:α->Value)(w:World)(blk off:Nat)(d:Array α){b:Nat}(h:b≠blk):(Go.Sort.putRow enc w blk off d).heap[b]?=w.heap[b]?:=by simp[Go.Sort.putRow,Go.Sort.mapBlock,Array.getElem?_modify,Ne.symm h]
end
section
variable {P:Program}{E:Ck}{s:St}{W:Wd}{o:Oper}{a:Act}{ws:List Wr}{cx:Cx}{v:Nat}{tm:Array Value}
def KD(W:Wd)(r:Nat)(b:Nat):Prop:=W.fz b\/∃k,(∀j,k≠.lf r j)/\b∈W.om k
theorem GF.frame{w w':World}{fz:Nat->Prop}{ls:List L}{u:Value}{vs:List Lv}(h:GF w fz ls u vs)(hf:∀b,fz b->w'.heap[b]?=w.heap[b]?):GF w' fz ls u vs:=by
 obtain⟨b,arr,T,fr,hu,hz,hh,hs,hm,hr⟩:=h;exact⟨b,arr,T,fr,hu,hz,(hf b hz).trans hh,hs,hm,λj lv hj=>let ⟨y,hy,hl⟩:=hr j lv hj;⟨y,hy,L.AN lv.l hl (λb hb=>hf b (hb.elim (λhb=>by cases hb) id)) λ_ hb=>hb⟩⟩
theorem Dj.frame{w w':World}{fz:Nat->Prop}(hf:∀b,fz b->w'.heap[b]?=w.heap[b]?):∀ {bs:List (List L)} {us:ADM} {vs:List Lv},Dj w fz bs us vs->Dj w' fz bs us vs
 | [],[],vs,h=>h
 |ls::bs,u::us,vs,h=>by obtain⟨x,y,e,h1,h2⟩:=h;exact⟨x,y,e,h1.frame hf,Dj.frame hf h2⟩
 | [],_::_,vs,h=>h.elim
 |_::_,[],vs,h=>h.elim
theorem Kf.frame{w w':World}{fz:Nat->Prop}{rv:Value}(hf:∀b,fz b->w'.heap[b]?=w.heap[b]?){c:KC}{u:Value}{vs:List Lv}(h:Kf w fz rv c u vs):Kf w' fz rv c u vs:=by
 cases c with
 |box ls=>exact GF.frame h hf
 |D2 g bs=>
  obtain⟨b,T,fr,lb,hu,hz,hh,hb⟩:=h;exact⟨b,T,fr,lb,hu,hz,(hf b hz).trans hh,hb.frame hf⟩
 |row=>
  obtain⟨e,b,T,fr,hu,hz,hh⟩:=h;exact⟨e,b,T,fr,hu,hz,(hf b hz).trans hh⟩
theorem D3.frame{w w':World}{fz:Nat->Prop}{rv:Value}(hf:∀b,fz b->w'.heap[b]?=w.heap[b]?):∀ {cs:List KC} {us:ADM} {vs:List Lv},D3 w fz rv cs us vs->D3 w' fz rv cs us vs
 | [],[],vs,h=>h
 |c::cs,u::us,vs,h=>by obtain⟨x,y,e,h1,h2⟩:=h;exact⟨x,y,e,h1.frame hf,D3.frame hf h2⟩
 | [],_::_,vs,h=>h.elim
 |_::_,[],vs,h=>h.elim
def JM(s:St)(W:Wd)(ps:List (Nat×Nat))(bs:Is):Prop:=bs.length=ps.length/\∀(k:Nat)(p:Nat×Nat)(b:Nat),ps[k]?=some p->bs[k]?=some b->(s.root p.1).box=true->(s.root p.1).AB=p.2->b=W.bk p.1
theorem JM.cons{p:Nat×Nat}{ps:List (Nat×Nat)}{bs:Is}(h:JM s W (p::ps) bs):∃b bs',bs=b::bs'/\((s.root p.1).box=true->(s.root p.1).AB=p.2->b=W.bk p.1)/\JM s W ps bs':=by
 obtain⟨h1,h2⟩:=h
 match bs,h1 with
 |b::bs,h1=>exact⟨b,bs,rfl,h2 0 p b rfl rfl,No,λk q c hq hc=>h2 (k+1) q c No No⟩
theorem JM.nil{bs:Is}(h:JM s W [] bs):bs=[]:=AAO h.1
def NI(b:Nat):Value:=.pointer (some ⟨b,0,none⟩)
theorem Nk(h:AW E s tm W){not r:Nat}{ls:List L}(hb:(s.root r).box=true)(uV:r≠not)(hlen:(s.root r).ls.length=ls.length)(yj:(s.root r).ls.all NX=true){β:Type}{z:β}{k:List Lv->Step β}(hl:(s.data ls (As r 0 (s.root r).ls) k).leads z):
  ∃x,(k x).leads z/\GF W.w (KD W not) ls (NI (W.bk r)) x:=by
 obtain⟨_,vC⟩:=h.roots r;rw[AAP hb]at vC;obtain⟨hob,arr,T,fr,hh,uc,uh,uv⟩:=vC
 obtain⟨vs,hl,vX,yk,w4⟩:=FR h (g:=λj=>arr[j]?) (λj b hj=>by
  rw[Cm]at hj;cases hq:(s.root r).ls[j]? with
  |none=>grind
  |some y=>
   rw[hq]at hj;injection hj with hj
   have uR:j<(s.root r).ls.length:=(AAK.1 hq).1;have uM:s.leaf r j=y:=by unfold St.leaf;rw[Ad,hq];rfl
   have ur:W.cv r j=some (arr[j]'(by omega)):=by rw[uv];exact AAg _
   refine⟨arr[j]'(by omega),AAg _,?_⟩;rw[<-hj,AAa];exact Ks h uM ur) hl
 refine⟨vs,hl,W.bk r,arr,T,fr,rfl,.inr ⟨.blk r,(λj e=>by cases e),No⟩,hh,J,yk,λj lv hj=>?_⟩;obtain⟨u,hu,hr⟩:=w4 j lv hj;refine⟨u,hu,L.AN lv.l hr (λ_ _=>rfl) λb hb=>?_⟩;rcases hb with hb|⟨r',vI,j',hb⟩
 ·exact .inl hb
 ·refine .inr ⟨.lf r' j',λj e=>?_,hb⟩;injection e with e1 e2
  have:r'=r:=by
   obtain⟨y,hy,xB⟩:=AAL.1 vI;obtain⟨i,hi⟩:=AAr hy;rw[Cm]at hi;cases hq:(s.root r).ls[i]? with
   |none=>rw[hq]at hi;cases hi
   |some y0=>
    rw[hq]at hi;injection hi with hi
    subst hi;have:=AAW.1 yj y0 (AAN hq);cases y0 with
    |arr=>simpa[seen,LA.roots]using xB
    |sc=>simp[seen,LA.roots]at xB
    |_=>cases this
  omega
theorem HB(h:AW E s tm W){not:Nat}{β:Type}{z:β}:∀ {bs:List (List L)} {ps:List (Nat×Nat)} {ks:Is} {k:List Lv->Step β},JM s W ps ks->(DA s not bs ps k).leads z->∃x,(k x).leads z/\Dj W.w (KD W not) bs (ks.map NI) x
 | [],[],ks,k,hk,hl=>by rw[hk.nil];exact⟨[],hl,rfl⟩
 |ls::bs,(r,AB)::ps,ks,k,hk,hl=>by
  obtain⟨b,ks',rfl,yT,vh⟩:=hk.cons;simp only[DA]at hl;split at hl
  ·rename_i hc;simp only[AAJ,AAT,bne_iff_ne,ne_eq]at hc;obtain⟨⟨⟨⟨hb,uT⟩,uV⟩,hlen⟩,vY⟩:=hc;obtain⟨x,hl,hx⟩:=Nk h hb uV hlen vY hl;obtain⟨y,hl,hy⟩:=HB h vh hl;have e:b=W.bk r:=yT hb uT;exact⟨_,hl,x,y,rfl,No,hy⟩
  ·exact hl.elim
 | [],_::_,ks,k,hk,hl=>hl.elim
 |_::_,[],ks,k,hk,hl=>hl.elim
theorem Gm(h:AW E s tm W){c:Loc}{qs:List (Nat×Nat)}{rv:Value}(zQ:W.cv c.r c.j=some rv){β:Type}{z:β}:∀ {cs:List KC} {ps:List (Nat×Nat)} {ks:Is} {k:List Lv->Step β},JM s W ps ks->(Bk s c qs cs ps k).leads z->∃x,(k x).leads z/\D3 W.w (KD W c.r) rv cs (ks.map NI) x
 | [],[],ks,k,hk,hl=>by rw[hk.nil];exact⟨[],hl,rfl⟩
 | .box ls::cs,p::ps,ks,k,hk,hl=>by
  obtain⟨b,ks',rfl,yT,vh⟩:=hk.cons;simp only[Bk]at hl
  have zO:JM s W [p] [b]:=⟨rfl,λi q d hq hd=>by
   grind⟩
  obtain⟨x,hl,hx⟩:=HB h zO hl;obtain⟨y,hl,hy⟩:=Gm h zQ vh hl;obtain⟨x1,x2,e,h1,h2⟩:=hx;have e2:x2=[]:=h2;subst e2;exact⟨_,hl,x,y,rfl,by rw[e,AA1];exact h1,hy⟩
 | .D2 g bs::cs,(r,AB)::ps,ks,k,hk,hl=>by
  obtain⟨b,ks',rfl,yT,vh⟩:=hk.cons;simp only[Bk]at hl;split at hl
  ·rename_i g' zU qs' vx;split at hl
   ·rename_i hc;simp only[AAJ,AAT,bne_iff_ne,ne_eq]at hc;obtain⟨⟨⟨⟨hb,uT⟩,uV⟩,hg⟩,vY⟩:=hc;subst hg;obtain⟨yj,vC⟩:=h.roots r;rw[AAP hb]at vC;obtain⟨hob,arr,T,fr,hh,uc,uh,uv⟩:=vC;rw[vx]at uh;have uh:arr.size=1:=uh
    obtain⟨u,hu⟩:∃u,arr = #[u]:=by
     match arr,uh with
     |⟨[u]⟩,_=>grind
    have vq:=yj 0;rw[vx]at vq;have vq:[]=W.om (.lf r 0)\/True:=.inr trivial;have wX:=yj 0;rw[vx]at wX;have hclo:AR s W (.D2 g zU qs') u:=wX.2 u No;obtain⟨ks2,hv2,xG,hk2⟩:=hclo;obtain⟨x,hl,hx⟩:=HB h (ks:=ks2) ⟨xG,hk2⟩ hl;obtain⟨y,hl,hy⟩:=Gm h zQ vh hl;have e:b=W.bk r:=yT hb uT;refine⟨_,hl,x,y,rfl,?_,hy⟩;refine⟨W.bk r,T,fr,_,by rw[e];rfl,.inr ⟨.blk r,(λj e=>by cases e),No⟩,?_,hx⟩;rw[hh,hu,hv2];rfl
   ·exact hl.elim
  ·exact hl.elim
 | .row::cs,(r,AB)::ps,ks,k,hk,hl=>by
  obtain⟨b,ks',rfl,yT,vh⟩:=hk.cons;simp only[Bk]at hl;split at hl
  ·rename_i hc;simp only[AAJ,AAT]at hc;obtain⟨⟨⟨⟨hb,uT⟩,hr⟩,hj⟩,hlen⟩:=hc;obtain⟨y,hl,hy⟩:=Gm h zQ vh hl;obtain⟨yj,vC⟩:=h.roots r;rw[AAP hb]at vC;obtain⟨hob,arr,T,fr,hh,uc,uh,uv⟩:=vC
   obtain⟨u,hu⟩:∃u,arr = #[u]:=by
    have uh:arr.size=1:=by rw[uh,hlen]
    match arr,uh with
    |⟨[u]⟩,_=>exact⟨u,rfl⟩
   have hrv':=zQ;rw[<-hr,hj,uv,hu]at hrv';have hurv:u=rv:=by simpa using hrv'
   have e:b=W.bk r:=yT hb uT;refine⟨_,hl,[],y,rfl,⟨rfl,W.bk r,T,fr,by rw[e];rfl,.inr ⟨.blk r,(λj e=>by cases e),by rw[hob];simp⟩,?_⟩,hy⟩;grind
  ·exact hl.elim
 | [],_::_,ks,k,hk,hl=>hl.elim
 | .box _::_,[],ks,k,hk,hl=>hl.elim
 | .D2 _ _::_,[],ks,k,hk,hl=>hl.elim
 | .row::_,[],ks,k,hk,hl=>hl.elim
theorem F6(hc:Db P cx)(h:AW E s a.tmps W){t:TypeId}{x:Operand}(ho:o.op=.makeInterface t x)(hl:(AA cx v o s).leads ws):BS P E o a W.w (s.app ws):=by
 simp only[AA,ho]at hl;have h1:=Ac h x;split at hl
 ·rename_i ty c ht hx;split at hl
  ·exact hl.elim
  ·rename_i wR;split at hl
   ·rename_i t' e vx;rw[AK hl];rw[hx]at h1;have vT:P.underlying t=some (.slice t'):=(Bw hc ht vx No:GG P t (.sl t' e)).1;refine AP h (u:=.iface t (a.eval x)) ?_ (show AR s W (.Iz t c) _ from⟨_,rfl,h1⟩);simp[execOp,ho,Instr.makeInterface,run_underlying vT]
   ·exact hl.elim
 ·exact hl.elim
theorem Kn(h:AW E s a.tmps W):∀ {xs:List Operand} {ps:List (Nat×Nat)},DT s (xs.map s.Ar)=some ps->xs.map a.eval=(ps.map λp=>W.bk p.1).map (λb=>Value.pointer (some ⟨b,0,none⟩))
 | [],ps,hp=>by simp only[List.map_nil,DT,Option.some.injEq]at hp;subst hp;rfl
 |x::xs,ps,hp=>by
  have hx:=A6 h x;rw[ABE]at hp;unfold DT at hp;split at hp
  ·grind
  ·rename_i r AB vs e;injection e with e1 e2
   split at hp
   ·rename_i hc;simp only[AAJ,AAT]at hc;split at hp
    ·rename_i zU zp;injection hp with hp
     subst hp;rw[<-e2]at zp;have ih:=Kn h zp;rw[e1]at hx;have hx:a.eval x=.pointer (some ⟨W.bk r,0,none⟩):=hx hc.1 hc.2;grind
    ·cases hp
   ·cases hp
  ·cases hp
theorem Jw(h:AW E s a.tmps W){fn:Fn}{xs ys:Array Operand}(ho:o.op=.makeFunc fn xs ys)(hl:(AA cx v o s).leads ws):BS P E o a W.w (s.app ws):=by
 cases fn with
 |func g=>
  simp only[AA,ho]at hl;split at hl
  ·rename_i uh;split at hl
   ·rename_i ps xV;rw[AK hl];have hp:=Kn h xV;have yF:xs = #[]:=Array.size_eq_zero_iff.1 (by simpa using uh);refine AP h (u:=.func (.func g) #[] (ys.map a.eval)) ?_ (show AR s W (.D2 g ps (behind s ps)) _ from⟨ps.map λp=>W.bk p.1,?_,OF,λk p b hk hb _ _=>?_⟩)
    ·simp[execOp,ho,Instr.makeFunc,yF]
    ·rw[<-hp,<-ABP,ABF]
    grind
   ·exact hl.elim
  ·exact hl.elim
 |_=>simp only[AA,ho]at hl;exact hl.elim
theorem Mk{l:List Operand}{f:Operand->AV}{p q:AV}(h:l.map f=[p,q]):∃x y,l=[x,y]/\f x=p/\f y=q:=by
 match l,h with
 | [x,y],h=>grind
theorem La(h:AW E s a.tmps W)(hv:Aj s v){fid g:FuncId}{σ:OC}(hso:Lp P fid g σ){cl:Loc}{gen:Nat}{t0:TypeId}{xs zs:By}{ks:Is}{vs:List Lv}{u:Value}{y:(Ej (σ.Iv.flatMap KC.kinds)).D}
  (uM:s.leaf cl.r cl.j=.arr cl.AB gen t0 (.one (.int .i64)) xs 2) (uv:W.cv cl.r cl.j=some u) (uW:AE (.one (.int .i64)) 2 W.w W.fz u xs (W.om (.lf cl.r cl.j))) (yq:D3 W.w (KD W cl.r) u σ.Iv (ks.map NI) vs) (hy:pack (Ej (σ.Iv.flatMap KC.kinds)) vs=some y)
  (yR:Mg (σ.lt y) xs=some zs):Calls P fid #[.iface σ.t u,.func (.func g) #[] (ks.map λb=>Value.pointer (some ⟨b,0,none⟩)).toArray] W.w λen w'=>en=.returned (.tuple #[])/\
   ∃W1:Wd,W1.w=w'/\AW E (s.app [.leaf cl.r cl.j (.arr cl.AB v t0 (.one (.int .i64)) zs 2)]) a.tmps W1:=by
 have vU:∀b,KD W cl.r b->b∉W.om (.lf cl.r cl.j):=by
  intro b hb uO;rcases hb with hb|⟨k,hk,hb⟩
  ·exact(h.sep.own _ b uO).1 hb
  ·exact h.sep.A7 k _ (hk _) b hb uO
 have helt:∀b,KD W cl.r b->b<W.w.heap.size:=by
  intro b hb;rcases hb with hb|⟨k,hk,hb⟩
  ·exact(h.sep.fz b hb).1
  ·exact(h.sep.own _ b hb).2.1
 have NP:xs.length<=1->Calls P fid #[.iface σ.t u,.func (.func g) #[] (ks.map λb=>Value.pointer (some ⟨b,0,none⟩)).toArray] W.w (λen w'=>en=.returned (.tuple #[])/\∃os,w'=Go.Sort.grow W.w os):=by intro hlen;obtain⟨A,cc,xo,hcc,_⟩:=uW.LG;rw[xo];exact hso.sort.NP A _ cc hlen _ _ _ _
 unfold Mg at yR;by_cases yM:xs.length<=1
 ·rw[show decide (xs.length<=1)=true by simpa using yM]at yR;injection yR with yR
  refine(NP yM).mono ?_
  rintro en w' ⟨rfl,os,rfl⟩
  refine⟨rfl,?_⟩;have hrel:=h.KX hv (e:=.one (.int .i64)) (vJ:=xs) uM uv uW (λb _=>rfl) rfl ⟨rfl,rfl,rfl⟩;rw[yR]at hrel;refine⟨_,rfl,hrel.world (w':=Go.Sort.grow W.w os) (hrel.J7 λb hb=>Go.Sort.heap_grow_old _ _ hb) (λb hb _=>Go.Sort.heap_grow_old _ _ ADe) (by show W.w.heap.size<=(Go.Sort.grow W.w os).heap.size;rw[Go.Sort.size_grow];omega) ⟨rfl,rfl,rfl⟩⟩
 ·rw[show decide (xs.length<=1)=false by grind,cond_false]at yR;cases vH:(decide (xs.length<=20)&&xs.all λx=>xs.all λz=>(σ.lt y x z).isSome)with
  |false=>grind
  |true=>
   rw[vH,cond_true]at yR;injection yR with yR
   simp only[AAJ,AAe]at vH;obtain⟨ym,vY⟩:=vH;obtain⟨A,cc,xo,hcc,wM,vF⟩:=uW.LG;have hcc:xs.length<=cc:=hcc;cases A with
   |none=>grind
   |some ad=>
    obtain⟨arr,T,fr,os1,xH,hh,vD,v8,uk,hoo,_⟩:=vF ad rfl (.inr J);have uc:=v8 J;obtain⟨blk,off,sp⟩:=ad;dsimp only at xH hh vD uk hoo;subst xH;have vD:off+cc*1<=arr.size:=vD;have uj:blk∈W.om (.lf cl.r cl.j):=by rw[hoo J];exact AAk
    have hblt:blk<W.w.heap.size:=(h.sep.own _ blk uj).2.1
    have hcellv:∀i (hi:i<xs.length),arr[off+i]?=some (.int .i64 (xs[i])):=by intro i hi;have h3:=uk i hi;simp only[Ls.rd]at h3;obtain⟨w3,hw3,h4,_⟩:=h3;have hw3:arr[off+(i*1+0)]?=some w3:=hw3;rw[Nat.mul_one,AAx]at hw3;rw[hw3];exact congrArg some h4
    obtain⟨x0,yF⟩:∃x0,x0∈xs:=by
     match hq:xs,yM with
     |x::_,_=>grind
    letI:Inhabited {x:Int // x∈xs}:=⟨⟨x0,yF⟩⟩
    let D:Array {x:Int // x∈xs}:=xs.attach.toArray
    have hDs:D.size=xs.length:=by simp[D]
    have hDm:D.map Subtype.val=xs.toArray:=by simp[D]
    let enc:{x:Int // x∈xs}->Value:=λx=>.int .i64 x.1
    let xC:{x:Int // x∈xs}->{x:Int // x∈xs}->Bool:=λp q=>OX (σ.lt y) p.1 q.1
    have yx:Holds enc W.w blk off D:=by
     intro j hj;rw[hDs]at hj;refine⟨?_,?_⟩
     ·simp only[World.cell?,hh];grind
     ·have uR:off+j<arr.size:=J
      have:=uc (off+j) uR;obtain⟨lo,hi⟩:=fr;simp only[World.frozen?,hh];grind
    have vO:∀(m:Nat)(os:Array Obj)(dk:Array {x:Int // x∈xs}),dk.size=D.size->∀i j:Nat,i<D.size->j<D.size->
      Calls P g (#[.int .i64 i,.int .i64 j]++(ks.map λb=>Value.pointer (some ⟨b,0,none⟩)).toArray) (Go.Sort.grow (Go.Sort.putRow enc (Go.Sort.ahead W.w m) blk off dk) os) λe w'=>e=.returned (.bool (xC dk[i]! dk[j]!))/\∃q vP,w'=Go.Sort.grow ((Go.Sort.grow (Go.Sort.putRow enc (Go.Sort.ahead W.w m) blk off dk) os).drewN q) vP:=by
     intro m os dk hdk i j hi hj
     have wA:∀b,KD W cl.r b->(Go.Sort.grow (Go.Sort.putRow enc (Go.Sort.ahead W.w m) blk off dk) os).heap[b]?=W.w.heap[b]?:=by intro b hb;rw[Go.Sort.heap_grow_old _ _ (by rw[Go.Sort.size_putRow];exact helt b hb),Ga enc _ blk off dk (b:=b) (λe=>vU b hb (e▸uj))];rfl
     have hc2:=yq.frame wA;rw[xo]at hc2
     have wW:σ.lt y dk[i]!.1 dk[j]!.1=some (xC dk[i]! dk[j]!):=by have h5:=AAW.1 vY dk[i]!.1 dk[i]!.2;have h6:=AAW.1 h5 dk[j]!.1 dk[j]!.2;obtain⟨b,hb⟩:=Option.isSome_iff_exists.1 h6;show _=some (OX (σ.lt y) dk[i]!.1 dk[j]!.1);unfold OX;rw[hb]
     exact hso.less _ _ _ _ y blk off xs.length cc (λt=>dk[t]!.1) hc2 hy (λt ht=>by
      rw[Go.Sort.cell?_grow _ _ _ (by show blk<_;rw[Go.Sort.size_putRow];exact hblt)];exact Go.Sort.cell?_putRow enc (Go.Sort.ahead W.w m) blk off D dk yx hdk t J) ym i j J J _ wW
    have vE:=hso.sort.many _ enc (λ_=>rfl) xC g (ks.map λb=>Value.pointer (some ⟨b,0,none⟩)).toArray hso.enters blk off cc D J J W.w vO yx hblt;rw[hDs]at vE;rw[xo];refine vE.mono ?_
    rintro en w' ⟨rfl,n,os,rfl⟩
    refine⟨rfl,?_⟩;obtain⟨yY,vR⟩:=FZ Subtype.val xC (OX (σ.lt y)) (λ_ _=>rfl) D xs.length J;rw[hDm]at yY;generalize hS:insertionSort xC D 0 xs.length=S at yY vR;rw[yY]at yR
    have hzl:zs.length=xs.length:=by rw[<-yR];simp[vR,hDs]
    have hzget:∀i (hi:i<xs.length),zs[i]?=some S[i]!.1:=by intro i hi;rw[<-yR,getElem!_pos S i J];simp[vR,hDs,hi]
    have uf:NR W.w (Go.Sort.putRow enc (Go.Sort.ahead W.w n) blk off S) blk (Go.Sort.putCells enc off S arr) T fr:={
     here:=J0 enc (Go.Sort.ahead W.w n) blk off S hh
     CY:=λb hb=>Ga enc (Go.Sort.ahead W.w n) blk off S hb
     size:=Go.Sort.size_putRow enc (Go.Sort.ahead W.w n) blk off S
     rest:=⟨rfl,rfl,rfl⟩ }
    have hpsz:(Go.Sort.putCells enc off S arr).size=arr.size:=by simp[Go.Sort.putCells]
    have uX:AE (.one (.int .i64)) 2 (Go.Sort.putRow enc (Go.Sort.ahead W.w n) blk off S) W.fz (.slice (some ⟨blk,off,none⟩) zs.length cc) zs (blk::(List.range zs.length).flatMap λ_=>[]):=by
     refine Fh (e:=.one (.int .i64)) (xs:=zs) (ad:=⟨blk,off,none⟩) uf.here rfl No No (show zs.length<=cc by omega) ?_;intro i hi;have hi:i<zs.length:=hi;rw[hzl]at hi;simp only[Ls.rd]
     have ur:(Go.Sort.putCells enc off S arr)[off+i]?=some (enc S[i]!):=by simp only[Go.Sort.putCells,Array.getElem?_mapIdx,hcellv i hi,AA0];rw[AAP ⟨J,J⟩,show off+i-off=i by omega]
     refine⟨enc S[i]!,?_,?_,rfl⟩
     ·show(Go.Sort.putCells enc off S arr)[off+(i*1+0)]?=_;grind
     ·have h7:=hzget i hi;rw[AAI J]at h7;injection h7 with h7
      exact(congrArg (Value.int .i64) h7).symm
    have hod:(blk::(List.range zs.length).flatMap λ_=>([]:Is))=W.om (.lf cl.r cl.j):=by
     rw[hoo J];congr 1
     have:(List.range xs.length).flatMap os1=[]:=by rw[List.flatMap_eq_nil_iff];intro i hi;have h3:=uk i (AAX.1 hi);simp only[Ls.rd]at h3;obtain⟨w3,hw3,_,h4⟩:=h3;exact h4
     rw[FT];exact this.symm
    rw[hod,hzl]at uX;rw[xo]at uv;have hrel:=h.KX hv (e:=.one (.int .i64)) (vJ:=zs) uM uv uX (λb hb=>uf.CY b λe=>hb (e▸uj)) uf.size uf.rest;refine⟨_,rfl,hrel.world (w':=Go.Sort.grow (Go.Sort.putRow enc (Go.Sort.ahead W.w n) blk off S) os) (hrel.J7 λb hb=>Go.Sort.heap_grow_old _ _ hb) (λb hb xz=>Go.Sort.heap_grow_old _ _ (by show b<(Go.Sort.putRow enc (Go.Sort.ahead W.w n) blk off S).heap.size;rw[uf.size];have:=h.sep.size;omega)) (by show _<=(Go.Sort.grow (Go.Sort.putRow enc (Go.Sort.ahead W.w n) blk off S) os).heap.size;rw[Go.Sort.size_grow];grind) ⟨rfl,rfl,rfl⟩⟩
theorem Lb(ue:C8 P E cx.env)(h:AW E s a.tmps W)(hv:Aj s v){c:Call}{f:Operand}{fid:FuncId}{d:Nat}(ho:o.op=.call c)(hb:c.callee=.value f)(vK:o.dst=some d)(hdlt:d<a.tmps.size)(hf:a.eval f=.func (.func fid) #[] #[])
  (hl:(Dg cx s d v fid (c.args.toList.map s.Ar) λws=>.go ws).leads ws):BS P E o a W.w (s.app ws):=by
 unfold Dg at hl;split at hl
 ·rename_i t cl g ps qs uw;split at hl
  ·rename_i σ hσ;split at hl
   ·rename_i AB gen t0 xs uM;split at hl
    ·rename_i uU;simp only[AAJ,AAT,AAV]at uU;obtain⟨⟨⟨uT,hp⟩,zD⟩,hts⟩:=uU;subst uT;subst hts;have hp:cl.p=[]:=by cases hq:cl.p<;>simp_all[isNil]
     obtain⟨x1,x2,hxy,xJ,wF⟩:=Mk uw;have hargs2:c.args = #[x1,x2]:=No
     have h1:=A6 h x1;have h2:=A6 h x2;rw[xJ]at h1;rw[wF]at h2;obtain⟨u,hu1,hu2⟩:AR s W (.Iz σ.t cl) (a.eval x1):=h1;obtain⟨ks,zO,hk2⟩:AR s W (.D2 g ps qs) (a.eval x2):=h2;obtain⟨h',e',uv,hn⟩:=hu2 _ _ _ _ _ uM (.inl hp);rw[hp]at hn;obtain⟨rfl,rfl⟩:=hn;obtain⟨u',uY,uW⟩:=(h.roots cl.r).row uM;rw[uv]at uY;injection uY with uY;subst uY
     obtain⟨vs,hl,yq⟩:=Gm h uv (ks:=ks) hk2 hl;split at hl
     ·rename_i y hy;obtain⟨zs,yR,hl⟩:=hl;have hl:_=ws:=hl;have hso:=ue.1.Oc fid g σ hσ;obtain⟨fn,cb,yu,yv,wq⟩:=hso.sort.body
      have hrunc:(execOp a.eval o).run P W.w=.ok (.enter fid #[a.eval x1,a.eval x2]) W.w:=by
       have wq : ¬ fn.name = "runtime.NumGoroutine" := by simpa using wq
       simp[execOp,ho,hb,hargs2,resolve,invoke,hf,Deferred.ofValue,callFunc,yu,yv,wq]
      have fin:∀w':World,(∃W1:Wd,W1.w=w'/\AW E (s.app [.leaf cl.r cl.j (.arr cl.AB v t0 (.one (.int .i64)) (show By from zs) 2)]) a.tmps W1)->∀(next:Act->World->Prop),(∀a' W',a'.defers=a.defers->AW E (s.app ws) a'.tmps W'->next a' W'.w)->next (a.put o.dst (.tuple #[])) w':=by
       intro w' ⟨W1,zW,uP⟩ next wy
       have hs:=uP.slot d (x:=.Da []) (u:=.tuple #[]) ⟨#[],rfl,rfl,λj p hj=>ADb⟩;rw[<-zW];refine wy _ W1 (by rw[vK];rfl) ?_;rw[<-hl,vK];exact hs
      intro next Q wy
      unfold Oper.wp;rw[hrunc,Oper.upon_enter,hu1,zO];have hcore:=La (v:=v) (zs:=zs) h hv hso uM uv uW yq hy yR;refine hcore.mono ?_
      rintro en w' ⟨rfl,W1,zW,uP⟩
      exact fin _ ⟨W1,zW,uP⟩ next wy
     ·exact hl.elim
    ·exact hl.elim
   ·exact hl.elim
  ·exact hl.elim
 ·exact hl.elim
end
end Go.Ev
namespace Go.Ev
section
variable {P:Program}{E:Ck}{s:St}{W:Wd}{o:Oper}{a:Act}{ws:List Wr}{cx:Cx}{v:Nat}{tm:Array Value}
theorem M9(ue:C8 P E cx.env)(h:AW E s a.tmps W)(hv:Aj s v){c:Call}{f:Operand}(ho:o.op=.call c)(hb:c.callee=.value f)(hd:∀d,o.dst=some d->d<a.tmps.size)(hl:(AA cx v o s).leads ws):BS P E o a W.w (s.app ws):=by
 simp only[AA,ho,hb]at hl;have hf:=Ac h f;split at hl
 ·rename_i fid d hfid vK;rw[hfid]at hf;have hf:a.eval f=.func (.func fid) #[] #[]:=hf;unfold call at hl;split at hl
  ·exact Lb ue h hv ho hb vK (hd d vK) hf hl
  ·rename_i g hg;cases xS:g.s.mk? with
   |true=>
    rw[xS,AAP rfl]at hl
    obtain⟨uN,T,hl,l1,l3,l4,hn,xE⟩:=Iu h g.s.ps (c.args.toList.map s.Ar) (c.args.toList.map a.eval) OF (λi av u h1 h2=>by
     rw[AAZ]at h1 h2;cases hx:c.args.toList[i]? with
     |none=>rw[hx]at h1;cases h1
     |some x=>
      rw[hx]at h1 h2;injection h1 with h1;injection h2 with h2
      subst h1;subst h2;exact A6 h x) hl
    split at hl
    ·rename_i zZ;simp only[AAJ]at zZ;obtain⟨wg,hvr⟩:=zZ
     have hvr:Ae g.s.ps (c.args.toList.map s.Ar)=[]:=by
      revert hvr
      cases Ae g.s.ps (c.args.toList.map s.Ar)with
      |nil=>intro _;rfl
      |cons=>intro h;cases h
     split at hl
     ·exact hl.elim
     ·rename_i y hy;obtain⟨z,hz,hl⟩:=hl;have hl:_=ws:=hl
      have hh:Handed s W g.s.ps (c.args.toList.map s.Ar) (c.args.toList.map a.eval) uN T:={
       l1:=l1
       l2:=by rw[<-l1];simp
       l3:=l3
       l4:=l4
       nodup:=hn
       each:=xE
       apart:=λr hr=>by rw[hvr]at hr;cases hr }
      obtain⟨xw,fn,cb,yu,yv,wq⟩:=ue.1.fns fid g hg;have vE:=xw (c.args.toList.map a.eval) W.w (Seen W (Ae g.s.ps (c.args.toList.map s.Ar))) uN _ _ y z (ue.O9 h.sep λk b hb=>let ⟨a,_,h2⟩:=CI hh hb;⟨a,h2⟩) (Fx h hh) hy hz;rw[xS]at vE;intro next Q wy
      have ub:(execOp a.eval o).run P W.w=.ok (.enter fid (c.args.toList.map a.eval).toArray) W.w:=by
       have:(c.args.toList.map a.eval).toArray=c.args.map a.eval:=by rw[<-ABP,ABF]
       rw[this]
       have wq : ¬ fn.name = "runtime.NumGoroutine" := by simpa using wq
       simp[execOp,ho,hb,resolve,invoke,hf,Deferred.ofValue,callFunc,yu,yv,wq]
      unfold Oper.wp;rw[ub,Oper.upon_enter];refine vE.mono ?_
      rintro en w' ⟨r,uQ,b0,rfl,mo⟩
      obtain⟨rfl,hkinds,cs,T0,fr,ur,vV,hlen,hread⟩:=mo.box;have vX:(unpack g.s.outs z).length=g.s.Gg.length:=by have:=congrArg List.length hkinds;simpa using this
      have hzero:∀p∈g.s.Gg,p.2=0:=λp hp=>by unfold Sm.plain at wg;simp only[AAJ]at wg;simpa using AAW.1 wg.2 p hp
      obtain⟨W',vf,uP⟩:=h.LS hv (hd d vK) (bs:=AX v g.s.Gg (unpack g.s.outs z)) mo.frame mo.size mo.rest (λx hx=>by
       obtain⟨a1,a2⟩:=mo.fz x hx;refine⟨a1,a2.imp (λh=>?_) id⟩;rcases h with h|⟨r,hr,_⟩
       ·exact h
       ·rw[hvr]at hr;cases hr) mo.new ur vV (by rw[BZ _ _ _ vX];exact hlen) (λj b hj=>by
       have hjl:j<g.s.Gg.length:=by have:=(AAK.1 hj).1;rwa[BZ _ _ _ vX]at this
       have q1:=AAI hjl;have q2:=AAI (show j<(unpack g.s.outs z).length by omega);have q3:=Bt v _ _ j _ _ q1 q2;rw[q3]at hj;injection hj with hj
       obtain⟨y',xB,hr⟩:=hread j _ _ q1 q2;rw[hzero _ (List.getElem_mem hjl)]at hr hj;refine⟨_,_,y',?_,xB,hr⟩;rw[<-hj];generalize (unpack g.s.outs z)[j]=lv;obtain⟨l,x⟩:=lv;cases l<;>rfl)
      rw[<-hl,vK]at *;rw[<-vf];exact wy _ W' rfl uP
    ·exact hl.elim
   |false=>
   rw[xS]at hl;simp only[ABK,if_false]at hl
   obtain⟨uN,T,hl,l1,l3,l4,hn,xE⟩:=Iu h g.s.ps (c.args.toList.map s.Ar) (c.args.toList.map a.eval) OF (λi av u h1 h2=>by
    rw[AAZ]at h1 h2;cases hx:c.args.toList[i]? with
    |none=>rw[hx]at h1;cases h1
    |some x=>
     rw[hx]at h1 h2;injection h1 with h1;injection h2 with h2
     subst h1;subst h2;exact A6 h x) hl
   split at hl
   ·rename_i zZ;split at hl
    ·exact hl.elim
    ·rename_i y hy;obtain⟨z,hz,hl⟩:=hl;cases xa:Dl d v g.s.rs (unpack g.s.outs z) 0 with
     |none=>simp only[xa]at hl;exact hl.elim
     |some bol=>
      obtain⟨bs,own,left⟩:=bol;simp only[xa]at hl;generalize wP:(if fresh g.s.Gg=true then some []else Ao cx s (Ae g.s.ps (c.args.toList.map s.Ar)))=fso at hl;split at hl
      ·rename_i pw fs hpw;have hl:_=ws:=hl
       have hh:Handed s W g.s.ps (c.args.toList.map s.Ar) (c.args.toList.map a.eval) uN T:={
        l1:=l1
        l2:=by rw[<-l1];simp
        l3:=l3
        l4:=l4
        nodup:=hn
        each:=xE
        apart:=λr hr i p hT x hx e=>by
         have h1:=AAW.1 zZ r hr;simp only[AAV]at h1;have h2:FW (T.flatMap PT.D1) (r,none)=true:=AA5.2 ⟨x,AAL.2 ⟨p,AAN hT,hx⟩,by simp[Tg.DR,e]⟩;rw[h1]at h2;cases h2 }
       obtain⟨xw,fn,cb,yu,yv,wq⟩:=ue.1.fns fid g hg;have vE:=xw (c.args.toList.map a.eval) W.w (Seen W (Ae g.s.ps (c.args.toList.map s.Ar))) uN _ _ y z (ue.O9 h.sep λk b hb=>let ⟨a,_,h2⟩:=CI hh hb;⟨a,h2⟩) (Fx h hh) hy hz;rw[xS]at vE;intro next Q wy
       have ub:(execOp a.eval o).run P W.w=.ok (.enter fid (c.args.toList.map a.eval).toArray) W.w:=by
        have:(c.args.toList.map a.eval).toArray=c.args.map a.eval:=by rw[<-ABP,ABF]
        rw[this]
        have wq : ¬ fn.name = "runtime.NumGoroutine" := by simpa using wq
        simp[execOp,ho,hb,resolve,invoke,hf,Deferred.ofValue,callFunc,yu,yv,wq]
       unfold Oper.wp;rw[ub,Oper.upon_enter];refine vE.mono ?_
       rintro en w' ⟨r,uQ,vG,rv,vsR,vsP,rfl,co⟩
       obtain⟨W',vf,uP⟩:=Ms (cx:=cx) h hv (hd d vK) hh co wP xa hpw;rw[<-hl,vK]at *;rw[<-vf];exact wy _ W' rfl uP
      ·exact hl.elim
   ·exact hl.elim
 ·exact hl.elim
end
end Go.Ev
namespace Go.Ev
section
variable {P:Program}{E:Ck}{s:St}{W:Wd}{o:Oper}{a:Act}{ws:List Wr}{cx:Cx}{v:Nat}{tm:Array Value}
theorem MT(hc:Db P cx)(ue:C8 P E cx.env)(h:AW E s a.tmps W)(hv:Aj s v)(hd:∀d,o.dst=some d->d<a.tmps.size)(hl:(AA cx v o s).leads ws):BS P E o a W.w (s.app ws):=by
 cases ho:o.op with
 |move x=>
  cases hn:Hg (s.Ar x)with
  |true=>exact KT h hv ho hn hd hl
  |false=>exact NB h ho hn hl
 |assign x=>exact LQ h hv ho hd hl
 |pick x y z=>exact NC h ho hl
 |alloc t=>exact MN hc ue.1.Nr h hv ho hd hl
 |box t x=>exact Nx hc h hv ho hd hl
 |build t ps=>exact MP hc h ho hl
 |buildSlice t n ps=>exact IG hc h hv ho hd hl
 |load t x=>exact NA hc h ho hl
 |store t x y=>exact MU hc ue.1.Nr h hv ho hl
 |makeInterface t x=>exact F6 hc h ho hl
 |makeFunc fn xs ys=>exact Jw h ho hl
 |nilCheck x=>exact Jx h ho hl
 |binOp op tx x y ty=>exact MO hc h ho hl
 |unOp op tx x=>exact ND h ho hl
 |convert t1 t2 x=>exact KR hc h hv ho hd hl
 |makeSlice t x y=>exact JD hc h hv ho hd hl
 |slice ti x lo hi m=>
  cases m with
  |none=>exact MS hc h ho hl
  |some m=>simp only[AA,ho]at hl;exact hl.elim
 |fieldAddr t x f=>exact JB hc h ho hl
 |field t x f=>exact MQ hc h ho hl
 |indexAddr t x i=>exact JC hc h ho hl
 |index t x i=>exact MR hc h ho hl
 |extract x i=>exact KS h ho hl
 |call c=>
  cases hb:c.callee with
  |builtin b=>
   cases b with
   |len=>exact Ny hc h ho hb hl
   |append=>exact LP hc h hv ho hb hd hl
   |min=>exact N0 h ho hb hl
   |max=>exact Nz h ho hb hl
   |_=>simp only[AA,ho,hb]at hl;exact hl.elim
  |value f=>exact M9 ue h hv ho hb hd hl
  |invoke r n=>simp only[AA,ho,hb]at hl;exact hl.elim
 |_=>simp only[AA,ho]at hl;exact hl.elim
end
end Go.Ev
namespace Go.Ev
section
variable {s s':St}{cx:Cx}{v:Nat}{β:Type}
theorem Aw{r:Nat}(h:s'.root r=s.root r)(j:Nat):s'.leaf r j=s.leaf r j:=by unfold St.leaf;rw[h]
theorem BV{c:Loc}(h:s'.root c.r=s.root c.r)(k:(t:TypeId)->(e:Ls)->List e.D->Nat->Step β):s'.content c k=s.content c k:=by unfold St.content;rw[Aw h]
def BB(s s':St)(rs:Is):Prop:=∀r∈rs,s'.root r=s.root r
theorem CV{l:L}{la:LA}(h:BB s s' la.roots)(k:l.D->Step β):s'.datum l la k=s.datum l la k:=by
 cases la with
 |ref c=>exact BV (h c.r (by simp[LA.roots])) _
 |Dy c lo hi=>exact BV (h c.r (by simp[LA.roots])) _
 |_=>rfl
theorem EW:∀ {ls:List L} {as:List LA} (h:BB s s' (as.flatMap LA.roots)) (k:List Lv->Step β),s'.data ls as k=s.data ls as k
 | [],[],h,k=>rfl
 | [],_::_,h,k=>rfl
 |_::_,[],h,k=>rfl
 |l::ls,a::as,h,k=>by simp only[St.data];rw[CV λr hr=>h r (by simp[hr])];congr 1;funext x;exact EW (λr hr=>h r No) _
theorem Jo{la:LA}(h:BB s s' la.roots)(n:Nat)(k:List LA->Step β):s'.C4 la n k=s.C4 la n k:=by
 cases la with
 |ptr r j AB=>simp only[St.C4];rw[h r (by simp[LA.roots])]
 |Ba c=>
  simp only[St.C4];split
  ·rfl
  ·rename_i q i off hq;have hg:s'.Jj c.r c.j=s.Jj c.r c.j:=by unfold St.Jj;rw[Aw (h c.r (by simp[LA.roots]))]
   rw[hg];exact BV (c:={ c with p:=q }) (h c.r (by simp[LA.roots])) _
 |_=>rfl
theorem EU{a:AV}(h:BB s s' a.roots):BB s s' a.one?.roots:=by
 cases a with
 |Da vs=>intro r hr;cases hr
 |bx as=>intro r hr;cases hr
 |v g as=>
  cases g with
  |true=>intro r hr;cases hr
  |false=>cases as with
   |nil=>intro r hr;cases hr
   |cons b bs=>cases bs with
    |nil=>intro r hr;exact h r (AAL.2 ⟨b,OF,hr⟩)
    |cons=>intro r hr;cases hr
theorem LM{a:AV}(h:BB s s' a.roots)(n:Nat)(k:List LA->Step β):s'.E7 a n k=s.E7 a n k:=by
 cases a with
 |bx as=>rfl
 |v g as=>exact Jo (EU h) n k
 |Da vs=>exact Jo (EU h) n k
theorem Ki:∀ {as:List LA},BB s s' (as.flatMap LA.roots)->MB s' as=MB s as
 | [],_=>rfl
 |a::as,h=>by
  unfold MB;simp only[List.any_cons];have ih:=Ki (as:=as) λr hr=>h r No;unfold MB at ih;rw[ih];congr 1;cases a with
  |ref c=>simp only;rw[h c.r (by simp[LA.roots])]
  |_=>rfl
theorem D6{la:LA}(h:BB s s' la.roots):s'.alive la=s.alive la:=by
 cases la with
 |ptr r j AB=>simp only[St.alive];rw[h r (by simp[LA.roots])]
 |Ba c=>simp only[St.alive];rw[Aw (h c.r (by simp[LA.roots]))]
 |_=>rfl
theorem NL{la:LA}(h:BB s s' la.roots):s'.sure la=s.sure la:=by
 cases la with
 |ptr r j AB=>simp only[St.sure];rw[h r (by simp[LA.roots])]
 |ref c=>simp only[St.sure];rw[Aw (h c.r (by simp[LA.roots]))]
 |Dy c lo hi=>simp only[St.sure];rw[Aw (h c.r (by simp[LA.roots]))]
 |Ba c=>simp only[St.sure];exact D6 h
 |_=>rfl
theorem Kw{la:LA}(h:BB s s' la.roots)(l:L)(k:LA->List (Nat×Nat)->Step β):s'.take cx v la l k=s.take cx v la l k:=by
 cases la with
 |ptr r j AB=>simp only[St.take];rw[h r (by simp[LA.roots])]
 |ref c=>simp only[St.take];rw[Aw (h c.r (by simp[LA.roots]))];simp only[BV (h c.r (by simp[LA.roots]))]
 |Dy c lo hi=>simp only[St.take];rw[Aw (h c.r (by simp[LA.roots]))]
 |_=>rfl
theorem EN:∀ {ls:List L} {as:List LA} (h:BB s s' (as.flatMap LA.roots)) (k:List LA->List (Nat×Nat)->Step β),s'.Fp cx v ls as k=s.Fp cx v ls as k
 | [],[],h,k=>rfl
 | [],_::_,h,k=>rfl
 |_::_,[],h,k=>rfl
 |l::ls,a::as,h,k=>by simp only[St.Fp];rw[Kw λr hr=>h r (by simp[hr])];congr 1;funext b us;exact EN (λr hr=>h r No) _
theorem Me{c:Loc}(h:s'.root c.r=s.root c.r)(g:Nat)(vs:List Lv):s'.J3 g c vs=s.J3 g c vs:=by unfold St.J3;rw[Aw h]
theorem Ik{la:LA}(h:BB s s' la.roots){as:List LA}(h2:BB s s' (as.flatMap LA.roots))(ls:List L)(k:List Wr->Step β):s'.GC cx v la ls as k=s.GC cx v la ls as k:=by
 cases la with
 |ptr r j AB=>simp only[St.GC];rw[h r (by simp[LA.roots]),EN h2]
 |Ba c=>
  simp only[St.GC];rw[EW h2,EN h2,Aw (h c.r (by simp[LA.roots]))];congr 2;funext vs;rw[Me (h c.r (by simp[LA.roots]))]
 |_=>rfl
theorem L9{la:LA}(h:BB s s' la.roots)(k:Int->Step β):lenOf s' la k=lenOf s la k:=by
 cases la with
 |ref c=>exact BV (h c.r (by simp[LA.roots])) _
 |Dy c lo hi=>exact BV (h c.r (by simp[LA.roots])) _
 |_=>rfl
theorem F5{la:LA}(h:BB s s' la.roots)(t:TypeId)(e:Ls)(k:List e.D->List (Nat×Nat)->Step β):EI cx s' la t e k=EI cx s la t e k:=by
 unfold EI;rw[CV h];cases la with
 |ref c=>simp only;rw[Aw (h c.r (by simp[LA.roots]))]
 |_=>rfl
theorem JU{la lb:LA}(h:BB s s' la.roots)(h2:BB s s' lb.roots)(d v:Nat)(t:TypeId)(e:Ls)(k:List Wr->Step β):Cv cx s' d v t e la lb k=Cv cx s d v t e la lb k:=by
 cases la with
 |CA=>simp only[Cv];exact F5 h2 _ _ _
 |ref c=>
  simp only[Cv];rw[Aw (h c.r (by simp[LA.roots]))];cases s.leaf c.r c.j with
  |arr AB gen t' e' xs dd=>
   simp only;split
   ·split
    ·exact F5 h2 _ _ _
    ·rfl
   ·rfl
  |_=>rfl
 |Dy c lo hi=>
  simp only[Cv];rw[Aw (h c.r (by simp[LA.roots]))];cases s.leaf c.r c.j with
  |arr AB gen t' e' xs dd=>
   simp only;split
   ·split
    ·exact F5 h2 _ _ _
    ·rfl
   ·rfl
  |_=>rfl
 |_=>rfl
theorem Jd{fs:List (Nat×TypeId)}:∀ {ps:List (Nat×Operand)} (h:∀p∈ps,s'.Ar p.2=s.Ar p.2/\BB s s' (s.Ar p.2).roots) (ls:List LA),HU cx s' fs ps ls=HU cx s fs ps ls
 | [],h,ls=>rfl
 |(i,x)::ps,h,ls=>by
  obtain⟨h1,h2⟩:=h (i,x) OF;dsimp only at h1 h2;simp only[HU];rw[h1];generalize s.Ar x=p at h2;cases p with
  |Da vs=>rfl
  |bx as=>rfl
  |v g as=>
   have:as.all s'.sure=as.all s.sure:=by rw[Bool.eq_iff_iff,AAW,AAW];refine forall_congr' λb=>forall_congr' λhb=>?_;rw[NL λr hr=>h2 r (AAL.2 ⟨b,hb,hr⟩)]
   cases Hm fs i with
   |none=>rfl
   |some q=>
    obtain⟨off,t⟩:=q;dsimp only;cases cx.ty t with
    |none=>rfl
    |some tf=>
     dsimp only;rw[this];split
     ·exact Jd (λp hp=>h p (AAM _ hp)) _
     ·rfl
theorem HL{e:Ls}:∀ {ps:List (Nat×Operand)} (h:∀p∈ps,s'.Ar p.2=s.Ar p.2/\BB s s' (s.Ar p.2).roots) (n:Nat) (k:List e.D->List (Nat×Nat)->Step β),CR cx s' v e ps n k=CR cx s v e ps n k
 | [],h,n,k=>rfl
 |(i,x)::ps,h,n,k=>by
  obtain⟨h1,h2⟩:=h (i,x) OF;dsimp only at h1 h2;have ih:∀(n:Nat) (k:List e.D->List (Nat×Nat)->Step β),CR cx s' v e ps n k=CR cx s v e ps n k:=HL λp hp=>h p (AAM _ hp);simp only[CR];rw[h1];generalize s.Ar x=p at h2;cases p with
  |Da vs=>rfl
  |bx as=>rfl
  |v g as=>
   have h2:BB s s' (as.flatMap LA.roots):=h2;simp only[EW h2,EN h2,ih]
theorem HE(r:Nat):∀(ls:List (L×Nat)) (as:List LA) (j:Nat),EC ls as=true->∀b∈As r j as,∀r'∈b.roots,r'=r
 | [],[],j,h,b,hb,r',hr=>by cases hb
 | [],_::_,j,h,b,hb,r',hr=>by cases h
 |_::_,[],j,h,b,hb,r',hr=>by cases h
 |(l,m)::ls,a::as,j,h,b,hb,r',hr=>by
  simp only[EC,AAJ]at h;rcases AAf.1 hb with hb|hb
  ·subst hb;cases a with
   |arr AB gen t e xs d=>simpa[seen,LA.roots]using hr
   |sc l x=>simp[seen,LA.roots]at hr
   |_=>simp at h
  ·exact HE r ls as (j+1) h.2 b hb r' hr
theorem LX{la:LA}(h:BB s s' la.roots)(l:L)(d:Nat)(k:Lv->ADU->Step β):JI s' l d la k=JI s l d la k:=by
 cases l with
 |sl t e=>
  cases la with
  |ref c=>
   show(if d != 4&&(match s'.leaf c.r c.j with
    | .arr _ _ _ _ _ dd=>dd==d&&(isNil c.p||d==2)
    |_=>false)then s'.datum (.sl t e) (.ref c) _ else Step.none)=(if d != 4&&(match s.leaf c.r c.j with
    | .arr _ _ _ _ _ dd=>dd==d&&(isNil c.p||d==2)
    |_=>false)then s.datum (.sl t e) (.ref c) _ else Step.none)
   rw[Aw (h c.r (by simp[LA.roots])),CV h]
  |_=>rfl
 |int i=>exact CV h _
 |bool=>exact CV h _
 |str=>exact CV h _
theorem Hy:∀ {ls:List (L×Nat)} {as:List LA} (h:BB s s' (as.flatMap LA.roots)) (k:List Lv->ADU->Step β),Eb s' ls as k=Eb s ls as k
 | [],[],h,k=>rfl
 | [],_::_,h,k=>rfl
 |_::_,[],h,k=>rfl
 |(l,d)::ls,a::as,h,k=>by simp only[Eb];rw[LX λr hr=>h r (by simp[hr])];congr 1;funext x us;exact Hy (λr hr=>h r No) _
theorem Ih:∀ {ls:List (L×Nat)} {as:List LA} (h:BB s s' (as.flatMap LA.roots)) (vs:List Lv),putRow s' v ls as vs=putRow s v ls as vs
 | [],[],h,vs=>rfl
 | [],_::_,h,vs=>by simp[putRow]
 |_::_,[],h,vs=>by simp[putRow]
 |_::_,_::_,h,[]=>by simp[putRow]
 |(l,d)::ls,a::as,h,x::vs=>by
  simp only[putRow];rw[Ih (λr hr=>h r No) vs];cases a with
  |ref c=>
   have e:s'.leaf c.r c.j=s.leaf c.r c.j:=Aw (h c.r (by simp[LA.roots])) c.j;simp only[e]
  |_=>rfl
theorem Fy:∀ {ps:List PM} {vs:List AV} (h:∀a∈vs,BB s s' a.roots) (k:List Lv->ADU->Step β),Ak s' ps vs k=Ak s ps vs k
 | [],[],h,k=>rfl
 | [],_::_,h,k=>by simp only[Ak]
 |pm::ps,[],h,k=>by cases pm<;>simp only[Ak]
 |pm::ps,a::vs,h,k=>by
  have ih:∀(k:List Lv->ADU->Step β),Ak s' ps vs k=Ak s ps vs k:=Fy λa ha=>h a (AAM _ ha);have ha:=h a OF;cases pm with
  |val g ls=>
   cases a with
   |Da vs=>simp only[Ak]
   |bx as=>simp only[Ak]
   |v g' as=>
    simp only[Ak];rw[EW (show BB s s' (as.flatMap LA.roots)from ha)];grind
  |fn f=>
   unfold Ak;grind
  |box ls=>
   unfold Ak;split
   all_goals (try rename_i e1 e2;try cases e1;try cases e2;try rfl)
   rename_i r AB;have hr:s'.root r=s.root r:=ha r (by simp[AV.roots,LA.roots])
   ·rw[hr];by_cases hc:((s.root r).box&&(s.root r).AB==AB&&EC ls (s.root r).ls)=true
    ·rw[AAP hc,AAP hc];have yr:EC ls (s.root r).ls=true:=by simp only[AAJ]at hc;exact hc.2
     have hd:BB s s' ((As r 0 (s.root r).ls).flatMap LA.roots):=λr' vI=>by obtain⟨b,hb,uZ⟩:=AAL.1 vI;rw[HE r ls _ 0 yr b hb r' uZ];exact hr
     simp only[ih];exact EW hd _
    grind
   all_goals rfl
  |row g ls=>
   cases a with
   |Da vs=>simp only[Ak]
   |bx as=>simp only[Ak]
   |v g' as=>
    simp only[Ak];rw[Hy (show BB s s' (as.flatMap LA.roots)from ha)];grind
theorem Er{r:Nat}(hr:s'.root r=s.root r):∀(k:Nat) (ls:List (L×Nat)) (vs:List Lv),AU s' r v k ls vs=AU s r v k ls vs
 |_,[],_=>by simp only[AU]
 |_,_::_,[]=>by simp only[AU]
 |k,(l,m)::ls,x::xs=>by simp only[AU,Er hr (k+1) ls xs,Aw hr]
theorem GY:∀ {ps:List PM} {ui:List AV} (h:∀a∈ui,BB s s' a.roots) (vs:List Lv),AT s' v ps ui vs=AT s v ps ui vs
 | [],[],h,[]=>rfl
 | [],[],h,_::_=>rfl
 | [],_::_,h,vs=>by simp only[AT]
 |pm::ps,[],h,vs=>by cases pm<;>simp only[AT]
 |pm::ps,a::ui,h,vs=>by
  have ih:∀vs,AT s' v ps ui vs=AT s v ps ui vs:=GY λa ha=>h a (AAM _ ha);have ha:=h a OF;cases pm with
  |val g ls=>simp only[AT,ih]
  |fn f=>simp only[AT,ih]
  |box ls=>
   unfold AT;split
   all_goals (try rename_i e1 e2;try cases e1;try cases e2;try rfl)
   ·rename_i r AB;have hr:s'.root r=s.root r:=ha r (by simp[AV.roots,LA.roots]);rw[ih,Er hr]
   all_goals rfl
  |row g ls=>
   cases a with
   |Da vs=>simp only[AT]
   |bx as=>simp only[AT]
   |v g' as=>
    simp only[AT];rw[Ih (show BB s s' (as.flatMap LA.roots)from ha)];grind
theorem E1{not:Nat}:∀ {bs:List (List L)} {ps:List (Nat×Nat)} (h:∀p∈ps,s'.root p.1=s.root p.1) (k:List Lv->Step β),DA s' not bs ps k=DA s not bs ps k
 | [],[],h,k=>rfl
 | [],_::_,h,k=>rfl
 |_::_,[],h,k=>rfl
 |ls::bs,(r,AB)::ps,h,k=>by
  have hr:s'.root r=s.root r:=h (r,AB) OF;simp only[DA];rw[hr];split
  ·rename_i hc;simp only[AAJ]at hc;have vY:=hc.2
   have hsees:BB s s' ((As r 0 (s.root r).ls).flatMap LA.roots):=λr' vI=>by
    obtain⟨y,hy,xB⟩:=AAL.1 vI;obtain⟨i,hi⟩:=AAr hy;rw[Cm]at hi;cases hq:(s.root r).ls[i]? with
    |none=>grind
    |some y0=>
     rw[hq]at hi;injection hi with hi
     subst hi;have:=AAW.1 vY y0 (AAN hq);cases y0 with
     |arr=>
      have:r'=r:=by simpa[seen,LA.roots]using xB
      grind
     |sc=>simp[seen,LA.roots]at xB
     |_=>cases this
   rw[EW hsees];congr 1;funext x;exact E1 (λp hp=>h p (AAM _ hp)) _
  ·rfl
theorem Dq{c:Loc}{qs:List (Nat×Nat)}(hq:∀p∈qs,s'.root p.1=s.root p.1):∀ {cs:List KC} {ps:List (Nat×Nat)} (h:∀p∈ps,s'.root p.1=s.root p.1) (k:List Lv->Step β),Bk s' c qs cs ps k=Bk s c qs cs ps k
 | [],[],h,k=>rfl
 | [],_::_,h,k=>rfl
 | .box _::_,[],h,k=>rfl
 | .D2 _ _::_,[],h,k=>rfl
 | .row::_,[],h,k=>rfl
 | .box ls::cs,p::ps,h,k=>by simp only[Bk];rw[E1 (λq hq=>h q No)];congr 1;funext x;exact Dq hq (λp hp=>h p (AAM _ hp)) _
 | .D2 g bs::cs,(r,AB)::ps,h,k=>by
  have hr:s'.root r=s.root r:=h (r,AB) OF;simp only[Bk];rw[hr];split
  ·split
   ·rename_i hc;simp only[AAJ]at hc;have vY:=hc.2;rw[E1 (λp hp=>hq p No)];congr 1;funext x;exact Dq hq (λp hp=>h p (AAM _ hp)) _
   ·rfl
  ·rfl
 | .row::cs,(r,AB)::ps,h,k=>by
  have hr:s'.root r=s.root r:=h (r,AB) OF;simp only[Bk];rw[hr];split
  ·exact Dq hq (λp hp=>h p (AAM _ hp)) _
  ·rfl
theorem J5{ui:List AV}(h:∀a∈ui,BB s s' a.roots)(d:Nat)(f:FuncId)(k:List Wr->Step β):Dg cx s' d v f ui k=Dg cx s d v f ui k:=by
 unfold Dg;split
 ·rename_i t c g ps qs;have h1:=h (.v false [.Iz t c]) OF;have h2:=h (.v false [.D2 g ps qs]) OF;have hc:s'.root c.r=s.root c.r:=h1 c.r (by simp[AV.roots,LA.roots]);have xV:∀p∈ps,s'.root p.1=s.root p.1:=λp hp=>h2 p.1 (AAL.2 ⟨.D2 g ps qs,OF,AAU _ (AAs.2 ⟨p,hp,rfl⟩)⟩);have hqs:∀p∈qs,s'.root p.1=s.root p.1:=λp hp=>h2 p.1 (AAL.2 ⟨.D2 g ps qs,OF,AAR _ (AAs.2 ⟨p,hp,rfl⟩)⟩);rw[Aw hc];simp only[Dq hqs xV]
 ·rfl
theorem Ig:∀ {vs:List AV} (h:∀a∈vs,BB s s' a.roots),DT s' vs=DT s vs/\∀ps,DT s vs=some ps->behind s' ps=behind s ps
 | [],h=>⟨rfl,λps hp=>by simp only[DT,Option.some.injEq]at hp;subst hp;rfl⟩
 |a::vs,h=>by
  obtain⟨ih1,ih2⟩:=Ig (vs:=vs) λb hb=>h b (AAM _ hb);have ha:=h a OF;unfold DT;split
  ·rename_i e;exact absurd e OF
  ·rename_i r AB xY e;injection e with e1 e2
   subst e1;subst e2;have hr:s'.root r=s.root r:=ha r (by simp[AV.roots,LA.roots]);rw[hr,ih1];refine⟨rfl,λps hp=>?_⟩;split at hp
   ·split at hp
    ·rename_i zU zp;injection hp with hp
     subst hp;simp only[behind];rw[hr,ih2 zU zp]
    ·cases hp
   ·cases hp
  grind
theorem Le{t:TypeId}{q:LA}{p:AV}{dst:Option Tmp}(h:BB s s' q.roots):H7 cx s' t q p dst=H7 cx s t q p dst:=by
 unfold H7;split
 ·split
  ·split
   ·rename_i r j AB;rw[h r (by simp[LA.roots])]
   ·rfl
  ·rfl
 ·rfl
theorem E4:∀ {rs:Is} (h:BB s s' rs),Ao cx s' rs=Ao cx s rs
 | [],h=>rfl
 |r::rs,h=>by
  have hr:=h r OF
  have hw:C0 s' r=C0 s r:=by
   unfold C0;have:s'.Bp r=s.Bp r:=by unfold St.Bp;rw[hr]
   rw[this,hr]
  simp only[Ao];rw[E4 (λr hr=>h r (AAM _ hr)),hw]
theorem Ft:∀(ps:List PM)(ui:List AV)(r:Nat),r∈Ae ps ui->∃a∈ui,r∈a.roots
 | [],_,r,h=>by simp[Ae]at h
 |pm::_,[],r,h=>by cases pm<;>simp[Ae]at h
 |pm::ps,a::ui,r,h=>by
  have ih:=Ft ps ui r;have sub:r∈Ae ps ui->∃b∈a::ui,r∈b.roots:=λh=>let ⟨b,hb,hr⟩:=ih h;⟨b,AAM _ hb,hr⟩
  cases pm with
  |val g ls=>
   rcases ABG.1 (show r∈a.roots++Ae ps ui from h)with h|h
   all_goals grind
  |_=>exact sub h
theorem Mw{ui:List AV}(h:∀a∈ui,BB s s' a.roots)(d:Nat)(f:FuncId)(k:List Wr->Step β):call cx s' d v f ui k=call cx s d v f ui k:=by
 unfold call;cases cx.env.fn f with
 |none=>exact J5 h d f k
 |some g=>
  dsimp only;cases g.s.mk? with
  |true=>simp only[if_true];rw[Fy h]
  |false=>
  simp only[ABK,if_false];rw[Fy h];have h2:∀vs,AT s' v g.s.ps ui vs=AT s v g.s.ps ui vs:=GY h;have h3:Ao cx s' (Ae g.s.ps ui)=Ao cx s (Ae g.s.ps ui):=E4 λr hr=>let ⟨a,ha,vI⟩:=Ft _ _ r hr;h a ha r vI
  grind
def Wr.I1:Wr->Bool
 | .leaf _ _ _=>true
 |_=>false
theorem D7(s:St)(r j:Nat)(a:LA)(r':Nat):(s.AG (.leaf r j a)).root r'=if r=r' then { s.root r with ls:=DL (s.root r).ls j a }else s.root r':=by
 show nth dead (DL s.ro r _) r'=_;rw[BW];by_cases h:r=r'
 ·subst h;by_cases hl:r<s.ro.length
  ·grind
  ·rw[AAQ (λhh=>hl hh.2),AAP rfl];have:s.root r=dead:=Au _ (AAy hl);show s.root r=_;rw[this];rfl
 ·rw[AAQ (λhh=>h hh.1),AAQ h];rfl
theorem BB.app{rs:Is}(h:BB s s' rs):∀ {fs:List Wr},(∀w∈fs,w.I1=true)->BB (s.app fs) (s'.app fs) rs:=by
 intro fs hf r hr
 have key:∀(fs:List Wr)(s s':St),(∀w∈fs,w.I1=true)->s'.root r=s.root r->(s'.app fs).root r=(s.app fs).root r:=by
  intro fs
  induction fs with
  |nil=>intro s s' _ h;exact h
  |cons w fs ih=>
   intro s s' hf h;have hw:=hf w AAk;refine ih _ _ (λx hx=>hf x (AAM _ hx)) ?_;cases w with
   |leaf r0 j a=>
    rw[D7,D7];grind
   |slot t a=>cases hw
   |root r x=>cases hw
 exact key fs s s' hf (h r hr)
theorem Fb:∀(r j:Nat)(ls:List LA),∀w∈A3 r j ls,w.I1=true
 |_,_,[],w,hw=>by cases hw
 |r,j,a::as,w,hw=>by
  rcases AAf.1 hw with e|hw
  ·subst e;rfl
  ·exact Fb r (j+1) as w hw
theorem FU:∀ {rs:Is} {fs:List Wr},Ao cx s rs=some fs->∀w∈fs,w.I1=true
 | [],fs,h,w,hw=>by injection h with h;grind
 |r::rs,fs,h,w,hw=>by
  simp only[Ao]at h;split at h
  ·cases h
  ·split at h
   ·rename_i wG xW;injection h with h;subst h
    rcases ABG.1 hw with hw|hw
    ·unfold C0 at hw;split at hw
     ·cases hw
     ·exact Fb r 0 _ w hw
    ·exact FU xW w hw
   ·cases h
theorem EZ:∀ {as:List LA} {r:Nat},r∈Hk as->r∈as.flatMap LA.roots
 | [],r,h=>by cases h
 |a::as,r,h=>by
  rw[AAm];refine ABG.2 ?_;cases a with
  |ref c=>
   simp only[Hk]at h;split at h
   ·exact .inr (EZ h)
   ·rcases AAf.1 h with e|h
    ·subst e;exact .inl (by simp[LA.roots])
    ·exact .inr (EZ h)
  |_=>exact .inr (EZ (by simpa[Hk]using h))
theorem LO{q:LA}{as:List LA}{r:Nat}(h:r∈MJ q as):r∈as.flatMap LA.roots:=by
 cases q with
 |ptr=>exact EZ h
 |_=>cases h
def LA.norm:LA->LA
 | .arr AB _ t e xs (_+1)=>.arr AB 0 t e xs 1
 |a=>a
def Bz.norm(x:Bz):Bz:={ x with ls:=x.ls.map LA.norm }
def NQ(m:Nat)(s s':St):Prop:=(∀t,m.testBit (2*t)=true->s'.slot t=s.slot t)/\(∀r,m.testBit (4*r+1)=true->m.testBit (4*r+3)=true->s'.root r=s.root r)/\∀r,m.testBit (4*r+1)=true->(s'.root r).norm=(s.root r).norm
end
end Go.Ev
namespace Go.Ev
section
variable {s s':St}{cx:Cx}{v:Nat}{β:Type}
def GI(s s':St)(x:Operand):Prop:=s'.Ar x=s.Ar x/\BB s s' (s.Ar x).roots
theorem GI.one{x:Operand}(h:GI s s' x):s'.Af x=s.Af x/\BB s s' (s.Af x).roots:=by
 refine⟨by unfold St.Af;rw[h.1],λr hr=>h.2 r ?_⟩;unfold St.Af at hr;cases hq:s.Ar x with
 |Da vs=>rw[hq]at hr;cases hr
 |bx as=>rw[hq]at hr;cases hr
 |v g as=>
  rw[hq]at hr;cases g with
  |true=>cases hr
  |false=>cases as with
   |nil=>cases hr
   |cons b bs=>cases bs with
    |nil=>exact AAL.2 ⟨b,OF,hr⟩
    |cons=>cases hr
theorem ET{x:Option Operand}(h:∀y,x=some y->GI s s' y)(d:Int)(k:Int->Step β):DP s' x d k=DP s x d k:=by
 cases x with
 |none=>rfl
 |some y=>simp only[DP];rw[(h y rfl).one.1]
theorem LD{o:Oper}{c:Call}(ho:o.op=.call c)(uw:∀x∈c.args.toList,GI s s' x)(xw:∀f,c.callee=.value f->GI s s' f):AA cx v o s'=AA cx v o s:=by
 cases hb:c.callee with
 |builtin b=>
  cases b with
  |len=>
   simp only[AA,ho,hb];split
   ·rename_i x t hx ht;have hx:=(uw x (by rw[hx];simp)).one;simp only[hx.1,L9 hx.2]
   ·rfl
  |append=>
   simp only[AA,ho,hb];split
   ·rename_i x y t1 t2 ty d hx _ _ _;have xJ:=(uw x (by rw[hx];simp)).one;have hy1:=(uw y (by rw[hx];simp)).one;simp only[xJ.1,hy1.1,JU xJ.2 hy1.2]
   ·rfl
  |min=>
   simp only[AA,ho,hb];split
   ·rename_i x y hx;have xJ:=(uw x (by rw[hx];simp)).one;have hy1:=(uw y (by rw[hx];simp)).one;grind
   ·rfl
  |max=>
   simp only[AA,ho,hb];split
   ·rename_i x y hx;have xJ:=(uw x (by rw[hx];simp)).one;have hy1:=(uw y (by rw[hx];simp)).one;grind
   ·rfl
  |_=>simp only[AA,ho,hb]
 |value f=>
  have hf:=(xw f hb).one;have yY:c.args.toList.map s'.Ar=c.args.toList.map s.Ar:=List.map_congr_left λx hx=>(uw x hx).1
  have wC:∀a∈c.args.toList.map s.Ar,BB s s' a.roots:=λa ha=>by obtain⟨x,hx,rfl⟩:=AAs.1 ha;exact(uw x hx).2
  simp only[AA,ho,hb];rw[hf.1,yY];simp only[Mw wC]
 |invoke r n=>simp only[AA,ho,hb]
theorem Hn{o:Oper}(h:∀x∈o.op.operands.toList,GI s s' x):AA cx v o s'=AA cx v o s:=by
 by_cases vE:∃c,o.op=.call c
 ·obtain⟨c,ho⟩:=vE;exact LD ho (λx hx=>h x (by rw[ho];simp[Op.operands,Call.operands];grind)) λf hb=>h f (by rw[ho];simp[Op.operands,Call.operands,hb])
 unfold AA;cases ho:o.op with
 |move x=>
  have hx:=h x (by rw[ho];simp[Op.operands]);simp only[hx.1]
 |assign x=>
  have hx:=(h x (by rw[ho];simp[Op.operands])).one;simp only[hx.1];cases o.dst with
  |none=>rfl
  |some d=>
   have wF:=hx.2;generalize s.Af x=p at wF;cases p<;>first|rfl|simp only[Kw wF]
 |pick x y z=>
  have hx:=(h x (by rw[ho];simp[Op.operands])).one;have hy:=h y (by rw[ho];simp[Op.operands]);have hz:=h z (by rw[ho];simp[Op.operands]);simp only[hx.1,hy.1,hz.1]
 |alloc t=>rfl
 |box t x=>
  have hx:=h x (by rw[ho];simp[Op.operands]);simp only[hx.1];have wF:=hx.2;generalize s.Ar x=p at wF;cases cx.ty t with
  |none=>rfl
  |some ty=>cases o.dst with
   |none=>rfl
   |some d=>cases p with
    |Da vs=>rfl
    |bx as=>rfl
    |v g as=>
     simp only[Ki (show BB s s' (as.flatMap LA.roots)from wF),EN (show BB s s' (as.flatMap LA.roots)from wF)]
 |build t ps=>
  have hp:∀p∈ps.toList,s'.Ar p.2=s.Ar p.2/\BB s s' (s.Ar p.2).roots:=λp hp=>h p.2 (by rw[ho];simp only[Op.operands,List.toList_toArray];grind);simp only[Jd hp]
 |buildSlice t n ps=>
  have hp:∀p∈ps.toList,s'.Ar p.2=s.Ar p.2/\BB s s' (s.Ar p.2).roots:=λp hp=>h p.2 (by rw[ho];simp only[Op.operands,List.toList_toArray];grind);simp only[HL hp]
 |load t x=>
  have hx:=h x (by rw[ho];simp[Op.operands]);simp only[hx.1,LM hx.2]
 |store t x y=>
  have hx:=(h x (by rw[ho];simp[Op.operands])).one;have hy:=h y (by rw[ho];simp[Op.operands]);simp only[hx.1,hy.1];have hy2:=hy.2;generalize s.Ar y=p at hy2;cases cx.ty t with
  |none=>
   have wF:=hx.2;generalize s.Af x=q at wF;exact Le wF
  |some ty=>cases p with
   |Da vs=>rfl
   |bx as=>rfl
   |v g as=>
    have hy2:BB s s' (as.flatMap LA.roots):=hy2;dsimp only;cases hn:MJ (s.Af x) as with
    |nil=>simp only[GB,Ik hx.2 hy2]
    |cons r rs=>
     have vS:BB s s' (r::rs):=λr' vI=>hy2 r' (by rw[<-hn]at vI;exact LO vI);simp only[E4 vS];cases hf:Ao cx s (r::rs)with
     |none=>rfl
     |some fs=>
      have y9:=FU hf;simp only[GB,Ik (hx.2.app y9) (hy2.app y9)]
 |makeInterface t x=>
  have hx:=(h x (by rw[ho];simp[Op.operands])).one;grind
 |makeFunc fn xs ys=>
  cases fn with
  |func g=>
   have yY:ys.toList.map s'.Ar=ys.toList.map s.Ar:=List.map_congr_left λy hy=>(h y (by rw[ho];simp[Op.operands];exact .inr ADf)).1
   have wC:∀a∈ys.toList.map s.Ar,BB s s' a.roots:=λa ha=>by
    obtain⟨y,hy,rfl⟩:=AAs.1 ha;exact(h y (by rw[ho];simp[Op.operands];exact .inr ADf)).2
   obtain⟨e1,e2⟩:=Ig wC;grind
  |_=>rfl
 |nilCheck x=>
  have hx:=h x (by rw[ho];simp[Op.operands]);simp only[hx.1];have wF:=hx.2;generalize s.Ar x=p at wF;cases p with
  |bx as=>rfl
  |v g as=>simp only[D6 (EU wF)]
  |Da vs=>simp only[D6 (EU wF)]
 |binOp op tx x y ty=>
  have hx:=h x (by rw[ho];simp[Op.operands]);have hy:=h y (by rw[ho];simp[Op.operands]);simp only[hx.1,hy.1]
 |unOp op tx x=>
  have hx:=(h x (by rw[ho];simp[Op.operands])).one;grind
 |convert t1 t2 x=>
  have hx:=(h x (by rw[ho];simp[Op.operands])).one;simp only[hx.1];have wF:=hx.2;generalize s.Af x=p at wF;cases cx.ty t1 with
  |none=>rfl
  |some ta=>cases cx.ty t2 with
   |none=>rfl
   |some ty=>cases p with
    |sc l z=>cases l<;>first|rfl|(simp only[CV wF])
    |_=>simp only[CV wF]
 |makeSlice t x y=>
  have hx:=(h x (by rw[ho];simp[Op.operands])).one;have hy:=(h y (by rw[ho];simp[Op.operands])).one;simp only[hx.1,hy.1]
 |slice ti x lo hi m=>
  have hx:=(h x (by rw[ho];simp[Op.operands])).one;have vr:∀y,lo=some y->GI s s' y:=λy e=>h y (by rw[ho,e];simp[Op.operands]);have xm:∀y,hi=some y->GI s s' y:=λy e=>h y (by rw[ho,e];simp[Op.operands]);cases m with
  |some m=>rfl
  |none=>
   simp only[hx.1];have wF:=hx.2;generalize s.Af x=p at wF;cases p with
   |sc l b=>cases l<;>simp only[ET vr,ET xm]
   |ref c=>simp only[ET vr,ET xm,BV (wF c.r (by simp[LA.roots]))]
   |_=>rfl
 |fieldAddr t x f=>
  have hx:=h x (by rw[ho];simp[Op.operands]);simp only[hx.1];have wF:=hx.2;generalize s.Ar x=p at wF;cases p with
  |bx as=>rfl
  |v g as=>simp only[D6 (EU wF)]
  |Da vs=>simp only[D6 (EU wF)]
 |field t x f=>
  have hx:=h x (by rw[ho];simp[Op.operands]);simp only[hx.1]
 |indexAddr ti x i=>
  have hx:=(h x (by rw[ho];simp[Op.operands])).one;have hi:=(h i (by rw[ho];simp[Op.operands])).one;simp only[hx.1,hi.1];have wF:=hx.2;generalize s.Af x=p at wF;cases p with
  |ref c=>simp only[BV (wF c.r (by simp[LA.roots]))]
  |Dy c lo hi=>simp only[BV (wF c.r (by simp[LA.roots]))]
  |sc l b=>grind
  |_=>rfl
 |index ti x i=>
  have hx:=(h x (by rw[ho];simp[Op.operands])).one;have hi:=(h i (by rw[ho];simp[Op.operands])).one;grind
 |extract x i=>
  have hx:=h x (by rw[ho];simp[Op.operands]);simp only[hx.1]
 |call c=>grind
 |_=>rfl
theorem AI(a b i:Nat):(Nat.lor a b).testBit i=(a.testBit i||b.testBit i):=Nat.testBit_or a b i
theorem CO(n i:Nat):(2 ^ n).testBit i=decide (n=i):=Nat.testBit_two_pow
theorem Gh(r i:Nat):(JF r).testBit i=decide (4*r+1=i):=CO _ _
theorem E6(r i:Nat):(KK r).testBit i=decide (4*r+3=i):=CO _ _
theorem Gl(a:AV)(r:Nat)(h:r∈a.roots):a.mask.testBit (4*r+1)=true/\a.mask.testBit (4*r+3)=true:=by
 unfold AV.mask
 revert h
 generalize a.roots=rs;intro h
 induction rs with
 |nil=>cases h
 |cons x rs ih=>
  rw[List.foldr_cons,AI,AI,AI,AI,Gh,E6,Gh,E6];grind
theorem IT(s:St):∀(xs:List Operand)(m0:Nat)(x:Operand),x∈xs->(∀t,x=.tmp t->(xs.foldr (λx m=>match x with
  | .tmp t=>Nat.lor (2 ^ (2*t)) (Nat.lor (s.slot t).mask m)
  |_=>m) m0).testBit (2*t)=true/\∀r∈(s.slot t).roots,(xs.foldr (λx m=>match x with
  | .tmp t=>Nat.lor (2 ^ (2*t)) (Nat.lor (s.slot t).mask m)
  |_=>m) m0).testBit (4*r+1)=true/\(xs.foldr (λx m=>match x with
  | .tmp t=>Nat.lor (2 ^ (2*t)) (Nat.lor (s.slot t).mask m)
  |_=>m) m0).testBit (4*r+3)=true)
 | [],m0,x,h,t,e=>by cases h
 |y::xs,m0,x,h,t,e=>by
  rw[List.foldr_cons];rcases AAf.1 h with h|h
  ·subst h;subst e;dsimp only;refine⟨by rw[AI,CO];simp,λr hr=>⟨by rw[AI,AI,(Gl _ r hr).1];simp,by rw[AI,AI,(Gl _ r hr).2];simp⟩⟩
  ·obtain⟨h1,h2⟩:=IT s xs m0 x h t e;cases y with
   |tmp u=>
    dsimp only;exact⟨by rw[AI,AI,h1];simp,λr hr=>⟨by rw[AI,AI,(h2 r hr).1];simp,by rw[AI,AI,(h2 r hr).2];simp⟩⟩
   |_=>grind
theorem HZ(s:St)(i:Nat):∀(xs:List Operand)(m0:Nat),m0.testBit i=true->(xs.foldr (λx m=>match x with
  | .tmp t=>Nat.lor (2 ^ (2*t)) (Nat.lor (s.slot t).mask m)
  |_=>m) m0).testBit i=true
 | [],m0,h=>h
 |y::xs,m0,h=>by
  rw[List.foldr_cons];have:=HZ s i xs m0 h;cases y with
  |tmp u=>dsimp only;rw[AI,AI,this];simp
  |_=>exact this
theorem Ja(x:Operand)(h:∀t,x≠.tmp t):s'.Ar x=s.Ar x/\(s.Ar x).roots=[]:=by
 have hv:∀v,(ofConst v).roots=[]:=λv=>by
  cases v with
  |slice A n c=>
   cases A with
   |none=>cases n with
    |zero=>cases c<;>rfl
    |succ n=>rfl
   |some a=>rfl
  |pointer A=>cases A<;>rfl
  |_=>rfl
 cases x with
 |tmp t=>grind
 |const c=>
  cases c with
  |agg cs=>
   refine⟨rfl,?_⟩;show(cs.toList.map ofConst).flatMap LA.roots=[];rw[List.flatMap_map];simp only[hv,FT]
  |bool b=>exact⟨rfl,by simp[St.Ar,AV.roots,hv]⟩
  |int k n=>exact⟨rfl,by simp[St.Ar,AV.roots,hv]⟩
  |float k n=>exact⟨rfl,by simp[St.Ar,AV.roots,hv]⟩
  |complex k x y=>exact⟨rfl,by simp[St.Ar,AV.roots,hv]⟩
  |string b=>exact⟨rfl,by simp[St.Ar,AV.roots,hv]⟩
  |pointer b=>exact⟨rfl,by simp[St.Ar,AV.roots,hv]⟩
  |slice b n c=>exact⟨rfl,by simp[St.Ar,AV.roots,hv]⟩
  |map r=>exact⟨rfl,by simp[St.Ar,AV.roots,hv]⟩
  |chan r=>exact⟨rfl,by simp[St.Ar,AV.roots,hv]⟩
  |func f x y=>exact⟨rfl,by simp[St.Ar,AV.roots,hv]⟩
  |nilFunc=>exact⟨rfl,by simp[St.Ar,AV.roots,hv]⟩
  |iface t x=>exact⟨rfl,by simp[St.Ar,AV.roots,hv]⟩
  |nilIface=>exact⟨rfl,by simp[St.Ar,AV.roots,hv]⟩
  |tuple vs=>exact⟨rfl,by simp[St.Ar,AV.roots,hv]⟩
 |global g=>exact⟨rfl,rfl⟩
 |func f=>exact⟨rfl,rfl⟩
theorem Ka(r j:Nat):∀ {a b:LA},a.norm=b.norm->H4 r j a=H4 r j b:=by
 have key:∀a:LA,H4 r j a=H4 r j a.norm:=λa=>by
  cases a with
  |arr AB gen t e xs d=>cases d<;>rfl
  |_=>rfl
 grind
theorem EL(r:Nat):∀(j:Nat) {as bs:List LA},as.map LA.norm=bs.map LA.norm->BD r j as=BD r j bs
 |j,[],[],_=>rfl
 |j,[],b::bs,h=>by cases h
 |j,a::as,[],h=>by cases h
 |j,a::as,b::bs,h=>by simp only[ABE,List.cons.injEq]at h;simp only[BD,Ka r j h.1,EL r (j+1) h.2]
theorem KN{r j AB n:Nat}{β:Type}{k:List LA->Step β}(h:(s'.root r).norm=(s.root r).norm):s'.C4 (.ptr r j AB) n k=s.C4 (.ptr r j AB) n k:=by
 have h1:(s'.root r).box=(s.root r).box:=by have:=congrArg Bz.box h;exact this
 have h2:(s'.root r).AB=(s.root r).AB:=by have:=congrArg Bz.AB h;exact this
 have h3:(s'.root r).ls.map LA.norm=(s.root r).ls.map LA.norm:=by have:=congrArg Bz.ls h;exact this
 have h4:(s'.root r).ls.length=(s.root r).ls.length:=by have:=congrArg List.length h3;simpa using this
 have h5:BD r j (((s'.root r).ls.drop j).take n)=BD r j (((s.root r).ls.drop j).take n):=EL r j (by rw[List.map_take,List.map_take,List.map_drop,List.map_drop,h3]);simp only[St.C4,h1,h2,h4,h5]
theorem M0{ops:Array Oper}{o:Oper}(h:NQ (Ax ops o s) s s'):AA cx v o s'=AA cx v o s/\∀j want t,o.guard=some (j,want)->(ops[j]?).bind (·.dst)=some t->s'.slot t=s.slot t:=by
 have xO:∀j want t,o.guard=some (j,want)->(ops[j]?).bind (·.dst)=some t->(BM ops o).testBit (2*t)=true:=by intro j want t hg ht;unfold BM;rw[hg];dsimp only;rw[ht];dsimp only;rw[CO];simp
 by_cases hm:∃t,o.op=.move (.tmp t)\/(∃i,o.op=.extract (.tmp t) i)\/∃T f,o.op=.field T (.tmp t) f
 ·obtain⟨t,ho⟩:=hm;have zr:Ax ops o s=Nat.lor (2 ^ (2*t)) (BM ops o):=by rcases ho with ho|⟨i,ho⟩|⟨T,f,ho⟩<;>(unfold Ax;rw[ho])
  rw[zr]at h;have h1:s'.slot t=s.slot t:=h.1 t (by rw[AI,CO];simp);refine⟨?_,λj want u hg ht=>h.1 u (by rw[AI,xO j want u hg ht];simp)⟩;have h2:s'.Ar (.tmp t)=s.Ar (.tmp t):=h1;unfold AA;rcases ho with ho|⟨i,ho⟩|⟨T,f,ho⟩<;>(rw[ho];grind)
 by_cases hp:∃t g r j AB,(∃T,o.op=.load T (.tmp t)\/∃f,o.op=.fieldAddr T (.tmp t) f)/\s.slot t=.v g [.ptr r j AB]
 ·obtain⟨t,g,r,j,AB,⟨T,ho⟩,hs⟩:=hp;have zr:Ax ops o s=Nat.lor (2 ^ (2*t)) (Nat.lor (JF r) (BM ops o)):=by rcases ho with ho|⟨f,ho⟩<;>(unfold Ax;grind)
  rw[zr]at h;have h1:s'.slot t=s.slot t:=h.1 t (by rw[AI,CO];simp);have h2:(s'.root r).norm=(s.root r).norm:=h.2.2 r (by rw[AI,AI,Gh];simp);refine⟨?_,λj want u hg ht=>h.1 u (by rw[AI,AI,xO j want u hg ht];simp)⟩;have h3:s.Ar (.tmp t)=.v g [.ptr r j AB]:=hs;have h4:s'.Ar (.tmp t)=.v g [.ptr r j AB]:=h1.trans hs
  have ha:s'.alive (AV.one? (.v g [.ptr r j AB]))=s.alive (AV.one? (.v g [.ptr r j AB])):=by
   cases g with
   |true=>rfl
   |false=>
    have h5:(s'.root r).box=(s.root r).box:=by have:=congrArg Bz.box h2;exact this
    have h6:(s'.root r).AB=(s.root r).AB:=by have:=congrArg Bz.AB h2;exact this
    show((s'.root r).box&&(s'.root r).AB==AB)=((s.root r).box&&(s.root r).AB==AB);rw[h5,h6]
  have hl:∀n (k:List LA->Step (List Wr)),s'.E7 (.v g [.ptr r j AB]) n k=s.E7 (.v g [.ptr r j AB]) n k:=λn k=>by
   show s'.C4 (AV.one? (.v g [.ptr r j AB])) n k=s.C4 (AV.one? (.v g [.ptr r j AB])) n k;cases g with
   |true=>rfl
   |false=>exact KN h2
  unfold AA;rcases ho with ho|⟨f,ho⟩
  ·rw[ho];grind
  ·rw[ho];simp only[h3,h4,ha]
 by_cases hq:∃t T,o.op=.load T (.tmp t)\/∃f,o.op=.fieldAddr T (.tmp t) f
 ·obtain⟨t,T,ho⟩:=hq
  have zr:Ax ops o s=Nat.lor (2 ^ (2*t)) (Nat.lor (s.slot t).mask (BM ops o)):=by
   have yO:∀g r j AB,s.slot t≠.v g [.ptr r j AB]:=λg r j AB hs=>hp ⟨t,g,r,j,AB,⟨T,ho⟩,hs⟩;rcases ho with ho|⟨f,ho⟩
   ·unfold Ax;grind
   ·unfold Ax;grind
  rw[zr]at h;have h1:s'.slot t=s.slot t:=h.1 t (by rw[AI,CO];simp);refine⟨Hn λx hx=>?_,λj want u hg ht=>h.1 u (by rw[AI,AI,xO j want u hg ht];simp)⟩
  have hx:x=.tmp t:=by
   rcases ho with ho|⟨f,ho⟩
   ·rw[ho]at hx;simpa[Op.operands]using hx
   ·rw[ho]at hx;simpa[Op.operands]using hx
  subst hx;exact⟨h1,λr hr=>h.2.1 r (by rw[AI,AI,(Gl (s.slot t) r hr).1];simp) (by rw[AI,AI,(Gl (s.slot t) r hr).2];simp)⟩
 have zr:Ax ops o s=o.op.operands.toList.foldr (λx m=>match x with
  | .tmp t=>Nat.lor (2 ^ (2*t)) (Nat.lor (s.slot t).mask m)
  |_=>m) (BM ops o):=by
  unfold Ax;split
  ·grind
  ·grind
  ·grind
  ·grind
  ·grind
  ·rfl
 rw[zr]at h;refine⟨Hn λx hx=>?_,λj want t hg ht=>?_⟩
 ·by_cases hq:∃t,x=.tmp t
  ·obtain⟨t,rfl⟩:=hq;obtain⟨h1,h2⟩:=IT s o.op.operands.toList _ (.tmp t) hx t rfl;exact⟨h.1 t h1,λr hr=>h.2.1 r (h2 r hr).1 (h2 r hr).2⟩
  ·obtain⟨h1,h2⟩:=Ja (s:=s) (s':=s') x λt e=>hq ⟨t,e⟩;exact⟨h1,λr hr=>No⟩
 ·exact h.1 t (HZ s _ _ _ (xO j want t hg ht))
end
end Go.Ev
namespace Go.Ev
def B4(m n:Nat):Prop:=∀i,m.testBit i=true->n.testBit i=false
theorem Gz{m n:Nat}(h:(Nat.land m n==0)=true):B4 m n:=by
 intro i hi;have h0:m &&& n=0:=ADQ
 have:=congrArg (λx=>x.testBit i) h0;grind
theorem B4.symm{m n:Nat}(h:B4 m n):B4 n m:=λi hi=>by
 cases hm:m.testBit i with
 |false=>rfl
 |true=>rw[h i hm]at hi;cases hi
theorem Bq(s:St)(w:Wr):(s.AG w).sl.length=s.sl.length/\(s.AG w).ro.length=s.ro.length:=by
 cases w<;>exact⟨by simp[St.AG,CG],by simp[St.AG,CG]⟩
theorem Bv:∀(ws:List Wr)(s:St),(s.app ws).sl.length=s.sl.length/\(s.app ws).ro.length=s.ro.length
 | [],s=>⟨rfl,rfl⟩
 |w::ws,s=>by obtain⟨h1,h2⟩:=Bv ws (s.AG w);obtain⟨h3,h4⟩:=Bq s w;exact⟨h1.trans h3,h2.trans h4⟩
theorem Iq:∀(ws:List Wr)(s:St),(s.app ws).Bd=s.Bd
 | [],s=>rfl
 |w::ws,s=>(Iq ws (s.AG w)).trans (by cases w<;>rfl)
theorem Og(t r:Nat):(JF r).testBit (2*t)=false/\(KK r).testBit (2*t)=false:=by rw[Gh,E6];grind
theorem G3{s:St}{w:Wr}{t:Nat}(h:w.mask.testBit (2*t)=false):(s.AG w).slot t=s.slot t:=by
 cases w with
 |slot u a=>
  simp only[Wr.mask,CO,AAn]at h;rw[BH,AAQ (λhh=>h (by rw[hh.1]))]
 |root r x=>rfl
 |leaf r j a=>rfl
theorem Bc{s:St}{w:Wr}{r:Nat}(h:w.mask.testBit (4*r+3)=false):(s.AG w).root r=s.root r:=by
 cases w with
 |slot u a=>rfl
 |root q x=>
  simp only[Wr.mask,AI,Gh,E6,AAj,AAn]at h;rw[Ap,AAQ (λhh=>h.2 (by rw[hh.1]))]
 |leaf q j a=>
  simp only[Wr.mask,AI,Gh,E6,AAj,AAn]at h;show nth dead (DL s.ro q _) r=_;rw[BW,AAQ (λhh=>h.2 (by rw[hh.1]))];rfl
theorem BI(w:Wr)(ws:List Wr)(i:Nat):(AD (w::ws)).testBit i=(w.mask.testBit i||(AD ws).testBit i):=AI _ _ _
theorem DO{t:Nat}:∀ {ws:List Wr} {s:St},(AD ws).testBit (2*t)=false->(s.app ws).slot t=s.slot t
 | [],s,h=>rfl
 |w::ws,s,h=>by rw[BI,AAj]at h;exact(DO h.2).trans (G3 h.1)
theorem DN{r:Nat}:∀ {ws:List Wr} {s:St},(AD ws).testBit (4*r+3)=false->(s.app ws).root r=s.root r
 | [],s,h=>rfl
 |w::ws,s,h=>by rw[BI,AAj]at h;exact(DN h.2).trans (Bc h.1)
theorem Eo{t:Nat}:∀ {ws:List Wr} {s s':St},s'.sl.length=s.sl.length->s'.slot t=s.slot t->(s'.app ws).slot t=(s.app ws).slot t
 | [],s,s',hl,h=>h
 |w::ws,s,s',hl,h=>by
  show((s'.AG w).app ws).slot t=((s.AG w).app ws).slot t;refine Eo ((Bq s' w).1.trans (hl.trans (Bq s w).1.symm)) ?_;cases w with
  |slot u a=>rw[BH,BH,hl,h]
  |root r x=>exact h
  |leaf r j a=>exact h
theorem En{r:Nat}:∀ {ws:List Wr} {s s':St},s'.ro.length=s.ro.length->s'.root r=s.root r->(s'.app ws).root r=(s.app ws).root r
 | [],s,s',hl,h=>h
 |w::ws,s,s',hl,h=>by
  show((s'.AG w).app ws).root r=((s.AG w).app ws).root r;refine En ((Bq s' w).2.trans (hl.trans (Bq s w).2.symm)) ?_;cases w with
  |slot u a=>exact h
  |root q x=>rw[Ap,Ap,hl,h]
  |leaf q j a=>
   show nth dead (DL s'.ro q _) r=nth dead (DL s.ro q _) r;rw[BW,BW,hl];split
   ·grind
   ·exact h
theorem Fq{α:Type}(l:List α){n m:Nat}(h:n≠m)(x y:α):DL (DL l n x) m y=DL (DL l m y) n x:=by rw[CH,CH,CH,CH];exact List.set_comm _ _ h
theorem K6{s:St}{w w':Wr}(h:B4 w.mask w'.mask):(s.AG w).AG w'=(s.AG w').AG w:=by
 have key:∀ {n m:Nat},B4 (2 ^ n) (2 ^ m)->n≠m:=by intro n m h e;have:=h n No;rw[CO,e]at this;simp at this
 have hh:∀ {r q:Nat} {a b:Nat},a.testBit (4*r+3)=true->b.testBit (4*q+3)=true->B4 a b->r≠q:=by intro r q a b ha hb hab e;have:=hab (4*r+3) ha;rw[e,hb]at this;cases this
 have full:∀r,(Nat.lor (JF r) (KK r)).testBit (4*r+3)=true:=λr=>by rw[AI,E6];simp
 have alone:∀r,(KK r).testBit (4*r+3)=true:=λr=>by rw[E6];simp
 have ll:∀ {s:St} {r j q k:Nat} {a b:LA},r≠q->(s.AG (.leaf r j a)).AG (.leaf q k b)=(s.AG (.leaf q k b)).AG (.leaf r j a):=by intro s r j q k a b uV;have e1:(s.AG (.leaf r j a)).root q=s.root q:=Bc (by simp only[Wr.mask,AI,Gh,E6,AAj,AAn];omega);have e2:(s.AG (.leaf q k b)).root r=s.root r:=Bc (by simp only[Wr.mask,AI,Gh,E6,AAj,AAn];omega);simp only[St.AG]at e1 e2 ⊢;rw[e1,e2,Fq _ uV]
 have rl:∀ {s:St} {r q j:Nat} {x:Bz} {b:LA},r≠q->(s.AG (.root r x)).AG (.leaf q j b)=(s.AG (.leaf q j b)).AG (.root r x):=by
  intro s r q j x b uV;have e1:(s.AG (.root r x)).root q=s.root q:=by rw[Ap,AAQ (λhh=>uV hh.1)]
  simp only[St.AG]at e1 ⊢;rw[e1,Fq _ uV]
 have lq:∀ {s:St} {r q j k:Nat} {a:LA},r≠q->(s.AG (.leaf r j a)).leaf q k=s.leaf q k:=by
  intro s r q j k a uV;unfold St.leaf;rw[Bc (by simp only[Wr.mask,AI,Gh,E6,AAj,AAn];omega)]
 have rq:∀ {s:St} {r q k:Nat} {x:Bz},r≠q->(s.AG (.root r x)).leaf q k=s.leaf q k:=by intro s r q k x uV;unfold St.leaf;rw[Ap,AAQ (λhh=>uV hh.1)]
 cases w with
 |slot t a=>cases w' with
  |slot u b=>
   have uV:t≠u:=λe=>key h (by rw[e]);simp only[St.AG];rw[Fq _ uV]
  |root r x=>rfl
  |leaf r j b=>rfl
 |root r x=>cases w' with
  |slot u b=>rfl
  |root q y=>
   have uV:r≠q:=hh (full r) (full q) h;simp only[St.AG];rw[Fq _ uV]
  |leaf q j b=>exact rl (hh (full r) (full q) h)
 |leaf r j a=>cases w' with
  |slot u b=>rfl
  |root q y=>exact(rl (hh (full r) (full q) h).symm).symm
  |leaf q k b=>exact ll (hh (full r) (full q) h)
theorem El{w:Wr}:∀ {ws:List Wr} {s:St},B4 w.mask (AD ws)->(s.AG w).app ws=(s.app ws).AG w
 | [],s,h=>rfl
 |w'::ws,s,h=>by
  have h1:B4 w.mask w'.mask:=λi hi=>by have:=h i hi;rw[BI,AAj]at this;exact this.1
  have h2:B4 w.mask (AD ws):=λi hi=>by have:=h i hi;rw[BI,AAj]at this;exact this.2
  show((s.AG w).AG w').app ws=_;rw[K6 h1,El h2];rfl
theorem JT{wG:List Wr}:∀ {ws:List Wr} {s:St},B4 (AD ws) (AD wG)->(s.app ws).app wG=(s.app wG).app ws
 | [],s,h=>rfl
 |w::ws,s,h=>by have h1:B4 w.mask (AD wG):=λi hi=>h i (by rw[BI,hi];rfl);have h2:B4 (AD ws) (AD wG):=λi hi=>h i (by rw[BI,hi];simp);show((s.AG w).app ws).app wG=_;rw[JT h2,El h1];rfl
def BK(s:St)(p:Nat->Prop):Prop:=(∀t,∀n∈(s.slot t).AF,p n)/\∀r,∀n∈(s.root r).AF,p n
theorem BK.mono{s:St}{p q:Nat->Prop}(h:BK s p)(hq:∀n,p n->q n):BK s q:=⟨λt n hn=>hq n (h.1 t n hn),λr n hn=>hq n (h.2 r n hn)⟩
theorem BK.zero{s:St}{p:Nat->Prop}(h:BK s p):p 0:=by refine h.2 s.ro.length 0 ?_;have:s.root s.ro.length=dead:=Au _ (AAb _);rw[this];exact AAk
theorem BK.AG{s:St}{p:Nat->Prop}(h:BK s p){w:Wr}(hw:∀n∈w.AF,p n):BK (s.AG w) p:=by
 cases w with
 |slot u a=>
  refine⟨λt n hn=>?_,h.2⟩;rw[BH]at hn;split at hn
  ·exact hw n hn
  ·exact h.1 t n hn
 |root q x=>
  refine⟨h.1,λr n hn=>?_⟩;rw[Ap]at hn;split at hn
  ·exact hw n hn
  ·exact h.2 r n hn
 |leaf q j a=>
  refine⟨h.1,λr n hn=>?_⟩;have vA:(s.AG (.leaf q j a)).root r=if q=r/\q<s.ro.length then { s.root q with ls:=DL (s.root q).ls j a }else s.root r:=BW _ _ _ _ _
  rw[vA]at hn;split at hn
  ·rcases AAf.1 hn with hn|hn
   ·subst hn;exact h.2 q _ AAk
   ·obtain⟨b,hb,hn2⟩:=AAL.1 hn;have hb:b∈DL (s.root q).ls j a:=hb;rw[CH]at hb;rcases List.mem_or_eq_of_mem_set hb with hb|hb
    ·exact h.2 q n (AAM _ (AAL.2 ⟨b,hb,hn2⟩))
    ·rw[hb]at hn2;exact hw n hn2
  ·exact h.2 r n hn
theorem BK.app{p:Nat->Prop}:∀ {ws:List Wr} {s:St},BK s p->(∀w∈ws,∀n∈w.AF,p n)->BK (s.app ws) p
 | [],s,h,hw=>h
 |w::ws,s,h,hw=>BK.app (ws:=ws) (s:=s.AG w) (h.AG (hw w OF)) λx hx=>hw x (AAM _ hx)
theorem BK.Hl{s:St}{p:Nat->Prop}(h:BK s p){v:Nat}(hv:¬p v)(h1:1<v):Aj s v:=by
 refine⟨λt uO=>hv (h.1 t v uO),λr j=>.inr λuO=>?_,h1⟩;by_cases hj:j<(s.root r).ls.length
 ·exact hv (h.2 r v (AAM _ (AAL.2 ⟨_,Kl hj,uO⟩)))
 ·have:s.leaf r j=.bad:=Au _ (AAy hj);rw[this]at uO;cases uO
def Bi(ops:Array Oper)(o:Oper)(s:St)(b:Bool):Prop:=match o.guard with
 |none=>b=true
 |some (j,want)=>∃t,(ops[j]?).bind (·.dst)=some t/\((s.slot t=.v false [.undef]/\b=false)\/∃c:Bool,s.slot t=.v false [.sc .bool c]/\b=(c==want))
def K2(cx:Cx)(g:Rg)(bs:Is)(i:Nat)(o:Oper)(s:St)(ws:List Wr):Prop:=
 (Bi g.ops o s true/\(AA cx (g.v0+i) o s).leads ws/\JA cx o.dst g.v0 (g.v0+i) (nth 0 bs i) ws=true)\/(Bi g.ops o s false/\ws=Cj o.dst)
def Trace(cx:Cx)(g:Rg)(bs:Is):Nat->List Oper->List (Nat×Nat)->St->List (Nat×List Wr)->Prop
 |_,[],_,_,[]=>True
 |i,o::r,lg,s,(rm,ws)::tr=>rm=Ax g.ops o s/\(g.draw=true->indep (nth 0 bs i) rm (AD ws) 0 lg=true)/\K2 cx g bs i o s ws/\Trace cx g bs (i+1) r (lg++[(rm,AD ws)]) (s.app ws) tr
 |_,_,_,_,_=>False
def AJ(A:Nat->Bool):Nat->List (Nat×List Wr)->St->St
 |_,[],s=>s
 |i,x::tr,s=>AJ A (i+1) tr (bif A i then s.app x.2 else s)
theorem Kz{α:Type}(d:α):∀(l:List α)(n:Nat),DL l n (nth d l n)=l
 | [],n=>rfl
 |x::xs,0=>rfl
 |x::xs,n+1=>by simp[DL,nth,Kz d xs n]
theorem B8{s:St}{t:Nat}{a:AV}(h:s.slot t=a):s.AG (.slot t a)=s:=by subst h;show { s with sl:=DL s.sl t (s.slot t) }=s;have:DL s.sl t (s.slot t)=s.sl:=Kz _ _ _;rw[this]
theorem EF{R:Type}{cx:Cx}{g:Rg}{bs:Is}{k:St->Option R}{x:R}:∀(r:List Oper)(i:Nat) (lg:List (Nat×Nat)) (s:St),EE cx g (number i r) bs lg s k=some x->
  ∃tr,Trace cx g bs i r lg s tr/\tr.length=r.length/\k (AJ (λ_=>true) i tr s)=some x
 | [],i,lg,s,h=>⟨[],trivial,rfl,h⟩
 |o::r,i,lg,s,h=>by
  simp only[number,EE]at h
  have exec:Bi g.ops o s true->((AA cx (g.v0+i) o s).run λws=>
    if JA cx o.dst g.v0 (g.v0+i) (nth 0 bs i) ws&&(!g.draw||indep (nth 0 bs i) (Ax g.ops o s) (AD ws) 0 lg)then EE cx g (number (i+1) r) bs (lg++[(Ax g.ops o s,AD ws)]) (s.app ws) k else none)=some x->
    ∃tr,Trace cx g bs i (o::r) lg s tr/\tr.length=(o::r).length/\k (AJ (λ_=>true) i tr s)=some x:=by
   intro hg h;obtain⟨ws,hl,h⟩:=Step.Cr _ h;split at h
   ·rename_i hc;simp only[AAJ,AAd,AAV]at hc;obtain⟨tr,h1,h2,h3⟩:=EF r (i+1) _ _ h;exact⟨(_,ws)::tr,⟨rfl,λhd=>hc.2.resolve_left (by simp[hd]),.inl ⟨hg,hl,hc.1⟩,h1⟩,by simp[h2],h3⟩
   ·cases h
  have skip:Bi g.ops o s false->(if(!g.draw||indep (nth 0 bs i) (Ax g.ops o s) (AD (Cj o.dst)) 0 lg)=true then EE cx g (number (i+1) r) bs (lg++[(Ax g.ops o s,AD (Cj o.dst))]) (s.app (Cj o.dst)) k else none)=some x->
    ∃tr,Trace cx g bs i (o::r) lg s tr/\tr.length=(o::r).length/\k (AJ (λ_=>true) i tr s)=some x:=by
   intro hg h;split at h
   ·rename_i hc;simp only[AAd,AAV]at hc;obtain⟨tr,h1,h2,h3⟩:=EF r (i+1) _ _ h;exact⟨(_,Cj o.dst)::tr,⟨rfl,λhd=>hc.resolve_left (by simp[hd]),.inr ⟨hg,rfl⟩,h1⟩,by simp[h2],h3⟩
   ·cases h
  cases hgd:o.guard with
  |none=>
   rw[hgd]at h;exact exec (by unfold Bi;rw[hgd]) h
  |some p=>
   obtain⟨j,want⟩:=p;rw[hgd]at h;dsimp only at h;cases ht:(g.ops[j]?).bind (·.dst)with
   |none=>grind
   |some t=>
    rw[ht]at h;dsimp only at h;have gd:∀(c:Bool),s.slot t=.v false [.sc .bool c]->Bi g.ops o s (c==want):=λc hc=>by unfold Bi;grind
    split at h
    ·rename_i hs;exact skip (by unfold Bi;grind) h
    ·rename_i c hs;cases want with
     |true=>
      dsimp only at h;cases c with
      |true=>
       have uS:s.AG (.slot t (H3 true))=s:=B8 hs;grind
      |false=>
       have uS:s.AG (.slot t (H3 false))=s:=B8 hs;grind
     |false=>
      dsimp only at h;cases c with
      |true=>
       have uS:s.AG (.slot t (H3 true))=s:=B8 hs;grind
      |false=>
       have uS:s.AG (.slot t (H3 false))=s:=B8 hs;grind
    ·cases h
end Go.Ev
namespace Go.Ev
theorem G8:∀(os:List Oper)(acc:Is)(i:Nat),i<acc.length->nth 0 (Eh os acc) i=nth 0 acc i
 | [],acc,i,h=>rfl
 |o::os,acc,i,h=>by
  simp only[Eh];rw[G8 os _ i ADJ,Ad,Ad,AA9 h]
theorem HY(acc:Is)(j:Nat):∀(es:List Edge),(es.foldr (λe m=>if Region.binds .any e then Nat.lor (2 ^ e.on) (Nat.lor (nth 0 acc e.on) m)else m) 0).testBit j=true->∃e∈es,Region.binds .any e=true/\(e.on=j\/(nth 0 acc e.on).testBit j=true)
 | [],h=>ADO
 |e::es,h=>by
  rw[List.foldr_cons]at h;split at h
  ·rename_i hb;rw[AI,AI,CO]at h;simp only[AAd,AAe]at h;rcases h with h|h|h
   ·exact⟨e,OF,hb,.inl h⟩
   ·exact⟨e,OF,hb,.inr h⟩
   ·obtain⟨e',h1,h2⟩:=HY acc j es h;exact⟨e',AAM _ h1,h2⟩
  ·obtain⟨e',h1,h2⟩:=HY acc j es h;exact⟨e',AAM _ h1,h2⟩
theorem G7(j:Nat):∀(os:List Oper)(acc:Is)(k:Nat)(o:Oper),os[k]?=some o->(nth 0 (Eh os acc) (acc.length+k)).testBit j=true->∃e∈o.after.toList,Region.binds .any e=true/\(e.on=j\/(nth 0 (Eh os acc) e.on).testBit j=true)
 | [],acc,k,o,h,hb=>ADO
 |x::os,acc,k,o,h,hb=>by
  simp only[Eh]at hb ⊢;cases k with
  |zero=>
   simp at h;subst h;rw[AAx,G8 os _ acc.length OF,Ad,ABJ (AAb _)]at hb;simp only[Nat.sub_self,List.getElem?_cons_zero,AA7]at hb;obtain⟨e,h1,h2,h3⟩:=HY acc j _ hb;refine⟨e,h1,h2,h3.imp id λh3=>?_⟩;by_cases uR:e.on<acc.length
   ·rw[G8 os _ e.on ADJ,Ad,AA9 uR,<-Ad];exact h3
   ·rw[Au 0 (AAy uR)]at h3;simp at h3
  |succ k=>
   refine G7 j os _ k o ADQ ?_;rw[ABA,List.length_singleton,show acc.length+1+k=acc.length+(k+1) by omega];exact hb
theorem CX:∀(os:List Oper)(i:Nat),Dr i os=true->∀(k:Nat)(o:Oper),os[k]?=some o->∀e∈o.after.toList,Region.binds .any e=true->e.on<i+k
 | [],i,h,k,o,ho=>by simp at ho
 |x::os,i,h,k,o,ho=>by
  simp only[Dr,AAJ]at h;cases k with
  |zero=>
   simp at ho;subst ho;intro e he hb;have:=AAW.1 h.1 e he;simpa[hb]using this
  |succ k=>
   intro e he hb;have:=CX os (i+1) h.2 k o (by simpa using ho) e he hb;omega
theorem HC{ops:Array Oper}(hE:Dr 0 ops.toList=true){A:Nat->Prop}(hA:∀i o,A i->ops[i]?=some o->∀e∈o.after.toList,Region.binds .any e=true->A e.on)(hn:∀i,A i->i<ops.size):
  ∀(i:Nat),A i->∀j,(nth 0 (Eh ops.toList []) i).testBit j=true->A j:=by
 intro i
 induction i using Nat.strongRecOn with
 |_ i ih=>
  intro hi j hj;have uR:=hn i hi;have ho:ops.toList[i]?=some ops[i]:=by simp[uR]
  obtain⟨e,h1,h2,h3⟩:=G7 j ops.toList [] i ops[i] ho ADW;have hon:=CX ops.toList 0 hE i ops[i] ho e h1 h2;have hAe:=hA i ops[i] hi (by simp[uR]) e h1 h2;rcases h3 with h3|h3
  ·rw[<-h3];exact hAe
  ·exact ih e.on J hAe j h3
theorem Ij{ops:Array Oper}(hE:Dr 0 ops.toList=true){A:Nat->Prop}(hA:∀i o,A i->ops[i]?=some o->∀e∈o.after.toList,Region.binds .any e=true->A e.on)(hn:∀i,A i->i<ops.size)
  {i:Nat} {o:Oper} (ho:ops[i]?=some o) (hi:∀e∈o.after.toList,Region.binds .any e=true->A e.on) (j:Nat) (hj:(nth 0 (Eh ops.toList []) i).testBit j=true):A j:=by
 have wb:ops.toList[i]?=some o:=by simpa using ho
 obtain⟨e,h1,h2,h3⟩:=G7 j ops.toList [] i o wb ADW;rcases h3 with h3|h3
 ·rw[<-h3];exact hi e h1 h2
 ·exact HC hE hA hn e.on (hi e h1 h2) j h3
section
variable {P:Program}{E:Ck}{s:St}{W:Wd}{a:Act}{cx:Cx}{g:Rg}{bs:Is}{Q:Exit->Act->World->Prop}
theorem Im{tm:Array Value}(h:AW E s tm W){ops:Array Oper}{o:Oper}{b:Bool}(hg:Bi ops o s b):Region.wanted o (yielded ops tm)=b:=by
 unfold Bi at hg;unfold Region.wanted;cases hq:o.guard with
 |none=>rw[hq]at hg;exact hg.symm
 |some p=>
  obtain⟨j,want⟩:=p;rw[hq]at hg;dsimp only at hg ⊢;obtain⟨t,ht,hs⟩:=hg;have wE:=h.AM t;unfold yielded;rw[ht];dsimp only[Option.bind_some];rcases hs with⟨hs,rfl⟩|⟨c,hs,rfl⟩
  ·rw[hs]at wE;have wE:tm.getD t Go.undef=Go.undef:=wE;cases hx:tm[t]? with
   |none=>rfl
   |some x=>
    have:x=Go.undef:=by rw[<-wE];simp[AAi,hx]
    subst this;rfl
  ·rw[hs]at wE;have wE:tm.getD t Go.undef=.bool c:=wE.1;cases hx:tm[t]? with
   |none=>rw[AAi,hx]at wE;cases wE
   |some x=>
    have:x=.bool c:=by rw[<-wE];simp[AAi,hx]
    subst this;cases c<;>cases want<;>rfl
theorem Kh(hc:Db P cx)(ue:C8 P E cx.env)(h:AW E s a.tmps W){i:Nat}{o:Oper}{ws:List Wr}(hv:Aj s (g.v0+i))(hd:∀d,o.dst=some d->d<a.tmps.size)(vg:K2 cx g bs i o s ws)
  {K:Act->World->Prop} (hK:∀a' W',a'.defers=a.defers->AW E (s.app ws) a'.tmps W'->K a' W'.w) (ho:g.ops[i]?=some o):wpOp P g.ops Q i K a W.w:=by
 unfold wpOp;rw[ho];dsimp only;rcases vg with⟨hg,hl,_⟩|⟨hg,rfl⟩
 ·rw[Im h hg,AAP rfl];exact .inl (MT hc ue h hv hd hl K Q λa' W' h1 h2=>hK a' W' h1 h2)
 ·rw[Im h hg,AAQ OF];cases vK:o.dst with
  |none=>exact hK a W rfl (by simp only[Cj,vK];exact h)
  |some d=>
   refine hK _ W rfl ?_;simp only[Cj,vK];exact h.slot d (show BO s W (one .undef) Go.undef from rfl)
def pA(v0:Nat)(A:Nat->Prop)(n:Nat):Prop:=n<v0\/∃j,A j/\n=v0+j
theorem IM{i:Nat}{o:Oper}{ws:List Wr}(vg:K2 cx g bs i o s ws){A:Nat->Prop}(hA:∀j,(nth 0 bs i).testBit j=true->A j):∀w∈ws,∀n∈w.AF,pA g.v0 (λj=>A j\/j=i) n:=by
 intro w hw n hn;rcases vg with⟨_,_,vH⟩|⟨_,rfl⟩
 ·have h1:=AAW.1 vH w hw;rw[AAJ]at h1;have h2:=AAW.1 h1.2 n hn;simp only[AAd,AAe,AAT,AAJ]at h2;rcases h2 with(h2|h2)|⟨h2,h3⟩
  ·exact .inl h2
  ·exact .inr ⟨i,.inr rfl,h2⟩
  ·exact .inr ⟨n-g.v0,.inl (hA _ h3),J⟩
 ·cases vK:o.dst with
  |none=>rw[vK]at hw;cases hw
  |some d=>
   rw[vK]at hw;have:w=.slot d (one .undef):=by simpa[Cj]using hw
   subst this;simp[Wr.AF,one,AV.AF,LA.AF]at hn
theorem Md(hc:Db P cx)(ue:C8 P E cx.env)(h1:1<g.v0)(hb:∀i j,i<g.ops.size->(nth 0 bs i).testBit j=true->j<i):∀(r:List Oper)(i:Nat) (lg:List (Nat×Nat)) (s:St) (tr:List (Nat×List Wr)) (a:Act) (W:Wd),Trace cx g bs i r lg s tr->
  (∀(k:Nat)(o:Oper),r[k]?=some o->g.ops[i+k]?=some o)->AW E s a.tmps W->BK s (pA g.v0 (· < i))->(∀o∈r,∀d,o.dst=some d->d<s.sl.length)->
  (∀a' W',a'.defers=a.defers->AW E (AJ (λ_=>true) i tr s) a'.tmps W'->BK (AJ (λ_=>true) i tr s) (pA g.v0 (· < i+r.length))->Q .normal a' W'.w)->wpOps P g.ops Q (List.range' i r.length) a W.w
 | [],i,lg,s,[],a,W,ht,hr,uP,uT,hd,hK=>hK a W rfl uP uT
 | [],i,lg,s,_::_,a,W,ht,hr,uP,uT,hd,hK=>ht.elim
 |_::_,i,lg,s,[],a,W,ht,hr,uP,uT,hd,hK=>ht.elim
 |o::r,i,lg,s,(rm,ws)::tr,a,W,ht,hr,uP,uT,hd,hK=>by
  obtain⟨zr,_,vg,ht⟩:=ht;have ho:g.ops[i]?=some o:=by have:=hr 0 o rfl;simpa using this
  have uR:i<g.ops.size:=(AAz.1 ho).1;rw[ABD,List.range'_succ,wpOps_cons];have hnv:Aj s (g.v0+i):=uT.Hl (by rintro (hh|⟨j,hj,e⟩)<;>omega) J;refine Kh hc ue uP hnv (λd vK=>by rw[<-uP.DS];exact hd o OF d vK) vg (λa' W' hdef hrep'=>?_) ho;refine Md hc ue h1 hb r (i+1) _ _ tr a' W' ht (λk o hk=>by rw[show i+1+k=i+(k+1) by omega];exact hr (k+1) o (by simpa using hk)) hrep' ?_ ?_ ?_
  ·refine(uT.mono ?_).app (λw hw n hn=>?_)
   ·rintro n (hn|⟨j,hj,e⟩)
    ·exact .inl hn
    ·exact .inr ⟨j,J,e⟩
   ·rcases IM vg (A:=(· < i)) (λj hj=>hb i j uR hj) w hw n hn with hn|⟨j,hj,e⟩
    ·exact .inl hn
    ·exact .inr ⟨j,J,e⟩
  ·intro o' wb d vK;rw[(Bv ws s).1];exact hd o' (AAM _ wb) d vK
  ·intro a2 W2 hdef2 zH hver2;refine hK a2 W2 (hdef2.trans hdef) zH (hver2.mono ?_)
   rintro n (hn|⟨j,hj,e⟩)
   ·exact .inl hn
   ·exact .inr ⟨j,ADJ,e⟩
end
end Go.Ev
namespace Go.Ev
theorem F1(b rm wm:Nat):∀(lg:List (Nat×Nat)) (j:Nat),indep b rm wm j lg=true->∀(k:Nat)(r w:Nat),lg[k]?=some (r,w)->b.testBit (j+k)=true\/(B4 w (Nat.lor rm wm)/\B4 r wm)
 | [],j,h,k,r,w,hk=>by simp at hk
 |(r0,w0)::lg,j,h,k,r,w,hk=>by
  simp only[indep,AAJ,AAd]at h;cases k with
  |zero=>
   simp at hk;obtain⟨rfl,rfl⟩:=hk;exact h.1.imp id λhh=>⟨Gz hh.1,Gz hh.2⟩
  |succ k=>
   have:=F1 b rm wm lg (j+1) h.2 k r w (by simpa using hk);grind
section
variable {cx:Cx}{g:Rg}{bs:Is}
theorem H8:∀(r:List Oper)(i:Nat) (lg:List (Nat×Nat)) (s:St) (tr:List (Nat×List Wr)),Trace cx g bs i r lg s tr->∀(k:Nat)(o:Oper)(rm:Nat)(ws:List Wr),r[k]?=some o->tr[k]?=some (rm,ws)->
  rm=Ax g.ops o (AJ (λj=>decide (j<i+k)) i tr s)/\K2 cx g bs (i+k) o (AJ (λj=>decide (j<i+k)) i tr s) ws/\(g.draw=true->indep (nth 0 bs (i+k)) rm (AD ws) 0 (lg++(tr.take k).map λx=>(x.1,AD x.2))=true)
 | [],i,lg,s,tr,ht,k,o,rm,ws,h1,h2=>by simp at h1
 |o0::r,i,lg,s,[],ht,k,o,rm,ws,h1,h2=>by simp at h2
 |o0::r,i,lg,s,(rm0,ws0)::tr,ht,k,o,rm,ws,h1,h2=>by
  obtain⟨zr,uO,vg,ht⟩:=ht
  have none:∀(tr:List (Nat×List Wr)) (i j:Nat) (s:St),j<=i->AJ (λq=>decide (q<j)) i tr s=s:=by
   intro tr
   induction tr with
   |nil=>intro i j s h;rfl
   |cons x tr ih=>
    intro i j s h;simp only[AJ];rw[show decide (i<j)=false by simp;omega];exact ih (i+1) j s J
  cases k with
  |zero=>
   simp at h1 h2;obtain⟨rfl,rfl⟩:=h2;subst h1;rw[AAx,none _ _ _ _ (AAb _)];grind
  |succ k=>
   obtain⟨q1,q2,q3⟩:=H8 r (i+1) _ _ tr ht k o rm ws ADh ADj
   have e:AJ (λj=>decide (j<i+(k+1))) i ((rm0,ws0)::tr) s=AJ (λj=>decide (j<i+1+k)) (i+1) tr (s.app ws0):=by simp only[AJ];rw[show decide (i<i+(k+1))=true from decide_eq_true J,show i+(k+1)=i+1+k by omega];rfl
   grind
theorem G4(A:Nat->Bool):∀(tr:List (Nat×List Wr)) (i:Nat) (s:St),(AJ A i tr s).sl.length=s.sl.length/\(AJ A i tr s).ro.length=s.ro.length
 | [],i,s=>⟨rfl,rfl⟩
 |x::tr,i,s=>by
  simp only[AJ];obtain⟨h1,h2⟩:=G4 A tr (i+1) (bif A i then s.app x.2 else s);cases hA:A i with
  |true=>rw[hA]at h1 h2;exact⟨h1.trans (Bv _ _).1,h2.trans (Bv _ _).2⟩
  |false=>grind
theorem GN{A B:Nat->Bool}{t:Nat}:∀(tr:List (Nat×List Wr)) (i:Nat) (s s':St),s'.sl.length=s.sl.length->s'.slot t=s.slot t->(∀k x,tr[k]?=some x->(AD x.2).testBit (2*t)=true->B (i+k)=A (i+k))->
  (AJ B i tr s').slot t=(AJ A i tr s).slot t
 | [],i,s,s',hl,h,hA=>h
 |x::tr,i,s,s',hl,h,hA=>by
  simp only[AJ];refine GN tr (i+1) _ _ ?_ ?_ λk y hk hy=>by rw[show i+1+k=i+(k+1) by omega];exact hA (k+1) y No hy
  ·cases A i<;>cases B i<;>simp[Bv,hl]
  ·by_cases hm:(AD x.2).testBit (2*t)=true
   ·have:=hA 0 x rfl hm;rw[AAx]at this;rw[this];cases A i with
    |true=>exact Eo hl h
    |false=>exact h
   ·have hm:(AD x.2).testBit (2*t)=false:=ADV
    have e1:∀b:Bool,(bif b then s'.app x.2 else s').slot t=s'.slot t:=λb=>by cases b;rfl;exact DO hm
    have e2:∀b:Bool,(bif b then s.app x.2 else s).slot t=s.slot t:=λb=>by cases b;rfl;exact DO hm
    rw[e1,e2];exact h
theorem GM{A B:Nat->Bool}{t:Nat}:∀(tr:List (Nat×List Wr)) (i:Nat) (s s':St),s'.ro.length=s.ro.length->s'.root t=s.root t->(∀k x,tr[k]?=some x->(AD x.2).testBit (4*t+3)=true->B (i+k)=A (i+k))->
  (AJ B i tr s').root t=(AJ A i tr s).root t
 | [],i,s,s',hl,h,hA=>h
 |x::tr,i,s,s',hl,h,hA=>by
  simp only[AJ];refine GM tr (i+1) _ _ ?_ ?_ λk y hk hy=>by rw[show i+1+k=i+(k+1) by omega];exact hA (k+1) y No hy
  ·cases A i<;>cases B i<;>simp[Bv,hl]
  ·by_cases hm:(AD x.2).testBit (4*t+3)=true
   ·have:=hA 0 x rfl hm;rw[AAx]at this;rw[this];cases A i with
    |true=>exact En hl h
    |false=>exact h
   ·have hm:(AD x.2).testBit (4*t+3)=false:=ADV
    have e1:∀b:Bool,(bif b then s'.app x.2 else s').root t=s'.root t:=λb=>by cases b;rfl;exact DN hm
    have e2:∀b:Bool,(bif b then s.app x.2 else s).root t=s.root t:=λb=>by cases b;rfl;exact DN hm
    rw[e1,e2];exact h
theorem Jv(x:Bz)(j:Nat)(a:LA):({ x with ls:=DL x.ls j a }:Bz).norm={ x.norm with ls:=x.norm.ls.set j a.norm }:=by unfold Bz.norm;simp only[CH,List.map_set]
theorem G0{s:St}{w:Wr}{r:Nat}(h:w.mask.testBit (4*r+1)=false):((s.AG w).root r).norm=(s.root r).norm:=by
 cases w with
 |slot u a=>rfl
 |root q x=>
  simp only[Wr.mask,AI,Gh,E6,AAj,AAn]at h;rw[Ap,AAQ (λhh=>h.1 (by rw[hh.1]))]
 |leaf q j a=>
  simp only[Wr.mask,AI,Gh,E6,AAj,AAn]at h
  have e:(s.AG (.leaf q j a)).root r=s.root r:=by show nth dead (DL s.ro q _) r=_;rw[BW,AAQ (λhh=>h.1 (by rw[hh.1]))];rfl
  rw[e]
theorem DM{r:Nat}:∀ {ws:List Wr} {s:St},(AD ws).testBit (4*r+1)=false->((s.app ws).root r).norm=(s.root r).norm
 | [],s,h=>rfl
 |w::ws,s,h=>by rw[BI,AAj]at h;exact(DM h.2).trans (G0 h.1)
theorem Em{r:Nat}:∀ {ws:List Wr} {s s':St},s'.ro.length=s.ro.length->(s'.root r).norm=(s.root r).norm->((s'.app ws).root r).norm=((s.app ws).root r).norm
 | [],s,s',hl,h=>h
 |w::ws,s,s',hl,h=>by
  show(((s'.AG w).app ws).root r).norm=(((s.AG w).app ws).root r).norm;refine Em ((Bq s' w).2.trans (hl.trans (Bq s w).2.symm)) ?_;cases w with
  |slot u a=>exact h
  |root q x=>
   rw[Ap,Ap,hl];grind
  |leaf q j a=>
   have e:∀s:St,(s.AG (.leaf q j a)).root r=if q=r/\q<s.ro.length then { s.root q with ls:=DL (s.root q).ls j a }else s.root r:=λs=>BW _ _ _ _ _
   rw[e,e,hl];split
   ·rename_i hq;obtain⟨rfl,_⟩:=hq;rw[Jv,Jv,h]
   ·exact h
theorem GK{A B:Nat->Bool}{t:Nat}:∀(tr:List (Nat×List Wr)) (i:Nat) (s s':St),s'.ro.length=s.ro.length->(s'.root t).norm=(s.root t).norm->(∀k x,tr[k]?=some x->(AD x.2).testBit (4*t+1)=true->B (i+k)=A (i+k))->
  ((AJ B i tr s').root t).norm=((AJ A i tr s).root t).norm
 | [],i,s,s',hl,h,hA=>h
 |x::tr,i,s,s',hl,h,hA=>by
  simp only[AJ];refine GK tr (i+1) _ _ ?_ ?_ λk y hk hy=>by rw[show i+1+k=i+(k+1) by omega];exact hA (k+1) y No hy
  ·cases A i<;>cases B i<;>simp[Bv,hl]
  ·by_cases hm:(AD x.2).testBit (4*t+1)=true
   ·have:=hA 0 x rfl hm;rw[AAx]at this;rw[this];cases A i with
    |true=>exact Em hl h
    |false=>exact h
   ·have hm:(AD x.2).testBit (4*t+1)=false:=ADV
    have e1:∀b:Bool,((bif b then s'.app x.2 else s').root t).norm=(s'.root t).norm:=λb=>by cases b;rfl;exact DM hm
    have e2:∀b:Bool,((bif b then s.app x.2 else s).root t).norm=(s.root t).norm:=λb=>by cases b;rfl;exact DM hm
    rw[e1,e2];exact h
theorem GL{A:Nat->Bool}{ws:List Wr}:∀(tr:List (Nat×List Wr)) (i:Nat) (s:St),(∀k x,tr[k]?=some x->A (i+k)=true->B4 (AD ws) (AD x.2))->AJ A i tr (s.app ws)=(AJ A i tr s).app ws
 | [],i,s,h=>rfl
 |x::tr,i,s,h=>by
  simp only[AJ];have ih:∀s,AJ A (i+1) tr (s.app ws)=(AJ A (i+1) tr s).app ws:=λs=>GL tr (i+1) s λk y hk hy=>h (k+1) y No No;cases hA:A i with
  |false=>exact ih s
  |true=>
   dsimp only[cond_true];rw[<-ih,JT (h 0 x rfl J)]
theorem Dk{A B:Nat->Bool}:∀(tr:List (Nat×List Wr)) (i:Nat) (s:St),(∀k,k<tr.length->A (i+k)=B (i+k))->AJ A i tr s=AJ B i tr s
 | [],i,s,h=>rfl
 |x::tr,i,s,h=>by
  simp only[AJ];have h0:=h 0 OF;rw[AAx]at h0;rw[h0];exact Dk tr (i+1) _ λk hk=>by rw[show i+1+k=i+(k+1) by omega];exact h (k+1) ADJ
theorem GJ{A B:Nat->Bool}{n:Nat}{rm:Nat}{ws:List Wr}:∀(tr:List (Nat×List Wr)) (i:Nat) (s:St),tr[n]?=some (rm,ws)->A (i+n)=false->B (i+n)=true->(∀k,k≠n->B (i+k)=A (i+k))->
  (∀k x,n<k->tr[k]?=some x->A (i+k)=true->B4 (AD ws) (AD x.2))->AJ B i tr s=(AJ A i tr s).app ws
 | [],i,s,hn,hA,hB,uS,zZ=>by simp at hn
 |x::tr,i,s,hn,hA,hB,uS,zZ=>by
  simp only[AJ];cases n with
  |zero=>
   simp at hn;subst hn;rw[AAx]at hA hB;rw[hA,hB];dsimp only[cond_true,cond_false];rw[Dk (A:=B) (B:=A) tr (i+1) _ λk hk=>by rw[show i+1+k=i+(k+1) by omega];exact uS (k+1) J];exact GL tr (i+1) s λk y hk hy=>zZ (k+1) y J No No
  |succ n=>
   have h0:=uS 0 J;rw[AAx]at h0;rw[h0]
   exact GJ tr (i+1) _ (by simpa using hn) No No
    (λk hk=>by rw[show i+1+k=i+(k+1) by omega];exact uS (k+1) J) (λk y hk hy hA=>zZ (k+1) y J No No)
end
section
variable {P:Program}{E:Ck}{cx:Cx}{g:Rg}{Q:Exit->Act->World->Prop}
theorem Hc{ops:Array Oper}{o:Oper}{s s':St}{b:Bool}(h:∀j want t,o.guard=some (j,want)->(ops[j]?).bind (·.dst)=some t->s'.slot t=s.slot t)(hg:Bi ops o s b):Bi ops o s' b:=by unfold Bi at hg ⊢;grind
theorem Ng(hc:Db P cx)(ue:C8 P E cx.env)(h1:1<g.v0)(hE:Dr 0 g.ops.toList=true)(AAA:g.draw=true){s:St}{tr:List (Nat×List Wr)}(ht:Trace cx g (Eh g.ops.toList []) 0 g.ops.toList [] s tr)(hlen:tr.length=g.ops.size)
  (uT:BK s (· < g.v0)) (hd:∀o∈g.ops.toList,∀d,o.dst=some d->d<s.sl.length) {df:List Deferred}
  (hK:∀a' W',a'.defers=df->AW E (AJ (λ_=>true) 0 tr s) a'.tmps W'->BK (AJ (λ_=>true) 0 tr s) (pA g.v0 (· < g.ops.size))->Q .normal a' W'.w):
  ∀(fuel:Nat)(listed:Array Bool)(a:Act)(W:Wd),listed.size=g.ops.size->listed.toList.count false=fuel->a.defers=df->AW E (AJ (λi=>listed.getD i false) 0 tr s) a.tmps W->
   BK (AJ (λi=>listed.getD i false) 0 tr s) (pA g.v0 λi=>listed.getD i false=true)->
   (∀i o,listed.getD i false=true->g.ops[i]?=some o->∀e∈o.after.toList,Region.binds .any e=true->listed.getD e.on false=true)->wpAny P .any g.ops Q fuel listed a W.w:=by
 intro fuel
 have vY:∀(listed:Array Bool),listed.size=g.ops.size->(∀i,i<g.ops.size->listed.getD i false=true)->AJ (λi=>listed.getD i false) 0 tr s=AJ (λ_=>true) 0 tr s:=λlisted hs h=>
  Dk tr 0 s λk hk=>No
 have hrdy:∀(listed:Array Bool)(i:Nat),i∈Region.ready .any g.ops listed->listed.size=g.ops.size->i<g.ops.size/\listed.getD i false=false/\∃o,g.ops[i]?=some o/\∀e∈o.after.toList,Region.binds .any e=true->listed.getD e.on false=true:=by
  intro listed i hi hs;obtain⟨hi1,hi2⟩:=List.mem_filter.1 hi;have uR:i<g.ops.size:=AAX.1 hi1;rw[AAJ]at hi2;refine⟨uR,?_,g.ops[i],by simp[uR],?_⟩
  ·grind
  ·intro e he hb;have h2:=hi2.2;rw[AAg uR]at h2;simp only[AA0,AA7]at h2;have h3:=Array.all_eq_true'.1 h2 e ADg;grind
 induction fuel with
 |zero=>
  intro listed a W hs xL hdf uP hv zd
  have yO:∀i,i<g.ops.size->listed.getD i false=true:=by
   intro i hi;have hl:i<listed.size:=J
   have uV:false∉listed.toList:=List.count_eq_zero.1 xL;rw[AAi,AAg hl,AA7];cases hq:listed[i]with
   |true=>rfl
   |false=>exact absurd (by rw[<-hq];exact Array.getElem_mem_toList hl) uV
  refine⟨?_,?_⟩
  ·rw[List.eq_nil_iff_forall_not_mem];intro i hi;obtain⟨q1,q2,_⟩:=hrdy listed i hi hs;rw[yO i q1]at q2;cases q2
  grind
 |succ fuel ih=>
  intro listed a W hs xL hdf uP hv zd
  have hAn:∀i,listed.getD i false=true->i<g.ops.size:=by
   intro i hi;rw[<-hs];rcases AAq i listed.size with h|h
   ·exact h
   ·grind
  refine⟨λhemp=>?_,λi hi=>?_⟩
  ·exfalso
   have hex:∃i,i<g.ops.size/\listed.getD i false=false:=by
    have:false∈listed.toList:=by refine AAl λhn=>?_;rw[List.count_eq_zero.2 hn]at xL;cases xL
    obtain⟨i,hi,he⟩:=List.mem_iff_getElem.1 this;have vw:i<listed.size:=ADR
    refine⟨i,J,?_⟩;rw[AAi,AAg vw,AA7];simpa using he
   have hmin:∀n i,i<=n->i<g.ops.size->listed.getD i false=false->∃j,j∈Region.ready .any g.ops listed:=by
    intro n
    induction n using Nat.strongRecOn with
    |_ n ihn=>
     intro i uO hi hli;by_cases hp:∀e∈(g.ops[i]).after.toList,Region.binds .any e=true->listed.getD e.on false=true
     ·refine⟨i,List.mem_filter.2 ⟨AAX.2 hi,?_⟩⟩;have hl:i<listed.size:=J
      rw[AAJ];refine⟨?_,?_⟩
      ·simp only[AAi,AAg hl,AA7]at hli ⊢;simp[hli]
      ·rw[AAg hi];simp only[AA0,AA7];refine Array.all_eq_true'.2 λe he=>?_;cases hb:Region.binds .any e with
       |false=>rfl
       |true=>simpa using hp e ADg hb
     ·have:∃e∈(g.ops[i]).after.toList,Region.binds .any e=true/\listed.getD e.on false=false:=by
       refine AAl λhn=>hp λe he hb=>?_;cases hq:listed.getD e.on false with
       |true=>rfl
       |false=>exact absurd ⟨e,he,hb,hq⟩ hn
      obtain⟨e,he,hb,hle⟩:=this;have hon:=CX g.ops.toList 0 hE i g.ops[i] (by simp[hi]) e he hb;exact ihn e.on J e.on (AAb _) J hle
   obtain⟨i,hi,hli⟩:=hex;obtain⟨j,hj⟩:=hmin i i (AAb _) hi hli;grind
  ·obtain⟨uR,wa,o,ho,zo⟩:=hrdy listed i hi hs;have hol:g.ops.toList[i]?=some o:=by simpa using ho
   obtain⟨⟨rm,ws⟩,htr⟩:∃x,tr[i]?=some x:=⟨tr[i]'(by omega),AAI J⟩;obtain⟨t1,t2,t3⟩:=H8 g.ops.toList 0 [] s tr ht i o rm ws hol htr;simp only[AAa,AAv]at t1 t2 t3;have t3:=t3 AAA;have E6:∀j,(nth 0 (Eh g.ops.toList []) i).testBit j=true->listed.getD j false=true:=Ij hE zd hAn ho zo
   have y7:∀k x,i<k->tr[k]?=some x->listed.getD k false=true->B4 (AD ws) (Nat.lor x.1 (AD x.2))/\B4 rm (AD x.2):=by intro k x hk hx vc;obtain⟨ok,vH⟩:∃o,g.ops.toList[k]?=some o:=⟨_,AAI No⟩;obtain⟨rmk,wsk⟩:=x;obtain⟨_,_,k3⟩:=H8 g.ops.toList 0 [] s tr ht k ok rmk wsk vH hx;simp only[AAa,AAv]at k3;have:=F1 _ _ _ _ 0 (k3 AAA) i rm (AD ws) No;rw[AAa]at this;refine this.resolve_left λhb=>?_;have:=HC hE (A:=λi=>listed.getD i false=true) zd hAn k vc i hb;rw[wa]at this;cases this
   have hearly:∀k x,k<i->tr[k]?=some x->listed.getD k false=false->B4 (AD x.2) (Nat.lor rm (AD ws)):=by
    intro k x hk hx vc;have:=F1 _ _ _ _ 0 t3 k x.1 (AD x.2) No;rw[AAa]at this;rcases this with hb|hb
    ·grind
    ·exact hb.1
   have wR:NQ rm (AJ (λj=>decide (j<i)) 0 tr s) (AJ (λi=>listed.getD i false) 0 tr s):=by
    have key:∀(b:Nat),rm.testBit b=true->∀k x,tr[k]?=some x->(AD x.2).testBit b=true->listed.getD (0+k) false=decide (0+k<i):=by
     intro b hb k x hx hw;rw[AAa];rcases Nat.lt_trichotomy k i with hk|hk|hk
     ·cases hl:listed.getD k false with
      |true=>simp[hk]
      |false=>
       have:=hearly k x hk hx hl b hw;rw[AI,hb]at this;simp at this
     ·grind
     ·cases hl:listed.getD k false with
      |false=>simp;omega
      |true=>
       have:=(y7 k x hk hx hl).2 b hb;grind
    exact⟨λt hb=>GN tr 0 s s rfl rfl λk x hx hw=>key _ hb k x hx hw,λt _ hb=>GM tr 0 s s rfl rfl λk x hx hw=>key _ hb k x hx hw,λt hb=>GK tr 0 s s rfl rfl λk x hx hw=>key _ hb k x hx hw⟩
   have AAB:=M0 (cx:=cx) (v:=g.v0+i) (ops:=g.ops) (o:=o) (s:=AJ (λj=>decide (j<i)) 0 tr s) (s':=AJ (λi=>listed.getD i false) 0 tr s) No
   have vg:K2 cx g (Eh g.ops.toList []) i o (AJ (λi=>listed.getD i false) 0 tr s) ws:=by
    rcases t2 with⟨g1,g2,g3⟩|⟨g1,g2⟩
    ·exact .inl ⟨Hc AAB.2 g1,No,g3⟩
    ·exact .inr ⟨Hc AAB.2 g1,g2⟩
   have hnv:Aj (AJ (λi=>listed.getD i false) 0 tr s) (g.v0+i):=hv.Hl (by
    rintro (hh|⟨j,hj,e⟩)
    all_goals grind) J
   have wN:∀k,(listed.setIfInBounds i true).getD k false=(if i=k then true else listed.getD k false):=by
    intro k;simp only[AAi,AAw];by_cases hk:i=k
    ·grind
    ·simp[hk]
   have wL:AJ (λk=>(listed.setIfInBounds i true).getD k false) 0 tr s=(AJ (λi=>listed.getD i false) 0 tr s).app ws:=by refine GJ tr 0 s htr No No (λk hk=>by grind) λk x hk hx hl=>?_;rw[AAa]at hl;intro b hb;have:=(y7 k x hk hx hl).1 b hb;rw[AI,AAj]at this;exact this.2
   refine Kh hc ue uP hnv (λd vK=>by rw[<-uP.DS,(G4 _ tr 0 s).1];exact hd o (AAN hol) d vK) vg (λa' W' hdef hrep'=>?_) ho;refine ih (listed.setIfInBounds i true) a' W' (by simp[hs]) ?_ (hdef.trans hdf) No ?_ ?_
   ·have vw:i<listed.toList.length:=ADJ
    have hfalse:listed.toList[i]=false:=by
     have hl:i<listed.size:=J
     rw[AAi,AAg hl,AA7]at wa;simpa using wa
    grind
   ·rw[wL];refine(hv.mono ?_).app (λw hw n hn=>?_)
    ·rintro n (hn|⟨j,hj,e⟩)
     ·exact .inl hn
     ·exact .inr ⟨j,by show(listed.setIfInBounds i true).getD j false=true;rw[wN];grind,e⟩
    ·rcases IM vg (A:=λj=>listed.getD j false=true) E6 w hw n hn with hn|⟨j,hj,e⟩
     ·exact .inl hn
     ·refine .inr ⟨j,?_,e⟩;show(listed.setIfInBounds i true).getD j false=true;rw[wN];grind
   ·intro k o' hk wb e he hb;rw[wN]at hk ⊢;split
    ·rfl
    ·by_cases hki:i=k
     all_goals grind
end
end Go.Ev
namespace Go.Ev
def HJ(cx:Cx)(a:LA):Prop:=match a with
 | .ref c=>cx.lock c.r=false
 | .Dy c _ _=>cx.lock c.r=false
 | .Ba c=>cx.lock c.r=false
 | .ptr r _ _=>cx.Eu r=false
 | .Iz _ c=>cx.lock c.r=false
 | .D2 _ ps _=>∃p∈ps,cx.Eu p.1=false
 |_=>False
def Ex(cx:Cx)(a a':LA):Prop:=a'=a\/(a'=.bad/\HJ cx a)
inductive Cs(cx:Cx):AV->AV->Prop
 |same (v):Cs cx v v
 |v (g as xr) (h:xr.length=as.length) (hl:∀(j:Nat)(a:LA),as[j]?=some a->∃a',xr[j]?=some a'/\Ex cx a a'):Cs cx (.v g as) (.v g xr)
 |Da (vs):Cs cx (.Da vs) (one .bad)
 |bx (as):Cs cx (.bx as) (one .bad)
theorem Ex.trans{cx:Cx}{a b c:LA}(h1:Ex cx a b)(h2:Ex cx b c):Ex cx a c:=by
 rcases h1 with rfl|⟨rfl,hd⟩
 ·exact h2
 ·rcases h2 with rfl|⟨rfl,_⟩<;>exact .inr ⟨rfl,hd⟩
theorem Cs.trans{cx:Cx}{a b c:AV}(h1:Cs cx a b)(h2:Cs cx b c):Cs cx a c:=by
 cases h1 with
 |same=>exact h2
 |v g as xr h hl=>
  cases h2 with
  |same=>exact .v g as xr h hl
  |v _ _ as2 h' wB=>
   refine .v g as as2 (h'.trans h) λj a hj=>?_;obtain⟨a',h3,h4⟩:=hl j a hj;obtain⟨a2,h5,h6⟩:=wB j a' h3;exact⟨a2,h5,h4.trans h6⟩
 |Da vs=>
  cases h2 with
  |same=>exact .Da vs
  |v _ _ as2 h' wB=>
   obtain⟨a2,h5,h6⟩:=wB 0 .bad rfl
   have:as2=[.bad]:=by
    match as2,h' with
    | [x],_=>
     simp at h5;subst h5;rcases h6 with rfl|⟨rfl,_⟩<;>rfl
   subst this;exact .Da vs
 |bx as=>
  cases h2 with
  |same=>exact .bx as
  |v _ _ as2 h' wB=>
   obtain⟨a2,h5,h6⟩:=wB 0 .bad rfl
   have:as2=[.bad]:=by
    match as2,h' with
    | [x],_=>
     simp at h5;subst h5;rcases h6 with rfl|⟨rfl,_⟩<;>rfl
   subst this;exact .bx as
structure Am(cx:Cx)(s s':St):Prop where
 AM:∀t,cx.Eu t=true->Cs cx (s.slot t) (s'.slot t)
 roots:∀r,cx.lock r=true->s'.root r=s.root r
 box:∀r,cx.Eu r=true->(s'.root r).box=(s.root r).box/\(s'.root r).AB=(s.root r).AB/\(s'.root r).ls.length=(s.root r).ls.length
 l1:s'.sl.length=s.sl.length
 l2:s'.ro.length=s.ro.length
 Bd:s.Bd<=s'.Bd
theorem Am.refl(cx:Cx)(s:St):Am cx s s:=⟨λt _=>.same _,λ_ _=>rfl,λ_ _=>⟨rfl,rfl,rfl⟩,rfl,rfl,AAb _⟩
theorem Am.trans{cx:Cx}{s s1 s2:St}(h1:Am cx s s1)(h2:Am cx s1 s2):Am cx s s2 where
 AM t ht:=(h1.AM t ht).trans (h2.AM t ht)
 roots r hr:=(h2.roots r hr).trans (h1.roots r hr)
 box r hr:=let ⟨a,b,c⟩:=h1.box r hr;let ⟨a',b',c'⟩:=h2.box r hr;⟨a'.trans a,b'.trans b,c'.trans c⟩
 l1:=h2.l1.trans h1.l1
 l2:=h2.l2.trans h1.l2
 Bd:=AA2 h1.Bd h2.Bd
def BU(s:St):Prop:=∀r,∀a∈(s.root r).ls,a.Cg=true
structure Inv(N:Nat)(s:St):Prop where
 AF:BK s (· < s.Bd)
 two:2<=s.Bd
 len:s.sl.length=N
 Bb:s.ro.length=N
 LW:BU s
theorem KL{cx:Cx}{s:St}{dst:Option Nat}{w:Wr}(hd:∀d,dst=some d->cx.Eu d=false)(hw:w.ok cx dst=true):Am cx s (s.AG w) where
 AM t ht:=by
  cases w with
  |slot u a=>
   rw[BH,AAQ]
   ·exact .same _
   ·rintro ⟨rfl,_⟩
    simp only[Wr.ok]at hw;cases hq:dst with
    |none=>rw[hq]at hw;cases hw
    |some d=>
     rw[hq]at hw;have:u=d:=by simpa using hw
     subst this;rw[hd u hq]at ht;cases ht
  |root r x=>exact .same _
  |leaf r j a=>exact .same _
 roots r hr:=by
  cases w with
  |slot u a=>rfl
  |root q x=>
   simp only[Wr.ok,AAJ,AAV]at hw;rw[Ap,AAQ]
   rintro ⟨rfl,_⟩
   rw[hr]at hw;exact absurd hw.1.1 OF
  |leaf q j a=>
   simp only[Wr.ok,AAJ,AAV]at hw;have uV:q≠r:=λe=>by subst e;rw[hr]at hw;exact absurd hw.1 OF
   refine Bc ?_;simp only[Wr.mask,AI,Gh,E6,AAj,AAn];omega
 box r hr:=by
  cases w with
  |slot u a=>exact⟨rfl,rfl,rfl⟩
  |root q x=>
   simp only[Wr.ok,AAJ]at hw;rw[Ap,AAQ]
   ·exact⟨rfl,rfl,rfl⟩
   ·rintro ⟨rfl,_⟩
    cases hq:dst with
    |none=>rw[hq]at hw;exact absurd hw.2 OF
    |some d=>
     rw[hq]at hw;have:q=d:=by simpa using hw.2
     subst this;rw[hd q hq]at hr;cases hr
  |leaf q j a=>exact(BY s q j a).box r
 l1:=(Bq s w).1
 l2:=(Bq s w).2
 Bd:=by cases w<;>exact AAb _
theorem IW{cx:Cx}{dst:Option Nat}(hd:∀d,dst=some d->cx.Eu d=false):∀ {ws:List Wr} {s:St},(∀w∈ws,w.ok cx dst=true)->Am cx s (s.app ws)
 | [],s,h=>Am.refl cx s
 |w::ws,s,h=>(KL hd (h w OF)).trans (IW (ws:=ws) (s:=s.AG w) hd λx hx=>h x (AAM _ hx))
theorem Ma{cx:Cx}{s:St}{dst:Option Nat}{w:Wr}(h:BU s)(hw:w.ok cx dst=true):BU (s.AG w):=by
 intro r a ha;cases w with
 |slot u b=>exact h r a ha
 |root q x=>
  simp only[Wr.ok,AAJ]at hw;rw[Ap]at ha;split at ha
  ·exact AAW.1 hw.1.2 a ha
  ·exact h r a ha
 |leaf q j b=>
  simp only[Wr.ok,AAJ]at hw;have vA:(s.AG (.leaf q j b)).root r=if q=r/\q<s.ro.length then { s.root q with ls:=DL (s.root q).ls j b }else s.root r:=BW _ _ _ _ _
  rw[vA]at ha;split at ha
  ·have ha:a∈DL (s.root q).ls j b:=ha;rw[CH]at ha;rcases List.mem_or_eq_of_mem_set ha with ha|ha
   ·exact h q a ha
   ·rw[ha];exact hw.2
  ·exact h r a ha
theorem Kp{cx:Cx}{dst:Option Nat}:∀ {ws:List Wr} {s:St},BU s->(∀w∈ws,w.ok cx dst=true)->BU (s.app ws)
 | [],s,h,hw=>h
 |w::ws,s,h,hw=>Kp (ws:=ws) (s:=s.AG w) (Ma h (hw w OF)) λx hx=>hw x (AAM _ hx)
theorem My{cx:Cx}{g:Rg}{bs:Is}{i:Nat}{o:Oper}{s:St}{ws:List Wr}(h:K2 cx g bs i o s ws):∀w∈ws,w.ok cx o.dst=true:=by
 intro w hw;rcases h with⟨_,_,h⟩|⟨_,rfl⟩
 ·have:=AAW.1 h w hw;rw[AAJ]at this;exact this.1
 ·cases hd:o.dst with
  |none=>rw[hd]at hw;cases hw
  |some d=>
   rw[hd]at hw;have:w=.slot d (one .undef):=by simpa[Cj]using hw
   subst this;simp[Wr.ok]
theorem GW{cx:Cx}{g:Rg}{bs:Is}:∀(r:List Oper)(i:Nat) (lg:List (Nat×Nat)) (s:St) (tr:List (Nat×List Wr)),Trace cx g bs i r lg s tr->(∀o∈r,∀d,o.dst=some d->cx.Eu d=false)->BU s->
  Am cx s (AJ (λ_=>true) i tr s)/\BU (AJ (λ_=>true) i tr s)
 | [],i,lg,s,[],ht,hd,hr=>⟨Am.refl cx s,hr⟩
 | [],i,lg,s,_::_,ht,hd,hr=>ht.elim
 |_::_,i,lg,s,[],ht,hd,hr=>ht.elim
 |o::r,i,lg,s,(rm,ws)::tr,ht,hd,hr=>by obtain⟨_,_,vg,ht⟩:=ht;have vH:=My vg;obtain⟨h1,h2⟩:=GW r (i+1) _ (s.app ws) tr ht (λo ho=>hd o (AAM _ ho)) (Kp hr vH);exact⟨(IW (hd o OF) vH).trans h1,h2⟩
end Go.Ev
namespace Go.Ev
section
variable {E:Ck}{s:St}{W:Wd}{tm:Array Value}{β:Type}{t:β}
theorem Nw{a:AV}{v:Value}(h:BO s W a v):AR s W a.one? v:=by
 cases a with
 |Da vs=>trivial
 |bx as=>trivial
 |v g as=>
  cases g with
  |true=>trivial
  |false=>cases as with
   |nil=>trivial
   |cons b bs=>cases bs with
    |nil=>exact h
    |cons=>trivial
theorem GR(h:AW E s tm W){r j AB gen:Nat}{t0:TypeId}{e:Ls}{xs:List e.D}(hl:s.leaf r j=.arr AB gen t0 e xs 0):W.om (.lf r j)=[]:=by obtain⟨u,_,hr⟩:=(h.roots r).row hl;exact AE.zero hr
theorem J8(h:AW E s tm W){l:L}{la:LA}{v:Value}(hv:AR s W la v)(hs:s.still l la=true){k:l.D->Step β}(hl:(s.datum l la k).leads t):∃x,(k x).leads t/\l.rd 0 W.w W.fz v x []:=by
 cases l with
 |int kk=>obtain⟨x,hl,hr⟩:=Bs h hv hl;exact⟨x,hl,(L.AY _ rfl hr).1⟩
 |bool=>obtain⟨x,hl,hr⟩:=Bs h hv hl;exact⟨x,hl,(L.AY _ rfl hr).1⟩
 |str=>obtain⟨x,hl,hr⟩:=Bs h hv hl;exact⟨x,hl,(L.AY _ rfl hr).1⟩
 |sl t0 e=>
  unfold St.datum at hl;cases la with
  |sc m x=>
   simp only at hl;split at hl
   ·rename_i y hy;obtain⟨q1,q2⟩:=L.AH hy;subst q1;have q2:x=y:=q2;subst q2;exact⟨x,hl,hv⟩
   ·exact hl.elim
  |CA=>exact⟨_,hl,by rw[show v=.slice none 0 0 from hv];exact Bl⟩
  |ref c=>
   simp only[St.still]at hs;split at hs
   ·rename_i AB gen t1 e1 xs hq;obtain⟨t',e',ys,d',o',hl,hr,ho⟩:=DB h hv hl;split at hl
    ·rename_i y hy;obtain⟨q1,q2⟩:=L.AH hy;cases q1;have q2:ys=y:=q2;subst q2;exact⟨ys,hl,hr.freeze λb hb=>hb.elim id λhb=>by have:=ho b hb;rw[GR h hq]at this;cases this⟩
    ·exact hl.elim
   ·cases hs
  |Dy c lo hi=>
   simp only[St.still]at hs;split at hs
   ·rename_i AB gen t1 e1 xs hq;obtain⟨t',e',ys,d',o',hl,hr,ho⟩:=EB h hv hl;split at hl
    ·rename_i y hy;obtain⟨q1,q2⟩:=L.AH hy;cases q1;have q2:sub ys lo hi=y:=q2;subst q2;exact⟨_,hl,hr.freeze λb hb=>hb.elim id λhb=>by have:=ho b hb;rw[GR h hq]at this;cases this⟩
    ·exact hl.elim
   ·cases hs
  |_=>exact hl.elim
def Told(s:St)(W:Wd)(tm:Array Value)(fz:Nat->Prop)(p:VP)(vs:List Lv):Prop:=match p with
 | .slot t l=>t<s.sl.length/\∃x,vs=[⟨l,x⟩]/\l.rd 0 W.w W.fz (tm.getD t Go.undef) x []
 | .own t ty e d k=>t<s.sl.length/\∃xs:List e.D,vs=[⟨.sl ty e,xs⟩]/\(s.root t).box=false/\W.cv t 0=some (tm.getD t Go.undef)/\AE e d W.w W.fz (tm.getD t Go.undef) xs (W.om (.lf t 0))/\(k=true->∃gen t' e' vJ d',s.leaf t 0=.arr 1 gen t' e' vJ d')
 | .box r ls=>(s.root r).box=true/\ls.length=(s.root r).ls.length/\vs.length=(ls.filterMap id).length/\∀(v j:Nat)(y:Value),W.cv r j=some y->match nth .bad (AO v ls vs) j with
  | .arr AB gen t e xs d=>(AB=v\/AB=1/\∃v7 t' e' vJ d',s.leaf r j=.arr 1 v7 t' e' vJ d')/\gen=v/\AE e d W.w W.fz y xs (W.om (.lf r j))
  | .sc l x=>l.rd 0 W.w fz y x []
  | .bad=>True
  |_=>False
theorem Hp(h:AW E s tm W){fz:Nat->Prop}(r:Nat)(wJ:∀b,W.fz b->fz b):∀(ls:List (Option (L×Nat))) (as:List LA) (j:Nat) {k:List Lv->Step β},(∀i b,as[i]?=some b->s.leaf r (j+i)=b)->(∀a∈as,a.Cg=true)->
  (∀(i:Nat)(l:L),ls[i]?=some (some (l,0))->∀b∈W.om (.lf r (j+i)),fz b)->(Df s ls as k).leads t->
  ∃vs,(k vs).leads t/\ls.length=as.length/\vs.length=(ls.filterMap id).length/\∀(v i:Nat)(y:Value),W.cv r (j+i)=some y->match nth .bad (AO v ls vs) i with
   | .arr AB gen t e xs d=>(AB=v\/AB=1/\∃v7 t' e' vJ d',s.leaf r (j+i)=.arr 1 v7 t' e' vJ d')/\gen=v/\AE e d W.w W.fz y xs (W.om (.lf r (j+i)))
   | .sc l x=>l.rd 0 W.w fz y x []
   | .bad=>True
   |_=>False
 | [],[],j,k,hg,uO,hz,hl=>⟨[],hl,rfl,rfl,λv i y hy=>by simp[AO,nth]⟩
 | [],_::_,j,k,hg,uO,hz,hl=>hl.elim
 |none::ls,[],j,k,hg,uO,hz,hl=>hl.elim
 |some _::ls,[],j,k,hg,uO,hz,hl=>hl.elim
 |none::ls,a::as,j,k,hg,uO,hz,hl=>by
  simp only[Df]at hl
  obtain⟨vs,hl,h1,h2,h3⟩:=Hp h r wJ ls as (j+1) (λi b hi=>by have:=hg (i+1) b ADR;grind) (λa ha=>uO a (AAM _ ha))
   (λi l hi b hb=>hz (i+1) l No b No) hl
  refine⟨vs,hl,by simp[h1],No,λv i y hy=>?_⟩;cases i with
  |zero=>simp[AO,nth]
  |succ i=>
   have:=h3 v i y No;rw[show j+1+i=j+(i+1) by omega]at this;exact this
 |some (l,d)::ls,a::as,j,k,hg,uO,hz,hl=>by
  have uM:s.leaf r j=a:=hg 0 a rfl;obtain⟨vr,_⟩:=h.roots r;have vr:Aa s W (s.leaf r j) (W.cv r j) (W.om (.lf r j)):=vr j;rw[uM]at vr
  have fin:∀(x:l.D),(Df s ls as λvs=>k (⟨l,x⟩::vs)).leads t->(∀(v:Nat)(y:Value),W.cv r j=some y->match Bx v d (d==3) ⟨l,x⟩with
     | .arr AB gen t e xs d=>(AB=v\/AB=1/\∃v7 t' e' vJ d',s.leaf r j=.arr 1 v7 t' e' vJ d')/\gen=v/\AE e d W.w W.fz y xs (W.om (.lf r j))
     | .sc l x=>l.rd 0 W.w fz y x []
     | .bad=>True
     |_=>False)->
    ∃vs,(k vs).leads t/\(some (l,d)::ls).length=(a::as).length/\vs.length=((some (l,d)::ls).filterMap id).length/\∀(v i:Nat)(y:Value),W.cv r (j+i)=some y->match nth .bad (AO v (some (l,d)::ls) vs) i with
     | .arr AB gen t e xs d=>(AB=v\/AB=1/\∃v7 t' e' vJ d',s.leaf r (j+i)=.arr 1 v7 t' e' vJ d')/\gen=v/\AE e d W.w W.fz y xs (W.om (.lf r (j+i)))
     | .sc l x=>l.rd 0 W.w fz y x []
     | .bad=>True
     |_=>False:=by
   intro x hl hx
   obtain⟨vs,hl,h1,h2,h3⟩:=Hp h r wJ ls as (j+1) (λi b hi=>by have:=hg (i+1) b ADR;grind) (λa ha=>uO a (AAM _ ha))
    (λi l hi b hb=>hz (i+1) l No b No) hl
   refine⟨⟨l,x⟩::vs,hl,by simp[h1],by simp[h2],λv i y hy=>?_⟩;cases i with
   |zero=>exact hx v y J
   |succ i=>
    have:=h3 v i y No;rw[show j+1+i=j+(i+1) by omega]at this;exact this
  have xF:∀(x:l.D),Bg l=false->(∀y,W.cv r j=some y->l.rd 0 W.w W.fz y x [])->∀(v:Nat)(y:Value),W.cv r j=some y->match Bx v d (d==3) ⟨l,x⟩with
     | .arr AB gen t e xs d=>(AB=v\/AB=1/\∃v7 t' e' vJ d',s.leaf r j=.arr 1 v7 t' e' vJ d')/\gen=v/\AE e d W.w W.fz y xs (W.om (.lf r j))
     | .sc l x=>l.rd 0 W.w fz y x []
     | .bad=>True
     |_=>False:=by
   intro x yc hx v y hy;have:=(L.AY l yc (hx y hy) (d':=0) (w':=W.w) (uQ:=fz)).1;cases l with
   |sl t e=>simp[Bg]at yc
   |_=>exact this
  cases a with
  |arr AB gen t0 e0 xs d0=>
   simp only[Df]at hl;split at hl
   ·rename_i hd;simp only[AAJ,AAd,AAT,AAV,beq_eq_false_iff_ne]at hd;obtain⟨hd,h3⟩:=hd;split at hl
    ·rename_i y hy;obtain⟨q1,q2⟩:=L.AH hy;subst q1;have q2:xs=y:=q2;subst q2;refine fin xs hl λv y hy=>?_;obtain⟨u,hu,hr⟩:=vr;rw[hy]at hu;injection hu with hu;subst hu
     cases d with
     |zero=>
      show(L.sl t0 e0).rd 0 W.w fz y xs [];exact hr.freeze λb hb=>hb.elim (wJ b) λhb=>hz 0 (.sl t0 e0) rfl b J
     |succ d=>
      have:d0=d+1:=J
      subst this;by_cases h2:d=2
      ·subst h2;have zT:AB=1:=h3.resolve_left λq=>q rfl;subst zT;exact⟨.inr ⟨rfl,gen,t0,e0,xs,3,uM⟩,rfl,hr⟩
      ·have h4:(d+1==3)=false:=ADJ
       rw[h4];exact⟨.inl rfl,rfl,hr⟩
    ·exact hl.elim
   ·exact hl.elim
  |sc m x=>
   have uW:∀y,W.cv r j=some y->m.rd 0 W.w W.fz y x []:=vr.2;cases d with
   |zero=>
    have hl:(s.datum l (.sc m x) λy=>Df s ls as λvs=>k (⟨l,y⟩::vs)).leads t:=hl;simp only[St.datum]at hl;split at hl
    ·rename_i y hy;obtain⟨q1,q2⟩:=L.AH hy;subst q1;have q2:x=y:=q2;subst q2;refine fin x hl λv y hy=>?_;have hr:=L.AN m (uW y hy) (λ_ _=>rfl) wJ;cases m<;>exact hr
    ·exact hl.elim
   |succ d=>
    cases vq:l with
    |sl t1 e1=>subst vq;exact hl.elim
    |int kk=>
     subst vq;have hl:(s.datum (.int kk) (.sc m x) λy=>Df s ls as λvs=>k (⟨.int kk,y⟩::vs)).leads t:=hl;simp only[St.datum]at hl;split at hl
     ·rename_i y hy;obtain⟨q1,q2⟩:=L.AH hy;subst q1;have q2:x=y:=q2;subst q2;exact fin x hl (xF x rfl uW)
     ·exact hl.elim
    |bool=>
     subst vq;have hl:(s.datum .bool (.sc m x) λy=>Df s ls as λvs=>k (⟨.bool,y⟩::vs)).leads t:=hl;simp only[St.datum]at hl;split at hl
     ·rename_i y hy;obtain⟨q1,q2⟩:=L.AH hy;subst q1;have q2:x=y:=q2;subst q2;exact fin x hl (xF x rfl uW)
     ·exact hl.elim
    |str=>
     subst vq;have hl:(s.datum .str (.sc m x) λy=>Df s ls as λvs=>k (⟨.str,y⟩::vs)).leads t:=hl;simp only[St.datum]at hl;split at hl
     ·rename_i y hy;obtain⟨q1,q2⟩:=L.AH hy;subst q1;have q2:x=y:=q2;subst q2;exact fin x hl (xF x rfl uW)
     ·exact hl.elim
  |CA=>
   cases d with
   |zero=>
    cases l with
    |sl t1 e1=>
     refine fin ([]:List e1.D) hl λv y hy=>?_;show(L.sl t1 e1).rd 0 W.w fz y ([]:List e1.D) [];rw[show y=.slice none 0 0 from vr.2 y hy];exact Bl
    |_=>exact hl.elim
   |succ d=>cases l<;>exact hl.elim
  |ref c=>have:=uO (.ref c) OF;cases this
  |Dy c lo hi=>have:=uO (.Dy c lo hi) OF;cases this
  |_=>cases d with
   |zero=>exact hl.elim
   |succ d=>cases l<;>exact hl.elim
def Oe(ps:List VP)(r j:Nat):Prop:=∃ls l,VP.box r ls∈ps/\ls[j]?=some (some (l,0))
theorem MY(h:AW E s tm W)(uO:BU s){fz:Nat->Prop}(wJ:∀b,W.fz b->fz b){p:VP}(hz:∀r j,Oe [p] r j->∀b∈W.om (.lf r j),fz b){k:List Lv->Step β}(hl:(Jy s p k).leads t):
  ∃vs,(k vs).leads t/\Told s W tm fz p vs:=by
 cases p with
 |slot u l=>
  simp only[Jy]at hl;split at hl
  ·rename_i hs
   have uR:u<s.sl.length:=by
    rcases AAq u s.sl.length with uR|vW
    ·exact uR
    ·have:s.slot u=.v false [.bad]:=Au _ vW;rw[this]at hl;exact hl.elim
   obtain⟨x,hl,hr⟩:=J8 h (Nw (h.AM u)) hs hl;exact⟨_,hl,uR,x,rfl,hr⟩
  ·exact hl.elim
 |own u ty e d k0=>
  simp only[Jy]at hl;split at hl
  ·rename_i c vv AB gen t' e' xs d' wE vt;split at hl
   ·rename_i hc;simp only[AAJ,AAT]at hc;obtain⟨⟨⟨⟨⟨hcr,hcj⟩,hp⟩,uT⟩,hd⟩,yi⟩:=hc;have hp:c.p=[]:=by cases hq:c.p<;>simp_all[isNil]
    subst hd;split at hl
    ·rename_i y hy;obtain⟨q1,q2⟩:=L.AH hy;cases q1;have q2:xs=y:=q2;subst q2
     have uM:s.leaf c.r c.j=.arr c.AB gen ty e xs d:=by unfold St.leaf;rw[hcr,hcj,vt,uT];rfl
     have wW:AR s W (.ref c) (tm.getD u Go.undef):=by have:=h.AM u;rw[wE]at this;exact this
     obtain⟨h',e2,uv,hn⟩:=wW gen _ _ _ _ uM (.inl hp);rw[hp]at hn;obtain⟨rfl,rfl⟩:=hn;obtain⟨u',uY,uW⟩:=(h.roots c.r).row uM;rw[uv]at uY;injection uY with uY;rw[<-uY]at uW
     rw[hcr,hcj]at uW uv
     have uR:u<s.sl.length:=by
      rcases AAq u s.sl.length with uR|vW
      ·exact uR
      ·have:s.slot u=.v false [.bad]:=Au _ vW;rw[this]at wE;cases wE
     refine⟨_,hl,uR,xs,rfl,by rw[vt],uv,uW,λhk=>?_⟩;grind
    ·exact hl.elim
   ·exact hl.elim
  ·exact hl.elim
 |box r ls=>
  simp only[Jy]at hl;split at hl
  ·rename_i hb
   obtain⟨vs,hl,h1,h2,h3⟩:=Hp h (fz:=fz) r wJ ls (s.root r).ls 0 (λi b hi=>by unfold St.leaf;rw[AAa,Ad,hi];rfl) (uO r)
    (λi l hi b hb=>hz r i ⟨ls,l,OF,hi⟩ b No) hl
   exact⟨vs,hl,hb,h1,h2,λv j y hy=>No⟩
  ·exact hl.elim
theorem Jz(h:AW E s tm W)(uO:BU s){fz:Nat->Prop}(wJ:∀b,W.fz b->fz b):∀ {ps:List VP} {k:List Lv->Step β},(∀r j,Oe ps r j->∀b∈W.om (.lf r j),fz b)->(Km s ps k).leads t->
  ∃uN:List (List Lv),(k uN.flatten).leads t/\uN.length=ps.length/\∀(i:Nat)(p:VP)(vs:List Lv),ps[i]?=some p->uN[i]?=some vs->Told s W tm fz p vs
 | [],k,hz,hl=>⟨[],hl,rfl,λi p vs hp=>ADa⟩
 |p::ps,k,hz,hl=>by simp only[Km]at hl;obtain⟨vs,hl,hv⟩:=MY h uO wJ (λr j ⟨ls,l,hm,hj⟩=>hz r j ⟨ls,l,by simp at hm;simp[hm],hj⟩) hl;obtain⟨uN,hl,h1,h2⟩:=Jz h uO wJ (λr j ⟨ls,l,hm,hj⟩=>hz r j ⟨ls,l,AAM _ hm,hj⟩) hl;refine⟨vs::uN,ADi,by simp[h1],λi q us hq hu=>?_⟩;grind
end
end Go.Ev
namespace Go.Ev
def VP.PF:VP->Nat
 | .slot _ _=>1
 | .own _ _ _ _ _=>1
 | .box _ ls=>(ls.filterMap id).length
theorem Cy(v:Nat):∀(ls:List (Option (L×Nat))) (vs ws:List Lv),vs.length=(ls.filterMap id).length->AO v ls (vs++ws)=AO v ls vs
 | [],vs,ws,h=>by simp[AO]
 |none::ls,vs,ws,h=>by simp only[AO];rw[Cy v ls vs ws ADQ]
 |some (l,d)::ls,[],ws,h=>ADO
 |some (l,d)::ls,x::vs,ws,h=>by simp only[AO,AA8];rw[Cy v ls vs ws ADQ]
theorem BA(v:Nat):∀(ls:List (Option (L×Nat))) (vs:List Lv),(AO v ls vs).length=ls.length
 | [],vs=>rfl
 |none::ls,vs=>by simp[AO,BA v ls vs]
 |some (l,d)::ls,[]=>by simp[AO,BA v ls []]
 |some (l,d)::ls,x::vs=>by simp[AO,BA v ls vs]
theorem Nn(v:Nat)(s0:St):∀(ps:List VP)(vs:List Lv)(σ:St),(σ.app (Bn v s0 ps vs)).sl.length=σ.sl.length/\(σ.app (Bn v s0 ps vs)).ro.length=σ.ro.length:=λps vs σ=>Bv _ σ
def At(v:Nat)(s0 σ:St)(p:VP)(vs:List Lv):Prop:=match p with
 | .slot t _=>∀x,vs=[x]->σ.slot t=one (.sc x.l x.x)
 | .own t _ _ d k=>∀x,vs=[x]->σ.slot t=one (.ref ⟨t,0,FB v k,v,[]⟩)/\σ.root t=⟨false,v,[Bx v d k x]⟩
 | .box r ls=>σ.root r=⟨true,(s0.root r).AB,AO v ls vs⟩
theorem IF{x:Nat}{xs:Is}(h:distinct (x::xs)=true):x∉xs/\distinct xs=true:=by simp only[distinct,AAJ,AAV]at h;refine⟨λhm=>?_,h.2⟩;have:=(Av xs x).2 hm;rw[h.1]at this;cases this
theorem Cf:∀ {xs ys:Is},distinct (xs++ys)=true->(∀x∈xs,x∉ys)/\distinct ys=true
 | [],ys,h=>⟨(λx hx=>by cases hx),h⟩
 |x::xs,ys,h=>by
  obtain⟨h1,h2⟩:=IF (xs:=xs++ys) h;obtain⟨h3,h4⟩:=Cf h2;refine⟨λy hy=>?_,h4⟩;rcases AAf.1 hy with rfl|hy
  ·exactλhm=>h1 (AAR _ hm)
  ·exact h3 y hy
theorem GO(v:Nat)(s0:St):∀(ps:List VP) (uN:List (List Lv)) (σ:St),uN.length=ps.length->(∀(i:Nat)(p:VP)(vs:List Lv),ps[i]?=some p->uN[i]?=some vs->vs.length=p.PF)->
  distinct (ps.flatMap VP.AM)=true->distinct (ps.flatMap VP.roots)=true->(∀t∈ps.flatMap VP.AM,t<σ.sl.length)->(∀r∈ps.flatMap VP.roots,r<σ.ro.length)->
  (∀t,t∉ps.flatMap VP.AM->(σ.app (Bn v s0 ps uN.flatten)).slot t=σ.slot t)/\(∀r,r∉ps.flatMap VP.roots->(σ.app (Bn v s0 ps uN.flatten)).root r=σ.root r)/\
  ∀(i:Nat)(p:VP)(vs:List Lv),ps[i]?=some p->uN[i]?=some vs->At v s0 (σ.app (Bn v s0 ps uN.flatten)) p vs
 | [],[],σ,hl,hc,d1,d2,b1,b2=>⟨λ_ _=>rfl,λ_ _=>rfl,λi p vs hp=>ADa⟩
 | [],_::_,σ,hl,hc,d1,d2,b1,b2=>ADd
 |_::_,[],σ,hl,hc,d1,d2,b1,b2=>ADd
 |p::ps,vs::uN,σ,hl,hc,d1,d2,b1,b2=>by
  rw[AAm]at d1 d2;obtain⟨n1,d1'⟩:=Cf d1;obtain⟨n2,d2'⟩:=Cf d2;have yV:=hc 0 p vs rfl rfl;have wH:∀t∈p.AM,t<σ.sl.length:=λt ht=>b1 t (by rw[AAm];exact AAU _ ht);have w6:∀t∈p.roots,t<σ.ro.length:=λt ht=>b2 t (by rw[AAm];exact AAU _ ht)
  have main:∀(ws:List Wr),Bn v s0 (p::ps) (vs::uN).flatten=ws++Bn v s0 ps uN.flatten->(∀t,t∉p.AM->(σ.app ws).slot t=σ.slot t)->(∀r,r∉p.roots->(σ.app ws).root r=σ.root r)->At v s0 (σ.app ws) p vs->
    (∀t,t∉(p::ps).flatMap VP.AM->(σ.app (Bn v s0 (p::ps) (vs::uN).flatten)).slot t=σ.slot t)/\(∀r,r∉(p::ps).flatMap VP.roots->(σ.app (Bn v s0 (p::ps) (vs::uN).flatten)).root r=σ.root r)/\
    ∀(i:Nat)(q:VP)(us:List Lv),(p::ps)[i]?=some q->(vs::uN)[i]?=some us->At v s0 (σ.app (Bn v s0 (p::ps) (vs::uN).flatten)) q us:=by
   intro ws he hs hr ha
   obtain⟨i1,i2,i3⟩:=GO v s0 ps uN (σ.app ws) ADi (λi q us h1 h2=>hc (i+1) q us ADh ADj) d1' d2'
    (λt ht=>by rw[(Bv ws σ).1];exact b1 t (by rw[AAm];exact AAR _ ht)) (λt ht=>by rw[(Bv ws σ).2];exact b2 t (by rw[AAm];exact AAR _ ht))
   rw[he,A5];refine⟨λt ht=>?_,λr vI=>?_,λi q us h1 h2=>?_⟩
   ·rw[AAm]at ht;rw[i1 t (λhm=>ht (AAR _ hm)),hs t (λhm=>ht (AAU _ hm))]
   ·rw[AAm]at vI;rw[i2 r (λhm=>vI (AAR _ hm)),hr r (λhm=>vI (AAU _ hm))]
   ·cases i with
    |zero=>
     simp at h1 h2;subst h1;subst h2;cases p with
     |slot t l=>intro x hx;rw[i1 t (n1 t (by simp[VP.AM]))];exact ha x hx
     |own t ty e d k=>
      intro x hx;rw[i1 t (n1 t (by simp[VP.AM])),i2 t (n2 t (by simp[VP.roots]))];exact ha x hx
     |box r ls=>
      show(_:St).root r=_;rw[i2 r (n2 r (by simp[VP.roots]))];exact ha
    |succ i=>exact i3 i q us ADh ADj
  cases p with
  |slot t l=>
   obtain⟨x,rfl⟩:∃x,vs=[x]:=by
    match vs,yV with
    | [x],_=>exact⟨x,rfl⟩
   refine main [.slot t (one (.sc x.l x.x))] rfl (λu hu=>?_) (λr hr=>rfl) ?_
   ·show(σ.AG _).slot u=_;rw[BH,AAQ (λhh=>hu (by simp[VP.AM,hh.1]))]
   ·intro y hy;simp at hy;subst hy;show(σ.AG _).slot t=_;rw[BH,AAP ⟨rfl,wH t (by simp[VP.AM])⟩]
  |own t ty e d k=>
   obtain⟨x,rfl⟩:∃x,vs=[x]:=by
    match vs,yV with
    | [x],_=>exact⟨x,rfl⟩
   refine main [.root t ⟨false,v,[Bx v d k x]⟩,.slot t (one (.ref ⟨t,0,FB v k,v,[]⟩))] rfl (λu hu=>?_) (λr hr=>?_) ?_
   ·show((σ.AG _).AG _).slot u=_;rw[BH,AAQ (λhh=>hu (by simp[VP.AM,hh.1]))];rfl
   ·show(σ.AG _).root r=_;rw[Ap,AAQ (λhh=>hr (by simp[VP.roots,hh.1]))]
   ·intro y hy;simp at hy;subst hy;refine⟨?_,?_⟩
    ·show((σ.AG _).AG _).slot t=_;rw[BH,AAP ⟨rfl,by rw[(Bq _ _).1];exact wH t (by simp[VP.AM])⟩]
    ·show(σ.AG _).root t=_;rw[Ap,AAP ⟨rfl,w6 t (by simp[VP.roots])⟩]
  |box r ls=>
   refine main [.root r ⟨true,(s0.root r).AB,AO v ls vs⟩] ?_ (λu hu=>rfl) (λq hq=>?_) ?_
   ·have yV:vs.length=(ls.filterMap id).length:=yV;simp only[Bn,AAh];rw[Cy v ls vs _ yV,<-yV,AA4];rfl
   ·show(σ.AG _).root q=_;rw[Ap,AAQ (λhh=>hq (by simp[VP.roots,hh.1]))]
   ·show(σ.AG _).root r=_;rw[Ap,AAP ⟨rfl,w6 r (by simp[VP.roots])⟩]
end Go.Ev
namespace Go.Ev
theorem EG{α γ:Type}(f:Nat->α->γ):∀(n:Nat)(xs:List α),(KO f n xs).length=xs.length
 |_,[]=>rfl
 |n,x::xs=>by simp[KO,EG f (n+1) xs]
theorem Hi{α γ:Type}(f:Nat->α->γ)(d:γ)(d0:α):∀(n:Nat)(xs:List α)(i:Nat),i<xs.length->nth d (KO f n xs) i=f (n+i) (nth d0 xs i)
 |n,[],i,h=>ADO
 |n,x::xs,0,h=>rfl
 |n,x::xs,i+1,h=>by simp only[KO,nth];rw[Hi f d d0 (n+1) xs i ADQ,show n+1+i=n+(i+1) by omega]
theorem Fz(ms:Is)(ps:List VP)(s:St)(t:Nat):(base ms ps s).slot t=if has ms t then one .bad else(s.slot t).clean (λr=>has ms r||has (ps.flatMap VP.AM) r) λr=>has ms r||has (ps.flatMap VP.roots) r:=by
 unfold St.slot base;by_cases h:t<s.sl.length
 ·dsimp only;rw[Hi _ _ (.v false [.bad]) 0 s.sl t h,AAa]
 ·dsimp only;rw[Au _ (by rw[EG];omega),Au _ J];split<;>rfl
theorem B5(ms:Is)(ps:List VP)(s:St)(r:Nat):(base ms ps s).root r=if has ms r then dead else s.root r:=by
 unfold St.root base;by_cases h:r<s.ro.length
 ·dsimp only;rw[Hi _ _ dead 0 s.ro r h,AAa]
 ·dsimp only;rw[Au _ (by rw[EG];omega),Au _ J];split<;>rfl
theorem FP(ms:Is)(ps:List VP)(s:St):(base ms ps s).sl.length=s.sl.length/\(base ms ps s).ro.length=s.ro.length:=⟨EG _ _ _,EG _ _ _⟩
theorem KI(m1 m2:Nat->Bool)(a:AV):∀n∈(a.clean m1 m2).AF,n∈a.AF:=by
 cases a with
 |Da vs=>intro n hn;simp[AV.clean,one,AV.AF,LA.AF]at hn
 |bx as=>intro n hn;simp[AV.clean,one,AV.AF,LA.AF]at hn
 |v g as=>
  intro n hn;obtain⟨b,hb,hn⟩:=AAL.1 (show n∈(as.map (LA.clean m1 m2)).flatMap LA.AF from hn);obtain⟨c,hc,rfl⟩:=AAs.1 hb;refine AAL.2 ⟨c,hc,?_⟩;cases c with
  |ref c=>simp only[LA.clean]at hn;split at hn;cases hn;exact hn
  |Dy c lo hi=>simp only[LA.clean]at hn;split at hn;cases hn;exact hn
  |Ba c=>simp only[LA.clean]at hn;split at hn;cases hn;exact hn
  |ptr r j AB=>simp only[LA.clean]at hn;split at hn;cases hn;exact hn
  |Iz t c=>simp only[LA.clean]at hn;split at hn;cases hn;exact hn
  |D2 g ps qs=>simp only[LA.clean]at hn;split at hn;cases hn;exact hn
  |_=>exact hn
theorem LF{cx:Cx}{m1 m2:Nat->Bool}(h1:∀r,m1 r=true->cx.Eu r=false)(h2:∀r,m2 r=true->cx.lock r=false)(a:AV):Cs cx a (a.clean m1 m2):=by
 cases a with
 |Da vs=>exact .Da vs
 |bx as=>exact .bx as
 |v g as=>
  refine .v g as _ OF λj b hj=>⟨LA.clean m1 m2 b,by rw[AAZ,hj];rfl,?_⟩;cases b with
  |ref c=>simp only[LA.clean];split;exact .inr ⟨rfl,h2 _ ADY⟩;exact .inl rfl
  |Dy c lo hi=>simp only[LA.clean];split;exact .inr ⟨rfl,h2 _ ADY⟩;exact .inl rfl
  |Ba c=>simp only[LA.clean];split;exact .inr ⟨rfl,h2 _ ADY⟩;exact .inl rfl
  |ptr r j AB=>simp only[LA.clean];split;exact .inr ⟨rfl,h1 _ ADY⟩;exact .inl rfl
  |Iz t c=>simp only[LA.clean];split;exact .inr ⟨rfl,h2 _ ADY⟩;exact .inl rfl
  |D2 g ps qs=>
   simp only[LA.clean];split
   ·rename_i h;obtain⟨p,hp,hm⟩:=AA5.1 h;exact .inr ⟨rfl,p,hp,h1 _ hm⟩
   ·exact .inl rfl
  |_=>exact .inl rfl
end Go.Ev
namespace Go.Ev
theorem CQ(v:Nat):∀(ls:List (Option (L×Nat))) (vs:List Lv) (j:Nat) (l:L),ls[j]?=some (some (l,0))->(nth .bad (AO v ls vs) j).B6=false
 | [],vs,j,l,h=>ADO
 |none::ls,vs,0,l,h=>ADO
 |none::ls,vs,j+1,l,h=>CQ v ls vs j l ADQ
 |some (l',d)::ls,[],0,l,h=>rfl
 |some (l',d)::ls,[],j+1,l,h=>CQ v ls [] j l ADQ
 |some (l',d)::ls,⟨l0,x⟩::vs,0,l,h=>by
  simp at h;obtain⟨_,rfl⟩:=h;cases l0<;>rfl
 |some (l',d)::ls,x::vs,j+1,l,h=>CQ v ls vs j l ADQ
theorem I0{cx:Cx}{ms:Is}{ps:List VP}{r:Nat}(h1:r∉ms)(h2:r∉ps.flatMap VP.roots):(cx.in ms ps).lock r=true:=by
 have a:has ms r=false:=by cases h:has ms r;rfl;exact absurd ((Av _ _).1 h) h1
 have b:has (ps.flatMap VP.roots) r=false:=by cases h:has (ps.flatMap VP.roots) r;rfl;exact absurd ((Av _ _).1 h) h2
 simp[Cx.in,a,b]
theorem Hd{cx:Cx}{ms:Is}{ps:List VP}{r:Nat}(h1:r∉ms)(h2:r∉ps.flatMap VP.AM):(cx.in ms ps).Eu r=true:=by
 have a:has ms r=false:=by cases h:has ms r;rfl;exact absurd ((Av _ _).1 h) h1
 have b:has (ps.flatMap VP.AM) r=false:=by cases h:has (ps.flatMap VP.AM) r;rfl;exact absurd ((Av _ _).1 h) h2
 simp[Cx.in,a,b]
structure Fv(ms:Is)(ps:List VP)(s0 s1 σ:St)(W:Wd)(tm:Array Value)(fz:Nat->Prop)(uN:List (List Lv)):Prop where
 len:uN.length=ps.length
 told:∀(i:Nat)(p:VP)(vs:List Lv),ps[i]?=some p->uN[i]?=some vs->Told s1 W tm fz p vs
 at_:∀(i:Nat)(p:VP)(vs:List Lv),ps[i]?=some p->uN[i]?=some vs->At s0.Bd s0 σ p vs
 slot:∀t,t∉ps.flatMap VP.AM->σ.slot t=(base ms ps s0).slot t
 root:∀r,r∉ps.flatMap VP.roots->σ.root r=(base ms ps s0).root r
 l1:σ.sl.length=s0.sl.length
 l2:σ.ro.length=s0.ro.length
theorem Fv.get{ms:Is}{ps:List VP}{s0 s1 σ:St}{W:Wd}{tm:Array Value}{fz:Nat->Prop}{uN:List (List Lv)}(h:Fv ms ps s0 s1 σ W tm fz uN){p:VP}(hp:p∈ps):∃vs,Told s1 W tm fz p vs/\At s0.Bd s0 σ p vs:=by obtain⟨i,hi⟩:=AAr hp;obtain⟨vs,hv⟩:=Az h.len (AAK.1 hi).1;exact⟨vs,h.told i p vs hi hv,h.at_ i p vs hi hv⟩
def Ei(W:Wd)(ps:List VP)(b:Nat):Prop:=W.fz b\/∃r j,Oe ps r j/\b∈W.om (.lf r j)
theorem Mr{E:Ck}{cx:Cx}{N:Nat}{ms:Is}{ps:List VP}{s0 s1:St}{tm:Array Value}{W:Wd}{x:(C6 ps).D}(h1:AW E s1 tm W)(r1:BU s1)(hk:Am (cx.in ms ps) s0 s1)(hp:Cc cx ms ps=true)(hx:Al ps s1=some x):
  ∃uN,Fv ms ps s0 s1 (Bm ms ps s0 x) W tm (Ei W ps) uN:=by
 unfold Al at hx;obtain⟨lvs,hl,we⟩:=Step.Cr _ hx;obtain⟨uN,hl,hlen,zL⟩:=Jz h1 r1 (fz:=Ei W ps) (λb hb=>.inl hb) (λr j hf b hb=>.inr ⟨r,j,hf,hb⟩) hl;have hl:uN.flatten=lvs:=hl;subst hl;have xI:=Ay _ _ _ we;simp only[Cc,AAJ]at hp;obtain⟨⟨d1,d2⟩,_⟩:=hp;have vt:s1.ro.length=s1.sl.length:=by rw[h1.DS,h1.Bb]
 have ud:∀p∈ps,∃vs,Told s1 W tm (Ei W ps) p vs:=λp hp=>by obtain⟨i,hi⟩:=AAr hp;obtain⟨vs,hv⟩:=Az hlen (AAK.1 hi).1;exact⟨vs,zL i p vs hi hv⟩
 have hlook:=GO s0.Bd s0 ps uN (base ms ps s0) hlen (λi p vs hi hv=>by
   have:=zL i p vs hi hv;cases p with
   |slot t l=>obtain⟨_,x,rfl,_⟩:=this;rfl
   |own t ty e d k=>obtain⟨_,x,rfl,_⟩:=this;rfl
   |box r ls=>exact this.2.2.1) d2 d1
  (λt ht=>by
   rw[(FP ms ps s0).1,<-hk.l1];obtain⟨p,hp,ht⟩:=AAL.1 ht;obtain⟨vs,hv⟩:=ud p hp;cases p with
   |slot u l=>simp[VP.AM]at ht;subst ht;exact hv.1
   |own u ty e d k=>simp[VP.AM]at ht;subst ht;exact hv.1
   |box r ls=>simp[VP.AM]at ht)
  (λt ht=>by
   rw[(FP ms ps s0).2,<-hk.l2];obtain⟨p,hp,ht⟩:=AAL.1 ht;obtain⟨vs,hv⟩:=ud p hp;cases p with
   |slot u l=>simp[VP.roots]at ht
   |own u ty e d k=>simp[VP.roots]at ht;subst ht;rw[vt];exact hv.1
   |box r ls=>simp[VP.roots]at ht;subst ht;exact JH hv.1)
 have he:Bm ms ps s0 x=(base ms ps s0).app (Bn s0.Bd s0 ps uN.flatten):=by unfold Bm;rw[xI]
 rw[he];obtain⟨a,b,c⟩:=hlook;exact⟨uN,hlen,zL,c,a,b,(Bv _ _).1.trans (FP ms ps s0).1,(Bv _ _).2.trans (FP ms ps s0).2⟩
end Go.Ev
namespace Go.Ev
section
variable {E:Ck}{cx:Cx}{N:Nat}{ms:Is}{ps:List VP}{s0 s1 σ:St}{tm:Array Value}{W:Wd}{uN:List (List Lv)}
noncomputable def Ct (σ:St) (W:Wd) (ps:List VP):Wd where
 w:=W.w
 fz:=Ei W ps
 cv:=W.cv
 bk:=W.bk
 om k:=match k with
  | .lf r j=>bif(σ.leaf r j).B6 then W.om (.lf r j)else []
  | .blk r=>bif(σ.root r).box then W.om (.blk r)else []
  | .fl _=>[]
theorem ES(k:Key):∀b∈(Ct σ W ps).om k,b∈W.om k:=by
 intro b hb;cases k with
 |lf r j=>
  have hb:b∈(bif(σ.leaf r j).B6 then W.om (.lf r j)else []):=hb;cases h:(σ.leaf r j).B6<;>rw[h]at hb
  ·cases hb
  ·exact hb
 |blk r=>
  have hb:b∈(bif(σ.root r).box then W.om (.blk r)else []):=hb;cases h:(σ.root r).box<;>rw[h]at hb
  ·cases hb
  ·exact hb
 |fl k=>cases hb
theorem OM{p:VP}(hp:p∈ps){r:Nat}(hr:r∈p.roots):r∈ps.flatMap VP.roots:=AAL.2 ⟨p,hp,hr⟩
theorem Lu(ha:Fv ms ps s0 s1 σ W tm (Ei W ps) uN){r j:Nat}(hf:Oe ps r j):(σ.leaf r j).B6=false:=by obtain⟨ls,l,hm,hj⟩:=hf;obtain⟨vs,_,vZ⟩:=ha.get hm;have vZ:σ.root r=_:=vZ;unfold St.leaf;rw[vZ];exact CQ _ ls vs j l hj
theorem Ly(h:AW E s1 tm W)(ha:Fv ms ps s0 s1 σ W tm (Ei W ps) uN):Sep E (Ct σ W ps) where
 nodup k:=by
  cases k with
  |lf r j=>
   show(bif(σ.leaf r j).B6 then W.om (.lf r j)else []).Nodup;cases(σ.leaf r j).B6
   ·exact AAS
   ·exact h.sep.nodup _
  |blk r=>
   show(bif(σ.root r).box then W.om (.blk r)else []).Nodup;cases(σ.root r).box
   ·exact AAS
   ·exact h.sep.nodup _
  |fl k=>exact AAS
 A7 k k' uV b hb uZ:=h.sep.A7 k k' uV b (ES k b hb) (ES k' b uZ)
 own k b hb:=by
  obtain⟨q1,q2,q3⟩:=h.sep.own k b (ES k b hb);refine⟨?_,q2,q3⟩
  rintro (hz|⟨r,j,hf,hz⟩)
  ·exact q1 hz
  ·have hk:k=.lf r j:=AAl λuV=>h.sep.A7 k _ uV b (ES k b hb) hz;subst hk;have hb:b∈(bif(σ.leaf r j).B6 then W.om (.lf r j)else []):=hb;rw[Lu ha hf]at hb;cases hb
 fz b hb:=by
  rcases hb with hz|⟨r,j,_,hz⟩
  ·exact h.sep.fz b hz
  ·obtain⟨_,q2,q3⟩:=h.sep.own _ b hz;exact⟨q2,.inr q3⟩
 frame:=h.sep.frame
 size:=h.sep.size
 rest:=h.sep.rest
theorem Gw(hk:Am (cx.in ms ps) s0 s1)(hp:Cc cx ms ps=true)(ha:Fv ms ps s0 s1 σ W tm (Ei W ps) uN){r:Nat}(hb:(σ.root r).box=true):(s1.root r).box=true/\(s1.root r).AB=(σ.root r).AB/\(s1.root r).ls.length=(σ.root r).ls.length:=by
 simp only[Cc,AAJ]at hp;obtain⟨_,vY⟩:=hp;by_cases hr:r∈ps.flatMap VP.roots
 ·obtain⟨p,hm,hr⟩:=AAL.1 hr;obtain⟨vs,ht,vZ⟩:=ha.get hm;cases p with
  |slot t l=>simp[VP.roots]at hr
  |own t ty e d k=>
   simp[VP.roots]at hr;subst hr;obtain⟨_,xs,rfl,_⟩:=ht;have:=(vZ _ rfl).2;rw[this]at hb;cases hb
  |box q ls=>
   simp[VP.roots]at hr;subst hr;have vZ:σ.root r=_:=vZ;have h2:=AAW.1 vY _ hm;simp only[AAJ,AAV]at h2;have n1:r∉ms:=λhh=>by rw[(Av _ _).2 hh]at h2;exact absurd h2.1.1 OF
   have n2:r∉ps.flatMap VP.AM:=λhh=>by rw[(Av _ _).2 hh]at h2;exact absurd h2.2 OF
   obtain⟨b1,b2,b3⟩:=hk.box r (Hd n1 n2);refine⟨ht.1,?_,?_⟩
   ·rw[vZ,b2]
   ·rw[vZ];exact ht.2.1.symm.trans (BA _ _ _).symm
 ·have vt:=ha.root r hr;rw[B5]at vt;split at vt
  ·rw[vt]at hb;cases hb
  ·rename_i zl;have n1:r∉ms:=λhh=>zl ((Av _ _).2 hh);have:=hk.roots r (I0 n1 hr);have e:s1.root r=σ.root r:=this.trans vt.symm;rw[e];exact⟨hb,rfl,rfl⟩
theorem C9(hk:Am (cx.in ms ps) s0 s1)(hp:Cc cx ms ps=true)(ha:Fv ms ps s0 s1 σ W tm (Ei W ps) uN){a:LA}{v:Value}(hr:∀c,(a=.ref c\/(∃lo hi,a=.Dy c lo hi)\/a=.Ba c\/∃t,a=.Iz t c)->σ.root c.r=s1.root c.r)(hv:AR s1 W a v):AR σ (Ct σ W ps) a v:=by
 cases a with
 |bad=>trivial
 |undef=>exact hv
 |CA=>exact hv
 |I8=>exact hv
 |sc l x=>exact L.AN l hv (λ_ _=>rfl) λb hb=>.inl hb
 |ref c=>
  intro gen t e xs d hl hg;rw[Aw (hr c (.inl rfl))]at hl;exact hv gen t e xs d hl hg
 |Dy c lo hi=>
  intro gen t e xs d hl hg;rw[Aw (hr c (.inr (.inl ⟨lo,hi,rfl⟩)))]at hl;exact hv gen t e xs d hl hg
 |Ba c=>
  intro gen t e xs d hl hg;rw[Aw (hr c (.inr (.inr (.inl rfl))))]at hl;exact hv gen t e xs d hl hg
 |ptr r j AB=>
  intro hb uT;obtain⟨b1,b2,_⟩:=Gw hk hp ha hb;exact hv b1 (b2.trans uT)
 |Ds e x off=>
  obtain⟨ad,g,arr,T,fr,wY,hz,hh,hg,uW⟩:=hv;exact⟨ad,g,arr,T,fr,wY,.inl hz,hh,hg,Ls.AN e uW (λ_ _=>rfl) λb hb=>.inl hb⟩
 |fn f=>exact hv
 |Iz tt c=>
  obtain⟨u,hu,hv⟩:=hv;refine⟨u,hu,λgen t e xs d hl hg=>?_⟩;rw[Aw (hr c (.inr (.inr (.inr ⟨tt,rfl⟩))))]at hl;exact hv gen t e xs d hl hg
 |D2 g qs _=>
  obtain⟨bs,hu,hlen,hv⟩:=hv;refine⟨bs,hu,hlen,λk p b hp' hb hx uT=>?_⟩;obtain⟨b1,b2,_⟩:=Gw hk hp ha hx;exact hv k p b hp' hb b1 (b2.trans uT)
 |arr=>exact hv
end
end Go.Ev
namespace Go.Ev
section
variable {E:Ck}{cx:Cx}{N:Nat}{ms:Is}{ps:List VP}{s0 s1 σ:St}{tm:Array Value}{W:Wd}{uN:List (List Lv)}
theorem CD{ms:Is}{r:Nat}(h:has ms r=false):r∉ms:=λhh=>by rw[(Av _ _).2 hh]at h;cases h
theorem Gp{ms:Is}{r:Nat}(h:r∉ms):has ms r=false:=by
 cases hh:has ms r with
 |false=>rfl
 |true=>exact absurd ((Av _ _).1 hh) h
theorem Fw(hk:Am (cx.in ms ps) s0 s1)(ha:Fv ms ps s0 s1 σ W tm (Ei W ps) uN){r:Nat}(h1:r∉ms)(h2:r∉ps.flatMap VP.roots):σ.root r=s1.root r:=by rw[ha.root r h2,B5,Gp h1,hk.roots r (I0 h1 h2)];rfl
theorem Gx(hk:Am (cx.in ms ps) s0 s1)(hp:Cc cx ms ps=true)(ha:Fv ms ps s0 s1 σ W tm (Ei W ps) uN){a a':LA}{v:Value}(hc:Ex (cx.in ms ps) a a')(hv:AR s1 W a' v):
  AR σ (Ct σ W ps) (a.clean (λr=>has ms r||has (ps.flatMap VP.AM) r) λr=>has ms r||has (ps.flatMap VP.roots) r) v:=by
 have yS:∀r,¬(has ms r||has (ps.flatMap VP.roots) r)=true->(cx.in ms ps).lock r=true/\σ.root r=s1.root r:=by intro r hr;simp only[AAd,not_or,Bool.not_eq_true]at hr;exact⟨I0 (CD hr.1) (CD hr.2),Fw hk ha (CD hr.1) (CD hr.2)⟩
 have same:∀ {b:LA},a=b->¬HJ (cx.in ms ps) b->AR s1 W b v:=by
  intro b e hd;subst e;rcases hc with rfl|⟨_,hh⟩
  ·exact hv
  ·exact absurd hh hd
 cases a with
 |ref c=>
  simp only[LA.clean];split
  ·trivial
  ·rename_i hr;obtain⟨q1,q2⟩:=yS c.r hr;refine C9 hk hp ha (λc' vL=>?_) (same rfl (by simp[HJ,q1]));rcases vL with e|⟨_,_,e⟩|e|⟨_,e⟩<;>cases e;exact q2
 |Dy c lo hi=>
  simp only[LA.clean];split
  ·trivial
  ·rename_i hr;obtain⟨q1,q2⟩:=yS c.r hr;refine C9 hk hp ha (λc' vL=>?_) (same rfl (by simp[HJ,q1]));rcases vL with e|⟨_,_,e⟩|e|⟨_,e⟩<;>cases e;exact q2
 |Ba c=>
  simp only[LA.clean];split
  ·trivial
  ·rename_i hr;obtain⟨q1,q2⟩:=yS c.r hr;refine C9 hk hp ha (λc' vL=>?_) (same rfl (by simp[HJ,q1]));rcases vL with e|⟨_,_,e⟩|e|⟨_,e⟩<;>cases e;exact q2
 |ptr r j AB=>
  simp only[LA.clean];split
  ·trivial
  ·rename_i hr;simp only[AAd,not_or,Bool.not_eq_true]at hr;have q1:=Hd (cx:=cx) (CD hr.1) (CD hr.2);refine C9 hk hp ha (λc' vL=>?_) (same rfl (by simp[HJ,q1]));rcases vL with e|⟨_,_,e⟩|e|⟨_,e⟩<;>cases e
 |Iz t c=>
  simp only[LA.clean];split
  ·trivial
  ·rename_i hr;obtain⟨q1,q2⟩:=yS c.r hr;refine C9 hk hp ha (λc' vL=>?_) (same rfl (by simp[HJ,q1]));rcases vL with e|⟨_,_,e⟩|e|⟨_,e⟩<;>cases e;exact q2
 |D2 g qs q2=>
  simp only[LA.clean];split
  ·trivial
  ·rename_i hr;refine C9 hk hp ha (λc' vL=>?_) (same rfl ?_)
   ·rcases vL with e|⟨_,_,e⟩|e|⟨_,e⟩<;>cases e
   ·rintro ⟨p,hp',hd⟩
    refine hr (AA5.2 ⟨p,hp',?_⟩);refine AAl λhn=>?_;simp only[AAd,not_or,Bool.not_eq_true]at hn;rw[Hd (cx:=cx) (CD hn.1) (CD hn.2)]at hd;cases hd
 |_=>
  refine C9 hk hp ha (λc' vL=>?_) (same rfl (λhd=>(hd:False)));rcases vL with e|⟨_,_,e⟩|e|⟨_,e⟩<;>cases e
theorem K5(hk:Am (cx.in ms ps) s0 s1)(hp:Cc cx ms ps=true)(ha:Fv ms ps s0 s1 σ W tm (Ei W ps) uN){a a':AV}{v:Value}(hc:Cs (cx.in ms ps) a a')(hv:BO s1 W a' v):
  BO σ (Ct σ W ps) (a.clean (λr=>has ms r||has (ps.flatMap VP.AM) r) λr=>has ms r||has (ps.flatMap VP.roots) r) v:=by
 have hV:∀ {g:Bool} {as xr:List LA},xr.length=as.length->(∀(j:Nat)(b:LA),as[j]?=some b->∃b',xr[j]?=some b'/\Ex (cx.in ms ps) b b')->Ey s1 W g xr v->
   Ey σ (Ct σ W ps) g (as.map (LA.clean (λr=>has ms r||has (ps.flatMap VP.AM) r) λr=>has ms r||has (ps.flatMap VP.roots) r)) v:=by
  intro g as xr hlen hl hv;cases g with
  |false=>
   match as,xr,hlen,hl,hv with
   | [b],[b'],_,hl,hv=>
    obtain⟨b2,h1,h2⟩:=hl 0 b rfl;simp at h1;subst h1;exact Gx hk hp ha h2 hv
   | [],[],_,hl,hv=>exact hv.elim
   |_::_::_,_::_::_,_,hl,hv=>exact hv.elim
  |true=>
   obtain⟨cs,w7,uh,ud⟩:=hv;refine⟨cs,w7,by rw[uh,hlen];simp,λj b hj=>?_⟩;rw[AAZ]at hj;cases hq:as[j]? with
   |none=>rw[hq]at hj;cases hj
   |some c=>
    rw[hq]at hj;injection hj with hj;subst hj
    obtain⟨c',h1,h2⟩:=hl j c hq;obtain⟨u,hu,vH⟩:=ud j c' h1;exact⟨u,hu,Gx hk hp ha h2 vH⟩
 cases hc with
 |same=>
  cases a with
  |Da vs=>trivial
  |bx as=>trivial
  |v g as=>exact hV rfl (λj b hj=>⟨b,hj,.inl rfl⟩) hv
 |v g as xr h hl=>exact hV h hl hv
 |Da vs=>trivial
 |bx as=>trivial
end
end Go.Ev
namespace Go.Ev
section
variable {E:Ck}{cx:Cx}{N:Nat}{ms:Is}{ps:List VP}{s0 s1 σ:St}{tm:Array Value}{W:Wd}{uN:List (List Lv)}
theorem Lf{a:LA}{v r j:Nat}{fz:Nat->Prop}{y:Value}{o:Is}(h:match a with
  | .arr AB gen t e xs d=>(AB=v\/AB=1/\∃v7 t' e' vJ d',s1.leaf r j=.arr 1 v7 t' e' vJ d')/\gen=v/\AE e d W.w W.fz y xs o
  | .sc l x=>l.rd 0 W.w (Ei W ps) y x []
  | .bad=>True
  |_=>False):Aa σ (Ct σ W ps) a (some y) (bif a.B6 then o else []):=by
 cases a with
 |arr AB gen t e xs d=>exact⟨y,rfl,h.2.2.frame (λ_ _=>rfl) λb hb=>.inl hb⟩
 |sc l x=>exact⟨rfl,λu hu=>by injection hu with hu;subst hu;exact h⟩
 |bad=>exact⟨rfl,λ_ _=>trivial⟩
 |_=>exact h.elim
theorem Lx(h:AW E s1 tm W)(r1:BU s1)(h2:2<=s0.Bd)(hk:Am (cx.in ms ps) s0 s1)(hp:Cc cx ms ps=true)(ha:Fv ms ps s0 s1 σ W tm (Ei W ps) uN):AW E σ tm (Ct σ W ps) where
 DS:=by rw[ha.l1,<-hk.l1,h.DS]
 Bb:=by rw[ha.l2,<-hk.l2,h.Bb]
 AM t:=by
  by_cases ht:t∈ps.flatMap VP.AM
  ·obtain⟨p,hm,ht⟩:=AAL.1 ht;obtain⟨vs,w9,vZ⟩:=ha.get hm;cases p with
   |slot u l=>
    simp[VP.AM]at ht;subst ht;obtain⟨_,x,rfl,hr⟩:=w9;rw[vZ _ rfl];exact L.AN l hr (λ_ _=>rfl) λb hb=>.inl hb
   |own u ty e d k=>
    simp[VP.AM]at ht;subst ht;obtain⟨_,xs,rfl,_,uv,hr,_⟩:=w9;rw[(vZ _ rfl).1];intro gen t' e' vJ d' hl hg;exact⟨_,e',uv,rfl,rfl⟩
   |box r ls=>simp[VP.AM]at ht
  ·rw[ha.slot t ht,Fz];cases zl:has ms t with
   |true=>exact trivial
   |false=>exact K5 hk hp ha (hk.AM t (Hd (CD zl) ht)) (h.AM t)
 roots r:=by
  by_cases hr:r∈ps.flatMap VP.roots
  ·obtain⟨p,hm,hr⟩:=AAL.1 hr;obtain⟨vs,w9,vZ⟩:=ha.get hm;cases p with
   |slot u l=>simp[VP.roots]at hr
   |own u ty e d k=>
    simp[VP.roots]at hr;subst hr;obtain⟨_,xs,rfl,xD,uv,uW,_⟩:=w9;have vt:=(vZ _ rfl).2;refine⟨λj=>?_,?_⟩
    ·have xU:(Ct σ W ps).om (.lf r j)=bif(nth .bad (σ.root r).ls j).B6 then W.om (.lf r j)else []:=rfl;rw[xU,vt];cases j with
     |zero=>
      show Aa _ _ (Bx s0.Bd d k ⟨.sl ty e,xs⟩) (W.cv r 0) (bif(Bx s0.Bd d k ⟨.sl ty e,xs⟩).B6 then W.om (.lf r 0)else []);rw[uv];cases d with
      |zero=>
       have:=AE.zero uW;rw[this]at uW;exact⟨rfl,λu hu=>by injection hu with hu;subst hu;exact L.AN (.sl ty e) uW (λ_ _=>rfl) λb hb=>.inl hb⟩
      |succ d=>exact⟨_,rfl,uW.frame (λ_ _=>rfl) λb hb=>.inl hb⟩
     |succ j=>exact⟨rfl,λ_ _=>trivial⟩
    ·rw[vt];show(if false=true then _ else _);rw[AAQ OF];show(bif(σ.root r).box then W.om (.blk r)else [])=[];rw[vt];rfl
   |box q ls=>
    simp[VP.roots]at hr;subst hr;have vZ:σ.root r=_:=vZ;obtain⟨xD,hlen,_,w9⟩:=w9;obtain⟨_,w5⟩:=h.roots r;rw[AAP xD]at w5;obtain⟨ho,arr,T,fr,hh,a1,a2,a3⟩:=w5;refine⟨λj=>?_,?_⟩
    ·have xU:(Ct σ W ps).om (.lf r j)=bif(nth .bad (σ.root r).ls j).B6 then W.om (.lf r j)else []:=rfl;rw[xU,vZ];show Aa _ _ (nth .bad (AO s0.Bd ls vs) j) (W.cv r j) (bif(nth .bad (AO s0.Bd ls vs) j).B6 then W.om (.lf r j)else []);cases uv:W.cv r j with
     |some y=>exact Lf (v:=s0.Bd) (fz:=Ei W ps) (w9 s0.Bd j y uv)
     |none=>
      have hj:ls.length<=j:=by rw[hlen,<-a2];rw[a3 j]at uv;exact Array.getElem?_eq_none_iff.1 uv
      rw[Au _ (by rw[BA];exact hj)];exact⟨rfl,λ_ hu=>by cases hu⟩
    ·rw[vZ];show(if true=true then _ else _);rw[AAP rfl];refine⟨?_,arr,T,fr,hh,a1,by rw[BA,hlen];exact a2,a3⟩;show(bif(σ.root r).box then W.om (.blk r)else [])=_;rw[vZ];exact ho
  ·cases zl:has ms r with
   |true=>
    have vt:σ.root r=dead:=by rw[ha.root r hr,B5,zl];rfl
    rw[vt];refine⟨λj=>?_,?_⟩
    ·have xU:(Ct σ W ps).om (.lf r j)=bif(nth .bad (σ.root r).ls j).B6 then W.om (.lf r j)else []:=rfl;rw[xU,vt];exact⟨rfl,λ_ _=>trivial⟩
    ·show(if false=true then _ else _);rw[AAQ OF];show(bif(σ.root r).box then W.om (.blk r)else [])=[];rw[vt];rfl
   |false=>
    have vt:=Fw hk ha (CD zl) hr;rw[vt];obtain⟨q1,q2⟩:=h.roots r;refine⟨λj=>?_,?_⟩
    ·have xU:(Ct σ W ps).om (.lf r j)=bif(nth .bad (σ.root r).ls j).B6 then W.om (.lf r j)else []:=rfl;rw[xU,vt];have hq:=q1 j;show Aa _ _ _ (W.cv r j) _
     have hri:∀b,nth LA.bad (s1.root r).ls j=b->b.Cg=true:=by
      intro b hb;by_cases hj:j<(s1.root r).ls.length
      ·rw[<-hb];exact r1 r _ (Kl hj)
      ·rw[Au _ J]at hb;subst hb;rfl
     generalize nth LA.bad (s1.root r).ls j=b at hq hri;have hri:=hri b rfl
     have yX:∀v,AR s1 W b v->AR σ (Ct σ W ps) b v:=λv hv=>C9 hk hp ha (λc hc=>by
      rcases hc with e|⟨_,_,e⟩|e|⟨_,e⟩<;>(subst e;cases hri)) hv
     cases b with
     |arr AB gen t e xs d=>
      obtain⟨u,hu,uW⟩:=hq;exact⟨u,hu,uW.frame (λ_ _=>rfl) λb hb=>.inl hb⟩
     |_=>exact⟨rfl,λu hu=>yX u (hq.2 u hu)⟩
    ·have xU:(Ct σ W ps).om (.blk r)=bif(σ.root r).box then W.om (.blk r)else []:=rfl;rw[xU,vt];cases hb:(s1.root r).box with
     |true=>
      rw[hb]at q2;rw[AAP rfl]at q2 ⊢;exact q2
     |false=>rw[AAQ OF];rfl
 sep:=Ly h ha
 init:=by
  refine⟨λr j gen t e xs d hl=>?_,λr hb uT=>?_⟩
  ·by_cases hr:r∈ps.flatMap VP.roots
   ·obtain⟨p,hm,hr⟩:=AAL.1 hr;obtain⟨vs,w9,vZ⟩:=ha.get hm;cases p with
    |slot u l=>simp[VP.roots]at hr
    |own u ty e' d' k=>
     simp[VP.roots]at hr;subst hr;obtain⟨_,ys,rfl,_,_,_,hkk⟩:=w9;have vt:=(vZ _ rfl).2;unfold St.leaf at hl;rw[vt]at hl;cases j with
     |zero=>
      have hl:Bx s0.Bd d' k ⟨.sl ty e',ys⟩=.arr 1 gen t e xs d:=hl;cases k with
      |true=>
       obtain⟨g1,t1,e1,xs1,d1,wX⟩:=hkk rfl;exact h.init.1 r 0 g1 t1 e1 xs1 d1 wX
      |false=>
       cases d' with
       |zero=>cases hl
       |succ d'=>
        have hl:LA.arr s0.Bd s0.Bd ty e' ys (d'+1)=.arr 1 gen t e xs d:=hl;injection hl with h1;omega
     |succ j=>cases hl
    |box q ls=>
     simp[VP.roots]at hr;subst hr;have vZ:σ.root r=_:=vZ;unfold St.leaf at hl;rw[vZ]at hl;have hl:nth LA.bad (AO s0.Bd ls vs) j=.arr 1 gen t e xs d:=hl;obtain⟨xD,hlen,_,w9⟩:=w9;obtain⟨_,w5⟩:=h.roots r;rw[AAP xD]at w5;obtain⟨_,arr,T,fr,hh,a1,a2,a3⟩:=w5
     have hj:j<ls.length:=by
      rcases AAq j ls.length with hj|hj
      ·exact hj
      ·rw[Au _ (by rw[BA];exact hj)]at hl;cases hl
     have uv:W.cv r j=some (arr[j]'(by omega)):=by rw[a3 j];exact AAg _
     have:=w9 s0.Bd j _ uv;rw[hl]at this;rcases this.1 with e|⟨_,g1,t1,e1,xs1,d1,wX⟩
     ·omega
     ·exact h.init.1 r j g1 t1 e1 xs1 d1 wX
   ·have vt:=ha.root r hr;cases zl:has ms r with
    |true=>
     rw[B5,zl]at vt;unfold St.leaf at hl;rw[vt]at hl;cases j<;>cases hl
    |false=>
     have vt:=Fw hk ha (CD zl) hr;exact h.init.1 r j gen t e xs d (by rw[<-Aw vt];exact hl)
  ·obtain⟨b1,b2,_⟩:=Gw hk hp ha hb;exact h.init.2 r b1 (b2.trans uT)
end
end Go.Ev
namespace Go.Ev
section
variable {E:Ck}{cx:Cx}{N:Nat}{ms:Is}{ps:List VP}{s0 s1 σ:St}{tm:Array Value}{W:Wd}{uN:List (List Lv)}
structure Open(c:Cx)(ms:Is)(ps:List VP):Prop where
 m1:∀r∈ms,c.lock r=false/\c.Eu r=false
 p1:∀r∈ps.flatMap VP.roots,c.lock r=false
 p2:∀r∈ps.flatMap VP.AM,c.Eu r=false
theorem MW(vc:∀t∈ms,cx.lock t=false/\cx.Eu t=false)(hp:Cc cx ms ps=true):Open cx ms ps:=by
 simp only[Cc,AAJ]at hp;refine⟨vc,λr hr=>?_,λr hr=>?_⟩
 ·obtain⟨p,hm,hr⟩:=AAL.1 hr;have:=AAW.1 hp.2 p hm;cases p with
  |slot u l=>simp[VP.roots]at hr
  |own u ty e d k=>simp[VP.roots]at hr;subst hr;simp only[AAJ,AAV]at this;exact this.1.1
  |box q ls=>simp[VP.roots]at hr;subst hr;simp only[AAJ,AAV]at this;exact this.1.2
 ·obtain⟨p,hm,hr⟩:=AAL.1 hr;have:=AAW.1 hp.2 p hm;cases p with
  |slot u l=>simp[VP.AM]at hr;subst hr;simpa using this
  |own u ty e d k=>simp[VP.AM]at hr;subst hr;simp only[AAJ,AAV]at this;exact this.1.2
  |box q ls=>simp[VP.AM]at hr
theorem NF(h:Open cx ms ps):Open (cx.in ms ps) ms ps:=by
 refine⟨λr hr=>?_,λr hr=>?_,λr hr=>?_⟩
 ·have:=h.m1 r hr;simp[Cx.in,this.1,this.2,(Av ms r).2 hr]
 ·simp[Cx.in,h.p1 r hr,(Av _ r).2 hr]
 ·simp[Cx.in,h.p2 r hr,(Av _ r).2 hr]
theorem Gy{c:Cx}(ho:Open c ms ps)(hk:Am (cx.in ms ps) s0 s1)(hp:Cc cx ms ps=true)(ha:Fv ms ps s0 s1 σ W tm (Ei W ps) uN)(xc:s0.Bd<=σ.Bd):Am c s0 σ where
 AM t ht:=by
  have n1:t∉ms:=λhh=>by rw[(ho.m1 t hh).2]at ht;cases ht
  have n2:t∉ps.flatMap VP.AM:=λhh=>by rw[ho.p2 t hh]at ht;cases ht
  rw[ha.slot t n2,Fz,Gp n1];refine LF (λr hr=>?_) (λr hr=>?_) _
  ·simp only[AAd]at hr;exact hr.elim (λhr=>(ho.m1 r ((Av _ _).1 hr)).2) λhr=>ho.p2 r ((Av _ _).1 hr)
  ·simp only[AAd]at hr;exact hr.elim (λhr=>(ho.m1 r ((Av _ _).1 hr)).1) λhr=>ho.p1 r ((Av _ _).1 hr)
 roots r hr:=by
  have n1:r∉ms:=λhh=>by rw[(ho.m1 r hh).1]at hr;cases hr
  have n2:r∉ps.flatMap VP.roots:=λhh=>by rw[ho.p1 r hh]at hr;cases hr
  rw[ha.root r n2,B5,Gp n1];rfl
 box r hr:=by
  have n1:r∉ms:=λhh=>by rw[(ho.m1 r hh).2]at hr;cases hr
  have n3:r∉ps.flatMap VP.AM:=λhh=>by rw[ho.p2 r hh]at hr;cases hr
  by_cases n2:r∈ps.flatMap VP.roots
  ·obtain⟨p,hm,vI⟩:=AAL.1 n2;obtain⟨vs,w9,vZ⟩:=ha.get hm;cases p with
   |slot u l=>simp[VP.roots]at vI
   |own u ty e d k=>simp[VP.roots]at vI;subst vI;exact absurd (AAL.2 ⟨_,hm,by simp[VP.AM]⟩) n3
   |box q ls=>
    simp[VP.roots]at vI;subst vI;have vZ:σ.root r=_:=vZ;obtain⟨b1,b2,b3⟩:=hk.box r (Hd n1 n3);rw[vZ];exact⟨w9.1.symm.trans b1,rfl,(BA _ _ _).trans (w9.2.1.trans b3)⟩
  ·rw[ha.root r n2,B5,Gp n1];exact⟨rfl,rfl,rfl⟩
 l1:=ha.l1
 l2:=ha.l2
 Bd:=xc
end
end Go.Ev
namespace Go.Ev
theorem Jt(v m:Nat)(x:Lv):(∀n∈(BJ v m x).AF,n=v)/\(BJ v m x).Cg=true:=by
 obtain⟨l,x⟩:=x;cases l with
 |sl t e=>cases m with
  |zero=>exact⟨λn hn=>by simp[BJ,LA.AF]at hn,rfl⟩
  |succ m=>exact⟨λn hn=>by simp[BJ,LA.AF]at hn;exact hn,rfl⟩
 |_=>exact⟨λn hn=>by simp[BJ,LA.AF]at hn,rfl⟩
theorem Ic(v:Nat)(k:Bool):FB v k=v\/FB v k=1:=by cases k;exact .inl rfl;exact .inr rfl
theorem EJ(v m:Nat)(k:Bool)(x:Lv):(∀n∈(Bx v m k x).AF,n=v\/n=1)/\(Bx v m k x).Cg=true:=by
 obtain⟨l,x⟩:=x;cases l with
 |sl t e=>cases m with
  |zero=>exact⟨(λn hn=>by have hn:n∈([]:Is):=hn;cases hn),rfl⟩
  |succ m=>
   refine⟨λn hn=>?_,rfl⟩;have hn:n∈[FB v k,v]:=hn;simp at hn;rcases hn with rfl|rfl
   ·exact Ic _ _
   ·exact .inl rfl
 |_=>exact⟨(λn hn=>by have hn:n∈([]:Is):=hn;cases hn),rfl⟩
theorem Br(v:Nat):∀(ls:List (Option (L×Nat))) (vs:List Lv),∀a∈AO v ls vs,(∀n∈a.AF,n=v\/n=1)/\a.Cg=true
 | [],vs,a,h=>by cases h
 |none::ls,vs,a,h=>by
  rcases AAf.1 (show a∈.bad::AO v ls vs from h)with rfl|h
  ·exact⟨(λn hn=>by cases hn),rfl⟩
  ·exact Br v ls vs a h
 |some (l,d)::ls,[],a,h=>by
  rcases AAf.1 (show a∈.bad::AO v ls []from h)with rfl|h
  ·exact⟨(λn hn=>by cases hn),rfl⟩
  ·exact Br v ls [] a h
 |some (l,d)::ls,x::vs,a,h=>by
  rcases AAf.1 (show a∈Bx v d (d==3) x::AO v ls vs from h)with rfl|h
  ·exact EJ v d _ x
  ·exact Br v ls vs a h
section
variable {E:Ck}{cx:Cx}{N:Nat}{ms:Is}{ps:List VP}{s0 s1 σ:St}{tm:Array Value}{W:Wd}{uN:List (List Lv)}
theorem Lw(i0:Inv N s0)(ha:Fv ms ps s0 s1 σ W tm (Ei W ps) uN)(xc:σ.Bd=s0.Bd+1):Inv N σ where
 AF:=by
  rw[xc];refine⟨λt n hn=>?_,λr n hn=>?_⟩
  ·by_cases ht:t∈ps.flatMap VP.AM
   ·obtain⟨p,hm,ht⟩:=AAL.1 ht;obtain⟨vs,w9,vZ⟩:=ha.get hm;cases p with
    |slot u l=>
     simp[VP.AM]at ht;subst ht;obtain⟨_,x,rfl,hr⟩:=w9;rw[vZ _ rfl]at hn;simp[one,AV.AF,LA.AF]at hn
    |own u ty e d k=>
     simp[VP.AM]at ht;subst ht;obtain⟨_,xs,rfl,_⟩:=w9;rw[(vZ _ rfl).1]at hn;have:=Ic s0.Bd k;have:=i0.two;simp[one,AV.AF,LA.AF]at hn;omega
    |box r ls=>simp[VP.AM]at ht
   ·rw[ha.slot t ht,Fz]at hn;split at hn
    ·simp[one,AV.AF,LA.AF]at hn
    ·have:=i0.AF.1 t n (KI _ _ _ n hn);omega
  ·by_cases hr:r∈ps.flatMap VP.roots
   ·obtain⟨p,hm,hr⟩:=AAL.1 hr;obtain⟨vs,w9,vZ⟩:=ha.get hm;cases p with
    |slot u l=>simp[VP.roots]at hr
    |own u ty e d k=>
     simp[VP.roots]at hr;subst hr;obtain⟨_,xs,rfl,_⟩:=w9;rw[(vZ _ rfl).2]at hn;rcases AAf.1 hn with hn|hn
     ·have hn:n=s0.Bd:=hn;omega
     ·obtain⟨a,zx,hn⟩:=AAL.1 hn;simp at zx;subst zx;have:=(EJ _ _ _ _).1 n hn;have:=i0.two;omega
    |box q ls=>
     simp[VP.roots]at hr;subst hr;have vZ:σ.root r=_:=vZ;rw[vZ]at hn;rcases AAf.1 hn with hn|hn
     ·have hn:n=(s0.root r).AB:=hn;have:=i0.AF.2 r n (by rw[hn];exact AAk);omega
     ·obtain⟨a,zx,hn⟩:=AAL.1 hn;have:=(Br _ _ _ a zx).1 n hn;have:=i0.two;omega
   ·rw[ha.root r hr,B5]at hn;split at hn
    ·simp[dead,Bz.AF]at hn;omega
    ·have:=i0.AF.2 r n hn;omega
 two:=by have:=i0.two;omega
 len:=ha.l1.trans i0.len
 Bb:=ha.l2.trans i0.Bb
 LW:=by
  intro r a vy;by_cases hr:r∈ps.flatMap VP.roots
  ·obtain⟨p,hm,hr⟩:=AAL.1 hr;obtain⟨vs,w9,vZ⟩:=ha.get hm;cases p with
   |slot u l=>simp[VP.roots]at hr
   |own u ty e d k=>
    simp[VP.roots]at hr;subst hr;obtain⟨_,xs,rfl,_⟩:=w9;rw[(vZ _ rfl).2]at vy;simp at vy;subst vy;exact(EJ _ _ _ _).2
   |box q ls=>
    simp[VP.roots]at hr;subst hr;have vZ:σ.root r=_:=vZ;rw[vZ]at vy;exact(Br _ _ _ a vy).2
  ·rw[ha.root r hr,B5]at vy;split at vy
   ·cases vy
   ·exact i0.LW r a vy
theorem LH(x:(C6 ps).D):(Bm ms ps s0 x).Bd=s0.Bd+1:=by unfold Bm;rw[Iq];rfl
theorem Dc{x:(C6 ps).D}(h1:AW E s1 tm W)(i1:BU s1)(i0:Inv N s0)(hk:Am (cx.in ms ps) s0 s1)(vc:∀t∈ms,cx.lock t=false/\cx.Eu t=false)(hp:Cc cx ms ps=true)(hx:Al ps s1=some x):
  ∃W',W'.w=W.w/\AW E (Bm ms ps s0 x) tm W'/\Inv N (Bm ms ps s0 x)/\Am cx s0 (Bm ms ps s0 x)/\Am (cx.in ms ps) s0 (Bm ms ps s0 x):=by
 obtain⟨uN,ha⟩:=Mr (N:=N) h1 i1 hk hp hx;have hc:=LH (ms:=ms) (s0:=s0) x;have ho:=MW vc hp;exact⟨Ct (Bm ms ps s0 x) W ps,rfl,Lx h1 i1 i0.two hk hp ha,Lw i0 ha hc,Gy ho hk hp ha J,Gy (NF ho) hk hp ha J⟩
end
end Go.Ev
namespace Go.Ev
section
variable {P:Program}{E:Ck}{cx:Cx}{N:Nat}{s:St}{W:Wd}{a:Act}{Q:Exit->Act->World->Prop}
theorem Mx{n:Nat}{tm:Array Value}(h:AW E s tm W):AW E { s with Bd:=n } tm W where
 DS:=h.DS
 Bb:=h.Bb
 AM t:=BO.map (λb hb=>⟨hb,rfl⟩) (λa v hv=>by cases a<;>exact hv) (h.AM t)
 roots r:=by
  obtain⟨q1,q2⟩:=h.roots r;exact⟨λj=>(q1 j).map (λa v hv=>by cases a<;>exact hv) λ_ _ _ _ hr=>hr,q2⟩
 sep:=h.sep
 init:=h.init
theorem MX(hc:Db P cx)(ue:C8 P E cx.env)(hm:P.follows .mixedOrders=true){id:Nat}{ops:Array Oper}{draw:Bool}{R:Type}{k:St->Option R}{x:R}(ua:codeOk N (.region id ops draw)=true)(hslk:∀o∈ops.toList,∀d,o.dst=some d->cx.Eu d=false)
  (uP:AW E s a.tmps W) (hinv:Inv N s) (he:EE cx ⟨ops,s.Bd,draw⟩ (number 0 ops.toList) (Eh ops.toList []) [] s k=some x)
  (hK:∀s' a' W',a'.defers=a.defers->AW E s' a'.tmps W'->Am cx s s'->BU s'->BK s' (· < s.Bd+ops.size)->k s'=some x->Q .normal a' W'.w):(Code.region id ops draw).wp P Q a W.w:=by
 obtain⟨tr,ht,hlen,hk⟩:=EF ops.toList 0 [] s he;simp only[codeOk,AAJ]at ua;obtain⟨hE,wk⟩:=ua
 have hd:∀o∈ops.toList,∀d,o.dst=some d->d<s.sl.length:=by intro o ho d hd;have:=AAW.1 wk o ho;rw[hd]at this;rw[hinv.len];simpa using this
 obtain⟨hkeep,hrin⟩:=GW ops.toList 0 [] s tr ht hslk hinv.LW
 have hfin:∀a' W',a'.defers=a.defers->AW E (AJ (λ_=>true) 0 tr s) a'.tmps W'->BK (AJ (λ_=>true) 0 tr s) (pA s.Bd (· < ops.size))->Q .normal a' W'.w:=λa' W' h1 h2 h3=>
  hK _ a' W' h1 h2 hkeep hrin (h3.mono λn hn=>by
   rcases hn with hn|⟨j,hj,e⟩
   ·omega
   ·have:j<ops.size:=hj;omega) hk
 have h2:=hinv.two;cases draw with
 |false=>
  refine wp_region ?_
  have:=Md (g:=⟨ops,s.Bd,false⟩) (bs:=Eh ops.toList []) (Q:=Q) hc ue (show 1<s.Bd by omega) (λi j hi hj=>by
   have hi:i<ops.size:=hi
   exact Ij (ops:=ops) hE (A:=(· < i)) (λk o hk ho e he hb=>by
     have:=CX ops.toList 0 hE k o (by simpa using ho) e he hb;have hk:k<i:=hk;show e.on<i;omega) (λk hk=>Nat.lt_trans hk hi) (i:=i) (o:=ops[i]) (by simp[hi]) (λe he hb=>by
     have:=CX ops.toList 0 hE i ops[i] (by simp[hi]) e he hb;show e.on<i;omega) j hj) ops.toList 0 [] s tr a W ht (λk o hk=>by simpa using hk) uP (hinv.AF.mono λn hn=>.inl hn) hd (λa' W' q1 q2 q3=>hfin a' W' q1 q2 (by simpa using q3))
  have e:List.range ops.size=List.range' 0 ops.toList.length:=by rw[List.range_eq_range'];simp
  rw[e];exact this
 |true=>
  refine wp_region_any hm ?_
  have wM:∀(tr:List (Nat×List Wr)) (i:Nat) (s:St),AJ (λi=>(Array.replicate ops.size false).getD i false) i tr s=s:=by
   intro tr
   induction tr with
   |nil=>intro i s;rfl
   |cons y tr ih=>
    intro i s;simp only[AJ]
    have:(Array.replicate ops.size false).getD i false=false:=by
     rw[AAi,Array.getElem?_replicate];split<;>rfl
    rw[this];exact ih (i+1) s
  have hrepd:AW E s a.tmps { W with w:={ W.w with drawn:=W.w.drawn+1 } }:=uP.world (λ_ _=>rfl) (λ_ _ _=>rfl) (AAb _) ⟨rfl,rfl,rfl⟩
  exact Ng (g:=⟨ops,s.Bd,true⟩) (Q:=Q) hc ue (show 1<s.Bd by omega) hE rfl ht ADZ hinv.AF hd hfin ops.size (Array.replicate ops.size false) a { W with w:={ W.w with drawn:=W.w.drawn+1 } } OF OF rfl
   (by rw[wM];exact hrepd) (by rw[wM];exact hinv.AF.mono λn hn=>.inl hn) (λi o hi=>by
    rw[AAi,Array.getElem?_replicate]at hi;split at hi<;>cases hi)
end
end Go.Ev
