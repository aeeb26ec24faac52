/- Evaluator. Conditions: none. -/
import Derived.Test.YthlchdmdanagkaaGreatDoorLib1
import Derived.Sort.Grow
import Derived.Deep.Draws
set_option linter.all false
namespace Go.Ev
section
variable {P:Program}{E:Ci}{s:St}{W:Wd}{o:Oper}{a:Act}{ws:List Wr}{cx:Cx}{v:Nat}{tm:Array Value}
theorem IL(n m:Nat)(os yq:Nat->It):((List.range (n+m)).flatMap λi=>if i<n then os i else yq (i-n))=(List.range n).flatMap os++(List.range m).flatMap yq:=by
 rw[List.range_add,List.flatMap_append];congr 1
 ·rw[List.flatMap_def,List.flatMap_def];congr 1;refine List.map_congr_left λi hi=>?_;grind
 ·rw[List.flatMap_map,List.flatMap_def,List.flatMap_def];congr 1;refine List.map_congr_left λi hi=>?_;grind
theorem K2(h:AW E s tm W)(hv:Aj s v){t t0 ty:TypeId}{e:Ls}(yz:P.underlying t=some (.slice t0))(yS:NV P t0 e){d:Nat}(hd:d<tm.size){ux uy:Value}{xs ys:List e.D}{us1 us2:List (Nat×Nat)}{o1:It}
  (hx:AE e 2 W.w W.fz ux xs o1) (hn1:o1.Nodup) (hfrom1:∀b∈o1,∃r j,(r,j)∈us1/\b∈W.om (.lf r j)) (hy:KD P s W e uy ys us2) (hap:∀x∈us1,x∉us2) (hlen:xs.length+ys.length<=E8) (t1:TypeId):
  ∃u w',(Builtin.append_ #[t,t] ty #[ux,uy]).run P W.w=.ok u w'/\∃W',W'.w=w'/\AW E (s.app (gone (us1++us2)++ownRow d v t1 e (xs++ys))) (tm.setIfInBounds d u) W':=by
 obtain⟨i,hi,yP,hby,z,hz,hzc⟩:=yS.info;have hpos:=yS.pos;have yn:xs.length+ys.length<=68719476736:=hlen;obtain⟨A1,c1,hux,hc1,hA1,hs1⟩:=hx.K7;obtain⟨A2,c2,g2,os2,huy,hA2,hs2,hel2,hnd2,hfrom2,hnus2⟩:=hy
 have hcross:∀b∈o1,∀i,i<ys.length->b∉os2 i:=by
  intro b hb i hi yH;obtain⟨r,j,hm,h1⟩:=hfrom1 b hb;obtain⟨r',j',zU,zT⟩:=hfrom2 i hi b yH;by_cases he:(r,j)=(r',j')
  ·grind
  ·exact h.sep.A4 (.lf r j) (.lf r' j') (λe=>he No) b h1 zT
 have hfl2:∀b∈(List.range ys.length).flatMap os2,∃i,i<ys.length/\b∈os2 i:=by intro b hb;obtain⟨i,hi,hb⟩:=AAP.1 hb;exact⟨i,AAb.1 hi,hb⟩
 have hfromAll:∀b,(b∈o1\/b∈(List.range ys.length).flatMap os2)->∃r j,(r,j)∈us1++us2/\b∈W.om (.lf r j):=by
  intro b hb;rcases hb with hb|hb
  ·grind
  ·grind
 have xz:∀b,(∃r j,(r,j)∈us1++us2/\b∈W.om (.lf r j))->b<W.w.heap.size:=λb ⟨r,j,_,hb⟩=>(h.sep.own _ b hb).2.1
 have hnews:∃news:ADc,news.length=ys.length*e.n/\(∀k,k<ys.length*e.n->news[k]?=g2 k)/\(∀v∈news,v.oneCell'=true)/\
   (Builtin.firstCells i.size ys.length (.slice A2 ys.length c2)).run P W.w=.ok news.toArray W.w/\∀ad,A2=some ad->∀j u,news[j]?=some u->W.w.cell? (ad.add j)=some u:=by
  have yV:=hel2.cell
  have zz:∀ad,A2=some ad->∀j u,(Bl g2 (ys.length*e.n))[j]?=some u->W.w.cell? (ad.add j)=some u:=by
   intro ad zb j u hj;have xz:j<ys.length*e.n:=by have:=(AAO.1 hj).1;rwa[Ab]at this
   rw[CK yV j xz]at hj;obtain⟨hs,hg⟩:=hs2 ad zb (λh0=>by grind);rw[E0 hs,hg,hj]
  refine⟨Bl g2 (ys.length*e.n),Ab _ _,CK yV,HX yV,?_,zz⟩;cases hA:A2 with
  |none=>
   have:=hA2 hA;subst this;rw[run_firstCells_none];simp[Bl]
  |some ad=>exact run_firstCells_some W.w i.size ys.length ad ys.length c2 _ (by rw[Ab,yP]) (zz ad hA)
 obtain⟨news,hnl,hng,hn1',hnf,hncell⟩:=hnews;subst hux;subst huy
 have fresh:∀(os1:Nat->It)(arr:Array Value)(cap:Nat),xs.length+ys.length<=cap->cap*e.n<=arr.size->DM e 2 W.w W.fz (λk=>arr[k]?) xs os1->(∀k,k<ys.length*e.n->arr[xs.length*e.n+k]?=g2 k)->
   (∀b∈(List.range xs.length).flatMap os1,b∈o1)->((List.range xs.length).flatMap os1).Nodup->
   ∃W',W'.w=W.w.drew.alloc (.cells arr t0)/\AW E (s.app (gone (us1++us2)++ownRow d v t1 e (xs++ys))) (tm.setIfInBounds d (.slice (some ⟨W.w.heap.size,0,none⟩) (xs.length+ys.length) cap)) W':=by
  intro os1 arr cap zP yt hx1 hy1 yu hnd1;have hold:∀b,b<W.w.heap.size->(W.w.drew.alloc (.cells arr t0)).heap[b]?=W.w.heap[b]?:=λb hb=>Bh W.w.drew _ hb
  have hels:DM e 2 (W.w.drew.alloc (.cells arr t0)) W.fz (λk=>arr[0+k]?) (xs++ys) λi=>if i<xs.length then os1 i else os2 (i-xs.length):=by
   refine DM.append ?_ ?_
   ·refine DM.congr (g:=λk=>arr[k]?) ?_ λk _=>No
    refine hx1.frame (λb hb=>hold b ?_) λ_ hb=>hb;rcases hb with⟨i,hi,hb⟩|hb
    ·exact xz b (hfromAll b (.inl (yu b (AAP.2 ⟨i,AAb.2 hi,hb⟩))))
    ·exact(h.sep.fz b hb).1
   ·refine DM.congr (g:=g2) ?_ λk hk=>No
    refine hel2.frame (λb hb=>hold b ?_) λ_ hb=>hb;rcases hb with⟨i,hi,hb⟩|hb
    ·obtain⟨r,j,hm,h1⟩:=hfrom2 i hi b hb;exact(h.sep.own _ b h1).2.1
    ·exact(h.sep.fz b hb).1
  have yE:=GX (w:=W.w.drew.alloc (.cells arr t0)) (ad:=⟨W.w.heap.size,0,none⟩) (c:=cap) (fr:=(0,0)) (T:=t0) (heap_alloc_new W.w.drew _) rfl J No No hels;rw[ABE,IL]at yE;refine h.C5 hv (us1++us2) hd (t0:=t1) (λb hb=>hold b ?_) (λb hb _=>hold b ADx) No ⟨rfl,rfl,rfl⟩ yE ?_ ?_
  ·rcases hb with hb|⟨k,_,hb⟩
   ·exact(h.sep.fz b hb).1
   ·exact(h.sep.own k b hb).2.1
  ·refine AAf.2 ⟨λxv=>?_,AAc.2 ⟨hnd1,hnd2,λx hx y hy e=>?_⟩⟩
   ·have:=xz _ (hfromAll _ ((ABK.1 xv).imp (yu _) id));exact absurd this (Nat.lt_irrefl _)
   grind
  ·intro b hb;rcases AAj.1 hb with rfl|hb
   ·exact .inr ⟨AAi _,by show _<(W.w.drew.alloc _).heap.size;rw[BR];simp⟩
   grind
 cases A1 with
 |none=>
  obtain⟨rfl,rfl⟩:=hA1 rfl;have hx0:xs=[]:=AAU J;subst hx0;cases ys with
  |nil=>
   refine⟨_,_,D2 t ty t0 i yz hi 0 A2 c2 news hnf,?_⟩;exact h.C5 hv (us1++us2) hd (t0:=t1) (λ_ _=>rfl) (λ_ _ _=>rfl) (AAi _) ⟨rfl,rfl,rfl⟩ Bt AAW (λb hb=>by cases hb)
  |cons y ys=>
   cases A2 with
   |none=>grind
   |some ad2=>
    refine⟨_,_,run_append_nil W.w t ty t0 i z yz hi hz ad2 (y::ys).length c2 news (by rw[hnl,yP]) (hncell ad2 rfl) so (by simp at yn ⊢;omega) (AA5 (Nat.mul_le_mul (show _<=68719476736 by simp at yn ⊢;omega) hby) ADd),?_⟩;have yx:=grownCap_ge W.w (y::ys).length 0 t0
    have:=fresh (λ_=>[]) (news.toArray++Builtin.zeroCells z.cells (grownCap W.w (y::ys).length 0 t0-(y::ys).length)) (grownCap W.w (y::ys).length 0 t0) (by simpa using yx)
     (by
      have:(y::ys).length*e.n+(grownCap W.w (y::ys).length 0 t0-(y::ys).length)*e.n=grownCap W.w (y::ys).length 0 t0*e.n:=by rw[<-AAt];congr 1;omega
      simp only[Array.size_append,List.size_toArray,hnl,Builtin.zeroCells,Array.size_map,Array.size_range,hzc,List.length_map,BT];omega) (λi hi=>by simp at hi)
     (by
      intro k hk;rw[<-hng k hk];simp only[List.length_nil,Nat.zero_mul,AAd];rw[AA3 (by simpa[hnl]using hk)];simp) so so
    grind
 |some ad1=>
  obtain⟨arr,T,fr,os1,hs,hh,yd,zX,hx1,ho10,_⟩:=hs1 ad1 rfl (.inr ADd);have ho1:o1=ad1.block::(List.range xs.length).flatMap os1:=ho10 ADd;have yJ:=zX ADd;clear ho10 zX hs1;obtain⟨b1,yb,sp1⟩:=ad1;dsimp only at hs hh yd hx1 ho1;subst hs;have hnd1:(b1::(List.range xs.length).flatMap os1).Nodup:=ho1▸hn1;by_cases zP:xs.length+ys.length<=c1
  ·
   have hmul:(xs.length+ys.length)*e.n<=c1*e.n:=AAs _ zP;rw[AAt]at hmul;obtain⟨w',hst,yN⟩:=Ee (P:=P) (o:=yb+xs.length*e.n) news hh yJ (by rw[hnl];omega) hn1';have zz:(⟨b1,yb,none⟩:Addr).add (xs.length*i.size)=⟨b1,yb+xs.length*e.n,none⟩:=by rw[yP];exact CT _ _ _
   refine⟨_,_,EM t ty t0 i yz hi ⟨b1,yb,none⟩ xs.length c1 A2 ys.length c2 news hnf zP (by rw[zz];exact hst),?_⟩;have zg:b1∈o1:=by rw[ho1];simp
   have yL:=Cc news (yb+xs.length*e.n) arr (by rw[hnl];omega)
   have hels:DM e 2 w' W.fz (λk=>(B5 news (yb+xs.length*e.n) arr)[yb+k]?) (xs++ys) λi=>if i<xs.length then os1 i else os2 (i-xs.length):=by
    refine DM.append ?_ ?_
    ·refine DM.congr (g:=λk=>arr[yb+k]?) ?_ λk hk=>?_
     ·refine hx1.frame (λb hb=>yN.CX b ?_) λ_ hb=>hb
      rintro rfl
      rcases hb with⟨i,hi,hb⟩|hb
      ·exact(AAf.1 hnd1).1 (AAP.2 ⟨i,AAb.2 hi,hb⟩)
      ·obtain⟨r,j,_,h1⟩:=hfrom1 b zg;exact(h.sep.own _ b h1).1 hb
     ·rw[yL,AAT J]
    ·refine DM.congr (g:=g2) ?_ λk hk=>?_
     ·refine hel2.frame (λb hb=>yN.CX b ?_) λ_ hb=>hb
      rintro rfl
      rcases hb with⟨i,hi,hb⟩|hb
      ·exact hcross b zg i hi hb
      ·obtain⟨r,j,_,h1⟩:=hfrom1 b zg;exact(h.sep.own _ b h1).1 hb
     ·rw[<-hng k hk,yL,AAS (by rw[hnl];omega)];congr 1;omega
   have yE:=GX (w:=w') (ad:=⟨b1,yb,none⟩) (c:=c1) yN.here rfl (by rw[Ar];exact yJ) (by rw[Ar];exact yd) (by simpa using zP) hels;rw[ABE,IL]at yE;refine h.C5 hv (us1++us2) hd (t0:=t1) (λb hb=>yN.CX b ?_) (λb hb hio=>yN.CX b ?_) (by rw[yN.size];exact AAi _) yN.rest yE ?_ ?_
   ·rintro rfl
    obtain⟨r,j,hm,h1⟩:=hfrom1 b zg;rcases hb with hb|⟨k,hk,hb⟩
    ·exact(h.sep.own _ b h1).1 hb
    ·by_cases hkk:k=.lf r j
     ·subst hkk;exact hk.2 (AAY _ hm)
     ·exact h.sep.A4 k _ hkk b hb h1
   ·rintro rfl
    obtain⟨r,j,hm,h1⟩:=hfrom1 b zg;rcases(h.sep.own _ b h1).2.2 with h2|h2
    ·omega
    ·exact hio h2
   ·refine AAf.2 ⟨λxv=>?_,AAc.2 ⟨(AAf.1 hnd1).2,hnd2,λx hx y hy e=>?_⟩⟩
    ·rcases ABK.1 xv with xv|xv
     ·exact(AAf.1 hnd1).1 xv
     ·obtain⟨i,hi,hb⟩:=hfl2 _ xv;exact hcross _ zg i hi hb
    ·subst e;obtain⟨i,hi,hb⟩:=hfl2 x hy;exact hcross x (by rw[ho1];exact AAQ _ hx) i hi hb
   grind
  ·
   cases A2 with
   |none=>grind
   |some ad2=>
    have hcell1:=hx1.cell;have hg1:=CK hcell1
    have holds:∀j u,(Bl (λk=>arr[yb+k]?) (xs.length*e.n))[j]?=some u->W.w.cell? ((⟨b1,yb,none⟩:Addr).add j)=some u:=by
     intro j u hj;have xz:j<xs.length*e.n:=by have:=(AAO.1 hj).1;rwa[Ab]at this
     rw[hg1 j xz]at hj;rw[CT];simp only[World.cell?,hh];simpa using hj
    refine⟨_,_,run_append_grow W.w t ty t0 i z yz hi hz ⟨b1,yb,none⟩ xs.length c1 (Bl (λk=>arr[yb+k]?) (xs.length*e.n)) (by rw[Ab,yP]) holds ad2 ys.length c2 news (by rw[hnl,yP]) (hncell ad2 rfl) J J
     (growslice_fits J (AA5 (Nat.mul_le_mul yn hby) ADd)),?_⟩
    have yx:=grownCap_ge W.w (xs.length+ys.length) c1 t0;refine fresh os1 _ _ yx ?_ ?_ ?_ (λb hb=>by grind) (AAf.1 hnd1).2
    ·have:xs.length*e.n+ys.length*e.n+(grownCap W.w (xs.length+ys.length) c1 t0-(xs.length+ys.length))*e.n=grownCap W.w (xs.length+ys.length) c1 t0*e.n:=by rw[<-AAt,<-AAt];congr 1;omega
     simp only[Array.size_append,List.size_toArray,hnl,Ab,Builtin.zeroCells,Array.size_map,Array.size_range,hzc,List.length_map,BT];omega
    ·refine DM.congr hx1 λk hk=>?_;grind
    ·intro k hk;rw[<-hng k hk];rw[AA3 (by simp[Ab,hnl];omega),Array.getElem?_append_right (by simp[Ab])];simp[Ab]
end
end Go.Ev
namespace Go.Ev
theorem Ha:∀(vs:ADc)(off n:Nat)(arr:Array Value),(vs.zipIdx n).foldl (λcs (p:Value×Nat)=>cs.setIfInBounds (off+p.2) p.1) arr=B5 vs (off+n) arr
 | [],_,_,_=>rfl
 |v::vs,off,n,arr=>by rw[List.zipIdx_cons,List.foldl_cons,Ha vs off (n+1)];rfl
theorem IS{place:Nat->Option (Nat×Nat)}{cells:Array Value}{i:Nat}{v:Value}{rest:List (Nat×Value)}{off size:Nat}(hp:place i=some (off,size))(hs:v.cells.size=size)(hl:off+size<=cells.size):
  Instr.fill place cells ((i,v)::rest)=Instr.fill place (B5 v.cells.toList off cells) rest:=by
 have h1:(v.cells.zipIdx.foldl (λcs (x:Value×Nat)=>match x with|(c,j)=>cs.setIfInBounds (off+j) c) cells)=B5 v.cells.toList off cells:=by rw[<-Array.foldl_toList,Array.toList_zipIdx];exact Ha _ off 0 cells
 simp only[Instr.fill,hp];rw[AAT (by simp[hs];omega)];rw[<-h1]
theorem Fg{α β:Type}{f:α->Option β}:∀ {l:List α} {r:List β},l.mapM f=some r->∀(i:Nat)(x:α),l[i]?=some x->∃y,f x=some y/\r[i]?=some y
 | [],r,h,i,x,hx=>by simp at hx
 |a::l,r,h,i,x,hx=>by
  simp only[List.mapM_cons,Option.bind_eq_bind,Option.pure_def]at h;cases ha:f a with
  |none=>simp[ha]at h
  |some b=>
   cases hr:l.mapM f with
   |none=>simp[ha,hr]at h
   |some r'=>
    simp[ha,hr]at h;subst h;cases i with
    |zero=>simp at hx;subst hx;exact⟨b,ha,rfl⟩
    |succ i=>obtain⟨y,h1,h2⟩:=Fg hr i x (by simpa using hx);exact⟨y,h1,AD0⟩
theorem H9:∀(as:List LA)(ls:List LA)(j:Nat),(ES ls j as).length=ls.length
 | [],_,_=>rfl
 |b::as,ls,j=>by rw[ES,H9 as,CF]
theorem H8:∀(as:List LA)(ls:List LA)(o:Nat),o+as.length<=ls.length->∀k,(ES ls o as)[k]?=if o<=k/\k<o+as.length then as[k-o]? else ls[k]?
 | [],ls,o,h,k=>by rw[ES,AAT so]
 |v::r,ls,o,h,k=>by
  simp only[ABH]at h;rw[ES,H8 r _ (o+1) (by rw[CF];omega) k,CG,List.getElem?_set];by_cases h1:k=o
  ·subst h1;rw[AAT J,AAS rfl,AAS J,AAS so];simp
  ·by_cases h2:o+1<=k/\k<o+1+r.length
   ·rw[AAS h2,AAS ADb];obtain⟨j,rfl⟩:∃j,k=o+1+j:=⟨k-(o+1),J⟩;rw[show o+1+j-(o+1)=j by omega,show o+1+j-o=j+1 by omega];rfl
   ·rw[AAT h2,AAT (λe=>h1 e.symm),AAT ADb]
section
variable {P:Program}{E:Ci}{s:St}{W:Wd}{o:Oper}{a:Act}{ws:List Wr}{cx:Cx}{v:Nat}
theorem NF(h:AW E s a.tmps W){b:LA}{u:Value}(hu:AT s W b u)(hs:s.sure b=true):u.oneCell'=true:=by
 cases b with
 |sc l x=>exact L.FC l hu
 |C6=>rw[show u=_ from hu];rfl
 |I9=>rw[show u=_ from hu];rfl
 |Du e x off=>obtain⟨ad,_,_,_,_,hv,_⟩:=hu;rw[hv];rfl
 |fn f=>rw[show u=_ from hu];rfl
 |ptr r j AB=>
  simp only[St.sure,AAN,AAX]at hs;rw[hu hs.1 hs.2];rfl
 |ref c=>
  simp only[St.sure]at hs;split at hs
  ·rename_i AB gen t e xs d xt;simp only[AAN,AAg,AAX]at hs;obtain⟨yB,hp⟩:=hs;subst yB;have hp:c.p=[]\/gen=c.gen:=hp.imp (λh=>by cases hq:c.p<;>simp_all[isNil]) id;obtain⟨h',e',yW,hn⟩:=hu gen _ _ _ _ xt hp;obtain⟨u',yG,yD⟩:=(h.roots c.r).row xt;rw[yW]at yG;injection yG with yG;subst yG
   obtain⟨d',ys,o',hr,_⟩:=ME c.p yD hn;exact L.FC (.sl 0 e') hr
  ·cases hs
 |D0 c lo hi=>
  simp only[St.sure]at hs;split at hs
  ·rename_i AB gen t e xs d xt;simp only[AAN,AAg,AAX]at hs;obtain⟨yB,hp⟩:=hs;subst yB;have hp:c.p=[]\/gen=c.gen:=hp.imp (λh=>by cases hq:c.p<;>simp_all[isNil]) id;obtain⟨h',e',A,n,k,yW,hn,_,_,hv⟩:=hu gen _ _ _ _ xt hp;rw[hv];rfl
  ·cases hs
 |Ba c=>obtain⟨ad,hv⟩:=Gu hu hs;rw[hv];rfl
 |_=>cases hs
theorem Kb(h:AW E s a.tmps W){g:Bool}{as:List LA}{u:Value}(hu:Ez s W g as u)(hs:(g||as.all s.sure)=true):u.cells.size=as.length/\∀(j:Nat)(b:LA),as[j]?=some b->∃y,u.cells[j]?=some y/\AT s W b y:=by
 refine Im hu λhg=>?_;subst hg;cases as with
 |nil=>exact hu.elim
 |cons b bs=>cases bs with
  |cons=>exact hu.elim
  |nil=>exact cells_one (NF h hu (by simpa using hs))
def II(s:St)(W:Wd)(ls:List LA)(cells:Array Value):Prop:=cells.size=ls.length/\∀(j:Nat)(b:LA),ls[j]?=some b->∃u,cells[j]?=some u/\AT s W b u
theorem II.DL{ls as:List LA}{cells:Array Value}{u:Value}{off:Nat}(hb:II s W ls cells)(hl:off+as.length<=ls.length)(hu:u.cells.size=as.length/\∀(j:Nat)(b:LA),as[j]?=some b->∃y,u.cells[j]?=some y/\AT s W b y):
  II s W (ES ls off as) (B5 u.cells.toList off cells):=by
 refine⟨by rw[Ar,H9,hb.1],λj b hj=>?_⟩;rw[H8 _ _ _ hl]at hj;rw[Cc _ _ _ (by rw[hb.1];simp[hu.1];omega)];by_cases hc:off<=j/\j<off+as.length
 ·rw[AAS hc]at hj;rw[AAS (by simp[hu.1];omega)];obtain⟨y,hy,yh⟩:=hu.2 _ b hj;exact⟨y,ADu,yh⟩
 ·rw[AAT hc]at hj;rw[AAT (by simp[hu.1];omega)];exact hb.2 j b hj
theorem Je(hc:Di P cx)(h:AW E s a.tmps W){fs:List (Nat×TypeId)}{place:Nat->Option (Nat×Nat)}(hpl:∀(i off:Nat)(t:TypeId),fs[i]?=some (off,t)->∃inf,P.info? t=some inf/\place i=some (off,inf.size)):
  ∀(parts:List (Nat×Operand)) {ls ls':List LA} {cells:Array Value},II s W ls cells->HU cx s fs parts ls=some ls'->∃cells',Instr.fill place cells (parts.map λp=>(p.1,a.eval p.2))=some cells'/\II s W ls' cells'
 | [],ls,ls',cells,hb,hl=>by
  injection hl with hl;subst hl
  exact⟨cells,rfl,hb⟩
 |(i,x)::ps,ls,ls',cells,hb,hl=>by
  simp only[HU]at hl;have h1:=BK h x;generalize s.As x=p at hl h1;split at hl
  ·rename_i g as off t zn;split at hl
   ·rename_i tf htf;split at hl
    ·rename_i yC;rw[Fh]at zn;obtain⟨inf,hinf,hp⟩:=hpl i off t zn;obtain⟨inf',hinf',yP,_⟩:=(hc t tf htf).info;rw[hinf]at hinf';injection hinf' with hinf';subst hinf'
     rw[AAN,AAN,AAX,AAh]at yC;obtain⟨⟨hlen,hoff⟩,hsure⟩:=yC;have hu:=Kb h h1 hsure;have yH:=hb.DL (off:=off) J hu;obtain⟨cells',hf,hb''⟩:=Je hc h hpl ps yH hl;refine⟨cells',?_,hb''⟩;rw[ABI,IS hp (by rw[hu.1,hlen,yP]) (by rw[hb.1,yP];exact hoff)];exact hf
    ·cases hl
   ·cases hl
  ·cases hl
theorem Ld(l:L):AT s W (zeroOf l) (B4 l):=by
 cases l with
 |int k=>exact⟨rfl,rfl⟩
 |bool=>exact⟨rfl,rfl⟩
 |str=>exact⟨rfl,rfl⟩
 |sl t e=>exact rfl
theorem MJ(hc:Di P cx)(h:AW E s a.tmps W){t:TypeId}{parts:Array (Nat×Operand)}(ho:o.op=.build t parts)(hl:(AA cx v o s).leads ws):BU P E o a W.w (s.app ws):=by
 simp only[AA,ho]at hl;split at hl
 ·rename_i ty ht;split at hl
  ·rename_i ls zd;rw[AK hl];split at zd
   ·rename_i z8;obtain⟨fs,zn,hfl,pl,hpl⟩:=(hc t ty ht).agg z8;obtain⟨i,hi,yP,z,hz,hzc,_⟩:=(hc t ty ht).info
    have hplace:∀(i off:Nat)(t':TypeId),ty.fs[i]?=some (off,t')->∃inf,P.info? t'=some inf/\pl.toArray[i]?=some (off,inf.size):=by
     intro i off t' hq;rw[<-hfl,AAe]at hq;cases hf:fs.toList[i]? with
     |none=>rw[hf]at hq;cases hq
     |some f=>
      rw[hf]at hq;simp only[ABA,Option.some.injEq,Prod.mk.injEq]at hq;obtain⟨rfl,rfl⟩:=hq;obtain⟨y,h1,h2⟩:=Fg hpl i f hf;cases hinf:P.info? f.type with
      |none=>rw[hinf]at h1;cases h1
      |some inf=>rw[hinf]at h1;injection h1 with h1;subst h1;exact⟨inf,rfl,AD0⟩
    have hz0:II s W (ty.ls.kinds.map zeroOf) z.cells:=by
     refine⟨by rw[hzc];simp,λj b hj=>?_⟩;rw[AAe]at hj;cases hk:ty.ls.kinds[j]? with
     |none=>rw[hk]at hj;cases hj
     |some l=>rw[hk]at hj;injection hj with hj;subst hj;exact⟨B4 l,by rw[hzc];simp[hk],Ld l⟩
    obtain⟨cells,hf,hb⟩:=Je hc h hplace parts.toList hz0 zd;refine AP h (u:=.agg cells) ?_ ⟨cells,rfl,hb.1,hb.2⟩
    have hbuilt:P.built t (parts.map λ(i,x)=>(i,a.eval x)).toList=some cells:=by unfold Program.built;rw[hi,zn];simp only[hz,hpl];rw[ABR];exact hf
    unfold execOp;simp only[ho,Sem.run_bind,run_build W.w t _ cells hbuilt,Result.andThen_ok];rfl
   ·cases zd
  ·exact hl.elim
 ·exact hl.elim
end
end Go.Ev
namespace Go.Ev
theorem DV:∀(ls:Ls) {d:Nat} {w:World} {fz:Nat->Prop} {g:Nat->Option Value} {x:ls.D} {os:Nat->It},
  (∀(j:Nat)(lv:Lv),(unpack ls x)[j]?=some lv->∃u,g j=some u/\lv.l.rd d w fz u lv.x (os j))->ls.rd d w fz g x ((List.range ls.n).flatMap os)
 | .nil,_,_,_,_,_,_,_=>by simp only[Ls.rd,Ls.n];rfl
 | .one l,_,w,fz,g,x,os,h=>by simp only[Ls.rd,Ls.n];obtain⟨u,hu,hr⟩:=h 0 ⟨l,x⟩ rfl;grind
 | .cons l ls,_,w,fz,g,x,os,h=>by simp only[Ls.rd,Ls.n];obtain⟨u,hu,hr⟩:=h 0 ⟨l,x.1⟩ rfl;have ih:=DV ls (g:=λj=>g (j+1)) (os:=λj=>os (j+1)) λj lv hj=>h (j+1) lv (by simpa[unpack]using hj);refine⟨u,os 0,_,hu,hr,ih,?_⟩;rw[Nat.add_comm,List.range_add,List.flatMap_append,List.flatMap_map];grind
def E3(b:LA):Option Lv:=match b with
 | .arr _ _ t e xs 2=>some ⟨.sl t e,xs⟩
 | .sc l x=>if Bj l then none else some ⟨l,x⟩
 |_=>none
section
variable {P:Program}{E:Ci}{s:St}{W:Wd}{o:Oper}{a:Act}{ws:List Wr}{cx:Cx}{v:Nat}
theorem IN{b:LA}{u:Value}{oo:It}{us:List (Nat×Nat)}(ht:JS s W v b u oo us){lv:Lv}(hb:E3 b=some lv):lv.l.rd 2 W.w W.fz u lv.x oo:=by
 unfold E3 at hb;split at hb
 ·injection hb with hb;subst hb
  exact ht.2.2.2.2.2
 ·split at hb
  ·cases hb
  ·rename_i l x hs;injection hb with hb;subst hb
   obtain⟨h1,h2,_⟩:=ht.2.2.2;subst h1;exact(L.AY l No h2).1
 ·cases hb
def A9(g:Bool)(u:Value):Nat->Option Value:=λj=>match g with
 |true=>u.cells[j]?
 |false=>if j=0 then some u else none
theorem Ca{g:Bool}{as:List LA}{u:Value}(hu:Ez s W g as u)(j:Nat)(b:LA)(hj:as[j]?=some b):∃y,A9 g u j=some y/\AT s W b y:=by
 cases g with
 |true=>obtain⟨cs,hcs,_,yL⟩:=hu;obtain⟨y,hy,yh⟩:=yL j b hj;exact⟨y,by simp only[A9,hcs];exact hy,yh⟩
 |false=>
  cases as with
  |nil=>exact hu.elim
  |cons b' bs=>cases bs with
   |cons=>exact hu.elim
   |nil=>cases j with
    |zero=>simp at hj;subst hj;exact⟨u,by simp[A9],hu⟩
    |succ j=>simp at hj
theorem CZ{g:Bool}{as:List LA}{u:Value}(hu:Ez s W g as u)(h1:∀(j:Nat)(b:LA),as[j]?=some b->∃y,A9 g u j=some y/\y.oneCell'=true):u.cells.size=as.length/\∀j,j<as.length->u.cells[j]?=A9 g u j:=by
 cases g with
 |true=>obtain⟨cs,hcs,yP,_⟩:=hu;subst hcs;exact⟨yP,λj _=>rfl⟩
 |false=>
  cases as with
  |nil=>exact hu.elim
  |cons b' bs=>cases bs with
   |cons=>exact hu.elim
   |nil=>
    obtain⟨y,hy,yr⟩:=h1 0 b' rfl;simp[A9]at hy;subst hy;rw[cells_one yr];refine⟨rfl,λj hj=>?_⟩;have:j=0:=ADs
    subst this;simp[A9]
structure Mi(P:Program)(s:St)(W:Wd)(a:Act)(e:Ls)(ps:List (Nat×Operand))(n:Nat)(ys:List e.D)(us:List (Nat×Nat))(os:Nat->It):Prop where
 len:ys.length=ps.length
 nodup:us.Nodup
 Oe:∀i j,i≠j->∀b∈os i,b∉os j
 Om:∀i,(os i).Nodup
 Ot:∀i,ys.length<=i->os i=[]
 N5:∀i,∀b∈os i,∃r j,(r,j)∈us/\b∈W.om (.lf r j)
 el:∀m (hm:m<ys.length),∃x,ps[m]?=some (n+m,x)/\(a.eval x).cells.size=e.n/\e.rd 2 W.w W.fz (λj=>(a.eval x).cells[j]?) ys[m] (os m)
theorem Dy{os:Nat->It}(hn:∀i,(os i).Nodup)(hd:∀i j,i≠j->∀b∈os i,b∉os j):∀n,((List.range n).flatMap os).Nodup
 |0=>so
 |n+1=>by rw[List.range_succ,List.flatMap_append];refine AAc.2 ⟨Dy hn hd n,by simpa using hn n,λx hx y hy e=>?_⟩;grind
theorem HN(h:AW E s a.tmps W)(hv:Aj s v){e:Ls}{β:Type}{z:β}:∀(ps:List (Nat×Operand)) (n:Nat) {k:List e.D->List (Nat×Nat)->Step β},(CO cx s v e ps n k).leads z->
  ∃ys us os,(k ys us).leads z/\Mi P s W a e ps n ys us os
 | [],n,k,hl=>⟨[],[],λ_=>[],hl,rfl,AAW,(λ_ _ _ b hb=>by cases hb),λ_=>AAW,λ_ _=>rfl,(λ_ b hb=>by cases hb),λm hm=>by simp at hm⟩
 |(i,x)::ps,n,k,hl=>by
  simp only[CO]at hl;split at hl
  ·rename_i hi;have hi:i=n:=ADi
   subst hi;have h1:=BK h x;have zp:=Fi hv x;generalize s.As x=p at hl h1 zp;split at hl
   ·rename_i g as;split at hl
    ·rename_i hflat;obtain⟨vs,hl,zE,hvm,hvs⟩:=FR h (g:=A9 g (a.eval x)) (λj b hj=>Ca h1 j b hj) hl;split at hl
     ·rename_i y hy;obtain⟨ys,us,os,hl,yO⟩:=HN h hv ps (i+1) hl;have hup:=Ay e vs y hy;have hen:as.length=e.n:=by rw[<-zE,<-hup,CS]
      have yU:=CZ h1 λj b hj=>by
       have xz:j<vs.length:=by rw[zE];exact(AAO.1 hj).1
       obtain⟨u,hu,hr⟩:=hvs j vs[j] (AAM xz);exact⟨u,hu,L.FC _ hr⟩
      have yD:e.rd 0 W.w (Seen W (as.flatMap LA.roots)) (A9 g (a.eval x)) y []:=Cj e λj lv hj=>No
      have hrd2:=(Ls.AY e hflat yD (d':=2) (w':=W.w) (xy:=W.fz)).1;refine⟨y::ys,us,λm=>match m with|0=>[]|m+1=>os m,hl,by simp[yO.len],yO.nodup,?_,?_,?_,?_,?_⟩
      ·intro i j hij b hb;cases i with
       |zero=>cases hb
       |succ i=>cases j with
        |zero=>simp
        |succ j=>exact yO.Oe i j (λe=>hij (by rw[e])) b hb
      ·intro i;cases i with
       |zero=>grind
       |succ i=>exact yO.Om i
      ·intro i hi;cases i with
       |zero=>simp at hi
       |succ i=>exact yO.Ot i No
      ·intro i b hb;cases i with
       |zero=>cases hb
       |succ i=>exact yO.N5 i b hb
      ·intro m hm;cases m with
       |zero=>exact⟨x,rfl,J,Ls.BP e hrd2 λj hj=>yU.2 j J⟩
       |succ m=>
        obtain⟨x',h1,h2,h3⟩:=yO.el m ADl;grind
     ·exact hl.elim
    ·obtain⟨bs,vs,os0,hl,zh,halen,hvnd,_,hdis0,hbig0,zr⟩:=ER (v:=v) h (g:=A9 g (a.eval x)) (λj b hj=>⟨λxv=>zp (AAP.2 ⟨b,AAR hj,xv⟩),Ca h1 j b hj⟩) hl;split at hl
     ·rename_i lvs hlvs;have hlvs:bs.mapM E3=some lvs:=hlvs;split at hl
      ·rename_i y hy;obtain⟨ys,us,os,hl,yO⟩:=HN h hv ps (i+1) hl;split at hl
       ·rename_i zA
        have hapart:∀x∈vs,x∉us:=by intro x hx hx';have:=AAZ.1 zA x hx;simp at this;exact this hx'
        have hup:=Ay e lvs y hy
        have hlen:lvs.length=bs.length:=by
         have:∀ {l:List LA} {r:List Lv},l.mapM E3=some r->r.length=l.length:=by
          intro l
          induction l with
          |nil=>grind
          |cons b l ih=>
           intro r hr;simp only[List.mapM_cons,Option.bind_eq_bind,Option.pure_def]at hr;cases hb:E3 b with
           |none=>grind
           |some c=>
            cases yi:l.mapM E3 with
            |none=>grind
            |some r'=>grind
         exact this hlvs
        have hen:as.length=e.n:=by rw[<-zh,<-hlen,<-hup,CS]
        have yU:=CZ h1 λj b hj=>by
         have xz:j<bs.length:=by rw[zh];exact(AAO.1 hj).1
         obtain⟨u,hu,hr⟩:=zr j bs[j] (AAM xz);exact⟨u,hu,hr.1⟩
        have yD:e.rd 2 W.w W.fz (A9 g (a.eval x)) y ((List.range e.n).flatMap os0):=DV e λj lv hj=>by
         rw[hup]at hj;have xz:j<bs.length:=by rw[<-hlen];exact(AAO.1 hj).1
         obtain⟨y',hy',hy''⟩:=Fg hlvs j bs[j] (AAM xz);rw[hj]at hy'';injection hy'' with hy'';subst hy''
         obtain⟨u,hu,ht⟩:=zr j bs[j] (AAM xz);exact⟨u,hu,IN ht hy'⟩
        have hnod0:∀j,(os0 j).Nodup:=by
         intro j;by_cases hj:j<bs.length
         ·obtain⟨u,_,ht⟩:=zr j bs[j] (AAM hj);exact ht.2.1
         ·grind
        have hfrom0:∀b∈(List.range e.n).flatMap os0,∃r j,(r,j)∈vs/\b∈W.om (.lf r j):=by
         intro b hb;obtain⟨j,hj,hb⟩:=AAP.1 hb;have hj:j<bs.length:=by rw[zh,hen];exact AAb.1 hj
         obtain⟨u,_,ht⟩:=zr j bs[j] (AAM hj);exact ht.2.2.1 b hb
        have hcross:∀i,∀b∈(List.range e.n).flatMap os0,b∉os i:=by
         intro i b hb yH;obtain⟨r,j,hm,h1⟩:=hfrom0 b hb;obtain⟨r',j',zU,zT⟩:=yO.N5 i b yH;by_cases he:(r,j)=(r',j')
         ·grind
         ·exact h.sep.A4 (.lf r j) (.lf r' j') (λe=>he No) b h1 zT
        refine⟨y::ys,vs++us,λm=>match m with|0=>(List.range e.n).flatMap os0|m+1=>os m,hl,by simp[yO.len],?_,?_,?_,?_,?_,?_⟩
        ·exact AAc.2 ⟨hvnd,yO.nodup,λx hx y hy e=>hapart x hx (e▸hy)⟩
        ·intro i j hij b hb;cases i with
         |zero=>grind
         |succ i=>cases j with
          |zero=>grind
          |succ j=>exact yO.Oe i j (λe=>hij (by rw[e])) b hb
        ·intro i;cases i with
         |zero=>exact Dy hnod0 hdis0 e.n
         |succ i=>exact yO.Om i
        ·intro i hi;cases i with
         |zero=>simp at hi
         |succ i=>exact yO.Ot i No
        ·intro i b hb;cases i with
         |zero=>grind
         |succ i=>obtain⟨r,j,hm,h1⟩:=yO.N5 i b hb;grind
        ·intro m hm;cases m with
         |zero=>exact⟨x,rfl,J,Ls.BP e yD λj hj=>yU.2 j J⟩
         |succ m=>
          obtain⟨x',h1,h2,h3⟩:=yO.el m ADl;grind
       ·exact hl.elim
      ·exact hl.elim
     ·exact hl.elim
   ·exact hl.elim
  ·exact hl.elim
theorem HV{e:Ls}(f:Operand->Value):∀(ps:List (Nat×Operand)) (n:Nat) (arr:Array Value),(∀m x i,ps[m]?=some (i,x)->i=n+m/\(f x).cells.size=e.n)->(n+ps.length)*e.n<=arr.size->
  ∃zO,Instr.fill (λi=>some (i*e.n,e.n)) arr (ps.map λp=>(p.1,f p.2))=some zO/\zO.size=arr.size/\(∀k,k<n*e.n->zO[k]?=arr[k]?)/\∀m i x,ps[m]?=some (i,x)->∀j,j<e.n->zO[(n+m)*e.n+j]?=(f x).cells[j]?
 | [],n,arr,h,hs=>⟨arr,rfl,rfl,λ_ _=>rfl,λm i x hm=>by simp at hm⟩
 |(i,x)::ps,n,arr,h,hs=>by
  obtain⟨hi,yP⟩:=h 0 x i rfl;simp only[AA0]at hi;subst hi;have hs':(i+(ps.length+1))*e.n<=arr.size:=by simpa using hs
  have yd:i*e.n+e.n<=arr.size:=by have h2:(i+1)*e.n<=(i+(ps.length+1))*e.n:=AAs _ J;rw[AAt,ABQ]at h2;omega
  have yL:=Cc (f x).cells.toList (i*e.n) arr No
  obtain⟨zO,hf,yt,hlow,yS⟩:=HV f ps (i+1) (B5 (f x).cells.toList (i*e.n) arr) (λm y j hm=>by
   obtain⟨h1,h2⟩:=h (m+1) y j No;exact⟨J,h2⟩) (by rw[Ar,show i+1+ps.length=i+(ps.length+1) by omega];exact hs')
  refine⟨zO,?_,by rw[yt,Ar],?_,?_⟩
  ·rw[ABI,IS (off:=i*e.n) (size:=e.n) rfl yP yd];exact hf
  ·grind
  ·intro m j y hm q hq;cases m with
   |zero=>
    grind
   |succ m=>
    grind
theorem H0{P:Program}{w:World}{t t0:TypeId}{i:TypeInfo}{z:Value}{len:Nat}{parts:Array (Nat×Value)}{arr:Array Value}(ht:P.underlying t=some (.slice t0))(hi:P.info? t0=some i)(hz:i.zero=some z)
  (hlen:len*i.size<=16777216) (hf:Instr.fill (λj=>some (j*i.size,i.size)) (madeCells z.cells (len*i.size)) parts.toList=some arr):
  (Instr.buildSlice t len parts).run P w=.ok (.slice (some ⟨w.heap.size,0,none⟩) len len) (w.alloc (.cells arr t0)):=by
 have n1:¬(16777216<len*i.size):=J
 by_cases hn:len*i.size=0
 ·rw[hn]at hf;have h0:madeCells z.cells 0 = #[]:=by simp[madeCells]
  rw[h0]at hf;simp[Instr.buildSlice,run_underlying ht,sizeOf,typeInfo,hi,n1,hn,hf,newRow,Array.range_zero']
 ·unfold madeCells at hf;simp[Instr.buildSlice,run_underlying ht,sizeOf,typeInfo,zeroValue,hi,hz,n1,hn,hf,newRow]
end
end Go.Ev
namespace Go.Ev
theorem JH{s:St}{r:Nat}(h:(s.root r).box=true):r<s.ro.length:=by
 rcases AAu r s.ro.length with xz|yx
 ·exact xz
 ·have:s.root r=dead:=Au _ yx;rw[this]at h;cases h
theorem I6{s:St}{r j AB gen:Nat}{t:TypeId}{e:Ls}{xs:List e.D}{d:Nat}(h:s.leaf r j=.arr AB gen t e xs d):r<s.ro.length/\j<(s.root r).ls.length:=by
 constructor
 ·rcases AAu r s.ro.length with xz|yx
  ·exact xz
  ·have:s.root r=dead:=Au _ yx;unfold St.leaf at h;rw[this]at h;cases j<;>cases h
 ·rcases AAu j (s.root r).ls.length with xz|yx
  ·exact xz
  ·unfold St.leaf at h;rw[Au _ yx]at h;cases h
theorem Dw(r:Nat):∀(bs:List LA)(j:Nat)(s:St),(bs=[]\/r<s.ro.length)->j+bs.length<=(s.root r).ls.length->JR s (s.app (A7 r j bs))/\
  ∀r' j',(s.app (A7 r j bs)).leaf r' j'=if r'=r/\j<=j'/\j'<j+bs.length then nth .bad bs (j'-j)else s.leaf r' j'
 | [],j,s,hr,hj=>⟨⟨rfl,rfl,λ_=>⟨rfl,rfl,rfl⟩⟩,λr' j'=>by rw[AAT so];rfl⟩
 |b::bs,j,s,hr,hj=>by
  simp only[ABH]at hj;have hr:r<s.ro.length:=hr.resolve_left so;have h1:=Bo s r j b;obtain⟨h2,h3⟩:=Dw r bs (j+1) (s.AG (.leaf r j b)) (by rw[h1.len];exact .inr hr) (by rw[(h1.box r).2.2];omega);refine⟨⟨h2.sl.trans h1.sl,h2.len.trans h1.len,λx=>⟨(h2.box x).1.trans (h1.box x).1,(h2.box x).2.1.trans (h1.box x).2.1,(h2.box x).2.2.trans (h1.box x).2.2⟩⟩,λr' j'=>?_⟩;show((s.AG (.leaf r j b)).app (A7 r (j+1) bs)).leaf r' j'=_;rw[h3,Fc];by_cases hrr:r'=r
  ·subst hrr;by_cases hjj:j'=j
   ·subst hjj;rw[AAT J,AAS ⟨rfl,rfl,hr,J⟩,AAS ⟨rfl,J,so⟩];simp[nth]
   ·by_cases xv:j+1<=j'/\j'<j+1+bs.length
    ·rw[AAS ⟨rfl,xv⟩,AAS ⟨rfl,J,ADb⟩];obtain⟨k,rfl⟩:∃k,j'=j+1+k:=⟨j'-(j+1),J⟩;rw[show j+1+k-(j+1)=k by omega,show j+1+k-j=k+1 by omega];rfl
    ·rw[AAT (λhh=>xv hh.2),AAT (λhh=>hjj hh.2.1.symm),AAT (λhh=>xv (by simp at hh;omega))]
  grind
section
variable {P:Program}{E:Ci}{s:St}{W:Wd}{o:Oper}{a:Act}{ws:List Wr}{cx:Cx}{v:Nat}{tm:Array Value}
theorem LA.Eg(hv:Aj s v)(r j:Nat):(s.leaf r j).B3=true\/v∉(s.leaf r j).AF:=hv.2.1 r j
theorem AW.J9(h:AW E s tm W)(hv:Aj s v){r j:Nat}(yc:(s.root r).box=true){us:List (Nat×Nat)}{bs:List LA}{os:Nat->It}{cells:ADc}(hlen:cells.length=bs.length)(yd:j+bs.length<=(s.root r).ls.length)
  (zr:∀(i:Nat)(b:LA),bs[i]?=some b->∃u,cells[i]?=some u/\JS s W v b u (os i) us) (yv:∀i j,i≠j->∀b∈os i,b∉os j) (hbig:∀i,bs.length<=i->os i=[])
  {arr:Array Value} {T:TypeId} {fr:Nat×Nat} (harr:W.w.heap[W.bk r]?=some (.cells arr T fr)) {w':World} (yN:NL W.w w' (W.bk r) (B5 cells j arr) T fr):
  ∃W',W'.w=w'/\AW E (s.app (gone us++A7 r j bs)) tm W':=by
 have hr:r<s.ro.length:=JH yc;obtain⟨_,hbx⟩:=h.roots r;rw[AAS yc]at hbx;obtain⟨hom,arr0,T0,fr0,hh,yJ,yP,yW⟩:=hbx;rw[harr]at hh;injection hh with hh;injection hh with e1 e2 e3;subst e1;subst e2;subst e3
 have yL:=Cc cells j arr J
 have yR:∀b,(W.fz b\/∃k,k≠.blk r/\b∈W.om k)->b≠W.bk r:=by
  rintro b hb rfl
  have h0:W.bk r∈W.om (.blk r):=by rw[hom];simp
  rcases hb with hb|⟨k,hk,hb⟩
  ·exact(h.sep.own _ _ h0).1 hb
  ·exact h.sep.A4 k _ hk _ hb h0
 have hw:∀b,(W.fz b\/∃k,k≠.blk r/\b∈W.om k)->w'.heap[b]?=W.w.heap[b]?:=λb hb=>yN.CX b (yR b hb);obtain⟨zH,hleaf1⟩:=De s us;rw[A3];generalize hs1:s.app (gone us)=s1 at zH hleaf1;obtain⟨yZ,yY⟩:=Dw r bs j s1 (by rw[zH.len];exact .inr hr) (by rw[(zH.box r).2.2];exact yd);generalize hs2:s1.app (A7 r j bs)=s' at yZ yY;have zo:s'.sl=s.sl:=yZ.sl.trans zH.sl
 have hbx':∀r,(s'.root r).box=(s.root r).box/\(s'.root r).AB=(s.root r).AB/\(s'.root r).ls.length=(s.root r).ls.length:=λr=>
  ⟨(yZ.box r).1.trans (zH.box r).1,(yZ.box r).2.1.trans (zH.box r).2.1,(yZ.box r).2.2.trans (zH.box r).2.2⟩
 have xt:∀r' j',s'.leaf r' j'=if r'=r/\j<=j'/\j'<j+bs.length then nth .bad bs (j'-j)else if(r',j')∈us then .bad else s.leaf r' j':=λr' j'=>No
 have hrol:s'.ro.length=s.ro.length:=yZ.len.trans zH.len;clear hleaf1 yY zH hs1 hs2
 let W':Wd:={
  w:=w'
  fz:=W.fz
  cv:=λr' j'=>if r'=r then(B5 cells j arr)[j']? else W.cv r' j'
  bk:=W.bk
  om:=λk=>match k with
   | .lf r' j'=>if r'=r/\j<=j'/\j'<j+bs.length then os (j'-j)else if(r',j')∈us then []else W.om (.lf r' j')
   |k=>W.om k }
 have zD:∀i,∀b∈os i,∃r' j',(r',j')∈us/\b∈W.om (.lf r' j'):=by
  intro i b hb;by_cases hi:i<bs.length
  ·obtain⟨u,_,ht⟩:=zr i bs[i] (AAM hi);exact ht.2.2.1 b hb
  ·grind
 have hnth:∀i,i<bs.length->∃u,cells[i]?=some u/\JS s W v (nth .bad bs i) u (os i) us:=by intro i hi;have:=zr i bs[i] (AAM hi);rw[Ae,AAM hi];exact this
 have hcv':∀r' j',¬(r'=r/\j<=j'/\j'<j+bs.length)->W'.cv r' j'=W.cv r' j':=by
  intro r' j' hn;by_cases hrr:r'=r
  ·grind
  ·grind
 have yT:Eh v s s' W W':={
  fz:=λb hb=>hb
  Lf:=λb hb=>hw b (.inl hb)
  leaf:=by
   intro r' j' AB gen t e xs d hl yF;rw[xt]at hl;by_cases xv:r'=r/\j<=j'/\j'<j+bs.length
   ·rw[AAS xv]at hl;obtain⟨u,_,ht⟩:=hnth (j'-j) J;rw[hl]at ht;exact absurd ht.2.2.2.1 yF
   ·rw[AAT xv]at hl;by_cases hm:(r',j')∈us
    ·grind
    ·rw[AAT hm]at hl;refine⟨hcv' r' j' xv,gen,t,xs,d,hl,λ_=>⟨rfl,λp h' e' u' hc hn=>?_⟩⟩;obtain⟨u0,zN,yD⟩:=(h.roots r').row hl;rw[hc]at zN;injection zN with zN;subst zN
     exact BN p yD hn λb hb=>hw b (hb.elim (λhb=>.inr ⟨.lf r' j',so,hb⟩) .inl)
  box:=λr' hb yF=>⟨(hbx' r').1▸hb,(hbx' r').2.1.symm,rfl⟩ }
 have zu:Sep E W':=by
  refine h.sep.IG (λk=>∃r' j',k=.lf r' j'/\((r',j')∈us\/(r'=r/\j<=j'/\j'<j+bs.length))) rfl (by show _<=w'.heap.size;rw[yN.size];omega) ?_ yN.rest ?_ ?_ ?_ ?_
  ·intro b hb hio;refine yN.CX b ?_
   rintro rfl
   have h0:W.bk r∈W.om (.blk r):=by rw[hom];simp
   rcases(h.sep.own _ _ h0).2.2 with h2|h2
   all_goals grind
  ·grind
  ·rintro k ⟨r',j',rfl,hk⟩
   show(if r'=r/\j<=j'/\j'<j+bs.length then os (j'-j)else if(r',j')∈us then []else W.om (.lf r' j')).Nodup;by_cases xv:r'=r/\j<=j'/\j'<j+bs.length
   ·rw[AAS xv];obtain⟨u,_,ht⟩:=hnth (j'-j) J;exact ht.2.1
   grind
  ·rintro k k' ⟨r',j',rfl,hk⟩ ⟨r2,j2,rfl,hk2⟩ yF b hb yH
   have hb:b∈(if r'=r/\j<=j'/\j'<j+bs.length then os (j'-j)else if(r',j')∈us then []else W.om (.lf r' j')):=hb;have yH:b∈(if r2=r/\j<=j2/\j2<j+bs.length then os (j2-j)else if(r2,j2)∈us then []else W.om (.lf r2 j2)):=yH;by_cases xv:r'=r/\j<=j'/\j'<j+bs.length
   ·rw[AAS xv]at hb;by_cases hin2:r2=r/\j<=j2/\j2<j+bs.length
    ·rw[AAS hin2]at yH;exact yv (j'-j) (j2-j) (λe=>yF (by rw[xv.1,hin2.1,show j'=j2 by omega])) b hb yH
    ·rw[AAT hin2,AAS (hk2.resolve_right hin2)]at yH;cases yH
   grind
  ·grind
 refine⟨W',rfl,h.IG hv yT zu (by rw[zo,h.DT]) ?_ (λt=>.inl ⟨by show nth _ s'.sl t=_;rw[zo];rfl,rfl⟩) ?_⟩
 ·rw[hrol,h.Bb]
 ·intro r';obtain⟨h1,h2⟩:=h.roots r';refine⟨λj'=>?_,?_⟩
  ·show Aa s' W' (s'.leaf r' j') (W'.cv r' j') (W'.om (.lf r' j'));have hom':W'.om (.lf r' j')=if r'=r/\j<=j'/\j'<j+bs.length then os (j'-j)else if(r',j')∈us then []else W.om (.lf r' j'):=rfl
   rw[xt,hom'];by_cases xv:r'=r/\j<=j'/\j'<j+bs.length
   ·rw[AAS xv,AAS xv];obtain⟨u,hu,ht⟩:=hnth (j'-j) J
    have hcvv:W'.cv r' j'=some u:=by show(if r'=r then _ else _)=_;grind
    rw[hcvv];obtain⟨_,_,_,ht⟩:=ht;generalize nth LA.bad bs (j'-j)=b at ht;unfold Aa;cases b with
    |arr AB gen t e xs dd=>
     obtain⟨_,_,hr⟩:=ht;refine⟨u,rfl,hr.frame (λb hb=>hw b ?_) λb hb=>hb⟩;grind
    |_=>exact⟨ht.1,λu' yG=>by injection yG with yG;subst yG;exact AT.Dh yT ht.2.2 ht.2.1⟩
   ·rw[AAT xv,AAT xv,hcv' r' j' xv];by_cases hm:(r',j')∈us
    ·rw[AAS hm,AAS hm];exact⟨rfl,λ_ _=>trivial⟩
    ·rw[AAT hm,AAT hm];exact Aa.Dh yT (LA.Eg hv r' j') (λb hb=>hw b (.inr ⟨.lf r' j',so,hb⟩)) (h1 j')
  ·rw[(hbx' r').1];split
   ·rename_i hb;rw[AAS hb]at h2;obtain⟨ho',zO,T',fr',hh',a1,a2,a3⟩:=h2;by_cases hrr:r'=r
    ·subst hrr;rw[harr]at hh';injection hh' with hh';injection hh' with e1 e2 e3;subst e1;subst e2;subst e3
     exact⟨ho',_,_,_,yN.here,by rw[Ar];exact a1,by rw[Ar,(hbx' r').2.2];exact a2,λj'=>AAS rfl⟩
    ·refine⟨ho',zO,T',fr',(hw (W.bk r') (.inr ⟨.blk r',by simpa using hrr,by rw[ho'];simp⟩)).trans hh',a1,by rw[(hbx' r').2.2];exact a2,λj'=>?_⟩;rw[<-a3 j'];exact AAT hrr
   grind
theorem AW.KV(h:AW E s tm W)(hv:Aj s v){r j AB gen:Nat}{t:TypeId}{e:Ls}{xs yj:List e.D}{d:Nat}(hl:s.leaf r j=.arr AB gen t e xs d){u:Value}(yW:W.cv r j=some u){w':World}
  (yD:AE e d w' W.fz u yj (W.om (.lf r j))) (hw:∀b,b∉W.om (.lf r j)->w'.heap[b]?=W.w.heap[b]?) (yP:w'.heap.size=W.w.heap.size) (yO:w'.os=W.w.os/\w'.tape=W.w.tape/\w'.output=W.w.output):
  AW E (s.app [.leaf r j (.arr AB v t e yj d)]) tm { W with w:=w' }:=by
 obtain⟨hr,hj⟩:=I6 hl;show AW E (s.AG (.leaf r j (.arr AB v t e yj d))) tm _;have yA:=Bo s r j (.arr AB v t e yj d);have xt:=Fc s r j (.arr AB v t e yj d);generalize s.AG (.leaf r j (.arr AB v t e yj d))=s' at yA xt;have zi:∀b,W.fz b->w'.heap[b]?=W.w.heap[b]?:=λb hb=>hw b λxv=>(h.sep.own _ b xv).1 hb;have hoth:∀k,k≠.lf r j->∀b∈W.om k,w'.heap[b]?=W.w.heap[b]?:=λk hk b hb=>hw b λxv=>h.sep.A4 k _ hk b hb xv
 have yT:Eh v s s' W { W with w:=w' }:={
  fz:=λb hb=>hb
  Lf:=zi
  leaf:=by
   intro r' j' ver' zW t' e' ys d' zZ yF;rw[xt]at zZ;by_cases xv:r=r'/\j=j'
   ·grind
   ·rw[AAT (λhh=>xv ⟨hh.1,hh.2.1⟩)]at zZ;refine⟨rfl,zW,t',ys,d',zZ,λ_=>⟨rfl,λp h' e2 u' hc hn=>?_⟩⟩;obtain⟨u0,zN,hrd0⟩:=(h.roots r').row zZ;rw[hc]at zN;injection zN with zN;subst zN
    exact BN p hrd0 hn λb hb=>hb.elim (λhb=>hoth _ No b hb) (zi b)
  box:=λr' hb yF=>⟨(yA.box r').1▸hb,(yA.box r').2.1.symm,rfl⟩ }
 have zu:Sep E { W with w:=w' }:={
  nodup:=h.sep.nodup
  A4:=h.sep.A4
  own:=λk b hb=>by obtain⟨a,c,d⟩:=h.sep.own k b hb;grind
  fz:=λb hb=>by obtain⟨a,c⟩:=h.sep.fz b hb;grind
  frame:=λb h1 h2=>(hw b λxv=>by
   rcases(h.sep.own _ b xv).2.2 with h3|h3
   all_goals grind).trans (h.sep.frame b h1 h2)
  size:=by show _<=w'.heap.size;rw[yP];exact h.sep.size
  rest:=⟨yO.1.trans h.sep.rest.1,yO.2.1.trans h.sep.rest.2.1,yO.2.2.trans h.sep.rest.2.2⟩ }
 refine h.IG hv yT zu (by rw[yA.sl,h.DT]) (by rw[yA.len,h.Bb]) (λt=>.inl ⟨by show nth _ s'.sl t=_;rw[yA.sl];rfl,rfl⟩) ?_;intro r';obtain⟨h1,h2⟩:=h.roots r';refine⟨λj'=>?_,?_⟩
 ·show Aa s' _ (s'.leaf r' j') (W.cv r' j') (W.om (.lf r' j'));rw[xt];by_cases xv:r=r'/\j=j'
  ·obtain⟨rfl,rfl⟩:=xv;rw[AAS ⟨rfl,rfl,hr,hj⟩];exact⟨u,yW,yD⟩
  ·rw[AAT (λhh=>xv ⟨hh.1,hh.2.1⟩)];exact Aa.Dh yT (LA.Eg hv r' j') (hoth _ No) (h1 j')
 ·rw[(yA.box r').1];split
  ·rename_i hb;rw[AAS hb]at h2;obtain⟨ho',zO,T',fr',hh',a1,a2,a3⟩:=h2;exact⟨ho',zO,T',fr',(hoth (.blk r') so _ (by rw[ho'];simp)).trans hh',a1,by rw[(yA.box r').2.2];exact a2,a3⟩
  grind
end
end Go.Ev
namespace Go.Ev
def Plain(w:World)(fz:Nat->Prop)(vs:List Lv)(cells:ADc):Prop:=
 cells.length=vs.length/\∀(m:Nat)(lv:Lv),vs[m]?=some lv->Bj lv.l=false/\∃u,cells[m]?=some u/\∀d w' xy,lv.l.rd d w' xy u lv.x []
theorem DJ{w:World}{fz:Nat->Prop}:∀(e:Ls)(off:Nat)(vs:List Lv)(cells:ADc) {f:e.D->e.D} {d:Nat} {g g':Nat->Option Value} {x:e.D} {o:It},Bf e off vs=some f->Plain w fz vs cells->
  e.rd d w fz g x o->(∀m,m<e.n->g' m=if off<=m/\m<off+vs.length then cells[m-off]? else g m)->off+vs.length<=e.n/\e.rd d w fz g' (f x) o
 | .nil,off,vs,cells,f,d,g,g',x,o,hf,hp,hr,hg=>by simp[Bf]at hf
 | .one l,off,vs,cells,f,d,g,g',x,o,hf,hp,hr,hg=>by
  simp only[Bf]at hf;split at hf
  ·rename_i v;split at hf
   ·rename_i y hy;injection hf with hf;subst hf
    obtain⟨l',z⟩:=v;obtain⟨e1,e2⟩:=L.AH hy;dsimp only at e1;subst e1;have e2:z=y:=e2;subst e2;obtain⟨hns,u,hu,yG⟩:=hp.2 0 ⟨l',z⟩ rfl;simp only[Ls.rd]at hr ⊢;obtain⟨v0,hv0,hr⟩:=hr;have ho:=(L.AY l' hns hr (d':=d) (w':=w) (xy:=fz)).2;subst ho;refine⟨by simp[Ls.n],u,?_,yG _ _ _⟩;rw[hg 0 (by simp[Ls.n]),AAS so,<-hu]
   ·cases hf
  ·cases hf
 | .cons l ls,off,vs,cells,f,d,g,g',x,o,hf,hp,hr,hg=>by
  simp only[Bf]at hf;simp only[Ls.rd]at hr ⊢;obtain⟨v0,o1,o2,hv0,h1,h2,rfl⟩:=hr;cases off with
  |zero=>
   simp only at hf;split at hf
   ·cases hf
   ·rename_i v;split at hf
    ·rename_i y hy;injection hf with hf;subst hf
     obtain⟨l',z⟩:=v;obtain⟨e1,e2⟩:=L.AH hy;dsimp only at e1;subst e1;have e2:z=y:=e2;subst e2;obtain⟨hns,u,hu,yG⟩:=hp.2 0 ⟨l',z⟩ rfl;have ho:=(L.AY l' hns h1 (d':=d) (w':=w) (xy:=fz)).2;subst ho;refine⟨by simp[Ls.n]<;>omega,u,[],o2,?_,yG _ _ _,?_,rfl⟩
     ·rw[hg 0 (by simp[Ls.n]<;>omega),AAS so,<-hu]
     ·exact Ls.BP ls h2 λj hj=>by rw[hg (j+1) (by simp[Ls.n]<;>omega),AAT so]
    ·cases hf
   ·rename_i v u0 vs';split at hf
    ·rename_i y f' hy hf';injection hf with hf;subst hf
     obtain⟨l',z⟩:=v;obtain⟨e1,e2⟩:=L.AH hy;dsimp only at e1;subst e1;have e2:z=y:=e2;subst e2;obtain⟨hns,u,hu,yG⟩:=hp.2 0 ⟨l',z⟩ rfl;have ho:=(L.AY l' hns h1 (d':=d) (w':=w) (xy:=fz)).2;subst ho
     obtain⟨c0,cs,rfl⟩:∃c0 cs,cells=c0::cs:=by
      cases cells with
      |nil=>grind
      |cons c cs=>grind
     obtain⟨ih1,ih2⟩:=DJ ls 0 (u0::vs') cs (g':=λj=>g' (j+1)) hf' ⟨by have:=hp.1;grind,λm lv hm=>by
      have:=hp.2 (m+1) lv ADl;grind⟩ h2 (λm hm=>by
       rw[hg (m+1) (by simp[Ls.n]<;>omega)];grind)
     refine⟨by simp[Ls.n]at ih1 ⊢ <;> omega,u,[],o2,?_,yG _ _ _,ih2,rfl⟩;rw[hg 0 (by simp[Ls.n]<;>omega),AAS so,<-hu]
    ·cases hf
  |succ off=>
   simp only at hf;split at hf
   ·rename_i f' hf';injection hf with hf;subst hf
    obtain⟨ih1,ih2⟩:=DJ ls off vs cells (g':=λj=>g' (j+1)) hf' hp h2 (λm hm=>by
     rw[hg (m+1) (by simp[Ls.n]<;>omega)];grind)
    refine⟨by simp[Ls.n]<;>omega,v0,o1,o2,?_,h1,ih2,rfl⟩;rw[hg 0 (by simp[Ls.n]<;>omega),AAT J];exact hv0
   ·cases hf
theorem Jq{w:World}{fz:Nat->Prop}:∀(e:Ls)(j:Nat) {G:(t:TypeId)->(f:Ls)->Option (List f.D->List f.D)} {hh:e.D->e.D} {g:Nat->Option Value} {x:e.D} {o:It} {t:TypeId} {f:Ls} {h':Value},EJ e j G=some hh->
  e.kinds[j]?=some (.sl t f)->e.rd 2 w fz g x o->g j=some h'->∃(fn:List f.D->List f.D) (ys:List f.D) (o':It),G t f=some fn/\AE f 2 w fz h' ys o'/\(∀b∈o',b∈o)/\(o.Nodup->o'.Nodup)/\
   ∀w',AE f 2 w' fz h' (fn ys) o'->(∀b,b∈o\/fz b->b∉o'->w'.heap[b]?=w.heap[b]?)->(∀b,fz b->b∉o')->o.Nodup->e.rd 2 w' fz g (hh x) o
 | .nil,j,G,hh,g,x,o,t,f,h',hm,hk,hr,hg=>by simp[EJ]at hm
 | .one l,j,G,hh,g,x,o,t,f,h',hm,hk,hr,hg=>by
  simp only[EJ]at hm;simp only[Ls.rd]at hr;obtain⟨v,hv,hr⟩:=hr;cases j with
  |succ j=>cases hm
  |zero=>
   simp[Ls.kinds]at hk;subst hk;rw[hg]at hv;injection hv with hv;subst hv
   refine⟨hh,x,o,hm,hr,λb hb=>hb,id,λw' yi _ _ _=>?_⟩;simp only[Ls.rd];exact⟨h',hg,yi⟩
 | .cons l ls,j,G,hh,g,x,o,t,f,h',hm,hk,hr,hg=>by
  simp only[EJ]at hm;simp only[Ls.rd]at hr;obtain⟨v,o1,o2,hv,h1,h2,rfl⟩:=hr;cases j with
  |zero=>
   simp[Ls.kinds]at hk;subst hk;rw[hg]at hv;injection hv with hv;subst hv
   simp only at hm;split at hm
   ·rename_i fn hfn;injection hm with hm;subst hm
    refine⟨fn,x.1,o1,hfn,h1,λb hb=>AAY _ hb,λhn=>(AAc.1 hn).1,λw' yi hf hz hn=>?_⟩;simp only[Ls.rd];refine⟨h',o1,o2,hg,yi,Ls.AN ls h2 (λb hb=>hf b (hb.imp (AAV _) id) ?_) (λb hb=>hb),rfl⟩;grind
   ·cases hm
  |succ j=>
   simp only at hm;split at hm
   ·rename_i h2' hh';injection hm with hm;subst hm
    obtain⟨fn,ys,o',a1,a2,a3,a4,a5⟩:=Jq ls j hh' (by simpa[Ls.kinds]using hk) h2 (show(λj=>g (j+1)) j=_ from hg);refine⟨fn,ys,o',a1,a2,λb hb=>AAV _ (a3 b hb),λhn=>a4 (AAc.1 hn).2.1,λw' yi hf hz hn=>?_⟩;simp only[Ls.rd];refine⟨v,o1,o2,hv,L.AN l h1 (λb hb=>hf b (hb.imp (AAY _) id) ?_) (λb hb=>hb),a5 w' yi (λb hb hnb=>hf b (hb.imp (AAV _) id) hnb) hz (AAc.1 hn).2.1,rfl⟩;grind
   ·cases hm
theorem Er:∀(e:Ls),(∀l∈e.kinds,Bj l=false)->Bx e=true
 | .nil,_=>rfl
 | .one l,h=>by simp[Bx,h l (by simp[Ls.kinds])]
 | .cons l ls,h=>by simp[Bx,h l (by simp[Ls.kinds]),Er ls λl hl=>h l (by simp[Ls.kinds,hl])]
theorem E9{α:Type}(xs:List α)(i:Nat)(f:α->α)(m:Nat)(hm:m<(xs.modify i f).length):(xs.modify i f)[m]=if i=m then f (xs[m]'(by grind))else xs[m]'(by grind):=No
theorem Ko{e:Ls}{d:Nat}{w:World}{fz:Nat->Prop}{a:Addr}{n k:Nat}{xs:List e.D}{o:It}(hr:AE e d w fz (.slice (some a) n k) xs o)(hd:0<d)(hn:o.Nodup)(hz:∀b∈o,¬fz b){i:Nat}(hi:i<n)
  {off:Nat} {cells:ADc} {F:e.D->e.D} (yd:off+cells.length<=e.n)
  (hF:∀g g' x oo,e.rd (dec d) w fz g x oo->(∀m,m<e.n->g' m=if off<=m/\m<off+cells.length then cells[m-off]? else g m)->e.rd (dec d) w fz g' (F x) oo):
  a.spot=none/\∃arr T fr,w.heap[a.block]?=some (.cells arr T fr)/\(∀j,j<arr.size->¬(fr.1<=j/\j<fr.2))/\a.off+(i*e.n+off)+cells.length<=arr.size/\a.block∈o/\
   ∀w',NL w w' a.block (B5 cells (a.off+(i*e.n+off)) arr) T fr->AE e d w' fz (.slice (some a) n k) (xs.modify i F) o:=by
 obtain⟨A,c,hv,hc,_,yf⟩:=hr.K7;injection hv with hA hl hk
 subst hA;subst hl;subst hk;obtain⟨arr,T,fr,os,hs,hh,yP,yJ,yS,ho,_⟩:=yf a rfl (.inr hd);have ho:=ho hd;have yJ:=yJ hd
 have hmul:i*e.n+e.n<=k*e.n:=by have:(i+1)*e.n<=k*e.n:=AAs _ J;rw[AAt,ABQ]at this;omega
 have hbnd:a.off+(i*e.n+off)+cells.length<=arr.size:=J
 refine⟨hs,arr,T,fr,hh,yJ,hbnd,by rw[ho];simp,λw' yN=>?_⟩;have yL:=Cc cells (a.off+(i*e.n+off)) arr hbnd;have hd':decide (0<d)=true:=by simpa using hd
 refine⟨some a,k,so,ADt,?_⟩;refine .inr ⟨λq=>(B5 cells (a.off+(i*e.n+off)) arr)[a.off+q]?,os,⟨hs,_,T,fr,yN.here,by rw[Ar];exact yP,λ_=>by rw[Ar];exact yJ,λ_=>rfl⟩,λm hm=>?_,?_⟩
 ·have zU:m<xs.length:=ADl
  have hnod:a.block∉os m:=by intro xv;rw[ho]at hn;exact(AAf.1 hn).1 (AAP.2 ⟨m,AAb.2 zU,xv⟩)
  rw[E9]
  have zY:∀ {g x},e.rd (dec d) w fz g x (os m)->e.rd (dec d) w' fz g x (os m):=λh=>Ls.AN e h (λb hb=>yN.CX b (by
   rintro rfl
   rcases hb with hb|hb
   ·exact hnod hb
   ·exact hz _ (by rw[ho];simp) hb)) λ_ hb=>hb
  by_cases zj:i=m
  ·subst zj;rw[AAS rfl];refine zY (hF _ _ _ _ (yS i zU) λq hq=>?_);show(B5 cells (a.off+(i*e.n+off)) arr)[a.off+(i*e.n+q)]?=_;rw[yL];by_cases hc:off<=q/\q<off+cells.length
   ·rw[AAS J,AAS hc];congr 1;omega
   ·rw[AAT J,AAT hc]
  ·rw[AAT zj];refine zY (Ls.BP e (yS m zU) λq hq=>?_);show(B5 cells (a.off+(i*e.n+off)) arr)[a.off+(m*e.n+q)]?=_;rw[yL,AAT];intro hc;rcases ABL zj with h1|h1
   ·have:(i+1)*e.n<=m*e.n:=AAs _ h1;rw[AAt,ABQ]at this;omega
   ·have:(m+1)*e.n<=i*e.n:=AAs _ h1;rw[AAt,ABQ]at this;omega
 grind
theorem KU{w:World}{fz:Nat->Prop}{e:Ls}{vs:List Lv}{y:e.D}{cells:ADc}(hy:pack e vs=some y)(hp:Plain w fz vs cells){g:Nat->Option Value}(hg:∀m,m<e.n->g m=cells[m]?):
  Bx e=true/\vs.length=e.n/\∀d w' xy,e.rd d w' xy g y []:=by
 have hup:=Ay e vs y hy;have hlen:vs.length=e.n:=by rw[<-hup,CS]
 have hfl:Bx e=true:=Er e λl hl=>by rw[<-Dz e y,hup]at hl;obtain⟨lv,hm,rfl⟩:=AAw.1 hl;obtain⟨m,hm⟩:=AAv hm;exact(hp.2 m lv hm).1
 refine⟨hfl,hlen,λd w' xy=>?_⟩
 have:e.rd 0 w' xy g y []:=Cj e λj lv hj=>by
  rw[hup]at hj;have xz:j<e.n:=by rw[<-hlen];exact(AAO.1 hj).1
  obtain⟨_,u,hu,hr⟩:=hp.2 j lv hj;grind
 exact(Ls.AY e hfl this).1
theorem FF{α:Type}:∀(xs:List α)(i:Nat)(y:α),DL xs i y=xs.modify i λ_=>y
 | [],i,y=>by cases i<;>simp[DL]
 |x::xs,0,y=>by simp[DL]
 |x::xs,i+1,y=>by simp[DL,FF xs i y]
theorem H3{x:Nat×Nat}{p:List (Nat×Nat)}(hp:p≠[]){q:List (Nat×Nat)}{i off:Nat}(h:Ah (x::p)=some (q,i,off)):∃q',q=x::q'/\Ah p=some (q',i,off):=by
 cases p with
 |nil=>grind
 |cons y r=>
  simp only[Ah]at h;grind
theorem CA{os:Nat->It}:∀ {l:It},(l.flatMap os).Nodup->∀ {i j:Nat},i∈l->j∈l->i≠j->∀b∈os i,b∉os j
 | [],_,i,j,hi,_,_=>by cases hi
 |x::l,h,i,j,hi,hj,yF=>by
  rw[AAq]at h;obtain⟨h1,h2,h3⟩:=AAc.1 h;intro b hb yH;rcases AAj.1 hi with zc|zc
  ·grind
  ·rcases AAj.1 hj with hj'|hj'
   ·grind
   ·exact CA h2 zc hj' yF b hb yH
theorem CB{os:Nat->It}:∀ {l:It},(l.flatMap os).Nodup->∀ {i:Nat},i∈l->(os i).Nodup
 | [],_,i,hi=>by cases hi
 |x::l,h,i,hi=>No
theorem Kh{vs:List Lv}{cells:ADc}{w:World}{fz:Nat->Prop}(hp:Plain w fz vs cells){i off:Nat}{e':Ls}{a:Addr}{n k:Nat}(hi:i<n):∀(p q:List (Nat×Nat)) {e:Ls} {d:Nat} {h:Value} {xs:List e.D} {o:It} {f:List e.D->List e.D},
  I7 vs p e=some f->AE e d w fz h xs o->o.Nodup->(∀b∈o,¬fz b)->0<d->(p.length<=1\/d=2)->Ah p=some (q,i,off)->JK w q e h e' (.slice (some a) n k)->
  a.spot=none/\∃arr T fr,w.heap[a.block]?=some (.cells arr T fr)/\(∀j,j<arr.size->¬(fr.1<=j/\j<fr.2))/\a.off+(i*e'.n+off)+cells.length<=arr.size/\a.block∈o/\
   ∀w',NL w w' a.block (B5 cells (a.off+(i*e'.n+off)) arr) T fr->AE e d w' fz h (f xs) o
 | [],q,e,d,h,xs,o,f,hm,hr,hn,hz,hd,hpl,hs,hnav=>by simp[I7]at hm
 | [(i0,j0)],q,e,d,h,xs,o,f,hm,hr,hn,hz,hd,hpl,hs,hnav=>by
  simp only[Ah,Option.some.injEq,Prod.mk.injEq]at hs;obtain⟨rfl,rfl,rfl⟩:=hs;obtain⟨rfl,rfl⟩:=hnav;simp only[I7]at hm;split at hm
  ·rename_i y hy;injection hm with hm;subst hm
   split at hy
   ·rename_i hc;simp only[AAN,AAX]at hc;obtain⟨rfl,hlen⟩:=hc
    have:=Ko (F:=λ_=>y) (off:=0) (cells:=cells) hr hd hn hz hi (by rw[hp.1,hlen];omega) (λg g' x oo hx hg=>by
     obtain⟨hfl,_,zA⟩:=KU hy hp (g:=g') λm hm=>by rw[hg m hm,AAS (by rw[hp.1,hlen];omega)];simp
     have:=(Ls.AY e' hfl hx (d':=0) (w':=w) (xy:=fz)).2;grind)
    simpa only[FF]using this
   ·cases hy
  ·split at hm
   ·rename_i f' hf';injection hm with hm;subst hm
    have hlen:∀g x oo,e'.rd (dec d) w fz g x oo->j0+vs.length<=e'.n:=λg x oo hx=>(DJ e' j0 vs cells (g':=λm=>if j0<=m/\m<j0+vs.length then cells[m-j0]? else g m) hf' hp hx λm _=>rfl).1;obtain⟨A,c,hv,hc,_,yf⟩:=hr.K7;injection hv with hA hl hk
    subst hA;subst hl;subst hk;obtain⟨arr,T,fr,os,_,_,_,_,yS,_,_⟩:=yf a rfl (.inr hd);have yd:=hlen _ _ _ (yS i0 hi);exact Ko (F:=f') (off:=j0) (cells:=cells) hr hd hn hz hi (by rw[hp.1];exact yd) (λg g' x oo hx hg=>(DJ e' j0 vs cells hf' hp hx λm hm=>by rw[hg m hm,hp.1]).2)
   ·cases hm
 |(i0,j0)::p0::ps,q,e,d,h,xs,o,f,hm,hr,hn,hz,hd,hpl,hs,hnav=>by
  have hd2:d=2:=hpl.resolve_left so;subst hd2;obtain⟨q',rfl,hs'⟩:=H3 so hs;simp only[I7]at hm;split at hm
  ·rename_i hh hhh;injection hm with hm;subst hm
   obtain⟨a0,len,c,t,ff,h',rfl,hs0,hi0,hk,yV,hnav'⟩:=hnav;obtain⟨A,cc,hv,hc,_,yf⟩:=hr.K7;injection hv with hA hl zJ
   subst hA;subst hl;subst zJ;obtain⟨arr,T,fr,os,_,hhp,yP,yJ,yS,ho,_⟩:=yf a0 rfl (.inr hd);have ho:=ho hd;have yJ:=yJ hd
   have hcell':arr[a0.off+(i0*e.n+j0)]?=some h':=by simp only[World.cell?,at_,hhp]at yV;simpa using yV
   have zG:=hn;rw[ho]at zG
   have hosn:(os i0).Nodup:=by exact CB (AAf.1 zG).2 (AAb.2 hi0)
   have yu:∀m,m<xs.length->∀b∈os m,b∈o:=λm hm b hb=>by rw[ho];exact AAQ _ (AAP.2 ⟨m,AAb.2 hm,hb⟩)
   have yv:∀m,m<xs.length->m≠i0->∀b∈os i0,b∉os m:=by intro m hm yF b hb yH;have h3:=(AAf.1 zG).2;have:=CA h3 (AAb.2 hi0) (AAb.2 hm) (λe=>yF e.symm) b hb;exact this yH
   obtain⟨fn,ys,o',hfn,yE,zD,hond,hback⟩:=Jq e j0 hhh hk (yS i0 hi0) hcell';obtain⟨hspot,arr2,T2,fr2,hh2,hb2,hbnd,xv,hput2⟩:=Kh hp hi (p0::ps) q' hfn yE (hond hosn) (λb hb=>hz b (yu i0 hi0 b (zD b hb))) hd (.inr rfl) hs' hnav';refine⟨hspot,arr2,T2,fr2,hh2,hb2,hbnd,yu i0 hi0 _ (zD _ xv),λw' yN=>?_⟩;have hrow':=hput2 w' yN;have hne0:a0.block≠a.block:=λe=>(AAf.1 zG).1 (AAP.2 ⟨i0,AAb.2 hi0,by rw[e];exact zD _ xv⟩);refine⟨some a0,c,so,ADt,.inr ⟨λqq=>arr[a0.off+qq]?,os,⟨hs0,arr,T,fr,(yN.CX _ hne0).trans hhp,yP,λ_=>yJ,λ_=>rfl⟩,λm hm=>?_,?_⟩⟩
   ·have zU:m<xs.length:=ADl
    rw[E9];by_cases zj:i0=m
    ·subst zj;rw[AAS rfl];refine hback w' hrow' (λb hb hnb=>yN.CX b (λe=>hnb (e▸xv))) (λb hb yH=>hz b (yu i0 hi0 b (zD b yH)) hb) hosn
    ·rw[AAT zj];refine Ls.AN e (yS m zU) (λb hb=>yN.CX b ?_) λ_ hb=>hb
     rintro rfl
     rcases hb with hb|hb
     ·exact yv m zU (λe=>zj e.symm) _ (zD _ xv) hb
     ·exact hz _ (yu i0 hi0 _ (zD _ xv)) hb
   grind
  ·cases hm
end Go.Ev
namespace Go.Ev
def Ge(w:World)(fz:Nat->Prop)(g:Bool)(ls:List (L×Nat))(u:Value)(vs:List Lv)(own:Nat->It):Prop:=
 vs.map (·.l)=ls.map (·.1)/\(match g with
  |true=>∃cs:Array Value,u=.agg cs/\cs.size=ls.length
  |false=>ls.length=1)/\∀(j:Nat)(p:L×Nat)(lv:Lv),ls[j]?=some p->vs[j]?=some lv->∃y,A9 g u j=some y/\lv.l.rd p.2 w fz y lv.x (own j)
def Mh(w:World)(fz:Nat->Prop)(ls:List (L×Nat))(u:Value)(vs:List Lv)(blk:Nat)(own:Nat->It):Prop:=
 u=.pointer (some ⟨blk,0,none⟩)/\vs.map (·.l)=ls.map (·.1)/\∃(arr:Array Value) (T:TypeId) (fr:Nat×Nat),w.heap[blk]?=some (.cells arr T fr)/\(∀j,j<arr.size->¬(fr.1<=j/\j<fr.2))/\arr.size=ls.length/\
  ∀(j:Nat)(p:L×Nat)(lv:Lv),ls[j]?=some p->vs[j]?=some lv->∃y,arr[j]?=some y/\lv.l.rd p.2 w fz y lv.x (own j)
def Mj(w:World)(fz:Nat->Prop)(pm:PM)(u:Value)(vs:List Lv)(blk:Nat)(own:Nat->It):Prop:=match pm with
 | .val g ls=>Ge w fz g (ls.map λl=>(l,0)) u vs λ_=>[]
 | .box ls=>Mh w fz ls u vs blk own
 | .row g ls=>Ge w fz g ls u vs own
 | .fn f=>u=.func (.func f) #[] #[]/\vs=[]
def JP(w:World)(fz:Nat->Prop)(pm:PM)(u:Value)(vs:List Lv)(blk:Nat)(own:Nat->It):Prop:=match pm with
 | .val _ _=>vs=[]
 | .box ls=>Mh w fz ls u vs blk own
 | .row g ls=>Ge w fz g ls u vs own
 | .fn _=>vs=[]
def D6(w:World)(fz:Nat->Prop)(om:Nat->It):List (Bool×List (L×Nat))->ADc->List (List Lv)->Nat->Prop
 | [],[],[],_=>True
 |(g,ls)::rs,u::us,vs::xu,off=>Ge w fz g ls u vs (λj=>om (off+j))/\D6 w fz om rs us xu (off+ls.length)
 |_,_,_,_=>False
structure Dj(ps:List PM)(w:World)(fz:Nat->Prop)(args:ADc)(xu:List (List Lv))(bk:Nat->Nat)(om:Key->It):Prop where
 len:args.length=ps.length
 Bb:xu.length=ps.length
 each:∀(i:Nat)(pm:PM)(u:Value)(vs:List Lv),ps[i]?=some pm->args[i]?=some u->xu[i]?=some vs->Mj w fz pm u vs (bk i) λj=>om (.lf i j)
 blk:∀i,om (.blk i)=match ps[i]? with
  |some (.box _)=>[bk i]
  |_=>[]
 none:∀i,(∀ls,ps[i]?≠some (.box ls))->(∀g ls,ps[i]?≠some (.row g ls))->∀j,om (.lf i j)=[]
 box:∀i ls,ps[i]?=some (.box ls)->∀j,ls.length<=j->om (.lf i j)=[]
 row:∀i g ls,ps[i]?=some (.row g ls)->∀j,ls.length<=j->om (.lf i j)=[]
 fl:∀k,om (.fl k)=[]
 nodup:∀k,(om k).Nodup
 A4:∀k k',k≠k'->∀b∈om k,b∉om k'
 own:∀k,∀b∈om k,¬fz b/\b<w.heap.size
 fz:∀b,fz b->b<w.heap.size
def KW:ADc->Value
 | [u]=>u
 |us=>.tuple us.toArray
structure FH(g:Sm)(w:World)(fz:Nat->Prop)(args:ADc)(bk:Nat->Nat)(om:Key->It)(z:g.outs.D)(r:Value)(w':World)(xy:Nat->Prop)(yg:Key->It)(rv:ADc)(vsR vsP:List (List Lv)):Prop where
 outs:unpack g.outs z=vsR.flatten++vsP.flatten
 res:r=KW rv
 J1:D6 w' xy (λk=>yg (.fl k)) g.rs rv vsR 0
 len:vsP.length=g.ps.length
 each:∀(i:Nat)(pm:PM)(u:Value)(vs:List Lv),g.ps[i]?=some pm->args[i]?=some u->vsP[i]?=some vs->JP w' xy pm u vs (bk i) λj=>yg (.lf i j)
 blk:∀i,yg (.blk i)=om (.blk i)
 nodup:∀k,(yg k).Nodup
 A4:∀k k',k≠k'->∀b∈yg k,b∉yg k'
 own:∀k,∀b∈yg k,¬xy b/\b<w'.heap.size/\(w.heap.size<=b\/∃k0,b∈om k0)
 fz:∀b,xy b->b<w'.heap.size/\(fz b\/w.heap.size<=b\/∃k0,b∈om k0)
 frame:∀b,b<w.heap.size->(∀k,b∉om k)->w'.heap[b]?=w.heap[b]?
 size:w.heap.size<=w'.heap.size
 rest:w'.os=w.os/\w'.tape=w.tape/\w'.output=w.output
 kept:∀(i:Nat) (ls:List (L×Nat)) (j:Nat) (p:L×Nat),g.ps[i]?=some (.box ls)->ls[j]?=some p->p.2=3->w'.cell? ⟨bk i,j,none⟩=w.cell? ⟨bk i,j,none⟩
structure Lh(g:Sm)(w:World)(fz:Nat->Prop)(z:g.outs.D)(r:Value)(w':World)(xy:Nat->Prop)(b:Nat):Prop where
 box:Mh w' xy g.Gg r (unpack g.outs z) b λ_=>[]
 new:w.heap.size<=b/\b<w'.heap.size/\¬xy b
 fz:∀x,xy x->x<w'.heap.size/\(fz x\/w.heap.size<=x)
 frame:∀x,x<w.heap.size->w'.heap[x]?=w.heap[x]?
 size:w.heap.size<=w'.heap.size
 rest:w'.os=w.os/\w'.tape=w.tape/\w'.output=w.output
def Od(P:Program)(T:List (String×Array Value))(w:World)(io:Nat->Prop):Prop:=∀x∈T,w.var? P x.1=some x.2/\∃g,P.globalNamed x.1=some g/\¬io g/\g<w.heap.size
def JN(P:Program)(T:List (String×Array Value))(f:FuncId)(g:Lj):Prop:=
 ∀(args:ADc)(w:World)(fz:Nat->Prop) (xu:List (List Lv)) (bk:Nat->Nat) (om:Key->It) (x:g.s.ins.D) (z:g.s.outs.D),Od P T w (λb=>∃k,b∈om k)->Dj g.s.ps w fz args xu bk om->pack g.s.ins xu.flatten=some x->g.f x=some z->
  Calls P f args.toArray w λen w'=>match g.s.mk? with
   |false=>∃r xy yg rv vsR vsP,en=.returned r/\FH g.s w fz args bk om z r w' xy yg rv vsR vsP
   |true=>∃r xy b,en=.returned r/\Lh g.s w fz z r w' xy b
def GD(w:World)(fz:Nat->Prop)(ls:List L)(u:Value)(vs:List Lv):Prop:=
 ∃(b:Nat) (arr:Array Value) (T:TypeId) (fr:Nat×Nat),u=.pointer (some ⟨b,0,none⟩)/\fz b/\w.heap[b]?=some (.cells arr T fr)/\arr.size=ls.length/\vs.map (·.l)=ls/\∀(j:Nat)(lv:Lv),vs[j]?=some lv->∃y,arr[j]?=some y/\lv.l.rd 0 w fz y lv.x []
def Dk(w:World)(fz:Nat->Prop):List (List L)->ADc->List Lv->Prop
 | [],[],vs=>vs=[]
 |ls::bs,u::us,vs=>∃x y,vs=x++y/\GD w fz ls u x/\Dk w fz bs us y
 |_,_,_=>False
def Kc(w:World)(fz:Nat->Prop)(rowv:Value):KB->Value->List Lv->Prop
 | .box ls,u,vs=>GD w fz ls u vs
 | .D4 g bs,u,vs=>∃(b:Nat) (T:TypeId) (fr:Nat×Nat) (lb:Array Value),u=.pointer (some ⟨b,0,none⟩)/\fz b/\w.heap[b]?=some (.cells #[.func (.func g) #[] lb] T fr)/\Dk w fz bs lb.toList vs
 | .row,u,vs=>vs=[]/\∃(b:Nat) (T:TypeId) (fr:Nat×Nat),u=.pointer (some ⟨b,0,none⟩)/\fz b/\w.heap[b]?=some (.cells #[rowv] T fr)
def D5(w:World)(fz:Nat->Prop)(rowv:Value):List KB->ADc->List Lv->Prop
 | [],[],vs=>vs=[]
 |c::cs,u::us,vs=>∃x y,vs=x++y/\Kc w fz rowv c u x/\D5 w fz rowv cs us y
 |_,_,_=>False
def NW(P:Program)(g:FuncId)(σ:N1):Prop:=
 ∀(w:World)(fz:Nat->Prop)(us:ADc)(vs:List Lv) (y:(Ek (σ.Iw.flatMap KB.kinds)).D) (blk off n c:Nat) (G:Nat->Int),D5 w fz (.slice (some ⟨blk,off,none⟩) n c) σ.Iw us vs->pack (Ek (σ.Iw.flatMap KB.kinds)) vs=some y->
  (∀t,t<n->w.cell? ⟨blk,off+t,none⟩=some (.int .i64 (G t)))->n<=20->∀i j:Nat,i<n->j<n->∀b,σ.lt y (G i) (G j)=some b->
  Calls P g (#[.int .i64 i,.int .i64 j]++us.toArray) w λe w'=>e=.returned (.bool b)/\∃q os,w'=Go.Sort.grow (w.drewN q) os
structure Lk(P:Program)(f:FuncId)(t:TypeId):Prop where
 many:∀(α:Type) [Inhabited α] (enc:α->Value),(∀x,(enc x).oneCell'=true)->∀(lt:α->α->Bool)(g:Nat)(lb:Array Value),(∀args w,(callFunc g args).run P w=.ok (.enter g args) w)->∀(blk off c:Nat)(d:Array α),2<=d.size->d.size<=20->∀(w:World),
  (∀(m:Nat)(os:Array Obj)(dk:Array α),dk.size=d.size->∀i j:Nat,i<d.size->j<d.size->
   Calls P g (#[.int .i64 i,.int .i64 j]++lb) (Go.Sort.grow (Go.Sort.putRow enc (Go.Sort.ahead w m) blk off dk) os) λe w'=>e=.returned (.bool (lt dk[i]! dk[j]!))/\∃q yq,w'=Go.Sort.grow ((Go.Sort.grow (Go.Sort.putRow enc (Go.Sort.ahead w m) blk off dk) os).drewN q) yq)->
  Go.Sort.Holds enc w blk off d->blk<w.heap.size->
  Calls P f #[.iface t (.slice (some ⟨blk,off,none⟩) d.size c),.func (.func g) #[] lb] w λe w'=>e=.returned (.tuple #[])/\∃n os,w'=Go.Sort.grow (Go.Sort.putRow enc (Go.Sort.ahead w n) blk off (Go.Sort.insertionSort lt d 0 d.size)) os
 NJ:∀(p:Option Addr)(n c:Nat),n<=1->∀(lf:Fn)(la lb:Array Value)(w:World),Calls P f #[.iface t (.slice p n c),.func lf la lb] w λe w'=>e=.returned (.tuple #[])/\∃os,w'=Go.Sort.grow w os
 body : ∃ (fn : Func) (c : Code), P.funcs[f]? = some fn /\ fn.body = some c /\ (fn.name == "runtime.NumGoroutine") = false
structure Ll(P:Program)(f g:FuncId)(σ:N1):Prop where
 sort:Lk P f σ.t
 less:NW P g σ
 enters:∀args w,(callFunc g args).run P w=.ok (.enter g args) w
def IJ (P : Program) (T : List (String × Array Value)) (env : FuncId -> Option Lj) : Prop := ∀ f g, env f = some g -> JN P T f g /\ ∃ (fn : Func) (c : Code), P.funcs[f]? = some fn /\ fn.body = some c /\ (fn.name == "runtime.NumGoroutine") = false
structure JM(P:Program)(T:List (String×Array Value))(env:Env):Prop where
 fns:IJ P T env.fn
 OP:∀f g σ,env.Oy f g=some σ->Ll P f g σ
 Ng:Lg P env
def C7(P:Program)(E:Ci)(env:Env):Prop:=JM P E.NI env/\∀x∈E.NI,E.w0.var? P x.1=some x.2/\∃g,P.globalNamed x.1=some g/\¬E.io g/\g<E.base
theorem C7.Ov{P:Program}{E:Ci}{env:Env}(h:C7 P E env){W:Wd}(hs:Sep E W){om:Key->It}(ho:∀k,∀b∈om k,∃k',b∈W.om k'):Od P E.NI W.w (λb=>∃k,b∈om k):=by
 intro x hx;obtain⟨h1,g,h2,h3,h4⟩:=h.2 x hx;have hg:W.w.heap[g]?=E.w0.heap[g]?:=hs.frame g h4 h3;refine⟨?_,g,h2,?_,by have:=hs.size;omega⟩
 ·unfold World.var? at h1 ⊢;grind
 ·rintro ⟨k,hb⟩
  obtain⟨k',hb⟩:=ho k g hb;rcases(hs.own k' g hb).2.2 with h5|h5
  all_goals grind
section
variable {P:Program}{E:Ci}{s s':St}{W W':Wd}{v:Nat}{tm:Array Value}
theorem AW.MD(h:AW E s tm W)(hv:Aj s v)(yA:JR s s')(chk:Nat->Nat->Prop)(chb:Nat->Prop)
  (hl:∀r j,¬chk r j->s'.leaf r j=s.leaf r j) (yW:∀r,¬chb r->∀j,W'.cv r j=W.cv r j) (hcb:∀r j,chb r->chk r j) (hbk:∀r,W'.bk r=W.bk r)
  (hom:∀r j,¬chk r j->W'.om (.lf r j)=W.om (.lf r j)) (homb:∀r,W'.om (.blk r)=W.om (.blk r))
  (hw:∀b,(W.fz b\/(∃r,¬chb r/\b∈W.om (.blk r))\/∃r j,¬chk r j/\b∈W.om (.lf r j))->W'.w.heap[b]?=W.w.heap[b]?) (zi:∀b,W.fz b->W'.fz b)
  (xt:∀(r j AB gen:Nat)(t:TypeId)(e:Ls)(xs:List e.D)(d:Nat),chk r j->s'.leaf r j=.arr AB gen t e xs d->AB≠v->W'.cv r j=W.cv r j/\∃gen0 t0 xs0 d0,s.leaf r j=.arr AB gen0 t0 e xs0 d0/\(gen≠v->gen=gen0/\W'.w=W.w))
  (zu:Sep E W') (yh:Eh v s s' W W'->∀r j,chk r j->Aa s' W' (s'.leaf r j) (W'.cv r j) (W'.om (.lf r j)))
  (yc:∀r,chb r->(s.root r).box=true->∃(arr:Array Value) (T:TypeId) (fr:Nat×Nat),W'.w.heap[W.bk r]?=some (.cells arr T fr)/\(∀j,j<arr.size->¬(fr.1<=j/\j<fr.2))/\arr.size=(s.root r).ls.length/\∀j,W'.cv r j=arr[j]?):AW E s' tm W':=by
 have yT:Eh v s s' W W':={
  fz:=zi
  Lf:=λb hb=>hw b (.inl hb)
  leaf:=by
   intro r j AB gen t e xs d hlf yF;by_cases hc:chk r j
   ·grind
   ·rw[hl r j hc]at hlf;refine⟨yW r (λhb=>hc (hcb r j hb)) j,gen,t,xs,d,hlf,λ_=>⟨rfl,λp h' e' u' yk hn=>?_⟩⟩;obtain⟨u0,zN,yD⟩:=(h.roots r).row hlf;rw[yk]at zN;injection zN with zN;subst zN
    exact BN p yD hn λb hb=>hw b (hb.elim (λhb=>.inr (.inr ⟨r,j,hc,hb⟩)) .inl)
  box:=λr hb yF=>⟨(yA.box r).1▸hb,(yA.box r).2.1.symm,hbk r⟩ }
 refine h.IG hv yT zu (by rw[yA.sl,h.DT]) (by rw[yA.len,h.Bb]) (λt=>.inl ⟨by show nth _ s'.sl t=_;rw[yA.sl];rfl,rfl⟩) ?_;intro r;obtain⟨h1,h2⟩:=h.roots r;refine⟨λj=>?_,?_⟩
 ·show Aa s' W' (s'.leaf r j) (W'.cv r j) (W'.om (.lf r j));by_cases hc:chk r j
  ·grind
  ·rw[hl r j hc,yW r (λhb=>hc (hcb r j hb)) j,hom r j hc];exact Aa.Dh yT (LA.Eg hv r j) (λb hb=>hw b (.inr (.inr ⟨r,j,hc,hb⟩))) (h1 j)
 ·rw[(yA.box r).1,homb,hbk];split
  ·rename_i hb;rw[AAS hb]at h2;obtain⟨ho',zO,T',fr',hh',a1,a2,a3⟩:=h2;refine⟨ho',?_⟩;by_cases hc:chb r
   ·obtain⟨arr,T,fr,q1,q2,q3,q4⟩:=yc r hc hb;exact⟨arr,T,fr,q1,q2,by rw[q3,(yA.box r).2.2],q4⟩
   ·exact⟨zO,T',fr',(hw _ (.inr (.inl ⟨r,hc,by rw[ho'];simp⟩))).trans hh',a1,by rw[(yA.box r).2.2];exact a2,λj=>(yW r hc j).trans (a3 j)⟩
  grind
structure Up where
 r:Nat
 lo:Nat
 news:List LA
def ET(us:List Up):List Wr:=us.flatMap λu=>A7 u.r u.lo u.news
theorem IA:∀(us:List Up)(s:St),(∀u∈us,(u.news=[]\/u.r<s.ro.length)/\u.lo+u.news.length<=(s.root u.r).ls.length)->JR s (s.app (ET us))/\
  ∀r j,(s.app (ET us)).leaf r j=us.foldl (λa u=>if r=u.r/\u.lo<=j/\j<u.lo+u.news.length then nth .bad u.news (j-u.lo)else a) (s.leaf r j)
 | [],s,h=>⟨⟨rfl,rfl,λ_=>⟨rfl,rfl,rfl⟩⟩,λr j=>rfl⟩
 |u::us,s,h=>by
  obtain⟨hr,hf⟩:=h u so;obtain⟨h1,h2⟩:=Dw u.r u.news u.lo s hr hf
  obtain⟨h3,h4⟩:=IA us (s.app (A7 u.r u.lo u.news)) λx hx=>by
   obtain⟨q1,q2⟩:=h x (AAQ _ hx);exact⟨by rw[h1.len];exact q1,by rw[(h1.box x.r).2.2];exact q2⟩
  have he:s.app (ET (u::us))=(s.app (A7 u.r u.lo u.news)).app (ET us):=by show s.app (A7 u.r u.lo u.news++ET us)=_;rw[A3]
  rw[he];refine⟨⟨h3.sl.trans h1.sl,h3.len.trans h1.len,λx=>⟨(h3.box x).1.trans (h1.box x).1,(h3.box x).2.1.trans (h1.box x).2.1,(h3.box x).2.2.trans (h1.box x).2.2⟩⟩,λr j=>?_⟩;grind
end
end Go.Ev
namespace Go.Ev
theorem Bw.uniq{α:Type}{n:Nat}{R R':(Nat->Option Value)->α->It->Prop}{own:Bool}{w:World}{fz xy:Nat->Prop}{v:Value}{xs yj:List α}{o o':It}
  (h:Bw n R own w fz v xs o) (h':Bw n R' own w xy v yj o') (hr:∀g x y p q,R g x p->R' g y q->x=y/\p=q):xs=yj/\o=o':=by
 obtain⟨A,c,hv,hc,h⟩:=h;obtain⟨A',c',zy,yk,h'⟩:=h';rw[hv]at zy;injection zy with e1 e2 e3
 subst e1;subst e3;cases A with
 |none=>
  have z1:xs=[]:=AAU (by have:=h.1;omega);grind
 |some a=>
  by_cases hc0:c=0
  ·have z1:xs=[]:=AAU J;have z2:yj=[]:=AAU J;subst z1;subst z2;refine⟨rfl,?_⟩;cases own with
   |true=>
    grind
   |false=>
    grind
  ·rcases h with⟨_,h,_⟩|⟨g,os,yE,yS,ho⟩
   ·omega
   rcases h' with⟨_,h,_⟩|⟨g',yq,hrow',hel',ho'⟩
   ·omega
   have hgg:g=g':=by funext j;rw[<-yE.cell j,<-hrow'.cell j]
   subst hgg;have hlen:xs.length=yj.length:=e2;have hel2:∀i (h1:i<xs.length) (h2:i<yj.length),xs[i]=yj[i]/\os i=yq i:=λi h1 h2=>hr _ _ _ _ _ (yS i h1) (hel' i h2);have hxs:xs=yj:=List.ext_getElem hlen λi h1 h2=>(hel2 i h1 h2).1;refine⟨hxs,?_⟩;cases own with
   |true=>
    have ho:o=a.block::(List.range xs.length).flatMap os:=ho;have ho':o'=a.block::(List.range yj.length).flatMap yq:=ho';rw[ho,ho',<-hlen];congr 1
    have:∀(l:It),(∀i∈l,i<xs.length)->l.flatMap os=l.flatMap yq:=by
     intro l
     induction l with
     |nil=>intro _;rfl
     |cons i l ih=>
      intro hi;rw[AAq,AAq,ih λk hk=>hi k (AAQ _ hk),(hel2 i (hi i AAo) (hlen▸hi i AAo)).2]
    grind
   |false=>grind
mutual
theorem L.Ec:∀(l:L) {d:Nat} {w:World} {fz xy:Nat->Prop} {v:Value} {x y:l.D} {o p:It},l.rd d w fz v x o->l.rd d w xy v y p->x=y/\o=p
 | .int _,_,_,_,_,_,_,_,_,_,h,h'=>by
  have:=h.1.symm.trans h'.1;injection this with _ e
  exact⟨e,h.2.trans h'.2.symm⟩
 | .bool,_,_,_,_,_,_,_,_,_,h,h'=>by
  have:=h.1.symm.trans h'.1;injection this with e
  exact⟨e,h.2.trans h'.2.symm⟩
 | .str,_,_,_,_,_,x,y,_,_,h,h'=>by
  have:=h.1.symm.trans h'.1;injection this with e
  have e2:List.toArray (show ADZ from x)=List.toArray (show ADZ from y):=by injection e
  have e3:(show ADZ from x)=(show ADZ from y):=by have:=congrArg Array.toList e2;simpa using this
  exact⟨e3,h.2.trans h'.2.symm⟩
 | .sl _ e,d,w,fz,xy,v,x,y,o,p,h,h'=>by rw[L.Ij]at h h';exact Bw.uniq h h' λg a b q r h1 h2=>Ls.Ec e h1 h2
theorem Ls.Ec:∀(ls:Ls) {d:Nat} {w:World} {fz xy:Nat->Prop} {g:Nat->Option Value} {x y:ls.D} {o p:It},ls.rd d w fz g x o->ls.rd d w xy g y p->x=y/\o=p
 | .nil,_,_,_,_,_,x,y,_,_,h,h'=>⟨by cases x;cases y;rfl,by rw[show _=_ from h,show _=_ from h']⟩
 | .one l,_,_,_,_,_,_,_,_,_,h,h'=>by
  simp only[Ls.rd]at h h';obtain⟨v,hv,h⟩:=h;obtain⟨v',zy,h'⟩:=h';rw[hv]at zy;injection zy with zy;subst zy
  exact L.Ec l h h'
 | .cons l ls,_,_,_,_,_,x,y,_,_,h,h'=>by
  simp only[Ls.rd]at h h';obtain⟨v,o1,o2,hv,h1,h2,rfl⟩:=h;obtain⟨v',p1,p2,zy,zT,h2',rfl⟩:=h';rw[hv]at zy;injection zy with zy;subst zy
  obtain⟨a1,a2⟩:=L.Ec l h1 zT;obtain⟨b1,b2⟩:=Ls.Ec ls h2 h2';exact⟨Prod.ext a1 b1,by rw[a2,b2]⟩
end
theorem AE.uniq{e:Ls}{d:Nat}{w:World}{fz xy:Nat->Prop}{v:Value}{xs ys:List e.D}{o p:It}(h:AE e d w fz v xs o)(h':AE e d w xy v ys p):xs=ys/\o=p:=
 L.Ec (.sl 0 e) h h'
def NU(o p o' q:It):Prop:=q.Nodup/\∀b∈q,b∈o'\/(b∈o/\b∉p)
structure NM(w w':World)(fz xy:Nat->Prop)(o p o':It):Prop where
 nd:o'.Nodup
 new:∀b∈o',b∈o->b∈p
 rest:∀b,(b∈o/\b∉p)\/fz b->w'.heap[b]?=w.heap[b]?
 fz:∀b,fz b->xy b
theorem Hi{G:(t:TypeId)->(f:Ls)->Option (List f.D->List f.D)}{d:Nat}{w:World}{fz:Nat->Prop}:∀(e:Ls)(j:Nat) {F:e.D->e.D} {g:Nat->Option Value} {x:e.D} {o:It} {t:TypeId} {f:Ls} {h:Value},
  EJ e j G=some F->e.kinds[j]?=some (.sl t f)->e.rd d w fz g x o->g j=some h->o.Nodup->
  ∃fn ys p,G t f=some fn/\AE f d w fz h ys p/\(∀b∈p,b∈o)/\p.Nodup/\∀w' xy o',AE f d w' xy h (fn ys) o'->NM w w' fz xy o p o'->∃q,e.rd d w' xy g (F x) q/\NU o p o' q
 | .nil,j,F,g,x,o,t,f,h,hm,hk,hr,hg,hn=>by simp[Ls.kinds]at hk
 | .one l,j+1,F,g,x,o,t,f,h,hm,hk,hr,hg,hn=>by simp[Ls.kinds]at hk
 | .one l,0,F,g,x,o,t,f,h,hm,hk,hr,hg,hn=>by
  simp[Ls.kinds]at hk;subst hk;simp only[Ls.rd]at hr;obtain⟨v,hv,hr⟩:=hr;rw[hg]at hv;injection hv with hv;subst hv
  simp only[EJ]at hm;exact⟨F,x,o,hm,hr,λb hb=>hb,hn,λw' xy o' yi hs=>⟨o',⟨h,hg,yi⟩,hs.nd,λb hb=>.inl hb⟩⟩
 | .cons l ls,0,F,g,x,o,t,f,h,hm,hk,hr,hg,hn=>by
  simp[Ls.kinds]at hk;subst hk;simp only[Ls.rd]at hr;obtain⟨v,o1,o2,hv,hr,hr2,rfl⟩:=hr;rw[hg]at hv;injection hv with hv;subst hv
  simp only[EJ]at hm;split at hm
  ·rename_i fn hfn;injection hm with hm;subst hm
   obtain⟨n1,n2,n3⟩:=AAc.1 hn;refine⟨fn,x.1,o1,hfn,hr,λb hb=>AAY _ hb,n1,λw' xy o' yi hs=>⟨o'++o2,⟨h,o',o2,hg,yi,?_,rfl⟩,?_,?_⟩⟩
   ·exact Ls.AN ls hr2 (λb hb=>hs.rest b (hb.imp (λhb=>⟨AAV _ hb,λyH=>n3 b yH b hb rfl⟩) id)) hs.fz
   ·refine AAc.2 ⟨hs.nd,n2,λb hb c hc e=>?_⟩;subst e;exact n3 b (hs.new b hb (AAV _ hc)) b hc rfl
   grind
  ·cases hm
 | .cons l ls,j+1,F,g,x,o,t,f,h,hm,hk,hr,hg,hn=>by
  simp only[Ls.rd]at hr;obtain⟨v,o1,o2,hv,hr,hr2,rfl⟩:=hr;simp only[EJ]at hm;split at hm
  ·rename_i F2 hF;injection hm with hm;subst hm
   obtain⟨n1,n2,n3⟩:=AAc.1 hn;obtain⟨fn,ys,p,h1,h2,h3,h4,h5⟩:=Hi ls j (g:=λj=>g (j+1)) hF (by simpa[Ls.kinds]using hk) hr2 hg n2;refine⟨fn,ys,p,h1,h2,λb hb=>AAV _ (h3 b hb),h4,λw' xy o' yi hs=>?_⟩;obtain⟨q,hq,hq1,hq2⟩:=h5 w' xy o' yi ⟨hs.nd,λb hb yH=>hs.new b hb (AAV _ yH),λb hb=>hs.rest b (hb.imp (λhb=>⟨AAV _ hb.1,hb.2⟩) id),hs.fz⟩;have hno:∀b∈o1,b∉p:=λb hb hp=>n3 b hb b (h3 b hp) rfl;refine⟨o1++q,⟨v,o1,q,hv,?_,hq,rfl⟩,?_,?_⟩
   ·exact L.AN l hr (λb hb=>hs.rest b (hb.imp (λhb=>⟨AAY _ hb,hno b hb⟩) id)) hs.fz
   ·refine AAc.2 ⟨n1,hq1,λb hb c hc e=>?_⟩;subst e;rcases hq2 b hc with h6|h6
    ·exact hno b hb (hs.new b h6 (AAY _ hb))
    ·exact n3 b hb b h6.1 rfl
   grind
  ·cases hm
theorem E4{os:Nat->It}:∀ {l:It},l.Nodup->(∀i∈l,(os i).Nodup)->(∀i∈l,∀j∈l,i≠j->∀b∈os i,b∉os j)->(l.flatMap os).Nodup
 | [],_,_,_=>so
 |x::l,h,h1,h2=>by obtain⟨hx,hl⟩:=AAf.1 h;rw[AAq];refine AAc.2 ⟨h1 x AAo,E4 hl (λi hi=>h1 i (AAQ _ hi)) (λi hi j hj=>h2 i (AAQ _ hi) j (AAQ _ hj)),λb hb c hc e=>?_⟩;grind
theorem OK{G:(t:TypeId)->(f:Ls)->Option (List f.D->List f.D)}{w:World}{fz:Nat->Prop}:∀(p:List (Nat×Nat)) {t:TypeId} {e:Ls} {d:Nat} {h:Value} {xs:List e.D} {o:It} {e':Ls} {v:Value} {F:List e.D->List e.D},
  Jp G p t e=some F->AE e d w fz h xs o->JK w p e h e' v->(p≠[]->d=2)->o.Nodup->
  ∃t' fn ys po,G t' e'=some fn/\AE e' d w fz v ys po/\(∀b∈po,b∈o)/\po.Nodup/\∀w' xy o',AE e' d w' xy v (fn ys) o'->NM w w' fz xy o po o'->∃q,AE e d w' xy h (F xs) q/\NU o po o' q
 | [],t,e,d,h,xs,o,e',v,F,hm,hr,hn,hp,zG=>by obtain⟨rfl,rfl⟩:=hn;exact⟨t,F,xs,o,hm,hr,λb hb=>hb,zG,λw' xy o' yi hs=>⟨o',yi,hs.nd,λb hb=>.inl hb⟩⟩
 |(i,j)::p,t,e,d,h,xs,o,e',v,F,hm,hr,hn,hp,zG=>by
  have hd:d=2:=hp so;subst hd;obtain⟨a,len,c,t',f,h',rfl,hs,hi,hk,hc,hn⟩:=hn;obtain⟨A,cc,hv,hle,hrr⟩:=hr;injection hv with hA hl hcc
  subst hA;subst hl;subst hcc;rcases hrr with⟨h0,_⟩|⟨g,os,yE,yS,ho⟩
  ·simp at h0
  have ho:o=a.block::(List.range xs.length).flatMap os:=ho;have yS:∀i (h:i<xs.length),e.rd 2 w fz (λj=>g (i*e.n+j)) xs[i] (os i):=yS;simp only[Jp]at hm;split at hm
  ·rename_i H hH;injection hm with hm;subst hm
   rw[ho]at zG;obtain⟨nb,nf⟩:=AAf.1 zG;have yr:∀m,m<xs.length->(os m).Nodup:=λm hm=>CB nf (AAb.2 hm);have yv:∀m,m<xs.length->∀k,k<xs.length->m≠k->∀b∈os m,b∉os k:=λm hm k hk yF=>CA nf (AAb.2 hm) (AAb.2 hk) yF;have yR:∀m,m<xs.length->a.block∉os m:=λm hm hb=>nb (AAP.2 ⟨m,AAb.2 hm,hb⟩);have hg:g (i*e.n+j)=some h':=by rw[<-yE.cell];exact hc
   obtain⟨fn,ys,po,h1,h2,h3,h4,h5⟩:=Hi e j hH hk (yS i hi) hg (yr i hi);obtain⟨t2,fn2,zs,po2,g1,g2,g3,g4,g5⟩:=OK p h1 h2 hn (λ_=>rfl) h4;have xv:∀m,m<xs.length->∀b∈os m,b∈o:=λm hm b hb=>by rw[ho];exact AAQ _ (AAP.2 ⟨m,AAb.2 hm,hb⟩)
   refine⟨t2,fn2,zs,po2,g1,g2,λb hb=>xv i hi b (h3 b (g3 b hb)),g4,λw' xy o' yi hst=>?_⟩;obtain⟨q1,hq1,zg,hb1'⟩:=g5 w' xy o' yi ⟨hst.nd,λb hb yH=>hst.new b hb (xv i hi b (h3 b yH)),λb hb=>hst.rest b (hb.imp (λhb=>⟨xv i hi b (h3 b hb.1),hb.2⟩) id),hst.fz⟩;have hpo2:∀b∈po2,b∈os i:=λb hb=>h3 b (g3 b hb)
   obtain⟨q2,hq2,hb2,hb2'⟩:=h5 w' xy q1 hq1 ⟨zg,λb hb yH=>by
     rcases hb1' b hb with h6|h6
     ·exact g3 b (hst.new b h6 (xv i hi b yH))
     ·exact h6.1,λb hb=>hst.rest b (hb.imp (λhb=>⟨xv i hi b hb.1,λh7=>hb.2 (g3 b h7)⟩) id),hst.fz⟩
   have hq2o:∀b∈q2,b∈o'\/(b∈os i/\b∉po2):=by
    intro b hb;rcases hb2' b hb with h6|h6
    ·rcases hb1' b h6 with h7|h7
     ·exact .inl h7
     ·exact .inr ⟨h3 b h7.1,h7.2⟩
    ·exact .inr ⟨h6.1,λh7=>h6.2 (g3 b h7)⟩
   let yq:Nat->It:=λm=>if m=i then q2 else os m
   have hrow':Row w' a (c*e.n) true g:=yE.frame (hst.rest _ (.inl ⟨by rw[ho];simp,λh7=>yR i hi (hpo2 _ h7)⟩));have hlen:(xs.modify i H).length=xs.length:=so
   refine⟨a.block::(List.range xs.length).flatMap yq,⟨some a,c,so,by simpa using hle,.inr ⟨g,yq,hrow',λm hm=>?_,?_⟩⟩,?_,?_⟩
   ·have zU:m<xs.length:=ADl
    show e.rd 2 w' xy _ (xs.modify i H)[m] (yq m);rw[List.getElem_modify];by_cases zj:i=m
    ·subst zj;rw[AAS rfl,show yq i=q2 from AAS rfl];exact hq2
    ·rw[AAT zj,show yq m=os m from AAT λe=>zj e.symm];exact Ls.AN e (yS m zU) (λb hb=>hst.rest b (hb.imp (λhb=>⟨xv m zU b hb,λh7=>yv m zU i hi (λe=>zj e.symm) b hb (hpo2 b h7)⟩) id)) hst.fz
   ·show a.block::(List.range xs.length).flatMap yq=a.block::(List.range (xs.modify i H).length).flatMap yq;rw[hlen]
   ·refine AAf.2 ⟨λhb=>?_,E4 List.nodup_range (λm hm=>?_) (λm hm k hk yF b hb yH=>?_)⟩
    ·obtain⟨m,hm,hb⟩:=AAP.1 hb;have hm:=AAb.1 hm;by_cases zj:m=i
     ·subst zj;rw[show yq m=q2 from AAS rfl]at hb;rcases hq2o _ hb with h6|h6
      ·exact yR m hm (hpo2 _ (hst.new _ h6 (by rw[ho];simp)))
      ·exact yR m hm h6.1
     ·rw[show yq m=os m from AAT zj]at hb;exact yR m hm hb
    ·have hm:=AAb.1 hm;by_cases zj:m=i
     ·rw[show yq m=q2 from AAS zj];exact hb2
     ·rw[show yq m=os m from AAT zj];exact yr m hm
    ·have hm:=AAb.1 hm;have hk:=AAb.1 hk;by_cases zj:m=i
     ·have hki:k≠i:=λe=>yF (zj.trans e.symm);rw[show yq m=q2 from AAS zj]at hb;rw[show yq k=os k from AAT hki]at yH;rcases hq2o b hb with h6|h6
      ·exact yv k hk i hi hki b yH (hpo2 b (hst.new b h6 (xv k hk b yH)))
      ·exact yv k hk i hi hki b yH h6.1
     ·rw[show yq m=os m from AAT zj]at hb;by_cases hki:k=i
      ·rw[show yq k=q2 from AAS hki]at yH;rcases hq2o b yH with h6|h6
       ·exact yv m hm i hi zj b hb (hpo2 b (hst.new b h6 (xv m hm b hb)))
       ·exact yv m hm i hi zj b hb h6.1
      ·rw[show yq k=os k from AAT hki]at yH;exact yv m hm k hk yF b hb yH
   grind
  ·cases hm
theorem IY{β:Type}{d:Nat}{w:World}{fz:Nat->Prop}{k:(t:TypeId)->(f:Ls)->List f.D->Step β}{t:β}:∀(e:Ls)(j:Nat) {g:Nat->Option Value} {x:e.D} {o:It} {t':TypeId} {f:Ls} {h:Value},
  (I5 e j x k).leads t->e.rd d w fz g x o->e.kinds[j]?=some (.sl t' f)->g j=some h->o.Nodup->∃(ys:List f.D) (o':It),(k t' f ys).leads t/\AE f d w fz h ys o'/\(∀b∈o',b∈o)/\o'.Nodup
 | .nil,j,_,_,_,_,_,_,hl,_,_,_,_=>hl.elim
 | .one l,0,g,x,o,t',f,h,hl,hr,hk,hg,hn=>by
  simp only[Ls.rd]at hr;obtain⟨v,hv,hr⟩:=hr;simp[Ls.kinds]at hk;subst hk;rw[hg]at hv;injection hv with hv;subst hv
  exact⟨x,o,hl,hr,λb hb=>hb,hn⟩
 | .one _,_+1,_,_,_,_,_,_,hl,_,_,_,_=>hl.elim
 | .cons l ls,0,g,x,o,t',f,h,hl,hr,hk,hg,hn=>by
  simp only[Ls.rd]at hr;obtain⟨v,o1,o2,hv,hr,hr2,rfl⟩:=hr;simp[Ls.kinds]at hk;subst hk;rw[hg]at hv;injection hv with hv;subst hv
  exact⟨x.1,o1,hl,hr,λb hb=>AAY _ hb,(AAc.1 hn).1⟩
 | .cons l ls,j+1,g,x,o,t',f,h,hl,hr,hk,hg,hn=>by simp only[Ls.rd]at hr;obtain⟨v,o1,o2,hv,hr,hr2,rfl⟩:=hr;obtain⟨ys,o',a,b,c,d⟩:=IY ls j (g:=λj=>g (j+1)) hl hr2 (by simpa[Ls.kinds]using hk) hg (AAc.1 hn).2.1;grind
theorem Jk{β:Type}{w:World}{fz:Nat->Prop}{k:(t:TypeId)->(e:Ls)->List e.D->Nat->Step β}{z:β}:∀(p:List (Nat×Nat)) {t0:TypeId} {e:Ls} {xs:List e.D} {d:Nat} {h:Value} {o:It} {e':Ls} {v:Value},
  (OH k p t0 e xs d).leads z->AE e d w fz h xs o->JK w p e h e' v->(p≠[]->d=2)->o.Nodup->∃(t':TypeId) (ys:List e'.D) (o':It),(k t' e' ys d).leads z/\AE e' d w fz v ys o'/\(∀b∈o',b∈o)/\o'.Nodup
 | [],t0,e,xs,d,h,o,e',v,hl,hr,hn,hp,zG=>by obtain⟨rfl,rfl⟩:=hn;exact⟨t0,xs,o,hl,hr,λb hb=>hb,zG⟩
 |(i,j)::p,t0,e,xs,d,h,o,e',v,hl,hr,hn,hp,zG=>by
  have hd:d=2:=hp so;subst hd;obtain⟨a,len,c,t',f,h',rfl,hs,hi,hk,hc,hn⟩:=hn;obtain⟨A,cc,hv,hle,hrr⟩:=hr;injection hv with hA zZ hcc
  subst hA;subst zZ;subst hcc;rcases hrr with⟨h0,_⟩|⟨g,os,yE,yS,ho⟩
  ·simp at h0
  have ho:o=a.block::(List.range xs.length).flatMap os:=ho;have yS:∀i (h:i<xs.length),e.rd 2 w fz (λj=>g (i*e.n+j)) xs[i] (os i):=yS;obtain⟨x,hx,hl⟩:=hl;rw[AAM hi]at hx;injection hx with hx;subst hx
  have hg:g (i*e.n+j)=some h':=by rw[<-yE.cell];exact hc
  rw[ho]at zG;obtain⟨nb,nf⟩:=AAf.1 zG;obtain⟨ys,o',hl,yD,yu,hnd'⟩:=IY e j hl (yS i hi) hk hg (CB nf (AAb.2 hi));obtain⟨t2,zs,o2,hl,hz,hs2,hn2⟩:=Jk p hl yD hn (λ_=>rfl) hnd';exact⟨t2,zs,o2,hl,hz,λb hb=>No,hn2⟩
end Go.Ev
namespace Go.Ev
def GG(ovs:Nat->It)(o:It):Prop:=(∀m,(ovs m).Nodup)/\(∀m m',m≠m'->∀b∈ovs m,b∉ovs m')/\∀m,∀b∈ovs m,b∉o
theorem GG.sub{ovs:Nat->It}{o o':It}(h:GG ovs o)(hs:∀b∈o',b∈o):GG ovs o':=⟨h.1,h.2.1,λm b hb yH=>h.2.2 m b hb (hs b yH)⟩
theorem Cl{w:World}{fz:Nat->Prop}{d:Nat}{ovs:Nat->It}:∀(e:Ls)(off:Nat)(vs:List Lv)(cells:ADc)(sh:Nat) {f:e.D->e.D} {g g':Nat->Option Value} {x:e.D} {o:It},Bf e off vs=some f->cells.length=vs.length->
  (∀(m:Nat)(lv:Lv),vs[m]?=some lv->∃u,cells[m]?=some u/\lv.l.rd d w fz u lv.x (ovs (sh+m)))->e.rd d w fz g x o->(∀m,m<e.n->g' m=if off<=m/\m<off+vs.length then cells[m-off]? else g m)->
  off+vs.length<=e.n/\∃o',e.rd d w fz g' (f x) o'/\(∀b∈o',b∈o\/∃m,sh<=m/\b∈ovs m)/\(o.Nodup->GG ovs o->o'.Nodup)
 | .nil,off,vs,cells,sh,f,g,g',x,o,hf,hl,hp,hr,hg=>by simp[Bf]at hf
 | .one l,off,vs,cells,sh,f,g,g',x,o,hf,hl,hp,hr,hg=>by
  simp only[Bf]at hf;split at hf
  ·rename_i v;split at hf
   ·rename_i y hy;injection hf with hf;subst hf
    obtain⟨l',z⟩:=v;obtain⟨e1,e2⟩:=L.AH hy;dsimp only at e1;subst e1;have e2:z=y:=e2;subst e2;obtain⟨u,hu,yG⟩:=hp 0 ⟨l',z⟩ rfl;refine⟨by simp[Ls.n],ovs sh,?_,λb hb=>.inr ⟨sh,AAi _,hb⟩,λ_ hn=>hn.1 sh⟩;simp only[Ls.rd];refine⟨u,?_,J⟩;rw[hg 0 (by simp[Ls.n]),AAS so,<-hu]
   ·cases hf
  ·cases hf
 | .cons l ls,off,vs,cells,sh,f,g,g',x,o,hf,hl,hp,hr,hg=>by
  simp only[Bf]at hf;simp only[Ls.rd]at hr;obtain⟨v0,o1,o2,hv0,h1,h2,rfl⟩:=hr;cases off with
  |zero=>
   simp only at hf;split at hf
   ·cases hf
   ·rename_i v;split at hf
    ·rename_i y hy;injection hf with hf;subst hf
     obtain⟨l',z⟩:=v;obtain⟨e1,e2⟩:=L.AH hy;dsimp only at e1;subst e1;have e2:z=y:=e2;subst e2;obtain⟨u,hu,yG⟩:=hp 0 ⟨l',z⟩ rfl;refine⟨by simp[Ls.n]<;>omega,ovs sh++o2,?_,λb hb=>?_,λhn hk=>?_⟩
     ·simp only[Ls.rd];refine⟨u,ovs sh,o2,?_,J,Ls.BP ls h2 λj hj=>by rw[hg (j+1) (by simp[Ls.n]<;>omega),AAT so],rfl⟩;rw[hg 0 (by simp[Ls.n]<;>omega),AAS so,<-hu]
     ·grind
     ·refine AAc.2 ⟨hk.1 sh,(AAc.1 hn).2.1,λa ha b hb e=>?_⟩;subst e;exact hk.2.2 sh a ha (AAV _ hb)
    ·cases hf
   ·rename_i v u0 vs';split at hf
    ·rename_i y f' hy hf';injection hf with hf;subst hf
     obtain⟨l',z⟩:=v;obtain⟨e1,e2⟩:=L.AH hy;dsimp only at e1;subst e1;have e2:z=y:=e2;subst e2;obtain⟨u,hu,yG⟩:=hp 0 ⟨l',z⟩ rfl
     obtain⟨c0,cs,rfl⟩:∃c0 cs,cells=c0::cs:=by
      cases cells with
      |nil=>simp at hl
      |cons c cs=>grind
     obtain⟨ih1,o',ih2,ih3,ih4⟩:=Cl ls 0 (u0::vs') cs (sh+1) (g':=λj=>g' (j+1)) hf' No (λm lv hm=>by
       have:=hp (m+1) lv No;rw[show sh+(m+1)=sh+1+m by omega]at this;simpa using this) h2 (λm hm=>by
       rw[hg (m+1) (by simp[Ls.n]<;>omega)];grind)
     refine⟨by simp[Ls.n]at ih1 ⊢ <;> omega,ovs sh++o',?_,λb hb=>?_,λhn hk=>?_⟩
     ·simp only[Ls.rd];refine⟨u,ovs sh,o',?_,J,ih2,rfl⟩;rw[hg 0 (by simp[Ls.n]<;>omega),AAS so,<-hu]
     ·grind
     ·refine AAc.2 ⟨hk.1 sh,ih4 (AAc.1 hn).2.1 (hk.sub λb hb=>AAV _ hb),λa ha b hb e=>?_⟩;subst e;rcases ih3 a hb with hb|⟨m,hm,hb⟩
      ·exact hk.2.2 sh a ha (AAV _ hb)
      ·exact hk.2.1 sh m J a ha hb
    ·cases hf
  |succ off=>
   simp only at hf;split at hf
   ·rename_i f' hf';injection hf with hf;subst hf
    obtain⟨ih1,o',ih2,ih3,ih4⟩:=Cl ls off vs cells sh (g':=λj=>g' (j+1)) hf' hl hp h2 (λm hm=>by
     rw[hg (m+1) (by simp[Ls.n]<;>omega)];grind)
    refine⟨by simp[Ls.n]<;>omega,o1++o',?_,λb hb=>?_,λhn hk=>?_⟩
    ·simp only[Ls.rd];refine⟨v0,o1,o',?_,h1,ih2,rfl⟩;rw[hg 0 (by simp[Ls.n]<;>omega),AAT J];exact hv0
    ·grind
    ·refine AAc.2 ⟨(AAc.1 hn).1,ih4 (AAc.1 hn).2.1 (hk.sub λb hb=>AAV _ hb),λa ha b hb e=>?_⟩;subst e;rcases ih3 a hb with hb|⟨m,_,hb⟩
     ·grind
     ·exact hk.2.2 m a hb (AAY _ ha)
   ·cases hf
theorem Kn{e:Ls}{w:World}{fz:Nat->Prop}{a:Addr}{n k:Nat}{xs:List e.D}{o:It}(hr:AE e 2 w fz (.slice (some a) n k) xs o)(hn:o.Nodup)(hz:∀b∈o,¬fz b){i:Nat}(hi:i<n)
  {off:Nat} {cells:ADc} {F:e.D->e.D} {ovs:Nat->It} (hk:GG ovs o) (hkz:∀m,∀b∈ovs m,¬fz b) (yd:off+cells.length<=e.n)
  (hF:∀g g' x oo,e.rd 2 w fz g x oo->(∀m,m<e.n->g' m=if off<=m/\m<off+cells.length then cells[m-off]? else g m)->∃o',e.rd 2 w fz g' (F x) o'/\(∀b∈o',b∈oo\/∃m,b∈ovs m)/\(oo.Nodup->GG ovs oo->o'.Nodup)):
  a.spot=none/\∃arr T fr,w.heap[a.block]?=some (.cells arr T fr)/\(∀j,j<arr.size->¬(fr.1<=j/\j<fr.2))/\a.off+(i*e.n+off)+cells.length<=arr.size/\a.block∈o/\
   ∃o',o'.Nodup/\(∀b∈o',b∈o\/∃m,b∈ovs m)/\∀w',NL w w' a.block (B5 cells (a.off+(i*e.n+off)) arr) T fr->AE e 2 w' fz (.slice (some a) n k) (xs.modify i F) o':=by
 obtain⟨A,c,hv,hc,_,yf⟩:=hr.K7;injection hv with hA hl zJ
 subst hA;subst hl;subst zJ;obtain⟨arr,T,fr,os,hs,hh,yP,yJ,yS,ho,_⟩:=yf a rfl (.inr J);have ho:=ho J;have yJ:=yJ J
 have hmul:i*e.n+e.n<=k*e.n:=by have:(i+1)*e.n<=k*e.n:=AAs _ J;rw[AAt,ABQ]at this;omega
 have hbnd:a.off+(i*e.n+off)+cells.length<=arr.size:=J
 have xv:a.block∈o:=by rw[ho];simp
 have yL:=Cc cells (a.off+(i*e.n+off)) arr hbnd;have zG:=hn;rw[ho]at zG;obtain⟨hnb,hnf⟩:=AAf.1 zG;have zD:∀m,m<xs.length->∀b∈os m,b∈o:=λm hm b hb=>No
 obtain⟨oi,yD,yu,hnod⟩:=hF _ (λq=>(B5 cells (a.off+(i*e.n+off)) arr)[a.off+(i*e.n+q)]?) _ _ (yS i hi) (λq hq=>by
  show(B5 cells (a.off+(i*e.n+off)) arr)[a.off+(i*e.n+q)]?=_;rw[yL];by_cases hc:off<=q/\q<off+cells.length
  ·rw[AAS J,AAS hc];congr 1;omega
  grind)
 have hnod:=hnod (CB hnf (AAb.2 hi)) (hk.sub (zD i hi))
 let yq:Nat->It:=λm=>if m=i then oi else os m
 have hos':∀m,m<xs.length->∀b∈yq m,b∈os m\/∃q,b∈ovs q:=by
  intro m hm b hb;simp only[yq]at hb;split at hb
  ·grind
  ·exact .inl hb
 have hnoblk:∀m,m<xs.length->a.block∉yq m:=by
  intro m hm hb;rcases hos' m hm _ hb with hb|⟨q,hb⟩
  ·grind
  ·exact hk.2.2 q _ hb xv
 refine⟨hs,arr,T,fr,hh,yJ,hbnd,xv,a.block::(List.range xs.length).flatMap yq,?_,?_,λw' yN=>?_⟩
 ·refine AAf.2 ⟨λhb=>?_,E4 List.nodup_range (λm hm=>?_) λm hm m' zU yF b hb yH=>?_⟩
  ·grind
  ·grind
  ·have hd:=CA hnf hm zU yF;simp only[yq]at hb yH;split at hb
   ·rename_i e1;split at yH
    ·omega
    ·subst e1;rcases yu b hb with hb|⟨q,hb⟩
     ·grind
     ·exact hk.2.2 q b hb (zD m' (AAb.1 zU) b yH)
   ·split at yH
    ·rename_i e2;subst e2;rcases yu b yH with yH|⟨q,yH⟩
     ·exact hd b hb yH
     ·exact hk.2.2 q b yH (zD m (AAb.1 hm) b hb)
    grind
 ·grind
 ·refine⟨some a,k,so,ADt,?_⟩;refine .inr ⟨λq=>(B5 cells (a.off+(i*e.n+off)) arr)[a.off+q]?,yq,⟨hs,_,T,fr,yN.here,by rw[Ar];exact yP,λ_=>by rw[Ar];exact yJ,λ_=>rfl⟩,λm hm=>?_,?_⟩
  ·have zU:m<xs.length:=ADl
   rw[E9]
   have zY:∀ {g x},e.rd 2 w fz g x (yq m)->e.rd 2 w' fz g x (yq m):=λh=>Ls.AN e h (λb hb=>yN.CX b (by
    rintro rfl
    rcases hb with hb|hb
    ·exact hnoblk m zU hb
    ·exact hz _ xv hb)) λ_ hb=>hb
   by_cases zj:i=m
   ·subst zj;rw[AAS rfl];refine zY ?_;have:yq i=oi:=by simp[yq]
    rw[this];exact yD
   ·rw[AAT zj];have:yq m=os m:=by simp only[yq];rw[AAT (λe=>zj e.symm)]
    refine zY ?_;rw[this];refine Ls.BP e (yS m zU) λq hq=>?_;show(B5 cells (a.off+(i*e.n+off)) arr)[a.off+(m*e.n+q)]?=_;rw[yL,AAT];intro hc;rcases ABL zj with h1|h1
    ·have:(i+1)*e.n<=m*e.n:=AAs _ h1;rw[AAt,ABQ]at this;omega
    ·have:(m+1)*e.n<=i*e.n:=AAs _ h1;rw[AAt,ABQ]at this;omega
  grind
theorem MC{vs:List Lv}{cells:ADc}{w:World}{fz:Nat->Prop}{ovs:Nat->It}(hl:cells.length=vs.length)(hp:∀(m:Nat)(lv:Lv),vs[m]?=some lv->∃u,cells[m]?=some u/\lv.l.rd 2 w fz u lv.x (ovs m))(hbig:∀m,vs.length<=m->ovs m=[])
  {i off:Nat} {e:Ls} {a:Addr} {n k:Nat} (hi:i<n) {xs:List e.D} {o:It} {f:List e.D->List e.D} (hm:I7 vs [(i,off)] e=some f) (hr:AE e 2 w fz (.slice (some a) n k) xs o) (hn:o.Nodup) (hz:∀b∈o,¬fz b) (hk:GG ovs o) (hkz:∀m,∀b∈ovs m,¬fz b):
  a.spot=none/\∃arr T fr,w.heap[a.block]?=some (.cells arr T fr)/\(∀j,j<arr.size->¬(fr.1<=j/\j<fr.2))/\a.off+(i*e.n+off)+cells.length<=arr.size/\a.block∈o/\
   ∃o',o'.Nodup/\(∀b∈o',b∈o\/∃m,b∈ovs m)/\∀w',NL w w' a.block (B5 cells (a.off+(i*e.n+off)) arr) T fr->AE e 2 w' fz (.slice (some a) n k) (f xs) o':=by
 simp only[I7]at hm;split at hm
 ·rename_i y hy;injection hm with hm;subst hm
  split at hy
  ·rename_i hc;simp only[AAN,AAX]at hc;obtain⟨rfl,hlen⟩:=hc;have hup:=Ay e vs y hy
   have:=Kn (F:=λ_=>y) (off:=0) (cells:=cells) (ovs:=ovs) hr hn hz hi hk hkz J (λg g' x oo hx hg=>⟨_,DV e (os:=ovs) (λj lv hj=>by
     grind),λb hb=>by
     grind,λ_ hk=>Dy hk.1 hk.2.1 _⟩)
   simpa only[FF]using this
  ·cases hy
 ·split at hm
  ·rename_i f' hf';injection hm with hm;subst hm
   have hp':∀(m:Nat)(lv:Lv),vs[m]?=some lv->∃u,cells[m]?=some u/\lv.l.rd 2 w fz u lv.x (ovs (0+m)):=λm lv hm=>No
   obtain⟨A,c,hv,hc,_,yf⟩:=hr.K7;injection hv with hA zZ zJ
   subst hA;subst zZ;subst zJ;obtain⟨arr,T,fr,os,_,_,_,_,yS,_,_⟩:=yf a rfl (.inr J);have yd:=(Cl e off vs cells 0 (g':=λm=>if off<=m/\m<off+vs.length then cells[m-off]? else _) hf' hl hp' (yS i hi) λm _=>rfl).1
   exact Kn (F:=f') (off:=off) (cells:=cells) (ovs:=ovs) hr hn hz hi hk hkz J (λg g' x oo hx hg=>by
    obtain⟨_,o',q1,q2,q3⟩:=Cl e off vs cells 0 (g':=g') (ovs:=ovs) hf' hl hp' hx λm hm=>by rw[hg m hm,hl]
    grind)
  ·cases hm
section
variable {P:Program}{E:Ci}{s:St}{W:Wd}{v:Nat}{tm:Array Value}
def IP(W:Wd)(w':World)(r j:Nat)(o':It)(us:List (Nat×Nat)):Wd:=
 { W with w:=w',om:=λk=>match k with
   | .lf a b=>if a=r/\b=j then o' else if(a,b)∈us then []else W.om (.lf a b)
   |k=>W.om k }
theorem AW.LY(h:AW E s tm W)(hv:Aj s v){r j AB gen:Nat}{t:TypeId}{e:Ls}{xs yj:List e.D}(hl:s.leaf r j=.arr AB gen t e xs 2){u:Value}(yW:W.cv r j=some u){us:List (Nat×Nat)}(hus:(r,j)∉us)
  {w':World} {blk:Nat} (yR:blk∈W.om (.lf r j)) (hw:∀b,b≠blk->w'.heap[b]?=W.w.heap[b]?) (yP:w'.heap.size=W.w.heap.size) (yO:w'.os=W.w.os/\w'.tape=W.w.tape/\w'.output=W.w.output)
  {o':It} (zG:o'.Nodup) (zC:∀b∈o',b∈W.om (.lf r j)\/∃a c,(a,c)∈us/\b∈W.om (.lf a c)) (yD:AE e 2 w' W.fz u yj o'):
  AW E (s.app (gone us++[.leaf r j (.arr AB v t e yj 2)])) tm (IP W w' r j o' us):=by
 obtain⟨hr,hj⟩:=I6 hl;rw[A3];show AW E ((s.app (gone us)).AG (.leaf r j (.arr AB v t e yj 2))) tm _;obtain⟨hs1,zx⟩:=De s us;have hs2:=Bo (s.app (gone us)) r j (.arr AB v t e yj 2);have hl2:=Fc (s.app (gone us)) r j (.arr AB v t e yj 2);generalize (s.app (gone us)).AG (.leaf r j (.arr AB v t e yj 2))=s' at hs2 hl2;have yA:JR s s':=⟨hs2.sl.trans hs1.sl,hs2.len.trans hs1.len,λx=>⟨(hs2.box x).1.trans (hs1.box x).1,(hs2.box x).2.1.trans (hs1.box x).2.1,(hs2.box x).2.2.trans (hs1.box x).2.2⟩⟩
 have xt:∀a b,s'.leaf a b=if a=r/\b=j then .arr AB v t e yj 2 else if(a,b)∈us then .bad else s.leaf a b:=by
  intro a b;rw[hl2,zx];by_cases hc:a=r/\b=j
  ·obtain⟨rfl,rfl⟩:=hc;rw[AAS ⟨rfl,rfl,by rw[hs1.len];exact hr,by rw[(hs1.box a).2.2];exact hj⟩,AAS ⟨rfl,rfl⟩]
  ·grind
 have hown:∀k,∀b∈W.om k,k≠.lf r j->b≠blk:=λk b hb hk e=>h.sep.A4 k _ hk b hb (e▸yR);have zi:∀b,W.fz b->b≠blk:=λb hb e=>(h.sep.own _ _ yR).1 (e▸hb);refine h.MD (W':=IP W w' r j o' us) hv yA (λa b=>(a=r/\b=j)\/(a,b)∈us) (λ_=>False) (λa b hc=>?_) (λ_ _ _=>rfl) (λ_ _ hh=>hh.elim) (λ_=>rfl) (λa b hc=>?_) (λ_=>rfl) (λb hb=>?_) (λb hb=>hb) ?_ ?_ (λ_ a b hc=>?_) (λ_ hh=>hh.elim)
 ·grind
 ·show(if a=r/\b=j then o' else if(a,b)∈us then []else W.om (.lf a b))=_;grind
 ·refine hw b ?_;grind
 ·intro a b AB gen t e xs d hc hl yF;refine⟨rfl,?_⟩;grind
 ·refine h.sep.IG (W':=IP W w' r j o' us) (λk=>match k with
   | .lf a b=>(a=r/\b=j)\/(a,b)∈us
   |_=>False) rfl (by show _<=w'.heap.size;omega) (λb h1 h2=>hw b λe=>?_) yO (λk hk=>?_) (λk hk=>?_) (λk k' hk zJ yF b hb yH=>?_) λk hk b hb=>?_
  ·have:=(h.sep.own _ _ yR).2.2;grind
  ·cases k with
   |lf a b=>
    show(if a=r/\b=j then o' else if(a,b)∈us then []else W.om (.lf a b))=_;grind
   |_=>rfl
  ·cases k with
   |lf a b=>
    show(if a=r/\b=j then o' else if(a,b)∈us then []else W.om (.lf a b)).Nodup;grind
   |_=>exact hk.elim
  ·have one:∀k:Key,(match k with | .lf a b=>(a=r/\b=j)\/(a,b)∈us|_=>False)->∀b∈(IP W w' r j o' us).om k,k=.lf r j:=by
    intro k hk b hb;cases k with
    |lf a c=>
     have hb:b∈(if a=r/\c=j then o' else if(a,c)∈us then []else W.om (.lf a c)):=hb;split at hb
     ·rename_i hh;obtain⟨rfl,rfl⟩:=hh;rfl
     ·rename_i hh;rw[AAS (hk.resolve_left hh)]at hb;cases hb
    |_=>exact hk.elim
   grind
  ·cases k with
   |lf a c=>
    have hb:b∈(if a=r/\c=j then o' else if(a,c)∈us then []else W.om (.lf a c)):=hb;grind
   |_=>exact hk.elim
 ·show Aa s' (IP W w' r j o' us) (s'.leaf a b) (W.cv a b) (if a=r/\b=j then o' else if(a,b)∈us then []else W.om (.lf a b));rw[xt];by_cases hh:a=r/\b=j
  ·rw[AAS hh,AAS hh];obtain⟨rfl,rfl⟩:=hh;exact⟨u,yW,yD⟩
  ·rw[AAT hh,AAT hh,AAS (hc.resolve_left hh),AAS (hc.resolve_left hh)];exact⟨rfl,λ_ _=>trivial⟩
end
end Go.Ev
namespace Go.Ev
section
variable {P:Program}
theorem NP{t t0 ty:TypeId}{e:Ls}(yz:P.underlying t=some (.slice t0))(yS:NV P t0 e)(hf:Bx e=true){w:World}{fz fz2:Nat->Prop}(zi:∀b,fz b->b<w.heap.size){ux uy:Value}{xs ys:List e.D}{o1:It}
  (hx:AE e 2 w fz ux xs o1) (hy:AE e 0 w fz2 uy ys []) (hlen:xs.length+ys.length<=E8):
  ∃u w',(Builtin.append_ #[t,t] ty #[ux,uy]).run P w=.ok u w'/\(w'.os=w.os/\w'.tape=w.tape/\w'.output=w.output)/\w.heap.size<=w'.heap.size/\(∀b,b<w.heap.size->b∉o1->w'.heap[b]?=w.heap[b]?)/\
   AE e 2 w' fz ux xs o1/\∃o',AE e 2 w' fz u (xs++ys) o'/\∀b∈o',b∈o1\/(w.heap.size<=b/\b<w'.heap.size):=by
 obtain⟨i,hi,yP,hby,z,hz,hzc⟩:=yS.info;have hpos:=yS.pos;have yn:xs.length+ys.length<=68719476736:=hlen;have hdep:=hx.dep
 have zk:∃A c g,uy=.slice A ys.length c/\(A=none->ys=[])/\(∀ad,A=some ad->ys≠[]->ad.spot=none/\∀k,w.cell? (at_ ad k)=g k)/\DM e 2 w fz g ys λ_=>[]:=by
  obtain⟨A,c,hv,hc,hn,yf⟩:=hy.K7;cases A with
  |none=>
   have:ys=[]:=AAU No;subst this;exact⟨none,c,λ_=>none,hv,λ_=>rfl,(λad zb _=>by cases zb),(λi hi=>by simp at hi)⟩
  |some ad=>
   by_cases hc0:c=0
   ·have:ys=[]:=AAU J;subst this;exact⟨some ad,c,λ_=>none,hv,λ_=>rfl,(λad zb yF=>absurd rfl yF),(λi hi=>by simp at hi)⟩
   obtain⟨arr,T,fr,os,hs,hh,_,_,yS,_,_⟩:=yf ad rfl (.inl J);refine⟨some ad,c,_,hv,(λhA=>by cases hA),?_,DM.flat hf yS 2 w fz⟩;intro ad' zb _;injection zb with zb;subst zb
   exact⟨hs,λk=>by simp[World.cell?,at_,hh]⟩
 obtain⟨A1,c1,hux,hc1,hA1,hs1⟩:=hx.K7;obtain⟨A2,c2,g2,huy,hA2,hs2,hel2⟩:=zk
 have hnews:∃news:ADc,news.length=ys.length*e.n/\(∀k,k<ys.length*e.n->news[k]?=g2 k)/\(∀v∈news,v.oneCell'=true)/\
   (Builtin.firstCells i.size ys.length (.slice A2 ys.length c2)).run P w=.ok news.toArray w/\∀ad,A2=some ad->∀j u,news[j]?=some u->w.cell? (ad.add j)=some u:=by
  have yV:=hel2.cell
  have zz:∀ad,A2=some ad->∀j u,(Bl g2 (ys.length*e.n))[j]?=some u->w.cell? (ad.add j)=some u:=by
   intro ad zb j u hj;have xz:j<ys.length*e.n:=by have:=(AAO.1 hj).1;rwa[Ab]at this
   rw[CK yV j xz]at hj;obtain⟨hs,hg⟩:=hs2 ad zb (λh0=>by grind);rw[E0 hs,hg,hj]
  refine⟨Bl g2 (ys.length*e.n),Ab _ _,CK yV,HX yV,?_,zz⟩;cases hA:A2 with
  |none=>
   have:=hA2 hA;subst this;rw[run_firstCells_none];simp[Bl]
  |some ad=>exact run_firstCells_some w i.size ys.length ad ys.length c2 _ (by rw[Ab,yP]) (zz ad hA)
 obtain⟨news,hnl,hng,hn1',hnf,hncell⟩:=hnews
 have fresh:∀(arr:Array Value)(cap:Nat),xs.length+ys.length<=cap->cap*e.n<=arr.size->DM e 2 w fz (λk=>arr[k]?) xs (λ_=>[])->(∀k,k<ys.length*e.n->arr[xs.length*e.n+k]?=g2 k)->
   AE e 2 (w.drew.alloc (.cells arr t0)) fz ux xs o1/\(∀b,b<w.heap.size->b∉o1->(w.drew.alloc (.cells arr t0)).heap[b]?=w.heap[b]?)/\w.heap.size<=(w.drew.alloc (.cells arr t0)).heap.size/\
   ∃o',AE e 2 (w.drew.alloc (.cells arr t0)) fz (.slice (some ⟨w.heap.size,0,none⟩) (xs.length+ys.length) cap) (xs++ys) o'/\∀b∈o',b∈o1\/(w.heap.size<=b/\b<(w.drew.alloc (.cells arr t0)).heap.size):=by
  intro arr cap zP yt hx1 hy1;have hold:∀b,b<w.heap.size->(w.drew.alloc (.cells arr t0)).heap[b]?=w.heap[b]?:=λb hb=>Bh w.drew _ hb;refine⟨hx.frame (λb hb=>hold b (hb.elim (hdep b) (zi b))) λ_ hb=>hb,λb hb _=>hold b hb,No,?_⟩
  have hels:DM e 2 (w.drew.alloc (.cells arr t0)) fz (λk=>arr[0+k]?) (xs++ys) λi=>if i<xs.length then []else []:=by
   refine DM.append (os:=λ_=>[]) (yq:=λ_=>[]) ?_ ?_
   ·exact DM.congr (g:=λk=>arr[k]?) (hx1.flat hf 2 _ fz) λk _=>No
   ·exact DM.congr (g:=g2) (hel2.flat hf 2 _ fz) λk hk=>No
  have yE:=GX (w:=w.drew.alloc (.cells arr t0)) (ad:=⟨w.heap.size,0,none⟩) (c:=cap) (fr:=(0,0)) (T:=t0) (heap_alloc_new w.drew _) rfl J No No hels;rw[ABE]at yE;refine⟨_,yE,λb hb=>?_⟩;rcases AAj.1 hb with rfl|hb
  ·exact .inr ⟨AAi _,by rw[BR];exact Nat.lt_succ_self _⟩
  ·grind
 subst hux;subst huy;cases A1 with
 |none=>
  obtain⟨rfl,rfl⟩:=hA1 rfl;have hx0:xs=[]:=AAU J;subst hx0;cases ys with
  |nil=>exact⟨_,_,D2 t ty t0 i yz hi 0 A2 c2 news hnf,⟨rfl,rfl,rfl⟩,AAi _,λ_ _ _=>rfl,hx,[],Bt,λb hb=>by cases hb⟩
  |cons y ys=>
   cases A2 with
   |none=>grind
   |some ad2=>
    have yx:=grownCap_ge w (y::ys).length 0 t0
    obtain⟨f1,f2,f3,o',f4,f5⟩:=fresh (news.toArray++Builtin.zeroCells z.cells (grownCap w (y::ys).length 0 t0-(y::ys).length)) (grownCap w (y::ys).length 0 t0) (by simpa using yx)
     (by
      have:(y::ys).length*e.n+(grownCap w (y::ys).length 0 t0-(y::ys).length)*e.n=grownCap w (y::ys).length 0 t0*e.n:=by rw[<-AAt];congr 1;omega
      simp only[Array.size_append,List.size_toArray,hnl,Builtin.zeroCells,Array.size_map,Array.size_range,hzc,List.length_map,BT];omega) (λi hi=>by simp at hi)
     (by
      intro k hk;rw[<-hng k hk];simp only[List.length_nil,Nat.zero_mul,AAd];rw[AA3 (by simpa[hnl]using hk)];simp)
    refine⟨_,_,run_append_nil w t ty t0 i z yz hi hz ad2 (y::ys).length c2 news (by rw[hnl,yP]) (hncell ad2 rfl) so (by simp at yn ⊢;omega) (AA5 (Nat.mul_le_mul (show _<=68719476736 by simp at yn ⊢;omega) hby) ADd),⟨rfl,rfl,rfl⟩,f3,f2,f1,o',?_,f5⟩;grind
 |some ad1=>
  obtain⟨arr,T,fr,os1,hs,hh,yd,zX,hx1,ho10,_⟩:=hs1 ad1 rfl (.inr ADd);have ho1:o1=ad1.block::(List.range xs.length).flatMap os1:=ho10 ADd;have yJ:=zX ADd;clear ho10 zX hs1;obtain⟨b1,yb,sp1⟩:=ad1;dsimp only at hs hh yd hx1 ho1;subst hs;have zg:b1∈o1:=by rw[ho1];simp
  by_cases zP:xs.length+ys.length<=c1
  ·
   have hmul:(xs.length+ys.length)*e.n<=c1*e.n:=AAs _ zP;rw[AAt]at hmul;obtain⟨w',hst,yN⟩:=Ee (P:=P) (o:=yb+xs.length*e.n) news hh yJ (by rw[hnl];omega) hn1';have zz:(⟨b1,yb,none⟩:Addr).add (xs.length*i.size)=⟨b1,yb+xs.length*e.n,none⟩:=by rw[yP];exact CT _ _ _
   have yL:=Cc news (yb+xs.length*e.n) arr (by rw[hnl];omega)
   have hpre:DM e 2 w' fz (λk=>(B5 news (yb+xs.length*e.n) arr)[yb+k]?) xs os1:=by intro i hi;refine Ls.BP e (Ls.AY e hf (hx1 i hi) (d':=2) (w':=w') (xy:=fz)).1 λj hj=>?_;have xz:=KO hi hj;show(B5 news (yb+xs.length*e.n) arr)[yb+(i*e.n+j)]?=_;rw[yL,AAT J]
   have hels:DM e 2 w' fz (λk=>(B5 news (yb+xs.length*e.n) arr)[yb+k]?) (xs++ys) λi=>if i<xs.length then os1 i else []:=by refine DM.append (yq:=λ_=>[]) hpre ?_;refine DM.congr (g:=g2) (hel2.flat hf 2 w' fz) λk hk=>?_;rw[<-hng k hk,yL,AAS (by rw[hnl];omega)];congr 1;omega
   have yE:=GX (w:=w') (ad:=⟨b1,yb,none⟩) (c:=c1) yN.here rfl (by rw[Ar];exact yJ) (by rw[Ar];exact yd) (by simpa using zP) hels;have hrow0:=GX (w:=w') (ad:=⟨b1,yb,none⟩) (c:=c1) yN.here rfl (by rw[Ar];exact yJ) (by rw[Ar];exact yd) hc1 hpre;rw[ABE]at yE;refine⟨_,_,EM t ty t0 i yz hi ⟨b1,yb,none⟩ xs.length c1 A2 ys.length c2 news hnf zP (by rw[zz];exact hst),yN.rest,by rw[yN.size];exact AAi _,λb hb hn=>yN.CX b λe=>hn (e▸zg),by rw[ho1];exact hrow0,_,yE,λb hb=>?_⟩;grind
  ·
   cases A2 with
   |none=>grind
   |some ad2=>
    have hcell1:=hx1.cell;have hg1:=CK hcell1
    have holds:∀j u,(Bl (λk=>arr[yb+k]?) (xs.length*e.n))[j]?=some u->w.cell? ((⟨b1,yb,none⟩:Addr).add j)=some u:=by
     intro j u hj;have xz:j<xs.length*e.n:=by have:=(AAO.1 hj).1;rwa[Ab]at this
     rw[hg1 j xz]at hj;rw[CT];simp only[World.cell?,hh];simpa using hj
    have yx:=grownCap_ge w (xs.length+ys.length) c1 t0
    obtain⟨f1,f2,f3,o',f4,f5⟩:=fresh (((Bl (λk=>arr[yb+k]?) (xs.length*e.n)).toArray++news.toArray)++Builtin.zeroCells z.cells (grownCap w (xs.length+ys.length) c1 t0-(xs.length+ys.length))) (grownCap w (xs.length+ys.length) c1 t0) yx
     (by
      have:xs.length*e.n+ys.length*e.n+(grownCap w (xs.length+ys.length) c1 t0-(xs.length+ys.length))*e.n=grownCap w (xs.length+ys.length) c1 t0*e.n:=by rw[<-AAt,<-AAt];congr 1;omega
      simp only[Array.size_append,List.size_toArray,hnl,Ab,Builtin.zeroCells,Array.size_map,Array.size_range,hzc,List.length_map,BT];omega)
     (DM.congr (hx1.flat hf 2 w fz) λk hk=>by
      grind)
     (by
      intro k hk;rw[<-hng k hk];rw[AA3 (by simp[Ab,hnl];omega),Array.getElem?_append_right (by simp[Ab])];simp[Ab])
    exact⟨_,_,run_append_grow w t ty t0 i z yz hi hz ⟨b1,yb,none⟩ xs.length c1 (Bl (λk=>arr[yb+k]?) (xs.length*e.n)) (by rw[Ab,yP]) holds ad2 ys.length c2 news (by rw[hnl,yP]) (hncell ad2 rfl) J J
     (growslice_fits J (AA5 (Nat.mul_le_mul yn hby) ADd)),⟨rfl,rfl,rfl⟩,f3,f2,f1,o',f4,f5⟩
end
section
variable {P:Program}{E:Ci}{s:St}{W:Wd}{o:Oper}{a:Act}{ws:List Wr}{cx:Cx}{v:Nat}{tm:Array Value}
theorem LJ(hc:Di P cx)(h:AW E s a.tmps W)(hv:Aj s v){c:Call}(ho:o.op=.call c)(hb:c.callee=.builtin .append)(hd:∀d,o.dst=some d->d<a.tmps.size)(hl:(AA cx v o s).leads ws):BU P E o a W.w (s.app ws):=by
 simp only[AA,ho,hb]at hl;split at hl
 ·rename_i x y t1 t2 ty d hx ht zv yp;split at hl
  ·rename_i t e zd;split at hl
   ·rename_i yC;simp only[AAN,AAX]at yC;obtain⟨rfl,yE⟩:=yC;obtain⟨t0,yz,yS⟩:=Fa hc yE;have yX:c.args = #[x,y]:=No
    have hats:c.argTypes = #[t1,t1]:=No
    obtain⟨cal,args,ats⟩:=c;dsimp only at hb yX hats;subst hb;subst yX;subst hats
    have fin:∀ {xs ys:List e.D} {us1 us2:List (Nat×Nat)} {o1:It},AE e 2 W.w W.fz (a.eval x) xs o1->o1.Nodup->(∀b∈o1,∃r j,(r,j)∈us1/\b∈W.om (.lf r j))->KD P s W e (a.eval y) ys us2->
      (∀x∈us1,x∉us2)->xs.length+ys.length<=E8->ws=gone (us1++us2)++ownRow d v t e (xs++ys)->BU P E o a W.w (s.app ws):=by
     intro xs ys us1 us2 o1 h1 h2 h3 h4 h5 h6 h7;obtain⟨u,w',yK,W',zL,xw⟩:=K2 h hv (ty:=o.type) yz yS (hd d yp) h1 h2 h3 h4 h5 h6 t;rw[h7];refine Br h yp ?_ zL xw;simp[execOp,ho,resolve,invoke,builtin,yK]
    have h1:=Ad h x;have h2:=Ad h y;have zp:=Ib hv x;generalize s.Ag x=p at hl h1 zp;unfold Cs at hl;split at hl
    ·obtain⟨ys,us,hl,zk⟩:=I8 h h2 hl;rcases Al hl with⟨hb,hl⟩|⟨_,hl⟩
     ·have hl:_=ws:=hl;rw[show a.eval x=.slice none 0 0 from h1]at fin;exact fin (xs:=[]) (us1:=[]) Bt AAW (λb hb=>by cases hb) zk (λx hx=>by cases hx) No hl.symm
     ·exact hl.elim
    ·rename_i c;split at hl
     ·rename_i AB gen t' e' xs dd xt;split at hl
      ·rename_i yC;simp only[AAN,AAX,AAa]at yC;obtain⟨⟨⟨yB,hp⟩,hpin⟩,hdd⟩:=yC;subst yB;subst hdd;have hp:c.p=[]:=by cases hq:c.p<;>simp_all[isNil]
       split at hl
       ·rename_i ys0 hys;obtain⟨q1,q2⟩:=L.AH hys;cases q1;have q2:xs=ys0:=q2;subst q2;obtain⟨h',e',yW,hn⟩:=h1 gen _ _ _ _ xt (.inl hp);rw[hp]at hn;obtain⟨rfl,rfl⟩:=hn;obtain⟨u',yG,yD⟩:=(h.roots c.r).row xt;rw[yW]at yG;injection yG with yG;rw[<-yG]at yD
        obtain⟨ys,us,hl,zk⟩:=I8 h h2 hl;split at hl
        ·exact hl.elim
        ·rename_i hnot;rcases Al hl with⟨hb,hl⟩|⟨_,hl⟩
         ·have hl:_=ws:=hl;exact fin (us1:=[(c.r,c.j)]) yD (h.sep.nodup _) (λb hb=>⟨c.r,c.j,so,hb⟩) zk (λx hx=>by grind) (AAx hb) hl.symm
         ·exact hl.elim
       ·exact hl.elim
      ·exact hl.elim
     ·exact hl.elim
    ·rename_i c lo hi;split at hl
     ·rename_i AB gen t' e' xs dd xt;split at hl
      ·rename_i yC;simp only[AAN,AAX,AAa]at yC;obtain⟨⟨⟨⟨yB,hp⟩,hpin⟩,hdd⟩,hflat⟩:=yC;subst yB;subst hdd;have hp:c.p=[]:=by cases hq:c.p<;>simp_all[isNil]
       split at hl
       ·rename_i ys0 hys;obtain⟨q1,q2⟩:=L.AH hys;cases q1;have q2:xs=ys0:=q2;subst q2;obtain⟨h',e',A,n,k0,yW,hn,l1,l2,huv⟩:=h1 gen _ _ _ _ xt (.inl hp);rw[hp]at hn;obtain⟨rfl,rfl⟩:=hn;obtain⟨u',yG,yD⟩:=(h.roots c.r).row xt;rw[yW]at yG;injection yG with yG;rw[<-yG]at yD
        obtain⟨o',r1,r2,r3⟩:=Bw.sub yD l1 l2;obtain⟨ys,us,hl,zk⟩:=I8 h h2 hl;split at hl
        ·exact hl.elim
        ·rename_i hnot;rcases Al hl with⟨hb,hl⟩|⟨_,hl⟩
         ·have hl:_=ws:=hl;refine fin (us1:=[(c.r,c.j)]) (by rw[huv];exact r1) (r3 (h.sep.nodup _)) (λb hb=>⟨c.r,c.j,so,r2 b hb⟩) zk (λx hx=>by grind) (AAx hb) hl.symm
         ·exact hl.elim
       ·exact hl.elim
      ·exact hl.elim
     ·exact hl.elim
    ·exact hl.elim
   ·exact hl.elim
  ·exact hl.elim
 ·exact hl.elim
theorem IF(hc:Di P cx)(h:AW E s a.tmps W)(hv:Aj s v){t:TypeId}{len:Nat}{parts:Array (Nat×Operand)}(ho:o.op=.buildSlice t len parts)(hd:∀d,o.dst=some d->d<a.tmps.size)(hl:(AA cx v o s).leads ws):BU P E o a W.w (s.app ws):=by
 simp only[AA,ho]at hl;split at hl
 ·rename_i ty d ht yp;split at hl
  ·exact hl.elim
  ·rename_i z8;split at hl
   ·rename_i t' e zd;split at hl
    ·rename_i yC;simp only[AAN,AAX,AAh]at yC;obtain⟨hlen,hsmall⟩:=yC;obtain⟨yz,yS⟩:=(CQ hc ht zd No:GF P t (.sl t' e));obtain⟨i,hi,yP,hby,z,hz,hzc⟩:=yS.info;obtain⟨ys,us,os,hl,hes⟩:=HN (P:=P) h hv _ _ hl;split at hl
     ·have hl:_=ws:=hl;have hyl:ys.length=len:=by rw[hes.len,hlen];simp
      have hparts:∀(m:Nat)(x:Operand)(i:Nat),parts.toList[m]?=some (i,x)->i=0+m/\(a.eval x).cells.size=e.n:=by
       intro m x i hm;have zU:m<ys.length:=by rw[hes.len];exact(AAO.1 hm).1
       obtain⟨x',h1,h2,_⟩:=hes.el m zU;rw[hm]at h1;injection h1 with h1;injection h1 with h1 zT;subst zT
       exact⟨h1,h2⟩
      obtain⟨arr,hf,hasz,_,yL⟩:=HV (e:=e) a.eval parts.toList 0 (madeCells z.cells (len*e.n)) hparts (by rw[size_madeCells,hlen];simp);rw[size_madeCells]at hasz;have yK:=H0 (P:=P) (w:=W.w) (t:=t) (len:=len) (parts:=parts.map λ(i,x)=>(i,a.eval x)) (arr:=arr) yz hi hz No (by rw[yP,ABR];exact hf)
      have hels:DM e 2 (W.w.alloc (.cells arr t')) W.fz (λk=>arr[0+k]?) ys os:=by
       intro m hm;obtain⟨x,h1,h2,h3⟩:=hes.el m hm
       have h4:e.rd 2 (W.w.alloc (.cells arr t')) W.fz (λj=>(a.eval x).cells[j]?) ys[m] (os m):=Ls.AN e h3 (λb hb=>Bh _ _ (by
        rcases hb with hb|hb
        ·obtain⟨r,j,_,h5⟩:=hes.N5 m b hb;exact(h.sep.own _ b h5).2.1
        ·exact(h.sep.fz b hb).1)) λ_ hb=>hb
       refine Ls.BP e h4 λj hj=>?_;have:=yL m _ x h1 j hj;simp only[AAd]at this ⊢;exact this
      have yE:=GX (w:=W.w.alloc (.cells arr t')) (ad:=⟨W.w.heap.size,0,none⟩) (c:=len) (fr:=(0,0)) (T:=t') (heap_alloc_new _ _) rfl J (by simp[hasz]) J hels
      obtain⟨W',zL,xw⟩:=h.C5 hv us (hd d yp) (t0:=t') (EO h _) (λb hb _=>Bh _ _ ADx) (by rw[BR];omega) ⟨rfl,rfl,rfl⟩ yE
       (AAf.2 ⟨λxv=>by
        obtain⟨m,_,hb⟩:=AAP.1 xv;obtain⟨r,j,_,h5⟩:=hes.N5 m _ hb;exact absurd (h.sep.own _ _ h5).2.1 (Nat.lt_irrefl _),Dy hes.Om hes.Oe _⟩)
       (λb hb=>by
        rcases AAj.1 hb with rfl|hb
        ·exact .inr ⟨AAi _,by rw[BR];grind⟩
        ·obtain⟨m,_,hb⟩:=AAP.1 hb;exact .inl (hes.N5 m b hb))
      rw[<-hl];refine Br h yp ?_ zL xw;rw[hyl];unfold execOp;simp only[ho,Sem.run_bind,yK,Result.andThen_ok];rfl
     ·exact hl.elim
    ·exact hl.elim
   ·exact hl.elim
 ·exact hl.elim
end
end Go.Ev
namespace Go.Ev
section
variable {P:Program}{E:Ci}{s:St}{W:Wd}{o:Oper}{a:Act}{ws:List Wr}{cx:Cx}{v:Nat}{tm:Array Value}
theorem Dv{t:TypeId}{x y:Operand}(ho:o.op=.store t x y)(hdst:o.dst=none){ad:Addr}(hx:a.eval x=.pointer (some ad)){i:TypeInfo}(hi:P.info? t=some i)(yP:(a.eval y).cells.size=i.size){W':Wd}
  (yK:(storeCells ad (a.eval y).cells.toList).run P W.w=.ok () W'.w) {s':St} (hr:AW E s' a.tmps W'):BU P E o a W.w s':=by
 intro next Q hn
 have hst:(storeVar t ad (a.eval y)).run P W.w=.ok () W'.w:=by simp[storeVar,sizeOf,typeInfo,hi,yP,yK]
 unfold Oper.wp execOp;simp only[ho,hx,Instr.storeAt,Instr.sureAddr,Sem.run_bind,Sem.run_pure,Result.andThen_ok,hst];show next (a.put o.dst Go.undef) W'.w
 rw[hdst];exact hn _ W' rfl hr
theorem Jo{α β:Type}{f:α->Option β}:∀ {l:List α} {r:List β},l.mapM f=some r->r.length=l.length
 | [],r,hr=>No
 |b::l,r,hr=>by
  simp only[List.mapM_cons,Option.bind_eq_bind,Option.pure_def]at hr;cases hb:f b with
  |none=>grind
  |some c=>
   cases yi:l.mapM f with
   |none=>grind
   |some cs=>
    simp[hb,yi]at hr;subst hr;simp[Jo yi]
theorem Gd(hc:Di P cx)(h:AW E s a.tmps W)(hv:Aj s v){t:TypeId}{x y:Operand}(ho:o.op=.store t x y){q:LA}{g:Bool}{as:List LA}{ty:Ty}{fs wt:List Wr}(ht:cx.ty t=some ty)(h1:AT s W q (a.eval x))(h2:BQ s W (.v g as) (a.eval y))(zp:v∉(AV.v g as).AF)
  (hl:(GA cx v s o.dst q ty.ls.kinds as fs).leads wt):∃ws,wt=fs++ws/\BU P E o a W.w (s.app ws):=by
 obtain⟨i,hi,yP,_⟩:=(hc t ty ht).info;unfold GA at hl;unfold St.GB at hl;split at hl
 ·rename_i r j AB;split at hl
  ·rename_i yC;simp only[AAN,AAX,AAh,BT]at yC;obtain⟨⟨hb,yB⟩,yd⟩:=yC;obtain⟨bs,us,os,hl,zh,halen,zG,hbx,yv,hbig,zr⟩:=ER (v:=v) h (g:=A9 g (a.eval y)) (λj b hj=>⟨λxv=>zp (AAP.2 ⟨b,AAR hj,xv⟩),Ca h2 j b hj⟩) hl;rw[BT]at halen;split at hl
   ·rename_i hdst;have hl:_=wt:=hl
    have yU:=CZ h2 λj b hj=>by
     have xz:j<bs.length:=by rw[zh];exact(AAO.1 hj).1
     obtain⟨u,hu,hr⟩:=zr j bs[j] (AAM xz);exact⟨u,hu,hr.1⟩
    obtain⟨_,yc⟩:=h.roots r;rw[AAS hb]at yc;obtain⟨_,arr,T,fr,hh,yJ,hasz,_⟩:=yc
    have yr:∀u∈(a.eval y).cells.toList,u.oneCell'=true:=by
     intro u hu;obtain⟨m,hm⟩:=AAv hu;have xz:m<bs.length:=by rw[zh,<-yU.1];simpa using(AAO.1 hm).1
     obtain⟨u',yG,hr⟩:=zr m bs[m] (AAM xz);have:=yU.2 m J;rw[yG]at this;have h3:(a.eval y).cells[m]?=some u:=ADl
     rw[this]at h3;injection h3 with h3;subst h3;exact hr.1
    obtain⟨w',yK,yN⟩:=Ee (P:=P) (o:=j) (a.eval y).cells.toList hh yJ No yr
    obtain⟨W',zL,xw⟩:=h.J9 hv (j:=j) hb (us:=us) (bs:=bs) (os:=os) (cells:=(a.eval y).cells.toList) No J
     (λm b hm=>by
      grind) yv (λm hm=>hbig m J) hh yN
    refine⟨_,hl.symm,?_⟩;exact Dv ho hdst (h1 hb yB) hi J No xw
   ·exact hl.elim
  ·exact hl.elim
 ·rename_i c;split at hl
  ·rename_i zA;obtain⟨vs,hl,zE,hvm,hvs⟩:=FR h (g:=A9 g (a.eval y)) (λj b hj=>Ca h2 j b hj) hl
   have yU:=CZ h2 λj b hj=>by
    have xz:j<vs.length:=by rw[zE];exact(AAO.1 hj).1
    obtain⟨u,hu,hr⟩:=hvs j vs[j] (AAM xz);exact⟨u,hu,L.FC _ hr⟩
   have hlen:vs.length=ty.ls.n:=by rw[<-BT,<-hvm];simp
   have hplain:Plain W.w W.fz vs (a.eval y).cells.toList:=by
    refine⟨No,λm lv hm=>?_⟩
    have hns:Bj lv.l=false:=by
     have hmem:lv.l∈ty.ls.kinds:=by rw[<-hvm];exact AAw.2 ⟨lv,AAR hm,rfl⟩
     simpa using AAZ.1 zA _ hmem
    obtain⟨u,hu,hr⟩:=hvs m lv hm;refine⟨hns,u,?_,λd w' xy=>(L.AY lv.l hns hr).1⟩;have xz:m<as.length:=by rw[<-zE];exact(AAO.1 hm).1
    have:=yU.2 m xz;rw[hu]at this;simpa using this
   have yr:∀u∈(a.eval y).cells.toList,u.oneCell'=true:=by
    intro u hu;obtain⟨m,hm⟩:=AAv hu;have xz:m<vs.length:=by rw[<-hplain.1];exact(AAO.1 hm).1
    obtain⟨_,u',yG,hr⟩:=hplain.2 m vs[m] (AAM xz);rw[hm]at yG;injection yG with yG;subst yG
    exact L.FC _ (hr 0 W.w W.fz)
   split at hl
   ·rename_i zf zm;split at hl
    ·rename_i hdst;have hl:_=wt:=hl;unfold St.J3 at zm;split at zm
     ·rename_i AB gen t0 e0 xs0 d0 xt;split at zm
      ·rename_i yC;simp only[AAN,AAg,AAX,AAh]at yC;obtain⟨⟨⟨rfl,hg⟩,hd0⟩,hpl⟩:=yC;split at zm
       ·rename_i f hf;injection zm with zm
        subst zm;obtain⟨q,i0,off,h',e',ad,n,k,hs,yW,hnav,hspot,hi0,hu⟩:=h1 gen _ _ _ _ xt hg;obtain⟨u',yG,yD⟩:=(h.roots c.r).row xt;rw[yW]at yG;injection yG with yG;subst yG
        have hno:∀b∈W.om (.lf c.r c.j),¬W.fz b:=λb hb=>(h.sep.own _ b hb).1;obtain⟨hsp,arr,T,fr,hh,yJ,hbnd,xv,hput0⟩:=Kh hplain hi0 c.p q hf yD (h.sep.nodup _) hno hd0 hpl hs hnav;obtain⟨w',yK,yN⟩:=Ee (P:=P) (o:=ad.off+(i0*e'.n+off)) (a.eval y).cells.toList hh yJ hbnd yr;have xw:=h.KV hv xt yW (hput0 w' yN) (λb hb=>yN.CX b λe=>hb (e▸xv)) yN.size yN.rest;exact⟨_,hl.symm,Dv ho hdst hu hi J (W':={ W with w:=w' }) yK xw⟩
       ·cases zm
      ·cases zm
     ·cases zm
    ·exact hl.elim
   ·exact hl.elim
  ·split at hl
   ·rename_i p0 hp0;obtain⟨bs,us,os,hl,zh,halen,zG,hbx,yv,hbig,zr⟩:=ER (v:=v) h (g:=A9 g (a.eval y)) (λj b hj=>⟨λxv=>zp (AAP.2 ⟨b,AAR hj,xv⟩),Ca h2 j b hj⟩) hl;rw[BT]at halen;split at hl
    ·rename_i zA;split at hl
     ·rename_i lvs hlvs;have hlvs:bs.mapM E3=some lvs:=hlvs;have hlen:lvs.length=bs.length:=Jo hlvs;split at hl
      ·rename_i AB gen t0 e0 xs0 xt;split at hl
       ·rename_i yB;have yB:AB=c.AB:=by simpa using yB
        subst yB;split at hl
        ·rename_i f hf;split at hl
         ·rename_i hdst;have hl:_=wt:=hl
          have yU:=CZ h2 λj b hj=>by
           have xz:j<bs.length:=by rw[zh];exact(AAO.1 hj).1
           obtain⟨u,hu,hr⟩:=zr j bs[j] (AAM xz);exact⟨u,hu,hr.1⟩
          have yr:∀u∈(a.eval y).cells.toList,u.oneCell'=true:=by
           intro u hu;obtain⟨m,hm⟩:=AAv hu;have xz:m<bs.length:=by rw[zh,<-yU.1];simpa using(AAO.1 hm).1
           obtain⟨u',yG,hr⟩:=zr m bs[m] (AAM xz);have:=yU.2 m J;rw[yG]at this;have h3:(a.eval y).cells[m]?=some u:=ADl
           rw[this]at h3;injection h3 with h3;subst h3;exact hr.1
          obtain⟨q,i0,off,h',e',ad,n,k,hs,yW,hnav,hspot,hi0,hu⟩:=h1 gen _ _ _ _ xt (.inl No);rw[hp0]at hs;simp only[Ah,Option.some.injEq,Prod.mk.injEq]at hs;obtain⟨rfl,rfl,rfl⟩:=hs;obtain⟨rfl,rfl⟩:=hnav;obtain⟨u',yG,yD⟩:=(h.roots c.r).row xt;rw[yW]at yG;injection yG with yG;subst yG
          have hus:(c.r,c.j)∉us:=λxv=>No
          have hfromU:∀m,∀b∈os m,∃r j,(r,j)∈us/\b∈W.om (.lf r j):=by
           intro m b hb;by_cases hm:m<bs.length
           ·obtain⟨u,_,ht⟩:=zr m bs[m] (AAM hm);exact ht.2.2.1 b hb
           ·grind
          have hk:GG os (W.om (.lf c.r c.j)):=by
           refine⟨λm=>?_,yv,λm b hb yH=>?_⟩
           ·by_cases hm:m<bs.length
            ·obtain⟨u,_,ht⟩:=zr m bs[m] (AAM hm);exact ht.2.1
            grind
           ·obtain⟨r,j,xv,hb2⟩:=hfromU m b hb;exact h.sep.A4 (.lf r j) (.lf c.r c.j) (λe=>by grind) b hb2 yH
          have hkz:∀m,∀b∈os m,¬W.fz b:=λm b hb=>by obtain⟨r,j,_,hb2⟩:=hfromU m b hb;exact(h.sep.own _ b hb2).1
          have hno:∀b∈W.om (.lf c.r c.j),¬W.fz b:=λb hb=>(h.sep.own _ b hb).1
          have hp:∀(m:Nat)(lv:Lv),lvs[m]?=some lv->∃u,(a.eval y).cells.toList[m]?=some u/\lv.l.rd 2 W.w W.fz u lv.x (os m):=by
           intro m lv hm;have xz:m<bs.length:=by rw[<-hlen];exact(AAO.1 hm).1
           obtain⟨y',hy',hy''⟩:=Fg hlvs m bs[m] (AAM xz);rw[hm]at hy'';injection hy'' with hy'';subst hy''
           obtain⟨u,hu2,ht⟩:=zr m bs[m] (AAM xz);have:=yU.2 m J;rw[hu2]at this;exact⟨u,No,IN ht hy'⟩
          rw[hp0]at hf;obtain⟨hsp,arr,T,fr,hh,yJ,hbnd,xv,o',hnd',zC,hput0⟩:=MC No hp (λm hm=>hbig m J) hi0 hf yD (h.sep.nodup _) hno hk hkz;obtain⟨w',yK,yN⟩:=Ee (P:=P) (o:=ad.off+(p0.1*e'.n+p0.2)) (a.eval y).cells.toList hh yJ hbnd yr;have xw:=h.LY hv xt yW hus xv (λb hb=>yN.CX b hb) yN.size yN.rest hnd' (λb hb=>(zC b hb).imp id λ⟨m,hb⟩=>hfromU m b hb) (hput0 w' yN);refine⟨_,hl.symm,?_⟩;exact Dv ho hdst hu hi J (W':=IP W w' c.r c.j o' us) yK xw
         ·exact hl.elim
        ·exact hl.elim
       ·exact hl.elim
      ·exact hl.elim
     ·exact hl.elim
    ·exact hl.elim
   ·exact hl.elim
 ·exact hl.elim
end
end Go.Ev
namespace Go.Ev
theorem NB{s:St}{r:Nat}(h:s.ro.length<=r):(s.root r).ls=[]:=by have:s.root r=dead:=Au _ h;rw[this];rfl
theorem DB(s:St)(r j:Nat):∀(rs:It)(a:LA),(a=s.leaf r j\/a=A6 (s.leaf r j))->
  (rs.map λr=>(⟨r,0,(s.root r).ls.map A6⟩:Up)).foldl (λa u=>if r=u.r/\u.lo<=j/\j<u.lo+u.news.length then nth .bad u.news (j-u.lo)else a) a=if r∈rs then A6 (s.leaf r j)else a
 | [],a,ha=>so
 |x::rs,a,ha=>by
  simp only[ABI,List.foldl_cons,List.length_map,AAd,Nat.sub_zero];by_cases hx:r=x
  ·subst hx;rw[AAS AAo]
   have hstep:(if r=r/\0<=j/\j<(s.root r).ls.length then nth .bad ((s.root r).ls.map A6) j else a)=A6 (s.leaf r j)\/(s.leaf r j=.bad/\(if r=r/\0<=j/\j<(s.root r).ls.length then nth .bad ((s.root r).ls.map A6) j else a)=a):=by
    by_cases hj:j<(s.root r).ls.length
    ·left;rw[AAS ⟨rfl,Nat.zero_le _,hj⟩];unfold St.leaf;rw[Ae,Ae,AAe,AAM hj];rfl
    ·right;exact⟨Au _ (AA1 hj),AAT λhh=>hj hh.2.2⟩
   rcases hstep with h1|⟨h1,h2⟩
   ·rw[h1,DB s r j rs _ (.inr rfl)];split<;>rfl
   ·rw[h2];have ha':a=.bad:=by rcases ha with ha|ha<;>rw[ha,h1]<;>rfl
    rw[DB s r j rs a ha,ha',h1];split<;>rfl
  ·rw[AAT (λhh=>hx hh.1),DB s r j rs a ha];simp[hx]
section
variable {P:Program}{E:Ci}{s:St}{W:Wd}{v:Nat}{tm:Array Value}{cx:Cx}
theorem GP:∀ {rs:It} {ws:List Wr},Ap cx s rs=some ws->ws=ET ((rs.filter λr => !s.Bm r).map λr=>⟨r,0,(s.root r).ls.map A6⟩)
 | [],ws,h=>by injection h with h;exact h.symm
 |r::rs,ws,h=>by
  simp only[Ap]at h;split at h
  ·cases h
  ·split at h
   ·rename_i zf hws;injection h with h;subst h
    rw[GP hws];unfold Cy;cases hs:s.Bm r with
    |true=>grind
    |false=>rw[List.filter_cons_of_pos (by simp[hs])];rfl
   ·cases h
theorem Ka{r:Nat}(h:s.Bm r=true)(j:Nat):A6 (s.leaf r j)=s.leaf r j:=by
 unfold St.leaf;rw[Ae];cases hq:(s.root r).ls[j]? with
 |none=>rfl
 |some a=>
  have:=AAZ.1 h a (AAR hq);cases a with
  |arr v g t e xs d=>cases d with
   |zero=>rfl
   |succ d=>cases this
  |_=>rfl
structure JO(s s':St)(W W':Wd)(rs:It):Prop where
 same:JR s s'
 w:W'.w=W.w
 cv:W'.cv=W.cv
 bk:W'.bk=W.bk
 leaf:∀r j,r∉rs->s'.leaf r j=s.leaf r j
 OJ:∀r j,s'.leaf r j=s.leaf r j\/s'.leaf r j=A6 (s.leaf r j)
 om:∀r j,r∉rs->W'.om (.lf r j)=W.om (.lf r j)
 O4:∀r,W'.om (.blk r)=W.om (.blk r)
 sub:∀k,∀b∈W'.om k,b∈W.om k
 up:∀b,W.fz b->W'.fz b
 fz:∀b,W'.fz b->Seen W rs b
theorem Ea(h:AW E s tm W)(hv:Aj s v){rs:It}{ws:List Wr}(hf:Ap cx s rs=some ws):∃W',AW E (s.app ws) tm W'/\JO s (s.app ws) W W' rs/\∀b,Seen W rs b->W'.fz b:=by
 rw[GP hf]
 obtain⟨yA,xt⟩:=IA ((rs.filter λr => !s.Bm r).map λr=>(⟨r,0,(s.root r).ls.map A6⟩:Up)) s λu hu=>by
  obtain⟨r,_,rfl⟩:=AAw.1 hu;refine⟨?_,so⟩;rcases AAu r s.ro.length with xz|yx
  ·grind
  ·left;simp[NB yx]
 generalize s.app (ET ((rs.filter λr => !s.Bm r).map λr=>(⟨r,0,(s.root r).ls.map A6⟩:Up)))=s' at yA xt
 have xt:∀r j,s'.leaf r j=if r∈rs then A6 (s.leaf r j)else s.leaf r j:=λr j=>by
  rw[xt,DB s r j _ _ (.inl rfl)];by_cases hr:r∈rs
  ·rw[AAS hr];cases hst:s.Bm r with
   |true=>rw[AAT λhm=>by have:=(List.mem_filter.1 hm).2;simp[hst]at this,Ka hst]
   |false=>rw[AAS (List.mem_filter.2 ⟨hr,by simp[hst]⟩)]
  grind
 let W':Wd:={
  w:=W.w
  fz:=Seen W rs
  cv:=W.cv
  bk:=W.bk
  om:=λk=>match k with
   | .lf r j=>if r∈rs then []else W.om (.lf r j)
   |k=>W.om k }
 have homf:∀r j,W'.om (.lf r j)=if r∈rs then []else W.om (.lf r j):=λ_ _=>rfl
 have yu:∀k,∀b∈W'.om k,b∈W.om k/\∀r∈rs,∀j,k≠.lf r j:=by
  intro k b hb;cases k with
  |lf r j=>
   grind
  |blk r=>grind
  |fl k=>grind
 have zu:Sep E W':={
  nodup:=by
   intro k;cases k with
   |lf r j=>rw[homf];split;exact AAW;exact h.sep.nodup _
   |blk r=>exact h.sep.nodup _
   |fl k=>exact h.sep.nodup _
  A4:=λk k' yF b hb yH=>h.sep.A4 k k' yF b (yu k b hb).1 (yu k' b yH).1
  own:=λk b hb=>by
   obtain⟨h1,h2⟩:=yu k b hb;obtain⟨q1,q2,q3⟩:=h.sep.own k b h1;refine⟨?_,q2,q3⟩
   rintro (hz|⟨r,hr,j,hz⟩)
   ·exact q1 hz
   ·exact h.sep.A4 k (.lf r j) (h2 r hr j) b h1 hz
  fz:=λb hb=>by
   rcases hb with hz|⟨r,hr,j,hz⟩
   ·exact h.sep.fz b hz
   ·obtain⟨_,q2,q3⟩:=h.sep.own _ b hz;grind
  frame:=h.sep.frame
  size:=h.sep.size
  rest:=h.sep.rest }
 refine⟨W',?_,⟨yA,rfl,rfl,rfl,λr j hr=>No,λr j=>No,λr j hr=>No,λ_=>rfl,λk b hb=>(yu k b hb).1,λb hb=>.inl hb,λb hb=>hb⟩,λb hb=>hb⟩;refine h.MD hv (W':=W') yA (λr _=>r∈rs) (λ_=>False) (λr j hr=>by grind) (λ_ _ _=>rfl) (λ_ _ hf=>hf.elim) (λ_=>rfl) (λr j hr=>by grind) (λ_=>rfl) (λ_ _=>rfl) (λb hb=>.inl hb) ?_ zu ?_ (λ_ hf=>hf.elim)
 ·intro r j AB gen t e xs d hr hl yF;rw[xt,AAS hr]at hl;refine⟨rfl,?_⟩;cases hq:s.leaf r j with
  |arr ver0 gen0 t0 e0 xs0 d0=>
   rw[hq]at hl;simp only[A6,LA.arr.injEq]at hl;grind
  |_=>rw[hq]at hl;simp[A6]at hl
 ·intro yT r j hr;obtain⟨h1,_⟩:=h.roots r;have h1:Aa s W (s.leaf r j) (W.cv r j) (W.om (.lf r j)):=h1 j;have zE:=LA.Eg hv r j;rw[xt,AAS hr,homf,AAS hr];unfold Aa at h1 ⊢;cases hq:s.leaf r j with
  |arr ver0 gen0 t0 e0 xs0 d0=>
   rw[hq]at h1;obtain⟨u,hu,yD⟩:=h1;exact⟨u,hu,yD.freeze λb hb=>hb.elim .inl λhb=>.inr ⟨r,hr,j,hb⟩⟩
  |_=>
   rw[hq]at h1 zE;exact⟨rfl,λu hu=>AT.Dh yT (zE.resolve_left (by simp[LA.B3])) (h1.2 u hu)⟩
inductive PT where
 |none
 |box (r:Nat)
 |row (l:List (Option (Loc×It)))
def PT.D3:PT->ADk
 | .none=>[]
 | .box r=>[(r,Option.none)]
 | .row l=>l.filterMap λo=>o.map λp=>(p.1.r,some p.1.j)
def NH(a b:Tg):Prop:=Tg.DS b a=false
def FK(s:St)(W:Wd)(d:Nat)(a:LA)(o:Option (Loc×It))(lv:Lv)(y:Value):Prop:=
 (Bj lv.l=false/\o=none/\lv.l.rd d W.w W.fz y lv.x []) \/
 ∃(c:Loc) (o':It) (gen:Nat) (t:TypeId) (e:Ls) (xs:List e.D) (h:Value) (t':TypeId) (e':Ls) (ys:List e'.D),a=.ref c/\o=some (c,o')/\s.leaf c.r c.j=.arr c.AB gen t e xs d/\(c.p≠[]->d=2)/\W.cv c.r c.j=some h/\JK W.w c.p e h e' y/\
  lv=⟨.sl t' e',ys⟩/\AE e' d W.w W.fz y ys o'/\(∀b∈o',b∈W.om (.lf c.r c.j))/\o'.Nodup
def Gs(s:St)(W:Wd)(pm:PM)(av:AV)(tg:PT)(u:Value)(vs:List Lv):Prop:=match pm with
 | .val g ls=>tg=.none/\Ge W.w (Seen W av.roots) g (ls.map λl=>(l,0)) u vs λ_=>[]
 | .box ls=>∃r AB,av=.v false [.ptr r 0 AB]/\tg=.box r/\(s.root r).box=true/\(s.root r).ls.length=ls.length/\u=.pointer (some ⟨W.bk r,0,none⟩)/\vs.map (·.l)=ls.map (·.1)/\
   ∀(j:Nat)(p:L×Nat)(lv:Lv)(y:Value),ls[j]?=some p->vs[j]?=some lv->W.cv r j=some y->lv.l.rd p.2 W.w W.fz y lv.x (W.om (.lf r j))
 | .row g ls=>∃as l,av=.v g as/\tg=.row l/\as.length=ls.length/\l.length=ls.length/\vs.map (·.l)=ls.map (·.1)/\(match g with
   |true=>∃cs:Array Value,u=.agg cs/\cs.size=ls.length
   |false=>ls.length=1)/\∀(j:Nat)(p:L×Nat)(a:LA)(lv:Lv) (o:Option (Loc×It)),ls[j]?=some p->as[j]?=some a->vs[j]?=some lv->l[j]?=some o->∃y,A9 g u j=some y/\FK s W p.2 a o lv y
 | .fn f=>tg=.none/\u=.func (.func f) #[] #[]/\vs=[]
theorem LS(h:AW E s tm W){β:Type}{t:β}{l:L}{d:Nat}{a:LA}{y:Value}(hy:AT s W a y){k:Lv->ADk->Step β}(hl:(JI s l d a k).leads t):
  ∃(lv:Lv) (o:Option (Loc×It)),(k lv (PT.row [o]).D3).leads t/\lv.l=l/\FK s W d a o lv y:=by
 have plain:Bj l=false->((s.datum l a λx=>k ⟨l,x⟩ []).leads t)->∃(lv:Lv) (o:Option (Loc×It)),(k lv (PT.row [o]).D3).leads t/\lv.l=l/\FK s W d a o lv y:=by intro hs hl;obtain⟨x,hl,hr⟩:=Bq h hy hl;exact⟨⟨l,x⟩,none,hl,rfl,.inl ⟨hs,rfl,(L.AY l hs hr).1⟩⟩
 cases l with
 |int i=>exact plain rfl hl
 |bool=>exact plain rfl hl
 |str=>exact plain rfl hl
 |sl t0 e0=>
  cases a with
  |ref c=>
   replace hl:(if(match s.leaf c.r c.j with
    | .arr _ _ _ _ _ dd=>dd==d&&(isNil c.p||d==2)
    |_=>false)then s.datum (.sl t0 e0) (.ref c) λx=>k ⟨.sl t0 e0,x⟩ [(c.r,some c.j)]else Step.none).leads t:=hl
   cases hq:s.leaf c.r c.j with
   |arr AB gen t1 e1 xs dd=>
    simp only[hq]at hl;split at hl
    ·rename_i yC;simp only[AAN,AAg,AAX]at yC;obtain⟨hdd,hp⟩:=yC;subst hdd;have hp2:c.p≠[]->dd=2:=λyF=>hp.resolve_left λhn=>yF (by cases hq:c.p<;>simp_all[isNil]);simp only[St.datum,St.content,hq]at hl;split at hl
     ·rename_i yB;simp only[AAN,AAg,AAX]at yB;obtain⟨yB,hgen⟩:=yB;subst yB;have hgen:c.p=[]\/gen=c.gen:=hgen.imp (λhn=>by cases hq:c.p<;>simp_all[isNil]) id;obtain⟨h',e',yW,hn⟩:=hy gen _ _ _ _ hq hgen;obtain⟨u',yG,yD⟩:=(h.roots c.r).row hq;rw[yW]at yG;injection yG with yG;rw[<-yG]at yD
      obtain⟨t',ys,o',hl,hrd',yu,zG⟩:=Jk c.p hl yD hn hp2 (h.sep.nodup _);split at hl
      ·rename_i x hx;obtain⟨q1,q2⟩:=L.AH hx;cases q1;have q2:ys=x:=q2;subst q2;exact⟨⟨.sl t0 e0,ys⟩,some (c,o'),hl,rfl,.inr ⟨c,o',gen,t1,e1,xs,h',t0,e0,ys,rfl,rfl,hq,hp2,yW,hn,rfl,hrd',yu,zG⟩⟩
      ·exact hl.elim
     ·exact hl.elim
    ·exact hl.elim
   |_=>simp only[hq,ABO,if_false]at hl;exact hl.elim
  |_=>exact hl.elim
theorem Hy(h:AW E s tm W){β:Type}{t:β}:∀(ls:List (L×Nat)) (as:List LA) (G:Nat->Option Value) {k:List Lv->ADk->Step β},(∀(j:Nat)(b:LA),as[j]?=some b->∃y,G j=some y/\AT s W b y)->(Ed s ls as k).leads t->
  ∃(vs:List Lv) (l:List (Option (Loc×It))),(k vs (PT.row l).D3).leads t/\as.length=ls.length/\l.length=ls.length/\vs.map (·.l)=ls.map (·.1)/\(PT.row l).D3.Pairwise NH/\
   ∀(j:Nat)(p:L×Nat)(a:LA)(lv:Lv) (o:Option (Loc×It)),ls[j]?=some p->as[j]?=some a->vs[j]?=some lv->l[j]?=some o->∃y,G j=some y/\FK s W p.2 a o lv y
 | [],[],G,k,hg,hl=>⟨[],[],hl,rfl,rfl,rfl,List.Pairwise.nil,λj p a lv o hp=>ADp⟩
 | [],_::_,G,k,hg,hl=>hl.elim
 |_::_,[],G,k,hg,hl=>hl.elim
 |(l,d)::ls,a::as,G,k,hg,hl=>by
  obtain⟨y,hy,hla⟩:=hg 0 a rfl;obtain⟨lv,o,hl,zM,hrl⟩:=LS h hla hl;obtain⟨vs,lo,hl,h1,h2,h3,h4,h5⟩:=Hy h ls as (λj=>G (j+1)) (λj b hj=>hg (j+1) b No) hl;split at hl
  ·exact hl.elim
  ·rename_i hno
   have he:(PT.row (o::lo)).D3=(PT.row [o]).D3++(PT.row lo).D3:=by
    cases o<;>simp[PT.D3]
   refine⟨lv::vs,o::lo,by rw[he];exact hl,by simp[h1],by simp[h2],by simp[zM,h3],?_,?_⟩
   ·rw[he,List.pairwise_append];refine⟨?_,h4,λx hx z hz=>?_⟩
    ·cases o<;>simp[PT.D3]
    ·show Tg.DS z x=false;cases hq:Tg.DS z x with
     |false=>rfl
     |true=>exact absurd (AA8.2 ⟨x,hx,AA8.2 ⟨z,hz,hq⟩⟩) hno
   grind
mutual
theorem L.CD:∀(l:L) {w:World} {fz:Nat->Prop} {v:Value} {x:l.D} {o:It},l.rd 3 w fz v x o↔l.rd 2 w fz v x o
 | .int _,_,_,_,_,_=>Iff.rfl
 | .bool,_,_,_,_,_=>Iff.rfl
 | .str,_,_,_,_,_=>Iff.rfl
 | .sl _ e,w,fz,v,x,o=>by
  have hf:e.rd (dec 3) w fz=e.rd (dec 2) w fz:=by funext g y o;exact propext (Ls.CD e)
  exact iff_of_eq (congrArg (λR=>Bw e.n R true w fz v x o) hf)
theorem Ls.CD:∀(ls:Ls) {w:World} {fz:Nat->Prop} {g:Nat->Option Value} {x:ls.D} {o:It},ls.rd 3 w fz g x o↔ls.rd 2 w fz g x o
 | .nil,_,_,_,_,_=>Iff.rfl
 | .one l,w,fz,g,x,o=>exists_congr λv=>and_congr_right λ_=>L.CD l
 | .cons l ls,w,fz,g,x,o=>exists_congr λv=>exists_congr λo1=>exists_congr λo2=>and_congr_right λ_=>and_congr (L.CD l) (and_congr (Ls.CD ls) Iff.rfl)
end
theorem JY(h:AW E s tm W){β:Type}{t:β}(r:Nat):∀(ls:List (L×Nat)) (as:List LA) (j:Nat) {k:List Lv->Step β},(∀i b,as[i]?=some b->s.leaf r (j+i)=b)->EE ls as=true->(s.data (ls.map (·.1)) (A5 r j as) k).leads t->
  ∃vs:List Lv,(k vs).leads t/\as.length=ls.length/\vs.map (·.l)=ls.map (·.1)/\∀(i:Nat)(p:L×Nat)(lv:Lv)(y:Value),ls[i]?=some p->vs[i]?=some lv->W.cv r (j+i)=some y->lv.l.rd p.2 W.w W.fz y lv.x (W.om (.lf r (j+i)))
 | [],[],j,k,hg,hd,hl=>⟨[],hl,rfl,rfl,λi p lv y hp=>ADp⟩
 | [],_::_,j,k,hg,hd,hl=>hl.elim
 |_::_,[],j,k,hg,hd,hl=>hl.elim
 |(l,m)::ls,b::as,j,k,hg,hd,hl=>by
  simp only[EE,AAN]at hd;obtain⟨hdb,hd⟩:=hd;have hb:s.leaf r j=b:=hg 0 b rfl;obtain⟨h1,_⟩:=h.roots r;have h1:Aa s W (s.leaf r j) (W.cv r j) (W.om (.lf r j)):=h1 j;rw[hb]at h1
  have fin:∀(x:l.D),(s.data (ls.map (·.1)) (A5 r (j+1) as) λvs=>k (⟨l,x⟩::vs)).leads t->(∀y,W.cv r j=some y->l.rd m W.w W.fz y x (W.om (.lf r j)))->∃vs:List Lv,(k vs).leads t/\(b::as).length=((l,m)::ls).length/\vs.map (·.l)=((l,m)::ls).map (·.1)/\
    ∀(i:Nat)(p:L×Nat)(lv:Lv)(y:Value),((l,m)::ls)[i]?=some p->vs[i]?=some lv->W.cv r (j+i)=some y->lv.l.rd p.2 W.w W.fz y lv.x (W.om (.lf r (j+i))):=by
   intro x hl hx;obtain⟨vs,hl,hlen,hm,hvs⟩:=JY h r ls as (j+1) (λi b hi=>by have:=hg (i+1) b ADi;grind) hd hl;refine⟨_,hl,by simp[hlen],by simp[hm],λi p lv y hp zM hy=>?_⟩;cases i with
   |zero=>grind
   |succ i=>
    grind
  cases b with
  |arr AB gen t0 e xs d=>
   have hdm:d=m\/(m=3/\d=2):=by simpa using hdb
   have hl:(s.datum l (.ref ⟨r,j,AB,gen,[]⟩) λx=>s.data (ls.map (·.1)) (A5 r (j+1) as) λvs=>k (⟨l,x⟩::vs)).leads t:=hl;simp only[St.datum,St.content,hb]at hl;rw[AAS (by simp[isNil])]at hl;simp only[OH]at hl;split at hl
   ·rename_i x hx;obtain⟨q1,q2⟩:=L.AH hx;subst q1;have q2:xs=x:=q2;subst q2;refine fin xs hl λy hy=>?_;obtain⟨u,hu,yD⟩:=h1;rw[hy]at hu;injection hu with hu;subst hu
    rcases hdm with rfl|⟨rfl,rfl⟩
    ·exact yD
    ·exact(L.CD _).2 yD
   ·exact hl.elim
  |sc l0 x0=>
   have hl:(s.datum l (.sc l0 x0) λx=>s.data (ls.map (·.1)) (A5 r (j+1) as) λvs=>k (⟨l,x⟩::vs)).leads t:=hl;simp only[St.datum]at hl;split at hl
   ·rename_i x hx;obtain⟨q1,q2⟩:=L.AH hx;subst q1;have q2:x0=x:=q2;subst q2;refine fin x0 hl λy hy=>?_;obtain⟨ho,yD⟩:=h1;have yD:l0.rd 0 W.w W.fz y x0 []:=yD y hy;rw[ho];simp only[AAg,AAa,AAX]at hdb;rcases hdb with hns|h0
    ·exact(L.AY l0 hns yD).1
    grind
   ·exact hl.elim
  |_=>cases hdb
theorem Av:∀(ms:It)(t:Nat),has ms t=true↔t∈ms
 | [],t=>by simp[has]
 |m::ms,t=>by show(m==t||has ms t)=true↔_;rw[AAg,Av ms t,AAj,AAX];grind
theorem Iv(h:AW E s tm W){β:Type}{t:β}:∀(ps:List PM)(yQ:List AV)(us:ADc) {k:List Lv->ADk->Step β},us.length=yQ.length->(∀(i:Nat)(av:AV)(u:Value),yQ[i]?=some av->us[i]?=some u->BQ s W av u)->(Ai s ps yQ k).leads t->
  ∃(xu:List (List Lv)) (T:List PT),(k xu.flatten (T.flatMap PT.D3)).leads t/\yQ.length=ps.length/\xu.length=ps.length/\T.length=ps.length/\(T.flatMap PT.D3).Pairwise NH/\
   ∀(i:Nat)(pm:PM)(av:AV)(u:Value)(vs:List Lv)(tg:PT),ps[i]?=some pm->yQ[i]?=some av->us[i]?=some u->xu[i]?=some vs->T[i]?=some tg->Gs s W pm av tg u vs
 | [],[],us,k,hlen,hav,hl=>⟨[],[],hl,rfl,rfl,rfl,List.Pairwise.nil,λi pm av u vs tg hp=>ADp⟩
 | [],_::_,us,k,hlen,hav,hl=>by simp[Ai]at hl;exact hl.elim
 |pm::ps,[],us,k,hlen,hav,hl=>by cases pm<;>simp[Ai]at hl<;>exact hl.elim
 |pm::ps,av::yQ,[],k,hlen,hav,hl=>ADn
 |pm::ps,av::yQ,u::us,k,hlen,hav,hl=>by
  have hu:BQ s W av u:=hav 0 av u rfl rfl;have hav':∀(i:Nat)(av:AV)(u:Value),yQ[i]?=some av->us[i]?=some u->BQ s W av u:=λi av' u' h1 h2=>hav (i+1) av' u' No No;have yn:us.length=yQ.length:=ADo
  have fin:∀(tg:PT)(vs:List Lv) {k':List Lv->ADk->Step β},(Ai s ps yQ k').leads t->Gs s W pm av tg u vs->
    (∀(xu:List Lv)(T:List PT),(k' xu (T.flatMap PT.D3)).leads t->(k (vs++xu) (tg.D3++T.flatMap PT.D3)).leads t/\∀x∈tg.D3,∀z∈T.flatMap PT.D3,NH x z)->tg.D3.Pairwise NH->
    ∃(xu:List (List Lv)) (T:List PT),(k xu.flatten (T.flatMap PT.D3)).leads t/\(av::yQ).length=(pm::ps).length/\xu.length=(pm::ps).length/\T.length=(pm::ps).length/\(T.flatMap PT.D3).Pairwise NH/\
     ∀(i:Nat)(pm':PM)(av':AV)(u':Value)(vs:List Lv)(tg:PT),(pm::ps)[i]?=some pm'->(av::yQ)[i]?=some av'->(u::us)[i]?=some u'->xu[i]?=some vs->T[i]?=some tg->Gs s W pm' av' tg u' vs:=by
   intro tg vs k' hl yh hk hpw;obtain⟨xu,T,hl,h1,h2,h3,h4,h5⟩:=Iv h ps yQ us yn hav' hl;obtain⟨hl,yw⟩:=hk _ _ hl;refine⟨vs::xu,tg::T,No,by simp[h1],by simp[h2],by simp[h3],?_,?_⟩
   ·grind
   ·grind
  cases pm with
  |val g ls=>
   cases av with
   |Db vs=>simp only[Ai]at hl;exact hl.elim
   |bx as=>simp only[Ai]at hl;exact hl.elim
   |v g' as=>
    simp only[Ai]at hl;split at hl
    ·rename_i hg;have hg:g=g':=by simpa using hg
     subst hg;have hu:Ez s W g as u:=hu;obtain⟨vs,hl,zE,hvm,hvs⟩:=FR h (g:=A9 g u) (λj b hj=>Ca hu j b hj) hl;have hll:as.length=ls.length:=by rw[<-zE,<-hvm];simp
     refine fin .none vs hl ⟨rfl,by rw[hvm];simp[Function.comp_def],?_,?_⟩ (λxu T hk=>⟨hk,λx hx=>by cases hx⟩) List.Pairwise.nil
     ·cases g with
      |true=>obtain⟨cs,hcs,yP,_⟩:=hu;grind
      |false=>
       cases as with
       |nil=>exact hu.elim
       |cons b bs=>cases bs with
        |nil=>grind
        |cons=>exact hu.elim
     ·intro j p lv hp zM;obtain⟨y,hy,hr⟩:=hvs j lv zM;rw[AAe]at hp;cases hq:ls[j]? with
      |none=>grind
      |some l=>
       rw[hq]at hp;injection hp with hp;subst hp
       exact⟨y,hy,hr⟩
    ·exact hl.elim
  |box ls=>
   unfold Ai at hl;split at hl<;>try exact hl.elim
   ·rename_i e1 _;cases e1
   ·rename_i e1 _;cases e1
   ·rename_i ls' ps' r AB vs' e1 e2;injection e1 with e1 e1';injection e1 with e1;subst e1;subst e1'
    injection e2 with e2 e2';subst e2;subst e2'
    split at hl
    ·rename_i yC;simp only[AAN,AAX]at yC;obtain⟨⟨hb,yB⟩,hdeep⟩:=yC;obtain⟨vs,hl,hlen2,hvm,hvs⟩:=JY h r ls (s.root r).ls 0 (λi b hi=>by unfold St.leaf;rw[AAd,Ae,hi];rfl) hdeep hl;refine fin (.box r) vs hl ⟨r,AB,rfl,rfl,hb,hlen2,hu hb yB,hvm,λj p lv y hp zM hy=>?_⟩ ?_ (by simp[PT.D3])
     ·have:=hvs j p lv y hp zM (by rw[AAd];exact hy);rwa[AAd]at this
     ·intro xu T hk;split at hk
      ·exact hk.elim
      ·rename_i hnot;refine⟨by simpa[PT.D3]using hk,λx hx z hz=>?_⟩;simp only[PT.D3,ABM]at hx;subst hx;show Tg.DS z (r,none)=false;cases hq:Tg.DS z (r,none)with
       |false=>rfl
       |true=>exact absurd (AA8.2 ⟨z,hz,hq⟩) hnot
    ·exact hl.elim
   all_goals grind
  |row g ls=>
   cases av with
   |Db vs=>simp only[Ai]at hl;exact hl.elim
   |bx as=>simp only[Ai]at hl;exact hl.elim
   |v g' as=>
    simp only[Ai]at hl;split at hl
    ·rename_i hg;have hg:g=g':=by simpa using hg
     subst hg;have hu:Ez s W g as u:=hu;obtain⟨vs,l,hl,h1,h2,h3,h4,h5⟩:=Hy h ls as (A9 g u) (λj b hj=>Ca hu j b hj) hl;refine fin (.row l) vs hl ⟨as,l,rfl,rfl,h1,h2,h3,?_,h5⟩ ?_ h4
     ·cases g with
      |true=>obtain⟨cs,hcs,yP,_⟩:=hu;grind
      |false=>
       cases as with
       |nil=>exact hu.elim
       |cons b bs=>cases bs with
        |nil=>grind
        |cons=>exact hu.elim
     ·intro xu T hk;split at hk
      ·exact hk.elim
      ·rename_i hno;refine⟨hk,λx hx z hz=>?_⟩;show Tg.DS z x=false;cases hq:Tg.DS z x with
       |false=>rfl
       |true=>exact absurd (AA8.2 ⟨x,hx,AA8.2 ⟨z,hz,hq⟩⟩) hno
    ·exact hl.elim
  |fn f=>
   unfold Ai at hl;split at hl<;>try exact hl.elim
   ·grind
   ·grind
   ·grind
   ·grind
   ·rename_i f' ps' g vs' e1 e2;injection e1 with e1 e1';injection e1 with q1;subst q1;subst e1'
    injection e2 with e2 e2';subst e2;subst e2'
    split at hl
    ·rename_i hfg;have hfg:f=g:=by simpa using hfg
     subst hfg;exact fin .none [] hl ⟨rfl,hu,rfl⟩ (λxu T hk=>⟨by simpa[PT.D3]using hk,λx hx=>by cases hx⟩) List.Pairwise.nil
    ·exact hl.elim
end
end Go.Ev
namespace Go.Ev
section
variable {P:Program}{E:Ci}{s:St}{W:Wd}{o:Oper}{a:Act}{ws:List Wr}{cx:Cx}{v:Nat}{tm:Array Value}
theorem JO.Hk{s':St}{W':Wd}{rs:It}(h:JO s s' W W' rs)(hv:Aj s v):Aj s' v:=by
 refine⟨λt=>?_,λr j=>?_,hv.2.2⟩
 ·have:s'.slot t=s.slot t:=by show nth _ s'.sl t=_;rw[h.same.sl];rfl
  rw[this];exact hv.1 t
 ·rcases h.OJ r j with e|e
  ·rw[e];exact hv.2.1 r j
  ·rw[e];have:=hv.2.1 r j;cases hq:s.leaf r j with
   |arr=>exact .inl rfl
   |_=>rw[hq]at this;exact this
theorem MP{s s':St}(h:s'.sl=s.sl)(x:Operand):s'.As x=s.As x:=by
 cases x with
 |tmp t=>show nth _ s'.sl t=nth _ s.sl t;rw[h]
 |const c=>cases c<;>rfl
 |global g=>rfl
 |func f=>rfl
theorem MO(hc:Di P cx)(hft:Lg P cx.env)(h:AW E s a.tmps W)(hv:Aj s v){t:TypeId}{x y:Operand}(ho:o.op=.store t x y)(hl:(AA cx v o s).leads ws):BU P E o a W.w (s.app ws):=by
 simp only[AA,ho]at hl;have h1:=Ad h x;have h2:=BK h y;have zp:=Fi hv y;split at hl
 ·rename_i ty g as ht hy;rw[hy]at h2 zp;split at hl
  ·obtain⟨ws0,rfl,hg⟩:=Gd hc h hv ho ht h1 h2 zp hl;exact hg
  ·rename_i r rs hn;split at hl
   ·rename_i fs zn;obtain⟨W1,hr1,fr,_⟩:=Ea h hv zn;have e1:(s.app fs).Ag x=s.Ag x:=by unfold St.Ag;rw[MP fr.same.sl]
    have e2:(s.app fs).As y=s.As y:=MP fr.same.sl y;have k1:=Ad hr1 x;have k2:=BK hr1 y;rw[e1]at k1;rw[e2,hy]at k2;obtain⟨ws0,rfl,hg⟩:=Gd hc hr1 (fr.Hk hv) ho ht k1 k2 zp hl;rw[fr.w]at hg;rw[A3];exact hg
   ·exact hl.elim
 ·rename_i p ht;unfold H5 at hl;generalize hy:s.As y=p at hl;split at hl
  ·rename_i g ps qs;split at hl
   ·rename_i hf;split at hl
    ·rename_i r j AB hx;split at hl
     ·rename_i hdst;split at hl
      ·rename_i yC;simp only[AAN,AAX,AAh]at yC;obtain⟨⟨hb,yB⟩,yd⟩:=yC;have hl:_=ws:=hl;obtain⟨i,z,c,hi,yP,_⟩:=hft t hf;rw[hy]at h2 zp;have h2:AT s W (.D4 g ps qs) (a.eval y):=h2;rw[hx]at h1;have yr:(a.eval y).oneCell'=true:=by obtain⟨bs,hu,_⟩:=h2;rw[hu];rfl
       have yU:=cells_one yr;obtain⟨_,yc⟩:=h.roots r;rw[AAS hb]at yc;obtain⟨_,arr,T,fr,hh,yJ,hasz,_⟩:=yc;obtain⟨w',yK,yN⟩:=Ee (P:=P) (o:=j) (a.eval y).cells.toList hh yJ (by rw[yU];simp;omega) (by rw[yU];intro u hu;simp at hu;subst hu;exact yr)
       obtain⟨W',zL,xw⟩:=h.J9 hv (j:=j) hb (us:=[]) (bs:=[.D4 g ps qs]) (os:=λ_=>[]) (cells:=(a.eval y).cells.toList) (by rw[yU];rfl) (by simpa using yd)
        (λm b hm=>by
         cases m with
         |zero=>
          simp at hm;subst hm;refine⟨a.eval y,by rw[yU];rfl,yr,AAW,(λb hb=>by cases hb),rfl,h2,λxv=>zp ?_⟩;simpa[AV.AF]using xv
         |succ m=>simp at hm) (λ_ _ _ b hb=>by cases hb) (λm hm=>rfl) hh yN
       have hws:ws=gone []++A7 r j [.D4 g ps qs]:=hl.symm;rw[hws];exact Dv ho hdst (h1 hb yB) hi (by rw[yU,yP];rfl) (by rw[zL];exact yK) xw
      ·exact hl.elim
     ·exact hl.elim
    ·exact hl.elim
   ·exact hl.elim
  ·exact hl.elim
 ·exact hl.elim
end
end Go.Ev
namespace Go.Ev
abbrev ID:=List PT
theorem Tg.IV(a b:Tg):Tg.DS a b=Tg.DS b a:=by obtain⟨r,m⟩:=a;obtain⟨r',m'⟩:=b;unfold Tg.DS;grind
theorem Ef{T:ID}(hn:(T.flatMap PT.D3).Pairwise NH){i i':Nat}{p p':PT}(h:T[i]?=some p)(h':T[i']?=some p')(yF:i≠i'){x y:Tg}(hx:x∈p.D3)(hy:y∈p'.D3):Tg.DS x y=false:=by
 have hp:=(List.pairwise_flatMap.1 hn).2;rw[ABP]at hp;obtain⟨hi,rfl⟩:=AAO.1 h;obtain⟨zc,rfl⟩:=AAO.1 h';rcases ABL yF with xz|xz
 ·have:=hp i i' hi zc xz x hx y hy;rw[Tg.IV];exact this
 ·exact hp i' i zc hi xz y hy x hx
theorem Hz{l:List (Option (Loc×It))}{j:Nat}{c:Loc}{o:It}(h:l[j]?=some (some (c,o))):(c.r,some c.j)∈(PT.row l).D3:=List.mem_filterMap.2 ⟨_,AAR h,rfl⟩
theorem LU{T:ID}(hn:(T.flatMap PT.D3).Pairwise NH){i j j':Nat}{l:List (Option (Loc×It))}{c c':Loc}{o o':It}(h:T[i]?=some (.row l))(hj:l[j]?=some (some (c,o)))(hj':l[j']?=some (some (c',o')))(yF:j≠j'):¬(c.r=c'.r/\c.j=c'.j):=by
 have hp:=(List.pairwise_flatMap.1 hn).1 _ (AAR h);have hp:l.Pairwise λa b=>∀x,(a.map λp=>((p.1.r,some p.1.j):Tg))=some x->∀y,(b.map λp=>((p.1.r,some p.1.j):Tg))=some y->NH x y:=List.pairwise_filterMap.1 hp;rw[ABP]at hp;obtain⟨hi,e1⟩:=AAO.1 hj;obtain⟨zc,e2⟩:=AAO.1 hj'
 rintro ⟨q1,q2⟩
 have hh:Tg.DS (c.r,some c.j) (c'.r,some c'.j)=true:=by simp[Tg.DS,q1,q2]
 rcases ABL yF with xz|xz
 ·have:=hp j j' hi zc xz (c.r,some c.j) (by rw[e1];rfl) (c'.r,some c'.j) (by rw[e2];rfl);rw[Tg.IV,show Tg.DS (c'.r,some c'.j) (c.r,some c.j)=false from this]at hh;cases hh
 ·have:=hp j' j zc hi xz (c'.r,some c'.j) (by rw[e2];rfl) (c.r,some c.j) (by rw[e1];rfl);rw[show Tg.DS (c.r,some c.j) (c'.r,some c'.j)=false from this]at hh;cases hh
def AQ(T:ID):Key->Option Key
 | .blk i=>match T[i]? with
  |some (.box r)=>some (.blk r)
  |_=>none
 | .lf i j=>match T[i]? with
  |some (.box r)=>some (.lf r j)
  |some (.row l)=>match l[j]? with
   |some (some p)=>some (.lf p.1.r p.1.j)
   |_=>none
  |_=>none
 | .fl _=>none
theorem BD{T:ID}{i:Nat}{a:Key}(h:AQ T (.blk i)=some a):∃r,a=.blk r/\T[i]?=some (.box r):=by simp only[AQ]at h;grind
theorem BB{T:ID}{i j:Nat}{a:Key}(h:AQ T (.lf i j)=some a):(∃r,a=.lf r j/\T[i]?=some (.box r))\/∃l c o,a=.lf c.r c.j/\T[i]?=some (.row l)/\l[j]?=some (some (c,o)):=by simp only[AQ]at h;grind
theorem BS{T:ID}(hn:(T.flatMap PT.D3).Pairwise NH){k k' a:Key}(h:AQ T k=some a)(h':AQ T k'=some a):k=k':=by
 have hbb:∀ {i i' r:Nat},T[i]?=some (.box r)->T[i']?=some (.box r)->i=i':=by intro i i' r h h';refine AAp λyF=>?_;have:=Ef hn h h' yF (x:=(r,none)) (y:=(r,none)) (by simp[PT.D3]) (by simp[PT.D3]);simp[Tg.DS]at this
 cases k with
 |fl k=>cases h
 |blk i=>
  obtain⟨r,rfl,hT⟩:=BD h;cases k' with
  |fl k=>cases h'
  |blk i'=>
   obtain⟨r',e,ym⟩:=BD h';grind
  |lf i' j'=>rcases BB h' with⟨r',e,_⟩|⟨l,c,o,e,_⟩<;>cases e
 |lf i j=>
  cases k' with
  |fl k=>cases h'
  |blk i'=>
   obtain⟨r',e,ym⟩:=BD h';subst e;rcases BB h with⟨r',e,_⟩|⟨l,c,o,e,_⟩<;>cases e
  |lf i' j'=>
   rcases BB h with⟨r,rfl,hT⟩|⟨l,c,o,rfl,hT,hl⟩
   ·rcases BB h' with⟨r',e,ym⟩|⟨l',c',o',e,ym,zZ⟩
    ·grind
    ·injection e with e1 e2
     by_cases hi:i=i'
     ·grind
     ·have:=Ef hn hT ym hi (x:=(r,none)) (y:=(c'.r,some c'.j)) (by simp[PT.D3]) (Hz zZ);simp[Tg.DS,e1]at this
   ·rcases BB h' with⟨r',e,ym⟩|⟨l',c',o',e,ym,zZ⟩
    ·injection e with e1 e2
     by_cases hi:i=i'
     ·grind
     ·have:=Ef hn hT ym hi (x:=(c.r,some c.j)) (y:=(r',none)) (Hz hl) (by simp[PT.D3]);simp[Tg.DS,e1]at this
    ·injection e with e1 e2
     by_cases hi:i=i'
     ·subst hi;rw[hT]at ym;injection ym with ym;injection ym with ym;subst ym
      by_cases hj:j=j'
      ·rw[hj]
      ·exact absurd ⟨e1,e2⟩ (LU hn hT hl zZ hj)
     ·have:=Ef hn hT ym hi (x:=(c.r,some c.j)) (y:=(c'.r,some c'.j)) (Hz hl) (Hz zZ);simp[Tg.DS,e1,e2]at this
theorem BZ(v:Nat):∀(ls:List (L×Nat)) (vs:List Lv),vs.length=ls.length->(AX v ls vs).length=ls.length
 | [],_,_=>by simp[AX]
 |_::_,[],h=>ADf
 |(_,m)::ls,x::xs,h=>by simp[AX,BZ v ls xs ADh]
theorem Bs(v:Nat):∀(ls:List (L×Nat)) (vs:List Lv) (j:Nat) (p:L×Nat) (lv:Lv),ls[j]?=some p->vs[j]?=some lv->(AX v ls vs)[j]?=some (BI v p.2 lv)
 | [],_,j,p,lv,h,_=>ADf
 |_::_,[],j,p,lv,_,h=>ADf
 |(l,m)::ls,x::xs,0,p,lv,h1,h2=>by simp at h1 h2;subst h1;subst h2;simp[AX]
 |(l,m)::ls,x::xs,j+1,p,lv,h1,h2=>by simp[AX];exact Bs v ls xs j p lv No No
theorem C3(v:Nat):∀(ls:List (L×Nat)) (vs ws:List Lv),vs.length=ls.length->AX v ls (vs++ws)=AX v ls vs
 | [],vs,ws,h=>by cases vs<;>simp[AX]
 |_::_,[],_,h=>ADf
 |(l,m)::ls,x::xs,ws,h=>by simp[AX,C3 v ls xs ws ADh]
theorem C0(s:St)(r v:Nat):∀(k:Nat) (ls:List (L×Nat)) (vs:List Lv),vs.length=ls.length->(AU s r v k ls vs).length=ls.length
 |_,[],_,_=>by simp[AU]
 |_,_::_,[],h=>ADf
 |k,(_,m)::ls,x::xs,h=>by simp[AU,C0 s r v (k+1) ls xs ADh]
theorem B9(s:St)(r v:Nat):∀(k:Nat) (ls:List (L×Nat)) (vs:List Lv) (j:Nat) (p:L×Nat) (lv:Lv),ls[j]?=some p->vs[j]?=some lv->(AU s r v k ls vs)[j]?=some (CY (s.leaf r (k+j)) v p.2 lv)
 |_,[],_,j,p,lv,h,_=>ADf
 |_,_::_,[],j,p,lv,_,h=>ADf
 |k,(l,m)::ls,x::xs,0,p,lv,h1,h2=>by simp at h1 h2;subst h1;subst h2;simp[AU]
 |k,(l,m)::ls,x::xs,j+1,p,lv,h1,h2=>by simp only[AU,AA6];rw[B9 s r v (k+1) ls xs j p lv No No,Nat.add_right_comm];rfl
theorem D1(s:St)(r v:Nat):∀(k:Nat) (ls:List (L×Nat)) (vs ws:List Lv),vs.length=ls.length->AU s r v k ls (vs++ws)=AU s r v k ls vs
 |_,[],vs,ws,h=>by cases vs<;>simp[AU]
 |_,_::_,[],_,h=>ADf
 |k,(l,m)::ls,x::xs,ws,h=>by simp[AU,D1 s r v (k+1) ls xs ws ADh]
theorem Cz(a:LA)(v m:Nat)(x:Lv):CY a v m x=BI v m x\/∃(AB gen:Nat) (t:TypeId) (e:Ls) (xs y:List e.D),m=3/\a=.arr AB gen t e xs 2/\x=⟨.sl t e,y⟩/\CY a v m x=.arr AB v t e y 2:=by
 by_cases hm:m=3
 ·subst hm;cases a with
  |arr AB gen t e xs d=>
   by_cases hd:d=2
   ·subst hd;cases hq:L.cast (.sl t e) (a:=x.l) x.x with
    |none=>left;simp[CY,hq]
    |some y=>
     right;refine⟨AB,gen,t,e,xs,y,rfl,rfl,?_,by simp[CY,hq]⟩;obtain⟨l,x⟩:=x;obtain⟨q1,q2⟩:=L.AH hq;dsimp only at q1 q2;subst q1;have q2:x=y:=q2;rw[q2]
   ·left;have:(d==2)=false:=by simpa using hd
    simp[CY,this]
  |_=>left;rfl
 ·left;have:(m==3)=false:=ADl
  simp[CY,this]
section
variable {P:Program}{E:Ci}{s:St}{W:Wd}{v:Nat}{tm:Array Value}{cx:Cx}
theorem FA{s':St}{W':Wd}{m:Nat}{lv:Lv}{y:Value}{o:It}(h:lv.l.rd m W'.w W'.fz y lv.x o):Aa s' W' (BI v m lv) (some y) o:=by
 obtain⟨l,x⟩:=lv;cases l with
 |sl t e=>
  cases m with
  |zero=>exact⟨AE.zero h,λu hu=>by injection hu with hu;subst hu;have:=AE.zero h;subst this;exact h⟩
  |succ m=>exact⟨y,rfl,h⟩
 |int k=>
  obtain⟨h1,h2⟩:=L.AY (.int k) rfl h (d':=0) (w':=W'.w) (xy:=W'.fz);subst h2;exact⟨rfl,λu hu=>by injection hu with hu;subst hu;exact h1⟩
 |bool=>
  obtain⟨h1,h2⟩:=L.AY .bool rfl h (d':=0) (w':=W'.w) (xy:=W'.fz);subst h2;exact⟨rfl,λu hu=>by injection hu with hu;subst hu;exact h1⟩
 |str=>
  obtain⟨h1,h2⟩:=L.AY .str rfl h (d':=0) (w':=W'.w) (xy:=W'.fz);subst h2;exact⟨rfl,λu hu=>by injection hu with hu;subst hu;exact h1⟩
theorem Jt{m:Nat}{lv:Lv}{AB gen:Nat}{t:TypeId}{e:Ls}{xs:List e.D}{d:Nat}(h:BI v m lv=.arr AB gen t e xs d):AB=v/\gen=v:=by
 obtain⟨l,x⟩:=lv;cases l with
 |sl t0 e0=>cases m with
  |zero=>cases h
  |succ m=>
   have h:LA.arr v v t0 e0 x (m+1)=_:=h;grind
 |_=>cases h
def El(s:St)(v:Nat)(ls:List (L×Nat))(as:List LA)(vs:List Lv)(j:Nat)(u:Up):Prop:=
 ∃(p:L×Nat) (c:Loc) (lv:Lv) (AB gen:Nat) (t0:TypeId) (e0:Ls) (xs0:List e0.D) (d0:Nat) (F:List e0.D->List e0.D),ls[j]?=some p/\Bj p.1=true/\as[j]?=some (.ref c)/\vs[j]?=some lv/\s.leaf c.r c.j=.arr AB gen t0 e0 xs0 d0/\Jp (Nu lv) c.p t0 e0=some F/\
  u=⟨c.r,c.j,[.arr AB v t0 e0 (F xs0) d0]⟩
theorem El.uniq{ls:List (L×Nat)}{as:List LA}{vs:List Lv}{j:Nat}{u u':Up}(h:El s v ls as vs j u)(h':El s v ls as vs j u'):u=u':=by
 obtain⟨p,c,lv,AB,gen,t0,e0,xs0,d0,F,h1,h2,h3,h4,h5,h6,rfl⟩:=h;obtain⟨p',c',lv',ver',zW,t0',e0',xs0',d0',F',g1,g2,g3,g4,g5,g6,rfl⟩:=h';rw[h3]at g3;injection g3 with g3;injection g3 with g3;subst g3
 rw[h4]at g4;injection g4 with g4;subst g4
 rw[h5]at g5;injection g5 with a1 a2 a3 a4 a5 a6
 subst a1;subst a3;subst a4;grind
def KE(s:St)(v:Nat)(ls:List (L×Nat))(as:List LA)(vs:List Lv)(us:List Up):Prop:=
 (∀u∈us,∃j,El s v ls as vs j u)/\∀(j:Nat)(p:L×Nat),ls[j]?=some p->Bj p.1=true->∃u∈us,El s v ls as vs j u
theorem El.succ{p:L×Nat}{a:LA}{lv:Lv}{ls:List (L×Nat)}{as:List LA}{vs:List Lv}{j:Nat}{u:Up}(h:El s v ls as vs j u):El s v (p::ls) (a::as) (lv::vs) (j+1) u:=by obtain⟨p,c,lv,AB,gen,t0,e0,xs0,d0,F,h1,h2,h3,h4,h5,h6,rfl⟩:=h;exact⟨p,c,lv,AB,gen,t0,e0,xs0,d0,F,No,h2,No,No,h5,h6,rfl⟩
theorem Ii:∀(ls:List (L×Nat)) (as:List LA) (vs rest:List Lv) {ws:List Wr},vs.length=ls.length->putRow s v ls as (vs++rest)=some ws->∃us,ws=ET us/\KE s v ls as vs us
 | [],[],vs,rest,ws,hlen,h=>by simp only[putRow,Option.some.injEq]at h;subst h;exact⟨[],rfl,⟨λu hu=>(by cases hu),λj p hp=>ADp⟩⟩
 | [],_::_,vs,rest,ws,hlen,h=>by simp[putRow]at h
 |_::_,[],vs,rest,ws,hlen,h=>by simp[putRow]at h
 |_::_,_::_,[],rest,ws,hlen,h=>ADn
 |(l,d)::ls,a::as,x::vs,rest,ws,hlen,h=>by
  simp only[ABC,putRow]at h;split at h
  ·rename_i zf hws;obtain⟨us,rfl,h1,h2⟩:=Ii ls as vs rest No hws
   have plain:Bj l=false->some (ET us)=some ws->∃us,ws=ET us/\KE s v ((l,d)::ls) (a::as) (x::vs) us:=by
    intro hs h;injection h with h
    refine⟨us,h.symm,λu hu=>?_,λj p hp hps=>?_⟩
    ·obtain⟨j,hj⟩:=h1 u hu;exact⟨j+1,hj.succ⟩
    ·cases j with
     |zero=>grind
     |succ j=>
      obtain⟨u,hu,hr⟩:=h2 j p No hps;exact⟨u,hu,hr.succ⟩
   cases l with
   |int i=>exact plain rfl h
   |bool=>exact plain rfl h
   |str=>exact plain rfl h
   |sl t e=>
    cases a with
    |ref c=>
     dsimp only at h;split at h
     ·rename_i AB gen t0 e0 xs0 d0 hq;split at h
      ·rename_i F hF;injection h with h
       have hu:El s v ((.sl t e,d)::ls) (.ref c::as) (x::vs) 0 ⟨c.r,c.j,[.arr AB v t0 e0 (F xs0) d0]⟩:=⟨_,c,x,AB,gen,t0,e0,xs0,d0,F,rfl,rfl,rfl,rfl,hq,hF,rfl⟩;refine⟨⟨c.r,c.j,[.arr AB v t0 e0 (F xs0) d0]⟩::us,?_,λu yG=>?_,λj p hp hps=>?_⟩
       ·rw[<-h];simp[ET,A7]
       ·rcases AAj.1 yG with rfl|yG
        ·grind
        ·obtain⟨j,hj⟩:=h1 u yG;exact⟨j+1,hj.succ⟩
       ·cases j with
        |zero=>grind
        |succ j=>
         obtain⟨u,hu,hr⟩:=h2 j p No hps;exact⟨u,AAQ _ hu,hr.succ⟩
      ·cases h
     ·cases h
    |_=>cases h
  ·cases h
def Mk(s:St)(v:Nat)(pm:PM)(av:AV)(vs:List Lv)(uo:List Up):Prop:=match pm with
 | .box ls=>∃r AB,av=.v false [.ptr r 0 AB]/\uo=[⟨r,0,AU s r v 0 ls vs⟩]
 | .row _ ls=>∃g as,av=.v g as/\KE s v ls as vs uo
 |_=>uo=[]
theorem GZ:∀(ps:List PM)(yQ:List AV) (xu:List (List Lv)) {ws:List Wr},xu.length=ps.length->(∀(i:Nat)(pm:PM)(vs:List Lv),ps[i]?=some pm->xu[i]?=some vs->vs.length=pm.outs.length)->AR s v ps yQ xu.flatten=some ws->
  ∃U:List (List Up),ws=ET U.flatten/\U.length=ps.length/\∀(i:Nat)(pm:PM)(av:AV)(vs:List Lv)(uo:List Up),ps[i]?=some pm->yQ[i]?=some av->xu[i]?=some vs->U[i]?=some uo->Mk s v pm av vs uo
 | [],yQ,[],ws,hlen,hv,h=>by
  cases yQ with
  |nil=>simp[AR]at h;subst h;exact⟨[],rfl,rfl,λi pm av vs uo h1=>by simp at h1⟩
  |cons a as=>simp[AR]at h
 | [],yQ,_::_,ws,hlen,hv,h=>ADn
 |_::_,yQ,[],ws,hlen,hv,h=>ADn
 |pm::ps,yQ,vs::xu,ws,hlen,hv,h=>by
  have yn:xu.length=ps.length:=ADo
  have zy:∀(i:Nat)(pm:PM)(vs:List Lv),ps[i]?=some pm->xu[i]?=some vs->vs.length=pm.outs.length:=λi pm' vs' h1 h2=>hv (i+1) pm' vs' No No;have h0:=hv 0 pm vs rfl rfl;cases yQ with
  |nil=>cases pm<;>simp[AR]at h
  |cons av yQ=>
   have fin:∀(uo:List Up) {zf:List Wr},AR s v ps yQ xu.flatten=some zf->ws=ET uo++zf->Mk s v pm av vs uo->
     ∃U:List (List Up),ws=ET U.flatten/\U.length=(pm::ps).length/\∀(i:Nat)(pm':PM)(av':AV)(vs':List Lv)(uo:List Up),(pm::ps)[i]?=some pm'->(av::yQ)[i]?=some av'->(vs::xu)[i]?=some vs'->U[i]?=some uo->Mk s v pm' av' vs' uo:=by
    intro uo zf hp hw yh;obtain⟨U,h1,h2,h3⟩:=GZ ps yQ xu yn zy hp;refine⟨uo::U,?_,by simp[h2],?_⟩
    ·rw[hw,h1];simp[ET]
    ·grind
   cases pm with
   |val g ls=>
    have hvs:vs=[]:=AAU (by simpa[PM.outs]using h0);subst hvs;simp only[AR,AAl,AAy]at h;exact fin [] h rfl rfl
   |fn f=>
    have hvs:vs=[]:=AAU (by simpa[PM.outs]using h0);subst hvs;simp only[AR,AAl,AAy]at h;exact fin [] h rfl rfl
   |box ls=>
    have zE:vs.length=ls.length:=by simpa[PM.outs]using h0
    simp only[AAl]at h;unfold AR at h;split at h<;>try cases h
    ·rename_i e1 _;cases e1
    ·rename_i e1 _;cases e1
    ·rename_i e1 _;cases e1
    ·rename_i ls' ps' r AB avs' e1 e2;injection e1 with e1 e1';injection e1 with e1;subst e1;subst e1'
     injection e2 with e2 e2';subst e2;subst e2'
     split at h
     ·rename_i zf hws;injection h with h;subst h
      rw[<-zE,AA7]at hws;refine fin [⟨r,0,AU s r v 0 ls vs⟩] hws ?_ ⟨r,AB,rfl,rfl⟩;rw[D1 s r v 0 ls vs _ zE];simp[ET]
     ·cases h
    grind
   |row g ls=>
    have zE:vs.length=ls.length:=by simpa[PM.outs]using h0
    simp only[AAl]at h;cases av with
    |Db bs=>simp[AR]at h
    |bx bs=>simp[AR]at h
    |v g' as=>
     simp only[AR]at h;split at h
     ·rename_i us zf hus hws;injection h with h;subst h
      rw[<-zE,AA7]at hws;obtain⟨uo,rfl,hr⟩:=Ii ls as vs _ zE hus;exact fin uo hws rfl ⟨g',as,rfl,hr⟩
     ·cases h
theorem Jg(r j:Nat):∀(us:List Up)(a:LA),(∀u∈us,¬(r=u.r/\u.lo<=j/\j<u.lo+u.news.length))->us.foldl (λa u=>if r=u.r/\u.lo<=j/\j<u.lo+u.news.length then nth .bad u.news (j-u.lo)else a) a=a
 | [],_,_=>rfl
 |u::us,a,h=>by rw[List.foldl_cons,AAT (h u so)];exact Jg r j us a λx hx=>h x (AAQ _ hx)
theorem Ix(r j:Nat){x:LA}:∀(us:List Up)(a:LA),(∀u∈us,r=u.r/\u.lo<=j/\j<u.lo+u.news.length->nth .bad u.news (j-u.lo)=x)->(a=x\/∃u∈us,r=u.r/\u.lo<=j/\j<u.lo+u.news.length)->
  us.foldl (λa u=>if r=u.r/\u.lo<=j/\j<u.lo+u.news.length then nth .bad u.news (j-u.lo)else a) a=x
 | [],a,h,he=>No
 |u::us,a,h,he=>by rw[List.foldl_cons];refine Ix r j us _ (λy hy=>h y (AAQ _ hy)) ?_;grind
def FI(w:World)(fz:Nat->Prop)(v:Nat)(b:LA)(y:Value)(o:It):Prop:=match b with
 | .arr AB gen t e xs m=>AB=v/\gen=v/\AE e m w fz y xs o
 | .bad=>o=[]
 |_=>False
theorem JX{w:World}{fz:Nat->Prop}{d:Nat}{om:Nat->It}:∀(ls:List (L×Nat)) (vs rest:List Lv) (off:Nat) (G:Nat->Option Value) {as rs:List LA} {left:List Lv},vs.length=ls.length->(∀(j:Nat)(p:L×Nat)(lv:Lv),ls[j]?=some p->vs[j]?=some lv->∃y,G j=some y/\lv.l.rd p.2 w fz y lv.x (om (off+j)))->
  JW d v ls (vs++rest) off=some (as,rs,left)->left=rest/\as.length=ls.length/\∃ys:ADc,ys.length=ls.length/\rs.length=ls.length/\(∀k,k<ls.length->ys[k]?=G k)/\(∀(k:Nat)(b:LA),rs[k]?=some b->∃y,ys[k]?=some y/\FI w fz v b y (om (off+k)))/\
   ∀(s':St)(W':Wd),W'.w=w->W'.fz=fz->(∀k,k<ls.length->s'.leaf d (off+k)=nth .bad rs k/\W'.cv d (off+k)=ys[k]?)->∀(k:Nat)(b:LA),as[k]?=some b->∃y,ys[k]?=some y/\AT s' W' b y
 | [],vs,rest,off,G,as,rs,left,hlen,hv,h=>by have:vs=[]:=AAU hlen;subst this;simp only[JW,AAy,Option.some.injEq,Prod.mk.injEq]at h;obtain⟨rfl,rfl,rfl⟩:=h;exact⟨rfl,rfl,[],rfl,rfl,(λk hk=>by simp at hk),(λk b hb=>by simp at hb),λs' W' _ _ _ k b hb=>by simp at hb⟩
 |_::_,[],rest,off,G,as,rs,left,hlen,hv,h=>ADn
 |(l,m)::ls,lv::vs,rest,off,G,as,rs,left,hlen,hv,h=>by
  obtain⟨l',x⟩:=lv;simp only[ABC,JW]at h;split at h
  ·rename_i as' rs' left' hb
   obtain⟨h1,h2,ys,h3,h4,h5,h6,h7⟩:=JX ls vs rest (off+1) (λj=>G (j+1)) No (λj p lv hp zM=>by
    have:=hv (j+1) p lv No No;rwa[show off+(j+1)=off+1+j by omega]at this) hb
   obtain⟨y,hy,hr⟩:=hv 0 (l,m) ⟨l',x⟩ rfl rfl;dsimp only[Nat.add_zero]at hr
   have fin:∀(a b:LA),(some (a::as',b::rs',left')=some (as,rs,left))->FI w fz v b y (om off)->(∀(s':St)(W':Wd),W'.w=w->W'.fz=fz->s'.leaf d off=b->W'.cv d off=some y->AT s' W' a y)->
     left=rest/\as.length=((l,m)::ls).length/\∃ys:ADc,ys.length=((l,m)::ls).length/\rs.length=((l,m)::ls).length/\(∀k,k<((l,m)::ls).length->ys[k]?=G k)/\(∀(k:Nat)(b:LA),rs[k]?=some b->∃y,ys[k]?=some y/\FI w fz v b y (om (off+k)))/\
      ∀(s':St)(W':Wd),W'.w=w->W'.fz=fz->(∀k,k<((l,m)::ls).length->s'.leaf d (off+k)=nth .bad rs k/\W'.cv d (off+k)=ys[k]?)->∀(k:Nat)(b:LA),as[k]?=some b->∃y,ys[k]?=some y/\AT s' W' b y:=by
    intro a b he hown hla;injection he with he;injection he with e1 he;injection he with e2 e3
    subst e1;subst e2;subst e3;refine⟨h1,by simp[h2],y::ys,by simp[h3],by simp[h4],?_,?_,?_⟩
    ·grind
    ·grind
    ·intro s' W' hw hz hs k b' yH;cases k with
     |zero=>
      simp at yH;subst yH;obtain⟨q1,q2⟩:=hs 0 so;exact⟨y,rfl,hla s' W' hw hz q1 q2⟩
     |succ k=>
      obtain⟨y',hy',ho⟩:=h7 s' W' hw hz (λk hk=>by
       have:=hs (k+1) ADb;rw[show off+1+k=off+(k+1) by omega];exact⟨this.1.trans rfl,this.2.trans so⟩) k b' (by simpa using yH)
      grind
   cases l' with
   |sl t e=>
    cases m with
    |zero=>
     refine fin _ _ h (AE.zero hr) λs' W' hw hz _ _=>?_;have:=AE.zero hr;rw[this]at hr;show(L.sl t e).rd 0 W'.w W'.fz y x [];grind
    |succ m=>
     refine fin _ _ h ⟨rfl,rfl,hr⟩ λs' W' hw hz hl hc=>?_;intro gen t' e' yj d' zZ hp;exact⟨y,e',hc,rfl,rfl⟩
   |int k=>
    obtain⟨q1,q2⟩:=L.AY (.int k) rfl hr (d':=0) (w':=w) (xy:=fz);rw[q2]at q1;exact fin _ _ h q2 λs' W' hw hz _ _=>by show(L.int k).rd 0 W'.w W'.fz y x [];grind
   |bool=>
    obtain⟨q1,q2⟩:=L.AY .bool rfl hr (d':=0) (w':=w) (xy:=fz);rw[q2]at q1;exact fin _ _ h q2 λs' W' hw hz _ _=>by show L.bool.rd 0 W'.w W'.fz y x [];grind
   |str=>
    obtain⟨q1,q2⟩:=L.AY .str rfl hr (d':=0) (w':=w) (xy:=fz);rw[q2]at q1;exact fin _ _ h q2 λs' W' hw hz _ _=>by show L.str.rd 0 W'.w W'.fz y x [];grind
  ·cases h
theorem Mf{s':St}{W':Wd}{g:Bool}{ls:List (L×Nat)}{u:Value}{as:List LA}(hlen:as.length=ls.length)(hg:match g with
  |true=>∃cs:Array Value,u=.agg cs/\cs.size=ls.length
  |false=>ls.length=1) (h:∀(k:Nat)(b:LA),as[k]?=some b->∃y,A9 g u k=some y/\AT s' W' b y):Ez s' W' g as u:=by
 cases g with
 |true=>
  obtain⟨cs,rfl,yP⟩:=hg;exact⟨cs,rfl,by rw[yP,hlen],h⟩
 |false=>
  match as,hlen with
  | [],h0=>dsimp only at hg;simp at h0;omega
  | [b],_=>
   obtain⟨y,hy,yh⟩:=h 0 b rfl;simp[A9]at hy;subst hy;exact yh
  |_::_::_,h0=>dsimp only at hg;simp at h0;omega
theorem G4{w:World}{fz:Nat->Prop}{d:Nat}{om:Nat->It}:∀(rs:List (Bool×List (L×Nat))) (rv:ADc) (vsR:List (List Lv)) (rest:List Lv) (off:Nat) {bs:List (Bool×List LA)} {own:List LA} {left:List Lv},D6 w fz om rs rv vsR off->
  Dm d v rs (vsR.flatten++rest) off=some (bs,own,left)->left=rest/\bs.length=rv.length/\∃ys:ADc,ys.length=own.length/\(∀(k:Nat)(b:LA),own[k]?=some b->∃y,ys[k]?=some y/\FI w fz v b y (om (off+k)))/\
   ∀(s':St)(W':Wd),W'.w=w->W'.fz=fz->(∀k,k<own.length->s'.leaf d (off+k)=nth .bad own k/\W'.cv d (off+k)=ys[k]?)->∀(i:Nat)(p:Bool×List LA)(u:Value),bs[i]?=some p->rv[i]?=some u->Ez s' W' p.1 p.2 u
 | [],[],[],rest,off,bs,own,left,hr,h=>by simp only[Dm,List.flatten_nil,AAy,Option.some.injEq,Prod.mk.injEq]at h;grind
 | [],[],_::_,rest,off,bs,own,left,hr,h=>hr.elim
 | [],_::_,_,rest,off,bs,own,left,hr,h=>by simp[D6]at hr
 |_::_,[],_,rest,off,bs,own,left,hr,h=>by simp[D6]at hr
 |_::_,_::_,[],rest,off,bs,own,left,hr,h=>by simp[D6]at hr
 |(g,ls)::rs,u::rv,vs::vsR,rest,off,bs,own,left,hr,h=>by
  obtain⟨⟨hm,hg,hvs⟩,hr⟩:=hr;have zE:vs.length=ls.length:=by have:=congrArg List.length hm;simpa using this
  simp only[Dm,AAl,List.append_assoc]at h;split at h
  ·rename_i as own1 vs1 hb;obtain⟨h1,h2,ys,h3,h4,h5,h6,h7⟩:=JX ls vs (vsR.flatten++rest) off (A9 g u) zE hvs hb;subst h1;split at h
   ·rename_i bs' own2 left' yH;injection h with h;injection h with e1 h;injection h with e2 e3
    subst e1;subst e2;subst e3;obtain⟨q1,q2,zs,q3,q4,q5⟩:=G4 rs rv vsR rest (off+ls.length) hr yH;refine⟨q1,by simp[q2],ys++zs,No,?_,?_⟩
    ·grind
    ·intro s' W' hw hz hs i p u' hi yG;cases i with
     |zero=>
      simp at hi yG;subst hi;subst yG;refine Mf h2 hg λk b hk=>?_;have xz:k<ls.length:=by rw[<-h2];exact(AAO.1 hk).1
      obtain⟨y,hy,yh⟩:=h7 s' W' hw hz (λk hk=>by
       obtain⟨a1,a2⟩:=hs k ADb;rw[a1,a2];refine⟨?_,?_⟩
       ·rw[Ae,Ae,ABD J]
       ·rw[ABD J]) k b hk
      grind
     |succ i=>
      refine q5 s' W' hw hz (λk hk=>?_) i p u' ADi (by simpa using yG);obtain⟨a1,a2⟩:=hs (ls.length+k) ADb;rw[show off+ls.length+k=off+(ls.length+k) by omega,a1,a2];refine⟨?_,?_⟩
      ·rw[Ae,Ae,ABN J];congr 2;omega
      grind
   ·cases h
  ·cases h
end
end Go.Ev
namespace Go.Ev
def Ak(T:ID)(om:Key->It):Key->It
 | .blk i=>match T[i]? with
  |some (.box r)=>om (.blk r)
  |_=>[]
 | .lf i j=>match T[i]? with
  |some (.box r)=>om (.lf r j)
  |some (.row l)=>match l[j]? with
   |some (some p)=>p.2
   |_=>[]
  |_=>[]
 | .fl _=>[]
def FM(T:ID)(bk:Nat->Nat)(i:Nat):Nat:=match T[i]? with
 |some (.box r)=>bk r
 |_=>0
theorem Fq:∀(ps:List PM)(yQ:List AV)(i:Nat)(g:Bool)(ls:List L)(av:AV),ps[i]?=some (.val g ls)->yQ[i]?=some av->∀r∈av.roots,r∈Af ps yQ
 | [],_,i,g,ls,av,h,_,r,hr=>ADf
 |_::_,[],i,g,ls,av,_,h,r,hr=>ADf
 |pm::ps,a::yQ,0,g,ls,av,h1,h2,r,hr=>by simp at h1 h2;subst h1;subst h2;exact AAY _ hr
 |pm::ps,a::yQ,i+1,g,ls,av,h1,h2,r,hr=>by
  have:=Fq ps yQ i g ls av No No r hr;cases pm with
  |val g' ls'=>exact AAV _ this
  |_=>exact this
section
variable {P:Program}{E:Ci}{s:St}{W:Wd}{v:Nat}{tm:Array Value}{cx:Cx}
structure Handed(s:St)(W:Wd)(ps:List PM)(yQ:List AV)(us:ADc)(xu:List (List Lv))(T:ID):Prop where
 l1:yQ.length=ps.length
 l2:us.length=ps.length
 l3:xu.length=ps.length
 l4:T.length=ps.length
 nodup:(T.flatMap PT.D3).Pairwise NH
 each:∀(i:Nat)(pm:PM)(av:AV)(u:Value)(vs:List Lv)(tg:PT),ps[i]?=some pm->yQ[i]?=some av->us[i]?=some u->xu[i]?=some vs->T[i]?=some tg->Gs s W pm av tg u vs
 apart:∀r∈Af ps yQ,∀(i:Nat)(p:PT),T[i]?=some p->∀x∈p.D3,x.1≠r
theorem BO{α:Type}{l:List α}{i n:Nat}(h:l.length=n)(hi:i<n):∃x,l[i]?=some x:=⟨l[i]'(by omega),AAM J⟩
theorem Handed.all{ps:List PM}{yQ:List AV}{us:ADc}{xu:List (List Lv)}{T:ID}(hh:Handed s W ps yQ us xu T){i:Nat}{pm:PM}(hp:ps[i]?=some pm):
  ∃av u vs tg,yQ[i]?=some av/\us[i]?=some u/\xu[i]?=some vs/\T[i]?=some tg/\Gs s W pm av tg u vs:=by
 have hi:i<ps.length:=(AAO.1 hp).1;obtain⟨av,h1⟩:=BO hh.l1 hi;obtain⟨u,h2⟩:=BO hh.l2 hi;obtain⟨vs,h3⟩:=BO hh.l3 hi;obtain⟨tg,h4⟩:=BO hh.l4 hi;exact⟨av,u,vs,tg,h1,h2,h3,h4,hh.each i pm av u vs tg hp h1 h2 h3 h4⟩
theorem Handed.Oz{ps:List PM}{yQ:List AV}{us:ADc}{xu:List (List Lv)}{T:ID}(hh:Handed s W ps yQ us xu T){i:Nat}{m:PT}(hT:T[i]?=some m):
  ∃pm av u vs,ps[i]?=some pm/\yQ[i]?=some av/\us[i]?=some u/\xu[i]?=some vs/\Gs s W pm av m u vs:=by
 have hi:i<ps.length:=by rw[<-hh.l4];exact(AAO.1 hT).1
 obtain⟨pm,hp⟩:=BO rfl hi;obtain⟨av,u,vs,tg,h1,h2,h3,h4,h5⟩:=hh.all hp;grind
theorem Handed.Nw{ps:List PM}{yQ:List AV}{us:ADc}{xu:List (List Lv)}{T:ID}(hh:Handed s W ps yQ us xu T){i j:Nat}{l:List (Option (Loc×It))}{c:Loc}{o:It}(hT:T[i]?=some (.row l))(hj:l[j]?=some (some (c,o))):
  ∃g ls as u vs p lv y,ps[i]?=some (.row g ls)/\yQ[i]?=some (.v g as)/\us[i]?=some u/\xu[i]?=some vs/\ls[j]?=some p/\as[j]?=some (.ref c)/\vs[j]?=some lv/\Bj p.1=true/\vs.map (·.l)=ls.map (·.1)/\A9 g u j=some y/\FK s W p.2 (.ref c) (some (c,o)) lv y:=by
 obtain⟨pm,av,u,vs,e1,e2,e3,e4,e5⟩:=hh.Oz hT;cases pm with
 |val g ls=>cases e5.1
 |fn f=>cases e5.1
 |box ls=>obtain⟨r,AB,_,q,_⟩:=e5;cases q
 |row g ls=>
  obtain⟨as,l',rfl,q2,q3,q4,q5,q6,q7⟩:=e5;injection q2 with q2;subst q2
  have xz:j<ls.length:=by rw[<-q4];exact(AAO.1 hj).1
  have zE:vs.length=ls.length:=by have:=congrArg List.length q5;simpa using this
  obtain⟨p,hp⟩:=BO rfl xz;obtain⟨a,ha⟩:=BO q3 xz;obtain⟨lv,zM⟩:=BO zE xz;obtain⟨y,hy,hr⟩:=q7 j p a lv _ hp ha zM hj
  have hl:lv.l=p.1:=by have:=congrArg (·[j]?) q5;simp only[AAe,hp,zM,ABA,Option.some.injEq]at this;exact this
  have yi:=hr;rcases hr with⟨_,h0,_⟩|⟨c',o',gen,t,e,xs,h,t',e',ys,rfl,h2,_,_,_,_,h3,_⟩
  ·cases h0
  ·injection h2 with h2;injection h2 with h2 h2';subst h2
   exact⟨g,ls,as,u,vs,p,lv,y,e1,e2,e3,e4,hp,ha,zM,by rw[<-hl,h3];rfl,q5,hy,yi⟩
theorem CH{ps:List PM}{yQ:List AV}{us:ADc}{xu:List (List Lv)}{T:ID}(hh:Handed s W ps yQ us xu T){k:Key}{b:Nat}(h:b∈Ak T W.om k):∃a,AQ T k=some a/\b∈W.om a:=by
 cases k with
 |fl k=>cases h
 |blk i=>
  simp only[Ak]at h;split at h
  ·rename_i r hT;exact⟨.blk r,by simp[AQ,hT],h⟩
  ·cases h
 |lf i j=>
  simp only[Ak]at h;split at h
  ·rename_i r hT;exact⟨.lf r j,by simp[AQ,hT],h⟩
  ·rename_i l hT;split at h
   ·rename_i p hp;obtain⟨c,o⟩:=p;obtain⟨g,ls,as,u,vs,p,lv,y,_,_,_,_,_,_,_,_,_,_,hr⟩:=hh.Nw hT hp;refine⟨.lf c.r c.j,by simp[AQ,hT,hp],?_⟩;rcases hr with⟨_,h0,_⟩|⟨c',o',gen,t,e,xs,h',t',e',ys,_,h2,_,_,_,_,_,_,h4,_⟩
    all_goals grind
   ·cases h
  ·cases h
theorem JV(h:AW E s tm W){ps:List PM}{yQ:List AV}{us:ADc}{xu:List (List Lv)}{T:ID}(hh:Handed s W ps yQ us xu T)(k:Key):(Ak T W.om k).Nodup:=by
 cases k with
 |fl k=>exact AAW
 |blk i=>
  simp only[Ak];split
  ·exact h.sep.nodup _
  grind
 |lf i j=>
  simp only[Ak];split
  ·exact h.sep.nodup _
  ·rename_i l hT;split
   ·rename_i p hp;obtain⟨c,o⟩:=p;obtain⟨g,ls,as,u,vs,p,lv,y,_,_,_,_,_,_,_,_,_,_,hr⟩:=hh.Nw hT hp;rcases hr with⟨_,h0,_⟩|⟨c',o',gen,t,e,xs,h',t',e',ys,_,h2,_,_,_,_,_,_,h4,h5⟩
    ·cases h0
    ·injection h2 with h2;injection h2 with h2 h2';subst h2;subst h2'
     exact h5
   ·exact AAW
  grind
theorem Handed.root{ps:List PM}{yQ:List AV}{us:ADc}{xu:List (List Lv)}{T:ID}(hh:Handed s W ps yQ us xu T){k:Key}{r j:Nat}(h:AQ T k=some (.lf r j)):r∉Af ps yQ:=by
 cases k with
 |fl k=>cases h
 |blk i=>obtain⟨r',e,_⟩:=BD h;cases e
 |lf i j'=>
  rcases BB h with⟨r',e,hT⟩|⟨l,c,o,e,hT,hl⟩
  ·injection e with e1 e2;subst e1
   exactλhr=>hh.apart r hr i _ hT (r,none) (by simp[PT.D3]) rfl
  ·injection e with e1 e2
   exactλhr=>hh.apart r hr i _ hT _ (Hz hl) e1.symm
theorem NY(h:AW E s tm W){r j:Nat}(hj:(s.root r).ls.length<=j):W.om (.lf r j)=[]:=by obtain⟨h1,_⟩:=h.roots r;have:=h1 j;rw[Au LA.bad hj]at this;exact this.1
theorem Fw(h:AW E s tm W){ps:List PM}{yQ:List AV}{us:ADc}{xu:List (List Lv)}{T:ID}(hh:Handed s W ps yQ us xu T):
  Dj ps W.w (Seen W (Af ps yQ)) us xu (FM T W.bk) (Ak T W.om) where
 len:=hh.l2
 Bb:=hh.l3
 each i pm u vs hp hu hvs:=by
  obtain⟨av,u',vs',tg,h1,h2,h3,h4,h5⟩:=hh.all hp;rw[hu]at h2;injection h2 with h2;subst h2
  rw[hvs]at h3;injection h3 with h3;subst h3
  cases pm with
  |val g ls=>
   obtain⟨_,q1,q2,q3⟩:=h5;refine⟨q1,q2,λj p lv hj zM=>?_⟩;obtain⟨y,hy,hr⟩:=q3 j p lv hj zM;exact⟨y,hy,L.AN lv.l hr (λ_ _=>rfl) λb hb=>hb.imp id λ⟨r,hr,x⟩=>⟨r,Fq ps yQ i g ls av hp h1 r hr,x⟩⟩
  |box ls=>
   obtain⟨r,AB,_,rfl,hb,hlen,yG,hvm,yL⟩:=h5;obtain⟨_,yc⟩:=h.roots r;rw[AAS hb]at yc;obtain⟨_,arr,T',fr,hhp,yJ,yP,yW⟩:=yc;have e1:FM T W.bk i=W.bk r:=by simp[FM,h4]
   show Mh _ _ _ _ _ _ _;rw[e1];refine⟨yG,hvm,arr,T',fr,hhp,yJ,J,λj p lv hj zM=>?_⟩;have xz:j<arr.size:=by rw[yP,hlen];exact(AAO.1 hj).1
   refine⟨arr[j],AAk xz,?_⟩;have e2:Ak T W.om (.lf i j)=W.om (.lf r j):=by simp[Ak,h4]
   show lv.l.rd p.2 _ _ _ _ (Ak T W.om (.lf i j));rw[e2];exact L.AN lv.l (yL j p lv arr[j] hj zM No) (λ_ _=>rfl) λb hb=>.inl hb
  |row g ls=>
   obtain⟨as,l,rfl,rfl,q3,q4,q5,q6,q7⟩:=h5;refine⟨q5,q6,λj p lv hj zM=>?_⟩;have xz:j<ls.length:=(AAO.1 hj).1;obtain⟨a,ha⟩:=BO q3 xz;obtain⟨o,ho⟩:=BO q4 xz;obtain⟨y,hy,hr⟩:=q7 j p a lv o hj ha zM ho;refine⟨y,hy,?_⟩;rcases hr with⟨hs,rfl,hr⟩|⟨c,o',gen,t,e,xs,h',t',e',ys,_,rfl,_,_,_,_,rfl,hr,_⟩
   ·have e2:Ak T W.om (.lf i j)=[]:=by simp[Ak,h4,ho]
    show lv.l.rd p.2 _ _ _ _ (Ak T W.om (.lf i j));rw[e2];exact(L.AY lv.l hs hr).1
   ·have e2:Ak T W.om (.lf i j)=o':=by simp[Ak,h4,ho]
    show AE e' p.2 _ _ _ _ (Ak T W.om (.lf i j));rw[e2];exact hr.frame (λ_ _=>rfl) λb hb=>.inl hb
  |fn f=>exact h5.2
 blk i:=by
  cases hp:ps[i]? with
  |none=>
   have:T[i]?=none:=List.getElem?_eq_none (by have:=List.getElem?_eq_none_iff.1 hp;rw[hh.l4];exact this);simp[Ak,this]
  |some pm=>
   obtain⟨av,u',vs',tg,h1,h2,h3,h4,h5⟩:=hh.all hp;cases pm with
   |val g ls=>obtain⟨rfl,_⟩:=h5;simp[Ak,h4]
   |fn f=>obtain⟨rfl,_⟩:=h5;simp[Ak,h4]
   |row g ls=>obtain⟨as,l,_,rfl,_⟩:=h5;simp[Ak,h4]
   |box ls=>
    obtain⟨r,AB,_,rfl,hb,_⟩:=h5;obtain⟨_,yc⟩:=h.roots r;rw[AAS hb]at yc;simp[Ak,FM,h4,yc.1]
 none i hn1 hn2 j:=by
  cases hp:ps[i]? with
  |none=>
   have:T[i]?=none:=List.getElem?_eq_none (by have:=List.getElem?_eq_none_iff.1 hp;rw[hh.l4];exact this);simp[Ak,this]
  |some pm=>
   obtain⟨av,u',vs',tg,h1,h2,h3,h4,h5⟩:=hh.all hp;cases pm with
   |val g ls=>obtain⟨rfl,_⟩:=h5;simp[Ak,h4]
   |fn f=>obtain⟨rfl,_⟩:=h5;simp[Ak,h4]
   |row g ls=>grind
   |box ls=>grind
 box i ls hp j hj:=by
  obtain⟨av,u',vs',tg,h1,h2,h3,h4,h5⟩:=hh.all hp;obtain⟨r,AB,_,rfl,hb,hlen,_⟩:=h5;have e2:Ak T W.om (.lf i j)=W.om (.lf r j):=by simp[Ak,h4]
  rw[e2];exact NY h J
 row i g ls hp j hj:=by obtain⟨av,u',vs',tg,h1,h2,h3,h4,h5⟩:=hh.all hp;obtain⟨as,l,_,rfl,_,hl,_⟩:=h5;have:l[j]?=none:=List.getElem?_eq_none J;simp[Ak,h4,this]
 fl k:=rfl
 nodup k:=JV h hh k
 A4 k k' yF b hb yH:=by obtain⟨a,ha,hb⟩:=CH hh hb;obtain⟨a',ha',yH⟩:=CH hh yH;refine h.sep.A4 a a' (λe=>yF ?_) b hb yH;subst e;exact BS hh.nodup ha ha'
 own k b hb:=by
  obtain⟨a,ha,hb⟩:=CH hh hb;obtain⟨q1,q2,q3⟩:=h.sep.own a b hb;refine⟨?_,q2⟩
  rintro (hz|⟨r,hr,j,hz⟩)
  ·exact q1 hz
  ·have hab:a=.lf r j:=AAp λyF=>h.sep.A4 a _ yF b hb hz;subst hab;exact hh.root ha hr
 fz b hb:=by
  rcases hb with hz|⟨r,hr,j,hz⟩
  ·exact(h.sep.fz b hz).1
  ·exact(h.sep.own _ b hz).2.1
end
end Go.Ev
