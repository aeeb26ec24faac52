/- Evaluator. Conditions: none. -/
import Derived.Test.YthlchdmdanagkaaGreatLib1
import Derived.Sort.Grow
import Derived.Deep.Draws
set_option linter.all false
namespace Go.Ev
section
variable {P:Program}{E:Ci}{s:St}{W:Wd}{o:Oper}{a:Act}{ws:List Wr}{cx:Cx}{v:Nat}{tm:Array Value}
theorem II(n m:Nat)(os os':Nat->It):((List.range (n+m)).flatMap λi=>if i<n then os i else os' (i-n))=(List.range n).flatMap os++(List.range m).flatMap os':=by
 rw[List.range_add,List.flatMap_append];congr 1
 ·rw[List.flatMap_def,List.flatMap_def];congr 1;refine List.map_congr_left λi hi=>?_;grind
 ·rw[List.flatMap_map,List.flatMap_def,List.flatMap_def];congr 1;refine List.map_congr_left λi hi=>?_;grind
theorem Ky(h:AW E s tm W)(hv:Ai s v){t t0 ty:TypeId}{e:Ls}(hund:P.underlying t=some (.slice t0))(hel:NP P t0 e){d:Nat}(hd:d<tm.size){ux uy:Value}{xs ys:List e.D}{us1 us2:List (Nat×Nat)}{o1:It}
  (hx:AE e 2 W.w W.fz ux xs o1) (hn1:o1.Nodup) (hfrom1:∀b∈o1,∃r j,(r,j)∈us1/\b∈W.om (.lf r j)) (hy:J8 P s W e uy ys us2) (hap:∀x∈us1,x∉us2) (hlen:xs.length+ys.length<=E7) (t1:TypeId):
  ∃u w',(Builtin.append_ #[t,t] ty #[ux,uy]).run P W.w=.ok u w'/\∃W',W'.w=w'/\AW E (s.app (gone (us1++us2)++ownRow d v t1 e (xs++ys))) (tm.setIfInBounds d u) W':=by
 obtain⟨i,hi,hsz,hby,z,hz,hzc⟩:=hel.info;have hpos:=hel.pos;have hlen':xs.length+ys.length<=68719476736:=hlen;obtain⟨A1,c1,hux,hc1,hA1,hs1⟩:=hx.K3;obtain⟨A2,c2,g2,os2,huy,hA2,hs2,hel2,hnd2,hfrom2,hnus2⟩:=hy
 have hcross:∀b∈o1,∀i,i<ys.length->b∉os2 i:=by
  intro b hb i hi hb';obtain⟨r,j,hm,h1⟩:=hfrom1 b hb;obtain⟨r',j',hm',h1'⟩:=hfrom2 i hi b hb';by_cases he:(r,j)=(r',j')
  ·grind
  ·exact h.sep.BD (.lf r j) (.lf r' j') (λe=>he No) b h1 h1'
 have hfl2:∀b∈(List.range ys.length).flatMap os2,∃i,i<ys.length/\b∈os2 i:=by intro b hb;obtain⟨i,hi,hb⟩:=AAQ.1 hb;exact⟨i,AAc.1 hi,hb⟩
 have hfromAll:∀b,(b∈o1\/b∈(List.range ys.length).flatMap os2)->∃r j,(r,j)∈us1++us2/\b∈W.om (.lf r j):=by
  intro b hb;rcases hb with hb|hb
  ·grind
  ·grind
 have hlt:∀b,(∃r j,(r,j)∈us1++us2/\b∈W.om (.lf r j))->b<W.w.heap.size:=λb ⟨r,j,_,hb⟩=>(h.sep.own _ b hb).2.1
 have hnews:∃news:ADb,news.length=ys.length*e.n/\(∀k,k<ys.length*e.n->news[k]?=g2 k)/\(∀v∈news,v.oneCell'=true)/\
   (Builtin.firstCells i.size ys.length (.slice A2 ys.length c2)).run P W.w=.ok news.toArray W.w/\∀ad,A2=some ad->∀j u,news[j]?=some u->W.w.cell? (ad.add j)=some u:=by
  have hcell:=hel2.cell
  have hadd:∀ad,A2=some ad->∀j u,(Bl g2 (ys.length*e.n))[j]?=some u->W.w.cell? (ad.add j)=some u:=by
   intro ad had j u hj;have hlt:j<ys.length*e.n:=by have:=(AAP.1 hj).1;rwa[Ab]at this
   rw[CK hcell j hlt]at hj;obtain⟨hs,hg⟩:=hs2 ad had (λh0=>by grind);rw[Ez hs,hg,hj]
  refine⟨Bl g2 (ys.length*e.n),Ab _ _,CK hcell,HR hcell,?_,hadd⟩;cases hA:A2 with
  |none=>
   have:=hA2 hA;subst this;rw[run_firstCells_none];simp[Bl]
  |some ad=>exact run_firstCells_some W.w i.size ys.length ad ys.length c2 _ (by rw[Ab,hsz]) (hadd ad hA)
 obtain⟨news,hnl,hng,hn1',hnf,hncell⟩:=hnews;subst hux;subst huy
 have fresh:∀(os1:Nat->It)(arr:Array Value)(cap:Nat),xs.length+ys.length<=cap->cap*e.n<=arr.size->DM e 2 W.w W.fz (λk=>arr[k]?) xs os1->(∀k,k<ys.length*e.n->arr[xs.length*e.n+k]?=g2 k)->
   (∀b∈(List.range xs.length).flatMap os1,b∈o1)->((List.range xs.length).flatMap os1).Nodup->
   ∃W',W'.w=W.w.drew.alloc (.cells arr t0)/\AW E (s.app (gone (us1++us2)++ownRow d v t1 e (xs++ys))) (tm.setIfInBounds d (.slice (some ⟨W.w.heap.size,0,none⟩) (xs.length+ys.length) cap)) W':=by
  intro os1 arr cap hcap hsize hx1 hy1 hsub hnd1;have hold:∀b,b<W.w.heap.size->(W.w.drew.alloc (.cells arr t0)).heap[b]?=W.w.heap[b]?:=λb hb=>Bg W.w.drew _ hb
  have hels:DM e 2 (W.w.drew.alloc (.cells arr t0)) W.fz (λk=>arr[0+k]?) (xs++ys) λi=>if i<xs.length then os1 i else os2 (i-xs.length):=by
   refine DM.append ?_ ?_
   ·refine DM.congr (g:=λk=>arr[k]?) ?_ λk _=>No
    refine hx1.frame (λb hb=>hold b ?_) λ_ hb=>hb;rcases hb with⟨i,hi,hb⟩|hb
    ·exact hlt b (hfromAll b (.inl (hsub b (AAQ.2 ⟨i,AAc.2 hi,hb⟩))))
    ·exact(h.sep.fz b hb).1
   ·refine DM.congr (g:=g2) ?_ λk hk=>No
    refine hel2.frame (λb hb=>hold b ?_) λ_ hb=>hb;rcases hb with⟨i,hi,hb⟩|hb
    ·obtain⟨r,j,hm,h1⟩:=hfrom2 i hi b hb;exact(h.sep.own _ b h1).2.1
    ·exact(h.sep.fz b hb).1
  have hrow:=GV (w:=W.w.drew.alloc (.cells arr t0)) (ad:=⟨W.w.heap.size,0,none⟩) (c:=cap) (fr:=(0,0)) (T:=t0) (heap_alloc_new W.w.drew _) rfl J No No hels;rw[ABD,II]at hrow;refine h.C5 hv (us1++us2) hd (t0:=t1) (λb hb=>hold b ?_) (λb hb _=>hold b ADw) No ⟨rfl,rfl,rfl⟩ hrow ?_ ?_
  ·rcases hb with hb|⟨k,_,hb⟩
   ·exact(h.sep.fz b hb).1
   ·exact(h.sep.own k b hb).2.1
  ·refine AAg.2 ⟨λhin=>?_,AAd.2 ⟨hnd1,hnd2,λx hx y hy e=>?_⟩⟩
   ·have:=hlt _ (hfromAll _ ((ABJ.1 hin).imp (hsub _) id));exact absurd this (Nat.lt_irrefl _)
   grind
  ·intro b hb;rcases AAj.1 hb with rfl|hb
   ·exact .inr ⟨AAi _,by show _<(W.w.drew.alloc _).heap.size;rw[BR];simp⟩
   grind
 cases A1 with
 |none=>
  obtain⟨rfl,rfl⟩:=hA1 rfl;have hx0:xs=[]:=AAV J;subst hx0;cases ys with
  |nil=>
   refine⟨_,_,Dz t ty t0 i hund hi 0 A2 c2 news hnf,?_⟩;exact h.C5 hv (us1++us2) hd (t0:=t1) (λ_ _=>rfl) (λ_ _ _=>rfl) (AAi _) ⟨rfl,rfl,rfl⟩ Bt AAX (λb hb=>by cases hb)
  |cons y ys=>
   cases A2 with
   |none=>grind
   |some ad2=>
    refine⟨_,_,run_append_nil W.w t ty t0 i z hund hi hz ad2 (y::ys).length c2 news (by rw[hnl,hsz]) (hncell ad2 rfl) AAB (by simp at hlen' ⊢;omega) (AA3 (Nat.mul_le_mul (show _<=68719476736 by simp at hlen' ⊢;omega) hby) ADd),?_⟩;have hge:=grownCap_ge W.w (y::ys).length 0 t0
    have:=fresh (λ_=>[]) (news.toArray++Builtin.zeroCells z.cells (grownCap W.w (y::ys).length 0 t0-(y::ys).length)) (grownCap W.w (y::ys).length 0 t0) (by simpa using hge)
     (by
      have:(y::ys).length*e.n+(grownCap W.w (y::ys).length 0 t0-(y::ys).length)*e.n=grownCap W.w (y::ys).length 0 t0*e.n:=by rw[<-AAu];congr 1;omega
      simp only[Array.size_append,List.size_toArray,hnl,Builtin.zeroCells,Array.size_map,Array.size_range,hzc,List.length_map,BT];omega) (λi hi=>by simp at hi)
     (by
      intro k hk;rw[<-hng k hk];simp only[List.length_nil,Nat.zero_mul,AAe];rw[ABA (by simpa[hnl]using hk)];simp) AAB AAB
    grind
 |some ad1=>
  obtain⟨arr,T,fr,os1,hs,hh,hfit,hbare0,hx1,ho10,_⟩:=hs1 ad1 rfl (.inr ADd);have ho1:o1=ad1.block::(List.range xs.length).flatMap os1:=ho10 ADd;have hbare:=hbare0 ADd;clear ho10 hbare0 hs1;obtain⟨b1,off1,sp1⟩:=ad1;dsimp only at hs hh hfit hx1 ho1;subst hs;have hnd1:(b1::(List.range xs.length).flatMap os1).Nodup:=ho1▸hn1;by_cases hcap:xs.length+ys.length<=c1
  ·
   have hmul:(xs.length+ys.length)*e.n<=c1*e.n:=AAt _ hcap;rw[AAu]at hmul;obtain⟨w',hst,hput⟩:=Ec (P:=P) (o:=off1+xs.length*e.n) news hh hbare (by rw[hnl];omega) hn1';have hadd:(⟨b1,off1,none⟩:Addr).add (xs.length*i.size)=⟨b1,off1+xs.length*e.n,none⟩:=by rw[hsz];exact CT _ _ _
   refine⟨_,_,EK t ty t0 i hund hi ⟨b1,off1,none⟩ xs.length c1 A2 ys.length c2 news hnf hcap (by rw[hadd];exact hst),?_⟩;have hb1:b1∈o1:=by rw[ho1];simp
   have hget:=Cc news (off1+xs.length*e.n) arr (by rw[hnl];omega)
   have hels:DM e 2 w' W.fz (λk=>(B5 news (off1+xs.length*e.n) arr)[off1+k]?) (xs++ys) λi=>if i<xs.length then os1 i else os2 (i-xs.length):=by
    refine DM.append ?_ ?_
    ·refine DM.congr (g:=λk=>arr[off1+k]?) ?_ λk hk=>?_
     ·refine hx1.frame (λb hb=>hput.CX b ?_) λ_ hb=>hb
      rintro rfl
      rcases hb with⟨i,hi,hb⟩|hb
      ·exact(AAg.1 hnd1).1 (AAQ.2 ⟨i,AAc.2 hi,hb⟩)
      ·obtain⟨r,j,_,h1⟩:=hfrom1 b hb1;exact(h.sep.own _ b h1).1 hb
     ·rw[hget,AAU J]
    ·refine DM.congr (g:=g2) ?_ λk hk=>?_
     ·refine hel2.frame (λb hb=>hput.CX b ?_) λ_ hb=>hb
      rintro rfl
      rcases hb with⟨i,hi,hb⟩|hb
      ·exact hcross b hb1 i hi hb
      ·obtain⟨r,j,_,h1⟩:=hfrom1 b hb1;exact(h.sep.own _ b h1).1 hb
     ·rw[<-hng k hk,hget,AAT (by rw[hnl];omega)];congr 1;omega
   have hrow:=GV (w:=w') (ad:=⟨b1,off1,none⟩) (c:=c1) hput.here rfl (by rw[Aq];exact hbare) (by rw[Aq];exact hfit) (by simpa using hcap) hels;rw[ABD,II]at hrow;refine h.C5 hv (us1++us2) hd (t0:=t1) (λb hb=>hput.CX b ?_) (λb hb hio=>hput.CX b ?_) (by rw[hput.size];exact AAi _) hput.rest hrow ?_ ?_
   ·rintro rfl
    obtain⟨r,j,hm,h1⟩:=hfrom1 b hb1;rcases hb with hb|⟨k,hk,hb⟩
    ·exact(h.sep.own _ b h1).1 hb
    ·by_cases hkk:k=.lf r j
     ·subst hkk;exact hk.2 (AAZ _ hm)
     ·exact h.sep.BD k _ hkk b hb h1
   ·rintro rfl
    obtain⟨r,j,hm,h1⟩:=hfrom1 b hb1;rcases(h.sep.own _ b h1).2.2 with h2|h2
    ·omega
    ·exact hio h2
   ·refine AAg.2 ⟨λhin=>?_,AAd.2 ⟨(AAg.1 hnd1).2,hnd2,λx hx y hy e=>?_⟩⟩
    ·rcases ABJ.1 hin with hin|hin
     ·exact(AAg.1 hnd1).1 hin
     ·obtain⟨i,hi,hb⟩:=hfl2 _ hin;exact hcross _ hb1 i hi hb
    ·subst e;obtain⟨i,hi,hb⟩:=hfl2 x hy;exact hcross x (by rw[ho1];exact AAR _ hx) i hi hb
   grind
  ·
   cases A2 with
   |none=>grind
   |some ad2=>
    have hcell1:=hx1.cell;have hg1:=CK hcell1
    have holds:∀j u,(Bl (λk=>arr[off1+k]?) (xs.length*e.n))[j]?=some u->W.w.cell? ((⟨b1,off1,none⟩:Addr).add j)=some u:=by
     intro j u hj;have hlt:j<xs.length*e.n:=by have:=(AAP.1 hj).1;rwa[Ab]at this
     rw[hg1 j hlt]at hj;rw[CT];simp only[World.cell?,hh];simpa using hj
    refine⟨_,_,run_append_grow W.w t ty t0 i z hund hi hz ⟨b1,off1,none⟩ xs.length c1 (Bl (λk=>arr[off1+k]?) (xs.length*e.n)) (by rw[Ab,hsz]) holds ad2 ys.length c2 news (by rw[hnl,hsz]) (hncell ad2 rfl) J J
     (growslice_fits J (AA3 (Nat.mul_le_mul hlen' hby) ADd)),?_⟩
    have hge:=grownCap_ge W.w (xs.length+ys.length) c1 t0;refine fresh os1 _ _ hge ?_ ?_ ?_ (λb hb=>by grind) (AAg.1 hnd1).2
    ·have:xs.length*e.n+ys.length*e.n+(grownCap W.w (xs.length+ys.length) c1 t0-(xs.length+ys.length))*e.n=grownCap W.w (xs.length+ys.length) c1 t0*e.n:=by rw[<-AAu,<-AAu];congr 1;omega
     simp only[Array.size_append,List.size_toArray,hnl,Ab,Builtin.zeroCells,Array.size_map,Array.size_range,hzc,List.length_map,BT];omega
    ·refine DM.congr hx1 λk hk=>?_;grind
    ·intro k hk;rw[<-hng k hk];rw[ABA (by simp[Ab,hnl];omega),Array.getElem?_append_right (by simp[Ab])];simp[Ab]
end
end Go.Ev
namespace Go.Ev
theorem HX:∀(vs:ADb)(off n:Nat)(arr:Array Value),(vs.zipIdx n).foldl (λcs (p:Value×Nat)=>cs.setIfInBounds (off+p.2) p.1) arr=B5 vs (off+n) arr
 | [],_,_,_=>rfl
 |v::vs,off,n,arr=>by rw[List.zipIdx_cons,List.foldl_cons,HX vs off (n+1)];rfl
theorem IN{place:Nat->Option (Nat×Nat)}{cells:Array Value}{i:Nat}{v:Value}{rest:List (Nat×Value)}{off size:Nat}(hp:place i=some (off,size))(hs:v.cells.size=size)(hl:off+size<=cells.size):
  Instr.fill place cells ((i,v)::rest)=Instr.fill place (B5 v.cells.toList off cells) rest:=by
 have h1:(v.cells.zipIdx.foldl (λcs (x:Value×Nat)=>match x with|(c,j)=>cs.setIfInBounds (off+j) c) cells)=B5 v.cells.toList off cells:=by rw[<-Array.foldl_toList,Array.toList_zipIdx];exact HX _ off 0 cells
 simp only[Instr.fill,hp];rw[AAU (by simp[hs];omega)];rw[<-h1]
theorem Fg{α β:Type}{f:α->Option β}:∀ {l:List α} {r:List β},l.mapM f=some r->∀(i:Nat)(x:α),l[i]?=some x->∃y,f x=some y/\r[i]?=some y
 | [],r,h,i,x,hx=>by simp at hx
 |a::l,r,h,i,x,hx=>by
  simp only[List.mapM_cons,Option.bind_eq_bind,Option.pure_def]at h;cases ha:f a with
  |none=>simp[ha]at h
  |some b=>
   cases hr:l.mapM f with
   |none=>simp[ha,hr]at h
   |some r'=>
    simp[ha,hr]at h;subst h;cases i with
    |zero=>simp at hx;subst hx;exact⟨b,ha,rfl⟩
    |succ i=>obtain⟨y,h1,h2⟩:=Fg hr i x (by simpa using hx);exact⟨y,h1,ADz⟩
theorem H5:∀(as:List LA)(ls:List LA)(j:Nat),(EP ls j as).length=ls.length
 | [],_,_=>rfl
 |b::as,ls,j=>by rw[EP,H5 as,CF]
theorem H4:∀(as:List LA)(ls:List LA)(o:Nat),o+as.length<=ls.length->∀k,(EP ls o as)[k]?=if o<=k/\k<o+as.length then as[k-o]? else ls[k]?
 | [],ls,o,h,k=>by rw[EP,AAU AAB]
 |v::r,ls,o,h,k=>by
  simp only[ABG]at h;rw[EP,H4 r _ (o+1) (by rw[CF];omega) k,CG,List.getElem?_set];by_cases h1:k=o
  ·subst h1;rw[AAU J,AAT rfl,AAT J,AAT AAB];simp
  ·by_cases h2:o+1<=k/\k<o+1+r.length
   ·rw[AAT h2,AAT ADa];obtain⟨j,rfl⟩:∃j,k=o+1+j:=⟨k-(o+1),J⟩;rw[show o+1+j-(o+1)=j by omega,show o+1+j-o=j+1 by omega];rfl
   ·rw[AAU h2,AAU (λe=>h1 e.symm),AAU ADa]
section
variable {P:Program}{E:Ci}{s:St}{W:Wd}{o:Oper}{a:Act}{ws:List Wr}{cx:Cx}{v:Nat}
theorem NA(h:AW E s a.tmps W){b:LA}{u:Value}(hu:AT s W b u)(hs:s.sure b=true):u.oneCell'=true:=by
 cases b with
 |sc l x=>exact L.FC l hu
 |C6=>rw[show u=_ from hu];rfl
 |I5=>rw[show u=_ from hu];rfl
 |Ds e x off=>obtain⟨ad,_,_,_,_,hv,_⟩:=hu;rw[hv];rfl
 |fn f=>rw[show u=_ from hu];rfl
 |ptr r j AB=>
  simp only[St.sure,AAO,AAY]at hs;rw[hu hs.1 hs.2];rfl
 |ref c=>
  simp only[St.sure]at hs;split at hs
  ·rename_i AB gen t e xs d AAA;simp only[AAO,AAh,AAY]at hs;obtain⟨hver,hp⟩:=hs;subst hver;have hp:c.p=[]\/gen=c.gen:=hp.imp (λh=>by cases hq:c.p<;>simp_all[isNil]) id;obtain⟨h',e',hcv,hn⟩:=hu gen _ _ _ _ AAA hp;obtain⟨u',hu',hrd⟩:=(h.roots c.r).row AAA;rw[hcv]at hu';injection hu' with hu';subst hu'
   obtain⟨d',ys,o',hr,_⟩:=L7 c.p hrd hn;exact L.FC (.sl 0 e') hr
  ·cases hs
 |Dx c lo hi=>
  simp only[St.sure]at hs;split at hs
  ·rename_i AB gen t e xs d AAA;simp only[AAO,AAh,AAY]at hs;obtain⟨hver,hp⟩:=hs;subst hver;have hp:c.p=[]\/gen=c.gen:=hp.imp (λh=>by cases hq:c.p<;>simp_all[isNil]) id;obtain⟨h',e',A,n,k,hcv,hn,_,_,hv⟩:=hu gen _ _ _ _ AAA hp;rw[hv];rfl
  ·cases hs
 |Ba c=>obtain⟨ad,hv⟩:=Gr hu hs;rw[hv];rfl
 |_=>cases hs
theorem KW(h:AW E s a.tmps W){g:Bool}{as:List LA}{u:Value}(hu:Ey s W g as u)(hs:(g||as.all s.sure)=true):u.cells.size=as.length/\∀(j:Nat)(b:LA),as[j]?=some b->∃y,u.cells[j]?=some y/\AT s W b y:=by
 refine Ij hu λhg=>?_;subst hg;cases as with
 |nil=>exact hu.elim
 |cons b bs=>cases bs with
  |cons=>exact hu.elim
  |nil=>exact cells_one (NA h hu (by simpa using hs))
def IF(s:St)(W:Wd)(ls:List LA)(cells:Array Value):Prop:=cells.size=ls.length/\∀(j:Nat)(b:LA),ls[j]?=some b->∃u,cells[j]?=some u/\AT s W b u
theorem IF.DL{ls as:List LA}{cells:Array Value}{u:Value}{off:Nat}(hb:IF s W ls cells)(hl:off+as.length<=ls.length)(hu:u.cells.size=as.length/\∀(j:Nat)(b:LA),as[j]?=some b->∃y,u.cells[j]?=some y/\AT s W b y):
  IF s W (EP ls off as) (B5 u.cells.toList off cells):=by
 refine⟨by rw[Aq,H5,hb.1],λj b hj=>?_⟩;rw[H4 _ _ _ hl]at hj;rw[Cc _ _ _ (by rw[hb.1];simp[hu.1];omega)];by_cases hc:off<=j/\j<off+as.length
 ·rw[AAT hc]at hj;rw[AAT (by simp[hu.1];omega)];obtain⟨y,hy,hok⟩:=hu.2 _ b hj;exact⟨y,ADx,hok⟩
 ·rw[AAU hc]at hj;rw[AAU (by simp[hu.1];omega)];exact hb.2 j b hj
theorem Jb(hc:Dh P cx)(h:AW E s a.tmps W){fs:List (Nat×TypeId)}{place:Nat->Option (Nat×Nat)}(hpl:∀(i off:Nat)(t:TypeId),fs[i]?=some (off,t)->∃inf,P.info? t=some inf/\place i=some (off,inf.size)):
  ∀(parts:List (Nat×Operand)) {ls ls':List LA} {cells:Array Value},IF s W ls cells->HP cx s fs parts ls=some ls'->∃cells',Instr.fill place cells (parts.map λp=>(p.1,a.eval p.2))=some cells'/\IF s W ls' cells'
 | [],ls,ls',cells,hb,hl=>by
  injection hl with hl;subst hl
  exact⟨cells,rfl,hb⟩
 |(i,x)::ps,ls,ls',cells,hb,hl=>by
  simp only[HP]at hl;have h1:=BK h x;generalize s.Ar x=p at hl h1;split at hl
  ·rename_i g as off t hfs;split at hl
   ·rename_i tf htf;split at hl
    ·rename_i hcond;rw[Fh]at hfs;obtain⟨inf,hinf,hp⟩:=hpl i off t hfs;obtain⟨inf',hinf',hsz,_⟩:=(hc t tf htf).info;rw[hinf]at hinf';injection hinf' with hinf';subst hinf'
     rw[AAO,AAO,AAY,AAk]at hcond;obtain⟨⟨hlen,hoff⟩,hsure⟩:=hcond;have hu:=KW h h1 hsure;have hb':=hb.DL (off:=off) J hu;obtain⟨cells',hf,hb''⟩:=Jb hc h hpl ps hb' hl;refine⟨cells',?_,hb''⟩;rw[ABI,IN hp (by rw[hu.1,hlen,hsz]) (by rw[hb.1,hsz];exact hoff)];exact hf
    ·cases hl
   ·cases hl
  ·cases hl
theorem LZ(l:L):AT s W (zeroOf l) (B4 l):=by
 cases l with
 |int k=>exact⟨rfl,rfl⟩
 |bool=>exact⟨rfl,rfl⟩
 |str=>exact⟨rfl,rfl⟩
 |sl t e=>exact rfl
theorem MC(hc:Dh P cx)(h:AW E s a.tmps W){t:TypeId}{parts:Array (Nat×Operand)}(ho:o.op=.build t parts)(hl:(AA cx v o s).leads ws):BU P E o a W.w (s.app ws):=by
 simp only[AA,ho]at hl;split at hl
 ·rename_i ty ht;split at hl
  ·rename_i ls hls;rw[AK hl];split at hls
   ·rename_i hag;obtain⟨fs,hfs,hfl,pl,hpl⟩:=(hc t ty ht).agg hag;obtain⟨i,hi,hsz,z,hz,hzc,_⟩:=(hc t ty ht).info
    have hplace:∀(i off:Nat)(t':TypeId),ty.fs[i]?=some (off,t')->∃inf,P.info? t'=some inf/\pl.toArray[i]?=some (off,inf.size):=by
     intro i off t' hq;rw[<-hfl,AAf]at hq;cases hf:fs.toList[i]? with
     |none=>rw[hf]at hq;cases hq
     |some f=>
      rw[hf]at hq;simp only[AA8,Option.some.injEq,Prod.mk.injEq]at hq;obtain⟨rfl,rfl⟩:=hq;obtain⟨y,h1,h2⟩:=Fg hpl i f hf;cases hinf:P.info? f.type with
      |none=>rw[hinf]at h1;cases h1
      |some inf=>rw[hinf]at h1;injection h1 with h1;subst h1;exact⟨inf,rfl,ADz⟩
    have hz0:IF s W (ty.ls.kinds.map zeroOf) z.cells:=by
     refine⟨by rw[hzc];simp,λj b hj=>?_⟩;rw[AAf]at hj;cases hk:ty.ls.kinds[j]? with
     |none=>rw[hk]at hj;cases hj
     |some l=>rw[hk]at hj;injection hj with hj;subst hj;exact⟨B4 l,by rw[hzc];simp[hk],LZ l⟩
    obtain⟨cells,hf,hb⟩:=Jb hc h hplace parts.toList hz0 hls;refine AP h (u:=.agg cells) ?_ ⟨cells,rfl,hb.1,hb.2⟩
    have hbuilt:P.built t (parts.map λ(i,x)=>(i,a.eval x)).toList=some cells:=by unfold Program.built;rw[hi,hfs];simp only[hz,hpl];rw[ABP];exact hf
    unfold execOp;simp only[ho,Sem.run_bind,run_build W.w t _ cells hbuilt,Result.andThen_ok];rfl
   ·cases hls
  ·exact hl.elim
 ·exact hl.elim
end
end Go.Ev
namespace Go.Ev
theorem DV:∀(ls:Ls) {d:Nat} {w:World} {fz:Nat->Prop} {g:Nat->Option Value} {x:ls.D} {os:Nat->It},
  (∀(j:Nat)(lv:Lv),(unpack ls x)[j]?=some lv->∃u,g j=some u/\lv.l.rd d w fz u lv.x (os j))->ls.rd d w fz g x ((List.range ls.n).flatMap os)
 | .nil,_,_,_,_,_,_,_=>by simp only[Ls.rd,Ls.n];rfl
 | .one l,_,w,fz,g,x,os,h=>by simp only[Ls.rd,Ls.n];obtain⟨u,hu,hr⟩:=h 0 ⟨l,x⟩ rfl;grind
 | .cons l ls,_,w,fz,g,x,os,h=>by simp only[Ls.rd,Ls.n];obtain⟨u,hu,hr⟩:=h 0 ⟨l,x.1⟩ rfl;have ih:=DV ls (g:=λj=>g (j+1)) (os:=λj=>os (j+1)) λj lv hj=>h (j+1) lv (by simpa[unpack]using hj);refine⟨u,os 0,_,hu,hr,ih,?_⟩;rw[Nat.add_comm,List.range_add,List.flatMap_append,List.flatMap_map];grind
def E2(b:LA):Option Lv:=match b with
 | .arr _ _ t e xs 2=>some ⟨.sl t e,xs⟩
 | .sc l x=>if Bi l then none else some ⟨l,x⟩
 |_=>none
section
variable {P:Program}{E:Ci}{s:St}{W:Wd}{o:Oper}{a:Act}{ws:List Wr}{cx:Cx}{v:Nat}
theorem IK{b:LA}{u:Value}{oo:It}{us:List (Nat×Nat)}(ht:JP s W v b u oo us){lv:Lv}(hb:E2 b=some lv):lv.l.rd 2 W.w W.fz u lv.x oo:=by
 unfold E2 at hb;split at hb
 ·injection hb with hb;subst hb
  exact ht.2.2.2.2.2
 ·split at hb
  ·cases hb
  ·rename_i l x hs;injection hb with hb;subst hb
   obtain⟨h1,h2,_⟩:=ht.2.2.2;subst h1;exact(L.AY l No h2).1
 ·cases hb
def BI(g:Bool)(u:Value):Nat->Option Value:=λj=>match g with
 |true=>u.cells[j]?
 |false=>if j=0 then some u else none
theorem Ca{g:Bool}{as:List LA}{u:Value}(hu:Ey s W g as u)(j:Nat)(b:LA)(hj:as[j]?=some b):∃y,BI g u j=some y/\AT s W b y:=by
 cases g with
 |true=>obtain⟨cs,hcs,_,hget⟩:=hu;obtain⟨y,hy,hok⟩:=hget j b hj;exact⟨y,by simp only[BI,hcs];exact hy,hok⟩
 |false=>
  cases as with
  |nil=>exact hu.elim
  |cons b' bs=>cases bs with
   |cons=>exact hu.elim
   |nil=>cases j with
    |zero=>simp at hj;subst hj;exact⟨u,by simp[BI],hu⟩
    |succ j=>simp at hj
theorem CZ{g:Bool}{as:List LA}{u:Value}(hu:Ey s W g as u)(h1:∀(j:Nat)(b:LA),as[j]?=some b->∃y,BI g u j=some y/\y.oneCell'=true):u.cells.size=as.length/\∀j,j<as.length->u.cells[j]?=BI g u j:=by
 cases g with
 |true=>obtain⟨cs,hcs,hsz,_⟩:=hu;subst hcs;exact⟨hsz,λj _=>rfl⟩
 |false=>
  cases as with
  |nil=>exact hu.elim
  |cons b' bs=>cases bs with
   |cons=>exact hu.elim
   |nil=>
    obtain⟨y,hy,hone⟩:=h1 0 b' rfl;simp[BI]at hy;subst hy;rw[cells_one hone];refine⟨rfl,λj hj=>?_⟩;have:j=0:=ADs
    subst this;simp[BI]
structure Me(P:Program)(s:St)(W:Wd)(a:Act)(e:Ls)(ps:List (Nat×Operand))(n:Nat)(ys:List e.D)(us:List (Nat×Nat))(os:Nat->It):Prop where
 len:ys.length=ps.length
 nodup:us.Nodup
 OV:∀i j,i≠j->∀b∈os i,b∉os j
 Oc:∀i,(os i).Nodup
 Oh:∀i,ys.length<=i->os i=[]
 Nz:∀i,∀b∈os i,∃r j,(r,j)∈us/\b∈W.om (.lf r j)
 el:∀m (hm:m<ys.length),∃x,ps[m]?=some (n+m,x)/\(a.eval x).cells.size=e.n/\e.rd 2 W.w W.fz (λj=>(a.eval x).cells[j]?) ys[m] (os m)
theorem Dv{os:Nat->It}(hn:∀i,(os i).Nodup)(hd:∀i j,i≠j->∀b∈os i,b∉os j):∀n,((List.range n).flatMap os).Nodup
 |0=>AAB
 |n+1=>by rw[List.range_succ,List.flatMap_append];refine AAd.2 ⟨Dv hn hd n,by simpa using hn n,λx hx y hy e=>?_⟩;grind
theorem HJ(h:AW E s a.tmps W)(hv:Ai s v){e:Ls}{β:Type}{z:β}:∀(ps:List (Nat×Operand)) (n:Nat) {k:List e.D->List (Nat×Nat)->Step β},(CO cx s v e ps n k).leads z->
  ∃ys us os,(k ys us).leads z/\Me P s W a e ps n ys us os
 | [],n,k,hl=>⟨[],[],λ_=>[],hl,rfl,AAX,(λ_ _ _ b hb=>by cases hb),λ_=>AAX,λ_ _=>rfl,(λ_ b hb=>by cases hb),λm hm=>by simp at hm⟩
 |(i,x)::ps,n,k,hl=>by
  simp only[CO]at hl;split at hl
  ·rename_i hi;have hi:i=n:=ADh
   subst hi;have h1:=BK h x;have hva:=Fi hv x;generalize s.Ar x=p at hl h1 hva;split at hl
   ·rename_i g as;split at hl
    ·rename_i hflat;obtain⟨vs,hl,hvl,hvm,hvs⟩:=FR h (g:=BI g (a.eval x)) (λj b hj=>Ca h1 j b hj) hl;split at hl
     ·rename_i y hy;obtain⟨ys,us,os,hl,hrest⟩:=HJ h hv ps (i+1) hl;have hup:=A7 e vs y hy;have hen:as.length=e.n:=by rw[<-hvl,<-hup,CS]
      have hcells:=CZ h1 λj b hj=>by
       have hlt:j<vs.length:=by rw[hvl];exact(AAP.1 hj).1
       obtain⟨u,hu,hr⟩:=hvs j vs[j] (AAN hlt);exact⟨u,hu,L.FC _ hr⟩
      have hrd:e.rd 0 W.w (Seen W (as.flatMap LA.roots)) (BI g (a.eval x)) y []:=Cj e λj lv hj=>No
      have hrd2:=(Ls.AY e hflat hrd (d':=2) (w':=W.w) (fz':=W.fz)).1;refine⟨y::ys,us,λm=>match m with|0=>[]|m+1=>os m,hl,by simp[hrest.len],hrest.nodup,?_,?_,?_,?_,?_⟩
      ·intro i j hij b hb;cases i with
       |zero=>cases hb
       |succ i=>cases j with
        |zero=>simp
        |succ j=>exact hrest.OV i j (λe=>hij (by rw[e])) b hb
      ·intro i;cases i with
       |zero=>grind
       |succ i=>exact hrest.Oc i
      ·intro i hi;cases i with
       |zero=>simp at hi
       |succ i=>exact hrest.Oh i No
      ·intro i b hb;cases i with
       |zero=>cases hb
       |succ i=>exact hrest.Nz i b hb
      ·intro m hm;cases m with
       |zero=>exact⟨x,rfl,J,Ls.BP e hrd2 λj hj=>hcells.2 j J⟩
       |succ m=>
        obtain⟨x',h1,h2,h3⟩:=hrest.el m ADl;grind
     ·exact hl.elim
    ·obtain⟨bs,vs,os0,hl,hblen,halen,hvnd,_,hdis0,hbig0,hbs⟩:=EO (v:=v) h (g:=BI g (a.eval x)) (λj b hj=>⟨λhin=>hva (AAQ.2 ⟨b,AAS hj,hin⟩),Ca h1 j b hj⟩) hl;split at hl
     ·rename_i lvs hlvs;have hlvs:bs.mapM E2=some lvs:=hlvs;split at hl
      ·rename_i y hy;obtain⟨ys,us,os,hl,hrest⟩:=HJ h hv ps (i+1) hl;split at hl
       ·rename_i hall
        have hapart:∀x∈vs,x∉us:=by intro x hx hx';have:=AAa.1 hall x hx;simp at this;exact this hx'
        have hup:=A7 e lvs y hy
        have hlen:lvs.length=bs.length:=by
         have:∀ {l:List LA} {r:List Lv},l.mapM E2=some r->r.length=l.length:=by
          intro l
          induction l with
          |nil=>grind
          |cons b l ih=>
           intro r hr;simp only[List.mapM_cons,Option.bind_eq_bind,Option.pure_def]at hr;cases hb:E2 b with
           |none=>grind
           |some c=>
            cases hr':l.mapM E2 with
            |none=>grind
            |some r'=>grind
         exact this hlvs
        have hen:as.length=e.n:=by rw[<-hblen,<-hlen,<-hup,CS]
        have hcells:=CZ h1 λj b hj=>by
         have hlt:j<bs.length:=by rw[hblen];exact(AAP.1 hj).1
         obtain⟨u,hu,hr⟩:=hbs j bs[j] (AAN hlt);exact⟨u,hu,hr.1⟩
        have hrd:e.rd 2 W.w W.fz (BI g (a.eval x)) y ((List.range e.n).flatMap os0):=DV e λj lv hj=>by
         rw[hup]at hj;have hlt:j<bs.length:=by rw[<-hlen];exact(AAP.1 hj).1
         obtain⟨y',hy',hy''⟩:=Fg hlvs j bs[j] (AAN hlt);rw[hj]at hy'';injection hy'' with hy'';subst hy''
         obtain⟨u,hu,ht⟩:=hbs j bs[j] (AAN hlt);exact⟨u,hu,IK ht hy'⟩
        have hnod0:∀j,(os0 j).Nodup:=by
         intro j;by_cases hj:j<bs.length
         ·obtain⟨u,_,ht⟩:=hbs j bs[j] (AAN hj);exact ht.2.1
         ·grind
        have hfrom0:∀b∈(List.range e.n).flatMap os0,∃r j,(r,j)∈vs/\b∈W.om (.lf r j):=by
         intro b hb;obtain⟨j,hj,hb⟩:=AAQ.1 hb;have hj:j<bs.length:=by rw[hblen,hen];exact AAc.1 hj
         obtain⟨u,_,ht⟩:=hbs j bs[j] (AAN hj);exact ht.2.2.1 b hb
        have hcross:∀i,∀b∈(List.range e.n).flatMap os0,b∉os i:=by
         intro i b hb hb';obtain⟨r,j,hm,h1⟩:=hfrom0 b hb;obtain⟨r',j',hm',h1'⟩:=hrest.Nz i b hb';by_cases he:(r,j)=(r',j')
         ·grind
         ·exact h.sep.BD (.lf r j) (.lf r' j') (λe=>he No) b h1 h1'
        refine⟨y::ys,vs++us,λm=>match m with|0=>(List.range e.n).flatMap os0|m+1=>os m,hl,by simp[hrest.len],?_,?_,?_,?_,?_,?_⟩
        ·exact AAd.2 ⟨hvnd,hrest.nodup,λx hx y hy e=>hapart x hx (e▸hy)⟩
        ·intro i j hij b hb;cases i with
         |zero=>grind
         |succ i=>cases j with
          |zero=>grind
          |succ j=>exact hrest.OV i j (λe=>hij (by rw[e])) b hb
        ·intro i;cases i with
         |zero=>exact Dv hnod0 hdis0 e.n
         |succ i=>exact hrest.Oc i
        ·intro i hi;cases i with
         |zero=>simp at hi
         |succ i=>exact hrest.Oh i No
        ·intro i b hb;cases i with
         |zero=>grind
         |succ i=>obtain⟨r,j,hm,h1⟩:=hrest.Nz i b hb;grind
        ·intro m hm;cases m with
         |zero=>exact⟨x,rfl,J,Ls.BP e hrd λj hj=>hcells.2 j J⟩
         |succ m=>
          obtain⟨x',h1,h2,h3⟩:=hrest.el m ADl;grind
       ·exact hl.elim
      ·exact hl.elim
     ·exact hl.elim
   ·exact hl.elim
  ·exact hl.elim
theorem HQ{e:Ls}(f:Operand->Value):∀(ps:List (Nat×Operand)) (n:Nat) (arr:Array Value),(∀m x i,ps[m]?=some (i,x)->i=n+m/\(f x).cells.size=e.n)->(n+ps.length)*e.n<=arr.size->
  ∃arr',Instr.fill (λi=>some (i*e.n,e.n)) arr (ps.map λp=>(p.1,f p.2))=some arr'/\arr'.size=arr.size/\(∀k,k<n*e.n->arr'[k]?=arr[k]?)/\∀m i x,ps[m]?=some (i,x)->∀j,j<e.n->arr'[(n+m)*e.n+j]?=(f x).cells[j]?
 | [],n,arr,h,hs=>⟨arr,rfl,rfl,λ_ _=>rfl,λm i x hm=>by simp at hm⟩
 |(i,x)::ps,n,arr,h,hs=>by
  obtain⟨hi,hsz⟩:=h 0 x i rfl;simp only[AA0]at hi;subst hi;have hs':(i+(ps.length+1))*e.n<=arr.size:=by simpa using hs
  have hfit:i*e.n+e.n<=arr.size:=by have h2:(i+1)*e.n<=(i+(ps.length+1))*e.n:=AAt _ J;rw[AAu,ABO]at h2;omega
  have hget:=Cc (f x).cells.toList (i*e.n) arr No
  obtain⟨arr',hf,hsize,hlow,hel⟩:=HQ f ps (i+1) (B5 (f x).cells.toList (i*e.n) arr) (λm y j hm=>by
   obtain⟨h1,h2⟩:=h (m+1) y j No;exact⟨J,h2⟩) (by rw[Aq,show i+1+ps.length=i+(ps.length+1) by omega];exact hs')
  refine⟨arr',?_,by rw[hsize,Aq],?_,?_⟩
  ·rw[ABI,IN (off:=i*e.n) (size:=e.n) rfl hsz hfit];exact hf
  ·grind
  ·intro m j y hm q hq;cases m with
   |zero=>
    grind
   |succ m=>
    grind
theorem Hw{P:Program}{w:World}{t t0:TypeId}{i:TypeInfo}{z:Value}{len:Nat}{parts:Array (Nat×Value)}{arr:Array Value}(ht:P.underlying t=some (.slice t0))(hi:P.info? t0=some i)(hz:i.zero=some z)
  (hlen:len*i.size<=16777216) (hf:Instr.fill (λj=>some (j*i.size,i.size)) (madeCells z.cells (len*i.size)) parts.toList=some arr):
  (Instr.buildSlice t len parts).run P w=.ok (.slice (some ⟨w.heap.size,0,none⟩) len len) (w.alloc (.cells arr t0)):=by
 have n1:¬(16777216<len*i.size):=J
 by_cases hn:len*i.size=0
 ·rw[hn]at hf;have h0:madeCells z.cells 0 = #[]:=by simp[madeCells]
  rw[h0]at hf;simp[Instr.buildSlice,run_underlying ht,sizeOf,typeInfo,hi,n1,hn,hf,newRow,Array.range_zero']
 ·unfold madeCells at hf;simp[Instr.buildSlice,run_underlying ht,sizeOf,typeInfo,zeroValue,hi,hz,n1,hn,hf,newRow]
end
end Go.Ev
namespace Go.Ev
theorem JF{s:St}{r:Nat}(h:(s.root r).box=true):r<s.ro.length:=by
 rcases AAv r s.ro.length with hlt|hge
 ·exact hlt
 ·have:s.root r=dead:=As _ hge;rw[this]at h;cases h
theorem I2{s:St}{r j AB gen:Nat}{t:TypeId}{e:Ls}{xs:List e.D}{d:Nat}(h:s.leaf r j=.arr AB gen t e xs d):r<s.ro.length/\j<(s.root r).ls.length:=by
 constructor
 ·rcases AAv r s.ro.length with hlt|hge
  ·exact hlt
  ·have:s.root r=dead:=As _ hge;unfold St.leaf at h;rw[this]at h;cases j<;>cases h
 ·rcases AAv j (s.root r).ls.length with hlt|hge
  ·exact hlt
  ·unfold St.leaf at h;rw[As _ hge]at h;cases h
theorem Du(r:Nat):∀(bs:List LA)(j:Nat)(s:St),(bs=[]\/r<s.ro.length)->j+bs.length<=(s.root r).ls.length->JO s (s.app (A5 r j bs))/\
  ∀r' j',(s.app (A5 r j bs)).leaf r' j'=if r'=r/\j<=j'/\j'<j+bs.length then nth .bad bs (j'-j)else s.leaf r' j'
 | [],j,s,hr,hj=>⟨⟨rfl,rfl,λ_=>⟨rfl,rfl,rfl⟩⟩,λr' j'=>by rw[AAU AAB];rfl⟩
 |b::bs,j,s,hr,hj=>by
  simp only[ABG]at hj;have hr:r<s.ro.length:=hr.resolve_left AAB;have h1:=Bo s r j b;obtain⟨h2,h3⟩:=Du r bs (j+1) (s.AG (.leaf r j b)) (by rw[h1.len];exact .inr hr) (by rw[(h1.box r).2.2];omega);refine⟨⟨h2.sl.trans h1.sl,h2.len.trans h1.len,λx=>⟨(h2.box x).1.trans (h1.box x).1,(h2.box x).2.1.trans (h1.box x).2.1,(h2.box x).2.2.trans (h1.box x).2.2⟩⟩,λr' j'=>?_⟩;show((s.AG (.leaf r j b)).app (A5 r (j+1) bs)).leaf r' j'=_;rw[h3,Fc];by_cases hrr:r'=r
  ·subst hrr;by_cases hjj:j'=j
   ·subst hjj;rw[AAU J,AAT ⟨rfl,rfl,hr,J⟩,AAT ⟨rfl,J,AAB⟩];simp[nth]
   ·by_cases hin:j+1<=j'/\j'<j+1+bs.length
    ·rw[AAT ⟨rfl,hin⟩,AAT ⟨rfl,J,ADa⟩];obtain⟨k,rfl⟩:∃k,j'=j+1+k:=⟨j'-(j+1),J⟩;rw[show j+1+k-(j+1)=k by omega,show j+1+k-j=k+1 by omega];rfl
    ·rw[AAU (λhh=>hin hh.2),AAU (λhh=>hjj hh.2.1.symm),AAU (λhh=>hin (by simp at hh;omega))]
  grind
section
variable {P:Program}{E:Ci}{s:St}{W:Wd}{o:Oper}{a:Act}{ws:List Wr}{cx:Cx}{v:Nat}{tm:Array Value}
theorem LA.Ee(hv:Ai s v)(r j:Nat):(s.leaf r j).B3=true\/v∉(s.leaf r j).AF:=hv.2.1 r j
theorem AW.J4(h:AW E s tm W)(hv:Ai s v){r j:Nat}(hbox:(s.root r).box=true){us:List (Nat×Nat)}{bs:List LA}{os:Nat->It}{cells:ADb}(hlen:cells.length=bs.length)(hfit:j+bs.length<=(s.root r).ls.length)
  (hbs:∀(i:Nat)(b:LA),bs[i]?=some b->∃u,cells[i]?=some u/\JP s W v b u (os i) us) (hdis:∀i j,i≠j->∀b∈os i,b∉os j) (hbig:∀i,bs.length<=i->os i=[])
  {arr:Array Value} {T:TypeId} {fr:Nat×Nat} (harr:W.w.heap[W.bk r]?=some (.cells arr T fr)) {w':World} (hput:NG W.w w' (W.bk r) (B5 cells j arr) T fr):
  ∃W',W'.w=w'/\AW E (s.app (gone us++A5 r j bs)) tm W':=by
 have hr:r<s.ro.length:=JF hbox;obtain⟨_,hbx⟩:=h.roots r;rw[AAT hbox]at hbx;obtain⟨hom,arr0,T0,fr0,hh,hbare,hsz,hcv⟩:=hbx;rw[harr]at hh;injection hh with hh;injection hh with e1 e2 e3;subst e1;subst e2;subst e3
 have hget:=Cc cells j arr J
 have hblk:∀b,(W.fz b\/∃k,k≠.blk r/\b∈W.om k)->b≠W.bk r:=by
  rintro b hb rfl
  have h0:W.bk r∈W.om (.blk r):=by rw[hom];simp
  rcases hb with hb|⟨k,hk,hb⟩
  ·exact(h.sep.own _ _ h0).1 hb
  ·exact h.sep.BD k _ hk _ hb h0
 have hw:∀b,(W.fz b\/∃k,k≠.blk r/\b∈W.om k)->w'.heap[b]?=W.w.heap[b]?:=λb hb=>hput.CX b (hblk b hb);obtain⟨hsame1,hleaf1⟩:=Dd s us;rw[Ay];generalize hs1:s.app (gone us)=s1 at hsame1 hleaf1;obtain⟨hsame2,hleaf2⟩:=Du r bs j s1 (by rw[hsame1.len];exact .inr hr) (by rw[(hsame1.box r).2.2];exact hfit);generalize hs2:s1.app (A5 r j bs)=s' at hsame2 hleaf2;have hsl:s'.sl=s.sl:=hsame2.sl.trans hsame1.sl
 have hbx':∀r,(s'.root r).box=(s.root r).box/\(s'.root r).AB=(s.root r).AB/\(s'.root r).ls.length=(s.root r).ls.length:=λr=>
  ⟨(hsame2.box r).1.trans (hsame1.box r).1,(hsame2.box r).2.1.trans (hsame1.box r).2.1,(hsame2.box r).2.2.trans (hsame1.box r).2.2⟩
 have AAA:∀r' j',s'.leaf r' j'=if r'=r/\j<=j'/\j'<j+bs.length then nth .bad bs (j'-j)else if(r',j')∈us then .bad else s.leaf r' j':=λr' j'=>No
 have hrol:s'.ro.length=s.ro.length:=hsame2.len.trans hsame1.len;clear hleaf1 hleaf2 hsame1 hs1 hs2
 let W':Wd:={
  w:=w'
  fz:=W.fz
  cv:=λr' j'=>if r'=r then(B5 cells j arr)[j']? else W.cv r' j'
  bk:=W.bk
  om:=λk=>match k with
   | .lf r' j'=>if r'=r/\j<=j'/\j'<j+bs.length then os (j'-j)else if(r',j')∈us then []else W.om (.lf r' j')
   |k=>W.om k }
 have hosub:∀i,∀b∈os i,∃r' j',(r',j')∈us/\b∈W.om (.lf r' j'):=by
  intro i b hb;by_cases hi:i<bs.length
  ·obtain⟨u,_,ht⟩:=hbs i bs[i] (AAN hi);exact ht.2.2.1 b hb
  ·grind
 have hnth:∀i,i<bs.length->∃u,cells[i]?=some u/\JP s W v (nth .bad bs i) u (os i) us:=by intro i hi;have:=hbs i bs[i] (AAN hi);rw[Ad,AAN hi];exact this
 have hcv':∀r' j',¬(r'=r/\j<=j'/\j'<j+bs.length)->W'.cv r' j'=W.cv r' j':=by
  intro r' j' hn;by_cases hrr:r'=r
  ·grind
  ·grind
 have hturn:Ef v s s' W W':={
  fz:=λb hb=>hb
  Lb:=λb hb=>hw b (.inl hb)
  leaf:=by
   intro r' j' AB gen t e xs d hl hne;rw[AAA]at hl;by_cases hin:r'=r/\j<=j'/\j'<j+bs.length
   ·rw[AAT hin]at hl;obtain⟨u,_,ht⟩:=hnth (j'-j) J;rw[hl]at ht;exact absurd ht.2.2.2.1 hne
   ·rw[AAU hin]at hl;by_cases hm:(r',j')∈us
    ·grind
    ·rw[AAU hm]at hl;refine⟨hcv' r' j' hin,gen,t,xs,d,hl,λ_=>⟨rfl,λp h' e' u' hc hn=>?_⟩⟩;obtain⟨u0,hu0,hrd⟩:=(h.roots r').row hl;rw[hc]at hu0;injection hu0 with hu0;subst hu0
     exact BN p hrd hn λb hb=>hw b (hb.elim (λhb=>.inr ⟨.lf r' j',AAB,hb⟩) .inl)
  box:=λr' hb hne=>⟨(hbx' r').1▸hb,(hbx' r').2.1.symm,rfl⟩ }
 have hsep:Sep E W':=by
  refine h.sep.ID (λk=>∃r' j',k=.lf r' j'/\((r',j')∈us\/(r'=r/\j<=j'/\j'<j+bs.length))) rfl (by show _<=w'.heap.size;rw[hput.size];omega) ?_ hput.rest ?_ ?_ ?_ ?_
  ·intro b hb hio;refine hput.CX b ?_
   rintro rfl
   have h0:W.bk r∈W.om (.blk r):=by rw[hom];simp
   rcases(h.sep.own _ _ h0).2.2 with h2|h2
   all_goals grind
  ·grind
  ·rintro k ⟨r',j',rfl,hk⟩
   show(if r'=r/\j<=j'/\j'<j+bs.length then os (j'-j)else if(r',j')∈us then []else W.om (.lf r' j')).Nodup;by_cases hin:r'=r/\j<=j'/\j'<j+bs.length
   ·rw[AAT hin];obtain⟨u,_,ht⟩:=hnth (j'-j) J;exact ht.2.1
   grind
  ·rintro k k' ⟨r',j',rfl,hk⟩ ⟨r2,j2,rfl,hk2⟩ hne b hb hb'
   have hb:b∈(if r'=r/\j<=j'/\j'<j+bs.length then os (j'-j)else if(r',j')∈us then []else W.om (.lf r' j')):=hb;have hb':b∈(if r2=r/\j<=j2/\j2<j+bs.length then os (j2-j)else if(r2,j2)∈us then []else W.om (.lf r2 j2)):=hb';by_cases hin:r'=r/\j<=j'/\j'<j+bs.length
   ·rw[AAT hin]at hb;by_cases hin2:r2=r/\j<=j2/\j2<j+bs.length
    ·rw[AAT hin2]at hb';exact hdis (j'-j) (j2-j) (λe=>hne (by rw[hin.1,hin2.1,show j'=j2 by omega])) b hb hb'
    ·rw[AAU hin2,AAT (hk2.resolve_right hin2)]at hb';cases hb'
   grind
  ·grind
 refine⟨W',rfl,h.ID hv hturn hsep (by rw[hsl,h.DT]) ?_ (λt=>.inl ⟨by show nth _ s'.sl t=_;rw[hsl];rfl,rfl⟩) ?_⟩
 ·rw[hrol,h.Bj]
 ·intro r';obtain⟨h1,h2⟩:=h.roots r';refine⟨λj'=>?_,?_⟩
  ·show Aa s' W' (s'.leaf r' j') (W'.cv r' j') (W'.om (.lf r' j'));have hom':W'.om (.lf r' j')=if r'=r/\j<=j'/\j'<j+bs.length then os (j'-j)else if(r',j')∈us then []else W.om (.lf r' j'):=rfl
   rw[AAA,hom'];by_cases hin:r'=r/\j<=j'/\j'<j+bs.length
   ·rw[AAT hin,AAT hin];obtain⟨u,hu,ht⟩:=hnth (j'-j) J
    have hcvv:W'.cv r' j'=some u:=by show(if r'=r then _ else _)=_;grind
    rw[hcvv];obtain⟨_,_,_,ht⟩:=ht;generalize nth LA.bad bs (j'-j)=b at ht;unfold Aa;cases b with
    |arr AB gen t e xs dd=>
     obtain⟨_,_,hr⟩:=ht;refine⟨u,rfl,hr.frame (λb hb=>hw b ?_) λb hb=>hb⟩;grind
    |_=>exact⟨ht.1,λu' hu'=>by injection hu' with hu';subst hu';exact AT.Dg hturn ht.2.2 ht.2.1⟩
   ·rw[AAU hin,AAU hin,hcv' r' j' hin];by_cases hm:(r',j')∈us
    ·rw[AAT hm,AAT hm];exact⟨rfl,λ_ _=>trivial⟩
    ·rw[AAU hm,AAU hm];exact Aa.Dg hturn (LA.Ee hv r' j') (λb hb=>hw b (.inr ⟨.lf r' j',AAB,hb⟩)) (h1 j')
  ·rw[(hbx' r').1];split
   ·rename_i hb;rw[AAT hb]at h2;obtain⟨ho',arr',T',fr',hh',a1,a2,a3⟩:=h2;by_cases hrr:r'=r
    ·subst hrr;rw[harr]at hh';injection hh' with hh';injection hh' with e1 e2 e3;subst e1;subst e2;subst e3
     exact⟨ho',_,_,_,hput.here,by rw[Aq];exact a1,by rw[Aq,(hbx' r').2.2];exact a2,λj'=>AAT rfl⟩
    ·refine⟨ho',arr',T',fr',(hw (W.bk r') (.inr ⟨.blk r',by simpa using hrr,by rw[ho'];simp⟩)).trans hh',a1,by rw[(hbx' r').2.2];exact a2,λj'=>?_⟩;rw[<-a3 j'];exact AAU hrr
   grind
theorem AW.KQ(h:AW E s tm W)(hv:Ai s v){r j AB gen:Nat}{t:TypeId}{e:Ls}{xs xs':List e.D}{d:Nat}(hl:s.leaf r j=.arr AB gen t e xs d){u:Value}(hcv:W.cv r j=some u){w':World}
  (hrd:AE e d w' W.fz u xs' (W.om (.lf r j))) (hw:∀b,b∉W.om (.lf r j)->w'.heap[b]?=W.w.heap[b]?) (hsz:w'.heap.size=W.w.heap.size) (hrest:w'.os=W.w.os/\w'.tape=W.w.tape/\w'.output=W.w.output):
  AW E (s.app [.leaf r j (.arr AB v t e xs' d)]) tm { W with w:=w' }:=by
 obtain⟨hr,hj⟩:=I2 hl;show AW E (s.AG (.leaf r j (.arr AB v t e xs' d))) tm _;have hsame:=Bo s r j (.arr AB v t e xs' d);have AAA:=Fc s r j (.arr AB v t e xs' d);generalize s.AG (.leaf r j (.arr AB v t e xs' d))=s' at hsame AAA;have hfz:∀b,W.fz b->w'.heap[b]?=W.w.heap[b]?:=λb hb=>hw b λhin=>(h.sep.own _ b hin).1 hb;have hoth:∀k,k≠.lf r j->∀b∈W.om k,w'.heap[b]?=W.w.heap[b]?:=λk hk b hb=>hw b λhin=>h.sep.BD k _ hk b hb hin
 have hturn:Ef v s s' W { W with w:=w' }:={
  fz:=λb hb=>hb
  Lb:=hfz
  leaf:=by
   intro r' j' ver' gen' t' e' ys d' hl' hne;rw[AAA]at hl';by_cases hin:r=r'/\j=j'
   ·grind
   ·rw[AAU (λhh=>hin ⟨hh.1,hh.2.1⟩)]at hl';refine⟨rfl,gen',t',ys,d',hl',λ_=>⟨rfl,λp h' e2 u' hc hn=>?_⟩⟩;obtain⟨u0,hu0,hrd0⟩:=(h.roots r').row hl';rw[hc]at hu0;injection hu0 with hu0;subst hu0
    exact BN p hrd0 hn λb hb=>hb.elim (λhb=>hoth _ No b hb) (hfz b)
  box:=λr' hb hne=>⟨(hsame.box r').1▸hb,(hsame.box r').2.1.symm,rfl⟩ }
 have hsep:Sep E { W with w:=w' }:={
  nodup:=h.sep.nodup
  BD:=h.sep.BD
  own:=λk b hb=>by obtain⟨a,c,d⟩:=h.sep.own k b hb;grind
  fz:=λb hb=>by obtain⟨a,c⟩:=h.sep.fz b hb;grind
  frame:=λb h1 h2=>(hw b λhin=>by
   rcases(h.sep.own _ b hin).2.2 with h3|h3
   all_goals grind).trans (h.sep.frame b h1 h2)
  size:=by show _<=w'.heap.size;rw[hsz];exact h.sep.size
  rest:=⟨hrest.1.trans h.sep.rest.1,hrest.2.1.trans h.sep.rest.2.1,hrest.2.2.trans h.sep.rest.2.2⟩ }
 refine h.ID hv hturn hsep (by rw[hsame.sl,h.DT]) (by rw[hsame.len,h.Bj]) (λt=>.inl ⟨by show nth _ s'.sl t=_;rw[hsame.sl];rfl,rfl⟩) ?_;intro r';obtain⟨h1,h2⟩:=h.roots r';refine⟨λj'=>?_,?_⟩
 ·show Aa s' _ (s'.leaf r' j') (W.cv r' j') (W.om (.lf r' j'));rw[AAA];by_cases hin:r=r'/\j=j'
  ·obtain⟨rfl,rfl⟩:=hin;rw[AAT ⟨rfl,rfl,hr,hj⟩];exact⟨u,hcv,hrd⟩
  ·rw[AAU (λhh=>hin ⟨hh.1,hh.2.1⟩)];exact Aa.Dg hturn (LA.Ee hv r' j') (hoth _ No) (h1 j')
 ·rw[(hsame.box r').1];split
  ·rename_i hb;rw[AAT hb]at h2;obtain⟨ho',arr',T',fr',hh',a1,a2,a3⟩:=h2;exact⟨ho',arr',T',fr',(hoth (.blk r') AAB _ (by rw[ho'];simp)).trans hh',a1,by rw[(hsame.box r').2.2];exact a2,a3⟩
  grind
end
end Go.Ev
namespace Go.Ev
def Plain(w:World)(fz:Nat->Prop)(vs:List Lv)(cells:ADb):Prop:=
 cells.length=vs.length/\∀(m:Nat)(lv:Lv),vs[m]?=some lv->Bi lv.l=false/\∃u,cells[m]?=some u/\∀d w' fz',lv.l.rd d w' fz' u lv.x []
theorem DJ{w:World}{fz:Nat->Prop}:∀(e:Ls)(off:Nat)(vs:List Lv)(cells:ADb) {f:e.D->e.D} {d:Nat} {g g':Nat->Option Value} {x:e.D} {o:It},Be e off vs=some f->Plain w fz vs cells->
  e.rd d w fz g x o->(∀m,m<e.n->g' m=if off<=m/\m<off+vs.length then cells[m-off]? else g m)->off+vs.length<=e.n/\e.rd d w fz g' (f x) o
 | .nil,off,vs,cells,f,d,g,g',x,o,hf,hp,hr,hg=>by simp[Be]at hf
 | .one l,off,vs,cells,f,d,g,g',x,o,hf,hp,hr,hg=>by
  simp only[Be]at hf;split at hf
  ·rename_i v;split at hf
   ·rename_i y hy;injection hf with hf;subst hf
    obtain⟨l',z⟩:=v;obtain⟨e1,e2⟩:=L.AH hy;dsimp only at e1;subst e1;have e2:z=y:=e2;subst e2;obtain⟨hns,u,hu,hu'⟩:=hp.2 0 ⟨l',z⟩ rfl;simp only[Ls.rd]at hr ⊢;obtain⟨v0,hv0,hr⟩:=hr;have ho:=(L.AY l' hns hr (d':=d) (w':=w) (fz':=fz)).2;subst ho;refine⟨by simp[Ls.n],u,?_,hu' _ _ _⟩;rw[hg 0 (by simp[Ls.n]),AAT AAB,<-hu]
   ·cases hf
  ·cases hf
 | .cons l ls,off,vs,cells,f,d,g,g',x,o,hf,hp,hr,hg=>by
  simp only[Be]at hf;simp only[Ls.rd]at hr ⊢;obtain⟨v0,o1,o2,hv0,h1,h2,rfl⟩:=hr;cases off with
  |zero=>
   simp only at hf;split at hf
   ·cases hf
   ·rename_i v;split at hf
    ·rename_i y hy;injection hf with hf;subst hf
     obtain⟨l',z⟩:=v;obtain⟨e1,e2⟩:=L.AH hy;dsimp only at e1;subst e1;have e2:z=y:=e2;subst e2;obtain⟨hns,u,hu,hu'⟩:=hp.2 0 ⟨l',z⟩ rfl;have ho:=(L.AY l' hns h1 (d':=d) (w':=w) (fz':=fz)).2;subst ho;refine⟨by simp[Ls.n]<;>omega,u,[],o2,?_,hu' _ _ _,?_,rfl⟩
     ·rw[hg 0 (by simp[Ls.n]<;>omega),AAT AAB,<-hu]
     ·exact Ls.BP ls h2 λj hj=>by rw[hg (j+1) (by simp[Ls.n]<;>omega),AAU AAB]
    ·cases hf
   ·rename_i v u0 vs';split at hf
    ·rename_i y f' hy hf';injection hf with hf;subst hf
     obtain⟨l',z⟩:=v;obtain⟨e1,e2⟩:=L.AH hy;dsimp only at e1;subst e1;have e2:z=y:=e2;subst e2;obtain⟨hns,u,hu,hu'⟩:=hp.2 0 ⟨l',z⟩ rfl;have ho:=(L.AY l' hns h1 (d':=d) (w':=w) (fz':=fz)).2;subst ho
     obtain⟨c0,cs,rfl⟩:∃c0 cs,cells=c0::cs:=by
      cases cells with
      |nil=>grind
      |cons c cs=>grind
     obtain⟨ih1,ih2⟩:=DJ ls 0 (u0::vs') cs (g':=λj=>g' (j+1)) hf' ⟨by have:=hp.1;grind,λm lv hm=>by
      have:=hp.2 (m+1) lv ADl;grind⟩ h2 (λm hm=>by
       rw[hg (m+1) (by simp[Ls.n]<;>omega)];grind)
     refine⟨by simp[Ls.n]at ih1 ⊢ <;> omega,u,[],o2,?_,hu' _ _ _,ih2,rfl⟩;rw[hg 0 (by simp[Ls.n]<;>omega),AAT AAB,<-hu]
    ·cases hf
  |succ off=>
   simp only at hf;split at hf
   ·rename_i f' hf';injection hf with hf;subst hf
    obtain⟨ih1,ih2⟩:=DJ ls off vs cells (g':=λj=>g' (j+1)) hf' hp h2 (λm hm=>by
     rw[hg (m+1) (by simp[Ls.n]<;>omega)];grind)
    refine⟨by simp[Ls.n]<;>omega,v0,o1,o2,?_,h1,ih2,rfl⟩;rw[hg 0 (by simp[Ls.n]<;>omega),AAU J];exact hv0
   ·cases hf
theorem Jn{w:World}{fz:Nat->Prop}:∀(e:Ls)(j:Nat) {G:(t:TypeId)->(f:Ls)->Option (List f.D->List f.D)} {hh:e.D->e.D} {g:Nat->Option Value} {x:e.D} {o:It} {t:TypeId} {f:Ls} {h':Value},EH e j G=some hh->
  e.kinds[j]?=some (.sl t f)->e.rd 2 w fz g x o->g j=some h'->∃(fn:List f.D->List f.D) (ys:List f.D) (o':It),G t f=some fn/\AE f 2 w fz h' ys o'/\(∀b∈o',b∈o)/\(o.Nodup->o'.Nodup)/\
   ∀w',AE f 2 w' fz h' (fn ys) o'->(∀b,b∈o\/fz b->b∉o'->w'.heap[b]?=w.heap[b]?)->(∀b,fz b->b∉o')->o.Nodup->e.rd 2 w' fz g (hh x) o
 | .nil,j,G,hh,g,x,o,t,f,h',hm,hk,hr,hg=>by simp[EH]at hm
 | .one l,j,G,hh,g,x,o,t,f,h',hm,hk,hr,hg=>by
  simp only[EH]at hm;simp only[Ls.rd]at hr;obtain⟨v,hv,hr⟩:=hr;cases j with
  |succ j=>cases hm
  |zero=>
   simp[Ls.kinds]at hk;subst hk;rw[hg]at hv;injection hv with hv;subst hv
   refine⟨hh,x,o,hm,hr,λb hb=>hb,id,λw' hr' _ _ _=>?_⟩;simp only[Ls.rd];exact⟨h',hg,hr'⟩
 | .cons l ls,j,G,hh,g,x,o,t,f,h',hm,hk,hr,hg=>by
  simp only[EH]at hm;simp only[Ls.rd]at hr;obtain⟨v,o1,o2,hv,h1,h2,rfl⟩:=hr;cases j with
  |zero=>
   simp[Ls.kinds]at hk;subst hk;rw[hg]at hv;injection hv with hv;subst hv
   simp only at hm;split at hm
   ·rename_i fn hfn;injection hm with hm;subst hm
    refine⟨fn,x.1,o1,hfn,h1,λb hb=>AAZ _ hb,λhn=>(AAd.1 hn).1,λw' hr' hf hz hn=>?_⟩;simp only[Ls.rd];refine⟨h',o1,o2,hg,hr',Ls.AN ls h2 (λb hb=>hf b (hb.imp (AAW _) id) ?_) (λb hb=>hb),rfl⟩;grind
   ·cases hm
  |succ j=>
   simp only at hm;split at hm
   ·rename_i h2' hh';injection hm with hm;subst hm
    obtain⟨fn,ys,o',a1,a2,a3,a4,a5⟩:=Jn ls j hh' (by simpa[Ls.kinds]using hk) h2 (show(λj=>g (j+1)) j=_ from hg);refine⟨fn,ys,o',a1,a2,λb hb=>AAW _ (a3 b hb),λhn=>a4 (AAd.1 hn).2.1,λw' hr' hf hz hn=>?_⟩;simp only[Ls.rd];refine⟨v,o1,o2,hv,L.AN l h1 (λb hb=>hf b (hb.imp (AAZ _) id) ?_) (λb hb=>hb),a5 w' hr' (λb hb hnb=>hf b (hb.imp (AAW _) id) hnb) hz (AAd.1 hn).2.1,rfl⟩;grind
   ·cases hm
theorem Eo:∀(e:Ls),(∀l∈e.kinds,Bi l=false)->Bx e=true
 | .nil,_=>rfl
 | .one l,h=>by simp[Bx,h l (by simp[Ls.kinds])]
 | .cons l ls,h=>by simp[Bx,h l (by simp[Ls.kinds]),Eo ls λl hl=>h l (by simp[Ls.kinds,hl])]
theorem E9{α:Type}(xs:List α)(i:Nat)(f:α->α)(m:Nat)(hm:m<(xs.modify i f).length):(xs.modify i f)[m]=if i=m then f (xs[m]'(by grind))else xs[m]'(by grind):=No
theorem Kk{e:Ls}{d:Nat}{w:World}{fz:Nat->Prop}{a:Addr}{n k:Nat}{xs:List e.D}{o:It}(hr:AE e d w fz (.slice (some a) n k) xs o)(hd:0<d)(hn:o.Nodup)(hz:∀b∈o,¬fz b){i:Nat}(hi:i<n)
  {off:Nat} {cells:ADb} {F:e.D->e.D} (hfit:off+cells.length<=e.n)
  (hF:∀g g' x oo,e.rd (dec d) w fz g x oo->(∀m,m<e.n->g' m=if off<=m/\m<off+cells.length then cells[m-off]? else g m)->e.rd (dec d) w fz g' (F x) oo):
  a.spot=none/\∃arr T fr,w.heap[a.block]?=some (.cells arr T fr)/\(∀j,j<arr.size->¬(fr.1<=j/\j<fr.2))/\a.off+(i*e.n+off)+cells.length<=arr.size/\a.block∈o/\
   ∀w',NG w w' a.block (B5 cells (a.off+(i*e.n+off)) arr) T fr->AE e d w' fz (.slice (some a) n k) (xs.modify i F) o:=by
 obtain⟨A,c,hv,hc,_,hsome⟩:=hr.K3;injection hv with hA hl hk
 subst hA;subst hl;subst hk;obtain⟨arr,T,fr,os,hs,hh,hsz,hbare,hel,ho,_⟩:=hsome a rfl (.inr hd);have ho:=ho hd;have hbare:=hbare hd
 have hmul:i*e.n+e.n<=k*e.n:=by have:(i+1)*e.n<=k*e.n:=AAt _ J;rw[AAu,ABO]at this;omega
 have hbnd:a.off+(i*e.n+off)+cells.length<=arr.size:=J
 refine⟨hs,arr,T,fr,hh,hbare,hbnd,by rw[ho];simp,λw' hput=>?_⟩;have hget:=Cc cells (a.off+(i*e.n+off)) arr hbnd;have hd':decide (0<d)=true:=by simpa using hd
 refine⟨some a,k,AAB,ADt,?_⟩;refine .inr ⟨λq=>(B5 cells (a.off+(i*e.n+off)) arr)[a.off+q]?,os,⟨hs,_,T,fr,hput.here,by rw[Aq];exact hsz,λ_=>by rw[Aq];exact hbare,λ_=>rfl⟩,λm hm=>?_,?_⟩
 ·have hm':m<xs.length:=ADl
  have hnod:a.block∉os m:=by intro hin;rw[ho]at hn;exact(AAg.1 hn).1 (AAQ.2 ⟨m,AAc.2 hm',hin⟩)
  rw[E9]
  have hframe:∀ {g x},e.rd (dec d) w fz g x (os m)->e.rd (dec d) w' fz g x (os m):=λh=>Ls.AN e h (λb hb=>hput.CX b (by
   rintro rfl
   rcases hb with hb|hb
   ·exact hnod hb
   ·exact hz _ (by rw[ho];simp) hb)) λ_ hb=>hb
  by_cases him:i=m
  ·subst him;rw[AAT rfl];refine hframe (hF _ _ _ _ (hel i hm') λq hq=>?_);show(B5 cells (a.off+(i*e.n+off)) arr)[a.off+(i*e.n+q)]?=_;rw[hget];by_cases hc:off<=q/\q<off+cells.length
   ·rw[AAT J,AAT hc];congr 1;omega
   ·rw[AAU J,AAU hc]
  ·rw[AAU him];refine hframe (Ls.BP e (hel m hm') λq hq=>?_);show(B5 cells (a.off+(i*e.n+off)) arr)[a.off+(m*e.n+q)]?=_;rw[hget,AAU];intro hc;rcases ABK him with h1|h1
   ·have:(i+1)*e.n<=m*e.n:=AAt _ h1;rw[AAu,ABO]at this;omega
   ·have:(m+1)*e.n<=i*e.n:=AAt _ h1;rw[AAu,ABO]at this;omega
 grind
theorem KP{w:World}{fz:Nat->Prop}{e:Ls}{vs:List Lv}{y:e.D}{cells:ADb}(hy:pack e vs=some y)(hp:Plain w fz vs cells){g:Nat->Option Value}(hg:∀m,m<e.n->g m=cells[m]?):
  Bx e=true/\vs.length=e.n/\∀d w' fz',e.rd d w' fz' g y []:=by
 have hup:=A7 e vs y hy;have hlen:vs.length=e.n:=by rw[<-hup,CS]
 have hfl:Bx e=true:=Eo e λl hl=>by rw[<-Dw e y,hup]at hl;obtain⟨lv,hm,rfl⟩:=AAx.1 hl;obtain⟨m,hm⟩:=AAw hm;exact(hp.2 m lv hm).1
 refine⟨hfl,hlen,λd w' fz'=>?_⟩
 have:e.rd 0 w' fz' g y []:=Cj e λj lv hj=>by
  rw[hup]at hj;have hlt:j<e.n:=by rw[<-hlen];exact(AAP.1 hj).1
  obtain⟨_,u,hu,hr⟩:=hp.2 j lv hj;grind
 exact(Ls.AY e hfl this).1
theorem FF{α:Type}:∀(xs:List α)(i:Nat)(y:α),DL xs i y=xs.modify i λ_=>y
 | [],i,y=>by cases i<;>simp[DL]
 |x::xs,0,y=>by simp[DL]
 |x::xs,i+1,y=>by simp[DL,FF xs i y]
theorem Hy{x:Nat×Nat}{p:List (Nat×Nat)}(hp:p≠[]){q:List (Nat×Nat)}{i off:Nat}(h:Ag (x::p)=some (q,i,off)):∃q',q=x::q'/\Ag p=some (q',i,off):=by
 cases p with
 |nil=>grind
 |cons y r=>
  simp only[Ag]at h;grind
theorem CA{os:Nat->It}:∀ {l:It},(l.flatMap os).Nodup->∀ {i j:Nat},i∈l->j∈l->i≠j->∀b∈os i,b∉os j
 | [],_,i,j,hi,_,_=>by cases hi
 |x::l,h,i,j,hi,hj,hne=>by
  rw[AAr]at h;obtain⟨h1,h2,h3⟩:=AAd.1 h;intro b hb hb';rcases AAj.1 hi with hi'|hi'
  ·grind
  ·rcases AAj.1 hj with hj'|hj'
   ·grind
   ·exact CA h2 hi' hj' hne b hb hb'
theorem CB{os:Nat->It}:∀ {l:It},(l.flatMap os).Nodup->∀ {i:Nat},i∈l->(os i).Nodup
 | [],_,i,hi=>by cases hi
 |x::l,h,i,hi=>No
theorem Kd{vs:List Lv}{cells:ADb}{w:World}{fz:Nat->Prop}(hp:Plain w fz vs cells){i off:Nat}{e':Ls}{a:Addr}{n k:Nat}(hi:i<n):∀(p q:List (Nat×Nat)) {e:Ls} {d:Nat} {h:Value} {xs:List e.D} {o:It} {f:List e.D->List e.D},
  I3 vs p e=some f->AE e d w fz h xs o->o.Nodup->(∀b∈o,¬fz b)->0<d->(p.length<=1\/d=2)->Ag p=some (q,i,off)->JI w q e h e' (.slice (some a) n k)->
  a.spot=none/\∃arr T fr,w.heap[a.block]?=some (.cells arr T fr)/\(∀j,j<arr.size->¬(fr.1<=j/\j<fr.2))/\a.off+(i*e'.n+off)+cells.length<=arr.size/\a.block∈o/\
   ∀w',NG w w' a.block (B5 cells (a.off+(i*e'.n+off)) arr) T fr->AE e d w' fz h (f xs) o
 | [],q,e,d,h,xs,o,f,hm,hr,hn,hz,hd,hpl,hs,hnav=>by simp[I3]at hm
 | [(i0,j0)],q,e,d,h,xs,o,f,hm,hr,hn,hz,hd,hpl,hs,hnav=>by
  simp only[Ag,Option.some.injEq,Prod.mk.injEq]at hs;obtain⟨rfl,rfl,rfl⟩:=hs;obtain⟨rfl,rfl⟩:=hnav;simp only[I3]at hm;split at hm
  ·rename_i y hy;injection hm with hm;subst hm
   split at hy
   ·rename_i hc;simp only[AAO,AAY]at hc;obtain⟨rfl,hlen⟩:=hc
    have:=Kk (F:=λ_=>y) (off:=0) (cells:=cells) hr hd hn hz hi (by rw[hp.1,hlen];omega) (λg g' x oo hx hg=>by
     obtain⟨hfl,_,hall⟩:=KP hy hp (g:=g') λm hm=>by rw[hg m hm,AAT (by rw[hp.1,hlen];omega)];simp
     have:=(Ls.AY e' hfl hx (d':=0) (w':=w) (fz':=fz)).2;grind)
    simpa only[FF]using this
   ·cases hy
  ·split at hm
   ·rename_i f' hf';injection hm with hm;subst hm
    have hlen:∀g x oo,e'.rd (dec d) w fz g x oo->j0+vs.length<=e'.n:=λg x oo hx=>(DJ e' j0 vs cells (g':=λm=>if j0<=m/\m<j0+vs.length then cells[m-j0]? else g m) hf' hp hx λm _=>rfl).1;obtain⟨A,c,hv,hc,_,hsome⟩:=hr.K3;injection hv with hA hl hk
    subst hA;subst hl;subst hk;obtain⟨arr,T,fr,os,_,_,_,_,hel,_,_⟩:=hsome a rfl (.inr hd);have hfit:=hlen _ _ _ (hel i0 hi);exact Kk (F:=f') (off:=j0) (cells:=cells) hr hd hn hz hi (by rw[hp.1];exact hfit) (λg g' x oo hx hg=>(DJ e' j0 vs cells hf' hp hx λm hm=>by rw[hg m hm,hp.1]).2)
   ·cases hm
 |(i0,j0)::p0::ps,q,e,d,h,xs,o,f,hm,hr,hn,hz,hd,hpl,hs,hnav=>by
  have hd2:d=2:=hpl.resolve_left AAB;subst hd2;obtain⟨q',rfl,hs'⟩:=Hy AAB hs;simp only[I3]at hm;split at hm
  ·rename_i hh hhh;injection hm with hm;subst hm
   obtain⟨a0,len,c,t,ff,h',rfl,hs0,hi0,hk,hcell,hnav'⟩:=hnav;obtain⟨A,cc,hv,hc,_,hsome⟩:=hr.K3;injection hv with hA hl hk'
   subst hA;subst hl;subst hk';obtain⟨arr,T,fr,os,_,hhp,hsz,hbare,hel,ho,_⟩:=hsome a0 rfl (.inr hd);have ho:=ho hd;have hbare:=hbare hd
   have hcell':arr[a0.off+(i0*e.n+j0)]?=some h':=by simp only[World.cell?,at_,hhp]at hcell;simpa using hcell
   have hnd:=hn;rw[ho]at hnd
   have hosn:(os i0).Nodup:=by exact CB (AAg.1 hnd).2 (AAc.2 hi0)
   have hsub:∀m,m<xs.length->∀b∈os m,b∈o:=λm hm b hb=>by rw[ho];exact AAR _ (AAQ.2 ⟨m,AAc.2 hm,hb⟩)
   have hdis:∀m,m<xs.length->m≠i0->∀b∈os i0,b∉os m:=by intro m hm hne b hb hb';have h3:=(AAg.1 hnd).2;have:=CA h3 (AAc.2 hi0) (AAc.2 hm) (λe=>hne e.symm) b hb;exact this hb'
   obtain⟨fn,ys,o',hfn,hrow,hosub,hond,hback⟩:=Jn e j0 hhh hk (hel i0 hi0) hcell';obtain⟨hspot,arr2,T2,fr2,hh2,hb2,hbnd,hin,hput2⟩:=Kd hp hi (p0::ps) q' hfn hrow (hond hosn) (λb hb=>hz b (hsub i0 hi0 b (hosub b hb))) hd (.inr rfl) hs' hnav';refine⟨hspot,arr2,T2,fr2,hh2,hb2,hbnd,hsub i0 hi0 _ (hosub _ hin),λw' hput=>?_⟩;have hrow':=hput2 w' hput;have hne0:a0.block≠a.block:=λe=>(AAg.1 hnd).1 (AAQ.2 ⟨i0,AAc.2 hi0,by rw[e];exact hosub _ hin⟩);refine⟨some a0,c,AAB,ADt,.inr ⟨λqq=>arr[a0.off+qq]?,os,⟨hs0,arr,T,fr,(hput.CX _ hne0).trans hhp,hsz,λ_=>hbare,λ_=>rfl⟩,λm hm=>?_,?_⟩⟩
   ·have hm':m<xs.length:=ADl
    rw[E9];by_cases him:i0=m
    ·subst him;rw[AAT rfl];refine hback w' hrow' (λb hb hnb=>hput.CX b (λe=>hnb (e▸hin))) (λb hb hb'=>hz b (hsub i0 hi0 b (hosub b hb')) hb) hosn
    ·rw[AAU him];refine Ls.AN e (hel m hm') (λb hb=>hput.CX b ?_) λ_ hb=>hb
     rintro rfl
     rcases hb with hb|hb
     ·exact hdis m hm' (λe=>him e.symm) _ (hosub _ hin) hb
     ·exact hz _ (hsub i0 hi0 _ (hosub _ hin)) hb
   grind
  ·cases hm
end Go.Ev
namespace Go.Ev
def Gc(w:World)(fz:Nat->Prop)(g:Bool)(ls:List (L×Nat))(u:Value)(vs:List Lv)(own:Nat->It):Prop:=
 vs.map (·.l)=ls.map (·.1)/\(match g with
  |true=>∃cs:Array Value,u=.agg cs/\cs.size=ls.length
  |false=>ls.length=1)/\∀(j:Nat)(p:L×Nat)(lv:Lv),ls[j]?=some p->vs[j]?=some lv->∃y,BI g u j=some y/\lv.l.rd p.2 w fz y lv.x (own j)
def Md(w:World)(fz:Nat->Prop)(ls:List (L×Nat))(u:Value)(vs:List Lv)(blk:Nat)(own:Nat->It):Prop:=
 u=.pointer (some ⟨blk,0,none⟩)/\vs.map (·.l)=ls.map (·.1)/\∃(arr:Array Value) (T:TypeId) (fr:Nat×Nat),w.heap[blk]?=some (.cells arr T fr)/\(∀j,j<arr.size->¬(fr.1<=j/\j<fr.2))/\arr.size=ls.length/\
  ∀(j:Nat)(p:L×Nat)(lv:Lv),ls[j]?=some p->vs[j]?=some lv->∃y,arr[j]?=some y/\lv.l.rd p.2 w fz y lv.x (own j)
def Mf(w:World)(fz:Nat->Prop)(pm:PM)(u:Value)(vs:List Lv)(blk:Nat)(own:Nat->It):Prop:=match pm with
 | .val g ls=>Gc w fz g (ls.map λl=>(l,0)) u vs λ_=>[]
 | .box ls=>Md w fz ls u vs blk own
 | .row g ls=>Gc w fz g ls u vs own
 | .fn f=>u=.func (.func f) #[] #[]/\vs=[]
def JM(w:World)(fz:Nat->Prop)(pm:PM)(u:Value)(vs:List Lv)(blk:Nat)(own:Nat->It):Prop:=match pm with
 | .val _ _=>vs=[]
 | .box ls=>Md w fz ls u vs blk own
 | .row g ls=>Gc w fz g ls u vs own
 | .fn _=>vs=[]
def D4(w:World)(fz:Nat->Prop)(om:Nat->It):List (Bool×List (L×Nat))->ADb->List (List Lv)->Nat->Prop
 | [],[],[],_=>True
 |(g,ls)::rs,u::us,vs::vss,off=>Gc w fz g ls u vs (λj=>om (off+j))/\D4 w fz om rs us vss (off+ls.length)
 |_,_,_,_=>False
structure D2(ps:List PM)(w:World)(fz:Nat->Prop)(args:ADb)(vss:List (List Lv))(bk:Nat->Nat)(om:Key->It):Prop where
 len:args.length=ps.length
 Bj:vss.length=ps.length
 each:∀(i:Nat)(pm:PM)(u:Value)(vs:List Lv),ps[i]?=some pm->args[i]?=some u->vss[i]?=some vs->Mf w fz pm u vs (bk i) λj=>om (.lf i j)
 blk:∀i,om (.blk i)=match ps[i]? with
  |some (.box _)=>[bk i]
  |_=>[]
 none:∀i,(∀ls,ps[i]?≠some (.box ls))->(∀g ls,ps[i]?≠some (.row g ls))->∀j,om (.lf i j)=[]
 box:∀i ls,ps[i]?=some (.box ls)->∀j,ls.length<=j->om (.lf i j)=[]
 row:∀i g ls,ps[i]?=some (.row g ls)->∀j,ls.length<=j->om (.lf i j)=[]
 fl:∀k,om (.fl k)=[]
 nodup:∀k,(om k).Nodup
 BD:∀k k',k≠k'->∀b∈om k,b∉om k'
 own:∀k,∀b∈om k,¬fz b/\b<w.heap.size
 fz:∀b,fz b->b<w.heap.size
def KR:ADb->Value
 | [u]=>u
 |us=>.tuple us.toArray
structure FH(g:Sm)(w:World)(fz:Nat->Prop)(args:ADb)(bk:Nat->Nat)(om:Key->It)(z:g.outs.D)(r:Value)(w':World)(fz':Nat->Prop)(om':Key->It)(rv:ADb)(vsR vsP:List (List Lv)):Prop where
 outs:unpack g.outs z=vsR.flatten++vsP.flatten
 res:r=KR rv
 MN:D4 w' fz' (λk=>om' (.fl k)) g.rs rv vsR 0
 len:vsP.length=g.ps.length
 each:∀(i:Nat)(pm:PM)(u:Value)(vs:List Lv),g.ps[i]?=some pm->args[i]?=some u->vsP[i]?=some vs->JM w' fz' pm u vs (bk i) λj=>om' (.lf i j)
 blk:∀i,om' (.blk i)=om (.blk i)
 nodup:∀k,(om' k).Nodup
 BD:∀k k',k≠k'->∀b∈om' k,b∉om' k'
 own:∀k,∀b∈om' k,¬fz' b/\b<w'.heap.size/\(w.heap.size<=b\/∃k0,b∈om k0)
 fz:∀b,fz' b->b<w'.heap.size/\(fz b\/w.heap.size<=b\/∃k0,b∈om k0)
 frame:∀b,b<w.heap.size->(∀k,b∉om k)->w'.heap[b]?=w.heap[b]?
 size:w.heap.size<=w'.heap.size
 rest:w'.os=w.os/\w'.tape=w.tape/\w'.output=w.output
 kept:∀(i:Nat) (ls:List (L×Nat)) (j:Nat) (p:L×Nat),g.ps[i]?=some (.box ls)->ls[j]?=some p->p.2=3->w'.cell? ⟨bk i,j,none⟩=w.cell? ⟨bk i,j,none⟩
structure Ld(g:Sm)(w:World)(fz:Nat->Prop)(z:g.outs.D)(r:Value)(w':World)(fz':Nat->Prop)(b:Nat):Prop where
 box:Md w' fz' g.Ge r (unpack g.outs z) b λ_=>[]
 new:w.heap.size<=b/\b<w'.heap.size/\¬fz' b
 fz:∀x,fz' x->x<w'.heap.size/\(fz x\/w.heap.size<=x)
 frame:∀x,x<w.heap.size->w'.heap[x]?=w.heap[x]?
 size:w.heap.size<=w'.heap.size
 rest:w'.os=w.os/\w'.tape=w.tape/\w'.output=w.output
def Og(P:Program)(T:List (String×Array Value))(w:World)(io:Nat->Prop):Prop:=∀x∈T,w.var? P x.1=some x.2/\∃g,P.globalNamed x.1=some g/\¬io g/\g<w.heap.size
def Kt(P:Program)(T:List (String×Array Value))(f:FuncId)(g:Mb):Prop:=
 ∀(args:ADb)(w:World)(fz:Nat->Prop) (vss:List (List Lv)) (bk:Nat->Nat) (om:Key->It) (x:g.s.ins.D) (z:g.s.outs.D),Og P T w (λb=>∃k,b∈om k)->D2 g.s.ps w fz args vss bk om->pack g.s.ins vss.flatten=some x->g.f x=some z->
  Calls P f args.toArray w λen w'=>match g.s.mk? with
   |false=>∃r fz' om' rv vsR vsP,en=.returned r/\FH g.s w fz args bk om z r w' fz' om' rv vsR vsP
   |true=>∃r fz' b,en=.returned r/\Ld g.s w fz z r w' fz' b
def GB(w:World)(fz:Nat->Prop)(ls:List L)(u:Value)(vs:List Lv):Prop:=
 ∃(b:Nat) (arr:Array Value) (T:TypeId) (fr:Nat×Nat),u=.pointer (some ⟨b,0,none⟩)/\fz b/\w.heap[b]?=some (.cells arr T fr)/\arr.size=ls.length/\vs.map (·.l)=ls/\∀(j:Nat)(lv:Lv),vs[j]?=some lv->∃y,arr[j]?=some y/\lv.l.rd 0 w fz y lv.x []
def Di(w:World)(fz:Nat->Prop):List (List L)->ADb->List Lv->Prop
 | [],[],vs=>vs=[]
 |ls::bs,u::us,vs=>∃x y,vs=x++y/\GB w fz ls u x/\Di w fz bs us y
 |_,_,_=>False
def KX(w:World)(fz:Nat->Prop)(rowv:Value):J6->Value->List Lv->Prop
 | .box ls,u,vs=>GB w fz ls u vs
 | .D1 g bs,u,vs=>∃(b:Nat) (T:TypeId) (fr:Nat×Nat) (lb:Array Value),u=.pointer (some ⟨b,0,none⟩)/\fz b/\w.heap[b]?=some (.cells #[.func (.func g) #[] lb] T fr)/\Di w fz bs lb.toList vs
 | .row,u,vs=>vs=[]/\∃(b:Nat) (T:TypeId) (fr:Nat×Nat),u=.pointer (some ⟨b,0,none⟩)/\fz b/\w.heap[b]?=some (.cells #[rowv] T fr)
def D3(w:World)(fz:Nat->Prop)(rowv:Value):List J6->ADb->List Lv->Prop
 | [],[],vs=>vs=[]
 |c::cs,u::us,vs=>∃x y,vs=x++y/\KX w fz rowv c u x/\D3 w fz rowv cs us y
 |_,_,_=>False
def NQ(P:Program)(g:FuncId)(σ:Nv):Prop:=
 ∀(w:World)(fz:Nat->Prop)(us:ADb)(vs:List Lv) (y:(Ei (σ.Iq.flatMap J6.kinds)).D) (blk off n c:Nat) (G:Nat->Int),D3 w fz (.slice (some ⟨blk,off,none⟩) n c) σ.Iq us vs->pack (Ei (σ.Iq.flatMap J6.kinds)) vs=some y->
  (∀t,t<n->w.cell? ⟨blk,off+t,none⟩=some (.int .i64 (G t)))->n<=20->∀i j:Nat,i<n->j<n->∀b,σ.lt y (G i) (G j)=some b->
  Calls P g (#[.int .i64 i,.int .i64 j]++us.toArray) w λe w'=>e=.returned (.bool b)/\∃q os,w'=Go.Sort.grow (w.drewN q) os
structure Lf(P:Program)(f:FuncId)(t:TypeId):Prop where
 many:∀(α:Type) [Inhabited α] (enc:α->Value),(∀x,(enc x).oneCell'=true)->∀(lt:α->α->Bool)(g:Nat)(lb:Array Value),(∀args w,(callFunc g args).run P w=.ok (.enter g args) w)->∀(blk off c:Nat)(d:Array α),2<=d.size->d.size<=20->∀(w:World),
  (∀(m:Nat)(os:Array Obj)(dk:Array α),dk.size=d.size->∀i j:Nat,i<d.size->j<d.size->
   Calls P g (#[.int .i64 i,.int .i64 j]++lb) (Go.Sort.grow (Go.Sort.putRow enc (Go.Sort.ahead w m) blk off dk) os) λe w'=>e=.returned (.bool (lt dk[i]! dk[j]!))/\∃q os',w'=Go.Sort.grow ((Go.Sort.grow (Go.Sort.putRow enc (Go.Sort.ahead w m) blk off dk) os).drewN q) os')->
  Go.Sort.Holds enc w blk off d->blk<w.heap.size->
  Calls P f #[.iface t (.slice (some ⟨blk,off,none⟩) d.size c),.func (.func g) #[] lb] w λe w'=>e=.returned (.tuple #[])/\∃n os,w'=Go.Sort.grow (Go.Sort.putRow enc (Go.Sort.ahead w n) blk off (Go.Sort.insertionSort lt d 0 d.size)) os
 ND:∀(p:Option Addr)(n c:Nat),n<=1->∀(lf:Fn)(la lb:Array Value)(w:World),Calls P f #[.iface t (.slice p n c),.func lf la lb] w λe w'=>e=.returned (.tuple #[])/\∃os,w'=Go.Sort.grow w os
 body : ∃ (fn : Func) (c : Code), P.funcs[f]? = some fn /\ fn.body = some c /\ (fn.name == "runtime.NumGoroutine") = false
structure Lg(P:Program)(f g:FuncId)(σ:Nv):Prop where
 sort:Lf P f σ.t
 less:NQ P g σ
 enters:∀args w,(callFunc g args).run P w=.ok (.enter g args) w
def IG (P : Program) (T : List (String × Array Value)) (env : FuncId -> Option Mb) : Prop := ∀ f g, env f = some g -> Kt P T f g /\ ∃ (fn : Func) (c : Code), P.funcs[f]? = some fn /\ fn.body = some c /\ (fn.name == "runtime.NumGoroutine") = false
structure JK(P:Program)(T:List (String×Array Value))(env:Env):Prop where
 fns:IG P T env.fn
 OI:∀f g σ,env.On f g=some σ->Lg P f g σ
 NZ:Lc P env
def C7(P:Program)(E:Ci)(env:Env):Prop:=JK P E.NC env/\∀x∈E.NC,E.w0.var? P x.1=some x.2/\∃g,P.globalNamed x.1=some g/\¬E.io g/\g<E.base
theorem C7.Oj{P:Program}{E:Ci}{env:Env}(h:C7 P E env){W:Wd}(hs:Sep E W){om:Key->It}(ho:∀k,∀b∈om k,∃k',b∈W.om k'):Og P E.NC W.w (λb=>∃k,b∈om k):=by
 intro x hx;obtain⟨h1,g,h2,h3,h4⟩:=h.2 x hx;have hg:W.w.heap[g]?=E.w0.heap[g]?:=hs.frame g h4 h3;refine⟨?_,g,h2,?_,by have:=hs.size;omega⟩
 ·unfold World.var? at h1 ⊢;grind
 ·rintro ⟨k,hb⟩
  obtain⟨k',hb⟩:=ho k g hb;rcases(hs.own k' g hb).2.2 with h5|h5
  all_goals grind
section
variable {P:Program}{E:Ci}{s s':St}{W W':Wd}{v:Nat}{tm:Array Value}
theorem AW.L6(h:AW E s tm W)(hv:Ai s v)(hsame:JO s s')(chk:Nat->Nat->Prop)(chb:Nat->Prop)
  (hl:∀r j,¬chk r j->s'.leaf r j=s.leaf r j) (hcv:∀r,¬chb r->∀j,W'.cv r j=W.cv r j) (hcb:∀r j,chb r->chk r j) (hbk:∀r,W'.bk r=W.bk r)
  (hom:∀r j,¬chk r j->W'.om (.lf r j)=W.om (.lf r j)) (homb:∀r,W'.om (.blk r)=W.om (.blk r))
  (hw:∀b,(W.fz b\/(∃r,¬chb r/\b∈W.om (.blk r))\/∃r j,¬chk r j/\b∈W.om (.lf r j))->W'.w.heap[b]?=W.w.heap[b]?) (hfz:∀b,W.fz b->W'.fz b)
  (AAA:∀(r j AB gen:Nat)(t:TypeId)(e:Ls)(xs:List e.D)(d:Nat),chk r j->s'.leaf r j=.arr AB gen t e xs d->AB≠v->W'.cv r j=W.cv r j/\∃gen0 t0 xs0 d0,s.leaf r j=.arr AB gen0 t0 e xs0 d0/\(gen≠v->gen=gen0/\W'.w=W.w))
  (hsep:Sep E W') (hok:Ef v s s' W W'->∀r j,chk r j->Aa s' W' (s'.leaf r j) (W'.cv r j) (W'.om (.lf r j)))
  (hbox:∀r,chb r->(s.root r).box=true->∃(arr:Array Value) (T:TypeId) (fr:Nat×Nat),W'.w.heap[W.bk r]?=some (.cells arr T fr)/\(∀j,j<arr.size->¬(fr.1<=j/\j<fr.2))/\arr.size=(s.root r).ls.length/\∀j,W'.cv r j=arr[j]?):AW E s' tm W':=by
 have hturn:Ef v s s' W W':={
  fz:=hfz
  Lb:=λb hb=>hw b (.inl hb)
  leaf:=by
   intro r j AB gen t e xs d hlf hne;by_cases hc:chk r j
   ·grind
   ·rw[hl r j hc]at hlf;refine⟨hcv r (λhb=>hc (hcb r j hb)) j,gen,t,xs,d,hlf,λ_=>⟨rfl,λp h' e' u' hc' hn=>?_⟩⟩;obtain⟨u0,hu0,hrd⟩:=(h.roots r).row hlf;rw[hc']at hu0;injection hu0 with hu0;subst hu0
    exact BN p hrd hn λb hb=>hw b (hb.elim (λhb=>.inr (.inr ⟨r,j,hc,hb⟩)) .inl)
  box:=λr hb hne=>⟨(hsame.box r).1▸hb,(hsame.box r).2.1.symm,hbk r⟩ }
 refine h.ID hv hturn hsep (by rw[hsame.sl,h.DT]) (by rw[hsame.len,h.Bj]) (λt=>.inl ⟨by show nth _ s'.sl t=_;rw[hsame.sl];rfl,rfl⟩) ?_;intro r;obtain⟨h1,h2⟩:=h.roots r;refine⟨λj=>?_,?_⟩
 ·show Aa s' W' (s'.leaf r j) (W'.cv r j) (W'.om (.lf r j));by_cases hc:chk r j
  ·grind
  ·rw[hl r j hc,hcv r (λhb=>hc (hcb r j hb)) j,hom r j hc];exact Aa.Dg hturn (LA.Ee hv r j) (λb hb=>hw b (.inr (.inr ⟨r,j,hc,hb⟩))) (h1 j)
 ·rw[(hsame.box r).1,homb,hbk];split
  ·rename_i hb;rw[AAT hb]at h2;obtain⟨ho',arr',T',fr',hh',a1,a2,a3⟩:=h2;refine⟨ho',?_⟩;by_cases hc:chb r
   ·obtain⟨arr,T,fr,q1,q2,q3,q4⟩:=hbox r hc hb;exact⟨arr,T,fr,q1,q2,by rw[q3,(hsame.box r).2.2],q4⟩
   ·exact⟨arr',T',fr',(hw _ (.inr (.inl ⟨r,hc,by rw[ho'];simp⟩))).trans hh',a1,by rw[(hsame.box r).2.2];exact a2,λj=>(hcv r hc j).trans (a3 j)⟩
  grind
structure Up where
 r:Nat
 lo:Nat
 news:List LA
def ER(us:List Up):List Wr:=us.flatMap λu=>A5 u.r u.lo u.news
theorem H6:∀(us:List Up)(s:St),(∀u∈us,(u.news=[]\/u.r<s.ro.length)/\u.lo+u.news.length<=(s.root u.r).ls.length)->JO s (s.app (ER us))/\
  ∀r j,(s.app (ER us)).leaf r j=us.foldl (λa u=>if r=u.r/\u.lo<=j/\j<u.lo+u.news.length then nth .bad u.news (j-u.lo)else a) (s.leaf r j)
 | [],s,h=>⟨⟨rfl,rfl,λ_=>⟨rfl,rfl,rfl⟩⟩,λr j=>rfl⟩
 |u::us,s,h=>by
  obtain⟨hr,hf⟩:=h u AAB;obtain⟨h1,h2⟩:=Du u.r u.news u.lo s hr hf
  obtain⟨h3,h4⟩:=H6 us (s.app (A5 u.r u.lo u.news)) λx hx=>by
   obtain⟨q1,q2⟩:=h x (AAR _ hx);exact⟨by rw[h1.len];exact q1,by rw[(h1.box x.r).2.2];exact q2⟩
  have he:s.app (ER (u::us))=(s.app (A5 u.r u.lo u.news)).app (ER us):=by show s.app (A5 u.r u.lo u.news++ER us)=_;rw[Ay]
  rw[he];refine⟨⟨h3.sl.trans h1.sl,h3.len.trans h1.len,λx=>⟨(h3.box x).1.trans (h1.box x).1,(h3.box x).2.1.trans (h1.box x).2.1,(h3.box x).2.2.trans (h1.box x).2.2⟩⟩,λr j=>?_⟩;grind
end
end Go.Ev
namespace Go.Ev
theorem Bw.uniq{α:Type}{n:Nat}{R R':(Nat->Option Value)->α->It->Prop}{own:Bool}{w:World}{fz fz':Nat->Prop}{v:Value}{xs xs':List α}{o o':It}
  (h:Bw n R own w fz v xs o) (h':Bw n R' own w fz' v xs' o') (hr:∀g x y p q,R g x p->R' g y q->x=y/\p=q):xs=xs'/\o=o':=by
 obtain⟨A,c,hv,hc,h⟩:=h;obtain⟨A',c',hv',hc',h'⟩:=h';rw[hv]at hv';injection hv' with e1 e2 e3
 subst e1;subst e3;cases A with
 |none=>
  have z1:xs=[]:=AAV (by have:=h.1;omega);grind
 |some a=>
  by_cases hc0:c=0
  ·have z1:xs=[]:=AAV J;have z2:xs'=[]:=AAV J;subst z1;subst z2;refine⟨rfl,?_⟩;cases own with
   |true=>
    grind
   |false=>
    grind
  ·rcases h with⟨_,h,_⟩|⟨g,os,hrow,hel,ho⟩
   ·omega
   rcases h' with⟨_,h,_⟩|⟨g',os',hrow',hel',ho'⟩
   ·omega
   have hgg:g=g':=by funext j;rw[<-hrow.cell j,<-hrow'.cell j]
   subst hgg;have hlen:xs.length=xs'.length:=e2;have hel2:∀i (h1:i<xs.length) (h2:i<xs'.length),xs[i]=xs'[i]/\os i=os' i:=λi h1 h2=>hr _ _ _ _ _ (hel i h1) (hel' i h2);have hxs:xs=xs':=List.ext_getElem hlen λi h1 h2=>(hel2 i h1 h2).1;refine⟨hxs,?_⟩;cases own with
   |true=>
    have ho:o=a.block::(List.range xs.length).flatMap os:=ho;have ho':o'=a.block::(List.range xs'.length).flatMap os':=ho';rw[ho,ho',<-hlen];congr 1
    have:∀(l:It),(∀i∈l,i<xs.length)->l.flatMap os=l.flatMap os':=by
     intro l
     induction l with
     |nil=>intro _;rfl
     |cons i l ih=>
      intro hi;rw[AAr,AAr,ih λk hk=>hi k (AAR _ hk),(hel2 i (hi i AAp) (hlen▸hi i AAp)).2]
    grind
   |false=>grind
mutual
theorem L.Ea:∀(l:L) {d:Nat} {w:World} {fz fz':Nat->Prop} {v:Value} {x y:l.D} {o p:It},l.rd d w fz v x o->l.rd d w fz' v y p->x=y/\o=p
 | .int _,_,_,_,_,_,_,_,_,_,h,h'=>by
  have:=h.1.symm.trans h'.1;injection this with _ e
  exact⟨e,h.2.trans h'.2.symm⟩
 | .bool,_,_,_,_,_,_,_,_,_,h,h'=>by
  have:=h.1.symm.trans h'.1;injection this with e
  exact⟨e,h.2.trans h'.2.symm⟩
 | .str,_,_,_,_,_,x,y,_,_,h,h'=>by
  have:=h.1.symm.trans h'.1;injection this with e
  have e2:List.toArray (show ADc from x)=List.toArray (show ADc from y):=by injection e
  have e3:(show ADc from x)=(show ADc from y):=by have:=congrArg Array.toList e2;simpa using this
  exact⟨e3,h.2.trans h'.2.symm⟩
 | .sl _ e,d,w,fz,fz',v,x,y,o,p,h,h'=>by rw[L.Ig]at h h';exact Bw.uniq h h' λg a b q r h1 h2=>Ls.Ea e h1 h2
theorem Ls.Ea:∀(ls:Ls) {d:Nat} {w:World} {fz fz':Nat->Prop} {g:Nat->Option Value} {x y:ls.D} {o p:It},ls.rd d w fz g x o->ls.rd d w fz' g y p->x=y/\o=p
 | .nil,_,_,_,_,_,x,y,_,_,h,h'=>⟨by cases x;cases y;rfl,by rw[show _=_ from h,show _=_ from h']⟩
 | .one l,_,_,_,_,_,_,_,_,_,h,h'=>by
  simp only[Ls.rd]at h h';obtain⟨v,hv,h⟩:=h;obtain⟨v',hv',h'⟩:=h';rw[hv]at hv';injection hv' with hv';subst hv'
  exact L.Ea l h h'
 | .cons l ls,_,_,_,_,_,x,y,_,_,h,h'=>by
  simp only[Ls.rd]at h h';obtain⟨v,o1,o2,hv,h1,h2,rfl⟩:=h;obtain⟨v',p1,p2,hv',h1',h2',rfl⟩:=h';rw[hv]at hv';injection hv' with hv';subst hv'
  obtain⟨a1,a2⟩:=L.Ea l h1 h1';obtain⟨b1,b2⟩:=Ls.Ea ls h2 h2';exact⟨Prod.ext a1 b1,by rw[a2,b2]⟩
end
theorem AE.uniq{e:Ls}{d:Nat}{w:World}{fz fz':Nat->Prop}{v:Value}{xs ys:List e.D}{o p:It}(h:AE e d w fz v xs o)(h':AE e d w fz' v ys p):xs=ys/\o=p:=
 L.Ea (.sl 0 e) h h'
def NO(o p o' q:It):Prop:=q.Nodup/\∀b∈q,b∈o'\/(b∈o/\b∉p)
structure NI(w w':World)(fz fz':Nat->Prop)(o p o':It):Prop where
 nd:o'.Nodup
 new:∀b∈o',b∈o->b∈p
 rest:∀b,(b∈o/\b∉p)\/fz b->w'.heap[b]?=w.heap[b]?
 fz:∀b,fz b->fz' b
theorem Hf{G:(t:TypeId)->(f:Ls)->Option (List f.D->List f.D)}{d:Nat}{w:World}{fz:Nat->Prop}:∀(e:Ls)(j:Nat) {F:e.D->e.D} {g:Nat->Option Value} {x:e.D} {o:It} {t:TypeId} {f:Ls} {h:Value},
  EH e j G=some F->e.kinds[j]?=some (.sl t f)->e.rd d w fz g x o->g j=some h->o.Nodup->
  ∃fn ys p,G t f=some fn/\AE f d w fz h ys p/\(∀b∈p,b∈o)/\p.Nodup/\∀w' fz' o',AE f d w' fz' h (fn ys) o'->NI w w' fz fz' o p o'->∃q,e.rd d w' fz' g (F x) q/\NO o p o' q
 | .nil,j,F,g,x,o,t,f,h,hm,hk,hr,hg,hn=>by simp[Ls.kinds]at hk
 | .one l,j+1,F,g,x,o,t,f,h,hm,hk,hr,hg,hn=>by simp[Ls.kinds]at hk
 | .one l,0,F,g,x,o,t,f,h,hm,hk,hr,hg,hn=>by
  simp[Ls.kinds]at hk;subst hk;simp only[Ls.rd]at hr;obtain⟨v,hv,hr⟩:=hr;rw[hg]at hv;injection hv with hv;subst hv
  simp only[EH]at hm;exact⟨F,x,o,hm,hr,λb hb=>hb,hn,λw' fz' o' hr' hs=>⟨o',⟨h,hg,hr'⟩,hs.nd,λb hb=>.inl hb⟩⟩
 | .cons l ls,0,F,g,x,o,t,f,h,hm,hk,hr,hg,hn=>by
  simp[Ls.kinds]at hk;subst hk;simp only[Ls.rd]at hr;obtain⟨v,o1,o2,hv,hr,hr2,rfl⟩:=hr;rw[hg]at hv;injection hv with hv;subst hv
  simp only[EH]at hm;split at hm
  ·rename_i fn hfn;injection hm with hm;subst hm
   obtain⟨n1,n2,n3⟩:=AAd.1 hn;refine⟨fn,x.1,o1,hfn,hr,λb hb=>AAZ _ hb,n1,λw' fz' o' hr' hs=>⟨o'++o2,⟨h,o',o2,hg,hr',?_,rfl⟩,?_,?_⟩⟩
   ·exact Ls.AN ls hr2 (λb hb=>hs.rest b (hb.imp (λhb=>⟨AAW _ hb,λhb'=>n3 b hb' b hb rfl⟩) id)) hs.fz
   ·refine AAd.2 ⟨hs.nd,n2,λb hb c hc e=>?_⟩;subst e;exact n3 b (hs.new b hb (AAW _ hc)) b hc rfl
   grind
  ·cases hm
 | .cons l ls,j+1,F,g,x,o,t,f,h,hm,hk,hr,hg,hn=>by
  simp only[Ls.rd]at hr;obtain⟨v,o1,o2,hv,hr,hr2,rfl⟩:=hr;simp only[EH]at hm;split at hm
  ·rename_i F2 hF;injection hm with hm;subst hm
   obtain⟨n1,n2,n3⟩:=AAd.1 hn;obtain⟨fn,ys,p,h1,h2,h3,h4,h5⟩:=Hf ls j (g:=λj=>g (j+1)) hF (by simpa[Ls.kinds]using hk) hr2 hg n2;refine⟨fn,ys,p,h1,h2,λb hb=>AAW _ (h3 b hb),h4,λw' fz' o' hr' hs=>?_⟩;obtain⟨q,hq,hq1,hq2⟩:=h5 w' fz' o' hr' ⟨hs.nd,λb hb hb'=>hs.new b hb (AAW _ hb'),λb hb=>hs.rest b (hb.imp (λhb=>⟨AAW _ hb.1,hb.2⟩) id),hs.fz⟩;have hno:∀b∈o1,b∉p:=λb hb hp=>n3 b hb b (h3 b hp) rfl;refine⟨o1++q,⟨v,o1,q,hv,?_,hq,rfl⟩,?_,?_⟩
   ·exact L.AN l hr (λb hb=>hs.rest b (hb.imp (λhb=>⟨AAZ _ hb,hno b hb⟩) id)) hs.fz
   ·refine AAd.2 ⟨n1,hq1,λb hb c hc e=>?_⟩;subst e;rcases hq2 b hc with h6|h6
    ·exact hno b hb (hs.new b h6 (AAZ _ hb))
    ·exact n3 b hb b h6.1 rfl
   grind
  ·cases hm
theorem E3{os:Nat->It}:∀ {l:It},l.Nodup->(∀i∈l,(os i).Nodup)->(∀i∈l,∀j∈l,i≠j->∀b∈os i,b∉os j)->(l.flatMap os).Nodup
 | [],_,_,_=>AAB
 |x::l,h,h1,h2=>by obtain⟨hx,hl⟩:=AAg.1 h;rw[AAr];refine AAd.2 ⟨h1 x AAp,E3 hl (λi hi=>h1 i (AAR _ hi)) (λi hi j hj=>h2 i (AAR _ hi) j (AAR _ hj)),λb hb c hc e=>?_⟩;grind
theorem OC{G:(t:TypeId)->(f:Ls)->Option (List f.D->List f.D)}{w:World}{fz:Nat->Prop}:∀(p:List (Nat×Nat)) {t:TypeId} {e:Ls} {d:Nat} {h:Value} {xs:List e.D} {o:It} {e':Ls} {v:Value} {F:List e.D->List e.D},
  Jm G p t e=some F->AE e d w fz h xs o->JI w p e h e' v->(p≠[]->d=2)->o.Nodup->
  ∃t' fn ys po,G t' e'=some fn/\AE e' d w fz v ys po/\(∀b∈po,b∈o)/\po.Nodup/\∀w' fz' o',AE e' d w' fz' v (fn ys) o'->NI w w' fz fz' o po o'->∃q,AE e d w' fz' h (F xs) q/\NO o po o' q
 | [],t,e,d,h,xs,o,e',v,F,hm,hr,hn,hp,hnd=>by obtain⟨rfl,rfl⟩:=hn;exact⟨t,F,xs,o,hm,hr,λb hb=>hb,hnd,λw' fz' o' hr' hs=>⟨o',hr',hs.nd,λb hb=>.inl hb⟩⟩
 |(i,j)::p,t,e,d,h,xs,o,e',v,F,hm,hr,hn,hp,hnd=>by
  have hd:d=2:=hp AAB;subst hd;obtain⟨a,len,c,t',f,h',rfl,hs,hi,hk,hc,hn⟩:=hn;obtain⟨A,cc,hv,hle,hrr⟩:=hr;injection hv with hA hl hcc
  subst hA;subst hl;subst hcc;rcases hrr with⟨h0,_⟩|⟨g,os,hrow,hel,ho⟩
  ·simp at h0
  have ho:o=a.block::(List.range xs.length).flatMap os:=ho;have hel:∀i (h:i<xs.length),e.rd 2 w fz (λj=>g (i*e.n+j)) xs[i] (os i):=hel;simp only[Jm]at hm;split at hm
  ·rename_i H hH;injection hm with hm;subst hm
   rw[ho]at hnd;obtain⟨nb,nf⟩:=AAg.1 hnd;have hone:∀m,m<xs.length->(os m).Nodup:=λm hm=>CB nf (AAc.2 hm);have hdis:∀m,m<xs.length->∀k,k<xs.length->m≠k->∀b∈os m,b∉os k:=λm hm k hk hne=>CA nf (AAc.2 hm) (AAc.2 hk) hne;have hblk:∀m,m<xs.length->a.block∉os m:=λm hm hb=>nb (AAQ.2 ⟨m,AAc.2 hm,hb⟩);have hg:g (i*e.n+j)=some h':=by rw[<-hrow.cell];exact hc
   obtain⟨fn,ys,po,h1,h2,h3,h4,h5⟩:=Hf e j hH hk (hel i hi) hg (hone i hi);obtain⟨t2,fn2,zs,po2,g1,g2,g3,g4,g5⟩:=OC p h1 h2 hn (λ_=>rfl) h4;have hin:∀m,m<xs.length->∀b∈os m,b∈o:=λm hm b hb=>by rw[ho];exact AAR _ (AAQ.2 ⟨m,AAc.2 hm,hb⟩)
   refine⟨t2,fn2,zs,po2,g1,g2,λb hb=>hin i hi b (h3 b (g3 b hb)),g4,λw' fz' o' hr' hst=>?_⟩;obtain⟨q1,hq1,hb1,hb1'⟩:=g5 w' fz' o' hr' ⟨hst.nd,λb hb hb'=>hst.new b hb (hin i hi b (h3 b hb')),λb hb=>hst.rest b (hb.imp (λhb=>⟨hin i hi b (h3 b hb.1),hb.2⟩) id),hst.fz⟩;have hpo2:∀b∈po2,b∈os i:=λb hb=>h3 b (g3 b hb)
   obtain⟨q2,hq2,hb2,hb2'⟩:=h5 w' fz' q1 hq1 ⟨hb1,λb hb hb'=>by
     rcases hb1' b hb with h6|h6
     ·exact g3 b (hst.new b h6 (hin i hi b hb'))
     ·exact h6.1,λb hb=>hst.rest b (hb.imp (λhb=>⟨hin i hi b hb.1,λh7=>hb.2 (g3 b h7)⟩) id),hst.fz⟩
   have hq2o:∀b∈q2,b∈o'\/(b∈os i/\b∉po2):=by
    intro b hb;rcases hb2' b hb with h6|h6
    ·rcases hb1' b h6 with h7|h7
     ·exact .inl h7
     ·exact .inr ⟨h3 b h7.1,h7.2⟩
    ·exact .inr ⟨h6.1,λh7=>h6.2 (g3 b h7)⟩
   let os':Nat->It:=λm=>if m=i then q2 else os m
   have hrow':Row w' a (c*e.n) true g:=hrow.frame (hst.rest _ (.inl ⟨by rw[ho];simp,λh7=>hblk i hi (hpo2 _ h7)⟩));have hlen:(xs.modify i H).length=xs.length:=AAB
   refine⟨a.block::(List.range xs.length).flatMap os',⟨some a,c,AAB,by simpa using hle,.inr ⟨g,os',hrow',λm hm=>?_,?_⟩⟩,?_,?_⟩
   ·have hm':m<xs.length:=ADl
    show e.rd 2 w' fz' _ (xs.modify i H)[m] (os' m);rw[List.getElem_modify];by_cases him:i=m
    ·subst him;rw[AAT rfl,show os' i=q2 from AAT rfl];exact hq2
    ·rw[AAU him,show os' m=os m from AAU λe=>him e.symm];exact Ls.AN e (hel m hm') (λb hb=>hst.rest b (hb.imp (λhb=>⟨hin m hm' b hb,λh7=>hdis m hm' i hi (λe=>him e.symm) b hb (hpo2 b h7)⟩) id)) hst.fz
   ·show a.block::(List.range xs.length).flatMap os'=a.block::(List.range (xs.modify i H).length).flatMap os';rw[hlen]
   ·refine AAg.2 ⟨λhb=>?_,E3 List.nodup_range (λm hm=>?_) (λm hm k hk hne b hb hb'=>?_)⟩
    ·obtain⟨m,hm,hb⟩:=AAQ.1 hb;have hm:=AAc.1 hm;by_cases him:m=i
     ·subst him;rw[show os' m=q2 from AAT rfl]at hb;rcases hq2o _ hb with h6|h6
      ·exact hblk m hm (hpo2 _ (hst.new _ h6 (by rw[ho];simp)))
      ·exact hblk m hm h6.1
     ·rw[show os' m=os m from AAU him]at hb;exact hblk m hm hb
    ·have hm:=AAc.1 hm;by_cases him:m=i
     ·rw[show os' m=q2 from AAT him];exact hb2
     ·rw[show os' m=os m from AAU him];exact hone m hm
    ·have hm:=AAc.1 hm;have hk:=AAc.1 hk;by_cases him:m=i
     ·have hki:k≠i:=λe=>hne (him.trans e.symm);rw[show os' m=q2 from AAT him]at hb;rw[show os' k=os k from AAU hki]at hb';rcases hq2o b hb with h6|h6
      ·exact hdis k hk i hi hki b hb' (hpo2 b (hst.new b h6 (hin k hk b hb')))
      ·exact hdis k hk i hi hki b hb' h6.1
     ·rw[show os' m=os m from AAU him]at hb;by_cases hki:k=i
      ·rw[show os' k=q2 from AAT hki]at hb';rcases hq2o b hb' with h6|h6
       ·exact hdis m hm i hi him b hb (hpo2 b (hst.new b h6 (hin m hm b hb)))
       ·exact hdis m hm i hi him b hb h6.1
      ·rw[show os' k=os k from AAU hki]at hb';exact hdis m hm k hk hne b hb hb'
   grind
  ·cases hm
theorem IV{β:Type}{d:Nat}{w:World}{fz:Nat->Prop}{k:(t:TypeId)->(f:Ls)->List f.D->Step β}{t:β}:∀(e:Ls)(j:Nat) {g:Nat->Option Value} {x:e.D} {o:It} {t':TypeId} {f:Ls} {h:Value},
  (I1 e j x k).leads t->e.rd d w fz g x o->e.kinds[j]?=some (.sl t' f)->g j=some h->o.Nodup->∃(ys:List f.D) (o':It),(k t' f ys).leads t/\AE f d w fz h ys o'/\(∀b∈o',b∈o)/\o'.Nodup
 | .nil,j,_,_,_,_,_,_,hl,_,_,_,_=>hl.elim
 | .one l,0,g,x,o,t',f,h,hl,hr,hk,hg,hn=>by
  simp only[Ls.rd]at hr;obtain⟨v,hv,hr⟩:=hr;simp[Ls.kinds]at hk;subst hk;rw[hg]at hv;injection hv with hv;subst hv
  exact⟨x,o,hl,hr,λb hb=>hb,hn⟩
 | .one _,_+1,_,_,_,_,_,_,hl,_,_,_,_=>hl.elim
 | .cons l ls,0,g,x,o,t',f,h,hl,hr,hk,hg,hn=>by
  simp only[Ls.rd]at hr;obtain⟨v,o1,o2,hv,hr,hr2,rfl⟩:=hr;simp[Ls.kinds]at hk;subst hk;rw[hg]at hv;injection hv with hv;subst hv
  exact⟨x.1,o1,hl,hr,λb hb=>AAZ _ hb,(AAd.1 hn).1⟩
 | .cons l ls,j+1,g,x,o,t',f,h,hl,hr,hk,hg,hn=>by simp only[Ls.rd]at hr;obtain⟨v,o1,o2,hv,hr,hr2,rfl⟩:=hr;obtain⟨ys,o',a,b,c,d⟩:=IV ls j (g:=λj=>g (j+1)) hl hr2 (by simpa[Ls.kinds]using hk) hg (AAd.1 hn).2.1;grind
theorem Jh{β:Type}{w:World}{fz:Nat->Prop}{k:(t:TypeId)->(e:Ls)->List e.D->Nat->Step β}{z:β}:∀(p:List (Nat×Nat)) {t0:TypeId} {e:Ls} {xs:List e.D} {d:Nat} {h:Value} {o:It} {e':Ls} {v:Value},
  (N8 k p t0 e xs d).leads z->AE e d w fz h xs o->JI w p e h e' v->(p≠[]->d=2)->o.Nodup->∃(t':TypeId) (ys:List e'.D) (o':It),(k t' e' ys d).leads z/\AE e' d w fz v ys o'/\(∀b∈o',b∈o)/\o'.Nodup
 | [],t0,e,xs,d,h,o,e',v,hl,hr,hn,hp,hnd=>by obtain⟨rfl,rfl⟩:=hn;exact⟨t0,xs,o,hl,hr,λb hb=>hb,hnd⟩
 |(i,j)::p,t0,e,xs,d,h,o,e',v,hl,hr,hn,hp,hnd=>by
  have hd:d=2:=hp AAB;subst hd;obtain⟨a,len,c,t',f,h',rfl,hs,hi,hk,hc,hn⟩:=hn;obtain⟨A,cc,hv,hle,hrr⟩:=hr;injection hv with hA hl' hcc
  subst hA;subst hl';subst hcc;rcases hrr with⟨h0,_⟩|⟨g,os,hrow,hel,ho⟩
  ·simp at h0
  have ho:o=a.block::(List.range xs.length).flatMap os:=ho;have hel:∀i (h:i<xs.length),e.rd 2 w fz (λj=>g (i*e.n+j)) xs[i] (os i):=hel;obtain⟨x,hx,hl⟩:=hl;rw[AAN hi]at hx;injection hx with hx;subst hx
  have hg:g (i*e.n+j)=some h':=by rw[<-hrow.cell];exact hc
  rw[ho]at hnd;obtain⟨nb,nf⟩:=AAg.1 hnd;obtain⟨ys,o',hl,hrd,hsub,hnd'⟩:=IV e j hl (hel i hi) hk hg (CB nf (AAc.2 hi));obtain⟨t2,zs,o2,hl,hz,hs2,hn2⟩:=Jh p hl hrd hn (λ_=>rfl) hnd';exact⟨t2,zs,o2,hl,hz,λb hb=>No,hn2⟩
end Go.Ev
namespace Go.Ev
def GD(ovs:Nat->It)(o:It):Prop:=(∀m,(ovs m).Nodup)/\(∀m m',m≠m'->∀b∈ovs m,b∉ovs m')/\∀m,∀b∈ovs m,b∉o
theorem GD.sub{ovs:Nat->It}{o o':It}(h:GD ovs o)(hs:∀b∈o',b∈o):GD ovs o':=⟨h.1,h.2.1,λm b hb hb'=>h.2.2 m b hb (hs b hb')⟩
theorem Cl{w:World}{fz:Nat->Prop}{d:Nat}{ovs:Nat->It}:∀(e:Ls)(off:Nat)(vs:List Lv)(cells:ADb)(sh:Nat) {f:e.D->e.D} {g g':Nat->Option Value} {x:e.D} {o:It},Be e off vs=some f->cells.length=vs.length->
  (∀(m:Nat)(lv:Lv),vs[m]?=some lv->∃u,cells[m]?=some u/\lv.l.rd d w fz u lv.x (ovs (sh+m)))->e.rd d w fz g x o->(∀m,m<e.n->g' m=if off<=m/\m<off+vs.length then cells[m-off]? else g m)->
  off+vs.length<=e.n/\∃o',e.rd d w fz g' (f x) o'/\(∀b∈o',b∈o\/∃m,sh<=m/\b∈ovs m)/\(o.Nodup->GD ovs o->o'.Nodup)
 | .nil,off,vs,cells,sh,f,g,g',x,o,hf,hl,hp,hr,hg=>by simp[Be]at hf
 | .one l,off,vs,cells,sh,f,g,g',x,o,hf,hl,hp,hr,hg=>by
  simp only[Be]at hf;split at hf
  ·rename_i v;split at hf
   ·rename_i y hy;injection hf with hf;subst hf
    obtain⟨l',z⟩:=v;obtain⟨e1,e2⟩:=L.AH hy;dsimp only at e1;subst e1;have e2:z=y:=e2;subst e2;obtain⟨u,hu,hu'⟩:=hp 0 ⟨l',z⟩ rfl;refine⟨by simp[Ls.n],ovs sh,?_,λb hb=>.inr ⟨sh,AAi _,hb⟩,λ_ hn=>hn.1 sh⟩;simp only[Ls.rd];refine⟨u,?_,J⟩;rw[hg 0 (by simp[Ls.n]),AAT AAB,<-hu]
   ·cases hf
  ·cases hf
 | .cons l ls,off,vs,cells,sh,f,g,g',x,o,hf,hl,hp,hr,hg=>by
  simp only[Be]at hf;simp only[Ls.rd]at hr;obtain⟨v0,o1,o2,hv0,h1,h2,rfl⟩:=hr;cases off with
  |zero=>
   simp only at hf;split at hf
   ·cases hf
   ·rename_i v;split at hf
    ·rename_i y hy;injection hf with hf;subst hf
     obtain⟨l',z⟩:=v;obtain⟨e1,e2⟩:=L.AH hy;dsimp only at e1;subst e1;have e2:z=y:=e2;subst e2;obtain⟨u,hu,hu'⟩:=hp 0 ⟨l',z⟩ rfl;refine⟨by simp[Ls.n]<;>omega,ovs sh++o2,?_,λb hb=>?_,λhn hk=>?_⟩
     ·simp only[Ls.rd];refine⟨u,ovs sh,o2,?_,J,Ls.BP ls h2 λj hj=>by rw[hg (j+1) (by simp[Ls.n]<;>omega),AAU AAB],rfl⟩;rw[hg 0 (by simp[Ls.n]<;>omega),AAT AAB,<-hu]
     ·grind
     ·refine AAd.2 ⟨hk.1 sh,(AAd.1 hn).2.1,λa ha b hb e=>?_⟩;subst e;exact hk.2.2 sh a ha (AAW _ hb)
    ·cases hf
   ·rename_i v u0 vs';split at hf
    ·rename_i y f' hy hf';injection hf with hf;subst hf
     obtain⟨l',z⟩:=v;obtain⟨e1,e2⟩:=L.AH hy;dsimp only at e1;subst e1;have e2:z=y:=e2;subst e2;obtain⟨u,hu,hu'⟩:=hp 0 ⟨l',z⟩ rfl
     obtain⟨c0,cs,rfl⟩:∃c0 cs,cells=c0::cs:=by
      cases cells with
      |nil=>simp at hl
      |cons c cs=>grind
     obtain⟨ih1,o',ih2,ih3,ih4⟩:=Cl ls 0 (u0::vs') cs (sh+1) (g':=λj=>g' (j+1)) hf' No (λm lv hm=>by
       have:=hp (m+1) lv No;rw[show sh+(m+1)=sh+1+m by omega]at this;simpa using this) h2 (λm hm=>by
       rw[hg (m+1) (by simp[Ls.n]<;>omega)];grind)
     refine⟨by simp[Ls.n]at ih1 ⊢ <;> omega,ovs sh++o',?_,λb hb=>?_,λhn hk=>?_⟩
     ·simp only[Ls.rd];refine⟨u,ovs sh,o',?_,J,ih2,rfl⟩;rw[hg 0 (by simp[Ls.n]<;>omega),AAT AAB,<-hu]
     ·grind
     ·refine AAd.2 ⟨hk.1 sh,ih4 (AAd.1 hn).2.1 (hk.sub λb hb=>AAW _ hb),λa ha b hb e=>?_⟩;subst e;rcases ih3 a hb with hb|⟨m,hm,hb⟩
      ·exact hk.2.2 sh a ha (AAW _ hb)
      ·exact hk.2.1 sh m J a ha hb
    ·cases hf
  |succ off=>
   simp only at hf;split at hf
   ·rename_i f' hf';injection hf with hf;subst hf
    obtain⟨ih1,o',ih2,ih3,ih4⟩:=Cl ls off vs cells sh (g':=λj=>g' (j+1)) hf' hl hp h2 (λm hm=>by
     rw[hg (m+1) (by simp[Ls.n]<;>omega)];grind)
    refine⟨by simp[Ls.n]<;>omega,o1++o',?_,λb hb=>?_,λhn hk=>?_⟩
    ·simp only[Ls.rd];refine⟨v0,o1,o',?_,h1,ih2,rfl⟩;rw[hg 0 (by simp[Ls.n]<;>omega),AAU J];exact hv0
    ·grind
    ·refine AAd.2 ⟨(AAd.1 hn).1,ih4 (AAd.1 hn).2.1 (hk.sub λb hb=>AAW _ hb),λa ha b hb e=>?_⟩;subst e;rcases ih3 a hb with hb|⟨m,_,hb⟩
     ·grind
     ·exact hk.2.2 m a hb (AAZ _ ha)
   ·cases hf
theorem Kj{e:Ls}{w:World}{fz:Nat->Prop}{a:Addr}{n k:Nat}{xs:List e.D}{o:It}(hr:AE e 2 w fz (.slice (some a) n k) xs o)(hn:o.Nodup)(hz:∀b∈o,¬fz b){i:Nat}(hi:i<n)
  {off:Nat} {cells:ADb} {F:e.D->e.D} {ovs:Nat->It} (hk:GD ovs o) (hkz:∀m,∀b∈ovs m,¬fz b) (hfit:off+cells.length<=e.n)
  (hF:∀g g' x oo,e.rd 2 w fz g x oo->(∀m,m<e.n->g' m=if off<=m/\m<off+cells.length then cells[m-off]? else g m)->∃o',e.rd 2 w fz g' (F x) o'/\(∀b∈o',b∈oo\/∃m,b∈ovs m)/\(oo.Nodup->GD ovs oo->o'.Nodup)):
  a.spot=none/\∃arr T fr,w.heap[a.block]?=some (.cells arr T fr)/\(∀j,j<arr.size->¬(fr.1<=j/\j<fr.2))/\a.off+(i*e.n+off)+cells.length<=arr.size/\a.block∈o/\
   ∃o',o'.Nodup/\(∀b∈o',b∈o\/∃m,b∈ovs m)/\∀w',NG w w' a.block (B5 cells (a.off+(i*e.n+off)) arr) T fr->AE e 2 w' fz (.slice (some a) n k) (xs.modify i F) o':=by
 obtain⟨A,c,hv,hc,_,hsome⟩:=hr.K3;injection hv with hA hl hk'
 subst hA;subst hl;subst hk';obtain⟨arr,T,fr,os,hs,hh,hsz,hbare,hel,ho,_⟩:=hsome a rfl (.inr J);have ho:=ho J;have hbare:=hbare J
 have hmul:i*e.n+e.n<=k*e.n:=by have:(i+1)*e.n<=k*e.n:=AAt _ J;rw[AAu,ABO]at this;omega
 have hbnd:a.off+(i*e.n+off)+cells.length<=arr.size:=J
 have hin:a.block∈o:=by rw[ho];simp
 have hget:=Cc cells (a.off+(i*e.n+off)) arr hbnd;have hnd:=hn;rw[ho]at hnd;obtain⟨hnb,hnf⟩:=AAg.1 hnd;have hosub:∀m,m<xs.length->∀b∈os m,b∈o:=λm hm b hb=>No
 obtain⟨oi,hrd,hsub,hnod⟩:=hF _ (λq=>(B5 cells (a.off+(i*e.n+off)) arr)[a.off+(i*e.n+q)]?) _ _ (hel i hi) (λq hq=>by
  show(B5 cells (a.off+(i*e.n+off)) arr)[a.off+(i*e.n+q)]?=_;rw[hget];by_cases hc:off<=q/\q<off+cells.length
  ·rw[AAT J,AAT hc];congr 1;omega
  grind)
 have hnod:=hnod (CB hnf (AAc.2 hi)) (hk.sub (hosub i hi))
 let os':Nat->It:=λm=>if m=i then oi else os m
 have hos':∀m,m<xs.length->∀b∈os' m,b∈os m\/∃q,b∈ovs q:=by
  intro m hm b hb;simp only[os']at hb;split at hb
  ·grind
  ·exact .inl hb
 have hnoblk:∀m,m<xs.length->a.block∉os' m:=by
  intro m hm hb;rcases hos' m hm _ hb with hb|⟨q,hb⟩
  ·grind
  ·exact hk.2.2 q _ hb hin
 refine⟨hs,arr,T,fr,hh,hbare,hbnd,hin,a.block::(List.range xs.length).flatMap os',?_,?_,λw' hput=>?_⟩
 ·refine AAg.2 ⟨λhb=>?_,E3 List.nodup_range (λm hm=>?_) λm hm m' hm' hne b hb hb'=>?_⟩
  ·grind
  ·grind
  ·have hd:=CA hnf hm hm' hne;simp only[os']at hb hb';split at hb
   ·rename_i e1;split at hb'
    ·omega
    ·subst e1;rcases hsub b hb with hb|⟨q,hb⟩
     ·grind
     ·exact hk.2.2 q b hb (hosub m' (AAc.1 hm') b hb')
   ·split at hb'
    ·rename_i e2;subst e2;rcases hsub b hb' with hb'|⟨q,hb'⟩
     ·exact hd b hb hb'
     ·exact hk.2.2 q b hb' (hosub m (AAc.1 hm) b hb)
    grind
 ·grind
 ·refine⟨some a,k,AAB,ADt,?_⟩;refine .inr ⟨λq=>(B5 cells (a.off+(i*e.n+off)) arr)[a.off+q]?,os',⟨hs,_,T,fr,hput.here,by rw[Aq];exact hsz,λ_=>by rw[Aq];exact hbare,λ_=>rfl⟩,λm hm=>?_,?_⟩
  ·have hm':m<xs.length:=ADl
   rw[E9]
   have hframe:∀ {g x},e.rd 2 w fz g x (os' m)->e.rd 2 w' fz g x (os' m):=λh=>Ls.AN e h (λb hb=>hput.CX b (by
    rintro rfl
    rcases hb with hb|hb
    ·exact hnoblk m hm' hb
    ·exact hz _ hin hb)) λ_ hb=>hb
   by_cases him:i=m
   ·subst him;rw[AAT rfl];refine hframe ?_;have:os' i=oi:=by simp[os']
    rw[this];exact hrd
   ·rw[AAU him];have:os' m=os m:=by simp only[os'];rw[AAU (λe=>him e.symm)]
    refine hframe ?_;rw[this];refine Ls.BP e (hel m hm') λq hq=>?_;show(B5 cells (a.off+(i*e.n+off)) arr)[a.off+(m*e.n+q)]?=_;rw[hget,AAU];intro hc;rcases ABK him with h1|h1
    ·have:(i+1)*e.n<=m*e.n:=AAt _ h1;rw[AAu,ABO]at this;omega
    ·have:(m+1)*e.n<=i*e.n:=AAt _ h1;rw[AAu,ABO]at this;omega
  grind
theorem L5{vs:List Lv}{cells:ADb}{w:World}{fz:Nat->Prop}{ovs:Nat->It}(hl:cells.length=vs.length)(hp:∀(m:Nat)(lv:Lv),vs[m]?=some lv->∃u,cells[m]?=some u/\lv.l.rd 2 w fz u lv.x (ovs m))(hbig:∀m,vs.length<=m->ovs m=[])
  {i off:Nat} {e:Ls} {a:Addr} {n k:Nat} (hi:i<n) {xs:List e.D} {o:It} {f:List e.D->List e.D} (hm:I3 vs [(i,off)] e=some f) (hr:AE e 2 w fz (.slice (some a) n k) xs o) (hn:o.Nodup) (hz:∀b∈o,¬fz b) (hk:GD ovs o) (hkz:∀m,∀b∈ovs m,¬fz b):
  a.spot=none/\∃arr T fr,w.heap[a.block]?=some (.cells arr T fr)/\(∀j,j<arr.size->¬(fr.1<=j/\j<fr.2))/\a.off+(i*e.n+off)+cells.length<=arr.size/\a.block∈o/\
   ∃o',o'.Nodup/\(∀b∈o',b∈o\/∃m,b∈ovs m)/\∀w',NG w w' a.block (B5 cells (a.off+(i*e.n+off)) arr) T fr->AE e 2 w' fz (.slice (some a) n k) (f xs) o':=by
 simp only[I3]at hm;split at hm
 ·rename_i y hy;injection hm with hm;subst hm
  split at hy
  ·rename_i hc;simp only[AAO,AAY]at hc;obtain⟨rfl,hlen⟩:=hc;have hup:=A7 e vs y hy
   have:=Kj (F:=λ_=>y) (off:=0) (cells:=cells) (ovs:=ovs) hr hn hz hi hk hkz J (λg g' x oo hx hg=>⟨_,DV e (os:=ovs) (λj lv hj=>by
     grind),λb hb=>by
     grind,λ_ hk=>Dv hk.1 hk.2.1 _⟩)
   simpa only[FF]using this
  ·cases hy
 ·split at hm
  ·rename_i f' hf';injection hm with hm;subst hm
   have hp':∀(m:Nat)(lv:Lv),vs[m]?=some lv->∃u,cells[m]?=some u/\lv.l.rd 2 w fz u lv.x (ovs (0+m)):=λm lv hm=>No
   obtain⟨A,c,hv,hc,_,hsome⟩:=hr.K3;injection hv with hA hl' hk'
   subst hA;subst hl';subst hk';obtain⟨arr,T,fr,os,_,_,_,_,hel,_,_⟩:=hsome a rfl (.inr J);have hfit:=(Cl e off vs cells 0 (g':=λm=>if off<=m/\m<off+vs.length then cells[m-off]? else _) hf' hl hp' (hel i hi) λm _=>rfl).1
   exact Kj (F:=f') (off:=off) (cells:=cells) (ovs:=ovs) hr hn hz hi hk hkz J (λg g' x oo hx hg=>by
    obtain⟨_,o',q1,q2,q3⟩:=Cl e off vs cells 0 (g':=g') (ovs:=ovs) hf' hl hp' hx λm hm=>by rw[hg m hm,hl]
    grind)
  ·cases hm
section
variable {P:Program}{E:Ci}{s:St}{W:Wd}{v:Nat}{tm:Array Value}
def IL(W:Wd)(w':World)(r j:Nat)(o':It)(us:List (Nat×Nat)):Wd:=
 { W with w:=w',om:=λk=>match k with
   | .lf a b=>if a=r/\b=j then o' else if(a,b)∈us then []else W.om (.lf a b)
   |k=>W.om k }
theorem AW.LU(h:AW E s tm W)(hv:Ai s v){r j AB gen:Nat}{t:TypeId}{e:Ls}{xs xs':List e.D}(hl:s.leaf r j=.arr AB gen t e xs 2){u:Value}(hcv:W.cv r j=some u){us:List (Nat×Nat)}(hus:(r,j)∉us)
  {w':World} {blk:Nat} (hblk:blk∈W.om (.lf r j)) (hw:∀b,b≠blk->w'.heap[b]?=W.w.heap[b]?) (hsz:w'.heap.size=W.w.heap.size) (hrest:w'.os=W.w.os/\w'.tape=W.w.tape/\w'.output=W.w.output)
  {o':It} (hnd:o'.Nodup) (hfrom:∀b∈o',b∈W.om (.lf r j)\/∃a c,(a,c)∈us/\b∈W.om (.lf a c)) (hrd:AE e 2 w' W.fz u xs' o'):
  AW E (s.app (gone us++[.leaf r j (.arr AB v t e xs' 2)])) tm (IL W w' r j o' us):=by
 obtain⟨hr,hj⟩:=I2 hl;rw[Ay];show AW E ((s.app (gone us)).AG (.leaf r j (.arr AB v t e xs' 2))) tm _;obtain⟨hs1,hl1⟩:=Dd s us;have hs2:=Bo (s.app (gone us)) r j (.arr AB v t e xs' 2);have hl2:=Fc (s.app (gone us)) r j (.arr AB v t e xs' 2);generalize (s.app (gone us)).AG (.leaf r j (.arr AB v t e xs' 2))=s' at hs2 hl2;have hsame:JO s s':=⟨hs2.sl.trans hs1.sl,hs2.len.trans hs1.len,λx=>⟨(hs2.box x).1.trans (hs1.box x).1,(hs2.box x).2.1.trans (hs1.box x).2.1,(hs2.box x).2.2.trans (hs1.box x).2.2⟩⟩
 have AAA:∀a b,s'.leaf a b=if a=r/\b=j then .arr AB v t e xs' 2 else if(a,b)∈us then .bad else s.leaf a b:=by
  intro a b;rw[hl2,hl1];by_cases hc:a=r/\b=j
  ·obtain⟨rfl,rfl⟩:=hc;rw[AAT ⟨rfl,rfl,by rw[hs1.len];exact hr,by rw[(hs1.box a).2.2];exact hj⟩,AAT ⟨rfl,rfl⟩]
  ·grind
 have hown:∀k,∀b∈W.om k,k≠.lf r j->b≠blk:=λk b hb hk e=>h.sep.BD k _ hk b hb (e▸hblk);have hfz:∀b,W.fz b->b≠blk:=λb hb e=>(h.sep.own _ _ hblk).1 (e▸hb);refine h.L6 (W':=IL W w' r j o' us) hv hsame (λa b=>(a=r/\b=j)\/(a,b)∈us) (λ_=>False) (λa b hc=>?_) (λ_ _ _=>rfl) (λ_ _ hh=>hh.elim) (λ_=>rfl) (λa b hc=>?_) (λ_=>rfl) (λb hb=>?_) (λb hb=>hb) ?_ ?_ (λ_ a b hc=>?_) (λ_ hh=>hh.elim)
 ·grind
 ·show(if a=r/\b=j then o' else if(a,b)∈us then []else W.om (.lf a b))=_;grind
 ·refine hw b ?_;grind
 ·intro a b AB gen t e xs d hc hl hne;refine⟨rfl,?_⟩;grind
 ·refine h.sep.ID (W':=IL W w' r j o' us) (λk=>match k with
   | .lf a b=>(a=r/\b=j)\/(a,b)∈us
   |_=>False) rfl (by show _<=w'.heap.size;omega) (λb h1 h2=>hw b λe=>?_) hrest (λk hk=>?_) (λk hk=>?_) (λk k' hk hk' hne b hb hb'=>?_) λk hk b hb=>?_
  ·have:=(h.sep.own _ _ hblk).2.2;grind
  ·cases k with
   |lf a b=>
    show(if a=r/\b=j then o' else if(a,b)∈us then []else W.om (.lf a b))=_;grind
   |_=>rfl
  ·cases k with
   |lf a b=>
    show(if a=r/\b=j then o' else if(a,b)∈us then []else W.om (.lf a b)).Nodup;grind
   |_=>exact hk.elim
  ·have one:∀k:Key,(match k with | .lf a b=>(a=r/\b=j)\/(a,b)∈us|_=>False)->∀b∈(IL W w' r j o' us).om k,k=.lf r j:=by
    intro k hk b hb;cases k with
    |lf a c=>
     have hb:b∈(if a=r/\c=j then o' else if(a,c)∈us then []else W.om (.lf a c)):=hb;split at hb
     ·rename_i hh;obtain⟨rfl,rfl⟩:=hh;rfl
     ·rename_i hh;rw[AAT (hk.resolve_left hh)]at hb;cases hb
    |_=>exact hk.elim
   grind
  ·cases k with
   |lf a c=>
    have hb:b∈(if a=r/\c=j then o' else if(a,c)∈us then []else W.om (.lf a c)):=hb;grind
   |_=>exact hk.elim
 ·show Aa s' (IL W w' r j o' us) (s'.leaf a b) (W.cv a b) (if a=r/\b=j then o' else if(a,b)∈us then []else W.om (.lf a b));rw[AAA];by_cases hh:a=r/\b=j
  ·rw[AAT hh,AAT hh];obtain⟨rfl,rfl⟩:=hh;exact⟨u,hcv,hrd⟩
  ·rw[AAU hh,AAU hh,AAT (hc.resolve_left hh),AAT (hc.resolve_left hh)];exact⟨rfl,λ_ _=>trivial⟩
end
end Go.Ev
namespace Go.Ev
section
variable {P:Program}
theorem NL{t t0 ty:TypeId}{e:Ls}(hund:P.underlying t=some (.slice t0))(hel:NP P t0 e)(hf:Bx e=true){w:World}{fz fz2:Nat->Prop}(hfz:∀b,fz b->b<w.heap.size){ux uy:Value}{xs ys:List e.D}{o1:It}
  (hx:AE e 2 w fz ux xs o1) (hy:AE e 0 w fz2 uy ys []) (hlen:xs.length+ys.length<=E7):
  ∃u w',(Builtin.append_ #[t,t] ty #[ux,uy]).run P w=.ok u w'/\(w'.os=w.os/\w'.tape=w.tape/\w'.output=w.output)/\w.heap.size<=w'.heap.size/\(∀b,b<w.heap.size->b∉o1->w'.heap[b]?=w.heap[b]?)/\
   AE e 2 w' fz ux xs o1/\∃o',AE e 2 w' fz u (xs++ys) o'/\∀b∈o',b∈o1\/(w.heap.size<=b/\b<w'.heap.size):=by
 obtain⟨i,hi,hsz,hby,z,hz,hzc⟩:=hel.info;have hpos:=hel.pos;have hlen':xs.length+ys.length<=68719476736:=hlen;have hdep:=hx.dep
 have hmore:∃A c g,uy=.slice A ys.length c/\(A=none->ys=[])/\(∀ad,A=some ad->ys≠[]->ad.spot=none/\∀k,w.cell? (at_ ad k)=g k)/\DM e 2 w fz g ys λ_=>[]:=by
  obtain⟨A,c,hv,hc,hn,hsome⟩:=hy.K3;cases A with
  |none=>
   have:ys=[]:=AAV No;subst this;exact⟨none,c,λ_=>none,hv,λ_=>rfl,(λad had _=>by cases had),(λi hi=>by simp at hi)⟩
  |some ad=>
   by_cases hc0:c=0
   ·have:ys=[]:=AAV J;subst this;exact⟨some ad,c,λ_=>none,hv,λ_=>rfl,(λad had hne=>absurd rfl hne),(λi hi=>by simp at hi)⟩
   obtain⟨arr,T,fr,os,hs,hh,_,_,hel,_,_⟩:=hsome ad rfl (.inl J);refine⟨some ad,c,_,hv,(λhA=>by cases hA),?_,DM.flat hf hel 2 w fz⟩;intro ad' had _;injection had with had;subst had
   exact⟨hs,λk=>by simp[World.cell?,at_,hh]⟩
 obtain⟨A1,c1,hux,hc1,hA1,hs1⟩:=hx.K3;obtain⟨A2,c2,g2,huy,hA2,hs2,hel2⟩:=hmore
 have hnews:∃news:ADb,news.length=ys.length*e.n/\(∀k,k<ys.length*e.n->news[k]?=g2 k)/\(∀v∈news,v.oneCell'=true)/\
   (Builtin.firstCells i.size ys.length (.slice A2 ys.length c2)).run P w=.ok news.toArray w/\∀ad,A2=some ad->∀j u,news[j]?=some u->w.cell? (ad.add j)=some u:=by
  have hcell:=hel2.cell
  have hadd:∀ad,A2=some ad->∀j u,(Bl g2 (ys.length*e.n))[j]?=some u->w.cell? (ad.add j)=some u:=by
   intro ad had j u hj;have hlt:j<ys.length*e.n:=by have:=(AAP.1 hj).1;rwa[Ab]at this
   rw[CK hcell j hlt]at hj;obtain⟨hs,hg⟩:=hs2 ad had (λh0=>by grind);rw[Ez hs,hg,hj]
  refine⟨Bl g2 (ys.length*e.n),Ab _ _,CK hcell,HR hcell,?_,hadd⟩;cases hA:A2 with
  |none=>
   have:=hA2 hA;subst this;rw[run_firstCells_none];simp[Bl]
  |some ad=>exact run_firstCells_some w i.size ys.length ad ys.length c2 _ (by rw[Ab,hsz]) (hadd ad hA)
 obtain⟨news,hnl,hng,hn1',hnf,hncell⟩:=hnews
 have fresh:∀(arr:Array Value)(cap:Nat),xs.length+ys.length<=cap->cap*e.n<=arr.size->DM e 2 w fz (λk=>arr[k]?) xs (λ_=>[])->(∀k,k<ys.length*e.n->arr[xs.length*e.n+k]?=g2 k)->
   AE e 2 (w.drew.alloc (.cells arr t0)) fz ux xs o1/\(∀b,b<w.heap.size->b∉o1->(w.drew.alloc (.cells arr t0)).heap[b]?=w.heap[b]?)/\w.heap.size<=(w.drew.alloc (.cells arr t0)).heap.size/\
   ∃o',AE e 2 (w.drew.alloc (.cells arr t0)) fz (.slice (some ⟨w.heap.size,0,none⟩) (xs.length+ys.length) cap) (xs++ys) o'/\∀b∈o',b∈o1\/(w.heap.size<=b/\b<(w.drew.alloc (.cells arr t0)).heap.size):=by
  intro arr cap hcap hsize hx1 hy1;have hold:∀b,b<w.heap.size->(w.drew.alloc (.cells arr t0)).heap[b]?=w.heap[b]?:=λb hb=>Bg w.drew _ hb;refine⟨hx.frame (λb hb=>hold b (hb.elim (hdep b) (hfz b))) λ_ hb=>hb,λb hb _=>hold b hb,No,?_⟩
  have hels:DM e 2 (w.drew.alloc (.cells arr t0)) fz (λk=>arr[0+k]?) (xs++ys) λi=>if i<xs.length then []else []:=by
   refine DM.append (os:=λ_=>[]) (os':=λ_=>[]) ?_ ?_
   ·exact DM.congr (g:=λk=>arr[k]?) (hx1.flat hf 2 _ fz) λk _=>No
   ·exact DM.congr (g:=g2) (hel2.flat hf 2 _ fz) λk hk=>No
  have hrow:=GV (w:=w.drew.alloc (.cells arr t0)) (ad:=⟨w.heap.size,0,none⟩) (c:=cap) (fr:=(0,0)) (T:=t0) (heap_alloc_new w.drew _) rfl J No No hels;rw[ABD]at hrow;refine⟨_,hrow,λb hb=>?_⟩;rcases AAj.1 hb with rfl|hb
  ·exact .inr ⟨AAi _,by rw[BR];exact Nat.lt_succ_self _⟩
  ·grind
 subst hux;subst huy;cases A1 with
 |none=>
  obtain⟨rfl,rfl⟩:=hA1 rfl;have hx0:xs=[]:=AAV J;subst hx0;cases ys with
  |nil=>exact⟨_,_,Dz t ty t0 i hund hi 0 A2 c2 news hnf,⟨rfl,rfl,rfl⟩,AAi _,λ_ _ _=>rfl,hx,[],Bt,λb hb=>by cases hb⟩
  |cons y ys=>
   cases A2 with
   |none=>grind
   |some ad2=>
    have hge:=grownCap_ge w (y::ys).length 0 t0
    obtain⟨f1,f2,f3,o',f4,f5⟩:=fresh (news.toArray++Builtin.zeroCells z.cells (grownCap w (y::ys).length 0 t0-(y::ys).length)) (grownCap w (y::ys).length 0 t0) (by simpa using hge)
     (by
      have:(y::ys).length*e.n+(grownCap w (y::ys).length 0 t0-(y::ys).length)*e.n=grownCap w (y::ys).length 0 t0*e.n:=by rw[<-AAu];congr 1;omega
      simp only[Array.size_append,List.size_toArray,hnl,Builtin.zeroCells,Array.size_map,Array.size_range,hzc,List.length_map,BT];omega) (λi hi=>by simp at hi)
     (by
      intro k hk;rw[<-hng k hk];simp only[List.length_nil,Nat.zero_mul,AAe];rw[ABA (by simpa[hnl]using hk)];simp)
    refine⟨_,_,run_append_nil w t ty t0 i z hund hi hz ad2 (y::ys).length c2 news (by rw[hnl,hsz]) (hncell ad2 rfl) AAB (by simp at hlen' ⊢;omega) (AA3 (Nat.mul_le_mul (show _<=68719476736 by simp at hlen' ⊢;omega) hby) ADd),⟨rfl,rfl,rfl⟩,f3,f2,f1,o',?_,f5⟩;grind
 |some ad1=>
  obtain⟨arr,T,fr,os1,hs,hh,hfit,hbare0,hx1,ho10,_⟩:=hs1 ad1 rfl (.inr ADd);have ho1:o1=ad1.block::(List.range xs.length).flatMap os1:=ho10 ADd;have hbare:=hbare0 ADd;clear ho10 hbare0 hs1;obtain⟨b1,off1,sp1⟩:=ad1;dsimp only at hs hh hfit hx1 ho1;subst hs;have hb1:b1∈o1:=by rw[ho1];simp
  by_cases hcap:xs.length+ys.length<=c1
  ·
   have hmul:(xs.length+ys.length)*e.n<=c1*e.n:=AAt _ hcap;rw[AAu]at hmul;obtain⟨w',hst,hput⟩:=Ec (P:=P) (o:=off1+xs.length*e.n) news hh hbare (by rw[hnl];omega) hn1';have hadd:(⟨b1,off1,none⟩:Addr).add (xs.length*i.size)=⟨b1,off1+xs.length*e.n,none⟩:=by rw[hsz];exact CT _ _ _
   have hget:=Cc news (off1+xs.length*e.n) arr (by rw[hnl];omega)
   have hpre:DM e 2 w' fz (λk=>(B5 news (off1+xs.length*e.n) arr)[off1+k]?) xs os1:=by intro i hi;refine Ls.BP e (Ls.AY e hf (hx1 i hi) (d':=2) (w':=w') (fz':=fz)).1 λj hj=>?_;have hlt:=KJ hi hj;show(B5 news (off1+xs.length*e.n) arr)[off1+(i*e.n+j)]?=_;rw[hget,AAU J]
   have hels:DM e 2 w' fz (λk=>(B5 news (off1+xs.length*e.n) arr)[off1+k]?) (xs++ys) λi=>if i<xs.length then os1 i else []:=by refine DM.append (os':=λ_=>[]) hpre ?_;refine DM.congr (g:=g2) (hel2.flat hf 2 w' fz) λk hk=>?_;rw[<-hng k hk,hget,AAT (by rw[hnl];omega)];congr 1;omega
   have hrow:=GV (w:=w') (ad:=⟨b1,off1,none⟩) (c:=c1) hput.here rfl (by rw[Aq];exact hbare) (by rw[Aq];exact hfit) (by simpa using hcap) hels;have hrow0:=GV (w:=w') (ad:=⟨b1,off1,none⟩) (c:=c1) hput.here rfl (by rw[Aq];exact hbare) (by rw[Aq];exact hfit) hc1 hpre;rw[ABD]at hrow;refine⟨_,_,EK t ty t0 i hund hi ⟨b1,off1,none⟩ xs.length c1 A2 ys.length c2 news hnf hcap (by rw[hadd];exact hst),hput.rest,by rw[hput.size];exact AAi _,λb hb hn=>hput.CX b λe=>hn (e▸hb1),by rw[ho1];exact hrow0,_,hrow,λb hb=>?_⟩;grind
  ·
   cases A2 with
   |none=>grind
   |some ad2=>
    have hcell1:=hx1.cell;have hg1:=CK hcell1
    have holds:∀j u,(Bl (λk=>arr[off1+k]?) (xs.length*e.n))[j]?=some u->w.cell? ((⟨b1,off1,none⟩:Addr).add j)=some u:=by
     intro j u hj;have hlt:j<xs.length*e.n:=by have:=(AAP.1 hj).1;rwa[Ab]at this
     rw[hg1 j hlt]at hj;rw[CT];simp only[World.cell?,hh];simpa using hj
    have hge:=grownCap_ge w (xs.length+ys.length) c1 t0
    obtain⟨f1,f2,f3,o',f4,f5⟩:=fresh (((Bl (λk=>arr[off1+k]?) (xs.length*e.n)).toArray++news.toArray)++Builtin.zeroCells z.cells (grownCap w (xs.length+ys.length) c1 t0-(xs.length+ys.length))) (grownCap w (xs.length+ys.length) c1 t0) hge
     (by
      have:xs.length*e.n+ys.length*e.n+(grownCap w (xs.length+ys.length) c1 t0-(xs.length+ys.length))*e.n=grownCap w (xs.length+ys.length) c1 t0*e.n:=by rw[<-AAu,<-AAu];congr 1;omega
      simp only[Array.size_append,List.size_toArray,hnl,Ab,Builtin.zeroCells,Array.size_map,Array.size_range,hzc,List.length_map,BT];omega)
     (DM.congr (hx1.flat hf 2 w fz) λk hk=>by
      grind)
     (by
      intro k hk;rw[<-hng k hk];rw[ABA (by simp[Ab,hnl];omega),Array.getElem?_append_right (by simp[Ab])];simp[Ab])
    exact⟨_,_,run_append_grow w t ty t0 i z hund hi hz ⟨b1,off1,none⟩ xs.length c1 (Bl (λk=>arr[off1+k]?) (xs.length*e.n)) (by rw[Ab,hsz]) holds ad2 ys.length c2 news (by rw[hnl,hsz]) (hncell ad2 rfl) J J
     (growslice_fits J (AA3 (Nat.mul_le_mul hlen' hby) ADd)),⟨rfl,rfl,rfl⟩,f3,f2,f1,o',f4,f5⟩
end
section
variable {P:Program}{E:Ci}{s:St}{W:Wd}{o:Oper}{a:Act}{ws:List Wr}{cx:Cx}{v:Nat}{tm:Array Value}
theorem LD(hc:Dh P cx)(h:AW E s a.tmps W)(hv:Ai s v){c:Call}(ho:o.op=.call c)(hb:c.callee=.builtin .append)(hd:∀d,o.dst=some d->d<a.tmps.size)(hl:(AA cx v o s).leads ws):BU P E o a W.w (s.app ws):=by
 simp only[AA,ho,hb]at hl;split at hl
 ·rename_i x y t1 t2 ty d hx ht hty hds;split at hl
  ·rename_i t e hls;split at hl
   ·rename_i hcond;simp only[AAO,AAY]at hcond;obtain⟨rfl,hrow⟩:=hcond;obtain⟨t0,hund,hel⟩:=Fa hc hrow;have hargs:c.args = #[x,y]:=No
    have hats:c.argTypes = #[t1,t1]:=No
    obtain⟨cal,args,ats⟩:=c;dsimp only at hb hargs hats;subst hb;subst hargs;subst hats
    have fin:∀ {xs ys:List e.D} {us1 us2:List (Nat×Nat)} {o1:It},AE e 2 W.w W.fz (a.eval x) xs o1->o1.Nodup->(∀b∈o1,∃r j,(r,j)∈us1/\b∈W.om (.lf r j))->J8 P s W e (a.eval y) ys us2->
      (∀x∈us1,x∉us2)->xs.length+ys.length<=E7->ws=gone (us1++us2)++ownRow d v t e (xs++ys)->BU P E o a W.w (s.app ws):=by
     intro xs ys us1 us2 o1 h1 h2 h3 h4 h5 h6 h7;obtain⟨u,w',hrun,W',hW',hrep⟩:=Ky h hv (ty:=o.type) hund hel (hd d hds) h1 h2 h3 h4 h5 h6 t;rw[h7];refine Br h hds ?_ hW' hrep;simp[execOp,ho,resolve,invoke,builtin,hrun]
    have h1:=Ac h x;have h2:=Ac h y;have hva:=IY hv x;generalize s.Af x=p at hl h1 hva;unfold Cs at hl;split at hl
    ·obtain⟨ys,us,hl,hmore⟩:=I4 h h2 hl;rcases Ak hl with⟨hb,hl⟩|⟨_,hl⟩
     ·have hl:_=ws:=hl;rw[show a.eval x=.slice none 0 0 from h1]at fin;exact fin (xs:=[]) (us1:=[]) Bt AAX (λb hb=>by cases hb) hmore (λx hx=>by cases hx) No hl.symm
     ·exact hl.elim
    ·rename_i c;split at hl
     ·rename_i AB gen t' e' xs dd AAA;split at hl
      ·rename_i hcond;simp only[AAO,AAY,AAb]at hcond;obtain⟨⟨⟨hver,hp⟩,hpin⟩,hdd⟩:=hcond;subst hver;subst hdd;have hp:c.p=[]:=by cases hq:c.p<;>simp_all[isNil]
       split at hl
       ·rename_i ys0 hys;obtain⟨q1,q2⟩:=L.AH hys;cases q1;have q2:xs=ys0:=q2;subst q2;obtain⟨h',e',hcv,hn⟩:=h1 gen _ _ _ _ AAA (.inl hp);rw[hp]at hn;obtain⟨rfl,rfl⟩:=hn;obtain⟨u',hu',hrd⟩:=(h.roots c.r).row AAA;rw[hcv]at hu';injection hu' with hu';rw[<-hu']at hrd
        obtain⟨ys,us,hl,hmore⟩:=I4 h h2 hl;split at hl
        ·exact hl.elim
        ·rename_i hnot;rcases Ak hl with⟨hb,hl⟩|⟨_,hl⟩
         ·have hl:_=ws:=hl;exact fin (us1:=[(c.r,c.j)]) hrd (h.sep.nodup _) (λb hb=>⟨c.r,c.j,AAB,hb⟩) hmore (λx hx=>by grind) (AAy hb) hl.symm
         ·exact hl.elim
       ·exact hl.elim
      ·exact hl.elim
     ·exact hl.elim
    ·rename_i c lo hi;split at hl
     ·rename_i AB gen t' e' xs dd AAA;split at hl
      ·rename_i hcond;simp only[AAO,AAY,AAb]at hcond;obtain⟨⟨⟨⟨hver,hp⟩,hpin⟩,hdd⟩,hflat⟩:=hcond;subst hver;subst hdd;have hp:c.p=[]:=by cases hq:c.p<;>simp_all[isNil]
       split at hl
       ·rename_i ys0 hys;obtain⟨q1,q2⟩:=L.AH hys;cases q1;have q2:xs=ys0:=q2;subst q2;obtain⟨h',e',A,n,k0,hcv,hn,l1,l2,huv⟩:=h1 gen _ _ _ _ AAA (.inl hp);rw[hp]at hn;obtain⟨rfl,rfl⟩:=hn;obtain⟨u',hu',hrd⟩:=(h.roots c.r).row AAA;rw[hcv]at hu';injection hu' with hu';rw[<-hu']at hrd
        obtain⟨o',r1,r2,r3⟩:=Bw.sub hrd l1 l2;obtain⟨ys,us,hl,hmore⟩:=I4 h h2 hl;split at hl
        ·exact hl.elim
        ·rename_i hnot;rcases Ak hl with⟨hb,hl⟩|⟨_,hl⟩
         ·have hl:_=ws:=hl;refine fin (us1:=[(c.r,c.j)]) (by rw[huv];exact r1) (r3 (h.sep.nodup _)) (λb hb=>⟨c.r,c.j,AAB,r2 b hb⟩) hmore (λx hx=>by grind) (AAy hb) hl.symm
         ·exact hl.elim
       ·exact hl.elim
      ·exact hl.elim
     ·exact hl.elim
    ·exact hl.elim
   ·exact hl.elim
  ·exact hl.elim
 ·exact hl.elim
theorem IC(hc:Dh P cx)(h:AW E s a.tmps W)(hv:Ai s v){t:TypeId}{len:Nat}{parts:Array (Nat×Operand)}(ho:o.op=.buildSlice t len parts)(hd:∀d,o.dst=some d->d<a.tmps.size)(hl:(AA cx v o s).leads ws):BU P E o a W.w (s.app ws):=by
 simp only[AA,ho]at hl;split at hl
 ·rename_i ty d ht hds;split at hl
  ·exact hl.elim
  ·rename_i hag;split at hl
   ·rename_i t' e hls;split at hl
    ·rename_i hcond;simp only[AAO,AAY,AAk]at hcond;obtain⟨hlen,hsmall⟩:=hcond;obtain⟨hund,hel⟩:=(CQ hc ht hls No:GC P t (.sl t' e));obtain⟨i,hi,hsz,hby,z,hz,hzc⟩:=hel.info;obtain⟨ys,us,os,hl,hes⟩:=HJ (P:=P) h hv _ _ hl;split at hl
     ·have hl:_=ws:=hl;have hyl:ys.length=len:=by rw[hes.len,hlen];simp
      have hparts:∀(m:Nat)(x:Operand)(i:Nat),parts.toList[m]?=some (i,x)->i=0+m/\(a.eval x).cells.size=e.n:=by
       intro m x i hm;have hm':m<ys.length:=by rw[hes.len];exact(AAP.1 hm).1
       obtain⟨x',h1,h2,_⟩:=hes.el m hm';rw[hm]at h1;injection h1 with h1;injection h1 with h1 h1';subst h1'
       exact⟨h1,h2⟩
      obtain⟨arr,hf,hasz,_,hget⟩:=HQ (e:=e) a.eval parts.toList 0 (madeCells z.cells (len*e.n)) hparts (by rw[size_madeCells,hlen];simp);rw[size_madeCells]at hasz;have hrun:=Hw (P:=P) (w:=W.w) (t:=t) (len:=len) (parts:=parts.map λ(i,x)=>(i,a.eval x)) (arr:=arr) hund hi hz No (by rw[hsz,ABP];exact hf)
      have hels:DM e 2 (W.w.alloc (.cells arr t')) W.fz (λk=>arr[0+k]?) ys os:=by
       intro m hm;obtain⟨x,h1,h2,h3⟩:=hes.el m hm
       have h4:e.rd 2 (W.w.alloc (.cells arr t')) W.fz (λj=>(a.eval x).cells[j]?) ys[m] (os m):=Ls.AN e h3 (λb hb=>Bg _ _ (by
        rcases hb with hb|hb
        ·obtain⟨r,j,_,h5⟩:=hes.Nz m b hb;exact(h.sep.own _ b h5).2.1
        ·exact(h.sep.fz b hb).1)) λ_ hb=>hb
       refine Ls.BP e h4 λj hj=>?_;have:=hget m _ x h1 j hj;simp only[AAe]at this ⊢;exact this
      have hrow:=GV (w:=W.w.alloc (.cells arr t')) (ad:=⟨W.w.heap.size,0,none⟩) (c:=len) (fr:=(0,0)) (T:=t') (heap_alloc_new _ _) rfl J (by simp[hasz]) J hels
      obtain⟨W',hW',hrep⟩:=h.C5 hv us (hd d hds) (t0:=t') (EM h _) (λb hb _=>Bg _ _ ADw) (by rw[BR];omega) ⟨rfl,rfl,rfl⟩ hrow
       (AAg.2 ⟨λhin=>by
        obtain⟨m,_,hb⟩:=AAQ.1 hin;obtain⟨r,j,_,h5⟩:=hes.Nz m _ hb;exact absurd (h.sep.own _ _ h5).2.1 (Nat.lt_irrefl _),Dv hes.Oc hes.OV _⟩)
       (λb hb=>by
        rcases AAj.1 hb with rfl|hb
        ·exact .inr ⟨AAi _,by rw[BR];grind⟩
        ·obtain⟨m,_,hb⟩:=AAQ.1 hb;exact .inl (hes.Nz m b hb))
      rw[<-hl];refine Br h hds ?_ hW' hrep;rw[hyl];unfold execOp;simp only[ho,Sem.run_bind,hrun,Result.andThen_ok];rfl
     ·exact hl.elim
    ·exact hl.elim
   ·exact hl.elim
 ·exact hl.elim
end
end Go.Ev
namespace Go.Ev
section
variable {P:Program}{E:Ci}{s:St}{W:Wd}{o:Oper}{a:Act}{ws:List Wr}{cx:Cx}{v:Nat}{tm:Array Value}
theorem Dt{t:TypeId}{x y:Operand}(ho:o.op=.store t x y)(hdst:o.dst=none){ad:Addr}(hx:a.eval x=.pointer (some ad)){i:TypeInfo}(hi:P.info? t=some i)(hsz:(a.eval y).cells.size=i.size){W':Wd}
  (hrun:(storeCells ad (a.eval y).cells.toList).run P W.w=.ok () W'.w) {s':St} (hr:AW E s' a.tmps W'):BU P E o a W.w s':=by
 intro next Q hn
 have hst:(storeVar t ad (a.eval y)).run P W.w=.ok () W'.w:=by simp[storeVar,sizeOf,typeInfo,hi,hsz,hrun]
 unfold Oper.wp execOp;simp only[ho,hx,Instr.storeAt,Instr.sureAddr,Sem.run_bind,Sem.run_pure,Result.andThen_ok,hst];show next (a.put o.dst Go.undef) W'.w
 rw[hdst];exact hn _ W' rfl hr
theorem Jl{α β:Type}{f:α->Option β}:∀ {l:List α} {r:List β},l.mapM f=some r->r.length=l.length
 | [],r,hr=>No
 |b::l,r,hr=>by
  simp only[List.mapM_cons,Option.bind_eq_bind,Option.pure_def]at hr;cases hb:f b with
  |none=>grind
  |some c=>
   cases hr':l.mapM f with
   |none=>grind
   |some cs=>
    simp[hb,hr']at hr;subst hr;simp[Jl hr']
theorem Gb(hc:Dh P cx)(h:AW E s a.tmps W)(hv:Ai s v){t:TypeId}{x y:Operand}(ho:o.op=.store t x y){q:LA}{g:Bool}{as:List LA}{ty:Ty}{fs wt:List Wr}(ht:cx.ty t=some ty)(h1:AT s W q (a.eval x))(h2:BQ s W (.v g as) (a.eval y))(hva:v∉(AV.v g as).AF)
  (hl:(F9 cx v s o.dst q ty.ls.kinds as fs).leads wt):∃ws,wt=fs++ws/\BU P E o a W.w (s.app ws):=by
 obtain⟨i,hi,hsz,_⟩:=(hc t ty ht).info;unfold F9 at hl;unfold St.GA at hl;split at hl
 ·rename_i r j AB;split at hl
  ·rename_i hcond;simp only[AAO,AAY,AAk,BT]at hcond;obtain⟨⟨hb,hver⟩,hfit⟩:=hcond;obtain⟨bs,us,os,hl,hblen,halen,hnd,hbx,hdis,hbig,hbs⟩:=EO (v:=v) h (g:=BI g (a.eval y)) (λj b hj=>⟨λhin=>hva (AAQ.2 ⟨b,AAS hj,hin⟩),Ca h2 j b hj⟩) hl;rw[BT]at halen;split at hl
   ·rename_i hdst;have hl:_=wt:=hl
    have hcells:=CZ h2 λj b hj=>by
     have hlt:j<bs.length:=by rw[hblen];exact(AAP.1 hj).1
     obtain⟨u,hu,hr⟩:=hbs j bs[j] (AAN hlt);exact⟨u,hu,hr.1⟩
    obtain⟨_,hbox⟩:=h.roots r;rw[AAT hb]at hbox;obtain⟨_,arr,T,fr,hh,hbare,hasz,_⟩:=hbox
    have hone:∀u∈(a.eval y).cells.toList,u.oneCell'=true:=by
     intro u hu;obtain⟨m,hm⟩:=AAw hu;have hlt:m<bs.length:=by rw[hblen,<-hcells.1];simpa using(AAP.1 hm).1
     obtain⟨u',hu',hr⟩:=hbs m bs[m] (AAN hlt);have:=hcells.2 m J;rw[hu']at this;have h3:(a.eval y).cells[m]?=some u:=ADl
     rw[this]at h3;injection h3 with h3;subst h3;exact hr.1
    obtain⟨w',hrun,hput⟩:=Ec (P:=P) (o:=j) (a.eval y).cells.toList hh hbare No hone
    obtain⟨W',hW',hrep⟩:=h.J4 hv (j:=j) hb (us:=us) (bs:=bs) (os:=os) (cells:=(a.eval y).cells.toList) No J
     (λm b hm=>by
      grind) hdis (λm hm=>hbig m J) hh hput
    refine⟨_,hl.symm,?_⟩;exact Dt ho hdst (h1 hb hver) hi J No hrep
   ·exact hl.elim
  ·exact hl.elim
 ·rename_i c;split at hl
  ·rename_i hall;obtain⟨vs,hl,hvl,hvm,hvs⟩:=FR h (g:=BI g (a.eval y)) (λj b hj=>Ca h2 j b hj) hl
   have hcells:=CZ h2 λj b hj=>by
    have hlt:j<vs.length:=by rw[hvl];exact(AAP.1 hj).1
    obtain⟨u,hu,hr⟩:=hvs j vs[j] (AAN hlt);exact⟨u,hu,L.FC _ hr⟩
   have hlen:vs.length=ty.ls.n:=by rw[<-BT,<-hvm];simp
   have hplain:Plain W.w W.fz vs (a.eval y).cells.toList:=by
    refine⟨No,λm lv hm=>?_⟩
    have hns:Bi lv.l=false:=by
     have hmem:lv.l∈ty.ls.kinds:=by rw[<-hvm];exact AAx.2 ⟨lv,AAS hm,rfl⟩
     simpa using AAa.1 hall _ hmem
    obtain⟨u,hu,hr⟩:=hvs m lv hm;refine⟨hns,u,?_,λd w' fz'=>(L.AY lv.l hns hr).1⟩;have hlt:m<as.length:=by rw[<-hvl];exact(AAP.1 hm).1
    have:=hcells.2 m hlt;rw[hu]at this;simpa using this
   have hone:∀u∈(a.eval y).cells.toList,u.oneCell'=true:=by
    intro u hu;obtain⟨m,hm⟩:=AAw hu;have hlt:m<vs.length:=by rw[<-hplain.1];exact(AAP.1 hm).1
    obtain⟨_,u',hu',hr⟩:=hplain.2 m vs[m] (AAN hlt);rw[hm]at hu';injection hu' with hu';subst hu'
    exact L.FC _ (hr 0 W.w W.fz)
   split at hl
   ·rename_i ws' hset;split at hl
    ·rename_i hdst;have hl:_=wt:=hl;unfold St.Jy at hset;split at hset
     ·rename_i AB gen t0 e0 xs0 d0 AAA;split at hset
      ·rename_i hcond;simp only[AAO,AAh,AAY,AAk]at hcond;obtain⟨⟨⟨rfl,hg⟩,hd0⟩,hpl⟩:=hcond;split at hset
       ·rename_i f hf;injection hset with hset
        subst hset;obtain⟨q,i0,off,h',e',ad,n,k,hs,hcv,hnav,hspot,hi0,hu⟩:=h1 gen _ _ _ _ AAA hg;obtain⟨u',hu',hrd⟩:=(h.roots c.r).row AAA;rw[hcv]at hu';injection hu' with hu';subst hu'
        have hno:∀b∈W.om (.lf c.r c.j),¬W.fz b:=λb hb=>(h.sep.own _ b hb).1;obtain⟨hsp,arr,T,fr,hh,hbare,hbnd,hin,hput0⟩:=Kd hplain hi0 c.p q hf hrd (h.sep.nodup _) hno hd0 hpl hs hnav;obtain⟨w',hrun,hput⟩:=Ec (P:=P) (o:=ad.off+(i0*e'.n+off)) (a.eval y).cells.toList hh hbare hbnd hone;have hrep:=h.KQ hv AAA hcv (hput0 w' hput) (λb hb=>hput.CX b λe=>hb (e▸hin)) hput.size hput.rest;exact⟨_,hl.symm,Dt ho hdst hu hi J (W':={ W with w:=w' }) hrun hrep⟩
       ·cases hset
      ·cases hset
     ·cases hset
    ·exact hl.elim
   ·exact hl.elim
  ·split at hl
   ·rename_i p0 hp0;obtain⟨bs,us,os,hl,hblen,halen,hnd,hbx,hdis,hbig,hbs⟩:=EO (v:=v) h (g:=BI g (a.eval y)) (λj b hj=>⟨λhin=>hva (AAQ.2 ⟨b,AAS hj,hin⟩),Ca h2 j b hj⟩) hl;rw[BT]at halen;split at hl
    ·rename_i hall;split at hl
     ·rename_i lvs hlvs;have hlvs:bs.mapM E2=some lvs:=hlvs;have hlen:lvs.length=bs.length:=Jl hlvs;split at hl
      ·rename_i AB gen t0 e0 xs0 AAA;split at hl
       ·rename_i hver;have hver:AB=c.AB:=by simpa using hver
        subst hver;split at hl
        ·rename_i f hf;split at hl
         ·rename_i hdst;have hl:_=wt:=hl
          have hcells:=CZ h2 λj b hj=>by
           have hlt:j<bs.length:=by rw[hblen];exact(AAP.1 hj).1
           obtain⟨u,hu,hr⟩:=hbs j bs[j] (AAN hlt);exact⟨u,hu,hr.1⟩
          have hone:∀u∈(a.eval y).cells.toList,u.oneCell'=true:=by
           intro u hu;obtain⟨m,hm⟩:=AAw hu;have hlt:m<bs.length:=by rw[hblen,<-hcells.1];simpa using(AAP.1 hm).1
           obtain⟨u',hu',hr⟩:=hbs m bs[m] (AAN hlt);have:=hcells.2 m J;rw[hu']at this;have h3:(a.eval y).cells[m]?=some u:=ADl
           rw[this]at h3;injection h3 with h3;subst h3;exact hr.1
          obtain⟨q,i0,off,h',e',ad,n,k,hs,hcv,hnav,hspot,hi0,hu⟩:=h1 gen _ _ _ _ AAA (.inl No);rw[hp0]at hs;simp only[Ag,Option.some.injEq,Prod.mk.injEq]at hs;obtain⟨rfl,rfl,rfl⟩:=hs;obtain⟨rfl,rfl⟩:=hnav;obtain⟨u',hu',hrd⟩:=(h.roots c.r).row AAA;rw[hcv]at hu';injection hu' with hu';subst hu'
          have hus:(c.r,c.j)∉us:=λhin=>No
          have hfromU:∀m,∀b∈os m,∃r j,(r,j)∈us/\b∈W.om (.lf r j):=by
           intro m b hb;by_cases hm:m<bs.length
           ·obtain⟨u,_,ht⟩:=hbs m bs[m] (AAN hm);exact ht.2.2.1 b hb
           ·grind
          have hk:GD os (W.om (.lf c.r c.j)):=by
           refine⟨λm=>?_,hdis,λm b hb hb'=>?_⟩
           ·by_cases hm:m<bs.length
            ·obtain⟨u,_,ht⟩:=hbs m bs[m] (AAN hm);exact ht.2.1
            grind
           ·obtain⟨r,j,hin,hb2⟩:=hfromU m b hb;exact h.sep.BD (.lf r j) (.lf c.r c.j) (λe=>by grind) b hb2 hb'
          have hkz:∀m,∀b∈os m,¬W.fz b:=λm b hb=>by obtain⟨r,j,_,hb2⟩:=hfromU m b hb;exact(h.sep.own _ b hb2).1
          have hno:∀b∈W.om (.lf c.r c.j),¬W.fz b:=λb hb=>(h.sep.own _ b hb).1
          have hp:∀(m:Nat)(lv:Lv),lvs[m]?=some lv->∃u,(a.eval y).cells.toList[m]?=some u/\lv.l.rd 2 W.w W.fz u lv.x (os m):=by
           intro m lv hm;have hlt:m<bs.length:=by rw[<-hlen];exact(AAP.1 hm).1
           obtain⟨y',hy',hy''⟩:=Fg hlvs m bs[m] (AAN hlt);rw[hm]at hy'';injection hy'' with hy'';subst hy''
           obtain⟨u,hu2,ht⟩:=hbs m bs[m] (AAN hlt);have:=hcells.2 m J;rw[hu2]at this;exact⟨u,No,IK ht hy'⟩
          rw[hp0]at hf;obtain⟨hsp,arr,T,fr,hh,hbare,hbnd,hin,o',hnd',hfrom,hput0⟩:=L5 No hp (λm hm=>hbig m J) hi0 hf hrd (h.sep.nodup _) hno hk hkz;obtain⟨w',hrun,hput⟩:=Ec (P:=P) (o:=ad.off+(p0.1*e'.n+p0.2)) (a.eval y).cells.toList hh hbare hbnd hone;have hrep:=h.LU hv AAA hcv hus hin (λb hb=>hput.CX b hb) hput.size hput.rest hnd' (λb hb=>(hfrom b hb).imp id λ⟨m,hb⟩=>hfromU m b hb) (hput0 w' hput);refine⟨_,hl.symm,?_⟩;exact Dt ho hdst hu hi J (W':=IL W w' c.r c.j o' us) hrun hrep
         ·exact hl.elim
        ·exact hl.elim
       ·exact hl.elim
      ·exact hl.elim
     ·exact hl.elim
    ·exact hl.elim
   ·exact hl.elim
 ·exact hl.elim
end
end Go.Ev
namespace Go.Ev
theorem M7{s:St}{r:Nat}(h:s.ro.length<=r):(s.root r).ls=[]:=by have:s.root r=dead:=As _ h;rw[this];rfl
theorem DB(s:St)(r j:Nat):∀(rs:It)(a:LA),(a=s.leaf r j\/a=A4 (s.leaf r j))->
  (rs.map λr=>(⟨r,0,(s.root r).ls.map A4⟩:Up)).foldl (λa u=>if r=u.r/\u.lo<=j/\j<u.lo+u.news.length then nth .bad u.news (j-u.lo)else a) a=if r∈rs then A4 (s.leaf r j)else a
 | [],a,ha=>AAB
 |x::rs,a,ha=>by
  simp only[ABI,List.foldl_cons,List.length_map,AAe,Nat.sub_zero];by_cases hx:r=x
  ·subst hx;rw[AAT AAp]
   have hstep:(if r=r/\0<=j/\j<(s.root r).ls.length then nth .bad ((s.root r).ls.map A4) j else a)=A4 (s.leaf r j)\/(s.leaf r j=.bad/\(if r=r/\0<=j/\j<(s.root r).ls.length then nth .bad ((s.root r).ls.map A4) j else a)=a):=by
    by_cases hj:j<(s.root r).ls.length
    ·left;rw[AAT ⟨rfl,Nat.zero_le _,hj⟩];unfold St.leaf;rw[Ad,Ad,AAf,AAN hj];rfl
    ·right;exact⟨As _ (AA1 hj),AAU λhh=>hj hh.2.2⟩
   rcases hstep with h1|⟨h1,h2⟩
   ·rw[h1,DB s r j rs _ (.inr rfl)];split<;>rfl
   ·rw[h2];have ha':a=.bad:=by rcases ha with ha|ha<;>rw[ha,h1]<;>rfl
    rw[DB s r j rs a ha,ha',h1];split<;>rfl
  ·rw[AAU (λhh=>hx hh.1),DB s r j rs a ha];simp[hx]
section
variable {P:Program}{E:Ci}{s:St}{W:Wd}{v:Nat}{tm:Array Value}{cx:Cx}
theorem GN:∀ {rs:It} {ws:List Wr},Ao cx s rs=some ws->ws=ER ((rs.filter λr => !s.Bm r).map λr=>⟨r,0,(s.root r).ls.map A4⟩)
 | [],ws,h=>by injection h with h;exact h.symm
 |r::rs,ws,h=>by
  simp only[Ao]at h;split at h
  ·cases h
  ·split at h
   ·rename_i ws' hws;injection h with h;subst h
    rw[GN hws];unfold Cy;cases hs:s.Bm r with
    |true=>grind
    |false=>rw[List.filter_cons_of_pos (by simp[hs])];rfl
   ·cases h
theorem KV{r:Nat}(h:s.Bm r=true)(j:Nat):A4 (s.leaf r j)=s.leaf r j:=by
 unfold St.leaf;rw[Ad];cases hq:(s.root r).ls[j]? with
 |none=>rfl
 |some a=>
  have:=AAa.1 h a (AAS hq);cases a with
  |arr v g t e xs d=>cases d with
   |zero=>rfl
   |succ d=>cases this
  |_=>rfl
structure JL(s s':St)(W W':Wd)(rs:It):Prop where
 same:JO s s'
 w:W'.w=W.w
 cv:W'.cv=W.cv
 bk:W'.bk=W.bk
 leaf:∀r j,r∉rs->s'.leaf r j=s.leaf r j
 OA:∀r j,s'.leaf r j=s.leaf r j\/s'.leaf r j=A4 (s.leaf r j)
 om:∀r j,r∉rs->W'.om (.lf r j)=W.om (.lf r j)
 Ow:∀r,W'.om (.blk r)=W.om (.blk r)
 sub:∀k,∀b∈W'.om k,b∈W.om k
 up:∀b,W.fz b->W'.fz b
 fz:∀b,W'.fz b->Seen W rs b
theorem EY(h:AW E s tm W)(hv:Ai s v){rs:It}{ws:List Wr}(hf:Ao cx s rs=some ws):∃W',AW E (s.app ws) tm W'/\JL s (s.app ws) W W' rs/\∀b,Seen W rs b->W'.fz b:=by
 rw[GN hf]
 obtain⟨hsame,AAA⟩:=H6 ((rs.filter λr => !s.Bm r).map λr=>(⟨r,0,(s.root r).ls.map A4⟩:Up)) s λu hu=>by
  obtain⟨r,_,rfl⟩:=AAx.1 hu;refine⟨?_,AAB⟩;rcases AAv r s.ro.length with hlt|hge
  ·grind
  ·left;simp[M7 hge]
 generalize s.app (ER ((rs.filter λr => !s.Bm r).map λr=>(⟨r,0,(s.root r).ls.map A4⟩:Up)))=s' at hsame AAA
 have AAA:∀r j,s'.leaf r j=if r∈rs then A4 (s.leaf r j)else s.leaf r j:=λr j=>by
  rw[AAA,DB s r j _ _ (.inl rfl)];by_cases hr:r∈rs
  ·rw[AAT hr];cases hst:s.Bm r with
   |true=>rw[AAU λhm=>by have:=(List.mem_filter.1 hm).2;simp[hst]at this,KV hst]
   |false=>rw[AAT (List.mem_filter.2 ⟨hr,by simp[hst]⟩)]
  grind
 let W':Wd:={
  w:=W.w
  fz:=Seen W rs
  cv:=W.cv
  bk:=W.bk
  om:=λk=>match k with
   | .lf r j=>if r∈rs then []else W.om (.lf r j)
   |k=>W.om k }
 have homf:∀r j,W'.om (.lf r j)=if r∈rs then []else W.om (.lf r j):=λ_ _=>rfl
 have hsub:∀k,∀b∈W'.om k,b∈W.om k/\∀r∈rs,∀j,k≠.lf r j:=by
  intro k b hb;cases k with
  |lf r j=>
   grind
  |blk r=>grind
  |fl k=>grind
 have hsep:Sep E W':={
  nodup:=by
   intro k;cases k with
   |lf r j=>rw[homf];split;exact AAX;exact h.sep.nodup _
   |blk r=>exact h.sep.nodup _
   |fl k=>exact h.sep.nodup _
  BD:=λk k' hne b hb hb'=>h.sep.BD k k' hne b (hsub k b hb).1 (hsub k' b hb').1
  own:=λk b hb=>by
   obtain⟨h1,h2⟩:=hsub k b hb;obtain⟨q1,q2,q3⟩:=h.sep.own k b h1;refine⟨?_,q2,q3⟩
   rintro (hz|⟨r,hr,j,hz⟩)
   ·exact q1 hz
   ·exact h.sep.BD k (.lf r j) (h2 r hr j) b h1 hz
  fz:=λb hb=>by
   rcases hb with hz|⟨r,hr,j,hz⟩
   ·exact h.sep.fz b hz
   ·obtain⟨_,q2,q3⟩:=h.sep.own _ b hz;grind
  frame:=h.sep.frame
  size:=h.sep.size
  rest:=h.sep.rest }
 refine⟨W',?_,⟨hsame,rfl,rfl,rfl,λr j hr=>No,λr j=>No,λr j hr=>No,λ_=>rfl,λk b hb=>(hsub k b hb).1,λb hb=>.inl hb,λb hb=>hb⟩,λb hb=>hb⟩;refine h.L6 hv (W':=W') hsame (λr _=>r∈rs) (λ_=>False) (λr j hr=>by grind) (λ_ _ _=>rfl) (λ_ _ hf=>hf.elim) (λ_=>rfl) (λr j hr=>by grind) (λ_=>rfl) (λ_ _=>rfl) (λb hb=>.inl hb) ?_ hsep ?_ (λ_ hf=>hf.elim)
 ·intro r j AB gen t e xs d hr hl hne;rw[AAA,AAT hr]at hl;refine⟨rfl,?_⟩;cases hq:s.leaf r j with
  |arr ver0 gen0 t0 e0 xs0 d0=>
   rw[hq]at hl;simp only[A4,LA.arr.injEq]at hl;grind
  |_=>rw[hq]at hl;simp[A4]at hl
 ·intro hturn r j hr;obtain⟨h1,_⟩:=h.roots r;have h1:Aa s W (s.leaf r j) (W.cv r j) (W.om (.lf r j)):=h1 j;have hvl:=LA.Ee hv r j;rw[AAA,AAT hr,homf,AAT hr];unfold Aa at h1 ⊢;cases hq:s.leaf r j with
  |arr ver0 gen0 t0 e0 xs0 d0=>
   rw[hq]at h1;obtain⟨u,hu,hrd⟩:=h1;exact⟨u,hu,hrd.freeze λb hb=>hb.elim .inl λhb=>.inr ⟨r,hr,j,hb⟩⟩
  |_=>
   rw[hq]at h1 hvl;exact⟨rfl,λu hu=>AT.Dg hturn (hvl.resolve_left (by simp[LA.B3])) (h1.2 u hu)⟩
inductive PT where
 |none
 |box (r:Nat)
 |row (l:List (Option (Loc×It)))
def PT.D0:PT->ADk
 | .none=>[]
 | .box r=>[(r,Option.none)]
 | .row l=>l.filterMap λo=>o.map λp=>(p.1.r,some p.1.j)
def NH(a b:Tg):Prop:=Tg.DS b a=false
def FK(s:St)(W:Wd)(d:Nat)(a:LA)(o:Option (Loc×It))(lv:Lv)(y:Value):Prop:=
 (Bi lv.l=false/\o=none/\lv.l.rd d W.w W.fz y lv.x []) \/
 ∃(c:Loc) (o':It) (gen:Nat) (t:TypeId) (e:Ls) (xs:List e.D) (h:Value) (t':TypeId) (e':Ls) (ys:List e'.D),a=.ref c/\o=some (c,o')/\s.leaf c.r c.j=.arr c.AB gen t e xs d/\(c.p≠[]->d=2)/\W.cv c.r c.j=some h/\JI W.w c.p e h e' y/\
  lv=⟨.sl t' e',ys⟩/\AE e' d W.w W.fz y ys o'/\(∀b∈o',b∈W.om (.lf c.r c.j))/\o'.Nodup
def Gp(s:St)(W:Wd)(pm:PM)(av:AV)(tg:PT)(u:Value)(vs:List Lv):Prop:=match pm with
 | .val g ls=>tg=.none/\Gc W.w (Seen W av.roots) g (ls.map λl=>(l,0)) u vs λ_=>[]
 | .box ls=>∃r AB,av=.v false [.ptr r 0 AB]/\tg=.box r/\(s.root r).box=true/\(s.root r).ls.length=ls.length/\u=.pointer (some ⟨W.bk r,0,none⟩)/\vs.map (·.l)=ls.map (·.1)/\
   ∀(j:Nat)(p:L×Nat)(lv:Lv)(y:Value),ls[j]?=some p->vs[j]?=some lv->W.cv r j=some y->lv.l.rd p.2 W.w W.fz y lv.x (W.om (.lf r j))
 | .row g ls=>∃as l,av=.v g as/\tg=.row l/\as.length=ls.length/\l.length=ls.length/\vs.map (·.l)=ls.map (·.1)/\(match g with
   |true=>∃cs:Array Value,u=.agg cs/\cs.size=ls.length
   |false=>ls.length=1)/\∀(j:Nat)(p:L×Nat)(a:LA)(lv:Lv) (o:Option (Loc×It)),ls[j]?=some p->as[j]?=some a->vs[j]?=some lv->l[j]?=some o->∃y,BI g u j=some y/\FK s W p.2 a o lv y
 | .fn f=>tg=.none/\u=.func (.func f) #[] #[]/\vs=[]
theorem LO(h:AW E s tm W){β:Type}{t:β}{l:L}{d:Nat}{a:LA}{y:Value}(hy:AT s W a y){k:Lv->ADk->Step β}(hl:(JG s l d a k).leads t):
  ∃(lv:Lv) (o:Option (Loc×It)),(k lv (PT.row [o]).D0).leads t/\lv.l=l/\FK s W d a o lv y:=by
 have plain:Bi l=false->((s.Az l a λx=>k ⟨l,x⟩ []).leads t)->∃(lv:Lv) (o:Option (Loc×It)),(k lv (PT.row [o]).D0).leads t/\lv.l=l/\FK s W d a o lv y:=by intro hs hl;obtain⟨x,hl,hr⟩:=Bq h hy hl;exact⟨⟨l,x⟩,none,hl,rfl,.inl ⟨hs,rfl,(L.AY l hs hr).1⟩⟩
 cases l with
 |int i=>exact plain rfl hl
 |bool=>exact plain rfl hl
 |str=>exact plain rfl hl
 |sl t0 e0=>
  cases a with
  |ref c=>
   replace hl:(if(match s.leaf c.r c.j with
    | .arr _ _ _ _ _ dd=>dd==d&&(isNil c.p||d==2)
    |_=>false)then s.Az (.sl t0 e0) (.ref c) λx=>k ⟨.sl t0 e0,x⟩ [(c.r,some c.j)]else Step.none).leads t:=hl
   cases hq:s.leaf c.r c.j with
   |arr AB gen t1 e1 xs dd=>
    simp only[hq]at hl;split at hl
    ·rename_i hcond;simp only[AAO,AAh,AAY]at hcond;obtain⟨hdd,hp⟩:=hcond;subst hdd;have hp2:c.p≠[]->dd=2:=λhne=>hp.resolve_left λhn=>hne (by cases hq:c.p<;>simp_all[isNil]);simp only[St.Az,St.content,hq]at hl;split at hl
     ·rename_i hver;simp only[AAO,AAh,AAY]at hver;obtain⟨hver,hgen⟩:=hver;subst hver;have hgen:c.p=[]\/gen=c.gen:=hgen.imp (λhn=>by cases hq:c.p<;>simp_all[isNil]) id;obtain⟨h',e',hcv,hn⟩:=hy gen _ _ _ _ hq hgen;obtain⟨u',hu',hrd⟩:=(h.roots c.r).row hq;rw[hcv]at hu';injection hu' with hu';rw[<-hu']at hrd
      obtain⟨t',ys,o',hl,hrd',hsub,hnd⟩:=Jh c.p hl hrd hn hp2 (h.sep.nodup _);split at hl
      ·rename_i x hx;obtain⟨q1,q2⟩:=L.AH hx;cases q1;have q2:ys=x:=q2;subst q2;exact⟨⟨.sl t0 e0,ys⟩,some (c,o'),hl,rfl,.inr ⟨c,o',gen,t1,e1,xs,h',t0,e0,ys,rfl,rfl,hq,hp2,hcv,hn,rfl,hrd',hsub,hnd⟩⟩
      ·exact hl.elim
     ·exact hl.elim
    ·exact hl.elim
   |_=>simp only[hq,ABM,if_false]at hl;exact hl.elim
  |_=>exact hl.elim
theorem Hu(h:AW E s tm W){β:Type}{t:β}:∀(ls:List (L×Nat)) (as:List LA) (G:Nat->Option Value) {k:List Lv->ADk->Step β},(∀(j:Nat)(b:LA),as[j]?=some b->∃y,G j=some y/\AT s W b y)->(Eb s ls as k).leads t->
  ∃(vs:List Lv) (l:List (Option (Loc×It))),(k vs (PT.row l).D0).leads t/\as.length=ls.length/\l.length=ls.length/\vs.map (·.l)=ls.map (·.1)/\(PT.row l).D0.Pairwise NH/\
   ∀(j:Nat)(p:L×Nat)(a:LA)(lv:Lv) (o:Option (Loc×It)),ls[j]?=some p->as[j]?=some a->vs[j]?=some lv->l[j]?=some o->∃y,G j=some y/\FK s W p.2 a o lv y
 | [],[],G,k,hg,hl=>⟨[],[],hl,rfl,rfl,rfl,List.Pairwise.nil,λj p a lv o hp=>ADp⟩
 | [],_::_,G,k,hg,hl=>hl.elim
 |_::_,[],G,k,hg,hl=>hl.elim
 |(l,d)::ls,a::as,G,k,hg,hl=>by
  obtain⟨y,hy,hla⟩:=hg 0 a rfl;obtain⟨lv,o,hl,hlv,hrl⟩:=LO h hla hl;obtain⟨vs,lo,hl,h1,h2,h3,h4,h5⟩:=Hu h ls as (λj=>G (j+1)) (λj b hj=>hg (j+1) b No) hl;split at hl
  ·exact hl.elim
  ·rename_i hno
   have he:(PT.row (o::lo)).D0=(PT.row [o]).D0++(PT.row lo).D0:=by
    cases o<;>simp[PT.D0]
   refine⟨lv::vs,o::lo,by rw[he];exact hl,by simp[h1],by simp[h2],by simp[hlv,h3],?_,?_⟩
   ·rw[he,List.pairwise_append];refine⟨?_,h4,λx hx z hz=>?_⟩
    ·cases o<;>simp[PT.D0]
    ·show Tg.DS z x=false;cases hq:Tg.DS z x with
     |false=>rfl
     |true=>exact absurd (AA6.2 ⟨x,hx,AA6.2 ⟨z,hz,hq⟩⟩) hno
   grind
mutual
theorem L.CD:∀(l:L) {w:World} {fz:Nat->Prop} {v:Value} {x:l.D} {o:It},l.rd 3 w fz v x o↔l.rd 2 w fz v x o
 | .int _,_,_,_,_,_=>Iff.rfl
 | .bool,_,_,_,_,_=>Iff.rfl
 | .str,_,_,_,_,_=>Iff.rfl
 | .sl _ e,w,fz,v,x,o=>by
  have hf:e.rd (dec 3) w fz=e.rd (dec 2) w fz:=by funext g y o;exact propext (Ls.CD e)
  exact iff_of_eq (congrArg (λR=>Bw e.n R true w fz v x o) hf)
theorem Ls.CD:∀(ls:Ls) {w:World} {fz:Nat->Prop} {g:Nat->Option Value} {x:ls.D} {o:It},ls.rd 3 w fz g x o↔ls.rd 2 w fz g x o
 | .nil,_,_,_,_,_=>Iff.rfl
 | .one l,w,fz,g,x,o=>exists_congr λv=>and_congr_right λ_=>L.CD l
 | .cons l ls,w,fz,g,x,o=>exists_congr λv=>exists_congr λo1=>exists_congr λo2=>and_congr_right λ_=>and_congr (L.CD l) (and_congr (Ls.CD ls) Iff.rfl)
end
theorem JV(h:AW E s tm W){β:Type}{t:β}(r:Nat):∀(ls:List (L×Nat)) (as:List LA) (j:Nat) {k:List Lv->Step β},(∀i b,as[i]?=some b->s.leaf r (j+i)=b)->EC ls as=true->(s.data (ls.map (·.1)) (A3 r j as) k).leads t->
  ∃vs:List Lv,(k vs).leads t/\as.length=ls.length/\vs.map (·.l)=ls.map (·.1)/\∀(i:Nat)(p:L×Nat)(lv:Lv)(y:Value),ls[i]?=some p->vs[i]?=some lv->W.cv r (j+i)=some y->lv.l.rd p.2 W.w W.fz y lv.x (W.om (.lf r (j+i)))
 | [],[],j,k,hg,hd,hl=>⟨[],hl,rfl,rfl,λi p lv y hp=>ADp⟩
 | [],_::_,j,k,hg,hd,hl=>hl.elim
 |_::_,[],j,k,hg,hd,hl=>hl.elim
 |(l,m)::ls,b::as,j,k,hg,hd,hl=>by
  simp only[EC,AAO]at hd;obtain⟨hdb,hd⟩:=hd;have hb:s.leaf r j=b:=hg 0 b rfl;obtain⟨h1,_⟩:=h.roots r;have h1:Aa s W (s.leaf r j) (W.cv r j) (W.om (.lf r j)):=h1 j;rw[hb]at h1
  have fin:∀(x:l.D),(s.data (ls.map (·.1)) (A3 r (j+1) as) λvs=>k (⟨l,x⟩::vs)).leads t->(∀y,W.cv r j=some y->l.rd m W.w W.fz y x (W.om (.lf r j)))->∃vs:List Lv,(k vs).leads t/\(b::as).length=((l,m)::ls).length/\vs.map (·.l)=((l,m)::ls).map (·.1)/\
    ∀(i:Nat)(p:L×Nat)(lv:Lv)(y:Value),((l,m)::ls)[i]?=some p->vs[i]?=some lv->W.cv r (j+i)=some y->lv.l.rd p.2 W.w W.fz y lv.x (W.om (.lf r (j+i))):=by
   intro x hl hx;obtain⟨vs,hl,hlen,hm,hvs⟩:=JV h r ls as (j+1) (λi b hi=>by have:=hg (i+1) b ADh;grind) hd hl;refine⟨_,hl,by simp[hlen],by simp[hm],λi p lv y hp hlv hy=>?_⟩;cases i with
   |zero=>grind
   |succ i=>
    grind
  cases b with
  |arr AB gen t0 e xs d=>
   have hdm:d=m\/(m=3/\d=2):=by simpa using hdb
   have hl:(s.Az l (.ref ⟨r,j,AB,gen,[]⟩) λx=>s.data (ls.map (·.1)) (A3 r (j+1) as) λvs=>k (⟨l,x⟩::vs)).leads t:=hl;simp only[St.Az,St.content,hb]at hl;rw[AAT (by simp[isNil])]at hl;simp only[N8]at hl;split at hl
   ·rename_i x hx;obtain⟨q1,q2⟩:=L.AH hx;subst q1;have q2:xs=x:=q2;subst q2;refine fin xs hl λy hy=>?_;obtain⟨u,hu,hrd⟩:=h1;rw[hy]at hu;injection hu with hu;subst hu
    rcases hdm with rfl|⟨rfl,rfl⟩
    ·exact hrd
    ·exact(L.CD _).2 hrd
   ·exact hl.elim
  |sc l0 x0=>
   have hl:(s.Az l (.sc l0 x0) λx=>s.data (ls.map (·.1)) (A3 r (j+1) as) λvs=>k (⟨l,x⟩::vs)).leads t:=hl;simp only[St.Az]at hl;split at hl
   ·rename_i x hx;obtain⟨q1,q2⟩:=L.AH hx;subst q1;have q2:x0=x:=q2;subst q2;refine fin x0 hl λy hy=>?_;obtain⟨ho,hrd⟩:=h1;have hrd:l0.rd 0 W.w W.fz y x0 []:=hrd y hy;rw[ho];simp only[AAh,AAb,AAY]at hdb;rcases hdb with hns|h0
    ·exact(L.AY l0 hns hrd).1
    grind
   ·exact hl.elim
  |_=>cases hdb
theorem Au:∀(ms:It)(t:Nat),has ms t=true↔t∈ms
 | [],t=>by simp[has]
 |m::ms,t=>by show(m==t||has ms t)=true↔_;rw[AAh,Au ms t,AAj,AAY];grind
theorem Ip(h:AW E s tm W){β:Type}{t:β}:∀(ps:List PM)(avs:List AV)(us:ADb) {k:List Lv->ADk->Step β},us.length=avs.length->(∀(i:Nat)(av:AV)(u:Value),avs[i]?=some av->us[i]?=some u->BQ s W av u)->(Ah s ps avs k).leads t->
  ∃(vss:List (List Lv)) (T:List PT),(k vss.flatten (T.flatMap PT.D0)).leads t/\avs.length=ps.length/\vss.length=ps.length/\T.length=ps.length/\(T.flatMap PT.D0).Pairwise NH/\
   ∀(i:Nat)(pm:PM)(av:AV)(u:Value)(vs:List Lv)(tg:PT),ps[i]?=some pm->avs[i]?=some av->us[i]?=some u->vss[i]?=some vs->T[i]?=some tg->Gp s W pm av tg u vs
 | [],[],us,k,hlen,hav,hl=>⟨[],[],hl,rfl,rfl,rfl,List.Pairwise.nil,λi pm av u vs tg hp=>ADp⟩
 | [],_::_,us,k,hlen,hav,hl=>by simp[Ah]at hl;exact hl.elim
 |pm::ps,[],us,k,hlen,hav,hl=>by cases pm<;>simp[Ah]at hl<;>exact hl.elim
 |pm::ps,av::avs,[],k,hlen,hav,hl=>ADn
 |pm::ps,av::avs,u::us,k,hlen,hav,hl=>by
  have hu:BQ s W av u:=hav 0 av u rfl rfl;have hav':∀(i:Nat)(av:AV)(u:Value),avs[i]?=some av->us[i]?=some u->BQ s W av u:=λi av' u' h1 h2=>hav (i+1) av' u' No No;have hlen':us.length=avs.length:=ADo
  have fin:∀(tg:PT)(vs:List Lv) {k':List Lv->ADk->Step β},(Ah s ps avs k').leads t->Gp s W pm av tg u vs->
    (∀(vss:List Lv)(T:List PT),(k' vss (T.flatMap PT.D0)).leads t->(k (vs++vss) (tg.D0++T.flatMap PT.D0)).leads t/\∀x∈tg.D0,∀z∈T.flatMap PT.D0,NH x z)->tg.D0.Pairwise NH->
    ∃(vss:List (List Lv)) (T:List PT),(k vss.flatten (T.flatMap PT.D0)).leads t/\(av::avs).length=(pm::ps).length/\vss.length=(pm::ps).length/\T.length=(pm::ps).length/\(T.flatMap PT.D0).Pairwise NH/\
     ∀(i:Nat)(pm':PM)(av':AV)(u':Value)(vs:List Lv)(tg:PT),(pm::ps)[i]?=some pm'->(av::avs)[i]?=some av'->(u::us)[i]?=some u'->vss[i]?=some vs->T[i]?=some tg->Gp s W pm' av' tg u' vs:=by
   intro tg vs k' hl hok hk hpw;obtain⟨vss,T,hl,h1,h2,h3,h4,h5⟩:=Ip h ps avs us hlen' hav' hl;obtain⟨hl,hfr⟩:=hk _ _ hl;refine⟨vs::vss,tg::T,No,by simp[h1],by simp[h2],by simp[h3],?_,?_⟩
   ·grind
   ·grind
  cases pm with
  |val g ls=>
   cases av with
   |Da vs=>simp only[Ah]at hl;exact hl.elim
   |bx as=>simp only[Ah]at hl;exact hl.elim
   |v g' as=>
    simp only[Ah]at hl;split at hl
    ·rename_i hg;have hg:g=g':=by simpa using hg
     subst hg;have hu:Ey s W g as u:=hu;obtain⟨vs,hl,hvl,hvm,hvs⟩:=FR h (g:=BI g u) (λj b hj=>Ca hu j b hj) hl;have hll:as.length=ls.length:=by rw[<-hvl,<-hvm];simp
     refine fin .none vs hl ⟨rfl,by rw[hvm];simp[Function.comp_def],?_,?_⟩ (λvss T hk=>⟨hk,λx hx=>by cases hx⟩) List.Pairwise.nil
     ·cases g with
      |true=>obtain⟨cs,hcs,hsz,_⟩:=hu;grind
      |false=>
       cases as with
       |nil=>exact hu.elim
       |cons b bs=>cases bs with
        |nil=>grind
        |cons=>exact hu.elim
     ·intro j p lv hp hlv;obtain⟨y,hy,hr⟩:=hvs j lv hlv;rw[AAf]at hp;cases hq:ls[j]? with
      |none=>grind
      |some l=>
       rw[hq]at hp;injection hp with hp;subst hp
       exact⟨y,hy,hr⟩
    ·exact hl.elim
  |box ls=>
   unfold Ah at hl;split at hl<;>try exact hl.elim
   ·rename_i e1 _;cases e1
   ·rename_i e1 _;cases e1
   ·rename_i ls' ps' r AB vs' e1 e2;injection e1 with e1 e1';injection e1 with e1;subst e1;subst e1'
    injection e2 with e2 e2';subst e2;subst e2'
    split at hl
    ·rename_i hcond;simp only[AAO,AAY]at hcond;obtain⟨⟨hb,hver⟩,hdeep⟩:=hcond;obtain⟨vs,hl,hlen2,hvm,hvs⟩:=JV h r ls (s.root r).ls 0 (λi b hi=>by unfold St.leaf;rw[AAe,Ad,hi];rfl) hdeep hl;refine fin (.box r) vs hl ⟨r,AB,rfl,rfl,hb,hlen2,hu hb hver,hvm,λj p lv y hp hlv hy=>?_⟩ ?_ (by simp[PT.D0])
     ·have:=hvs j p lv y hp hlv (by rw[AAe];exact hy);rwa[AAe]at this
     ·intro vss T hk;split at hk
      ·exact hk.elim
      ·rename_i hnot;refine⟨by simpa[PT.D0]using hk,λx hx z hz=>?_⟩;simp only[PT.D0,List.mem_singleton]at hx;subst hx;show Tg.DS z (r,none)=false;cases hq:Tg.DS z (r,none)with
       |false=>rfl
       |true=>exact absurd (AA6.2 ⟨z,hz,hq⟩) hnot
    ·exact hl.elim
   all_goals grind
  |row g ls=>
   cases av with
   |Da vs=>simp only[Ah]at hl;exact hl.elim
   |bx as=>simp only[Ah]at hl;exact hl.elim
   |v g' as=>
    simp only[Ah]at hl;split at hl
    ·rename_i hg;have hg:g=g':=by simpa using hg
     subst hg;have hu:Ey s W g as u:=hu;obtain⟨vs,l,hl,h1,h2,h3,h4,h5⟩:=Hu h ls as (BI g u) (λj b hj=>Ca hu j b hj) hl;refine fin (.row l) vs hl ⟨as,l,rfl,rfl,h1,h2,h3,?_,h5⟩ ?_ h4
     ·cases g with
      |true=>obtain⟨cs,hcs,hsz,_⟩:=hu;grind
      |false=>
       cases as with
       |nil=>exact hu.elim
       |cons b bs=>cases bs with
        |nil=>grind
        |cons=>exact hu.elim
     ·intro vss T hk;split at hk
      ·exact hk.elim
      ·rename_i hno;refine⟨hk,λx hx z hz=>?_⟩;show Tg.DS z x=false;cases hq:Tg.DS z x with
       |false=>rfl
       |true=>exact absurd (AA6.2 ⟨x,hx,AA6.2 ⟨z,hz,hq⟩⟩) hno
    ·exact hl.elim
  |fn f=>
   unfold Ah at hl;split at hl<;>try exact hl.elim
   ·grind
   ·grind
   ·grind
   ·grind
   ·rename_i f' ps' g vs' e1 e2;injection e1 with e1 e1';injection e1 with q1;subst q1;subst e1'
    injection e2 with e2 e2';subst e2;subst e2'
    split at hl
    ·rename_i hfg;have hfg:f=g:=by simpa using hfg
     subst hfg;exact fin .none [] hl ⟨rfl,hu,rfl⟩ (λvss T hk=>⟨by simpa[PT.D0]using hk,λx hx=>by cases hx⟩) List.Pairwise.nil
    ·exact hl.elim
end
end Go.Ev
namespace Go.Ev
section
variable {P:Program}{E:Ci}{s:St}{W:Wd}{o:Oper}{a:Act}{ws:List Wr}{cx:Cx}{v:Nat}{tm:Array Value}
theorem JL.Hh{s':St}{W':Wd}{rs:It}(h:JL s s' W W' rs)(hv:Ai s v):Ai s' v:=by
 refine⟨λt=>?_,λr j=>?_,hv.2.2⟩
 ·have:s'.slot t=s.slot t:=by show nth _ s'.sl t=_;rw[h.same.sl];rfl
  rw[this];exact hv.1 t
 ·rcases h.OA r j with e|e
  ·rw[e];exact hv.2.1 r j
  ·rw[e];have:=hv.2.1 r j;cases hq:s.leaf r j with
   |arr=>exact .inl rfl
   |_=>rw[hq]at this;exact this
theorem MI{s s':St}(h:s'.sl=s.sl)(x:Operand):s'.Ar x=s.Ar x:=by
 cases x with
 |tmp t=>show nth _ s'.sl t=nth _ s.sl t;rw[h]
 |const c=>cases c<;>rfl
 |global g=>rfl
 |func f=>rfl
theorem MH(hc:Dh P cx)(hft:Lc P cx.env)(h:AW E s a.tmps W)(hv:Ai s v){t:TypeId}{x y:Operand}(ho:o.op=.store t x y)(hl:(AA cx v o s).leads ws):BU P E o a W.w (s.app ws):=by
 simp only[AA,ho]at hl;have h1:=Ac h x;have h2:=BK h y;have hva:=Fi hv y;split at hl
 ·rename_i ty g as ht hy;rw[hy]at h2 hva;split at hl
  ·obtain⟨ws0,rfl,hg⟩:=Gb hc h hv ho ht h1 h2 hva hl;exact hg
  ·rename_i r rs hn;split at hl
   ·rename_i fs hfs;obtain⟨W1,hr1,fr,_⟩:=EY h hv hfs;have e1:(s.app fs).Af x=s.Af x:=by unfold St.Af;rw[MI fr.same.sl]
    have e2:(s.app fs).Ar y=s.Ar y:=MI fr.same.sl y;have k1:=Ac hr1 x;have k2:=BK hr1 y;rw[e1]at k1;rw[e2,hy]at k2;obtain⟨ws0,rfl,hg⟩:=Gb hc hr1 (fr.Hh hv) ho ht k1 k2 hva hl;rw[fr.w]at hg;rw[Ay];exact hg
   ·exact hl.elim
 ·rename_i p ht;unfold H0 at hl;generalize hy:s.Ar y=p at hl;split at hl
  ·rename_i g ps qs;split at hl
   ·rename_i hf;split at hl
    ·rename_i r j AB hx;split at hl
     ·rename_i hdst;split at hl
      ·rename_i hcond;simp only[AAO,AAY,AAk]at hcond;obtain⟨⟨hb,hver⟩,hfit⟩:=hcond;have hl:_=ws:=hl;obtain⟨i,z,c,hi,hsz,_⟩:=hft t hf;rw[hy]at h2 hva;have h2:AT s W (.D1 g ps qs) (a.eval y):=h2;rw[hx]at h1;have hone:(a.eval y).oneCell'=true:=by obtain⟨bs,hu,_⟩:=h2;rw[hu];rfl
       have hcells:=cells_one hone;obtain⟨_,hbox⟩:=h.roots r;rw[AAT hb]at hbox;obtain⟨_,arr,T,fr,hh,hbare,hasz,_⟩:=hbox;obtain⟨w',hrun,hput⟩:=Ec (P:=P) (o:=j) (a.eval y).cells.toList hh hbare (by rw[hcells];simp;omega) (by rw[hcells];intro u hu;simp at hu;subst hu;exact hone)
       obtain⟨W',hW',hrep⟩:=h.J4 hv (j:=j) hb (us:=[]) (bs:=[.D1 g ps qs]) (os:=λ_=>[]) (cells:=(a.eval y).cells.toList) (by rw[hcells];rfl) (by simpa using hfit)
        (λm b hm=>by
         cases m with
         |zero=>
          simp at hm;subst hm;refine⟨a.eval y,by rw[hcells];rfl,hone,AAX,(λb hb=>by cases hb),rfl,h2,λhin=>hva ?_⟩;simpa[AV.AF]using hin
         |succ m=>simp at hm) (λ_ _ _ b hb=>by cases hb) (λm hm=>rfl) hh hput
       have hws:ws=gone []++A5 r j [.D1 g ps qs]:=hl.symm;rw[hws];exact Dt ho hdst (h1 hb hver) hi (by rw[hcells,hsz];rfl) (by rw[hW'];exact hrun) hrep
      ·exact hl.elim
     ·exact hl.elim
    ·exact hl.elim
   ·exact hl.elim
  ·exact hl.elim
 ·exact hl.elim
end
end Go.Ev
namespace Go.Ev
abbrev IA:=List PT
theorem Tg.IS(a b:Tg):Tg.DS a b=Tg.DS b a:=by obtain⟨r,m⟩:=a;obtain⟨r',m'⟩:=b;unfold Tg.DS;grind
theorem Ed{T:IA}(hn:(T.flatMap PT.D0).Pairwise NH){i i':Nat}{p p':PT}(h:T[i]?=some p)(h':T[i']?=some p')(hne:i≠i'){x y:Tg}(hx:x∈p.D0)(hy:y∈p'.D0):Tg.DS x y=false:=by
 have hp:=(List.pairwise_flatMap.1 hn).2;rw[ABN]at hp;obtain⟨hi,rfl⟩:=AAP.1 h;obtain⟨hi',rfl⟩:=AAP.1 h';rcases ABK hne with hlt|hlt
 ·have:=hp i i' hi hi' hlt x hx y hy;rw[Tg.IS];exact this
 ·exact hp i' i hi' hi hlt y hy x hx
theorem Hv{l:List (Option (Loc×It))}{j:Nat}{c:Loc}{o:It}(h:l[j]?=some (some (c,o))):(c.r,some c.j)∈(PT.row l).D0:=List.mem_filterMap.2 ⟨_,AAS h,rfl⟩
theorem LP{T:IA}(hn:(T.flatMap PT.D0).Pairwise NH){i j j':Nat}{l:List (Option (Loc×It))}{c c':Loc}{o o':It}(h:T[i]?=some (.row l))(hj:l[j]?=some (some (c,o)))(hj':l[j']?=some (some (c',o')))(hne:j≠j'):¬(c.r=c'.r/\c.j=c'.j):=by
 have hp:=(List.pairwise_flatMap.1 hn).1 _ (AAS h);have hp:l.Pairwise λa b=>∀x,(a.map λp=>((p.1.r,some p.1.j):Tg))=some x->∀y,(b.map λp=>((p.1.r,some p.1.j):Tg))=some y->NH x y:=List.pairwise_filterMap.1 hp;rw[ABN]at hp;obtain⟨hi,e1⟩:=AAP.1 hj;obtain⟨hi',e2⟩:=AAP.1 hj'
 rintro ⟨q1,q2⟩
 have hh:Tg.DS (c.r,some c.j) (c'.r,some c'.j)=true:=by simp[Tg.DS,q1,q2]
 rcases ABK hne with hlt|hlt
 ·have:=hp j j' hi hi' hlt (c.r,some c.j) (by rw[e1];rfl) (c'.r,some c'.j) (by rw[e2];rfl);rw[Tg.IS,show Tg.DS (c'.r,some c'.j) (c.r,some c.j)=false from this]at hh;cases hh
 ·have:=hp j' j hi' hi hlt (c'.r,some c'.j) (by rw[e2];rfl) (c.r,some c.j) (by rw[e1];rfl);rw[show Tg.DS (c.r,some c.j) (c'.r,some c'.j)=false from this]at hh;cases hh
def AQ(T:IA):Key->Option Key
 | .blk i=>match T[i]? with
  |some (.box r)=>some (.blk r)
  |_=>none
 | .lf i j=>match T[i]? with
  |some (.box r)=>some (.lf r j)
  |some (.row l)=>match l[j]? with
   |some (some p)=>some (.lf p.1.r p.1.j)
   |_=>none
  |_=>none
 | .fl _=>none
theorem BB{T:IA}{i:Nat}{a:Key}(h:AQ T (.blk i)=some a):∃r,a=.blk r/\T[i]?=some (.box r):=by simp only[AQ]at h;grind
theorem A9{T:IA}{i j:Nat}{a:Key}(h:AQ T (.lf i j)=some a):(∃r,a=.lf r j/\T[i]?=some (.box r))\/∃l c o,a=.lf c.r c.j/\T[i]?=some (.row l)/\l[j]?=some (some (c,o)):=by simp only[AQ]at h;grind
theorem BS{T:IA}(hn:(T.flatMap PT.D0).Pairwise NH){k k' a:Key}(h:AQ T k=some a)(h':AQ T k'=some a):k=k':=by
 have hbb:∀ {i i' r:Nat},T[i]?=some (.box r)->T[i']?=some (.box r)->i=i':=by intro i i' r h h';refine AAq λhne=>?_;have:=Ed hn h h' hne (x:=(r,none)) (y:=(r,none)) (by simp[PT.D0]) (by simp[PT.D0]);simp[Tg.DS]at this
 cases k with
 |fl k=>cases h
 |blk i=>
  obtain⟨r,rfl,hT⟩:=BB h;cases k' with
  |fl k=>cases h'
  |blk i'=>
   obtain⟨r',e,hT'⟩:=BB h';grind
  |lf i' j'=>rcases A9 h' with⟨r',e,_⟩|⟨l,c,o,e,_⟩<;>cases e
 |lf i j=>
  cases k' with
  |fl k=>cases h'
  |blk i'=>
   obtain⟨r',e,hT'⟩:=BB h';subst e;rcases A9 h with⟨r',e,_⟩|⟨l,c,o,e,_⟩<;>cases e
  |lf i' j'=>
   rcases A9 h with⟨r,rfl,hT⟩|⟨l,c,o,rfl,hT,hl⟩
   ·rcases A9 h' with⟨r',e,hT'⟩|⟨l',c',o',e,hT',hl'⟩
    ·grind
    ·injection e with e1 e2
     by_cases hi:i=i'
     ·grind
     ·have:=Ed hn hT hT' hi (x:=(r,none)) (y:=(c'.r,some c'.j)) (by simp[PT.D0]) (Hv hl');simp[Tg.DS,e1]at this
   ·rcases A9 h' with⟨r',e,hT'⟩|⟨l',c',o',e,hT',hl'⟩
    ·injection e with e1 e2
     by_cases hi:i=i'
     ·grind
     ·have:=Ed hn hT hT' hi (x:=(c.r,some c.j)) (y:=(r',none)) (Hv hl) (by simp[PT.D0]);simp[Tg.DS,e1]at this
    ·injection e with e1 e2
     by_cases hi:i=i'
     ·subst hi;rw[hT]at hT';injection hT' with hT';injection hT' with hT';subst hT'
      by_cases hj:j=j'
      ·rw[hj]
      ·exact absurd ⟨e1,e2⟩ (LP hn hT hl hl' hj)
     ·have:=Ed hn hT hT' hi (x:=(c.r,some c.j)) (y:=(c'.r,some c'.j)) (Hv hl) (Hv hl');simp[Tg.DS,e1,e2]at this
theorem BZ(v:Nat):∀(ls:List (L×Nat)) (vs:List Lv),vs.length=ls.length->(AX v ls vs).length=ls.length
 | [],_,_=>by simp[AX]
 |_::_,[],h=>ADf
 |(_,m)::ls,x::xs,h=>by simp[AX,BZ v ls xs ADi]
theorem Bs(v:Nat):∀(ls:List (L×Nat)) (vs:List Lv) (j:Nat) (p:L×Nat) (lv:Lv),ls[j]?=some p->vs[j]?=some lv->(AX v ls vs)[j]?=some (BH v p.2 lv)
 | [],_,j,p,lv,h,_=>ADf
 |_::_,[],j,p,lv,_,h=>ADf
 |(l,m)::ls,x::xs,0,p,lv,h1,h2=>by simp at h1 h2;subst h1;subst h2;simp[AX]
 |(l,m)::ls,x::xs,j+1,p,lv,h1,h2=>by simp[AX];exact Bs v ls xs j p lv No No
theorem C3(v:Nat):∀(ls:List (L×Nat)) (vs ws:List Lv),vs.length=ls.length->AX v ls (vs++ws)=AX v ls vs
 | [],vs,ws,h=>by cases vs<;>simp[AX]
 |_::_,[],_,h=>ADf
 |(l,m)::ls,x::xs,ws,h=>by simp[AX,C3 v ls xs ws ADi]
theorem C0(s:St)(r v:Nat):∀(k:Nat) (ls:List (L×Nat)) (vs:List Lv),vs.length=ls.length->(AU s r v k ls vs).length=ls.length
 |_,[],_,_=>by simp[AU]
 |_,_::_,[],h=>ADf
 |k,(_,m)::ls,x::xs,h=>by simp[AU,C0 s r v (k+1) ls xs ADi]
theorem B9(s:St)(r v:Nat):∀(k:Nat) (ls:List (L×Nat)) (vs:List Lv) (j:Nat) (p:L×Nat) (lv:Lv),ls[j]?=some p->vs[j]?=some lv->(AU s r v k ls vs)[j]?=some (CY (s.leaf r (k+j)) v p.2 lv)
 |_,[],_,j,p,lv,h,_=>ADf
 |_,_::_,[],j,p,lv,_,h=>ADf
 |k,(l,m)::ls,x::xs,0,p,lv,h1,h2=>by simp at h1 h2;subst h1;subst h2;simp[AU]
 |k,(l,m)::ls,x::xs,j+1,p,lv,h1,h2=>by simp only[AU,AA4];rw[B9 s r v (k+1) ls xs j p lv No No,Nat.add_right_comm];rfl
theorem Dy(s:St)(r v:Nat):∀(k:Nat) (ls:List (L×Nat)) (vs ws:List Lv),vs.length=ls.length->AU s r v k ls (vs++ws)=AU s r v k ls vs
 |_,[],vs,ws,h=>by cases vs<;>simp[AU]
 |_,_::_,[],_,h=>ADf
 |k,(l,m)::ls,x::xs,ws,h=>by simp[AU,Dy s r v (k+1) ls xs ws ADi]
theorem Cz(a:LA)(v m:Nat)(x:Lv):CY a v m x=BH v m x\/∃(AB gen:Nat) (t:TypeId) (e:Ls) (xs y:List e.D),m=3/\a=.arr AB gen t e xs 2/\x=⟨.sl t e,y⟩/\CY a v m x=.arr AB v t e y 2:=by
 by_cases hm:m=3
 ·subst hm;cases a with
  |arr AB gen t e xs d=>
   by_cases hd:d=2
   ·subst hd;cases hq:L.cast (.sl t e) (a:=x.l) x.x with
    |none=>left;simp[CY,hq]
    |some y=>
     right;refine⟨AB,gen,t,e,xs,y,rfl,rfl,?_,by simp[CY,hq]⟩;obtain⟨l,x⟩:=x;obtain⟨q1,q2⟩:=L.AH hq;dsimp only at q1 q2;subst q1;have q2:x=y:=q2;rw[q2]
   ·left;have:(d==2)=false:=by simpa using hd
    simp[CY,this]
  |_=>left;rfl
 ·left;have:(m==3)=false:=ADl
  simp[CY,this]
section
variable {P:Program}{E:Ci}{s:St}{W:Wd}{v:Nat}{tm:Array Value}{cx:Cx}
theorem FA{s':St}{W':Wd}{m:Nat}{lv:Lv}{y:Value}{o:It}(h:lv.l.rd m W'.w W'.fz y lv.x o):Aa s' W' (BH v m lv) (some y) o:=by
 obtain⟨l,x⟩:=lv;cases l with
 |sl t e=>
  cases m with
  |zero=>exact⟨AE.zero h,λu hu=>by injection hu with hu;subst hu;have:=AE.zero h;subst this;exact h⟩
  |succ m=>exact⟨y,rfl,h⟩
 |int k=>
  obtain⟨h1,h2⟩:=L.AY (.int k) rfl h (d':=0) (w':=W'.w) (fz':=W'.fz);subst h2;exact⟨rfl,λu hu=>by injection hu with hu;subst hu;exact h1⟩
 |bool=>
  obtain⟨h1,h2⟩:=L.AY .bool rfl h (d':=0) (w':=W'.w) (fz':=W'.fz);subst h2;exact⟨rfl,λu hu=>by injection hu with hu;subst hu;exact h1⟩
 |str=>
  obtain⟨h1,h2⟩:=L.AY .str rfl h (d':=0) (w':=W'.w) (fz':=W'.fz);subst h2;exact⟨rfl,λu hu=>by injection hu with hu;subst hu;exact h1⟩
theorem Jq{m:Nat}{lv:Lv}{AB gen:Nat}{t:TypeId}{e:Ls}{xs:List e.D}{d:Nat}(h:BH v m lv=.arr AB gen t e xs d):AB=v/\gen=v:=by
 obtain⟨l,x⟩:=lv;cases l with
 |sl t0 e0=>cases m with
  |zero=>cases h
  |succ m=>
   have h:LA.arr v v t0 e0 x (m+1)=_:=h;grind
 |_=>cases h
def Ej(s:St)(v:Nat)(ls:List (L×Nat))(as:List LA)(vs:List Lv)(j:Nat)(u:Up):Prop:=
 ∃(p:L×Nat) (c:Loc) (lv:Lv) (AB gen:Nat) (t0:TypeId) (e0:Ls) (xs0:List e0.D) (d0:Nat) (F:List e0.D->List e0.D),ls[j]?=some p/\Bi p.1=true/\as[j]?=some (.ref c)/\vs[j]?=some lv/\s.leaf c.r c.j=.arr AB gen t0 e0 xs0 d0/\Jm (Nn lv) c.p t0 e0=some F/\
  u=⟨c.r,c.j,[.arr AB v t0 e0 (F xs0) d0]⟩
theorem Ej.uniq{ls:List (L×Nat)}{as:List LA}{vs:List Lv}{j:Nat}{u u':Up}(h:Ej s v ls as vs j u)(h':Ej s v ls as vs j u'):u=u':=by
 obtain⟨p,c,lv,AB,gen,t0,e0,xs0,d0,F,h1,h2,h3,h4,h5,h6,rfl⟩:=h;obtain⟨p',c',lv',ver',gen',t0',e0',xs0',d0',F',g1,g2,g3,g4,g5,g6,rfl⟩:=h';rw[h3]at g3;injection g3 with g3;injection g3 with g3;subst g3
 rw[h4]at g4;injection g4 with g4;subst g4
 rw[h5]at g5;injection g5 with a1 a2 a3 a4 a5 a6
 subst a1;subst a3;subst a4;grind
def J9(s:St)(v:Nat)(ls:List (L×Nat))(as:List LA)(vs:List Lv)(us:List Up):Prop:=
 (∀u∈us,∃j,Ej s v ls as vs j u)/\∀(j:Nat)(p:L×Nat),ls[j]?=some p->Bi p.1=true->∃u∈us,Ej s v ls as vs j u
theorem Ej.succ{p:L×Nat}{a:LA}{lv:Lv}{ls:List (L×Nat)}{as:List LA}{vs:List Lv}{j:Nat}{u:Up}(h:Ej s v ls as vs j u):Ej s v (p::ls) (a::as) (lv::vs) (j+1) u:=by obtain⟨p,c,lv,AB,gen,t0,e0,xs0,d0,F,h1,h2,h3,h4,h5,h6,rfl⟩:=h;exact⟨p,c,lv,AB,gen,t0,e0,xs0,d0,F,No,h2,No,No,h5,h6,rfl⟩
theorem Ie:∀(ls:List (L×Nat)) (as:List LA) (vs rest:List Lv) {ws:List Wr},vs.length=ls.length->putRow s v ls as (vs++rest)=some ws->∃us,ws=ER us/\J9 s v ls as vs us
 | [],[],vs,rest,ws,hlen,h=>by simp only[putRow,Option.some.injEq]at h;subst h;exact⟨[],rfl,⟨λu hu=>(by cases hu),λj p hp=>ADp⟩⟩
 | [],_::_,vs,rest,ws,hlen,h=>by simp[putRow]at h
 |_::_,[],vs,rest,ws,hlen,h=>by simp[putRow]at h
 |_::_,_::_,[],rest,ws,hlen,h=>ADn
 |(l,d)::ls,a::as,x::vs,rest,ws,hlen,h=>by
  simp only[ABH,putRow]at h;split at h
  ·rename_i ws' hws;obtain⟨us,rfl,h1,h2⟩:=Ie ls as vs rest No hws
   have plain:Bi l=false->some (ER us)=some ws->∃us,ws=ER us/\J9 s v ((l,d)::ls) (a::as) (x::vs) us:=by
    intro hs h;injection h with h
    refine⟨us,h.symm,λu hu=>?_,λj p hp hps=>?_⟩
    ·obtain⟨j,hj⟩:=h1 u hu;exact⟨j+1,hj.succ⟩
    ·cases j with
     |zero=>grind
     |succ j=>
      obtain⟨u,hu,hr⟩:=h2 j p No hps;exact⟨u,hu,hr.succ⟩
   cases l with
   |int i=>exact plain rfl h
   |bool=>exact plain rfl h
   |str=>exact plain rfl h
   |sl t e=>
    cases a with
    |ref c=>
     dsimp only at h;split at h
     ·rename_i AB gen t0 e0 xs0 d0 hq;split at h
      ·rename_i F hF;injection h with h
       have hu:Ej s v ((.sl t e,d)::ls) (.ref c::as) (x::vs) 0 ⟨c.r,c.j,[.arr AB v t0 e0 (F xs0) d0]⟩:=⟨_,c,x,AB,gen,t0,e0,xs0,d0,F,rfl,rfl,rfl,rfl,hq,hF,rfl⟩;refine⟨⟨c.r,c.j,[.arr AB v t0 e0 (F xs0) d0]⟩::us,?_,λu hu'=>?_,λj p hp hps=>?_⟩
       ·rw[<-h];simp[ER,A5]
       ·rcases AAj.1 hu' with rfl|hu'
        ·grind
        ·obtain⟨j,hj⟩:=h1 u hu';exact⟨j+1,hj.succ⟩
       ·cases j with
        |zero=>grind
        |succ j=>
         obtain⟨u,hu,hr⟩:=h2 j p No hps;exact⟨u,AAR _ hu,hr.succ⟩
      ·cases h
     ·cases h
    |_=>cases h
  ·cases h
def Mg(s:St)(v:Nat)(pm:PM)(av:AV)(vs:List Lv)(uo:List Up):Prop:=match pm with
 | .box ls=>∃r AB,av=.v false [.ptr r 0 AB]/\uo=[⟨r,0,AU s r v 0 ls vs⟩]
 | .row _ ls=>∃g as,av=.v g as/\J9 s v ls as vs uo
 |_=>uo=[]
theorem GX:∀(ps:List PM)(avs:List AV) (vss:List (List Lv)) {ws:List Wr},vss.length=ps.length->(∀(i:Nat)(pm:PM)(vs:List Lv),ps[i]?=some pm->vss[i]?=some vs->vs.length=pm.outs.length)->AR s v ps avs vss.flatten=some ws->
  ∃U:List (List Up),ws=ER U.flatten/\U.length=ps.length/\∀(i:Nat)(pm:PM)(av:AV)(vs:List Lv)(uo:List Up),ps[i]?=some pm->avs[i]?=some av->vss[i]?=some vs->U[i]?=some uo->Mg s v pm av vs uo
 | [],avs,[],ws,hlen,hv,h=>by
  cases avs with
  |nil=>simp[AR]at h;subst h;exact⟨[],rfl,rfl,λi pm av vs uo h1=>by simp at h1⟩
  |cons a as=>simp[AR]at h
 | [],avs,_::_,ws,hlen,hv,h=>ADn
 |_::_,avs,[],ws,hlen,hv,h=>ADn
 |pm::ps,avs,vs::vss,ws,hlen,hv,h=>by
  have hlen':vss.length=ps.length:=ADo
  have hv':∀(i:Nat)(pm:PM)(vs:List Lv),ps[i]?=some pm->vss[i]?=some vs->vs.length=pm.outs.length:=λi pm' vs' h1 h2=>hv (i+1) pm' vs' No No;have h0:=hv 0 pm vs rfl rfl;cases avs with
  |nil=>cases pm<;>simp[AR]at h
  |cons av avs=>
   have fin:∀(uo:List Up) {ws':List Wr},AR s v ps avs vss.flatten=some ws'->ws=ER uo++ws'->Mg s v pm av vs uo->
     ∃U:List (List Up),ws=ER U.flatten/\U.length=(pm::ps).length/\∀(i:Nat)(pm':PM)(av':AV)(vs':List Lv)(uo:List Up),(pm::ps)[i]?=some pm'->(av::avs)[i]?=some av'->(vs::vss)[i]?=some vs'->U[i]?=some uo->Mg s v pm' av' vs' uo:=by
    intro uo ws' hp hw hok;obtain⟨U,h1,h2,h3⟩:=GX ps avs vss hlen' hv' hp;refine⟨uo::U,?_,by simp[h2],?_⟩
    ·rw[hw,h1];simp[ER]
    ·grind
   cases pm with
   |val g ls=>
    have hvs:vs=[]:=AAV (by simpa[PM.outs]using h0);subst hvs;simp only[AR,AAo,AA2]at h;exact fin [] h rfl rfl
   |fn f=>
    have hvs:vs=[]:=AAV (by simpa[PM.outs]using h0);subst hvs;simp only[AR,AAo,AA2]at h;exact fin [] h rfl rfl
   |box ls=>
    have hvl:vs.length=ls.length:=by simpa[PM.outs]using h0
    simp only[AAo]at h;unfold AR at h;split at h<;>try cases h
    ·rename_i e1 _;cases e1
    ·rename_i e1 _;cases e1
    ·rename_i e1 _;cases e1
    ·rename_i ls' ps' r AB avs' e1 e2;injection e1 with e1 e1';injection e1 with e1;subst e1;subst e1'
     injection e2 with e2 e2';subst e2;subst e2'
     split at h
     ·rename_i ws' hws;injection h with h;subst h
      rw[<-hvl,AA5]at hws;refine fin [⟨r,0,AU s r v 0 ls vs⟩] hws ?_ ⟨r,AB,rfl,rfl⟩;rw[Dy s r v 0 ls vs _ hvl];simp[ER]
     ·cases h
    grind
   |row g ls=>
    have hvl:vs.length=ls.length:=by simpa[PM.outs]using h0
    simp only[AAo]at h;cases av with
    |Da bs=>simp[AR]at h
    |bx bs=>simp[AR]at h
    |v g' as=>
     simp only[AR]at h;split at h
     ·rename_i us ws' hus hws;injection h with h;subst h
      rw[<-hvl,AA5]at hws;obtain⟨uo,rfl,hr⟩:=Ie ls as vs _ hvl hus;exact fin uo hws rfl ⟨g',as,rfl,hr⟩
     ·cases h
theorem Jd(r j:Nat):∀(us:List Up)(a:LA),(∀u∈us,¬(r=u.r/\u.lo<=j/\j<u.lo+u.news.length))->us.foldl (λa u=>if r=u.r/\u.lo<=j/\j<u.lo+u.news.length then nth .bad u.news (j-u.lo)else a) a=a
 | [],_,_=>rfl
 |u::us,a,h=>by rw[List.foldl_cons,AAU (h u AAB)];exact Jd r j us a λx hx=>h x (AAR _ hx)
theorem Ir(r j:Nat){x:LA}:∀(us:List Up)(a:LA),(∀u∈us,r=u.r/\u.lo<=j/\j<u.lo+u.news.length->nth .bad u.news (j-u.lo)=x)->(a=x\/∃u∈us,r=u.r/\u.lo<=j/\j<u.lo+u.news.length)->
  us.foldl (λa u=>if r=u.r/\u.lo<=j/\j<u.lo+u.news.length then nth .bad u.news (j-u.lo)else a) a=x
 | [],a,h,he=>No
 |u::us,a,h,he=>by rw[List.foldl_cons];refine Ir r j us _ (λy hy=>h y (AAR _ hy)) ?_;grind
def FI(w:World)(fz:Nat->Prop)(v:Nat)(b:LA)(y:Value)(o:It):Prop:=match b with
 | .arr AB gen t e xs m=>AB=v/\gen=v/\AE e m w fz y xs o
 | .bad=>o=[]
 |_=>False
theorem JU{w:World}{fz:Nat->Prop}{d:Nat}{om:Nat->It}:∀(ls:List (L×Nat)) (vs rest:List Lv) (off:Nat) (G:Nat->Option Value) {as rs:List LA} {left:List Lv},vs.length=ls.length->(∀(j:Nat)(p:L×Nat)(lv:Lv),ls[j]?=some p->vs[j]?=some lv->∃y,G j=some y/\lv.l.rd p.2 w fz y lv.x (om (off+j)))->
  JT d v ls (vs++rest) off=some (as,rs,left)->left=rest/\as.length=ls.length/\∃ys:ADb,ys.length=ls.length/\rs.length=ls.length/\(∀k,k<ls.length->ys[k]?=G k)/\(∀(k:Nat)(b:LA),rs[k]?=some b->∃y,ys[k]?=some y/\FI w fz v b y (om (off+k)))/\
   ∀(s':St)(W':Wd),W'.w=w->W'.fz=fz->(∀k,k<ls.length->s'.leaf d (off+k)=nth .bad rs k/\W'.cv d (off+k)=ys[k]?)->∀(k:Nat)(b:LA),as[k]?=some b->∃y,ys[k]?=some y/\AT s' W' b y
 | [],vs,rest,off,G,as,rs,left,hlen,hv,h=>by have:vs=[]:=AAV hlen;subst this;simp only[JT,AA2,Option.some.injEq,Prod.mk.injEq]at h;obtain⟨rfl,rfl,rfl⟩:=h;exact⟨rfl,rfl,[],rfl,rfl,(λk hk=>by simp at hk),(λk b hb=>by simp at hb),λs' W' _ _ _ k b hb=>by simp at hb⟩
 |_::_,[],rest,off,G,as,rs,left,hlen,hv,h=>ADn
 |(l,m)::ls,lv::vs,rest,off,G,as,rs,left,hlen,hv,h=>by
  obtain⟨l',x⟩:=lv;simp only[ABH,JT]at h;split at h
  ·rename_i as' rs' left' hb
   obtain⟨h1,h2,ys,h3,h4,h5,h6,h7⟩:=JU ls vs rest (off+1) (λj=>G (j+1)) No (λj p lv hp hlv=>by
    have:=hv (j+1) p lv No No;rwa[show off+(j+1)=off+1+j by omega]at this) hb
   obtain⟨y,hy,hr⟩:=hv 0 (l,m) ⟨l',x⟩ rfl rfl;dsimp only[Nat.add_zero]at hr
   have fin:∀(a b:LA),(some (a::as',b::rs',left')=some (as,rs,left))->FI w fz v b y (om off)->(∀(s':St)(W':Wd),W'.w=w->W'.fz=fz->s'.leaf d off=b->W'.cv d off=some y->AT s' W' a y)->
     left=rest/\as.length=((l,m)::ls).length/\∃ys:ADb,ys.length=((l,m)::ls).length/\rs.length=((l,m)::ls).length/\(∀k,k<((l,m)::ls).length->ys[k]?=G k)/\(∀(k:Nat)(b:LA),rs[k]?=some b->∃y,ys[k]?=some y/\FI w fz v b y (om (off+k)))/\
      ∀(s':St)(W':Wd),W'.w=w->W'.fz=fz->(∀k,k<((l,m)::ls).length->s'.leaf d (off+k)=nth .bad rs k/\W'.cv d (off+k)=ys[k]?)->∀(k:Nat)(b:LA),as[k]?=some b->∃y,ys[k]?=some y/\AT s' W' b y:=by
    intro a b he hown hla;injection he with he;injection he with e1 he;injection he with e2 e3
    subst e1;subst e2;subst e3;refine⟨h1,by simp[h2],y::ys,by simp[h3],by simp[h4],?_,?_,?_⟩
    ·grind
    ·grind
    ·intro s' W' hw hz hs k b' hb';cases k with
     |zero=>
      simp at hb';subst hb';obtain⟨q1,q2⟩:=hs 0 AAB;exact⟨y,rfl,hla s' W' hw hz q1 q2⟩
     |succ k=>
      obtain⟨y',hy',ho⟩:=h7 s' W' hw hz (λk hk=>by
       have:=hs (k+1) ADa;rw[show off+1+k=off+(k+1) by omega];exact⟨this.1.trans rfl,this.2.trans AAB⟩) k b' (by simpa using hb')
      grind
   cases l' with
   |sl t e=>
    cases m with
    |zero=>
     refine fin _ _ h (AE.zero hr) λs' W' hw hz _ _=>?_;have:=AE.zero hr;rw[this]at hr;show(L.sl t e).rd 0 W'.w W'.fz y x [];grind
    |succ m=>
     refine fin _ _ h ⟨rfl,rfl,hr⟩ λs' W' hw hz hl hc=>?_;intro gen t' e' xs' d' hl' hp;exact⟨y,e',hc,rfl,rfl⟩
   |int k=>
    obtain⟨q1,q2⟩:=L.AY (.int k) rfl hr (d':=0) (w':=w) (fz':=fz);rw[q2]at q1;exact fin _ _ h q2 λs' W' hw hz _ _=>by show(L.int k).rd 0 W'.w W'.fz y x [];grind
   |bool=>
    obtain⟨q1,q2⟩:=L.AY .bool rfl hr (d':=0) (w':=w) (fz':=fz);rw[q2]at q1;exact fin _ _ h q2 λs' W' hw hz _ _=>by show L.bool.rd 0 W'.w W'.fz y x [];grind
   |str=>
    obtain⟨q1,q2⟩:=L.AY .str rfl hr (d':=0) (w':=w) (fz':=fz);rw[q2]at q1;exact fin _ _ h q2 λs' W' hw hz _ _=>by show L.str.rd 0 W'.w W'.fz y x [];grind
  ·cases h
theorem Ma{s':St}{W':Wd}{g:Bool}{ls:List (L×Nat)}{u:Value}{as:List LA}(hlen:as.length=ls.length)(hg:match g with
  |true=>∃cs:Array Value,u=.agg cs/\cs.size=ls.length
  |false=>ls.length=1) (h:∀(k:Nat)(b:LA),as[k]?=some b->∃y,BI g u k=some y/\AT s' W' b y):Ey s' W' g as u:=by
 cases g with
 |true=>
  obtain⟨cs,rfl,hsz⟩:=hg;exact⟨cs,rfl,by rw[hsz,hlen],h⟩
 |false=>
  match as,hlen with
  | [],h0=>dsimp only at hg;simp at h0;omega
  | [b],_=>
   obtain⟨y,hy,hok⟩:=h 0 b rfl;simp[BI]at hy;subst hy;exact hok
  |_::_::_,h0=>dsimp only at hg;simp at h0;omega
theorem Gz{w:World}{fz:Nat->Prop}{d:Nat}{om:Nat->It}:∀(rs:List (Bool×List (L×Nat))) (rv:ADb) (vsR:List (List Lv)) (rest:List Lv) (off:Nat) {bs:List (Bool×List LA)} {own:List LA} {left:List Lv},D4 w fz om rs rv vsR off->
  Dk d v rs (vsR.flatten++rest) off=some (bs,own,left)->left=rest/\bs.length=rv.length/\∃ys:ADb,ys.length=own.length/\(∀(k:Nat)(b:LA),own[k]?=some b->∃y,ys[k]?=some y/\FI w fz v b y (om (off+k)))/\
   ∀(s':St)(W':Wd),W'.w=w->W'.fz=fz->(∀k,k<own.length->s'.leaf d (off+k)=nth .bad own k/\W'.cv d (off+k)=ys[k]?)->∀(i:Nat)(p:Bool×List LA)(u:Value),bs[i]?=some p->rv[i]?=some u->Ey s' W' p.1 p.2 u
 | [],[],[],rest,off,bs,own,left,hr,h=>by simp only[Dk,List.flatten_nil,AA2,Option.some.injEq,Prod.mk.injEq]at h;grind
 | [],[],_::_,rest,off,bs,own,left,hr,h=>hr.elim
 | [],_::_,_,rest,off,bs,own,left,hr,h=>by simp[D4]at hr
 |_::_,[],_,rest,off,bs,own,left,hr,h=>by simp[D4]at hr
 |_::_,_::_,[],rest,off,bs,own,left,hr,h=>by simp[D4]at hr
 |(g,ls)::rs,u::rv,vs::vsR,rest,off,bs,own,left,hr,h=>by
  obtain⟨⟨hm,hg,hvs⟩,hr⟩:=hr;have hvl:vs.length=ls.length:=by have:=congrArg List.length hm;simpa using this
  simp only[Dk,AAo,List.append_assoc]at h;split at h
  ·rename_i as own1 vs1 hb;obtain⟨h1,h2,ys,h3,h4,h5,h6,h7⟩:=JU ls vs (vsR.flatten++rest) off (BI g u) hvl hvs hb;subst h1;split at h
   ·rename_i bs' own2 left' hb';injection h with h;injection h with e1 h;injection h with e2 e3
    subst e1;subst e2;subst e3;obtain⟨q1,q2,zs,q3,q4,q5⟩:=Gz rs rv vsR rest (off+ls.length) hr hb';refine⟨q1,by simp[q2],ys++zs,No,?_,?_⟩
    ·grind
    ·intro s' W' hw hz hs i p u' hi hu';cases i with
     |zero=>
      simp at hi hu';subst hi;subst hu';refine Ma h2 hg λk b hk=>?_;have hlt:k<ls.length:=by rw[<-h2];exact(AAP.1 hk).1
      obtain⟨y,hy,hok⟩:=h7 s' W' hw hz (λk hk=>by
       obtain⟨a1,a2⟩:=hs k ADa;rw[a1,a2];refine⟨?_,?_⟩
       ·rw[Ad,Ad,ABC J]
       ·rw[ABC J]) k b hk
      grind
     |succ i=>
      refine q5 s' W' hw hz (λk hk=>?_) i p u' ADh (by simpa using hu');obtain⟨a1,a2⟩:=hs (ls.length+k) ADa;rw[show off+ls.length+k=off+(ls.length+k) by omega,a1,a2];refine⟨?_,?_⟩
      ·rw[Ad,Ad,ABL J];congr 2;omega
      grind
   ·cases h
  ·cases h
end
end Go.Ev
namespace Go.Ev
def Aj(T:IA)(om:Key->It):Key->It
 | .blk i=>match T[i]? with
  |some (.box r)=>om (.blk r)
  |_=>[]
 | .lf i j=>match T[i]? with
  |some (.box r)=>om (.lf r j)
  |some (.row l)=>match l[j]? with
   |some (some p)=>p.2
   |_=>[]
  |_=>[]
 | .fl _=>[]
def FM(T:IA)(bk:Nat->Nat)(i:Nat):Nat:=match T[i]? with
 |some (.box r)=>bk r
 |_=>0
theorem Fq:∀(ps:List PM)(avs:List AV)(i:Nat)(g:Bool)(ls:List L)(av:AV),ps[i]?=some (.val g ls)->avs[i]?=some av->∀r∈av.roots,r∈Ae ps avs
 | [],_,i,g,ls,av,h,_,r,hr=>ADf
 |_::_,[],i,g,ls,av,_,h,r,hr=>ADf
 |pm::ps,a::avs,0,g,ls,av,h1,h2,r,hr=>by simp at h1 h2;subst h1;subst h2;exact AAZ _ hr
 |pm::ps,a::avs,i+1,g,ls,av,h1,h2,r,hr=>by
  have:=Fq ps avs i g ls av No No r hr;cases pm with
  |val g' ls'=>exact AAW _ this
  |_=>exact this
section
variable {P:Program}{E:Ci}{s:St}{W:Wd}{v:Nat}{tm:Array Value}{cx:Cx}
structure Handed(s:St)(W:Wd)(ps:List PM)(avs:List AV)(us:ADb)(vss:List (List Lv))(T:IA):Prop where
 l1:avs.length=ps.length
 l2:us.length=ps.length
 l3:vss.length=ps.length
 l4:T.length=ps.length
 nodup:(T.flatMap PT.D0).Pairwise NH
 each:∀(i:Nat)(pm:PM)(av:AV)(u:Value)(vs:List Lv)(tg:PT),ps[i]?=some pm->avs[i]?=some av->us[i]?=some u->vss[i]?=some vs->T[i]?=some tg->Gp s W pm av tg u vs
 apart:∀r∈Ae ps avs,∀(i:Nat)(p:PT),T[i]?=some p->∀x∈p.D0,x.1≠r
theorem BO{α:Type}{l:List α}{i n:Nat}(h:l.length=n)(hi:i<n):∃x,l[i]?=some x:=⟨l[i]'(by omega),AAN J⟩
theorem Handed.all{ps:List PM}{avs:List AV}{us:ADb}{vss:List (List Lv)}{T:IA}(hh:Handed s W ps avs us vss T){i:Nat}{pm:PM}(hp:ps[i]?=some pm):
  ∃av u vs tg,avs[i]?=some av/\us[i]?=some u/\vss[i]?=some vs/\T[i]?=some tg/\Gp s W pm av tg u vs:=by
 have hi:i<ps.length:=(AAP.1 hp).1;obtain⟨av,h1⟩:=BO hh.l1 hi;obtain⟨u,h2⟩:=BO hh.l2 hi;obtain⟨vs,h3⟩:=BO hh.l3 hi;obtain⟨tg,h4⟩:=BO hh.l4 hi;exact⟨av,u,vs,tg,h1,h2,h3,h4,hh.each i pm av u vs tg hp h1 h2 h3 h4⟩
theorem Handed.Oo{ps:List PM}{avs:List AV}{us:ADb}{vss:List (List Lv)}{T:IA}(hh:Handed s W ps avs us vss T){i:Nat}{m:PT}(hT:T[i]?=some m):
  ∃pm av u vs,ps[i]?=some pm/\avs[i]?=some av/\us[i]?=some u/\vss[i]?=some vs/\Gp s W pm av m u vs:=by
 have hi:i<ps.length:=by rw[<-hh.l4];exact(AAP.1 hT).1
 obtain⟨pm,hp⟩:=BO rfl hi;obtain⟨av,u,vs,tg,h1,h2,h3,h4,h5⟩:=hh.all hp;grind
theorem Handed.Nq{ps:List PM}{avs:List AV}{us:ADb}{vss:List (List Lv)}{T:IA}(hh:Handed s W ps avs us vss T){i j:Nat}{l:List (Option (Loc×It))}{c:Loc}{o:It}(hT:T[i]?=some (.row l))(hj:l[j]?=some (some (c,o))):
  ∃g ls as u vs p lv y,ps[i]?=some (.row g ls)/\avs[i]?=some (.v g as)/\us[i]?=some u/\vss[i]?=some vs/\ls[j]?=some p/\as[j]?=some (.ref c)/\vs[j]?=some lv/\Bi p.1=true/\vs.map (·.l)=ls.map (·.1)/\BI g u j=some y/\FK s W p.2 (.ref c) (some (c,o)) lv y:=by
 obtain⟨pm,av,u,vs,e1,e2,e3,e4,e5⟩:=hh.Oo hT;cases pm with
 |val g ls=>cases e5.1
 |fn f=>cases e5.1
 |box ls=>obtain⟨r,AB,_,q,_⟩:=e5;cases q
 |row g ls=>
  obtain⟨as,l',rfl,q2,q3,q4,q5,q6,q7⟩:=e5;injection q2 with q2;subst q2
  have hlt:j<ls.length:=by rw[<-q4];exact(AAP.1 hj).1
  have hvl:vs.length=ls.length:=by have:=congrArg List.length q5;simpa using this
  obtain⟨p,hp⟩:=BO rfl hlt;obtain⟨a,ha⟩:=BO q3 hlt;obtain⟨lv,hlv⟩:=BO hvl hlt;obtain⟨y,hy,hr⟩:=q7 j p a lv _ hp ha hlv hj
  have hl:lv.l=p.1:=by have:=congrArg (·[j]?) q5;simp only[AAf,hp,hlv,AA8,Option.some.injEq]at this;exact this
  have hr':=hr;rcases hr with⟨_,h0,_⟩|⟨c',o',gen,t,e,xs,h,t',e',ys,rfl,h2,_,_,_,_,h3,_⟩
  ·cases h0
  ·injection h2 with h2;injection h2 with h2 h2';subst h2
   exact⟨g,ls,as,u,vs,p,lv,y,e1,e2,e3,e4,hp,ha,hlv,by rw[<-hl,h3];rfl,q5,hy,hr'⟩
theorem CH{ps:List PM}{avs:List AV}{us:ADb}{vss:List (List Lv)}{T:IA}(hh:Handed s W ps avs us vss T){k:Key}{b:Nat}(h:b∈Aj T W.om k):∃a,AQ T k=some a/\b∈W.om a:=by
 cases k with
 |fl k=>cases h
 |blk i=>
  simp only[Aj]at h;split at h
  ·rename_i r hT;exact⟨.blk r,by simp[AQ,hT],h⟩
  ·cases h
 |lf i j=>
  simp only[Aj]at h;split at h
  ·rename_i r hT;exact⟨.lf r j,by simp[AQ,hT],h⟩
  ·rename_i l hT;split at h
   ·rename_i p hp;obtain⟨c,o⟩:=p;obtain⟨g,ls,as,u,vs,p,lv,y,_,_,_,_,_,_,_,_,_,_,hr⟩:=hh.Nq hT hp;refine⟨.lf c.r c.j,by simp[AQ,hT,hp],?_⟩;rcases hr with⟨_,h0,_⟩|⟨c',o',gen,t,e,xs,h',t',e',ys,_,h2,_,_,_,_,_,_,h4,_⟩
    all_goals grind
   ·cases h
  ·cases h
theorem JS(h:AW E s tm W){ps:List PM}{avs:List AV}{us:ADb}{vss:List (List Lv)}{T:IA}(hh:Handed s W ps avs us vss T)(k:Key):(Aj T W.om k).Nodup:=by
 cases k with
 |fl k=>exact AAX
 |blk i=>
  simp only[Aj];split
  ·exact h.sep.nodup _
  grind
 |lf i j=>
  simp only[Aj];split
  ·exact h.sep.nodup _
  ·rename_i l hT;split
   ·rename_i p hp;obtain⟨c,o⟩:=p;obtain⟨g,ls,as,u,vs,p,lv,y,_,_,_,_,_,_,_,_,_,_,hr⟩:=hh.Nq hT hp;rcases hr with⟨_,h0,_⟩|⟨c',o',gen,t,e,xs,h',t',e',ys,_,h2,_,_,_,_,_,_,h4,h5⟩
    ·cases h0
    ·injection h2 with h2;injection h2 with h2 h2';subst h2;subst h2'
     exact h5
   ·exact AAX
  grind
theorem Handed.root{ps:List PM}{avs:List AV}{us:ADb}{vss:List (List Lv)}{T:IA}(hh:Handed s W ps avs us vss T){k:Key}{r j:Nat}(h:AQ T k=some (.lf r j)):r∉Ae ps avs:=by
 cases k with
 |fl k=>cases h
 |blk i=>obtain⟨r',e,_⟩:=BB h;cases e
 |lf i j'=>
  rcases A9 h with⟨r',e,hT⟩|⟨l,c,o,e,hT,hl⟩
  ·injection e with e1 e2;subst e1
   exactλhr=>hh.apart r hr i _ hT (r,none) (by simp[PT.D0]) rfl
  ·injection e with e1 e2
   exactλhr=>hh.apart r hr i _ hT _ (Hv hl) e1.symm
theorem NS(h:AW E s tm W){r j:Nat}(hj:(s.root r).ls.length<=j):W.om (.lf r j)=[]:=by obtain⟨h1,_⟩:=h.roots r;have:=h1 j;rw[As LA.bad hj]at this;exact this.1
theorem Fw(h:AW E s tm W){ps:List PM}{avs:List AV}{us:ADb}{vss:List (List Lv)}{T:IA}(hh:Handed s W ps avs us vss T):
  D2 ps W.w (Seen W (Ae ps avs)) us vss (FM T W.bk) (Aj T W.om) where
 len:=hh.l2
 Bj:=hh.l3
 each i pm u vs hp hu hvs:=by
  obtain⟨av,u',vs',tg,h1,h2,h3,h4,h5⟩:=hh.all hp;rw[hu]at h2;injection h2 with h2;subst h2
  rw[hvs]at h3;injection h3 with h3;subst h3
  cases pm with
  |val g ls=>
   obtain⟨_,q1,q2,q3⟩:=h5;refine⟨q1,q2,λj p lv hj hlv=>?_⟩;obtain⟨y,hy,hr⟩:=q3 j p lv hj hlv;exact⟨y,hy,L.AN lv.l hr (λ_ _=>rfl) λb hb=>hb.imp id λ⟨r,hr,x⟩=>⟨r,Fq ps avs i g ls av hp h1 r hr,x⟩⟩
  |box ls=>
   obtain⟨r,AB,_,rfl,hb,hlen,hu',hvm,hget⟩:=h5;obtain⟨_,hbox⟩:=h.roots r;rw[AAT hb]at hbox;obtain⟨_,arr,T',fr,hhp,hbare,hsz,hcv⟩:=hbox;have e1:FM T W.bk i=W.bk r:=by simp[FM,h4]
   show Md _ _ _ _ _ _ _;rw[e1];refine⟨hu',hvm,arr,T',fr,hhp,hbare,J,λj p lv hj hlv=>?_⟩;have hlt:j<arr.size:=by rw[hsz,hlen];exact(AAP.1 hj).1
   refine⟨arr[j],AAl hlt,?_⟩;have e2:Aj T W.om (.lf i j)=W.om (.lf r j):=by simp[Aj,h4]
   show lv.l.rd p.2 _ _ _ _ (Aj T W.om (.lf i j));rw[e2];exact L.AN lv.l (hget j p lv arr[j] hj hlv No) (λ_ _=>rfl) λb hb=>.inl hb
  |row g ls=>
   obtain⟨as,l,rfl,rfl,q3,q4,q5,q6,q7⟩:=h5;refine⟨q5,q6,λj p lv hj hlv=>?_⟩;have hlt:j<ls.length:=(AAP.1 hj).1;obtain⟨a,ha⟩:=BO q3 hlt;obtain⟨o,ho⟩:=BO q4 hlt;obtain⟨y,hy,hr⟩:=q7 j p a lv o hj ha hlv ho;refine⟨y,hy,?_⟩;rcases hr with⟨hs,rfl,hr⟩|⟨c,o',gen,t,e,xs,h',t',e',ys,_,rfl,_,_,_,_,rfl,hr,_⟩
   ·have e2:Aj T W.om (.lf i j)=[]:=by simp[Aj,h4,ho]
    show lv.l.rd p.2 _ _ _ _ (Aj T W.om (.lf i j));rw[e2];exact(L.AY lv.l hs hr).1
   ·have e2:Aj T W.om (.lf i j)=o':=by simp[Aj,h4,ho]
    show AE e' p.2 _ _ _ _ (Aj T W.om (.lf i j));rw[e2];exact hr.frame (λ_ _=>rfl) λb hb=>.inl hb
  |fn f=>exact h5.2
 blk i:=by
  cases hp:ps[i]? with
  |none=>
   have:T[i]?=none:=List.getElem?_eq_none (by have:=List.getElem?_eq_none_iff.1 hp;rw[hh.l4];exact this);simp[Aj,this]
  |some pm=>
   obtain⟨av,u',vs',tg,h1,h2,h3,h4,h5⟩:=hh.all hp;cases pm with
   |val g ls=>obtain⟨rfl,_⟩:=h5;simp[Aj,h4]
   |fn f=>obtain⟨rfl,_⟩:=h5;simp[Aj,h4]
   |row g ls=>obtain⟨as,l,_,rfl,_⟩:=h5;simp[Aj,h4]
   |box ls=>
    obtain⟨r,AB,_,rfl,hb,_⟩:=h5;obtain⟨_,hbox⟩:=h.roots r;rw[AAT hb]at hbox;simp[Aj,FM,h4,hbox.1]
 none i hn1 hn2 j:=by
  cases hp:ps[i]? with
  |none=>
   have:T[i]?=none:=List.getElem?_eq_none (by have:=List.getElem?_eq_none_iff.1 hp;rw[hh.l4];exact this);simp[Aj,this]
  |some pm=>
   obtain⟨av,u',vs',tg,h1,h2,h3,h4,h5⟩:=hh.all hp;cases pm with
   |val g ls=>obtain⟨rfl,_⟩:=h5;simp[Aj,h4]
   |fn f=>obtain⟨rfl,_⟩:=h5;simp[Aj,h4]
   |row g ls=>grind
   |box ls=>grind
 box i ls hp j hj:=by
  obtain⟨av,u',vs',tg,h1,h2,h3,h4,h5⟩:=hh.all hp;obtain⟨r,AB,_,rfl,hb,hlen,_⟩:=h5;have e2:Aj T W.om (.lf i j)=W.om (.lf r j):=by simp[Aj,h4]
  rw[e2];exact NS h J
 row i g ls hp j hj:=by obtain⟨av,u',vs',tg,h1,h2,h3,h4,h5⟩:=hh.all hp;obtain⟨as,l,_,rfl,_,hl,_⟩:=h5;have:l[j]?=none:=List.getElem?_eq_none J;simp[Aj,h4,this]
 fl k:=rfl
 nodup k:=JS h hh k
 BD k k' hne b hb hb':=by obtain⟨a,ha,hb⟩:=CH hh hb;obtain⟨a',ha',hb'⟩:=CH hh hb';refine h.sep.BD a a' (λe=>hne ?_) b hb hb';subst e;exact BS hh.nodup ha ha'
 own k b hb:=by
  obtain⟨a,ha,hb⟩:=CH hh hb;obtain⟨q1,q2,q3⟩:=h.sep.own a b hb;refine⟨?_,q2⟩
  rintro (hz|⟨r,hr,j,hz⟩)
  ·exact q1 hz
  ·have hab:a=.lf r j:=AAq λhne=>h.sep.BD a _ hne b hb hz;subst hab;exact hh.root ha hr
 fz b hb:=by
  rcases hb with hz|⟨r,hr,j,hz⟩
  ·exact(h.sep.fz b hz).1
  ·exact(h.sep.own _ b hz).2.1
end
end Go.Ev
