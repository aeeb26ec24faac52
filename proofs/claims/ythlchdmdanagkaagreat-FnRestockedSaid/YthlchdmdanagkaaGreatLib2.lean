/- A plain evaluator for Go's loaded code,and that it is sound;part 2. Conditions: none. -/
import Derived.Test.YthlchdmdanagkaaGreatLib1
import Derived.Sort.Grow
import Derived.Deep.Draws
set_option linter.all false
namespace Go.Ev
section
variable {P:Program}{E:Cy}{s:St}{W:Wd}{o:Oper}{a:Act}{ws:List Wr}{cx:Cx}{v:Nat}{tm:Array Value}
theorem Iq(n m:Nat)(os zn:Nat->Is):((List.range (n+m)).flatMap λi=>if i<n then os i else zn (i-n))=(List.range n).flatMap os++(List.range m).flatMap zn:=by
 rw[List.range_add,List.flatMap_append];congr 1
 ·rw[List.flatMap_def,List.flatMap_def];congr 1;refine List.map_congr_left λi hi=>?_;grind
 ·rw[List.flatMap_map,List.flatMap_def,List.flatMap_def];congr 1;refine List.map_congr_left λi hi=>?_;grind
theorem LY(h:AU E s tm W)(hv:Ad s v){t t0 ty:TypeId}{e:Ls}(za:P.underlying t=some (.slice t0))(zN:MB P t0 e){d:Nat}(hd:d<tm.size){ux uy:Value}{xs ys:List e.D}{us1 us2:List (Nat×Nat)}{o1:Is}
  (hx:AD e 2 W.w W.fz ux xs o1) (hn1:o1.Nodup) (hfrom1:∀b∈o1,∃r j,(r,j)∈us1/\b∈W.om (.lf r j)) (hy:Ke P s W e uy ys us2) (hap:∀x∈us1,x∉us2) (hlen:xs.length+ys.length<=Dj) (t1:TypeId):
  ∃u w',(Builtin.append_ #[t,t] ty #[ux,uy]).run P W.w=.ok u w'/\∃W',W'.w=w'/\AU E (s.app (gone (us1++us2)++ownRow d v t1 e (xs++ys))) (tm.setIfInBounds d u) W':=by
 obtain⟨i,hi,zO,hby,z,hz,hzc⟩:=zN.info;have hpos:=zN.pos;have zf:xs.length+ys.length<=68719476736:=hlen;obtain⟨A1,c1,hux,hc1,hA1,hs1⟩:=hx.Kb;obtain⟨A2,c2,g2,os2,huy,hA2,hs2,hel2,hnd2,hfrom2,hnus2⟩:=hy
 have hcross:∀b∈o1,∀i,i<ys.length->b∉os2 i:=by
  intro b hb i hi zJ;obtain⟨r,j,hm,h1⟩:=hfrom1 b hb;obtain⟨r',j',hm',h1'⟩:=hfrom2 i hi b zJ;by_cases he:(r,j)=(r',j')
  ·grind
  ·exact h.sep.A4 (.lf r j) (.lf r' j') (λe=>he No) b h1 h1'
 have hfl2:∀b∈(List.range ys.length).flatMap os2,∃i,i<ys.length/\b∈os2 i:=by intro b hb;obtain⟨i,hi,hb⟩:=AAL.1 hb;exact⟨i,AAX.1 hi,hb⟩
 have hfromAll:∀b,(b∈o1\/b∈(List.range ys.length).flatMap os2)->∃r j,(r,j)∈us1++us2/\b∈W.om (.lf r j):=by
  intro b hb;rcases hb with hb|hb
  ·grind
  ·grind
 have zA:∀b,(∃r j,(r,j)∈us1++us2/\b∈W.om (.lf r j))->b<W.w.heap.size:=λb ⟨r,j,_,hb⟩=>(h.sep.own _ b hb).2.1
 have hnews:∃news:ADh,news.length=ys.length*e.n/\(∀k,k<ys.length*e.n->news[k]?=g2 k)/\(∀v∈news,v.oneCell'=true)/\
   (Builtin.firstCells i.size ys.length (.slice A2 ys.length c2)).run P W.w=.ok news.toArray W.w/\∀ad,A2=some ad->∀j u,news[j]?=some u->W.w.cell? (ad.add j)=some u:=by
  have zP:=hel2.cell
  have hadd:∀ad,A2=some ad->∀j u,(BT g2 (ys.length*e.n))[j]?=some u->W.w.cell? (ad.add j)=some u:=by
   intro ad had j u hj;have zA:j<ys.length*e.n:=by have:=(AAK.1 hj).1;rwa[AL]at this
   rw[Bg zP j zA]at hj;obtain⟨hs,hg⟩:=hs2 ad had (λh0=>by grind);rw[ET hs,hg,hj]
  refine⟨BT g2 (ys.length*e.n),AL _ _,Bg zP,FT zP,?_,hadd⟩;cases hA:A2 with
  |none=>
   have:=hA2 hA;subst this;rw[run_firstCells_none];simp[BT]
  |some ad=>exact run_firstCells_some W.w i.size ys.length ad ys.length c2 _ (by rw[AL,zO]) (hadd ad hA)
 obtain⟨news,hnl,hng,hn1',hnf,hncell⟩:=hnews;subst hux;subst huy
 have fresh:∀(os1:Nat->Is)(arr:Array Value)(cap:Nat),xs.length+ys.length<=cap->cap*e.n<=arr.size->CB e 2 W.w W.fz (λk=>arr[k]?) xs os1->(∀k,k<ys.length*e.n->arr[xs.length*e.n+k]?=g2 k)->
   (∀b∈(List.range xs.length).flatMap os1,b∈o1)->((List.range xs.length).flatMap os1).Nodup->
   ∃W',W'.w=W.w.drew.alloc (.cells arr t0)/\AU E (s.app (gone (us1++us2)++ownRow d v t1 e (xs++ys))) (tm.setIfInBounds d (.slice (some ⟨W.w.heap.size,0,none⟩) (xs.length+ys.length) cap)) W':=by
  intro os1 arr cap hcap zz hx1 hy1 zr hnd1;have hold:∀b,b<W.w.heap.size->(W.w.drew.alloc (.cells arr t0)).heap[b]?=W.w.heap[b]?:=λb hb=>A7 W.w.drew _ hb
  have hels:CB e 2 (W.w.drew.alloc (.cells arr t0)) W.fz (λk=>arr[0+k]?) (xs++ys) λi=>if i<xs.length then os1 i else os2 (i-xs.length):=by
   refine CB.append ?_ ?_
   ·refine CB.congr (g:=λk=>arr[k]?) ?_ λk _=>No
    refine hx1.frame (λb hb=>hold b ?_) λ_ hb=>hb;rcases hb with⟨i,hi,hb⟩|hb
    ·exact zA b (hfromAll b (.inl (zr b (AAL.2 ⟨i,AAX.2 hi,hb⟩))))
    ·exact(h.sep.fz b hb).1
   ·refine CB.congr (g:=g2) ?_ λk hk=>No
    refine hel2.frame (λb hb=>hold b ?_) λ_ hb=>hb;rcases hb with⟨i,hi,hb⟩|hb
    ·obtain⟨r,j,hm,h1⟩:=hfrom2 i hi b hb;exact(h.sep.own _ b h1).2.1
    ·exact(h.sep.fz b hb).1
  have yz:=Gs (w:=W.w.drew.alloc (.cells arr t0)) (ad:=⟨W.w.heap.size,0,none⟩) (c:=cap) (fr:=(0,0)) (T:=t0) (heap_alloc_new W.w.drew _) rfl J No No hels;rw[AAz,Iq]at yz;refine h.Cr hv (us1++us2) hd (t0:=t1) (λb hb=>hold b ?_) (λb hb _=>hold b ADv) No ⟨rfl,rfl,rfl⟩ yz ?_ ?_
  ·rcases hb with hb|⟨k,_,hb⟩
   ·exact(h.sep.fz b hb).1
   ·exact(h.sep.own k b hb).2.1
  ·refine AAa.2 ⟨λyt=>?_,AAZ.2 ⟨hnd1,hnd2,λx hx y hy e=>?_⟩⟩
   ·have:=zA _ (hfromAll _ ((ABL.1 yt).imp (zr _) id));exact absurd this (Nat.lt_irrefl _)
   grind
  ·intro b hb;rcases AAd.1 hb with rfl|hb
   ·exact .inr ⟨AAc _,by show _<(W.w.drew.alloc _).heap.size;rw[Ax];simp⟩
   grind
 cases A1 with
 |none=>
  obtain⟨rfl,rfl⟩:=hA1 rfl;have hx0:xs=[]:=AAO J;subst hx0;cases ys with
  |nil=>
   refine⟨_,_,Ct t ty t0 i za hi 0 A2 c2 news hnf,?_⟩;exact h.Cr hv (us1++us2) hd (t0:=t1) (λ_ _=>rfl) (λ_ _ _=>rfl) (AAc _) ⟨rfl,rfl,rfl⟩ Bz AAR (λb hb=>by cases hb)
  |cons y ys=>
   cases A2 with
   |none=>grind
   |some ad2=>
    refine⟨_,_,run_append_nil W.w t ty t0 i z za hi hz ad2 (y::ys).length c2 news (by rw[hnl,zO]) (hncell ad2 rfl) OF (by simp at zf ⊢;omega) (AAv (ABM (show _<=68719476736 by simp at zf ⊢;omega) hby) ADj),?_⟩;have zu:=grownCap_ge W.w (y::ys).length 0 t0
    have:=fresh (λ_=>[]) (news.toArray++Builtin.zeroCells z.cells (grownCap W.w (y::ys).length 0 t0-(y::ys).length)) (grownCap W.w (y::ys).length 0 t0) (by simpa using zu)
     (by
      have:(y::ys).length*e.n+(grownCap W.w (y::ys).length 0 t0-(y::ys).length)*e.n=grownCap W.w (y::ys).length 0 t0*e.n:=by rw[<-AAm];congr 1;omega
      simp only[ABF,ABD,hnl,Builtin.zeroCells,ABQ,ABJ,hzc,ABB,A8];omega) (λi hi=>by simp at hi)
     (by
      intro k hk;rw[<-hng k hk];simp only[List.length_nil,Nat.zero_mul,AAY];rw[AAu (by simpa[hnl]using hk)];simp) OF OF
    grind
 |some ad1=>
  obtain⟨arr,T,fr,os1,hs,hh,zb,AAA,hx1,ho10,_⟩:=hs1 ad1 rfl (.inr ADj);have ho1:o1=ad1.block::(List.range xs.length).flatMap os1:=ho10 ADj;have zH:=AAA ADj;clear ho10 AAA hs1;obtain⟨b1,zS,sp1⟩:=ad1;dsimp only at hs hh zb hx1 ho1;subst hs;have hnd1:(b1::(List.range xs.length).flatMap os1).Nodup:=ho1▸hn1;by_cases hcap:xs.length+ys.length<=c1
  ·
   have hmul:(xs.length+ys.length)*e.n<=c1*e.n:=AAo _ hcap;rw[AAm]at hmul;obtain⟨w',hst,zI⟩:=Db (P:=P) (o:=zS+xs.length*e.n) news hh zH (by rw[hnl];omega) hn1';have hadd:(⟨b1,zS,none⟩:Addr).add (xs.length*i.size)=⟨b1,zS+xs.length*e.n,none⟩:=by rw[zO];exact B2 _ _ _
   refine⟨_,_,DL t ty t0 i za hi ⟨b1,zS,none⟩ xs.length c1 A2 ys.length c2 news hnf hcap (by rw[hadd];exact hst),?_⟩;have hb1:b1∈o1:=by rw[ho1];simp
   have zM:=CX news (zS+xs.length*e.n) arr (by rw[hnl];omega)
   have hels:CB e 2 w' W.fz (λk=>(B9 news (zS+xs.length*e.n) arr)[zS+k]?) (xs++ys) λi=>if i<xs.length then os1 i else os2 (i-xs.length):=by
    refine CB.append ?_ ?_
    ·refine CB.congr (g:=λk=>arr[zS+k]?) ?_ λk hk=>?_
     ·refine hx1.frame (λb hb=>zI.CI b ?_) λ_ hb=>hb
      rintro rfl
      rcases hb with⟨i,hi,hb⟩|hb
      ·exact(AAa.1 hnd1).1 (AAL.2 ⟨i,AAX.2 hi,hb⟩)
      ·obtain⟨r,j,_,h1⟩:=hfrom1 b hb1;exact(h.sep.own _ b h1).1 hb
     ·rw[zM,AAQ J]
    ·refine CB.congr (g:=g2) ?_ λk hk=>?_
     ·refine hel2.frame (λb hb=>zI.CI b ?_) λ_ hb=>hb
      rintro rfl
      rcases hb with⟨i,hi,hb⟩|hb
      ·exact hcross b hb1 i hi hb
      ·obtain⟨r,j,_,h1⟩:=hfrom1 b hb1;exact(h.sep.own _ b h1).1 hb
     ·rw[<-hng k hk,zM,AAP (by rw[hnl];omega)];congr 1;omega
   have yz:=Gs (w:=w') (ad:=⟨b1,zS,none⟩) (c:=c1) zI.here rfl (by rw[Ak];exact zH) (by rw[Ak];exact zb) (by simpa using hcap) hels;rw[AAz,Iq]at yz;refine h.Cr hv (us1++us2) hd (t0:=t1) (λb hb=>zI.CI b ?_) (λb hb hio=>zI.CI b ?_) (by rw[zI.size];exact AAc _) zI.rest yz ?_ ?_
   ·rintro rfl
    obtain⟨r,j,hm,h1⟩:=hfrom1 b hb1;rcases hb with hb|⟨k,hk,hb⟩
    ·exact(h.sep.own _ b h1).1 hb
    ·by_cases hkk:k=.lf r j
     ·subst hkk;exact hk.2 (AAV _ hm)
     ·exact h.sep.A4 k _ hkk b hb h1
   ·rintro rfl
    obtain⟨r,j,hm,h1⟩:=hfrom1 b hb1;rcases(h.sep.own _ b h1).2.2 with h2|h2
    ·omega
    ·exact hio h2
   ·refine AAa.2 ⟨λyt=>?_,AAZ.2 ⟨(AAa.1 hnd1).2,hnd2,λx hx y hy e=>?_⟩⟩
    ·rcases ABL.1 yt with yt|yt
     ·exact(AAa.1 hnd1).1 yt
     ·obtain⟨i,hi,hb⟩:=hfl2 _ yt;exact hcross _ hb1 i hi hb
    ·subst e;obtain⟨i,hi,hb⟩:=hfl2 x hy;exact hcross x (by rw[ho1];exact AAM _ hx) i hi hb
   grind
  ·
   cases A2 with
   |none=>grind
   |some ad2=>
    have hcell1:=hx1.cell;have hg1:=Bg hcell1
    have holds:∀j u,(BT (λk=>arr[zS+k]?) (xs.length*e.n))[j]?=some u->W.w.cell? ((⟨b1,zS,none⟩:Addr).add j)=some u:=by
     intro j u hj;have zA:j<xs.length*e.n:=by have:=(AAK.1 hj).1;rwa[AL]at this
     rw[hg1 j zA]at hj;rw[B2];simp only[World.cell?,hh];simpa using hj
    refine⟨_,_,run_append_grow W.w t ty t0 i z za hi hz ⟨b1,zS,none⟩ xs.length c1 (BT (λk=>arr[zS+k]?) (xs.length*e.n)) (by rw[AL,zO]) holds ad2 ys.length c2 news (by rw[hnl,zO]) (hncell ad2 rfl) J J
     (growslice_fits J (AAv (ABM zf hby) ADj)),?_⟩
    have zu:=grownCap_ge W.w (xs.length+ys.length) c1 t0;refine fresh os1 _ _ zu ?_ ?_ ?_ (λb hb=>by grind) (AAa.1 hnd1).2
    ·have:xs.length*e.n+ys.length*e.n+(grownCap W.w (xs.length+ys.length) c1 t0-(xs.length+ys.length))*e.n=grownCap W.w (xs.length+ys.length) c1 t0*e.n:=by rw[<-AAm,<-AAm];congr 1;omega
     simp only[ABF,ABD,hnl,AL,Builtin.zeroCells,ABQ,ABJ,hzc,ABB,A8];omega
    ·refine CB.congr hx1 λk hk=>?_;grind
    ·intro k hk;rw[<-hng k hk];rw[AAu (by simp[AL,hnl];omega),Array.getElem?_append_right (by simp[AL])];simp[AL]
end
end Go.Ev
namespace Go.Ev
theorem Hv:∀(vs:ADh)(off n:Nat)(arr:Array Value),(vs.zipIdx n).foldl (λcs (p:Value×Nat)=>cs.setIfInBounds (off+p.2) p.1) arr=B9 vs (off+n) arr
 | [],_,_,_=>rfl
 |v::vs,off,n,arr=>by rw[List.zipIdx_cons,List.foldl_cons,Hv vs off (n+1)];rfl
theorem Ix{place:Nat->Option (Nat×Nat)}{cells:Array Value}{i:Nat}{v:Value}{rest:List (Nat×Value)}{off size:Nat}(hp:place i=some (off,size))(hs:v.cells.size=size)(hl:off+size<=cells.size):
  Instr.fill place cells ((i,v)::rest)=Instr.fill place (B9 v.cells.toList off cells) rest:=by
 have h1:(v.cells.zipIdx.foldl (λcs (x:Value×Nat)=>match x with|(c,j)=>cs.setIfInBounds (off+j) c) cells)=B9 v.cells.toList off cells:=by rw[<-Array.foldl_toList,Array.toList_zipIdx];exact Hv _ off 0 cells
 simp only[Instr.fill,hp];rw[AAQ (by simp[hs];omega)];rw[<-h1]
theorem F3{α β:Type}{f:α->Option β}:∀ {l:List α} {r:List β},l.mapM f=some r->∀(i:Nat)(x:α),l[i]?=some x->∃y,f x=some y/\r[i]?=some y
 | [],r,h,i,x,hx=>by simp at hx
 |a::l,r,h,i,x,hx=>by
  simp only[List.mapM_cons,Option.bind_eq_bind,Option.pure_def]at h;cases ha:f a with
  |none=>simp[ha]at h
  |some b=>
   cases hr:l.mapM f with
   |none=>simp[ha,hr]at h
   |some r'=>
    simp[ha,hr]at h;subst h;cases i with
    |zero=>simp at hx;subst hx;exact⟨b,ha,rfl⟩
    |succ i=>obtain⟨y,h1,h2⟩:=F3 hr i x (by simpa using hx);exact⟨y,h1,AEA⟩
theorem Ib:∀(as:List LA)(ls:List LA)(j:Nat),(Eo ls j as).length=ls.length
 | [],_,_=>rfl
 |b::as,ls,j=>by rw[Eo,Ib as,CZ]
theorem Ia:∀(as:List LA)(ls:List LA)(o:Nat),o+as.length<=ls.length->∀k,(Eo ls o as)[k]?=if o<=k/\k<o+as.length then as[k-o]? else ls[k]?
 | [],ls,o,h,k=>by rw[Eo,AAQ OF]
 |v::r,ls,o,h,k=>by
  simp only[ABG]at h;rw[Eo,Ia r _ (o+1) (by rw[CZ];omega) k,Bj,List.getElem?_set];by_cases h1:k=o
  ·subst h1;rw[AAQ J,AAP rfl,AAP J,AAP OF];simp
  ·by_cases h2:o+1<=k/\k<o+1+r.length
   ·rw[AAP h2,AAP ADg];obtain⟨j,rfl⟩:∃j,k=o+1+j:=⟨k-(o+1),J⟩;rw[show o+1+j-(o+1)=j by omega,show o+1+j-o=j+1 by omega];rfl
   ·rw[AAQ h2,AAQ (λe=>h1 e.symm),AAQ ADg]
section
variable {P:Program}{E:Cy}{s:St}{W:Wd}{o:Oper}{a:Act}{ws:List Wr}{cx:Cx}{v:Nat}
theorem Ns(h:AU E s a.tmps W){b:LA}{u:Value}(hu:AQ s W b u)(hs:s.sure b=true):u.oneCell'=true:=by
 cases b with
 |sc l x=>exact L.Dm l hu
 |DN=>rw[show u=_ from hu];rfl
 |JY=>rw[show u=_ from hu];rfl
 |EC e x off=>obtain⟨ad,_,_,_,_,hv,_⟩:=hu;rw[hv];rfl
 |fn f=>rw[show u=_ from hu];rfl
 |ptr r j AA=>
  simp only[St.sure,AAJ,AAT]at hs;rw[hu hs.1 hs.2];rfl
 |ref c=>
  simp only[St.sure]at hs;split at hs
  ·rename_i AA gen t e xs d yr;simp only[AAJ,AAe,AAT]at hs;obtain⟨zC,hp⟩:=hs;subst zC;have hp:c.p=[]\/gen=c.gen:=hp.imp (λh=>by cases hq:c.p<;>simp_all[isNil]) id;obtain⟨h',e',zW,hn⟩:=hu gen _ _ _ _ yr hp;obtain⟨u',zG,zE⟩:=(h.roots c.r).row yr;rw[zW]at zG;injection zG with zG;subst zG
   obtain⟨d',ys,o',hr,_⟩:=Mg c.p zE hn;exact L.Dm (.sl 0 e') hr
  ·cases hs
 |EI c lo hi=>
  simp only[St.sure]at hs;split at hs
  ·rename_i AA gen t e xs d yr;simp only[AAJ,AAe,AAT]at hs;obtain⟨zC,hp⟩:=hs;subst zC;have hp:c.p=[]\/gen=c.gen:=hp.imp (λh=>by cases hq:c.p<;>simp_all[isNil]) id;obtain⟨h',e',A,n,k,zW,hn,_,_,hv⟩:=hu gen _ _ _ _ yr hp;rw[hv];rfl
  ·cases hs
 |Bm c=>obtain⟨ad,hv⟩:=HR hu hs;rw[hv];rfl
 |_=>cases hs
theorem K3(h:AU E s a.tmps W){g:Bool}{as:List LA}{u:Value}(hu:E8 s W g as u)(hs:(g||as.all s.sure)=true):u.cells.size=as.length/\∀(j:Nat)(b:LA),as[j]?=some b->∃y,u.cells[j]?=some y/\AQ s W b y:=by
 refine JF hu λhg=>?_;subst hg;cases as with
 |nil=>exact hu.elim
 |cons b bs=>cases bs with
  |cons=>exact hu.elim
  |nil=>exact cells_one (Ns h hu (by simpa using hs))
def Im(s:St)(W:Wd)(ls:List LA)(cells:Array Value):Prop:=cells.size=ls.length/\∀(j:Nat)(b:LA),ls[j]?=some b->∃u,cells[j]?=some u/\AQ s W b u
theorem Im.Ca{ls as:List LA}{cells:Array Value}{u:Value}{off:Nat}(hb:Im s W ls cells)(hl:off+as.length<=ls.length)(hu:u.cells.size=as.length/\∀(j:Nat)(b:LA),as[j]?=some b->∃y,u.cells[j]?=some y/\AQ s W b y):
  Im s W (Eo ls off as) (B9 u.cells.toList off cells):=by
 refine⟨by rw[Ak,Ib,hb.1],λj b hj=>?_⟩;rw[Ia _ _ _ hl]at hj;rw[CX _ _ _ (by rw[hb.1];simp[hu.1];omega)];by_cases hc:off<=j/\j<off+as.length
 ·rw[AAP hc]at hj;rw[AAP (by simp[hu.1];omega)];obtain⟨y,hy,zh⟩:=hu.2 _ b hj;exact⟨y,AD7,zh⟩
 ·rw[AAQ hc]at hj;rw[AAQ (by simp[hu.1];omega)];exact hb.2 j b hj
theorem J4(hc:Dt P cx)(h:AU E s a.tmps W){fs:List (Nat×TypeId)}{place:Nat->Option (Nat×Nat)}(hpl:∀(i off:Nat)(t:TypeId),fs[i]?=some (off,t)->∃inf,P.info? t=some inf/\place i=some (off,inf.size)):
  ∀(parts:List (Nat×Operand)) {ls ls':List LA} {cells:Array Value},Im s W ls cells->Hs cx s fs parts ls=some ls'->∃cells',Instr.fill place cells (parts.map λp=>(p.1,a.eval p.2))=some cells'/\Im s W ls' cells'
 | [],ls,ls',cells,hb,hl=>by
  injection hl with hl;subst hl
  exact⟨cells,rfl,hb⟩
 |(i,x)::ps,ls,ls',cells,hb,hl=>by
  simp only[Hs]at hl;have h1:=BN h x;generalize s.Ao x=p at hl h1;split at hl
  ·rename_i g as off t hfs;split at hl
   ·rename_i tf htf;split at hl
    ·rename_i zB;rw[F4]at hfs;obtain⟨inf,hinf,hp⟩:=hpl i off t hfs;obtain⟨inf',hinf',zO,_⟩:=(hc t tf htf).info;rw[hinf]at hinf';injection hinf' with hinf';subst hinf'
     rw[AAJ,AAJ,AAT,AAf]at zB;obtain⟨⟨hlen,hoff⟩,hsure⟩:=zB;have hu:=K3 h h1 hsure;have zJ:=hb.Ca (off:=off) J hu;obtain⟨cells',hf,hb''⟩:=J4 hc h hpl ps zJ hl;refine⟨cells',?_,hb''⟩;rw[ABK,Ix hp (by rw[hu.1,hlen,zO]) (by rw[hb.1,zO];exact hoff)];exact hf
    ·cases hl
   ·cases hl
  ·cases hl
theorem L9(l:L):AQ s W (zeroOf l) (CL l):=by
 cases l with
 |int k=>exact⟨rfl,rfl⟩
 |bool=>exact⟨rfl,rfl⟩
 |str=>exact⟨rfl,rfl⟩
 |sl t e=>exact rfl
theorem Ml(hc:Dt P cx)(h:AU E s a.tmps W){t:TypeId}{parts:Array (Nat×Operand)}(ho:o.op=.build t parts)(hl:(AB cx v o s).leads ws):Bc P E o a W.w (s.app ws):=by
 simp only[AB,ho]at hl;split at hl
 ·rename_i ty ht;split at hl
  ·rename_i ls hls;rw[AM hl];split at hls
   ·rename_i hag;obtain⟨fs,hfs,hfl,pl,hpl⟩:=(hc t ty ht).agg hag;obtain⟨i,hi,zO,z,hz,hzc,_⟩:=(hc t ty ht).info
    have hplace:∀(i off:Nat)(t':TypeId),ty.fs[i]?=some (off,t')->∃inf,P.info? t'=some inf/\pl.toArray[i]?=some (off,inf.size):=by
     intro i off t' hq;rw[<-hfl,AAb]at hq;cases hf:fs.toList[i]? with
     |none=>rw[hf]at hq;cases hq
     |some f=>
      rw[hf]at hq;simp only[AA6,Option.some.injEq,Prod.mk.injEq]at hq;obtain⟨rfl,rfl⟩:=hq;obtain⟨y,h1,h2⟩:=F3 hpl i f hf;cases hinf:P.info? f.type with
      |none=>rw[hinf]at h1;cases h1
      |some inf=>rw[hinf]at h1;injection h1 with h1;subst h1;exact⟨inf,rfl,AEA⟩
    have hz0:Im s W (ty.ls.kinds.map zeroOf) z.cells:=by
     refine⟨by rw[hzc];simp,λj b hj=>?_⟩;rw[AAb]at hj;cases hk:ty.ls.kinds[j]? with
     |none=>rw[hk]at hj;cases hj
     |some l=>rw[hk]at hj;injection hj with hj;subst hj;exact⟨CL l,by rw[hzc];simp[hk],L9 l⟩
    obtain⟨cells,hf,hb⟩:=J4 hc h hplace parts.toList hz0 hls;refine AR h (u:=.agg cells) ?_ ⟨cells,rfl,hb.1,hb.2⟩
    have hbuilt:P.built t (parts.map λ(i,x)=>(i,a.eval x)).toList=some cells:=by unfold Program.built;rw[hi,hfs];simp only[hz,hpl];rw[ABI];exact hf
    unfold execOp;simp only[ho,Sem.run_bind,run_build W.w t _ cells hbuilt,Result.andThen_ok];rfl
   ·cases hls
  ·exact hl.elim
 ·exact hl.elim
end
end Go.Ev
namespace Go.Ev
theorem Dl:∀(ls:Ls) {d:Nat} {w:World} {fz:Nat->Prop} {g:Nat->Option Value} {x:ls.D} {os:Nat->Is},
  (∀(j:Nat)(lv:Lv),(unpack ls x)[j]?=some lv->∃u,g j=some u/\lv.l.rd d w fz u lv.x (os j))->ls.rd d w fz g x ((List.range ls.n).flatMap os)
 | .nil,_,_,_,_,_,_,_=>by simp only[Ls.rd,Ls.n];rfl
 | .one l,_,w,fz,g,x,os,h=>by simp only[Ls.rd,Ls.n];obtain⟨u,hu,hr⟩:=h 0 ⟨l,x⟩ rfl;grind
 | .cons l ls,_,w,fz,g,x,os,h=>by simp only[Ls.rd,Ls.n];obtain⟨u,hu,hr⟩:=h 0 ⟨l,x.1⟩ rfl;have ih:=Dl ls (g:=λj=>g (j+1)) (os:=λj=>os (j+1)) λj lv hj=>h (j+1) lv (by simpa[unpack]using hj);refine⟨u,os 0,_,hu,hr,ih,?_⟩;rw[Nat.add_comm,List.range_add,List.flatMap_append,List.flatMap_map];grind
def FQ(b:LA):Option Lv:=match b with
 | .arr _ _ t e xs 2=>some ⟨.sl t e,xs⟩
 | .sc l x=>if Bx l then none else some ⟨l,x⟩
 |_=>none
section
variable {P:Program}{E:Cy}{s:St}{W:Wd}{o:Oper}{a:Act}{ws:List Wr}{cx:Cx}{v:Nat}
theorem Iu{b:LA}{u:Value}{oo:Is}{us:List (Nat×Nat)}(ht:Js s W v b u oo us){lv:Lv}(hb:FQ b=some lv):lv.l.rd 2 W.w W.fz u lv.x oo:=by
 unfold FQ at hb;split at hb
 ·injection hb with hb;subst hb
  exact ht.2.2.2.2.2
 ·split at hb
  ·cases hb
  ·rename_i l x hs;injection hb with hb;subst hb
   obtain⟨h1,h2,_⟩:=ht.2.2.2;subst h1;exact(L.AZ l No h2).1
 ·cases hb
def A5(g:Bool)(u:Value):Nat->Option Value:=λj=>match g with
 |true=>u.cells[j]?
 |false=>if j=0 then some u else none
theorem B8{g:Bool}{as:List LA}{u:Value}(hu:E8 s W g as u)(j:Nat)(b:LA)(hj:as[j]?=some b):∃y,A5 g u j=some y/\AQ s W b y:=by
 cases g with
 |true=>obtain⟨cs,hcs,_,zM⟩:=hu;obtain⟨y,hy,zh⟩:=zM j b hj;exact⟨y,by simp only[A5,hcs];exact hy,zh⟩
 |false=>
  cases as with
  |nil=>exact hu.elim
  |cons b' bs=>cases bs with
   |cons=>exact hu.elim
   |nil=>cases j with
    |zero=>simp at hj;subst hj;exact⟨u,by simp[A5],hu⟩
    |succ j=>simp at hj
theorem Bt{g:Bool}{as:List LA}{u:Value}(hu:E8 s W g as u)(h1:∀(j:Nat)(b:LA),as[j]?=some b->∃y,A5 g u j=some y/\y.oneCell'=true):u.cells.size=as.length/\∀j,j<as.length->u.cells[j]?=A5 g u j:=by
 cases g with
 |true=>obtain⟨cs,hcs,zO,_⟩:=hu;subst hcs;exact⟨zO,λj _=>rfl⟩
 |false=>
  cases as with
  |nil=>exact hu.elim
  |cons b' bs=>cases bs with
   |cons=>exact hu.elim
   |nil=>
    obtain⟨y,hy,zi⟩:=h1 0 b' rfl;simp[A5]at hy;subst hy;rw[cells_one zi];refine⟨rfl,λj hj=>?_⟩;have:j=0:=ADx
    subst this;simp[A5]
structure NF(P:Program)(s:St)(W:Wd)(a:Act)(e:Ls)(ps:List (Nat×Operand))(n:Nat)(ys:List e.D)(us:List (Nat×Nat))(os:Nat->Is):Prop where
 len:ys.length=ps.length
 nodup:us.Nodup
 PB:∀i j,i≠j->∀b∈os i,b∉os j
 PK:∀i,(os i).Nodup
 PR:∀i,ys.length<=i->os i=[]
 Oe:∀i,∀b∈os i,∃r j,(r,j)∈us/\b∈W.om (.lf r j)
 el:∀m (hm:m<ys.length),∃x,ps[m]?=some (n+m,x)/\(a.eval x).cells.size=e.n/\e.rd 2 W.w W.fz (λj=>(a.eval x).cells[j]?) ys[m] (os m)
theorem EF{os:Nat->Is}(hn:∀i,(os i).Nodup)(hd:∀i j,i≠j->∀b∈os i,b∉os j):∀n,((List.range n).flatMap os).Nodup
 |0=>OF
 |n+1=>by rw[List.range_succ,List.flatMap_append];refine AAZ.2 ⟨EF hn hd n,by simpa using hn n,λx hx y hy e=>?_⟩;grind
theorem Ho(h:AU E s a.tmps W)(hv:Ad s v){e:Ls}{β:Type}{z:β}:∀(ps:List (Nat×Operand)) (n:Nat) {k:List e.D->List (Nat×Nat)->Step β},(Cl cx s v e ps n k).leads z->
  ∃ys us os,(k ys us).leads z/\NF P s W a e ps n ys us os
 | [],n,k,hl=>⟨[],[],λ_=>[],hl,rfl,AAR,(λ_ _ _ b hb=>by cases hb),λ_=>AAR,λ_ _=>rfl,(λ_ b hb=>by cases hb),λm hm=>by simp at hm⟩
 |(i,x)::ps,n,k,hl=>by
  simp only[Cl]at hl;split at hl
  ·rename_i hi;have hi:i=n:=ADm
   subst hi;have h1:=BN h x;have hva:=F5 hv x;generalize s.Ao x=p at hl h1 hva;split at hl
   ·rename_i g as;split at hl
    ·rename_i hflat;obtain⟨vs,hl,zw,hvm,hvs⟩:=Ew h (g:=A5 g (a.eval x)) (λj b hj=>B8 h1 j b hj) hl;split at hl
     ·rename_i y hy;obtain⟨ys,us,os,hl,zK⟩:=Ho h hv ps (i+1) hl;have hup:=Av e vs y hy;have hen:as.length=e.n:=by rw[<-zw,<-hup,CA]
      have zR:=Bt h1 λj b hj=>by
       have zA:j<vs.length:=by rw[zw];exact(AAK.1 hj).1
       obtain⟨u,hu,hr⟩:=hvs j vs[j] (AAI zA);exact⟨u,hu,L.Dm _ hr⟩
      have zE:e.rd 0 W.w (Seen W (as.flatMap LA.roots)) (A5 g (a.eval x)) y []:=Bh e λj lv hj=>No
      have hrd2:=(Ls.AZ e hflat zE (d':=2) (w':=W.w) (yw:=W.fz)).1;refine⟨y::ys,us,λm=>match m with|0=>[]|m+1=>os m,hl,by simp[zK.len],zK.nodup,?_,?_,?_,?_,?_⟩
      ·intro i j hij b hb;cases i with
       |zero=>cases hb
       |succ i=>cases j with
        |zero=>simp
        |succ j=>exact zK.PB i j (λe=>hij (by rw[e])) b hb
      ·intro i;cases i with
       |zero=>grind
       |succ i=>exact zK.PK i
      ·intro i hi;cases i with
       |zero=>simp at hi
       |succ i=>exact zK.PR i No
      ·intro i b hb;cases i with
       |zero=>cases hb
       |succ i=>exact zK.Oe i b hb
      ·intro m hm;cases m with
       |zero=>exact⟨x,rfl,J,Ls.BB e hrd2 λj hj=>zR.2 j J⟩
       |succ m=>
        obtain⟨x',h1,h2,h3⟩:=zK.el m ADq;grind
     ·exact hl.elim
    ·obtain⟨bs,vs,os0,hl,hblen,halen,hvnd,_,hdis0,hbig0,hbs⟩:=En (v:=v) h (g:=A5 g (a.eval x)) (λj b hj=>⟨λyt=>hva (AAL.2 ⟨b,AAN hj,yt⟩),B8 h1 j b hj⟩) hl;split at hl
     ·rename_i lvs hlvs;have hlvs:bs.mapM FQ=some lvs:=hlvs;split at hl
      ·rename_i y hy;obtain⟨ys,us,os,hl,zK⟩:=Ho h hv ps (i+1) hl;split at hl
       ·rename_i zq
        have hapart:∀x∈vs,x∉us:=by intro x hx hx';have:=AAW.1 zq x hx;simp at this;exact this hx'
        have hup:=Av e lvs y hy
        have hlen:lvs.length=bs.length:=by
         have:∀ {l:List LA} {r:List Lv},l.mapM FQ=some r->r.length=l.length:=by
          intro l
          induction l with
          |nil=>grind
          |cons b l ih=>
           intro r hr;simp only[List.mapM_cons,Option.bind_eq_bind,Option.pure_def]at hr;cases hb:FQ b with
           |none=>grind
           |some c=>
            cases zk:l.mapM FQ with
            |none=>grind
            |some r'=>grind
         exact this hlvs
        have hen:as.length=e.n:=by rw[<-hblen,<-hlen,<-hup,CA]
        have zR:=Bt h1 λj b hj=>by
         have zA:j<bs.length:=by rw[hblen];exact(AAK.1 hj).1
         obtain⟨u,hu,hr⟩:=hbs j bs[j] (AAI zA);exact⟨u,hu,hr.1⟩
        have zE:e.rd 2 W.w W.fz (A5 g (a.eval x)) y ((List.range e.n).flatMap os0):=Dl e λj lv hj=>by
         rw[hup]at hj;have zA:j<bs.length:=by rw[<-hlen];exact(AAK.1 hj).1
         obtain⟨y',hy',hy''⟩:=F3 hlvs j bs[j] (AAI zA);rw[hj]at hy'';injection hy'' with hy'';subst hy''
         obtain⟨u,hu,ht⟩:=hbs j bs[j] (AAI zA);exact⟨u,hu,Iu ht hy'⟩
        have hnod0:∀j,(os0 j).Nodup:=by
         intro j;by_cases hj:j<bs.length
         ·obtain⟨u,_,ht⟩:=hbs j bs[j] (AAI hj);exact ht.2.1
         ·grind
        have hfrom0:∀b∈(List.range e.n).flatMap os0,∃r j,(r,j)∈vs/\b∈W.om (.lf r j):=by
         intro b hb;obtain⟨j,hj,hb⟩:=AAL.1 hb;have hj:j<bs.length:=by rw[hblen,hen];exact AAX.1 hj
         obtain⟨u,_,ht⟩:=hbs j bs[j] (AAI hj);exact ht.2.2.1 b hb
        have hcross:∀i,∀b∈(List.range e.n).flatMap os0,b∉os i:=by
         intro i b hb zJ;obtain⟨r,j,hm,h1⟩:=hfrom0 b hb;obtain⟨r',j',hm',h1'⟩:=zK.Oe i b zJ;by_cases he:(r,j)=(r',j')
         ·grind
         ·exact h.sep.A4 (.lf r j) (.lf r' j') (λe=>he No) b h1 h1'
        refine⟨y::ys,vs++us,λm=>match m with|0=>(List.range e.n).flatMap os0|m+1=>os m,hl,by simp[zK.len],?_,?_,?_,?_,?_,?_⟩
        ·exact AAZ.2 ⟨hvnd,zK.nodup,λx hx y hy e=>hapart x hx (e▸hy)⟩
        ·intro i j hij b hb;cases i with
         |zero=>grind
         |succ i=>cases j with
          |zero=>grind
          |succ j=>exact zK.PB i j (λe=>hij (by rw[e])) b hb
        ·intro i;cases i with
         |zero=>exact EF hnod0 hdis0 e.n
         |succ i=>exact zK.PK i
        ·intro i hi;cases i with
         |zero=>simp at hi
         |succ i=>exact zK.PR i No
        ·intro i b hb;cases i with
         |zero=>grind
         |succ i=>obtain⟨r,j,hm,h1⟩:=zK.Oe i b hb;grind
        ·intro m hm;cases m with
         |zero=>exact⟨x,rfl,J,Ls.BB e zE λj hj=>zR.2 j J⟩
         |succ m=>
          obtain⟨x',h1,h2,h3⟩:=zK.el m ADq;grind
       ·exact hl.elim
      ·exact hl.elim
     ·exact hl.elim
   ·exact hl.elim
  ·exact hl.elim
theorem FR{e:Ls}(f:Operand->Value):∀(ps:List (Nat×Operand)) (n:Nat) (arr:Array Value),(∀m x i,ps[m]?=some (i,x)->i=n+m/\(f x).cells.size=e.n)->(n+ps.length)*e.n<=arr.size->
  ∃arr',Instr.fill (λi=>some (i*e.n,e.n)) arr (ps.map λp=>(p.1,f p.2))=some arr'/\arr'.size=arr.size/\(∀k,k<n*e.n->arr'[k]?=arr[k]?)/\∀m i x,ps[m]?=some (i,x)->∀j,j<e.n->arr'[(n+m)*e.n+j]?=(f x).cells[j]?
 | [],n,arr,h,hs=>⟨arr,rfl,rfl,λ_ _=>rfl,λm i x hm=>by simp at hm⟩
 |(i,x)::ps,n,arr,h,hs=>by
  obtain⟨hi,zO⟩:=h 0 x i rfl;simp only[AAx]at hi;subst hi;have hs':(i+(ps.length+1))*e.n<=arr.size:=by simpa using hs
  have zb:i*e.n+e.n<=arr.size:=by have h2:(i+1)*e.n<=(i+(ps.length+1))*e.n:=AAo _ J;rw[AAm,ABS]at h2;omega
  have zM:=CX (f x).cells.toList (i*e.n) arr No
  obtain⟨arr',hf,zz,hlow,zN⟩:=FR f ps (i+1) (B9 (f x).cells.toList (i*e.n) arr) (λm y j hm=>by
   obtain⟨h1,h2⟩:=h (m+1) y j No;exact⟨J,h2⟩) (by rw[Ak,show i+1+ps.length=i+(ps.length+1) by omega];exact hs')
  refine⟨arr',?_,by rw[zz,Ak],?_,?_⟩
  ·rw[ABK,Ix (off:=i*e.n) (size:=e.n) rfl zO zb];exact hf
  ·grind
  ·intro m j y hm q hq;cases m with
   |zero=>
    grind
   |succ m=>
    grind
theorem Ej{P:Program}{w:World}{t t0:TypeId}{i:TypeInfo}{z:Value}{len:Nat}{parts:Array (Nat×Value)}{arr:Array Value}(ht:P.underlying t=some (.slice t0))(hi:P.info? t0=some i)(hz:i.zero=some z)
  (hlen:len*i.size<=16777216) (hf:Instr.fill (λj=>some (j*i.size,i.size)) (madeCells z.cells (len*i.size)) parts.toList=some arr):
  (Instr.buildSlice t len parts).run P w=.ok (.slice (some ⟨w.heap.size,0,none⟩) len len) (w.alloc (.cells arr t0)):=by
 have n1:¬(16777216<len*i.size):=J
 by_cases hn:len*i.size=0
 ·rw[hn]at hf;have h0:madeCells z.cells 0 = #[]:=by simp[madeCells]
  rw[h0]at hf;simp[Instr.buildSlice,run_underlying ht,sizeOf,typeInfo,hi,n1,hn,hf,newRow,Array.range_zero']
 ·unfold madeCells at hf;simp[Instr.buildSlice,run_underlying ht,sizeOf,typeInfo,zeroValue,hi,hz,n1,hn,hf,newRow]
end
end Go.Ev
namespace Go.Ev
theorem Ji{s:St}{r:Nat}(h:(s.root r).box=true):r<s.ro.length:=by
 rcases AAr r s.ro.length with zA|zu
 ·exact zA
 ·have:s.root r=dead:=Ay _ zu;rw[this]at h;cases h
theorem HE{s:St}{r j AA gen:Nat}{t:TypeId}{e:Ls}{xs:List e.D}{d:Nat}(h:s.leaf r j=.arr AA gen t e xs d):r<s.ro.length/\j<(s.root r).ls.length:=by
 constructor
 ·rcases AAr r s.ro.length with zA|zu
  ·exact zA
  ·have:s.root r=dead:=Ay _ zu;unfold St.leaf at h;rw[this]at h;cases j<;>cases h
 ·rcases AAr j (s.root r).ls.length with zA|zu
  ·exact zA
  ·unfold St.leaf at h;rw[Ay _ zu]at h;cases h
theorem ED(r:Nat):∀(bs:List LA)(j:Nat)(s:St),(bs=[]\/r<s.ro.length)->j+bs.length<=(s.root r).ls.length->Jr s (s.app (BE r j bs))/\
  ∀r' j',(s.app (BE r j bs)).leaf r' j'=if r'=r/\j<=j'/\j'<j+bs.length then nth .bad bs (j'-j)else s.leaf r' j'
 | [],j,s,hr,hj=>⟨⟨rfl,rfl,λ_=>⟨rfl,rfl,rfl⟩⟩,λr' j'=>by rw[AAQ OF];rfl⟩
 |b::bs,j,s,hr,hj=>by
  simp only[ABG]at hj;have hr:r<s.ro.length:=hr.resolve_left OF;have h1:=BY s r j b;obtain⟨h2,h3⟩:=ED r bs (j+1) (s.AF (.leaf r j b)) (by rw[h1.len];exact .inr hr) (by rw[(h1.box r).2.2];omega);refine⟨⟨h2.sl.trans h1.sl,h2.len.trans h1.len,λx=>⟨(h2.box x).1.trans (h1.box x).1,(h2.box x).2.1.trans (h1.box x).2.1,(h2.box x).2.2.trans (h1.box x).2.2⟩⟩,λr' j'=>?_⟩;show((s.AF (.leaf r j b)).app (BE r (j+1) bs)).leaf r' j'=_;rw[h3,Ef];by_cases hrr:r'=r
  ·subst hrr;by_cases hjj:j'=j
   ·subst hjj;rw[AAQ J,AAP ⟨rfl,rfl,hr,J⟩,AAP ⟨rfl,J,OF⟩];simp[nth]
   ·by_cases yt:j+1<=j'/\j'<j+1+bs.length
    ·rw[AAP ⟨rfl,yt⟩,AAP ⟨rfl,J,ADg⟩];obtain⟨k,rfl⟩:∃k,j'=j+1+k:=⟨j'-(j+1),J⟩;rw[show j+1+k-(j+1)=k by omega,show j+1+k-j=k+1 by omega];rfl
    ·rw[AAQ (λhh=>yt hh.2),AAQ (λhh=>hjj hh.2.1.symm),AAQ (λhh=>yt (by simp at hh;omega))]
  grind
section
variable {P:Program}{E:Cy}{s:St}{W:Wd}{o:Oper}{a:Act}{ws:List Wr}{cx:Cx}{v:Nat}{tm:Array Value}
theorem LA.D0(hv:Ad s v)(r j:Nat):(s.leaf r j).CJ=true\/v∉(s.leaf r j).AG:=hv.2.1 r j
theorem AU.KY(h:AU E s tm W)(hv:Ad s v){r j:Nat}(ze:(s.root r).box=true){us:List (Nat×Nat)}{bs:List LA}{os:Nat->Is}{cells:ADh}(hlen:cells.length=bs.length)(zb:j+bs.length<=(s.root r).ls.length)
  (hbs:∀(i:Nat)(b:LA),bs[i]?=some b->∃u,cells[i]?=some u/\Js s W v b u (os i) us) (zx:∀i j,i≠j->∀b∈os i,b∉os j) (hbig:∀i,bs.length<=i->os i=[])
  {arr:Array Value} {T:TypeId} {fr:Nat×Nat} (harr:W.w.heap[W.bk r]?=some (.cells arr T fr)) {w':World} (zI:NI W.w w' (W.bk r) (B9 cells j arr) T fr):
  ∃W',W'.w=w'/\AU E (s.app (gone us++BE r j bs)) tm W':=by
 have hr:r<s.ro.length:=Ji ze;obtain⟨_,hbx⟩:=h.roots r;rw[AAP ze]at hbx;obtain⟨hom,arr0,T0,fr0,hh,zH,zO,zW⟩:=hbx;rw[harr]at hh;injection hh with hh;injection hh with e1 e2 e3;subst e1;subst e2;subst e3
 have zM:=CX cells j arr J
 have zU:∀b,(W.fz b\/∃k,k≠.blk r/\b∈W.om k)->b≠W.bk r:=by
  rintro b hb rfl
  have h0:W.bk r∈W.om (.blk r):=by rw[hom];simp
  rcases hb with hb|⟨k,hk,hb⟩
  ·exact(h.sep.own _ _ h0).1 hb
  ·exact h.sep.A4 k _ hk _ hb h0
 have hw:∀b,(W.fz b\/∃k,k≠.blk r/\b∈W.om k)->w'.heap[b]?=W.w.heap[b]?:=λb hb=>zI.CI b (zU b hb);obtain⟨hsame1,hleaf1⟩:=Dx s us;rw[BA];generalize hs1:s.app (gone us)=s1 at hsame1 hleaf1;obtain⟨zd,zc⟩:=ED r bs j s1 (by rw[hsame1.len];exact .inr hr) (by rw[(hsame1.box r).2.2];exact zb);generalize hs2:s1.app (BE r j bs)=s' at zd zc;have hsl:s'.sl=s.sl:=zd.sl.trans hsame1.sl
 have hbx':∀r,(s'.root r).box=(s.root r).box/\(s'.root r).AA=(s.root r).AA/\(s'.root r).ls.length=(s.root r).ls.length:=λr=>
  ⟨(zd.box r).1.trans (hsame1.box r).1,(zd.box r).2.1.trans (hsame1.box r).2.1,(zd.box r).2.2.trans (hsame1.box r).2.2⟩
 have yr:∀r' j',s'.leaf r' j'=if r'=r/\j<=j'/\j'<j+bs.length then nth .bad bs (j'-j)else if(r',j')∈us then .bad else s.leaf r' j':=λr' j'=>No
 have hrol:s'.ro.length=s.ro.length:=zd.len.trans hsame1.len;clear hleaf1 zc hsame1 hs1 hs2
 let W':Wd:={
  w:=w'
  fz:=W.fz
  cv:=λr' j'=>if r'=r then(B9 cells j arr)[j']? else W.cv r' j'
  bk:=W.bk
  om:=λk=>match k with
   | .lf r' j'=>if r'=r/\j<=j'/\j'<j+bs.length then os (j'-j)else if(r',j')∈us then []else W.om (.lf r' j')
   |k=>W.om k }
 have hosub:∀i,∀b∈os i,∃r' j',(r',j')∈us/\b∈W.om (.lf r' j'):=by
  intro i b hb;by_cases hi:i<bs.length
  ·obtain⟨u,_,ht⟩:=hbs i bs[i] (AAI hi);exact ht.2.2.1 b hb
  ·grind
 have hnth:∀i,i<bs.length->∃u,cells[i]?=some u/\Js s W v (nth .bad bs i) u (os i) us:=by intro i hi;have:=hbs i bs[i] (AAI hi);rw[Ae,AAI hi];exact this
 have hcv':∀r' j',¬(r'=r/\j<=j'/\j'<j+bs.length)->W'.cv r' j'=W.cv r' j':=by
  intro r' j' hn;by_cases hrr:r'=r
  ·grind
  ·grind
 have zV:ES v s s' W W':={
  fz:=λb hb=>hb
  Lf:=λb hb=>hw b (.inl hb)
  leaf:=by
   intro r' j' AA gen t e xs d hl zD;rw[yr]at hl;by_cases yt:r'=r/\j<=j'/\j'<j+bs.length
   ·rw[AAP yt]at hl;obtain⟨u,_,ht⟩:=hnth (j'-j) J;rw[hl]at ht;exact absurd ht.2.2.2.1 zD
   ·rw[AAQ yt]at hl;by_cases hm:(r',j')∈us
    ·grind
    ·rw[AAQ hm]at hl;refine⟨hcv' r' j' yt,gen,t,xs,d,hl,λ_=>⟨rfl,λp h' e' u' hc hn=>?_⟩⟩;obtain⟨u0,z8,zE⟩:=(h.roots r').row hl;rw[hc]at z8;injection z8 with z8;subst z8
     exact BI p zE hn λb hb=>hw b (hb.elim (λhb=>.inr ⟨.lf r' j',OF,hb⟩) .inl)
  box:=λr' hb zD=>⟨(hbx' r').1▸hb,(hbx' r').2.1.symm,rfl⟩ }
 have hsep:Sep E W':=by
  refine h.sep.IM (λk=>∃r' j',k=.lf r' j'/\((r',j')∈us\/(r'=r/\j<=j'/\j'<j+bs.length))) rfl (by show _<=w'.heap.size;rw[zI.size];omega) ?_ zI.rest ?_ ?_ ?_ ?_
  ·intro b hb hio;refine zI.CI b ?_
   rintro rfl
   have h0:W.bk r∈W.om (.blk r):=by rw[hom];simp
   rcases(h.sep.own _ _ h0).2.2 with h2|h2
   all_goals grind
  ·grind
  ·rintro k ⟨r',j',rfl,hk⟩
   show(if r'=r/\j<=j'/\j'<j+bs.length then os (j'-j)else if(r',j')∈us then []else W.om (.lf r' j')).Nodup;by_cases yt:r'=r/\j<=j'/\j'<j+bs.length
   ·rw[AAP yt];obtain⟨u,_,ht⟩:=hnth (j'-j) J;exact ht.2.1
   grind
  ·rintro k k' ⟨r',j',rfl,hk⟩ ⟨r2,j2,rfl,hk2⟩ zD b hb zJ
   have hb:b∈(if r'=r/\j<=j'/\j'<j+bs.length then os (j'-j)else if(r',j')∈us then []else W.om (.lf r' j')):=hb;have zJ:b∈(if r2=r/\j<=j2/\j2<j+bs.length then os (j2-j)else if(r2,j2)∈us then []else W.om (.lf r2 j2)):=zJ;by_cases yt:r'=r/\j<=j'/\j'<j+bs.length
   ·rw[AAP yt]at hb;by_cases hin2:r2=r/\j<=j2/\j2<j+bs.length
    ·rw[AAP hin2]at zJ;exact zx (j'-j) (j2-j) (λe=>zD (by rw[yt.1,hin2.1,show j'=j2 by omega])) b hb zJ
    ·rw[AAQ hin2,AAP (hk2.resolve_right hin2)]at zJ;cases zJ
   grind
  ·grind
 refine⟨W',rfl,h.IM hv zV hsep (by rw[hsl,h.DM]) ?_ (λt=>.inl ⟨by show nth _ s'.sl t=_;rw[hsl];rfl,rfl⟩) ?_⟩
 ·rw[hrol,h.Bs]
 ·intro r';obtain⟨h1,h2⟩:=h.roots r';refine⟨λj'=>?_,?_⟩
  ·show Aa s' W' (s'.leaf r' j') (W'.cv r' j') (W'.om (.lf r' j'));have hom':W'.om (.lf r' j')=if r'=r/\j<=j'/\j'<j+bs.length then os (j'-j)else if(r',j')∈us then []else W.om (.lf r' j'):=rfl
   rw[yr,hom'];by_cases yt:r'=r/\j<=j'/\j'<j+bs.length
   ·rw[AAP yt,AAP yt];obtain⟨u,hu,ht⟩:=hnth (j'-j) J
    have hcvv:W'.cv r' j'=some u:=by show(if r'=r then _ else _)=_;grind
    rw[hcvv];obtain⟨_,_,_,ht⟩:=ht;generalize nth LA.bad bs (j'-j)=b at ht;unfold Aa;cases b with
    |arr AA gen t e xs dd=>
     obtain⟨_,_,hr⟩:=ht;refine⟨u,rfl,hr.frame (λb hb=>hw b ?_) λb hb=>hb⟩;grind
    |_=>exact⟨ht.1,λu' zG=>by injection zG with zG;subst zG;exact AQ.Ds zV ht.2.2 ht.2.1⟩
   ·rw[AAQ yt,AAQ yt,hcv' r' j' yt];by_cases hm:(r',j')∈us
    ·rw[AAP hm,AAP hm];exact⟨rfl,λ_ _=>trivial⟩
    ·rw[AAQ hm,AAQ hm];exact Aa.Ds zV (LA.D0 hv r' j') (λb hb=>hw b (.inr ⟨.lf r' j',OF,hb⟩)) (h1 j')
  ·rw[(hbx' r').1];split
   ·rename_i hb;rw[AAP hb]at h2;obtain⟨ho',arr',T',fr',hh',a1,a2,a3⟩:=h2;by_cases hrr:r'=r
    ·subst hrr;rw[harr]at hh';injection hh' with hh';injection hh' with e1 e2 e3;subst e1;subst e2;subst e3
     exact⟨ho',_,_,_,zI.here,by rw[Ak];exact a1,by rw[Ak,(hbx' r').2.2];exact a2,λj'=>AAP rfl⟩
    ·refine⟨ho',arr',T',fr',(hw (W.bk r') (.inr ⟨.blk r',by simpa using hrr,by rw[ho'];simp⟩)).trans hh',a1,by rw[(hbx' r').2.2];exact a2,λj'=>?_⟩;rw[<-a3 j'];exact AAQ hrr
   grind
theorem AU.Jh(h:AU E s tm W)(hv:Ad s v){r j AA gen:Nat}{t:TypeId}{e:Ls}{xs zm:List e.D}{d:Nat}(hl:s.leaf r j=.arr AA gen t e xs d){u:Value}(zW:W.cv r j=some u){w':World}
  (zE:AD e d w' W.fz u zm (W.om (.lf r j))) (hw:∀b,b∉W.om (.lf r j)->w'.heap[b]?=W.w.heap[b]?) (zO:w'.heap.size=W.w.heap.size) (zK:w'.os=W.w.os/\w'.tape=W.w.tape/\w'.output=W.w.output):
  AU E (s.app [.leaf r j (.arr AA v t e zm d)]) tm { W with w:=w' }:=by
 obtain⟨hr,hj⟩:=HE hl;show AU E (s.AF (.leaf r j (.arr AA v t e zm d))) tm _;have yx:=BY s r j (.arr AA v t e zm d);have yr:=Ef s r j (.arr AA v t e zm d);generalize s.AF (.leaf r j (.arr AA v t e zm d))=s' at yx yr;have hfz:∀b,W.fz b->w'.heap[b]?=W.w.heap[b]?:=λb hb=>hw b λyt=>(h.sep.own _ b yt).1 hb;have hoth:∀k,k≠.lf r j->∀b∈W.om k,w'.heap[b]?=W.w.heap[b]?:=λk hk b hb=>hw b λyt=>h.sep.A4 k _ hk b hb yt
 have zV:ES v s s' W { W with w:=w' }:={
  fz:=λb hb=>hb
  Lf:=hfz
  leaf:=by
   intro r' j' ver' gen' t' e' ys d' hl' zD;rw[yr]at hl';by_cases yt:r=r'/\j=j'
   ·grind
   ·rw[AAQ (λhh=>yt ⟨hh.1,hh.2.1⟩)]at hl';refine⟨rfl,gen',t',ys,d',hl',λ_=>⟨rfl,λp h' e2 u' hc hn=>?_⟩⟩;obtain⟨u0,z8,hrd0⟩:=(h.roots r').row hl';rw[hc]at z8;injection z8 with z8;subst z8
    exact BI p hrd0 hn λb hb=>hb.elim (λhb=>hoth _ No b hb) (hfz b)
  box:=λr' hb zD=>⟨(yx.box r').1▸hb,(yx.box r').2.1.symm,rfl⟩ }
 have hsep:Sep E { W with w:=w' }:={
  nodup:=h.sep.nodup
  A4:=h.sep.A4
  own:=λk b hb=>by obtain⟨a,c,d⟩:=h.sep.own k b hb;grind
  fz:=λb hb=>by obtain⟨a,c⟩:=h.sep.fz b hb;grind
  frame:=λb h1 h2=>(hw b λyt=>by
   rcases(h.sep.own _ b yt).2.2 with h3|h3
   all_goals grind).trans (h.sep.frame b h1 h2)
  size:=by show _<=w'.heap.size;rw[zO];exact h.sep.size
  rest:=⟨zK.1.trans h.sep.rest.1,zK.2.1.trans h.sep.rest.2.1,zK.2.2.trans h.sep.rest.2.2⟩ }
 refine h.IM hv zV hsep (by rw[yx.sl,h.DM]) (by rw[yx.len,h.Bs]) (λt=>.inl ⟨by show nth _ s'.sl t=_;rw[yx.sl];rfl,rfl⟩) ?_;intro r';obtain⟨h1,h2⟩:=h.roots r';refine⟨λj'=>?_,?_⟩
 ·show Aa s' _ (s'.leaf r' j') (W.cv r' j') (W.om (.lf r' j'));rw[yr];by_cases yt:r=r'/\j=j'
  ·obtain⟨rfl,rfl⟩:=yt;rw[AAP ⟨rfl,rfl,hr,hj⟩];exact⟨u,zW,zE⟩
  ·rw[AAQ (λhh=>yt ⟨hh.1,hh.2.1⟩)];exact Aa.Ds zV (LA.D0 hv r' j') (hoth _ No) (h1 j')
 ·rw[(yx.box r').1];split
  ·rename_i hb;rw[AAP hb]at h2;obtain⟨ho',arr',T',fr',hh',a1,a2,a3⟩:=h2;exact⟨ho',arr',T',fr',(hoth (.blk r') OF _ (by rw[ho'];simp)).trans hh',a1,by rw[(yx.box r').2.2];exact a2,a3⟩
  grind
end
end Go.Ev
namespace Go.Ev
def Plain(w:World)(fz:Nat->Prop)(vs:List Lv)(cells:ADh):Prop:=
 cells.length=vs.length/\∀(m:Nat)(lv:Lv),vs[m]?=some lv->Bx lv.l=false/\∃u,cells[m]?=some u/\∀d w' yw,lv.l.rd d w' yw u lv.x []
theorem Dc{w:World}{fz:Nat->Prop}:∀(e:Ls)(off:Nat)(vs:List Lv)(cells:ADh) {f:e.D->e.D} {d:Nat} {g g':Nat->Option Value} {x:e.D} {o:Is},Bu e off vs=some f->Plain w fz vs cells->
  e.rd d w fz g x o->(∀m,m<e.n->g' m=if off<=m/\m<off+vs.length then cells[m-off]? else g m)->off+vs.length<=e.n/\e.rd d w fz g' (f x) o
 | .nil,off,vs,cells,f,d,g,g',x,o,hf,hp,hr,hg=>by simp[Bu]at hf
 | .one l,off,vs,cells,f,d,g,g',x,o,hf,hp,hr,hg=>by
  simp only[Bu]at hf;split at hf
  ·rename_i v;split at hf
   ·rename_i y hy;injection hf with hf;subst hf
    obtain⟨l',z⟩:=v;obtain⟨e1,e2⟩:=L.AH hy;dsimp only at e1;subst e1;have e2:z=y:=e2;subst e2;obtain⟨hns,u,hu,zG⟩:=hp.2 0 ⟨l',z⟩ rfl;simp only[Ls.rd]at hr ⊢;obtain⟨v0,hv0,hr⟩:=hr;have ho:=(L.AZ l' hns hr (d':=d) (w':=w) (yw:=fz)).2;subst ho;refine⟨by simp[Ls.n],u,?_,zG _ _ _⟩;rw[hg 0 (by simp[Ls.n]),AAP OF,<-hu]
   ·cases hf
  ·cases hf
 | .cons l ls,off,vs,cells,f,d,g,g',x,o,hf,hp,hr,hg=>by
  simp only[Bu]at hf;simp only[Ls.rd]at hr ⊢;obtain⟨v0,o1,o2,hv0,h1,h2,rfl⟩:=hr;cases off with
  |zero=>
   simp only at hf;split at hf
   ·cases hf
   ·rename_i v;split at hf
    ·rename_i y hy;injection hf with hf;subst hf
     obtain⟨l',z⟩:=v;obtain⟨e1,e2⟩:=L.AH hy;dsimp only at e1;subst e1;have e2:z=y:=e2;subst e2;obtain⟨hns,u,hu,zG⟩:=hp.2 0 ⟨l',z⟩ rfl;have ho:=(L.AZ l' hns h1 (d':=d) (w':=w) (yw:=fz)).2;subst ho;refine⟨by simp[Ls.n]<;>omega,u,[],o2,?_,zG _ _ _,?_,rfl⟩
     ·rw[hg 0 (by simp[Ls.n]<;>omega),AAP OF,<-hu]
     ·exact Ls.BB ls h2 λj hj=>by rw[hg (j+1) (by simp[Ls.n]<;>omega),AAQ OF]
    ·cases hf
   ·rename_i v u0 vs';split at hf
    ·rename_i y f' hy hf';injection hf with hf;subst hf
     obtain⟨l',z⟩:=v;obtain⟨e1,e2⟩:=L.AH hy;dsimp only at e1;subst e1;have e2:z=y:=e2;subst e2;obtain⟨hns,u,hu,zG⟩:=hp.2 0 ⟨l',z⟩ rfl;have ho:=(L.AZ l' hns h1 (d':=d) (w':=w) (yw:=fz)).2;subst ho
     obtain⟨c0,cs,rfl⟩:∃c0 cs,cells=c0::cs:=by
      cases cells with
      |nil=>grind
      |cons c cs=>grind
     obtain⟨ih1,ih2⟩:=Dc ls 0 (u0::vs') cs (g':=λj=>g' (j+1)) hf' ⟨by have:=hp.1;grind,λm lv hm=>by
      have:=hp.2 (m+1) lv ADq;grind⟩ h2 (λm hm=>by
       rw[hg (m+1) (by simp[Ls.n]<;>omega)];grind)
     refine⟨by simp[Ls.n]at ih1 ⊢ <;> omega,u,[],o2,?_,zG _ _ _,ih2,rfl⟩;rw[hg 0 (by simp[Ls.n]<;>omega),AAP OF,<-hu]
    ·cases hf
  |succ off=>
   simp only at hf;split at hf
   ·rename_i f' hf';injection hf with hf;subst hf
    obtain⟨ih1,ih2⟩:=Dc ls off vs cells (g':=λj=>g' (j+1)) hf' hp h2 (λm hm=>by
     rw[hg (m+1) (by simp[Ls.n]<;>omega)];grind)
    refine⟨by simp[Ls.n]<;>omega,v0,o1,o2,?_,h1,ih2,rfl⟩;rw[hg 0 (by simp[Ls.n]<;>omega),AAQ J];exact hv0
   ·cases hf
theorem KI{w:World}{fz:Nat->Prop}:∀(e:Ls)(j:Nat) {G:(t:TypeId)->(f:Ls)->Option (List f.D->List f.D)} {hh:e.D->e.D} {g:Nat->Option Value} {x:e.D} {o:Is} {t:TypeId} {f:Ls} {h':Value},CK e j G=some hh->
  e.kinds[j]?=some (.sl t f)->e.rd 2 w fz g x o->g j=some h'->∃(fn:List f.D->List f.D) (ys:List f.D) (o':Is),G t f=some fn/\AD f 2 w fz h' ys o'/\(∀b∈o',b∈o)/\(o.Nodup->o'.Nodup)/\
   ∀w',AD f 2 w' fz h' (fn ys) o'->(∀b,b∈o\/fz b->b∉o'->w'.heap[b]?=w.heap[b]?)->(∀b,fz b->b∉o')->o.Nodup->e.rd 2 w' fz g (hh x) o
 | .nil,j,G,hh,g,x,o,t,f,h',hm,hk,hr,hg=>by simp[CK]at hm
 | .one l,j,G,hh,g,x,o,t,f,h',hm,hk,hr,hg=>by
  simp only[CK]at hm;simp only[Ls.rd]at hr;obtain⟨v,hv,hr⟩:=hr;cases j with
  |succ j=>cases hm
  |zero=>
   simp[Ls.kinds]at hk;subst hk;rw[hg]at hv;injection hv with hv;subst hv
   refine⟨hh,x,o,hm,hr,λb hb=>hb,id,λw' zk _ _ _=>?_⟩;simp only[Ls.rd];exact⟨h',hg,zk⟩
 | .cons l ls,j,G,hh,g,x,o,t,f,h',hm,hk,hr,hg=>by
  simp only[CK]at hm;simp only[Ls.rd]at hr;obtain⟨v,o1,o2,hv,h1,h2,rfl⟩:=hr;cases j with
  |zero=>
   simp[Ls.kinds]at hk;subst hk;rw[hg]at hv;injection hv with hv;subst hv
   simp only at hm;split at hm
   ·rename_i fn hfn;injection hm with hm;subst hm
    refine⟨fn,x.1,o1,hfn,h1,λb hb=>AAV _ hb,λhn=>(AAZ.1 hn).1,λw' zk hf hz hn=>?_⟩;simp only[Ls.rd];refine⟨h',o1,o2,hg,zk,Ls.AI ls h2 (λb hb=>hf b (hb.imp (AAS _) id) ?_) (λb hb=>hb),rfl⟩;grind
   ·cases hm
  |succ j=>
   simp only at hm;split at hm
   ·rename_i h2' hh';injection hm with hm;subst hm
    obtain⟨fn,ys,o',a1,a2,a3,a4,a5⟩:=KI ls j hh' (by simpa[Ls.kinds]using hk) h2 (show(λj=>g (j+1)) j=_ from hg);refine⟨fn,ys,o',a1,a2,λb hb=>AAS _ (a3 b hb),λhn=>a4 (AAZ.1 hn).2.1,λw' zk hf hz hn=>?_⟩;simp only[Ls.rd];refine⟨v,o1,o2,hv,L.AI l h1 (λb hb=>hf b (hb.imp (AAV _) id) ?_) (λb hb=>hb),a5 w' zk (λb hb hnb=>hf b (hb.imp (AAS _) id) hnb) hz (AAZ.1 hn).2.1,rfl⟩;grind
   ·cases hm
theorem FD:∀(e:Ls),(∀l∈e.kinds,Bx l=false)->Br e=true
 | .nil,_=>rfl
 | .one l,h=>by simp[Br,h l (by simp[Ls.kinds])]
 | .cons l ls,h=>by simp[Br,h l (by simp[Ls.kinds]),FD ls λl hl=>h l (by simp[Ls.kinds,hl])]
theorem FZ{α:Type}(xs:List α)(i:Nat)(f:α->α)(m:Nat)(hm:m<(xs.modify i f).length):(xs.modify i f)[m]=if i=m then f (xs[m]'(by grind))else xs[m]'(by grind):=No
theorem HN{e:Ls}{d:Nat}{w:World}{fz:Nat->Prop}{a:Addr}{n k:Nat}{xs:List e.D}{o:Is}(hr:AD e d w fz (.slice (some a) n k) xs o)(hd:0<d)(hn:o.Nodup)(hz:∀b∈o,¬fz b){i:Nat}(hi:i<n)
  {off:Nat} {cells:ADh} {F:e.D->e.D} (zb:off+cells.length<=e.n)
  (hF:∀g g' x oo,e.rd (dec d) w fz g x oo->(∀m,m<e.n->g' m=if off<=m/\m<off+cells.length then cells[m-off]? else g m)->e.rd (dec d) w fz g' (F x) oo):
  a.spot=none/\∃arr T fr,w.heap[a.block]?=some (.cells arr T fr)/\(∀j,j<arr.size->¬(fr.1<=j/\j<fr.2))/\a.off+(i*e.n+off)+cells.length<=arr.size/\a.block∈o/\
   ∀w',NI w w' a.block (B9 cells (a.off+(i*e.n+off)) arr) T fr->AD e d w' fz (.slice (some a) n k) (xs.modify i F) o:=by
 obtain⟨A,c,hv,hc,_,zZ⟩:=hr.Kb;injection hv with hA hl hk
 subst hA;subst hl;subst hk;obtain⟨arr,T,fr,os,hs,hh,zO,zH,zN,ho,_⟩:=zZ a rfl (.inr hd);have ho:=ho hd;have zH:=zH hd
 have hmul:i*e.n+e.n<=k*e.n:=by have:(i+1)*e.n<=k*e.n:=AAo _ J;rw[AAm,ABS]at this;omega
 have hbnd:a.off+(i*e.n+off)+cells.length<=arr.size:=J
 refine⟨hs,arr,T,fr,hh,zH,hbnd,by rw[ho];simp,λw' zI=>?_⟩;have zM:=CX cells (a.off+(i*e.n+off)) arr hbnd;have hd':decide (0<d)=true:=by simpa using hd
 refine⟨some a,k,OF,AD0,?_⟩;refine .inr ⟨λq=>(B9 cells (a.off+(i*e.n+off)) arr)[a.off+q]?,os,⟨hs,_,T,fr,zI.here,by rw[Ak];exact zO,λ_=>by rw[Ak];exact zH,λ_=>rfl⟩,λm hm=>?_,?_⟩
 ·have hm':m<xs.length:=ADq
  have hnod:a.block∉os m:=by intro yt;rw[ho]at hn;exact(AAa.1 hn).1 (AAL.2 ⟨m,AAX.2 hm',yt⟩)
  rw[FZ]
  have hframe:∀ {g x},e.rd (dec d) w fz g x (os m)->e.rd (dec d) w' fz g x (os m):=λh=>Ls.AI e h (λb hb=>zI.CI b (by
   rintro rfl
   rcases hb with hb|hb
   ·exact hnod hb
   ·exact hz _ (by rw[ho];simp) hb)) λ_ hb=>hb
  by_cases him:i=m
  ·subst him;rw[AAP rfl];refine hframe (hF _ _ _ _ (zN i hm') λq hq=>?_);show(B9 cells (a.off+(i*e.n+off)) arr)[a.off+(i*e.n+q)]?=_;rw[zM];by_cases hc:off<=q/\q<off+cells.length
   ·rw[AAP J,AAP hc];congr 1;omega
   ·rw[AAQ J,AAQ hc]
  ·rw[AAQ him];refine hframe (Ls.BB e (zN m hm') λq hq=>?_);show(B9 cells (a.off+(i*e.n+off)) arr)[a.off+(m*e.n+q)]?=_;rw[zM,AAQ];intro hc;rcases ABN him with h1|h1
   ·have:(i+1)*e.n<=m*e.n:=AAo _ h1;rw[AAm,ABS]at this;omega
   ·have:(m+1)*e.n<=i*e.n:=AAo _ h1;rw[AAm,ABS]at this;omega
 grind
theorem Kw{w:World}{fz:Nat->Prop}{e:Ls}{vs:List Lv}{y:e.D}{cells:ADh}(hy:pack e vs=some y)(hp:Plain w fz vs cells){g:Nat->Option Value}(hg:∀m,m<e.n->g m=cells[m]?):
  Br e=true/\vs.length=e.n/\∀d w' yw,e.rd d w' yw g y []:=by
 have hup:=Av e vs y hy;have hlen:vs.length=e.n:=by rw[<-hup,CA]
 have hfl:Br e=true:=FD e λl hl=>by rw[<-EG e y,hup]at hl;obtain⟨lv,hm,rfl⟩:=AAt.1 hl;obtain⟨m,hm⟩:=AAq hm;exact(hp.2 m lv hm).1
 refine⟨hfl,hlen,λd w' yw=>?_⟩
 have:e.rd 0 w' yw g y []:=Bh e λj lv hj=>by
  rw[hup]at hj;have zA:j<e.n:=by rw[<-hlen];exact(AAK.1 hj).1
  obtain⟨_,u,hu,hr⟩:=hp.2 j lv hj;grind
 exact(Ls.AZ e hfl this).1
theorem EH{α:Type}:∀(xs:List α)(i:Nat)(y:α),Ca xs i y=xs.modify i λ_=>y
 | [],i,y=>by cases i<;>simp[Ca]
 |x::xs,0,y=>by simp[Ca]
 |x::xs,i+1,y=>by simp[Ca,EH xs i y]
theorem IV{x:Nat×Nat}{p:List (Nat×Nat)}(hp:p≠[]){q:List (Nat×Nat)}{i off:Nat}(h:Aj (x::p)=some (q,i,off)):∃q',q=x::q'/\Aj p=some (q',i,off):=by
 cases p with
 |nil=>grind
 |cons y r=>
  simp only[Aj]at h;grind
theorem CS{os:Nat->Is}:∀ {l:Is},(l.flatMap os).Nodup->∀ {i j:Nat},i∈l->j∈l->i≠j->∀b∈os i,b∉os j
 | [],_,i,j,hi,_,_=>by cases hi
 |x::l,h,i,j,hi,hj,zD=>by
  rw[AAn]at h;obtain⟨h1,h2,h3⟩:=AAZ.1 h;intro b hb zJ;rcases AAd.1 hi with hi'|hi'
  ·grind
  ·rcases AAd.1 hj with hj'|hj'
   ·grind
   ·exact CS h2 hi' hj' zD b hb zJ
theorem CT{os:Nat->Is}:∀ {l:Is},(l.flatMap os).Nodup->∀ {i:Nat},i∈l->(os i).Nodup
 | [],_,i,hi=>by cases hi
 |x::l,h,i,hi=>No
theorem LC{vs:List Lv}{cells:ADh}{w:World}{fz:Nat->Prop}(hp:Plain w fz vs cells){i off:Nat}{e':Ls}{a:Addr}{n k:Nat}(hi:i<n):∀(p q:List (Nat×Nat)) {e:Ls} {d:Nat} {h:Value} {xs:List e.D} {o:Is} {f:List e.D->List e.D},
  G3 vs p e=some f->AD e d w fz h xs o->o.Nodup->(∀b∈o,¬fz b)->0<d->(p.length<=1\/d=2)->Aj p=some (q,i,off)->Jl w q e h e' (.slice (some a) n k)->
  a.spot=none/\∃arr T fr,w.heap[a.block]?=some (.cells arr T fr)/\(∀j,j<arr.size->¬(fr.1<=j/\j<fr.2))/\a.off+(i*e'.n+off)+cells.length<=arr.size/\a.block∈o/\
   ∀w',NI w w' a.block (B9 cells (a.off+(i*e'.n+off)) arr) T fr->AD e d w' fz h (f xs) o
 | [],q,e,d,h,xs,o,f,hm,hr,hn,hz,hd,hpl,hs,hnav=>by simp[G3]at hm
 | [(i0,j0)],q,e,d,h,xs,o,f,hm,hr,hn,hz,hd,hpl,hs,hnav=>by
  simp only[Aj,Option.some.injEq,Prod.mk.injEq]at hs;obtain⟨rfl,rfl,rfl⟩:=hs;obtain⟨rfl,rfl⟩:=hnav;simp only[G3]at hm;split at hm
  ·rename_i y hy;injection hm with hm;subst hm
   split at hy
   ·rename_i hc;simp only[AAJ,AAT]at hc;obtain⟨rfl,hlen⟩:=hc
    have:=HN (F:=λ_=>y) (off:=0) (cells:=cells) hr hd hn hz hi (by rw[hp.1,hlen];omega) (λg g' x oo hx hg=>by
     obtain⟨hfl,_,zq⟩:=Kw hy hp (g:=g') λm hm=>by rw[hg m hm,AAP (by rw[hp.1,hlen];omega)];simp
     have:=(Ls.AZ e' hfl hx (d':=0) (w':=w) (yw:=fz)).2;grind)
    simpa only[EH]using this
   ·cases hy
  ·split at hm
   ·rename_i f' hf';injection hm with hm;subst hm
    have hlen:∀g x oo,e'.rd (dec d) w fz g x oo->j0+vs.length<=e'.n:=λg x oo hx=>(Dc e' j0 vs cells (g':=λm=>if j0<=m/\m<j0+vs.length then cells[m-j0]? else g m) hf' hp hx λm _=>rfl).1;obtain⟨A,c,hv,hc,_,zZ⟩:=hr.Kb;injection hv with hA hl hk
    subst hA;subst hl;subst hk;obtain⟨arr,T,fr,os,_,_,_,_,zN,_,_⟩:=zZ a rfl (.inr hd);have zb:=hlen _ _ _ (zN i0 hi);exact HN (F:=f') (off:=j0) (cells:=cells) hr hd hn hz hi (by rw[hp.1];exact zb) (λg g' x oo hx hg=>(Dc e' j0 vs cells hf' hp hx λm hm=>by rw[hg m hm,hp.1]).2)
   ·cases hm
 |(i0,j0)::p0::ps,q,e,d,h,xs,o,f,hm,hr,hn,hz,hd,hpl,hs,hnav=>by
  have hd2:d=2:=hpl.resolve_left OF;subst hd2;obtain⟨q',rfl,hs'⟩:=IV OF hs;simp only[G3]at hm;split at hm
  ·rename_i hh hhh;injection hm with hm;subst hm
   obtain⟨a0,len,c,t,ff,h',rfl,hs0,hi0,hk,zP,hnav'⟩:=hnav;obtain⟨A,cc,hv,hc,_,zZ⟩:=hr.Kb;injection hv with hA hl hk'
   subst hA;subst hl;subst hk';obtain⟨arr,T,fr,os,_,hhp,zO,zH,zN,ho,_⟩:=zZ a0 rfl (.inr hd);have ho:=ho hd;have zH:=zH hd
   have hcell':arr[a0.off+(i0*e.n+j0)]?=some h':=by simp only[World.cell?,at_,hhp]at zP;simpa using zP
   have hnd:=hn;rw[ho]at hnd
   have hosn:(os i0).Nodup:=by exact CT (AAa.1 hnd).2 (AAX.2 hi0)
   have zr:∀m,m<xs.length->∀b∈os m,b∈o:=λm hm b hb=>by rw[ho];exact AAM _ (AAL.2 ⟨m,AAX.2 hm,hb⟩)
   have zx:∀m,m<xs.length->m≠i0->∀b∈os i0,b∉os m:=by intro m hm zD b hb zJ;have h3:=(AAa.1 hnd).2;have:=CS h3 (AAX.2 hi0) (AAX.2 hm) (λe=>zD e.symm) b hb;exact this zJ
   obtain⟨fn,ys,o',hfn,yz,hosub,hond,hback⟩:=KI e j0 hhh hk (zN i0 hi0) hcell';obtain⟨hspot,arr2,T2,fr2,hh2,hb2,hbnd,yt,hput2⟩:=LC hp hi (p0::ps) q' hfn yz (hond hosn) (λb hb=>hz b (zr i0 hi0 b (hosub b hb))) hd (.inr rfl) hs' hnav';refine⟨hspot,arr2,T2,fr2,hh2,hb2,hbnd,zr i0 hi0 _ (hosub _ yt),λw' zI=>?_⟩;have hrow':=hput2 w' zI;have hne0:a0.block≠a.block:=λe=>(AAa.1 hnd).1 (AAL.2 ⟨i0,AAX.2 hi0,by rw[e];exact hosub _ yt⟩);refine⟨some a0,c,OF,AD0,.inr ⟨λqq=>arr[a0.off+qq]?,os,⟨hs0,arr,T,fr,(zI.CI _ hne0).trans hhp,zO,λ_=>zH,λ_=>rfl⟩,λm hm=>?_,?_⟩⟩
   ·have hm':m<xs.length:=ADq
    rw[FZ];by_cases him:i0=m
    ·subst him;rw[AAP rfl];refine hback w' hrow' (λb hb hnb=>zI.CI b (λe=>hnb (e▸yt))) (λb hb zJ=>hz b (zr i0 hi0 b (hosub b zJ)) hb) hosn
    ·rw[AAQ him];refine Ls.AI e (zN m hm') (λb hb=>zI.CI b ?_) λ_ hb=>hb
     rintro rfl
     rcases hb with hb|hb
     ·exact zx m hm' (λe=>him e.symm) _ (hosub _ yt) hb
     ·exact hz _ (zr i0 hi0 _ (hosub _ yt)) hb
   grind
  ·cases hm
end Go.Ev
namespace Go.Ev
def Gz(w:World)(fz:Nat->Prop)(g:Bool)(ls:List (L×Nat))(u:Value)(vs:List Lv)(own:Nat->Is):Prop:=
 vs.map (·.l)=ls.map (·.1)/\(match g with
  |true=>∃cs:Array Value,u=.agg cs/\cs.size=ls.length
  |false=>ls.length=1)/\∀(j:Nat)(p:L×Nat)(lv:Lv),ls[j]?=some p->vs[j]?=some lv->∃y,A5 g u j=some y/\lv.l.rd p.2 w fz y lv.x (own j)
def ND(w:World)(fz:Nat->Prop)(ls:List (L×Nat))(u:Value)(vs:List Lv)(blk:Nat)(own:Nat->Is):Prop:=
 u=.pointer (some ⟨blk,0,none⟩)/\vs.map (·.l)=ls.map (·.1)/\∃(arr:Array Value) (T:TypeId) (fr:Nat×Nat),w.heap[blk]?=some (.cells arr T fr)/\(∀j,j<arr.size->¬(fr.1<=j/\j<fr.2))/\arr.size=ls.length/\
  ∀(j:Nat)(p:L×Nat)(lv:Lv),ls[j]?=some p->vs[j]?=some lv->∃y,arr[j]?=some y/\lv.l.rd p.2 w fz y lv.x (own j)
def NG(w:World)(fz:Nat->Prop)(pm:PM)(u:Value)(vs:List Lv)(blk:Nat)(own:Nat->Is):Prop:=match pm with
 | .val g ls=>Gz w fz g (ls.map λl=>(l,0)) u vs λ_=>[]
 | .box ls=>ND w fz ls u vs blk own
 | .row g ls=>Gz w fz g ls u vs own
 | .fn f=>u=.func (.func f) #[] #[]/\vs=[]
def Jp(w:World)(fz:Nat->Prop)(pm:PM)(u:Value)(vs:List Lv)(blk:Nat)(own:Nat->Is):Prop:=match pm with
 | .val _ _=>vs=[]
 | .box ls=>ND w fz ls u vs blk own
 | .row g ls=>Gz w fz g ls u vs own
 | .fn _=>vs=[]
def EP(w:World)(fz:Nat->Prop)(om:Nat->Is):List (Bool×List (L×Nat))->ADh->List (List Lv)->Nat->Prop
 | [],[],[],_=>True
 |(g,ls)::rs,u::us,vs::yv,off=>Gz w fz g ls u vs (λj=>om (off+j))/\EP w fz om rs us yv (off+ls.length)
 |_,_,_,_=>False
structure EN(ps:List PM)(w:World)(fz:Nat->Prop)(args:ADh)(yv:List (List Lv))(bk:Nat->Nat)(om:Key->Is):Prop where
 len:args.length=ps.length
 Bs:yv.length=ps.length
 each:∀(i:Nat)(pm:PM)(u:Value)(vs:List Lv),ps[i]?=some pm->args[i]?=some u->yv[i]?=some vs->NG w fz pm u vs (bk i) λj=>om (.lf i j)
 blk:∀i,om (.blk i)=match ps[i]? with
  |some (.box _)=>[bk i]
  |_=>[]
 none:∀i,(∀ls,ps[i]?≠some (.box ls))->(∀g ls,ps[i]?≠some (.row g ls))->∀j,om (.lf i j)=[]
 box:∀i ls,ps[i]?=some (.box ls)->∀j,ls.length<=j->om (.lf i j)=[]
 row:∀i g ls,ps[i]?=some (.row g ls)->∀j,ls.length<=j->om (.lf i j)=[]
 fl:∀k,om (.fl k)=[]
 nodup:∀k,(om k).Nodup
 A4:∀k k',k≠k'->∀b∈om k,b∉om k'
 own:∀k,∀b∈om k,¬fz b/\b<w.heap.size
 fz:∀b,fz b->b<w.heap.size
def Ky:ADh->Value
 | [u]=>u
 |us=>.tuple us.toArray
structure Fh(g:Sm)(w:World)(fz:Nat->Prop)(args:ADh)(bk:Nat->Nat)(om:Key->Is)(z:g.outs.D)(r:Value)(w':World)(yw:Nat->Prop)(zj:Key->Is)(rv:ADh)(vsR vsP:List (List Lv)):Prop where
 outs:unpack g.outs z=vsR.flatten++vsP.flatten
 res:r=Ky rv
 Mw:EP w' yw (λk=>zj (.fl k)) g.rs rv vsR 0
 len:vsP.length=g.ps.length
 each:∀(i:Nat)(pm:PM)(u:Value)(vs:List Lv),g.ps[i]?=some pm->args[i]?=some u->vsP[i]?=some vs->Jp w' yw pm u vs (bk i) λj=>zj (.lf i j)
 blk:∀i,zj (.blk i)=om (.blk i)
 nodup:∀k,(zj k).Nodup
 A4:∀k k',k≠k'->∀b∈zj k,b∉zj k'
 own:∀k,∀b∈zj k,¬yw b/\b<w'.heap.size/\(w.heap.size<=b\/∃k0,b∈om k0)
 fz:∀b,yw b->b<w'.heap.size/\(fz b\/w.heap.size<=b\/∃k0,b∈om k0)
 frame:∀b,b<w.heap.size->(∀k,b∉om k)->w'.heap[b]?=w.heap[b]?
 size:w.heap.size<=w'.heap.size
 rest:w'.os=w.os/\w'.tape=w.tape/\w'.output=w.output
 kept:∀(i:Nat) (ls:List (L×Nat)) (j:Nat) (p:L×Nat),g.ps[i]?=some (.box ls)->ls[j]?=some p->p.2=3->w'.cell? ⟨bk i,j,none⟩=w.cell? ⟨bk i,j,none⟩
structure MD(g:Sm)(w:World)(fz:Nat->Prop)(z:g.outs.D)(r:Value)(w':World)(yw:Nat->Prop)(b:Nat):Prop where
 box:ND w' yw g.G4 r (unpack g.outs z) b λ_=>[]
 new:w.heap.size<=b/\b<w'.heap.size/\¬yw b
 fz:∀x,yw x->x<w'.heap.size/\(fz x\/w.heap.size<=x)
 frame:∀x,x<w.heap.size->w'.heap[x]?=w.heap[x]?
 size:w.heap.size<=w'.heap.size
 rest:w'.os=w.os/\w'.tape=w.tape/\w'.output=w.output
def PQ(P:Program)(T:List (String×Array Value))(w:World)(io:Nat->Prop):Prop:=∀x∈T,w.var? P x.1=some x.2/\∃g,P.globalNamed x.1=some g/\¬io g/\g<w.heap.size
def LS(P:Program)(T:List (String×Array Value))(f:FuncId)(g:NB):Prop:=
 ∀(args:ADh)(w:World)(fz:Nat->Prop) (yv:List (List Lv)) (bk:Nat->Nat) (om:Key->Is) (x:g.s.ins.D) (z:g.s.outs.D),PQ P T w (λb=>∃k,b∈om k)->EN g.s.ps w fz args yv bk om->pack g.s.ins yv.flatten=some x->g.f x=some z->
  Calls P f args.toArray w λen w'=>match g.s.mk? with
   |false=>∃r yw zj rv vsR vsP,en=.returned r/\Fh g.s w fz args bk om z r w' yw zj rv vsR vsP
   |true=>∃r yw b,en=.returned r/\MD g.s w fz z r w' yw b
def Ga(w:World)(fz:Nat->Prop)(ls:List L)(u:Value)(vs:List Lv):Prop:=
 ∃(b:Nat) (arr:Array Value) (T:TypeId) (fr:Nat×Nat),u=.pointer (some ⟨b,0,none⟩)/\fz b/\w.heap[b]?=some (.cells arr T fr)/\arr.size=ls.length/\vs.map (·.l)=ls/\∀(j:Nat)(lv:Lv),vs[j]?=some lv->∃y,arr[j]?=some y/\lv.l.rd 0 w fz y lv.x []
def D1(w:World)(fz:Nat->Prop):List (List L)->ADh->List Lv->Prop
 | [],[],vs=>vs=[]
 |ls::bs,u::us,vs=>∃x y,vs=x++y/\Ga w fz ls u x/\D1 w fz bs us y
 |_,_,_=>False
def K4(w:World)(fz:Nat->Prop)(rowv:Value):Ka->Value->List Lv->Prop
 | .box ls,u,vs=>Ga w fz ls u vs
 | .EM g bs,u,vs=>∃(b:Nat) (T:TypeId) (fr:Nat×Nat) (lb:Array Value),u=.pointer (some ⟨b,0,none⟩)/\fz b/\w.heap[b]?=some (.cells #[.func (.func g) #[] lb] T fr)/\D1 w fz bs lb.toList vs
 | .row,u,vs=>vs=[]/\∃(b:Nat) (T:TypeId) (fr:Nat×Nat),u=.pointer (some ⟨b,0,none⟩)/\fz b/\w.heap[b]?=some (.cells #[rowv] T fr)
def EO(w:World)(fz:Nat->Prop)(rowv:Value):List Ka->ADh->List Lv->Prop
 | [],[],vs=>vs=[]
 |c::cs,u::us,vs=>∃x y,vs=x++y/\K4 w fz rowv c u x/\EO w fz rowv cs us y
 |_,_,_=>False
def N3(P:Program)(g:FuncId)(σ:Oa):Prop:=
 ∀(w:World)(fz:Nat->Prop)(us:ADh)(vs:List Lv) (y:(E6 (σ.JN.flatMap Ka.kinds)).D) (blk off n c:Nat) (G:Nat->Int),EO w fz (.slice (some ⟨blk,off,none⟩) n c) σ.JN us vs->pack (E6 (σ.JN.flatMap Ka.kinds)) vs=some y->
  (∀t,t<n->w.cell? ⟨blk,off+t,none⟩=some (.int .i64 (G t)))->n<=20->∀i j:Nat,i<n->j<n->∀b,σ.lt y (G i) (G j)=some b->
  Calls P g (#[.int .i64 i,.int .i64 j]++us.toArray) w λe w'=>e=.returned (.bool b)/\∃q os,w'=Go.Sort.grow (w.drewN q) os
structure MF(P:Program)(f:FuncId)(t:TypeId):Prop where
 many:∀(α:Type) [Inhabited α] (enc:α->Value),(∀x,(enc x).oneCell'=true)->∀(lt:α->α->Bool)(g:Nat)(lb:Array Value),(∀args w,(callFunc g args).run P w=.ok (.enter g args) w)->∀(blk off c:Nat)(d:Array α),2<=d.size->d.size<=20->∀(w:World),
  (∀(m:Nat)(os:Array Obj)(dk:Array α),dk.size=d.size->∀i j:Nat,i<d.size->j<d.size->
   Calls P g (#[.int .i64 i,.int .i64 j]++lb) (Go.Sort.grow (Go.Sort.putRow enc (Go.Sort.ahead w m) blk off dk) os) λe w'=>e=.returned (.bool (lt dk[i]! dk[j]!))/\∃q zn,w'=Go.Sort.grow ((Go.Sort.grow (Go.Sort.putRow enc (Go.Sort.ahead w m) blk off dk) os).drewN q) zn)->
  Go.Sort.Holds enc w blk off d->blk<w.heap.size->
  Calls P f #[.iface t (.slice (some ⟨blk,off,none⟩) d.size c),.func (.func g) #[] lb] w λe w'=>e=.returned (.tuple #[])/\∃n os,w'=Go.Sort.grow (Go.Sort.putRow enc (Go.Sort.ahead w n) blk off (Go.Sort.insertionSort lt d 0 d.size)) os
 Nv:∀(p:Option Addr)(n c:Nat),n<=1->∀(lf:Fn)(la lb:Array Value)(w:World),Calls P f #[.iface t (.slice p n c),.func lf la lb] w λe w'=>e=.returned (.tuple #[])/\∃os,w'=Go.Sort.grow w os
 body : ∃ (fn : Func) (c : Code), P.funcs[f]? = some fn /\ fn.body = some c /\ (fn.name == "runtime.NumGoroutine") = false
structure MG(P:Program)(f g:FuncId)(σ:Oa):Prop where
 sort:MF P f σ.t
 less:N3 P g σ
 enters:∀args w,(callFunc g args).run P w=.ok (.enter g args) w
def Io (P : Program) (T : List (String × Array Value)) (env : FuncId -> Option NB) : Prop := ∀ f g, env f = some g -> LS P T f g /\ ∃ (fn : Func) (c : Code), P.funcs[f]? = some fn /\ fn.body = some c /\ (fn.name == "runtime.NumGoroutine") = false
structure Jn(P:Program)(T:List (String×Array Value))(env:Env):Prop where
 fns:Io P T env.fn
 Oy:∀f g σ,env.PX f g=some σ->MG P f g σ
 OE:MC P env
def DO(P:Program)(E:Cy)(env:Env):Prop:=Jn P E.Nu env/\∀x∈E.Nu,E.w0.var? P x.1=some x.2/\∃g,P.globalNamed x.1=some g/\¬E.io g/\g<E.base
theorem DO.PU{P:Program}{E:Cy}{env:Env}(h:DO P E env){W:Wd}(hs:Sep E W){om:Key->Is}(ho:∀k,∀b∈om k,∃k',b∈W.om k'):PQ P E.Nu W.w (λb=>∃k,b∈om k):=by
 intro x hx;obtain⟨h1,g,h2,h3,h4⟩:=h.2 x hx;have hg:W.w.heap[g]?=E.w0.heap[g]?:=hs.frame g h4 h3;refine⟨?_,g,h2,?_,by have:=hs.size;omega⟩
 ·unfold World.var? at h1 ⊢;grind
 ·rintro ⟨k,hb⟩
  obtain⟨k',hb⟩:=ho k g hb;rcases(hs.own k' g hb).2.2 with h5|h5
  all_goals grind
section
variable {P:Program}{E:Cy}{s s':St}{W W':Wd}{v:Nat}{tm:Array Value}
theorem AU.Mf(h:AU E s tm W)(hv:Ad s v)(yx:Jr s s')(chk:Nat->Nat->Prop)(chb:Nat->Prop)
  (hl:∀r j,¬chk r j->s'.leaf r j=s.leaf r j) (zW:∀r,¬chb r->∀j,W'.cv r j=W.cv r j) (hcb:∀r j,chb r->chk r j) (hbk:∀r,W'.bk r=W.bk r)
  (hom:∀r j,¬chk r j->W'.om (.lf r j)=W.om (.lf r j)) (homb:∀r,W'.om (.blk r)=W.om (.blk r))
  (hw:∀b,(W.fz b\/(∃r,¬chb r/\b∈W.om (.blk r))\/∃r j,¬chk r j/\b∈W.om (.lf r j))->W'.w.heap[b]?=W.w.heap[b]?) (hfz:∀b,W.fz b->W'.fz b)
  (yr:∀(r j AA gen:Nat)(t:TypeId)(e:Ls)(xs:List e.D)(d:Nat),chk r j->s'.leaf r j=.arr AA gen t e xs d->AA≠v->W'.cv r j=W.cv r j/\∃gen0 t0 xs0 d0,s.leaf r j=.arr AA gen0 t0 e xs0 d0/\(gen≠v->gen=gen0/\W'.w=W.w))
  (hsep:Sep E W') (zh:ES v s s' W W'->∀r j,chk r j->Aa s' W' (s'.leaf r j) (W'.cv r j) (W'.om (.lf r j)))
  (ze:∀r,chb r->(s.root r).box=true->∃(arr:Array Value) (T:TypeId) (fr:Nat×Nat),W'.w.heap[W.bk r]?=some (.cells arr T fr)/\(∀j,j<arr.size->¬(fr.1<=j/\j<fr.2))/\arr.size=(s.root r).ls.length/\∀j,W'.cv r j=arr[j]?):AU E s' tm W':=by
 have zV:ES v s s' W W':={
  fz:=hfz
  Lf:=λb hb=>hw b (.inl hb)
  leaf:=by
   intro r j AA gen t e xs d hlf zD;by_cases hc:chk r j
   ·grind
   ·rw[hl r j hc]at hlf;refine⟨zW r (λhb=>hc (hcb r j hb)) j,gen,t,xs,d,hlf,λ_=>⟨rfl,λp h' e' u' zg hn=>?_⟩⟩;obtain⟨u0,z8,zE⟩:=(h.roots r).row hlf;rw[zg]at z8;injection z8 with z8;subst z8
    exact BI p zE hn λb hb=>hw b (hb.elim (λhb=>.inr (.inr ⟨r,j,hc,hb⟩)) .inl)
  box:=λr hb zD=>⟨(yx.box r).1▸hb,(yx.box r).2.1.symm,hbk r⟩ }
 refine h.IM hv zV hsep (by rw[yx.sl,h.DM]) (by rw[yx.len,h.Bs]) (λt=>.inl ⟨by show nth _ s'.sl t=_;rw[yx.sl];rfl,rfl⟩) ?_;intro r;obtain⟨h1,h2⟩:=h.roots r;refine⟨λj=>?_,?_⟩
 ·show Aa s' W' (s'.leaf r j) (W'.cv r j) (W'.om (.lf r j));by_cases hc:chk r j
  ·grind
  ·rw[hl r j hc,zW r (λhb=>hc (hcb r j hb)) j,hom r j hc];exact Aa.Ds zV (LA.D0 hv r j) (λb hb=>hw b (.inr (.inr ⟨r,j,hc,hb⟩))) (h1 j)
 ·rw[(yx.box r).1,homb,hbk];split
  ·rename_i hb;rw[AAP hb]at h2;obtain⟨ho',arr',T',fr',hh',a1,a2,a3⟩:=h2;refine⟨ho',?_⟩;by_cases hc:chb r
   ·obtain⟨arr,T,fr,q1,q2,q3,q4⟩:=ze r hc hb;exact⟨arr,T,fr,q1,q2,by rw[q3,(yx.box r).2.2],q4⟩
   ·exact⟨arr',T',fr',(hw _ (.inr (.inl ⟨r,hc,by rw[ho'];simp⟩))).trans hh',a1,by rw[(yx.box r).2.2];exact a2,λj=>(zW r hc j).trans (a3 j)⟩
  grind
structure Up where
 r:Nat
 lo:Nat
 news:List LA
def Ep(us:List Up):List Wr:=us.flatMap λu=>BE u.r u.lo u.news
theorem Ic:∀(us:List Up)(s:St),(∀u∈us,(u.news=[]\/u.r<s.ro.length)/\u.lo+u.news.length<=(s.root u.r).ls.length)->Jr s (s.app (Ep us))/\
  ∀r j,(s.app (Ep us)).leaf r j=us.foldl (λa u=>if r=u.r/\u.lo<=j/\j<u.lo+u.news.length then nth .bad u.news (j-u.lo)else a) (s.leaf r j)
 | [],s,h=>⟨⟨rfl,rfl,λ_=>⟨rfl,rfl,rfl⟩⟩,λr j=>rfl⟩
 |u::us,s,h=>by
  obtain⟨hr,hf⟩:=h u OF;obtain⟨h1,h2⟩:=ED u.r u.news u.lo s hr hf
  obtain⟨h3,h4⟩:=Ic us (s.app (BE u.r u.lo u.news)) λx hx=>by
   obtain⟨q1,q2⟩:=h x (AAM _ hx);exact⟨by rw[h1.len];exact q1,by rw[(h1.box x.r).2.2];exact q2⟩
  have he:s.app (Ep (u::us))=(s.app (BE u.r u.lo u.news)).app (Ep us):=by show s.app (BE u.r u.lo u.news++Ep us)=_;rw[BA]
  rw[he];refine⟨⟨h3.sl.trans h1.sl,h3.len.trans h1.len,λx=>⟨(h3.box x).1.trans (h1.box x).1,(h3.box x).2.1.trans (h1.box x).2.1,(h3.box x).2.2.trans (h1.box x).2.2⟩⟩,λr j=>?_⟩;grind
end
end Go.Ev
namespace Go.Ev
theorem CD.uniq{α:Type}{n:Nat}{R R':(Nat->Option Value)->α->Is->Prop}{own:Bool}{w:World}{fz yw:Nat->Prop}{v:Value}{xs zm:List α}{o o':Is}
  (h:CD n R own w fz v xs o) (h':CD n R' own w yw v zm o') (hr:∀g x y p q,R g x p->R' g y q->x=y/\p=q):xs=zm/\o=o':=by
 obtain⟨A,c,hv,hc,h⟩:=h;obtain⟨A',c',hv',zg,h'⟩:=h';rw[hv]at hv';injection hv' with e1 e2 e3
 subst e1;subst e3;cases A with
 |none=>
  have z1:xs=[]:=AAO (by have:=h.1;omega);grind
 |some a=>
  by_cases hc0:c=0
  ·have z1:xs=[]:=AAO J;have z2:zm=[]:=AAO J;subst z1;subst z2;refine⟨rfl,?_⟩;cases own with
   |true=>
    grind
   |false=>
    grind
  ·rcases h with⟨_,h,_⟩|⟨g,os,yz,zN,ho⟩
   ·omega
   rcases h' with⟨_,h,_⟩|⟨g',zn,hrow',hel',ho'⟩
   ·omega
   have hgg:g=g':=by funext j;rw[<-yz.cell j,<-hrow'.cell j]
   subst hgg;have hlen:xs.length=zm.length:=e2;have hel2:∀i (h1:i<xs.length) (h2:i<zm.length),xs[i]=zm[i]/\os i=zn i:=λi h1 h2=>hr _ _ _ _ _ (zN i h1) (hel' i h2);have hxs:xs=zm:=List.ext_getElem hlen λi h1 h2=>(hel2 i h1 h2).1;refine⟨hxs,?_⟩;cases own with
   |true=>
    have ho:o=a.block::(List.range xs.length).flatMap os:=ho;have ho':o'=a.block::(List.range zm.length).flatMap zn:=ho';rw[ho,ho',<-hlen];congr 1
    have:∀(l:Is),(∀i∈l,i<xs.length)->l.flatMap os=l.flatMap zn:=by
     intro l
     induction l with
     |nil=>intro _;rfl
     |cons i l ih=>
      intro hi;rw[AAn,AAn,ih λk hk=>hi k (AAM _ hk),(hel2 i (hi i AAg) (hlen▸hi i AAg)).2]
    grind
   |false=>grind
mutual
theorem L.E0:∀(l:L) {d:Nat} {w:World} {fz yw:Nat->Prop} {v:Value} {x y:l.D} {o p:Is},l.rd d w fz v x o->l.rd d w yw v y p->x=y/\o=p
 | .int _,_,_,_,_,_,_,_,_,_,h,h'=>by
  have:=h.1.symm.trans h'.1;injection this with _ e
  exact⟨e,h.2.trans h'.2.symm⟩
 | .bool,_,_,_,_,_,_,_,_,_,h,h'=>by
  have:=h.1.symm.trans h'.1;injection this with e
  exact⟨e,h.2.trans h'.2.symm⟩
 | .str,_,_,_,_,_,x,y,_,_,h,h'=>by
  have:=h.1.symm.trans h'.1;injection this with e
  have e2:List.toArray (show ADi from x)=List.toArray (show ADi from y):=by injection e
  have e3:(show ADi from x)=(show ADi from y):=by have:=congrArg Array.toList e2;simpa using this
  exact⟨e3,h.2.trans h'.2.symm⟩
 | .sl _ e,d,w,fz,yw,v,x,y,o,p,h,h'=>by rw[L.IK]at h h';exact CD.uniq h h' λg a b q r h1 h2=>Ls.E0 e h1 h2
theorem Ls.E0:∀(ls:Ls) {d:Nat} {w:World} {fz yw:Nat->Prop} {g:Nat->Option Value} {x y:ls.D} {o p:Is},ls.rd d w fz g x o->ls.rd d w yw g y p->x=y/\o=p
 | .nil,_,_,_,_,_,x,y,_,_,h,h'=>⟨by cases x;cases y;rfl,by rw[show _=_ from h,show _=_ from h']⟩
 | .one l,_,_,_,_,_,_,_,_,_,h,h'=>by
  simp only[Ls.rd]at h h';obtain⟨v,hv,h⟩:=h;obtain⟨v',hv',h'⟩:=h';rw[hv]at hv';injection hv' with hv';subst hv'
  exact L.E0 l h h'
 | .cons l ls,_,_,_,_,_,x,y,_,_,h,h'=>by
  simp only[Ls.rd]at h h';obtain⟨v,o1,o2,hv,h1,h2,rfl⟩:=h;obtain⟨v',p1,p2,hv',h1',h2',rfl⟩:=h';rw[hv]at hv';injection hv' with hv';subst hv'
  obtain⟨a1,a2⟩:=L.E0 l h1 h1';obtain⟨b1,b2⟩:=Ls.E0 ls h2 h2';exact⟨Prod.ext a1 b1,by rw[a2,b2]⟩
end
theorem AD.uniq{e:Ls}{d:Nat}{w:World}{fz yw:Nat->Prop}{v:Value}{xs ys:List e.D}{o p:Is}(h:AD e d w fz v xs o)(h':AD e d w yw v ys p):xs=ys/\o=p:=
 L.E0 (.sl 0 e) h h'
def N2(o p o' q:Is):Prop:=q.Nodup/\∀b∈q,b∈o'\/(b∈o/\b∉p)
structure Nx(w w':World)(fz yw:Nat->Prop)(o p o':Is):Prop where
 nd:o'.Nodup
 new:∀b∈o',b∈o->b∈p
 rest:∀b,(b∈o/\b∉p)\/fz b->w'.heap[b]?=w.heap[b]?
 fz:∀b,fz b->yw b
theorem H5{G:(t:TypeId)->(f:Ls)->Option (List f.D->List f.D)}{d:Nat}{w:World}{fz:Nat->Prop}:∀(e:Ls)(j:Nat) {F:e.D->e.D} {g:Nat->Option Value} {x:e.D} {o:Is} {t:TypeId} {f:Ls} {h:Value},
  CK e j G=some F->e.kinds[j]?=some (.sl t f)->e.rd d w fz g x o->g j=some h->o.Nodup->
  ∃fn ys p,G t f=some fn/\AD f d w fz h ys p/\(∀b∈p,b∈o)/\p.Nodup/\∀w' yw o',AD f d w' yw h (fn ys) o'->Nx w w' fz yw o p o'->∃q,e.rd d w' yw g (F x) q/\N2 o p o' q
 | .nil,j,F,g,x,o,t,f,h,hm,hk,hr,hg,hn=>by simp[Ls.kinds]at hk
 | .one l,j+1,F,g,x,o,t,f,h,hm,hk,hr,hg,hn=>by simp[Ls.kinds]at hk
 | .one l,0,F,g,x,o,t,f,h,hm,hk,hr,hg,hn=>by
  simp[Ls.kinds]at hk;subst hk;simp only[Ls.rd]at hr;obtain⟨v,hv,hr⟩:=hr;rw[hg]at hv;injection hv with hv;subst hv
  simp only[CK]at hm;exact⟨F,x,o,hm,hr,λb hb=>hb,hn,λw' yw o' zk hs=>⟨o',⟨h,hg,zk⟩,hs.nd,λb hb=>.inl hb⟩⟩
 | .cons l ls,0,F,g,x,o,t,f,h,hm,hk,hr,hg,hn=>by
  simp[Ls.kinds]at hk;subst hk;simp only[Ls.rd]at hr;obtain⟨v,o1,o2,hv,hr,hr2,rfl⟩:=hr;rw[hg]at hv;injection hv with hv;subst hv
  simp only[CK]at hm;split at hm
  ·rename_i fn hfn;injection hm with hm;subst hm
   obtain⟨n1,n2,n3⟩:=AAZ.1 hn;refine⟨fn,x.1,o1,hfn,hr,λb hb=>AAV _ hb,n1,λw' yw o' zk hs=>⟨o'++o2,⟨h,o',o2,hg,zk,?_,rfl⟩,?_,?_⟩⟩
   ·exact Ls.AI ls hr2 (λb hb=>hs.rest b (hb.imp (λhb=>⟨AAS _ hb,λzJ=>n3 b zJ b hb rfl⟩) id)) hs.fz
   ·refine AAZ.2 ⟨hs.nd,n2,λb hb c hc e=>?_⟩;subst e;exact n3 b (hs.new b hb (AAS _ hc)) b hc rfl
   grind
  ·cases hm
 | .cons l ls,j+1,F,g,x,o,t,f,h,hm,hk,hr,hg,hn=>by
  simp only[Ls.rd]at hr;obtain⟨v,o1,o2,hv,hr,hr2,rfl⟩:=hr;simp only[CK]at hm;split at hm
  ·rename_i F2 hF;injection hm with hm;subst hm
   obtain⟨n1,n2,n3⟩:=AAZ.1 hn;obtain⟨fn,ys,p,h1,h2,h3,h4,h5⟩:=H5 ls j (g:=λj=>g (j+1)) hF (by simpa[Ls.kinds]using hk) hr2 hg n2;refine⟨fn,ys,p,h1,h2,λb hb=>AAS _ (h3 b hb),h4,λw' yw o' zk hs=>?_⟩;obtain⟨q,hq,hq1,hq2⟩:=h5 w' yw o' zk ⟨hs.nd,λb hb zJ=>hs.new b hb (AAS _ zJ),λb hb=>hs.rest b (hb.imp (λhb=>⟨AAS _ hb.1,hb.2⟩) id),hs.fz⟩;have hno:∀b∈o1,b∉p:=λb hb hp=>n3 b hb b (h3 b hp) rfl;refine⟨o1++q,⟨v,o1,q,hv,?_,hq,rfl⟩,?_,?_⟩
   ·exact L.AI l hr (λb hb=>hs.rest b (hb.imp (λhb=>⟨AAV _ hb,hno b hb⟩) id)) hs.fz
   ·refine AAZ.2 ⟨n1,hq1,λb hb c hc e=>?_⟩;subst e;rcases hq2 b hc with h6|h6
    ·exact hno b hb (hs.new b h6 (AAV _ hb))
    ·exact n3 b hb b h6.1 rfl
   grind
  ·cases hm
theorem FU{os:Nat->Is}:∀ {l:Is},l.Nodup->(∀i∈l,(os i).Nodup)->(∀i∈l,∀j∈l,i≠j->∀b∈os i,b∉os j)->(l.flatMap os).Nodup
 | [],_,_,_=>OF
 |x::l,h,h1,h2=>by obtain⟨hx,hl⟩:=AAa.1 h;rw[AAn];refine AAZ.2 ⟨h1 x AAg,FU hl (λi hi=>h1 i (AAM _ hi)) (λi hi j hj=>h2 i (AAM _ hi) j (AAM _ hj)),λb hb c hc e=>?_⟩;grind
theorem OK{G:(t:TypeId)->(f:Ls)->Option (List f.D->List f.D)}{w:World}{fz:Nat->Prop}:∀(p:List (Nat×Nat)) {t:TypeId} {e:Ls} {d:Nat} {h:Value} {xs:List e.D} {o:Is} {e':Ls} {v:Value} {F:List e.D->List e.D},
  H4 G p t e=some F->AD e d w fz h xs o->Jl w p e h e' v->(p≠[]->d=2)->o.Nodup->
  ∃t' fn ys po,G t' e'=some fn/\AD e' d w fz v ys po/\(∀b∈po,b∈o)/\po.Nodup/\∀w' yw o',AD e' d w' yw v (fn ys) o'->Nx w w' fz yw o po o'->∃q,AD e d w' yw h (F xs) q/\N2 o po o' q
 | [],t,e,d,h,xs,o,e',v,F,hm,hr,hn,hp,hnd=>by obtain⟨rfl,rfl⟩:=hn;exact⟨t,F,xs,o,hm,hr,λb hb=>hb,hnd,λw' yw o' zk hs=>⟨o',zk,hs.nd,λb hb=>.inl hb⟩⟩
 |(i,j)::p,t,e,d,h,xs,o,e',v,F,hm,hr,hn,hp,hnd=>by
  have hd:d=2:=hp OF;subst hd;obtain⟨a,len,c,t',f,h',rfl,hs,hi,hk,hc,hn⟩:=hn;obtain⟨A,cc,hv,hle,hrr⟩:=hr;injection hv with hA hl hcc
  subst hA;subst hl;subst hcc;rcases hrr with⟨h0,_⟩|⟨g,os,yz,zN,ho⟩
  ·simp at h0
  have ho:o=a.block::(List.range xs.length).flatMap os:=ho;have zN:∀i (h:i<xs.length),e.rd 2 w fz (λj=>g (i*e.n+j)) xs[i] (os i):=zN;simp only[H4]at hm;split at hm
  ·rename_i H hH;injection hm with hm;subst hm
   rw[ho]at hnd;obtain⟨nb,nf⟩:=AAa.1 hnd;have zi:∀m,m<xs.length->(os m).Nodup:=λm hm=>CT nf (AAX.2 hm);have zx:∀m,m<xs.length->∀k,k<xs.length->m≠k->∀b∈os m,b∉os k:=λm hm k hk zD=>CS nf (AAX.2 hm) (AAX.2 hk) zD;have zU:∀m,m<xs.length->a.block∉os m:=λm hm hb=>nb (AAL.2 ⟨m,AAX.2 hm,hb⟩);have hg:g (i*e.n+j)=some h':=by rw[<-yz.cell];exact hc
   obtain⟨fn,ys,po,h1,h2,h3,h4,h5⟩:=H5 e j hH hk (zN i hi) hg (zi i hi);obtain⟨t2,fn2,zs,po2,g1,g2,g3,g4,g5⟩:=OK p h1 h2 hn (λ_=>rfl) h4;have yt:∀m,m<xs.length->∀b∈os m,b∈o:=λm hm b hb=>by rw[ho];exact AAM _ (AAL.2 ⟨m,AAX.2 hm,hb⟩)
   refine⟨t2,fn2,zs,po2,g1,g2,λb hb=>yt i hi b (h3 b (g3 b hb)),g4,λw' yw o' zk hst=>?_⟩;obtain⟨q1,hq1,hb1,hb1'⟩:=g5 w' yw o' zk ⟨hst.nd,λb hb zJ=>hst.new b hb (yt i hi b (h3 b zJ)),λb hb=>hst.rest b (hb.imp (λhb=>⟨yt i hi b (h3 b hb.1),hb.2⟩) id),hst.fz⟩;have hpo2:∀b∈po2,b∈os i:=λb hb=>h3 b (g3 b hb)
   obtain⟨q2,hq2,hb2,hb2'⟩:=h5 w' yw q1 hq1 ⟨hb1,λb hb zJ=>by
     rcases hb1' b hb with h6|h6
     ·exact g3 b (hst.new b h6 (yt i hi b zJ))
     ·exact h6.1,λb hb=>hst.rest b (hb.imp (λhb=>⟨yt i hi b hb.1,λh7=>hb.2 (g3 b h7)⟩) id),hst.fz⟩
   have hq2o:∀b∈q2,b∈o'\/(b∈os i/\b∉po2):=by
    intro b hb;rcases hb2' b hb with h6|h6
    ·rcases hb1' b h6 with h7|h7
     ·exact .inl h7
     ·exact .inr ⟨h3 b h7.1,h7.2⟩
    ·exact .inr ⟨h6.1,λh7=>h6.2 (g3 b h7)⟩
   let zn:Nat->Is:=λm=>if m=i then q2 else os m
   have hrow':Row w' a (c*e.n) true g:=yz.frame (hst.rest _ (.inl ⟨by rw[ho];simp,λh7=>zU i hi (hpo2 _ h7)⟩));have hlen:(xs.modify i H).length=xs.length:=OF
   refine⟨a.block::(List.range xs.length).flatMap zn,⟨some a,c,OF,by simpa using hle,.inr ⟨g,zn,hrow',λm hm=>?_,?_⟩⟩,?_,?_⟩
   ·have hm':m<xs.length:=ADq
    show e.rd 2 w' yw _ (xs.modify i H)[m] (zn m);rw[List.getElem_modify];by_cases him:i=m
    ·subst him;rw[AAP rfl,show zn i=q2 from AAP rfl];exact hq2
    ·rw[AAQ him,show zn m=os m from AAQ λe=>him e.symm];exact Ls.AI e (zN m hm') (λb hb=>hst.rest b (hb.imp (λhb=>⟨yt m hm' b hb,λh7=>zx m hm' i hi (λe=>him e.symm) b hb (hpo2 b h7)⟩) id)) hst.fz
   ·show a.block::(List.range xs.length).flatMap zn=a.block::(List.range (xs.modify i H).length).flatMap zn;rw[hlen]
   ·refine AAa.2 ⟨λhb=>?_,FU List.nodup_range (λm hm=>?_) (λm hm k hk zD b hb zJ=>?_)⟩
    ·obtain⟨m,hm,hb⟩:=AAL.1 hb;have hm:=AAX.1 hm;by_cases him:m=i
     ·subst him;rw[show zn m=q2 from AAP rfl]at hb;rcases hq2o _ hb with h6|h6
      ·exact zU m hm (hpo2 _ (hst.new _ h6 (by rw[ho];simp)))
      ·exact zU m hm h6.1
     ·rw[show zn m=os m from AAQ him]at hb;exact zU m hm hb
    ·have hm:=AAX.1 hm;by_cases him:m=i
     ·rw[show zn m=q2 from AAP him];exact hb2
     ·rw[show zn m=os m from AAQ him];exact zi m hm
    ·have hm:=AAX.1 hm;have hk:=AAX.1 hk;by_cases him:m=i
     ·have hki:k≠i:=λe=>zD (him.trans e.symm);rw[show zn m=q2 from AAP him]at hb;rw[show zn k=os k from AAQ hki]at zJ;rcases hq2o b hb with h6|h6
      ·exact zx k hk i hi hki b zJ (hpo2 b (hst.new b h6 (yt k hk b zJ)))
      ·exact zx k hk i hi hki b zJ h6.1
     ·rw[show zn m=os m from AAQ him]at hb;by_cases hki:k=i
      ·rw[show zn k=q2 from AAP hki]at zJ;rcases hq2o b zJ with h6|h6
       ·exact zx m hm i hi him b hb (hpo2 b (hst.new b h6 (yt m hm b hb)))
       ·exact zx m hm i hi him b hb h6.1
      ·rw[show zn k=os k from AAQ hki]at zJ;exact zx m hm k hk zD b hb zJ
   grind
  ·cases hm
theorem I4{β:Type}{d:Nat}{w:World}{fz:Nat->Prop}{k:(t:TypeId)->(f:Ls)->List f.D->Step β}{t:β}:∀(e:Ls)(j:Nat) {g:Nat->Option Value} {x:e.D} {o:Is} {t':TypeId} {f:Ls} {h:Value},
  (JW e j x k).leads t->e.rd d w fz g x o->e.kinds[j]?=some (.sl t' f)->g j=some h->o.Nodup->∃(ys:List f.D) (o':Is),(k t' f ys).leads t/\AD f d w fz h ys o'/\(∀b∈o',b∈o)/\o'.Nodup
 | .nil,j,_,_,_,_,_,_,hl,_,_,_,_=>hl.elim
 | .one l,0,g,x,o,t',f,h,hl,hr,hk,hg,hn=>by
  simp only[Ls.rd]at hr;obtain⟨v,hv,hr⟩:=hr;simp[Ls.kinds]at hk;subst hk;rw[hg]at hv;injection hv with hv;subst hv
  exact⟨x,o,hl,hr,λb hb=>hb,hn⟩
 | .one _,_+1,_,_,_,_,_,_,hl,_,_,_,_=>hl.elim
 | .cons l ls,0,g,x,o,t',f,h,hl,hr,hk,hg,hn=>by
  simp only[Ls.rd]at hr;obtain⟨v,o1,o2,hv,hr,hr2,rfl⟩:=hr;simp[Ls.kinds]at hk;subst hk;rw[hg]at hv;injection hv with hv;subst hv
  exact⟨x.1,o1,hl,hr,λb hb=>AAV _ hb,(AAZ.1 hn).1⟩
 | .cons l ls,j+1,g,x,o,t',f,h,hl,hr,hk,hg,hn=>by simp only[Ls.rd]at hr;obtain⟨v,o1,o2,hv,hr,hr2,rfl⟩:=hr;obtain⟨ys,o',a,b,c,d⟩:=I4 ls j (g:=λj=>g (j+1)) hl hr2 (by simpa[Ls.kinds]using hk) hg (AAZ.1 hn).2.1;grind
theorem Ft{β:Type}{w:World}{fz:Nat->Prop}{k:(t:TypeId)->(e:Ls)->List e.D->Nat->Step β}{z:β}:∀(p:List (Nat×Nat)) {t0:TypeId} {e:Ls} {xs:List e.D} {d:Nat} {h:Value} {o:Is} {e':Ls} {v:Value},
  (Oo k p t0 e xs d).leads z->AD e d w fz h xs o->Jl w p e h e' v->(p≠[]->d=2)->o.Nodup->∃(t':TypeId) (ys:List e'.D) (o':Is),(k t' e' ys d).leads z/\AD e' d w fz v ys o'/\(∀b∈o',b∈o)/\o'.Nodup
 | [],t0,e,xs,d,h,o,e',v,hl,hr,hn,hp,hnd=>by obtain⟨rfl,rfl⟩:=hn;exact⟨t0,xs,o,hl,hr,λb hb=>hb,hnd⟩
 |(i,j)::p,t0,e,xs,d,h,o,e',v,hl,hr,hn,hp,hnd=>by
  have hd:d=2:=hp OF;subst hd;obtain⟨a,len,c,t',f,h',rfl,hs,hi,hk,hc,hn⟩:=hn;obtain⟨A,cc,hv,hle,hrr⟩:=hr;injection hv with hA hl' hcc
  subst hA;subst hl';subst hcc;rcases hrr with⟨h0,_⟩|⟨g,os,yz,zN,ho⟩
  ·simp at h0
  have ho:o=a.block::(List.range xs.length).flatMap os:=ho;have zN:∀i (h:i<xs.length),e.rd 2 w fz (λj=>g (i*e.n+j)) xs[i] (os i):=zN;obtain⟨x,hx,hl⟩:=hl;rw[AAI hi]at hx;injection hx with hx;subst hx
  have hg:g (i*e.n+j)=some h':=by rw[<-yz.cell];exact hc
  rw[ho]at hnd;obtain⟨nb,nf⟩:=AAa.1 hnd;obtain⟨ys,o',hl,zE,zr,hnd'⟩:=I4 e j hl (zN i hi) hk hg (CT nf (AAX.2 hi));obtain⟨t2,zs,o2,hl,hz,hs2,hn2⟩:=Ft p hl zE hn (λ_=>rfl) hnd';exact⟨t2,zs,o2,hl,hz,λb hb=>No,hn2⟩
end Go.Ev
namespace Go.Ev
def Gc(ovs:Nat->Is)(o:Is):Prop:=(∀m,(ovs m).Nodup)/\(∀m m',m≠m'->∀b∈ovs m,b∉ovs m')/\∀m,∀b∈ovs m,b∉o
theorem Gc.sub{ovs:Nat->Is}{o o':Is}(h:Gc ovs o)(hs:∀b∈o',b∈o):Gc ovs o':=⟨h.1,h.2.1,λm b hb zJ=>h.2.2 m b hb (hs b zJ)⟩
theorem B0{w:World}{fz:Nat->Prop}{d:Nat}{ovs:Nat->Is}:∀(e:Ls)(off:Nat)(vs:List Lv)(cells:ADh)(sh:Nat) {f:e.D->e.D} {g g':Nat->Option Value} {x:e.D} {o:Is},Bu e off vs=some f->cells.length=vs.length->
  (∀(m:Nat)(lv:Lv),vs[m]?=some lv->∃u,cells[m]?=some u/\lv.l.rd d w fz u lv.x (ovs (sh+m)))->e.rd d w fz g x o->(∀m,m<e.n->g' m=if off<=m/\m<off+vs.length then cells[m-off]? else g m)->
  off+vs.length<=e.n/\∃o',e.rd d w fz g' (f x) o'/\(∀b∈o',b∈o\/∃m,sh<=m/\b∈ovs m)/\(o.Nodup->Gc ovs o->o'.Nodup)
 | .nil,off,vs,cells,sh,f,g,g',x,o,hf,hl,hp,hr,hg=>by simp[Bu]at hf
 | .one l,off,vs,cells,sh,f,g,g',x,o,hf,hl,hp,hr,hg=>by
  simp only[Bu]at hf;split at hf
  ·rename_i v;split at hf
   ·rename_i y hy;injection hf with hf;subst hf
    obtain⟨l',z⟩:=v;obtain⟨e1,e2⟩:=L.AH hy;dsimp only at e1;subst e1;have e2:z=y:=e2;subst e2;obtain⟨u,hu,zG⟩:=hp 0 ⟨l',z⟩ rfl;refine⟨by simp[Ls.n],ovs sh,?_,λb hb=>.inr ⟨sh,AAc _,hb⟩,λ_ hn=>hn.1 sh⟩;simp only[Ls.rd];refine⟨u,?_,J⟩;rw[hg 0 (by simp[Ls.n]),AAP OF,<-hu]
   ·cases hf
  ·cases hf
 | .cons l ls,off,vs,cells,sh,f,g,g',x,o,hf,hl,hp,hr,hg=>by
  simp only[Bu]at hf;simp only[Ls.rd]at hr;obtain⟨v0,o1,o2,hv0,h1,h2,rfl⟩:=hr;cases off with
  |zero=>
   simp only at hf;split at hf
   ·cases hf
   ·rename_i v;split at hf
    ·rename_i y hy;injection hf with hf;subst hf
     obtain⟨l',z⟩:=v;obtain⟨e1,e2⟩:=L.AH hy;dsimp only at e1;subst e1;have e2:z=y:=e2;subst e2;obtain⟨u,hu,zG⟩:=hp 0 ⟨l',z⟩ rfl;refine⟨by simp[Ls.n]<;>omega,ovs sh++o2,?_,λb hb=>?_,λhn hk=>?_⟩
     ·simp only[Ls.rd];refine⟨u,ovs sh,o2,?_,J,Ls.BB ls h2 λj hj=>by rw[hg (j+1) (by simp[Ls.n]<;>omega),AAQ OF],rfl⟩;rw[hg 0 (by simp[Ls.n]<;>omega),AAP OF,<-hu]
     ·grind
     ·refine AAZ.2 ⟨hk.1 sh,(AAZ.1 hn).2.1,λa ha b hb e=>?_⟩;subst e;exact hk.2.2 sh a ha (AAS _ hb)
    ·cases hf
   ·rename_i v u0 vs';split at hf
    ·rename_i y f' hy hf';injection hf with hf;subst hf
     obtain⟨l',z⟩:=v;obtain⟨e1,e2⟩:=L.AH hy;dsimp only at e1;subst e1;have e2:z=y:=e2;subst e2;obtain⟨u,hu,zG⟩:=hp 0 ⟨l',z⟩ rfl
     obtain⟨c0,cs,rfl⟩:∃c0 cs,cells=c0::cs:=by
      cases cells with
      |nil=>simp at hl
      |cons c cs=>grind
     obtain⟨ih1,o',ih2,ih3,ih4⟩:=B0 ls 0 (u0::vs') cs (sh+1) (g':=λj=>g' (j+1)) hf' No (λm lv hm=>by
       have:=hp (m+1) lv No;rw[show sh+(m+1)=sh+1+m by omega]at this;simpa using this) h2 (λm hm=>by
       rw[hg (m+1) (by simp[Ls.n]<;>omega)];grind)
     refine⟨by simp[Ls.n]at ih1 ⊢ <;> omega,ovs sh++o',?_,λb hb=>?_,λhn hk=>?_⟩
     ·simp only[Ls.rd];refine⟨u,ovs sh,o',?_,J,ih2,rfl⟩;rw[hg 0 (by simp[Ls.n]<;>omega),AAP OF,<-hu]
     ·grind
     ·refine AAZ.2 ⟨hk.1 sh,ih4 (AAZ.1 hn).2.1 (hk.sub λb hb=>AAS _ hb),λa ha b hb e=>?_⟩;subst e;rcases ih3 a hb with hb|⟨m,hm,hb⟩
      ·exact hk.2.2 sh a ha (AAS _ hb)
      ·exact hk.2.1 sh m J a ha hb
    ·cases hf
  |succ off=>
   simp only at hf;split at hf
   ·rename_i f' hf';injection hf with hf;subst hf
    obtain⟨ih1,o',ih2,ih3,ih4⟩:=B0 ls off vs cells sh (g':=λj=>g' (j+1)) hf' hl hp h2 (λm hm=>by
     rw[hg (m+1) (by simp[Ls.n]<;>omega)];grind)
    refine⟨by simp[Ls.n]<;>omega,o1++o',?_,λb hb=>?_,λhn hk=>?_⟩
    ·simp only[Ls.rd];refine⟨v0,o1,o',?_,h1,ih2,rfl⟩;rw[hg 0 (by simp[Ls.n]<;>omega),AAQ J];exact hv0
    ·grind
    ·refine AAZ.2 ⟨(AAZ.1 hn).1,ih4 (AAZ.1 hn).2.1 (hk.sub λb hb=>AAS _ hb),λa ha b hb e=>?_⟩;subst e;rcases ih3 a hb with hb|⟨m,_,hb⟩
     ·grind
     ·exact hk.2.2 m a hb (AAV _ ha)
   ·cases hf
theorem LJ{e:Ls}{w:World}{fz:Nat->Prop}{a:Addr}{n k:Nat}{xs:List e.D}{o:Is}(hr:AD e 2 w fz (.slice (some a) n k) xs o)(hn:o.Nodup)(hz:∀b∈o,¬fz b){i:Nat}(hi:i<n)
  {off:Nat} {cells:ADh} {F:e.D->e.D} {ovs:Nat->Is} (hk:Gc ovs o) (hkz:∀m,∀b∈ovs m,¬fz b) (zb:off+cells.length<=e.n)
  (hF:∀g g' x oo,e.rd 2 w fz g x oo->(∀m,m<e.n->g' m=if off<=m/\m<off+cells.length then cells[m-off]? else g m)->∃o',e.rd 2 w fz g' (F x) o'/\(∀b∈o',b∈oo\/∃m,b∈ovs m)/\(oo.Nodup->Gc ovs oo->o'.Nodup)):
  a.spot=none/\∃arr T fr,w.heap[a.block]?=some (.cells arr T fr)/\(∀j,j<arr.size->¬(fr.1<=j/\j<fr.2))/\a.off+(i*e.n+off)+cells.length<=arr.size/\a.block∈o/\
   ∃o',o'.Nodup/\(∀b∈o',b∈o\/∃m,b∈ovs m)/\∀w',NI w w' a.block (B9 cells (a.off+(i*e.n+off)) arr) T fr->AD e 2 w' fz (.slice (some a) n k) (xs.modify i F) o':=by
 obtain⟨A,c,hv,hc,_,zZ⟩:=hr.Kb;injection hv with hA hl hk'
 subst hA;subst hl;subst hk';obtain⟨arr,T,fr,os,hs,hh,zO,zH,zN,ho,_⟩:=zZ a rfl (.inr J);have ho:=ho J;have zH:=zH J
 have hmul:i*e.n+e.n<=k*e.n:=by have:(i+1)*e.n<=k*e.n:=AAo _ J;rw[AAm,ABS]at this;omega
 have hbnd:a.off+(i*e.n+off)+cells.length<=arr.size:=J
 have yt:a.block∈o:=by rw[ho];simp
 have zM:=CX cells (a.off+(i*e.n+off)) arr hbnd;have hnd:=hn;rw[ho]at hnd;obtain⟨hnb,hnf⟩:=AAa.1 hnd;have hosub:∀m,m<xs.length->∀b∈os m,b∈o:=λm hm b hb=>No
 obtain⟨oi,zE,zr,hnod⟩:=hF _ (λq=>(B9 cells (a.off+(i*e.n+off)) arr)[a.off+(i*e.n+q)]?) _ _ (zN i hi) (λq hq=>by
  show(B9 cells (a.off+(i*e.n+off)) arr)[a.off+(i*e.n+q)]?=_;rw[zM];by_cases hc:off<=q/\q<off+cells.length
  ·rw[AAP J,AAP hc];congr 1;omega
  grind)
 have hnod:=hnod (CT hnf (AAX.2 hi)) (hk.sub (hosub i hi))
 let zn:Nat->Is:=λm=>if m=i then oi else os m
 have hos':∀m,m<xs.length->∀b∈zn m,b∈os m\/∃q,b∈ovs q:=by
  intro m hm b hb;simp only[zn]at hb;split at hb
  ·grind
  ·exact .inl hb
 have hnoblk:∀m,m<xs.length->a.block∉zn m:=by
  intro m hm hb;rcases hos' m hm _ hb with hb|⟨q,hb⟩
  ·grind
  ·exact hk.2.2 q _ hb yt
 refine⟨hs,arr,T,fr,hh,zH,hbnd,yt,a.block::(List.range xs.length).flatMap zn,?_,?_,λw' zI=>?_⟩
 ·refine AAa.2 ⟨λhb=>?_,FU List.nodup_range (λm hm=>?_) λm hm m' hm' zD b hb zJ=>?_⟩
  ·grind
  ·grind
  ·have hd:=CS hnf hm hm' zD;simp only[zn]at hb zJ;split at hb
   ·rename_i e1;split at zJ
    ·omega
    ·subst e1;rcases zr b hb with hb|⟨q,hb⟩
     ·grind
     ·exact hk.2.2 q b hb (hosub m' (AAX.1 hm') b zJ)
   ·split at zJ
    ·rename_i e2;subst e2;rcases zr b zJ with zJ|⟨q,zJ⟩
     ·exact hd b hb zJ
     ·exact hk.2.2 q b zJ (hosub m (AAX.1 hm) b hb)
    grind
 ·grind
 ·refine⟨some a,k,OF,AD0,?_⟩;refine .inr ⟨λq=>(B9 cells (a.off+(i*e.n+off)) arr)[a.off+q]?,zn,⟨hs,_,T,fr,zI.here,by rw[Ak];exact zO,λ_=>by rw[Ak];exact zH,λ_=>rfl⟩,λm hm=>?_,?_⟩
  ·have hm':m<xs.length:=ADq
   rw[FZ]
   have hframe:∀ {g x},e.rd 2 w fz g x (zn m)->e.rd 2 w' fz g x (zn m):=λh=>Ls.AI e h (λb hb=>zI.CI b (by
    rintro rfl
    rcases hb with hb|hb
    ·exact hnoblk m hm' hb
    ·exact hz _ yt hb)) λ_ hb=>hb
   by_cases him:i=m
   ·subst him;rw[AAP rfl];refine hframe ?_;have:zn i=oi:=by simp[zn]
    rw[this];exact zE
   ·rw[AAQ him];have:zn m=os m:=by simp only[zn];rw[AAQ (λe=>him e.symm)]
    refine hframe ?_;rw[this];refine Ls.BB e (zN m hm') λq hq=>?_;show(B9 cells (a.off+(i*e.n+off)) arr)[a.off+(m*e.n+q)]?=_;rw[zM,AAQ];intro hc;rcases ABN him with h1|h1
    ·have:(i+1)*e.n<=m*e.n:=AAo _ h1;rw[AAm,ABS]at this;omega
    ·have:(m+1)*e.n<=i*e.n:=AAo _ h1;rw[AAm,ABS]at this;omega
  grind
theorem Me{vs:List Lv}{cells:ADh}{w:World}{fz:Nat->Prop}{ovs:Nat->Is}(hl:cells.length=vs.length)(hp:∀(m:Nat)(lv:Lv),vs[m]?=some lv->∃u,cells[m]?=some u/\lv.l.rd 2 w fz u lv.x (ovs m))(hbig:∀m,vs.length<=m->ovs m=[])
  {i off:Nat} {e:Ls} {a:Addr} {n k:Nat} (hi:i<n) {xs:List e.D} {o:Is} {f:List e.D->List e.D} (hm:G3 vs [(i,off)] e=some f) (hr:AD e 2 w fz (.slice (some a) n k) xs o) (hn:o.Nodup) (hz:∀b∈o,¬fz b) (hk:Gc ovs o) (hkz:∀m,∀b∈ovs m,¬fz b):
  a.spot=none/\∃arr T fr,w.heap[a.block]?=some (.cells arr T fr)/\(∀j,j<arr.size->¬(fr.1<=j/\j<fr.2))/\a.off+(i*e.n+off)+cells.length<=arr.size/\a.block∈o/\
   ∃o',o'.Nodup/\(∀b∈o',b∈o\/∃m,b∈ovs m)/\∀w',NI w w' a.block (B9 cells (a.off+(i*e.n+off)) arr) T fr->AD e 2 w' fz (.slice (some a) n k) (f xs) o':=by
 simp only[G3]at hm;split at hm
 ·rename_i y hy;injection hm with hm;subst hm
  split at hy
  ·rename_i hc;simp only[AAJ,AAT]at hc;obtain⟨rfl,hlen⟩:=hc;have hup:=Av e vs y hy
   have:=LJ (F:=λ_=>y) (off:=0) (cells:=cells) (ovs:=ovs) hr hn hz hi hk hkz J (λg g' x oo hx hg=>⟨_,Dl e (os:=ovs) (λj lv hj=>by
     grind),λb hb=>by
     grind,λ_ hk=>EF hk.1 hk.2.1 _⟩)
   simpa only[EH]using this
  ·cases hy
 ·split at hm
  ·rename_i f' hf';injection hm with hm;subst hm
   have hp':∀(m:Nat)(lv:Lv),vs[m]?=some lv->∃u,cells[m]?=some u/\lv.l.rd 2 w fz u lv.x (ovs (0+m)):=λm lv hm=>No
   obtain⟨A,c,hv,hc,_,zZ⟩:=hr.Kb;injection hv with hA hl' hk'
   subst hA;subst hl';subst hk';obtain⟨arr,T,fr,os,_,_,_,_,zN,_,_⟩:=zZ a rfl (.inr J);have zb:=(B0 e off vs cells 0 (g':=λm=>if off<=m/\m<off+vs.length then cells[m-off]? else _) hf' hl hp' (zN i hi) λm _=>rfl).1
   exact LJ (F:=f') (off:=off) (cells:=cells) (ovs:=ovs) hr hn hz hi hk hkz J (λg g' x oo hx hg=>by
    obtain⟨_,o',q1,q2,q3⟩:=B0 e off vs cells 0 (g':=g') (ovs:=ovs) hf' hl hp' hx λm hm=>by rw[hg m hm,hl]
    grind)
  ·cases hm
section
variable {P:Program}{E:Cy}{s:St}{W:Wd}{v:Nat}{tm:Array Value}
def Iv(W:Wd)(w':World)(r j:Nat)(o':Is)(us:List (Nat×Nat)):Wd:=
 { W with w:=w',om:=λk=>match k with
   | .lf a b=>if a=r/\b=j then o' else if(a,b)∈us then []else W.om (.lf a b)
   |k=>W.om k }
theorem AU.L4(h:AU E s tm W)(hv:Ad s v){r j AA gen:Nat}{t:TypeId}{e:Ls}{xs zm:List e.D}(hl:s.leaf r j=.arr AA gen t e xs 2){u:Value}(zW:W.cv r j=some u){us:List (Nat×Nat)}(hus:(r,j)∉us)
  {w':World} {blk:Nat} (zU:blk∈W.om (.lf r j)) (hw:∀b,b≠blk->w'.heap[b]?=W.w.heap[b]?) (zO:w'.heap.size=W.w.heap.size) (zK:w'.os=W.w.os/\w'.tape=W.w.tape/\w'.output=W.w.output)
  {o':Is} (hnd:o'.Nodup) (zv:∀b∈o',b∈W.om (.lf r j)\/∃a c,(a,c)∈us/\b∈W.om (.lf a c)) (zE:AD e 2 w' W.fz u zm o'):
  AU E (s.app (gone us++[.leaf r j (.arr AA v t e zm 2)])) tm (Iv W w' r j o' us):=by
 obtain⟨hr,hj⟩:=HE hl;rw[BA];show AU E ((s.app (gone us)).AF (.leaf r j (.arr AA v t e zm 2))) tm _;obtain⟨hs1,hl1⟩:=Dx s us;have hs2:=BY (s.app (gone us)) r j (.arr AA v t e zm 2);have hl2:=Ef (s.app (gone us)) r j (.arr AA v t e zm 2);generalize (s.app (gone us)).AF (.leaf r j (.arr AA v t e zm 2))=s' at hs2 hl2;have yx:Jr s s':=⟨hs2.sl.trans hs1.sl,hs2.len.trans hs1.len,λx=>⟨(hs2.box x).1.trans (hs1.box x).1,(hs2.box x).2.1.trans (hs1.box x).2.1,(hs2.box x).2.2.trans (hs1.box x).2.2⟩⟩
 have yr:∀a b,s'.leaf a b=if a=r/\b=j then .arr AA v t e zm 2 else if(a,b)∈us then .bad else s.leaf a b:=by
  intro a b;rw[hl2,hl1];by_cases hc:a=r/\b=j
  ·obtain⟨rfl,rfl⟩:=hc;rw[AAP ⟨rfl,rfl,by rw[hs1.len];exact hr,by rw[(hs1.box a).2.2];exact hj⟩,AAP ⟨rfl,rfl⟩]
  ·grind
 have hown:∀k,∀b∈W.om k,k≠.lf r j->b≠blk:=λk b hb hk e=>h.sep.A4 k _ hk b hb (e▸zU);have hfz:∀b,W.fz b->b≠blk:=λb hb e=>(h.sep.own _ _ zU).1 (e▸hb);refine h.Mf (W':=Iv W w' r j o' us) hv yx (λa b=>(a=r/\b=j)\/(a,b)∈us) (λ_=>False) (λa b hc=>?_) (λ_ _ _=>rfl) (λ_ _ hh=>hh.elim) (λ_=>rfl) (λa b hc=>?_) (λ_=>rfl) (λb hb=>?_) (λb hb=>hb) ?_ ?_ (λ_ a b hc=>?_) (λ_ hh=>hh.elim)
 ·grind
 ·show(if a=r/\b=j then o' else if(a,b)∈us then []else W.om (.lf a b))=_;grind
 ·refine hw b ?_;grind
 ·intro a b AA gen t e xs d hc hl zD;refine⟨rfl,?_⟩;grind
 ·refine h.sep.IM (W':=Iv W w' r j o' us) (λk=>match k with
   | .lf a b=>(a=r/\b=j)\/(a,b)∈us
   |_=>False) rfl (by show _<=w'.heap.size;omega) (λb h1 h2=>hw b λe=>?_) zK (λk hk=>?_) (λk hk=>?_) (λk k' hk hk' zD b hb zJ=>?_) λk hk b hb=>?_
  ·have:=(h.sep.own _ _ zU).2.2;grind
  ·cases k with
   |lf a b=>
    show(if a=r/\b=j then o' else if(a,b)∈us then []else W.om (.lf a b))=_;grind
   |_=>rfl
  ·cases k with
   |lf a b=>
    show(if a=r/\b=j then o' else if(a,b)∈us then []else W.om (.lf a b)).Nodup;grind
   |_=>exact hk.elim
  ·have one:∀k:Key,(match k with | .lf a b=>(a=r/\b=j)\/(a,b)∈us|_=>False)->∀b∈(Iv W w' r j o' us).om k,k=.lf r j:=by
    intro k hk b hb;cases k with
    |lf a c=>
     have hb:b∈(if a=r/\c=j then o' else if(a,c)∈us then []else W.om (.lf a c)):=hb;split at hb
     ·rename_i hh;obtain⟨rfl,rfl⟩:=hh;rfl
     ·rename_i hh;rw[AAP (hk.resolve_left hh)]at hb;cases hb
    |_=>exact hk.elim
   grind
  ·cases k with
   |lf a c=>
    have hb:b∈(if a=r/\c=j then o' else if(a,c)∈us then []else W.om (.lf a c)):=hb;grind
   |_=>exact hk.elim
 ·show Aa s' (Iv W w' r j o' us) (s'.leaf a b) (W.cv a b) (if a=r/\b=j then o' else if(a,b)∈us then []else W.om (.lf a b));rw[yr];by_cases hh:a=r/\b=j
  ·rw[AAP hh,AAP hh];obtain⟨rfl,rfl⟩:=hh;exact⟨u,zW,zE⟩
  ·rw[AAQ hh,AAQ hh,AAP (hc.resolve_left hh),AAP (hc.resolve_left hh)];exact⟨rfl,λ_ _=>trivial⟩
end
end Go.Ev
namespace Go.Ev
section
variable {P:Program}
theorem J6{t t0 ty:TypeId}{e:Ls}(za:P.underlying t=some (.slice t0))(zN:MB P t0 e)(hf:Br e=true){w:World}{fz fz2:Nat->Prop}(hfz:∀b,fz b->b<w.heap.size){ux uy:Value}{xs ys:List e.D}{o1:Is}
  (hx:AD e 2 w fz ux xs o1) (hy:AD e 0 w fz2 uy ys []) (hlen:xs.length+ys.length<=Dj):
  ∃u w',(Builtin.append_ #[t,t] ty #[ux,uy]).run P w=.ok u w'/\(w'.os=w.os/\w'.tape=w.tape/\w'.output=w.output)/\w.heap.size<=w'.heap.size/\(∀b,b<w.heap.size->b∉o1->w'.heap[b]?=w.heap[b]?)/\
   AD e 2 w' fz ux xs o1/\∃o',AD e 2 w' fz u (xs++ys) o'/\∀b∈o',b∈o1\/(w.heap.size<=b/\b<w'.heap.size):=by
 obtain⟨i,hi,zO,hby,z,hz,hzc⟩:=zN.info;have hpos:=zN.pos;have zf:xs.length+ys.length<=68719476736:=hlen;have hdep:=hx.dep
 have hmore:∃A c g,uy=.slice A ys.length c/\(A=none->ys=[])/\(∀ad,A=some ad->ys≠[]->ad.spot=none/\∀k,w.cell? (at_ ad k)=g k)/\CB e 2 w fz g ys λ_=>[]:=by
  obtain⟨A,c,hv,hc,hn,zZ⟩:=hy.Kb;cases A with
  |none=>
   have:ys=[]:=AAO No;subst this;exact⟨none,c,λ_=>none,hv,λ_=>rfl,(λad had _=>by cases had),(λi hi=>by simp at hi)⟩
  |some ad=>
   by_cases hc0:c=0
   ·have:ys=[]:=AAO J;subst this;exact⟨some ad,c,λ_=>none,hv,λ_=>rfl,(λad had zD=>absurd rfl zD),(λi hi=>by simp at hi)⟩
   obtain⟨arr,T,fr,os,hs,hh,_,_,zN,_,_⟩:=zZ ad rfl (.inl J);refine⟨some ad,c,_,hv,(λhA=>by cases hA),?_,CB.flat hf zN 2 w fz⟩;intro ad' had _;injection had with had;subst had
   exact⟨hs,λk=>by simp[World.cell?,at_,hh]⟩
 obtain⟨A1,c1,hux,hc1,hA1,hs1⟩:=hx.Kb;obtain⟨A2,c2,g2,huy,hA2,hs2,hel2⟩:=hmore
 have hnews:∃news:ADh,news.length=ys.length*e.n/\(∀k,k<ys.length*e.n->news[k]?=g2 k)/\(∀v∈news,v.oneCell'=true)/\
   (Builtin.firstCells i.size ys.length (.slice A2 ys.length c2)).run P w=.ok news.toArray w/\∀ad,A2=some ad->∀j u,news[j]?=some u->w.cell? (ad.add j)=some u:=by
  have zP:=hel2.cell
  have hadd:∀ad,A2=some ad->∀j u,(BT g2 (ys.length*e.n))[j]?=some u->w.cell? (ad.add j)=some u:=by
   intro ad had j u hj;have zA:j<ys.length*e.n:=by have:=(AAK.1 hj).1;rwa[AL]at this
   rw[Bg zP j zA]at hj;obtain⟨hs,hg⟩:=hs2 ad had (λh0=>by grind);rw[ET hs,hg,hj]
  refine⟨BT g2 (ys.length*e.n),AL _ _,Bg zP,FT zP,?_,hadd⟩;cases hA:A2 with
  |none=>
   have:=hA2 hA;subst this;rw[run_firstCells_none];simp[BT]
  |some ad=>exact run_firstCells_some w i.size ys.length ad ys.length c2 _ (by rw[AL,zO]) (hadd ad hA)
 obtain⟨news,hnl,hng,hn1',hnf,hncell⟩:=hnews
 have fresh:∀(arr:Array Value)(cap:Nat),xs.length+ys.length<=cap->cap*e.n<=arr.size->CB e 2 w fz (λk=>arr[k]?) xs (λ_=>[])->(∀k,k<ys.length*e.n->arr[xs.length*e.n+k]?=g2 k)->
   AD e 2 (w.drew.alloc (.cells arr t0)) fz ux xs o1/\(∀b,b<w.heap.size->b∉o1->(w.drew.alloc (.cells arr t0)).heap[b]?=w.heap[b]?)/\w.heap.size<=(w.drew.alloc (.cells arr t0)).heap.size/\
   ∃o',AD e 2 (w.drew.alloc (.cells arr t0)) fz (.slice (some ⟨w.heap.size,0,none⟩) (xs.length+ys.length) cap) (xs++ys) o'/\∀b∈o',b∈o1\/(w.heap.size<=b/\b<(w.drew.alloc (.cells arr t0)).heap.size):=by
  intro arr cap hcap zz hx1 hy1;have hold:∀b,b<w.heap.size->(w.drew.alloc (.cells arr t0)).heap[b]?=w.heap[b]?:=λb hb=>A7 w.drew _ hb;refine⟨hx.frame (λb hb=>hold b (hb.elim (hdep b) (hfz b))) λ_ hb=>hb,λb hb _=>hold b hb,No,?_⟩
  have hels:CB e 2 (w.drew.alloc (.cells arr t0)) fz (λk=>arr[0+k]?) (xs++ys) λi=>if i<xs.length then []else []:=by
   refine CB.append (os:=λ_=>[]) (zn:=λ_=>[]) ?_ ?_
   ·exact CB.congr (g:=λk=>arr[k]?) (hx1.flat hf 2 _ fz) λk _=>No
   ·exact CB.congr (g:=g2) (hel2.flat hf 2 _ fz) λk hk=>No
  have yz:=Gs (w:=w.drew.alloc (.cells arr t0)) (ad:=⟨w.heap.size,0,none⟩) (c:=cap) (fr:=(0,0)) (T:=t0) (heap_alloc_new w.drew _) rfl J No No hels;rw[AAz]at yz;refine⟨_,yz,λb hb=>?_⟩;rcases AAd.1 hb with rfl|hb
  ·exact .inr ⟨AAc _,by rw[Ax];exact Nat.lt_succ_self _⟩
  ·grind
 subst hux;subst huy;cases A1 with
 |none=>
  obtain⟨rfl,rfl⟩:=hA1 rfl;have hx0:xs=[]:=AAO J;subst hx0;cases ys with
  |nil=>exact⟨_,_,Ct t ty t0 i za hi 0 A2 c2 news hnf,⟨rfl,rfl,rfl⟩,AAc _,λ_ _ _=>rfl,hx,[],Bz,λb hb=>by cases hb⟩
  |cons y ys=>
   cases A2 with
   |none=>grind
   |some ad2=>
    have zu:=grownCap_ge w (y::ys).length 0 t0
    obtain⟨f1,f2,f3,o',f4,f5⟩:=fresh (news.toArray++Builtin.zeroCells z.cells (grownCap w (y::ys).length 0 t0-(y::ys).length)) (grownCap w (y::ys).length 0 t0) (by simpa using zu)
     (by
      have:(y::ys).length*e.n+(grownCap w (y::ys).length 0 t0-(y::ys).length)*e.n=grownCap w (y::ys).length 0 t0*e.n:=by rw[<-AAm];congr 1;omega
      simp only[ABF,ABD,hnl,Builtin.zeroCells,ABQ,ABJ,hzc,ABB,A8];omega) (λi hi=>by simp at hi)
     (by
      intro k hk;rw[<-hng k hk];simp only[List.length_nil,Nat.zero_mul,AAY];rw[AAu (by simpa[hnl]using hk)];simp)
    refine⟨_,_,run_append_nil w t ty t0 i z za hi hz ad2 (y::ys).length c2 news (by rw[hnl,zO]) (hncell ad2 rfl) OF (by simp at zf ⊢;omega) (AAv (ABM (show _<=68719476736 by simp at zf ⊢;omega) hby) ADj),⟨rfl,rfl,rfl⟩,f3,f2,f1,o',?_,f5⟩;grind
 |some ad1=>
  obtain⟨arr,T,fr,os1,hs,hh,zb,AAA,hx1,ho10,_⟩:=hs1 ad1 rfl (.inr ADj);have ho1:o1=ad1.block::(List.range xs.length).flatMap os1:=ho10 ADj;have zH:=AAA ADj;clear ho10 AAA hs1;obtain⟨b1,zS,sp1⟩:=ad1;dsimp only at hs hh zb hx1 ho1;subst hs;have hb1:b1∈o1:=by rw[ho1];simp
  by_cases hcap:xs.length+ys.length<=c1
  ·
   have hmul:(xs.length+ys.length)*e.n<=c1*e.n:=AAo _ hcap;rw[AAm]at hmul;obtain⟨w',hst,zI⟩:=Db (P:=P) (o:=zS+xs.length*e.n) news hh zH (by rw[hnl];omega) hn1';have hadd:(⟨b1,zS,none⟩:Addr).add (xs.length*i.size)=⟨b1,zS+xs.length*e.n,none⟩:=by rw[zO];exact B2 _ _ _
   have zM:=CX news (zS+xs.length*e.n) arr (by rw[hnl];omega)
   have hpre:CB e 2 w' fz (λk=>(B9 news (zS+xs.length*e.n) arr)[zS+k]?) xs os1:=by intro i hi;refine Ls.BB e (Ls.AZ e hf (hx1 i hi) (d':=2) (w':=w') (yw:=fz)).1 λj hj=>?_;have zA:=Kq hi hj;show(B9 news (zS+xs.length*e.n) arr)[zS+(i*e.n+j)]?=_;rw[zM,AAQ J]
   have hels:CB e 2 w' fz (λk=>(B9 news (zS+xs.length*e.n) arr)[zS+k]?) (xs++ys) λi=>if i<xs.length then os1 i else []:=by refine CB.append (zn:=λ_=>[]) hpre ?_;refine CB.congr (g:=g2) (hel2.flat hf 2 w' fz) λk hk=>?_;rw[<-hng k hk,zM,AAP (by rw[hnl];omega)];congr 1;omega
   have yz:=Gs (w:=w') (ad:=⟨b1,zS,none⟩) (c:=c1) zI.here rfl (by rw[Ak];exact zH) (by rw[Ak];exact zb) (by simpa using hcap) hels;have hrow0:=Gs (w:=w') (ad:=⟨b1,zS,none⟩) (c:=c1) zI.here rfl (by rw[Ak];exact zH) (by rw[Ak];exact zb) hc1 hpre;rw[AAz]at yz;refine⟨_,_,DL t ty t0 i za hi ⟨b1,zS,none⟩ xs.length c1 A2 ys.length c2 news hnf hcap (by rw[hadd];exact hst),zI.rest,by rw[zI.size];exact AAc _,λb hb hn=>zI.CI b λe=>hn (e▸hb1),by rw[ho1];exact hrow0,_,yz,λb hb=>?_⟩;grind
  ·
   cases A2 with
   |none=>grind
   |some ad2=>
    have hcell1:=hx1.cell;have hg1:=Bg hcell1
    have holds:∀j u,(BT (λk=>arr[zS+k]?) (xs.length*e.n))[j]?=some u->w.cell? ((⟨b1,zS,none⟩:Addr).add j)=some u:=by
     intro j u hj;have zA:j<xs.length*e.n:=by have:=(AAK.1 hj).1;rwa[AL]at this
     rw[hg1 j zA]at hj;rw[B2];simp only[World.cell?,hh];simpa using hj
    have zu:=grownCap_ge w (xs.length+ys.length) c1 t0
    obtain⟨f1,f2,f3,o',f4,f5⟩:=fresh (((BT (λk=>arr[zS+k]?) (xs.length*e.n)).toArray++news.toArray)++Builtin.zeroCells z.cells (grownCap w (xs.length+ys.length) c1 t0-(xs.length+ys.length))) (grownCap w (xs.length+ys.length) c1 t0) zu
     (by
      have:xs.length*e.n+ys.length*e.n+(grownCap w (xs.length+ys.length) c1 t0-(xs.length+ys.length))*e.n=grownCap w (xs.length+ys.length) c1 t0*e.n:=by rw[<-AAm,<-AAm];congr 1;omega
      simp only[ABF,ABD,hnl,AL,Builtin.zeroCells,ABQ,ABJ,hzc,ABB,A8];omega)
     (CB.congr (hx1.flat hf 2 w fz) λk hk=>by
      grind)
     (by
      intro k hk;rw[<-hng k hk];rw[AAu (by simp[AL,hnl];omega),Array.getElem?_append_right (by simp[AL])];simp[AL])
    exact⟨_,_,run_append_grow w t ty t0 i z za hi hz ⟨b1,zS,none⟩ xs.length c1 (BT (λk=>arr[zS+k]?) (xs.length*e.n)) (by rw[AL,zO]) holds ad2 ys.length c2 news (by rw[hnl,zO]) (hncell ad2 rfl) J J
     (growslice_fits J (AAv (ABM zf hby) ADj)),⟨rfl,rfl,rfl⟩,f3,f2,f1,o',f4,f5⟩
theorem AD.half{e:Ls}{w:World}{fz:Nat->Prop}{v:Value}{xs:List e.D}{o:Is}(h:AD e 2 w fz v xs o)(hn:o.Nodup):
  ∃o1,(∀b∈o1,b∈o/\∃a n c,v=.slice (some a) n c/\b=a.block)/\o1.Nodup/\∀yw:Nat->Prop,(∀b,fz b->yw b)->(∀b∈o,b∉o1->yw b)->AD e 1 w yw v xs o1:=by
 obtain⟨A,c,hv,hc,h⟩:=h;cases A with
 |none=>exact⟨[],(λb hb=>by cases hb),AAR,λ_ _ _=>⟨none,c,hv,hc,h.1,rfl⟩⟩
 |some a=>
  rcases h with⟨h,_⟩|⟨g,os,yz,zN,ho⟩
  ·cases h
  have ho:o=a.block::(List.range xs.length).flatMap os:=ho;refine⟨[a.block],λb hb=>⟨No,a,_,_,hv,AA5.1 hb⟩,AAa.2 ⟨OF,AAR⟩,λyw hz hf=>?_⟩;obtain⟨hs,arr,T,fr,hh,hnn,hb,hg⟩:=yz;refine⟨some a,c,hv,hc,.inr ⟨g,λ_=>[],⟨hs,arr,T,fr,hh,hnn,λ_=>hb rfl,hg⟩,λi hi=>?_,?_⟩⟩
  ·refine Ls.Cg e (zN i hi) λb hb=>?_;grind
  ·show _=_;simp[EB]
theorem H8{e f:Ls}{w:World}{fz:Nat->Prop}{a:Addr}{len c i off:Nat}{xs:List e.D}{o:Is}{t:TypeId}{u:Value}{ys:List f.D}{po:Is}(h:AD e 2 w fz (.slice (some a) len c) xs o)(hn:o.Nodup)(hi:i<len)
  (hk:e.kinds[off]?=some (.sl t f)) (hc:w.cell? (at_ a (i*e.n+off))=some u) (hr:AD f 2 w fz u ys po):a.block∉po:=by
 obtain⟨A,c',hv,_,h⟩:=h;injection hv with hA hl _
 subst hA;subst hl;rcases h with⟨h,_⟩|⟨g,os,yz,zN,ho⟩
 ·cases h
 have ho:o=a.block::(List.range xs.length).flatMap os:=ho;obtain⟨h2,zs,o',hg,zE,zr⟩:=Ls.HL e off (zN i hi) hk
 have hu:h2=u:=by have:=yz.cell (i*e.n+off);rw[this,hg]at hc;exact Option.some.inj hc
 subst hu;obtain⟨_,e2⟩:=hr.uniq zE;grind
theorem KH:∀(e:Ls)(j:Nat) {G:(t:TypeId)->(f:Ls)->Option (List f.D->List f.D)} {h:e.D->e.D},CK e j G=some h->(∀t f g,G t f=some g->∀l,g l=l)->∀x,h x=x
 | .nil,j,G,h,hm,hG,x=>by simp[CK]at hm
 | .one l,0,G,h,hm,hG,x=>by
  cases l with
  |sl t f=>exact hG t f h hm x
  |_=>simp[CK]at hm
 | .one l,j+1,G,h,hm,hG,x=>by simp[CK]at hm
 | .cons l ls,0,G,h,hm,hG,x=>by
  simp only[CK]at hm;split at hm
  ·split at hm
   ·rename_i hh;injection hm with hm;subst hm
    exact Prod.ext (hG _ _ _ hh x.1) rfl
   ·cases hm
  ·cases hm
 | .cons l ls,j+1,G,h,hm,hG,x=>by
  simp only[CK]at hm;split at hm
  ·rename_i hh;injection hm with hm;subst hm
   exact Prod.ext rfl (KH ls j hh hG x.2)
  ·cases hm
theorem H6:∀(e:Ls)(j:Nat) {G:(t:TypeId)->(f:Ls)->Option (List f.D->List f.D)} {t:TypeId} {f:Ls} {g:List f.D->List f.D},e.kinds[j]?=some (.sl t f)->G t f=some g->∃h,CK e j G=some h
 | .nil,j,G,t,f,g,hk,hg=>by simp[Ls.kinds]at hk
 | .one l,0,G,t,f,g,hk,hg=>by simp[Ls.kinds]at hk;subst hk;exact⟨g,hg⟩
 | .one l,j+1,G,t,f,g,hk,hg=>by simp[Ls.kinds]at hk
 | .cons l ls,0,G,t,f,g,hk,hg=>by simp[Ls.kinds]at hk;subst hk;exact⟨_,by simp only[CK,hg];rfl⟩
 | .cons l ls,j+1,G,t,f,g,hk,hg=>by
  obtain⟨h,hh⟩:=H6 ls j (by simpa[Ls.kinds]using hk) hg;exact⟨_,by simp only[CK,hh];rfl⟩
end
section
variable {P:Program}
mutual
theorem IL:∀(l:L) {w:World} {fz:Nat->Prop} {v:Value} {x:l.D},l.rd 0 w fz v x []->l.rd 0 w (λb=>fz b/\b<w.heap.size) v x []
 | .int _,_,_,_,_,h=>h
 | .bool,_,_,_,_,h=>h
 | .str,_,_,_,_,h=>h
 | .sl t e,w,fz,v,x,h=>by
  rw[L.IK]at h ⊢;obtain⟨A,c,hv,hc,h⟩:=h;refine⟨A,c,hv,hc,?_⟩;cases A with
  |none=>exact h
  |some a=>
   rcases h with h|⟨g,os,yz,zN,ho⟩
   ·exact .inl h
   ·have ho:fz a.block/\[]=[]/\∀i,i<List.length (α:=e.D) x->os i=[]:=ho;refine .inr ⟨g,os,yz,λi hi=>?_,⟨ho.1,yz.lt⟩,ho.2⟩;have h1:=zN i hi;rw[ho.2.2 i hi]at h1 ⊢;exact GW e h1
theorem GW:∀(ls:Ls) {w:World} {fz:Nat->Prop} {g:Nat->Option Value} {x:ls.D},ls.rd 0 w fz g x []->ls.rd 0 w (λb=>fz b/\b<w.heap.size) g x []
 | .nil,_,_,_,_,_=>by simp only[Ls.rd]
 | .one l,w,fz,g,x,h=>by simp only[Ls.rd]at h ⊢;obtain⟨v,hg,h⟩:=h;exact⟨v,hg,IL l h⟩
 | .cons l ls,w,fz,g,x,h=>by simp only[Ls.rd]at h ⊢;obtain⟨v,o1,o2,hg,h1,h2,ho⟩:=h;obtain⟨e1,e2⟩:=List.append_eq_nil_iff.1 ho.symm;subst e1;subst e2;exact⟨v,[],[],hg,IL l h1,GW ls h2,rfl⟩
end
theorem AD.OD{e:Ls}{w w':World}{fz yw:Nat->Prop}{v:Value}{xs:List e.D}{o:Is}(h:AD e 1 w fz v xs o)(hold:∀b,b<w.heap.size->w'.heap[b]?=w.heap[b]?)(ho:∀b∈o,b<w.heap.size)(hz:∀b,fz b->yw b):AD e 1 w' yw v xs o:=by
 obtain⟨A,c,hv,hc,h⟩:=h;refine⟨A,c,hv,hc,?_⟩;cases A with
 |none=>exact h
 |some a=>
  rcases h with h|⟨g,os,yz,zN,h2⟩
  ·exact .inl h
  refine .inr ⟨g,λ_=>[],yz.frame (hold _ yz.lt),λi hi=>?_,?_⟩
  ·have h1:e.rd 0 w fz (λj=>g (i*e.n+j)) xs[i] (os i):=zN i hi;rw[Ls.Bn e h1]at h1;exact Ls.AI e (GW e h1) (λb hb=>hold b (hb.elim (λhb=>by cases hb) λhb=>hb.2)) λb hb=>hz b hb.1
  ·have h2:o=a.block::(List.range xs.length).flatMap os:=h2
   have:(List.range xs.length).flatMap os=[]:=by rw[List.flatMap_eq_nil_iff];intro i hi;exact Ls.Bn e (zN i (AAX.1 hi))
   show o=_;rw[h2,this];simp[EB]
theorem Md{e:Ls}{w:World}{fz:Nat->Prop}{xs:List e.D}{ad:Addr}{arr:Array Value}{T:TypeId}{fr:Nat×Nat}{c:Nat}(hh:w.heap[ad.block]?=some (.cells arr T fr))(hs:ad.spot=none)(hb:∀j,j<arr.size->¬(fr.1<=j/\j<fr.2))
  (hc:ad.off+c*e.n<=arr.size) (hl:xs.length<=c) (zN:CB e 0 w fz (λk=>arr[ad.off+k]?) xs λ_=>[]):
  AD e 1 w fz (.slice (some ad) xs.length c) xs [ad.block]:=
 ⟨some ad,c,rfl,hl,.inr ⟨λk=>arr[ad.off+k]?,λ_=>[],⟨hs,arr,T,fr,hh,hc,λ_=>hb,λj=>rfl⟩,zN,by show _=_;simp[EB]⟩⟩
theorem OL{e:Ls}{w:World}{fz:Nat->Prop}{xs:List e.D}{ad:Addr}{arr:Array Value}{T:TypeId}{fr:Nat×Nat}{c:Nat}(hh:w.heap[ad.block]?=some (.cells arr T fr))(hs:ad.spot=none)(hz:fz ad.block)
  (hc:ad.off+c*e.n<=arr.size) (hl:xs.length<=c) (zN:CB e 0 w fz (λk=>arr[ad.off+k]?) xs λ_=>[]):
  AD e 0 w fz (.slice (some ad) xs.length c) xs []:=
 ⟨some ad,c,rfl,hl,.inr ⟨λk=>arr[ad.off+k]?,λ_=>[],⟨hs,arr,T,fr,hh,hc,λh=>ADl,λj=>rfl⟩,zN,hz,rfl,λ_ _=>rfl⟩⟩
theorem CB.zero{e:Ls}{w:World}{fz:Nat->Prop}{g:Nat->Option Value}{xs:List e.D}{os:Nat->Is}(h:CB e 0 w fz g xs os):CB e 0 w fz g xs λ_=>[]:=λi hi=>by have:=h i hi;rw[Ls.Bn e this]at this;exact this
theorem KB{t t0 ty:TypeId}{e:Ls}(za:P.underlying t=some (.slice t0))(zN:MB P t0 e){w:World}{fz:Nat->Prop}(hfz:∀b,fz b->b<w.heap.size){ux uy:Value}{xs ys:List e.D}{o1:Is}
  (hx:AD e 1 w fz ux xs o1) (hown:∀b∈o1,¬fz b) (hy:AD e 0 w fz uy ys []) (hlen:xs.length+ys.length<=Dj):
  ∃u w',(Builtin.append_ #[t,t] ty #[ux,uy]).run P w=.ok u w'/\(w'.os=w.os/\w'.tape=w.tape/\w'.output=w.output)/\w.heap.size<=w'.heap.size/\(∀b,b<w.heap.size->b∉o1->w'.heap[b]?=w.heap[b]?)/\
   ∃o',AD e 1 w' fz u (xs++ys) o'/\o'.Nodup/\∀b∈o',b∈o1\/(w.heap.size<=b/\b<w'.heap.size):=by
 obtain⟨i,hi,zO,hby,z,hz,hzc⟩:=zN.info;have hpos:=zN.pos;have zf:xs.length+ys.length<=68719476736:=hlen;have hdep:=hx.dep
 have tr:∀ {w':World} {g:Nat->Option Value} {zs:List e.D},(∀b,fz b->w'.heap[b]?=w.heap[b]?)->CB e 0 w fz g zs (λ_=>[])->CB e 0 w' fz g zs λ_=>[]:=λhb h=>
  h.frame (λb zJ=>zJ.elim (λ⟨_,_,h⟩=>by cases h) (hb b)) λ_ hb=>hb
 have hmore:∃A c g,uy=.slice A ys.length c/\(A=none->ys=[])/\(∀ad,A=some ad->ys≠[]->ad.spot=none/\∀k,w.cell? (at_ ad k)=g k)/\CB e 0 w fz g ys λ_=>[]:=by
  obtain⟨A,c,hv,hc,hn,zZ⟩:=hy.Kb;cases A with
  |none=>
   have:ys=[]:=AAO No;subst this;exact⟨none,c,λ_=>none,hv,λ_=>rfl,(λad had _=>by cases had),(λi hi=>by simp at hi)⟩
  |some ad=>
   by_cases hc0:c=0
   ·have:ys=[]:=AAO J;subst this;exact⟨some ad,c,λ_=>none,hv,λ_=>rfl,(λad had zD=>absurd rfl zD),(λi hi=>by simp at hi)⟩
   obtain⟨arr,T,fr,os,hs,hh,_,_,zN,_,_⟩:=zZ ad rfl (.inl J);refine⟨some ad,c,_,hv,(λhA=>by cases hA),?_,CB.zero zN⟩;intro ad' had _;injection had with had;subst had
   exact⟨hs,λk=>by simp[World.cell?,at_,hh]⟩
 obtain⟨A1,c1,hux,hc1,hA1,hs1⟩:=hx.Kb;obtain⟨A2,c2,g2,huy,hA2,hs2,hel2⟩:=hmore
 have hnews:∃news:ADh,news.length=ys.length*e.n/\(∀k,k<ys.length*e.n->news[k]?=g2 k)/\(∀v∈news,v.oneCell'=true)/\
   (Builtin.firstCells i.size ys.length (.slice A2 ys.length c2)).run P w=.ok news.toArray w/\∀ad,A2=some ad->∀j u,news[j]?=some u->w.cell? (ad.add j)=some u:=by
  have zP:=hel2.cell
  have hadd:∀ad,A2=some ad->∀j u,(BT g2 (ys.length*e.n))[j]?=some u->w.cell? (ad.add j)=some u:=by
   intro ad had j u hj;have zA:j<ys.length*e.n:=by have:=(AAK.1 hj).1;rwa[AL]at this
   rw[Bg zP j zA]at hj;obtain⟨hs,hg⟩:=hs2 ad had (λh0=>by grind);rw[ET hs,hg,hj]
  refine⟨BT g2 (ys.length*e.n),AL _ _,Bg zP,FT zP,?_,hadd⟩;cases hA:A2 with
  |none=>
   have:=hA2 hA;subst this;rw[run_firstCells_none];simp[BT]
  |some ad=>exact run_firstCells_some w i.size ys.length ad ys.length c2 _ (by rw[AL,zO]) (hadd ad hA)
 obtain⟨news,hnl,hng,hn1',hnf,hncell⟩:=hnews
 have fresh:∀(arr:Array Value)(cap:Nat),xs.length+ys.length<=cap->cap*e.n<=arr.size->CB e 0 w fz (λk=>arr[k]?) xs (λ_=>[])->(∀k,k<ys.length*e.n->arr[xs.length*e.n+k]?=g2 k)->
   (∀b,b<w.heap.size->b∉o1->(w.drew.alloc (.cells arr t0)).heap[b]?=w.heap[b]?)/\w.heap.size<=(w.drew.alloc (.cells arr t0)).heap.size/\
   ∃o',AD e 1 (w.drew.alloc (.cells arr t0)) fz (.slice (some ⟨w.heap.size,0,none⟩) (xs.length+ys.length) cap) (xs++ys) o'/\o'.Nodup/\∀b∈o',b∈o1\/(w.heap.size<=b/\b<(w.drew.alloc (.cells arr t0)).heap.size):=by
  intro arr cap hcap zz hx1 hy1;have hold:∀b,b<w.heap.size->(w.drew.alloc (.cells arr t0)).heap[b]?=w.heap[b]?:=λb hb=>A7 w.drew _ hb;refine⟨λb hb _=>hold b hb,No,?_⟩
  have hels:CB e 0 (w.drew.alloc (.cells arr t0)) fz (λk=>arr[0+k]?) (xs++ys) λi=>if i<xs.length then []else []:=by
   refine CB.append (os:=λ_=>[]) (zn:=λ_=>[]) ?_ ?_
   ·grind
   ·exact CB.congr (g:=g2) (tr (λb hb=>hold b (hfz b hb)) hel2) λk hk=>No
  have yz:=Md (w:=w.drew.alloc (.cells arr t0)) (ad:=⟨w.heap.size,0,none⟩) (c:=cap) (fr:=(0,0)) (T:=t0) (heap_alloc_new w.drew _) rfl J No No hels.zero;rw[AAz]at yz;refine⟨_,yz,AAa.2 ⟨OF,AAR⟩,λb hb=>?_⟩;rw[AA5.1 hb];exact .inr ⟨AAc _,by rw[Ax];exact Nat.lt_succ_self _⟩
 subst hux;subst huy;cases A1 with
 |none=>
  obtain⟨rfl,rfl⟩:=hA1 rfl;have hx0:xs=[]:=AAO J;subst hx0;cases ys with
  |nil=>exact⟨_,_,Ct t ty t0 i za hi 0 A2 c2 news hnf,⟨rfl,rfl,rfl⟩,AAc _,λ_ _ _=>rfl,[],Bz,AAR,λb hb=>by cases hb⟩
  |cons y ys=>
   cases A2 with
   |none=>grind
   |some ad2=>
    have zu:=grownCap_ge w (y::ys).length 0 t0
    obtain⟨f2,f3,o',f4,fn,f5⟩:=fresh (news.toArray++Builtin.zeroCells z.cells (grownCap w (y::ys).length 0 t0-(y::ys).length)) (grownCap w (y::ys).length 0 t0) (by simpa using zu)
     (by
      have:(y::ys).length*e.n+(grownCap w (y::ys).length 0 t0-(y::ys).length)*e.n=grownCap w (y::ys).length 0 t0*e.n:=by rw[<-AAm];congr 1;omega
      simp only[ABF,ABD,hnl,Builtin.zeroCells,ABQ,ABJ,hzc,ABB,A8];omega) (λi hi=>by simp at hi)
     (by
      intro k hk;rw[<-hng k hk];simp only[List.length_nil,Nat.zero_mul,AAY];rw[AAu (by simpa[hnl]using hk)];simp)
    refine⟨_,_,run_append_nil w t ty t0 i z za hi hz ad2 (y::ys).length c2 news (by rw[hnl,zO]) (hncell ad2 rfl) OF (by simp at zf ⊢;omega) (AAv (ABM (show _<=68719476736 by simp at zf ⊢;omega) hby) ADj),⟨rfl,rfl,rfl⟩,f3,f2,o',?_,fn,f5⟩;grind
 |some ad1=>
  obtain⟨arr,T,fr,os1,hs,hh,zb,AAA,hxa,ho10,_⟩:=hs1 ad1 rfl (.inr ADj);have hx1:CB e 0 w fz (λk=>arr[ad1.off+k]?) xs λ_=>[]:=CB.zero hxa;clear hxa;have ho1:o1=ad1.block::(List.range xs.length).flatMap os1:=ho10 ADj;have zH:=AAA ADj;clear ho10 AAA hs1;obtain⟨b1,zS,sp1⟩:=ad1;dsimp only at hs hh zb hx1 ho1;subst hs;have hb1:b1∈o1:=by rw[ho1];simp
  by_cases hcap:xs.length+ys.length<=c1
  ·
   have hmul:(xs.length+ys.length)*e.n<=c1*e.n:=AAo _ hcap;rw[AAm]at hmul;obtain⟨w',hst,zI⟩:=Db (P:=P) (o:=zS+xs.length*e.n) news hh zH J hn1';have hadd:(⟨b1,zS,none⟩:Addr).add (xs.length*i.size)=⟨b1,zS+xs.length*e.n,none⟩:=by rw[zO];exact B2 _ _ _
   have zM:=CX news (zS+xs.length*e.n) arr J;have zt:∀b,fz b->w'.heap[b]?=w.heap[b]?:=λb hb=>zI.CI b λe=>hown b1 hb1 (e▸hb)
   have hels:CB e 0 w' fz (λk=>(B9 news (zS+xs.length*e.n) arr)[zS+k]?) (xs++ys) λi=>if i<xs.length then []else []:=by
    refine CB.append (os:=λ_=>[]) (zn:=λ_=>[]) ?_ ?_
    ·refine CB.congr (g:=λk=>arr[zS+k]?) (tr zt hx1) λk hk=>?_;grind
    ·refine CB.congr (g:=g2) (tr zt hel2) λk hk=>?_;rw[<-hng k hk,zM,AAP J];congr 1;omega
   have yz:=Md (w:=w') (ad:=⟨b1,zS,none⟩) (c:=c1) zI.here rfl (by rw[Ak];exact zH) (by rw[Ak];exact zb) No hels.zero;rw[AAz]at yz;exact⟨_,_,DL t ty t0 i za hi ⟨b1,zS,none⟩ xs.length c1 A2 ys.length c2 news hnf hcap No,zI.rest,by rw[zI.size];omega,λb hb hn=>zI.CI b λe=>hn (e▸hb1),_,yz,AAa.2 ⟨OF,AAR⟩,λb hb=>.inl No⟩
  ·
   cases A2 with
   |none=>grind
   |some ad2=>
    have hcell1:=hx1.cell;have hg1:=Bg hcell1
    have holds:∀j u,(BT (λk=>arr[zS+k]?) (xs.length*e.n))[j]?=some u->w.cell? ((⟨b1,zS,none⟩:Addr).add j)=some u:=by
     intro j u hj;have zA:j<xs.length*e.n:=by have:=(AAK.1 hj).1;rwa[AL]at this
     rw[hg1 j zA]at hj;rw[B2];simp only[World.cell?,hh];simpa using hj
    have zu:=grownCap_ge w (xs.length+ys.length) c1 t0
    obtain⟨f2,f3,o',f4,fn,f5⟩:=fresh (((BT (λk=>arr[zS+k]?) (xs.length*e.n)).toArray++news.toArray)++Builtin.zeroCells z.cells (grownCap w (xs.length+ys.length) c1 t0-(xs.length+ys.length))) (grownCap w (xs.length+ys.length) c1 t0) zu
     (by
      have:xs.length*e.n+ys.length*e.n+(grownCap w (xs.length+ys.length) c1 t0-(xs.length+ys.length))*e.n=grownCap w (xs.length+ys.length) c1 t0*e.n:=by rw[<-AAm,<-AAm];congr 1;omega
      simp only[ABF,ABD,hnl,AL,Builtin.zeroCells,ABQ,ABJ,hzc,ABB,A8];omega)
     (CB.congr hx1 λk hk=>by
      grind)
     (by
      intro k hk;rw[<-hng k hk];rw[AAu (by simp[AL,hnl];omega),Array.getElem?_append_right (by simp[AL])];simp[AL])
    exact⟨_,_,run_append_grow w t ty t0 i z za hi hz ⟨b1,zS,none⟩ xs.length c1 (BT (λk=>arr[zS+k]?) (xs.length*e.n)) (by rw[AL,zO]) holds ad2 ys.length c2 news (by rw[hnl,zO]) (hncell ad2 rfl) J J
     (growslice_fits J (AAv (ABM zf hby) ADj)),⟨rfl,rfl,rfl⟩,f3,f2,o',f4,fn,f5⟩
end
section
variable {P:Program}{E:Cy}{s:St}{W:Wd}{o:Oper}{a:Act}{ws:List Wr}{cx:Cx}{v:Nat}{tm:Array Value}
theorem Lm{vs:List Lv}{cells:ADh}{w:World}{fz:Nat->Prop}(hl:cells.length=vs.length)(hp:∀(m:Nat)(lv:Lv),vs[m]?=some lv->∃u,cells[m]?=some u/\lv.l.rd 0 w fz u lv.x [])
  {i off:Nat} {e:Ls} {a:Addr} {n k:Nat} (hi:i<n) {xs:List e.D} {o:Is} {f:List e.D->List e.D} (hm:G3 vs [(i,off)] e=some f) (hr:AD e 1 w fz (.slice (some a) n k) xs o) (hn:o.Nodup) (hz:∀b∈o,¬fz b):
  a.spot=none/\∃arr T fr,w.heap[a.block]?=some (.cells arr T fr)/\(∀j,j<arr.size->¬(fr.1<=j/\j<fr.2))/\a.off+(i*e.n+off)+cells.length<=arr.size/\a.block∈o/\
   ∀w',NI w w' a.block (B9 cells (a.off+(i*e.n+off)) arr) T fr->AD e 1 w' fz (.slice (some a) n k) (f xs) o:=by
 simp only[G3]at hm;split at hm
 ·rename_i y hy;injection hm with hm;subst hm
  split at hy
  ·rename_i hc;simp only[AAJ,AAT]at hc;obtain⟨rfl,hlen⟩:=hc;have hup:=Av e vs y hy
   have:=HN (F:=λ_=>y) (off:=0) (cells:=cells) hr J hn hz hi J (λg g' x oo hx hg=>by
    have ho:oo=[]:=Ls.Bn e hx;subst ho
    exact Bh e λj lv hj=>by
     grind)
   simpa only[EH]using this
  ·cases hy
 ·split at hm
  ·rename_i f' hf';injection hm with hm;subst hm
   have hp':∀(m:Nat)(lv:Lv),vs[m]?=some lv->∃u,cells[m]?=some u/\lv.l.rd (dec 1) w fz u lv.x ((λ_=>[]) (0+m)):=λm lv hm=>hp m lv hm;obtain⟨A,c,hv,hc,_,zZ⟩:=hr.Kb;injection hv with hA hl' hk'
   subst hA;subst hl';subst hk';obtain⟨arr,T,fr,os,_,_,_,_,zN,_,_⟩:=zZ a rfl (.inr J);have zb:=(B0 e off vs cells 0 (ovs:=λ_=>[]) (g':=λm=>if off<=m/\m<off+vs.length then cells[m-off]? else _) hf' hl hp' (zN i hi) λm _=>rfl).1
   exact HN (F:=f') (off:=off) (cells:=cells) hr J hn hz hi J (λg g' x oo hx hg=>by
    obtain⟨_,o',q1,q2,q3⟩:=B0 e off vs cells 0 (g':=g') (ovs:=λ_=>[]) hf' hl hp' hx λm hm=>by rw[hg m hm,hl]
    have ho:oo=[]:=Ls.Bn e hx;have ho':o'=[]:=Ls.Bn e q1;grind)
  ·cases hm
def DV(W:Wd)(w':World)(r j:Nat)(o1 ob:Is):Wd:=
 { W with w:=w',fz:=λb=>W.fz b\/(b∈W.om (.lf r j)/\b∉o1)\/b∈ob,om:=λk=>match k with
   | .lf a b=>if a=r/\b=j then o1 else W.om (.lf a b)
   |k=>W.om k }
theorem AU.nest(h:AU E s tm W)(hv:Ad s v){r j AA gen:Nat}{t:TypeId}{e:Ls}{xs:List e.D}(hl:s.leaf r j=.arr AA gen t e xs 2){u:Value}(zW:W.cv r j=some u){w':World}{o1 ob:Is}
  (zE:AD e 1 w' (DV W w' r j o1 ob).fz u xs o1) (ho1:∀b∈o1,b∈W.om (.lf r j)) (hnd:o1.Nodup) (hob:∀b∈ob,(b∈W.om (.lf r j)/\b∉o1)\/(W.w.heap.size<=b/\b<w'.heap.size))
  (hw:∀b,b<W.w.heap.size->b∉W.om (.lf r j)->w'.heap[b]?=W.w.heap[b]?) (zO:W.w.heap.size<=w'.heap.size) (zK:w'.os=W.w.os/\w'.tape=W.w.tape/\w'.output=W.w.output):
  AU E (s.AF (.leaf r j (.arr AA v t e xs 1))) tm (DV W w' r j o1 ob):=by
 obtain⟨hr,hj⟩:=HE hl;have yx:=BY s r j (.arr AA v t e xs 1);have yr:=Ef s r j (.arr AA v t e xs 1);generalize s.AF (.leaf r j (.arr AA v t e xs 1))=s' at yx yr;have hfz:∀b,W.fz b->w'.heap[b]?=W.w.heap[b]?:=λb hb=>hw b (h.sep.fz b hb).1 λyt=>(h.sep.own _ b yt).1 hb;have hoth:∀k,k≠.lf r j->∀b∈W.om k,w'.heap[b]?=W.w.heap[b]?:=λk hk b hb=>hw b (h.sep.own _ b hb).2.1 λyt=>h.sep.A4 k _ hk b hb yt;have homf:∀a b,(DV W w' r j o1 ob).om (.lf a b)=if a=r/\b=j then o1 else W.om (.lf a b):=λ_ _=>rfl
 have homs:∀k,k≠.lf r j->(DV W w' r j o1 ob).om k=W.om k:=by
  intro k hk;cases k with
  |lf a b=>grind
  |blk a=>rfl
  |fl a=>rfl
 have homr:(DV W w' r j o1 ob).om (.lf r j)=o1:=No
 have hsubs:∀k,∀b∈(DV W w' r j o1 ob).om k,b∈W.om k:=by
  intro k b hb;by_cases hk:k=.lf r j
  ·grind
  ·grind
 have zV:ES v s s' W (DV W w' r j o1 ob):={
  fz:=λb hb=>.inl hb
  Lf:=hfz
  leaf:=by
   intro r' j' ver' gen' t' e' ys d' hl' zD;rw[yr]at hl';by_cases yt:r=r'/\j=j'
   ·obtain⟨rfl,rfl⟩:=yt;rw[AAP ⟨rfl,rfl,hr,hj⟩]at hl';injection hl' with e1 e2 e3 e4 e5 e6
    subst e1;subst e2;subst e3;subst e4;subst e6;exact⟨rfl,gen,t,xs,2,hl,λhg=>absurd rfl hg⟩
   ·rw[AAQ (λhh=>yt ⟨hh.1,hh.2.1⟩)]at hl';refine⟨rfl,gen',t',ys,d',hl',λ_=>⟨rfl,λp h' e2 u' hc hn=>?_⟩⟩;obtain⟨u0,z8,hrd0⟩:=(h.roots r').row hl';rw[hc]at z8;injection z8 with z8;subst z8
    exact BI p hrd0 hn λb hb=>hb.elim (λhb=>hoth _ No b hb) (hfz b)
  box:=λr' hb zD=>⟨(yx.box r').1▸hb,(yx.box r').2.1.symm,rfl⟩ }
 have hsep:Sep E (DV W w' r j o1 ob):={
  nodup:=λk=>by
   by_cases hk:k=.lf r j
   ·grind
   ·rw[homs k hk];exact h.sep.nodup k
  A4:=λk k' zD b hb zJ=>h.sep.A4 k k' zD b (hsubs k b hb) (hsubs k' b zJ)
  own:=λk b hb=>by
   obtain⟨a,c,d⟩:=h.sep.own k b (hsubs k b hb);refine⟨?_,by show b<w'.heap.size;omega,d⟩;have hnot:k=.lf r j->b∈o1:=λhk=>No
   rintro (hz|⟨h1,h2⟩|hz)
   ·exact a hz
   ·by_cases hk:k=.lf r j
    ·grind
    ·exact h.sep.A4 k _ hk b (hsubs k b hb) h1
   ·rcases hob b hz with⟨h1,h2⟩|⟨h1,_⟩
    ·by_cases hk:k=.lf r j
     ·grind
     ·exact h.sep.A4 k _ hk b (hsubs k b hb) h1
    ·omega
  fz:=λb hb=>by
   rcases hb with hb|⟨h1,_⟩|hb
   ·obtain⟨a,c⟩:=h.sep.fz b hb;exact⟨by show b<w'.heap.size;omega,c⟩
   ·obtain⟨_,c,d⟩:=h.sep.own _ b h1;exact⟨by show b<w'.heap.size;omega,.inr d⟩
   ·rcases hob b hb with⟨h1,_⟩|⟨h1,h2⟩
    ·obtain⟨_,c,d⟩:=h.sep.own _ b h1;exact⟨by show b<w'.heap.size;omega,.inr d⟩
    ·exact⟨h2,.inr (.inl ADv)⟩
  frame:=λb h1 h2=>(hw b ADv λyt=>by
   rcases(h.sep.own _ b yt).2.2 with h3|h3
   all_goals grind).trans (h.sep.frame b h1 h2)
  size:=by show _<=w'.heap.size;have:=h.sep.size;omega
  rest:=⟨zK.1.trans h.sep.rest.1,zK.2.1.trans h.sep.rest.2.1,zK.2.2.trans h.sep.rest.2.2⟩ }
 refine h.IM hv zV hsep (by rw[yx.sl,h.DM]) (by rw[yx.len,h.Bs]) (λt=>.inl ⟨by show nth _ s'.sl t=_;rw[yx.sl];rfl,rfl⟩) ?_;intro r';obtain⟨h1,h2⟩:=h.roots r';refine⟨λj'=>?_,?_⟩
 ·show Aa s' _ (s'.leaf r' j') (W.cv r' j') ((DV W w' r j o1 ob).om (.lf r' j'));rw[yr];by_cases yt:r=r'/\j=j'
  ·obtain⟨rfl,rfl⟩:=yt;rw[AAP ⟨rfl,rfl,hr,hj⟩,homr];exact⟨u,zW,zE⟩
  ·have hk:Key.lf r' j'≠.lf r j:=by simp;intro e1 e2;exact yt ⟨e1.symm,e2.symm⟩
   rw[AAQ (λhh=>yt ⟨hh.1,hh.2.1⟩),homs _ hk];exact Aa.Ds zV (LA.D0 hv r' j') (hoth _ hk) (h1 j')
 ·rw[(yx.box r').1];have hkb:(DV W w' r j o1 ob).om (.blk r')=W.om (.blk r'):=rfl;rw[hkb];split
  ·rename_i hb;rw[AAP hb]at h2;obtain⟨ho',arr',T',fr',hh',a1,a2,a3⟩:=h2;exact⟨ho',arr',T',fr',(hoth (.blk r') OF _ (by rw[ho'];exact AA5.2 rfl)).trans hh',a1,by rw[(yx.box r').2.2];exact a2,a3⟩
  grind
theorem I0{s:St}{r j AA gen v:Nat}{t:TypeId}{e:Ls}{xs:List e.D}{d:Nat}(h:s.leaf r j=.arr AA gen t e xs (d+1)):s.AF (.half r j v)=s.AF (.leaf r j (.arr AA v t e xs 1)):=by simp only[St.AF,h,LA.Ci]
theorem Nd(h:AU E s tm W)(hv:Ad s v){t t0 ty:TypeId}{e:Ls}(za:P.underlying t=some (.slice t0))(zN:MB P t0 e){d:Nat}{c:Loc}(hcp:∃q,c.p=[q]){ux uy:Value}(hx:AQ s W (.ref c) ux){lb:LA}(hy:AQ s W lb uy){t1:TypeId}
  (hl:(D4 cx s d v t1 e c lb λws=>.go ws).leads ws):∃u w',(Builtin.append_ #[t,t] ty #[ux,uy]).run P W.w=.ok u w'/\∃W',W'.w=w'/\AU E (s.app ws) (tm.setIfInBounds d u) W':=by
 obtain⟨⟨i,off⟩,hcp⟩:=hcp;unfold D4 at hl;split at hl
 ·rename_i AA gen tt e0 xs yr;split at hl
  ·rename_i zB;simp only[AAJ,AAT,AAU]at zB;obtain⟨⟨⟨zC,hgen⟩,hpin⟩,hflat⟩:=zB;subst zC;subst hgen;obtain⟨hd0,e2,zW,hnav⟩:=hx _ _ _ _ _ yr (.inr rfl);obtain⟨u0,z8,zE⟩:=(h.roots c.r).row yr;rw[zW]at z8;injection z8 with z8;subst z8
   unfold St.content at hl;rw[yr]at hl;dsimp only at hl;rw[hcp]at hnav hl;split at hl
   ·have hndo:=h.sep.nodup (.lf c.r c.j);obtain⟨t2,ys0,oy,hl,hry,hsuby,hndy⟩:=Ft [(i,off)] hl zE hnav (λ_=>rfl) hndo;obtain⟨ad,len,cc,tf,f2,hu2,hhd,hspot,hilt,hkind,zP,hfe,hue⟩:=hnav;subst hfe;subst hue;subst hhd;split at hl
    ·rename_i zs hzs;obtain⟨q1,q2⟩:=L.AH hzs;cases q1;have q2:ys0=zs:=q2;subst q2;obtain⟨ys,hl,hyr⟩:=Bk h hy hl;rcases Ag hl with⟨hb,hl⟩|⟨_,hl⟩
     ·have hl:_=ws:=hl;have hb:=AAs hb;obtain⟨u,w',zF,zK,zO,hold,hpre,ob,hnew,hob⟩:=J6 (P:=P) (ty:=ty) za zN hflat (λb hb=>(h.sep.fz b hb).1) hry (L.Kx.1 hyr) hb;refine⟨u,w',zF,?_⟩;have hap:=H8 zE hndo hilt hkind zP hry;obtain⟨H,hH⟩:=H6 e0 off (G:=λ_ f=>some (λ(l:List f.D)=>l)) hkind rfl
      have hF:H4 (λ_ f=>some (λ(l:List f.D)=>l)) [(i,off)] tt e0=some λxs=>xs.modify i H:=by simp only[H4,hH]
      have hFid:xs.modify i H=xs:=by rw[show H=id from funext (KH e0 off hH λt f g hg l=>by injection hg with hg;subst hg;rfl)];simp
      obtain⟨t3,fn,zs,po,g1,g2,g3,g4,g5⟩:=OK [(i,off)] hF zE ⟨ad,len,cc,tf,_,_,rfl,hspot,hilt,hkind,zP,rfl,rfl⟩ (λ_=>rfl) hndo;injection g1 with g1;subst g1
      obtain⟨z1,z2⟩:=g2.uniq hry;subst z1;subst z2
      obtain⟨q,hq,hback⟩:=g5 w' W.fz po hpre {
       nd:=g4
       new:=λb hb _=>hb
       rest:=λb hb=>by
        rcases hb with⟨hb1,hb2⟩|hb
        ·exact hold b (h.sep.own _ b hb1).2.1 hb2
        ·exact hold b (h.sep.fz b hb).1 λyt=>(h.sep.own _ b (g3 b yt)).1 hb
       fz:=λb hb=>hb }
      rw[hFid]at hq;have hqsub:∀b∈q,b∈W.om (.lf c.r c.j):=λb hb=>(hback.2 b hb).elim (λhb=>g3 b hb) (λhb=>hb.1);obtain⟨o1,ho1,hnd1,hhalf⟩:=hq.half hback.1
      have zi:∀b∈o1,b∉po:=λb hb=>by
       obtain⟨_,a',n',c',hv',e'⟩:=ho1 b hb;injection hv' with hv' _ _
       injection hv' with hv'
       rw[e',<-hv'];exact hap
      have hob':∀b∈ob,(b∈W.om (.lf c.r c.j)/\b∉o1)\/(W.w.heap.size<=b/\b<w'.heap.size):=λb hb=>(hob b hb).imp (λhb=>⟨g3 b hb,λyt=>zi b yt hb⟩) id;have hrd1:AD e0 1 w' (DV W w' c.r c.j o1 ob).fz (.slice (some ad) len cc) xs o1:=hhalf _ (λb hb=>.inl hb) λb hb hn=>.inr (.inl ⟨hqsub b hb,hn⟩);have yu:=h.nest hv yr zW hrd1 (λb hb=>hqsub b (ho1 b hb).1) hnd1 hob' (λb hb hn=>hold b hb λyt=>hn (g3 b yt)) zO zK;refine⟨DV W w' c.r c.j o1 ob,rfl,?_⟩;rw[<-hl];show AU E ((s.AF (.half c.r c.j v)).app _) _ _;rw[I0 yr];exact yu.slot d (hnew.freeze λb hb=>hb.elim (λhb=>.inl hb) λhb=>.inr (.inr hb))
     ·exact hl.elim
    ·exact hl.elim
   grind
  ·exact hl.elim
 ·exact hl.elim
theorem NV(h:AU E s tm W)(hv:Ad s v){t t0 ty:TypeId}{e:Ls}(za:P.underlying t=some (.slice t0))(zN:MB P t0 e){d:Nat}(hd:d<tm.size){c:Loc}(hcp:c.p=[]){ux uy:Value}(hx:AQ s W (.ref c) ux){lb:LA}(hy:AQ s W lb uy){t1:TypeId}
  (hl:(D3 cx s d v t1 e c lb λws=>.go ws).leads ws):∃u w',(Builtin.append_ #[t,t] ty #[ux,uy]).run P W.w=.ok u w'/\∃W',W'.w=w'/\AU E (s.app ws) (tm.setIfInBounds d u) W':=by
 unfold D3 at hl;split at hl
 ·rename_i AA gen t' e' xs yr;split at hl
  ·rename_i zB;simp only[AAJ,AAT,AAU]at zB;obtain⟨⟨zC,hpin⟩,hsc⟩:=zB;subst zC;split at hl
   ·rename_i zs hzs;obtain⟨q1,q2⟩:=L.AH hzs;cases q1;have q2:xs=zs:=q2;subst q2;obtain⟨h',e',zW,hn⟩:=hx gen _ _ _ _ yr (.inl hcp);rw[hcp]at hn;obtain⟨rfl,rfl⟩:=hn;obtain⟨u',zG,zE⟩:=(h.roots c.r).row yr;rw[zW]at zG;injection zG with zG;subst zG
    obtain⟨ys,hl,hyr⟩:=Bk h hy hl;have hroots:lb.roots=[]:=by cases lb<;>first|rfl|cases hsc
    rcases Ag hl with⟨hb,hl⟩|⟨_,hl⟩
    ·have hl:_=ws:=hl;have hb:=AAs hb;have hyr:=(L.Kx.1 hyr).frame (yw:=W.fz) (w':=W.w) (λ_ _=>rfl) λb hb=>hb.elim id λ⟨r,hr,_⟩=>No
     obtain⟨u,w',zF,zK,zO,hold,o',yz,hnd,zv⟩:=KB (P:=P) (ty:=ty) za zN (λb hb=>(h.sep.fz b hb).1) zE (λb hb=>(h.sep.own _ b hb).1) hyr hb;refine⟨u,w',zF,?_⟩;rw[<-hl]
     exact h.Cr hv [(c.r,c.j)] hd (t0:=t1) (λb hb=>hold b (by
       rcases hb with hb|⟨k,_,hb⟩
       ·exact(h.sep.fz b hb).1
       ·exact(h.sep.own k b hb).2.1) λyt=>by
       rcases hb with hb|⟨k,hk,hb⟩
       ·exact(h.sep.own _ b yt).1 hb
       ·by_cases hkk:k=.lf c.r c.j
        ·subst hkk;exact hk.2 OF
        ·exact h.sep.A4 k _ hkk b hb yt)
      (λb hb hio=>hold b ADv λyt=>by
       rcases(h.sep.own _ b yt).2.2 with h3|h3
       all_goals grind) zO zK yz hnd (λb hb=>(zv b hb).imp (λhb=>⟨c.r,c.j,OF,hb⟩) id)
    ·exact hl.elim
   ·exact hl.elim
  ·exact hl.elim
 ·exact hl.elim
theorem Fa{a:LA}{c:Loc}(h:nested a=some c):a=.ref c/\∃q,c.p=[q]:=by unfold nested at h;grind
theorem FF:∀ {as:List LA} {c:Loc},Cf as=some c->∃(j:Nat),as[j]?=some (.ref c)/\∃q,c.p=[q]
 | [],c,h=>by cases h
 |a::as,c,h=>by
  unfold Cf at h;split at h
  ·rename_i c' zg;injection h with h;subst h
   obtain⟨e1,e2⟩:=Fa zg;exact⟨0,by rw[e1];rfl,e2⟩
  ·obtain⟨j,h1,h2⟩:=FF h;exact⟨j+1,No,h2⟩
theorem K7{w:World}{yw:Nat->Prop}{β:Type}{z:β}:∀ {ls:List L} {as:List LA} {g:Nat->Option Value} {k:List Lv->Step β},
  (∀(j:Nat)(b:LA),as[j]?=some b->∃u,g j=some u/\∀(l:L)(k':l.D->Step β),(s.Au l b k').leads z->∃x,(k' x).leads z/\l.rd 0 w yw u x [])->(s.data ls as k).leads z->
  ∃vs:List Lv,(k vs).leads z/\vs.length=as.length/\vs.map (·.l)=ls/\∀(j:Nat)(lv:Lv),vs[j]?=some lv->∃u,g j=some u/\lv.l.rd 0 w yw u lv.x []
 | [],[],g,k,hg,hl=>⟨[],hl,rfl,rfl,λj lv hj=>ADu⟩
 | [],_::_,g,k,hg,hl=>hl.elim
 |_::_,[],g,k,hg,hl=>hl.elim
 |l::ls,b::as,g,k,hg,hl=>by obtain⟨u,hu,hb⟩:=hg 0 b rfl;obtain⟨x,hl,hx⟩:=hb l _ hl;obtain⟨vs,hl,hn,hm,hvs⟩:=K7 (g:=λj=>g (j+1)) (λj b hj=>hg (j+1) b ADx) hl;grind
theorem NZ(h:AU E s a.tmps W)(hv:Ad s v){t t':TypeId}{e:Ls}(za:P.underlying t=some (.slice t'))(zN:MB P t' e){d len:Nat}{c:Loc}{x:Operand}{g:Bool}{as:List LA}(hnf:∃(j:Nat),as[j]?=some (.ref c)/\∃q,c.p=[q])(hopd:s.Ao x=.v g as)(hx:E8 s W g as (a.eval x)){t1:TypeId}(hsmall:len*e.n<=16777216)(hlen:len=1){parts:Array (Nat×Operand)}
  (hl:(C2 cx s d v t1 e x c λws=>.go ws).leads ws) (hps:parts.toList=[(0,x)]):∃u w',(Instr.buildSlice t len (parts.map λ(i,x)=>(i,a.eval x))).run P W.w=.ok u w'/\∃W',W'.w=w'/\AU E (s.app ws) (a.tmps.setIfInBounds d u) W':=by
 obtain⟨j0,hj0,⟨i0,off0⟩,hcp⟩:=hnf;unfold C2 at hl;rw[hopd]at hl;dsimp only at hl;split at hl
 ·rename_i AA gen t0 e0 xs yr;split at hl
  ·rename_i zB;simp only[AAJ,AAT,AAU]at zB;obtain⟨⟨⟨zC,hgen⟩,hpin⟩,zq⟩:=zB;subst zC;subst hgen;obtain⟨i,hi,zO,hby,z,hz,hzc⟩:=zN.info;have hndo:=h.sep.nodup (.lf c.r c.j);obtain⟨hd0,zW,zE⟩:=(h.roots c.r).row yr;obtain⟨o1,ho1,hnd1,hhalf⟩:=zE.half hndo;have hb0:∀b,W.w.heap.size<=b->¬W.fz b:=λb hb hz=>by have:=(h.sep.fz b hz).1;omega
   let yw:Nat->Prop:=λb=>W.fz b\/(b∈W.om (.lf c.r c.j)/\b∉o1)\/b∈[W.w.heap.size]
   obtain⟨vs,hl,zw,hvm,hvs⟩:=K7 (w:=W.w) (yw:=yw) (g:=A5 g (a.eval x)) (λj b hj=>by
    obtain⟨u,hu,zh⟩:=B8 hx j b hj;refine⟨u,hu,λl k' hl=>?_⟩;have hab:=AAW.1 zq b (AAN hj);unfold KE at hab;split at hab
    ·rename_i c';simp only[AAJ,AAT]at hab;obtain⟨⟨⟨⟨a1,a2⟩,a3⟩,a4⟩,a5⟩:=hab;obtain⟨r',j',ver',gen',p'⟩:=c';dsimp only at a1 a2 a3 a4 a5;subst a1;subst a2;subst a3;subst a4
     have hp':∃q,p'=[q]:=by
      split at a5
      ·exact⟨_,rfl⟩
      ·cases a5
     obtain⟨⟨i1,zS⟩,rfl⟩:=hp';obtain⟨h',e',hcv',hnav⟩:=zh _ _ _ _ _ yr (.inr rfl);rw[zW]at hcv';injection hcv' with hcv';subst hcv'
     unfold St.Au St.content at hl;simp only[yr]at hl;split at hl
     ·obtain⟨t2,ys0,oy,hl,hry,hsuby,hndy⟩:=Ft [(i1,zS)] hl zE hnav (λ_=>rfl) hndo;obtain⟨ad,ln,cc,tf,f2,u2,hhd,hspot,hilt,hkind,zP,hfe,hue⟩:=hnav;subst hfe;subst hue;subst hhd;split at hl
      ·rename_i y hy;obtain⟨ee,he⟩:=L.AH hy;subst ee;subst he;have hap:=H8 zE hndo hilt hkind zP hry;refine⟨_,hl,hry.freeze λb hb=>?_⟩;rcases hb with hb|hb
       ·exact .inl hb
       ·refine .inr (.inl ⟨hsuby b hb,λyt=>?_⟩);obtain⟨_,a',n',c',hv',e'⟩:=ho1 b yt;injection hv' with hv' _ _
        injection hv' with hv'
        rw[e',<-hv']at hb;exact hap hb
      ·exact hl.elim
     grind
    ·rename_i l0 x0;simp only[St.Au]at hl;split at hl
     ·rename_i y hy;obtain⟨ee,he⟩:=L.AH hy;subst ee;subst he;exact⟨x0,hl,L.AI l0 zh (λ_ _=>rfl) λb hb=>.inl hb⟩
     ·exact hl.elim
    ·cases hab) hl
   split at hl
   ·rename_i y hy;have hl:_=ws:=hl;have hup:=Av e vs y hy;have hen:as.length=e.n:=by rw[<-zw,<-hup,CA]
    have zR:=Bt hx λj b hj=>by
     have zA:j<vs.length:=by rw[zw];exact(AAK.1 hj).1
     obtain⟨u,hu,hr⟩:=hvs j vs[j] (AAI zA);exact⟨u,hu,L.Dm _ hr⟩
    have hrde:e.rd 0 W.w yw (A5 g (a.eval x)) y []:=Bh e λj lv hj=>No
    obtain⟨arr,hf,hasz,_,zM⟩:=FR (e:=e) a.eval parts.toList 0 (madeCells z.cells (len*e.n)) (λm x' i' hm=>by
     grind) (by rw[size_madeCells,hps,hlen];simp)
    rw[size_madeCells]at hasz;have zF:=Ej (P:=P) (w:=W.w) (t:=t) (len:=len) (parts:=parts.map λ(i,x)=>(i,a.eval x)) (arr:=arr) za hi hz No (by rw[zO,ABI];exact hf)
    have hels:CB e 0 (W.w.alloc (.cells arr t')) yw (λk=>arr[0+k]?) [y] λ_=>[]:=by
     intro m hm;have hm0:m=0:=ADq
     subst hm0
     have hsz':∀b,(b∈([]:Is)\/yw b)->b<W.w.heap.size\/b=W.w.heap.size:=by
      intro b hb;rcases hb with hb|hb|⟨hb,_⟩|hb
      ·cases hb
      ·grind
      ·exact .inl (h.sep.own _ b hb).2.1
      ·grind
     have h4:e.rd 0 (W.w.alloc (.cells arr t')) yw (λj=>(a.eval x).cells[j]?) y []:=by
      refine Ls.BB e (g:=A5 g (a.eval x)) ?_ λj hj=>zR.2 j J
      have h0:e.rd 0 W.w (λb=>yw b/\b<W.w.heap.size) (A5 g (a.eval x)) y []:=Bh e λj lv hj=>by rw[hup]at hj;obtain⟨u,hu,hr⟩:=hvs j lv hj;exact⟨u,hu,IL lv.l hr⟩
      exact Ls.AI e h0 (λb hb=>A7 _ _ (hb.elim (λhb=>by cases hb) λhb=>hb.2)) λb hb=>hb.1
     refine Ls.BB e h4 λj hj=>?_;have:=zM 0 0 x (by rw[hps];rfl) j hj;simp only[AAY]at this ⊢;exact this
    have yz:=OL (w:=W.w.alloc (.cells arr t')) (ad:=⟨W.w.heap.size,0,none⟩) (c:=len) (fr:=(0,0)) (T:=t') (fz:=yw) (heap_alloc_new _ _) rfl (.inr (.inr OF)) (by simp[hasz]) (by simp[hlen]) hels;refine⟨_,_,zF,DV W (W.w.alloc (.cells arr t')) c.r c.j o1 [W.w.heap.size],rfl,?_⟩;have hqs:AD e0 2 (W.w.alloc (.cells arr t')) W.fz hd0 xs (W.om (.lf c.r c.j)):=zE.frame (λb hb=>A7 _ _ (hb.elim (λhb=>(h.sep.own _ b hb).2.1) λhb=>(h.sep.fz b hb).1)) λ_ hb=>hb
    have hrd1:AD e0 1 (W.w.alloc (.cells arr t')) (DV W (W.w.alloc (.cells arr t')) c.r c.j o1 [W.w.heap.size]).fz hd0 xs o1:=
     (hhalf yw (λb hb=>.inl hb) λb hb hn=>.inr (.inl ⟨hb,hn⟩)).OD (λb hb=>A7 _ _ hb) (λb hb=>(h.sep.own _ b (ho1 b hb).1).2.1) (λb hb=>hb)
    have yu:=h.nest hv yr zW hrd1 (λb hb=>(ho1 b hb).1) hnd1 (λb hb=>.inr (by rw[AA5.1 hb,Ax];omega)) (λb hb _=>A7 _ _ hb) (by rw[Ax];omega) ⟨rfl,rfl,rfl⟩;rw[<-hl];have hlen1:[y].length=len:=by rw[hlen];rfl
    rw[hlen1]at yz;show AU E ((s.AF (.half c.r c.j v)).app _) _ _;rw[I0 yr];exact yu.slot d yz
   ·exact hl.elim
  ·exact hl.elim
 ·exact hl.elim
theorem Lp(hc:Dt P cx)(h:AU E s a.tmps W)(hv:Ad s v){c:Call}(ho:o.op=.call c)(hb:c.callee=.builtin .append)(hd:∀d,o.dst=some d->d<a.tmps.size)(hl:(AB cx v o s).leads ws):Bc P E o a W.w (s.app ws):=by
 simp only[AB,ho,hb]at hl;split at hl
 ·rename_i x y t1 t2 ty d hx ht hty zl;split at hl
  ·rename_i t e hls;split at hl
   ·rename_i zB;simp only[AAJ,AAT]at zB;obtain⟨rfl,yz⟩:=zB;obtain⟨t0,za,zN⟩:=Fy hc yz;have zY:c.args = #[x,y]:=No
    have hats:c.argTypes = #[t1,t1]:=No
    obtain⟨cal,args,ats⟩:=c;dsimp only at hb zY hats;subst hb;subst zY;subst hats
    have fin:∀ {xs ys:List e.D} {us1 us2:List (Nat×Nat)} {o1:Is},AD e 2 W.w W.fz (a.eval x) xs o1->o1.Nodup->(∀b∈o1,∃r j,(r,j)∈us1/\b∈W.om (.lf r j))->Ke P s W e (a.eval y) ys us2->
      (∀x∈us1,x∉us2)->xs.length+ys.length<=Dj->ws=gone (us1++us2)++ownRow d v t e (xs++ys)->Bc P E o a W.w (s.app ws):=by
     intro xs ys us1 us2 o1 h1 h2 h3 h4 h5 h6 h7;obtain⟨u,w',zF,W',hW',yu⟩:=LY h hv (ty:=o.type) za zN (hd d zl) h1 h2 h3 h4 h5 h6 t;rw[h7];refine Be h zl ?_ hW' yu;simp[execOp,ho,resolve,invoke,builtin,zF]
    have h1:=Ac h x;have h2:=Ac h y;have hva:=I7 hv x;generalize s.Ai x=p at hl h1 hva;unfold Du at hl;cases hnest:nested p with
    |some c=>
     rw[hnest]at hl;obtain⟨rfl,hcp⟩:=Fa hnest;obtain⟨u,w',zF,W',hW',yu⟩:=Nd h hv (ty:=o.type) za zN hcp h1 h2 hl;refine Be h zl ?_ hW' yu;simp[execOp,ho,resolve,invoke,builtin,zF]
    |none=>
    rw[hnest]at hl;dsimp only at hl;cases hhalf:Ee s p with
    |some c=>
     rw[hhalf]at hl;dsimp only at hl
     have hpc:p=.ref c/\c.p=[]:=by
      unfold Ee at hhalf;split at hhalf
      ·grind
      ·cases hhalf
     obtain⟨rfl,hcp⟩:=hpc;obtain⟨u,w',zF,W',hW',yu⟩:=NV h hv (ty:=o.type) za zN (hd d zl) hcp h1 h2 hl;refine Be h zl ?_ hW' yu;simp[execOp,ho,resolve,invoke,builtin,zF]
    |none=>
    rw[hhalf]at hl;dsimp only at hl;unfold C7 at hl;split at hl
    ·obtain⟨ys,us,hl,hmore⟩:=JX h h2 hl;rcases Ag hl with⟨hb,hl⟩|⟨_,hl⟩
     ·have hl:_=ws:=hl;rw[show a.eval x=.slice none 0 0 from h1]at fin;exact fin (xs:=[]) (us1:=[]) Bz AAR (λb hb=>by cases hb) hmore (λx hx=>by cases hx) No hl.symm
     ·exact hl.elim
    ·rename_i c;split at hl
     ·rename_i AA gen t' e' xs dd yr;split at hl
      ·rename_i zB;simp only[AAJ,AAT,AAU]at zB;obtain⟨⟨⟨zC,hp⟩,hpin⟩,hdd⟩:=zB;subst zC;subst hdd;have hp:c.p=[]:=by cases hq:c.p<;>simp_all[isNil]
       split at hl
       ·rename_i ys0 hys;obtain⟨q1,q2⟩:=L.AH hys;cases q1;have q2:xs=ys0:=q2;subst q2;obtain⟨h',e',zW,hn⟩:=h1 gen _ _ _ _ yr (.inl hp);rw[hp]at hn;obtain⟨rfl,rfl⟩:=hn;obtain⟨u',zG,zE⟩:=(h.roots c.r).row yr;rw[zW]at zG;injection zG with zG;rw[<-zG]at zE
        obtain⟨ys,us,hl,hmore⟩:=JX h h2 hl;split at hl
        ·exact hl.elim
        ·rename_i hnot;rcases Ag hl with⟨hb,hl⟩|⟨_,hl⟩
         ·have hl:_=ws:=hl;exact fin (us1:=[(c.r,c.j)]) zE (h.sep.nodup _) (λb hb=>⟨c.r,c.j,OF,hb⟩) hmore (λx hx=>by grind) (AAs hb) hl.symm
         ·exact hl.elim
       ·exact hl.elim
      ·exact hl.elim
     ·exact hl.elim
    ·rename_i c lo hi;split at hl
     ·rename_i AA gen t' e' xs dd yr;split at hl
      ·rename_i zB;simp only[AAJ,AAT,AAU]at zB;obtain⟨⟨⟨⟨zC,hp⟩,hpin⟩,hdd⟩,hflat⟩:=zB;subst zC;subst hdd;have hp:c.p=[]:=by cases hq:c.p<;>simp_all[isNil]
       split at hl
       ·rename_i ys0 hys;obtain⟨q1,q2⟩:=L.AH hys;cases q1;have q2:xs=ys0:=q2;subst q2;obtain⟨h',e',A,n,k0,zW,hn,l1,l2,huv⟩:=h1 gen _ _ _ _ yr (.inl hp);rw[hp]at hn;obtain⟨rfl,rfl⟩:=hn;obtain⟨u',zG,zE⟩:=(h.roots c.r).row yr;rw[zW]at zG;injection zG with zG;rw[<-zG]at zE
        obtain⟨o',r1,r2,r3⟩:=CD.sub zE l1 l2;obtain⟨ys,us,hl,hmore⟩:=JX h h2 hl;split at hl
        ·exact hl.elim
        ·rename_i hnot;rcases Ag hl with⟨hb,hl⟩|⟨_,hl⟩
         ·have hl:_=ws:=hl;refine fin (us1:=[(c.r,c.j)]) (by rw[huv];exact r1) (r3 (h.sep.nodup _)) (λb hb=>⟨c.r,c.j,OF,r2 b hb⟩) hmore (λx hx=>by grind) (AAs hb) hl.symm
         ·exact hl.elim
       ·exact hl.elim
      ·exact hl.elim
     ·exact hl.elim
    ·exact hl.elim
   ·exact hl.elim
  ·exact hl.elim
 ·exact hl.elim
theorem Ik(hc:Dt P cx)(h:AU E s a.tmps W)(hv:Ad s v){t:TypeId}{len:Nat}{parts:Array (Nat×Operand)}(ho:o.op=.buildSlice t len parts)(hd:∀d,o.dst=some d->d<a.tmps.size)(hl:(AB cx v o s).leads ws):Bc P E o a W.w (s.app ws):=by
 simp only[AB,ho]at hl;split at hl
 ·rename_i ty d ht zl;split at hl
  ·exact hl.elim
  ·rename_i hag;split at hl
   ·rename_i t' e hls;split at hl
    ·rename_i zB;simp only[AAJ,AAT,AAf]at zB;obtain⟨hlen,hsmall⟩:=zB;obtain⟨za,zN⟩:=(Cm hc ht hls No:Gb P t (.sl t' e));obtain⟨i,hi,zO,hby,z,hz,hzc⟩:=zN.info;cases hlend:EE s e parts.toList with
     |some q=>
      obtain⟨x,c⟩:=q;rw[hlend]at hl;dsimp only at hl
      have hps:parts.toList=[(0,x)]/\∃g as,s.Ao x=.v g as/\Cf as=some c:=by
       unfold EE at hlend;split at hlend
       ·cases hlend
       ·grind
      obtain⟨hps,g,as,hopd,hnf⟩:=hps;obtain⟨u,w',zF,W',hW',yu⟩:=NZ (P:=P) h hv za zN (FF hnf) hopd (by have:=BN h x;rw[hopd]at this;exact this) hsmall (by rw[hlen,<-Array.length_toList,hps];rfl) hl (parts:=parts) hps;refine Be h zl ?_ hW' yu;unfold execOp;simp only[ho,Sem.run_bind,zF,Result.andThen_ok];rfl
     |none=>
     rw[hlend]at hl;dsimp only at hl;obtain⟨ys,us,os,hl,hes⟩:=Ho (P:=P) h hv _ _ hl;split at hl
     ·have hl:_=ws:=hl;have hyl:ys.length=len:=by rw[hes.len,hlen];simp
      have hparts:∀(m:Nat)(x:Operand)(i:Nat),parts.toList[m]?=some (i,x)->i=0+m/\(a.eval x).cells.size=e.n:=by
       intro m x i hm;have hm':m<ys.length:=by rw[hes.len];exact(AAK.1 hm).1
       obtain⟨x',h1,h2,_⟩:=hes.el m hm';rw[hm]at h1;injection h1 with h1;injection h1 with h1 h1';subst h1'
       exact⟨h1,h2⟩
      obtain⟨arr,hf,hasz,_,zM⟩:=FR (e:=e) a.eval parts.toList 0 (madeCells z.cells (len*e.n)) hparts (by rw[size_madeCells,hlen];simp);rw[size_madeCells]at hasz;have zF:=Ej (P:=P) (w:=W.w) (t:=t) (len:=len) (parts:=parts.map λ(i,x)=>(i,a.eval x)) (arr:=arr) za hi hz No (by rw[zO,ABI];exact hf)
      have hels:CB e 2 (W.w.alloc (.cells arr t')) W.fz (λk=>arr[0+k]?) ys os:=by
       intro m hm;obtain⟨x,h1,h2,h3⟩:=hes.el m hm
       have h4:e.rd 2 (W.w.alloc (.cells arr t')) W.fz (λj=>(a.eval x).cells[j]?) ys[m] (os m):=Ls.AI e h3 (λb hb=>A7 _ _ (by
        rcases hb with hb|hb
        ·obtain⟨r,j,_,h5⟩:=hes.Oe m b hb;exact(h.sep.own _ b h5).2.1
        ·exact(h.sep.fz b hb).1)) λ_ hb=>hb
       refine Ls.BB e h4 λj hj=>?_;have:=zM m _ x h1 j hj;simp only[AAY]at this ⊢;exact this
      have yz:=Gs (w:=W.w.alloc (.cells arr t')) (ad:=⟨W.w.heap.size,0,none⟩) (c:=len) (fr:=(0,0)) (T:=t') (heap_alloc_new _ _) rfl J (by simp[hasz]) J hels
      obtain⟨W',hW',yu⟩:=h.Cr hv us (hd d zl) (t0:=t') (El h _) (λb hb _=>A7 _ _ ADv) (by rw[Ax];omega) ⟨rfl,rfl,rfl⟩ yz
       (AAa.2 ⟨λyt=>by
        obtain⟨m,_,hb⟩:=AAL.1 yt;obtain⟨r,j,_,h5⟩:=hes.Oe m _ hb;exact absurd (h.sep.own _ _ h5).2.1 (Nat.lt_irrefl _),EF hes.PK hes.PB _⟩)
       (λb hb=>by
        rcases AAd.1 hb with rfl|hb
        ·exact .inr ⟨AAc _,by rw[Ax];grind⟩
        ·obtain⟨m,_,hb⟩:=AAL.1 hb;exact .inl (hes.Oe m b hb))
      rw[<-hl];refine Be h zl ?_ hW' yu;rw[hyl];unfold execOp;simp only[ho,Sem.run_bind,zF,Result.andThen_ok];rfl
     ·exact hl.elim
    ·exact hl.elim
   ·exact hl.elim
 ·exact hl.elim
end
end Go.Ev
namespace Go.Ev
section
variable {P:Program}{E:Cy}{s:St}{W:Wd}{o:Oper}{a:Act}{ws:List Wr}{cx:Cx}{v:Nat}{tm:Array Value}
theorem DC{t:TypeId}{x y:Operand}(ho:o.op=.store t x y)(hdst:o.dst=none){ad:Addr}(hx:a.eval x=.pointer (some ad)){i:TypeInfo}(hi:P.info? t=some i)(zO:(a.eval y).cells.size=i.size){W':Wd}
  (zF:(storeCells ad (a.eval y).cells.toList).run P W.w=.ok () W'.w) {s':St} (hr:AU E s' a.tmps W'):Bc P E o a W.w s':=by
 intro next Q hn
 have hst:(storeVar t ad (a.eval y)).run P W.w=.ok () W'.w:=by simp[storeVar,sizeOf,typeInfo,hi,zO,zF]
 unfold Oper.wp execOp;simp only[ho,hx,Instr.storeAt,Instr.sureAddr,Sem.run_bind,Sem.run_pure,Result.andThen_ok,hst];show next (a.put o.dst Go.undef) W'.w
 rw[hdst];exact hn _ W' rfl hr
theorem KG{α β:Type}{f:α->Option β}:∀ {l:List α} {r:List β},l.mapM f=some r->r.length=l.length
 | [],r,hr=>No
 |b::l,r,hr=>by
  simp only[List.mapM_cons,Option.bind_eq_bind,Option.pure_def]at hr;cases hb:f b with
  |none=>grind
  |some c=>
   cases zk:l.mapM f with
   |none=>grind
   |some cs=>
    simp[hb,zk]at hr;subst hr;simp[KG zk]
theorem Lg(hc:Dt P cx)(h:AU E s a.tmps W)(hv:Ad s v){t:TypeId}{x y:Operand}(ho:o.op=.store t x y){c:Loc}{g:Bool}{as:List LA}{ty:Ty}{fs wt:List Wr}(ht:cx.ty t=some ty)(h1:AQ s W (.Bm c) (a.eval x))(h2:BW s W (.v g as) (a.eval y))(hcp:∃q,c.p=[q])
  (hl:(s.C4 v c ty.ls.kinds as λws=>match o.dst with
   |none=>.go (fs++ws)
   |some _=>.none).leads wt):∃ws,wt=fs++ws/\Bc P E o a W.w (s.app ws):=by
 obtain⟨i,hi,zO,_⟩:=(hc t ty ht).info;obtain⟨p0,hp0⟩:=hcp;unfold St.C4 at hl;split at hl
 ·rename_i AA gen t0 e0 xs0 yr;split at hl
  ·rename_i zB;simp only[AAJ,AAT]at zB;obtain⟨rfl,zq⟩:=zB;obtain⟨vs,hl,zw,hvm,hvs⟩:=Ew h (g:=A5 g (a.eval y)) (λj b hj=>B8 h2 j b hj) hl
   have hroots:as.flatMap LA.roots=[]:=by
    have:∀l:List LA,l.all OG=true->l.flatMap LA.roots=[]:=by
     intro l
     induction l with
     |nil=>intro _;rfl
     |cons b l ih=>
      intro hb;simp only[List.all_cons,AAJ]at hb;rw[AAn,ih hb.2];cases b<;>first|rfl|cases hb.1
    exact this as zq
   have zR:=Bt h2 λj b hj=>by
    have zA:j<vs.length:=by rw[zw];exact(AAK.1 hj).1
    obtain⟨u,hu,hr⟩:=hvs j vs[j] (AAI zA);exact⟨u,hu,L.Dm _ hr⟩
   have hlen:vs.length=ty.ls.n:=by rw[<-A8,<-hvm];simp
   have hread:∀(m:Nat)(lv:Lv),vs[m]?=some lv->∃u,(a.eval y).cells.toList[m]?=some u/\lv.l.rd 0 W.w W.fz u lv.x []:=by
    intro m lv hm;obtain⟨u,hu,hr⟩:=hvs m lv hm;have zA:m<as.length:=by rw[<-zw];exact(AAK.1 hm).1
    have:=zR.2 m zA;rw[hu]at this;refine⟨u,No,L.AI lv.l hr (λ_ _=>rfl) λb hb=>?_⟩;rcases hb with hb|⟨r,hr,_⟩
    ·exact hb
    ·grind
   have zi:∀u∈(a.eval y).cells.toList,u.oneCell'=true:=by
    intro u hu;obtain⟨m,hm⟩:=AAq hu;have zA:m<vs.length:=by rw[zw,<-zR.1];simpa using(AAK.1 hm).1
    obtain⟨u',zG,hr⟩:=hread m vs[m] (AAI zA);rw[hm]at zG;injection zG with zG;subst zG
    exact L.Dm _ hr
   split at hl
   ·rename_i f hf;split at hl
    ·rename_i hdst;have hl:_=wt:=hl;obtain⟨q,i0,off,h',e',ad,n,k,hs,zW,hnav,hspot,hi0,hu⟩:=h1 gen _ _ _ _ yr (.inl No);rw[hp0]at hs;simp only[Aj,Option.some.injEq,Prod.mk.injEq]at hs;obtain⟨rfl,rfl,rfl⟩:=hs;obtain⟨rfl,rfl⟩:=hnav;obtain⟨u',zG,zE⟩:=(h.roots c.r).row yr;rw[zW]at zG;injection zG with zG;subst zG
     have hno:∀b∈W.om (.lf c.r c.j),¬W.fz b:=λb hb=>(h.sep.own _ b hb).1;rw[hp0]at hf;obtain⟨hsp,arr,T,fr,hh,zH,hbnd,yt,hput0⟩:=Lm No hread hi0 hf zE (h.sep.nodup _) hno;obtain⟨w',zF,zI⟩:=Db (P:=P) (o:=ad.off+(p0.1*e'.n+p0.2)) (a.eval y).cells.toList hh zH hbnd zi;have yu:=h.Jh hv yr zW (hput0 w' zI) (λb hb=>zI.CI b λe=>hb (e▸yt)) zI.size zI.rest;exact⟨_,hl.symm,DC ho hdst hu hi J (W':={ W with w:=w' }) zF yu⟩
    ·exact hl.elim
   ·exact hl.elim
  ·exact hl.elim
 ·exact hl.elim
theorem Gy(hc:Dt P cx)(h:AU E s a.tmps W)(hv:Ad s v){t:TypeId}{x y:Operand}(ho:o.op=.store t x y){q:LA}{g:Bool}{as:List LA}{ty:Ty}{fs wt:List Wr}(ht:cx.ty t=some ty)(h1:AQ s W q (a.eval x))(h2:BW s W (.v g as) (a.eval y))(hva:v∉(AV.v g as).AG)
  (hl:(GY cx v s o.dst q ty.ls.kinds as fs).leads wt):∃ws,wt=fs++ws/\Bc P E o a W.w (s.app ws):=by
 obtain⟨i,hi,zO,_⟩:=(hc t ty ht).info;unfold GY at hl;unfold St.GZ at hl;split at hl
 ·rename_i r j AA;split at hl
  ·rename_i zB;simp only[AAJ,AAT,AAf,A8]at zB;obtain⟨⟨hb,zC⟩,zb⟩:=zB;obtain⟨bs,us,os,hl,hblen,halen,hnd,hbx,zx,hbig,hbs⟩:=En (v:=v) h (g:=A5 g (a.eval y)) (λj b hj=>⟨λyt=>hva (AAL.2 ⟨b,AAN hj,yt⟩),B8 h2 j b hj⟩) hl;rw[A8]at halen;split at hl
   ·rename_i hdst;have hl:_=wt:=hl
    have zR:=Bt h2 λj b hj=>by
     have zA:j<bs.length:=by rw[hblen];exact(AAK.1 hj).1
     obtain⟨u,hu,hr⟩:=hbs j bs[j] (AAI zA);exact⟨u,hu,hr.1⟩
    obtain⟨_,ze⟩:=h.roots r;rw[AAP hb]at ze;obtain⟨_,arr,T,fr,hh,zH,hasz,_⟩:=ze
    have zi:∀u∈(a.eval y).cells.toList,u.oneCell'=true:=by
     intro u hu;obtain⟨m,hm⟩:=AAq hu;have zA:m<bs.length:=by rw[hblen,<-zR.1];simpa using(AAK.1 hm).1
     obtain⟨u',zG,hr⟩:=hbs m bs[m] (AAI zA);have:=zR.2 m J;rw[zG]at this;have h3:(a.eval y).cells[m]?=some u:=ADq
     rw[this]at h3;injection h3 with h3;subst h3;exact hr.1
    obtain⟨w',zF,zI⟩:=Db (P:=P) (o:=j) (a.eval y).cells.toList hh zH No zi
    obtain⟨W',hW',yu⟩:=h.KY hv (j:=j) hb (us:=us) (bs:=bs) (os:=os) (cells:=(a.eval y).cells.toList) No J
     (λm b hm=>by
      grind) zx (λm hm=>hbig m J) hh zI
    refine⟨_,hl.symm,?_⟩;exact DC ho hdst (h1 hb zC) hi J No yu
   ·exact hl.elim
  ·exact hl.elim
 ·rename_i c;split at hl
  ·rename_i zq;obtain⟨vs,hl,zw,hvm,hvs⟩:=Ew h (g:=A5 g (a.eval y)) (λj b hj=>B8 h2 j b hj) hl
   have zR:=Bt h2 λj b hj=>by
    have zA:j<vs.length:=by rw[zw];exact(AAK.1 hj).1
    obtain⟨u,hu,hr⟩:=hvs j vs[j] (AAI zA);exact⟨u,hu,L.Dm _ hr⟩
   have hlen:vs.length=ty.ls.n:=by rw[<-A8,<-hvm];simp
   have hplain:Plain W.w W.fz vs (a.eval y).cells.toList:=by
    refine⟨No,λm lv hm=>?_⟩
    have hns:Bx lv.l=false:=by
     have hmem:lv.l∈ty.ls.kinds:=by rw[<-hvm];exact AAt.2 ⟨lv,AAN hm,rfl⟩
     simpa using AAW.1 zq _ hmem
    obtain⟨u,hu,hr⟩:=hvs m lv hm;refine⟨hns,u,?_,λd w' yw=>(L.AZ lv.l hns hr).1⟩;have zA:m<as.length:=by rw[<-zw];exact(AAK.1 hm).1
    have:=zR.2 m zA;rw[hu]at this;simpa using this
   have zi:∀u∈(a.eval y).cells.toList,u.oneCell'=true:=by
    intro u hu;obtain⟨m,hm⟩:=AAq hu;have zA:m<vs.length:=by rw[<-hplain.1];exact(AAK.1 hm).1
    obtain⟨_,u',zG,hr⟩:=hplain.2 m vs[m] (AAI zA);rw[hm]at zG;injection zG with zG;subst zG
    exact L.Dm _ (hr 0 W.w W.fz)
   split at hl
   ·rename_i ws' hset;split at hl
    ·rename_i hdst;have hl:_=wt:=hl;unfold St.KS at hset;split at hset
     ·rename_i AA gen t0 e0 xs0 d0 yr;split at hset
      ·rename_i zB;simp only[AAJ,AAe,AAT,AAf]at zB;obtain⟨⟨⟨rfl,hg⟩,hd0⟩,hpl⟩:=zB;split at hset
       ·rename_i f hf;injection hset with hset
        subst hset;obtain⟨q,i0,off,h',e',ad,n,k,hs,zW,hnav,hspot,hi0,hu⟩:=h1 gen _ _ _ _ yr hg;obtain⟨u',zG,zE⟩:=(h.roots c.r).row yr;rw[zW]at zG;injection zG with zG;subst zG
        have hno:∀b∈W.om (.lf c.r c.j),¬W.fz b:=λb hb=>(h.sep.own _ b hb).1;obtain⟨hsp,arr,T,fr,hh,zH,hbnd,yt,hput0⟩:=LC hplain hi0 c.p q hf zE (h.sep.nodup _) hno hd0 hpl hs hnav;obtain⟨w',zF,zI⟩:=Db (P:=P) (o:=ad.off+(i0*e'.n+off)) (a.eval y).cells.toList hh zH hbnd zi;have yu:=h.Jh hv yr zW (hput0 w' zI) (λb hb=>zI.CI b λe=>hb (e▸yt)) zI.size zI.rest;exact⟨_,hl.symm,DC ho hdst hu hi J (W':={ W with w:=w' }) zF yu⟩
       ·cases hset
      ·cases hset
     ·cases hset
    ·exact hl.elim
   ·exact hl.elim
  ·split at hl
   ·rename_i p0 hp0;split at hl
    ·exact Lg hc h hv ho ht h1 h2 ⟨p0,hp0⟩ hl
    obtain⟨bs,us,os,hl,hblen,halen,hnd,hbx,zx,hbig,hbs⟩:=En (v:=v) h (g:=A5 g (a.eval y)) (λj b hj=>⟨λyt=>hva (AAL.2 ⟨b,AAN hj,yt⟩),B8 h2 j b hj⟩) hl;rw[A8]at halen;split at hl
    ·rename_i zq;split at hl
     ·rename_i lvs hlvs;have hlvs:bs.mapM FQ=some lvs:=hlvs;have hlen:lvs.length=bs.length:=KG hlvs;split at hl
      ·rename_i AA gen t0 e0 xs0 yr;split at hl
       ·rename_i zC;have zC:AA=c.AA:=by simpa using zC
        subst zC;split at hl
        ·rename_i f hf;split at hl
         ·rename_i hdst;have hl:_=wt:=hl
          have zR:=Bt h2 λj b hj=>by
           have zA:j<bs.length:=by rw[hblen];exact(AAK.1 hj).1
           obtain⟨u,hu,hr⟩:=hbs j bs[j] (AAI zA);exact⟨u,hu,hr.1⟩
          have zi:∀u∈(a.eval y).cells.toList,u.oneCell'=true:=by
           intro u hu;obtain⟨m,hm⟩:=AAq hu;have zA:m<bs.length:=by rw[hblen,<-zR.1];simpa using(AAK.1 hm).1
           obtain⟨u',zG,hr⟩:=hbs m bs[m] (AAI zA);have:=zR.2 m J;rw[zG]at this;have h3:(a.eval y).cells[m]?=some u:=ADq
           rw[this]at h3;injection h3 with h3;subst h3;exact hr.1
          obtain⟨q,i0,off,h',e',ad,n,k,hs,zW,hnav,hspot,hi0,hu⟩:=h1 gen _ _ _ _ yr (.inl No);rw[hp0]at hs;simp only[Aj,Option.some.injEq,Prod.mk.injEq]at hs;obtain⟨rfl,rfl,rfl⟩:=hs;obtain⟨rfl,rfl⟩:=hnav;obtain⟨u',zG,zE⟩:=(h.roots c.r).row yr;rw[zW]at zG;injection zG with zG;subst zG
          have hus:(c.r,c.j)∉us:=λyt=>No
          have hfromU:∀m,∀b∈os m,∃r j,(r,j)∈us/\b∈W.om (.lf r j):=by
           intro m b hb;by_cases hm:m<bs.length
           ·obtain⟨u,_,ht⟩:=hbs m bs[m] (AAI hm);exact ht.2.2.1 b hb
           ·grind
          have hk:Gc os (W.om (.lf c.r c.j)):=by
           refine⟨λm=>?_,zx,λm b hb zJ=>?_⟩
           ·by_cases hm:m<bs.length
            ·obtain⟨u,_,ht⟩:=hbs m bs[m] (AAI hm);exact ht.2.1
            grind
           ·obtain⟨r,j,yt,hb2⟩:=hfromU m b hb;exact h.sep.A4 (.lf r j) (.lf c.r c.j) (λe=>by grind) b hb2 zJ
          have hkz:∀m,∀b∈os m,¬W.fz b:=λm b hb=>by obtain⟨r,j,_,hb2⟩:=hfromU m b hb;exact(h.sep.own _ b hb2).1
          have hno:∀b∈W.om (.lf c.r c.j),¬W.fz b:=λb hb=>(h.sep.own _ b hb).1
          have hp:∀(m:Nat)(lv:Lv),lvs[m]?=some lv->∃u,(a.eval y).cells.toList[m]?=some u/\lv.l.rd 2 W.w W.fz u lv.x (os m):=by
           intro m lv hm;have zA:m<bs.length:=by rw[<-hlen];exact(AAK.1 hm).1
           obtain⟨y',hy',hy''⟩:=F3 hlvs m bs[m] (AAI zA);rw[hm]at hy'';injection hy'' with hy'';subst hy''
           obtain⟨u,hu2,ht⟩:=hbs m bs[m] (AAI zA);have:=zR.2 m J;rw[hu2]at this;exact⟨u,No,Iu ht hy'⟩
          rw[hp0]at hf;obtain⟨hsp,arr,T,fr,hh,zH,hbnd,yt,o',hnd',zv,hput0⟩:=Me No hp (λm hm=>hbig m J) hi0 hf zE (h.sep.nodup _) hno hk hkz;obtain⟨w',zF,zI⟩:=Db (P:=P) (o:=ad.off+(p0.1*e'.n+p0.2)) (a.eval y).cells.toList hh zH hbnd zi;have yu:=h.L4 hv yr zW hus yt (λb hb=>zI.CI b hb) zI.size zI.rest hnd' (λb hb=>(zv b hb).imp id λ⟨m,hb⟩=>hfromU m b hb) (hput0 w' zI);refine⟨_,hl.symm,?_⟩;exact DC ho hdst hu hi J (W':=Iv W w' c.r c.j o' us) zF yu
         ·exact hl.elim
        ·exact hl.elim
       ·exact hl.elim
      ·exact hl.elim
     ·exact hl.elim
    ·exact hl.elim
   ·exact hl.elim
 ·exact hl.elim
end
end Go.Ev
namespace Go.Ev
theorem Np{s:St}{r:Nat}(h:s.ro.length<=r):(s.root r).ls=[]:=by have:s.root r=dead:=Ay _ h;rw[this];rfl
theorem DT(s:St)(r j:Nat):∀(rs:Is)(a:LA),(a=s.leaf r j\/a=BD (s.leaf r j))->
  (rs.map λr=>(⟨r,0,(s.root r).ls.map BD⟩:Up)).foldl (λa u=>if r=u.r/\u.lo<=j/\j<u.lo+u.news.length then nth .bad u.news (j-u.lo)else a) a=if r∈rs then BD (s.leaf r j)else a
 | [],a,ha=>OF
 |x::rs,a,ha=>by
  simp only[ABK,List.foldl_cons,ABB,AAY,Nat.sub_zero];by_cases hx:r=x
  ·subst hx;rw[AAP AAg]
   have hstep:(if r=r/\0<=j/\j<(s.root r).ls.length then nth .bad ((s.root r).ls.map BD) j else a)=BD (s.leaf r j)\/(s.leaf r j=.bad/\(if r=r/\0<=j/\j<(s.root r).ls.length then nth .bad ((s.root r).ls.map BD) j else a)=a):=by
    by_cases hj:j<(s.root r).ls.length
    ·left;rw[AAP ⟨rfl,Nat.zero_le _,hj⟩];unfold St.leaf;rw[Ae,Ae,AAb,AAI hj];rfl
    ·right;exact⟨Ay _ (AAy hj),AAQ λhh=>hj hh.2.2⟩
   rcases hstep with h1|⟨h1,h2⟩
   ·rw[h1,DT s r j rs _ (.inr rfl)];split<;>rfl
   ·rw[h2];have ha':a=.bad:=by rcases ha with ha|ha<;>rw[ha,h1]<;>rfl
    rw[DT s r j rs a ha,ha',h1];split<;>rfl
  ·rw[AAQ (λhh=>hx hh.1),DT s r j rs a ha];simp[hx]
section
variable {P:Program}{E:Cy}{s:St}{W:Wd}{v:Nat}{tm:Array Value}{cx:Cx}
theorem Gl:∀ {rs:Is} {ws:List Wr},Ar cx s rs=some ws->ws=Ep ((rs.filter λr => !s.B3 r).map λr=>⟨r,0,(s.root r).ls.map BD⟩)
 | [],ws,h=>by injection h with h;exact h.symm
 |r::rs,ws,h=>by
  simp only[Ar]at h;split at h
  ·cases h
  ·split at h
   ·rename_i ws' hws;injection h with h;subst h
    rw[Gl hws];unfold DB;cases hs:s.B3 r with
    |true=>grind
    |false=>rw[List.filter_cons_of_pos (by simp[hs])];rfl
   ·cases h
theorem K2{r:Nat}(h:s.B3 r=true)(j:Nat):BD (s.leaf r j)=s.leaf r j:=by
 unfold St.leaf;rw[Ae];cases hq:(s.root r).ls[j]? with
 |none=>rfl
 |some a=>
  have:=AAW.1 h a (AAN hq);cases a with
  |arr v g t e xs d=>cases d with
   |zero=>rfl
   |succ d=>cases this
  |_=>rfl
structure Jo(s s':St)(W W':Wd)(rs:Is):Prop where
 same:Jr s s'
 w:W'.w=W.w
 cv:W'.cv=W.cv
 bk:W'.bk=W.bk
 leaf:∀r j,r∉rs->s'.leaf r j=s.leaf r j
 Ot:∀r j,s'.leaf r j=s.leaf r j\/s'.leaf r j=BD (s.leaf r j)
 om:∀r j,r∉rs->W'.om (.lf r j)=W.om (.lf r j)
 Pd:∀r,W'.om (.blk r)=W.om (.blk r)
 sub:∀k,∀b∈W'.om k,b∈W.om k
 up:∀b,W.fz b->W'.fz b
 fz:∀b,W'.fz b->Seen W rs b
theorem Ey(h:AU E s tm W)(hv:Ad s v){rs:Is}{ws:List Wr}(hf:Ar cx s rs=some ws):∃W',AU E (s.app ws) tm W'/\Jo s (s.app ws) W W' rs/\∀b,Seen W rs b->W'.fz b:=by
 rw[Gl hf]
 obtain⟨yx,yr⟩:=Ic ((rs.filter λr => !s.B3 r).map λr=>(⟨r,0,(s.root r).ls.map BD⟩:Up)) s λu hu=>by
  obtain⟨r,_,rfl⟩:=AAt.1 hu;refine⟨?_,OF⟩;rcases AAr r s.ro.length with zA|zu
  ·grind
  ·left;simp[Np zu]
 generalize s.app (Ep ((rs.filter λr => !s.B3 r).map λr=>(⟨r,0,(s.root r).ls.map BD⟩:Up)))=s' at yx yr
 have yr:∀r j,s'.leaf r j=if r∈rs then BD (s.leaf r j)else s.leaf r j:=λr j=>by
  rw[yr,DT s r j _ _ (.inl rfl)];by_cases hr:r∈rs
  ·rw[AAP hr];cases hst:s.B3 r with
   |true=>rw[AAQ λhm=>by have:=(List.mem_filter.1 hm).2;simp[hst]at this,K2 hst]
   |false=>rw[AAP (List.mem_filter.2 ⟨hr,by simp[hst]⟩)]
  grind
 let W':Wd:={
  w:=W.w
  fz:=Seen W rs
  cv:=W.cv
  bk:=W.bk
  om:=λk=>match k with
   | .lf r j=>if r∈rs then []else W.om (.lf r j)
   |k=>W.om k }
 have homf:∀r j,W'.om (.lf r j)=if r∈rs then []else W.om (.lf r j):=λ_ _=>rfl
 have zr:∀k,∀b∈W'.om k,b∈W.om k/\∀r∈rs,∀j,k≠.lf r j:=by
  intro k b hb;cases k with
  |lf r j=>
   grind
  |blk r=>grind
  |fl k=>grind
 have hsep:Sep E W':={
  nodup:=by
   intro k;cases k with
   |lf r j=>rw[homf];split;exact AAR;exact h.sep.nodup _
   |blk r=>exact h.sep.nodup _
   |fl k=>exact h.sep.nodup _
  A4:=λk k' zD b hb zJ=>h.sep.A4 k k' zD b (zr k b hb).1 (zr k' b zJ).1
  own:=λk b hb=>by
   obtain⟨h1,h2⟩:=zr k b hb;obtain⟨q1,q2,q3⟩:=h.sep.own k b h1;refine⟨?_,q2,q3⟩
   rintro (hz|⟨r,hr,j,hz⟩)
   ·exact q1 hz
   ·exact h.sep.A4 k (.lf r j) (h2 r hr j) b h1 hz
  fz:=λb hb=>by
   rcases hb with hz|⟨r,hr,j,hz⟩
   ·exact h.sep.fz b hz
   ·obtain⟨_,q2,q3⟩:=h.sep.own _ b hz;grind
  frame:=h.sep.frame
  size:=h.sep.size
  rest:=h.sep.rest }
 refine⟨W',?_,⟨yx,rfl,rfl,rfl,λr j hr=>No,λr j=>No,λr j hr=>No,λ_=>rfl,λk b hb=>(zr k b hb).1,λb hb=>.inl hb,λb hb=>hb⟩,λb hb=>hb⟩;refine h.Mf hv (W':=W') yx (λr _=>r∈rs) (λ_=>False) (λr j hr=>by grind) (λ_ _ _=>rfl) (λ_ _ hf=>hf.elim) (λ_=>rfl) (λr j hr=>by grind) (λ_=>rfl) (λ_ _=>rfl) (λb hb=>.inl hb) ?_ hsep ?_ (λ_ hf=>hf.elim)
 ·intro r j AA gen t e xs d hr hl zD;rw[yr,AAP hr]at hl;refine⟨rfl,?_⟩;cases hq:s.leaf r j with
  |arr ver0 gen0 t0 e0 xs0 d0=>
   rw[hq]at hl;simp only[BD,LA.arr.injEq]at hl;grind
  |_=>rw[hq]at hl;simp[BD]at hl
 ·intro zV r j hr;obtain⟨h1,_⟩:=h.roots r;have h1:Aa s W (s.leaf r j) (W.cv r j) (W.om (.lf r j)):=h1 j;have zw:=LA.D0 hv r j;rw[yr,AAP hr,homf,AAP hr];unfold Aa at h1 ⊢;cases hq:s.leaf r j with
  |arr ver0 gen0 t0 e0 xs0 d0=>
   rw[hq]at h1;obtain⟨u,hu,zE⟩:=h1;exact⟨u,hu,zE.freeze λb hb=>hb.elim .inl λhb=>.inr ⟨r,hr,j,hb⟩⟩
  |_=>
   rw[hq]at h1 zw;exact⟨rfl,λu hu=>AQ.Ds zV (zw.resolve_left (by simp[LA.CJ])) (h1.2 u hu)⟩
inductive PT where
 |none
 |box (r:Nat)
 |row (l:List (Option (Loc×Is)))
def PT.EL:PT->ADr
 | .none=>[]
 | .box r=>[(r,Option.none)]
 | .row l=>l.filterMap λo=>o.map λp=>(p.1.r,some p.1.j)
def NH(a b:Tg):Prop:=Tg.Di b a=false
def Fj(s:St)(W:Wd)(d:Nat)(a:LA)(o:Option (Loc×Is))(lv:Lv)(y:Value):Prop:=
 (Bx lv.l=false/\o=none/\lv.l.rd d W.w W.fz y lv.x []) \/
 ∃(c:Loc) (o':Is) (gen:Nat) (t:TypeId) (e:Ls) (xs:List e.D) (h:Value) (t':TypeId) (e':Ls) (ys:List e'.D),a=.ref c/\o=some (c,o')/\s.leaf c.r c.j=.arr c.AA gen t e xs d/\(c.p≠[]->d=2)/\W.cv c.r c.j=some h/\Jl W.w c.p e h e' y/\
  lv=⟨.sl t' e',ys⟩/\AD e' d W.w W.fz y ys o'/\(∀b∈o',b∈W.om (.lf c.r c.j))/\o'.Nodup
def HP(s:St)(W:Wd)(pm:PM)(av:AV)(tg:PT)(u:Value)(vs:List Lv):Prop:=match pm with
 | .val g ls=>tg=.none/\Gz W.w (Seen W av.roots) g (ls.map λl=>(l,0)) u vs λ_=>[]
 | .box ls=>∃r AA,av=.v false [.ptr r 0 AA]/\tg=.box r/\(s.root r).box=true/\(s.root r).ls.length=ls.length/\u=.pointer (some ⟨W.bk r,0,none⟩)/\vs.map (·.l)=ls.map (·.1)/\
   ∀(j:Nat)(p:L×Nat)(lv:Lv)(y:Value),ls[j]?=some p->vs[j]?=some lv->W.cv r j=some y->lv.l.rd p.2 W.w W.fz y lv.x (W.om (.lf r j))
 | .row g ls=>∃as l,av=.v g as/\tg=.row l/\as.length=ls.length/\l.length=ls.length/\vs.map (·.l)=ls.map (·.1)/\(match g with
   |true=>∃cs:Array Value,u=.agg cs/\cs.size=ls.length
   |false=>ls.length=1)/\∀(j:Nat)(p:L×Nat)(a:LA)(lv:Lv) (o:Option (Loc×Is)),ls[j]?=some p->as[j]?=some a->vs[j]?=some lv->l[j]?=some o->∃y,A5 g u j=some y/\Fj s W p.2 a o lv y
 | .fn f=>tg=.none/\u=.func (.func f) #[] #[]/\vs=[]
theorem Lz(h:AU E s tm W){β:Type}{t:β}{l:L}{d:Nat}{a:LA}{y:Value}(hy:AQ s W a y){k:Lv->ADr->Step β}(hl:(Jj s l d a k).leads t):
  ∃(lv:Lv) (o:Option (Loc×Is)),(k lv (PT.row [o]).EL).leads t/\lv.l=l/\Fj s W d a o lv y:=by
 have plain:Bx l=false->((s.Au l a λx=>k ⟨l,x⟩ []).leads t)->∃(lv:Lv) (o:Option (Loc×Is)),(k lv (PT.row [o]).EL).leads t/\lv.l=l/\Fj s W d a o lv y:=by intro hs hl;obtain⟨x,hl,hr⟩:=Bk h hy hl;exact⟨⟨l,x⟩,none,hl,rfl,.inl ⟨hs,rfl,(L.AZ l hs hr).1⟩⟩
 cases l with
 |int i=>exact plain rfl hl
 |bool=>exact plain rfl hl
 |str=>exact plain rfl hl
 |sl t0 e0=>
  cases a with
  |ref c=>
   replace hl:(if(match s.leaf c.r c.j with
    | .arr _ _ _ _ _ dd=>dd==d&&(isNil c.p||d==2)
    |_=>false)then s.Au (.sl t0 e0) (.ref c) λx=>k ⟨.sl t0 e0,x⟩ [(c.r,some c.j)]else Step.none).leads t:=hl
   cases hq:s.leaf c.r c.j with
   |arr AA gen t1 e1 xs dd=>
    simp only[hq]at hl;split at hl
    ·rename_i zB;simp only[AAJ,AAe,AAT]at zB;obtain⟨hdd,hp⟩:=zB;subst hdd;have hp2:c.p≠[]->dd=2:=λzD=>hp.resolve_left λhn=>zD (by cases hq:c.p<;>simp_all[isNil]);simp only[St.Au,St.content,hq]at hl;split at hl
     ·rename_i zC;simp only[AAJ,AAe,AAT]at zC;obtain⟨zC,hgen⟩:=zC;subst zC;have hgen:c.p=[]\/gen=c.gen:=hgen.imp (λhn=>by cases hq:c.p<;>simp_all[isNil]) id;obtain⟨h',e',zW,hn⟩:=hy gen _ _ _ _ hq hgen;obtain⟨u',zG,zE⟩:=(h.roots c.r).row hq;rw[zW]at zG;injection zG with zG;rw[<-zG]at zE
      obtain⟨t',ys,o',hl,hrd',zr,hnd⟩:=Ft c.p hl zE hn hp2 (h.sep.nodup _);split at hl
      ·rename_i x hx;obtain⟨q1,q2⟩:=L.AH hx;cases q1;have q2:ys=x:=q2;subst q2;exact⟨⟨.sl t0 e0,ys⟩,some (c,o'),hl,rfl,.inr ⟨c,o',gen,t1,e1,xs,h',t0,e0,ys,rfl,rfl,hq,hp2,zW,hn,rfl,hrd',zr,hnd⟩⟩
      ·exact hl.elim
     ·exact hl.elim
    ·exact hl.elim
   |_=>simp only[hq,ABP,if_false]at hl;exact hl.elim
  |_=>exact hl.elim
theorem IS(h:AU E s tm W){β:Type}{t:β}:∀(ls:List (L×Nat)) (as:List LA) (G:Nat->Option Value) {k:List Lv->ADr->Step β},(∀(j:Nat)(b:LA),as[j]?=some b->∃y,G j=some y/\AQ s W b y)->(E1 s ls as k).leads t->
  ∃(vs:List Lv) (l:List (Option (Loc×Is))),(k vs (PT.row l).EL).leads t/\as.length=ls.length/\l.length=ls.length/\vs.map (·.l)=ls.map (·.1)/\(PT.row l).EL.Pairwise NH/\
   ∀(j:Nat)(p:L×Nat)(a:LA)(lv:Lv) (o:Option (Loc×Is)),ls[j]?=some p->as[j]?=some a->vs[j]?=some lv->l[j]?=some o->∃y,G j=some y/\Fj s W p.2 a o lv y
 | [],[],G,k,hg,hl=>⟨[],[],hl,rfl,rfl,rfl,List.Pairwise.nil,λj p a lv o hp=>ADy⟩
 | [],_::_,G,k,hg,hl=>hl.elim
 |_::_,[],G,k,hg,hl=>hl.elim
 |(l,d)::ls,a::as,G,k,hg,hl=>by
  obtain⟨y,hy,hla⟩:=hg 0 a rfl;obtain⟨lv,o,hl,hlv,hrl⟩:=Lz h hla hl;obtain⟨vs,lo,hl,h1,h2,h3,h4,h5⟩:=IS h ls as (λj=>G (j+1)) (λj b hj=>hg (j+1) b No) hl;split at hl
  ·exact hl.elim
  ·rename_i hno
   have he:(PT.row (o::lo)).EL=(PT.row [o]).EL++(PT.row lo).EL:=by
    cases o<;>simp[PT.EL]
   refine⟨lv::vs,o::lo,by rw[he];exact hl,by simp[h1],by simp[h2],by simp[hlv,h3],?_,?_⟩
   ·rw[he,List.pairwise_append];refine⟨?_,h4,λx hx z hz=>?_⟩
    ·cases o<;>simp[PT.EL]
    ·show Tg.Di z x=false;cases hq:Tg.Di z x with
     |false=>rfl
     |true=>exact absurd (AA3.2 ⟨x,hx,AA3.2 ⟨z,hz,hq⟩⟩) hno
   grind
mutual
theorem L.CV:∀(l:L) {w:World} {fz:Nat->Prop} {v:Value} {x:l.D} {o:Is},l.rd 3 w fz v x o↔l.rd 2 w fz v x o
 | .int _,_,_,_,_,_=>Iff.rfl
 | .bool,_,_,_,_,_=>Iff.rfl
 | .str,_,_,_,_,_=>Iff.rfl
 | .sl _ e,w,fz,v,x,o=>by
  have hf:e.rd (dec 3) w fz=e.rd (dec 2) w fz:=by funext g y o;exact propext (Ls.CV e)
  exact iff_of_eq (congrArg (λR=>CD e.n R true w fz v x o) hf)
theorem Ls.CV:∀(ls:Ls) {w:World} {fz:Nat->Prop} {g:Nat->Option Value} {x:ls.D} {o:Is},ls.rd 3 w fz g x o↔ls.rd 2 w fz g x o
 | .nil,_,_,_,_,_=>Iff.rfl
 | .one l,w,fz,g,x,o=>exists_congr λv=>and_congr_right λ_=>L.CV l
 | .cons l ls,w,fz,g,x,o=>exists_congr λv=>exists_congr λo1=>exists_congr λo2=>and_congr_right λ_=>and_congr (L.CV l) (and_congr (Ls.CV ls) Iff.rfl)
end
theorem Jy(h:AU E s tm W){β:Type}{t:β}(r:Nat):∀(ls:List (L×Nat)) (as:List LA) (j:Nat) {k:List Lv->Step β},(∀i b,as[i]?=some b->s.leaf r (j+i)=b)->Ea ls as=true->(s.data (ls.map (·.1)) (BC r j as) k).leads t->
  ∃vs:List Lv,(k vs).leads t/\as.length=ls.length/\vs.map (·.l)=ls.map (·.1)/\∀(i:Nat)(p:L×Nat)(lv:Lv)(y:Value),ls[i]?=some p->vs[i]?=some lv->W.cv r (j+i)=some y->lv.l.rd p.2 W.w W.fz y lv.x (W.om (.lf r (j+i)))
 | [],[],j,k,hg,hd,hl=>⟨[],hl,rfl,rfl,λi p lv y hp=>ADy⟩
 | [],_::_,j,k,hg,hd,hl=>hl.elim
 |_::_,[],j,k,hg,hd,hl=>hl.elim
 |(l,m)::ls,b::as,j,k,hg,hd,hl=>by
  simp only[Ea,AAJ]at hd;obtain⟨hdb,hd⟩:=hd;have hb:s.leaf r j=b:=hg 0 b rfl;obtain⟨h1,_⟩:=h.roots r;have h1:Aa s W (s.leaf r j) (W.cv r j) (W.om (.lf r j)):=h1 j;rw[hb]at h1
  have fin:∀(x:l.D),(s.data (ls.map (·.1)) (BC r (j+1) as) λvs=>k (⟨l,x⟩::vs)).leads t->(∀y,W.cv r j=some y->l.rd m W.w W.fz y x (W.om (.lf r j)))->∃vs:List Lv,(k vs).leads t/\(b::as).length=((l,m)::ls).length/\vs.map (·.l)=((l,m)::ls).map (·.1)/\
    ∀(i:Nat)(p:L×Nat)(lv:Lv)(y:Value),((l,m)::ls)[i]?=some p->vs[i]?=some lv->W.cv r (j+i)=some y->lv.l.rd p.2 W.w W.fz y lv.x (W.om (.lf r (j+i))):=by
   intro x hl hx;obtain⟨vs,hl,hlen,hm,hvs⟩:=Jy h r ls as (j+1) (λi b hi=>by have:=hg (i+1) b ADm;grind) hd hl;refine⟨_,hl,by simp[hlen],by simp[hm],λi p lv y hp hlv hy=>?_⟩;cases i with
   |zero=>grind
   |succ i=>
    grind
  cases b with
  |arr AA gen t0 e xs d=>
   have hdm:d=m\/(m=3/\d=2):=by simpa using hdb
   have hl:(s.Au l (.ref ⟨r,j,AA,gen,[]⟩) λx=>s.data (ls.map (·.1)) (BC r (j+1) as) λvs=>k (⟨l,x⟩::vs)).leads t:=hl;simp only[St.Au,St.content,hb]at hl;rw[AAP (by simp[isNil])]at hl;simp only[Oo]at hl;split at hl
   ·rename_i x hx;obtain⟨q1,q2⟩:=L.AH hx;subst q1;have q2:xs=x:=q2;subst q2;refine fin xs hl λy hy=>?_;obtain⟨u,hu,zE⟩:=h1;rw[hy]at hu;injection hu with hu;subst hu
    rcases hdm with rfl|⟨rfl,rfl⟩
    ·exact zE
    ·exact(L.CV _).2 zE
   ·exact hl.elim
  |sc l0 x0=>
   have hl:(s.Au l (.sc l0 x0) λx=>s.data (ls.map (·.1)) (BC r (j+1) as) λvs=>k (⟨l,x⟩::vs)).leads t:=hl;simp only[St.Au]at hl;split at hl
   ·rename_i x hx;obtain⟨q1,q2⟩:=L.AH hx;subst q1;have q2:x0=x:=q2;subst q2;refine fin x0 hl λy hy=>?_;obtain⟨ho,zE⟩:=h1;have zE:l0.rd 0 W.w W.fz y x0 []:=zE y hy;rw[ho];simp only[AAe,AAU,AAT]at hdb;rcases hdb with hns|h0
    ·exact(L.AZ l0 hns zE).1
    grind
   ·exact hl.elim
  |_=>cases hdb
theorem Az:∀(ms:Is)(t:Nat),has ms t=true↔t∈ms
 | [],t=>by simp[has]
 |m::ms,t=>by show(m==t||has ms t)=true↔_;rw[AAe,Az ms t,AAd,AAT];grind
theorem JL(h:AU E s tm W){β:Type}{t:β}:∀(ps:List PM)(zT:List AV)(us:ADh) {k:List Lv->ADr->Step β},us.length=zT.length->(∀(i:Nat)(av:AV)(u:Value),zT[i]?=some av->us[i]?=some u->BW s W av u)->(Al s ps zT k).leads t->
  ∃(yv:List (List Lv)) (T:List PT),(k yv.flatten (T.flatMap PT.EL)).leads t/\zT.length=ps.length/\yv.length=ps.length/\T.length=ps.length/\(T.flatMap PT.EL).Pairwise NH/\
   ∀(i:Nat)(pm:PM)(av:AV)(u:Value)(vs:List Lv)(tg:PT),ps[i]?=some pm->zT[i]?=some av->us[i]?=some u->yv[i]?=some vs->T[i]?=some tg->HP s W pm av tg u vs
 | [],[],us,k,hlen,hav,hl=>⟨[],[],hl,rfl,rfl,rfl,List.Pairwise.nil,λi pm av u vs tg hp=>ADy⟩
 | [],_::_,us,k,hlen,hav,hl=>by simp[Al]at hl;exact hl.elim
 |pm::ps,[],us,k,hlen,hav,hl=>by cases pm<;>simp[Al]at hl<;>exact hl.elim
 |pm::ps,av::zT,[],k,hlen,hav,hl=>ADt
 |pm::ps,av::zT,u::us,k,hlen,hav,hl=>by
  have hu:BW s W av u:=hav 0 av u rfl rfl;have hav':∀(i:Nat)(av:AV)(u:Value),zT[i]?=some av->us[i]?=some u->BW s W av u:=λi av' u' h1 h2=>hav (i+1) av' u' No No;have zf:us.length=zT.length:=ADw
  have fin:∀(tg:PT)(vs:List Lv) {k':List Lv->ADr->Step β},(Al s ps zT k').leads t->HP s W pm av tg u vs->
    (∀(yv:List Lv)(T:List PT),(k' yv (T.flatMap PT.EL)).leads t->(k (vs++yv) (tg.EL++T.flatMap PT.EL)).leads t/\∀x∈tg.EL,∀z∈T.flatMap PT.EL,NH x z)->tg.EL.Pairwise NH->
    ∃(yv:List (List Lv)) (T:List PT),(k yv.flatten (T.flatMap PT.EL)).leads t/\(av::zT).length=(pm::ps).length/\yv.length=(pm::ps).length/\T.length=(pm::ps).length/\(T.flatMap PT.EL).Pairwise NH/\
     ∀(i:Nat)(pm':PM)(av':AV)(u':Value)(vs:List Lv)(tg:PT),(pm::ps)[i]?=some pm'->(av::zT)[i]?=some av'->(u::us)[i]?=some u'->yv[i]?=some vs->T[i]?=some tg->HP s W pm' av' tg u' vs:=by
   intro tg vs k' hl zh hk hpw;obtain⟨yv,T,hl,h1,h2,h3,h4,h5⟩:=JL h ps zT us zf hav' hl;obtain⟨hl,zt⟩:=hk _ _ hl;refine⟨vs::yv,tg::T,No,by simp[h1],by simp[h2],by simp[h3],?_,?_⟩
   ·grind
   ·grind
  cases pm with
  |val g ls=>
   cases av with
   |Dr vs=>simp only[Al]at hl;exact hl.elim
   |bx as=>simp only[Al]at hl;exact hl.elim
   |v g' as=>
    simp only[Al]at hl;split at hl
    ·rename_i hg;have hg:g=g':=by simpa using hg
     subst hg;have hu:E8 s W g as u:=hu;obtain⟨vs,hl,zw,hvm,hvs⟩:=Ew h (g:=A5 g u) (λj b hj=>B8 hu j b hj) hl;have hll:as.length=ls.length:=by rw[<-zw,<-hvm];simp
     refine fin .none vs hl ⟨rfl,by rw[hvm];simp[Function.comp_def],?_,?_⟩ (λyv T hk=>⟨hk,λx hx=>by cases hx⟩) List.Pairwise.nil
     ·cases g with
      |true=>obtain⟨cs,hcs,zO,_⟩:=hu;grind
      |false=>
       cases as with
       |nil=>exact hu.elim
       |cons b bs=>cases bs with
        |nil=>grind
        |cons=>exact hu.elim
     ·intro j p lv hp hlv;obtain⟨y,hy,hr⟩:=hvs j lv hlv;rw[AAb]at hp;cases hq:ls[j]? with
      |none=>grind
      |some l=>
       rw[hq]at hp;injection hp with hp;subst hp
       exact⟨y,hy,hr⟩
    ·exact hl.elim
  |box ls=>
   unfold Al at hl;split at hl<;>try exact hl.elim
   ·rename_i e1 _;cases e1
   ·rename_i e1 _;cases e1
   ·rename_i ls' ps' r AA vs' e1 e2;injection e1 with e1 e1';injection e1 with e1;subst e1;subst e1'
    injection e2 with e2 e2';subst e2;subst e2'
    split at hl
    ·rename_i zB;simp only[AAJ,AAT]at zB;obtain⟨⟨hb,zC⟩,hdeep⟩:=zB;obtain⟨vs,hl,hlen2,hvm,hvs⟩:=Jy h r ls (s.root r).ls 0 (λi b hi=>by unfold St.leaf;rw[AAY,Ae,hi];rfl) hdeep hl;refine fin (.box r) vs hl ⟨r,AA,rfl,rfl,hb,hlen2,hu hb zC,hvm,λj p lv y hp hlv hy=>?_⟩ ?_ (by simp[PT.EL])
     ·have:=hvs j p lv y hp hlv (by rw[AAY];exact hy);rwa[AAY]at this
     ·intro yv T hk;split at hk
      ·exact hk.elim
      ·rename_i hnot;refine⟨by simpa[PT.EL]using hk,λx hx z hz=>?_⟩;simp only[PT.EL,AA5]at hx;subst hx;show Tg.Di z (r,none)=false;cases hq:Tg.Di z (r,none)with
       |false=>rfl
       |true=>exact absurd (AA3.2 ⟨z,hz,hq⟩) hnot
    ·exact hl.elim
   all_goals grind
  |row g ls=>
   cases av with
   |Dr vs=>simp only[Al]at hl;exact hl.elim
   |bx as=>simp only[Al]at hl;exact hl.elim
   |v g' as=>
    simp only[Al]at hl;split at hl
    ·rename_i hg;have hg:g=g':=by simpa using hg
     subst hg;have hu:E8 s W g as u:=hu;obtain⟨vs,l,hl,h1,h2,h3,h4,h5⟩:=IS h ls as (A5 g u) (λj b hj=>B8 hu j b hj) hl;refine fin (.row l) vs hl ⟨as,l,rfl,rfl,h1,h2,h3,?_,h5⟩ ?_ h4
     ·cases g with
      |true=>obtain⟨cs,hcs,zO,_⟩:=hu;grind
      |false=>
       cases as with
       |nil=>exact hu.elim
       |cons b bs=>cases bs with
        |nil=>grind
        |cons=>exact hu.elim
     ·intro yv T hk;split at hk
      ·exact hk.elim
      ·rename_i hno;refine⟨hk,λx hx z hz=>?_⟩;show Tg.Di z x=false;cases hq:Tg.Di z x with
       |false=>rfl
       |true=>exact absurd (AA3.2 ⟨x,hx,AA3.2 ⟨z,hz,hq⟩⟩) hno
    ·exact hl.elim
  |fn f=>
   unfold Al at hl;split at hl<;>try exact hl.elim
   ·grind
   ·grind
   ·grind
   ·grind
   ·rename_i f' ps' g vs' e1 e2;injection e1 with e1 e1';injection e1 with q1;subst q1;subst e1'
    injection e2 with e2 e2';subst e2;subst e2'
    split at hl
    ·rename_i hfg;have hfg:f=g:=by simpa using hfg
     subst hfg;exact fin .none [] hl ⟨rfl,hu,rfl⟩ (λyv T hk=>⟨by simpa[PT.EL]using hk,λx hx=>by cases hx⟩) List.Pairwise.nil
    ·exact hl.elim
end
end Go.Ev
namespace Go.Ev
section
variable {P:Program}{E:Cy}{s:St}{W:Wd}{o:Oper}{a:Act}{ws:List Wr}{cx:Cx}{v:Nat}{tm:Array Value}
theorem Jo.H9{s':St}{W':Wd}{rs:Is}(h:Jo s s' W W' rs)(hv:Ad s v):Ad s' v:=by
 refine⟨λt=>?_,λr j=>?_,hv.2.2⟩
 ·have:s'.slot t=s.slot t:=by show nth _ s'.sl t=_;rw[h.same.sl];rfl
  rw[this];exact hv.1 t
 ·rcases h.Ot r j with e|e
  ·rw[e];exact hv.2.1 r j
  ·rw[e];have:=hv.2.1 r j;cases hq:s.leaf r j with
   |arr=>exact .inl rfl
   |_=>rw[hq]at this;exact this
theorem Mr{s s':St}(h:s'.sl=s.sl)(x:Operand):s'.Ao x=s.Ao x:=by
 cases x with
 |tmp t=>show nth _ s'.sl t=nth _ s.sl t;rw[h]
 |const c=>cases c<;>rfl
 |global g=>rfl
 |func f=>rfl
theorem Mq(hc:Dt P cx)(hft:MC P cx.env)(h:AU E s a.tmps W)(hv:Ad s v){t:TypeId}{x y:Operand}(ho:o.op=.store t x y)(hl:(AB cx v o s).leads ws):Bc P E o a W.w (s.app ws):=by
 simp only[AB,ho]at hl;have h1:=Ac h x;have h2:=BN h y;have hva:=F5 hv y;split at hl
 ·rename_i ty g as ht hy;rw[hy]at h2 hva;split at hl
  ·obtain⟨ws0,rfl,hg⟩:=Gy hc h hv ho ht h1 h2 hva hl;exact hg
  ·rename_i r rs hn;split at hl
   ·rename_i fs hfs;obtain⟨W1,hr1,fr,_⟩:=Ey h hv hfs;have e1:(s.app fs).Ai x=s.Ai x:=by unfold St.Ai;rw[Mr fr.same.sl]
    have e2:(s.app fs).Ao y=s.Ao y:=Mr fr.same.sl y;have k1:=Ac hr1 x;have k2:=BN hr1 y;rw[e1]at k1;rw[e2,hy]at k2;obtain⟨ws0,rfl,hg⟩:=Gy hc hr1 (fr.H9 hv) ho ht k1 k2 hva hl;rw[fr.w]at hg;rw[BA];exact hg
   ·exact hl.elim
 ·rename_i p ht;unfold IX at hl;generalize hy:s.Ao y=p at hl;split at hl
  ·rename_i g ps qs;split at hl
   ·rename_i hf;split at hl
    ·rename_i r j AA hx;split at hl
     ·rename_i hdst;split at hl
      ·rename_i zB;simp only[AAJ,AAT,AAf]at zB;obtain⟨⟨hb,zC⟩,zb⟩:=zB;have hl:_=ws:=hl;obtain⟨i,z,c,hi,zO,_⟩:=hft t hf;rw[hy]at h2 hva;have h2:AQ s W (.EM g ps qs) (a.eval y):=h2;rw[hx]at h1;have zi:(a.eval y).oneCell'=true:=by obtain⟨bs,hu,_⟩:=h2;rw[hu];rfl
       have zR:=cells_one zi;obtain⟨_,ze⟩:=h.roots r;rw[AAP hb]at ze;obtain⟨_,arr,T,fr,hh,zH,hasz,_⟩:=ze;obtain⟨w',zF,zI⟩:=Db (P:=P) (o:=j) (a.eval y).cells.toList hh zH (by rw[zR];simp;omega) (by rw[zR];intro u hu;simp at hu;subst hu;exact zi)
       obtain⟨W',hW',yu⟩:=h.KY hv (j:=j) hb (us:=[]) (bs:=[.EM g ps qs]) (os:=λ_=>[]) (cells:=(a.eval y).cells.toList) (by rw[zR];rfl) (by simpa using zb)
        (λm b hm=>by
         cases m with
         |zero=>
          simp at hm;subst hm;refine⟨a.eval y,by rw[zR];rfl,zi,AAR,(λb hb=>by cases hb),rfl,h2,λyt=>hva ?_⟩;simpa[AV.AG]using yt
         |succ m=>simp at hm) (λ_ _ _ b hb=>by cases hb) (λm hm=>rfl) hh zI
       have hws:ws=gone []++BE r j [.EM g ps qs]:=hl.symm;rw[hws];exact DC ho hdst (h1 hb zC) hi (by rw[zR,zO];rfl) (by rw[hW'];exact zF) yu
      ·exact hl.elim
     ·exact hl.elim
    ·exact hl.elim
   ·exact hl.elim
  ·exact hl.elim
 ·exact hl.elim
end
end Go.Ev
namespace Go.Ev
abbrev Ii:=List PT
theorem Tg.I1(a b:Tg):Tg.Di a b=Tg.Di b a:=by obtain⟨r,m⟩:=a;obtain⟨r',m'⟩:=b;unfold Tg.Di;grind
theorem E2{T:Ii}(hn:(T.flatMap PT.EL).Pairwise NH){i i':Nat}{p p':PT}(h:T[i]?=some p)(h':T[i']?=some p')(zD:i≠i'){x y:Tg}(hx:x∈p.EL)(hy:y∈p'.EL):Tg.Di x y=false:=by
 have hp:=(List.pairwise_flatMap.1 hn).2;rw[ABR]at hp;obtain⟨hi,rfl⟩:=AAK.1 h;obtain⟨hi',rfl⟩:=AAK.1 h';rcases ABN zD with zA|zA
 ·have:=hp i i' hi hi' zA x hx y hy;rw[Tg.I1];exact this
 ·exact hp i' i hi' hi zA y hy x hx
theorem IT{l:List (Option (Loc×Is))}{j:Nat}{c:Loc}{o:Is}(h:l[j]?=some (some (c,o))):(c.r,some c.j)∈(PT.row l).EL:=List.mem_filterMap.2 ⟨_,AAN h,rfl⟩
theorem L0{T:Ii}(hn:(T.flatMap PT.EL).Pairwise NH){i j j':Nat}{l:List (Option (Loc×Is))}{c c':Loc}{o o':Is}(h:T[i]?=some (.row l))(hj:l[j]?=some (some (c,o)))(hj':l[j']?=some (some (c',o')))(zD:j≠j'):¬(c.r=c'.r/\c.j=c'.j):=by
 have hp:=(List.pairwise_flatMap.1 hn).1 _ (AAN h);have hp:l.Pairwise λa b=>∀x,(a.map λp=>((p.1.r,some p.1.j):Tg))=some x->∀y,(b.map λp=>((p.1.r,some p.1.j):Tg))=some y->NH x y:=List.pairwise_filterMap.1 hp;rw[ABR]at hp;obtain⟨hi,e1⟩:=AAK.1 hj;obtain⟨hi',e2⟩:=AAK.1 hj'
 rintro ⟨q1,q2⟩
 have hh:Tg.Di (c.r,some c.j) (c'.r,some c'.j)=true:=by simp[Tg.Di,q1,q2]
 rcases ABN zD with zA|zA
 ·have:=hp j j' hi hi' zA (c.r,some c.j) (by rw[e1];rfl) (c'.r,some c'.j) (by rw[e2];rfl);rw[Tg.I1,show Tg.Di (c'.r,some c'.j) (c.r,some c.j)=false from this]at hh;cases hh
 ·have:=hp j' j hi' hi zA (c'.r,some c'.j) (by rw[e2];rfl) (c.r,some c.j) (by rw[e1];rfl);rw[show Tg.Di (c.r,some c.j) (c'.r,some c'.j)=false from this]at hh;cases hh
def AT(T:Ii):Key->Option Key
 | .blk i=>match T[i]? with
  |some (.box r)=>some (.blk r)
  |_=>none
 | .lf i j=>match T[i]? with
  |some (.box r)=>some (.lf r j)
  |some (.row l)=>match l[j]? with
   |some (some p)=>some (.lf p.1.r p.1.j)
   |_=>none
  |_=>none
 | .fl _=>none
theorem BK{T:Ii}{i:Nat}{a:Key}(h:AT T (.blk i)=some a):∃r,a=.blk r/\T[i]?=some (.box r):=by simp only[AT]at h;grind
theorem BH{T:Ii}{i j:Nat}{a:Key}(h:AT T (.lf i j)=some a):(∃r,a=.lf r j/\T[i]?=some (.box r))\/∃l c o,a=.lf c.r c.j/\T[i]?=some (.row l)/\l[j]?=some (some (c,o)):=by simp only[AT]at h;grind
theorem Ba{T:Ii}(hn:(T.flatMap PT.EL).Pairwise NH){k k' a:Key}(h:AT T k=some a)(h':AT T k'=some a):k=k':=by
 have hbb:∀ {i i' r:Nat},T[i]?=some (.box r)->T[i']?=some (.box r)->i=i':=by intro i i' r h h';refine AAp λzD=>?_;have:=E2 hn h h' zD (x:=(r,none)) (y:=(r,none)) (by simp[PT.EL]) (by simp[PT.EL]);simp[Tg.Di]at this
 cases k with
 |fl k=>cases h
 |blk i=>
  obtain⟨r,rfl,hT⟩:=BK h;cases k' with
  |fl k=>cases h'
  |blk i'=>
   obtain⟨r',e,zo⟩:=BK h';grind
  |lf i' j'=>rcases BH h' with⟨r',e,_⟩|⟨l,c,o,e,_⟩<;>cases e
 |lf i j=>
  cases k' with
  |fl k=>cases h'
  |blk i'=>
   obtain⟨r',e,zo⟩:=BK h';subst e;rcases BH h with⟨r',e,_⟩|⟨l,c,o,e,_⟩<;>cases e
  |lf i' j'=>
   rcases BH h with⟨r,rfl,hT⟩|⟨l,c,o,rfl,hT,hl⟩
   ·rcases BH h' with⟨r',e,zo⟩|⟨l',c',o',e,zo,hl'⟩
    ·grind
    ·injection e with e1 e2
     by_cases hi:i=i'
     ·grind
     ·have:=E2 hn hT zo hi (x:=(r,none)) (y:=(c'.r,some c'.j)) (by simp[PT.EL]) (IT hl');simp[Tg.Di,e1]at this
   ·rcases BH h' with⟨r',e,zo⟩|⟨l',c',o',e,zo,hl'⟩
    ·injection e with e1 e2
     by_cases hi:i=i'
     ·grind
     ·have:=E2 hn hT zo hi (x:=(c.r,some c.j)) (y:=(r',none)) (IT hl) (by simp[PT.EL]);simp[Tg.Di,e1]at this
    ·injection e with e1 e2
     by_cases hi:i=i'
     ·subst hi;rw[hT]at zo;injection zo with zo;injection zo with zo;subst zo
      by_cases hj:j=j'
      ·rw[hj]
      ·exact absurd ⟨e1,e2⟩ (L0 hn hT hl hl' hj)
     ·have:=E2 hn hT zo hi (x:=(c.r,some c.j)) (y:=(c'.r,some c'.j)) (IT hl) (IT hl');simp[Tg.Di,e1,e2]at this
theorem Bl(v:Nat):∀(ls:List (L×Nat)) (vs:List Lv),vs.length=ls.length->(AY v ls vs).length=ls.length
 | [],_,_=>by simp[AY]
 |_::_,[],h=>ADl
 |(_,m)::ls,x::xs,h=>by simp[AY,Bl v ls xs ADn]
theorem B7(v:Nat):∀(ls:List (L×Nat)) (vs:List Lv) (j:Nat) (p:L×Nat) (lv:Lv),ls[j]?=some p->vs[j]?=some lv->(AY v ls vs)[j]?=some (BR v p.2 lv)
 | [],_,j,p,lv,h,_=>ADl
 |_::_,[],j,p,lv,_,h=>ADl
 |(l,m)::ls,x::xs,0,p,lv,h1,h2=>by simp at h1 h2;subst h1;subst h2;simp[AY]
 |(l,m)::ls,x::xs,j+1,p,lv,h1,h2=>by simp[AY];exact B7 v ls xs j p lv No No
theorem DH(v:Nat):∀(ls:List (L×Nat)) (vs ws:List Lv),vs.length=ls.length->AY v ls (vs++ws)=AY v ls vs
 | [],vs,ws,h=>by cases vs<;>simp[AY]
 |_::_,[],_,h=>ADl
 |(l,m)::ls,x::xs,ws,h=>by simp[AY,DH v ls xs ws ADn]
theorem DE(s:St)(r v:Nat):∀(k:Nat) (ls:List (L×Nat)) (vs:List Lv),vs.length=ls.length->(AX s r v k ls vs).length=ls.length
 |_,[],_,_=>by simp[AX]
 |_,_::_,[],h=>ADl
 |k,(_,m)::ls,x::xs,h=>by simp[AX,DE s r v (k+1) ls xs ADn]
theorem CR(s:St)(r v:Nat):∀(k:Nat) (ls:List (L×Nat)) (vs:List Lv) (j:Nat) (p:L×Nat) (lv:Lv),ls[j]?=some p->vs[j]?=some lv->(AX s r v k ls vs)[j]?=some (Cp (s.leaf r (k+j)) v p.2 lv)
 |_,[],_,j,p,lv,h,_=>ADl
 |_,_::_,[],j,p,lv,_,h=>ADl
 |k,(l,m)::ls,x::xs,0,p,lv,h1,h2=>by simp at h1 h2;subst h1;subst h2;simp[AX]
 |k,(l,m)::ls,x::xs,j+1,p,lv,h1,h2=>by simp only[AX,AA1];rw[CR s r v (k+1) ls xs j p lv No No,Nat.add_right_comm];rfl
theorem EJ(s:St)(r v:Nat):∀(k:Nat) (ls:List (L×Nat)) (vs ws:List Lv),vs.length=ls.length->AX s r v k ls (vs++ws)=AX s r v k ls vs
 |_,[],vs,ws,h=>by cases vs<;>simp[AX]
 |_,_::_,[],_,h=>ADl
 |k,(l,m)::ls,x::xs,ws,h=>by simp[AX,EJ s r v (k+1) ls xs ws ADn]
theorem DD(a:LA)(v m:Nat)(x:Lv):Cp a v m x=BR v m x\/∃(AA gen:Nat) (t:TypeId) (e:Ls) (xs y:List e.D),m=3/\a=.arr AA gen t e xs 2/\x=⟨.sl t e,y⟩/\Cp a v m x=.arr AA v t e y 2:=by
 by_cases hm:m=3
 ·subst hm;cases a with
  |arr AA gen t e xs d=>
   by_cases hd:d=2
   ·subst hd;cases hq:L.cast (.sl t e) (a:=x.l) x.x with
    |none=>left;simp[Cp,hq]
    |some y=>
     right;refine⟨AA,gen,t,e,xs,y,rfl,rfl,?_,by simp[Cp,hq]⟩;obtain⟨l,x⟩:=x;obtain⟨q1,q2⟩:=L.AH hq;dsimp only at q1 q2;subst q1;have q2:x=y:=q2;rw[q2]
   ·left;have:(d==2)=false:=by simpa using hd
    simp[Cp,this]
  |_=>left;rfl
 ·left;have:(m==3)=false:=ADq
  simp[Cp,this]
section
variable {P:Program}{E:Cy}{s:St}{W:Wd}{v:Nat}{tm:Array Value}{cx:Cx}
theorem Fb{s':St}{W':Wd}{m:Nat}{lv:Lv}{y:Value}{o:Is}(h:lv.l.rd m W'.w W'.fz y lv.x o):Aa s' W' (BR v m lv) (some y) o:=by
 obtain⟨l,x⟩:=lv;cases l with
 |sl t e=>
  cases m with
  |zero=>exact⟨AD.zero h,λu hu=>by injection hu with hu;subst hu;have:=AD.zero h;subst this;exact h⟩
  |succ m=>exact⟨y,rfl,h⟩
 |int k=>
  obtain⟨h1,h2⟩:=L.AZ (.int k) rfl h (d':=0) (w':=W'.w) (yw:=W'.fz);subst h2;exact⟨rfl,λu hu=>by injection hu with hu;subst hu;exact h1⟩
 |bool=>
  obtain⟨h1,h2⟩:=L.AZ .bool rfl h (d':=0) (w':=W'.w) (yw:=W'.fz);subst h2;exact⟨rfl,λu hu=>by injection hu with hu;subst hu;exact h1⟩
 |str=>
  obtain⟨h1,h2⟩:=L.AZ .str rfl h (d':=0) (w':=W'.w) (yw:=W'.fz);subst h2;exact⟨rfl,λu hu=>by injection hu with hu;subst hu;exact h1⟩
theorem KL{m:Nat}{lv:Lv}{AA gen:Nat}{t:TypeId}{e:Ls}{xs:List e.D}{d:Nat}(h:BR v m lv=.arr AA gen t e xs d):AA=v/\gen=v:=by
 obtain⟨l,x⟩:=lv;cases l with
 |sl t0 e0=>cases m with
  |zero=>cases h
  |succ m=>
   have h:LA.arr v v t0 e0 x (m+1)=_:=h;grind
 |_=>cases h
def E7(s:St)(v:Nat)(ls:List (L×Nat))(as:List LA)(vs:List Lv)(j:Nat)(u:Up):Prop:=
 ∃(p:L×Nat) (c:Loc) (lv:Lv) (AA gen:Nat) (t0:TypeId) (e0:Ls) (xs0:List e0.D) (d0:Nat) (F:List e0.D->List e0.D),ls[j]?=some p/\Bx p.1=true/\as[j]?=some (.ref c)/\vs[j]?=some lv/\s.leaf c.r c.j=.arr AA gen t0 e0 xs0 d0/\H4 (OU lv) c.p t0 e0=some F/\
  u=⟨c.r,c.j,[.arr AA v t0 e0 (F xs0) d0]⟩
theorem E7.uniq{ls:List (L×Nat)}{as:List LA}{vs:List Lv}{j:Nat}{u u':Up}(h:E7 s v ls as vs j u)(h':E7 s v ls as vs j u'):u=u':=by
 obtain⟨p,c,lv,AA,gen,t0,e0,xs0,d0,F,h1,h2,h3,h4,h5,h6,rfl⟩:=h;obtain⟨p',c',lv',ver',gen',t0',e0',xs0',d0',F',g1,g2,g3,g4,g5,g6,rfl⟩:=h';rw[h3]at g3;injection g3 with g3;injection g3 with g3;subst g3
 rw[h4]at g4;injection g4 with g4;subst g4
 rw[h5]at g5;injection g5 with a1 a2 a3 a4 a5 a6
 subst a1;subst a3;subst a4;grind
def Kf(s:St)(v:Nat)(ls:List (L×Nat))(as:List LA)(vs:List Lv)(us:List Up):Prop:=
 (∀u∈us,∃j,E7 s v ls as vs j u)/\∀(j:Nat)(p:L×Nat),ls[j]?=some p->Bx p.1=true->∃u∈us,E7 s v ls as vs j u
theorem E7.succ{p:L×Nat}{a:LA}{lv:Lv}{ls:List (L×Nat)}{as:List LA}{vs:List Lv}{j:Nat}{u:Up}(h:E7 s v ls as vs j u):E7 s v (p::ls) (a::as) (lv::vs) (j+1) u:=by obtain⟨p,c,lv,AA,gen,t0,e0,xs0,d0,F,h1,h2,h3,h4,h5,h6,rfl⟩:=h;exact⟨p,c,lv,AA,gen,t0,e0,xs0,d0,F,No,h2,No,No,h5,h6,rfl⟩
theorem JC:∀(ls:List (L×Nat)) (as:List LA) (vs rest:List Lv) {ws:List Wr},vs.length=ls.length->putRow s v ls as (vs++rest)=some ws->∃us,ws=Ep us/\Kf s v ls as vs us
 | [],[],vs,rest,ws,hlen,h=>by simp only[putRow,Option.some.injEq]at h;subst h;exact⟨[],rfl,⟨λu hu=>(by cases hu),λj p hp=>ADy⟩⟩
 | [],_::_,vs,rest,ws,hlen,h=>by simp[putRow]at h
 |_::_,[],vs,rest,ws,hlen,h=>by simp[putRow]at h
 |_::_,_::_,[],rest,ws,hlen,h=>ADt
 |(l,d)::ls,a::as,x::vs,rest,ws,hlen,h=>by
  simp only[ABH,putRow]at h;split at h
  ·rename_i ws' hws;obtain⟨us,rfl,h1,h2⟩:=JC ls as vs rest No hws
   have plain:Bx l=false->some (Ep us)=some ws->∃us,ws=Ep us/\Kf s v ((l,d)::ls) (a::as) (x::vs) us:=by
    intro hs h;injection h with h
    refine⟨us,h.symm,λu hu=>?_,λj p hp hps=>?_⟩
    ·obtain⟨j,hj⟩:=h1 u hu;exact⟨j+1,hj.succ⟩
    ·cases j with
     |zero=>grind
     |succ j=>
      obtain⟨u,hu,hr⟩:=h2 j p No hps;exact⟨u,hu,hr.succ⟩
   cases l with
   |int i=>exact plain rfl h
   |bool=>exact plain rfl h
   |str=>exact plain rfl h
   |sl t e=>
    cases a with
    |ref c=>
     dsimp only at h;split at h
     ·rename_i AA gen t0 e0 xs0 d0 hq;split at h
      ·rename_i F hF;injection h with h
       have hu:E7 s v ((.sl t e,d)::ls) (.ref c::as) (x::vs) 0 ⟨c.r,c.j,[.arr AA v t0 e0 (F xs0) d0]⟩:=⟨_,c,x,AA,gen,t0,e0,xs0,d0,F,rfl,rfl,rfl,rfl,hq,hF,rfl⟩;refine⟨⟨c.r,c.j,[.arr AA v t0 e0 (F xs0) d0]⟩::us,?_,λu zG=>?_,λj p hp hps=>?_⟩
       ·rw[<-h];simp[Ep,BE]
       ·rcases AAd.1 zG with rfl|zG
        ·grind
        ·obtain⟨j,hj⟩:=h1 u zG;exact⟨j+1,hj.succ⟩
       ·cases j with
        |zero=>grind
        |succ j=>
         obtain⟨u,hu,hr⟩:=h2 j p No hps;exact⟨u,AAM _ hu,hr.succ⟩
      ·cases h
     ·cases h
    |_=>cases h
  ·cases h
def NJ(s:St)(v:Nat)(pm:PM)(av:AV)(vs:List Lv)(uo:List Up):Prop:=match pm with
 | .box ls=>∃r AA,av=.v false [.ptr r 0 AA]/\uo=[⟨r,0,AX s r v 0 ls vs⟩]
 | .row _ ls=>∃g as,av=.v g as/\Kf s v ls as vs uo
 |_=>uo=[]
theorem Gu:∀(ps:List PM)(zT:List AV) (yv:List (List Lv)) {ws:List Wr},yv.length=ps.length->(∀(i:Nat)(pm:PM)(vs:List Lv),ps[i]?=some pm->yv[i]?=some vs->vs.length=pm.outs.length)->AW s v ps zT yv.flatten=some ws->
  ∃U:List (List Up),ws=Ep U.flatten/\U.length=ps.length/\∀(i:Nat)(pm:PM)(av:AV)(vs:List Lv)(uo:List Up),ps[i]?=some pm->zT[i]?=some av->yv[i]?=some vs->U[i]?=some uo->NJ s v pm av vs uo
 | [],zT,[],ws,hlen,hv,h=>by
  cases zT with
  |nil=>simp[AW]at h;subst h;exact⟨[],rfl,rfl,λi pm av vs uo h1=>by simp at h1⟩
  |cons a as=>simp[AW]at h
 | [],zT,_::_,ws,hlen,hv,h=>ADt
 |_::_,zT,[],ws,hlen,hv,h=>ADt
 |pm::ps,zT,vs::yv,ws,hlen,hv,h=>by
  have zf:yv.length=ps.length:=ADw
  have hv':∀(i:Nat)(pm:PM)(vs:List Lv),ps[i]?=some pm->yv[i]?=some vs->vs.length=pm.outs.length:=λi pm' vs' h1 h2=>hv (i+1) pm' vs' No No;have h0:=hv 0 pm vs rfl rfl;cases zT with
  |nil=>cases pm<;>simp[AW]at h
  |cons av zT=>
   have fin:∀(uo:List Up) {ws':List Wr},AW s v ps zT yv.flatten=some ws'->ws=Ep uo++ws'->NJ s v pm av vs uo->
     ∃U:List (List Up),ws=Ep U.flatten/\U.length=(pm::ps).length/\∀(i:Nat)(pm':PM)(av':AV)(vs':List Lv)(uo:List Up),(pm::ps)[i]?=some pm'->(av::zT)[i]?=some av'->(vs::yv)[i]?=some vs'->U[i]?=some uo->NJ s v pm' av' vs' uo:=by
    intro uo ws' hp hw zh;obtain⟨U,h1,h2,h3⟩:=Gu ps zT yv zf hv' hp;refine⟨uo::U,?_,by simp[h2],?_⟩
    ·rw[hw,h1];simp[Ep]
    ·grind
   cases pm with
   |val g ls=>
    have hvs:vs=[]:=AAO (by simpa[PM.outs]using h0);subst hvs;simp only[AW,AAk,AA0]at h;exact fin [] h rfl rfl
   |fn f=>
    have hvs:vs=[]:=AAO (by simpa[PM.outs]using h0);subst hvs;simp only[AW,AAk,AA0]at h;exact fin [] h rfl rfl
   |box ls=>
    have zw:vs.length=ls.length:=by simpa[PM.outs]using h0
    simp only[AAk]at h;unfold AW at h;split at h<;>try cases h
    ·rename_i e1 _;cases e1
    ·rename_i e1 _;cases e1
    ·rename_i e1 _;cases e1
    ·rename_i ls' ps' r AA avs' e1 e2;injection e1 with e1 e1';injection e1 with e1;subst e1;subst e1'
     injection e2 with e2 e2';subst e2;subst e2'
     split at h
     ·rename_i ws' hws;injection h with h;subst h
      rw[<-zw,AA2]at hws;refine fin [⟨r,0,AX s r v 0 ls vs⟩] hws ?_ ⟨r,AA,rfl,rfl⟩;rw[EJ s r v 0 ls vs _ zw];simp[Ep]
     ·cases h
    grind
   |row g ls=>
    have zw:vs.length=ls.length:=by simpa[PM.outs]using h0
    simp only[AAk]at h;cases av with
    |Dr bs=>simp[AW]at h
    |bx bs=>simp[AW]at h
    |v g' as=>
     simp only[AW]at h;split at h
     ·rename_i us ws' hus hws;injection h with h;subst h
      rw[<-zw,AA2]at hws;obtain⟨uo,rfl,hr⟩:=JC ls as vs _ zw hus;exact fin uo hws rfl ⟨g',as,rfl,hr⟩
     ·cases h
theorem J7(r j:Nat):∀(us:List Up)(a:LA),(∀u∈us,¬(r=u.r/\u.lo<=j/\j<u.lo+u.news.length))->us.foldl (λa u=>if r=u.r/\u.lo<=j/\j<u.lo+u.news.length then nth .bad u.news (j-u.lo)else a) a=a
 | [],_,_=>rfl
 |u::us,a,h=>by rw[List.foldl_cons,AAQ (h u OF)];exact J7 r j us a λx hx=>h x (AAM _ hx)
theorem JO(r j:Nat){x:LA}:∀(us:List Up)(a:LA),(∀u∈us,r=u.r/\u.lo<=j/\j<u.lo+u.news.length->nth .bad u.news (j-u.lo)=x)->(a=x\/∃u∈us,r=u.r/\u.lo<=j/\j<u.lo+u.news.length)->
  us.foldl (λa u=>if r=u.r/\u.lo<=j/\j<u.lo+u.news.length then nth .bad u.news (j-u.lo)else a) a=x
 | [],a,h,he=>No
 |u::us,a,h,he=>by rw[List.foldl_cons];refine JO r j us _ (λy hy=>h y (AAM _ hy)) ?_;grind
def Fi(w:World)(fz:Nat->Prop)(v:Nat)(b:LA)(y:Value)(o:Is):Prop:=match b with
 | .arr AA gen t e xs m=>AA=v/\gen=v/\AD e m w fz y xs o
 | .bad=>o=[]
 |_=>False
theorem Jx{w:World}{fz:Nat->Prop}{d:Nat}{om:Nat->Is}:∀(ls:List (L×Nat)) (vs rest:List Lv) (off:Nat) (G:Nat->Option Value) {as rs:List LA} {left:List Lv},vs.length=ls.length->(∀(j:Nat)(p:L×Nat)(lv:Lv),ls[j]?=some p->vs[j]?=some lv->∃y,G j=some y/\lv.l.rd p.2 w fz y lv.x (om (off+j)))->
  Jw d v ls (vs++rest) off=some (as,rs,left)->left=rest/\as.length=ls.length/\∃ys:ADh,ys.length=ls.length/\rs.length=ls.length/\(∀k,k<ls.length->ys[k]?=G k)/\(∀(k:Nat)(b:LA),rs[k]?=some b->∃y,ys[k]?=some y/\Fi w fz v b y (om (off+k)))/\
   ∀(s':St)(W':Wd),W'.w=w->W'.fz=fz->(∀k,k<ls.length->s'.leaf d (off+k)=nth .bad rs k/\W'.cv d (off+k)=ys[k]?)->∀(k:Nat)(b:LA),as[k]?=some b->∃y,ys[k]?=some y/\AQ s' W' b y
 | [],vs,rest,off,G,as,rs,left,hlen,hv,h=>by have:vs=[]:=AAO hlen;subst this;simp only[Jw,AA0,Option.some.injEq,Prod.mk.injEq]at h;obtain⟨rfl,rfl,rfl⟩:=h;exact⟨rfl,rfl,[],rfl,rfl,(λk hk=>by simp at hk),(λk b hb=>by simp at hb),λs' W' _ _ _ k b hb=>by simp at hb⟩
 |_::_,[],rest,off,G,as,rs,left,hlen,hv,h=>ADt
 |(l,m)::ls,lv::vs,rest,off,G,as,rs,left,hlen,hv,h=>by
  obtain⟨l',x⟩:=lv;simp only[ABH,Jw]at h;split at h
  ·rename_i as' rs' left' hb
   obtain⟨h1,h2,ys,h3,h4,h5,h6,h7⟩:=Jx ls vs rest (off+1) (λj=>G (j+1)) No (λj p lv hp hlv=>by
    have:=hv (j+1) p lv No No;rwa[show off+(j+1)=off+1+j by omega]at this) hb
   obtain⟨y,hy,hr⟩:=hv 0 (l,m) ⟨l',x⟩ rfl rfl;dsimp only[Nat.add_zero]at hr
   have fin:∀(a b:LA),(some (a::as',b::rs',left')=some (as,rs,left))->Fi w fz v b y (om off)->(∀(s':St)(W':Wd),W'.w=w->W'.fz=fz->s'.leaf d off=b->W'.cv d off=some y->AQ s' W' a y)->
     left=rest/\as.length=((l,m)::ls).length/\∃ys:ADh,ys.length=((l,m)::ls).length/\rs.length=((l,m)::ls).length/\(∀k,k<((l,m)::ls).length->ys[k]?=G k)/\(∀(k:Nat)(b:LA),rs[k]?=some b->∃y,ys[k]?=some y/\Fi w fz v b y (om (off+k)))/\
      ∀(s':St)(W':Wd),W'.w=w->W'.fz=fz->(∀k,k<((l,m)::ls).length->s'.leaf d (off+k)=nth .bad rs k/\W'.cv d (off+k)=ys[k]?)->∀(k:Nat)(b:LA),as[k]?=some b->∃y,ys[k]?=some y/\AQ s' W' b y:=by
    intro a b he hown hla;injection he with he;injection he with e1 he;injection he with e2 e3
    subst e1;subst e2;subst e3;refine⟨h1,by simp[h2],y::ys,by simp[h3],by simp[h4],?_,?_,?_⟩
    ·grind
    ·grind
    ·intro s' W' hw hz hs k b' zJ;cases k with
     |zero=>
      simp at zJ;subst zJ;obtain⟨q1,q2⟩:=hs 0 OF;exact⟨y,rfl,hla s' W' hw hz q1 q2⟩
     |succ k=>
      obtain⟨y',hy',ho⟩:=h7 s' W' hw hz (λk hk=>by
       have:=hs (k+1) ADg;rw[show off+1+k=off+(k+1) by omega];exact⟨this.1.trans rfl,this.2.trans OF⟩) k b' (by simpa using zJ)
      grind
   cases l' with
   |sl t e=>
    cases m with
    |zero=>
     refine fin _ _ h (AD.zero hr) λs' W' hw hz _ _=>?_;have:=AD.zero hr;rw[this]at hr;show(L.sl t e).rd 0 W'.w W'.fz y x [];grind
    |succ m=>
     refine fin _ _ h ⟨rfl,rfl,hr⟩ λs' W' hw hz hl hc=>?_;intro gen t' e' zm d' hl' hp;exact⟨y,e',hc,rfl,rfl⟩
   |int k=>
    obtain⟨q1,q2⟩:=L.AZ (.int k) rfl hr (d':=0) (w':=w) (yw:=fz);rw[q2]at q1;exact fin _ _ h q2 λs' W' hw hz _ _=>by show(L.int k).rd 0 W'.w W'.fz y x [];grind
   |bool=>
    obtain⟨q1,q2⟩:=L.AZ .bool rfl hr (d':=0) (w':=w) (yw:=fz);rw[q2]at q1;exact fin _ _ h q2 λs' W' hw hz _ _=>by show L.bool.rd 0 W'.w W'.fz y x [];grind
   |str=>
    obtain⟨q1,q2⟩:=L.AZ .str rfl hr (d':=0) (w':=w) (yw:=fz);rw[q2]at q1;exact fin _ _ h q2 λs' W' hw hz _ _=>by show L.str.rd 0 W'.w W'.fz y x [];grind
  ·cases h
theorem NA{s':St}{W':Wd}{g:Bool}{ls:List (L×Nat)}{u:Value}{as:List LA}(hlen:as.length=ls.length)(hg:match g with
  |true=>∃cs:Array Value,u=.agg cs/\cs.size=ls.length
  |false=>ls.length=1) (h:∀(k:Nat)(b:LA),as[k]?=some b->∃y,A5 g u k=some y/\AQ s' W' b y):E8 s' W' g as u:=by
 cases g with
 |true=>
  obtain⟨cs,rfl,zO⟩:=hg;exact⟨cs,rfl,by rw[zO,hlen],h⟩
 |false=>
  match as,hlen with
  | [],h0=>dsimp only at hg;simp at h0;omega
  | [b],_=>
   obtain⟨y,hy,zh⟩:=h 0 b rfl;simp[A5]at hy;subst hy;exact zh
  |_::_::_,h0=>dsimp only at hg;simp at h0;omega
theorem Hc{w:World}{fz:Nat->Prop}{d:Nat}{om:Nat->Is}:∀(rs:List (Bool×List (L×Nat))) (rv:ADh) (vsR:List (List Lv)) (rest:List Lv) (off:Nat) {bs:List (Bool×List LA)} {own:List LA} {left:List Lv},EP w fz om rs rv vsR off->
  D6 d v rs (vsR.flatten++rest) off=some (bs,own,left)->left=rest/\bs.length=rv.length/\∃ys:ADh,ys.length=own.length/\(∀(k:Nat)(b:LA),own[k]?=some b->∃y,ys[k]?=some y/\Fi w fz v b y (om (off+k)))/\
   ∀(s':St)(W':Wd),W'.w=w->W'.fz=fz->(∀k,k<own.length->s'.leaf d (off+k)=nth .bad own k/\W'.cv d (off+k)=ys[k]?)->∀(i:Nat)(p:Bool×List LA)(u:Value),bs[i]?=some p->rv[i]?=some u->E8 s' W' p.1 p.2 u
 | [],[],[],rest,off,bs,own,left,hr,h=>by simp only[D6,List.flatten_nil,AA0,Option.some.injEq,Prod.mk.injEq]at h;grind
 | [],[],_::_,rest,off,bs,own,left,hr,h=>hr.elim
 | [],_::_,_,rest,off,bs,own,left,hr,h=>by simp[EP]at hr
 |_::_,[],_,rest,off,bs,own,left,hr,h=>by simp[EP]at hr
 |_::_,_::_,[],rest,off,bs,own,left,hr,h=>by simp[EP]at hr
 |(g,ls)::rs,u::rv,vs::vsR,rest,off,bs,own,left,hr,h=>by
  obtain⟨⟨hm,hg,hvs⟩,hr⟩:=hr;have zw:vs.length=ls.length:=by have:=congrArg List.length hm;simpa using this
  simp only[D6,AAk,List.append_assoc]at h;split at h
  ·rename_i as own1 vs1 hb;obtain⟨h1,h2,ys,h3,h4,h5,h6,h7⟩:=Jx ls vs (vsR.flatten++rest) off (A5 g u) zw hvs hb;subst h1;split at h
   ·rename_i bs' own2 left' zJ;injection h with h;injection h with e1 h;injection h with e2 e3
    subst e1;subst e2;subst e3;obtain⟨q1,q2,zs,q3,q4,q5⟩:=Hc rs rv vsR rest (off+ls.length) hr zJ;refine⟨q1,by simp[q2],ys++zs,No,?_,?_⟩
    ·grind
    ·intro s' W' hw hz hs i p u' hi zG;cases i with
     |zero=>
      simp at hi zG;subst hi;subst zG;refine NA h2 hg λk b hk=>?_;have zA:k<ls.length:=by rw[<-h2];exact(AAK.1 hk).1
      obtain⟨y,hy,zh⟩:=h7 s' W' hw hz (λk hk=>by
       obtain⟨a1,a2⟩:=hs k ADg;rw[a1,a2];refine⟨?_,?_⟩
       ·rw[Ae,Ae,ABA J]
       ·rw[ABA J]) k b hk
      grind
     |succ i=>
      refine q5 s' W' hw hz (λk hk=>?_) i p u' ADm (by simpa using zG);obtain⟨a1,a2⟩:=hs (ls.length+k) ADg;rw[show off+ls.length+k=off+(ls.length+k) by omega,a1,a2];refine⟨?_,?_⟩
      ·rw[Ae,Ae,ABO J];congr 2;omega
      grind
   ·cases h
  ·cases h
end
end Go.Ev
