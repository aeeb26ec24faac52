/- A plain evaluator for Go's loaded code,and that it is sound;part 2. Conditions: none. -/
import Derived.Test.YtccgnkaemdnniaaGreatLib1
import Derived.Laws.BytesArg
import Derived.Sort.Grow
import Derived.Deep.Draws
set_option linter.all false
namespace Go.Ev
theorem DG{P:Program}{w w':World}(t ty e:TypeId)(i:TypeInfo)(ht:P.underlying t=some (.slice e))(hi:P.info? e=some i)(b:Addr)(sLen sCap:Nat)(A:Option Addr)(n c:Nat)(news:List Value)
  (hf:(Builtin.firstCells i.size n (.slice A n c)).run P w=.ok news.toArray w) (uP:sLen+n≤sCap) (v7:(storeCells (b.add (sLen*i.size)) news).run P w=.ok () w'):
  (Builtin.append_ #[t,t] ty #[.slice (some b) sLen sCap,.slice A n c]).run P w=.ok (.slice (some b) (sLen+n) sCap) w':=by
 simp[Builtin.append_,run_underlying ht,sizeOf,typeInfo,hi,Builtin.lenOf,uP,hf,v7]
theorem Cs{P:Program}{w:World}(t ty e:TypeId)(i:TypeInfo)(ht:P.underlying t=some (.slice e))(hi:P.info? e=some i)(sCap:Nat)(A:Option Addr)(c:Nat)(news:List Value)
  (hf:(Builtin.firstCells i.size 0 (.slice A 0 c)).run P w=.ok news.toArray w):
  (Builtin.append_ #[t,t] ty #[.slice none 0 sCap,.slice A 0 c]).run P w=.ok (.slice none 0 sCap) w:=by
 simp[Builtin.append_,run_underlying ht,sizeOf,typeInfo,hi,Builtin.lenOf,hf]
theorem OV{t' t:TypeId}{e' e:Ls}{xs:List e'.D}{ys:List e.D}(h:L.cast (a:=.sl t' e') (.sl t e) xs=some ys):t'=t∧∃he:e'=e,∀(Q:(f:Ls)→List f.D→Prop),Q e' xs→Q e ys:=by obtain⟨h1,h2⟩:=L.AH h;cases h1;have h2:xs=ys:=h2;subst h2;exact⟨rfl,rfl,fun Q hq=>hq⟩
theorem DQ{α β:Type}:∀l:List α,(l.flatMap fun _=>([]:List β))=[]
 | []=>rfl
 |_::l=>by simp[DQ l]
section
variable {P:Program}{E:Cw}{s:St}{W:Wd}{o:Oper}{a:Act}{ws:List Wr}{cx:Cx}{v:Nat}
theorem MG(e:Ls)(m k:Nat)(hk:k<m):(madeCells (e.kinds.map CQ).toArray m)[k]?=some ((e.kinds.map CQ).toArray[k%e.n]!):=by simp[madeCells,hk,A9]
theorem MF(e:Ls)(hp:0<e.n)(n:Nat){d:Nat}{w:World}{fz:Nat→Prop}:CF e d w fz (fun k=>(madeCells (e.kinds.map CQ).toArray (n*e.n))[0+k]?) (List.replicate n (FZ e)) fun _=>[]:=by intro i hi;rw[List.getElem_replicate];refine Ls.F6 e fun j hj=>?_;simp only[AAW];rw[MG e _ _ (KZ (by simpa using hi) hj),Nat.mul_add_mod',Nat.mod_eq_of_lt hj];simp[A9,hj]
theorem JN(hc:Dr P cx)(h:AW E s a.tmps W)(hv:Ad s v){t:TypeId}{x y:Operand}(ho:o.op=.makeSlice t x y)(hd:∀d,o.dst=some d→d<a.tmps.size)(hl:(AB cx v o s).leads ws):Be P E o a W.w (s.app ws):=by
 simp only[AB,ho]at hl;split at hl
 ·rename_i ty d ht ua;split at hl
  ·exact hl.elim
  ·rename_i vd;split at hl
   ·rename_i t' e vf;obtain⟨kl,n,hx,hl⟩:=ES (Ac h x) hl;obtain⟨kc,m,hy,hl⟩:=ES (Ac h y) hl;rcases Ag hl with⟨hb,hl⟩|⟨_,hl⟩
    ·simp only[AAG,AAb]at hb;obtain⟨⟨h0,h1⟩,rfl⟩:=hb;obtain⟨uO,uD⟩:=(Cm hc ht vf (by simpa using vd):GQ P t (.sl t' e));obtain⟨i,hi,uC,yX,z,hz,wz⟩:=uD.info;have vc:m≤68719476736:=h1
     have tn:=run_make (P:=P) W.w t t' i z uO hi hz kl kc m m h0 (Int.le_refl _)
      (Int.le_trans (Int.mul_le_mul (show(i.bytes:Int)≤1024 by omega) vc h0 (by decide)) (by decide)) (by omega)
     rw[wz,uC]at tn
     obtain⟨W',vL,tT⟩:=h.Cq hv [] (hd d ua) (t0:=t') (e:=e) (xs:=List.replicate m.toNat (FZ e)) (dd:=2) (u:=.slice (some ⟨W.w.heap.size,0,none⟩) m.toNat m.toNat) (w':=W.w.alloc (.cells (madeCells (e.kinds.map CQ).toArray (m.toNat*e.n)) t')) (o:=[W.w.heap.size]) (Eh h _) (fun b hb _=>A7 _ _ (by have:=h.sep.size;omega)) (by rw[Aj];omega) ⟨rfl,rfl,rfl⟩
      (by
       have:=Gi (e:=e) (w:=W.w.alloc (.cells (madeCells (e.kinds.map CQ).toArray (m.toNat*e.n)) t')) (fz:=W.fz) (ad:=⟨W.w.heap.size,0,none⟩) (c:=m.toNat) (xs:=List.replicate m.toNat (FZ e)) (os:=fun _=>[])
        (heap_alloc_new _ _) rfl (by intro j _;simp) (by simp[size_madeCells]) (by simp) (MF e uD.pos m.toNat)
       simpa[DQ]using this) (by simp) (fun b hb=>by simp at hb;subst hb;exact .inr ⟨AAd _,by rw[Aj];omega⟩)
     have hl:_=ws:=hl;rw[←hl];refine Bg h ua ?_ vL tT;simp[execOp,ho,hx,hy,tn]
    ·exact hl.elim
   ·exact hl.elim
 ·exact hl.elim
def KP(P:Program)(s:St)(W:Wd)(e:Ls)(u:Value)(ys:List e.D)(us:List (Nat×Nat)):Prop:=
 ∃A c g os,u=.slice A ys.length c∧(A=none→ys=[])∧(∀ad,A=some ad→ys≠[]→ad.spot=none∧∀k,W.w.cell? (at_ ad k)=g k)∧CF e 2 W.w W.fz g ys os∧((List.range ys.length).flatMap os).Nodup∧
  (∀i,i<ys.length→∀b∈os i,∃r j,(r,j)∈us∧b∈W.om (.lf r j))∧us.Nodup
theorem JH(h:AW E s a.tmps W){la:LA}{u:Value}(hu:AR s W la u){t:TypeId}{e:Ls}{β:Type}{k:List e.D→List (Nat×Nat)→Step β}{z:β}(hl:(Ee cx s la t e k).leads z):
  ∃ys us,(k ys us).leads z∧KP P s W e u ys us:=by
 unfold Ee at hl;split at hl
 ·rename_i hf;obtain⟨ys,hl,hr⟩:=Bm h hu hl;refine⟨ys,[],hl,?_⟩;obtain⟨A,c,hv,hc,hn,uN⟩:=AD.KM (L.Kg.1 hr);cases A with
  |none=>
   have:ys=[]:=AAP (by have:=(hn rfl).1;omega);subst this;exact⟨none,c,fun _=>none,fun _=>[],hv,fun _=>rfl,(fun ad u9 _=>by cases u9),(fun i hi=>by simp at hi),by simp,(fun i hi=>by simp at hi),AAL⟩
  |some ad=>
   by_cases hc0:c=0
   ·have:ys=[]:=AAP (by omega);subst this;exact⟨some ad,c,fun _=>none,fun _=>[],hv,fun _=>rfl,(fun ad u9 tj=>absurd rfl tj),(fun i hi=>by simp at hi),by simp,(fun i hi=>by simp at hi),AAL⟩
   obtain⟨arr,T,fr,os,hs,hh,_,_,uD,_,_⟩:=uN ad rfl (.inl (by omega));refine⟨some ad,c,_,_,hv,(fun hA=>by cases hA),?_,CF.flat hf uD 2 W.w W.fz,by simp[DQ],(fun i hi b hb=>by cases hb),AAL⟩;intro zw u9 _;injection u9 with u9;subst u9
   exact⟨hs,fun k=>by simp[World.cell?,at_,hh]⟩
 ·split at hl
  ·rename_i c;split at hl
   ·rename_i AA gen t' e' xs d tR;split at hl
    ·rename_i tZ;simp only[AAG,AAS,AAT]at tZ;obtain⟨⟨⟨tc,hp⟩,wU⟩,hd⟩:=tZ;subst tc;subst hd;have hp:c.p=[]:=by cases hq:c.p<;>simp_all[isNil]
     split at hl
     ·rename_i ys hys;obtain⟨h1,h2⟩:=L.AH hys;cases h1;have h2:xs=ys:=h2;subst h2;obtain⟨h',e',uJ,hn⟩:=hu gen _ _ _ _ tR (.inl hp);rw[hp]at hn;obtain⟨rfl,rfl⟩:=hn;obtain⟨u',tu,te⟩:=(h.roots c.r).row tR;rw[uJ]at tu;injection tu with tu;subst tu
      refine⟨xs,_,hl,?_⟩;obtain⟨A,cc,hv,hc,hn,uN⟩:=te.KM;cases A with
      |none=>
       have:xs=[]:=AAP (by have:=(hn rfl).1;omega);subst this;exact⟨none,cc,fun _=>none,fun _=>[],hv,fun _=>rfl,(fun ad u9 _=>by cases u9),(fun i hi=>by simp at hi),by simp,(fun i hi=>by simp at hi),by simp⟩
      |some ad=>
       obtain⟨arr,T,fr,os,hs,hh,_,_,uD,ho,_⟩:=uN ad rfl (.inr (by decide));have ho:=ho (by decide);have ur:=h.sep.nodup (.lf c.r c.j);rw[ho]at ur;refine⟨some ad,cc,_,os,hv,(fun hA=>by cases hA),?_,uD,(AAY.1 ur).2,?_,by simp⟩
       ·intro zw u9 _;injection u9 with u9;subst u9
        exact⟨hs,fun k=>by simp[World.cell?,at_,hh]⟩
       ·intro i hi b hb;exact⟨c.r,c.j,by simp,by rw[ho];exact AAJ _ (AAI.2 ⟨i,AAR.2 hi,hb⟩)⟩
     ·exact hl.elim
    ·exact hl.elim
   ·exact hl.elim
  ·exact hl.elim
theorem LH{w:World}{fz:Nat→Prop}{v:Value}{xs:List Int}{d:Nat}{oo:List Nat}{t1 t2 t0:TypeId}(e1:P.underlying t1=some (.slice t0))(e2:P.underlying t2=some .string)(e0:P.underlying t0=some (.int .u8))
  (hr:AD (.one (.int .u8)) d w fz v xs oo):(convert t1 t2 v).run P w=.ok (.string ⟨(bytesOf xs).toArray⟩) w:=by
 obtain⟨A,c,hv,uW,vU,uN⟩:=hr.KM;have hv:v=.slice A (List.length (α:=Int) xs) c:=hv;have uW:List.length (α:=Int) xs≤c:=uW;rw[hv];cases A with
 |none=>
  obtain⟨hc0,_⟩:=vU rfl;have xm:xs=[]:=AAP (by omega);subst xm;rw[run_convert_bytes_nil w t1 t0 e1 e0 _ _ t2 e2];rfl
 |some ad=>
  by_cases wV:0<c
  ·obtain⟨arr,T,fr,os,hs,hh,uC,_,uD,_⟩:=uN ad rfl (.inl wV);obtain⟨b,off,sp⟩:=ad;dsimp only at hs hh uC uD;subst hs
   rw[run_convert_bytes_arg w t1 t0 e1 e0 b off (List.length (α:=Int) xs) c xs rfl (fun i hi=>by
    obtain⟨y,hy,yq⟩:=uD i hi;have hy:arr[off+(i*1+0)]?=some y:=hy;have zu:y=.int .u8 (xs[i]'hi):=yq.1;simp only[World.cell?,hh];simp only[Nat.mul_one,AAr]at hy;simp[hy,zu,List.getD,AAF hi]) t2 e2]
   rfl
  ·have xm:xs=[]:=AAP (by omega);subst xm;rw[run_convert_bytes_string w t1 t2 t0 (some ad) _ c e1 e0 e2]
   have:=run_bytesToString (P:=P) w ad 0 c [] (by
    have:=run_loadCells_list (P:=P) (w:=w) ad [] (fun j v hj=>by simp at hj);simpa using this)
   exact this
theorem Kb(hc:Dr P cx)(h:AW E s a.tmps W){t1 t2:TypeId}{x:Operand}(ho:o.op=.convert t1 t2 x)(hl:(AB cx v o s).leads ws):Be P E o a W.w (s.app ws):=by
 simp only[AB,ho]at hl;have h1:=Ac h x;generalize s.Ah x=p at hl h1;split at hl
 ·rename_i ta ty k0 n hta ht;split at hl
  ·exact hl.elim
  ·rename_i vd;split at hl
   ·rename_i k vf;rw[AN hl];have hu:P.underlying t2=some (.int k):=Cm hc ht vf (by simpa using vd)
    have hd:∃d,P.underlying t1=some d:=by
     cases hg:ta.agg with
     |true=>obtain⟨fs,ve,_⟩:=(hc _ _ hta).agg hg;exact⟨_,ve⟩
     |false=>obtain⟨l,_,vS⟩:=(hc _ _ hta).lone hg;obtain⟨d,hd,_⟩:=vS.JJ;exact⟨d,hd⟩
    obtain⟨d,hd⟩:=hd;refine AT h (u:=.int k (k.wrap n)) ?_ (Bk _ _);have e1:a.eval x=.int k0 n:=h1.1;simp only[execOp,ho,convert,Sem.run_bind,run_underlying hd,run_underlying hu,Result.andThen_ok,e1];simp[Conv.intToInt]
   ·exact hl.elim
 ·rename_i ta ty p hta ht xN;split at hl
  ·exact hl.elim
  ·rename_i vd;simp only[AAa,not_or,Bool.not_eq_true]at vd;obtain⟨zf,hg2⟩:=vd;split at hl
   ·rename_i t0 hls1 hls2;split at hl
    ·rename_i hu8;have e1:P.underlying t1=some (.slice t0):=(Cm hc hta hls1 zf).1;have e2:P.underlying t2=some .string:=Cm hc ht hls2 hg2
     have e0:P.underlying t0=some (.int .u8):=by
      unfold IW at hu8;split at hu8
      ·rename_i ty0 hty0;simp only[AAG,AAT]at hu8;exact Cm hc hty0 (Ls.Du hu8.2) hu8.1
      ·cases hu8
     obtain⟨xs,hl,hr⟩:=Bm h h1 hl;rw[AN hl];have tn:=LH e1 e2 e0 (xs:=xs) hr;refine AT h (u:=.string ⟨(bytesOf xs).toArray⟩) ?_ (Ki _);simp[execOp,ho,tn]
    ·exact hl.elim
   ·exact hl.elim
 ·exact hl.elim
end
end Go.Ev
namespace Go.Ev
section
variable {P:Program}{E:Cw}{s:St}{W:Wd}{o:Oper}{a:Act}{ws:List Wr}{cx:Cx}{v:Nat}{tm:Array Value}
theorem IZ(n m:Nat)(os ui:Nat→List Nat):((List.range (n+m)).flatMap fun i=>if i<n then os i else ui (i-n))=(List.range n).flatMap os++(List.range m).flatMap ui:=by
 rw[List.range_add,List.flatMap_append];congr 1
 ·rw[List.flatMap_def,List.flatMap_def];congr 1;refine List.map_congr_left fun i hi=>?_;rw[AAK (AAR.1 hi)]
 ·rw[List.flatMap_map,List.flatMap_def,List.flatMap_def];congr 1;refine List.map_congr_left fun i hi=>?_;rw[AAM (by omega)];congr 1;omega
theorem LF(h:AW E s tm W)(hv:Ad s v){t t0 ty:TypeId}{e:Ls}(uO:P.underlying t=some (.slice t0))(uD:Lr P t0 e){d:Nat}(hd:d<tm.size){ux uy:Value}{xs ys:List e.D}{us1 us2:List (Nat×Nat)}{o1:List Nat}
  (hx:AD e 2 W.w W.fz ux xs o1) (hn1:o1.Nodup) (vy:∀b∈o1,∃r j,(r,j)∈us1∧b∈W.om (.lf r j)) (hy:KP P s W e uy ys us2) (xp:∀x∈us1,x∉us2) (hlen:xs.length+ys.length≤Dh) (t1:TypeId):
  ∃u w',(Builtin.append_ #[t,t] ty #[ux,uy]).run P W.w=.ok u w'∧∃W',W'.w=w'∧AW E (s.app (gone (us1++us2)++ownRow d v t1 e (xs++ys))) (tm.setIfInBounds d u) W':=by
 obtain⟨i,hi,uC,yX,z,hz,wz⟩:=uD.info;have wV:=uD.pos;have uT:xs.length+ys.length≤68719476736:=hlen;obtain⟨A1,c1,hux,hc1,hA1,w4⟩:=hx.KM;obtain⟨A2,c2,g2,os2,huy,zz,w5,vm,hnd2,xT,hnus2⟩:=hy
 have vW:∀b∈o1,∀i,i<ys.length→b∉os2 i:=by
  intro b hb i hi th;obtain⟨r,j,hm,h1⟩:=vy b hb;obtain⟨r',j',vM,vc⟩:=xT i hi b th;by_cases he:(r,j)=(r',j')
  ·exact xp _ hm (by rw[he];exact vM)
  ·exact h.sep.A4 (.lf r j) (.lf r' j') (fun e=>he (by injection e with e1 e2;rw[e1,e2])) b h1 vc
 have zL:∀b∈(List.range ys.length).flatMap os2,∃i,i<ys.length∧b∈os2 i:=by intro b hb;obtain⟨i,hi,hb⟩:=AAI.1 hb;exact⟨i,AAR.1 hi,hb⟩
 have vI:∀b,(b∈o1∨b∈(List.range ys.length).flatMap os2)→∃r j,(r,j)∈us1++us2∧b∈W.om (.lf r j):=by
  intro b hb;rcases hb with hb|hb
  ·obtain⟨r,j,hm,h1⟩:=vy b hb;exact⟨r,j,AAQ _ hm,h1⟩
  ·obtain⟨i,hi,hb⟩:=zL b hb;obtain⟨r,j,hm,h1⟩:=xT i hi b hb;exact⟨r,j,AAO _ hm,h1⟩
 have tX:∀b,(∃r j,(r,j)∈us1++us2∧b∈W.om (.lf r j))→b<W.w.heap.size:=fun b ⟨r,j,_,hb⟩=>(h.sep.own _ b hb).2.1
 have xC:∃news:List Value,news.length=ys.length*e.n∧(∀k,k<ys.length*e.n→news[k]?=g2 k)∧(∀v∈news,v.oneCell'=true)∧
   (Builtin.firstCells i.size ys.length (.slice A2 ys.length c2)).run P W.w=.ok news.toArray W.w∧∀ad,A2=some ad→∀j u,news[j]?=some u→W.w.cell? (ad.add j)=some u:=by
  have uE:=vm.cell
  have vN:∀ad,A2=some ad→∀j u,(BW g2 (ys.length*e.n))[j]?=some u→W.w.cell? (ad.add j)=some u:=by
   intro ad u9 j u hj;have tX:j<ys.length*e.n:=by have:=(AAH.1 hj).1;rwa[AI]at this
   rw[Bi uE j tX]at hj;obtain⟨hs,hg⟩:=w5 ad u9 (fun h0=>by rw[h0]at tX;simp at tX);rw[EO hs,hg,hj]
  refine⟨BW g2 (ys.length*e.n),AI _ _,Bi uE,FM uE,?_,vN⟩;cases hA:A2 with
  |none=>
   have:=zz hA;subst this;rw[run_firstCells_none];simp[BW]
  |some ad=>exact run_firstCells_some W.w i.size ys.length ad ys.length c2 _ (by rw[AI,uC]) (vN ad hA)
 obtain⟨news,vT,yn,yk,xa,vK⟩:=xC;subst hux;subst huy
 have fresh:∀(os1:Nat→List Nat)(arr:Array Value)(cap:Nat),xs.length+ys.length≤cap→cap*e.n≤arr.size→CF e 2 W.w W.fz (fun k=>arr[k]?) xs os1→(∀k,k<ys.length*e.n→arr[xs.length*e.n+k]?=g2 k)→
   (∀b∈(List.range xs.length).flatMap os1,b∈o1)→((List.range xs.length).flatMap os1).Nodup→
   ∃W',W'.w=W.w.drew.alloc (.cells arr t0)∧AW E (s.app (gone (us1++us2)++ownRow d v t1 e (xs++ys))) (tm.setIfInBounds d (.slice (some ⟨W.w.heap.size,0,none⟩) (xs.length+ys.length) cap)) W':=by
  intro os1 arr cap ub uk v8 zt uX wT;have hold:∀b,b<W.w.heap.size→(W.w.drew.alloc (.cells arr t0)).heap[b]?=W.w.heap[b]?:=fun b hb=>A7 W.w.drew _ hb
  have vX:CF e 2 (W.w.drew.alloc (.cells arr t0)) W.fz (fun k=>arr[0+k]?) (xs++ys) fun i=>if i<xs.length then os1 i else os2 (i-xs.length):=by
   refine CF.append ?_ ?_
   ·refine CF.congr (g:=fun k=>arr[k]?) ?_ fun k _=>by simp only[AAW]
    refine v8.frame (fun b hb=>hold b ?_) fun _ hb=>hb;rcases hb with⟨i,hi,hb⟩|hb
    ·exact tX b (vI b (.inl (uX b (AAI.2 ⟨i,AAR.2 hi,hb⟩))))
    ·exact(h.sep.fz b hb).1
   ·refine CF.congr (g:=g2) ?_ fun k hk=>by simp only[AAW];exact zt k hk
    refine vm.frame (fun b hb=>hold b ?_) fun _ hb=>hb;rcases hb with⟨i,hi,hb⟩|hb
    ·obtain⟨r,j,hm,h1⟩:=xT i hi b hb;exact(h.sep.own _ b h1).2.1
    ·exact(h.sep.fz b hb).1
  have tY:=Gi (w:=W.w.drew.alloc (.cells arr t0)) (ad:=⟨W.w.heap.size,0,none⟩) (c:=cap) (fr:=(0,0)) (T:=t0) (heap_alloc_new W.w.drew _) rfl (by intro j _;simp) (by simpa using uk) (by simpa using ub) vX;rw[AA2,IZ]at tY;refine h.Cq hv (us1++us2) hd (t0:=t1) (fun b hb=>hold b ?_) (fun b hb _=>hold b (by have:=h.sep.size;omega)) (by show _≤(W.w.drew.alloc _).heap.size;rw[Aj];simp) ⟨rfl,rfl,rfl⟩ tY ?_ ?_
  ·rcases hb with hb|⟨k,_,hb⟩
   ·exact(h.sep.fz b hb).1
   ·exact(h.sep.own k b hb).2.1
  ·refine AAY.2 ⟨fun tS=>?_,AAV.2 ⟨wT,hnd2,fun x hx y hy e=>?_⟩⟩
   ·have:=tX _ (vI _ ((AAy.1 tS).imp (uX _) id));exact absurd this (Nat.lt_irrefl _)
   ·subst e;obtain⟨i,hi,hb⟩:=zL x hy;exact vW x (uX x hx) i hi hb
  ·intro b hb;rcases AAZ.1 hb with rfl|hb
   ·exact .inr ⟨AAd _,by show _<(W.w.drew.alloc _).heap.size;rw[Aj];simp⟩
   ·exact .inl (vI b ((AAy.1 hb).imp (uX b) id))
 cases A1 with
 |none=>
  obtain⟨rfl,rfl⟩:=hA1 rfl;have xm:xs=[]:=AAP (by omega);subst xm;cases ys with
  |nil=>
   refine⟨_,_,Cs t ty t0 i uO hi 0 A2 c2 news xa,?_⟩;exact h.Cq hv (us1++us2) hd (t0:=t1) (fun _ _=>rfl) (fun _ _ _=>rfl) (AAd _) ⟨rfl,rfl,rfl⟩ B1 AAL (fun b hb=>by cases hb)
  |cons y ys=>
   cases A2 with
   |none=>have:=zz rfl;cases this
   |some ad2=>
    refine⟨_,_,run_append_nil W.w t ty t0 i z uO hi hz ad2 (y::ys).length c2 news (by rw[vT,uC]) (vK ad2 rfl) (by simp) (by simp at uT ⊢;omega) (AAw (ABL (show _≤68719476736 by simp at uT ⊢;omega) yX) (by decide)),?_⟩;have uh:=grownCap_ge W.w (y::ys).length 0 t0
    have:=fresh (fun _=>[]) (news.toArray++Builtin.zeroCells z.cells (grownCap W.w (y::ys).length 0 t0-(y::ys).length)) (grownCap W.w (y::ys).length 0 t0) (by simpa using uh)
     (by
      have:(y::ys).length*e.n+(grownCap W.w (y::ys).length 0 t0-(y::ys).length)*e.n=grownCap W.w (y::ys).length 0 t0*e.n:=by rw[←AAk];congr 1;omega
      simp only[ABF,ABD,vT,Builtin.zeroCells,ABP,ABJ,wz,ABB,A9];omega) (fun i hi=>by simp at hi)
     (by
      intro k hk;rw[←yn k hk];simp only[List.length_nil,Nat.zero_mul,AAW];rw[AAl (by simpa[vT]using hk)];simp) (by simp) (by simp)
    simpa using this
 |some ad1=>
  obtain⟨arr,T,fr,os1,hs,hh,uP,uw,v8,xE,_⟩:=w4 ad1 rfl (.inr (by decide));have wQ:o1=ad1.block::(List.range xs.length).flatMap os1:=xE (by decide);have tw:=uw (by decide);clear xE uw w4;obtain⟨b1,uG,sp1⟩:=ad1;dsimp only at hs hh uP v8 wQ;subst hs;have wT:(b1::(List.range xs.length).flatMap os1).Nodup:=wQ▸hn1;by_cases ub:xs.length+ys.length≤c1
  ·
   have hmul:(xs.length+ys.length)*e.n≤c1*e.n:=AAm _ ub;rw[AAk]at hmul;obtain⟨w',v7,tz⟩:=DY (P:=P) (o:=uG+xs.length*e.n) news hh tw (by rw[vT];omega) yk;have vN:(⟨b1,uG,none⟩:Addr).add (xs.length*i.size)=⟨b1,uG+xs.length*e.n,none⟩:=by rw[uC];exact B7 _ _ _
   refine⟨_,_,DG t ty t0 i uO hi ⟨b1,uG,none⟩ xs.length c1 A2 ys.length c2 news xa ub (by rw[vN];exact v7),?_⟩;have vC:b1∈o1:=by rw[wQ];simp
   have tv:=CY news (uG+xs.length*e.n) arr (by rw[vT];omega)
   have vX:CF e 2 w' W.fz (fun k=>(CD news (uG+xs.length*e.n) arr)[uG+k]?) (xs++ys) fun i=>if i<xs.length then os1 i else os2 (i-xs.length):=by
    refine CF.append ?_ ?_
    ·refine CF.congr (g:=fun k=>arr[uG+k]?) ?_ fun k hk=>?_
     ·refine v8.frame (fun b hb=>tz.CL b ?_) fun _ hb=>hb
      rintro rfl
      rcases hb with⟨i,hi,hb⟩|hb
      ·exact(AAY.1 wT).1 (AAI.2 ⟨i,AAR.2 hi,hb⟩)
      ·obtain⟨r,j,_,h1⟩:=vy b vC;exact(h.sep.own _ b h1).1 hb
     ·rw[tv,AAM (by omega)]
    ·refine CF.congr (g:=g2) ?_ fun k hk=>?_
     ·refine vm.frame (fun b hb=>tz.CL b ?_) fun _ hb=>hb
      rintro rfl
      rcases hb with⟨i,hi,hb⟩|hb
      ·exact vW b vC i hi hb
      ·obtain⟨r,j,_,h1⟩:=vy b vC;exact(h.sep.own _ b h1).1 hb
     ·rw[←yn k hk,tv,AAK (by rw[vT];omega)];congr 1;omega
   have tY:=Gi (w:=w') (ad:=⟨b1,uG,none⟩) (c:=c1) tz.here rfl (by rw[Al];exact tw) (by rw[Al];exact uP) (by simpa using ub) vX;rw[AA2,IZ]at tY;refine h.Cq hv (us1++us2) hd (t0:=t1) (fun b hb=>tz.CL b ?_) (fun b hb w8=>tz.CL b ?_) (by rw[tz.size];exact AAd _) tz.rest tY ?_ ?_
   ·rintro rfl
    obtain⟨r,j,hm,h1⟩:=vy b vC;rcases hb with hb|⟨k,hk,hb⟩
    ·exact(h.sep.own _ b h1).1 hb
    ·by_cases hkk:k=.lf r j
     ·subst hkk;exact hk.2 (AAQ _ hm)
     ·exact h.sep.A4 k _ hkk b hb h1
   ·rintro rfl
    obtain⟨r,j,hm,h1⟩:=vy b vC;rcases(h.sep.own _ b h1).2.2 with h2|h2
    ·omega
    ·exact w8 h2
   ·refine AAY.2 ⟨fun tS=>?_,AAV.2 ⟨(AAY.1 wT).2,hnd2,fun x hx y hy e=>?_⟩⟩
    ·rcases AAy.1 tS with tS|tS
     ·exact(AAY.1 wT).1 tS
     ·obtain⟨i,hi,hb⟩:=zL _ tS;exact vW _ vC i hi hb
    ·subst e;obtain⟨i,hi,hb⟩:=zL x hy;exact vW x (by rw[wQ];exact AAJ _ hx) i hi hb
   ·intro b hb;rcases AAZ.1 hb with rfl|hb
    ·exact .inl (vI _ (.inl vC))
    ·exact .inl (vI b ((AAy.1 hb).imp (fun hx=>by rw[wQ];exact AAJ _ hx) id))
  ·
   cases A2 with
   |none=>have:=zz rfl;subst this;exact absurd hc1 (by simpa using ub)
   |some ad2=>
    have wE:=v8.cell;have zf:=Bi wE
    have holds:∀j u,(BW (fun k=>arr[uG+k]?) (xs.length*e.n))[j]?=some u→W.w.cell? ((⟨b1,uG,none⟩:Addr).add j)=some u:=by
     intro j u hj;have tX:j<xs.length*e.n:=by have:=(AAH.1 hj).1;rwa[AI]at this
     rw[zf j tX]at hj;rw[B7];simp only[World.cell?,hh];simpa using hj
    refine⟨_,_,run_append_grow W.w t ty t0 i z uO hi hz ⟨b1,uG,none⟩ xs.length c1 (BW (fun k=>arr[uG+k]?) (xs.length*e.n)) (by rw[AI,uC]) holds ad2 ys.length c2 news (by rw[vT,uC]) (vK ad2 rfl) (by omega) (by omega)
     (growslice_fits (by omega) (AAw (ABL uT yX) (by decide))),?_⟩
    have uh:=grownCap_ge W.w (xs.length+ys.length) c1 t0;refine fresh os1 _ _ uh ?_ ?_ ?_ (fun b hb=>by rw[wQ];exact AAJ _ hb) (AAY.1 wT).2
    ·have:xs.length*e.n+ys.length*e.n+(grownCap W.w (xs.length+ys.length) c1 t0-(xs.length+ys.length))*e.n=grownCap W.w (xs.length+ys.length) c1 t0*e.n:=by rw[←AAk,←AAk];congr 1;omega
     simp only[ABF,ABD,vT,AI,Builtin.zeroCells,ABP,ABJ,wz,ABB,A9];omega
    ·refine CF.congr v8 fun k hk=>?_;rw[←zf k hk];rw[AAl (by simp[AI];omega),AAl (by simp[AI];omega)];simp
    ·intro k hk;rw[←yn k hk];rw[AAl (by simp[AI,vT];omega),Array.getElem?_append_right (by simp[AI])];simp[AI]
end
end Go.Ev
namespace Go.Ev
theorem Hm:∀(vs:List Value)(off n:Nat)(arr:Array Value),(vs.zipIdx n).foldl (fun cs (p:Value×Nat)=>cs.setIfInBounds (off+p.2) p.1) arr=CD vs (off+n) arr
 | [],_,_,_=>rfl
 |v::vs,off,n,arr=>by rw[List.zipIdx_cons,List.foldl_cons,Hm vs off (n+1)];rfl
theorem Ig{place:Nat→Option (Nat×Nat)}{cells:Array Value}{i:Nat}{v:Value}{rest:List (Nat×Value)}{off size:Nat}(hp:place i=some (off,size))(hs:v.cells.size=size)(hl:off+size≤cells.size):
  Instr.fill place cells ((i,v)::rest)=Instr.fill place (CD v.cells.toList off cells) rest:=by
 have h1:(v.cells.zipIdx.foldl (fun cs (x:Value×Nat)=>match x with|(c,j)=>cs.setIfInBounds (off+j) c) cells)=CD v.cells.toList off cells:=by rw[←Array.foldl_toList,Array.toList_zipIdx];exact Hm _ off 0 cells
 simp only[Instr.fill,hp];rw[AAM (by simp[hs];omega)];rw[←h1]
theorem Fv{α β:Type}{f:α→Option β}:∀ {l:List α} {r:List β},l.mapM f=some r→∀(i:Nat)(x:α),l[i]?=some x→∃y,f x=some y∧r[i]?=some y
 | [],r,h,i,x,hx=>by simp at hx
 |a::l,r,h,i,x,hx=>by
  simp only[List.mapM_cons,Option.bind_eq_bind,Option.pure_def]at h;cases ha:f a with
  |none=>simp[ha]at h
  |some b=>
   cases hr:l.mapM f with
   |none=>simp[ha,hr]at h
   |some r'=>
    simp[ha,hr]at h;subst h;cases i with
    |zero=>simp at hx;subst hx;exact⟨b,ha,rfl⟩
    |succ i=>obtain⟨y,h1,h2⟩:=Fv hr i x (by simpa using hx);exact⟨y,h1,by simpa using h2⟩
theorem IM:∀(as:List LA)(ls:List LA)(j:Nat),(Ek ls j as).length=ls.length
 | [],_,_=>rfl
 |b::as,ls,j=>by rw[Ek,IM as,Ca]
theorem IL:∀(as:List LA)(ls:List LA)(o:Nat),o+as.length≤ls.length→∀k,(Ek ls o as)[k]?=if o≤k∧k<o+as.length then as[k-o]? else ls[k]?
 | [],ls,o,h,k=>by rw[Ek,AAM (by simp)]
 |v::r,ls,o,h,k=>by
  simp only[ABG]at h;rw[Ek,IL r _ (o+1) (by rw[Ca];omega) k,Bl,List.getElem?_set];by_cases h1:k=o
  ·subst h1;rw[AAM (by omega),AAK rfl,AAK (by omega),AAK (by simp)];simp
  ·by_cases h2:o+1≤k∧k<o+1+r.length
   ·rw[AAK h2,AAK (by simp;omega)];obtain⟨j,rfl⟩:∃j,k=o+1+j:=⟨k-(o+1),by omega⟩;rw[show o+1+j-(o+1)=j by omega,show o+1+j-o=j+1 by omega];rfl
   ·rw[AAM h2,AAM (fun e=>h1 e.symm),AAM (by simp;omega)]
section
variable {P:Program}{E:Cw}{s:St}{W:Wd}{o:Oper}{a:Act}{ws:List Wr}{cx:Cx}{v:Nat}
theorem NS(h:AW E s a.tmps W){b:LA}{u:Value}(hu:AR s W b u)(hs:s.sure b=true):u.oneCell'=true:=by
 cases b with
 |sc l x=>exact L.Dk l hu
 |DJ=>rw[show u=_ from hu];rfl
 |JI=>rw[show u=_ from hu];rfl
 |D9 e x off=>obtain⟨ad,_,_,_,_,hv,_⟩:=hu;rw[hv];rfl
 |fn f=>rw[show u=_ from hu];rfl
 |ptr r j AA=>
  simp only[St.sure,AAG,AAS]at hs;rw[hu hs.1 hs.2];rfl
 |ref c=>
  simp only[St.sure]at hs;split at hs
  ·rename_i AA gen t e xs d tR;simp only[AAG,AAa,AAS]at hs;obtain⟨tc,hp⟩:=hs;subst tc;have hp:c.p=[]∨gen=c.gen:=hp.imp (fun h=>by cases hq:c.p<;>simp_all[isNil]) id;obtain⟨h',e',uJ,hn⟩:=hu gen _ _ _ _ tR hp;obtain⟨u',tu,te⟩:=(h.roots c.r).row tR;rw[uJ]at tu;injection tu with tu;subst tu
   obtain⟨d',ys,o',hr,_⟩:=ML c.p te hn;exact L.Dk (.sl 0 e') hr
  ·cases hs
 |EF c lo hi=>
  simp only[St.sure]at hs;split at hs
  ·rename_i AA gen t e xs d tR;simp only[AAG,AAa,AAS]at hs;obtain⟨tc,hp⟩:=hs;subst tc;have hp:c.p=[]∨gen=c.gen:=hp.imp (fun h=>by cases hq:c.p<;>simp_all[isNil]) id;obtain⟨h',e',A,n,k,uJ,hn,_,_,hv⟩:=hu gen _ _ _ _ tR hp;rw[hv];rfl
  ·cases hs
 |Bn c=>obtain⟨ad,hv⟩:=HI hu hs;rw[hv];rfl
 |_=>cases hs
theorem Km(h:AW E s a.tmps W){g:Bool}{as:List LA}{u:Value}(hu:E4 s W g as u)(hs:(g||as.all s.sure)=true):u.cells.size=as.length∧∀(j:Nat)(b:LA),as[j]?=some b→∃y,u.cells[j]?=some y∧AR s W b y:=by
 refine I1 hu fun hg=>?_;subst hg;cases as with
 |nil=>exact hu.elim
 |cons b bs=>cases bs with
  |cons=>exact hu.elim
  |nil=>exact Er (NS h hu (by simpa using hs))
def IX(s:St)(W:Wd)(ls:List LA)(cells:Array Value):Prop:=cells.size=ls.length∧∀(j:Nat)(b:LA),ls[j]?=some b→∃u,cells[j]?=some u∧AR s W b u
theorem IX.Cb{ls as:List LA}{cells:Array Value}{u:Value}{off:Nat}(hb:IX s W ls cells)(hl:off+as.length≤ls.length)(hu:u.cells.size=as.length∧∀(j:Nat)(b:LA),as[j]?=some b→∃y,u.cells[j]?=some y∧AR s W b y):
  IX s W (Ek ls off as) (CD u.cells.toList off cells):=by
 refine⟨by rw[Al,IM,hb.1],fun j b hj=>?_⟩;rw[IL _ _ _ hl]at hj;rw[CY _ _ _ (by rw[hb.1];simp[hu.1];omega)];by_cases hc:off≤j∧j<off+as.length
 ·rw[AAK hc]at hj;rw[AAK (by simp[hu.1];omega)];obtain⟨y,hy,uU⟩:=hu.2 _ b hj;exact⟨y,by simpa using hy,uU⟩
 ·rw[AAM hc]at hj;rw[AAM (by simp[hu.1];omega)];exact hb.2 j b hj
theorem Jp(hc:Dr P cx)(h:AW E s a.tmps W){fs:List (Nat×TypeId)}{place:Nat→Option (Nat×Nat)}(wC:∀(i off:Nat)(t:TypeId),fs[i]?=some (off,t)→∃inf,P.info? t=some inf∧place i=some (off,inf.size)):
  ∀(parts:List (Nat×Operand)) {ls yN:List LA} {cells:Array Value},IX s W ls cells→Hj cx s fs parts ls=some yN→∃wc,Instr.fill place cells (parts.map fun p=>(p.1,a.eval p.2))=some wc∧IX s W yN wc
 | [],ls,yN,cells,hb,hl=>by
  injection hl with hl;subst hl
  exact⟨cells,rfl,hb⟩
 |(i,x)::ps,ls,yN,cells,hb,hl=>by
  simp only[Hj]at hl;have h1:=BF h x;generalize s.Ap x=p at hl h1;split at hl
  ·rename_i g as off t ve;split at hl
   ·rename_i tf htf;split at hl
    ·rename_i tZ;rw[Fw]at ve;obtain⟨inf,zO,hp⟩:=wC i off t ve;obtain⟨inf',xv,uC,_⟩:=(hc t tf htf).info;rw[zO]at xv;injection xv with xv;subst xv
     rw[AAG,AAG,AAS,AAb]at tZ;obtain⟨⟨hlen,wq⟩,hsure⟩:=tZ;have hu:=Km h h1 hsure;have th:=hb.Cb (off:=off) (by omega) hu;obtain⟨wc,hf,hb''⟩:=Jp hc h wC ps th hl;refine⟨wc,?_,hb''⟩;rw[ABK,Ig hp (by rw[hu.1,hlen,uC]) (by rw[hb.1,uC];exact wq)];exact hf
    ·cases hl
   ·cases hl
  ·cases hl
theorem Lp(l:L):AR s W (zeroOf l) (CQ l):=by
 cases l with
 |int k=>exact⟨rfl,rfl⟩
 |bool=>exact⟨rfl,rfl⟩
 |str=>exact⟨rfl,rfl⟩
 |sl t e=>exact rfl
theorem MQ(hc:Dr P cx)(h:AW E s a.tmps W){t:TypeId}{parts:Array (Nat×Operand)}(ho:o.op=.build t parts)(hl:(AB cx v o s).leads ws):Be P E o a W.w (s.app ws):=by
 simp only[AB,ho]at hl;split at hl
 ·rename_i ty ht;split at hl
  ·rename_i ls vf;rw[AN hl];split at vf
   ·rename_i vd;obtain⟨fs,ve,zK,pl,wC⟩:=(hc t ty ht).agg vd;obtain⟨i,hi,uC,z,hz,wz,_⟩:=(hc t ty ht).info
    have hplace:∀(i off:Nat)(t':TypeId),ty.fs[i]?=some (off,t')→∃inf,P.info? t'=some inf∧pl.toArray[i]?=some (off,inf.size):=by
     intro i off t' hq;rw[←zK,AAX]at hq;cases hf:fs.toList[i]? with
     |none=>rw[hf]at hq;cases hq
     |some f=>
      rw[hf]at hq;simp only[AA9,Option.some.injEq,Prod.mk.injEq]at hq;obtain⟨rfl,rfl⟩:=hq;obtain⟨y,h1,h2⟩:=Fv wC i f hf;cases zO:P.info? f.type with
      |none=>rw[zO]at h1;cases h1
      |some inf=>rw[zO]at h1;injection h1 with h1;subst h1;exact⟨inf,rfl,by simpa using h2⟩
    have hz0:IX s W (ty.ls.kinds.map zeroOf) z.cells:=by
     refine⟨by rw[wz];simp,fun j b hj=>?_⟩;rw[AAX]at hj;cases hk:ty.ls.kinds[j]? with
     |none=>rw[hk]at hj;cases hj
     |some l=>rw[hk]at hj;injection hj with hj;subst hj;exact⟨CQ l,by rw[wz];simp[hk],Lp l⟩
    obtain⟨cells,hf,hb⟩:=Jp hc h hplace parts.toList hz0 vf;refine AT h (u:=.agg cells) ?_ ⟨cells,rfl,hb.1,hb.2⟩
    have z9:P.built t (parts.map fun(i,x)=>(i,a.eval x)).toList=some cells:=by unfold Program.built;rw[hi,ve];simp only[hz,wC];rw[ABI];exact hf
    unfold execOp;simp only[ho,Sem.run_bind,run_build W.w t _ cells z9,Result.andThen_ok];rfl
   ·cases vf
  ·exact hl.elim
 ·exact hl.elim
end
end Go.Ev
namespace Go.Ev
theorem Dj:∀(ls:Ls) {d:Nat} {w:World} {fz:Nat→Prop} {g:Nat→Option Value} {x:ls.D} {os:Nat→List Nat},
  (∀(j:Nat)(lv:Lv),(unpack ls x)[j]?=some lv→∃u,g j=some u∧lv.l.rd d w fz u lv.x (os j))→ls.rd d w fz g x ((List.range ls.n).flatMap os)
 | .nil,_,_,_,_,_,_,_=>by simp only[Ls.rd,Ls.n];rfl
 | .one l,_,w,fz,g,x,os,h=>by
  simp only[Ls.rd,Ls.n];obtain⟨u,hu,hr⟩:=h 0 ⟨l,x⟩ rfl;have:List.flatMap os (List.range 1)=os 0:=by simp[List.range_succ]
  rw[this];exact⟨u,hu,hr⟩
 | .cons l ls,_,w,fz,g,x,os,h=>by simp only[Ls.rd,Ls.n];obtain⟨u,hu,hr⟩:=h 0 ⟨l,x.1⟩ rfl;have ih:=Dj ls (g:=fun j=>g (j+1)) (os:=fun j=>os (j+1)) fun j lv hj=>h (j+1) lv (by simpa[unpack]using hj);refine⟨u,os 0,_,hu,hr,ih,?_⟩;rw[Nat.add_comm,List.range_add,List.flatMap_append,List.flatMap_map];simp[List.range_succ,Nat.add_comm]
def FK(b:LA):Option Lv:=match b with
 | .arr _ _ t e xs 2=>some ⟨.sl t e,xs⟩
 | .sc l x=>if Bz l then none else some ⟨l,x⟩
 |_=>none
section
variable {P:Program}{E:Cw}{s:St}{W:Wd}{o:Oper}{a:Act}{ws:List Wr}{cx:Cx}{v:Nat}
theorem Ib{b:LA}{u:Value}{oo:List Nat}{us:List (Nat×Nat)}(ht:Jd s W v b u oo us){lv:Lv}(hb:FK b=some lv):lv.l.rd 2 W.w W.fz u lv.x oo:=by
 unfold FK at hb;split at hb
 ·injection hb with hb;subst hb
  exact ht.2.2.2.2.2
 ·split at hb
  ·cases hb
  ·rename_i l x hs;injection hb with hb;subst hb
   obtain⟨h1,h2,_⟩:=ht.2.2.2;subst h1;exact(L.AZ l (by simpa using hs) h2).1
 ·cases hb
def A5(g:Bool)(u:Value):Nat→Option Value:=fun j=>match g with
 |true=>u.cells[j]?
 |false=>if j=0 then some u else none
theorem CC{g:Bool}{as:List LA}{u:Value}(hu:E4 s W g as u)(j:Nat)(b:LA)(hj:as[j]?=some b):∃y,A5 g u j=some y∧AR s W b y:=by
 cases g with
 |true=>obtain⟨cs,wF,_,tv⟩:=hu;obtain⟨y,hy,uU⟩:=tv j b hj;exact⟨y,by simp only[A5,wF];exact hy,uU⟩
 |false=>
  cases as with
  |nil=>exact hu.elim
  |cons b' bs=>cases bs with
   |cons=>exact hu.elim
   |nil=>cases j with
    |zero=>simp at hj;subst hj;exact⟨u,by simp[A5],hu⟩
    |succ j=>simp at hj
theorem Bu{g:Bool}{as:List LA}{u:Value}(hu:E4 s W g as u)(h1:∀(j:Nat)(b:LA),as[j]?=some b→∃y,A5 g u j=some y∧y.oneCell'=true):u.cells.size=as.length∧∀j,j<as.length→u.cells[j]?=A5 g u j:=by
 cases g with
 |true=>obtain⟨cs,wF,uC,_⟩:=hu;subst wF;exact⟨uC,fun j _=>rfl⟩
 |false=>
  cases as with
  |nil=>exact hu.elim
  |cons b' bs=>cases bs with
   |cons=>exact hu.elim
   |nil=>
    obtain⟨y,hy,uV⟩:=h1 0 b' rfl;simp[A5]at hy;subst hy;rw[Er uV];refine⟨rfl,fun j hj=>?_⟩;have:j=0:=by simpa using hj
    subst this;simp[A5]
structure Mr(P:Program)(s:St)(W:Wd)(a:Act)(e:Ls)(ps:List (Nat×Operand))(n:Nat)(ys:List e.D)(us:List (Nat×Nat))(os:Nat→List Nat):Prop where
 len:ys.length=ps.length
 nodup:us.Nodup
 Og:∀i j,i≠j→∀b∈os i,b∉os j
 On:∀i,(os i).Nodup
 Ov:∀i,ys.length≤i→os i=[]
 OG:∀i,∀b∈os i,∃r j,(r,j)∈us∧b∈W.om (.lf r j)
 el:∀m (hm:m<ys.length),∃x,ps[m]?=some (n+m,x)∧(a.eval x).cells.size=e.n∧e.rd 2 W.w W.fz (fun j=>(a.eval x).cells[j]?) ys[m] (os m)
theorem EC{os:Nat→List Nat}(hn:∀i,(os i).Nodup)(hd:∀i j,i≠j→∀b∈os i,b∉os j):∀n,((List.range n).flatMap os).Nodup
 |0=>by simp
 |n+1=>by rw[List.range_succ,List.flatMap_append];refine AAV.2 ⟨EC hn hd n,by simpa using hn n,fun x hx y hy e=>?_⟩;obtain⟨i,hi,hx⟩:=AAI.1 hx;simp at hy;subst e;exact hd i n (Nat.ne_of_lt (AAR.1 hi)) x hx hy
theorem Hf(h:AW E s a.tmps W)(hv:Ad s v){e:Ls}{β:Type}{z:β}:∀(ps:List (Nat×Operand)) (n:Nat) {k:List e.D→List (Nat×Nat)→Step β},(Cl cx s v e ps n k).leads z→
  ∃ys us os,(k ys us).leads z∧Mr P s W a e ps n ys us os
 | [],n,k,hl=>⟨[],[],fun _=>[],hl,rfl,AAL,(fun _ _ _ b hb=>by cases hb),fun _=>AAL,fun _ _=>rfl,(fun _ b hb=>by cases hb),fun m hm=>by simp at hm⟩
 |(i,x)::ps,n,k,hl=>by
  simp only[Cl]at hl;split at hl
  ·rename_i hi;have hi:i=n:=by simpa using hi
   subst hi;have h1:=BF h x;have vt:=Fx hv x;generalize s.Ap x=p at hl h1 vt;split at hl
   ·rename_i g as;split at hl
    ·rename_i v5;obtain⟨vs,hl,ug,xl,vb⟩:=Es h (g:=A5 g (a.eval x)) (fun j b hj=>CC h1 j b hj) hl;split at hl
     ·rename_i y hy;obtain⟨ys,us,os,hl,uA⟩:=Hf h hv ps (i+1) hl;have wv:=Aw e vs y hy;have hen:as.length=e.n:=by rw[←ug,←wv,CE]
      have td:=Bu h1 fun j b hj=>by
       have tX:j<vs.length:=by rw[ug];exact(AAH.1 hj).1
       obtain⟨u,hu,hr⟩:=vb j vs[j] (AAF tX);exact⟨u,hu,L.Dk _ hr⟩
      have te:e.rd 0 W.w (Seen W (as.flatMap LA.roots)) (A5 g (a.eval x)) y []:=Bj e fun j lv hj=>by rw[wv]at hj;exact vb j lv hj
      have hrd2:=(Ls.AZ e v5 te (d':=2) (w':=W.w) (tW:=W.fz)).1;refine⟨y::ys,us,fun m=>match m with|0=>[]|m+1=>os m,hl,by simp[uA.len],uA.nodup,?_,?_,?_,?_,?_⟩
      ·intro i j xM b hb;cases i with
       |zero=>cases hb
       |succ i=>cases j with
        |zero=>simp
        |succ j=>exact uA.Og i j (fun e=>xM (by rw[e])) b hb
      ·intro i;cases i with
       |zero=>exact AAL
       |succ i=>exact uA.On i
      ·intro i hi;cases i with
       |zero=>simp at hi
       |succ i=>exact uA.Ov i (by simpa using hi)
      ·intro i b hb;cases i with
       |zero=>cases hb
       |succ i=>exact uA.OG i b hb
      ·intro m hm;cases m with
       |zero=>exact⟨x,rfl,by rw[td.1,hen],Ls.BD e hrd2 fun j hj=>td.2 j (by omega)⟩
       |succ m=>
        obtain⟨x',h1,h2,h3⟩:=uA.el m (by simpa using hm);exact⟨x',by simp only[AAx];rw[h1];congr 2;omega,h2,h3⟩
     ·exact hl.elim
    ·obtain⟨bs,vs,os0,hl,vR,wX,hvnd,_,hdis0,hbig0,vl⟩:=Ej (v:=v) h (g:=A5 g (a.eval x)) (fun j b hj=>⟨fun tS=>vt (AAI.2 ⟨b,AAN hj,tS⟩),CC h1 j b hj⟩) hl;split at hl
     ·rename_i lvs wk;have wk:bs.mapM FK=some lvs:=wk;split at hl
      ·rename_i y hy;obtain⟨ys,us,os,hl,uA⟩:=Hf h hv ps (i+1) hl;split at hl
       ·rename_i uZ
        have wD:∀x∈vs,x∉us:=by intro x hx hx';have:=AAU.1 uZ x hx;simp at this;exact this hx'
        have wv:=Aw e lvs y hy
        have hlen:lvs.length=bs.length:=by
         have:∀ {l:List LA} {r:List Lv},l.mapM FK=some r→r.length=l.length:=by
          intro l
          induction l with
          |nil=>intro r hr;simp at hr;subst hr;rfl
          |cons b l ih=>
           intro r hr;simp only[List.mapM_cons,Option.bind_eq_bind,Option.pure_def]at hr;cases hb:FK b with
           |none=>simp[hb]at hr
           |some c=>
            cases uS:l.mapM FK with
            |none=>simp[hb,uS]at hr
            |some r'=>simp[hb,uS]at hr;subst hr;simp[ih uS]
         exact this wk
        have hen:as.length=e.n:=by rw[←vR,←hlen,←wv,CE]
        have td:=Bu h1 fun j b hj=>by
         have tX:j<bs.length:=by rw[vR];exact(AAH.1 hj).1
         obtain⟨u,hu,hr⟩:=vl j bs[j] (AAF tX);exact⟨u,hu,hr.1⟩
        have te:e.rd 2 W.w W.fz (A5 g (a.eval x)) y ((List.range e.n).flatMap os0):=Dj e fun j lv hj=>by
         rw[wv]at hj;have tX:j<bs.length:=by rw[←hlen];exact(AAH.1 hj).1
         obtain⟨y',wN,wy⟩:=Fv wk j bs[j] (AAF tX);rw[hj]at wy;injection wy with wy;subst wy
         obtain⟨u,hu,ht⟩:=vl j bs[j] (AAF tX);exact⟨u,hu,Ib ht wN⟩
        have hnod0:∀j,(os0 j).Nodup:=by
         intro j;by_cases hj:j<bs.length
         ·obtain⟨u,_,ht⟩:=vl j bs[j] (AAF hj);exact ht.2.1
         ·rw[hbig0 j (by omega)];exact AAL
        have yd:∀b∈(List.range e.n).flatMap os0,∃r j,(r,j)∈vs∧b∈W.om (.lf r j):=by
         intro b hb;obtain⟨j,hj,hb⟩:=AAI.1 hb;have hj:j<bs.length:=by rw[vR,hen];exact AAR.1 hj
         obtain⟨u,_,ht⟩:=vl j bs[j] (AAF hj);exact ht.2.2.1 b hb
        have vW:∀i,∀b∈(List.range e.n).flatMap os0,b∉os i:=by
         intro i b hb th;obtain⟨r,j,hm,h1⟩:=yd b hb;obtain⟨r',j',vM,vc⟩:=uA.OG i b th;by_cases he:(r,j)=(r',j')
         ·exact wD _ hm (by rw[he];exact vM)
         ·exact h.sep.A4 (.lf r j) (.lf r' j') (fun e=>he (by injection e with e1 e2;rw[e1,e2])) b h1 vc
        refine⟨y::ys,vs++us,fun m=>match m with|0=>(List.range e.n).flatMap os0|m+1=>os m,hl,by simp[uA.len],?_,?_,?_,?_,?_,?_⟩
        ·exact AAV.2 ⟨hvnd,uA.nodup,fun x hx y hy e=>wD x hx (e▸hy)⟩
        ·intro i j xM b hb;cases i with
         |zero=>cases j with
          |zero=>exact absurd rfl xM
          |succ j=>exact vW j b hb
         |succ i=>cases j with
          |zero=>exact fun th=>vW i b th hb
          |succ j=>exact uA.Og i j (fun e=>xM (by rw[e])) b hb
        ·intro i;cases i with
         |zero=>exact EC hnod0 hdis0 e.n
         |succ i=>exact uA.On i
        ·intro i hi;cases i with
         |zero=>simp at hi
         |succ i=>exact uA.Ov i (by simpa using hi)
        ·intro i b hb;cases i with
         |zero=>obtain⟨r,j,hm,h1⟩:=yd b hb;exact⟨r,j,AAQ _ hm,h1⟩
         |succ i=>obtain⟨r,j,hm,h1⟩:=uA.OG i b hb;exact⟨r,j,AAO _ hm,h1⟩
        ·intro m hm;cases m with
         |zero=>exact⟨x,rfl,by rw[td.1,hen],Ls.BD e te fun j hj=>td.2 j (by omega)⟩
         |succ m=>
          obtain⟨x',h1,h2,h3⟩:=uA.el m (by simpa using hm);exact⟨x',by simp only[AAx];rw[h1];congr 2;omega,h2,h3⟩
       ·exact hl.elim
      ·exact hl.elim
     ·exact hl.elim
   ·exact hl.elim
  ·exact hl.elim
theorem FL{e:Ls}(f:Operand→Value):∀(ps:List (Nat×Operand)) (n:Nat) (arr:Array Value),(∀m x i,ps[m]?=some (i,x)→i=n+m∧(f x).cells.size=e.n)→(n+ps.length)*e.n≤arr.size→
  ∃u1,Instr.fill (fun i=>some (i*e.n,e.n)) arr (ps.map fun p=>(p.1,f p.2))=some u1∧u1.size=arr.size∧(∀k,k<n*e.n→u1[k]?=arr[k]?)∧∀m i x,ps[m]?=some (i,x)→∀j,j<e.n→u1[(n+m)*e.n+j]?=(f x).cells[j]?
 | [],n,arr,h,hs=>⟨arr,rfl,rfl,fun _ _=>rfl,fun m i x hm=>by simp at hm⟩
 |(i,x)::ps,n,arr,h,hs=>by
  obtain⟨hi,uC⟩:=h 0 x i rfl;simp only[AAr]at hi;subst hi;have zA:(i+(ps.length+1))*e.n≤arr.size:=by simpa using hs
  have uP:i*e.n+e.n≤arr.size:=by have h2:(i+1)*e.n≤(i+(ps.length+1))*e.n:=AAm _ (by omega);rw[AAk,ABR]at h2;omega
  have tv:=CY (f x).cells.toList (i*e.n) arr (by simp[uC];omega)
  obtain⟨u1,hf,uk,hlow,uD⟩:=FL f ps (i+1) (CD (f x).cells.toList (i*e.n) arr) (fun m y j hm=>by
   obtain⟨h1,h2⟩:=h (m+1) y j (by simpa using hm);exact⟨by omega,h2⟩) (by rw[Al,show i+1+ps.length=i+(ps.length+1) by omega];exact zA)
  refine⟨u1,?_,by rw[uk,Al],?_,?_⟩
  ·rw[ABK,Ig (off:=i*e.n) (size:=e.n) rfl uC uP];exact hf
  ·intro k hk;have:k<(i+1)*e.n:=by rw[AAk];omega
   rw[hlow k this,tv,AAM (by omega)]
  ·intro m j y hm q hq;cases m with
   |zero=>
    simp at hm;obtain⟨rfl,rfl⟩:=hm;simp only[AAr];have:i*e.n+q<(i+1)*e.n:=by rw[AAk];omega
    rw[hlow _ this,tv,AAK (by simp[uC];omega)];simp
   |succ m=>
    have:=uD m j y (by simpa using hm) q hq;rw[show i+(m+1)=i+1+m by omega];exact this
theorem Ef{P:Program}{w:World}{t t0:TypeId}{i:TypeInfo}{z:Value}{len:Nat}{parts:Array (Nat×Value)}{arr:Array Value}(ht:P.underlying t=some (.slice t0))(hi:P.info? t0=some i)(hz:i.zero=some z)
  (hlen:len*i.size≤16777216) (hf:Instr.fill (fun j=>some (j*i.size,i.size)) (madeCells z.cells (len*i.size)) parts.toList=some arr):
  (Instr.buildSlice t len parts).run P w=.ok (.slice (some ⟨w.heap.size,0,none⟩) len len) (w.alloc (.cells arr t0)):=by
 have n1:¬(16777216<len*i.size):=by omega
 by_cases hn:len*i.size=0
 ·rw[hn]at hf;have h0:madeCells z.cells 0 = #[]:=by simp[madeCells]
  rw[h0]at hf;simp[Instr.buildSlice,run_underlying ht,sizeOf,typeInfo,hi,n1,hn,hf,newRow,Array.range_zero']
 ·unfold madeCells at hf;simp[Instr.buildSlice,run_underlying ht,sizeOf,typeInfo,zeroValue,hi,hz,n1,hn,hf,newRow]
end
end Go.Ev
namespace Go.Ev
theorem JT{s:St}{r:Nat}(h:(s.root r).box=true):r<s.ro.length:=by
 rcases AAo r s.ro.length with tX|uh
 ·exact tX
 ·have:s.root r=dead:=Az _ uh;rw[this]at h;cases h
theorem G7{s:St}{r j AA gen:Nat}{t:TypeId}{e:Ls}{xs:List e.D}{d:Nat}(h:s.leaf r j=.arr AA gen t e xs d):r<s.ro.length∧j<(s.root r).ls.length:=by
 constructor
 ·rcases AAo r s.ro.length with tX|uh
  ·exact tX
  ·have:s.root r=dead:=Az _ uh;unfold St.leaf at h;rw[this]at h;cases j<;>cases h
 ·rcases AAo j (s.root r).ls.length with tX|uh
  ·exact tX
  ·unfold St.leaf at h;rw[Az _ uh]at h;cases h
theorem EA(r:Nat):∀(bs:List LA)(j:Nat)(s:St),(bs=[]∨r<s.ro.length)→j+bs.length≤(s.root r).ls.length→Jc s (s.app (BA r j bs))∧
  ∀r' j',(s.app (BA r j bs)).leaf r' j'=if r'=r∧j≤j'∧j'<j+bs.length then nth .bad bs (j'-j)else s.leaf r' j'
 | [],j,s,hr,hj=>⟨⟨rfl,rfl,fun _=>⟨rfl,rfl,rfl⟩⟩,fun r' j'=>by rw[AAM (by simp)];rfl⟩
 |b::bs,j,s,hr,hj=>by
  simp only[ABG]at hj;have hr:r<s.ro.length:=hr.resolve_left (by simp);have h1:=BH s r j b;obtain⟨h2,h3⟩:=EA r bs (j+1) (s.AF (.leaf r j b)) (by rw[h1.len];exact .inr hr) (by rw[(h1.box r).2.2];omega);refine⟨⟨h2.sl.trans h1.sl,h2.len.trans h1.len,fun x=>⟨(h2.box x).1.trans (h1.box x).1,(h2.box x).2.1.trans (h1.box x).2.1,(h2.box x).2.2.trans (h1.box x).2.2⟩⟩,fun r' j'=>?_⟩;show((s.AF (.leaf r j b)).app (BA r (j+1) bs)).leaf r' j'=_;rw[h3,Ec];by_cases xH:r'=r
  ·subst xH;by_cases hjj:j'=j
   ·subst hjj;rw[AAM (by omega),AAK ⟨rfl,rfl,hr,by omega⟩,AAK ⟨rfl,by omega,by simp⟩];simp[nth]
   ·by_cases tS:j+1≤j'∧j'<j+1+bs.length
    ·rw[AAK ⟨rfl,tS⟩,AAK ⟨rfl,by omega,by simp;omega⟩];obtain⟨k,rfl⟩:∃k,j'=j+1+k:=⟨j'-(j+1),by omega⟩;rw[show j+1+k-(j+1)=k by omega,show j+1+k-j=k+1 by omega];rfl
    ·rw[AAM (fun hh=>tS hh.2),AAM (fun hh=>hjj hh.2.1.symm),AAM (fun hh=>tS (by simp at hh;omega))]
  ·rw[AAM (fun hh=>xH hh.1),AAM (fun hh=>xH hh.1.symm),AAM (fun hh=>xH hh.1)]
section
variable {P:Program}{E:Cw}{s:St}{W:Wd}{o:Oper}{a:Act}{ws:List Wr}{cx:Cx}{v:Nat}{tm:Array Value}
theorem LA.Dy(hv:Ad s v)(r j:Nat):(s.leaf r j).CN=true∨v∉(s.leaf r j).AG:=hv.2.1 r j
theorem AW.KI(h:AW E s tm W)(hv:Ad s v){r j:Nat}(uR:(s.root r).box=true){us:List (Nat×Nat)}{bs:List LA}{os:Nat→List Nat}{cells:List Value}(hlen:cells.length=bs.length)(uP:j+bs.length≤(s.root r).ls.length)
  (vl:∀(i:Nat)(b:LA),bs[i]?=some b→∃u,cells[i]?=some u∧Jd s W v b u (os i) us) (uj:∀i j,i≠j→∀b∈os i,b∉os j) (vH:∀i,bs.length≤i→os i=[])
  {arr:Array Value} {T:TypeId} {fr:Nat×Nat} (yS:W.w.heap[W.bk r]?=some (.cells arr T fr)) {w':World} (tz:Mu W.w w' (W.bk r) (CD cells j arr) T fr):
  ∃W',W'.w=w'∧AW E (s.app (gone us++BA r j bs)) tm W':=by
 have hr:r<s.ro.length:=JT uR;obtain⟨_,wP⟩:=h.roots r;rw[AAK uR]at wP;obtain⟨wa,arr0,T0,fr0,hh,tw,uC,uJ⟩:=wP;rw[yS]at hh;injection hh with hh;injection hh with e1 e2 e3;subst e1;subst e2;subst e3
 have tv:=CY cells j arr (by omega)
 have u4:∀b,(W.fz b∨∃k,k≠.AX r∧b∈W.om k)→b≠W.bk r:=by
  rintro b hb rfl
  have h0:W.bk r∈W.om (.AX r):=by rw[wa];simp
  rcases hb with hb|⟨k,hk,hb⟩
  ·exact(h.sep.own _ _ h0).1 hb
  ·exact h.sep.A4 k _ hk _ hb h0
 have hw:∀b,(W.fz b∨∃k,k≠.AX r∧b∈W.om k)→w'.heap[b]?=W.w.heap[b]?:=fun b hb=>tz.CL b (u4 b hb);obtain⟨vB,xW⟩:=Dv s us;rw[BC];generalize w4:s.app (gone us)=s1 at vB xW;obtain⟨uQ,uM⟩:=EA r bs j s1 (by rw[vB.len];exact .inr hr) (by rw[(vB.box r).2.2];exact uP);generalize w5:s1.app (BA r j bs)=s' at uQ uM;have vr:s'.sl=s.sl:=uQ.sl.trans vB.sl
 have yW:∀r,(s'.root r).box=(s.root r).box∧(s'.root r).AA=(s.root r).AA∧(s'.root r).ls.length=(s.root r).ls.length:=fun r=>
  ⟨(uQ.box r).1.trans (vB.box r).1,(uQ.box r).2.1.trans (vB.box r).2.1,(uQ.box r).2.2.trans (vB.box r).2.2⟩
 have tR:∀r' j',s'.leaf r' j'=if r'=r∧j≤j'∧j'<j+bs.length then nth .bad bs (j'-j)else if(r',j')∈us then .bad else s.leaf r' j':=fun r' j'=>by rw[uM,xW]
 have hrol:s'.ro.length=s.ro.length:=uQ.len.trans vB.len;clear xW uM vB w4 w5
 let W':Wd:={
  w:=w'
  fz:=W.fz
  cv:=fun r' j'=>if r'=r then(CD cells j arr)[j']? else W.cv r' j'
  bk:=W.bk
  om:=fun k=>match k with
   | .lf r' j'=>if r'=r∧j≤j'∧j'<j+bs.length then os (j'-j)else if(r',j')∈us then []else W.om (.lf r' j')
   |k=>W.om k }
 have uf:∀i,∀b∈os i,∃r' j',(r',j')∈us∧b∈W.om (.lf r' j'):=by
  intro i b hb;by_cases hi:i<bs.length
  ·obtain⟨u,_,ht⟩:=vl i bs[i] (AAF hi);exact ht.2.2.1 b hb
  ·rw[vH i (by omega)]at hb;cases hb
 have xD:∀i,i<bs.length→∃u,cells[i]?=some u∧Jd s W v (nth .bad bs i) u (os i) us:=by intro i hi;have:=vl i bs[i] (AAF hi);rw[Ae,AAF hi];exact this
 have xR:∀r' j',¬(r'=r∧j≤j'∧j'<j+bs.length)→W'.cv r' j'=W.cv r' j':=by
  intro r' j' hn;by_cases xH:r'=r
  ·subst xH;show(if r'=r' then _ else _)=_;rw[AAK rfl,tv,AAM (fun hh=>hn ⟨rfl,hlen▸hh⟩),uJ]
  ·exact AAM xH
 have uH:EN v s s' W W':={
  fz:=fun b hb=>hb
  LN:=fun b hb=>hw b (.inl hb)
  leaf:=by
   intro r' j' AA gen t e xs d hl tj;rw[tR]at hl;by_cases tS:r'=r∧j≤j'∧j'<j+bs.length
   ·rw[AAK tS]at hl;obtain⟨u,_,ht⟩:=xD (j'-j) (by omega);rw[hl]at ht;exact absurd ht.2.2.2.1 tj
   ·rw[AAM tS]at hl;by_cases hm:(r',j')∈us
    ·rw[AAK hm]at hl;cases hl
    ·rw[AAM hm]at hl;refine⟨xR r' j' tS,gen,t,xs,d,hl,fun _=>⟨rfl,fun p h' e' u' hc hn=>?_⟩⟩;obtain⟨u0,uv,te⟩:=(h.roots r').row hl;rw[hc]at uv;injection uv with uv;subst uv
     exact BN p te hn fun b hb=>hw b (hb.elim (fun hb=>.inr ⟨.lf r' j',by simp,hb⟩) .inl)
  box:=fun r' hb tj=>⟨(yW r').1▸hb,(yW r').2.1.symm,rfl⟩ }
 have va:Sep E W':=by
  refine h.sep.IA (fun k=>∃r' j',k=.lf r' j'∧((r',j')∈us∨(r'=r∧j≤j'∧j'<j+bs.length))) rfl (by show _≤w'.heap.size;rw[tz.size];exact AAd _) ?_ tz.rest ?_ ?_ ?_ ?_
  ·intro b hb w8;refine tz.CL b ?_
   rintro rfl
   have h0:W.bk r∈W.om (.AX r):=by rw[wa];simp
   rcases(h.sep.own _ _ h0).2.2 with h2|h2
   ·omega
   ·exact w8 h2
  ·intro k hk;cases k with
   |lf r' j'=>
    show(if r'=r∧j≤j'∧j'<j+bs.length then os (j'-j)else if(r',j')∈us then []else W.om (.lf r' j'))=_;rw[AAM (fun hh=>hk ⟨r',j',rfl,.inr hh⟩),AAM (fun hh=>hk ⟨r',j',rfl,.inl hh⟩)]
   |AX r'=>rfl
   |fl k=>rfl
  ·rintro k ⟨r',j',rfl,hk⟩
   show(if r'=r∧j≤j'∧j'<j+bs.length then os (j'-j)else if(r',j')∈us then []else W.om (.lf r' j')).Nodup;by_cases tS:r'=r∧j≤j'∧j'<j+bs.length
   ·rw[AAK tS];obtain⟨u,_,ht⟩:=xD (j'-j) (by omega);exact ht.2.1
   ·rw[AAM tS,AAK (hk.resolve_right tS)];exact AAL
  ·rintro k k' ⟨r',j',rfl,hk⟩ ⟨r2,j2,rfl,hk2⟩ tj b hb th
   have hb:b∈(if r'=r∧j≤j'∧j'<j+bs.length then os (j'-j)else if(r',j')∈us then []else W.om (.lf r' j')):=hb;have th:b∈(if r2=r∧j≤j2∧j2<j+bs.length then os (j2-j)else if(r2,j2)∈us then []else W.om (.lf r2 j2)):=th;by_cases tS:r'=r∧j≤j'∧j'<j+bs.length
   ·rw[AAK tS]at hb;by_cases zN:r2=r∧j≤j2∧j2<j+bs.length
    ·rw[AAK zN]at th;exact uj (j'-j) (j2-j) (fun e=>tj (by rw[tS.1,zN.1,show j'=j2 by omega])) b hb th
    ·rw[AAM zN,AAK (hk2.resolve_right zN)]at th;cases th
   ·rw[AAM tS,AAK (hk.resolve_right tS)]at hb;cases hb
  ·rintro k ⟨r',j',rfl,hk⟩ b hb
   have hb:b∈(if r'=r∧j≤j'∧j'<j+bs.length then os (j'-j)else if(r',j')∈us then []else W.om (.lf r' j')):=hb;by_cases tS:r'=r∧j≤j'∧j'<j+bs.length
   ·rw[AAK tS]at hb;obtain⟨r2,j2,hm,h1⟩:=uf _ b hb;exact .inl ⟨.lf r2 j2,⟨r2,j2,rfl,.inl hm⟩,h1⟩
   ·rw[AAM tS,AAK (hk.resolve_right tS)]at hb;cases hb
 refine⟨W',rfl,h.IA hv uH va (by rw[vr,h.DH]) ?_ (fun t=>.inl ⟨by show nth _ s'.sl t=_;rw[vr];rfl,rfl⟩) ?_⟩
 ·rw[hrol,h.B0]
 ·intro r';obtain⟨h1,h2⟩:=h.roots r';refine⟨fun j'=>?_,?_⟩
  ·show Aa s' W' (s'.leaf r' j') (W'.cv r' j') (W'.om (.lf r' j'));have hom':W'.om (.lf r' j')=if r'=r∧j≤j'∧j'<j+bs.length then os (j'-j)else if(r',j')∈us then []else W.om (.lf r' j'):=rfl
   rw[tR,hom'];by_cases tS:r'=r∧j≤j'∧j'<j+bs.length
   ·rw[AAK tS,AAK tS];obtain⟨u,hu,ht⟩:=xD (j'-j) (by omega)
    have hcvv:W'.cv r' j'=some u:=by show(if r'=r then _ else _)=_;rw[AAK tS.1,tv,AAK (by omega),hu]
    rw[hcvv];obtain⟨_,_,_,ht⟩:=ht;generalize nth LA.bad bs (j'-j)=b at ht;unfold Aa;cases b with
    |arr AA gen t e xs dd=>
     obtain⟨_,_,hr⟩:=ht;refine⟨u,rfl,hr.frame (fun b hb=>hw b ?_) fun b hb=>hb⟩;rcases hb with hb|hb
     ·obtain⟨r2,j2,_,h1⟩:=uf _ b hb;exact .inr ⟨.lf r2 j2,by simp,h1⟩
     ·exact .inl hb
    |_=>exact⟨ht.1,fun u' tu=>by injection tu with tu;subst tu;exact AR.Dq uH ht.2.2 ht.2.1⟩
   ·rw[AAM tS,AAM tS,xR r' j' tS];by_cases hm:(r',j')∈us
    ·rw[AAK hm,AAK hm];exact⟨rfl,fun _ _=>trivial⟩
    ·rw[AAM hm,AAM hm];exact Aa.Dq uH (LA.Dy hv r' j') (fun b hb=>hw b (.inr ⟨.lf r' j',by simp,hb⟩)) (h1 j')
  ·rw[(yW r').1];split
   ·rename_i hb;rw[AAK hb]at h2;obtain⟨vZ,u1,T',yQ,wi,a1,a2,a3⟩:=h2;by_cases xH:r'=r
    ·subst xH;rw[yS]at wi;injection wi with wi;injection wi with e1 e2 e3;subst e1;subst e2;subst e3
     exact⟨vZ,_,_,_,tz.here,by rw[Al];exact a1,by rw[Al,(yW r').2.2];exact a2,fun j'=>AAK rfl⟩
    ·refine⟨vZ,u1,T',yQ,(hw (W.bk r') (.inr ⟨.AX r',by simpa using xH,by rw[vZ];simp⟩)).trans wi,a1,by rw[(yW r').2.2];exact a2,fun j'=>?_⟩;rw[←a3 j'];exact AAM xH
   ·rename_i hb;rw[AAM hb]at h2;exact h2
theorem AW.JS(h:AW E s tm W)(hv:Ad s v){r j AA gen:Nat}{t:TypeId}{e:Ls}{xs u6:List e.D}{d:Nat}(hl:s.leaf r j=.arr AA gen t e xs d){u:Value}(uJ:W.cv r j=some u){w':World}
  (te:AD e d w' W.fz u u6 (W.om (.lf r j))) (hw:∀b,b∉W.om (.lf r j)→w'.heap[b]?=W.w.heap[b]?) (uC:w'.heap.size=W.w.heap.size) (uA:w'.os=W.w.os∧w'.tape=W.w.tape∧w'.output=W.w.output):
  AW E (s.app [.leaf r j (.arr AA v t e u6 d)]) tm { W with w:=w' }:=by
 obtain⟨hr,hj⟩:=G7 hl;show AW E (s.AF (.leaf r j (.arr AA v t e u6 d))) tm _;have tU:=BH s r j (.arr AA v t e u6 d);have tR:=Ec s r j (.arr AA v t e u6 d);generalize s.AF (.leaf r j (.arr AA v t e u6 d))=s' at tU tR;have vO:∀b,W.fz b→w'.heap[b]?=W.w.heap[b]?:=fun b hb=>hw b fun tS=>(h.sep.own _ b tS).1 hb;have xe:∀k,k≠.lf r j→∀b∈W.om k,w'.heap[b]?=W.w.heap[b]?:=fun k hk b hb=>hw b fun tS=>h.sep.A4 k _ hk b hb tS
 have uH:EN v s s' W { W with w:=w' }:={
  fz:=fun b hb=>hb
  LN:=vO
  leaf:=by
   intro r' j' yz yB t' e' ys d' uz tj;rw[tR]at uz;by_cases tS:r=r'∧j=j'
   ·obtain⟨rfl,rfl⟩:=tS;rw[AAK ⟨rfl,rfl,hr,hj⟩]at uz;injection uz with e1 e2 e3 e4 e5 e6
    subst e1;subst e2;subst e3;subst e4;subst e6;exact⟨rfl,gen,t,xs,d,hl,fun hg=>absurd rfl hg⟩
   ·rw[AAM (fun hh=>tS ⟨hh.1,hh.2.1⟩)]at uz;refine⟨rfl,yB,t',ys,d',uz,fun _=>⟨rfl,fun p h' e2 u' hc hn=>?_⟩⟩;obtain⟨u0,uv,hrd0⟩:=(h.roots r').row uz;rw[hc]at uv;injection uv with uv;subst uv
    exact BN p hrd0 hn fun b hb=>hb.elim (fun hb=>xe _ (by simp;intro e1 e2;exact tS ⟨e1.symm,e2.symm⟩) b hb) (vO b)
  box:=fun r' hb tj=>⟨(tU.box r').1▸hb,(tU.box r').2.1.symm,rfl⟩ }
 have va:Sep E { W with w:=w' }:={
  nodup:=h.sep.nodup
  A4:=h.sep.A4
  own:=fun k b hb=>by obtain⟨a,c,d⟩:=h.sep.own k b hb;exact⟨a,by show b<w'.heap.size;omega,d⟩
  fz:=fun b hb=>by obtain⟨a,c⟩:=h.sep.fz b hb;exact⟨by show b<w'.heap.size;omega,c⟩
  frame:=fun b h1 h2=>(hw b fun tS=>by
   rcases(h.sep.own _ b tS).2.2 with h3|h3
   ·omega
   ·exact h2 h3).trans (h.sep.frame b h1 h2)
  size:=by show _≤w'.heap.size;rw[uC];exact h.sep.size
  rest:=⟨uA.1.trans h.sep.rest.1,uA.2.1.trans h.sep.rest.2.1,uA.2.2.trans h.sep.rest.2.2⟩ }
 refine h.IA hv uH va (by rw[tU.sl,h.DH]) (by rw[tU.len,h.B0]) (fun t=>.inl ⟨by show nth _ s'.sl t=_;rw[tU.sl];rfl,rfl⟩) ?_;intro r';obtain⟨h1,h2⟩:=h.roots r';refine⟨fun j'=>?_,?_⟩
 ·show Aa s' _ (s'.leaf r' j') (W.cv r' j') (W.om (.lf r' j'));rw[tR];by_cases tS:r=r'∧j=j'
  ·obtain⟨rfl,rfl⟩:=tS;rw[AAK ⟨rfl,rfl,hr,hj⟩];exact⟨u,uJ,te⟩
  ·rw[AAM (fun hh=>tS ⟨hh.1,hh.2.1⟩)];exact Aa.Dq uH (LA.Dy hv r' j') (xe _ (by simp;intro e1 e2;exact tS ⟨e1.symm,e2.symm⟩)) (h1 j')
 ·rw[(tU.box r').1];split
  ·rename_i hb;rw[AAK hb]at h2;obtain⟨vZ,u1,T',yQ,wi,a1,a2,a3⟩:=h2;exact⟨vZ,u1,T',yQ,(xe (.AX r') (by simp) _ (by rw[vZ];simp)).trans wi,a1,by rw[(tU.box r').2.2];exact a2,a3⟩
  ·rename_i hb;rw[AAM hb]at h2;exact h2
end
end Go.Ev
namespace Go.Ev
def Plain(w:World)(fz:Nat→Prop)(vs:List Lv)(cells:List Value):Prop:=
 cells.length=vs.length∧∀(m:Nat)(lv:Lv),vs[m]?=some lv→Bz lv.l=false∧∃u,cells[m]?=some u∧∀d w' tW,lv.l.rd d w' tW u lv.x []
theorem Da{w:World}{fz:Nat→Prop}:∀(e:Ls)(off:Nat)(vs:List Lv)(cells:List Value) {f:e.D→e.D} {d:Nat} {g g':Nat→Option Value} {x:e.D} {o:List Nat},Bv e off vs=some f→Plain w fz vs cells→
  e.rd d w fz g x o→(∀m,m<e.n→g' m=if off≤m∧m<off+vs.length then cells[m-off]? else g m)→off+vs.length≤e.n∧e.rd d w fz g' (f x) o
 | .nil,off,vs,cells,f,d,g,g',x,o,hf,hp,hr,hg=>by simp[Bv]at hf
 | .one l,off,vs,cells,f,d,g,g',x,o,hf,hp,hr,hg=>by
  simp only[Bv]at hf;split at hf
  ·rename_i v;split at hf
   ·rename_i y hy;injection hf with hf;subst hf
    obtain⟨l',z⟩:=v;obtain⟨e1,e2⟩:=L.AH hy;dsimp only at e1;subst e1;have e2:z=y:=e2;subst e2;obtain⟨yK,u,hu,tu⟩:=hp.2 0 ⟨l',z⟩ rfl;simp only[Ls.rd]at hr ⊢;obtain⟨v0,yP,hr⟩:=hr;have ho:=(L.AZ l' yK hr (d':=d) (w':=w) (tW:=fz)).2;subst ho;refine⟨by simp[Ls.n],u,?_,tu _ _ _⟩;rw[hg 0 (by simp[Ls.n]),AAK (by simp),←hu]
   ·cases hf
  ·cases hf
 | .cons l ls,off,vs,cells,f,d,g,g',x,o,hf,hp,hr,hg=>by
  simp only[Bv]at hf;simp only[Ls.rd]at hr ⊢;obtain⟨v0,o1,o2,yP,h1,h2,rfl⟩:=hr;cases off with
  |zero=>
   simp only at hf;split at hf
   ·cases hf
   ·rename_i v;split at hf
    ·rename_i y hy;injection hf with hf;subst hf
     obtain⟨l',z⟩:=v;obtain⟨e1,e2⟩:=L.AH hy;dsimp only at e1;subst e1;have e2:z=y:=e2;subst e2;obtain⟨yK,u,hu,tu⟩:=hp.2 0 ⟨l',z⟩ rfl;have ho:=(L.AZ l' yK h1 (d':=d) (w':=w) (tW:=fz)).2;subst ho;refine⟨by simp[Ls.n]<;>omega,u,[],o2,?_,tu _ _ _,?_,rfl⟩
     ·rw[hg 0 (by simp[Ls.n]<;>omega),AAK (by simp),←hu]
     ·exact Ls.BD ls h2 fun j hj=>by rw[hg (j+1) (by simp[Ls.n]<;>omega),AAM (by simp)]
    ·cases hf
   ·rename_i v u0 wb;split at hf
    ·rename_i y f' hy xK;injection hf with hf;subst hf
     obtain⟨l',z⟩:=v;obtain⟨e1,e2⟩:=L.AH hy;dsimp only at e1;subst e1;have e2:z=y:=e2;subst e2;obtain⟨yK,u,hu,tu⟩:=hp.2 0 ⟨l',z⟩ rfl;have ho:=(L.AZ l' yK h1 (d':=d) (w':=w) (tW:=fz)).2;subst ho
     obtain⟨c0,cs,rfl⟩:∃c0 cs,cells=c0::cs:=by
      cases cells with
      |nil=>have:=hp.1;simp at this
      |cons c cs=>exact⟨c,cs,rfl⟩
     obtain⟨ih1,ih2⟩:=Da ls 0 (u0::wb) cs (g':=fun j=>g' (j+1)) xK ⟨by have:=hp.1;simpa using this,fun m lv hm=>by
      have:=hp.2 (m+1) lv (by simpa using hm);simpa using this⟩ h2 (fun m hm=>by
       rw[hg (m+1) (by simp[Ls.n]<;>omega)];by_cases hc:m<(u0::wb).length
       ·rw[AAK (by simp at hc ⊢;omega),AAK (by simp at hc ⊢;omega)];simp
       ·rw[AAM (by simp at hc ⊢;omega),AAM (by simp at hc ⊢;omega)])
     refine⟨by simp[Ls.n]at ih1 ⊢ <;> omega,u,[],o2,?_,tu _ _ _,ih2,rfl⟩;rw[hg 0 (by simp[Ls.n]<;>omega),AAK (by simp),←hu]
    ·cases hf
  |succ off=>
   simp only at hf;split at hf
   ·rename_i f' xK;injection hf with hf;subst hf
    obtain⟨ih1,ih2⟩:=Da ls off vs cells (g':=fun j=>g' (j+1)) xK hp h2 (fun m hm=>by
     rw[hg (m+1) (by simp[Ls.n]<;>omega)];by_cases hc:off≤m∧m<off+vs.length
     ·rw[AAK (by omega),AAK hc];congr 1;omega
     ·rw[AAM (by omega),AAM hc])
    refine⟨by simp[Ls.n]<;>omega,v0,o1,o2,?_,h1,ih2,rfl⟩;rw[hg 0 (by simp[Ls.n]<;>omega),AAM (by omega)];exact yP
   ·cases hf
theorem J5{w:World}{fz:Nat→Prop}:∀(e:Ls)(j:Nat) {G:(t:TypeId)→(f:Ls)→Option (List f.D→List f.D)} {hh:e.D→e.D} {g:Nat→Option Value} {x:e.D} {o:List Nat} {t:TypeId} {f:Ls} {h':Value},CO e j G=some hh→
  e.kinds[j]?=some (.sl t f)→e.rd 2 w fz g x o→g j=some h'→∃(fn:List f.D→List f.D) (ys:List f.D) (o':List Nat),G t f=some fn∧AD f 2 w fz h' ys o'∧(∀b∈o',b∈o)∧(o.Nodup→o'.Nodup)∧
   ∀w',AD f 2 w' fz h' (fn ys) o'→(∀b,b∈o∨fz b→b∉o'→w'.heap[b]?=w.heap[b]?)→(∀b,fz b→b∉o')→o.Nodup→e.rd 2 w' fz g (hh x) o
 | .nil,j,G,hh,g,x,o,t,f,h',hm,hk,hr,hg=>by simp[CO]at hm
 | .one l,j,G,hh,g,x,o,t,f,h',hm,hk,hr,hg=>by
  simp only[CO]at hm;simp only[Ls.rd]at hr;obtain⟨v,hv,hr⟩:=hr;cases j with
  |succ j=>cases hm
  |zero=>
   simp[Ls.kinds]at hk;subst hk;rw[hg]at hv;injection hv with hv;subst hv
   refine⟨hh,x,o,hm,hr,fun b hb=>hb,id,fun w' uS _ _ _=>?_⟩;simp only[Ls.rd];exact⟨h',hg,uS⟩
 | .cons l ls,j,G,hh,g,x,o,t,f,h',hm,hk,hr,hg=>by
  simp only[CO]at hm;simp only[Ls.rd]at hr;obtain⟨v,o1,o2,hv,h1,h2,rfl⟩:=hr;cases j with
  |zero=>
   simp[Ls.kinds]at hk;subst hk;rw[hg]at hv;injection hv with hv;subst hv
   simp only at hm;split at hm
   ·rename_i fn yF;injection hm with hm;subst hm
    refine⟨fn,x.1,o1,yF,h1,fun b hb=>AAQ _ hb,fun hn=>(AAV.1 hn).1,fun w' uS hf hz hn=>?_⟩;simp only[Ls.rd];refine⟨h',o1,o2,hg,uS,Ls.AJ ls h2 (fun b hb=>hf b (hb.imp (AAO _) id) ?_) (fun b hb=>hb),rfl⟩;intro vC;rcases hb with hb|hb
    ·exact(AAV.1 hn).2.2 b vC b hb rfl
    ·exact hz b hb vC
   ·cases hm
  |succ j=>
   simp only at hm;split at hm
   ·rename_i wO wi;injection hm with hm;subst hm
    obtain⟨fn,ys,o',a1,a2,a3,a4,a5⟩:=J5 ls j wi (by simpa[Ls.kinds]using hk) h2 (show(fun j=>g (j+1)) j=_ from hg);refine⟨fn,ys,o',a1,a2,fun b hb=>AAO _ (a3 b hb),fun hn=>a4 (AAV.1 hn).2.1,fun w' uS hf hz hn=>?_⟩;simp only[Ls.rd];refine⟨v,o1,o2,hv,L.AJ l h1 (fun b hb=>hf b (hb.imp (AAQ _) id) ?_) (fun b hb=>hb),a5 w' uS (fun b hb xY=>hf b (hb.imp (AAO _) id) xY) hz (AAV.1 hn).2.1,rfl⟩;intro vC;rcases hb with hb|hb
    ·exact(AAV.1 hn).2.2 b hb b (a3 b vC) rfl
    ·exact hz b hb vC
   ·cases hm
theorem E9:∀(e:Ls),(∀l∈e.kinds,Bz l=false)→Bs e=true
 | .nil,_=>rfl
 | .one l,h=>by simp[Bs,h l (by simp[Ls.kinds])]
 | .cons l ls,h=>by simp[Bs,h l (by simp[Ls.kinds]),E9 ls fun l hl=>h l (by simp[Ls.kinds,hl])]
theorem FU{α:Type}(xs:List α)(i:Nat)(f:α→α)(m:Nat)(hm:m<(xs.modify i f).length):(xs.modify i f)[m]=if i=m then f (xs[m]'(by simpa using hm))else xs[m]'(by simpa using hm):=by rw[List.getElem_modify]
theorem HC{e:Ls}{d:Nat}{w:World}{fz:Nat→Prop}{a:Addr}{n k:Nat}{xs:List e.D}{o:List Nat}(hr:AD e d w fz (.slice (some a) n k) xs o)(hd:0<d)(hn:o.Nodup)(hz:∀b∈o,¬fz b){i:Nat}(hi:i<n)
  {off:Nat} {cells:List Value} {F:e.D→e.D} (uP:off+cells.length≤e.n)
  (hF:∀g g' x oo,e.rd (dec d) w fz g x oo→(∀m,m<e.n→g' m=if off≤m∧m<off+cells.length then cells[m-off]? else g m)→e.rd (dec d) w fz g' (F x) oo):
  a.spot=none∧∃arr T fr,w.heap[a.block]?=some (.cells arr T fr)∧(∀j,j<arr.size→¬(fr.1≤j∧j<fr.2))∧a.off+(i*e.n+off)+cells.length≤arr.size∧a.block∈o∧
   ∀w',Mu w w' a.block (CD cells (a.off+(i*e.n+off)) arr) T fr→AD e d w' fz (.slice (some a) n k) (xs.modify i F) o:=by
 obtain⟨A,c,hv,hc,_,uN⟩:=hr.KM;injection hv with hA hl hk
 subst hA;subst hl;subst hk;obtain⟨arr,T,fr,os,hs,hh,uC,tw,uD,ho,_⟩:=uN a rfl (.inr hd);have ho:=ho hd;have tw:=tw hd
 have hmul:i*e.n+e.n≤k*e.n:=by have:(i+1)*e.n≤k*e.n:=AAm _ (by omega);rw[AAk,ABR]at this;omega
 have vu:a.off+(i*e.n+off)+cells.length≤arr.size:=by omega
 refine⟨hs,arr,T,fr,hh,tw,vu,by rw[ho];simp,fun w' tz=>?_⟩;have tv:=CY cells (a.off+(i*e.n+off)) arr vu;have hd':decide (0<d)=true:=by simpa using hd
 refine⟨some a,k,by simp,by simpa using hc,?_⟩;refine .inr ⟨fun q=>(CD cells (a.off+(i*e.n+off)) arr)[a.off+q]?,os,⟨hs,_,T,fr,tz.here,by rw[Al];exact uC,fun _=>by rw[Al];exact tw,fun _=>rfl⟩,fun m hm=>?_,?_⟩
 ·have vM:m<xs.length:=by simpa using hm
  have zR:a.block∉os m:=by intro tS;rw[ho]at hn;exact(AAY.1 hn).1 (AAI.2 ⟨m,AAR.2 vM,tS⟩)
  rw[FU]
  have vY:∀ {g x},e.rd (dec d) w fz g x (os m)→e.rd (dec d) w' fz g x (os m):=fun h=>Ls.AJ e h (fun b hb=>tz.CL b (by
   rintro rfl
   rcases hb with hb|hb
   ·exact zR hb
   ·exact hz _ (by rw[ho];simp) hb)) fun _ hb=>hb
  by_cases vp:i=m
  ·subst vp;rw[AAK rfl];refine vY (hF _ _ _ _ (uD i vM) fun q hq=>?_);show(CD cells (a.off+(i*e.n+off)) arr)[a.off+(i*e.n+q)]?=_;rw[tv];by_cases hc:off≤q∧q<off+cells.length
   ·rw[AAK (by omega),AAK hc];congr 1;omega
   ·rw[AAM (by omega),AAM hc]
  ·rw[AAM vp];refine vY (Ls.BD e (uD m vM) fun q hq=>?_);show(CD cells (a.off+(i*e.n+off)) arr)[a.off+(m*e.n+q)]?=_;rw[tv,AAM];intro hc;rcases ABM vp with h1|h1
   ·have:(i+1)*e.n≤m*e.n:=AAm _ h1;rw[AAk,ABR]at this;omega
   ·have:(m+1)*e.n≤i*e.n:=AAm _ h1;rw[AAk,ABR]at this;omega
 ·rw[hd'];show o=_;rw[ho];simp
theorem Kf{w:World}{fz:Nat→Prop}{e:Ls}{vs:List Lv}{y:e.D}{cells:List Value}(hy:pack e vs=some y)(hp:Plain w fz vs cells){g:Nat→Option Value}(hg:∀m,m<e.n→g m=cells[m]?):
  Bs e=true∧vs.length=e.n∧∀d w' tW,e.rd d w' tW g y []:=by
 have wv:=Aw e vs y hy;have hlen:vs.length=e.n:=by rw[←wv,CE]
 have zK:Bs e=true:=E9 e fun l hl=>by rw[←ED e y,wv]at hl;obtain⟨lv,hm,rfl⟩:=AAs.1 hl;obtain⟨m,hm⟩:=AAp hm;exact(hp.2 m lv hm).1
 refine⟨zK,hlen,fun d w' tW=>?_⟩
 have:e.rd 0 w' tW g y []:=Bj e fun j lv hj=>by
  rw[wv]at hj;have tX:j<e.n:=by rw[←hlen];exact(AAH.1 hj).1
  obtain⟨_,u,hu,hr⟩:=hp.2 j lv hj;exact⟨u,(hg j tX).trans hu,hr _ _ _⟩
 exact(Ls.AZ e zK this).1
theorem EE{α:Type}:∀(xs:List α)(i:Nat)(y:α),Cb xs i y=xs.modify i fun _=>y
 | [],i,y=>by cases i<;>simp[Cb]
 |x::xs,0,y=>by simp[Cb]
 |x::xs,i+1,y=>by simp[Cb,EE xs i y]
theorem IH{x:Nat×Nat}{p:List (Nat×Nat)}(hp:p≠[]){q:List (Nat×Nat)}{i off:Nat}(h:Ai (x::p)=some (q,i,off)):∃q',q=x::q'∧Ai p=some (q',i,off):=by
 cases p with
 |nil=>exact absurd rfl hp
 |cons y r=>
  simp only[Ai]at h;split at h
  ·rename_i q' i' off' hq;injection h with h;injection h with h1 h2;injection h2 with h2 h3
   subst h1;subst h2;subst h3;exact⟨q',rfl,hq⟩
  ·cases h
theorem CV{os:Nat→List Nat}:∀ {l:List Nat},(l.flatMap os).Nodup→∀ {i j:Nat},i∈l→j∈l→i≠j→∀b∈os i,b∉os j
 | [],_,i,j,hi,_,_=>by cases hi
 |x::l,h,i,j,hi,hj,tj=>by
  rw[AAj]at h;obtain⟨h1,h2,h3⟩:=AAV.1 h;intro b hb th;rcases AAZ.1 hi with vF|vF
  ·rcases AAZ.1 hj with yf|yf
   ·exact tj (vF.trans yf.symm)
   ·rw[vF]at hb;exact h3 b hb b (AAI.2 ⟨j,yf,th⟩) rfl
  ·rcases AAZ.1 hj with yf|yf
   ·rw[yf]at th;exact h3 b th b (AAI.2 ⟨i,vF,hb⟩) rfl
   ·exact CV h2 vF yf tj b hb th
theorem Bt{os:Nat→List Nat}:∀ {l:List Nat},(l.flatMap os).Nodup→∀ {i:Nat},i∈l→(os i).Nodup
 | [],_,i,hi=>by cases hi
 |x::l,h,i,hi=>by
  rw[AAj]at h;obtain⟨h1,h2,h3⟩:=AAV.1 h;rcases AAZ.1 hi with rfl|hi
  ·exact h1
  ·exact Bt h2 hi
theorem Ku{vs:List Lv}{cells:List Value}{w:World}{fz:Nat→Prop}(hp:Plain w fz vs cells){i off:Nat}{e':Ls}{a:Addr}{n k:Nat}(hi:i<n):∀(p q:List (Nat×Nat)) {e:Ls} {d:Nat} {h:Value} {xs:List e.D} {o:List Nat} {f:List e.D→List e.D},
  Gv vs p e=some f→AD e d w fz h xs o→o.Nodup→(∀b∈o,¬fz b)→0<d→(p.length≤1∨d=2)→Ai p=some (q,i,off)→JW w q e h e' (.slice (some a) n k)→
  a.spot=none∧∃arr T fr,w.heap[a.block]?=some (.cells arr T fr)∧(∀j,j<arr.size→¬(fr.1≤j∧j<fr.2))∧a.off+(i*e'.n+off)+cells.length≤arr.size∧a.block∈o∧
   ∀w',Mu w w' a.block (CD cells (a.off+(i*e'.n+off)) arr) T fr→AD e d w' fz h (f xs) o
 | [],q,e,d,h,xs,o,f,hm,hr,hn,hz,hd,wC,hs,u5=>by simp[Gv]at hm
 | [(i0,j0)],q,e,d,h,xs,o,f,hm,hr,hn,hz,hd,wC,hs,u5=>by
  simp only[Ai,Option.some.injEq,Prod.mk.injEq]at hs;obtain⟨rfl,rfl,rfl⟩:=hs;obtain⟨rfl,rfl⟩:=u5;simp only[Gv]at hm;split at hm
  ·rename_i y hy;injection hm with hm;subst hm
   split at hy
   ·rename_i hc;simp only[AAG,AAS]at hc;obtain⟨rfl,hlen⟩:=hc
    have:=HC (F:=fun _=>y) (off:=0) (cells:=cells) hr hd hn hz hi (by rw[hp.1,hlen];omega) (fun g g' x oo hx hg=>by
     obtain⟨zK,_,uZ⟩:=Kf hy hp (g:=g') fun m hm=>by rw[hg m hm,AAK (by rw[hp.1,hlen];omega)];simp
     have:=(Ls.AZ e' zK hx (d':=0) (w':=w) (tW:=fz)).2;subst this;exact uZ _ _ _)
    simpa only[EE]using this
   ·cases hy
  ·split at hm
   ·rename_i f' xK;injection hm with hm;subst hm
    have hlen:∀g x oo,e'.rd (dec d) w fz g x oo→j0+vs.length≤e'.n:=fun g x oo hx=>(Da e' j0 vs cells (g':=fun m=>if j0≤m∧m<j0+vs.length then cells[m-j0]? else g m) xK hp hx fun m _=>rfl).1;obtain⟨A,c,hv,hc,_,uN⟩:=hr.KM;injection hv with hA hl hk
    subst hA;subst hl;subst hk;obtain⟨arr,T,fr,os,_,_,_,_,uD,_,_⟩:=uN a rfl (.inr hd);have uP:=hlen _ _ _ (uD i0 hi);exact HC (F:=f') (off:=j0) (cells:=cells) hr hd hn hz hi (by rw[hp.1];exact uP) (fun g g' x oo hx hg=>(Da e' j0 vs cells xK hp hx fun m hm=>by rw[hg m hm,hp.1]).2)
   ·cases hm
 |(i0,j0)::p0::ps,q,e,d,h,xs,o,f,hm,hr,hn,hz,hd,wC,hs,u5=>by
  have hd2:d=2:=wC.resolve_left (by simp);subst hd2;obtain⟨q',rfl,zA⟩:=IH (by simp) hs;simp only[Gv]at hm;split at hm
  ·rename_i hh hhh;injection hm with hm;subst hm
   obtain⟨a0,len,c,t,ff,h',rfl,hs0,xu,hk,uE,hnav'⟩:=u5;obtain⟨A,cc,hv,hc,_,uN⟩:=hr.KM;injection hv with hA hl u7
   subst hA;subst hl;subst u7;obtain⟨arr,T,fr,os,_,hhp,uC,tw,uD,ho,_⟩:=uN a0 rfl (.inr hd);have ho:=ho hd;have tw:=tw hd
   have hcell':arr[a0.off+(i0*e.n+j0)]?=some h':=by simp only[World.cell?,at_,hhp]at uE;simpa using uE
   have ur:=hn;rw[ho]at ur
   have hosn:(os i0).Nodup:=by exact Bt (AAY.1 ur).2 (AAR.2 xu)
   have uX:∀m,m<xs.length→∀b∈os m,b∈o:=fun m hm b hb=>by rw[ho];exact AAJ _ (AAI.2 ⟨m,AAR.2 hm,hb⟩)
   have uj:∀m,m<xs.length→m≠i0→∀b∈os i0,b∉os m:=by intro m hm tj b hb th;have h3:=(AAY.1 ur).2;have:=CV h3 (AAR.2 xu) (AAR.2 hm) (fun e=>tj e.symm) b hb;exact this th
   obtain⟨fn,ys,o',yF,tY,uf,hond,vz⟩:=J5 e j0 hhh hk (uD i0 xu) hcell';obtain⟨vV,arr2,T2,fr2,hh2,wA,vu,tS,hput2⟩:=Ku hp hi (p0::ps) q' yF tY (hond hosn) (fun b hb=>hz b (uX i0 xu b (uf b hb))) hd (.inr rfl) zA hnav';refine⟨vV,arr2,T2,fr2,hh2,wA,vu,uX i0 xu _ (uf _ tS),fun w' tz=>?_⟩;have xG:=hput2 w' tz;have hne0:a0.block≠a.block:=fun e=>(AAY.1 ur).1 (AAI.2 ⟨i0,AAR.2 xu,by rw[e];exact uf _ tS⟩);refine⟨some a0,c,by simp,by simpa using hc,.inr ⟨fun qq=>arr[a0.off+qq]?,os,⟨hs0,arr,T,fr,(tz.CL _ hne0).trans hhp,uC,fun _=>tw,fun _=>rfl⟩,fun m hm=>?_,?_⟩⟩
   ·have vM:m<xs.length:=by simpa using hm
    rw[FU];by_cases vp:i0=m
    ·subst vp;rw[AAK rfl];refine vz w' xG (fun b hb xY=>tz.CL b (fun e=>xY (e▸tS))) (fun b hb th=>hz b (uX i0 xu b (uf b th)) hb) hosn
    ·rw[AAM vp];refine Ls.AJ e (uD m vM) (fun b hb=>tz.CL b ?_) fun _ hb=>hb
     rintro rfl
     rcases hb with hb|hb
     ·exact uj m vM (fun e=>vp e.symm) _ (uf _ tS) hb
     ·exact hz _ (uX i0 xu _ (uf _ tS)) hb
   ·show o=_;rw[ho];simp
  ·cases hm
end Go.Ev
namespace Go.Ev
def Gs(w:World)(fz:Nat→Prop)(g:Bool)(ls:List (L×Nat))(u:Value)(vs:List Lv)(own:Nat→List Nat):Prop:=
 vs.map (·.l)=ls.map (·.1)∧(match g with
  |true=>∃cs:Array Value,u=.agg cs∧cs.size=ls.length
  |false=>ls.length=1)∧∀(j:Nat)(p:L×Nat)(lv:Lv),ls[j]?=some p→vs[j]?=some lv→∃y,A5 g u j=some y∧lv.l.rd p.2 w fz y lv.x (own j)
def Mq(w:World)(fz:Nat→Prop)(ls:List (L×Nat))(u:Value)(vs:List Lv)(AX:Nat)(own:Nat→List Nat):Prop:=
 u=.pointer (some ⟨AX,0,none⟩)∧vs.map (·.l)=ls.map (·.1)∧∃(arr:Array Value) (T:TypeId) (fr:Nat×Nat),w.heap[AX]?=some (.cells arr T fr)∧(∀j,j<arr.size→¬(fr.1≤j∧j<fr.2))∧arr.size=ls.length∧
  ∀(j:Nat)(p:L×Nat)(lv:Lv),ls[j]?=some p→vs[j]?=some lv→∃y,arr[j]?=some y∧lv.l.rd p.2 w fz y lv.x (own j)
def Mt(w:World)(fz:Nat→Prop)(pm:PM)(u:Value)(vs:List Lv)(AX:Nat)(own:Nat→List Nat):Prop:=match pm with
 | .val g ls=>Gs w fz g (ls.map fun l=>(l,0)) u vs fun _=>[]
 | .box ls=>Mq w fz ls u vs AX own
 | .row g ls=>Gs w fz g ls u vs own
 | .fn f=>u=.func (.func f) #[] #[]∧vs=[]
def Ja(w:World)(fz:Nat→Prop)(pm:PM)(u:Value)(vs:List Lv)(AX:Nat)(own:Nat→List Nat):Prop:=match pm with
 | .val _ _=>vs=[]
 | .box ls=>Mq w fz ls u vs AX own
 | .row g ls=>Gs w fz g ls u vs own
 | .fn _=>vs=[]
def EL(w:World)(fz:Nat→Prop)(om:Nat→List Nat):List (Bool×List (L×Nat))→List Value→List (List Lv)→Nat→Prop
 | [],[],[],_=>True
 |(g,ls)::rs,u::us,vs::tV,off=>Gs w fz g ls u vs (fun j=>om (off+j))∧EL w fz om rs us tV (off+ls.length)
 |_,_,_,_=>False
structure EJ(ps:List PM)(w:World)(fz:Nat→Prop)(args:List Value)(tV:List (List Lv))(bk:Nat→Nat)(om:Key→List Nat):Prop where
 len:args.length=ps.length
 B0:tV.length=ps.length
 each:∀(i:Nat)(pm:PM)(u:Value)(vs:List Lv),ps[i]?=some pm→args[i]?=some u→tV[i]?=some vs→Mt w fz pm u vs (bk i) fun j=>om (.lf i j)
 AX:∀i,om (.AX i)=match ps[i]? with
  |some (.box _)=>[bk i]
  |_=>[]
 none:∀i,(∀ls,ps[i]?≠some (.box ls))→(∀g ls,ps[i]?≠some (.row g ls))→∀j,om (.lf i j)=[]
 box:∀i ls,ps[i]?=some (.box ls)→∀j,ls.length≤j→om (.lf i j)=[]
 row:∀i g ls,ps[i]?=some (.row g ls)→∀j,ls.length≤j→om (.lf i j)=[]
 fl:∀k,om (.fl k)=[]
 nodup:∀k,(om k).Nodup
 A4:∀k k',k≠k'→∀b∈om k,b∉om k'
 own:∀k,∀b∈om k,¬fz b∧b<w.heap.size
 fz:∀b,fz b→b<w.heap.size
def Kh:List Value→Value
 | [u]=>u
 |us=>.tuple us.toArray
structure Fa(g:Sm)(w:World)(fz:Nat→Prop)(args:List Value)(bk:Nat→Nat)(om:Key→List Nat)(z:g.outs.D)(r:Value)(w':World)(tW:Nat→Prop)(uY:Key→List Nat)(rv:List Value)(vsR vsP:List (List Lv)):Prop where
 outs:unpack g.outs z=vsR.flatten++vsP.flatten
 res:r=Kh rv
 Mb:EL w' tW (fun k=>uY (.fl k)) g.rs rv vsR 0
 len:vsP.length=g.ps.length
 each:∀(i:Nat)(pm:PM)(u:Value)(vs:List Lv),g.ps[i]?=some pm→args[i]?=some u→vsP[i]?=some vs→Ja w' tW pm u vs (bk i) fun j=>uY (.lf i j)
 AX:∀i,uY (.AX i)=om (.AX i)
 nodup:∀k,(uY k).Nodup
 A4:∀k k',k≠k'→∀b∈uY k,b∉uY k'
 own:∀k,∀b∈uY k,¬tW b∧b<w'.heap.size∧(w.heap.size≤b∨∃k0,b∈om k0)
 fz:∀b,tW b→b<w'.heap.size∧(fz b∨w.heap.size≤b∨∃k0,b∈om k0)
 frame:∀b,b<w.heap.size→(∀k,b∉om k)→w'.heap[b]?=w.heap[b]?
 size:w.heap.size≤w'.heap.size
 rest:w'.os=w.os∧w'.tape=w.tape∧w'.output=w.output
structure Lu(g:Sm)(w:World)(fz:Nat→Prop)(z:g.outs.D)(r:Value)(w':World)(tW:Nat→Prop)(b:Nat):Prop where
 box:Mq w' tW g.Gw r (unpack g.outs z) b fun _=>[]
 new:w.heap.size≤b∧b<w'.heap.size∧¬tW b
 fz:∀x,tW x→x<w'.heap.size∧(fz x∨w.heap.size≤x)
 frame:∀x,x<w.heap.size→w'.heap[x]?=w.heap[x]?
 size:w.heap.size≤w'.heap.size
 rest:w'.os=w.os∧w'.tape=w.tape∧w'.output=w.output
def Ou(P:Program)(T:List (String×Array Value))(w:World)(io:Nat→Prop):Prop:=∀x∈T,w.var? P x.1=some x.2∧∃g,P.globalNamed x.1=some g∧¬io g∧g<w.heap.size
def K8(P:Program)(T:List (String×Array Value))(f:FuncId)(g:Mv):Prop:=
 ∀(args:List Value)(w:World)(fz:Nat→Prop) (tV:List (List Lv)) (bk:Nat→Nat) (om:Key→List Nat) (x:g.s.ins.D) (z:g.s.outs.D),Ou P T w (fun b=>∃k,b∈om k)→EJ g.s.ps w fz args tV bk om→pack g.s.ins tV.flatten=some x→g.f x=some z→
  Calls P f args.toArray w fun en w'=>match g.s.mk? with
   |false=>∃r tW uY rv vsR vsP,en=.returned r∧Fa g.s w fz args bk om z r w' tW uY rv vsR vsP
   |true=>∃r tW b,en=.returned r∧Lu g.s w fz z r w' tW b
def HE(w:World)(fz:Nat→Prop)(ls:List L)(u:Value)(vs:List Lv):Prop:=
 ∃(b:Nat) (arr:Array Value) (T:TypeId) (fr:Nat×Nat),u=.pointer (some ⟨b,0,none⟩)∧fz b∧w.heap[b]?=some (.cells arr T fr)∧arr.size=ls.length∧vs.map (·.l)=ls∧∀(j:Nat)(lv:Lv),vs[j]?=some lv→∃y,arr[j]?=some y∧lv.l.rd 0 w fz y lv.x []
def Dz(w:World)(fz:Nat→Prop):List (List L)→List Value→List Lv→Prop
 | [],[],vs=>vs=[]
 |ls::bs,u::us,vs=>∃x y,vs=x++y∧HE w fz ls u x∧Dz w fz bs us y
 |_,_,_=>False
def Kn(w:World)(fz:Nat→Prop)(rowv:Value):KL→Value→List Lv→Prop
 | .box ls,u,vs=>HE w fz ls u vs
 | .EI g bs,u,vs=>∃(b:Nat) (T:TypeId) (fr:Nat×Nat) (lb:Array Value),u=.pointer (some ⟨b,0,none⟩)∧fz b∧w.heap[b]?=some (.cells #[.func (.func g) #[] lb] T fr)∧Dz w fz bs lb.toList vs
 | .row,u,vs=>vs=[]∧∃(b:Nat) (T:TypeId) (fr:Nat×Nat),u=.pointer (some ⟨b,0,none⟩)∧fz b∧w.heap[b]?=some (.cells #[rowv] T fr)
def EK(w:World)(fz:Nat→Prop)(rowv:Value):List KL→List Value→List Lv→Prop
 | [],[],vs=>vs=[]
 |c::cs,u::us,vs=>∃x y,vs=x++y∧Kn w fz rowv c u x∧EK w fz rowv cs us y
 |_,_,_=>False
def Nd(P:Program)(g:FuncId)(σ:OJ):Prop:=
 ∀(w:World)(fz:Nat→Prop)(us:List Value)(vs:List Lv) (y:(E2 (σ.I9.flatMap KL.kinds)).D) (AX off n c:Nat) (G:Nat→Int),EK w fz (.slice (some ⟨AX,off,none⟩) n c) σ.I9 us vs→pack (E2 (σ.I9.flatMap KL.kinds)) vs=some y→
  (∀t,t<n→w.cell? ⟨AX,off+t,none⟩=some (.int .i64 (G t)))→n≤20→∀i j:Nat,i<n→j<n→∀b,σ.lt y (G i) (G j)=some b→
  Calls P g (#[.int .i64 i,.int .i64 j]++us.toArray) w fun e w'=>e=.returned (.bool b)∧∃q os,w'=Go.Sort.grow (w.drewN q) os
structure Nf(P:Program)(f:FuncId)(t:TypeId):Prop where
 many:∀(α:Type) [Inhabited α] (enc:α→Value),(∀x,(enc x).oneCell'=true)→∀(lt:α→α→Bool)(g:Nat)(lb:Array Value),(∀args w,(callFunc g args).run P w=.ok (.enter g args) w)→∀(AX off c:Nat)(d:Array α),2≤d.size→d.size≤20→∀(w:World),
  (∀(m:Nat)(os:Array Obj)(dk:Array α),dk.size=d.size→∀i j:Nat,i<d.size→j<d.size→
   Calls P g (#[.int .i64 i,.int .i64 j]++lb) (Go.Sort.grow (Go.Sort.putRow enc (Go.Sort.ahead w m) AX off dk) os) fun e w'=>e=.returned (.bool (lt dk[i]! dk[j]!))∧∃q ui,w'=Go.Sort.grow ((Go.Sort.grow (Go.Sort.putRow enc (Go.Sort.ahead w m) AX off dk) os).drewN q) ui)→
  Go.Sort.Holds enc w AX off d→AX<w.heap.size→
  Calls P f #[.iface t (.slice (some ⟨AX,off,none⟩) d.size c),.func (.func g) #[] lb] w fun e w'=>e=.returned (.tuple #[])∧∃n os,w'=Go.Sort.grow (Go.Sort.putRow enc (Go.Sort.ahead w n) AX off (Go.Sort.insertionSort lt d 0 d.size)) os
 OA:∀(p:Option Addr)(n c:Nat),n≤1→∀(lf:Fn)(la lb:Array Value)(w:World),Calls P f #[.iface t (.slice p n c),.func lf la lb] w fun e w'=>e=.returned (.tuple #[])∧∃os,w'=Go.Sort.grow w os
 body : ∃ (fn : Func) (c : Code), P.funcs[f]? = some fn ∧ fn.body = some c ∧ (fn.name == "runtime.NumGoroutine") = false
structure NW(P:Program)(f g:FuncId)(σ:OJ):Prop where
 sort:Nf P f σ.t
 less:Nd P g σ
 enters:∀args w,(callFunc g args).run P w=.ok (.enter g args) w
def JY (P : Program) (T : List (String × Array Value)) (env : FuncId → Option Mv) : Prop := ∀ f g, env f = some g → K8 P T f g ∧ ∃ (fn : Func) (c : Code), P.funcs[f]? = some fn ∧ fn.body = some c ∧ (fn.name == "runtime.NumGoroutine") = false
structure Ko(P:Program)(T:List (String×Array Value))(env:Env):Prop where
 fns:JY P T env.fn
 Oq:∀f g σ,env.Oz f g=some σ→NW P f g σ
 OP:Lt P env
def DL(P:Program)(E:Cw)(env:Env):Prop:=Ko P E.NU env∧∀x∈E.NU,E.w0.var? P x.1=some x.2∧∃g,P.globalNamed x.1=some g∧¬E.io g∧g<E.base
theorem DL.Ox{P:Program}{E:Cw}{env:Env}(h:DL P E env){W:Wd}(hs:Sep E W){om:Key→List Nat}(ho:∀k,∀b∈om k,∃k',b∈W.om k'):Ou P E.NU W.w (fun b=>∃k,b∈om k):=by
 intro x hx;obtain⟨h1,g,h2,h3,h4⟩:=h.2 x hx;have hg:W.w.heap[g]?=E.w0.heap[g]?:=hs.frame g h4 h3;refine⟨?_,g,h2,?_,by have:=hs.size;omega⟩
 ·unfold World.var? at h1 ⊢;rw[h2]at h1 ⊢;simp only[Option.bind_some]at h1 ⊢;rw[hg];exact h1
 ·rintro ⟨k,hb⟩
  obtain⟨k',hb⟩:=ho k g hb;rcases(hs.own k' g hb).2.2 with h5|h5
  ·omega
  ·exact h3 h5
section
variable {P:Program}{E:Cw}{s s':St}{W W':Wd}{v:Nat}{tm:Array Value}
theorem AW.MK(h:AW E s tm W)(hv:Ad s v)(tU:Jc s s')(chk:Nat→Nat→Prop)(chb:Nat→Prop)
  (hl:∀r j,¬chk r j→s'.leaf r j=s.leaf r j) (uJ:∀r,¬chb r→∀j,W'.cv r j=W.cv r j) (hcb:∀r j,chb r→chk r j) (yV:∀r,W'.bk r=W.bk r)
  (wa:∀r j,¬chk r j→W'.om (.lf r j)=W.om (.lf r j)) (homb:∀r,W'.om (.AX r)=W.om (.AX r))
  (hw:∀b,(W.fz b∨(∃r,¬chb r∧b∈W.om (.AX r))∨∃r j,¬chk r j∧b∈W.om (.lf r j))→W'.w.heap[b]?=W.w.heap[b]?) (vO:∀b,W.fz b→W'.fz b)
  (tR:∀(r j AA gen:Nat)(t:TypeId)(e:Ls)(xs:List e.D)(d:Nat),chk r j→s'.leaf r j=.arr AA gen t e xs d→AA≠v→¬chb r∧∃gen0 t0 xs0 d0,s.leaf r j=.arr AA gen0 t0 e xs0 d0∧(gen≠v→gen=gen0∧W'.w=W.w))
  (va:Sep E W') (uU:EN v s s' W W'→∀r j,chk r j→Aa s' W' (s'.leaf r j) (W'.cv r j) (W'.om (.lf r j)))
  (uR:∀r,chb r→(s.root r).box=true→∃(arr:Array Value) (T:TypeId) (fr:Nat×Nat),W'.w.heap[W.bk r]?=some (.cells arr T fr)∧(∀j,j<arr.size→¬(fr.1≤j∧j<fr.2))∧arr.size=(s.root r).ls.length∧∀j,W'.cv r j=arr[j]?):AW E s' tm W':=by
 have uH:EN v s s' W W':={
  fz:=vO
  LN:=fun b hb=>hw b (.inl hb)
  leaf:=by
   intro r j AA gen t e xs d yH tj;by_cases hc:chk r j
   ·obtain⟨hb,gen0,t0,xs0,d0,vP,hg⟩:=tR r j AA gen t e xs d hc yH tj;refine⟨uJ r hb j,gen0,t0,xs0,d0,vP,fun hgv=>?_⟩;obtain⟨h1,h2⟩:=hg hgv;exact⟨h1,fun p h' e' u hc hn=>by rw[h2];exact hn⟩
   ·rw[hl r j hc]at yH;refine⟨uJ r (fun hb=>hc (hcb r j hb)) j,gen,t,xs,d,yH,fun _=>⟨rfl,fun p h' e' u' uW hn=>?_⟩⟩;obtain⟨u0,uv,te⟩:=(h.roots r).row yH;rw[uW]at uv;injection uv with uv;subst uv
    exact BN p te hn fun b hb=>hw b (hb.elim (fun hb=>.inr (.inr ⟨r,j,hc,hb⟩)) .inl)
  box:=fun r hb tj=>⟨(tU.box r).1▸hb,(tU.box r).2.1.symm,yV r⟩ }
 refine h.IA hv uH va (by rw[tU.sl,h.DH]) (by rw[tU.len,h.B0]) (fun t=>.inl ⟨by show nth _ s'.sl t=_;rw[tU.sl];rfl,rfl⟩) ?_;intro r;obtain⟨h1,h2⟩:=h.roots r;refine⟨fun j=>?_,?_⟩
 ·show Aa s' W' (s'.leaf r j) (W'.cv r j) (W'.om (.lf r j));by_cases hc:chk r j
  ·exact uU uH r j hc
  ·rw[hl r j hc,uJ r (fun hb=>hc (hcb r j hb)) j,wa r j hc];exact Aa.Dq uH (LA.Dy hv r j) (fun b hb=>hw b (.inr (.inr ⟨r,j,hc,hb⟩))) (h1 j)
 ·rw[(tU.box r).1,homb,yV];split
  ·rename_i hb;rw[AAK hb]at h2;obtain⟨vZ,u1,T',yQ,wi,a1,a2,a3⟩:=h2;refine⟨vZ,?_⟩;by_cases hc:chb r
   ·obtain⟨arr,T,fr,q1,q2,q3,q4⟩:=uR r hc hb;exact⟨arr,T,fr,q1,q2,by rw[q3,(tU.box r).2.2],q4⟩
   ·exact⟨u1,T',yQ,(hw _ (.inr (.inl ⟨r,hc,by rw[vZ];simp⟩))).trans wi,a1,by rw[(tU.box r).2.2];exact a2,fun j=>(uJ r hc j).trans (a3 j)⟩
  ·rename_i hb;rw[AAM hb]at h2;exact h2
structure Up where
 r:Nat
 lo:Nat
 news:List LA
def El(us:List Up):List Wr:=us.flatMap fun u=>BA u.r u.lo u.news
theorem IN:∀(us:List Up)(s:St),(∀u∈us,(u.news=[]∨u.r<s.ro.length)∧u.lo+u.news.length≤(s.root u.r).ls.length)→Jc s (s.app (El us))∧
  ∀r j,(s.app (El us)).leaf r j=us.foldl (fun a u=>if r=u.r∧u.lo≤j∧j<u.lo+u.news.length then nth .bad u.news (j-u.lo)else a) (s.leaf r j)
 | [],s,h=>⟨⟨rfl,rfl,fun _=>⟨rfl,rfl,rfl⟩⟩,fun r j=>rfl⟩
 |u::us,s,h=>by
  obtain⟨hr,hf⟩:=h u (by simp);obtain⟨h1,h2⟩:=EA u.r u.news u.lo s hr hf
  obtain⟨h3,h4⟩:=IN us (s.app (BA u.r u.lo u.news)) fun x hx=>by
   obtain⟨q1,q2⟩:=h x (AAJ _ hx);exact⟨by rw[h1.len];exact q1,by rw[(h1.box x.r).2.2];exact q2⟩
  have he:s.app (El (u::us))=(s.app (BA u.r u.lo u.news)).app (El us):=by show s.app (BA u.r u.lo u.news++El us)=_;rw[BC]
  rw[he];refine⟨⟨h3.sl.trans h1.sl,h3.len.trans h1.len,fun x=>⟨(h3.box x).1.trans (h1.box x).1,(h3.box x).2.1.trans (h1.box x).2.1,(h3.box x).2.2.trans (h1.box x).2.2⟩⟩,fun r j=>?_⟩;rw[h4,h2];rfl
end
end Go.Ev
namespace Go.Ev
theorem CR.uniq{α:Type}{n:Nat}{R R':(Nat→Option Value)→α→List Nat→Prop}{own:Bool}{w:World}{fz tW:Nat→Prop}{v:Value}{xs u6:List α}{o o':List Nat}
  (h:CR n R own w fz v xs o) (h':CR n R' own w tW v u6 o') (hr:∀g x y p q,R g x p→R' g y q→x=y∧p=q):xs=u6∧o=o':=by
 obtain⟨A,c,hv,hc,h⟩:=h;obtain⟨A',c',vE,uW,h'⟩:=h';rw[hv]at vE;injection vE with e1 e2 e3
 subst e1;subst e3;cases A with
 |none=>
  have z1:xs=[]:=AAP (by have:=h.1;omega);grind
 |some a=>
  by_cases hc0:c=0
  ·have z1:xs=[]:=AAP (by omega);have z2:u6=[]:=AAP (by omega);subst z1;subst z2;refine⟨rfl,?_⟩;cases own with
   |true=>
    grind
   |false=>
    grind
  ·rcases h with⟨_,h,_⟩|⟨g,os,tY,uD,ho⟩
   ·omega
   rcases h' with⟨_,h,_⟩|⟨g',ui,xG,hel',vZ⟩
   ·omega
   have yO:g=g':=by funext j;rw[←tY.cell j,←xG.cell j]
   subst yO;have hlen:xs.length=u6.length:=e2;have vm:∀i (h1:i<xs.length) (h2:i<u6.length),xs[i]=u6[i]∧os i=ui i:=fun i h1 h2=>hr _ _ _ _ _ (uD i h1) (hel' i h2);have hxs:xs=u6:=List.ext_getElem hlen fun i h1 h2=>(vm i h1 h2).1;refine⟨hxs,?_⟩;cases own with
   |true=>
    have ho:o=a.block::(List.range xs.length).flatMap os:=ho;have vZ:o'=a.block::(List.range u6.length).flatMap ui:=vZ;rw[ho,vZ,←hlen];congr 1
    have:∀(l:List Nat),(∀i∈l,i<xs.length)→l.flatMap os=l.flatMap ui:=by
     intro l
     induction l with
     |nil=>intro _;rfl
     |cons i l ih=>
      intro hi;rw[AAj,AAj,ih fun k hk=>hi k (AAJ _ hk),(vm i (hi i AAe) (hlen▸hi i AAe)).2]
    grind
   |false=>grind
mutual
theorem L.Ex:∀(l:L) {d:Nat} {w:World} {fz tW:Nat→Prop} {v:Value} {x y:l.D} {o p:List Nat},l.rd d w fz v x o→l.rd d w tW v y p→x=y∧o=p
 | .int _,_,_,_,_,_,_,_,_,_,h,h'=>by
  have:=h.1.symm.trans h'.1;injection this with _ e
  exact⟨e,h.2.trans h'.2.symm⟩
 | .bool,_,_,_,_,_,_,_,_,_,h,h'=>by
  have:=h.1.symm.trans h'.1;injection this with e
  exact⟨e,h.2.trans h'.2.symm⟩
 | .str,_,_,_,_,_,x,y,_,_,h,h'=>by
  have:=h.1.symm.trans h'.1;injection this with e
  have e2:List.toArray (show List UInt8 from x)=List.toArray (show List UInt8 from y):=by injection e
  have e3:(show List UInt8 from x)=(show List UInt8 from y):=by have:=congrArg Array.toList e2;simpa using this
  exact⟨e3,h.2.trans h'.2.symm⟩
 | .sl _ e,d,w,fz,tW,v,x,y,o,p,h,h'=>by rw[L.Iy]at h h';exact CR.uniq h h' fun g a b q r h1 h2=>Ls.Ex e h1 h2
theorem Ls.Ex:∀(ls:Ls) {d:Nat} {w:World} {fz tW:Nat→Prop} {g:Nat→Option Value} {x y:ls.D} {o p:List Nat},ls.rd d w fz g x o→ls.rd d w tW g y p→x=y∧o=p
 | .nil,_,_,_,_,_,x,y,_,_,h,h'=>⟨by cases x;cases y;rfl,by rw[show _=_ from h,show _=_ from h']⟩
 | .one l,_,_,_,_,_,_,_,_,_,h,h'=>by
  simp only[Ls.rd]at h h';obtain⟨v,hv,h⟩:=h;obtain⟨v',vE,h'⟩:=h';rw[hv]at vE;injection vE with vE;subst vE
  exact L.Ex l h h'
 | .cons l ls,_,_,_,_,_,x,y,_,_,h,h'=>by
  simp only[Ls.rd]at h h';obtain⟨v,o1,o2,hv,h1,h2,rfl⟩:=h;obtain⟨v',p1,p2,vE,vc,wO,rfl⟩:=h';rw[hv]at vE;injection vE with vE;subst vE
  obtain⟨a1,a2⟩:=L.Ex l h1 vc;obtain⟨b1,b2⟩:=Ls.Ex ls h2 wO;exact⟨Prod.ext a1 b1,by rw[a2,b2]⟩
end
theorem AD.uniq{e:Ls}{d:Nat}{w:World}{fz tW:Nat→Prop}{v:Value}{xs ys:List e.D}{o p:List Nat}(h:AD e d w fz v xs o)(h':AD e d w tW v ys p):xs=ys∧o=p:=
 L.Ex (.sl 0 e) h h'
def Nc(o p o' q:List Nat):Prop:=q.Nodup∧∀b∈q,b∈o'∨(b∈o∧b∉p)
structure NX(w w':World)(fz tW:Nat→Prop)(o p o':List Nat):Prop where
 nd:o'.Nodup
 new:∀b∈o',b∈o→b∈p
 rest:∀b,(b∈o∧b∉p)∨fz b→w'.heap[b]?=w.heap[b]?
 fz:∀b,fz b→tW b
theorem Hv{G:(t:TypeId)→(f:Ls)→Option (List f.D→List f.D)}{d:Nat}{w:World}{fz:Nat→Prop}:∀(e:Ls)(j:Nat) {F:e.D→e.D} {g:Nat→Option Value} {x:e.D} {o:List Nat} {t:TypeId} {f:Ls} {h:Value},
  CO e j G=some F→e.kinds[j]?=some (.sl t f)→e.rd d w fz g x o→g j=some h→o.Nodup→
  ∃fn ys p,G t f=some fn∧AD f d w fz h ys p∧(∀b∈p,b∈o)∧p.Nodup∧∀w' tW o',AD f d w' tW h (fn ys) o'→NX w w' fz tW o p o'→∃q,e.rd d w' tW g (F x) q∧Nc o p o' q
 | .nil,j,F,g,x,o,t,f,h,hm,hk,hr,hg,hn=>by simp[Ls.kinds]at hk
 | .one l,j+1,F,g,x,o,t,f,h,hm,hk,hr,hg,hn=>by simp[Ls.kinds]at hk
 | .one l,0,F,g,x,o,t,f,h,hm,hk,hr,hg,hn=>by
  simp[Ls.kinds]at hk;subst hk;simp only[Ls.rd]at hr;obtain⟨v,hv,hr⟩:=hr;rw[hg]at hv;injection hv with hv;subst hv
  simp only[CO]at hm;exact⟨F,x,o,hm,hr,fun b hb=>hb,hn,fun w' tW o' uS hs=>⟨o',⟨h,hg,uS⟩,hs.nd,fun b hb=>.inl hb⟩⟩
 | .cons l ls,0,F,g,x,o,t,f,h,hm,hk,hr,hg,hn=>by
  simp[Ls.kinds]at hk;subst hk;simp only[Ls.rd]at hr;obtain⟨v,o1,o2,hv,hr,yq,rfl⟩:=hr;rw[hg]at hv;injection hv with hv;subst hv
  simp only[CO]at hm;split at hm
  ·rename_i fn yF;injection hm with hm;subst hm
   obtain⟨n1,n2,n3⟩:=AAV.1 hn;refine⟨fn,x.1,o1,yF,hr,fun b hb=>AAQ _ hb,n1,fun w' tW o' uS hs=>⟨o'++o2,⟨h,o',o2,hg,uS,?_,rfl⟩,?_,?_⟩⟩
   ·exact Ls.AJ ls yq (fun b hb=>hs.rest b (hb.imp (fun hb=>⟨AAO _ hb,fun th=>n3 b th b hb rfl⟩) id)) hs.fz
   ·refine AAV.2 ⟨hs.nd,n2,fun b hb c hc e=>?_⟩;subst e;exact n3 b (hs.new b hb (AAO _ hc)) b hc rfl
   grind
  ·cases hm
 | .cons l ls,j+1,F,g,x,o,t,f,h,hm,hk,hr,hg,hn=>by
  simp only[Ls.rd]at hr;obtain⟨v,o1,o2,hv,hr,yq,rfl⟩:=hr;simp only[CO]at hm;split at hm
  ·rename_i F2 hF;injection hm with hm;subst hm
   obtain⟨n1,n2,n3⟩:=AAV.1 hn;obtain⟨fn,ys,p,h1,h2,h3,h4,h5⟩:=Hv ls j (g:=fun j=>g (j+1)) hF (by simpa[Ls.kinds]using hk) yq hg n2;refine⟨fn,ys,p,h1,h2,fun b hb=>AAO _ (h3 b hb),h4,fun w' tW o' uS hs=>?_⟩;obtain⟨q,hq,hq1,xk⟩:=h5 w' tW o' uS ⟨hs.nd,fun b hb th=>hs.new b hb (AAO _ th),fun b hb=>hs.rest b (hb.imp (fun hb=>⟨AAO _ hb.1,hb.2⟩) id),hs.fz⟩;have xN:∀b∈o1,b∉p:=fun b hb hp=>n3 b hb b (h3 b hp) rfl;refine⟨o1++q,⟨v,o1,q,hv,?_,hq,rfl⟩,?_,?_⟩
   ·exact L.AJ l hr (fun b hb=>hs.rest b (hb.imp (fun hb=>⟨AAQ _ hb,xN b hb⟩) id)) hs.fz
   ·refine AAV.2 ⟨n1,hq1,fun b hb c hc e=>?_⟩;subst e;rcases xk b hc with h6|h6
    ·exact xN b hb (hs.new b h6 (AAQ _ hb))
    ·exact n3 b hb b h6.1 rfl
   grind
  ·cases hm
theorem FN{os:Nat→List Nat}:∀ {l:List Nat},l.Nodup→(∀i∈l,(os i).Nodup)→(∀i∈l,∀j∈l,i≠j→∀b∈os i,b∉os j)→(l.flatMap os).Nodup
 | [],_,_,_=>by simp
 |x::l,h,h1,h2=>by obtain⟨hx,hl⟩:=AAY.1 h;rw[AAj];refine AAV.2 ⟨h1 x AAe,FN hl (fun i hi=>h1 i (AAJ _ hi)) (fun i hi j hj=>h2 i (AAJ _ hi) j (AAJ _ hj)),fun b hb c hc e=>?_⟩;grind
theorem Nu{G:(t:TypeId)→(f:Ls)→Option (List f.D→List f.D)}{w:World}{fz:Nat→Prop}:∀(p:List (Nat×Nat)) {t:TypeId} {e:Ls} {d:Nat} {h:Value} {xs:List e.D} {o:List Nat} {e':Ls} {v:Value} {F:List e.D→List e.D},
  Hu G p t e=some F→AD e d w fz h xs o→JW w p e h e' v→(p≠[]→d=2)→o.Nodup→
  ∃t' fn ys po,G t' e'=some fn∧AD e' d w fz v ys po∧(∀b∈po,b∈o)∧po.Nodup∧∀w' tW o',AD e' d w' tW v (fn ys) o'→NX w w' fz tW o po o'→∃q,AD e d w' tW h (F xs) q∧Nc o po o' q
 | [],t,e,d,h,xs,o,e',v,F,hm,hr,hn,hp,ur=>by obtain⟨rfl,rfl⟩:=hn;exact⟨t,F,xs,o,hm,hr,fun b hb=>hb,ur,fun w' tW o' uS hs=>⟨o',uS,hs.nd,fun b hb=>.inl hb⟩⟩
 |(i,j)::p,t,e,d,h,xs,o,e',v,F,hm,hr,hn,hp,ur=>by
  have hd:d=2:=hp (by simp);subst hd;obtain⟨a,len,c,t',f,h',rfl,hs,hi,hk,hc,hn⟩:=hn;obtain⟨A,cc,hv,hle,xH⟩:=hr;injection hv with hA hl hcc
  subst hA;subst hl;subst hcc;rcases xH with⟨h0,_⟩|⟨g,os,tY,uD,ho⟩
  ·simp at h0
  have ho:o=a.block::(List.range xs.length).flatMap os:=ho;have uD:∀i (h:i<xs.length),e.rd 2 w fz (fun j=>g (i*e.n+j)) xs[i] (os i):=uD;simp only[Hu]at hm;split at hm
  ·rename_i H hH;injection hm with hm;subst hm
   rw[ho]at ur;obtain⟨nb,nf⟩:=AAY.1 ur;have uV:∀m,m<xs.length→(os m).Nodup:=fun m hm=>Bt nf (AAR.2 hm);have uj:∀m,m<xs.length→∀k,k<xs.length→m≠k→∀b∈os m,b∉os k:=fun m hm k hk tj=>CV nf (AAR.2 hm) (AAR.2 hk) tj;have u4:∀m,m<xs.length→a.block∉os m:=fun m hm hb=>nb (AAI.2 ⟨m,AAR.2 hm,hb⟩);have hg:g (i*e.n+j)=some h':=by rw[←tY.cell];exact hc
   obtain⟨fn,ys,po,h1,h2,h3,h4,h5⟩:=Hv e j hH hk (uD i hi) hg (uV i hi);obtain⟨t2,fn2,zs,po2,g1,g2,g3,g4,g5⟩:=Nu p h1 h2 hn (fun _=>rfl) h4;have tS:∀m,m<xs.length→∀b∈os m,b∈o:=fun m hm b hb=>by rw[ho];exact AAJ _ (AAI.2 ⟨m,AAR.2 hm,hb⟩)
   refine⟨t2,fn2,zs,po2,g1,g2,fun b hb=>tS i hi b (h3 b (g3 b hb)),g4,fun w' tW o' uS v7=>?_⟩;obtain⟨q1,hq1,vC,hb1'⟩:=g5 w' tW o' uS ⟨v7.nd,fun b hb th=>v7.new b hb (tS i hi b (h3 b th)),fun b hb=>v7.rest b (hb.imp (fun hb=>⟨tS i hi b (h3 b hb.1),hb.2⟩) id),v7.fz⟩;have yp:∀b∈po2,b∈os i:=fun b hb=>h3 b (g3 b hb)
   obtain⟨q2,xk,wA,hb2'⟩:=h5 w' tW q1 hq1 ⟨vC,fun b hb th=>by
     rcases hb1' b hb with h6|h6
     ·exact g3 b (v7.new b h6 (tS i hi b th))
     ·exact h6.1,fun b hb=>v7.rest b (hb.imp (fun hb=>⟨tS i hi b hb.1,fun h7=>hb.2 (g3 b h7)⟩) id),v7.fz⟩
   have hq2o:∀b∈q2,b∈o'∨(b∈os i∧b∉po2):=by
    intro b hb;rcases hb2' b hb with h6|h6
    ·rcases hb1' b h6 with h7|h7
     ·exact .inl h7
     ·exact .inr ⟨h3 b h7.1,h7.2⟩
    ·exact .inr ⟨h6.1,fun h7=>h6.2 (g3 b h7)⟩
   let ui:Nat→List Nat:=fun m=>if m=i then q2 else os m
   have xG:Row w' a (c*e.n) true g:=tY.frame (v7.rest _ (.inl ⟨by rw[ho];simp,fun h7=>u4 i hi (yp _ h7)⟩));have hlen:(xs.modify i H).length=xs.length:=by simp
   refine⟨a.block::(List.range xs.length).flatMap ui,⟨some a,c,by simp,by simpa using hle,.inr ⟨g,ui,xG,fun m hm=>?_,?_⟩⟩,?_,?_⟩
   ·have vM:m<xs.length:=by simpa using hm
    show e.rd 2 w' tW _ (xs.modify i H)[m] (ui m);rw[List.getElem_modify];by_cases vp:i=m
    ·subst vp;rw[AAK rfl,show ui i=q2 from AAK rfl];exact xk
    ·rw[AAM vp,show ui m=os m from AAM fun e=>vp e.symm];exact Ls.AJ e (uD m vM) (fun b hb=>v7.rest b (hb.imp (fun hb=>⟨tS m vM b hb,fun h7=>uj m vM i hi (fun e=>vp e.symm) b hb (yp b h7)⟩) id)) v7.fz
   ·show a.block::(List.range xs.length).flatMap ui=a.block::(List.range (xs.modify i H).length).flatMap ui;rw[hlen]
   ·refine AAY.2 ⟨fun hb=>?_,FN List.nodup_range (fun m hm=>?_) (fun m hm k hk tj b hb th=>?_)⟩
    ·obtain⟨m,hm,hb⟩:=AAI.1 hb;have hm:=AAR.1 hm;by_cases vp:m=i
     ·subst vp;rw[show ui m=q2 from AAK rfl]at hb;rcases hq2o _ hb with h6|h6
      ·exact u4 m hm (yp _ (v7.new _ h6 (by rw[ho];simp)))
      ·exact u4 m hm h6.1
     ·rw[show ui m=os m from AAM vp]at hb;exact u4 m hm hb
    ·have hm:=AAR.1 hm;by_cases vp:m=i
     ·rw[show ui m=q2 from AAK vp];exact wA
     ·rw[show ui m=os m from AAM vp];exact uV m hm
    ·have hm:=AAR.1 hm;have hk:=AAR.1 hk;by_cases vp:m=i
     ·have hki:k≠i:=fun e=>tj (vp.trans e.symm);rw[show ui m=q2 from AAK vp]at hb;rw[show ui k=os k from AAM hki]at th;rcases hq2o b hb with h6|h6
      ·exact uj k hk i hi hki b th (yp b (v7.new b h6 (tS k hk b th)))
      ·exact uj k hk i hi hki b th h6.1
     ·rw[show ui m=os m from AAM vp]at hb;by_cases hki:k=i
      ·rw[show ui k=q2 from AAK hki]at th;rcases hq2o b th with h6|h6
       ·exact uj m hm i hi vp b hb (yp b (v7.new b h6 (tS m hm b hb)))
       ·exact uj m hm i hi vp b hb h6.1
      ·rw[show ui k=os k from AAM hki]at th;exact uj m hm k hk tj b hb th
   grind
  ·cases hm
theorem Im{β:Type}{d:Nat}{w:World}{fz:Nat→Prop}{k:(t:TypeId)→(f:Ls)→List f.D→Step β}{t:β}:∀(e:Ls)(j:Nat) {g:Nat→Option Value} {x:e.D} {o:List Nat} {t':TypeId} {f:Ls} {h:Value},
  (JG e j x k).leads t→e.rd d w fz g x o→e.kinds[j]?=some (.sl t' f)→g j=some h→o.Nodup→∃(ys:List f.D) (o':List Nat),(k t' f ys).leads t∧AD f d w fz h ys o'∧(∀b∈o',b∈o)∧o'.Nodup
 | .nil,j,_,_,_,_,_,_,hl,_,_,_,_=>hl.elim
 | .one l,0,g,x,o,t',f,h,hl,hr,hk,hg,hn=>by
  simp only[Ls.rd]at hr;obtain⟨v,hv,hr⟩:=hr;simp[Ls.kinds]at hk;subst hk;rw[hg]at hv;injection hv with hv;subst hv
  exact⟨x,o,hl,hr,fun b hb=>hb,hn⟩
 | .one _,_+1,_,_,_,_,_,_,hl,_,_,_,_=>hl.elim
 | .cons l ls,0,g,x,o,t',f,h,hl,hr,hk,hg,hn=>by
  simp only[Ls.rd]at hr;obtain⟨v,o1,o2,hv,hr,yq,rfl⟩:=hr;simp[Ls.kinds]at hk;subst hk;rw[hg]at hv;injection hv with hv;subst hv
  exact⟨x.1,o1,hl,hr,fun b hb=>AAQ _ hb,(AAV.1 hn).1⟩
 | .cons l ls,j+1,g,x,o,t',f,h,hl,hr,hk,hg,hn=>by simp only[Ls.rd]at hr;obtain⟨v,o1,o2,hv,hr,yq,rfl⟩:=hr;obtain⟨ys,o',a,b,c,d⟩:=Im ls j (g:=fun j=>g (j+1)) hl yq (by simpa[Ls.kinds]using hk) hg (AAV.1 hn).2.1;grind
theorem Fk{β:Type}{w:World}{fz:Nat→Prop}{k:(t:TypeId)→(e:Ls)→List e.D→Nat→Step β}{z:β}:∀(p:List (Nat×Nat)) {t0:TypeId} {e:Ls} {xs:List e.D} {d:Nat} {h:Value} {o:List Nat} {e':Ls} {v:Value},
  (OQ k p t0 e xs d).leads z→AD e d w fz h xs o→JW w p e h e' v→(p≠[]→d=2)→o.Nodup→∃(t':TypeId) (ys:List e'.D) (o':List Nat),(k t' e' ys d).leads z∧AD e' d w fz v ys o'∧(∀b∈o',b∈o)∧o'.Nodup
 | [],t0,e,xs,d,h,o,e',v,hl,hr,hn,hp,ur=>by obtain⟨rfl,rfl⟩:=hn;exact⟨t0,xs,o,hl,hr,fun b hb=>hb,ur⟩
 |(i,j)::p,t0,e,xs,d,h,o,e',v,hl,hr,hn,hp,ur=>by
  have hd:d=2:=hp (by simp);subst hd;obtain⟨a,len,c,t',f,h',rfl,hs,hi,hk,hc,hn⟩:=hn;obtain⟨A,cc,hv,hle,xH⟩:=hr;injection hv with hA uz hcc
  subst hA;subst uz;subst hcc;rcases xH with⟨h0,_⟩|⟨g,os,tY,uD,ho⟩
  ·simp at h0
  have ho:o=a.block::(List.range xs.length).flatMap os:=ho;have uD:∀i (h:i<xs.length),e.rd 2 w fz (fun j=>g (i*e.n+j)) xs[i] (os i):=uD;obtain⟨x,hx,hl⟩:=hl;rw[AAF hi]at hx;injection hx with hx;subst hx
  have hg:g (i*e.n+j)=some h':=by rw[←tY.cell];exact hc
  rw[ho]at ur;obtain⟨nb,nf⟩:=AAY.1 ur;obtain⟨ys,o',hl,te,uX,hnd'⟩:=Im e j hl (uD i hi) hk hg (Bt nf (AAR.2 hi));obtain⟨t2,zs,o2,hl,hz,w5,xB⟩:=Fk p hl te hn (fun _=>rfl) hnd';exact⟨t2,zs,o2,hl,hz,fun b hb=>by grind,xB⟩
end Go.Ev
namespace Go.Ev
def GR(ovs:Nat→List Nat)(o:List Nat):Prop:=(∀m,(ovs m).Nodup)∧(∀m m',m≠m'→∀b∈ovs m,b∉ovs m')∧∀m,∀b∈ovs m,b∉o
theorem GR.sub{ovs:Nat→List Nat}{o o':List Nat}(h:GR ovs o)(hs:∀b∈o',b∈o):GR ovs o':=⟨h.1,h.2.1,fun m b hb th=>h.2.2 m b hb (hs b th)⟩
theorem B4{w:World}{fz:Nat→Prop}{d:Nat}{ovs:Nat→List Nat}:∀(e:Ls)(off:Nat)(vs:List Lv)(cells:List Value)(sh:Nat) {f:e.D→e.D} {g g':Nat→Option Value} {x:e.D} {o:List Nat},Bv e off vs=some f→cells.length=vs.length→
  (∀(m:Nat)(lv:Lv),vs[m]?=some lv→∃u,cells[m]?=some u∧lv.l.rd d w fz u lv.x (ovs (sh+m)))→e.rd d w fz g x o→(∀m,m<e.n→g' m=if off≤m∧m<off+vs.length then cells[m-off]? else g m)→
  off+vs.length≤e.n∧∃o',e.rd d w fz g' (f x) o'∧(∀b∈o',b∈o∨∃m,sh≤m∧b∈ovs m)∧(o.Nodup→GR ovs o→o'.Nodup)
 | .nil,off,vs,cells,sh,f,g,g',x,o,hf,hl,hp,hr,hg=>by simp[Bv]at hf
 | .one l,off,vs,cells,sh,f,g,g',x,o,hf,hl,hp,hr,hg=>by
  simp only[Bv]at hf;split at hf
  ·rename_i v;split at hf
   ·rename_i y hy;injection hf with hf;subst hf
    obtain⟨l',z⟩:=v;obtain⟨e1,e2⟩:=L.AH hy;dsimp only at e1;subst e1;have e2:z=y:=e2;subst e2;obtain⟨u,hu,tu⟩:=hp 0 ⟨l',z⟩ rfl;refine⟨by simp[Ls.n],ovs sh,?_,fun b hb=>.inr ⟨sh,AAd _,hb⟩,fun _ hn=>hn.1 sh⟩;simp only[Ls.rd];refine⟨u,?_,by omega⟩;rw[hg 0 (by simp[Ls.n]),AAK (by simp),←hu]
   ·cases hf
  ·cases hf
 | .cons l ls,off,vs,cells,sh,f,g,g',x,o,hf,hl,hp,hr,hg=>by
  simp only[Bv]at hf;simp only[Ls.rd]at hr;obtain⟨v0,o1,o2,yP,h1,h2,rfl⟩:=hr;cases off with
  |zero=>
   simp only at hf;split at hf
   ·cases hf
   ·rename_i v;split at hf
    ·rename_i y hy;injection hf with hf;subst hf
     obtain⟨l',z⟩:=v;obtain⟨e1,e2⟩:=L.AH hy;dsimp only at e1;subst e1;have e2:z=y:=e2;subst e2;obtain⟨u,hu,tu⟩:=hp 0 ⟨l',z⟩ rfl;refine⟨by simp[Ls.n]<;>omega,ovs sh++o2,?_,fun b hb=>?_,fun hn hk=>?_⟩
     ·simp only[Ls.rd];refine⟨u,ovs sh,o2,?_,by omega,Ls.BD ls h2 fun j hj=>by rw[hg (j+1) (by simp[Ls.n]<;>omega),AAM (by simp)],rfl⟩;rw[hg 0 (by simp[Ls.n]<;>omega),AAK (by simp),←hu]
     ·grind
     ·refine AAV.2 ⟨hk.1 sh,(AAV.1 hn).2.1,fun a ha b hb e=>?_⟩;subst e;exact hk.2.2 sh a ha (AAO _ hb)
    ·cases hf
   ·rename_i v u0 wb;split at hf
    ·rename_i y f' hy xK;injection hf with hf;subst hf
     obtain⟨l',z⟩:=v;obtain⟨e1,e2⟩:=L.AH hy;dsimp only at e1;subst e1;have e2:z=y:=e2;subst e2;obtain⟨u,hu,tu⟩:=hp 0 ⟨l',z⟩ rfl
     obtain⟨c0,cs,rfl⟩:∃c0 cs,cells=c0::cs:=by
      cases cells with
      |nil=>simp at hl
      |cons c cs=>grind
     obtain⟨ih1,o',ih2,ih3,ih4⟩:=B4 ls 0 (u0::wb) cs (sh+1) (g':=fun j=>g' (j+1)) xK (by grind) (fun m lv hm=>by
       have:=hp (m+1) lv (by grind);rw[show sh+(m+1)=sh+1+m by omega]at this;simpa using this) h2 (fun m hm=>by
       rw[hg (m+1) (by simp[Ls.n]<;>omega)];grind)
     refine⟨by simp[Ls.n]at ih1 ⊢ <;> omega,ovs sh++o',?_,fun b hb=>?_,fun hn hk=>?_⟩
     ·simp only[Ls.rd];refine⟨u,ovs sh,o',?_,by omega,ih2,rfl⟩;rw[hg 0 (by simp[Ls.n]<;>omega),AAK (by simp),←hu]
     ·grind
     ·refine AAV.2 ⟨hk.1 sh,ih4 (AAV.1 hn).2.1 (hk.sub fun b hb=>AAO _ hb),fun a ha b hb e=>?_⟩;subst e;rcases ih3 a hb with hb|⟨m,hm,hb⟩
      ·exact hk.2.2 sh a ha (AAO _ hb)
      ·exact hk.2.1 sh m (by omega) a ha hb
    ·cases hf
  |succ off=>
   simp only at hf;split at hf
   ·rename_i f' xK;injection hf with hf;subst hf
    obtain⟨ih1,o',ih2,ih3,ih4⟩:=B4 ls off vs cells sh (g':=fun j=>g' (j+1)) xK hl hp h2 (fun m hm=>by
     rw[hg (m+1) (by simp[Ls.n]<;>omega)];grind)
    refine⟨by simp[Ls.n]<;>omega,o1++o',?_,fun b hb=>?_,fun hn hk=>?_⟩
    ·simp only[Ls.rd];refine⟨v0,o1,o',?_,h1,ih2,rfl⟩;rw[hg 0 (by simp[Ls.n]<;>omega),AAM (by omega)];exact yP
    ·grind
    ·refine AAV.2 ⟨(AAV.1 hn).1,ih4 (AAV.1 hn).2.1 (hk.sub fun b hb=>AAO _ hb),fun a ha b hb e=>?_⟩;subst e;rcases ih3 a hb with hb|⟨m,_,hb⟩
     ·grind
     ·exact hk.2.2 m a hb (AAQ _ ha)
   ·cases hf
theorem Kz{e:Ls}{w:World}{fz:Nat→Prop}{a:Addr}{n k:Nat}{xs:List e.D}{o:List Nat}(hr:AD e 2 w fz (.slice (some a) n k) xs o)(hn:o.Nodup)(hz:∀b∈o,¬fz b){i:Nat}(hi:i<n)
  {off:Nat} {cells:List Value} {F:e.D→e.D} {ovs:Nat→List Nat} (hk:GR ovs o) (hkz:∀m,∀b∈ovs m,¬fz b) (uP:off+cells.length≤e.n)
  (hF:∀g g' x oo,e.rd 2 w fz g x oo→(∀m,m<e.n→g' m=if off≤m∧m<off+cells.length then cells[m-off]? else g m)→∃o',e.rd 2 w fz g' (F x) o'∧(∀b∈o',b∈oo∨∃m,b∈ovs m)∧(oo.Nodup→GR ovs oo→o'.Nodup)):
  a.spot=none∧∃arr T fr,w.heap[a.block]?=some (.cells arr T fr)∧(∀j,j<arr.size→¬(fr.1≤j∧j<fr.2))∧a.off+(i*e.n+off)+cells.length≤arr.size∧a.block∈o∧
   ∃o',o'.Nodup∧(∀b∈o',b∈o∨∃m,b∈ovs m)∧∀w',Mu w w' a.block (CD cells (a.off+(i*e.n+off)) arr) T fr→AD e 2 w' fz (.slice (some a) n k) (xs.modify i F) o':=by
 obtain⟨A,c,hv,hc,_,uN⟩:=hr.KM;injection hv with hA hl u7
 subst hA;subst hl;subst u7;obtain⟨arr,T,fr,os,hs,hh,uC,tw,uD,ho,_⟩:=uN a rfl (.inr (by omega));have ho:=ho (by omega);have tw:=tw (by omega)
 have hmul:i*e.n+e.n≤k*e.n:=by have:(i+1)*e.n≤k*e.n:=AAm _ (by omega);rw[AAk,ABR]at this;omega
 have vu:a.off+(i*e.n+off)+cells.length≤arr.size:=by omega
 have tS:a.block∈o:=by rw[ho];simp
 have tv:=CY cells (a.off+(i*e.n+off)) arr vu;have ur:=hn;rw[ho]at ur;obtain⟨xY,xa⟩:=AAY.1 ur;have uf:∀m,m<xs.length→∀b∈os m,b∈o:=fun m hm b hb=>by grind
 obtain⟨oi,te,uX,zR⟩:=hF _ (fun q=>(CD cells (a.off+(i*e.n+off)) arr)[a.off+(i*e.n+q)]?) _ _ (uD i hi) (fun q hq=>by
  show(CD cells (a.off+(i*e.n+off)) arr)[a.off+(i*e.n+q)]?=_;rw[tv];by_cases hc:off≤q∧q<off+cells.length
  ·rw[AAK (by omega),AAK hc];congr 1;omega
  grind)
 have zR:=zR (Bt xa (AAR.2 hi)) (hk.sub (uf i hi))
 let ui:Nat→List Nat:=fun m=>if m=i then oi else os m
 have hos':∀m,m<xs.length→∀b∈ui m,b∈os m∨∃q,b∈ovs q:=by
  intro m hm b hb;simp only[ui]at hb;split at hb
  ·grind
  ·exact .inl hb
 have hnoblk:∀m,m<xs.length→a.block∉ui m:=by
  intro m hm hb;rcases hos' m hm _ hb with hb|⟨q,hb⟩
  ·grind
  ·exact hk.2.2 q _ hb tS
 refine⟨hs,arr,T,fr,hh,tw,vu,tS,a.block::(List.range xs.length).flatMap ui,?_,?_,fun w' tz=>?_⟩
 ·refine AAY.2 ⟨fun hb=>?_,FN List.nodup_range (fun m hm=>?_) fun m hm m' vM tj b hb th=>?_⟩
  ·grind
  ·grind
  ·have hd:=CV xa hm vM tj;simp only[ui]at hb th;split at hb
   ·rename_i e1;split at th
    ·omega
    ·subst e1;rcases uX b hb with hb|⟨q,hb⟩
     ·grind
     ·exact hk.2.2 q b hb (uf m' (AAR.1 vM) b th)
   ·split at th
    ·rename_i e2;subst e2;rcases uX b th with th|⟨q,th⟩
     ·exact hd b hb th
     ·exact hk.2.2 q b th (uf m (AAR.1 hm) b hb)
    grind
 ·grind
 ·refine⟨some a,k,by simp,by simpa using hc,?_⟩;refine .inr ⟨fun q=>(CD cells (a.off+(i*e.n+off)) arr)[a.off+q]?,ui,⟨hs,_,T,fr,tz.here,by rw[Al];exact uC,fun _=>by rw[Al];exact tw,fun _=>rfl⟩,fun m hm=>?_,?_⟩
  ·have vM:m<xs.length:=by simpa using hm
   rw[FU]
   have vY:∀ {g x},e.rd 2 w fz g x (ui m)→e.rd 2 w' fz g x (ui m):=fun h=>Ls.AJ e h (fun b hb=>tz.CL b (by
    rintro rfl
    rcases hb with hb|hb
    ·exact hnoblk m vM hb
    ·exact hz _ tS hb)) fun _ hb=>hb
   by_cases vp:i=m
   ·subst vp;rw[AAK rfl];refine vY ?_;have:ui i=oi:=by simp[ui]
    rw[this];exact te
   ·rw[AAM vp];have:ui m=os m:=by simp only[ui];rw[AAM (fun e=>vp e.symm)]
    refine vY ?_;rw[this];refine Ls.BD e (uD m vM) fun q hq=>?_;show(CD cells (a.off+(i*e.n+off)) arr)[a.off+(m*e.n+q)]?=_;rw[tv,AAM];intro hc;rcases ABM vp with h1|h1
    ·have:(i+1)*e.n≤m*e.n:=AAm _ h1;rw[AAk,ABR]at this;omega
    ·have:(m+1)*e.n≤i*e.n:=AAm _ h1;rw[AAk,ABR]at this;omega
  grind
theorem MJ{vs:List Lv}{cells:List Value}{w:World}{fz:Nat→Prop}{ovs:Nat→List Nat}(hl:cells.length=vs.length)(hp:∀(m:Nat)(lv:Lv),vs[m]?=some lv→∃u,cells[m]?=some u∧lv.l.rd 2 w fz u lv.x (ovs m))(vH:∀m,vs.length≤m→ovs m=[])
  {i off:Nat} {e:Ls} {a:Addr} {n k:Nat} (hi:i<n) {xs:List e.D} {o:List Nat} {f:List e.D→List e.D} (hm:Gv vs [(i,off)] e=some f) (hr:AD e 2 w fz (.slice (some a) n k) xs o) (hn:o.Nodup) (hz:∀b∈o,¬fz b) (hk:GR ovs o) (hkz:∀m,∀b∈ovs m,¬fz b):
  a.spot=none∧∃arr T fr,w.heap[a.block]?=some (.cells arr T fr)∧(∀j,j<arr.size→¬(fr.1≤j∧j<fr.2))∧a.off+(i*e.n+off)+cells.length≤arr.size∧a.block∈o∧
   ∃o',o'.Nodup∧(∀b∈o',b∈o∨∃m,b∈ovs m)∧∀w',Mu w w' a.block (CD cells (a.off+(i*e.n+off)) arr) T fr→AD e 2 w' fz (.slice (some a) n k) (f xs) o':=by
 simp only[Gv]at hm;split at hm
 ·rename_i y hy;injection hm with hm;subst hm
  split at hy
  ·rename_i hc;simp only[AAG,AAS]at hc;obtain⟨rfl,hlen⟩:=hc;have wv:=Aw e vs y hy
   have:=Kz (F:=fun _=>y) (off:=0) (cells:=cells) (ovs:=ovs) hr hn hz hi hk hkz (by omega) (fun g g' x oo hx hg=>⟨_,Dj e (os:=ovs) (fun j lv hj=>by
     grind),fun b hb=>by
     grind,fun _ hk=>EC hk.1 hk.2.1 _⟩)
   simpa only[EE]using this
  ·cases hy
 ·split at hm
  ·rename_i f' xK;injection hm with hm;subst hm
   have yo:∀(m:Nat)(lv:Lv),vs[m]?=some lv→∃u,cells[m]?=some u∧lv.l.rd 2 w fz u lv.x (ovs (0+m)):=fun m lv hm=>by grind
   obtain⟨A,c,hv,hc,_,uN⟩:=hr.KM;injection hv with hA uz u7
   subst hA;subst uz;subst u7;obtain⟨arr,T,fr,os,_,_,_,_,uD,_,_⟩:=uN a rfl (.inr (by omega));have uP:=(B4 e off vs cells 0 (g':=fun m=>if off≤m∧m<off+vs.length then cells[m-off]? else _) xK hl yo (uD i hi) fun m _=>rfl).1
   exact Kz (F:=f') (off:=off) (cells:=cells) (ovs:=ovs) hr hn hz hi hk hkz (by omega) (fun g g' x oo hx hg=>by
    obtain⟨_,o',q1,q2,q3⟩:=B4 e off vs cells 0 (g':=g') (ovs:=ovs) xK hl yo hx fun m hm=>by rw[hg m hm,hl]
    grind)
  ·cases hm
section
variable {P:Program}{E:Cw}{s:St}{W:Wd}{v:Nat}{tm:Array Value}
def Ic(W:Wd)(w':World)(r j:Nat)(o':List Nat)(us:List (Nat×Nat)):Wd:=
 { W with w:=w',om:=fun k=>match k with
   | .lf a b=>if a=r∧b=j then o' else if(a,b)∈us then []else W.om (.lf a b)
   |k=>W.om k }
theorem AW.Lk(h:AW E s tm W)(hv:Ad s v){r j AA gen:Nat}{t:TypeId}{e:Ls}{xs u6:List e.D}(hl:s.leaf r j=.arr AA gen t e xs 2){u:Value}(uJ:W.cv r j=some u){us:List (Nat×Nat)}(zX:(r,j)∉us)
  {w':World} {AX:Nat} (u4:AX∈W.om (.lf r j)) (hw:∀b,b≠AX→w'.heap[b]?=W.w.heap[b]?) (uC:w'.heap.size=W.w.heap.size) (uA:w'.os=W.w.os∧w'.tape=W.w.tape∧w'.output=W.w.output)
  {o':List Nat} (ur:o'.Nodup) (ue:∀b∈o',b∈W.om (.lf r j)∨∃a c,(a,c)∈us∧b∈W.om (.lf a c)) (te:AD e 2 w' W.fz u u6 o'):
  AW E (s.app (gone us++[.leaf r j (.arr AA v t e u6 2)])) tm (Ic W w' r j o' us):=by
 obtain⟨hr,hj⟩:=G7 hl;rw[BC];show AW E ((s.app (gone us)).AF (.leaf r j (.arr AA v t e u6 2))) tm _;obtain⟨w4,wB⟩:=Dv s us;have w5:=BH (s.app (gone us)) r j (.arr AA v t e u6 2);have yg:=Ec (s.app (gone us)) r j (.arr AA v t e u6 2);generalize (s.app (gone us)).AF (.leaf r j (.arr AA v t e u6 2))=s' at w5 yg;have tU:Jc s s':=⟨w5.sl.trans w4.sl,w5.len.trans w4.len,fun x=>⟨(w5.box x).1.trans (w4.box x).1,(w5.box x).2.1.trans (w4.box x).2.1,(w5.box x).2.2.trans (w4.box x).2.2⟩⟩
 have tR:∀a b,s'.leaf a b=if a=r∧b=j then .arr AA v t e u6 2 else if(a,b)∈us then .bad else s.leaf a b:=by
  intro a b;rw[yg,wB];by_cases hc:a=r∧b=j
  ·obtain⟨rfl,rfl⟩:=hc;rw[AAK ⟨rfl,rfl,by rw[w4.len];exact hr,by rw[(w4.box a).2.2];exact hj⟩,AAK ⟨rfl,rfl⟩]
  ·grind
 have wu:∀k,∀b∈W.om k,k≠.lf r j→b≠AX:=fun k b hb hk e=>h.sep.A4 k _ hk b hb (e▸u4);have vO:∀b,W.fz b→b≠AX:=fun b hb e=>(h.sep.own _ _ u4).1 (e▸hb);refine h.MK (W':=Ic W w' r j o' us) hv tU (fun a b=>(a=r∧b=j)∨(a,b)∈us) (fun _=>False) (fun a b hc=>?_) (fun _ _ _=>rfl) (fun _ _ hh=>hh.elim) (fun _=>rfl) (fun a b hc=>?_) (fun _=>rfl) (fun b hb=>?_) (fun b hb=>hb) ?_ ?_ (fun _ a b hc=>?_) (fun _ hh=>hh.elim)
 ·grind
 ·show(if a=r∧b=j then o' else if(a,b)∈us then []else W.om (.lf a b))=_;grind
 ·refine hw b ?_;grind
 ·grind
 ·refine h.sep.IA (W':=Ic W w' r j o' us) (fun k=>match k with
   | .lf a b=>(a=r∧b=j)∨(a,b)∈us
   |_=>False) rfl (by show _≤w'.heap.size;omega) (fun b h1 h2=>hw b fun e=>?_) uA (fun k hk=>?_) (fun k hk=>?_) (fun k k' hk u7 tj b hb th=>?_) fun k hk b hb=>?_
  ·have:=(h.sep.own _ _ u4).2.2;grind
  ·cases k with
   |lf a b=>
    show(if a=r∧b=j then o' else if(a,b)∈us then []else W.om (.lf a b))=_;grind
   |_=>rfl
  ·cases k with
   |lf a b=>
    show(if a=r∧b=j then o' else if(a,b)∈us then []else W.om (.lf a b)).Nodup;grind
   |_=>exact hk.elim
  ·have one:∀k:Key,(match k with | .lf a b=>(a=r∧b=j)∨(a,b)∈us|_=>False)→∀b∈(Ic W w' r j o' us).om k,k=.lf r j:=by
    intro k hk b hb;cases k with
    |lf a c=>
     have hb:b∈(if a=r∧c=j then o' else if(a,c)∈us then []else W.om (.lf a c)):=hb;split at hb
     ·rename_i hh;obtain⟨rfl,rfl⟩:=hh;rfl
     ·rename_i hh;rw[AAK (hk.resolve_left hh)]at hb;cases hb
    |_=>exact hk.elim
   grind
  ·cases k with
   |lf a c=>
    have hb:b∈(if a=r∧c=j then o' else if(a,c)∈us then []else W.om (.lf a c)):=hb;grind
   |_=>exact hk.elim
 ·show Aa s' (Ic W w' r j o' us) (s'.leaf a b) (W.cv a b) (if a=r∧b=j then o' else if(a,b)∈us then []else W.om (.lf a b));rw[tR];by_cases hh:a=r∧b=j
  ·rw[AAK hh,AAK hh];obtain⟨rfl,rfl⟩:=hh;exact⟨u,uJ,te⟩
  ·rw[AAM hh,AAM hh,AAK (hc.resolve_left hh),AAK (hc.resolve_left hh)];exact⟨rfl,fun _ _=>trivial⟩
end
end Go.Ev
namespace Go.Ev
section
variable {P:Program}
theorem Jr{t t0 ty:TypeId}{e:Ls}(uO:P.underlying t=some (.slice t0))(uD:Lr P t0 e)(hf:Bs e=true){w:World}{fz fz2:Nat→Prop}(vO:∀b,fz b→b<w.heap.size){ux uy:Value}{xs ys:List e.D}{o1:List Nat}
  (hx:AD e 2 w fz ux xs o1) (hy:AD e 0 w fz2 uy ys []) (hlen:xs.length+ys.length≤Dh):
  ∃u w',(Builtin.append_ #[t,t] ty #[ux,uy]).run P w=.ok u w'∧(w'.os=w.os∧w'.tape=w.tape∧w'.output=w.output)∧w.heap.size≤w'.heap.size∧(∀b,b<w.heap.size→b∉o1→w'.heap[b]?=w.heap[b]?)∧
   AD e 2 w' fz ux xs o1∧∃o',AD e 2 w' fz u (xs++ys) o'∧∀b∈o',b∈o1∨(w.heap.size≤b∧b<w'.heap.size):=by
 obtain⟨i,hi,uC,yX,z,hz,wz⟩:=uD.info;have wV:=uD.pos;have uT:xs.length+ys.length≤68719476736:=hlen;have hdep:=hx.dep
 have vJ:∃A c g,uy=.slice A ys.length c∧(A=none→ys=[])∧(∀ad,A=some ad→ys≠[]→ad.spot=none∧∀k,w.cell? (at_ ad k)=g k)∧CF e 2 w fz g ys fun _=>[]:=by
  obtain⟨A,c,hv,hc,hn,uN⟩:=hy.KM;cases A with
  |none=>
   have:ys=[]:=AAP (by grind);subst this;exact⟨none,c,fun _=>none,hv,fun _=>rfl,(fun ad u9 _=>by cases u9),(fun i hi=>by simp at hi)⟩
  |some ad=>
   by_cases hc0:c=0
   ·have:ys=[]:=AAP (by omega);subst this;exact⟨some ad,c,fun _=>none,hv,fun _=>rfl,(fun ad u9 tj=>absurd rfl tj),(fun i hi=>by simp at hi)⟩
   obtain⟨arr,T,fr,os,hs,hh,_,_,uD,_,_⟩:=uN ad rfl (.inl (by omega));refine⟨some ad,c,_,hv,(fun hA=>by cases hA),?_,CF.flat hf uD 2 w fz⟩;intro zw u9 _;injection u9 with u9;subst u9
   exact⟨hs,fun k=>by simp[World.cell?,at_,hh]⟩
 obtain⟨A1,c1,hux,hc1,hA1,w4⟩:=hx.KM;obtain⟨A2,c2,g2,huy,zz,w5,vm⟩:=vJ
 have xC:∃news:List Value,news.length=ys.length*e.n∧(∀k,k<ys.length*e.n→news[k]?=g2 k)∧(∀v∈news,v.oneCell'=true)∧
   (Builtin.firstCells i.size ys.length (.slice A2 ys.length c2)).run P w=.ok news.toArray w∧∀ad,A2=some ad→∀j u,news[j]?=some u→w.cell? (ad.add j)=some u:=by
  have uE:=vm.cell
  have vN:∀ad,A2=some ad→∀j u,(BW g2 (ys.length*e.n))[j]?=some u→w.cell? (ad.add j)=some u:=by
   intro ad u9 j u hj;have tX:j<ys.length*e.n:=by have:=(AAH.1 hj).1;rwa[AI]at this
   rw[Bi uE j tX]at hj;obtain⟨hs,hg⟩:=w5 ad u9 (fun h0=>by grind);rw[EO hs,hg,hj]
  refine⟨BW g2 (ys.length*e.n),AI _ _,Bi uE,FM uE,?_,vN⟩;cases hA:A2 with
  |none=>
   have:=zz hA;subst this;rw[run_firstCells_none];simp[BW]
  |some ad=>exact run_firstCells_some w i.size ys.length ad ys.length c2 _ (by rw[AI,uC]) (vN ad hA)
 obtain⟨news,vT,yn,yk,xa,vK⟩:=xC
 have fresh:∀(arr:Array Value)(cap:Nat),xs.length+ys.length≤cap→cap*e.n≤arr.size→CF e 2 w fz (fun k=>arr[k]?) xs (fun _=>[])→(∀k,k<ys.length*e.n→arr[xs.length*e.n+k]?=g2 k)→
   AD e 2 (w.drew.alloc (.cells arr t0)) fz ux xs o1∧(∀b,b<w.heap.size→b∉o1→(w.drew.alloc (.cells arr t0)).heap[b]?=w.heap[b]?)∧w.heap.size≤(w.drew.alloc (.cells arr t0)).heap.size∧
   ∃o',AD e 2 (w.drew.alloc (.cells arr t0)) fz (.slice (some ⟨w.heap.size,0,none⟩) (xs.length+ys.length) cap) (xs++ys) o'∧∀b∈o',b∈o1∨(w.heap.size≤b∧b<(w.drew.alloc (.cells arr t0)).heap.size):=by
  intro arr cap ub uk v8 zt;have hold:∀b,b<w.heap.size→(w.drew.alloc (.cells arr t0)).heap[b]?=w.heap[b]?:=fun b hb=>A7 w.drew _ hb;refine⟨hx.frame (fun b hb=>hold b (hb.elim (hdep b) (vO b))) fun _ hb=>hb,fun b hb _=>hold b hb,by grind,?_⟩
  have vX:CF e 2 (w.drew.alloc (.cells arr t0)) fz (fun k=>arr[0+k]?) (xs++ys) fun i=>if i<xs.length then []else []:=by
   refine CF.append (os:=fun _=>[]) (ui:=fun _=>[]) ?_ ?_
   ·exact CF.congr (g:=fun k=>arr[k]?) (v8.flat hf 2 _ fz) fun k _=>by grind
   ·exact CF.congr (g:=g2) (vm.flat hf 2 _ fz) fun k hk=>by grind
  have tY:=Gi (w:=w.drew.alloc (.cells arr t0)) (ad:=⟨w.heap.size,0,none⟩) (c:=cap) (fr:=(0,0)) (T:=t0) (heap_alloc_new w.drew _) rfl (by omega) (by grind) (by grind) vX;rw[AA2]at tY;refine⟨_,tY,fun b hb=>?_⟩;rcases AAZ.1 hb with rfl|hb
  ·exact .inr ⟨AAd _,by rw[Aj];exact Nat.lt_succ_self _⟩
  ·grind
 subst hux;subst huy;cases A1 with
 |none=>
  obtain⟨rfl,rfl⟩:=hA1 rfl;have xm:xs=[]:=AAP (by omega);subst xm;cases ys with
  |nil=>exact⟨_,_,Cs t ty t0 i uO hi 0 A2 c2 news xa,⟨rfl,rfl,rfl⟩,AAd _,fun _ _ _=>rfl,hx,[],B1,fun b hb=>by cases hb⟩
  |cons y ys=>
   cases A2 with
   |none=>grind
   |some ad2=>
    have uh:=grownCap_ge w (y::ys).length 0 t0
    obtain⟨f1,f2,f3,o',f4,f5⟩:=fresh (news.toArray++Builtin.zeroCells z.cells (grownCap w (y::ys).length 0 t0-(y::ys).length)) (grownCap w (y::ys).length 0 t0) (by simpa using uh)
     (by
      have:(y::ys).length*e.n+(grownCap w (y::ys).length 0 t0-(y::ys).length)*e.n=grownCap w (y::ys).length 0 t0*e.n:=by rw[←AAk];congr 1;omega
      simp only[ABF,ABD,vT,Builtin.zeroCells,ABP,ABJ,wz,ABB,A9];omega) (fun i hi=>by simp at hi)
     (by
      intro k hk;rw[←yn k hk];simp only[List.length_nil,Nat.zero_mul,AAW];rw[AAl (by simpa[vT]using hk)];simp)
    refine⟨_,_,run_append_nil w t ty t0 i z uO hi hz ad2 (y::ys).length c2 news (by rw[vT,uC]) (vK ad2 rfl) (by simp) (by simp at uT ⊢;omega) (AAw (ABL (show _≤68719476736 by simp at uT ⊢;omega) yX) (by decide)),⟨rfl,rfl,rfl⟩,f3,f2,f1,o',?_,f5⟩;grind
 |some ad1=>
  obtain⟨arr,T,fr,os1,hs,hh,uP,uw,v8,xE,_⟩:=w4 ad1 rfl (.inr (by decide));have wQ:o1=ad1.block::(List.range xs.length).flatMap os1:=xE (by decide);have tw:=uw (by decide);clear xE uw w4;obtain⟨b1,uG,sp1⟩:=ad1;dsimp only at hs hh uP v8 wQ;subst hs;have vC:b1∈o1:=by rw[wQ];simp
  by_cases ub:xs.length+ys.length≤c1
  ·
   have hmul:(xs.length+ys.length)*e.n≤c1*e.n:=AAm _ ub;rw[AAk]at hmul;obtain⟨w',v7,tz⟩:=DY (P:=P) (o:=uG+xs.length*e.n) news hh tw (by rw[vT];omega) yk;have vN:(⟨b1,uG,none⟩:Addr).add (xs.length*i.size)=⟨b1,uG+xs.length*e.n,none⟩:=by rw[uC];exact B7 _ _ _
   have tv:=CY news (uG+xs.length*e.n) arr (by rw[vT];omega)
   have yL:CF e 2 w' fz (fun k=>(CD news (uG+xs.length*e.n) arr)[uG+k]?) xs os1:=by intro i hi;refine Ls.BD e (Ls.AZ e hf (v8 i hi) (d':=2) (w':=w') (tW:=fz)).1 fun j hj=>?_;have tX:=KZ hi hj;show(CD news (uG+xs.length*e.n) arr)[uG+(i*e.n+j)]?=_;rw[tv,AAM (by omega)]
   have vX:CF e 2 w' fz (fun k=>(CD news (uG+xs.length*e.n) arr)[uG+k]?) (xs++ys) fun i=>if i<xs.length then os1 i else []:=by refine CF.append (ui:=fun _=>[]) yL ?_;refine CF.congr (g:=g2) (vm.flat hf 2 w' fz) fun k hk=>?_;rw[←yn k hk,tv,AAK (by rw[vT];omega)];congr 1;omega
   have tY:=Gi (w:=w') (ad:=⟨b1,uG,none⟩) (c:=c1) tz.here rfl (by rw[Al];exact tw) (by rw[Al];exact uP) (by simpa using ub) vX;have hrow0:=Gi (w:=w') (ad:=⟨b1,uG,none⟩) (c:=c1) tz.here rfl (by rw[Al];exact tw) (by rw[Al];exact uP) hc1 yL;rw[AA2]at tY;refine⟨_,_,DG t ty t0 i uO hi ⟨b1,uG,none⟩ xs.length c1 A2 ys.length c2 news xa ub (by rw[vN];exact v7),tz.rest,by rw[tz.size];exact AAd _,fun b hb hn=>tz.CL b fun e=>hn (e▸vC),by rw[wQ];exact hrow0,_,tY,fun b hb=>?_⟩;grind
  ·
   cases A2 with
   |none=>grind
   |some ad2=>
    have wE:=v8.cell;have zf:=Bi wE
    have holds:∀j u,(BW (fun k=>arr[uG+k]?) (xs.length*e.n))[j]?=some u→w.cell? ((⟨b1,uG,none⟩:Addr).add j)=some u:=by
     intro j u hj;have tX:j<xs.length*e.n:=by have:=(AAH.1 hj).1;rwa[AI]at this
     rw[zf j tX]at hj;rw[B7];simp only[World.cell?,hh];simpa using hj
    have uh:=grownCap_ge w (xs.length+ys.length) c1 t0
    obtain⟨f1,f2,f3,o',f4,f5⟩:=fresh (((BW (fun k=>arr[uG+k]?) (xs.length*e.n)).toArray++news.toArray)++Builtin.zeroCells z.cells (grownCap w (xs.length+ys.length) c1 t0-(xs.length+ys.length))) (grownCap w (xs.length+ys.length) c1 t0) uh
     (by
      have:xs.length*e.n+ys.length*e.n+(grownCap w (xs.length+ys.length) c1 t0-(xs.length+ys.length))*e.n=grownCap w (xs.length+ys.length) c1 t0*e.n:=by rw[←AAk,←AAk];congr 1;omega
      simp only[ABF,ABD,vT,AI,Builtin.zeroCells,ABP,ABJ,wz,ABB,A9];omega)
     (CF.congr (v8.flat hf 2 w fz) fun k hk=>by
      grind)
     (by
      intro k hk;rw[←yn k hk];rw[AAl (by simp[AI,vT];omega),Array.getElem?_append_right (by simp[AI])];simp[AI])
    exact⟨_,_,run_append_grow w t ty t0 i z uO hi hz ⟨b1,uG,none⟩ xs.length c1 (BW (fun k=>arr[uG+k]?) (xs.length*e.n)) (by rw[AI,uC]) holds ad2 ys.length c2 news (by rw[vT,uC]) (vK ad2 rfl) (by omega) (by omega)
     (growslice_fits (by omega) (AAw (ABL uT yX) (by decide))),⟨rfl,rfl,rfl⟩,f3,f2,f1,o',f4,f5⟩
theorem AD.half{e:Ls}{w:World}{fz:Nat→Prop}{v:Value}{xs:List e.D}{o:List Nat}(h:AD e 2 w fz v xs o)(hn:o.Nodup):
  ∃o1,(∀b∈o1,b∈o∧∃a n c,v=.slice (some a) n c∧b=a.block)∧o1.Nodup∧∀tW:Nat→Prop,(∀b,fz b→tW b)→(∀b∈o,b∉o1→tW b)→AD e 1 w tW v xs o1:=by
 obtain⟨A,c,hv,hc,h⟩:=h;cases A with
 |none=>exact⟨[],(fun b hb=>by cases hb),AAL,fun _ _ _=>⟨none,c,hv,hc,h.1,rfl⟩⟩
 |some a=>
  rcases h with⟨h,_⟩|⟨g,os,tY,uD,ho⟩
  ·cases h
  have ho:o=a.block::(List.range xs.length).flatMap os:=ho;refine⟨[a.block],fun b hb=>⟨by grind,a,_,_,hv,AA8.1 hb⟩,AAY.2 ⟨by simp,AAL⟩,fun tW hz hf=>?_⟩;obtain⟨hs,arr,T,fr,hh,hnn,hb,hg⟩:=tY;refine⟨some a,c,hv,hc,.inr ⟨g,fun _=>[],⟨hs,arr,T,fr,hh,hnn,fun _=>hb rfl,hg⟩,fun i hi=>?_,?_⟩⟩
  ·refine Ls.Ci e (uD i hi) fun b hb=>?_;grind
  ·show _=_;simp[DQ]
theorem Hy{e f:Ls}{w:World}{fz:Nat→Prop}{a:Addr}{len c i off:Nat}{xs:List e.D}{o:List Nat}{t:TypeId}{u:Value}{ys:List f.D}{po:List Nat}(h:AD e 2 w fz (.slice (some a) len c) xs o)(hn:o.Nodup)(hi:i<len)
  (hk:e.kinds[off]?=some (.sl t f)) (hc:w.cell? (at_ a (i*e.n+off))=some u) (hr:AD f 2 w fz u ys po):a.block∉po:=by
 obtain⟨A,c',hv,_,h⟩:=h;injection hv with hA hl _
 subst hA;subst hl;rcases h with⟨h,_⟩|⟨g,os,tY,uD,ho⟩
 ·cases h
 have ho:o=a.block::(List.range xs.length).flatMap os:=ho;obtain⟨h2,zs,o',hg,te,uX⟩:=Ls.HB e off (uD i hi) hk
 have hu:h2=u:=by have:=tY.cell (i*e.n+off);rw[this,hg]at hc;exact Option.some.inj hc
 subst hu;obtain⟨_,e2⟩:=hr.uniq te;grind
theorem J4:∀(e:Ls)(j:Nat) {G:(t:TypeId)→(f:Ls)→Option (List f.D→List f.D)} {h:e.D→e.D},CO e j G=some h→(∀t f g,G t f=some g→∀l,g l=l)→∀x,h x=x
 | .nil,j,G,h,hm,hG,x=>by simp[CO]at hm
 | .one l,0,G,h,hm,hG,x=>by
  cases l with
  |sl t f=>exact hG t f h hm x
  |_=>simp[CO]at hm
 | .one l,j+1,G,h,hm,hG,x=>by simp[CO]at hm
 | .cons l ls,0,G,h,hm,hG,x=>by
  simp only[CO]at hm;split at hm
  ·split at hm
   ·rename_i hh;injection hm with hm;subst hm
    exact Prod.ext (hG _ _ _ hh x.1) rfl
   ·cases hm
  ·cases hm
 | .cons l ls,j+1,G,h,hm,hG,x=>by
  simp only[CO]at hm;split at hm
  ·rename_i hh;injection hm with hm;subst hm
   exact Prod.ext rfl (J4 ls j hh hG x.2)
  ·cases hm
theorem Hw:∀(e:Ls)(j:Nat) {G:(t:TypeId)→(f:Ls)→Option (List f.D→List f.D)} {t:TypeId} {f:Ls} {g:List f.D→List f.D},e.kinds[j]?=some (.sl t f)→G t f=some g→∃h,CO e j G=some h
 | .nil,j,G,t,f,g,hk,hg=>by simp[Ls.kinds]at hk
 | .one l,0,G,t,f,g,hk,hg=>by simp[Ls.kinds]at hk;subst hk;exact⟨g,hg⟩
 | .one l,j+1,G,t,f,g,hk,hg=>by simp[Ls.kinds]at hk
 | .cons l ls,0,G,t,f,g,hk,hg=>by simp[Ls.kinds]at hk;subst hk;exact⟨_,by simp only[CO,hg];rfl⟩
 | .cons l ls,j+1,G,t,f,g,hk,hg=>by
  obtain⟨h,hh⟩:=Hw ls j (by simpa[Ls.kinds]using hk) hg;exact⟨_,by simp only[CO,hh];rfl⟩
end
section
variable {P:Program}
mutual
theorem H9:∀(l:L) {w:World} {fz:Nat→Prop} {v:Value} {x:l.D},l.rd 0 w fz v x []→l.rd 0 w (fun b=>fz b∧b<w.heap.size) v x []
 | .int _,_,_,_,_,h=>h
 | .bool,_,_,_,_,h=>h
 | .str,_,_,_,_,h=>h
 | .sl t e,w,fz,v,x,h=>by
  rw[L.Iy]at h ⊢;obtain⟨A,c,hv,hc,h⟩:=h;refine⟨A,c,hv,hc,?_⟩;cases A with
  |none=>exact h
  |some a=>
   rcases h with h|⟨g,os,tY,uD,ho⟩
   ·exact .inl h
   ·have ho:fz a.block∧[]=[]∧∀i,i<List.length (α:=e.D) x→os i=[]:=ho;refine .inr ⟨g,os,tY,fun i hi=>?_,⟨ho.1,tY.lt⟩,ho.2⟩;have h1:=uD i hi;rw[ho.2.2 i hi]at h1 ⊢;exact GN e h1
theorem GN:∀(ls:Ls) {w:World} {fz:Nat→Prop} {g:Nat→Option Value} {x:ls.D},ls.rd 0 w fz g x []→ls.rd 0 w (fun b=>fz b∧b<w.heap.size) g x []
 | .nil,_,_,_,_,_=>by simp only[Ls.rd]
 | .one l,w,fz,g,x,h=>by simp only[Ls.rd]at h ⊢;obtain⟨v,hg,h⟩:=h;exact⟨v,hg,H9 l h⟩
 | .cons l ls,w,fz,g,x,h=>by simp only[Ls.rd]at h ⊢;obtain⟨v,o1,o2,hg,h1,h2,ho⟩:=h;obtain⟨e1,e2⟩:=List.append_eq_nil_iff.1 ho.symm;subst e1;subst e2;exact⟨v,[],[],hg,H9 l h1,GN ls h2,rfl⟩
end
theorem AD.Np{e:Ls}{w w':World}{fz tW:Nat→Prop}{v:Value}{xs:List e.D}{o:List Nat}(h:AD e 1 w fz v xs o)(hold:∀b,b<w.heap.size→w'.heap[b]?=w.heap[b]?)(ho:∀b∈o,b<w.heap.size)(hz:∀b,fz b→tW b):AD e 1 w' tW v xs o:=by
 obtain⟨A,c,hv,hc,h⟩:=h;refine⟨A,c,hv,hc,?_⟩;cases A with
 |none=>exact h
 |some a=>
  rcases h with h|⟨g,os,tY,uD,h2⟩
  ·exact .inl h
  refine .inr ⟨g,fun _=>[],tY.frame (hold _ tY.lt),fun i hi=>?_,?_⟩
  ·have h1:e.rd 0 w fz (fun j=>g (i*e.n+j)) xs[i] (os i):=uD i hi;rw[Ls.Bo e h1]at h1;exact Ls.AJ e (GN e h1) (fun b hb=>hold b (hb.elim (fun hb=>by cases hb) fun hb=>hb.2)) fun b hb=>hz b hb.1
  ·have h2:o=a.block::(List.range xs.length).flatMap os:=h2
   have:(List.range xs.length).flatMap os=[]:=by rw[List.flatMap_eq_nil_iff];intro i hi;exact Ls.Bo e (uD i (AAR.1 hi))
   show o=_;rw[h2,this];simp[DQ]
theorem MI{e:Ls}{w:World}{fz:Nat→Prop}{xs:List e.D}{ad:Addr}{arr:Array Value}{T:TypeId}{fr:Nat×Nat}{c:Nat}(hh:w.heap[ad.block]?=some (.cells arr T fr))(hs:ad.spot=none)(hb:∀j,j<arr.size→¬(fr.1≤j∧j<fr.2))
  (hc:ad.off+c*e.n≤arr.size) (hl:xs.length≤c) (uD:CF e 0 w fz (fun k=>arr[ad.off+k]?) xs fun _=>[]):
  AD e 1 w fz (.slice (some ad) xs.length c) xs [ad.block]:=
 ⟨some ad,c,rfl,hl,.inr ⟨fun k=>arr[ad.off+k]?,fun _=>[],⟨hs,arr,T,fr,hh,hc,fun _=>hb,fun j=>rfl⟩,uD,by show _=_;simp[DQ]⟩⟩
theorem Nv{e:Ls}{w:World}{fz:Nat→Prop}{xs:List e.D}{ad:Addr}{arr:Array Value}{T:TypeId}{fr:Nat×Nat}{c:Nat}(hh:w.heap[ad.block]?=some (.cells arr T fr))(hs:ad.spot=none)(hz:fz ad.block)
  (hc:ad.off+c*e.n≤arr.size) (hl:xs.length≤c) (uD:CF e 0 w fz (fun k=>arr[ad.off+k]?) xs fun _=>[]):
  AD e 0 w fz (.slice (some ad) xs.length c) xs []:=
 ⟨some ad,c,rfl,hl,.inr ⟨fun k=>arr[ad.off+k]?,fun _=>[],⟨hs,arr,T,fr,hh,hc,fun h=>by simp at h,fun j=>rfl⟩,uD,hz,rfl,fun _ _=>rfl⟩⟩
theorem CF.zero{e:Ls}{w:World}{fz:Nat→Prop}{g:Nat→Option Value}{xs:List e.D}{os:Nat→List Nat}(h:CF e 0 w fz g xs os):CF e 0 w fz g xs fun _=>[]:=fun i hi=>by have:=h i hi;rw[Ls.Bo e this]at this;exact this
theorem Jx{t t0 ty:TypeId}{e:Ls}(uO:P.underlying t=some (.slice t0))(uD:Lr P t0 e){w:World}{fz:Nat→Prop}(vO:∀b,fz b→b<w.heap.size){ux uy:Value}{xs ys:List e.D}{o1:List Nat}
  (hx:AD e 1 w fz ux xs o1) (wu:∀b∈o1,¬fz b) (hy:AD e 0 w fz uy ys []) (hlen:xs.length+ys.length≤Dh):
  ∃u w',(Builtin.append_ #[t,t] ty #[ux,uy]).run P w=.ok u w'∧(w'.os=w.os∧w'.tape=w.tape∧w'.output=w.output)∧w.heap.size≤w'.heap.size∧(∀b,b<w.heap.size→b∉o1→w'.heap[b]?=w.heap[b]?)∧
   ∃o',AD e 1 w' fz u (xs++ys) o'∧o'.Nodup∧∀b∈o',b∈o1∨(w.heap.size≤b∧b<w'.heap.size):=by
 obtain⟨i,hi,uC,yX,z,hz,wz⟩:=uD.info;have wV:=uD.pos;have uT:xs.length+ys.length≤68719476736:=hlen;have hdep:=hx.dep
 have tr:∀ {w':World} {g:Nat→Option Value} {zs:List e.D},(∀b,fz b→w'.heap[b]?=w.heap[b]?)→CF e 0 w fz g zs (fun _=>[])→CF e 0 w' fz g zs fun _=>[]:=fun hb h=>
  h.frame (fun b th=>th.elim (fun⟨_,_,h⟩=>by cases h) (hb b)) fun _ hb=>hb
 have vJ:∃A c g,uy=.slice A ys.length c∧(A=none→ys=[])∧(∀ad,A=some ad→ys≠[]→ad.spot=none∧∀k,w.cell? (at_ ad k)=g k)∧CF e 0 w fz g ys fun _=>[]:=by
  obtain⟨A,c,hv,hc,hn,uN⟩:=hy.KM;cases A with
  |none=>
   have:ys=[]:=AAP (by grind);subst this;exact⟨none,c,fun _=>none,hv,fun _=>rfl,(fun ad u9 _=>by cases u9),(fun i hi=>by simp at hi)⟩
  |some ad=>
   by_cases hc0:c=0
   ·have:ys=[]:=AAP (by omega);subst this;exact⟨some ad,c,fun _=>none,hv,fun _=>rfl,(fun ad u9 tj=>absurd rfl tj),(fun i hi=>by simp at hi)⟩
   obtain⟨arr,T,fr,os,hs,hh,_,_,uD,_,_⟩:=uN ad rfl (.inl (by omega));refine⟨some ad,c,_,hv,(fun hA=>by cases hA),?_,CF.zero uD⟩;intro zw u9 _;injection u9 with u9;subst u9
   exact⟨hs,fun k=>by simp[World.cell?,at_,hh]⟩
 obtain⟨A1,c1,hux,hc1,hA1,w4⟩:=hx.KM;obtain⟨A2,c2,g2,huy,zz,w5,vm⟩:=vJ
 have xC:∃news:List Value,news.length=ys.length*e.n∧(∀k,k<ys.length*e.n→news[k]?=g2 k)∧(∀v∈news,v.oneCell'=true)∧
   (Builtin.firstCells i.size ys.length (.slice A2 ys.length c2)).run P w=.ok news.toArray w∧∀ad,A2=some ad→∀j u,news[j]?=some u→w.cell? (ad.add j)=some u:=by
  have uE:=vm.cell
  have vN:∀ad,A2=some ad→∀j u,(BW g2 (ys.length*e.n))[j]?=some u→w.cell? (ad.add j)=some u:=by
   intro ad u9 j u hj;have tX:j<ys.length*e.n:=by have:=(AAH.1 hj).1;rwa[AI]at this
   rw[Bi uE j tX]at hj;obtain⟨hs,hg⟩:=w5 ad u9 (fun h0=>by grind);rw[EO hs,hg,hj]
  refine⟨BW g2 (ys.length*e.n),AI _ _,Bi uE,FM uE,?_,vN⟩;cases hA:A2 with
  |none=>
   have:=zz hA;subst this;rw[run_firstCells_none];simp[BW]
  |some ad=>exact run_firstCells_some w i.size ys.length ad ys.length c2 _ (by rw[AI,uC]) (vN ad hA)
 obtain⟨news,vT,yn,yk,xa,vK⟩:=xC
 have fresh:∀(arr:Array Value)(cap:Nat),xs.length+ys.length≤cap→cap*e.n≤arr.size→CF e 0 w fz (fun k=>arr[k]?) xs (fun _=>[])→(∀k,k<ys.length*e.n→arr[xs.length*e.n+k]?=g2 k)→
   (∀b,b<w.heap.size→b∉o1→(w.drew.alloc (.cells arr t0)).heap[b]?=w.heap[b]?)∧w.heap.size≤(w.drew.alloc (.cells arr t0)).heap.size∧
   ∃o',AD e 1 (w.drew.alloc (.cells arr t0)) fz (.slice (some ⟨w.heap.size,0,none⟩) (xs.length+ys.length) cap) (xs++ys) o'∧o'.Nodup∧∀b∈o',b∈o1∨(w.heap.size≤b∧b<(w.drew.alloc (.cells arr t0)).heap.size):=by
  intro arr cap ub uk v8 zt;have hold:∀b,b<w.heap.size→(w.drew.alloc (.cells arr t0)).heap[b]?=w.heap[b]?:=fun b hb=>A7 w.drew _ hb;refine⟨fun b hb _=>hold b hb,by grind,?_⟩
  have vX:CF e 0 (w.drew.alloc (.cells arr t0)) fz (fun k=>arr[0+k]?) (xs++ys) fun i=>if i<xs.length then []else []:=by
   refine CF.append (os:=fun _=>[]) (ui:=fun _=>[]) ?_ ?_
   ·grind
   ·exact CF.congr (g:=g2) (tr (fun b hb=>hold b (vO b hb)) vm) fun k hk=>by grind
  have tY:=MI (w:=w.drew.alloc (.cells arr t0)) (ad:=⟨w.heap.size,0,none⟩) (c:=cap) (fr:=(0,0)) (T:=t0) (heap_alloc_new w.drew _) rfl (by omega) (by grind) (by grind) vX.zero;rw[AA2]at tY;refine⟨_,tY,AAY.2 ⟨by simp,AAL⟩,fun b hb=>?_⟩;rw[AA8.1 hb];exact .inr ⟨AAd _,by rw[Aj];exact Nat.lt_succ_self _⟩
 subst hux;subst huy;cases A1 with
 |none=>
  obtain⟨rfl,rfl⟩:=hA1 rfl;have xm:xs=[]:=AAP (by omega);subst xm;cases ys with
  |nil=>exact⟨_,_,Cs t ty t0 i uO hi 0 A2 c2 news xa,⟨rfl,rfl,rfl⟩,AAd _,fun _ _ _=>rfl,[],B1,AAL,fun b hb=>by cases hb⟩
  |cons y ys=>
   cases A2 with
   |none=>grind
   |some ad2=>
    have uh:=grownCap_ge w (y::ys).length 0 t0
    obtain⟨f2,f3,o',f4,fn,f5⟩:=fresh (news.toArray++Builtin.zeroCells z.cells (grownCap w (y::ys).length 0 t0-(y::ys).length)) (grownCap w (y::ys).length 0 t0) (by simpa using uh)
     (by
      have:(y::ys).length*e.n+(grownCap w (y::ys).length 0 t0-(y::ys).length)*e.n=grownCap w (y::ys).length 0 t0*e.n:=by rw[←AAk];congr 1;omega
      simp only[ABF,ABD,vT,Builtin.zeroCells,ABP,ABJ,wz,ABB,A9];omega) (fun i hi=>by simp at hi)
     (by
      intro k hk;rw[←yn k hk];simp only[List.length_nil,Nat.zero_mul,AAW];rw[AAl (by simpa[vT]using hk)];simp)
    refine⟨_,_,run_append_nil w t ty t0 i z uO hi hz ad2 (y::ys).length c2 news (by rw[vT,uC]) (vK ad2 rfl) (by simp) (by simp at uT ⊢;omega) (AAw (ABL (show _≤68719476736 by simp at uT ⊢;omega) yX) (by decide)),⟨rfl,rfl,rfl⟩,f3,f2,o',?_,fn,f5⟩;grind
 |some ad1=>
  obtain⟨arr,T,fr,os1,hs,hh,uP,uw,hxa,xE,_⟩:=w4 ad1 rfl (.inr (by decide));have v8:CF e 0 w fz (fun k=>arr[ad1.off+k]?) xs fun _=>[]:=CF.zero hxa;clear hxa;have wQ:o1=ad1.block::(List.range xs.length).flatMap os1:=xE (by decide);have tw:=uw (by decide);clear xE uw w4;obtain⟨b1,uG,sp1⟩:=ad1;dsimp only at hs hh uP v8 wQ;subst hs;have vC:b1∈o1:=by rw[wQ];simp
  by_cases ub:xs.length+ys.length≤c1
  ·
   have hmul:(xs.length+ys.length)*e.n≤c1*e.n:=AAm _ ub;rw[AAk]at hmul;obtain⟨w',v7,tz⟩:=DY (P:=P) (o:=uG+xs.length*e.n) news hh tw (by omega) yk;have vN:(⟨b1,uG,none⟩:Addr).add (xs.length*i.size)=⟨b1,uG+xs.length*e.n,none⟩:=by rw[uC];exact B7 _ _ _
   have tv:=CY news (uG+xs.length*e.n) arr (by omega);have um:∀b,fz b→w'.heap[b]?=w.heap[b]?:=fun b hb=>tz.CL b fun e=>wu b1 vC (e▸hb)
   have vX:CF e 0 w' fz (fun k=>(CD news (uG+xs.length*e.n) arr)[uG+k]?) (xs++ys) fun i=>if i<xs.length then []else []:=by
    refine CF.append (os:=fun _=>[]) (ui:=fun _=>[]) ?_ ?_
    ·refine CF.congr (g:=fun k=>arr[uG+k]?) (tr um v8) fun k hk=>?_;grind
    ·refine CF.congr (g:=g2) (tr um vm) fun k hk=>?_;rw[←yn k hk,tv,AAK (by omega)];congr 1;omega
   have tY:=MI (w:=w') (ad:=⟨b1,uG,none⟩) (c:=c1) tz.here rfl (by rw[Al];exact tw) (by rw[Al];exact uP) (by grind) vX.zero;rw[AA2]at tY;exact⟨_,_,DG t ty t0 i uO hi ⟨b1,uG,none⟩ xs.length c1 A2 ys.length c2 news xa ub (by grind),tz.rest,by rw[tz.size];omega,fun b hb hn=>tz.CL b fun e=>hn (e▸vC),_,tY,AAY.2 ⟨by simp,AAL⟩,fun b hb=>.inl (by grind)⟩
  ·
   cases A2 with
   |none=>grind
   |some ad2=>
    have wE:=v8.cell;have zf:=Bi wE
    have holds:∀j u,(BW (fun k=>arr[uG+k]?) (xs.length*e.n))[j]?=some u→w.cell? ((⟨b1,uG,none⟩:Addr).add j)=some u:=by
     intro j u hj;have tX:j<xs.length*e.n:=by have:=(AAH.1 hj).1;rwa[AI]at this
     rw[zf j tX]at hj;rw[B7];simp only[World.cell?,hh];simpa using hj
    have uh:=grownCap_ge w (xs.length+ys.length) c1 t0
    obtain⟨f2,f3,o',f4,fn,f5⟩:=fresh (((BW (fun k=>arr[uG+k]?) (xs.length*e.n)).toArray++news.toArray)++Builtin.zeroCells z.cells (grownCap w (xs.length+ys.length) c1 t0-(xs.length+ys.length))) (grownCap w (xs.length+ys.length) c1 t0) uh
     (by
      have:xs.length*e.n+ys.length*e.n+(grownCap w (xs.length+ys.length) c1 t0-(xs.length+ys.length))*e.n=grownCap w (xs.length+ys.length) c1 t0*e.n:=by rw[←AAk,←AAk];congr 1;omega
      simp only[ABF,ABD,vT,AI,Builtin.zeroCells,ABP,ABJ,wz,ABB,A9];omega)
     (CF.congr v8 fun k hk=>by
      grind)
     (by
      intro k hk;rw[←yn k hk];rw[AAl (by simp[AI,vT];omega),Array.getElem?_append_right (by simp[AI])];simp[AI])
    exact⟨_,_,run_append_grow w t ty t0 i z uO hi hz ⟨b1,uG,none⟩ xs.length c1 (BW (fun k=>arr[uG+k]?) (xs.length*e.n)) (by rw[AI,uC]) holds ad2 ys.length c2 news (by rw[vT,uC]) (vK ad2 rfl) (by omega) (by omega)
     (growslice_fits (by omega) (AAw (ABL uT yX) (by decide))),⟨rfl,rfl,rfl⟩,f3,f2,o',f4,fn,f5⟩
end
section
variable {P:Program}{E:Cw}{s:St}{W:Wd}{o:Oper}{a:Act}{ws:List Wr}{cx:Cx}{v:Nat}{tm:Array Value}
theorem LU{vs:List Lv}{cells:List Value}{w:World}{fz:Nat→Prop}(hl:cells.length=vs.length)(hp:∀(m:Nat)(lv:Lv),vs[m]?=some lv→∃u,cells[m]?=some u∧lv.l.rd 0 w fz u lv.x [])
  {i off:Nat} {e:Ls} {a:Addr} {n k:Nat} (hi:i<n) {xs:List e.D} {o:List Nat} {f:List e.D→List e.D} (hm:Gv vs [(i,off)] e=some f) (hr:AD e 1 w fz (.slice (some a) n k) xs o) (hn:o.Nodup) (hz:∀b∈o,¬fz b):
  a.spot=none∧∃arr T fr,w.heap[a.block]?=some (.cells arr T fr)∧(∀j,j<arr.size→¬(fr.1≤j∧j<fr.2))∧a.off+(i*e.n+off)+cells.length≤arr.size∧a.block∈o∧
   ∀w',Mu w w' a.block (CD cells (a.off+(i*e.n+off)) arr) T fr→AD e 1 w' fz (.slice (some a) n k) (f xs) o:=by
 simp only[Gv]at hm;split at hm
 ·rename_i y hy;injection hm with hm;subst hm
  split at hy
  ·rename_i hc;simp only[AAG,AAS]at hc;obtain⟨rfl,hlen⟩:=hc;have wv:=Aw e vs y hy
   have:=HC (F:=fun _=>y) (off:=0) (cells:=cells) hr (by omega) hn hz hi (by omega) (fun g g' x oo hx hg=>by
    have ho:oo=[]:=Ls.Bo e hx;subst ho
    exact Bj e fun j lv hj=>by
     grind)
   simpa only[EE]using this
  ·cases hy
 ·split at hm
  ·rename_i f' xK;injection hm with hm;subst hm
   have yo:∀(m:Nat)(lv:Lv),vs[m]?=some lv→∃u,cells[m]?=some u∧lv.l.rd (dec 1) w fz u lv.x ((fun _=>[]) (0+m)):=fun m lv hm=>hp m lv hm;obtain⟨A,c,hv,hc,_,uN⟩:=hr.KM;injection hv with hA uz u7
   subst hA;subst uz;subst u7;obtain⟨arr,T,fr,os,_,_,_,_,uD,_,_⟩:=uN a rfl (.inr (by omega));have uP:=(B4 e off vs cells 0 (ovs:=fun _=>[]) (g':=fun m=>if off≤m∧m<off+vs.length then cells[m-off]? else _) xK hl yo (uD i hi) fun m _=>rfl).1
   exact HC (F:=f') (off:=off) (cells:=cells) hr (by omega) hn hz hi (by omega) (fun g g' x oo hx hg=>by
    obtain⟨_,o',q1,q2,q3⟩:=B4 e off vs cells 0 (g':=g') (ovs:=fun _=>[]) xK hl yo hx fun m hm=>by rw[hg m hm,hl]
    have ho:oo=[]:=Ls.Bo e hx;have vZ:o'=[]:=Ls.Bo e q1;grind)
  ·cases hm
def DT(W:Wd)(w':World)(r j:Nat)(o1 ob:List Nat):Wd:=
 { W with w:=w',fz:=fun b=>W.fz b∨(b∈W.om (.lf r j)∧b∉o1)∨b∈ob,om:=fun k=>match k with
   | .lf a b=>if a=r∧b=j then o1 else W.om (.lf a b)
   |k=>W.om k }
theorem AW.nest(h:AW E s tm W)(hv:Ad s v){r j AA gen:Nat}{t:TypeId}{e:Ls}{xs:List e.D}(hl:s.leaf r j=.arr AA gen t e xs 2){u:Value}(uJ:W.cv r j=some u){w':World}{o1 ob:List Nat}
  (te:AD e 1 w' (DT W w' r j o1 ob).fz u xs o1) (wQ:∀b∈o1,b∈W.om (.lf r j)) (ur:o1.Nodup) (zh:∀b∈ob,(b∈W.om (.lf r j)∧b∉o1)∨(W.w.heap.size≤b∧b<w'.heap.size))
  (hw:∀b,b<W.w.heap.size→b∉W.om (.lf r j)→w'.heap[b]?=W.w.heap[b]?) (uC:W.w.heap.size≤w'.heap.size) (uA:w'.os=W.w.os∧w'.tape=W.w.tape∧w'.output=W.w.output):
  AW E (s.AF (.leaf r j (.arr AA v t e xs 1))) tm (DT W w' r j o1 ob):=by
 obtain⟨hr,hj⟩:=G7 hl;have tU:=BH s r j (.arr AA v t e xs 1);have tR:=Ec s r j (.arr AA v t e xs 1);generalize s.AF (.leaf r j (.arr AA v t e xs 1))=s' at tU tR;have vO:∀b,W.fz b→w'.heap[b]?=W.w.heap[b]?:=fun b hb=>hw b (h.sep.fz b hb).1 fun tS=>(h.sep.own _ b tS).1 hb;have xe:∀k,k≠.lf r j→∀b∈W.om k,w'.heap[b]?=W.w.heap[b]?:=fun k hk b hb=>hw b (h.sep.own _ b hb).2.1 fun tS=>h.sep.A4 k _ hk b hb tS;have homf:∀a b,(DT W w' r j o1 ob).om (.lf a b)=if a=r∧b=j then o1 else W.om (.lf a b):=fun _ _=>rfl
 have homs:∀k,k≠.lf r j→(DT W w' r j o1 ob).om k=W.om k:=by
  intro k hk;cases k with
  |lf a b=>grind
  |AX a=>rfl
  |fl a=>rfl
 have homr:(DT W w' r j o1 ob).om (.lf r j)=o1:=by grind
 have xJ:∀k,∀b∈(DT W w' r j o1 ob).om k,b∈W.om k:=by
  intro k b hb;by_cases hk:k=.lf r j
  ·grind
  ·grind
 have uH:EN v s s' W (DT W w' r j o1 ob):={
  fz:=fun b hb=>.inl hb
  LN:=vO
  leaf:=by
   intro r' j' yz yB t' e' ys d' uz tj;rw[tR]at uz;by_cases tS:r=r'∧j=j'
   ·obtain⟨rfl,rfl⟩:=tS;rw[AAK ⟨rfl,rfl,hr,hj⟩]at uz;injection uz with e1 e2 e3 e4 e5 e6
    subst e1;subst e2;subst e3;subst e4;subst e6;exact⟨rfl,gen,t,xs,2,hl,fun hg=>absurd rfl hg⟩
   ·rw[AAM (fun hh=>tS ⟨hh.1,hh.2.1⟩)]at uz;refine⟨rfl,yB,t',ys,d',uz,fun _=>⟨rfl,fun p h' e2 u' hc hn=>?_⟩⟩;obtain⟨u0,uv,hrd0⟩:=(h.roots r').row uz;rw[hc]at uv;injection uv with uv;subst uv
    exact BN p hrd0 hn fun b hb=>hb.elim (fun hb=>xe _ (by grind) b hb) (vO b)
  box:=fun r' hb tj=>⟨(tU.box r').1▸hb,(tU.box r').2.1.symm,rfl⟩ }
 have va:Sep E (DT W w' r j o1 ob):={
  nodup:=fun k=>by
   by_cases hk:k=.lf r j
   ·grind
   ·rw[homs k hk];exact h.sep.nodup k
  A4:=fun k k' tj b hb th=>h.sep.A4 k k' tj b (xJ k b hb) (xJ k' b th)
  own:=fun k b hb=>by
   obtain⟨a,c,d⟩:=h.sep.own k b (xJ k b hb);refine⟨?_,by show b<w'.heap.size;omega,d⟩;have xc:k=.lf r j→b∈o1:=fun hk=>by grind
   rintro (hz|⟨h1,h2⟩|hz)
   ·exact a hz
   ·by_cases hk:k=.lf r j
    ·grind
    ·exact h.sep.A4 k _ hk b (xJ k b hb) h1
   ·rcases zh b hz with⟨h1,h2⟩|⟨h1,_⟩
    ·by_cases hk:k=.lf r j
     ·grind
     ·exact h.sep.A4 k _ hk b (xJ k b hb) h1
    ·omega
  fz:=fun b hb=>by
   rcases hb with hb|⟨h1,_⟩|hb
   ·obtain⟨a,c⟩:=h.sep.fz b hb;exact⟨by show b<w'.heap.size;omega,c⟩
   ·obtain⟨_,c,d⟩:=h.sep.own _ b h1;exact⟨by show b<w'.heap.size;omega,.inr d⟩
   ·rcases zh b hb with⟨h1,_⟩|⟨h1,h2⟩
    ·obtain⟨_,c,d⟩:=h.sep.own _ b h1;exact⟨by show b<w'.heap.size;omega,.inr d⟩
    ·exact⟨h2,.inr (.inl (by have:=h.sep.size;omega))⟩
  frame:=fun b h1 h2=>(hw b (by have:=h.sep.size;omega) fun tS=>by
   rcases(h.sep.own _ b tS).2.2 with h3|h3
   all_goals grind).trans (h.sep.frame b h1 h2)
  size:=by show _≤w'.heap.size;have:=h.sep.size;omega
  rest:=⟨uA.1.trans h.sep.rest.1,uA.2.1.trans h.sep.rest.2.1,uA.2.2.trans h.sep.rest.2.2⟩ }
 refine h.IA hv uH va (by rw[tU.sl,h.DH]) (by rw[tU.len,h.B0]) (fun t=>.inl ⟨by show nth _ s'.sl t=_;rw[tU.sl];rfl,rfl⟩) ?_;intro r';obtain⟨h1,h2⟩:=h.roots r';refine⟨fun j'=>?_,?_⟩
 ·show Aa s' _ (s'.leaf r' j') (W.cv r' j') ((DT W w' r j o1 ob).om (.lf r' j'));rw[tR];by_cases tS:r=r'∧j=j'
  ·obtain⟨rfl,rfl⟩:=tS;rw[AAK ⟨rfl,rfl,hr,hj⟩,homr];exact⟨u,uJ,te⟩
  ·have hk:Key.lf r' j'≠.lf r j:=by simp;intro e1 e2;exact tS ⟨e1.symm,e2.symm⟩
   rw[AAM (fun hh=>tS ⟨hh.1,hh.2.1⟩),homs _ hk];exact Aa.Dq uH (LA.Dy hv r' j') (xe _ hk) (h1 j')
 ·rw[(tU.box r').1];have hkb:(DT W w' r j o1 ob).om (.AX r')=W.om (.AX r'):=rfl;rw[hkb];split
  ·rename_i hb;rw[AAK hb]at h2;obtain⟨vZ,u1,T',yQ,wi,a1,a2,a3⟩:=h2;exact⟨vZ,u1,T',yQ,(xe (.AX r') (by simp) _ (by rw[vZ];exact AA8.2 rfl)).trans wi,a1,by rw[(tU.box r').2.2];exact a2,a3⟩
  grind
theorem Ij{s:St}{r j AA gen v:Nat}{t:TypeId}{e:Ls}{xs:List e.D}{d:Nat}(h:s.leaf r j=.arr AA gen t e xs (d+1)):s.AF (.half r j v)=s.AF (.leaf r j (.arr AA v t e xs 1)):=by simp only[St.AF,h,LA.Cj]
theorem NG(h:AW E s tm W)(hv:Ad s v){t t0 ty:TypeId}{e:Ls}(uO:P.underlying t=some (.slice t0))(uD:Lr P t0 e){d:Nat}{c:Loc}(yE:∃q,c.p=[q]){ux uy:Value}(hx:AR s W (.ref c) ux){lb:LA}(hy:AR s W lb uy){t1:TypeId}
  (hl:(D1 cx s d v t1 e c lb fun ws=>.go ws).leads ws):∃u w',(Builtin.append_ #[t,t] ty #[ux,uy]).run P W.w=.ok u w'∧∃W',W'.w=w'∧AW E (s.app ws) (tm.setIfInBounds d u) W':=by
 obtain⟨⟨i,off⟩,yE⟩:=yE;unfold D1 at hl;split at hl
 ·rename_i AA gen tt e0 xs tR;split at hl
  ·rename_i tZ;simp only[AAG,AAS,AAT]at tZ;obtain⟨⟨⟨tc,xV⟩,wU⟩,v5⟩:=tZ;subst tc;subst xV;obtain⟨hd0,e2,uJ,u5⟩:=hx _ _ _ _ _ tR (.inr rfl);obtain⟨u0,uv,te⟩:=(h.roots c.r).row tR;rw[uJ]at uv;injection uv with uv;subst uv
   unfold St.content at hl;rw[tR]at hl;dsimp only at hl;rw[yE]at u5 hl;split at hl
   ·have xZ:=h.sep.nodup (.lf c.r c.j);obtain⟨t2,ys0,oy,hl,hry,zq,hndy⟩:=Fk [(i,off)] hl te u5 (fun _=>rfl) xZ;obtain⟨ad,len,cc,tf,f2,hu2,hhd,vV,zM,w9,uE,hfe,hue⟩:=u5;subst hfe;subst hue;subst hhd;split at hl
    ·rename_i zs w6;obtain⟨q1,q2⟩:=L.AH w6;cases q1;have q2:ys0=zs:=q2;subst q2;obtain⟨ys,hl,hyr⟩:=Bm h hy hl;rcases Ag hl with⟨hb,hl⟩|⟨_,hl⟩
     ·have hl:_=ws:=hl;have hb:=AAq hb;obtain⟨u,w',tn,uA,uC,hold,yL,ob,hnew,zh⟩:=Jr (P:=P) (ty:=ty) uO uD v5 (fun b hb=>(h.sep.fz b hb).1) hry (L.Kg.1 hyr) hb;refine⟨u,w',tn,?_⟩;have xp:=Hy te xZ zM w9 uE hry;obtain⟨H,hH⟩:=Hw e0 off (G:=fun _ f=>some (fun(l:List f.D)=>l)) w9 rfl
      have hF:Hu (fun _ f=>some (fun(l:List f.D)=>l)) [(i,off)] tt e0=some fun xs=>xs.modify i H:=by simp only[Hu,hH]
      have hFid:xs.modify i H=xs:=by rw[show H=id from funext (J4 e0 off hH fun t f g hg l=>by injection hg with hg;subst hg;rfl)];simp
      obtain⟨t3,fn,zs,po,g1,g2,g3,g4,g5⟩:=Nu [(i,off)] hF te ⟨ad,len,cc,tf,_,_,rfl,vV,zM,w9,uE,rfl,rfl⟩ (fun _=>rfl) xZ;injection g1 with g1;subst g1
      obtain⟨z1,z2⟩:=g2.uniq hry;subst z1;subst z2
      obtain⟨q,hq,vz⟩:=g5 w' W.fz po yL {
       nd:=g4
       new:=fun b hb _=>hb
       rest:=fun b hb=>by
        rcases hb with⟨vC,wA⟩|hb
        ·exact hold b (h.sep.own _ b vC).2.1 wA
        ·exact hold b (h.sep.fz b hb).1 fun tS=>(h.sep.own _ b (g3 b tS)).1 hb
       fz:=fun b hb=>hb }
      rw[hFid]at hq;have zm:∀b∈q,b∈W.om (.lf c.r c.j):=fun b hb=>(vz.2 b hb).elim (fun hb=>g3 b hb) (fun hb=>hb.1);obtain⟨o1,wQ,wT,vn⟩:=hq.half vz.1
      have uV:∀b∈o1,b∉po:=fun b hb=>by
       obtain⟨_,a',n',c',vE,e'⟩:=wQ b hb;injection vE with vE _ _
       injection vE with vE
       rw[e',←vE];exact xp
      have hob':∀b∈ob,(b∈W.om (.lf c.r c.j)∧b∉o1)∨(W.w.heap.size≤b∧b<w'.heap.size):=fun b hb=>(zh b hb).imp (fun hb=>⟨g3 b hb,fun tS=>uV b tS hb⟩) id;have hrd1:AD e0 1 w' (DT W w' c.r c.j o1 ob).fz (.slice (some ad) len cc) xs o1:=vn _ (fun b hb=>.inl hb) fun b hb hn=>.inr (.inl ⟨zm b hb,hn⟩);have tT:=h.nest hv tR uJ hrd1 (fun b hb=>zm b (wQ b hb).1) wT hob' (fun b hb hn=>hold b hb fun tS=>hn (g3 b tS)) uC uA;refine⟨DT W w' c.r c.j o1 ob,rfl,?_⟩;rw[←hl];show AW E ((s.AF (.half c.r c.j v)).app _) _ _;rw[Ij tR];exact tT.slot d (hnew.freeze fun b hb=>hb.elim (fun hb=>.inl hb) fun hb=>.inr (.inr hb))
     ·exact hl.elim
    ·exact hl.elim
   grind
  ·exact hl.elim
 ·exact hl.elim
theorem M9(h:AW E s tm W)(hv:Ad s v){t t0 ty:TypeId}{e:Ls}(uO:P.underlying t=some (.slice t0))(uD:Lr P t0 e){d:Nat}(hd:d<tm.size){c:Loc}(yE:c.p=[]){ux uy:Value}(hx:AR s W (.ref c) ux){lb:LA}(hy:AR s W lb uy){t1:TypeId}
  (hl:(D0 cx s d v t1 e c lb fun ws=>.go ws).leads ws):∃u w',(Builtin.append_ #[t,t] ty #[ux,uy]).run P W.w=.ok u w'∧∃W',W'.w=w'∧AW E (s.app ws) (tm.setIfInBounds d u) W':=by
 unfold D0 at hl;split at hl
 ·rename_i AA gen t' e' xs tR;split at hl
  ·rename_i tZ;simp only[AAG,AAS,AAT]at tZ;obtain⟨⟨tc,wU⟩,hsc⟩:=tZ;subst tc;split at hl
   ·rename_i zs w6;obtain⟨q1,q2⟩:=L.AH w6;cases q1;have q2:xs=zs:=q2;subst q2;obtain⟨h',e',uJ,hn⟩:=hx gen _ _ _ _ tR (.inl yE);rw[yE]at hn;obtain⟨rfl,rfl⟩:=hn;obtain⟨u',tu,te⟩:=(h.roots c.r).row tR;rw[uJ]at tu;injection tu with tu;subst tu
    obtain⟨ys,hl,hyr⟩:=Bm h hy hl;have uc:lb.roots=[]:=by cases lb<;>first|rfl|cases hsc
    rcases Ag hl with⟨hb,hl⟩|⟨_,hl⟩
    ·have hl:_=ws:=hl;have hb:=AAq hb;have hyr:=(L.Kg.1 hyr).frame (tW:=W.fz) (w':=W.w) (fun _ _=>rfl) fun b hb=>hb.elim id fun⟨r,hr,_⟩=>by grind
     obtain⟨u,w',tn,uA,uC,hold,o',tY,ur,ue⟩:=Jx (P:=P) (ty:=ty) uO uD (fun b hb=>(h.sep.fz b hb).1) te (fun b hb=>(h.sep.own _ b hb).1) hyr hb;refine⟨u,w',tn,?_⟩;rw[←hl]
     exact h.Cq hv [(c.r,c.j)] hd (t0:=t1) (fun b hb=>hold b (by
       rcases hb with hb|⟨k,_,hb⟩
       ·exact(h.sep.fz b hb).1
       ·exact(h.sep.own k b hb).2.1) fun tS=>by
       rcases hb with hb|⟨k,hk,hb⟩
       ·exact(h.sep.own _ b tS).1 hb
       ·by_cases hkk:k=.lf c.r c.j
        ·subst hkk;exact hk.2 (by simp)
        ·exact h.sep.A4 k _ hkk b hb tS)
      (fun b hb w8=>hold b (by have:=h.sep.size;omega) fun tS=>by
       rcases(h.sep.own _ b tS).2.2 with h3|h3
       all_goals grind) uC uA tY ur (fun b hb=>(ue b hb).imp (fun hb=>⟨c.r,c.j,by simp,hb⟩) id)
    ·exact hl.elim
   ·exact hl.elim
  ·exact hl.elim
 ·exact hl.elim
theorem FV{a:LA}{c:Loc}(h:nested a=some c):a=.ref c∧∃q,c.p=[q]:=by unfold nested at h;grind
theorem FA:∀ {as:List LA} {c:Loc},Cg as=some c→∃(j:Nat),as[j]?=some (.ref c)∧∃q,c.p=[q]
 | [],c,h=>by cases h
 |a::as,c,h=>by
  unfold Cg at h;split at h
  ·rename_i c' uW;injection h with h;subst h
   obtain⟨e1,e2⟩:=FV uW;exact⟨0,by rw[e1];rfl,e2⟩
  ·obtain⟨j,h1,h2⟩:=FA h;exact⟨j+1,by grind,h2⟩
theorem Kq{w:World}{tW:Nat→Prop}{β:Type}{z:β}:∀ {ls:List L} {as:List LA} {g:Nat→Option Value} {k:List Lv→Step β},
  (∀(j:Nat)(b:LA),as[j]?=some b→∃u,g j=some u∧∀(l:L)(k':l.D→Step β),(s.Av l b k').leads z→∃x,(k' x).leads z∧l.rd 0 w tW u x [])→(s.data ls as k).leads z→
  ∃vs:List Lv,(k vs).leads z∧vs.length=as.length∧vs.map (·.l)=ls∧∀(j:Nat)(lv:Lv),vs[j]?=some lv→∃u,g j=some u∧lv.l.rd 0 w tW u lv.x []
 | [],[],g,k,hg,hl=>⟨[],hl,rfl,rfl,fun j lv hj=>by simp at hj⟩
 | [],_::_,g,k,hg,hl=>hl.elim
 |_::_,[],g,k,hg,hl=>hl.elim
 |l::ls,b::as,g,k,hg,hl=>by obtain⟨u,hu,hb⟩:=hg 0 b rfl;obtain⟨x,hl,hx⟩:=hb l _ hl;obtain⟨vs,hl,hn,hm,vb⟩:=Kq (g:=fun j=>g (j+1)) (fun j b hj=>hg (j+1) b (by simpa using hj)) hl;grind
theorem NC(h:AW E s a.tmps W)(hv:Ad s v){t t':TypeId}{e:Ls}(uO:P.underlying t=some (.slice t'))(uD:Lr P t' e){d len:Nat}{c:Loc}{x:Operand}{g:Bool}{as:List LA}(xa:∃(j:Nat),as[j]?=some (.ref c)∧∃q,c.p=[q])(xd:s.Ap x=.v g as)(hx:E4 s W g as (a.eval x)){t1:TypeId}(yv:len*e.n≤16777216)(hlen:len=1){parts:Array (Nat×Operand)}
  (hl:(C1 cx s d v t1 e x c fun ws=>.go ws).leads ws) (wR:parts.toList=[(0,x)]):∃u w',(Instr.buildSlice t len (parts.map fun(i,x)=>(i,a.eval x))).run P W.w=.ok u w'∧∃W',W'.w=w'∧AW E (s.app ws) (a.tmps.setIfInBounds d u) W':=by
 obtain⟨j0,hj0,⟨i0,off0⟩,yE⟩:=xa;unfold C1 at hl;rw[xd]at hl;dsimp only at hl;split at hl
 ·rename_i AA gen t0 e0 xs tR;split at hl
  ·rename_i tZ;simp only[AAG,AAS,AAT]at tZ;obtain⟨⟨⟨tc,xV⟩,wU⟩,uZ⟩:=tZ;subst tc;subst xV;obtain⟨i,hi,uC,yX,z,hz,wz⟩:=uD.info;have xZ:=h.sep.nodup (.lf c.r c.j);obtain⟨hd0,uJ,te⟩:=(h.roots c.r).row tR;obtain⟨o1,wQ,wT,vn⟩:=te.half xZ;have xr:∀b,W.w.heap.size≤b→¬W.fz b:=fun b hb hz=>by have:=(h.sep.fz b hz).1;omega
   let tW:Nat→Prop:=fun b=>W.fz b∨(b∈W.om (.lf c.r c.j)∧b∉o1)∨b∈[W.w.heap.size]
   obtain⟨vs,hl,ug,xl,vb⟩:=Kq (w:=W.w) (tW:=tW) (g:=A5 g (a.eval x)) (fun j b hj=>by
    obtain⟨u,hu,uU⟩:=CC hx j b hj;refine⟨u,hu,fun l k' hl=>?_⟩;have zF:=AAU.1 uZ b (AAN hj);unfold J1 at zF;split at zF
    ·rename_i c';simp only[AAG,AAS]at zF;obtain⟨⟨⟨⟨a1,a2⟩,a3⟩,a4⟩,a5⟩:=zF;obtain⟨r',j',yz,yB,p'⟩:=c';dsimp only at a1 a2 a3 a4 a5;subst a1;subst a2;subst a3;subst a4
     have yo:∃q,p'=[q]:=by
      split at a5
      ·exact⟨_,rfl⟩
      ·cases a5
     obtain⟨⟨i1,uG⟩,rfl⟩:=yo;obtain⟨h',e',xR,u5⟩:=uU _ _ _ _ _ tR (.inr rfl);rw[uJ]at xR;injection xR with xR;subst xR
     unfold St.Av St.content at hl;simp only[tR]at hl;split at hl
     ·obtain⟨t2,ys0,oy,hl,hry,zq,hndy⟩:=Fk [(i1,uG)] hl te u5 (fun _=>rfl) xZ;obtain⟨ad,ln,cc,tf,f2,u2,hhd,vV,zM,w9,uE,hfe,hue⟩:=u5;subst hfe;subst hue;subst hhd;split at hl
      ·rename_i y hy;obtain⟨ee,he⟩:=L.AH hy;subst ee;subst he;have xp:=Hy te xZ zM w9 uE hry;refine⟨_,hl,hry.freeze fun b hb=>?_⟩;rcases hb with hb|hb
       ·exact .inl hb
       ·refine .inr (.inl ⟨zq b hb,fun tS=>?_⟩);obtain⟨_,a',n',c',vE,e'⟩:=wQ b tS;injection vE with vE _ _
        injection vE with vE
        rw[e',←vE]at hb;exact xp hb
      ·exact hl.elim
     grind
    ·rename_i l0 x0;simp only[St.Av]at hl;split at hl
     ·rename_i y hy;obtain⟨ee,he⟩:=L.AH hy;subst ee;subst he;exact⟨x0,hl,L.AJ l0 uU (fun _ _=>rfl) fun b hb=>.inl hb⟩
     ·exact hl.elim
    ·cases zF) hl
   split at hl
   ·rename_i y hy;have hl:_=ws:=hl;have wv:=Aw e vs y hy;have hen:as.length=e.n:=by rw[←ug,←wv,CE]
    have td:=Bu hx fun j b hj=>by
     have tX:j<vs.length:=by rw[ug];exact(AAH.1 hj).1
     obtain⟨u,hu,hr⟩:=vb j vs[j] (AAF tX);exact⟨u,hu,L.Dk _ hr⟩
    have hrde:e.rd 0 W.w tW (A5 g (a.eval x)) y []:=Bj e fun j lv hj=>by grind
    obtain⟨arr,hf,xQ,_,tv⟩:=FL (e:=e) a.eval parts.toList 0 (madeCells z.cells (len*e.n)) (fun m x' i' hm=>by
     grind) (by rw[size_madeCells,wR,hlen];simp)
    rw[size_madeCells]at xQ;have tn:=Ef (P:=P) (w:=W.w) (t:=t) (len:=len) (parts:=parts.map fun(i,x)=>(i,a.eval x)) (arr:=arr) uO hi hz (by grind) (by rw[uC,ABI];exact hf)
    have vX:CF e 0 (W.w.alloc (.cells arr t')) tW (fun k=>arr[0+k]?) [y] fun _=>[]:=by
     intro m hm;have hm0:m=0:=by simpa using hm
     subst hm0
     have hsz':∀b,(b∈([]:List Nat)∨tW b)→b<W.w.heap.size∨b=W.w.heap.size:=by
      intro b hb;rcases hb with hb|hb|⟨hb,_⟩|hb
      ·cases hb
      ·grind
      ·exact .inl (h.sep.own _ b hb).2.1
      ·grind
     have h4:e.rd 0 (W.w.alloc (.cells arr t')) tW (fun j=>(a.eval x).cells[j]?) y []:=by
      refine Ls.BD e (g:=A5 g (a.eval x)) ?_ fun j hj=>td.2 j (by omega)
      have h0:e.rd 0 W.w (fun b=>tW b∧b<W.w.heap.size) (A5 g (a.eval x)) y []:=Bj e fun j lv hj=>by rw[wv]at hj;obtain⟨u,hu,hr⟩:=vb j lv hj;exact⟨u,hu,H9 lv.l hr⟩
      exact Ls.AJ e h0 (fun b hb=>A7 _ _ (hb.elim (fun hb=>by cases hb) fun hb=>hb.2)) fun b hb=>hb.1
     refine Ls.BD e h4 fun j hj=>?_;have:=tv 0 0 x (by rw[wR];rfl) j hj;simp only[AAW]at this ⊢;exact this
    have tY:=Nv (w:=W.w.alloc (.cells arr t')) (ad:=⟨W.w.heap.size,0,none⟩) (c:=len) (fr:=(0,0)) (T:=t') (fz:=tW) (heap_alloc_new _ _) rfl (.inr (.inr (by simp))) (by simp[xQ]) (by simp[hlen]) vX;refine⟨_,_,tn,DT W (W.w.alloc (.cells arr t')) c.r c.j o1 [W.w.heap.size],rfl,?_⟩;have hqs:AD e0 2 (W.w.alloc (.cells arr t')) W.fz hd0 xs (W.om (.lf c.r c.j)):=te.frame (fun b hb=>A7 _ _ (hb.elim (fun hb=>(h.sep.own _ b hb).2.1) fun hb=>(h.sep.fz b hb).1)) fun _ hb=>hb
    have hrd1:AD e0 1 (W.w.alloc (.cells arr t')) (DT W (W.w.alloc (.cells arr t')) c.r c.j o1 [W.w.heap.size]).fz hd0 xs o1:=
     (vn tW (fun b hb=>.inl hb) fun b hb hn=>.inr (.inl ⟨hb,hn⟩)).Np (fun b hb=>A7 _ _ hb) (fun b hb=>(h.sep.own _ b (wQ b hb).1).2.1) (fun b hb=>hb)
    have tT:=h.nest hv tR uJ hrd1 (fun b hb=>(wQ b hb).1) wT (fun b hb=>.inr (by rw[AA8.1 hb,Aj];omega)) (fun b hb _=>A7 _ _ hb) (by rw[Aj];omega) ⟨rfl,rfl,rfl⟩;rw[←hl];have wI:[y].length=len:=by rw[hlen];rfl
    rw[wI]at tY;show AW E ((s.AF (.half c.r c.j v)).app _) _ _;rw[Ij tR];exact tT.slot d tY
   ·exact hl.elim
  ·exact hl.elim
 ·exact hl.elim
theorem LX(hc:Dr P cx)(h:AW E s a.tmps W)(hv:Ad s v){c:Call}(ho:o.op=.call c)(hb:c.callee=.builtin .append)(hd:∀d,o.dst=some d→d<a.tmps.size)(hl:(AB cx v o s).leads ws):Be P E o a W.w (s.app ws):=by
 simp only[AB,ho,hb]at hl;split at hl
 ·rename_i x y t1 t2 ty d hx ht v9 ua;split at hl
  ·rename_i t e vf;split at hl
   ·rename_i tZ;simp only[AAG,AAS]at tZ;obtain⟨rfl,tY⟩:=tZ;obtain⟨t0,uO,uD⟩:=Fq hc tY;have uL:c.args = #[x,y]:=by grind
    have yT:c.argTypes = #[t1,t1]:=by grind
    obtain⟨cal,args,ats⟩:=c;dsimp only at hb uL yT;subst hb;subst uL;subst yT
    have fin:∀ {xs ys:List e.D} {us1 us2:List (Nat×Nat)} {o1:List Nat},AD e 2 W.w W.fz (a.eval x) xs o1→o1.Nodup→(∀b∈o1,∃r j,(r,j)∈us1∧b∈W.om (.lf r j))→KP P s W e (a.eval y) ys us2→
      (∀x∈us1,x∉us2)→xs.length+ys.length≤Dh→ws=gone (us1++us2)++ownRow d v t e (xs++ys)→Be P E o a W.w (s.app ws):=by
     intro xs ys us1 us2 o1 h1 h2 h3 h4 h5 h6 h7;obtain⟨u,w',tn,W',vL,tT⟩:=LF h hv (ty:=o.type) uO uD (hd d ua) h1 h2 h3 h4 h5 h6 t;rw[h7];refine Bg h ua ?_ vL tT;simp[execOp,ho,resolve,invoke,builtin,tn]
    have h1:=Ac h x;have h2:=Ac h y;have vt:=Iq hv x;generalize s.Ah x=p at hl h1 vt;unfold Ds at hl;cases ym:nested p with
    |some c=>
     rw[ym]at hl;obtain⟨rfl,yE⟩:=FV ym;obtain⟨u,w',tn,W',vL,tT⟩:=NG h hv (ty:=o.type) uO uD yE h1 h2 hl;refine Bg h ua ?_ vL tT;simp[execOp,ho,resolve,invoke,builtin,tn]
    |none=>
    rw[ym]at hl;dsimp only at hl;cases vn:Ea s p with
    |some c=>
     rw[vn]at hl;dsimp only at hl
     have hpc:p=.ref c∧c.p=[]:=by
      unfold Ea at vn;split at vn
      ·grind
      ·cases vn
     obtain⟨rfl,yE⟩:=hpc;obtain⟨u,w',tn,W',vL,tT⟩:=M9 h hv (ty:=o.type) uO uD (hd d ua) yE h1 h2 hl;refine Bg h ua ?_ vL tT;simp[execOp,ho,resolve,invoke,builtin,tn]
    |none=>
    rw[vn]at hl;dsimp only at hl;unfold C7 at hl;split at hl
    ·obtain⟨ys,us,hl,vJ⟩:=JH h h2 hl;rcases Ag hl with⟨hb,hl⟩|⟨_,hl⟩
     ·have hl:_=ws:=hl;rw[show a.eval x=.slice none 0 0 from h1]at fin;exact fin (xs:=[]) (us1:=[]) B1 AAL (fun b hb=>by cases hb) vJ (fun x hx=>by cases hx) (by grind) hl.symm
     ·exact hl.elim
    ·rename_i c;split at hl
     ·rename_i AA gen t' e' xs dd tR;split at hl
      ·rename_i tZ;simp only[AAG,AAS,AAT]at tZ;obtain⟨⟨⟨tc,hp⟩,wU⟩,hdd⟩:=tZ;subst tc;subst hdd;have hp:c.p=[]:=by cases hq:c.p<;>simp_all[isNil]
       split at hl
       ·rename_i ys0 hys;obtain⟨q1,q2⟩:=L.AH hys;cases q1;have q2:xs=ys0:=q2;subst q2;obtain⟨h',e',uJ,hn⟩:=h1 gen _ _ _ _ tR (.inl hp);rw[hp]at hn;obtain⟨rfl,rfl⟩:=hn;obtain⟨u',tu,te⟩:=(h.roots c.r).row tR;rw[uJ]at tu;injection tu with tu;rw[←tu]at te
        obtain⟨ys,us,hl,vJ⟩:=JH h h2 hl;split at hl
        ·exact hl.elim
        ·rename_i xc;rcases Ag hl with⟨hb,hl⟩|⟨_,hl⟩
         ·have hl:_=ws:=hl;exact fin (us1:=[(c.r,c.j)]) te (h.sep.nodup _) (fun b hb=>⟨c.r,c.j,by simp,hb⟩) vJ (fun x hx=>by grind) (AAq hb) hl.symm
         ·exact hl.elim
       ·exact hl.elim
      ·exact hl.elim
     ·exact hl.elim
    ·rename_i c lo hi;split at hl
     ·rename_i AA gen t' e' xs dd tR;split at hl
      ·rename_i tZ;simp only[AAG,AAS,AAT]at tZ;obtain⟨⟨⟨⟨tc,hp⟩,wU⟩,hdd⟩,v5⟩:=tZ;subst tc;subst hdd;have hp:c.p=[]:=by cases hq:c.p<;>simp_all[isNil]
       split at hl
       ·rename_i ys0 hys;obtain⟨q1,q2⟩:=L.AH hys;cases q1;have q2:xs=ys0:=q2;subst q2;obtain⟨h',e',A,n,k0,uJ,hn,l1,l2,xO⟩:=h1 gen _ _ _ _ tR (.inl hp);rw[hp]at hn;obtain⟨rfl,rfl⟩:=hn;obtain⟨u',tu,te⟩:=(h.roots c.r).row tR;rw[uJ]at tu;injection tu with tu;rw[←tu]at te
        obtain⟨o',r1,r2,r3⟩:=CR.sub te l1 l2;obtain⟨ys,us,hl,vJ⟩:=JH h h2 hl;split at hl
        ·exact hl.elim
        ·rename_i xc;rcases Ag hl with⟨hb,hl⟩|⟨_,hl⟩
         ·have hl:_=ws:=hl;refine fin (us1:=[(c.r,c.j)]) (by rw[xO];exact r1) (r3 (h.sep.nodup _)) (fun b hb=>⟨c.r,c.j,by simp,r2 b hb⟩) vJ (fun x hx=>by grind) (AAq hb) hl.symm
         ·exact hl.elim
       ·exact hl.elim
      ·exact hl.elim
     ·exact hl.elim
    ·exact hl.elim
   ·exact hl.elim
  ·exact hl.elim
 ·exact hl.elim
theorem IV(hc:Dr P cx)(h:AW E s a.tmps W)(hv:Ad s v){t:TypeId}{len:Nat}{parts:Array (Nat×Operand)}(ho:o.op=.buildSlice t len parts)(hd:∀d,o.dst=some d→d<a.tmps.size)(hl:(AB cx v o s).leads ws):Be P E o a W.w (s.app ws):=by
 simp only[AB,ho]at hl;split at hl
 ·rename_i ty d ht ua;split at hl
  ·exact hl.elim
  ·rename_i vd;split at hl
   ·rename_i t' e vf;split at hl
    ·rename_i tZ;simp only[AAG,AAS,AAb]at tZ;obtain⟨hlen,yv⟩:=tZ;obtain⟨uO,uD⟩:=(Cm hc ht vf (by grind):GQ P t (.sl t' e));obtain⟨i,hi,uC,yX,z,hz,wz⟩:=uD.info;cases xA:EB s e parts.toList with
     |some q=>
      obtain⟨x,c⟩:=q;rw[xA]at hl;dsimp only at hl
      have wR:parts.toList=[(0,x)]∧∃g as,s.Ap x=.v g as∧Cg as=some c:=by
       unfold EB at xA;split at xA
       ·cases xA
       ·grind
      obtain⟨wR,g,as,xd,xa⟩:=wR;obtain⟨u,w',tn,W',vL,tT⟩:=NC (P:=P) h hv uO uD (FA xa) xd (by have:=BF h x;rw[xd]at this;exact this) yv (by rw[hlen,←Array.length_toList,wR];rfl) hl (parts:=parts) wR;refine Bg h ua ?_ vL tT;unfold execOp;simp only[ho,Sem.run_bind,tn,Result.andThen_ok];rfl
     |none=>
     rw[xA]at hl;dsimp only at hl;obtain⟨ys,us,os,hl,zJ⟩:=Hf (P:=P) h hv _ _ hl;split at hl
     ·have hl:_=ws:=hl;have hyl:ys.length=len:=by rw[zJ.len,hlen];simp
      have hparts:∀(m:Nat)(x:Operand)(i:Nat),parts.toList[m]?=some (i,x)→i=0+m∧(a.eval x).cells.size=e.n:=by
       intro m x i hm;have vM:m<ys.length:=by rw[zJ.len];exact(AAH.1 hm).1
       obtain⟨x',h1,h2,_⟩:=zJ.el m vM;rw[hm]at h1;injection h1 with h1;injection h1 with h1 vc;subst vc
       exact⟨h1,h2⟩
      obtain⟨arr,hf,xQ,_,tv⟩:=FL (e:=e) a.eval parts.toList 0 (madeCells z.cells (len*e.n)) hparts (by rw[size_madeCells,hlen];simp);rw[size_madeCells]at xQ;have tn:=Ef (P:=P) (w:=W.w) (t:=t) (len:=len) (parts:=parts.map fun(i,x)=>(i,a.eval x)) (arr:=arr) uO hi hz (by grind) (by rw[uC,ABI];exact hf)
      have vX:CF e 2 (W.w.alloc (.cells arr t')) W.fz (fun k=>arr[0+k]?) ys os:=by
       intro m hm;obtain⟨x,h1,h2,h3⟩:=zJ.el m hm
       have h4:e.rd 2 (W.w.alloc (.cells arr t')) W.fz (fun j=>(a.eval x).cells[j]?) ys[m] (os m):=Ls.AJ e h3 (fun b hb=>A7 _ _ (by
        rcases hb with hb|hb
        ·obtain⟨r,j,_,h5⟩:=zJ.OG m b hb;exact(h.sep.own _ b h5).2.1
        ·exact(h.sep.fz b hb).1)) fun _ hb=>hb
       refine Ls.BD e h4 fun j hj=>?_;have:=tv m _ x h1 j hj;simp only[AAW]at this ⊢;exact this
      have tY:=Gi (w:=W.w.alloc (.cells arr t')) (ad:=⟨W.w.heap.size,0,none⟩) (c:=len) (fr:=(0,0)) (T:=t') (heap_alloc_new _ _) rfl (by omega) (by simp[xQ]) (by omega) vX
      obtain⟨W',vL,tT⟩:=h.Cq hv us (hd d ua) (t0:=t') (Eh h _) (fun b hb _=>A7 _ _ (by have:=h.sep.size;omega)) (by rw[Aj];omega) ⟨rfl,rfl,rfl⟩ tY
       (AAY.2 ⟨fun tS=>by
        obtain⟨m,_,hb⟩:=AAI.1 tS;obtain⟨r,j,_,h5⟩:=zJ.OG m _ hb;exact absurd (h.sep.own _ _ h5).2.1 (Nat.lt_irrefl _),EC zJ.On zJ.Og _⟩)
       (fun b hb=>by
        rcases AAZ.1 hb with rfl|hb
        ·exact .inr ⟨AAd _,by rw[Aj];grind⟩
        ·obtain⟨m,_,hb⟩:=AAI.1 hb;exact .inl (zJ.OG m b hb))
      rw[←hl];refine Bg h ua ?_ vL tT;rw[hyl];unfold execOp;simp only[ho,Sem.run_bind,tn,Result.andThen_ok];rfl
     ·exact hl.elim
    ·exact hl.elim
   ·exact hl.elim
 ·exact hl.elim
end
end Go.Ev
namespace Go.Ev
section
variable {P:Program}{E:Cw}{s:St}{W:Wd}{o:Oper}{a:Act}{ws:List Wr}{cx:Cx}{v:Nat}{tm:Array Value}
theorem DC{t:TypeId}{x y:Operand}(ho:o.op=.store t x y)(vx:o.dst=none){ad:Addr}(hx:a.eval x=.pointer (some ad)){i:TypeInfo}(hi:P.info? t=some i)(uC:(a.eval y).cells.size=i.size){W':Wd}
  (tn:(storeCells ad (a.eval y).cells.toList).run P W.w=.ok () W'.w) {s':St} (hr:AW E s' a.tmps W'):Be P E o a W.w s':=by
 intro next Q hn
 have v7:(storeVar t ad (a.eval y)).run P W.w=.ok () W'.w:=by simp[storeVar,sizeOf,typeInfo,hi,uC,tn]
 unfold Oper.wp execOp;simp only[ho,hx,Instr.storeAt,Instr.sureAddr,Sem.run_bind,Sem.run_pure,Result.andThen_ok,v7];show next (a.put o.dst Go.undef) W'.w
 rw[vx];exact hn _ W' rfl hr
theorem J3{α β:Type}{f:α→Option β}:∀ {l:List α} {r:List β},l.mapM f=some r→r.length=l.length
 | [],r,hr=>by simp at hr;subst hr;rfl
 |b::l,r,hr=>by
  simp only[List.mapM_cons,Option.bind_eq_bind,Option.pure_def]at hr;cases hb:f b with
  |none=>simp[hb]at hr
  |some c=>
   cases uS:l.mapM f with
   |none=>simp[hb,uS]at hr
   |some cs=>
    simp[hb,uS]at hr;subst hr;simp[J3 uS]
theorem LO(hc:Dr P cx)(h:AW E s a.tmps W)(hv:Ad s v){t:TypeId}{x y:Operand}(ho:o.op=.store t x y){c:Loc}{g:Bool}{as:List LA}{ty:Ty}{fs wt:List Wr}(ht:cx.ty t=some ty)(h1:AR s W (.Bn c) (a.eval x))(h2:Ba s W (.v g as) (a.eval y))(yE:∃q,c.p=[q])
  (hl:(s.C4 v c ty.ls.kinds as fun ws=>match o.dst with
   |none=>.go (fs++ws)
   |some _=>.none).leads wt):∃ws,wt=fs++ws∧Be P E o a W.w (s.app ws):=by
 obtain⟨i,hi,uC,_⟩:=(hc t ty ht).info;obtain⟨p0,zj⟩:=yE;unfold St.C4 at hl;split at hl
 ·rename_i AA gen t0 e0 xs0 tR;split at hl
  ·rename_i tZ;simp only[AAG,AAS]at tZ;obtain⟨rfl,uZ⟩:=tZ;obtain⟨vs,hl,ug,xl,vb⟩:=Es h (g:=A5 g (a.eval y)) (fun j b hj=>CC h2 j b hj) hl
   have uc:as.flatMap LA.roots=[]:=by
    have:∀l:List LA,l.all Nq=true→l.flatMap LA.roots=[]:=by
     intro l
     induction l with
     |nil=>intro _;rfl
     |cons b l ih=>
      intro hb;simp only[List.all_cons,AAG]at hb;rw[AAj,ih hb.2];cases b<;>first|rfl|cases hb.1
    exact this as uZ
   have td:=Bu h2 fun j b hj=>by
    have tX:j<vs.length:=by rw[ug];exact(AAH.1 hj).1
    obtain⟨u,hu,hr⟩:=vb j vs[j] (AAF tX);exact⟨u,hu,L.Dk _ hr⟩
   have hlen:vs.length=ty.ls.n:=by rw[←A9,←xl];simp
   have yA:∀(m:Nat)(lv:Lv),vs[m]?=some lv→∃u,(a.eval y).cells.toList[m]?=some u∧lv.l.rd 0 W.w W.fz u lv.x []:=by
    intro m lv hm;obtain⟨u,hu,hr⟩:=vb m lv hm;have tX:m<as.length:=by rw[←ug];exact(AAH.1 hm).1
    have:=td.2 m tX;rw[hu]at this;refine⟨u,by simpa using this,L.AJ lv.l hr (fun _ _=>rfl) fun b hb=>?_⟩;rcases hb with hb|⟨r,hr,_⟩
    ·exact hb
    ·rw[uc]at hr;cases hr
   have uV:∀u∈(a.eval y).cells.toList,u.oneCell'=true:=by
    intro u hu;obtain⟨m,hm⟩:=AAp hu;have tX:m<vs.length:=by rw[ug,←td.1];simpa using(AAH.1 hm).1
    obtain⟨u',tu,hr⟩:=yA m vs[m] (AAF tX);rw[hm]at tu;injection tu with tu;subst tu
    exact L.Dk _ hr
   split at hl
   ·rename_i f hf;split at hl
    ·rename_i vx;have hl:_=wt:=hl;obtain⟨q,i0,off,h',e',ad,n,k,hs,uJ,u5,vV,xu,hu⟩:=h1 gen _ _ _ _ tR (.inl (by rw[zj];simp));rw[zj]at hs;simp only[Ai,Option.some.injEq,Prod.mk.injEq]at hs;obtain⟨rfl,rfl,rfl⟩:=hs;obtain⟨rfl,rfl⟩:=u5;obtain⟨u',tu,te⟩:=(h.roots c.r).row tR;rw[uJ]at tu;injection tu with tu;subst tu
     have xN:∀b∈W.om (.lf c.r c.j),¬W.fz b:=fun b hb=>(h.sep.own _ b hb).1;rw[zj]at hf;obtain⟨hsp,arr,T,fr,hh,tw,vu,tS,xF⟩:=LU (by simp[td.1,ug]) yA xu hf te (h.sep.nodup _) xN;obtain⟨w',tn,tz⟩:=DY (P:=P) (o:=ad.off+(p0.1*e'.n+p0.2)) (a.eval y).cells.toList hh tw vu uV;have tT:=h.JS hv tR uJ (xF w' tz) (fun b hb=>tz.CL b fun e=>hb (e▸tS)) tz.size tz.rest;exact⟨_,hl.symm,DC ho vx hu hi (by rw[td.1,←ug,hlen,uC]) (W':={ W with w:=w' }) tn tT⟩
    ·exact hl.elim
   ·exact hl.elim
  ·exact hl.elim
 ·exact hl.elim
theorem Gr(hc:Dr P cx)(h:AW E s a.tmps W)(hv:Ad s v){t:TypeId}{x y:Operand}(ho:o.op=.store t x y){q:LA}{g:Bool}{as:List LA}{ty:Ty}{fs wt:List Wr}(ht:cx.ty t=some ty)(h1:AR s W q (a.eval x))(h2:Ba s W (.v g as) (a.eval y))(vt:v∉(AV.v g as).AG)
  (hl:(GO cx v s o.dst q ty.ls.kinds as fs).leads wt):∃ws,wt=fs++ws∧Be P E o a W.w (s.app ws):=by
 obtain⟨i,hi,uC,_⟩:=(hc t ty ht).info;unfold GO at hl;unfold St.GP at hl;split at hl
 ·rename_i r j AA;split at hl
  ·rename_i tZ;simp only[AAG,AAS,AAb,A9]at tZ;obtain⟨⟨hb,tc⟩,uP⟩:=tZ;obtain⟨bs,us,os,hl,vR,wX,ur,wP,uj,vH,vl⟩:=Ej (v:=v) h (g:=A5 g (a.eval y)) (fun j b hj=>⟨fun tS=>vt (AAI.2 ⟨b,AAN hj,tS⟩),CC h2 j b hj⟩) hl;rw[A9]at wX;split at hl
   ·rename_i vx;have hl:_=wt:=hl
    have td:=Bu h2 fun j b hj=>by
     have tX:j<bs.length:=by rw[vR];exact(AAH.1 hj).1
     obtain⟨u,hu,hr⟩:=vl j bs[j] (AAF tX);exact⟨u,hu,hr.1⟩
    obtain⟨_,uR⟩:=h.roots r;rw[AAK hb]at uR;obtain⟨_,arr,T,fr,hh,tw,xQ,_⟩:=uR
    have uV:∀u∈(a.eval y).cells.toList,u.oneCell'=true:=by
     intro u hu;obtain⟨m,hm⟩:=AAp hu;have tX:m<bs.length:=by rw[vR,←td.1];simpa using(AAH.1 hm).1
     obtain⟨u',tu,hr⟩:=vl m bs[m] (AAF tX);have:=td.2 m (by omega);rw[tu]at this;have h3:(a.eval y).cells[m]?=some u:=by simpa using hm
     rw[this]at h3;injection h3 with h3;subst h3;exact hr.1
    obtain⟨w',tn,tz⟩:=DY (P:=P) (o:=j) (a.eval y).cells.toList hh tw (by simp[td.1];omega) uV
    obtain⟨W',vL,tT⟩:=h.KI hv (j:=j) hb (us:=us) (bs:=bs) (os:=os) (cells:=(a.eval y).cells.toList) (by simp[td.1,vR]) (by omega)
     (fun m b hm=>by
      obtain⟨u,hu,ht⟩:=vl m b hm;refine⟨u,?_,ht⟩;have tX:m<bs.length:=(AAH.1 hm).1;have:=td.2 m (by omega);rw[hu]at this;simpa using this) uj (fun m hm=>vH m (by omega)) hh tz
    refine⟨_,hl.symm,?_⟩;exact DC ho vx (h1 hb tc) hi (by rw[td.1,wX,uC]) (by rw[vL];exact tn) tT
   ·exact hl.elim
  ·exact hl.elim
 ·rename_i c;split at hl
  ·rename_i uZ;obtain⟨vs,hl,ug,xl,vb⟩:=Es h (g:=A5 g (a.eval y)) (fun j b hj=>CC h2 j b hj) hl
   have td:=Bu h2 fun j b hj=>by
    have tX:j<vs.length:=by rw[ug];exact(AAH.1 hj).1
    obtain⟨u,hu,hr⟩:=vb j vs[j] (AAF tX);exact⟨u,hu,L.Dk _ hr⟩
   have hlen:vs.length=ty.ls.n:=by rw[←A9,←xl];simp
   have xh:Plain W.w W.fz vs (a.eval y).cells.toList:=by
    refine⟨by simp[td.1,ug],fun m lv hm=>?_⟩
    have yK:Bz lv.l=false:=by
     have wJ:lv.l∈ty.ls.kinds:=by rw[←xl];exact AAs.2 ⟨lv,AAN hm,rfl⟩
     simpa using AAU.1 uZ _ wJ
    obtain⟨u,hu,hr⟩:=vb m lv hm;refine⟨yK,u,?_,fun d w' tW=>(L.AZ lv.l yK hr).1⟩;have tX:m<as.length:=by rw[←ug];exact(AAH.1 hm).1
    have:=td.2 m tX;rw[hu]at this;simpa using this
   have uV:∀u∈(a.eval y).cells.toList,u.oneCell'=true:=by
    intro u hu;obtain⟨m,hm⟩:=AAp hu;have tX:m<vs.length:=by rw[←xh.1];exact(AAH.1 hm).1
    obtain⟨_,u',tu,hr⟩:=xh.2 m vs[m] (AAF tX);rw[hm]at tu;injection tu with tu;subst tu
    exact L.Dk _ (hr 0 W.w W.fz)
   split at hl
   ·rename_i vk vq;split at hl
    ·rename_i vx;have hl:_=wt:=hl;unfold St.KE at vq;split at vq
     ·rename_i AA gen t0 e0 xs0 d0 tR;split at vq
      ·rename_i tZ;simp only[AAG,AAa,AAS,AAb]at tZ;obtain⟨⟨⟨rfl,hg⟩,hd0⟩,wC⟩:=tZ;split at vq
       ·rename_i f hf;injection vq with vq
        subst vq;obtain⟨q,i0,off,h',e',ad,n,k,hs,uJ,u5,vV,xu,hu⟩:=h1 gen _ _ _ _ tR hg;obtain⟨u',tu,te⟩:=(h.roots c.r).row tR;rw[uJ]at tu;injection tu with tu;subst tu
        have xN:∀b∈W.om (.lf c.r c.j),¬W.fz b:=fun b hb=>(h.sep.own _ b hb).1;obtain⟨hsp,arr,T,fr,hh,tw,vu,tS,xF⟩:=Ku xh xu c.p q hf te (h.sep.nodup _) xN hd0 wC hs u5;obtain⟨w',tn,tz⟩:=DY (P:=P) (o:=ad.off+(i0*e'.n+off)) (a.eval y).cells.toList hh tw vu uV;have tT:=h.JS hv tR uJ (xF w' tz) (fun b hb=>tz.CL b fun e=>hb (e▸tS)) tz.size tz.rest;exact⟨_,hl.symm,DC ho vx hu hi (by rw[td.1,←ug,hlen,uC]) (W':={ W with w:=w' }) tn tT⟩
       ·cases vq
      ·cases vq
     ·cases vq
    ·exact hl.elim
   ·exact hl.elim
  ·split at hl
   ·rename_i p0 zj;split at hl
    ·exact LO hc h hv ho ht h1 h2 ⟨p0,zj⟩ hl
    obtain⟨bs,us,os,hl,vR,wX,ur,wP,uj,vH,vl⟩:=Ej (v:=v) h (g:=A5 g (a.eval y)) (fun j b hj=>⟨fun tS=>vt (AAI.2 ⟨b,AAN hj,tS⟩),CC h2 j b hj⟩) hl;rw[A9]at wX;split at hl
    ·rename_i uZ;split at hl
     ·rename_i lvs wk;have wk:bs.mapM FK=some lvs:=wk;have hlen:lvs.length=bs.length:=J3 wk;split at hl
      ·rename_i AA gen t0 e0 xs0 tR;split at hl
       ·rename_i tc;have tc:AA=c.AA:=by simpa using tc
        subst tc;split at hl
        ·rename_i f hf;split at hl
         ·rename_i vx;have hl:_=wt:=hl
          have td:=Bu h2 fun j b hj=>by
           have tX:j<bs.length:=by rw[vR];exact(AAH.1 hj).1
           obtain⟨u,hu,hr⟩:=vl j bs[j] (AAF tX);exact⟨u,hu,hr.1⟩
          have uV:∀u∈(a.eval y).cells.toList,u.oneCell'=true:=by
           intro u hu;obtain⟨m,hm⟩:=AAp hu;have tX:m<bs.length:=by rw[vR,←td.1];simpa using(AAH.1 hm).1
           obtain⟨u',tu,hr⟩:=vl m bs[m] (AAF tX);have:=td.2 m (by omega);rw[tu]at this;have h3:(a.eval y).cells[m]?=some u:=by simpa using hm
           rw[this]at h3;injection h3 with h3;subst h3;exact hr.1
          obtain⟨q,i0,off,h',e',ad,n,k,hs,uJ,u5,vV,xu,hu⟩:=h1 gen _ _ _ _ tR (.inl (by rw[zj];simp));rw[zj]at hs;simp only[Ai,Option.some.injEq,Prod.mk.injEq]at hs;obtain⟨rfl,rfl,rfl⟩:=hs;obtain⟨rfl,rfl⟩:=u5;obtain⟨u',tu,te⟩:=(h.roots c.r).row tR;rw[uJ]at tu;injection tu with tu;subst tu
          have zX:(c.r,c.j)∉us:=fun tS=>by have:=AAU.1 uZ _ tS;simp at this
          have xU:∀m,∀b∈os m,∃r j,(r,j)∈us∧b∈W.om (.lf r j):=by
           intro m b hb;by_cases hm:m<bs.length
           ·obtain⟨u,_,ht⟩:=vl m bs[m] (AAF hm);exact ht.2.2.1 b hb
           ·rw[vH m (by omega)]at hb;cases hb
          have hk:GR os (W.om (.lf c.r c.j)):=by
           refine⟨fun m=>?_,uj,fun m b hb th=>?_⟩
           ·by_cases hm:m<bs.length
            ·obtain⟨u,_,ht⟩:=vl m bs[m] (AAF hm);exact ht.2.1
            ·rw[vH m (by omega)];exact AAL
           ·obtain⟨r,j,tS,wA⟩:=xU m b hb;exact h.sep.A4 (.lf r j) (.lf c.r c.j) (fun e=>by injection e with e1 e2;subst e1;subst e2;exact zX tS) b wA th
          have hkz:∀m,∀b∈os m,¬W.fz b:=fun m b hb=>by obtain⟨r,j,_,wA⟩:=xU m b hb;exact(h.sep.own _ b wA).1
          have xN:∀b∈W.om (.lf c.r c.j),¬W.fz b:=fun b hb=>(h.sep.own _ b hb).1
          have hp:∀(m:Nat)(lv:Lv),lvs[m]?=some lv→∃u,(a.eval y).cells.toList[m]?=some u∧lv.l.rd 2 W.w W.fz u lv.x (os m):=by
           intro m lv hm;have tX:m<bs.length:=by rw[←hlen];exact(AAH.1 hm).1
           obtain⟨y',wN,wy⟩:=Fv wk m bs[m] (AAF tX);rw[hm]at wy;injection wy with wy;subst wy
           obtain⟨u,hu2,ht⟩:=vl m bs[m] (AAF tX);have:=td.2 m (by omega);rw[hu2]at this;exact⟨u,by simpa using this,Ib ht wN⟩
          rw[zj]at hf;obtain⟨hsp,arr,T,fr,hh,tw,vu,tS,o',hnd',ue,xF⟩:=MJ (by simp[td.1];omega) hp (fun m hm=>vH m (by omega)) xu hf te (h.sep.nodup _) xN hk hkz;obtain⟨w',tn,tz⟩:=DY (P:=P) (o:=ad.off+(p0.1*e'.n+p0.2)) (a.eval y).cells.toList hh tw vu uV;have tT:=h.Lk hv tR uJ zX tS (fun b hb=>tz.CL b hb) tz.size tz.rest hnd' (fun b hb=>(ue b hb).imp id fun⟨m,hb⟩=>xU m b hb) (xF w' tz);refine⟨_,hl.symm,?_⟩;exact DC ho vx hu hi (by rw[td.1,wX,uC]) (W':=Ic W w' c.r c.j o' us) tn tT
         ·exact hl.elim
        ·exact hl.elim
       ·exact hl.elim
      ·exact hl.elim
     ·exact hl.elim
    ·exact hl.elim
   ·exact hl.elim
 ·exact hl.elim
end
end Go.Ev
namespace Go.Ev
theorem NQ{s:St}{r:Nat}(h:s.ro.length≤r):(s.root r).ls=[]:=by have:s.root r=dead:=Az _ h;rw[this];rfl
theorem DR(s:St)(r j:Nat):∀(rs:List Nat)(a:LA),(a=s.leaf r j∨a=BE (s.leaf r j))→
  (rs.map fun r=>(⟨r,0,(s.root r).ls.map BE⟩:Up)).foldl (fun a u=>if r=u.r∧u.lo≤j∧j<u.lo+u.news.length then nth .bad u.news (j-u.lo)else a) a=if r∈rs then BE (s.leaf r j)else a
 | [],a,ha=>by simp
 |x::rs,a,ha=>by
  simp only[ABK,List.foldl_cons,ABB,AAW,Nat.sub_zero];by_cases hx:r=x
  ·subst hx;rw[AAK AAe]
   have hstep:(if r=r∧0≤j∧j<(s.root r).ls.length then nth .bad ((s.root r).ls.map BE) j else a)=BE (s.leaf r j)∨(s.leaf r j=.bad∧(if r=r∧0≤j∧j<(s.root r).ls.length then nth .bad ((s.root r).ls.map BE) j else a)=a):=by
    by_cases hj:j<(s.root r).ls.length
    ·left;rw[AAK ⟨rfl,Nat.zero_le _,hj⟩];unfold St.leaf;rw[Ae,Ae,AAX,AAF hj];rfl
    ·right;exact⟨Az _ (AA1 hj),AAM fun hh=>hj hh.2.2⟩
   rcases hstep with h1|⟨h1,h2⟩
   ·rw[h1,DR s r j rs _ (.inr rfl)];split<;>rfl
   ·rw[h2];have za:a=.bad:=by rcases ha with ha|ha<;>rw[ha,h1]<;>rfl
    rw[DR s r j rs a ha,za,h1];split<;>rfl
  ·rw[AAM (fun hh=>hx hh.1),DR s r j rs a ha];simp[hx]
section
variable {P:Program}{E:Cw}{s:St}{W:Wd}{v:Nat}{tm:Array Value}{cx:Cx}
theorem Gc:∀ {rs:List Nat} {ws:List Wr},As cx s rs=some ws→ws=El ((rs.filter fun r => !s.B8 r).map fun r=>⟨r,0,(s.root r).ls.map BE⟩)
 | [],ws,h=>by injection h with h;exact h.symm
 |r::rs,ws,h=>by
  simp only[As]at h;split at h
  ·cases h
  ·split at h
   ·rename_i vk wx;injection h with h;subst h
    rw[Gc wx];unfold DB;cases hs:s.B8 r with
    |true=>grind
    |false=>rw[List.filter_cons_of_pos (by simp[hs])];rfl
   ·cases h
theorem Kl{r:Nat}(h:s.B8 r=true)(j:Nat):BE (s.leaf r j)=s.leaf r j:=by
 unfold St.leaf;rw[Ae];cases hq:(s.root r).ls[j]? with
 |none=>rfl
 |some a=>
  have:=AAU.1 h a (AAN hq);cases a with
  |arr v g t e xs d=>cases d with
   |zero=>rfl
   |succ d=>cases this
  |_=>rfl
structure JZ(s s':St)(W W':Wd)(rs:List Nat):Prop where
 same:Jc s s'
 w:W'.w=W.w
 cv:W'.cv=W.cv
 bk:W'.bk=W.bk
 leaf:∀r j,r∉rs→s'.leaf r j=s.leaf r j
 OR:∀r j,s'.leaf r j=s.leaf r j∨s'.leaf r j=BE (s.leaf r j)
 om:∀r j,r∉rs→W'.om (.lf r j)=W.om (.lf r j)
 O4:∀r,W'.om (.AX r)=W.om (.AX r)
 sub:∀k,∀b∈W'.om k,b∈W.om k
 up:∀b,W.fz b→W'.fz b
 fz:∀b,W'.fz b→Seen W rs b
theorem Eu(h:AW E s tm W)(hv:Ad s v){rs:List Nat}{ws:List Wr}(hf:As cx s rs=some ws):∃W',AW E (s.app ws) tm W'∧JZ s (s.app ws) W W' rs∧∀b,Seen W rs b→W'.fz b:=by
 rw[Gc hf]
 obtain⟨tU,tR⟩:=IN ((rs.filter fun r => !s.B8 r).map fun r=>(⟨r,0,(s.root r).ls.map BE⟩:Up)) s fun u hu=>by
  obtain⟨r,_,rfl⟩:=AAs.1 hu;refine⟨?_,by simp⟩;rcases AAo r s.ro.length with tX|uh
  ·grind
  ·left;simp[NQ uh]
 generalize s.app (El ((rs.filter fun r => !s.B8 r).map fun r=>(⟨r,0,(s.root r).ls.map BE⟩:Up)))=s' at tU tR
 have tR:∀r j,s'.leaf r j=if r∈rs then BE (s.leaf r j)else s.leaf r j:=fun r j=>by
  rw[tR,DR s r j _ _ (.inl rfl)];by_cases hr:r∈rs
  ·rw[AAK hr];cases v7:s.B8 r with
   |true=>rw[AAM fun hm=>by have:=(List.mem_filter.1 hm).2;simp[v7]at this,Kl v7]
   |false=>rw[AAK (List.mem_filter.2 ⟨hr,by simp[v7]⟩)]
  grind
 let W':Wd:={
  w:=W.w
  fz:=Seen W rs
  cv:=W.cv
  bk:=W.bk
  om:=fun k=>match k with
   | .lf r j=>if r∈rs then []else W.om (.lf r j)
   |k=>W.om k }
 have homf:∀r j,W'.om (.lf r j)=if r∈rs then []else W.om (.lf r j):=fun _ _=>rfl
 have uX:∀k,∀b∈W'.om k,b∈W.om k∧∀r∈rs,∀j,k≠.lf r j:=by
  intro k b hb;cases k with
  |lf r j=>
   grind
  |AX r=>grind
  |fl k=>grind
 have va:Sep E W':={
  nodup:=by
   intro k;cases k with
   |lf r j=>rw[homf];split;exact AAL;exact h.sep.nodup _
   |AX r=>exact h.sep.nodup _
   |fl k=>exact h.sep.nodup _
  A4:=fun k k' tj b hb th=>h.sep.A4 k k' tj b (uX k b hb).1 (uX k' b th).1
  own:=fun k b hb=>by
   obtain⟨h1,h2⟩:=uX k b hb;obtain⟨q1,q2,q3⟩:=h.sep.own k b h1;refine⟨?_,q2,q3⟩
   rintro (hz|⟨r,hr,j,hz⟩)
   ·exact q1 hz
   ·exact h.sep.A4 k (.lf r j) (h2 r hr j) b h1 hz
  fz:=fun b hb=>by
   rcases hb with hz|⟨r,hr,j,hz⟩
   ·exact h.sep.fz b hz
   ·obtain⟨_,q2,q3⟩:=h.sep.own _ b hz;grind
  frame:=h.sep.frame
  size:=h.sep.size
  rest:=h.sep.rest }
 refine⟨W',?_,⟨tU,rfl,rfl,rfl,fun r j hr=>by grind,fun r j=>by grind,fun r j hr=>by grind,fun _=>rfl,fun k b hb=>(uX k b hb).1,fun b hb=>.inl hb,fun b hb=>hb⟩,fun b hb=>hb⟩;refine h.MK hv (W':=W') tU (fun r _=>r∈rs) (fun _=>False) (fun r j hr=>by grind) (fun _ _ _=>rfl) (fun _ _ hf=>hf.elim) (fun _=>rfl) (fun r j hr=>by grind) (fun _=>rfl) (fun _ _=>rfl) (fun b hb=>.inl hb) ?_ va ?_ (fun _ hf=>hf.elim)
 ·intro r j AA gen t e xs d hr hl tj;rw[tR,AAK hr]at hl;refine⟨fun hf=>hf,?_⟩;cases hq:s.leaf r j with
  |arr ver0 gen0 t0 e0 xs0 d0=>
   rw[hq]at hl;simp only[BE,LA.arr.injEq]at hl;grind
  |_=>rw[hq]at hl;simp[BE]at hl
 ·intro uH r j hr;obtain⟨h1,_⟩:=h.roots r;have h1:Aa s W (s.leaf r j) (W.cv r j) (W.om (.lf r j)):=h1 j;have ug:=LA.Dy hv r j;rw[tR,AAK hr,homf,AAK hr];unfold Aa at h1 ⊢;cases hq:s.leaf r j with
  |arr ver0 gen0 t0 e0 xs0 d0=>
   rw[hq]at h1;obtain⟨u,hu,te⟩:=h1;exact⟨u,hu,te.freeze fun b hb=>hb.elim .inl fun hb=>.inr ⟨r,hr,j,hb⟩⟩
  |_=>
   rw[hq]at h1 ug;exact⟨rfl,fun u hu=>AR.Dq uH (ug.resolve_left (by simp[LA.CN])) (h1.2 u hu)⟩
inductive PT where
 |none
 |box (r:Nat)
 |row (l:List (Option (Loc×List Nat)))
def PT.EH:PT→List Tg
 | .none=>[]
 | .box r=>[(r,Option.none)]
 | .row l=>l.filterMap fun o=>o.map fun p=>(p.1.r,some p.1.j)
def NH(a b:Tg):Prop:=Tg.Dg b a=false
def Fc(s:St)(W:Wd)(d:Nat)(a:LA)(o:Option (Loc×List Nat))(lv:Lv)(y:Value):Prop:=
 (Bz lv.l=false∧o=none∧lv.l.rd d W.w W.fz y lv.x []) ∨
 ∃(c:Loc) (o':List Nat) (gen:Nat) (t:TypeId) (e:Ls) (xs:List e.D) (h:Value) (t':TypeId) (e':Ls) (ys:List e'.D),a=.ref c∧o=some (c,o')∧s.leaf c.r c.j=.arr c.AA gen t e xs d∧(c.p≠[]→d=2)∧W.cv c.r c.j=some h∧JW W.w c.p e h e' y∧
  lv=⟨.sl t' e',ys⟩∧AD e' d W.w W.fz y ys o'∧(∀b∈o',b∈W.om (.lf c.r c.j))∧o'.Nodup
def HD(s:St)(W:Wd)(pm:PM)(av:AV)(tg:PT)(u:Value)(vs:List Lv):Prop:=match pm with
 | .val g ls=>tg=.none∧Gs W.w (Seen W av.roots) g (ls.map fun l=>(l,0)) u vs fun _=>[]
 | .box ls=>∃r AA,av=.v false [.ptr r 0 AA]∧tg=.box r∧(s.root r).box=true∧(s.root r).ls.length=ls.length∧u=.pointer (some ⟨W.bk r,0,none⟩)∧vs.map (·.l)=ls.map (·.1)∧
   ∀(j:Nat)(p:L×Nat)(lv:Lv)(y:Value),ls[j]?=some p→vs[j]?=some lv→W.cv r j=some y→lv.l.rd p.2 W.w W.fz y lv.x (W.om (.lf r j))
 | .row g ls=>∃as l,av=.v g as∧tg=.row l∧as.length=ls.length∧l.length=ls.length∧vs.map (·.l)=ls.map (·.1)∧(match g with
   |true=>∃cs:Array Value,u=.agg cs∧cs.size=ls.length
   |false=>ls.length=1)∧∀(j:Nat)(p:L×Nat)(a:LA)(lv:Lv) (o:Option (Loc×List Nat)),ls[j]?=some p→as[j]?=some a→vs[j]?=some lv→l[j]?=some o→∃y,A5 g u j=some y∧Fc s W p.2 a o lv y
 | .fn f=>tg=.none∧u=.func (.func f) #[] #[]∧vs=[]
theorem Lf(h:AW E s tm W){β:Type}{t:β}{l:L}{d:Nat}{a:LA}{y:Value}(hy:AR s W a y){k:Lv→List Tg→Step β}(hl:(JU s l d a k).leads t):
  ∃(lv:Lv) (o:Option (Loc×List Nat)),(k lv (PT.row [o]).EH).leads t∧lv.l=l∧Fc s W d a o lv y:=by
 have plain:Bz l=false→((s.Av l a fun x=>k ⟨l,x⟩ []).leads t)→∃(lv:Lv) (o:Option (Loc×List Nat)),(k lv (PT.row [o]).EH).leads t∧lv.l=l∧Fc s W d a o lv y:=by intro hs hl;obtain⟨x,hl,hr⟩:=Bm h hy hl;exact⟨⟨l,x⟩,none,hl,rfl,.inl ⟨hs,rfl,(L.AZ l hs hr).1⟩⟩
 cases l with
 |int i=>exact plain rfl hl
 |bool=>exact plain rfl hl
 |str=>exact plain rfl hl
 |sl t0 e0=>
  cases a with
  |ref c=>
   replace hl:(if(match s.leaf c.r c.j with
    | .arr _ _ _ _ _ dd=>dd==d&&(isNil c.p||d==2)
    |_=>false)then s.Av (.sl t0 e0) (.ref c) fun x=>k ⟨.sl t0 e0,x⟩ [(c.r,some c.j)]else Step.none).leads t:=hl
   cases hq:s.leaf c.r c.j with
   |arr AA gen t1 e1 xs dd=>
    simp only[hq]at hl;split at hl
    ·rename_i tZ;simp only[AAG,AAa,AAS]at tZ;obtain⟨hdd,hp⟩:=tZ;subst hdd;have xg:c.p≠[]→dd=2:=fun tj=>hp.resolve_left fun hn=>tj (by cases hq:c.p<;>simp_all[isNil]);simp only[St.Av,St.content,hq]at hl;split at hl
     ·rename_i tc;simp only[AAG,AAa,AAS]at tc;obtain⟨tc,xV⟩:=tc;subst tc;have xV:c.p=[]∨gen=c.gen:=xV.imp (fun hn=>by cases hq:c.p<;>simp_all[isNil]) id;obtain⟨h',e',uJ,hn⟩:=hy gen _ _ _ _ hq xV;obtain⟨u',tu,te⟩:=(h.roots c.r).row hq;rw[uJ]at tu;injection tu with tu;rw[←tu]at te
      obtain⟨t',ys,o',hl,hrd',uX,ur⟩:=Fk c.p hl te hn xg (h.sep.nodup _);split at hl
      ·rename_i x hx;obtain⟨q1,q2⟩:=L.AH hx;cases q1;have q2:ys=x:=q2;subst q2;exact⟨⟨.sl t0 e0,ys⟩,some (c,o'),hl,rfl,.inr ⟨c,o',gen,t1,e1,xs,h',t0,e0,ys,rfl,rfl,hq,xg,uJ,hn,rfl,hrd',uX,ur⟩⟩
      ·exact hl.elim
     ·exact hl.elim
    ·exact hl.elim
   |_=>simp only[hq,ABC,if_false]at hl;exact hl.elim
  |_=>exact hl.elim
theorem IE(h:AW E s tm W){β:Type}{t:β}:∀(ls:List (L×Nat)) (as:List LA) (G:Nat→Option Value) {k:List Lv→List Tg→Step β},(∀(j:Nat)(b:LA),as[j]?=some b→∃y,G j=some y∧AR s W b y)→(Ey s ls as k).leads t→
  ∃(vs:List Lv) (l:List (Option (Loc×List Nat))),(k vs (PT.row l).EH).leads t∧as.length=ls.length∧l.length=ls.length∧vs.map (·.l)=ls.map (·.1)∧(PT.row l).EH.Pairwise NH∧
   ∀(j:Nat)(p:L×Nat)(a:LA)(lv:Lv) (o:Option (Loc×List Nat)),ls[j]?=some p→as[j]?=some a→vs[j]?=some lv→l[j]?=some o→∃y,G j=some y∧Fc s W p.2 a o lv y
 | [],[],G,k,hg,hl=>⟨[],[],hl,rfl,rfl,rfl,List.Pairwise.nil,fun j p a lv o hp=>by simp at hp⟩
 | [],_::_,G,k,hg,hl=>hl.elim
 |_::_,[],G,k,hg,hl=>hl.elim
 |(l,d)::ls,a::as,G,k,hg,hl=>by
  obtain⟨y,hy,yG⟩:=hg 0 a rfl;obtain⟨lv,o,hl,vg,hrl⟩:=Lf h yG hl;obtain⟨vs,lo,hl,h1,h2,h3,h4,h5⟩:=IE h ls as (fun j=>G (j+1)) (fun j b hj=>hg (j+1) b (by grind)) hl;split at hl
  ·exact hl.elim
  ·rename_i xN
   have he:(PT.row (o::lo)).EH=(PT.row [o]).EH++(PT.row lo).EH:=by
    cases o<;>simp[PT.EH]
   refine⟨lv::vs,o::lo,by rw[he];exact hl,by simp[h1],by simp[h2],by simp[vg,h3],?_,?_⟩
   ·rw[he,List.pairwise_append];refine⟨?_,h4,fun x hx z hz=>?_⟩
    ·cases o<;>simp[PT.EH]
    ·show Tg.Dg z x=false;cases hq:Tg.Dg z x with
     |false=>rfl
     |true=>exact absurd (AA6.2 ⟨x,hx,AA6.2 ⟨z,hz,hq⟩⟩) xN
   grind
theorem Jj(h:AW E s tm W){β:Type}{t:β}(r:Nat):∀(ls:List (L×Nat)) (as:List LA) (j:Nat) {k:List Lv→Step β},(∀i b,as[i]?=some b→s.leaf r (j+i)=b)→EW ls as=true→(s.data (ls.map (·.1)) (Ay r j as) k).leads t→
  ∃vs:List Lv,(k vs).leads t∧as.length=ls.length∧vs.map (·.l)=ls.map (·.1)∧∀(i:Nat)(p:L×Nat)(lv:Lv)(y:Value),ls[i]?=some p→vs[i]?=some lv→W.cv r (j+i)=some y→lv.l.rd p.2 W.w W.fz y lv.x (W.om (.lf r (j+i)))
 | [],[],j,k,hg,hd,hl=>⟨[],hl,rfl,rfl,fun i p lv y hp=>by simp at hp⟩
 | [],_::_,j,k,hg,hd,hl=>hl.elim
 |_::_,[],j,k,hg,hd,hl=>hl.elim
 |(l,m)::ls,b::as,j,k,hg,hd,hl=>by
  simp only[EW,AAG]at hd;obtain⟨zI,hd⟩:=hd;have hb:s.leaf r j=b:=hg 0 b rfl;obtain⟨h1,_⟩:=h.roots r;have h1:Aa s W (s.leaf r j) (W.cv r j) (W.om (.lf r j)):=h1 j;rw[hb]at h1
  have fin:∀(x:l.D),(s.data (ls.map (·.1)) (Ay r (j+1) as) fun vs=>k (⟨l,x⟩::vs)).leads t→(∀y,W.cv r j=some y→l.rd m W.w W.fz y x (W.om (.lf r j)))→∃vs:List Lv,(k vs).leads t∧(b::as).length=((l,m)::ls).length∧vs.map (·.l)=((l,m)::ls).map (·.1)∧
    ∀(i:Nat)(p:L×Nat)(lv:Lv)(y:Value),((l,m)::ls)[i]?=some p→vs[i]?=some lv→W.cv r (j+i)=some y→lv.l.rd p.2 W.w W.fz y lv.x (W.om (.lf r (j+i))):=by
   intro x hl hx;obtain⟨vs,hl,hlen,hm,vb⟩:=Jj h r ls as (j+1) (fun i b hi=>by have:=hg (i+1) b (by simpa using hi);grind) hd hl;refine⟨_,hl,by simp[hlen],by simp[hm],fun i p lv y hp vg hy=>?_⟩;cases i with
   |zero=>grind
   |succ i=>
    grind
  cases b with
  |arr AA gen t0 e xs d=>
   have hdm:d=m:=by simpa using zI
   subst hdm;have hl:(s.Av l (.ref ⟨r,j,AA,gen,[]⟩) fun x=>s.data (ls.map (·.1)) (Ay r (j+1) as) fun vs=>k (⟨l,x⟩::vs)).leads t:=hl;simp only[St.Av,St.content,hb]at hl;rw[AAK (by simp[isNil])]at hl;simp only[OQ]at hl;split at hl
   ·rename_i x hx;obtain⟨q1,q2⟩:=L.AH hx;subst q1;have q2:xs=x:=q2;subst q2;refine fin xs hl fun y hy=>?_;obtain⟨u,hu,te⟩:=h1;rw[hy]at hu;injection hu with hu;subst hu
    exact te
   ·exact hl.elim
  |sc l0 x0=>
   have hl:(s.Av l (.sc l0 x0) fun x=>s.data (ls.map (·.1)) (Ay r (j+1) as) fun vs=>k (⟨l,x⟩::vs)).leads t:=hl;simp only[St.Av]at hl;split at hl
   ·rename_i x hx;obtain⟨q1,q2⟩:=L.AH hx;subst q1;have q2:x0=x:=q2;subst q2;refine fin x0 hl fun y hy=>?_;obtain⟨ho,te⟩:=h1;have te:l0.rd 0 W.w W.fz y x0 []:=te y hy;rw[ho];simp only[AAa,AAT,AAS]at zI;rcases zI with yK|h0
    ·exact(L.AZ l0 yK te).1
    grind
   ·exact hl.elim
  |_=>cases zI
theorem A8:∀(ms:List Nat)(t:Nat),has ms t=true↔t∈ms
 | [],t=>by simp[has]
 |m::ms,t=>by show(m==t||has ms t)=true↔_;rw[AAa,A8 ms t,AAZ,AAS];grind
theorem I7(h:AW E s tm W){β:Type}{t:β}:∀(ps:List PM)(uI:List AV)(us:List Value) {k:List Lv→List Tg→Step β},us.length=uI.length→(∀(i:Nat)(av:AV)(u:Value),uI[i]?=some av→us[i]?=some u→Ba s W av u)→(Am s ps uI k).leads t→
  ∃(tV:List (List Lv)) (T:List PT),(k tV.flatten (T.flatMap PT.EH)).leads t∧uI.length=ps.length∧tV.length=ps.length∧T.length=ps.length∧(T.flatMap PT.EH).Pairwise NH∧
   ∀(i:Nat)(pm:PM)(av:AV)(u:Value)(vs:List Lv)(tg:PT),ps[i]?=some pm→uI[i]?=some av→us[i]?=some u→tV[i]?=some vs→T[i]?=some tg→HD s W pm av tg u vs
 | [],[],us,k,hlen,zb,hl=>⟨[],[],hl,rfl,rfl,rfl,List.Pairwise.nil,fun i pm av u vs tg hp=>by simp at hp⟩
 | [],_::_,us,k,hlen,zb,hl=>by simp[Am]at hl;exact hl.elim
 |pm::ps,[],us,k,hlen,zb,hl=>by cases pm<;>simp[Am]at hl<;>exact hl.elim
 |pm::ps,av::uI,[],k,hlen,zb,hl=>by simp at hlen
 |pm::ps,av::uI,u::us,k,hlen,zb,hl=>by
  have hu:Ba s W av u:=zb 0 av u rfl rfl;have hav':∀(i:Nat)(av:AV)(u:Value),uI[i]?=some av→us[i]?=some u→Ba s W av u:=fun i zx u' h1 h2=>zb (i+1) zx u' (by grind) (by grind);have uT:us.length=uI.length:=by simpa using hlen
  have fin:∀(tg:PT)(vs:List Lv) {k':List Lv→List Tg→Step β},(Am s ps uI k').leads t→HD s W pm av tg u vs→
    (∀(tV:List Lv)(T:List PT),(k' tV (T.flatMap PT.EH)).leads t→(k (vs++tV) (tg.EH++T.flatMap PT.EH)).leads t∧∀x∈tg.EH,∀z∈T.flatMap PT.EH,NH x z)→tg.EH.Pairwise NH→
    ∃(tV:List (List Lv)) (T:List PT),(k tV.flatten (T.flatMap PT.EH)).leads t∧(av::uI).length=(pm::ps).length∧tV.length=(pm::ps).length∧T.length=(pm::ps).length∧(T.flatMap PT.EH).Pairwise NH∧
     ∀(i:Nat)(xo:PM)(zx:AV)(u':Value)(vs:List Lv)(tg:PT),(pm::ps)[i]?=some xo→(av::uI)[i]?=some zx→(u::us)[i]?=some u'→tV[i]?=some vs→T[i]?=some tg→HD s W xo zx tg u' vs:=by
   intro tg vs k' hl uU hk hpw;obtain⟨tV,T,hl,h1,h2,h3,h4,h5⟩:=I7 h ps uI us uT hav' hl;obtain⟨hl,um⟩:=hk _ _ hl;refine⟨vs::tV,tg::T,by grind,by simp[h1],by simp[h2],by simp[h3],?_,?_⟩
   ·grind
   ·grind
  cases pm with
  |val g ls=>
   cases av with
   |Dp vs=>simp only[Am]at hl;exact hl.elim
   |bx as=>simp only[Am]at hl;exact hl.elim
   |v g' as=>
    simp only[Am]at hl;split at hl
    ·rename_i hg;have hg:g=g':=by simpa using hg
     subst hg;have hu:E4 s W g as u:=hu;obtain⟨vs,hl,ug,xl,vb⟩:=Es h (g:=A5 g u) (fun j b hj=>CC hu j b hj) hl;have hll:as.length=ls.length:=by rw[←ug,←xl];simp
     refine fin .none vs hl ⟨rfl,by rw[xl];simp[Function.comp_def],?_,?_⟩ (fun tV T hk=>⟨hk,fun x hx=>by cases hx⟩) List.Pairwise.nil
     ·cases g with
      |true=>obtain⟨cs,wF,uC,_⟩:=hu;grind
      |false=>
       cases as with
       |nil=>exact hu.elim
       |cons b bs=>cases bs with
        |nil=>grind
        |cons=>exact hu.elim
     ·intro j p lv hp vg;obtain⟨y,hy,hr⟩:=vb j lv vg;rw[AAX]at hp;cases hq:ls[j]? with
      |none=>grind
      |some l=>
       rw[hq]at hp;injection hp with hp;subst hp
       exact⟨y,hy,hr⟩
    ·exact hl.elim
  |box ls=>
   unfold Am at hl;split at hl<;>try exact hl.elim
   ·rename_i e1 _;cases e1
   ·rename_i e1 _;cases e1
   ·rename_i yN zB r AA wb e1 e2;injection e1 with e1 e1';injection e1 with e1;subst e1;subst e1'
    injection e2 with e2 e2';subst e2;subst e2'
    split at hl
    ·rename_i tZ;simp only[AAG,AAS]at tZ;obtain⟨⟨hb,tc⟩,yZ⟩:=tZ;obtain⟨vs,hl,wZ,xl,vb⟩:=Jj h r ls (s.root r).ls 0 (fun i b hi=>by unfold St.leaf;rw[AAW,Ae,hi];rfl) yZ hl;refine fin (.box r) vs hl ⟨r,AA,rfl,rfl,hb,wZ,hu hb tc,xl,fun j p lv y hp vg hy=>?_⟩ ?_ (by simp[PT.EH])
     ·have:=vb j p lv y hp vg (by rw[AAW];exact hy);rwa[AAW]at this
     ·intro tV T hk;split at hk
      ·exact hk.elim
      ·rename_i xc;refine⟨by simpa[PT.EH]using hk,fun x hx z hz=>?_⟩;simp only[PT.EH,AA8]at hx;subst hx;show Tg.Dg z (r,none)=false;cases hq:Tg.Dg z (r,none)with
       |false=>rfl
       |true=>exact absurd (AA6.2 ⟨z,hz,hq⟩) xc
    ·exact hl.elim
   all_goals grind
  |row g ls=>
   cases av with
   |Dp vs=>simp only[Am]at hl;exact hl.elim
   |bx as=>simp only[Am]at hl;exact hl.elim
   |v g' as=>
    simp only[Am]at hl;split at hl
    ·rename_i hg;have hg:g=g':=by simpa using hg
     subst hg;have hu:E4 s W g as u:=hu;obtain⟨vs,l,hl,h1,h2,h3,h4,h5⟩:=IE h ls as (A5 g u) (fun j b hj=>CC hu j b hj) hl;refine fin (.row l) vs hl ⟨as,l,rfl,rfl,h1,h2,h3,?_,h5⟩ ?_ h4
     ·cases g with
      |true=>obtain⟨cs,wF,uC,_⟩:=hu;grind
      |false=>
       cases as with
       |nil=>exact hu.elim
       |cons b bs=>cases bs with
        |nil=>grind
        |cons=>exact hu.elim
     ·intro tV T hk;split at hk
      ·exact hk.elim
      ·rename_i xN;refine⟨hk,fun x hx z hz=>?_⟩;show Tg.Dg z x=false;cases hq:Tg.Dg z x with
       |false=>rfl
       |true=>exact absurd (AA6.2 ⟨x,hx,AA6.2 ⟨z,hz,hq⟩⟩) xN
    ·exact hl.elim
  |fn f=>
   unfold Am at hl;split at hl<;>try exact hl.elim
   ·grind
   ·grind
   ·grind
   ·grind
   ·rename_i f' zB g wb e1 e2;injection e1 with e1 e1';injection e1 with q1;subst q1;subst e1'
    injection e2 with e2 e2';subst e2;subst e2'
    split at hl
    ·rename_i hfg;have hfg:f=g:=by simpa using hfg
     subst hfg;exact fin .none [] hl ⟨rfl,hu,rfl⟩ (fun tV T hk=>⟨by simpa[PT.EH]using hk,fun x hx=>by cases hx⟩) List.Pairwise.nil
    ·exact hl.elim
end
end Go.Ev
namespace Go.Ev
section
variable {P:Program}{E:Cw}{s:St}{W:Wd}{o:Oper}{a:Act}{ws:List Wr}{cx:Cx}{v:Nat}{tm:Array Value}
theorem JZ.Hz{s':St}{W':Wd}{rs:List Nat}(h:JZ s s' W W' rs)(hv:Ad s v):Ad s' v:=by
 refine⟨fun t=>?_,fun r j=>?_,hv.2.2⟩
 ·have:s'.slot t=s.slot t:=by show nth _ s'.sl t=_;rw[h.same.sl];rfl
  rw[this];exact hv.1 t
 ·rcases h.OR r j with e|e
  ·rw[e];exact hv.2.1 r j
  ·rw[e];have:=hv.2.1 r j;cases hq:s.leaf r j with
   |arr=>exact .inl rfl
   |_=>rw[hq]at this;exact this
theorem MW{s s':St}(h:s'.sl=s.sl)(x:Operand):s'.Ap x=s.Ap x:=by
 cases x with
 |tmp t=>show nth _ s'.sl t=nth _ s.sl t;rw[h]
 |const c=>cases c<;>rfl
 |global g=>rfl
 |func f=>rfl
theorem MV(hc:Dr P cx)(hft:Lt P cx.env)(h:AW E s a.tmps W)(hv:Ad s v){t:TypeId}{x y:Operand}(ho:o.op=.store t x y)(hl:(AB cx v o s).leads ws):Be P E o a W.w (s.app ws):=by
 simp only[AB,ho]at hl;have h1:=Ac h x;have h2:=BF h y;have vt:=Fx hv y;split at hl
 ·rename_i ty g as ht hy;rw[hy]at h2 vt;split at hl
  ·obtain⟨ws0,rfl,hg⟩:=Gr hc h hv ho ht h1 h2 vt hl;exact hg
  ·rename_i r rs hn;split at hl
   ·rename_i fs ve;obtain⟨W1,xz,fr,_⟩:=Eu h hv ve;have e1:(s.app fs).Ah x=s.Ah x:=by unfold St.Ah;rw[MW fr.same.sl]
    have e2:(s.app fs).Ap y=s.Ap y:=MW fr.same.sl y;have k1:=Ac xz x;have k2:=BF xz y;rw[e1]at k1;rw[e2,hy]at k2;obtain⟨ws0,rfl,hg⟩:=Gr hc xz (fr.Hz hv) ho ht k1 k2 vt hl;rw[fr.w]at hg;rw[BC];exact hg
   ·exact hl.elim
 ·rename_i p ht;unfold II at hl;generalize hy:s.Ap y=p at hl;split at hl
  ·rename_i g ps qs;split at hl
   ·rename_i hf;split at hl
    ·rename_i r j AA hx;split at hl
     ·rename_i vx;split at hl
      ·rename_i tZ;simp only[AAG,AAS,AAb]at tZ;obtain⟨⟨hb,tc⟩,uP⟩:=tZ;have hl:_=ws:=hl;obtain⟨i,z,c,hi,uC,_⟩:=hft t hf;rw[hy]at h2 vt;have h2:AR s W (.EI g ps qs) (a.eval y):=h2;rw[hx]at h1;have uV:(a.eval y).oneCell'=true:=by obtain⟨bs,hu,_⟩:=h2;rw[hu];rfl
       have td:=Er uV;obtain⟨_,uR⟩:=h.roots r;rw[AAK hb]at uR;obtain⟨_,arr,T,fr,hh,tw,xQ,_⟩:=uR;obtain⟨w',tn,tz⟩:=DY (P:=P) (o:=j) (a.eval y).cells.toList hh tw (by rw[td];simp;omega) (by rw[td];intro u hu;simp at hu;subst hu;exact uV)
       obtain⟨W',vL,tT⟩:=h.KI hv (j:=j) hb (us:=[]) (bs:=[.EI g ps qs]) (os:=fun _=>[]) (cells:=(a.eval y).cells.toList) (by rw[td];rfl) (by simpa using uP)
        (fun m b hm=>by
         cases m with
         |zero=>
          simp at hm;subst hm;refine⟨a.eval y,by rw[td];rfl,uV,AAL,(fun b hb=>by cases hb),rfl,h2,fun tS=>vt ?_⟩;simpa[AV.AG]using tS
         |succ m=>simp at hm) (fun _ _ _ b hb=>by cases hb) (fun m hm=>rfl) hh tz
       have wx:ws=gone []++BA r j [.EI g ps qs]:=hl.symm;rw[wx];exact DC ho vx (h1 hb tc) hi (by rw[td,uC];rfl) (by rw[vL];exact tn) tT
      ·exact hl.elim
     ·exact hl.elim
    ·exact hl.elim
   ·exact hl.elim
  ·exact hl.elim
 ·exact hl.elim
end
end Go.Ev
